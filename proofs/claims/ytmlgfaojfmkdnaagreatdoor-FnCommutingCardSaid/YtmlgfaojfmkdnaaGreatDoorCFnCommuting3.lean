/-
  Contracts by shapes: what they say; reading values by shapes. Conditions: those of each theorem.
-/
import Derived.Test.YtmlgfaojfmkdnaaGreatDoorCFnCommuting2
namespace Go.Proofs.YtmlgfaojfmkdnaaGreatDoor.E
open Go Go.RowKit
set_option linter.unusedVariables false
set_option linter.unusedSimpArgs false
section
variable {C:Cx} {cf:Cfg} {st st':St} {a:Act} {w w':World} {G G':Gh} {us:U}
theorem frz_run (I:InvM C st w G) {S:Nat->Prop} (hS:∀ b,Fz st G w b->S b) (hSl:∀ b,S b->b < w.heap.size):∀ (n:Nat) (T:Ty) (v:SV) {x:den T} {ts:List (Nat × Nat)} {cs:List Value},frzS st n T v=some (x,ts)->SX C.P st G w (Fz st G w) v false cs →
    (∀ p ∈ ts,RT st p)/\((∀ p ∈ ts,∀ b ∈ G.bl (rk p.1),S b)->RX C.P T false w S cs x)/\valS v cs=valOf T cs
  | 0,T,v,x,ts,cs,h,hs=>by cases h
  | n + 1,T,v,x,ts,cs,h,hs=>by
    cases v with
    | val T' x0 =>
      have h:(if h:T'=T then some ((h ▸ x0:den T),([]:List (Nat × Nat))) else Option.none)=some (x,ts):=by cases T <;> exact h
      split at h
      case isFalse=>cases h
      rename_i e;subst e
      cases h
      exact ⟨fun p hp=>(by cases hp),fun _=>RX_congr C.P T' false (Nat.le_refl _) (fun b hb _=>⟨hS b hb,rfl⟩) hSl hs,rfl⟩
    | nil =>
      cases T <;> try (cases h;done)
      rename_i e
      have h:some (([]:List (den e)),([]:List (Nat × Nat)))=some (x,ts):=h
      cases h
      have hs:cs=[.slice none 0 0]:=hs
      subst hs
      exact ⟨fun p hp=>(by cases hp),fun _=>⟨none,0,0,rfl,rfl,Nat.le_refl _,.inl rfl⟩,rfl⟩
    | ref t g e1 =>
      cases T <;> try (cases h;done)
      rename_i e
      have h:(match st (rk t) with
        | .root g' _ e' l=>if h:e'=e then bif Nat.beq g g' then some ((h ▸ l:List (den e)),[(t,g)]) else Option.none else Option.none
        | _=>Option.none)=some (x,ts):=h
      split at h
      case h_2=>cases h
      rename_i g' hh e' l hr
      split at h
      case isFalse=>cases h
      rename_i e2;subst e2
      cases hb:Nat.beq g g'
      · rw [hb] at h;cases h
      rw [hb] at h
      have hg:g=g':=Nat.eq_of_beq_eq_true hb
      subst hg
      simp only [cond_true,Option.some.injEq,Prod.mk.injEq] at h
      obtain ⟨rfl,rfl⟩:=h
      obtain ⟨xv,rfl,_,_,hx⟩:=hs
      obtain ⟨rfl,_⟩:=hx _ _ _ hr
      exact ⟨fun p hp=>by simp only [List.mem_singleton] at hp;subst hp;exact ⟨hh,e',l,hr⟩,fun hb=>RX_of_TC C.P (.sl e') (I.rt _ _ _ _ _ hr) (hb (t,g) (by simp)),rfl⟩
    | sap t g h i fs e l gd=>cases T <;> cases h
    | vw t g lo n0 e0 =>
      cases T <;> try (cases h;done)
      rename_i e
      have h:(match st (rk t) with
        | .root g' _ e' l=>if hh:e'=e then bif Nat.beq g g' then some ((hh ▸ sliceL l lo (lo + n0):List (den e)),[(t,g)]) else Option.none else Option.none
        | _=>Option.none)=some (x,ts):=h
      split at h
      case h_2=>cases h
      rename_i g' hh e' l hr
      split at h
      case isFalse=>cases h
      rename_i e2;subst e2
      cases hb:Nat.beq g g'
      · rw [hb] at h;cases h
      rw [hb] at h
      have hg:g=g':=Nat.eq_of_beq_eq_true hb
      subst hg
      simp only [cond_true,Option.some.injEq,Prod.mk.injEq] at h
      obtain ⟨rfl,rfl⟩:=h
      obtain ⟨xv,rfl,_,_,hx⟩:=hs
      obtain ⟨e9,k1,k2,k3,k4⟩:=hx _ _ _ hr
      rw [<-e9] at k4
      exact ⟨fun p hp=>by simp only [List.mem_singleton] at hp;subst hp;exact ⟨hh,e',l,hr⟩,fun hb=>vw_rx (RX_of_TC C.P (.sl e') (I.rt _ _ _ _ _ hr) (hb (t,g) (by simp))) k4 k1 k2 k3,rfl⟩
    | sub t g h0 i fs e1 =>
      cases T <;> try (cases h;done)
      rename_i e
      have h:(match st (rk t) with
        | .root g' h' e' l=>bif Nat.beq g g' && Nat.beq h0 h' then asTy (.sl e) (getP fs e' (l.getD i.toNat (dflt e'))) Option.none (fun y=>some (y,[(t,g)])) else Option.none
        | _=>Option.none)=some (x,ts):=h
      split at h
      case h_2=>cases h
      rename_i g' hh e' l hr
      cases hb:(Nat.beq g g' && Nat.beq h0 hh)
      · rw [hb] at h;cases h
      rw [hb] at h
      rw [Bool.and_eq_true] at hb
      have hg:g=g':=Nat.eq_of_beq_eq_true hb.1
      have hh2:h0=hh:=Nat.eq_of_beq_eq_true hb.2
      subst hg;subst hh2
      obtain ⟨xv,rfl,_,_,_,hx⟩:=hs
      obtain ⟨i0,i1,⟨y0,hy0⟩,b,o,k,c,arr,ty,fz,e1',e2',e3'⟩:=hx _ _ hr
      simp only [cond_true] at h
      rw [hy0] at h
      unfold asTy at h
      split at h
      case isFalse=>cases h
      rename_i e2
      have e2:Ty.sl e1=Ty.sl e:=e2
      injection e2 with e2;subst e2
      cases h
      obtain ⟨b',o',n',c',arr',ty',bi,k1,k2,k3,k4,k5,k6,k7⟩:=root_elem I hr i0 i1
      rw [k1] at e1';simp only [Value.slice.injEq,Option.some.injEq,Addr.mk.injEq] at e1'
      obtain ⟨⟨rfl,rfl,_⟩,rfl,rfl⟩:=e1'
      rw [k2] at e2';simp only [Option.some.injEq,Obj.cells.injEq] at e2'
      obtain ⟨rfl,rfl,_⟩:=e2'
      obtain ⟨hty,d1,d2,d3,hbi,m1,m2⟩:=lensP k5 hy0
      have hle:=offP_le fs e'
      rw [hty] at hle
      have hle:offP fs e' + 1<=e'.sz:=hle
      have hsl:(Ty.sl e1).sz=1:=rfl
      have hcell:seg (seg arr'.toList (o' + i.toNat * e'.sz) e'.sz) (offP fs e') 1=[xv]:=by
        rw [seg_seg _ hle];exact seg_one (by simpa using e3')
      rw [hsl,hcell] at m1
      exact ⟨fun p hp=>by simp only [List.mem_singleton] at hp;subst hp;exact ⟨h0,e',l,hr⟩,fun hb=>RX_of_TC C.P (.sl e1) m1 fun z hz=>hb (t,g) (by simp) z (k6 z (by rw [hbi];simp [hz])),rfl⟩
    | unit =>
      cases T <;> try (cases h;done)
      have h:some ((),([]:List (Nat × Nat)))=some (x,ts):=h
      cases h
      have hs:cs=[]:=hs
      subst hs
      exact ⟨fun p hp=>(by cases hp),fun _=>rfl,rfl⟩
    | st a =>
      cases T <;> try (cases h;done)
      rename_i F
      obtain ⟨k1,k2,_⟩:=frz_run I hS hSl n F a (cs:=cs) h hs
      exact ⟨k1,k2,rfl⟩
    | pair a b =>
      cases T <;> try (cases h;done)
      rename_i A B
      obtain ⟨c1,c2,rfl,s1,s2⟩:=hs
      have h:(match frzS st n A a with
        | some (x,r)=>(match frzS st n B b with
          | some (y,r')=>some ((x,y),r ++ r')
          | Option.none=>Option.none)
        | Option.none=>Option.none)=some (x,ts):=h
      split at h
      case h_2=>cases h
      rename_i x1 r1 h1
      split at h
      case h_2=>cases h
      rename_i x2 r2 h2
      cases h
      obtain ⟨k1,k2,_⟩:=frz_run I hS hSl n A a h1 s1
      obtain ⟨j1,j2,_⟩:=frz_run I hS hSl n B b h2 s2
      exact ⟨fun p hp=>(List.mem_append.1 hp).elim (k1 p) (j1 p),fun hb=>⟨c1,c2,rfl,k2 fun p hp=>hb p (List.mem_append_left _ hp),j2 fun p hp=>hb p (List.mem_append_right _ hp)⟩,rfl⟩
    | tup a=>exact hs.elim
    | pel t g i fs=>cases T <;> cases h
    | pbx b g fs=>cases T <;> cases h
    | pix b g fs i=>cases T <;> cases h
    | clo k fi ca=>cases T <;> cases h
    | mp t g=>cases T <;> cases h
theorem upds_some:∀ (u:U) (s:St) (k:Nat),(∃ p ∈ u,p.1=k)->∃ p ∈ u,p.1=k/\upds s u k=p.2
  | [],_,_,h=>by obtain ⟨p,hp,_⟩:=h;cases hp
  | (j,c) :: r,s,k,h=>by
    by_cases hr:∃ p ∈ r,p.1=k
    · obtain ⟨p,hp,h1,h2⟩:=upds_some r (upd s j c) k hr
      exact ⟨p,List.mem_cons_of_mem _ hp,h1,h2⟩
    · obtain ⟨p,hp,h1⟩:=h
      rcases List.mem_cons.1 hp with hp | hp
      · subst hp
        have h1:j=k:=h1
        subst h1
        refine ⟨(j,c),List.mem_cons_self,rfl,?_⟩
        show upds (upd s j c) r j=c
        rw [upds_out r _ _ fun p hp e=>hr ⟨p,hp,e⟩,upd_same]
      · exact absurd ⟨p,hp,h1⟩ hr
theorem gone_at {ts:List (Nat × Nat)} (h:∀ p ∈ ts,RT st p) {p:Nat × Nat} (hp:p ∈ ts):upds st (goneU ts) (rk p.1)=.gone p.2:=by
  obtain ⟨q,hq,h1,h2⟩:=upds_some (goneU ts) st (rk p.1) ⟨(rk p.1,.gone p.2),List.mem_map.2 ⟨p,hp,rfl⟩,rfl⟩
  obtain ⟨r,hr,rfl⟩:=List.mem_map.1 hq
  have h1:=rk_inj h1
  rw [h2]
  obtain ⟨_,_,_,e1⟩:=h r hr
  obtain ⟨_,_,_,e2⟩:=h p hp
  rw [h1,e2] at e1
  simp only [Cell.root.injEq] at e1
  show Cell.gone r.2=.gone p.2
  rw [e1.1]
theorem gone_inv (I:Inv C st a w G) {ts:List (Nat × Nat)} (h:∀ p ∈ ts,RT st p):Inv C (upds st (goneU ts)) a w G:=by
  have hk:∀ k,k ∈ ts.map (fun p=>rk p.1)->∃ p ∈ ts,k=rk p.1:=fun k hk=>by
    obtain ⟨p,hp,rfl⟩:=List.mem_map.1 hk;exact ⟨p,hp,rfl⟩
  have hown:∀ p ∈ ts,ownB (upds st (goneU ts)) G (rk p.1)=[]:=fun p hp=>by unfold ownB;rw [gone_at h hp]
  refine Step.inv (K:=ts.map fun p=>rk p.1) (D:=fun _=>False) I { os:=rfl,tape:=rfl,output:=rfl,size:=Nat.le_refl _,block:=(fun b _ _=>rfl),own:=(fun b hb=>False.elim hb),s0:=rfl,out:=(fun k hk=>⟨goneU_out fun p hp e=>hk (List.mem_map.2 ⟨p,hp,e⟩),rfl,rfl,rfl⟩),nosk:=(fun i hi=>?_),ks:=(fun k hk'=>?_),sub:=(fun k hk' b hb=>?_),lt:=(fun k hk' b hb=>?_),nd:=(fun k hk'=>?_),dj:=(fun k hk' k' _ b hb _=>?_),rt:=(fun k hk' g hh e l hr=>?_),bx:=(fun k hk' g T v hr=>?_) }
  · obtain ⟨p,_,e⟩:=hk _ hi;exact sk_ne_rk _ _ e
  · obtain ⟨p,hp,rfl⟩:=hk _ hk'
    obtain ⟨hh,e,l,hr⟩:=h p hp
    refine ⟨by rw [gone_at h hp,hr];exact Nat.le_refl _,fun g' h' e' l' hr' _=>?_,fun g' T' c' hr' _=>?_,fun g' hr' _=>?_⟩
    · rw [gone_at h hp] at hr';cases hr'
    · rw [gone_at h hp] at hr';cases hr'
    · rw [gone_at h hp] at hr';cases hr'
  · obtain ⟨p,hp,rfl⟩:=hk _ hk';rw [hown p hp] at hb;cases hb
  · obtain ⟨p,hp,rfl⟩:=hk _ hk';rw [hown p hp] at hb;cases hb
  · obtain ⟨p,hp,rfl⟩:=hk _ hk';rw [hown p hp];exact List.nodup_nil
  · obtain ⟨p,hp,rfl⟩:=hk _ hk';rw [hown p hp] at hb;cases hb
  · obtain ⟨p,hp,rfl⟩:=hk _ hk';rw [gone_at h hp] at hr;cases hr
  · obtain ⟨p,hp,rfl⟩:=hk _ hk';rw [gone_at h hp] at hr;cases hr
theorem fzM_run {α:Type}:∀ (n:Nat) (T:Ty) (v:SV) {f:den T->List (Nat × Nat)->M α} {u:α},Rn (fzM n T v f) st u->∃ x ts,frzS st n T v=some (x,ts)/\Rn (f x ts) st u
  | 0,T,v,f,u,h=>(Rn_fail.1 h).elim
  | n + 1,T,v,f,u,h=>by
    cases v with
    | val T' x0 =>
      have h:Rn (if h:T'=T then f (h ▸ x0) [] else .fail) st u:=by cases T <;> exact h
      split at h
      case isFalse=>exact (Rn_fail.1 h).elim
      rename_i e;subst e
      refine ⟨x0,[],?_,h⟩
      show (match T',x0 with | _,_=>frzS st (n + 1) T' (.val T' x0))=_
      have e2:frzS st (n + 1) T' (.val T' x0)=if h:T'=T' then some ((h ▸ x0:den T'),([]:List (Nat × Nat))) else Option.none:=by cases T' <;> rfl
      rw [e2];simp
    | nil =>
      cases T <;> first | exact ⟨_,_,rfl,h⟩ | exact (Rn_fail.1 h).elim
    | ref t g e0 =>
      cases T <;> try exact (Rn_fail.1 h).elim
      rename_i e
      unfold fzM at h
      rw [Rn_get] at h
      split at h
      case h_2=>exact (Rn_fail.1 h).elim
      rename_i g' h' e' l hr
      split at h
      case isFalse=>exact (Rn_fail.1 h).elim
      rename_i ee;subst ee
      rw [Rn_chk] at h
      obtain ⟨hg,h⟩:=h
      refine ⟨l,[(t,g)],?_,h⟩
      simp only [frzS,hr,hg,dite_true,cond_true]
    | sap t g h i fs e l gd=>cases T <;> exact (Rn_fail.1 h).elim
    | vw t g lo n0 e0 =>
      cases T <;> try exact (Rn_fail.1 h).elim
      rename_i e
      unfold fzM at h
      rw [Rn_get] at h
      split at h
      case h_2=>exact (Rn_fail.1 h).elim
      rename_i g' h' e' l hr
      split at h
      case isFalse=>exact (Rn_fail.1 h).elim
      rename_i ee;subst ee
      rw [Rn_chk] at h
      obtain ⟨hg,h⟩:=h
      refine ⟨sliceL l lo (lo + n0),[(t,g)],?_,h⟩
      simp only [frzS,hr,hg,dite_true,cond_true]
    | sub t g h0 i fs e0 =>
      cases T <;> try exact (Rn_fail.1 h).elim
      rename_i e
      unfold fzM at h
      rw [Rn_get] at h
      split at h
      case h_2=>exact (Rn_fail.1 h).elim
      rename_i g' h' e' l hr
      rw [Rn_chk] at h
      obtain ⟨hg,h⟩:=h
      unfold asTy at h
      split at h
      case isFalse=>exact (Rn_fail.1 h).elim
      rename_i ee
      refine ⟨_,[(t,g)],?_,h⟩
      simp only [frzS,hr,hg,cond_true,asTy,ee,dite_true]
    | unit=>cases T <;> first | exact ⟨_,_,rfl,h⟩ | exact (Rn_fail.1 h).elim
    | st a =>
      cases T <;> try exact (Rn_fail.1 h).elim
      rename_i F
      obtain ⟨x,ts,h1,h2⟩:=fzM_run n F a (f:=f) h
      exact ⟨x,ts,h1,h2⟩
    | pair a b =>
      cases T <;> try exact (Rn_fail.1 h).elim
      rename_i A B
      obtain ⟨x,ts,h1,h2⟩:=fzM_run n A a (f:=fun x r=>fzM n B b fun y r'=>f (x,y) (r ++ r')) h
      obtain ⟨y,ts',j1,j2⟩:=fzM_run n B b h2
      refine ⟨(x,y),ts ++ ts',?_,j2⟩
      simp only [frzS,h1,j1]
    | tup a=>cases T <;> exact (Rn_fail.1 h).elim
    | pel t g i fs=>cases T <;> exact (Rn_fail.1 h).elim
    | pbx b g fs=>cases T <;> exact (Rn_fail.1 h).elim
    | pix b g fs i=>cases T <;> exact (Rn_fail.1 h).elim
    | clo k fi ca=>cases T <;> exact (Rn_fail.1 h).elim
    | mp t g=>cases T <;> exact (Rn_fail.1 h).elim
def KS.ids:KS->List (Nat × Nat)
  | .r t g=>[(t,g)]
  | .pair a b=>a.ids ++ b.ids
  | .st a=>a.ids
  | _=>[]
/-- Numbers that fit a shape. -/
def KFit:Shp->KS->Prop
  | .v _,.v=>True
  | .r _,.r _ _=>True
  | .unit,.unit=>True
  | .pair a b,.pair k k'=>KFit a k/\KFit b k'
  | .st a,.st k=>KFit a k
  | _,_=>False
structure RdOk (P:Program) (st:St) (G:Gh) (w:World) (sh:Shp) (v:SV) (cs:List Value) (x:den sh.ty) (k:KS) (gs:List (Nat × Nat)) (od:List Nat):Prop where
  gone:∀ p ∈ gs,RT st p
  live:∀ q ∈ od,∃ t g h e l,q=rk t/\st (rk t)=.root g h e l
  xs:∀ S:Nat->Prop,(∀ b,Fz st G w b->S b)->(∀ b,S b->b < w.heap.size)->(∀ p ∈ gs,∀ b ∈ G.bl (rk p.1),S b)->XI P sh w S cs x (od.flatMap (ownB st G))
  val:valS v cs=valOf sh.ty cs
  fit:KFit sh k
  gens:∀ p ∈ k.ids,(st (rk p.1)).gen < p.2
theorem rdS_run {α:Type} (I:InvM C st w G):∀ (sh:Shp) (v:SV) (d:Nat) {f:den sh.ty->KS->List (Nat × Nat)->List Nat->Nat->M α} {u:α} {cs:List Value},Rn (rdS sh v d f) st u->SX C.P st G w (Fz st G w) v false cs →
    ∃ x k gs od d',Rn (f x k gs od d') st u/\RdOk C.P st G w sh v cs x k gs od
  | .v T,v,d,f,u,cs,h,hs=>by
    obtain ⟨x,ts,h1,h2⟩:=fzM_run 8 T v (f:=fun x gs=>f x .v gs [] d) h
    have k1:=fun S hS hSl=>frz_run I (S:=S) hS hSl 8 T v h1 hs
    obtain ⟨g1,_,g3⟩:=k1 (Fz st G w) (fun _ h=>h) (fun _ h=>h.1)
    exact ⟨x,.v,ts,[],d,h2,⟨g1,fun q hq=>(by cases hq),fun S hS hSl hg=>⟨rfl,(k1 S hS hSl).2.1 hg⟩,g3,trivial,fun p hp=>(by cases hp)⟩⟩
  | .r e,v,d,f,u,cs,h,hs=>by
    cases v with
    | ref t g e0 =>
      unfold rdS at h
      rw [Rn_get] at h
      split at h
      case h_2=>exact (Rn_fail.1 h).elim
      rename_i g' h' e' l hr
      split at h
      case isFalse=>exact (Rn_fail.1 h).elim
      rename_i ee;subst ee
      rw [Rn_chk] at h
      obtain ⟨hg,h⟩:=h
      have hg:=Nat.eq_of_beq_eq_true hg
      subst hg
      obtain ⟨x,c1,c2,c3,c4⟩:=hs
      refine ⟨l,.r t (g + 1),[],[rk t],d,h,⟨fun p hp=>(by cases hp),fun q hq=>?_,fun S _ _ _=>?_,?_,trivial,fun p hp=>?_⟩⟩
      · simp only [List.mem_singleton] at hq;exact ⟨t,g,h',e',l,hq,hr⟩
      · have h1:=(c4 _ _ _ hr).1
        have:=I.rt _ _ _ _ _ hr
        rw [<-h1,<-c1] at this
        show TC (.sl e') w cs l _
        have e2:[rk t].flatMap (ownB st G)=G.bl (rk t):=by
          rw [List.flatMap_cons,List.flatMap_nil,List.append_nil];exact root_own ⟨_,_,_,_,hr⟩
        rw [e2];exact this
      · rfl
      · simp only [KS.ids,List.mem_singleton] at hp;subst hp
        show (st (rk t)).gen < g + 1
        rw [hr];exact Nat.lt_succ_self _
    | nil =>
      unfold rdS at h
      rw [Rn_get] at h
      have hs:cs=[.slice none 0 0]:=hs
      refine ⟨[],.r d ((st (rk d)).gen + 1),[],[],d + 1,h,⟨fun p hp=>(by cases hp),fun q hq=>(by cases hq),fun S _ _ _=>.inl ⟨hs,rfl,rfl⟩,rfl,trivial,fun p hp=>?_⟩⟩
      simp only [KS.ids,List.mem_singleton] at hp;subst hp;exact Nat.lt_succ_self _
    | _=>exact (Rn_fail.1 h).elim
  | .bx c,v,d,f,u,cs,h,hs=>by
    unfold rdS at h
    exact (Rn_fail.1 h).elim
  | .cl _ c,v,d,f,u,cs,h,hs=>by
    unfold rdS at h
    exact (Rn_fail.1 h).elim
  | .unit,v,d,f,u,cs,h,hs=>by
    cases v with
    | unit =>
      have hs:cs=[]:=hs
      exact ⟨(),.unit,[],[],d,h,⟨fun p hp=>(by cases hp),fun q hq=>(by cases hq),fun S _ _ _=>⟨hs,rfl⟩,rfl,trivial,fun p hp=>(by cases hp)⟩⟩
    | _=>exact (Rn_fail.1 h).elim
  | .pair a b,v,d,f,u,cs,h,hs=>by
    cases v with
    | pair v1 v2 =>
      obtain ⟨c1,c2,rfl,s1,s2⟩:=hs
      obtain ⟨x,k,gs,od,d1,h1,A⟩:=rdS_run I a v1 d (f:=fun x k gs od d1=>rdS b v2 d1 fun y k' gs' od' d2=>f (x,y) (.pair k k') (gs ++ gs') (od ++ od') d2) h s1
      obtain ⟨y,k',gs',od',d2,h2,B⟩:=rdS_run I b v2 d1 h1 s2
      refine ⟨(x,y),.pair k k',gs ++ gs',od ++ od',d2,h2,⟨fun p hp=>(List.mem_append.1 hp).elim (A.gone p) (B.gone p),fun q hq=>(List.mem_append.1 hq).elim (A.live q) (B.live q),fun S hS hSl hg=>?_,rfl,⟨A.fit,B.fit⟩,fun p hp=>(List.mem_append.1 hp).elim (A.gens p) (B.gens p)⟩⟩
      exact ⟨c1,c2,_,_,rfl,List.flatMap_append,A.xs S hS hSl fun p hp=>hg p (List.mem_append_left _ hp),B.xs S hS hSl fun p hp=>hg p (List.mem_append_right _ hp)⟩
    | _=>exact (Rn_fail.1 h).elim
  | .st a,v,d,f,u,cs,h,hs=>by
    cases v with
    | st v1 =>
      obtain ⟨x,k,gs,od,d1,h1,A⟩:=rdS_run I a v1 d (f:=fun x k gs od d'=>f x (.st k) gs od d') h (cs:=cs) hs
      exact ⟨x,.st k,gs,od,d1,h1,⟨A.gone,A.live,A.xs,rfl,A.fit,A.gens⟩⟩
    | val T x0 =>
      unfold rdS at h
      split at h
      case h_2=>exact (Rn_fail.1 h).elim
      rename_i v1 hv1
      cases T <;> simp only [stFld,reduceCtorEq] at hv1
      rename_i F
      cases hl:F.isList
      · rw [hl] at hv1;cases hv1
      rw [hl] at hv1
      simp only [cond_true,Option.some.injEq] at hv1
      subst hv1
      have hs:RX C.P F false w (Fz st G w) cs x0:=hs
      obtain ⟨x,k,gs,od,d1,h1,A⟩:=rdS_run I a (expd F x0) d (f:=fun x k gs od d'=>f x (.st k) gs od d') h (cs:=cs) (SX_expd F hl hs).1
      exact ⟨x,.st k,gs,od,d1,h1,⟨A.gone,A.live,A.xs,rfl,A.fit,A.gens⟩⟩
    | _=>exact (Rn_fail.1 h).elim
end
end Go.Proofs.YtmlgfaojfmkdnaaGreatDoor.E
namespace Go.Proofs.YtmlgfaojfmkdnaaGreatDoor.E
open Go Go.RowKit
set_option linter.unusedVariables false
set_option linter.unusedSimpArgs false
section
variable {C:Cx} {cf:Cfg} {st st':St} {a:Act} {w w':World} {G G':Gh} {us:U}
/-- Numbers of a list of values: roots are new; a box is new, or it is the old one. -/
def FitL (st:St) (G:Gh):Lv->List (Nat × Nat × KS)->List Value->Prop
  | [],[],[]=>True
  | (_,.bx c) :: l,(b,g,k) :: ks,v :: vs=>KFit c k/\(∀ p ∈ k.ids,(st (rk p.1)).gen < p.2)/\((st (bk b)).gen < g\/∃ v0,st (bk b)=.box g c.ty v0/\v=.pointer (some ⟨G.bx (bk b),0,none⟩))/\FitL st G l ks vs
  | (_,.cl f c) :: l,(b,g,k) :: ks,v :: vs=>KFit c k/\(∀ p ∈ k.ids,(st (rk p.1)).gen < p.2)/\((st (bk b)).gen < g\/∃ v0,st (bk b)=.box g c.ty v0/\v=.func (.func f) #[] #[.pointer (some ⟨G.bx (bk b),0,none⟩)])/\FitL st G l ks vs
  | (_,sh) :: l,(_,_,k) :: ks,_ :: vs=>KFit sh k/\(∀ p ∈ k.ids,(st (rk p.1)).gen < p.2)/\FitL st G l ks vs
  | _,_,_=>False
structure RlOk (P:Program) (st:St) (G:Gh) (w:World) (l:Lv) (vs:List Value) (x:den l.ty) (ks:List (Nat × Nat × KS)) (gs:List (Nat × Nat)) (od:List Nat):Prop where
  gone:∀ p ∈ gs,RT st p
  live:∀ q ∈ od,(∃ t g h e l,q=rk t/\st (rk t)=.root g h e l)\/∃ b g T v,q=bk b/\st (bk b)=.box g T v
  xs:∀ S:Nat->Prop,(∀ b,Fz st G w b->S b)->(∀ b,S b->b < w.heap.size)->(∀ p ∈ gs,∀ b ∈ G.bl (rk p.1),S b)->XL P l w S vs x (od.flatMap (ownB st G))
  fit:FitL st G l ks vs
theorem box_own {b g:Nat} {T:Ty} {v:SV} (h:st (bk b)=.box g T v):ownB st G (bk b)=[G.bx (bk b)]:=by unfold ownB;rw [h]
theorem rdL_run {α:Type} (I:InvM C st w G):∀ (l:Lv) (v:SV) (d:Nat) {f:den l.ty->List (Nat × Nat × KS)->List (Nat × Nat)->List Nat->Nat->M α} {u:α} {vs:List Value},Rn (rdL l v d f) st u->SX C.P st G w (Fz st G w) v true vs →
    ∃ x ks gs od d',Rn (f x ks gs od d') st u/\RlOk C.P st G w l vs x ks gs od
  | [],v,d,f,u,vs,h,hs=>by
    cases v with
    | unit =>
      have hs:vs=[]:=hs
      subst hs
      exact ⟨(),[],[],[],d,h,⟨fun p hp=>(by cases hp),fun q hq=>(by cases hq),fun _ _ _ _=>⟨rfl,rfl⟩,trivial⟩⟩
    | _=>exact (Rn_fail.1 (by simpa only [rdL] using h)).elim
  | (i,sh) :: l,v,d,f,u,vs,h,hs=>by
    cases v with
    | pair v1 v2 =>
      obtain ⟨c,r,rfl,s1,s2⟩:=hs
      have gen:Rn (rdS sh v1 d fun x k gs od d1=>rdL l v2 d1 fun y ks gs' od' d2=>f (x,y) ((0,0,k) :: ks) (gs ++ gs') (od ++ od') d2) st u->isBx sh=false->∃ x ks gs od d',Rn (f x ks gs od d') st u/\RlOk C.P st G w ((i,sh) :: l) (valS v1 c :: r) x ks gs od:=fun h hsh=>by
        obtain ⟨x,k,gs,od,d1,h1,A⟩:=rdS_run I sh v1 d h s1
        obtain ⟨y,ks,gs',od',d2,h2,B⟩:=rdL_run I l v2 d1 h1 s2
        refine ⟨(x,y),(0,0,k) :: ks,gs ++ gs',od ++ od',d2,h2,⟨fun p hp=>(List.mem_append.1 hp).elim (A.gone p) (B.gone p),fun q hq=>(List.mem_append.1 hq).elim (fun h=>.inl (A.live q h)) (B.live q),fun S hS hSl hg=>?_,?_⟩⟩
        · refine ⟨c,r,_,_,by rw [A.val],List.flatMap_append,?_,B.xs S hS hSl fun p hp=>hg p (List.mem_append_right _ hp)⟩
          have:=A.xs S hS hSl fun p hp=>hg p (List.mem_append_left _ hp)
          cases sh <;> first | exact this | (cases hsh)
        · cases sh <;> first | exact ⟨A.fit,A.gens,B.fit⟩ | (cases hsh)
      cases sh with
      | bx c0 =>
        cases v1 with
        | pbx b g fs =>
          cases fs with
          | nil =>
            unfold rdL at h
            rw [Rn_get] at h
            split at h
            case h_2=>exact (Rn_fail.1 h).elim
            rename_i g' B0 v0 hb
            rw [Rn_chk] at h
            obtain ⟨hg,h⟩:=h
            have hg:=Nat.eq_of_beq_eq_true hg
            subst hg
            rw [Rn_bif] at h
            rcases h with ⟨hB,h⟩ | ⟨_,h⟩
            case inr=>exact (Rn_fail.1 h).elim
            have hB:=of_decide_eq_true hB
            subst hB
            obtain ⟨p,c1,c2,c3,c4⟩:=s1
            obtain ⟨b1,arr,ty,b2,b3⟩:=I.bx _ _ _ _ hb
            have hp:=c4 _ _ hb
            obtain ⟨x,k,gs,od,d1,h1,A⟩:=rdS_run I c0 v0 d h b3
            obtain ⟨y,ks,gs',od',d2,h2,B⟩:=rdL_run I l v2 d1 h1 s2
            refine ⟨(x,y),(b,g,k) :: ks,gs ++ gs',bk b :: od ++ od',d2,h2,⟨fun p hp=>(List.mem_append.1 hp).elim (A.gone p) (B.gone p),fun q hq=>?_,fun S hS hSl hg=>?_,?_⟩⟩
            · rcases List.mem_append.1 hq with hq | hq
              · rcases List.mem_cons.1 hq with hq | hq
                · exact .inr ⟨b,g,c0.ty,v0,hq,hb⟩
                · exact .inl (A.live q hq)
              · exact B.live q hq
            · refine ⟨[p],r,[G.bx (bk b)] ++ od.flatMap (ownB st G),_,by rw [c1];rfl,?_,⟨G.bx (bk b),od.flatMap (ownB st G),arr,ty,?_,rfl,b2,A.xs S hS hSl fun p hp=>hg p (List.mem_append_left _ hp)⟩,B.xs S hS hSl fun p hp=>hg p (List.mem_append_right _ hp)⟩
              · rw [List.flatMap_append,List.flatMap_cons,box_own hb]
              · rw [hp];simp [offP]
            · refine ⟨A.fit,A.gens,.inr ⟨v0,hb,?_⟩,B.fit⟩
              rw [c1]
              show p=_
              rw [hp];simp [offP]
          | cons n fs=>exact (Rn_fail.1 (by simpa only [rdL,rdS] using h)).elim
        | _=>exact (Rn_fail.1 (by simpa only [rdL,rdS] using h)).elim
      | cl f0 c0 =>
        cases v1 with
        | clo f1 fi ca =>
          cases fi with
          | unit =>
            cases ca with
            | pair pv qv =>
              cases pv with
              | pbx b g fs =>
                cases fs with
                | nil =>
                  cases qv with
                  | unit =>
                    unfold rdL at h
                    rw [Rn_chk] at h
                    obtain ⟨hfn,h⟩:=h
                    have hfn:=Nat.eq_of_beq_eq_true hfn
                    subst hfn
                    rw [Rn_get] at h
                    split at h
                    case h_2=>exact (Rn_fail.1 h).elim
                    rename_i g' B0 v0 hb
                    rw [Rn_chk] at h
                    obtain ⟨hg,h⟩:=h
                    have hg:=Nat.eq_of_beq_eq_true hg
                    subst hg
                    rw [Rn_bif] at h
                    rcases h with ⟨hB,h⟩ | ⟨_,h⟩
                    case inr=>exact (Rn_fail.1 h).elim
                    have hB:=of_decide_eq_true hB
                    subst hB
                    obtain ⟨vs0,us0,ce,u1,u2⟩:=s1
                    obtain ⟨c,r0,ue,⟨p,c1,c2,c3,c4⟩,u3⟩:=u2
                    have u1:vs0=[]:=u1
                    have u3:r0=[]:=u3
                    subst u1 u3 c1 ue ce
                    obtain ⟨b1,arr,ty,b2,b3⟩:=I.bx _ _ _ _ hb
                    have hp:=c4 _ _ hb
                    obtain ⟨x,k,gs,od,d1,h1,A⟩:=rdS_run I c0 v0 d h b3
                    obtain ⟨y,ks,gs',od',d2,h2,B⟩:=rdL_run I l v2 d1 h1 s2
                    refine ⟨(x,y),(b,g,k) :: ks,gs ++ gs',bk b :: od ++ od',d2,h2,⟨fun p hp=>(List.mem_append.1 hp).elim (A.gone p) (B.gone p),fun q hq=>?_,fun S hS hSl hg=>?_,?_⟩⟩
                    · rcases List.mem_append.1 hq with hq | hq
                      · rcases List.mem_cons.1 hq with hq | hq
                        · exact .inr ⟨b,g,c0.ty,v0,hq,hb⟩
                        · exact .inl (A.live q hq)
                      · exact B.live q hq
                    · refine ⟨[.func (.func f0) #[] #[p]],r,[G.bx (bk b)] ++ od.flatMap (ownB st G),_,rfl,?_,⟨G.bx (bk b),od.flatMap (ownB st G),arr,ty,?_,rfl,b2,A.xs S hS hSl fun p hp=>hg p (List.mem_append_left _ hp)⟩,B.xs S hS hSl fun p hp=>hg p (List.mem_append_right _ hp)⟩
                      · rw [List.flatMap_append,List.flatMap_cons,box_own hb]
                      · rw [hp];simp [offP]
                    · refine ⟨A.fit,A.gens,.inr ⟨v0,hb,?_⟩,B.fit⟩
                      show Value.func (.func f0) #[] #[p]=_
                      rw [hp];simp [offP]
                  | _=>exact (Rn_fail.1 (by simpa only [rdL,rdS] using h)).elim
                | cons n fs=>exact (Rn_fail.1 (by simpa only [rdL,rdS] using h)).elim
              | _=>exact (Rn_fail.1 (by simpa only [rdL,rdS] using h)).elim
            | _=>exact (Rn_fail.1 (by simpa only [rdL,rdS] using h)).elim
          | _=>exact (Rn_fail.1 (by simpa only [rdL,rdS] using h)).elim
        | _=>exact (Rn_fail.1 (by simpa only [rdL,rdS] using h)).elim
      | _=>exact gen h rfl
    | _=>exact (Rn_fail.1 (by simpa only [rdL] using h)).elim
theorem FitL_out:∀ (l:Lv) {ks:List (Nat × Nat × KS)} {vs:List Value},FitL st G l ks vs->FitL st G (outL l) (outK l ks) (outV l vs)
  | [],[],[],_=>trivial
  | [],[],_ :: _,h=>h.elim
  | [],_ :: _,_,h=>by simp [FitL] at h
  | (i,sh) :: l,[],vs,h=>by cases sh <;> cases vs <;> exact h.elim
  | (i,sh) :: l,k :: ks,[],h=>by cases sh <;> exact h.elim
  | (i,sh) :: l,(b,g,k) :: ks,v :: vs,h=>by
    cases sh with
    | bx c=>exact ⟨h.1,h.2.1,h.2.2.1,FitL_out l h.2.2.2⟩
    | cl f c=>exact ⟨h.1,h.2.1,h.2.2.1,FitL_out l h.2.2.2⟩
    | _=>exact FitL_out l h.2.2
def GA (G':Gh) (ge:List (Nat × Value × List Nat)):Prop:=∀ q ∈ ge,G'.hd q.1=q.2.1/\G'.bl q.1=q.2.2/\G'.bx q.1=q.2.2.headD 0
/-- A state, a ghost and readable blocks behind the writing of the cells u. -/
structure Inst (u:U) (ge:List (Nat × Value × List Nat)) (S:Nat->Prop) (w:World) (st':St) (G':Gh) (S':Nat->Prop):Prop where
  st:∀ p ∈ u,st' p.1=p.2
  ga:GA G' ge
  sub:∀ b,S b->S' b
  lt:∀ b,S' b->b < w.heap.size
theorem Inst.left {u v:U} {ge he:List (Nat × Value × List Nat)} {S S':Nat->Prop} (h:Inst (u ++ v) (ge ++ he) S w st' G' S'):Inst u ge S w st' G' S' :=
  ⟨fun p hp=>h.st p (List.mem_append_left _ hp),fun q hq=>h.ga q (List.mem_append_left _ hq),h.sub,h.lt⟩
theorem Inst.right {u v:U} {ge he:List (Nat × Value × List Nat)} {S S':Nat->Prop} (h:Inst (u ++ v) (ge ++ he) S w st' G' S'):Inst v he S w st' G' S' :=
  ⟨fun p hp=>h.st p (List.mem_append_right _ hp),fun q hq=>h.ga q (List.mem_append_right _ hq),h.sub,h.lt⟩
theorem Inst.tail {p:Nat × Cell} {u:U} {q:Nat × Value × List Nat} {ge:List (Nat × Value × List Nat)} {S S':Nat->Prop} (h:Inst (p :: u) (q :: ge) S w st' G' S'):Inst u ge S w st' G' S' :=
  ⟨fun p hp=>h.st p (List.mem_cons_of_mem _ hp),fun q hq=>h.ga q (List.mem_cons_of_mem _ hq),h.sub,h.lt⟩
def RootC (st:St) (w:World) (p:Nat × Cell) (q:Nat × Value × List Nat):Prop:=∃ t g e l,p=(rk t,.root g 0 e l)/\TC (.sl e) w [q.2.1] l q.2.2/\(st (rk t)).gen < g
def BoxC (P:Program) (st:St) (G:Gh) (w:World) (u:U) (ge:List (Nat × Value × List Nat)) (S:Nat->Prop) (p:Nat × Cell) (q:Nat × Value × List Nat):Prop :=
  ∃ b g T v blk arr ty,p=(bk b,.box g T v)/\q.2.2=[blk]/\v.hasTy T=true/\w.heap[blk]?=some (.cells arr ty (0,0))/\((st (bk b)).gen < g\/∃ v0,st (bk b)=.box g T v0/\blk=G.bx (bk b)) ∧
    ∀ st' G' S',Inst u ge S w st' G' S'->SX P st' G' w S' v false arr.toList
structure PutOk (P:Program) (st:St) (w:World) (S:Nat->Prop) (sh:Shp) (p:SV × U) (cs:List Value) (bs:List Nat) (ge:List (Nat × Value × List Nat)):Prop where
  keys:p.2.map (·.1)=ge.map (·.1)
  bls:bs=ge.flatMap (·.2.2)
  cell:∀ z ∈ p.2,∃ q ∈ ge,q.1=z.1/\RootC st w z q
  ty:p.1.hasTy sh.ty=true
  val:valS p.1 cs=valOf sh.ty cs
  sx:∀ st' G' S',Inst p.2 ge S w st' G' S'->SX P st' G' w S' p.1 false cs
theorem TC_hd {e:Ty} {cs:List Value} {l:List (den e)} {bs:List Nat} (h:TC (.sl e) w cs l bs):∃ v,cs=[v]/\v.oneCell'=true:=by
  rcases h with ⟨rfl,_⟩ | ⟨b,o,n,c,arr,ty,bss,rfl,_⟩ <;> exact ⟨_,rfl,rfl⟩
theorem putS_ok {P:Program} {S:Nat->Prop} (hSw:∀ b,S b->b < w.heap.size):∀ (sh:Shp) (k:KS) (x:den sh.ty) {cs:List Value} {bs:List Nat},KFit sh k->(∀ p ∈ k.ids,(st (rk p.1)).gen < p.2)->XI P sh w S cs x bs →
    ∃ ge,PutOk P st w S sh (putS sh k x) cs bs ge
  | .v T,k,x,cs,bs,hf,hg,h=>by
    obtain ⟨rfl,h⟩:=h
    refine ⟨[],rfl,rfl,fun z hz=>(by cases hz),by simp [putS,SV.hasTy,Shp.ty],rfl,fun st' G' S' hi=>?_⟩
    exact RX_congr P T false (Nat.le_refl _) (fun b hb _=>⟨hi.sub b hb,rfl⟩) hi.lt h
  | .r e,k,x,cs,bs,hf,hg,h=>by
    cases k with
    | r t g =>
      have h:TC (.sl e) w cs x bs:=h
      obtain ⟨v,rfl,hv⟩:=TC_hd h
      refine ⟨[(rk t,v,bs)],rfl,by simp,fun z hz=>?_,by simp [putS,SV.hasTy,Shp.ty],rfl,fun st' G' S' hi=>?_⟩
      · simp only [putS,List.mem_singleton] at hz
        exact ⟨(rk t,v,bs),by simp,by rw [hz],t,g,e,x,hz,h,hg (t,g) (by simp [KS.ids])⟩
      · have h1:=hi.st (rk t,.root g 0 e x) (by simp [putS])
        have h2:=hi.ga (rk t,v,bs) (by simp)
        have h1:st' (rk t)=.root g 0 e x:=h1
        refine ⟨v,rfl,hv,by rw [h1];exact Nat.le_refl _,fun h' e' l' hr=>?_⟩
        rw [h1] at hr;cases hr
        exact ⟨h2.1.symm,rfl⟩
    | _=>exact hf.elim
  | .bx c,k,x,cs,bs,hf,hg,h=>h.elim
  | .cl _ c,k,x,cs,bs,hf,hg,h=>h.elim
  | .unit,k,x,cs,bs,hf,hg,h=>by
    cases k with
    | unit =>
      obtain ⟨rfl,rfl⟩:=h
      exact ⟨[],rfl,rfl,fun z hz=>(by cases hz),rfl,rfl,fun st' G' S' hi=>rfl⟩
    | _=>exact hf.elim
  | .pair A B,k,x,cs,bs,hf,hg,h=>by
    cases k with
    | pair k1 k2 =>
      obtain ⟨c1,c2,b1,b2,rfl,rfl,h1,h2⟩:=h
      obtain ⟨ge,K⟩:=putS_ok hSw A k1 x.1 hf.1 (fun p hp=>hg p (List.mem_append_left _ hp)) h1
      obtain ⟨he,L⟩:=putS_ok hSw B k2 x.2 hf.2 (fun p hp=>hg p (List.mem_append_right _ hp)) h2
      refine ⟨ge ++ he,?_,?_,fun z hz=>?_,?_,rfl,fun st' G' S' hi=>⟨c1,c2,rfl,K.sx st' G' S' hi.left,L.sx st' G' S' hi.right⟩⟩
      · show ((putS A k1 x.1).2 ++ (putS B k2 x.2).2).map (·.1)=_
        rw [List.map_append,List.map_append,K.keys,L.keys]
      · rw [List.flatMap_append,K.bls,L.bls]
      · rcases List.mem_append.1 hz with hz | hz
        · obtain ⟨q,hq,h⟩:=K.cell z hz;exact ⟨q,List.mem_append_left _ hq,h⟩
        · obtain ⟨q,hq,h⟩:=L.cell z hz;exact ⟨q,List.mem_append_right _ hq,h⟩
      · show ((putS A k1 x.1).1.hasTy A.ty && (putS B k2 x.2).1.hasTy B.ty)=true
        rw [K.ty,L.ty];rfl
    | _=>exact hf.elim
  | .st A,k,x,cs,bs,hf,hg,h=>by
    cases k with
    | st k1 =>
      obtain ⟨ge,K⟩:=putS_ok (P:=P) hSw A k1 x hf hg h
      exact ⟨ge,K.keys,K.bls,K.cell,K.ty,rfl,K.sx⟩
    | _=>exact hf.elim
structure PutLOk (P:Program) (st:St) (G:Gh) (w:World) (S:Nat->Prop) (p:SV × U) (vs:List Value) (bs:List Nat) (ge:List (Nat × Value × List Nat)):Prop where
  keys:p.2.map (·.1)=ge.map (·.1)
  bls:bs=ge.flatMap (·.2.2)
  cell:∀ z ∈ p.2,∃ q ∈ ge,q.1=z.1/\(RootC st w z q\/BoxC P st G w p.2 ge S z q)
  sx:∀ st' G' S',Inst p.2 ge S w st' G' S'->SX P st' G' w S' p.1 true vs
theorem BoxC.mono {P:Program} {S:Nat->Prop} {u u':U} {ge ge':List (Nat × Value × List Nat)} {p:Nat × Cell} {q:Nat × Value × List Nat} (h:BoxC P st G w u ge S p q) (hi:∀ st' G' S',Inst u' ge' S w st' G' S'->Inst u ge S w st' G' S'):BoxC P st G w u' ge' S p q:=by
  obtain ⟨b,g,T,v,blk,arr,ty,h1,h2,h3,h4,h5,h6⟩:=h
  exact ⟨b,g,T,v,blk,arr,ty,h1,h2,h3,h4,h5,fun st' G' S' h=>h6 st' G' S' (hi st' G' S' h)⟩
theorem putL_ok {P:Program} {S:Nat->Prop} (hSw:∀ b,S b->b < w.heap.size):∀ (l:Lv) (ks:List (Nat × Nat × KS)) (x:den l.ty) {vs:List Value} {bs:List Nat},FitL st G l ks vs->XL P l w S vs x bs →
    ∃ ge,PutLOk P st G w S (putL l ks x) vs bs ge
  | [],[],x,vs,bs,hf,h=>by
    obtain ⟨rfl,rfl⟩:=h
    exact ⟨[],rfl,rfl,fun z hz=>(by cases hz),fun _ _ _ _=>rfl⟩
  | [],_ :: _,x,vs,bs,hf,h=>by simp [FitL] at hf
  | (i,sh) :: l,[],x,vs,bs,hf,h=>by cases sh <;> cases vs <;> exact hf.elim
  | (i,sh) :: l,(b,g,k) :: ks,x,vs,bs,hf,h=>by
    obtain ⟨c,r,b1,b2,rfl,rfl,h1,h2⟩:=h
    have gen:isBx sh=false->KFit sh k->(∀ p ∈ k.ids,(st (rk p.1)).gen < p.2)->FitL st G l ks r->XI P sh w S c x.1 b1->putL ((i,sh) :: l) ((b,g,k) :: ks) x=(.pair (putS sh k x.1).1 (putL l ks x.2).1,(putS sh k x.1).2 ++ (putL l ks x.2).2)->∃ ge,PutLOk P st G w S (putL ((i,sh) :: l) ((b,g,k) :: ks) x) (valOf sh.ty c :: r) (b1 ++ b2) ge:=fun _ f1 f2 f3 h1 e=>by
      obtain ⟨ge,K⟩:=putS_ok hSw sh k x.1 f1 f2 h1
      obtain ⟨he,L⟩:=putL_ok hSw l ks x.2 f3 h2
      rw [e]
      refine ⟨ge ++ he,?_,?_,fun z hz=>?_,fun st' G' S' hi=>⟨c,r,by rw [K.val],K.sx st' G' S' hi.left,L.sx st' G' S' hi.right⟩⟩
      · show ((putS sh k x.1).2 ++ (putL l ks x.2).2).map (·.1)=_
        rw [List.map_append,List.map_append,K.keys,L.keys]
      · rw [List.flatMap_append,K.bls,L.bls]
      · rcases List.mem_append.1 hz with hz | hz
        · obtain ⟨q,hq,h1,h2⟩:=K.cell z hz;exact ⟨q,List.mem_append_left _ hq,h1,.inl h2⟩
        · obtain ⟨q,hq,h1,h2⟩:=L.cell z hz
          exact ⟨q,List.mem_append_right _ hq,h1,h2.imp id fun h=>h.mono fun _ _ _ h=>h.right⟩
    cases sh with
    | bx c0 =>
      obtain ⟨f1,f2,f3,f4⟩:=hf
      obtain ⟨blk,b3,arr,ty,rfl,rfl,h4,h5⟩:=h1
      obtain ⟨ge,K⟩:=putS_ok hSw c0 k x.1 f1 f2 h5
      obtain ⟨he,L⟩:=putL_ok hSw l ks x.2 f4 h2
      have e:putL ((i,.bx c0) :: l) ((b,g,k) :: ks) x=(.pair (.pbx b g []) (putL l ks x.2).1,((bk b,.box g c0.ty (putS c0 k x.1).1) :: (putS c0 k x.1).2) ++ (putL l ks x.2).2):=rfl
      rw [e]
      let q0:Nat × Value × List Nat:=(bk b,.pointer (some ⟨blk,0,none⟩),[blk])
      have left:∀ st' G' S',Inst (((bk b,.box g c0.ty (putS c0 k x.1).1) :: (putS c0 k x.1).2) ++ (putL l ks x.2).2) ((q0 :: ge) ++ he) S w st' G' S'->Inst (putS c0 k x.1).2 ge S w st' G' S':=fun st' G' S' hi=>hi.left.tail
      refine ⟨(q0 :: ge) ++ he,?_,?_,fun z hz=>?_,fun st' G' S' hi=>⟨[.pointer (some ⟨blk,0,none⟩)],r,rfl,?_,L.sx st' G' S' hi.right⟩⟩
      · rw [List.map_append,List.map_append,List.map_cons,List.map_cons,K.keys,L.keys]
      · rw [List.flatMap_append,List.flatMap_cons,K.bls,L.bls];rfl
      · rcases List.mem_append.1 hz with hz | hz
        · rcases List.mem_cons.1 hz with hz | hz
          · refine ⟨q0,by simp,by rw [hz],.inr ⟨b,g,c0.ty,_,blk,arr,ty,hz,rfl,K.ty,h4,?_,fun st' G' S' hi=>K.sx st' G' S' (left st' G' S' hi)⟩⟩
            rcases f3 with f3 | ⟨v0,f3,f5⟩
            · exact .inl f3
            · refine .inr ⟨v0,f3,?_⟩
              have:Value.pointer (some ⟨blk,0,none⟩)=.pointer (some ⟨G.bx (bk b),0,none⟩):=f5
              simpa using this
          · obtain ⟨q,hq,h1,h2⟩:=K.cell z hz
            exact ⟨q,List.mem_append_left _ (List.mem_cons_of_mem _ hq),h1,.inl h2⟩
        · obtain ⟨q,hq,h1,h2⟩:=L.cell z hz
          exact ⟨q,List.mem_append_right _ hq,h1,h2.imp id fun h=>h.mono fun _ _ _ h=>h.right⟩
      · have h6:st' (bk b)=.box g c0.ty (putS c0 k x.1).1:=hi.st (bk b,.box g c0.ty (putS c0 k x.1).1) (by simp)
        have h7:=(hi.ga q0 (by simp)).2.2
        refine ⟨_,rfl,rfl,by rw [h6];exact Nat.le_refl _,fun T c hb=>?_⟩
        rw [h6] at hb;cases hb
        rw [show G'.bx (bk b)=blk from h7];simp [offP]
    | cl f0 c0 =>
      obtain ⟨f1,f2,f3,f4⟩:=hf
      obtain ⟨blk,b3,arr,ty,rfl,rfl,h4,h5⟩:=h1
      obtain ⟨ge,K⟩:=putS_ok hSw c0 k x.1 f1 f2 h5
      obtain ⟨he,L⟩:=putL_ok hSw l ks x.2 f4 h2
      have e:putL ((i,.cl f0 c0) :: l) ((b,g,k) :: ks) x=(.pair (.clo f0 .unit (.pair (.pbx b g []) .unit)) (putL l ks x.2).1,((bk b,.box g c0.ty (putS c0 k x.1).1) :: (putS c0 k x.1).2) ++ (putL l ks x.2).2):=rfl
      rw [e]
      let q0:Nat × Value × List Nat:=(bk b,.pointer (some ⟨blk,0,none⟩),[blk])
      have left:∀ st' G' S',Inst (((bk b,.box g c0.ty (putS c0 k x.1).1) :: (putS c0 k x.1).2) ++ (putL l ks x.2).2) ((q0 :: ge) ++ he) S w st' G' S'->Inst (putS c0 k x.1).2 ge S w st' G' S':=fun st' G' S' hi=>hi.left.tail
      refine ⟨(q0 :: ge) ++ he,?_,?_,fun z hz=>?_,fun st' G' S' hi=>⟨[.func (.func f0) #[] #[.pointer (some ⟨blk,0,none⟩)]],r,rfl,?_,L.sx st' G' S' hi.right⟩⟩
      · rw [List.map_append,List.map_append,List.map_cons,List.map_cons,K.keys,L.keys]
      · rw [List.flatMap_append,List.flatMap_cons,K.bls,L.bls];rfl
      · rcases List.mem_append.1 hz with hz | hz
        · rcases List.mem_cons.1 hz with hz | hz
          · refine ⟨q0,by simp,by rw [hz],.inr ⟨b,g,c0.ty,_,blk,arr,ty,hz,rfl,K.ty,h4,?_,fun st' G' S' hi=>K.sx st' G' S' (left st' G' S' hi)⟩⟩
            rcases f3 with f3 | ⟨v0,f3,f5⟩
            · exact .inl f3
            · refine .inr ⟨v0,f3,?_⟩
              have:Value.func (.func f0) #[] #[.pointer (some ⟨blk,0,none⟩)]=.func (.func f0) #[] #[.pointer (some ⟨G.bx (bk b),0,none⟩)]:=f5
              simpa using this
          · obtain ⟨q,hq,h1,h2⟩:=K.cell z hz
            exact ⟨q,List.mem_append_left _ (List.mem_cons_of_mem _ hq),h1,.inl h2⟩
        · obtain ⟨q,hq,h1,h2⟩:=L.cell z hz
          exact ⟨q,List.mem_append_right _ hq,h1,h2.imp id fun h=>h.mono fun _ _ _ h=>h.right⟩
      · have h6:st' (bk b)=.box g c0.ty (putS c0 k x.1).1:=hi.st (bk b,.box g c0.ty (putS c0 k x.1).1) (by simp)
        have h7:=(hi.ga q0 (by simp)).2.2
        refine ⟨[],[.pointer (some ⟨blk,0,none⟩)],rfl,rfl,[.pointer (some ⟨blk,0,none⟩)],[],rfl,⟨_,rfl,rfl,by rw [h6];exact Nat.le_refl _,fun T c hb=>?_⟩,rfl⟩
        rw [h6] at hb;cases hb
        rw [show G'.bx (bk b)=blk from h7];simp [offP]
    | v T=>exact gen rfl hf.1 hf.2.1 hf.2.2 h1 rfl
    | r T=>exact gen rfl hf.1 hf.2.1 hf.2.2 h1 rfl
    | unit=>exact gen rfl hf.1 hf.2.1 hf.2.2 h1 rfl
    | pair A B=>exact gen rfl hf.1 hf.2.1 hf.2.2 h1 rfl
    | st A=>exact gen rfl hf.1 hf.2.1 hf.2.2 h1 rfl
end
end Go.Proofs.YtmlgfaojfmkdnaaGreatDoor.E
namespace Go.Proofs.YtmlgfaojfmkdnaaGreatDoor.E
open Go Go.RowKit
set_option linter.unusedVariables false
set_option linter.unusedSimpArgs false
section
variable {C:Cx} {cf:Cfg} {dst:Option Tmp} {type:TypeId} {pos:String} {after:Array Edge} {guard:Option (Nat × Bool)} {st:St} {a:Act} {w w':World} {G:Gh} {us:U}
theorem lkp_mem {β:Type}:∀ (l:List (Nat × β)) {d:Nat} {o:β},(l.map (·.1)).Nodup->(d,o) ∈ l->l.lookup d=some o
  | (e,p) :: l,d,o,hn,h=>by
    rw [List.map_cons,List.nodup_cons] at hn
    rw [List.lookup_cons]
    rcases List.mem_cons.1 h with h | h
    · simp only [Prod.mk.injEq] at h
      rw [h.1,h.2];simp
    · have hne:d ≠ e:=fun e'=>hn.1 (List.mem_map.2 ⟨(d,o),h,e'⟩)
      have:(d == e)=false:=by simpa using hne
      rw [this]
      exact lkp_mem l hn.2 h
theorem lkp_none {β:Type}:∀ (l:List (Nat × β)) {d:Nat},(∀ q ∈ l,q.1 ≠ d)->l.lookup d=none
  | [],d,h=>rfl
  | (e,p) :: l,d,h=>by
    rw [List.lookup_cons]
    have:(d == e)=false:=by
      have:=h (e,p) List.mem_cons_self
      simpa using fun e'=>this e'.symm
    rw [this]
    exact lkp_none l fun q hq=>h q (List.mem_cons_of_mem _ hq)
theorem flat_nd:∀ {ge:List (Nat × Value × List Nat)},(ge.flatMap (·.2.2)).Nodup->∀ q ∈ ge,q.2.2.Nodup
  | [],_,q,hq=>by cases hq
  | p :: ge,h,q,hq=>by
    rw [List.flatMap_cons,List.nodup_append] at h
    rcases List.mem_cons.1 hq with e | hq
    · rw [e];exact h.1
    · exact flat_nd h.2.1 q hq
theorem flat_dj:∀ {ge:List (Nat × Value × List Nat)},(ge.flatMap (·.2.2)).Nodup->∀ q ∈ ge,∀ q' ∈ ge,∀ b,b ∈ q.2.2->b ∈ q'.2.2->q=q'
  | [],_,q,hq,_,_,_,_,_=>by cases hq
  | p :: ge,h,q,hq,q',hq',b,hb,hb'=>by
    rw [List.flatMap_cons,List.nodup_append] at h
    rcases List.mem_cons.1 hq with e | hm <;> rcases List.mem_cons.1 hq' with e' | hm'
    · rw [e,e']
    · subst e;exact absurd rfl (h.2.2 b hb b (List.mem_flatMap.2 ⟨q',hm',hb'⟩))
    · subst e';exact absurd rfl (h.2.2 b hb' b (List.mem_flatMap.2 ⟨q,hm,hb⟩))
    · exact flat_dj h.2.1 q hm q' hm' b hb hb'
theorem inst_step (I:Inv C st a w G) {u:U} {ge:List (Nat × Value × List Nat)} {S:Nat->Prop} {od:List Nat} (hk:(u.map (·.1)).Nodup) (e1:u.map (·.1)=ge.map (·.1))
    (cell:∀ z ∈ u,∃ q ∈ ge,q.1=z.1/\(RootC st w' z q\/BoxC C.P st G w' u ge S z q)) (hod:∀ q ∈ od,q ∈ u.map (·.1))
    (bn:(ge.flatMap (·.2.2)).Nodup) (bm:∀ b ∈ ge.flatMap (·.2.2),(b ∈ od.flatMap (ownB st G)\/w.heap.size<=b)/\b < w'.heap.size)
    (hS:∀ b,S b->b < w'.heap.size/\(Fz st G w b\/w.heap.size<=b\/b ∈ od.flatMap (ownB st G))/\b ∉ ge.flatMap (·.2.2))
    (hos:w'.os=w.os) (hta:w'.tape=w.tape) (hou:w'.output=w.output) (hsz:w.heap.size<=w'.heap.size) (hblk:∀ b,b < w.heap.size->b ∉ od.flatMap (ownB st G)->w'.heap[b]?=w.heap[b]?) :
    ∃ G',Inv C (upds st u) a w' G'/\Inst u ge S w' (upds st u) G' (Fz (upds st u) G' w'):=by
  have hkg:(ge.map (·.1)).Nodup:=e1 ▸ hk
  let G':Gh:=⟨fun k=>match ge.lookup k with | some q=>q.1 | none=>G.hd k,fun k=>match ge.lookup k with | some q=>q.2 | none=>G.bl k,fun k=>match ge.lookup k with | some q=>q.2.headD 0 | none=>G.bx k,G.s0⟩
  have hga:GA G' ge:=fun q hq=>by
    have:=lkp_mem ge hkg (show (q.1,q.2) ∈ ge from hq)
    refine ⟨?_,?_,?_⟩
    · show (match ge.lookup q.1 with | some q=>q.1 | none=>G.hd q.1)=_;rw [this]
    · show (match ge.lookup q.1 with | some q=>q.2 | none=>G.bl q.1)=_;rw [this]
    · show (match ge.lookup q.1 with | some q=>q.2.headD 0 | none=>G.bx q.1)=_;rw [this]
  have hin:∀ z ∈ u,upds st u z.1=z.2:=fun z hz=>upds_in _ _ hk (by simpa using hz)
  have hout:∀ k,k ∉ u.map (·.1)->upds st u k=st k:=fun k hk=>upds_out _ _ _ fun p hp e=>hk (List.mem_map.2 ⟨p,hp,e⟩)
  have hG:∀ k,k ∉ u.map (·.1)->G'.hd k=G.hd k/\G'.bl k=G.bl k/\G'.bx k=G.bx k:=fun k hk=>by
    have:ge.lookup k=none:=lkp_none ge fun q hq e=>hk (by rw [e1];exact List.mem_map.2 ⟨q,hq,e⟩)
    refine ⟨?_,?_,?_⟩
    · show (match ge.lookup k with | some q=>q.1 | none=>G.hd k)=_;rw [this]
    · show (match ge.lookup k with | some q=>q.2 | none=>G.bl k)=_;rw [this]
    · show (match ge.lookup k with | some q=>q.2.headD 0 | none=>G.bx k)=_;rw [this]
  -- who owns what behind the step
  have hown:∀ z ∈ u,∃ q ∈ ge,q.1=z.1/\ownB (upds st u) G' z.1=q.2.2:=fun z hz=>by
    obtain ⟨q,hq,e,h⟩:=cell z hz
    refine ⟨q,hq,e,?_⟩
    have hz2:=hin z hz
    have g:=hga q hq
    rw [e] at g
    unfold ownB
    rw [hz2]
    rcases h with ⟨t,g',e',l,h1,_⟩ | ⟨b,g',T,v,blk,arr,ty,h1,h2,_⟩
    · rw [h1];rw [h1] at g;exact g.2.1
    · rw [h1];rw [h1] at g
      show [G'.bx (bk b)]=_
      rw [g.2.2,h2];rfl
  have hmem:∀ k ∈ u.map (·.1),∃ z ∈ u,z.1=k:=fun k hk=>by
    obtain ⟨z,hz,e⟩:=List.mem_map.1 hk;exact ⟨z,hz,e⟩
  have hnosk:∀ i,sk i ∉ u.map (·.1):=fun i hi=>by
    obtain ⟨z,hz,e⟩:=hmem _ hi
    obtain ⟨q,hq,_,h⟩:=cell z hz
    rcases h with ⟨t,g',e',l,h1,_⟩ | ⟨b,g',T,v,blk,arr,ty,h1,_⟩
    · rw [h1] at e;exact sk_ne_rk _ _ e.symm
    · rw [h1] at e;exact sk_ne_bk _ _ e.symm
  have h0:Step0 st G w (upds st u) G' w' (u.map (·.1)) (fun b=>b ∈ od.flatMap (ownB st G)):={
    s0:=rfl
    os:=hos,tape:=hta,output:=hou,size:=hsz,block:=hblk
    own:=fun b hb=>by
      obtain ⟨q,hq,hb⟩:=List.mem_flatMap.1 hb
      exact ⟨q,hod q hq,hb⟩
    out:=fun k hk=>⟨hout k hk,hG k hk⟩
    nosk:=hnosk
    ks:=fun k hk=>by
      obtain ⟨z,hz,rfl⟩:=hmem k hk
      obtain ⟨q,hq,e,h⟩:=cell z hz
      have hz2:=hin z hz
      have g:=hga q hq
      rw [e] at g
      rcases h with ⟨t,g',e',l,h1,_,h3⟩ | ⟨b,g',T,v,blk,arr,ty,h1,h2,_,_,h5,_⟩
      · rw [h1] at hz2 ⊢
        refine ⟨by rw [hz2];exact Nat.le_of_lt h3,fun g1 h e l hr hg=>?_,fun g1 T1 c hr _=>?_,fun g1 hr _=>?_⟩
        · rw [hz2] at hr;cases hr;exact absurd h3 (Nat.not_lt.2 hg)
        · rw [hz2] at hr;cases hr
        · rw [hz2] at hr;cases hr
      · rw [h1] at hz2 g ⊢
        refine ⟨?_,fun g1 h e l hr hg=>?_,fun g1 T1 c hr hg=>?_,fun g1 hr hg=>?_⟩
        · rw [hz2]
          rcases h5 with h5 | ⟨v0,h5,_⟩
          · exact Nat.le_of_lt h5
          · rw [h5];exact Nat.le_refl _
        · rw [hz2] at hr;cases hr
        · rw [hz2] at hr;cases hr
          rcases h5 with h5 | ⟨v0,h5,h6⟩
          · exact absurd h5 (Nat.not_lt.2 hg)
          · exact ⟨v0,h5,by rw [g.2.2,h2,h6];rfl⟩
        · rw [hz2] at hr;cases hr
    sub:=fun k hk b hb=>by
      obtain ⟨z,hz,rfl⟩:=hmem k hk
      obtain ⟨q,hq,e,ho⟩:=hown z hz
      rw [ho] at hb
      rcases (bm b (List.mem_flatMap.2 ⟨q,hq,hb⟩)).1 with h | h
      · obtain ⟨k',hk',hb'⟩:=List.mem_flatMap.1 h
        exact .inl ⟨k',hod k' hk',hb'⟩
      · exact .inr h
    lt:=fun k hk b hb=>by
      obtain ⟨z,hz,rfl⟩:=hmem k hk
      obtain ⟨q,hq,e,ho⟩:=hown z hz
      rw [ho] at hb
      exact (bm b (List.mem_flatMap.2 ⟨q,hq,hb⟩)).2
    nd:=fun k hk=>by
      obtain ⟨z,hz,rfl⟩:=hmem k hk
      obtain ⟨q,hq,e,ho⟩:=hown z hz
      rw [ho];exact flat_nd bn q hq
    dj:=fun k hk k' hk' b hb hb'=>by
      obtain ⟨z,hz,rfl⟩:=hmem k hk
      obtain ⟨z',hz',rfl⟩:=hmem k' hk'
      obtain ⟨q,hq,e,ho⟩:=hown z hz
      obtain ⟨q',hq',e',ho'⟩:=hown z' hz'
      rw [ho] at hb;rw [ho'] at hb'
      rw [<-e,<-e',flat_dj bn q hq q' hq' b hb hb'] }
  have hfz:∀ b,S b->Fz (upds st u) G' w' b:=fun b hb=>by
    obtain ⟨h1,h2,h3⟩:=hS b hb
    refine ⟨h1,fun k hkb=>?_,?_⟩
    · by_cases hku:k ∈ u.map (·.1)
      · obtain ⟨z,hz,rfl⟩:=hmem k hku
        obtain ⟨q,hq,e,ho⟩:=hown z hz
        rw [ho] at hkb
        exact h3 (List.mem_flatMap.2 ⟨q,hq,hkb⟩)
      · rw [h0.ownB_out hku] at hkb
        rcases h2 with h2 | h2 | h2
        · exact h2.2.1 k hkb
        · have:=(I.lt k b hkb).1;omega
        · obtain ⟨k',hk',hb'⟩:=List.mem_flatMap.1 h2
          have:=I.dj _ _ _ hkb hb'
          subst this
          exact hku (hod _ hk')
    · show G.s0 b
      rcases h2 with h2 | h2 | h2
      · exact h2.2.2
      · exact I.m0 b (.inl (Nat.le_trans I.size h2))
      · obtain ⟨k',hk',hb'⟩:=List.mem_flatMap.1 h2
        exact I.m0 b (I.lt _ _ hb').2
  have hinst:Inst u ge S w' (upds st u) G' (Fz (upds st u) G' w'):=⟨hin,hga,hfz,fun b hb=>hb.1⟩
  refine ⟨G',Step.inv I { toStep0:=h0,rt:=fun k hk g h e l hr=>?_,bx:=fun k hk g T v hr=>?_ },hinst⟩
  · obtain ⟨z,hz,rfl⟩:=hmem k hk
    obtain ⟨q,hq,e',hc⟩:=cell z hz
    have hz2:=hin z hz
    have gg:=hga q hq
    rw [e'] at gg
    rw [hz2] at hr
    rcases hc with ⟨t,g',e2,l2,h1,h2,_⟩ | ⟨b,g',T,v,blk,arr,ty,h1,_⟩
    · rw [h1] at hr;cases hr
      rw [gg.1,gg.2.1];exact h2
    · rw [h1] at hr;cases hr
  · obtain ⟨z,hz,rfl⟩:=hmem k hk
    obtain ⟨q,hq,e',hc⟩:=cell z hz
    have hz2:=hin z hz
    have gg:=hga q hq
    rw [e'] at gg
    rw [hz2] at hr
    rcases hc with ⟨t,g',e2,l2,h1,_⟩ | ⟨b,g',T',v',blk,arr,ty,h1,h2,h3,h4,h5,h6⟩
    · rw [h1] at hr;cases hr
    · rw [h1] at hr;cases hr
      refine ⟨h3,arr,ty,?_,h6 _ _ _ hinst⟩
      rw [gg.2.2,h2];exact h4
/-! the call -/
theorem gone_gen {gs:List (Nat × Nat)} (h:∀ p ∈ gs,RT st p) (k:Nat):(upds st (goneU gs) k).gen=(st k).gen:=by
  by_cases hk:∃ p ∈ gs,rk p.1=k
  · obtain ⟨p,hp,rfl⟩:=hk
    rw [gone_at h hp]
    obtain ⟨h',e,l,hr⟩:=h p hp
    rw [hr];rfl
  · rw [goneU_out fun p hp e=>hk ⟨p,hp,e⟩]
theorem FitL_gone {gs:List (Nat × Nat)} (h:∀ p ∈ gs,RT st p):∀ (l:Lv) {ks:List (Nat × Nat × KS)} {vs:List Value},FitL st G l ks vs->FitL (upds st (goneU gs)) G l ks vs
  | [],[],[],_=>trivial
  | [],[],_ :: _,h=>h.elim
  | [],_ :: _,_,h=>by simp [FitL] at h
  | (i,sh) :: l,[],vs,h=>by cases sh <;> cases vs <;> exact h.elim
  | (i,sh) :: l,k :: ks,[],h=>by cases sh <;> exact h.elim
  | (i,sh) :: l,(b,g,k) :: ks,v :: vs,hf=>by
    have hb:upds st (goneU gs) (bk b)=st (bk b):=goneU_out fun p hp e=>rk_ne_bk _ _ e
    cases sh with
    | bx c=>exact ⟨hf.1,fun p hp=>by rw [gone_gen h];exact hf.2.1 p hp,by rw [hb];exact hf.2.2.1,FitL_gone h l hf.2.2.2⟩
    | cl f c=>exact ⟨hf.1,fun p hp=>by rw [gone_gen h];exact hf.2.1 p hp,by rw [hb];exact hf.2.2.1,FitL_gone h l hf.2.2.2⟩
    | _=>exact ⟨hf.1,fun p hp=>by rw [gone_gen h];exact hf.2.1 p hp,FitL_gone h l hf.2.2⟩
theorem newS_run {α:Type} {u:α}:∀ (sh:Shp) (d:Nat) {f:KS->Nat->M α},Rn (newS sh d f) st u->∃ k d',Rn (f k d') st u/\KFit sh k/\∀ p ∈ k.ids,(st (rk p.1)).gen < p.2
  | .v T,d,f,h=>⟨.v,d,h,trivial,fun p hp=>(by cases hp)⟩
  | .r e,d,f,h=>by
    unfold newS at h
    rw [Rn_get] at h
    exact ⟨_,_,h,trivial,fun p hp=>by simp only [KS.ids,List.mem_singleton] at hp;subst hp;exact Nat.lt_succ_self _⟩
  | .unit,d,f,h=>⟨.unit,d,h,trivial,fun p hp=>(by cases hp)⟩
  | .bx c,d,f,h=>(Rn_fail.1 h).elim
  | .cl _ c,d,f,h=>(Rn_fail.1 h).elim
  | .st A,d,f,h=>by
    obtain ⟨k,d',h1,h2,h3⟩:=newS_run A d (f:=fun k d'=>f (.st k) d') h
    exact ⟨.st k,d',h1,h2,h3⟩
  | .pair A B,d,f,h=>by
    obtain ⟨k,d1,h1,h2,h3⟩:=newS_run A d (f:=fun k d1=>newS B d1 fun k' d2=>f (.pair k k') d2) h
    obtain ⟨k',d2,j1,j2,j3⟩:=newS_run B d1 h1
    exact ⟨.pair k k',d2,j1,⟨h2,j2⟩,fun p hp=>(List.mem_append.1 hp).elim (h3 p) (j3 p)⟩
theorem newL_run {α:Type} {u:α}:∀ (l:Lv) (d:Nat) {f:List (Nat × Nat × KS)->Nat->M α},Rn (newL l d f) st u->∃ ks d',Rn (f ks d') st u/\∀ vs:List Value,vs.length=l.length->FitL st G l ks vs
  | [],d,f,h=>⟨[],d,h,fun vs hv=>by rw [List.length_eq_zero_iff.1 hv];trivial⟩
  | (i,sh) :: l,d,f,h=>by
    have gen:isBx sh=false->Rn (newS sh d fun k d1=>newL l d1 fun ks d2=>f ((0,0,k) :: ks) d2) st u->∃ ks d',Rn (f ks d') st u/\∀ vs:List Value,vs.length=((i,sh) :: l).length->FitL st G ((i,sh) :: l) ks vs:=fun hs h=>by
      obtain ⟨k,d1,h1,h2,h3⟩:=newS_run sh d h
      obtain ⟨ks,d2,j1,j2⟩:=newL_run l d1 h1
      refine ⟨_,d2,j1,fun vs hv=>?_⟩
      cases vs with
      | nil=>simp at hv
      | cons v vs =>
        have:=j2 vs (by simpa using hv)
        cases sh <;> first | exact ⟨h2,h3,this⟩ | (cases hs)
    cases sh with
    | bx c =>
      unfold newL at h
      rw [Rn_get] at h
      obtain ⟨k,d1,h1,h2,h3⟩:=newS_run c (d + 1) h
      obtain ⟨ks,d2,j1,j2⟩:=newL_run l d1 h1
      refine ⟨_,d2,j1,fun vs hv=>?_⟩
      cases vs with
      | nil=>simp at hv
      | cons v vs=>exact ⟨h2,h3,.inl (Nat.lt_succ_self _),j2 vs (by simpa using hv)⟩
    | cl f0 c=>exact (Rn_fail.1 (by simpa only [newL,newS] using h)).elim
    | _=>exact gen rfl h
theorem XL_len {P:Program} {S:Nat->Prop}:∀ (l:Lv) {vs:List Value} {x:den l.ty} {bs:List Nat},XL P l w S vs x bs->vs.length=l.length
  | [],vs,x,bs,h=>by rw [h.1];rfl
  | (i,sh) :: l,vs,x,bs,h=>by
    obtain ⟨c,r,b1,b2,rfl,_,_,h2⟩:=h
    rw [List.length_cons,List.length_cons,XL_len l h2]
theorem flat_cg {α β:Type} {f g:α->List β}:∀ (l:List α),(∀ x ∈ l,f x=g x)->l.flatMap f=l.flatMap g
  | [],_=>rfl
  | a :: l,h=>by rw [List.flatMap_cons,List.flatMap_cons,h a List.mem_cons_self,flat_cg l fun x hx=>h x (List.mem_cons_of_mem _ hx)]
theorem own_nd (I:InvM C st w G):∀ (od:List Nat),od.Nodup->(od.flatMap (ownB st G)).Nodup
  | [],_=>List.nodup_nil
  | k :: od,h=>by
    rw [List.nodup_cons] at h
    rw [List.flatMap_cons,List.nodup_append]
    refine ⟨I.nd k,own_nd I od h.2,fun b hb b' hb' e=>?_⟩
    subst e
    obtain ⟨k',hk',hb'⟩:=List.mem_flatMap.1 hb'
    have:=I.dj _ _ _ hb hb'
    subst this
    exact h.1 hk'
theorem upds_app:∀ (u v:U) (s:St),upds s (u ++ v)=upds (upds s u) v
  | [],_,_=>rfl
  | (k,c) :: u,v,s=>upds_app u v (upd s k c)
theorem ret_sw {P:Program} {S:Nat->Prop} {v:SV} {rs:List Value} (h:SX P st G w S v true rs):SW P st G w S (retSV v) (retV rs):=by
  cases v with
  | unit =>
    have h:rs=[]:=h
    subst h
    exact ⟨[],rfl,rfl⟩
  | pair a b =>
    obtain ⟨c,r,rfl,h1,h2⟩:=h
    cases b with
    | unit =>
      have h2:r=[]:=h2
      subst h2
      show SW P st G w S a (valS a c)
      cases a <;> first | exact ⟨c,rfl,h1⟩ | exact h1.elim
    | pair b1 b2 =>
      obtain ⟨c2,r2,rfl,h3,h4⟩:=h2
      refine ⟨valS a c :: valS b1 c2 :: r2,?_,⟨c,_,rfl,h1,c2,r2,rfl,h3,h4⟩⟩
      show retV _=_
      unfold retV
      rw [dif_neg (by simp)]
    | _=>exact h2.elim
  | _=>exact h.elim
/-- A call by shapes: the callee's contract gives the step. -/
theorem callS_core (O:CfgOk C cf) {g:FuncId} {sp:ShSpec} (hfs:cf.fs g=some sp) {vs:List Value} {v:SV} {dst:Option Tmp} {next:Act->World->Prop} (I:Inv C st a w G) (h:Rn (callS cf dst sp v) st us) (hv:SX C.P st G w (Fz st G w) v true vs)
    (hn:∀ a' w' G',Inv C (upds st us) a' w' G'->next a' w'):CF C.P g vs.toArray w fun v' w'=>next (a.put dst v') w':=by
  unfold callS at h
  obtain ⟨x,ks,gs,od,d1,h,A⟩:=rdL_run I.toInvM sp.ps v _ h hv
  rw [Rn_call] at h
  obtain ⟨y,hy,h⟩:=h
  obtain ⟨kr,d2,h,hfit⟩:=newL_run sp.rl d1 h
  simp only at h
  rw [Rn_bif] at h
  rcases h with ⟨hb,h⟩ | ⟨_,h⟩
  case inr=>exact (Rn_fail.1 h).elim
  simp only [Bool.and_eq_true,nodupB_iff] at hb
  obtain ⟨⟨⟨⟨⟨hnd,hod⟩,hcov⟩,_⟩,_⟩,_⟩:=hb
  have I1:=gone_inv I A.gone
  obtain ⟨hodn,_,hodg⟩:=List.nodup_append.1 hod
  have hsame:∀ q ∈ od,upds st (goneU gs) q=st q:=fun q hq=>goneU_out fun p hp e=>hodg q hq (rk p.1) (List.mem_map.2 ⟨p,hp,rfl⟩) e.symm
  have hown:∀ q ∈ od,ownB (upds st (goneU gs)) G q=ownB st G q:=fun q hq=>by unfold ownB;rw [hsame q hq]
  have hfm:od.flatMap (ownB (upds st (goneU gs)) G)=od.flatMap (ownB st G):=flat_cg od hown
  have sub:∀ k b,b ∈ ownB (upds st (goneU gs)) G k->b ∈ ownB st G k/\∀ p ∈ gs,k ≠ rk p.1:=fun k b hb=>by
    have hne:∀ p ∈ gs,k ≠ rk p.1:=fun p hp e=>by
      subst e
      unfold ownB at hb;rw [gone_at A.gone hp] at hb;cases hb
    refine ⟨?_,hne⟩
    unfold ownB at hb ⊢
    rw [goneU_out fun p hp e=>hne p hp e.symm] at hb
    exact hb
  have hS1:∀ b,Fz st G w b->Fz (upds st (goneU gs)) G w b:=fun b hb=>⟨hb.1,fun k hk=>hb.2.1 k (sub k b hk).1,hb.2.2⟩
  have hS2:∀ p ∈ gs,∀ b ∈ G.bl (rk p.1),Fz (upds st (goneU gs)) G w b:=fun p hp b hb=>by
    have ho:b ∈ ownB st G (rk p.1):=by rw [own_of_RT (A.gone p hp)];exact hb
    refine ⟨(I.lt _ _ ho).1,fun k hk=>?_,I.m0 _ (I.lt _ _ ho).2⟩
    obtain ⟨h1,h2⟩:=sub k b hk
    exact h2 p hp (I.dj _ _ _ h1 ho)
  have hX:=A.xs (Fz (upds st (goneU gs)) G w) hS1 (fun b h=>h.1) hS2
  have hcf:=O.fs g sp hfs w _ x y.1 y.2 _ _ hX (own_nd I.toInvM od hodn) (fun b hb=>⟨hb.1,fun hbs=>by
    obtain ⟨q,hq,hbq⟩:=List.mem_flatMap.1 hbs
    exact hb.2.1 q (by rw [hown q hq];exact hbq)⟩) (fun b hb=>by
    obtain ⟨q,hq,hbq⟩:=List.mem_flatMap.1 hb
    exact (I.lt _ _ hbq).1) hy
  refine hcf.mono fun v' w' hr=>?_
  obtain ⟨rs,bsr,bso,rfl,hR,hO,hnd2,hm⟩:=hr.ex
  obtain ⟨ge1,P1⟩:=putL_ok (st:=upds st (goneU gs)) (G:=G) (fun b h=>h.1) sp.rl kr y.1 (FitL_gone A.gone _ (hfit rs (XL_len _ hR))) hR
  obtain ⟨ge2,P2⟩:=putL_ok (st:=upds st (goneU gs)) (G:=G) (fun b h=>h.1) (outL sp.ps) (outK sp.ps ks) y.2 (FitL_out _ (FitL_gone A.gone _ A.fit)) hO
  have hbl:(ge1 ++ ge2).flatMap (·.2.2)=bsr ++ bso:=by rw [List.flatMap_append,<-P1.bls,<-P2.bls]
  obtain ⟨G',I',hi⟩:=inst_step I1 (u:=(putL sp.rl kr y.1).2 ++ (putL (outL sp.ps) (outK sp.ps ks) y.2).2) (ge:=ge1 ++ ge2) (w':=w') (od:=od) (S:=fun b=>b < w'.heap.size/\(Fz (upds st (goneU gs)) G w b\/w.heap.size<=b\/b ∈ od.flatMap (ownB st G))/\b ∉ bsr ++ bso) hnd
    (by rw [List.map_append,List.map_append,P1.keys,P2.keys])
    (fun z hz=>by
      rcases List.mem_append.1 hz with hz | hz
      · obtain ⟨q,hq,h1,h2⟩:=P1.cell z hz
        exact ⟨q,List.mem_append_left _ hq,h1,h2.imp id fun h=>h.mono fun _ _ _ h=>h.left⟩
      · obtain ⟨q,hq,h1,h2⟩:=P2.cell z hz
        exact ⟨q,List.mem_append_right _ hq,h1,h2.imp id fun h=>h.mono fun _ _ _ h=>h.right⟩)
    (fun q hq=>by
      have:=List.all_eq_true.1 hcov q hq
      obtain ⟨k,hk,e⟩:=List.any_eq_true.1 this
      have e:=Nat.eq_of_beq_eq_true e
      subst e
      rw [List.map_append];exact List.mem_append_right _ hk)
    (by rw [hbl];exact hnd2) (fun b hb=>by rw [hbl] at hb;rw [hfm];exact hm b hb) (fun b hb=>by rw [hbl,hfm];exact hb)
    hr.os hr.tape hr.output hr.size (fun b hb hn=>hr.block b hb (by rw [<-hfm];exact hn))
  have hus:upds st (goneU gs ++ ((putL sp.rl kr y.1).2 ++ (putL (outL sp.ps) (outK sp.ps ks) y.2).2))=upds (upds st (goneU gs)) ((putL sp.rl kr y.1).2 ++ (putL (outL sp.ps) (outK sp.ps ks) y.2).2):=upds_app _ _ _
  refine hn _ _ G' (wr_sound O h (by rw [hus];exact I') (fun p hp i e=>?_) (by rw [hus];exact ret_sw (P1.sx _ _ _ hi.left)))
  rcases List.mem_append.1 hp with hp | hp
  · obtain ⟨q,_,rfl⟩:=List.mem_map.1 hp
    exact sk_ne_rk i q.1 e.symm
  · have key:∀ z ∈ (putL sp.rl kr y.1).2 ++ (putL (outL sp.ps) (outK sp.ps ks) y.2).2,∀ i,z.1 ≠ sk i:=fun z hz i e=>by
      have:∃ q,RootC (upds st (goneU gs)) w' z q\/∃ u ge S,BoxC C.P (upds st (goneU gs)) G w' u ge S z q:=by
        rcases List.mem_append.1 hz with hz | hz
        · obtain ⟨q,_,_,h⟩:=P1.cell z hz;exact ⟨q,h.imp id fun h=>⟨_,_,_,h⟩⟩
        · obtain ⟨q,_,_,h⟩:=P2.cell z hz;exact ⟨q,h.imp id fun h=>⟨_,_,_,h⟩⟩
      obtain ⟨q,⟨t,_,_,_,h1,_⟩ | ⟨_,_,_,b,_,_,_,_,_,_,h1,_⟩⟩:=this
      · rw [h1] at e;exact sk_ne_rk _ _ e.symm
      · rw [h1] at e;exact sk_ne_bk _ _ e.symm
    exact key p hp i e
theorem snd_callShape (O:CfgOk C cf) {g:FuncId} {args:Array Operand} {tys:Array TypeId} {sp:ShSpec} (hfn:cf.fn g=none) (hfs:cf.fs g=some sp):Snd C cf ⟨dst,.call ⟨.value (.func g),args,tys⟩,type,pos,after,guard⟩:=by
  intro st a w G us next Q I h hn
  simp only [exec,hfn,hfs] at h
  obtain ⟨v,hv,h⟩:=opds_run I h
  unfold Oper.wp
  rw [call_run (g:=g) (fi:=#[]) (ca:=#[]) rfl]
  have e:#[] ++ args.map a.eval ++ #[]=(args.toList.map a.eval).toArray:=by
    rw [<-Array.toList_map]
    show _=args.map a.eval
    rw [Array.append_empty,Array.empty_append]
  rw [e]
  exact (callS_core O hfs I h hv hn) _ a next Q fun v' w' hr=>hr
theorem appSV_sx {P:Program} {S:Nat->Prop} {cw:SV} {us:List Value}:∀ (v:SV) {vs:List Value},SX P st G w S v true vs->SX P st G w S cw true us->SX P st G w S (appSV v cw) true (vs ++ us)
  | .pair a b,vs,h,h'=>by
    obtain ⟨c,r,rfl,h1,h2⟩:=h
    exact ⟨c,r ++ us,rfl,h1,appSV_sx b h2 h'⟩
  | .unit,vs,h,h'=>by
    have h:vs=[]:=h
    subst h;exact h'
  | .val _ _,_,h,_=>h.elim
  | .nil,_,h,_=>h.elim
  | .ref _ _ _,_,h,_=>h.elim
  | .sub _ _ _ _ _ _,_,h,_=>h.elim
  | .vw _ _ _ _ _,_,h,_=>h.elim
  | .sap _ _ _ _ _ _ _ _,_,h,_=>h.elim
  | .pel _ _ _ _,_,h,_=>h.elim
  | .pbx _ _ _,_,h,_=>h.elim
  | .pix _ _ _ _,_,h,_=>h.elim
  | .st _,_,h,_=>h.elim
  | .tup _,_,h,_=>h.elim
  | .clo _ _ _,_,h,_=>h.elim
  | .mp _ _,_,h,_=>h.elim
theorem snd_callValue (O:CfgOk C cf) {t:Tmp} {args:Array Operand} {tys:Array TypeId}:Snd C cf ⟨dst,.call ⟨.value (.tmp t),args,tys⟩,type,pos,after,guard⟩:=by
  intro st a w G us next Q I h hn
  simp only [exec] at h
  obtain ⟨v,_,hf,h⟩:=slot_run I h
  split at h
  case h_3=>exact (Rn_fail.1 h).elim
  case h_2 =>
    rename_i g ca _
    split at h
    case h_2=>exact (Rn_fail.1 h).elim
    rename_i sp hfs
    obtain ⟨v,hv,h⟩:=opds_run I h
    obtain ⟨c,hc,vs0,us0,rfl,u1,u2⟩:=hf
    have u1:vs0=[]:=u1
    subst u1
    unfold Oper.wp
    rw [call_run (g:=g) (fi:=#[]) (ca:=us0.toArray) (by exact hc)]
    have e:#[] ++ args.map a.eval ++ us0.toArray=(args.toList.map a.eval ++ us0).toArray:=by
      rw [Array.empty_append,<-List.append_toArray,<-Array.toList_map]
    rw [e]
    exact (callS_core O hfs I h (appSV_sx v hv u2) hn) _ a next Q fun v' w' hr=>hr
  rename_i A R F _
  obtain ⟨v,hv,h⟩:=opds_run I h
  unfold callM at h
  obtain ⟨x,hx,h⟩:=argsM_run O I.toInvM A [] v h hv
  rw [Rn_call] at h
  obtain ⟨y,hy,h⟩:=h
  simp only [List.any_nil,cond_false] at h
  rw [Rn_bif] at h
  rcases h with ⟨hT,h⟩ | ⟨_,h⟩
  case inr=>exact (Rn_fail.1 h).elim
  obtain ⟨c,hc,f,fi,ca,rfl,_,hcall⟩:=hf
  unfold Oper.wp
  rw [call_run (g:=f) (fi:=fi) (ca:=ca) (by exact hc)]
  have e:fi ++ args.map a.eval ++ ca=fi ++ (args.toList.map a.eval).toArray ++ ca:=by rw [<-Array.toList_map]
  rw [e]
  refine hcall w (Nat.le_refl _) (fun b _=>rfl) _ x y hx hy _ a next Q fun v' w' hr=>?_
  obtain ⟨G',I'⟩:=ret_sound O I hT h hr
  exact hn _ _ _ I'
end
end Go.Proofs.YtmlgfaojfmkdnaaGreatDoor.E
namespace Go.Proofs.YtmlgfaojfmkdnaaGreatDoor.E
open Go Go.RowKit
set_option linter.unusedVariables false
set_option linter.unusedSimpArgs false
section
variable {C:Cx} {cf:Cfg} {dst:Option Tmp} {type:TypeId} {pos:String} {after:Array Edge} {guard:Option (Nat × Bool)} {st:St} {a:Act} {w w':World} {G:Gh} {us:U}
theorem copyL_len {α:Type} {l l2:List α} {lo m:Nat} (h:lo + m<=l.length):(copyL l l2 lo m).length=l.length:=by
  simp only [copyL,List.length_append,List.length_take,List.length_drop];omega
theorem copyL_get {α:Type} {l l2:List α} {lo m:Nat} (h:lo + m<=l.length) (i:Nat):(copyL l l2 lo m)[i]?=if lo<=i/\i < lo + min l2.length m then l2[i - lo]? else l[i]?:=by
  simp only [copyL]
  have h1:(l.take lo).length=lo:=by rw [List.length_take];omega
  have h2:(l2.take (min l2.length m)).length=min l2.length m:=by rw [List.length_take];omega
  by_cases ha:i < lo
  · rw [if_neg (by omega),List.append_assoc,List.getElem?_append_left (by omega),List.getElem?_take,if_pos ha]
  · by_cases hb:i < lo + min l2.length m
    · rw [if_pos (by omega),List.append_assoc,List.getElem?_append_right (by omega),List.getElem?_append_left (by omega),List.getElem?_take,if_pos (by omega),h1]
    · rw [if_neg (by omega),List.getElem?_append_right (by rw [List.length_append];omega),List.length_append,h1,h2,List.getElem?_drop]
      congr 1;omega
/-- An owned list of plain elements, part of it written over in memory. -/
theorem TC_copy {P:Program} {e:Ty} (hm:e.mem=false) {b o n c:Nat} {arr:Array Value} {ty:TypeId} {l l2:List (den e)} {cs2:List Value} {bss2:List (List Nat)} {lo m:Nat} (hb:w.heap[b]?=some (.cells arr ty (0,0))) (hn:n=l.length) (hc:n<=c) (hfit:o + c * e.sz<=arr.size)
    (hel:∀ (i:Nat) y,l[i]?=some y->TC e w (seg arr.toList (o + i * e.sz) e.sz) y []) (hE:Els e w cs2 l2 bss2) (hlo:lo + m<=l.length) :
    TC (.sl e) (w.setRow b (setSeg arr.toList (o + lo * e.sz) (cs2.take (min l2.length m * e.sz))).toArray) [.slice (some ⟨b,o,none⟩) n c] (copyL l l2 lo m) [b]:=by
  obtain ⟨he1,he2,he3⟩:=hE
  have hL:arr.toList.length=arr.size:=Array.length_toList
  have hsz:(o + lo * e.sz) + (cs2.take (min l2.length m * e.sz)).length<=arr.toList.length:=by
    rw [List.length_take,he1,hL]
    have h1:min l2.length m * e.sz<=m * e.sz:=Nat.mul_le_mul_right _ (Nat.min_le_right _ _)
    have h2:lo * e.sz + m * e.sz<=c * e.sz:=by rw [<-Nat.add_mul];exact Nat.mul_le_mul_right _ (by omega)
    have h3:=Nat.min_le_left (min l2.length m * e.sz) (l2.length * e.sz)
    omega
  have hk:(cs2.take (min l2.length m * e.sz)).length=min l2.length m * e.sz:=by
    rw [List.length_take,he1]
    exact Nat.min_eq_left (Nat.mul_le_mul_right _ (Nat.min_le_left _ _))
  have hcl:=copyL_len (l2:=l2) hlo
  refine .inr ⟨b,o,n,c,_,ty,List.replicate n [],rfl,?_,by rw [hn];exact hcl.symm,setRow_get hb _ b |>.trans (by rw [if_pos rfl]),hc,?_,by simp,fun i y bi hy hbi=>?_⟩
  · have:(List.replicate n ([]:List Nat)).flatten=[]:=by simp
    rw [this]
  · rw [List.size_toArray,setSeg_len hsz,hL];exact hfit
  · have hbi:bi=[]:=by
      rw [List.getElem?_replicate] at hbi
      split at hbi
      · simpa using hbi.symm
      · cases hbi
    subst hbi
    rw [copyL_get hlo] at hy
    have hrd:(setSeg arr.toList (o + lo * e.sz) (cs2.take (min l2.length m * e.sz))).toArray.toList=setSeg arr.toList (o + lo * e.sz) (cs2.take (min l2.length m * e.sz)):=rfl
    rw [hrd]
    by_cases hi:lo<=i/\i < lo + min l2.length m
    · rw [if_pos hi] at hy
      have hlt:i - lo < l2.length:=(List.getElem?_eq_some_iff.1 hy).1
      obtain ⟨bi2,hb2⟩:=some_of_len he2.symm hy
      have h1:=he3 (i - lo) y bi2 hy hb2
      have h2:=TC_of_RX P e (w':=w.setRow b (setSeg arr.toList (o + lo * e.sz) (cs2.take (min l2.length m * e.sz))).toArray) hm (RX_of_TC P e (S:=fun _=>True) h1 fun _ _=>trivial)
      have hseg:seg (setSeg arr.toList (o + lo * e.sz) (cs2.take (min l2.length m * e.sz))) (o + i * e.sz) e.sz=seg cs2 ((i - lo) * e.sz) e.sz:=by
        apply List.ext_getElem?
        intro j
        rw [seg_get,seg_get]
        by_cases hj:j < e.sz
        · rw [if_pos hj,if_pos hj,setSeg_get hsz,hk]
          have h5:i * e.sz=lo * e.sz + (i - lo) * e.sz:=by rw [<-Nat.add_mul];congr 1;omega
          have h6:(i - lo + 1) * e.sz<=min l2.length m * e.sz:=Nat.mul_le_mul_right _ (by omega)
          rw [Nat.succ_mul] at h6
          rw [if_pos (by omega),List.getElem?_take,if_pos (by omega)]
          congr 1;omega
        · rw [if_neg hj,if_neg hj]
      rw [hseg];exact h2
    · rw [if_neg hi] at hy
      have h1:=hel i y hy
      have h2:=TC_of_RX P e (w':=w.setRow b (setSeg arr.toList (o + lo * e.sz) (cs2.take (min l2.length m * e.sz))).toArray) hm (RX_of_TC P e (S:=fun _=>True) h1 fun _ _=>trivial)
      have hseg:seg (setSeg arr.toList (o + lo * e.sz) (cs2.take (min l2.length m * e.sz))) (o + i * e.sz) e.sz=seg arr.toList (o + i * e.sz) e.sz:=by
        apply List.ext_getElem?
        intro j
        rw [seg_get,seg_get]
        by_cases hj:j < e.sz
        · rw [if_pos hj,if_pos hj,setSeg_get hsz,hk,if_neg]
          rcases Nat.lt_or_ge i lo with h | h
          · have h6:(i + 1) * e.sz<=lo * e.sz:=Nat.mul_le_mul_right _ h
            rw [Nat.succ_mul] at h6
            omega
          · have h6:(lo + min l2.length m) * e.sz<=i * e.sz:=Nat.mul_le_mul_right _ (by omega)
            rw [Nat.add_mul] at h6
            omega
        · rw [if_neg hj,if_neg hj]
      rw [hseg];exact h2
theorem TC_flat (P:Program) {e:Ty} (hm:e.mem=false) {cs:List Value} {x:den e} {bs:List Nat} (h:TC e w cs x bs):TC e w' cs x [] :=
  TC_of_RX P e hm (RX_of_TC P e (S:=fun _=>True) h fun _ _=>trivial)
theorem ref_vw {e:Ty} {hd:Value} {l:List (den e)} {bs:List Nat} (h:TC (.sl e) w [hd] l bs):VwAt hd e 0 (l.length:Int) hd:=by
  rcases h with ⟨h1,h2,_⟩ | ⟨b,o,n,c,arr,ty,bss,h1,_,h3,_,h5,_⟩
  · have h1:hd=.slice none 0 0:=by simpa using h1
    have h2:l=[]:=h2
    subst h2
    exact ⟨none,0,0,none,0,h1,by rw [h1];rfl,Nat.le_refl _,.inl rfl⟩
  · have h1:hd=.slice (some ⟨b,o,none⟩) n c:=by simpa using h1
    have h3:n=l.length:=h3
    exact ⟨_,n,c,_,c,h1,by rw [h1,h3];rfl,by rw [Int.toNat_natCast,<-h3];exact h5,.inr ⟨b,o,rfl,by simp⟩⟩
theorem copy_core (O:CfgOk C cf) (I:Inv C st a w G) {t g h:Nat} {e:Ty} (hm:e.mem=false) {l l2:List (den e)} (hr:st (rk t)=.root g h e l) {td ts' ty:TypeId} (hty:cf.ty td=some (.sl e)) {lo m:Int} {v s:Value} (h0:0<=lo) (h1:0<=m) (hlm:lo + m<=(l.length:Int)) (hv:VwAt (G.hd (rk t)) e lo m v)
    {news:List Value} {nss:List (List Nat)} (hx:Src w s l2.length news) (hE:Els e w news l2 nss) :
    ∃ w' G',(Builtin.copy_ #[td,ts'] ty #[v,s]).run C.P w=.ok (.int .i64 ((min l2.length m.toNat:Nat):Int)) w'/\Inv C (upds st [(rk t,.root g (h + 1) e (copyL l l2 lo.toNat m.toNat))]) a w' G':=by
  have ho:=O.ty _ _ hty
  obtain ⟨ud,hud,hu'⟩:=ho.und
  cases ud <;> simp only [UnOk] at hu'
  rename_i et
  obtain ⟨i,hi,hisz,_⟩:=(O.ty _ _ hu').info
  have hTC:=I.rt _ _ _ _ _ hr
  -- what a change of this root is
  have hs:SX C.P st G w (Fz st G w) (.ref t g e) false [G.hd (rk t)]:=⟨_,rfl,by
    obtain ⟨z,e1,e2⟩:=TC_hd hTC
    simp only [List.cons.injEq,and_true] at e1
    rw [e1];exact e2,by rw [hr];exact Nat.le_refl _,fun h' e' l' hr'=>by rw [hr] at hr';cases hr';exact ⟨rfl,rfl⟩⟩
  have hres:Rn (res cf 1 (.sl e) (.ref t g e) fun l'=>M.ret l') st l:=by
    unfold res
    rw [Rn_get,hr]
    simp only [dite_true]
    rw [Rn_chk,Rn_ret]
    exact ⟨Nat.beq_refl g,rfl⟩
  obtain ⟨x,hx1,_,hw⟩:=wb_lens O I.toInvM 1 (.sl e) (.ref t g e) hres hs
  rw [Rn_ret] at hx1
  subst hx1
  obtain ⟨ts,bs,Uf,k1,k2,L⟩:=hw (copyL x l2 lo.toNat m.toNat) (fun U ts=>M.ret (U,ts)) ([(rk t,.root g (h + 1) e (copyL x l2 lo.toNat m.toNat))],[t]) (by
    unfold wb
    rw [Rn_get,hr]
    simp only
    rw [Rn_bif]
    refine .inl ⟨by simp,?_⟩
    rw [Rn_chk,Rn_ret]
    exact ⟨Nat.beq_refl g,rfl⟩)
  rw [Rn_ret] at k1
  simp only [Prod.mk.injEq] at k1
  obtain ⟨k1,rfl⟩:=k1
  have hin:∀ (w':World) (bs':List Nat),TC (.sl e) w' [G.hd (rk t)] (copyL x l2 lo.toNat m.toNat) bs'->bs'.Nodup->(∀ b ∈ bs',b ∈ bs/\b < w'.heap.size)->w'.os=w.os->w'.tape=w.tape->w'.output=w.output->w.heap.size<=w'.heap.size->(∀ b,b < w.heap.size->b ∉ bs->w'.heap[b]?=w.heap[b]?) →
      ∃ G',Inv C (upds st [(rk t,.root g (h + 1) e (copyL x l2 lo.toNat m.toNat))]) a w' G':=fun w' bs' q1 q2 q3 q4 q5 q6 q7 q8=>by
    have:=wbStep I L (by simp) q1 q2 (fun b hb=>⟨.inl (q3 b hb).1,(q3 b hb).2⟩) q4 q5 q6 q7 q8
    rw [k1] at this
    exact this
  obtain ⟨aa,len,cap,aa',c',e1,rfl,e3,e4⟩:=hv
  have hsz:i.size=e.sz:=hisz
  -- the cells that are read
  have hlt:(news.take (min l2.length m.toNat * e.sz)).length=min l2.length m.toNat * e.sz:=by
    rw [List.length_take,hE.1]
    exact Nat.min_eq_left (Nat.mul_le_mul_right _ (Nat.min_le_left _ _))
  have hone:∀ u ∈ news.take (min l2.length m.toNat * e.sz),u.oneCell'=true:=fun u hu=>hE.one u (List.mem_of_mem_take hu)
  have hrun:∀ (w':World),(match aa' with | some ad=>(storeCells ad (news.take (min l2.length m.toNat * e.sz))).run C.P w | none=>.ok () w)=.ok () w' →
      (Builtin.copy_ #[td,ts'] ty #[.slice aa' m.toNat c',s]).run C.P w=.ok (.int .i64 ((min l2.length m.toNat:Nat):Int)) w':=fun w' hst=>by
    rcases hx with ⟨ad,cc,rfl,hc⟩ | ⟨cc,rfl,hz,hz2⟩
    · have hf:=run_firstCells_some (P:=C.P) w i.size (min l2.length m.toNat) ad l2.length cc (news.take (min l2.length m.toNat * e.sz)) (by rw [hlt,hsz]) (fun j u hj=>hc j u (by
        rw [List.getElem?_take] at hj
        split at hj
        · exact hj
        · cases hj))
      cases aa' with
      | none =>
        cases hst
        simp [Builtin.copy_,run_underlying hud,sizeOf,typeInfo,hi,Builtin.lenOf,hf,goInt]
      | some ad' =>
        simp [Builtin.copy_,run_underlying hud,sizeOf,typeInfo,hi,Builtin.lenOf,hf,hst,goInt]
    · have hf:=run_firstCells_none (P:=C.P) w i.size (min l2.length m.toNat) l2.length cc
      subst hz2
      have hst:(match aa' with | some ad=>(storeCells ad []).run C.P w | none=>.ok () w)=.ok () w':=by
        have:=hst
        simp only [List.take_nil] at this
        exact this
      cases aa' with
      | none =>
        cases hst
        simp [Builtin.copy_,run_underlying hud,sizeOf,typeInfo,hi,Builtin.lenOf,hf,goInt]
      | some ad' =>
        simp [Builtin.copy_,run_underlying hud,sizeOf,typeInfo,hi,Builtin.lenOf,hf,hst,goInt]
  by_cases hk:min l2.length m.toNat=0
  · have he:copyL x l2 lo.toNat m.toNat=x:=by simp [copyL,hk]
    obtain ⟨G',I'⟩:=hin w bs (by rw [he];exact k2) (L.nd (by simp)) (fun b hb=>⟨hb,TC_lt _ k2 b hb⟩) rfl rfl rfl (Nat.le_refl _) (fun _ _ _=>rfl)
    refine ⟨w,G',hrun w ?_,I'⟩
    rw [hk,Nat.zero_mul,List.take_zero]
    cases aa' with
    | none=>rfl
    | some ad=>simp [storeCells]
  · rcases e4 with e4 | ⟨b,o,rfl,rfl⟩
    · omega
    · rcases k2 with ⟨q1,_⟩ | ⟨b',o',n,c,arr,ty',bss,q1,q2,q3,q4,q5,q6,q7,q8⟩
      · rw [e1] at q1;simp at q1
      · rw [e1] at q1
        simp only [List.cons.injEq,and_true,Value.slice.injEq,Option.some.injEq,Addr.mk.injEq] at q1
        obtain ⟨⟨rfl,rfl⟩,rfl,rfl⟩:=q1
        have q3:len=x.length:=q3
        have hlo:lo.toNat + m.toNat<=x.length:=by omega
        have hT:=TC_copy (P:=C.P) (l2:=l2) (cs2:=news) hm q4 q3 q5 q6 (fun i y hy=>by
          have hil:i < bss.length:=by
            have:=(List.getElem?_eq_some_iff.1 hy).1
            omega
          exact TC_flat C.P hm (q8 i y _ hy (List.getElem?_eq_getElem hil))) hE hlo
        have hbb:b ∈ bs:=by rw [q2];exact List.mem_cons_self
        have hbs:b < w.heap.size:=(Array.getElem?_eq_some_iff.1 q4).1
        obtain ⟨G',I'⟩:=hin (w.setRow b (setSeg arr.toList (o + lo.toNat * e.sz) (news.take (min l2.length m.toNat * e.sz))).toArray) [b] (by rw [e1];exact hT) (by simp) (fun b' hb'=>by
          simp only [List.mem_singleton] at hb'
          subst hb'
          exact ⟨hbb,by rw [setRow_sz];exact hbs⟩) rfl rfl rfl (by rw [setRow_sz];exact Nat.le_refl _) (fun b' hb' hnb=>by
          rw [setRow_get q4,if_neg (fun e=>hnb (by rw [e];exact hbb))])
        refine ⟨_,G',hrun _ ?_,I'⟩
        have hL:arr.toList.length=arr.size:=Array.length_toList
        have hfit:o + lo.toNat * e.sz + 0 + (news.take (min l2.length m.toNat * e.sz)).length<=arr.size:=by
          rw [hlt]
          have h1:min l2.length m.toNat * e.sz<=m.toNat * e.sz:=Nat.mul_le_mul_right _ (Nat.min_le_right _ _)
          have h2:lo.toNat * e.sz + m.toNat * e.sz<=cap * e.sz:=by rw [<-Nat.add_mul];exact Nat.mul_le_mul_right _ (by omega)
          omega
        have:=run_storeCells_at C.P b (o + lo.toNat * e.sz) ty' (news.take (min l2.length m.toNat * e.sz)) 0 arr w q4 hfit hone
        simpa [setSeg] using this
theorem snd_copy (O:CfgOk C cf) {args:Array Operand} {tys:Array TypeId}:Snd C cf ⟨dst,.call ⟨.builtin .copy,args,tys⟩,type,pos,after,guard⟩:=by
  intro st a w G us next Q I h hn
  simp only [exec] at h
  split at h
  case h_2=>exact (Rn_fail.1 h).elim
  rename_i d s t tx hx ht
  have hx:=arr_of hx
  have ht:=arr_of ht
  subst hx;subst ht
  obtain ⟨v,hv,h⟩:=opd_run I h
  obtain ⟨u,hu,h⟩:=opd_run I h
  split at h
  case h_2=>exact (Rn_fail.1 h).elim
  rename_i e hty
  rw [Rn_bif] at h
  rcases h with ⟨_,h⟩ | ⟨hm,h⟩
  · exact (Rn_fail.1 h).elim
  obtain ⟨c,hc1,hc2⟩:=SW_cells hu (fun b e=>by subst e;simp only [res] at h;exact (Rn_fail.1 h).elim)
  obtain ⟨l2,r1,h,r3⟩:=res_run O I.toInvM 2 (.sl e) u false h hc2
  obtain ⟨xv,hxv⟩:=List.length_eq_one_iff.1 (RX_len _ _ _ _ _ _ r1)
  subst hxv
  have hax:a.eval s=xv:=by rw [hc1,r3 rfl];rfl
  obtain ⟨news,j1,j2⟩:=els_RX hm r1
  have fin:∀ (t0 g h0:Nat) (l:List (den e)) (lo m:Int),st (rk t0)=.root g h0 e l->0<=lo->0<=m->lo + m<=(l.length:Int)->VwAt (G.hd (rk t0)) e lo m (a.eval d) →
      Rn (wr cf dst (.val (.int .i64) ((min l2.length m.toNat:Nat):Int)) [(rk t0,.root g (h0 + 1) e (copyL l l2 lo.toNat m.toNat))]) st us →
      Oper.wp C.P ⟨dst,.call ⟨.builtin .copy,[d,s].toArray,[t,tx].toArray⟩,type,pos,after,guard⟩ a w next Q:=fun t0 g h0 l lo m hr q0 q1 q2 q3 h=>by
    obtain ⟨w',G',hrun,I'⟩:=copy_core O I hm (ts':=tx) (ty:=type) hr hty q0 q1 q2 q3 j1 j2
    rw [<-hax] at hrun
    refine wp_value (v:=.int .i64 ((min l2.length m.toNat:Nat):Int)) (w':=w') ?_ (hn _ _ G' (wr_sound O h I' (fun p hp i e=>by
      simp only [List.mem_singleton] at hp
      subst hp
      exact sk_ne_rk _ _ e.symm) (SW_val (c:=[_]) rfl)))
    simp only [execOp,resolve,invoke,builtin,Sem.run_bind,Sem.run_pure,Result.andThen_ok,List.map_toArray,List.map_cons,List.map_nil]
    rw [hrun];rfl
  unfold copyM at h
  split at h
  · rename_i t0 g e0 _ _
    rw [Rn_get] at h
    split at h
    case h_2=>exact (Rn_fail.1 h).elim
    rename_i g' h0 e' l hr
    split at h
    case isFalse=>exact (Rn_fail.1 h).elim
    rename_i ee;subst ee
    rw [Rn_chk] at h
    obtain ⟨hg,h⟩:=h
    have hg:=Nat.eq_of_beq_eq_true hg
    subst hg
    obtain ⟨c',e1,z,rfl,_,_,hz⟩:=hv
    obtain ⟨rfl,_⟩:=hz _ _ _ hr
    have e1:a.eval d=G.hd (rk t0):=e1
    exact fin t0 g h0 l 0 (l.length:Int) hr (Int.le_refl _) (by omega) (by omega) (by rw [e1];exact ref_vw (I.rt _ _ _ _ _ hr)) h
  · rename_i t0 g lo m e0 _ _
    rw [Rn_get] at h
    split at h
    case h_2=>exact (Rn_fail.1 h).elim
    rename_i g' h0 e' l hr
    split at h
    case isFalse=>exact (Rn_fail.1 h).elim
    rename_i ee;subst ee
    rw [Rn_chk] at h
    obtain ⟨hg,h⟩:=h
    have hg:=Nat.eq_of_beq_eq_true hg
    subst hg
    obtain ⟨c',e1,z,rfl,_,_,hz⟩:=hv
    obtain ⟨e9,k1,k2,k3,k4⟩:=hz _ _ _ hr
    have e1:a.eval d=z:=e1
    rw [<-e9] at k4
    exact fin t0 g h0 l lo m hr k1 k2 k3 (by rw [e1];exact k4) h
  · exact (Rn_fail.1 h).elim
end
end Go.Proofs.YtmlgfaojfmkdnaaGreatDoor.E
namespace Go.Proofs.YtmlgfaojfmkdnaaGreatDoor.E
open Go Go.RowKit
set_option linter.unusedVariables false
set_option linter.unusedSimpArgs false
section
variable {C:Cx} {cf:Cfg} {dst:Option Tmp} {type:TypeId} {pos:String} {after:Array Edge} {guard:Option (Nat × Bool)} {st:St} {a:Act} {w w':World} {G:Gh} {α:Type} {us:U}
theorem flat_bi {k j:Nat} {bi:List Nat} (h:(List.replicate k ([]:List Nat))[j]?=some bi):bi=[]:=by
  rw [List.getElem?_replicate] at h
  split at h
  · cases h;rfl
  · cases h
/-- What an append does to memory, for elements that lead nowhere. -/
theorem app_flat (O:CfgOk C cf) {t:TypeId} {e:Ty} (hty:cf.ty t=some (.sl e)) (hm:e.mem=false) (hw:e.ownable=true) (hze:(zeroSV e).isSome=true) {ty:TypeId} {s x:Value} {l m:List (den e)} {bs:List Nat}
    (hs:TC (.sl e) w [s] l bs) {news:List Value} {nss:List (List Nat)} (hx:Src w x m.length news) (he:Els e w news m nss) (hlim:l.length + m.length<=lim) :
    ∃ v w' bv,(Builtin.append_ #[t,t] ty #[s,x]).run C.P w=.ok v w'/\(w'.os=w.os/\w'.tape=w.tape/\w'.output=w.output/\w.heap.size<=w'.heap.size)/\(∀ b,b < w.heap.size->(¬ ∃ o n c,s=.slice (some ⟨b,o,none⟩) n c)->w'.heap[b]?=w.heap[b]?) ∧
      TC (.sl e) w' [s] l bs/\TC (.sl e) w' [v] (l ++ m) bv/\bv.Nodup ∧
      (((∀ b,b < w.heap.size->w'.heap[b]?=w.heap[b]?)/\∀ b ∈ bv,w.heap.size<=b/\b < w'.heap.size)\/(∀ b ∈ bv,∃ o n c,s=.slice (some ⟨b,o,none⟩) n c)):=by
  have ho:=O.ty _ _ hty
  obtain ⟨ud,hud,hu'⟩:=ho.und
  cases ud <;> simp only [UnOk] at hu'
  rename_i et
  have hoe:=O.ty _ _ hu'
  obtain ⟨i,hi,hsz,hby,hb0,hzz⟩:=hoe.info
  have hlim':l.length + m.length<=1099511627776:=hlim
  have hbytes:(l.length + m.length) * i.bytes<=140737488355328:=Nat.le_trans (Nat.mul_le_mul hlim' hby) (by decide)
  have hslt:=TC_lt _ hs
  -- a new row
  have grown:∀ (z:Value) (cap:Nat) (olds:List Value) (oss:List (List Nat)),Els e w olds l oss->l.length + m.length<=cap->z.cells.size=e.sz->(run:(Builtin.append_ #[t,t] ty #[s,x]).run C.P w=.ok (.slice (some ⟨w.heap.size,0,none⟩) (l.length + m.length) cap) (w.drew.alloc (.cells (olds.toArray ++ news.toArray ++ Builtin.zeroCells z.cells (cap - (l.length + m.length))) et))) →
      ∃ v w' bv,(Builtin.append_ #[t,t] ty #[s,x]).run C.P w=.ok v w'/\(w'.os=w.os/\w'.tape=w.tape/\w'.output=w.output/\w.heap.size<=w'.heap.size)/\(∀ b,b < w.heap.size->(¬ ∃ o n c,s=.slice (some ⟨b,o,none⟩) n c)->w'.heap[b]?=w.heap[b]?) ∧
        TC (.sl e) w' [s] l bs/\TC (.sl e) w' [v] (l ++ m) bv/\bv.Nodup ∧
        (((∀ b,b < w.heap.size->w'.heap[b]?=w.heap[b]?)/\∀ b ∈ bv,w.heap.size<=b/\b < w'.heap.size)\/(∀ b ∈ bv,∃ o n c,s=.slice (some ⟨b,o,none⟩) n c)):=by
    intro z cap olds oss hE hcap hzs run
    have hEA:=hE.app he
    have hmul:(l.length + m.length) * e.sz + (cap - (l.length + m.length)) * e.sz=cap * e.sz:=by rw [<-Nat.add_mul];congr 1;omega
    have hgets:∀ b,b < w.heap.size->(w.drew.alloc (.cells (olds.toArray ++ news.toArray ++ Builtin.zeroCells z.cells (cap - (l.length + m.length))) et)).heap[b]?=w.heap[b]?:=fun b hb=>by
      rw [alloc_get,if_neg (by show b ≠ w.heap.size;omega)];rfl
    refine ⟨_,_,[w.heap.size],run,⟨rfl,rfl,rfl,by rw [alloc_size];exact Nat.le_succ _⟩,fun b hb _=>hgets b hb,TC_congr _ (fun b hb=>hgets b (hslt b hb)) hs,
      .inr ⟨w.heap.size,0,_,cap,_,et,List.replicate (l.length + m.length) [],rfl,by simp,(List.length_append).symm,by rw [alloc_get];exact if_pos rfl,hcap,?_,by simp,fun j y bi hy hbi=>?_⟩,by simp,.inl ⟨hgets,fun b hb=>?_⟩⟩
    · have:=hE.1;have:=he.1
      simp only [Array.size_append,List.size_toArray,size_zeroCells,hzs,Nat.zero_add]
      rw [<-hmul,Nat.add_mul];omega
    · rw [flat_bi hbi]
      have hj:j < (l ++ m).length:=(List.getElem?_eq_some_iff.1 hy).1
      have h2:(j + 1) * e.sz<=(l ++ m).length * e.sz:=Nat.mul_le_mul_right _ hj
      rw [Nat.succ_mul,<-hEA.1] at h2
      have e1:seg (olds.toArray ++ news.toArray ++ Builtin.zeroCells z.cells (cap - (l.length + m.length))).toList (0 + j * e.sz) e.sz=seg (olds ++ news) (j * e.sz) e.sz:=by
        rw [Nat.zero_add]
        simp only [Array.toList_append]
        apply List.ext_getElem?
        intro k
        rw [seg_get,seg_get]
        by_cases hk:k < e.sz
        · rw [if_pos hk,if_pos hk,List.getElem?_append,if_pos (by omega)]
        · rw [if_neg hk,if_neg hk]
      rw [e1]
      have hjb:j < (oss ++ nss).length:=by rw [hEA.2.1];exact hj
      exact TC_flat C.P hm (hEA.2.2 j y _ hy (List.getElem?_eq_getElem hjb))
    · simp only [List.mem_singleton] at hb;subst hb
      exact ⟨Nat.le_refl _,by rw [alloc_size];exact Nat.lt_succ_self _⟩
  by_cases hnew:(∃ ad c,s=.slice (some ad) l.length c/\l.length + m.length<=c)\/(∃ c,s=.slice none 0 c/\m.length=0)
  · -- in place
    rcases hs with ⟨k1,k2,k3⟩ | ⟨b,o,n,c,arr,bt,bss,k1,k2,k3,k4,k5,k6,k7,k8⟩
    · have k1:s=.slice none 0 0:=by simpa using k1
      have k2:l=[]:=k2
      subst k2
      have hm0:m.length=0:=by
        rcases hnew with ⟨ad,c,h1,_⟩ | ⟨c,_,h2⟩
        · rw [k1] at h1;cases h1
        · exact h2
      have hm0':m=[]:=List.length_eq_zero_iff.1 hm0
      subst hm0'
      have hnl:news=[]:=List.length_eq_zero_iff.1 (by rw [he.1];simp)
      subst hnl
      subst k1
      refine ⟨.slice none 0 0,w,[],?_,⟨rfl,rfl,rfl,Nat.le_refl _⟩,fun _ _ _=>rfl,.inl ⟨rfl,rfl,k3⟩,.inl ⟨rfl,rfl,rfl⟩,List.nodup_nil,.inr fun b hb=>by cases hb⟩
      rcases hx with ⟨ad,c',rfl,hc⟩ | ⟨c',rfl,_,_⟩
      · have hf:=run_firstCells_some (P:=C.P) w i.size 0 ad 0 c' [] (by simp) hc
        simp [Builtin.append_,run_underlying hud,sizeOf,typeInfo,hi,Builtin.lenOf,hf]
      · have hf:=run_firstCells_none (P:=C.P) w i.size 0 0 c'
        simp [Builtin.append_,run_underlying hud,sizeOf,typeInfo,hi,Builtin.lenOf,hf]
    · have k1:s=.slice (some ⟨b,o,none⟩) n c:=by simpa using k1
      have k3:n=l.length:=k3
      subst k3
      have hcap:l.length + m.length<=c:=by
        rcases hnew with ⟨ad,c,h1,h2⟩ | ⟨c,h1,_⟩
        · rw [k1] at h1;simp only [Value.slice.injEq] at h1;rw [h1.2.2];exact h2
        · rw [k1] at h1;cases h1
      subst k1
      have hcm:(l.length + m.length) * e.sz<=c * e.sz:=Nat.mul_le_mul_right _ hcap
      rw [Nat.add_mul] at hcm
      have hnl:news.length=m.length * e.sz:=he.1
      have hrun:=run_append_in (P:=C.P) (w:=w) (ty:=ty) hud hi (o:=o) (c:=c) k4 (x:=x) (m:=m.length) (news:=news) (by rw [hnl,hsz]) hx he.one hcap (by rw [hsz];omega)
      rw [hsz] at hrun
      have hfit:o + l.length * e.sz + news.length<=arr.toList.length:=by rw [show arr.toList.length=arr.size from Array.length_toList];omega
      have hget:∀ k,k ≠ b->(w.setRow b (setSeg arr.toList (o + l.length * e.sz) news).toArray).heap[k]?=w.heap[k]?:=fun k hk=>by
        rw [setRow_get k4,if_neg hk]
      have hsz':(w.setRow b (setSeg arr.toList (o + l.length * e.sz) news).toArray).heap.size=w.heap.size:=setRow_sz _ _ _
      have hold:∀ (j:Nat) (y:den e),l[j]?=some y->TC e (w.setRow b (setSeg arr.toList (o + l.length * e.sz) news).toArray) (seg (setSeg arr.toList (o + l.length * e.sz) news) (o + j * e.sz) e.sz) y []:=fun j y hy=>by
        have hj:j < l.length:=(List.getElem?_eq_some_iff.1 hy).1
        have:(j + 1) * e.sz<=l.length * e.sz:=Nat.mul_le_mul_right _ hj
        rw [Nat.succ_mul] at this
        rw [seg_setSeg_apart hfit (.inl (by omega))]
        have hjb:j < bss.length:=by rw [k7];exact hj
        exact TC_flat C.P hm (k8 j y _ hy (List.getElem?_eq_getElem hjb))
      refine ⟨_,_,[b],hrun,⟨rfl,rfl,rfl,Nat.le_of_eq hsz'.symm⟩,fun k hk hne=>hget k fun e'=>hne ⟨o,l.length,c,by rw [e']⟩,
        .inr ⟨b,o,l.length,c,_,bt,bss,rfl,k2,rfl,by rw [setRow_get k4,if_pos rfl],k5,?_,k7,fun j y bi hy hbi=>?_⟩,
        .inr ⟨b,o,_,c,_,bt,List.replicate (l.length + m.length) [],rfl,by simp,(List.length_append).symm,by rw [setRow_get k4,if_pos rfl],hcap,?_,by simp,fun j y bi hy hbi=>?_⟩,by simp,.inr fun k hk=>?_⟩
      · rw [List.size_toArray,setSeg_len hfit,Array.length_toList];exact k6
      · have hbn:=TC_nil e hm (k8 j y bi hy hbi)
        rw [hbn];exact hold j y hy
      · rw [List.size_toArray,setSeg_len hfit,Array.length_toList];exact k6
      · rw [flat_bi hbi]
        by_cases hj:j < l.length
        · rw [List.getElem?_append_left hj] at hy
          exact hold j y hy
        · rw [List.getElem?_append_right (by omega)] at hy
          have hj2:j - l.length < m.length:=(List.getElem?_eq_some_iff.1 hy).1
          have:(j - l.length + 1) * e.sz<=m.length * e.sz:=Nat.mul_le_mul_right _ hj2
          rw [Nat.succ_mul] at this
          have e1:seg (setSeg arr.toList (o + l.length * e.sz) news) (o + j * e.sz) e.sz=seg news ((j - l.length) * e.sz) e.sz:=by
            have h9:o + j * e.sz=(o + l.length * e.sz) + (j - l.length) * e.sz:=by
              rw [Nat.add_assoc,<-Nat.add_mul];congr 2;omega
            rw [h9,<-seg_seg _ (show (j - l.length) * e.sz + e.sz<=news.length by omega),seg_setSeg_same hfit]
          show TC e _ (seg (setSeg arr.toList (o + l.length * e.sz) news) (o + j * e.sz) e.sz) y []
          rw [e1]
          have hjb:j - l.length < nss.length:=by rw [he.2.1];exact hj2
          exact TC_flat C.P hm (he.2.2 _ y _ hy (List.getElem?_eq_getElem hjb))
      · simp only [List.mem_singleton] at hk;subst hk;exact ⟨o,l.length,c,rfl⟩
  · -- a new row
    have hzero:∃ z,i.zero=some z/\z.cells.size=e.sz:=by
      obtain ⟨z,hz⟩:=Option.isSome_iff_exists.1 hze
      obtain ⟨i',hi',_,_,_,hzv,hzc⟩:=zero_val hoe hz hw
      rw [hi] at hi';cases hi'
      exact ⟨_,hzv,by rw [hzc,List.size_toArray];exact TC_len e w (zc e) (dflt e) [] (TC_zero e hz hw)⟩
    obtain ⟨z,hz,hzs⟩:=hzero
    have hs0:=hs
    rcases hs with ⟨k1,k2,k3⟩ | ⟨b,o,n,c,arr,bt,bss,k1,k2,k3,k4,k5,k6,k7,k8⟩
    · have k1:s=.slice none 0 0:=by simpa using k1
      have k2:l=[]:=k2
      subst k2;subst k1
      have hm0:0 < m.length:=by
        rcases Nat.eq_zero_or_pos m.length with h | h
        · exact absurd (.inr ⟨0,rfl,h⟩) hnew
        · exact h
      rcases hx with ⟨ad,c',rfl,hc⟩ | ⟨c',_,h0,_⟩
      · have hrun:=run_append_nil (P:=C.P) w t ty et i z hud hi hz ad m.length c' news (by rw [he.1,hsz]) hc hm0 (by omega) (by simp only [List.length_nil,Nat.zero_add] at hbytes;omega)
        refine grown z (grownCap w m.length 0 et) [] [] ⟨by simp,rfl,fun i y bi hi=>(by cases hi)⟩ ?_ hzs ?_
        · simpa using grownCap_ge w m.length 0 et
        · simpa using hrun
      · omega
    · have k1:s=.slice (some ⟨b,o,none⟩) n c:=by simpa using k1
      have k3:n=l.length:=k3
      subst k3;subst k1
      have hg:c < l.length + m.length:=by
        rcases Nat.lt_or_ge c (l.length + m.length) with h | h
        · exact h
        · exact absurd (.inl ⟨_,c,rfl,h⟩) hnew
      rcases hx with ⟨ad,c',rfl,hc⟩ | ⟨c',_,h0,_⟩
      · have hle:l.length * e.sz<=c * e.sz:=Nat.mul_le_mul_right _ k5
        have hol:(seg arr.toList o (l.length * e.sz)).length=l.length * e.sz:=seg_len (by rw [show arr.toList.length=arr.size from Array.length_toList];omega)
        have hrun:=run_append_grow (P:=C.P) w t ty et i z hud hi hz ⟨b,o,none⟩ l.length c (seg arr.toList o (l.length * e.sz)) (by rw [hol,hsz]) (fun j u hj=>src_seg k4 j u hj) ad m.length c' news (by rw [he.1,hsz]) hc hg (by omega) (growslice_fits hg hbytes)
        refine grown z _ _ bss ⟨hol,k7,fun i y bi hy hbi=>?_⟩ (grownCap_ge w _ c et) hzs hrun
        have hi:i < l.length:=(List.getElem?_eq_some_iff.1 hy).1
        have:(i + 1) * e.sz<=l.length * e.sz:=Nat.mul_le_mul_right _ hi
        rw [Nat.succ_mul] at this
        rw [seg_seg _ (by omega)];exact k8 i y bi hy hbi
      · omega
/-- The block of a list inside an element is not the root's own. -/
theorem hdr_ne (I:InvM C st w G) {t g h:Nat} {e' e:Ty} {l:List (den e')} (hr:st (rk t)=.root g h e' l) {i:Int} (i0:0<=i) (i1:i < (l.length:Int)) {fs:List Nat} {y:List (den e)} (hg:getP fs e' (l.getD i.toNat (dflt e'))=⟨.sl e,y⟩) {s:Value}
    (hH:HdrAt w (G.hd (rk t)) e' i fs s) {b o n c b' o' n' c':Nat} (hsb:s=.slice (some ⟨b,o,none⟩) n c) (hd:G.hd (rk t)=.slice (some ⟨b',o',none⟩) n' c'):b' ≠ b:=by
  have hi:i.toNat < l.length:=by omega
  have hown:=root_own (G:=G) ⟨g,h,e',l,hr⟩
  obtain ⟨bb,oo,k,cc,arr,ty,fz,e1',e2',e3'⟩:=hH
  obtain ⟨b2',o2',c2',arr',ty',b1,b2,b3,k1,k2,k3,k4,k5,k6,k7⟩:=TC_lensR (I.rt _ _ _ _ _ hr) hi
  rw [hd] at k1 e1'
  simp only [Value.slice.injEq,Option.some.injEq,Addr.mk.injEq] at e1' k1
  obtain ⟨⟨rfl,rfl,_⟩,rfl,rfl⟩:=k1
  obtain ⟨⟨rfl,rfl,_⟩,_,_⟩:=e1'
  rw [k2] at e2';simp only [Option.some.injEq,Obj.cells.injEq] at e2'
  obtain ⟨rfl,rfl,_⟩:=e2'
  obtain ⟨hty,d1,d2,d3,rfl,m1,m2⟩:=lensP k6 hg
  have hle:=offP_le fs e'
  rw [hty] at hle
  have hle:offP fs e' + 1<=e'.sz:=hle
  have hsl:(Ty.sl e).sz=1:=rfl
  have hcell:seg (seg arr'.toList (o' + i.toNat * e'.sz) e'.sz) (offP fs e') 1=[s]:=by
    rw [seg_seg _ hle];exact seg_one (by simpa using e3')
  rw [hsl,hcell] at m1
  have hbd:=hd_mem m1 hsb
  have hbnd:(b' :: (b1 ++ (d1 ++ d2 ++ d3) ++ b3)).Nodup:=by rw [<-k5,<-hown];exact I.nd _
  simp only [List.nodup_cons,List.mem_append,not_or] at hbnd
  intro e
  rw [e] at hbnd
  exact hbnd.1.1.2.1.2 hbd
theorem setF_getF:∀ (f:Ty) (x:den f) (n:Nat),setF f x n (getF f x n)=x
  | .pair _ _,x,0=>rfl
  | .pair _ b,x,n + 1=>by
    show (x.1,setF b x.2 n (getF b x.2 n))=x
    rw [setF_getF b x.2 n]
  | .int _,_,_=>rfl | .bool,_,_=>rfl | .str,_,_=>rfl | .unit,_,_=>rfl | .st _,_,_=>rfl | .tup _,_,_=>rfl | .sl _,_,_=>rfl | .arr _ _,_,_=>rfl
  | .ptr _,_,_=>rfl | .fn _ _,_,_=>rfl
theorem setP_getP:∀ (fs:List Nat) (T:Ty) (x:den T) {T2:Ty} {y:den T2},getP fs T x=⟨T2,y⟩->setP fs T x ⟨T2,y⟩=x
  | [],T,x,T2,y,h=>by
    have h:(⟨T,x⟩:Sg)=⟨T2,y⟩:=h
    cases h
    unfold setP
    exact dif_pos rfl
  | n :: r,.st f,x,T2,y,h=>by
    show setF f x n (setP r (fld f n) (getF f x n) ⟨T2,y⟩)=x
    rw [setP_getP r (fld f n) (getF f x n) h,setF_getF]
  | _ :: _,.int _,_,_,_,_=>rfl | _ :: _,.bool,_,_,_,_=>rfl | _ :: _,.str,_,_,_,_=>rfl | _ :: _,.unit,_,_,_,_=>rfl | _ :: _,.pair _ _,_,_,_,_=>rfl | _ :: _,.tup _,_,_,_,_=>rfl
  | _ :: _,.sl _,_,_,_,_=>rfl | _ :: _,.arr _ _,_,_,_,_=>rfl | _ :: _,.ptr _,_,_,_,_=>rfl | _ :: _,.fn _ _,_,_,_,_=>rfl
/-- A root stands when the list inside an element has got room behind it filled. -/
theorem root_keep (I:InvM C st w G) {t g h:Nat} {e' e:Ty} {l:List (den e')} (hr:st (rk t)=.root g h e' l) {i:Int} (i0:0<=i) (i1:i < (l.length:Int)) {fs:List Nat} {y:List (den e)} (hg:getP fs e' (l.getD i.toNat (dflt e'))=⟨.sl e,y⟩) {s:Value}
    (hH:HdrAt w (G.hd (rk t)) e' i fs s):(∃ bs,TC (.sl e) w [s] y bs)/\(∀ b o n c,s=.slice (some ⟨b,o,none⟩) n c->b ∈ G.bl (rk t)) ∧
      ∀ {w':World},(∀ b,b < w.heap.size->(¬ ∃ o n c,s=.slice (some ⟨b,o,none⟩) n c)->w'.heap[b]?=w.heap[b]?)->(∀ bs,TC (.sl e) w [s] y bs->TC (.sl e) w' [s] y bs)->TC (.sl e') w' [G.hd (rk t)] l (G.bl (rk t)):=by
  have hi:i.toNat < l.length:=by omega
  have hown:=root_own (G:=G) ⟨g,h,e',l,hr⟩
  have hlt:∀ b ∈ G.bl (rk t),b < w.heap.size:=fun b hb=>(I.lt (rk t) b (by rw [hown];exact hb)).1
  obtain ⟨bb,oo,k,cc,arr,ty,fz,e1',e2',e3'⟩:=hH
  obtain ⟨b',o',c',arr',ty',b1,b2,b3,k1,k2,k3,k4,k5,k6,k7⟩:=TC_lensR (I.rt _ _ _ _ _ hr) hi
  rw [k1] at e1'
  simp only [Value.slice.injEq,Option.some.injEq,Addr.mk.injEq] at e1'
  obtain ⟨⟨rfl,rfl,_⟩,_,_⟩:=e1'
  rw [k2] at e2';simp only [Option.some.injEq,Obj.cells.injEq] at e2'
  obtain ⟨rfl,rfl,_⟩:=e2'
  obtain ⟨hty,d1,d2,d3,rfl,m1,m2⟩:=lensP k6 hg
  have hle:=offP_le fs e'
  rw [hty] at hle
  have hle:offP fs e' + 1<=e'.sz:=hle
  have hsl:(Ty.sl e).sz=1:=rfl
  have hm:(i.toNat + 1) * e'.sz<=c' * e'.sz:=Nat.mul_le_mul_right _ (by omega)
  rw [Nat.succ_mul] at hm
  have hAL:arr'.toList.length=arr'.size:=Array.length_toList
  have hcell:seg (seg arr'.toList (o' + i.toNat * e'.sz) e'.sz) (offP fs e') 1=[s]:=by
    rw [seg_seg _ hle];exact seg_one (by simpa using e3')
  rw [hsl,hcell] at m1
  have hbnd:(b' :: (b1 ++ (d1 ++ d2 ++ d3) ++ b3)).Nodup:=by rw [<-k5,<-hown];exact I.nd _
  have hN:=hbnd
  simp only [List.nodup_cons,List.mem_append,not_or] at hN
  refine ⟨⟨d2,m1⟩,fun b o n c hs=>by rw [k5];simp [hd_mem m1 hs],fun {w'} hfr hkeep=>?_⟩
  have hkp:∀ z,z=b'\/z ∈ b1\/z ∈ d1\/z ∈ d3\/z ∈ b3->w'.heap[z]?=w.heap[z]?:=fun z hz=>by
    refine hfr z (hlt z (by rw [k5];simp only [List.mem_cons,List.mem_append];rcases hz with hz | hz | hz | hz | hz <;> simp [hz])) fun ⟨o,n,c,hs⟩=>?_
    have hd:=hd_mem m1 hs
    rcases hz with rfl | hz | hz | hz | hz
    · exact hN.1.1.2.1.2 hd
    · have:=(List.nodup_append.1 (List.nodup_append.1 hN.2).1).2.2 z hz z (by simp [hd]);exact this rfl
    · have:=(List.nodup_append.1 (List.nodup_append.1 (List.nodup_append.1 (List.nodup_append.1 hN.2).1).2.1).1).2.2 z hz z hd;exact this rfl
    · have:=(List.nodup_append.1 (List.nodup_append.1 (List.nodup_append.1 hN.2).1).2.1).2.2 z (by simp [hd]) z hz;exact this rfl
    · have:=(List.nodup_append.1 hN.2).2.2 z (by simp [hd]) z hz;exact this rfl
  have hel:=m2 w' [s] y d2 (fun z hz=>hkp z (by simp only [List.mem_append] at hz;rcases hz with hz | hz <;> simp [hz])) (hkeep d2 m1)
  rw [<-hcell,setSeg_same (by rw [seg_len (by omega)];exact hle),setP_getP fs e' _ hg] at hel
  have hroot:=k7 w' arr' _ _ _ (fun hx=>by
    simp only [List.mem_append] at hx
    rcases hx with hx | hx
    · exact hN.1.1.1 hx
    · exact hN.1.2 hx) (by rw [hkp b' (.inl rfl)];exact k2) (by rw [setSeg_same (by omega)]) (fun z hz=>hkp z (by simp only [List.mem_append] at hz;rcases hz with hz | hz <;> simp [hz])) hel
  rw [k5]
  have hset:l.set i.toNat (l.getD i.toNat (dflt e'))=l:=by
    rw [List.getD_eq_getElem?_getD,List.getElem?_eq_getElem hi]
    simp
  rw [hset] at hroot
  exact hroot
theorem sap_step (I:Inv C st a w G) {t g h:Nat} {e' e:Ty} {l:List (den e')} (hr:st (rk t)=.root g h e' l) {i:Int} {fs:List Nat} {y ym:List (den e)} (hg:getP fs e' (l.getD i.toNat (dflt e'))=⟨.sl e,y⟩) {s v:Value}
    (i0:0<=i) (i1:i < (l.length:Int)) (hH:HdrAt w (G.hd (rk t)) e' i fs s) (hbt:∀ b o n c,s=.slice (some ⟨b,o,none⟩) n c->b ∈ G.bl (rk t)) (hos:w'.os=w.os) (hta:w'.tape=w.tape) (hou:w'.output=w.output) (hsz:w.heap.size<=w'.heap.size)
    (hfr:∀ b,b < w.heap.size->(¬ ∃ o n c,s=.slice (some ⟨b,o,none⟩) n c)->w'.heap[b]?=w.heap[b]?) (hroot:TC (.sl e') w' [G.hd (rk t)] l (G.bl (rk t))) (hown:ownB st G (rk t)=G.bl (rk t)) (hlt:∀ b ∈ G.bl (rk t),b < w.heap.size)
    (hv1:v.oneCell'=true) (hhd:∀ b o n c,G.hd (rk t)=.slice (some ⟨b,o,none⟩) n c->w'.heap[b]?=w.heap[b]?) {bv nb:List Nat} (hTv:TC (.sl e) w' [v] ym bv) (hbn:bv.Nodup) (hnb:∀ b ∈ nb,w.heap.size<=b/\b < w'.heap.size) (hnd:nb.Nodup)
    (hbv:∀ b ∈ bv,b ∈ nb\/∃ o n c,s=.slice (some ⟨b,o,none⟩) n c) {D:Nat} (hD:rk (t + 100000)=D) (hne:rk t ≠ D) (e9:D=rk t + 300000) (hnsk:∀ i,sk i ≠ D) :
    ∃ G',Inv C (upd st D (.own ((st D).gen + 1))) a w' G'/\SW C.P (upd st D (.own ((st D).gen + 1))) G' w' (Fz (upd st D (.own ((st D).gen + 1))) G' w') (.sap t g h i fs e ym ((st D).gen + 1)) v:=by
  have hrt':upd st (D) (.own ((st (D)).gen + 1)) (rk t)=.root g h e' l:=by rw [upd_ne _ _ hne];exact hr
  let G1:Gh:={ G with bl:=fun k=>if k=D then nb else G.bl k }
  have hb:G1.bl (D)=nb:=if_pos rfl
  have hbt1:G1.bl (rk t)=G.bl (rk t):=if_neg hne
  have ho:ownB (upd st (D) (.own ((st (D)).gen + 1))) G1 (D)=nb:=by unfold ownB;rw [upd_same];exact hb
  have ho2:ownB (upd st (D) (.own ((st (D)).gen + 1))) G1 (rk t)=G.bl (rk t):=by unfold ownB;rw [hrt'];exact hbt1
  have h0:Step0 st G w (upd st (D) (.own ((st (D)).gen + 1))) G1 w' [D,rk t] (fun b=>∃ o n c,s=.slice (some ⟨b,o,none⟩) n c):={
    s0:=rfl
    os:=hos,tape:=hta,output:=hou,size:=hsz,block:=hfr
    own:=fun b ⟨o,n,c,e⟩=>⟨rk t,by simp,by rw [hown];exact hbt b o n c e⟩
    out:=fun k hk=>by
      simp only [List.mem_cons,List.mem_nil_iff,or_false,not_or] at hk
      exact ⟨upd_ne _ _ hk.1,rfl,if_neg hk.1,rfl⟩
    nosk:=fun i hi=>by
      simp only [List.mem_cons,List.mem_nil_iff,or_false] at hi
      rcases hi with hi | hi
      · exact hnsk _ hi
      · exact sk_ne_rk _ _ hi
    ks:=fun k hk=>by
      simp only [List.mem_cons,List.mem_nil_iff,or_false] at hk
      rcases hk with rfl | rfl
      · refine ⟨by rw [upd_same];exact Nat.le_succ _,fun g h e l hr hg=>?_,fun g T c hr hg=>?_,fun g hr hg=>?_⟩
        · rw [upd_same] at hr;cases hr
        · rw [upd_same] at hr;cases hr
        · rw [upd_same] at hr;cases hr;omega
      · refine ⟨by rw [hrt',hr];exact Nat.le_refl _,fun g2 h2 e2 l2 hr2 hg2=>?_,fun g T c hr2 hg=>?_,fun g hr2 hg=>?_⟩
        · rw [hrt'] at hr2;cases hr2
          refine ⟨h,l,hr,rfl,rfl,Nat.le_refl _,fun _=>⟨rfl,fun ga h1 h2=>?_,hhd⟩⟩
          rw [<-e9] at h1 h2
          rw [upd_same] at h1;cases h1;omega
        · rw [hrt'] at hr2;cases hr2
        · rw [hrt'] at hr2;cases hr2
    sub:=fun k hk b hb=>by
      simp only [List.mem_cons,List.mem_nil_iff,or_false] at hk
      rcases hk with rfl | rfl
      · rw [ho] at hb;exact .inr (hnb b hb).1
      · rw [ho2] at hb;exact .inl ⟨rk t,by simp,by rw [hown];exact hb⟩
    lt:=fun k hk b hb=>by
      simp only [List.mem_cons,List.mem_nil_iff,or_false] at hk
      rcases hk with rfl | rfl
      · rw [ho] at hb;exact (hnb b hb).2
      · rw [ho2] at hb;exact Nat.lt_of_lt_of_le (hlt b hb) hsz
    nd:=fun k hk=>by
      simp only [List.mem_cons,List.mem_nil_iff,or_false] at hk
      rcases hk with rfl | rfl
      · rw [ho];exact hnd
      · rw [ho2,<-hown];exact I.nd _
    dj:=fun k hk k' hk' b hb hb'=>by
      simp only [List.mem_cons,List.mem_nil_iff,or_false] at hk hk'
      rcases hk with rfl | rfl <;> rcases hk' with rfl | rfl
      · rfl
      · rw [ho] at hb;rw [ho2] at hb'
        have:=(hnb b hb).1;have:=hlt b hb';omega
      · rw [ho] at hb';rw [ho2] at hb
        have:=(hnb b hb').1;have:=hlt b hb;omega
      · rfl }
  have I1:Inv C (upd st (D) (.own ((st (D)).gen + 1))) a w' G1:=by
    refine Step.inv I { toStep0:=h0,rt:=fun k hk g2 h2 e2 l2 hr2=>?_,bx:=fun k hk g T' v' hr2=>?_ }
    · simp only [List.mem_cons,List.mem_nil_iff,or_false] at hk
      rcases hk with rfl | rfl
      · rw [upd_same] at hr2;cases hr2
      · rw [hrt'] at hr2;cases hr2
        rw [hbt1];exact hroot
    · simp only [List.mem_cons,List.mem_nil_iff,or_false] at hk
      rcases hk with rfl | rfl
      · rw [upd_same] at hr2;cases hr2
      · rw [hrt'] at hr2;cases hr2
  refine ⟨G1,I1,[v],rfl,v,rfl,hv1,by rw [hrt'];exact Nat.le_refl _,by rw [hD,upd_same];exact Nat.le_refl _,fun h' e2 l2 hr2=>by rw [hrt'] at hr2;cases hr2;exact Nat.le_refl _,fun e2 l2 hr2 _=>?_⟩
  rw [hrt'] at hr2;cases hr2
  refine ⟨i0,i1,⟨y,hg⟩,bv,hbn,hTv,fun b hb'=>?_⟩
  rcases hbv b hb' with q | ⟨o,n,c,hsb⟩
  · left;rw [hD,hb];exact q
  · right
    refine ⟨by rw [hbt1];exact hbt b o n c hsb,o,n,c,?_⟩
    rw [<-hsb]
    obtain ⟨b',o',n',c',arr,tyy,fz,u1,u2,u3⟩:=hH
    exact ⟨b',o',n',c',arr,tyy,fz,u1,by rw [hhd b' o' n' c' u1];exact u2,u3⟩
theorem sap_core (O:CfgOk C cf) (I:Inv C st a w G) {t g h:Nat} {e' e:Ty} {l:List (den e')} (hr:st (rk t)=.root g h e' l) {i:Int} {fs:List Nat} {y:List (den e)} (hg:getP fs e' (l.getD i.toNat (dflt e'))=⟨.sl e,y⟩) {s:Value}
    (i0:0<=i) (i1:i < (l.length:Int)) (hH:HdrAt w (G.hd (rk t)) e' i fs s) {ti:TypeId} (hty:cf.ty ti=some (.sl e)) (hm:e.mem=false) (hw:e.ownable=true) (hze:(zeroSV e).isSome=true) {ty:TypeId} {x:Value} {m:List (den e)}
    {news:List Value} {nss:List (List Nat)} (hx:Src w x m.length news) (he:Els e w news m nss) (hlim:y.length + m.length<=lim) :
    ∃ v w' G',(Builtin.append_ #[ti,ti] ty #[s,x]).run C.P w=.ok v w'/\Inv C (upds st [(rk (t + 100000),.own ((st (rk (t + 100000))).gen + 1))]) a w' G' ∧
      SW C.P (upds st [(rk (t + 100000),.own ((st (rk (t + 100000))).gen + 1))]) G' w' (Fz (upds st [(rk (t + 100000),.own ((st (rk (t + 100000))).gen + 1))]) G' w') (.sap t g h i fs e (y ++ m) ((st (rk (t + 100000))).gen + 1)) v:=by
  obtain ⟨⟨bs,hT⟩,hbt,hkr⟩:=root_keep I.toInvM hr i0 i1 hg hH
  obtain ⟨v,w',bv,hrun,⟨hos,hta,hou,hsz⟩,hfr,hT',hTv,hbn,hcase⟩:=app_flat O hty hm hw hze (ty:=ty) hT hx he hlim
  have hroot:=hkr (w':=w') hfr fun bs' h'=>by
    obtain ⟨v2,w2,_,hrun2,_,_,hT2,_⟩:=app_flat O hty hm hw hze (ty:=ty) h' hx he hlim
    rw [hrun] at hrun2
    cases hrun2
    exact hT2
  have hown:=root_own (G:=G) ⟨g,h,e',l,hr⟩
  have hlt:∀ b ∈ G.bl (rk t),b < w.heap.size:=fun b hb=>(I.lt (rk t) b (by rw [hown];exact hb)).1
  have hne:rk t ≠ rk (t + 100000):=fun e=>by have:=rk_inj e;omega
  have e9:rk (t + 100000)=rk t + 300000:=by unfold rk;omega
  have hv1:v.oneCell'=true:=TC_one hTv v (by simp)
  have hhd:∀ b o n c,G.hd (rk t)=.slice (some ⟨b,o,none⟩) n c->w'.heap[b]?=w.heap[b]?:=fun b o n c hd=>by
    refine hfr b (hlt b (hd_mem (I.rt _ _ _ _ _ hr) hd)) fun ⟨o3,n3,c3,e3⟩=>?_
    exact hdr_ne I.toInvM hr i0 i1 hg hH e3 hd rfl
  have last:∀ nb:List Nat,(∀ b ∈ nb,w.heap.size<=b/\b < w'.heap.size)->nb.Nodup->(∀ b ∈ bv,b ∈ nb\/∃ o n c,s=.slice (some ⟨b,o,none⟩) n c) →
      ∃ v w' G',(Builtin.append_ #[ti,ti] ty #[s,x]).run C.P w=.ok v w'/\Inv C (upds st [(rk (t + 100000),.own ((st (rk (t + 100000))).gen + 1))]) a w' G' ∧
        SW C.P (upds st [(rk (t + 100000),.own ((st (rk (t + 100000))).gen + 1))]) G' w' (Fz (upds st [(rk (t + 100000),.own ((st (rk (t + 100000))).gen + 1))]) G' w') (.sap t g h i fs e (y ++ m) ((st (rk (t + 100000))).gen + 1)) v:=by
    intro nb hnb hnd hbv
    obtain ⟨G1,I1,hsw⟩:=sap_step I hr hg i0 i1 hH hbt hos hta hou hsz hfr hroot hown hlt hv1 hhd hTv hbn hnb hnd hbv rfl hne e9 (fun i=>sk_ne_rk _ _)
    exact ⟨v,w',G1,hrun,I1,hsw⟩
  rcases hcase with ⟨c1,c2⟩ | c1
  · exact last bv c2 hbn fun b hb=>.inl hb
  · exact last [] (fun b hb=>by cases hb) List.nodup_nil fun b hb=>.inr (c1 b hb)
theorem snd_append (O:CfgOk C cf) {args:Array Operand} {tys:Array TypeId}:Snd C cf ⟨dst,.call ⟨.builtin .append,args,tys⟩,type,pos,after,guard⟩:=by
  intro st a w G us next Q I h hn
  simp only [exec] at h
  split at h
  case h_2=>exact (Rn_fail.1 h).elim
  rename_i s x t tx hx ht
  have hx:=arr_of hx
  have ht:=arr_of ht
  subst hx;subst ht
  obtain ⟨v,hv,h⟩:=opd_run I h
  obtain ⟨u,hu,h⟩:=opd_run I h
  split at h
  case h_2=>exact (Rn_fail.1 h).elim
  rename_i e hty
  rw [Rn_bif] at h
  rcases h with ⟨hb,h⟩ | ⟨_,h⟩
  case inr=>exact (Rn_fail.1 h).elim
  have key:Rn (execAppend cf dst e v u) st us:=h
  clear h
  have htt:t=tx:=Nat.eq_of_beq_eq_true hb
  subst htt
  unfold execAppend at key
  cases dst with
  | none=>exact (Rn_fail.1 key).elim
  | some d =>
    simp only at key
    have fin:∀ (l:List (den e)) (gb:List (Nat × Nat)),(∀ p ∈ gb,RT st p)->TC (.sl e) w [a.eval s] l (blk G gb) →
        Rn ((bif e.mem then mv (.sl e) u else fun f=>res cf 2 (.sl e) u fun l2=>f l2 []) fun l2 r =>
          bif nodupB ((gb ++ r).map (·.1)) && e.ownable && !e.isTup && (zeroSV e).isSome then .chk (decide (l.length + l2.length<=lim)) (wrOwn cf (some d) (.sl e) (l ++ l2) (gb ++ r)) else .fail) st us →
        Oper.wp C.P ⟨some d,.call ⟨.builtin .append,[s,x].toArray,[t,t].toArray⟩,type,pos,after,guard⟩ a w next Q:=by
      intro l gb hgb hs h
      have last:∀ (m:List (den e)) (r:List (Nat × Nat)) (news:List Value) (nss:List (List Nat)),Src w (a.eval x) m.length news->Els e w news m nss->(∀ b ∈ nss.flatten,b ∈ blk G r)->(((gb ++ r).map (·.1)).Nodup->nss.flatten.Nodup)->(∀ p ∈ r,RT st p) →
          Rn (bif nodupB ((gb ++ r).map (·.1)) && e.ownable && !e.isTup && (zeroSV e).isSome then .chk (decide (l.length + m.length<=lim)) (wrOwn cf (some d) (.sl e) (l ++ m) (gb ++ r)) else .fail) st us →
          Oper.wp C.P ⟨some d,.call ⟨.builtin .append,[s,x].toArray,[t,t].toArray⟩,type,pos,after,guard⟩ a w next Q:=by
        intro m r news nss k1 k2 k3 k4 k5 h
        rw [Rn_bif] at h
        rcases h with ⟨hb,h⟩ | ⟨_,h⟩
        case inr=>exact (Rn_fail.1 h).elim
        rw [Rn_chk] at h
        simp only [Bool.and_eq_true,Bool.not_eq_true',decide_eq_true_eq] at hb h
        obtain ⟨⟨⟨b1,b2⟩,b3⟩,b4⟩:=hb
        rw [nodupB_iff] at b1
        obtain ⟨v',w',G',hr,I'⟩:=app_sound O I hty b2 b3 (ty:=type) hs k1 k2 k3 (k4 b1) (fun p hp=>(List.mem_append.1 hp).elim (hgb p) (k5 p)) b1 h.1 b4 h.2
        refine wp_value (v:=v') (w':=w') ?_ (hn _ _ _ I')
        simp only [execOp,resolve,invoke,builtin,Sem.run_bind,Sem.run_pure,Result.andThen_ok,List.map_toArray,List.map_cons,List.map_nil]
        rw [hr];rfl
      cases hm:e.mem
      · rw [hm] at h;simp only [cond_false] at h
        obtain ⟨c,hc1,hc2⟩:=SW_cells hu (fun b e=>by subst e;simp only [res] at h;exact (Rn_fail.1 h).elim)
        obtain ⟨m,r1,r2,r3⟩:=res_run O I.toInvM 2 (.sl e) u false h hc2
        obtain ⟨xv,hxv⟩:=List.length_eq_one_iff.1 (RX_len _ _ _ _ _ _ r1)
        subst hxv
        have hax:a.eval x=xv:=by rw [hc1,r3 rfl];rfl
        obtain ⟨news,j1,j2⟩:=els_RX hm r1
        exact last m [] news _ (by rw [hax];exact j1) j2 (fun b hb=>by
          obtain ⟨l',hl',hb⟩:=List.mem_flatten.1 hb
          rw [(List.mem_replicate.1 hl').2] at hb;cases hb) (fun _=>by simp) (fun p hp=>by cases hp) r2
      · rw [hm] at h;simp only [cond_true] at h
        obtain ⟨c,hc1,hc2⟩:=SW_cells hu (fun b e=>by subst e;simp only [mv] at h;exact (Rn_fail.1 h).elim)
        obtain ⟨m,r,r1,r2,r3,r4⟩:=mv_run I.toInvM u (.sl e) false h hc2
        simp only [Bool.false_eq_true,if_false] at r1
        obtain ⟨xv,hxv⟩:=List.length_eq_one_iff.1 (TC_len _ _ _ _ _ r1)
        subst hxv
        have hax:a.eval x=xv:=by rw [hc1,r4 rfl];rfl
        obtain ⟨news,nss,j1,j2,j3,j4⟩:=els_TC r1
        exact last m r news nss (by rw [hax];exact j1) j2 j3 (fun hnd=>j4 (blk_nodup I.toInvM r r3 (by
          rw [List.map_append] at hnd;exact (List.nodup_append.1 hnd).2.1))) r3 r2
    split at key
    · refine fin [] [] (fun p hp=>by cases hp) ?_ key
      obtain ⟨c,hc1,hc2⟩:=hv
      have hc2:c=[.slice none 0 0]:=hc2
      rw [hc1,hc2];exact .inl ⟨rfl,rfl,rfl⟩
    · rename_i t' g e1
      rw [Rn_get] at key
      split at key
      case h_2=>exact (Rn_fail.1 key).elim
      rename_i g' hh e' l hr
      split at key
      case isFalse=>exact (Rn_fail.1 key).elim
      rename_i e2;subst e2
      rw [Rn_chk] at key
      have hg:g=g':=Nat.eq_of_beq_eq_true key.1
      subst hg
      obtain ⟨c,hc1,hc2⟩:=hv
      obtain ⟨xv,rfl,_,_,hx⟩:=hc2
      obtain ⟨rfl,_⟩:=hx _ _ _ hr
      refine fin l [(t',g)] (fun p hp=>by simp only [List.mem_singleton] at hp;subst hp;exact ⟨hh,e',l,hr⟩) ?_ key.2
      rw [hc1]
      simpa [blk,valS] using I.rt _ _ _ _ _ hr
    · rename_i t' g h0 i fs e1
      rw [Rn_get] at key
      split at key
      case h_2=>exact (Rn_fail.1 key).elim
      rename_i g' hh e' l hr
      rw [Rn_chk,Bool.and_eq_true] at key
      obtain ⟨⟨hg,hh1⟩,key⟩:=key
      have hg:=Nat.eq_of_beq_eq_true hg
      have hh1:=Nat.eq_of_beq_eq_true hh1
      subst hg;subst hh1
      obtain ⟨c,hc1,hc2⟩:=hv
      obtain ⟨xv,rfl,_,_,_,hx⟩:=hc2
      have hc1:a.eval s=xv:=hc1
      obtain ⟨i0,i1,⟨y0,hy0⟩,hH⟩:=hx _ _ hr
      rw [hy0] at key
      unfold asTy at key
      split at key
      case isFalse=>exact (Rn_fail.1 key).elim
      rename_i e2
      have e2:Ty.sl e1=Ty.sl e:=e2
      injection e2 with e2;subst e2
      rw [Rn_bif] at key
      rcases key with ⟨hb,key⟩ | ⟨_,key⟩
      case inr=>exact (Rn_fail.1 key).elim
      simp only [Bool.and_eq_true,Bool.not_eq_true'] at hb
      obtain ⟨⟨⟨b1,b2⟩,b3⟩,b4⟩:=hb
      obtain ⟨cu,hu1,hu2⟩:=SW_cells hu (fun b e=>by subst e;simp only [res] at key;exact (Rn_fail.1 key).elim)
      obtain ⟨m,r1,key,r3⟩:=res_run O I.toInvM 2 (.sl e1) u false key hu2
      obtain ⟨uv,huv⟩:=List.length_eq_one_iff.1 (RX_len _ _ _ _ _ _ r1)
      subst huv
      have hax:a.eval x=uv:=by rw [hu1,r3 rfl];rfl
      obtain ⟨news,j1,j2⟩:=els_RX b1 r1
      rw [Rn_chk] at key
      obtain ⟨hlim,key⟩:=key
      rw [Rn_get] at key
      obtain ⟨v',w',G',hrun,I',hsw⟩:=sap_core O I (ty:=type) hr hy0 i0 i1 hH hty b1 b2 b4 j1 j2 (of_decide_eq_true hlim)
      rw [<-hc1,<-hax] at hrun
      refine wp_value (v:=v') (w':=w') ?_ (hn _ _ G' (wr_sound O key I' (fun p hp i e=>by
        simp only [List.mem_singleton] at hp
        subst hp
        exact sk_ne_rk _ _ e.symm) hsw))
      simp only [execOp,resolve,invoke,builtin,Sem.run_bind,Sem.run_pure,Result.andThen_ok,List.map_toArray,List.map_cons,List.map_nil]
      rw [hrun];rfl
    · exact (Rn_fail.1 key).elim
end
end Go.Proofs.YtmlgfaojfmkdnaaGreatDoor.E
namespace Go.Proofs.YtmlgfaojfmkdnaaGreatDoor.E
open Go Go.RowKit
set_option linter.unusedVariables false
set_option linter.unusedSimpArgs false
section
variable {C:Cx} {cf:Cfg} {dst:Option Tmp} {type:TypeId} {pos:String} {after:Array Edge} {guard:Option (Nat × Bool)} {st:St} {a:Act} {w w':World} {G:Gh} {α:Type} {us:U}
theorem snd_callMut (O:CfgOk C cf) {g:FuncId} {args:Array Operand} {tys:Array TypeId} {sp:FnSpec} (hfn:cf.fn g=some sp) (hmu:sp.mu.any id=true):Snd C cf ⟨dst,.call ⟨.value (.func g),args,tys⟩,type,pos,after,guard⟩:=by
  intro st a w G us next Q I h hn
  simp only [exec,hfn] at h
  obtain ⟨v,hv,h⟩:=opds_run I h
  unfold callM at h
  rw [hmu] at h
  obtain ⟨x,h,hl⟩:=args_lens O I.toInvM sp.pas sp.mu v h hv
  rw [Rn_call] at h
  obtain ⟨y,hy,h⟩:=h
  simp only [cond_true] at h
  have hok:=(O.fn g sp hfn).muts hmu
  obtain ⟨pas,mu,ret,F⟩:=sp
  simp only at h hy hok hl hmu
  cases ret with
  | pair r o =>
    simp only at h
    split at h
    case isFalse=>exact (Rn_fail.1 h).elim
    rename_i e;subst e
    rw [Rn_bif] at h
    rcases h with ⟨_,h⟩ | ⟨hm,h⟩
    · exact (Rn_fail.1 h).elim
    obtain ⟨ts,bs,Uf,h,hAX,L⟩:=hl y.2 _ us h
    rw [Rn_bif] at h
    rcases h with ⟨hnd,h⟩ | ⟨_,h⟩
    case inr=>exact (Rn_fail.1 h).elim
    rw [nodupB_iff] at hnd
    have hAX:=hAX (fun b=>b < w.heap.size/\b ∉ bs) (fun b hb=>⟨hb.1,fun hbs=>by
      obtain ⟨t,ht,hbt⟩:=L.sub b hbs
      exact hb.2.1 (rk t) (by rw [root_own (L.rt t ht)];exact hbt)⟩) (fun b hb=>hb.1)
    have hcf:=hok r rfl w _ x y.1 y.2 bs hAX (L.nd hnd) hy
    unfold Oper.wp
    rw [call_run (g:=g) (fi:=#[]) (ca:=#[]) rfl]
    have e:#[] ++ args.map a.eval ++ #[]=(args.toList.map a.eval).toArray:=by
      rw [<-Array.toList_map]
      show _=args.map a.eval
      rw [Array.append_empty,Array.empty_append]
    rw [e]
    refine hcf _ a next Q fun v' w' hr=>?_
    obtain ⟨bs',o1,o2,o3⟩:=hr.out
    obtain ⟨G',I'⟩:=wbStep I L hnd o1 o2 o3 hr.os hr.tape hr.output hr.size hr.block
    obtain ⟨c,rfl,hc⟩:=hr.val
    refine hn _ _ G' (wr_sound O h I' (fun p hp i e=>?_) (SW_val (RX_nomem (w':=w') hm hc)))
    have:p.1 ∈ (Uf y.2).map (·.1):=List.mem_map.2 ⟨p,hp,rfl⟩
    rw [L.keys] at this
    obtain ⟨t,_,ht⟩:=List.mem_map.1 this
    exact sk_ne_rk i t (by rw [ht,e])
  | _=>exact (Rn_fail.1 h).elim
theorem snd_lookup (O:CfgOk C cf) {t:TypeId} {m x:Operand}:Snd C cf ⟨dst,.lookup t m x false,type,pos,after,guard⟩:=by
  intro st a w G us next Q I h hn
  simp only [exec] at h
  obtain ⟨v,hv,h⟩:=opd_run I h
  split at h
  case h_2=>exact (Rn_fail.1 h).elim
  rename_i t' g
  rw [Rn_bif] at h
  rcases h with ⟨hb,h⟩ | ⟨_,h⟩
  case inr=>exact (Rn_fail.1 h).elim
  obtain ⟨u,hu,h⟩:=opd_run I h
  split at h
  case h_2=>exact (Rn_fail.1 h).elim
  rename_i s
  rw [Rn_chk] at h
  have hx:=SW_str hu
  obtain ⟨c,hm,b,rfl,_,_,hR⟩:=hv
  have hm:a.eval m=.map (some b):=hm
  obtain rfl:=Nat.eq_of_beq_eq_true hb
  exact snd_val O I h.2 (SW_val (T:=.str) (c:=[.string (g s)]) rfl) hn (by
    have e:valS (SV.mp t g) [Value.map (some b)]=.map (some b):=rfl
    simp [execOp,hm,hx,e,hR w rfl s (of_decide_eq_true h.1),valOf,Result.andThen])
/-- Memory has grown; nothing else. -/
theorem Inv.below (I:Inv C st a w G) (h:Below w.heap.size w w'):Inv C st a w' G :=
  Step.inv (K:=[]) (D:=fun _=>False) I
    { os:=h.os,tape:=h.tape,output:=h.output,size:=h.size,block:=fun b hb _=>h.block b hb,own:=fun b hb=>hb.elim,out:=fun k _=>⟨rfl,rfl,rfl,rfl⟩,nosk:=fun i hi=>(by cases hi),s0:=rfl,
      ks:=fun k hk=>(by cases hk),sub:=fun k hk=>(by cases hk),lt:=fun k hk=>(by cases hk),nd:=fun k hk=>(by cases hk),dj:=fun k hk=>(by cases hk),rt:=fun k hk=>(by cases hk),bx:=fun k hk=>(by cases hk) }
theorem snd_callMap (O:CfgOk C cf) {g:FuncId} {args:Array Operand} {tys:Array TypeId} (hfn:cf.fn g=none) (hfs:cf.fs g=none):Snd C cf ⟨dst,.call ⟨.value (.func g),args,tys⟩,type,pos,after,guard⟩:=by
  intro st a w G us next Q I h hn
  simp only [exec,hfn,hfs] at h
  split at h
  case h_2=>exact (Rn_fail.1 h).elim
  rename_i p hp hargs
  unfold Oper.wp
  rw [call_run (g:=g) (fi:=#[]) (ca:=#[]) rfl]
  have e0:args=#[]:=by
    cases args
    simpa using hargs
  have e:#[] ++ args.map a.eval ++ #[]=(#[]:Array Value):=by rw [e0];simp
  rw [e]
  refine O.mp g p hp w _ a next Q fun v' w' hr=>?_
  obtain ⟨hb,b,rfl,h1,h2,h3⟩:=hr
  have I':=I.below hb
  refine hn _ _ _ (wr_sound0 O h I' ⟨[.map (some b)],rfl,b,rfl,⟨h2,fun k hk=>?_,?_⟩,h2,h3⟩)
  · have:=(I.lt k b hk).1;omega
  · exact I.m0 b (.inl (Nat.le_trans I.size h1))
theorem snd_all (O:CfgOk C cf) (o:Oper):Snd C cf o:=by
  obtain ⟨dst,op,type,pos,after,guard⟩:=o
  cases op with
  | move x=>exact snd_move O
  | assign x=>exact snd_assign O
  | nilCheck x=>exact snd_nilCheck O
  | pick c x y=>exact snd_pick O
  | binOp op xt x y yt=>exact snd_binOp O
  | unOp op xt x=>exact snd_unOp O
  | convert s d x=>exact snd_convert O
  | extract x i=>exact snd_extract O
  | field t x i=>exact snd_field O
  | alloc t=>exact snd_alloc O
  | box t x=>exact snd_box O
  | build t ps=>exact snd_build O
  | buildSlice t n ps=>exact snd_buildSlice O
  | makeSlice t l c=>exact snd_makeSlice O
  | load t x=>exact snd_load O
  | store t x y=>exact snd_store O
  | fieldAddr t x n=>exact snd_fieldAddr O
  | indexAddr t x i=>exact snd_indexAddr O
  | index t x i=>exact snd_index O
  | slice t x lo hi m =>
    cases m with
    | none=>exact snd_slice O
    | some m=>intro st a w G us next Q I h hn;exact (Rn_fail.1 (by simpa only [exec] using h)).elim
  | lookup t m x ok =>
    cases ok with
    | false=>exact snd_lookup O
    | true=>intro st a w G us next Q I h hn;exact (Rn_fail.1 (by simpa only [exec] using h)).elim
  | makeFunc f fi ca =>
    cases f with
    | func f=>exact snd_makeFunc O
    | _=>intro st a w G us next Q I h hn;exact (Rn_fail.1 (by simpa only [exec] using h)).elim
  | call c =>
    obtain ⟨cal,args,tys⟩:=c
    cases cal with
    | builtin b =>
      cases b with
      | len=>exact snd_len O
      | append=>exact snd_append O
      | copy=>exact snd_copy O
      | min=>exact snd_min O
      | max=>exact snd_max O
      | _=>intro st a w G us next Q I h hn;exact (Rn_fail.1 (by simpa only [exec] using h)).elim
    | value f =>
      cases f with
      | func g =>
        cases hfn:cf.fn g with
        | none =>
          cases hfs:cf.fs g with
          | none=>exact snd_callMap O hfn hfs
          | some sp=>exact snd_callShape O hfn hfs
        | some sp =>
          cases hmu:sp.mu.any id
          · exact snd_callPlain O hfn hmu
          · exact snd_callMut O hfn hmu
      | tmp t=>exact snd_callValue O
      | _=>intro st a w G us next Q I h hn;exact (Rn_fail.1 (by simpa only [exec] using h)).elim
    | _=>intro st a w G us next Q I h hn;exact (Rn_fail.1 (by simpa only [exec] using h)).elim
  | _=>intro st a w G us next Q I h hn;exact (Rn_fail.1 (by simpa only [exec] using h)).elim
end
end Go.Proofs.YtmlgfaojfmkdnaaGreatDoor.E
namespace Go.Proofs.YtmlgfaojfmkdnaaGreatDoor.E
open Go Go.RowKit
set_option linter.unusedVariables false
set_option linter.unusedSimpArgs false
theorem go_run {α R:Type} {s:St} {K:List Nat->α->Option R} {r:R}:∀ (m:M α) (rd:List Nat),m.go s rd K=some r->∃ rd' u,m.run s=some (rd',u)/\K (rd'.reverse ++ rd) u=some r
  | .ret a,rd,h=>⟨[],a,rfl,h⟩
  | .get k f,rd,h=>by
    obtain ⟨rd',u,h1,h2⟩:=go_run (f (s k)) (k :: rd) h
    exact ⟨k :: rd',u,by simp [M.run,h1],by simpa using h2⟩
  | .chk b m,rd,h=>by
    simp only [M.go] at h
    split at h
    · rename_i hb
      obtain ⟨rd',u,h1,h2⟩:=go_run m rd h
      exact ⟨rd',u,by simp [M.run,hb,h1],h2⟩
    · cases h
  | .br b m1 m2,rd,h=>by
    simp only [M.go] at h
    split at h
    · rename_i hb
      obtain ⟨rd',u,h1,h2⟩:=go_run m1 rd h
      exact ⟨rd',u,by simp [M.run,hb,h1],h2⟩
    · rename_i hb
      obtain ⟨rd',u,h1,h2⟩:=go_run m2 rd h
      exact ⟨rd',u,by simp [M.run,hb,h1],h2⟩
  | .fail,rd,h=>by cases h
  | .call A B F x f,rd,h=>by
    simp only [M.go,Option.bind_eq_some_iff] at h
    obtain ⟨y,hy,h⟩:=h
    obtain ⟨rd',u,h1,h2⟩:=go_run (f y) rd h
    exact ⟨rd',u,by simp [M.run,hy,h1],h2⟩
theorem run_local {α:Type} {s s':St} {u:α}:∀ (m:M α) {rd:List Nat},m.run s=some (rd,u)->(∀ k ∈ rd,s' k=s k)->m.run s'=some (rd,u)
  | .ret a,rd,h,_=>h
  | .get k f,rd,h,hk=>by
    simp only [M.run,Option.map_eq_some_iff] at h ⊢
    obtain ⟨⟨rd',u'⟩,h1,h2⟩:=h
    simp only [Prod.mk.injEq] at h2
    obtain ⟨rfl,rfl⟩:=h2
    refine ⟨(rd',u'),?_,rfl⟩
    rw [hk k List.mem_cons_self]
    exact run_local (f (s k)) h1 fun k' hk'=>hk k' (List.mem_cons_of_mem _ hk')
  | .chk b m,rd,h,hk=>by
    simp only [M.run] at h ⊢
    split at h
    · rename_i hb;rw [if_pos hb];exact run_local m h hk
    · cases h
  | .br b m1 m2,rd,h,hk=>by
    simp only [M.run] at h ⊢
    split at h
    · rename_i hb;rw [if_pos hb];exact run_local m1 h hk
    · rename_i hb;rw [if_neg hb];exact run_local m2 h hk
  | .fail,rd,h,_=>by cases h
  | .call A B F x f,rd,h,hk=>by
    simp only [M.run,Option.bind_eq_some_iff] at h ⊢
    obtain ⟨y,hy,h⟩:=h
    exact ⟨y,hy,run_local (f y) h hk⟩
theorem Rn_bind {α β:Type} {s:St} {f:α->M β} {v:β}:∀ (m:M α),Rn (m.bind f) s v->∃ u,Rn m s u/\Rn (f u) s v
  | .ret a,h=>⟨a,Rn_ret.2 rfl,h⟩
  | .get k g,h=>by
    obtain ⟨u,h1,h2⟩:=Rn_bind (g (s k)) (Rn_get.1 h)
    exact ⟨u,Rn_get.2 h1,h2⟩
  | .chk b m,h=>by
    obtain ⟨hb,h⟩:=Rn_chk.1 h
    obtain ⟨u,h1,h2⟩:=Rn_bind m h
    exact ⟨u,Rn_chk.2 ⟨hb,h1⟩,h2⟩
  | .br b m1 m2,h=>by
    rcases Rn_br.1 h with ⟨hb,h⟩ | ⟨hb,h⟩
    · obtain ⟨u,h1,h2⟩:=Rn_bind m1 h
      exact ⟨u,Rn_br.2 (.inl ⟨hb,h1⟩),h2⟩
    · obtain ⟨u,h1,h2⟩:=Rn_bind m2 h
      exact ⟨u,Rn_br.2 (.inr ⟨hb,h1⟩),h2⟩
  | .fail,h=>(Rn_fail.1 h).elim
  | .call A B F x g,h=>by
    obtain ⟨y,hy,h⟩:=Rn_call.1 h
    obtain ⟨u,h1,h2⟩:=Rn_bind (g y) h
    exact ⟨u,Rn_call.2 ⟨y,hy,h1⟩,h2⟩
theorem splitB_run {s:St} {u v:U} (h:Rn (splitB u) s v):v=u:=by
  unfold splitB at h
  split at h
  · rename_i k b
    rcases Rn_br.1 h with ⟨hb,h'⟩ | ⟨hb,h'⟩
    · have hb:b=true:=hb
      subst hb;exact (Rn_ret.1 h').symm
    · have hb:b=false:=hb
      subst hb;exact (Rn_ret.1 h').symm
  · exact (Rn_ret.1 h).symm
section
variable {C:Cx} {cf:Cfg} {st:St} {a:Act} {w w':World} {G:Gh} {us:U} {ops:Array Oper} {Q:Exit->Act->World->Prop}
theorem undef_nb (b:Bool):(undef:Value) ≠ .bool b:=by intro h;cases h
theorem exec1_sound (O:CfgOk C cf) {i:Nat} {o:Oper} (ho:ops[i]?=some o) (I:Inv C st a w G) (h:Rn (exec1 cf ops i o) st us) {K:Act->World->Prop} (hn:∀ a' w' G',Inv C (upds st us) a' w' G'->K a' w'):wpOp C.P ops Q i K a w:=by
  have hm:∀ us,Rn (bif isGuard ops i then (exec cf o).bind splitB else exec cf o) st us->Rn (exec cf o) st us:=fun us h=>by
    rcases Rn_bif.1 h with ⟨_,h⟩ | ⟨_,h⟩
    · obtain ⟨u,h1,h2⟩:=Rn_bind _ h
      rw [splitB_run h2];exact h1
    · exact h
  unfold wpOp
  rw [ho]
  simp only
  unfold exec1 at h
  simp only at h
  have hskip:Rn (wr cf o.dst .unit []) st us->K (a.put o.dst undef) w:=fun h=>hn _ _ G (wr_sound0 O h I ⟨[],rfl,rfl⟩)
  split at h
  · rename_i hg
    rw [if_pos (by unfold Region.wanted;rw [hg])]
    exact .inl (snd_all O o st a w G us K Q I (hm us h) hn)
  · rename_i j want hg
    split at h
    case h_2=>exact (Rn_fail.1 h).elim
    rename_i t ht
    obtain ⟨v,_,hv,h⟩:=slot_run I h
    split at h
    · rename_i b _
      have hx:=SW_bool hv
      have hy:yielded ops a.tmps j=some b:=by
        unfold yielded
        rw [ht]
        simp only [Option.bind_some]
        rw [Array.getD_eq_getD_getElem?] at hx
        cases hc:a.tmps[t]? with
        | none=>rw [hc] at hx;exact absurd hx (undef_nb b)
        | some z=>rw [hc] at hx;simp only [Option.getD_some] at hx;subst hx;rfl
      have hw:Region.wanted o (yielded ops a.tmps)=(b == want):=by
        unfold Region.wanted;rw [hg];simp only;rw [hy];cases b <;> cases want <;> rfl
      rcases Rn_br.1 h with ⟨hb,h⟩ | ⟨hb,h⟩
      · rw [if_pos (by rw [hw];exact hb)]
        exact .inl (snd_all O o st a w G us K Q I (hm us h) hn)
      · rw [if_neg (by rw [hw];intro e;have hb:(b == want)=false:=hb;rw [hb] at e;cases e)]
        exact hskip h
    · have hx:a.tmps.getD t undef=undef:=by obtain ⟨c,hc,h1⟩:=hv;have h1:c=[]:=h1;rw [hc,h1];rfl
      have hy:yielded ops a.tmps j=none:=by
        unfold yielded
        rw [ht]
        simp only [Option.bind_some]
        rw [Array.getD_eq_getD_getElem?] at hx
        cases hc:a.tmps[t]? with
        | none=>rfl
        | some z=>rw [hc] at hx;simp only [Option.getD_some] at hx;subst hx;rfl
      rw [if_neg (by unfold Region.wanted;rw [hg];simp only;rw [hy];simp)]
      exact hskip h
    · exact (Rn_fail.1 h).elim
def Seq (cf:Cfg) (ops:Array Oper) (rec:Nat->List Nat × U):List Nat->St->St->Prop
  | [],s,sn=>s=sn
  | i :: l,s,sn=>(∃ o,ops[i]?=some o/\(exec1 cf ops i o).run s=some (rec i))/\Seq cf ops rec l (upds s (rec i).2) sn
theorem Seq.congr {rec rec':Nat->List Nat × U}:∀ {l:List Nat} {s sn:St},(∀ i ∈ l,rec i=rec' i)->Seq cf ops rec l s sn->Seq cf ops rec' l s sn
  | [],_,_,_,h=>h
  | i :: l,s,sn,he,h=>by
    have e:=he i List.mem_cons_self
    refine ⟨by rw [<-e];exact h.1,?_⟩
    rw [<-e]
    exact Seq.congr (fun j hj=>he j (List.mem_cons_of_mem _ hj)) h.2
theorem goOps_seq {R:Type} {K:Tr->St->Option R} {r:R}:∀ (l:List Oper) (i:Nat) (s:St) (tr:Tr),goOps cf ops l i s tr K=some r->(∀ k,l[k]?=ops[i + k]?) →
    ∃ (rec:Nat->List Nat × U) (sn:St),Seq cf ops rec (List.range' i l.length) s sn/\K (tr ++ (List.range' i l.length).map fun j=>((rec j).1.reverse,(rec j).2.map (·.1))) sn=some r
  | [],i,s,tr,h,hl=>⟨fun _=>([],[]),s,rfl,by simpa [goOps] using h⟩
  | o :: l,i,s,tr,h,hl=>by
    simp only [goOps] at h
    obtain ⟨rd,u,h1,h2⟩:=go_run _ _ h
    simp only [List.append_nil] at h2
    obtain ⟨rec,sn,h3,h4⟩:=goOps_seq l (i + 1) (upds s u) _ h2 (fun k=>by
      have:=hl (k + 1)
      rw [List.getElem?_cons_succ] at this
      rw [this];congr 1;omega)
    have hc:∀ j ∈ List.range' (i + 1) l.length,rec j=(fun j=>if j=i then (rd,u) else rec j) j:=fun j hj=>by
      have:=List.mem_range'_1.1 hj
      simp only
      rw [if_neg (by omega)]
    refine ⟨fun j=>if j=i then (rd,u) else rec j,sn,?_,?_⟩
    · rw [List.length_cons,List.range'_succ]
      refine ⟨⟨o,by have:=hl 0;simpa using this.symm,by simpa using h1⟩,?_⟩
      simp only [if_true]
      exact Seq.congr hc h3
    · rw [List.length_cons,List.range'_succ,List.map_cons]
      simp only [if_true]
      have e:(List.range' (i + 1) l.length).map (fun j=>((rec j).1.reverse,(rec j).2.map (·.1)))=(List.range' (i + 1) l.length).map (fun j=>(((fun j=>if j=i then (rd,u) else rec j) j).1.reverse,((fun j=>if j=i then (rd,u) else rec j) j).2.map (·.1))):=by
        apply List.map_congr_left
        intro j hj
        rw [<-hc j hj]
      rw [<-e]
      simpa [List.append_assoc] using h4
theorem seq_sound (O:CfgOk C cf) {rec:Nat->List Nat × U} {sn:St} (hQ:∀ a' w' G',Inv C sn a' w' G'->Q .normal a' w'):∀ (l:List Nat) {s:St} {a:Act} {w:World} {G:Gh},Seq cf ops rec l s sn->Inv C s a w G->wpOps C.P ops Q l a w
  | [],s,a,w,G,h,I=>by
    have h:s=sn:=h
    subst h;exact hQ _ _ _ I
  | i :: l,s,a,w,G,h,I=>by
    obtain ⟨⟨o,ho,hr⟩,h2⟩:=h
    rw [wpOps_cons]
    exact exec1_sound O ho I ⟨(rec i).1,hr⟩ fun a' w' G' I'=>seq_sound O hQ l h2 I'
theorem disj_iff {a b:List Nat}:disj a b=true ↔ ∀ x ∈ a,∀ y ∈ b,x ≠ y:=by
  unfold disj
  simp only [List.all_eq_true,Bool.not_eq_true']
  constructor
  · intro h x hx y hy e
    have:=h x hx y hy
    rw [e] at this
    simp [Nat.beq_refl] at this
  · intro h x hx y hy
    cases hb:Nat.beq x y
    · rfl
    · exact absurd (Nat.eq_of_beq_eq_true hb) (h x hx y hy)
theorem upds_comm:∀ (v u:U) (s:St),(∀ p ∈ u,∀ q ∈ v,p.1 ≠ q.1)->upds (upds s u) v=upds (upds s v) u
  | v,[],s,_=>rfl
  | v,(k,c) :: u,s,h=>by
    show upds (upds (upd s k c) u) v=upds (upd (upds s v) k c) u
    rw [upds_comm v u _ fun p hp q hq=>h p (List.mem_cons_of_mem _ hp) q hq]
    congr 1
    have:∀ (v:U) (s:St),(∀ q ∈ v,k ≠ q.1)->upds (upd s k c) v=upd (upds s v) k c:=by
      intro v
      induction v with
      | nil=>intro s _;rfl
      | cons q v ih =>
        intro s hq
        obtain ⟨j,d⟩:=q
        have hne:k ≠ j:=hq (j,d) List.mem_cons_self
        show upds (upd (upd s k c) j d) v=upd (upds (upd s j d) v) k c
        rw [<-ih _ fun q hq'=>hq q (List.mem_cons_of_mem _ hq')]
        congr 1
        funext x
        by_cases h1:x=j
        · subst h1;rw [upd_same,upd_ne _ _ (Ne.symm hne),upd_same]
        · rw [upd_ne _ _ h1]
          by_cases h2:x=k
          · subst h2;rw [upd_same,upd_same]
          · rw [upd_ne _ _ h2,upd_ne _ _ h2,upd_ne _ _ h1]
    exact this v s fun q hq=>h (k,c) List.mem_cons_self q hq
def Ind (x y:List Nat × U):Prop:=(∀ p ∈ x.2,p.1 ∉ y.1)/\(∀ p ∈ x.2,∀ q ∈ y.2,p.1 ≠ q.1)/\(∀ q ∈ y.2,q.1 ∉ x.1)
theorem bubble {rec:Nat->List Nat × U} {sn:St}:∀ {l:List Nat} {s:St} {i:Nat},Seq cf ops rec l s sn->List.Pairwise (· < ·) l->i ∈ l->(∀ j ∈ l,j < i->Ind (rec j) (rec i)) →
    (∃ o,ops[i]?=some o/\(exec1 cf ops i o).run s=some (rec i))/\Seq cf ops rec (l.erase i) (upds s (rec i).2) sn
  | [],_,_,_,_,hi,_=>by cases hi
  | j :: l,s,i,h,hp,hi,hind=>by
    obtain ⟨⟨o,ho,hr⟩,h2⟩:=h
    rw [List.pairwise_cons] at hp
    by_cases e:i=j
    · subst e
      rw [List.erase_cons_head]
      exact ⟨⟨o,ho,hr⟩,h2⟩
    · have hi':i ∈ l:=(List.mem_cons.1 hi).resolve_left e
      obtain ⟨⟨o',ho',hr'⟩,h3⟩:=bubble h2 hp.2 hi' fun k hk hlt=>hind k (List.mem_cons_of_mem _ hk) hlt
      obtain ⟨i1,i2,i3⟩:=hind j List.mem_cons_self (hp.1 i hi')
      refine ⟨⟨o',ho',run_local _ hr' fun k hk=>?_⟩,?_⟩
      · exact (upds_out _ _ _ fun p hp e=>i1 p hp (by rw [e];exact hk)).symm
      · rw [List.erase_cons_tail (by simpa using Ne.symm e)]
        refine ⟨⟨o,ho,run_local _ hr fun k hk=>?_⟩,?_⟩
        · exact upds_out _ _ _ fun p hp e=>i3 p hp (by rw [e];exact hk)
        · rw [<-upds_comm _ _ _ i2];exact h3
theorem ancs_ok:∀ (l:List Oper) (acc:List (List Nat)) (pre:List Oper),pre.length=acc.length->(∀ i o,pre[i]?=some o->∀ x ∈ acc.getD i [],x ∈ esOf o\/∃ j ∈ esOf o,x ∈ acc.getD j []) →
    ∀ i o,(pre ++ l)[i]?=some o->∀ x ∈ (ancs l acc).getD i [],x ∈ esOf o\/∃ j ∈ esOf o,x ∈ (ancs l acc).getD j []
  | [],acc,pre,_,h,i,o,hi,x,hx=>h i o (by simpa using hi) x hx
  | o :: l,acc,pre,hl,h,i,o',hi,x,hx=>by
    refine ancs_ok l (acc ++ [esOf o ++ (esOf o).flatMap fun j=>acc.getD j []]) (pre ++ [o]) (by simp [hl]) (fun k ok hk y hy=>?_) i o' (by simpa [List.append_assoc] using hi) x hx
    have grow:∀ j z,z ∈ acc.getD j []->z ∈ (acc ++ [esOf o ++ (esOf o).flatMap fun j=>acc.getD j []]).getD j []:=fun j z hz=>by
      by_cases hj:j < acc.length
      · simpa [List.getD,List.getElem?_append,hj] using hz
      · simp [List.getD,List.getElem?_eq_none (by omega:acc.length<=j)] at hz
    by_cases hk':k < pre.length
    · rw [List.getElem?_append,if_pos hk'] at hk
      have hy':y ∈ acc.getD k []:=by simpa [List.getD,List.getElem?_append,show k < acc.length by omega] using hy
      rcases h k ok hk y hy' with h1 | ⟨j,h1,h2⟩
      · exact .inl h1
      · exact .inr ⟨j,h1,grow j y h2⟩
    · rw [List.getElem?_append,if_neg hk'] at hk
      have hk0:k - pre.length=0:=by
        rcases Nat.eq_zero_or_pos (k - pre.length) with h | h
        · exact h
        · rw [List.getElem?_eq_none (by simp;omega)] at hk;cases hk
      rw [hk0] at hk
      simp only [List.getElem?_cons_zero,Option.some.injEq] at hk
      subst hk
      have hke:k=acc.length:=by omega
      subst hke
      simp only [List.getD,List.getElem?_append,Nat.lt_irrefl,if_false,Nat.sub_self,List.getElem?_cons_zero,Option.getD_some,List.mem_append,List.mem_flatMap] at hy
      rcases hy with hy | ⟨j,hj,hy⟩
      · exact .inl hy
      · exact .inr ⟨j,hj,grow j y hy⟩
theorem backB_ok:∀ (l:List Oper) (i:Nat),backB l i=true->∀ k o,l[k]?=some o->∀ j ∈ esOf o,j < i + k
  | [],_,_,k,o,h=>by simp at h
  | o' :: l,i,hb,k,o,h=>by
    simp only [backB,Bool.and_eq_true,List.all_eq_true] at hb
    cases k with
    | zero =>
      simp only [List.getElem?_cons_zero,Option.some.injEq] at h
      subst h
      intro j hj
      exact Nat.le_of_ble_eq_true (hb.1 j hj)
    | succ k =>
      intro j hj
      have:=backB_ok l (i + 1) hb.2 k o (by simpa using h) j hj
      omega
end
end Go.Proofs.YtmlgfaojfmkdnaaGreatDoor.E
