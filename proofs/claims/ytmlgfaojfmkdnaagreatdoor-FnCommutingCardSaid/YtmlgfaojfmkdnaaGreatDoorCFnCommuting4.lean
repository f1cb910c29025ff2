/-
  The evaluator's regions are sound, second part: every order that a draw may bring. Conditions: those of each theorem.
-/
import Derived.Test.YtmlgfaojfmkdnaaGreatDoorCFnCommuting3
namespace Go.Proofs.YtmlgfaojfmkdnaaGreatDoor.E
open Go Go.RowKit
set_option linter.unusedVariables false
set_option linter.unusedSimpArgs false
section
variable {C:Cx} {cf:Cfg} {st:St} {a:Act} {w w':World} {G:Gh} {us:U} {ops:Array Oper} {Q:Exit->Act->World->Prop}
theorem setL {l:Array Bool} {i j:Nat} {d:Bool}:(l.setIfInBounds i true).getD j d=if j=i/\i < l.size then true else l.getD j d:=by
  simp only [Array.getD_eq_getD_getElem?,Array.getElem?_setIfInBounds]
  by_cases h:i=j
  · subst h
    by_cases h2:i < l.size <;> simp [h2]
  · rw [if_neg h,if_neg (by omega)]
theorem getD_tf {l:Array Bool} {j:Nat} (h:l.getD j true=false):l.getD j false=false/\j < l.size:=by
  rw [Array.getD_eq_getD_getElem?] at *
  cases hc:l[j]? with
  | none=>rw [hc] at h;cases h
  | some b=>rw [hc] at h;exact ⟨h,(Array.getElem?_eq_some_iff.1 hc).1⟩
theorem mem_ready {listed:Array Bool} {i:Nat}:i ∈ Region.ready .any ops listed ↔ listed.getD i true=false/\∃ o,ops[i]?=some o/\∀ j ∈ esOf o,listed.getD j false=true:=by
  unfold Region.ready
  rw [List.mem_filter,List.mem_range]
  simp only [Bool.and_eq_true,Bool.not_eq_true']
  have key:∀ o:Oper,(o.after.all fun e=>!Region.binds .any e || listed.getD e.on false)=true ↔ ∀ j ∈ esOf o,listed.getD j false=true:=by
    intro o
    rw [Array.all_eq_true']
    unfold esOf
    constructor
    · intro h j hj
      obtain ⟨e,he,rfl⟩:=List.mem_map.1 hj
      rw [List.mem_filter] at he
      have:=h e (by simpa using he.1)
      rw [he.2] at this;simpa using this
    · intro h e he
      cases hb:Region.binds .any e
      · rfl
      · simp only [Bool.not_true,Bool.false_or]
        exact h e.on (List.mem_map.2 ⟨e,List.mem_filter.2 ⟨by simpa using he,hb⟩,rfl⟩)
  constructor
  · rintro ⟨h1,h2,h3⟩
    refine ⟨h2,ops[i],by simp [h1],?_⟩
    rw [<-key]
    simpa [h1] using h3
  · rintro ⟨h1,o,h2,h3⟩
    refine ⟨(Array.getElem?_eq_some_iff.1 h2).1,h1,?_⟩
    rw [h2]
    exact (key o).2 h3
theorem any_sound (O:CfgOk C cf) {rec:Nat->List Nat × U} {sn:St} (hQ:∀ a' w' G',Inv C sn a' w' G'->Q .normal a' w') {an:List (List Nat)} (hedge:∀ i o,ops[i]?=some o->∀ j ∈ esOf o,j < i)
    (han:∀ i o,ops[i]?=some o->∀ x ∈ an.getD i [],x ∈ esOf o\/∃ j ∈ esOf o,x ∈ an.getD j []) (hind:∀ j,j < ops.size->∀ i,i < j->i ∉ an.getD j []->Ind (rec i) (rec j)) :
    ∀ (fuel:Nat) (listed:Array Bool) (L:List Nat) (s:St) (a:Act) (w:World) (G:Gh),L.length=fuel->List.Pairwise (· < ·) L->(∀ j,j ∈ L ↔ listed.getD j true=false)->listed.size=ops.size →
      (∀ i o,ops[i]?=some o->listed.getD i false=true->∀ j ∈ esOf o,listed.getD j false=true)->Seq cf ops rec L s sn->Inv C s a w G->wpAny C.P .any ops Q fuel listed a w:=by
  have clos:∀ (listed:Array Bool),(∀ i o,ops[i]?=some o->listed.getD i false=true->∀ j ∈ esOf o,listed.getD j false=true)->∀ (n i:Nat),i < n->∀ o,ops[i]?=some o->(∀ j ∈ esOf o,listed.getD j false=true)->∀ x ∈ an.getD i [],listed.getD x false=true:=by
    intro listed hd n
    induction n with
    | zero=>intro i hi;omega
    | succ n ih =>
      intro i hi o ho he x hx
      rcases han i o ho x hx with h1 | ⟨j,h1,h2⟩
      · exact he x h1
      · have hj:=hedge i o ho j h1
        have hjs:j < ops.size:=Nat.lt_trans hj (Array.getElem?_eq_some_iff.1 ho).1
        have hoj:ops[j]?=some ops[j]:=by simp [hjs]
        exact ih j (by omega) _ hoj (hd j _ hoj (he j h1)) x h2
  intro fuel
  induction fuel with
  | zero =>
    intro listed L s a w G hl hp hm hs hd hseq I
    have:L=[]:=List.length_eq_zero_iff.1 hl
    subst this
    refine ⟨?_,?_⟩
    · rw [List.eq_nil_iff_forall_not_mem]
      intro i hi
      rw [mem_ready] at hi
      have:=(hm i).2 hi.1
      cases this
    · have hseq:s=sn:=hseq
      subst hseq;exact hQ _ _ _ I
  | succ fuel ih =>
    intro listed L s a w G hl hp hm hs hd hseq I
    refine ⟨fun hr=>?_,fun i hi=>?_⟩
    · exfalso
      cases L with
      | nil=>cases hl
      | cons i0 L' =>
        rw [List.pairwise_cons] at hp
        have h0:=(hm i0).1 List.mem_cons_self
        have hlt:i0 < ops.size:=by rw [<-hs];exact (getD_tf h0).2
        have ho:ops[i0]?=some ops[i0]:=by simp [hlt]
        have:i0 ∈ Region.ready .any ops listed:=mem_ready.2 ⟨h0,_,ho,fun j hj=>by
          have hlt:=hedge i0 _ ho j hj
          cases hc:listed.getD j false
          · exfalso
            have hjs:j < listed.size:=by omega
            have:listed.getD j true=false:=by
              rw [Array.getD_eq_getD_getElem?] at hc ⊢
              rw [Array.getElem?_eq_getElem hjs] at hc ⊢
              exact hc
            rcases List.mem_cons.1 ((hm j).2 this) with e | hjm
            · omega
            · have:=hp.1 j hjm;omega
          · rfl⟩
        rw [hr] at this;cases this
    · obtain ⟨h1,o,ho,hes⟩:=mem_ready.1 hi
      have hiL:=(hm i).2 h1
      obtain ⟨⟨o',ho',hrun⟩,hseq'⟩:=bubble hseq hp hiL fun j hj hlt=>hind i (Array.getElem?_eq_some_iff.1 ho).1 j hlt fun hja=>by
        have:=clos listed hd (i + 1) i (Nat.lt_succ_self i) o ho hes j hja
        rw [(getD_tf ((hm j).1 hj)).1] at this;cases this
      have hnd:L.Nodup:=hp.imp fun h=>Nat.ne_of_lt h
      refine exec1_sound O ho' I ⟨(rec i).1,hrun⟩ fun a' w' G' I'=>ih _ (L.erase i) _ a' w' G' (by rw [List.length_erase_of_mem hiL,hl];rfl) (hp.sublist List.erase_sublist) (fun j=>?_) (by simp [hs]) (fun k ok hk hlk j hj=>?_) hseq' I'
      · rw [hnd.mem_erase_iff,hm j,setL]
        have his:i < listed.size:=(getD_tf h1).2
        by_cases e:j=i
        · simp [e,his]
        · simp [e]
      · rw [setL] at hlk ⊢
        split
        · rfl
        · by_cases e:k=i/\i < listed.size
          · obtain ⟨rfl,_⟩:=e
            rw [ho] at hk;cases hk
            exact hes j hj
          · rw [if_neg e] at hlk
            exact hd k ok hk hlk j hj
theorem evR_sound (O:CfgOk C cf) (hmix:C.P.follows .mixedOrders=true) {R:Type} {id:Nat} {draw:Bool} {K:St->Option R} {r:R} (h:evR cf ops draw st K=some r) (I:Inv C st a w G)
    (hQ:∀ st' a' w' G',K st'=some r->Inv C st' a' w' G'->Q .normal a' w'):(Code.region id ops draw).wp C.P Q a w:=by
  unfold evR at h
  obtain ⟨rec,sn,hseq,hK⟩:=goOps_seq ops.toList 0 st [] h (fun k=>by simp)
  have hlen:ops.toList.length=ops.size:=Array.length_toList
  rw [hlen] at hseq hK
  cases draw with
  | false =>
    simp only [cond_false] at hK
    refine wp_region ?_
    rw [List.range_eq_range']
    exact seq_sound O (fun a' w' G' I'=>hQ sn a' w' G' hK I') _ hseq I
  | true =>
    simp only [cond_true] at hK
    cases hc:backB ops.toList 0 && indepAll (ancs ops.toList []) ([] ++ (List.range' 0 ops.size).map fun j=>((rec j).1.reverse,(rec j).2.map (·.1)))
    · rw [hc] at hK;cases hK
    rw [hc] at hK
    simp only [cond_true] at hK
    rw [Bool.and_eq_true] at hc
    refine wp_region_any hmix (any_sound O (fun a' w' G' I'=>hQ sn a' w' G' hK I') (an:=ancs ops.toList []) (rec:=rec) (fun i o ho j hj=>?_) (fun i o ho x hx=>?_) (fun j hj i hi hnot=>?_) ops.size _ (List.range' 0 ops.size) st a _ G (by simp) ?_ (fun j=>?_) (by simp) (fun i o ho hl=>?_) hseq ?_)
    · have:=backB_ok ops.toList 0 hc.1 i o (by simpa using ho) j hj
      omega
    · exact ancs_ok ops.toList [] [] rfl (fun i o h=>by simp at h) i o (by simpa using ho) x hx
    · have hin:=hc.2
      unfold indepAll at hin
      simp only [List.nil_append,List.length_map,List.length_range',List.all_eq_true,List.mem_range,Bool.or_eq_true] at hin
      have hget:∀ k,k < ops.size->((List.range' 0 ops.size).map fun j=>((rec j).1.reverse,(rec j).2.map (·.1))).getD k ([],[])=((rec k).1.reverse,(rec k).2.map (·.1)):=fun k hk=>by
        simp [List.getD,hk]
      rcases hin j hj i hi with h1 | h1
      · exfalso
        obtain ⟨x,hx,he⟩:=List.any_eq_true.1 h1
        exact hnot (by rw [Nat.eq_of_beq_eq_true he];exact hx)
      · rw [hget j hj,hget i (by omega)] at h1
        unfold indep2 at h1
        simp only [Bool.and_eq_true,disj_iff] at h1
        obtain ⟨⟨h1,h2⟩,h3⟩:=h1
        refine ⟨fun p hp hm=>h1 p.1 (List.mem_map.2 ⟨p,hp,rfl⟩) p.1 (by simpa using hm) rfl,fun p hp q hq e=>h2 p.1 (List.mem_map.2 ⟨p,hp,rfl⟩) q.1 (List.mem_map.2 ⟨q,hq,rfl⟩) e,fun q hq hm=>h3 q.1 (by simpa using hm) q.1 (List.mem_map.2 ⟨q,hq,rfl⟩) rfl⟩
    · exact List.pairwise_lt_range'
    · rw [List.mem_range'_1,Array.getD_eq_getD_getElem?]
      by_cases hj:j < ops.size
      · simp [hj]
      · simp [hj]
    · exfalso
      rw [Array.getD_eq_getD_getElem?] at hl
      by_cases hj:i < ops.size
      · simp [hj] at hl
      · simp [hj] at hl
    · exact inv_grow (w':={ w with drawn:=w.drawn + 1 }) I rfl rfl rfl (Nat.le_refl _) (fun b _=>rfl)
end
end Go.Proofs.YtmlgfaojfmkdnaaGreatDoor.E
namespace Go.Proofs.YtmlgfaojfmkdnaaGreatDoor.E
open Go Go.RowKit
set_option linter.unusedVariables false
set_option linter.unusedSimpArgs false
section
variable {C:Cx} {cf:Cfg} {st st':St} {a:Act} {w w':World} {G G':Gh} {us:U}
/-- What an entry of a standard state is made of. -/
def EntK (st:St) (rs:List (Nat × Option Nat)) (bs:List (Nat × Nat)) (lo hi:Nat) (q:Nat × Cell):Prop :=
  (∃ e l d o,q=(rk d,.root 0 0 e l)/\(d,o) ∈ rs/\lo<=d/\d < hi/\(∀ t,o=some t->∃ g h,st (rk t)=.root g h e l)/\(o=none->l=[])) ∨
  (∃ T v d b,q=(bk d,.box 0 T v)/\(d,b) ∈ bs/\lo<=d/\d < hi/\∃ g c,st (bk b)=.box g T c)
theorem EntK.mono {rs rs':List (Nat × Option Nat)} {bs bs':List (Nat × Nat)} {lo hi lo' hi':Nat} {q:Nat × Cell} (h:EntK st rs bs lo hi q) (h1:∀ p ∈ rs,p ∈ rs') (h2:∀ p ∈ bs,p ∈ bs') (h3:lo'<=lo) (h4:hi<=hi'):EntK st rs' bs' lo' hi' q:=by
  rcases h with ⟨e,l,d,o,k1,k2,k3,k4,k5⟩ | ⟨T,v,d,b,k1,k2,k3,k4,k5⟩
  · exact .inl ⟨e,l,d,o,k1,h1 _ k2,by omega,by omega,k5⟩
  · exact .inr ⟨T,v,d,b,k1,h2 _ k2,by omega,by omega,k5⟩
def rng (lo hi:Nat) (k:Nat):Prop:=∃ d,lo<=d/\d < hi/\(k=rk d\/k=bk d)
theorem rng_mono {lo hi lo' hi' k:Nat} (h:rng lo hi k) (h1:lo'<=lo) (h2:hi<=hi'):rng lo' hi' k:=by
  obtain ⟨d,h3,h4,h5⟩:=h;exact ⟨d,by omega,by omega,h5⟩
theorem rng_dis {lo hi lo' hi' k:Nat} (h:rng lo hi k) (h':rng lo' hi' k) (hd:hi<=lo'\/hi'<=lo):False:=by
  obtain ⟨d,h3,h4,h5⟩:=h
  obtain ⟨d',h3',h4',h5'⟩:=h'
  unfold rk bk at *;omega
theorem cloB_eq {f:Nat} {v:SV} {b g:Nat} (h:cloB f v=.pbx b g []):v=.clo f .unit (.pair (.pbx b g []) .unit):=by
  unfold cloB at h
  split at h
  · rename_i f' p
    cases hb:Nat.beq f f'
    · rw [hb] at h;cases h
    · rw [hb] at h
      have hb:=Nat.eq_of_beq_eq_true hb
      subst hb
      have h:p=.pbx b g []:=h
      rw [h]
  · cases h
/-- The facts that need no invariant: keys and origins. -/
structure ExtK (st:St) (sh:Shp) (x:den sh.ty) (d:Nat) (rs:List (Nat × Option Nat)) (bs:List (Nat × Nat)) (d':Nat):Prop where
  le:d<=d'
  fin:(mkS sh x d).2.2=d'
  ents:∀ q ∈ (mkS sh x d).2.1,EntK st rs bs d d' q
  keys:((mkS sh x d).2.1.map (·.1)).Nodup
  rsd:∀ q ∈ rs,d<=q.1/\q.1 < d'
  bsd:∀ q ∈ bs,d<=q.1/\q.1 < d'
  rsn:(rs.map (·.1)).Nodup
  bsn:(bs.map (·.1)).Nodup
theorem entK_rng {rs:List (Nat × Option Nat)} {bs:List (Nat × Nat)} {lo hi:Nat} {q:Nat × Cell} (h:EntK st rs bs lo hi q):rng lo hi q.1:=by
  rcases h with ⟨e,l,d,o,rfl,_,k3,k4,_⟩ | ⟨T,v,d,b,rfl,_,k3,k4,_⟩
  · exact ⟨d,k3,k4,.inl rfl⟩
  · exact ⟨d,k3,k4,.inr rfl⟩
theorem nodup_app {α:Type} {l m:List α} (h1:l.Nodup) (h2:m.Nodup) (h:∀ x ∈ l,x ∈ m->False):(l ++ m).Nodup :=
  List.nodup_append.2 ⟨h1,h2,fun x hx y hy e=>h x hx (e ▸ hy)⟩
theorem some4 {α β γ δ:Type} {a a':α} {b b':β} {c c':γ} {d d':δ} (h:(some (a,b,c,d):Option (α × β × γ × δ))=some (a',b',c',d')):a=a'/\b=b'/\c=c'/\d=d':=by
  cases h;exact ⟨rfl,rfl,rfl,rfl⟩
theorem ext_keys:∀ (sh:Shp) (v:SV) (d:Nat) {x:den sh.ty} {rs:List (Nat × Option Nat)} {bs:List (Nat × Nat)} {d':Nat},extS st sh v d=some (x,rs,bs,d')->ExtK st sh x d rs bs d'
  | .v T,v,d,x,rs,bs,d',h=>by
    simp only [extS] at h
    unfold extV at h
    split at h
    · split at h
      · obtain ⟨_,rfl,rfl,rfl⟩:=some4 h
        exact ⟨Nat.le_refl _,rfl,fun q hq=>(by cases hq),List.nodup_nil,fun q hq=>(by cases hq),fun q hq=>(by cases hq),List.nodup_nil,List.nodup_nil⟩
      · cases h
    · cases h
  | .r e,v,d,x,rs,bs,d',h=>by
    have fin:∀ (l:List (den e)) (o:Option Nat),(some ((l:den (Shp.r e).ty),[(d,o)],([]:List (Nat × Nat)),d + 1)=some (x,rs,bs,d'))->(∀ t,o=some t->∃ g h,st (rk t)=.root g h e l)->(o=none->l=[])->ExtK st (.r e) x d rs bs d':=by
      intro l o h h1 h2
      obtain ⟨rfl,rfl,rfl,rfl⟩:=some4 h
      refine ⟨Nat.le_succ _,rfl,fun q hq=>?_,by simp [mkS],fun q hq=>?_,fun q hq=>(by cases hq),by simp,List.nodup_nil⟩
      · have hq:q ∈ [(rk d,Cell.root 0 0 e l)]:=hq
        simp only [List.mem_singleton] at hq
        exact .inl ⟨e,l,d,o,hq,by simp,Nat.le_refl _,Nat.lt_succ_self _,h1,h2⟩
      · simp only [List.mem_singleton] at hq;subst hq;exact ⟨Nat.le_refl _,Nat.lt_succ_self _⟩
    simp only [extS] at h
    unfold extR at h
    cases v with
    | nil=>exact fin [] none h (fun t ht=>by cases ht) (fun _=>rfl)
    | ref t g e1 =>
      simp only at h
      split at h
      case h_2=>cases h
      rename_i g' hh e' l hr
      split at h
      case isFalse=>cases h
      rename_i he;subst he
      cases hb:Nat.beq g g'
      · rw [hb] at h;cases h
      · rw [hb] at h
        exact fin l (some t) h (fun t' ht=>by cases ht;exact ⟨g',hh,hr⟩) (fun e=>by cases e)
    | _=>cases h
  | .bx c,v,d,x,rs,bs,d',h=>by
    simp only [extS] at h
    unfold extB at h
    split at h
    case h_2=>cases h
    rename_i b g
    split at h
    case h_2=>cases h
    · rename_i g' B v' hr
      cases hb:(Nat.beq g g' && decide (B=c.ty))
      · rw [hb] at h;cases h
      rw [hb] at h;simp only [cond_true] at h
      split at h
      case h_2=>cases h
      rename_i y rs1 bs1 d1 he
      obtain ⟨rfl,rfl,rfl,rfl⟩:=some4 h
      simp only [Bool.and_eq_true,decide_eq_true_eq] at hb
      have ih:=ext_keys c v' (d + 1) he
      have hle:=ih.le
      refine ⟨by omega,ih.fin,fun q hq=>?_,?_,fun q hq=>?_,fun q hq=>?_,ih.rsn,?_⟩
      · rcases List.mem_cons.1 hq with hq | hq
        · exact .inr ⟨c.ty,_,d,b,hq,by simp,Nat.le_refl _,by omega,g',v',by rw [hr,hb.2]⟩
        · exact (ih.ents q hq).mono (fun _ h=>h) (fun _ h=>List.mem_cons_of_mem _ h) (Nat.le_succ _) (Nat.le_refl _)
      · show ((bk d,_) :: (mkS c _ (d + 1)).2.1 |>.map (·.1)).Nodup
        rw [List.map_cons,List.nodup_cons]
        refine ⟨fun hm=>?_,ih.keys⟩
        obtain ⟨q,hq,he⟩:=List.mem_map.1 hm
        have hr2:=entK_rng (ih.ents q hq)
        rw [he] at hr2
        exact rng_dis hr2 (⟨d,Nat.le_refl _,Nat.lt_succ_self _,.inr rfl⟩:rng d (d + 1) (bk d)) (.inr (Nat.le_refl _))
      · have:=ih.rsd q hq;omega
      · rcases List.mem_cons.1 hq with hq | hq
        · subst hq;exact ⟨Nat.le_refl _,by omega⟩
        · have:=ih.bsd q hq;omega
      · rw [List.map_cons,List.nodup_cons]
        refine ⟨fun hm=>?_,ih.bsn⟩
        obtain ⟨q,hq,he⟩:=List.mem_map.1 hm
        have:=ih.bsd q hq
        have he:q.1=d:=he
        omega
  | .cl f0 c,v,d,x,rs,bs,d',h=>by
    simp only [extS] at h
    unfold extB at h
    split at h
    case h_2=>cases h
    rename_i b g hcl
    split at h
    case h_2=>cases h
    · rename_i g' B v' hr
      cases hb:(Nat.beq g g' && decide (B=c.ty))
      · rw [hb] at h;cases h
      rw [hb] at h;simp only [cond_true] at h
      split at h
      case h_2=>cases h
      rename_i y rs1 bs1 d1 he
      obtain ⟨rfl,rfl,rfl,rfl⟩:=some4 h
      simp only [Bool.and_eq_true,decide_eq_true_eq] at hb
      have ih:=ext_keys c v' (d + 1) he
      have hle:=ih.le
      refine ⟨by omega,ih.fin,fun q hq=>?_,?_,fun q hq=>?_,fun q hq=>?_,ih.rsn,?_⟩
      · rcases List.mem_cons.1 hq with hq | hq
        · exact .inr ⟨c.ty,_,d,b,hq,by simp,Nat.le_refl _,by omega,g',v',by rw [hr,hb.2]⟩
        · exact (ih.ents q hq).mono (fun _ h=>h) (fun _ h=>List.mem_cons_of_mem _ h) (Nat.le_succ _) (Nat.le_refl _)
      · show ((bk d,_) :: (mkS c _ (d + 1)).2.1 |>.map (·.1)).Nodup
        rw [List.map_cons,List.nodup_cons]
        refine ⟨fun hm=>?_,ih.keys⟩
        obtain ⟨q,hq,he⟩:=List.mem_map.1 hm
        have hr2:=entK_rng (ih.ents q hq)
        rw [he] at hr2
        exact rng_dis hr2 (⟨d,Nat.le_refl _,Nat.lt_succ_self _,.inr rfl⟩:rng d (d + 1) (bk d)) (.inr (Nat.le_refl _))
      · have:=ih.rsd q hq;omega
      · rcases List.mem_cons.1 hq with hq | hq
        · subst hq;exact ⟨Nat.le_refl _,by omega⟩
        · have:=ih.bsd q hq;omega
      · rw [List.map_cons,List.nodup_cons]
        refine ⟨fun hm=>?_,ih.bsn⟩
        obtain ⟨q,hq,he⟩:=List.mem_map.1 hm
        have:=ih.bsd q hq
        have he:q.1=d:=he
        omega
  | .unit,v,d,x,rs,bs,d',h=>by
    simp only [extS] at h
    unfold extU at h
    split at h
    case h_2=>cases h
    obtain ⟨_,rfl,rfl,rfl⟩:=some4 h
    exact ⟨Nat.le_refl _,rfl,fun q hq=>(by cases hq),List.nodup_nil,fun q hq=>(by cases hq),fun q hq=>(by cases hq),List.nodup_nil,List.nodup_nil⟩
  | .pair a b,v,d,x,rs,bs,d',h=>by
    simp only [extS] at h
    unfold extP at h
    split at h
    case h_2=>cases h
    rename_i v1 v2
    split at h
    case h_2=>cases h
    rename_i y1 rs1 bs1 d1 he1
    split at h
    case h_2=>cases h
    rename_i y2 rs2 bs2 d2 he2
    obtain ⟨rfl,rfl,rfl,rfl⟩:=some4 h
    have i1:=ext_keys a v1 d he1
    have i2:=ext_keys b v2 d1 he2
    have l1:=i1.le
    have l2:=i2.le
    have hm:(mkS (.pair a b) (y1,y2) d).2.1=(mkS a y1 d).2.1 ++ (mkS b y2 d1).2.1:=by
      show _ ++ (mkS b y2 (mkS a y1 d).2.2).2.1=_
      rw [i1.fin]
    refine ⟨by omega,?_,fun q hq=>?_,?_,fun q hq=>?_,fun q hq=>?_,?_,?_⟩
    · show (mkS b y2 (mkS a y1 d).2.2).2.2=_
      rw [i1.fin,i2.fin]
    · rw [hm] at hq
      rcases List.mem_append.1 hq with hq | hq
      · exact (i1.ents q hq).mono (fun _ h=>List.mem_append_left _ h) (fun _ h=>List.mem_append_left _ h) (Nat.le_refl _) l2
      · exact (i2.ents q hq).mono (fun _ h=>List.mem_append_right _ h) (fun _ h=>List.mem_append_right _ h) l1 (Nat.le_refl _)
    · rw [hm,List.map_append]
      refine nodup_app i1.keys i2.keys fun k h1 h2=>?_
      obtain ⟨q,hq,rfl⟩:=List.mem_map.1 h1
      obtain ⟨q',hq',he⟩:=List.mem_map.1 h2
      have r1:=entK_rng (i1.ents q hq)
      have r2:=entK_rng (i2.ents q' hq')
      rw [he] at r2
      exact rng_dis r1 r2 (.inl (Nat.le_refl _))
    · rcases List.mem_append.1 hq with hq | hq
      · have:=i1.rsd q hq;omega
      · have:=i2.rsd q hq;omega
    · rcases List.mem_append.1 hq with hq | hq
      · have:=i1.bsd q hq;omega
      · have:=i2.bsd q hq;omega
    · rw [List.map_append]
      refine nodup_app i1.rsn i2.rsn fun k h1 h2=>?_
      obtain ⟨q,hq,rfl⟩:=List.mem_map.1 h1
      obtain ⟨q',hq',he⟩:=List.mem_map.1 h2
      have:=i1.rsd q hq
      have:=i2.rsd q' hq'
      have he:q'.1=q.1:=he
      omega
    · rw [List.map_append]
      refine nodup_app i1.bsn i2.bsn fun k h1 h2=>?_
      obtain ⟨q,hq,rfl⟩:=List.mem_map.1 h1
      obtain ⟨q',hq',he⟩:=List.mem_map.1 h2
      have:=i1.bsd q hq
      have:=i2.bsd q' hq'
      have he:q'.1=q.1:=he
      omega
  | .st a,v,d,x,rs,bs,d',h=>by
    have fin:∀ v',extS st a v' d=some (x,rs,bs,d')->ExtK st (.st a) x d rs bs d':=fun v' h=>by
      have ih:=ext_keys a v' d h
      exact ⟨ih.le,ih.fin,ih.ents,ih.keys,ih.rsd,ih.bsd,ih.rsn,ih.bsn⟩
    simp only [extS] at h
    unfold extT at h
    cases v with
    | st v'=>exact fin _ h
    | val T x0 =>
      simp only at h
      split at h
      · exact fin _ h
      · cases h
    | _=>cases h
/-- The values of a standard state. -/
structure Mapd (G G':Gh) (rs:List (Nat × Option Nat)) (bs:List (Nat × Nat)):Prop where
  rsm:∀ d t,(d,some t) ∈ rs->G'.hd (rk d)=G.hd (rk t)
  rsz:∀ d,(d,none) ∈ rs->G'.hd (rk d)=.slice none 0 0
  bsm:∀ d b,(d,b) ∈ bs->G'.bx (bk d)=G.bx (bk b)
theorem Mapd.mono {rs rs':List (Nat × Option Nat)} {bs bs':List (Nat × Nat)} (h:Mapd G G' rs bs) (h1:∀ p ∈ rs',p ∈ rs) (h2:∀ p ∈ bs',p ∈ bs):Mapd G G' rs' bs' :=
  ⟨fun d t hm=>h.rsm d t (h1 _ hm),fun d hm=>h.rsz d (h1 _ hm),fun d b hm=>h.bsm d b (h2 _ hm)⟩
theorem ext_vals (I:InvM C st w G) (hS:∀ b,Fz st G w b->Fz st' G' w b):∀ (sh:Shp) (v:SV) (d:Nat) {x:den sh.ty} {rs:List (Nat × Option Nat)} {bs:List (Nat × Nat)} {d':Nat} {cs:List Value},extS st sh v d=some (x,rs,bs,d') →
    SX C.P st G w (Fz st G w) v false cs->(∀ q ∈ (mkS sh x d).2.1,st' q.1=q.2)->Mapd G G' rs bs →
    SX C.P st' G' w (Fz st' G' w) (mkS sh x d).1 false cs/\(mkS sh x d).1.hasTy sh.ty=true/\valS (mkS sh x d).1 cs=valS v cs ∧
      ∀ k g T u,(k,Cell.box g T u) ∈ (mkS sh x d).2.1->u.hasTy T=true/\∃ arr ty,w.heap[G'.bx k]?=some (.cells arr ty (0,0))/\SX C.P st' G' w (Fz st' G' w) u false arr.toList
  | .v T,v,d,x,rs,bs,d',cs,h,hs,hst,hM=>by
    simp only [extS] at h
    unfold extV at h
    split at h
    case h_2=>cases h
    rename_i T' x' hp
    split at h
    case isFalse=>cases h
    rename_i e;subst e
    obtain ⟨rfl,rfl,rfl,rfl⟩:=some4 h
    refine ⟨?_,by simp [mkS,SV.hasTy,Shp.ty],(plainS_valS v hp).symm,fun k g T u hq=>(by cases hq)⟩
    exact RX_congr C.P T' false (Nat.le_refl _) (fun b hb _=>⟨hS b hb,rfl⟩) (fun b hb=>hb.1) (plainS_sx v hp hs)
  | .r e,v,d,x,rs,bs,d',cs,h,hs,hst,hM=>by
    simp only [extS] at h
    unfold extR at h
    cases v with
    | nil =>
      obtain ⟨rfl,rfl,rfl,rfl⟩:=some4 h
      have hs:cs=[.slice none 0 0]:=hs
      subst hs
      refine ⟨⟨_,rfl,rfl,Nat.zero_le _,fun h e' l hr=>?_⟩,by simp [mkS,SV.hasTy,Shp.ty],rfl,fun k g T u hq=>?_⟩
      · have:=hst (rk d,.root 0 0 e []) (by simp [mkS])
        simp only at this
        rw [this] at hr;cases hr
        exact ⟨(hM.rsz d (by simp)).symm,rfl⟩
      · simp [mkS] at hq
    | ref t g e1 =>
      simp only at h
      split at h
      case h_2=>cases h
      rename_i g' hh e' l hr
      split at h
      case isFalse=>cases h
      rename_i he;subst he
      cases hb:Nat.beq g g'
      · rw [hb] at h;cases h
      rw [hb] at h
      obtain ⟨rfl,rfl,rfl,rfl⟩:=some4 h
      have hg:g=g':=Nat.eq_of_beq_eq_true hb
      subst hg
      obtain ⟨xv,rfl,ho,_,hx⟩:=hs
      obtain ⟨rfl,_⟩:=hx _ _ _ hr
      refine ⟨⟨_,rfl,ho,Nat.zero_le _,fun h e2 l2 hr2=>?_⟩,by simp [mkS,SV.hasTy,Shp.ty],rfl,fun k g T u hq=>?_⟩
      · have:=hst (rk d,.root 0 0 e' l) (by simp [mkS])
        simp only at this
        rw [this] at hr2;cases hr2
        exact ⟨(hM.rsm d t (by simp)).symm,rfl⟩
      · simp [mkS] at hq
    | _=>cases h
  | .bx c,v,d,x,rs,bs,d',cs,h,hs,hst,hM=>by
    simp only [extS] at h
    unfold extB at h
    split at h
    case h_2=>cases h
    rename_i b g
    split at h
    case h_2=>cases h
    · rename_i g' B v' hr
      cases hb:(Nat.beq g g' && decide (B=c.ty))
      · rw [hb] at h;cases h
      rw [hb] at h;simp only [cond_true] at h
      split at h
      case h_2=>cases h
      rename_i y rs1 bs1 d1 he
      obtain ⟨rfl,rfl,rfl,rfl⟩:=some4 h
      simp only [Bool.and_eq_true,decide_eq_true_eq] at hb
      have hg:g=g':=Nat.eq_of_beq_eq_true hb.1
      subst hg
      obtain ⟨xv,rfl,ho,_,hx⟩:=hs
      obtain ⟨ht,arr,ty,ha,hv⟩:=I.bx _ _ _ _ hr
      have hbx:=hM.bsm d b (by simp)
      obtain ⟨k1,k2,k3,k4⟩:=ext_vals I hS c v' (d + 1) he hv (fun q hq=>hst q (List.mem_cons_of_mem _ hq)) (hM.mono (fun _ h=>h) (fun _ h=>List.mem_cons_of_mem _ h))
      refine ⟨⟨xv,rfl,ho,Nat.zero_le _,fun T u hr2=>?_⟩,rfl,rfl,fun k g T u hq=>?_⟩
      · rw [hx _ _ hr,hbx];rfl
      · rcases List.mem_cons.1 hq with hq | hq
        · simp only [Prod.mk.injEq,Cell.box.injEq] at hq
          obtain ⟨rfl,_,rfl,rfl⟩:=hq
          exact ⟨k2,arr,ty,by rw [hbx];exact ha,k1⟩
        · exact k4 k g T u hq
  | .cl f0 c,v,d,x,rs,bs,d',cs,h,hs,hst,hM=>by
    simp only [extS] at h
    unfold extB at h
    split at h
    case h_2=>cases h
    rename_i b g hcl
    obtain rfl:v=.clo f0 .unit (.pair (.pbx b g []) .unit):=cloB_eq hcl
    split at h
    case h_2=>cases h
    · rename_i g' B v' hr
      cases hb:(Nat.beq g g' && decide (B=c.ty))
      · rw [hb] at h;cases h
      rw [hb] at h;simp only [cond_true] at h
      split at h
      case h_2=>cases h
      rename_i y rs1 bs1 d1 he
      obtain ⟨rfl,rfl,rfl,rfl⟩:=some4 h
      simp only [Bool.and_eq_true,decide_eq_true_eq] at hb
      have hg:g=g':=Nat.eq_of_beq_eq_true hb.1
      subst hg
      obtain ⟨vs0,us0,rfl,u1,u2⟩:=hs
      obtain ⟨c1,r0,rfl,⟨xv,rfl,ho,_,hx⟩,u3⟩:=u2
      have u1:vs0=[]:=u1
      have u3:r0=[]:=u3
      subst u1 u3
      obtain ⟨ht,arr,ty,ha,hv⟩:=I.bx _ _ _ _ hr
      have hbx:=hM.bsm d b (by simp)
      obtain ⟨k1,k2,k3,k4⟩:=ext_vals I hS c v' (d + 1) he hv (fun q hq=>hst q (List.mem_cons_of_mem _ hq)) (hM.mono (fun _ h=>h) (fun _ h=>List.mem_cons_of_mem _ h))
      refine ⟨⟨[],[xv],rfl,rfl,[xv],[],rfl,⟨xv,rfl,ho,Nat.zero_le _,fun T u hr2=>?_⟩,rfl⟩,rfl,rfl,fun k g T u hq=>?_⟩
      · rw [hx _ _ hr,hbx];rfl
      · rcases List.mem_cons.1 hq with hq | hq
        · simp only [Prod.mk.injEq,Cell.box.injEq] at hq
          obtain ⟨rfl,_,rfl,rfl⟩:=hq
          exact ⟨k2,arr,ty,by rw [hbx];exact ha,k1⟩
        · exact k4 k g T u hq
  | .unit,v,d,x,rs,bs,d',cs,h,hs,hst,hM=>by
    simp only [extS] at h
    unfold extU at h
    split at h
    case h_2=>cases h
    obtain ⟨_,rfl,rfl,rfl⟩:=some4 h
    exact ⟨hs,rfl,rfl,fun k g T u hq=>(by cases hq)⟩
  | .pair a b,v,d,x,rs,bs,d',cs,h,hs,hst,hM=>by
    simp only [extS] at h
    unfold extP at h
    split at h
    case h_2=>cases h
    rename_i v1 v2
    split at h
    case h_2=>cases h
    rename_i y1 rs1 bs1 d1 he1
    split at h
    case h_2=>cases h
    rename_i y2 rs2 bs2 d2 he2
    obtain ⟨rfl,rfl,rfl,rfl⟩:=some4 h
    obtain ⟨c1,c2,rfl,s1,s2⟩:=hs
    have hf:=(ext_keys a v1 d he1).fin
    have hm:(mkS (.pair a b) (y1,y2) d).2.1=(mkS a y1 d).2.1 ++ (mkS b y2 d1).2.1:=by
      show _ ++ (mkS b y2 (mkS a y1 d).2.2).2.1=_
      rw [hf]
    have hv:(mkS (.pair a b) (y1,y2) d).1=.pair (mkS a y1 d).1 (mkS b y2 d1).1:=by
      show SV.pair _ (mkS b y2 (mkS a y1 d).2.2).1=_
      rw [hf]
    rw [hm] at hst
    obtain ⟨k1,k2,k3,k4⟩:=ext_vals I hS a v1 d he1 s1 (fun q hq=>hst q (List.mem_append_left _ hq)) (hM.mono (fun _ h=>List.mem_append_left _ h) (fun _ h=>List.mem_append_left _ h))
    obtain ⟨j1,j2,j3,j4⟩:=ext_vals I hS b v2 d1 he2 s2 (fun q hq=>hst q (List.mem_append_right _ hq)) (hM.mono (fun _ h=>List.mem_append_right _ h) (fun _ h=>List.mem_append_right _ h))
    rw [hv,hm]
    refine ⟨⟨c1,c2,rfl,k1,j1⟩,by show ((mkS a y1 d).1.hasTy a.ty && (mkS b y2 d1).1.hasTy b.ty)=true;rw [k2,j2];rfl,rfl,fun k g T u hq=>?_⟩
    rcases List.mem_append.1 hq with hq | hq
    · exact k4 k g T u hq
    · exact j4 k g T u hq
  | .st a,v,d,x,rs,bs,d',cs,h,hs,hst,hM=>by
    simp only [extS] at h
    unfold extT at h
    cases v with
    | st v' =>
      obtain ⟨k1,k2,k3,k4⟩:=ext_vals I hS a v' d (cs:=cs) h hs hst hM
      exact ⟨k1,k2,rfl,k4⟩
    | val T x0 =>
      simp only at h
      split at h
      case h_2=>cases h
      rename_i v1 hv1
      cases T <;> simp only [stFld,reduceCtorEq] at hv1
      rename_i f
      cases hl:f.isList
      · rw [hl] at hv1;cases hv1
      rw [hl] at hv1
      simp only [cond_true,Option.some.injEq] at hv1
      subst hv1
      have hs:RX C.P f false w (Fz st G w) cs x0:=hs
      obtain ⟨k1,k2,k3,k4⟩:=ext_vals I hS a (expd f x0) d (cs:=cs) h (SX_expd f hl hs).1 hst hM
      exact ⟨k1,k2,rfl,k4⟩
    | _=>cases h
end
end Go.Proofs.YtmlgfaojfmkdnaaGreatDoor.E
namespace Go.Proofs.YtmlgfaojfmkdnaaGreatDoor.E
open Go Go.RowKit
set_option linter.unusedVariables false
set_option linter.unusedSimpArgs false
section
variable {C:Cx} {cf:Cfg} {st st':St} {a:Act} {w w':World} {G G':Gh} {us:U}
theorem ext_notup {sh:Shp} {v:SV} {d:Nat} {r} (h:extS st sh v d=some r):∀ b,v ≠ .tup b:=by
  intro b e
  subst e
  cases sh <;> first | (cases h;done) | (simp only [extS,cloB,extB] at h;cases h)
structure ExtLK (st:St) (l:Lv) (x:den l.ty) (rs:List (Nat × Option Nat)) (bs:List (Nat × Nat)):Prop where
  ents:∀ q ∈ mkL l x,(∃ i ∈ l.map (·.1),∃ v,q=(sk i,.sv v))\/(∃ i ∈ l.map (·.1),EntK st rs bs (8 * i) (8 * i + 8) q)
  keys:((mkL l x).map (·.1)).Nodup
  rsd:∀ q ∈ rs,∃ i ∈ l.map (·.1),8 * i<=q.1/\q.1 < 8 * i + 8
  bsd:∀ q ∈ bs,∃ i ∈ l.map (·.1),8 * i<=q.1/\q.1 < 8 * i + 8
  rsn:(rs.map (·.1)).Nodup
  bsn:(bs.map (·.1)).Nodup
theorem extL_cons {i:Nat} {sh:Shp} {l:Lv} {x:den (Lv.ty ((i,sh) :: l))} {rs:List (Nat × Option Nat)} {bs:List (Nat × Nat)} (h:extL st ((i,sh) :: l)=some (x,rs,bs)) :
    ∃ v x1 rs1 bs1 d x2 rs2 bs2,st (sk i)=.sv v/\extS st sh v (8 * i)=some (x1,rs1,bs1,d)/\d<=8 * i + 8/\extL st l=some (x2,rs2,bs2)/\x=(x1,x2)/\rs=rs1 ++ rs2/\bs=bs1 ++ bs2:=by
  unfold extL at h
  split at h
  case h_2=>cases h
  rename_i v hv
  split at h
  case h_2=>cases h
  rename_i x1 rs1 bs1 d he
  cases hb:Nat.ble d (8 * i + 8)
  · rw [hb] at h;cases h
  rw [hb] at h
  simp only [cond_true] at h
  split at h
  case h_2=>cases h
  rename_i x2 rs2 bs2 hl
  cases h
  exact ⟨v,x1,rs1,bs1,d,x2,rs2,bs2,hv,he,Nat.le_of_ble_eq_true hb,hl,rfl,rfl,rfl⟩
theorem extL_keys:∀ (l:Lv) {x:den l.ty} {rs:List (Nat × Option Nat)} {bs:List (Nat × Nat)},extL st l=some (x,rs,bs)->(l.map (·.1)).Nodup->ExtLK st l x rs bs
  | [],x,rs,bs,h,hn=>by
    cases h
    exact ⟨fun q hq=>(by cases hq),List.nodup_nil,fun q hq=>(by cases hq),fun q hq=>(by cases hq),List.nodup_nil,List.nodup_nil⟩
  | (i,sh) :: l,x,rs,bs,h,hn=>by
    obtain ⟨v,x1,rs1,bs1,d,x2,rs2,bs2,hv,he,hd,hl,rfl,rfl,rfl⟩:=extL_cons h
    rw [List.map_cons,List.nodup_cons] at hn
    have K:=ext_keys sh v (8 * i) he
    have L:=extL_keys l hl hn.2
    have far:∀ j ∈ l.map (·.1),j ≠ i:=fun j hj e=>hn.1 (e ▸ hj)
    refine ⟨fun q hq=>?_,?_,fun q hq=>?_,fun q hq=>?_,?_,?_⟩
    · have hq:q ∈ (sk i,Cell.sv (mkS sh x1 (8 * i)).1) :: ((mkS sh x1 (8 * i)).2.1 ++ mkL l x2):=hq
      rcases List.mem_cons.1 hq with hq | hq
      · exact .inl ⟨i,by simp,_,hq⟩
      · rcases List.mem_append.1 hq with hq | hq
        · exact .inr ⟨i,by simp,(K.ents q hq).mono (fun _ h=>List.mem_append_left _ h) (fun _ h=>List.mem_append_left _ h) (Nat.le_refl _) hd⟩
        · rcases L.ents q hq with ⟨j,hj,h⟩ | ⟨j,hj,h⟩
          · exact .inl ⟨j,List.mem_cons_of_mem _ hj,h⟩
          · exact .inr ⟨j,List.mem_cons_of_mem _ hj,h.mono (fun _ h=>List.mem_append_right _ h) (fun _ h=>List.mem_append_right _ h) (Nat.le_refl _) (Nat.le_refl _)⟩
    · show (((sk i,Cell.sv (mkS sh x1 (8 * i)).1) :: ((mkS sh x1 (8 * i)).2.1 ++ mkL l x2)).map (·.1)).Nodup
      rw [List.map_cons,List.nodup_cons,List.map_append]
      refine ⟨fun hm=>?_,nodup_app K.keys L.keys fun k h1 h2=>?_⟩
      · rcases List.mem_append.1 hm with hm | hm
        · obtain ⟨q,hq,e⟩:=List.mem_map.1 hm
          obtain ⟨d0,_,_,h3⟩:=entK_rng (K.ents q hq)
          have e:q.1=sk i:=e
          rw [e] at h3
          unfold sk rk bk at h3;omega
        · obtain ⟨q,hq,e⟩:=List.mem_map.1 hm
          have e:q.1=sk i:=e
          rcases L.ents q hq with ⟨j,hj,v',hv'⟩ | ⟨j,hj,h3⟩
          · rw [hv'] at e
            exact far j hj (sk_inj e)
          · obtain ⟨d0,_,_,h3⟩:=entK_rng h3
            rw [e] at h3
            unfold sk rk bk at h3;omega
      · obtain ⟨q,hq,rfl⟩:=List.mem_map.1 h1
        obtain ⟨q',hq',e⟩:=List.mem_map.1 h2
        have e:q'.1=q.1:=e
        have r1:=rng_mono (entK_rng (K.ents q hq)) (Nat.le_refl _) hd
        rcases L.ents q' hq' with ⟨j,hj,v',hv'⟩ | ⟨j,hj,h3⟩
        · obtain ⟨d0,_,_,h3⟩:=r1
          rw [hv'] at e
          rw [<-e] at h3
          unfold sk rk bk at h3;simp only at h3;omega
        · have r2:=entK_rng h3
          rw [e] at r2
          have:=far j hj
          exact rng_dis r1 r2 (by omega)
    · rcases List.mem_append.1 hq with hq | hq
      · have:=K.rsd q hq;exact ⟨i,by simp,by omega,by omega⟩
      · obtain ⟨j,hj,h1,h2⟩:=L.rsd q hq;exact ⟨j,List.mem_cons_of_mem _ hj,h1,h2⟩
    · rcases List.mem_append.1 hq with hq | hq
      · have:=K.bsd q hq;exact ⟨i,by simp,by omega,by omega⟩
      · obtain ⟨j,hj,h1,h2⟩:=L.bsd q hq;exact ⟨j,List.mem_cons_of_mem _ hj,h1,h2⟩
    · rw [List.map_append]
      refine nodup_app K.rsn L.rsn fun k h1 h2=>?_
      obtain ⟨q,hq,rfl⟩:=List.mem_map.1 h1
      obtain ⟨q',hq',e⟩:=List.mem_map.1 h2
      have e:q'.1=q.1:=e
      have:=K.rsd q hq
      obtain ⟨j,hj,h1,h2⟩:=L.rsd q' hq'
      have:=far j hj
      omega
    · rw [List.map_append]
      refine nodup_app K.bsn L.bsn fun k h1 h2=>?_
      obtain ⟨q,hq,rfl⟩:=List.mem_map.1 h1
      obtain ⟨q',hq',e⟩:=List.mem_map.1 h2
      have e:q'.1=q.1:=e
      have:=K.bsd q hq
      obtain ⟨j,hj,h1,h2⟩:=L.bsd q' hq'
      have:=far j hj
      omega
theorem extL_vals (I:Inv C st a w G) (hS:∀ b,Fz st G w b->Fz st' G' w b):∀ (l:Lv) {x:den l.ty} {rs:List (Nat × Option Nat)} {bs:List (Nat × Nat)},extL st l=some (x,rs,bs)->(∀ q ∈ mkL l x,st' q.1=q.2)->Mapd G G' rs bs →
    (∀ i v,(sk i,Cell.sv v) ∈ mkL l x->SW C.P st' G' w (Fz st' G' w) v (a.tmps.getD i undef))/\∀ k g T u,(k,Cell.box g T u) ∈ mkL l x->u.hasTy T=true/\∃ arr ty,w.heap[G'.bx k]?=some (.cells arr ty (0,0))/\SX C.P st' G' w (Fz st' G' w) u false arr.toList
  | [],x,rs,bs,h,hst,hM=>⟨fun i v hv=>(by cases hv),fun k g T u hq=>(by cases hq)⟩
  | (i,sh) :: l,x,rs,bs,h,hst,hM=>by
    obtain ⟨v,x1,rs1,bs1,d,x2,rs2,bs2,hv,he,hd,hl,rfl,rfl,rfl⟩:=extL_cons h
    have hmk:mkL ((i,sh) :: l) (x1,x2)=(sk i,Cell.sv (mkS sh x1 (8 * i)).1) :: ((mkS sh x1 (8 * i)).2.1 ++ mkL l x2):=rfl
    rw [hmk] at hst ⊢
    obtain ⟨cs,hc1,hc2⟩:=SW_cells (I.sl i v hv) (ext_notup he)
    obtain ⟨k1,k2,k3,k4⟩:=ext_vals (G':=G') I.toInvM hS sh v (8 * i) he hc2 (fun q hq=>hst q (List.mem_cons_of_mem _ (List.mem_append_left _ hq))) (hM.mono (fun _ h=>List.mem_append_left _ h) (fun _ h=>List.mem_append_left _ h))
    obtain ⟨j1,j2⟩:=extL_vals I hS l hl (fun q hq=>hst q (List.mem_cons_of_mem _ (List.mem_append_right _ hq))) (hM.mono (fun _ h=>List.mem_append_right _ h) (fun _ h=>List.mem_append_right _ h))
    have K:=ext_keys sh v (8 * i) he
    refine ⟨fun j u hj=>?_,fun k g T u hq=>?_⟩
    · rcases List.mem_cons.1 hj with hj | hj
      · simp only [Prod.mk.injEq,Cell.sv.injEq] at hj
        obtain ⟨e,rfl⟩:=hj
        have e:=sk_inj e
        subst e
        rw [hc1,<-k3]
        exact SW_of k1
      · rcases List.mem_append.1 hj with hj | hj
        · exfalso
          rcases K.ents _ hj with ⟨_,_,_,_,e,_⟩ | ⟨_,_,_,_,e,_⟩ <;> simp at e
        · exact j1 j u hj
    · rcases List.mem_cons.1 hq with hq | hq
      · simp at hq
      · rcases List.mem_append.1 hq with hq | hq
        · exact k4 k g T u hq
        · exact j2 k g T u hq
theorem lookup_mem {β:Type}:∀ (l:List (Nat × β)) {d:Nat} {o:β},(l.map (·.1)).Nodup->(d,o) ∈ l->l.lookup d=some o
  | [],_,_,_,h=>by cases h
  | (e,p) :: l,d,o,hn,h=>by
    rw [List.map_cons,List.nodup_cons] at hn
    rw [List.lookup_cons]
    rcases List.mem_cons.1 h with h | h
    · simp only [Prod.mk.injEq] at h
      obtain ⟨rfl,rfl⟩:=h
      simp
    · have hne:d ≠ e:=fun e'=>hn.1 (List.mem_map.2 ⟨(d,o),h,e'⟩)
      have:(d == e)=false:=by simpa using hne
      rw [this]
      exact lookup_mem l hn.2 h
theorem cut1_ok {l:Lv} {x':den l.ty} {rs:List (Nat × Option Nat)} {bs:List (Nat × Nat)} (he:extL st l=some (x',rs,bs)) (hrn:(rs.filterMap (·.2)).Nodup) (hbn:(bs.map (·.2)).Nodup) (hln:(l.map (·.1)).Nodup) (I:Inv C st a w G) :
    ∃ G',Inv C (mkSt l x') a w G'/\∀ d t,(d,some t) ∈ rs->G'.hd (rk d)=G.hd (rk t):=by
  have K:=extL_keys l he hln
  -- the new ghosts
  let G':Gh:=⟨fun k=>match rs.lookup (k / 3) with | some (some t)=>G.hd (rk t) | _=>.slice none 0 0,fun k=>match rs.lookup (k / 3) with | some (some t)=>G.bl (rk t) | _=>[],fun k=>match bs.lookup (k / 3) with | some b=>G.bx (bk b) | none=>0,G.s0⟩
  have hrd:∀ d,rk d / 3=d:=fun d=>by unfold rk;omega
  have hbd:∀ d,bk d / 3=d:=fun d=>by unfold bk;omega
  have hM:Mapd G G' rs bs:=by
    refine ⟨fun d t hm=>?_,fun d hm=>?_,fun d b hm=>?_⟩
    · show (match rs.lookup (rk d / 3) with | some (some t)=>G.hd (rk t) | _=>.slice none 0 0)=_
      rw [hrd,lookup_mem rs K.rsn hm]
    · show (match rs.lookup (rk d / 3) with | some (some t)=>G.hd (rk t) | _=>.slice none 0 0)=_
      rw [hrd,lookup_mem rs K.rsn hm]
    · show (match bs.lookup (bk d / 3) with | some b=>G.bx (bk b) | none=>0)=_
      rw [hbd,lookup_mem bs K.bsn hm]
  have hbl:∀ d t,(d,some t) ∈ rs->G'.bl (rk d)=G.bl (rk t):=fun d t hm=>by
    show (match rs.lookup (rk d / 3) with | some (some t)=>G.bl (rk t) | _=>[])=_
    rw [hrd,lookup_mem rs K.rsn hm]
  have hblz:∀ d,(d,none) ∈ rs->G'.bl (rk d)=[]:=fun d hm=>by
    show (match rs.lookup (rk d / 3) with | some (some t)=>G.bl (rk t) | _=>[])=_
    rw [hrd,lookup_mem rs K.rsn hm]
  have hin:∀ q ∈ mkL l x',mkSt l x' q.1=q.2:=fun q hq=>upds_in _ _ K.keys (by simpa using hq)
  have hout:∀ k,mkSt l x' k=.none\/∃ q ∈ mkL l x',q.1=k:=fun k=>by
    by_cases hk:∃ q ∈ mkL l x',q.1=k
    · exact .inr hk
    · left
      have:mkSt l x' k=st0 k:=upds_out _ _ _ fun p hp e=>hk ⟨p,hp,e⟩
      rw [this];rfl
  have hent:∀ k c,mkSt l x' k=c->c ≠ .none->(k,c) ∈ mkL l x':=fun k c h1 h2=>by
    rcases hout k with h | ⟨q,hq,rfl⟩
    · rw [h] at h1;exact absurd h1.symm h2
    · have:=hin q hq
      rw [this] at h1;subst h1
      simpa using hq
  have hroot:∀ k g h e ll,mkSt l x' k=.root g h e ll->∃ d o,k=rk d/\(d,o) ∈ rs/\(∀ t,o=some t->∃ g h,st (rk t)=.root g h e ll)/\(o=none->ll=[]):=fun k g h e ll hr=>by
    have hm:=hent k _ hr (by simp)
    rcases K.ents _ hm with ⟨i,_,v,e'⟩ | ⟨i,_,hE⟩
    · simp at e'
    · rcases hE with ⟨e0,l0,d,o,k1,k2,_,_,k5,k6⟩ | ⟨T,v,d,b,k1,_⟩
      · simp only [Prod.mk.injEq,Cell.root.injEq] at k1
        obtain ⟨rfl,_,_,rfl,k7⟩:=k1
        cases k7
        exact ⟨d,o,rfl,k2,k5,k6⟩
      · simp at k1
  have hboxs:∀ k g T u,mkSt l x' k=.box g T u->∃ d b,k=bk d/\(d,b) ∈ bs/\∃ g c,st (bk b)=.box g T c:=fun k g T u hr=>by
    have hm:=hent k _ hr (by simp)
    rcases K.ents _ hm with ⟨i,_,v,e'⟩ | ⟨i,_,hE⟩
    · simp at e'
    · rcases hE with ⟨e0,l0,d,o,k1,k2,_,_,k5,k6⟩ | ⟨T',v,d,b,k1,k2,_,_,k5⟩
      · simp at k1
      · simp only [Prod.mk.injEq,Cell.box.injEq] at k1
        obtain ⟨rfl,_,rfl,_⟩:=k1
        exact ⟨d,b,rfl,k2,k5⟩
  have hnown:∀ k g,mkSt l x' k ≠ .own g:=fun k g hr=>by
    have hm:=hent k _ hr (by simp)
    rcases K.ents _ hm with ⟨j,_,v,e'⟩ | ⟨j,_,hE⟩
    · simp at e'
    · rcases hE with ⟨e0,l0,d,o,k1,_⟩ | ⟨T',v,d,b,k1,_⟩ <;> simp at k1
  -- who owns what
  have own:∀ k b,b ∈ ownB (mkSt l x') G' k->(∃ d t,k=rk d/\(d,some t) ∈ rs/\b ∈ ownB st G (rk t))\/(∃ d c,k=bk d/\(d,c) ∈ bs/\b ∈ ownB st G (bk c)):=fun k b hb=>by
    unfold ownB at hb
    split at hb
    · rename_i g h e ll hr
      obtain ⟨d,o,rfl,k1,k2,k3⟩:=hroot _ _ _ _ _ hr
      cases o with
      | none=>rw [hblz d k1] at hb;cases hb
      | some t =>
        rw [hbl d t k1] at hb
        obtain ⟨g',h',k4⟩:=k2 t rfl
        refine .inl ⟨d,t,rfl,k1,?_⟩
        unfold ownB;rw [k4];exact hb
    · rename_i g T u hr
      obtain ⟨d,c,rfl,k1,g',u',k2⟩:=hboxs _ _ _ _ hr
      rw [hM.bsm d c k1] at hb
      refine .inr ⟨d,c,rfl,k1,?_⟩
      unfold ownB;rw [k2];exact hb
    · rename_i g hr;exact absurd hr (hnown _ _)
    · cases hb
  have injr:∀ (l:List (Nat × Option Nat)),(l.filterMap (·.2)).Nodup->∀ d d' t,(d,some t) ∈ l->(d',some t) ∈ l->d=d':=by
    intro l
    induction l with
    | nil=>intro _ d d' t h;cases h
    | cons q l ih =>
      intro hn d d' t h h'
      have hmem:∀ d t,(d,some t) ∈ l->t ∈ l.filterMap (·.2):=fun d t hm=>List.mem_filterMap.2 ⟨_,hm,rfl⟩
      have hn':(l.filterMap (·.2)).Nodup:=by
        obtain ⟨q1,q2⟩:=q
        cases q2 with
        | none=>simpa [List.filterMap_cons] using hn
        | some t =>
          have hn2:(t :: l.filterMap (·.2)).Nodup:=hn
          exact (List.nodup_cons.1 hn2).2
      rcases List.mem_cons.1 h with k | k <;> rcases List.mem_cons.1 h' with k' | k'
      · rw [<-k'] at k;simp only [Prod.mk.injEq] at k;exact k.1
      · subst k
        have hn2:(t :: l.filterMap (·.2)).Nodup:=hn
        exact absurd (hmem _ _ k') (List.nodup_cons.1 hn2).1
      · subst k'
        have hn2:(t :: l.filterMap (·.2)).Nodup:=hn
        exact absurd (hmem _ _ k) (List.nodup_cons.1 hn2).1
      · exact ih hn' d d' t k k'
  have injb:∀ (l:List (Nat × Nat)),(l.map (·.2)).Nodup->∀ d d' t,(d,t) ∈ l->(d',t) ∈ l->d=d':=by
    intro l
    induction l with
    | nil=>intro _ d d' t h;cases h
    | cons q l ih =>
      intro hn d d' t h h'
      rw [List.map_cons,List.nodup_cons] at hn
      rcases List.mem_cons.1 h with k | k <;> rcases List.mem_cons.1 h' with k' | k'
      · rw [<-k'] at k;simp only [Prod.mk.injEq] at k;exact k.1
      · subst k;exact absurd (List.mem_map.2 ⟨_,k',rfl⟩) hn.1
      · subst k';exact absurd (List.mem_map.2 ⟨_,k,rfl⟩) hn.1
      · exact ih hn.2 d d' t k k'
  have hFz:∀ b,Fz st G w b->Fz (mkSt l x') G' w b:=fun b hb=>⟨hb.1,fun k hm=>by
    rcases own k b hm with ⟨d,t,_,_,h⟩ | ⟨d,c,_,_,h⟩
    · exact hb.2.1 _ h
    · exact hb.2.1 _ h,hb.2.2⟩
  obtain ⟨V1,V2⟩:=extL_vals (G':=G') I hFz l he hin hM
  refine ⟨G',{ rt:=fun k g h e ll hr=>?_,sc:=fun i=>?_,bx:=fun k g T u hr=>?_,nd:=fun k=>?_,dj:=fun k k' b h1 h2=>?_,lt:=fun k b hb=>?_,os:=I.os,tape:=I.tape,output:=I.output,size:=I.size,block:=I.block,s0:=I.s0,m0:=I.m0,sl:=fun i v hv=>?_,df:=I.df,sz:=I.sz,pa:=I.pa },hM.rsm⟩
  · obtain ⟨d,o,rfl,k1,k2,k3⟩:=hroot _ _ _ _ _ hr
    cases o with
    | none =>
      rw [hM.rsz d k1,hblz d k1]
      exact .inl ⟨rfl,k3 rfl,rfl⟩
    | some t =>
      rw [hM.rsm d t k1,hbl d t k1]
      obtain ⟨g',h',k4⟩:=k2 t rfl
      exact I.rt _ _ _ _ _ k4
  · rcases hout (sk i) with h | ⟨q,hq,e⟩
    · exact .inr h
    · left
      have h1:=hin q hq
      rw [e] at h1
      rcases K.ents q hq with ⟨j,_,v,e'⟩ | ⟨j,_,hE⟩
      · exact ⟨v,by rw [h1,e']⟩
      · obtain ⟨d,_,_,h3⟩:=entK_rng hE
        rw [e] at h3
        unfold sk rk bk at h3;omega
  · exact V2 k g T u (hent k _ hr (by simp))
  · unfold ownB
    split
    · rename_i g h e ll hr
      obtain ⟨d,o,rfl,k1,k2,k3⟩:=hroot _ _ _ _ _ hr
      cases o with
      | none=>rw [hblz d k1];exact List.nodup_nil
      | some t =>
        rw [hbl d t k1]
        have:=I.nd (rk t)
        rwa [root_own (let ⟨g',h',k4⟩:=k2 t rfl;⟨g',h',_,_,k4⟩)] at this
    · simp
    · rename_i g hr;exact absurd hr (hnown _ _)
    · exact List.nodup_nil
  · rcases own k b h1 with ⟨d,t,rfl,k1,k2⟩ | ⟨d,c,rfl,k1,k2⟩ <;> rcases own k' b h2 with ⟨d',t',rfl,j1,j2⟩ | ⟨d',c',rfl,j1,j2⟩
    · have:=rk_inj (I.dj _ _ _ k2 j2)
      subst this
      rw [injr rs hrn d d' t k1 j1]
    · exact absurd (I.dj _ _ _ k2 j2) (rk_ne_bk _ _)
    · exact absurd (I.dj _ _ _ k2 j2).symm (rk_ne_bk _ _)
    · have:=bk_inj (I.dj _ _ _ k2 j2)
      subst this
      rw [injb bs hbn d d' c k1 j1]
  · rcases own k b hb with ⟨d,t,_,_,h⟩ | ⟨d,c,_,_,h⟩
    · exact I.lt _ _ h
    · exact I.lt _ _ h
  · exact V1 i v (hent _ _ hv (by simp))
theorem cut0_ok {l:Lv} {x:den l.ty} (h:cut0 l st=some x) (I:Inv C st a w G):∃ G',Inv C (mkSt l x) a w G':=by
  unfold cut0 at h
  split at h
  case h_2=>cases h
  rename_i x' rs bs he
  cases hb:(nodupB (rs.filterMap (·.2)) && nodupB (bs.map (·.2)) && nodupB (l.map (·.1)))
  · rw [hb] at h;cases h
  rw [hb] at h
  simp only [cond_true,Option.some.injEq] at h
  subst h
  simp only [Bool.and_eq_true,nodupB_iff] at hb
  obtain ⟨⟨hrn,hbn⟩,hln⟩:=hb
  obtain ⟨G',I',_⟩:=cut1_ok he hrn hbn hln I
  exact ⟨G',I'⟩
def SlotV (P:Program) (a:Act) (w:World) (S:Nat->Prop) (q:Nat × Cell):Prop:=∃ (i:Nat) (T:Ty) (x:den T) (c:List Value),q=(sk i,.sv (.val T x))/\a.tmps.getD i undef=valOf T c/\RX P T false w S c x
def BoxV (C:Cx) (st:St) (G:Gh) (w:World) (S:Nat->Prop) (q:Nat × Cell):Prop :=
  ∃ (b g:Nat) (B:Ty) (v0 v:SV) (arr:Array Value) (ty:TypeId),q=(bk b,.box g B v)/\st (bk b)=.box g B v0/\v.hasTy B=true/\w.heap[G.bx (bk b)]?=some (.cells arr ty (0,0))/\SX C.P st G w S v false arr.toList
/-- A box is told otherwise: memory stays as it is. -/
theorem rebox (I:Inv C st a w G) {b g:Nat} {B:Ty} {v0 v:SV} {arr:Array Value} {ty:TypeId} (hr:st (bk b)=.box g B v0) (ht:v.hasTy B=true) (ha:w.heap[G.bx (bk b)]?=some (.cells arr ty (0,0))) (hs:SX C.P st G w (Fz st G w) v false arr.toList) :
    Inv C (upd st (bk b) (.box g B v)) a w G/\Fz (upd st (bk b) (.box g B v)) G w=Fz st G w ∧
      ∀ v' m cs,SX C.P st G w (Fz st G w) v' m cs->SX C.P (upd st (bk b) (.box g B v)) G w (Fz (upd st (bk b) (.box g B v)) G w) v' m cs:=by
  have hin:G.bx (bk b) ∈ ownB st G (bk b):=by unfold ownB;rw [hr];simp
  have ho:ownB (upd st (bk b) (.box g B v)) G (bk b)=[G.bx (bk b)]:=by unfold ownB;rw [upd_same]
  have hoA:∀ k,ownB (upd st (bk b) (.box g B v)) G k=ownB st G k:=fun k=>by
    by_cases hk:k=bk b
    · subst hk;rw [ho];unfold ownB;rw [hr]
    · unfold ownB;rw [upd_ne _ _ hk]
  have hfz:Fz (upd st (bk b) (.box g B v)) G w=Fz st G w:=by
    funext x;unfold Fz;simp only [hoA]
  have h0:Step0 st G w (upd st (bk b) (.box g B v)) G w [bk b] (fun _=>False):={
    s0:=rfl
    os:=rfl,tape:=rfl,output:=rfl,size:=Nat.le_refl _,block:=fun _ _ _=>rfl,own:=fun _ h=>h.elim
    out:=fun k hk=>by
      simp only [List.mem_singleton] at hk
      exact ⟨upd_ne _ _ hk,rfl,rfl,rfl⟩
    nosk:=fun i hi=>by simp only [List.mem_singleton] at hi;exact sk_ne_bk _ _ hi
    ks:=fun k hk=>by
      simp only [List.mem_singleton] at hk;subst hk
      refine ⟨by rw [upd_same,hr];exact Nat.le_refl _,fun g h e l hr' hg=>?_,fun g' T c' hr' hg=>?_,fun g' hr' hg=>?_⟩
      · rw [upd_same] at hr';cases hr'
      · rw [upd_same] at hr';cases hr';exact ⟨v0,hr,rfl⟩
      · rw [upd_same] at hr';cases hr'
    sub:=fun k hk x hx=>by rw [hoA] at hx;exact .inl ⟨k,hk,hx⟩
    lt:=fun k hk x hx=>by rw [hoA] at hx;exact (I.lt _ _ hx).1
    nd:=fun k hk=>by rw [hoA];exact I.nd k
    dj:=fun k hk k' hk' x hx hx'=>by rw [hoA] at hx hx';exact I.dj _ _ _ hx hx' }
  have htr:∀ v' m cs,SX C.P st G w (Fz st G w) v' m cs->SX C.P (upd st (bk b) (.box g B v)) G w (Fz (upd st (bk b) (.box g B v)) G w) v' m cs:=fun v' m cs h =>
    SX.tr h0.size (fun b hb _=>h0.fz I.toInvM hb) (fun b hb=>hb.1) (h0.kstep I.toInvM) v' m h
  refine ⟨Step.inv I { toStep0:=h0,rt:=fun k hk g h e l hr'=>?_,bx:=fun k hk g T' v' hr'=>?_ },hfz,htr⟩
  · simp only [List.mem_singleton] at hk;subst hk
    rw [upd_same] at hr';cases hr'
  · simp only [List.mem_singleton] at hk;subst hk
    rw [upd_same] at hr';cases hr'
    exact ⟨ht,arr,ty,ha,htr _ _ _ hs⟩
theorem reslots:∀ (u:U) {st:St},Inv C st a w G->(∀ q ∈ u,SlotV C.P a w (Fz st G w) q\/BoxV C st G w (Fz st G w) q)->Inv C (upds st u) a w G
  | [],st,I,_=>I
  | q :: u,st,I,h=>by
    rcases h q List.mem_cons_self with ⟨i,T,x,c,rfl,h2,h3⟩ | ⟨b,g,B,v0,v,arr,ty,rfl,h2,h3,h4,h5⟩
    · have hs:=upd_slotStep I.toInvM i (.sv (.val T x)) (.inl ⟨_,rfl⟩)
      have I':Inv C (upd st (sk i) (.sv (.val T x))) a w G:=by
        refine { toInvM:=hs.invM I.toInvM,sl:=fun j v hv=>?_,df:=I.df,sz:=I.sz,pa:=I.pa }
        by_cases hj:j=i
        · subst hj
          rw [upd_same] at hv;injection hv with hv;subst hv
          refine hs.sw I.toInvM ⟨c,h2,h3⟩
        · rw [upd_ne _ _ (fun e=>hj (sk_inj e))] at hv
          exact hs.sw I.toInvM (I.sl j v hv)
      refine reslots u I' fun q hq=>?_
      rcases h q (List.mem_cons_of_mem _ hq) with h | ⟨b,g,B,v0,v,arr,ty,rfl,k2,k3,k4,k5⟩
      · left;rw [hs.fz I.toInvM];exact h
      · right;exact ⟨b,g,B,v0,v,arr,ty,rfl,by rw [upd_ne _ _ (sk_ne_bk _ _).symm];exact k2,k3,k4,hs.sx I.toInvM k5⟩
    · obtain ⟨I',hfz,htr⟩:=rebox I h2 h3 h4 h5
      refine reslots u I' fun q hq=>?_
      rcases h q (List.mem_cons_of_mem _ hq) with h | ⟨b',g',B',v0',v',arr',ty',rfl,k2,k3,k4,k5⟩
      · left;rw [hfz];exact h
      · right
        by_cases hb:bk b'=bk b
        · have hb:=bk_inj hb
          subst hb
          rw [h2] at k2;cases k2
          exact ⟨_,_,_,v,v',arr',ty',rfl,upd_same _ _ _,k3,k4,htr _ _ _ k5⟩
        · exact ⟨b',g',B',v0',v',arr',ty',rfl,by rw [upd_ne _ _ hb];exact k2,k3,k4,htr _ _ _ k5⟩
theorem gone_tr (I:Inv C st a w G) {ts:List (Nat × Nat)} (h:∀ p ∈ ts,RT st p) (hS1:∀ b,Fz st G w b->Fz (upds st (goneU ts)) G w b) (v:SV) (m:Bool) (cs:List Value) (hs:SX C.P st G w (Fz st G w) v m cs) :
    SX C.P (upds st (goneU ts)) G w (Fz (upds st (goneU ts)) G w) v m cs:=by
  refine SX.tr (Nat.le_refl _) (fun b hb _=>⟨hS1 b hb,rfl⟩) (fun b hb=>hb.1) (fun k=>?_) v m hs
  by_cases hk:∃ p ∈ ts,k=rk p.1
  · obtain ⟨p,hp,rfl⟩:=hk
    obtain ⟨hh,e,l,hr⟩:=h p hp
    refine ⟨by rw [gone_at h hp,hr];exact Nat.le_refl _,fun g' h' e' l' hr' _=>?_,fun g' T' c' hr' _=>?_,fun g' hr' _=>?_⟩
    · rw [gone_at h hp] at hr';cases hr'
    · rw [gone_at h hp] at hr';cases hr'
    · rw [gone_at h hp] at hr';cases hr'
  · have e:upds st (goneU ts) k=st k:=goneU_out fun p hp e=>hk ⟨p,hp,e.symm⟩
    exact ⟨by rw [e];exact Nat.le_refl _,fun g hh e' l hr _=>⟨hh,l,by rw [<-e];exact hr,rfl,rfl,Nat.le_refl _,fun _=>⟨rfl,fun _ _ _=>⟨rfl,fun _ _=>rfl⟩,fun _ _ _ _ _=>rfl⟩⟩,fun g T c hr _=>⟨c,by rw [<-e];exact hr,rfl⟩,fun g hr _=>⟨by rw [<-e];exact hr,rfl,fun _ _=>rfl⟩⟩
theorem frzC_ok (I:InvM C st w G) {S:Nat->Prop} (hS:∀ b,Fz st G w b->S b) (hSl:∀ b,S b->b < w.heap.size) {st1:St} (htr:∀ v m cs,SX C.P st G w (Fz st G w) v m cs->SX C.P st1 G w S v m cs):∀ (c:Shp) (v:SV) {v':SV} {ts:List (Nat × Nat)} {cs:List Value},frzC st c v=some (v',ts)->SX C.P st G w (Fz st G w) v false cs →
    (∀ p ∈ ts,RT st p)/\((∀ p ∈ ts,∀ b ∈ G.bl (rk p.1),S b)->SX C.P st1 G w S v' false cs)
  | .v T,v,v',ts,cs,h,hs=>by
    simp only [frzC] at h
    cases hb:isV v
    · rw [hb] at h
      simp only [cond_false] at h
      split at h
      case h_2=>cases h
      rename_i x ts1 h1
      cases h
      obtain ⟨k1,k2,k3⟩:=frz_run I hS hSl 8 T v h1 hs
      exact ⟨k1,fun hb=>k2 hb⟩
    · rw [hb] at h
      simp only [cond_true] at h
      cases h
      exact ⟨fun p hp=>(by cases hp),fun _=>htr _ _ _ hs⟩
  | .st a,v,v',ts,cs,h,hs=>by
    cases v <;> try (simp only [frzC,Option.some.injEq,Prod.mk.injEq] at h;obtain ⟨rfl,rfl⟩:=h;exact ⟨fun p hp=>(by cases hp),fun _=>htr _ _ _ hs⟩)
    rename_i v
    simp only [frzC] at h
    split at h
    case h_2=>cases h
    rename_i w1 ts1 h1
    cases h
    obtain ⟨k1,k2⟩:=frzC_ok I hS hSl htr a v h1 (cs:=cs) hs
    exact ⟨k1,fun hb=>k2 hb⟩
  | .pair a b,v,v',ts,cs,h,hs=>by
    cases v <;> try (simp only [frzC,Option.some.injEq,Prod.mk.injEq] at h;obtain ⟨rfl,rfl⟩:=h;exact ⟨fun p hp=>(by cases hp),fun _=>htr _ _ _ hs⟩)
    rename_i v1 v2
    simp only [frzC] at h
    split at h
    case h_2=>cases h
    rename_i w1 ts1 h1
    split at h
    case h_2=>cases h
    rename_i w2 ts2 h2
    cases h
    obtain ⟨c1,c2,rfl,s1,s2⟩:=hs
    obtain ⟨k1,k2⟩:=frzC_ok I hS hSl htr a v1 h1 s1
    obtain ⟨j1,j2⟩:=frzC_ok I hS hSl htr b v2 h2 s2
    exact ⟨fun p hp=>(List.mem_append.1 hp).elim (k1 p) (j1 p),fun hb=>⟨c1,c2,rfl,k2 fun p hp=>hb p (List.mem_append_left _ hp),j2 fun p hp=>hb p (List.mem_append_right _ hp)⟩⟩
  | .r _,v,v',ts,cs,h,hs=>by simp only [frzC,Option.some.injEq,Prod.mk.injEq] at h;obtain ⟨rfl,rfl⟩:=h;exact ⟨fun p hp=>(by cases hp),fun _=>htr _ _ _ hs⟩
  | .cl _ _,v,v',ts,cs,h,hs=>by simp only [frzC,Option.some.injEq,Prod.mk.injEq] at h;obtain ⟨rfl,rfl⟩:=h;exact ⟨fun p hp=>(by cases hp),fun _=>htr _ _ _ hs⟩
  | .bx _,v,v',ts,cs,h,hs=>by simp only [frzC,Option.some.injEq,Prod.mk.injEq] at h;obtain ⟨rfl,rfl⟩:=h;exact ⟨fun p hp=>(by cases hp),fun _=>htr _ _ _ hs⟩
  | .unit,v,v',ts,cs,h,hs=>by simp only [frzC,Option.some.injEq,Prod.mk.injEq] at h;obtain ⟨rfl,rfl⟩:=h;exact ⟨fun p hp=>(by cases hp),fun _=>htr _ _ _ hs⟩
theorem frzL_ok (I:Inv C st a w G) {S:Nat->Prop} (hS:∀ b,Fz st G w b->S b) (hSl:∀ b,S b->b < w.heap.size):∀ (l:Lv) {u:U} {ts:List (Nat × Nat)},frzL st l=some (u,ts)->(∀ p ∈ ts,RT st p) ∧
    ((∀ p ∈ ts,∀ b ∈ G.bl (rk p.1),S b)->∀ st1,(∀ v m cs,SX C.P st G w (Fz st G w) v m cs->SX C.P st1 G w S v m cs)->(∀ b,st1 (bk b)=st (bk b))->∀ q ∈ u,SlotV C.P a w S q\/BoxV C st1 G w S q)
  | [],u,ts,h=>by cases h;exact ⟨fun p hp=>(by cases hp),fun _ _ _ _ q hq=>(by cases hq)⟩
  | (i,sh) :: l,u,ts,h=>by
    unfold frzL at h
    split at h
    · rename_i T v hv
      cases hb:isV v
      · rw [hb] at h
        simp only [cond_false] at h
        split at h
        case h_2=>cases h
        rename_i x ts1 h1
        split at h
        case h_2=>cases h
        rename_i u2 ts2 h2
        cases h
        obtain ⟨c,hc1,hc2⟩:=SW_cells (I.sl i v hv) (fun b e=>by subst e;cases T <;> cases h1)
        obtain ⟨k1,k2,k3⟩:=frz_run I.toInvM hS hSl 8 T v h1 hc2
        obtain ⟨j1,j2⟩:=frzL_ok I hS hSl l h2
        refine ⟨fun p hp=>(List.mem_append.1 hp).elim (k1 p) (j1 p),fun hb st1 h5 h6 q hq=>?_⟩
        rcases List.mem_cons.1 hq with hq | hq
        · exact .inl ⟨i,T,x,c,hq,by rw [hc1,k3],k2 fun p hp=>hb p (List.mem_append_left _ hp)⟩
        · exact j2 (fun p hp=>hb p (List.mem_append_right _ hp)) st1 h5 h6 q hq
      · rw [hb] at h
        exact frzL_ok I hS hSl l h
    · rename_i c b gg fs hv
      split at h
      case h_2=>exact frzL_ok I hS hSl l h
      rename_i g B v hr
      cases hn:needC c v
      · rw [hn] at h;exact frzL_ok I hS hSl l h
      rw [hn] at h
      simp only [cond_true] at h
      split at h
      case h_2=>cases h
      rename_i v' ts1 h1
      cases ht:v'.hasTy B
      · rw [ht] at h;cases h
      rw [ht] at h
      simp only [cond_true] at h
      split at h
      case h_2=>cases h
      rename_i u2 ts2 h2
      cases h
      obtain ⟨_,arr,ty,ha,hs⟩:=I.bx _ _ _ _ hr
      obtain ⟨j1,j2⟩:=frzL_ok I hS hSl l h2
      have k1:=(frzC_ok I.toInvM (S:=fun b=>b < w.heap.size) (st1:=st) (fun b hb=>hb.1) (fun _ h=>h) (fun v m cs h=>SX.tr (Nat.le_refl _) (fun b hb _=>⟨hb.1,rfl⟩) (fun _ h=>h) (KStep.refl st G w) v m h) c v h1 hs).1
      refine ⟨fun p hp=>(List.mem_append.1 hp).elim (k1 p) (j1 p),fun hb st1 h5 h6 q hq=>?_⟩
      rcases List.mem_cons.1 hq with hq | hq
      · exact .inr ⟨b,g,B,v,v',arr,ty,hq,by rw [h6];exact hr,ht,ha,(frzC_ok I.toInvM hS hSl h5 c v h1 hs).2 fun p hp=>hb p (List.mem_append_left _ hp)⟩
      · exact j2 (fun p hp=>hb p (List.mem_append_right _ hp)) st1 h5 h6 q hq
    · exact frzL_ok I hS hSl l h
theorem frz_inv {l:Lv} {u:U} {ts:List (Nat × Nat)} (hf:frzL st l=some (u,ts)) (I:Inv C st a w G):Inv C (upds (upds st (goneU ts)) u) a w G:=by
  have hRT:=(frzL_ok I (S:=Fz st G w) (fun _ h=>h) (fun _ h=>h.1) l hf).1
  have I1:=gone_inv I hRT
  have sub:∀ k b,b ∈ ownB (upds st (goneU ts)) G k->b ∈ ownB st G k/\∀ p ∈ ts,k ≠ rk p.1:=fun k b hb=>by
    have hne:∀ p ∈ ts,k ≠ rk p.1:=fun p hp e=>by
      subst e
      unfold ownB at hb;rw [gone_at hRT hp] at hb;cases hb
    refine ⟨?_,hne⟩
    unfold ownB at hb ⊢
    rw [goneU_out fun p hp e=>hne p hp e.symm] at hb
    exact hb
  have hS1:∀ b,Fz st G w b->Fz (upds st (goneU ts)) G w b:=fun b hb=>⟨hb.1,fun k hk=>hb.2.1 k (sub k b hk).1,hb.2.2⟩
  have hS2:∀ p ∈ ts,∀ b ∈ G.bl (rk p.1),Fz (upds st (goneU ts)) G w b:=fun p hp b hb=>by
    have ho:b ∈ ownB st G (rk p.1):=by rw [own_of_RT (hRT p hp)];exact hb
    refine ⟨(I.lt _ _ ho).1,fun k hk=>?_,I.m0 _ (I.lt _ _ ho).2⟩
    obtain ⟨h1,h2⟩:=sub k b hk
    exact h2 p hp (I.dj _ _ _ h1 ho)
  have hbk:∀ b,upds st (goneU ts) (bk b)=st (bk b):=fun b=>goneU_out fun p _ e=>rk_ne_bk _ _ e
  exact reslots u I1 ((frzL_ok I hS1 (fun _ h=>h.1) l hf).2 hS2 _ (gone_tr I hRT hS1) hbk)
theorem cut_ok {l:Lv} {x:den l.ty} (h:cutTo l st=some x) (I:Inv C st a w G):∃ G',Inv C (mkSt l x) a w G':=by
  unfold cutTo at h
  split at h
  case h_2=>cases h
  rename_i u ts hf
  exact cut0_ok h (frz_inv hf I)
theorem lookup_some {β:Type}:∀ (l:List (Nat × β)) {d:Nat} {o:β},l.lookup d=some o->(d,o) ∈ l
  | [],_,_,h=>by cases h
  | (k,v) :: l,d,o,h=>by
    rw [List.lookup_cons] at h
    cases hk:d == k
    · rw [hk] at h;exact List.mem_cons_of_mem _ (lookup_some l h)
    · rw [hk] at h;cases h
      have:d=k:=by simpa using hk
      rw [this];exact List.mem_cons_self
/-- Slots that lead to roots. -/
theorem alslots:∀ (al:Al) {st:St},Inv C st a w G->(∀ p ∈ al,(∃ g h l,st (rk p.2.1)=.root g h p.2.2 l)/\a.tmps.getD p.1 undef=G.hd (rk p.2.1)/\(G.hd (rk p.2.1)).oneCell'=true)->Inv C (upds st (alU al)) a w G
  | [],st,I,_=>I
  | p :: al,st,I,h=>by
    obtain ⟨⟨g,hh,ll,h1⟩,h2,h3⟩:=h p List.mem_cons_self
    have hs:=upd_slotStep I.toInvM p.1 (.sv (.ref p.2.1 0 p.2.2)) (.inl ⟨_,rfl⟩)
    have I':Inv C (upd st (sk p.1) (.sv (.ref p.2.1 0 p.2.2))) a w G:=by
      refine { toInvM:=hs.invM I.toInvM,sl:=fun j v hv=>?_,df:=I.df,sz:=I.sz,pa:=I.pa }
      by_cases hj:j=p.1
      · subst hj
        rw [upd_same] at hv;injection hv with hv;subst hv
        refine hs.sw I.toInvM ⟨[G.hd (rk p.2.1)],h2,G.hd (rk p.2.1),rfl,h3,Nat.zero_le _,fun h' e' l' hr=>?_⟩
        rw [h1] at hr;cases hr;exact ⟨rfl,rfl⟩
      · rw [upd_ne _ _ (fun e=>hj (sk_inj e))] at hv
        exact hs.sw I.toInvM (I.sl j v hv)
    refine alslots al I' fun q hq=>?_
    obtain ⟨⟨g',hh',ll',k1⟩,k2,k3⟩:=h q (List.mem_cons_of_mem _ hq)
    exact ⟨⟨g',hh',ll',by rw [upd_ne _ _ (sk_ne_rk _ _).symm];exact k1⟩,k2,k3⟩
theorem cutA_ok {l:Lv} {al:Al} {x:den l.ty} (h:cutA l al st=some x) (I:Inv C st a w G):∃ G',Inv C (mkStA l al x) a w G':=by
  unfold cutA at h
  split at h
  case h_2=>cases h
  rename_i u ts hf
  have I2:=frz_inv hf I
  split at h
  case h_2=>cases h
  rename_i x' rs bs he
  cases hb:(nodupB (rs.filterMap (·.2)) && nodupB (bs.map (·.2)) && nodupB (l.map (·.1)) && al.all (alOk (upds (upds st (goneU ts)) u) rs (mkSt l x')))
  · rw [hb] at h;cases h
  rw [hb] at h
  simp only [cond_true,Option.some.injEq] at h
  subst h
  simp only [Bool.and_eq_true,nodupB_iff,List.all_eq_true] at hb
  obtain ⟨⟨⟨hrn,hbn⟩,hln⟩,hal⟩:=hb
  obtain ⟨G',I',hM⟩:=cut1_ok he hrn hbn hln I2
  refine ⟨G',alslots al I' fun p hp=>?_⟩
  have hk:=hal p hp
  unfold alOk at hk
  split at hk
  case h_2=>cases hk
  rename_i t g e0 hs
  split at hk
  case h_2=>cases hk
  rename_i g' h0 e0' l0 g1 h1 e1 l1 t' hr hr1 hlk
  simp only [Bool.and_eq_true,Nat.beq_eq_true_eq,decide_eq_true_eq,Nat.beq_eq] at hk
  obtain ⟨⟨⟨k1,k2⟩,k3⟩,k4⟩:=hk
  subst k1;subst k2;subst k3;subst k4
  obtain ⟨c,c1,v,c2,c3,c4,c5⟩:=I2.sl p.1 _ hs
  have hv:=(c5 _ _ _ hr).1
  have hm:(p.2.1,some t) ∈ rs:=lookup_some rs hlk
  have he:G'.hd (rk p.2.1)=v:=by rw [hM _ _ hm,hv]
  refine ⟨⟨_,_,_,hr1⟩,?_,by rw [he];exact c3⟩
  rw [c1,c2,he];rfl
end
end Go.Proofs.YtmlgfaojfmkdnaaGreatDoor.E
namespace Go.Proofs.YtmlgfaojfmkdnaaGreatDoor.E
open Go Go.RowKit
set_option linter.unusedVariables false
set_option linter.unusedSimpArgs false
/-- A loop that goes down in steps of a number. -/
theorem wp_loop_ix {P:Program} {Q:Exit->Act->World->Prop} {c:Code} (I:Nat->Act->World->Prop) (round:∀ n a w,I n a w->c.wp P (Exit.then (fun a' w'=>∃ m,m < n/\I m a' w') Q) a w) {n:Nat} {a:Act} {w:World} (h₀:I n a w):(Code.loop c).wp P Q a w:=by
  intro b k cs
  have key:∀ n a w,I n a w->∃ e a' w',Q e a' w'/\Arrives P (lone (b.at a (.code c :: .inLoop c :: k)) cs w) b k cs e a' w':=by
    intro n
    induction n using Nat.strongRecOn with
    | _ n ih =>
      intro a w hI
      obtain ⟨e,a₁,w₁,hq,harr⟩:=round n a w hI b (.inLoop c :: k) cs
      cases e with
      | normal =>
        obtain ⟨m,hlt,hI₁⟩:=hq
        obtain ⟨e₂,a₂,w₂,hq₂,harr₂⟩:=ih m hlt a₁ w₁ hI₁
        exact ⟨e₂,a₂,w₂,hq₂,.of_steps (Steps.trans harr (.one step_inLoop)) harr₂⟩
      | exit id=>exact ⟨_,a₁,w₁,hq,.pass (x:=.inLoop c) rfl (fun _ _=>.inl (by simp)) harr⟩
      | goto l=>exact ⟨_,a₁,w₁,hq,.pass (x:=.inLoop c) rfl (fun _ _=>.inl (by simp)) harr⟩
      | ret=>exact ⟨_,a₁,w₁,hq,.pass (x:=.inLoop c) rfl (fun _ _=>.inl (by simp)) harr⟩
      | panic ch=>exact ⟨_,a₁,w₁,hq,.pass (x:=.inLoop c) rfl (fun _ _=>.inl (by simp)) harr⟩
      | outgrown=>exact ⟨_,a₁,w₁,hq,.pass (x:=.inLoop c) rfl (fun _ _=>.inl (by simp)) harr⟩
  obtain ⟨e,a',w',hq,harr⟩:=key n a w h₀
  exact ⟨e,a',w',hq,.of_steps (.one step_loop) harr⟩
/-- A loop's plain function is what the loop does. -/
def LpS (C:Cx) {R:Type} (f:LoopS R) (c:Code):Prop:=∀ (r:R) (st:St) (kx:Nat->St->Option R) (kr:St->Option R) (a:Act) (w:World) (G:Gh) (Q:Exit->Act->World->Prop),f st kx kr=some r->Inv C st a w G →
  (∀ i st' a' w' G',kx i st'=some r->Inv C st' a' w' G'->Q (.exit i) a' w')->(∀ st' a' w' G',kr st'=some r->Inv C st' a' w' G'->Q .ret a' w')->(Code.loop c).wp C.P Q a w
def SgS (C:Cx) {R:Type} (J:SegS R) (c:Code):Prop:=∀ (r:R) (st:St) (kn:St->Option R) (kx:Nat->St->Option R) (kr:St->Option R) (a:Act) (w:World) (G:Gh) (Q:Exit->Act->World->Prop),J st kn kx kr=some r->Inv C st a w G →
  (∀ st' a' w' G',kn st'=some r->Inv C st' a' w' G'->Q .normal a' w')->(∀ i st' a' w' G',kx i st'=some r->Inv C st' a' w' G'->Q (.exit i) a' w')->(∀ st' a' w' G',kr st'=some r->Inv C st' a' w' G'->Q .ret a' w')->c.wp C.P Q a w
def LpOk (C:Cx) {R:Type} (en:Env R):Code->Prop
  | .seq x y=>LpOk C en x/\(∀ J,en.S (rid y)=some J->SgS C J y)/\(en.S (rid y)=none->LpOk C en y)
  | .cond _ x y=>((∀ J,en.S (rid x)=some J->SgS C J x)/\(en.S (rid x)=none->LpOk C en x))/\(∀ J,en.S (rid y)=some J->SgS C J y)/\(en.S (rid y)=none->LpOk C en y)
  | .block _ c=>LpOk C en c
  | .loop c=>∀ f,en.L (rid c)=some f->LpS C f c
  | _=>True
theorem evC_sound {C:Cx} {cf:Cfg} {R:Type} {en:Env R} (O:CfgOk C cf) (hmix:C.P.follows .mixedOrders=true) {r:R}:∀ (c:Code) {st:St} {kn:St->Option R} {kx:Nat->St->Option R} {kr:St->Option R} {a:Act} {w:World} {G:Gh} {Q:Exit->Act->World->Prop},
    LpOk C en c->evC cf en c st kn kx kr=some r->Inv C st a w G->(∀ st' a' w' G',kn st'=some r->Inv C st' a' w' G'->Q .normal a' w')->(∀ i st' a' w' G',kx i st'=some r->Inv C st' a' w' G'->Q (.exit i) a' w') →
    (∀ st' a' w' G',kr st'=some r->Inv C st' a' w' G'->Q .ret a' w')->c.wp C.P Q a w
  | .skip,st,kn,kx,kr,a,w,G,Q,hl,h,I,hn,hx,hr=>wp_skip (hn _ _ _ _ h I)
  | .region id ops draw,st,kn,kx,kr,a,w,G,Q,hl,h,I,hn,hx,hr=>evR_sound O hmix h I hn
  | .seq x y,st,kn,kx,kr,a,w,G,Q,hl,h,I,hn,hx,hr=>by
    simp only [evC] at h
    split at h
    · rename_i J hJ
      exact wp_seq (evC_sound O hmix x hl.1 h I (fun st' a' w' G' h' I'=>hl.2.1 J hJ r st' kn kx kr a' w' G' Q h' I' hn hx hr) hx hr)
    · rename_i hJ
      exact wp_seq (evC_sound O hmix x hl.1 h I (fun st' a' w' G' h' I'=>evC_sound O hmix y (hl.2.2 hJ) h' I' hn hx hr) hx hr)
  | .cond c x y,st,kn,kx,kr,a,w,G,Q,hl,h,I,hn,hx,hr=>by
    have bx:(match en.S (rid x) with | some J=>J st kn kx kr | none=>evC cf en x st kn kx kr)=some r->x.wp C.P Q a w:=fun h=>by
      split at h
      · rename_i J hJ
        exact hl.1.1 J hJ r st kn kx kr a w G Q h I hn hx hr
      · rename_i hJ
        exact evC_sound O hmix x (hl.1.2 hJ) h I hn hx hr
    have by_:(match en.S (rid y) with | some J=>J st kn kx kr | none=>evC cf en y st kn kx kr)=some r->y.wp C.P Q a w:=fun h=>by
      split at h
      · rename_i J hJ
        exact hl.2.1 J hJ r st kn kx kr a w G Q h I hn hx hr
      · rename_i hJ
        exact evC_sound O hmix y (hl.2.2 hJ) h I hn hx hr
    unfold evC at h
    split at h
    · rename_i t
      split at h
      case h_2=>cases h
      rename_i b hv
      have hc:a.eval (.tmp t)=.bool b:=SW_bool (I.sl t _ hv)
      refine wp_cond_split hc (fun e=>?_) (fun e=>?_)
      · subst e
        rw [if_pos rfl] at h
        exact bx h
      · subst e
        rw [if_neg (by simp)] at h
        exact by_ h
    · rename_i b
      have hc:a.eval (.const (.bool b))=.bool b:=rfl
      refine wp_cond_split hc (fun e=>?_) (fun e=>?_)
      · subst e
        rw [if_pos rfl] at h
        exact bx h
      · subst e
        rw [if_neg (by simp)] at h
        exact by_ h
    · cases h
  | .block id c,st,kn,kx,kr,a,w,G,Q,hl,h,I,hn,hx,hr=>by
    refine wp_block (evC_sound O hmix c hl h I hn (fun i st' a' w' G' h' I'=>?_) hr)
    show if i=id then Q .normal a' w' else Q (.exit i) a' w'
    by_cases e:i=id
    · subst e
      rw [Nat.beq_refl] at h'
      rw [if_pos rfl];exact hn _ _ _ _ h' I'
    · have:Nat.beq i id=false:=by
        cases hb:Nat.beq i id
        · rfl
        · exact absurd (Nat.eq_of_beq_eq_true hb) e
      rw [this] at h'
      rw [if_neg e];exact hx _ _ _ _ _ h' I'
  | .loop c,st,kn,kx,kr,a,w,G,Q,hl,h,I,hn,hx,hr=>by
    simp only [evC] at h
    split at h
    · rename_i f hf
      exact hl f hf r st kx kr a w G Q h I hx hr
    · cases h
  | .exit id,st,kn,kx,kr,a,w,G,Q,hl,h,I,hn,hx,hr=>by
    simp only [evC] at h
    split at h
    · rename_i l _
      split at h
      · rename_i x hc
        obtain ⟨G',I'⟩:=cut_ok hc I
        exact wp_exit (hx _ _ _ _ _ h I')
      · cases h
    · exact wp_exit (hx _ _ _ _ _ h I)
  | .ret,st,kn,kx,kr,a,w,G,Q,hl,h,I,hn,hx,hr=>by
    simp only [evC] at h
    split at h
    · rename_i x hc
      obtain ⟨G',I'⟩:=cut_ok hc I
      exact wp_ret (hr _ _ _ _ h I')
    · cases h
  | .goto _,st,kn,kx,kr,a,w,G,Q,hl,h,I,hn,hx,hr=>by simp [evC] at h
  | .label _,st,kn,kx,kr,a,w,G,Q,hl,h,I,hn,hx,hr=>by simp [evC] at h
  | .rangeFunc _ _ _ _,st,kn,kx,kr,a,w,G,Q,hl,h,I,hn,hx,hr=>by simp [evC] at h
  | .scope _,st,kn,kx,kr,a,w,G,Q,hl,h,I,hn,hx,hr=>by simp [evC] at h
/-- The loop's own theorem (slots may share roots): its plain function, by fuel, against one round of the evaluator. -/
theorem loopA_sound {C:Cx} {cf:Cfg} {R:Type} (O:CfgOk C cf) (hmix:C.P.follows .mixedOrders=true) {lv:Lv} {al:Al} {f:Nat->den lv.ty->(Nat->St->Option R)->(St->Option R)->Option R} {en:Nat->Env R} {c:Code}
    (h0:∀ x kx kr,f 0 x kx kr=none) (hs:∀ k x kx kr,f (k + 1) x kx kr=evC cf (en k) c (mkStA lv al x) (fun s=>mkLoopA lv al (f k) s kx kr) kx kr) (hl:∀ k,LpOk C (en k) c) (k:Nat):LpS C (mkLoopA lv al (f k)) c:=by
  intro r st kx kr a w G Q h I hx hr
  have one:∀ k st a w G,mkLoopA lv al (f k) st kx kr=some r->Inv C st a w G->∃ x G',f k x kx kr=some r/\Inv C (mkStA lv al x) a w G':=fun k st a w G h I=>by
    unfold mkLoopA at h
    split at h
    · rename_i x hc
      obtain ⟨G',I'⟩:=cutA_ok hc I
      exact ⟨x,G',h,I'⟩
    · cases h
  obtain ⟨x,G',h',I'⟩:=one k st a w G h I
  refine wp_loop_ix (fun n a w=>∃ x G,f n x kx kr=some r/\Inv C (mkStA lv al x) a w G) (fun n a w hI=>?_) (n:=k) ⟨x,G',h',I'⟩
  obtain ⟨x,G,h,I⟩:=hI
  cases n with
  | zero=>rw [h0] at h;cases h
  | succ n =>
    rw [hs] at h
    exact evC_sound O hmix c (hl n) h I (fun st' a' w' G' h1 I1=>by
      obtain ⟨y,G2,h2,I2⟩:=one n st' a' w' G' h1 I1
      exact ⟨n,Nat.lt_succ_self n,y,G2,h2,I2⟩) hx hr
/-- A segment's own theorem. -/
theorem seg_sound {C:Cx} {cf:Cfg} {R:Type} (O:CfgOk C cf) (hmix:C.P.follows .mixedOrders=true) {l ln:Lv} {f:den l.ty->(den ln.ty->Option R)->(Nat->St->Option R)->(St->Option R)->Option R} {en:Env R} {c:Code}
    (hs:∀ x kn kx kr,f x kn kx kr=evC cf en c (mkSt l x) (cutK ln kn) kx kr) (hl:LpOk C en c):SgS C (mkSeg l ln f) c:=by
  intro r st kn kx kr a w G Q h I hn hx hr
  unfold mkSeg at h
  split at h
  case h_2=>cases h
  rename_i x hc
  obtain ⟨G',I'⟩:=cut_ok hc I
  rw [hs] at h
  refine evC_sound O hmix c hl h I' (fun st' a' w' G2 h' I2=>?_) hx hr
  unfold cutK at h'
  split at h'
  case h_2=>cases h'
  rename_i y hy
  obtain ⟨G3,I3⟩:=cut_ok hy I2
  exact hn _ _ _ _ h' I3
end Go.Proofs.YtmlgfaojfmkdnaaGreatDoor.E
namespace Go.Proofs.YtmlgfaojfmkdnaaGreatDoor.E
open Go Go.RowKit
set_option linter.unusedVariables false
set_option linter.unusedSimpArgs false
section
variable {P:Program} {w:World}
structure EntOk (P:Program) (w:World) (S:Nat->Prop) (A:Ty) (i:Nat) (U0:U) (vals:List Value) (bs:List Nat) (hd:Nat->Value) (bl:Nat->List Nat):Prop where
  ents:∀ p ∈ U0,(∃ j v,i<=j/\j < i + A.len/\p=(sk j,Cell.sv v))\/(∃ id e l,8 * i<=id/\id < 8 * (i + A.len)/\p=(rk id,Cell.root 0 0 e l)/\TC (.sl e) w [hd id] l (bl id))
  keys:(U0.map (·.1)).Nodup
  bls:∀ id e l,(rk id,Cell.root 0 0 e l) ∈ U0->(∀ b ∈ bl id,b ∈ bs)/\(bs.Nodup->(bl id).Nodup)
  dj:bs.Nodup->∀ id e l id' e' l',(rk id,Cell.root 0 0 e l) ∈ U0->(rk id',Cell.root 0 0 e' l') ∈ U0->∀ b,b ∈ bl id->b ∈ bl id'->id=id'
  vl:∀ j v,(sk j,Cell.sv v) ∈ U0->∀ (st':St) (G':Gh) (S':Nat->Prop),(∀ p ∈ U0,st' p.1=p.2)->(∀ id,8 * i<=id->id < 8 * (i + A.len)->G'.hd (rk id)=hd id)->(∀ b,S b->S' b)->(∀ b,S' b->b < w.heap.size)->SW P st' G' w S' v (vals.getD (j - i) undef)
  len:vals.length=A.len
theorem bl_nodup {bl:Nat->List Nat}:∀ (l:List Nat),l.Nodup->((l.map bl).flatten).Nodup->(∀ i ∈ l,(bl i).Nodup)/\(∀ i ∈ l,∀ j ∈ l,∀ b,b ∈ bl i->b ∈ bl j->i=j)
  | [],_,_=>⟨fun i hi=>(by cases hi),fun i hi=>(by cases hi)⟩
  | x :: l,hn,hf=>by
    simp only [List.nodup_cons] at hn
    rw [List.map_cons,List.flatten_cons,List.nodup_append] at hf
    obtain ⟨h1,h2⟩:=bl_nodup l hn.2 hf.2.1
    have hx:∀ j ∈ l,∀ b,b ∈ bl x->b ∈ bl j->False:=fun j hj b hb hb'=>hf.2.2 b hb b (List.mem_flatten.2 ⟨bl j,List.mem_map.2 ⟨j,hj,rfl⟩,hb'⟩) rfl
    refine ⟨fun i hi=>?_,fun i hi j hj b hb hb'=>?_⟩
    · rcases List.mem_cons.1 hi with rfl | hi
      · exact hf.1
      · exact h1 i hi
    · rcases List.mem_cons.1 hi with e1 | hi' <;> rcases List.mem_cons.1 hj with e2 | hj'
      · rw [e1,e2]
      · exact (hx j hj' b (e1 ▸ hb) hb').elim
      · exact (hx i hi' b (e2 ▸ hb') hb).elim
      · exact h2 i hi' j hj' b hb hb'
/-- One parameter. -/
theorem ent_one {S:Nat->Prop} {A:Ty} {m:Bool} {c:List Value} {x:den A} {b1:List Nat} (i:Nat) (h:if m=true then TC A w c x b1 else b1=[]/\RX P A false w S c x) (hok:(!m || (A.ownable && Nat.ble (nroots A) 8 && !A.isTup && !A.isPU))=true) :
    ∃ hd bl,EntOk P w S (.pair A .unit) i (bif m then (let p:=own A x (8 * i) (fun _=>0);(sk i,.sv p.1) :: p.2.1) else [(sk i,.sv (.val A x))]) [valOf A c] b1 hd bl:=by
  cases m with
  | false =>
    simp only [Bool.false_eq_true,if_false] at h
    obtain ⟨rfl,h⟩:=h
    refine ⟨fun _=>undef,fun _=>[],⟨fun p hp=>?_,by simp,fun id e l hm=>?_,fun _ id e l id' e' l' hm=>?_,fun j v hv st' G' S' h1 h2 h3 h4=>?_,rfl⟩⟩
    · simp only [cond_false,List.mem_singleton] at hp
      exact .inl ⟨i,_,Nat.le_refl _,by simp [Ty.len],hp⟩
    · simp at hm
    · simp at hm
    · simp only [cond_false,List.mem_singleton,Prod.mk.injEq,Cell.sv.injEq] at hv
      obtain ⟨e,rfl⟩:=hv
      have e:=sk_inj e
      subst e
      rw [Nat.sub_self]
      exact ⟨c,rfl,RX_congr P A false (Nat.le_refl _) (fun b hb _=>⟨h3 b hb,rfl⟩) h4 h⟩
  | true =>
    simp only [if_true] at h
    simp only [Bool.not_true,Bool.false_or,Bool.and_eq_true,Bool.not_eq_true'] at hok
    obtain ⟨⟨⟨h1,h2⟩,h3⟩,h4⟩:=hok
    have h2:nroots A<=8:=Nat.le_of_ble_eq_true h2
    obtain ⟨hd,bl,Q⟩:=own_ok (P:=P) (w':=w) (gn:=fun _=>0) A false x c b1 (8 * i) h h1
    have hq5:=Q.p5
    have hqk:((own A x (8 * i) (fun _=>0)).2.1.map (·.1)).Nodup:=by
      rw [Q.p3]
      exact List.pairwise_map.2 (List.Pairwise.imp (fun h e=>h (rk_inj e)) (List.nodup_range' (s:=8 * i) (n:=(own A x (8 * i) (fun _=>0)).2.2 - 8 * i)))
    have hid:∀ id e l,(rk id,Cell.root 0 0 e l) ∈ (own A x (8 * i) (fun _=>0)).2.1->id ∈ List.range' (8 * i) ((own A x (8 * i) (fun _=>0)).2.2 - 8 * i):=fun id e l hm=>by
      obtain ⟨id',e',l',k1,k2,k3,_⟩:=Q.p1 _ hm
      simp only [Prod.mk.injEq] at k3
      have:=rk_inj k3.1
      subst this
      exact List.mem_range'_1.2 (by omega)
    have hmem:∀ p,p ∈ (sk i,Cell.sv (own A x (8 * i) (fun _=>0)).1) :: (own A x (8 * i) (fun _=>0)).2.1->p=(sk i,Cell.sv (own A x (8 * i) (fun _=>0)).1)\/p ∈ (own A x (8 * i) (fun _=>0)).2.1:=fun p hp=>List.mem_cons.1 hp
    refine ⟨hd,bl,⟨fun p hp=>?_,?_,fun id e l hm=>?_,fun hn id e l id' e' l' hm hm' b hb hb'=>?_,fun j v hv st' G' S' k1 k2 k3 k4=>?_,rfl⟩⟩
    · rcases hmem p hp with hp | hp
      · exact .inl ⟨i,_,Nat.le_refl _,by simp [Ty.len],hp⟩
      · obtain ⟨id,e,l,k1,k2,k3,k4⟩:=Q.p1 p hp
        exact .inr ⟨id,e,l,k1,by simp only [Ty.len];omega,k3,k4⟩
    · show (((sk i,Cell.sv (own A x (8 * i) (fun _=>0)).1) :: (own A x (8 * i) (fun _=>0)).2.1).map (·.1)).Nodup
      rw [List.map_cons,List.nodup_cons]
      refine ⟨fun hm=>?_,hqk⟩
      obtain ⟨p,hp,e⟩:=List.mem_map.1 hm
      obtain ⟨id,e',l,_,_,k3,_⟩:=Q.p1 p hp
      rw [k3] at e
      exact sk_ne_rk _ _ e.symm
    · rcases hmem _ hm with hm | hm
      · simp at hm
      · have hi:=hid id e l hm
        refine ⟨fun b hb=>by rw [Q.p2];exact List.mem_flatten.2 ⟨bl id,List.mem_map.2 ⟨id,hi,rfl⟩,hb⟩,fun hn=>?_⟩
        rw [Q.p2] at hn
        exact (bl_nodup _ List.nodup_range' hn).1 id hi
    · rcases hmem _ hm with hm | hm
      · simp at hm
      · rcases hmem _ hm' with hm' | hm'
        · simp at hm'
        · rw [Q.p2] at hn
          exact (bl_nodup _ List.nodup_range' hn).2 id (hid id e l hm) id' (hid id' e' l' hm') b hb hb'
    · rcases hmem _ hv with hv | hv
      · simp only [Prod.mk.injEq,Cell.sv.injEq] at hv
        obtain ⟨e,rfl⟩:=hv
        have e:=sk_inj e
        subst e
        rw [Nat.sub_self]
        show SW P st' G' w S' _ (valOf A c)
        rw [<-Q.p6 rfl]
        exact SW_of (Q.p4 st' G' S' (fun p hp=>k1 p (List.mem_cons_of_mem _ hp)) (fun id j1 j2=>k2 id j1 (by simp only [Ty.len];omega)))
      · obtain ⟨id,e',l,_,_,k3,_⟩:=Q.p1 _ hv
        simp at k3
theorem ent_ok {S:Nat->Prop}:∀ (A:Ty) (mu:List Bool) (i:Nat) {vals:List Value} {x:den A} {bs:List Nat},AX P A mu w S vals x bs->entB A mu=true->∃ hd bl,EntOk P w S A i (argL A mu x i) vals bs hd bl
  | .unit,mu,i,vals,x,bs,h,hok=>by
    obtain ⟨rfl,rfl⟩:=h
    exact ⟨fun _=>undef,fun _=>[],⟨fun p hp=>(by cases hp),List.nodup_nil,fun id e l hm=>(by cases hm),fun _ id e l id' e' l' hm=>(by cases hm),fun j v hv=>(by cases hv),rfl⟩⟩
  | .pair A B,mu,i,vals,x,bs,h,hok=>by
    obtain ⟨c,r,b1,b2,rfl,rfl,h1,h2⟩:=h
    cases mu with
    | nil=>cases hok
    | cons m mu =>
      simp only [entB,Bool.and_eq_true] at hok
      obtain ⟨hd1,bl1,E1⟩:=ent_one (P:=P) (S:=S) (m:=m) i h1 hok.1
      obtain ⟨hd2,bl2,E2⟩:=ent_ok B mu (i + 1) h2 hok.2
      have hU:argL (.pair A B) (m :: mu) x i=(bif m then (let p:=own A x.1 (8 * i) (fun _=>0);(sk i,.sv p.1) :: p.2.1) else [(sk i,.sv (.val A x.1))]) ++ argL B mu x.2 (i + 1):=rfl
      rw [hU]
      generalize (bif m then (let p:=own A x.1 (8 * i) (fun _=>0);(sk i,Cell.sv p.1) :: p.2.1) else [(sk i,Cell.sv (.val A x.1))])=U1 at E1
      have l1:(Ty.pair A .unit).len=1:=rfl
      have l2:(Ty.pair A B).len=B.len + 1:=rfl
      have r1:∀ id e l,(rk id,Cell.root 0 0 e l) ∈ U1->8 * i<=id/\id < 8 * (i + 1):=fun id e l hm=>by
        rcases E1.ents _ hm with ⟨j,v,_,_,e'⟩ | ⟨id',e',l',k1,k2,k3,_⟩
        · simp at e'
        · simp only [Prod.mk.injEq] at k3
          have:=rk_inj k3.1
          rw [l1] at k2;omega
      have r2:∀ id e l,(rk id,Cell.root 0 0 e l) ∈ argL B mu x.2 (i + 1)->8 * (i + 1)<=id/\id < 8 * (i + 1 + B.len):=fun id e l hm=>by
        rcases E2.ents _ hm with ⟨j,v,_,_,e'⟩ | ⟨id',e',l',k1,k2,k3,_⟩
        · simp at e'
        · simp only [Prod.mk.injEq] at k3
          have:=rk_inj k3.1
          omega
      refine ⟨fun id=>if id < 8 * (i + 1) then hd1 id else hd2 id,fun id=>if id < 8 * (i + 1) then bl1 id else bl2 id,⟨fun p hp=>?_,?_,fun id e l hm=>?_,fun hn id e l id' e' l' hm hm' b hb hb'=>?_,fun j v hv st' G' S' k1 k2 k3 k4=>?_,by simp [E2.len,l2]⟩⟩
      · rcases List.mem_append.1 hp with hp | hp
        · rcases E1.ents p hp with ⟨j,v,k1,k2,k3⟩ | ⟨id,e,l,k1,k2,k3,k4⟩
          · exact .inl ⟨j,v,k1,by rw [l1] at k2;rw [l2];omega,k3⟩
          · rw [l1] at k2
            exact .inr ⟨id,e,l,k1,by rw [l2];omega,k3,by simp only [if_pos k2];exact k4⟩
        · rcases E2.ents p hp with ⟨j,v,k1,k2,k3⟩ | ⟨id,e,l,k1,k2,k3,k4⟩
          · exact .inl ⟨j,v,by omega,by rw [l2];omega,k3⟩
          · have:¬ id < 8 * (i + 1):=by omega
            exact .inr ⟨id,e,l,by omega,by rw [l2];omega,k3,by simp only [if_neg this];exact k4⟩
      · rw [List.map_append]
        refine nodup_app E1.keys E2.keys fun k h1 h2=>?_
        obtain ⟨p,hp,rfl⟩:=List.mem_map.1 h1
        obtain ⟨q,hq,e⟩:=List.mem_map.1 h2
        have e:q.1=p.1:=e
        rcases E1.ents p hp with ⟨j,v,k1,k2,k3⟩ | ⟨id,e1,l,k1,k2,k3,k4⟩ <;> rcases E2.ents q hq with ⟨j',v',j1,j2,j3⟩ | ⟨id',e2,l',j1,j2,j3,j4⟩ <;> rw [k3,j3] at e <;> rw [l1] at k2
        · have:=sk_inj e;omega
        · exact sk_ne_rk _ _ e.symm
        · exact sk_ne_rk _ _ e
        · have:=rk_inj e;omega
      · rcases List.mem_append.1 hm with hm | hm
        · have:=r1 id e l hm
          simp only [if_pos this.2]
          obtain ⟨k1,k2⟩:=E1.bls id e l hm
          exact ⟨fun b hb=>List.mem_append_left _ (k1 b hb),fun hn=>k2 (List.nodup_append.1 hn).1⟩
        · have:=r2 id e l hm
          simp only [if_neg (show ¬ id < 8 * (i + 1) by omega)]
          obtain ⟨k1,k2⟩:=E2.bls id e l hm
          exact ⟨fun b hb=>List.mem_append_right _ (k1 b hb),fun hn=>k2 (List.nodup_append.1 hn).2.1⟩
      · rcases List.mem_append.1 hm with hm | hm <;> rcases List.mem_append.1 hm' with hm' | hm'
        · have q1:=r1 id e l hm
          have q2:=r1 id' e' l' hm'
          simp only [if_pos q1.2] at hb
          simp only [if_pos q2.2] at hb'
          exact E1.dj (List.nodup_append.1 hn).1 id e l id' e' l' hm hm' b hb hb'
        · have q1:=r1 id e l hm
          have q2:=r2 id' e' l' hm'
          simp only [if_pos q1.2] at hb
          simp only [if_neg (show ¬ id' < 8 * (i + 1) by omega)] at hb'
          exact ((List.nodup_append.1 hn).2.2 b ((E1.bls id e l hm).1 b hb) b ((E2.bls id' e' l' hm').1 b hb') rfl).elim
        · have q1:=r2 id e l hm
          have q2:=r1 id' e' l' hm'
          simp only [if_neg (show ¬ id < 8 * (i + 1) by omega)] at hb
          simp only [if_pos q2.2] at hb'
          exact ((List.nodup_append.1 hn).2.2 b ((E1.bls id' e' l' hm').1 b hb') b ((E2.bls id e l hm).1 b hb) rfl).elim
        · have q1:=r2 id e l hm
          have q2:=r2 id' e' l' hm'
          simp only [if_neg (show ¬ id < 8 * (i + 1) by omega)] at hb
          simp only [if_neg (show ¬ id' < 8 * (i + 1) by omega)] at hb'
          exact E2.dj (List.nodup_append.1 hn).2.1 id e l id' e' l' hm hm' b hb hb'
      · rcases List.mem_append.1 hv with hv | hv
        · have hj:j=i:=by
            rcases E1.ents _ hv with ⟨j',v',q1,q2,q3⟩ | ⟨id,e1,l,q1,q2,q3,q4⟩
            · simp only [Prod.mk.injEq] at q3
              have:=sk_inj q3.1
              rw [l1] at q2;omega
            · simp at q3
          have:=E1.vl j v hv st' G' S' (fun p hp=>k1 p (List.mem_append_left _ hp)) (fun id j1 j2=>by
            rw [l1] at j2
            rw [k2 id j1 (by rw [l2];omega),if_pos j2]) k3 k4
          subst hj
          rw [Nat.sub_self] at this ⊢
          exact this
        · have hj:i + 1<=j:=by
            rcases E2.ents _ hv with ⟨j',v',q1,q2,q3⟩ | ⟨id,e1,l,q1,q2,q3,q4⟩
            · simp only [Prod.mk.injEq] at q3
              have:=sk_inj q3.1
              omega
            · simp at q3
          have:=E2.vl j v hv st' G' S' (fun p hp=>k1 p (List.mem_append_right _ hp)) (fun id j1 j2=>by
            rw [k2 id (by omega) (by rw [l2];omega),if_neg (by omega)]) k3 k4
          rw [show j - i=(j - (i + 1)) + 1 from by omega]
          simpa using this
  | .int _,_,_,_,_,_,h,_=>h.elim
  | .bool,_,_,_,_,_,h,_=>h.elim
  | .str,_,_,_,_,_,h,_=>h.elim
  | .st _,_,_,_,_,_,h,_=>h.elim
  | .tup _,_,_,_,_,_,h,_=>h.elim
  | .sl _,_,_,_,_,_,h,_=>h.elim
  | .arr _ _,_,_,_,_,_,h,_=>h.elim
  | .ptr _,_,_,_,_,_,h,_=>h.elim
  | .fn _ _,_,_,_,_,_,h,_=>h.elim
end
end Go.Proofs.YtmlgfaojfmkdnaaGreatDoor.E
namespace Go.Proofs.YtmlgfaojfmkdnaaGreatDoor.E
open Go Go.RowKit
set_option linter.unusedVariables false
set_option linter.unusedSimpArgs false
def rvG (tmps:Array Value):ResultVar->Sem Value
  | .tmp t=>pure (tmps.getD t undef)
  | .cell a t=>do loadVar t (<-asAddr (tmps.getD a undef))
section
variable {C:Cx} {cf:Cfg} {st st':St} {a:Act} {w w':World} {G G':Gh} {us:U} {α:Type} {u:α}
theorem results_run {P:Program} {fn:Func} {tmps:Array Value} {vs:List Value} (h:(fn.results.toList.mapM (rvG tmps)).run P w=.ok vs w):(results fn tmps).run P w=.ok (if h:vs.length=1 then vs[0] else .tuple vs.toArray) w:=by
  have e:results fn tmps=(do let vs <-fn.results.mapM (rvG tmps);pure (if h:vs.size=1 then vs[0] else .tuple vs)):=rfl
  rw [e,Array.mapM_eq_mapM_toList]
  simp only [map_eq_pure_bind,bind_assoc,pure_bind,Sem.run_bind,h,Result.andThen_ok,Sem.run_pure]
  congr 1
theorem entry_inv {P:Program} {A:Ty} {mu:List Bool} {vals:List Value} {x:den A} {bs:List Nat} {pr nt:Nat} (h:AX P A mu w (fun b=>b < w.heap.size/\b ∉ bs) vals x bs) (hn:bs.Nodup) (hok:entB A mu=true) (hlen:A.len<=nt) (hpr:pr<=A.len) :
    ∃ G,Inv ⟨P,w,bs,vals,pr,nt,fun _=>True⟩ (upds st0 (argL A mu x 0)) { tmps:=vals.toArray ++ Array.replicate (nt - vals.toArray.size) undef,defers:=[] } w G:=by
  obtain ⟨hd,bl,E⟩:=ent_ok A mu 0 h hok
  have hvl:=E.len
  have hk3:∀ id,rk id / 3=id:=fun id=>by unfold rk;omega
  let G:Gh:=⟨fun k=>hd (k / 3),fun k=>bl (k / 3),fun _=>0,fun _=>True⟩
  have hin:∀ p ∈ argL A mu x 0,upds st0 (argL A mu x 0) p.1=p.2:=fun p hp=>upds_in _ _ E.keys (by simpa using hp)
  have hout:∀ k c,upds st0 (argL A mu x 0) k=c->c ≠ .none->(k,c) ∈ argL A mu x 0:=fun k c h1 h2=>by
    by_cases hk:∃ p ∈ argL A mu x 0,p.1=k
    · obtain ⟨p,hp,rfl⟩:=hk
      rw [hin p hp] at h1;subst h1;exact hp
    · have:upds st0 (argL A mu x 0) k=st0 k:=upds_out _ _ _ fun p hp e=>hk ⟨p,hp,e⟩
      rw [this] at h1
      exact absurd h1.symm h2
  have hroot:∀ k g hh e l,upds st0 (argL A mu x 0) k=.root g hh e l->∃ id,k=rk id/\(rk id,Cell.root 0 0 e l) ∈ argL A mu x 0/\TC (.sl e) w [hd id] l (bl id):=fun k g hh e l hr=>by
    have hm:=hout k _ hr (by simp)
    rcases E.ents _ hm with ⟨j,v,_,_,e'⟩ | ⟨id,e1,l1,_,_,k3,k4⟩
    · simp at e'
    · simp only [Prod.mk.injEq,Cell.root.injEq] at k3
      obtain ⟨rfl,rfl,rfl,rfl,k5⟩:=k3
      cases k5
      exact ⟨id,rfl,hm,k4⟩
  have hbox:∀ k g T v,upds st0 (argL A mu x 0) k ≠ .box g T v:=fun k g T v hr=>by
    have hm:=hout k _ hr (by simp)
    rcases E.ents _ hm with ⟨j,v,_,_,e'⟩ | ⟨id,e1,l1,_,_,k3,k4⟩
    · simp at e'
    · simp at k3
  have hown':∀ k g,upds st0 (argL A mu x 0) k ≠ .own g:=fun k g hr=>by
    have hm:=hout k _ hr (by simp)
    rcases E.ents _ hm with ⟨j,v,_,_,e'⟩ | ⟨id,e1,l1,_,_,k3,k4⟩
    · simp at e'
    · simp at k3
  have own:∀ k b,b ∈ ownB (upds st0 (argL A mu x 0)) G k->∃ id e l,k=rk id/\(rk id,Cell.root 0 0 e l) ∈ argL A mu x 0/\TC (.sl e) w [hd id] l (bl id)/\b ∈ bl id:=fun k b hb=>by
    unfold ownB at hb
    split at hb
    · rename_i g hh e l hr
      obtain ⟨id,rfl,k1,k2⟩:=hroot _ _ _ _ _ hr
      have hb:b ∈ bl (rk id / 3):=hb
      rw [hk3] at hb
      exact ⟨id,e,l,rfl,k1,k2,hb⟩
    · rename_i g T v hr
      exact absurd hr (hbox _ _ _ _)
    · rename_i g hr
      exact absurd hr (hown' _ _)
    · cases hb
  have hsize:vals.toArray.size=A.len:=by simp [hvl]
  have htm:∀ i,i < A.len->(vals.toArray ++ Array.replicate (nt - vals.toArray.size) undef).getD i undef=vals.getD i undef:=fun i hi=>by
    rw [Array.getD_eq_getD_getElem?,Array.getElem?_append,if_pos (by rw [hsize];exact hi)]
    simp [List.getD]
  refine ⟨G,{ rt:=fun k g hh e l hr=>?_,sc:=fun i=>?_,bx:=fun k g T v hr=>absurd hr (hbox _ _ _ _),nd:=fun k=>?_,dj:=fun k k' b h1 h2=>?_,lt:=fun k b hb=>?_,os:=rfl,tape:=rfl,output:=rfl,size:=Nat.le_refl _,block:=fun _ _ _=>rfl,s0:=rfl,m0:=fun _ _=>trivial,sl:=fun i v hv=>?_,df:=rfl,sz:=?_,pa:=fun i hi=>?_ }⟩
  · obtain ⟨id,rfl,k1,k2⟩:=hroot _ _ _ _ _ hr
    show TC (.sl e) w [hd (rk id / 3)] l (bl (rk id / 3))
    rw [hk3];exact k2
  · cases hc:upds st0 (argL A mu x 0) (sk i) with
    | none=>exact .inr rfl
    | sv v=>exact .inl ⟨v,rfl⟩
    | root g hh e l=>obtain ⟨id,k,_⟩:=hroot _ _ _ _ _ hc;exact absurd k (sk_ne_rk _ _)
    | box g T v=>exact absurd hc (hbox _ _ _ _)
    | own g=>exact absurd hc (hown' _ _)
    | gone g =>
      have hm:=hout _ _ hc (by simp)
      rcases E.ents _ hm with ⟨j,v,_,_,e'⟩ | ⟨id,e1,l1,_,_,k3,k4⟩
      · simp at e'
      · simp at k3
  · unfold ownB
    split
    · rename_i g hh e l hr
      obtain ⟨id,rfl,k1,k2⟩:=hroot _ _ _ _ _ hr
      show (bl (rk id / 3)).Nodup
      rw [hk3];exact (E.bls id e l k1).2 hn
    · simp
    · rename_i g hr;exact absurd hr (hown' _ _)
    · exact List.nodup_nil
  · obtain ⟨id,e,l,rfl,k1,_,k2⟩:=own k b h1
    obtain ⟨id',e',l',rfl,j1,_,j2⟩:=own k' b h2
    rw [E.dj hn id e l id' e' l' k1 j1 b k2 j2]
  · obtain ⟨id,e,l,rfl,k1,k2,k3⟩:=own k b hb
    exact ⟨TC_lt _ k2 b k3,.inr ((E.bls id e l k1).1 b k3)⟩
  · have hm:=hout _ _ hv (by simp)
    have hi:i < A.len:=by
      rcases E.ents _ hm with ⟨j,v',k1,k2,e'⟩ | ⟨id,e1,l1,_,_,k3,k4⟩
      · simp only [Prod.mk.injEq] at e'
        have:=sk_inj e'.1
        omega
      · simp at k3
    have:=E.vl i v hm (upds st0 (argL A mu x 0)) G (Fz (upds st0 (argL A mu x 0)) G w) hin (fun id _ _=>by show hd (rk id / 3)=hd id;rw [hk3]) (fun b hb=>⟨hb.1,fun k hk=>by
      obtain ⟨id,e,l,rfl,k1,_,k3⟩:=own k b hk
      exact hb.2 ((E.bls id e l k1).1 b k3),trivial⟩) (fun b hb=>hb.1)
    rw [htm i hi]
    simpa using this
  · show (vals.toArray ++ Array.replicate (nt - vals.toArray.size) undef).size=nt
    rw [Array.size_append,Array.size_replicate,hsize];omega
  · show (vals.toArray ++ Array.replicate (nt - vals.toArray.size) undef).getD i undef=vals.getD i undef
    exact htm i (Nat.lt_of_lt_of_le hi hpr)
theorem SX_list_len {P:Program} {S:Nat->Prop}:∀ (v:SV) {vs:List Value},SX P st G w S v true vs->vs.length=v.len
  | .unit,vs,h=>by have h:vs=[]:=h;rw [h];rfl
  | .pair a b,vs,h=>by
    obtain ⟨c,r,rfl,_,h2⟩:=h
    rw [List.length_cons,SX_list_len b h2];rfl
  | .val _ _,_,h=>h.elim
  | .nil,_,h=>h.elim
  | .ref _ _ _,_,h=>h.elim
  | .sub _ _ _ _ _ _,_,h=>h.elim
  | .vw _ _ _ _ _,_,h=>h.elim
  | .sap _ _ _ _ _ _ _ _,_,h=>h.elim
  | .mp _ _,_,h=>h.elim
  | .pel _ _ _ _,_,h=>h.elim
  | .pbx _ _ _,_,h=>h.elim
  | .pix _ _ _ _,_,h=>h.elim
  | .st _,_,h=>h.elim
  | .tup _,_,h=>h.elim
  | .clo _ _ _,_,h=>h.elim
theorem resSV_run (O:CfgOk C cf) (I:Inv C st a w G):∀ (rs:List ResultVar) {f:SV->M α},Rn (resSV cf rs f) st u->∃ v vs,(rs.mapM (rvG a.tmps)).run C.P w=.ok vs w/\SX C.P st G w (Fz st G w) v true vs/\Rn (f v) st u
  | [],f,h=>⟨.unit,[],rfl,rfl,h⟩
  | .tmp t :: rs,f,h=>by
    unfold resSV at h
    obtain ⟨v,_,hv,h⟩:=slot_run I h
    split at h
    · exact (Rn_fail.1 h).elim
    · rename_i hnt
      obtain ⟨v',vs,k1,k2,k3⟩:=resSV_run O I rs h
      obtain ⟨c,hc1,hc2⟩:=SW_cells hv (fun b e=>hnt b e)
      refine ⟨.pair v v',a.tmps.getD t undef :: vs,?_,⟨c,vs,by rw [hc1],hc2,k2⟩,k3⟩
      rw [List.mapM_cons]
      simp only [rvG,Sem.run_bind,Sem.run_pure,Result.andThen_ok,k1]
  | .cell p t :: rs,f,h=>by
    unfold resSV at h
    obtain ⟨v,_,hv,h⟩:=slot_run I h
    split at h
    case h_2=>exact (Rn_fail.1 h).elim
    rename_i b g _
    rw [Rn_get] at h
    split at h
    case h_2=>exact (Rn_fail.1 h).elim
    rename_i g' B v0 hr
    rw [Rn_chk] at h
    have hg:g=g':=Nat.eq_of_beq_eq_true h.1
    subst hg
    have h:=h.2
    rw [Rn_bif] at h
    rcases h with ⟨hty,h⟩ | ⟨_,h⟩
    case inr=>exact (Rn_fail.1 h).elim
    have hty:=of_decide_eq_true hty
    obtain ⟨v',vs,k1,k2,k3⟩:=resSV_run O I rs h
    obtain ⟨c,hc,x,rfl,_,_,hx⟩:=hv
    have hx:=hx _ _ hr
    obtain ⟨ht,arr,et,ha,hs⟩:=I.bx _ _ _ _ hr
    have hl:=SX_len v0 B ht hs
    have hload:=loadVar_run (O.ty _ _ hty) (w:=w) (b:=G.bx (bk b)) (o:=0) ha (by rw [<-Array.length_toList];omega)
    rw [seg_all hl] at hload
    have hp:a.tmps.getD p undef=.pointer (some ⟨G.bx (bk b),0,none⟩):=by rw [hc];exact hx
    refine ⟨.pair v0 v',valOf B arr.toList :: vs,?_,⟨arr.toList,vs,by rw [valS_res ht],hs,k2⟩,k3⟩
    rw [List.mapM_cons]
    simp only [rvG,hp,asAddr,Sem.run_bind,Sem.run_pure,Result.andThen_ok,hload,k1]
theorem list_run (I:InvM C st w G) {T:Ty} {v:SV} {vs:List Value} {f:den T->List (Nat × Nat)->M α} (h:Rn (listM T v f) st u) (hs:SX C.P st G w (Fz st G w) v true vs) :
    ∃ x ts,TV T false w [if h:vs.length=1 then vs[0] else .tuple vs.toArray] x (blk G ts)/\Rn (f x ts) st u/\(∀ p ∈ ts,RT st p)/\(T.isTup=false->∃ c,(if h:vs.length=1 then vs[0] else .tuple vs.toArray)=valOf T c/\TC T w c x (blk G ts)):=by
  have hlen:=SX_list_len v hs
  have one:T.isTup=false->Rn (match v with | .pair a .unit=>mv T a f | _=>.fail) st u->∃ x ts,TV T false w [if h:vs.length=1 then vs[0] else .tuple vs.toArray] x (blk G ts)/\Rn (f x ts) st u/\(∀ p ∈ ts,RT st p)/\(T.isTup=false->∃ c,(if h:vs.length=1 then vs[0] else .tuple vs.toArray)=valOf T c/\TC T w c x (blk G ts)):=by
    intro hT h
    split at h
    case h_2=>exact (Rn_fail.1 h).elim
    rename_i p _
    obtain ⟨c,r,rfl,h1,h2⟩:=hs
    have h2:r=[]:=h2
    subst h2
    obtain ⟨x,ts,k1,k2,k3,k4⟩:=mv_run I p T false h h1
    simp only [Bool.false_eq_true,if_false] at k1
    have e:(if h:[valS p c].length=1 then [valS p c][0] else .tuple [valS p c].toArray)=valOf T c:=by
      rw [<-k4 rfl];rfl
    rw [e]
    exact ⟨x,ts,TV_of_TC k1,k2,k3,fun _=>⟨c,rfl,k1⟩⟩
  cases T with
  | tup F =>
    have h:Rn (bif Nat.beq v.len 1 then .fail else mv F v f) st u:=h
    rw [Rn_bif] at h
    rcases h with ⟨_,h⟩ | ⟨hb,h⟩
    · exact (Rn_fail.1 h).elim
    obtain ⟨x,ts,k1,k2,k3,k4⟩:=mv_run I v F true h hs
    have hne:¬ vs.length=1:=fun e=>by
      rw [hlen] at e
      rw [e] at hb;cases hb
    rw [dif_neg hne]
    exact ⟨x,ts,⟨vs,rfl,k1⟩,k2,k3,fun e=>by cases e⟩
  | _=>exact one rfl h
theorem AX_of_RX {P:Program} {S:Nat->Prop}:∀ (A:Ty) (mu:List Bool) {vals:List Value} {x:den A},mu.any id=false->RX P A true w S vals x->AX P A mu w S vals x []
  | .unit,mu,vals,x,hm,h=>⟨h,rfl⟩
  | .pair A B,mu,vals,x,hm,h=>by
    obtain ⟨c,r,rfl,h1,h2⟩:=h
    have:mu.headD false=false:=by
      cases mu with
      | nil=>rfl
      | cons m mu=>simp only [List.any_cons,Bool.or_eq_false_iff] at hm;exact hm.1
    exact ⟨c,r,[],[],rfl,rfl,by rw [this];exact ⟨rfl,h1⟩,AX_of_RX B mu.tail (any_tail hm) h2⟩
  | .int _,_,_,_,_,h=>h.elim
  | .bool,_,_,_,_,h=>h.elim
  | .str,_,_,_,_,h=>h.elim
  | .st _,_,_,_,_,h=>h.elim
  | .tup _,_,_,_,_,h=>h.elim
  | .sl _,_,_,_,_,h=>h.elim
  | .arr _ _,_,_,_,_,h=>h.elim
  | .ptr _,_,_,_,_,h=>h.elim
  | .fn _ _,_,_,_,_,h=>h.elim
def pickL:List Bool->List Value->List Value
  | m :: mu,v :: vs=>if m=true then v :: pickL mu vs else pickL mu vs
  | _,_=>[]
theorem outs_run (I:Inv C st a w G):∀ (mu:List Bool) (vals:List Value) (i:Nat) {f:SV->M α},mu.length=vals.length->(∀ k,k < vals.length->mu.getD k false=true->a.tmps.getD (i + k) undef=vals.getD k undef)->Rn (outsM mu i f) st u →
    ∃ v,SX C.P st G w (Fz st G w) v true (pickL mu vals)/\Rn (f v) st u
  | [],vals,i,f,hl,hv,h=>⟨.unit,by
      show pickL [] vals=[]
      cases vals <;> rfl,h⟩
  | m :: mu,[],i,f,hl,hv,h=>by simp at hl
  | m :: mu,x :: vals,i,f,hl,hv,h=>by
    unfold outsM at h
    have hv':∀ k,k < vals.length->mu.getD k false=true->a.tmps.getD (i + 1 + k) undef=vals.getD k undef:=fun k hk hmk=>by
      have:=hv (k + 1) (by simpa using hk) (by simpa using hmk)
      rw [show i + 1 + k=i + (k + 1) from by omega,this];simp
    rw [Rn_bif] at h
    rcases h with ⟨hm,h⟩ | ⟨hm,h⟩
    · subst hm
      obtain ⟨v,_,hw,h⟩:=slot_run I h
      split at h
      · exact (Rn_fail.1 h).elim
      · rename_i hnt
        obtain ⟨v',k1,k2⟩:=outs_run I mu vals (i + 1) (by simpa using hl) hv' h
        obtain ⟨c,hc1,hc2⟩:=SW_cells hw (fun b e=>hnt b e)
        have h0:=hv 0 (by simp) rfl
        rw [Nat.add_zero] at h0
        refine ⟨.pair v v',⟨c,pickL mu vals,?_,hc2,k1⟩,k2⟩
        rw [<-hc1,h0];simp [pickL]
    · subst hm
      obtain ⟨v',k1,k2⟩:=outs_run I mu vals (i + 1) (by simpa using hl) hv' h
      exact ⟨v',by simpa [pickL] using k1,k2⟩
theorem TV_OX:∀ (A:Ty) (mu:List Bool) {vals:List Value} {z:den (outT A mu)} {bs:List Nat},entB A mu=true->vals.length=A.len->TV (outT A mu) true w (pickL mu vals) z bs->OX A mu w vals z bs
  | .unit,[],vals,z,bs,_,_,h=>h.2
  | .unit,_ :: _,vals,z,bs,he,_,h=>by cases he
  | .pair A B,[],vals,z,bs,he,_,h=>by cases he
  | .pair A B,false :: mu,vals,z,bs,he,hl,h=>by
    simp only [entB,Bool.and_eq_true] at he
    cases vals with
    | nil=>simp [Ty.len] at hl
    | cons v vals =>
      have h:TV (outT B mu) true w (pickL mu vals) z bs:=h
      exact TV_OX B mu he.2 (by simpa [Ty.len] using hl) h
  | .pair A B,true :: mu,vals,z,bs,he,hl,h=>by
    simp only [entB,Bool.and_eq_true,Bool.not_true,Bool.false_or,Bool.not_eq_true'] at he
    cases vals with
    | nil=>simp [Ty.len] at hl
    | cons v vals =>
      have h:TV (.pair A (outT B mu)) true w (v :: pickL mu vals) z bs:=h
      obtain ⟨v',r,b1,b2,e,rfl,h1,h2⟩:=h
      simp only [List.cons.injEq] at e
      obtain ⟨rfl,rfl⟩:=e
      have h3:∃ c,v=valOf A c/\TC A w c z.1 b1:=by
        have ht:=he.1.1.2
        cases A <;> first | (obtain ⟨c,e,hc⟩:=h1;exact ⟨c,by simpa using e,hc⟩) | cases ht
      obtain ⟨c,rfl,hc⟩:=h3
      exact ⟨c,vals,b1,b2,rfl,rfl,hc,TV_OX B mu he.2 (by simpa [Ty.len] using hl) h2⟩
  | .int _,_,_,_,_,he,_,_=>by cases he
  | .bool,_,_,_,_,he,_,_=>by cases he
  | .str,_,_,_,_,he,_,_=>by cases he
  | .st _,_,_,_,_,he,_,_=>by cases he
  | .tup _,_,_,_,_,he,_,_=>by cases he
  | .sl _,_,_,_,_,he,_,_=>by cases he
  | .arr _ _,_,_,_,_,he,_,_=>by cases he
  | .ptr _,_,_,_,_,he,_,_=>by cases he
  | .fn _ _,_,_,_,_,he,_,_=>by cases he
theorem entB_len:∀ (A:Ty) (mu:List Bool),entB A mu=true->mu.length=A.len
  | .unit,[],_=>rfl
  | .unit,_ :: _,he=>by cases he
  | .pair A B,[],he=>by cases he
  | .pair A B,m :: mu,he=>by
    simp only [entB,Bool.and_eq_true] at he
    rw [List.length_cons,entB_len B mu he.2];rfl
  | .int _,_,he=>by cases he
  | .bool,_,he=>by cases he
  | .str,_,he=>by cases he
  | .st _,_,he=>by cases he
  | .tup _,_,he=>by cases he
  | .sl _,_,he=>by cases he
  | .arr _ _,_,he=>by cases he
  | .ptr _,_,he=>by cases he
  | .fn _ _,_,he=>by cases he
end
end Go.Proofs.YtmlgfaojfmkdnaaGreatDoor.E
namespace Go.Proofs.YtmlgfaojfmkdnaaGreatDoor.E
open Go Go.RowKit
set_option linter.unusedVariables false
set_option linter.unusedSimpArgs false
section
variable {C:Cx} {cf:Cfg} {st st':St} {a:Act} {w w':World} {G G':Gh} {us:U} {α:Type} {u:α}
theorem fin_plain (O:CfgOk C cf) (I:Inv C st a w G) (hmt:C.mt=[]) {rs:List ResultVar} {pas ret:Ty} {mu:List Bool} (hmu:mu.any id=false) {r:den ret} (h:Rn (finM cf rs pas mu ret) st r) {fn:Func} (hrs:fn.results.toList=rs) :
    ∃ v,(results fn a.tmps).run C.P w=.ok v w/\Ret ret r C.w0 v w:=by
  unfold finM at h
  obtain ⟨v,vs,h1,h2,h⟩:=resSV_run O I rs h
  rw [hmu] at h
  simp only [cond_false] at h
  obtain ⟨x,ts,k1,k2,k3,_⟩:=list_run I.toInvM h h2
  rw [Rn_bif] at k2
  rcases k2 with ⟨hb,k2⟩ | ⟨_,k2⟩
  case inr=>exact (Rn_fail.1 k2).elim
  rw [Rn_ret] at k2
  subst k2
  simp only [Bool.and_eq_true,nodupB_iff] at hb
  rw [<-hrs] at h1
  refine ⟨_,results_run h1,blk G ts,k1,blk_nodup I.toInvM ts k3 hb.1,fun b hb=>?_,⟨I.os,I.tape,I.output,I.size,fun k hk=>I.block k hk (by rw [hmt];simp)⟩⟩
  obtain ⟨p,hp,hb⟩:=blk_mem hb
  rw [<-own_of_RT (k3 p hp)] at hb
  have:=I.lt _ _ hb
  refine ⟨this.2.elim id fun h=>?_,this.1⟩
  rw [hmt] at h;cases h
theorem fin_mut (O:CfgOk C cf) (I:Inv C st a w G) {rs:List ResultVar} {pas R:Ty} {mu:List Bool} (hmu:mu.any id=true) (hent:entB pas mu=true) (hl:C.args.length=pas.len) (hpr:∀ k,mu.getD k false=true->k < C.pr) {r:den (.pair R (outT pas mu))} (h:Rn (finM cf rs pas mu (.pair R (outT pas mu))) st r) {fn:Func} (hrs:fn.results.toList=rs) :
    ∃ v,(results fn a.tmps).run C.P w=.ok v w/\RetM R pas mu r.1 r.2 C.args C.mt C.w0 v w:=by
  unfold finM at h
  obtain ⟨v,vs,h1,h2,h⟩:=resSV_run O I rs h
  rw [hmu] at h
  simp only [cond_true,dite_true] at h
  rw [Rn_bif] at h
  rcases h with ⟨_,h⟩ | ⟨hm,h⟩
  · exact (Rn_fail.1 h).elim
  simp only [Bool.or_eq_false_iff] at hm
  obtain ⟨x,ts,k1,k2,k3,k4⟩:=list_run I.toInvM h h2
  obtain ⟨ov,o1,o2⟩:=outs_run I mu C.args 0 ((entB_len pas mu hent).trans hl.symm) (fun k hk hmk=>by
    rw [Nat.zero_add]
    have:=I.pa k (hpr k hmk)
    rw [this]) k2
  obtain ⟨y,ts',m1,m2,m3,_⟩:=mv_run I.toInvM ov (outT pas mu) true o2 o1
  simp only [if_true] at m1
  rw [Rn_bif] at m2
  rcases m2 with ⟨hb,m2⟩ | ⟨_,m2⟩
  case inr=>exact (Rn_fail.1 m2).elim
  rw [Rn_ret] at m2
  subst m2
  rw [nodupB_iff] at hb
  have hRt:R.isTup=false:=hm.2
  obtain ⟨c,e,hc⟩:=k4 hRt
  rw [<-hrs] at h1
  refine ⟨_,results_run h1,⟨⟨c,e,?_⟩,⟨blk G ts',TV_OX pas mu hent hl m1,blk_nodup I.toInvM ts' m3 hb,fun b hb=>?_⟩,I.os,I.tape,I.output,I.size,fun b hb hn=>I.block b hb hn⟩⟩
  · rw [<-TC_nil R hm.1.1 hc];exact hc
  · obtain ⟨p,hp,hb⟩:=blk_mem hb
    rw [<-own_of_RT (m3 p hp)] at hb
    have:=I.lt _ _ hb
    exact ⟨this.2.symm,this.1⟩
theorem prot_ok {mu:List Bool} {p:Nat} (h:(mu.drop p).any id=false):∀ k,mu.getD k false=true->k < p:=fun k hk=>by
  rcases Nat.lt_or_ge k p with hlt | hge
  · exact hlt
  · exfalso
    have hm:(mu.drop p)[k - p]?=some true:=by
      rw [List.getElem?_drop,show p + (k - p)=k from by omega]
      simp only [List.getD,Option.getD] at hk
      split at hk
      · rename_i b hb;rw [hb,hk]
      · cases hk
    have:(mu.drop p).any id=true:=List.any_eq_true.2 ⟨true,List.mem_of_getElem? hm,rfl⟩
    rw [h] at this;cases this
theorem run_enter {P:Program} {w:World} {f:FuncId} {fn:Func} {c:Code} {args:Array Value} (hf:P.funcs[f]?=some fn) (hname:(fn.name == "runtime.NumGoroutine")=false) (hb:fn.body=some c):(callFunc f args).run P w=.ok (.enter f args) w:=by
  have h1:fn.name ≠ "runtime.NumGoroutine":=by simpa using hname
  simp [callFunc,hf,h1,hb]
/-- A function's contract: out of its code, and the evaluator's run of it. -/
theorem fn_ok {P:Program} {cf:Cfg} {f:FuncId} {fn:Func} {c:Code} {pas ret:Ty} {mu:List Bool} {en:Env (den ret)} {F:den pas->Option (den ret)} (hf:P.funcs[f]?=some fn) (hname:(fn.name == "runtime.NumGoroutine")=false) (hb:fn.body=some c)
    (hT:∀ t T,cf.ty t=some T->TyOk P cf.ty t T) (hfn:∀ g sp,cf.fn g=some sp->FnOk P g sp) (hfs:∀ g sp,cf.fs g=some sp->ShOk P g sp) (hmp:∀ g p,cf.mp g=some p->MpOk P g p.1 p.2) (hmix:P.follows .mixedOrders=true) (hnt:cf.nt=fn.ntmps) (hpr:cf.prot<=pas.len) (hprm:(mu.drop cf.prot).any id=false) (hlen:pas.len<=cf.nt) (hent:entB pas mu=true)
    (hl:∀ C,C.P=P->CfgOk C cf->LpOk C en c) (hF:∀ x y,F x=some y->evFn cf pas mu ret en fn.results.toList c x=some y):FnOk P f ⟨pas,mu,ret,F⟩:=by
  have main:∀ (w:World) (vals:List Value) (x:den pas) (y:den ret) (bs:List Nat) (R:Value->World->Prop),AX P pas mu w (fun b=>b < w.heap.size/\b ∉ bs) vals x bs->bs.Nodup->F x=some y →
      (∀ st a w' G,Inv ⟨P,w,bs,vals,cf.prot,cf.nt,fun _=>True⟩ st a w' G->CfgOk ⟨P,w,bs,vals,cf.prot,cf.nt,fun _=>True⟩ cf->vals.length=pas.len->Rn (finM cf fn.results.toList pas mu ret) st y->∃ v,(results fn a.tmps).run P w'=.ok v w'/\R v w')->CF P f vals.toArray w R:=by
    intro w vals x y bs R hAX hnd hy hfin
    have O:CfgOk ⟨P,w,bs,vals,cf.prot,cf.nt,fun _=>True⟩ cf:=⟨rfl,rfl,hT,hfn,hfs,hmp⟩
    have hvl:vals.length=pas.len:=by
      obtain ⟨hd,bl,E⟩:=ent_ok pas mu 0 hAX hent
      exact E.len
    obtain ⟨G,I⟩:=entry_inv (nt:=cf.nt) (pr:=cf.prot) hAX hnd hent hlen hpr
    intro o a next Q hn
    rw [run_enter hf hname hb,Oper.upon_enter]
    refine calls_of_wp hf hb ?_
    have hev:=hF x y hy
    unfold evFn at hev
    rw [<-hnt]
    have last:∀ st' a' w' G',(finM cf fn.results.toList pas mu ret).go st' [] (fun _ y=>some y)=some y->Inv ⟨P,w,bs,vals,cf.prot,cf.nt,fun _=>True⟩ st' a' w' G'->∃ v,(results fn a'.tmps).run P w'=.ok v w'/\R v w':=fun st' a' w' G' h I'=>by
      obtain ⟨rd,u,h1,h2⟩:=go_run _ _ h
      simp only [Option.some.injEq] at h2
      subst h2
      exact hfin st' a' w' G' I' O hvl ⟨rd,h1⟩
    refine evC_sound O hmix c (hl _ rfl O) hev I (fun st' a' w' G' h I'=>?_) (fun i st' a' w' G' h I'=>by cases h) (fun st' a' w' G' h I'=>?_)
    · obtain ⟨v,k1,k2⟩:=last st' a' w' G' h I'
      exact ⟨I'.df,v,k1,hn v w' k2⟩
    · obtain ⟨v,k1,k2⟩:=last st' a' w' G' h I'
      exact ⟨I'.df,v,k1,hn v w' k2⟩
  refine ⟨fun hmu=>?_,fun hmu R h=>?_⟩
  · intro w vals x y hx hy
    refine main w vals x y [] _ (AX_of_RX pas mu hmu (RX_congr P pas true (Nat.le_refl _) (fun b hb _=>⟨⟨hb,by simp⟩,rfl⟩) (fun b hb=>hb.1) hx)) List.nodup_nil hy fun st a w' G I O _ hr=>?_
    exact fin_plain O I rfl hmu hr rfl
  · have h:ret=.pair R (outT pas mu):=h
    subst h
    intro w vals x y z bs hAX hnd hy
    exact main w vals x (y,z) bs _ hAX hnd hy fun st a w' G I O hvl hr=>fin_mut O I hmu hent hvl (prot_ok hprm) hr rfl
end
end Go.Proofs.YtmlgfaojfmkdnaaGreatDoor.E
namespace Go.Proofs.YtmlgfaojfmkdnaaGreatDoor.E
open Go Go.RowKit
set_option linter.unusedVariables false
set_option linter.unusedSimpArgs false
def lk {β:Type}:List (Nat × β)->Nat->Option β
  | [],_=>none
  | (k,b) :: l,t=>bif Nat.beq k t then some b else lk l t
theorem lk_mem {β:Type}:∀ (l:List (Nat × β)) {t:Nat} {b:β},lk l t=some b->(t,b) ∈ l
  | [],_,_,h=>by cases h
  | (k,c) :: l,t,b,h=>by
    unfold lk at h
    cases hb:Nat.beq k t
    · rw [hb] at h;exact List.mem_cons_of_mem _ (lk_mem l h)
    · rw [hb] at h
      simp only [cond_true,Option.some.injEq] at h
      have:=Nat.eq_of_beq_eq_true hb
      subst h;subst this;exact List.mem_cons_self
/-- Cells of zeroes, read off. -/
def rep {β:Type} (f:β->Option β):Nat->β->Option β
  | 0,x=>some x
  | n + 1,x=>match f x with | some y=>rep f n y | none=>none
def zcB:Ty->List Value->Option (List Value)
  | .int k,cs=>(match cs with | .int k' n :: r=>bif decide (k'=k) && decide (n=0) then some r else none | _=>none)
  | .bool,cs=>(match cs with | .bool b :: r=>bif b then none else some r | _=>none)
  | .str,cs=>(match cs with | .string s :: r=>bif Nat.beq s.size 0 then some r else none | _=>none)
  | .unit,r=>some r
  | .pair a b,r=>(match zcB a r with | some r'=>zcB b r' | none=>none)
  | .st f,r=>zcB f r
  | .sl _,cs=>(match cs with | .slice none 0 0 :: r=>some r | _=>none)
  | .arr n e,r=>rep (zcB e) n r
  | .tup _,_=>none
  | .ptr _,_=>none
  | .fn _ _,_=>none
theorem bytes_empty {s:ByteArray} (h:s.size=0):s=ByteArray.empty:=by
  cases s with
  | mk d =>
    have:d=#[]:=Array.eq_empty_of_size_eq_zero h
    rw [this];rfl
theorem zcB_ok:∀ (T:Ty) {cs r:List Value},zcB T cs=some r->cs=zc T ++ r
  | .int k,cs,r,h=>by
    simp only [zcB] at h
    split at h
    · rename_i k' n r'
      cases hb:(decide (k'=k) && decide (n=0))
      · rw [hb] at h;cases h
      · rw [hb] at h
        simp only [cond_true,Option.some.injEq] at h
        simp only [Bool.and_eq_true,decide_eq_true_eq] at hb
        rw [hb.1,hb.2,h];rfl
    · cases h
  | .bool,cs,r,h=>by
    simp only [zcB] at h
    split at h
    · rename_i b r'
      cases b
      · simp only [cond_false,Option.some.injEq] at h
        rw [h];rfl
      · cases h
    · cases h
  | .str,cs,r,h=>by
    simp only [zcB] at h
    split at h
    · rename_i s r'
      cases hb:Nat.beq s.size 0
      · rw [hb] at h;cases h
      · rw [hb] at h
        simp only [cond_true,Option.some.injEq] at h
        rw [bytes_empty (Nat.eq_of_beq_eq_true hb),h];rfl
    · cases h
  | .unit,cs,r,h=>by simp only [zcB,Option.some.injEq] at h;subst h;rfl
  | .pair a b,cs,r,h=>by
    simp only [zcB] at h
    split at h
    · rename_i r' h1
      rw [zcB_ok a h1,zcB_ok b h];simp [zc]
    · cases h
  | .st f,cs,r,h=>zcB_ok f (by simpa [zcB] using h)
  | .sl e,cs,r,h=>by
    simp only [zcB] at h
    split at h
    · simp only [Option.some.injEq] at h
      rw [h];rfl
    · cases h
  | .arr n e,cs,r,h=>by
    simp only [zcB] at h
    have key:∀ (n:Nat) {cs r:List Value},rep (zcB e) n cs=some r->cs=(List.replicate n (zc e)).flatten ++ r:=by
      intro n
      induction n with
      | zero=>intro cs r h;simp only [rep,Option.some.injEq] at h;subst h;rfl
      | succ n ih =>
        intro cs r h
        simp only [rep] at h
        split at h
        · rename_i y h1
          rw [zcB_ok e h1,ih h];simp [List.replicate_succ]
        · cases h
    exact key n h
  | .tup _,cs,r,h=>by cases h
  | .ptr _,cs,r,h=>by cases h
  | .fn _ _,cs,r,h=>by cases h
def zChk (T:Ty) (v:Value):Bool:=match v with
  | .agg xs=>isAggT T && (match zcB T xs.toList with | some []=>true | _=>false)
  | v=>!isAggT T && (match zcB T [v] with | some []=>true | _=>false)
theorem zChk_ok {T:Ty} {v:Value} (h:zChk T v=true):v=valOf T (zc T):=by
  have fin:∀ cs,(match zcB T cs with | some []=>true | _=>false)=true->cs=zc T:=fun cs h=>by
    split at h
    · rename_i h1
      have:=zcB_ok T h1
      simpa using this
    · cases h
  unfold zChk at h
  split at h
  · rename_i xs
    rw [Bool.and_eq_true] at h
    rw [valOf_agg h.1,<-fin _ h.2]
  · rw [Bool.and_eq_true,Bool.not_eq_true'] at h
    rw [valOf_one h.1,<-fin _ h.2];rfl
def fsChk (ty:Nat->Option Ty) (f:Ty):List Field->Nat->Bool
  | [],_=>true
  | F :: r,n=>Nat.beq F.offset (off f n) && decide (ty F.type=some (fld f n)) && !(F.name == "_") && fsChk ty f r (n + 1)
theorem fsChk_ok {ty:Nat->Option Ty} {f:Ty}:∀ (l:List Field) (k:Nat),fsChk ty f l k=true->∀ n F,l[n]?=some F->F.offset=off f (k + n)/\ty F.type=some (fld f (k + n))/\F.name ≠ "_"
  | [],_,_,n,F,h=>by simp at h
  | G :: r,k,hc,n,F,h=>by
    simp only [fsChk,Bool.and_eq_true,decide_eq_true_eq,Bool.not_eq_true'] at hc
    cases n with
    | zero =>
      simp only [List.getElem?_cons_zero,Option.some.injEq] at h
      subst h
      exact ⟨Nat.eq_of_beq_eq_true hc.1.1.1,hc.1.1.2,by simpa using hc.1.2⟩
    | succ n =>
      have:=fsChk_ok r (k + 1) hc.2 n F (by simpa using h)
      rwa [show k + 1 + n=k + (n + 1) from by omega] at this
def unChk (ty:Nat->Option Ty):TypeDesc->Ty->Bool
  | .int k,.int k'=>decide (k=k')
  | .bool,.bool=>true
  | .string,.str=>true
  | .struct fs,.st f=>Nat.beq fs.size f.len && fsChk ty f fs.toList 0
  | .slice et,.sl e=>decide (ty et=some e)
  | .array n et,.arr m e=>Nat.beq n m && decide (ty et=some e)
  | .pointer _,.ptr _=>true
  | .func _ _ _,.fn _ _=>true
  | _,_=>false
theorem unChk_ok {ty:Nat->Option Ty} {d:TypeDesc} {T:Ty} (h:unChk ty d T=true):UnOk ty d T:=by
  unfold unChk at h
  split at h
  · exact (of_decide_eq_true h:_=_)
  · trivial
  · trivial
  · rename_i fs f
    rw [Bool.and_eq_true] at h
    refine ⟨Nat.eq_of_beq_eq_true h.1,fun n F hn=>?_⟩
    have:=fsChk_ok fs.toList 0 h.2 n F (by simpa using hn)
    rwa [Nat.zero_add] at this
  · exact (of_decide_eq_true h:_=_)
  · rw [Bool.and_eq_true] at h
    exact ⟨Nat.eq_of_beq_eq_true h.1,of_decide_eq_true h.2⟩
  · trivial
  · trivial
  · cases h
def tyChk (P:Program) (ty:Nat->Option Ty) (t:Nat) (T:Ty):Bool :=
  (match P.info? t with
    | some i=>Nat.beq i.size T.sz && Nat.ble i.bytes 100 && Nat.blt 0 i.bytes && (match zeroSV T with
      | some _=>(match i.zero with | some v=>zChk T v | none=>false)
      | none=>true)
    | none=>false) && (match P.underlying t with | some d=>unChk ty d T | none=>false) && !P.stoodInHeld t
theorem tyChk_ok {P:Program} {ty:Nat->Option Ty} {t:Nat} {T:Ty} (h:tyChk P ty t T=true):TyOk P ty t T:=by
  unfold tyChk at h
  simp only [Bool.and_eq_true,Bool.not_eq_true'] at h
  obtain ⟨⟨h1,h2⟩,h3⟩:=h
  refine ⟨?_,?_,h3⟩
  · split at h1
    · rename_i i hi
      simp only [Bool.and_eq_true] at h1
      refine ⟨i,hi,Nat.eq_of_beq_eq_true h1.1.1.1,Nat.le_of_ble_eq_true h1.1.1.2,Nat.le_of_ble_eq_true h1.1.2,fun z hz=>?_⟩
      have h4:=h1.2
      rw [hz] at h4
      simp only at h4
      split at h4
      · rename_i v hv
        rw [hv,zChk_ok h4]
      · cases h4
    · cases h1
  · split at h2
    · rename_i d hd
      exact ⟨d,hd,unChk_ok h2⟩
    · cases h2
theorem tys_ok {P:Program} {l:List (Nat × Ty)} (h:(l.all fun p=>tyChk P (lk l) p.1 p.2)=true):∀ t T,lk l t=some T->TyOk P (lk l) t T:=fun t T ht=>by
  rw [List.all_eq_true] at h
  exact tyChk_ok (h _ (lk_mem l ht))
def bodyOf (f:Func):Code:=f.body.getD .skip
theorem CF.calls {P:Program} {f:FuncId} {fn:Func} {c:Code} {args:Array Value} {w:World} {G:Value->World->Prop} (h:CF P f args w G) (hf:P.funcs[f]?=some fn) (hname:(fn.name == "runtime.NumGoroutine")=false) (hb:fn.body=some c) :
    Calls P f args w fun e w'=>∃ v,e=.returned v/\G v w':=by
  have k:=h { dst:=some 0,op:=default,type:=0,pos := "",after:=#[],guard:=none } ⟨#[undef],[]⟩ (fun a w'=>G (a.tmps.getD 0 undef) w') (fun _ _ _=>False) (fun v w' g=>by simpa [Act.put] using g)
  rw [run_enter hf hname hb,Oper.upon_enter] at k
  refine k.mono fun e w' he=>?_
  cases e with
  | returned v=>exact ⟨v,rfl,by simpa [Act.put] using he⟩
  | panicked ch=>exact he.elim
  | outgrown=>obtain ⟨_,_,h⟩:=he;exact h.elim
end Go.Proofs.YtmlgfaojfmkdnaaGreatDoor.E
namespace Go.Proofs.YtmlgfaojfmkdnaaGreatDoor.E
open Go Go.RowKit Go.ChangeShapes Go.WideShapes Go.ChangeAt
set_option linter.unusedVariables false
set_option linter.unusedSimpArgs false
/-- Types of data: numbers, bools, strings, structs and slices of such. -/
def dataB:Ty->Bool
  | .int _=>true
  | .bool=>true
  | .str=>true
  | .unit=>true
  | .pair a b=>dataB a && dataB b
  | .st f=>f.isList && dataB f
  | .sl e=>dataB e && Nat.blt 0 e.sz
  | _=>false
/-- What is known of a value that reads as data. -/
def okD:(T:Ty)->den T->Prop
  | .int k,x=>(Lit.int k x).wf=true
  | .str,s=>(s:ByteArray).size<=maxLen
  | .pair a b,x=>okD a x.1/\okD b x.2
  | .st f,x=>okD f x
  | .sl e,l=>(l:List (den e)).length<=maxLen/\∀ y ∈ (l:List (den e)),okD e y
  | _,_=>True
section
variable {P:Program} {ty:Nat->Option Ty} {w:World}
/-- A type's values open. -/
def OpensD (P:Program) (w:World) (t:TypeId) (T:Ty):Prop :=
  ∀ (H:Type) (enc:TypeId × Value->H) (spare:Nat->Bool) (held:Bool) (fuel:Nat) (cs:List Value) (x:DataW H × List MemPlace),DataW.trod enc P w 0 spare held fuel t cs=some x->∃ y:den T,RX P T false w (fun b=>b < w.heap.size) cs y/\okD T y
theorem opens_fields {H:Type} {enc:TypeId × Value->H} {spare:Nat->Bool} {held:Bool} {n:Nat} (hO:∀ t T,ty t=some T->TyOk P ty t T):∀ (F:Ty) (fs:List Field) (base:Nat) (cs:List Value) (xs:List (DataW H × List MemPlace)),F.isList=true->fs.length=F.len->xs.length=fs.length →
    (∀ (i:Nat) (f:Field),fs[i]?=some f->f.offset=base + off F i/\ty f.type=some (fld F i))->(∀ (i:Nat) (f:Field),fs[i]?=some f->OpensD P w f.type (fld F i)) →
    (∀ (i:Nat) (f:Field),fs[i]?=some f->DataW.trod enc P w 0 spare held n f.type ((cs.drop f.offset).take (P.cellsOf f.type))=xs[i]?)->cs.length=base + F.sz->∃ y:den F,RX P F false w (fun b=>b < w.heap.size) (cs.drop base) y/\okD F y
  | .unit,fs,base,cs,xs,_,hl,_,_,_,_,hcs=>by
    refine ⟨(),?_,trivial⟩
    show cs.drop base=[]
    exact List.drop_eq_nil_of_le (by rw [hcs];exact Nat.le_refl _)
  | .pair A B,fs,base,cs,xs,hi,hl,hx,hf,hop,ht,hcs=>by
    cases fs with
    | nil=>simp [Ty.len] at hl
    | cons f fs =>
      cases xs with
      | nil=>simp at hx
      | cons x xs =>
        obtain ⟨f1,f2⟩:=hf 0 f rfl
        have h0:=ht 0 f rfl
        have hsz:P.cellsOf f.type=A.sz:=(hO _ _ f2).cellsOf
        rw [f1,hsz] at h0
        obtain ⟨y,y1,y2⟩:=hop 0 f rfl H enc spare held n _ x h0
        have hs:(Ty.pair A B).sz=A.sz + B.sz:=rfl
        obtain ⟨z,z1,z2⟩:=opens_fields hO B fs (base + A.sz) cs xs hi (by simpa [Ty.len] using hl) (by simpa using hx) (fun i g hg=>by
          obtain ⟨g1,g2⟩:=hf (i + 1) g (by simpa using hg)
          exact ⟨by rw [g1];simp only [off];omega,g2⟩) (fun i g hg=>hop (i + 1) g (by simpa using hg)) (fun i g hg=>by simpa using ht (i + 1) g (by simpa using hg)) (by rw [hcs,hs];omega)
        refine ⟨(y,z),⟨_,_,?_,y1,z1⟩,y2,z2⟩
        show cs.drop base=(cs.drop (base + 0)).take A.sz ++ cs.drop (base + A.sz)
        rw [Nat.add_zero,<-List.drop_drop,List.take_append_drop]
  | .int _,_,_,_,_,hi,_,_,_,_,_,_=>by cases hi
  | .bool,_,_,_,_,hi,_,_,_,_,_,_=>by cases hi
  | .str,_,_,_,_,hi,_,_,_,_,_,_=>by cases hi
  | .st _,_,_,_,_,hi,_,_,_,_,_,_=>by cases hi
  | .tup _,_,_,_,_,hi,_,_,_,_,_,_=>by cases hi
  | .sl _,_,_,_,_,hi,_,_,_,_,_,_=>by cases hi
  | .arr _ _,_,_,_,_,hi,_,_,_,_,_,_=>by cases hi
  | .ptr _,_,_,_,_,hi,_,_,_,_,_,_=>by cases hi
  | .fn _ _,_,_,_,_,hi,_,_,_,_,_,_=>by cases hi
theorem no_unit {t:TypeId} (h:TyOk P ty t .unit):False:=by
  obtain ⟨d,_,hu⟩:=h.und
  cases d <;> exact hu
theorem no_pair {A B:Ty} {t:TypeId} (h:TyOk P ty t (.pair A B)):False:=by
  obtain ⟨d,_,hu⟩:=h.und
  cases d <;> exact hu
theorem opens_sl (hO:∀ t T,ty t=some T->TyOk P ty t T) {e:Ty} (hs:0 < e.sz) {t:TypeId} (ht:ty t=some (.sl e)) (he:∀ et,ty et=some e->OpensD P w et e):OpensD P w t (.sl e):=by
  intro H enc spare held fuel cs x h
  obtain ⟨d,hd,hu⟩:=(hO _ _ ht).und
  cases d <;> simp only [UnOk] at hu
  rename_i et
  have hc:P.cellsOf et=e.sz:=(hO _ _ hu).cellsOf
  rcases Go.Deep.open_slice hd h with ⟨rfl,_⟩ | ⟨a,len,cap,m,n,D,Pl,rfl,_,hl,hm,hmm,_,hx⟩
  · exact ⟨([]:List (den e)),⟨none,0,0,rfl,rfl,Nat.le_refl _,.inl rfl⟩,Nat.zero_le _,fun y hy=>by cases hy⟩
  · have hlm:len<=m:=by rw [hmm];split <;> omega
    have hex:∀ i,i < len->∃ y:den e,(∃ c:List Value,c.length=e.sz/\RX P e false w (fun b=>b < w.heap.size) c y/\∀ j,j < e.sz->w.cell? (a.add (i * e.sz + j))=c[j]?)/\okD e y:=fun i hi=>by
      obtain ⟨cs',h1,h2⟩:=hx i (by omega)
      rw [hc] at h1
      obtain ⟨_,h3,h4⟩:=World.cells?_some h1
      obtain ⟨y,k1,k2⟩:=he et hu H enc spare held n cs' _ h2
      exact ⟨y,⟨cs',h3,k1,fun j hj=>by rw [<-Go.Deep.add_add,h4 j hj]⟩,k2⟩
    by_cases h0:len=0
    · subst h0
      exact ⟨([]:List (den e)),⟨some a,0,cap,rfl,rfl,hl,.inl rfl⟩,Nat.zero_le _,fun y hy=>by cases hy⟩
    · have hY:∃ Y:Nat->den e,∀ i,i < len->(∃ c:List Value,c.length=e.sz/\RX P e false w (fun b=>b < w.heap.size) c (Y i)/\∀ j,j < e.sz->w.cell? (a.add (i * e.sz + j))=c[j]?)/\okD e (Y i) :=
        ⟨fun i=>if h:i < len then (hex i h).choose else dflt e,fun i hi=>by simp only [dif_pos hi];exact (hex i hi).choose_spec⟩
      obtain ⟨Y,hY⟩:=hY
      -- the block
      have cellb:∀ k,k < len * e.sz->∃ u,w.cell? (a.add k)=some u:=fun k hk=>by
        have hi:k / e.sz < len:=Nat.div_lt_of_lt_mul (by rw [Nat.mul_comm];exact hk)
        obtain ⟨⟨c,c1,_,c3⟩,_⟩:=hY (k / e.sz) hi
        have hj:=Nat.mod_lt k hs
        have:=c3 (k % e.sz) hj
        rw [Nat.mul_comm,Nat.div_add_mod] at this
        exact ⟨c[k % e.sz]'(by omega),by rw [this,List.getElem?_eq_getElem]⟩
      have hpos:0 < len * e.sz:=Nat.mul_pos (by omega) hs
      obtain ⟨u0,hu0⟩:=cellb 0 hpos
      have ha:a.add 0=a:=by simp [Addr.add]
      rw [ha] at hu0
      unfold World.cell? at hu0
      split at hu0
      case h_2=>cases hu0
      rename_i arr bt fz hb
      have hspot:a.spot=none:=by
        cases hsp:a.spot with
        | none=>rfl
        | some q=>rw [hsp] at hu0;simp at hu0
      have hadd:∀ k,w.cell? (a.add k)=arr[a.off + k]?:=fun k=>by
        unfold Addr.add
        split
        · rename_i hk;subst hk;simp [World.cell?,hb,hspot]
        · simp [World.cell?,hb]
      have hin:a.off + len * e.sz<=arr.size:=by
        obtain ⟨u,hu⟩:=cellb (len * e.sz - 1) (by omega)
        rw [hadd] at hu
        have:=(Array.getElem?_eq_some_iff.1 hu).1
        omega
      have hlen:((List.range len).map Y).length=len:=by simp
      have hget:∀ i y,((List.range len).map Y)[i]?=some y->i < len/\y=Y i:=fun i y hy=>by
        rw [List.getElem?_map] at hy
        by_cases hi:i < len
        · rw [List.getElem?_range hi] at hy;exact ⟨hi,by simpa using hy.symm⟩
        · rw [List.getElem?_eq_none (by simpa using hi)] at hy;cases hy
      refine ⟨(List.range len).map Y,⟨some a,len,cap,rfl,hlen.symm,hl,.inr ⟨a.block,a.off,arr,bt,fz,by rw [<-hspot],(Array.getElem?_eq_some_iff.1 hb).1,hb,hin,fun i y hy=>?_⟩⟩,by rw [hlen];omega,fun y hy=>?_⟩
      · obtain ⟨hi,rfl⟩:=hget i y hy
        obtain ⟨⟨c,c1,c2,c3⟩,_⟩:=hY i hi
        have e1:seg arr.toList (a.off + i * e.sz) e.sz=c:=by
          apply List.ext_getElem?
          intro j
          rw [seg_get]
          by_cases hj:j < e.sz
          · rw [if_pos hj,<-c3 j hj,hadd,Array.getElem?_toList];congr 1;omega
          · rw [if_neg hj,List.getElem?_eq_none (by omega)]
        rw [e1];exact c2
      · obtain ⟨i,hi,rfl⟩:=List.mem_map.1 hy
        exact (hY i (List.mem_range.1 hi)).2
theorem opensAll (hO:∀ t T,ty t=some T->TyOk P ty t T):∀ T:Ty,(∀ t,ty t=some T->dataB T=true->OpensD P w t T)/\(∀ i t,ty t=some (fld T i)->dataB T=true->OpensD P w t (fld T i))
  | .int k=>⟨fun t ht _ H enc spare held fuel cs x h=>by
      obtain ⟨d,hd,hu⟩:=(hO _ _ ht).und
      cases d <;> simp only [UnOk] at hu
      subst hu
      obtain ⟨n,rfl,_,hw⟩:=DataW.trod_int hd h
      exact ⟨n,rfl,hw⟩,fun i t ht _=>(no_unit (hO t .unit (by rw [ht];cases i <;> rfl))).elim⟩
  | .bool=>⟨fun t ht _ H enc spare held fuel cs x h=>by
      obtain ⟨d,hd,hu⟩:=(hO _ _ ht).und
      cases d <;> simp only [UnOk] at hu
      obtain ⟨b,rfl,_⟩:=DataW.trod_bool hd h
      exact ⟨b,rfl,trivial⟩,fun i t ht _=>(no_unit (hO t .unit (by rw [ht];cases i <;> rfl))).elim⟩
  | .str=>⟨fun t ht _ H enc spare held fuel cs x h=>by
      obtain ⟨d,hd,hu⟩:=(hO _ _ ht).und
      cases d <;> simp only [UnOk] at hu
      obtain ⟨s,rfl,_,hs⟩:=DataW.trod_string hd h
      exact ⟨s,rfl,hs⟩,fun i t ht _=>(no_unit (hO t .unit (by rw [ht];cases i <;> rfl))).elim⟩
  | .unit=>⟨fun t ht _=>(no_unit (hO _ _ ht)).elim,fun i t ht _=>(no_unit (hO t .unit (by rw [ht];cases i <;> rfl))).elim⟩
  | .pair A B=>⟨fun t ht _=>(no_pair (hO _ _ ht)).elim,fun i t ht hd=>by
      simp only [dataB,Bool.and_eq_true] at hd
      cases i with
      | zero=>exact (opensAll hO A).1 t ht hd.1
      | succ i=>exact (opensAll hO B).2 i t ht hd.2⟩
  | .st f=>⟨fun t ht hd H enc spare held fuel cs x h=>by
      obtain ⟨d,hdd,hu⟩:=(hO _ _ ht).und
      cases d <;> simp only [UnOk] at hu
      rename_i fs
      simp only [dataB,Bool.and_eq_true] at hd
      obtain ⟨xs,n,_,_,hl,hxl,hf⟩:=DataW.trod_struct hdd h
      have hsz:cs.length=f.sz:=by rw [hl];exact (hO _ _ ht).cellsOf
      obtain ⟨y,y1,y2⟩:=opens_fields (n:=n) (enc:=enc) (spare:=spare) (held:=held) (w:=w) hO f fs.toList 0 cs xs hd.1 (by simpa using hu.1) (by simpa using hxl) (fun i g hg=>by
        have:=hu.2 i g (by simpa using hg)
        exact ⟨by rw [this.1,Nat.zero_add],this.2.1⟩) (fun i g hg=>(opensAll hO f).2 i g.type (hu.2 i g (by simpa using hg)).2.1 hd.2) (fun i g hg=>hf i g (by simpa using hg)) (by rw [hsz,Nat.zero_add])
      exact ⟨y,y1,y2⟩,fun i t ht _=>(no_unit (hO t .unit (by rw [ht];cases i <;> rfl))).elim⟩
  | .sl e=>⟨fun t ht hd=>by
      simp only [dataB,Bool.and_eq_true] at hd
      exact opens_sl hO (Nat.le_of_ble_eq_true hd.2) ht fun et het=>(opensAll hO e).1 et het hd.1,fun i t ht _=>(no_unit (hO t .unit (by rw [ht];cases i <;> rfl))).elim⟩
  | .tup _=>⟨fun t ht hd=>(by cases hd),fun i t ht hd=>(by cases hd)⟩
  | .arr _ _=>⟨fun t ht hd=>(by cases hd),fun i t ht hd=>(by cases hd)⟩
  | .ptr _=>⟨fun t ht hd=>(by cases hd),fun i t ht hd=>(by cases hd)⟩
  | .fn _ _=>⟨fun t ht hd=>(by cases hd),fun i t ht hd=>(by cases hd)⟩
end
end Go.Proofs.YtmlgfaojfmkdnaaGreatDoor.E
namespace Go.Proofs.YtmlgfaojfmkdnaaGreatDoor.E
open Go Go.RowKit
set_option linter.unusedVariables false
set_option linter.unusedSimpArgs false
theorem fnOk_none {P:Program} {f:Nat} {pas ret:Ty} {mu:List Bool}:FnOk P f ⟨pas,mu,ret,fun _=>none⟩ :=
  ⟨fun _ w vs x y _ h=>(by cases h),fun _ R h=>(by have h:ret=.pair R (outT pas mu):=h;subst h;intro w vs x y z bs _ _ h;cases h)⟩
/-- A call of a function with a body, told as the kit tells it. -/
theorem cf_of_calls {P:Program} {f:FuncId} {fn:Func} {c:Code} {args:Array Value} {w:World} {G:Value->World->Prop} (hf:P.funcs[f]?=some fn) (hname:(fn.name == "runtime.NumGoroutine")=false) (hb:fn.body=some c)
    (h:Calls P f args w fun e w'=>∃ v,e=.returned v/\G v w'):CF P f args w G:=by
  intro o a next Q hn
  rw [run_enter hf hname hb,Oper.upon_enter]
  refine h.mono ?_
  rintro e w' ⟨v,rfl,g⟩
  exact hn v w' g
/-- A call that the model answers at once. -/
theorem cf_of_value {P:Program} {f:FuncId} {args:Array Value} {w w':World} {v:Value} {G:Value->World->Prop} (h:(callFunc f args).run P w=.ok (.value v) w') (hG:G v w'):CF P f args w G:=by
  intro o a next Q hn
  rw [h,Oper.upon_value]
  exact hn v w' hG
theorem ret_plain {R:Ty} (hm:R.mem=false) (hp:R.isPU=false) (ht:R.isTup=false) {y:den R} {w w':World} {c:List Value} (h:TC R w' c y []) (hb:Below w.heap.size w w'):Ret R y w (valOf R c) w':=by
  refine ⟨[],?_,List.nodup_nil,fun b hb=>(by cases hb),hb⟩
  cases R <;> first | exact ⟨c,rfl,h⟩ | exact h.elim | exact absurd hp (by decide) | exact absurd ht (by decide) | exact absurd hp (fun h=>by cases h) | exact absurd ht (fun h=>by cases h)
end Go.Proofs.YtmlgfaojfmkdnaaGreatDoor.E
