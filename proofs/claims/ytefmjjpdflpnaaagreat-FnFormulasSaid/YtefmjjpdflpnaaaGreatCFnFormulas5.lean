/-
  The evaluator's functions are sound, first part: the state at a function's entry. Conditions: those of each theorem.
-/
import Derived.Test.YtefmjjpdflpnaaaGreatCFnFormulas4
namespace Go.Proofs.YtefmjjpdflpnaaaGreat.E
open Go Go.RowKit
set_option linter.unusedVariables false
set_option linter.unusedSimpArgs false
section
variable {P:Program} {w:World}
structure EntOk (P:Program) (w:World) (S:Nat->Prop) (A:Ty) (i:Nat) (U0:U) (vals:List Value) (bs:List Nat) (hd:Nat->Value) (bl:Nat->List Nat):Prop where
  ents:∀ p ∈ U0,(∃ j v,i<=j/\j < i + A.len/\p=(sk j,Cell.sv v))\/(∃ id e l,8 * i<=id/\id < 8 * (i + A.len)/\p=(rk id,Cell.root 0 0 e l)/\TC (.sl e) w [hd id] l (bl id))
  keys:(U0.map (·.1)).Nodup
  bls:∀ id e l,(rk id,Cell.root 0 0 e l) ∈ U0->(∀ b ∈ bl id,b ∈ bs)/\(bs.Nodup->(bl id).Nodup)
  dj:bs.Nodup->∀ id e l id' e' l',(rk id,Cell.root 0 0 e l) ∈ U0->(rk id',Cell.root 0 0 e' l') ∈ U0->∀ b,b ∈ bl id->b ∈ bl id'->id=id'
  vl:∀ j v,(sk j,Cell.sv v) ∈ U0->∀ (st':St) (G':Gh) (S':Nat->Prop),(∀ p ∈ U0,st' p.1=p.2)->(∀ id,8 * i<=id->id < 8 * (i + A.len)->G'.hd (rk id)=hd id)->(∀ b,S b->S' b)->(∀ b,S' b->b < w.heap.size)->SW P st' G' w S' v (vals.getD (j - i) undef)
  len:vals.length=A.len
theorem bl_nodup {bl:Nat->List Nat}:∀ (l:List Nat),l.Nodup->((l.map bl).flatten).Nodup->(∀ i ∈ l,(bl i).Nodup)/\(∀ i ∈ l,∀ j ∈ l,∀ b,b ∈ bl i->b ∈ bl j->i=j)
  | [],_,_=>⟨fun i hi=>(by cases hi),fun i hi=>(by cases hi)⟩
  | x :: l,hn,hf=>by
    simp only [List.nodup_cons] at hn
    rw [List.map_cons,List.flatten_cons,List.nodup_append] at hf
    obtain ⟨h1,h2⟩:=bl_nodup l hn.2 hf.2.1
    have hx:∀ j ∈ l,∀ b,b ∈ bl x->b ∈ bl j->False:=fun j hj b hb hb'=>hf.2.2 b hb b (List.mem_flatten.2 ⟨bl j,List.mem_map.2 ⟨j,hj,rfl⟩,hb'⟩) rfl
    refine ⟨fun i hi=>?_,fun i hi j hj b hb hb'=>?_⟩
    · rcases List.mem_cons.1 hi with rfl | hi
      · exact hf.1
      · exact h1 i hi
    · rcases List.mem_cons.1 hi with e1 | hi' <;> rcases List.mem_cons.1 hj with e2 | hj'
      · rw [e1,e2]
      · exact (hx j hj' b (e1 ▸ hb) hb').elim
      · exact (hx i hi' b (e2 ▸ hb') hb).elim
      · exact h2 i hi' j hj' b hb hb'
/-- One parameter. -/
theorem ent_one {S:Nat->Prop} {A:Ty} {m:Bool} {c:List Value} {x:den A} {b1:List Nat} (i:Nat) (h:if m=true then TC A w c x b1 else b1=[]/\RX P A false w S c x) (hok:(!m || (A.ownable && Nat.ble (nroots A) 8 && !A.isTup && !A.isPU))=true) :
    ∃ hd bl,EntOk P w S (.pair A .unit) i (bif m then (let p:=own A x (8 * i) (fun _=>0);(sk i,.sv p.1) :: p.2.1) else [(sk i,.sv (.val A x))]) [valOf A c] b1 hd bl:=by
  cases m with
  | false =>
    simp only [Bool.false_eq_true,if_false] at h
    obtain ⟨rfl,h⟩:=h
    refine ⟨fun _=>undef,fun _=>[],⟨fun p hp=>?_,by simp,fun id e l hm=>?_,fun _ id e l id' e' l' hm=>?_,fun j v hv st' G' S' h1 h2 h3 h4=>?_,rfl⟩⟩
    · simp only [cond_false,List.mem_singleton] at hp
      exact .inl ⟨i,_,Nat.le_refl _,by simp [Ty.len],hp⟩
    · simp at hm
    · simp at hm
    · simp only [cond_false,List.mem_singleton,Prod.mk.injEq,Cell.sv.injEq] at hv
      obtain ⟨e,rfl⟩:=hv
      have e:=sk_inj e
      subst e
      rw [Nat.sub_self]
      exact ⟨c,rfl,RX_congr P A false (Nat.le_refl _) (fun b hb _=>⟨h3 b hb,rfl⟩) h4 h⟩
  | true =>
    simp only [if_true] at h
    simp only [Bool.not_true,Bool.false_or,Bool.and_eq_true,Bool.not_eq_true'] at hok
    obtain ⟨⟨⟨h1,h2⟩,h3⟩,h4⟩:=hok
    have h2:nroots A<=8:=Nat.le_of_ble_eq_true h2
    obtain ⟨hd,bl,Q⟩:=own_ok (P:=P) (w':=w) (gn:=fun _=>0) A false x c b1 (8 * i) h h1
    have hq5:=Q.p5
    have hqk:((own A x (8 * i) (fun _=>0)).2.1.map (·.1)).Nodup:=by
      rw [Q.p3]
      exact List.pairwise_map.2 (List.Pairwise.imp (fun h e=>h (rk_inj e)) (List.nodup_range' (s:=8 * i) (n:=(own A x (8 * i) (fun _=>0)).2.2 - 8 * i)))
    have hid:∀ id e l,(rk id,Cell.root 0 0 e l) ∈ (own A x (8 * i) (fun _=>0)).2.1->id ∈ List.range' (8 * i) ((own A x (8 * i) (fun _=>0)).2.2 - 8 * i):=fun id e l hm=>by
      obtain ⟨id',e',l',k1,k2,k3,_⟩:=Q.p1 _ hm
      simp only [Prod.mk.injEq] at k3
      have:=rk_inj k3.1
      subst this
      exact List.mem_range'_1.2 (by omega)
    have hmem:∀ p,p ∈ (sk i,Cell.sv (own A x (8 * i) (fun _=>0)).1) :: (own A x (8 * i) (fun _=>0)).2.1->p=(sk i,Cell.sv (own A x (8 * i) (fun _=>0)).1)\/p ∈ (own A x (8 * i) (fun _=>0)).2.1:=fun p hp=>List.mem_cons.1 hp
    refine ⟨hd,bl,⟨fun p hp=>?_,?_,fun id e l hm=>?_,fun hn id e l id' e' l' hm hm' b hb hb'=>?_,fun j v hv st' G' S' k1 k2 k3 k4=>?_,rfl⟩⟩
    · rcases hmem p hp with hp | hp
      · exact .inl ⟨i,_,Nat.le_refl _,by simp [Ty.len],hp⟩
      · obtain ⟨id,e,l,k1,k2,k3,k4⟩:=Q.p1 p hp
        exact .inr ⟨id,e,l,k1,by simp only [Ty.len];omega,k3,k4⟩
    · show (((sk i,Cell.sv (own A x (8 * i) (fun _=>0)).1) :: (own A x (8 * i) (fun _=>0)).2.1).map (·.1)).Nodup
      rw [List.map_cons,List.nodup_cons]
      refine ⟨fun hm=>?_,hqk⟩
      obtain ⟨p,hp,e⟩:=List.mem_map.1 hm
      obtain ⟨id,e',l,_,_,k3,_⟩:=Q.p1 p hp
      rw [k3] at e
      exact sk_ne_rk _ _ e.symm
    · rcases hmem _ hm with hm | hm
      · simp at hm
      · have hi:=hid id e l hm
        refine ⟨fun b hb=>by rw [Q.p2];exact List.mem_flatten.2 ⟨bl id,List.mem_map.2 ⟨id,hi,rfl⟩,hb⟩,fun hn=>?_⟩
        rw [Q.p2] at hn
        exact (bl_nodup _ List.nodup_range' hn).1 id hi
    · rcases hmem _ hm with hm | hm
      · simp at hm
      · rcases hmem _ hm' with hm' | hm'
        · simp at hm'
        · rw [Q.p2] at hn
          exact (bl_nodup _ List.nodup_range' hn).2 id (hid id e l hm) id' (hid id' e' l' hm') b hb hb'
    · rcases hmem _ hv with hv | hv
      · simp only [Prod.mk.injEq,Cell.sv.injEq] at hv
        obtain ⟨e,rfl⟩:=hv
        have e:=sk_inj e
        subst e
        rw [Nat.sub_self]
        show SW P st' G' w S' _ (valOf A c)
        rw [<-Q.p6 rfl]
        exact SW_of (Q.p4 st' G' S' (fun p hp=>k1 p (List.mem_cons_of_mem _ hp)) (fun id j1 j2=>k2 id j1 (by simp only [Ty.len];omega)))
      · obtain ⟨id,e',l,_,_,k3,_⟩:=Q.p1 _ hv
        simp at k3
theorem ent_ok {S:Nat->Prop}:∀ (A:Ty) (mu:List Bool) (i:Nat) {vals:List Value} {x:den A} {bs:List Nat},AX P A mu w S vals x bs->entB A mu=true->∃ hd bl,EntOk P w S A i (argL A mu x i) vals bs hd bl
  | .unit,mu,i,vals,x,bs,h,hok=>by
    obtain ⟨rfl,rfl⟩:=h
    exact ⟨fun _=>undef,fun _=>[],⟨fun p hp=>(by cases hp),List.nodup_nil,fun id e l hm=>(by cases hm),fun _ id e l id' e' l' hm=>(by cases hm),fun j v hv=>(by cases hv),rfl⟩⟩
  | .pair A B,mu,i,vals,x,bs,h,hok=>by
    obtain ⟨c,r,b1,b2,rfl,rfl,h1,h2⟩:=h
    cases mu with
    | nil=>cases hok
    | cons m mu =>
      simp only [entB,Bool.and_eq_true] at hok
      obtain ⟨hd1,bl1,E1⟩:=ent_one (P:=P) (S:=S) (m:=m) i h1 hok.1
      obtain ⟨hd2,bl2,E2⟩:=ent_ok B mu (i + 1) h2 hok.2
      have hU:argL (.pair A B) (m :: mu) x i=(bif m then (let p:=own A x.1 (8 * i) (fun _=>0);(sk i,.sv p.1) :: p.2.1) else [(sk i,.sv (.val A x.1))]) ++ argL B mu x.2 (i + 1):=rfl
      rw [hU]
      generalize (bif m then (let p:=own A x.1 (8 * i) (fun _=>0);(sk i,Cell.sv p.1) :: p.2.1) else [(sk i,Cell.sv (.val A x.1))])=U1 at E1
      have l1:(Ty.pair A .unit).len=1:=rfl
      have l2:(Ty.pair A B).len=B.len + 1:=rfl
      have r1:∀ id e l,(rk id,Cell.root 0 0 e l) ∈ U1->8 * i<=id/\id < 8 * (i + 1):=fun id e l hm=>by
        rcases E1.ents _ hm with ⟨j,v,_,_,e'⟩ | ⟨id',e',l',k1,k2,k3,_⟩
        · simp at e'
        · simp only [Prod.mk.injEq] at k3
          have:=rk_inj k3.1
          rw [l1] at k2;omega
      have r2:∀ id e l,(rk id,Cell.root 0 0 e l) ∈ argL B mu x.2 (i + 1)->8 * (i + 1)<=id/\id < 8 * (i + 1 + B.len):=fun id e l hm=>by
        rcases E2.ents _ hm with ⟨j,v,_,_,e'⟩ | ⟨id',e',l',k1,k2,k3,_⟩
        · simp at e'
        · simp only [Prod.mk.injEq] at k3
          have:=rk_inj k3.1
          omega
      refine ⟨fun id=>if id < 8 * (i + 1) then hd1 id else hd2 id,fun id=>if id < 8 * (i + 1) then bl1 id else bl2 id,⟨fun p hp=>?_,?_,fun id e l hm=>?_,fun hn id e l id' e' l' hm hm' b hb hb'=>?_,fun j v hv st' G' S' k1 k2 k3 k4=>?_,by simp [E2.len,l2]⟩⟩
      · rcases List.mem_append.1 hp with hp | hp
        · rcases E1.ents p hp with ⟨j,v,k1,k2,k3⟩ | ⟨id,e,l,k1,k2,k3,k4⟩
          · exact .inl ⟨j,v,k1,by rw [l1] at k2;rw [l2];omega,k3⟩
          · rw [l1] at k2
            exact .inr ⟨id,e,l,k1,by rw [l2];omega,k3,by simp only [if_pos k2];exact k4⟩
        · rcases E2.ents p hp with ⟨j,v,k1,k2,k3⟩ | ⟨id,e,l,k1,k2,k3,k4⟩
          · exact .inl ⟨j,v,by omega,by rw [l2];omega,k3⟩
          · have:¬ id < 8 * (i + 1):=by omega
            exact .inr ⟨id,e,l,by omega,by rw [l2];omega,k3,by simp only [if_neg this];exact k4⟩
      · rw [List.map_append]
        refine nodup_app E1.keys E2.keys fun k h1 h2=>?_
        obtain ⟨p,hp,rfl⟩:=List.mem_map.1 h1
        obtain ⟨q,hq,e⟩:=List.mem_map.1 h2
        have e:q.1=p.1:=e
        rcases E1.ents p hp with ⟨j,v,k1,k2,k3⟩ | ⟨id,e1,l,k1,k2,k3,k4⟩ <;> rcases E2.ents q hq with ⟨j',v',j1,j2,j3⟩ | ⟨id',e2,l',j1,j2,j3,j4⟩ <;> rw [k3,j3] at e <;> rw [l1] at k2
        · have:=sk_inj e;omega
        · exact sk_ne_rk _ _ e.symm
        · exact sk_ne_rk _ _ e
        · have:=rk_inj e;omega
      · rcases List.mem_append.1 hm with hm | hm
        · have:=r1 id e l hm
          simp only [if_pos this.2]
          obtain ⟨k1,k2⟩:=E1.bls id e l hm
          exact ⟨fun b hb=>List.mem_append_left _ (k1 b hb),fun hn=>k2 (List.nodup_append.1 hn).1⟩
        · have:=r2 id e l hm
          simp only [if_neg (show ¬ id < 8 * (i + 1) by omega)]
          obtain ⟨k1,k2⟩:=E2.bls id e l hm
          exact ⟨fun b hb=>List.mem_append_right _ (k1 b hb),fun hn=>k2 (List.nodup_append.1 hn).2.1⟩
      · rcases List.mem_append.1 hm with hm | hm <;> rcases List.mem_append.1 hm' with hm' | hm'
        · have q1:=r1 id e l hm
          have q2:=r1 id' e' l' hm'
          simp only [if_pos q1.2] at hb
          simp only [if_pos q2.2] at hb'
          exact E1.dj (List.nodup_append.1 hn).1 id e l id' e' l' hm hm' b hb hb'
        · have q1:=r1 id e l hm
          have q2:=r2 id' e' l' hm'
          simp only [if_pos q1.2] at hb
          simp only [if_neg (show ¬ id' < 8 * (i + 1) by omega)] at hb'
          exact ((List.nodup_append.1 hn).2.2 b ((E1.bls id e l hm).1 b hb) b ((E2.bls id' e' l' hm').1 b hb') rfl).elim
        · have q1:=r2 id e l hm
          have q2:=r1 id' e' l' hm'
          simp only [if_neg (show ¬ id < 8 * (i + 1) by omega)] at hb
          simp only [if_pos q2.2] at hb'
          exact ((List.nodup_append.1 hn).2.2 b ((E1.bls id' e' l' hm').1 b hb') b ((E2.bls id e l hm).1 b hb) rfl).elim
        · have q1:=r2 id e l hm
          have q2:=r2 id' e' l' hm'
          simp only [if_neg (show ¬ id < 8 * (i + 1) by omega)] at hb
          simp only [if_neg (show ¬ id' < 8 * (i + 1) by omega)] at hb'
          exact E2.dj (List.nodup_append.1 hn).2.1 id e l id' e' l' hm hm' b hb hb'
      · rcases List.mem_append.1 hv with hv | hv
        · have hj:j=i:=by
            rcases E1.ents _ hv with ⟨j',v',q1,q2,q3⟩ | ⟨id,e1,l,q1,q2,q3,q4⟩
            · simp only [Prod.mk.injEq] at q3
              have:=sk_inj q3.1
              rw [l1] at q2;omega
            · simp at q3
          have:=E1.vl j v hv st' G' S' (fun p hp=>k1 p (List.mem_append_left _ hp)) (fun id j1 j2=>by
            rw [l1] at j2
            rw [k2 id j1 (by rw [l2];omega),if_pos j2]) k3 k4
          subst hj
          rw [Nat.sub_self] at this ⊢
          exact this
        · have hj:i + 1<=j:=by
            rcases E2.ents _ hv with ⟨j',v',q1,q2,q3⟩ | ⟨id,e1,l,q1,q2,q3,q4⟩
            · simp only [Prod.mk.injEq] at q3
              have:=sk_inj q3.1
              omega
            · simp at q3
          have:=E2.vl j v hv st' G' S' (fun p hp=>k1 p (List.mem_append_right _ hp)) (fun id j1 j2=>by
            rw [k2 id (by omega) (by rw [l2];omega),if_neg (by omega)]) k3 k4
          rw [show j - i=(j - (i + 1)) + 1 from by omega]
          simpa using this
  | .int _,_,_,_,_,_,h,_=>h.elim
  | .bool,_,_,_,_,_,h,_=>h.elim
  | .str,_,_,_,_,_,h,_=>h.elim
  | .st _,_,_,_,_,_,h,_=>h.elim
  | .tup _,_,_,_,_,_,h,_=>h.elim
  | .sl _,_,_,_,_,_,h,_=>h.elim
  | .arr _ _,_,_,_,_,_,h,_=>h.elim
  | .ptr _,_,_,_,_,_,h,_=>h.elim
  | .fn _ _,_,_,_,_,_,h,_=>h.elim
  | .frm,_,_,_,_,_,h,_=>h.elim
end
end Go.Proofs.YtefmjjpdflpnaaaGreat.E
namespace Go.Proofs.YtefmjjpdflpnaaaGreat.E
open Go Go.RowKit
set_option linter.unusedVariables false
set_option linter.unusedSimpArgs false
def rvG (tmps:Array Value):ResultVar->Sem Value
  | .tmp t=>pure (tmps.getD t undef)
  | .cell a t=>do loadVar t (<-asAddr (tmps.getD a undef))
section
variable {C:Cx} {cf:Cfg} {st st':St} {a:Act} {w w':World} {G G':Gh} {us:U} {α:Type} {u:α}
theorem results_run {P:Program} {fn:Func} {tmps:Array Value} {vs:List Value} (h:(fn.results.toList.mapM (rvG tmps)).run P w=.ok vs w):(results fn tmps).run P w=.ok (if h:vs.length=1 then vs[0] else .tuple vs.toArray) w:=by
  have e:results fn tmps=(do let vs <-fn.results.mapM (rvG tmps);pure (if h:vs.size=1 then vs[0] else .tuple vs)):=rfl
  rw [e,Array.mapM_eq_mapM_toList]
  simp only [map_eq_pure_bind,bind_assoc,pure_bind,Sem.run_bind,h,Result.andThen_ok,Sem.run_pure]
  congr 1
theorem entry_inv {P:Program} {A:Ty} {mu:List Bool} {vals:List Value} {x:den A} {bs:List Nat} {pr nt:Nat} (h:AX P A mu w (fun b=>b < w.heap.size/\b ∉ bs) vals x bs) (hn:bs.Nodup) (hok:entB A mu=true) (hlen:A.len<=nt) (hpr:pr<=A.len) :
    ∃ G,Inv ⟨P,w,bs,vals,pr,nt,fun _=>True⟩ (upds st0 (argL A mu x 0)) { tmps:=vals.toArray ++ Array.replicate (nt - vals.toArray.size) undef,defers:=[] } w G:=by
  obtain ⟨hd,bl,E⟩:=ent_ok A mu 0 h hok
  have hvl:=E.len
  have hk3:∀ id,rk id / 3=id:=fun id=>by unfold rk;omega
  let G:Gh:=⟨fun k=>hd (k / 3),fun k=>bl (k / 3),fun _=>0,fun _=>True⟩
  have hin:∀ p ∈ argL A mu x 0,upds st0 (argL A mu x 0) p.1=p.2:=fun p hp=>upds_in _ _ E.keys (by simpa using hp)
  have hout:∀ k c,upds st0 (argL A mu x 0) k=c->c ≠ .none->(k,c) ∈ argL A mu x 0:=fun k c h1 h2=>by
    by_cases hk:∃ p ∈ argL A mu x 0,p.1=k
    · obtain ⟨p,hp,rfl⟩:=hk
      rw [hin p hp] at h1;subst h1;exact hp
    · have:upds st0 (argL A mu x 0) k=st0 k:=upds_out _ _ _ fun p hp e=>hk ⟨p,hp,e⟩
      rw [this] at h1
      exact absurd h1.symm h2
  have hroot:∀ k g hh e l,upds st0 (argL A mu x 0) k=.root g hh e l->∃ id,k=rk id/\(rk id,Cell.root 0 0 e l) ∈ argL A mu x 0/\TC (.sl e) w [hd id] l (bl id):=fun k g hh e l hr=>by
    have hm:=hout k _ hr (by simp)
    rcases E.ents _ hm with ⟨j,v,_,_,e'⟩ | ⟨id,e1,l1,_,_,k3,k4⟩
    · simp at e'
    · simp only [Prod.mk.injEq,Cell.root.injEq] at k3
      obtain ⟨rfl,rfl,rfl,rfl,k5⟩:=k3
      cases k5
      exact ⟨id,rfl,hm,k4⟩
  have hbox:∀ k g T v,upds st0 (argL A mu x 0) k ≠ .box g T v:=fun k g T v hr=>by
    have hm:=hout k _ hr (by simp)
    rcases E.ents _ hm with ⟨j,v,_,_,e'⟩ | ⟨id,e1,l1,_,_,k3,k4⟩
    · simp at e'
    · simp at k3
  have hown':∀ k g,upds st0 (argL A mu x 0) k ≠ .own g:=fun k g hr=>by
    have hm:=hout k _ hr (by simp)
    rcases E.ents _ hm with ⟨j,v,_,_,e'⟩ | ⟨id,e1,l1,_,_,k3,k4⟩
    · simp at e'
    · simp at k3
  have own:∀ k b,b ∈ ownB (upds st0 (argL A mu x 0)) G k->∃ id e l,k=rk id/\(rk id,Cell.root 0 0 e l) ∈ argL A mu x 0/\TC (.sl e) w [hd id] l (bl id)/\b ∈ bl id:=fun k b hb=>by
    unfold ownB at hb
    split at hb
    · rename_i g hh e l hr
      obtain ⟨id,rfl,k1,k2⟩:=hroot _ _ _ _ _ hr
      have hb:b ∈ bl (rk id / 3):=hb
      rw [hk3] at hb
      exact ⟨id,e,l,rfl,k1,k2,hb⟩
    · rename_i g T v hr
      exact absurd hr (hbox _ _ _ _)
    · rename_i g hr
      exact absurd hr (hown' _ _)
    · cases hb
  have hsize:vals.toArray.size=A.len:=by simp [hvl]
  have htm:∀ i,i < A.len->(vals.toArray ++ Array.replicate (nt - vals.toArray.size) undef).getD i undef=vals.getD i undef:=fun i hi=>by
    rw [Array.getD_eq_getD_getElem?,Array.getElem?_append,if_pos (by rw [hsize];exact hi)]
    simp [List.getD]
  refine ⟨G,{ rt:=fun k g hh e l hr=>?_,sc:=fun i=>?_,bx:=fun k g T v hr=>absurd hr (hbox _ _ _ _),nd:=fun k=>?_,dj:=fun k k' b h1 h2=>?_,lt:=fun k b hb=>?_,os:=rfl,tape:=rfl,output:=rfl,size:=Nat.le_refl _,block:=fun _ _ _=>rfl,s0:=rfl,m0:=fun _ _=>trivial,sl:=fun i v hv=>?_,df:=rfl,sz:=?_,pa:=fun i hi=>?_ }⟩
  · obtain ⟨id,rfl,k1,k2⟩:=hroot _ _ _ _ _ hr
    show TC (.sl e) w [hd (rk id / 3)] l (bl (rk id / 3))
    rw [hk3];exact k2
  · cases hc:upds st0 (argL A mu x 0) (sk i) with
    | none=>exact .inr rfl
    | sv v=>exact .inl ⟨v,rfl⟩
    | root g hh e l=>obtain ⟨id,k,_⟩:=hroot _ _ _ _ _ hc;exact absurd k (sk_ne_rk _ _)
    | box g T v=>exact absurd hc (hbox _ _ _ _)
    | own g=>exact absurd hc (hown' _ _)
    | gone g =>
      have hm:=hout _ _ hc (by simp)
      rcases E.ents _ hm with ⟨j,v,_,_,e'⟩ | ⟨id,e1,l1,_,_,k3,k4⟩
      · simp at e'
      · simp at k3
  · unfold ownB
    split
    · rename_i g hh e l hr
      obtain ⟨id,rfl,k1,k2⟩:=hroot _ _ _ _ _ hr
      show (bl (rk id / 3)).Nodup
      rw [hk3];exact (E.bls id e l k1).2 hn
    · simp
    · rename_i g hr;exact absurd hr (hown' _ _)
    · exact List.nodup_nil
  · obtain ⟨id,e,l,rfl,k1,_,k2⟩:=own k b h1
    obtain ⟨id',e',l',rfl,j1,_,j2⟩:=own k' b h2
    rw [E.dj hn id e l id' e' l' k1 j1 b k2 j2]
  · obtain ⟨id,e,l,rfl,k1,k2,k3⟩:=own k b hb
    exact ⟨TC_lt _ k2 b k3,.inr ((E.bls id e l k1).1 b k3)⟩
  · have hm:=hout _ _ hv (by simp)
    have hi:i < A.len:=by
      rcases E.ents _ hm with ⟨j,v',k1,k2,e'⟩ | ⟨id,e1,l1,_,_,k3,k4⟩
      · simp only [Prod.mk.injEq] at e'
        have:=sk_inj e'.1
        omega
      · simp at k3
    have:=E.vl i v hm (upds st0 (argL A mu x 0)) G (Fz (upds st0 (argL A mu x 0)) G w) hin (fun id _ _=>by show hd (rk id / 3)=hd id;rw [hk3]) (fun b hb=>⟨hb.1,fun k hk=>by
      obtain ⟨id,e,l,rfl,k1,_,k3⟩:=own k b hk
      exact hb.2 ((E.bls id e l k1).1 b k3),trivial⟩) (fun b hb=>hb.1)
    rw [htm i hi]
    simpa using this
  · show (vals.toArray ++ Array.replicate (nt - vals.toArray.size) undef).size=nt
    rw [Array.size_append,Array.size_replicate,hsize];omega
  · show (vals.toArray ++ Array.replicate (nt - vals.toArray.size) undef).getD i undef=vals.getD i undef
    exact htm i (Nat.lt_of_lt_of_le hi hpr)
theorem SX_list_len {P:Program} {S:Nat->Prop}:∀ (v:SV) {vs:List Value},SX P st G w S v true vs->vs.length=v.len
  | .unit,vs,h=>by have h:vs=[]:=h;rw [h];rfl
  | .pair a b,vs,h=>by
    obtain ⟨c,r,rfl,_,h2⟩:=h
    rw [List.length_cons,SX_list_len b h2];rfl
  | .val _ _,_,h=>h.elim
  | .nil,_,h=>h.elim
  | .ref _ _ _,_,h=>h.elim
  | .sub _ _ _ _ _ _,_,h=>h.elim
  | .vw _ _ _ _ _,_,h=>h.elim
  | .sap _ _ _ _ _ _ _ _,_,h=>h.elim
  | .mp _ _,_,h=>h.elim
  | .pel _ _ _ _,_,h=>h.elim
  | .pbx _ _ _,_,h=>h.elim
  | .pix _ _ _ _,_,h=>h.elim
  | .st _,_,h=>h.elim
  | .tup _,_,h=>h.elim
  | .clo _ _ _,_,h=>h.elim
theorem resSV_run (O:CfgOk C cf) (I:Inv C st a w G):∀ (rs:List ResultVar) {f:SV->M α},Rn (resSV cf rs f) st u->∃ v vs,(rs.mapM (rvG a.tmps)).run C.P w=.ok vs w/\SX C.P st G w (Fz st G w) v true vs/\Rn (f v) st u
  | [],f,h=>⟨.unit,[],rfl,rfl,h⟩
  | .tmp t :: rs,f,h=>by
    unfold resSV at h
    obtain ⟨v,_,hv,h⟩:=slot_run I h
    split at h
    · exact (Rn_fail.1 h).elim
    · rename_i hnt
      obtain ⟨v',vs,k1,k2,k3⟩:=resSV_run O I rs h
      obtain ⟨c,hc1,hc2⟩:=SW_cells hv (fun b e=>hnt b e)
      refine ⟨.pair v v',a.tmps.getD t undef :: vs,?_,⟨c,vs,by rw [hc1],hc2,k2⟩,k3⟩
      rw [List.mapM_cons]
      simp only [rvG,Sem.run_bind,Sem.run_pure,Result.andThen_ok,k1]
  | .cell p t :: rs,f,h=>by
    unfold resSV at h
    obtain ⟨v,_,hv,h⟩:=slot_run I h
    split at h
    case h_2=>exact (Rn_fail.1 h).elim
    rename_i b g _
    rw [Rn_get] at h
    split at h
    case h_2=>exact (Rn_fail.1 h).elim
    rename_i g' B v0 hr
    rw [Rn_chk] at h
    have hg:g=g':=Nat.eq_of_beq_eq_true h.1
    subst hg
    have h:=h.2
    rw [Rn_bif] at h
    rcases h with ⟨hty,h⟩ | ⟨_,h⟩
    case inr=>exact (Rn_fail.1 h).elim
    have hty:=of_decide_eq_true hty
    obtain ⟨v',vs,k1,k2,k3⟩:=resSV_run O I rs h
    obtain ⟨c,hc,x,rfl,_,_,hx⟩:=hv
    have hx:=hx _ _ hr
    obtain ⟨ht,arr,et,ha,hs⟩:=I.bx _ _ _ _ hr
    have hl:=SX_len v0 B ht hs
    have hload:=loadVar_run (O.ty _ _ hty) (w:=w) (b:=G.bx (bk b)) (o:=0) ha (by rw [<-Array.length_toList];omega)
    rw [seg_all hl] at hload
    have hp:a.tmps.getD p undef=.pointer (some ⟨G.bx (bk b),0,none⟩):=by rw [hc];exact hx
    refine ⟨.pair v0 v',valOf B arr.toList :: vs,?_,⟨arr.toList,vs,by rw [valS_res ht],hs,k2⟩,k3⟩
    rw [List.mapM_cons]
    simp only [rvG,hp,asAddr,Sem.run_bind,Sem.run_pure,Result.andThen_ok,hload,k1]
theorem list_run (I:InvM C st w G) {T:Ty} {v:SV} {vs:List Value} {f:den T->List (Nat × Nat)->M α} (h:Rn (listM T v f) st u) (hs:SX C.P st G w (Fz st G w) v true vs) :
    ∃ x ts,TV T false w [if h:vs.length=1 then vs[0] else .tuple vs.toArray] x (blk G ts)/\Rn (f x ts) st u/\(∀ p ∈ ts,RT st p)/\(T.isTup=false->∃ c,(if h:vs.length=1 then vs[0] else .tuple vs.toArray)=valOf T c/\TC T w c x (blk G ts)):=by
  have hlen:=SX_list_len v hs
  have one:T.isTup=false->Rn (match v with | .pair a .unit=>mv T a f | _=>.fail) st u->∃ x ts,TV T false w [if h:vs.length=1 then vs[0] else .tuple vs.toArray] x (blk G ts)/\Rn (f x ts) st u/\(∀ p ∈ ts,RT st p)/\(T.isTup=false->∃ c,(if h:vs.length=1 then vs[0] else .tuple vs.toArray)=valOf T c/\TC T w c x (blk G ts)):=by
    intro hT h
    split at h
    case h_2=>exact (Rn_fail.1 h).elim
    rename_i p _
    obtain ⟨c,r,rfl,h1,h2⟩:=hs
    have h2:r=[]:=h2
    subst h2
    obtain ⟨x,ts,k1,k2,k3,k4⟩:=mv_run I p T false h h1
    simp only [Bool.false_eq_true,if_false] at k1
    have e:(if h:[valS p c].length=1 then [valS p c][0] else .tuple [valS p c].toArray)=valOf T c:=by
      rw [<-k4 rfl];rfl
    rw [e]
    exact ⟨x,ts,TV_of_TC k1,k2,k3,fun _=>⟨c,rfl,k1⟩⟩
  cases T with
  | tup F =>
    have h:Rn (bif Nat.beq v.len 1 then .fail else mv F v f) st u:=h
    rw [Rn_bif] at h
    rcases h with ⟨_,h⟩ | ⟨hb,h⟩
    · exact (Rn_fail.1 h).elim
    obtain ⟨x,ts,k1,k2,k3,k4⟩:=mv_run I v F true h hs
    have hne:¬ vs.length=1:=fun e=>by
      rw [hlen] at e
      rw [e] at hb;cases hb
    rw [dif_neg hne]
    exact ⟨x,ts,⟨vs,rfl,k1⟩,k2,k3,fun e=>by cases e⟩
  | _=>exact one rfl h
theorem AX_of_RX {P:Program} {S:Nat->Prop}:∀ (A:Ty) (mu:List Bool) {vals:List Value} {x:den A},mu.any id=false->RX P A true w S vals x->AX P A mu w S vals x []
  | .unit,mu,vals,x,hm,h=>⟨h,rfl⟩
  | .pair A B,mu,vals,x,hm,h=>by
    obtain ⟨c,r,rfl,h1,h2⟩:=h
    have:mu.headD false=false:=by
      cases mu with
      | nil=>rfl
      | cons m mu=>simp only [List.any_cons,Bool.or_eq_false_iff] at hm;exact hm.1
    exact ⟨c,r,[],[],rfl,rfl,by rw [this];exact ⟨rfl,h1⟩,AX_of_RX B mu.tail (any_tail hm) h2⟩
  | .int _,_,_,_,_,h=>h.elim
  | .bool,_,_,_,_,h=>h.elim
  | .str,_,_,_,_,h=>h.elim
  | .st _,_,_,_,_,h=>h.elim
  | .tup _,_,_,_,_,h=>h.elim
  | .sl _,_,_,_,_,h=>h.elim
  | .arr _ _,_,_,_,_,h=>h.elim
  | .ptr _,_,_,_,_,h=>h.elim
  | .fn _ _,_,_,_,_,h=>h.elim
  | .frm,_,_,_,_,h=>h.elim
def pickL:List Bool->List Value->List Value
  | m :: mu,v :: vs=>if m=true then v :: pickL mu vs else pickL mu vs
  | _,_=>[]
theorem outs_run (I:Inv C st a w G):∀ (mu:List Bool) (vals:List Value) (i:Nat) {f:SV->M α},mu.length=vals.length->(∀ k,k < vals.length->mu.getD k false=true->a.tmps.getD (i + k) undef=vals.getD k undef)->Rn (outsM mu i f) st u →
    ∃ v,SX C.P st G w (Fz st G w) v true (pickL mu vals)/\Rn (f v) st u
  | [],vals,i,f,hl,hv,h=>⟨.unit,by
      show pickL [] vals=[]
      cases vals <;> rfl,h⟩
  | m :: mu,[],i,f,hl,hv,h=>by simp at hl
  | m :: mu,x :: vals,i,f,hl,hv,h=>by
    unfold outsM at h
    have hv':∀ k,k < vals.length->mu.getD k false=true->a.tmps.getD (i + 1 + k) undef=vals.getD k undef:=fun k hk hmk=>by
      have:=hv (k + 1) (by simpa using hk) (by simpa using hmk)
      rw [show i + 1 + k=i + (k + 1) from by omega,this];simp
    rw [Rn_bif] at h
    rcases h with ⟨hm,h⟩ | ⟨hm,h⟩
    · subst hm
      obtain ⟨v,_,hw,h⟩:=slot_run I h
      split at h
      · exact (Rn_fail.1 h).elim
      · rename_i hnt
        obtain ⟨v',k1,k2⟩:=outs_run I mu vals (i + 1) (by simpa using hl) hv' h
        obtain ⟨c,hc1,hc2⟩:=SW_cells hw (fun b e=>hnt b e)
        have h0:=hv 0 (by simp) rfl
        rw [Nat.add_zero] at h0
        refine ⟨.pair v v',⟨c,pickL mu vals,?_,hc2,k1⟩,k2⟩
        rw [<-hc1,h0];simp [pickL]
    · subst hm
      obtain ⟨v',k1,k2⟩:=outs_run I mu vals (i + 1) (by simpa using hl) hv' h
      exact ⟨v',by simpa [pickL] using k1,k2⟩
theorem TV_OX:∀ (A:Ty) (mu:List Bool) {vals:List Value} {z:den (outT A mu)} {bs:List Nat},entB A mu=true->vals.length=A.len->TV (outT A mu) true w (pickL mu vals) z bs->OX A mu w vals z bs
  | .unit,[],vals,z,bs,_,_,h=>h.2
  | .unit,_ :: _,vals,z,bs,he,_,h=>by cases he
  | .pair A B,[],vals,z,bs,he,_,h=>by cases he
  | .pair A B,false :: mu,vals,z,bs,he,hl,h=>by
    simp only [entB,Bool.and_eq_true] at he
    cases vals with
    | nil=>simp [Ty.len] at hl
    | cons v vals =>
      have h:TV (outT B mu) true w (pickL mu vals) z bs:=h
      exact TV_OX B mu he.2 (by simpa [Ty.len] using hl) h
  | .pair A B,true :: mu,vals,z,bs,he,hl,h=>by
    simp only [entB,Bool.and_eq_true,Bool.not_true,Bool.false_or,Bool.not_eq_true'] at he
    cases vals with
    | nil=>simp [Ty.len] at hl
    | cons v vals =>
      have h:TV (.pair A (outT B mu)) true w (v :: pickL mu vals) z bs:=h
      obtain ⟨v',r,b1,b2,e,rfl,h1,h2⟩:=h
      simp only [List.cons.injEq] at e
      obtain ⟨rfl,rfl⟩:=e
      have h3:∃ c,v=valOf A c/\TC A w c z.1 b1:=by
        have ht:=he.1.1.2
        cases A <;> first | (obtain ⟨c,e,hc⟩:=h1;exact ⟨c,by simpa using e,hc⟩) | cases ht
      obtain ⟨c,rfl,hc⟩:=h3
      exact ⟨c,vals,b1,b2,rfl,rfl,hc,TV_OX B mu he.2 (by simpa [Ty.len] using hl) h2⟩
  | .int _,_,_,_,_,he,_,_=>by cases he
  | .bool,_,_,_,_,he,_,_=>by cases he
  | .str,_,_,_,_,he,_,_=>by cases he
  | .st _,_,_,_,_,he,_,_=>by cases he
  | .tup _,_,_,_,_,he,_,_=>by cases he
  | .sl _,_,_,_,_,he,_,_=>by cases he
  | .arr _ _,_,_,_,_,he,_,_=>by cases he
  | .ptr _,_,_,_,_,he,_,_=>by cases he
  | .fn _ _,_,_,_,_,he,_,_=>by cases he
  | .frm,_,_,_,_,he,_,_=>by cases he
theorem entB_len:∀ (A:Ty) (mu:List Bool),entB A mu=true->mu.length=A.len
  | .unit,[],_=>rfl
  | .unit,_ :: _,he=>by cases he
  | .pair A B,[],he=>by cases he
  | .pair A B,m :: mu,he=>by
    simp only [entB,Bool.and_eq_true] at he
    rw [List.length_cons,entB_len B mu he.2];rfl
  | .int _,_,he=>by cases he
  | .bool,_,he=>by cases he
  | .str,_,he=>by cases he
  | .st _,_,he=>by cases he
  | .tup _,_,he=>by cases he
  | .sl _,_,he=>by cases he
  | .arr _ _,_,he=>by cases he
  | .ptr _,_,he=>by cases he
  | .fn _ _,_,he=>by cases he
  | .frm,_,he=>by cases he
end
end Go.Proofs.YtefmjjpdflpnaaaGreat.E
namespace Go.Proofs.YtefmjjpdflpnaaaGreat.E
open Go Go.RowKit
set_option linter.unusedVariables false
set_option linter.unusedSimpArgs false
section
variable {C:Cx} {cf:Cfg} {st st':St} {a:Act} {w w':World} {G G':Gh} {us:U} {α:Type} {u:α}
theorem fin_plain (O:CfgOk C cf) (I:Inv C st a w G) (hmt:C.mt=[]) {rs:List ResultVar} {pas ret:Ty} {mu:List Bool} (hmu:mu.any id=false) {r:den ret} (h:Rn (finM cf rs pas mu ret) st r) {fn:Func} (hrs:fn.results.toList=rs) :
    ∃ v,(results fn a.tmps).run C.P w=.ok v w/\Ret ret r C.w0 v w:=by
  unfold finM at h
  obtain ⟨v,vs,h1,h2,h⟩:=resSV_run O I rs h
  rw [hmu] at h
  simp only [cond_false] at h
  obtain ⟨x,ts,k1,k2,k3,_⟩:=list_run I.toInvM h h2
  rw [Rn_bif] at k2
  rcases k2 with ⟨hb,k2⟩ | ⟨_,k2⟩
  case inr=>exact (Rn_fail.1 k2).elim
  rw [Rn_ret] at k2
  subst k2
  simp only [Bool.and_eq_true,nodupB_iff] at hb
  rw [<-hrs] at h1
  refine ⟨_,results_run h1,blk G ts,k1,blk_nodup I.toInvM ts k3 hb.1,fun b hb=>?_,⟨I.os,I.tape,I.output,I.size,fun k hk=>I.block k hk (by rw [hmt];simp)⟩⟩
  obtain ⟨p,hp,hb⟩:=blk_mem hb
  rw [<-own_of_RT (k3 p hp)] at hb
  have:=I.lt _ _ hb
  refine ⟨this.2.elim id fun h=>?_,this.1⟩
  rw [hmt] at h;cases h
theorem fin_mut (O:CfgOk C cf) (I:Inv C st a w G) {rs:List ResultVar} {pas R:Ty} {mu:List Bool} (hmu:mu.any id=true) (hent:entB pas mu=true) (hl:C.args.length=pas.len) (hpr:∀ k,mu.getD k false=true->k < C.pr) {r:den (.pair R (outT pas mu))} (h:Rn (finM cf rs pas mu (.pair R (outT pas mu))) st r) {fn:Func} (hrs:fn.results.toList=rs) :
    ∃ v,(results fn a.tmps).run C.P w=.ok v w/\RetM R pas mu r.1 r.2 C.args C.mt C.w0 v w:=by
  unfold finM at h
  obtain ⟨v,vs,h1,h2,h⟩:=resSV_run O I rs h
  rw [hmu] at h
  simp only [cond_true,dite_true] at h
  rw [Rn_bif] at h
  rcases h with ⟨_,h⟩ | ⟨hm,h⟩
  · exact (Rn_fail.1 h).elim
  simp only [Bool.or_eq_false_iff] at hm
  obtain ⟨x,ts,k1,k2,k3,k4⟩:=list_run I.toInvM h h2
  obtain ⟨ov,o1,o2⟩:=outs_run I mu C.args 0 ((entB_len pas mu hent).trans hl.symm) (fun k hk hmk=>by
    rw [Nat.zero_add]
    have:=I.pa k (hpr k hmk)
    rw [this]) k2
  obtain ⟨y,ts',m1,m2,m3,_⟩:=mv_run I.toInvM ov (outT pas mu) true o2 o1
  simp only [if_true] at m1
  rw [Rn_bif] at m2
  rcases m2 with ⟨hb,m2⟩ | ⟨_,m2⟩
  case inr=>exact (Rn_fail.1 m2).elim
  rw [Rn_ret] at m2
  subst m2
  rw [nodupB_iff] at hb
  have hRt:R.isTup=false:=hm.2
  obtain ⟨c,e,hc⟩:=k4 hRt
  rw [<-hrs] at h1
  refine ⟨_,results_run h1,⟨⟨c,e,?_⟩,⟨blk G ts',TV_OX pas mu hent hl m1,blk_nodup I.toInvM ts' m3 hb,fun b hb=>?_⟩,I.os,I.tape,I.output,I.size,fun b hb hn=>I.block b hb hn⟩⟩
  · rw [<-TC_nil R hm.1.1 hc];exact hc
  · obtain ⟨p,hp,hb⟩:=blk_mem hb
    rw [<-own_of_RT (m3 p hp)] at hb
    have:=I.lt _ _ hb
    exact ⟨this.2.symm,this.1⟩
theorem prot_ok {mu:List Bool} {p:Nat} (h:(mu.drop p).any id=false):∀ k,mu.getD k false=true->k < p:=fun k hk=>by
  rcases Nat.lt_or_ge k p with hlt | hge
  · exact hlt
  · exfalso
    have hm:(mu.drop p)[k - p]?=some true:=by
      rw [List.getElem?_drop,show p + (k - p)=k from by omega]
      simp only [List.getD,Option.getD] at hk
      split at hk
      · rename_i b hb;rw [hb,hk]
      · cases hk
    have:(mu.drop p).any id=true:=List.any_eq_true.2 ⟨true,List.mem_of_getElem? hm,rfl⟩
    rw [h] at this;cases this
theorem run_enter {P:Program} {w:World} {f:FuncId} {fn:Func} {c:Code} {args:Array Value} (hf:P.funcs[f]?=some fn) (hname:(fn.name == "runtime.NumGoroutine")=false) (hb:fn.body=some c):(callFunc f args).run P w=.ok (.enter f args) w:=by
  have h1:fn.name ≠ "runtime.NumGoroutine":=by simpa using hname
  simp [callFunc,hf,h1,hb]
/-- A function's contract: out of its code, and the evaluator's run of it. -/
theorem fn_ok {P:Program} {cf:Cfg} {f:FuncId} {fn:Func} {c:Code} {pas ret:Ty} {mu:List Bool} {en:Env (den ret)} {F:den pas->Option (den ret)} (hf:P.funcs[f]?=some fn) (hname:(fn.name == "runtime.NumGoroutine")=false) (hb:fn.body=some c)
    (hT:∀ t T,cf.ty t=some T->TyOk P cf.ty t T) (hfn:∀ g sp,cf.fn g=some sp->FnOk P g sp) (hfs:∀ g sp,cf.fs g=some sp->ShOk P g sp) (hmp:∀ g p,cf.mp g=some p->MpOk P g p.1 p.2) (hmix:P.follows .mixedOrders=true) (hnt:cf.nt=fn.ntmps) (hpr:cf.prot<=pas.len) (hprm:(mu.drop cf.prot).any id=false) (hlen:pas.len<=cf.nt) (hent:entB pas mu=true)
    (hl:∀ C,C.P=P->CfgOk C cf->LpOk C en c) (hF:∀ x y,F x=some y->evFn cf pas mu ret en fn.results.toList c x=some y):FnOk P f ⟨pas,mu,ret,F⟩:=by
  have main:∀ (w:World) (vals:List Value) (x:den pas) (y:den ret) (bs:List Nat) (R:Value->World->Prop),AX P pas mu w (fun b=>b < w.heap.size/\b ∉ bs) vals x bs->bs.Nodup->F x=some y →
      (∀ st a w' G,Inv ⟨P,w,bs,vals,cf.prot,cf.nt,fun _=>True⟩ st a w' G->CfgOk ⟨P,w,bs,vals,cf.prot,cf.nt,fun _=>True⟩ cf->vals.length=pas.len->Rn (finM cf fn.results.toList pas mu ret) st y->∃ v,(results fn a.tmps).run P w'=.ok v w'/\R v w')->CF P f vals.toArray w R:=by
    intro w vals x y bs R hAX hnd hy hfin
    have O:CfgOk ⟨P,w,bs,vals,cf.prot,cf.nt,fun _=>True⟩ cf:=⟨rfl,rfl,hT,hfn,hfs,hmp⟩
    have hvl:vals.length=pas.len:=by
      obtain ⟨hd,bl,E⟩:=ent_ok pas mu 0 hAX hent
      exact E.len
    obtain ⟨G,I⟩:=entry_inv (nt:=cf.nt) (pr:=cf.prot) hAX hnd hent hlen hpr
    intro o a next Q hn
    rw [run_enter hf hname hb,Oper.upon_enter]
    refine calls_of_wp hf hb ?_
    have hev:=hF x y hy
    unfold evFn at hev
    rw [<-hnt]
    have last:∀ st' a' w' G',(finM cf fn.results.toList pas mu ret).go st' [] (fun _ y=>some y)=some y->Inv ⟨P,w,bs,vals,cf.prot,cf.nt,fun _=>True⟩ st' a' w' G'->∃ v,(results fn a'.tmps).run P w'=.ok v w'/\R v w':=fun st' a' w' G' h I'=>by
      obtain ⟨rd,u,h1,h2⟩:=go_run _ _ h
      simp only [Option.some.injEq] at h2
      subst h2
      exact hfin st' a' w' G' I' O hvl ⟨rd,h1⟩
    refine evC_sound O hmix c (hl _ rfl O) hev I (fun st' a' w' G' h I'=>?_) (fun i st' a' w' G' h I'=>by cases h) (fun st' a' w' G' h I'=>?_)
    · obtain ⟨v,k1,k2⟩:=last st' a' w' G' h I'
      exact ⟨I'.df,v,k1,hn v w' k2⟩
    · obtain ⟨v,k1,k2⟩:=last st' a' w' G' h I'
      exact ⟨I'.df,v,k1,hn v w' k2⟩
  refine ⟨fun hmu=>?_,fun hmu R h=>?_⟩
  · intro w vals x y hx hy
    refine main w vals x y [] _ (AX_of_RX pas mu hmu (RX_congr P pas true (Nat.le_refl _) (fun b hb _=>⟨⟨hb,by simp⟩,rfl⟩) (fun b hb=>hb.1) hx)) List.nodup_nil hy fun st a w' G I O _ hr=>?_
    exact fin_plain O I rfl hmu hr rfl
  · have h:ret=.pair R (outT pas mu):=h
    subst h
    intro w vals x y z bs hAX hnd hy
    exact main w vals x (y,z) bs _ hAX hnd hy fun st a w' G I O hvl hr=>fin_mut O I hmu hent hvl (prot_ok hprm) hr rfl
end
end Go.Proofs.YtefmjjpdflpnaaaGreat.E
namespace Go.Proofs.YtefmjjpdflpnaaaGreat.E
open Go Go.RowKit
set_option linter.unusedVariables false
set_option linter.unusedSimpArgs false
def lk {β:Type}:List (Nat × β)->Nat->Option β
  | [],_=>none
  | (k,b) :: l,t=>bif Nat.beq k t then some b else lk l t
theorem lk_mem {β:Type}:∀ (l:List (Nat × β)) {t:Nat} {b:β},lk l t=some b->(t,b) ∈ l
  | [],_,_,h=>by cases h
  | (k,c) :: l,t,b,h=>by
    unfold lk at h
    cases hb:Nat.beq k t
    · rw [hb] at h;exact List.mem_cons_of_mem _ (lk_mem l h)
    · rw [hb] at h
      simp only [cond_true,Option.some.injEq] at h
      have:=Nat.eq_of_beq_eq_true hb
      subst h;subst this;exact List.mem_cons_self
/-- Cells of zeroes, read off. -/
def rep {β:Type} (f:β->Option β):Nat->β->Option β
  | 0,x=>some x
  | n + 1,x=>match f x with | some y=>rep f n y | none=>none
def zcB:Ty->List Value->Option (List Value)
  | .int k,cs=>(match cs with | .int k' n :: r=>bif decide (k'=k) && decide (n=0) then some r else none | _=>none)
  | .bool,cs=>(match cs with | .bool b :: r=>bif b then none else some r | _=>none)
  | .str,cs=>(match cs with | .string s :: r=>bif Nat.beq s.size 0 then some r else none | _=>none)
  | .unit,r=>some r
  | .pair a b,r=>(match zcB a r with | some r'=>zcB b r' | none=>none)
  | .st f,r=>zcB f r
  | .sl _,cs=>(match cs with | .slice none 0 0 :: r=>some r | _=>none)
  | .arr n e,r=>rep (zcB e) n r
  | .tup _,_=>none
  | .ptr _,_=>none
  | .fn _ _,_=>none
  | .frm,cs=>(match cs with | .int .u8 n :: .slice none 0 0 :: r=>bif decide (n=0) then some r else none | _=>none)
theorem bytes_empty {s:ByteArray} (h:s.size=0):s=ByteArray.empty:=by
  cases s with
  | mk d =>
    have:d=#[]:=Array.eq_empty_of_size_eq_zero h
    rw [this];rfl
theorem zcB_ok:∀ (T:Ty) {cs r:List Value},zcB T cs=some r->cs=zc T ++ r
  | .int k,cs,r,h=>by
    simp only [zcB] at h
    split at h
    · rename_i k' n r'
      cases hb:(decide (k'=k) && decide (n=0))
      · rw [hb] at h;cases h
      · rw [hb] at h
        simp only [cond_true,Option.some.injEq] at h
        simp only [Bool.and_eq_true,decide_eq_true_eq] at hb
        rw [hb.1,hb.2,h];rfl
    · cases h
  | .bool,cs,r,h=>by
    simp only [zcB] at h
    split at h
    · rename_i b r'
      cases b
      · simp only [cond_false,Option.some.injEq] at h
        rw [h];rfl
      · cases h
    · cases h
  | .str,cs,r,h=>by
    simp only [zcB] at h
    split at h
    · rename_i s r'
      cases hb:Nat.beq s.size 0
      · rw [hb] at h;cases h
      · rw [hb] at h
        simp only [cond_true,Option.some.injEq] at h
        rw [bytes_empty (Nat.eq_of_beq_eq_true hb),h];rfl
    · cases h
  | .unit,cs,r,h=>by simp only [zcB,Option.some.injEq] at h;subst h;rfl
  | .pair a b,cs,r,h=>by
    simp only [zcB] at h
    split at h
    · rename_i r' h1
      rw [zcB_ok a h1,zcB_ok b h];simp [zc]
    · cases h
  | .st f,cs,r,h=>zcB_ok f (by simpa [zcB] using h)
  | .sl e,cs,r,h=>by
    simp only [zcB] at h
    split at h
    · simp only [Option.some.injEq] at h
      rw [h];rfl
    · cases h
  | .arr n e,cs,r,h=>by
    simp only [zcB] at h
    have key:∀ (n:Nat) {cs r:List Value},rep (zcB e) n cs=some r->cs=(List.replicate n (zc e)).flatten ++ r:=by
      intro n
      induction n with
      | zero=>intro cs r h;simp only [rep,Option.some.injEq] at h;subst h;rfl
      | succ n ih =>
        intro cs r h
        simp only [rep] at h
        split at h
        · rename_i y h1
          rw [zcB_ok e h1,ih h];simp [List.replicate_succ]
        · cases h
    exact key n h
  | .tup _,cs,r,h=>by cases h
  | .ptr _,cs,r,h=>by cases h
  | .fn _ _,cs,r,h=>by cases h
  | .frm,cs,r,h=>by
    simp only [zcB] at h
    split at h
    · rename_i n r'
      cases hb:decide (n=0)
      · rw [hb] at h;cases h
      · rw [hb] at h
        simp only [cond_true,Option.some.injEq] at h
        rw [of_decide_eq_true hb,h];rfl
    · cases h
def zChk (T:Ty) (v:Value):Bool:=match v with
  | .agg xs=>isAggT T && (match zcB T xs.toList with | some []=>true | _=>false)
  | v=>!isAggT T && (match zcB T [v] with | some []=>true | _=>false)
theorem zChk_ok {T:Ty} {v:Value} (h:zChk T v=true):v=valOf T (zc T):=by
  have fin:∀ cs,(match zcB T cs with | some []=>true | _=>false)=true->cs=zc T:=fun cs h=>by
    split at h
    · rename_i h1
      have:=zcB_ok T h1
      simpa using this
    · cases h
  unfold zChk at h
  split at h
  · rename_i xs
    rw [Bool.and_eq_true] at h
    rw [valOf_agg h.1,<-fin _ h.2]
  · rw [Bool.and_eq_true,Bool.not_eq_true'] at h
    rw [valOf_one h.1,<-fin _ h.2];rfl
def fsChk (ty:Nat->Option Ty) (f:Ty):List Field->Nat->Bool
  | [],_=>true
  | F :: r,n=>Nat.beq F.offset (off f n) && decide (ty F.type=some (fld f n)) && !(F.name == "_") && fsChk ty f r (n + 1)
theorem fsChk_ok {ty:Nat->Option Ty} {f:Ty}:∀ (l:List Field) (k:Nat),fsChk ty f l k=true->∀ n F,l[n]?=some F->F.offset=off f (k + n)/\ty F.type=some (fld f (k + n))/\F.name ≠ "_"
  | [],_,_,n,F,h=>by simp at h
  | G :: r,k,hc,n,F,h=>by
    simp only [fsChk,Bool.and_eq_true,decide_eq_true_eq,Bool.not_eq_true'] at hc
    cases n with
    | zero =>
      simp only [List.getElem?_cons_zero,Option.some.injEq] at h
      subst h
      exact ⟨Nat.eq_of_beq_eq_true hc.1.1.1,hc.1.1.2,by simpa using hc.1.2⟩
    | succ n =>
      have:=fsChk_ok r (k + 1) hc.2 n F (by simpa using h)
      rwa [show k + 1 + n=k + (n + 1) from by omega] at this
def unChk (ty:Nat->Option Ty):TypeDesc->Ty->Bool
  | .int k,.int k'=>decide (k=k')
  | .bool,.bool=>true
  | .string,.str=>true
  | .struct fs,.st f=>Nat.beq fs.size f.len && fsChk ty f fs.toList 0
  | .slice et,.sl e=>decide (ty et=some e) || (decide (e=.st .frm) && decide (ty et=some frU))
  | .array n et,.arr m e=>Nat.beq n m && decide (ty et=some e)
  | .pointer _,.ptr _=>true
  | .func _ _ _,.fn _ _=>true
  | _,_=>false
theorem unChk_ok {ty:Nat->Option Ty} {d:TypeDesc} {T:Ty} (h:unChk ty d T=true):UnOk ty d T:=by
  unfold unChk at h
  split at h
  · exact (of_decide_eq_true h:_=_)
  · trivial
  · trivial
  · rename_i fs f
    rw [Bool.and_eq_true] at h
    refine ⟨Nat.eq_of_beq_eq_true h.1,fun n F hn=>?_⟩
    have:=fsChk_ok fs.toList 0 h.2 n F (by simpa using hn)
    rwa [Nat.zero_add] at this
  · simp only [Bool.or_eq_true,Bool.and_eq_true,decide_eq_true_eq] at h;exact h
  · rw [Bool.and_eq_true] at h
    exact ⟨Nat.eq_of_beq_eq_true h.1,of_decide_eq_true h.2⟩
  · trivial
  · trivial
  · cases h
def tyChk (P:Program) (ty:Nat->Option Ty) (t:Nat) (T:Ty):Bool :=
  (match P.info? t with
    | some i=>Nat.beq i.size T.sz && Nat.ble i.bytes 100 && Nat.blt 0 i.bytes && (bif T.zok then (match i.zero with | some v=>zChk T v | none=>false) else true)
    | none=>false) && (match P.underlying t with | some d=>unChk ty d T | none=>false) && !P.stoodInHeld t
theorem tyChk_ok {P:Program} {ty:Nat->Option Ty} {t:Nat} {T:Ty} (h:tyChk P ty t T=true):TyOk P ty t T:=by
  unfold tyChk at h
  simp only [Bool.and_eq_true,Bool.not_eq_true'] at h
  obtain ⟨⟨h1,h2⟩,h3⟩:=h
  refine ⟨?_,?_,h3⟩
  · split at h1
    · rename_i i hi
      simp only [Bool.and_eq_true] at h1
      refine ⟨i,hi,Nat.eq_of_beq_eq_true h1.1.1.1,Nat.le_of_ble_eq_true h1.1.1.2,Nat.le_of_ble_eq_true h1.1.2,fun hz=>?_⟩
      have h4:=h1.2
      rw [hz] at h4
      simp only [cond_true] at h4
      split at h4
      · rename_i v hv
        rw [hv,zChk_ok h4]
      · cases h4
    · cases h1
  · split at h2
    · rename_i d hd
      exact ⟨d,hd,unChk_ok h2⟩
    · cases h2
theorem tys_ok {P:Program} {l:List (Nat × Ty)} (h:(l.all fun p=>tyChk P (lk l) p.1 p.2)=true):∀ t T,lk l t=some T->TyOk P (lk l) t T:=fun t T ht=>by
  rw [List.all_eq_true] at h
  exact tyChk_ok (h _ (lk_mem l ht))
def bodyOf (f:Func):Code:=f.body.getD .skip
theorem CF.calls {P:Program} {f:FuncId} {fn:Func} {c:Code} {args:Array Value} {w:World} {G:Value->World->Prop} (h:CF P f args w G) (hf:P.funcs[f]?=some fn) (hname:(fn.name == "runtime.NumGoroutine")=false) (hb:fn.body=some c) :
    Calls P f args w fun e w'=>∃ v,e=.returned v/\G v w':=by
  have k:=h { dst:=some 0,op:=default,type:=0,pos := "",after:=#[],guard:=none } ⟨#[undef],[]⟩ (fun a w'=>G (a.tmps.getD 0 undef) w') (fun _ _ _=>False) (fun v w' g=>by simpa [Act.put] using g)
  rw [run_enter hf hname hb,Oper.upon_enter] at k
  refine k.mono fun e w' he=>?_
  cases e with
  | returned v=>exact ⟨v,rfl,by simpa [Act.put] using he⟩
  | panicked ch=>exact he.elim
  | outgrown=>obtain ⟨_,_,h⟩:=he;exact h.elim
end Go.Proofs.YtefmjjpdflpnaaaGreat.E
namespace Go.Proofs.YtefmjjpdflpnaaaGreat.E
open Go Go.RowKit Go.ChangeShapes Go.WideShapes Go.ChangeAt
set_option linter.unusedVariables false
set_option linter.unusedSimpArgs false
/-- Types of data: numbers, bools, strings, structs and slices of such. -/
def dataB:Ty->Bool
  | .int _=>true
  | .bool=>true
  | .str=>true
  | .unit=>true
  | .pair a b=>dataB a && dataB b
  | .st f=>f.isList && dataB f
  | .sl e=>dataB e && Nat.blt 0 e.sz
  | _=>false
/-- What is known of a value that reads as data. -/
def okD:(T:Ty)->den T->Prop
  | .int k,x=>(Lit.int k x).wf=true
  | .str,s=>(s:ByteArray).size<=maxLen
  | .pair a b,x=>okD a x.1/\okD b x.2
  | .st f,x=>okD f x
  | .sl e,l=>(l:List (den e)).length<=maxLen/\∀ y ∈ (l:List (den e)),okD e y
  | _,_=>True
section
variable {P:Program} {ty:Nat->Option Ty} {w:World}
/-- A type's values open. -/
def OpensD (P:Program) (w:World) (t:TypeId) (T:Ty):Prop :=
  ∀ (H:Type) (enc:TypeId × Value->H) (spare:Nat->Bool) (held:Bool) (fuel:Nat) (cs:List Value) (x:DataW H × List MemPlace),DataW.trod enc P w 0 spare held fuel t cs=some x->∃ y:den T,RX P T false w (fun b=>b < w.heap.size) cs y/\okD T y
theorem opens_fields {H:Type} {enc:TypeId × Value->H} {spare:Nat->Bool} {held:Bool} {n:Nat} (hO:∀ t T,ty t=some T->TyOk P ty t T):∀ (F:Ty) (fs:List Field) (base:Nat) (cs:List Value) (xs:List (DataW H × List MemPlace)),F.isList=true->fs.length=F.len->xs.length=fs.length →
    (∀ (i:Nat) (f:Field),fs[i]?=some f->f.offset=base + off F i/\ty f.type=some (fld F i))->(∀ (i:Nat) (f:Field),fs[i]?=some f->OpensD P w f.type (fld F i)) →
    (∀ (i:Nat) (f:Field),fs[i]?=some f->DataW.trod enc P w 0 spare held n f.type ((cs.drop f.offset).take (P.cellsOf f.type))=xs[i]?)->cs.length=base + F.sz->∃ y:den F,RX P F false w (fun b=>b < w.heap.size) (cs.drop base) y/\okD F y
  | .unit,fs,base,cs,xs,_,hl,_,_,_,_,hcs=>by
    refine ⟨(),?_,trivial⟩
    show cs.drop base=[]
    exact List.drop_eq_nil_of_le (by rw [hcs];exact Nat.le_refl _)
  | .pair A B,fs,base,cs,xs,hi,hl,hx,hf,hop,ht,hcs=>by
    cases fs with
    | nil=>simp [Ty.len] at hl
    | cons f fs =>
      cases xs with
      | nil=>simp at hx
      | cons x xs =>
        obtain ⟨f1,f2⟩:=hf 0 f rfl
        have h0:=ht 0 f rfl
        have hsz:P.cellsOf f.type=A.sz:=(hO _ _ f2).cellsOf
        rw [f1,hsz] at h0
        obtain ⟨y,y1,y2⟩:=hop 0 f rfl H enc spare held n _ x h0
        have hs:(Ty.pair A B).sz=A.sz + B.sz:=rfl
        obtain ⟨z,z1,z2⟩:=opens_fields hO B fs (base + A.sz) cs xs hi (by simpa [Ty.len] using hl) (by simpa using hx) (fun i g hg=>by
          obtain ⟨g1,g2⟩:=hf (i + 1) g (by simpa using hg)
          exact ⟨by rw [g1];simp only [off];omega,g2⟩) (fun i g hg=>hop (i + 1) g (by simpa using hg)) (fun i g hg=>by simpa using ht (i + 1) g (by simpa using hg)) (by rw [hcs,hs];omega)
        refine ⟨(y,z),⟨_,_,?_,y1,z1⟩,y2,z2⟩
        show cs.drop base=(cs.drop (base + 0)).take A.sz ++ cs.drop (base + A.sz)
        rw [Nat.add_zero,<-List.drop_drop,List.take_append_drop]
  | .int _,_,_,_,_,hi,_,_,_,_,_,_=>by cases hi
  | .bool,_,_,_,_,hi,_,_,_,_,_,_=>by cases hi
  | .str,_,_,_,_,hi,_,_,_,_,_,_=>by cases hi
  | .st _,_,_,_,_,hi,_,_,_,_,_,_=>by cases hi
  | .tup _,_,_,_,_,hi,_,_,_,_,_,_=>by cases hi
  | .sl _,_,_,_,_,hi,_,_,_,_,_,_=>by cases hi
  | .arr _ _,_,_,_,_,hi,_,_,_,_,_,_=>by cases hi
  | .ptr _,_,_,_,_,hi,_,_,_,_,_,_=>by cases hi
  | .fn _ _,_,_,_,_,hi,_,_,_,_,_,_=>by cases hi
  | .frm,_,_,_,_,hi,_,_,_,_,_,_=>by cases hi
theorem no_unit {t:TypeId} (h:TyOk P ty t .unit):False:=by
  obtain ⟨d,_,hu⟩:=h.und
  cases d <;> exact hu
theorem no_pair {A B:Ty} {t:TypeId} (h:TyOk P ty t (.pair A B)):False:=by
  obtain ⟨d,_,hu⟩:=h.und
  cases d <;> exact hu
theorem opens_sl (hO:∀ t T,ty t=some T->TyOk P ty t T) {e:Ty} (hs:0 < e.sz) (hne:e.isFr=false) {t:TypeId} (ht:ty t=some (.sl e)) (he:∀ et,ty et=some e->OpensD P w et e):OpensD P w t (.sl e):=by
  intro H enc spare held fuel cs x h
  obtain ⟨d,hd,hu⟩:=(hO _ _ ht).und
  cases d <;> simp only [UnOk] at hu
  rename_i et
  have hu:ty et=some e:=by
    rcases hu with hu | ⟨rfl,_⟩
    · exact hu
    · cases hne
  have hc:P.cellsOf et=e.sz:=(hO _ _ hu).cellsOf
  rcases Go.Deep.open_slice hd h with ⟨rfl,_⟩ | ⟨a,len,cap,m,n,D,Pl,rfl,_,hl,hm,hmm,_,hx⟩
  · exact ⟨([]:List (den e)),⟨none,0,0,rfl,rfl,Nat.le_refl _,.inl rfl⟩,Nat.zero_le _,fun y hy=>by cases hy⟩
  · have hlm:len<=m:=by rw [hmm];split <;> omega
    have hex:∀ i,i < len->∃ y:den e,(∃ c:List Value,c.length=e.sz/\RX P e false w (fun b=>b < w.heap.size) c y/\∀ j,j < e.sz->w.cell? (a.add (i * e.sz + j))=c[j]?)/\okD e y:=fun i hi=>by
      obtain ⟨cs',h1,h2⟩:=hx i (by omega)
      rw [hc] at h1
      obtain ⟨_,h3,h4⟩:=World.cells?_some h1
      obtain ⟨y,k1,k2⟩:=he et hu H enc spare held n cs' _ h2
      exact ⟨y,⟨cs',h3,k1,fun j hj=>by rw [<-Go.Deep.add_add,h4 j hj]⟩,k2⟩
    by_cases h0:len=0
    · subst h0
      exact ⟨([]:List (den e)),⟨some a,0,cap,rfl,rfl,hl,.inl rfl⟩,Nat.zero_le _,fun y hy=>by cases hy⟩
    · have hY:∃ Y:Nat->den e,∀ i,i < len->(∃ c:List Value,c.length=e.sz/\RX P e false w (fun b=>b < w.heap.size) c (Y i)/\∀ j,j < e.sz->w.cell? (a.add (i * e.sz + j))=c[j]?)/\okD e (Y i) :=
        ⟨fun i=>if h:i < len then (hex i h).choose else dflt e,fun i hi=>by simp only [dif_pos hi];exact (hex i hi).choose_spec⟩
      obtain ⟨Y,hY⟩:=hY
      -- the block
      have cellb:∀ k,k < len * e.sz->∃ u,w.cell? (a.add k)=some u:=fun k hk=>by
        have hi:k / e.sz < len:=Nat.div_lt_of_lt_mul (by rw [Nat.mul_comm];exact hk)
        obtain ⟨⟨c,c1,_,c3⟩,_⟩:=hY (k / e.sz) hi
        have hj:=Nat.mod_lt k hs
        have:=c3 (k % e.sz) hj
        rw [Nat.mul_comm,Nat.div_add_mod] at this
        exact ⟨c[k % e.sz]'(by omega),by rw [this,List.getElem?_eq_getElem]⟩
      have hpos:0 < len * e.sz:=Nat.mul_pos (by omega) hs
      obtain ⟨u0,hu0⟩:=cellb 0 hpos
      have ha:a.add 0=a:=by simp [Addr.add]
      rw [ha] at hu0
      unfold World.cell? at hu0
      split at hu0
      case h_2=>cases hu0
      rename_i arr bt fz hb
      have hspot:a.spot=none:=by
        cases hsp:a.spot with
        | none=>rfl
        | some q=>rw [hsp] at hu0;simp at hu0
      have hadd:∀ k,w.cell? (a.add k)=arr[a.off + k]?:=fun k=>by
        unfold Addr.add
        split
        · rename_i hk;subst hk;simp [World.cell?,hb,hspot]
        · simp [World.cell?,hb]
      have hin:a.off + len * e.sz<=arr.size:=by
        obtain ⟨u,hu⟩:=cellb (len * e.sz - 1) (by omega)
        rw [hadd] at hu
        have:=(Array.getElem?_eq_some_iff.1 hu).1
        omega
      have hlen:((List.range len).map Y).length=len:=by simp
      have hget:∀ i y,((List.range len).map Y)[i]?=some y->i < len/\y=Y i:=fun i y hy=>by
        rw [List.getElem?_map] at hy
        by_cases hi:i < len
        · rw [List.getElem?_range hi] at hy;exact ⟨hi,by simpa using hy.symm⟩
        · rw [List.getElem?_eq_none (by simpa using hi)] at hy;cases hy
      refine ⟨(List.range len).map Y,⟨some a,len,cap,rfl,hlen.symm,hl,.inr ⟨a.block,a.off,arr,bt,fz,by rw [<-hspot],(Array.getElem?_eq_some_iff.1 hb).1,hb,hin,fun i y hy=>?_⟩⟩,by rw [hlen];omega,fun y hy=>?_⟩
      · obtain ⟨hi,rfl⟩:=hget i y hy
        obtain ⟨⟨c,c1,c2,c3⟩,_⟩:=hY i hi
        have e1:seg arr.toList (a.off + i * e.sz) e.sz=c:=by
          apply List.ext_getElem?
          intro j
          rw [seg_get]
          by_cases hj:j < e.sz
          · rw [if_pos hj,<-c3 j hj,hadd,Array.getElem?_toList];congr 1;omega
          · rw [if_neg hj,List.getElem?_eq_none (by omega)]
        rw [e1];exact c2
      · obtain ⟨i,hi,rfl⟩:=List.mem_map.1 hy
        exact (hY i (List.mem_range.1 hi)).2
theorem opensAll (hO:∀ t T,ty t=some T->TyOk P ty t T):∀ T:Ty,(∀ t,ty t=some T->dataB T=true->OpensD P w t T)/\(∀ i t,ty t=some (fld T i)->dataB T=true->OpensD P w t (fld T i))
  | .int k=>⟨fun t ht _ H enc spare held fuel cs x h=>by
      obtain ⟨d,hd,hu⟩:=(hO _ _ ht).und
      cases d <;> simp only [UnOk] at hu
      subst hu
      obtain ⟨n,rfl,_,hw⟩:=DataW.trod_int hd h
      exact ⟨n,rfl,hw⟩,fun i t ht _=>(no_unit (hO t .unit (by rw [ht];cases i <;> rfl))).elim⟩
  | .bool=>⟨fun t ht _ H enc spare held fuel cs x h=>by
      obtain ⟨d,hd,hu⟩:=(hO _ _ ht).und
      cases d <;> simp only [UnOk] at hu
      obtain ⟨b,rfl,_⟩:=DataW.trod_bool hd h
      exact ⟨b,rfl,trivial⟩,fun i t ht _=>(no_unit (hO t .unit (by rw [ht];cases i <;> rfl))).elim⟩
  | .str=>⟨fun t ht _ H enc spare held fuel cs x h=>by
      obtain ⟨d,hd,hu⟩:=(hO _ _ ht).und
      cases d <;> simp only [UnOk] at hu
      obtain ⟨s,rfl,_,hs⟩:=DataW.trod_string hd h
      exact ⟨s,rfl,hs⟩,fun i t ht _=>(no_unit (hO t .unit (by rw [ht];cases i <;> rfl))).elim⟩
  | .unit=>⟨fun t ht _=>(no_unit (hO _ _ ht)).elim,fun i t ht _=>(no_unit (hO t .unit (by rw [ht];cases i <;> rfl))).elim⟩
  | .pair A B=>⟨fun t ht _=>(no_pair (hO _ _ ht)).elim,fun i t ht hd=>by
      simp only [dataB,Bool.and_eq_true] at hd
      cases i with
      | zero=>exact (opensAll hO A).1 t ht hd.1
      | succ i=>exact (opensAll hO B).2 i t ht hd.2⟩
  | .st f=>⟨fun t ht hd H enc spare held fuel cs x h=>by
      obtain ⟨d,hdd,hu⟩:=(hO _ _ ht).und
      cases d <;> simp only [UnOk] at hu
      rename_i fs
      simp only [dataB,Bool.and_eq_true] at hd
      obtain ⟨xs,n,_,_,hl,hxl,hf⟩:=DataW.trod_struct hdd h
      have hsz:cs.length=f.sz:=by rw [hl];exact (hO _ _ ht).cellsOf
      obtain ⟨y,y1,y2⟩:=opens_fields (n:=n) (enc:=enc) (spare:=spare) (held:=held) (w:=w) hO f fs.toList 0 cs xs hd.1 (by simpa using hu.1) (by simpa using hxl) (fun i g hg=>by
        have:=hu.2 i g (by simpa using hg)
        exact ⟨by rw [this.1,Nat.zero_add],this.2.1⟩) (fun i g hg=>(opensAll hO f).2 i g.type (hu.2 i g (by simpa using hg)).2.1 hd.2) (fun i g hg=>hf i g (by simpa using hg)) (by rw [hsz,Nat.zero_add])
      exact ⟨y,y1,y2⟩,fun i t ht _=>(no_unit (hO t .unit (by rw [ht];cases i <;> rfl))).elim⟩
  | .sl e=>⟨fun t ht hd=>by
      simp only [dataB,Bool.and_eq_true] at hd
      exact opens_sl hO (Nat.le_of_ble_eq_true hd.2) (by cases e <;> first | rfl | (rename_i f;cases f <;> first | rfl | exact absurd hd.1 (by decide))) ht fun et het=>(opensAll hO e).1 et het hd.1,fun i t ht _=>(no_unit (hO t .unit (by rw [ht];cases i <;> rfl))).elim⟩
  | .tup _=>⟨fun t ht hd=>(by cases hd),fun i t ht hd=>(by cases hd)⟩
  | .arr _ _=>⟨fun t ht hd=>(by cases hd),fun i t ht hd=>(by cases hd)⟩
  | .ptr _=>⟨fun t ht hd=>(by cases hd),fun i t ht hd=>(by cases hd)⟩
  | .fn _ _=>⟨fun t ht hd=>(by cases hd),fun i t ht hd=>(by cases hd)⟩
  | .frm=>⟨fun t ht hd=>(by cases hd),fun i t ht hd=>(by cases hd)⟩
end
end Go.Proofs.YtefmjjpdflpnaaaGreat.E
namespace Go.Proofs.YtefmjjpdflpnaaaGreat.E
open Go Go.RowKit
set_option linter.unusedVariables false
set_option linter.unusedSimpArgs false
theorem fnOk_none {P:Program} {f:Nat} {pas ret:Ty} {mu:List Bool}:FnOk P f ⟨pas,mu,ret,fun _=>none⟩ :=
  ⟨fun _ w vs x y _ h=>(by cases h),fun _ R h=>(by have h:ret=.pair R (outT pas mu):=h;subst h;intro w vs x y z bs _ _ h;cases h)⟩
/-- A call of a function with a body, told as the kit tells it. -/
theorem cf_of_calls {P:Program} {f:FuncId} {fn:Func} {c:Code} {args:Array Value} {w:World} {G:Value->World->Prop} (hf:P.funcs[f]?=some fn) (hname:(fn.name == "runtime.NumGoroutine")=false) (hb:fn.body=some c)
    (h:Calls P f args w fun e w'=>∃ v,e=.returned v/\G v w'):CF P f args w G:=by
  intro o a next Q hn
  rw [run_enter hf hname hb,Oper.upon_enter]
  refine h.mono ?_
  rintro e w' ⟨v,rfl,g⟩
  exact hn v w' g
/-- A call that the model answers at once. -/
theorem cf_of_value {P:Program} {f:FuncId} {args:Array Value} {w w':World} {v:Value} {G:Value->World->Prop} (h:(callFunc f args).run P w=.ok (.value v) w') (hG:G v w'):CF P f args w G:=by
  intro o a next Q hn
  rw [h,Oper.upon_value]
  exact hn v w' hG
theorem ret_plain {R:Ty} (hm:R.mem=false) (hp:R.isPU=false) (ht:R.isTup=false) {y:den R} {w w':World} {c:List Value} (h:TC R w' c y []) (hb:Below w.heap.size w w'):Ret R y w (valOf R c) w':=by
  refine ⟨[],?_,List.nodup_nil,fun b hb=>(by cases hb),hb⟩
  cases R <;> first | exact ⟨c,rfl,h⟩ | exact h.elim | exact absurd hp (by decide) | exact absurd ht (by decide) | exact absurd hp (fun h=>by cases h) | exact absurd ht (fun h=>by cases h)
end Go.Proofs.YtefmjjpdflpnaaaGreat.E
namespace Go.Proofs.YtefmjjpdflpnaaaGreat.E
open Go Go.RowKit Go.Shelf
set_option linter.unusedVariables false
set_option linter.unusedSimpArgs false
theorem cellAt {w:World} {b o:Nat} {arr:Array Value} {t:TypeId} {fz:Nat × Nat} (h:w.heap[b]?=some (.cells arr t fz)) (j:Nat):w.cell? ⟨b,o + j,none⟩=arr[o + j]?:=by
  simp [World.cell?,h]
/-- The library's search for a byte in a string. -/
theorem indexByte_ok {P:Program} {f:FuncId} {fn:Func} (hf:P.funcs[f]?=some fn) (hname:(fn.name == "runtime.NumGoroutine")=false) (hb:fn.body.isNone=true) (hn:Extern.findNext fn=none) (he:Extern.find fn=some Extern.BytealgIndexByte.indexByte) :
    FnOk P f ⟨.pair .str (.pair (.int .u8) .unit),[false,false],.int .i64,fun x=>some (Lib.indexByte (x.1:ByteArray).data.toList (x.2.1:Int).toNat.toUInt8)⟩:=by
  refine ⟨fun _=>?_,fun h=>by cases h⟩
  intro w vs x y hx hy
  obtain ⟨c,r,rfl,hc,c2,r2,rfl,hc2,hr⟩:=hx
  have hr:r2=[]:=hr
  subst hr
  have hc:c=[.string x.1]:=hc
  have hc2:c2=[.int .u8 x.2.1]:=hc2
  subst hc;subst hc2
  cases hy
  refine cf_of_value (by
    rw [run_callFunc_extern hf hname hb hn he]
    show ((Extern.BytealgIndexByte.indexByte #[.string x.1,.int .u8 x.2.1]).run P w).andThen _=_
    rw [Lib.run_indexByteString];rfl) ?_
  exact ⟨[],⟨_,rfl,rfl,rfl⟩,List.nodup_nil,fun b hb=>(by cases hb),Below.refl _ _⟩
end Go.Proofs.YtefmjjpdflpnaaaGreat.E
namespace Go.Proofs.YtefmjjpdflpnaaaGreat.E
open Go Go.RowKit Go.ChangeShapes Go.WideShapes Go.ChangeAt
set_option linter.unusedVariables false
set_option linter.unusedSimpArgs false
theorem ok_valOf {P:Program} {ty:Nat->Option Ty} {w:World} {base t:Nat} {T:Ty} (h:TyOk P ty t T) (hd:dataB T=true) {v:Value} (hv:Value.okWide P w .any base t v):v=valOf T v.cells.toList:=by
  obtain ⟨d,hu,hok⟩:=h.und
  cases T with
  | frm=>cases d <;> simp [UnOk] at hok
  | st f =>
    cases d <;> simp only [UnOk] at hok
    simp only [Value.okWide,hu] at hv
    obtain ⟨cs,rfl,_⟩:=hv
    simp [Value.cells,valOf]
  | int k =>
    cases d <;> simp only [UnOk] at hok
    simp only [Value.okWide,Cell.okWide,hu] at hv
    cases v <;> simp_all [Cell.ok,Value.cells,valOf]
  | bool =>
    cases d <;> simp only [UnOk] at hok
    simp only [Value.okWide,Cell.okWide,hu] at hv
    cases v <;> simp_all [Cell.ok,Value.cells,valOf]
  | str =>
    cases d <;> simp only [UnOk] at hok
    simp only [Value.okWide,Cell.okWide,hu] at hv
    cases v <;> simp_all [Cell.ok,Value.cells,valOf]
  | sl e =>
    cases d <;> simp only [UnOk] at hok
    simp only [Value.okWide,Cell.okWide,hu] at hv
    cases v <;> simp_all [Cell.ok,Value.cells,valOf]
  | unit=>exact (no_unit h).elim
  | pair a b=>exact (no_pair h).elim
  | tup _=>cases hd
  | arr _ _=>cases hd
  | ptr _=>cases hd
  | fn _ _=>cases hd
/-- One argument: what it reads as, its cells, what is known of it. -/
theorem arg_open {P:Program} {ty:Nat->Option Ty} {w:World} {base t:Nat} {T:Ty} (O:∀ t T,ty t=some T->TyOk P ty t T) (ht:ty t=some T) (hd:dataB T=true) {v:Value} (hv:Value.okWide P w .any base t v)
    {H:Type} {enc:TypeId × Value->H} {spare:Nat->Bool} {held:Bool} {d:DataW H} {ps:List MemPlace} (h:DataW.Trod enc P w 0 spare held t v d ps) :
    ∃ y:den T,v=valOf T v.cells.toList/\RX P T false w (fun b=>b < w.heap.size) v.cells.toList y/\okD T y:=by
  obtain ⟨m,hm⟩:=h
  obtain ⟨y,y1,y2⟩:=(opensAll (w:=w) O T).1 t ht hd H enc spare held m _ _ hm
  exact ⟨y,ok_valOf (O t T ht) hd hv,y1,y2⟩
theorem ret_bool {w w':World} {v:Value} {b:Bool} (h:Ret .bool b w v w'):v=.bool b/\Below w.heap.size w w':=by
  obtain ⟨bs,⟨cs,e,h1,h2⟩,_,_,h3⟩:=h
  refine ⟨?_,h3⟩
  have h1:cs=[.bool b]:=h1
  subst h1
  simpa [valOf] using e
end Go.Proofs.YtefmjjpdflpnaaaGreat.E
namespace Go.Proofs.YtefmjjpdflpnaaaGreat.E
open Go Go.RowKit
set_option linter.unusedVariables false
set_option linter.unusedSimpArgs false
section
variable {C:Cx} {cf:Cfg} {st st':St} {a:Act} {w w':World} {G G':Gh} {us:U}
theorem kcan_fit:∀ (sh:Shp) (d:Nat),sh.okI=true->KFit sh (kcan sh d).1/\∀ p ∈ (kcan sh d).1.ids,p.2=1
  | .v T,d,_=>⟨trivial,fun p hp=>(by cases hp)⟩
  | .r e,d,_=>⟨trivial,fun p hp=>by simp only [kcan,KS.ids,List.mem_singleton] at hp;rw [hp]⟩
  | .bx c,d,h=>by cases h
  | .cl _ c,d,h=>by cases h
  | .unit,d,_=>⟨trivial,fun p hp=>(by cases hp)⟩
  | .pair a b,d,h=>by
    simp only [Shp.okI,Bool.and_eq_true] at h
    obtain ⟨h1,h2⟩:=kcan_fit a d h.1
    obtain ⟨h3,h4⟩:=kcan_fit b (kcan a d).2 h.2
    exact ⟨⟨h1,h3⟩,fun p hp=>(List.mem_append.1 hp).elim (h2 p) (h4 p)⟩
  | .st a,d,h=>kcan_fit a d h
theorem kzL_fit:∀ (l:Lv) {vs:List Value},(l.all fun z=>z.2.okO)=true->vs.length=l.length->FitL st0 G l (kzL l) vs
  | [],vs,_,hv=>by rw [List.length_eq_zero_iff.1 hv];trivial
  | (i,sh) :: l,[],_,hv=>by simp at hv
  | (i,sh) :: l,v :: vs,h,hv=>by
    simp only [List.all_cons,Bool.and_eq_true] at h
    have ih:=kzL_fit l (vs:=vs) h.2 (by simpa using hv)
    have g0:∀ k,(st0 k).gen=0:=fun k=>rfl
    cases sh with
    | bx c =>
      obtain ⟨h1,h2⟩:=kcan_fit c (8 * i + 1) h.1
      exact ⟨h1,fun p hp=>by rw [h2 p hp];exact Nat.zero_lt_one,.inl Nat.zero_lt_one,ih⟩
    | cl f c =>
      obtain ⟨h1,h2⟩:=kcan_fit c (8 * i + 1) h.1
      exact ⟨h1,fun p hp=>by rw [h2 p hp];exact Nat.zero_lt_one,.inl Nat.zero_lt_one,ih⟩
    | _ =>
      have hI:=h.1
      simp only [Shp.okO,Bool.and_eq_true] at hI
      obtain ⟨h1,h2⟩:=kcan_fit _ (8 * i) hI.1
      exact ⟨h1,fun p hp=>by rw [h2 p hp];exact Nat.zero_lt_one,ih⟩
theorem putS_keys:∀ (sh:Shp) (k:KS) (x:den sh.ty),KFit sh k->(putS sh k x).2.map (·.1)=k.keys
  | .v T,k,x,h=>by cases k <;> first | rfl | exact h.elim
  | .r e,k,x,h=>by cases k <;> first | rfl | exact h.elim
  | .bx c,k,x,h=>by cases k <;> exact h.elim
  | .cl _ c,k,x,h=>by cases k <;> exact h.elim
  | .unit,k,x,h=>by cases k <;> first | rfl | exact h.elim
  | .pair a b,k,x,h=>by
    cases k <;> try exact h.elim
    rename_i k1 k2
    show ((putS a k1 x.1).2 ++ (putS b k2 x.2).2).map (·.1)=_
    rw [List.map_append,putS_keys a k1 x.1 h.1,putS_keys b k2 x.2 h.2];rfl
  | .st a,k,x,h=>by
    cases k <;> try exact h.elim
    rename_i k1
    exact putS_keys a k1 x h
theorem putL_keys:∀ (l:Lv) (ks:List (Nat × Nat × KS)) (x:den l.ty) {vs:List Value},FitL st G l ks vs->(putL l ks x).2.map (·.1)=keysL l ks
  | [],[],x,vs,h=>rfl
  | [],_ :: _,x,vs,h=>rfl
  | (i,sh) :: l,[],x,vs,h=>by cases sh <;> cases vs <;> exact h.elim
  | (i,sh) :: l,k :: ks,x,[],h=>by cases sh <;> exact h.elim
  | (i,sh) :: l,(b,g,k) :: ks,x,v :: vs,h=>by
    cases sh with
    | bx c =>
      show ((bk b,_) :: (putS c k x.1).2 ++ (putL l ks x.2).2).map (·.1)=_
      rw [List.map_append,List.map_cons,putS_keys c k x.1 h.1,putL_keys l ks x.2 h.2.2.2];rfl
    | cl f c =>
      show ((bk b,_) :: (putS c k x.1).2 ++ (putL l ks x.2).2).map (·.1)=_
      rw [List.map_append,List.map_cons,putS_keys c k x.1 h.1,putL_keys l ks x.2 h.2.2.2];rfl
    | v T =>
      show ((putS _ k x.1).2 ++ (putL l ks x.2).2).map (·.1)=_
      rw [List.map_append,putS_keys _ k x.1 h.1,putL_keys l ks x.2 h.2.2];rfl
    | r T =>
      show ((putS _ k x.1).2 ++ (putL l ks x.2).2).map (·.1)=_
      rw [List.map_append,putS_keys _ k x.1 h.1,putL_keys l ks x.2 h.2.2];rfl
    | unit =>
      show ((putS _ k x.1).2 ++ (putL l ks x.2).2).map (·.1)=_
      rw [List.map_append,putS_keys _ k x.1 h.1,putL_keys l ks x.2 h.2.2];rfl
    | pair A B =>
      show ((putS _ k x.1).2 ++ (putL l ks x.2).2).map (·.1)=_
      rw [List.map_append,putS_keys _ k x.1 h.1,putL_keys l ks x.2 h.2.2];rfl
    | st A =>
      show ((putS _ k x.1).2 ++ (putL l ks x.2).2).map (·.1)=_
      rw [List.map_append,putS_keys _ k x.1 h.1,putL_keys l ks x.2 h.2.2];rfl
/-- The slots of the parameters. -/
theorem slots_sw {P:Program} {S:Nat->Prop}:∀ (l:Lv) (v:SV) {vs:List Value} (i0:Nat),idxs i0 l=true->SX P st G w S v true vs->∀ z ∈ slotsU l v,∃ j v',z=(sk (i0 + j),.sv v')/\j < vs.length/\SW P st G w S v' (vs.getD j undef)
  | [],v,vs,i0,_,_,z,hz=>by cases v <;> cases hz
  | (i,sh) :: l,v,vs,i0,hi,h,z,hz=>by
    cases v with
    | pair a b =>
      obtain ⟨c,r,rfl,h1,h2⟩:=h
      simp only [idxs,Bool.and_eq_true] at hi
      have hi0:=Nat.eq_of_beq_eq_true hi.1
      subst hi0
      rcases List.mem_cons.1 hz with hz | hz
      · refine ⟨0,a,hz,by simp,?_⟩
        show SW P st G w S a (valS a c)
        cases a <;> first | exact ⟨c,rfl,h1⟩ | exact h1.elim
      · obtain ⟨j,v',k1,k2,k3⟩:=slots_sw l b (i + 1) hi.2 h2 z hz
        refine ⟨j + 1,v',by rw [k1];congr 2;omega,by simpa using k2,by simpa using k3⟩
    | _=>cases hz
theorem slots_keys:∀ (l:Lv) (v:SV) (i0:Nat),idxs i0 l=true->((slotsU l v).map (·.1)).Nodup/\∀ z ∈ slotsU l v,∃ j v',z=(sk j,.sv v')/\i0<=j
  | [],v,i0,_=>by cases v <;> exact ⟨List.nodup_nil,fun z hz=>(by cases hz)⟩
  | (i,sh) :: l,v,i0,hi=>by
    cases v with
    | pair a b =>
      simp only [idxs,Bool.and_eq_true] at hi
      have hi0:=Nat.eq_of_beq_eq_true hi.1
      subst hi0
      obtain ⟨h1,h2⟩:=slots_keys l b (i + 1) hi.2
      refine ⟨?_,fun z hz=>?_⟩
      · show (sk i :: (slotsU l b).map (·.1)).Nodup
        rw [List.nodup_cons]
        refine ⟨fun hm=>?_,h1⟩
        obtain ⟨z,hz,e⟩:=List.mem_map.1 hm
        obtain ⟨j,v',e2,hj⟩:=h2 z hz
        rw [e2] at e
        have:=sk_inj e
        omega
      · rcases List.mem_cons.1 hz with hz | hz
        · exact ⟨i,a,hz,Nat.le_refl _⟩
        · obtain ⟨j,v',k1,k2⟩:=h2 z hz
          exact ⟨j,v',k1,by omega⟩
    | _=>exact ⟨List.nodup_nil,fun z hz=>(by cases hz)⟩
theorem entry_invS {P:Program} {ps:Lv} {vals:List Value} {x:den ps.ty} {bs:List Nat} {S:Nat->Prop} {pr nt:Nat} (h:XL P ps w S vals x bs) (hn:bs.Nodup) (hS:∀ b,S b->b < w.heap.size/\b ∉ bs) (hbs:∀ b ∈ bs,b < w.heap.size) (hok:entSB ps=true) (hlen:ps.length<=nt) (hpr:pr<=ps.length) :
    ∃ G,Inv ⟨P,w,bs,vals,pr,nt,fun b=>S b\/w.heap.size<=b\/b ∈ bs⟩ (entSt ps x) { tmps:=vals.toArray ++ Array.replicate (nt - vals.toArray.size) undef,defers:=[] } w G:=by
  simp only [entSB,Bool.and_eq_true,nodupB_iff] at hok
  obtain ⟨⟨hi,hO⟩,hkn⟩:=hok
  have hvl:=XL_len _ h
  let G0:Gh:=⟨fun _=>undef,fun _=>[],fun _=>0,fun b=>S b\/w.heap.size<=b\/b ∈ bs⟩
  have hfit:=kzL_fit (G:=G0) ps (vs:=vals) hO hvl
  obtain ⟨ge,K⟩:=putL_ok (st:=st0) (G:=G0) (fun b hb=>(hS b hb).1) ps (kzL ps) x hfit h
  have hke:=putL_keys ps (kzL ps) x hfit
  have hkn:((putL ps (kzL ps) x).2.map (·.1)).Nodup:=by rw [hke];exact hkn
  have hkg:(ge.map (·.1)).Nodup:=K.keys ▸ hkn
  obtain ⟨hsn,hsk⟩:=slots_keys ps (putL ps (kzL ps) x).1 0 hi
  have bn:(ge.flatMap (·.2.2)).Nodup:=K.bls ▸ hn
  let G:Gh:=⟨fun k=>match ge.lookup k with | some q=>q.1 | none=>undef,fun k=>match ge.lookup k with | some q=>q.2 | none=>[],fun k=>match ge.lookup k with | some q=>q.2.headD 0 | none=>0,fun b=>S b\/w.heap.size<=b\/b ∈ bs⟩
  have hga:GA G ge:=fun q hq=>by
    have:=lkp_mem ge hkg (show (q.1,q.2) ∈ ge from hq)
    refine ⟨?_,?_,?_⟩
    · show (match ge.lookup q.1 with | some q=>q.1 | none=>undef)=_;rw [this]
    · show (match ge.lookup q.1 with | some q=>q.2 | none=>[])=_;rw [this]
    · show (match ge.lookup q.1 with | some q=>q.2.headD 0 | none=>0)=_;rw [this]
  have hin:∀ z ∈ (putL ps (kzL ps) x).2,entSt ps x z.1=z.2:=fun z hz=>upds_in _ _ hkn (by simpa using hz)
  have hcell:∀ z ∈ (putL ps (kzL ps) x).2,∀ i,z.1 ≠ sk i:=fun z hz i e=>by
    obtain ⟨q,_,_,⟨t,_,_,_,h1,_⟩ | ⟨b,_,_,_,_,_,_,h1,_⟩⟩:=K.cell z hz
    · rw [h1] at e;exact sk_ne_rk _ _ e.symm
    · rw [h1] at e;exact sk_ne_bk _ _ e.symm
  have hslot:∀ i,entSt ps x (sk i)=upds st0 (slotsU ps (putL ps (kzL ps) x).1) (sk i):=fun i=>upds_out _ _ _ fun p hp e=>hcell p hp i e
  have hout:∀ k,(∀ i,k ≠ sk i)->k ∉ (putL ps (kzL ps) x).2.map (·.1)->entSt ps x k=.none:=fun k h1 h2=>by
    have e1:entSt ps x k=upds st0 (slotsU ps (putL ps (kzL ps) x).1) k:=upds_out _ _ _ fun p hp e=>h2 (List.mem_map.2 ⟨p,hp,e⟩)
    rw [e1,upds_out _ _ _ fun p hp e=>?_];rfl
    obtain ⟨j,v',e2,_⟩:=hsk p hp
    rw [e2] at e;exact h1 j e.symm
  have hsl:∀ i,entSt ps x (sk i)=.none\/∃ v,entSt ps x (sk i)=.sv v/\(sk i,Cell.sv v) ∈ slotsU ps (putL ps (kzL ps) x).1:=fun i=>by
    rw [hslot i]
    by_cases hk:∃ p ∈ slotsU ps (putL ps (kzL ps) x).1,p.1=sk i
    · obtain ⟨p,hp,e⟩:=hk
      obtain ⟨j,v',e2,_⟩:=hsk p hp
      rw [e2] at e
      have:=sk_inj e
      subst this
      right
      rw [e2] at hp
      exact ⟨v',upds_in _ _ hsn hp,hp⟩
    · left
      rw [upds_out _ _ _ fun p hp e=>hk ⟨p,hp,e⟩];rfl
  have hmem:∀ k,entSt ps x k ≠ .none->(∀ i,k ≠ sk i)->∃ z ∈ (putL ps (kzL ps) x).2,z.1=k:=fun k h1 h2=>by
    by_cases hk:k ∈ (putL ps (kzL ps) x).2.map (·.1)
    · obtain ⟨z,hz,e⟩:=List.mem_map.1 hk;exact ⟨z,hz,e⟩
    · exact absurd (hout k h2 hk) h1
  have hns:∀ k c,entSt ps x k=c->(∀ v,c ≠ .sv v)->c ≠ .none->∃ z ∈ (putL ps (kzL ps) x).2,z.1=k:=fun k c h1 h2 h3=>by
    refine hmem k (by rw [h1];exact h3) fun i e=>?_
    subst e
    rcases hsl i with h | ⟨v,h,_⟩
    · rw [h] at h1;exact h3 h1.symm
    · rw [h] at h1;exact h2 v h1.symm
  have hown:∀ k b,b ∈ ownB (entSt ps x) G k->∃ z ∈ (putL ps (kzL ps) x).2,z.1=k:=fun k b hb=>by
    unfold ownB at hb
    split at hb
    · rename_i g h e l hr;exact hns k _ hr (fun v e=>by cases e) (by simp)
    · rename_i g T v hr;exact hns k _ hr (fun v e=>by cases e) (by simp)
    · rename_i g hr;exact hns k _ hr (fun v e=>by cases e) (by simp)
    · cases hb
  have hz:∀ z ∈ (putL ps (kzL ps) x).2,∃ q ∈ ge,q.1=z.1/\ownB (entSt ps x) G z.1=q.2.2:=fun z hz=>by
    obtain ⟨q,hq,e,h⟩:=K.cell z hz
    refine ⟨q,hq,e,?_⟩
    have hz2:=hin z hz
    have g:=hga q hq
    rw [e] at g
    unfold ownB
    rw [hz2]
    rcases h with ⟨t,g',e',l,h1,_⟩ | ⟨b,g',T,v,blk,arr,ty,h1,h2,_⟩
    · rw [h1];rw [h1] at g;exact g.2.1
    · rw [h1];rw [h1] at g
      show [G.bx (bk b)]=_
      rw [g.2.2,h2];rfl
  have hfz:∀ b,S b->Fz (entSt ps x) G w b:=fun b hb=>by
    refine ⟨(hS b hb).1,fun k hk=>?_,.inl hb⟩
    obtain ⟨z,hz1,rfl⟩:=hown k b hk
    obtain ⟨q,hq,_,ho⟩:=hz z hz1
    rw [ho] at hk
    exact (hS b hb).2 (by rw [K.bls];exact List.mem_flatMap.2 ⟨q,hq,hk⟩)
  have hinst:Inst (putL ps (kzL ps) x).2 ge S w (entSt ps x) G (Fz (entSt ps x) G w):=⟨hin,hga,hfz,fun b hb=>hb.1⟩
  have hsx:=K.sx _ _ _ hinst
  have hsize:vals.toArray.size=vals.length:=by simp
  have htm:∀ i,i < vals.length->({ tmps:=vals.toArray ++ Array.replicate (nt - vals.toArray.size) undef,defers:=[] }:Act).tmps.getD i undef=vals.getD i undef:=fun i hi=>by
    show (vals.toArray ++ Array.replicate (nt - vals.toArray.size) undef).getD i undef=_
    simp only [Array.getD_eq_getD_getElem?,List.getD]
    rw [Array.getElem?_append_left (by simpa using hi)]
    simp
  refine ⟨G,{ rt:=fun k g hh e l hr=>?_,sc:=fun i=>?_,bx:=fun k g T v hr=>?_,nd:=fun k=>?_,dj:=fun k k' b h1 h2=>?_,lt:=fun k b hb=>?_,os:=rfl,tape:=rfl,output:=rfl,size:=Nat.le_refl _,block:=fun _ _ _=>rfl,s0:=rfl,m0:=fun b hb=>hb.elim (fun h=>.inr (.inl h)) (fun h=>.inr (.inr h)),sl:=fun i v hv=>?_,df:=rfl,sz:=?_,pa:=fun i hi=>?_ }⟩
  · obtain ⟨z,hz1,rfl⟩:=hns k _ hr (fun v e=>by cases e) (by simp)
    obtain ⟨q,hq,e',hc⟩:=K.cell z hz1
    have hz2:=hin z hz1
    have gg:=hga q hq
    rw [e'] at gg
    rw [hz2] at hr
    rcases hc with ⟨t,g',e2,l2,h1,h2,_⟩ | ⟨b,g',T,v,blk,arr,ty,h1,_⟩
    · rw [h1] at hr;cases hr
      rw [gg.1,gg.2.1];exact h2
    · rw [h1] at hr;cases hr
  · rcases hsl i with h | ⟨v,h,_⟩
    · exact .inr h
    · exact .inl ⟨v,h⟩
  · obtain ⟨z,hz1,rfl⟩:=hns k _ hr (fun v e=>by cases e) (by simp)
    obtain ⟨q,hq,e',hc⟩:=K.cell z hz1
    have hz2:=hin z hz1
    have gg:=hga q hq
    rw [e'] at gg
    rw [hz2] at hr
    rcases hc with ⟨t,g',e2,l2,h1,_⟩ | ⟨b,g',T',v',blk,arr,ty,h1,h2,h3,h4,h5,h6⟩
    · rw [h1] at hr;cases hr
    · rw [h1] at hr;cases hr
      refine ⟨h3,arr,ty,?_,h6 _ _ _ hinst⟩
      rw [gg.2.2,h2];exact h4
  · by_cases hk:∃ z ∈ (putL ps (kzL ps) x).2,z.1=k
    · obtain ⟨z,hz1,rfl⟩:=hk
      obtain ⟨q,hq,e,ho⟩:=hz z hz1
      rw [ho];exact flat_nd bn q hq
    · have:ownB (entSt ps x) G k=[]:=List.eq_nil_iff_forall_not_mem.2 fun b hb=>hk (hown k b hb)
      rw [this];exact List.nodup_nil
  · obtain ⟨z,hz1,rfl⟩:=hown k b h1
    obtain ⟨z',hz1',rfl⟩:=hown k' b h2
    obtain ⟨q,hq,e,ho⟩:=hz z hz1
    obtain ⟨q',hq',e',ho'⟩:=hz z' hz1'
    rw [ho] at h1;rw [ho'] at h2
    rw [<-e,<-e',flat_dj bn q hq q' hq' b h1 h2]
  · obtain ⟨z,hz1,rfl⟩:=hown k b hb
    obtain ⟨q,hq,e,ho⟩:=hz z hz1
    rw [ho] at hb
    have:b ∈ bs:=by rw [K.bls];exact List.mem_flatMap.2 ⟨q,hq,hb⟩
    exact ⟨hbs b this,.inr this⟩
  · rcases hsl i with h | ⟨v',h,hm⟩
    · rw [h] at hv;cases hv
    · rw [h] at hv;cases hv
      obtain ⟨j,v2,e2,hj,hw⟩:=slots_sw ps _ 0 hi hsx _ hm
      simp only [Prod.mk.injEq,Cell.sv.injEq,Nat.zero_add] at e2
      have:=sk_inj e2.1
      subst this
      rw [e2.2,htm i hj];exact hw
  · show (vals.toArray ++ Array.replicate (nt - vals.toArray.size) undef).size=nt
    rw [Array.size_append,Array.size_replicate,hsize];omega
  · show (vals.toArray ++ Array.replicate (nt - vals.toArray.size) undef).getD i undef=vals.getD i undef
    exact htm i (by rw [hvl];exact Nat.lt_of_lt_of_le hi hpr)
theorem outsV_run {α:Type} {u:α} (I:Inv C st a w G):∀ (l:Lv) {f:SV->M α},Rn (outsV l f) st u->∃ v,SX C.P st G w (Fz st G w) v true (l.map fun p=>a.tmps.getD p.1 undef)/\Rn (f v) st u
  | [],f,h=>⟨.unit,rfl,h⟩
  | (i,sh) :: l,f,h=>by
    unfold outsV at h
    obtain ⟨v,_,hv,h⟩:=slot_run I h
    split at h
    · exact (Rn_fail.1 h).elim
    · rename_i hnt
      obtain ⟨v',k1,k2⟩:=outsV_run I l h
      obtain ⟨c,hc1,hc2⟩:=SW_cells hv (fun b e=>hnt b e)
      exact ⟨.pair v v',⟨c,_,by rw [List.map_cons,hc1],hc2,k1⟩,k2⟩
theorem outV_map (f:Nat->Value):∀ (l:Lv) (vs:List Value) (i0:Nat),idxs i0 l=true->vs.length=l.length->(∀ p ∈ outL l,p.1 < i0 + vs.length->f p.1=vs.getD (p.1 - i0) undef)->(outL l).map (fun p=>f p.1)=outV l vs
  | [],vs,i0,_,hv,_=>by rw [List.length_eq_zero_iff.1 hv];rfl
  | (i,sh) :: l,[],i0,_,hv,_=>by simp at hv
  | (i,sh) :: l,v :: vs,i0,hi,hv,h=>by
    simp only [idxs,Bool.and_eq_true] at hi
    have hi0:=Nat.eq_of_beq_eq_true hi.1
    subst hi0
    have hge:∀ (l:Lv) (i0:Nat),idxs i0 l=true->∀ p ∈ outL l,i0<=p.1:=by
      intro l
      induction l with
      | nil=>intro i0 _ p hp;cases hp
      | cons q l ih =>
        intro i0 hi p hp
        obtain ⟨q1,q2⟩:=q
        simp only [idxs,Bool.and_eq_true] at hi
        have e:=Nat.eq_of_beq_eq_true hi.1
        have:=fun hp=>ih (i0 + 1) hi.2 p hp
        cases q2 with
        | bx c =>
          rcases List.mem_cons.1 hp with hp | hp
          · rw [hp];exact Nat.le_of_eq e.symm
          · have:=this hp;omega
        | cl f c =>
          rcases List.mem_cons.1 hp with hp | hp
          · rw [hp];exact Nat.le_of_eq e.symm
          · have:=this hp;omega
        | _=>have:=this hp;omega
    have rest:=outV_map f l vs (i + 1) hi.2 (by simpa using hv) (fun p hp hlt=>by
      have h1:=hge l (i + 1) hi.2 p hp
      have hp':p ∈ outL ((i,sh) :: l):=by cases sh <;> first | exact hp | exact List.mem_cons_of_mem _ hp
      rw [h p hp' (by simp;omega),show p.1 - i=(p.1 - (i + 1)) + 1 from by omega];simp)
    cases sh with
    | bx c =>
      show f i :: (outL l).map (fun p=>f p.1)=v :: outV l vs
      rw [rest,h (i,.bx c) List.mem_cons_self (by simp)];simp
    | cl f0 c =>
      show f i :: (outL l).map (fun p=>f p.1)=v :: outV l vs
      rw [rest,h (i,.cl f0 c) List.mem_cons_self (by simp)];simp
    | _=>exact rest
/-- The boxes among the parameters stand in slots that stay as they are. -/
def protB (ps:Lv) (pr:Nat):Bool:=(outL ps).all fun p=>Nat.blt p.1 pr
theorem fin_shape {P:Program} {ps rl:Lv} {vals:List Value} {bs:List Nat} {S:Nat->Prop} {w0:World} {fn:Func} {y:den rl.ty × den (outL ps).ty} {pr nt:Nat} (O:CfgOk ⟨P,w0,bs,vals,pr,nt,fun b=>S b\/w0.heap.size<=b\/b ∈ bs⟩ cf) (I:Inv ⟨P,w0,bs,vals,pr,nt,fun b=>S b\/w0.heap.size<=b\/b ∈ bs⟩ st a w G)
    {F:den ps.ty->Option (den rl.ty × den (outL ps).ty)} (hi:idxs 0 ps=true) (hp:protB ps pr=true) (hvl:vals.length=ps.length) (h:Rn (finS cf fn.results.toList ps rl) st y):∃ v,(results fn a.tmps).run P w=.ok v w/\ShRet P ⟨ps,rl,F⟩ vals y.1 y.2 bs S w0 v w:=by
  unfold finS at h
  obtain ⟨v,vs,h1,h2,h⟩:=resSV_run O I _ h
  obtain ⟨x,ks,gs,od,d1,h,A⟩:=rdL_run I.toInvM rl v _ h h2
  obtain ⟨u,h3,h⟩:=outsV_run I (outL ps) h
  obtain ⟨z,ks',gs',od',d2,h,B⟩:=rdL_run I.toInvM (outL ps) u _ h h3
  rw [Rn_bif] at h
  rcases h with ⟨hb,h⟩ | ⟨_,h⟩
  case inr=>exact (Rn_fail.1 h).elim
  rw [Rn_ret] at h
  subst h
  rw [nodupB_iff] at hb
  obtain ⟨hodn,_,hodg⟩:=List.nodup_append.1 hb
  have hov:(outL ps).map (fun p=>a.tmps.getD p.1 undef)=outV ps vals:=outV_map (fun i=>a.tmps.getD i undef) ps vals 0 hi hvl fun p hp' _=>by
    have:=List.all_eq_true.1 hp p hp'
    rw [Nat.sub_zero]
    exact I.pa p.1 (Nat.le_of_ble_eq_true this)
  have hown:∀ b,b ∈ od.flatMap (ownB st G) ++ od'.flatMap (ownB st G)->∃ k ∈ od ++ od',b ∈ ownB st G k:=fun b hb=>by
    rcases List.mem_append.1 hb with hb | hb
    · obtain ⟨k,hk,hb⟩:=List.mem_flatMap.1 hb;exact ⟨k,List.mem_append_left _ hk,hb⟩
    · obtain ⟨k,hk,hb⟩:=List.mem_flatMap.1 hb;exact ⟨k,List.mem_append_right _ hk,hb⟩
  have s0:∀ b,G.s0 b->S b\/w0.heap.size<=b\/b ∈ bs:=fun b hb=>by rw [I.s0] at hb;exact hb
  have hS1:∀ b,Fz st G w b->b < w.heap.size/\(S b\/w0.heap.size<=b\/b ∈ bs)/\b ∉ od.flatMap (ownB st G) ++ od'.flatMap (ownB st G):=fun b hb=>⟨hb.1,s0 b hb.2.2,fun hm=>by
    obtain ⟨k,_,hk⟩:=hown b hm
    exact hb.2.1 k hk⟩
  have hS2:∀ (gs2:List (Nat × Nat)),(∀ p ∈ gs2,p ∈ gs ++ gs')->(∀ p ∈ gs2,RT st p)->∀ p ∈ gs2,∀ b ∈ G.bl (rk p.1),b < w.heap.size/\(S b\/w0.heap.size<=b\/b ∈ bs)/\b ∉ od.flatMap (ownB st G) ++ od'.flatMap (ownB st G):=fun gs2 hsub hrt p hp b hb=>by
    have ho:b ∈ ownB st G (rk p.1):=by rw [own_of_RT (hrt p hp)];exact hb
    refine ⟨(I.lt _ _ ho).1,s0 b (I.m0 _ (I.lt _ _ ho).2),fun hm=>?_⟩
    obtain ⟨k,hk,hbk⟩:=hown b hm
    have:=I.dj _ _ _ hbk ho
    subst this
    exact hodg _ hk _ (List.mem_map.2 ⟨p,hsub p hp,rfl⟩) rfl
  refine ⟨retV vs,?_,⟨vs,_,_,rfl,A.xs _ hS1 (fun b hb=>hb.1) (hS2 gs (fun p hp=>List.mem_append_left _ hp) A.gone),?_,?_,fun b hb=>?_⟩,I.os,I.tape,I.output,I.size,I.block⟩
  · rw [results_run h1];rfl
  · have:=B.xs _ hS1 (fun b hb=>hb.1) (hS2 gs' (fun p hp=>List.mem_append_right _ hp) B.gone)
    rw [hov] at this
    exact this
  · rw [<-List.flatMap_append];exact own_nd I.toInvM _ hodn
  · obtain ⟨k,_,hk⟩:=hown b hb
    exact ⟨(I.lt _ _ hk).2.symm,(I.lt _ _ hk).1⟩
/-- A function's contract by shapes: out of its code, and the evaluator's run of it. -/
theorem sh_ok {P:Program} {cf:Cfg} {f:FuncId} {fn:Func} {c:Code} {ps rl:Lv} {en:Env (den rl.ty × den (outL ps).ty)} {F:den ps.ty->Option (den rl.ty × den (outL ps).ty)} (hf:P.funcs[f]?=some fn) (hname:(fn.name == "runtime.NumGoroutine")=false) (hb:fn.body=some c)
    (hT:∀ t T,cf.ty t=some T->TyOk P cf.ty t T) (hfn:∀ g sp,cf.fn g=some sp->FnOk P g sp) (hfs:∀ g sp,cf.fs g=some sp->ShOk P g sp) (hmp:∀ g p,cf.mp g=some p->MpOk P g p.1 p.2) (hmix:P.follows .mixedOrders=true) (hnt:cf.nt=fn.ntmps) (hpr:cf.prot<=ps.length) (hprm:protB ps cf.prot=true) (hlen:ps.length<=cf.nt) (hent:entSB ps=true)
    (hl:∀ C,C.P=P->CfgOk C cf->LpOk C en c) (hF:∀ x y,F x=some y->evFnS cf ps rl en fn.results.toList c x=some y):ShOk P f ⟨ps,rl,F⟩:=by
  intro w vals x y z bs S hX hnd hS hbs hy
  have O:CfgOk ⟨P,w,bs,vals,cf.prot,cf.nt,fun b=>S b\/w.heap.size<=b\/b ∈ bs⟩ cf:=⟨rfl,rfl,hT,hfn,hfs,hmp⟩
  have hX:XL P ps w S vals x bs:=hX
  have hvl:vals.length=ps.length:=XL_len _ hX
  have hi:idxs 0 ps=true:=by simp only [entSB,Bool.and_eq_true] at hent;exact hent.1.1
  obtain ⟨G,I⟩:=entry_invS (nt:=cf.nt) (pr:=cf.prot) hX hnd hS hbs hent hlen hpr
  intro o a next Q hn
  rw [run_enter hf hname hb,Oper.upon_enter]
  refine calls_of_wp hf hb ?_
  have hev:=hF x (y,z) hy
  unfold evFnS at hev
  rw [<-hnt]
  have last:∀ st' a' w' G',(finS cf fn.results.toList ps rl).go st' [] (fun _ y=>some y)=some (y,z)->Inv ⟨P,w,bs,vals,cf.prot,cf.nt,fun b=>S b\/w.heap.size<=b\/b ∈ bs⟩ st' a' w' G'->∃ v,(results fn a'.tmps).run P w'=.ok v w'/\ShRet P ⟨ps,rl,F⟩ vals y z bs S w v w':=fun st' a' w' G' h I'=>by
    obtain ⟨rd,u,h1,h2⟩:=go_run _ _ h
    simp only [Option.some.injEq] at h2
    subst h2
    exact fin_shape O I' hi hprm hvl ⟨rd,h1⟩
  refine evC_sound O hmix c (hl _ rfl O) hev I (fun st' a' w' G' h I'=>?_) (fun i st' a' w' G' h I'=>by cases h) (fun st' a' w' G' h I'=>?_)
  · obtain ⟨v,k1,k2⟩:=last st' a' w' G' h I'
    exact ⟨I'.df,v,k1,hn v w' k2⟩
  · obtain ⟨v,k1,k2⟩:=last st' a' w' G' h I'
    exact ⟨I'.df,v,k1,hn v w' k2⟩
theorem shOk_none {P:Program} {f:Nat} {ps rl:Lv}:ShOk P f ⟨ps,rl,fun _=>none⟩:=by
  intro w vs x y z bs S _ _ _ _ hy;cases hy
end
end Go.Proofs.YtefmjjpdflpnaaaGreat.E
namespace Go.Proofs.YtefmjjpdflpnaaaGreat.E
open Go Go.RowKit
set_option linter.unusedVariables false
set_option linter.unusedSimpArgs false
/-- An open number stops the computation here (so that the kernel does not open a segment that it need not). -/
def gN {α:Type} (n:Nat) (x:α):α:=match n with
  | 0=>x
  | _ + 1=>x
theorem gN_eq {α:Type} (n:Nat) (x:α):gN n x=x:=by cases n <;> rfl
/-- A loop (its first region, the live slots at its head, the slots that share roots, its plain function) or a segment (the live slots ahead of it and behind it; q: 0, or an open number that locks it). -/
inductive PD (R:Type) where
  | L (id:Nat) (l:Lv) (al:Al) (g:Nat->den l.ty->(Nat->St->Option R)->(St->Option R)->Option R)
  | J (id:Nat) (l ln:Lv) (q:Nat) (g:Nat->den l.ty->(den ln.ty->Option R)->(Nat->St->Option R)->(St->Option R)->Option R)
def lkL {R:Type} (k:Nat):List (PD R)->Nat->Option (LoopS R)
  | [],_=>none
  | .L i l al g :: D,t=>bif Nat.beq i t then some (mkLoopA l al (g k)) else lkL k D t
  | .J _ _ _ _ _ :: D,t=>lkL k D t
def lkS {R:Type} (k:Nat):List (PD R)->Nat->Option (SegS R)
  | [],_=>none
  | .L _ _ _ _ :: D,t=>lkS k D t
  | .J i l ln q g :: D,t=>bif Nat.beq i t then some (mkSeg l ln (g k)) else lkS k D t
def hasL {R:Type}:List (PD R)->Nat->Bool
  | [],_=>false
  | .L i _ _ _ :: D,t=>Nat.beq i t || hasL D t
  | .J _ _ _ _ _ :: D,t=>hasL D t
def hasS {R:Type}:List (PD R)->Nat->Bool
  | [],_=>false
  | .L _ _ _ _ :: D,t=>hasS D t
  | .J i _ _ _ _ :: D,t=>Nat.beq i t || hasS D t
def mkEn {R:Type} (D:List (PD R)) (X:List (Nat × Lv)) (rv:Lv) (k:Nat):Env R:={ L:=lkL k D,X:=lk X,S:=lkS k D,rv:=rv }
/-- The loops' bodies (true) and segments (false) of a code, in its order. -/
def partsA {R:Type} (D:List (PD R)):Code->List (Bool × Code)
  | .seq a b=>partsA D a ++ ((bif hasS D (rid b) then [(false,b)] else []) ++ partsA D b)
  | .cond _ a b=>((bif hasS D (rid a) then [(false,a)] else []) ++ partsA D a) ++ ((bif hasS D (rid b) then [(false,b)] else []) ++ partsA D b)
  | .block _ c=>partsA D c
  | .loop c=>(bif hasL D (rid c) then [(true,c)] else []) ++ partsA D c
  | _=>[]
def nthC:List (Bool × Code)->Nat->Code
  | [],_=>.skip
  | c :: _,0=>c.2
  | _ :: l,n + 1=>nthC l n
/-- The table has just these parts, each name once. -/
def idsB {R:Type}:List (PD R)->List (Bool × Code)->Bool
  | [],[]=>true
  | .L i _ _ _ :: D,(b,c) :: ps=>b && Nat.beq i (rid c) && !hasL D i && idsB D ps
  | .J i _ _ _ _ :: D,(b,c) :: ps=>!b && Nat.beq i (rid c) && !hasS D i && idsB D ps
  | _,_=>false
/-- A part's plain function is one run of the evaluator over its code. -/
def EqOf {R:Type} (cf:Cfg) (en:Nat->Env R):PD R->Code->Prop
  | .L _ l al g,c=>(∀ k x kx kr,g (k + 1) x kx kr=evC cf (en k) c (mkStA l al x) (fun s=>mkLoopA l al (g k) s kx kr) kx kr)/\∀ x kx kr,g 0 x kx kr=none
  | .J _ l ln q g,c=>∀ k x kn kx kr,g k x kn kx kr=gN q (evC cf (en k) c (mkSt l x) (cutK ln kn) kx kr)
def HD {R:Type} (cf:Cfg) (en:Nat->Env R) (ps:List (Bool × Code)):List (PD R)->Nat->Prop
  | [],_=>True
  | .L _ l al g :: D,i=>((∀ k x kx kr,g (k + 1) x kx kr=evC cf (en k) (nthC ps i) (mkStA l al x) (fun s=>mkLoopA l al (g k) s kx kr) kx kr)/\∀ x kx kr,g 0 x kx kr=none)/\HD cf en ps D (i + 1)
  | .J _ l ln q g :: D,i=>(∀ k x kn kx kr,g k x kn kx kr=gN q (evC cf (en k) (nthC ps i) (mkSt l x) (cutK ln kn) kx kr))/\HD cf en ps D (i + 1)
theorem hasL_lk {R:Type} {k t:Nat}:∀ (D:List (PD R)),hasL D t=false->lkL k D t=none
  | [],_=>rfl
  | .L i l al g :: D,h=>by
    simp only [hasL,Bool.or_eq_false_iff] at h
    simp only [lkL,h.1,cond_false]
    exact hasL_lk D h.2
  | .J _ _ _ _ _ :: D,h=>hasL_lk D h
theorem hasS_lk {R:Type} {k t:Nat}:∀ (D:List (PD R)),hasS D t=false->lkS k D t=none
  | [],_=>rfl
  | .J i l al q g :: D,h=>by
    simp only [hasS,Bool.or_eq_false_iff] at h
    simp only [lkS,h.1,cond_false]
    exact hasS_lk D h.2
  | .L _ _ _ _ :: D,h=>hasS_lk D h
theorem nthC_app:∀ (p:List (Bool × Code)) (q:Bool × Code) (r:List (Bool × Code)),nthC (p ++ q :: r) p.length=q.2
  | [],q,r=>rfl
  | a :: p,q,r=>nthC_app p q r
theorem hd_all {R:Type} {cf:Cfg} {en:Nat->Env R} (ps0:List (Bool × Code)):∀ (D:List (PD R)) (pre ps:List (Bool × Code)),ps0=pre ++ ps->HD cf en ps0 D pre.length->idsB D ps=true →
    ∀ p ∈ ps,(p.1=true/\∃ l al g,(∀ k,lkL k D (rid p.2)=some (mkLoopA l al (g k)))/\EqOf cf en (.L 0 l al g) p.2)\/(p.1=false/\∃ l ln q g,(∀ k,lkS k D (rid p.2)=some (mkSeg l ln (g k)))/\EqOf cf en (.J 0 l ln q g) p.2)
  | [],pre,ps,e,h,hi,p,hp=>by
    cases ps with
    | nil=>cases hp
    | cons _ _=>cases hi
  | .L i l al g :: D,pre,[],e,h,hi,p,hp=>by cases hp
  | .J i l ln q g :: D,pre,[],e,h,hi,p,hp=>by cases hp
  | .L i l al g :: D,pre,(b,c) :: ps,e,h,hi,p,hp=>by
    simp only [idsB,Bool.and_eq_true,Bool.not_eq_true'] at hi
    obtain ⟨⟨⟨rfl,hid⟩,hno⟩,hi⟩:=hi
    obtain ⟨h1,h2⟩:=h
    have hid:=Nat.eq_of_beq_eq_true hid
    rcases List.mem_cons.1 hp with rfl | hp
    · refine .inl ⟨rfl,l,al,g,fun k=>?_,?_⟩
      · simp only [lkL,hid,Nat.beq_refl,cond_true]
      · rw [e,nthC_app] at h1;exact h1
    · rcases hd_all ps0 D (pre ++ [(true,c)]) ps (by rw [e];simp) (by simpa using h2) hi p hp with ⟨q,l',al',g',h3,h4⟩ | ⟨q,l',ln',q',g',h3,h4⟩
      · refine .inl ⟨q,l',al',g',fun k=>?_,h4⟩
        cases hb:Nat.beq i (rid p.2)
        · simp only [lkL,hb,cond_false];exact h3 k
        · have hb:=Nat.eq_of_beq_eq_true hb
          rw [<-hb] at h3
          have:=h3 0
          rw [hasL_lk D hno] at this;cases this
      · exact .inr ⟨q,l',ln',q',g',fun k=>h3 k,h4⟩
  | .J i l ln q g :: D,pre,(b,c) :: ps,e,h,hi,p,hp=>by
    simp only [idsB,Bool.and_eq_true,Bool.not_eq_true'] at hi
    obtain ⟨⟨⟨rfl,hid⟩,hno⟩,hi⟩:=hi
    obtain ⟨h1,h2⟩:=h
    have hid:=Nat.eq_of_beq_eq_true hid
    rcases List.mem_cons.1 hp with rfl | hp
    · refine .inr ⟨rfl,l,ln,q,g,fun k=>?_,?_⟩
      · simp only [lkS,hid,Nat.beq_refl,cond_true]
      · rw [e,nthC_app] at h1;exact h1
    · rcases hd_all ps0 D (pre ++ [(false,c)]) ps (by rw [e];simp) (by simpa using h2) hi p hp with ⟨q,l',al',g',h3,h4⟩ | ⟨q,l',ln',q',g',h3,h4⟩
      · exact .inl ⟨q,l',al',g',fun k=>h3 k,h4⟩
      · refine .inr ⟨q,l',ln',q',g',fun k=>?_,h4⟩
        cases hb:Nat.beq i (rid p.2)
        · simp only [lkS,hb,cond_false];exact h3 k
        · have hb:=Nat.eq_of_beq_eq_true hb
          rw [<-hb] at h3
          have:=h3 0
          rw [hasS_lk D hno] at this;cases this
theorem lp_all {C:Cx} {cf:Cfg} {R:Type} {D:List (PD R)} {X:List (Nat × Lv)} {rv:Lv} (O:CfgOk C cf) (hmix:C.P.follows .mixedOrders=true):∀ (c:Code),
    (∀ p ∈ partsA D c,(p.1=true/\∃ l al g,(∀ k,lkL k D (rid p.2)=some (mkLoopA l al (g k)))/\EqOf cf (mkEn D X rv) (.L 0 l al g) p.2)\/(p.1=false/\∃ l ln q g,(∀ k,lkS k D (rid p.2)=some (mkSeg l ln (g k)))/\EqOf cf (mkEn D X rv) (.J 0 l ln q g) p.2))->∀ k,LpOk C (mkEn D X rv k) c:=by
  have sg:∀ (b:Code) (l:List (Bool × Code)),(∀ k,LpOk C (mkEn D X rv k) b)->(∀ p ∈ (bif hasS D (rid b) then [(false,b)] else []) ++ l,(p.1=true/\∃ l al g,(∀ k,lkL k D (rid p.2)=some (mkLoopA l al (g k)))/\EqOf cf (mkEn D X rv) (.L 0 l al g) p.2)\/(p.1=false/\∃ l ln q g,(∀ k,lkS k D (rid p.2)=some (mkSeg l ln (g k)))/\EqOf cf (mkEn D X rv) (.J 0 l ln q g) p.2)) →
      ∀ k,∀ J,(mkEn D X rv k).S (rid b)=some J->SgS C J b:=fun b l hb hp k J hJ=>by
    have hJ:lkS k D (rid b)=some J:=hJ
    cases hh:hasS D (rid b)
    · rw [hasS_lk D hh] at hJ;cases hJ
    · rw [hh] at hp
      rcases hp (false,b) (by simp) with ⟨q,_⟩ | ⟨_,l,ln,q,g,h1,h2⟩
      · cases q
      · have h1:lkS k D (rid b)=_:=h1 k
        rw [h1] at hJ;cases hJ
        exact seg_sound O hmix (fun x kn kx kr=>(h2 k x kn kx kr).trans (gN_eq _ _)) (hb k)
  intro c
  induction c with
  | seq a b iha ihb =>
    intro hp k
    have hb:=ihb fun p hm=>hp p (by simp only [partsA];exact List.mem_append_right _ (List.mem_append_right _ hm))
    exact ⟨iha (fun p hm=>hp p (by simp only [partsA];exact List.mem_append_left _ hm)) k,sg b (partsA D b) hb (fun p hm=>hp p (by simp only [partsA];exact List.mem_append_right _ hm)) k,fun _=>hb k⟩
  | cond t a b iha ihb =>
    intro hp k
    have ha:=iha fun p hm=>hp p (by simp only [partsA];exact List.mem_append_left _ (List.mem_append_right _ hm))
    have hb:=ihb fun p hm=>hp p (by simp only [partsA];exact List.mem_append_right _ (List.mem_append_right _ hm))
    exact ⟨⟨sg a (partsA D a) ha (fun p hm=>hp p (by simp only [partsA];exact List.mem_append_left _ hm)) k,fun _=>ha k⟩,sg b (partsA D b) hb (fun p hm=>hp p (by simp only [partsA];exact List.mem_append_right _ hm)) k,fun _=>hb k⟩
  | block i c ih=>exact fun hp k=>ih hp k
  | loop c ih =>
    intro hp k f hf
    have hf:lkL k D (rid c)=some f:=hf
    have hc:=ih fun p hm=>hp p (by simp only [partsA];exact List.mem_append_right _ hm)
    cases hh:hasL D (rid c)
    · rw [hasL_lk D hh] at hf;cases hf
    · rcases hp (true,c) (by simp [partsA,hh]) with ⟨_,l,al,g,h1,h2⟩ | ⟨q,_⟩
      · have h1:lkL k D (rid c)=_:=h1 k
        rw [h1] at hf;cases hf
        exact loopA_sound O hmix h2.2 h2.1 hc k
      · cases q
  | _=>exact fun _ _=>trivial
/-- A callee with its contract. -/
inductive CB (P:Program) where
  | f (n:Nat) (sp:FnSpec) (h:FnOk P n sp)
  | s (n:Nat) (sp:ShSpec) (h:ShOk P n sp)
  | m (n t:Nat) (g:ByteArray->ByteArray) (h:MpOk P n t g)
def cbF {P:Program}:List (CB P)->Nat->Option FnSpec
  | [],_=>none
  | .f n sp _ :: l,t=>bif Nat.beq n t then some sp else cbF l t
  | .s _ _ _ :: l,t=>cbF l t
  | .m _ _ _ _ :: l,t=>cbF l t
def cbS {P:Program}:List (CB P)->Nat->Option ShSpec
  | [],_=>none
  | .f _ _ _ :: l,t=>cbS l t
  | .s n sp _ :: l,t=>bif Nat.beq n t then some sp else cbS l t
  | .m _ _ _ _ :: l,t=>cbS l t
def cbM {P:Program}:List (CB P)->Nat->Option (Nat × (ByteArray->ByteArray))
  | [],_=>none
  | .f _ _ _ :: l,t=>cbM l t
  | .s _ _ _ :: l,t=>cbM l t
  | .m n u g _ :: l,t=>bif Nat.beq n t then some (u,g) else cbM l t
theorem cbF_ok {P:Program}:∀ (l:List (CB P)) (g:Nat) (sp:FnSpec),cbF l g=some sp->FnOk P g sp
  | [],_,_,h=>by cases h
  | .f n s h' :: l,g,sp,h=>by
    unfold cbF at h
    cases hb:Nat.beq n g
    · rw [hb] at h;exact cbF_ok l g sp h
    · rw [hb] at h
      simp only [cond_true,Option.some.injEq] at h
      have:=Nat.eq_of_beq_eq_true hb
      subst h;subst this;exact h'
  | .s _ _ _ :: l,g,sp,h=>cbF_ok l g sp h
  | .m _ _ _ _ :: l,g,sp,h=>cbF_ok l g sp h
theorem cbS_ok {P:Program}:∀ (l:List (CB P)) (g:Nat) (sp:ShSpec),cbS l g=some sp->ShOk P g sp
  | [],_,_,h=>by cases h
  | .s n s h' :: l,g,sp,h=>by
    unfold cbS at h
    cases hb:Nat.beq n g
    · rw [hb] at h;exact cbS_ok l g sp h
    · rw [hb] at h
      simp only [cond_true,Option.some.injEq] at h
      have:=Nat.eq_of_beq_eq_true hb
      subst h;subst this;exact h'
  | .f _ _ _ :: l,g,sp,h=>cbS_ok l g sp h
  | .m _ _ _ _ :: l,g,sp,h=>cbS_ok l g sp h
theorem cbM_ok {P:Program}:∀ (l:List (CB P)) (g:Nat) (p:Nat × (ByteArray->ByteArray)),cbM l g=some p->MpOk P g p.1 p.2
  | [],_,_,h=>by cases h
  | .m n u f h' :: l,g,sp,h=>by
    unfold cbM at h
    cases hb:Nat.beq n g
    · rw [hb] at h;exact cbM_ok l g sp h
    · rw [hb] at h
      simp only [cond_true,Option.some.injEq] at h
      have:=Nat.eq_of_beq_eq_true hb
      subst h;subst this;exact h'
  | .f _ _ _ :: l,g,sp,h=>cbM_ok l g sp h
  | .s _ _ _ :: l,g,sp,h=>cbM_ok l g sp h
def cfOf {P:Program} (tys:List (Nat × Ty)) (l:List (CB P)) (prot nt:Nat):Cfg:={ ty:=lk tys,fn:=cbF l,fs:=cbS l,mp:=cbM l,prot:=prot,nt:=nt }
def okB {R:Type} (P:Program) (fn:Func) (D:List (PD R)):Bool:=P.follows .mixedOrders && !(fn.name == "runtime.NumGoroutine") && fn.body.isSome && idsB D (partsA D (bodyOf fn))
theorem body_some {fn:Func} (h:fn.body.isSome=true):fn.body=some (bodyOf fn):=by
  unfold bodyOf
  cases hb:fn.body
  · rw [hb] at h;cases h
  · rfl
theorem fn_okD {P:Program} {tys:List (Nat × Ty)} (hT:∀ t T,lk tys t=some T->TyOk P (lk tys) t T) {f:FuncId} {fn:Func} {pas ret:Ty} {mu:List Bool} {F:den pas->Option (den ret)} (l:List (CB P)) (prot:Nat) (D:List (PD (den ret))) (X:List (Nat × Lv)) (rv:Lv) (K:Nat) (hf:P.funcs[f]?=some fn)
    (hB:(okB P fn D && Nat.ble prot pas.len && !((mu.drop prot).any id) && Nat.ble pas.len fn.ntmps && entB pas mu)=true)
    (hH:HD (cfOf tys l prot fn.ntmps) (mkEn D X rv) (partsA D (bodyOf fn)) D 0)
    (hF:∀ x,F x=evFn (cfOf tys l prot fn.ntmps) pas mu ret (mkEn D X rv K) fn.results.toList (bodyOf fn) x):FnOk P f ⟨pas,mu,ret,F⟩:=by
  simp only [okB,Bool.and_eq_true,Bool.not_eq_true'] at hB
  obtain ⟨⟨⟨⟨⟨⟨⟨h1,h2⟩,h3⟩,h4⟩,h5⟩,h6⟩,h7⟩,h8⟩:=hB
  refine fn_ok (cf:=cfOf tys l prot fn.ntmps) (en:=mkEn D X rv K) (c:=bodyOf fn) hf h2 (body_some h3) hT (cbF_ok l) (cbS_ok l) (cbM_ok l) h1 rfl (Nat.le_of_ble_eq_true h5) h6 (Nat.le_of_ble_eq_true h7) h8 (fun C hP O=>?_) (fun x y h=>by rw [<-hF];exact h)
  exact lp_all O (by rw [hP];exact h1) _ (hd_all _ D [] _ rfl hH h4) K
theorem sh_okD {P:Program} {tys:List (Nat × Ty)} (hT:∀ t T,lk tys t=some T->TyOk P (lk tys) t T) {f:FuncId} {fn:Func} {ps rl:Lv} {F:den ps.ty->Option (den rl.ty × den (outL ps).ty)} (l:List (CB P)) (prot:Nat) (D:List (PD (den rl.ty × den (outL ps).ty))) (X:List (Nat × Lv)) (rv:Lv) (K:Nat) (hf:P.funcs[f]?=some fn)
    (hB:(okB P fn D && Nat.ble prot ps.length && protB ps prot && Nat.ble ps.length fn.ntmps && entSB ps)=true)
    (hH:HD (cfOf tys l prot fn.ntmps) (mkEn D X rv) (partsA D (bodyOf fn)) D 0)
    (hF:∀ x,F x=evFnS (cfOf tys l prot fn.ntmps) ps rl (mkEn D X rv K) fn.results.toList (bodyOf fn) x):ShOk P f ⟨ps,rl,F⟩:=by
  simp only [okB,Bool.and_eq_true,Bool.not_eq_true'] at hB
  obtain ⟨⟨⟨⟨⟨⟨⟨h1,h2⟩,h3⟩,h4⟩,h5⟩,h6⟩,h7⟩,h8⟩:=hB
  refine sh_ok (cf:=cfOf tys l prot fn.ntmps) (en:=mkEn D X rv K) (c:=bodyOf fn) hf h2 (body_some h3) hT (cbF_ok l) (cbS_ok l) (cbM_ok l) h1 rfl (Nat.le_of_ble_eq_true h5) h6 (Nat.le_of_ble_eq_true h7) h8 (fun C hP O=>?_) (fun x y h=>by rw [<-hF];exact h)
  exact lp_all O (by rw [hP];exact h1) _ (hd_all _ D [] _ rfl hH h4) K
end Go.Proofs.YtefmjjpdflpnaaaGreat.E
namespace Go.Proofs.YtefmjjpdflpnaaaGreat.E
open Go Go.Proofs Go.Proofs.YtefmjjpdflpnaaaGreat
set_option maxRecDepth 100000
noncomputable abbrev tq0:Ty:=(.st (.pair (.int .i64) (.pair (.int .i64) .unit)))
abbrev dq0:Type:=(Int × Int × Unit)
noncomputable abbrev tq1:Ty:=(.st (.pair (.sl (.int .u8)) (.pair (.int .i64) (.pair (.int .u64) .unit))))
abbrev dq1:Type:=((List Int) × Int × Int × Unit)
noncomputable abbrev tq2:Ty:=(.st (.pair (.int .u8) (.pair (.sl (.st .frm)) .unit)))
abbrev dq2:Type:=(Int × (List Frm) × Unit)
noncomputable abbrev tq3:Ty:=(.st (.pair .str (.pair .str .unit)))
abbrev dq3:Type:=(ByteArray × ByteArray × Unit)
noncomputable def tys:List (Nat × Ty):=[(2,(.int .i64)),(3,(.int .i64)),(4,.bool),(5,(.int .u8)),(9,.str),(22,(.sl (.int .u8))),(27,tq0),(34,(.sl .str)),(42,(.sl tq0)),(45,(.sl (.int .i64))),(56,(.sl (.st .frm))),(58,tq2),(78,(.sl .bool)),(79,(.int .u64)),(81,tq1),(116,(.sl tq3)),(119,tq3),(128,(.int .u32))]
theorem tysOk:∀ t T,lk tys t=some T->TyOk Tryz.prog (lk tys) t T:=tys_ok (by kernel_rfl)
noncomputable def tysR:List (Nat × Ty):=[(2,(.int .i64)),(3,(.int .i64)),(4,.bool),(5,(.int .u8)),(9,.str),(22,(.sl (.int .u8))),(27,tq0),(34,(.sl .str)),(42,(.sl tq0)),(45,(.sl (.int .i64))),(56,(.sl (.st .frm))),(58,(.st .frm)),(78,(.sl .bool)),(79,(.int .u64)),(81,tq1),(116,(.sl tq3)),(119,tq3),(128,(.int .u32))]
theorem tysOkR:∀ t T,lk tysR t=some T->TyOk Tryz.prog (lk tysR) t T:=tys_ok (by kernel_rfl)
noncomputable def as_i_formula_text:Ty:=(.pair (.ptr (.st .frm)) .unit)
noncomputable def sp_i_formula_text (F:(Frm × Unit)->Option ByteArray):FnSpec:=⟨as_i_formula_text,[false],.str,F⟩
noncomputable def as_s_l05Depth:Ty:=(.pair .str .unit)
noncomputable def sp_s_l05Depth (F:(ByteArray × Unit)->Option Int):FnSpec:=⟨as_s_l05Depth,[false],(.int .i64),F⟩
noncomputable def as_i_formula_dual:Ty:=(.pair (.ptr (.st .frm)) .unit)
noncomputable def sp_i_formula_dual (F:(Frm × Unit)->Option ByteArray):FnSpec:=⟨as_i_formula_dual,[false],.str,F⟩
noncomputable def as_i_formula_size:Ty:=(.pair (.ptr (.st .frm)) .unit)
noncomputable def sp_i_formula_size (F:(Frm × Unit)->Option Int):FnSpec:=⟨as_i_formula_size,[false],(.int .i64),F⟩
noncomputable def as_i_formula_depth:Ty:=(.pair (.ptr (.st .frm)) .unit)
noncomputable def sp_i_formula_depth (F:(Frm × Unit)->Option Int):FnSpec:=⟨as_i_formula_depth,[false],(.int .i64),F⟩
noncomputable def ps_s_l05DrawOf:Lv:=[(0,(.bx (.v tq1))),(1,(.v (.int .i64))),(2,(.v (.int .i64)))]
noncomputable def rl_s_l05DrawOf:Lv:=[(0,(.v .str))]
noncomputable def sp_s_l05DrawOf (F:(dq1 × Int × Int × Unit)->Option ((ByteArray × Unit) × (dq1 × Unit))):ShSpec:=⟨ps_s_l05DrawOf,rl_s_l05DrawOf,F⟩
noncomputable def as_s_l05Dual:Ty:=(.pair .str .unit)
noncomputable def sp_s_l05Dual (F:(ByteArray × Unit)->Option ByteArray):FnSpec:=⟨as_s_l05Dual,[false],.str,F⟩
noncomputable def as_s_l05End:Ty:=(.pair .str (.pair (.int .i64) .unit))
noncomputable def sp_s_l05End (F:(ByteArray × Int × Unit)->Option Int):FnSpec:=⟨as_s_l05End,[false,false],(.int .i64),F⟩
noncomputable def as_s_l05Func:Ty:=(.pair (.int .i64) (.pair .str .unit))
noncomputable def sp_s_l05Func (F:(Int × ByteArray × Unit)->Option dq0):FnSpec:=⟨as_s_l05Func,[false,false],tq0,F⟩
noncomputable def as_i_readFormula:Ty:=(.pair .str .unit)
noncomputable def sp_i_readFormula (F:(ByteArray × Unit)->Option (dq2 × ByteArray × Bool × Unit)):FnSpec:=⟨as_i_readFormula,[false],(.tup (.pair tq2 (.pair .str (.pair .bool .unit)))),F⟩
noncomputable def as_i_formula_isOf_c1:Ty:=(.pair (.st .frm) (.pair (.ptr (.int .i64)) .unit))
noncomputable def sp_i_formula_isOf_c1 (F:(Frm × Int × Unit)->Option Bool):FnSpec:=⟨as_i_formula_isOf_c1,[false,false],.bool,F⟩
noncomputable def as_i_formula_of:Ty:=(.pair (.ptr (.st .frm)) (.pair (.int .i64) .unit))
noncomputable def sp_i_formula_of (F:(Frm × Int × Unit)->Option dq0):FnSpec:=⟨as_i_formula_of,[false,false],tq0,F⟩
end Go.Proofs.YtefmjjpdflpnaaaGreat.E
namespace Go.Proofs.YtefmjjpdflpnaaaGreat.E
open Go Go.Proofs Go.Proofs.YtefmjjpdflpnaaaGreat
set_option maxRecDepth 100000
set_option linter.unusedVariables false
noncomputable def as_i_bit:Ty:=(.pair (.int .i64) (.pair (.int .i64) .unit))
noncomputable def sp_i_bit (F:(Int × Int × Unit)->Option Int):FnSpec:=⟨as_i_bit,[false,false],(.int .i64),F⟩
noncomputable def i_bit (K:Nat) (x:(Int × Int × Unit)):Option Int :=
    (if (decide ((0:Int)<=x.2.1))=true then
    some (bitI .and .i64 (shrI .i64 x.1 x.2.1) (1:Int))
    else
    none)
noncomputable def rv_i_bit:Lv:=[(4,(.v (.int .i64)))]
theorem ok_i_bit (K:Nat):FnOk Tryz.prog 94 (sp_i_bit (i_bit K)) :=
  fn_okD tysOk [] 0 [] [] rv_i_bit K Tryz.func94 (by kernel_rfl) trivial (fun _=>by kernel_rfl)
noncomputable def C_i_bit (K:Nat):CB Tryz.prog:=.f _ _ (ok_i_bit K)
noncomputable def as_i_Func_at:Ty:=(.pair tq0 (.pair (.int .i64) .unit))
noncomputable def sp_i_Func_at (F:(dq0 × Int × Unit)->Option Int):FnSpec:=⟨as_i_Func_at,[false,false],(.int .i64),F⟩
noncomputable def i_Func_at (K:Nat) (x:(dq0 × Int × Unit)):Option Int :=
    (i_bit K (x.1.2.1,x.2.1,())).bind fun y1 =>
    some y1
noncomputable def rv_i_Func_at:Lv:=[(4,(.v (.int .i64)))]
theorem ok_i_Func_at (K:Nat):FnOk Tryz.prog 82 (sp_i_Func_at (i_Func_at K)) :=
  fn_okD tysOk [C_i_bit K] 0 [] [] rv_i_Func_at K Tryz.func82 (by kernel_rfl) trivial (fun _=>by kernel_rfl)
noncomputable def C_i_Func_at (K:Nat):CB Tryz.prog:=.f _ _ (ok_i_Func_at K)
noncomputable def as_i_rowsOf:Ty:=(.pair (.int .i64) .unit)
noncomputable def sp_i_rowsOf (F:(Int × Unit)->Option Int):FnSpec:=⟨as_i_rowsOf,[false],(.int .i64),F⟩
noncomputable def i_rowsOf (K:Nat) (x:(Int × Unit)):Option Int :=
    (if (decide ((0:Int)<=x.1))=true then
    some (shlI .i64 (1:Int) x.1)
    else
    none)
noncomputable def rv_i_rowsOf:Lv:=[(2,(.v (.int .i64)))]
theorem ok_i_rowsOf (K:Nat):FnOk Tryz.prog 104 (sp_i_rowsOf (i_rowsOf K)) :=
  fn_okD tysOk [] 0 [] [] rv_i_rowsOf K Tryz.func104 (by kernel_rfl) trivial (fun _=>by kernel_rfl)
noncomputable def C_i_rowsOf (K:Nat):CB Tryz.prog:=.f _ _ (ok_i_rowsOf K)
noncomputable def as_i_funcBy:Ty:=(.pair (.int .i64) (.pair (.fn (.pair (.int .i64) .unit) (.int .i64)) .unit))
noncomputable def sp_i_funcBy (F:(Int × ((Int × Unit)->Option Int) × Unit)->Option dq0):FnSpec:=⟨as_i_funcBy,[false,false],tq0,F⟩
noncomputable def i_funcBy_l3 {R:Type} (K:Nat):Nat->((Int × Unit)->Option Int)->dq0->dq0->Int->Int->(dq0->dq0->Option R)->Option R
  | 0,_,_,_,_,_,_=>none
  | k + 1,v1,v4,v5,v10,v11,kx0 =>
    (if (decide (v11 < v10))=true then
    (v1 (v11,())).bind fun y2 =>
    (if (decide ((0:Int)<=v11))=true then
    i_funcBy_l3 K k v1 v4 (v5.1,(bitI .or .i64 v5.2.1 (shlI .i64 y2 v11)),()) v10 (IntKind.i64.wrap (v11 + (1:Int))) kx0
    else
    none)
    else
    kx0 v4 v5)
noncomputable def i_funcBy (K:Nat) (x:(Int × ((Int × Unit)->Option Int) × Unit)):Option dq0 :=
    (i_rowsOf K (x.1,())).bind fun y1 =>
    i_funcBy_l3 K K x.2.1 ((0:Int),(0:Int),()) (x.1,((0:Int),(0:Int),()).2.1,()) y1 (0:Int) (fun z3 z4 =>
    some z4)
noncomputable def X0_i_funcBy:Lv:=[(4,(.bx (.v tq0))),(5,(.bx (.v tq0)))]
noncomputable def rv_i_funcBy:Lv:=[(4,(.bx (.v tq0)))]
noncomputable def D_i_funcBy (K:Nat):List (PD (den tq0)):=[.L 3 [(1,(.v (.fn (.pair (.int .i64) .unit) (.int .i64)))),(4,(.bx (.v tq0))),(5,(.bx (.v tq0))),(10,(.v (.int .i64))),(11,(.v (.int .i64)))] [] (fun k x kx kr=>i_funcBy_l3 K k x.1 x.2.1 x.2.2.1 x.2.2.2.1 x.2.2.2.2.1 (fun z0 z1=>kx 0 (mkSt X0_i_funcBy (z0,z1,()))))]
theorem ok_i_funcBy (K:Nat):FnOk Tryz.prog 80 (sp_i_funcBy (i_funcBy K)) :=
  fn_okD tysOk [C_i_rowsOf K] 0 (D_i_funcBy K) [(0,X0_i_funcBy)] rv_i_funcBy K Tryz.func80 (by kernel_rfl) ⟨⟨fun _ _ _ _=>by kernel_rfl,fun _ _ _=>rfl⟩,trivial⟩ (fun _=>by kernel_rfl)
noncomputable def C_i_funcBy (K:Nat):CB Tryz.prog:=.f _ _ (ok_i_funcBy K)
noncomputable def as_i_Func_rows:Ty:=(.pair tq0 .unit)
noncomputable def sp_i_Func_rows (F:(dq0 × Unit)->Option Int):FnSpec:=⟨as_i_Func_rows,[false],(.int .i64),F⟩
noncomputable def i_Func_rows (K:Nat) (x:(dq0 × Unit)):Option Int :=
    (i_rowsOf K (x.1.1,())).bind fun y1 =>
    some y1
noncomputable def rv_i_Func_rows:Lv:=[(2,(.v (.int .i64)))]
theorem ok_i_Func_rows (K:Nat):FnOk Tryz.prog 83 (sp_i_Func_rows (i_Func_rows K)) :=
  fn_okD tysOk [C_i_rowsOf K] 0 [] [] rv_i_Func_rows K Tryz.func83 (by kernel_rfl) trivial (fun _=>by kernel_rfl)
noncomputable def C_i_Func_rows (K:Nat):CB Tryz.prog:=.f _ _ (ok_i_Func_rows K)
noncomputable def as_i_Func_dual_c1:Ty:=(.pair (.int .i64) (.pair (.ptr tq0) .unit))
noncomputable def sp_i_Func_dual_c1 (F:(Int × dq0 × Unit)->Option Int):FnSpec:=⟨as_i_Func_dual_c1,[false,false],(.int .i64),F⟩
noncomputable def i_Func_dual_c1 (K:Nat) (x:(Int × dq0 × Unit)):Option Int :=
    (i_Func_rows K (x.2.1,())).bind fun y1 =>
    let x2:=(IntKind.i64.wrap ((IntKind.i64.wrap (y1 - (1:Int))) - x.1))
    (i_Func_at K (x.2.1,x2,())).bind fun y3 =>
    some (IntKind.i64.wrap ((1:Int) - y3))
noncomputable def rv_i_Func_dual_c1:Lv:=[(3,(.v (.int .i64)))]
theorem ok_i_Func_dual_c1 (K:Nat):FnOk Tryz.prog 81 (sp_i_Func_dual_c1 (i_Func_dual_c1 K)) :=
  fn_okD tysOk [C_i_Func_at K,C_i_Func_rows K] 0 [] [] rv_i_Func_dual_c1 K Tryz.func81 (by kernel_rfl) trivial (fun _=>by kernel_rfl)
noncomputable def C_i_Func_dual_c1 (K:Nat):CB Tryz.prog:=.f _ _ (ok_i_Func_dual_c1 K)
noncomputable def as_i_Func_dual:Ty:=(.pair tq0 .unit)
noncomputable def sp_i_Func_dual (F:(dq0 × Unit)->Option dq0):FnSpec:=⟨as_i_Func_dual,[false],tq0,F⟩
noncomputable def i_Func_dual (K:Nat) (x:(dq0 × Unit)):Option dq0 :=
    (i_funcBy K (x.1.1,(fun y2=>i_Func_dual_c1 K (y2.1,x.1,())),())).bind fun y1 =>
    some y1
noncomputable def rv_i_Func_dual:Lv:=[(2,(.bx (.v tq0)))]
theorem ok_i_Func_dual (K:Nat):FnOk Tryz.prog 45 (sp_i_Func_dual (i_Func_dual K)) :=
  fn_okD tysOk [C_i_funcBy K,C_i_Func_dual_c1 K] 0 [] [] rv_i_Func_dual K Tryz.func45 (by kernel_rfl) trivial (fun _=>by kernel_rfl)
noncomputable def C_i_Func_dual (K:Nat):CB Tryz.prog:=.f _ _ (ok_i_Func_dual K)
noncomputable def as_i_Func_put_c1:Ty:=(.pair (.int .i64) (.pair (.ptr (.sl tq0)) (.pair (.ptr tq0) .unit)))
noncomputable def sp_i_Func_put_c1 (F:(Int × (List dq0) × dq0 × Unit)->Option Int):FnSpec:=⟨as_i_Func_put_c1,[false,false,false],(.int .i64),F⟩
noncomputable def i_Func_put_c1_l3 {R:Type} (K:Nat):Nat->Int->dq0->Int->(List dq0)->Int->Int->(dq0->Int->Option R)->Option R
  | 0,_,_,_,_,_,_,_=>none
  | k + 1,v0,v2,v5,v8,v9,v10,kx0 =>
    (if (decide (v10 < v9))=true then
    (if (bnds v10 (v8.length:Int))=true then
    (i_Func_at K ((v8.getD v10.toNat ((0:Int),(0:Int),())),v0,())).bind fun y1 =>
    (if (decide ((0:Int)<=v10))=true then
    i_Func_put_c1_l3 K k v0 v2 (bitI .or .i64 v5 (shlI .i64 y1 v10)) v8 v9 (IntKind.i64.wrap (v10 + (1:Int))) kx0
    else
    none)
    else
    none)
    else
    kx0 v2 v5)
noncomputable def i_Func_put_c1 (K:Nat) (x:(Int × (List dq0) × dq0 × Unit)):Option Int :=
    i_Func_put_c1_l3 K K x.1 x.2.2.1 (0:Int) x.2.1 (x.2.1.length:Int) (0:Int) (fun z2 z3 =>
    (i_Func_at K (z2,z3,())).bind fun y4 =>
    some y4)
noncomputable def X0_i_Func_put_c1:Lv:=[(2,(.v (.ptr tq0))),(5,(.v (.int .i64)))]
noncomputable def rv_i_Func_put_c1:Lv:=[(4,(.v (.int .i64)))]
noncomputable def D_i_Func_put_c1 (K:Nat):List (PD (den (.int .i64))):=[.L 3 [(0,(.v (.int .i64))),(2,(.v (.ptr tq0))),(5,(.v (.int .i64))),(8,(.v (.sl tq0))),(9,(.v (.int .i64))),(10,(.v (.int .i64)))] [] (fun k x kx kr=>i_Func_put_c1_l3 K k x.1 x.2.1 x.2.2.1 x.2.2.2.1 x.2.2.2.2.1 x.2.2.2.2.2.1 (fun z0 z1=>kx 0 (mkSt X0_i_Func_put_c1 (z0,z1,()))))]
theorem ok_i_Func_put_c1 (K:Nat):FnOk Tryz.prog 89 (sp_i_Func_put_c1 (i_Func_put_c1 K)) :=
  fn_okD tysOk [C_i_Func_at K] 0 (D_i_Func_put_c1 K) [(0,X0_i_Func_put_c1)] rv_i_Func_put_c1 K Tryz.func89 (by kernel_rfl) ⟨⟨fun _ _ _ _=>by kernel_rfl,fun _ _ _=>rfl⟩,trivial⟩ (fun _=>by kernel_rfl)
noncomputable def C_i_Func_put_c1 (K:Nat):CB Tryz.prog:=.f _ _ (ok_i_Func_put_c1 K)
noncomputable def as_i_Func_put:Ty:=(.pair tq0 (.pair (.int .i64) (.pair (.sl tq0) .unit)))
noncomputable def sp_i_Func_put (F:(dq0 × Int × (List dq0) × Unit)->Option dq0):FnSpec:=⟨as_i_Func_put,[false,false,false],tq0,F⟩
noncomputable def i_Func_put (K:Nat) (x:(dq0 × Int × (List dq0) × Unit)):Option dq0 :=
    (i_funcBy K (x.2.1,(fun y2=>i_Func_put_c1 K (y2.1,x.2.2.1,x.1,())),())).bind fun y1 =>
    some y1
noncomputable def rv_i_Func_put:Lv:=[(6,(.bx (.v tq0)))]
theorem ok_i_Func_put (K:Nat):FnOk Tryz.prog 58 (sp_i_Func_put (i_Func_put K)) :=
  fn_okD tysOk [C_i_funcBy K,C_i_Func_put_c1 K] 0 [] [] rv_i_Func_put K Tryz.func58 (by kernel_rfl) trivial (fun _=>by kernel_rfl)
noncomputable def C_i_Func_put (K:Nat):CB Tryz.prog:=.f _ _ (ok_i_Func_put K)
noncomputable def as_i_within:Ty:=(.pair (.int .i64) (.pair (.int .i64) (.pair (.int .i64) .unit)))
noncomputable def sp_i_within (F:(Int × Int × Int × Unit)->Option Bool):FnSpec:=⟨as_i_within,[false,false,false],.bool,F⟩
noncomputable def i_within (K:Nat) (x:(Int × Int × Int × Unit)):Option Bool :=
    (if (decide (x.1 ≥ x.2.1))=true then
    some (decide (x.1<=x.2.2.1))
    else
    some false)
noncomputable def rv_i_within:Lv:=[(6,(.v .bool))]
theorem ok_i_within (K:Nat):FnOk Tryz.prog 65 (sp_i_within (i_within K)) :=
  fn_okD tysOk [] 0 [] [] rv_i_within K Tryz.func65 (by kernel_rfl) trivial (fun _=>by kernel_rfl)
noncomputable def C_i_within (K:Nat):CB Tryz.prog:=.f _ _ (ok_i_within K)
noncomputable def as_i_isArity:Ty:=(.pair (.int .i64) .unit)
noncomputable def sp_i_isArity (F:(Int × Unit)->Option Bool):FnSpec:=⟨as_i_isArity,[false],.bool,F⟩
noncomputable def i_isArity (K:Nat) (x:(Int × Unit)):Option Bool :=
    (i_within K (x.1,(0:Int),(4:Int),())).bind fun y1 =>
    some y1
noncomputable def rv_i_isArity:Lv:=[(2,(.v .bool))]
theorem ok_i_isArity (K:Nat):FnOk Tryz.prog 36 (sp_i_isArity (i_isArity K)) :=
  fn_okD tysOk [C_i_within K] 0 [] [] rv_i_isArity K Tryz.func36 (by kernel_rfl) trivial (fun _=>by kernel_rfl)
noncomputable def C_i_isArity (K:Nat):CB Tryz.prog:=.f _ _ (ok_i_isArity K)
noncomputable def as_i_funcsOf:Ty:=(.pair (.int .i64) .unit)
noncomputable def sp_i_funcsOf (F:(Int × Unit)->Option Int):FnSpec:=⟨as_i_funcsOf,[false],(.int .i64),F⟩
noncomputable def i_funcsOf (K:Nat) (x:(Int × Unit)):Option Int :=
    (i_rowsOf K (x.1,())).bind fun y1 =>
    (if (decide ((0:Int)<=y1))=true then
    some (shlI .i64 (1:Int) y1)
    else
    none)
noncomputable def rv_i_funcsOf:Lv:=[(2,(.v (.int .i64)))]
theorem ok_i_funcsOf (K:Nat):FnOk Tryz.prog 79 (sp_i_funcsOf (i_funcsOf K)) :=
  fn_okD tysOk [C_i_rowsOf K] 0 [] [] rv_i_funcsOf K Tryz.func79 (by kernel_rfl) trivial (fun _=>by kernel_rfl)
noncomputable def C_i_funcsOf (K:Nat):CB Tryz.prog:=.f _ _ (ok_i_funcsOf K)
noncomputable def as_i_IsFunc:Ty:=(.pair tq0 .unit)
noncomputable def sp_i_IsFunc (F:(dq0 × Unit)->Option Bool):FnSpec:=⟨as_i_IsFunc,[false],.bool,F⟩
noncomputable def i_IsFunc (K:Nat) (x:(dq0 × Unit)):Option Bool :=
    (i_isArity K (x.1.1,())).bind fun y1 =>
    (if y1=true then
    (i_funcsOf K (x.1.1,())).bind fun y2 =>
    (i_within K (x.1.2.1,(0:Int),(IntKind.i64.wrap (y2 - (1:Int))),())).bind fun y3 =>
    some y3
    else
    some false)
noncomputable def rv_i_IsFunc:Lv:=[(2,(.v .bool))]
theorem ok_i_IsFunc (K:Nat):FnOk Tryz.prog 44 (sp_i_IsFunc (i_IsFunc K)) :=
  fn_okD tysOk [C_i_isArity K,C_i_within K,C_i_funcsOf K] 0 [] [] rv_i_IsFunc K Tryz.func44 (by kernel_rfl) trivial (fun _=>by kernel_rfl)
noncomputable def C_i_IsFunc (K:Nat):CB Tryz.prog:=.f _ _ (ok_i_IsFunc K)
noncomputable def as_slices_IndexFunc_impl_Func:Ty:=(.pair (.sl tq0) (.pair (.fn (.pair tq0 .unit) .bool) .unit))
noncomputable def sp_slices_IndexFunc_impl_Func (F:((List dq0) × ((dq0 × Unit)->Option Bool) × Unit)->Option Int):FnSpec:=⟨as_slices_IndexFunc_impl_Func,[false,false],(.int .i64),F⟩
noncomputable def slices_IndexFunc_impl_Func_l2 {R:Type} (K:Nat):Nat->(List dq0)->((dq0 × Unit)->Option Bool)->Int->Int->(Option R)->(Int->Option R)->Option R
  | 0,_,_,_,_,_,_=>none
  | k + 1,v0,v1,v7,v8,kx0,kr =>
    (if (decide (v8 < v7))=true then
    (if (bnds v8 (v0.length:Int))=true then
    (v1 ((v0.getD v8.toNat ((0:Int),(0:Int),())),())).bind fun y1 =>
    (if y1=true then
    kr v8
    else
    slices_IndexFunc_impl_Func_l2 K k v0 v1 v7 (IntKind.i64.wrap (v8 + (1:Int))) kx0 kr)
    else
    none)
    else
    kx0)
noncomputable def slices_IndexFunc_impl_Func (K:Nat) (x:((List dq0) × ((dq0 × Unit)->Option Bool) × Unit)):Option Int :=
    slices_IndexFunc_impl_Func_l2 K K x.1 x.2.1 (x.1.length:Int) (0:Int) (some (-1:Int)) (fun z2 =>
    some z2)
noncomputable def X0_slices_IndexFunc_impl_Func:Lv:=[]
noncomputable def rv_slices_IndexFunc_impl_Func:Lv:=[(4,(.v (.int .i64)))]
noncomputable def D_slices_IndexFunc_impl_Func (K:Nat):List (PD (den (.int .i64))):=[.L 2 [(0,(.v (.sl tq0))),(1,(.v (.fn (.pair tq0 .unit) .bool))),(7,(.v (.int .i64))),(8,(.v (.int .i64)))] [] (fun k x kx kr=>slices_IndexFunc_impl_Func_l2 K k x.1 x.2.1 x.2.2.1 x.2.2.2.1 (kx 0 (mkSt X0_slices_IndexFunc_impl_Func ())) (fun z0=>kr (mkSt rv_slices_IndexFunc_impl_Func (z0,()))))]
theorem ok_slices_IndexFunc_impl_Func (K:Nat):FnOk Tryz.prog 88 (sp_slices_IndexFunc_impl_Func (slices_IndexFunc_impl_Func K)) :=
  fn_okD tysOk [] 0 (D_slices_IndexFunc_impl_Func K) [(0,X0_slices_IndexFunc_impl_Func)] rv_slices_IndexFunc_impl_Func K Tryz.func88 (by kernel_rfl) ⟨⟨fun _ _ _ _=>by kernel_rfl,fun _ _ _=>rfl⟩,trivial⟩ (fun _=>by kernel_rfl)
noncomputable def C_slices_IndexFunc_impl_Func (K:Nat):CB Tryz.prog:=.f _ _ (ok_slices_IndexFunc_impl_Func K)
noncomputable def as_slices_ContainsFunc_impl_Func:Ty:=(.pair (.sl tq0) (.pair (.fn (.pair tq0 .unit) .bool) .unit))
noncomputable def sp_slices_ContainsFunc_impl_Func (F:((List dq0) × ((dq0 × Unit)->Option Bool) × Unit)->Option Bool):FnSpec:=⟨as_slices_ContainsFunc_impl_Func,[false,false],.bool,F⟩
noncomputable def slices_ContainsFunc_impl_Func (K:Nat) (x:((List dq0) × ((dq0 × Unit)->Option Bool) × Unit)):Option Bool :=
    (slices_IndexFunc_impl_Func K (x.1,x.2.1,())).bind fun y1 =>
    some (decide (y1 ≥ (0:Int)))
noncomputable def rv_slices_ContainsFunc_impl_Func:Lv:=[(4,(.v .bool))]
theorem ok_slices_ContainsFunc_impl_Func (K:Nat):FnOk Tryz.prog 56 (sp_slices_ContainsFunc_impl_Func (slices_ContainsFunc_impl_Func K)) :=
  fn_okD tysOk [C_slices_IndexFunc_impl_Func K] 0 [] [] rv_slices_ContainsFunc_impl_Func K Tryz.func56 (by kernel_rfl) trivial (fun _=>by kernel_rfl)
noncomputable def C_slices_ContainsFunc_impl_Func (K:Nat):CB Tryz.prog:=.f _ _ (ok_slices_ContainsFunc_impl_Func K)
noncomputable def as_i_areFuncs_c1:Ty:=(.pair tq0 .unit)
noncomputable def sp_i_areFuncs_c1 (F:(dq0 × Unit)->Option Bool):FnSpec:=⟨as_i_areFuncs_c1,[false],.bool,F⟩
noncomputable def i_areFuncs_c1 (K:Nat) (x:(dq0 × Unit)):Option Bool :=
    (i_IsFunc K (x.1,())).bind fun y1 =>
    some (!y1)
noncomputable def rv_i_areFuncs_c1:Lv:=[(2,(.v .bool))]
theorem ok_i_areFuncs_c1 (K:Nat):FnOk Tryz.prog 87 (sp_i_areFuncs_c1 (i_areFuncs_c1 K)) :=
  fn_okD tysOk [C_i_IsFunc K] 0 [] [] rv_i_areFuncs_c1 K Tryz.func87 (by kernel_rfl) trivial (fun _=>by kernel_rfl)
noncomputable def C_i_areFuncs_c1 (K:Nat):CB Tryz.prog:=.f _ _ (ok_i_areFuncs_c1 K)
noncomputable def as_i_areFuncs:Ty:=(.pair (.sl tq0) .unit)
noncomputable def sp_i_areFuncs (F:((List dq0) × Unit)->Option Bool):FnSpec:=⟨as_i_areFuncs,[false],.bool,F⟩
noncomputable def i_areFuncs (K:Nat) (x:((List dq0) × Unit)):Option Bool :=
    (slices_ContainsFunc_impl_Func K (x.1,(fun y2=>i_areFuncs_c1 K (y2.1,())),())).bind fun y1 =>
    some (!y1)
noncomputable def rv_i_areFuncs:Lv:=[(2,(.v .bool))]
theorem ok_i_areFuncs (K:Nat):FnOk Tryz.prog 55 (sp_i_areFuncs (i_areFuncs K)) :=
  fn_okD tysOk [C_slices_ContainsFunc_impl_Func K,C_i_areFuncs_c1 K] 0 [] [] rv_i_areFuncs K Tryz.func55 (by kernel_rfl) trivial (fun _=>by kernel_rfl)
noncomputable def C_i_areFuncs (K:Nat):CB Tryz.prog:=.f _ _ (ok_i_areFuncs K)
noncomputable def as_i_projection_c1:Ty:=(.pair (.int .i64) (.pair (.ptr (.int .i64)) .unit))
noncomputable def sp_i_projection_c1 (F:(Int × Int × Unit)->Option Int):FnSpec:=⟨as_i_projection_c1,[false,false],(.int .i64),F⟩
noncomputable def i_projection_c1 (K:Nat) (x:(Int × Int × Unit)):Option Int :=
    (i_bit K (x.1,x.2.1,())).bind fun y1 =>
    some y1
noncomputable def rv_i_projection_c1:Lv:=[(3,(.v (.int .i64)))]
theorem ok_i_projection_c1 (K:Nat):FnOk Tryz.prog 93 (sp_i_projection_c1 (i_projection_c1 K)) :=
  fn_okD tysOk [C_i_bit K] 0 [] [] rv_i_projection_c1 K Tryz.func93 (by kernel_rfl) trivial (fun _=>by kernel_rfl)
noncomputable def C_i_projection_c1 (K:Nat):CB Tryz.prog:=.f _ _ (ok_i_projection_c1 K)
noncomputable def as_i_projection:Ty:=(.pair (.int .i64) (.pair (.int .i64) .unit))
noncomputable def sp_i_projection (F:(Int × Int × Unit)->Option dq0):FnSpec:=⟨as_i_projection,[false,false],tq0,F⟩
noncomputable def i_projection (K:Nat) (x:(Int × Int × Unit)):Option dq0 :=
    (i_funcBy K (x.1,(fun y2=>i_projection_c1 K (y2.1,x.2.1,())),())).bind fun y1 =>
    some y1
noncomputable def rv_i_projection:Lv:=[(4,(.bx (.v tq0)))]
theorem ok_i_projection (K:Nat):FnOk Tryz.prog 69 (sp_i_projection (i_projection K)) :=
  fn_okD tysOk [C_i_funcBy K,C_i_projection_c1 K] 0 [] [] rv_i_projection K Tryz.func69 (by kernel_rfl) trivial (fun _=>by kernel_rfl)
noncomputable def C_i_projection (K:Nat):CB Tryz.prog:=.f _ _ (ok_i_projection K)
noncomputable def as_s_l01Rows:Ty:=(.pair (.int .i64) .unit)
noncomputable def sp_s_l01Rows (F:(Int × Unit)->Option Int):FnSpec:=⟨as_s_l01Rows,[false],(.int .i64),F⟩
noncomputable def s_l01Rows (K:Nat) (x:(Int × Unit)):Option Int :=
    (if (decide ((0:Int)<=(IntKind.u64.wrap x.1)))=true then
    some (shlI .i64 (1:Int) (IntKind.u64.wrap x.1))
    else
    none)
noncomputable def rv_s_l01Rows:Lv:=[(2,(.v (.int .i64)))]
theorem ok_s_l01Rows (K:Nat):FnOk Tryz.prog 97 (sp_s_l01Rows (s_l01Rows K)) :=
  fn_okD tysOk [] 0 [] [] rv_s_l01Rows K Tryz.func97 (by kernel_rfl) trivial (fun _=>by kernel_rfl)
noncomputable def C_s_l01Rows (K:Nat):CB Tryz.prog:=.f _ _ (ok_s_l01Rows K)
noncomputable def as_s_l01All:Ty:=(.pair (.int .i64) .unit)
noncomputable def sp_s_l01All (F:(Int × Unit)->Option Int):FnSpec:=⟨as_s_l01All,[false],(.int .i64),F⟩
noncomputable def s_l01All (K:Nat) (x:(Int × Unit)):Option Int :=
    (s_l01Rows K (x.1,())).bind fun y1 =>
    (if (decide ((0:Int)<=(IntKind.u64.wrap y1)))=true then
    let x2:=(IntKind.i64.wrap ((shlI .i64 (1:Int) (IntKind.u64.wrap y1)) - (1:Int)))
    some x2
    else
    none)
noncomputable def rv_s_l01All:Lv:=[(2,(.v (.int .i64)))]
theorem ok_s_l01All (K:Nat):FnOk Tryz.prog 96 (sp_s_l01All (s_l01All K)) :=
  fn_okD tysOk [C_s_l01Rows K] 0 [] [] rv_s_l01All K Tryz.func96 (by kernel_rfl) trivial (fun _=>by kernel_rfl)
noncomputable def C_s_l01All (K:Nat):CB Tryz.prog:=.f _ _ (ok_s_l01All K)
noncomputable def as_s_l01At:Ty:=(.pair tq0 (.pair (.int .i64) .unit))
noncomputable def sp_s_l01At (F:(dq0 × Int × Unit)->Option Int):FnSpec:=⟨as_s_l01At,[false,false],(.int .i64),F⟩
noncomputable def s_l01At (K:Nat) (x:(dq0 × Int × Unit)):Option Int :=
    (if (decide ((0:Int)<=(IntKind.u64.wrap x.2.1)))=true then
    let x1:=(bitI .and .i64 (shrI .i64 x.1.2.1 (IntKind.u64.wrap x.2.1)) (1:Int))
    some x1
    else
    none)
noncomputable def rv_s_l01At:Lv:=[(4,(.v (.int .i64)))]
theorem ok_s_l01At (K:Nat):FnOk Tryz.prog 99 (sp_s_l01At (s_l01At K)) :=
  fn_okD tysOk [] 0 [] [] rv_s_l01At K Tryz.func99 (by kernel_rfl) trivial (fun _=>by kernel_rfl)
noncomputable def C_s_l01At (K:Nat):CB Tryz.prog:=.f _ _ (ok_s_l01At K)
noncomputable def ps_s_l01From:Lv:=[(0,(.v (.sl (.int .u8))))]
noncomputable def rl_s_l01From:Lv:=[(0,(.bx (.v tq1)))]
noncomputable def sp_s_l01From (F:((List Int) × Unit)->Option ((dq1 × Unit) × Unit)):ShSpec:=⟨ps_s_l01From,rl_s_l01From,F⟩
noncomputable def s_l01From_j5 {R:Type} (K:Nat) (k:Nat) (v0:(List Int)) (v3:dq1) (v4:Int) (kn:(List Int)->dq1->Int->Option R) :Option R :=
    (if (bnds v4 (v0.length:Int))=true then
    let x3:=(IntKind.u64.wrap ((IntKind.u64.wrap (v3.2.2.1 * (1099511628211:Int))) + (IntKind.u64.wrap (v0.getD v4.toNat (0:Int)))))
    kn v0 (v3.1,v3.2.1,(IntKind.u64.wrap (x3 + (149:Int))),()) (IntKind.i64.wrap (v4 + (1:Int)))
    else
    none)
noncomputable def s_l01From_l3 {R:Type} (K:Nat):Nat->(List Int)->dq1->Int->(dq1->Option R)->Option R
  | 0,_,_,_,_=>none
  | k + 1,v0,v3,v4,kx0 =>
    (if (decide (v4 < (v0.length:Int)))=true then
    (if (decide (v4 < (4096:Int)))=true then
    s_l01From_j5 K k v0 v3 v4 (fun z4 z5 z6 =>
    s_l01From_l3 K k z4 z5 z6 kx0)
    else
    kx0 v3)
    else
    kx0 v3)
noncomputable def s_l01From (K:Nat) (x:((List Int) × Unit)):Option ((dq1 × Unit) × Unit) :=
    let x1:=(IntKind.u64.wrap ((13231:Int) + (IntKind.u64.wrap (x.1.length:Int))))
    let x2:=((x.1,(0:Int),(0:Int),()).1,(x.1,(0:Int),(0:Int),()).2.1,x1,())
    s_l01From_l3 K K x.1 x2 (0:Int) (fun z7 =>
    some ((z7,()),()))
noncomputable def X0_s_l01From:Lv:=[(3,(.bx (.v tq1)))]
noncomputable def rv_s_l01From:Lv:=[(2,(.bx (.v tq1)))]
noncomputable def D_s_l01From (K:Nat):List (PD (den rl_s_l01From.ty × den (outL ps_s_l01From).ty)):=[.L 3 [(0,(.v (.sl (.int .u8)))),(3,(.bx (.v tq1))),(4,(.v (.int .i64)))] [] (fun k x kx kr=>s_l01From_l3 K k x.1 x.2.1 x.2.2.1 (fun z0=>kx 0 (mkSt X0_s_l01From (z0,())))),
  .J 5 [(0,(.v (.sl (.int .u8)))),(3,(.bx (.v tq1))),(4,(.v (.int .i64)))] [(0,(.v (.sl (.int .u8)))),(3,(.bx (.v tq1))),(4,(.v (.int .i64)))] 0 (fun k x kn kx kr=>s_l01From_j5 K k x.1 x.2.1 x.2.2.1 (fun z0 z1 z2=>kn (z0,z1,z2,())))]
theorem ok_s_l01From (K:Nat):ShOk Tryz.prog 30 (sp_s_l01From (s_l01From K)) :=
  sh_okD tysOk [] 0 (D_s_l01From K) [(0,X0_s_l01From)] rv_s_l01From K Tryz.func30 (by kernel_rfl) ⟨⟨fun _ _ _ _=>by kernel_rfl,fun _ _ _=>rfl⟩,⟨fun _ _ _ _ _=>by kernel_rfl,trivial⟩⟩ (fun _=>by kernel_rfl)
noncomputable def C_s_l01From (K:Nat):CB Tryz.prog:=.s _ _ (ok_s_l01From K)
noncomputable def as_s_l01In:Ty:=(.pair (.int .i64) (.pair (.int .i64) (.pair (.int .i64) .unit)))
noncomputable def sp_s_l01In (F:(Int × Int × Int × Unit)->Option Bool):FnSpec:=⟨as_s_l01In,[false,false,false],.bool,F⟩
noncomputable def s_l01In (K:Nat) (x:(Int × Int × Int × Unit)):Option Bool :=
    (if (decide (x.1 ≥ x.2.1))=true then
    some (decide (x.1<=x.2.2.1))
    else
    some false)
noncomputable def rv_s_l01In:Lv:=[(6,(.v .bool))]
theorem ok_s_l01In (K:Nat):FnOk Tryz.prog 40 (sp_s_l01In (s_l01In K)) :=
  fn_okD tysOk [] 0 [] [] rv_s_l01In K Tryz.func40 (by kernel_rfl) trivial (fun _=>by kernel_rfl)
noncomputable def C_s_l01In (K:Nat):CB Tryz.prog:=.f _ _ (ok_s_l01In K)
noncomputable def ps_s_l01Next:Lv:=[(0,(.bx (.v tq1))),(1,(.v (.int .i64)))]
noncomputable def rl_s_l01Next:Lv:=[(0,(.v (.int .i64)))]
noncomputable def sp_s_l01Next (F:(dq1 × Int × Unit)->Option ((Int × Unit) × (dq1 × Unit))):ShSpec:=⟨ps_s_l01Next,rl_s_l01Next,F⟩
noncomputable def s_l01Next (K:Nat) (x:(dq1 × Int × Unit)):Option ((Int × Unit) × (dq1 × Unit)) :=
    (if (decide (x.2.1 < (1:Int)))=true then
    some (((0:Int),()),(x.1,()))
    else
    let x1:=(IntKind.u64.wrap ((IntKind.u64.wrap (x.1.2.2.1 * (6364136223846793005:Int))) + (1442695040888963407:Int)))
    let x2:=(bitI .and .u64 (shrI .u64 ((x.1.1,x.1.2.1,x1,()).2.2.1) (33:Int)) (16777215:Int))
    let x3:=(decide ((x.1.1,x.1.2.1,x1,()).2.1 < (((x.1.1,x.1.2.1,x1,()).1).length:Int)))
    (if x3=true then
    (if (bnds ((x.1.1,x.1.2.1,x1,()).2.1) (((x.1.1,x.1.2.1,x1,()).1).length:Int))=true then
    let x4:=(((x.1.1,x.1.2.1,x1,()).1).getD ((x.1.1,x.1.2.1,x1,()).2.1).toNat (0:Int))
    let x5:=(IntKind.i64.wrap ((IntKind.i64.wrap x2) + (IntKind.i64.wrap x4)))
    let x6:=(IntKind.i64.wrap ((x.1.1,x.1.2.1,x1,()).2.1 + (1:Int)))
    (if (!decide (x.2.1=0))=true then
    some (((Int.tmod x5 x.2.1),()),(((x.1.1,x.1.2.1,x1,()).1,x6,(x.1.1,x.1.2.1,x1,()).2.2.1,()),()))
    else
    none)
    else
    none)
    else
    (if (!decide (x.2.1=0))=true then
    some (((Int.tmod (IntKind.i64.wrap x2) x.2.1),()),((x.1.1,x.1.2.1,x1,()),()))
    else
    none)))
noncomputable def rv_s_l01Next:Lv:=[(0,(.bx (.v tq1))),(4,(.v (.int .i64)))]
theorem ok_s_l01Next (K:Nat):ShOk Tryz.prog 50 (sp_s_l01Next (s_l01Next K)) :=
  sh_okD tysOk [] 1 [] [] rv_s_l01Next K Tryz.func50 (by kernel_rfl) trivial (fun _=>by kernel_rfl)
noncomputable def C_s_l01Next (K:Nat):CB Tryz.prog:=.s _ _ (ok_s_l01Next K)
noncomputable def ps_s_l01Pick:Lv:=[(0,(.bx (.v tq1))),(1,(.v (.sl (.int .i64))))]
noncomputable def rl_s_l01Pick:Lv:=[(0,(.v (.int .i64)))]
noncomputable def sp_s_l01Pick (F:(dq1 × (List Int) × Unit)->Option ((Int × Unit) × (dq1 × Unit))):ShSpec:=⟨ps_s_l01Pick,rl_s_l01Pick,F⟩
noncomputable def s_l01Pick (K:Nat) (x:(dq1 × (List Int) × Unit)):Option ((Int × Unit) × (dq1 × Unit)) :=
    (s_l01Next K (x.1,(x.2.1.length:Int),())).bind fun y1 =>
    (if (bnds y1.1.1 (x.2.1.length:Int))=true then
    some (((x.2.1.getD y1.1.1.toNat (0:Int)),()),(y1.2.1,()))
    else
    none)
noncomputable def rv_s_l01Pick:Lv:=[(0,(.bx (.v tq1))),(4,(.v (.int .i64)))]
theorem ok_s_l01Pick (K:Nat):ShOk Tryz.prog 32 (sp_s_l01Pick (s_l01Pick K)) :=
  sh_okD tysOk [C_s_l01Next K] 1 [] [] rv_s_l01Pick K Tryz.func32 (by kernel_rfl) trivial (fun _=>by kernel_rfl)
noncomputable def C_s_l01Pick (K:Nat):CB Tryz.prog:=.s _ _ (ok_s_l01Pick K)
noncomputable def ps_s_l01Near:Lv:=[(0,(.bx (.v tq1))),(1,(.v (.int .i64)))]
noncomputable def rl_s_l01Near:Lv:=[(0,(.v (.int .i64)))]
noncomputable def sp_s_l01Near (F:(dq1 × Int × Unit)->Option ((Int × Unit) × (dq1 × Unit))):ShSpec:=⟨ps_s_l01Near,rl_s_l01Near,F⟩
noncomputable def s_l01Near (K:Nat) (x:(dq1 × Int × Unit)):Option ((Int × Unit) × (dq1 × Unit)) :=
    (s_l01Next K (x.1,(14:Int),())).bind fun y1 =>
    (if (decide (y1.1.1=(0:Int)))=true then
    let l2:=[(-1:Int),(IntKind.i64.wrap (x.2.1 + (1:Int))),(1099511627776:Int),(-4611686018427387904:Int)]
    (s_l01Pick K (y1.2.1,l2,())).bind fun y3 =>
    some ((y3.1.1,()),(y3.2.1,()))
    else
    (s_l01Next K (y1.2.1,(IntKind.i64.wrap (x.2.1 + (1:Int))),())).bind fun y4 =>
    some ((y4.1.1,()),(y4.2.1,())))
noncomputable def rv_s_l01Near:Lv:=[(0,(.bx (.v tq1))),(4,(.v (.int .i64)))]
theorem ok_s_l01Near (K:Nat):ShOk Tryz.prog 34 (sp_s_l01Near (s_l01Near K)) :=
  sh_okD tysOk [C_s_l01Pick K,C_s_l01Next K] 1 [] [] rv_s_l01Near K Tryz.func34 (by kernel_rfl) trivial (fun _=>by kernel_rfl)
noncomputable def C_s_l01Near (K:Nat):CB Tryz.prog:=.s _ _ (ok_s_l01Near K)
noncomputable def as_s_l01Of:Ty:=(.pair (.int .i64) (.pair (.sl (.int .i64)) .unit))
noncomputable def sp_s_l01Of (F:(Int × (List Int) × Unit)->Option dq0):FnSpec:=⟨as_s_l01Of,[false,false],tq0,F⟩
noncomputable def s_l01Of_l3 {R:Type} (K:Nat):Nat->Int->(List Int)->dq0->dq0->Int->(dq0->dq0->Option R)->Option R
  | 0,_,_,_,_,_,_=>none
  | k + 1,v0,v1,v4,v5,v6,kx0 =>
    (s_l01Rows K (v0,())).bind fun y1 =>
    (if (decide (v6 < y1))=true then
    (if (bnds v6 (v1.length:Int))=true then
    (if (decide ((0:Int)<=(IntKind.u64.wrap v6)))=true then
    let x2:=(shlI .i64 (v1.getD v6.toNat (0:Int)) (IntKind.u64.wrap v6))
    s_l01Of_l3 K k v0 v1 v4 (v5.1,(IntKind.i64.wrap (v5.2.1 + x2)),()) (IntKind.i64.wrap (v6 + (1:Int))) kx0
    else
    none)
    else
    none)
    else
    kx0 v4 v5)
noncomputable def s_l01Of (K:Nat) (x:(Int × (List Int) × Unit)):Option dq0 :=
    s_l01Of_l3 K K x.1 x.2.1 ((0:Int),(0:Int),()) (x.1,((0:Int),(0:Int),()).2.1,()) (0:Int) (fun z3 z4 =>
    some z4)
noncomputable def X0_s_l01Of:Lv:=[(4,(.bx (.v tq0))),(5,(.bx (.v tq0)))]
noncomputable def rv_s_l01Of:Lv:=[(4,(.bx (.v tq0)))]
noncomputable def D_s_l01Of (K:Nat):List (PD (den tq0)):=[.L 3 [(0,(.v (.int .i64))),(1,(.v (.sl (.int .i64)))),(4,(.bx (.v tq0))),(5,(.bx (.v tq0))),(6,(.v (.int .i64)))] [] (fun k x kx kr=>s_l01Of_l3 K k x.1 x.2.1 x.2.2.1 x.2.2.2.1 x.2.2.2.2.1 (fun z0 z1=>kx 0 (mkSt X0_s_l01Of (z0,z1,()))))]
theorem ok_s_l01Of (K:Nat):FnOk Tryz.prog 98 (sp_s_l01Of (s_l01Of K)) :=
  fn_okD tysOk [C_s_l01Rows K] 0 (D_s_l01Of K) [(0,X0_s_l01Of)] rv_s_l01Of K Tryz.func98 (by kernel_rfl) ⟨⟨fun _ _ _ _=>by kernel_rfl,fun _ _ _=>rfl⟩,trivial⟩ (fun _=>by kernel_rfl)
noncomputable def C_s_l01Of (K:Nat):CB Tryz.prog:=.f _ _ (ok_s_l01Of K)
noncomputable def as_w_likeInts:Ty:=(.pair (.sl (.int .i64)) (.pair (.sl (.int .i64)) .unit))
noncomputable def sp_w_likeInts (F:((List Int) × (List Int) × Unit)->Option Bool):FnSpec:=⟨as_w_likeInts,[false,false],.bool,F⟩
noncomputable def w_likeInts_l4 {R:Type} (K:Nat):Nat->(List Int)->(List Int)->Int->(Option R)->(Bool->Option R)->Option R
  | 0,_,_,_,_,_=>none
  | k + 1,v0,v1,v5,kx0,kr =>
    (if (decide (v5 < (v0.length:Int)))=true then
    (if (bnds v5 (v0.length:Int))=true then
    (if (bnds v5 (v1.length:Int))=true then
    let x1:=(!decide ((v0.getD v5.toNat (0:Int))=(v1.getD v5.toNat (0:Int))))
    (if x1=true then
    kr false
    else
    w_likeInts_l4 K k v0 v1 (IntKind.i64.wrap (v5 + (1:Int))) kx0 kr)
    else
    none)
    else
    none)
    else
    kx0)
noncomputable def w_likeInts (K:Nat) (x:((List Int) × (List Int) × Unit)):Option Bool :=
    (if (!decide ((x.1.length:Int)=(x.2.1.length:Int)))=true then
    some false
    else
    w_likeInts_l4 K K x.1 x.2.1 (0:Int) (some true) (fun z2 =>
    some z2))
noncomputable def X0_w_likeInts:Lv:=[]
noncomputable def rv_w_likeInts:Lv:=[(4,(.v .bool))]
noncomputable def D_w_likeInts (K:Nat):List (PD (den .bool)):=[.L 4 [(0,(.v (.sl (.int .i64)))),(1,(.v (.sl (.int .i64)))),(5,(.v (.int .i64)))] [] (fun k x kx kr=>w_likeInts_l4 K k x.1 x.2.1 x.2.2.1 (kx 0 (mkSt X0_w_likeInts ())) (fun z0=>kr (mkSt rv_w_likeInts (z0,()))))]
theorem ok_w_likeInts (K:Nat):FnOk Tryz.prog 29 (sp_w_likeInts (w_likeInts K)) :=
  fn_okD tysOk [] 0 (D_w_likeInts K) [(0,X0_w_likeInts)] rv_w_likeInts K Tryz.func29 (by kernel_rfl) ⟨⟨fun _ _ _ _=>by kernel_rfl,fun _ _ _=>rfl⟩,trivial⟩ (fun _=>by kernel_rfl)
noncomputable def C_w_likeInts (K:Nat):CB Tryz.prog:=.f _ _ (ok_w_likeInts K)
end Go.Proofs.YtefmjjpdflpnaaaGreat.E
