/-
  The evaluator's operations are sound, eleventh part: calls that change nothing. Conditions: those of each theorem.
-/
import Derived.Test.YtefmjjpdflpnaaaGreatCFnFormulas2
namespace Go.Proofs.YtefmjjpdflpnaaaGreat.E
open Go Go.RowKit
set_option linter.unusedVariables false
set_option linter.unusedSimpArgs false
section
variable {C:Cx} {cf:Cfg} {dst:Option Tmp} {type:TypeId} {pos:String} {after:Array Edge} {guard:Option (Nat × Bool)} {st:St} {a:Act} {w w':World} {G:Gh} {α:Type} {us:U}
theorem any_tail {mu:List Bool} (h:mu.any id=false):mu.tail.any id=false:=by
  cases mu with
  | nil=>rfl
  | cons m mu=>simp only [List.any_cons,Bool.or_eq_false_iff] at h;exact h.2
theorem argsM_run (O:CfgOk C cf) (I:InvM C st w G):∀ (T:Ty) (mu:List Bool) (v:SV) {f:den T->M α} {u:α} {vals:List Value},Rn (argsM cf false T mu v f) st u->SX C.P st G w (Fz st G w) v true vals →
    ∃ x,RX C.P T true w (AllB w) vals x/\Rn (f x) st u
  | .unit,mu,v,f,u,vals,h,hs=>by
    cases v <;> simp only [argsM] at h <;> try exact (Rn_fail.1 h).elim
    exact ⟨(),hs,h⟩
  | .pair A B,mu,v,f,u,vals,h,hs=>by
    cases v <;> simp only [argsM] at h <;> try exact (Rn_fail.1 h).elim
    obtain ⟨c,r,rfl,h1,h2⟩:=hs
    rw [Rn_bif] at h
    rcases h with ⟨_,h⟩ | ⟨_,h⟩
    case inr=>exact (Rn_fail.1 h).elim
    obtain ⟨x,x1,x2,x3⟩:=res_run O I 8 A _ false h h1
    obtain ⟨y,y1,y2⟩:=argsM_run O I B mu.tail _ x2 h2
    exact ⟨(x,y),⟨c,r,by rw [x3 rfl],x1,y1⟩,y2⟩
  | .int _,_,v,_,_,_,h,_=>by cases v <;> simp only [argsM] at h <;> exact (Rn_fail.1 h).elim
  | .bool,_,v,_,_,_,h,_=>by cases v <;> simp only [argsM] at h <;> exact (Rn_fail.1 h).elim
  | .str,_,v,_,_,_,h,_=>by cases v <;> simp only [argsM] at h <;> exact (Rn_fail.1 h).elim
  | .st _,_,v,_,_,_,h,_=>by cases v <;> simp only [argsM] at h <;> exact (Rn_fail.1 h).elim
  | .tup _,_,v,_,_,_,h,_=>by cases v <;> simp only [argsM] at h <;> exact (Rn_fail.1 h).elim
  | .sl _,_,v,_,_,_,h,_=>by cases v <;> simp only [argsM] at h <;> exact (Rn_fail.1 h).elim
  | .arr _ _,_,v,_,_,_,h,_=>by cases v <;> simp only [argsM] at h <;> exact (Rn_fail.1 h).elim
  | .ptr _,_,v,_,_,_,h,_=>by cases v <;> simp only [argsM] at h <;> exact (Rn_fail.1 h).elim
  | .fn _ _,_,v,_,_,_,h,_=>by cases v <;> simp only [argsM] at h <;> exact (Rn_fail.1 h).elim
  | .frm,_,v,_,_,_,h,_=>by cases v <;> simp only [argsM] at h <;> exact (Rn_fail.1 h).elim
/-- What a call hands back is stored. -/
theorem ret_sound {dst:Option Nat} (O:CfgOk C cf) (I:Inv C st a w G) {T:Ty} {y:den T} (hT:T.ownable=true) (h:Rn (wrOwn cf dst T y []) st us) {v:Value} (hr:Ret T y w v w'):∃ G',Inv C (upds st us) (a.put dst v) w' G':=by
  obtain ⟨bs,h1,h2,h3,h4⟩:=hr
  exact wrOwn_sound O I h hT h1 (fun p hp=>by cases hp) (by simp) h4.os h4.tape h4.output h4.size (D:=fun _=>False) (fun b hb=>hb.elim) (fun b hb _=>h4.block b hb) h2 (fun b hb=>⟨.inr (h3 b hb).1,(h3 b hb).2⟩)
theorem call_run {P:Program} {w:World} {args:Array Operand} {tys:Array TypeId} {f:Operand} {g:FuncId} {fi ca:Array Value} (hf:a.eval f=.func (.func g) fi ca) :
    (execOp a.eval ⟨dst,.call ⟨.value f,args,tys⟩,type,pos,after,guard⟩).run P w=(callFunc g (fi ++ args.map a.eval ++ ca)).run P w:=by
  simp only [execOp,resolve,Deferred.ofValue,hf,invoke,Sem.run_bind,Sem.run_pure,Result.andThen_ok]
theorem snd_callPlain (O:CfgOk C cf) {g:FuncId} {args:Array Operand} {tys:Array TypeId} {sp:FnSpec} (hfn:cf.fn g=some sp) (hmu:sp.mu.any id=false):Snd C cf ⟨dst,.call ⟨.value (.func g),args,tys⟩,type,pos,after,guard⟩:=by
  intro st a w G us next Q I h hn
  simp only [exec,hfn] at h
  obtain ⟨v,hv,h⟩:=opds_run I h
  unfold callM at h
  rw [hmu] at h
  obtain ⟨x,hx,h⟩:=argsM_run O I.toInvM sp.pas sp.mu v h hv
  rw [Rn_call] at h
  obtain ⟨y,hy,h⟩:=h
  simp only [cond_false] at h
  rw [Rn_bif] at h
  rcases h with ⟨hT,h⟩ | ⟨_,h⟩
  case inr=>exact (Rn_fail.1 h).elim
  unfold Oper.wp
  rw [call_run (g:=g) (fi:=#[]) (ca:=#[]) rfl]
  have hcf:=(O.fn g sp hfn).plain hmu w _ x y hx hy
  have e:#[] ++ args.map a.eval ++ #[]=(args.toList.map a.eval).toArray:=by
    rw [<-Array.toList_map]
    show _=args.map a.eval
    rw [Array.append_empty,Array.empty_append]
  rw [e]
  refine hcf _ a next Q fun v' w' hr=>?_
  obtain ⟨G',I'⟩:=ret_sound O I hT h hr
  exact hn _ _ _ I'
end
end Go.Proofs.YtefmjjpdflpnaaaGreat.E
namespace Go.Proofs.YtefmjjpdflpnaaaGreat.E
open Go Go.RowKit
set_option linter.unusedVariables false
set_option linter.unusedSimpArgs false
/-- Roots written back. -/
structure Bk (st:St) (G:Gh) (w w':World) (u:U) (ts:List Nat) (bs bs':List Nat) (nb:Nat->List Nat):Prop where
  each:∀ t ∈ ts,∃ g h e l0 l',(rk t,Cell.root g (h + 1) e l') ∈ u/\st (rk t)=.root g h e l0/\l'.length=l0.length/\TC (.sl e) w' [G.hd (rk t)] l' (nb t)
  nbn:∀ t ∈ ts,(nb t).Nodup
  nbm:∀ t ∈ ts,∀ b ∈ nb t,(b ∈ G.bl (rk t)/\b ∉ bs)\/b ∈ bs'
  dj:∀ t ∈ ts,∀ t' ∈ ts,t ≠ t'->∀ b ∈ nb t,b ∉ nb t'
/-- What is handed to a callee that may change it: the roots it lies in (ts), its blocks (bs), the state's update for a new value (Uf). -/
structure Lens {Y:Type} (st:St) (G:Gh) (w:World) (D:World->Y->List Nat->Prop) (ts bs:List Nat) (Uf:Y->U):Prop where
  rt:∀ t ∈ ts,∃ g h e l,st (rk t)=.root g h e l
  keys:∀ y,(Uf y).map (·.1)=ts.map rk
  sub:∀ b ∈ bs,∃ t ∈ ts,b ∈ G.bl (rk t)
  nd:ts.Nodup->bs.Nodup
  back:ts.Nodup->∀ (w':World) (y:Y) (bs':List Nat),D w' y bs'->bs'.Nodup->(∀ t ∈ ts,∀ b ∈ G.bl (rk t),b ∉ bs->w'.heap[b]?=w.heap[b]?)->(∀ b ∈ bs',b < w.heap.size->∀ t ∈ ts,b ∈ G.bl (rk t)->b ∈ bs) →
    ∃ nb,Bk st G w w' (Uf y) ts bs bs' nb
section
variable {C:Cx} {cf:Cfg} {dst:Option Tmp} {type:TypeId} {pos:String} {after:Array Edge} {guard:Option (Nat × Bool)} {st:St} {a:Act} {w w':World} {G:Gh} {α:Type} {us:U}
theorem Lens.none {Y:Type} {D:World->Y->List Nat->Prop}:Lens st G w D [] [] (fun _=>[]) :=
  ⟨fun t h=>(by cases h),fun _=>rfl,fun b h=>(by cases h),fun _=>List.nodup_nil,fun _ w' y bs' _ _ _ _=>⟨fun _=>[],fun t h=>(by cases h),fun t h=>(by cases h),fun t h=>(by cases h),fun t h=>(by cases h)⟩⟩
theorem Lens.congr {Y:Type} {D D':World->Y->List Nat->Prop} {ts bs:List Nat} {Uf:Y->U} (h:Lens st G w D ts bs Uf) (hd:∀ w' y bs',D' w' y bs'->D w' y bs'):Lens st G w D' ts bs Uf :=
  ⟨h.rt,h.keys,h.sub,h.nd,fun hn w' y bs' hy=>h.back hn w' y bs' (hd w' y bs' hy)⟩
theorem root_own {t:Nat} (h:∃ g h e l,st (rk t)=.root g h e l):ownB st G (rk t)=G.bl (rk t):=by
  obtain ⟨g,hh,e,l,hr⟩:=h;unfold ownB;rw [hr]
theorem Lens.pair (I:InvM C st w G) {X Y:Type} {D:World->X->List Nat->Prop} {E:World->Y->List Nat->Prop} {ts1 ts2 bs1 bs2:List Nat} {F1:X->U} {F2:Y->U} (h1:Lens st G w D ts1 bs1 F1) (h2:Lens st G w E ts2 bs2 F2) :
    Lens (Y:=X × Y) st G w (fun w' y bs'=>∃ b1 b2,bs'=b1 ++ b2/\D w' y.1 b1/\E w' y.2 b2) (ts1 ++ ts2) (bs1 ++ bs2) (fun y=>F1 y.1 ++ F2 y.2):=by
  have dis:(ts1 ++ ts2).Nodup->∀ t ∈ ts1,∀ t' ∈ ts2,∀ b,b ∈ G.bl (rk t)->b ∈ G.bl (rk t')->False:=fun hn t ht t' ht' b hb hb'=>by
    have:=I.dj (rk t) (rk t') b (by rw [root_own (h1.rt t ht)];exact hb) (by rw [root_own (h2.rt t' ht')];exact hb')
    exact (List.nodup_append.1 hn).2.2 t ht t' ht' (rk_inj this)
  refine ⟨fun t ht=>(List.mem_append.1 ht).elim (h1.rt t) (h2.rt t),fun y=>by rw [List.map_append,List.map_append,h1.keys,h2.keys],fun b hb=>?_,fun hn=>?_,fun hn w' y bs' hy hnd hsame hold=>?_⟩
  · rcases List.mem_append.1 hb with hb | hb
    · obtain ⟨t,ht,hb⟩:=h1.sub b hb;exact ⟨t,List.mem_append_left _ ht,hb⟩
    · obtain ⟨t,ht,hb⟩:=h2.sub b hb;exact ⟨t,List.mem_append_right _ ht,hb⟩
  · rw [List.nodup_append]
    refine ⟨h1.nd (List.nodup_append.1 hn).1,h2.nd (List.nodup_append.1 hn).2.1,fun b hb b' hb' e=>?_⟩
    subst e
    obtain ⟨t,ht,hb⟩:=h1.sub b hb
    obtain ⟨t',ht',hb'⟩:=h2.sub b hb'
    exact dis hn t ht t' ht' b hb hb'
  · obtain ⟨b1,b2,rfl,hd,he⟩:=hy
    have n1:=(List.nodup_append.1 hn).1
    have n2:=(List.nodup_append.1 hn).2.1
    have no12:∀ t ∈ ts1,∀ b ∈ G.bl (rk t),b ∉ bs2:=fun t ht b hb hb2=>by
      obtain ⟨t',ht',hb'⟩:=h2.sub b hb2;exact dis hn t ht t' ht' b hb hb'
    have no21:∀ t ∈ ts2,∀ b ∈ G.bl (rk t),b ∉ bs1:=fun t ht b hb hb2=>by
      obtain ⟨t',ht',hb'⟩:=h1.sub b hb2;exact dis hn t' ht' t ht b hb' hb
    obtain ⟨nb1,k1⟩:=h1.back n1 w' y.1 b1 hd (List.nodup_append.1 hnd).1 (fun t ht b hb hnb=>hsame t (List.mem_append_left _ ht) b hb (fun hm=>(List.mem_append.1 hm).elim hnb (no12 t ht b hb)))
      (fun b hb hlt t ht hbt=>(List.mem_append.1 (hold b (List.mem_append_left _ hb) hlt t (List.mem_append_left _ ht) hbt)).elim id fun hm=>absurd hm (no12 t ht b hbt))
    obtain ⟨nb2,k2⟩:=h2.back n2 w' y.2 b2 he (List.nodup_append.1 hnd).2.1 (fun t ht b hb hnb=>hsame t (List.mem_append_right _ ht) b hb (fun hm=>(List.mem_append.1 hm).elim (no21 t ht b hb) hnb))
      (fun b hb hlt t ht hbt=>(List.mem_append.1 (hold b (List.mem_append_right _ hb) hlt t (List.mem_append_right _ ht) hbt)).elim (fun hm=>absurd hm (no21 t ht b hbt)) id)
    have ne1:∀ t ∈ ts2,t ∉ ts1:=fun t ht ht1=>(List.nodup_append.1 hn).2.2 t ht1 t ht rfl
    have blt:∀ t ∈ ts1 ++ ts2,∀ b ∈ G.bl (rk t),b < w.heap.size:=fun t ht b hb=>by
      have hr:∃ g h e l,st (rk t)=.root g h e l:=(List.mem_append.1 ht).elim (h1.rt t) (h2.rt t)
      exact (I.lt (rk t) b (by rw [root_own hr];exact hb)).1
    have cross:∀ t ∈ ts1,∀ t' ∈ ts2,∀ b,b ∈ nb1 t->b ∈ nb2 t'->False:=fun t ht t' ht' b hb hb'=>by
      rcases k1.nbm t ht b hb with ⟨g1,g2⟩ | g1
      · rcases k2.nbm t' ht' b hb' with ⟨g3,g4⟩ | g3
        · exact dis hn t ht t' ht' b g1 g3
        · rcases List.mem_append.1 (hold b (List.mem_append_right _ g3) (blt t (List.mem_append_left _ ht) b g1) t (List.mem_append_left _ ht) g1) with g5 | g5
          · exact g2 g5
          · exact no12 t ht b g1 g5
      · rcases k2.nbm t' ht' b hb' with ⟨g3,g4⟩ | g3
        · rcases List.mem_append.1 (hold b (List.mem_append_left _ g1) (blt t' (List.mem_append_right _ ht') b g3) t' (List.mem_append_right _ ht') g3) with g5 | g5
          · exact no21 t' ht' b g3 g5
          · exact g4 g5
        · exact (List.nodup_append.1 hnd).2.2 b g1 b g3 rfl
    refine ⟨fun t=>if t ∈ ts1 then nb1 t else nb2 t,fun t ht=>?_,fun t ht=>?_,fun t ht b hb=>?_,fun t ht t' ht' hne b hb hb'=>?_⟩
    · rcases List.mem_append.1 ht with ht | ht
      · obtain ⟨g,h,e,l0,l',m1,m2⟩:=k1.each t ht
        exact ⟨g,h,e,l0,l',List.mem_append_left _ m1,by rw [if_pos ht];exact m2⟩
      · obtain ⟨g,h,e,l0,l',m1,m2⟩:=k2.each t ht
        exact ⟨g,h,e,l0,l',List.mem_append_right _ m1,by rw [if_neg (ne1 t ht)];exact m2⟩
    · rcases List.mem_append.1 ht with ht | ht
      · simp only [if_pos ht];exact k1.nbn t ht
      · simp only [if_neg (ne1 t ht)];exact k2.nbn t ht
    · rcases List.mem_append.1 ht with ht | ht
      · simp only [if_pos ht] at hb
        rcases k1.nbm t ht b hb with ⟨g1,g2⟩ | g1
        · exact .inl ⟨g1,fun hm=>(List.mem_append.1 hm).elim g2 (no12 t ht b g1)⟩
        · exact .inr (List.mem_append_left _ g1)
      · simp only [if_neg (ne1 t ht)] at hb
        rcases k2.nbm t ht b hb with ⟨g1,g2⟩ | g1
        · exact .inl ⟨g1,fun hm=>(List.mem_append.1 hm).elim (no21 t ht b g1) g2⟩
        · exact .inr (List.mem_append_right _ g1)
    · rcases List.mem_append.1 ht with ht | ht
      · simp only [if_pos ht] at hb
        rcases List.mem_append.1 ht' with ht' | ht'
        · simp only [if_pos ht'] at hb';exact k1.dj t ht t' ht' hne b hb hb'
        · simp only [if_neg (ne1 t' ht')] at hb';exact cross t ht t' ht' b hb hb'
      · simp only [if_neg (ne1 t ht)] at hb
        rcases List.mem_append.1 ht' with ht' | ht'
        · simp only [if_pos ht'] at hb';exact cross t' ht' t ht b hb' hb
        · simp only [if_neg (ne1 t' ht')] at hb';exact k2.dj t ht t' ht' hne b hb hb'
theorem sg_cast {T:Ty}:∀ (s:Sg) (h:s.1=T) (y:den T),s=⟨T,y⟩->(h ▸ s.2:den T)=y:=by
  rintro ⟨T',x⟩ h y e;cases e;rfl
theorem lensP {w:World} {fs:List Nat} {T T2:Ty} {cs:List Value} {x:den T} {bs:List Nat} {y0:den T2} (h:TC T w cs x bs) (hg:getP fs T x=⟨T2,y0⟩):tyP fs T=T2/\∃ b1 b2 b3,bs=b1 ++ b2 ++ b3/\TC T2 w (seg cs (offP fs T) T2.sz) y0 b2 ∧
    ∀ (w':World) (ys:List Value) (z:den T2) (b':List Nat),(∀ b,b ∈ b1 ++ b3->w'.heap[b]?=w.heap[b]?)->TC T2 w' ys z b'->TC T w' (setSeg cs (offP fs T) ys) (setP fs T x ⟨T2,z⟩) (b1 ++ b' ++ b3):=by
  have hT:tyP fs T=T2:=by rw [<-getP_ty fs T x,hg]
  refine ⟨hT,?_⟩
  obtain ⟨b1,b2,b3,h1,h2,h3⟩:=TC_lensP fs T h
  subst hT
  rw [sg_cast _ (getP_ty fs T x) y0 hg] at h2
  exact ⟨b1,b2,b3,h1,h2,h3⟩
theorem hd_len {w w':World} {e e':Ty} {v:Value} {l:List (den e)} {l':List (den e')} {bs bs':List Nat} (h:TC (.sl e) w [v] l bs) (h':TC (.sl e') w' [v] l' bs'):l'.length=l.length:=by
  rcases h with ⟨h1,h2,_⟩ | ⟨b,o,n,c,arr,ty,bss,h1,_,h2,_⟩ <;> rcases h' with ⟨k1,k2,_⟩ | ⟨b',o',n',c',arr',ty',bss',k1,_,k2,_⟩
  · have h2:l=[]:=h2
    have k2:l'=[]:=k2
    rw [h2,k2];rfl
  · rw [h1] at k1;simp at k1
  · rw [h1] at k1;simp at k1
  · rw [h1] at k1;simp only [List.cons.injEq,Value.slice.injEq,and_true] at k1
    have h2:n=l.length:=h2
    have k2:n'=l'.length:=k2
    omega
theorem setSeg_same {β:Type} {l:List β} {o n:Nat} (h:o + n<=l.length):setSeg l o (seg l o n)=l:=by
  apply List.ext_getElem?
  intro j
  rw [setSeg_get (by rw [seg_len h];exact h),seg_len h]
  by_cases hj:o<=j/\j < o + n
  · rw [if_pos hj,seg_get,if_pos (by omega)];congr 1;omega
  · rw [if_neg hj]
theorem wb_lens (O:CfgOk C cf) (I:InvM C st w G):∀ (n:Nat) (T:Ty) (v:SV) {g:den T->M α} {u:α} {cs:List Value},Rn (res cf n T v g) st u->SX C.P st G w (Fz st G w) v false cs →
    ∃ x,Rn (g x) st u/\valS v cs=valOf T cs/\∀ {β:Type} (y:den T) (f:U->List Nat->M β) (u':β),Rn (wb T v y f) st u'->∃ ts bs Uf,Rn (f (Uf y) ts) st u'/\TC T w cs x bs/\Lens st G w (fun w' z bs'=>TC T w' cs z bs') ts bs Uf
  | 0,T,v,g,u,cs,h,hs=>(Rn_fail.1 (by unfold res at h;exact h)).elim
  | n + 1,T,v,g,u,cs,h,hs=>by
    cases v with
    | val T' x =>
      have h:Rn (if h:T'=T then g (h ▸ x) else .fail) st u:=by unfold res at h;exact h
      split at h
      case isFalse=>exact (Rn_fail.1 h).elim
      rename_i e;subst e
      refine ⟨x,h,rfl,fun y f u' hw=>?_⟩
      have hw:Rn (bif T'.mem then .fail else f [] []) st u':=by cases T' <;> exact hw
      rw [Rn_bif] at hw
      rcases hw with ⟨_,hw⟩ | ⟨hm,hw⟩
      · exact (Rn_fail.1 hw).elim
      · exact ⟨[],[],fun _=>[],hw,TC_of_RX C.P T' hm hs,Lens.none⟩
    | nil =>
      cases T <;> simp only [res] at h <;> try exact (Rn_fail.1 h).elim
      have hs:cs=[.slice none 0 0]:=hs
      subst hs
      exact ⟨[],h,rfl,fun y f u' hw=>⟨[],[],fun _=>[],hw,.inl ⟨rfl,rfl,rfl⟩,Lens.none⟩⟩
    | ref t g0 e1 =>
      cases T <;> simp only [res] at h <;> try exact (Rn_fail.1 h).elim
      rename_i e
      rw [Rn_get] at h
      split at h
      case h_2=>exact (Rn_fail.1 h).elim
      rename_i g' hh e' l hr
      split at h
      case isFalse=>exact (Rn_fail.1 h).elim
      rename_i e2;subst e2
      rw [Rn_chk] at h
      have hg:g0=g':=Nat.eq_of_beq_eq_true h.1
      subst hg
      obtain ⟨x,rfl,_,_,hx⟩:=hs
      obtain ⟨rfl,_⟩:=hx _ _ _ hr
      refine ⟨l,h.2,rfl,fun y f u' hw=>?_⟩
      simp only [wb] at hw
      rw [Rn_get,hr] at hw
      simp only [decide_true,cond_true,Rn_chk] at hw
      refine ⟨[t],G.bl (rk t),fun y=>[(rk t,.root g0 (hh + 1) e' y)],hw.2,I.rt _ _ _ _ _ hr,?_⟩
      have hown:=root_own (G:=G) ⟨g0,hh,e',l,hr⟩
      refine ⟨fun t' ht=>by simp only [List.mem_singleton] at ht;subst ht;exact ⟨g0,hh,e',l,hr⟩,fun y=>rfl,fun b hb=>⟨t,by simp,hb⟩,fun _=>by rw [<-hown];exact I.nd _,fun _ w' y bs' hy hnd _ _=>⟨fun _=>bs',fun t' ht=>?_,fun _ _=>hnd,fun _ _ b hb=>.inr hb,fun t' ht t'' ht' hne=>?_⟩⟩
      · simp only [List.mem_singleton] at ht;subst ht
        exact ⟨g0,hh,e',l,y,by simp,hr,hd_len (I.rt _ _ _ _ _ hr) hy,hy⟩
      · simp only [List.mem_singleton] at ht ht';exact absurd (ht.trans ht'.symm) hne
    | sub t g0 h0 i fs e1 =>
      cases T <;> simp only [res] at h <;> try exact (Rn_fail.1 h).elim
      rename_i e
      rw [Rn_get] at h
      split at h
      case h_2=>exact (Rn_fail.1 h).elim
      rename_i g' hh e' l hr
      rw [Rn_chk,Bool.and_eq_true] at h
      have hg:g0=g':=Nat.eq_of_beq_eq_true h.1.1
      have hh2:h0=hh:=Nat.eq_of_beq_eq_true h.1.2
      subst hg;subst hh2
      obtain ⟨x,rfl,_,_,_,hx⟩:=hs
      obtain ⟨i0,i1,⟨y0,hy0⟩,b,o,k,c,arr,ty,fz,e1',e2',e3'⟩:=hx _ _ hr
      have h2:=h.2
      rw [hy0] at h2
      unfold asTy at h2
      split at h2
      case isFalse=>exact (Rn_fail.1 h2).elim
      rename_i e2
      have e2:Ty.sl e1=Ty.sl e:=e2
      injection e2 with e2;subst e2
      have hi:i.toNat < l.length:=by omega
      have hown:=root_own (G:=G) ⟨g0,h0,e',l,hr⟩
      obtain ⟨b',o',c',arr',ty',b1,b2,b3,k1,k2,k3,k4,k5,k6,k7⟩:=TC_lensR (I.rt _ _ _ _ _ hr) hi
      rw [k1] at e1';simp only [Value.slice.injEq,Option.some.injEq,Addr.mk.injEq] at e1'
      obtain ⟨⟨rfl,rfl,_⟩,rfl,rfl⟩:=e1'
      rw [k2] at e2';simp only [Option.some.injEq,Obj.cells.injEq] at e2'
      obtain ⟨rfl,rfl,_⟩:=e2'
      obtain ⟨hty,d1,d2,d3,rfl,m1,m2⟩:=lensP k6 hy0
      have hle:=offP_le fs e'
      rw [hty] at hle
      have hle:offP fs e' + 1<=e'.sz:=hle
      have hm:(i.toNat + 1) * e'.sz<=c' * e'.sz:=Nat.mul_le_mul_right _ (by omega)
      rw [Nat.succ_mul] at hm
      have hAL:arr'.toList.length=arr'.size:=Array.length_toList
      have hsl:(Ty.sl e1).sz=1:=rfl
      have hcell:seg (seg arr'.toList (o' + i.toNat * e'.sz) e'.sz) (offP fs e') 1=[x]:=by
        rw [seg_seg _ hle];exact seg_one (by simpa using e3')
      rw [hsl,hcell] at m1
      refine ⟨y0,h2,rfl,fun y f u' hw=>?_⟩
      simp only [wb] at hw
      rw [Rn_get,hr] at hw
      simp only [Rn_chk] at hw
      refine ⟨[t],d2,fun y=>[(rk t,.root g0 (h0 + 1) e' (l.set i.toNat (setP fs e' (l.getD i.toNat (dflt e')) ⟨.sl e1,y⟩)))],hw.2,m1,?_⟩
      have hbnd:(b' :: (b1 ++ (d1 ++ d2 ++ d3) ++ b3)).Nodup:=by rw [<-k5,<-hown];exact I.nd _
      have hmem:∀ x ∈ d2,x ∈ G.bl (rk t):=fun x hx=>by rw [k5];simp [hx]
      refine ⟨fun t' ht=>by simp only [List.mem_singleton] at ht;subst ht;exact ⟨g0,h0,e',l,hr⟩,fun y=>rfl,fun b hb=>⟨t,by simp,hmem b hb⟩,fun _=>?_,fun _ w' y bs' hy hnd hsame hold=>?_⟩
      · have:List.Sublist d2 (b' :: (b1 ++ (d1 ++ d2 ++ d3) ++ b3)):=by
          refine List.Sublist.cons _ (List.Sublist.trans ?_ (List.sublist_append_left _ _))
          refine List.Sublist.trans ?_ (List.sublist_append_right _ _)
          exact (List.sublist_append_right d1 d2).trans (List.sublist_append_left _ _)
        exact hbnd.sublist this
      · have hN:=hbnd
        simp only [List.nodup_cons,List.mem_append,not_or] at hN
        have hkeep:∀ z,z=b'\/z ∈ b1\/z ∈ d1\/z ∈ d3\/z ∈ b3->z ∈ G.bl (rk t)/\z ∉ d2:=fun z hz=>by
          refine ⟨by rw [k5];simp only [List.mem_cons,List.mem_append];rcases hz with hz | hz | hz | hz | hz <;> simp [hz],fun hd=>?_⟩
          rcases hz with rfl | hz | hz | hz | hz
          · exact hN.1.1.2.1.2 hd
          · have:=(List.nodup_append.1 (List.nodup_append.1 hN.2).1).2.2 z hz z (by simp [hd]);exact this rfl
          · have:=(List.nodup_append.1 (List.nodup_append.1 (List.nodup_append.1 (List.nodup_append.1 hN.2).1).2.1).1).2.2 z hz z hd;exact this rfl
          · have:=(List.nodup_append.1 (List.nodup_append.1 (List.nodup_append.1 hN.2).1).2.1).2.2 z (by simp [hd]) z hz;exact this rfl
          · have:=(List.nodup_append.1 hN.2).2.2 z (by simp [hd]) z hz;exact this rfl
        have hsm:∀ z,z=b'\/z ∈ b1\/z ∈ d1\/z ∈ d3\/z ∈ b3->w'.heap[z]?=w.heap[z]?:=fun z hz=>hsame t (by simp) z (hkeep z hz).1 (hkeep z hz).2
        have hel:=m2 w' [x] y bs' (fun z hz=>hsm z (by simp only [List.mem_append] at hz;rcases hz with hz | hz <;> simp [hz])) hy
        rw [<-hcell,setSeg_same (by rw [seg_len (by omega)];exact hle)] at hel
        have hroot:=k7 w' arr' _ _ _ (fun hx=>by
          simp only [List.mem_append] at hx
          rcases hx with hx | hx
          · exact hN.1.1.1 hx
          · exact hN.1.2 hx) (by rw [hsm b' (.inl rfl)];exact k2) (by rw [setSeg_same (by omega)]) (fun z hz=>hsm z (by simp only [List.mem_append] at hz;rcases hz with hz | hz <;> simp [hz])) hel
        have hbs':∀ z,z=b'\/z ∈ b1\/z ∈ d1\/z ∈ d3\/z ∈ b3->z ∉ bs':=fun z hz hm=>by
          have hk:=hkeep z hz
          exact hk.2 (hold z hm (I.lt (rk t) z (by rw [hown];exact hk.1)).1 t (by simp) hk.1)
        refine ⟨fun _=>b' :: (b1 ++ (d1 ++ bs' ++ d3) ++ b3),fun t' ht=>?_,fun _ _=>?_,fun t' ht z hz=>?_,fun t' ht t'' ht' hne=>?_⟩
        · simp only [List.mem_singleton] at ht;subst ht
          exact ⟨g0,h0,e',l,_,by simp,hr,by simp,hroot⟩
        · have e1:b' :: (b1 ++ (d1 ++ bs' ++ d3) ++ b3)=((b' :: b1) ++ d1) ++ (bs' ++ (d3 ++ b3)):=by simp [List.append_assoc]
          have hsub:List.Sublist (((b' :: b1) ++ d1) ++ (d3 ++ b3)) (b' :: (b1 ++ (d1 ++ d2 ++ d3) ++ b3)):=by
            have:(b' :: (b1 ++ (d1 ++ d2 ++ d3) ++ b3))=((b' :: b1) ++ d1) ++ (d2 ++ (d3 ++ b3)):=by simp [List.append_assoc]
            rw [this]
            exact List.Sublist.append (List.Sublist.refl _) (List.sublist_append_right _ _)
          have hM:=hbnd.sublist hsub
          rw [e1]
          rw [List.nodup_append] at hM ⊢
          refine ⟨hM.1,?_,fun z hz z' hz' e=>?_⟩
          · rw [List.nodup_append]
            refine ⟨hnd,hM.2.1,fun z hz z' hz' e=>?_⟩
            subst e
            simp only [List.mem_append] at hz'
            exact hbs' z (by rcases hz' with h | h <;> simp [h]) hz
          · subst e
            rcases List.mem_append.1 hz' with h | h
            · simp only [List.mem_append,List.mem_cons] at hz
              exact hbs' z (by rcases hz with (h | h) | h <;> simp [h]) h
            · exact hM.2.2 z hz z h rfl
        · simp only [List.mem_singleton] at ht;subst ht
          simp only [List.mem_cons,List.mem_append] at hz
          rcases hz with hz | (hz | ((hz | hz) | hz)) | hz
          · exact .inl (hkeep z (by simp [hz]))
          · exact .inl (hkeep z (by simp [hz]))
          · exact .inl (hkeep z (by simp [hz]))
          · exact .inr hz
          · exact .inl (hkeep z (by simp [hz]))
          · exact .inl (hkeep z (by simp [hz]))
        · simp only [List.mem_singleton] at ht ht';exact absurd (ht.trans ht'.symm) hne
    | sap t g0 h0 i fs e0 l0 gd0=>cases T <;> simp only [res] at h <;> exact (Rn_fail.1 h).elim
    | vw t g0 lo n0 e0 =>
      obtain ⟨x,_,x2,x3⟩:=res_run O I (n + 1) T _ false h hs
      exact ⟨x,x2,x3 rfl,fun y f u' hw=>(Rn_fail.1 (show Rn .fail st u' by cases T <;> exact hw)).elim⟩
    | pel t g0 i fs =>
      obtain ⟨x,_,x2,x3⟩:=res_run O I (n + 1) T _ false h hs
      exact ⟨x,x2,x3 rfl,fun y f u' hw=>(Rn_fail.1 (show Rn .fail st u' by cases T <;> exact hw)).elim⟩
    | pbx b g0 fs =>
      obtain ⟨x,_,x2,x3⟩:=res_run O I (n + 1) T _ false h hs
      exact ⟨x,x2,x3 rfl,fun y f u' hw=>(Rn_fail.1 (show Rn .fail st u' by cases T <;> exact hw)).elim⟩
    | pix b g0 fs i=>cases T <;> simp only [res] at h <;> exact (Rn_fail.1 h).elim
    | unit =>
      cases T <;> simp only [res] at h <;> try exact (Rn_fail.1 h).elim
      have hs:cs=[]:=hs
      subst hs
      exact ⟨(),h,rfl,fun y f u' hw=>⟨[],[],fun _=>[],hw,⟨rfl,rfl⟩,Lens.none⟩⟩
    | st a =>
      cases T <;> try (simp only [res] at h;exact (Rn_fail.1 h).elim)
      rename_i F
      by_cases hF:F=.frm
      · subst hF
        have h:Rn (res cf n frF a fun x=>g (toFrm x)) st u:=by simpa only [res] using h
        obtain ⟨x,_,x2,_⟩:=res_run O I n frF a false h (cs:=cs) hs
        refine ⟨toFrm x,x2,rfl,fun y f u' hw=>?_⟩
        have hw:Rn (wb .frm a y f) st u':=hw
        cases a with
        | val T' z =>
          have hm:T'.mem=true:=by
            cases n with
            | zero=>exact (Rn_fail.1 (by unfold res at h;exact h)).elim
            | succ n =>
              have h:Rn (if h:T'=frF then g (toFrm (h ▸ z)) else .fail) st u:=by unfold res at h;exact h
              split at h
              · rename_i e;subst e;rfl
              · exact (Rn_fail.1 h).elim
          have hw:Rn (bif T'.mem then .fail else f [] []) st u':=hw
          rw [hm] at hw
          exact (Rn_fail.1 hw).elim
        | _=>exact (Rn_fail.1 hw).elim
      · have h:Rn (res cf n F a g) st u:=by cases F <;> first | exact h | exact absurd rfl hF
        obtain ⟨x,h1,h2,h3⟩:=wb_lens O I n F a (cs:=cs) h hs
        exact ⟨x,h1,rfl,fun y f u' hw=>h3 y f u' hw⟩
    | tup a=>exact hs.elim
    | pair a b =>
      cases T <;> simp only [res] at h <;> try exact (Rn_fail.1 h).elim
      rename_i A B
      obtain ⟨c1,c2,rfl,s1,s2⟩:=hs
      obtain ⟨x,x1,x2,x3⟩:=wb_lens O I n A a h s1
      obtain ⟨y,y1,y2,y3⟩:=wb_lens O I n B b x1 s2
      refine ⟨(x,y),y1,rfl,fun z f u' hw=>?_⟩
      simp only [wb] at hw
      obtain ⟨ts1,bs1,F1,p1,p2,p3⟩:=x3 z.1 _ u' hw
      obtain ⟨ts2,bs2,F2,q1,q2,q3⟩:=y3 z.2 _ u' p1
      refine ⟨ts1 ++ ts2,bs1 ++ bs2,fun z=>F1 z.1 ++ F2 z.2,q1,⟨c1,c2,bs1,bs2,rfl,rfl,p2,q2⟩,(Lens.pair I p3 q3).congr fun w' z bs' hz=>?_⟩
      obtain ⟨d1,d2,e1,e2,hd,rfl,k1,k2⟩:=hz
      have hl:c1.length=d1.length:=(TC_len _ _ _ _ _ p2).trans (TC_len _ _ _ _ _ k1).symm
      obtain ⟨rfl,rfl⟩:=List.append_inj hd hl
      exact ⟨e1,e2,rfl,k1,k2⟩
    | mp t g=>exact (Rn_fail.1 (show Rn .fail st u by cases T <;> exact h)).elim
    | clo k fi ca =>
      obtain ⟨x,_,x2,x3⟩:=res_run O I (n + 1) T _ false h hs
      exact ⟨x,x2,x3 rfl,fun y f u' hw=>(Rn_fail.1 (show Rn .fail st u' by cases T <;> exact hw)).elim⟩
end
end Go.Proofs.YtefmjjpdflpnaaaGreat.E
namespace Go.Proofs.YtefmjjpdflpnaaaGreat.E
open Go Go.RowKit
set_option linter.unusedVariables false
set_option linter.unusedSimpArgs false
section
variable {C:Cx} {cf:Cfg} {dst:Option Tmp} {type:TypeId} {pos:String} {after:Array Edge} {guard:Option (Nat × Bool)} {st:St} {a:Act} {w w':World} {G:Gh} {α:Type} {us:U}
theorem valOf_inj {T:Ty} (hT:T.isPU=false) {c d:List Value} {x y:den T} {b1 b2:List Nat} (hc:TC T w c x b1) (hd:TC T w' d y b2) (h:valOf T c=valOf T d):c=d:=by
  have lc:=TC_len _ _ _ _ _ hc
  have ld:=TC_len _ _ _ _ _ hd
  cases T with
  | st f=>simpa [valOf] using h
  | arr n e=>simpa [valOf] using h
  | unit=>cases hT
  | frm=>cases hT
  | pair a b=>cases hT
  | tup f=>exact hc.elim
  | _ =>
    obtain ⟨x,rfl⟩:=List.length_eq_one_iff.1 lc
    obtain ⟨y,rfl⟩:=List.length_eq_one_iff.1 ld
    simpa [valOf] using h
theorem res_val {A T:Ty} {x:den T} {f:den A->M α} {u:α} (h:Rn (res cf 8 A (.val T x) f) st u):∃ e:T=A,Rn (f (e ▸ x)) st u:=by
  have h:Rn (if h:T=A then f (h ▸ x) else .fail) st u:=by unfold res at h;exact h
  split at h
  · rename_i e;exact ⟨e,h⟩
  · exact (Rn_fail.1 h).elim
theorem args_lens (O:CfgOk C cf) (I:InvM C st w G):∀ (A:Ty) (mu:List Bool) (v:SV) {g:den A->M α} {u:α} {vals:List Value},Rn (argsM cf true A mu v g) st u->SX C.P st G w (Fz st G w) v true vals →
    ∃ x,Rn (g x) st u/\∀ {β:Type} (z:den (outT A mu)) (f:U->List Nat->M β) (u':β),Rn (wb (outT A mu) (outS v mu) z f) st u'->∃ ts bs Uf,Rn (f (Uf z) ts) st u' ∧
      (∀ S:Nat->Prop,(∀ b,Fz st G w b->S b)->(∀ b,S b->b < w.heap.size)->AX C.P A mu w S vals x bs)/\Lens st G w (fun w' z bs'=>OX A mu w' vals z bs') ts bs Uf
  | .unit,mu,v,g,u,vals,h,hs=>by
    cases v <;> simp only [argsM] at h <;> try exact (Rn_fail.1 h).elim
    have hs:vals=[]:=hs
    subst hs
    refine ⟨(),h,fun z f u' hw=>⟨[],[],fun _=>[],?_,fun S _ _=>⟨rfl,rfl⟩,Lens.none⟩⟩
    cases mu <;> exact hw
  | .pair A B,mu,v,g,u,vals,h,hs=>by
    cases v <;> simp only [argsM] at h <;> try exact (Rn_fail.1 h).elim
    rename_i a b
    obtain ⟨c,r,rfl,s1,s2⟩:=hs
    rw [Rn_bif] at h
    rcases h with ⟨hb,h⟩ | ⟨_,h⟩
    case inr=>exact (Rn_fail.1 h).elim
    cases mu with
    | nil=>simp [argOk] at hb
    | cons m mu =>
      cases m
      · cases a <;> simp only [argOk,Bool.not_true,Bool.or_self,Bool.false_eq_true] at hb
        rename_i T x0
        obtain ⟨e,h⟩:=res_val h
        subst e
        obtain ⟨y,y1,y2⟩:=args_lens O I B mu b h s2
        refine ⟨(x0,y),y1,fun z f u' hw=>?_⟩
        obtain ⟨ts,bs,Uf,k1,k2,k3⟩:=y2 z f u' hw
        refine ⟨ts,bs,Uf,k1,fun S h1 h2=>⟨c,r,[],bs,rfl,rfl,?_,k2 S h1 h2⟩,k3⟩
        simp only [List.headD_cons,Bool.false_eq_true,if_false,true_and]
        exact RX_congr C.P T false (Nat.le_refl _) (fun b hb _=>⟨h1 b hb,rfl⟩) h2 s1
      · simp only [argOk,Bool.not_true,Bool.false_or,Bool.not_eq_true'] at hb
        obtain ⟨x,x1,x2,x3⟩:=wb_lens O I 8 A a h s1
        obtain ⟨y,y1,y2⟩:=args_lens O I B mu b x1 s2
        refine ⟨(x,y),y1,fun z f u' hw=>?_⟩
        have hw:Rn (wb A a z.1 fun u r=>wb (outT B mu) (outS b mu) z.2 fun v s=>f (u ++ v) (r ++ s)) st u':=hw
        obtain ⟨ts1,bs1,F1,p1,p2,p3⟩:=x3 z.1 _ u' hw
        obtain ⟨ts2,bs2,F2,q1,q2,q3⟩:=y2 z.2 _ u' p1
        refine ⟨ts1 ++ ts2,bs1 ++ bs2,fun z=>F1 z.1 ++ F2 z.2,q1,fun S h1 h2=>⟨c,r,bs1,bs2,by rw [x2],rfl,?_,q2 S h1 h2⟩,(Lens.pair I p3 q3).congr fun w' z bs' hz=>?_⟩
        · simp only [List.headD_cons,if_true];exact p2
        · obtain ⟨d,r',e1,e2,hd,rfl,k1,k2⟩:=hz
          simp only [List.cons.injEq] at hd
          obtain ⟨hd,rfl⟩:=hd
          have hcd:=valOf_inj hb p2 k1 (by rw [<-x2];exact hd)
          subst hcd
          exact ⟨e1,e2,rfl,k1,k2⟩
  | .int _,_,v,_,_,_,h,_=>by cases v <;> simp only [argsM] at h <;> exact (Rn_fail.1 h).elim
  | .bool,_,v,_,_,_,h,_=>by cases v <;> simp only [argsM] at h <;> exact (Rn_fail.1 h).elim
  | .str,_,v,_,_,_,h,_=>by cases v <;> simp only [argsM] at h <;> exact (Rn_fail.1 h).elim
  | .st _,_,v,_,_,_,h,_=>by cases v <;> simp only [argsM] at h <;> exact (Rn_fail.1 h).elim
  | .tup _,_,v,_,_,_,h,_=>by cases v <;> simp only [argsM] at h <;> exact (Rn_fail.1 h).elim
  | .sl _,_,v,_,_,_,h,_=>by cases v <;> simp only [argsM] at h <;> exact (Rn_fail.1 h).elim
  | .arr _ _,_,v,_,_,_,h,_=>by cases v <;> simp only [argsM] at h <;> exact (Rn_fail.1 h).elim
  | .ptr _,_,v,_,_,_,h,_=>by cases v <;> simp only [argsM] at h <;> exact (Rn_fail.1 h).elim
  | .fn _ _,_,v,_,_,_,h,_=>by cases v <;> simp only [argsM] at h <;> exact (Rn_fail.1 h).elim
  | .frm,_,v,_,_,_,h,_=>by cases v <;> simp only [argsM] at h <;> exact (Rn_fail.1 h).elim
theorem upds_in:∀ (u:U) (s:St) {k:Nat} {c:Cell},(u.map (·.1)).Nodup->(k,c) ∈ u->upds s u k=c
  | [],_,_,_,_,h=>by cases h
  | (j,d) :: r,s,k,c,hn,h=>by
    simp only [List.map_cons,List.nodup_cons] at hn
    show upds (upd s j d) r k=c
    rcases List.mem_cons.1 h with h | h
    · cases h
      rw [upds_out r _ _ fun p hp e=>hn.1 (List.mem_map.2 ⟨p,hp,e⟩),upd_same]
    · exact upds_in r _ hn.2 h
theorem wbStep' (I:Inv C st a w G) {Y:Type} {D:World->Y->List Nat->Prop} {ts bs bs':List Nat} {Uf:Y->U} (L:Lens st G w D ts bs Uf) (hn:ts.Nodup) {y:Y} (hD:D w' y bs') (hnd:bs'.Nodup)
    (hm:∀ b ∈ bs',(b ∈ bs\/w.heap.size<=b)/\b < w'.heap.size) (hos:w'.os=w.os) (hta:w'.tape=w.tape) (hou:w'.output=w.output) (hsz:w.heap.size<=w'.heap.size) (hblk:∀ b,b < w.heap.size->b ∉ bs->w'.heap[b]?=w.heap[b]?) :
    ∃ G',Inv C (upds st (Uf y)) a w' G'/\G'.hd=G.hd/\∀ k,k ∉ ts.map rk->G'.bl k=G.bl k:=by
  have hown:∀ t ∈ ts,ownB st G (rk t)=G.bl (rk t):=fun t ht=>root_own (L.rt t ht)
  have hlt:∀ t ∈ ts,∀ b ∈ G.bl (rk t),b < w.heap.size:=fun t ht b hb=>(I.lt (rk t) b (by rw [hown t ht];exact hb)).1
  obtain ⟨nb,K⟩:=L.back hn w' y bs' hD hnd (fun t ht b hb hnb=>hblk b (hlt t ht b hb) hnb) (fun b hb hl t ht _=>(hm b hb).1.elim id fun h=>absurd hl (by omega))
  have hkn:((Uf y).map (·.1)).Nodup:=by
    rw [L.keys]
    exact List.Pairwise.map rk (fun a b h e=>h (rk_inj e)) hn
  have hdiv:∀ t,rk t / 3=t:=fun t=>by unfold rk;omega
  have hst:∀ t ∈ ts,∃ g h e l0 l',upds st (Uf y) (rk t)=.root g (h + 1) e l'/\st (rk t)=.root g h e l0/\l'.length=l0.length/\TC (.sl e) w' [G.hd (rk t)] l' (nb t):=fun t ht=>by
    obtain ⟨g,h,e,l0,l',k1,k2⟩:=K.each t ht
    exact ⟨g,h,e,l0,l',upds_in _ _ hkn k1,k2⟩
  have hout:∀ k,k ∉ ts.map rk->upds st (Uf y) k=st k:=fun k hk=>upds_out _ _ _ fun p hp e=>hk (by
    rw [<-L.keys y];exact List.mem_map.2 ⟨p,hp,e⟩)
  let G':Gh:={ G with bl:=fun k=>if k ∈ ts.map rk then nb (k / 3) else G.bl k }
  have hown':∀ t ∈ ts,ownB (upds st (Uf y)) G' (rk t)=nb t:=fun t ht=>by
    obtain ⟨g,h,e,l0,l',k1,_⟩:=hst t ht
    unfold ownB;rw [k1]
    show (if rk t ∈ ts.map rk then nb (rk t / 3) else G.bl (rk t))=nb t
    rw [if_pos (List.mem_map.2 ⟨t,ht,rfl⟩),hdiv]
  have hbl':∀ t ∈ ts,G'.bl (rk t)=nb t:=fun t ht=>by
    show (if rk t ∈ ts.map rk then nb (rk t / 3) else G.bl (rk t))=nb t
    rw [if_pos (List.mem_map.2 ⟨t,ht,rfl⟩),hdiv]
  have h0:Step0 st G w (upds st (Uf y)) G' w' (ts.map rk) (fun b=>b ∈ bs):={
    s0:=rfl
    os:=hos,tape:=hta,output:=hou,size:=hsz,block:=hblk
    own:=fun b hb=>by
      obtain ⟨t,ht,hb⟩:=L.sub b hb
      exact ⟨rk t,List.mem_map.2 ⟨t,ht,rfl⟩,by rw [hown t ht];exact hb⟩
    out:=fun k hk=>⟨hout k hk,rfl,if_neg hk,rfl⟩
    nosk:=fun i hi=>by
      obtain ⟨t,_,ht⟩:=List.mem_map.1 hi
      exact sk_ne_rk _ _ ht.symm
    ks:=fun k hk=>by
      obtain ⟨t,ht,rfl⟩:=List.mem_map.1 hk
      obtain ⟨g,h,e,l0,l',k1,k2,k3,_⟩:=hst t ht
      refine ⟨by rw [k1,k2];exact Nat.le_refl _,fun g' h' e' l hr _=>?_,fun g' T' c' hr _=>?_,fun g' hr _=>?_⟩
      · rw [k1] at hr;cases hr
        exact ⟨h,l0,k2,rfl,k3,Nat.le_succ _,fun e=>by omega⟩
      · rw [k1] at hr;cases hr
      · rw [k1] at hr;cases hr
    sub:=fun k hk b hb=>by
      obtain ⟨t,ht,rfl⟩:=List.mem_map.1 hk
      rw [hown' t ht] at hb
      rcases K.nbm t ht b hb with ⟨h1,_⟩ | h1
      · exact .inl ⟨rk t,hk,by rw [hown t ht];exact h1⟩
      · rcases (hm b h1).1 with h2 | h2
        · obtain ⟨t',ht',h3⟩:=L.sub b h2
          exact .inl ⟨rk t',List.mem_map.2 ⟨t',ht',rfl⟩,by rw [hown t' ht'];exact h3⟩
        · exact .inr h2
    lt:=fun k hk b hb=>by
      obtain ⟨t,ht,rfl⟩:=List.mem_map.1 hk
      rw [hown' t ht] at hb
      obtain ⟨g,h,e,l0,l',k1,k2,k3,k4⟩:=hst t ht
      exact TC_lt _ k4 b hb
    nd:=fun k hk=>by
      obtain ⟨t,ht,rfl⟩:=List.mem_map.1 hk
      rw [hown' t ht];exact K.nbn t ht
    dj:=fun k hk k' hk' b hb hb'=>by
      obtain ⟨t,ht,rfl⟩:=List.mem_map.1 hk
      obtain ⟨t',ht',rfl⟩:=List.mem_map.1 hk'
      rw [hown' t ht] at hb
      rw [hown' t' ht'] at hb'
      by_cases e:t=t'
      · rw [e]
      · exact absurd hb' (K.dj t ht t' ht' e b hb) }
  refine ⟨G',Step.inv I { toStep0:=h0,rt:=fun k hk g h e l hr=>?_,bx:=fun k hk g T v hr=>?_ },rfl,fun k hk=>if_neg hk⟩
  · obtain ⟨t,ht,rfl⟩:=List.mem_map.1 hk
    obtain ⟨g',h',e',l0,l',k1,k2,k3,k4⟩:=hst t ht
    rw [k1] at hr;cases hr
    rw [hbl' t ht];exact k4
  · obtain ⟨t,ht,rfl⟩:=List.mem_map.1 hk
    obtain ⟨g',h',e',l0,l',k1,_⟩:=hst t ht
    rw [k1] at hr;cases hr
theorem wbStep (I:Inv C st a w G) {Y:Type} {D:World->Y->List Nat->Prop} {ts bs bs':List Nat} {Uf:Y->U} (L:Lens st G w D ts bs Uf) (hn:ts.Nodup) {y:Y} (hD:D w' y bs') (hnd:bs'.Nodup)
    (hm:∀ b ∈ bs',(b ∈ bs\/w.heap.size<=b)/\b < w'.heap.size) (hos:w'.os=w.os) (hta:w'.tape=w.tape) (hou:w'.output=w.output) (hsz:w.heap.size<=w'.heap.size) (hblk:∀ b,b < w.heap.size->b ∉ bs->w'.heap[b]?=w.heap[b]?) :
    ∃ G',Inv C (upds st (Uf y)) a w' G':=by
  obtain ⟨G',h,_⟩:=wbStep' I L hn hD hnd hm hos hta hou hsz hblk
  exact ⟨G',h⟩
end
end Go.Proofs.YtefmjjpdflpnaaaGreat.E
namespace Go.Proofs.YtefmjjpdflpnaaaGreat.E
open Go Go.RowKit
set_option linter.unusedVariables false
set_option linter.unusedSimpArgs false
section
variable {C:Cx} {cf:Cfg} {st st':St} {a:Act} {w w':World} {G G':Gh} {us:U}
theorem frz_run (I:InvM C st w G) {S:Nat->Prop} (hS:∀ b,Fz st G w b->S b) (hSl:∀ b,S b->b < w.heap.size):∀ (n:Nat) (T:Ty) (v:SV) {x:den T} {ts:List (Nat × Nat)} {cs:List Value},frzS st n T v=some (x,ts)->SX C.P st G w (Fz st G w) v false cs →
    (∀ p ∈ ts,RT st p)/\((∀ p ∈ ts,∀ b ∈ G.bl (rk p.1),S b)->RX C.P T false w S cs x)/\valS v cs=valOf T cs
  | 0,T,v,x,ts,cs,h,hs=>by cases h
  | n + 1,T,v,x,ts,cs,h,hs=>by
    cases v with
    | val T' x0 =>
      have h:(if h:T'=T then some ((h ▸ x0:den T),([]:List (Nat × Nat))) else Option.none)=some (x,ts):=by cases T <;> exact h
      split at h
      case isFalse=>cases h
      rename_i e;subst e
      cases h
      exact ⟨fun p hp=>(by cases hp),fun _=>RX_congr C.P T' false (Nat.le_refl _) (fun b hb _=>⟨hS b hb,rfl⟩) hSl hs,rfl⟩
    | nil =>
      cases T <;> try (cases h;done)
      rename_i e
      have h:some (([]:List (den e)),([]:List (Nat × Nat)))=some (x,ts):=h
      cases h
      have hs:cs=[.slice none 0 0]:=hs
      subst hs
      exact ⟨fun p hp=>(by cases hp),fun _=>⟨none,0,0,rfl,rfl,Nat.le_refl _,.inl rfl⟩,rfl⟩
    | ref t g e1 =>
      cases T <;> try (cases h;done)
      rename_i e
      have h:(match st (rk t) with
        | .root g' _ e' l=>if h:e'=e then bif Nat.beq g g' then some ((h ▸ l:List (den e)),[(t,g)]) else Option.none else Option.none
        | _=>Option.none)=some (x,ts):=h
      split at h
      case h_2=>cases h
      rename_i g' hh e' l hr
      split at h
      case isFalse=>cases h
      rename_i e2;subst e2
      cases hb:Nat.beq g g'
      · rw [hb] at h;cases h
      rw [hb] at h
      have hg:g=g':=Nat.eq_of_beq_eq_true hb
      subst hg
      simp only [cond_true,Option.some.injEq,Prod.mk.injEq] at h
      obtain ⟨rfl,rfl⟩:=h
      obtain ⟨xv,rfl,_,_,hx⟩:=hs
      obtain ⟨rfl,_⟩:=hx _ _ _ hr
      exact ⟨fun p hp=>by simp only [List.mem_singleton] at hp;subst hp;exact ⟨hh,e',l,hr⟩,fun hb=>RX_of_TC C.P (.sl e') (I.rt _ _ _ _ _ hr) (hb (t,g) (by simp)),rfl⟩
    | sap t g h i fs e l gd=>cases T <;> cases h
    | vw t g lo n0 e0 =>
      cases T <;> try (cases h;done)
      rename_i e
      have h:(match st (rk t) with
        | .root g' _ e' l=>if hh:e'=e then bif Nat.beq g g' then some ((hh ▸ sliceL l lo (lo + n0):List (den e)),[(t,g)]) else Option.none else Option.none
        | _=>Option.none)=some (x,ts):=h
      split at h
      case h_2=>cases h
      rename_i g' hh e' l hr
      split at h
      case isFalse=>cases h
      rename_i e2;subst e2
      cases hb:Nat.beq g g'
      · rw [hb] at h;cases h
      rw [hb] at h
      have hg:g=g':=Nat.eq_of_beq_eq_true hb
      subst hg
      simp only [cond_true,Option.some.injEq,Prod.mk.injEq] at h
      obtain ⟨rfl,rfl⟩:=h
      obtain ⟨xv,rfl,_,_,hx⟩:=hs
      obtain ⟨e9,k1,k2,k3,k4⟩:=hx _ _ _ hr
      rw [<-e9] at k4
      exact ⟨fun p hp=>by simp only [List.mem_singleton] at hp;subst hp;exact ⟨hh,e',l,hr⟩,fun hb=>vw_rx (RX_of_TC C.P (.sl e') (I.rt _ _ _ _ _ hr) (hb (t,g) (by simp))) k4 k1 k2 k3,rfl⟩
    | sub t g h0 i fs e1 =>
      cases T <;> try (cases h;done)
      rename_i e
      have h:(match st (rk t) with
        | .root g' h' e' l=>bif Nat.beq g g' && Nat.beq h0 h' then asTy (.sl e) (getP fs e' (l.getD i.toNat (dflt e'))) Option.none (fun y=>some (y,[(t,g)])) else Option.none
        | _=>Option.none)=some (x,ts):=h
      split at h
      case h_2=>cases h
      rename_i g' hh e' l hr
      cases hb:(Nat.beq g g' && Nat.beq h0 hh)
      · rw [hb] at h;cases h
      rw [hb] at h
      rw [Bool.and_eq_true] at hb
      have hg:g=g':=Nat.eq_of_beq_eq_true hb.1
      have hh2:h0=hh:=Nat.eq_of_beq_eq_true hb.2
      subst hg;subst hh2
      obtain ⟨xv,rfl,_,_,_,hx⟩:=hs
      obtain ⟨i0,i1,⟨y0,hy0⟩,b,o,k,c,arr,ty,fz,e1',e2',e3'⟩:=hx _ _ hr
      simp only [cond_true] at h
      rw [hy0] at h
      unfold asTy at h
      split at h
      case isFalse=>cases h
      rename_i e2
      have e2:Ty.sl e1=Ty.sl e:=e2
      injection e2 with e2;subst e2
      cases h
      obtain ⟨b',o',n',c',arr',ty',bi,k1,k2,k3,k4,k5,k6,k7⟩:=root_elem I hr i0 i1
      rw [k1] at e1';simp only [Value.slice.injEq,Option.some.injEq,Addr.mk.injEq] at e1'
      obtain ⟨⟨rfl,rfl,_⟩,rfl,rfl⟩:=e1'
      rw [k2] at e2';simp only [Option.some.injEq,Obj.cells.injEq] at e2'
      obtain ⟨rfl,rfl,_⟩:=e2'
      obtain ⟨hty,d1,d2,d3,hbi,m1,m2⟩:=lensP k5 hy0
      have hle:=offP_le fs e'
      rw [hty] at hle
      have hle:offP fs e' + 1<=e'.sz:=hle
      have hsl:(Ty.sl e1).sz=1:=rfl
      have hcell:seg (seg arr'.toList (o' + i.toNat * e'.sz) e'.sz) (offP fs e') 1=[xv]:=by
        rw [seg_seg _ hle];exact seg_one (by simpa using e3')
      rw [hsl,hcell] at m1
      exact ⟨fun p hp=>by simp only [List.mem_singleton] at hp;subst hp;exact ⟨h0,e',l,hr⟩,fun hb=>RX_of_TC C.P (.sl e1) m1 fun z hz=>hb (t,g) (by simp) z (k6 z (by rw [hbi];simp [hz])),rfl⟩
    | unit =>
      cases T <;> try (cases h;done)
      have h:some ((),([]:List (Nat × Nat)))=some (x,ts):=h
      cases h
      have hs:cs=[]:=hs
      subst hs
      exact ⟨fun p hp=>(by cases hp),fun _=>rfl,rfl⟩
    | st a =>
      cases T <;> try (cases h;done)
      rename_i F
      obtain ⟨k1,k2,_⟩:=frz_run I hS hSl n F a (cs:=cs) h hs
      exact ⟨k1,k2,rfl⟩
    | pair a b =>
      cases T <;> try (cases h;done)
      rename_i A B
      obtain ⟨c1,c2,rfl,s1,s2⟩:=hs
      have h:(match frzS st n A a with
        | some (x,r)=>(match frzS st n B b with
          | some (y,r')=>some ((x,y),r ++ r')
          | Option.none=>Option.none)
        | Option.none=>Option.none)=some (x,ts):=h
      split at h
      case h_2=>cases h
      rename_i x1 r1 h1
      split at h
      case h_2=>cases h
      rename_i x2 r2 h2
      cases h
      obtain ⟨k1,k2,_⟩:=frz_run I hS hSl n A a h1 s1
      obtain ⟨j1,j2,_⟩:=frz_run I hS hSl n B b h2 s2
      exact ⟨fun p hp=>(List.mem_append.1 hp).elim (k1 p) (j1 p),fun hb=>⟨c1,c2,rfl,k2 fun p hp=>hb p (List.mem_append_left _ hp),j2 fun p hp=>hb p (List.mem_append_right _ hp)⟩,rfl⟩
    | tup a=>exact hs.elim
    | pel t g i fs=>cases T <;> cases h
    | pbx b g fs=>cases T <;> cases h
    | pix b g fs i=>cases T <;> cases h
    | clo k fi ca=>cases T <;> cases h
    | mp t g=>cases T <;> cases h
theorem upds_some:∀ (u:U) (s:St) (k:Nat),(∃ p ∈ u,p.1=k)->∃ p ∈ u,p.1=k/\upds s u k=p.2
  | [],_,_,h=>by obtain ⟨p,hp,_⟩:=h;cases hp
  | (j,c) :: r,s,k,h=>by
    by_cases hr:∃ p ∈ r,p.1=k
    · obtain ⟨p,hp,h1,h2⟩:=upds_some r (upd s j c) k hr
      exact ⟨p,List.mem_cons_of_mem _ hp,h1,h2⟩
    · obtain ⟨p,hp,h1⟩:=h
      rcases List.mem_cons.1 hp with hp | hp
      · subst hp
        have h1:j=k:=h1
        subst h1
        refine ⟨(j,c),List.mem_cons_self,rfl,?_⟩
        show upds (upd s j c) r j=c
        rw [upds_out r _ _ fun p hp e=>hr ⟨p,hp,e⟩,upd_same]
      · exact absurd ⟨p,hp,h1⟩ hr
theorem gone_at {ts:List (Nat × Nat)} (h:∀ p ∈ ts,RT st p) {p:Nat × Nat} (hp:p ∈ ts):upds st (goneU ts) (rk p.1)=.gone p.2:=by
  obtain ⟨q,hq,h1,h2⟩:=upds_some (goneU ts) st (rk p.1) ⟨(rk p.1,.gone p.2),List.mem_map.2 ⟨p,hp,rfl⟩,rfl⟩
  obtain ⟨r,hr,rfl⟩:=List.mem_map.1 hq
  have h1:=rk_inj h1
  rw [h2]
  obtain ⟨_,_,_,e1⟩:=h r hr
  obtain ⟨_,_,_,e2⟩:=h p hp
  rw [h1,e2] at e1
  simp only [Cell.root.injEq] at e1
  show Cell.gone r.2=.gone p.2
  rw [e1.1]
theorem gone_inv (I:Inv C st a w G) {ts:List (Nat × Nat)} (h:∀ p ∈ ts,RT st p):Inv C (upds st (goneU ts)) a w G:=by
  have hk:∀ k,k ∈ ts.map (fun p=>rk p.1)->∃ p ∈ ts,k=rk p.1:=fun k hk=>by
    obtain ⟨p,hp,rfl⟩:=List.mem_map.1 hk;exact ⟨p,hp,rfl⟩
  have hown:∀ p ∈ ts,ownB (upds st (goneU ts)) G (rk p.1)=[]:=fun p hp=>by unfold ownB;rw [gone_at h hp]
  refine Step.inv (K:=ts.map fun p=>rk p.1) (D:=fun _=>False) I { os:=rfl,tape:=rfl,output:=rfl,size:=Nat.le_refl _,block:=(fun b _ _=>rfl),own:=(fun b hb=>False.elim hb),s0:=rfl,out:=(fun k hk=>⟨goneU_out fun p hp e=>hk (List.mem_map.2 ⟨p,hp,e⟩),rfl,rfl,rfl⟩),nosk:=(fun i hi=>?_),ks:=(fun k hk'=>?_),sub:=(fun k hk' b hb=>?_),lt:=(fun k hk' b hb=>?_),nd:=(fun k hk'=>?_),dj:=(fun k hk' k' _ b hb _=>?_),rt:=(fun k hk' g hh e l hr=>?_),bx:=(fun k hk' g T v hr=>?_) }
  · obtain ⟨p,_,e⟩:=hk _ hi;exact sk_ne_rk _ _ e
  · obtain ⟨p,hp,rfl⟩:=hk _ hk'
    obtain ⟨hh,e,l,hr⟩:=h p hp
    refine ⟨by rw [gone_at h hp,hr];exact Nat.le_refl _,fun g' h' e' l' hr' _=>?_,fun g' T' c' hr' _=>?_,fun g' hr' _=>?_⟩
    · rw [gone_at h hp] at hr';cases hr'
    · rw [gone_at h hp] at hr';cases hr'
    · rw [gone_at h hp] at hr';cases hr'
  · obtain ⟨p,hp,rfl⟩:=hk _ hk';rw [hown p hp] at hb;cases hb
  · obtain ⟨p,hp,rfl⟩:=hk _ hk';rw [hown p hp] at hb;cases hb
  · obtain ⟨p,hp,rfl⟩:=hk _ hk';rw [hown p hp];exact List.nodup_nil
  · obtain ⟨p,hp,rfl⟩:=hk _ hk';rw [hown p hp] at hb;cases hb
  · obtain ⟨p,hp,rfl⟩:=hk _ hk';rw [gone_at h hp] at hr;cases hr
  · obtain ⟨p,hp,rfl⟩:=hk _ hk';rw [gone_at h hp] at hr;cases hr
theorem fzM_run {α:Type}:∀ (n:Nat) (T:Ty) (v:SV) {f:den T->List (Nat × Nat)->M α} {u:α},Rn (fzM n T v f) st u->∃ x ts,frzS st n T v=some (x,ts)/\Rn (f x ts) st u
  | 0,T,v,f,u,h=>(Rn_fail.1 h).elim
  | n + 1,T,v,f,u,h=>by
    cases v with
    | val T' x0 =>
      have h:Rn (if h:T'=T then f (h ▸ x0) [] else .fail) st u:=by cases T <;> exact h
      split at h
      case isFalse=>exact (Rn_fail.1 h).elim
      rename_i e;subst e
      refine ⟨x0,[],?_,h⟩
      show (match T',x0 with | _,_=>frzS st (n + 1) T' (.val T' x0))=_
      have e2:frzS st (n + 1) T' (.val T' x0)=if h:T'=T' then some ((h ▸ x0:den T'),([]:List (Nat × Nat))) else Option.none:=by cases T' <;> rfl
      rw [e2];simp
    | nil =>
      cases T <;> first | exact ⟨_,_,rfl,h⟩ | exact (Rn_fail.1 h).elim
    | ref t g e0 =>
      cases T <;> try exact (Rn_fail.1 h).elim
      rename_i e
      unfold fzM at h
      rw [Rn_get] at h
      split at h
      case h_2=>exact (Rn_fail.1 h).elim
      rename_i g' h' e' l hr
      split at h
      case isFalse=>exact (Rn_fail.1 h).elim
      rename_i ee;subst ee
      rw [Rn_chk] at h
      obtain ⟨hg,h⟩:=h
      refine ⟨l,[(t,g)],?_,h⟩
      simp only [frzS,hr,hg,dite_true,cond_true]
    | sap t g h i fs e l gd=>cases T <;> exact (Rn_fail.1 h).elim
    | vw t g lo n0 e0 =>
      cases T <;> try exact (Rn_fail.1 h).elim
      rename_i e
      unfold fzM at h
      rw [Rn_get] at h
      split at h
      case h_2=>exact (Rn_fail.1 h).elim
      rename_i g' h' e' l hr
      split at h
      case isFalse=>exact (Rn_fail.1 h).elim
      rename_i ee;subst ee
      rw [Rn_chk] at h
      obtain ⟨hg,h⟩:=h
      refine ⟨sliceL l lo (lo + n0),[(t,g)],?_,h⟩
      simp only [frzS,hr,hg,dite_true,cond_true]
    | sub t g h0 i fs e0 =>
      cases T <;> try exact (Rn_fail.1 h).elim
      rename_i e
      unfold fzM at h
      rw [Rn_get] at h
      split at h
      case h_2=>exact (Rn_fail.1 h).elim
      rename_i g' h' e' l hr
      rw [Rn_chk] at h
      obtain ⟨hg,h⟩:=h
      unfold asTy at h
      split at h
      case isFalse=>exact (Rn_fail.1 h).elim
      rename_i ee
      refine ⟨_,[(t,g)],?_,h⟩
      simp only [frzS,hr,hg,cond_true,asTy,ee,dite_true]
    | unit=>cases T <;> first | exact ⟨_,_,rfl,h⟩ | exact (Rn_fail.1 h).elim
    | st a =>
      cases T <;> try exact (Rn_fail.1 h).elim
      rename_i F
      obtain ⟨x,ts,h1,h2⟩:=fzM_run n F a (f:=f) h
      exact ⟨x,ts,h1,h2⟩
    | pair a b =>
      cases T <;> try exact (Rn_fail.1 h).elim
      rename_i A B
      obtain ⟨x,ts,h1,h2⟩:=fzM_run n A a (f:=fun x r=>fzM n B b fun y r'=>f (x,y) (r ++ r')) h
      obtain ⟨y,ts',j1,j2⟩:=fzM_run n B b h2
      refine ⟨(x,y),ts ++ ts',?_,j2⟩
      simp only [frzS,h1,j1]
    | tup a=>cases T <;> exact (Rn_fail.1 h).elim
    | pel t g i fs=>cases T <;> exact (Rn_fail.1 h).elim
    | pbx b g fs=>cases T <;> exact (Rn_fail.1 h).elim
    | pix b g fs i=>cases T <;> exact (Rn_fail.1 h).elim
    | clo k fi ca=>cases T <;> exact (Rn_fail.1 h).elim
    | mp t g=>cases T <;> exact (Rn_fail.1 h).elim
def KS.ids:KS->List (Nat × Nat)
  | .r t g=>[(t,g)]
  | .pair a b=>a.ids ++ b.ids
  | .st a=>a.ids
  | _=>[]
/-- Numbers that fit a shape. -/
def KFit:Shp->KS->Prop
  | .v _,.v=>True
  | .r _,.r _ _=>True
  | .unit,.unit=>True
  | .pair a b,.pair k k'=>KFit a k/\KFit b k'
  | .st a,.st k=>KFit a k
  | _,_=>False
structure RdOk (P:Program) (st:St) (G:Gh) (w:World) (sh:Shp) (v:SV) (cs:List Value) (x:den sh.ty) (k:KS) (gs:List (Nat × Nat)) (od:List Nat):Prop where
  gone:∀ p ∈ gs,RT st p
  live:∀ q ∈ od,∃ t g h e l,q=rk t/\st (rk t)=.root g h e l
  xs:∀ S:Nat->Prop,(∀ b,Fz st G w b->S b)->(∀ b,S b->b < w.heap.size)->(∀ p ∈ gs,∀ b ∈ G.bl (rk p.1),S b)->XI P sh w S cs x (od.flatMap (ownB st G))
  val:valS v cs=valOf sh.ty cs
  fit:KFit sh k
  gens:∀ p ∈ k.ids,(st (rk p.1)).gen < p.2
theorem rdS_run {α:Type} (I:InvM C st w G):∀ (sh:Shp) (v:SV) (d:Nat) {f:den sh.ty->KS->List (Nat × Nat)->List Nat->Nat->M α} {u:α} {cs:List Value},Rn (rdS sh v d f) st u->SX C.P st G w (Fz st G w) v false cs →
    ∃ x k gs od d',Rn (f x k gs od d') st u/\RdOk C.P st G w sh v cs x k gs od
  | .v T,v,d,f,u,cs,h,hs=>by
    obtain ⟨x,ts,h1,h2⟩:=fzM_run 8 T v (f:=fun x gs=>f x .v gs [] d) h
    have k1:=fun S hS hSl=>frz_run I (S:=S) hS hSl 8 T v h1 hs
    obtain ⟨g1,_,g3⟩:=k1 (Fz st G w) (fun _ h=>h) (fun _ h=>h.1)
    exact ⟨x,.v,ts,[],d,h2,⟨g1,fun q hq=>(by cases hq),fun S hS hSl hg=>⟨rfl,(k1 S hS hSl).2.1 hg⟩,g3,trivial,fun p hp=>(by cases hp)⟩⟩
  | .r e,v,d,f,u,cs,h,hs=>by
    cases v with
    | ref t g e0 =>
      unfold rdS at h
      rw [Rn_get] at h
      split at h
      case h_2=>exact (Rn_fail.1 h).elim
      rename_i g' h' e' l hr
      split at h
      case isFalse=>exact (Rn_fail.1 h).elim
      rename_i ee;subst ee
      rw [Rn_chk] at h
      obtain ⟨hg,h⟩:=h
      have hg:=Nat.eq_of_beq_eq_true hg
      subst hg
      obtain ⟨x,c1,c2,c3,c4⟩:=hs
      refine ⟨l,.r t (g + 1),[],[rk t],d,h,⟨fun p hp=>(by cases hp),fun q hq=>?_,fun S _ _ _=>?_,?_,trivial,fun p hp=>?_⟩⟩
      · simp only [List.mem_singleton] at hq;exact ⟨t,g,h',e',l,hq,hr⟩
      · have h1:=(c4 _ _ _ hr).1
        have:=I.rt _ _ _ _ _ hr
        rw [<-h1,<-c1] at this
        show TC (.sl e') w cs l _
        have e2:[rk t].flatMap (ownB st G)=G.bl (rk t):=by
          rw [List.flatMap_cons,List.flatMap_nil,List.append_nil];exact root_own ⟨_,_,_,_,hr⟩
        rw [e2];exact this
      · rfl
      · simp only [KS.ids,List.mem_singleton] at hp;subst hp
        show (st (rk t)).gen < g + 1
        rw [hr];exact Nat.lt_succ_self _
    | nil =>
      unfold rdS at h
      rw [Rn_get] at h
      have hs:cs=[.slice none 0 0]:=hs
      refine ⟨[],.r d ((st (rk d)).gen + 1),[],[],d + 1,h,⟨fun p hp=>(by cases hp),fun q hq=>(by cases hq),fun S _ _ _=>.inl ⟨hs,rfl,rfl⟩,rfl,trivial,fun p hp=>?_⟩⟩
      simp only [KS.ids,List.mem_singleton] at hp;subst hp;exact Nat.lt_succ_self _
    | _=>exact (Rn_fail.1 h).elim
  | .bx c,v,d,f,u,cs,h,hs=>by
    unfold rdS at h
    exact (Rn_fail.1 h).elim
  | .cl _ c,v,d,f,u,cs,h,hs=>by
    unfold rdS at h
    exact (Rn_fail.1 h).elim
  | .unit,v,d,f,u,cs,h,hs=>by
    cases v with
    | unit =>
      have hs:cs=[]:=hs
      exact ⟨(),.unit,[],[],d,h,⟨fun p hp=>(by cases hp),fun q hq=>(by cases hq),fun S _ _ _=>⟨hs,rfl⟩,rfl,trivial,fun p hp=>(by cases hp)⟩⟩
    | _=>exact (Rn_fail.1 h).elim
  | .pair a b,v,d,f,u,cs,h,hs=>by
    cases v with
    | pair v1 v2 =>
      obtain ⟨c1,c2,rfl,s1,s2⟩:=hs
      obtain ⟨x,k,gs,od,d1,h1,A⟩:=rdS_run I a v1 d (f:=fun x k gs od d1=>rdS b v2 d1 fun y k' gs' od' d2=>f (x,y) (.pair k k') (gs ++ gs') (od ++ od') d2) h s1
      obtain ⟨y,k',gs',od',d2,h2,B⟩:=rdS_run I b v2 d1 h1 s2
      refine ⟨(x,y),.pair k k',gs ++ gs',od ++ od',d2,h2,⟨fun p hp=>(List.mem_append.1 hp).elim (A.gone p) (B.gone p),fun q hq=>(List.mem_append.1 hq).elim (A.live q) (B.live q),fun S hS hSl hg=>?_,rfl,⟨A.fit,B.fit⟩,fun p hp=>(List.mem_append.1 hp).elim (A.gens p) (B.gens p)⟩⟩
      exact ⟨c1,c2,_,_,rfl,List.flatMap_append,A.xs S hS hSl fun p hp=>hg p (List.mem_append_left _ hp),B.xs S hS hSl fun p hp=>hg p (List.mem_append_right _ hp)⟩
    | _=>exact (Rn_fail.1 h).elim
  | .st a,v,d,f,u,cs,h,hs=>by
    cases v with
    | st v1 =>
      obtain ⟨x,k,gs,od,d1,h1,A⟩:=rdS_run I a v1 d (f:=fun x k gs od d'=>f x (.st k) gs od d') h (cs:=cs) hs
      exact ⟨x,.st k,gs,od,d1,h1,⟨A.gone,A.live,A.xs,rfl,A.fit,A.gens⟩⟩
    | val T x0 =>
      unfold rdS at h
      split at h
      case h_2=>exact (Rn_fail.1 h).elim
      rename_i v1 hv1
      cases T <;> simp only [stFld,reduceCtorEq] at hv1
      rename_i F
      cases hl:F.isList
      · rw [hl] at hv1;cases hv1
      rw [hl] at hv1
      simp only [cond_true,Option.some.injEq] at hv1
      subst hv1
      have hs:RX C.P F false w (Fz st G w) cs x0:=hs
      obtain ⟨x,k,gs,od,d1,h1,A⟩:=rdS_run I a (expd F x0) d (f:=fun x k gs od d'=>f x (.st k) gs od d') h (cs:=cs) (SX_expd F hl hs).1
      exact ⟨x,.st k,gs,od,d1,h1,⟨A.gone,A.live,A.xs,rfl,A.fit,A.gens⟩⟩
    | _=>exact (Rn_fail.1 h).elim
end
end Go.Proofs.YtefmjjpdflpnaaaGreat.E
namespace Go.Proofs.YtefmjjpdflpnaaaGreat.E
open Go Go.RowKit
set_option linter.unusedVariables false
set_option linter.unusedSimpArgs false
section
variable {C:Cx} {cf:Cfg} {st st':St} {a:Act} {w w':World} {G G':Gh} {us:U}
/-- Numbers of a list of values: roots are new; a box is new, or it is the old one. -/
def FitL (st:St) (G:Gh):Lv->List (Nat × Nat × KS)->List Value->Prop
  | [],[],[]=>True
  | (_,.bx c) :: l,(b,g,k) :: ks,v :: vs=>KFit c k/\(∀ p ∈ k.ids,(st (rk p.1)).gen < p.2)/\((st (bk b)).gen < g\/∃ v0,st (bk b)=.box g c.ty v0/\v=.pointer (some ⟨G.bx (bk b),0,none⟩))/\FitL st G l ks vs
  | (_,.cl f c) :: l,(b,g,k) :: ks,v :: vs=>KFit c k/\(∀ p ∈ k.ids,(st (rk p.1)).gen < p.2)/\((st (bk b)).gen < g\/∃ v0,st (bk b)=.box g c.ty v0/\v=.func (.func f) #[] #[.pointer (some ⟨G.bx (bk b),0,none⟩)])/\FitL st G l ks vs
  | (_,sh) :: l,(_,_,k) :: ks,_ :: vs=>KFit sh k/\(∀ p ∈ k.ids,(st (rk p.1)).gen < p.2)/\FitL st G l ks vs
  | _,_,_=>False
structure RlOk (P:Program) (st:St) (G:Gh) (w:World) (l:Lv) (vs:List Value) (x:den l.ty) (ks:List (Nat × Nat × KS)) (gs:List (Nat × Nat)) (od:List Nat):Prop where
  gone:∀ p ∈ gs,RT st p
  live:∀ q ∈ od,(∃ t g h e l,q=rk t/\st (rk t)=.root g h e l)\/∃ b g T v,q=bk b/\st (bk b)=.box g T v
  xs:∀ S:Nat->Prop,(∀ b,Fz st G w b->S b)->(∀ b,S b->b < w.heap.size)->(∀ p ∈ gs,∀ b ∈ G.bl (rk p.1),S b)->XL P l w S vs x (od.flatMap (ownB st G))
  fit:FitL st G l ks vs
theorem box_own {b g:Nat} {T:Ty} {v:SV} (h:st (bk b)=.box g T v):ownB st G (bk b)=[G.bx (bk b)]:=by unfold ownB;rw [h]
theorem rdL_run {α:Type} (I:InvM C st w G):∀ (l:Lv) (v:SV) (d:Nat) {f:den l.ty->List (Nat × Nat × KS)->List (Nat × Nat)->List Nat->Nat->M α} {u:α} {vs:List Value},Rn (rdL l v d f) st u->SX C.P st G w (Fz st G w) v true vs →
    ∃ x ks gs od d',Rn (f x ks gs od d') st u/\RlOk C.P st G w l vs x ks gs od
  | [],v,d,f,u,vs,h,hs=>by
    cases v with
    | unit =>
      have hs:vs=[]:=hs
      subst hs
      exact ⟨(),[],[],[],d,h,⟨fun p hp=>(by cases hp),fun q hq=>(by cases hq),fun _ _ _ _=>⟨rfl,rfl⟩,trivial⟩⟩
    | _=>exact (Rn_fail.1 (by simpa only [rdL] using h)).elim
  | (i,sh) :: l,v,d,f,u,vs,h,hs=>by
    cases v with
    | pair v1 v2 =>
      obtain ⟨c,r,rfl,s1,s2⟩:=hs
      have gen:Rn (rdS sh v1 d fun x k gs od d1=>rdL l v2 d1 fun y ks gs' od' d2=>f (x,y) ((0,0,k) :: ks) (gs ++ gs') (od ++ od') d2) st u->isBx sh=false->∃ x ks gs od d',Rn (f x ks gs od d') st u/\RlOk C.P st G w ((i,sh) :: l) (valS v1 c :: r) x ks gs od:=fun h hsh=>by
        obtain ⟨x,k,gs,od,d1,h1,A⟩:=rdS_run I sh v1 d h s1
        obtain ⟨y,ks,gs',od',d2,h2,B⟩:=rdL_run I l v2 d1 h1 s2
        refine ⟨(x,y),(0,0,k) :: ks,gs ++ gs',od ++ od',d2,h2,⟨fun p hp=>(List.mem_append.1 hp).elim (A.gone p) (B.gone p),fun q hq=>(List.mem_append.1 hq).elim (fun h=>.inl (A.live q h)) (B.live q),fun S hS hSl hg=>?_,?_⟩⟩
        · refine ⟨c,r,_,_,by rw [A.val],List.flatMap_append,?_,B.xs S hS hSl fun p hp=>hg p (List.mem_append_right _ hp)⟩
          have:=A.xs S hS hSl fun p hp=>hg p (List.mem_append_left _ hp)
          cases sh <;> first | exact this | (cases hsh)
        · cases sh <;> first | exact ⟨A.fit,A.gens,B.fit⟩ | (cases hsh)
      cases sh with
      | bx c0 =>
        cases v1 with
        | pbx b g fs =>
          cases fs with
          | nil =>
            unfold rdL at h
            rw [Rn_get] at h
            split at h
            case h_2=>exact (Rn_fail.1 h).elim
            rename_i g' B0 v0 hb
            rw [Rn_chk] at h
            obtain ⟨hg,h⟩:=h
            have hg:=Nat.eq_of_beq_eq_true hg
            subst hg
            rw [Rn_bif] at h
            rcases h with ⟨hB,h⟩ | ⟨_,h⟩
            case inr=>exact (Rn_fail.1 h).elim
            have hB:=of_decide_eq_true hB
            subst hB
            obtain ⟨p,c1,c2,c3,c4⟩:=s1
            obtain ⟨b1,arr,ty,b2,b3⟩:=I.bx _ _ _ _ hb
            have hp:=c4 _ _ hb
            obtain ⟨x,k,gs,od,d1,h1,A⟩:=rdS_run I c0 v0 d h b3
            obtain ⟨y,ks,gs',od',d2,h2,B⟩:=rdL_run I l v2 d1 h1 s2
            refine ⟨(x,y),(b,g,k) :: ks,gs ++ gs',bk b :: od ++ od',d2,h2,⟨fun p hp=>(List.mem_append.1 hp).elim (A.gone p) (B.gone p),fun q hq=>?_,fun S hS hSl hg=>?_,?_⟩⟩
            · rcases List.mem_append.1 hq with hq | hq
              · rcases List.mem_cons.1 hq with hq | hq
                · exact .inr ⟨b,g,c0.ty,v0,hq,hb⟩
                · exact .inl (A.live q hq)
              · exact B.live q hq
            · refine ⟨[p],r,[G.bx (bk b)] ++ od.flatMap (ownB st G),_,by rw [c1];rfl,?_,⟨G.bx (bk b),od.flatMap (ownB st G),arr,ty,?_,rfl,b2,A.xs S hS hSl fun p hp=>hg p (List.mem_append_left _ hp)⟩,B.xs S hS hSl fun p hp=>hg p (List.mem_append_right _ hp)⟩
              · rw [List.flatMap_append,List.flatMap_cons,box_own hb]
              · rw [hp];simp [offP]
            · refine ⟨A.fit,A.gens,.inr ⟨v0,hb,?_⟩,B.fit⟩
              rw [c1]
              show p=_
              rw [hp];simp [offP]
          | cons n fs=>exact (Rn_fail.1 (by simpa only [rdL,rdS] using h)).elim
        | _=>exact (Rn_fail.1 (by simpa only [rdL,rdS] using h)).elim
      | cl f0 c0 =>
        cases v1 with
        | clo f1 fi ca =>
          cases fi with
          | unit =>
            cases ca with
            | pair pv qv =>
              cases pv with
              | pbx b g fs =>
                cases fs with
                | nil =>
                  cases qv with
                  | unit =>
                    unfold rdL at h
                    rw [Rn_chk] at h
                    obtain ⟨hfn,h⟩:=h
                    have hfn:=Nat.eq_of_beq_eq_true hfn
                    subst hfn
                    rw [Rn_get] at h
                    split at h
                    case h_2=>exact (Rn_fail.1 h).elim
                    rename_i g' B0 v0 hb
                    rw [Rn_chk] at h
                    obtain ⟨hg,h⟩:=h
                    have hg:=Nat.eq_of_beq_eq_true hg
                    subst hg
                    rw [Rn_bif] at h
                    rcases h with ⟨hB,h⟩ | ⟨_,h⟩
                    case inr=>exact (Rn_fail.1 h).elim
                    have hB:=of_decide_eq_true hB
                    subst hB
                    obtain ⟨vs0,us0,ce,u1,u2⟩:=s1
                    obtain ⟨c,r0,ue,⟨p,c1,c2,c3,c4⟩,u3⟩:=u2
                    have u1:vs0=[]:=u1
                    have u3:r0=[]:=u3
                    subst u1 u3 c1 ue ce
                    obtain ⟨b1,arr,ty,b2,b3⟩:=I.bx _ _ _ _ hb
                    have hp:=c4 _ _ hb
                    obtain ⟨x,k,gs,od,d1,h1,A⟩:=rdS_run I c0 v0 d h b3
                    obtain ⟨y,ks,gs',od',d2,h2,B⟩:=rdL_run I l v2 d1 h1 s2
                    refine ⟨(x,y),(b,g,k) :: ks,gs ++ gs',bk b :: od ++ od',d2,h2,⟨fun p hp=>(List.mem_append.1 hp).elim (A.gone p) (B.gone p),fun q hq=>?_,fun S hS hSl hg=>?_,?_⟩⟩
                    · rcases List.mem_append.1 hq with hq | hq
                      · rcases List.mem_cons.1 hq with hq | hq
                        · exact .inr ⟨b,g,c0.ty,v0,hq,hb⟩
                        · exact .inl (A.live q hq)
                      · exact B.live q hq
                    · refine ⟨[.func (.func f0) #[] #[p]],r,[G.bx (bk b)] ++ od.flatMap (ownB st G),_,rfl,?_,⟨G.bx (bk b),od.flatMap (ownB st G),arr,ty,?_,rfl,b2,A.xs S hS hSl fun p hp=>hg p (List.mem_append_left _ hp)⟩,B.xs S hS hSl fun p hp=>hg p (List.mem_append_right _ hp)⟩
                      · rw [List.flatMap_append,List.flatMap_cons,box_own hb]
                      · rw [hp];simp [offP]
                    · refine ⟨A.fit,A.gens,.inr ⟨v0,hb,?_⟩,B.fit⟩
                      show Value.func (.func f0) #[] #[p]=_
                      rw [hp];simp [offP]
                  | _=>exact (Rn_fail.1 (by simpa only [rdL,rdS] using h)).elim
                | cons n fs=>exact (Rn_fail.1 (by simpa only [rdL,rdS] using h)).elim
              | _=>exact (Rn_fail.1 (by simpa only [rdL,rdS] using h)).elim
            | _=>exact (Rn_fail.1 (by simpa only [rdL,rdS] using h)).elim
          | _=>exact (Rn_fail.1 (by simpa only [rdL,rdS] using h)).elim
        | _=>exact (Rn_fail.1 (by simpa only [rdL,rdS] using h)).elim
      | _=>exact gen h rfl
    | _=>exact (Rn_fail.1 (by simpa only [rdL] using h)).elim
theorem FitL_out:∀ (l:Lv) {ks:List (Nat × Nat × KS)} {vs:List Value},FitL st G l ks vs->FitL st G (outL l) (outK l ks) (outV l vs)
  | [],[],[],_=>trivial
  | [],[],_ :: _,h=>h.elim
  | [],_ :: _,_,h=>by simp [FitL] at h
  | (i,sh) :: l,[],vs,h=>by cases sh <;> cases vs <;> exact h.elim
  | (i,sh) :: l,k :: ks,[],h=>by cases sh <;> exact h.elim
  | (i,sh) :: l,(b,g,k) :: ks,v :: vs,h=>by
    cases sh with
    | bx c=>exact ⟨h.1,h.2.1,h.2.2.1,FitL_out l h.2.2.2⟩
    | cl f c=>exact ⟨h.1,h.2.1,h.2.2.1,FitL_out l h.2.2.2⟩
    | _=>exact FitL_out l h.2.2
def GA (G':Gh) (ge:List (Nat × Value × List Nat)):Prop:=∀ q ∈ ge,G'.hd q.1=q.2.1/\G'.bl q.1=q.2.2/\G'.bx q.1=q.2.2.headD 0
/-- A state, a ghost and readable blocks behind the writing of the cells u. -/
structure Inst (u:U) (ge:List (Nat × Value × List Nat)) (S:Nat->Prop) (w:World) (st':St) (G':Gh) (S':Nat->Prop):Prop where
  st:∀ p ∈ u,st' p.1=p.2
  ga:GA G' ge
  sub:∀ b,S b->S' b
  lt:∀ b,S' b->b < w.heap.size
theorem Inst.left {u v:U} {ge he:List (Nat × Value × List Nat)} {S S':Nat->Prop} (h:Inst (u ++ v) (ge ++ he) S w st' G' S'):Inst u ge S w st' G' S' :=
  ⟨fun p hp=>h.st p (List.mem_append_left _ hp),fun q hq=>h.ga q (List.mem_append_left _ hq),h.sub,h.lt⟩
theorem Inst.right {u v:U} {ge he:List (Nat × Value × List Nat)} {S S':Nat->Prop} (h:Inst (u ++ v) (ge ++ he) S w st' G' S'):Inst v he S w st' G' S' :=
  ⟨fun p hp=>h.st p (List.mem_append_right _ hp),fun q hq=>h.ga q (List.mem_append_right _ hq),h.sub,h.lt⟩
theorem Inst.tail {p:Nat × Cell} {u:U} {q:Nat × Value × List Nat} {ge:List (Nat × Value × List Nat)} {S S':Nat->Prop} (h:Inst (p :: u) (q :: ge) S w st' G' S'):Inst u ge S w st' G' S' :=
  ⟨fun p hp=>h.st p (List.mem_cons_of_mem _ hp),fun q hq=>h.ga q (List.mem_cons_of_mem _ hq),h.sub,h.lt⟩
def RootC (st:St) (w:World) (p:Nat × Cell) (q:Nat × Value × List Nat):Prop:=∃ t g e l,p=(rk t,.root g 0 e l)/\TC (.sl e) w [q.2.1] l q.2.2/\(st (rk t)).gen < g
def BoxC (P:Program) (st:St) (G:Gh) (w:World) (u:U) (ge:List (Nat × Value × List Nat)) (S:Nat->Prop) (p:Nat × Cell) (q:Nat × Value × List Nat):Prop :=
  ∃ b g T v blk arr ty,p=(bk b,.box g T v)/\q.2.2=[blk]/\v.hasTy T=true/\w.heap[blk]?=some (.cells arr ty (0,0))/\((st (bk b)).gen < g\/∃ v0,st (bk b)=.box g T v0/\blk=G.bx (bk b)) ∧
    ∀ st' G' S',Inst u ge S w st' G' S'->SX P st' G' w S' v false arr.toList
structure PutOk (P:Program) (st:St) (w:World) (S:Nat->Prop) (sh:Shp) (p:SV × U) (cs:List Value) (bs:List Nat) (ge:List (Nat × Value × List Nat)):Prop where
  keys:p.2.map (·.1)=ge.map (·.1)
  bls:bs=ge.flatMap (·.2.2)
  cell:∀ z ∈ p.2,∃ q ∈ ge,q.1=z.1/\RootC st w z q
  ty:p.1.hasTy sh.ty=true
  val:valS p.1 cs=valOf sh.ty cs
  sx:∀ st' G' S',Inst p.2 ge S w st' G' S'->SX P st' G' w S' p.1 false cs
theorem TC_hd {e:Ty} {cs:List Value} {l:List (den e)} {bs:List Nat} (h:TC (.sl e) w cs l bs):∃ v,cs=[v]/\v.oneCell'=true:=by
  rcases h with ⟨rfl,_⟩ | ⟨b,o,n,c,arr,ty,bss,rfl,_⟩ <;> exact ⟨_,rfl,rfl⟩
theorem putS_ok {P:Program} {S:Nat->Prop} (hSw:∀ b,S b->b < w.heap.size):∀ (sh:Shp) (k:KS) (x:den sh.ty) {cs:List Value} {bs:List Nat},KFit sh k->(∀ p ∈ k.ids,(st (rk p.1)).gen < p.2)->XI P sh w S cs x bs →
    ∃ ge,PutOk P st w S sh (putS sh k x) cs bs ge
  | .v T,k,x,cs,bs,hf,hg,h=>by
    obtain ⟨rfl,h⟩:=h
    refine ⟨[],rfl,rfl,fun z hz=>(by cases hz),by simp [putS,SV.hasTy,Shp.ty],rfl,fun st' G' S' hi=>?_⟩
    exact RX_congr P T false (Nat.le_refl _) (fun b hb _=>⟨hi.sub b hb,rfl⟩) hi.lt h
  | .r e,k,x,cs,bs,hf,hg,h=>by
    cases k with
    | r t g =>
      have h:TC (.sl e) w cs x bs:=h
      obtain ⟨v,rfl,hv⟩:=TC_hd h
      refine ⟨[(rk t,v,bs)],rfl,by simp,fun z hz=>?_,by simp [putS,SV.hasTy,Shp.ty],rfl,fun st' G' S' hi=>?_⟩
      · simp only [putS,List.mem_singleton] at hz
        exact ⟨(rk t,v,bs),by simp,by rw [hz],t,g,e,x,hz,h,hg (t,g) (by simp [KS.ids])⟩
      · have h1:=hi.st (rk t,.root g 0 e x) (by simp [putS])
        have h2:=hi.ga (rk t,v,bs) (by simp)
        have h1:st' (rk t)=.root g 0 e x:=h1
        refine ⟨v,rfl,hv,by rw [h1];exact Nat.le_refl _,fun h' e' l' hr=>?_⟩
        rw [h1] at hr;cases hr
        exact ⟨h2.1.symm,rfl⟩
    | _=>exact hf.elim
  | .bx c,k,x,cs,bs,hf,hg,h=>h.elim
  | .cl _ c,k,x,cs,bs,hf,hg,h=>h.elim
  | .unit,k,x,cs,bs,hf,hg,h=>by
    cases k with
    | unit =>
      obtain ⟨rfl,rfl⟩:=h
      exact ⟨[],rfl,rfl,fun z hz=>(by cases hz),rfl,rfl,fun st' G' S' hi=>rfl⟩
    | _=>exact hf.elim
  | .pair A B,k,x,cs,bs,hf,hg,h=>by
    cases k with
    | pair k1 k2 =>
      obtain ⟨c1,c2,b1,b2,rfl,rfl,h1,h2⟩:=h
      obtain ⟨ge,K⟩:=putS_ok hSw A k1 x.1 hf.1 (fun p hp=>hg p (List.mem_append_left _ hp)) h1
      obtain ⟨he,L⟩:=putS_ok hSw B k2 x.2 hf.2 (fun p hp=>hg p (List.mem_append_right _ hp)) h2
      refine ⟨ge ++ he,?_,?_,fun z hz=>?_,?_,rfl,fun st' G' S' hi=>⟨c1,c2,rfl,K.sx st' G' S' hi.left,L.sx st' G' S' hi.right⟩⟩
      · show ((putS A k1 x.1).2 ++ (putS B k2 x.2).2).map (·.1)=_
        rw [List.map_append,List.map_append,K.keys,L.keys]
      · rw [List.flatMap_append,K.bls,L.bls]
      · rcases List.mem_append.1 hz with hz | hz
        · obtain ⟨q,hq,h⟩:=K.cell z hz;exact ⟨q,List.mem_append_left _ hq,h⟩
        · obtain ⟨q,hq,h⟩:=L.cell z hz;exact ⟨q,List.mem_append_right _ hq,h⟩
      · show ((putS A k1 x.1).1.hasTy A.ty && (putS B k2 x.2).1.hasTy B.ty)=true
        rw [K.ty,L.ty];rfl
    | _=>exact hf.elim
  | .st A,k,x,cs,bs,hf,hg,h=>by
    cases k with
    | st k1 =>
      obtain ⟨ge,K⟩:=putS_ok (P:=P) hSw A k1 x hf hg h
      exact ⟨ge,K.keys,K.bls,K.cell,K.ty,rfl,K.sx⟩
    | _=>exact hf.elim
structure PutLOk (P:Program) (st:St) (G:Gh) (w:World) (S:Nat->Prop) (p:SV × U) (vs:List Value) (bs:List Nat) (ge:List (Nat × Value × List Nat)):Prop where
  keys:p.2.map (·.1)=ge.map (·.1)
  bls:bs=ge.flatMap (·.2.2)
  cell:∀ z ∈ p.2,∃ q ∈ ge,q.1=z.1/\(RootC st w z q\/BoxC P st G w p.2 ge S z q)
  sx:∀ st' G' S',Inst p.2 ge S w st' G' S'->SX P st' G' w S' p.1 true vs
theorem BoxC.mono {P:Program} {S:Nat->Prop} {u u':U} {ge ge':List (Nat × Value × List Nat)} {p:Nat × Cell} {q:Nat × Value × List Nat} (h:BoxC P st G w u ge S p q) (hi:∀ st' G' S',Inst u' ge' S w st' G' S'->Inst u ge S w st' G' S'):BoxC P st G w u' ge' S p q:=by
  obtain ⟨b,g,T,v,blk,arr,ty,h1,h2,h3,h4,h5,h6⟩:=h
  exact ⟨b,g,T,v,blk,arr,ty,h1,h2,h3,h4,h5,fun st' G' S' h=>h6 st' G' S' (hi st' G' S' h)⟩
theorem putL_ok {P:Program} {S:Nat->Prop} (hSw:∀ b,S b->b < w.heap.size):∀ (l:Lv) (ks:List (Nat × Nat × KS)) (x:den l.ty) {vs:List Value} {bs:List Nat},FitL st G l ks vs->XL P l w S vs x bs →
    ∃ ge,PutLOk P st G w S (putL l ks x) vs bs ge
  | [],[],x,vs,bs,hf,h=>by
    obtain ⟨rfl,rfl⟩:=h
    exact ⟨[],rfl,rfl,fun z hz=>(by cases hz),fun _ _ _ _=>rfl⟩
  | [],_ :: _,x,vs,bs,hf,h=>by simp [FitL] at hf
  | (i,sh) :: l,[],x,vs,bs,hf,h=>by cases sh <;> cases vs <;> exact hf.elim
  | (i,sh) :: l,(b,g,k) :: ks,x,vs,bs,hf,h=>by
    obtain ⟨c,r,b1,b2,rfl,rfl,h1,h2⟩:=h
    have gen:isBx sh=false->KFit sh k->(∀ p ∈ k.ids,(st (rk p.1)).gen < p.2)->FitL st G l ks r->XI P sh w S c x.1 b1->putL ((i,sh) :: l) ((b,g,k) :: ks) x=(.pair (putS sh k x.1).1 (putL l ks x.2).1,(putS sh k x.1).2 ++ (putL l ks x.2).2)->∃ ge,PutLOk P st G w S (putL ((i,sh) :: l) ((b,g,k) :: ks) x) (valOf sh.ty c :: r) (b1 ++ b2) ge:=fun _ f1 f2 f3 h1 e=>by
      obtain ⟨ge,K⟩:=putS_ok hSw sh k x.1 f1 f2 h1
      obtain ⟨he,L⟩:=putL_ok hSw l ks x.2 f3 h2
      rw [e]
      refine ⟨ge ++ he,?_,?_,fun z hz=>?_,fun st' G' S' hi=>⟨c,r,by rw [K.val],K.sx st' G' S' hi.left,L.sx st' G' S' hi.right⟩⟩
      · show ((putS sh k x.1).2 ++ (putL l ks x.2).2).map (·.1)=_
        rw [List.map_append,List.map_append,K.keys,L.keys]
      · rw [List.flatMap_append,K.bls,L.bls]
      · rcases List.mem_append.1 hz with hz | hz
        · obtain ⟨q,hq,h1,h2⟩:=K.cell z hz;exact ⟨q,List.mem_append_left _ hq,h1,.inl h2⟩
        · obtain ⟨q,hq,h1,h2⟩:=L.cell z hz
          exact ⟨q,List.mem_append_right _ hq,h1,h2.imp id fun h=>h.mono fun _ _ _ h=>h.right⟩
    cases sh with
    | bx c0 =>
      obtain ⟨f1,f2,f3,f4⟩:=hf
      obtain ⟨blk,b3,arr,ty,rfl,rfl,h4,h5⟩:=h1
      obtain ⟨ge,K⟩:=putS_ok hSw c0 k x.1 f1 f2 h5
      obtain ⟨he,L⟩:=putL_ok hSw l ks x.2 f4 h2
      have e:putL ((i,.bx c0) :: l) ((b,g,k) :: ks) x=(.pair (.pbx b g []) (putL l ks x.2).1,((bk b,.box g c0.ty (putS c0 k x.1).1) :: (putS c0 k x.1).2) ++ (putL l ks x.2).2):=rfl
      rw [e]
      let q0:Nat × Value × List Nat:=(bk b,.pointer (some ⟨blk,0,none⟩),[blk])
      have left:∀ st' G' S',Inst (((bk b,.box g c0.ty (putS c0 k x.1).1) :: (putS c0 k x.1).2) ++ (putL l ks x.2).2) ((q0 :: ge) ++ he) S w st' G' S'->Inst (putS c0 k x.1).2 ge S w st' G' S':=fun st' G' S' hi=>hi.left.tail
      refine ⟨(q0 :: ge) ++ he,?_,?_,fun z hz=>?_,fun st' G' S' hi=>⟨[.pointer (some ⟨blk,0,none⟩)],r,rfl,?_,L.sx st' G' S' hi.right⟩⟩
      · rw [List.map_append,List.map_append,List.map_cons,List.map_cons,K.keys,L.keys]
      · rw [List.flatMap_append,List.flatMap_cons,K.bls,L.bls];rfl
      · rcases List.mem_append.1 hz with hz | hz
        · rcases List.mem_cons.1 hz with hz | hz
          · refine ⟨q0,by simp,by rw [hz],.inr ⟨b,g,c0.ty,_,blk,arr,ty,hz,rfl,K.ty,h4,?_,fun st' G' S' hi=>K.sx st' G' S' (left st' G' S' hi)⟩⟩
            rcases f3 with f3 | ⟨v0,f3,f5⟩
            · exact .inl f3
            · refine .inr ⟨v0,f3,?_⟩
              have:Value.pointer (some ⟨blk,0,none⟩)=.pointer (some ⟨G.bx (bk b),0,none⟩):=f5
              simpa using this
          · obtain ⟨q,hq,h1,h2⟩:=K.cell z hz
            exact ⟨q,List.mem_append_left _ (List.mem_cons_of_mem _ hq),h1,.inl h2⟩
        · obtain ⟨q,hq,h1,h2⟩:=L.cell z hz
          exact ⟨q,List.mem_append_right _ hq,h1,h2.imp id fun h=>h.mono fun _ _ _ h=>h.right⟩
      · have h6:st' (bk b)=.box g c0.ty (putS c0 k x.1).1:=hi.st (bk b,.box g c0.ty (putS c0 k x.1).1) (by simp)
        have h7:=(hi.ga q0 (by simp)).2.2
        refine ⟨_,rfl,rfl,by rw [h6];exact Nat.le_refl _,fun T c hb=>?_⟩
        rw [h6] at hb;cases hb
        rw [show G'.bx (bk b)=blk from h7];simp [offP]
    | cl f0 c0 =>
      obtain ⟨f1,f2,f3,f4⟩:=hf
      obtain ⟨blk,b3,arr,ty,rfl,rfl,h4,h5⟩:=h1
      obtain ⟨ge,K⟩:=putS_ok hSw c0 k x.1 f1 f2 h5
      obtain ⟨he,L⟩:=putL_ok hSw l ks x.2 f4 h2
      have e:putL ((i,.cl f0 c0) :: l) ((b,g,k) :: ks) x=(.pair (.clo f0 .unit (.pair (.pbx b g []) .unit)) (putL l ks x.2).1,((bk b,.box g c0.ty (putS c0 k x.1).1) :: (putS c0 k x.1).2) ++ (putL l ks x.2).2):=rfl
      rw [e]
      let q0:Nat × Value × List Nat:=(bk b,.pointer (some ⟨blk,0,none⟩),[blk])
      have left:∀ st' G' S',Inst (((bk b,.box g c0.ty (putS c0 k x.1).1) :: (putS c0 k x.1).2) ++ (putL l ks x.2).2) ((q0 :: ge) ++ he) S w st' G' S'->Inst (putS c0 k x.1).2 ge S w st' G' S':=fun st' G' S' hi=>hi.left.tail
      refine ⟨(q0 :: ge) ++ he,?_,?_,fun z hz=>?_,fun st' G' S' hi=>⟨[.func (.func f0) #[] #[.pointer (some ⟨blk,0,none⟩)]],r,rfl,?_,L.sx st' G' S' hi.right⟩⟩
      · rw [List.map_append,List.map_append,List.map_cons,List.map_cons,K.keys,L.keys]
      · rw [List.flatMap_append,List.flatMap_cons,K.bls,L.bls];rfl
      · rcases List.mem_append.1 hz with hz | hz
        · rcases List.mem_cons.1 hz with hz | hz
          · refine ⟨q0,by simp,by rw [hz],.inr ⟨b,g,c0.ty,_,blk,arr,ty,hz,rfl,K.ty,h4,?_,fun st' G' S' hi=>K.sx st' G' S' (left st' G' S' hi)⟩⟩
            rcases f3 with f3 | ⟨v0,f3,f5⟩
            · exact .inl f3
            · refine .inr ⟨v0,f3,?_⟩
              have:Value.func (.func f0) #[] #[.pointer (some ⟨blk,0,none⟩)]=.func (.func f0) #[] #[.pointer (some ⟨G.bx (bk b),0,none⟩)]:=f5
              simpa using this
          · obtain ⟨q,hq,h1,h2⟩:=K.cell z hz
            exact ⟨q,List.mem_append_left _ (List.mem_cons_of_mem _ hq),h1,.inl h2⟩
        · obtain ⟨q,hq,h1,h2⟩:=L.cell z hz
          exact ⟨q,List.mem_append_right _ hq,h1,h2.imp id fun h=>h.mono fun _ _ _ h=>h.right⟩
      · have h6:st' (bk b)=.box g c0.ty (putS c0 k x.1).1:=hi.st (bk b,.box g c0.ty (putS c0 k x.1).1) (by simp)
        have h7:=(hi.ga q0 (by simp)).2.2
        refine ⟨[],[.pointer (some ⟨blk,0,none⟩)],rfl,rfl,[.pointer (some ⟨blk,0,none⟩)],[],rfl,⟨_,rfl,rfl,by rw [h6];exact Nat.le_refl _,fun T c hb=>?_⟩,rfl⟩
        rw [h6] at hb;cases hb
        rw [show G'.bx (bk b)=blk from h7];simp [offP]
    | v T=>exact gen rfl hf.1 hf.2.1 hf.2.2 h1 rfl
    | r T=>exact gen rfl hf.1 hf.2.1 hf.2.2 h1 rfl
    | unit=>exact gen rfl hf.1 hf.2.1 hf.2.2 h1 rfl
    | pair A B=>exact gen rfl hf.1 hf.2.1 hf.2.2 h1 rfl
    | st A=>exact gen rfl hf.1 hf.2.1 hf.2.2 h1 rfl
end
end Go.Proofs.YtefmjjpdflpnaaaGreat.E
namespace Go.Proofs.YtefmjjpdflpnaaaGreat.E
open Go Go.RowKit
set_option linter.unusedVariables false
set_option linter.unusedSimpArgs false
section
variable {C:Cx} {cf:Cfg} {dst:Option Tmp} {type:TypeId} {pos:String} {after:Array Edge} {guard:Option (Nat × Bool)} {st:St} {a:Act} {w w':World} {G:Gh} {us:U}
theorem lkp_mem {β:Type}:∀ (l:List (Nat × β)) {d:Nat} {o:β},(l.map (·.1)).Nodup->(d,o) ∈ l->l.lookup d=some o
  | (e,p) :: l,d,o,hn,h=>by
    rw [List.map_cons,List.nodup_cons] at hn
    rw [List.lookup_cons]
    rcases List.mem_cons.1 h with h | h
    · simp only [Prod.mk.injEq] at h
      rw [h.1,h.2];simp
    · have hne:d ≠ e:=fun e'=>hn.1 (List.mem_map.2 ⟨(d,o),h,e'⟩)
      have:(d == e)=false:=by simpa using hne
      rw [this]
      exact lkp_mem l hn.2 h
theorem lkp_none {β:Type}:∀ (l:List (Nat × β)) {d:Nat},(∀ q ∈ l,q.1 ≠ d)->l.lookup d=none
  | [],d,h=>rfl
  | (e,p) :: l,d,h=>by
    rw [List.lookup_cons]
    have:(d == e)=false:=by
      have:=h (e,p) List.mem_cons_self
      simpa using fun e'=>this e'.symm
    rw [this]
    exact lkp_none l fun q hq=>h q (List.mem_cons_of_mem _ hq)
theorem flat_nd:∀ {ge:List (Nat × Value × List Nat)},(ge.flatMap (·.2.2)).Nodup->∀ q ∈ ge,q.2.2.Nodup
  | [],_,q,hq=>by cases hq
  | p :: ge,h,q,hq=>by
    rw [List.flatMap_cons,List.nodup_append] at h
    rcases List.mem_cons.1 hq with e | hq
    · rw [e];exact h.1
    · exact flat_nd h.2.1 q hq
theorem flat_dj:∀ {ge:List (Nat × Value × List Nat)},(ge.flatMap (·.2.2)).Nodup->∀ q ∈ ge,∀ q' ∈ ge,∀ b,b ∈ q.2.2->b ∈ q'.2.2->q=q'
  | [],_,q,hq,_,_,_,_,_=>by cases hq
  | p :: ge,h,q,hq,q',hq',b,hb,hb'=>by
    rw [List.flatMap_cons,List.nodup_append] at h
    rcases List.mem_cons.1 hq with e | hm <;> rcases List.mem_cons.1 hq' with e' | hm'
    · rw [e,e']
    · subst e;exact absurd rfl (h.2.2 b hb b (List.mem_flatMap.2 ⟨q',hm',hb'⟩))
    · subst e';exact absurd rfl (h.2.2 b hb' b (List.mem_flatMap.2 ⟨q,hm,hb⟩))
    · exact flat_dj h.2.1 q hm q' hm' b hb hb'
theorem inst_step (I:Inv C st a w G) {u:U} {ge:List (Nat × Value × List Nat)} {S:Nat->Prop} {od:List Nat} (hk:(u.map (·.1)).Nodup) (e1:u.map (·.1)=ge.map (·.1))
    (cell:∀ z ∈ u,∃ q ∈ ge,q.1=z.1/\(RootC st w' z q\/BoxC C.P st G w' u ge S z q)) (hod:∀ q ∈ od,q ∈ u.map (·.1))
    (bn:(ge.flatMap (·.2.2)).Nodup) (bm:∀ b ∈ ge.flatMap (·.2.2),(b ∈ od.flatMap (ownB st G)\/w.heap.size<=b)/\b < w'.heap.size)
    (hS:∀ b,S b->b < w'.heap.size/\(Fz st G w b\/w.heap.size<=b\/b ∈ od.flatMap (ownB st G))/\b ∉ ge.flatMap (·.2.2))
    (hos:w'.os=w.os) (hta:w'.tape=w.tape) (hou:w'.output=w.output) (hsz:w.heap.size<=w'.heap.size) (hblk:∀ b,b < w.heap.size->b ∉ od.flatMap (ownB st G)->w'.heap[b]?=w.heap[b]?) :
    ∃ G',Inv C (upds st u) a w' G'/\Inst u ge S w' (upds st u) G' (Fz (upds st u) G' w'):=by
  have hkg:(ge.map (·.1)).Nodup:=e1 ▸ hk
  let G':Gh:=⟨fun k=>match ge.lookup k with | some q=>q.1 | none=>G.hd k,fun k=>match ge.lookup k with | some q=>q.2 | none=>G.bl k,fun k=>match ge.lookup k with | some q=>q.2.headD 0 | none=>G.bx k,G.s0⟩
  have hga:GA G' ge:=fun q hq=>by
    have:=lkp_mem ge hkg (show (q.1,q.2) ∈ ge from hq)
    refine ⟨?_,?_,?_⟩
    · show (match ge.lookup q.1 with | some q=>q.1 | none=>G.hd q.1)=_;rw [this]
    · show (match ge.lookup q.1 with | some q=>q.2 | none=>G.bl q.1)=_;rw [this]
    · show (match ge.lookup q.1 with | some q=>q.2.headD 0 | none=>G.bx q.1)=_;rw [this]
  have hin:∀ z ∈ u,upds st u z.1=z.2:=fun z hz=>upds_in _ _ hk (by simpa using hz)
  have hout:∀ k,k ∉ u.map (·.1)->upds st u k=st k:=fun k hk=>upds_out _ _ _ fun p hp e=>hk (List.mem_map.2 ⟨p,hp,e⟩)
  have hG:∀ k,k ∉ u.map (·.1)->G'.hd k=G.hd k/\G'.bl k=G.bl k/\G'.bx k=G.bx k:=fun k hk=>by
    have:ge.lookup k=none:=lkp_none ge fun q hq e=>hk (by rw [e1];exact List.mem_map.2 ⟨q,hq,e⟩)
    refine ⟨?_,?_,?_⟩
    · show (match ge.lookup k with | some q=>q.1 | none=>G.hd k)=_;rw [this]
    · show (match ge.lookup k with | some q=>q.2 | none=>G.bl k)=_;rw [this]
    · show (match ge.lookup k with | some q=>q.2.headD 0 | none=>G.bx k)=_;rw [this]
  -- who owns what behind the step
  have hown:∀ z ∈ u,∃ q ∈ ge,q.1=z.1/\ownB (upds st u) G' z.1=q.2.2:=fun z hz=>by
    obtain ⟨q,hq,e,h⟩:=cell z hz
    refine ⟨q,hq,e,?_⟩
    have hz2:=hin z hz
    have g:=hga q hq
    rw [e] at g
    unfold ownB
    rw [hz2]
    rcases h with ⟨t,g',e',l,h1,_⟩ | ⟨b,g',T,v,blk,arr,ty,h1,h2,_⟩
    · rw [h1];rw [h1] at g;exact g.2.1
    · rw [h1];rw [h1] at g
      show [G'.bx (bk b)]=_
      rw [g.2.2,h2];rfl
  have hmem:∀ k ∈ u.map (·.1),∃ z ∈ u,z.1=k:=fun k hk=>by
    obtain ⟨z,hz,e⟩:=List.mem_map.1 hk;exact ⟨z,hz,e⟩
  have hnosk:∀ i,sk i ∉ u.map (·.1):=fun i hi=>by
    obtain ⟨z,hz,e⟩:=hmem _ hi
    obtain ⟨q,hq,_,h⟩:=cell z hz
    rcases h with ⟨t,g',e',l,h1,_⟩ | ⟨b,g',T,v,blk,arr,ty,h1,_⟩
    · rw [h1] at e;exact sk_ne_rk _ _ e.symm
    · rw [h1] at e;exact sk_ne_bk _ _ e.symm
  have h0:Step0 st G w (upds st u) G' w' (u.map (·.1)) (fun b=>b ∈ od.flatMap (ownB st G)):={
    s0:=rfl
    os:=hos,tape:=hta,output:=hou,size:=hsz,block:=hblk
    own:=fun b hb=>by
      obtain ⟨q,hq,hb⟩:=List.mem_flatMap.1 hb
      exact ⟨q,hod q hq,hb⟩
    out:=fun k hk=>⟨hout k hk,hG k hk⟩
    nosk:=hnosk
    ks:=fun k hk=>by
      obtain ⟨z,hz,rfl⟩:=hmem k hk
      obtain ⟨q,hq,e,h⟩:=cell z hz
      have hz2:=hin z hz
      have g:=hga q hq
      rw [e] at g
      rcases h with ⟨t,g',e',l,h1,_,h3⟩ | ⟨b,g',T,v,blk,arr,ty,h1,h2,_,_,h5,_⟩
      · rw [h1] at hz2 ⊢
        refine ⟨by rw [hz2];exact Nat.le_of_lt h3,fun g1 h e l hr hg=>?_,fun g1 T1 c hr _=>?_,fun g1 hr _=>?_⟩
        · rw [hz2] at hr;cases hr;exact absurd h3 (Nat.not_lt.2 hg)
        · rw [hz2] at hr;cases hr
        · rw [hz2] at hr;cases hr
      · rw [h1] at hz2 g ⊢
        refine ⟨?_,fun g1 h e l hr hg=>?_,fun g1 T1 c hr hg=>?_,fun g1 hr hg=>?_⟩
        · rw [hz2]
          rcases h5 with h5 | ⟨v0,h5,_⟩
          · exact Nat.le_of_lt h5
          · rw [h5];exact Nat.le_refl _
        · rw [hz2] at hr;cases hr
        · rw [hz2] at hr;cases hr
          rcases h5 with h5 | ⟨v0,h5,h6⟩
          · exact absurd h5 (Nat.not_lt.2 hg)
          · exact ⟨v0,h5,by rw [g.2.2,h2,h6];rfl⟩
        · rw [hz2] at hr;cases hr
    sub:=fun k hk b hb=>by
      obtain ⟨z,hz,rfl⟩:=hmem k hk
      obtain ⟨q,hq,e,ho⟩:=hown z hz
      rw [ho] at hb
      rcases (bm b (List.mem_flatMap.2 ⟨q,hq,hb⟩)).1 with h | h
      · obtain ⟨k',hk',hb'⟩:=List.mem_flatMap.1 h
        exact .inl ⟨k',hod k' hk',hb'⟩
      · exact .inr h
    lt:=fun k hk b hb=>by
      obtain ⟨z,hz,rfl⟩:=hmem k hk
      obtain ⟨q,hq,e,ho⟩:=hown z hz
      rw [ho] at hb
      exact (bm b (List.mem_flatMap.2 ⟨q,hq,hb⟩)).2
    nd:=fun k hk=>by
      obtain ⟨z,hz,rfl⟩:=hmem k hk
      obtain ⟨q,hq,e,ho⟩:=hown z hz
      rw [ho];exact flat_nd bn q hq
    dj:=fun k hk k' hk' b hb hb'=>by
      obtain ⟨z,hz,rfl⟩:=hmem k hk
      obtain ⟨z',hz',rfl⟩:=hmem k' hk'
      obtain ⟨q,hq,e,ho⟩:=hown z hz
      obtain ⟨q',hq',e',ho'⟩:=hown z' hz'
      rw [ho] at hb;rw [ho'] at hb'
      rw [<-e,<-e',flat_dj bn q hq q' hq' b hb hb'] }
  have hfz:∀ b,S b->Fz (upds st u) G' w' b:=fun b hb=>by
    obtain ⟨h1,h2,h3⟩:=hS b hb
    refine ⟨h1,fun k hkb=>?_,?_⟩
    · by_cases hku:k ∈ u.map (·.1)
      · obtain ⟨z,hz,rfl⟩:=hmem k hku
        obtain ⟨q,hq,e,ho⟩:=hown z hz
        rw [ho] at hkb
        exact h3 (List.mem_flatMap.2 ⟨q,hq,hkb⟩)
      · rw [h0.ownB_out hku] at hkb
        rcases h2 with h2 | h2 | h2
        · exact h2.2.1 k hkb
        · have:=(I.lt k b hkb).1;omega
        · obtain ⟨k',hk',hb'⟩:=List.mem_flatMap.1 h2
          have:=I.dj _ _ _ hkb hb'
          subst this
          exact hku (hod _ hk')
    · show G.s0 b
      rcases h2 with h2 | h2 | h2
      · exact h2.2.2
      · exact I.m0 b (.inl (Nat.le_trans I.size h2))
      · obtain ⟨k',hk',hb'⟩:=List.mem_flatMap.1 h2
        exact I.m0 b (I.lt _ _ hb').2
  have hinst:Inst u ge S w' (upds st u) G' (Fz (upds st u) G' w'):=⟨hin,hga,hfz,fun b hb=>hb.1⟩
  refine ⟨G',Step.inv I { toStep0:=h0,rt:=fun k hk g h e l hr=>?_,bx:=fun k hk g T v hr=>?_ },hinst⟩
  · obtain ⟨z,hz,rfl⟩:=hmem k hk
    obtain ⟨q,hq,e',hc⟩:=cell z hz
    have hz2:=hin z hz
    have gg:=hga q hq
    rw [e'] at gg
    rw [hz2] at hr
    rcases hc with ⟨t,g',e2,l2,h1,h2,_⟩ | ⟨b,g',T,v,blk,arr,ty,h1,_⟩
    · rw [h1] at hr;cases hr
      rw [gg.1,gg.2.1];exact h2
    · rw [h1] at hr;cases hr
  · obtain ⟨z,hz,rfl⟩:=hmem k hk
    obtain ⟨q,hq,e',hc⟩:=cell z hz
    have hz2:=hin z hz
    have gg:=hga q hq
    rw [e'] at gg
    rw [hz2] at hr
    rcases hc with ⟨t,g',e2,l2,h1,_⟩ | ⟨b,g',T',v',blk,arr,ty,h1,h2,h3,h4,h5,h6⟩
    · rw [h1] at hr;cases hr
    · rw [h1] at hr;cases hr
      refine ⟨h3,arr,ty,?_,h6 _ _ _ hinst⟩
      rw [gg.2.2,h2];exact h4
/-! the call -/
theorem gone_gen {gs:List (Nat × Nat)} (h:∀ p ∈ gs,RT st p) (k:Nat):(upds st (goneU gs) k).gen=(st k).gen:=by
  by_cases hk:∃ p ∈ gs,rk p.1=k
  · obtain ⟨p,hp,rfl⟩:=hk
    rw [gone_at h hp]
    obtain ⟨h',e,l,hr⟩:=h p hp
    rw [hr];rfl
  · rw [goneU_out fun p hp e=>hk ⟨p,hp,e⟩]
theorem FitL_gone {gs:List (Nat × Nat)} (h:∀ p ∈ gs,RT st p):∀ (l:Lv) {ks:List (Nat × Nat × KS)} {vs:List Value},FitL st G l ks vs->FitL (upds st (goneU gs)) G l ks vs
  | [],[],[],_=>trivial
  | [],[],_ :: _,h=>h.elim
  | [],_ :: _,_,h=>by simp [FitL] at h
  | (i,sh) :: l,[],vs,h=>by cases sh <;> cases vs <;> exact h.elim
  | (i,sh) :: l,k :: ks,[],h=>by cases sh <;> exact h.elim
  | (i,sh) :: l,(b,g,k) :: ks,v :: vs,hf=>by
    have hb:upds st (goneU gs) (bk b)=st (bk b):=goneU_out fun p hp e=>rk_ne_bk _ _ e
    cases sh with
    | bx c=>exact ⟨hf.1,fun p hp=>by rw [gone_gen h];exact hf.2.1 p hp,by rw [hb];exact hf.2.2.1,FitL_gone h l hf.2.2.2⟩
    | cl f c=>exact ⟨hf.1,fun p hp=>by rw [gone_gen h];exact hf.2.1 p hp,by rw [hb];exact hf.2.2.1,FitL_gone h l hf.2.2.2⟩
    | _=>exact ⟨hf.1,fun p hp=>by rw [gone_gen h];exact hf.2.1 p hp,FitL_gone h l hf.2.2⟩
theorem newS_run {α:Type} {u:α}:∀ (sh:Shp) (d:Nat) {f:KS->Nat->M α},Rn (newS sh d f) st u->∃ k d',Rn (f k d') st u/\KFit sh k/\∀ p ∈ k.ids,(st (rk p.1)).gen < p.2
  | .v T,d,f,h=>⟨.v,d,h,trivial,fun p hp=>(by cases hp)⟩
  | .r e,d,f,h=>by
    unfold newS at h
    rw [Rn_get] at h
    exact ⟨_,_,h,trivial,fun p hp=>by simp only [KS.ids,List.mem_singleton] at hp;subst hp;exact Nat.lt_succ_self _⟩
  | .unit,d,f,h=>⟨.unit,d,h,trivial,fun p hp=>(by cases hp)⟩
  | .bx c,d,f,h=>(Rn_fail.1 h).elim
  | .cl _ c,d,f,h=>(Rn_fail.1 h).elim
  | .st A,d,f,h=>by
    obtain ⟨k,d',h1,h2,h3⟩:=newS_run A d (f:=fun k d'=>f (.st k) d') h
    exact ⟨.st k,d',h1,h2,h3⟩
  | .pair A B,d,f,h=>by
    obtain ⟨k,d1,h1,h2,h3⟩:=newS_run A d (f:=fun k d1=>newS B d1 fun k' d2=>f (.pair k k') d2) h
    obtain ⟨k',d2,j1,j2,j3⟩:=newS_run B d1 h1
    exact ⟨.pair k k',d2,j1,⟨h2,j2⟩,fun p hp=>(List.mem_append.1 hp).elim (h3 p) (j3 p)⟩
theorem newL_run {α:Type} {u:α}:∀ (l:Lv) (d:Nat) {f:List (Nat × Nat × KS)->Nat->M α},Rn (newL l d f) st u->∃ ks d',Rn (f ks d') st u/\∀ vs:List Value,vs.length=l.length->FitL st G l ks vs
  | [],d,f,h=>⟨[],d,h,fun vs hv=>by rw [List.length_eq_zero_iff.1 hv];trivial⟩
  | (i,sh) :: l,d,f,h=>by
    have gen:isBx sh=false->Rn (newS sh d fun k d1=>newL l d1 fun ks d2=>f ((0,0,k) :: ks) d2) st u->∃ ks d',Rn (f ks d') st u/\∀ vs:List Value,vs.length=((i,sh) :: l).length->FitL st G ((i,sh) :: l) ks vs:=fun hs h=>by
      obtain ⟨k,d1,h1,h2,h3⟩:=newS_run sh d h
      obtain ⟨ks,d2,j1,j2⟩:=newL_run l d1 h1
      refine ⟨_,d2,j1,fun vs hv=>?_⟩
      cases vs with
      | nil=>simp at hv
      | cons v vs =>
        have:=j2 vs (by simpa using hv)
        cases sh <;> first | exact ⟨h2,h3,this⟩ | (cases hs)
    cases sh with
    | bx c =>
      unfold newL at h
      rw [Rn_get] at h
      obtain ⟨k,d1,h1,h2,h3⟩:=newS_run c (d + 1) h
      obtain ⟨ks,d2,j1,j2⟩:=newL_run l d1 h1
      refine ⟨_,d2,j1,fun vs hv=>?_⟩
      cases vs with
      | nil=>simp at hv
      | cons v vs=>exact ⟨h2,h3,.inl (Nat.lt_succ_self _),j2 vs (by simpa using hv)⟩
    | cl f0 c=>exact (Rn_fail.1 (by simpa only [newL,newS] using h)).elim
    | _=>exact gen rfl h
theorem XL_len {P:Program} {S:Nat->Prop}:∀ (l:Lv) {vs:List Value} {x:den l.ty} {bs:List Nat},XL P l w S vs x bs->vs.length=l.length
  | [],vs,x,bs,h=>by rw [h.1];rfl
  | (i,sh) :: l,vs,x,bs,h=>by
    obtain ⟨c,r,b1,b2,rfl,_,_,h2⟩:=h
    rw [List.length_cons,List.length_cons,XL_len l h2]
theorem flat_cg {α β:Type} {f g:α->List β}:∀ (l:List α),(∀ x ∈ l,f x=g x)->l.flatMap f=l.flatMap g
  | [],_=>rfl
  | a :: l,h=>by rw [List.flatMap_cons,List.flatMap_cons,h a List.mem_cons_self,flat_cg l fun x hx=>h x (List.mem_cons_of_mem _ hx)]
theorem own_nd (I:InvM C st w G):∀ (od:List Nat),od.Nodup->(od.flatMap (ownB st G)).Nodup
  | [],_=>List.nodup_nil
  | k :: od,h=>by
    rw [List.nodup_cons] at h
    rw [List.flatMap_cons,List.nodup_append]
    refine ⟨I.nd k,own_nd I od h.2,fun b hb b' hb' e=>?_⟩
    subst e
    obtain ⟨k',hk',hb'⟩:=List.mem_flatMap.1 hb'
    have:=I.dj _ _ _ hb hb'
    subst this
    exact h.1 hk'
theorem upds_app:∀ (u v:U) (s:St),upds s (u ++ v)=upds (upds s u) v
  | [],_,_=>rfl
  | (k,c) :: u,v,s=>upds_app u v (upd s k c)
theorem ret_sw {P:Program} {S:Nat->Prop} {v:SV} {rs:List Value} (h:SX P st G w S v true rs):SW P st G w S (retSV v) (retV rs):=by
  cases v with
  | unit =>
    have h:rs=[]:=h
    subst h
    exact ⟨[],rfl,rfl⟩
  | pair a b =>
    obtain ⟨c,r,rfl,h1,h2⟩:=h
    cases b with
    | unit =>
      have h2:r=[]:=h2
      subst h2
      show SW P st G w S a (valS a c)
      cases a <;> first | exact ⟨c,rfl,h1⟩ | exact h1.elim
    | pair b1 b2 =>
      obtain ⟨c2,r2,rfl,h3,h4⟩:=h2
      refine ⟨valS a c :: valS b1 c2 :: r2,?_,⟨c,_,rfl,h1,c2,r2,rfl,h3,h4⟩⟩
      show retV _=_
      unfold retV
      rw [dif_neg (by simp)]
    | _=>exact h2.elim
  | _=>exact h.elim
/-- A call by shapes: the callee's contract gives the step. -/
theorem callS_core (O:CfgOk C cf) {g:FuncId} {sp:ShSpec} (hfs:cf.fs g=some sp) {vs:List Value} {v:SV} {dst:Option Tmp} {next:Act->World->Prop} (I:Inv C st a w G) (h:Rn (callS cf dst sp v) st us) (hv:SX C.P st G w (Fz st G w) v true vs)
    (hn:∀ a' w' G',Inv C (upds st us) a' w' G'->next a' w'):CF C.P g vs.toArray w fun v' w'=>next (a.put dst v') w':=by
  unfold callS at h
  obtain ⟨x,ks,gs,od,d1,h,A⟩:=rdL_run I.toInvM sp.ps v _ h hv
  rw [Rn_call] at h
  obtain ⟨y,hy,h⟩:=h
  obtain ⟨kr,d2,h,hfit⟩:=newL_run sp.rl d1 h
  simp only at h
  rw [Rn_bif] at h
  rcases h with ⟨hb,h⟩ | ⟨_,h⟩
  case inr=>exact (Rn_fail.1 h).elim
  simp only [Bool.and_eq_true,nodupB_iff] at hb
  obtain ⟨⟨⟨⟨⟨hnd,hod⟩,hcov⟩,_⟩,_⟩,_⟩:=hb
  have I1:=gone_inv I A.gone
  obtain ⟨hodn,_,hodg⟩:=List.nodup_append.1 hod
  have hsame:∀ q ∈ od,upds st (goneU gs) q=st q:=fun q hq=>goneU_out fun p hp e=>hodg q hq (rk p.1) (List.mem_map.2 ⟨p,hp,rfl⟩) e.symm
  have hown:∀ q ∈ od,ownB (upds st (goneU gs)) G q=ownB st G q:=fun q hq=>by unfold ownB;rw [hsame q hq]
  have hfm:od.flatMap (ownB (upds st (goneU gs)) G)=od.flatMap (ownB st G):=flat_cg od hown
  have sub:∀ k b,b ∈ ownB (upds st (goneU gs)) G k->b ∈ ownB st G k/\∀ p ∈ gs,k ≠ rk p.1:=fun k b hb=>by
    have hne:∀ p ∈ gs,k ≠ rk p.1:=fun p hp e=>by
      subst e
      unfold ownB at hb;rw [gone_at A.gone hp] at hb;cases hb
    refine ⟨?_,hne⟩
    unfold ownB at hb ⊢
    rw [goneU_out fun p hp e=>hne p hp e.symm] at hb
    exact hb
  have hS1:∀ b,Fz st G w b->Fz (upds st (goneU gs)) G w b:=fun b hb=>⟨hb.1,fun k hk=>hb.2.1 k (sub k b hk).1,hb.2.2⟩
  have hS2:∀ p ∈ gs,∀ b ∈ G.bl (rk p.1),Fz (upds st (goneU gs)) G w b:=fun p hp b hb=>by
    have ho:b ∈ ownB st G (rk p.1):=by rw [own_of_RT (A.gone p hp)];exact hb
    refine ⟨(I.lt _ _ ho).1,fun k hk=>?_,I.m0 _ (I.lt _ _ ho).2⟩
    obtain ⟨h1,h2⟩:=sub k b hk
    exact h2 p hp (I.dj _ _ _ h1 ho)
  have hX:=A.xs (Fz (upds st (goneU gs)) G w) hS1 (fun b h=>h.1) hS2
  have hcf:=O.fs g sp hfs w _ x y.1 y.2 _ _ hX (own_nd I.toInvM od hodn) (fun b hb=>⟨hb.1,fun hbs=>by
    obtain ⟨q,hq,hbq⟩:=List.mem_flatMap.1 hbs
    exact hb.2.1 q (by rw [hown q hq];exact hbq)⟩) (fun b hb=>by
    obtain ⟨q,hq,hbq⟩:=List.mem_flatMap.1 hb
    exact (I.lt _ _ hbq).1) hy
  refine hcf.mono fun v' w' hr=>?_
  obtain ⟨rs,bsr,bso,rfl,hR,hO,hnd2,hm⟩:=hr.ex
  obtain ⟨ge1,P1⟩:=putL_ok (st:=upds st (goneU gs)) (G:=G) (fun b h=>h.1) sp.rl kr y.1 (FitL_gone A.gone _ (hfit rs (XL_len _ hR))) hR
  obtain ⟨ge2,P2⟩:=putL_ok (st:=upds st (goneU gs)) (G:=G) (fun b h=>h.1) (outL sp.ps) (outK sp.ps ks) y.2 (FitL_out _ (FitL_gone A.gone _ A.fit)) hO
  have hbl:(ge1 ++ ge2).flatMap (·.2.2)=bsr ++ bso:=by rw [List.flatMap_append,<-P1.bls,<-P2.bls]
  obtain ⟨G',I',hi⟩:=inst_step I1 (u:=(putL sp.rl kr y.1).2 ++ (putL (outL sp.ps) (outK sp.ps ks) y.2).2) (ge:=ge1 ++ ge2) (w':=w') (od:=od) (S:=fun b=>b < w'.heap.size/\(Fz (upds st (goneU gs)) G w b\/w.heap.size<=b\/b ∈ od.flatMap (ownB st G))/\b ∉ bsr ++ bso) hnd
    (by rw [List.map_append,List.map_append,P1.keys,P2.keys])
    (fun z hz=>by
      rcases List.mem_append.1 hz with hz | hz
      · obtain ⟨q,hq,h1,h2⟩:=P1.cell z hz
        exact ⟨q,List.mem_append_left _ hq,h1,h2.imp id fun h=>h.mono fun _ _ _ h=>h.left⟩
      · obtain ⟨q,hq,h1,h2⟩:=P2.cell z hz
        exact ⟨q,List.mem_append_right _ hq,h1,h2.imp id fun h=>h.mono fun _ _ _ h=>h.right⟩)
    (fun q hq=>by
      have:=List.all_eq_true.1 hcov q hq
      obtain ⟨k,hk,e⟩:=List.any_eq_true.1 this
      have e:=Nat.eq_of_beq_eq_true e
      subst e
      rw [List.map_append];exact List.mem_append_right _ hk)
    (by rw [hbl];exact hnd2) (fun b hb=>by rw [hbl] at hb;rw [hfm];exact hm b hb) (fun b hb=>by rw [hbl,hfm];exact hb)
    hr.os hr.tape hr.output hr.size (fun b hb hn=>hr.block b hb (by rw [<-hfm];exact hn))
  have hus:upds st (goneU gs ++ ((putL sp.rl kr y.1).2 ++ (putL (outL sp.ps) (outK sp.ps ks) y.2).2))=upds (upds st (goneU gs)) ((putL sp.rl kr y.1).2 ++ (putL (outL sp.ps) (outK sp.ps ks) y.2).2):=upds_app _ _ _
  refine hn _ _ G' (wr_sound O h (by rw [hus];exact I') (fun p hp i e=>?_) (by rw [hus];exact ret_sw (P1.sx _ _ _ hi.left)))
  rcases List.mem_append.1 hp with hp | hp
  · obtain ⟨q,_,rfl⟩:=List.mem_map.1 hp
    exact sk_ne_rk i q.1 e.symm
  · have key:∀ z ∈ (putL sp.rl kr y.1).2 ++ (putL (outL sp.ps) (outK sp.ps ks) y.2).2,∀ i,z.1 ≠ sk i:=fun z hz i e=>by
      have:∃ q,RootC (upds st (goneU gs)) w' z q\/∃ u ge S,BoxC C.P (upds st (goneU gs)) G w' u ge S z q:=by
        rcases List.mem_append.1 hz with hz | hz
        · obtain ⟨q,_,_,h⟩:=P1.cell z hz;exact ⟨q,h.imp id fun h=>⟨_,_,_,h⟩⟩
        · obtain ⟨q,_,_,h⟩:=P2.cell z hz;exact ⟨q,h.imp id fun h=>⟨_,_,_,h⟩⟩
      obtain ⟨q,⟨t,_,_,_,h1,_⟩ | ⟨_,_,_,b,_,_,_,_,_,_,h1,_⟩⟩:=this
      · rw [h1] at e;exact sk_ne_rk _ _ e.symm
      · rw [h1] at e;exact sk_ne_bk _ _ e.symm
    exact key p hp i e
theorem snd_callShape (O:CfgOk C cf) {g:FuncId} {args:Array Operand} {tys:Array TypeId} {sp:ShSpec} (hfn:cf.fn g=none) (hfs:cf.fs g=some sp):Snd C cf ⟨dst,.call ⟨.value (.func g),args,tys⟩,type,pos,after,guard⟩:=by
  intro st a w G us next Q I h hn
  simp only [exec,hfn,hfs] at h
  obtain ⟨v,hv,h⟩:=opds_run I h
  unfold Oper.wp
  rw [call_run (g:=g) (fi:=#[]) (ca:=#[]) rfl]
  have e:#[] ++ args.map a.eval ++ #[]=(args.toList.map a.eval).toArray:=by
    rw [<-Array.toList_map]
    show _=args.map a.eval
    rw [Array.append_empty,Array.empty_append]
  rw [e]
  exact (callS_core O hfs I h hv hn) _ a next Q fun v' w' hr=>hr
theorem appSV_sx {P:Program} {S:Nat->Prop} {cw:SV} {us:List Value}:∀ (v:SV) {vs:List Value},SX P st G w S v true vs->SX P st G w S cw true us->SX P st G w S (appSV v cw) true (vs ++ us)
  | .pair a b,vs,h,h'=>by
    obtain ⟨c,r,rfl,h1,h2⟩:=h
    exact ⟨c,r ++ us,rfl,h1,appSV_sx b h2 h'⟩
  | .unit,vs,h,h'=>by
    have h:vs=[]:=h
    subst h;exact h'
  | .val _ _,_,h,_=>h.elim
  | .nil,_,h,_=>h.elim
  | .ref _ _ _,_,h,_=>h.elim
  | .sub _ _ _ _ _ _,_,h,_=>h.elim
  | .vw _ _ _ _ _,_,h,_=>h.elim
  | .sap _ _ _ _ _ _ _ _,_,h,_=>h.elim
  | .pel _ _ _ _,_,h,_=>h.elim
  | .pbx _ _ _,_,h,_=>h.elim
  | .pix _ _ _ _,_,h,_=>h.elim
  | .st _,_,h,_=>h.elim
  | .tup _,_,h,_=>h.elim
  | .clo _ _ _,_,h,_=>h.elim
  | .mp _ _,_,h,_=>h.elim
theorem snd_callValue (O:CfgOk C cf) {t:Tmp} {args:Array Operand} {tys:Array TypeId}:Snd C cf ⟨dst,.call ⟨.value (.tmp t),args,tys⟩,type,pos,after,guard⟩:=by
  intro st a w G us next Q I h hn
  simp only [exec] at h
  obtain ⟨v,_,hf,h⟩:=slot_run I h
  split at h
  case h_3=>exact (Rn_fail.1 h).elim
  case h_2 =>
    rename_i g ca _
    split at h
    case h_2=>exact (Rn_fail.1 h).elim
    rename_i sp hfs
    obtain ⟨v,hv,h⟩:=opds_run I h
    obtain ⟨c,hc,vs0,us0,rfl,u1,u2⟩:=hf
    have u1:vs0=[]:=u1
    subst u1
    unfold Oper.wp
    rw [call_run (g:=g) (fi:=#[]) (ca:=us0.toArray) (by exact hc)]
    have e:#[] ++ args.map a.eval ++ us0.toArray=(args.toList.map a.eval ++ us0).toArray:=by
      rw [Array.empty_append,<-List.append_toArray,<-Array.toList_map]
    rw [e]
    exact (callS_core O hfs I h (appSV_sx v hv u2) hn) _ a next Q fun v' w' hr=>hr
  rename_i A R F _
  obtain ⟨v,hv,h⟩:=opds_run I h
  unfold callM at h
  obtain ⟨x,hx,h⟩:=argsM_run O I.toInvM A [] v h hv
  rw [Rn_call] at h
  obtain ⟨y,hy,h⟩:=h
  simp only [List.any_nil,cond_false] at h
  rw [Rn_bif] at h
  rcases h with ⟨hT,h⟩ | ⟨_,h⟩
  case inr=>exact (Rn_fail.1 h).elim
  obtain ⟨c,hc,f,fi,ca,rfl,_,hcall⟩:=hf
  unfold Oper.wp
  rw [call_run (g:=f) (fi:=fi) (ca:=ca) (by exact hc)]
  have e:fi ++ args.map a.eval ++ ca=fi ++ (args.toList.map a.eval).toArray ++ ca:=by rw [<-Array.toList_map]
  rw [e]
  refine hcall w (Nat.le_refl _) (fun b _=>rfl) _ x y hx hy _ a next Q fun v' w' hr=>?_
  obtain ⟨G',I'⟩:=ret_sound O I hT h hr
  exact hn _ _ _ I'
end
end Go.Proofs.YtefmjjpdflpnaaaGreat.E
namespace Go.Proofs.YtefmjjpdflpnaaaGreat.E
open Go Go.RowKit
set_option linter.unusedVariables false
set_option linter.unusedSimpArgs false
section
variable {C:Cx} {cf:Cfg} {dst:Option Tmp} {type:TypeId} {pos:String} {after:Array Edge} {guard:Option (Nat × Bool)} {st:St} {a:Act} {w w':World} {G:Gh} {us:U}
theorem copyL_len {α:Type} {l l2:List α} {lo m:Nat} (h:lo + m<=l.length):(copyL l l2 lo m).length=l.length:=by
  simp only [copyL,List.length_append,List.length_take,List.length_drop];omega
theorem copyL_get {α:Type} {l l2:List α} {lo m:Nat} (h:lo + m<=l.length) (i:Nat):(copyL l l2 lo m)[i]?=if lo<=i/\i < lo + min l2.length m then l2[i - lo]? else l[i]?:=by
  simp only [copyL]
  have h1:(l.take lo).length=lo:=by rw [List.length_take];omega
  have h2:(l2.take (min l2.length m)).length=min l2.length m:=by rw [List.length_take];omega
  by_cases ha:i < lo
  · rw [if_neg (by omega),List.append_assoc,List.getElem?_append_left (by omega),List.getElem?_take,if_pos ha]
  · by_cases hb:i < lo + min l2.length m
    · rw [if_pos (by omega),List.append_assoc,List.getElem?_append_right (by omega),List.getElem?_append_left (by omega),List.getElem?_take,if_pos (by omega),h1]
    · rw [if_neg (by omega),List.getElem?_append_right (by rw [List.length_append];omega),List.length_append,h1,h2,List.getElem?_drop]
      congr 1;omega
/-- An owned list of plain elements, part of it written over in memory. -/
theorem TC_copy {P:Program} {e:Ty} (hm:e.mem=false) {b o n c:Nat} {arr:Array Value} {ty:TypeId} {l l2:List (den e)} {cs2:List Value} {bss2:List (List Nat)} {lo m:Nat} (hb:w.heap[b]?=some (.cells arr ty (0,0))) (hn:n=l.length) (hc:n<=c) (hfit:o + c * e.sz<=arr.size)
    (hel:∀ (i:Nat) y,l[i]?=some y->TC e w (seg arr.toList (o + i * e.sz) e.sz) y []) (hE:Els e w cs2 l2 bss2) (hlo:lo + m<=l.length) :
    TC (.sl e) (w.setRow b (setSeg arr.toList (o + lo * e.sz) (cs2.take (min l2.length m * e.sz))).toArray) [.slice (some ⟨b,o,none⟩) n c] (copyL l l2 lo m) [b]:=by
  obtain ⟨he1,he2,he3⟩:=hE
  have hL:arr.toList.length=arr.size:=Array.length_toList
  have hsz:(o + lo * e.sz) + (cs2.take (min l2.length m * e.sz)).length<=arr.toList.length:=by
    rw [List.length_take,he1,hL]
    have h1:min l2.length m * e.sz<=m * e.sz:=Nat.mul_le_mul_right _ (Nat.min_le_right _ _)
    have h2:lo * e.sz + m * e.sz<=c * e.sz:=by rw [<-Nat.add_mul];exact Nat.mul_le_mul_right _ (by omega)
    have h3:=Nat.min_le_left (min l2.length m * e.sz) (l2.length * e.sz)
    omega
  have hk:(cs2.take (min l2.length m * e.sz)).length=min l2.length m * e.sz:=by
    rw [List.length_take,he1]
    exact Nat.min_eq_left (Nat.mul_le_mul_right _ (Nat.min_le_left _ _))
  have hcl:=copyL_len (l2:=l2) hlo
  refine .inr ⟨b,o,n,c,_,ty,List.replicate n [],rfl,?_,by rw [hn];exact hcl.symm,setRow_get hb _ b |>.trans (by rw [if_pos rfl]),hc,?_,by simp,fun i y bi hy hbi=>?_⟩
  · have:(List.replicate n ([]:List Nat)).flatten=[]:=by simp
    rw [this]
  · rw [List.size_toArray,setSeg_len hsz,hL];exact hfit
  · have hbi:bi=[]:=by
      rw [List.getElem?_replicate] at hbi
      split at hbi
      · simpa using hbi.symm
      · cases hbi
    subst hbi
    rw [copyL_get hlo] at hy
    have hrd:(setSeg arr.toList (o + lo * e.sz) (cs2.take (min l2.length m * e.sz))).toArray.toList=setSeg arr.toList (o + lo * e.sz) (cs2.take (min l2.length m * e.sz)):=rfl
    rw [hrd]
    by_cases hi:lo<=i/\i < lo + min l2.length m
    · rw [if_pos hi] at hy
      have hlt:i - lo < l2.length:=(List.getElem?_eq_some_iff.1 hy).1
      obtain ⟨bi2,hb2⟩:=some_of_len he2.symm hy
      have h1:=he3 (i - lo) y bi2 hy hb2
      have h2:=TC_of_RX P e (w':=w.setRow b (setSeg arr.toList (o + lo * e.sz) (cs2.take (min l2.length m * e.sz))).toArray) hm (RX_of_TC P e (S:=fun _=>True) h1 fun _ _=>trivial)
      have hseg:seg (setSeg arr.toList (o + lo * e.sz) (cs2.take (min l2.length m * e.sz))) (o + i * e.sz) e.sz=seg cs2 ((i - lo) * e.sz) e.sz:=by
        apply List.ext_getElem?
        intro j
        rw [seg_get,seg_get]
        by_cases hj:j < e.sz
        · rw [if_pos hj,if_pos hj,setSeg_get hsz,hk]
          have h5:i * e.sz=lo * e.sz + (i - lo) * e.sz:=by rw [<-Nat.add_mul];congr 1;omega
          have h6:(i - lo + 1) * e.sz<=min l2.length m * e.sz:=Nat.mul_le_mul_right _ (by omega)
          rw [Nat.succ_mul] at h6
          rw [if_pos (by omega),List.getElem?_take,if_pos (by omega)]
          congr 1;omega
        · rw [if_neg hj,if_neg hj]
      rw [hseg];exact h2
    · rw [if_neg hi] at hy
      have h1:=hel i y hy
      have h2:=TC_of_RX P e (w':=w.setRow b (setSeg arr.toList (o + lo * e.sz) (cs2.take (min l2.length m * e.sz))).toArray) hm (RX_of_TC P e (S:=fun _=>True) h1 fun _ _=>trivial)
      have hseg:seg (setSeg arr.toList (o + lo * e.sz) (cs2.take (min l2.length m * e.sz))) (o + i * e.sz) e.sz=seg arr.toList (o + i * e.sz) e.sz:=by
        apply List.ext_getElem?
        intro j
        rw [seg_get,seg_get]
        by_cases hj:j < e.sz
        · rw [if_pos hj,if_pos hj,setSeg_get hsz,hk,if_neg]
          rcases Nat.lt_or_ge i lo with h | h
          · have h6:(i + 1) * e.sz<=lo * e.sz:=Nat.mul_le_mul_right _ h
            rw [Nat.succ_mul] at h6
            omega
          · have h6:(lo + min l2.length m) * e.sz<=i * e.sz:=Nat.mul_le_mul_right _ (by omega)
            rw [Nat.add_mul] at h6
            omega
        · rw [if_neg hj,if_neg hj]
      rw [hseg];exact h2
theorem TC_flat (P:Program) {e:Ty} (hm:e.mem=false) {cs:List Value} {x:den e} {bs:List Nat} (h:TC e w cs x bs):TC e w' cs x [] :=
  TC_of_RX P e hm (RX_of_TC P e (S:=fun _=>True) h fun _ _=>trivial)
theorem ref_vw {e:Ty} {hd:Value} {l:List (den e)} {bs:List Nat} (h:TC (.sl e) w [hd] l bs):VwAt hd e 0 (l.length:Int) hd:=by
  rcases h with ⟨h1,h2,_⟩ | ⟨b,o,n,c,arr,ty,bss,h1,_,h3,_,h5,_⟩
  · have h1:hd=.slice none 0 0:=by simpa using h1
    have h2:l=[]:=h2
    subst h2
    exact ⟨none,0,0,none,0,h1,by rw [h1];rfl,Nat.le_refl _,.inl rfl⟩
  · have h1:hd=.slice (some ⟨b,o,none⟩) n c:=by simpa using h1
    have h3:n=l.length:=h3
    exact ⟨_,n,c,_,c,h1,by rw [h1,h3];rfl,by rw [Int.toNat_natCast,<-h3];exact h5,.inr ⟨b,o,rfl,by simp⟩⟩
theorem copy_core (O:CfgOk C cf) (I:Inv C st a w G) {t g h:Nat} {e:Ty} (hm:e.mem=false) {l l2:List (den e)} (hr:st (rk t)=.root g h e l) {td ts' ty:TypeId} (hty:cf.ty td=some (.sl e)) {lo m:Int} {v s:Value} (h0:0<=lo) (h1:0<=m) (hlm:lo + m<=(l.length:Int)) (hv:VwAt (G.hd (rk t)) e lo m v)
    {news:List Value} {nss:List (List Nat)} (hx:Src w s l2.length news) (hE:Els e w news l2 nss) :
    ∃ w' G',(Builtin.copy_ #[td,ts'] ty #[v,s]).run C.P w=.ok (.int .i64 ((min l2.length m.toNat:Nat):Int)) w'/\Inv C (upds st [(rk t,.root g (h + 1) e (copyL l l2 lo.toNat m.toNat))]) a w' G':=by
  have ho:=O.ty _ _ hty
  obtain ⟨ud,hud,hu'⟩:=ho.und
  cases ud <;> simp only [UnOk] at hu'
  rename_i et
  obtain ⟨i,hi,hisz,_⟩:=(TyOk.el O.ty hu').info
  have hTC:=I.rt _ _ _ _ _ hr
  -- what a change of this root is
  have hs:SX C.P st G w (Fz st G w) (.ref t g e) false [G.hd (rk t)]:=⟨_,rfl,by
    obtain ⟨z,e1,e2⟩:=TC_hd hTC
    simp only [List.cons.injEq,and_true] at e1
    rw [e1];exact e2,by rw [hr];exact Nat.le_refl _,fun h' e' l' hr'=>by rw [hr] at hr';cases hr';exact ⟨rfl,rfl⟩⟩
  have hres:Rn (res cf 1 (.sl e) (.ref t g e) fun l'=>M.ret l') st l:=by
    unfold res
    rw [Rn_get,hr]
    simp only [dite_true]
    rw [Rn_chk,Rn_ret]
    exact ⟨Nat.beq_refl g,rfl⟩
  obtain ⟨x,hx1,_,hw⟩:=wb_lens O I.toInvM 1 (.sl e) (.ref t g e) hres hs
  rw [Rn_ret] at hx1
  subst hx1
  obtain ⟨ts,bs,Uf,k1,k2,L⟩:=hw (copyL x l2 lo.toNat m.toNat) (fun U ts=>M.ret (U,ts)) ([(rk t,.root g (h + 1) e (copyL x l2 lo.toNat m.toNat))],[t]) (by
    unfold wb
    rw [Rn_get,hr]
    simp only
    rw [Rn_bif]
    refine .inl ⟨by simp,?_⟩
    rw [Rn_chk,Rn_ret]
    exact ⟨Nat.beq_refl g,rfl⟩)
  rw [Rn_ret] at k1
  simp only [Prod.mk.injEq] at k1
  obtain ⟨k1,rfl⟩:=k1
  have hin:∀ (w':World) (bs':List Nat),TC (.sl e) w' [G.hd (rk t)] (copyL x l2 lo.toNat m.toNat) bs'->bs'.Nodup->(∀ b ∈ bs',b ∈ bs/\b < w'.heap.size)->w'.os=w.os->w'.tape=w.tape->w'.output=w.output->w.heap.size<=w'.heap.size->(∀ b,b < w.heap.size->b ∉ bs->w'.heap[b]?=w.heap[b]?) →
      ∃ G',Inv C (upds st [(rk t,.root g (h + 1) e (copyL x l2 lo.toNat m.toNat))]) a w' G':=fun w' bs' q1 q2 q3 q4 q5 q6 q7 q8=>by
    have:=wbStep I L (by simp) q1 q2 (fun b hb=>⟨.inl (q3 b hb).1,(q3 b hb).2⟩) q4 q5 q6 q7 q8
    rw [k1] at this
    exact this
  obtain ⟨aa,len,cap,aa',c',e1,rfl,e3,e4⟩:=hv
  have hsz:i.size=e.sz:=hisz
  -- the cells that are read
  have hlt:(news.take (min l2.length m.toNat * e.sz)).length=min l2.length m.toNat * e.sz:=by
    rw [List.length_take,hE.1]
    exact Nat.min_eq_left (Nat.mul_le_mul_right _ (Nat.min_le_left _ _))
  have hone:∀ u ∈ news.take (min l2.length m.toNat * e.sz),u.oneCell'=true:=fun u hu=>hE.one u (List.mem_of_mem_take hu)
  have hrun:∀ (w':World),(match aa' with | some ad=>(storeCells ad (news.take (min l2.length m.toNat * e.sz))).run C.P w | none=>.ok () w)=.ok () w' →
      (Builtin.copy_ #[td,ts'] ty #[.slice aa' m.toNat c',s]).run C.P w=.ok (.int .i64 ((min l2.length m.toNat:Nat):Int)) w':=fun w' hst=>by
    rcases hx with ⟨ad,cc,rfl,hc⟩ | ⟨cc,rfl,hz,hz2⟩
    · have hf:=run_firstCells_some (P:=C.P) w i.size (min l2.length m.toNat) ad l2.length cc (news.take (min l2.length m.toNat * e.sz)) (by rw [hlt,hsz]) (fun j u hj=>hc j u (by
        rw [List.getElem?_take] at hj
        split at hj
        · exact hj
        · cases hj))
      cases aa' with
      | none =>
        cases hst
        simp [Builtin.copy_,run_underlying hud,sizeOf,typeInfo,hi,Builtin.lenOf,hf,goInt]
      | some ad' =>
        simp [Builtin.copy_,run_underlying hud,sizeOf,typeInfo,hi,Builtin.lenOf,hf,hst,goInt]
    · have hf:=run_firstCells_none (P:=C.P) w i.size (min l2.length m.toNat) l2.length cc
      subst hz2
      have hst:(match aa' with | some ad=>(storeCells ad []).run C.P w | none=>.ok () w)=.ok () w':=by
        have:=hst
        simp only [List.take_nil] at this
        exact this
      cases aa' with
      | none =>
        cases hst
        simp [Builtin.copy_,run_underlying hud,sizeOf,typeInfo,hi,Builtin.lenOf,hf,goInt]
      | some ad' =>
        simp [Builtin.copy_,run_underlying hud,sizeOf,typeInfo,hi,Builtin.lenOf,hf,hst,goInt]
  by_cases hk:min l2.length m.toNat=0
  · have he:copyL x l2 lo.toNat m.toNat=x:=by simp [copyL,hk]
    obtain ⟨G',I'⟩:=hin w bs (by rw [he];exact k2) (L.nd (by simp)) (fun b hb=>⟨hb,TC_lt _ k2 b hb⟩) rfl rfl rfl (Nat.le_refl _) (fun _ _ _=>rfl)
    refine ⟨w,G',hrun w ?_,I'⟩
    rw [hk,Nat.zero_mul,List.take_zero]
    cases aa' with
    | none=>rfl
    | some ad=>simp [storeCells]
  · rcases e4 with e4 | ⟨b,o,rfl,rfl⟩
    · omega
    · rcases k2 with ⟨q1,_⟩ | ⟨b',o',n,c,arr,ty',bss,q1,q2,q3,q4,q5,q6,q7,q8⟩
      · rw [e1] at q1;simp at q1
      · rw [e1] at q1
        simp only [List.cons.injEq,and_true,Value.slice.injEq,Option.some.injEq,Addr.mk.injEq] at q1
        obtain ⟨⟨rfl,rfl⟩,rfl,rfl⟩:=q1
        have q3:len=x.length:=q3
        have hlo:lo.toNat + m.toNat<=x.length:=by omega
        have hT:=TC_copy (P:=C.P) (l2:=l2) (cs2:=news) hm q4 q3 q5 q6 (fun i y hy=>by
          have hil:i < bss.length:=by
            have:=(List.getElem?_eq_some_iff.1 hy).1
            omega
          exact TC_flat C.P hm (q8 i y _ hy (List.getElem?_eq_getElem hil))) hE hlo
        have hbb:b ∈ bs:=by rw [q2];exact List.mem_cons_self
        have hbs:b < w.heap.size:=(Array.getElem?_eq_some_iff.1 q4).1
        obtain ⟨G',I'⟩:=hin (w.setRow b (setSeg arr.toList (o + lo.toNat * e.sz) (news.take (min l2.length m.toNat * e.sz))).toArray) [b] (by rw [e1];exact hT) (by simp) (fun b' hb'=>by
          simp only [List.mem_singleton] at hb'
          subst hb'
          exact ⟨hbb,by rw [setRow_sz];exact hbs⟩) rfl rfl rfl (by rw [setRow_sz];exact Nat.le_refl _) (fun b' hb' hnb=>by
          rw [setRow_get q4,if_neg (fun e=>hnb (by rw [e];exact hbb))])
        refine ⟨_,G',hrun _ ?_,I'⟩
        have hL:arr.toList.length=arr.size:=Array.length_toList
        have hfit:o + lo.toNat * e.sz + 0 + (news.take (min l2.length m.toNat * e.sz)).length<=arr.size:=by
          rw [hlt]
          have h1:min l2.length m.toNat * e.sz<=m.toNat * e.sz:=Nat.mul_le_mul_right _ (Nat.min_le_right _ _)
          have h2:lo.toNat * e.sz + m.toNat * e.sz<=cap * e.sz:=by rw [<-Nat.add_mul];exact Nat.mul_le_mul_right _ (by omega)
          omega
        have:=run_storeCells_at C.P b (o + lo.toNat * e.sz) ty' (news.take (min l2.length m.toNat * e.sz)) 0 arr w q4 hfit hone
        simpa [setSeg] using this
theorem snd_copy (O:CfgOk C cf) {args:Array Operand} {tys:Array TypeId}:Snd C cf ⟨dst,.call ⟨.builtin .copy,args,tys⟩,type,pos,after,guard⟩:=by
  intro st a w G us next Q I h hn
  simp only [exec] at h
  split at h
  case h_2=>exact (Rn_fail.1 h).elim
  rename_i d s t tx hx ht
  have hx:=arr_of hx
  have ht:=arr_of ht
  subst hx;subst ht
  obtain ⟨v,hv,h⟩:=opd_run I h
  obtain ⟨u,hu,h⟩:=opd_run I h
  split at h
  case h_2=>exact (Rn_fail.1 h).elim
  rename_i e hty
  rw [Rn_bif] at h
  rcases h with ⟨_,h⟩ | ⟨hm,h⟩
  · exact (Rn_fail.1 h).elim
  obtain ⟨c,hc1,hc2⟩:=SW_cells hu (fun b e=>by subst e;simp only [res] at h;exact (Rn_fail.1 h).elim)
  obtain ⟨l2,r1,h,r3⟩:=res_run O I.toInvM 2 (.sl e) u false h hc2
  obtain ⟨xv,hxv⟩:=List.length_eq_one_iff.1 (RX_len _ _ _ _ _ _ r1)
  subst hxv
  have hax:a.eval s=xv:=by rw [hc1,r3 rfl];rfl
  obtain ⟨news,j1,j2⟩:=els_RX hm r1
  have fin:∀ (t0 g h0:Nat) (l:List (den e)) (lo m:Int),st (rk t0)=.root g h0 e l->0<=lo->0<=m->lo + m<=(l.length:Int)->VwAt (G.hd (rk t0)) e lo m (a.eval d) →
      Rn (wr cf dst (.val (.int .i64) ((min l2.length m.toNat:Nat):Int)) [(rk t0,.root g (h0 + 1) e (copyL l l2 lo.toNat m.toNat))]) st us →
      Oper.wp C.P ⟨dst,.call ⟨.builtin .copy,[d,s].toArray,[t,tx].toArray⟩,type,pos,after,guard⟩ a w next Q:=fun t0 g h0 l lo m hr q0 q1 q2 q3 h=>by
    obtain ⟨w',G',hrun,I'⟩:=copy_core O I hm (ts':=tx) (ty:=type) hr hty q0 q1 q2 q3 j1 j2
    rw [<-hax] at hrun
    refine wp_value (v:=.int .i64 ((min l2.length m.toNat:Nat):Int)) (w':=w') ?_ (hn _ _ G' (wr_sound O h I' (fun p hp i e=>by
      simp only [List.mem_singleton] at hp
      subst hp
      exact sk_ne_rk _ _ e.symm) (SW_val (c:=[_]) rfl)))
    simp only [execOp,resolve,invoke,builtin,Sem.run_bind,Sem.run_pure,Result.andThen_ok,List.map_toArray,List.map_cons,List.map_nil]
    rw [hrun];rfl
  unfold copyM at h
  split at h
  · rename_i t0 g e0 _ _
    rw [Rn_get] at h
    split at h
    case h_2=>exact (Rn_fail.1 h).elim
    rename_i g' h0 e' l hr
    split at h
    case isFalse=>exact (Rn_fail.1 h).elim
    rename_i ee;subst ee
    rw [Rn_chk] at h
    obtain ⟨hg,h⟩:=h
    have hg:=Nat.eq_of_beq_eq_true hg
    subst hg
    obtain ⟨c',e1,z,rfl,_,_,hz⟩:=hv
    obtain ⟨rfl,_⟩:=hz _ _ _ hr
    have e1:a.eval d=G.hd (rk t0):=e1
    exact fin t0 g h0 l 0 (l.length:Int) hr (Int.le_refl _) (by omega) (by omega) (by rw [e1];exact ref_vw (I.rt _ _ _ _ _ hr)) h
  · rename_i t0 g lo m e0 _ _
    rw [Rn_get] at h
    split at h
    case h_2=>exact (Rn_fail.1 h).elim
    rename_i g' h0 e' l hr
    split at h
    case isFalse=>exact (Rn_fail.1 h).elim
    rename_i ee;subst ee
    rw [Rn_chk] at h
    obtain ⟨hg,h⟩:=h
    have hg:=Nat.eq_of_beq_eq_true hg
    subst hg
    obtain ⟨c',e1,z,rfl,_,_,hz⟩:=hv
    obtain ⟨e9,k1,k2,k3,k4⟩:=hz _ _ _ hr
    have e1:a.eval d=z:=e1
    rw [<-e9] at k4
    exact fin t0 g h0 l lo m hr k1 k2 k3 (by rw [e1];exact k4) h
  · exact (Rn_fail.1 h).elim
end
end Go.Proofs.YtefmjjpdflpnaaaGreat.E
