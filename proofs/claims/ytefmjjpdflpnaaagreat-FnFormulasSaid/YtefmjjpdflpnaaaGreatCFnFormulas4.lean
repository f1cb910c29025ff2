/-
  The evaluator's operations are sound: append, also to a list inside an element. Conditions: those of each theorem.
-/
import Derived.Test.YtefmjjpdflpnaaaGreatCFnFormulas3
namespace Go.Proofs.YtefmjjpdflpnaaaGreat.E
open Go Go.RowKit
set_option linter.unusedVariables false
set_option linter.unusedSimpArgs false
section
variable {C:Cx} {cf:Cfg} {dst:Option Tmp} {type:TypeId} {pos:String} {after:Array Edge} {guard:Option (Nat × Bool)} {st:St} {a:Act} {w w':World} {G:Gh} {α:Type} {us:U}
theorem flat_bi {k j:Nat} {bi:List Nat} (h:(List.replicate k ([]:List Nat))[j]?=some bi):bi=[]:=by
  rw [List.getElem?_replicate] at h
  split at h
  · cases h;rfl
  · cases h
/-- What an append does to memory, for elements that lead nowhere. -/
theorem app_flat (O:CfgOk C cf) {t:TypeId} {e:Ty} (hty:cf.ty t=some (.sl e)) (hm:e.mem=false) (hw:e.ownable=true) (hze:(zeroSV e).isSome=true) {ty:TypeId} {s x:Value} {l m:List (den e)} {bs:List Nat}
    (hs:TC (.sl e) w [s] l bs) {news:List Value} {nss:List (List Nat)} (hx:Src w x m.length news) (he:Els e w news m nss) (hlim:l.length + m.length<=lim) :
    ∃ v w' bv,(Builtin.append_ #[t,t] ty #[s,x]).run C.P w=.ok v w'/\(w'.os=w.os/\w'.tape=w.tape/\w'.output=w.output/\w.heap.size<=w'.heap.size)/\(∀ b,b < w.heap.size->(¬ ∃ o n c,s=.slice (some ⟨b,o,none⟩) n c)->w'.heap[b]?=w.heap[b]?) ∧
      TC (.sl e) w' [s] l bs/\TC (.sl e) w' [v] (l ++ m) bv/\bv.Nodup ∧
      (((∀ b,b < w.heap.size->w'.heap[b]?=w.heap[b]?)/\∀ b ∈ bv,w.heap.size<=b/\b < w'.heap.size)\/(∀ b ∈ bv,∃ o n c,s=.slice (some ⟨b,o,none⟩) n c)):=by
  have ho:=O.ty _ _ hty
  obtain ⟨ud,hud,hu'⟩:=ho.und
  cases ud <;> simp only [UnOk] at hu'
  rename_i et
  have hoe:=TyOk.el O.ty hu'
  obtain ⟨i,hi,hsz,hby,hb0,hzz⟩:=hoe.info
  have hlim':l.length + m.length<=1099511627776:=hlim
  have hbytes:(l.length + m.length) * i.bytes<=140737488355328:=Nat.le_trans (Nat.mul_le_mul hlim' hby) (by decide)
  have hslt:=TC_lt _ hs
  -- a new row
  have grown:∀ (z:Value) (cap:Nat) (olds:List Value) (oss:List (List Nat)),Els e w olds l oss->l.length + m.length<=cap->z.cells.size=e.sz->(run:(Builtin.append_ #[t,t] ty #[s,x]).run C.P w=.ok (.slice (some ⟨w.heap.size,0,none⟩) (l.length + m.length) cap) (w.drew.alloc (.cells (olds.toArray ++ news.toArray ++ Builtin.zeroCells z.cells (cap - (l.length + m.length))) et))) →
      ∃ v w' bv,(Builtin.append_ #[t,t] ty #[s,x]).run C.P w=.ok v w'/\(w'.os=w.os/\w'.tape=w.tape/\w'.output=w.output/\w.heap.size<=w'.heap.size)/\(∀ b,b < w.heap.size->(¬ ∃ o n c,s=.slice (some ⟨b,o,none⟩) n c)->w'.heap[b]?=w.heap[b]?) ∧
        TC (.sl e) w' [s] l bs/\TC (.sl e) w' [v] (l ++ m) bv/\bv.Nodup ∧
        (((∀ b,b < w.heap.size->w'.heap[b]?=w.heap[b]?)/\∀ b ∈ bv,w.heap.size<=b/\b < w'.heap.size)\/(∀ b ∈ bv,∃ o n c,s=.slice (some ⟨b,o,none⟩) n c)):=by
    intro z cap olds oss hE hcap hzs run
    have hEA:=hE.app he
    have hmul:(l.length + m.length) * e.sz + (cap - (l.length + m.length)) * e.sz=cap * e.sz:=by rw [<-Nat.add_mul];congr 1;omega
    have hgets:∀ b,b < w.heap.size->(w.drew.alloc (.cells (olds.toArray ++ news.toArray ++ Builtin.zeroCells z.cells (cap - (l.length + m.length))) et)).heap[b]?=w.heap[b]?:=fun b hb=>by
      rw [alloc_get,if_neg (by show b ≠ w.heap.size;omega)];rfl
    refine ⟨_,_,[w.heap.size],run,⟨rfl,rfl,rfl,by rw [alloc_size];exact Nat.le_succ _⟩,fun b hb _=>hgets b hb,TC_congr _ (fun b hb=>hgets b (hslt b hb)) hs,
      .inr ⟨w.heap.size,0,_,cap,_,et,List.replicate (l.length + m.length) [],rfl,by simp,(List.length_append).symm,by rw [alloc_get];exact if_pos rfl,hcap,?_,by simp,fun j y bi hy hbi=>?_⟩,by simp,.inl ⟨hgets,fun b hb=>?_⟩⟩
    · have:=hE.1;have:=he.1
      simp only [Array.size_append,List.size_toArray,size_zeroCells,hzs,Nat.zero_add]
      rw [<-hmul,Nat.add_mul];omega
    · rw [flat_bi hbi]
      have hj:j < (l ++ m).length:=(List.getElem?_eq_some_iff.1 hy).1
      have h2:(j + 1) * e.sz<=(l ++ m).length * e.sz:=Nat.mul_le_mul_right _ hj
      rw [Nat.succ_mul,<-hEA.1] at h2
      have e1:seg (olds.toArray ++ news.toArray ++ Builtin.zeroCells z.cells (cap - (l.length + m.length))).toList (0 + j * e.sz) e.sz=seg (olds ++ news) (j * e.sz) e.sz:=by
        rw [Nat.zero_add]
        simp only [Array.toList_append]
        apply List.ext_getElem?
        intro k
        rw [seg_get,seg_get]
        by_cases hk:k < e.sz
        · rw [if_pos hk,if_pos hk,List.getElem?_append,if_pos (by omega)]
        · rw [if_neg hk,if_neg hk]
      rw [e1]
      have hjb:j < (oss ++ nss).length:=by rw [hEA.2.1];exact hj
      exact TC_flat C.P hm (hEA.2.2 j y _ hy (List.getElem?_eq_getElem hjb))
    · simp only [List.mem_singleton] at hb;subst hb
      exact ⟨Nat.le_refl _,by rw [alloc_size];exact Nat.lt_succ_self _⟩
  by_cases hnew:(∃ ad c,s=.slice (some ad) l.length c/\l.length + m.length<=c)\/(∃ c,s=.slice none 0 c/\m.length=0)
  · -- in place
    rcases hs with ⟨k1,k2,k3⟩ | ⟨b,o,n,c,arr,bt,bss,k1,k2,k3,k4,k5,k6,k7,k8⟩
    · have k1:s=.slice none 0 0:=by simpa using k1
      have k2:l=[]:=k2
      subst k2
      have hm0:m.length=0:=by
        rcases hnew with ⟨ad,c,h1,_⟩ | ⟨c,_,h2⟩
        · rw [k1] at h1;cases h1
        · exact h2
      have hm0':m=[]:=List.length_eq_zero_iff.1 hm0
      subst hm0'
      have hnl:news=[]:=List.length_eq_zero_iff.1 (by rw [he.1];simp)
      subst hnl
      subst k1
      refine ⟨.slice none 0 0,w,[],?_,⟨rfl,rfl,rfl,Nat.le_refl _⟩,fun _ _ _=>rfl,.inl ⟨rfl,rfl,k3⟩,.inl ⟨rfl,rfl,rfl⟩,List.nodup_nil,.inr fun b hb=>by cases hb⟩
      rcases hx with ⟨ad,c',rfl,hc⟩ | ⟨c',rfl,_,_⟩
      · have hf:=run_firstCells_some (P:=C.P) w i.size 0 ad 0 c' [] (by simp) hc
        simp [Builtin.append_,run_underlying hud,sizeOf,typeInfo,hi,Builtin.lenOf,hf]
      · have hf:=run_firstCells_none (P:=C.P) w i.size 0 0 c'
        simp [Builtin.append_,run_underlying hud,sizeOf,typeInfo,hi,Builtin.lenOf,hf]
    · have k1:s=.slice (some ⟨b,o,none⟩) n c:=by simpa using k1
      have k3:n=l.length:=k3
      subst k3
      have hcap:l.length + m.length<=c:=by
        rcases hnew with ⟨ad,c,h1,h2⟩ | ⟨c,h1,_⟩
        · rw [k1] at h1;simp only [Value.slice.injEq] at h1;rw [h1.2.2];exact h2
        · rw [k1] at h1;cases h1
      subst k1
      have hcm:(l.length + m.length) * e.sz<=c * e.sz:=Nat.mul_le_mul_right _ hcap
      rw [Nat.add_mul] at hcm
      have hnl:news.length=m.length * e.sz:=he.1
      have hrun:=run_append_in (P:=C.P) (w:=w) (ty:=ty) hud hi (o:=o) (c:=c) k4 (x:=x) (m:=m.length) (news:=news) (by rw [hnl,hsz]) hx he.one hcap (by rw [hsz];omega)
      rw [hsz] at hrun
      have hfit:o + l.length * e.sz + news.length<=arr.toList.length:=by rw [show arr.toList.length=arr.size from Array.length_toList];omega
      have hget:∀ k,k ≠ b->(w.setRow b (setSeg arr.toList (o + l.length * e.sz) news).toArray).heap[k]?=w.heap[k]?:=fun k hk=>by
        rw [setRow_get k4,if_neg hk]
      have hsz':(w.setRow b (setSeg arr.toList (o + l.length * e.sz) news).toArray).heap.size=w.heap.size:=setRow_sz _ _ _
      have hold:∀ (j:Nat) (y:den e),l[j]?=some y->TC e (w.setRow b (setSeg arr.toList (o + l.length * e.sz) news).toArray) (seg (setSeg arr.toList (o + l.length * e.sz) news) (o + j * e.sz) e.sz) y []:=fun j y hy=>by
        have hj:j < l.length:=(List.getElem?_eq_some_iff.1 hy).1
        have:(j + 1) * e.sz<=l.length * e.sz:=Nat.mul_le_mul_right _ hj
        rw [Nat.succ_mul] at this
        rw [seg_setSeg_apart hfit (.inl (by omega))]
        have hjb:j < bss.length:=by rw [k7];exact hj
        exact TC_flat C.P hm (k8 j y _ hy (List.getElem?_eq_getElem hjb))
      refine ⟨_,_,[b],hrun,⟨rfl,rfl,rfl,Nat.le_of_eq hsz'.symm⟩,fun k hk hne=>hget k fun e'=>hne ⟨o,l.length,c,by rw [e']⟩,
        .inr ⟨b,o,l.length,c,_,bt,bss,rfl,k2,rfl,by rw [setRow_get k4,if_pos rfl],k5,?_,k7,fun j y bi hy hbi=>?_⟩,
        .inr ⟨b,o,_,c,_,bt,List.replicate (l.length + m.length) [],rfl,by simp,(List.length_append).symm,by rw [setRow_get k4,if_pos rfl],hcap,?_,by simp,fun j y bi hy hbi=>?_⟩,by simp,.inr fun k hk=>?_⟩
      · rw [List.size_toArray,setSeg_len hfit,Array.length_toList];exact k6
      · have hbn:=TC_nil e hm (k8 j y bi hy hbi)
        rw [hbn];exact hold j y hy
      · rw [List.size_toArray,setSeg_len hfit,Array.length_toList];exact k6
      · rw [flat_bi hbi]
        by_cases hj:j < l.length
        · rw [List.getElem?_append_left hj] at hy
          exact hold j y hy
        · rw [List.getElem?_append_right (by omega)] at hy
          have hj2:j - l.length < m.length:=(List.getElem?_eq_some_iff.1 hy).1
          have:(j - l.length + 1) * e.sz<=m.length * e.sz:=Nat.mul_le_mul_right _ hj2
          rw [Nat.succ_mul] at this
          have e1:seg (setSeg arr.toList (o + l.length * e.sz) news) (o + j * e.sz) e.sz=seg news ((j - l.length) * e.sz) e.sz:=by
            have h9:o + j * e.sz=(o + l.length * e.sz) + (j - l.length) * e.sz:=by
              rw [Nat.add_assoc,<-Nat.add_mul];congr 2;omega
            rw [h9,<-seg_seg _ (show (j - l.length) * e.sz + e.sz<=news.length by omega),seg_setSeg_same hfit]
          show TC e _ (seg (setSeg arr.toList (o + l.length * e.sz) news) (o + j * e.sz) e.sz) y []
          rw [e1]
          have hjb:j - l.length < nss.length:=by rw [he.2.1];exact hj2
          exact TC_flat C.P hm (he.2.2 _ y _ hy (List.getElem?_eq_getElem hjb))
      · simp only [List.mem_singleton] at hk;subst hk;exact ⟨o,l.length,c,rfl⟩
  · -- a new row
    have hzero:∃ z,i.zero=some z/\z.cells.size=e.sz:=by
      obtain ⟨z,hz⟩:=Option.isSome_iff_exists.1 hze
      obtain ⟨i',hi',_,_,_,hzv,hzc⟩:=zero_val hoe (zok_of hz) (by simp [hw])
      rw [hi] at hi';cases hi'
      exact ⟨_,hzv,by rw [hzc,List.size_toArray];exact TC_len e w (zc e) (dflt e) [] (TC_zero e hz hw)⟩
    obtain ⟨z,hz,hzs⟩:=hzero
    have hs0:=hs
    rcases hs with ⟨k1,k2,k3⟩ | ⟨b,o,n,c,arr,bt,bss,k1,k2,k3,k4,k5,k6,k7,k8⟩
    · have k1:s=.slice none 0 0:=by simpa using k1
      have k2:l=[]:=k2
      subst k2;subst k1
      have hm0:0 < m.length:=by
        rcases Nat.eq_zero_or_pos m.length with h | h
        · exact absurd (.inr ⟨0,rfl,h⟩) hnew
        · exact h
      rcases hx with ⟨ad,c',rfl,hc⟩ | ⟨c',_,h0,_⟩
      · have hrun:=run_append_nil (P:=C.P) w t ty et i z hud hi hz ad m.length c' news (by rw [he.1,hsz]) hc hm0 (by omega) (by simp only [List.length_nil,Nat.zero_add] at hbytes;omega)
        refine grown z (grownCap w m.length 0 et) [] [] ⟨by simp,rfl,fun i y bi hi=>(by cases hi)⟩ ?_ hzs ?_
        · simpa using grownCap_ge w m.length 0 et
        · simpa using hrun
      · omega
    · have k1:s=.slice (some ⟨b,o,none⟩) n c:=by simpa using k1
      have k3:n=l.length:=k3
      subst k3;subst k1
      have hg:c < l.length + m.length:=by
        rcases Nat.lt_or_ge c (l.length + m.length) with h | h
        · exact h
        · exact absurd (.inl ⟨_,c,rfl,h⟩) hnew
      rcases hx with ⟨ad,c',rfl,hc⟩ | ⟨c',_,h0,_⟩
      · have hle:l.length * e.sz<=c * e.sz:=Nat.mul_le_mul_right _ k5
        have hol:(seg arr.toList o (l.length * e.sz)).length=l.length * e.sz:=seg_len (by rw [show arr.toList.length=arr.size from Array.length_toList];omega)
        have hrun:=run_append_grow (P:=C.P) w t ty et i z hud hi hz ⟨b,o,none⟩ l.length c (seg arr.toList o (l.length * e.sz)) (by rw [hol,hsz]) (fun j u hj=>src_seg k4 j u hj) ad m.length c' news (by rw [he.1,hsz]) hc hg (by omega) (growslice_fits hg hbytes)
        refine grown z _ _ bss ⟨hol,k7,fun i y bi hy hbi=>?_⟩ (grownCap_ge w _ c et) hzs hrun
        have hi:i < l.length:=(List.getElem?_eq_some_iff.1 hy).1
        have:(i + 1) * e.sz<=l.length * e.sz:=Nat.mul_le_mul_right _ hi
        rw [Nat.succ_mul] at this
        rw [seg_seg _ (by omega)];exact k8 i y bi hy hbi
      · omega
/-- The block of a list inside an element is not the root's own. -/
theorem hdr_ne (I:InvM C st w G) {t g h:Nat} {e' e:Ty} {l:List (den e')} (hr:st (rk t)=.root g h e' l) {i:Int} (i0:0<=i) (i1:i < (l.length:Int)) {fs:List Nat} {y:List (den e)} (hg:getP fs e' (l.getD i.toNat (dflt e'))=⟨.sl e,y⟩) {s:Value}
    (hH:HdrAt w (G.hd (rk t)) e' i fs s) {b o n c b' o' n' c':Nat} (hsb:s=.slice (some ⟨b,o,none⟩) n c) (hd:G.hd (rk t)=.slice (some ⟨b',o',none⟩) n' c'):b' ≠ b:=by
  have hi:i.toNat < l.length:=by omega
  have hown:=root_own (G:=G) ⟨g,h,e',l,hr⟩
  obtain ⟨bb,oo,k,cc,arr,ty,fz,e1',e2',e3'⟩:=hH
  obtain ⟨b2',o2',c2',arr',ty',b1,b2,b3,k1,k2,k3,k4,k5,k6,k7⟩:=TC_lensR (I.rt _ _ _ _ _ hr) hi
  rw [hd] at k1 e1'
  simp only [Value.slice.injEq,Option.some.injEq,Addr.mk.injEq] at e1' k1
  obtain ⟨⟨rfl,rfl,_⟩,rfl,rfl⟩:=k1
  obtain ⟨⟨rfl,rfl,_⟩,_,_⟩:=e1'
  rw [k2] at e2';simp only [Option.some.injEq,Obj.cells.injEq] at e2'
  obtain ⟨rfl,rfl,_⟩:=e2'
  obtain ⟨hty,d1,d2,d3,rfl,m1,m2⟩:=lensP k6 hg
  have hle:=offP_le fs e'
  rw [hty] at hle
  have hle:offP fs e' + 1<=e'.sz:=hle
  have hsl:(Ty.sl e).sz=1:=rfl
  have hcell:seg (seg arr'.toList (o' + i.toNat * e'.sz) e'.sz) (offP fs e') 1=[s]:=by
    rw [seg_seg _ hle];exact seg_one (by simpa using e3')
  rw [hsl,hcell] at m1
  have hbd:=hd_mem m1 hsb
  have hbnd:(b' :: (b1 ++ (d1 ++ d2 ++ d3) ++ b3)).Nodup:=by rw [<-k5,<-hown];exact I.nd _
  simp only [List.nodup_cons,List.mem_append,not_or] at hbnd
  intro e
  rw [e] at hbnd
  exact hbnd.1.1.2.1.2 hbd
theorem setF_getF:∀ (f:Ty) (x:den f) (n:Nat),setF f x n (getF f x n)=x
  | .pair _ _,x,0=>rfl
  | .pair _ b,x,n + 1=>by
    show (x.1,setF b x.2 n (getF b x.2 n))=x
    rw [setF_getF b x.2 n]
  | .int _,_,_=>rfl | .bool,_,_=>rfl | .str,_,_=>rfl | .unit,_,_=>rfl | .st _,_,_=>rfl | .tup _,_,_=>rfl | .sl _,_,_=>rfl | .arr _ _,_,_=>rfl
  | .ptr _,_,_=>rfl | .fn _ _,_,_=>rfl
  | .frm,.mk _ _,0=>rfl
  | .frm,.mk _ _,1=>rfl
  | .frm,_,_ + 2=>rfl
theorem setP_getP:∀ (fs:List Nat) (T:Ty) (x:den T) {T2:Ty} {y:den T2},getP fs T x=⟨T2,y⟩->setP fs T x ⟨T2,y⟩=x
  | [],T,x,T2,y,h=>by
    have h:(⟨T,x⟩:Sg)=⟨T2,y⟩:=h
    cases h
    unfold setP
    exact dif_pos rfl
  | n :: r,.st f,x,T2,y,h=>by
    show setF f x n (setP r (fld f n) (getF f x n) ⟨T2,y⟩)=x
    rw [setP_getP r (fld f n) (getF f x n) h,setF_getF]
  | _ :: _,.int _,_,_,_,_=>rfl | _ :: _,.bool,_,_,_,_=>rfl | _ :: _,.str,_,_,_,_=>rfl | _ :: _,.unit,_,_,_,_=>rfl | _ :: _,.pair _ _,_,_,_,_=>rfl | _ :: _,.tup _,_,_,_,_=>rfl
  | _ :: _,.sl _,_,_,_,_=>rfl | _ :: _,.arr _ _,_,_,_,_=>rfl | _ :: _,.ptr _,_,_,_,_=>rfl | _ :: _,.fn _ _,_,_,_,_=>rfl | _ :: _,.frm,_,_,_,_=>rfl
/-- A root stands when the list inside an element has got room behind it filled. -/
theorem root_keep (I:InvM C st w G) {t g h:Nat} {e' e:Ty} {l:List (den e')} (hr:st (rk t)=.root g h e' l) {i:Int} (i0:0<=i) (i1:i < (l.length:Int)) {fs:List Nat} {y:List (den e)} (hg:getP fs e' (l.getD i.toNat (dflt e'))=⟨.sl e,y⟩) {s:Value}
    (hH:HdrAt w (G.hd (rk t)) e' i fs s):(∃ bs,TC (.sl e) w [s] y bs)/\(∀ b o n c,s=.slice (some ⟨b,o,none⟩) n c->b ∈ G.bl (rk t)) ∧
      ∀ {w':World},(∀ b,b < w.heap.size->(¬ ∃ o n c,s=.slice (some ⟨b,o,none⟩) n c)->w'.heap[b]?=w.heap[b]?)->(∀ bs,TC (.sl e) w [s] y bs->TC (.sl e) w' [s] y bs)->TC (.sl e') w' [G.hd (rk t)] l (G.bl (rk t)):=by
  have hi:i.toNat < l.length:=by omega
  have hown:=root_own (G:=G) ⟨g,h,e',l,hr⟩
  have hlt:∀ b ∈ G.bl (rk t),b < w.heap.size:=fun b hb=>(I.lt (rk t) b (by rw [hown];exact hb)).1
  obtain ⟨bb,oo,k,cc,arr,ty,fz,e1',e2',e3'⟩:=hH
  obtain ⟨b',o',c',arr',ty',b1,b2,b3,k1,k2,k3,k4,k5,k6,k7⟩:=TC_lensR (I.rt _ _ _ _ _ hr) hi
  rw [k1] at e1'
  simp only [Value.slice.injEq,Option.some.injEq,Addr.mk.injEq] at e1'
  obtain ⟨⟨rfl,rfl,_⟩,_,_⟩:=e1'
  rw [k2] at e2';simp only [Option.some.injEq,Obj.cells.injEq] at e2'
  obtain ⟨rfl,rfl,_⟩:=e2'
  obtain ⟨hty,d1,d2,d3,rfl,m1,m2⟩:=lensP k6 hg
  have hle:=offP_le fs e'
  rw [hty] at hle
  have hle:offP fs e' + 1<=e'.sz:=hle
  have hsl:(Ty.sl e).sz=1:=rfl
  have hm:(i.toNat + 1) * e'.sz<=c' * e'.sz:=Nat.mul_le_mul_right _ (by omega)
  rw [Nat.succ_mul] at hm
  have hAL:arr'.toList.length=arr'.size:=Array.length_toList
  have hcell:seg (seg arr'.toList (o' + i.toNat * e'.sz) e'.sz) (offP fs e') 1=[s]:=by
    rw [seg_seg _ hle];exact seg_one (by simpa using e3')
  rw [hsl,hcell] at m1
  have hbnd:(b' :: (b1 ++ (d1 ++ d2 ++ d3) ++ b3)).Nodup:=by rw [<-k5,<-hown];exact I.nd _
  have hN:=hbnd
  simp only [List.nodup_cons,List.mem_append,not_or] at hN
  refine ⟨⟨d2,m1⟩,fun b o n c hs=>by rw [k5];simp [hd_mem m1 hs],fun {w'} hfr hkeep=>?_⟩
  have hkp:∀ z,z=b'\/z ∈ b1\/z ∈ d1\/z ∈ d3\/z ∈ b3->w'.heap[z]?=w.heap[z]?:=fun z hz=>by
    refine hfr z (hlt z (by rw [k5];simp only [List.mem_cons,List.mem_append];rcases hz with hz | hz | hz | hz | hz <;> simp [hz])) fun ⟨o,n,c,hs⟩=>?_
    have hd:=hd_mem m1 hs
    rcases hz with rfl | hz | hz | hz | hz
    · exact hN.1.1.2.1.2 hd
    · have:=(List.nodup_append.1 (List.nodup_append.1 hN.2).1).2.2 z hz z (by simp [hd]);exact this rfl
    · have:=(List.nodup_append.1 (List.nodup_append.1 (List.nodup_append.1 (List.nodup_append.1 hN.2).1).2.1).1).2.2 z hz z hd;exact this rfl
    · have:=(List.nodup_append.1 (List.nodup_append.1 (List.nodup_append.1 hN.2).1).2.1).2.2 z (by simp [hd]) z hz;exact this rfl
    · have:=(List.nodup_append.1 hN.2).2.2 z (by simp [hd]) z hz;exact this rfl
  have hel:=m2 w' [s] y d2 (fun z hz=>hkp z (by simp only [List.mem_append] at hz;rcases hz with hz | hz <;> simp [hz])) (hkeep d2 m1)
  rw [<-hcell,setSeg_same (by rw [seg_len (by omega)];exact hle),setP_getP fs e' _ hg] at hel
  have hroot:=k7 w' arr' _ _ _ (fun hx=>by
    simp only [List.mem_append] at hx
    rcases hx with hx | hx
    · exact hN.1.1.1 hx
    · exact hN.1.2 hx) (by rw [hkp b' (.inl rfl)];exact k2) (by rw [setSeg_same (by omega)]) (fun z hz=>hkp z (by simp only [List.mem_append] at hz;rcases hz with hz | hz <;> simp [hz])) hel
  rw [k5]
  have hset:l.set i.toNat (l.getD i.toNat (dflt e'))=l:=by
    rw [List.getD_eq_getElem?_getD,List.getElem?_eq_getElem hi]
    simp
  rw [hset] at hroot
  exact hroot
theorem sap_step (I:Inv C st a w G) {t g h:Nat} {e' e:Ty} {l:List (den e')} (hr:st (rk t)=.root g h e' l) {i:Int} {fs:List Nat} {y ym:List (den e)} (hg:getP fs e' (l.getD i.toNat (dflt e'))=⟨.sl e,y⟩) {s v:Value}
    (i0:0<=i) (i1:i < (l.length:Int)) (hH:HdrAt w (G.hd (rk t)) e' i fs s) (hbt:∀ b o n c,s=.slice (some ⟨b,o,none⟩) n c->b ∈ G.bl (rk t)) (hos:w'.os=w.os) (hta:w'.tape=w.tape) (hou:w'.output=w.output) (hsz:w.heap.size<=w'.heap.size)
    (hfr:∀ b,b < w.heap.size->(¬ ∃ o n c,s=.slice (some ⟨b,o,none⟩) n c)->w'.heap[b]?=w.heap[b]?) (hroot:TC (.sl e') w' [G.hd (rk t)] l (G.bl (rk t))) (hown:ownB st G (rk t)=G.bl (rk t)) (hlt:∀ b ∈ G.bl (rk t),b < w.heap.size)
    (hv1:v.oneCell'=true) (hhd:∀ b o n c,G.hd (rk t)=.slice (some ⟨b,o,none⟩) n c->w'.heap[b]?=w.heap[b]?) {bv nb:List Nat} (hTv:TC (.sl e) w' [v] ym bv) (hbn:bv.Nodup) (hnb:∀ b ∈ nb,w.heap.size<=b/\b < w'.heap.size) (hnd:nb.Nodup)
    (hbv:∀ b ∈ bv,b ∈ nb\/∃ o n c,s=.slice (some ⟨b,o,none⟩) n c) {D:Nat} (hD:rk (t + 100000)=D) (hne:rk t ≠ D) (e9:D=rk t + 300000) (hnsk:∀ i,sk i ≠ D) :
    ∃ G',Inv C (upd st D (.own ((st D).gen + 1))) a w' G'/\SW C.P (upd st D (.own ((st D).gen + 1))) G' w' (Fz (upd st D (.own ((st D).gen + 1))) G' w') (.sap t g h i fs e ym ((st D).gen + 1)) v:=by
  have hrt':upd st (D) (.own ((st (D)).gen + 1)) (rk t)=.root g h e' l:=by rw [upd_ne _ _ hne];exact hr
  let G1:Gh:={ G with bl:=fun k=>if k=D then nb else G.bl k }
  have hb:G1.bl (D)=nb:=if_pos rfl
  have hbt1:G1.bl (rk t)=G.bl (rk t):=if_neg hne
  have ho:ownB (upd st (D) (.own ((st (D)).gen + 1))) G1 (D)=nb:=by unfold ownB;rw [upd_same];exact hb
  have ho2:ownB (upd st (D) (.own ((st (D)).gen + 1))) G1 (rk t)=G.bl (rk t):=by unfold ownB;rw [hrt'];exact hbt1
  have h0:Step0 st G w (upd st (D) (.own ((st (D)).gen + 1))) G1 w' [D,rk t] (fun b=>∃ o n c,s=.slice (some ⟨b,o,none⟩) n c):={
    s0:=rfl
    os:=hos,tape:=hta,output:=hou,size:=hsz,block:=hfr
    own:=fun b ⟨o,n,c,e⟩=>⟨rk t,by simp,by rw [hown];exact hbt b o n c e⟩
    out:=fun k hk=>by
      simp only [List.mem_cons,List.mem_nil_iff,or_false,not_or] at hk
      exact ⟨upd_ne _ _ hk.1,rfl,if_neg hk.1,rfl⟩
    nosk:=fun i hi=>by
      simp only [List.mem_cons,List.mem_nil_iff,or_false] at hi
      rcases hi with hi | hi
      · exact hnsk _ hi
      · exact sk_ne_rk _ _ hi
    ks:=fun k hk=>by
      simp only [List.mem_cons,List.mem_nil_iff,or_false] at hk
      rcases hk with rfl | rfl
      · refine ⟨by rw [upd_same];exact Nat.le_succ _,fun g h e l hr hg=>?_,fun g T c hr hg=>?_,fun g hr hg=>?_⟩
        · rw [upd_same] at hr;cases hr
        · rw [upd_same] at hr;cases hr
        · rw [upd_same] at hr;cases hr;omega
      · refine ⟨by rw [hrt',hr];exact Nat.le_refl _,fun g2 h2 e2 l2 hr2 hg2=>?_,fun g T c hr2 hg=>?_,fun g hr2 hg=>?_⟩
        · rw [hrt'] at hr2;cases hr2
          refine ⟨h,l,hr,rfl,rfl,Nat.le_refl _,fun _=>⟨rfl,fun ga h1 h2=>?_,hhd⟩⟩
          rw [<-e9] at h1 h2
          rw [upd_same] at h1;cases h1;omega
        · rw [hrt'] at hr2;cases hr2
        · rw [hrt'] at hr2;cases hr2
    sub:=fun k hk b hb=>by
      simp only [List.mem_cons,List.mem_nil_iff,or_false] at hk
      rcases hk with rfl | rfl
      · rw [ho] at hb;exact .inr (hnb b hb).1
      · rw [ho2] at hb;exact .inl ⟨rk t,by simp,by rw [hown];exact hb⟩
    lt:=fun k hk b hb=>by
      simp only [List.mem_cons,List.mem_nil_iff,or_false] at hk
      rcases hk with rfl | rfl
      · rw [ho] at hb;exact (hnb b hb).2
      · rw [ho2] at hb;exact Nat.lt_of_lt_of_le (hlt b hb) hsz
    nd:=fun k hk=>by
      simp only [List.mem_cons,List.mem_nil_iff,or_false] at hk
      rcases hk with rfl | rfl
      · rw [ho];exact hnd
      · rw [ho2,<-hown];exact I.nd _
    dj:=fun k hk k' hk' b hb hb'=>by
      simp only [List.mem_cons,List.mem_nil_iff,or_false] at hk hk'
      rcases hk with rfl | rfl <;> rcases hk' with rfl | rfl
      · rfl
      · rw [ho] at hb;rw [ho2] at hb'
        have:=(hnb b hb).1;have:=hlt b hb';omega
      · rw [ho] at hb';rw [ho2] at hb
        have:=(hnb b hb').1;have:=hlt b hb;omega
      · rfl }
  have I1:Inv C (upd st (D) (.own ((st (D)).gen + 1))) a w' G1:=by
    refine Step.inv I { toStep0:=h0,rt:=fun k hk g2 h2 e2 l2 hr2=>?_,bx:=fun k hk g T' v' hr2=>?_ }
    · simp only [List.mem_cons,List.mem_nil_iff,or_false] at hk
      rcases hk with rfl | rfl
      · rw [upd_same] at hr2;cases hr2
      · rw [hrt'] at hr2;cases hr2
        rw [hbt1];exact hroot
    · simp only [List.mem_cons,List.mem_nil_iff,or_false] at hk
      rcases hk with rfl | rfl
      · rw [upd_same] at hr2;cases hr2
      · rw [hrt'] at hr2;cases hr2
  refine ⟨G1,I1,[v],rfl,v,rfl,hv1,by rw [hrt'];exact Nat.le_refl _,by rw [hD,upd_same];exact Nat.le_refl _,fun h' e2 l2 hr2=>by rw [hrt'] at hr2;cases hr2;exact Nat.le_refl _,fun e2 l2 hr2 _=>?_⟩
  rw [hrt'] at hr2;cases hr2
  refine ⟨i0,i1,⟨y,hg⟩,bv,hbn,hTv,fun b hb'=>?_⟩
  rcases hbv b hb' with q | ⟨o,n,c,hsb⟩
  · left;rw [hD,hb];exact q
  · right
    refine ⟨by rw [hbt1];exact hbt b o n c hsb,o,n,c,?_⟩
    rw [<-hsb]
    obtain ⟨b',o',n',c',arr,tyy,fz,u1,u2,u3⟩:=hH
    exact ⟨b',o',n',c',arr,tyy,fz,u1,by rw [hhd b' o' n' c' u1];exact u2,u3⟩
theorem sap_core (O:CfgOk C cf) (I:Inv C st a w G) {t g h:Nat} {e' e:Ty} {l:List (den e')} (hr:st (rk t)=.root g h e' l) {i:Int} {fs:List Nat} {y:List (den e)} (hg:getP fs e' (l.getD i.toNat (dflt e'))=⟨.sl e,y⟩) {s:Value}
    (i0:0<=i) (i1:i < (l.length:Int)) (hH:HdrAt w (G.hd (rk t)) e' i fs s) {ti:TypeId} (hty:cf.ty ti=some (.sl e)) (hm:e.mem=false) (hw:e.ownable=true) (hze:(zeroSV e).isSome=true) {ty:TypeId} {x:Value} {m:List (den e)}
    {news:List Value} {nss:List (List Nat)} (hx:Src w x m.length news) (he:Els e w news m nss) (hlim:y.length + m.length<=lim) :
    ∃ v w' G',(Builtin.append_ #[ti,ti] ty #[s,x]).run C.P w=.ok v w'/\Inv C (upds st [(rk (t + 100000),.own ((st (rk (t + 100000))).gen + 1))]) a w' G' ∧
      SW C.P (upds st [(rk (t + 100000),.own ((st (rk (t + 100000))).gen + 1))]) G' w' (Fz (upds st [(rk (t + 100000),.own ((st (rk (t + 100000))).gen + 1))]) G' w') (.sap t g h i fs e (y ++ m) ((st (rk (t + 100000))).gen + 1)) v:=by
  obtain ⟨⟨bs,hT⟩,hbt,hkr⟩:=root_keep I.toInvM hr i0 i1 hg hH
  obtain ⟨v,w',bv,hrun,⟨hos,hta,hou,hsz⟩,hfr,hT',hTv,hbn,hcase⟩:=app_flat O hty hm hw hze (ty:=ty) hT hx he hlim
  have hroot:=hkr (w':=w') hfr fun bs' h'=>by
    obtain ⟨v2,w2,_,hrun2,_,_,hT2,_⟩:=app_flat O hty hm hw hze (ty:=ty) h' hx he hlim
    rw [hrun] at hrun2
    cases hrun2
    exact hT2
  have hown:=root_own (G:=G) ⟨g,h,e',l,hr⟩
  have hlt:∀ b ∈ G.bl (rk t),b < w.heap.size:=fun b hb=>(I.lt (rk t) b (by rw [hown];exact hb)).1
  have hne:rk t ≠ rk (t + 100000):=fun e=>by have:=rk_inj e;omega
  have e9:rk (t + 100000)=rk t + 300000:=by unfold rk;omega
  have hv1:v.oneCell'=true:=TC_one hTv v (by simp)
  have hhd:∀ b o n c,G.hd (rk t)=.slice (some ⟨b,o,none⟩) n c->w'.heap[b]?=w.heap[b]?:=fun b o n c hd=>by
    refine hfr b (hlt b (hd_mem (I.rt _ _ _ _ _ hr) hd)) fun ⟨o3,n3,c3,e3⟩=>?_
    exact hdr_ne I.toInvM hr i0 i1 hg hH e3 hd rfl
  have last:∀ nb:List Nat,(∀ b ∈ nb,w.heap.size<=b/\b < w'.heap.size)->nb.Nodup->(∀ b ∈ bv,b ∈ nb\/∃ o n c,s=.slice (some ⟨b,o,none⟩) n c) →
      ∃ v w' G',(Builtin.append_ #[ti,ti] ty #[s,x]).run C.P w=.ok v w'/\Inv C (upds st [(rk (t + 100000),.own ((st (rk (t + 100000))).gen + 1))]) a w' G' ∧
        SW C.P (upds st [(rk (t + 100000),.own ((st (rk (t + 100000))).gen + 1))]) G' w' (Fz (upds st [(rk (t + 100000),.own ((st (rk (t + 100000))).gen + 1))]) G' w') (.sap t g h i fs e (y ++ m) ((st (rk (t + 100000))).gen + 1)) v:=by
    intro nb hnb hnd hbv
    obtain ⟨G1,I1,hsw⟩:=sap_step I hr hg i0 i1 hH hbt hos hta hou hsz hfr hroot hown hlt hv1 hhd hTv hbn hnb hnd hbv rfl hne e9 (fun i=>sk_ne_rk _ _)
    exact ⟨v,w',G1,hrun,I1,hsw⟩
  rcases hcase with ⟨c1,c2⟩ | c1
  · exact last bv c2 hbn fun b hb=>.inl hb
  · exact last [] (fun b hb=>by cases hb) List.nodup_nil fun b hb=>.inr (c1 b hb)
theorem snd_append (O:CfgOk C cf) {args:Array Operand} {tys:Array TypeId}:Snd C cf ⟨dst,.call ⟨.builtin .append,args,tys⟩,type,pos,after,guard⟩:=by
  intro st a w G us next Q I h hn
  simp only [exec] at h
  split at h
  case h_2=>exact (Rn_fail.1 h).elim
  rename_i s x t tx hx ht
  have hx:=arr_of hx
  have ht:=arr_of ht
  subst hx;subst ht
  obtain ⟨v,hv,h⟩:=opd_run I h
  obtain ⟨u,hu,h⟩:=opd_run I h
  split at h
  case h_2=>exact (Rn_fail.1 h).elim
  rename_i e hty
  rw [Rn_bif] at h
  rcases h with ⟨hb,h⟩ | ⟨_,h⟩
  case inr=>exact (Rn_fail.1 h).elim
  have key:Rn (execAppend cf dst e v u) st us:=h
  clear h
  have htt:t=tx:=Nat.eq_of_beq_eq_true hb
  subst htt
  unfold execAppend at key
  cases dst with
  | none=>exact (Rn_fail.1 key).elim
  | some d =>
    simp only at key
    have fin:∀ (l:List (den e)) (gb:List (Nat × Nat)),(∀ p ∈ gb,RT st p)->TC (.sl e) w [a.eval s] l (blk G gb) →
        Rn ((bif e.mem then mv (.sl e) u else fun f=>res cf 2 (.sl e) u fun l2=>f l2 []) fun l2 r =>
          bif nodupB ((gb ++ r).map (·.1)) && (e.ownable || e.isFr) && !e.isTup && e.zok then .chk (decide (l.length + l2.length<=lim)) (wrOwn cf (some d) (.sl e) (l ++ l2) (gb ++ r)) else .fail) st us →
        Oper.wp C.P ⟨some d,.call ⟨.builtin .append,[s,x].toArray,[t,t].toArray⟩,type,pos,after,guard⟩ a w next Q:=by
      intro l gb hgb hs h
      have last:∀ (m:List (den e)) (r:List (Nat × Nat)) (news:List Value) (nss:List (List Nat)),Src w (a.eval x) m.length news->Els e w news m nss->(∀ b ∈ nss.flatten,b ∈ blk G r)->(((gb ++ r).map (·.1)).Nodup->nss.flatten.Nodup)->(∀ p ∈ r,RT st p) →
          Rn (bif nodupB ((gb ++ r).map (·.1)) && (e.ownable || e.isFr) && !e.isTup && e.zok then .chk (decide (l.length + m.length<=lim)) (wrOwn cf (some d) (.sl e) (l ++ m) (gb ++ r)) else .fail) st us →
          Oper.wp C.P ⟨some d,.call ⟨.builtin .append,[s,x].toArray,[t,t].toArray⟩,type,pos,after,guard⟩ a w next Q:=by
        intro m r news nss k1 k2 k3 k4 k5 h
        rw [Rn_bif] at h
        rcases h with ⟨hb,h⟩ | ⟨_,h⟩
        case inr=>exact (Rn_fail.1 h).elim
        rw [Rn_chk] at h
        simp only [Bool.and_eq_true,Bool.not_eq_true',decide_eq_true_eq] at hb h
        obtain ⟨⟨⟨b1,b2⟩,b3⟩,b4⟩:=hb
        rw [nodupB_iff] at b1
        obtain ⟨v',w',G',hr,I'⟩:=app_sound O I hty b2 b3 (ty:=type) hs k1 k2 k3 (k4 b1) (fun p hp=>(List.mem_append.1 hp).elim (hgb p) (k5 p)) b1 h.1 b4 h.2
        refine wp_value (v:=v') (w':=w') ?_ (hn _ _ _ I')
        simp only [execOp,resolve,invoke,builtin,Sem.run_bind,Sem.run_pure,Result.andThen_ok,List.map_toArray,List.map_cons,List.map_nil]
        rw [hr];rfl
      cases hm:e.mem
      · rw [hm] at h;simp only [cond_false] at h
        obtain ⟨c,hc1,hc2⟩:=SW_cells hu (fun b e=>by subst e;simp only [res] at h;exact (Rn_fail.1 h).elim)
        obtain ⟨m,r1,r2,r3⟩:=res_run O I.toInvM 2 (.sl e) u false h hc2
        obtain ⟨xv,hxv⟩:=List.length_eq_one_iff.1 (RX_len _ _ _ _ _ _ r1)
        subst hxv
        have hax:a.eval x=xv:=by rw [hc1,r3 rfl];rfl
        obtain ⟨news,j1,j2⟩:=els_RX hm r1
        exact last m [] news _ (by rw [hax];exact j1) j2 (fun b hb=>by
          obtain ⟨l',hl',hb⟩:=List.mem_flatten.1 hb
          rw [(List.mem_replicate.1 hl').2] at hb;cases hb) (fun _=>by simp) (fun p hp=>by cases hp) r2
      · rw [hm] at h;simp only [cond_true] at h
        obtain ⟨c,hc1,hc2⟩:=SW_cells hu (fun b e=>by subst e;simp only [mv] at h;exact (Rn_fail.1 h).elim)
        obtain ⟨m,r,r1,r2,r3,r4⟩:=mv_run I.toInvM u (.sl e) false h hc2
        simp only [Bool.false_eq_true,if_false] at r1
        obtain ⟨xv,hxv⟩:=List.length_eq_one_iff.1 (TC_len _ _ _ _ _ r1)
        subst hxv
        have hax:a.eval x=xv:=by rw [hc1,r4 rfl];rfl
        obtain ⟨news,nss,j1,j2,j3,j4⟩:=els_TC r1
        exact last m r news nss (by rw [hax];exact j1) j2 j3 (fun hnd=>j4 (blk_nodup I.toInvM r r3 (by
          rw [List.map_append] at hnd;exact (List.nodup_append.1 hnd).2.1))) r3 r2
    split at key
    · refine fin [] [] (fun p hp=>by cases hp) ?_ key
      obtain ⟨c,hc1,hc2⟩:=hv
      have hc2:c=[.slice none 0 0]:=hc2
      rw [hc1,hc2];exact .inl ⟨rfl,rfl,rfl⟩
    · rename_i t' g e1
      rw [Rn_get] at key
      split at key
      case h_2=>exact (Rn_fail.1 key).elim
      rename_i g' hh e' l hr
      split at key
      case isFalse=>exact (Rn_fail.1 key).elim
      rename_i e2;subst e2
      rw [Rn_chk] at key
      have hg:g=g':=Nat.eq_of_beq_eq_true key.1
      subst hg
      obtain ⟨c,hc1,hc2⟩:=hv
      obtain ⟨xv,rfl,_,_,hx⟩:=hc2
      obtain ⟨rfl,_⟩:=hx _ _ _ hr
      refine fin l [(t',g)] (fun p hp=>by simp only [List.mem_singleton] at hp;subst hp;exact ⟨hh,e',l,hr⟩) ?_ key.2
      rw [hc1]
      simpa [blk,valS] using I.rt _ _ _ _ _ hr
    · rename_i t' g h0 i fs e1
      rw [Rn_get] at key
      split at key
      case h_2=>exact (Rn_fail.1 key).elim
      rename_i g' hh e' l hr
      rw [Rn_chk,Bool.and_eq_true] at key
      obtain ⟨⟨hg,hh1⟩,key⟩:=key
      have hg:=Nat.eq_of_beq_eq_true hg
      have hh1:=Nat.eq_of_beq_eq_true hh1
      subst hg;subst hh1
      obtain ⟨c,hc1,hc2⟩:=hv
      obtain ⟨xv,rfl,_,_,_,hx⟩:=hc2
      have hc1:a.eval s=xv:=hc1
      obtain ⟨i0,i1,⟨y0,hy0⟩,hH⟩:=hx _ _ hr
      rw [hy0] at key
      unfold asTy at key
      split at key
      case isFalse=>exact (Rn_fail.1 key).elim
      rename_i e2
      have e2:Ty.sl e1=Ty.sl e:=e2
      injection e2 with e2;subst e2
      rw [Rn_bif] at key
      rcases key with ⟨hb,key⟩ | ⟨_,key⟩
      case inr=>exact (Rn_fail.1 key).elim
      simp only [Bool.and_eq_true,Bool.not_eq_true'] at hb
      obtain ⟨⟨⟨b1,b2⟩,b3⟩,b4⟩:=hb
      obtain ⟨cu,hu1,hu2⟩:=SW_cells hu (fun b e=>by subst e;simp only [res] at key;exact (Rn_fail.1 key).elim)
      obtain ⟨m,r1,key,r3⟩:=res_run O I.toInvM 2 (.sl e1) u false key hu2
      obtain ⟨uv,huv⟩:=List.length_eq_one_iff.1 (RX_len _ _ _ _ _ _ r1)
      subst huv
      have hax:a.eval x=uv:=by rw [hu1,r3 rfl];rfl
      obtain ⟨news,j1,j2⟩:=els_RX b1 r1
      rw [Rn_chk] at key
      obtain ⟨hlim,key⟩:=key
      rw [Rn_get] at key
      obtain ⟨v',w',G',hrun,I',hsw⟩:=sap_core O I (ty:=type) hr hy0 i0 i1 hH hty b1 b2 b4 j1 j2 (of_decide_eq_true hlim)
      rw [<-hc1,<-hax] at hrun
      refine wp_value (v:=v') (w':=w') ?_ (hn _ _ G' (wr_sound O key I' (fun p hp i e=>by
        simp only [List.mem_singleton] at hp
        subst hp
        exact sk_ne_rk _ _ e.symm) hsw))
      simp only [execOp,resolve,invoke,builtin,Sem.run_bind,Sem.run_pure,Result.andThen_ok,List.map_toArray,List.map_cons,List.map_nil]
      rw [hrun];rfl
    · exact (Rn_fail.1 key).elim
end
end Go.Proofs.YtefmjjpdflpnaaaGreat.E
namespace Go.Proofs.YtefmjjpdflpnaaaGreat.E
open Go Go.RowKit
set_option linter.unusedVariables false
set_option linter.unusedSimpArgs false
section
variable {C:Cx} {cf:Cfg} {dst:Option Tmp} {type:TypeId} {pos:String} {after:Array Edge} {guard:Option (Nat × Bool)} {st:St} {a:Act} {w w':World} {G:Gh} {α:Type} {us:U}
theorem snd_callMut (O:CfgOk C cf) {g:FuncId} {args:Array Operand} {tys:Array TypeId} {sp:FnSpec} (hfn:cf.fn g=some sp) (hmu:sp.mu.any id=true):Snd C cf ⟨dst,.call ⟨.value (.func g),args,tys⟩,type,pos,after,guard⟩:=by
  intro st a w G us next Q I h hn
  simp only [exec,hfn] at h
  obtain ⟨v,hv,h⟩:=opds_run I h
  unfold callM at h
  rw [hmu] at h
  obtain ⟨x,h,hl⟩:=args_lens O I.toInvM sp.pas sp.mu v h hv
  rw [Rn_call] at h
  obtain ⟨y,hy,h⟩:=h
  simp only [cond_true] at h
  have hok:=(O.fn g sp hfn).muts hmu
  obtain ⟨pas,mu,ret,F⟩:=sp
  simp only at h hy hok hl hmu
  cases ret with
  | pair r o =>
    simp only at h
    split at h
    case isFalse=>exact (Rn_fail.1 h).elim
    rename_i e;subst e
    rw [Rn_bif] at h
    rcases h with ⟨_,h⟩ | ⟨hm,h⟩
    · exact (Rn_fail.1 h).elim
    obtain ⟨ts,bs,Uf,h,hAX,L⟩:=hl y.2 _ us h
    rw [Rn_bif] at h
    rcases h with ⟨hnd,h⟩ | ⟨_,h⟩
    case inr=>exact (Rn_fail.1 h).elim
    rw [nodupB_iff] at hnd
    have hAX:=hAX (fun b=>b < w.heap.size/\b ∉ bs) (fun b hb=>⟨hb.1,fun hbs=>by
      obtain ⟨t,ht,hbt⟩:=L.sub b hbs
      exact hb.2.1 (rk t) (by rw [root_own (L.rt t ht)];exact hbt)⟩) (fun b hb=>hb.1)
    have hcf:=hok r rfl w _ x y.1 y.2 bs hAX (L.nd hnd) hy
    unfold Oper.wp
    rw [call_run (g:=g) (fi:=#[]) (ca:=#[]) rfl]
    have e:#[] ++ args.map a.eval ++ #[]=(args.toList.map a.eval).toArray:=by
      rw [<-Array.toList_map]
      show _=args.map a.eval
      rw [Array.append_empty,Array.empty_append]
    rw [e]
    refine hcf _ a next Q fun v' w' hr=>?_
    obtain ⟨bs',o1,o2,o3⟩:=hr.out
    obtain ⟨G',I'⟩:=wbStep I L hnd o1 o2 o3 hr.os hr.tape hr.output hr.size hr.block
    obtain ⟨c,rfl,hc⟩:=hr.val
    refine hn _ _ G' (wr_sound O h I' (fun p hp i e=>?_) (SW_val (RX_nomem (w':=w') hm hc)))
    have:p.1 ∈ (Uf y.2).map (·.1):=List.mem_map.2 ⟨p,hp,rfl⟩
    rw [L.keys] at this
    obtain ⟨t,_,ht⟩:=List.mem_map.1 this
    exact sk_ne_rk i t (by rw [ht,e])
  | _=>exact (Rn_fail.1 h).elim
theorem snd_lookup (O:CfgOk C cf) {t:TypeId} {m x:Operand}:Snd C cf ⟨dst,.lookup t m x false,type,pos,after,guard⟩:=by
  intro st a w G us next Q I h hn
  simp only [exec] at h
  obtain ⟨v,hv,h⟩:=opd_run I h
  split at h
  case h_2=>exact (Rn_fail.1 h).elim
  rename_i t' g
  rw [Rn_bif] at h
  rcases h with ⟨hb,h⟩ | ⟨_,h⟩
  case inr=>exact (Rn_fail.1 h).elim
  obtain ⟨u,hu,h⟩:=opd_run I h
  split at h
  case h_2=>exact (Rn_fail.1 h).elim
  rename_i s
  rw [Rn_chk] at h
  have hx:=SW_str hu
  obtain ⟨c,hm,b,rfl,_,_,hR⟩:=hv
  have hm:a.eval m=.map (some b):=hm
  obtain rfl:=Nat.eq_of_beq_eq_true hb
  exact snd_val O I h.2 (SW_val (T:=.str) (c:=[.string (g s)]) rfl) hn (by
    have e:valS (SV.mp t g) [Value.map (some b)]=.map (some b):=rfl
    simp [execOp,hm,hx,e,hR w rfl s (of_decide_eq_true h.1),valOf,Result.andThen])
/-- Memory has grown; nothing else. -/
theorem Inv.below (I:Inv C st a w G) (h:Below w.heap.size w w'):Inv C st a w' G :=
  Step.inv (K:=[]) (D:=fun _=>False) I
    { os:=h.os,tape:=h.tape,output:=h.output,size:=h.size,block:=fun b hb _=>h.block b hb,own:=fun b hb=>hb.elim,out:=fun k _=>⟨rfl,rfl,rfl,rfl⟩,nosk:=fun i hi=>(by cases hi),s0:=rfl,
      ks:=fun k hk=>(by cases hk),sub:=fun k hk=>(by cases hk),lt:=fun k hk=>(by cases hk),nd:=fun k hk=>(by cases hk),dj:=fun k hk=>(by cases hk),rt:=fun k hk=>(by cases hk),bx:=fun k hk=>(by cases hk) }
theorem snd_callMap (O:CfgOk C cf) {g:FuncId} {args:Array Operand} {tys:Array TypeId} (hfn:cf.fn g=none) (hfs:cf.fs g=none):Snd C cf ⟨dst,.call ⟨.value (.func g),args,tys⟩,type,pos,after,guard⟩:=by
  intro st a w G us next Q I h hn
  simp only [exec,hfn,hfs] at h
  split at h
  case h_2=>exact (Rn_fail.1 h).elim
  rename_i p hp hargs
  unfold Oper.wp
  rw [call_run (g:=g) (fi:=#[]) (ca:=#[]) rfl]
  have e0:args=#[]:=by
    cases args
    simpa using hargs
  have e:#[] ++ args.map a.eval ++ #[]=(#[]:Array Value):=by rw [e0];simp
  rw [e]
  refine O.mp g p hp w _ a next Q fun v' w' hr=>?_
  obtain ⟨hb,b,rfl,h1,h2,h3⟩:=hr
  have I':=I.below hb
  refine hn _ _ _ (wr_sound0 O h I' ⟨[.map (some b)],rfl,b,rfl,⟨h2,fun k hk=>?_,?_⟩,h2,h3⟩)
  · have:=(I.lt k b hk).1;omega
  · exact I.m0 b (.inl (Nat.le_trans I.size h1))
theorem snd_all (O:CfgOk C cf) (o:Oper):Snd C cf o:=by
  obtain ⟨dst,op,type,pos,after,guard⟩:=o
  cases op with
  | move x=>exact snd_move O
  | assign x=>exact snd_assign O
  | nilCheck x=>exact snd_nilCheck O
  | pick c x y=>exact snd_pick O
  | binOp op xt x y yt=>exact snd_binOp O
  | unOp op xt x=>exact snd_unOp O
  | convert s d x=>exact snd_convert O
  | extract x i=>exact snd_extract O
  | field t x i=>exact snd_field O
  | alloc t=>exact snd_alloc O
  | box t x=>exact snd_box O
  | build t ps=>exact snd_build O
  | buildSlice t n ps=>exact snd_buildSlice O
  | makeSlice t l c=>exact snd_makeSlice O
  | load t x=>exact snd_load O
  | store t x y=>exact snd_store O
  | fieldAddr t x n=>exact snd_fieldAddr O
  | indexAddr t x i=>exact snd_indexAddr O
  | index t x i=>exact snd_index O
  | slice t x lo hi m =>
    cases m with
    | none=>exact snd_slice O
    | some m=>intro st a w G us next Q I h hn;exact (Rn_fail.1 (by simpa only [exec] using h)).elim
  | lookup t m x ok =>
    cases ok with
    | false=>exact snd_lookup O
    | true=>intro st a w G us next Q I h hn;exact (Rn_fail.1 (by simpa only [exec] using h)).elim
  | makeFunc f fi ca =>
    cases f with
    | func f=>exact snd_makeFunc O
    | _=>intro st a w G us next Q I h hn;exact (Rn_fail.1 (by simpa only [exec] using h)).elim
  | call c =>
    obtain ⟨cal,args,tys⟩:=c
    cases cal with
    | builtin b =>
      cases b with
      | len=>exact snd_len O
      | append=>exact snd_append O
      | copy=>exact snd_copy O
      | min=>exact snd_min O
      | max=>exact snd_max O
      | _=>intro st a w G us next Q I h hn;exact (Rn_fail.1 (by simpa only [exec] using h)).elim
    | value f =>
      cases f with
      | func g =>
        cases hfn:cf.fn g with
        | none =>
          cases hfs:cf.fs g with
          | none=>exact snd_callMap O hfn hfs
          | some sp=>exact snd_callShape O hfn hfs
        | some sp =>
          cases hmu:sp.mu.any id
          · exact snd_callPlain O hfn hmu
          · exact snd_callMut O hfn hmu
      | tmp t=>exact snd_callValue O
      | _=>intro st a w G us next Q I h hn;exact (Rn_fail.1 (by simpa only [exec] using h)).elim
    | _=>intro st a w G us next Q I h hn;exact (Rn_fail.1 (by simpa only [exec] using h)).elim
  | _=>intro st a w G us next Q I h hn;exact (Rn_fail.1 (by simpa only [exec] using h)).elim
end
end Go.Proofs.YtefmjjpdflpnaaaGreat.E
namespace Go.Proofs.YtefmjjpdflpnaaaGreat.E
open Go Go.RowKit
set_option linter.unusedVariables false
set_option linter.unusedSimpArgs false
theorem go_run {α R:Type} {s:St} {K:List Nat->α->Option R} {r:R}:∀ (m:M α) (rd:List Nat),m.go s rd K=some r->∃ rd' u,m.run s=some (rd',u)/\K (rd'.reverse ++ rd) u=some r
  | .ret a,rd,h=>⟨[],a,rfl,h⟩
  | .get k f,rd,h=>by
    obtain ⟨rd',u,h1,h2⟩:=go_run (f (s k)) (k :: rd) h
    exact ⟨k :: rd',u,by simp [M.run,h1],by simpa using h2⟩
  | .chk b m,rd,h=>by
    simp only [M.go] at h
    split at h
    · rename_i hb
      obtain ⟨rd',u,h1,h2⟩:=go_run m rd h
      exact ⟨rd',u,by simp [M.run,hb,h1],h2⟩
    · cases h
  | .br b m1 m2,rd,h=>by
    simp only [M.go] at h
    split at h
    · rename_i hb
      obtain ⟨rd',u,h1,h2⟩:=go_run m1 rd h
      exact ⟨rd',u,by simp [M.run,hb,h1],h2⟩
    · rename_i hb
      obtain ⟨rd',u,h1,h2⟩:=go_run m2 rd h
      exact ⟨rd',u,by simp [M.run,hb,h1],h2⟩
  | .fail,rd,h=>by cases h
  | .call A B F x f,rd,h=>by
    simp only [M.go,Option.bind_eq_some_iff] at h
    obtain ⟨y,hy,h⟩:=h
    obtain ⟨rd',u,h1,h2⟩:=go_run (f y) rd h
    exact ⟨rd',u,by simp [M.run,hy,h1],h2⟩
theorem run_local {α:Type} {s s':St} {u:α}:∀ (m:M α) {rd:List Nat},m.run s=some (rd,u)->(∀ k ∈ rd,s' k=s k)->m.run s'=some (rd,u)
  | .ret a,rd,h,_=>h
  | .get k f,rd,h,hk=>by
    simp only [M.run,Option.map_eq_some_iff] at h ⊢
    obtain ⟨⟨rd',u'⟩,h1,h2⟩:=h
    simp only [Prod.mk.injEq] at h2
    obtain ⟨rfl,rfl⟩:=h2
    refine ⟨(rd',u'),?_,rfl⟩
    rw [hk k List.mem_cons_self]
    exact run_local (f (s k)) h1 fun k' hk'=>hk k' (List.mem_cons_of_mem _ hk')
  | .chk b m,rd,h,hk=>by
    simp only [M.run] at h ⊢
    split at h
    · rename_i hb;rw [if_pos hb];exact run_local m h hk
    · cases h
  | .br b m1 m2,rd,h,hk=>by
    simp only [M.run] at h ⊢
    split at h
    · rename_i hb;rw [if_pos hb];exact run_local m1 h hk
    · rename_i hb;rw [if_neg hb];exact run_local m2 h hk
  | .fail,rd,h,_=>by cases h
  | .call A B F x f,rd,h,hk=>by
    simp only [M.run,Option.bind_eq_some_iff] at h ⊢
    obtain ⟨y,hy,h⟩:=h
    exact ⟨y,hy,run_local (f y) h hk⟩
theorem Rn_bind {α β:Type} {s:St} {f:α->M β} {v:β}:∀ (m:M α),Rn (m.bind f) s v->∃ u,Rn m s u/\Rn (f u) s v
  | .ret a,h=>⟨a,Rn_ret.2 rfl,h⟩
  | .get k g,h=>by
    obtain ⟨u,h1,h2⟩:=Rn_bind (g (s k)) (Rn_get.1 h)
    exact ⟨u,Rn_get.2 h1,h2⟩
  | .chk b m,h=>by
    obtain ⟨hb,h⟩:=Rn_chk.1 h
    obtain ⟨u,h1,h2⟩:=Rn_bind m h
    exact ⟨u,Rn_chk.2 ⟨hb,h1⟩,h2⟩
  | .br b m1 m2,h=>by
    rcases Rn_br.1 h with ⟨hb,h⟩ | ⟨hb,h⟩
    · obtain ⟨u,h1,h2⟩:=Rn_bind m1 h
      exact ⟨u,Rn_br.2 (.inl ⟨hb,h1⟩),h2⟩
    · obtain ⟨u,h1,h2⟩:=Rn_bind m2 h
      exact ⟨u,Rn_br.2 (.inr ⟨hb,h1⟩),h2⟩
  | .fail,h=>(Rn_fail.1 h).elim
  | .call A B F x g,h=>by
    obtain ⟨y,hy,h⟩:=Rn_call.1 h
    obtain ⟨u,h1,h2⟩:=Rn_bind (g y) h
    exact ⟨u,Rn_call.2 ⟨y,hy,h1⟩,h2⟩
theorem splitB_run {s:St} {u v:U} (h:Rn (splitB u) s v):v=u:=by
  unfold splitB at h
  split at h
  · rename_i k b
    rcases Rn_br.1 h with ⟨hb,h'⟩ | ⟨hb,h'⟩
    · have hb:b=true:=hb
      subst hb;exact (Rn_ret.1 h').symm
    · have hb:b=false:=hb
      subst hb;exact (Rn_ret.1 h').symm
  · exact (Rn_ret.1 h).symm
section
variable {C:Cx} {cf:Cfg} {st:St} {a:Act} {w w':World} {G:Gh} {us:U} {ops:Array Oper} {Q:Exit->Act->World->Prop}
theorem undef_nb (b:Bool):(undef:Value) ≠ .bool b:=by intro h;cases h
theorem exec1_sound (O:CfgOk C cf) {i:Nat} {o:Oper} (ho:ops[i]?=some o) (I:Inv C st a w G) (h:Rn (exec1 cf ops i o) st us) {K:Act->World->Prop} (hn:∀ a' w' G',Inv C (upds st us) a' w' G'->K a' w'):wpOp C.P ops Q i K a w:=by
  have hm:∀ us,Rn (bif isGuard ops i then (exec cf o).bind splitB else exec cf o) st us->Rn (exec cf o) st us:=fun us h=>by
    rcases Rn_bif.1 h with ⟨_,h⟩ | ⟨_,h⟩
    · obtain ⟨u,h1,h2⟩:=Rn_bind _ h
      rw [splitB_run h2];exact h1
    · exact h
  unfold wpOp
  rw [ho]
  simp only
  unfold exec1 at h
  simp only at h
  have hskip:Rn (wr cf o.dst .unit []) st us->K (a.put o.dst undef) w:=fun h=>hn _ _ G (wr_sound0 O h I ⟨[],rfl,rfl⟩)
  split at h
  · rename_i hg
    rw [if_pos (by unfold Region.wanted;rw [hg])]
    exact .inl (snd_all O o st a w G us K Q I (hm us h) hn)
  · rename_i j want hg
    split at h
    case h_2=>exact (Rn_fail.1 h).elim
    rename_i t ht
    obtain ⟨v,_,hv,h⟩:=slot_run I h
    split at h
    · rename_i b _
      have hx:=SW_bool hv
      have hy:yielded ops a.tmps j=some b:=by
        unfold yielded
        rw [ht]
        simp only [Option.bind_some]
        rw [Array.getD_eq_getD_getElem?] at hx
        cases hc:a.tmps[t]? with
        | none=>rw [hc] at hx;exact absurd hx (undef_nb b)
        | some z=>rw [hc] at hx;simp only [Option.getD_some] at hx;subst hx;rfl
      have hw:Region.wanted o (yielded ops a.tmps)=(b == want):=by
        unfold Region.wanted;rw [hg];simp only;rw [hy];cases b <;> cases want <;> rfl
      rcases Rn_br.1 h with ⟨hb,h⟩ | ⟨hb,h⟩
      · rw [if_pos (by rw [hw];exact hb)]
        exact .inl (snd_all O o st a w G us K Q I (hm us h) hn)
      · rw [if_neg (by rw [hw];intro e;have hb:(b == want)=false:=hb;rw [hb] at e;cases e)]
        exact hskip h
    · have hx:a.tmps.getD t undef=undef:=by obtain ⟨c,hc,h1⟩:=hv;have h1:c=[]:=h1;rw [hc,h1];rfl
      have hy:yielded ops a.tmps j=none:=by
        unfold yielded
        rw [ht]
        simp only [Option.bind_some]
        rw [Array.getD_eq_getD_getElem?] at hx
        cases hc:a.tmps[t]? with
        | none=>rfl
        | some z=>rw [hc] at hx;simp only [Option.getD_some] at hx;subst hx;rfl
      rw [if_neg (by unfold Region.wanted;rw [hg];simp only;rw [hy];simp)]
      exact hskip h
    · exact (Rn_fail.1 h).elim
def Seq (cf:Cfg) (ops:Array Oper) (rec:Nat->List Nat × U):List Nat->St->St->Prop
  | [],s,sn=>s=sn
  | i :: l,s,sn=>(∃ o,ops[i]?=some o/\(exec1 cf ops i o).run s=some (rec i))/\Seq cf ops rec l (upds s (rec i).2) sn
theorem Seq.congr {rec rec':Nat->List Nat × U}:∀ {l:List Nat} {s sn:St},(∀ i ∈ l,rec i=rec' i)->Seq cf ops rec l s sn->Seq cf ops rec' l s sn
  | [],_,_,_,h=>h
  | i :: l,s,sn,he,h=>by
    have e:=he i List.mem_cons_self
    refine ⟨by rw [<-e];exact h.1,?_⟩
    rw [<-e]
    exact Seq.congr (fun j hj=>he j (List.mem_cons_of_mem _ hj)) h.2
theorem goOps_seq {R:Type} {K:Tr->St->Option R} {r:R}:∀ (l:List Oper) (i:Nat) (s:St) (tr:Tr),goOps cf ops l i s tr K=some r->(∀ k,l[k]?=ops[i + k]?) →
    ∃ (rec:Nat->List Nat × U) (sn:St),Seq cf ops rec (List.range' i l.length) s sn/\K (tr ++ (List.range' i l.length).map fun j=>((rec j).1.reverse,(rec j).2.map (·.1))) sn=some r
  | [],i,s,tr,h,hl=>⟨fun _=>([],[]),s,rfl,by simpa [goOps] using h⟩
  | o :: l,i,s,tr,h,hl=>by
    simp only [goOps] at h
    obtain ⟨rd,u,h1,h2⟩:=go_run _ _ h
    simp only [List.append_nil] at h2
    obtain ⟨rec,sn,h3,h4⟩:=goOps_seq l (i + 1) (upds s u) _ h2 (fun k=>by
      have:=hl (k + 1)
      rw [List.getElem?_cons_succ] at this
      rw [this];congr 1;omega)
    have hc:∀ j ∈ List.range' (i + 1) l.length,rec j=(fun j=>if j=i then (rd,u) else rec j) j:=fun j hj=>by
      have:=List.mem_range'_1.1 hj
      simp only
      rw [if_neg (by omega)]
    refine ⟨fun j=>if j=i then (rd,u) else rec j,sn,?_,?_⟩
    · rw [List.length_cons,List.range'_succ]
      refine ⟨⟨o,by have:=hl 0;simpa using this.symm,by simpa using h1⟩,?_⟩
      simp only [if_true]
      exact Seq.congr hc h3
    · rw [List.length_cons,List.range'_succ,List.map_cons]
      simp only [if_true]
      have e:(List.range' (i + 1) l.length).map (fun j=>((rec j).1.reverse,(rec j).2.map (·.1)))=(List.range' (i + 1) l.length).map (fun j=>(((fun j=>if j=i then (rd,u) else rec j) j).1.reverse,((fun j=>if j=i then (rd,u) else rec j) j).2.map (·.1))):=by
        apply List.map_congr_left
        intro j hj
        rw [<-hc j hj]
      rw [<-e]
      simpa [List.append_assoc] using h4
theorem seq_sound (O:CfgOk C cf) {rec:Nat->List Nat × U} {sn:St} (hQ:∀ a' w' G',Inv C sn a' w' G'->Q .normal a' w'):∀ (l:List Nat) {s:St} {a:Act} {w:World} {G:Gh},Seq cf ops rec l s sn->Inv C s a w G->wpOps C.P ops Q l a w
  | [],s,a,w,G,h,I=>by
    have h:s=sn:=h
    subst h;exact hQ _ _ _ I
  | i :: l,s,a,w,G,h,I=>by
    obtain ⟨⟨o,ho,hr⟩,h2⟩:=h
    rw [wpOps_cons]
    exact exec1_sound O ho I ⟨(rec i).1,hr⟩ fun a' w' G' I'=>seq_sound O hQ l h2 I'
theorem disj_iff {a b:List Nat}:disj a b=true ↔ ∀ x ∈ a,∀ y ∈ b,x ≠ y:=by
  unfold disj
  simp only [List.all_eq_true,Bool.not_eq_true']
  constructor
  · intro h x hx y hy e
    have:=h x hx y hy
    rw [e] at this
    simp [Nat.beq_refl] at this
  · intro h x hx y hy
    cases hb:Nat.beq x y
    · rfl
    · exact absurd (Nat.eq_of_beq_eq_true hb) (h x hx y hy)
theorem upds_comm:∀ (v u:U) (s:St),(∀ p ∈ u,∀ q ∈ v,p.1 ≠ q.1)->upds (upds s u) v=upds (upds s v) u
  | v,[],s,_=>rfl
  | v,(k,c) :: u,s,h=>by
    show upds (upds (upd s k c) u) v=upds (upd (upds s v) k c) u
    rw [upds_comm v u _ fun p hp q hq=>h p (List.mem_cons_of_mem _ hp) q hq]
    congr 1
    have:∀ (v:U) (s:St),(∀ q ∈ v,k ≠ q.1)->upds (upd s k c) v=upd (upds s v) k c:=by
      intro v
      induction v with
      | nil=>intro s _;rfl
      | cons q v ih =>
        intro s hq
        obtain ⟨j,d⟩:=q
        have hne:k ≠ j:=hq (j,d) List.mem_cons_self
        show upds (upd (upd s k c) j d) v=upd (upds (upd s j d) v) k c
        rw [<-ih _ fun q hq'=>hq q (List.mem_cons_of_mem _ hq')]
        congr 1
        funext x
        by_cases h1:x=j
        · subst h1;rw [upd_same,upd_ne _ _ (Ne.symm hne),upd_same]
        · rw [upd_ne _ _ h1]
          by_cases h2:x=k
          · subst h2;rw [upd_same,upd_same]
          · rw [upd_ne _ _ h2,upd_ne _ _ h2,upd_ne _ _ h1]
    exact this v s fun q hq=>h (k,c) List.mem_cons_self q hq
def Ind (x y:List Nat × U):Prop:=(∀ p ∈ x.2,p.1 ∉ y.1)/\(∀ p ∈ x.2,∀ q ∈ y.2,p.1 ≠ q.1)/\(∀ q ∈ y.2,q.1 ∉ x.1)
theorem bubble {rec:Nat->List Nat × U} {sn:St}:∀ {l:List Nat} {s:St} {i:Nat},Seq cf ops rec l s sn->List.Pairwise (· < ·) l->i ∈ l->(∀ j ∈ l,j < i->Ind (rec j) (rec i)) →
    (∃ o,ops[i]?=some o/\(exec1 cf ops i o).run s=some (rec i))/\Seq cf ops rec (l.erase i) (upds s (rec i).2) sn
  | [],_,_,_,_,hi,_=>by cases hi
  | j :: l,s,i,h,hp,hi,hind=>by
    obtain ⟨⟨o,ho,hr⟩,h2⟩:=h
    rw [List.pairwise_cons] at hp
    by_cases e:i=j
    · subst e
      rw [List.erase_cons_head]
      exact ⟨⟨o,ho,hr⟩,h2⟩
    · have hi':i ∈ l:=(List.mem_cons.1 hi).resolve_left e
      obtain ⟨⟨o',ho',hr'⟩,h3⟩:=bubble h2 hp.2 hi' fun k hk hlt=>hind k (List.mem_cons_of_mem _ hk) hlt
      obtain ⟨i1,i2,i3⟩:=hind j List.mem_cons_self (hp.1 i hi')
      refine ⟨⟨o',ho',run_local _ hr' fun k hk=>?_⟩,?_⟩
      · exact (upds_out _ _ _ fun p hp e=>i1 p hp (by rw [e];exact hk)).symm
      · rw [List.erase_cons_tail (by simpa using Ne.symm e)]
        refine ⟨⟨o,ho,run_local _ hr fun k hk=>?_⟩,?_⟩
        · exact upds_out _ _ _ fun p hp e=>i3 p hp (by rw [e];exact hk)
        · rw [<-upds_comm _ _ _ i2];exact h3
theorem ancs_ok:∀ (l:List Oper) (acc:List (List Nat)) (pre:List Oper),pre.length=acc.length->(∀ i o,pre[i]?=some o->∀ x ∈ acc.getD i [],x ∈ esOf o\/∃ j ∈ esOf o,x ∈ acc.getD j []) →
    ∀ i o,(pre ++ l)[i]?=some o->∀ x ∈ (ancs l acc).getD i [],x ∈ esOf o\/∃ j ∈ esOf o,x ∈ (ancs l acc).getD j []
  | [],acc,pre,_,h,i,o,hi,x,hx=>h i o (by simpa using hi) x hx
  | o :: l,acc,pre,hl,h,i,o',hi,x,hx=>by
    refine ancs_ok l (acc ++ [esOf o ++ (esOf o).flatMap fun j=>acc.getD j []]) (pre ++ [o]) (by simp [hl]) (fun k ok hk y hy=>?_) i o' (by simpa [List.append_assoc] using hi) x hx
    have grow:∀ j z,z ∈ acc.getD j []->z ∈ (acc ++ [esOf o ++ (esOf o).flatMap fun j=>acc.getD j []]).getD j []:=fun j z hz=>by
      by_cases hj:j < acc.length
      · simpa [List.getD,List.getElem?_append,hj] using hz
      · simp [List.getD,List.getElem?_eq_none (by omega:acc.length<=j)] at hz
    by_cases hk':k < pre.length
    · rw [List.getElem?_append,if_pos hk'] at hk
      have hy':y ∈ acc.getD k []:=by simpa [List.getD,List.getElem?_append,show k < acc.length by omega] using hy
      rcases h k ok hk y hy' with h1 | ⟨j,h1,h2⟩
      · exact .inl h1
      · exact .inr ⟨j,h1,grow j y h2⟩
    · rw [List.getElem?_append,if_neg hk'] at hk
      have hk0:k - pre.length=0:=by
        rcases Nat.eq_zero_or_pos (k - pre.length) with h | h
        · exact h
        · rw [List.getElem?_eq_none (by simp;omega)] at hk;cases hk
      rw [hk0] at hk
      simp only [List.getElem?_cons_zero,Option.some.injEq] at hk
      subst hk
      have hke:k=acc.length:=by omega
      subst hke
      simp only [List.getD,List.getElem?_append,Nat.lt_irrefl,if_false,Nat.sub_self,List.getElem?_cons_zero,Option.getD_some,List.mem_append,List.mem_flatMap] at hy
      rcases hy with hy | ⟨j,hj,hy⟩
      · exact .inl hy
      · exact .inr ⟨j,hj,grow j y hy⟩
theorem backB_ok:∀ (l:List Oper) (i:Nat),backB l i=true->∀ k o,l[k]?=some o->∀ j ∈ esOf o,j < i + k
  | [],_,_,k,o,h=>by simp at h
  | o' :: l,i,hb,k,o,h=>by
    simp only [backB,Bool.and_eq_true,List.all_eq_true] at hb
    cases k with
    | zero =>
      simp only [List.getElem?_cons_zero,Option.some.injEq] at h
      subst h
      intro j hj
      exact Nat.le_of_ble_eq_true (hb.1 j hj)
    | succ k =>
      intro j hj
      have:=backB_ok l (i + 1) hb.2 k o (by simpa using h) j hj
      omega
end
end Go.Proofs.YtefmjjpdflpnaaaGreat.E
namespace Go.Proofs.YtefmjjpdflpnaaaGreat.E
open Go Go.RowKit
set_option linter.unusedVariables false
set_option linter.unusedSimpArgs false
section
variable {C:Cx} {cf:Cfg} {st:St} {a:Act} {w w':World} {G:Gh} {us:U} {ops:Array Oper} {Q:Exit->Act->World->Prop}
theorem setL {l:Array Bool} {i j:Nat} {d:Bool}:(l.setIfInBounds i true).getD j d=if j=i/\i < l.size then true else l.getD j d:=by
  simp only [Array.getD_eq_getD_getElem?,Array.getElem?_setIfInBounds]
  by_cases h:i=j
  · subst h
    by_cases h2:i < l.size <;> simp [h2]
  · rw [if_neg h,if_neg (by omega)]
theorem getD_tf {l:Array Bool} {j:Nat} (h:l.getD j true=false):l.getD j false=false/\j < l.size:=by
  rw [Array.getD_eq_getD_getElem?] at *
  cases hc:l[j]? with
  | none=>rw [hc] at h;cases h
  | some b=>rw [hc] at h;exact ⟨h,(Array.getElem?_eq_some_iff.1 hc).1⟩
theorem mem_ready {listed:Array Bool} {i:Nat}:i ∈ Region.ready .any ops listed ↔ listed.getD i true=false/\∃ o,ops[i]?=some o/\∀ j ∈ esOf o,listed.getD j false=true:=by
  unfold Region.ready
  rw [List.mem_filter,List.mem_range]
  simp only [Bool.and_eq_true,Bool.not_eq_true']
  have key:∀ o:Oper,(o.after.all fun e=>!Region.binds .any e || listed.getD e.on false)=true ↔ ∀ j ∈ esOf o,listed.getD j false=true:=by
    intro o
    rw [Array.all_eq_true']
    unfold esOf
    constructor
    · intro h j hj
      obtain ⟨e,he,rfl⟩:=List.mem_map.1 hj
      rw [List.mem_filter] at he
      have:=h e (by simpa using he.1)
      rw [he.2] at this;simpa using this
    · intro h e he
      cases hb:Region.binds .any e
      · rfl
      · simp only [Bool.not_true,Bool.false_or]
        exact h e.on (List.mem_map.2 ⟨e,List.mem_filter.2 ⟨by simpa using he,hb⟩,rfl⟩)
  constructor
  · rintro ⟨h1,h2,h3⟩
    refine ⟨h2,ops[i],by simp [h1],?_⟩
    rw [<-key]
    simpa [h1] using h3
  · rintro ⟨h1,o,h2,h3⟩
    refine ⟨(Array.getElem?_eq_some_iff.1 h2).1,h1,?_⟩
    rw [h2]
    exact (key o).2 h3
theorem any_sound (O:CfgOk C cf) {rec:Nat->List Nat × U} {sn:St} (hQ:∀ a' w' G',Inv C sn a' w' G'->Q .normal a' w') {an:List (List Nat)} (hedge:∀ i o,ops[i]?=some o->∀ j ∈ esOf o,j < i)
    (han:∀ i o,ops[i]?=some o->∀ x ∈ an.getD i [],x ∈ esOf o\/∃ j ∈ esOf o,x ∈ an.getD j []) (hind:∀ j,j < ops.size->∀ i,i < j->i ∉ an.getD j []->Ind (rec i) (rec j)) :
    ∀ (fuel:Nat) (listed:Array Bool) (L:List Nat) (s:St) (a:Act) (w:World) (G:Gh),L.length=fuel->List.Pairwise (· < ·) L->(∀ j,j ∈ L ↔ listed.getD j true=false)->listed.size=ops.size →
      (∀ i o,ops[i]?=some o->listed.getD i false=true->∀ j ∈ esOf o,listed.getD j false=true)->Seq cf ops rec L s sn->Inv C s a w G->wpAny C.P .any ops Q fuel listed a w:=by
  have clos:∀ (listed:Array Bool),(∀ i o,ops[i]?=some o->listed.getD i false=true->∀ j ∈ esOf o,listed.getD j false=true)->∀ (n i:Nat),i < n->∀ o,ops[i]?=some o->(∀ j ∈ esOf o,listed.getD j false=true)->∀ x ∈ an.getD i [],listed.getD x false=true:=by
    intro listed hd n
    induction n with
    | zero=>intro i hi;omega
    | succ n ih =>
      intro i hi o ho he x hx
      rcases han i o ho x hx with h1 | ⟨j,h1,h2⟩
      · exact he x h1
      · have hj:=hedge i o ho j h1
        have hjs:j < ops.size:=Nat.lt_trans hj (Array.getElem?_eq_some_iff.1 ho).1
        have hoj:ops[j]?=some ops[j]:=by simp [hjs]
        exact ih j (by omega) _ hoj (hd j _ hoj (he j h1)) x h2
  intro fuel
  induction fuel with
  | zero =>
    intro listed L s a w G hl hp hm hs hd hseq I
    have:L=[]:=List.length_eq_zero_iff.1 hl
    subst this
    refine ⟨?_,?_⟩
    · rw [List.eq_nil_iff_forall_not_mem]
      intro i hi
      rw [mem_ready] at hi
      have:=(hm i).2 hi.1
      cases this
    · have hseq:s=sn:=hseq
      subst hseq;exact hQ _ _ _ I
  | succ fuel ih =>
    intro listed L s a w G hl hp hm hs hd hseq I
    refine ⟨fun hr=>?_,fun i hi=>?_⟩
    · exfalso
      cases L with
      | nil=>cases hl
      | cons i0 L' =>
        rw [List.pairwise_cons] at hp
        have h0:=(hm i0).1 List.mem_cons_self
        have hlt:i0 < ops.size:=by rw [<-hs];exact (getD_tf h0).2
        have ho:ops[i0]?=some ops[i0]:=by simp [hlt]
        have:i0 ∈ Region.ready .any ops listed:=mem_ready.2 ⟨h0,_,ho,fun j hj=>by
          have hlt:=hedge i0 _ ho j hj
          cases hc:listed.getD j false
          · exfalso
            have hjs:j < listed.size:=by omega
            have:listed.getD j true=false:=by
              rw [Array.getD_eq_getD_getElem?] at hc ⊢
              rw [Array.getElem?_eq_getElem hjs] at hc ⊢
              exact hc
            rcases List.mem_cons.1 ((hm j).2 this) with e | hjm
            · omega
            · have:=hp.1 j hjm;omega
          · rfl⟩
        rw [hr] at this;cases this
    · obtain ⟨h1,o,ho,hes⟩:=mem_ready.1 hi
      have hiL:=(hm i).2 h1
      obtain ⟨⟨o',ho',hrun⟩,hseq'⟩:=bubble hseq hp hiL fun j hj hlt=>hind i (Array.getElem?_eq_some_iff.1 ho).1 j hlt fun hja=>by
        have:=clos listed hd (i + 1) i (Nat.lt_succ_self i) o ho hes j hja
        rw [(getD_tf ((hm j).1 hj)).1] at this;cases this
      have hnd:L.Nodup:=hp.imp fun h=>Nat.ne_of_lt h
      refine exec1_sound O ho' I ⟨(rec i).1,hrun⟩ fun a' w' G' I'=>ih _ (L.erase i) _ a' w' G' (by rw [List.length_erase_of_mem hiL,hl];rfl) (hp.sublist List.erase_sublist) (fun j=>?_) (by simp [hs]) (fun k ok hk hlk j hj=>?_) hseq' I'
      · rw [hnd.mem_erase_iff,hm j,setL]
        have his:i < listed.size:=(getD_tf h1).2
        by_cases e:j=i
        · simp [e,his]
        · simp [e]
      · rw [setL] at hlk ⊢
        split
        · rfl
        · by_cases e:k=i/\i < listed.size
          · obtain ⟨rfl,_⟩:=e
            rw [ho] at hk;cases hk
            exact hes j hj
          · rw [if_neg e] at hlk
            exact hd k ok hk hlk j hj
theorem evR_sound (O:CfgOk C cf) (hmix:C.P.follows .mixedOrders=true) {R:Type} {id:Nat} {draw:Bool} {K:St->Option R} {r:R} (h:evR cf ops draw st K=some r) (I:Inv C st a w G)
    (hQ:∀ st' a' w' G',K st'=some r->Inv C st' a' w' G'->Q .normal a' w'):(Code.region id ops draw).wp C.P Q a w:=by
  unfold evR at h
  obtain ⟨rec,sn,hseq,hK⟩:=goOps_seq ops.toList 0 st [] h (fun k=>by simp)
  have hlen:ops.toList.length=ops.size:=Array.length_toList
  rw [hlen] at hseq hK
  cases draw with
  | false =>
    simp only [cond_false] at hK
    refine wp_region ?_
    rw [List.range_eq_range']
    exact seq_sound O (fun a' w' G' I'=>hQ sn a' w' G' hK I') _ hseq I
  | true =>
    simp only [cond_true] at hK
    cases hc:backB ops.toList 0 && indepAll (ancs ops.toList []) ([] ++ (List.range' 0 ops.size).map fun j=>((rec j).1.reverse,(rec j).2.map (·.1)))
    · rw [hc] at hK;cases hK
    rw [hc] at hK
    simp only [cond_true] at hK
    rw [Bool.and_eq_true] at hc
    refine wp_region_any hmix (any_sound O (fun a' w' G' I'=>hQ sn a' w' G' hK I') (an:=ancs ops.toList []) (rec:=rec) (fun i o ho j hj=>?_) (fun i o ho x hx=>?_) (fun j hj i hi hnot=>?_) ops.size _ (List.range' 0 ops.size) st a _ G (by simp) ?_ (fun j=>?_) (by simp) (fun i o ho hl=>?_) hseq ?_)
    · have:=backB_ok ops.toList 0 hc.1 i o (by simpa using ho) j hj
      omega
    · exact ancs_ok ops.toList [] [] rfl (fun i o h=>by simp at h) i o (by simpa using ho) x hx
    · have hin:=hc.2
      unfold indepAll at hin
      simp only [List.nil_append,List.length_map,List.length_range',List.all_eq_true,List.mem_range,Bool.or_eq_true] at hin
      have hget:∀ k,k < ops.size->((List.range' 0 ops.size).map fun j=>((rec j).1.reverse,(rec j).2.map (·.1))).getD k ([],[])=((rec k).1.reverse,(rec k).2.map (·.1)):=fun k hk=>by
        simp [List.getD,hk]
      rcases hin j hj i hi with h1 | h1
      · exfalso
        obtain ⟨x,hx,he⟩:=List.any_eq_true.1 h1
        exact hnot (by rw [Nat.eq_of_beq_eq_true he];exact hx)
      · rw [hget j hj,hget i (by omega)] at h1
        unfold indep2 at h1
        simp only [Bool.and_eq_true,disj_iff] at h1
        obtain ⟨⟨h1,h2⟩,h3⟩:=h1
        refine ⟨fun p hp hm=>h1 p.1 (List.mem_map.2 ⟨p,hp,rfl⟩) p.1 (by simpa using hm) rfl,fun p hp q hq e=>h2 p.1 (List.mem_map.2 ⟨p,hp,rfl⟩) q.1 (List.mem_map.2 ⟨q,hq,rfl⟩) e,fun q hq hm=>h3 q.1 (by simpa using hm) q.1 (List.mem_map.2 ⟨q,hq,rfl⟩) rfl⟩
    · exact List.pairwise_lt_range'
    · rw [List.mem_range'_1,Array.getD_eq_getD_getElem?]
      by_cases hj:j < ops.size
      · simp [hj]
      · simp [hj]
    · exfalso
      rw [Array.getD_eq_getD_getElem?] at hl
      by_cases hj:i < ops.size
      · simp [hj] at hl
      · simp [hj] at hl
    · exact inv_grow (w':={ w with drawn:=w.drawn + 1 }) I rfl rfl rfl (Nat.le_refl _) (fun b _=>rfl)
end
end Go.Proofs.YtefmjjpdflpnaaaGreat.E
namespace Go.Proofs.YtefmjjpdflpnaaaGreat.E
open Go Go.RowKit
set_option linter.unusedVariables false
set_option linter.unusedSimpArgs false
section
variable {C:Cx} {cf:Cfg} {st st':St} {a:Act} {w w':World} {G G':Gh} {us:U}
/-- What an entry of a standard state is made of. -/
def EntK (st:St) (rs:List (Nat × Option Nat)) (bs:List (Nat × Nat)) (lo hi:Nat) (q:Nat × Cell):Prop :=
  (∃ e l d o,q=(rk d,.root 0 0 e l)/\(d,o) ∈ rs/\lo<=d/\d < hi/\(∀ t,o=some t->∃ g h,st (rk t)=.root g h e l)/\(o=none->l=[])) ∨
  (∃ T v d b,q=(bk d,.box 0 T v)/\(d,b) ∈ bs/\lo<=d/\d < hi/\∃ g c,st (bk b)=.box g T c)
theorem EntK.mono {rs rs':List (Nat × Option Nat)} {bs bs':List (Nat × Nat)} {lo hi lo' hi':Nat} {q:Nat × Cell} (h:EntK st rs bs lo hi q) (h1:∀ p ∈ rs,p ∈ rs') (h2:∀ p ∈ bs,p ∈ bs') (h3:lo'<=lo) (h4:hi<=hi'):EntK st rs' bs' lo' hi' q:=by
  rcases h with ⟨e,l,d,o,k1,k2,k3,k4,k5⟩ | ⟨T,v,d,b,k1,k2,k3,k4,k5⟩
  · exact .inl ⟨e,l,d,o,k1,h1 _ k2,by omega,by omega,k5⟩
  · exact .inr ⟨T,v,d,b,k1,h2 _ k2,by omega,by omega,k5⟩
def rng (lo hi:Nat) (k:Nat):Prop:=∃ d,lo<=d/\d < hi/\(k=rk d\/k=bk d)
theorem rng_mono {lo hi lo' hi' k:Nat} (h:rng lo hi k) (h1:lo'<=lo) (h2:hi<=hi'):rng lo' hi' k:=by
  obtain ⟨d,h3,h4,h5⟩:=h;exact ⟨d,by omega,by omega,h5⟩
theorem rng_dis {lo hi lo' hi' k:Nat} (h:rng lo hi k) (h':rng lo' hi' k) (hd:hi<=lo'\/hi'<=lo):False:=by
  obtain ⟨d,h3,h4,h5⟩:=h
  obtain ⟨d',h3',h4',h5'⟩:=h'
  unfold rk bk at *;omega
theorem cloB_eq {f:Nat} {v:SV} {b g:Nat} (h:cloB f v=.pbx b g []):v=.clo f .unit (.pair (.pbx b g []) .unit):=by
  unfold cloB at h
  split at h
  · rename_i f' p
    cases hb:Nat.beq f f'
    · rw [hb] at h;cases h
    · rw [hb] at h
      have hb:=Nat.eq_of_beq_eq_true hb
      subst hb
      have h:p=.pbx b g []:=h
      rw [h]
  · cases h
/-- The facts that need no invariant: keys and origins. -/
structure ExtK (st:St) (sh:Shp) (x:den sh.ty) (d:Nat) (rs:List (Nat × Option Nat)) (bs:List (Nat × Nat)) (d':Nat):Prop where
  le:d<=d'
  fin:(mkS sh x d).2.2=d'
  ents:∀ q ∈ (mkS sh x d).2.1,EntK st rs bs d d' q
  keys:((mkS sh x d).2.1.map (·.1)).Nodup
  rsd:∀ q ∈ rs,d<=q.1/\q.1 < d'
  bsd:∀ q ∈ bs,d<=q.1/\q.1 < d'
  rsn:(rs.map (·.1)).Nodup
  bsn:(bs.map (·.1)).Nodup
theorem entK_rng {rs:List (Nat × Option Nat)} {bs:List (Nat × Nat)} {lo hi:Nat} {q:Nat × Cell} (h:EntK st rs bs lo hi q):rng lo hi q.1:=by
  rcases h with ⟨e,l,d,o,rfl,_,k3,k4,_⟩ | ⟨T,v,d,b,rfl,_,k3,k4,_⟩
  · exact ⟨d,k3,k4,.inl rfl⟩
  · exact ⟨d,k3,k4,.inr rfl⟩
theorem nodup_app {α:Type} {l m:List α} (h1:l.Nodup) (h2:m.Nodup) (h:∀ x ∈ l,x ∈ m->False):(l ++ m).Nodup :=
  List.nodup_append.2 ⟨h1,h2,fun x hx y hy e=>h x hx (e ▸ hy)⟩
theorem some4 {α β γ δ:Type} {a a':α} {b b':β} {c c':γ} {d d':δ} (h:(some (a,b,c,d):Option (α × β × γ × δ))=some (a',b',c',d')):a=a'/\b=b'/\c=c'/\d=d':=by
  cases h;exact ⟨rfl,rfl,rfl,rfl⟩
theorem ext_keys:∀ (sh:Shp) (v:SV) (d:Nat) {x:den sh.ty} {rs:List (Nat × Option Nat)} {bs:List (Nat × Nat)} {d':Nat},extS st sh v d=some (x,rs,bs,d')->ExtK st sh x d rs bs d'
  | .v T,v,d,x,rs,bs,d',h=>by
    simp only [extS] at h
    unfold extV at h
    split at h
    · split at h
      · obtain ⟨_,rfl,rfl,rfl⟩:=some4 h
        exact ⟨Nat.le_refl _,rfl,fun q hq=>(by cases hq),List.nodup_nil,fun q hq=>(by cases hq),fun q hq=>(by cases hq),List.nodup_nil,List.nodup_nil⟩
      · cases h
    · cases h
  | .r e,v,d,x,rs,bs,d',h=>by
    have fin:∀ (l:List (den e)) (o:Option Nat),(some ((l:den (Shp.r e).ty),[(d,o)],([]:List (Nat × Nat)),d + 1)=some (x,rs,bs,d'))->(∀ t,o=some t->∃ g h,st (rk t)=.root g h e l)->(o=none->l=[])->ExtK st (.r e) x d rs bs d':=by
      intro l o h h1 h2
      obtain ⟨rfl,rfl,rfl,rfl⟩:=some4 h
      refine ⟨Nat.le_succ _,rfl,fun q hq=>?_,by simp [mkS],fun q hq=>?_,fun q hq=>(by cases hq),by simp,List.nodup_nil⟩
      · have hq:q ∈ [(rk d,Cell.root 0 0 e l)]:=hq
        simp only [List.mem_singleton] at hq
        exact .inl ⟨e,l,d,o,hq,by simp,Nat.le_refl _,Nat.lt_succ_self _,h1,h2⟩
      · simp only [List.mem_singleton] at hq;subst hq;exact ⟨Nat.le_refl _,Nat.lt_succ_self _⟩
    simp only [extS] at h
    unfold extR at h
    cases v with
    | nil=>exact fin [] none h (fun t ht=>by cases ht) (fun _=>rfl)
    | ref t g e1 =>
      simp only at h
      split at h
      case h_2=>cases h
      rename_i g' hh e' l hr
      split at h
      case isFalse=>cases h
      rename_i he;subst he
      cases hb:Nat.beq g g'
      · rw [hb] at h;cases h
      · rw [hb] at h
        exact fin l (some t) h (fun t' ht=>by cases ht;exact ⟨g',hh,hr⟩) (fun e=>by cases e)
    | _=>cases h
  | .bx c,v,d,x,rs,bs,d',h=>by
    simp only [extS] at h
    unfold extB at h
    split at h
    case h_2=>cases h
    rename_i b g
    split at h
    case h_2=>cases h
    · rename_i g' B v' hr
      cases hb:(Nat.beq g g' && decide (B=c.ty))
      · rw [hb] at h;cases h
      rw [hb] at h;simp only [cond_true] at h
      split at h
      case h_2=>cases h
      rename_i y rs1 bs1 d1 he
      obtain ⟨rfl,rfl,rfl,rfl⟩:=some4 h
      simp only [Bool.and_eq_true,decide_eq_true_eq] at hb
      have ih:=ext_keys c v' (d + 1) he
      have hle:=ih.le
      refine ⟨by omega,ih.fin,fun q hq=>?_,?_,fun q hq=>?_,fun q hq=>?_,ih.rsn,?_⟩
      · rcases List.mem_cons.1 hq with hq | hq
        · exact .inr ⟨c.ty,_,d,b,hq,by simp,Nat.le_refl _,by omega,g',v',by rw [hr,hb.2]⟩
        · exact (ih.ents q hq).mono (fun _ h=>h) (fun _ h=>List.mem_cons_of_mem _ h) (Nat.le_succ _) (Nat.le_refl _)
      · show ((bk d,_) :: (mkS c _ (d + 1)).2.1 |>.map (·.1)).Nodup
        rw [List.map_cons,List.nodup_cons]
        refine ⟨fun hm=>?_,ih.keys⟩
        obtain ⟨q,hq,he⟩:=List.mem_map.1 hm
        have hr2:=entK_rng (ih.ents q hq)
        rw [he] at hr2
        exact rng_dis hr2 (⟨d,Nat.le_refl _,Nat.lt_succ_self _,.inr rfl⟩:rng d (d + 1) (bk d)) (.inr (Nat.le_refl _))
      · have:=ih.rsd q hq;omega
      · rcases List.mem_cons.1 hq with hq | hq
        · subst hq;exact ⟨Nat.le_refl _,by omega⟩
        · have:=ih.bsd q hq;omega
      · rw [List.map_cons,List.nodup_cons]
        refine ⟨fun hm=>?_,ih.bsn⟩
        obtain ⟨q,hq,he⟩:=List.mem_map.1 hm
        have:=ih.bsd q hq
        have he:q.1=d:=he
        omega
  | .cl f0 c,v,d,x,rs,bs,d',h=>by
    simp only [extS] at h
    unfold extB at h
    split at h
    case h_2=>cases h
    rename_i b g hcl
    split at h
    case h_2=>cases h
    · rename_i g' B v' hr
      cases hb:(Nat.beq g g' && decide (B=c.ty))
      · rw [hb] at h;cases h
      rw [hb] at h;simp only [cond_true] at h
      split at h
      case h_2=>cases h
      rename_i y rs1 bs1 d1 he
      obtain ⟨rfl,rfl,rfl,rfl⟩:=some4 h
      simp only [Bool.and_eq_true,decide_eq_true_eq] at hb
      have ih:=ext_keys c v' (d + 1) he
      have hle:=ih.le
      refine ⟨by omega,ih.fin,fun q hq=>?_,?_,fun q hq=>?_,fun q hq=>?_,ih.rsn,?_⟩
      · rcases List.mem_cons.1 hq with hq | hq
        · exact .inr ⟨c.ty,_,d,b,hq,by simp,Nat.le_refl _,by omega,g',v',by rw [hr,hb.2]⟩
        · exact (ih.ents q hq).mono (fun _ h=>h) (fun _ h=>List.mem_cons_of_mem _ h) (Nat.le_succ _) (Nat.le_refl _)
      · show ((bk d,_) :: (mkS c _ (d + 1)).2.1 |>.map (·.1)).Nodup
        rw [List.map_cons,List.nodup_cons]
        refine ⟨fun hm=>?_,ih.keys⟩
        obtain ⟨q,hq,he⟩:=List.mem_map.1 hm
        have hr2:=entK_rng (ih.ents q hq)
        rw [he] at hr2
        exact rng_dis hr2 (⟨d,Nat.le_refl _,Nat.lt_succ_self _,.inr rfl⟩:rng d (d + 1) (bk d)) (.inr (Nat.le_refl _))
      · have:=ih.rsd q hq;omega
      · rcases List.mem_cons.1 hq with hq | hq
        · subst hq;exact ⟨Nat.le_refl _,by omega⟩
        · have:=ih.bsd q hq;omega
      · rw [List.map_cons,List.nodup_cons]
        refine ⟨fun hm=>?_,ih.bsn⟩
        obtain ⟨q,hq,he⟩:=List.mem_map.1 hm
        have:=ih.bsd q hq
        have he:q.1=d:=he
        omega
  | .unit,v,d,x,rs,bs,d',h=>by
    simp only [extS] at h
    unfold extU at h
    split at h
    case h_2=>cases h
    obtain ⟨_,rfl,rfl,rfl⟩:=some4 h
    exact ⟨Nat.le_refl _,rfl,fun q hq=>(by cases hq),List.nodup_nil,fun q hq=>(by cases hq),fun q hq=>(by cases hq),List.nodup_nil,List.nodup_nil⟩
  | .pair a b,v,d,x,rs,bs,d',h=>by
    simp only [extS] at h
    unfold extP at h
    split at h
    case h_2=>cases h
    rename_i v1 v2
    split at h
    case h_2=>cases h
    rename_i y1 rs1 bs1 d1 he1
    split at h
    case h_2=>cases h
    rename_i y2 rs2 bs2 d2 he2
    obtain ⟨rfl,rfl,rfl,rfl⟩:=some4 h
    have i1:=ext_keys a v1 d he1
    have i2:=ext_keys b v2 d1 he2
    have l1:=i1.le
    have l2:=i2.le
    have hm:(mkS (.pair a b) (y1,y2) d).2.1=(mkS a y1 d).2.1 ++ (mkS b y2 d1).2.1:=by
      show _ ++ (mkS b y2 (mkS a y1 d).2.2).2.1=_
      rw [i1.fin]
    refine ⟨by omega,?_,fun q hq=>?_,?_,fun q hq=>?_,fun q hq=>?_,?_,?_⟩
    · show (mkS b y2 (mkS a y1 d).2.2).2.2=_
      rw [i1.fin,i2.fin]
    · rw [hm] at hq
      rcases List.mem_append.1 hq with hq | hq
      · exact (i1.ents q hq).mono (fun _ h=>List.mem_append_left _ h) (fun _ h=>List.mem_append_left _ h) (Nat.le_refl _) l2
      · exact (i2.ents q hq).mono (fun _ h=>List.mem_append_right _ h) (fun _ h=>List.mem_append_right _ h) l1 (Nat.le_refl _)
    · rw [hm,List.map_append]
      refine nodup_app i1.keys i2.keys fun k h1 h2=>?_
      obtain ⟨q,hq,rfl⟩:=List.mem_map.1 h1
      obtain ⟨q',hq',he⟩:=List.mem_map.1 h2
      have r1:=entK_rng (i1.ents q hq)
      have r2:=entK_rng (i2.ents q' hq')
      rw [he] at r2
      exact rng_dis r1 r2 (.inl (Nat.le_refl _))
    · rcases List.mem_append.1 hq with hq | hq
      · have:=i1.rsd q hq;omega
      · have:=i2.rsd q hq;omega
    · rcases List.mem_append.1 hq with hq | hq
      · have:=i1.bsd q hq;omega
      · have:=i2.bsd q hq;omega
    · rw [List.map_append]
      refine nodup_app i1.rsn i2.rsn fun k h1 h2=>?_
      obtain ⟨q,hq,rfl⟩:=List.mem_map.1 h1
      obtain ⟨q',hq',he⟩:=List.mem_map.1 h2
      have:=i1.rsd q hq
      have:=i2.rsd q' hq'
      have he:q'.1=q.1:=he
      omega
    · rw [List.map_append]
      refine nodup_app i1.bsn i2.bsn fun k h1 h2=>?_
      obtain ⟨q,hq,rfl⟩:=List.mem_map.1 h1
      obtain ⟨q',hq',he⟩:=List.mem_map.1 h2
      have:=i1.bsd q hq
      have:=i2.bsd q' hq'
      have he:q'.1=q.1:=he
      omega
  | .st a,v,d,x,rs,bs,d',h=>by
    have fin:∀ v',extS st a v' d=some (x,rs,bs,d')->ExtK st (.st a) x d rs bs d':=fun v' h=>by
      have ih:=ext_keys a v' d h
      exact ⟨ih.le,ih.fin,ih.ents,ih.keys,ih.rsd,ih.bsd,ih.rsn,ih.bsn⟩
    simp only [extS] at h
    unfold extT at h
    cases v with
    | st v'=>exact fin _ h
    | val T x0 =>
      simp only at h
      split at h
      · exact fin _ h
      · cases h
    | _=>cases h
/-- The values of a standard state. -/
structure Mapd (G G':Gh) (rs:List (Nat × Option Nat)) (bs:List (Nat × Nat)):Prop where
  rsm:∀ d t,(d,some t) ∈ rs->G'.hd (rk d)=G.hd (rk t)
  rsz:∀ d,(d,none) ∈ rs->G'.hd (rk d)=.slice none 0 0
  bsm:∀ d b,(d,b) ∈ bs->G'.bx (bk d)=G.bx (bk b)
theorem Mapd.mono {rs rs':List (Nat × Option Nat)} {bs bs':List (Nat × Nat)} (h:Mapd G G' rs bs) (h1:∀ p ∈ rs',p ∈ rs) (h2:∀ p ∈ bs',p ∈ bs):Mapd G G' rs' bs' :=
  ⟨fun d t hm=>h.rsm d t (h1 _ hm),fun d hm=>h.rsz d (h1 _ hm),fun d b hm=>h.bsm d b (h2 _ hm)⟩
theorem ext_vals (I:InvM C st w G) (hS:∀ b,Fz st G w b->Fz st' G' w b):∀ (sh:Shp) (v:SV) (d:Nat) {x:den sh.ty} {rs:List (Nat × Option Nat)} {bs:List (Nat × Nat)} {d':Nat} {cs:List Value},extS st sh v d=some (x,rs,bs,d') →
    SX C.P st G w (Fz st G w) v false cs->(∀ q ∈ (mkS sh x d).2.1,st' q.1=q.2)->Mapd G G' rs bs →
    SX C.P st' G' w (Fz st' G' w) (mkS sh x d).1 false cs/\(mkS sh x d).1.hasTy sh.ty=true/\valS (mkS sh x d).1 cs=valS v cs ∧
      ∀ k g T u,(k,Cell.box g T u) ∈ (mkS sh x d).2.1->u.hasTy T=true/\∃ arr ty,w.heap[G'.bx k]?=some (.cells arr ty (0,0))/\SX C.P st' G' w (Fz st' G' w) u false arr.toList
  | .v T,v,d,x,rs,bs,d',cs,h,hs,hst,hM=>by
    simp only [extS] at h
    unfold extV at h
    split at h
    case h_2=>cases h
    rename_i T' x' hp
    split at h
    case isFalse=>cases h
    rename_i e;subst e
    obtain ⟨rfl,rfl,rfl,rfl⟩:=some4 h
    refine ⟨?_,by simp [mkS,SV.hasTy,Shp.ty],(plainS_valS v hp).symm,fun k g T u hq=>(by cases hq)⟩
    exact RX_congr C.P T' false (Nat.le_refl _) (fun b hb _=>⟨hS b hb,rfl⟩) (fun b hb=>hb.1) (plainS_sx v hp hs)
  | .r e,v,d,x,rs,bs,d',cs,h,hs,hst,hM=>by
    simp only [extS] at h
    unfold extR at h
    cases v with
    | nil =>
      obtain ⟨rfl,rfl,rfl,rfl⟩:=some4 h
      have hs:cs=[.slice none 0 0]:=hs
      subst hs
      refine ⟨⟨_,rfl,rfl,Nat.zero_le _,fun h e' l hr=>?_⟩,by simp [mkS,SV.hasTy,Shp.ty],rfl,fun k g T u hq=>?_⟩
      · have:=hst (rk d,.root 0 0 e []) (by simp [mkS])
        simp only at this
        rw [this] at hr;cases hr
        exact ⟨(hM.rsz d (by simp)).symm,rfl⟩
      · simp [mkS] at hq
    | ref t g e1 =>
      simp only at h
      split at h
      case h_2=>cases h
      rename_i g' hh e' l hr
      split at h
      case isFalse=>cases h
      rename_i he;subst he
      cases hb:Nat.beq g g'
      · rw [hb] at h;cases h
      rw [hb] at h
      obtain ⟨rfl,rfl,rfl,rfl⟩:=some4 h
      have hg:g=g':=Nat.eq_of_beq_eq_true hb
      subst hg
      obtain ⟨xv,rfl,ho,_,hx⟩:=hs
      obtain ⟨rfl,_⟩:=hx _ _ _ hr
      refine ⟨⟨_,rfl,ho,Nat.zero_le _,fun h e2 l2 hr2=>?_⟩,by simp [mkS,SV.hasTy,Shp.ty],rfl,fun k g T u hq=>?_⟩
      · have:=hst (rk d,.root 0 0 e' l) (by simp [mkS])
        simp only at this
        rw [this] at hr2;cases hr2
        exact ⟨(hM.rsm d t (by simp)).symm,rfl⟩
      · simp [mkS] at hq
    | _=>cases h
  | .bx c,v,d,x,rs,bs,d',cs,h,hs,hst,hM=>by
    simp only [extS] at h
    unfold extB at h
    split at h
    case h_2=>cases h
    rename_i b g
    split at h
    case h_2=>cases h
    · rename_i g' B v' hr
      cases hb:(Nat.beq g g' && decide (B=c.ty))
      · rw [hb] at h;cases h
      rw [hb] at h;simp only [cond_true] at h
      split at h
      case h_2=>cases h
      rename_i y rs1 bs1 d1 he
      obtain ⟨rfl,rfl,rfl,rfl⟩:=some4 h
      simp only [Bool.and_eq_true,decide_eq_true_eq] at hb
      have hg:g=g':=Nat.eq_of_beq_eq_true hb.1
      subst hg
      obtain ⟨xv,rfl,ho,_,hx⟩:=hs
      obtain ⟨ht,arr,ty,ha,hv⟩:=I.bx _ _ _ _ hr
      have hbx:=hM.bsm d b (by simp)
      obtain ⟨k1,k2,k3,k4⟩:=ext_vals I hS c v' (d + 1) he hv (fun q hq=>hst q (List.mem_cons_of_mem _ hq)) (hM.mono (fun _ h=>h) (fun _ h=>List.mem_cons_of_mem _ h))
      refine ⟨⟨xv,rfl,ho,Nat.zero_le _,fun T u hr2=>?_⟩,rfl,rfl,fun k g T u hq=>?_⟩
      · rw [hx _ _ hr,hbx];rfl
      · rcases List.mem_cons.1 hq with hq | hq
        · simp only [Prod.mk.injEq,Cell.box.injEq] at hq
          obtain ⟨rfl,_,rfl,rfl⟩:=hq
          exact ⟨k2,arr,ty,by rw [hbx];exact ha,k1⟩
        · exact k4 k g T u hq
  | .cl f0 c,v,d,x,rs,bs,d',cs,h,hs,hst,hM=>by
    simp only [extS] at h
    unfold extB at h
    split at h
    case h_2=>cases h
    rename_i b g hcl
    obtain rfl:v=.clo f0 .unit (.pair (.pbx b g []) .unit):=cloB_eq hcl
    split at h
    case h_2=>cases h
    · rename_i g' B v' hr
      cases hb:(Nat.beq g g' && decide (B=c.ty))
      · rw [hb] at h;cases h
      rw [hb] at h;simp only [cond_true] at h
      split at h
      case h_2=>cases h
      rename_i y rs1 bs1 d1 he
      obtain ⟨rfl,rfl,rfl,rfl⟩:=some4 h
      simp only [Bool.and_eq_true,decide_eq_true_eq] at hb
      have hg:g=g':=Nat.eq_of_beq_eq_true hb.1
      subst hg
      obtain ⟨vs0,us0,rfl,u1,u2⟩:=hs
      obtain ⟨c1,r0,rfl,⟨xv,rfl,ho,_,hx⟩,u3⟩:=u2
      have u1:vs0=[]:=u1
      have u3:r0=[]:=u3
      subst u1 u3
      obtain ⟨ht,arr,ty,ha,hv⟩:=I.bx _ _ _ _ hr
      have hbx:=hM.bsm d b (by simp)
      obtain ⟨k1,k2,k3,k4⟩:=ext_vals I hS c v' (d + 1) he hv (fun q hq=>hst q (List.mem_cons_of_mem _ hq)) (hM.mono (fun _ h=>h) (fun _ h=>List.mem_cons_of_mem _ h))
      refine ⟨⟨[],[xv],rfl,rfl,[xv],[],rfl,⟨xv,rfl,ho,Nat.zero_le _,fun T u hr2=>?_⟩,rfl⟩,rfl,rfl,fun k g T u hq=>?_⟩
      · rw [hx _ _ hr,hbx];rfl
      · rcases List.mem_cons.1 hq with hq | hq
        · simp only [Prod.mk.injEq,Cell.box.injEq] at hq
          obtain ⟨rfl,_,rfl,rfl⟩:=hq
          exact ⟨k2,arr,ty,by rw [hbx];exact ha,k1⟩
        · exact k4 k g T u hq
  | .unit,v,d,x,rs,bs,d',cs,h,hs,hst,hM=>by
    simp only [extS] at h
    unfold extU at h
    split at h
    case h_2=>cases h
    obtain ⟨_,rfl,rfl,rfl⟩:=some4 h
    exact ⟨hs,rfl,rfl,fun k g T u hq=>(by cases hq)⟩
  | .pair a b,v,d,x,rs,bs,d',cs,h,hs,hst,hM=>by
    simp only [extS] at h
    unfold extP at h
    split at h
    case h_2=>cases h
    rename_i v1 v2
    split at h
    case h_2=>cases h
    rename_i y1 rs1 bs1 d1 he1
    split at h
    case h_2=>cases h
    rename_i y2 rs2 bs2 d2 he2
    obtain ⟨rfl,rfl,rfl,rfl⟩:=some4 h
    obtain ⟨c1,c2,rfl,s1,s2⟩:=hs
    have hf:=(ext_keys a v1 d he1).fin
    have hm:(mkS (.pair a b) (y1,y2) d).2.1=(mkS a y1 d).2.1 ++ (mkS b y2 d1).2.1:=by
      show _ ++ (mkS b y2 (mkS a y1 d).2.2).2.1=_
      rw [hf]
    have hv:(mkS (.pair a b) (y1,y2) d).1=.pair (mkS a y1 d).1 (mkS b y2 d1).1:=by
      show SV.pair _ (mkS b y2 (mkS a y1 d).2.2).1=_
      rw [hf]
    rw [hm] at hst
    obtain ⟨k1,k2,k3,k4⟩:=ext_vals I hS a v1 d he1 s1 (fun q hq=>hst q (List.mem_append_left _ hq)) (hM.mono (fun _ h=>List.mem_append_left _ h) (fun _ h=>List.mem_append_left _ h))
    obtain ⟨j1,j2,j3,j4⟩:=ext_vals I hS b v2 d1 he2 s2 (fun q hq=>hst q (List.mem_append_right _ hq)) (hM.mono (fun _ h=>List.mem_append_right _ h) (fun _ h=>List.mem_append_right _ h))
    rw [hv,hm]
    refine ⟨⟨c1,c2,rfl,k1,j1⟩,by show ((mkS a y1 d).1.hasTy a.ty && (mkS b y2 d1).1.hasTy b.ty)=true;rw [k2,j2];rfl,rfl,fun k g T u hq=>?_⟩
    rcases List.mem_append.1 hq with hq | hq
    · exact k4 k g T u hq
    · exact j4 k g T u hq
  | .st a,v,d,x,rs,bs,d',cs,h,hs,hst,hM=>by
    simp only [extS] at h
    unfold extT at h
    cases v with
    | st v' =>
      obtain ⟨k1,k2,k3,k4⟩:=ext_vals I hS a v' d (cs:=cs) h hs hst hM
      exact ⟨k1,k2,rfl,k4⟩
    | val T x0 =>
      simp only at h
      split at h
      case h_2=>cases h
      rename_i v1 hv1
      cases T <;> simp only [stFld,reduceCtorEq] at hv1
      rename_i f
      cases hl:f.isList
      · rw [hl] at hv1;cases hv1
      rw [hl] at hv1
      simp only [cond_true,Option.some.injEq] at hv1
      subst hv1
      have hs:RX C.P f false w (Fz st G w) cs x0:=hs
      obtain ⟨k1,k2,k3,k4⟩:=ext_vals I hS a (expd f x0) d (cs:=cs) h (SX_expd f hl hs).1 hst hM
      exact ⟨k1,k2,rfl,k4⟩
    | _=>cases h
end
end Go.Proofs.YtefmjjpdflpnaaaGreat.E
namespace Go.Proofs.YtefmjjpdflpnaaaGreat.E
open Go Go.RowKit
set_option linter.unusedVariables false
set_option linter.unusedSimpArgs false
section
variable {C:Cx} {cf:Cfg} {st st':St} {a:Act} {w w':World} {G G':Gh} {us:U}
theorem ext_notup {sh:Shp} {v:SV} {d:Nat} {r} (h:extS st sh v d=some r):∀ b,v ≠ .tup b:=by
  intro b e
  subst e
  cases sh <;> first | (cases h;done) | (simp only [extS,cloB,extB] at h;cases h)
structure ExtLK (st:St) (l:Lv) (x:den l.ty) (rs:List (Nat × Option Nat)) (bs:List (Nat × Nat)):Prop where
  ents:∀ q ∈ mkL l x,(∃ i ∈ l.map (·.1),∃ v,q=(sk i,.sv v))\/(∃ i ∈ l.map (·.1),EntK st rs bs (8 * i) (8 * i + 8) q)
  keys:((mkL l x).map (·.1)).Nodup
  rsd:∀ q ∈ rs,∃ i ∈ l.map (·.1),8 * i<=q.1/\q.1 < 8 * i + 8
  bsd:∀ q ∈ bs,∃ i ∈ l.map (·.1),8 * i<=q.1/\q.1 < 8 * i + 8
  rsn:(rs.map (·.1)).Nodup
  bsn:(bs.map (·.1)).Nodup
theorem extL_cons {i:Nat} {sh:Shp} {l:Lv} {x:den (Lv.ty ((i,sh) :: l))} {rs:List (Nat × Option Nat)} {bs:List (Nat × Nat)} (h:extL st ((i,sh) :: l)=some (x,rs,bs)) :
    ∃ v x1 rs1 bs1 d x2 rs2 bs2,st (sk i)=.sv v/\extS st sh v (8 * i)=some (x1,rs1,bs1,d)/\d<=8 * i + 8/\extL st l=some (x2,rs2,bs2)/\x=(x1,x2)/\rs=rs1 ++ rs2/\bs=bs1 ++ bs2:=by
  unfold extL at h
  split at h
  case h_2=>cases h
  rename_i v hv
  split at h
  case h_2=>cases h
  rename_i x1 rs1 bs1 d he
  cases hb:Nat.ble d (8 * i + 8)
  · rw [hb] at h;cases h
  rw [hb] at h
  simp only [cond_true] at h
  split at h
  case h_2=>cases h
  rename_i x2 rs2 bs2 hl
  cases h
  exact ⟨v,x1,rs1,bs1,d,x2,rs2,bs2,hv,he,Nat.le_of_ble_eq_true hb,hl,rfl,rfl,rfl⟩
theorem extL_keys:∀ (l:Lv) {x:den l.ty} {rs:List (Nat × Option Nat)} {bs:List (Nat × Nat)},extL st l=some (x,rs,bs)->(l.map (·.1)).Nodup->ExtLK st l x rs bs
  | [],x,rs,bs,h,hn=>by
    cases h
    exact ⟨fun q hq=>(by cases hq),List.nodup_nil,fun q hq=>(by cases hq),fun q hq=>(by cases hq),List.nodup_nil,List.nodup_nil⟩
  | (i,sh) :: l,x,rs,bs,h,hn=>by
    obtain ⟨v,x1,rs1,bs1,d,x2,rs2,bs2,hv,he,hd,hl,rfl,rfl,rfl⟩:=extL_cons h
    rw [List.map_cons,List.nodup_cons] at hn
    have K:=ext_keys sh v (8 * i) he
    have L:=extL_keys l hl hn.2
    have far:∀ j ∈ l.map (·.1),j ≠ i:=fun j hj e=>hn.1 (e ▸ hj)
    refine ⟨fun q hq=>?_,?_,fun q hq=>?_,fun q hq=>?_,?_,?_⟩
    · have hq:q ∈ (sk i,Cell.sv (mkS sh x1 (8 * i)).1) :: ((mkS sh x1 (8 * i)).2.1 ++ mkL l x2):=hq
      rcases List.mem_cons.1 hq with hq | hq
      · exact .inl ⟨i,by simp,_,hq⟩
      · rcases List.mem_append.1 hq with hq | hq
        · exact .inr ⟨i,by simp,(K.ents q hq).mono (fun _ h=>List.mem_append_left _ h) (fun _ h=>List.mem_append_left _ h) (Nat.le_refl _) hd⟩
        · rcases L.ents q hq with ⟨j,hj,h⟩ | ⟨j,hj,h⟩
          · exact .inl ⟨j,List.mem_cons_of_mem _ hj,h⟩
          · exact .inr ⟨j,List.mem_cons_of_mem _ hj,h.mono (fun _ h=>List.mem_append_right _ h) (fun _ h=>List.mem_append_right _ h) (Nat.le_refl _) (Nat.le_refl _)⟩
    · show (((sk i,Cell.sv (mkS sh x1 (8 * i)).1) :: ((mkS sh x1 (8 * i)).2.1 ++ mkL l x2)).map (·.1)).Nodup
      rw [List.map_cons,List.nodup_cons,List.map_append]
      refine ⟨fun hm=>?_,nodup_app K.keys L.keys fun k h1 h2=>?_⟩
      · rcases List.mem_append.1 hm with hm | hm
        · obtain ⟨q,hq,e⟩:=List.mem_map.1 hm
          obtain ⟨d0,_,_,h3⟩:=entK_rng (K.ents q hq)
          have e:q.1=sk i:=e
          rw [e] at h3
          unfold sk rk bk at h3;omega
        · obtain ⟨q,hq,e⟩:=List.mem_map.1 hm
          have e:q.1=sk i:=e
          rcases L.ents q hq with ⟨j,hj,v',hv'⟩ | ⟨j,hj,h3⟩
          · rw [hv'] at e
            exact far j hj (sk_inj e)
          · obtain ⟨d0,_,_,h3⟩:=entK_rng h3
            rw [e] at h3
            unfold sk rk bk at h3;omega
      · obtain ⟨q,hq,rfl⟩:=List.mem_map.1 h1
        obtain ⟨q',hq',e⟩:=List.mem_map.1 h2
        have e:q'.1=q.1:=e
        have r1:=rng_mono (entK_rng (K.ents q hq)) (Nat.le_refl _) hd
        rcases L.ents q' hq' with ⟨j,hj,v',hv'⟩ | ⟨j,hj,h3⟩
        · obtain ⟨d0,_,_,h3⟩:=r1
          rw [hv'] at e
          rw [<-e] at h3
          unfold sk rk bk at h3;simp only at h3;omega
        · have r2:=entK_rng h3
          rw [e] at r2
          have:=far j hj
          exact rng_dis r1 r2 (by omega)
    · rcases List.mem_append.1 hq with hq | hq
      · have:=K.rsd q hq;exact ⟨i,by simp,by omega,by omega⟩
      · obtain ⟨j,hj,h1,h2⟩:=L.rsd q hq;exact ⟨j,List.mem_cons_of_mem _ hj,h1,h2⟩
    · rcases List.mem_append.1 hq with hq | hq
      · have:=K.bsd q hq;exact ⟨i,by simp,by omega,by omega⟩
      · obtain ⟨j,hj,h1,h2⟩:=L.bsd q hq;exact ⟨j,List.mem_cons_of_mem _ hj,h1,h2⟩
    · rw [List.map_append]
      refine nodup_app K.rsn L.rsn fun k h1 h2=>?_
      obtain ⟨q,hq,rfl⟩:=List.mem_map.1 h1
      obtain ⟨q',hq',e⟩:=List.mem_map.1 h2
      have e:q'.1=q.1:=e
      have:=K.rsd q hq
      obtain ⟨j,hj,h1,h2⟩:=L.rsd q' hq'
      have:=far j hj
      omega
    · rw [List.map_append]
      refine nodup_app K.bsn L.bsn fun k h1 h2=>?_
      obtain ⟨q,hq,rfl⟩:=List.mem_map.1 h1
      obtain ⟨q',hq',e⟩:=List.mem_map.1 h2
      have e:q'.1=q.1:=e
      have:=K.bsd q hq
      obtain ⟨j,hj,h1,h2⟩:=L.bsd q' hq'
      have:=far j hj
      omega
theorem extL_vals (I:Inv C st a w G) (hS:∀ b,Fz st G w b->Fz st' G' w b):∀ (l:Lv) {x:den l.ty} {rs:List (Nat × Option Nat)} {bs:List (Nat × Nat)},extL st l=some (x,rs,bs)->(∀ q ∈ mkL l x,st' q.1=q.2)->Mapd G G' rs bs →
    (∀ i v,(sk i,Cell.sv v) ∈ mkL l x->SW C.P st' G' w (Fz st' G' w) v (a.tmps.getD i undef))/\∀ k g T u,(k,Cell.box g T u) ∈ mkL l x->u.hasTy T=true/\∃ arr ty,w.heap[G'.bx k]?=some (.cells arr ty (0,0))/\SX C.P st' G' w (Fz st' G' w) u false arr.toList
  | [],x,rs,bs,h,hst,hM=>⟨fun i v hv=>(by cases hv),fun k g T u hq=>(by cases hq)⟩
  | (i,sh) :: l,x,rs,bs,h,hst,hM=>by
    obtain ⟨v,x1,rs1,bs1,d,x2,rs2,bs2,hv,he,hd,hl,rfl,rfl,rfl⟩:=extL_cons h
    have hmk:mkL ((i,sh) :: l) (x1,x2)=(sk i,Cell.sv (mkS sh x1 (8 * i)).1) :: ((mkS sh x1 (8 * i)).2.1 ++ mkL l x2):=rfl
    rw [hmk] at hst ⊢
    obtain ⟨cs,hc1,hc2⟩:=SW_cells (I.sl i v hv) (ext_notup he)
    obtain ⟨k1,k2,k3,k4⟩:=ext_vals (G':=G') I.toInvM hS sh v (8 * i) he hc2 (fun q hq=>hst q (List.mem_cons_of_mem _ (List.mem_append_left _ hq))) (hM.mono (fun _ h=>List.mem_append_left _ h) (fun _ h=>List.mem_append_left _ h))
    obtain ⟨j1,j2⟩:=extL_vals I hS l hl (fun q hq=>hst q (List.mem_cons_of_mem _ (List.mem_append_right _ hq))) (hM.mono (fun _ h=>List.mem_append_right _ h) (fun _ h=>List.mem_append_right _ h))
    have K:=ext_keys sh v (8 * i) he
    refine ⟨fun j u hj=>?_,fun k g T u hq=>?_⟩
    · rcases List.mem_cons.1 hj with hj | hj
      · simp only [Prod.mk.injEq,Cell.sv.injEq] at hj
        obtain ⟨e,rfl⟩:=hj
        have e:=sk_inj e
        subst e
        rw [hc1,<-k3]
        exact SW_of k1
      · rcases List.mem_append.1 hj with hj | hj
        · exfalso
          rcases K.ents _ hj with ⟨_,_,_,_,e,_⟩ | ⟨_,_,_,_,e,_⟩ <;> simp at e
        · exact j1 j u hj
    · rcases List.mem_cons.1 hq with hq | hq
      · simp at hq
      · rcases List.mem_append.1 hq with hq | hq
        · exact k4 k g T u hq
        · exact j2 k g T u hq
theorem lookup_mem {β:Type}:∀ (l:List (Nat × β)) {d:Nat} {o:β},(l.map (·.1)).Nodup->(d,o) ∈ l->l.lookup d=some o
  | [],_,_,_,h=>by cases h
  | (e,p) :: l,d,o,hn,h=>by
    rw [List.map_cons,List.nodup_cons] at hn
    rw [List.lookup_cons]
    rcases List.mem_cons.1 h with h | h
    · simp only [Prod.mk.injEq] at h
      obtain ⟨rfl,rfl⟩:=h
      simp
    · have hne:d ≠ e:=fun e'=>hn.1 (List.mem_map.2 ⟨(d,o),h,e'⟩)
      have:(d == e)=false:=by simpa using hne
      rw [this]
      exact lookup_mem l hn.2 h
theorem cut1_ok {l:Lv} {x':den l.ty} {rs:List (Nat × Option Nat)} {bs:List (Nat × Nat)} (he:extL st l=some (x',rs,bs)) (hrn:(rs.filterMap (·.2)).Nodup) (hbn:(bs.map (·.2)).Nodup) (hln:(l.map (·.1)).Nodup) (I:Inv C st a w G) :
    ∃ G',Inv C (mkSt l x') a w G'/\∀ d t,(d,some t) ∈ rs->G'.hd (rk d)=G.hd (rk t):=by
  have K:=extL_keys l he hln
  -- the new ghosts
  let G':Gh:=⟨fun k=>match rs.lookup (k / 3) with | some (some t)=>G.hd (rk t) | _=>.slice none 0 0,fun k=>match rs.lookup (k / 3) with | some (some t)=>G.bl (rk t) | _=>[],fun k=>match bs.lookup (k / 3) with | some b=>G.bx (bk b) | none=>0,G.s0⟩
  have hrd:∀ d,rk d / 3=d:=fun d=>by unfold rk;omega
  have hbd:∀ d,bk d / 3=d:=fun d=>by unfold bk;omega
  have hM:Mapd G G' rs bs:=by
    refine ⟨fun d t hm=>?_,fun d hm=>?_,fun d b hm=>?_⟩
    · show (match rs.lookup (rk d / 3) with | some (some t)=>G.hd (rk t) | _=>.slice none 0 0)=_
      rw [hrd,lookup_mem rs K.rsn hm]
    · show (match rs.lookup (rk d / 3) with | some (some t)=>G.hd (rk t) | _=>.slice none 0 0)=_
      rw [hrd,lookup_mem rs K.rsn hm]
    · show (match bs.lookup (bk d / 3) with | some b=>G.bx (bk b) | none=>0)=_
      rw [hbd,lookup_mem bs K.bsn hm]
  have hbl:∀ d t,(d,some t) ∈ rs->G'.bl (rk d)=G.bl (rk t):=fun d t hm=>by
    show (match rs.lookup (rk d / 3) with | some (some t)=>G.bl (rk t) | _=>[])=_
    rw [hrd,lookup_mem rs K.rsn hm]
  have hblz:∀ d,(d,none) ∈ rs->G'.bl (rk d)=[]:=fun d hm=>by
    show (match rs.lookup (rk d / 3) with | some (some t)=>G.bl (rk t) | _=>[])=_
    rw [hrd,lookup_mem rs K.rsn hm]
  have hin:∀ q ∈ mkL l x',mkSt l x' q.1=q.2:=fun q hq=>upds_in _ _ K.keys (by simpa using hq)
  have hout:∀ k,mkSt l x' k=.none\/∃ q ∈ mkL l x',q.1=k:=fun k=>by
    by_cases hk:∃ q ∈ mkL l x',q.1=k
    · exact .inr hk
    · left
      have:mkSt l x' k=st0 k:=upds_out _ _ _ fun p hp e=>hk ⟨p,hp,e⟩
      rw [this];rfl
  have hent:∀ k c,mkSt l x' k=c->c ≠ .none->(k,c) ∈ mkL l x':=fun k c h1 h2=>by
    rcases hout k with h | ⟨q,hq,rfl⟩
    · rw [h] at h1;exact absurd h1.symm h2
    · have:=hin q hq
      rw [this] at h1;subst h1
      simpa using hq
  have hroot:∀ k g h e ll,mkSt l x' k=.root g h e ll->∃ d o,k=rk d/\(d,o) ∈ rs/\(∀ t,o=some t->∃ g h,st (rk t)=.root g h e ll)/\(o=none->ll=[]):=fun k g h e ll hr=>by
    have hm:=hent k _ hr (by simp)
    rcases K.ents _ hm with ⟨i,_,v,e'⟩ | ⟨i,_,hE⟩
    · simp at e'
    · rcases hE with ⟨e0,l0,d,o,k1,k2,_,_,k5,k6⟩ | ⟨T,v,d,b,k1,_⟩
      · simp only [Prod.mk.injEq,Cell.root.injEq] at k1
        obtain ⟨rfl,_,_,rfl,k7⟩:=k1
        cases k7
        exact ⟨d,o,rfl,k2,k5,k6⟩
      · simp at k1
  have hboxs:∀ k g T u,mkSt l x' k=.box g T u->∃ d b,k=bk d/\(d,b) ∈ bs/\∃ g c,st (bk b)=.box g T c:=fun k g T u hr=>by
    have hm:=hent k _ hr (by simp)
    rcases K.ents _ hm with ⟨i,_,v,e'⟩ | ⟨i,_,hE⟩
    · simp at e'
    · rcases hE with ⟨e0,l0,d,o,k1,k2,_,_,k5,k6⟩ | ⟨T',v,d,b,k1,k2,_,_,k5⟩
      · simp at k1
      · simp only [Prod.mk.injEq,Cell.box.injEq] at k1
        obtain ⟨rfl,_,rfl,_⟩:=k1
        exact ⟨d,b,rfl,k2,k5⟩
  have hnown:∀ k g,mkSt l x' k ≠ .own g:=fun k g hr=>by
    have hm:=hent k _ hr (by simp)
    rcases K.ents _ hm with ⟨j,_,v,e'⟩ | ⟨j,_,hE⟩
    · simp at e'
    · rcases hE with ⟨e0,l0,d,o,k1,_⟩ | ⟨T',v,d,b,k1,_⟩ <;> simp at k1
  -- who owns what
  have own:∀ k b,b ∈ ownB (mkSt l x') G' k->(∃ d t,k=rk d/\(d,some t) ∈ rs/\b ∈ ownB st G (rk t))\/(∃ d c,k=bk d/\(d,c) ∈ bs/\b ∈ ownB st G (bk c)):=fun k b hb=>by
    unfold ownB at hb
    split at hb
    · rename_i g h e ll hr
      obtain ⟨d,o,rfl,k1,k2,k3⟩:=hroot _ _ _ _ _ hr
      cases o with
      | none=>rw [hblz d k1] at hb;cases hb
      | some t =>
        rw [hbl d t k1] at hb
        obtain ⟨g',h',k4⟩:=k2 t rfl
        refine .inl ⟨d,t,rfl,k1,?_⟩
        unfold ownB;rw [k4];exact hb
    · rename_i g T u hr
      obtain ⟨d,c,rfl,k1,g',u',k2⟩:=hboxs _ _ _ _ hr
      rw [hM.bsm d c k1] at hb
      refine .inr ⟨d,c,rfl,k1,?_⟩
      unfold ownB;rw [k2];exact hb
    · rename_i g hr;exact absurd hr (hnown _ _)
    · cases hb
  have injr:∀ (l:List (Nat × Option Nat)),(l.filterMap (·.2)).Nodup->∀ d d' t,(d,some t) ∈ l->(d',some t) ∈ l->d=d':=by
    intro l
    induction l with
    | nil=>intro _ d d' t h;cases h
    | cons q l ih =>
      intro hn d d' t h h'
      have hmem:∀ d t,(d,some t) ∈ l->t ∈ l.filterMap (·.2):=fun d t hm=>List.mem_filterMap.2 ⟨_,hm,rfl⟩
      have hn':(l.filterMap (·.2)).Nodup:=by
        obtain ⟨q1,q2⟩:=q
        cases q2 with
        | none=>simpa [List.filterMap_cons] using hn
        | some t =>
          have hn2:(t :: l.filterMap (·.2)).Nodup:=hn
          exact (List.nodup_cons.1 hn2).2
      rcases List.mem_cons.1 h with k | k <;> rcases List.mem_cons.1 h' with k' | k'
      · rw [<-k'] at k;simp only [Prod.mk.injEq] at k;exact k.1
      · subst k
        have hn2:(t :: l.filterMap (·.2)).Nodup:=hn
        exact absurd (hmem _ _ k') (List.nodup_cons.1 hn2).1
      · subst k'
        have hn2:(t :: l.filterMap (·.2)).Nodup:=hn
        exact absurd (hmem _ _ k) (List.nodup_cons.1 hn2).1
      · exact ih hn' d d' t k k'
  have injb:∀ (l:List (Nat × Nat)),(l.map (·.2)).Nodup->∀ d d' t,(d,t) ∈ l->(d',t) ∈ l->d=d':=by
    intro l
    induction l with
    | nil=>intro _ d d' t h;cases h
    | cons q l ih =>
      intro hn d d' t h h'
      rw [List.map_cons,List.nodup_cons] at hn
      rcases List.mem_cons.1 h with k | k <;> rcases List.mem_cons.1 h' with k' | k'
      · rw [<-k'] at k;simp only [Prod.mk.injEq] at k;exact k.1
      · subst k;exact absurd (List.mem_map.2 ⟨_,k',rfl⟩) hn.1
      · subst k';exact absurd (List.mem_map.2 ⟨_,k,rfl⟩) hn.1
      · exact ih hn.2 d d' t k k'
  have hFz:∀ b,Fz st G w b->Fz (mkSt l x') G' w b:=fun b hb=>⟨hb.1,fun k hm=>by
    rcases own k b hm with ⟨d,t,_,_,h⟩ | ⟨d,c,_,_,h⟩
    · exact hb.2.1 _ h
    · exact hb.2.1 _ h,hb.2.2⟩
  obtain ⟨V1,V2⟩:=extL_vals (G':=G') I hFz l he hin hM
  refine ⟨G',{ rt:=fun k g h e ll hr=>?_,sc:=fun i=>?_,bx:=fun k g T u hr=>?_,nd:=fun k=>?_,dj:=fun k k' b h1 h2=>?_,lt:=fun k b hb=>?_,os:=I.os,tape:=I.tape,output:=I.output,size:=I.size,block:=I.block,s0:=I.s0,m0:=I.m0,sl:=fun i v hv=>?_,df:=I.df,sz:=I.sz,pa:=I.pa },hM.rsm⟩
  · obtain ⟨d,o,rfl,k1,k2,k3⟩:=hroot _ _ _ _ _ hr
    cases o with
    | none =>
      rw [hM.rsz d k1,hblz d k1]
      exact .inl ⟨rfl,k3 rfl,rfl⟩
    | some t =>
      rw [hM.rsm d t k1,hbl d t k1]
      obtain ⟨g',h',k4⟩:=k2 t rfl
      exact I.rt _ _ _ _ _ k4
  · rcases hout (sk i) with h | ⟨q,hq,e⟩
    · exact .inr h
    · left
      have h1:=hin q hq
      rw [e] at h1
      rcases K.ents q hq with ⟨j,_,v,e'⟩ | ⟨j,_,hE⟩
      · exact ⟨v,by rw [h1,e']⟩
      · obtain ⟨d,_,_,h3⟩:=entK_rng hE
        rw [e] at h3
        unfold sk rk bk at h3;omega
  · exact V2 k g T u (hent k _ hr (by simp))
  · unfold ownB
    split
    · rename_i g h e ll hr
      obtain ⟨d,o,rfl,k1,k2,k3⟩:=hroot _ _ _ _ _ hr
      cases o with
      | none=>rw [hblz d k1];exact List.nodup_nil
      | some t =>
        rw [hbl d t k1]
        have:=I.nd (rk t)
        rwa [root_own (let ⟨g',h',k4⟩:=k2 t rfl;⟨g',h',_,_,k4⟩)] at this
    · simp
    · rename_i g hr;exact absurd hr (hnown _ _)
    · exact List.nodup_nil
  · rcases own k b h1 with ⟨d,t,rfl,k1,k2⟩ | ⟨d,c,rfl,k1,k2⟩ <;> rcases own k' b h2 with ⟨d',t',rfl,j1,j2⟩ | ⟨d',c',rfl,j1,j2⟩
    · have:=rk_inj (I.dj _ _ _ k2 j2)
      subst this
      rw [injr rs hrn d d' t k1 j1]
    · exact absurd (I.dj _ _ _ k2 j2) (rk_ne_bk _ _)
    · exact absurd (I.dj _ _ _ k2 j2).symm (rk_ne_bk _ _)
    · have:=bk_inj (I.dj _ _ _ k2 j2)
      subst this
      rw [injb bs hbn d d' c k1 j1]
  · rcases own k b hb with ⟨d,t,_,_,h⟩ | ⟨d,c,_,_,h⟩
    · exact I.lt _ _ h
    · exact I.lt _ _ h
  · exact V1 i v (hent _ _ hv (by simp))
theorem cut0_ok {l:Lv} {x:den l.ty} (h:cut0 l st=some x) (I:Inv C st a w G):∃ G',Inv C (mkSt l x) a w G':=by
  unfold cut0 at h
  split at h
  case h_2=>cases h
  rename_i x' rs bs he
  cases hb:(nodupB (rs.filterMap (·.2)) && nodupB (bs.map (·.2)) && nodupB (l.map (·.1)))
  · rw [hb] at h;cases h
  rw [hb] at h
  simp only [cond_true,Option.some.injEq] at h
  subst h
  simp only [Bool.and_eq_true,nodupB_iff] at hb
  obtain ⟨⟨hrn,hbn⟩,hln⟩:=hb
  obtain ⟨G',I',_⟩:=cut1_ok he hrn hbn hln I
  exact ⟨G',I'⟩
def SlotV (P:Program) (a:Act) (w:World) (S:Nat->Prop) (q:Nat × Cell):Prop:=∃ (i:Nat) (T:Ty) (x:den T) (c:List Value),q=(sk i,.sv (.val T x))/\a.tmps.getD i undef=valOf T c/\RX P T false w S c x
def BoxV (C:Cx) (st:St) (G:Gh) (w:World) (S:Nat->Prop) (q:Nat × Cell):Prop :=
  ∃ (b g:Nat) (B:Ty) (v0 v:SV) (arr:Array Value) (ty:TypeId),q=(bk b,.box g B v)/\st (bk b)=.box g B v0/\v.hasTy B=true/\w.heap[G.bx (bk b)]?=some (.cells arr ty (0,0))/\SX C.P st G w S v false arr.toList
/-- A box is told otherwise: memory stays as it is. -/
theorem rebox (I:Inv C st a w G) {b g:Nat} {B:Ty} {v0 v:SV} {arr:Array Value} {ty:TypeId} (hr:st (bk b)=.box g B v0) (ht:v.hasTy B=true) (ha:w.heap[G.bx (bk b)]?=some (.cells arr ty (0,0))) (hs:SX C.P st G w (Fz st G w) v false arr.toList) :
    Inv C (upd st (bk b) (.box g B v)) a w G/\Fz (upd st (bk b) (.box g B v)) G w=Fz st G w ∧
      ∀ v' m cs,SX C.P st G w (Fz st G w) v' m cs->SX C.P (upd st (bk b) (.box g B v)) G w (Fz (upd st (bk b) (.box g B v)) G w) v' m cs:=by
  have hin:G.bx (bk b) ∈ ownB st G (bk b):=by unfold ownB;rw [hr];simp
  have ho:ownB (upd st (bk b) (.box g B v)) G (bk b)=[G.bx (bk b)]:=by unfold ownB;rw [upd_same]
  have hoA:∀ k,ownB (upd st (bk b) (.box g B v)) G k=ownB st G k:=fun k=>by
    by_cases hk:k=bk b
    · subst hk;rw [ho];unfold ownB;rw [hr]
    · unfold ownB;rw [upd_ne _ _ hk]
  have hfz:Fz (upd st (bk b) (.box g B v)) G w=Fz st G w:=by
    funext x;unfold Fz;simp only [hoA]
  have h0:Step0 st G w (upd st (bk b) (.box g B v)) G w [bk b] (fun _=>False):={
    s0:=rfl
    os:=rfl,tape:=rfl,output:=rfl,size:=Nat.le_refl _,block:=fun _ _ _=>rfl,own:=fun _ h=>h.elim
    out:=fun k hk=>by
      simp only [List.mem_singleton] at hk
      exact ⟨upd_ne _ _ hk,rfl,rfl,rfl⟩
    nosk:=fun i hi=>by simp only [List.mem_singleton] at hi;exact sk_ne_bk _ _ hi
    ks:=fun k hk=>by
      simp only [List.mem_singleton] at hk;subst hk
      refine ⟨by rw [upd_same,hr];exact Nat.le_refl _,fun g h e l hr' hg=>?_,fun g' T c' hr' hg=>?_,fun g' hr' hg=>?_⟩
      · rw [upd_same] at hr';cases hr'
      · rw [upd_same] at hr';cases hr';exact ⟨v0,hr,rfl⟩
      · rw [upd_same] at hr';cases hr'
    sub:=fun k hk x hx=>by rw [hoA] at hx;exact .inl ⟨k,hk,hx⟩
    lt:=fun k hk x hx=>by rw [hoA] at hx;exact (I.lt _ _ hx).1
    nd:=fun k hk=>by rw [hoA];exact I.nd k
    dj:=fun k hk k' hk' x hx hx'=>by rw [hoA] at hx hx';exact I.dj _ _ _ hx hx' }
  have htr:∀ v' m cs,SX C.P st G w (Fz st G w) v' m cs->SX C.P (upd st (bk b) (.box g B v)) G w (Fz (upd st (bk b) (.box g B v)) G w) v' m cs:=fun v' m cs h =>
    SX.tr h0.size (fun b hb _=>h0.fz I.toInvM hb) (fun b hb=>hb.1) (h0.kstep I.toInvM) v' m h
  refine ⟨Step.inv I { toStep0:=h0,rt:=fun k hk g h e l hr'=>?_,bx:=fun k hk g T' v' hr'=>?_ },hfz,htr⟩
  · simp only [List.mem_singleton] at hk;subst hk
    rw [upd_same] at hr';cases hr'
  · simp only [List.mem_singleton] at hk;subst hk
    rw [upd_same] at hr';cases hr'
    exact ⟨ht,arr,ty,ha,htr _ _ _ hs⟩
theorem reslots:∀ (u:U) {st:St},Inv C st a w G->(∀ q ∈ u,SlotV C.P a w (Fz st G w) q\/BoxV C st G w (Fz st G w) q)->Inv C (upds st u) a w G
  | [],st,I,_=>I
  | q :: u,st,I,h=>by
    rcases h q List.mem_cons_self with ⟨i,T,x,c,rfl,h2,h3⟩ | ⟨b,g,B,v0,v,arr,ty,rfl,h2,h3,h4,h5⟩
    · have hs:=upd_slotStep I.toInvM i (.sv (.val T x)) (.inl ⟨_,rfl⟩)
      have I':Inv C (upd st (sk i) (.sv (.val T x))) a w G:=by
        refine { toInvM:=hs.invM I.toInvM,sl:=fun j v hv=>?_,df:=I.df,sz:=I.sz,pa:=I.pa }
        by_cases hj:j=i
        · subst hj
          rw [upd_same] at hv;injection hv with hv;subst hv
          refine hs.sw I.toInvM ⟨c,h2,h3⟩
        · rw [upd_ne _ _ (fun e=>hj (sk_inj e))] at hv
          exact hs.sw I.toInvM (I.sl j v hv)
      refine reslots u I' fun q hq=>?_
      rcases h q (List.mem_cons_of_mem _ hq) with h | ⟨b,g,B,v0,v,arr,ty,rfl,k2,k3,k4,k5⟩
      · left;rw [hs.fz I.toInvM];exact h
      · right;exact ⟨b,g,B,v0,v,arr,ty,rfl,by rw [upd_ne _ _ (sk_ne_bk _ _).symm];exact k2,k3,k4,hs.sx I.toInvM k5⟩
    · obtain ⟨I',hfz,htr⟩:=rebox I h2 h3 h4 h5
      refine reslots u I' fun q hq=>?_
      rcases h q (List.mem_cons_of_mem _ hq) with h | ⟨b',g',B',v0',v',arr',ty',rfl,k2,k3,k4,k5⟩
      · left;rw [hfz];exact h
      · right
        by_cases hb:bk b'=bk b
        · have hb:=bk_inj hb
          subst hb
          rw [h2] at k2;cases k2
          exact ⟨_,_,_,v,v',arr',ty',rfl,upd_same _ _ _,k3,k4,htr _ _ _ k5⟩
        · exact ⟨b',g',B',v0',v',arr',ty',rfl,by rw [upd_ne _ _ hb];exact k2,k3,k4,htr _ _ _ k5⟩
theorem gone_tr (I:Inv C st a w G) {ts:List (Nat × Nat)} (h:∀ p ∈ ts,RT st p) (hS1:∀ b,Fz st G w b->Fz (upds st (goneU ts)) G w b) (v:SV) (m:Bool) (cs:List Value) (hs:SX C.P st G w (Fz st G w) v m cs) :
    SX C.P (upds st (goneU ts)) G w (Fz (upds st (goneU ts)) G w) v m cs:=by
  refine SX.tr (Nat.le_refl _) (fun b hb _=>⟨hS1 b hb,rfl⟩) (fun b hb=>hb.1) (fun k=>?_) v m hs
  by_cases hk:∃ p ∈ ts,k=rk p.1
  · obtain ⟨p,hp,rfl⟩:=hk
    obtain ⟨hh,e,l,hr⟩:=h p hp
    refine ⟨by rw [gone_at h hp,hr];exact Nat.le_refl _,fun g' h' e' l' hr' _=>?_,fun g' T' c' hr' _=>?_,fun g' hr' _=>?_⟩
    · rw [gone_at h hp] at hr';cases hr'
    · rw [gone_at h hp] at hr';cases hr'
    · rw [gone_at h hp] at hr';cases hr'
  · have e:upds st (goneU ts) k=st k:=goneU_out fun p hp e=>hk ⟨p,hp,e.symm⟩
    exact ⟨by rw [e];exact Nat.le_refl _,fun g hh e' l hr _=>⟨hh,l,by rw [<-e];exact hr,rfl,rfl,Nat.le_refl _,fun _=>⟨rfl,fun _ _ _=>⟨rfl,fun _ _=>rfl⟩,fun _ _ _ _ _=>rfl⟩⟩,fun g T c hr _=>⟨c,by rw [<-e];exact hr,rfl⟩,fun g hr _=>⟨by rw [<-e];exact hr,rfl,fun _ _=>rfl⟩⟩
theorem frzC_ok (I:InvM C st w G) {S:Nat->Prop} (hS:∀ b,Fz st G w b->S b) (hSl:∀ b,S b->b < w.heap.size) {st1:St} (htr:∀ v m cs,SX C.P st G w (Fz st G w) v m cs->SX C.P st1 G w S v m cs):∀ (c:Shp) (v:SV) {v':SV} {ts:List (Nat × Nat)} {cs:List Value},frzC st c v=some (v',ts)->SX C.P st G w (Fz st G w) v false cs →
    (∀ p ∈ ts,RT st p)/\((∀ p ∈ ts,∀ b ∈ G.bl (rk p.1),S b)->SX C.P st1 G w S v' false cs)
  | .v T,v,v',ts,cs,h,hs=>by
    simp only [frzC] at h
    cases hb:isV v
    · rw [hb] at h
      simp only [cond_false] at h
      split at h
      case h_2=>cases h
      rename_i x ts1 h1
      cases h
      obtain ⟨k1,k2,k3⟩:=frz_run I hS hSl 8 T v h1 hs
      exact ⟨k1,fun hb=>k2 hb⟩
    · rw [hb] at h
      simp only [cond_true] at h
      cases h
      exact ⟨fun p hp=>(by cases hp),fun _=>htr _ _ _ hs⟩
  | .st a,v,v',ts,cs,h,hs=>by
    cases v <;> try (simp only [frzC,Option.some.injEq,Prod.mk.injEq] at h;obtain ⟨rfl,rfl⟩:=h;exact ⟨fun p hp=>(by cases hp),fun _=>htr _ _ _ hs⟩)
    rename_i v
    simp only [frzC] at h
    split at h
    case h_2=>cases h
    rename_i w1 ts1 h1
    cases h
    obtain ⟨k1,k2⟩:=frzC_ok I hS hSl htr a v h1 (cs:=cs) hs
    exact ⟨k1,fun hb=>k2 hb⟩
  | .pair a b,v,v',ts,cs,h,hs=>by
    cases v <;> try (simp only [frzC,Option.some.injEq,Prod.mk.injEq] at h;obtain ⟨rfl,rfl⟩:=h;exact ⟨fun p hp=>(by cases hp),fun _=>htr _ _ _ hs⟩)
    rename_i v1 v2
    simp only [frzC] at h
    split at h
    case h_2=>cases h
    rename_i w1 ts1 h1
    split at h
    case h_2=>cases h
    rename_i w2 ts2 h2
    cases h
    obtain ⟨c1,c2,rfl,s1,s2⟩:=hs
    obtain ⟨k1,k2⟩:=frzC_ok I hS hSl htr a v1 h1 s1
    obtain ⟨j1,j2⟩:=frzC_ok I hS hSl htr b v2 h2 s2
    exact ⟨fun p hp=>(List.mem_append.1 hp).elim (k1 p) (j1 p),fun hb=>⟨c1,c2,rfl,k2 fun p hp=>hb p (List.mem_append_left _ hp),j2 fun p hp=>hb p (List.mem_append_right _ hp)⟩⟩
  | .r _,v,v',ts,cs,h,hs=>by simp only [frzC,Option.some.injEq,Prod.mk.injEq] at h;obtain ⟨rfl,rfl⟩:=h;exact ⟨fun p hp=>(by cases hp),fun _=>htr _ _ _ hs⟩
  | .cl _ _,v,v',ts,cs,h,hs=>by simp only [frzC,Option.some.injEq,Prod.mk.injEq] at h;obtain ⟨rfl,rfl⟩:=h;exact ⟨fun p hp=>(by cases hp),fun _=>htr _ _ _ hs⟩
  | .bx _,v,v',ts,cs,h,hs=>by simp only [frzC,Option.some.injEq,Prod.mk.injEq] at h;obtain ⟨rfl,rfl⟩:=h;exact ⟨fun p hp=>(by cases hp),fun _=>htr _ _ _ hs⟩
  | .unit,v,v',ts,cs,h,hs=>by simp only [frzC,Option.some.injEq,Prod.mk.injEq] at h;obtain ⟨rfl,rfl⟩:=h;exact ⟨fun p hp=>(by cases hp),fun _=>htr _ _ _ hs⟩
theorem frzL_ok (I:Inv C st a w G) {S:Nat->Prop} (hS:∀ b,Fz st G w b->S b) (hSl:∀ b,S b->b < w.heap.size):∀ (l:Lv) {u:U} {ts:List (Nat × Nat)},frzL st l=some (u,ts)->(∀ p ∈ ts,RT st p) ∧
    ((∀ p ∈ ts,∀ b ∈ G.bl (rk p.1),S b)->∀ st1,(∀ v m cs,SX C.P st G w (Fz st G w) v m cs->SX C.P st1 G w S v m cs)->(∀ b,st1 (bk b)=st (bk b))->∀ q ∈ u,SlotV C.P a w S q\/BoxV C st1 G w S q)
  | [],u,ts,h=>by cases h;exact ⟨fun p hp=>(by cases hp),fun _ _ _ _ q hq=>(by cases hq)⟩
  | (i,sh) :: l,u,ts,h=>by
    unfold frzL at h
    split at h
    · rename_i T v hv
      cases hb:isV v
      · rw [hb] at h
        simp only [cond_false] at h
        split at h
        case h_2=>cases h
        rename_i x ts1 h1
        split at h
        case h_2=>cases h
        rename_i u2 ts2 h2
        cases h
        obtain ⟨c,hc1,hc2⟩:=SW_cells (I.sl i v hv) (fun b e=>by subst e;cases T <;> cases h1)
        obtain ⟨k1,k2,k3⟩:=frz_run I.toInvM hS hSl 8 T v h1 hc2
        obtain ⟨j1,j2⟩:=frzL_ok I hS hSl l h2
        refine ⟨fun p hp=>(List.mem_append.1 hp).elim (k1 p) (j1 p),fun hb st1 h5 h6 q hq=>?_⟩
        rcases List.mem_cons.1 hq with hq | hq
        · exact .inl ⟨i,T,x,c,hq,by rw [hc1,k3],k2 fun p hp=>hb p (List.mem_append_left _ hp)⟩
        · exact j2 (fun p hp=>hb p (List.mem_append_right _ hp)) st1 h5 h6 q hq
      · rw [hb] at h
        exact frzL_ok I hS hSl l h
    · rename_i c b gg fs hv
      split at h
      case h_2=>exact frzL_ok I hS hSl l h
      rename_i g B v hr
      cases hn:needC c v
      · rw [hn] at h;exact frzL_ok I hS hSl l h
      rw [hn] at h
      simp only [cond_true] at h
      split at h
      case h_2=>cases h
      rename_i v' ts1 h1
      cases ht:v'.hasTy B
      · rw [ht] at h;cases h
      rw [ht] at h
      simp only [cond_true] at h
      split at h
      case h_2=>cases h
      rename_i u2 ts2 h2
      cases h
      obtain ⟨_,arr,ty,ha,hs⟩:=I.bx _ _ _ _ hr
      obtain ⟨j1,j2⟩:=frzL_ok I hS hSl l h2
      have k1:=(frzC_ok I.toInvM (S:=fun b=>b < w.heap.size) (st1:=st) (fun b hb=>hb.1) (fun _ h=>h) (fun v m cs h=>SX.tr (Nat.le_refl _) (fun b hb _=>⟨hb.1,rfl⟩) (fun _ h=>h) (KStep.refl st G w) v m h) c v h1 hs).1
      refine ⟨fun p hp=>(List.mem_append.1 hp).elim (k1 p) (j1 p),fun hb st1 h5 h6 q hq=>?_⟩
      rcases List.mem_cons.1 hq with hq | hq
      · exact .inr ⟨b,g,B,v,v',arr,ty,hq,by rw [h6];exact hr,ht,ha,(frzC_ok I.toInvM hS hSl h5 c v h1 hs).2 fun p hp=>hb p (List.mem_append_left _ hp)⟩
      · exact j2 (fun p hp=>hb p (List.mem_append_right _ hp)) st1 h5 h6 q hq
    · exact frzL_ok I hS hSl l h
theorem frz_inv {l:Lv} {u:U} {ts:List (Nat × Nat)} (hf:frzL st l=some (u,ts)) (I:Inv C st a w G):Inv C (upds (upds st (goneU ts)) u) a w G:=by
  have hRT:=(frzL_ok I (S:=Fz st G w) (fun _ h=>h) (fun _ h=>h.1) l hf).1
  have I1:=gone_inv I hRT
  have sub:∀ k b,b ∈ ownB (upds st (goneU ts)) G k->b ∈ ownB st G k/\∀ p ∈ ts,k ≠ rk p.1:=fun k b hb=>by
    have hne:∀ p ∈ ts,k ≠ rk p.1:=fun p hp e=>by
      subst e
      unfold ownB at hb;rw [gone_at hRT hp] at hb;cases hb
    refine ⟨?_,hne⟩
    unfold ownB at hb ⊢
    rw [goneU_out fun p hp e=>hne p hp e.symm] at hb
    exact hb
  have hS1:∀ b,Fz st G w b->Fz (upds st (goneU ts)) G w b:=fun b hb=>⟨hb.1,fun k hk=>hb.2.1 k (sub k b hk).1,hb.2.2⟩
  have hS2:∀ p ∈ ts,∀ b ∈ G.bl (rk p.1),Fz (upds st (goneU ts)) G w b:=fun p hp b hb=>by
    have ho:b ∈ ownB st G (rk p.1):=by rw [own_of_RT (hRT p hp)];exact hb
    refine ⟨(I.lt _ _ ho).1,fun k hk=>?_,I.m0 _ (I.lt _ _ ho).2⟩
    obtain ⟨h1,h2⟩:=sub k b hk
    exact h2 p hp (I.dj _ _ _ h1 ho)
  have hbk:∀ b,upds st (goneU ts) (bk b)=st (bk b):=fun b=>goneU_out fun p _ e=>rk_ne_bk _ _ e
  exact reslots u I1 ((frzL_ok I hS1 (fun _ h=>h.1) l hf).2 hS2 _ (gone_tr I hRT hS1) hbk)
theorem cut_ok {l:Lv} {x:den l.ty} (h:cutTo l st=some x) (I:Inv C st a w G):∃ G',Inv C (mkSt l x) a w G':=by
  unfold cutTo at h
  split at h
  case h_2=>cases h
  rename_i u ts hf
  exact cut0_ok h (frz_inv hf I)
theorem lookup_some {β:Type}:∀ (l:List (Nat × β)) {d:Nat} {o:β},l.lookup d=some o->(d,o) ∈ l
  | [],_,_,h=>by cases h
  | (k,v) :: l,d,o,h=>by
    rw [List.lookup_cons] at h
    cases hk:d == k
    · rw [hk] at h;exact List.mem_cons_of_mem _ (lookup_some l h)
    · rw [hk] at h;cases h
      have:d=k:=by simpa using hk
      rw [this];exact List.mem_cons_self
/-- Slots that lead to roots. -/
theorem alslots:∀ (al:Al) {st:St},Inv C st a w G->(∀ p ∈ al,(∃ g h l,st (rk p.2.1)=.root g h p.2.2 l)/\a.tmps.getD p.1 undef=G.hd (rk p.2.1)/\(G.hd (rk p.2.1)).oneCell'=true)->Inv C (upds st (alU al)) a w G
  | [],st,I,_=>I
  | p :: al,st,I,h=>by
    obtain ⟨⟨g,hh,ll,h1⟩,h2,h3⟩:=h p List.mem_cons_self
    have hs:=upd_slotStep I.toInvM p.1 (.sv (.ref p.2.1 0 p.2.2)) (.inl ⟨_,rfl⟩)
    have I':Inv C (upd st (sk p.1) (.sv (.ref p.2.1 0 p.2.2))) a w G:=by
      refine { toInvM:=hs.invM I.toInvM,sl:=fun j v hv=>?_,df:=I.df,sz:=I.sz,pa:=I.pa }
      by_cases hj:j=p.1
      · subst hj
        rw [upd_same] at hv;injection hv with hv;subst hv
        refine hs.sw I.toInvM ⟨[G.hd (rk p.2.1)],h2,G.hd (rk p.2.1),rfl,h3,Nat.zero_le _,fun h' e' l' hr=>?_⟩
        rw [h1] at hr;cases hr;exact ⟨rfl,rfl⟩
      · rw [upd_ne _ _ (fun e=>hj (sk_inj e))] at hv
        exact hs.sw I.toInvM (I.sl j v hv)
    refine alslots al I' fun q hq=>?_
    obtain ⟨⟨g',hh',ll',k1⟩,k2,k3⟩:=h q (List.mem_cons_of_mem _ hq)
    exact ⟨⟨g',hh',ll',by rw [upd_ne _ _ (sk_ne_rk _ _).symm];exact k1⟩,k2,k3⟩
theorem cutA_ok {l:Lv} {al:Al} {x:den l.ty} (h:cutA l al st=some x) (I:Inv C st a w G):∃ G',Inv C (mkStA l al x) a w G':=by
  unfold cutA at h
  split at h
  case h_2=>cases h
  rename_i u ts hf
  have I2:=frz_inv hf I
  split at h
  case h_2=>cases h
  rename_i x' rs bs he
  cases hb:(nodupB (rs.filterMap (·.2)) && nodupB (bs.map (·.2)) && nodupB (l.map (·.1)) && al.all (alOk (upds (upds st (goneU ts)) u) rs (mkSt l x')))
  · rw [hb] at h;cases h
  rw [hb] at h
  simp only [cond_true,Option.some.injEq] at h
  subst h
  simp only [Bool.and_eq_true,nodupB_iff,List.all_eq_true] at hb
  obtain ⟨⟨⟨hrn,hbn⟩,hln⟩,hal⟩:=hb
  obtain ⟨G',I',hM⟩:=cut1_ok he hrn hbn hln I2
  refine ⟨G',alslots al I' fun p hp=>?_⟩
  have hk:=hal p hp
  unfold alOk at hk
  split at hk
  case h_2=>cases hk
  rename_i t g e0 hs
  split at hk
  case h_2=>cases hk
  rename_i g' h0 e0' l0 g1 h1 e1 l1 t' hr hr1 hlk
  simp only [Bool.and_eq_true,Nat.beq_eq_true_eq,decide_eq_true_eq,Nat.beq_eq] at hk
  obtain ⟨⟨⟨k1,k2⟩,k3⟩,k4⟩:=hk
  subst k1;subst k2;subst k3;subst k4
  obtain ⟨c,c1,v,c2,c3,c4,c5⟩:=I2.sl p.1 _ hs
  have hv:=(c5 _ _ _ hr).1
  have hm:(p.2.1,some t) ∈ rs:=lookup_some rs hlk
  have he:G'.hd (rk p.2.1)=v:=by rw [hM _ _ hm,hv]
  refine ⟨⟨_,_,_,hr1⟩,?_,by rw [he];exact c3⟩
  rw [c1,c2,he];rfl
end
end Go.Proofs.YtefmjjpdflpnaaaGreat.E
namespace Go.Proofs.YtefmjjpdflpnaaaGreat.E
open Go Go.RowKit
set_option linter.unusedVariables false
set_option linter.unusedSimpArgs false
/-- A loop that goes down in steps of a number. -/
theorem wp_loop_ix {P:Program} {Q:Exit->Act->World->Prop} {c:Code} (I:Nat->Act->World->Prop) (round:∀ n a w,I n a w->c.wp P (Exit.then (fun a' w'=>∃ m,m < n/\I m a' w') Q) a w) {n:Nat} {a:Act} {w:World} (h₀:I n a w):(Code.loop c).wp P Q a w:=by
  intro b k cs
  have key:∀ n a w,I n a w->∃ e a' w',Q e a' w'/\Arrives P (lone (b.at a (.code c :: .inLoop c :: k)) cs w) b k cs e a' w':=by
    intro n
    induction n using Nat.strongRecOn with
    | _ n ih =>
      intro a w hI
      obtain ⟨e,a₁,w₁,hq,harr⟩:=round n a w hI b (.inLoop c :: k) cs
      cases e with
      | normal =>
        obtain ⟨m,hlt,hI₁⟩:=hq
        obtain ⟨e₂,a₂,w₂,hq₂,harr₂⟩:=ih m hlt a₁ w₁ hI₁
        exact ⟨e₂,a₂,w₂,hq₂,.of_steps (Steps.trans harr (.one step_inLoop)) harr₂⟩
      | exit id=>exact ⟨_,a₁,w₁,hq,.pass (x:=.inLoop c) rfl (fun _ _=>.inl (by simp)) harr⟩
      | goto l=>exact ⟨_,a₁,w₁,hq,.pass (x:=.inLoop c) rfl (fun _ _=>.inl (by simp)) harr⟩
      | ret=>exact ⟨_,a₁,w₁,hq,.pass (x:=.inLoop c) rfl (fun _ _=>.inl (by simp)) harr⟩
      | panic ch=>exact ⟨_,a₁,w₁,hq,.pass (x:=.inLoop c) rfl (fun _ _=>.inl (by simp)) harr⟩
      | outgrown=>exact ⟨_,a₁,w₁,hq,.pass (x:=.inLoop c) rfl (fun _ _=>.inl (by simp)) harr⟩
  obtain ⟨e,a',w',hq,harr⟩:=key n a w h₀
  exact ⟨e,a',w',hq,.of_steps (.one step_loop) harr⟩
/-- A loop's plain function is what the loop does. -/
def LpS (C:Cx) {R:Type} (f:LoopS R) (c:Code):Prop:=∀ (r:R) (st:St) (kx:Nat->St->Option R) (kr:St->Option R) (a:Act) (w:World) (G:Gh) (Q:Exit->Act->World->Prop),f st kx kr=some r->Inv C st a w G →
  (∀ i st' a' w' G',kx i st'=some r->Inv C st' a' w' G'->Q (.exit i) a' w')->(∀ st' a' w' G',kr st'=some r->Inv C st' a' w' G'->Q .ret a' w')->(Code.loop c).wp C.P Q a w
def SgS (C:Cx) {R:Type} (J:SegS R) (c:Code):Prop:=∀ (r:R) (st:St) (kn:St->Option R) (kx:Nat->St->Option R) (kr:St->Option R) (a:Act) (w:World) (G:Gh) (Q:Exit->Act->World->Prop),J st kn kx kr=some r->Inv C st a w G →
  (∀ st' a' w' G',kn st'=some r->Inv C st' a' w' G'->Q .normal a' w')->(∀ i st' a' w' G',kx i st'=some r->Inv C st' a' w' G'->Q (.exit i) a' w')->(∀ st' a' w' G',kr st'=some r->Inv C st' a' w' G'->Q .ret a' w')->c.wp C.P Q a w
def LpOk (C:Cx) {R:Type} (en:Env R):Code->Prop
  | .seq x y=>LpOk C en x/\(∀ J,en.S (rid y)=some J->SgS C J y)/\(en.S (rid y)=none->LpOk C en y)
  | .cond _ x y=>((∀ J,en.S (rid x)=some J->SgS C J x)/\(en.S (rid x)=none->LpOk C en x))/\(∀ J,en.S (rid y)=some J->SgS C J y)/\(en.S (rid y)=none->LpOk C en y)
  | .block _ c=>LpOk C en c
  | .loop c=>∀ f,en.L (rid c)=some f->LpS C f c
  | _=>True
theorem evC_sound {C:Cx} {cf:Cfg} {R:Type} {en:Env R} (O:CfgOk C cf) (hmix:C.P.follows .mixedOrders=true) {r:R}:∀ (c:Code) {st:St} {kn:St->Option R} {kx:Nat->St->Option R} {kr:St->Option R} {a:Act} {w:World} {G:Gh} {Q:Exit->Act->World->Prop},
    LpOk C en c->evC cf en c st kn kx kr=some r->Inv C st a w G->(∀ st' a' w' G',kn st'=some r->Inv C st' a' w' G'->Q .normal a' w')->(∀ i st' a' w' G',kx i st'=some r->Inv C st' a' w' G'->Q (.exit i) a' w') →
    (∀ st' a' w' G',kr st'=some r->Inv C st' a' w' G'->Q .ret a' w')->c.wp C.P Q a w
  | .skip,st,kn,kx,kr,a,w,G,Q,hl,h,I,hn,hx,hr=>wp_skip (hn _ _ _ _ h I)
  | .region id ops draw,st,kn,kx,kr,a,w,G,Q,hl,h,I,hn,hx,hr=>evR_sound O hmix h I hn
  | .seq x y,st,kn,kx,kr,a,w,G,Q,hl,h,I,hn,hx,hr=>by
    simp only [evC] at h
    split at h
    · rename_i J hJ
      exact wp_seq (evC_sound O hmix x hl.1 h I (fun st' a' w' G' h' I'=>hl.2.1 J hJ r st' kn kx kr a' w' G' Q h' I' hn hx hr) hx hr)
    · rename_i hJ
      exact wp_seq (evC_sound O hmix x hl.1 h I (fun st' a' w' G' h' I'=>evC_sound O hmix y (hl.2.2 hJ) h' I' hn hx hr) hx hr)
  | .cond c x y,st,kn,kx,kr,a,w,G,Q,hl,h,I,hn,hx,hr=>by
    have bx:(match en.S (rid x) with | some J=>J st kn kx kr | none=>evC cf en x st kn kx kr)=some r->x.wp C.P Q a w:=fun h=>by
      split at h
      · rename_i J hJ
        exact hl.1.1 J hJ r st kn kx kr a w G Q h I hn hx hr
      · rename_i hJ
        exact evC_sound O hmix x (hl.1.2 hJ) h I hn hx hr
    have by_:(match en.S (rid y) with | some J=>J st kn kx kr | none=>evC cf en y st kn kx kr)=some r->y.wp C.P Q a w:=fun h=>by
      split at h
      · rename_i J hJ
        exact hl.2.1 J hJ r st kn kx kr a w G Q h I hn hx hr
      · rename_i hJ
        exact evC_sound O hmix y (hl.2.2 hJ) h I hn hx hr
    unfold evC at h
    split at h
    · rename_i t
      split at h
      case h_2=>cases h
      rename_i b hv
      have hc:a.eval (.tmp t)=.bool b:=SW_bool (I.sl t _ hv)
      refine wp_cond_split hc (fun e=>?_) (fun e=>?_)
      · subst e
        rw [if_pos rfl] at h
        exact bx h
      · subst e
        rw [if_neg (by simp)] at h
        exact by_ h
    · rename_i b
      have hc:a.eval (.const (.bool b))=.bool b:=rfl
      refine wp_cond_split hc (fun e=>?_) (fun e=>?_)
      · subst e
        rw [if_pos rfl] at h
        exact bx h
      · subst e
        rw [if_neg (by simp)] at h
        exact by_ h
    · cases h
  | .block id c,st,kn,kx,kr,a,w,G,Q,hl,h,I,hn,hx,hr=>by
    refine wp_block (evC_sound O hmix c hl h I hn (fun i st' a' w' G' h' I'=>?_) hr)
    show if i=id then Q .normal a' w' else Q (.exit i) a' w'
    by_cases e:i=id
    · subst e
      rw [Nat.beq_refl] at h'
      rw [if_pos rfl];exact hn _ _ _ _ h' I'
    · have:Nat.beq i id=false:=by
        cases hb:Nat.beq i id
        · rfl
        · exact absurd (Nat.eq_of_beq_eq_true hb) e
      rw [this] at h'
      rw [if_neg e];exact hx _ _ _ _ _ h' I'
  | .loop c,st,kn,kx,kr,a,w,G,Q,hl,h,I,hn,hx,hr=>by
    simp only [evC] at h
    split at h
    · rename_i f hf
      exact hl f hf r st kx kr a w G Q h I hx hr
    · cases h
  | .exit id,st,kn,kx,kr,a,w,G,Q,hl,h,I,hn,hx,hr=>by
    simp only [evC] at h
    split at h
    · rename_i l _
      split at h
      · rename_i x hc
        obtain ⟨G',I'⟩:=cut_ok hc I
        exact wp_exit (hx _ _ _ _ _ h I')
      · cases h
    · exact wp_exit (hx _ _ _ _ _ h I)
  | .ret,st,kn,kx,kr,a,w,G,Q,hl,h,I,hn,hx,hr=>by
    simp only [evC] at h
    split at h
    · rename_i x hc
      obtain ⟨G',I'⟩:=cut_ok hc I
      exact wp_ret (hr _ _ _ _ h I')
    · cases h
  | .goto _,st,kn,kx,kr,a,w,G,Q,hl,h,I,hn,hx,hr=>by simp [evC] at h
  | .label _,st,kn,kx,kr,a,w,G,Q,hl,h,I,hn,hx,hr=>by simp [evC] at h
  | .rangeFunc _ _ _ _,st,kn,kx,kr,a,w,G,Q,hl,h,I,hn,hx,hr=>by simp [evC] at h
  | .scope _,st,kn,kx,kr,a,w,G,Q,hl,h,I,hn,hx,hr=>by simp [evC] at h
/-- The loop's own theorem (slots may share roots): its plain function, by fuel, against one round of the evaluator. -/
theorem loopA_sound {C:Cx} {cf:Cfg} {R:Type} (O:CfgOk C cf) (hmix:C.P.follows .mixedOrders=true) {lv:Lv} {al:Al} {f:Nat->den lv.ty->(Nat->St->Option R)->(St->Option R)->Option R} {en:Nat->Env R} {c:Code}
    (h0:∀ x kx kr,f 0 x kx kr=none) (hs:∀ k x kx kr,f (k + 1) x kx kr=evC cf (en k) c (mkStA lv al x) (fun s=>mkLoopA lv al (f k) s kx kr) kx kr) (hl:∀ k,LpOk C (en k) c) (k:Nat):LpS C (mkLoopA lv al (f k)) c:=by
  intro r st kx kr a w G Q h I hx hr
  have one:∀ k st a w G,mkLoopA lv al (f k) st kx kr=some r->Inv C st a w G->∃ x G',f k x kx kr=some r/\Inv C (mkStA lv al x) a w G':=fun k st a w G h I=>by
    unfold mkLoopA at h
    split at h
    · rename_i x hc
      obtain ⟨G',I'⟩:=cutA_ok hc I
      exact ⟨x,G',h,I'⟩
    · cases h
  obtain ⟨x,G',h',I'⟩:=one k st a w G h I
  refine wp_loop_ix (fun n a w=>∃ x G,f n x kx kr=some r/\Inv C (mkStA lv al x) a w G) (fun n a w hI=>?_) (n:=k) ⟨x,G',h',I'⟩
  obtain ⟨x,G,h,I⟩:=hI
  cases n with
  | zero=>rw [h0] at h;cases h
  | succ n =>
    rw [hs] at h
    exact evC_sound O hmix c (hl n) h I (fun st' a' w' G' h1 I1=>by
      obtain ⟨y,G2,h2,I2⟩:=one n st' a' w' G' h1 I1
      exact ⟨n,Nat.lt_succ_self n,y,G2,h2,I2⟩) hx hr
/-- A segment's own theorem. -/
theorem seg_sound {C:Cx} {cf:Cfg} {R:Type} (O:CfgOk C cf) (hmix:C.P.follows .mixedOrders=true) {l ln:Lv} {f:den l.ty->(den ln.ty->Option R)->(Nat->St->Option R)->(St->Option R)->Option R} {en:Env R} {c:Code}
    (hs:∀ x kn kx kr,f x kn kx kr=evC cf en c (mkSt l x) (cutK ln kn) kx kr) (hl:LpOk C en c):SgS C (mkSeg l ln f) c:=by
  intro r st kn kx kr a w G Q h I hn hx hr
  unfold mkSeg at h
  split at h
  case h_2=>cases h
  rename_i x hc
  obtain ⟨G',I'⟩:=cut_ok hc I
  rw [hs] at h
  refine evC_sound O hmix c hl h I' (fun st' a' w' G2 h' I2=>?_) hx hr
  unfold cutK at h'
  split at h'
  case h_2=>cases h'
  rename_i y hy
  obtain ⟨G3,I3⟩:=cut_ok hy I2
  exact hn _ _ _ _ h' I3
end Go.Proofs.YtefmjjpdflpnaaaGreat.E
