/-
  Parts of owned trees, taken out and put back; new boxes, stores into boxes and elements. Conditions: those of each theorem.
-/
import Derived.Test.YtefmjjpdflpnaaaGreatCFnFormulas1
namespace Go.Proofs.YtefmjjpdflpnaaaGreat.E
open Go Go.RowKit
set_option linter.unusedVariables false
set_option linter.unusedSimpArgs false
theorem TC_nil:∀ (T:Ty) {w:World} {cs:List Value} {x:den T} {bs:List Nat},T.mem=false->TC T w cs x bs->bs=[]
  | .int _,_,_,_,_,_,h=>h.2
  | .bool,_,_,_,_,_,h=>h.2
  | .str,_,_,_,_,_,h=>h.2
  | .unit,_,_,_,_,_,h=>h.2
  | .pair a b,_,_,_,_,hm,h=>by
    obtain ⟨c1,c2,b1,b2,_,rfl,h1,h2⟩:=h
    simp only [Ty.mem,Bool.or_eq_false_iff] at hm
    rw [TC_nil a hm.1 h1,TC_nil b hm.2 h2];rfl
  | .st f,_,cs,x,_,hm,h=>TC_nil f (cs:=cs) (x:=x) hm h
  | .tup _,_,_,_,_,_,h=>h.elim
  | .arr _ _,_,_,_,_,_,h=>h.1
  | .sl _,_,_,_,_,hm,_=>by simp [Ty.mem] at hm
  | .ptr _,_,_,_,_,hm,_=>by simp [Ty.mem] at hm
  | .fn _ _,_,_,_,_,hm,_=>by simp [Ty.mem] at hm
  | .frm,_,_,_,_,hm,_=>by simp [Ty.mem] at hm
theorem RX_nomem {P:Program} {T:Ty} {w w':World} {S:Nat->Prop} {cs:List Value} {x:den T} {bs:List Nat} (hm:T.mem=false) (h:TC T w cs x bs):RX P T false w S cs x:=by
  have:=TC_nil T hm h
  subst this
  exact RX_of_TC P T h fun b hb=>by cases hb
theorem TCF_head {w:World} {c z:Int} {vs:List Value} {ps:List Frm} {bs:List Nat} (h:TCF w (.int .u8 c :: vs) (.mk c ps) bs):TCF w (.int .u8 z :: vs) (.mk z ps) bs:=by
  cases h with
  | nil=>exact .nil z
  | node _ b o n k arr ty bss _ hn hh hk ho hl hq=>exact .node z b o n k arr ty bss ps hn hh hk ho hl hq
theorem TCF_shape {w:World} {cs:List Value} {x:Frm} {bs:List Nat} (h:TCF w cs x bs):∃ v,cs=[.int .u8 x.c,v]/\x=.mk x.c x.ps:=by
  cases h with
  | nil c=>exact ⟨_,rfl,rfl⟩
  | node c b o n k arr ty bss ps hn hh hk ho hl hq=>exact ⟨_,rfl,rfl⟩
theorem TCF_sl {w:World} {cs:List Value} {x:Frm} {bs:List Nat} (h:TCF w cs x bs):∃ v,cs=[.int .u8 x.c,v]/\TC (.sl (.st .frm)) w [v] x.ps bs:=by
  cases h with
  | nil c=>exact ⟨_,rfl,.inl ⟨rfl,rfl,rfl⟩⟩
  | node c b o n k arr ty bss ps hn hh hk ho hl hq=>exact ⟨_,rfl,.inr ⟨b,o,n,k,arr,ty,bss,rfl,rfl,hn,hh,hk,ho,hl,hq⟩⟩
/-- A field of a struct of owned trees: taken out and put back. -/
theorem TC_lensF {w:World}:∀ (f:Ty) {cs:List Value} {x:den f} {bs:List Nat} (n:Nat),TC f w cs x bs->∃ b1 b2 b3,bs=b1 ++ b2 ++ b3/\TC (fld f n) w (seg cs (off f n) (fld f n).sz) (getF f x n) b2 ∧
    ∀ (w':World) (ys:List Value) (z:den (fld f n)) (b':List Nat),(∀ b,b ∈ b1 ++ b3->w'.heap[b]?=w.heap[b]?)->TC (fld f n) w' ys z b'->TC f w' (setSeg cs (off f n) ys) (setF f x n z) (b1 ++ b' ++ b3)
  | .pair a b,cs,x,bs,0,h=>by
    obtain ⟨c1,c2,b1,b2,rfl,rfl,h1,h2⟩:=h
    refine ⟨[],b1,b2,rfl,?_,fun w' ys z b' hb hz=>?_⟩
    · simp only [off,fld,getF];rw [<-TC_len _ _ _ _ _ h1,seg_app1];exact h1
    · simp only [off]
      rw [setSeg_app1 _ _ _ ((TC_len _ _ _ _ _ hz).trans (TC_len _ _ _ _ _ h1).symm)]
      exact ⟨ys,c2,b',b2,rfl,rfl,hz,TC_congr b (fun b hm=>hb b (by simpa using hm)) h2⟩
  | .pair a b,cs,x,bs,n + 1,h=>by
    obtain ⟨c1,c2,b1,b2,rfl,rfl,h1,h2⟩:=h
    obtain ⟨d1,d2,d3,rfl,h3,h4⟩:=TC_lensF b n h2
    refine ⟨b1 ++ d1,d2,d3,by simp [List.append_assoc],?_,fun w' ys z b' hb hz=>?_⟩
    · simp only [off,fld,getF];rw [<-TC_len _ _ _ _ _ h1,seg_app2];exact h3
    · simp only [off]
      rw [<-TC_len _ _ _ _ _ h1,setSeg_app2]
      refine ⟨c1,_,b1,d1 ++ b' ++ d3,rfl,by simp [List.append_assoc],TC_congr a (fun b hm=>hb b (by simp [hm])) h1,h4 w' ys z b' (fun b hm=>hb b ?_) hz⟩
      simp only [List.mem_append] at hm ⊢
      rcases hm with hm | hm <;> simp [hm]
  | .int _,cs,x,bs,n,h=>⟨bs,[],[],by simp,by cases n <;> exact TC_unit,fun w' ys z b' hb hz=>by cases n <;> (obtain ⟨rfl,rfl⟩:=hz;rw [setSeg_nil];simp only [List.append_nil];exact h)⟩
  | .bool,cs,x,bs,n,h=>⟨bs,[],[],by simp,by cases n <;> exact TC_unit,fun w' ys z b' hb hz=>by cases n <;> (obtain ⟨rfl,rfl⟩:=hz;rw [setSeg_nil];simp only [List.append_nil];exact h)⟩
  | .str,cs,x,bs,n,h=>⟨bs,[],[],by simp,by cases n <;> exact TC_unit,fun w' ys z b' hb hz=>by cases n <;> (obtain ⟨rfl,rfl⟩:=hz;rw [setSeg_nil];simp only [List.append_nil];exact h)⟩
  | .unit,cs,x,bs,n,h=>⟨bs,[],[],by simp,by cases n <;> exact TC_unit,fun w' ys z b' hb hz=>by cases n <;> (obtain ⟨rfl,rfl⟩:=hz;rw [setSeg_nil];simp only [List.append_nil];exact h)⟩
  | .st f,cs,x,bs,n,h=>⟨bs,[],[],by simp,by cases n <;> exact TC_unit,fun w' ys z b' hb hz=>by
      cases n <;> (obtain ⟨rfl,rfl⟩:=hz;rw [setSeg_nil];simp only [List.append_nil];exact TC_congr (.st f) (fun b hm=>hb b (by simp [hm])) h)⟩
  | .tup _,cs,x,bs,n,h=>h.elim
  | .sl e,cs,x,bs,n,h=>⟨bs,[],[],by simp,by cases n <;> exact TC_unit,fun w' ys z b' hb hz=>by
      cases n <;> (obtain ⟨rfl,rfl⟩:=hz;rw [setSeg_nil];simp only [List.append_nil];exact TC_congr (.sl e) (fun b hm=>hb b (by simp [hm])) h)⟩
  | .arr k e,cs,x,bs,n,h=>⟨bs,[],[],by simp,by cases n <;> exact TC_unit,fun w' ys z b' hb hz=>by
      cases n <;> (obtain ⟨rfl,rfl⟩:=hz;rw [setSeg_nil];simp only [List.append_nil];exact TC_congr (.arr k e) (fun b hm=>hb b (by simp [hm])) h)⟩
  | .ptr _,cs,x,bs,n,h=>h.elim
  | .fn _ _,cs,x,bs,n,h=>h.elim
  | .frm,cs,x,bs,0,h=>by
    have h:TCF w cs x bs:=h
    obtain ⟨v,rfl,hx⟩:=TCF_shape h
    refine ⟨bs,[],[],by simp,⟨rfl,rfl⟩,fun w' ys z b' hb hz=>?_⟩
    obtain ⟨rfl,rfl⟩:=hz
    have h2:=TCF_congr h (w':=w') fun b hm=>hb b (by simpa using hm)
    rw [hx] at h2
    simp only [List.append_nil]
    exact TCF_head h2
  | .frm,cs,x,bs,1,h=>by
    have h:TCF w cs x bs:=h
    obtain ⟨v,rfl,h1⟩:=TCF_sl h
    refine ⟨[],bs,[],by simp,h1,fun w' ys z b' hb hz=>?_⟩
    · have hy:=TC_len _ _ _ _ _ hz
      have:∃ u,ys=[u]:=by
        cases ys with
        | nil=>cases hy
        | cons u r=>cases r with
          | nil=>exact ⟨u,rfl⟩
          | cons _ _=>simp [Ty.sz,fld] at hy
      obtain ⟨u,rfl⟩:=this
      simp only [List.nil_append,List.append_nil]
      exact TCF_of_sl x.c hz
  | .frm,cs,x,bs,n + 2,h=>⟨bs,[],[],by simp,TC_unit,fun w' ys z b' hb hz=>by
      obtain ⟨rfl,rfl⟩:=hz;rw [setSeg_nil];simp only [List.append_nil];exact TC_congr .frm (fun b hm=>hb b (by simp [hm])) h⟩
theorem TC_lensP {w:World}:∀ (fs:List Nat) (T:Ty) {cs:List Value} {x:den T} {bs:List Nat},TC T w cs x bs->∃ b1 b2 b3,bs=b1 ++ b2 ++ b3 ∧
    TC (tyP fs T) w (seg cs (offP fs T) (tyP fs T).sz) (getP_ty fs T x ▸ (getP fs T x).2) b2 ∧
    ∀ (w':World) (ys:List Value) (z:den (tyP fs T)) (b':List Nat),(∀ b,b ∈ b1 ++ b3->w'.heap[b]?=w.heap[b]?)->TC (tyP fs T) w' ys z b'->TC T w' (setSeg cs (offP fs T) ys) (setP fs T x ⟨tyP fs T,z⟩) (b1 ++ b' ++ b3)
  | [],T,cs,x,bs,h=>by
    refine ⟨[],bs,[],by simp,?_,fun w' ys z b' hb hz=>?_⟩
    · simp only [tyP,offP,getP];rw [seg_all (TC_len _ _ _ _ _ h)];exact h
    · simp only [offP,List.nil_append,List.append_nil]
      rw [setSeg_all ((TC_len _ _ _ _ _ hz).trans (TC_len _ _ _ _ _ h).symm)]
      have:setP [] T x ⟨tyP [] T,z⟩=z:=by unfold setP;exact dif_pos rfl
      rw [this];exact hz
  | n :: r,.st f,cs,x,bs,h=>by
    obtain ⟨b1,b2,b3,rfl,h1,h2⟩:=TC_lensF f n (cs:=cs) (x:=x) h
    obtain ⟨d1,d2,d3,rfl,h3,h4⟩:=TC_lensP r (fld f n) h1
    have hle:=offP_le r (fld f n)
    have hle2:=off_le f n
    have hcl:cs.length=f.sz:=TC_len f w cs x _ h
    refine ⟨b1 ++ d1,d2,d3 ++ b3,by simp [List.append_assoc],?_,fun w' ys z b' hb hz=>?_⟩
    · rw [seg_seg _ hle] at h3;exact h3
    · have hyl:=TC_len _ _ _ _ _ hz
      have hyl:ys.length=(tyP r (fld f n)).sz:=hyl
      have k1:=h4 w' ys z b' (fun b hm=>hb b (by simp only [List.mem_append] at hm ⊢;rcases hm with hm | hm <;> simp [hm])) hz
      have k2:=h2 w' _ _ _ (fun b hm=>hb b (by simp only [List.mem_append] at hm ⊢;rcases hm with hm | hm <;> simp [hm])) k1
      rw [setSeg_comp (by omega) (by omega)] at k2
      have e:b1 ++ d1 ++ b' ++ (d3 ++ b3)=b1 ++ (d1 ++ b' ++ d3) ++ b3:=by simp [List.append_assoc]
      rw [e];exact k2
  | _ :: _,.int _,cs,x,bs,h=>⟨bs,[],[],by simp,TC_unit,fun w' ys z b' hb hz=>by obtain ⟨rfl,rfl⟩:=hz;rw [setSeg_nil];simp only [List.append_nil];exact h⟩
  | _ :: _,.bool,cs,x,bs,h=>⟨bs,[],[],by simp,TC_unit,fun w' ys z b' hb hz=>by obtain ⟨rfl,rfl⟩:=hz;rw [setSeg_nil];simp only [List.append_nil];exact h⟩
  | _ :: _,.str,cs,x,bs,h=>⟨bs,[],[],by simp,TC_unit,fun w' ys z b' hb hz=>by obtain ⟨rfl,rfl⟩:=hz;rw [setSeg_nil];simp only [List.append_nil];exact h⟩
  | _ :: _,.unit,cs,x,bs,h=>⟨bs,[],[],by simp,TC_unit,fun w' ys z b' hb hz=>by obtain ⟨rfl,rfl⟩:=hz;rw [setSeg_nil];simp only [List.append_nil];exact h⟩
  | _ :: _, .pair a b, cs, x, bs, h => ⟨bs, [], [], by simp, TC_unit, fun w' ys z b' hb hz => by
      obtain ⟨rfl,rfl⟩:=hz;rw [setSeg_nil];simp only [List.append_nil];exact TC_congr (.pair a b) (fun b hm=>hb b (by simp [hm])) h⟩
  | _ :: _, .frm, cs, x, bs, h => ⟨bs, [], [], by simp, TC_unit, fun w' ys z b' hb hz => by
      obtain ⟨rfl,rfl⟩:=hz;rw [setSeg_nil];simp only [List.append_nil];exact TC_congr .frm (fun b hm=>hb b (by simp [hm])) h⟩
  | _ :: _,.tup _,_,_,_,h=>h.elim
  | _ :: _, .sl e, cs, x, bs, h => ⟨bs, [], [], by simp, TC_unit, fun w' ys z b' hb hz => by
      obtain ⟨rfl,rfl⟩:=hz;rw [setSeg_nil];simp only [List.append_nil];exact TC_congr (.sl e) (fun b hm=>hb b (by simp [hm])) h⟩
  | _ :: _, .arr k e, cs, x, bs, h => ⟨bs, [], [], by simp, TC_unit, fun w' ys z b' hb hz => by
      obtain ⟨rfl,rfl⟩:=hz;rw [setSeg_nil];simp only [List.append_nil];exact TC_congr (.arr k e) (fun b hm=>hb b (by simp [hm])) h⟩
  | _ :: _,.ptr _,_,_,_,h=>h.elim
  | _ :: _,.fn _ _,_,_,_,h=>h.elim
/-- An element of a slice that is owned: taken out and put back. -/
theorem TC_lensR {w:World} {e:Ty} {hd:Value} {l:List (den e)} {bs:List Nat} (h:TC (.sl e) w [hd] l bs) {i:Nat} (hi:i < l.length) :
    ∃ b o c arr ty b1 b2 b3,hd=.slice (some ⟨b,o,none⟩) l.length c/\w.heap[b]?=some (.cells arr ty (0,0))/\o + c * e.sz<=arr.size/\l.length<=c/\bs=b :: (b1 ++ b2 ++ b3) ∧
      TC e w (seg arr.toList (o + i * e.sz) e.sz) (l.getD i (dflt e)) b2 ∧
      ∀ (w':World) (arr':Array Value) (y:den e) (c':List Value) (b':List Nat),b ∉ b1 ++ b3->w'.heap[b]?=some (.cells arr' ty (0,0))->arr'.toList=setSeg arr.toList (o + i * e.sz) c'->(∀ b,b ∈ b1 ++ b3->w'.heap[b]?=w.heap[b]?) →
        TC e w' c' y b'->TC (.sl e) w' [hd] (l.set i y) (b :: (b1 ++ b' ++ b3)):=by
  rcases h with ⟨_,hl,_⟩ | ⟨b,o,n,c,arr,ty,bss,h1,h2,h3,h4,h5,h6,h7,h8⟩
  · have hl:l=[]:=hl
    subst hl;simp at hi
  · have hn:n=l.length:=h3
    subst hn
    have hbi:i < bss.length:=by rw [h7];exact hi
    have hbs:bss=bss.take i ++ bss[i] :: bss.drop (i + 1):=by rw [<-List.drop_eq_getElem_cons hbi,List.take_append_drop]
    have hle:(i + 1) * e.sz<=c * e.sz:=Nat.mul_le_mul_right _ (by omega)
    rw [Nat.succ_mul] at hle
    refine ⟨b,o,c,arr,ty,(bss.take i).flatten,bss[i],(bss.drop (i + 1)).flatten,by simpa using h1,h4,h6,h5,?_,?_,fun w' arr' y c' b' hnb hb' ha' hother hy=>?_⟩
    · rw [h2];congr 1
      rw [congrArg List.flatten hbs,List.flatten_append,List.flatten_cons,List.append_assoc]
    · exact h8 i _ _ (by simp [hi]) (by simp [hbi])
    · have hcl:=TC_len _ _ _ _ _ hy
      have hAL:arr.toList.length=arr.size:=Array.length_toList
      have hal:arr'.size=arr.size:=by
        rw [<-Array.length_toList,ha',setSeg_len (l:=arr.toList) (ys:=c') (o:=o + i * e.sz) (by omega),Array.length_toList]
      refine .inr ⟨b,o,l.length,c,arr',ty,bss.set i b',by rw [show hd=_ from by simpa using h1],?_,by simp,hb',h5,by rw [hal];exact h6,by simp [h7],fun j z bj hz hj=>?_⟩
      · congr 1
        have:bss.set i b'=bss.take i ++ b' :: bss.drop (i + 1):=List.set_eq_take_append_cons_drop.trans (by rw [if_pos hbi])
        rw [this];simp [List.append_assoc]
      · by_cases hji:j=i
        · subst hji
          have hz:(l.set j y)[j]?=some z:=hz
          rw [List.getElem?_set_self (by simpa using hi)] at hz
          rw [List.getElem?_set_self hbi] at hj
          simp only [Option.some.injEq] at hz hj
          subst hz;subst hj
          rw [ha',<-hcl,seg_setSeg_same (l:=arr.toList) (ys:=c') (by rw [hcl];omega)]
          exact hy
        · have hz:(l.set i y)[j]?=some z:=hz
          rw [List.getElem?_set_ne (Ne.symm hji)] at hz
          rw [List.getElem?_set_ne (Ne.symm hji)] at hj
          have hjl:=(List.getElem?_eq_some_iff.1 hz).1
          have hmj:(j + 1) * e.sz<=c * e.sz:=Nat.mul_le_mul_right _ (by omega)
          rw [Nat.succ_mul] at hmj
          have key:=h8 j z bj hz hj
          rw [ha',seg_setSeg_apart (l:=arr.toList) (ys:=c') (by rw [hcl];omega)]
          · refine TC_congr e (fun b0 hm=>hother b0 ?_) key
            have hjb:=(List.getElem?_eq_some_iff.1 hj)
            obtain ⟨hjlt,hjb⟩:=hjb
            rw [List.mem_append]
            by_cases hlt:j < i
            · left;exact List.mem_flatten.2 ⟨bj,List.mem_iff_getElem.2 ⟨j,by simp;omega,by simp [hjb]⟩,hm⟩
            · right
              refine List.mem_flatten.2 ⟨bj,List.mem_iff_getElem.2 ⟨j - (i + 1),by simp;omega,?_⟩,hm⟩
              simp only [List.getElem_drop]
              rw [<-hjb];congr 1;omega
          · rcases Nat.lt_or_gt_of_ne hji with hlt | hgt
            · left
              have:(j + 1) * e.sz<=i * e.sz:=Nat.mul_le_mul_right _ hlt
              rw [Nat.succ_mul] at this;omega
            · right
              have:(i + 1) * e.sz<=j * e.sz:=Nat.mul_le_mul_right _ hgt
              rw [Nat.succ_mul] at this;omega
end Go.Proofs.YtefmjjpdflpnaaaGreat.E
namespace Go.Proofs.YtefmjjpdflpnaaaGreat.E
open Go Go.RowKit
set_option linter.unusedVariables false
set_option linter.unusedSimpArgs false
theorem flatten_seg {α:Type} {k:Nat}:∀ (css:List (List α)) (i:Nat) (c:List α),(∀ (j:Nat) (d:List α),css[j]?=some d->d.length=k)->css[i]?=some c->seg css.flatten (i * k) k=c
  | [],i,c,_,h=>by simp at h
  | d :: css,0,c,hk,h=>by
    simp only [List.getElem?_cons_zero,Option.some.injEq] at h;subst h
    rw [Nat.zero_mul,List.flatten_cons,<-hk 0 d (by simp),seg_app1]
  | d :: css,i + 1,c,hk,h=>by
    rw [List.flatten_cons,Nat.succ_mul,Nat.add_comm (i * k) k]
    have:=hk 0 d (by simp)
    conv=>lhs;rw [<-this]
    rw [seg_app2,this]
    exact flatten_seg css i c (fun j d hj=>hk (j + 1) d (by simpa using hj)) (by simpa using h)
theorem getP_snoc:∀ (fs:List Nat) (T:Ty) (x:den T) (f:Ty) (z:den f) (n:Nat),getP fs T x=⟨.st f,z⟩->getP (fs ++ [n]) T x=⟨fld f n,getF f z n⟩
  | [],T,x,f,z,n,h=>by
    simp only [getP,Sigma.mk.injEq] at h
    obtain ⟨rfl,h⟩:=h;cases h;rfl
  | m :: r,.st F,x,f,z,n,h=>getP_snoc r (fld F m) (getF F x m) f z n h
  | _ :: _,.int _,_,_,_,_,h=>by simp [getP] at h
  | _ :: _,.bool,_,_,_,_,h=>by simp [getP] at h
  | _ :: _,.str,_,_,_,_,h=>by simp [getP] at h
  | _ :: _,.unit,_,_,_,_,h=>by simp [getP] at h
  | _ :: _,.pair _ _,_,_,_,_,h=>by simp [getP] at h
  | _ :: _,.tup _,_,_,_,_,h=>by simp [getP] at h
  | _ :: _,.sl _,_,_,_,_,h=>by simp [getP] at h
  | _ :: _,.arr _ _,_,_,_,_,h=>by simp [getP] at h
  | _ :: _,.ptr _,_,_,_,_,h=>by simp [getP] at h
  | _ :: _,.fn _ _,_,_,_,_,h=>by simp [getP] at h
section
variable {P:Program} {st:St} {G:Gh} {w:World} {S:Nat->Prop}
/-- The parts of an element of a root, as references. -/
theorem expS_ok {t g h:Nat} {i:Int} {e:Ty} {l:List (den e)} {b o n c:Nat} {arr:Array Value} {ty:TypeId} (hr:st (rk t)=.root g h e l) (h0:0<=i) (h1:i < (l.length:Int))
    (hd:G.hd (rk t)=.slice (some ⟨b,o,none⟩) n c) (hb:w.heap[b]?=some (.cells arr ty (0,0))) :
    ∀ (T:Ty),(∀ (x:den T) (fs:List Nat) (bs:List Nat),T.ownable=true->T.flds=true->T.isPU=false->getP fs e (l.getD i.toNat (dflt e))=⟨T,x⟩->TC T w (seg arr.toList (o + i.toNat * e.sz + offP fs e) T.sz) x bs →
        SX P st G w S (expS t g h i T x fs 0) false (seg arr.toList (o + i.toNat * e.sz + offP fs e) T.sz)/\(expS t g h i T x fs 0).hasTy T=true) ∧
      (∀ (f:Ty) (z:den f) (x:den T) (fs:List Nat) (m:Nat) (bs:List Nat),T.ownable=true->T.flds=true->T.isList=true->getP fs e (l.getD i.toNat (dflt e))=⟨.st f,z⟩->(∀ j,(⟨fld T j,getF T x j⟩:Sg)=⟨fld f (m + j),getF f z (m + j)⟩) →
        (∀ j,off f (m + j)=off f m + off T j)->TC T w (seg arr.toList (o + i.toNat * e.sz + offP fs e + off f m) T.sz) x bs →
        SX P st G w S (expS t g h i T x fs m) false (seg arr.toList (o + i.toNat * e.sz + offP fs e + off f m) T.sz)/\(expS t g h i T x fs m).hasTy T=true):=by
  intro T
  induction T with
  | frm=>exact ⟨fun x fs bs hw=>(by cases hw),fun f z x fs m bs hw=>(by cases hw)⟩
  | int k=>exact ⟨fun x fs bs _ _ _ _ ht=>⟨ht.1,by simp [expS,SV.hasTy]⟩,fun f z x fs m bs _ _ hl=>(by cases hl)⟩
  | bool=>exact ⟨fun x fs bs _ _ _ _ ht=>⟨ht.1,by simp [expS,SV.hasTy]⟩,fun f z x fs m bs _ _ hl=>(by cases hl)⟩
  | str=>exact ⟨fun x fs bs _ _ _ _ ht=>⟨ht.1,by simp [expS,SV.hasTy]⟩,fun f z x fs m bs _ _ hl=>(by cases hl)⟩
  | unit=>exact ⟨fun x fs bs _ _ hl=>(by cases hl),fun f z x fs m bs _ _ _ _ _ _ ht=>⟨ht.1,rfl⟩⟩
  | pair A B ihA ihB =>
    refine ⟨fun x fs bs hw hfl hl _ ht=>?_,fun f z x fs m bs hw hfl hl hg hf ho ht=>?_⟩
    · cases hl
    · obtain ⟨c1,c2,b1,b2,hc,rfl,h2,h3⟩:=ht
      simp only [Ty.ownable,Bool.and_eq_true] at hw
      simp only [Ty.flds,Bool.and_eq_true,Bool.not_eq_true'] at hfl
      have hty:tyP fs e=.st f:=by rw [<-getP_ty fs e (l.getD i.toNat (dflt e)),hg]
      obtain ⟨p1,p2⟩:=offP_snoc fs e f m hty
      have hl1:=TC_len _ _ _ _ _ h2
      have s1:seg arr.toList (o + i.toNat * e.sz + offP fs e + off f m) A.sz=c1:=by
        have:(seg arr.toList (o + i.toNat * e.sz + offP fs e + off f m) (A.sz + B.sz)).take A.sz=c1:=by rw [show A.sz + B.sz=(Ty.pair A B).sz from rfl,hc,<-hl1];simp
        rw [<-this];simp [seg,List.take_take]
      have s2:seg arr.toList (o + i.toNat * e.sz + offP fs e + off f (m + 1)) B.sz=c2:=by
        have e1:off f (m + 1)=off f m + A.sz:=by
          have:=ho 1
          rw [this];show off f m + (A.sz + off B 0)=_
          rw [show off B 0=0 from by cases B <;> rfl];omega
        have:(seg arr.toList (o + i.toNat * e.sz + offP fs e + off f m) (A.sz + B.sz)).drop A.sz=c2:=by rw [show A.sz + B.sz=(Ty.pair A B).sz from rfl,hc,<-hl1];simp
        rw [<-this,e1];simp [seg,List.drop_take,List.drop_drop,Nat.add_assoc]
      have k1:=ihA.1 x.1 (fs ++ [m]) b1 hw.1.2 hfl.1.2 hfl.1.1 (by rw [getP_snoc fs e _ f z m hg];exact (hf 0).symm) (by rw [p1,<-Nat.add_assoc,s1];exact h2)
      have k2:=ihB.2 f z x.2 fs (m + 1) b2 hw.2 hfl.2 hl hg (fun j=>by have:=hf (j + 1);rw [show m + (j + 1)=m + 1 + j from by omega] at this;exact this) (fun j=>by
        have h5:=ho (j + 1)
        have h6:=ho 1
        rw [show m + (j + 1)=m + 1 + j from by omega] at h5
        rw [h5,h6];show off f m + (A.sz + off B j)=off f m + (A.sz + off B 0) + off B j
        rw [show off B 0=0 from by cases B <;> rfl];omega) (by rw [s2];exact h3)
      rw [p1,<-Nat.add_assoc,s1] at k1
      rw [s2] at k2
      refine ⟨?_,by simp [expS,SV.hasTy,k1.2,k2.2]⟩
      rw [hc]
      exact ⟨c1,c2,rfl,k1.1,k2.1⟩
  | st f ih =>
    refine ⟨fun x fs bs hw hfl _ hg ht=>?_,fun f z x fs m bs _ _ hl=>(by cases hl)⟩
    unfold expS
    cases hm:f.mem
    · simp only [cond_false]
      exact ⟨RX_nomem (w':=w) (T:=.st f) hm ht,by simp [SV.hasTy]⟩
    · simp only [cond_true]
      simp only [Ty.flds,Bool.and_eq_true] at hfl
      have e0:off f 0=0:=by cases f <;> rfl
      have k:=ih.2 f x x fs 0 bs hw hfl.2 hfl.1 hg (fun j=>by rw [Nat.zero_add]) (fun j=>by rw [Nat.zero_add,e0,Nat.zero_add]) (by rw [e0,Nat.add_zero];exact ht)
      rw [e0,Nat.add_zero] at k
      exact ⟨k.1,k.2⟩
  | tup f ih=>exact ⟨fun x fs bs _ _ _ _ ht=>ht.elim,fun f z x fs m bs _ _ hl=>(by cases hl)⟩
  | sl e2 ih =>
    refine ⟨fun x fs bs hw hfl _ hg ht=>?_,fun f z x fs m bs _ _ hl=>(by cases hl)⟩
    have hlen:=TC_len _ _ _ _ _ ht
    obtain ⟨v,hv⟩:=List.length_eq_one_iff.1 (show (seg arr.toList (o + i.toNat * e.sz + offP fs e) 1).length=1 from hlen)
    have hone:=TC_one ht
    refine ⟨⟨v,hv,hone v (by rw [show (seg arr.toList (o + i.toNat * e.sz + offP fs e) (Ty.sl e2).sz)=[v] from hv];simp),by rw [hr];exact Nat.le_refl _,fun h' e' l' hr'=>?_,fun e' l' hr'=>?_⟩,by simp [expS,SV.hasTy]⟩
    · rw [hr] at hr';cases hr';exact Nat.le_refl _
    · rw [hr] at hr';cases hr'
      exact ⟨h0,h1,⟨x,hg⟩,b,o,n,c,arr,ty,(0,0),hd,hb,by have:=of_seg_one hv;simpa using this⟩
  | arr k e2 ih=>exact ⟨fun x fs bs hw _ _ _ ht=>⟨RX_nomem (w':=w) (T:=.arr k e2) (by simpa [Ty.ownable,Ty.mem] using hw) ht,by simp [expS,SV.hasTy]⟩,fun f z x fs m bs _ _ hl=>(by cases hl)⟩
  | ptr e2 ih=>exact ⟨fun x fs bs hw=>(by cases hw),fun f z x fs m bs hw=>(by cases hw)⟩
  | fn A R ihA ihR=>exact ⟨fun x fs bs hw=>(by cases hw),fun f z x fs m bs hw=>(by cases hw)⟩
end
section
variable {C:Cx} {cf:Cfg} {dst:Option Tmp} {type:TypeId} {pos:String} {after:Array Edge} {guard:Option (Nat × Bool)}
theorem arr_elem {P:Program} {w:World} {S:Nat->Prop} {n:Nat} {e:Ty} {cs:List Value} {l:List (den e)} (h:RX P (.arr n e) false w S cs l) {i:Int} (h0:0<=i) (h1:i < (n:Int)) :
    RX P e false w S (seg cs (i.toNat * e.sz) e.sz) (l.getD i.toNat (dflt e)):=by
  obtain ⟨hx,css,rfl,hl,hc⟩:=h
  have hx:l.length=n:=hx
  have hi:i.toNat < l.length:=by omega
  have hic:i.toNat < css.length:=by omega
  have hk:∀ (j:Nat) (d:List Value),css[j]?=some d->d.length=e.sz:=fun j d hj=>by
    obtain ⟨y,hy⟩:=some_of_len (hl.trans hx.symm) hj
    exact RX_len P _ _ _ _ _ (hc j d y hj hy)
  rw [flatten_seg css i.toNat css[i.toNat] hk (by simp [hic])]
  exact hc i.toNat _ _ (by simp [hic]) (by simp [hi])
theorem snd_load (O:CfgOk C cf) {t:TypeId} {x:Operand}:Snd C cf ⟨dst,.load t x,type,pos,after,guard⟩:=by
  intro st a w G us next Q I h hn
  simp only [exec] at h
  obtain ⟨p,hp,h⟩:=opd_run I h
  split at h
  case h_2=>exact (Rn_fail.1 h).elim
  rename_i T hty
  have ho:=O.ty _ _ hty
  have hgo:∀ {v:SV} {b o:Nat} {arr:Array Value} {et:TypeId} {fz:Nat × Nat},Rn (wr cf dst v []) st us->SX C.P st G w (Fz st G w) v false (seg arr.toList o T.sz)->valS v (seg arr.toList o T.sz)=valOf T (seg arr.toList o T.sz) →
      a.eval x=.pointer (some ⟨b,o,none⟩)->w.heap[b]?=some (.cells arr et fz)->o + T.sz<=arr.size->(⟨dst,.load t x,type,pos,after,guard⟩:Oper).wp C.P a w next Q:=by
    intro v b o arr et fz h hs hv hx hb hl
    have:=SW_of hs
    refine snd_val O I h this hn ?_
    rw [hv]
    simp only [execOp,hx]
    exact exec_value (by unfold Instr.loadAt;simp only [Instr.sureAddr,Sem.run_bind,pure_run,Result.andThen_ok];exact loadVar_run ho hb hl)
  unfold execLoad at h
  split at h
  · rename_i b g fs
    rw [Rn_get] at h
    split at h
    · rename_i g' B c hr
      rw [Rn_chk] at h
      have hg:g=g':=Nat.eq_of_beq_eq_true h.1
      subst hg
      have h2:=h.2
      split at h2
      · rename_i c' hc'
        rw [Rn_bif] at h2
        rcases h2 with ⟨hb,h2⟩ | ⟨_,h2⟩
        · simp only [Bool.and_eq_true,decide_eq_true_eq] at hb
          obtain ⟨rfl,hct⟩:=hb
          obtain ⟨cc,hx,v,rfl,_,hgen,hl⟩:=hp
          have hx:a.eval x=v:=hx
          obtain ⟨ht,arr,ty,ha,hs⟩:=I.bx _ _ _ _ hr
          obtain ⟨k1,k2⟩:=SX_atP fs c B ht hs hc'
          have hle:=offP_le fs B
          have hcl:=SX_len c B ht hs
          rw [Array.length_toList] at hcl
          exact hgo h2 k2 (valS_res k1) (by rw [hx,hl _ _ hr]) ha (by omega)
        · exact (Rn_fail.1 h2).elim
      · exact (Rn_fail.1 h2).elim
    · exact (Rn_fail.1 h).elim
  · rename_i b g fs i
    rw [Rn_get] at h
    split at h
    · rename_i g' B c hr
      rw [Rn_chk] at h
      have hg:g=g':=Nat.eq_of_beq_eq_true h.1
      subst hg
      have h2:=h.2
      split at h2
      · rename_i n e l hc'
        rw [Rn_bif] at h2
        rcases h2 with ⟨hb,h2⟩ | ⟨_,h2⟩
        · simp only [Bool.and_eq_true,decide_eq_true_eq] at hb
          obtain ⟨rfl,hB⟩:=hb
          obtain ⟨cc,hx,v,rfl,_,hgen,hl⟩:=hp
          have hx:a.eval x=v:=hx
          obtain ⟨n',e',he',i0,i1,rfl⟩:=hl _ _ hr
          rw [hB] at he';injection he' with q1 q2;subst q1;subst q2
          obtain ⟨ht,arr,ty,ha,hs⟩:=I.bx _ _ _ _ hr
          obtain ⟨k1,k2⟩:=SX_atP fs c B ht hs hc'
          have hle:=offP_le fs B
          have hcl:=SX_len c B ht hs
          rw [Array.length_toList] at hcl
          rw [hB] at k2 hle
          have k3:=arr_elem k2 i0 i1
          have hm:(i.toNat + 1) * e.sz<=n * e.sz:=Nat.mul_le_mul_right _ (by omega)
          rw [Nat.succ_mul] at hm
          rw [seg_seg _ (show i.toNat * e.sz + e.sz<=(Ty.arr n e).sz from hm)] at k3
          have hsz:(Ty.arr n e).sz=n * e.sz:=rfl
          exact hgo h2 k3 rfl hx ha (by omega)
        · exact (Rn_fail.1 h2).elim
      · exact (Rn_fail.1 h2).elim
    · exact (Rn_fail.1 h).elim
  · rename_i s g i fs
    rw [Rn_get] at h
    split at h
    · rename_i g' hh e l hr
      rw [Rn_chk] at h
      have hg:g=g':=Nat.eq_of_beq_eq_true h.1
      subst hg
      have h2:=h.2
      obtain ⟨cc,hx,v,rfl,_,hgen,hl⟩:=hp
      have hx:a.eval x=v:=hx
      obtain ⟨i0,i1,b,o,n,cp,e1,rfl⟩:=hl _ _ _ hr
      obtain ⟨b',o',n',c',arr',ty',bi,k1,k2,k3,k4,k5,k6,k7⟩:=root_elem I.toInvM hr i0 i1
      rw [k1] at e1;simp only [Value.slice.injEq,Option.some.injEq,Addr.mk.injEq] at e1
      obtain ⟨⟨rfl,rfl,_⟩,rfl,rfl⟩:=e1
      obtain ⟨bs',p1,p2⟩:=TC_path fs e k5
      have hty':=getP_ty fs e (l.getD i.toNat (dflt e))
      have hle:=offP_le fs e
      have hm:(i.toNat + 1) * e.sz<=l.length * e.sz:=Nat.mul_le_mul_right _ (by omega)
      rw [Nat.succ_mul] at hm
      cases hgp:getP fs e (l.getD i.toNat (dflt e)) with
      | mk T' y =>
        rw [hgp] at h2 p1 hty'
        simp only at h2
        rw [Rn_bif] at h2
        rcases h2 with ⟨hb,h2⟩ | ⟨_,h2⟩
        · simp only [Bool.and_eq_true,decide_eq_true_eq,Bool.not_eq_true'] at hb
          obtain ⟨⟨⟨rfl,hw⟩,hfl⟩,hpu⟩:=hb
          have hty':T'=tyP fs e:=hty'
          rw [<-hty'] at hle
          rw [seg_seg _ hle] at p1
          cases hmem:T'.mem
          · rw [hmem] at h2
            exact hgo h2 (RX_nomem (w':=w) hmem p1) rfl hx k2 (by omega)
          · rw [hmem] at h2
            obtain ⟨q1,q2⟩:=(expS_ok (P:=C.P) (S:=Fz st G w) hr i0 i1 k1 k2 T').1 y fs bs' hw hfl hpu hgp p1
            exact hgo h2 q1 (valS_res q2) hx k2 (by omega)
        · exact (Rn_fail.1 h2).elim
    · exact (Rn_fail.1 h).elim
  · rename_i e y
    rw [Rn_bif] at h
    rcases h with ⟨hb,h⟩ | ⟨_,h⟩
    · have hb:=of_decide_eq_true hb
      subst hb
      obtain ⟨cc,hx,b,o,arr,ty,fz,rfl,_,hh,hsz,hs⟩:=hp
      exact hgo (v:=.val e y) h hs rfl hx hh hsz
    · exact (Rn_fail.1 h).elim
  · exact (Rn_fail.1 h).elim
theorem alloc_size (w:World) (o:Obj):(w.alloc o).heap.size=w.heap.size + 1:=by show (w.heap.push o).size=_;exact Array.size_push _
theorem newBox (O:CfgOk C cf) {st:St} {a:Act} {w:World} {G:Gh} (I:Inv C st a w G) {d:Nat} {T:Ty} {v:SV} {cs:List Value} (ht:v.hasTy T=true) (hs:SX C.P st G w (Fz st G w) v false cs) (t:TypeId) :
    Inv C (upd st (bk d) (.box ((st (bk d)).gen + 1) T v)) a (w.alloc (.cells cs.toArray t)) { G with bx:=fun k=>if k=bk d then w.heap.size else G.bx k }:=by
  have h0:Step0 st G w (upd st (bk d) (.box ((st (bk d)).gen + 1) T v)) { G with bx:=fun k=>if k=bk d then w.heap.size else G.bx k } (w.alloc (.cells cs.toArray t)) [bk d] (fun _=>False):={
    s0:=rfl
    os:=rfl,tape:=rfl,output:=rfl,size:=by rw [alloc_size];omega,block:=fun b hb _=>by rw [alloc_get,if_neg (by omega)],own:=fun b hb=>hb.elim
    out:=fun k hk=>by
      simp only [List.mem_singleton] at hk
      exact ⟨upd_ne _ _ hk,rfl,rfl,by simp [hk]⟩
    nosk:=fun i hi=>by simp only [List.mem_singleton] at hi;exact sk_ne_bk _ _ hi
    ks:=fun k hk=>by
      simp only [List.mem_singleton] at hk;subst hk
      refine ⟨by rw [upd_same];exact Nat.le_succ _,fun g h e l hr hg=>?_,fun g T c hr hg=>?_,fun g hr hg=>?_⟩
      · rw [upd_same] at hr;cases hr
      · rw [upd_same] at hr;cases hr;omega
      · rw [upd_same] at hr;cases hr
    sub:=fun k hk b hb=>by
      simp only [List.mem_singleton] at hk;subst hk
      unfold ownB at hb;rw [upd_same] at hb
      simp at hb;exact .inr (by omega)
    lt:=fun k hk b hb=>by
      simp only [List.mem_singleton] at hk;subst hk
      unfold ownB at hb;rw [upd_same] at hb
      simp at hb;rw [alloc_size];omega
    nd:=fun k hk=>by
      simp only [List.mem_singleton] at hk;subst hk
      unfold ownB;rw [upd_same];simp
    dj:=fun k hk k' hk' b _ _=>by
      simp only [List.mem_singleton] at hk hk';rw [hk,hk'] }
  refine Step.inv I { toStep0:=h0,rt:=fun k hk g h e l hr=>?_,bx:=fun k hk g T' v' hr=>?_ }
  · simp only [List.mem_singleton] at hk;subst hk
    rw [upd_same] at hr;cases hr
  · simp only [List.mem_singleton] at hk;subst hk
    rw [upd_same] at hr;cases hr
    refine ⟨ht,cs.toArray,t,?_,?_⟩
    · simp only [if_true];rw [alloc_get,if_pos rfl]
    · exact SX.tr h0.size (fun b hb _=>h0.fz I.toInvM hb) (fun b hb=>hb.1) (h0.kstep I.toInvM) _ _ hs
theorem RX_dflt {P:Program} {w:World} {S:Nat->Prop}:∀ (T:Ty),T.vok=true->RX P T false w S (zc T) (dflt T)
  | .int _,_=>rfl
  | .bool,_=>rfl
  | .str,_=>rfl
  | .unit,_=>rfl
  | .pair a b,h=>by
    simp only [Ty.vok,Bool.and_eq_true] at h
    exact ⟨_,_,rfl,RX_dflt a h.1,RX_dflt b h.2⟩
  | .st f,h=>RX_dflt f h
  | .arr n e,h=>by
    refine ⟨by simp [dflt],List.replicate n (zc e),rfl,by simp,fun i c y hc hy=>?_⟩
    have hc:c=zc e:=by
      rw [List.getElem?_replicate] at hc
      split at hc
      · simpa using hc.symm
      · cases hc
    have hy:y=dflt e:=by
      have hy:(List.replicate n (dflt e))[i]?=some y:=hy
      rw [List.getElem?_replicate] at hy
      split at hy
      · simpa using hy.symm
      · cases hy
    rw [hc,hy];exact RX_dflt e h
  | .tup _,h=>by cases h
  | .sl _,h=>by cases h
  | .ptr _,h=>by cases h
  | .fn _ _,h=>by cases h
  | .frm,h=>by cases h
theorem zeroSV_ok {P:Program} {st:St} {G:Gh} {w:World} {S:Nat->Prop}:∀ (T:Ty) {z:SV},zeroSV T=some z->z.hasTy T=true/\SX P st G w S z false (zc T)
  | .int k,z,h=>by simp [zeroSV,Ty.vok] at h;subst h;exact ⟨by simp [SV.hasTy],RX_dflt (.int k) rfl⟩
  | .bool,z,h=>by simp [zeroSV,Ty.vok] at h;subst h;exact ⟨by simp [SV.hasTy],RX_dflt .bool rfl⟩
  | .str,z,h=>by simp [zeroSV,Ty.vok] at h;subst h;exact ⟨by simp [SV.hasTy],RX_dflt .str rfl⟩
  | .unit,z,h=>by simp [zeroSV] at h;subst h;exact ⟨rfl,rfl⟩
  | .pair a b,z,h=>by
    unfold zeroSV at h
    split at h
    · rename_i x y hx hy
      simp only [Option.some.injEq] at h;subst h
      obtain ⟨h1,h2⟩:=zeroSV_ok a (P:=P) (st:=st) (G:=G) (w:=w) (S:=S) hx
      obtain ⟨h3,h4⟩:=zeroSV_ok b (P:=P) (st:=st) (G:=G) (w:=w) (S:=S) hy
      exact ⟨by simp [SV.hasTy,h1,h3],_,_,rfl,h2,h4⟩
    · cases h
  | .st f,z,h=>by
    unfold zeroSV at h
    cases hv:f.vok
    · rw [hv] at h;simp only [cond_false,Option.map_eq_some_iff] at h
      obtain ⟨x,hx,rfl⟩:=h
      obtain ⟨h1,h2⟩:=zeroSV_ok f (P:=P) (st:=st) (G:=G) (w:=w) (S:=S) hx
      exact ⟨h1,h2⟩
    · rw [hv] at h;simp only [cond_true,Option.some.injEq] at h;subst h
      exact ⟨by simp [SV.hasTy],RX_dflt (.st f) hv⟩
  | .arr n e,z,h=>by
    unfold zeroSV at h
    cases hv:(Ty.arr n e).vok
    · rw [hv] at h;cases h
    · rw [hv] at h;simp only [cond_true,Option.some.injEq] at h;subst h
      exact ⟨by simp [SV.hasTy],RX_dflt (.arr n e) hv⟩
  | .sl e,z,h=>by simp [zeroSV] at h;subst h;exact ⟨rfl,rfl⟩
  | .tup _,z,h=>by cases h
  | .ptr _,z,h=>by cases h
  | .fn _ _,z,h=>by cases h
  | .frm,z,h=>by cases h
theorem pbx_new' {P:Program} {st:St} {w w':World} {S:Nat->Prop} {G:Gh} {d g:Nat} {T:Ty} {v:SV}:SW P (upd st (bk d) (.box g T v)) { G with bx:=fun k=>if k=bk d then w.heap.size else G.bx k } w' S (.pbx d g []) (.pointer (some ⟨w.heap.size,0,none⟩)) :=
  ⟨[_],rfl,_,rfl,rfl,by rw [upd_same];exact Nat.le_refl _,fun T' c hr=>by rw [upd_same] at hr;cases hr;simp [offP]⟩
theorem snd_alloc (O:CfgOk C cf) {t:TypeId}:Snd C cf ⟨dst,.alloc t,type,pos,after,guard⟩:=by
  intro st a w G us next Q I h hn
  simp only [exec] at h
  split at h
  case h_2=>exact (Rn_fail.1 h).elim
  rename_i T d hty
  have ho:=O.ty _ _ hty
  split at h
  case h_2=>exact (Rn_fail.1 h).elim
  rename_i z hz
  rw [Rn_get] at h
  obtain ⟨h1,h2⟩:=zeroSV_ok T (P:=C.P) (st:=st) (G:=G) (w:=w) (S:=Fz st G w) hz
  have I':=newBox O I (d:=8 * d) h1 h2 t
  obtain ⟨i,hi,hsz,hby,_,hzz⟩:=ho.info
  have hzz:=hzz (zok_of hz)
  refine wp_value (v:=.pointer (some ⟨w.heap.size,0,none⟩)) (w':=w.alloc (.cells (zc T).toArray t)) ?_ (hn _ _ _ (wr_sound O h I' (fun p hp i=>by
    simp only [List.mem_singleton] at hp;subst hp;exact (sk_ne_bk _ _).symm) pbx_new'))
  simp only [execOp]
  refine exec_value ?_
  have hzr:(zeroValue t).run C.P w=.ok (valOf T (zc T)) w:=by
    simp [zeroValue,typeInfo,run_program,hi,hzz]
  have hnv:=newVar_run (w:=w) ho (SX_len z T h1 h2) (SX_one z h2)
  unfold Instr.alloc
  simp only [Sem.run_bind,hzr,Result.andThen_ok,hnv,pure_run]
theorem snd_box (O:CfgOk C cf) {t:TypeId} {x:Operand}:Snd C cf ⟨dst,.box t x,type,pos,after,guard⟩:=by
  intro st a w G us next Q I h hn
  simp only [exec] at h
  obtain ⟨v,hv,h⟩:=opd_run I h
  split at h
  case h_2=>exact (Rn_fail.1 h).elim
  rename_i T d hty _
  have ho:=O.ty _ _ hty
  rw [Rn_bif] at h
  rcases h with ⟨ht,h⟩ | ⟨_,h⟩
  case inr=>exact (Rn_fail.1 h).elim
  rw [Rn_get] at h
  obtain ⟨c,hx,hl,hs⟩:=SW_hasTy hv ht
  have I':=newBox O I (d:=8 * d) ht hs t
  refine wp_value (v:=.pointer (some ⟨w.heap.size,0,none⟩)) (w':=w.alloc (.cells c.toArray t)) ?_ (hn _ _ _ (wr_sound O h I' (fun p hp i=>by
    simp only [List.mem_singleton] at hp;subst hp;exact (sk_ne_bk _ _).symm) pbx_new'))
  simp only [execOp,hx]
  refine exec_value ?_
  unfold Instr.box
  simp only [Sem.run_bind,newVar_run ho hl (SX_one v hs),Result.andThen_ok,pure_run]
end
end Go.Proofs.YtefmjjpdflpnaaaGreat.E
namespace Go.Proofs.YtefmjjpdflpnaaaGreat.E
open Go Go.RowKit
set_option linter.unusedVariables false
set_option linter.unusedSimpArgs false
section
variable {C:Cx} {cf:Cfg} {dst:Option Tmp} {type:TypeId} {pos:String} {after:Array Edge} {guard:Option (Nat × Bool)} {st:St} {a:Act} {w:World} {G:Gh} {α:Type} {u:α}
def RT (st:St) (p:Nat × Nat):Prop:=∃ h e l,st (rk p.1)=.root p.2 h e l
def blk (G:Gh) (r:List (Nat × Nat)):List Nat:=(r.map fun p=>G.bl (rk p.1)).flatten
theorem TV_of_TC {T:Ty} {w:World} {c:List Value} {x:den T} {bs:List Nat} (h:TC T w c x bs):TV T false w [valOf T c] x bs:=by
  cases T <;> first | exact ⟨c,rfl,h⟩ | exact h.elim
theorem blk_append (G:Gh) (r s:List (Nat × Nat)):blk G (r ++ s)=blk G r ++ blk G s:=by simp [blk]
theorem mv_run (I:InvM C st w G) (v:SV):∀ (T:Ty) (m:Bool) {f:den T->List (Nat × Nat)->M α} {cs:List Value},Rn (mv T v f) st u->SX C.P st G w (Fz st G w) v m cs →
    ∃ x r,(if m=true then TV T true w cs x (blk G r) else TC T w cs x (blk G r))/\Rn (f x r) st u/\(∀ p ∈ r,RT st p)/\(m=false->valS v cs=valOf T cs):=by
  induction v with
  | val T' x =>
    intro T m f cs h hs
    cases m
    case true=>exact hs.elim
    have h:Rn (if h:T'=T then bif T.mem then .fail else f (h ▸ x) [] else .fail) st u:=by
      cases T <;> exact h
    split at h
    · rename_i e;subst e
      rw [Rn_bif] at h
      rcases h with ⟨_,h⟩ | ⟨hm,h⟩
      · exact (Rn_fail.1 h).elim
      · exact ⟨x,[],by simpa [blk] using TC_of_RX C.P T' hm hs,h,fun p hp=>(by cases hp),fun _=>rfl⟩
    · exact (Rn_fail.1 h).elim
  | nil =>
    intro T m f cs h hs
    cases m
    case true=>exact hs.elim
    cases T <;> simp only [mv] at h <;> try exact (Rn_fail.1 h).elim
    have hs:cs=[.slice none 0 0]:=hs
    subst hs
    exact ⟨[],[],by simpa [blk] using (show TC (.sl _) w [.slice none 0 0] [] [] from .inl ⟨rfl,rfl,rfl⟩),h,fun p hp=>(by cases hp),fun _=>rfl⟩
  | ref t g e1 =>
    intro T m f cs h hs
    cases m
    case true=>exact hs.elim
    cases T <;> simp only [mv] at h <;> try exact (Rn_fail.1 h).elim
    rename_i e
    rw [Rn_get] at h
    split at h
    · rename_i g' hh e' l hr
      split at h
      · rename_i e2;subst e2
        rw [Rn_chk] at h
        have hg:g=g':=Nat.eq_of_beq_eq_true h.1
        subst hg
        obtain ⟨x,rfl,_,_,hx⟩:=hs
        obtain ⟨rfl,_⟩:=hx _ _ _ hr
        exact ⟨l,[(t,g)],by simpa [blk] using I.rt _ _ _ _ _ hr,h.2,fun p hp=>by
          simp only [List.mem_singleton] at hp;subst hp;exact ⟨hh,e',l,hr⟩,fun _=>rfl⟩
      · exact (Rn_fail.1 h).elim
    · exact (Rn_fail.1 h).elim
  | sub t g h0 i fs e1=>intro T m f cs h hs;cases T <;> simp only [mv] at h <;> exact (Rn_fail.1 h).elim
  | vw t g lo n e=>intro T m f cs h hs;cases T <;> simp only [mv] at h <;> exact (Rn_fail.1 h).elim
  | sap t g h i fs e l gd=>intro T m f cs h hs;cases T <;> simp only [mv] at h <;> exact (Rn_fail.1 h).elim
  | pel t g i fs=>intro T m f cs h hs;cases T <;> simp only [mv] at h <;> exact (Rn_fail.1 h).elim
  | pbx b g fs=>intro T m f cs h hs;cases T <;> simp only [mv] at h <;> exact (Rn_fail.1 h).elim
  | pix b g fs i=>intro T m f cs h hs;cases T <;> simp only [mv] at h <;> exact (Rn_fail.1 h).elim
  | clo k fi ca _ _=>intro T m f cs h hs;cases T <;> simp only [mv] at h <;> exact (Rn_fail.1 h).elim
  | mp t g=>intro T m f cs h hs;cases T <;> simp only [mv] at h <;> exact (Rn_fail.1 h).elim
  | unit =>
    intro T m f cs h hs
    cases T <;> simp only [mv] at h <;> try exact (Rn_fail.1 h).elim
    have hs:cs=[]:=by cases m <;> exact hs
    subst hs
    exact ⟨(),[],by cases m <;> simp [blk,TV,TC],h,fun p hp=>(by cases hp),fun _=>rfl⟩
  | st a ih =>
    intro T m f cs h hs
    cases m
    case true=>exact hs.elim
    cases T <;> try (simp only [mv] at h;exact (Rn_fail.1 h).elim)
    rename_i F
    by_cases hF:F=.frm
    · subst hF
      have h:Rn (mv frF a fun x r=>f (toFrm x) r) st u:=by simpa only [mv] using h
      obtain ⟨x,r,h1,h2,h3,h4⟩:=ih frF false h (cs:=cs) hs
      exact ⟨toFrm x,r,TCF_of_frF h1,h2,h3,fun _=>rfl⟩
    · have h:Rn (mv F a f) st u:=by cases F <;> first | exact h | exact absurd rfl hF
      obtain ⟨x,r,h1,h2,h3,h4⟩:=ih _ false h (cs:=cs) hs
      exact ⟨x,r,h1,h2,h3,fun _=>rfl⟩
  | tup a ih=>intro T m f cs h hs;cases m <;> exact hs.elim
  | pair a b iha ihb =>
    intro T m f cs h hs
    cases T <;> simp only [mv] at h <;> try exact (Rn_fail.1 h).elim
    rename_i A B
    cases m
    · obtain ⟨c1,c2,rfl,h1,h2⟩:=hs
      obtain ⟨x,r,x1,x2,x3,x4⟩:=iha A false h h1
      obtain ⟨y,s,y1,y2,y3,y4⟩:=ihb B false x2 h2
      refine ⟨(x,y),r ++ s,?_,y2,fun p hp=>?_,fun _=>rfl⟩
      · rw [blk_append];simp only [Bool.false_eq_true,if_false] at x1 y1 ⊢
        exact ⟨c1,c2,_,_,rfl,rfl,x1,y1⟩
      · rcases List.mem_append.1 hp with hp | hp
        · exact x3 p hp
        · exact y3 p hp
    · obtain ⟨c,rr,rfl,h1,h2⟩:=hs
      obtain ⟨x,r,x1,x2,x3,x4⟩:=iha A false h h1
      obtain ⟨y,s,y1,y2,y3,y4⟩:=ihb B true x2 h2
      refine ⟨(x,y),r ++ s,?_,y2,fun p hp=>?_,fun h=>by cases h⟩
      · rw [blk_append];simp only [Bool.false_eq_true,if_false,if_true] at x1 y1 ⊢
        rw [x4 rfl]
        exact ⟨_,rr,_,_,rfl,rfl,TV_of_TC x1,y1⟩
      · rcases List.mem_append.1 hp with hp | hp
        · exact x3 p hp
        · exact y3 p hp
theorem nodupB_iff:∀ l:List Nat,nodupB l=true ↔ l.Nodup
  | []=>by simp [nodupB]
  | a :: l=>by
    simp only [nodupB,Bool.and_eq_true,Bool.not_eq_true',List.nodup_cons,nodupB_iff l]
    refine and_congr_left fun _=>?_
    rw [Bool.eq_false_iff,ne_eq,List.any_eq_true]
    constructor
    · intro h hm;exact h ⟨a,hm,Nat.beq_refl a⟩
    · rintro h ⟨b,hm,hb⟩;rw [Nat.eq_of_beq_eq_true hb] at h;exact h hm
theorem own_of_RT {p:Nat × Nat} (h:RT st p):ownB st G (rk p.1)=G.bl (rk p.1):=by
  obtain ⟨hh,e,l,hr⟩:=h
  unfold ownB;rw [hr]
theorem blk_nodup (I:InvM C st w G):∀ (r:List (Nat × Nat)),(∀ p ∈ r,RT st p)->(r.map (·.1)).Nodup->(blk G r).Nodup
  | [],_,_=>by simp [blk]
  | p :: r,h,hn=>by
    simp only [List.map_cons,List.nodup_cons] at hn
    have h1:=h p List.mem_cons_self
    have e:blk G (p :: r)=G.bl (rk p.1) ++ blk G r:=by simp [blk]
    rw [e,List.nodup_append]
    refine ⟨by rw [<-own_of_RT h1];exact I.nd _,blk_nodup I r (fun q hq=>h q (List.mem_cons_of_mem _ hq)) hn.2,fun b hb b' hb' hbb=>?_⟩
    subst hbb
    obtain ⟨bs,hbs,hb''⟩:=List.mem_flatten.1 hb'
    obtain ⟨q,hq,rfl⟩:=List.mem_map.1 hbs
    have h2:=h q (List.mem_cons_of_mem _ hq)
    have:=I.dj (rk p.1) (rk q.1) b (by rw [own_of_RT h1];exact hb) (by rw [own_of_RT h2];exact hb'')
    exact hn.1 (List.mem_map.2 ⟨q,hq,(rk_inj this).symm⟩)
theorem blk_mem {r:List (Nat × Nat)} {b:Nat} (h:b ∈ blk G r):∃ p ∈ r,b ∈ G.bl (rk p.1):=by
  obtain ⟨bs,hbs,hb⟩:=List.mem_flatten.1 h
  obtain ⟨p,hp,rfl⟩:=List.mem_map.1 hbs
  exact ⟨p,hp,hb⟩
theorem upds_out:∀ (u:U) (s:St) (k:Nat),(∀ p ∈ u,p.1 ≠ k)->upds s u k=s k
  | [],s,k,_=>rfl
  | (j,c) :: r,s,k,h=>by
    show upds (upd s j c) r k=_
    rw [upds_out r _ k fun p hp=>h p (List.mem_cons_of_mem _ hp),upd_ne _ _ (Ne.symm (h (j,c) List.mem_cons_self))]
theorem goneU_out {r:List (Nat × Nat)} {s:St} {k:Nat} (h:∀ p ∈ r,rk p.1 ≠ k):upds s (goneU r) k=s k :=
  upds_out _ _ _ fun p hp=>by
    obtain ⟨q,hq,rfl⟩:=List.mem_map.1 hp;exact h q hq
theorem goneU_in:∀ (r:List (Nat × Nat)) (s:St),(r.map (·.1)).Nodup->∀ p ∈ r,upds s (goneU r) (rk p.1)=.gone p.2
  | [],_,_,p,hp=>by cases hp
  | q :: r,s,hn,p,hp=>by
    simp only [List.map_cons,List.nodup_cons] at hn
    show upds (upd s (rk q.1) (.gone q.2)) (goneU r) _=_
    rcases List.mem_cons.1 hp with rfl | hp
    · rw [goneU_out fun p' hp' e=>hn.1 (List.mem_map.2 ⟨p',hp',rk_inj e⟩),upd_same]
    · exact goneU_in r _ hn.2 p hp
theorem setRow_sz (w:World) (b:Nat) (c:Array Value):(w.setRow b c).heap.size=w.heap.size:=setRow_size w b c
theorem setBox (I:Inv C st a w G) {b g:Nat} {B:Ty} {c v:SV} (hr:st (bk b)=.box g B c) {arr:Array Value} {et:TypeId} (ha:w.heap[G.bx (bk b)]?=some (.cells arr et (0,0))) {cs:List Value} (ht:v.hasTy B=true)
    (hs:SX C.P st G w (Fz st G w) v false cs):Inv C (upd st (bk b) (.box g B v)) a (w.setRow (G.bx (bk b)) cs.toArray) G:=by
  have hin:G.bx (bk b) ∈ ownB st G (bk b):=by unfold ownB;rw [hr];simp
  have h0:Step0 st G w (upd st (bk b) (.box g B v)) G (w.setRow (G.bx (bk b)) cs.toArray) [bk b] (fun x=>x=G.bx (bk b)):={
    s0:=rfl
    os:=rfl,tape:=rfl,output:=rfl,size:=by rw [setRow_sz];exact Nat.le_refl _,block:=fun k hk hne=>by rw [setRow_get ha,if_neg hne],own:=fun k hk=>⟨bk b,by simp,by rw [hk];exact hin⟩
    out:=fun k hk=>by
      simp only [List.mem_singleton] at hk
      exact ⟨upd_ne _ _ hk,rfl,rfl,rfl⟩
    nosk:=fun i hi=>by simp only [List.mem_singleton] at hi;exact sk_ne_bk _ _ hi
    ks:=fun k hk=>by
      simp only [List.mem_singleton] at hk;subst hk
      refine ⟨by rw [upd_same,hr];exact Nat.le_refl _,fun g h e l hr' hg=>?_,fun g' T c' hr' hg=>?_,fun g' hr' hg=>?_⟩
      · rw [upd_same] at hr';cases hr'
      · rw [upd_same] at hr';cases hr';exact ⟨c,hr,rfl⟩
      · rw [upd_same] at hr';cases hr'
    sub:=fun k hk x hx=>by
      simp only [List.mem_singleton] at hk;subst hk
      unfold ownB at hx;rw [upd_same] at hx
      simp only [List.mem_singleton] at hx
      exact .inl ⟨bk b,by simp,by rw [hx];exact hin⟩
    lt:=fun k hk x hx=>by
      simp only [List.mem_singleton] at hk;subst hk
      unfold ownB at hx;rw [upd_same] at hx
      simp only [List.mem_singleton] at hx
      rw [hx,setRow_sz];exact (I.lt _ _ hin).1
    nd:=fun k hk=>by
      simp only [List.mem_singleton] at hk;subst hk
      unfold ownB;rw [upd_same];simp
    dj:=fun k hk k' hk' x _ _=>by
      simp only [List.mem_singleton] at hk hk';rw [hk,hk'] }
  refine Step.inv I { toStep0:=h0,rt:=fun k hk g h e l hr'=>?_,bx:=fun k hk g T' v' hr'=>?_ }
  · simp only [List.mem_singleton] at hk;subst hk
    rw [upd_same] at hr';cases hr'
  · simp only [List.mem_singleton] at hk;subst hk
    rw [upd_same] at hr';cases hr'
    exact ⟨ht,cs.toArray,et,by rw [setRow_get ha,if_pos rfl],SX.tr h0.size (fun b hb _=>h0.fz I.toInvM hb) (fun b hb=>hb.1) (h0.kstep I.toInvM) _ _ hs⟩
/-- A part of an element of a root is written; the roots r are used up by what is written. -/
theorem setElem2 (I:Inv C st a w G) {t g h:Nat} {e:Ty} {l:List (den e)} (hr:st (rk t)=.root g h e l) {i:Int} (h0:0<=i) (h1:i < (l.length:Int)) {fs:List Nat} {T:Ty} (hT:tyP fs e=T) {z:den T} {ys:List Value} {r:List (Nat × Nat)} {bz:List Nat}
    (hz:TC T w ys z bz) (hbn:bz.Nodup) (hro:∀ p ∈ r,ownB st G (rk p.1)=G.bl (rk p.1)) (hge:∀ p ∈ r,(st (rk p.1)).gen=p.2) (hnd:(t :: r.map (·.1)).Nodup) {b o n c:Nat} {arr:Array Value} {et:TypeId} (hd:G.hd (rk t)=.slice (some ⟨b,o,none⟩) n c) (hb:w.heap[b]?=some (.cells arr et (0,0)))
    (hbz:∀ b2 y,(∀ x ∈ b2,x ∈ G.bl (rk t))->TC T w (seg arr.toList (o + i.toNat * e.sz + offP fs e) T.sz) y b2->∀ x ∈ bz,x ∈ blk G r\/x ∈ b2) :
    o + i.toNat * e.sz + offP fs e + T.sz<=arr.size/\∃ G',Inv C (upds (upd st (rk t) (.root g (h + 1) e (l.set i.toNat (setP fs e (l.getD i.toNat (dflt e)) ⟨T,z⟩)))) (goneU r)) a
      (w.setRow b (setSeg arr.toList (o + i.toNat * e.sz + offP fs e) ys).toArray) G':=by
  have hi:i.toNat < l.length:=by omega
  have htc:=I.rt _ _ _ _ _ hr
  have hown:ownB st G (rk t)=G.bl (rk t):=by unfold ownB;rw [hr]
  obtain ⟨b',o',c',arr',ty',b1,b2,b3,k1,k2,k3,k4,k5,k6,k7⟩:=TC_lensR htc hi
  rw [hd] at k1;simp only [Value.slice.injEq,Option.some.injEq,Addr.mk.injEq] at k1
  obtain ⟨⟨rfl,rfl,_⟩,rfl,rfl⟩:=k1
  rw [hb] at k2;simp only [Option.some.injEq,Obj.cells.injEq] at k2
  obtain ⟨rfl,rfl,_⟩:=k2
  obtain ⟨d1,d2,d3,rfl,m1,m2⟩:=TC_lensP fs e k6
  subst hT
  have hle:=offP_le fs e
  have hyl:=TC_len _ _ _ _ _ hz
  have hm:(i.toNat + 1) * e.sz<=c * e.sz:=Nat.mul_le_mul_right _ (by omega)
  rw [Nat.succ_mul] at hm
  have hAL:arr.toList.length=arr.size:=Array.length_toList
  refine ⟨by omega,?_⟩
  simp only [List.nodup_cons] at hnd
  -- the world behind the store
  have hw:∀ k,(w.setRow b (setSeg arr.toList (o + i.toNat * e.sz + offP fs e) ys).toArray).heap[k]?=if k=b then some (.cells (setSeg arr.toList (o + i.toNat * e.sz + offP fs e) ys).toArray et (0,0)) else w.heap[k]?:=fun k=>setRow_get hb _ k
  generalize hw':w.setRow b (setSeg arr.toList (o + i.toNat * e.sz + offP fs e) ys).toArray=w' at hw
  have hsz:w'.heap.size=w.heap.size:=by rw [<-hw'];exact setRow_sz _ _ _
  have hos:w'.os=w.os:=by rw [<-hw'];rfl
  have hta:w'.tape=w.tape:=by rw [<-hw'];rfl
  have hou:w'.output=w.output:=by rw [<-hw'];rfl
  have hbnd:(b :: (b1 ++ (d1 ++ d2 ++ d3) ++ b3)).Nodup:=by rw [<-k5,<-hown];exact I.nd _
  have hrb:∀ x ∈ blk G r,x ∉ G.bl (rk t):=fun x hx hx'=>by
    obtain ⟨p,hp,hx⟩:=blk_mem hx
    have:=I.dj (rk t) (rk p.1) x (by rw [hown];exact hx') (by rw [hro p hp];exact hx)
    exact hnd.1 (List.mem_map.2 ⟨p,hp,(rk_inj this).symm⟩)
  have hd2:∀ x ∈ bz,x ∈ blk G r\/x ∈ d2:=by
    have m1':=m1
    rw [seg_seg _ hle] at m1'
    exact hbz d2 _ (fun x hx=>by rw [k5];simp [hx]) m1'
  have hnb:∀ x,x ≠ b->w'.heap[x]?=w.heap[x]?:=fun x hx=>by rw [hw,if_neg hx]
  simp only [List.nodup_cons,List.mem_append,not_or] at hbnd
  have hbr:b ∉ bz:=fun hx=>(hd2 b hx).elim (fun h=>hrb b h (by rw [k5];exact List.mem_cons_self)) hbnd.1.1.2.1.2
  have hz':TC (tyP fs e) w' ys z bz:=TC_congr _ (fun x hx=>hnb x fun e=>hbr (e ▸ hx)) hz
  have hel:=m2 w' ys z bz (fun x hx=>hnb x fun e=>by
    subst e;simp only [List.mem_append] at hx
    rcases hx with hx | hx
    · exact hbnd.1.1.2.1.1 hx
    · exact hbnd.1.1.2.2 hx) hz'
  have hroot:=k7 w' (setSeg arr.toList (o + i.toNat * e.sz + offP fs e) ys).toArray _ _ _ (fun hx=>by
    simp only [List.mem_append] at hx
    rcases hx with hx | hx
    · exact hbnd.1.1.1 hx
    · exact hbnd.1.2 hx) (by rw [hw,if_pos rfl]) (by
      show setSeg arr.toList (o + i.toNat * e.sz + offP fs e) ys=_
      rw [setSeg_comp (by omega) (by omega)]) (fun x hx=>hnb x fun e=>by
      subst e;simp only [List.mem_append] at hx
      rcases hx with hx | hx
      · exact hbnd.1.1.1 hx
      · exact hbnd.1.2 hx) hel
  have hnew:(b :: (b1 ++ (d1 ++ bz ++ d3) ++ b3)).Nodup:=by
    have hA:(b :: (b1 ++ (d1 ++ (d2 ++ d3)) ++ b3)).Nodup:=by
      have:(b :: (b1 ++ (d1 ++ d2 ++ d3) ++ b3)).Nodup:=by rw [<-k5,<-hown];exact I.nd _
      simpa [List.append_assoc] using this
    have hsub:List.Sublist (((b :: b1) ++ d1) ++ (d3 ++ b3)) (b :: (b1 ++ (d1 ++ (d2 ++ d3)) ++ b3)):=by
      have:(b :: (b1 ++ (d1 ++ (d2 ++ d3)) ++ b3))=((b :: b1) ++ d1) ++ (d2 ++ (d3 ++ b3)):=by simp [List.append_assoc]
      rw [this]
      exact List.Sublist.append (List.Sublist.refl _) (List.sublist_append_right _ _)
    have hN:=hA.sublist hsub
    have e1:b :: (b1 ++ (d1 ++ bz ++ d3) ++ b3)=((b :: b1) ++ d1) ++ (bz ++ (d3 ++ b3)):=by simp [List.append_assoc]
    have hrb2:∀ x ∈ bz,x ∉ ((b :: b1) ++ d1) ++ (d3 ++ b3):=fun x hx hx'=>by
      rcases hd2 x hx with h | h
      · refine hrb x h ?_
        rw [k5];simp only [List.mem_append,List.mem_cons] at hx' ⊢
        rcases hx' with ((hx' | hx') | hx') | (hx' | hx') <;> simp [hx']
      · have e2:(b :: (b1 ++ (d1 ++ (d2 ++ d3)) ++ b3))=((b :: b1) ++ d1) ++ (d2 ++ (d3 ++ b3)):=by simp [List.append_assoc]
        rw [e2,List.nodup_append] at hA
        rcases List.mem_append.1 hx' with h' | h'
        · exact hA.2.2 x h' x (List.mem_append_left _ h) rfl
        · exact (List.nodup_append.1 hA.2.1).2.2 x h x h' rfl
    rw [e1]
    rw [List.nodup_append] at hN ⊢
    refine ⟨hN.1,?_,fun x hx y hy hxy=>?_⟩
    · rw [List.nodup_append]
      exact ⟨hbn,hN.2.1,fun x hx y hy hxy=>hrb2 x hx (by rw [hxy];exact List.mem_append_right _ hy)⟩
    · subst hxy
      rcases List.mem_append.1 hy with hy | hy
      · exact hrb2 x hy (List.mem_append_left _ hx)
      · exact hN.2.2 x hx x hy rfl
  let G':Gh:={ G with bl:=fun k=>if k=rk t then b :: (b1 ++ (d1 ++ bz ++ d3) ++ b3) else G.bl k }
  have hst:∀ k,k ∉ rk t :: r.map (fun p=>rk p.1)->upds (upd st (rk t) (.root g (h + 1) e (l.set i.toNat (setP fs e (l.getD i.toNat (dflt e)) ⟨tyP fs e,z⟩)))) (goneU r) k=st k:=fun k hk=>by
    simp only [List.mem_cons,List.mem_map,not_or,not_exists,not_and] at hk
    rw [goneU_out fun p hp e=>hk.2 p hp e,upd_ne _ _ hk.1]
  have hst1:upds (upd st (rk t) (.root g (h + 1) e (l.set i.toNat (setP fs e (l.getD i.toNat (dflt e)) ⟨tyP fs e,z⟩)))) (goneU r) (rk t)=.root g (h + 1) e (l.set i.toNat (setP fs e (l.getD i.toNat (dflt e)) ⟨tyP fs e,z⟩)):=by
    rw [goneU_out fun p hp e=>hnd.1 (List.mem_map.2 ⟨p,hp,rk_inj e⟩),upd_same]
  have hst2:∀ p ∈ r,upds (upd st (rk t) (.root g (h + 1) e (l.set i.toNat (setP fs e (l.getD i.toNat (dflt e)) ⟨tyP fs e,z⟩)))) (goneU r) (rk p.1)=.gone p.2:=fun p hp=>goneU_in r _ hnd.2 p hp
  generalize hS:upds (upd st (rk t) (.root g (h + 1) e (l.set i.toNat (setP fs e (l.getD i.toNat (dflt e)) ⟨tyP fs e,z⟩)))) (goneU r)=st' at hst hst1 hst2
  have hownt:ownB st' G' (rk t)=b :: (b1 ++ (d1 ++ bz ++ d3) ++ b3):=by unfold ownB;rw [hst1];simp [G']
  have howng:∀ p ∈ r,ownB st' G' (rk p.1)=[]:=fun p hp=>by unfold ownB;rw [hst2 p hp]
  have hs0:Step0 st G w st' G' w' (rk t :: r.map (fun p=>rk p.1)) (fun x=>x=b):={
    s0:=rfl
    os:=hos,tape:=hta,output:=hou,size:=Nat.le_of_eq hsz.symm,block:=fun k _ hne=>hnb k hne
    own:=fun k hk=>⟨rk t,List.mem_cons_self,by rw [hk,hown,k5];exact List.mem_cons_self⟩
    out:=fun k hk=>by
      refine ⟨hst k hk,rfl,?_,rfl⟩
      have:k ≠ rk t:=fun e=>hk (e ▸ List.mem_cons_self)
      simp [G',this]
    nosk:=fun j hj=>by
      simp only [List.mem_cons,List.mem_map] at hj
      rcases hj with hj | ⟨p,_,hj⟩
      · exact sk_ne_rk _ _ hj
      · exact sk_ne_rk _ _ hj.symm
    ks:=fun k hk=>by
      rcases List.mem_cons.1 hk with rfl | hk
      · refine ⟨by rw [hst1,hr];exact Nat.le_refl _,fun g' h' e' l' hr' _=>?_,fun g' T' c' hr' _=>?_,fun g' hr' _=>?_⟩
        · rw [hst1] at hr';cases hr'
          exact ⟨h,l,hr,rfl,by simp,Nat.le_succ _,fun e=>by omega⟩
        · rw [hst1] at hr';cases hr'
        · rw [hst1] at hr';cases hr'
      · obtain ⟨p,hp,rfl⟩:=List.mem_map.1 hk
        refine ⟨by rw [hst2 p hp,hge p hp];exact Nat.le_refl _,fun g' h' e' l' hr' _=>?_,fun g' T' c' hr' _=>?_,fun g' hr' _=>?_⟩
        · rw [hst2 p hp] at hr';cases hr'
        · rw [hst2 p hp] at hr';cases hr'
        · rw [hst2 p hp] at hr';cases hr'
    sub:=fun k hk x hx=>by
      left
      rcases List.mem_cons.1 hk with rfl | hk
      · rw [hownt] at hx
        have hz0:x ∈ bz->(∃ k' ∈ rk t :: r.map (fun p=>rk p.1),x ∈ ownB st G k'):=fun hx=>by
          rcases hd2 x hx with h | h
          · obtain ⟨p,hp,hx'⟩:=blk_mem h
            exact ⟨rk p.1,List.mem_cons_of_mem _ (List.mem_map.2 ⟨p,hp,rfl⟩),by rw [hro p hp];exact hx'⟩
          · exact ⟨rk t,List.mem_cons_self,by rw [hown,k5];simp [h]⟩
        by_cases hx':x ∈ bz
        · exact hz0 hx'
        · refine ⟨rk t,List.mem_cons_self,?_⟩
          rw [hown,k5]
          simp only [List.mem_cons,List.mem_append] at hx ⊢
          rcases hx with hx | (hx | ((hx | hx) | hx)) | hx
          · simp [hx]
          · simp [hx]
          · simp [hx]
          · exact absurd hx hx'
          · simp [hx]
          · simp [hx]
      · obtain ⟨p,hp,rfl⟩:=List.mem_map.1 hk
        rw [howng p hp] at hx;cases hx
    lt:=fun k hk x hx=>by
      rcases List.mem_cons.1 hk with rfl | hk
      · rw [hownt] at hx
        exact TC_lt _ hroot x hx
      · obtain ⟨p,hp,rfl⟩:=List.mem_map.1 hk
        rw [howng p hp] at hx;cases hx
    nd:=fun k hk=>by
      rcases List.mem_cons.1 hk with rfl | hk
      · rw [hownt];exact hnew
      · obtain ⟨p,hp,rfl⟩:=List.mem_map.1 hk
        rw [howng p hp];exact List.nodup_nil
    dj:=fun k hk k' hk' x hx hx'=>by
      rcases List.mem_cons.1 hk with rfl | hk
      · rcases List.mem_cons.1 hk' with rfl | hk'
        · rfl
        · obtain ⟨p,hp,rfl⟩:=List.mem_map.1 hk'
          rw [howng p hp] at hx';cases hx'
      · obtain ⟨p,hp,rfl⟩:=List.mem_map.1 hk
        rw [howng p hp] at hx;cases hx }
  refine ⟨G',Step.inv I { toStep0:=hs0,rt:=fun k hk g' h' e' l' hr'=>?_,bx:=fun k hk g' T' v' hr'=>?_ }⟩
  · rcases List.mem_cons.1 hk with rfl | hk
    · rw [hst1] at hr';cases hr'
      simp only [G',if_true]
      exact hroot
    · obtain ⟨p,hp,rfl⟩:=List.mem_map.1 hk
      rw [hst2 p hp] at hr';cases hr'
  · rcases List.mem_cons.1 hk with rfl | hk
    · rw [hst1] at hr';cases hr'
    · obtain ⟨p,hp,rfl⟩:=List.mem_map.1 hk
      rw [hst2 p hp] at hr';cases hr'
/-- A part of an element of a root is written; the roots r are used up by what is written. -/
theorem setElem (I:Inv C st a w G) {t g h:Nat} {e:Ty} {l:List (den e)} (hr:st (rk t)=.root g h e l) {i:Int} (h0:0<=i) (h1:i < (l.length:Int)) {fs:List Nat} {T:Ty} (hT:tyP fs e=T) {z:den T} {ys:List Value} {r:List (Nat × Nat)}
    (hz:TC T w ys z (blk G r)) (hrt:∀ p ∈ r,RT st p) (hnd:(t :: r.map (·.1)).Nodup) {b o n c:Nat} {arr:Array Value} {et:TypeId} (hd:G.hd (rk t)=.slice (some ⟨b,o,none⟩) n c) (hb:w.heap[b]?=some (.cells arr et (0,0))) :
    o + i.toNat * e.sz + offP fs e + T.sz<=arr.size/\∃ G',Inv C (upds (upd st (rk t) (.root g (h + 1) e (l.set i.toNat (setP fs e (l.getD i.toNat (dflt e)) ⟨T,z⟩)))) (goneU r)) a
      (w.setRow b (setSeg arr.toList (o + i.toNat * e.sz + offP fs e) ys).toArray) G' :=
  setElem2 I hr h0 h1 hT hz (blk_nodup I.toInvM r hrt (List.nodup_cons.1 hnd).2) (fun p hp=>own_of_RT (hrt p hp)) (fun p hp=>by obtain ⟨hh,e',l',hrp⟩:=hrt p hp;rw [hrp];rfl) hnd hd hb (fun _ _ _ _ x hx=>.inl hx)
end
end Go.Proofs.YtefmjjpdflpnaaaGreat.E
namespace Go.Proofs.YtefmjjpdflpnaaaGreat.E
open Go Go.RowKit
set_option linter.unusedVariables false
set_option linter.unusedSimpArgs false
section
variable {C:Cx} {cf:Cfg} {dst:Option Tmp} {type:TypeId} {pos:String} {after:Array Edge} {guard:Option (Nat × Bool)}
theorem wp_skip' {P:Program} {a:Act} {w w':World} {o:Oper} {next:Act->World->Prop} {Q:Exit->Act->World->Prop} (h:(execOp a.eval o).run P w=.ok .skip w') (hn:next (a.put o.dst undef) w'):o.wp P a w next Q:=by
  unfold Oper.wp;rw [h];exact hn
theorem exec_skip {P:Program} {w w':World} {s:Sem Unit} (h:s.run P w=.ok () w'):(Sem.bind s fun _=>pure Next.skip).run P w=.ok .skip w':=by
  rw [Sem_bind_run,h];rfl
theorem flatten_set {α:Type} {k:Nat}:∀ (css:List (List α)) (i:Nat) (ys:List α),(∀ (j:Nat) (d:List α),css[j]?=some d->d.length=k)->ys.length=k->i < css.length->(css.set i ys).flatten=setSeg css.flatten (i * k) ys
  | [],i,ys,_,_,h=>by simp at h
  | d :: css,0,ys,hk,hy,h=>by
    rw [List.set_cons_zero,List.flatten_cons,List.flatten_cons,Nat.zero_mul,setSeg_app1 _ _ _ (hy.trans (hk 0 d (by simp)).symm)]
  | d :: css,i + 1,ys,hk,hy,h=>by
    rw [List.set_cons_succ,List.flatten_cons,List.flatten_cons,Nat.succ_mul,Nat.add_comm (i * k) k,<-hk 0 d (by simp),setSeg_app2,hk 0 d (by simp)]
    rw [flatten_set css i ys (fun j d hj=>hk (j + 1) d (by simpa using hj)) hy (by simpa using h)]
theorem arr_set {P:Program} {w:World} {S:Nat->Prop} {n:Nat} {e:Ty} {cs ys:List Value} {l:List (den e)} {z:den e} (h:RX P (.arr n e) false w S cs l) (hz:RX P e false w S ys z) {i:Nat} (hi:i < n) :
    RX P (.arr n e) false w S (setSeg cs (i * e.sz) ys) (l.set i z):=by
  obtain ⟨hx,css,rfl,hl,hc⟩:=h
  have hx:l.length=n:=hx
  have hk:∀ (j:Nat) (d:List Value),css[j]?=some d->d.length=e.sz:=fun j d hj=>by
    obtain ⟨y,hy⟩:=some_of_len (hl.trans hx.symm) hj
    exact RX_len P _ _ _ _ _ (hc j d y hj hy)
  refine ⟨by simpa using hx,css.set i ys,(flatten_set css i ys hk (RX_len P _ _ _ _ _ hz) (by omega)).symm,by simp [hl],fun j c y hj hy=>?_⟩
  have hy:(l.set i z)[j]?=some y:=hy
  by_cases hji:j=i
  · subst hji
    rw [List.getElem?_set_self (by omega)] at hj hy
    simp only [Option.some.injEq] at hj hy
    subst hj;subst hy;exact hz
  · rw [List.getElem?_set_ne (Ne.symm hji)] at hj hy
    exact hc j c y hj hy
theorem snd_store (O:CfgOk C cf) {t:TypeId} {x y:Operand}:Snd C cf ⟨dst,.store t x y,type,pos,after,guard⟩:=by
  intro st a w G us next Q I h hn
  simp only [exec] at h
  obtain ⟨p,hp,h⟩:=opd_run I h
  obtain ⟨v,hv,h⟩:=opd_run I h
  split at h
  case h_2=>exact (Rn_fail.1 h).elim
  rename_i T hty _ _
  have ho:=O.ty _ _ hty
  have hgo:∀ {b o:Nat} {arr:Array Value} {et:TypeId} {cs:List Value} {G':Gh},a.eval x=.pointer (some ⟨b,o,none⟩)->a.eval y=valOf T cs->cs.length=T.sz->(∀ c ∈ cs,c.oneCell'=true)->w.heap[b]?=some (.cells arr et (0,0))->o + T.sz<=arr.size →
      Inv C (upds st us) a (w.setRow b (setSeg arr.toList o cs).toArray) G'->(⟨none,.store t x y,type,pos,after,guard⟩:Oper).wp C.P a w next Q:=by
    intro b o arr et cs G' hx hy hl h1 hb hle I'
    refine wp_skip' (w':=w.setRow b (setSeg arr.toList o cs).toArray) ?_ (hn _ _ _ I')
    simp only [execOp,hx,hy]
    exact exec_skip (by unfold Instr.storeAt;simp only [Instr.sureAddr,Sem.run_bind,pure_run,Result.andThen_ok];exact storeVar_run ho hb hl h1 hle)
  unfold execStore at h
  split at h
  · rename_i b g fs _
    rw [Rn_get] at h
    split at h
    · rename_i g' B c hr
      rw [Rn_chk] at h
      have hg:g=g':=Nat.eq_of_beq_eq_true h.1
      subst hg
      have h2:=h.2
      split at h2
      · rename_i c0 hc0
        rw [Rn_bif] at h2
        rcases h2 with ⟨hb,h2⟩ | ⟨_,h2⟩
        · simp only [Bool.and_eq_true,decide_eq_true_eq] at hb
          obtain ⟨⟨⟨rfl,hli⟩,hct⟩,hvt⟩:=hb
          split at h2
          · rename_i c' hc'
            rw [Rn_bif] at h2
            rcases h2 with ⟨hB,h2⟩ | ⟨_,h2⟩
            · rw [Rn_ret] at h2;subst h2
              obtain ⟨cc,hx,pv,rfl,_,hgen,hl⟩:=hp
              have hx:a.eval x=pv:=hx
              obtain ⟨cs,hy,hcl,hcs⟩:=SW_hasTy hv hvt
              obtain ⟨ht,arr,ty,ha,hs⟩:=I.bx _ _ _ _ hr
              have hbl:=SX_len c B ht hs
              rw [Array.length_toList] at hbl
              have hle:=offP_le fs B
              obtain ⟨k1,k2⟩:=SX_setP fs c B hli ht hs hc' hvt hcs
              exact hgo (by rw [hx,hl _ _ hr]) hy hcl (SX_one v hcs) ha (by omega) (setBox I hr ha hB k1)
            · exact (Rn_fail.1 h2).elim
          · exact (Rn_fail.1 h2).elim
        · exact (Rn_fail.1 h2).elim
      · exact (Rn_fail.1 h2).elim
    · exact (Rn_fail.1 h).elim
  · rename_i b g fs i _
    rw [Rn_get] at h
    split at h
    · rename_i g' B c hr
      rw [Rn_chk] at h
      have hg:g=g':=Nat.eq_of_beq_eq_true h.1
      subst hg
      have h2:=h.2
      split at h2
      · rename_i n e l E z hc0
        split at h2
        · rename_i e1;subst e1
          rw [Rn_bif] at h2
          rcases h2 with ⟨hb,h2⟩ | ⟨_,h2⟩
          · simp only [Bool.and_eq_true,decide_eq_true_eq,Bool.not_eq_true'] at hb
            obtain ⟨⟨⟨rfl,hmem⟩,hB'⟩,hli⟩:=hb
            split at h2
            · rename_i c' hc'
              rw [Rn_bif] at h2
              rcases h2 with ⟨hB,h2⟩ | ⟨_,h2⟩
              · rw [Rn_ret] at h2;subst h2
                obtain ⟨cc,hx,pv,rfl,_,hgen,hl⟩:=hp
                have hx:a.eval x=pv:=hx
                obtain ⟨n',e',he',i0,i1,rfl⟩:=hl _ _ hr
                rw [hB'] at he';injection he' with q1 q2;subst q1;subst q2
                obtain ⟨cs,hy,hcs⟩:=hv
                obtain ⟨ht,arr,ty,ha,hs⟩:=I.bx _ _ _ _ hr
                have hbl:=SX_len c B ht hs
                rw [Array.length_toList] at hbl
                have hle:=offP_le fs B
                obtain ⟨j1,j2⟩:=SX_atP fs c B ht hs hc0
                rw [hB'] at j2 hle
                have hsz:(Ty.arr n E).sz=n * E.sz:=rfl
                have hcl:=RX_len C.P _ _ _ _ _ (show RX C.P E false w (Fz st G w) cs z from hcs)
                have hm:(i.toNat + 1) * E.sz<=n * E.sz:=Nat.mul_le_mul_right _ (by omega)
                rw [Nat.succ_mul] at hm
                have hAL:arr.toList.length=arr.size:=Array.length_toList
                have j3:=arr_set (i:=i.toNat) j2 (show RX C.P E false w (Fz st G w) cs z from hcs) (by omega)
                obtain ⟨k1,k2⟩:=SX_setP fs c B hli ht hs hc' (by simp [SV.hasTy,hB']) j3
                rw [hsz,setSeg_comp (by omega) (by omega)] at k1
                exact hgo hx hy hcl (RX_one C.P E hcs) ha (by omega) (setBox I hr ha hB k1)
              · exact (Rn_fail.1 h2).elim
            · exact (Rn_fail.1 h2).elim
          · exact (Rn_fail.1 h2).elim
        · exact (Rn_fail.1 h2).elim
      · exact (Rn_fail.1 h2).elim
    · exact (Rn_fail.1 h).elim
  · rename_i s g i fs _
    split at h
    · rename_i t1 g1 h1 i2 fs1 e1 z gd
      rw [Rn_get] at h
      split at h
      case h_2=>exact (Rn_fail.1 h).elim
      rename_i g' hh e l hr
      rw [Rn_get] at h
      split at h
      case h_2=>exact (Rn_fail.1 h).elim
      rename_i gd' hd
      rw [Rn_chk] at h
      obtain ⟨q5,h⟩:=h
      rw [Rn_chk] at h
      obtain ⟨hc,h⟩:=h
      simp only [Bool.and_eq_true,decide_eq_true_eq,Bool.not_eq_true'] at hc q5
      obtain ⟨⟨⟨⟨⟨q1,q2⟩,q3⟩,q4⟩,q6⟩,q7⟩:=hc
      have q1:=Nat.eq_of_beq_eq_true q1
      have q2:=Nat.eq_of_beq_eq_true q2
      have q3:=Nat.eq_of_beq_eq_true q3
      have q4:=Nat.eq_of_beq_eq_true q4
      have q7:=Nat.eq_of_beq_eq_true q7
      subst q1;subst q2;subst q3;subst q4;subst q5;subst q6;subst q7
      rw [Rn_bif] at h
      rcases h with ⟨hT,h⟩ | ⟨_,h⟩
      case inr=>exact (Rn_fail.1 h).elim
      simp only [Bool.and_eq_true,decide_eq_true_eq] at hT
      obtain ⟨rfl,hT⟩:=hT
      rw [Rn_ret] at h;subst h
      obtain ⟨cc,hx,pv,rfl,_,hgen,hl⟩:=hp
      have hx:a.eval x=pv:=hx
      obtain ⟨i0,i1,b,o,n,cp,e1',rfl⟩:=hl _ _ _ hr
      obtain ⟨b',o',n',c',arr',ty',bi,k1,k2,k3,k4,k5,k6,k7⟩:=root_elem I.toInvM hr i0 i1
      have k1':=k1
      rw [k1] at e1';simp only [Value.slice.injEq,Option.some.injEq,Addr.mk.injEq] at e1'
      obtain ⟨⟨rfl,rfl,_⟩,rfl,rfl⟩:=e1'
      obtain ⟨cy,hy,pv2,rfl,hone,_,_,_,hx2⟩:=hv
      have hy:a.eval y=pv2:=hy
      obtain ⟨_,_,_,bs,hbn,hTC,hb⟩:=hx2 _ _ hr hd
      obtain ⟨hle,G',I'⟩:=setElem2 (r:=[(s + 100000,gd)]) I hr i0 i1 hT hTC hbn (fun p hp=>by
          simp only [List.mem_singleton] at hp;subst hp
          unfold ownB;rw [hd]) (fun p hp=>by
          simp only [List.mem_singleton] at hp;subst hp
          rw [hd];rfl) (by simp) k1 k2 (fun b2 y2 hsub htc u hu=>by
          rcases hb u hu with q | ⟨_,o2,n2,c2,b3,o3,n3,c3,arr3,ty3,fz3,w1,w2,w3⟩
          · left;simpa [blk] using q
          · right
            rw [k1'] at w1;simp only [Value.slice.injEq,Option.some.injEq,Addr.mk.injEq] at w1
            obtain ⟨⟨rfl,rfl,_⟩,rfl,rfl⟩:=w1
            rw [k2] at w2;simp only [Option.some.injEq,Obj.cells.injEq] at w2
            obtain ⟨rfl,rfl,_⟩:=w2
            have hcell:seg arr'.toList (o' + i.toNat * e.sz + offP fs e) 1=[.slice (some ⟨u,o2,none⟩) n2 c2]:=seg_one (by simpa using w3)
            have htc:TC (.sl e1) w (seg arr'.toList (o' + i.toNat * e.sz + offP fs e) 1) y2 b2:=htc
            rw [hcell] at htc
            exact hd_mem htc rfl)
      exact hgo (cs:=[pv2]) hx hy rfl (fun c hc=>by simp only [List.mem_singleton] at hc;subst hc;exact hone) k2 hle I'
    · rw [Rn_get] at h
      split at h
      · rename_i g' hh e l hr
        rw [Rn_chk] at h
        have hg:g=g':=Nat.eq_of_beq_eq_true h.1
        subst hg
        have h2:=h.2
        rw [Rn_bif] at h2
        rcases h2 with ⟨hT,h2⟩ | ⟨_,h2⟩
        · have hT:=of_decide_eq_true hT
          obtain ⟨cc,hx,pv,rfl,_,hgen,hl⟩:=hp
          have hx:a.eval x=pv:=hx
          obtain ⟨i0,i1,b,o,n,cp,e1,rfl⟩:=hl _ _ _ hr
          obtain ⟨b',o',n',c',arr',ty',bi,k1,k2,k3,k4,k5,k6,k7⟩:=root_elem I.toInvM hr i0 i1
          rw [k1] at e1;simp only [Value.slice.injEq,Option.some.injEq,Addr.mk.injEq] at e1
          obtain ⟨⟨rfl,rfl,_⟩,rfl,rfl⟩:=e1
          rw [Rn_bif] at h2
          rcases h2 with ⟨hm,h2⟩ | ⟨hm,h2⟩
          · have hnt:∀ b,v ≠ .tup b:=fun b e=>by
              subst e
              obtain ⟨ud,_,hu⟩:=ho.und
              cases T <;> simp only [mv] at h2 <;> first | exact Rn_fail.1 h2 | (cases ud <;> exact hu)
            obtain ⟨cs,hy,hcs⟩:=SW_cells hv hnt
            obtain ⟨z,r,q1,q2,q3,q4⟩:=mv_run I.toInvM v T false h2 hcs
            simp only [Bool.false_eq_true,if_false] at q1
            rw [Rn_bif] at q2
            rcases q2 with ⟨hnd,q2⟩ | ⟨_,q2⟩
            · rw [Rn_ret] at q2;subst q2
              obtain ⟨hb,G',I'⟩:=setElem I hr i0 i1 hT q1 q3 ((nodupB_iff _).1 hnd) k1 k2
              exact hgo hx (by rw [hy,q4 rfl]) (TC_len _ _ _ _ _ q1) (TC_one q1) k2 hb I'
            · exact (Rn_fail.1 q2).elim
          · split at h2
            · rename_i T' z hz
              split at h2
              · rename_i e1;subst e1
                rw [Rn_ret] at h2;subst h2
                obtain ⟨cs,hy,hcs⟩:=plain_val hz hv
                have q1:=TC_of_RX C.P T' (w':=w) hm hcs
                obtain ⟨hb,G',I'⟩:=setElem (r:=[]) I hr i0 i1 hT (by simpa [blk] using q1) (fun p hp=>by cases hp) (by simp) k1 k2
                exact hgo hx hy (TC_len _ _ _ _ _ q1) (TC_one q1) k2 hb I'
              · exact (Rn_fail.1 h2).elim
            · exact (Rn_fail.1 h2).elim
        · exact (Rn_fail.1 h2).elim
      · exact (Rn_fail.1 h).elim
  · exact (Rn_fail.1 h).elim
end
end Go.Proofs.YtefmjjpdflpnaaaGreat.E
namespace Go.Proofs.YtefmjjpdflpnaaaGreat.E
open Go Go.RowKit
set_option linter.unusedVariables false
set_option linter.unusedSimpArgs false
/-- What 'own' does with a tree of blocks bs. -/
structure OwnOk (P:Program) (m:Bool) (T:Ty) (w':World) (cs:List Value) (bs:List Nat) (d:Nat) (gn:Nat->Nat) (q:SV × U × Nat) (hd:Nat->Value) (bl:Nat->List Nat):Prop where
  p1:∀ p ∈ q.2.1,∃ id e l,d<=id/\id < q.2.2/\p=(rk id,.root (gn id) 0 e l)/\TC (.sl e) w' [hd id] l (bl id)
  p2:bs=((List.range' d (q.2.2 - d)).map bl).flatten
  p3:q.2.1.map (·.1)=(List.range' d (q.2.2 - d)).map rk
  p4:∀ (st':St) (G':Gh) (S:Nat->Prop),(∀ p ∈ q.2.1,st' p.1=p.2)->(∀ id,d<=id->id < q.2.2->G'.hd (rk id)=hd id)->SX P st' G' w' S q.1 m cs
  p5:q.2.2=d + nroots T
  p6:m=false->valS q.1 cs=valOf T cs
theorem nomem_roots:∀ T:Ty,T.mem=false->nroots T=0
  | .pair a b,h=>by
    simp only [Ty.mem,Bool.or_eq_false_iff] at h
    simp [nroots,nomem_roots a h.1,nomem_roots b h.2]
  | .st f,h=>nomem_roots f h
  | .tup f,h=>nomem_roots f h
  | .sl _,h=>by cases h
  | .int _,_=>rfl | .bool,_=>rfl | .str,_=>rfl | .unit,_=>rfl | .arr _ _,_=>rfl | .ptr _,_=>rfl | .fn _ _,_=>rfl | .frm,_=>rfl
theorem OwnOk.val {P:Program} {T:Ty} {w':World} {cs:List Value} {x:den T} {bs:List Nat} {d:Nat} {gn:Nat->Nat} {hd:Nat->Value} {bl:Nat->List Nat} (hm:T.mem=false) (h:TC T w' cs x bs) :
    OwnOk P false T w' cs bs d gn (.val T x,[],d) hd bl :=
  ⟨fun p hp=>(by cases hp),by simp [TC_nil T hm h],by simp,fun st' G' S _ _=>RX_nomem (w':=w') hm h,by simp [nomem_roots T hm],fun _=>rfl⟩
theorem own_ok {P:Program} {w':World} {gn:Nat->Nat}:∀ (T:Ty) (m:Bool) (x:den T) (cs:List Value) (bs:List Nat) (d:Nat),(if m=true then TV T true w' cs x bs else TC T w' cs x bs)->T.ownable=true →
    ∃ hd bl,OwnOk P m T w' cs bs d gn (own T x d gn) hd bl:=by
  intro T
  induction T with
  | int k=>intro m x cs bs d h _;(cases m;(exact ⟨fun _=>undef,fun _=>[],OwnOk.val rfl h⟩);exact h.elim)
  | bool=>intro m x cs bs d h _;(cases m;(exact ⟨fun _=>undef,fun _=>[],OwnOk.val rfl h⟩);exact h.elim)
  | str=>intro m x cs bs d h _;(cases m;(exact ⟨fun _=>undef,fun _=>[],OwnOk.val rfl h⟩);exact h.elim)
  | unit =>
    intro m x cs bs d h _
    have h:cs=[]/\bs=[]:=by cases m <;> exact h
    obtain ⟨rfl,rfl⟩:=h
    exact ⟨fun _=>undef,fun _=>[],fun p hp=>(by cases hp),by simp [own],by simp [own],fun st' G' S _ _=>by cases m <;> rfl,rfl,fun _=>rfl⟩
  | arr n e _ =>
    intro m x cs bs d h hw
    have hw:e.mem=false:=by simpa [Ty.ownable] using hw
    (cases m;(exact ⟨fun _=>undef,fun _=>[],OwnOk.val (T:=.arr n e) hw h⟩);exact h.elim)
  | ptr _ _=>intro m x cs bs d h hw;cases hw
  | frm=>intro m x cs bs d h hw;cases hw
  | fn _ _ _ _=>intro m x cs bs d h hw;cases hw
  | tup f _=>intro m x cs bs d h _;cases m <;> exact h.elim
  | sl e _ =>
    intro m x cs bs d h hw
    cases m
    case true=>exact h.elim
    obtain ⟨v,rfl⟩:=List.length_eq_one_iff.1 (TC_len (.sl e) w' cs x bs h)
    refine ⟨fun _=>v,fun _=>bs,⟨fun p hp=>?_,by simp [own],by simp [own],fun st' G' S h1 h2=>?_,rfl,fun _=>rfl⟩⟩
    · simp only [own,List.mem_singleton] at hp;subst hp
      exact ⟨d,e,x,Nat.le_refl _,Nat.lt_succ_self _,rfl,h⟩
    · have hs:=h1 (rk d,.root (gn d) 0 e x) (by simp [own])
      have hs:st' (rk d)=.root (gn d) 0 e x:=hs
      refine ⟨v,rfl,TC_one h v (by simp),by rw [hs];exact Nat.le_refl _,fun h' e' l hr=>?_⟩
      rw [hs] at hr;cases hr
      exact ⟨(h2 d (Nat.le_refl _) (Nat.lt_succ_self _)).symm,rfl⟩
  | st f ih =>
    intro m x cs bs d h hw
    cases m
    case true=>exact h.elim
    unfold own
    cases hm:f.mem
    · simp only [cond_false]
      exact ⟨fun _=>undef,fun _=>[],OwnOk.val (T:=.st f) hm h⟩
    · simp only [cond_true]
      obtain ⟨hd,bl,k⟩:=ih false x cs bs d h hw
      exact ⟨hd,bl,⟨k.p1,k.p2,k.p3,fun st' G' S h1 h2=>k.p4 st' G' S h1 h2,k.p5,fun _=>rfl⟩⟩
  | pair A B ihA ihB =>
    intro m x cs bs d h hw
    simp only [Ty.ownable,Bool.and_eq_true] at hw
    have hsplit:∃ (c1 c2:List Value) (b1 b2:List Nat),bs=b1 ++ b2/\TC A w' c1 x.1 b1/\(if m=true then TV B true w' c2 x.2 b2 else TC B w' c2 x.2 b2)/\(if m=true then cs=valOf A c1 :: c2 else cs=c1 ++ c2):=by
      cases m
      · obtain ⟨c1,c2,b1,b2,rfl,rfl,h1,h2⟩:=h
        exact ⟨c1,c2,b1,b2,rfl,h1,h2,rfl⟩
      · obtain ⟨v,r,b1,b2,rfl,rfl,h1,h2⟩:=h
        have:∃ c,v=valOf A c/\TC A w' c x.1 b1:=by
          cases A <;> first
            | (obtain ⟨c,hc,ht⟩:=h1;simp only [List.cons.injEq,and_true] at hc;exact ⟨c,hc,ht⟩)
            | skip
          · simp [Ty.isTup] at hw
        obtain ⟨c,rfl,ht⟩:=this
        exact ⟨c,r,b1,b2,rfl,ht,h2,rfl⟩
    obtain ⟨c1,c2,b1,b2,rfl,h1,h2,h3⟩:=hsplit
    obtain ⟨hd1,bl1,k1⟩:=ihA false x.1 c1 b1 d h1 hw.1.2
    have hd':=k1.p5
    obtain ⟨hd2,bl2,k2⟩:=ihB m x.2 c2 b2 (own A x.1 d gn).2.2 h2 hw.2
    have hd'':=k2.p5
    have hq:own (.pair A B) x d gn=(.pair (own A x.1 d gn).1 (own B x.2 (own A x.1 d gn).2.2 gn).1,(own A x.1 d gn).2.1 ++ (own B x.2 (own A x.1 d gn).2.2 gn).2.1,(own B x.2 (own A x.1 d gn).2.2 gn).2.2):=rfl
    rw [hq]
    generalize own A x.1 d gn=qa at *
    generalize own B x.2 qa.2.2 gn=qb at *
    have hr:List.range' d (qb.2.2 - d)=List.range' d (qa.2.2 - d) ++ List.range' qa.2.2 (qb.2.2 - qa.2.2):=by
      have:qa.2.2=d + 1 * (qa.2.2 - d):=by omega
      conv=>rhs;rhs;rw [this]
      rw [List.range'_append]
      congr 1;omega
    refine ⟨fun i=>if i < qa.2.2 then hd1 i else hd2 i,fun i=>if i < qa.2.2 then bl1 i else bl2 i,⟨fun p hp=>?_,?_,?_,fun st' G' S g1 g2=>?_,?_,fun hm=>?_⟩⟩
    · rcases List.mem_append.1 hp with hp | hp
      · obtain ⟨id,e,l,i1,i2,i3,i4⟩:=k1.p1 p hp
        exact ⟨id,e,l,i1,by show id < qb.2.2;omega,i3,by simp only [i2,if_true];exact i4⟩
      · obtain ⟨id,e,l,i1,i2,i3,i4⟩:=k2.p1 p hp
        exact ⟨id,e,l,by omega,i2,i3,by simp only [show ¬ id < qa.2.2 from by omega,if_false];exact i4⟩
    · show b1 ++ b2=((List.range' d (qb.2.2 - d)).map _).flatten
      rw [hr,List.map_append,List.flatten_append]
      congr 1
      · rw [k1.p2];congr 1
        apply List.map_congr_left
        intro i hi
        have:=(List.mem_range'_1.1 hi)
        rw [if_pos (by omega)]
      · rw [k2.p2];congr 1
        apply List.map_congr_left
        intro i hi
        have:=(List.mem_range'_1.1 hi)
        rw [if_neg (by omega)]
    · show (qa.2.1 ++ qb.2.1).map (·.1)=(List.range' d (qb.2.2 - d)).map rk
      rw [List.map_append,k1.p3,k2.p3,hr,List.map_append]
    · have s1:=k1.p4 st' G' S (fun p hp=>g1 p (List.mem_append_left _ hp)) (fun i i1 i2=>by rw [g2 i i1 (by show i < qb.2.2;omega)];simp [i2])
      have s2:=k2.p4 st' G' S (fun p hp=>g1 p (List.mem_append_right _ hp)) (fun i i1 i2=>by rw [g2 i (by omega) i2];simp [show ¬ i < qa.2.2 from by omega])
      cases m
      · simp only [Bool.false_eq_true,if_false] at h3
        exact ⟨c1,c2,h3,s1,s2⟩
      · simp only [if_true] at h3
        exact ⟨c1,c2,by rw [h3,k1.p6 rfl],s1,s2⟩
    · show qb.2.2=d + (nroots A + nroots B)
      omega
    · rfl
section
variable {C:Cx} {cf:Cfg} {st:St} {a:Act} {w w':World} {G:Gh} {α:Type} {us:α}
theorem gens_run:∀ (n d:Nat) {f:List Nat->M α},Rn (gens n d f) st us->∃ gl:List Nat,gl.length=n/\(∀ j,j < n->gl[j]?=some ((st (rk (d + j))).gen + 1))/\Rn (f gl) st us
  | 0,d,f,h=>⟨[],rfl,fun j hj=>(by omega),h⟩
  | n + 1,d,f,h=>by
    unfold gens at h
    rw [Rn_get] at h
    obtain ⟨gl,h1,h2,h3⟩:=gens_run n (d + 1) h
    refine ⟨_,by simp [h1],fun j hj=>?_,h3⟩
    cases j with
    | zero=>simp
    | succ j =>
      have:=h2 j (by omega)
      rw [show d + 1 + j=d + (j + 1) from by omega] at this
      simpa using this
/-- New roots stand; the roots r are used up. -/
theorem addRoots (I:Inv C st a w G) {m:Bool} {T:Ty} {cs:List Value} {bs:List Nat} {d:Nat} {gn:Nat->Nat} {q:SV × U × Nat} {hd:Nat->Value} {bl:Nat->List Nat} (Q:OwnOk C.P m T w' cs bs d gn q hd bl)
    {r:List (Nat × Nat)} (hrt:∀ p ∈ r,RT st p) (hnd:(r.map (·.1)).Nodup) (hnr:∀ p ∈ r,p.1 < d\/q.2.2<=p.1) (hg:∀ id,d<=id->id < q.2.2->(st (rk id)).gen < gn id)
    (hos:w'.os=w.os) (hta:w'.tape=w.tape) (hou:w'.output=w.output) (hsz:w.heap.size<=w'.heap.size) {D:Nat->Prop} (hD:∀ b,D b->b ∈ blk G r) (hblk:∀ b,b < w.heap.size->¬ D b->w'.heap[b]?=w.heap[b]?)
    (hbs:bs.Nodup) (hbl:∀ b ∈ bs,(b ∈ blk G r\/w.heap.size<=b)/\b < w'.heap.size) :
    ∃ G',Inv C (upds st (q.2.1 ++ goneU r)) a w' G'/\∀ S,SX C.P (upds st (q.2.1 ++ goneU r)) G' w' S q.1 m cs:=by
  let G':Gh:={ G with hd:=fun k=>if d<=k / 3/\k / 3 < q.2.2/\k % 3=1 then hd (k / 3) else G.hd k,bl:=fun k=>if d<=k / 3/\k / 3 < q.2.2/\k % 3=1 then bl (k / 3) else G.bl k }
  have hk3:∀ id,rk id / 3=id/\rk id % 3=1:=fun id=>by unfold rk;omega
  have hghd:∀ id,d<=id->id < q.2.2->G'.hd (rk id)=hd id:=fun id h1 h2=>by simp [G',hk3 id,h1,h2]
  have hgbl:∀ id,d<=id->id < q.2.2->G'.bl (rk id)=bl id:=fun id h1 h2=>by simp [G',hk3 id,h1,h2]
  have hkeys:∀ k,k ∈ q.2.1.map (·.1) ↔ ∃ id,d<=id/\id < q.2.2/\k=rk id:=fun k=>by
    rw [Q.p3];simp only [List.mem_map,List.mem_range'_1]
    constructor
    · rintro ⟨id,h1,rfl⟩;exact ⟨id,by omega,by omega,rfl⟩
    · rintro ⟨id,h1,h2,rfl⟩;exact ⟨id,by omega,rfl⟩
  have hupds_app:∀ (u v:U) (s:St),upds s (u ++ v)=upds (upds s u) v:=by
    intro u
    induction u with
    | nil=>intro v s;rfl
    | cons p u ih=>intro v s;exact ih v _
  have hin:∀ (u:U) (s:St),(u.map (·.1)).Nodup->∀ p ∈ u,upds s u p.1=p.2:=by
    intro u
    induction u with
    | nil=>intro s _ p hp;cases hp
    | cons p0 u ih =>
      intro s hn p hp
      simp only [List.map_cons,List.nodup_cons] at hn
      show upds (upd s p0.1 p0.2) u p.1=p.2
      rcases List.mem_cons.1 hp with rfl | hp
      · rw [upds_out u _ _ fun p' hp' e=>hn.1 (List.mem_map.2 ⟨p',hp',e⟩),upd_same]
      · exact ih _ hn.2 p hp
  have hqnd:(q.2.1.map (·.1)).Nodup:=by
    rw [Q.p3]
    exact List.pairwise_map.2 (List.Pairwise.imp (fun h e=>h (rk_inj e)) (List.nodup_range' (s:=d) (n:=q.2.2 - d)))
  have hst1:∀ p ∈ q.2.1,upds st (q.2.1 ++ goneU r) p.1=p.2:=fun p hp=>by
    rw [hupds_app,goneU_out,hin _ _ hqnd p hp]
    intro p' hp' e
    obtain ⟨id,i1,i2,i3⟩:=(hkeys p.1).1 (List.mem_map.2 ⟨p,hp,rfl⟩)
    rw [i3] at e
    have:=rk_inj e
    rcases hnr p' hp' with h | h <;> omega
  have hst2:∀ p ∈ r,upds st (q.2.1 ++ goneU r) (rk p.1)=.gone p.2:=fun p hp=>by rw [hupds_app];exact goneU_in r _ hnd p hp
  have hst3:∀ k,k ∉ q.2.1.map (·.1) ++ r.map (fun p=>rk p.1)->upds st (q.2.1 ++ goneU r) k=st k:=fun k hk=>by
    simp only [List.mem_append,not_or] at hk
    rw [hupds_app,goneU_out fun p hp e=>hk.2 (List.mem_map.2 ⟨p,hp,e⟩),upds_out _ _ _ fun p hp e=>hk.1 (List.mem_map.2 ⟨p,hp,e⟩)]
  generalize upds st (q.2.1 ++ goneU r)=st' at hst1 hst2 hst3
  have hnew:∀ id,d<=id->id < q.2.2->∃ e l,st' (rk id)=.root (gn id) 0 e l/\TC (.sl e) w' [hd id] l (bl id):=fun id h1 h2=>by
    obtain ⟨p,hp,he⟩:=List.mem_map.1 ((hkeys (rk id)).2 ⟨id,h1,h2,rfl⟩)
    obtain ⟨id',e,l,i1,i2,i3,i4⟩:=Q.p1 p hp
    have:id'=id:=rk_inj (by rw [<-he,i3])
    subst this
    refine ⟨e,l,?_,i4⟩
    rw [<-he,hst1 p hp,i3]
  have hownn:∀ id,d<=id->id < q.2.2->ownB st' G' (rk id)=bl id:=fun id h1 h2=>by
    obtain ⟨e,l,h3,_⟩:=hnew id h1 h2
    unfold ownB;rw [h3];exact hgbl id h1 h2
  have howng:∀ p ∈ r,ownB st' G' (rk p.1)=[]:=fun p hp=>by unfold ownB;rw [hst2 p hp]
  have hblm:∀ id,d<=id->id < q.2.2->∀ b ∈ bl id,b ∈ bs:=fun id h1 h2 b hb=>by
    rw [Q.p2];exact List.mem_flatten.2 ⟨bl id,List.mem_map.2 ⟨id,List.mem_range'_1.2 (by omega),rfl⟩,hb⟩
  have hmemK:∀ k,k ∈ q.2.1.map (·.1) ++ r.map (fun p=>rk p.1)->(∃ id,d<=id/\id < q.2.2/\k=rk id)\/∃ p ∈ r,k=rk p.1:=fun k hk=>by
    rcases List.mem_append.1 hk with hk | hk
    · exact .inl ((hkeys k).1 hk)
    · obtain ⟨p,hp,rfl⟩:=List.mem_map.1 hk;exact .inr ⟨p,hp,rfl⟩
  have hbs':∀ (l:List Nat),l.Nodup->(∀ i ∈ l,d<=i/\i < q.2.2)->((l.map bl).flatten).Nodup->(∀ i ∈ l,(bl i).Nodup)/\(∀ i ∈ l,∀ j ∈ l,∀ b,b ∈ bl i->b ∈ bl j->i=j):=by
    intro l
    induction l with
    | nil=>intro _ _ _;exact ⟨fun i hi=>(by cases hi),fun i hi=>(by cases hi)⟩
    | cons x l ih =>
      intro hn hl hf
      simp only [List.nodup_cons] at hn
      rw [List.map_cons,List.flatten_cons,List.nodup_append] at hf
      obtain ⟨h1,h2⟩:=ih hn.2 (fun i hi=>hl i (List.mem_cons_of_mem _ hi)) hf.2.1
      have hx:∀ j ∈ l,∀ b,b ∈ bl x->b ∈ bl j->False:=fun j hj b hb hb'=>hf.2.2 b hb b (List.mem_flatten.2 ⟨bl j,List.mem_map.2 ⟨j,hj,rfl⟩,hb'⟩) rfl
      refine ⟨fun i hi=>?_,fun i hi j hj b hb hb'=>?_⟩
      · rcases List.mem_cons.1 hi with rfl | hi
        · exact hf.1
        · exact h1 i hi
      · rcases List.mem_cons.1 hi with e1 | hi' <;> rcases List.mem_cons.1 hj with e2 | hj'
        · rw [e1,e2]
        · exact (hx j hj' b (e1 ▸ hb) hb').elim
        · exact (hx i hi' b (e2 ▸ hb') hb).elim
        · exact h2 i hi' j hj' b hb hb'
  have hbq:=hbs' (List.range' d (q.2.2 - d)) List.nodup_range' (fun i hi=>by have:=List.mem_range'_1.1 hi;omega) (by rw [<-Q.p2];exact hbs)
  have hmr:∀ id,d<=id->id < q.2.2->id ∈ List.range' d (q.2.2 - d):=fun id h1 h2=>List.mem_range'_1.2 (by omega)
  have hs0:Step0 st G w st' G' w' (q.2.1.map (·.1) ++ r.map (fun p=>rk p.1)) D:={
    s0:=rfl
    os:=hos,tape:=hta,output:=hou,size:=hsz,block:=hblk
    own:=fun b hb=>by
      obtain ⟨p,hp,hb⟩:=blk_mem (hD b hb)
      exact ⟨rk p.1,List.mem_append_right _ (List.mem_map.2 ⟨p,hp,rfl⟩),by rw [own_of_RT (hrt p hp)];exact hb⟩
    out:=fun k hk=>by
      have hn:¬ (d<=k / 3/\k / 3 < q.2.2/\k % 3=1):=fun h=>by
        have:k=rk (k / 3):=by unfold rk;omega
        exact hk (List.mem_append_left _ ((hkeys k).2 ⟨k / 3,h.1,h.2.1,this⟩))
      exact ⟨hst3 k hk,by simp only [G',if_neg hn],by simp only [G',if_neg hn],rfl⟩
    nosk:=fun i hi=>by
      rcases hmemK _ hi with ⟨id,_,_,h⟩ | ⟨p,_,h⟩ <;> exact sk_ne_rk _ _ h
    ks:=fun k hk=>by
      rcases hmemK k hk with ⟨id,h1,h2,rfl⟩ | ⟨p,hp,rfl⟩
      · obtain ⟨e,l,h3,_⟩:=hnew id h1 h2
        have:=hg id h1 h2
        refine ⟨by rw [h3];exact Nat.le_of_lt this,fun g' h' e' l' hr' hle=>?_,fun g' T' c' hr' _=>?_,fun g' hr' _=>?_⟩
        · rw [h3] at hr';cases hr';omega
        · rw [h3] at hr';cases hr'
        · rw [h3] at hr';cases hr'
      · obtain ⟨hh,e',l',hrp⟩:=hrt p hp
        refine ⟨by rw [hst2 p hp,hrp];exact Nat.le_refl _,fun g' h' e' l' hr' _=>?_,fun g' T' c' hr' _=>?_,fun g' hr' _=>?_⟩
        · rw [hst2 p hp] at hr';cases hr'
        · rw [hst2 p hp] at hr';cases hr'
        · rw [hst2 p hp] at hr';cases hr'
    sub:=fun k hk b hb=>by
      rcases hmemK k hk with ⟨id,h1,h2,rfl⟩ | ⟨p,hp,rfl⟩
      · rw [hownn id h1 h2] at hb
        rcases (hbl b (hblm id h1 h2 b hb)).1 with h | h
        · obtain ⟨p,hp,h⟩:=blk_mem h
          exact .inl ⟨rk p.1,List.mem_append_right _ (List.mem_map.2 ⟨p,hp,rfl⟩),by rw [own_of_RT (hrt p hp)];exact h⟩
        · exact .inr h
      · rw [howng p hp] at hb;cases hb
    lt:=fun k hk b hb=>by
      rcases hmemK k hk with ⟨id,h1,h2,rfl⟩ | ⟨p,hp,rfl⟩
      · rw [hownn id h1 h2] at hb;exact (hbl b (hblm id h1 h2 b hb)).2
      · rw [howng p hp] at hb;cases hb
    nd:=fun k hk=>by
      rcases hmemK k hk with ⟨id,h1,h2,rfl⟩ | ⟨p,hp,rfl⟩
      · rw [hownn id h1 h2];exact hbq.1 id (hmr id h1 h2)
      · rw [howng p hp];exact List.nodup_nil
    dj:=fun k hk k' hk' b hb hb'=>by
      rcases hmemK k hk with ⟨id,h1,h2,rfl⟩ | ⟨p,hp,rfl⟩
      · rcases hmemK k' hk' with ⟨id',h1',h2',rfl⟩ | ⟨p,hp,rfl⟩
        · rw [hownn id h1 h2] at hb;rw [hownn id' h1' h2'] at hb'
          rw [hbq.2 id (hmr id h1 h2) id' (hmr id' h1' h2') b hb hb']
        · rw [howng p hp] at hb';cases hb'
      · rw [howng p hp] at hb;cases hb }
  refine ⟨G',Step.inv I { toStep0:=hs0,rt:=fun k hk g' h' e' l' hr'=>?_,bx:=fun k hk g' T' v' hr'=>?_ },fun S=>Q.p4 st' G' S hst1 hghd⟩
  · rcases hmemK k hk with ⟨id,h1,h2,rfl⟩ | ⟨p,hp,rfl⟩
    · obtain ⟨e,l,h3,h4⟩:=hnew id h1 h2
      rw [h3] at hr';cases hr'
      rw [hghd id h1 h2,hgbl id h1 h2];exact h4
    · rw [hst2 p hp] at hr';cases hr'
  · rcases hmemK k hk with ⟨id,h1,h2,rfl⟩ | ⟨p,hp,rfl⟩
    · obtain ⟨e,l,h3,h4⟩:=hnew id h1 h2
      rw [h3] at hr';cases hr'
    · rw [hst2 p hp] at hr';cases hr'
end
end Go.Proofs.YtefmjjpdflpnaaaGreat.E
namespace Go.Proofs.YtefmjjpdflpnaaaGreat.E
open Go Go.RowKit
set_option linter.unusedVariables false
set_option linter.unusedSimpArgs false
section
variable {C:Cx} {cf:Cfg} {dst:Option Tmp} {type:TypeId} {pos:String} {after:Array Edge} {guard:Option (Nat × Bool)} {st:St} {a:Act} {w w':World} {G:Gh} {α:Type} {us:U}
theorem own_keys {P:Program} {T:Ty} {m:Bool} {cs:List Value} {bs:List Nat} {d:Nat} {gn:Nat->Nat} {q:SV × U × Nat} {hd:Nat->Value} {bl:Nat->List Nat} (Q:OwnOk P m T w' cs bs d gn q hd bl):∀ p ∈ q.2.1,∃ id,p.1=rk id:=fun p hp=>by
  obtain ⟨id,e,l,_,_,rfl,_⟩:=Q.p1 p hp;exact ⟨id,rfl⟩
/-- A value whose trees are new (or made of roots that are used up) is stored. -/
theorem wrOwn_sound {dst:Option Nat} (O:CfgOk C cf) (I:Inv C st a w G) {T:Ty} {x:den T} {r:List (Nat × Nat)} (h:Rn (wrOwn cf dst T x r) st us) (hT:T.ownable=true) {v:Value} {bs:List Nat} (hv:TV T false w' [v] x bs)
    (hrt:∀ p ∈ r,RT st p) (hnd:(r.map (·.1)).Nodup) (hos:w'.os=w.os) (hta:w'.tape=w.tape) (hou:w'.output=w.output) (hsz:w.heap.size<=w'.heap.size) {D:Nat->Prop} (hD:∀ b,D b->b ∈ blk G r)
    (hblk:∀ b,b < w.heap.size->¬ D b->w'.heap[b]?=w.heap[b]?) (hbs:bs.Nodup) (hbl:∀ b ∈ bs,(b ∈ blk G r\/w.heap.size<=b)/\b < w'.heap.size) :
    ∃ G',Inv C (upds st us) (a.put dst v) w' G':=by
  unfold wrOwn at h
  cases dst with
  | none =>
    rw [Rn_ret] at h;subst h
    obtain ⟨hd,bl,Q⟩:=own_ok (P:=C.P) (w':=w') (gn:=fun _=>0) .unit false () [] [] 0 ⟨rfl,rfl⟩ rfl
    obtain ⟨G',I',_⟩:=addRoots I Q hrt hnd (fun p hp=>.inr (Nat.zero_le _)) (fun id h1 h2=>absurd h2 (by show ¬ id < 0;omega)) hos hta hou hsz hD hblk List.nodup_nil (fun b hb=>by cases hb)
    exact ⟨G',I'⟩
  | some d =>
    simp only at h
    rw [Rn_bif] at h
    rcases h with ⟨hall,h⟩ | ⟨_,h⟩
    case inr=>exact (Rn_fail.1 h).elim
    rw [List.all_eq_true] at hall
    obtain ⟨gl,g1,g2,h⟩:=gens_run _ _ h
    have hgn:∀ id,8 * d<=id->id < 8 * d + nroots T->gl.getD (id - 8 * d) 0=(st (rk id)).gen + 1:=fun id h1 h2=>by
      have:=g2 (id - 8 * d) (by omega)
      rw [show 8 * d + (id - 8 * d)=id from by omega] at this
      simp [List.getD,this]
    have fin:∀ (m:Bool) (T':Ty) (x':den T') (cs:List Value),nroots T'=nroots T->T'.ownable=true->(if m=true then TV T' true w' cs x' bs else TC T' w' cs x' bs)->∀ (sv:SV),
        own T x (8 * d) (fun i=>gl.getD (i - 8 * d) 0)=(sv,(own T' x' (8 * d) (fun i=>gl.getD (i - 8 * d) 0)).2) →
        (∀ st' G' S,SX C.P st' G' w' S (own T' x' (8 * d) (fun i=>gl.getD (i - 8 * d) 0)).1 m cs->SW C.P st' G' w' S sv v)->∃ G',Inv C (upds st us) (a.put (some d) v) w' G':=by
      intro m T' x' cs hnr hw htc sv he hsw
      obtain ⟨hd,bl,Q⟩:=own_ok (P:=C.P) (w':=w') (gn:=fun i=>gl.getD (i - 8 * d) 0) T' m x' cs bs (8 * d) htc hw
      have hp5:=Q.p5
      obtain ⟨G',I',hs⟩:=addRoots I Q hrt hnd (fun p hp=>by
        have:=hall p hp
        rw [Bool.or_eq_true] at this
        rcases this with h | h
        · exact .inl (Nat.le_of_ble_eq_true h)
        · exact .inr (by rw [hp5,hnr];exact Nat.le_of_ble_eq_true h)) (fun id h1 h2=>by rw [hgn id h1 (by omega)];omega) hos hta hou hsz hD hblk hbs hbl
      rw [he] at h
      refine ⟨G',wr_sound O h I' (fun p hp i=>?_) (hsw _ _ _ (hs _))⟩
      rcases List.mem_append.1 hp with hp | hp
      · obtain ⟨id,hid⟩:=own_keys Q p hp;rw [hid];exact (sk_ne_rk _ _).symm
      · obtain ⟨p',_,rfl⟩:=List.mem_map.1 hp;exact (sk_ne_rk _ _).symm
    cases T with
    | frm=>cases hT
    | tup f =>
      obtain ⟨vs,hvs,hf⟩:=hv
      simp only [List.cons.injEq,and_true] at hvs
      subst hvs
      exact fin true f x vs rfl hT hf (.tup _) rfl (fun st' G' S hs=>⟨vs,rfl,hs⟩)
    | pair A B =>
      obtain ⟨cs,hcs,hc⟩:=hv
      simp only [List.cons.injEq,and_true] at hcs
      exact fin false _ x cs rfl hT hc _ rfl (fun st' G' S hs=>by rw [hcs,show valOf (.pair A B) cs=valS (own (.pair A B) x (8 * d) (fun i=>gl.getD (i - 8 * d) 0)).1 cs from rfl];exact SW_of hs)
    | st f =>
      obtain ⟨cs,hcs,hc⟩:=hv
      simp only [List.cons.injEq,and_true] at hcs
      obtain ⟨hd,bl,Q⟩:=own_ok (P:=C.P) (w':=w') (gn:=fun i=>gl.getD (i - 8 * d) 0) (.st f) false x cs bs (8 * d) hc hT
      exact fin false _ x cs rfl hT hc _ rfl (fun st' G' S hs=>by rw [hcs,<-Q.p6 rfl];exact SW_of hs)
    | int k =>
      obtain ⟨cs,hcs,hc⟩:=hv
      simp only [List.cons.injEq,and_true] at hcs
      exact fin false (.int k) x cs rfl hT hc _ rfl (fun st' G' S hs=>by rw [hcs];exact SW_of hs)
    | bool =>
      obtain ⟨cs,hcs,hc⟩:=hv
      simp only [List.cons.injEq,and_true] at hcs
      exact fin false .bool x cs rfl hT hc _ rfl (fun st' G' S hs=>by rw [hcs];exact SW_of hs)
    | str =>
      obtain ⟨cs,hcs,hc⟩:=hv
      simp only [List.cons.injEq,and_true] at hcs
      exact fin false .str x cs rfl hT hc _ rfl (fun st' G' S hs=>by rw [hcs];exact SW_of hs)
    | unit =>
      obtain ⟨cs,hcs,hc⟩:=hv
      simp only [List.cons.injEq,and_true] at hcs
      exact fin false .unit x cs rfl hT hc _ rfl (fun st' G' S hs=>by rw [hcs];exact SW_of hs)
    | sl e =>
      obtain ⟨cs,hcs,hc⟩:=hv
      simp only [List.cons.injEq,and_true] at hcs
      exact fin false (.sl e) x cs rfl hT hc _ rfl (fun st' G' S hs=>by rw [hcs];exact SW_of hs)
    | arr n e =>
      obtain ⟨cs,hcs,hc⟩:=hv
      simp only [List.cons.injEq,and_true] at hcs
      exact fin false (.arr n e) x cs rfl hT hc _ rfl (fun st' G' S hs=>by rw [hcs];exact SW_of hs)
    | ptr e=>cases hT
    | fn A R=>cases hT
theorem TC_zero:∀ (T:Ty) {z:SV} {w:World},zeroSV T=some z->T.ownable=true->TC T w (zc T) (dflt T) []
  | .int k,z,w,_,_=>⟨rfl,rfl⟩
  | .bool,z,w,_,_=>⟨rfl,rfl⟩
  | .str,z,w,_,_=>⟨rfl,rfl⟩
  | .unit,z,w,_,_=>⟨rfl,rfl⟩
  | .pair a b,z,w,h,hw=>by
    simp only [Ty.ownable,Bool.and_eq_true] at hw
    unfold zeroSV at h
    split at h
    · rename_i x y hx hy
      exact ⟨_,_,[],[],rfl,rfl,TC_zero a hx hw.1.2,TC_zero b hy hw.2⟩
    · cases h
  | .st f,z,w,h,hw=>by
    unfold zeroSV at h
    cases hv:f.vok
    · rw [hv] at h;simp only [cond_false,Option.map_eq_some_iff] at h
      obtain ⟨x,hx,rfl⟩:=h
      exact TC_zero f hx hw
    · exact TC_of_RX ⟨default,#[]⟩ (.st f) (S:=fun _=>True) (w:=w) (show f.mem=false from by
        have key:∀ T:Ty,T.vok=true->T.mem=false:=by
          intro T
          induction T with
          | pair a b iha ihb=>intro h;simp only [Ty.vok,Bool.and_eq_true] at h;simp [Ty.mem,iha h.1,ihb h.2]
          | st f ih=>intro h;exact ih h
          | arr n e ih=>intro h;exact ih h
          | _=>intro h;first | rfl | cases h
        exact key f hv) (RX_dflt (.st f) hv)
  | .arr n e,z,w,h,hw=>by
    unfold zeroSV at h
    cases hv:(Ty.arr n e).vok
    · rw [hv] at h;cases h
    · exact TC_of_RX ⟨default,#[]⟩ (.arr n e) (S:=fun _=>True) (w:=w) (by simpa [Ty.ownable,Ty.mem] using hw) (RX_dflt (.arr n e) hv)
  | .sl e,z,w,_,_=>.inl ⟨rfl,rfl,rfl⟩
  | .tup _,z,w,h,_=>by cases h
  | .ptr _,z,w,h,_=>by cases h
  | .fn _ _,z,w,h,_=>by cases h
  | .frm,z,w,h,_=>by cases h
theorem TC_zeroE (T:Ty) {w:World} (h:T.zok=true) (hw:(T.ownable || T.isFr)=true):TC T w (zc T) (dflt T) []:=by
  unfold Ty.zok at h
  by_cases hF:T=.st .frm
  · subst hF;exact .nil 0
  · have hF:T.isFr=false:=by
      cases T <;> first | rfl | skip
      rename_i f
      cases f <;> first | rfl | exact absurd rfl hF
    rw [hF,Bool.or_false] at h hw
    obtain ⟨z,hz⟩:=Option.isSome_iff_exists.1 h
    exact TC_zero T hz hw
theorem zero_val {P:Program} {ty:Nat->Option Ty} {t:Nat} {T:Ty} (ho:TyOk P ty t T) (hz:T.zok=true) (hw:(T.ownable || T.isFr)=true):∃ i,P.info? t=some i/\i.size=T.sz/\i.bytes<=100/\0 < i.bytes/\i.zero=some (valOf T (zc T))/\(valOf T (zc T)).cells=(zc T).toArray:=by
  obtain ⟨i,hi,hs,hb,hb0,hzz⟩:=ho.info
  refine ⟨i,hi,hs,hb,hb0,hzz hz,?_⟩
  have htc:=TC_zeroE T (w:=⟨#[],fun _ _=>0,0,default,#[]⟩) hz hw
  have hl:=TC_len _ _ _ _ _ htc
  have h1:=TC_one htc
  cases ha:isAggT T
  · rw [valOf_one ha]
    rw [ho.single ha] at hl
    obtain ⟨v,hv⟩:=List.length_eq_one_iff.1 hl
    rw [hv];exact one_cells (h1 v (by rw [hv];simp))
  · rw [valOf_agg ha];rfl
theorem madeCells_seg {z:List Value} {n i:Nat} (hz:0 < z.length) (hi:i < n):seg (madeCells z.toArray (n * z.length)).toList (i * z.length) z.length=z:=by
  apply List.ext_getElem?
  intro j
  rw [seg_get]
  by_cases hj:j < z.length
  · rw [if_pos hj]
    have h1:i * z.length + j < n * z.length:=by
      have:(i + 1) * z.length<=n * z.length:=Nat.mul_le_mul_right _ hi
      rw [Nat.succ_mul] at this;omega
    have h2:(i * z.length + j) % z.length=j:=by rw [Nat.mul_comm,Nat.mul_add_mod,Nat.mod_eq_of_lt hj]
    simp [madeCells,h1,h2,hj]
  · rw [if_neg hj,List.getElem?_eq_none (by omega)]
theorem make_bounds {b n:Int} (h0:0<=n) (hb:b<=100) (hl:n<=1099511627776):b * n<=281474976710656/\n<=9223372036854775807:=by
  have:b * n<=100 * n:=Int.mul_le_mul_of_nonneg_right hb h0
  omega
theorem snd_makeSlice (O:CfgOk C cf) {t:TypeId} {l c:Operand}:Snd C cf ⟨dst,.makeSlice t l c,type,pos,after,guard⟩:=by
  intro st a w G us next Q I h hn
  simp only [exec] at h
  obtain ⟨v,hv,h⟩:=opd_run I h
  split at h
  case h_2=>exact (Rn_fail.1 h).elim
  rename_i n
  obtain ⟨u,hu,h⟩:=opd_run I h
  split at h
  case h_2=>exact (Rn_fail.1 h).elim
  rename_i m
  split at h
  case h_2=>exact (Rn_fail.1 h).elim
  rename_i e hty
  split at h
  case h_2=>exact (Rn_fail.1 h).elim
  rename_i z hz
  rw [Rn_bif] at h
  rcases h with ⟨hw,h⟩ | ⟨_,h⟩
  case inr=>exact (Rn_fail.1 h).elim
  rw [Rn_chk] at h
  simp only [Bool.and_eq_true,decide_eq_true_eq,Bool.not_eq_true'] at h hw
  obtain ⟨⟨⟨h0,hlim⟩,hnm⟩,h⟩:=h
  have hx:=SW_int hv
  have hy:=SW_int hu
  obtain ⟨ud,hud,hu⟩:=(O.ty _ _ hty).und
  cases ud <;> simp only [UnOk] at hu
  rename_i et
  obtain ⟨i,hi,hsz,hby,hb0,hzv,hzc⟩:=zero_val (TyOk.el O.ty hu) (zok_of hz) hw.1
  have htc:=TC_zeroE e (w:=w) (zok_of hz) hw.1
  have hzl:=TC_len _ _ _ _ _ htc
  have hlim':(n:Int)<=1099511627776:=hlim
  subst hnm
  have hrun:=run_make (P:=C.P) w t et i _ hud hi hzv .i64 .i64 n n h0 (Int.le_refl _) (make_bounds h0 (by omega) hlim').1 (make_bounds h0 (by omega:(i.bytes:Int)<=100) hlim').2
  rw [hzc,hsz] at hrun
  refine wp_value (v:=.slice (some ⟨w.heap.size,0,none⟩) n.toNat n.toNat) (w':=w.alloc (.cells (madeCells (zc e).toArray (n.toNat * e.sz)) et)) (by simp only [execOp,hx,hy];exact exec_value hrun) ?_
  have hTV:TV (.sl e) false (w.alloc (.cells (madeCells (zc e).toArray (n.toNat * e.sz)) et)) [.slice (some ⟨w.heap.size,0,none⟩) n.toNat n.toNat] (List.replicate n.toNat (dflt e)) [w.heap.size]:=by
    refine ⟨[.slice (some ⟨w.heap.size,0,none⟩) n.toNat n.toNat],rfl,.inr ⟨w.heap.size,0,n.toNat,n.toNat,_,et,List.replicate n.toNat [],rfl,by simp,by simp,by rw [alloc_get,if_pos rfl],Nat.le_refl _,by simp [size_madeCells],by simp,fun j y bi hj hb=>?_⟩⟩
    have hj:(List.replicate n.toNat (dflt e))[j]?=some y:=hj
    rw [List.getElem?_replicate] at hj hb
    split at hj
    · rename_i hlt
      rw [if_pos hlt] at hb
      simp only [Option.some.injEq] at hj hb
      subst hj;subst hb
      by_cases hz0:(zc e).length=0
      · have:zc e=[]:=List.length_eq_zero_iff.1 hz0
        rw [this] at htc
        rw [<-hzl,hz0,seg_zero]
        exact TC_congr e (fun b hb=>by cases hb) htc
      · rw [Nat.zero_add,<-hzl,madeCells_seg (by omega) hlt]
        exact TC_congr e (fun b hb=>by cases hb) htc
    · cases hj
  obtain ⟨G',I'⟩:=wrOwn_sound O I h (show (Ty.sl e).ownable=true by simp only [Ty.ownable,Bool.and_eq_true];exact ⟨hw.1,by cases e <;> simp_all [Ty.isTup]⟩) hTV (fun p hp=>by cases hp) (by simp) rfl rfl rfl (by rw [alloc_size];omega) (D:=fun _=>False) (fun b hb=>hb.elim)
    (fun b hb _=>by rw [alloc_get,if_neg (by omega)]) (by simp) (fun b hb=>by simp at hb;subst hb;exact ⟨.inr (Nat.le_refl _),by rw [alloc_size];omega⟩)
  exact hn _ _ _ I'
end
end Go.Proofs.YtefmjjpdflpnaaaGreat.E
namespace Go.Proofs.YtefmjjpdflpnaaaGreat.E
open Go Go.RowKit
set_option linter.unusedVariables false
set_option linter.unusedSimpArgs false
theorem foldl_setSeg (o:Nat):∀ (l:List Value) (k:Nat) (cs:Array Value),o + k + l.length<=cs.size →
    (List.foldl (fun (cs:Array Value) (p:Value × Nat)=>cs.setIfInBounds (o + p.2) p.1) cs (l.zipIdx k)).toList=setSeg cs.toList (o + k) l
  | [],k,cs,_=>by simp [setSeg_nil]
  | c :: l,k,cs,h=>by
    simp only [List.length_cons] at h
    rw [List.zipIdx_cons,List.foldl_cons,foldl_setSeg o l (k + 1) _ (by simp;omega)]
    apply List.ext_getElem?
    intro j
    have hL:(cs.setIfInBounds (o + k) c).toList.length=cs.size:=by simp
    have hC:cs.toList.length=cs.size:=Array.length_toList
    rw [setSeg_get (by rw [hL];omega),setSeg_get (by rw [hC];simp only [List.length_cons];omega)]
    simp only [List.length_cons]
    by_cases h1:o + (k + 1)<=j/\j < o + (k + 1) + l.length
    · rw [if_pos h1,if_pos (by omega),show j - (o + k)=(j - (o + (k + 1))) + 1 from by omega,List.getElem?_cons_succ]
    · rw [if_neg h1]
      by_cases h2:j=o + k
      · subst h2
        rw [if_pos (by omega),Nat.sub_self,List.getElem?_cons_zero,Array.toList_setIfInBounds]
        rw [List.getElem?_set_self (by rw [hC];omega)]
      · rw [if_neg (by omega)]
        simp only [Array.toList_setIfInBounds]
        rw [List.getElem?_set_ne (by omega)]
theorem fill_one {place:Nat->Option (Nat × Nat)} {cells:Array Value} {i o n:Nat} {v:Value} {c:List Value} {rest:List (Nat × Value)} (hp:place i=some (o,n)) (hv:v.cells=c.toArray) (hc:c.length=n) (hl:o + n<=cells.size) :
    Instr.fill place cells ((i,v) :: rest)=Instr.fill place (setSeg cells.toList o c).toArray rest:=by
  conv=>lhs;unfold Instr.fill
  rw [hp]
  simp only [hv,List.size_toArray]
  have hcond:¬ ((c.length ≠ n || o + c.length > cells.size)=true):=by
    simp only [Bool.or_eq_true,decide_eq_true_eq,not_or];omega
  have hz:(c.toArray.zipIdx.foldl (fun cs x=>match x with | (c,j)=>cs.setIfInBounds (o + j) c) cells)=(setSeg cells.toList o c).toArray:=by
    apply Array.ext'
    rw [<-Array.foldl_toList]
    have:=foldl_setSeg o c 0 cells (by omega)
    rw [Nat.add_zero] at this
    simp only [Array.toList_zipIdx]
    exact this
  have e1:(¬ (c.length=n)\/o + c.length > cells.size) ↔ False:=by
    constructor
    · rintro (h | h)
      · exact h hc
      · omega
    · exact False.elim
  simp only [hz]
  split
  · rename_i h
    simp only [ne_eq,decide_not,Bool.or_eq_true,Bool.not_eq_true',decide_eq_false_iff_not,decide_eq_true_eq] at h
    exact absurd h (by rw [e1];exact not_false)
  · rfl
section
variable {C:Cx} {cf:Cfg} {dst:Option Tmp} {type:TypeId} {pos:String} {after:Array Edge} {guard:Option (Nat × Bool)} {st:St} {a:Act} {w w':World} {G:Gh} {α:Type} {us:U}
theorem cells_of {P:Program} {ty:Nat->Option Ty} {t:Nat} {T:Ty} (ho:TyOk P ty t T) {c:List Value} (hl:c.length=T.sz) (h1:∀ v ∈ c,v.oneCell'=true):(valOf T c).cells=c.toArray:=by
  cases ha:isAggT T
  · rw [valOf_one ha]
    rw [ho.single ha] at hl
    obtain ⟨v,rfl⟩:=List.length_eq_one_iff.1 hl
    exact one_cells (h1 v (by simp))
  · rw [valOf_agg ha];rfl
theorem places_ok {P:Program} {g:Nat->Nat × Nat}:∀ (fs:List Field) (k:Nat),(∀ n f,fs[n]?=some f->∃ i,P.info? f.type=some i/\(f.offset,i.size)=g (k + n)) →
    ∃ ps:List (Nat × Nat),fs.mapM (fun f=>(P.info? f.type).map fun i=>(f.offset,i.size))=some ps/\ps.length=fs.length/\∀ n,n < fs.length->ps[n]?=some (g (k + n))
  | [],k,_=>⟨[],by simp,rfl,fun n hn=>absurd hn (by simp)⟩
  | f :: fs,k,h=>by
    obtain ⟨i,hi,he⟩:=h 0 f rfl
    obtain ⟨ps,h1,h2,h3⟩:=places_ok fs (k + 1) (fun n f' hf=>by
      have:=h (n + 1) f' (by simpa using hf)
      rwa [show k + (n + 1)=k + 1 + n from by omega] at this)
    refine ⟨g k :: ps,?_,by simp [h2],fun n hn=>?_⟩
    · simp only [List.mapM_cons,Option.bind_eq_bind,Option.pure_def,hi,h1,Option.map_some,Option.bind_some,he,Nat.add_zero]
    · cases n with
      | zero=>simp
      | succ n =>
        have:=h3 n (by simpa using hn)
        rw [show k + 1 + n=k + (n + 1) from by omega] at this
        simpa using this
theorem putAll_ok {P:Program} {ty:Nat->Option Ty} (hO:∀ t T,ty t=some T->TyOk P ty t T) {S:Nat->Prop} {F:Ty} (hli:(Ty.st F).listy=true) {place:Nat->Option (Nat × Nat)} (hpl:∀ n,n < F.len->place n=some (off F n,(fld F n).sz)) (hft:∀ n,n < F.len->∃ t,ty t=some (fld F n)) :
    ∀ (is:List Nat) (vs:SV) {vals:List Value} {v v':SV} {cs:List Value},is.length=vals.length->SX P st G w S vs true vals->v.hasTy (.st F)=true->SX P st G w S v false cs->putAll F (zipP is vs) v=some v' →
      ∃ cs',Instr.fill place cs.toArray (is.zip vals)=some cs'.toArray/\SX P st G w S v' false cs'/\v'.hasTy (.st F)=true
  | [],vs,vals,v,v',cs,hl,hs,ht,hv,h=>by
    have:vals=[]:=List.length_eq_zero_iff.1 hl.symm
    subst this
    have h:some v=some v':=by cases vs <;> exact h
    cases h
    exact ⟨cs,rfl,hv,ht⟩
  | i :: is,vs,vals,v,v',cs,hl,hs,ht,hv,h=>by
    cases vals with
    | nil=>simp at hl
    | cons x vals =>
      cases vs with
      | pair b r =>
        obtain ⟨c,rr,he,h1,h2⟩:=hs
        simp only [List.cons.injEq] at he
        obtain ⟨rfl,rfl⟩:=he
        simp only [zipP,putAll] at h
        cases hb:Nat.blt i F.len && b.hasTy (fld F i)
        · rw [hb] at h;cases h
        · rw [hb] at h
          simp only [cond_true] at h
          rw [Bool.and_eq_true] at hb
          have hlt:i < F.len:=Nat.le_of_ble_eq_true hb.1
          cases hp:v.setP [i] b with
          | none=>rw [hp] at h;cases h
          | some v1 =>
            rw [hp] at h;simp only at h
            obtain ⟨k1,k2⟩:=SX_setP [i] v (.st F) hli ht hv hp hb.2 h1
            obtain ⟨t,htt⟩:=hft i hlt
            have ho:=hO _ _ htt
            have hcl:=SX_len b _ hb.2 h1
            have hcs:=SX_len v _ ht hv
            have hcs:cs.length=F.sz:=hcs
            have hle:=off_le F i
            obtain ⟨cs',j1,j2,j3⟩:=putAll_ok hO hli hpl hft is r (by simpa using hl) h2 k2 k1 h
            refine ⟨cs',?_,j2,j3⟩
            rw [List.zip_cons_cons,fill_one (hpl i hlt) (by rw [valS_res hb.2];exact cells_of ho hcl (SX_one b h1)) hcl (by simp;omega)]
            simpa [offP] using j1
      | _=>first | exact False.elim hs | (unfold SX at hs;first | exact False.elim hs | (exact absurd hs (by simp)))
theorem zip_eval {a:Act} (ps:Array (Nat × Operand)):(ps.map fun (p:Nat × Operand)=>(p.1,a.eval p.2)).toList=(ps.toList.map (·.1)).zip ((ps.toList.map (·.2)).map a.eval):=by
  rw [Array.toList_map]
  generalize ps.toList=l
  induction l with
  | nil=>rfl
  | cons p l ih=>simp [ih]
theorem snd_build (O:CfgOk C cf) {t:TypeId} {ps:Array (Nat × Operand)}:Snd C cf ⟨dst,.build t ps,type,pos,after,guard⟩:=by
  intro st a w G us next Q I h hn
  simp only [exec] at h
  obtain ⟨vs,hvs,h⟩:=opds_run I h
  split at h
  case h_2=>exact (Rn_fail.1 h).elim
  rename_i F z hty hz
  split at h
  case h_2=>exact (Rn_fail.1 h).elim
  rename_i v' hp
  rw [Rn_bif] at h
  rcases h with ⟨hb,h⟩ | ⟨_,h⟩
  case inr=>exact (Rn_fail.1 h).elim
  rw [Bool.and_eq_true] at hb
  have ho:=O.ty _ _ hty
  rw [hty] at hz
  simp only at hz
  obtain ⟨ud,hud,hu⟩:=ho.und
  cases ud <;> simp only [UnOk] at hu
  rename_i fs
  obtain ⟨i,hi,hsz,_,_,hzv⟩:=ho.info
  have hzv:=hzv (zok_of hz)
  obtain ⟨h1,h2⟩:=zeroSV_ok (.st F) (P:=C.P) (st:=st) (G:=G) (w:=w) (S:=Fz st G w) hz
  obtain ⟨pl,hm,hml,hmn⟩:=places_ok (P:=C.P) (g:=fun n=>(off F n,(fld F n).sz)) fs.toList 0 (fun n f hf=>by
    obtain ⟨g1,g2,_⟩:=hu.2 n f (by simpa using hf)
    obtain ⟨j,hj,hjs,_⟩:=(O.ty _ _ g2).info
    exact ⟨j,hj,by rw [g1,hjs,Nat.zero_add]⟩)
  have hlen:fs.toList.length=F.len:=by simpa using hu.1
  obtain ⟨cs',j1,j2,j3⟩:=putAll_ok (P:=C.P) O.ty (place:=(pl.toArray[·]?)) hb.2 (fun n hn=>by
    have:=hmn n (by omega)
    rw [Nat.zero_add] at this
    simpa using this) (fun n hn=>by
    have:n < fs.size:=by rw [hu.1];exact hn
    exact ⟨fs[n].type,(hu.2 n fs[n] (by simp [this])).2.1⟩) (ps.toList.map (·.1)) vs (by simp) hvs h1 h2 hp
  refine snd_val O I h (SW_of j2) hn ?_
  rw [valS_res j3]
  simp only [execOp]
  refine exec_value (run_build w t _ cs'.toArray ?_)
  unfold Program.built
  rw [hi,hud]
  simp only [hzv,hm]
  have e:=zip_eval (a:=a) ps
  rw [show (ps.map fun x=>match x with | (i,x)=>(i,a.eval x)).toList=(ps.toList.map (·.1)).zip ((ps.toList.map (·.2)).map a.eval) from e]
  exact j1
end
end Go.Proofs.YtefmjjpdflpnaaaGreat.E
namespace Go.Proofs.YtefmjjpdflpnaaaGreat.E
open Go Go.RowKit
set_option linter.unusedVariables false
set_option linter.unusedSimpArgs false
section
variable {C:Cx} {cf:Cfg} {dst:Option Tmp} {type:TypeId} {pos:String} {after:Array Edge} {guard:Option (Nat × Bool)} {st:St} {a:Act} {w w':World} {G:Gh} {α:Type} {us:U}
theorem fill_up {e:Ty}:∀ (is:List Nat) (css:List (List Value)) (k:Nat) (cells:Array Value),upFrom k is=true->is.length=css.length->cells.size=(k + css.length) * e.sz →
    (∀ c ∈ css,c.length=e.sz/\(valOf e c).cells=c.toArray)->Instr.fill (fun i=>some (i * e.sz,e.sz)) cells (is.zip (css.map (valOf e)))=some (cells.toList.take (k * e.sz) ++ css.flatten).toArray
  | is,[],k,cells,_,hl,hs,_=>by
    have:is=[]:=List.length_eq_zero_iff.1 hl
    subst this
    have:cells.toList.take (k * e.sz)=cells.toList:=List.take_of_length_le (by simp [hs])
    simp [Instr.fill,this]
  | [],_ :: _,_,_,_,hl,_,_=>by cases hl
  | i :: is,c :: css,k,cells,hu,hl,hs,hc=>by
    simp only [upFrom,Bool.and_eq_true] at hu
    have hi:i=k:=Nat.eq_of_beq_eq_true hu.1
    subst hi
    obtain ⟨h1,h2⟩:=hc c List.mem_cons_self
    have hsz:cells.toList.length=(i + (css.length + 1)) * e.sz:=by simpa using hs
    have hmul:(i + (css.length + 1)) * e.sz=i * e.sz + e.sz + css.length * e.sz:=by rw [Nat.add_mul,Nat.succ_mul];omega
    rw [List.map_cons,List.zip_cons_cons,fill_one (place:=fun i=>some (i * e.sz,e.sz)) rfl h2 h1 (by rw [<-Array.length_toList];omega)]
    rw [fill_up is css (i + 1) _ hu.2 (by simpa using hl) (by
      rw [List.size_toArray,setSeg_len (by omega),hsz];congr 1;omega) (fun c' hc'=>hc c' (List.mem_cons_of_mem _ hc'))]
    congr 2
    rw [List.flatten_cons,<-List.append_assoc]
    congr 1
    apply List.ext_getElem?
    intro j
    rw [List.getElem?_take,Nat.succ_mul]
    rw [setSeg_get (by omega),h1,List.getElem?_append,List.length_take,Nat.min_eq_left (by omega),List.getElem?_take]
    by_cases hj:j < i * e.sz
    · rw [if_pos (by omega),if_neg (by omega),if_pos hj,if_pos hj]
    · rw [if_neg hj]
      by_cases hj2:j < i * e.sz + e.sz
      · rw [if_pos hj2,if_pos (by omega)]
      · rw [if_neg hj2,List.getElem?_eq_none (by omega)]
theorem run_buildS {P:Program} {ty:Nat->Option Ty} (hO:∀ t T,ty t=some T->TyOk P ty t T) {w:World} {t:Nat} {e:Ty} (ht:ty t=some (.sl e)) (hz:e.zok=true) (hw:(e.ownable || e.isFr)=true) {n:Nat} (hn:n * e.sz<=4096)
    {parts:Array (Nat × Value)} {css:List (List Value)} {is:List Nat} (hp:parts.toList=is.zip (css.map (valOf e))) (hu:upFrom 0 is=true) (hl:is.length=css.length) (hcl:css.length=n) (hc:∀ c ∈ css,c.length=e.sz/\(valOf e c).cells=c.toArray) :
    ∃ et,(Instr.buildSlice t n parts).run P w=.ok (.slice (some ⟨w.heap.size,0,none⟩) n n) (w.alloc (.cells css.flatten.toArray et)):=by
  have ho:=hO _ _ ht
  obtain ⟨ud,hud,hu'⟩:=ho.und
  cases ud <;> simp only [UnOk] at hu'
  rename_i et
  obtain ⟨i,hi,hsz,_,_,hzv,hzc⟩:=zero_val (TyOk.el hO hu') hz hw
  have key:∀ cells:Array Value,cells.size=n * e.sz->Instr.fill (fun i=>some (i * e.sz,e.sz)) cells parts.toList=some css.flatten.toArray:=by
    intro cells hcs
    rw [hp,fill_up is css 0 cells hu hl (by rw [hcs,hcl,Nat.zero_add]) hc]
    simp
  refine ⟨et,?_⟩
  have hsm:¬ (n * i.size > 2 ^ 24):=by rw [hsz];omega
  by_cases h0:n * e.sz=0
  · have k0:=key ((Array.range 0).map (fun x=>(default:Value))) (by simp [h0])
    simp [Instr.buildSlice,run_underlying hud,sizeOf,typeInfo,zeroValue,hi,hsz,h0,k0,newRow]
  · have k1:=key ((Array.range (n * e.sz)).map ((valOf e (zc e)).cells[· % (valOf e (zc e)).cells.size]!)) (by simp)
    exact run_buildSlice w t et n parts css.flatten.toArray i (valOf e (zc e)) hud hi hzv hsm (by rw [hsz];exact h0) (by rw [hsz];exact k1)
theorem list_TC {e:Ty} (he:e.isTup=false) {w:World}:∀ (n:Nat) {vals:List Value} {x:den (replT n e)} {bs:List Nat},TV (replT n e) true w vals x bs →
    ∃ (css:List (List Value)) (bss:List (List Nat)),vals=css.map (valOf e)/\css.length=n/\bss.length=n/\bs=bss.flatten/\(listD e n x).length=n ∧
      ∀ (i:Nat) c y bi,css[i]?=some c->(listD e n x)[i]?=some y->bss[i]?=some bi->TC e w c y bi
  | 0,vals,x,bs,h=>by
    obtain ⟨h1,h2⟩:=h
    exact ⟨[],[],h1,rfl,rfl,by rw [h2];rfl,rfl,fun i c y bi hi=>by cases hi⟩
  | n + 1,vals,x,bs,h=>by
    obtain ⟨v,r,b1,b2,rfl,rfl,h1,h2⟩:=h
    obtain ⟨css,bss,k1,k2,k3,k4,k5,k6⟩:=list_TC he n h2
    have h1:∃ cs,v=valOf e cs/\TC e w cs x.1 b1:=by
      cases e <;> first | (obtain ⟨cs,g1,g2⟩:=h1;exact ⟨cs,by simpa using g1,g2⟩) | cases he
    obtain ⟨cs,g1,g2⟩:=h1
    refine ⟨cs :: css,b1 :: bss,by rw [List.map_cons,g1,k1],by simp [k2],by simp [k3],by rw [List.flatten_cons,k4],by simp [listD,k5],fun i c y bi hi hy hb=>?_⟩
    cases i with
    | zero =>
      simp only [List.getElem?_cons_zero,Option.some.injEq,listD] at hi hy hb
      subst hi;subst hy;subst hb;exact g2
    | succ i =>
      simp only [List.getElem?_cons_succ,listD] at hi hy hb
      exact k6 i c y bi hi hy hb
theorem list_RX {P:Program} {e:Ty} {w:World} {S:Nat->Prop}:∀ (n:Nat) {vals:List Value} {x:den (replT n e)},RX P (replT n e) true w S vals x →
    ∃ css:List (List Value),vals=css.map (valOf e)/\css.length=n/\(listD e n x).length=n/\∀ (i:Nat) c y,css[i]?=some c->(listD e n x)[i]?=some y->RX P e false w S c y
  | 0,vals,x,h=>⟨[],h,rfl,rfl,fun i c y hi=>by cases hi⟩
  | n + 1,vals,x,h=>by
    obtain ⟨c,r,rfl,h1,h2⟩:=h
    obtain ⟨css,k1,k2,k3,k4⟩:=list_RX n h2
    refine ⟨c :: css,by rw [List.map_cons,k1],by simp [k2],by simp [listD,k3],fun i c' y hi hy=>?_⟩
    cases i with
    | zero =>
      simp only [List.getElem?_cons_zero,Option.some.injEq,listD] at hi hy
      subst hi;subst hy;exact h1
    | succ i =>
      simp only [List.getElem?_cons_succ,listD] at hi hy
      exact k4 i c' y hi hy
theorem vals_run {cf:Cfg} {P:Program} {S:Nat->Prop} {e:Ty}:∀ (k n:Nat) (vs:SV) {f:den (replT n e)->M α} {u:α} {vals:List Value},vs.isVals=true->Rn (res cf k (replT n e) vs f) st u->SX P st G w S vs true vals →
    ∃ x,RX P (replT n e) true w S vals x/\Rn (f x) st u
  | 0,n,vs,f,u,vals,hv,h,hs=>(Rn_fail.1 (by unfold res at h;exact h)).elim
  | k + 1,0,vs,f,u,vals,hv,h,hs=>by
    cases vs with
    | unit=>exact ⟨(),hs,h⟩
    | pair a b=>exact (Rn_fail.1 (show Rn (.fail:M α) st u from h)).elim
    | _=>cases hv
  | k + 1,n + 1,vs,f,u,vals,hv,h,hs=>by
    cases vs with
    | unit=>exact (Rn_fail.1 (show Rn (.fail:M α) st u from h)).elim
    | pair a b =>
      have h:Rn (res cf k e a fun x=>res cf k (replT n e) b fun y=>f (x,y)) st u:=h
      obtain ⟨c,r,rfl,h1,h2⟩:=hs
      cases a with
      | val T x =>
        cases k with
        | zero=>exact (Rn_fail.1 (by unfold res at h;exact h)).elim
        | succ k =>
          have h:Rn (if hh:T=e then (res cf (k + 1) (replT n e) b fun y=>f (hh ▸ x,y)) else .fail) st u:=by
            unfold res at h;exact h
          split at h
          · rename_i hh;subst hh
            obtain ⟨y,y1,y2⟩:=vals_run (k + 1) n b hv h h2
            exact ⟨(x,y),⟨c,r,rfl,h1,y1⟩,y2⟩
          · exact (Rn_fail.1 h).elim
      | _=>cases hv
    | _=>cases hv
/-- New blocks that nobody owns change nothing. -/
theorem inv_grow (I:Inv C st a w G) (hos:w'.os=w.os) (hta:w'.tape=w.tape) (hou:w'.output=w.output) (hsz:w.heap.size<=w'.heap.size) (hb:∀ b,b < w.heap.size->w'.heap[b]?=w.heap[b]?):Inv C st a w' G :=
  Step.inv (K:=[]) (D:=fun _=>False) (C:=C) I { os:=hos,tape:=hta,output:=hou,size:=hsz,block:=(fun b h _=>hb b h),own:=(fun b h=>False.elim h),out:=(fun k _=>⟨rfl,rfl,rfl,rfl⟩),nosk:=(fun i h=>by cases h),s0:=rfl,ks:=(fun k h=>by cases h),sub:=(fun k h=>by cases h),lt:=(fun k h=>by cases h),nd:=(fun k h=>by cases h),dj:=(fun k h=>by cases h),rt:=(fun k h=>by cases h),bx:=(fun k h=>by cases h) }
theorem flat_seg {e:Ty} {css:List (List Value)} (hc:∀ c ∈ css,c.length=e.sz) {i:Nat} {c:List Value} (h:css[i]?=some c):seg css.flatten (i * e.sz) e.sz=c :=
  flatten_seg css i c (fun j d hd=>hc d (List.mem_of_getElem? hd)) h
theorem css_len {e:Ty} {css:List (List Value)} {n:Nat} (hl:css.length=n) (hc:∀ c ∈ css,c.length=e.sz):css.flatten.length=n * e.sz :=
  flatten_len css hl fun i c h=>hc c (List.mem_of_getElem? h)
theorem snd_buildSlice (O:CfgOk C cf) {t:TypeId} {n:Nat} {ps:Array (Nat × Operand)}:Snd C cf ⟨dst,.buildSlice t n ps,type,pos,after,guard⟩:=by
  intro st a w G us next Q I h hn
  simp only [exec] at h
  obtain ⟨vs,hvs,h⟩:=opds_run I h
  split at h
  case h_2=>exact (Rn_fail.1 h).elim
  rename_i e hty
  rw [Rn_bif] at h
  rcases h with ⟨hb,h⟩ | ⟨_,h⟩
  case inr=>exact (Rn_fail.1 h).elim
  simp only [Bool.and_eq_true,Bool.not_eq_true'] at hb
  obtain ⟨⟨⟨⟨⟨hup,hps⟩,hble⟩,hw⟩,htup⟩,hz⟩:=hb
  have hps:ps.size=n:=Nat.eq_of_beq_eq_true hps
  have hble:n * e.sz<=4096:=Nat.le_of_ble_eq_true hble
  have hown:(Ty.sl e).ownable=true:=by simp only [Ty.ownable,Bool.and_eq_true];exact ⟨hw,by cases e <;> simp_all [Ty.isTup]⟩
  obtain ⟨ud,hud,hu'⟩:=(O.ty _ _ hty).und
  cases ud <;> simp only [UnOk] at hu'
  have hoe:=TyOk.el O.ty hu'
  have hlen:(ps.toList.map (·.1)).length=n:=by simp [hps]
  -- the run
  have run:∀ css:List (List Value),(ps.toList.map (·.2)).map a.eval=css.map (valOf e)->css.length=n->(∀ c ∈ css,c.length=e.sz/\(valOf e c).cells=c.toArray) →
      ∃ et,(execOp a.eval ⟨dst,.buildSlice t n ps,type,pos,after,guard⟩).run C.P w=.ok (.value (.slice (some ⟨w.heap.size,0,none⟩) n n)) (w.alloc (.cells css.flatten.toArray et)):=by
    intro css h1 h2 h3
    have e':=zip_eval (a:=a) ps
    rw [h1] at e'
    obtain ⟨et,hr⟩:=run_buildS (P:=C.P) O.ty (w:=w) hty hz hw hble (parts:=ps.map fun x=>(x.1,a.eval x.2)) e' hup (by rw [hlen,h2]) h2 h3
    exact ⟨et,by simp only [execOp];exact exec_value hr⟩
  have old:∀ (o:Obj) (b:Nat),b < w.heap.size->(w.alloc o).heap[b]?=w.heap[b]?:=fun o b hb=>by rw [alloc_get,if_neg (by omega)]
  have asz:∀ (o:Obj),w.heap.size<=(w.alloc o).heap.size:=fun o=>by rw [alloc_size];omega
  rw [Rn_bif] at h
  rcases h with ⟨hcase,h⟩ | ⟨_,h⟩
  · -- frozen parts
    simp only [Bool.and_eq_true] at hcase
    obtain ⟨x,hx,h⟩:=vals_run 64 n vs hcase.1.2 h hvs
    obtain ⟨css,k1,k2,k3,k4⟩:=list_RX n hx
    have hcl:∀ c ∈ css,c.length=e.sz/\(valOf e c).cells=c.toArray:=fun c hc=>by
      obtain ⟨i,hi⟩:=List.getElem?_of_mem hc
      obtain ⟨y,hy⟩:=some_of_len (k2.trans k3.symm) hi
      have:=k4 i c y hi hy
      exact ⟨RX_len _ _ _ _ _ _ this,cells_of hoe (RX_len _ _ _ _ _ _ this) (RX_one C.P e this)⟩
    obtain ⟨et,hr⟩:=run css k1 k2 hcl
    have I':=inv_grow (w':=w.alloc (.cells css.flatten.toArray et)) I rfl rfl rfl (asz _) (old _)
    refine wp_value hr (hn _ _ G (wr_sound0 O h I' ?_))
    refine ⟨[.slice (some ⟨w.heap.size,0,none⟩) n n],rfl,some ⟨w.heap.size,0,none⟩,n,n,rfl,k3.symm,Nat.le_refl _,.inr ⟨w.heap.size,0,_,et,(0,0),rfl,⟨by rw [alloc_size];omega,fun k hm=>?_,I.m0 _ (.inl I.size)⟩,by rw [alloc_get,if_pos rfl],?_,fun i y hy=>?_⟩⟩
    · have:=(I.lt k _ hm).1;omega
    · rw [Nat.zero_add,List.size_toArray,css_len k2 fun c hc=>(hcl c hc).1];exact Nat.le_refl _
    · obtain ⟨c,hc⟩:=some_of_len (k3.trans k2.symm) hy
      rw [Nat.zero_add,flat_seg (fun c hc=>(hcl c hc).1) hc]
      exact RX_congr C.P e false (asz _) (fun b hb _=>⟨⟨Nat.lt_of_lt_of_le hb.1 (asz _),hb.2⟩,old _ b hb.1⟩) (fun b hb=>hb.1) (k4 i c y hc hy)
  · -- parts that are moved, parts that lead to no memory
    have fin:∀ (l:List (den e)) (r:List (Nat × Nat)) (css:List (List Value)) (bss:List (List Nat)),(ps.toList.map (·.2)).map a.eval=css.map (valOf e)->css.length=n->bss.length=n->blk G r=bss.flatten->l.length=n →
        (∀ (i:Nat) c y bi,css[i]?=some c->l[i]?=some y->bss[i]?=some bi->TC e w c y bi)->(∀ p ∈ r,RT st p)->(r.map (·.1)).Nodup->Rn (wrOwn cf dst (.sl e) l r) st us->Oper.wp C.P ⟨dst,.buildSlice t n ps,type,pos,after,guard⟩ a w next Q:=by
      intro l r css bss k1 k2 k3 k4 k5 k6 hrt hnd h
      have hcl:∀ c ∈ css,c.length=e.sz/\(valOf e c).cells=c.toArray:=fun c hc=>by
        obtain ⟨i,hi⟩:=List.getElem?_of_mem hc
        obtain ⟨y,hy⟩:=some_of_len (k2.trans k5.symm) hi
        obtain ⟨bi,hbi⟩:=some_of_len (k2.trans k3.symm) hi
        have:=k6 i c y bi hi hy hbi
        exact ⟨TC_len _ _ _ _ _ this,cells_of hoe (TC_len _ _ _ _ _ this) (TC_one this)⟩
      obtain ⟨et,hr⟩:=run css k1 k2 hcl
      have hlt:∀ b ∈ blk G r,b < w.heap.size:=fun b hb=>by
        obtain ⟨p,hp,hb⟩:=blk_mem hb
        rw [<-own_of_RT (hrt p hp)] at hb
        exact (I.lt _ _ hb).1
      have hTV:TV (.sl e) false (w.alloc (.cells css.flatten.toArray et)) [.slice (some ⟨w.heap.size,0,none⟩) n n] l (w.heap.size :: blk G r):=by
        refine ⟨[.slice (some ⟨w.heap.size,0,none⟩) n n],rfl,.inr ⟨w.heap.size,0,n,n,_,et,bss,rfl,by rw [k4],k5.symm,by rw [alloc_get,if_pos rfl],Nat.le_refl _,?_,k3,fun i y bi hy hbi=>?_⟩⟩
        · rw [Nat.zero_add,List.size_toArray,css_len k2 fun c hc=>(hcl c hc).1];exact Nat.le_refl _
        · obtain ⟨c,hc⟩:=some_of_len (k5.trans k2.symm) hy
          rw [Nat.zero_add,flat_seg (fun c hc=>(hcl c hc).1) hc]
          refine TC_congr e (fun b hb=>old _ b (hlt b ?_)) (k6 i c y bi hc hy hbi)
          rw [k4];exact List.mem_flatten.2 ⟨bi,List.mem_of_getElem? hbi,hb⟩
      obtain ⟨G',I'⟩:=wrOwn_sound O I h hown hTV hrt hnd rfl rfl rfl (asz _) (D:=fun _=>False) (fun b hb=>hb.elim) (fun b hb _=>old _ b hb)
        (List.nodup_cons.2 ⟨fun hm=>by have:=hlt _ hm;omega,blk_nodup I.toInvM r hrt hnd⟩) (fun b hb=>by
          rcases List.mem_cons.1 hb with rfl | hb
          · exact ⟨.inr (Nat.le_refl _),by rw [alloc_size];omega⟩
          · exact ⟨.inl hb,Nat.lt_of_lt_of_le (hlt b hb) (asz _)⟩)
      exact wp_value hr (hn _ _ _ I')
    rw [Rn_bif] at h
    rcases h with ⟨hm,h⟩ | ⟨hm,h⟩
    · obtain ⟨x,r,h1,h2,h3,_⟩:=mv_run I.toInvM vs (replT n e) true h hvs
      rw [Rn_bif] at h2
      rcases h2 with ⟨hnd,h2⟩ | ⟨_,h2⟩
      case inr=>exact (Rn_fail.1 h2).elim
      rw [nodupB_iff] at hnd
      obtain ⟨css,bss,k1,k2,k3,k4,k5,k6⟩:=list_TC htup n h1
      exact fin _ r css bss k1 k2 k3 k4 k5 k6 h3 hnd h2
    · obtain ⟨x,h1,h2,_⟩:=res_run O I.toInvM 64 (replT n e) vs true h hvs
      obtain ⟨css,k1,k2,k3,k4⟩:=list_RX n h1
      refine fin _ [] css (List.replicate n []) k1 k2 (by simp) (by simp [blk]) k3 (fun i c y bi hc hy hb=>?_) (fun p hp=>by cases hp) (by simp) h2
      rw [List.getElem?_replicate] at hb
      split at hb
      · simp only [Option.some.injEq] at hb;subst hb
        exact TC_of_RX C.P e hm (k4 i c y hc hy)
      · cases hb
end
end Go.Proofs.YtefmjjpdflpnaaaGreat.E
namespace Go.Proofs.YtefmjjpdflpnaaaGreat.E
open Go Go.RowKit
set_option linter.unusedVariables false
set_option linter.unusedSimpArgs false
section
variable {C:Cx} {cf:Cfg} {dst:Option Tmp} {type:TypeId} {pos:String} {after:Array Edge} {guard:Option (Nat × Bool)} {st:St} {a:Act} {w w':World} {G:Gh} {α:Type} {us:U}
/-- The cells of a slice's elements, and their blocks. -/
def Els (e:Ty) (w:World) (cs:List Value) (l:List (den e)) (bss:List (List Nat)):Prop :=
  cs.length=l.length * e.sz/\bss.length=l.length/\∀ (i:Nat) y bi,l[i]?=some y->bss[i]?=some bi->TC e w (seg cs (i * e.sz) e.sz) y bi
/-- Where they are read from. -/
def Src (w:World) (v:Value) (n:Nat) (cs:List Value):Prop :=
  (∃ ad c,v=.slice (some ad) n c/\∀ j u,cs[j]?=some u->w.cell? (ad.add j)=some u)\/(∃ c,v=.slice none n c/\n=0/\cs=[])
theorem Els.one {e:Ty} {cs:List Value} {l:List (den e)} {bss:List (List Nat)} (h:Els e w cs l bss):∀ u ∈ cs,u.oneCell'=true:=fun u hu=>by
  obtain ⟨h1,h2,h3⟩:=h
  obtain ⟨j,hj⟩:=List.getElem?_of_mem hu
  have hlt:j < cs.length:=(List.getElem?_eq_some_iff.1 hj).1
  rw [h1] at hlt
  have hp:0 < e.sz:=by
    rcases Nat.eq_zero_or_pos e.sz with h | h
    · rw [h,Nat.mul_zero] at hlt;omega
    · exact h
  have hi:j / e.sz < l.length:=Nat.div_lt_of_lt_mul (by rw [Nat.mul_comm];exact hlt)
  obtain ⟨bi,hbi⟩:=some_of_len h2.symm (show l[j / e.sz]?=some (l[j / e.sz]'hi) from List.getElem?_eq_getElem hi)
  have:=h3 (j / e.sz) _ bi (List.getElem?_eq_getElem hi) hbi
  refine TC_one this u (List.mem_of_getElem? (i:=j % e.sz) ?_)
  rw [seg_get,if_pos (Nat.mod_lt _ hp),Nat.mul_comm,Nat.div_add_mod];exact hj
theorem src_seg {b o n:Nat} {arr:Array Value} {et:TypeId} {fz:Nat × Nat} (hb:w.heap[b]?=some (.cells arr et fz)) (j:Nat) (u:Value) (h:(seg arr.toList o n)[j]?=some u):w.cell? ((⟨b,o,none⟩:Addr).add j)=some u:=by
  rw [add_off]
  rw [seg_get] at h
  split at h
  · simp [World.cell?,hb];simpa using h
  · cases h
theorem els_TC {e:Ty} {v:Value} {l:List (den e)} {bs:List Nat} (h:TC (.sl e) w [v] l bs):∃ cs bss,Src w v l.length cs/\Els e w cs l bss/\(∀ b ∈ bss.flatten,b ∈ bs)/\(bs.Nodup->bss.flatten.Nodup):=by
  rcases h with ⟨h1,h2,h3⟩ | ⟨b,o,n,c,arr,ty,bss,h1,h2,h3,h4,h5,h6,h7,h8⟩
  · have h2:l=[]:=h2
    subst h2
    exact ⟨[],[],.inr ⟨0,by simpa using h1,rfl,rfl⟩,⟨by simp,rfl,fun i y bi hi=>(by cases hi)⟩,fun b hb=>(by cases hb),fun _=>(by simp)⟩
  · have h3:n=l.length:=h3
    subst h3
    have hle:l.length * e.sz<=c * e.sz:=Nat.mul_le_mul_right _ h5
    refine ⟨seg arr.toList o (l.length * e.sz),bss,.inl ⟨⟨b,o,none⟩,c,by simpa using h1,fun j u hj=>src_seg h4 j u hj⟩,⟨?_,h7,fun i y bi hy hbi=>?_⟩,fun b' hb=>by rw [h2];exact List.mem_cons_of_mem _ hb,fun hn=>by rw [h2] at hn;exact (List.nodup_cons.1 hn).2⟩
    · exact seg_len (by rw [show arr.toList.length=arr.size from Array.length_toList];omega)
    · have hi:i < l.length:=(List.getElem?_eq_some_iff.1 hy).1
      have:(i + 1) * e.sz<=l.length * e.sz:=Nat.mul_le_mul_right _ hi
      rw [Nat.succ_mul] at this
      rw [seg_seg _ (by omega)];exact h8 i y bi hy hbi
theorem els_RX {P:Program} {S:Nat->Prop} {e:Ty} (hm:e.mem=false) {v:Value} {l:List (den e)} (h:RX P (.sl e) false w S [v] l):∃ cs,Src w v l.length cs/\Els e w cs l (List.replicate l.length []):=by
  obtain ⟨ad,n,c,h1,h2,h3,h4⟩:=h
  have h2:n=l.length:=h2
  subst h2
  have hrep:∀ {i:Nat} {bi:List Nat},(List.replicate l.length ([]:List Nat))[i]?=some bi->bi=[]:=fun {i bi} h=>by
    rw [List.getElem?_replicate] at h;split at h
    · simpa using h.symm
    · cases h
  rcases h4 with h4 | ⟨b,o,arr,ty,fz,h4,_,h5,h6,h7⟩
  · have h4:l=[]:=h4
    subst h4
    have hv:v=.slice ad 0 c:=by simpa using h1
    refine ⟨[],?_,by simp,rfl,fun i y bi hi=>by cases hi⟩
    cases ad with
    | none=>exact .inr ⟨c,hv,rfl,rfl⟩
    | some ad=>exact .inl ⟨ad,c,hv,fun j u hj=>by cases hj⟩
  · refine ⟨seg arr.toList o (l.length * e.sz),.inl ⟨_,c,by rw [<-h4];simpa using h1,fun j u hj=>src_seg h5 j u hj⟩,?_,by simp,fun i y bi hy hbi=>?_⟩
    · exact seg_len (by rw [show arr.toList.length=arr.size from Array.length_toList];omega)
    · have hi:i < l.length:=(List.getElem?_eq_some_iff.1 hy).1
      have:(i + 1) * e.sz<=l.length * e.sz:=Nat.mul_le_mul_right _ hi
      rw [Nat.succ_mul] at this
      rw [seg_seg _ (by omega),hrep hbi];exact TC_of_RX P e hm (h7 i y hy)
theorem Els.app {e:Ty} {cs ds:List Value} {l m:List (den e)} {bss css:List (List Nat)} (h:Els e w cs l bss) (k:Els e w ds m css):Els e w (cs ++ ds) (l ++ m) (bss ++ css):=by
  obtain ⟨h1,h2,h3⟩:=h
  obtain ⟨k1,k2,k3⟩:=k
  refine ⟨by simp [h1,k1,Nat.add_mul],by simp [h2,k2],fun i y bi hy hb=>?_⟩
  rw [List.getElem?_append] at hy hb
  rw [h2] at hb
  by_cases hi:i < l.length
  · rw [if_pos hi] at hy hb
    have:(i + 1) * e.sz<=l.length * e.sz:=Nat.mul_le_mul_right _ hi
    rw [Nat.succ_mul] at this
    have e1:seg (cs ++ ds) (i * e.sz) e.sz=seg cs (i * e.sz) e.sz:=by
      apply List.ext_getElem?
      intro j
      rw [seg_get,seg_get]
      by_cases hj:j < e.sz
      · rw [if_pos hj,if_pos hj,List.getElem?_append,if_pos (by omega)]
      · rw [if_neg hj,if_neg hj]
    rw [e1];exact h3 i y bi hy hb
  · rw [if_neg hi] at hy hb
    have e1:seg (cs ++ ds) (i * e.sz) e.sz=seg ds ((i - l.length) * e.sz) e.sz:=by
      have:i * e.sz=l.length * e.sz + (i - l.length) * e.sz:=by rw [<-Nat.add_mul];congr 1;omega
      rw [this,<-h1,seg_app2]
    rw [e1];exact k3 _ y bi hy hb
/-- In place. -/
theorem run_append_in {P:Program} {t ty et:TypeId} {i:TypeInfo} (ht:P.underlying t=some (.slice et)) (hi:P.info? et=some i) {b o n c:Nat} {arr:Array Value} {bt:TypeId} (hb:w.heap[b]?=some (.cells arr bt (0,0)))
    {x:Value} {m:Nat} {news:List Value} (hl:news.length=m * i.size) (hx:Src w x m news) (h1:∀ u ∈ news,u.oneCell'=true) (hr:n + m<=c) (hfit:o + n * i.size + news.length<=arr.size) :
    (Builtin.append_ #[t,t] ty #[.slice (some ⟨b,o,none⟩) n c,x]).run P w=.ok (.slice (some ⟨b,o,none⟩) (n + m) c) (w.setRow b (setSeg arr.toList (o + n * i.size) news).toArray):=by
  have hst:=run_storeCells_at P b (o + n * i.size) bt news 0 arr w hb (by simpa using hfit) h1
  simp only [Nat.add_zero] at hst
  rcases hx with ⟨ad,c',rfl,hc⟩ | ⟨c',rfl,rfl,rfl⟩
  · have hf:=run_firstCells_some (P:=P) w i.size m ad m c' news hl hc
    simp [Builtin.append_,run_underlying ht,sizeOf,typeInfo,hi,Builtin.lenOf,hr,hf,add_off,hst,setSeg]
  · have hf:=run_firstCells_none (P:=P) w i.size 0 0 c'
    have hr:n<=c:=hr
    simp only [List.append_nil,List.length_nil,Nat.add_zero] at hst
    simp [Builtin.append_,run_underlying ht,sizeOf,typeInfo,hi,Builtin.lenOf,hr,hf,add_off,setSeg]
    rw [setRow_self w b arr bt (0,0) hb]
    simp [storeCells]
theorem app_sound (O:CfgOk C cf) (I:Inv C st a w G) {t:TypeId} {e:Ty} (hty:cf.ty t=some (.sl e)) (hw:(e.ownable || e.isFr)=true) (htup:e.isTup=false) {ty:TypeId} {s x:Value} {l m:List (den e)} {gb r:List (Nat × Nat)}
    (hs:TC (.sl e) w [s] l (blk G gb)) {news:List Value} {nss:List (List Nat)} (hx:Src w x m.length news) (he:Els e w news m nss) (hxb:∀ b ∈ nss.flatten,b ∈ blk G r) (hxn:nss.flatten.Nodup)
    (hrt:∀ p ∈ gb ++ r,RT st p) (hnd:((gb ++ r).map (·.1)).Nodup) (hlim:l.length + m.length<=lim) (hze:e.zok=true) {dst:Option Nat} (h:Rn (wrOwn cf dst (.sl e) (l ++ m) (gb ++ r)) st us) :
    ∃ v w' G',(Builtin.append_ #[t,t] ty #[s,x]).run C.P w=.ok v w'/\Inv C (upds st us) (a.put dst v) w' G':=by
  have ho:=O.ty _ _ hty
  obtain ⟨ud,hud,hu'⟩:=ho.und
  cases ud <;> simp only [UnOk] at hu'
  rename_i et
  have hoe:=TyOk.el O.ty hu'
  obtain ⟨i,hi,hsz,hby,hb0,hzz⟩:=hoe.info
  have hown:(Ty.sl e).ownable=true:=by simp only [Ty.ownable,Bool.and_eq_true];exact ⟨hw,by cases e <;> simp_all [Ty.isTup]⟩
  have hnB:=blk_nodup I.toInvM _ hrt hnd
  rw [blk_append,List.nodup_append] at hnB
  obtain ⟨hnb,hnr,hdis⟩:=hnB
  have hblt:∀ b ∈ blk G (gb ++ r),b < w.heap.size:=fun b hb=>by
    obtain ⟨p,hp,hb⟩:=blk_mem hb
    rw [<-own_of_RT (hrt p hp)] at hb
    exact (I.lt _ _ hb).1
  have hrl:∀ b ∈ blk G r,b ∈ blk G (gb ++ r):=fun b hb=>by rw [blk_append];exact List.mem_append_right _ hb
  have hgl:∀ b ∈ blk G gb,b ∈ blk G (gb ++ r):=fun b hb=>by rw [blk_append];exact List.mem_append_left _ hb
  have hlim':l.length + m.length<=1099511627776:=hlim
  have hbytes:(l.length + m.length) * i.bytes<=140737488355328:=Nat.le_trans (Nat.mul_le_mul hlim' hby) (by decide)
  -- a new row
  have grown:∀ (z:Value) (cap:Nat) (olds:List Value) (oss:List (List Nat)),Els e w olds l oss->(∀ b ∈ oss.flatten,b ∈ blk G gb)->oss.flatten.Nodup->l.length + m.length<=cap->z.cells.size=e.sz->(run:(Builtin.append_ #[t,t] ty #[s,x]).run C.P w=.ok (.slice (some ⟨w.heap.size,0,none⟩) (l.length + m.length) cap) (w.drew.alloc (.cells (olds.toArray ++ news.toArray ++ Builtin.zeroCells z.cells (cap - (l.length + m.length))) et))) →
      ∃ v w' G',(Builtin.append_ #[t,t] ty #[s,x]).run C.P w=.ok v w'/\Inv C (upds st us) (a.put dst v) w' G':=by
    intro z cap olds oss hE hob hon hcap hzs run
    have hEA:=hE.app he
    have hmul:(l.length + m.length) * e.sz + (cap - (l.length + m.length)) * e.sz=cap * e.sz:=by rw [<-Nat.add_mul];congr 1;omega
    have hgets:∀ b,b < w.heap.size->(w.drew.alloc (.cells (olds.toArray ++ news.toArray ++ Builtin.zeroCells z.cells (cap - (l.length + m.length))) et)).heap[b]?=w.heap[b]?:=fun b hb=>by
      rw [alloc_get,if_neg (by show b ≠ w.heap.size;omega)];rfl
    have hmem:∀ b ∈ (oss ++ nss).flatten,b ∈ blk G (gb ++ r):=fun b hb=>by
      rw [List.flatten_append,List.mem_append] at hb
      rcases hb with hb | hb
      · exact hgl b (hob b hb)
      · exact hrl b (hxb b hb)
    have hTV:TV (.sl e) false (w.drew.alloc (.cells (olds.toArray ++ news.toArray ++ Builtin.zeroCells z.cells (cap - (l.length + m.length))) et)) [.slice (some ⟨w.heap.size,0,none⟩) (l.length + m.length) cap] (l ++ m) (w.heap.size :: (oss ++ nss).flatten):=by
      refine ⟨[.slice (some ⟨w.heap.size,0,none⟩) (l.length + m.length) cap],rfl,.inr ⟨w.heap.size,0,_,cap,_,et,oss ++ nss,rfl,rfl,(List.length_append).symm,by rw [alloc_get];exact if_pos rfl,hcap,?_,by rw [hEA.2.1,List.length_append],fun j y bi hy hbi=>?_⟩⟩
      · have:=hE.1;have:=he.1
        simp only [Array.size_append,List.size_toArray,size_zeroCells,hzs,Nat.zero_add]
        rw [<-hmul,Nat.add_mul];omega
      · have hj:j < (l ++ m).length:=(List.getElem?_eq_some_iff.1 hy).1
        have h2:(j + 1) * e.sz<=(l ++ m).length * e.sz:=Nat.mul_le_mul_right _ hj
        rw [Nat.succ_mul,<-hEA.1] at h2
        have e1:seg (olds.toArray ++ news.toArray ++ Builtin.zeroCells z.cells (cap - (l.length + m.length))).toList (0 + j * e.sz) e.sz=seg (olds ++ news) (j * e.sz) e.sz:=by
          rw [Nat.zero_add]
          simp only [Array.toList_append]
          apply List.ext_getElem?
          intro k
          rw [seg_get,seg_get]
          by_cases hk:k < e.sz
          · rw [if_pos hk,if_pos hk,List.getElem?_append,if_pos (by omega)]
          · rw [if_neg hk,if_neg hk]
        rw [e1]
        exact TC_congr e (fun b hb=>hgets b (hblt b (hmem b (List.mem_flatten.2 ⟨bi,List.mem_of_getElem? hbi,hb⟩)))) (hEA.2.2 j y bi hy hbi)
    obtain ⟨G',I'⟩:=wrOwn_sound O I h hown hTV hrt hnd rfl rfl rfl (by rw [alloc_size];exact Nat.le_succ _) (D:=fun _=>False) (fun b hb=>hb.elim) (fun b hb _=>hgets b hb)
      (List.nodup_cons.2 ⟨fun hm=>by have:=hblt _ (hmem _ hm);omega,by
        rw [List.flatten_append,List.nodup_append]
        exact ⟨hon,hxn,fun b hb b' hb'=>hdis b (hob b hb) b' (hxb b' hb')⟩⟩) (fun b hb=>by
        rcases List.mem_cons.1 hb with rfl | hb
        · exact ⟨.inr (Nat.le_refl _),by rw [alloc_size];exact Nat.lt_succ_self _⟩
        · exact ⟨.inl (hmem b hb),by rw [alloc_size];exact Nat.lt_succ_of_lt (hblt b (hmem b hb))⟩)
    exact ⟨_,_,G',run,I'⟩
  by_cases hnew:(∃ ad c,s=.slice (some ad) l.length c/\l.length + m.length<=c)\/(∃ c,s=.slice none 0 c/\m.length=0)
  · -- in place
    rcases hs with ⟨k1,k2,k3⟩ | ⟨b,o,n,c,arr,bt,bss,k1,k2,k3,k4,k5,k6,k7,k8⟩
    · have k1:s=.slice none 0 0:=by simpa using k1
      have k2:l=[]:=k2
      subst k2
      have hm0:m.length=0:=by
        rcases hnew with ⟨ad,c,h1,_⟩ | ⟨c,_,h2⟩
        · rw [k1] at h1;cases h1
        · exact h2
      have hm0':m=[]:=List.length_eq_zero_iff.1 hm0
      subst hm0'
      have hnl:news=[]:=List.length_eq_zero_iff.1 (by rw [he.1];simp)
      subst hnl
      obtain ⟨G',I'⟩:=wrOwn_sound O I h hown (w':=w) (v:=.slice none 0 0) (bs:=[]) ⟨[.slice none 0 0],rfl,.inl ⟨rfl,rfl,rfl⟩⟩ hrt hnd rfl rfl rfl (Nat.le_refl _) (D:=fun _=>False) (fun b hb=>hb.elim) (fun b hb _=>rfl) List.nodup_nil (fun b hb=>by cases hb)
      refine ⟨_,w,G',?_,I'⟩
      subst k1
      rcases hx with ⟨ad,c',rfl,hc⟩ | ⟨c',rfl,_,_⟩
      · have hf:=run_firstCells_some (P:=C.P) w i.size 0 ad 0 c' [] (by simp) hc
        simp [Builtin.append_,run_underlying hud,sizeOf,typeInfo,hi,Builtin.lenOf,hf]
      · have hf:=run_firstCells_none (P:=C.P) w i.size 0 0 c'
        simp [Builtin.append_,run_underlying hud,sizeOf,typeInfo,hi,Builtin.lenOf,hf]
    · have k1:s=.slice (some ⟨b,o,none⟩) n c:=by simpa using k1
      have k3:n=l.length:=k3
      subst k3
      have hcap:l.length + m.length<=c:=by
        rcases hnew with ⟨ad,c,h1,h2⟩ | ⟨c,h1,_⟩
        · rw [k1] at h1;simp only [Value.slice.injEq] at h1;rw [h1.2.2];exact h2
        · rw [k1] at h1;cases h1
      subst k1
      have hcm:(l.length + m.length) * e.sz<=c * e.sz:=Nat.mul_le_mul_right _ hcap
      rw [Nat.add_mul] at hcm
      have hnl:news.length=m.length * e.sz:=he.1
      have hbB:b ∈ blk G gb:=by rw [k2];exact List.mem_cons_self
      have hbn:b ∉ bss.flatten:=by rw [k2] at hnb;exact (List.nodup_cons.1 hnb).1
      have hrun:=run_append_in (P:=C.P) (w:=w) (ty:=ty) hud hi (o:=o) (c:=c) k4 (x:=x) (m:=m.length) (news:=news) (by rw [hnl,hsz]) hx he.one hcap (by rw [hsz];omega)
      rw [hsz] at hrun
      have hfit:o + l.length * e.sz + news.length<=arr.toList.length:=by rw [show arr.toList.length=arr.size from Array.length_toList];omega
      have hget:∀ k,k ≠ b->(w.setRow b (setSeg arr.toList (o + l.length * e.sz) news).toArray).heap[k]?=w.heap[k]?:=fun k hk=>by
        rw [setRow_get k4,if_neg hk]
      have hbl:∀ k ∈ nss.flatten,k ≠ b:=fun k hk hkb=>hdis b hbB k (hxb k hk) hkb.symm
      have hTV:TV (.sl e) false (w.setRow b (setSeg arr.toList (o + l.length * e.sz) news).toArray) [.slice (some ⟨b,o,none⟩) (l.length + m.length) c] (l ++ m) (b :: (bss ++ nss).flatten):=by
        refine ⟨[.slice (some ⟨b,o,none⟩) (l.length + m.length) c],rfl,.inr ⟨b,o,_,c,_,bt,bss ++ nss,rfl,rfl,(List.length_append).symm,by rw [setRow_get k4,if_pos rfl],hcap,?_,by simp [k7,he.2.1],fun j y bi hy hbi=>?_⟩⟩
        · rw [List.size_toArray,setSeg_len hfit,Array.length_toList];exact k6
        · rw [List.getElem?_append] at hy hbi
          rw [k7] at hbi
          simp only
          by_cases hj:j < l.length
          · rw [if_pos hj] at hy hbi
            have:(j + 1) * e.sz<=l.length * e.sz:=Nat.mul_le_mul_right _ hj
            rw [Nat.succ_mul] at this
            rw [seg_setSeg_apart hfit (.inl (by omega))]
            exact TC_congr e (fun b' hb'=>hget b' fun e'=>hbn (by rw [<-e'];exact List.mem_flatten.2 ⟨bi,List.mem_of_getElem? hbi,hb'⟩)) (k8 j y bi hy hbi)
          · rw [if_neg hj] at hy hbi
            have hj2:j - l.length < m.length:=(List.getElem?_eq_some_iff.1 hy).1
            have:(j - l.length + 1) * e.sz<=m.length * e.sz:=Nat.mul_le_mul_right _ hj2
            rw [Nat.succ_mul] at this
            have e1:seg (setSeg arr.toList (o + l.length * e.sz) news) (o + j * e.sz) e.sz=seg news ((j - l.length) * e.sz) e.sz:=by
              have h9:o + j * e.sz=(o + l.length * e.sz) + (j - l.length) * e.sz:=by
                rw [Nat.add_assoc,<-Nat.add_mul];congr 2;omega
              rw [h9,<-seg_seg _ (show (j - l.length) * e.sz + e.sz<=news.length by omega),seg_setSeg_same hfit]
            rw [e1]
            exact TC_congr e (fun b' hb'=>hget b' (hbl b' (List.mem_flatten.2 ⟨bi,List.mem_of_getElem? hbi,hb'⟩))) (he.2.2 _ y bi hy hbi)
      have hmem:∀ k ∈ b :: (bss ++ nss).flatten,k ∈ blk G (gb ++ r):=fun k hk=>by
        rcases List.mem_cons.1 hk with rfl | hk
        · exact hgl _ hbB
        · rw [List.flatten_append,List.mem_append] at hk
          rcases hk with hk | hk
          · exact hgl k (by rw [k2];exact List.mem_cons_of_mem _ hk)
          · exact hrl k (hxb k hk)
      have hsz':(w.setRow b (setSeg arr.toList (o + l.length * e.sz) news).toArray).heap.size=w.heap.size:=setRow_sz _ _ _
      obtain ⟨G',I'⟩:=wrOwn_sound O I h hown hTV hrt hnd (by rfl) (by rfl) (by rfl) (Nat.le_of_eq hsz'.symm) (D:=fun k=>k=b) (fun k hk=>by subst hk;exact hgl _ hbB) (fun k _ hk=>hget k hk)
        (List.nodup_cons.2 ⟨fun hm=>by
          rw [List.flatten_append,List.mem_append] at hm
          rcases hm with hm | hm
          · exact hbn hm
          · exact hbl b hm rfl,by
          rw [List.flatten_append,List.nodup_append]
          rw [k2] at hnb
          exact ⟨(List.nodup_cons.1 hnb).2,hxn,fun k hk k' hk'=>hdis k (by rw [k2];exact List.mem_cons_of_mem _ hk) k' (hxb k' hk')⟩⟩) (fun k hk=>⟨.inl (hmem k hk),by rw [hsz'];exact hblt k (hmem k hk)⟩)
      exact ⟨_,_,G',hrun,I'⟩
  · -- a new row
    have hzero:∃ z,i.zero=some z/\z.cells.size=e.sz:=by
      obtain ⟨i',hi',_,_,_,hzv,hzc⟩:=zero_val hoe hze hw
      rw [hi] at hi';cases hi'
      exact ⟨_,hzv,by rw [hzc,List.size_toArray];exact TC_len e w (zc e) (dflt e) [] (TC_zeroE e hze hw)⟩
    obtain ⟨z,hz,hzs⟩:=hzero
    rcases hs with ⟨k1,k2,k3⟩ | ⟨b,o,n,c,arr,bt,bss,k1,k2,k3,k4,k5,k6,k7,k8⟩
    · have k1:s=.slice none 0 0:=by simpa using k1
      have k2:l=[]:=k2
      subst k2;subst k1
      have hm0:0 < m.length:=by
        rcases Nat.eq_zero_or_pos m.length with h | h
        · exact absurd (.inr ⟨0,rfl,h⟩) hnew
        · exact h
      rcases hx with ⟨ad,c',rfl,hc⟩ | ⟨c',_,h0,_⟩
      · have hrun:=run_append_nil (P:=C.P) w t ty et i z hud hi hz ad m.length c' news (by rw [he.1,hsz]) hc hm0 (by omega) (by simp only [List.length_nil,Nat.zero_add] at hbytes;omega)
        refine grown z (grownCap w m.length 0 et) [] [] ⟨by simp,rfl,fun i y bi hi=>(by cases hi)⟩ (fun b hb=>(by cases hb)) (by simp) ?_ hzs ?_
        · simpa using grownCap_ge w m.length 0 et
        · simpa using hrun
      · omega
    · have k1:s=.slice (some ⟨b,o,none⟩) n c:=by simpa using k1
      have k3:n=l.length:=k3
      subst k3;subst k1
      have hg:c < l.length + m.length:=by
        rcases Nat.lt_or_ge c (l.length + m.length) with h | h
        · exact h
        · exact absurd (.inl ⟨_,c,rfl,h⟩) hnew
      rcases hx with ⟨ad,c',rfl,hc⟩ | ⟨c',_,h0,_⟩
      · have hle:l.length * e.sz<=c * e.sz:=Nat.mul_le_mul_right _ k5
        have hol:(seg arr.toList o (l.length * e.sz)).length=l.length * e.sz:=seg_len (by rw [show arr.toList.length=arr.size from Array.length_toList];omega)
        have hrun:=run_append_grow (P:=C.P) w t ty et i z hud hi hz ⟨b,o,none⟩ l.length c (seg arr.toList o (l.length * e.sz)) (by rw [hol,hsz]) (fun j u hj=>src_seg k4 j u hj) ad m.length c' news (by rw [he.1,hsz]) hc hg (by omega) (growslice_fits hg hbytes)
        refine grown z _ _ bss ⟨hol,k7,fun i y bi hy hbi=>?_⟩ (fun b' hb'=>by rw [k2];exact List.mem_cons_of_mem _ hb') (by rw [k2] at hnb;exact (List.nodup_cons.1 hnb).2) (grownCap_ge w _ c et) hzs hrun
        have hi:i < l.length:=(List.getElem?_eq_some_iff.1 hy).1
        have:(i + 1) * e.sz<=l.length * e.sz:=Nat.mul_le_mul_right _ hi
        rw [Nat.succ_mul] at this
        rw [seg_seg _ (by omega)];exact k8 i y bi hy hbi
      · omega
end
end Go.Proofs.YtefmjjpdflpnaaaGreat.E
namespace Go.Proofs.YtefmjjpdflpnaaaGreat.E
open Go Go.RowKit
set_option linter.unusedVariables false
set_option linter.unusedSimpArgs false
section
variable {C:Cx} {cf:Cfg} {dst:Option Tmp} {type:TypeId} {pos:String} {after:Array Edge} {guard:Option (Nat × Bool)} {st:St} {a:Act} {w w':World} {G:Gh} {α:Type} {us:U}
theorem arr_of {β:Type} {xs:Array β} {l:List β} (h:xs.toList=l):xs=l.toArray:=by rw [<-h]
theorem min_ok {P:Program} {w:World} {k:IntKind} {x:Int} {l:List Int} {ts:Array TypeId} {t:TypeId} {xs:Array Value} (h:xs.toList=(x :: l).map (Value.int k)):(Builtin.min_ ts t xs).run P w=.ok (.int k (minL x l)) w:=by
  unfold Builtin.min_
  rw [h]
  exact min_run l x
theorem max_ok {P:Program} {w:World} {k:IntKind} {x:Int} {l:List Int} {ts:Array TypeId} {t:TypeId} {xs:Array Value} (h:xs.toList=(x :: l).map (Value.int k)):(Builtin.max_ ts t xs).run P w=.ok (.int k (maxL x l)) w:=by
  unfold Builtin.max_
  rw [h]
  exact max_run l x
theorem snd_len (O:CfgOk C cf) {args:Array Operand} {tys:Array TypeId}:Snd C cf ⟨dst,.call ⟨.builtin .len,args,tys⟩,type,pos,after,guard⟩:=by
  intro st a w G us next Q I h hn
  simp only [exec] at h
  split at h
  case h_2=>exact (Rn_fail.1 h).elim
  rename_i x t hx ht
  have hx:=arr_of hx
  have ht:=arr_of ht
  subst hx;subst ht
  obtain ⟨v,hv,h⟩:=opd_run I h
  rw [Rn_bif] at h
  rcases h with ⟨hb,h⟩ | ⟨_,h⟩
  case inr=>exact (Rn_fail.1 h).elim
  obtain ⟨n,h,hn'⟩:=SW_len (a:=a) I.toInvM hv h
  refine snd_val O I h ⟨[.int .i64 n],rfl,rfl⟩ hn ?_
  simp only [execOp,resolve,invoke,builtin,Sem.run_bind,Sem.run_pure,Result.andThen_ok,List.map_toArray,List.map_cons,List.map_nil]
  have hr:(Builtin.len_ [t].toArray type [a.eval x].toArray).run C.P w=.ok (.int .i64 n) w:=by
    rcases hn' with ⟨s,rfl,hs,hn'⟩ | ⟨b,c,hs⟩
    · unfold lenTy at hb
      split at hb
      · rename_i hty _
        obtain ⟨ud,hud,hu⟩:=(O.ty _ _ hty).und
        cases ud <;> simp only [UnOk] at hu
        simp [Builtin.len_,run_underlying hud,hs,goInt,hn']
      all_goals first | (rename_i e;cases e;done) | cases hb
    · unfold lenTy at hb
      split at hb
      · have e:=SW_str hv
        rw [hs] at e;cases e
      all_goals first | cases hb | skip
      all_goals
        rename_i hty
        obtain ⟨ud,hud,hu⟩:=(O.ty _ _ hty).und
        cases ud <;> simp only [UnOk] at hu
        simp [Builtin.len_,run_underlying hud,hs,goInt]
  rw [hr];rfl
theorem snd_min (O:CfgOk C cf) {args:Array Operand} {tys:Array TypeId}:Snd C cf ⟨dst,.call ⟨.builtin .min,args,tys⟩,type,pos,after,guard⟩:=by
  intro st a w G us next Q I h hn
  simp only [exec] at h
  obtain ⟨v,hv,h⟩:=opds_run I h
  split at h
  case h_2=>exact (Rn_fail.1 h).elim
  rename_i k x b
  split at h
  case h_2=>exact (Rn_fail.1 h).elim
  rename_i l hl
  obtain ⟨c,r,h1,h2,h3⟩:=hv
  have h2:c=[.int k x]:=h2
  subst h2
  have h4:=intsOf_sx b hl h3
  refine snd_val O I h ⟨[.int k (minL x l)],rfl,rfl⟩ hn ?_
  simp only [execOp,resolve,invoke,builtin,Sem.run_bind,Sem.run_pure,Result.andThen_ok]
  rw [min_ok (k:=k) (x:=x) (l:=l) (by rw [Array.toList_map,h1,h4];rfl)];rfl
theorem snd_max (O:CfgOk C cf) {args:Array Operand} {tys:Array TypeId}:Snd C cf ⟨dst,.call ⟨.builtin .max,args,tys⟩,type,pos,after,guard⟩:=by
  intro st a w G us next Q I h hn
  simp only [exec] at h
  obtain ⟨v,hv,h⟩:=opds_run I h
  split at h
  case h_2=>exact (Rn_fail.1 h).elim
  rename_i k x b
  split at h
  case h_2=>exact (Rn_fail.1 h).elim
  rename_i l hl
  obtain ⟨c,r,h1,h2,h3⟩:=hv
  have h2:c=[.int k x]:=h2
  subst h2
  have h4:=intsOf_sx b hl h3
  refine snd_val O I h ⟨[.int k (maxL x l)],rfl,rfl⟩ hn ?_
  simp only [execOp,resolve,invoke,builtin,Sem.run_bind,Sem.run_pure,Result.andThen_ok]
  rw [max_ok (k:=k) (x:=x) (l:=l) (by rw [Array.toList_map,h1,h4];rfl)];rfl
end
end Go.Proofs.YtefmjjpdflpnaaaGreat.E
