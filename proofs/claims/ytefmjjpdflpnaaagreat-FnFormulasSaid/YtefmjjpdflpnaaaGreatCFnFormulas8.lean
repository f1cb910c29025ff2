/-
  What the Go functions that FnFormulas reaches hand back, each as a plain function with a proof that the call does so, and plain lemmas on them. Conditions: those of each theorem.
-/
import Derived.Test.YtefmjjpdflpnaaaGreatCFnFormulas7
namespace Go.Proofs.YtefmjjpdflpnaaaGreat.E
open Go Go.Proofs
set_option linter.unusedVariables false
set_option linter.unusedSimpArgs false
set_option maxRecDepth 100000
variable {K:Nat} {R:Type}
/-! formulas put into formulas -/
def subB (ts:List ByteArray):List UInt8->List UInt8
  | []=>[]
  | c :: l=>(if 0<=varI ((c.toNat:Nat):Int) then (ts.getD (varI ((c.toNat:Nat):Int)).toNat ByteArray.empty).data.toList else [c]) ++ subB ts l
theorem varI_lt (c:UInt8):varI ((c.toNat:Nat):Int) < 4 ∧ -1<=varI ((c.toNat:Nat):Int):=by unfold varI;split <;> omega
theorem byte_ext {t:ByteArray} {c:UInt8} {l:List UInt8} (h:(c :: l) <:+ t.data.toList):t.extract (posR t.data.toList (c :: l)).toNat (posR t.data.toList l).toNat=toB [c]:=by
  obtain ⟨x,hx⟩:=h
  have hlen:t.data.toList.length=x.length + (1 + l.length):=by rw [<-hx];simp;omega
  have h1:(posR t.data.toList (c :: l)).toNat=x.length:=by unfold posR;rw [hlen,List.length_cons];omega
  have h2:(posR t.data.toList l).toNat=x.length + [c].length:=by unfold posR;rw [hlen];simp;omega
  rw [h1,h2]
  exact extract_l (l:=l) (by rw [<-hx];simp)
theorem size_getD {ts:List ByteArray} {B:Nat} (h:∀ t ∈ ts,t.size<=B) (i:Nat):(ts.getD i ByteArray.empty).size<=B:=by
  rw [List.getD_eq_getElem?_getD]
  cases e:ts[i]? with
  | none=>exact Nat.zero_le _
  | some t=>exact h t (List.mem_of_getElem? e)
theorem iput_l7 {t:ByteArray} {ts:List ByteArray} (hs:t.size < 4611686018427387904) (h4:ts.length=4) (h60:∀ u ∈ ts,u.size<=60) (kx:ByteArray->Option R):∀ (l:List UInt8) (a:List UInt8) (k:Nat),l <:+ t.data.toList->l.length < k->a.length + 60 * l.length < 4611686018427387904 →
    i_PutFormulas_l7 K k t ts (toB a) (t.size:Int) (posR t.data.toList l) kx=kx (toB (a ++ subB ts l))
  | _,_,0,_,h,_=>by omega
  | [],a,k + 1,_,_,_=>by
    simp only [i_PutFormulas_l7]
    rw [ite_f (decide_eq_false (by unfold posR;rw [size_tl];simp)),subB,List.append_nil]
  | c :: l,a,k + 1,hl,hk,ha=>by
    obtain ⟨b1,b2,b3⟩:=byteAt_pos hl
    have hsz:=size_tl t
    have hp0:=posR_nn t.data.toList (c :: l)
    have hl2:l <:+ t.data.toList:=(List.suffix_cons c l).trans hl
    have hv:=varI_lt c
    simp only [List.length_cons] at hk ha
    simp only [i_PutFormulas_l7]
    rw [ite_t (decide_eq_true b3),ite_t (bnds_t hp0 b3),b1,i_index_eq,some_bind',w64 (x:=posR t.data.toList (c :: l) + 1) (by omega) (by omega),<-b2,subB]
    by_cases h:0<=varI ((c.toNat:Nat):Int)
    · have hg:=size_getD h60 (varI ((c.toNat:Nat):Int)).toNat
      rw [ite_t (decide_eq_true h),if_pos h,ite_t (bnds_t h (by omega)),ite_t (decide_eq_true (by rw [toB_size];omega))]
      have e:toB a ++ ts.getD (varI ((c.toNat:Nat):Int)).toNat ByteArray.empty=toB (a ++ (ts.getD (varI ((c.toNat:Nat):Int)).toNat ByteArray.empty).data.toList):=by
        rw [<-toB_app,toB_of]
      rw [e,iput_l7 hs h4 h60 kx l _ k hl2 (by omega) (by rw [List.length_append,<-size_tl];omega),List.append_assoc]
    · rw [ite_f (decide_eq_false h),if_neg h,ite_t (by
        rw [decide_eq_true hp0,decide_eq_true (show posR t.data.toList (c :: l)<=posR t.data.toList l by omega),decide_eq_true (show posR t.data.toList l<=(t.size:Int) by omega)];rfl),byte_ext hl,
        ite_t (decide_eq_true (by rw [toB_size,toB_size];simp;omega)),toB_app,iput_l7 hs h4 h60 kx l _ k hl2 (by omega) (by rw [List.length_append];simp;omega),List.append_assoc]
def isT (t:ByteArray):Bool:=(rdT t.data.toList).isSome
def putV (t:ByteArray) (ts:List ByteArray):ByteArray × Int × Unit :=
  if isT t=true then (if ts.all isT=true then (if ts.length=4 then toldV (subB ts t.data.toList) else (⟨#[]⟩,2,())) else (⟨#[]⟩,6,())) else (⟨#[]⟩,6,())
theorem isT_size {t:ByteArray} (h:isT t=true):t.size<=60:=by
  unfold isT at h
  cases e:rdT t.data.toList with
  | none=>rw [e] at h;cases h
  | some f =>
    obtain ⟨h1,h2,h3⟩:=text_of e
    rw [h1,btT_size];exact h3
theorem idx_str_l (f:ByteArray × Unit->Option Bool) (g:ByteArray->Bool) (l:List ByteArray) (hl:l.length < 4611686018427387904) (kx:Option R) (kr:Int->Option R):∀ (r p:List ByteArray) (k:Nat),l=p ++ r->r.length < k->(∀ x ∈ r,f (x,())=some (g x)) →
    slices_IndexFunc_string_l2 K k l f (l.length:Int) (p.length:Int) kx kr=match r.findIdx? g with | some j=>kr ((p.length + j:Nat):Int) | none=>kx
  | _,_,0,_,h,_=>by omega
  | [],p,k + 1,h,_,_=>by subst h;simp only [slices_IndexFunc_string_l2];rw [ite_f nlt_len];rfl
  | y :: r,p,k + 1,h,hk,hf=>by
    subst h
    simp only [slices_IndexFunc_string_l2]
    rw [ite_t lt_len,ite_t bnds_mid,getD_midI,hf y (by simp),some_bind',List.findIdx?_cons]
    cases hg:g y
    · rw [if_neg (by decide),if_neg (by decide),next_i hl,idx_str_l f g _ hl kx kr r (p ++ [y]) k (mid_app p r y) (by simp at hk;omega) (fun x hx=>hf x (by simp [hx]))]
      cases hr:r.findIdx? g
      · rfl
      · simp only [Option.map_some];congr 1;simp;omega
    · rw [if_pos rfl,if_pos rfl];rfl
theorem contains_str_eq (f:ByteArray × Unit->Option Bool) (g:ByteArray->Bool) {l:List ByteArray} (hl:l.length < 4611686018427387904) (hK:4611686018427387904<=K) (hf:∀ x ∈ l,f (x,())=some (g x)) :
    slices_ContainsFunc_string K (l,f,())=some (l.any g):=by
  simp only [slices_ContainsFunc_string,slices_IndexFunc_string]
  have:=idx_str_l (K:=K) f g l hl (some (-1:Int)) (fun z=>some z) l [] K rfl (by omega) hf
  simp only [List.length_nil,Nat.zero_add] at this
  rw [show ((0:Nat):Int)=0 from rfl] at this
  rw [this,<-List.findIdx?_isSome];cases l.findIdx? g <;> simp
theorem any_isT:∀ l:List ByteArray,(l.any fun t=>!isT t)=!(l.all isT)
  | []=>rfl
  | t :: l=>by rw [List.any_cons,List.all_cons,any_isT l,Bool.not_and]
theorem iput_eq {t:ByteArray} {ts:List ByteArray} (hs:t.size < 4611686018427387904) (hl:ts.length < 4611686018427387904) (hK:4611686018427387904<=K):i_PutFormulas K (t,ts,())=some (putV t ts):=by
  simp only [i_PutFormulas]
  have hi:∀ u,i_IsFormula K (u,())=some (isT u):=fun u=>is_i (by omega)
  rw [hi,some_bind',putV]
  cases h1:isT t
  · rfl
  · rw [ite_f (by rfl),if_pos rfl,contains_str_eq _ (fun u=>!isT u) hl hK (fun u hu=>by simp only [i_PutFormulas_c1];rw [hi,some_bind']),some_bind',any_isT]
    cases h2:ts.all isT
    · rfl
    · rw [ite_f (by rfl),if_pos rfl]
      simp only [i_PutFormulas_j3]
      by_cases h4:ts.length=4
      · have h60:∀ u ∈ ts,u.size<=60:=fun u hu=>isT_size (List.all_eq_true.1 h2 u hu)
        have h6:=isT_size h1
        have hsz:=size_tl t
        rw [ite_f (by rw [decide_eq_true (show ((ts.length:Nat):Int)=4 by omega)];rfl),if_pos h4]
        have:=iput_l7 (K:=K) (t:=t) (ts:=ts) hs h4 h60 (fun z6=>(i_limited K (z6,())).bind fun y7=>some (y7.1,y7.2.1,())) t.data.toList [] K (List.suffix_refl _) (by omega) (by simp;omega)
        rw [show posR t.data.toList t.data.toList=0 by unfold posR;omega] at this
        refine (show _=_ from this).trans ?_
        rw [List.nil_append,limited_eq,some_bind']
      · rw [ite_t (by rw [decide_eq_false (show ¬ ((ts.length:Nat):Int)=4 by omega)];rfl),if_neg h4]
theorem sput_l4 {ts:List ByteArray} (v0:ByteArray) (hsz:∀ u ∈ ts,u.size < 4611686018427387904) (hl:ts.length < 4611686018427387904) (hK:4611686018427387904<=K) (kx:ByteArray->List ByteArray->Option R) (kr:ByteArray->Int->Option R):∀ (q p:List ByteArray) (k:Nat),ts=p ++ q->q.length < k →
    s_PutFormulas_l4 K k v0 ts (p.length:Int) kx kr=if q.all isT=true then kx v0 ts else kr ⟨#[]⟩ 6
  | _,_,0,_,h=>by omega
  | [],p,k + 1,h,_=>by subst h;simp only [s_PutFormulas_l4];rw [ite_f nlt_len];rfl
  | y :: q,p,k + 1,h,hk=>by
    subst h
    simp only [s_PutFormulas_l4]
    rw [ite_t lt_len,ite_t bnds_mid,getD_midI,s_is_eq (hsz y (by simp)) hK,some_bind',List.all_cons]
    cases hg:(rdT y.data.toList).isSome
    · rw [ite_t (by rfl),if_neg (by rw [isT,hg];exact fun h=>by cases h)]
    · rw [ite_f (by rfl),next_i hl,sput_l4 v0 hsz hl hK kx kr q (p ++ [y]) k (mid_app p q y) (by simp at hk;omega),isT,hg,Bool.true_and]
theorem u8var {c:UInt8} (h1:97<=c.toNat) (h2:c.toNat<=100):IntKind.u8.wrap (((c.toNat:Nat):Int) - 97)=varI ((c.toNat:Nat):Int):=by
  rw [varI,if_pos (by omega)]
  have:c.toNat=97\/c.toNat=98\/c.toNat=99\/c.toNat=100:=by omega
  rcases this with e | e | e | e <;> rw [e] <;> decide
theorem sput_l12 {t:ByteArray} {ts:List ByteArray} (hs:t.size < 4611686018427387904) (h4:ts.length=4) (h60:∀ u ∈ ts,u.size<=60) (kx:ByteArray->Option R):∀ (l:List UInt8) (a:List UInt8) (k:Nat),l <:+ t.data.toList->l.length < k->a.length + 60 * l.length < 4611686018427387904 →
    s_PutFormulas_l12 K k t ts (toB a) (posR t.data.toList l) kx=kx (toB (a ++ subB ts l))
  | _,_,0,_,h,_=>by omega
  | [],a,k + 1,_,_,_=>by
    simp only [s_PutFormulas_l12]
    rw [ite_f (decide_eq_false (by unfold posR;rw [size_tl];simp)),subB,List.append_nil]
  | c :: l,a,k + 1,hl,hk,ha=>by
    obtain ⟨b1,b2,b3⟩:=byteAt_pos hl
    have hsz:=size_tl t
    have hp0:=posR_nn t.data.toList (c :: l)
    have hl2:l <:+ t.data.toList:=(List.suffix_cons c l).trans hl
    have hv:=varI_lt c
    have hc:c.toNat < 256:=c.toNat_lt
    simp only [List.length_cons] at hk ha
    have other:¬ (97<=c.toNat/\c.toNat<=100)->s_PutFormulas_j16 K k t ts (toB a) (posR t.data.toList (c :: l)) (fun z15 z16 z17 z18=>s_PutFormulas_j13 K k z15 z16 z17 z18 (fun z19 z20 z21 z22=>s_PutFormulas_l12 K k z19 z20 z21 z22 kx))=kx (toB (a ++ subB ts (c :: l))):=by
      intro h
      have hn:¬ 0<=varI ((c.toNat:Nat):Int):=by rw [varI,if_neg (by omega)];decide
      simp only [s_PutFormulas_j16,s_PutFormulas_j13,gN_eq]
      rw [w64 (x:=posR t.data.toList (c :: l) + 1) (by omega) (by omega),<-b2,ite_t (by
        rw [decide_eq_true hp0,decide_eq_true (show posR t.data.toList (c :: l)<=posR t.data.toList l by omega),decide_eq_true (show posR t.data.toList l<=(t.size:Int) by omega)];rfl),byte_ext hl,
        ite_t (decide_eq_true (by rw [toB_size,toB_size];simp;omega)),toB_app,sput_l12 hs h4 h60 kx l _ k hl2 (by omega) (by rw [List.length_append];simp;omega),subB,if_neg hn,List.append_assoc]
    simp only [s_PutFormulas_l12]
    rw [ite_t (decide_eq_true b3),ite_t (bnds_t hp0 b3),b1]
    by_cases h1:97<=c.toNat
    · rw [ite_t (decide_eq_true (show ((c.toNat:Nat):Int) ≥ 97 by omega))]
      by_cases h2:c.toNat<=100
      · have h:0<=varI ((c.toNat:Nat):Int):=by rw [varI,if_pos (by omega)];omega
        have hg:=size_getD h60 (varI ((c.toNat:Nat):Int)).toNat
        rw [ite_t (bnds_t hp0 b3),ite_t (decide_eq_true (show ((c.toNat:Nat):Int)<=100 by omega))]
        simp only [s_PutFormulas_j15,s_PutFormulas_j13,gN_eq]
        rw [b1,ite_t (bnds_t hp0 b3),u8var h1 h2,ite_t (bnds_t h (by omega)),ite_t (decide_eq_true (by rw [toB_size];omega)),w64 (x:=posR t.data.toList (c :: l) + 1) (by omega) (by omega),<-b2,subB,if_pos h]
        have e:toB a ++ ts.getD (varI ((c.toNat:Nat):Int)).toNat ByteArray.empty=toB (a ++ (ts.getD (varI ((c.toNat:Nat):Int)).toNat ByteArray.empty).data.toList):=by
          rw [<-toB_app,toB_of]
        rw [e,sput_l12 hs h4 h60 kx l _ k hl2 (by omega) (by rw [List.length_append,<-size_tl];omega),List.append_assoc]
      · rw [ite_t (bnds_t hp0 b3),ite_f (decide_eq_false (show ¬ ((c.toNat:Nat):Int)<=100 by omega))]
        exact other (fun h=>h2 h.2)
    · rw [ite_f (decide_eq_false (show ¬ ((c.toNat:Nat):Int) ≥ 97 by omega))]
      exact other (fun h=>h1 h.1)
theorem sput_eq {t:ByteArray} {ts:List ByteArray} (hs:t.size < 4611686018427387904) (hsz:∀ u ∈ ts,u.size < 4611686018427387904) (hl:ts.length < 4611686018427387904) (hK:4611686018427387904<=K):s_PutFormulas K (t,ts,())=some (putV t ts):=by
  simp only [s_PutFormulas]
  rw [s_is_eq hs hK,some_bind',putV]
  show (if (!isT t)=true then _ else _)=_
  cases h1:isT t
  · rfl
  · rw [ite_f (by rfl),if_pos rfl]
    refine (sput_l4 (K:=K) t hsz hl hK _ _ ts [] K rfl (by omega)).trans ?_
    cases h2:ts.all isT
    · rfl
    · rw [if_pos rfl,if_pos rfl]
      by_cases h4:ts.length=4
      · have h60:∀ u ∈ ts,u.size<=60:=fun u hu=>isT_size (List.all_eq_true.1 h2 u hu)
        have h6:=isT_size h1
        have hst:=size_tl t
        rw [ite_f (by rw [decide_eq_true (show ((ts.length:Nat):Int)=4 by omega)];rfl),if_pos h4]
        have:=sput_l12 (K:=K) (t:=t) (ts:=ts) hs h4 h60 (fun z31=>(s_l05Told K (z31,())).bind fun y32=>some (y32.1,y32.2.1,())) t.data.toList [] K (List.suffix_refl _) (by omega) (by simp;omega)
        rw [show posR t.data.toList t.data.toList=0 by unfold posR;omega] at this
        refine (show _=_ from this).trans ?_
        rw [List.nil_append,told_eq,some_bind']
      · rw [ite_t (by rw [decide_eq_false (show ¬ ((ts.length:Nat):Int)=4 by omega)];rfl),if_neg h4]
/-! variables -/
theorem ib_mem (c:UInt8):∀ l:List UInt8,(0<=Lib.indexByte l c) ↔ c ∈ l
  | []=>by simp [Lib.indexByte]
  | b :: l=>by
    have ih:=ib_mem c l
    have hge:=Lib.indexByte_ge l c
    unfold Lib.indexByte
    by_cases h:b=c
    · subst h;rw [if_pos (by simp)];simp
    · rw [if_neg (by simpa using h)]
      by_cases h2:Lib.indexByte l c = -1
      · rw [if_pos (by rw [h2];rfl)]
        have:¬ c ∈ l:=fun hm=>by have:=ih.2 hm;omega
        simp [this,Ne.symm h]
      · rw [if_neg (by simpa using h2)]
        have:c ∈ l:=ih.1 (by omega)
        simp [this];omega
def hasV (L:List UInt8) (p:Nat):Bool:=decide (UInt8.ofNat (97 + p) ∈ L)
theorem con1_eq (t:ByteArray) (c:UInt8):strings_Contains K (t,toB [c],())=some (decide (c ∈ t.data.toList)):=by
  have hb:byteAt (toB [c]) 0=((c.toNat:Nat):Int):=rfl
  simp only [strings_Contains,strings_Index,internal_stringslite_Index,internal_stringslite_Index_j4,gN_eq,internal_stringslite_IndexByte,internal_bytealg_IndexByteString]
  rw [ite_f (show decide (((toB [c]).size:Int)=0)=false from rfl),hb]
  by_cases h:toB [c]=t
  · rw [ite_t ((eql_iff _ _).2 h),some_bind',some_bind']
    congr 1
    rw [<-h]
    simp [toB_l]
  · rw [ite_f (eql_ne h),ite_t (show decide (((toB [c]).size:Int)=1)=true from rfl),ite_t (show bnds 0 ((toB [c]).size:Int)=true from rfl),some_bind',some_bind',some_bind',some_bind',u8of]
    congr 1
    rw [Bool.eq_iff_iff,decide_eq_true_eq,decide_eq_true_eq]
    exact ib_mem c _
def varsL (L:List UInt8):Nat->Nat->List Int->List Int
  | 0,_,acc=>acc
  | m + 1,p,acc=>varsL L m (p + 1) (if hasV L p=true then acc ++ [(p:Int)] else acc)
theorem letB_eq:∀ p,p < 4->letB p=toB [UInt8.ofNat (97 + p)]
  | 0,_=>rfl
  | 1,_=>rfl
  | 2,_=>rfl
  | 3,_=>rfl
  | p + 4,h=>by omega
theorem varsG_eq (t:ByteArray):∀ (m p:Nat) (acc:List Int),p + m=4->varsG K t m p acc=some (varsL t.data.toList m p acc)
  | 0,p,acc,_=>rfl
  | m + 1,p,acc,h=>by
    rw [varsG,letB_eq p (by omega),con1_eq,some_bind',varsG_eq t m (p + 1) _ (by omega)];rfl
def varsV (L:List UInt8):List Int × Int × Unit:=if (rdT L).isSome=true then (varsL L 4 0 [],0,()) else ([],6,())
theorem ivars_eq {t:ByteArray} (hK:100<=K):i_VariablesOfFormula K (t,())=some (varsV t.data.toList):=by
  simp only [i_VariablesOfFormula,varsF]
  rw [is_i hK,some_bind',varsV]
  cases (rdT t.data.toList).isSome
  · rfl
  · rw [if_pos rfl,if_pos rfl,varsG_eq t 4 0 [] rfl,some_bind']
def markB (L:List UInt8) (m:List Bool):List Bool:=L.foldl (fun m c=>if 97<=c.toNat/\c.toNat<=100 then m.set (c.toNat - 97) true else m) m
theorem svars_l5 {t:ByteArray} (hs:t.size < 4611686018427387904) (v5:List Int) (kx:List Bool->List Int->Option R):∀ (l:List UInt8) (m:List Bool) (k:Nat),l <:+ t.data.toList->l.length < k->m.length=4 →
    s_VariablesOfFormula_l5 K k t m v5 (posR t.data.toList l) kx=kx (markB l m) v5
  | _,_,0,_,h,_=>by omega
  | [],m,k + 1,_,_,_=>by
    simp only [s_VariablesOfFormula_l5]
    rw [ite_f (decide_eq_false (by unfold posR;rw [size_tl];simp))];rfl
  | c :: l,m,k + 1,hl,hk,hm=>by
    obtain ⟨b1,b2,b3⟩:=byteAt_pos hl
    have hsz:=size_tl t
    have hp0:=posR_nn t.data.toList (c :: l)
    have hl2:l <:+ t.data.toList:=(List.suffix_cons c l).trans hl
    simp only [List.length_cons] at hk
    simp only [s_VariablesOfFormula_l5,s_VariablesOfFormula_j6,s_VariablesOfFormula_j8,gN_eq]
    rw [ite_t (decide_eq_true b3),ite_t (bnds_t hp0 b3),ite_t (bnds_t hp0 b3),ite_t (bnds_t hp0 b3),b1,w64 (x:=posR t.data.toList (c :: l) + 1) (by omega) (by omega),<-b2]
    by_cases h1:97<=c.toNat
    · rw [ite_t (decide_eq_true (show ((c.toNat:Nat):Int) ≥ 97 by omega))]
      by_cases h2:c.toNat<=100
      · rw [ite_t (decide_eq_true (show ((c.toNat:Nat):Int)<=100 by omega)),u8var h1 h2]
        have e:varI ((c.toNat:Nat):Int)=((c.toNat - 97:Nat):Int):=by rw [varI,if_pos (by omega)];omega
        rw [e,ite_t (bnds_t (by omega) (by omega)),Int.toNat_natCast,svars_l5 hs v5 kx l _ k hl2 (by omega) (by simpa using hm),markB,markB,List.foldl_cons,if_pos ⟨h1,h2⟩]
      · rw [ite_f (decide_eq_false (show ¬ ((c.toNat:Nat):Int)<=100 by omega)),svars_l5 hs v5 kx l _ k hl2 (by omega) hm,markB,markB,List.foldl_cons,if_neg (fun h=>h2 h.2)]
    · rw [ite_f (decide_eq_false (show ¬ ((c.toNat:Nat):Int) ≥ 97 by omega)),svars_l5 hs v5 kx l _ k hl2 (by omega) hm,markB,markB,List.foldl_cons,if_neg (fun h=>h1 h.1)]
theorem mark_get:∀ (l:List UInt8) (m:List Bool) (p:Nat),m.length=4->p < 4->(markB l m).getD p false=(m.getD p false || hasV l p)
  | [],m,p,_,_=>by simp [markB,hasV]
  | c :: l,m,p,hm,hp=>by
    have hc:c.toNat < 256:=c.toNat_lt
    have hcs:hasV (c :: l) p=(decide (c.toNat=97 + p) || hasV l p):=by
      unfold hasV
      rw [Bool.eq_iff_iff]
      simp only [List.mem_cons,decide_eq_true_eq,Bool.or_eq_true]
      have:(UInt8.ofNat (97 + p)=c) ↔ c.toNat=97 + p:=by
        constructor
        · intro h;rw [<-h];simp;omega
        · intro h;rw [<-h];simp
      rw [this]
    have e:markB (c :: l) m=markB l (if 97<=c.toNat/\c.toNat<=100 then m.set (c.toNat - 97) true else m):=rfl
    rw [e,mark_get l _ p (by split <;> simpa using hm) hp,hcs,<-Bool.or_assoc]
    congr 1
    by_cases h:97<=c.toNat/\c.toNat<=100
    · rw [if_pos h,List.getD_eq_getElem?_getD,List.getD_eq_getElem?_getD,List.getElem?_set]
      by_cases h2:c.toNat - 97=p
      · rw [if_pos h2,if_pos (by omega),decide_eq_true (by omega)];simp
      · rw [if_neg h2,decide_eq_false (by omega),Bool.or_false]
    · rw [if_neg h,decide_eq_false (by omega),Bool.or_false]
theorem svars_l10 {m:List Bool} {L:List UInt8} (hm:m.length=4) (hg:∀ p,p < 4->m.getD p false=hasV L p) (kx:List Int->Option R):∀ (n p k:Nat) (acc:List Int),p + n=4->n < k->acc.length<=p →
    s_VariablesOfFormula_l10 K k m acc (p:Int) kx=kx (varsL L n p acc)
  | _,_,0,_,_,h,_=>by omega
  | 0,p,k + 1,acc,h,_,_=>by
    simp only [s_VariablesOfFormula_l10]
    rw [ite_f (decide_eq_false (by omega))];rfl
  | n + 1,p,k + 1,acc,h,hk,ha=>by
    have hlim:(1099511627776:Nat)=lim:=rfl
    simp only [s_VariablesOfFormula_l10]
    rw [ite_t (decide_eq_true (by omega)),ite_t (bnds_n (by omega)),Int.toNat_natCast,hg p (by omega),w64s (by omega),varsL]
    cases hasV L p
    · rw [ite_f (by rfl),if_neg (by decide),svars_l10 hm hg kx n (p + 1) k acc (by omega) (by omega) (by omega)]
    · rw [ite_t (by rfl),if_pos rfl,ite_t (decide_eq_true (by simp only [List.length_cons,List.length_nil];omega)),svars_l10 hm hg kx n (p + 1) k _ (by omega) (by omega) (by rw [List.length_append];simp;omega)]
theorem svars_eq {t:ByteArray} (hs:t.size < 4611686018427387904) (hK:4611686018427387904<=K):s_VariablesOfFormula K (t,())=some (varsV t.data.toList):=by
  have hsz:=size_tl t
  simp only [s_VariablesOfFormula]
  rw [s_is_eq hs hK,some_bind',varsV]
  cases (rdT t.data.toList).isSome
  · rfl
  · rw [ite_f (by rfl),if_pos rfl,ite_t (by decide)]
    have h5:=svars_l5 (K:=K) (R:=List Int × Int × Unit) (t:=t) hs [] (fun z21 z22=>s_VariablesOfFormula_l10 K K z21 z22 (0:Int) (fun z24=>some (z24,(0:Int),()))) t.data.toList [false,false,false,false] K (List.suffix_refl _) (by omega) rfl
    rw [show posR t.data.toList t.data.toList=0 by unfold posR;omega] at h5
    refine (show _=_ from h5).trans ?_
    have hlen:(markB t.data.toList [false,false,false,false]).length=4:=by
      have:∀ (l:List UInt8) (m:List Bool),(markB l m).length=m.length:=by
        intro l
        induction l with
        | nil=>intro m;rfl
        | cons c l ih =>
          intro m
          have e:markB (c :: l) m=markB l (if 97<=c.toNat/\c.toNat<=100 then m.set (c.toNat - 97) true else m):=rfl
          rw [e,ih];split <;> simp
      rw [this];rfl
    exact svars_l10 (K:=K) (L:=t.data.toList) hlen (fun p hp=>by
      rw [mark_get _ _ p rfl hp]
      have:p=0\/p=1\/p=2\/p=3:=by omega
      rcases this with rfl | rfl | rfl | rfl <;> rfl) (fun z24=>some (z24,(0:Int),())) 4 0 K [] rfl (by omega) (Nat.le_refl _)
end Go.Proofs.YtefmjjpdflpnaaaGreat.E
namespace Go.Proofs.YtefmjjpdflpnaaaGreat.E
open Go Go.Proofs Go.Proofs.YtefmjjpdflpnaaaGreat
set_option maxRecDepth 100000
set_option linter.unusedVariables false
noncomputable def as_i_DualOf:Ty:=(.pair tq0 .unit)
noncomputable def sp_i_DualOf (F:(dq0 × Unit)->Option (dq0 × Int × Unit)):FnSpec:=⟨as_i_DualOf,[false],(.tup (.pair tq0 (.pair (.int .i64) .unit))),F⟩
noncomputable def i_DualOf (K:Nat) (x:(dq0 × Unit)):Option (dq0 × Int × Unit) :=
    (i_IsFunc K (x.1,())).bind fun y1 =>
    (if (!y1)=true then
    some (((0:Int),(0:Int),()),(1:Int),())
    else
    (i_Func_dual K (x.1,())).bind fun y2 =>
    some (y2,(0:Int),()))
noncomputable def rv_i_DualOf:Lv:=[(2,(.bx (.v tq0))),(3,(.v (.int .i64)))]
theorem ok_i_DualOf (K:Nat):FnOk Tryz.prog 11 (sp_i_DualOf (i_DualOf K)) :=
  fn_okD tysOk [C_i_IsFunc K,C_i_Func_dual K] 0 [] [] rv_i_DualOf K Tryz.func11 (by kernel_rfl) trivial (fun _=>by kernel_rfl)
noncomputable def C_i_DualOf (K:Nat):CB Tryz.prog:=.f _ _ (ok_i_DualOf K)
noncomputable def as_i_PutFuncs_c1:Ty:=(.pair tq0 (.pair (.ptr (.sl tq0)) .unit))
noncomputable def sp_i_PutFuncs_c1 (F:(dq0 × (List dq0) × Unit)->Option Bool):FnSpec:=⟨as_i_PutFuncs_c1,[false,false],.bool,F⟩
noncomputable def i_PutFuncs_c1 (K:Nat) (x:(dq0 × (List dq0) × Unit)):Option Bool :=
    (if (bnds (0:Int) (x.2.1.length:Int))=true then
    let x1:=(!decide (x.1.1=(x.2.1.getD (0:Int).toNat ((0:Int),(0:Int),())).1))
    some x1
    else
    none)
noncomputable def rv_i_PutFuncs_c1:Lv:=[(3,(.v .bool))]
theorem ok_i_PutFuncs_c1 (K:Nat):FnOk Tryz.prog 57 (sp_i_PutFuncs_c1 (i_PutFuncs_c1 K)) :=
  fn_okD tysOk [] 0 [] [] rv_i_PutFuncs_c1 K Tryz.func57 (by kernel_rfl) trivial (fun _=>by kernel_rfl)
noncomputable def C_i_PutFuncs_c1 (K:Nat):CB Tryz.prog:=.f _ _ (ok_i_PutFuncs_c1 K)
noncomputable def as_i_PutFuncs:Ty:=(.pair tq0 (.pair (.sl tq0) .unit))
noncomputable def sp_i_PutFuncs (F:(dq0 × (List dq0) × Unit)->Option (dq0 × Int × Unit)):FnSpec:=⟨as_i_PutFuncs,[false,false],(.tup (.pair tq0 (.pair (.int .i64) .unit))),F⟩
noncomputable def i_PutFuncs_j5 {R:Type} (K:Nat) (k:Nat) (v2:dq0) (v3:(List dq0)) (v4:dq0) (kn:Option R) (kr:(dq0->Int->Option R)):Option R :=
    (if (bnds (0:Int) (v3.length:Int))=true then
    (i_Func_put K (v2,(v3.getD (0:Int).toNat ((0:Int),(0:Int),())).1,v3,())).bind fun y5 =>
    kr y5 (0:Int)
    else
    none)
noncomputable def i_PutFuncs_j3 {R:Type} (K:Nat) (k:Nat) (v2:dq0) (v3:(List dq0)) (v4:dq0) (kn:Option R) (kr:(dq0->Int->Option R)):Option R :=
    (if (decide (v2.1=(0:Int)))=true then
    kr ((0:Int),(0:Int),()) (2:Int)
    else
    (if (!decide ((v3.length:Int)=v2.1))=true then
    kr ((0:Int),(0:Int),()) (2:Int)
    else
    (slices_ContainsFunc_impl_Func K (v3,(fun y4=>i_PutFuncs_c1 K (y4.1,v3,())),())).bind fun y3 =>
    (if y3=true then
    kr ((0:Int),(0:Int),()) (2:Int)
    else
    i_PutFuncs_j5 K k v2 v3 v4 none (fun z6 z7 =>
    kr z6 z7))))
noncomputable def i_PutFuncs (K:Nat) (x:(dq0 × (List dq0) × Unit)):Option (dq0 × Int × Unit) :=
    (i_IsFunc K (x.1,())).bind fun y1 =>
    (if (!y1)=true then
    some (((0:Int),(0:Int),()),(1:Int),())
    else
    (i_areFuncs K (x.2.1,())).bind fun y2 =>
    (if (!y2)=true then
    some (((0:Int),(0:Int),()),(1:Int),())
    else
    i_PutFuncs_j3 K K x.1 x.2.1 ((0:Int),(0:Int),()) none (fun z8 z9 =>
    some (z8,z9,()))))
noncomputable def rv_i_PutFuncs:Lv:=[(4,(.bx (.v tq0))),(5,(.v (.int .i64)))]
noncomputable def D_i_PutFuncs (K:Nat):List (PD (den (.tup (.pair tq0 (.pair (.int .i64) .unit))))):=[.J 3 [(2,(.bx (.v tq0))),(3,(.bx (.v (.sl tq0)))),(4,(.bx (.v tq0)))] [] 0 (fun k x kn kx kr=>i_PutFuncs_j3 K k x.1 x.2.1 x.2.2.1 (kn ()) (fun z0 z1=>kr (mkSt rv_i_PutFuncs (z0,z1,())))),
  .J 5 [(2,(.bx (.v tq0))),(3,(.bx (.v (.sl tq0)))),(4,(.bx (.v tq0)))] [] 0 (fun k x kn kx kr=>i_PutFuncs_j5 K k x.1 x.2.1 x.2.2.1 (kn ()) (fun z0 z1=>kr (mkSt rv_i_PutFuncs (z0,z1,()))))]
theorem ok_i_PutFuncs (K:Nat):FnOk Tryz.prog 18 (sp_i_PutFuncs (i_PutFuncs K)) :=
  fn_okD tysOk [C_i_IsFunc K,C_i_areFuncs K,C_slices_ContainsFunc_impl_Func K,C_i_PutFuncs_c1 K,C_i_Func_put K] 0 (D_i_PutFuncs K) [] rv_i_PutFuncs K Tryz.func18 (by kernel_rfl) ⟨fun _ _ _ _ _=>by kernel_rfl,⟨fun _ _ _ _ _=>by kernel_rfl,trivial⟩⟩ (fun _=>by kernel_rfl)
noncomputable def C_i_PutFuncs (K:Nat):CB Tryz.prog:=.f _ _ (ok_i_PutFuncs K)
end Go.Proofs.YtefmjjpdflpnaaaGreat.E
namespace Go.Proofs.YtefmjjpdflpnaaaGreat.E
open Go Go.Proofs
set_option linter.unusedVariables false
set_option linter.unusedSimpArgs false
set_option maxRecDepth 100000
variable {K:Nat} {R:Type}
/-! what formulas say at a row -/
def packB (bs:List Bool):Nat:=mkB (fun i=>bs.getD i false) bs.length
mutual
/-- a formula, evaluated -/
def evF (v:Nat->Bool):FrB->Bool
  | .mk c ps=>if plcI (c.toNat:Int)=0 then (if c=48 then false else if c=49 then true else v (c.toNat - 97)) else (gateB c).2.testBit (packB (evL v ps))
def evL (v:Nat->Bool):List FrB->List Bool
  | []=>[]
  | f :: fs=>evF v f :: evL v fs
end
theorem evL_map (v:Nat->Bool):∀ l,evL v l=l.map (evF v)
  | []=>by rw [evL];rfl
  | f :: l=>by rw [evL,evL_map v l];rfl
theorem packN_B (l:List Nat) (r:Nat):packN l r=packB (l.map fun x=>x.testBit r):=by
  unfold packN packB
  rw [List.length_map]
  refine mkB_congr fun i hi=>?_
  rw [List.getD_eq_getElem?_getD,List.getD_eq_getElem?_getD,List.getElem?_map]
  cases h:l[i]? with
  | none=>simp
  | some x=>simp
mutual
theorem ofF_ev {n r:Nat} (hr:r < 2 ^ n):∀ f,(ofF n f).testBit r=evF (fun i=>r.testBit i) f
  | .mk c ps=>by
    rw [ofF,evF]
    by_cases h:plcI ((c.toNat:Nat):Int)=0
    · rw [if_pos h,if_pos h,leafB]
      by_cases h1:c=48
      · rw [if_pos h1,if_pos h1];simp
      · rw [if_neg h1,if_neg h1]
        by_cases h2:c=49
        · rw [if_pos h2,if_pos h2,Nat.testBit_two_pow_sub_one,decide_eq_true hr]
        · rw [if_neg h2,if_neg h2,projN,mkB_bit,decide_eq_true hr,Bool.true_and]
    · rw [if_neg h,if_neg h,putN_bit hr,packN_B,ofL_ev hr ps]
theorem ofL_ev {n r:Nat} (hr:r < 2 ^ n):∀ l,(ofL n l).map (fun x=>x.testBit r)=evL (fun i=>r.testBit i) l
  | []=>by rw [ofL,evL];rfl
  | f :: l=>by rw [ofL,evL,List.map_cons,ofF_ev hr f,ofL_ev hr l]
end
mutual
theorem evF_congr {n:Nat} {u v:Nat->Bool} (h:∀ i,i < n->u i=v i):∀ f,isOfF (n:Int) f=true->evF u f=evF v f
  | .mk c ps,hf=>by
    rw [isOfF,Bool.and_eq_true,decide_eq_true_eq] at hf
    rw [evF,evF,evL_congr h ps hf.2]
    by_cases hp:plcI ((c.toNat:Nat):Int)=0
    · rw [if_pos hp,if_pos hp]
      by_cases h1:c=48
      · rw [if_pos h1,if_pos h1]
      · rw [if_neg h1,if_neg h1]
        by_cases h2:c=49
        · rw [if_pos h2,if_pos h2]
        · rw [if_neg h2,if_neg h2]
          refine h _ ?_
          have n1:c.toNat ≠ 48:=fun e=>h1 (UInt8.toNat_inj.1 e)
          have n2:c.toNat ≠ 49:=fun e=>h2 (UInt8.toNat_inj.1 e)
          have hv:=hf.1
          unfold plcI at hp
          split at hp
          · rw [varI,if_pos (by omega)] at hv
            omega
          · split at hp
            · omega
            · split at hp
              · omega
              · split at hp <;> omega
    · rw [if_neg hp,if_neg hp]
theorem evL_congr {n:Nat} {u v:Nat->Bool} (h:∀ i,i < n->u i=v i):∀ l,isOfL (n:Int) l=true->evL u l=evL v l
  | [],_=>by rw [evL,evL]
  | f :: l,hf=>by
    rw [isOfL,Bool.and_eq_true] at hf
    rw [evL,evL,evF_congr h f hf.1,evL_congr h l hf.2]
end
/-! duals -/
theorem one_of {α:Type} {l:List α} (h:l.length=1):∃ a,l=[a]:=by
  match l,h with
  | [a],_=>exact ⟨a,rfl⟩
theorem plc_cases (c:UInt8) (h:0<=plcI ((c.toNat:Nat):Int)):(plcI ((c.toNat:Nat):Int)=0/\(c=48\/c=49\/(97<=c.toNat/\c.toNat<=100)))\/c=33\/c=38\/c=124\/c=94\/c=63\/c=77:=by
  have e:∀ d:UInt8,c.toNat=d.toNat->c=d:=fun d h=>UInt8.toNat_inj.1 h
  unfold plcI at h ⊢
  split
  · left
    rename_i h1
    refine ⟨rfl,?_⟩
    rcases h1 with h1 | h1 | h1 | h1 | h1 | h1
    · exact .inr (.inr (by omega))
    · exact .inr (.inr (by omega))
    · exact .inr (.inr (by omega))
    · exact .inr (.inr (by omega))
    · exact .inl (e 48 (by show c.toNat=48;omega))
    · exact .inr (.inl (e 49 (by show c.toNat=49;omega)))
  · rename_i h1
    right
    rw [if_neg h1] at h
    split at h
    · exact .inl (e 33 (by show c.toNat=33;omega))
    · split at h
      · rename_i h2
        rcases h2 with h2 | h2 | h2
        · exact .inr (.inl (e 38 (by show c.toNat=38;omega)))
        · exact .inr (.inr (.inl (e 124 (by show c.toNat=124;omega))))
        · exact .inr (.inr (.inr (.inl (e 94 (by show c.toNat=94;omega)))))
      · split at h
        · rename_i h2
          rcases h2 with h2 | h2
          · exact .inr (.inr (.inr (.inr (.inl (e 63 (by show c.toNat=63;omega))))))
          · exact .inr (.inr (.inr (.inr (.inr (e 77 (by show c.toNat=77;omega))))))
        · omega
theorem evL_len (v:Nat->Bool) (l:List FrB):(evL v l).length=l.length:=by rw [evL_map,List.length_map]
mutual
theorem ev_dualF (v:Nat->Bool):∀ f,wfF f->evF v (dualF f)=!evF (fun i=>!v i) f
  | .mk c ps,hw=>by
    rw [wfF] at hw
    have ih:=ev_dualL v ps hw.2
    have hlen:=evL_len (fun i=>!v i) ps
    rw [dualF]
    rcases plc_cases c (by omega) with ⟨h0,h⟩ | rfl | rfl | rfl | rfl | rfl | rfl
    · have hps:ps=[]:=List.length_eq_zero_iff.1 (by omega)
      subst hps
      rcases h with rfl | rfl | h
      · show evF v (.mk 49 (dualL []))=_
        rw [evF,evF];rfl
      · show evF v (.mk 48 (dualL []))=_
        rw [evF,evF];rfl
      · have e:duN c (dualL [])=.mk c []:=by
          rw [dualL,duN,if_neg (fun e=>by subst e;exact absurd h (by decide)),if_neg (fun e=>by subst e;exact absurd h (by decide)),if_neg (fun e=>by subst e;exact absurd h (by decide)),if_neg (fun e=>by subst e;exact absurd h (by decide)),if_neg (fun e=>by subst e;exact absurd h (by decide)),if_neg (fun e=>by subst e;exact absurd h (by decide))]
        rw [e,evF,evF,if_pos h0,if_pos h0,if_neg (fun e=>by subst e;exact absurd h (by decide)),if_neg (fun e=>by subst e;exact absurd h (by decide)),if_neg (fun e=>by subst e;exact absurd h (by decide)),if_neg (fun e=>by subst e;exact absurd h (by decide)),Bool.not_not]
    · obtain ⟨x,e⟩:=one_of (l:=evL (fun i=>!v i) ps) (by have:(1:Int)=(ps.length:Int):=hw.1;omega)
      show evF v (.mk 33 (dualL ps))=_
      rw [evF,evF,ih,e]
      cases x <;> rfl
    · obtain ⟨x,y,e⟩:=two_of (l:=evL (fun i=>!v i) ps) (by have:(2:Int)=(ps.length:Int):=hw.1;omega)
      show evF v (.mk 124 (dualL ps))=_
      rw [evF,evF,ih,e]
      cases x <;> cases y <;> rfl
    · obtain ⟨x,y,e⟩:=two_of (l:=evL (fun i=>!v i) ps) (by have:(2:Int)=(ps.length:Int):=hw.1;omega)
      show evF v (.mk 38 (dualL ps))=_
      rw [evF,evF,ih,e]
      cases x <;> cases y <;> rfl
    · obtain ⟨x,y,e⟩:=two_of (l:=evL (fun i=>!v i) ps) (by have:(2:Int)=(ps.length:Int):=hw.1;omega)
      show evF v (.mk 33 [.mk 94 (dualL ps)])=_
      have key:∀ x y:Bool,(gateB 33).2.testBit (packB [(gateB 94).2.testBit (packB [!x,!y])])=!(gateB 94).2.testBit (packB [x,y]):=by decide
      rw [evF,evL,evL,evF,evF,ih,e,if_neg (show ¬ plcI (((94:UInt8).toNat:Nat):Int)=0 by decide),if_neg (show ¬ plcI (((33:UInt8).toNat:Nat):Int)=0 by decide),if_neg (show ¬ plcI (((94:UInt8).toNat:Nat):Int)=0 by decide)]
      exact key x y
    · obtain ⟨x,y,z,e⟩:=three_of (l:=evL (fun i=>!v i) ps) (by have:(3:Int)=(ps.length:Int):=hw.1;omega)
      show evF v (.mk 63 (swpL (dualL ps)))=_
      have es:evL v (swpL (dualL ps))=swpL (evL v (dualL ps)):=by rw [evL_map,evL_map,swp_map]
      rw [evF,evF,es,ih,e]
      cases x <;> cases y <;> cases z <;> rfl
    · obtain ⟨x,y,z,e⟩:=three_of (l:=evL (fun i=>!v i) ps) (by have:(3:Int)=(ps.length:Int):=hw.1;omega)
      show evF v (.mk 77 (dualL ps))=_
      rw [evF,evF,ih,e]
      cases x <;> cases y <;> cases z <;> rfl
theorem ev_dualL (v:Nat->Bool):∀ l,wfL l->evL v (dualL l)=(evL (fun i=>!v i) l).map (!·)
  | [],_=>by rw [dualL,evL,evL];rfl
  | f :: l,hw=>by
    rw [wfL] at hw
    rw [dualL,evL,evL,List.map_cons,ev_dualF v f hw.1,ev_dualL v l hw.2]
end
theorem bits_ext {n a b:Nat} (ha:a < 2 ^ 2 ^ n) (hb:b < 2 ^ 2 ^ n) (h:∀ r,r < 2 ^ n->a.testBit r=b.testBit r):a=b:=by
  apply Nat.eq_of_testBit_eq
  intro r
  by_cases hr:r < 2 ^ n
  · exact h r hr
  · rw [Nat.testBit_lt_two_pow (Nat.lt_of_lt_of_le ha (Nat.pow_le_pow_right (by decide) (by omega))),Nat.testBit_lt_two_pow (Nat.lt_of_lt_of_le hb (Nat.pow_le_pow_right (by decide) (by omega)))]
theorem compl_b {n r i:Nat} (hr:r < 2 ^ n) (hi:i < n):(2 ^ n - 1 - r).testBit i=!r.testBit i:=by
  have:2 ^ n - 1 - r=2 ^ n - (r + 1):=by omega
  rw [this,Nat.testBit_two_pow_sub_succ hr,decide_eq_true hi,Bool.true_and]
theorem of_dual {n:Nat} {f:FrB} (hw:wfF f) (hv:isOfF (n:Int) f=true):ofF n (dualF f)=dualN n (ofF n f):=by
  refine bits_ext (ofF_lt n _) (dualN_lt n _) fun r hr=>?_
  have hr2:2 ^ n - 1 - r < 2 ^ n:=by omega
  rw [ofF_ev hr,dualN_bit hr,ofF_ev hr2,ev_dualF _ f hw]
  congr 1
  exact evF_congr (fun i hi=>(compl_b hr hi).symm) f hv
theorem i_dualOf_eq {n b:Nat} (hn:n<=4) (hb:b < 2 ^ 2 ^ n) (hK:4611686018427387904<=K):i_DualOf K (fN n b,())=some (fN n (dualN n b),0,()):=by
  have hp:2 ^ 2 ^ n<=65536:=Nat.le_trans (Nat.pow_le_pow_right (by decide) (Nat.pow_le_pow_right (by decide) hn)) (show 2 ^ 2 ^ 4<=65536 by decide)
  simp only [i_DualOf]
  have hf:isF 0 (fN n b)=true:=isF_mk (by omega) hn hb
  rw [i_IsFunc_eq,some_bind',hf,ite_f (by rfl)]
  have:=i_Func_dual_eq (K:=K) (n:=n) (b:=b) hn (by omega) hK
  rw [fN,this,some_bind'];rfl
/-! formulas put into formulas -/
mutual
def subF (Fs:List FrB):FrB->FrB
  | .mk c ps=>if 0<=varI (c.toNat:Int) then Fs.getD (varI (c.toNat:Int)).toNat (.mk 48 []) else .mk c (subL Fs ps)
def subL (Fs:List FrB):List FrB->List FrB
  | []=>[]
  | f :: fs=>subF Fs f :: subL Fs fs
end
theorem subL_len (Fs:List FrB):∀ l,(subL Fs l).length=l.length
  | []=>by rw [subL]
  | f :: l=>by rw [subL,List.length_cons,subL_len Fs l,List.length_cons]
theorem subB_app (ts:List ByteArray):∀ a b:List UInt8,subB ts (a ++ b)=subB ts a ++ subB ts b
  | [],b=>by rw [subB];rfl
  | c :: a,b=>by rw [List.cons_append,subB,subB,subB_app ts a b,List.append_assoc]
theorem var_plc {c:UInt8} (h:0<=varI ((c.toNat:Nat):Int)):plcI ((c.toNat:Nat):Int)=0/\c.toNat - 97 < 4/\(varI ((c.toNat:Nat):Int)).toNat=c.toNat - 97/\97<=c.toNat/\c.toNat<=100:=by
  unfold varI at h ⊢
  split at h
  · rename_i h1
    rw [if_pos h1]
    exact ⟨by rw [plcI,if_pos (by omega)],by omega,by omega,by omega,by omega⟩
  · omega
mutual
theorem sub_bt {Fs:List FrB} (h4:Fs.length=4):∀ f,wfF f->btF (subF Fs f)=subB (Fs.map btT) (btF f)
  | .mk c ps,hw=>by
    rw [wfF] at hw
    rw [subF,btF,subB]
    by_cases h:0<=varI ((c.toNat:Nat):Int)
    · obtain ⟨h0,h1,h2,_⟩:=var_plc h
      have hps:ps=[]:=List.length_eq_zero_iff.1 (by omega)
      subst hps
      rw [if_pos h,if_pos h,btL,subB,List.append_nil,h2]
      have hi:c.toNat - 97 < Fs.length:=by omega
      rw [List.getD_eq_getElem?_getD,List.getD_eq_getElem?_getD,List.getElem?_map,List.getElem?_eq_getElem hi]
      show btF Fs[c.toNat - 97]=(btT Fs[c.toNat - 97]).data.toList
      rfl
    · rw [if_neg h,if_neg h,btF,sub_btL h4 ps hw.2];rfl
theorem sub_btL {Fs:List FrB} (h4:Fs.length=4):∀ l,wfL l->btL (subL Fs l)=subB (Fs.map btT) (btL l)
  | [],_=>by rw [subL,btL,subB]
  | f :: l,hw=>by
    rw [wfL] at hw
    rw [subL,btL,btL,subB_app,sub_bt h4 f hw.1,sub_btL h4 l hw.2]
end
mutual
theorem sub_wf {Fs:List FrB} (h4:Fs.length=4) (hF:wfL Fs):∀ f,wfF f->wfF (subF Fs f)
  | .mk c ps,hw=>by
    rw [wfF] at hw
    rw [subF]
    by_cases h:0<=varI ((c.toNat:Nat):Int)
    · obtain ⟨h0,h1,h2,_⟩:=var_plc h
      have hi:c.toNat - 97 < Fs.length:=by omega
      rw [if_pos h,h2,List.getD_eq_getElem?_getD,List.getElem?_eq_getElem hi]
      exact wf_mem hF (List.getElem_mem hi)
    · rw [if_neg h,wfF,subL_len]
      exact ⟨hw.1,sub_wfL h4 hF ps hw.2⟩
theorem sub_wfL {Fs:List FrB} (h4:Fs.length=4) (hF:wfL Fs):∀ l,wfL l->wfL (subL Fs l)
  | [],h=>by rw [subL];exact h
  | f :: l,hw=>by
    rw [wfL] at hw
    rw [subL,wfL]
    exact ⟨sub_wf h4 hF f hw.1,sub_wfL h4 hF l hw.2⟩
end
mutual
theorem ev_sub (Fs:List FrB) (v:Nat->Bool):∀ f,evF v (subF Fs f)=evF (fun i=>evF v (Fs.getD i (.mk 48 []))) f
  | .mk c ps=>by
    rw [subF]
    by_cases h:0<=varI ((c.toNat:Nat):Int)
    · obtain ⟨h0,h1,h2,h3,h4⟩:=var_plc h
      rw [if_pos h,h2]
      conv=>rhs;rw [evF]
      rw [if_pos h0,if_neg (fun e=>by subst e;exact absurd h3 (by decide)),if_neg (fun e=>by subst e;exact absurd h3 (by decide))]
    · rw [if_neg h,evF,evF,ev_subL Fs v ps]
      by_cases hp:plcI ((c.toNat:Nat):Int)=0
      · rw [if_pos hp,if_pos hp]
        by_cases e1:c=48
        · rw [if_pos e1,if_pos e1]
        · rw [if_neg e1,if_neg e1]
          by_cases e2:c=49
          · rw [if_pos e2,if_pos e2]
          · exfalso
            rcases plc_cases c (by omega) with ⟨_,q | q | q⟩ | q | q | q | q | q | q
            · exact e1 q
            · exact e2 q
            · exact h (by rw [varI,if_pos (by omega)];omega)
            all_goals (subst q;exact absurd hp (by decide))
      · rw [if_neg hp,if_neg hp]
theorem ev_subL (Fs:List FrB) (v:Nat->Bool):∀ l,evL v (subL Fs l)=evL (fun i=>evF v (Fs.getD i (.mk 48 []))) l
  | []=>by rw [subL,evL,evL]
  | f :: l=>by rw [subL,evL,evL,ev_sub Fs v f,ev_subL Fs v l]
end
theorem vars4:∀ L:List UInt8,varsOk 4 L=true
  | []=>rfl
  | c :: l=>by
    have:=varI_lt c
    have ih:=vars4 l
    unfold varsOk at ih ⊢
    rw [List.all_cons,ih,decide_eq_true this.1];rfl
mutual
theorem isOf4:∀ f,isOfF 4 f=true
  | .mk c ps=>by rw [isOfF,isOf4L ps,decide_eq_true (varI_lt c).1];rfl
theorem isOf4L:∀ l,isOfL 4 l=true
  | []=>by rw [isOfL]
  | f :: l=>by rw [isOfL,isOf4 f,isOf4L l];rfl
end
theorem of_sub {Fs:List FrB} (h4:Fs.length=4) (f:FrB):ofF 4 (subF Fs f)=putN (ofF 4 f) 4 (Fs.map (ofF 4)):=by
  refine bits_ext (n:=4) (ofF_lt 4 _) (putN_lt _ _ _) fun r hr=>?_
  have hp:packN (Fs.map (ofF 4)) r < 2 ^ 4:=by
    have:=packN_lt (Fs.map (ofF 4)) r
    rw [List.length_map,h4] at this
    exact this
  rw [ofF_ev hr,ev_sub,putN_bit hr,ofF_ev hp]
  refine evF_congr (n:=4) (fun i hi=>?_) f (isOf4 f)
  rw [packN_bit,List.length_map,h4,decide_eq_true hi,Bool.true_and,List.getD_eq_getElem?_getD,List.getD_eq_getElem?_getD,List.getElem?_map]
  have hi:i < Fs.length:=by omega
  rw [List.getElem?_eq_getElem hi]
  exact (ofF_ev hr _).symm
theorem isF_fN {n b:Nat} (hn:n<=4) (hb:b < 2 ^ 2 ^ n):isF 0 (fN n b)=true:=isF_mk (by omega) hn hb
theorem i_putFuncs_eq {b:Nat} {l:List Nat} (hb:b < 2 ^ 2 ^ 4) (h4:l.length=4) (hl:∀ x ∈ l,x < 2 ^ 2 ^ 4) (hK:4611686018427387904<=K):i_PutFuncs K (fN 4 b,fnsN 4 l,())=some (fN 4 (putN b 4 l),0,()):=by
  have hp:(2:Nat) ^ 2 ^ 4=65536:=by decide
  have hlen:(fnsN 4 l).length=4:=by rw [fns_len,h4]
  simp only [i_PutFuncs]
  rw [i_IsFunc_eq,some_bind',isF_fN (by decide) hb,ite_f (by rfl),i_areFuncs_eq (by omega) hK,some_bind',List.all_eq_true.2 (fun f hf=>by
    obtain ⟨x,hx,rfl⟩:=List.mem_map.1 hf
    exact isF_fN (by decide) (hl x hx)),ite_f (by rfl)]
  simp only [i_PutFuncs_j3]
  rw [ite_f (by rfl),ite_f (by rw [hlen];rfl)]
  have hg:(fnsN 4 l).getD (0:Int).toNat ((0:Int),(0:Int),())=fN 4 (l.getD 0 0):=fns_get 4 l 0 (by omega)
  rw [slices_ContainsFunc_impl_Func_eq _ (fun _=>false) (by omega) hK (fun f hf=>by
    obtain ⟨x,hx,rfl⟩:=List.mem_map.1 hf
    simp only [i_PutFuncs_c1]
    rw [ite_t (by rw [hlen];rfl),hg];rfl),some_bind',show ((fnsN 4 l).any fun _=>false)=false by simp,ite_f (by rfl)]
  simp only [i_PutFuncs_j5]
  rw [ite_t (by rw [hlen];rfl),hg]
  have:=i_Func_put_eq (K:=K) (a:=4) (m:=4) (by omega:b < 65536) (Nat.le_refl 4) l (by omega) (fun x hx=>by have:=hl x hx;omega) hK
  exact (congrArg (fun o=>Option.bind o fun y5=>some (y5,(0:Int),())) this)
end Go.Proofs.YtefmjjpdflpnaaaGreat.E
namespace Go.Proofs.YtefmjjpdflpnaaaGreat.E
open Go Go.Proofs Go.Proofs.YtefmjjpdflpnaaaGreat
set_option maxRecDepth 100000
set_option linter.unusedVariables false
noncomputable def s_l05DrawOf_j4 {R:Type} (K:Nat) (r:(dq1 × Int × Int × Unit)->Option ((ByteArray × Unit) × (dq1 × Unit))) (k:Nat) (v0:dq1) (v1:Int) (v7:(List ByteArray)) (kn:Option R) (kr:(dq1->ByteArray->Option R)):Option R :=
    gN K ((s_l01Next K (v0,v1,())).bind fun y3 =>
    (if (bnds (IntKind.i64.wrap ((2:Int) + y3.1.1)) (v7.length:Int))=true then
    let x4:=(v7.getD (IntKind.i64.wrap ((2:Int) + y3.1.1)).toNat ByteArray.empty)
    kr y3.2.1 x4
    else
    none))
noncomputable def s_l05DrawOf_j5 {R:Type} (K:Nat) (r:(dq1 × Int × Int × Unit)->Option ((ByteArray × Unit) × (dq1 × Unit))) (k:Nat) (v0:dq1) (v7:(List ByteArray)) (kn:Option R) (kr:(dq1->ByteArray->Option R)):Option R :=
    (s_l01Next K (v0,(2:Int),())).bind fun y7 =>
    (if (bnds y7.1.1 (v7.length:Int))=true then
    kr y7.2.1 (v7.getD y7.1.1.toNat ByteArray.empty)
    else
    none)
noncomputable def s_l05DrawOf_j3 {R:Type} (K:Nat) (r:(dq1 × Int × Int × Unit)->Option ((ByteArray × Unit) × (dq1 × Unit))) (k:Nat) (v0:dq1) (v1:Int) (v7:(List ByteArray)) (kn:Option R) (kr:(dq1->ByteArray->Option R)):Option R :=
    gN K ((if (decide (v1 > (0:Int)))=true then
    (s_l01Next K (v0,(5:Int),())).bind fun y2 =>
    (if (decide (y2.1.1 > (0:Int)))=true then
    s_l05DrawOf_j4 K r k y2.2.1 v1 v7 none (fun z5 z6 =>
    kr z5 z6)
    else
    s_l05DrawOf_j5 K r k y2.2.1 v7 none (fun z8 z9 =>
    kr z8 z9))
    else
    s_l05DrawOf_j5 K r k v0 v7 none (fun z10 z11 =>
    kr z10 z11)))
noncomputable def s_l05DrawOf_l10 {R:Type} (K:Nat) (r:(dq1 × Int × Int × Unit)->Option ((ByteArray × Unit) × (dq1 × Unit))):Nat->dq1->Int->Int->ByteArray->Int->(dq1->ByteArray->Option R)->Option R
  | 0,_,_,_,_,_,_=>none
  | k + 1,v0,v1,v2,v10,v11,kx0 =>
    (if (decide (v11 > (0:Int)))=true then
    (r (v0,v1,(IntKind.i64.wrap (v2 - (1:Int))),())).bind fun y20 =>
    (if (decide (v10.size + y20.1.1.size<=9223372036854775807))=true then
    s_l05DrawOf_l10 K r k y20.2.1 v1 v2 (v10 ++ y20.1.1) (IntKind.i64.wrap (v11 - (1:Int))) kx0
    else
    none)
    else
    kx0 v0 v10)
noncomputable def s_l05DrawOf_j6 {R:Type} (K:Nat) (r:(dq1 × Int × Int × Unit)->Option ((ByteArray × Unit) × (dq1 × Unit))) (k:Nat) (v0:dq1) (v1:Int) (v2:Int) (kn:Option R) (kr:(dq1->ByteArray->Option R)):Option R :=
    let l17:=[(⟨#[33]⟩:ByteArray),(⟨#[38]⟩:ByteArray),(⟨#[124]⟩:ByteArray),(⟨#[94]⟩:ByteArray),(⟨#[38]⟩:ByteArray),(⟨#[124]⟩:ByteArray),(⟨#[63]⟩:ByteArray),(⟨#[77]⟩:ByteArray)]
    (s_l01Next K (v0,(8:Int),())).bind fun y18 =>
    (if (bnds y18.1.1 (l17.length:Int))=true then
    (if (bnds (0:Int) ((l17.getD y18.1.1.toNat ByteArray.empty).size:Int))=true then
    (s_l05Places K ((byteAt (l17.getD y18.1.1.toNat ByteArray.empty) (0:Int)),())).bind fun y19 =>
    s_l05DrawOf_l10 K r k y18.2.1 v1 v2 (l17.getD y18.1.1.toNat ByteArray.empty) y19 (fun z21 z22 =>
    kr z21 z22)
    else
    none)
    else
    none)
noncomputable def s_l05DrawOf_b (K:Nat) (r:(dq1 × Int × Int × Unit)->Option ((ByteArray × Unit) × (dq1 × Unit))) (x:(dq1 × Int × Int × Unit)):Option ((ByteArray × Unit) × (dq1 × Unit)) :=
    let l1:=[(⟨#[48]⟩:ByteArray),(⟨#[49]⟩:ByteArray),(⟨#[97]⟩:ByteArray),(⟨#[98]⟩:ByteArray),(⟨#[99]⟩:ByteArray),(⟨#[100]⟩:ByteArray)]
    (if (decide (x.2.2.1 < (1:Int)))=true then
    s_l05DrawOf_j3 K r K x.1 x.2.1 l1 none (fun z12 z13 =>
    some ((z13,()),(z12,())))
    else
    (s_l01Next K (x.1,(5:Int),())).bind fun y14 =>
    (if (decide (y14.1.1=(0:Int)))=true then
    s_l05DrawOf_j3 K r K y14.2.1 x.2.1 l1 none (fun z15 z16 =>
    some ((z16,()),(z15,())))
    else
    s_l05DrawOf_j6 K r K y14.2.1 x.2.1 x.2.2.1 none (fun z23 z24 =>
    some ((z24,()),(z23,())))))
noncomputable def s_l05DrawOf (K:Nat):Nat->(dq1 × Int × Int × Unit)->Option ((ByteArray × Unit) × (dq1 × Unit))
  | 0=>fun _=>none
  | k + 1=>s_l05DrawOf_b K (s_l05DrawOf K k)
noncomputable def X0_s_l05DrawOf:Lv:=[(0,(.bx (.v tq1))),(10,(.v .str))]
noncomputable def rv_s_l05DrawOf:Lv:=[(0,(.bx (.v tq1))),(6,(.v .str))]
noncomputable def D_s_l05DrawOf (K:Nat) (r:(dq1 × Int × Int × Unit)->Option ((ByteArray × Unit) × (dq1 × Unit))):List (PD (den rl_s_l05DrawOf.ty × den (outL ps_s_l05DrawOf).ty)):=[.J 3 [(0,(.bx (.v tq1))),(1,(.v (.int .i64))),(7,(.r .str))] [] K (fun k x kn kx kr=>s_l05DrawOf_j3 K r k x.1 x.2.1 x.2.2.1 (kn ()) (fun z0 z1=>kr (mkSt rv_s_l05DrawOf (z0,z1,())))),
  .J 4 [(0,(.bx (.v tq1))),(1,(.v (.int .i64))),(7,(.r .str))] [] K (fun k x kn kx kr=>s_l05DrawOf_j4 K r k x.1 x.2.1 x.2.2.1 (kn ()) (fun z0 z1=>kr (mkSt rv_s_l05DrawOf (z0,z1,())))),
  .J 5 [(0,(.bx (.v tq1))),(7,(.r .str))] [] 0 (fun k x kn kx kr=>s_l05DrawOf_j5 K r k x.1 x.2.1 (kn ()) (fun z0 z1=>kr (mkSt rv_s_l05DrawOf (z0,z1,())))),
  .J 6 [(0,(.bx (.v tq1))),(1,(.v (.int .i64))),(2,(.v (.int .i64)))] [] 0 (fun k x kn kx kr=>s_l05DrawOf_j6 K r k x.1 x.2.1 x.2.2.1 (kn ()) (fun z0 z1=>kr (mkSt rv_s_l05DrawOf (z0,z1,())))),
  .L 10 [(0,(.bx (.v tq1))),(1,(.v (.int .i64))),(2,(.v (.int .i64))),(10,(.v .str)),(11,(.v (.int .i64)))] [] (fun k x kx kr=>s_l05DrawOf_l10 K r k x.1 x.2.1 x.2.2.1 x.2.2.2.1 x.2.2.2.2.1 (fun z0 z1=>kx 0 (mkSt X0_s_l05DrawOf (z0,z1,()))))]
theorem okb_s_l05DrawOf (K:Nat) (r:(dq1 × Int × Int × Unit)->Option ((ByteArray × Unit) × (dq1 × Unit))) (hr:ShOk Tryz.prog 49 (sp_s_l05DrawOf r)):ShOk Tryz.prog 49 (sp_s_l05DrawOf (s_l05DrawOf_b K r)) :=
  sh_okD tysOk [.s _ (sp_s_l05DrawOf (r)) (hr),C_s_l01Next K,C_s_l05Places K] 1 (D_s_l05DrawOf K r) [(0,X0_s_l05DrawOf)] rv_s_l05DrawOf K Tryz.func49 (by kernel_rfl) ⟨fun _ _ _ _ _=>by kernel_rfl,⟨fun _ _ _ _ _=>by kernel_rfl,⟨fun _ _ _ _ _=>by kernel_rfl,⟨fun _ _ _ _ _=>by kernel_rfl,⟨⟨fun _ _ _ _=>by kernel_rfl,fun _ _ _=>rfl⟩,trivial⟩⟩⟩⟩⟩ (fun _=>by kernel_rfl)
theorem ok_s_l05DrawOf (K:Nat):∀ k,ShOk Tryz.prog 49 (sp_s_l05DrawOf (s_l05DrawOf K k))
  | 0=>shOk_none
  | k + 1=>okb_s_l05DrawOf K (s_l05DrawOf K k) (ok_s_l05DrawOf K k)
noncomputable def ps_s_l05Draw:Lv:=[(0,(.bx (.v tq1)))]
noncomputable def rl_s_l05Draw:Lv:=[(0,(.v .str))]
noncomputable def sp_s_l05Draw (F:(dq1 × Unit)->Option ((ByteArray × Unit) × (dq1 × Unit))):ShSpec:=⟨ps_s_l05Draw,rl_s_l05Draw,F⟩
noncomputable def s_l05Draw_l10 {R:Type} (K:Nat):Nat->dq1->ByteArray->(dq1->ByteArray->Option R)->Option R
  | 0,_,_,_=>none
  | k + 1,v0,v3,kx1 =>
    (if (decide ((v3.size:Int)<=(60:Int)))=true then
    (if (decide ((⟨#[33]⟩:ByteArray).size + v3.size<=9223372036854775807))=true then
    s_l05Draw_l10 K k v0 ((⟨#[33]⟩:ByteArray) ++ v3) kx1
    else
    none)
    else
    kx1 v0 v3)
noncomputable def s_l05Draw (K:Nat) (x:(dq1 × Unit)):Option ((ByteArray × Unit) × (dq1 × Unit)) :=
    let l1:=[(0:Int),(1:Int),(2:Int),(3:Int),(4:Int),(4:Int)]
    (s_l01Pick K (x.1,l1,())).bind fun y2 =>
    let l3:=[(0:Int),(1:Int),(2:Int),(3:Int)]
    (s_l01Pick K (y2.2.1,l3,())).bind fun y4 =>
    (s_l05DrawOf K K (y4.2.1,y2.1.1,y4.1.1,())).bind fun y5 =>
    (s_l01Next K (y5.2.1,(20:Int),())).bind fun y6 =>
    (if (decide (y6.1.1=(0:Int)))=true then
    (s_l01Next K (y6.2.1,(4:Int),())).bind fun y7 =>
    (if (decide (y7.1.1=(0:Int)))=true then
    (if (decide (y5.1.1.size + (⟨#[97]⟩:ByteArray).size<=9223372036854775807))=true then
    some (((y5.1.1 ++ (⟨#[97]⟩:ByteArray)),()),(y7.2.1,()))
    else
    none)
    else
    (if (decide (y7.1.1=(1:Int)))=true then
    (if (decide (0<=(1:Int)) && decide ((1:Int)<=(y5.1.1.size:Int)) && decide ((y5.1.1.size:Int)<=(y5.1.1.size:Int)))=true then
    some (((y5.1.1.extract (1:Int).toNat (y5.1.1.size:Int).toNat),()),(y7.2.1,()))
    else
    none)
    else
    (if (decide (y7.1.1=(2:Int)))=true then
    (if (decide ((⟨#[120]⟩:ByteArray).size + y5.1.1.size<=9223372036854775807))=true then
    some ((((⟨#[120]⟩:ByteArray) ++ y5.1.1),()),(y7.2.1,()))
    else
    none)
    else
    s_l05Draw_l10 K K y7.2.1 y5.1.1 (fun z8 z9 =>
    some ((z9,()),(z8,()))))))
    else
    some ((y5.1.1,()),(y6.2.1,())))
noncomputable def X1_s_l05Draw:Lv:=[(0,(.bx (.v tq1))),(3,(.v .str))]
noncomputable def rv_s_l05Draw:Lv:=[(0,(.bx (.v tq1))),(2,(.v .str))]
noncomputable def D_s_l05Draw (K:Nat):List (PD (den rl_s_l05Draw.ty × den (outL ps_s_l05Draw).ty)):=[.L 10 [(0,(.bx (.v tq1))),(3,(.v .str))] [] (fun k x kx kr=>s_l05Draw_l10 K k x.1 x.2.1 (fun z0 z1=>kx 1 (mkSt X1_s_l05Draw (z0,z1,()))))]
theorem ok_s_l05Draw (K:Nat):ShOk Tryz.prog 31 (sp_s_l05Draw (s_l05Draw K)) :=
  sh_okD tysOk [C_s_l01Pick K,.s _ (sp_s_l05DrawOf (s_l05DrawOf K K)) (ok_s_l05DrawOf K K),C_s_l01Next K] 1 (D_s_l05Draw K) [(1,X1_s_l05Draw)] rv_s_l05Draw K Tryz.func31 (by kernel_rfl) ⟨⟨fun _ _ _ _=>by kernel_rfl,fun _ _ _=>rfl⟩,trivial⟩ (fun _=>by kernel_rfl)
noncomputable def C_s_l05Draw (K:Nat):CB Tryz.prog:=.s _ _ (ok_s_l05Draw K)
noncomputable def as_s_DrawFuncOfFormula:Ty:=(.pair (.sl (.int .u8)) .unit)
noncomputable def sp_s_DrawFuncOfFormula (F:((List Int) × Unit)->Option (Int × ByteArray × Unit)):FnSpec:=⟨as_s_DrawFuncOfFormula,[false],(.tup (.pair (.int .i64) (.pair .str .unit))),F⟩
noncomputable def s_DrawFuncOfFormula (K:Nat) (x:((List Int) × Unit)):Option (Int × ByteArray × Unit) :=
    (s_l01From K (x.1,())).bind fun y1 =>
    (s_l05Draw K (y1.1.1,())).bind fun y2 =>
    (s_l05Most K (y2.1.1,())).bind fun y3 =>
    (s_l05Most K (y2.1.1,())).bind fun y4 =>
    (s_l01Near K (y2.2.1,(4:Int),())).bind fun y5 =>
    let l6:=[(4:Int),(4:Int),(IntKind.i64.wrap (y3 + (1:Int))),y4,y5.1.1]
    (s_l01Pick K (y5.2.1,l6,())).bind fun y7 =>
    some (y7.1.1,y2.1.1,())
noncomputable def rv_s_DrawFuncOfFormula:Lv:=[(2,(.v (.int .i64))),(3,(.v .str))]
theorem ok_s_DrawFuncOfFormula (K:Nat):FnOk Tryz.prog 5 (sp_s_DrawFuncOfFormula (s_DrawFuncOfFormula K)) :=
  fn_okD tysOk [C_s_l01From K,C_s_l05Draw K,C_s_l01Pick K,C_s_l05Most K,C_s_l01Near K] 0 [] [] rv_s_DrawFuncOfFormula K Tryz.func5 (by kernel_rfl) trivial (fun _=>by kernel_rfl)
noncomputable def C_s_DrawFuncOfFormula (K:Nat):CB Tryz.prog:=.f _ _ (ok_s_DrawFuncOfFormula K)
noncomputable def ps_s_DrawPutFormulas:Lv:=[(0,(.v (.sl (.int .u8))))]
noncomputable def rl_s_DrawPutFormulas:Lv:=[(0,(.v .str)),(1,(.v (.sl .str)))]
noncomputable def sp_s_DrawPutFormulas (F:((List Int) × Unit)->Option ((ByteArray × (List ByteArray) × Unit) × Unit)):ShSpec:=⟨ps_s_DrawPutFormulas,rl_s_DrawPutFormulas,F⟩
noncomputable def s_DrawPutFormulas_l4 {R:Type} (K:Nat):Nat->dq1->ByteArray->(List ByteArray)->Int->(dq1->ByteArray->(List ByteArray)->Option R)->Option R
  | 0,_,_,_,_,_=>none
  | k + 1,v4,v5,v6,v7,kx0 =>
    (if (decide (v7 < (4:Int)))=true then
    let l6:=[(0:Int),(0:Int),(1:Int),(2:Int)]
    (s_l01Pick K (v4,l6,())).bind fun y7 =>
    (s_l05DrawOf K K (y7.2.1,(4:Int),y7.1.1,())).bind fun y8 =>
    (if (decide (v6.length + ([y8.1.1]).length<=lim))=true then
    let l9:=(v6 ++ [y8.1.1])
    s_DrawPutFormulas_l4 K k y8.2.1 v5 l9 (IntKind.i64.wrap (v7 + (1:Int))) kx0
    else
    none)
    else
    kx0 v4 v5 v6)
noncomputable def s_DrawPutFormulas_j14 {R:Type} (K:Nat) (k:Nat) (v5:ByteArray) (v6:(List ByteArray)) (kn:Option R) (kr:(ByteArray->(List ByteArray)->Option R)):Option R :=
    kr v5 v6
noncomputable def s_DrawPutFormulas (K:Nat) (x:((List Int) × Unit)):Option ((ByteArray × (List ByteArray) × Unit) × Unit) :=
    (s_l01From K (x.1,())).bind fun y1 =>
    let l2:=[(0:Int),(1:Int),(2:Int)]
    (s_l01Pick K (y1.1.1,l2,())).bind fun y3 =>
    (s_l05DrawOf K K (y3.2.1,(4:Int),y3.1.1,())).bind fun y4 =>
    let l5:=([]:List ByteArray)
    s_DrawPutFormulas_l4 K K y4.2.1 y4.1.1 l5 (0:Int) (fun z10 z11 z12 =>
    (s_l01Next K (z10,(20:Int),())).bind fun y13 =>
    (if (decide (y13.1.1=(0:Int)))=true then
    (if (decide (0<=(0:Int)) && decide ((0:Int)<=(3:Int)) && decide ((3:Int)<=(z12.length:Int)))=true then
    s_DrawPutFormulas_j14 K K z11 (sliceL z12 (0:Int) ((0:Int) + ((3:Int) - (0:Int)))) none (fun z14 z15 =>
    some ((z14,z15,()),()))
    else
    none)
    else
    (if (decide (y13.1.1=(1:Int)))=true then
    (s_l01Next K (y13.2.1,(4:Int),())).bind fun y16 =>
    (s_l05Draw K (y16.2.1,())).bind fun y17 =>
    (if (bnds y16.1.1 (z12.length:Int))=true then
    let l18:=(z12.set y16.1.1.toNat y17.1.1)
    s_DrawPutFormulas_j14 K K z11 l18 none (fun z19 z20 =>
    some ((z19,z20,()),()))
    else
    none)
    else
    (if (decide (y13.1.1=(2:Int)))=true then
    (s_l05Draw K (y13.2.1,())).bind fun y21 =>
    s_DrawPutFormulas_j14 K K y21.1.1 z12 none (fun z22 z23 =>
    some ((z22,z23,()),()))
    else
    s_DrawPutFormulas_j14 K K z11 z12 none (fun z24 z25 =>
    some ((z24,z25,()),()))))))
noncomputable def X0_s_DrawPutFormulas:Lv:=[(4,(.bx (.v tq1))),(5,(.v .str)),(6,(.r .str))]
noncomputable def rv_s_DrawPutFormulas:Lv:=[(2,(.v .str)),(3,(.v (.sl .str)))]
noncomputable def D_s_DrawPutFormulas (K:Nat):List (PD (den rl_s_DrawPutFormulas.ty × den (outL ps_s_DrawPutFormulas).ty)):=[.L 4 [(4,(.bx (.v tq1))),(5,(.v .str)),(6,(.r .str)),(7,(.v (.int .i64)))] [] (fun k x kx kr=>s_DrawPutFormulas_l4 K k x.1 x.2.1 x.2.2.1 x.2.2.2.1 (fun z0 z1 z2=>kx 0 (mkSt X0_s_DrawPutFormulas (z0,z1,z2,())))),
  .J 14 [(5,(.v .str)),(6,(.v (.sl .str)))] [] 0 (fun k x kn kx kr=>s_DrawPutFormulas_j14 K k x.1 x.2.1 (kn ()) (fun z0 z1=>kr (mkSt rv_s_DrawPutFormulas (z0,z1,()))))]
theorem ok_s_DrawPutFormulas (K:Nat):ShOk Tryz.prog 15 (sp_s_DrawPutFormulas (s_DrawPutFormulas K)) :=
  sh_okD tysOk [C_s_l01From K,C_s_l05Draw K,C_s_l01Pick K,.s _ (sp_s_l05DrawOf (s_l05DrawOf K K)) (ok_s_l05DrawOf K K),C_s_l01Next K] 0 (D_s_DrawPutFormulas K) [(0,X0_s_DrawPutFormulas)] rv_s_DrawPutFormulas K Tryz.func15 (by kernel_rfl) ⟨⟨fun _ _ _ _=>by kernel_rfl,fun _ _ _=>rfl⟩,⟨fun _ _ _ _ _=>by kernel_rfl,trivial⟩⟩ (fun _=>by kernel_rfl)
noncomputable def C_s_DrawPutFormulas (K:Nat):CB Tryz.prog:=.s _ _ (ok_s_DrawPutFormulas K)
noncomputable def as_s_DrawDualFormula:Ty:=(.pair (.sl (.int .u8)) .unit)
noncomputable def sp_s_DrawDualFormula (F:((List Int) × Unit)->Option ByteArray):FnSpec:=⟨as_s_DrawDualFormula,[false],.str,F⟩
noncomputable def s_DrawDualFormula_l6 {R:Type} (K:Nat):Nat->ByteArray->Int->(ByteArray->Option R)->Option R
  | 0,_,_,_=>none
  | k + 1,v4,v5,kx0 =>
    (if (decide (v5 > (0:Int)))=true then
    (if (decide ((⟨#[94,98]⟩:ByteArray).size + v4.size<=9223372036854775807))=true then
    s_DrawDualFormula_l6 K k ((⟨#[94,98]⟩:ByteArray) ++ v4) (IntKind.i64.wrap (v5 - (1:Int))) kx0
    else
    none)
    else
    kx0 v4)
noncomputable def s_DrawDualFormula (K:Nat) (x:((List Int) × Unit)):Option ByteArray :=
    (s_l01From K (x.1,())).bind fun y1 =>
    (s_l05Draw K (y1.1.1,())).bind fun y2 =>
    (s_l01Next K (y2.2.1,(12:Int),())).bind fun y3 =>
    (if (decide (y3.1.1=(0:Int)))=true then
    (s_l01Next K (y3.2.1,(30:Int),())).bind fun y4 =>
    s_DrawDualFormula_l6 K K (⟨#[97]⟩:ByteArray) y4.1.1 (fun z5 =>
    some z5)
    else
    some y2.1.1)
noncomputable def X0_s_DrawDualFormula:Lv:=[(4,(.v .str))]
noncomputable def rv_s_DrawDualFormula:Lv:=[(2,(.v .str))]
noncomputable def D_s_DrawDualFormula (K:Nat):List (PD (den .str)):=[.L 6 [(4,(.v .str)),(5,(.v (.int .i64)))] [] (fun k x kx kr=>s_DrawDualFormula_l6 K k x.1 x.2.1 (fun z0=>kx 0 (mkSt X0_s_DrawDualFormula (z0,()))))]
theorem ok_s_DrawDualFormula (K:Nat):FnOk Tryz.prog 19 (sp_s_DrawDualFormula (s_DrawDualFormula K)) :=
  fn_okD tysOk [C_s_l01From K,C_s_l05Draw K,C_s_l01Next K] 0 (D_s_DrawDualFormula K) [(0,X0_s_DrawDualFormula)] rv_s_DrawDualFormula K Tryz.func19 (by kernel_rfl) ⟨⟨fun _ _ _ _=>by kernel_rfl,fun _ _ _=>rfl⟩,trivial⟩ (fun _=>by kernel_rfl)
noncomputable def C_s_DrawDualFormula (K:Nat):CB Tryz.prog:=.f _ _ (ok_s_DrawDualFormula K)
noncomputable def as_s_DrawPartsOfFormula:Ty:=(.pair (.sl (.int .u8)) .unit)
noncomputable def sp_s_DrawPartsOfFormula (F:((List Int) × Unit)->Option ByteArray):FnSpec:=⟨as_s_DrawPartsOfFormula,[false],.str,F⟩
noncomputable def s_DrawPartsOfFormula (K:Nat) (x:((List Int) × Unit)):Option ByteArray :=
    (s_l01From K (x.1,())).bind fun y1 =>
    (s_l05Draw K (y1.1.1,())).bind fun y2 =>
    some y2.1.1
noncomputable def rv_s_DrawPartsOfFormula:Lv:=[(2,(.v .str))]
theorem ok_s_DrawPartsOfFormula (K:Nat):FnOk Tryz.prog 21 (sp_s_DrawPartsOfFormula (s_DrawPartsOfFormula K)) :=
  fn_okD tysOk [C_s_l01From K,C_s_l05Draw K] 0 [] [] rv_s_DrawPartsOfFormula K Tryz.func21 (by kernel_rfl) trivial (fun _=>by kernel_rfl)
noncomputable def C_s_DrawPartsOfFormula (K:Nat):CB Tryz.prog:=.f _ _ (ok_s_DrawPartsOfFormula K)
noncomputable def as_s_DrawVariablesOfFormula:Ty:=(.pair (.sl (.int .u8)) .unit)
noncomputable def sp_s_DrawVariablesOfFormula (F:((List Int) × Unit)->Option ByteArray):FnSpec:=⟨as_s_DrawVariablesOfFormula,[false],.str,F⟩
noncomputable def s_DrawVariablesOfFormula (K:Nat) (x:((List Int) × Unit)):Option ByteArray :=
    (s_l01From K (x.1,())).bind fun y1 =>
    (s_l05Draw K (y1.1.1,())).bind fun y2 =>
    some y2.1.1
noncomputable def rv_s_DrawVariablesOfFormula:Lv:=[(2,(.v .str))]
theorem ok_s_DrawVariablesOfFormula (K:Nat):FnOk Tryz.prog 23 (sp_s_DrawVariablesOfFormula (s_DrawVariablesOfFormula K)) :=
  fn_okD tysOk [C_s_l01From K,C_s_l05Draw K] 0 [] [] rv_s_DrawVariablesOfFormula K Tryz.func23 (by kernel_rfl) trivial (fun _=>by kernel_rfl)
noncomputable def C_s_DrawVariablesOfFormula (K:Nat):CB Tryz.prog:=.f _ _ (ok_s_DrawVariablesOfFormula K)
end Go.Proofs.YtefmjjpdflpnaaaGreat.E
namespace Go.Proofs.YtefmjjpdflpnaaaGreat.E
open Go Go.Proofs
set_option linter.unusedVariables false
set_option linter.unusedSimpArgs false
set_option maxRecDepth 100000
variable {K:Nat} {R:Type}
/-! formulas drawn -/
def bdD:Nat->Nat
  | 0=>1
  | d + 1=>1 + 3 * bdD d
theorem bdD_pos:∀ d,1<=bdD d
  | 0=>Nat.le_refl _
  | d + 1=>by rw [bdD];omega
abbrev DrY:=(ByteArray × Unit) × (DSrc × Unit)
def txP (B:Nat) (y:DrY):Prop:=okS y.2.1/\1<=y.1.1.size/\y.1.1.size<=B
theorem leaf_ok {r:(DSrc × Int × Int × Unit)->Option DrY} {k:Nat} {s:DSrc} {n:Int} (hs:okS s) (hn:n<=4) (kn:Option R) (kr:DSrc->ByteArray->Option R) (Q:R->Prop) (hk:∀ s t,okS s->t.size=1->Okf (kr s t) Q) :
    Okf (s_l05DrawOf_j3 K r k s n [(⟨#[48]⟩:ByteArray),(⟨#[49]⟩:ByteArray),(⟨#[97]⟩:ByteArray),(⟨#[98]⟩:ByteArray),(⟨#[99]⟩:ByteArray),(⟨#[100]⟩:ByteArray)] kn kr) Q:=by
  have hget:∀ i:Nat,i < 6->([(⟨#[48]⟩:ByteArray),(⟨#[49]⟩:ByteArray),(⟨#[97]⟩:ByteArray),(⟨#[98]⟩:ByteArray),(⟨#[99]⟩:ByteArray),(⟨#[100]⟩:ByteArray)].getD i ByteArray.empty).size=1:=by
    intro i hi
    have:i=0\/i=1\/i=2\/i=3\/i=4\/i=5:=by omega
    rcases this with rfl | rfl | rfl | rfl | rfl | rfl <;> rfl
  have h5:∀ s,okS s->Okf (s_l05DrawOf_j5 K r k s [(⟨#[48]⟩:ByteArray),(⟨#[49]⟩:ByteArray),(⟨#[97]⟩:ByteArray),(⟨#[98]⟩:ByteArray),(⟨#[99]⟩:ByteArray),(⟨#[100]⟩:ByteArray)] kn kr) Q:=by
    intro s hs
    simp only [s_l05DrawOf_j5]
    refine Okf.bind (next_ok 2 hs) fun y hy=>?_
    obtain ⟨h1,h2,_⟩:=hy
    obtain ⟨h3,h4⟩:=h2 (by decide)
    rw [ite_t (bnds_t h3 (Int.lt_trans h4 (by decide)))]
    exact hk _ _ h1 (hget _ (by omega))
  simp only [s_l05DrawOf_j3,s_l05DrawOf_j4,gN_eq]
  refine Okf.ite (fun hp=>?_) fun _=>h5 s hs
  have hp:=of_decide_eq_true hp
  refine Okf.bind (next_ok 5 hs) fun y hy=>?_
  refine Okf.ite (fun _=>?_) fun _=>h5 _ hy.1
  refine Okf.bind (next_ok n hy.1) fun y3 h3=>?_
  obtain ⟨h1,h2,_⟩:=h3
  obtain ⟨h4,h5'⟩:=h2 (by omega)
  rw [w64 (by omega) (by omega),ite_t]
  · exact hk _ _ h1 (hget _ (by omega))
  · exact bnds_t (by omega) (show 2 + y3.1.1 < ((6:Nat):Int) by omega)
theorem drof_l10 {r:(DSrc × Int × Int × Unit)->Option DrY} {n v2:Int} {B:Nat} (hr:∀ s,okS s->Okf (r (s,n,IntKind.i64.wrap (v2 - 1),())) (txP B)) (hB:B<=1000) (kx:DSrc->ByteArray->Option R) (Q:R->Prop):∀ (m k:Nat) (s:DSrc) (t:ByteArray),m < k->m<=3->okS s->1<=t.size->t.size + m * B<=4000 →
    (∀ s u,okS s->1<=u.size->u.size<=t.size + m * B->Okf (kx s u) Q)->Okf (s_l05DrawOf_l10 K r k s n v2 t (m:Int) kx) Q
  | _,0,_,_,h,_,_,_,_,_=>by omega
  | 0,k + 1,s,t,_,_,hs,h1,h2,hk=>by
    simp only [s_l05DrawOf_l10]
    rw [ite_f (by rfl)]
    exact hk s t hs h1 (by omega)
  | m + 1,k + 1,s,t,hm,h3,hs,h1,h2,hk=>by
    simp only [s_l05DrawOf_l10]
    rw [ite_t (decide_eq_true (by omega))]
    refine Okf.bind (hr s hs) fun y hy=>?_
    obtain ⟨y1,y2,y3⟩:=hy
    have e:(t ++ y.1.1).size=t.size + y.1.1.size:=by rw [ByteArray.size_append]
    rw [ite_t (decide_eq_true (by omega)),w64 (by omega) (by omega),show ((m + 1:Nat):Int) - 1=(m:Int) by omega]
    have hm1:(m + 1) * B=m * B + B:=Nat.succ_mul m B
    exact drof_l10 hr hB kx Q m k _ _ (by omega) (by omega) y1 (by omega) (by omega) fun s u hs h4 h5=>hk s u hs h4 (by omega)
theorem drof_ok {n:Int} (hn:n<=4) (hK:100<=K):∀ (d k:Nat) (s:DSrc),d < k->d<=3->okS s->Okf (s_l05DrawOf K k (s,n,(d:Int),())) (txP (bdD d))
  | _,0,_,h,_,_=>by omega
  | 0,k + 1,s,_,_,hs=>by
    rw [s_l05DrawOf]
    simp only [s_l05DrawOf_b]
    rw [ite_t (by rfl)]
    exact leaf_ok hs hn _ _ _ fun s t hs ht=>Okf.ret ⟨hs,by show 1<=t.size;omega,by show t.size<=1;omega⟩
  | d + 1,k + 1,s,hd,h3,hs=>by
    have hb1:=bdD_pos d
    have hb3:bdD d<=13:=by
      have:d=0\/d=1\/d=2:=by omega
      rcases this with rfl | rfl | rfl <;> decide
    have hleaf:∀ s,okS s->Okf (s_l05DrawOf_j3 K (s_l05DrawOf K k) K s n [(⟨#[48]⟩:ByteArray),(⟨#[49]⟩:ByteArray),(⟨#[97]⟩:ByteArray),(⟨#[98]⟩:ByteArray),(⟨#[99]⟩:ByteArray),(⟨#[100]⟩:ByteArray)] none (fun z15 z16=>some ((z16,()),(z15,())))) (txP (bdD (d + 1))):=fun s hs =>
      leaf_ok hs hn _ _ _ fun s t hs ht=>Okf.ret ⟨hs,by show 1<=t.size;omega,by show t.size<=_;rw [bdD];omega⟩
    rw [s_l05DrawOf]
    simp only [s_l05DrawOf_b]
    rw [ite_f (decide_eq_false (by omega))]
    refine Okf.bind (next_ok 5 hs) fun y14 h14=>?_
    refine Okf.ite (fun _=>hleaf _ h14.1) fun _=>?_
    simp only [s_l05DrawOf_j6]
    refine Okf.bind (next_ok 8 h14.1) fun y18 h18=>?_
    obtain ⟨q1,q2,_⟩:=h18
    obtain ⟨q3,q4⟩:=q2 (by decide)
    have hgate:∀ i:Nat,i < 8->∃ (c:UInt8) (m:Nat),[(⟨#[33]⟩:ByteArray),(⟨#[38]⟩:ByteArray),(⟨#[124]⟩:ByteArray),(⟨#[94]⟩:ByteArray),(⟨#[38]⟩:ByteArray),(⟨#[124]⟩:ByteArray),(⟨#[63]⟩:ByteArray),(⟨#[77]⟩:ByteArray)].getD i ByteArray.empty=toB [c]/\plcI ((c.toNat:Nat):Int)=(m:Int)/\m<=3:=by
      intro i hi
      have:i=0\/i=1\/i=2\/i=3\/i=4\/i=5\/i=6\/i=7:=by omega
      rcases this with rfl | rfl | rfl | rfl | rfl | rfl | rfl | rfl
      · exact ⟨33,1,rfl,by decide,by decide⟩
      · exact ⟨38,2,rfl,by decide,by decide⟩
      · exact ⟨124,2,rfl,by decide,by decide⟩
      · exact ⟨94,2,rfl,by decide,by decide⟩
      · exact ⟨38,2,rfl,by decide,by decide⟩
      · exact ⟨124,2,rfl,by decide,by decide⟩
      · exact ⟨63,3,rfl,by decide,by decide⟩
      · exact ⟨77,3,rfl,by decide,by decide⟩
    obtain ⟨c,m,g1,g2,g3⟩:=hgate y18.1.1.toNat (by omega)
    have hc0:byteAt (toB [c]) 0=((c.toNat:Nat):Int):=rfl
    have hs1:(toB [c]).size=1:=rfl
    have hmB:m * bdD d<=3 * bdD d:=Nat.mul_le_mul_right _ g3
    rw [g1,ite_t (c:=bnds y18.1.1 _) (bnds_t q3 (by simp only [List.length_cons,List.length_nil];omega)),ite_t (by rfl),hc0,s_places_eq,some_bind',g2]
    refine drof_l10 (K:=K) (B:=bdD d) (fun s hs=>?_) (by omega) _ _ m K _ _ (by omega) g3 q1 (by omega) (by omega) fun s u hs h4 h5=>Okf.ret ⟨hs,h4,?_⟩
    · rw [w64 (by omega) (by omega),show ((d + 1:Nat):Int) - 1=(d:Int) by omega]
      exact drof_ok hn hK d k s (by omega) (by omega) hs
    · show u.size<=1 + 3 * bdD d
      have:m * bdD d<=3 * bdD d:=Nat.mul_le_mul_right _ g3
      omega
def dyP (y:DrY):Prop:=okS y.2.1/\y.1.1.size<=100
theorem draw_l10 (v0:DSrc) (hs:okS v0) (kx:DSrc->ByteArray->Option R) (Q:R->Prop) (hk:∀ t,t.size<=100->Okf (kx v0 t) Q):∀ (m k:Nat) (t:ByteArray),61<=t.size + m->m < k->t.size<=100->Okf (s_l05Draw_l10 K k v0 t kx) Q
  | _,0,_,_,h,_=>by omega
  | m,k + 1,t,h,hk',ht=>by
    simp only [s_l05Draw_l10]
    refine Okf.ite (fun hc=>?_) fun _=>hk t ht
    have hc:=of_decide_eq_true hc
    have e:((⟨#[33]⟩:ByteArray) ++ t).size=1 + t.size:=by rw [ByteArray.size_append];rfl
    have e1:(⟨#[33]⟩:ByteArray).size=1:=rfl
    rw [ite_t (decide_eq_true (by omega))]
    cases m with
    | zero=>omega
    | succ m=>exact draw_l10 v0 hs kx Q hk m k _ (by omega) (by omega) (by omega)
theorem draw_ok {s:DSrc} (hs:okS s) (hK:100<=K):Okf (s_l05Draw K (s,())) dyP:=by
  simp only [s_l05Draw]
  refine Okf.bind (pick_ok hs (by simp)) fun y2 h2=>?_
  refine Okf.bind (pick_ok h2.1 (by simp)) fun y4 h4=>?_
  have hn:y2.1.1<=4:=by
    have:=h2.2
    simp only [List.mem_cons,List.not_mem_nil,or_false] at this
    omega
  obtain ⟨d,hd,hd3⟩:∃ d:Nat,y4.1.1=(d:Int)/\d<=3:=by
    have:=h4.2
    simp only [List.mem_cons,List.not_mem_nil,or_false] at this
    exact ⟨y4.1.1.toNat,by omega,by omega⟩
  rw [hd]
  refine Okf.bind (drof_ok hn hK d K _ (by omega) hd3 h4.1) fun y5 h5=>?_
  obtain ⟨a1,a2,a3⟩:=h5
  have h40:y5.1.1.size<=40:=by
    have:bdD d<=40:=by
      have:d=0\/d=1\/d=2\/d=3:=by omega
      rcases this with rfl | rfl | rfl | rfl <;> decide
    omega
  have e1:(⟨#[97]⟩:ByteArray).size=1:=rfl
  have e2:(⟨#[120]⟩:ByteArray).size=1:=rfl
  refine Okf.bind (next_ok 20 a1) fun y6 h6=>?_
  refine Okf.ite (fun _=>?_) fun _=>Okf.ret ⟨h6.1,by show y5.1.1.size<=100;omega⟩
  refine Okf.bind (next_ok 4 h6.1) fun y7 h7=>?_
  refine Okf.ite (fun _=>?_) fun _=>?_
  · rw [ite_t (decide_eq_true (by omega))]
    exact Okf.ret ⟨h7.1,by show (y5.1.1 ++ _).size<=100;rw [ByteArray.size_append];omega⟩
  refine Okf.ite (fun _=>?_) fun _=>?_
  · rw [ite_t (by rw [decide_eq_true (show (0:Int)<=1 by decide),decide_eq_true (show (1:Int)<=(y5.1.1.size:Int) by omega),decide_eq_true (Int.le_refl _)];rfl)]
    exact Okf.ret ⟨h7.1,by show (y5.1.1.extract _ _).size<=100;rw [ByteArray.size_extract];omega⟩
  refine Okf.ite (fun _=>?_) fun _=>?_
  · rw [ite_t (decide_eq_true (by omega))]
    exact Okf.ret ⟨h7.1,by show (_ ++ y5.1.1).size<=100;rw [ByteArray.size_append];omega⟩
  · exact draw_l10 y7.2.1 h7.1 _ _ (fun t ht=>Okf.ret ⟨h7.1,ht⟩) 61 K y5.1.1 (by omega) (by omega) (by omega)
theorem drawFunc_ok {code:List Int} (h:okCode code) (hK:4611686018427387904<=K):Okf (s_DrawFuncOfFormula K (code,())) (fun y=>y.2.1.size<=100):=by
  simp only [s_DrawFuncOfFormula]
  refine Okf.bind (from_ok h.len h.bytes hK) fun y1 h1=>?_
  refine Okf.bind (draw_ok h1 (by omega)) fun y2 h2=>?_
  have h100:=h2.2
  rw [s_most_eq (by omega) hK,some_bind',some_bind']
  refine Okf.bind (near_ok h2.1) fun y5 h5=>?_
  exact Okf.bind (pick_ok h5 (by simp)) fun y7 h7=>Okf.ret h2.2
def puP (y:(ByteArray × List ByteArray × Unit) × Unit):Prop:=y.1.1.size<=100/\y.1.2.1.length<=4/\∀ t ∈ y.1.2.1,t.size<=100
theorem drput_l4 (v5:ByteArray) (hK:100<=K) (kx:DSrc->ByteArray->List ByteArray->Option R) (Q:R->Prop) (hk:∀ s l,okS s->l.length=4->(∀ t ∈ l,t.size<=100)->Okf (kx s v5 l) Q):∀ (m i k:Nat) (s:DSrc) (l:List ByteArray),i + m=4->m < k->okS s->l.length=i->(∀ t ∈ l,t.size<=100) →
    Okf (s_DrawPutFormulas_l4 K k s v5 l (i:Int) kx) Q
  | _,_,0,_,_,_,h,_,_,_=>by omega
  | 0,i,k + 1,s,l,e,_,hs,hl,ht=>by
    simp only [s_DrawPutFormulas_l4]
    rw [ite_f (decide_eq_false (by omega))]
    exact hk s l hs (by omega) ht
  | m + 1,i,k + 1,s,l,e,hm,hs,hl,ht=>by
    have hlim:(1099511627776:Nat)=lim:=rfl
    simp only [s_DrawPutFormulas_l4]
    rw [ite_t (decide_eq_true (by omega))]
    refine Okf.bind (pick_ok hs (by simp)) fun y7 h7=>?_
    obtain ⟨d,hd,hd3⟩:∃ d:Nat,y7.1.1=(d:Int)/\d<=3:=by
      have:=h7.2
      simp only [List.mem_cons,List.not_mem_nil,or_false] at this
      exact ⟨y7.1.1.toNat,by omega,by omega⟩
    rw [hd]
    refine Okf.bind (drof_ok (Int.le_refl 4) hK d K _ (by omega) hd3 h7.1) fun y8 h8=>?_
    obtain ⟨a1,a2,a3⟩:=h8
    have:bdD d<=40:=by
      have:d=0\/d=1\/d=2\/d=3:=by omega
      rcases this with rfl | rfl | rfl | rfl <;> decide
    rw [ite_t (decide_eq_true (by simp only [List.length_cons,List.length_nil];omega)),w64s (by omega)]
    refine drput_l4 v5 hK kx Q hk m (i + 1) k _ _ (by omega) (by omega) a1 (by simp [hl]) fun t hm=>?_
    rcases List.mem_append.1 hm with hm | hm
    · exact ht t hm
    · rw [List.mem_singleton.1 hm];omega
theorem drawPut_ok {code:List Int} (h:okCode code) (hK:4611686018427387904<=K):Okf (s_DrawPutFormulas K (code,())) puP:=by
  simp only [s_DrawPutFormulas,s_DrawPutFormulas_j14]
  refine Okf.bind (from_ok h.len h.bytes hK) fun y1 h1=>?_
  refine Okf.bind (pick_ok h1 (by simp)) fun y3 h3=>?_
  obtain ⟨d,hd,hd3⟩:∃ d:Nat,y3.1.1=(d:Int)/\d<=3:=by
    have:=h3.2
    simp only [List.mem_cons,List.not_mem_nil,or_false] at this
    exact ⟨y3.1.1.toNat,by omega,by omega⟩
  rw [hd]
  refine Okf.bind (drof_ok (Int.le_refl 4) (by omega) d K _ (by omega) hd3 h3.1) fun y4 h4=>?_
  obtain ⟨a1,a2,a3⟩:=h4
  have h40:y4.1.1.size<=100:=by
    have:bdD d<=40:=by
      have:d=0\/d=1\/d=2\/d=3:=by omega
      rcases this with rfl | rfl | rfl | rfl <;> decide
    omega
  refine drput_l4 y4.1.1 (by omega) _ _ (fun s l hs hl ht=>?_) 4 0 K y4.2.1 [] (by omega) (by omega) a1 rfl (fun t h=>by cases h)
  refine Okf.bind (next_ok 20 hs) fun y13 h13=>?_
  refine Okf.ite (fun _=>?_) fun _=>?_
  · rw [ite_t (by rw [hl];rfl)]
    refine Okf.ret ⟨h40,?_,fun t hm=>ht t ?_⟩
    · show (sliceL l 0 (0 + (3 - 0))).length<=4
      simp only [sliceL,List.length_drop,List.length_take];omega
    · exact List.mem_of_mem_take (List.mem_of_mem_drop hm)
  refine Okf.ite (fun _=>?_) fun _=>?_
  · refine Okf.bind (next_ok 4 h13.1) fun y16 h16=>?_
    refine Okf.bind (draw_ok h16.1 (by omega)) fun y17 h17=>?_
    obtain ⟨q3,q4⟩:=h16.2.1 (by decide)
    rw [ite_t (bnds_t q3 (by omega))]
    refine Okf.ret ⟨h40,by show (l.set _ _).length<=4;rw [List.length_set];omega,fun t hm=>?_⟩
    rcases List.mem_or_eq_of_mem_set hm with hm | hm
    · exact ht t hm
    · rw [hm];exact h17.2
  refine Okf.ite (fun _=>?_) fun _=>?_
  · exact Okf.bind (draw_ok h13.1 (by omega)) fun y21 h21=>Okf.ret ⟨h21.2,by show l.length<=4;omega,ht⟩
  · exact Okf.ret ⟨h40,by show l.length<=4;omega,ht⟩
theorem drdual_l6 (kx:ByteArray->Option R) (Q:R->Prop) (hk:∀ t,t.size<=100->Okf (kx t) Q):∀ (m k:Nat) (t:ByteArray),m < k->t.size + 2 * m<=100->Okf (s_DrawDualFormula_l6 K k t (m:Int) kx) Q
  | _,0,_,h,_=>by omega
  | 0,k + 1,t,_,h=>by
    simp only [s_DrawDualFormula_l6]
    rw [ite_f (by rfl)]
    exact hk t (by omega)
  | m + 1,k + 1,t,hm,h=>by
    have e1:(⟨#[94,98]⟩:ByteArray).size=2:=rfl
    simp only [s_DrawDualFormula_l6]
    rw [ite_t (decide_eq_true (by omega)),ite_t (decide_eq_true (by omega)),w64 (by omega) (by omega),show ((m + 1:Nat):Int) - 1=(m:Int) by omega]
    exact drdual_l6 kx Q hk m k _ (by omega) (by rw [ByteArray.size_append];omega)
theorem drawDual_ok {code:List Int} (h:okCode code) (hK:4611686018427387904<=K):Okf (s_DrawDualFormula K (code,())) (fun y=>y.size<=100):=by
  simp only [s_DrawDualFormula]
  refine Okf.bind (from_ok h.len h.bytes hK) fun y1 h1=>?_
  refine Okf.bind (draw_ok h1 (by omega)) fun y2 h2=>?_
  refine Okf.bind (next_ok 12 h2.1) fun y3 h3=>?_
  refine Okf.ite (fun _=>?_) fun _=>Okf.ret h2.2
  refine Okf.bind (next_ok 30 h3.1) fun y4 h4=>?_
  obtain ⟨q3,q4⟩:=h4.2.1 (by decide)
  obtain ⟨m,hm⟩:=Int.eq_ofNat_of_zero_le q3
  have e1:(⟨#[97]⟩:ByteArray).size=1:=rfl
  rw [hm]
  exact drdual_l6 _ _ (fun t ht=>Okf.ret ht) m K _ (by omega) (by omega)
theorem drawParts_ok {code:List Int} (h:okCode code) (hK:4611686018427387904<=K):Okf (s_DrawPartsOfFormula K (code,())) (fun y=>y.size<=100):=by
  simp only [s_DrawPartsOfFormula]
  refine Okf.bind (from_ok h.len h.bytes hK) fun y1 h1=>?_
  exact Okf.bind (draw_ok h1 (by omega)) fun y2 h2=>Okf.ret h2.2
theorem drawVars_ok {code:List Int} (h:okCode code) (hK:4611686018427387904<=K):Okf (s_DrawVariablesOfFormula K (code,())) (fun y=>y.size<=100):=by
  simp only [s_DrawVariablesOfFormula]
  refine Okf.bind (from_ok h.len h.bytes hK) fun y1 h1=>?_
  exact Okf.bind (draw_ok h1 (by omega)) fun y2 h2=>Okf.ret h2.2
end Go.Proofs.YtefmjjpdflpnaaaGreat.E
namespace Go.Proofs.YtefmjjpdflpnaaaGreat.E
open Go Go.Proofs Go.Proofs.YtefmjjpdflpnaaaGreat
set_option maxRecDepth 100000
set_option linter.unusedVariables false
noncomputable def as_w_big:Ty:=(.pair (.sl (.int .u8)) .unit)
noncomputable def sp_w_big (F:((List Int) × Unit)->Option Bool):FnSpec:=⟨as_w_big,[false],.bool,F⟩
noncomputable def w_big (K:Nat) (x:((List Int) × Unit)):Option Bool :=
    some (decide ((x.1.length:Int) > (4096:Int)))
noncomputable def rv_w_big:Lv:=[(2,(.v .bool))]
theorem ok_w_big (K:Nat):FnOk Tryz.prog 4 (sp_w_big (w_big K)) :=
  fn_okD tysOk [] 0 [] [] rv_w_big K Tryz.func4 (by kernel_rfl) trivial (fun _=>by kernel_rfl)
noncomputable def C_w_big (K:Nat):CB Tryz.prog:=.f _ _ (ok_w_big K)
noncomputable def as_w_texts5:Ty:=(.pair (.sl .str) (.pair (.sl .str) .unit))
noncomputable def sp_w_texts5 (F:((List ByteArray) × (List ByteArray) × Unit)->Option Bool):FnSpec:=⟨as_w_texts5,[false,false],.bool,F⟩
noncomputable def w_texts5_l4 {R:Type} (K:Nat):Nat->(List ByteArray)->(List ByteArray)->Int->(Option R)->(Bool->Option R)->Option R
  | 0,_,_,_,_,_=>none
  | k + 1,v0,v1,v5,kx0,kr =>
    (if (decide (v5 < (v0.length:Int)))=true then
    (if (bnds v5 (v0.length:Int))=true then
    (if (bnds v5 (v1.length:Int))=true then
    let x1:=(cmpS .neq (v0.getD v5.toNat ByteArray.empty) (v1.getD v5.toNat ByteArray.empty))
    (if x1=true then
    kr false
    else
    w_texts5_l4 K k v0 v1 (IntKind.i64.wrap (v5 + (1:Int))) kx0 kr)
    else
    none)
    else
    none)
    else
    kx0)
noncomputable def w_texts5 (K:Nat) (x:((List ByteArray) × (List ByteArray) × Unit)):Option Bool :=
    (if (!decide ((x.1.length:Int)=(x.2.1.length:Int)))=true then
    some false
    else
    w_texts5_l4 K K x.1 x.2.1 (0:Int) (some true) (fun z2 =>
    some z2))
noncomputable def X0_w_texts5:Lv:=[]
noncomputable def rv_w_texts5:Lv:=[(4,(.v .bool))]
noncomputable def D_w_texts5 (K:Nat):List (PD (den .bool)):=[.L 4 [(0,(.v (.sl .str))),(1,(.v (.sl .str))),(5,(.v (.int .i64)))] [] (fun k x kx kr=>w_texts5_l4 K k x.1 x.2.1 x.2.2.1 (kx 0 (mkSt X0_w_texts5 ())) (fun z0=>kr (mkSt rv_w_texts5 (z0,()))))]
theorem ok_w_texts5 (K:Nat):FnOk Tryz.prog 28 (sp_w_texts5 (w_texts5 K)) :=
  fn_okD tysOk [] 0 (D_w_texts5 K) [(0,X0_w_texts5)] rv_w_texts5 K Tryz.func28 (by kernel_rfl) ⟨⟨fun _ _ _ _=>by kernel_rfl,fun _ _ _=>rfl⟩,trivial⟩ (fun _=>by kernel_rfl)
noncomputable def C_w_texts5 (K:Nat):CB Tryz.prog:=.f _ _ (ok_w_texts5 K)
noncomputable def as_w_FnFormulas:Ty:=(.pair (.sl (.int .u8)) .unit)
noncomputable def sp_w_FnFormulas (F:((List Int) × Unit)->Option Bool):FnSpec:=⟨as_w_FnFormulas,[false],.bool,F⟩
noncomputable def w_FnFormulas_l22 {R:Type} (K:Nat):Nat->(List Int)->(List ByteArray)->Int->Int->Int->((List Int)->(List ByteArray)->Int->Int->Option R)->(Bool->Option R)->Option R
  | 0,_,_,_,_,_,_,_=>none
  | k + 1,v0,v15,v17,v21,v22,kx0,kr =>
    (if (decide (v22 < (v15.length:Int)))=true then
    (if (bnds v22 (v15.length:Int))=true then
    (i_SizeOfFormula K ((v15.getD v22.toNat ByteArray.empty),())).bind fun y15 =>
    (if (!decide (y15.2.1=(0:Int)))=true then
    kr false
    else
    w_FnFormulas_l22 K k v0 v15 v17 (IntKind.i64.wrap (v21 + y15.1)) (IntKind.i64.wrap (v22 + (1:Int))) kx0 kr)
    else
    none)
    else
    kx0 v0 v15 v17 v21)
noncomputable def w_FnFormulas_j20 {R:Type} (K:Nat) (k:Nat) (v0:(List Int)) (v15:(List ByteArray)) (v17:Int) (kn:(List Int)->Option R) (kr:(Bool->Option R)):Option R :=
    w_FnFormulas_l22 K k v0 v15 v17 (0:Int) (0:Int) (fun z16 z17 z18 z19 =>
    (if (decide ((z17.length:Int) > (0:Int)))=true then
    (if (!decide ((IntKind.i64.wrap (z19 + (1:Int)))=z18))=true then
    kr false
    else
    (if (decide ((z17.length:Int)=(0:Int)))=true then
    (if (!decide (z18=(0:Int)))=true then
    kr false
    else
    kn z16)
    else
    kn z16))
    else
    (if (decide ((z17.length:Int)=(0:Int)))=true then
    (if (!decide (z18=(0:Int)))=true then
    kr false
    else
    kn z16)
    else
    kn z16))) (fun z20 =>
    kr z20)
noncomputable def w_FnFormulas_j15 {R:Type} (K:Nat) (k:Nat) (v0:(List Int)) (v4:ByteArray) (kn:(List Int)->Option R) (kr:(Bool->Option R)):Option R :=
    (i_PartsOfFormula K (v4,())).bind fun y12 =>
    (i_SizeOfFormula K (v4,())).bind fun y13 =>
    (i_DepthOfFormula K (v4,())).bind fun y14 =>
    (if (!decide (y12.2.1=(0:Int)))=true then
    kr false
    else
    (if (!decide (y13.2.1=(0:Int)))=true then
    kr false
    else
    (if (!decide (y14.2.1=(0:Int)))=true then
    kr false
    else
    (if (decide (y14.1 > y13.1))=true then
    kr false
    else
    w_FnFormulas_j20 K k v0 y12.1 y13.1 (fun z21 =>
    kn z21) (fun z22 =>
    kr z22)))))
noncomputable def w_FnFormulas_l40 {R:Type} (K:Nat):Nat->(List Int)->(List ByteArray)->dq0->Int->dq0->Int->(List dq0)->Int->((List Int)->dq0->Int->dq0->Int->(List dq0)->Option R)->(Bool->Option R)->Option R
  | 0,_,_,_,_,_,_,_,_,_,_=>none
  | k + 1,v0,v26,v31,v32,v33,v34,v35,v36,kx2,kr =>
    (if (decide (v36 < (4:Int)))=true then
    (if (bnds v36 (v26.length:Int))=true then
    (i_FuncOfFormula K ((4:Int),(v26.getD v36.toNat ByteArray.empty),())).bind fun y30 =>
    (if (!decide (y30.2.1=(0:Int)))=true then
    kr false
    else
    (if (decide (v35.length + ([y30.1]).length<=lim))=true then
    let l31:=(v35 ++ [y30.1])
    w_FnFormulas_l40 K k v0 v26 v31 v32 v33 v34 l31 (IntKind.i64.wrap (v36 + (1:Int))) kx2 kr
    else
    none))
    else
    none)
    else
    kx2 v0 v31 v32 v33 v34 v35)
noncomputable def w_FnFormulas_j49 {R:Type} (K:Nat) (k:Nat) (v0:(List Int)) (kn:Option R) (kr:(Bool->Option R)):Option R :=
    (s_DrawDualFormula K (v0,())).bind fun y40 =>
    (i_DualFormula K (y40,())).bind fun y41 =>
    (s_DualFormula K (y40,())).bind fun y42 =>
    (s_DrawPartsOfFormula K (v0,())).bind fun y43 =>
    (i_PartsOfFormula K (y43,())).bind fun y44 =>
    (s_PartsOfFormula K (y43,())).bind fun y45 =>
    (s_DrawVariablesOfFormula K (v0,())).bind fun y46 =>
    (i_VariablesOfFormula K (y46,())).bind fun y47 =>
    (s_VariablesOfFormula K (y46,())).bind fun y48 =>
    (i_SizeOfFormula K (y46,())).bind fun y49 =>
    (s_SizeOfFormula K (y46,())).bind fun y50 =>
    (i_DepthOfFormula K (y46,())).bind fun y51 =>
    (s_DepthOfFormula K (y46,())).bind fun y52 =>
    (if (decide (y41.2.1=y42.2.1))=true then
    (if (cmpS .eql y41.1 y42.1)=true then
    (if (decide (y44.2.1=y45.2.1))=true then
    (w_texts5 K (y44.1,y45.1,())).bind fun y53 =>
    (if y53=true then
    (if (decide (y47.2.1=y48.2.1))=true then
    (w_likeInts K (y47.1,y48.1,())).bind fun y54 =>
    (if y54=true then
    (if (decide (y49.2.1=y50.2.1))=true then
    (if (decide (y49.1=y50.1))=true then
    (if (decide (y51.2.1=y52.2.1))=true then
    kr (decide (y51.1=y52.1))
    else
    kr false)
    else
    kr false)
    else
    kr false)
    else
    kr false)
    else
    kr false)
    else
    kr false)
    else
    kr false)
    else
    kr false)
    else
    kr false)
noncomputable def w_FnFormulas_j35 {R:Type} (K:Nat) (k:Nat) (v0:(List Int)) (v25:ByteArray) (v26:(List ByteArray)) (v27:ByteArray) (v28:Int) (kn:Option R) (kr:(Bool->Option R)):Option R :=
    (if (decide (v28=(0:Int)))=true then
    (i_FuncOfFormula K ((4:Int),v27,())).bind fun y27 =>
    (i_FuncOfFormula K ((4:Int),v25,())).bind fun y28 =>
    let l29:=([]:List dq0)
    w_FnFormulas_l40 K k v0 v26 y27.1 y27.2.1 y28.1 y28.2.1 l29 (0:Int) (fun z32 z33 z34 z35 z36 z37 =>
    (i_PutFuncs K (z35,z37,())).bind fun y38 =>
    (if (!decide (z34=(0:Int)))=true then
    kr false
    else
    (if (!decide (z36=(0:Int)))=true then
    kr false
    else
    (if (!decide (y38.2.1=(0:Int)))=true then
    kr false
    else
    let x39:=(!(eqD (.pair (.int .i64) (.pair (.int .i64) .unit)) z33 y38.1))
    (if x39=true then
    kr false
    else
    w_FnFormulas_j49 K k z32 none (fun z55 =>
    kr z55)))))) (fun z56 =>
    kr z56)
    else
    w_FnFormulas_j49 K k v0 none (fun z57 =>
    kr z57))
noncomputable def w_FnFormulas_j30 {R:Type} (K:Nat) (k:Nat) (v0:(List Int)) (kn:Option R) (kr:(Bool->Option R)):Option R :=
    (s_DrawPutFormulas K (v0,())).bind fun y24 =>
    (i_PutFormulas K (y24.1.1,y24.1.2.1,())).bind fun y25 =>
    (s_PutFormulas K (y24.1.1,y24.1.2.1,())).bind fun y26 =>
    (if (!decide (y25.2.1=y26.2.1))=true then
    kr false
    else
    (if (cmpS .neq y25.1 y26.1)=true then
    kr false
    else
    w_FnFormulas_j35 K k v0 y24.1.1 y24.1.2.1 y25.1 y25.2.1 none (fun z58 =>
    kr z58)))
noncomputable def w_FnFormulas_j8 {R:Type} (K:Nat) (k:Nat) (v0:(List Int)) (v3:Int) (v4:ByteArray) (v5:dq0) (v6:Int) (kn:Option R) (kr:(Bool->Option R)):Option R :=
    (if (decide (v6=(0:Int)))=true then
    (i_DualFormula K (v4,())).bind fun y8 =>
    (if (decide (y8.2.1=(0:Int)))=true then
    (i_FuncOfFormula K (v3,y8.1,())).bind fun y9 =>
    (i_DualOf K (v5,())).bind fun y10 =>
    (if (!decide (y9.2.1=(0:Int)))=true then
    kr false
    else
    (if (!decide (y10.2.1=(0:Int)))=true then
    kr false
    else
    let x11:=(!(eqD (.pair (.int .i64) (.pair (.int .i64) .unit)) y9.1 y10.1))
    (if x11=true then
    kr false
    else
    w_FnFormulas_j15 K k v0 v4 (fun z23 =>
    w_FnFormulas_j30 K k z23 none (fun z59 =>
    kr z59)) (fun z60 =>
    kr z60))))
    else
    w_FnFormulas_j15 K k v0 v4 (fun z61 =>
    w_FnFormulas_j30 K k z61 none (fun z62 =>
    kr z62)) (fun z63 =>
    kr z63))
    else
    w_FnFormulas_j30 K k v0 none (fun z64 =>
    kr z64))
noncomputable def w_FnFormulas (K:Nat) (x:((List Int) × Unit)):Option Bool :=
    (w_big K (x.1,())).bind fun y1 =>
    (if y1=true then
    some true
    else
    (s_DrawFuncOfFormula K (x.1,())).bind fun y2 =>
    (i_FuncOfFormula K (y2.1,y2.2.1,())).bind fun y3 =>
    (s_FuncOfFormula K (y2.1,y2.2.1,())).bind fun y4 =>
    (if (!decide (y3.2.1=y4.2.1))=true then
    some false
    else
    let x5:=(!(eqD (.pair (.int .i64) (.pair (.int .i64) .unit)) y3.1 y4.1))
    (if x5=true then
    some false
    else
    (i_IsFormula K (y2.2.1,())).bind fun y6 =>
    (s_IsFormula K (y2.2.1,())).bind fun y7 =>
    (if (!(y6 == y7))=true then
    some false
    else
    w_FnFormulas_j8 K K x.1 y2.1 y2.2.1 y3.1 y3.2.1 none (fun z65 =>
    some z65)))))
noncomputable def X0_w_FnFormulas:Lv:=[(0,(.v (.sl (.int .u8)))),(15,(.r .str)),(17,(.v (.int .i64))),(21,(.v (.int .i64)))]
noncomputable def X2_w_FnFormulas:Lv:=[(0,(.v (.sl (.int .u8)))),(31,(.bx (.v tq0))),(32,(.v (.int .i64))),(33,(.bx (.v tq0))),(34,(.v (.int .i64))),(35,(.r tq0))]
noncomputable def rv_w_FnFormulas:Lv:=[(2,(.v .bool))]
noncomputable def D_w_FnFormulas (K:Nat):List (PD (den .bool)):=[.J 8 [(0,(.v (.sl (.int .u8)))),(3,(.v (.int .i64))),(4,(.v .str)),(5,(.bx (.v tq0))),(6,(.v (.int .i64)))] [] 0 (fun k x kn kx kr=>w_FnFormulas_j8 K k x.1 x.2.1 x.2.2.1 x.2.2.2.1 x.2.2.2.2.1 (kn ()) (fun z0=>kr (mkSt rv_w_FnFormulas (z0,())))),
  .J 15 [(0,(.v (.sl (.int .u8)))),(4,(.v .str))] [(0,(.v (.sl (.int .u8))))] 0 (fun k x kn kx kr=>w_FnFormulas_j15 K k x.1 x.2.1 (fun z0=>kn (z0,())) (fun z0=>kr (mkSt rv_w_FnFormulas (z0,())))),
  .J 20 [(0,(.v (.sl (.int .u8)))),(15,(.r .str)),(17,(.v (.int .i64)))] [(0,(.v (.sl (.int .u8))))] 0 (fun k x kn kx kr=>w_FnFormulas_j20 K k x.1 x.2.1 x.2.2.1 (fun z0=>kn (z0,())) (fun z0=>kr (mkSt rv_w_FnFormulas (z0,())))),
  .L 22 [(0,(.v (.sl (.int .u8)))),(15,(.r .str)),(17,(.v (.int .i64))),(21,(.v (.int .i64))),(22,(.v (.int .i64)))] [] (fun k x kx kr=>w_FnFormulas_l22 K k x.1 x.2.1 x.2.2.1 x.2.2.2.1 x.2.2.2.2.1 (fun z0 z1 z2 z3=>kx 0 (mkSt X0_w_FnFormulas (z0,z1,z2,z3,()))) (fun z0=>kr (mkSt rv_w_FnFormulas (z0,())))),
  .J 30 [(0,(.v (.sl (.int .u8))))] [] 0 (fun k x kn kx kr=>w_FnFormulas_j30 K k x.1 (kn ()) (fun z0=>kr (mkSt rv_w_FnFormulas (z0,())))),
  .J 35 [(0,(.v (.sl (.int .u8)))),(25,(.v .str)),(26,(.v (.sl .str))),(27,(.v .str)),(28,(.v (.int .i64)))] [] 0 (fun k x kn kx kr=>w_FnFormulas_j35 K k x.1 x.2.1 x.2.2.1 x.2.2.2.1 x.2.2.2.2.1 (kn ()) (fun z0=>kr (mkSt rv_w_FnFormulas (z0,())))),
  .L 40 [(0,(.v (.sl (.int .u8)))),(26,(.v (.sl .str))),(31,(.bx (.v tq0))),(32,(.v (.int .i64))),(33,(.bx (.v tq0))),(34,(.v (.int .i64))),(35,(.r tq0)),(36,(.v (.int .i64)))] [] (fun k x kx kr=>w_FnFormulas_l40 K k x.1 x.2.1 x.2.2.1 x.2.2.2.1 x.2.2.2.2.1 x.2.2.2.2.2.1 x.2.2.2.2.2.2.1 x.2.2.2.2.2.2.2.1 (fun z0 z1 z2 z3 z4 z5=>kx 2 (mkSt X2_w_FnFormulas (z0,z1,z2,z3,z4,z5,()))) (fun z0=>kr (mkSt rv_w_FnFormulas (z0,())))),
  .J 49 [(0,(.v (.sl (.int .u8))))] [] 0 (fun k x kn kx kr=>w_FnFormulas_j49 K k x.1 (kn ()) (fun z0=>kr (mkSt rv_w_FnFormulas (z0,()))))]
theorem ok_w_FnFormulas (K:Nat):FnOk Tryz.prog 3 (sp_w_FnFormulas (w_FnFormulas K)) :=
  fn_okD tysOk [C_w_big K,C_s_DrawFuncOfFormula K,C_i_FuncOfFormula K,C_s_FuncOfFormula K,C_i_IsFormula K,C_s_IsFormula K,C_i_DualFormula K,C_i_DualOf K,C_i_PartsOfFormula K,C_i_SizeOfFormula K,C_i_DepthOfFormula K,C_s_DrawPutFormulas K,C_i_PutFormulas K,C_s_PutFormulas K,C_i_PutFuncs K,C_s_DrawDualFormula K,C_s_DualFormula K,C_s_DrawPartsOfFormula K,C_s_PartsOfFormula K,C_s_DrawVariablesOfFormula K,C_i_VariablesOfFormula K,C_s_VariablesOfFormula K,C_s_SizeOfFormula K,C_s_DepthOfFormula K,C_w_texts5 K,C_w_likeInts K] 0 (D_w_FnFormulas K) [(0,X0_w_FnFormulas),(2,X2_w_FnFormulas)] rv_w_FnFormulas K Tryz.func3 (by kernel_rfl) ⟨fun _ _ _ _ _=>by kernel_rfl,⟨fun _ _ _ _ _=>by kernel_rfl,⟨fun _ _ _ _ _=>by kernel_rfl,⟨⟨fun _ _ _ _=>by kernel_rfl,fun _ _ _=>rfl⟩,⟨fun _ _ _ _ _=>by kernel_rfl,⟨fun _ _ _ _ _=>by kernel_rfl,⟨⟨fun _ _ _ _=>by kernel_rfl,fun _ _ _=>rfl⟩,⟨fun _ _ _ _ _=>by kernel_rfl,trivial⟩⟩⟩⟩⟩⟩⟩⟩ (fun _=>by kernel_rfl)
end Go.Proofs.YtefmjjpdflpnaaaGreat.E
namespace Go.Proofs.YtefmjjpdflpnaaaGreat.E
open Go Go.Proofs
set_option linter.unusedVariables false
set_option linter.unusedSimpArgs false
set_option maxRecDepth 100000
variable {K:Nat} {R:Type}
/-! the law of formulas -/
theorem eqD_same (x:DF):eqD (.pair (.int .i64) (.pair (.int .i64) .unit)) x x=true:=by simp [eqD]
theorem texts_l (l:List ByteArray) (hl:l.length < 4611686018427387904) (kx:Option R) (kr:Bool->Option R):∀ (r p:List ByteArray) (k:Nat),l=p ++ r->r.length < k->w_texts5_l4 K k l l (p.length:Int) kx kr=kx
  | _,_,0,_,h=>by omega
  | [],p,k + 1,h,_=>by subst h;simp only [w_texts5_l4];rw [ite_f nlt_len]
  | y :: r,p,k + 1,h,hk=>by
    subst h
    simp only [w_texts5_l4]
    rw [ite_t lt_len,ite_t bnds_mid,ite_t bnds_mid,getD_midI,ite_f (show cmpS .neq y y=false by simp [cmpS]),next_i hl]
    exact texts_l _ hl kx kr r (p ++ [y]) k (mid_app p r y) (by simp at hk;omega)
theorem texts_same {l:List ByteArray} (hl:l.length < 4611686018427387904) (hK:4611686018427387904<=K):w_texts5 K (l,l,())=some true:=by
  simp only [w_texts5]
  rw [ite_f (by simp)]
  exact texts_l l hl _ _ l [] K rfl (by omega)
theorem partsV_len (L:List UInt8) (h:L.length<=1000):(partsV L).1.length<=1000:=by
  unfold partsV
  cases e:rdT L with
  | none=>exact Nat.zero_le _
  | some f =>
    obtain ⟨c,ps⟩:=f
    obtain ⟨h1,h2,_,_⟩:=rdT_all 0 e
    rw [szF] at h1
    have:=len_sz ps
    show (ps.map btT).length<=1000
    rw [List.length_map];omega
theorem varsL_len (L:List UInt8):∀ (m p:Nat) (acc:List Int),(varsL L m p acc).length<=acc.length + m
  | 0,_,acc=>Nat.le_refl _
  | m + 1,p,acc=>by
    rw [varsL]
    have:=varsL_len L m (p + 1) (if hasV L p=true then acc ++ [(p:Int)] else acc)
    refine Nat.le_trans this ?_
    split
    · rw [List.length_append];simp;omega
    · omega
theorem varsV_len (L:List UInt8):(varsV L).1.length<=4:=by
  unfold varsV
  split
  · have:=varsL_len L 4 0 []
    exact this
  · exact Nat.zero_le _
theorem j49_eq {code:List Int} (h:okCode code) (k:Nat) (kn:Option R) (kr:Bool->Option R):w_FnFormulas_j49 BKf k code kn kr=kr true:=by
  have hK:=BKf_ge
  obtain ⟨t1,e1,s1⟩:=drawDual_ok (K:=BKf) h hK
  obtain ⟨t2,e2,s2⟩:=drawParts_ok (K:=BKf) h hK
  obtain ⟨t3,e3,s3⟩:=drawVars_ok (K:=BKf) h hK
  have z2:=size_tl t2
  have hp:=partsV_len t2.data.toList (by omega)
  have hv:=varsV_len t3.data.toList
  simp only [w_FnFormulas_j49]
  rw [e1,some_bind',idual_eq hK,some_bind',sdual_eq (by omega) hK,some_bind',e2,some_bind',iparts_eq hK,some_bind',sparts_eq (by omega) hK,some_bind',e3,some_bind',ivars_eq (by omega),some_bind',svars_eq (by omega) hK,some_bind',isize_eq hK,some_bind',ssz_eq (by omega) hK,some_bind',idepth_eq hK,some_bind',sdp_eq (by omega) hK,some_bind',
    ite_t (decide_eq_true rfl),ite_t ((eql_iff _ _).2 rfl),ite_t (decide_eq_true rfl),texts_same (by omega) hK,some_bind',ite_t rfl,ite_t (decide_eq_true rfl),w_likeInts_refl (by omega) hK,some_bind',ite_t rfl,ite_t (decide_eq_true rfl),ite_t (decide_eq_true rfl),ite_t (decide_eq_true rfl),decide_eq_true rfl]
theorem fof4 {t:ByteArray} {f:FrB} (h:rdT t.data.toList=some f) (hs:t.size<=1000):i_FuncOfFormula BKf ((4:Int),t,())=some (fN 4 (ofF 4 f),0,()):=by
  rw [i_fof_eq 4 (by omega),fofV,h]
  show some (if (0:Int)<=4/\(4:Int)<=4 then _ else _)=_
  rw [if_pos (by decide),if_pos (vars4 _)];rfl
theorem all_texts:∀ {ts:List ByteArray},ts.all isT=true->∃ Fs,ts=Fs.map btT/\wfL Fs/\∀ f ∈ Fs,szF f<=60
  | [],_=>⟨[],rfl,by rw [wfL];trivial,fun f h=>by cases h⟩
  | t :: ts,h=>by
    rw [List.all_cons,Bool.and_eq_true] at h
    obtain ⟨Fs,rfl,h2,h3⟩:=all_texts h.2
    have h1:=h.1
    unfold isT at h1
    cases e:rdT t.data.toList with
    | none=>rw [e] at h1;cases h1
    | some f =>
      obtain ⟨rfl,q2,q3⟩:=text_of e
      refine ⟨f :: Fs,rfl,by rw [wfL];exact ⟨q2,h2⟩,fun g hg=>?_⟩
      rcases List.mem_cons.1 hg with rfl | hg
      · exact q3
      · exact h3 g hg
theorem rd_bt {f:FrB} (hw:wfF f) (h:szF f<=60):rdT (btT f).data.toList=some f:=by
  rw [btT,toB_l];exact rdT_bt hw h
theorem l40_eq {code:List Int} {Fs:List FrB} (hw:wfL Fs) (h60:∀ f ∈ Fs,szF f<=60) (v31 v33:DF) (v32 v34:Int) (kx:List Int->DF->Int->DF->Int->List DF->Option R) (kr:Bool->Option R) (h4:Fs.length=4):∀ (q p:List FrB) (k:Nat),Fs=p ++ q->q.length < k →
    w_FnFormulas_l40 BKf k code (Fs.map btT) v31 v32 v33 v34 (fnsN 4 (p.map (ofF 4))) (p.length:Int) kx kr=kx code v31 v32 v33 v34 (fnsN 4 (Fs.map (ofF 4)))
  | _,_,0,_,h=>by omega
  | [],p,k + 1,h,_=>by
    subst h
    simp only [w_FnFormulas_l40]
    simp only [List.append_nil] at h4 ⊢
    rw [ite_f (decide_eq_false (by omega))]
  | y :: q,p,k + 1,h,hk=>by
    subst h
    have hlim:(1099511627776:Nat)=lim:=rfl
    have hlen:(p ++ y :: q).length=p.length + (q.length + 1):=by simp
    have hy:=h60 y (by simp)
    have hwy:=wf_mem hw (show y ∈ p ++ y :: q by simp)
    have hg:((p ++ y :: q).map btT).getD ((p.length:Nat):Int).toNat ByteArray.empty=btT y:=by
      rw [List.map_append,List.map_cons,show p.length=(p.map btT).length by rw [List.length_map]];exact getD_midI _ _ _ _
    have ih:=l40_eq (code:=code) hw h60 v31 v33 v32 v34 kx kr h4 q (p ++ [y]) k (by simp) (by simp at hk;omega)
    simp only [w_FnFormulas_l40]
    rw [ite_t (decide_eq_true (by omega)),List.length_map,ite_t bnds_mid,hg,fof4 (rd_bt hwy hy) (by rw [btT_size];omega),some_bind',ite_f (by rfl),ite_t (decide_eq_true (by rw [fns_len,List.length_map];simp only [List.length_cons,List.length_nil];omega)),w64s (by omega)]
    have e:fnsN 4 (p.map (ofF 4)) ++ [fN 4 (ofF 4 y)]=fnsN 4 ((p ++ [y]).map (ofF 4)):=by rw [fns_snoc,List.map_append];rfl
    show w_FnFormulas_l40 BKf k code _ v31 v32 v33 v34 (fnsN 4 (p.map (ofF 4)) ++ [fN 4 (ofF 4 y)]) _ kx kr=_
    rw [e,<-snoc_len p y,ih]
theorem j35_eq {code:List Int} (h:okCode code) {t:ByteArray} {ts:List ByteArray} (k:Nat) (hk:1000<=k) (kn:Option R) (kr:Bool->Option R):w_FnFormulas_j35 BKf k code t ts (putV t ts).1 (putV t ts).2.1 kn kr=kr true:=by
  have hK:=BKf_ge
  simp only [w_FnFormulas_j35]
  by_cases h0:(putV t ts).2.1=0
  · rw [ite_t (decide_eq_true h0)]
    unfold putV at h0 ⊢
    split at h0
    case isFalse=>cases h0
    rename_i h1
    split at h0
    case isFalse=>cases h0
    rename_i h2
    split at h0
    case isFalse=>cases h0
    rename_i h4
    rw [if_pos h1,if_pos h2,if_pos h4]
    unfold toldV at h0 ⊢
    split at h0
    case isFalse=>cases h0
    rename_i h60
    rw [if_pos h60]
    obtain ⟨Fs,rfl,hw,hs⟩:=all_texts h2
    rw [List.length_map] at h4
    unfold isT at h1
    cases e:rdT t.data.toList with
    | none=>rw [e] at h1;cases h1
    | some f =>
      obtain ⟨rfl,q2,q3⟩:=text_of e
      have eb:subB (Fs.map btT) (btT f).data.toList=btF (subF Fs f):=by rw [btT,toB_l,sub_bt h4 f q2]
      rw [eb,btF_len] at h60
      rw [eb]
      have hwS:=sub_wf h4 hw f q2
      have f1:=fof4 (t:=btT (subF Fs f)) (rd_bt hwS h60) (by rw [btT_size];omega)
      rw [btT] at f1
      rw [f1,some_bind',fof4 (rd_bt q2 q3) (by rw [btT_size];omega),some_bind']
      refine (l40_eq (code:=code) (R:=R) hw hs _ _ _ _ _ _ h4 Fs [] k rfl (by omega)).trans ?_
      rw [i_putFuncs_eq (ofF_lt 4 f) (by rw [List.length_map,h4]) (fun x hx=>by
        obtain ⟨g,_,rfl⟩:=List.mem_map.1 hx
        exact ofF_lt 4 g) hK,some_bind',ite_f (by rfl),ite_f (by rfl),ite_f (by rfl),of_sub h4 f,eqD_same,ite_f (by rfl),j49_eq h]
  · rw [ite_f (decide_eq_false h0),j49_eq h]
theorem j30_eq {code:List Int} (h:okCode code) (k:Nat) (hk:1000<=k) (kn:Option R) (kr:Bool->Option R):w_FnFormulas_j30 BKf k code kn kr=kr true:=by
  have hK:=BKf_ge
  obtain ⟨y,e1,s1,s2,s3⟩:=drawPut_ok (K:=BKf) h hK
  simp only [w_FnFormulas_j30]
  rw [e1,some_bind',iput_eq (by omega) (by omega) hK,some_bind',sput_eq (by omega) (fun u hu=>by have:=s3 u hu;omega) (by omega) hK,some_bind',ite_f (by rw [decide_eq_true rfl];rfl),ite_f (show cmpS .neq _ _=false by simp [cmpS]),j35_eq h _ hk]
theorem l22_eq {code:List Int} (v17:Int) (kx:List Int->List ByteArray->Int->Int->Option R) (kr:Bool->Option R) (l:List FrB) (hw:wfL l) (hl:szL l<=60):∀ (q p:List FrB) (a k:Nat),l=p ++ q->q.length < k->a + gzL q<=1000 →
    w_FnFormulas_l22 BKf k code (l.map btT) v17 (a:Int) (p.length:Int) kx kr=kx code (l.map btT) v17 ((a + gzL q:Nat):Int)
  | _,_,_,0,_,h,_=>by omega
  | [],p,a,k + 1,h,_,_=>by
    subst h
    simp only [w_FnFormulas_l22]
    rw [List.length_map,ite_f nlt_len,gzL];rfl
  | y :: q,p,a,k + 1,h,hk,ha=>by
    subst h
    rw [gzL] at ha
    have hlen:(p ++ y :: q).length=p.length + (q.length + 1):=by simp
    have hll:=len_sz (p ++ y :: q)
    have hy:=sz_mem (show y ∈ p ++ y :: q by simp)
    have hwy:=wf_mem hw (show y ∈ p ++ y :: q by simp)
    have hg:((p ++ y :: q).map btT).getD ((p.length:Nat):Int).toNat ByteArray.empty=btT y:=by
      rw [List.map_append,List.map_cons,show p.length=(p.map btT).length by rw [List.length_map]];exact getD_midI _ _ _ _
    have ih:=l22_eq (code:=code) v17 kx kr (p ++ y :: q) hw hl q (p ++ [y]) (a + gzF y) k (by simp) (by simp at hk;omega) (by omega)
    have hn:numV gzF (btT y).data.toList=(((gzF y:Nat):Int),(0:Int),()):=by unfold numV;rw [rd_bt hwy (by omega)]
    simp only [w_FnFormulas_l22]
    rw [List.length_map,ite_t lt_len,ite_t bnds_mid,hg,isize_eq BKf_ge,some_bind',hn,ite_f (by rfl),show ((a:Nat):Int) + ((gzF y:Nat):Int)=((a + gzF y:Nat):Int) by omega,w64n (by omega),w64s (by omega),<-snoc_len p y,ih,gzL,Nat.add_assoc]
theorem j15_eq {code:List Int} {t:ByteArray} {f:FrB} (e:rdT t.data.toList=some f) (k:Nat) (hk:1000<=k) (kn:List Int->Option R) (kr:Bool->Option R):w_FnFormulas_j15 BKf k code t kn kr=kn code:=by
  have hK:=BKf_ge
  obtain ⟨c,ps⟩:=f
  obtain ⟨_,q2,q3⟩:=text_of e
  have hd:=dpF_le (.mk c ps)
  have hg:=gzF_le (.mk c ps)
  have q2':=q2
  rw [wfF] at q2'
  rw [szF] at q3 hg
  have hgl:=gzL_le ps
  have hp:partsV t.data.toList=(ps.map btT,(0:Int),()):=by unfold partsV;rw [e]
  have hs:numV gzF t.data.toList=(((gzF (.mk c ps):Nat):Int),(0:Int),()):=by unfold numV;rw [e]
  have hdd:numV dpF t.data.toList=(((dpF (.mk c ps):Nat):Int),(0:Int),()):=by unfold numV;rw [e]
  simp only [w_FnFormulas_j15]
  rw [iparts_eq hK,some_bind',isize_eq hK,some_bind',idepth_eq hK,some_bind',hp,hs,hdd,ite_f (by rfl),ite_f (by rfl),ite_f (by rfl),ite_f (decide_eq_false (by show ¬ ((dpF (.mk c ps):Nat):Int) > ((gzF (.mk c ps):Nat):Int);omega))]
  simp only [w_FnFormulas_j20]
  have hll:=len_sz ps
  refine (l22_eq (code:=code) (R:=R) _ _ _ ps q2'.2 (by omega) ps [] 0 k rfl (by omega) (by omega)).trans ?_
  rw [List.length_map,Nat.zero_add,gzF]
  by_cases h0:ps.length=0
  · have:ps=[]:=List.length_eq_zero_iff.1 h0
    subst this
    rw [gzL];rfl
  · rw [ite_t (decide_eq_true (show ((ps.length:Nat):Int) > 0 by omega)),if_neg h0,w64 (by omega) (by omega),ite_f (by rw [decide_eq_true (show ((gzL ps:Nat):Int) + 1=((gzL ps + 1:Nat):Int) by omega)];rfl),ite_f (decide_eq_false (show ¬ ((ps.length:Nat):Int)=0 by omega))]
mutual
theorem isOf_dual {n:Int} (hn:0<=n):∀ f,wfF f->isOfF n (dualF f)=isOfF n f
  | .mk c ps,hw=>by
    rw [wfF] at hw
    have ih:=isOf_dualL hn ps hw.2
    have v:∀ (d:UInt8) (qs:List FrB),varI ((d.toNat:Nat):Int) = -1->isOfF n (.mk d qs)=isOfL n qs:=fun d qs h=>by
      rw [isOfF,h,decide_eq_true (by omega),Bool.true_and]
    rw [dualF]
    rcases plc_cases c (by omega) with ⟨h0,h⟩ | rfl | rfl | rfl | rfl | rfl | rfl
    · have hps:ps=[]:=List.length_eq_zero_iff.1 (by omega)
      subst hps
      rcases h with rfl | rfl | h
      · show isOfF n (.mk 49 (dualL []))=_
        rw [v 49 _ (by decide),v 48 _ (by decide),dualL]
      · show isOfF n (.mk 48 (dualL []))=_
        rw [v 49 _ (by decide),v 48 _ (by decide),dualL]
      · have e:duN c (dualL [])=.mk c []:=by
          rw [dualL,duN,if_neg (fun e=>by subst e;exact absurd h (by decide)),if_neg (fun e=>by subst e;exact absurd h (by decide)),if_neg (fun e=>by subst e;exact absurd h (by decide)),if_neg (fun e=>by subst e;exact absurd h (by decide)),if_neg (fun e=>by subst e;exact absurd h (by decide)),if_neg (fun e=>by subst e;exact absurd h (by decide))]
        rw [e]
    · show isOfF n (.mk 33 (dualL ps))=_
      rw [v 33 _ (by decide),v 33 _ (by decide),ih]
    · show isOfF n (.mk 124 (dualL ps))=_
      rw [v 124 _ (by decide),v 38 _ (by decide),ih]
    · show isOfF n (.mk 38 (dualL ps))=_
      rw [v 124 _ (by decide),v 38 _ (by decide),ih]
    · show isOfF n (.mk 33 [.mk 94 (dualL ps)])=_
      rw [v 33 _ (by decide),isOfL,isOfL,Bool.and_true,v 94 _ (by decide),v 94 _ (by decide),ih]
    · obtain ⟨x,y,z,e⟩:=three_of (l:=dualL ps) (by have:(3:Int)=(ps.length:Int):=hw.1;rw [dualL_len];omega)
      show isOfF n (.mk 63 (swpL (dualL ps)))=_
      rw [v 63 _ (by decide),v 63 _ (by decide),<-ih,e]
      show isOfL n [x,z,y]=isOfL n [x,y,z]
      simp only [isOfL]
      cases isOfF n x <;> cases isOfF n y <;> cases isOfF n z <;> rfl
    · show isOfF n (.mk 77 (dualL ps))=_
      rw [v 77 _ (by decide),v 77 _ (by decide),ih]
theorem isOf_dualL {n:Int} (hn:0<=n):∀ l,wfL l->isOfL n (dualL l)=isOfL n l
  | [],_=>by rw [dualL]
  | f :: l,hw=>by
    rw [wfL] at hw
    rw [dualL,isOfL,isOfL,isOf_dual hn f hw.1,isOf_dualL hn l hw.2]
end
theorem law_Formulas {code:List Int} (hb:∀ b ∈ code,0<=b/\b < 256):w_FnFormulas BKf (code,())=some true:=by
  have hK:=BKf_ge
  simp only [w_FnFormulas,w_big,some_bind']
  by_cases hbig:((code.length:Nat):Int) > 4096
  · rw [ite_t (decide_eq_true hbig)]
  rw [ite_f (decide_eq_false hbig)]
  have hc:okCode code:=⟨by omega,hb⟩
  obtain ⟨y,e1,s1⟩:=drawFunc_ok (K:=BKf) hc hK
  obtain ⟨n,t,u⟩:=y
  have s1:t.size<=100:=s1
  rw [e1,some_bind',i_fof_eq n (by omega),some_bind',s_fof_eq n (by omega),some_bind',ite_f (by rw [decide_eq_true rfl];rfl),eqD_same,ite_f (by rfl),is_i (by omega),some_bind',is_s (by omega) hK,some_bind',ite_f (by rw [beq_self_eq_true];rfl)]
  simp only [w_FnFormulas_j8]
  by_cases h0:(fofV n t.data.toList).2.1=0
  · rw [ite_t (decide_eq_true h0),idual_eq hK,some_bind']
    unfold fofV at h0 ⊢
    cases e:rdT t.data.toList with
    | none=>rw [e] at h0;cases h0
    | some f =>
      rw [e] at h0
      dsimp only at h0 ⊢
      by_cases hn:0<=n/\n<=4
      · rw [if_pos hn] at h0 ⊢
        by_cases hv:varsOk n t.data.toList=true
        · rw [if_pos hv]
          obtain ⟨m,rfl⟩:=Int.eq_ofNat_of_zero_le hn.1
          rw [Int.toNat_natCast]
          obtain ⟨a1,a2,a3⟩:=text_of e
          obtain ⟨_,_,_,a4⟩:=rdT_all (m:Int) e
          rw [hv] at a4
          have hdw:=dualF_wf f a2
          have hdV:dualV t.data.toList=toldV (btF (dualF f)):=by unfold dualV;rw [e]
          rw [hdV]
          unfold toldV
          by_cases h60:(btF (dualF f)).length<=60
          · rw [if_pos h60,ite_t (by rfl)]
            have h60':=h60
            rw [btF_len] at h60'
            have hrd:rdT (toB (btF (dualF f))).data.toList=some (dualF f):=rdT_bt hdw h60'
            have hvd:varsOk (m:Int) (toB (btF (dualF f))).data.toList=true:=by
              obtain ⟨_,_,_,b4⟩:=rdT_all (m:Int) hrd
              rw [b4,isOf_dual hn.1 f a2,<-a4]
            have hfd:i_FuncOfFormula BKf ((m:Int),toB (btF (dualF f)),())=some (fN m (ofF m (dualF f)),0,()):=by
              rw [i_fof_eq _ (by rw [toB_size];omega),fofV,hrd]
              show some (if (0:Int)<=(m:Int)/\(m:Int)<=4 then _ else _)=_
              rw [if_pos hn,if_pos hvd,Int.toNat_natCast]
            rw [hfd,some_bind',i_dualOf_eq (by omega) (ofF_lt m f) hK,some_bind',ite_f (by rfl),ite_f (by rfl),of_dual a2 a4.symm,eqD_same,ite_f (by rfl),j15_eq e _ (by decide),j30_eq hc _ (by decide)]
          · rw [if_neg h60,ite_f (by rfl),j15_eq e _ (by decide),j30_eq hc _ (by decide)]
        · rw [if_neg hv] at h0;cases h0
      · rw [if_neg hn] at h0;cases h0
  · rw [ite_f (decide_eq_false h0),j30_eq hc _ (by decide)]
end Go.Proofs.YtefmjjpdflpnaaaGreat.E
namespace Go.Proofs.YtefmjjpdflpnaaaGreat.E
open Go Go.Proofs
/-- FnFormulas, in plain numbers and lists: no condition but what is known of all data. -/
theorem PuFnFormulas (x:den as_w_FnFormulas) (h:okD as_w_FnFormulas x):∃ K,w_FnFormulas K x=some true:=by
  obtain ⟨code,u⟩:=x
  exact ⟨BKf,law_Formulas fun b hb=>by
    have h1:=bounds_u8 (h.1.2 b hb)
    exact ⟨h1.1,Int.lt_of_le_of_lt h1.2 (by decide)⟩⟩
end Go.Proofs.YtefmjjpdflpnaaaGreat.E
