/-
  What the Go functions that FnFormulas reaches hand back, each as a plain function with a proof that the call does so, and plain lemmas on them. Conditions: those of each theorem.
-/
import Derived.Test.YtefmjjpdflpnaaaGreatCFnFormulas6
namespace Go.Proofs.YtefmjjpdflpnaaaGreat.E
open Go Go.Proofs
set_option linter.unusedVariables false
set_option linter.unusedSimpArgs false
set_option maxRecDepth 100000
variable {K:Nat} {R:Type}
/-! formulas of the program, against what is read off the bytes -/
mutual
/-- the program's formula -/
def toF:FrB->Frm
  | .mk c ps=>.mk (c.toNat:Int) (toFs ps)
def toFs:List FrB->List Frm
  | []=>[]
  | f :: fs=>toF f :: toFs fs
end
theorem toFs_app:∀ (l m:List FrB),toFs (l ++ m)=toFs l ++ toFs m
  | [],m=>by rw [toFs];rfl
  | f :: l,m=>by rw [List.cons_append,toFs,toFs,toFs_app l m];rfl
theorem toFs_len:∀ (l:List FrB),(toFs l).length=l.length
  | []=>by rw [toFs];rfl
  | f :: l=>by rw [toFs,List.length_cons,toFs_len l,List.length_cons]
theorem u8of (c:UInt8):((c.toNat:Nat):Int).toNat.toUInt8=c:=by
  rw [Int.toNat_natCast]
  exact UInt8.toNat_inj.1 (by simp [Nat.toUInt8])
theorem i_index_eq (c:UInt8):strings_IndexByte K ((⟨#[97,98,99,100]⟩:ByteArray),((c.toNat:Nat):Int),())=some (varI ((c.toNat:Nat):Int)):=by
  simp only [strings_IndexByte,internal_stringslite_IndexByte,internal_bytealg_IndexByteString,some_bind',u8of]
  congr 1
  show Lib.indexByte [97,98,99,100] c=_
  have hc:∀ d:UInt8,(d == c)=decide (((d.toNat:Nat):Int)=((c.toNat:Nat):Int)):=fun d=>by
    rw [Bool.eq_iff_iff,beq_iff_eq,decide_eq_true_eq]
    constructor
    · intro h;rw [h]
    · intro h;exact UInt8.toNat_inj.1 (by omega)
  simp only [Lib.indexByte,hc]
  generalize ((c.toNat:Nat):Int)=x
  show (if decide ((97:Int)=x)=true then (0:Int) else _)=_
  unfold varI
  by_cases h1:x=97
  · subst h1;rfl
  by_cases h2:x=98
  · subst h2;rfl
  by_cases h3:x=99
  · subst h3;rfl
  by_cases h4:x=100
  · subst h4;rfl
  rw [if_neg (show ¬ (97<=x/\x<=100) by omega),decide_eq_false (show ¬ (97:Int)=x by omega),decide_eq_false (show ¬ ((UInt8.toNat 98:Nat):Int)=x from fun h=>h2 h.symm),decide_eq_false (show ¬ ((UInt8.toNat 99:Nat):Int)=x from fun h=>h3 h.symm),
    decide_eq_false (show ¬ ((UInt8.toNat 100:Nat):Int)=x from fun h=>h4 h.symm)]
  rfl
theorem i_places_eq (c:UInt8):i_placesOf K (((c.toNat:Nat):Int),())=some (plcI ((c.toNat:Nat):Int)):=by
  simp only [i_placesOf,i_placesOf_j3,i_placesOf_j7,i_placesOf_j9,gN_eq,i_index_eq,some_bind',decide_eq_true_eq]
  generalize ((c.toNat:Nat):Int)=x
  unfold varI plcI
  by_cases h1:97<=x/\x<=100
  · rw [if_pos h1,if_pos (show x - 97 ≥ 0 by omega),if_pos (by omega)]
  rw [if_neg h1,if_neg (by decide)]
  by_cases h5:x=48
  · simp [h5]
  by_cases h6:x=49
  · simp [h6]
  by_cases h7:x=33
  · simp [h7]
  by_cases h8:x=38
  · simp [h8]
  by_cases h9:x=124
  · simp [h9]
  by_cases h10:x=94
  · simp [h10]
  by_cases h11:x=63
  · simp [h11]
  by_cases h12:x=77
  · simp [h12]
  rw [if_neg (show ¬ (x=97\/x=98\/x=99\/x=100\/x=48\/x=49) by omega)]
  simp [h5,h6,h7,h8,h9,h10,h11,h12]
/-- a formula as its fields -/
def frV:FrB->Int × List Frm × Unit
  | .mk c ps=>(((c.toNat:Nat):Int),toFs ps,())
theorem frV_mk (f:FrB):Frm.mk (frV f).1 (frV f).2.1=toF f:=by cases f;rw [toF];rfl
/-- what readFormula hands back -/
def rdV:Option (FrB × List UInt8)->(Int × List Frm × Unit) × ByteArray × Bool × Unit
  | none=>(((0:Int),([]:List Frm),()),(⟨#[]⟩:ByteArray),false,())
  | some p=>(frV p.1,toB p.2,true,())
theorem read_l6 {k:Nat} {r:(ByteArray × Unit)->Option ((Int × List Frm × Unit) × ByteArray × Bool × Unit)} (hr:∀ l,l.length < k->r (toB l,())=some (rdV (rdF k l))) (v0 v5:Int) (v1:List Frm) (kx:Int->List Frm->Int->List Frm->ByteArray->Option R) (kr:Int->List Frm->ByteArray->Bool->Option R) :
    ∀ (m i k2:Nat) (l:List UInt8) (acc:List FrB),l.length < k->m < k2->i + m < 10->acc.length + m < 100 →
    i_readFormula_l6 K r k2 v0 v1 v5 (toFs acc) (toB l) ((i + m:Nat):Int) (i:Int) kx kr=match rdN (rdF k) m l with | some p=>kx v0 v1 v5 (toFs (acc ++ p.1)) (toB p.2) | none=>kr 0 [] ⟨#[]⟩ false
  | _,_,0,_,_,_,h,_,_=>by omega
  | 0,i,k2 + 1,l,acc,_,_,_,_=>by
    simp only [i_readFormula_l6]
    rw [ite_f (decide_eq_false (by omega))]
    show _=kx v0 v1 v5 (toFs (acc ++ [])) (toB l)
    rw [List.append_nil]
  | m + 1,i,k2 + 1,l,acc,hl,hk,h10,h100=>by
    simp only [i_readFormula_l6]
    rw [ite_t (decide_eq_true (by omega)),hr l hl,some_bind',rdN]
    cases h1:rdF k l with
    | none=>exact ite_t (by rfl)
    | some p =>
      obtain ⟨f,l'⟩:=p
      obtain ⟨s1,s2⟩:=rdF_suf k l f l' h1
      have hlim:(1099511627776:Nat)=lim:=rfl
      have ih:=read_l6 hr v0 v5 v1 kx kr m (i + 1) k2 l' (acc ++ [f]) (by omega) (by omega) (by omega) (by simp;omega)
      have e:((i + (m + 1):Nat):Int)=((i + 1 + m:Nat):Int):=by omega
      have ea:toFs acc ++ [Frm.mk (frV f).1 (frV f).2.1]=toFs (acc ++ [f]):=by rw [toFs_app,frV_mk,toFs,toFs]
      show (if (!true)=true then _ else if decide ((toFs acc).length + [Frm.mk (frV f).1 (frV f).2.1].length<=lim)=true then i_readFormula_l6 K r k2 v0 v1 v5 (toFs acc ++ [Frm.mk (frV f).1 (frV f).2.1]) (toB l') _ (IntKind.i64.wrap ((i:Int) + 1)) kx kr else none)=_
      rw [ite_f (by rfl),ite_t (decide_eq_true (by rw [toFs_len];simp;omega)),ea,w64s (by omega),e,ih]
      dsimp only
      cases rdN (rdF k) m l' with
      | none=>rfl
      | some q =>
        obtain ⟨gs,l2⟩:=q
        dsimp only
        rw [List.append_assoc];rfl
theorem eql_nil (l:List UInt8):cmpS .eql (toB l) (⟨#[]⟩:ByteArray)=l.isEmpty:=by
  cases l with
  | nil=>exact (eql_iff _ _).2 rfl
  | cons c l =>
    refine eql_ne fun e=>?_
    have:=congrArg ByteArray.size e
    rw [toB_size] at this
    exact absurd this (by simp [ByteArray.size])
theorem read_eq (hK:100<=K):∀ (k:Nat) (l:List UInt8),l.length < k->i_readFormula K k (toB l,())=some (rdV (rdF k l))
  | 0,l,h=>by omega
  | k + 1,[],h=>by
    rw [i_readFormula]
    simp only [i_readFormula_b]
    rw [ite_t (eql_nil [])];rfl
  | k + 1,c :: l,h=>by
    have hsz:(toB (c :: l)).size=l.length + 1:=toB_size _
    have hb0:byteAt (toB (c :: l)) 0=((c.toNat:Nat):Int):=rfl
    rw [i_readFormula]
    simp only [i_readFormula_b,i_readFormula_j3]
    rw [ite_f (eql_nil (c :: l)),ite_t (bnds_t (by decide) (by rw [hsz];omega)),hb0,i_places_eq,some_bind',rdF]
    by_cases hneg:plcI ((c.toNat:Nat):Int) < 0
    · rw [ite_t (decide_eq_true hneg),if_pos hneg];rfl
    · obtain ⟨p1,p2⟩:=plcI_lt ((c.toNat:Nat):Int)
      obtain ⟨m,hm⟩:=Int.eq_ofNat_of_zero_le (show 0<=plcI ((c.toNat:Nat):Int) by omega)
      rw [ite_f (decide_eq_false hneg),if_neg hneg,ite_t (bnds_t (by decide) (by rw [hsz];omega)),ite_t (by rw [hsz,decide_eq_true (show (0:Int)<=1 by decide),decide_eq_true (show (1:Int)<=((l.length + 1:Nat):Int) by omega),decide_eq_true (Int.le_refl _)];rfl),some_bind']
      have he:(toB (c :: l)).extract (1:Int).toNat (((toB (c :: l)).size:Nat):Int).toNat=toB l:=by
        rw [Int.toNat_natCast,hsz,show l.length + 1=[c].length + l.length by simp;omega]
        exact extract_l (x:=[c]) (a:=l) (l:=[]) (by simp [toB_l])
      rw [he]
      have h6:=read_l6 (K:=K) (R:=(Int × List Frm × Unit) × ByteArray × Bool × Unit) (k:=k) (r:=i_readFormula K k) (fun l h=>read_eq hK k l h) 0 ((c.toNat:Nat):Int) [] (fun z6 z7 z8 z9 z10=>some ((z8,z9,()),z10,true,())) (fun z11 z12 z13 z14=>some ((z11,z12,()),z13,z14,())) m 0 K l [] (by simp at h;omega) (by omega) (by omega) (by simp;omega)
      rw [hm,show ((m:Nat):Int)=((0 + m:Nat):Int) by omega]
      refine (show _=_ from h6).trans ?_
      rw [Nat.zero_add,Int.toNat_natCast]
      cases rdN (rdF k) m l with
      | none=>rfl
      | some q=>rfl
variable {K:Nat} {R:Type}
theorem toB_of (t:ByteArray):toB t.data.toList=t:=by cases t;rfl
theorem parse_some {t:ByteArray} {f:FrB} (hK:100<=K) (h:rdT t.data.toList=some f):i_parse K (t,())=some (frV f,true,()):=by
  have hsz:=size_tl t
  unfold rdT at h
  split at h
  case isFalse=>cases h
  rename_i h60
  simp only [i_parse]
  have hr:=read_eq (K:=K) hK K t.data.toList (by omega)
  rw [toB_of,rdF_fuel K (t.data.toList.length + 1) _ (by omega) (by omega)] at hr
  rw [ite_f (decide_eq_false (by omega)),hr,some_bind']
  cases h1:rdF (t.data.toList.length + 1) t.data.toList with
  | none=>rw [h1] at h;cases h
  | some p =>
    obtain ⟨g,l'⟩:=p
    rw [h1] at h
    cases l' with
    | nil =>
      cases h
      show (if true=true then some (frV f,cmpS .eql (toB []) ⟨#[]⟩,()) else _)=_
      rw [ite_t rfl,eql_nil];rfl
    | cons _ _=>cases h
theorem parse_none {t:ByteArray} (hK:100<=K) (h:rdT t.data.toList=none):∃ v,i_parse K (t,())=some (v,false,()):=by
  have hsz:=size_tl t
  simp only [i_parse]
  by_cases h60:t.data.toList.length<=60
  · have hr:=read_eq (K:=K) hK K t.data.toList (by omega)
    rw [toB_of,rdF_fuel K (t.data.toList.length + 1) _ (by omega) (by omega)] at hr
    rw [ite_f (decide_eq_false (by omega)),hr,some_bind']
    cases h1:rdF (t.data.toList.length + 1) t.data.toList with
    | none=>exact ⟨_,ite_f rfl⟩
    | some p =>
      obtain ⟨g,l'⟩:=p
      obtain ⟨q1,q2⟩:=rdF_suf _ _ _ _ h1
      unfold rdT at h
      rw [if_pos ⟨by omega,h60⟩,h1] at h
      cases l' with
      | nil=>cases h
      | cons c l' =>
        refine ⟨frV g,?_⟩
        show (if true=true then some (frV g,cmpS .eql (toB (c :: l')) ⟨#[]⟩,()) else _)=_
        rw [ite_t rfl,eql_nil];rfl
  · exact ⟨_,ite_t (decide_eq_true (by omega))⟩
mutual
/-- how many bytes a formula has -/
def szF:FrB->Nat
  | .mk _ ps=>szL ps + 1
def szL:List FrB->Nat
  | []=>0
  | f :: fs=>szF f + szL fs
end
mutual
/-- each gate has its places -/
def wfF:FrB->Prop
  | .mk c ps=>plcI (c.toNat:Int)=(ps.length:Int)/\wfL ps
def wfL:List FrB->Prop
  | []=>True
  | f :: fs=>wfF f/\wfL fs
end
mutual
/-- has a formula no variables but the first n ones? -/
def isOfF (n:Int):FrB->Bool
  | .mk c ps=>decide (varI (c.toNat:Int) < n) && isOfL n ps
def isOfL (n:Int):List FrB->Bool
  | []=>true
  | f :: fs=>isOfF n f && isOfL n fs
end
theorem vars_app (n:Int) (a b:List UInt8):varsOk n (a ++ b)=(varsOk n a && varsOk n b):=List.all_append
theorem rdN_all {rd:List UInt8->Option (FrB × List UInt8)} (n:Int) (h:∀ l f l',rd l=some (f,l')->∃ a,l=a ++ l'/\a.length=szF f/\wfF f/\varsOk n a=isOfF n f) :
    ∀ (m:Nat) (l:List UInt8) (fs:List FrB) (l':List UInt8),rdN rd m l=some (fs,l')->∃ a,l=a ++ l'/\a.length=szL fs/\wfL fs/\varsOk n a=isOfL n fs
  | 0,l,fs,l',e=>by
    obtain ⟨rfl,rfl⟩:=Prod.mk.inj (Option.some.inj e)
    exact ⟨[],rfl,by rw [szL];rfl,by rw [wfL];trivial,by rw [isOfL];rfl⟩
  | m + 1,l,fs,l',e=>by
    rw [rdN] at e
    cases h1:rd l with
    | none=>rw [h1] at e;cases e
    | some p =>
      obtain ⟨f,l1⟩:=p
      rw [h1] at e
      dsimp only at e
      cases h2:rdN rd m l1 with
      | none=>rw [h2] at e;cases e
      | some q =>
        obtain ⟨gs,l2⟩:=q
        rw [h2] at e
        obtain ⟨rfl,rfl⟩:=Prod.mk.inj (Option.some.inj e)
        obtain ⟨a,rfl,a1,a2,a3⟩:=h l f l1 h1
        obtain ⟨b,rfl,b1,b2,b3⟩:=rdN_all n h m l1 gs l2 h2
        exact ⟨a ++ b,by rw [List.append_assoc],by rw [List.length_append,a1,b1,szL],by rw [wfL];exact ⟨a2,b2⟩,by rw [vars_app,a3,b3,isOfL]⟩
theorem rdF_all (n:Int):∀ (k:Nat) (l:List UInt8) (f:FrB) (l':List UInt8),rdF k l=some (f,l')->∃ a,l=a ++ l'/\a.length=szF f/\wfF f/\varsOk n a=isOfF n f
  | 0,_,_,_,e=>by cases e
  | k + 1,[],_,_,e=>by cases e
  | k + 1,c :: l,f,l',e=>by
    obtain ⟨ps,rfl,h1,h2⟩:=rdF_head e
    obtain ⟨a,rfl,a1,a2,a3⟩:=rdN_all n (fun l f l' h=>rdF_all n k l f l' h) _ _ _ _ h2
    have hl:=rdN_len _ _ _ _ h2
    exact ⟨c :: a,rfl,by rw [List.length_cons,a1,szF],by rw [wfF];exact ⟨by omega,a2⟩,by rw [isOfF,<-a3];rfl⟩
theorem rdT_all (n:Int) {L:List UInt8} {f:FrB} (h:rdT L=some f):L.length=szF f/\L.length<=60/\wfF f/\varsOk n L=isOfF n f:=by
  unfold rdT at h
  split at h
  case isFalse=>cases h
  rename_i h60
  cases h1:rdF (L.length + 1) L with
  | none=>rw [h1] at h;cases h
  | some p =>
    obtain ⟨g,l'⟩:=p
    rw [h1] at h
    cases l' with
    | nil =>
      cases h
      obtain ⟨a,e,h2,h3,h4⟩:=rdF_all n _ _ _ _ h1
      rw [List.append_nil] at e
      subst e
      exact ⟨h2,h60.2,h3,h4⟩
    | cons _ _=>cases h
theorem toF_c (c:UInt8) (ps:List FrB):(toF (.mk c ps)).c=((c.toNat:Nat):Int)/\(toF (.mk c ps)).ps=toFs ps:=by rw [toF];exact ⟨rfl,rfl⟩
theorem i_variable_eq (c:UInt8) (ps:List FrB):i_formula_variable K (toF (.mk c ps),())=some (varI ((c.toNat:Nat):Int)):=by
  simp only [i_formula_variable]
  rw [(toF_c c ps).1,i_index_eq,some_bind']
theorem toFs_mid (p r:List FrB) (y:FrB) (d:Frm):(toFs (p ++ y :: r)).getD ((p.length:Nat):Int).toNat d=toF y:=by
  rw [toFs_app,toFs,<-toFs_len p];exact getD_midI _ _ _ _
theorem idx_frm_l (f:Frm × Unit->Option Bool) (g:FrB->Bool) (l:List FrB) (hl:l.length < 4611686018427387904) (kx:Option R) (kr:Int->Option R):∀ (r p:List FrB) (k:Nat),l=p ++ r->r.length < k->(∀ x ∈ r,f (toF x,())=some (g x)) →
    slices_IndexFunc_impl_formula_l2 K k (toFs l) f (l.length:Int) (p.length:Int) kx kr=match r.findIdx? g with | some j=>kr ((p.length + j:Nat):Int) | none=>kx
  | _,_,0,_,h,_=>by omega
  | [],p,k + 1,h,_,_=>by subst h;simp only [slices_IndexFunc_impl_formula_l2];rw [ite_f nlt_len];rfl
  | y :: r,p,k + 1,h,hk,hf=>by
    subst h
    simp only [slices_IndexFunc_impl_formula_l2]
    rw [ite_t lt_len,ite_t (by rw [toFs_len];exact bnds_mid),toFs_mid,hf y (by simp),some_bind',List.findIdx?_cons]
    cases hg:g y
    · rw [if_neg (by decide),if_neg (by decide),next_i hl,idx_frm_l f g _ hl kx kr r (p ++ [y]) k (mid_app p r y) (by simp at hk;omega) (fun x hx=>hf x (by simp [hx]))]
      cases hr:r.findIdx? g
      · rfl
      · simp only [Option.map_some];congr 1;simp;omega
    · rw [if_pos rfl,if_pos rfl];rfl
theorem contains_frm_eq (f:Frm × Unit->Option Bool) (g:FrB->Bool) {l:List FrB} (hl:l.length < 4611686018427387904) (hK:4611686018427387904<=K) (hf:∀ x ∈ l,f (toF x,())=some (g x)) :
    slices_ContainsFunc_impl_formula K (toFs l,f,())=some (l.any g):=by
  simp only [slices_ContainsFunc_impl_formula,slices_IndexFunc_impl_formula]
  have:=idx_frm_l (K:=K) f g l hl (some (-1:Int)) (fun z=>some z) l [] K rfl (by omega) hf
  simp only [List.length_nil,Nat.zero_add] at this
  rw [show ((0:Nat):Int)=0 from rfl] at this
  rw [toFs_len,this,<-List.findIdx?_isSome];cases l.findIdx? g <;> simp
theorem isOfL_any (n:Int):∀ l:List FrB,(!(l.any fun f=>!isOfF n f))=isOfL n l
  | []=>by rw [isOfL];rfl
  | f :: l=>by rw [isOfL,<-isOfL_any n l,List.any_cons,Bool.not_or,Bool.not_not]
theorem sz_mem:∀ {l:List FrB} {f:FrB},f ∈ l->szF f<=szL l
  | g :: l,f,h=>by
    rw [szL]
    rcases List.mem_cons.1 h with rfl | h
    · omega
    · have:=sz_mem h;omega
theorem len_sz:∀ l:List FrB,l.length<=szL l
  | []=>Nat.zero_le _
  | .mk c ps :: l=>by rw [szL,szF,List.length_cons];have:=len_sz l;omega
theorem isOf_eq (hK:4611686018427387904<=K) (n:Int):∀ (k:Nat) (f:FrB),szF f<=k->szF f < 4611686018427387904->i_formula_isOf K (i_formula_isOf_c1 K k) (toF f,n,())=some (isOfF n f)
  | k,.mk c ps,h,hb=>by
    rw [szF] at h hb
    have hl:=len_sz ps
    simp only [i_formula_isOf]
    rw [i_variable_eq,some_bind',isOfF,(toF_c c ps).2]
    by_cases hv:varI ((c.toNat:Nat):Int) < n
    · rw [ite_t (decide_eq_true hv),decide_eq_true hv,Bool.true_and,contains_frm_eq _ (fun f=>!isOfF n f) (by omega) hK (fun x hx=>?_),some_bind',isOfL_any]
      match k,h,hb with
      | k + 1,h,hb =>
        have:=sz_mem hx
        show i_formula_isOf_c1 K (k + 1) (toF x,n,())=_
        rw [i_formula_isOf_c1]
        simp only [i_formula_isOf_c1_b]
        rw [isOf_eq hK n k x (by omega) (by omega),some_bind']
    · rw [ite_f (decide_eq_false hv),decide_eq_false hv];rfl
theorem i_gate_eq (c:UInt8) (h:0 < plcI (c.toNat:Int)):i_gate BKf ((c.toNat:Int),())=some (fN (gateB c).1 (gateB c).2):=by
  have hn:c.toNat=33\/c.toNat=38\/c.toNat=124\/c.toNat=94\/c.toNat=63\/c.toNat=77:=by
    unfold plcI at h
    split at h
    · omega
    · split at h
      · omega
      · split at h
        · omega
        · split at h
          · omega
          · omega
  have e:c=UInt8.ofNat c.toNat:=by simp
  rw [e]
  rcases hn with h | h | h | h | h | h <;> rw [h] <;> decide +kernel
theorem i_const_eq {n v:Nat} (hn:n<=4) (hv:v<=1):i_constant K ((n:Int),(v:Int),())=some (fN n (if v=0 then 0 else 2 ^ 2 ^ n - 1)):=by
  have hp:2 ^ 2 ^ n<=65536:=Nat.le_trans (Nat.pow_le_pow_right (by decide) (Nat.pow_le_pow_right (by decide) hn)) (show 2 ^ 2 ^ 4<=65536 by decide)
  have h1:0 < 2 ^ 2 ^ n:=Nat.two_pow_pos _
  simp only [i_constant]
  rw [i_funcsOf_eq hn,some_bind']
  generalize 2 ^ 2 ^ n=q at hp h1
  rw [w64 (x:=(q:Int) - 1) (by omega) (by omega)]
  have hv:v=0\/v=1:=by omega
  rcases hv with rfl | rfl
  · rw [show ((q:Int) - 1) * ((0:Nat):Int)=0 by simp];rfl
  · rw [show ((q:Int) - 1) * ((1:Nat):Int)=(q:Int) - 1 by simp,w64 (by omega) (by omega),if_neg (by decide)]
    show some ((n:Int),(q:Int) - 1,())=some ((n:Int),((q - 1:Nat):Int),())
    rw [show (q:Int) - 1=((q - 1:Nat):Int) by omega]
theorem of_l7 {n:Nat} {r:(Frm × Int × Unit)->Option DF} (c:UInt8) (v4:DF) (kx:Frm->Int->DF->List DF->Option R) (l:List FrB) (hr:∀ f ∈ l,r (toF f,(n:Int),())=some (fN n (ofF n f))) (h100:l.length<=100):∀ (q p:List FrB) (acc:List Nat) (k:Nat),l=p ++ q->acc.length=p.length->q.length < k →
    i_formula_of_l7 K r k (toF (.mk c l)) (n:Int) v4 (fnsN n acc) (l.length:Int) (p.length:Int) kx=kx (toF (.mk c l)) (n:Int) v4 (fnsN n (acc ++ ofL n q))
  | _,_,_,0,_,_,h=>by omega
  | [],p,acc,k + 1,h,ha,_=>by
    subst h
    simp only [i_formula_of_l7]
    rw [ite_f nlt_len,ofL]
    simp only [List.append_nil]
  | y :: q,p,acc,k + 1,h,ha,hk=>by
    subst h
    have hlim:(1099511627776:Nat)=lim:=rfl
    have hlen:(p ++ y :: q).length=p.length + (q.length + 1):=by simp
    have ih:=of_l7 (n:=n) c v4 kx (p ++ y :: q) hr h100 q (p ++ [y]) (acc ++ [ofF n y]) k (by simp) (by simp [ha]) (by simp at hk;omega)
    simp only [i_formula_of_l7]
    rw [(toF_c c _).2,ite_t lt_len,ite_t (by rw [toFs_len];exact bnds_mid),toFs_mid,hr y (by simp),some_bind',ite_t (decide_eq_true (by rw [fns_len];simp only [List.length_cons,List.length_nil];omega)),fns_snoc,w64s (by omega),<-snoc_len p y,ih,ofL,List.append_assoc];rfl
theorem wf_mem:∀ {l:List FrB} {f:FrB},wfL l->f ∈ l->wfF f
  | g :: l,f,h,hm=>by
    rw [wfL] at h
    rcases List.mem_cons.1 hm with rfl | hm
    · exact h.1
    · exact wf_mem h.2 hm
theorem i_of_eq {n:Nat} (hn:n<=4):∀ (k:Nat) (f:FrB),szF f < k->wfF f->i_formula_of BKf k (toF f,(n:Int),())=some (fN n (ofF n f))
  | 0,f,h,_=>by omega
  | k + 1,.mk c ps,h,hw=>by
    rw [szF] at h
    rw [wfF] at hw
    obtain ⟨hw1,hw2⟩:=hw
    have hK:=BKf_ge
    have hc:c.toNat < 256:=c.toNat_lt
    have hp:2 ^ 2 ^ n<=65536:=Nat.le_trans (Nat.pow_le_pow_right (by decide) (Nat.pow_le_pow_right (by decide) hn)) (show 2 ^ 2 ^ 4<=65536 by decide)
    rw [i_formula_of]
    simp only [i_formula_of_b]
    rw [i_variable_eq,some_bind',ofF,(toF_c c ps).1]
    by_cases hv:97<=c.toNat/\c.toNat<=100
    · have e:varI ((c.toNat:Nat):Int)=((c.toNat - 97:Nat):Int):=by
        rw [varI,if_pos (by omega)];omega
      have z:plcI ((c.toNat:Nat):Int)=0:=by
        rw [plcI,if_pos (by omega)]
      rw [e,ite_t (decide_eq_true (by omega)),some_bind',i_projection_eq hn hK,some_bind',if_pos z,leafB,if_neg (fun e=>by rw [e] at hv;exact absurd hv (by decide)),if_neg (fun e=>by rw [e] at hv;exact absurd hv (by decide))]
    · have e:varI ((c.toNat:Nat):Int) = -1:=by rw [varI,if_neg (by omega)]
      rw [e,ite_f (by rfl)]
      by_cases c0:((c.toNat:Nat):Int)=48
      · have hc0:c=48:=UInt8.toNat_inj.1 (by show c.toNat=48;omega)
        rw [ite_t (decide_eq_true c0)]
        simp only [i_formula_of_j4,gN_eq]
        rw [(toF_c c ps).1,c0,show IntKind.i64.wrap (IntKind.u8.wrap ((48:Int) - 48))=((0:Nat):Int) by decide,i_const_eq hn (by decide),some_bind',hc0]
        rw [if_pos (by decide),leafB,if_pos rfl];rfl
      · rw [ite_f (decide_eq_false c0)]
        by_cases c1:((c.toNat:Nat):Int)=49
        · have hc1:c=49:=UInt8.toNat_inj.1 (by show c.toNat=49;omega)
          rw [ite_t (decide_eq_true c1)]
          simp only [i_formula_of_j4,gN_eq]
          rw [(toF_c c ps).1,c1,show IntKind.i64.wrap (IntKind.u8.wrap ((49:Int) - 48))=((1:Nat):Int) by decide,i_const_eq hn (by decide),some_bind',hc1]
          show some (fN n (2 ^ 2 ^ n - 1))=_
          rw [if_pos (show plcI 49=0 by decide),leafB,if_neg (by decide),if_pos rfl]
        · rw [ite_f (decide_eq_false c1)]
          have z:¬ plcI ((c.toNat:Nat):Int)=0:=by
            intro z
            unfold plcI at z
            split at z
            · omega
            · split at z
              · omega
              · split at z
                · omega
                · split at z <;> omega
          have hlt:=plcI_lt ((c.toNat:Nat):Int)
          simp only [i_formula_of_j5]
          rw [(toF_c c ps).2,toFs_len]
          refine (of_l7 (K:=BKf) (n:=n) (r:=i_formula_of BKf k) c _ _ ps (fun f hf=>i_of_eq hn k f (by have:=sz_mem hf;omega) (wf_mem hw2 hf)) (by omega) ps [] [] BKf rfl rfl (by omega)).trans ?_
          rw [List.nil_append,(toF_c c ps).1,i_gate_eq c (by omega),some_bind',if_neg z]
          have:=i_Func_put_eq (K:=BKf) (a:=(gateB c).1) (m:=n) (gate_lt c) hn (ofL n ps) (by rw [ofL_len];omega) (fun x hx=>Nat.lt_of_lt_of_le (ofL_lt n ps x hx) hp) hK
          rw [this,some_bind']
theorem i_fof_eq (n:Int) {t:ByteArray} (hs:t.size < 4611686018427387903):i_FuncOfFormula BKf (n,t,())=some (fofV n t.data.toList):=by
  have hK:=BKf_ge
  have hBK:BKf=9223372036854775808:=rfl
  simp only [i_FuncOfFormula]
  rw [fofV]
  cases hr:rdT t.data.toList with
  | none =>
    obtain ⟨v,hv⟩:=parse_none (K:=BKf) (by omega) hr
    rw [hv,some_bind',ite_t (by rfl)]
  | some f =>
    obtain ⟨h1,h2,h3,h4⟩:=rdT_all n hr
    rw [parse_some (by omega) hr,some_bind',ite_f (by rfl)]
    simp only [i_isArity,i_within_eq,some_bind']
    rw [frV_mk]
    by_cases hn:0<=n/\n<=4
    · rw [decide_eq_true hn.1,decide_eq_true hn.2,ite_f (by rfl),if_pos hn]
      have hiK:=isOf_eq (K:=BKf) hK n BKf f (by omega) (by omega)
      rw [hiK,some_bind',<-h4]
      cases hv:varsOk n t.data.toList
      · rw [ite_t (by rfl)];rfl
      · obtain ⟨m,rfl⟩:=Int.eq_ofNat_of_zero_le hn.1
        rw [ite_f (by rfl),i_of_eq (by omega) BKf f (by omega) h3,some_bind',Int.toNat_natCast];rfl
    · rw [ite_t (by
        by_cases h2:0<=n
        · rw [decide_eq_true h2,decide_eq_false (fun h=>hn ⟨h2,h⟩)];rfl
        · rw [decide_eq_false h2];rfl),if_neg hn]
end Go.Proofs.YtefmjjpdflpnaaaGreat.E
namespace Go.Proofs.YtefmjjpdflpnaaaGreat.E
open Go Go.Proofs Go.Proofs.YtefmjjpdflpnaaaGreat
set_option maxRecDepth 100000
set_option linter.unusedVariables false
noncomputable def i_formula_text_l3 {R:Type} (K:Nat) (r:(Frm × Unit)->Option ByteArray):Nat->Frm->ByteArray->Int->Int->(ByteArray->Option R)->Option R
  | 0,_,_,_,_,_=>none
  | k + 1,v0,v3,v15,v16,kx0 =>
    (if (decide (v16 < v15))=true then
    (if (bnds v16 ((Frm.ps v0).length:Int))=true then
    (r (((Frm.ps v0).getD v16.toNat (Frm.mk 0 [])),())).bind fun y2 =>
    (if (decide (v3.size + y2.size<=9223372036854775807))=true then
    i_formula_text_l3 K r k v0 (v3 ++ y2) v15 (IntKind.i64.wrap (v16 + (1:Int))) kx0
    else
    none)
    else
    none)
    else
    kx0 v3)
noncomputable def i_formula_text_b (K:Nat) (r:(Frm × Unit)->Option ByteArray) (x:(Frm × Unit)):Option ByteArray :=
    let l1:=[(Frm.c x.1)]
    i_formula_text_l3 K r K x.1 (bytesOf l1) ((Frm.ps x.1).length:Int) (0:Int) (fun z3 =>
    some z3)
noncomputable def i_formula_text (K:Nat):Nat->(Frm × Unit)->Option ByteArray
  | 0=>fun _=>none
  | k + 1=>i_formula_text_b K (i_formula_text K k)
noncomputable def X0_i_formula_text:Lv:=[(3,(.v .str))]
noncomputable def rv_i_formula_text:Lv:=[(2,(.v .str))]
noncomputable def D_i_formula_text (K:Nat) (r:(Frm × Unit)->Option ByteArray):List (PD (den .str)):=[.L 3 [(0,(.v (.ptr (.st .frm)))),(3,(.v .str)),(15,(.v (.int .i64))),(16,(.v (.int .i64)))] [] (fun k x kx kr=>i_formula_text_l3 K r k x.1 x.2.1 x.2.2.1 x.2.2.2.1 (fun z0=>kx 0 (mkSt X0_i_formula_text (z0,()))))]
theorem okb_i_formula_text (K:Nat) (r:(Frm × Unit)->Option ByteArray) (hr:FnOk Tryz.prog 46 (sp_i_formula_text r)):FnOk Tryz.prog 46 (sp_i_formula_text (i_formula_text_b K r)) :=
  fn_okD tysOkR [.f _ (sp_i_formula_text (r)) (hr)] 0 (D_i_formula_text K r) [(0,X0_i_formula_text)] rv_i_formula_text K Tryz.func46 (by kernel_rfl) ⟨⟨fun _ _ _ _=>by kernel_rfl,fun _ _ _=>rfl⟩,trivial⟩ (fun _=>by kernel_rfl)
theorem ok_i_formula_text (K:Nat):∀ k,FnOk Tryz.prog 46 (sp_i_formula_text (i_formula_text K k))
  | 0=>fnOk_none
  | k + 1=>okb_i_formula_text K (i_formula_text K k) (ok_i_formula_text K k)
noncomputable def as_i_PartsOfFormula:Ty:=(.pair .str .unit)
noncomputable def sp_i_PartsOfFormula (F:(ByteArray × Unit)->Option ((List ByteArray) × Int × Unit)):FnSpec:=⟨as_i_PartsOfFormula,[false],(.tup (.pair (.sl .str) (.pair (.int .i64) .unit))),F⟩
noncomputable def i_PartsOfFormula_l6 {R:Type} (K:Nat):Nat->Int->(List Frm)->(List ByteArray)->Int->Int->((List ByteArray)->Option R)->Option R
  | 0,_,_,_,_,_,_=>none
  | k + 1,v4_0,v4_1,v6,v17,v18,kx0 =>
    (if (decide (v18 < v17))=true then
    (if (bnds v18 (v4_1.length:Int))=true then
    (i_formula_text K K ((v4_1.getD v18.toNat (Frm.mk 0 [])),())).bind fun y2 =>
    (if (decide (v6.length + ([y2]).length<=lim))=true then
    let l3:=(v6 ++ [y2])
    i_PartsOfFormula_l6 K k v4_0 v4_1 l3 v17 (IntKind.i64.wrap (v18 + (1:Int))) kx0
    else
    none)
    else
    none)
    else
    kx0 v6)
noncomputable def i_PartsOfFormula (K:Nat) (x:(ByteArray × Unit)):Option ((List ByteArray) × Int × Unit) :=
    (i_parse K (x.1,())).bind fun y1 =>
    (if (!y1.2.1)=true then
    some (([]:List ByteArray),(6:Int),())
    else
    i_PartsOfFormula_l6 K K y1.1.1 y1.1.2.1 ([]:List ByteArray) (y1.1.2.1.length:Int) (0:Int) (fun z4 =>
    some (z4,(0:Int),())))
noncomputable def X0_i_PartsOfFormula:Lv:=[(6,(.r .str))]
noncomputable def rv_i_PartsOfFormula:Lv:=[(2,(.r .str)),(3,(.v (.int .i64)))]
noncomputable def D_i_PartsOfFormula (K:Nat):List (PD (den (.tup (.pair (.sl .str) (.pair (.int .i64) .unit))))):=[.L 6 [(4,(.bx (.st (.pair (.v (.int .u8)) (.pair (.r (.st .frm)) .unit))))),(6,(.r .str)),(17,(.v (.int .i64))),(18,(.v (.int .i64)))] [] (fun k x kx kr=>i_PartsOfFormula_l6 K k x.1.1 x.1.2.1 x.2.1 x.2.2.1 x.2.2.2.1 (fun z0=>kx 0 (mkSt X0_i_PartsOfFormula (z0,()))))]
theorem ok_i_PartsOfFormula (K:Nat):FnOk Tryz.prog 12 (sp_i_PartsOfFormula (i_PartsOfFormula K)) :=
  fn_okD tysOk [C_i_parse K,.f _ (sp_i_formula_text (i_formula_text K K)) (ok_i_formula_text K K)] 0 (D_i_PartsOfFormula K) [(0,X0_i_PartsOfFormula)] rv_i_PartsOfFormula K Tryz.func12 (by kernel_rfl) ⟨⟨fun _ _ _ _=>by kernel_rfl,fun _ _ _=>rfl⟩,trivial⟩ (fun _=>by kernel_rfl)
noncomputable def C_i_PartsOfFormula (K:Nat):CB Tryz.prog:=.f _ _ (ok_i_PartsOfFormula K)
noncomputable def as_i_one:Ty:=(.pair .bool .unit)
noncomputable def sp_i_one (F:(Bool × Unit)->Option Int):FnSpec:=⟨as_i_one,[false],(.int .i64),F⟩
noncomputable def i_one (K:Nat) (x:(Bool × Unit)):Option Int :=
    (if x.1=true then
    some (1:Int)
    else
    some (0:Int))
noncomputable def rv_i_one:Lv:=[(2,(.v (.int .i64)))]
theorem ok_i_one (K:Nat):FnOk Tryz.prog 84 (sp_i_one (i_one K)) :=
  fn_okD tysOk [] 0 [] [] rv_i_one K Tryz.func84 (by kernel_rfl) trivial (fun _=>by kernel_rfl)
noncomputable def C_i_one (K:Nat):CB Tryz.prog:=.f _ _ (ok_i_one K)
noncomputable def i_formula_size_l3 {R:Type} (K:Nat) (r:(Frm × Unit)->Option Int):Nat->Frm->Int->Int->Int->(Frm->Int->Option R)->Option R
  | 0,_,_,_,_,_=>none
  | k + 1,v0,v3,v9,v10,kx0 =>
    (if (decide (v10 < v9))=true then
    (if (bnds v10 ((Frm.ps v0).length:Int))=true then
    (r (((Frm.ps v0).getD v10.toNat (Frm.mk 0 [])),())).bind fun y1 =>
    i_formula_size_l3 K r k v0 (IntKind.i64.wrap (v3 + y1)) v9 (IntKind.i64.wrap (v10 + (1:Int))) kx0
    else
    none)
    else
    kx0 v0 v3)
noncomputable def i_formula_size_b (K:Nat) (r:(Frm × Unit)->Option Int) (x:(Frm × Unit)):Option Int :=
    i_formula_size_l3 K r K x.1 (0:Int) ((Frm.ps x.1).length:Int) (0:Int) (fun z2 z3 =>
    (i_one K ((decide (((Frm.ps z2).length:Int) > (0:Int))),())).bind fun y4 =>
    some (IntKind.i64.wrap (z3 + y4)))
noncomputable def i_formula_size (K:Nat):Nat->(Frm × Unit)->Option Int
  | 0=>fun _=>none
  | k + 1=>i_formula_size_b K (i_formula_size K k)
noncomputable def X0_i_formula_size:Lv:=[(0,(.v (.ptr (.st .frm)))),(3,(.v (.int .i64)))]
noncomputable def rv_i_formula_size:Lv:=[(2,(.v (.int .i64)))]
noncomputable def D_i_formula_size (K:Nat) (r:(Frm × Unit)->Option Int):List (PD (den (.int .i64))):=[.L 3 [(0,(.v (.ptr (.st .frm)))),(3,(.v (.int .i64))),(9,(.v (.int .i64))),(10,(.v (.int .i64)))] [] (fun k x kx kr=>i_formula_size_l3 K r k x.1 x.2.1 x.2.2.1 x.2.2.2.1 (fun z0 z1=>kx 0 (mkSt X0_i_formula_size (z0,z1,()))))]
theorem okb_i_formula_size (K:Nat) (r:(Frm × Unit)->Option Int) (hr:FnOk Tryz.prog 47 (sp_i_formula_size r)):FnOk Tryz.prog 47 (sp_i_formula_size (i_formula_size_b K r)) :=
  fn_okD tysOkR [.f _ (sp_i_formula_size (r)) (hr),C_i_one K] 0 (D_i_formula_size K r) [(0,X0_i_formula_size)] rv_i_formula_size K Tryz.func47 (by kernel_rfl) ⟨⟨fun _ _ _ _=>by kernel_rfl,fun _ _ _=>rfl⟩,trivial⟩ (fun _=>by kernel_rfl)
theorem ok_i_formula_size (K:Nat):∀ k,FnOk Tryz.prog 47 (sp_i_formula_size (i_formula_size K k))
  | 0=>fnOk_none
  | k + 1=>okb_i_formula_size K (i_formula_size K k) (ok_i_formula_size K k)
noncomputable def as_i_SizeOfFormula:Ty:=(.pair .str .unit)
noncomputable def sp_i_SizeOfFormula (F:(ByteArray × Unit)->Option (Int × Int × Unit)):FnSpec:=⟨as_i_SizeOfFormula,[false],(.tup (.pair (.int .i64) (.pair (.int .i64) .unit))),F⟩
noncomputable def i_SizeOfFormula (K:Nat) (x:(ByteArray × Unit)):Option (Int × Int × Unit) :=
    (i_parse K (x.1,())).bind fun y1 =>
    (if (!y1.2.1)=true then
    some ((0:Int),(6:Int),())
    else
    (i_formula_size K K ((Frm.mk y1.1.1 y1.1.2.1),())).bind fun y2 =>
    some (y2,(0:Int),()))
noncomputable def rv_i_SizeOfFormula:Lv:=[(2,(.v (.int .i64))),(3,(.v (.int .i64)))]
theorem ok_i_SizeOfFormula (K:Nat):FnOk Tryz.prog 13 (sp_i_SizeOfFormula (i_SizeOfFormula K)) :=
  fn_okD tysOk [C_i_parse K,.f _ (sp_i_formula_size (i_formula_size K K)) (ok_i_formula_size K K)] 0 [] [] rv_i_SizeOfFormula K Tryz.func13 (by kernel_rfl) trivial (fun _=>by kernel_rfl)
noncomputable def C_i_SizeOfFormula (K:Nat):CB Tryz.prog:=.f _ _ (ok_i_SizeOfFormula K)
noncomputable def i_formula_depth_l3 {R:Type} (K:Nat) (r:(Frm × Unit)->Option Int):Nat->Frm->Int->Int->Int->(Frm->Int->Option R)->Option R
  | 0,_,_,_,_,_=>none
  | k + 1,v0,v3,v9,v10,kx0 =>
    (if (decide (v10 < v9))=true then
    (if (bnds v10 ((Frm.ps v0).length:Int))=true then
    (r (((Frm.ps v0).getD v10.toNat (Frm.mk 0 [])),())).bind fun y1 =>
    i_formula_depth_l3 K r k v0 (maxL v3 [y1]) v9 (IntKind.i64.wrap (v10 + (1:Int))) kx0
    else
    none)
    else
    kx0 v0 v3)
noncomputable def i_formula_depth_b (K:Nat) (r:(Frm × Unit)->Option Int) (x:(Frm × Unit)):Option Int :=
    i_formula_depth_l3 K r K x.1 (0:Int) ((Frm.ps x.1).length:Int) (0:Int) (fun z2 z3 =>
    (i_one K ((decide (((Frm.ps z2).length:Int) > (0:Int))),())).bind fun y4 =>
    some (IntKind.i64.wrap (z3 + y4)))
noncomputable def i_formula_depth (K:Nat):Nat->(Frm × Unit)->Option Int
  | 0=>fun _=>none
  | k + 1=>i_formula_depth_b K (i_formula_depth K k)
noncomputable def X0_i_formula_depth:Lv:=[(0,(.v (.ptr (.st .frm)))),(3,(.v (.int .i64)))]
noncomputable def rv_i_formula_depth:Lv:=[(2,(.v (.int .i64)))]
noncomputable def D_i_formula_depth (K:Nat) (r:(Frm × Unit)->Option Int):List (PD (den (.int .i64))):=[.L 3 [(0,(.v (.ptr (.st .frm)))),(3,(.v (.int .i64))),(9,(.v (.int .i64))),(10,(.v (.int .i64)))] [] (fun k x kx kr=>i_formula_depth_l3 K r k x.1 x.2.1 x.2.2.1 x.2.2.2.1 (fun z0 z1=>kx 0 (mkSt X0_i_formula_depth (z0,z1,()))))]
theorem okb_i_formula_depth (K:Nat) (r:(Frm × Unit)->Option Int) (hr:FnOk Tryz.prog 48 (sp_i_formula_depth r)):FnOk Tryz.prog 48 (sp_i_formula_depth (i_formula_depth_b K r)) :=
  fn_okD tysOkR [.f _ (sp_i_formula_depth (r)) (hr),C_i_one K] 0 (D_i_formula_depth K r) [(0,X0_i_formula_depth)] rv_i_formula_depth K Tryz.func48 (by kernel_rfl) ⟨⟨fun _ _ _ _=>by kernel_rfl,fun _ _ _=>rfl⟩,trivial⟩ (fun _=>by kernel_rfl)
theorem ok_i_formula_depth (K:Nat):∀ k,FnOk Tryz.prog 48 (sp_i_formula_depth (i_formula_depth K k))
  | 0=>fnOk_none
  | k + 1=>okb_i_formula_depth K (i_formula_depth K k) (ok_i_formula_depth K k)
noncomputable def as_i_DepthOfFormula:Ty:=(.pair .str .unit)
noncomputable def sp_i_DepthOfFormula (F:(ByteArray × Unit)->Option (Int × Int × Unit)):FnSpec:=⟨as_i_DepthOfFormula,[false],(.tup (.pair (.int .i64) (.pair (.int .i64) .unit))),F⟩
noncomputable def i_DepthOfFormula (K:Nat) (x:(ByteArray × Unit)):Option (Int × Int × Unit) :=
    (i_parse K (x.1,())).bind fun y1 =>
    (if (!y1.2.1)=true then
    some ((0:Int),(6:Int),())
    else
    (i_formula_depth K K ((Frm.mk y1.1.1 y1.1.2.1),())).bind fun y2 =>
    some (y2,(0:Int),()))
noncomputable def rv_i_DepthOfFormula:Lv:=[(2,(.v (.int .i64))),(3,(.v (.int .i64)))]
theorem ok_i_DepthOfFormula (K:Nat):FnOk Tryz.prog 14 (sp_i_DepthOfFormula (i_DepthOfFormula K)) :=
  fn_okD tysOk [C_i_parse K,.f _ (sp_i_formula_depth (i_formula_depth K K)) (ok_i_formula_depth K K)] 0 [] [] rv_i_DepthOfFormula K Tryz.func14 (by kernel_rfl) trivial (fun _=>by kernel_rfl)
noncomputable def C_i_DepthOfFormula (K:Nat):CB Tryz.prog:=.f _ _ (ok_i_DepthOfFormula K)
noncomputable def as_i_IsFormula:Ty:=(.pair .str .unit)
noncomputable def sp_i_IsFormula (F:(ByteArray × Unit)->Option Bool):FnSpec:=⟨as_i_IsFormula,[false],.bool,F⟩
noncomputable def i_IsFormula (K:Nat) (x:(ByteArray × Unit)):Option Bool :=
    (i_parse K (x.1,())).bind fun y1 =>
    some y1.2.1
noncomputable def rv_i_IsFormula:Lv:=[(2,(.v .bool))]
theorem ok_i_IsFormula (K:Nat):FnOk Tryz.prog 8 (sp_i_IsFormula (i_IsFormula K)) :=
  fn_okD tysOk [C_i_parse K] 0 [] [] rv_i_IsFormula K Tryz.func8 (by kernel_rfl) trivial (fun _=>by kernel_rfl)
noncomputable def C_i_IsFormula (K:Nat):CB Tryz.prog:=.f _ _ (ok_i_IsFormula K)
noncomputable def as_s_PartsOfFormula:Ty:=(.pair .str .unit)
noncomputable def sp_s_PartsOfFormula (F:(ByteArray × Unit)->Option ((List ByteArray) × Int × Unit)):FnSpec:=⟨as_s_PartsOfFormula,[false],(.tup (.pair (.sl .str) (.pair (.int .i64) .unit))),F⟩
noncomputable def s_PartsOfFormula (K:Nat) (x:(ByteArray × Unit)):Option ((List ByteArray) × Int × Unit) :=
    (s_l05Is K (x.1,())).bind fun y1 =>
    (if (!y1)=true then
    some (([]:List ByteArray),(6:Int),())
    else
    (s_l05Parts K (x.1,())).bind fun y2 =>
    some (y2,(0:Int),()))
noncomputable def rv_s_PartsOfFormula:Lv:=[(2,(.r .str)),(3,(.v (.int .i64)))]
theorem ok_s_PartsOfFormula (K:Nat):FnOk Tryz.prog 22 (sp_s_PartsOfFormula (s_PartsOfFormula K)) :=
  fn_okD tysOk [C_s_l05Is K,C_s_l05Parts K] 0 [] [] rv_s_PartsOfFormula K Tryz.func22 (by kernel_rfl) trivial (fun _=>by kernel_rfl)
noncomputable def C_s_PartsOfFormula (K:Nat):CB Tryz.prog:=.f _ _ (ok_s_PartsOfFormula K)
noncomputable def as_s_l05Size:Ty:=(.pair .str .unit)
noncomputable def sp_s_l05Size (F:(ByteArray × Unit)->Option Int):FnSpec:=⟨as_s_l05Size,[false],(.int .i64),F⟩
noncomputable def s_l05Size_l3 {R:Type} (K:Nat):Nat->ByteArray->Int->Int->(Int->Option R)->Option R
  | 0,_,_,_,_=>none
  | k + 1,v0,v3,v4,kx0 =>
    (if (decide (v4 < (v0.size:Int)))=true then
    (if (bnds v4 (v0.size:Int))=true then
    (s_l05Places K ((byteAt v0 v4),())).bind fun y1 =>
    (if (decide (y1 > (0:Int)))=true then
    s_l05Size_l3 K k v0 (IntKind.i64.wrap (v3 + (1:Int))) (IntKind.i64.wrap (v4 + (1:Int))) kx0
    else
    s_l05Size_l3 K k v0 v3 (IntKind.i64.wrap (v4 + (1:Int))) kx0)
    else
    none)
    else
    kx0 v3)
noncomputable def s_l05Size (K:Nat) (x:(ByteArray × Unit)):Option Int :=
    s_l05Size_l3 K K x.1 (0:Int) (0:Int) (fun z2 =>
    some z2)
noncomputable def X0_s_l05Size:Lv:=[(3,(.v (.int .i64)))]
noncomputable def rv_s_l05Size:Lv:=[(2,(.v (.int .i64)))]
noncomputable def D_s_l05Size (K:Nat):List (PD (den (.int .i64))):=[.L 3 [(0,(.v .str)),(3,(.v (.int .i64))),(4,(.v (.int .i64)))] [] (fun k x kx kr=>s_l05Size_l3 K k x.1 x.2.1 x.2.2.1 (fun z0=>kx 0 (mkSt X0_s_l05Size (z0,()))))]
theorem ok_s_l05Size (K:Nat):FnOk Tryz.prog 62 (sp_s_l05Size (s_l05Size K)) :=
  fn_okD tysOk [C_s_l05Places K] 0 (D_s_l05Size K) [(0,X0_s_l05Size)] rv_s_l05Size K Tryz.func62 (by kernel_rfl) ⟨⟨fun _ _ _ _=>by kernel_rfl,fun _ _ _=>rfl⟩,trivial⟩ (fun _=>by kernel_rfl)
noncomputable def C_s_l05Size (K:Nat):CB Tryz.prog:=.f _ _ (ok_s_l05Size K)
noncomputable def as_s_SizeOfFormula:Ty:=(.pair .str .unit)
noncomputable def sp_s_SizeOfFormula (F:(ByteArray × Unit)->Option (Int × Int × Unit)):FnSpec:=⟨as_s_SizeOfFormula,[false],(.tup (.pair (.int .i64) (.pair (.int .i64) .unit))),F⟩
noncomputable def s_SizeOfFormula (K:Nat) (x:(ByteArray × Unit)):Option (Int × Int × Unit) :=
    (s_l05Is K (x.1,())).bind fun y1 =>
    (if (!y1)=true then
    some ((0:Int),(6:Int),())
    else
    (s_l05Size K (x.1,())).bind fun y2 =>
    some (y2,(0:Int),()))
noncomputable def rv_s_SizeOfFormula:Lv:=[(2,(.v (.int .i64))),(3,(.v (.int .i64)))]
theorem ok_s_SizeOfFormula (K:Nat):FnOk Tryz.prog 26 (sp_s_SizeOfFormula (s_SizeOfFormula K)) :=
  fn_okD tysOk [C_s_l05Is K,C_s_l05Size K] 0 [] [] rv_s_SizeOfFormula K Tryz.func26 (by kernel_rfl) trivial (fun _=>by kernel_rfl)
noncomputable def C_s_SizeOfFormula (K:Nat):CB Tryz.prog:=.f _ _ (ok_s_SizeOfFormula K)
noncomputable def s_l05Depth_l3 {R:Type} (K:Nat) (r:(ByteArray × Unit)->Option Int):Nat->(List ByteArray)->Int->Int->(Int->Option R)->Option R
  | 0,_,_,_,_=>none
  | k + 1,v3,v4,v5,kx0 =>
    (if (decide (v5 < (v3.length:Int)))=true then
    (if (bnds v5 (v3.length:Int))=true then
    (r ((v3.getD v5.toNat ByteArray.empty),())).bind fun y2 =>
    s_l05Depth_l3 K r k v3 (maxL v4 [(IntKind.i64.wrap (y2 + (1:Int)))]) (IntKind.i64.wrap (v5 + (1:Int))) kx0
    else
    none)
    else
    kx0 v4)
noncomputable def s_l05Depth_b (K:Nat) (r:(ByteArray × Unit)->Option Int) (x:(ByteArray × Unit)):Option Int :=
    (s_l05Parts K (x.1,())).bind fun y1 =>
    s_l05Depth_l3 K r K y1 (0:Int) (0:Int) (fun z3 =>
    some z3)
noncomputable def s_l05Depth (K:Nat):Nat->(ByteArray × Unit)->Option Int
  | 0=>fun _=>none
  | k + 1=>s_l05Depth_b K (s_l05Depth K k)
noncomputable def X0_s_l05Depth:Lv:=[(4,(.v (.int .i64)))]
noncomputable def rv_s_l05Depth:Lv:=[(2,(.v (.int .i64)))]
noncomputable def D_s_l05Depth (K:Nat) (r:(ByteArray × Unit)->Option Int):List (PD (den (.int .i64))):=[.L 3 [(3,(.r .str)),(4,(.v (.int .i64))),(5,(.v (.int .i64)))] [] (fun k x kx kr=>s_l05Depth_l3 K r k x.1 x.2.1 x.2.2.1 (fun z0=>kx 0 (mkSt X0_s_l05Depth (z0,()))))]
theorem okb_s_l05Depth (K:Nat) (r:(ByteArray × Unit)->Option Int) (hr:FnOk Tryz.prog 63 (sp_s_l05Depth r)):FnOk Tryz.prog 63 (sp_s_l05Depth (s_l05Depth_b K r)) :=
  fn_okD tysOk [C_s_l05Parts K,.f _ (sp_s_l05Depth (r)) (hr)] 0 (D_s_l05Depth K r) [(0,X0_s_l05Depth)] rv_s_l05Depth K Tryz.func63 (by kernel_rfl) ⟨⟨fun _ _ _ _=>by kernel_rfl,fun _ _ _=>rfl⟩,trivial⟩ (fun _=>by kernel_rfl)
theorem ok_s_l05Depth (K:Nat):∀ k,FnOk Tryz.prog 63 (sp_s_l05Depth (s_l05Depth K k))
  | 0=>fnOk_none
  | k + 1=>okb_s_l05Depth K (s_l05Depth K k) (ok_s_l05Depth K k)
noncomputable def as_s_DepthOfFormula:Ty:=(.pair .str .unit)
noncomputable def sp_s_DepthOfFormula (F:(ByteArray × Unit)->Option (Int × Int × Unit)):FnSpec:=⟨as_s_DepthOfFormula,[false],(.tup (.pair (.int .i64) (.pair (.int .i64) .unit))),F⟩
noncomputable def s_DepthOfFormula (K:Nat) (x:(ByteArray × Unit)):Option (Int × Int × Unit) :=
    (s_l05Is K (x.1,())).bind fun y1 =>
    (if (!y1)=true then
    some ((0:Int),(6:Int),())
    else
    (s_l05Depth K K (x.1,())).bind fun y2 =>
    some (y2,(0:Int),()))
noncomputable def rv_s_DepthOfFormula:Lv:=[(2,(.v (.int .i64))),(3,(.v (.int .i64)))]
theorem ok_s_DepthOfFormula (K:Nat):FnOk Tryz.prog 27 (sp_s_DepthOfFormula (s_DepthOfFormula K)) :=
  fn_okD tysOk [C_s_l05Is K,.f _ (sp_s_l05Depth (s_l05Depth K K)) (ok_s_l05Depth K K)] 0 [] [] rv_s_DepthOfFormula K Tryz.func27 (by kernel_rfl) trivial (fun _=>by kernel_rfl)
noncomputable def C_s_DepthOfFormula (K:Nat):CB Tryz.prog:=.f _ _ (ok_s_DepthOfFormula K)
noncomputable def as_s_IsFormula:Ty:=(.pair .str .unit)
noncomputable def sp_s_IsFormula (F:(ByteArray × Unit)->Option Bool):FnSpec:=⟨as_s_IsFormula,[false],.bool,F⟩
noncomputable def s_IsFormula (K:Nat) (x:(ByteArray × Unit)):Option Bool :=
    (s_l05Is K (x.1,())).bind fun y1 =>
    some y1
noncomputable def rv_s_IsFormula:Lv:=[(2,(.v .bool))]
theorem ok_s_IsFormula (K:Nat):FnOk Tryz.prog 9 (sp_s_IsFormula (s_IsFormula K)) :=
  fn_okD tysOk [C_s_l05Is K] 0 [] [] rv_s_IsFormula K Tryz.func9 (by kernel_rfl) trivial (fun _=>by kernel_rfl)
noncomputable def C_s_IsFormula (K:Nat):CB Tryz.prog:=.f _ _ (ok_s_IsFormula K)
end Go.Proofs.YtefmjjpdflpnaaaGreat.E
namespace Go.Proofs.YtefmjjpdflpnaaaGreat.E
open Go Go.Proofs
set_option linter.unusedVariables false
set_option linter.unusedSimpArgs false
set_option maxRecDepth 100000
variable {K:Nat} {R:Type}
/-! formulas as bytes; sizes, depths, parts -/
mutual
/-- the bytes of a formula -/
def btF:FrB->List UInt8
  | .mk c ps=>c :: btL ps
def btL:List FrB->List UInt8
  | []=>[]
  | f :: fs=>btF f ++ btL fs
end
mutual
theorem btF_len:∀ f,(btF f).length=szF f
  | .mk c ps=>by rw [btF,szF,List.length_cons,btL_len ps]
theorem btL_len:∀ fs,(btL fs).length=szL fs
  | []=>by rw [btL,szL];rfl
  | f :: fs=>by rw [btL,szL,List.length_append,btF_len f,btL_len fs]
end
theorem rdN_bt {rd:List UInt8->Option (FrB × List UInt8)} (h:∀ l f l',rd l=some (f,l')->l=btF f ++ l'):∀ (m:Nat) (l:List UInt8) (fs:List FrB) (l':List UInt8),rdN rd m l=some (fs,l')->l=btL fs ++ l'
  | 0,l,fs,l',e=>by
    obtain ⟨rfl,rfl⟩:=Prod.mk.inj (Option.some.inj e)
    rw [btL];rfl
  | m + 1,l,fs,l',e=>by
    rw [rdN] at e
    cases h1:rd l with
    | none=>rw [h1] at e;cases e
    | some p =>
      obtain ⟨f,l1⟩:=p
      rw [h1] at e
      dsimp only at e
      cases h2:rdN rd m l1 with
      | none=>rw [h2] at e;cases e
      | some q =>
        obtain ⟨gs,l2⟩:=q
        rw [h2] at e
        obtain ⟨rfl,rfl⟩:=Prod.mk.inj (Option.some.inj e)
        rw [h l f l1 h1,rdN_bt h m l1 gs l2 h2,btL,List.append_assoc]
theorem rdF_bt:∀ (k:Nat) (l:List UInt8) (f:FrB) (l':List UInt8),rdF k l=some (f,l')->l=btF f ++ l'
  | 0,_,_,_,e=>by cases e
  | k + 1,[],_,_,e=>by cases e
  | k + 1,c :: l,f,l',e=>by
    obtain ⟨ps,rfl,h1,h2⟩:=rdF_head e
    rw [btF,List.cons_append,<-rdN_bt (fun l f l' h=>rdF_bt k l f l' h) _ _ _ _ h2]
theorem sz_pos:∀ f,0 < szF f
  | .mk c ps=>by rw [szF];omega
mutual
theorem bt_rdF:∀ (f:FrB) (k:Nat) (l:List UInt8),szF f < k->wfF f->rdF k (btF f ++ l)=some (f,l)
  | .mk c ps,0,l,h,_=>by omega
  | .mk c ps,k + 1,l,h,hw=>by
    rw [szF] at h
    rw [wfF] at hw
    rw [btF,List.cons_append,rdF,if_neg (by omega),hw.1,Int.toNat_natCast,bt_rdN ps k l (by omega) hw.2]
theorem bt_rdN:∀ (fs:List FrB) (k:Nat) (l:List UInt8),szL fs < k->wfL fs->rdN (rdF k) fs.length (btL fs ++ l)=some (fs,l)
  | [],k,l,_,_=>by rw [btL];rfl
  | f :: fs,k,l,h,hw=>by
    rw [szL] at h
    rw [wfL] at hw
    rw [btL,List.length_cons,rdN,List.append_assoc,bt_rdF f k _ (by omega) hw.1]
    dsimp only
    rw [bt_rdN fs k l (by omega) hw.2]
end
theorem rdT_bt {f:FrB} (hw:wfF f) (h:szF f<=60):rdT (btF f)=some f:=by
  have h1:=bt_rdF f ((btF f).length + 1) [] (by rw [btF_len];omega) hw
  rw [List.append_nil] at h1
  have h2:=btF_len f
  have h3:=sz_pos f
  rw [rdT,if_pos (by omega),h1]
theorem bt_of {L:List UInt8} {f:FrB} (h:rdT L=some f):L=btF f:=by
  unfold rdT at h
  split at h
  case isFalse=>cases h
  cases h1:rdF (L.length + 1) L with
  | none=>rw [h1] at h;cases h
  | some p =>
    obtain ⟨g,l'⟩:=p
    rw [h1] at h
    cases l' with
    | nil=>cases h;have:=rdF_bt _ _ _ _ h1;rwa [List.append_nil] at this
    | cons _ _=>cases h
/-! texts put together -/
theorem toB_app (a b:List UInt8):toB a ++ toB b=toB (a ++ b):=by
  apply ByteArray.ext
  rw [ByteArray.data_append]
  simp [toB]
theorem bytes1 (c:UInt8):bytesOf [((c.toNat:Nat):Int)]=toB [c]:=by
  simp [bytesOf,toB]
/-- the program's text -/
theorem text_l3 {r:(Frm × Unit)->Option ByteArray} (c:UInt8) (kx:ByteArray->Option R) (l:List FrB) (hr:∀ f ∈ l,r (toF f,())=some (toB (btF f))) (hl:l.length < 4611686018427387904):∀ (q p:List FrB) (a:List UInt8) (k:Nat),l=p ++ q->q.length < k->a.length + szL q < 4611686018427387904 →
    i_formula_text_l3 K r k (toF (.mk c l)) (toB a) (l.length:Int) (p.length:Int) kx=kx (toB (a ++ btL q))
  | _,_,_,0,_,h,_=>by omega
  | [],p,a,k + 1,h,_,_=>by
    subst h
    simp only [i_formula_text_l3]
    rw [ite_f nlt_len,btL]
    simp only [List.append_nil]
  | y :: q,p,a,k + 1,h,hk,hs=>by
    subst h
    rw [szL] at hs
    have ih:=text_l3 (r:=r) c kx (p ++ y :: q) hr hl q (p ++ [y]) (a ++ btF y) k (by simp) (by simp at hk;omega) (by rw [List.length_append,btF_len];omega)
    have hlen:(p ++ y :: q).length=p.length + (q.length + 1):=by simp
    simp only [i_formula_text_l3]
    rw [(toF_c c _).2,ite_t lt_len,ite_t (by rw [toFs_len];exact bnds_mid),toFs_mid,hr y (by simp),some_bind',ite_t (decide_eq_true (by rw [toB_size,toB_size,btF_len];omega)),toB_app,w64s (by omega),<-snoc_len p y,ih,btL,List.append_assoc]
theorem text_eq (hK:4611686018427387904<=K):∀ (k:Nat) (f:FrB),szF f < k->szF f < 4611686018427387903->i_formula_text K k (toF f,())=some (toB (btF f))
  | 0,f,h,_=>by omega
  | k + 1,.mk c ps,h,hb=>by
    rw [szF] at h hb
    have hl:=len_sz ps
    rw [i_formula_text]
    simp only [i_formula_text_b]
    rw [(toF_c c ps).1,(toF_c c ps).2,toFs_len,bytes1]
    refine (text_l3 (K:=K) (r:=i_formula_text K k) c _ ps (fun f hf=>text_eq hK k f (by have:=sz_mem hf;omega) (by have:=sz_mem hf;omega)) (by omega) ps [] [c] K rfl (by omega) (by simp;omega)).trans ?_
    rw [btF];rfl
/-! sizes -/
mutual
/-- how many gates a formula has -/
def gzF:FrB->Nat
  | .mk _ ps=>gzL ps + (if ps.length=0 then 0 else 1)
def gzL:List FrB->Nat
  | []=>0
  | f :: fs=>gzF f + gzL fs
end
mutual
theorem gzF_le:∀ f,gzF f<=szF f
  | .mk c ps=>by rw [gzF,szF];have:=gzL_le ps;split <;> omega
theorem gzL_le:∀ fs,gzL fs<=szL fs
  | []=>by rw [gzL,szL];exact Nat.le_refl _
  | f :: fs=>by rw [gzL,szL];have:=gzF_le f;have:=gzL_le fs;omega
end
theorem one_eq (n:Nat):i_one K (decide ((n:Int) > 0),())=some ((if n=0 then 0 else 1:Nat):Int):=by
  simp only [i_one]
  by_cases h:n=0
  · subst h;rfl
  · rw [ite_t (decide_eq_true (by omega)),if_neg h];rfl
theorem size_l3 {r:(Frm × Unit)->Option Int} (c:UInt8) (kx:Frm->Int->Option R) (l:List FrB) (hr:∀ f ∈ l,r (toF f,())=some ((gzF f:Nat):Int)) (hl:l.length < 4611686018427387904):∀ (q p:List FrB) (a k:Nat),l=p ++ q->q.length < k->a + gzL q < 4611686018427387904 →
    i_formula_size_l3 K r k (toF (.mk c l)) (a:Int) (l.length:Int) (p.length:Int) kx=kx (toF (.mk c l)) ((a + gzL q:Nat):Int)
  | _,_,_,0,_,h,_=>by omega
  | [],p,a,k + 1,h,_,_=>by
    subst h
    simp only [i_formula_size_l3]
    rw [ite_f nlt_len,gzL];rfl
  | y :: q,p,a,k + 1,h,hk,hs=>by
    subst h
    rw [gzL] at hs
    have ih:=size_l3 (r:=r) c kx (p ++ y :: q) hr hl q (p ++ [y]) (a + gzF y) k (by simp) (by simp at hk;omega) (by omega)
    have hlen:(p ++ y :: q).length=p.length + (q.length + 1):=by simp
    simp only [i_formula_size_l3]
    rw [(toF_c c _).2,ite_t lt_len,ite_t (by rw [toFs_len];exact bnds_mid),toFs_mid,hr y (by simp),some_bind',show ((a:Nat):Int) + ((gzF y:Nat):Int)=((a + gzF y:Nat):Int) by omega,w64n (by omega),w64s (by omega),<-snoc_len p y,ih,gzL,Nat.add_assoc]
theorem size_eq (hK:4611686018427387904<=K):∀ (k:Nat) (f:FrB),szF f < k->szF f < 4611686018427387903->i_formula_size K k (toF f,())=some ((gzF f:Nat):Int)
  | 0,f,h,_=>by omega
  | k + 1,.mk c ps,h,hb=>by
    rw [szF] at h hb
    have hl:=len_sz ps
    have hg:=gzL_le ps
    rw [i_formula_size]
    simp only [i_formula_size_b]
    rw [(toF_c c ps).2,toFs_len]
    refine (size_l3 (K:=K) (r:=i_formula_size K k) c _ ps (fun f hf=>size_eq hK k f (by have:=sz_mem hf;omega) (by have:=sz_mem hf;omega)) (by omega) ps [] 0 K rfl (by omega) (by omega)).trans ?_
    rw [(toF_c c ps).2,toFs_len,one_eq,some_bind',gzF,Nat.zero_add,show ((gzL ps:Nat):Int) + ((if ps.length=0 then 0 else 1:Nat):Int)=((gzL ps + (if ps.length=0 then 0 else 1):Nat):Int) by omega,w64n (by split <;> omega)]
mutual
/-- how deep a formula is -/
def dpF:FrB->Nat
  | .mk _ ps=>dpL ps + (if ps.length=0 then 0 else 1)
def dpL:List FrB->Nat
  | []=>0
  | f :: fs=>max (dpF f) (dpL fs)
end
mutual
theorem dpF_le:∀ f,dpF f<=gzF f
  | .mk c ps=>by rw [dpF,gzF];have:=dpL_le ps;omega
theorem dpL_le:∀ fs,dpL fs<=gzL fs
  | []=>by rw [dpL,gzL];exact Nat.le_refl _
  | f :: fs=>by rw [dpL,gzL];have:=dpF_le f;have:=dpL_le fs;omega
end
theorem maxL1 (a b:Nat):maxL (a:Int) [(b:Int)]=((max a b:Nat):Int):=by
  simp only [maxL]
  split <;> omega
theorem depth_l3 {r:(Frm × Unit)->Option Int} (c:UInt8) (kx:Frm->Int->Option R) (l:List FrB) (hr:∀ f ∈ l,r (toF f,())=some ((dpF f:Nat):Int)) (hl:l.length < 4611686018427387904):∀ (q p:List FrB) (a k:Nat),l=p ++ q->q.length < k →
    i_formula_depth_l3 K r k (toF (.mk c l)) (a:Int) (l.length:Int) (p.length:Int) kx=kx (toF (.mk c l)) ((max a (dpL q):Nat):Int)
  | _,_,_,0,_,h=>by omega
  | [],p,a,k + 1,h,_=>by
    subst h
    simp only [i_formula_depth_l3]
    rw [ite_f nlt_len,dpL,Nat.max_zero]
  | y :: q,p,a,k + 1,h,hk=>by
    subst h
    have ih:=depth_l3 (r:=r) c kx (p ++ y :: q) hr hl q (p ++ [y]) (max a (dpF y)) k (by simp) (by simp at hk;omega)
    have hlen:(p ++ y :: q).length=p.length + (q.length + 1):=by simp
    simp only [i_formula_depth_l3]
    rw [(toF_c c _).2,ite_t lt_len,ite_t (by rw [toFs_len];exact bnds_mid),toFs_mid,hr y (by simp),some_bind',maxL1,w64s (by omega),<-snoc_len p y,ih,dpL,Nat.max_assoc]
theorem depth_eq (hK:4611686018427387904<=K):∀ (k:Nat) (f:FrB),szF f < k->szF f < 4611686018427387903->i_formula_depth K k (toF f,())=some ((dpF f:Nat):Int)
  | 0,f,h,_=>by omega
  | k + 1,.mk c ps,h,hb=>by
    rw [szF] at h hb
    have hl:=len_sz ps
    have hg:=gzL_le ps
    have hd:=dpL_le ps
    rw [i_formula_depth]
    simp only [i_formula_depth_b]
    rw [(toF_c c ps).2,toFs_len]
    refine (depth_l3 (K:=K) (r:=i_formula_depth K k) c _ ps (fun f hf=>depth_eq hK k f (by have:=sz_mem hf;omega) (by have:=sz_mem hf;omega)) (by omega) ps [] 0 K rfl (by omega)).trans ?_
    rw [(toF_c c ps).2,toFs_len,one_eq,some_bind',dpF,Nat.zero_max,show ((dpL ps:Nat):Int) + ((if ps.length=0 then 0 else 1:Nat):Int)=((dpL ps + (if ps.length=0 then 0 else 1):Nat):Int) by omega,w64n (by split <;> omega)]
/-! the reference's side -/
def btT (f:FrB):ByteArray:=toB (btF f)
theorem txts_map {k N:Nat}:∀ {Ts:List ByteArray} {fs:List FrB},txtsOk k N Ts fs->Ts=fs.map btT
  | _,_,.nil=>rfl
  | _,_,.cons h r=>by
    rw [List.map_cons,txts_map r]
    congr 1
    have:=rdF_bt _ _ _ _ h.1
    rw [List.append_nil] at this
    rw [btT,<-this,toB_of]
theorem s_parts_eq (hK:4611686018427387904<=K) {c:UInt8} {ps:List FrB} (hw:wfF (.mk c ps)) (hs:szL ps < 4611686018427387902):s_l05Parts K (btT (.mk c ps),())=some (ps.map btT):=by
  rw [wfF] at hw
  have h3:=plcI_lt ((c.toNat:Nat):Int)
  have hl:(btL ps) <:+ (btT (.mk c ps)).data.toList:=by rw [btT,toB_l,btF];exact List.suffix_cons _ _
  have hz:(btT (.mk c ps)).size=szL ps + 1:=by rw [btT,toB_size,btF_len,szF]
  have hrd:=bt_rdN ps (szL ps + 1) [] (by omega) hw.2
  rw [List.append_nil] at hrd
  obtain ⟨Ts,t1,t2⟩:=parts_l2 (K:=K) (t:=btT (.mk c ps)) (k:=szL ps + 1) (by omega) hK (fun z5=>some z5) ps (btL ps) [] K hl (by rw [btL_len];omega) hrd (by omega) (by simp;omega)
  have hp:posR (btT (.mk c ps)).data.toList (btL ps)=1:=by
    unfold posR
    rw [<-size_tl,hz,btL_len];omega
  rw [hp] at t2
  simp only [s_l05Parts]
  rw [t2,List.nil_append,txts_map t1]
/-- the bytes that are gates -/
def gzB (l:List UInt8):Nat:=(l.filter fun c=>decide (0 < plcI (c.toNat:Int))).length
theorem gzB_app (a b:List UInt8):gzB (a ++ b)=gzB a + gzB b:=by rw [gzB,List.filter_append,List.length_append];rfl
theorem gzB_cons (c:UInt8) (l:List UInt8):gzB (c :: l)=(if 0 < plcI (c.toNat:Int) then 1 else 0) + gzB l:=by
  rw [gzB,List.filter_cons]
  by_cases h:0 < plcI (c.toNat:Int)
  · rw [if_pos (decide_eq_true h),if_pos h,List.length_cons,Nat.add_comm];rfl
  · rw [if_neg (by rw [decide_eq_false h];decide),if_neg h,Nat.zero_add];rfl
mutual
theorem gzB_F:∀ f,wfF f->gzB (btF f)=gzF f
  | .mk c ps,h=>by
    rw [wfF] at h
    rw [btF,gzB_cons,gzB_L ps h.2,gzF,h.1,Nat.add_comm]
    congr 1
    by_cases e:ps.length=0
    · rw [if_neg (by omega),if_pos e]
    · rw [if_pos (by omega),if_neg e]
theorem gzB_L:∀ fs,wfL fs->gzB (btL fs)=gzL fs
  | [],_=>by rw [btL,gzL];rfl
  | f :: fs,h=>by
    rw [wfL] at h
    rw [btL,gzL,gzB_app,gzB_F f h.1,gzB_L fs h.2]
end
theorem ssize_l3 {t:ByteArray} (hs:t.size < 4611686018427387904) (kx:Int->Option R):∀ (l:List UInt8) (k a:Nat),l <:+ t.data.toList->l.length < k->a + l.length < 4611686018427387904->s_l05Size_l3 K k t (a:Int) (posR t.data.toList l) kx=kx ((a + gzB l:Nat):Int)
  | _,0,_,_,h,_=>by omega
  | [],k + 1,a,_,_,_=>by
    simp only [s_l05Size_l3]
    rw [ite_f (decide_eq_false (by unfold posR;rw [size_tl];simp))];rfl
  | c :: l,k + 1,a,hl,hk,ha=>by
    obtain ⟨b1,b2,b3⟩:=byteAt_pos hl
    have hsz:=size_tl t
    have hp0:=posR_nn t.data.toList (c :: l)
    have hl2:l <:+ t.data.toList:=(List.suffix_cons c l).trans hl
    simp only [List.length_cons] at hk ha
    simp only [s_l05Size_l3]
    rw [ite_t (decide_eq_true b3),ite_t (bnds_t hp0 b3),b1,s_places_eq,some_bind',w64 (x:=posR t.data.toList (c :: l) + 1) (by omega) (by omega),<-b2,gzB_cons]
    by_cases h:0 < plcI ((c.toNat:Nat):Int)
    · rw [ite_t (decide_eq_true h),if_pos h,w64s (by omega),ssize_l3 hs kx l k (a + 1) hl2 (by omega) (by omega),Nat.add_assoc]
    · rw [ite_f (decide_eq_false h),if_neg h,ssize_l3 hs kx l k a hl2 (by omega) (by omega),Nat.zero_add]
theorem ssize_eq (hK:4611686018427387904<=K) {f:FrB} (hw:wfF f) (hs:szF f < 4611686018427387904):s_l05Size K (btT f,())=some ((gzF f:Nat):Int):=by
  have hz:(btT f).size=szF f:=by rw [btT,toB_size,btF_len]
  have hl:(btT f).data.toList=btF f:=toB_l _
  simp only [s_l05Size]
  have h:=ssize_l3 (K:=K) (t:=btT f) (by omega) (fun z=>some z) (btF f) K 0 (by rw [hl];exact List.suffix_refl _) (by rw [btF_len];omega) (by rw [btF_len];omega)
  rw [show posR (btT f).data.toList (btF f)=0 by rw [hl];unfold posR;omega,gzB_F f hw,Nat.zero_add] at h
  exact h
def mxD:Nat->List FrB->Nat
  | a,[]=>a
  | a,f :: fs=>mxD (max a (dpF f + 1)) fs
theorem mxD_eq:∀ (fs:List FrB) (a:Nat),mxD a fs=if fs.length=0 then a else max a (dpL fs + 1)
  | [],a=>rfl
  | [f],a=>by rw [mxD,mxD,if_neg (by simp),dpL,dpL,Nat.max_zero]
  | f :: g :: fs,a=>by
    have e:dpL (f :: g :: fs)=max (dpF f) (dpL (g :: fs)):=by rw [dpL]
    rw [mxD,mxD_eq (g :: fs),if_neg (by simp),if_neg (by simp),e]
    generalize dpL (g :: fs)=d
    omega
theorem sdepth_l3 {r:(ByteArray × Unit)->Option Int} (kx:Int->Option R) (l:List FrB) (hr:∀ f ∈ l,r (btT f,())=some ((dpF f:Nat):Int)) (hd:∀ f ∈ l,dpF f < 4611686018427387904) (hl:l.length < 4611686018427387904):∀ (q p:List FrB) (a k:Nat),l=p ++ q->q.length < k →
    s_l05Depth_l3 K r k (l.map btT) (a:Int) (p.length:Int) kx=kx ((mxD a q:Nat):Int)
  | _,_,_,0,_,h=>by omega
  | [],p,a,k + 1,h,_=>by
    subst h
    simp only [s_l05Depth_l3]
    rw [List.length_map,ite_f nlt_len];rfl
  | y :: q,p,a,k + 1,h,hk=>by
    subst h
    have ih:=sdepth_l3 (r:=r) kx (p ++ y :: q) hr hd hl q (p ++ [y]) (max a (dpF y + 1)) k (by simp) (by simp at hk;omega)
    have hlen:(p ++ y :: q).length=p.length + (q.length + 1):=by simp
    have hd1:=hd y (by simp)
    have hg:((p ++ y :: q).map btT).getD ((p.length:Nat):Int).toNat ByteArray.empty=btT y:=by
      rw [List.map_append,List.map_cons,show p.length=(p.map btT).length by rw [List.length_map]];exact getD_midI _ _ _ _
    simp only [s_l05Depth_l3]
    rw [List.length_map,ite_t lt_len,ite_t bnds_mid,hg,hr y (by simp),some_bind',w64s (by omega),maxL1,w64s (by omega),<-snoc_len p y,ih,mxD]
theorem sdepth_eq (hK:4611686018427387904<=K):∀ (k:Nat) (f:FrB),szF f < k->wfF f->szF f < 4611686018427387902->s_l05Depth K k (btT f,())=some ((dpF f:Nat):Int)
  | 0,f,h,_,_=>by omega
  | k + 1,.mk c ps,h,hw,hb=>by
    have hw0:=hw
    rw [szF] at h hb
    rw [wfF] at hw
    have hl:=len_sz ps
    rw [s_l05Depth]
    simp only [s_l05Depth_b]
    rw [s_parts_eq hK hw0 (by omega),some_bind']
    refine (sdepth_l3 (K:=K) (r:=s_l05Depth K k) _ ps (fun f hf=>sdepth_eq hK k f (by have:=sz_mem hf;omega) (wf_mem hw.2 hf) (by have:=sz_mem hf;omega)) (fun f hf=>by have:=sz_mem hf;have:=dpF_le f;have:=gzF_le f;omega) (by omega) ps [] 0 K rfl (by omega)).trans ?_
    rw [mxD_eq,dpF]
    by_cases e:ps.length=0
    · have:ps=[]:=List.length_eq_zero_iff.1 e
      subst this
      rw [dpL];rfl
    · rw [if_neg e,if_neg e,Nat.zero_max]
/-! what both packages answer about a text -/
theorem is_i {t:ByteArray} (hK:100<=K):i_IsFormula K (t,())=some (rdT t.data.toList).isSome:=by
  simp only [i_IsFormula]
  cases h:rdT t.data.toList with
  | none =>
    obtain ⟨v,hv⟩:=parse_none hK h
    rw [hv,some_bind'];rfl
  | some f=>rw [parse_some hK h,some_bind'];rfl
theorem is_s {t:ByteArray} (hs:t.size < 4611686018427387904) (hK:4611686018427387904<=K):s_IsFormula K (t,())=some (rdT t.data.toList).isSome:=by
  simp only [s_IsFormula]
  rw [s_is_eq hs hK,some_bind']
def numV (g:FrB->Nat) (L:List UInt8):Int × Int × Unit:=match rdT L with
  | none=>((0:Int),(6:Int),())
  | some f=>(((g f:Nat):Int),(0:Int),())
theorem text_of {t:ByteArray} {f:FrB} (h:rdT t.data.toList=some f):t=btT f/\wfF f/\szF f<=60:=by
  obtain ⟨h1,h2,h3,_⟩:=rdT_all 0 h
  exact ⟨by rw [btT,<-bt_of h,toB_of],h3,by omega⟩
theorem isize_eq {t:ByteArray} (hK:4611686018427387904<=K):i_SizeOfFormula K (t,())=some (numV gzF t.data.toList):=by
  simp only [i_SizeOfFormula]
  unfold numV
  cases h:rdT t.data.toList with
  | none =>
    obtain ⟨v,hv⟩:=parse_none (K:=K) (by omega) h
    rw [hv,some_bind'];rfl
  | some f =>
    obtain ⟨_,h3,h6⟩:=text_of h
    rw [parse_some (by omega) h,some_bind',ite_f (by rfl),frV_mk,size_eq hK K f (by omega) (by omega),some_bind']
theorem idepth_eq {t:ByteArray} (hK:4611686018427387904<=K):i_DepthOfFormula K (t,())=some (numV dpF t.data.toList):=by
  simp only [i_DepthOfFormula]
  unfold numV
  cases h:rdT t.data.toList with
  | none =>
    obtain ⟨v,hv⟩:=parse_none (K:=K) (by omega) h
    rw [hv,some_bind'];rfl
  | some f =>
    obtain ⟨_,h3,h6⟩:=text_of h
    rw [parse_some (by omega) h,some_bind',ite_f (by rfl),frV_mk,depth_eq hK K f (by omega) (by omega),some_bind']
theorem ssz_eq {t:ByteArray} (hs:t.size < 4611686018427387904) (hK:4611686018427387904<=K):s_SizeOfFormula K (t,())=some (numV gzF t.data.toList):=by
  simp only [s_SizeOfFormula]
  unfold numV
  rw [s_is_eq hs hK,some_bind']
  cases h:rdT t.data.toList with
  | none=>rfl
  | some f =>
    obtain ⟨h1,h3,h6⟩:=text_of h
    rw [ite_f (by rfl),h1,ssize_eq hK h3 (by omega),some_bind']
theorem sdp_eq {t:ByteArray} (hs:t.size < 4611686018427387904) (hK:4611686018427387904<=K):s_DepthOfFormula K (t,())=some (numV dpF t.data.toList):=by
  simp only [s_DepthOfFormula]
  unfold numV
  rw [s_is_eq hs hK,some_bind']
  cases h:rdT t.data.toList with
  | none=>rfl
  | some f =>
    obtain ⟨h1,h3,h6⟩:=text_of h
    rw [ite_f (by rfl),h1,sdepth_eq hK K f (by omega) h3 (by omega),some_bind']
def partsV (L:List UInt8):List ByteArray × Int × Unit:=match rdT L with
  | none=>([],(6:Int),())
  | some (.mk _ ps)=>(ps.map btT,(0:Int),())
theorem parts_l6 (c:Int) (kx:List ByteArray->Option R) (l:List FrB) (hs:szL l < 4611686018427387903) (hl:l.length < 100) (hK:4611686018427387904<=K):∀ (q p:List FrB) (k:Nat),l=p ++ q->q.length < k →
    i_PartsOfFormula_l6 K k c (toFs l) (p.map btT) (l.length:Int) (p.length:Int) kx=kx (l.map btT)
  | _,_,0,_,h=>by omega
  | [],p,k + 1,h,_=>by
    subst h
    simp only [i_PartsOfFormula_l6]
    rw [ite_f nlt_len]
    simp only [List.append_nil]
  | y :: q,p,k + 1,h,hk=>by
    subst h
    have ih:=parts_l6 c kx (p ++ y :: q) hs hl hK q (p ++ [y]) k (by simp) (by simp at hk;omega)
    have hlen:(p ++ y :: q).length=p.length + (q.length + 1):=by simp
    have hsy:=sz_mem (show y ∈ p ++ y :: q by simp)
    have hlim:(1099511627776:Nat)=lim:=rfl
    simp only [i_PartsOfFormula_l6]
    rw [ite_t lt_len,ite_t (by rw [toFs_len];exact bnds_mid),toFs_mid,text_eq hK K y (by omega) (by omega),some_bind',ite_t (decide_eq_true (by rw [List.length_map];simp only [List.length_cons,List.length_nil];omega)),w64s (by omega),<-snoc_len p y]
    rw [List.map_append] at ih
    exact ih
theorem iparts_eq {t:ByteArray} (hK:4611686018427387904<=K):i_PartsOfFormula K (t,())=some (partsV t.data.toList):=by
  simp only [i_PartsOfFormula]
  unfold partsV
  cases h:rdT t.data.toList with
  | none =>
    obtain ⟨v,hv⟩:=parse_none (K:=K) (by omega) h
    rw [hv,some_bind'];rfl
  | some f =>
    obtain ⟨c,ps⟩:=f
    obtain ⟨_,h3,h6⟩:=text_of h
    rw [szF] at h6
    have hl:=len_sz ps
    rw [parse_some (by omega) h,some_bind',ite_f (by rfl)]
    show i_PartsOfFormula_l6 K K ((c.toNat:Nat):Int) (toFs ps) [] ((toFs ps).length:Int) 0 _=_
    rw [toFs_len]
    exact parts_l6 (K:=K) _ (fun z4=>some (z4,(0:Int),())) ps (by omega) (by omega) hK ps [] K rfl (by omega)
theorem sparts_eq {t:ByteArray} (hs:t.size < 4611686018427387904) (hK:4611686018427387904<=K):s_PartsOfFormula K (t,())=some (partsV t.data.toList):=by
  simp only [s_PartsOfFormula]
  unfold partsV
  rw [s_is_eq hs hK,some_bind']
  cases h:rdT t.data.toList with
  | none=>rfl
  | some f =>
    obtain ⟨c,ps⟩:=f
    obtain ⟨h1,h3,h6⟩:=text_of h
    rw [szF] at h6
    rw [ite_f (by rfl),h1,s_parts_eq hK h3 (by omega),some_bind']
end Go.Proofs.YtefmjjpdflpnaaaGreat.E
namespace Go.Proofs.YtefmjjpdflpnaaaGreat.E
open Go Go.Proofs Go.Proofs.YtefmjjpdflpnaaaGreat
set_option maxRecDepth 100000
set_option linter.unusedVariables false
noncomputable def as_i_limited:Ty:=(.pair .str .unit)
noncomputable def sp_i_limited (F:(ByteArray × Unit)->Option (ByteArray × Int × Unit)):FnSpec:=⟨as_i_limited,[false],(.tup (.pair .str (.pair (.int .i64) .unit))),F⟩
noncomputable def i_limited (K:Nat) (x:(ByteArray × Unit)):Option (ByteArray × Int × Unit) :=
    (if (decide ((x.1.size:Int) > (60:Int)))=true then
    some ((⟨#[]⟩:ByteArray),(3:Int),())
    else
    some (x.1,(0:Int),()))
noncomputable def rv_i_limited:Lv:=[(2,(.v .str)),(3,(.v (.int .i64)))]
theorem ok_i_limited (K:Nat):FnOk Tryz.prog 42 (sp_i_limited (i_limited K)) :=
  fn_okD tysOk [] 0 [] [] rv_i_limited K Tryz.func42 (by kernel_rfl) trivial (fun _=>by kernel_rfl)
noncomputable def C_i_limited (K:Nat):CB Tryz.prog:=.f _ _ (ok_i_limited K)
end Go.Proofs.YtefmjjpdflpnaaaGreat.E
namespace Go.Proofs.YtefmjjpdflpnaaaGreat.E
open Go Go.Proofs Go.Proofs.YtefmjjpdflpnaaaGreat Go.Shelf
set_option maxRecDepth 100000
def sh_lays156_ren:Go.Shelf.Ren:=⟨fun | 156=>78 | 165=>101 | 166=>102 | 169=>103 | 240=>110 | 241=>111 | 276=>117 | 277=>118 | n=>n,fun | 31=>34 | 9=>9 | 3=>3 | 4=>4 | 0=>0 | 20=>20 | 72=>110 | 76=>114 | 70=>108 | 37=>22 | 75=>113 | 127=>121 | 164=>125 | 5=>5 | 80=>65 | n=>n,fun | n=>n⟩
theorem sh_lays156:Go.Proofs.Lays.n156 Tryz.prog sh_lays156_ren:={
  mixed:=by kernel_rfl
  f156:=Tryz.func78.trans (congrArg some (by kernel_rfl))
  f165:=Tryz.func101.trans (congrArg some (by kernel_rfl))
  f166:=Tryz.func102.trans (congrArg some (by kernel_rfl))
  f169:=Tryz.func103.trans (congrArg some (by kernel_rfl))
  f240:=Tryz.func110.trans (congrArg some (by kernel_rfl))
  f241:=Tryz.func111.trans (congrArg some (by kernel_rfl))
  f276:=Tryz.func117.trans (congrArg some (by kernel_rfl))
  f277:=Tryz.func118.trans (congrArg some (by kernel_rfl))
  t0:=Tryz.underlying0
  a0:=Tryz.isAgg0
  z0:=Tryz.sizeOf0
  v0:=Tryz.zeroValue0
  t3:=Tryz.underlying3
  a3:=Tryz.isAgg3
  z3:=Tryz.sizeOf3
  v3:=Tryz.zeroValue3
  t4:=Tryz.underlying4
  a4:=Tryz.isAgg4
  z4:=Tryz.sizeOf4
  v4:=Tryz.zeroValue4
  t9:=Tryz.underlying9
  a9:=Tryz.isAgg9
  z9:=Tryz.sizeOf9
  v9:=Tryz.zeroValue9
  t20:=Tryz.underlying20
  a20:=Tryz.isAgg20
  z20:=Tryz.sizeOf20
  v20:=Tryz.zeroValue20
  t31:=Tryz.underlying34
  a31:=Tryz.isAgg34
  z31:=Tryz.sizeOf34
  v31:=Tryz.zeroValue34
  t37:=Tryz.underlying22
  a37:=Tryz.isAgg22
  z37:=Tryz.sizeOf22
  v37:=Tryz.zeroValue22
  t70:=Tryz.underlying108
  a70:=Tryz.isAgg108
  z70:=Tryz.sizeOf108
  v70:=Tryz.zeroValue108
  t72:=Tryz.underlying110
  a72:=Tryz.isAgg110
  z72:=Tryz.sizeOf110
  v72:=Tryz.zeroValue110
  t75:=Tryz.underlying113
  a75:=Tryz.isAgg113
  z75:=Tryz.sizeOf113
  v75:=Tryz.zeroValue113
  t76:=Tryz.underlying114
  a76:=Tryz.isAgg114
  z76:=Tryz.sizeOf114
  v76:=Tryz.zeroValue114
  t127:=Tryz.underlying121
  a127:=Tryz.isAgg121
  z127:=Tryz.sizeOf121
  v127:=Tryz.zeroValue121
  t164:=Tryz.underlying125
  a164:=Tryz.isAgg125
  z164:=Tryz.sizeOf125
  v164:=Tryz.zeroValue125 }
theorem sh_Builder_Extra_156:Builder.Extra Tryz.prog sh_lays156_ren:={
  sizeBuilder:=by kernel_rfl
  liesBuilder:=by kernel_rfl
  t5:=Tryz.underlying5
  a5:=Tryz.isAgg5
  z5:=Tryz.sizeOf5
  v5:=Tryz.zeroValue5
  infoByte:=by kernel_rfl
  cellsByte:=by kernel_rfl
  sizeByte:=by kernel_rfl
  neB5:=by decide }
end Go.Proofs.YtefmjjpdflpnaaaGreat.E
namespace Go.Proofs.YtefmjjpdflpnaaaGreat.E
open Go Go.Proofs Go.Proofs.YtefmjjpdflpnaaaGreat Go.RowKit Go.Shelf
set_option maxRecDepth 100000
set_option linter.unusedVariables false
/-! texts, joined -/
noncomputable def joinF (x:List ByteArray × ByteArray × Unit):Option ByteArray :=
  if x.1.length<=140737488355328/\(Lib.join (x.1.map (·.data.toList)) x.2.1.data.toList).length<=140737488355328 then some ⟨(Lib.join (x.1.map (·.data.toList)) x.2.1.data.toList).toArray⟩ else none
theorem joinF_ok:FnOk Tryz.prog 78 ⟨.pair (.sl .str) (.pair .str .unit),[false,false],.str,joinF⟩:=by
  refine ⟨fun _=>?_,fun h=>by cases h⟩
  intro w vs x y hx hy
  obtain ⟨xs,sep,u⟩:=x
  have hy:joinF (xs,sep,u)=some y:=hy
  unfold joinF at hy
  split at hy
  case isFalse=>cases hy
  rename_i h
  obtain ⟨h1,h2⟩:=h
  cases hy
  obtain ⟨cs,r,rfl,hl,c2,r2,rfl,h3,h4⟩:=hx
  have h3:c2=[.string sep]:=h3
  have h4:r2=[]:=h4
  subst h3;subst h4
  obtain ⟨a,n,c,rfl,hn,hnc,hr⟩:=hl
  have hn:n=xs.length:=hn
  subst hn
  refine cf_of_calls Tryz.func78 (c:=bodyOf Tryz.f78) (by kernel_rfl) (by kernel_rfl) ?_
  show Calls Tryz.prog 78 #[.slice a xs.length c,.string sep] w _
  have fin:∀ (e:Ending) (w':World),e=.returned (.string ⟨(Lib.join (xs.map (·.data.toList)) sep.data.toList).toArray⟩)->Below w.heap.size w w'->∃ v,e=.returned v/\Ret .str ⟨(Lib.join (xs.map (·.data.toList)) sep.data.toList).toArray⟩ w v w':=fun e w' he hb =>
    ⟨_,he,ret_plain (R:=.str) rfl rfl rfl (c:=[.string ⟨(Lib.join (xs.map (·.data.toList)) sep.data.toList).toArray⟩]) ⟨rfl,rfl⟩ hb⟩
  rcases hr with hz | ⟨b,o,arr,ty,fz,rfl,hb,hh,ho,hel⟩
  · have hz:xs=[]:=hz
    subst hz
    refine (Any.strings_Join_none sh_lays156 sh_Builder_Extra_156 a c sep w).mono ?_
    rintro e w' ⟨rfl,rfl⟩
    exact fin _ _ rfl (Below.refl _ _)
  · refine (Any.strings_Join sh_lays156 sh_Builder_Extra_156 b o c xs sep w (fun j x hj=>?_) hb h1 hnc h2).mono ?_
    · have:=hel j x hj
      have hs:(Ty.str).sz=1:=rfl
      rw [hs,Nat.mul_one] at this
      have this:seg arr.toList (o + j) 1=[.string x]:=this
      rw [cellAt hh j]
      have h5:=congrArg (·[0]?) this
      simp only [seg_get] at h5
      simpa using h5
    · rintro e w' ⟨rfl,hbe⟩
      exact fin _ _ rfl hbe
end Go.Proofs.YtefmjjpdflpnaaaGreat.E
namespace Go.Proofs.YtefmjjpdflpnaaaGreat.E
open Go Go.Proofs Go.Proofs.YtefmjjpdflpnaaaGreat
set_option maxRecDepth 100000
set_option linter.unusedVariables false
noncomputable def as_strings_Join:Ty:=(.pair (.sl .str) (.pair .str .unit))
noncomputable def sp_strings_Join (F:((List ByteArray) × ByteArray × Unit)->Option ByteArray):FnSpec:=⟨as_strings_Join,[false,false],.str,F⟩
noncomputable def strings_Join (K:Nat) (x:List ByteArray × ByteArray × Unit):Option ByteArray:=joinF x
theorem ok_strings_Join (K:Nat):FnOk Tryz.prog 78 (sp_strings_Join (strings_Join K)):=joinF_ok
noncomputable def C_strings_Join (K:Nat):CB Tryz.prog:=.f _ _ (ok_strings_Join K)
noncomputable def i_formula_dual_l3 {R:Type} (K:Nat) (r:(Frm × Unit)->Option ByteArray):Nat->Frm->(List ByteArray)->Int->Int->(Frm->(List ByteArray)->Option R)->Option R
  | 0,_,_,_,_,_=>none
  | k + 1,v0,v3,v10,v11,kx0 =>
    (if (decide (v11 < v10))=true then
    (if (bnds v11 ((Frm.ps v0).length:Int))=true then
    (r (((Frm.ps v0).getD v11.toNat (Frm.mk 0 [])),())).bind fun y1 =>
    (if (decide (v3.length + ([y1]).length<=lim))=true then
    let l2:=(v3 ++ [y1])
    i_formula_dual_l3 K r k v0 l2 v10 (IntKind.i64.wrap (v11 + (1:Int))) kx0
    else
    none)
    else
    none)
    else
    kx0 v0 v3)
noncomputable def i_formula_dual_j21 {R:Type} (K:Nat) (r:(Frm × Unit)->Option ByteArray) (k:Nat) (v3:(List ByteArray)) (v5:ByteArray) (kn:Option R) (kr:(ByteArray->Option R)):Option R :=
    (strings_Join K (v3,(⟨#[]⟩:ByteArray),())).bind fun y6 =>
    (if (decide (v5.size + y6.size<=9223372036854775807))=true then
    kr (v5 ++ y6)
    else
    none)
noncomputable def i_formula_dual_b (K:Nat) (r:(Frm × Unit)->Option ByteArray) (x:(Frm × Unit)):Option ByteArray :=
    i_formula_dual_l3 K r K x.1 ([]:List ByteArray) ((Frm.ps x.1).length:Int) (0:Int) (fun z3 z4 =>
    let l5:=[(Frm.c z3)]
    (if (decide ((Frm.c z3)=(38:Int)))=true then
    i_formula_dual_j21 K r K z4 (⟨#[124]⟩:ByteArray) none (fun z7 =>
    some z7)
    else
    (if (decide ((Frm.c z3)=(124:Int)))=true then
    i_formula_dual_j21 K r K z4 (⟨#[38]⟩:ByteArray) none (fun z8 =>
    some z8)
    else
    (if (decide ((Frm.c z3)=(48:Int)))=true then
    i_formula_dual_j21 K r K z4 (⟨#[49]⟩:ByteArray) none (fun z9 =>
    some z9)
    else
    (if (decide ((Frm.c z3)=(49:Int)))=true then
    i_formula_dual_j21 K r K z4 (⟨#[48]⟩:ByteArray) none (fun z10 =>
    some z10)
    else
    (if (decide ((Frm.c z3)=(94:Int)))=true then
    i_formula_dual_j21 K r K z4 (⟨#[33,94]⟩:ByteArray) none (fun z11 =>
    some z11)
    else
    (if (decide ((Frm.c z3)=(63:Int)))=true then
    (if (bnds (2:Int) (z4.length:Int))=true then
    (if (bnds (1:Int) (z4.length:Int))=true then
    (if (bnds (1:Int) (z4.length:Int))=true then
    let l12:=(z4.set (1:Int).toNat (z4.getD (2:Int).toNat ByteArray.empty))
    (if (bnds (2:Int) (l12.length:Int))=true then
    let l13:=(l12.set (2:Int).toNat (z4.getD (1:Int).toNat ByteArray.empty))
    i_formula_dual_j21 K r K l13 (bytesOf l5) none (fun z14 =>
    some z14)
    else
    none)
    else
    none)
    else
    none)
    else
    none)
    else
    i_formula_dual_j21 K r K z4 (bytesOf l5) none (fun z15 =>
    some z15))))))))
noncomputable def i_formula_dual (K:Nat):Nat->(Frm × Unit)->Option ByteArray
  | 0=>fun _=>none
  | k + 1=>i_formula_dual_b K (i_formula_dual K k)
noncomputable def X0_i_formula_dual:Lv:=[(0,(.v (.ptr (.st .frm)))),(3,(.r .str))]
noncomputable def rv_i_formula_dual:Lv:=[(2,(.v .str))]
noncomputable def D_i_formula_dual (K:Nat) (r:(Frm × Unit)->Option ByteArray):List (PD (den .str)):=[.L 3 [(0,(.v (.ptr (.st .frm)))),(3,(.r .str)),(10,(.v (.int .i64))),(11,(.v (.int .i64)))] [] (fun k x kx kr=>i_formula_dual_l3 K r k x.1 x.2.1 x.2.2.1 x.2.2.2.1 (fun z0 z1=>kx 0 (mkSt X0_i_formula_dual (z0,z1,())))),
  .J 21 [(3,(.r .str)),(5,(.v .str))] [] 0 (fun k x kn kx kr=>i_formula_dual_j21 K r k x.1 x.2.1 (kn ()) (fun z0=>kr (mkSt rv_i_formula_dual (z0,()))))]
theorem okb_i_formula_dual (K:Nat) (r:(Frm × Unit)->Option ByteArray) (hr:FnOk Tryz.prog 43 (sp_i_formula_dual r)):FnOk Tryz.prog 43 (sp_i_formula_dual (i_formula_dual_b K r)) :=
  fn_okD tysOkR [.f _ (sp_i_formula_dual (r)) (hr),C_strings_Join K] 0 (D_i_formula_dual K r) [(0,X0_i_formula_dual)] rv_i_formula_dual K Tryz.func43 (by kernel_rfl) ⟨⟨fun _ _ _ _=>by kernel_rfl,fun _ _ _=>rfl⟩,⟨fun _ _ _ _ _=>by kernel_rfl,trivial⟩⟩ (fun _=>by kernel_rfl)
theorem ok_i_formula_dual (K:Nat):∀ k,FnOk Tryz.prog 43 (sp_i_formula_dual (i_formula_dual K k))
  | 0=>fnOk_none
  | k + 1=>okb_i_formula_dual K (i_formula_dual K k) (ok_i_formula_dual K k)
noncomputable def as_i_DualFormula:Ty:=(.pair .str .unit)
noncomputable def sp_i_DualFormula (F:(ByteArray × Unit)->Option (ByteArray × Int × Unit)):FnSpec:=⟨as_i_DualFormula,[false],(.tup (.pair .str (.pair (.int .i64) .unit))),F⟩
noncomputable def i_DualFormula (K:Nat) (x:(ByteArray × Unit)):Option (ByteArray × Int × Unit) :=
    (i_parse K (x.1,())).bind fun y1 =>
    (if (!y1.2.1)=true then
    some ((⟨#[]⟩:ByteArray),(6:Int),())
    else
    (i_formula_dual K K ((Frm.mk y1.1.1 y1.1.2.1),())).bind fun y2 =>
    (i_limited K (y2,())).bind fun y3 =>
    some (y3.1,y3.2.1,()))
noncomputable def rv_i_DualFormula:Lv:=[(2,(.v .str)),(3,(.v (.int .i64)))]
theorem ok_i_DualFormula (K:Nat):FnOk Tryz.prog 10 (sp_i_DualFormula (i_DualFormula K)) :=
  fn_okD tysOk [C_i_parse K,C_i_limited K,.f _ (sp_i_formula_dual (i_formula_dual K K)) (ok_i_formula_dual K K)] 0 [] [] rv_i_DualFormula K Tryz.func10 (by kernel_rfl) trivial (fun _=>by kernel_rfl)
noncomputable def C_i_DualFormula (K:Nat):CB Tryz.prog:=.f _ _ (ok_i_DualFormula K)
noncomputable def as_s_l05Told:Ty:=(.pair .str .unit)
noncomputable def sp_s_l05Told (F:(ByteArray × Unit)->Option (ByteArray × Int × Unit)):FnSpec:=⟨as_s_l05Told,[false],(.tup (.pair .str (.pair (.int .i64) .unit))),F⟩
noncomputable def s_l05Told (K:Nat) (x:(ByteArray × Unit)):Option (ByteArray × Int × Unit) :=
    (if (decide ((x.1.size:Int) > (60:Int)))=true then
    some ((⟨#[]⟩:ByteArray),(3:Int),())
    else
    some (x.1,(0:Int),()))
noncomputable def rv_s_l05Told:Lv:=[(2,(.v .str)),(3,(.v (.int .i64)))]
theorem ok_s_l05Told (K:Nat):FnOk Tryz.prog 54 (sp_s_l05Told (s_l05Told K)) :=
  fn_okD tysOk [] 0 [] [] rv_s_l05Told K Tryz.func54 (by kernel_rfl) trivial (fun _=>by kernel_rfl)
noncomputable def C_s_l05Told (K:Nat):CB Tryz.prog:=.f _ _ (ok_s_l05Told K)
noncomputable def s_l05Dual_l3 {R:Type} (K:Nat) (r:(ByteArray × Unit)->Option ByteArray):Nat->ByteArray->(List ByteArray)->Int->(ByteArray->(List ByteArray)->Option R)->Option R
  | 0,_,_,_,_=>none
  | k + 1,v0,v3,v4,kx0 =>
    (if (decide (v4 < (v3.length:Int)))=true then
    (if (bnds v4 (v3.length:Int))=true then
    (r ((v3.getD v4.toNat ByteArray.empty),())).bind fun y2 =>
    (if (bnds v4 (v3.length:Int))=true then
    let l3:=(v3.set v4.toNat y2)
    s_l05Dual_l3 K r k v0 l3 (IntKind.i64.wrap (v4 + (1:Int))) kx0
    else
    none)
    else
    none)
    else
    kx0 v0 v3)
noncomputable def s_l05Dual_l21 {R:Type} (K:Nat) (r:(ByteArray × Unit)->Option ByteArray):Nat->(List ByteArray)->ByteArray->Int->(ByteArray->Option R)->Option R
  | 0,_,_,_,_=>none
  | k + 1,v3,v5,v6,kx3 =>
    (if (decide (v6 < (v3.length:Int)))=true then
    (if (bnds v6 (v3.length:Int))=true then
    (if (decide (v5.size + (v3.getD v6.toNat ByteArray.empty).size<=9223372036854775807))=true then
    s_l05Dual_l21 K r k v3 (v5 ++ (v3.getD v6.toNat ByteArray.empty)) (IntKind.i64.wrap (v6 + (1:Int))) kx3
    else
    none)
    else
    none)
    else
    kx3 v5)
noncomputable def s_l05Dual_b (K:Nat) (r:(ByteArray × Unit)->Option ByteArray) (x:(ByteArray × Unit)):Option ByteArray :=
    (s_l05Parts K (x.1,())).bind fun y1 =>
    s_l05Dual_l3 K r K x.1 y1 (0:Int) (fun z4 z5 =>
    (if (bnds (0:Int) (z4.size:Int))=true then
    (if (decide ((byteAt z4 (0:Int))=(48:Int)))=true then
    some (⟨#[49]⟩:ByteArray)
    else
    (if (decide ((byteAt z4 (0:Int))=(49:Int)))=true then
    some (⟨#[48]⟩:ByteArray)
    else
    (if (decide ((byteAt z4 (0:Int))=(38:Int)))=true then
    (if (bnds (0:Int) (z5.length:Int))=true then
    (if (decide ((⟨#[124]⟩:ByteArray).size + (z5.getD (0:Int).toNat ByteArray.empty).size<=9223372036854775807))=true then
    let x6:=((⟨#[124]⟩:ByteArray) ++ (z5.getD (0:Int).toNat ByteArray.empty))
    (if (bnds (1:Int) (z5.length:Int))=true then
    (if (decide (x6.size + (z5.getD (1:Int).toNat ByteArray.empty).size<=9223372036854775807))=true then
    some (x6 ++ (z5.getD (1:Int).toNat ByteArray.empty))
    else
    none)
    else
    none)
    else
    none)
    else
    none)
    else
    (if (decide ((byteAt z4 (0:Int))=(124:Int)))=true then
    (if (bnds (0:Int) (z5.length:Int))=true then
    (if (decide ((⟨#[38]⟩:ByteArray).size + (z5.getD (0:Int).toNat ByteArray.empty).size<=9223372036854775807))=true then
    let x7:=((⟨#[38]⟩:ByteArray) ++ (z5.getD (0:Int).toNat ByteArray.empty))
    (if (bnds (1:Int) (z5.length:Int))=true then
    (if (decide (x7.size + (z5.getD (1:Int).toNat ByteArray.empty).size<=9223372036854775807))=true then
    some (x7 ++ (z5.getD (1:Int).toNat ByteArray.empty))
    else
    none)
    else
    none)
    else
    none)
    else
    none)
    else
    (if (decide ((byteAt z4 (0:Int))=(94:Int)))=true then
    (if (bnds (0:Int) (z5.length:Int))=true then
    (if (decide ((⟨#[33,94]⟩:ByteArray).size + (z5.getD (0:Int).toNat ByteArray.empty).size<=9223372036854775807))=true then
    let x8:=((⟨#[33,94]⟩:ByteArray) ++ (z5.getD (0:Int).toNat ByteArray.empty))
    (if (bnds (1:Int) (z5.length:Int))=true then
    (if (decide (x8.size + (z5.getD (1:Int).toNat ByteArray.empty).size<=9223372036854775807))=true then
    some (x8 ++ (z5.getD (1:Int).toNat ByteArray.empty))
    else
    none)
    else
    none)
    else
    none)
    else
    none)
    else
    (if (decide ((byteAt z4 (0:Int))=(63:Int)))=true then
    (if (bnds (0:Int) (z5.length:Int))=true then
    (if (decide ((⟨#[63]⟩:ByteArray).size + (z5.getD (0:Int).toNat ByteArray.empty).size<=9223372036854775807))=true then
    let x9:=((⟨#[63]⟩:ByteArray) ++ (z5.getD (0:Int).toNat ByteArray.empty))
    (if (bnds (2:Int) (z5.length:Int))=true then
    (if (decide (x9.size + (z5.getD (2:Int).toNat ByteArray.empty).size<=9223372036854775807))=true then
    (if (bnds (1:Int) (z5.length:Int))=true then
    (if (decide ((x9 ++ (z5.getD (2:Int).toNat ByteArray.empty)).size + (z5.getD (1:Int).toNat ByteArray.empty).size<=9223372036854775807))=true then
    let x10:=((x9 ++ (z5.getD (2:Int).toNat ByteArray.empty)) ++ (z5.getD (1:Int).toNat ByteArray.empty))
    some x10
    else
    none)
    else
    none)
    else
    none)
    else
    none)
    else
    none)
    else
    none)
    else
    (if (decide (0<=(0:Int)) && decide ((0:Int)<=(1:Int)) && decide ((1:Int)<=(z4.size:Int)))=true then
    s_l05Dual_l21 K r K z5 (z4.extract (0:Int).toNat (1:Int).toNat) (0:Int) (fun z11 =>
    some z11)
    else
    none)))))))
    else
    none))
noncomputable def s_l05Dual (K:Nat):Nat->(ByteArray × Unit)->Option ByteArray
  | 0=>fun _=>none
  | k + 1=>s_l05Dual_b K (s_l05Dual K k)
noncomputable def X0_s_l05Dual:Lv:=[(0,(.v .str)),(3,(.r .str))]
noncomputable def X3_s_l05Dual:Lv:=[(5,(.v .str))]
noncomputable def rv_s_l05Dual:Lv:=[(2,(.v .str))]
noncomputable def D_s_l05Dual (K:Nat) (r:(ByteArray × Unit)->Option ByteArray):List (PD (den .str)):=[.L 3 [(0,(.v .str)),(3,(.r .str)),(4,(.v (.int .i64)))] [] (fun k x kx kr=>s_l05Dual_l3 K r k x.1 x.2.1 x.2.2.1 (fun z0 z1=>kx 0 (mkSt X0_s_l05Dual (z0,z1,())))),
  .L 21 [(3,(.r .str)),(5,(.v .str)),(6,(.v (.int .i64)))] [] (fun k x kx kr=>s_l05Dual_l21 K r k x.1 x.2.1 x.2.2.1 (fun z0=>kx 3 (mkSt X3_s_l05Dual (z0,()))))]
theorem okb_s_l05Dual (K:Nat) (r:(ByteArray × Unit)->Option ByteArray) (hr:FnOk Tryz.prog 59 (sp_s_l05Dual r)):FnOk Tryz.prog 59 (sp_s_l05Dual (s_l05Dual_b K r)) :=
  fn_okD tysOk [.f _ (sp_s_l05Dual (r)) (hr),C_s_l05Parts K] 0 (D_s_l05Dual K r) [(0,X0_s_l05Dual),(3,X3_s_l05Dual)] rv_s_l05Dual K Tryz.func59 (by kernel_rfl) ⟨⟨fun _ _ _ _=>by kernel_rfl,fun _ _ _=>rfl⟩,⟨⟨fun _ _ _ _=>by kernel_rfl,fun _ _ _=>rfl⟩,trivial⟩⟩ (fun _=>by kernel_rfl)
theorem ok_s_l05Dual (K:Nat):∀ k,FnOk Tryz.prog 59 (sp_s_l05Dual (s_l05Dual K k))
  | 0=>fnOk_none
  | k + 1=>okb_s_l05Dual K (s_l05Dual K k) (ok_s_l05Dual K k)
noncomputable def as_s_DualFormula:Ty:=(.pair .str .unit)
noncomputable def sp_s_DualFormula (F:(ByteArray × Unit)->Option (ByteArray × Int × Unit)):FnSpec:=⟨as_s_DualFormula,[false],(.tup (.pair .str (.pair (.int .i64) .unit))),F⟩
noncomputable def s_DualFormula (K:Nat) (x:(ByteArray × Unit)):Option (ByteArray × Int × Unit) :=
    (s_l05Is K (x.1,())).bind fun y1 =>
    (if (!y1)=true then
    some ((⟨#[]⟩:ByteArray),(6:Int),())
    else
    (s_l05Dual K K (x.1,())).bind fun y2 =>
    (s_l05Told K (y2,())).bind fun y3 =>
    some (y3.1,y3.2.1,()))
noncomputable def rv_s_DualFormula:Lv:=[(2,(.v .str)),(3,(.v (.int .i64)))]
theorem ok_s_DualFormula (K:Nat):FnOk Tryz.prog 20 (sp_s_DualFormula (s_DualFormula K)) :=
  fn_okD tysOk [C_s_l05Is K,C_s_l05Told K,.f _ (sp_s_l05Dual (s_l05Dual K K)) (ok_s_l05Dual K K)] 0 [] [] rv_s_DualFormula K Tryz.func20 (by kernel_rfl) trivial (fun _=>by kernel_rfl)
noncomputable def C_s_DualFormula (K:Nat):CB Tryz.prog:=.f _ _ (ok_s_DualFormula K)
end Go.Proofs.YtefmjjpdflpnaaaGreat.E
namespace Go.Proofs.YtefmjjpdflpnaaaGreat.E
open Go Go.Proofs
set_option linter.unusedVariables false
set_option linter.unusedSimpArgs false
set_option maxRecDepth 100000
variable {K:Nat} {R:Type}
/-! dual formulas -/
def swpL {α:Type}:List α->List α
  | [a,b,c]=>[a,c,b]
  | l=>l
def duN (c:UInt8) (qs:List FrB):FrB :=
  if c=38 then .mk 124 qs else if c=124 then .mk 38 qs else if c=48 then .mk 49 qs else if c=49 then .mk 48 qs else if c=94 then .mk 33 [.mk 94 qs] else if c=63 then .mk 63 (swpL qs) else .mk c qs
mutual
/-- the dual formula -/
def dualF:FrB->FrB
  | .mk c ps=>duN c (dualL ps)
def dualL:List FrB->List FrB
  | []=>[]
  | f :: fs=>dualF f :: dualL fs
end
theorem dualL_map:∀ l,dualL l=l.map dualF
  | []=>by rw [dualL];rfl
  | f :: l=>by rw [dualL,dualL_map l];rfl
theorem swp_sz (l:List FrB):szL (swpL l)=szL l:=by
  unfold swpL
  split
  · simp only [szL];omega
  · rfl
theorem swp_map {α β:Type} (g:α->β) (l:List α):(swpL l).map g=swpL (l.map g):=by
  match l with
  | []=>rfl
  | [a]=>rfl
  | [a,b]=>rfl
  | [a,b,c]=>rfl
  | a :: b :: c :: d :: r=>rfl
theorem swp_len {α:Type} (l:List α):(swpL l).length=l.length:=by
  unfold swpL
  split
  · rfl
  · rfl
theorem duN_sz (c:UInt8) (qs:List FrB):szF (duN c qs)<=szL qs + 2:=by
  unfold duN
  repeat' split
  all_goals simp only [szF,szL,swp_sz]
  all_goals omega
mutual
theorem dualF_sz:∀ f,szF (dualF f)<=2 * szF f
  | .mk c ps=>by
    rw [dualF,szF]
    have:=duN_sz c (dualL ps)
    have:=dualL_sz ps
    omega
theorem dualL_sz:∀ fs,szL (dualL fs)<=2 * szL fs
  | []=>by rw [dualL];exact Nat.zero_le _
  | f :: fs=>by
    rw [dualL,szL,szL]
    have:=dualF_sz f
    have:=dualL_sz fs
    omega
end
theorem wfL_swp {l:List FrB} (h:wfL l):wfL (swpL l):=by
  unfold swpL
  split
  · simp only [wfL] at h ⊢
    exact ⟨h.1,h.2.2.1,h.2.1,trivial⟩
  · exact h
theorem duN_wf {c:UInt8} {qs:List FrB} (h1:plcI ((c.toNat:Nat):Int)=(qs.length:Int)) (h2:wfL qs):wfF (duN c qs):=by
  unfold duN
  split
  · rename_i e;subst e;rw [wfF];exact ⟨h1,h2⟩
  split
  · rename_i _ e;subst e;rw [wfF];exact ⟨h1,h2⟩
  split
  · rename_i _ _ e;subst e;rw [wfF];exact ⟨h1,h2⟩
  split
  · rename_i _ _ _ e;subst e;rw [wfF];exact ⟨h1,h2⟩
  split
  · rename_i _ _ _ _ e;subst e;rw [wfF]
    refine ⟨rfl,?_⟩
    rw [wfL,wfL,wfF]
    exact ⟨⟨h1,h2⟩,trivial⟩
  split
  · rename_i _ _ _ _ _ e;subst e;rw [wfF]
    exact ⟨by rw [swp_len];exact h1,wfL_swp h2⟩
  · rw [wfF];exact ⟨h1,h2⟩
theorem dualL_len:∀ l,(dualL l).length=l.length:=fun l=>by rw [dualL_map,List.length_map]
mutual
theorem dualF_wf:∀ f,wfF f->wfF (dualF f)
  | .mk c ps,h=>by
    rw [wfF] at h
    rw [dualF]
    exact duN_wf (by rw [dualL_len];exact h.1) (dualL_wf ps h.2)
theorem dualL_wf:∀ fs,wfL fs->wfL (dualL fs)
  | [],h=>by rw [dualL];exact h
  | f :: fs,h=>by
    rw [wfL] at h
    rw [dualL,wfL]
    exact ⟨dualF_wf f h.1,dualL_wf fs h.2⟩
end
theorem btL_flat:∀ l:List FrB,btL l=(l.map btF).flatten
  | []=>by rw [btL];rfl
  | f :: l=>by rw [btL,btL_flat l];rfl
theorem join_flat (l:List (List UInt8)):Lib.join l []=l.flatten:=by
  cases l with
  | nil=>rfl
  | cons a r=>rw [Lib.join_cons,Lib.joinTail];simp
theorem bt_data (l:List FrB):(l.map btT).map (·.data.toList)=l.map btF:=by
  rw [List.map_map];rfl
theorem join_bt {l:List FrB} (h1:l.length<=1000) (h2:szL l<=1000):strings_Join K (l.map btT,(⟨#[]⟩:ByteArray),())=some (toB (btL l)):=by
  simp only [strings_Join,joinF]
  have e:Lib.join ((l.map btT).map (·.data.toList)) ((⟨#[]⟩:ByteArray).data.toList)=btL l:=by
    rw [bt_data,btL_flat];exact join_flat _
  rw [e,if_pos ⟨by rw [List.length_map];omega,by rw [btL_len];omega⟩];rfl
theorem dual_l3 {r:(Frm × Unit)->Option ByteArray} (c:UInt8) (kx:Frm->List ByteArray->Option R) (l:List FrB) (hr:∀ f ∈ l,r (toF f,())=some (btT (dualF f))) (hl:l.length < 100):∀ (q p:List FrB) (k:Nat),l=p ++ q->q.length < k →
    i_formula_dual_l3 K r k (toF (.mk c l)) ((dualL p).map btT) (l.length:Int) (p.length:Int) kx=kx (toF (.mk c l)) ((dualL l).map btT)
  | _,_,0,_,h=>by omega
  | [],p,k + 1,h,_=>by
    subst h
    simp only [i_formula_dual_l3]
    rw [ite_f nlt_len]
    simp only [List.append_nil]
  | y :: q,p,k + 1,h,hk=>by
    subst h
    have ih:=dual_l3 (r:=r) c kx (p ++ y :: q) hr hl q (p ++ [y]) k (by simp) (by simp at hk;omega)
    have hlen:(p ++ y :: q).length=p.length + (q.length + 1):=by simp
    have hlim:(1099511627776:Nat)=lim:=rfl
    have e:(dualL (p ++ [y])).map btT=(dualL p).map btT ++ [btT (dualF y)]:=by rw [dualL_map,dualL_map,List.map_append,List.map_append];rfl
    simp only [i_formula_dual_l3]
    rw [(toF_c c _).2,ite_t lt_len,ite_t (by rw [toFs_len];exact bnds_mid),toFs_mid,hr y (by simp),some_bind',ite_t (decide_eq_true (by rw [List.length_map,dualL_len];simp only [List.length_cons,List.length_nil];omega)),w64s (by omega),<-snoc_len p y,<-e,ih]
theorem u8n {c d:UInt8} {x:Int} (hx:((d.toNat:Nat):Int)=x) (h:¬ c=d):decide (((c.toNat:Nat):Int)=x)=false :=
  decide_eq_false fun e=>h (UInt8.toNat_inj.1 (by omega))
theorem btXor (qs:List FrB):btF (.mk 33 [.mk 94 qs])=33 :: 94 :: btL qs:=by
  rw [btF,btL,btF,show btL ([]:List FrB)=[] by rw [btL],List.append_nil]
theorem dj21 {r:(Frm × Unit)->Option ByteArray} {k:Nat} {l:List FrB} (s:List UInt8) (kn:Option R) (kr:ByteArray->Option R) (h1:l.length<=1000) (h2:szL l<=1000) (h3:s.length<=10):i_formula_dual_j21 K r k (l.map btT) (toB s) kn kr=kr (toB (s ++ btL l)):=by
  simp only [i_formula_dual_j21]
  rw [join_bt h1 h2,some_bind',ite_t (decide_eq_true (by rw [toB_size,toB_size,btL_len];omega)),toB_app]
theorem three_of {α:Type} {l:List α} (h:l.length=3):∃ a b c,l=[a,b,c]:=by
  match l,h with
  | [a,b,c],_=>exact ⟨a,b,c,rfl⟩
theorem two_of {α:Type} {l:List α} (h:l.length=2):∃ a b,l=[a,b]:=by
  match l,h with
  | [a,b],_=>exact ⟨a,b,rfl⟩
theorem i_dual_eq (hK:4611686018427387904<=K):∀ (k:Nat) (f:FrB),szF f < k->szF f<=60->wfF f->i_formula_dual K k (toF f,())=some (btT (dualF f))
  | 0,f,h,_,_=>by omega
  | k + 1,.mk c ps,h,hb,hw=>by
    rw [szF] at h hb
    rw [wfF] at hw
    have hl:=len_sz ps
    have hds:=dualL_sz ps
    have hdl:=dualL_len ps
    have hc:c.toNat < 256:=c.toNat_lt
    rw [i_formula_dual]
    simp only [i_formula_dual_b]
    rw [(toF_c c ps).2,toFs_len]
    refine (dual_l3 (K:=K) (r:=i_formula_dual K k) c _ ps (fun f hf=>i_dual_eq hK k f (by have:=sz_mem hf;omega) (by have:=sz_mem hf;omega) (wf_mem hw.2 hf)) (by omega) ps [] K rfl (by omega)).trans ?_
    rw [(toF_c c ps).1,dualF,duN,bytes1]
    by_cases c1:c=38
    · subst c1
      rw [ite_t (by rfl),if_pos rfl]
      refine (dj21 (l:=dualL ps) [124] _ _ (by omega) (by omega) (by simp)).trans ?_
      rw [btT,btF];rfl
    rw [ite_f (u8n (d:=38) (x:=38) rfl c1),if_neg c1]
    by_cases c2:c=124
    · subst c2
      rw [ite_t (by rfl),if_pos rfl]
      refine (dj21 (l:=dualL ps) [38] _ _ (by omega) (by omega) (by simp)).trans ?_
      rw [btT,btF];rfl
    rw [ite_f (u8n (d:=124) (x:=124) rfl c2),if_neg c2]
    by_cases c3:c=48
    · subst c3
      rw [ite_t (by rfl),if_pos rfl]
      refine (dj21 (l:=dualL ps) [49] _ _ (by omega) (by omega) (by simp)).trans ?_
      rw [btT,btF];rfl
    rw [ite_f (u8n (d:=48) (x:=48) rfl c3),if_neg c3]
    by_cases c4:c=49
    · subst c4
      rw [ite_t (by rfl),if_pos rfl]
      refine (dj21 (l:=dualL ps) [48] _ _ (by omega) (by omega) (by simp)).trans ?_
      rw [btT,btF];rfl
    rw [ite_f (u8n (d:=49) (x:=49) rfl c4),if_neg c4]
    by_cases c5:c=94
    · subst c5
      rw [ite_t (by rfl),if_pos rfl]
      refine (dj21 (l:=dualL ps) [33,94] _ _ (by omega) (by omega) (by simp)).trans ?_
      rw [btT,btXor];rfl
    rw [ite_f (u8n (d:=94) (x:=94) rfl c5),if_neg c5]
    by_cases c6:c=63
    · subst c6
      have h3:ps.length=3:=by
        have h4:(3:Int)=(ps.length:Int):=hw.1
        omega
      obtain ⟨x,y,z,e⟩:=three_of (show (dualL ps).length=3 by omega)
      rw [ite_t (by rfl),if_pos rfl]
      have hsz:szL [x,z,y]<=1000:=by
        have:=swp_sz [x,y,z]
        rw [show swpL [x,y,z]=[x,z,y] from rfl] at this
        rw [this,<-e];omega
      rw [e]
      refine (show _=_ from dj21 (K:=K) (r:=i_formula_dual K k) (k:=K) (l:=[x,z,y]) [63] none (fun z14=>some z14) (by simp) hsz (by simp)).trans ?_
      rw [btT,btF];rfl
    rw [ite_f (u8n (d:=63) (x:=63) rfl c6),if_neg c6]
    refine (dj21 (l:=dualL ps) [c] _ _ (by omega) (by omega) (by simp)).trans ?_
    rw [btT,btF];rfl
theorem sdual_l3 {r:(ByteArray × Unit)->Option ByteArray} (v0:ByteArray) (kx:ByteArray->List ByteArray->Option R) (l:List FrB) (hr:∀ f ∈ l,r (btT f,())=some (btT (dualF f))) (hl:l.length < 100):∀ (q p:List FrB) (k:Nat),l=p ++ q->q.length < k →
    s_l05Dual_l3 K r k v0 ((dualL p).map btT ++ q.map btT) (p.length:Int) kx=kx v0 ((dualL l).map btT)
  | _,_,0,_,h=>by omega
  | [],p,k + 1,h,_=>by
    subst h
    simp only [s_l05Dual_l3,List.map_nil,List.append_nil]
    rw [ite_f (decide_eq_false (by rw [List.length_map,dualL_len];omega))]
  | y :: q,p,k + 1,h,hk=>by
    subst h
    have ih:=sdual_l3 (r:=r) v0 kx (p ++ y :: q) hr hl q (p ++ [y]) k (by simp) (by simp at hk;omega)
    have hlen:(p ++ y :: q).length=p.length + (q.length + 1):=by simp
    have hp:p.length=((dualL p).map btT).length:=by rw [List.length_map,dualL_len]
    have e:(dualL (p ++ [y])).map btT ++ q.map btT=((dualL p).map btT ++ btT y :: q.map btT).set p.length (btT (dualF y)):=by
      rw [hp,set_mid,dualL_map,dualL_map,List.map_append,List.map_append];simp
    have hb:bnds ((p.length:Nat):Int) ((((dualL p).map btT ++ btT y :: q.map btT).length:Nat):Int)=true:=by rw [hp];exact bnds_mid
    have hg:((dualL p).map btT ++ btT y :: q.map btT).getD ((p.length:Nat):Int).toNat ByteArray.empty=btT y:=by rw [hp];exact getD_midI _ _ _ _
    simp only [s_l05Dual_l3,List.map_cons]
    rw [ite_t (by rw [hp];exact lt_len),ite_t hb,hg,hr y (by simp),some_bind',ite_t hb,w64s (by omega),Int.toNat_natCast,<-e,<-snoc_len p y,ih]
theorem sdual_l21 {r:(ByteArray × Unit)->Option ByteArray} (kx:ByteArray->Option R) (l:List FrB) (hl:l.length < 100):∀ (q p:List FrB) (a:List UInt8) (k:Nat),l=p ++ q->q.length < k->a.length + szL q<=1000 →
    s_l05Dual_l21 K r k (l.map btT) (toB a) (p.length:Int) kx=kx (toB (a ++ btL q))
  | _,_,_,0,_,h,_=>by omega
  | [],p,a,k + 1,h,_,_=>by
    subst h
    simp only [s_l05Dual_l21]
    rw [List.length_map,ite_f nlt_len,btL,List.append_nil]
  | y :: q,p,a,k + 1,h,hk,hs=>by
    subst h
    rw [szL] at hs
    have ih:=sdual_l21 (r:=r) kx (p ++ y :: q) hl q (p ++ [y]) (a ++ btF y) k (by simp) (by simp at hk;omega) (by rw [List.length_append,btF_len];omega)
    have hlen:(p ++ y :: q).length=p.length + (q.length + 1):=by simp
    have hg:((p ++ y :: q).map btT).getD ((p.length:Nat):Int).toNat ByteArray.empty=btT y:=by
      rw [List.map_append,List.map_cons,show p.length=(p.map btT).length by rw [List.length_map]];exact getD_midI _ _ _ _
    simp only [s_l05Dual_l21]
    rw [List.length_map,ite_t lt_len,ite_t bnds_mid,hg,ite_t (decide_eq_true (by rw [toB_size,btT,toB_size,btF_len];omega)),btT,toB_app,w64s (by omega),<-snoc_len p y,ih,btL,List.append_assoc]
theorem btT_size (f:FrB):(btT f).size=szF f:=by rw [btT,toB_size,btF_len]
theorem s_dual_eq (hK:4611686018427387904<=K):∀ (k:Nat) (f:FrB),szF f < k->szF f<=60->wfF f->s_l05Dual K k (btT f,())=some (btT (dualF f))
  | 0,f,h,_,_=>by omega
  | k + 1,.mk c ps,h,hb,hw=>by
    have hw0:=hw
    have hsz:=btT_size (.mk c ps)
    rw [szF] at h hb hsz
    rw [wfF] at hw
    have hl:=len_sz ps
    have hds:=dualL_sz ps
    have hdl:=dualL_len ps
    have hc:c.toNat < 256:=c.toNat_lt
    rw [s_l05Dual]
    simp only [s_l05Dual_b]
    rw [s_parts_eq hK hw0 (by omega),some_bind']
    refine (sdual_l3 (K:=K) (r:=s_l05Dual K k) (btT (.mk c ps)) _ ps (fun f hf=>s_dual_eq hK k f (by have:=sz_mem hf;omega) (by have:=sz_mem hf;omega) (wf_mem hw.2 hf)) (by omega) ps [] K rfl (by omega)).trans ?_
    have hb0:byteAt (btT (.mk c ps)) 0=((c.toNat:Nat):Int):=by rw [btT,btF];rfl
    rw [ite_t (bnds_t (by decide) (by omega)),hb0,dualF,duN]
    have two:∀ (s:List UInt8) (g:UInt8),s.length<=10->(dualL ps).length=2->∃ x y,dualL ps=[x,y]/\(toB s ++ btT x) ++ btT y=toB (s ++ btL (dualL ps))/\(toB s).size + (btT x).size<=9223372036854775807/\(toB s ++ btT x).size + (btT y).size<=9223372036854775807:=by
      intro s g hs h2
      obtain ⟨x,y,e⟩:=two_of h2
      refine ⟨x,y,e,?_,?_,?_⟩
      · rw [e,btT,btT,toB_app,toB_app,btL,btL,btL];simp
      · rw [e] at hds;simp only [szL] at hds
        rw [toB_size,btT_size];omega
      · rw [e] at hds;simp only [szL] at hds
        rw [btT,toB_app,toB_size,btT_size,List.length_append,btF_len];omega
    by_cases c3:c=48
    · subst c3
      have e:dualL ps=[]:=by
        have h4:(0:Int)=(ps.length:Int):=hw.1
        exact List.length_eq_zero_iff.1 (by omega)
      rw [ite_t (by rfl),e,if_neg (by decide),if_neg (by decide),if_pos rfl]
      show some (⟨#[49]⟩:ByteArray)=some (toB (btF (.mk 49 [])))
      rw [btF,btL];rfl
    rw [ite_f (u8n (d:=48) (x:=48) rfl c3)]
    by_cases c4:c=49
    · subst c4
      have e:dualL ps=[]:=by
        have h4:(0:Int)=(ps.length:Int):=hw.1
        exact List.length_eq_zero_iff.1 (by omega)
      rw [ite_t (by rfl),e,if_neg (by decide),if_neg (by decide),if_neg (by decide),if_pos rfl]
      show some (⟨#[48]⟩:ByteArray)=some (toB (btF (.mk 48 [])))
      rw [btF,btL];rfl
    rw [ite_f (u8n (d:=49) (x:=49) rfl c4)]
    by_cases c1:c=38
    · subst c1
      obtain ⟨x,y,e,e1,e2,e3⟩:=two [124] 0 (by simp) (by have h4:(2:Int)=(ps.length:Int):=hw.1;omega)
      rw [ite_t (by rfl),if_pos rfl]
      rw [e] at e1 ⊢
      refine (ite_t (by rfl)).trans ((ite_t (decide_eq_true e2)).trans ((ite_t (by rfl)).trans ((ite_t (decide_eq_true e3)).trans ?_)))
      refine (congrArg some e1).trans ?_
      rw [btT,btF];rfl
    rw [ite_f (u8n (d:=38) (x:=38) rfl c1),if_neg c1]
    by_cases c2:c=124
    · subst c2
      obtain ⟨x,y,e,e1,e2,e3⟩:=two [38] 0 (by simp) (by have h4:(2:Int)=(ps.length:Int):=hw.1;omega)
      rw [ite_t (by rfl),if_pos rfl]
      rw [e] at e1 ⊢
      refine (ite_t (by rfl)).trans ((ite_t (decide_eq_true e2)).trans ((ite_t (by rfl)).trans ((ite_t (decide_eq_true e3)).trans ?_)))
      refine (congrArg some e1).trans ?_
      rw [btT,btF];rfl
    rw [ite_f (u8n (d:=124) (x:=124) rfl c2),if_neg c2,if_neg c3,if_neg c4]
    by_cases c5:c=94
    · subst c5
      obtain ⟨x,y,e,e1,e2,e3⟩:=two [33,94] 0 (by simp) (by have h4:(2:Int)=(ps.length:Int):=hw.1;omega)
      rw [ite_t (by rfl),if_pos rfl]
      rw [e] at e1 ⊢
      refine (ite_t (by rfl)).trans ((ite_t (decide_eq_true e2)).trans ((ite_t (by rfl)).trans ((ite_t (decide_eq_true e3)).trans ?_)))
      refine (congrArg some e1).trans ?_
      rw [btT,btXor];rfl
    rw [ite_f (u8n (d:=94) (x:=94) rfl c5),if_neg c5]
    by_cases c6:c=63
    · subst c6
      have h3:ps.length=3:=by
        have h4:(3:Int)=(ps.length:Int):=hw.1
        omega
      obtain ⟨x,y,z,e⟩:=three_of (show (dualL ps).length=3 by omega)
      rw [ite_t (by rfl),if_pos rfl]
      rw [e] at hds ⊢
      simp only [szL] at hds
      have e1:((toB [63] ++ btT x) ++ btT z) ++ btT y=toB ([63] ++ btL [x,z,y]):=by
        rw [btT,btT,btT,toB_app,toB_app,toB_app,btL,btL,btL,btL];simp
      have e2:(toB [63]).size + (btT x).size<=9223372036854775807:=by rw [toB_size,btT_size];simp;omega
      have e3:(toB [63] ++ btT x).size + (btT z).size<=9223372036854775807:=by rw [btT,toB_app,toB_size,btT_size,List.length_append,btF_len];simp;omega
      have e4:((toB [63] ++ btT x) ++ btT z).size + (btT y).size<=9223372036854775807:=by rw [btT,btT,toB_app,toB_app,toB_size,btT_size,List.length_append,List.length_append,btF_len,btF_len];simp;omega
      refine (ite_t (by rfl)).trans ((ite_t (decide_eq_true e2)).trans ((ite_t (by rfl)).trans ((ite_t (decide_eq_true e3)).trans ((ite_t (by rfl)).trans ((ite_t (decide_eq_true e4)).trans ?_)))))
      refine (congrArg some e1).trans ?_
      rw [btT,btF];rfl
    rw [ite_f (u8n (d:=63) (x:=63) rfl c6),if_neg c6,ite_t (by
      rw [decide_eq_true (show (1:Int)<=(((btT (.mk c ps)).size:Nat):Int) by omega)];rfl)]
    have hx:(btT (.mk c ps)).extract (0:Int).toNat (1:Int).toNat=toB [c]:=by
      have:=extract_l (t:=btT (.mk c ps)) (x:=[]) (a:=[c]) (l:=btL ps) (by rw [btT,btF];rfl)
      exact this
    rw [hx]
    refine (sdual_l21 (K:=K) (r:=s_l05Dual K k) _ (dualL ps) (by omega) (dualL ps) [] [c] K rfl (by omega) (by simp;omega)).trans ?_
    rw [btT,btF];rfl
/-! what both packages answer -/
def toldV (L:List UInt8):ByteArray × Int × Unit:=if L.length<=60 then (toB L,0,()) else (⟨#[]⟩,3,())
def dualV (L:List UInt8):ByteArray × Int × Unit:=match rdT L with
  | none=>(⟨#[]⟩,6,())
  | some f=>toldV (btF (dualF f))
theorem limited_eq (L:List UInt8):i_limited K (toB L,())=some (toldV L):=by
  simp only [i_limited]
  unfold toldV
  by_cases h:L.length<=60
  · rw [ite_f (decide_eq_false (by rw [toB_size];omega)),if_pos h]
  · rw [ite_t (decide_eq_true (by rw [toB_size];omega)),if_neg h]
theorem told_eq (L:List UInt8):s_l05Told K (toB L,())=some (toldV L):=by
  simp only [s_l05Told]
  unfold toldV
  by_cases h:L.length<=60
  · rw [ite_f (decide_eq_false (by rw [toB_size];omega)),if_pos h]
  · rw [ite_t (decide_eq_true (by rw [toB_size];omega)),if_neg h]
theorem idual_eq {t:ByteArray} (hK:4611686018427387904<=K):i_DualFormula K (t,())=some (dualV t.data.toList):=by
  simp only [i_DualFormula]
  unfold dualV
  cases h:rdT t.data.toList with
  | none =>
    obtain ⟨v,hv⟩:=parse_none (K:=K) (by omega) h
    rw [hv,some_bind'];rfl
  | some f =>
    obtain ⟨_,h3,h6⟩:=text_of h
    rw [parse_some (by omega) h,some_bind',ite_f (by rfl),frV_mk,i_dual_eq hK K f (by omega) h6 h3,some_bind',btT,limited_eq,some_bind']
theorem sdual_eq {t:ByteArray} (hs:t.size < 4611686018427387904) (hK:4611686018427387904<=K):s_DualFormula K (t,())=some (dualV t.data.toList):=by
  simp only [s_DualFormula]
  unfold dualV
  rw [s_is_eq hs hK,some_bind']
  cases h:rdT t.data.toList with
  | none=>rfl
  | some f =>
    obtain ⟨h1,h3,h6⟩:=text_of h
    rw [ite_f (by rfl),h1,s_dual_eq hK K f (by omega) h6 h3,some_bind',btT,told_eq,some_bind']
end Go.Proofs.YtefmjjpdflpnaaaGreat.E
namespace Go.Proofs.YtefmjjpdflpnaaaGreat.E
open Go Go.Proofs Go.Proofs.YtefmjjpdflpnaaaGreat
set_option maxRecDepth 100000
set_option linter.unusedVariables false
noncomputable def as_slices_IndexFunc_string:Ty:=(.pair (.sl .str) (.pair (.fn (.pair .str .unit) .bool) .unit))
noncomputable def sp_slices_IndexFunc_string (F:((List ByteArray) × ((ByteArray × Unit)->Option Bool) × Unit)->Option Int):FnSpec:=⟨as_slices_IndexFunc_string,[false,false],(.int .i64),F⟩
noncomputable def slices_IndexFunc_string_l2 {R:Type} (K:Nat):Nat->(List ByteArray)->((ByteArray × Unit)->Option Bool)->Int->Int->(Option R)->(Int->Option R)->Option R
  | 0,_,_,_,_,_,_=>none
  | k + 1,v0,v1,v7,v8,kx0,kr =>
    (if (decide (v8 < v7))=true then
    (if (bnds v8 (v0.length:Int))=true then
    (v1 ((v0.getD v8.toNat ByteArray.empty),())).bind fun y1 =>
    (if y1=true then
    kr v8
    else
    slices_IndexFunc_string_l2 K k v0 v1 v7 (IntKind.i64.wrap (v8 + (1:Int))) kx0 kr)
    else
    none)
    else
    kx0)
noncomputable def slices_IndexFunc_string (K:Nat) (x:((List ByteArray) × ((ByteArray × Unit)->Option Bool) × Unit)):Option Int :=
    slices_IndexFunc_string_l2 K K x.1 x.2.1 (x.1.length:Int) (0:Int) (some (-1:Int)) (fun z2 =>
    some z2)
noncomputable def X0_slices_IndexFunc_string:Lv:=[]
noncomputable def rv_slices_IndexFunc_string:Lv:=[(4,(.v (.int .i64)))]
noncomputable def D_slices_IndexFunc_string (K:Nat):List (PD (den (.int .i64))):=[.L 2 [(0,(.v (.sl .str))),(1,(.v (.fn (.pair .str .unit) .bool))),(7,(.v (.int .i64))),(8,(.v (.int .i64)))] [] (fun k x kx kr=>slices_IndexFunc_string_l2 K k x.1 x.2.1 x.2.2.1 x.2.2.2.1 (kx 0 (mkSt X0_slices_IndexFunc_string ())) (fun z0=>kr (mkSt rv_slices_IndexFunc_string (z0,()))))]
theorem ok_slices_IndexFunc_string (K:Nat):FnOk Tryz.prog 85 (sp_slices_IndexFunc_string (slices_IndexFunc_string K)) :=
  fn_okD tysOk [] 0 (D_slices_IndexFunc_string K) [(0,X0_slices_IndexFunc_string)] rv_slices_IndexFunc_string K Tryz.func85 (by kernel_rfl) ⟨⟨fun _ _ _ _=>by kernel_rfl,fun _ _ _=>rfl⟩,trivial⟩ (fun _=>by kernel_rfl)
noncomputable def C_slices_IndexFunc_string (K:Nat):CB Tryz.prog:=.f _ _ (ok_slices_IndexFunc_string K)
noncomputable def as_slices_ContainsFunc_string:Ty:=(.pair (.sl .str) (.pair (.fn (.pair .str .unit) .bool) .unit))
noncomputable def sp_slices_ContainsFunc_string (F:((List ByteArray) × ((ByteArray × Unit)->Option Bool) × Unit)->Option Bool):FnSpec:=⟨as_slices_ContainsFunc_string,[false,false],.bool,F⟩
noncomputable def slices_ContainsFunc_string (K:Nat) (x:((List ByteArray) × ((ByteArray × Unit)->Option Bool) × Unit)):Option Bool :=
    (slices_IndexFunc_string K (x.1,x.2.1,())).bind fun y1 =>
    some (decide (y1 ≥ (0:Int)))
noncomputable def rv_slices_ContainsFunc_string:Lv:=[(4,(.v .bool))]
theorem ok_slices_ContainsFunc_string (K:Nat):FnOk Tryz.prog 51 (sp_slices_ContainsFunc_string (slices_ContainsFunc_string K)) :=
  fn_okD tysOk [C_slices_IndexFunc_string K] 0 [] [] rv_slices_ContainsFunc_string K Tryz.func51 (by kernel_rfl) trivial (fun _=>by kernel_rfl)
noncomputable def C_slices_ContainsFunc_string (K:Nat):CB Tryz.prog:=.f _ _ (ok_slices_ContainsFunc_string K)
noncomputable def as_i_PutFormulas_c1:Ty:=(.pair .str .unit)
noncomputable def sp_i_PutFormulas_c1 (F:(ByteArray × Unit)->Option Bool):FnSpec:=⟨as_i_PutFormulas_c1,[false],.bool,F⟩
noncomputable def i_PutFormulas_c1 (K:Nat) (x:(ByteArray × Unit)):Option Bool :=
    (i_IsFormula K (x.1,())).bind fun y1 =>
    some (!y1)
noncomputable def rv_i_PutFormulas_c1:Lv:=[(2,(.v .bool))]
theorem ok_i_PutFormulas_c1 (K:Nat):FnOk Tryz.prog 52 (sp_i_PutFormulas_c1 (i_PutFormulas_c1 K)) :=
  fn_okD tysOk [C_i_IsFormula K] 0 [] [] rv_i_PutFormulas_c1 K Tryz.func52 (by kernel_rfl) trivial (fun _=>by kernel_rfl)
noncomputable def C_i_PutFormulas_c1 (K:Nat):CB Tryz.prog:=.f _ _ (ok_i_PutFormulas_c1 K)
noncomputable def as_i_PutFormulas:Ty:=(.pair .str (.pair (.sl .str) .unit))
noncomputable def sp_i_PutFormulas (F:(ByteArray × (List ByteArray) × Unit)->Option (ByteArray × Int × Unit)):FnSpec:=⟨as_i_PutFormulas,[false,false],(.tup (.pair .str (.pair (.int .i64) .unit))),F⟩
noncomputable def i_PutFormulas_l7 {R:Type} (K:Nat):Nat->ByteArray->(List ByteArray)->ByteArray->Int->Int->(ByteArray->Option R)->Option R
  | 0,_,_,_,_,_,_=>none
  | k + 1,v0,v1,v6,v20,v21,kx0 =>
    (if (decide (v21 < v20))=true then
    (if (bnds v21 (v0.size:Int))=true then
    (strings_IndexByte K ((⟨#[97,98,99,100]⟩:ByteArray),(byteAt v0 v21),())).bind fun y4 =>
    (if (decide (y4 ≥ (0:Int)))=true then
    (if (bnds y4 (v1.length:Int))=true then
    (if (decide (v6.size + (v1.getD y4.toNat ByteArray.empty).size<=9223372036854775807))=true then
    i_PutFormulas_l7 K k v0 v1 (v6 ++ (v1.getD y4.toNat ByteArray.empty)) v20 (IntKind.i64.wrap (v21 + (1:Int))) kx0
    else
    none)
    else
    none)
    else
    (if (decide (0<=v21) && decide (v21<=(IntKind.i64.wrap (v21 + (1:Int)))) && decide ((IntKind.i64.wrap (v21 + (1:Int)))<=(v0.size:Int)))=true then
    let x5:=(v0.extract v21.toNat (IntKind.i64.wrap (v21 + (1:Int))).toNat)
    (if (decide (v6.size + x5.size<=9223372036854775807))=true then
    i_PutFormulas_l7 K k v0 v1 (v6 ++ x5) v20 (IntKind.i64.wrap (v21 + (1:Int))) kx0
    else
    none)
    else
    none))
    else
    none)
    else
    kx0 v6)
noncomputable def i_PutFormulas_j3 {R:Type} (K:Nat) (k:Nat) (v0:ByteArray) (v1:(List ByteArray)) (kn:Option R) (kr:(ByteArray->Int->Option R)):Option R :=
    (if (!decide ((v1.length:Int)=(4:Int)))=true then
    kr (⟨#[]⟩:ByteArray) (2:Int)
    else
    i_PutFormulas_l7 K k v0 v1 (⟨#[]⟩:ByteArray) (v0.size:Int) (0:Int) (fun z6 =>
    (i_limited K (z6,())).bind fun y7 =>
    kr y7.1 y7.2.1))
noncomputable def i_PutFormulas (K:Nat) (x:(ByteArray × (List ByteArray) × Unit)):Option (ByteArray × Int × Unit) :=
    (i_IsFormula K (x.1,())).bind fun y1 =>
    (if (!y1)=true then
    some ((⟨#[]⟩:ByteArray),(6:Int),())
    else
    (slices_ContainsFunc_string K (x.2.1,(fun y3=>i_PutFormulas_c1 K (y3.1,())),())).bind fun y2 =>
    (if y2=true then
    some ((⟨#[]⟩:ByteArray),(6:Int),())
    else
    i_PutFormulas_j3 K K x.1 x.2.1 none (fun z8 z9 =>
    some (z8,z9,()))))
noncomputable def X0_i_PutFormulas:Lv:=[(6,(.v .str))]
noncomputable def rv_i_PutFormulas:Lv:=[(4,(.v .str)),(5,(.v (.int .i64)))]
noncomputable def D_i_PutFormulas (K:Nat):List (PD (den (.tup (.pair .str (.pair (.int .i64) .unit))))):=[.J 3 [(0,(.v .str)),(1,(.v (.sl .str)))] [] 0 (fun k x kn kx kr=>i_PutFormulas_j3 K k x.1 x.2.1 (kn ()) (fun z0 z1=>kr (mkSt rv_i_PutFormulas (z0,z1,())))),
  .L 7 [(0,(.v .str)),(1,(.v (.sl .str))),(6,(.v .str)),(20,(.v (.int .i64))),(21,(.v (.int .i64)))] [] (fun k x kx kr=>i_PutFormulas_l7 K k x.1 x.2.1 x.2.2.1 x.2.2.2.1 x.2.2.2.2.1 (fun z0=>kx 0 (mkSt X0_i_PutFormulas (z0,()))))]
theorem ok_i_PutFormulas (K:Nat):FnOk Tryz.prog 16 (sp_i_PutFormulas (i_PutFormulas K)) :=
  fn_okD tysOk [C_i_IsFormula K,C_i_limited K,C_slices_ContainsFunc_string K,C_i_PutFormulas_c1 K,C_strings_IndexByte K] 0 (D_i_PutFormulas K) [(0,X0_i_PutFormulas)] rv_i_PutFormulas K Tryz.func16 (by kernel_rfl) ⟨fun _ _ _ _ _=>by kernel_rfl,⟨⟨fun _ _ _ _=>by kernel_rfl,fun _ _ _=>rfl⟩,trivial⟩⟩ (fun _=>by kernel_rfl)
noncomputable def C_i_PutFormulas (K:Nat):CB Tryz.prog:=.f _ _ (ok_i_PutFormulas K)
noncomputable def as_s_PutFormulas:Ty:=(.pair .str (.pair (.sl .str) .unit))
noncomputable def sp_s_PutFormulas (F:(ByteArray × (List ByteArray) × Unit)->Option (ByteArray × Int × Unit)):FnSpec:=⟨as_s_PutFormulas,[false,false],(.tup (.pair .str (.pair (.int .i64) .unit))),F⟩
noncomputable def s_PutFormulas_l4 {R:Type} (K:Nat):Nat->ByteArray->(List ByteArray)->Int->(ByteArray->(List ByteArray)->Option R)->(ByteArray->Int->Option R)->Option R
  | 0,_,_,_,_,_=>none
  | k + 1,v0,v1,v6,kx0,kr =>
    (if (decide (v6 < (v1.length:Int)))=true then
    (if (bnds v6 (v1.length:Int))=true then
    (s_l05Is K ((v1.getD v6.toNat ByteArray.empty),())).bind fun y2 =>
    (if (!y2)=true then
    kr (⟨#[]⟩:ByteArray) (6:Int)
    else
    s_PutFormulas_l4 K k v0 v1 (IntKind.i64.wrap (v6 + (1:Int))) kx0 kr)
    else
    none)
    else
    kx0 v0 v1)
noncomputable def s_PutFormulas_j15 {R:Type} (K:Nat) (k:Nat) (v0:ByteArray) (v1:(List ByteArray)) (v7:ByteArray) (v8:Int) (kn:ByteArray->(List ByteArray)->ByteArray->Int->Option R) :Option R :=
    gN K ((if (bnds v8 (v0.size:Int))=true then
    (if (bnds (IntKind.u8.wrap ((byteAt v0 v8) - (97:Int))) (v1.length:Int))=true then
    let x5:=(v1.getD (IntKind.u8.wrap ((byteAt v0 v8) - (97:Int))).toNat ByteArray.empty)
    (if (decide (v7.size + x5.size<=9223372036854775807))=true then
    kn v0 v1 (v7 ++ x5) v8
    else
    none)
    else
    none)
    else
    none))
noncomputable def s_PutFormulas_j13 {R:Type} (K:Nat) (k:Nat) (v0:ByteArray) (v1:(List ByteArray)) (v7:ByteArray) (v8:Int) (kn:ByteArray->(List ByteArray)->ByteArray->Int->Option R) :Option R :=
    kn v0 v1 v7 (IntKind.i64.wrap (v8 + (1:Int)))
noncomputable def s_PutFormulas_j16 {R:Type} (K:Nat) (k:Nat) (v0:ByteArray) (v1:(List ByteArray)) (v7:ByteArray) (v8:Int) (kn:ByteArray->(List ByteArray)->ByteArray->Int->Option R) :Option R :=
    gN K ((if (decide (0<=v8) && decide (v8<=(IntKind.i64.wrap (v8 + (1:Int)))) && decide ((IntKind.i64.wrap (v8 + (1:Int)))<=(v0.size:Int)))=true then
    let x14:=(v0.extract v8.toNat (IntKind.i64.wrap (v8 + (1:Int))).toNat)
    (if (decide (v7.size + x14.size<=9223372036854775807))=true then
    kn v0 v1 (v7 ++ x14) v8
    else
    none)
    else
    none))
noncomputable def s_PutFormulas_l12 {R:Type} (K:Nat):Nat->ByteArray->(List ByteArray)->ByteArray->Int->(ByteArray->Option R)->Option R
  | 0,_,_,_,_,_=>none
  | k + 1,v0,v1,v7,v8,kx2 =>
    (if (decide (v8 < (v0.size:Int)))=true then
    (if (bnds v8 (v0.size:Int))=true then
    (if (decide ((byteAt v0 v8) ≥ (97:Int)))=true then
    (if (bnds v8 (v0.size:Int))=true then
    (if (decide ((byteAt v0 v8)<=(100:Int)))=true then
    s_PutFormulas_j15 K k v0 v1 v7 v8 (fun z6 z7 z8 z9 =>
    s_PutFormulas_j13 K k z6 z7 z8 z9 (fun z10 z11 z12 z13 =>
    s_PutFormulas_l12 K k z10 z11 z12 z13 kx2))
    else
    s_PutFormulas_j16 K k v0 v1 v7 v8 (fun z15 z16 z17 z18 =>
    s_PutFormulas_j13 K k z15 z16 z17 z18 (fun z19 z20 z21 z22 =>
    s_PutFormulas_l12 K k z19 z20 z21 z22 kx2)))
    else
    none)
    else
    s_PutFormulas_j16 K k v0 v1 v7 v8 (fun z23 z24 z25 z26 =>
    s_PutFormulas_j13 K k z23 z24 z25 z26 (fun z27 z28 z29 z30 =>
    s_PutFormulas_l12 K k z27 z28 z29 z30 kx2)))
    else
    none)
    else
    kx2 v7)
noncomputable def s_PutFormulas (K:Nat) (x:(ByteArray × (List ByteArray) × Unit)):Option (ByteArray × Int × Unit) :=
    (s_l05Is K (x.1,())).bind fun y1 =>
    (if (!y1)=true then
    some ((⟨#[]⟩:ByteArray),(6:Int),())
    else
    s_PutFormulas_l4 K K x.1 x.2.1 (0:Int) (fun z3 z4 =>
    (if (!decide ((z4.length:Int)=(4:Int)))=true then
    some ((⟨#[]⟩:ByteArray),(2:Int),())
    else
    s_PutFormulas_l12 K K z3 z4 (⟨#[]⟩:ByteArray) (0:Int) (fun z31 =>
    (s_l05Told K (z31,())).bind fun y32 =>
    some (y32.1,y32.2.1,())))) (fun z33 z34 =>
    some (z33,z34,())))
noncomputable def X0_s_PutFormulas:Lv:=[(0,(.v .str)),(1,(.v (.sl .str)))]
noncomputable def X2_s_PutFormulas:Lv:=[(7,(.v .str))]
noncomputable def rv_s_PutFormulas:Lv:=[(4,(.v .str)),(5,(.v (.int .i64)))]
noncomputable def D_s_PutFormulas (K:Nat):List (PD (den (.tup (.pair .str (.pair (.int .i64) .unit))))):=[.L 4 [(0,(.v .str)),(1,(.v (.sl .str))),(6,(.v (.int .i64)))] [] (fun k x kx kr=>s_PutFormulas_l4 K k x.1 x.2.1 x.2.2.1 (fun z0 z1=>kx 0 (mkSt X0_s_PutFormulas (z0,z1,()))) (fun z0 z1=>kr (mkSt rv_s_PutFormulas (z0,z1,())))),
  .L 12 [(0,(.v .str)),(1,(.v (.sl .str))),(7,(.v .str)),(8,(.v (.int .i64)))] [] (fun k x kx kr=>s_PutFormulas_l12 K k x.1 x.2.1 x.2.2.1 x.2.2.2.1 (fun z0=>kx 2 (mkSt X2_s_PutFormulas (z0,())))),
  .J 15 [(0,(.v .str)),(1,(.v (.sl .str))),(7,(.v .str)),(8,(.v (.int .i64)))] [(0,(.v .str)),(1,(.v (.sl .str))),(7,(.v .str)),(8,(.v (.int .i64)))] K (fun k x kn kx kr=>s_PutFormulas_j15 K k x.1 x.2.1 x.2.2.1 x.2.2.2.1 (fun z0 z1 z2 z3=>kn (z0,z1,z2,z3,()))),
  .J 16 [(0,(.v .str)),(1,(.v (.sl .str))),(7,(.v .str)),(8,(.v (.int .i64)))] [(0,(.v .str)),(1,(.v (.sl .str))),(7,(.v .str)),(8,(.v (.int .i64)))] K (fun k x kn kx kr=>s_PutFormulas_j16 K k x.1 x.2.1 x.2.2.1 x.2.2.2.1 (fun z0 z1 z2 z3=>kn (z0,z1,z2,z3,()))),
  .J 13 [(0,(.v .str)),(1,(.v (.sl .str))),(7,(.v .str)),(8,(.v (.int .i64)))] [(0,(.v .str)),(1,(.v (.sl .str))),(7,(.v .str)),(8,(.v (.int .i64)))] 0 (fun k x kn kx kr=>s_PutFormulas_j13 K k x.1 x.2.1 x.2.2.1 x.2.2.2.1 (fun z0 z1 z2 z3=>kn (z0,z1,z2,z3,())))]
theorem ok_s_PutFormulas (K:Nat):FnOk Tryz.prog 17 (sp_s_PutFormulas (s_PutFormulas K)) :=
  fn_okD tysOk [C_s_l05Is K,C_s_l05Told K] 0 (D_s_PutFormulas K) [(0,X0_s_PutFormulas),(2,X2_s_PutFormulas)] rv_s_PutFormulas K Tryz.func17 (by kernel_rfl) ⟨⟨fun _ _ _ _=>by kernel_rfl,fun _ _ _=>rfl⟩,⟨⟨fun _ _ _ _=>by kernel_rfl,fun _ _ _=>rfl⟩,⟨fun _ _ _ _ _=>by kernel_rfl,⟨fun _ _ _ _ _=>by kernel_rfl,⟨fun _ _ _ _ _=>by kernel_rfl,trivial⟩⟩⟩⟩⟩ (fun _=>by kernel_rfl)
noncomputable def C_s_PutFormulas (K:Nat):CB Tryz.prog:=.f _ _ (ok_s_PutFormulas K)
noncomputable def as_strings_Index:Ty:=(.pair .str (.pair .str .unit))
noncomputable def sp_strings_Index (F:(ByteArray × ByteArray × Unit)->Option Int):FnSpec:=⟨as_strings_Index,[false,false],(.int .i64),F⟩
noncomputable def strings_Index (K:Nat) (x:(ByteArray × ByteArray × Unit)):Option Int :=
    (internal_stringslite_Index K (x.1,x.2.1,())).bind fun y1 =>
    some y1
noncomputable def rv_strings_Index:Lv:=[(4,(.v (.int .i64)))]
theorem ok_strings_Index (K:Nat):FnOk Tryz.prog 90 (sp_strings_Index (strings_Index K)) :=
  fn_okD tysOk [C_internal_stringslite_Index K] 0 [] [] rv_strings_Index K Tryz.func90 (by kernel_rfl) trivial (fun _=>by kernel_rfl)
noncomputable def C_strings_Index (K:Nat):CB Tryz.prog:=.f _ _ (ok_strings_Index K)
noncomputable def as_strings_Contains:Ty:=(.pair .str (.pair .str .unit))
noncomputable def sp_strings_Contains (F:(ByteArray × ByteArray × Unit)->Option Bool):FnSpec:=⟨as_strings_Contains,[false,false],.bool,F⟩
noncomputable def strings_Contains (K:Nat) (x:(ByteArray × ByteArray × Unit)):Option Bool :=
    (strings_Index K (x.1,x.2.1,())).bind fun y1 =>
    some (decide (y1 ≥ (0:Int)))
noncomputable def rv_strings_Contains:Lv:=[(4,(.v .bool))]
theorem ok_strings_Contains (K:Nat):FnOk Tryz.prog 61 (sp_strings_Contains (strings_Contains K)) :=
  fn_okD tysOk [C_strings_Index K] 0 [] [] rv_strings_Contains K Tryz.func61 (by kernel_rfl) trivial (fun _=>by kernel_rfl)
end Go.Proofs.YtefmjjpdflpnaaaGreat.E
namespace Go.Proofs.YtefmjjpdflpnaaaGreat.E
open Go Go.Proofs Go.Proofs.YtefmjjpdflpnaaaGreat Go.RowKit
set_option maxRecDepth 100000
set_option maxHeartbeats 4000000
set_option linter.unusedVariables false
/-! the variables of a formula's text -/
def letB:Nat->ByteArray
  | 0=>⟨#[97]⟩
  | 1=>⟨#[98]⟩
  | 2=>⟨#[99]⟩
  | _=>⟨#[100]⟩
noncomputable def varsG (K:Nat) (t:ByteArray):Nat->Nat->List Int->Option (List Int)
  | 0,_,acc=>some acc
  | m + 1,p,acc=>(strings_Contains K (t,letB p,())).bind fun c=>varsG K t m (p + 1) (if c=true then acc ++ [(p:Int)] else acc)
noncomputable def varsF (K:Nat) (x:ByteArray × Unit):Option (List Int × Int × Unit) :=
  (i_IsFormula K (x.1,())).bind fun y=>if y=true then (varsG K x.1 4 0 []).bind fun l=>some (l,0,()) else some ([],6,())
theorem con_calls (K:Nat) (w:World) (t s:ByteArray) (c:Bool) (hc:strings_Contains K (t,s,())=some c):Calls Tryz.prog 61 #[.string t,.string s] w fun e w'=>e=.returned (.bool c)/\Below w.heap.size w w':=by
  refine ((((ok_strings_Contains K).plain rfl) w [.string t,.string s] (t,s,()) c ⟨[.string t],[.string s],rfl,rfl,[.string s],[],rfl,rfl,rfl⟩ hc).calls Tryz.func61 (by kernel_rfl) (c:=bodyOf Tryz.f61) (by kernel_rfl)).mono ?_
  rintro e w' ⟨v,rfl,hr⟩
  obtain ⟨rfl,hb⟩:=ret_bool hr
  exact ⟨rfl,hb⟩
theorem isf_calls (K:Nat) (w:World) (t:ByteArray) (c:Bool) (hc:i_IsFormula K (t,())=some c):Calls Tryz.prog 8 #[.string t] w fun e w'=>e=.returned (.bool c)/\Below w.heap.size w w':=by
  refine ((((ok_i_IsFormula K).plain rfl) w [.string t] (t,()) c ⟨[.string t],[],rfl,rfl,rfl⟩ hc).calls Tryz.func8 (by kernel_rfl) (c:=bodyOf Tryz.f8) (by kernel_rfl)).mono ?_
  rintro e w' ⟨v,rfl,hr⟩
  obtain ⟨rfl,hb⟩:=ret_bool hr
  exact ⟨rfl,hb⟩
theorem info2v:(Tryz.prog.info? 2).map (fun i=>(i.zero,i.size,i.bytes))=some (some (.int .i64 0),1,8):=by kernel_rfl
theorem ownsRow_iterAt {w:World} {base:Nat} {e:TypeId} {size:Nat} {v:Value} {n:Nat} {xs:List Value} (h:w.ownsRow base e size v n xs) {k:Nat} (hk:k < base) (s:ByteArray) (p:Nat):(w.iterAt k s p).ownsRow base e size v n xs:=by
  obtain ⟨h1,h2⟩:=h
  refine ⟨h1,?_⟩
  rcases h2 with h2 | ⟨g,cap,cur,a,b,c,d⟩
  · exact .inl h2
  · exact .inr ⟨g,cap,cur,a,b,by rw [Lib.iterAt_other _ _ _ _ _ (by omega)];exact c,d⟩
theorem iterPos_of {w:World} {k:Nat} {s:ByteArray} {p:Nat} (h:w.heap[k]?=some (.stringIter s p)):w.iterPos k=p:=by simp [World.iterPos,h]
theorem cell_one_new (w:World) (a:Value) (t:TypeId):∀ j u,[a][j]?=some u->(w.alloc (.cells #[a] t)).cell? ((⟨w.heap.size,0,none⟩:Addr).add j)=some u:=by
  intro j u hj
  match j,hj with
  | 0,hj=>simp at hj;subst hj;simp [Addr.add]
  | j + 1,hj=>simp at hj
def encI (x:Int):Value:=.int .i64 x
def VarsW (B:Nat) (l:List Int) (w0 w:World) (v:Value):Prop:=w.ownsRow B 2 1 v l.length (l.map encI)/\Below w0.heap.size w0 w/\w0.heap.size < B
theorem vr_calls (K:Nat) (w:World) (t:ByteArray) (l:List Int) (hi:i_IsFormula K (t,())=some true) (hl:varsG K t 4 0 []=some l):Calls Tryz.prog 24 #[.string t] w fun e w'=>∃ v B,e=.returned (.tuple #[v,.int .i64 0])/\VarsW B l w w' v:=by
  obtain ⟨i0,hi0,hz0,hz1,hz2⟩:=info_parts info2v
  have hisf:=fun w=>isf_calls K w t true hi
  have hcon:=fun w s c h=>con_calls K w t s c h
  clear hi
  go_enter Tryz.func24,Tryz.ntmps24
  go_wp2_with (first
    | (go_at_call 8;refine (hisf _).mono ?_;rintro e w1 ⟨rfl,hb1⟩)
    | go_in)
  have hlt1:w.heap.size<=w1.heap.size:=hb1.size
  have ht1:Aside (Below w.heap.size w w1):=hb1
  have hl0:Aside (varsG K t 4 0 []=some l):=hl
  clear hl hb1
  go_loopw [4] (fun v wr=>∃ (p:Nat) (acc:List Int),p<=4/\wr.heap[w1.heap.size]?=some (.stringIter ⟨#[97,98,99,100]⟩ p)/\wr.ownsRow (w1.heap.size + 1) 2 1 v acc.length (acc.map encI)/\Below w.heap.size w wr/\Hid (varsG K t (4 - p) p acc=some l)/\acc.length<=p) (fun _ wr=>4 - wr.iterPos w1.heap.size)
  case atStart=>exact ⟨0,[],by omega,World.iter_heap w1 _ 0,World.ownsRow_nil _ _ _ _,Below.alloc ht1 hlt1 _,hl0,by simp⟩
  case round =>
    obtain ⟨p,acc,hp4,hit,hown,hbw,HS,hlen⟩:=hrel
    have hpos0:=iterPos_of hit
    by_cases hp:p=4
    · subst hp
      have hnx:∀ ty,(Instr.next (.pointer (some ⟨w1.heap.size,0,none⟩)) true ty).run Tryz.prog wr=_:=fun ty=>Lib.run_next_end_at wr w1.heap.size _ 4 ty hit (by decide)
      go_wp2
      go_ret2
      have HS:varsG K t (4 - 4) 4 acc=some l:=HS
      have HS:some acc=some l:=HS
      cases HS
      exact ⟨_,w1.heap.size + 1,rfl,hown,hbw,by omega⟩
    · have hp3:p < 4:=by omega
      have hw1:(Utf8.decode (⟨#[97,98,99,100]⟩:ByteArray) p).2=1:=by
        rcases (show p=0\/p=1\/p=2\/p=3 by omega) with rfl | rfl | rfl | rfl <;> rfl
      have hsub:letB p=(⟨#[97,98,99,100]⟩:ByteArray).extract p (p + 1):=by
        rcases (show p=0\/p=1\/p=2\/p=3 by omega) with rfl | rfl | rfl | rfl <;> rfl
      obtain ⟨m,hm⟩:∃ m,4 - p=m + 1:=⟨3 - p,by omega⟩
      have HS:varsG K t (4 - p) p acc=some l:=HS
      rw [hm] at HS
      obtain ⟨c,hc,hl2⟩:=Option.bind_eq_some_iff.1 (show (strings_Contains K (t,letB p,())).bind (fun c=>varsG K t m (p + 1) (if c=true then acc ++ [(p:Int)] else acc))=some l from HS)
      have hnx:∀ ty,(Instr.next (.pointer (some ⟨w1.heap.size,0,none⟩)) true ty).run Tryz.prog wr=_:=fun ty=>Lib.run_next_any_at wr w1.heap.size _ p ty hit hp3
      rw [hw1] at hnx
      have hit2:=Lib.iterAt_heap wr w1.heap.size _ _ (p + 1) hit
      have hbw2:=Lib.below_iterAt hbw (k:=w1.heap.size) hlt1 ⟨#[97,98,99,100]⟩ (p + 1)
      have hown2:=ownsRow_iterAt hown (k:=w1.heap.size) (Nat.lt_succ_self _) ⟨#[97,98,99,100]⟩ (p + 1)
      obtain ⟨W1,hW1⟩:∃ W1,W1=wr.iterAt w1.heap.size ⟨#[97,98,99,100]⟩ (p + 1):=⟨_,rfl⟩
      rw [<-hW1] at hnx hit2 hbw2 hown2
      rw [hsub] at hc
      have A1:Aside (varsG K t m (p + 1) (if c=true then acc ++ [(p:Int)] else acc)=some l):=hl2
      clear hW1 hit hown hbw HS hsub hw1 hl2
      have hlt0:Aside (w.heap.size<=w1.heap.size):=hlt1
      clear hlt1
      have hBlt:=(Array.getElem?_eq_some_iff.1 hit2).1
      go_wp2_with (first
        | (go_at_call 61; refine (hcon _ _ _ hc).mono ?_; rintro e w2 ⟨rfl, hb2⟩
           have hgb:World.grownBy W1 w2 none:=⟨hb2.os,hb2.tape,hb2.output,hb2.size,fun k hk _=>hb2.block k hk⟩
           have hown3:=hown2.kept hgb (by cases hv:(Value.ownBlock _) <;> simp)
           have hit3:=(hb2.block _ hBlt).trans hit2
           have hbw3:=hbw2.trans (hb2.mono hbw2.size)
           have hBlt3:=(Array.getElem?_eq_some_iff.1 hit3).1
           have X:Aside (w2.ownsRow (w1.heap.size + 1) 2 1 u4 acc.length (acc.map encI)/\w2.heap[w1.heap.size]?=some (.stringIter ⟨#[97,98,99,100]⟩ (p + 1))/\Below w.heap.size w w2):=⟨hown3,hit3,hbw3⟩
           clear hgb hown2 hit2 hbw2 hown3 hit3 hbw3)
        | (at_builtin; refine wpList_append_own _ rfl _ _ 45 rfl (w1.heap.size + 1) 2 i0 (.int .i64 0) 1 8 Tryz.underlying45 hi0 hz0 hz1 hz2 rfl (by decide) _ _ _ rfl (X.out.1.alloc _) ⟨w2.heap.size, 0, none⟩ 1 1 [.int .i64 (p : Int)] rfl rfl (cell_one_new _ _ _) (fun x hx => by simp at hx; subst hx; rfl) (by unfold maxLen; omega) (by omega) (by simp; omega) ?_
           intro v' w3 hown' hgrow3 hnil3
           have hne:∀ j,u4.ownBlock=some j->w1.heap.size + 1<=j:=fun j hj=>(X.out.1.lt _ hj).1
           have hit4:w3.heap[w1.heap.size]?=some (.stringIter ⟨#[97,98,99,100]⟩ (p + 1)):=by
             rw [hgrow3.block w1.heap.size (by simp;omega) (fun h=>by have:=hne _ h.symm;omega),Below.heap_alloc _ _ _ hBlt3];exact X.out.2.1
           have hbw4:Below w.heap.size w w3:=Below.grown (X.out.2.2.alloc X.out.2.2.size _) hgrow3 (by simp;have:=X.out.2.2.size;omega) (fun j hj=>by have:=hne j hj;have:=hlt0.out;omega)
           have Y:Aside (w3.ownsRow (w1.heap.size + 1) 2 1 v' (acc.length + 1) (acc.map encI ++ [.int .i64 (p:Int)])/\w3.heap[w1.heap.size]?=some (.stringIter ⟨#[97,98,99,100]⟩ (p + 1))/\Below w.heap.size w w3):=⟨hown',hit4,hbw4⟩
           clear hne hit4 hbw4 hown' hgrow3 hnil3)
        | go_in)
      · refine ⟨⟨p + 1,acc ++ [(p:Int)],by omega,Y.out.2.1,by rw [List.length_append,List.map_append];exact Y.out.1,Y.out.2.2,?_,by rw [List.length_append];simp;omega⟩,by rw [iterPos_of Y.out.2.1,hpos0];omega⟩
        have h:varsG K t m (p + 1) (if c=true then acc ++ [(p:Int)] else acc)=some l:=A1
        rw [if_pos (by assumption)] at h
        show varsG K t (4 - (p + 1)) (p + 1) _=_
        rw [show 4 - (p + 1)=m by omega];exact h
      · refine ⟨⟨p + 1,acc,by omega,X.out.2.1,X.out.1,X.out.2.2,?_,by omega⟩,by rw [iterPos_of X.out.2.1,hpos0];omega⟩
        have h:varsG K t m (p + 1) (if c=true then acc ++ [(p:Int)] else acc)=some l:=A1
        rw [if_neg (by rw [show c=false by assumption];decide)] at h
        show varsG K t (4 - (p + 1)) (p + 1) _=_
        rw [show 4 - (p + 1)=m by omega];exact h
theorem vr_calls0 (K:Nat) (w:World) (t:ByteArray) (hi:i_IsFormula K (t,())=some false):Calls Tryz.prog 24 #[.string t] w fun e w'=>e=.returned (.tuple #[.slice none 0 0,.int .i64 6])/\Below w.heap.size w w':=by
  have hisf:=fun w=>isf_calls K w t false hi
  clear hi
  go_enter Tryz.func24,Tryz.ntmps24
  go_wp2_with (first
    | (go_at_call 8;refine (hisf _).mono ?_;rintro e w1 ⟨rfl,hb1⟩)
    | go_in)
  go_ret2
  exact ⟨rfl,hb1⟩
theorem ret_ints {w w':World} {v:Value} {l:List Int} {code:Int} {bs:List Nat} (h:TC (.sl (.int .i64)) w' [v] l bs) (hn:bs.Nodup) (hb:∀ b ∈ bs,w.heap.size<=b/\b < w'.heap.size) (hbe:Below w.heap.size w w') :
    Ret (.tup (.pair (.sl (.int .i64)) (.pair (.int .i64) .unit))) (l,code,()) w (.tuple #[v,.int .i64 code]) w' :=
  ⟨bs,⟨[v,.int .i64 code],rfl,v,[.int .i64 code],bs,[],rfl,by simp,⟨[v],rfl,h⟩,.int .i64 code,[],[],[],rfl,rfl,⟨[.int .i64 code],rfl,rfl,rfl⟩,rfl,rfl⟩,hn,hb,hbe⟩
theorem vr_ok (K:Nat):FnOk Tryz.prog 24 ⟨.pair .str .unit,[false],.tup (.pair (.sl (.int .i64)) (.pair (.int .i64) .unit)),varsF K⟩:=by
  refine ⟨fun _=>?_,fun h=>by cases h⟩
  intro w vs x y hx hy
  obtain ⟨t,u⟩:=x
  have hy:varsF K (t,u)=some y:=hy
  unfold varsF at hy
  obtain ⟨b,hb,hy⟩:=Option.bind_eq_some_iff.1 hy
  obtain ⟨cs,r,rfl,h2,h3⟩:=hx
  have h2:cs=[.string t]:=h2
  have h3:r=[]:=h3
  subst h2;subst h3
  refine cf_of_calls Tryz.func24 (c:=bodyOf Tryz.f24) (by kernel_rfl) (by kernel_rfl) ?_
  cases b
  · cases hy
    refine (vr_calls0 K w t hb).mono ?_
    rintro e w' ⟨rfl,hbe⟩
    exact ⟨_,rfl,ret_ints (.inl ⟨rfl,rfl,rfl⟩) List.nodup_nil (fun b hb=>by cases hb) hbe⟩
  · obtain ⟨l,hl,hy⟩:=Option.bind_eq_some_iff.1 hy
    cases hy
    refine (vr_calls K w t l hb hl).mono ?_
    rintro e w' ⟨v,B,rfl,hrow,hbe,hB⟩
    refine ⟨_,rfl,?_⟩
    rcases hrow.2 with ⟨rfl,hn0⟩ | ⟨g,cap,cur,rfl,hg,hcur,hle,_,hsz,htk⟩
    · have hl0:l=[]:=List.length_eq_zero_iff.1 hn0
      subst hl0
      exact ret_ints (.inl ⟨rfl,rfl,rfl⟩) List.nodup_nil (fun b hb=>by cases hb) hbe
    · refine ret_ints (bs:=[g]) (.inr ⟨g,0,l.length,cap,cur,_,List.replicate l.length [],rfl,by simp,rfl,hcur,hle,?_,by simp,fun j y bi hy hbi=>?_⟩) (by simp) (fun b hb=>?_) hbe
      · show 0 + cap * 1<=cur.size
        omega
      · have hbi':bi=[]:=List.eq_of_mem_replicate (List.mem_of_getElem? hbi)
        subst hbi'
        have hj:j < l.length:=(List.getElem?_eq_some_iff.1 hy).1
        have e1:cur.toList[j]?=some (.int .i64 y):=by
          have h:=congrArg (·[j]?) htk
          simp only [List.getElem?_take,List.getElem?_map] at h
          rw [if_pos (by omega)] at h
          rw [h]
          have hy:l[j]?=some y:=hy
          rw [hy];rfl
        have hs:(Ty.int .i64).sz=1:=rfl
        rw [hs,Nat.mul_one,Nat.zero_add,seg_one e1]
        exact ⟨rfl,rfl⟩
      · simp only [List.mem_singleton] at hb;subst hb
        exact ⟨by omega,(Array.getElem?_eq_some_iff.1 hcur).1⟩
end Go.Proofs.YtefmjjpdflpnaaaGreat.E
namespace Go.Proofs.YtefmjjpdflpnaaaGreat.E
open Go Go.Proofs Go.Proofs.YtefmjjpdflpnaaaGreat
set_option maxRecDepth 100000
set_option linter.unusedVariables false
noncomputable def as_i_VariablesOfFormula:Ty:=(.pair .str .unit)
noncomputable def sp_i_VariablesOfFormula (F:(ByteArray × Unit)->Option ((List Int) × Int × Unit)):FnSpec:=⟨as_i_VariablesOfFormula,[false],(.tup (.pair (.sl (.int .i64)) (.pair (.int .i64) .unit))),F⟩
noncomputable def i_VariablesOfFormula (K:Nat) (x:ByteArray × Unit):Option (List Int × Int × Unit):=varsF K x
theorem ok_i_VariablesOfFormula (K:Nat):FnOk Tryz.prog 24 (sp_i_VariablesOfFormula (i_VariablesOfFormula K)):=vr_ok K
noncomputable def C_i_VariablesOfFormula (K:Nat):CB Tryz.prog:=.f _ _ (ok_i_VariablesOfFormula K)
noncomputable def as_s_VariablesOfFormula:Ty:=(.pair .str .unit)
noncomputable def sp_s_VariablesOfFormula (F:(ByteArray × Unit)->Option ((List Int) × Int × Unit)):FnSpec:=⟨as_s_VariablesOfFormula,[false],(.tup (.pair (.sl (.int .i64)) (.pair (.int .i64) .unit))),F⟩
noncomputable def s_VariablesOfFormula_j8 {R:Type} (K:Nat) (k:Nat) (v0:ByteArray) (v4:(List Bool)) (v5:(List Int)) (v6:Int) (kn:ByteArray->(List Bool)->(List Int)->Int->Option R) :Option R :=
    gN K ((if (bnds v6 (v0.size:Int))=true then
    (if (bnds (IntKind.u8.wrap ((byteAt v0 v6) - (97:Int))) (v4.length:Int))=true then
    let l4:=(v4.set (IntKind.u8.wrap ((byteAt v0 v6) - (97:Int))).toNat true)
    kn v0 l4 v5 v6
    else
    none)
    else
    none))
noncomputable def s_VariablesOfFormula_j6 {R:Type} (K:Nat) (k:Nat) (v0:ByteArray) (v4:(List Bool)) (v5:(List Int)) (v6:Int) (kn:ByteArray->(List Bool)->(List Int)->Int->Option R) :Option R :=
    kn v0 v4 v5 (IntKind.i64.wrap (v6 + (1:Int)))
noncomputable def s_VariablesOfFormula_l5 {R:Type} (K:Nat):Nat->ByteArray->(List Bool)->(List Int)->Int->((List Bool)->(List Int)->Option R)->Option R
  | 0,_,_,_,_,_=>none
  | k + 1,v0,v4,v5,v6,kx0 =>
    (if (decide (v6 < (v0.size:Int)))=true then
    (if (bnds v6 (v0.size:Int))=true then
    (if (decide ((byteAt v0 v6) ≥ (97:Int)))=true then
    (if (bnds v6 (v0.size:Int))=true then
    (if (decide ((byteAt v0 v6)<=(100:Int)))=true then
    s_VariablesOfFormula_j8 K k v0 v4 v5 v6 (fun z5 z6 z7 z8 =>
    s_VariablesOfFormula_j6 K k z5 z6 z7 z8 (fun z9 z10 z11 z12 =>
    s_VariablesOfFormula_l5 K k z9 z10 z11 z12 kx0))
    else
    s_VariablesOfFormula_j6 K k v0 v4 v5 v6 (fun z13 z14 z15 z16 =>
    s_VariablesOfFormula_l5 K k z13 z14 z15 z16 kx0))
    else
    none)
    else
    s_VariablesOfFormula_j6 K k v0 v4 v5 v6 (fun z17 z18 z19 z20 =>
    s_VariablesOfFormula_l5 K k z17 z18 z19 z20 kx0))
    else
    none)
    else
    kx0 v4 v5)
noncomputable def s_VariablesOfFormula_l10 {R:Type} (K:Nat):Nat->(List Bool)->(List Int)->Int->((List Int)->Option R)->Option R
  | 0,_,_,_,_=>none
  | k + 1,v4,v5,v7,kx2 =>
    (if (decide (v7 < (4:Int)))=true then
    (if (bnds v7 (v4.length:Int))=true then
    (if (v4.getD v7.toNat false)=true then
    (if (decide (v5.length + ([v7]).length<=lim))=true then
    let l23:=(v5 ++ [v7])
    s_VariablesOfFormula_l10 K k v4 l23 (IntKind.i64.wrap (v7 + (1:Int))) kx2
    else
    none)
    else
    s_VariablesOfFormula_l10 K k v4 v5 (IntKind.i64.wrap (v7 + (1:Int))) kx2)
    else
    none)
    else
    kx2 v5)
noncomputable def s_VariablesOfFormula (K:Nat) (x:(ByteArray × Unit)):Option ((List Int) × Int × Unit) :=
    (s_l05Is K (x.1,())).bind fun y1 =>
    (if (!y1)=true then
    some (([]:List Int),(6:Int),())
    else
    (if (decide (0<=(4:Int)) && decide ((4:Int)<=(lim:Int)) && decide ((4:Int)=(4:Int)))=true then
    let l2:=(List.replicate (4:Int).toNat false)
    let l3:=([]:List Int)
    s_VariablesOfFormula_l5 K K x.1 l2 l3 (0:Int) (fun z21 z22 =>
    s_VariablesOfFormula_l10 K K z21 z22 (0:Int) (fun z24 =>
    some (z24,(0:Int),())))
    else
    none))
noncomputable def X0_s_VariablesOfFormula:Lv:=[(4,(.r .bool)),(5,(.r (.int .i64)))]
noncomputable def X2_s_VariablesOfFormula:Lv:=[(5,(.r (.int .i64)))]
noncomputable def rv_s_VariablesOfFormula:Lv:=[(2,(.r (.int .i64))),(3,(.v (.int .i64)))]
noncomputable def D_s_VariablesOfFormula (K:Nat):List (PD (den (.tup (.pair (.sl (.int .i64)) (.pair (.int .i64) .unit))))):=[.L 5 [(0,(.v .str)),(4,(.r .bool)),(5,(.r (.int .i64))),(6,(.v (.int .i64)))] [] (fun k x kx kr=>s_VariablesOfFormula_l5 K k x.1 x.2.1 x.2.2.1 x.2.2.2.1 (fun z0 z1=>kx 0 (mkSt X0_s_VariablesOfFormula (z0,z1,())))),
  .J 8 [(0,(.v .str)),(4,(.r .bool)),(5,(.r (.int .i64))),(6,(.v (.int .i64)))] [(0,(.v .str)),(4,(.r .bool)),(5,(.r (.int .i64))),(6,(.v (.int .i64)))] K (fun k x kn kx kr=>s_VariablesOfFormula_j8 K k x.1 x.2.1 x.2.2.1 x.2.2.2.1 (fun z0 z1 z2 z3=>kn (z0,z1,z2,z3,()))),
  .J 6 [(0,(.v .str)),(4,(.r .bool)),(5,(.r (.int .i64))),(6,(.v (.int .i64)))] [(0,(.v .str)),(4,(.r .bool)),(5,(.r (.int .i64))),(6,(.v (.int .i64)))] 0 (fun k x kn kx kr=>s_VariablesOfFormula_j6 K k x.1 x.2.1 x.2.2.1 x.2.2.2.1 (fun z0 z1 z2 z3=>kn (z0,z1,z2,z3,()))),
  .L 10 [(4,(.r .bool)),(5,(.r (.int .i64))),(7,(.v (.int .i64)))] [] (fun k x kx kr=>s_VariablesOfFormula_l10 K k x.1 x.2.1 x.2.2.1 (fun z0=>kx 2 (mkSt X2_s_VariablesOfFormula (z0,()))))]
theorem ok_s_VariablesOfFormula (K:Nat):FnOk Tryz.prog 25 (sp_s_VariablesOfFormula (s_VariablesOfFormula K)) :=
  fn_okD tysOk [C_s_l05Is K] 0 (D_s_VariablesOfFormula K) [(0,X0_s_VariablesOfFormula),(2,X2_s_VariablesOfFormula)] rv_s_VariablesOfFormula K Tryz.func25 (by kernel_rfl) ⟨⟨fun _ _ _ _=>by kernel_rfl,fun _ _ _=>rfl⟩,⟨fun _ _ _ _ _=>by kernel_rfl,⟨fun _ _ _ _ _=>by kernel_rfl,⟨⟨fun _ _ _ _=>by kernel_rfl,fun _ _ _=>rfl⟩,trivial⟩⟩⟩⟩ (fun _=>by kernel_rfl)
noncomputable def C_s_VariablesOfFormula (K:Nat):CB Tryz.prog:=.f _ _ (ok_s_VariablesOfFormula K)
end Go.Proofs.YtefmjjpdflpnaaaGreat.E
