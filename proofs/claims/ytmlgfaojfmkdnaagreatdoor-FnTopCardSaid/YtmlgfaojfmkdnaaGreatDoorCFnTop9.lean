/-
  Plain lemmas: what the functions hand back, and that the statement holds of it. Conditions: those of each theorem.
-/
import Derived.Test.YtmlgfaojfmkdnaaGreatDoorCFnTop8
namespace Go.Proofs.YtmlgfaojfmkdnaaGreatDoor.E
open Go Go.Proofs
set_option maxRecDepth 100000
set_option linter.unusedVariables false
set_option linter.unusedSimpArgs false
variable {K:Nat} {R:Type}
/-- the first two bytes -/
def hd2 (t:ByteArray):List UInt8:=t.data.toList.take 2
theorem good_four {a b c d:ByteArray} (h:(a ≠ b/\a ≠ c/\a ≠ d)/\(b ≠ c/\b ≠ d)/\c ≠ d):Good fun x=>four x.z x.o a b c d:=by
  refine good_ite (tst_and tst_z tst_o) (good_c a) (good_ite tst_z (good_c b) (good_ite tst_o (good_c c) (good_c d) ?_) ?_) ?_
  · intro P Q _ _;exact h.2.2
  · intro P Q _ _;split
    · exact h.2.1.1
    · exact h.2.1.2
  · intro P Q _ _;split
    · exact h.1.1
    · split
      · exact h.1.2.1
      · exact h.1.2.2
/-- names with a degree -/
def sepN (x:UInt8) (k m:Bool) (p:Nat):ByteArray:=degB (kindN k m ⟨#[83,x,48]⟩ ⟨#[83,x,49]⟩ ⟨#[83,x,50]⟩ ⟨#[83,x]⟩) p
def sepKey (x:UInt8) (k m:Bool) (p:Nat):List UInt8:=(sepN x k m p).data.toList
theorem sep_inj:∀ x ∈ [(48:UInt8),49],∀ k k' m m':Bool,∀ p ∈ [0,1,2,3,9],∀ p' ∈ [0,1,2,3,9],sepKey x k m p=sepKey x k' m' p'->k=k'/\m=m'/\p=p':=by decide +kernel
theorem sep_hd:∀ x ∈ [(48:UInt8),49],∀ k m:Bool,∀ p ∈ [0,1,2,3,9],(sepKey x k m p).take 2=[83,x]:=by decide +kernel
theorem mem5 {p:Nat} (h:p<=3\/p=9):p ∈ [0,1,2,3,9]:=by
  have:p=0\/p=1\/p=2\/p=3\/p=9:=by omega
  rcases this with h | h | h | h | h <;> subst h <;> decide
theorem btw_same {p q r:Bool} (h:btwB p q r) (e:p=q):r=q:=by
  revert h e;unfold btwB;cases p <;> cases q <;> cases r <;> simp
theorem btw_sameN {p q r:Nat} (h:btwN p q r) (e:p=q):r=q:=by
  obtain ⟨h1,h2⟩:=h;omega
theorem good_sep (x:UInt8) (hx:x ∈ [(48:UInt8),49]) {k:PV->Bool} {p:PV->Nat} (hk:Tst k) (hp:∀ P Q R,Btw P Q R->btwN (p P) (p Q) (p R)) (ho:∀ P,okV P->p P<=3\/p P=9):Good fun y=>sepN x (k y) y.m (p y):=by
  intro P Q R hP hQ hb e
  obtain ⟨h1,h2,h3⟩:=sep_inj x hx (k P) (k Q) P.m Q.m (p P) (mem5 (ho P hP)) (p Q) (mem5 (ho Q hQ)) (congrArg (fun t=>t.data.toList) e)
  dsimp only
  rw [btw_same (hk P Q R hb) h1,btw_same (tst_m P Q R hb) h2,btw_sameN (hp P Q R hb) h3]
/-- heads of names -/
def Hds (F:PV->ByteArray) (S:List (List UInt8)):Prop:=∀ P,okV P->hd2 (F P) ∈ S
theorem hds_ite {c:PV->Bool} {A B:PV->ByteArray} {S T:List (List UInt8)} (hA:Hds A S) (hB:Hds B T):Hds (fun x=>if c x=true then A x else B x) (S ++ T):=by
  intro P hP
  dsimp only
  split
  · exact List.mem_append_left _ (hA P hP)
  · exact List.mem_append_right _ (hB P hP)
theorem hds_c (t:ByteArray):Hds (fun _=>t) [hd2 t]:=fun _ _=>List.mem_singleton.2 rfl
theorem hds_four (a b c d:ByteArray):Hds (fun x=>four x.z x.o a b c d) ([hd2 a] ++ ([hd2 b] ++ ([hd2 c] ++ [hd2 d]))) :=
  hds_ite (c:=fun x=>x.z && x.o) (hds_c a) (hds_ite (hds_c b) (hds_ite (hds_c c) (hds_c d)))
theorem hds_sep (x:UInt8) (hx:x ∈ [(48:UInt8),49]) {k:PV->Bool} {p:PV->Nat} (ho:∀ P,okV P->p P<=3\/p P=9):Hds (fun y=>sepN x (k y) y.m (p y)) [[83,x]] :=
  fun P hP=>List.mem_singleton.2 (sep_hd x hx (k P) P.m (p P) (mem5 (ho P hP)))
theorem disjH {A B:PV->ByteArray} {S T:List (List UInt8)} (hA:Hds A S) (hB:Hds B T) (h:(S.all fun x=>!T.contains x)=true):∀ P Q,okV P->okV Q->A P ≠ B Q:=by
  intro P Q hP hQ e
  have h1:=hA P hP
  have h2:=hB Q hQ
  rw [<-e] at h2
  have:=List.all_eq_true.1 h _ h1
  rw [Bool.not_eq_true',List.contains_iff_mem.2 h2] at this
  cases this
/-- the tree, from its end -/
def pvtR (x:PV):ByteArray:=four x.z x.o ⟨#[82,50]⟩ ⟨#[82,48]⟩ ⟨#[82,49]⟩ ⟨#[66,70]⟩
def pvtM (x:PV):ByteArray:=if x.m=true then four x.z x.o ⟨#[77,50]⟩ ⟨#[77,48]⟩ ⟨#[77,49]⟩ ⟨#[77]⟩ else pvtR x
def pvtQ (x:PV):ByteArray:=if decide (2<=x.q)=true then sepN 49 x.o x.m x.q else pvtM x
def pvtP (x:PV):ByteArray:=if decide (2<=x.p)=true then sepN 48 x.z x.m x.p else pvtQ x
def pvlD (x:PV):ByteArray:=if x.m=true then ⟨#[68,50]⟩ else if x.z=true then ⟨#[68,49]⟩ else ⟨#[68]⟩
def pvtD (x:PV):ByteArray:=if x.d=true then pvlD x else pvtP x
def pvlA (x:PV):ByteArray:=if (x.z && x.o)=true then ⟨#[76,50]⟩ else if x.d=true then ⟨#[76,51]⟩ else if x.z=true then ⟨#[76,48]⟩ else if x.o=true then ⟨#[76,49]⟩ else ⟨#[76]⟩
def pvtA (x:PV):ByteArray:=if x.a=true then pvlA x else pvtD x
def pvtE (x:PV):ByteArray:=if x.e=true then four x.z x.o ⟨#[69,50]⟩ ⟨#[69,48]⟩ ⟨#[69,49]⟩ ⟨#[69]⟩ else pvtA x
def pvtV (x:PV):ByteArray:=if x.v=true then four x.z x.o ⟨#[86,50]⟩ ⟨#[86,48]⟩ ⟨#[86,49]⟩ ⟨#[86]⟩ else pvtE x
def pvlN (x:PV):ByteArray:=if x.d=true then ⟨#[78,50]⟩ else ⟨#[78]⟩
def pvtN (x:PV):ByteArray:=if x.u=true then pvlN x else pvtV x
def pvtI (x:PV):ByteArray:=if (x.u && x.m)=true then four x.z x.o ⟨#[73,50]⟩ ⟨#[73,48]⟩ ⟨#[73,49]⟩ ⟨#[73]⟩ else pvtN x
theorem nm_tree (x:PV):nmV x=pvtI x:=by
  obtain ⟨z,o,d,m,a,u,v,e,p,q⟩:=x
  simp only [nmV,nameB,pvtI,pvtN,pvlN,pvtV,pvtE,pvtA,pvlA,pvtD,pvlD,pvtP,pvtQ,pvtM,pvtR,four,sepN,decide_eq_true_eq]
  cases z <;> cases o <;> cases d <;> cases m <;> cases a <;> cases u <;> cases v <;> cases e <;> rfl
theorem ba_ne {a b:ByteArray} (h:(a.data.toList == b.data.toList)=false):a ≠ b:=fun e=>by rw [e] at h;simp at h
def pvq (x:UInt8):List (List UInt8):=[[x,50],[x,48],[x,49],[x]]
def pvsR:List (List UInt8):=[[82,50],[82,48],[82,49],[66,70]]
def pvsM:List (List UInt8):=pvq 77 ++ pvsR
def pvsQ:List (List UInt8):=[[83,49]] ++ pvsM
def pvsP:List (List UInt8):=[[83,48]] ++ pvsQ
def pvslD:List (List UInt8):=[[68,50],[68,49],[68]]
def pvsD:List (List UInt8):=pvslD ++ pvsP
def pvslA:List (List UInt8):=[[76,50],[76,51],[76,48],[76,49],[76]]
def pvsA:List (List UInt8):=pvslA ++ pvsD
def pvsE:List (List UInt8):=pvq 69 ++ pvsA
def pvsV:List (List UInt8):=pvq 86 ++ pvsE
def pvslN:List (List UInt8):=[[78,50],[78]]
def pvsN:List (List UInt8):=pvslN ++ pvsV
theorem pvhR:Hds pvtR pvsR:=hds_four _ _ _ _
theorem pvhM:Hds pvtM pvsM:=hds_ite (hds_four _ _ _ _) pvhR
theorem pvhQ:Hds pvtQ pvsQ:=hds_ite (hds_sep 49 (by decide) fun _ h=>h.2) pvhM
theorem pvhP:Hds pvtP pvsP:=hds_ite (hds_sep 48 (by decide) fun _ h=>h.1) pvhQ
theorem pvhlD:Hds pvlD pvslD:=hds_ite (hds_c _) (hds_ite (hds_c _) (hds_c _))
theorem pvhD:Hds pvtD pvsD:=hds_ite pvhlD pvhP
theorem pvhlA:Hds pvlA pvslA:=hds_ite (c:=fun x=>x.z && x.o) (hds_c _) (hds_ite (hds_c _) (hds_ite (hds_c _) (hds_ite (hds_c _) (hds_c _))))
theorem pvhA:Hds pvtA pvsA:=hds_ite pvhlA pvhD
theorem pvhE:Hds pvtE pvsE:=hds_ite (hds_four _ _ _ _) pvhA
theorem pvhV:Hds pvtV pvsV:=hds_ite (hds_four _ _ _ _) pvhE
theorem pvhlN:Hds pvlN pvslN:=hds_ite (hds_c _) (hds_c _)
theorem pvhN:Hds pvtN pvsN:=hds_ite pvhlN pvhV
theorem pvgR:Good pvtR:=good_four ⟨⟨ba_ne rfl,ba_ne rfl,ba_ne rfl⟩,⟨ba_ne rfl,ba_ne rfl⟩,ba_ne rfl⟩
theorem pvgM:Good pvtM:=good_ite tst_m (good_four ⟨⟨ba_ne rfl,ba_ne rfl,ba_ne rfl⟩,⟨ba_ne rfl,ba_ne rfl⟩,ba_ne rfl⟩) pvgR (disjH (hds_four _ _ _ _) pvhR (by decide))
theorem pvgQ:Good pvtQ:=good_ite tst_q (good_sep 49 (by decide) tst_o (fun _ _ _ h=>h.2.2.2.2.2.2.2.2.2) fun _ h=>h.2) pvgM (disjH (hds_sep 49 (by decide) fun _ h=>h.2) pvhM (by decide))
theorem pvgP:Good pvtP:=good_ite tst_p (good_sep 48 (by decide) tst_z (fun _ _ _ h=>h.2.2.2.2.2.2.2.2.1) fun _ h=>h.1) pvgQ (disjH (hds_sep 48 (by decide) fun _ h=>h.1) pvhQ (by decide))
theorem pvglD:Good pvlD:=good_ite tst_m (good_c _) (good_ite tst_z (good_c _) (good_c _) (disjH (hds_c _) (hds_c _) (by decide))) (disjH (hds_c _) (hds_ite (hds_c _) (hds_c _)) (by decide))
theorem pvgD:Good pvtD:=good_ite tst_d pvglD pvgP (disjH pvhlD pvhP (by decide))
theorem pvglA:Good pvlA:=good_ite (tst_and tst_z tst_o) (good_c _) (good_ite tst_d (good_c _) (good_ite tst_z (good_c _) (good_ite tst_o (good_c _) (good_c _) (disjH (hds_c _) (hds_c _) (by decide))) (disjH (hds_c _) (hds_ite (hds_c _) (hds_c _)) (by decide)))
  (disjH (hds_c _) (hds_ite (hds_c _) (hds_ite (hds_c _) (hds_c _))) (by decide))) (disjH (hds_c _) (hds_ite (hds_c _) (hds_ite (hds_c _) (hds_ite (hds_c _) (hds_c _)))) (by decide))
theorem pvgA:Good pvtA:=good_ite tst_a pvglA pvgD (disjH pvhlA pvhD (by decide))
theorem pvgE:Good pvtE:=good_ite tst_e (good_four ⟨⟨ba_ne rfl,ba_ne rfl,ba_ne rfl⟩,⟨ba_ne rfl,ba_ne rfl⟩,ba_ne rfl⟩) pvgA (disjH (hds_four _ _ _ _) pvhA (by decide))
theorem pvgV:Good pvtV:=good_ite tst_v (good_four ⟨⟨ba_ne rfl,ba_ne rfl,ba_ne rfl⟩,⟨ba_ne rfl,ba_ne rfl⟩,ba_ne rfl⟩) pvgE (disjH (hds_four _ _ _ _) pvhE (by decide))
theorem pvglN:Good pvlN:=good_ite tst_d (good_c _) (good_c _) (disjH (hds_c _) (hds_c _) (by decide))
theorem pvgN':Good pvtN:=good_ite tst_u pvglN pvgV (disjH pvhlN pvhV (by decide))
theorem pvgI:Good pvtI:=good_ite (tst_and tst_u tst_m) (good_four ⟨⟨ba_ne rfl,ba_ne rfl,ba_ne rfl⟩,⟨ba_ne rfl,ba_ne rfl⟩,ba_ne rfl⟩) pvgN' (disjH (hds_four _ _ _ _) pvhN (by decide))
/-- A list between two of one name has the name. -/
theorem nm_good {P Q R:PV} (hP:okV P) (hQ:okV Q) (hb:Btw P Q R) (e:nmV P=nmV Q):nmV R=nmV Q:=by
  rw [nm_tree,nm_tree] at e ⊢;exact pvgI P Q R hP hQ hb e
theorem deg_ok {n b c:Nat} (hn:n<=4):degN n b c<=3\/degN n b c=9:=by
  rw [degN,deg_plain hn (degS_nodup n b c _ (Nat.le_refl _))]
  cases h:(List.range' 1 (min (degS n b c (2 ^ n)).length 4)).find? fun j=>!apart (degS n b c (2 ^ n)) j (2 ^ n - 1) with
  | none=>exact Or.inr rfl
  | some j =>
    have:=List.mem_range'_1.1 (List.mem_of_find?_eq_some h)
    left;show j - 1<=3;omega
theorem least_ok {l:List DF} (h:okL l) (c:Nat):leastD c l<=3\/leastD c l=9:=by
  have:∀ (r:List DF) (a:Nat),(∀ f ∈ r,f ∈ l)->(a<=3\/a=9)->(r.foldl (fun a f=>min a (pD c f)) a<=3\/r.foldl (fun a f=>min a (pD c f)) a=9):=by
    intro r
    induction r with
    | nil=>intro a _ h;exact h
    | cons y r ih =>
      intro a hr ha
      refine ih _ (fun f hf=>hr f (List.mem_cons_of_mem _ hf)) ?_
      obtain ⟨n,b,rfl,hn,hb⟩:=h.nat (hr y (List.mem_cons_self ..))
      have:=deg_ok (n:=n) (b:=b) (c:=c) hn
      have e:pD c ((n:Int),(b:Int),())=degN n b c:=rfl
      show min a (pD c ((n:Int),(b:Int),()))<=3\/min a (pD c ((n:Int),(b:Int),()))=9
      rw [e];omega
  exact this l 9 (fun _ h=>h) (Or.inr rfl)
theorem vec_ok {l:List DF} (h:okL l):okV (vecL l):=⟨least_ok h 0,least_ok h 1⟩
theorem least_snoc (c:Nat) (l:List DF) (f:DF):leastD c (l ++ [f])=min (leastD c l) (pD c f):=by simp [leastD]
theorem least_mem (c:Nat) {l:List DF} {f:DF} (h:f ∈ l):leastD c l<=pD c f:=by
  have mono:∀ (r:List DF) (a:Nat),r.foldl (fun a f=>min a (pD c f)) a<=a:=by
    intro r
    induction r with
    | nil=>intro a;exact Nat.le_refl _
    | cons y r ih=>intro a;exact Nat.le_trans (ih _) (Nat.min_le_left _ _)
  have:∀ (r:List DF) (a:Nat),f ∈ r->r.foldl (fun a f=>min a (pD c f)) a<=pD c f:=by
    intro r
    induction r with
    | nil=>intro a h;cases h
    | cons y r ih =>
      intro a h
      rcases List.mem_cons.1 h with e | e
      · subst e;exact Nat.le_trans (mono r (min a (pD c f))) (Nat.min_le_right _ _)
      · exact ih _ e
  exact this l 9 h
theorem btw_l {L Q:List DF} {f:DF} {c:DF->Bool} (h:L.all c=true->c f=true):btwB (L.all c) (Q.all c) ((Q ++ [f]).all c):=by
  rw [List.all_append]
  refine ⟨fun e=>?_,fun e e'=>?_⟩
  · rw [Bool.and_eq_true] at e;exact e.1
  · rw [Bool.and_eq_true];exact ⟨e',by simpa using h e⟩
theorem four_in {z o:Bool} {a b c d:ByteArray} (h1:a ∈ allNames) (h2:b ∈ allNames) (h3:c ∈ allNames) (h4:d ∈ allNames):four z o a b c d ∈ allNames:=by
  unfold four
  split
  · exact h1
  · split
    · exact h2
    · split
      · exact h3
      · exact h4
theorem sep_in_d:([(48:UInt8),49].all fun x=>[true,false].all fun k=>[true,false].all fun m=>[2,3,9].all fun p=>allNames.any fun b=>b.data.toList == sepKey x k m p)=true:=by decide +kernel
theorem bool_mem (b:Bool):b ∈ [true,false]:=by cases b <;> simp
theorem sep_in {x:UInt8} (hx:x ∈ [(48:UInt8),49]) (k m:Bool) {p:Nat} (hp:p ∈ [2,3,9]):sepN x k m p ∈ allNames :=
  mem_of (List.all_eq_true.1 (List.all_eq_true.1 (List.all_eq_true.1 (List.all_eq_true.1 sep_in_d x hx) k (bool_mem k)) m (bool_mem m)) p hp)
theorem in_deg {p:Nat} (h:p<=3\/p=9) (h2:decide (2<=p)=true):p ∈ [2,3,9]:=by
  have h2:=of_decide_eq_true h2
  have:p=2\/p=3\/p=9:=by omega
  rcases this with h | h | h <;> subst h <;> decide
theorem nm_in {x:PV} (h:okV x):nmV x ∈ allNames:=by
  rw [nm_tree]
  unfold pvtI;split
  · exact four_in (mem_of (by decide +kernel)) (mem_of (by decide +kernel)) (mem_of (by decide +kernel)) (mem_of (by decide +kernel))
  unfold pvtN;split
  · unfold pvlN;split <;> exact mem_of (by decide +kernel)
  unfold pvtV;split
  · exact four_in (mem_of (by decide +kernel)) (mem_of (by decide +kernel)) (mem_of (by decide +kernel)) (mem_of (by decide +kernel))
  unfold pvtE;split
  · exact four_in (mem_of (by decide +kernel)) (mem_of (by decide +kernel)) (mem_of (by decide +kernel)) (mem_of (by decide +kernel))
  unfold pvtA;split
  · unfold pvlA
    split
    · exact mem_of (by decide +kernel)
    split
    · exact mem_of (by decide +kernel)
    split
    · exact mem_of (by decide +kernel)
    split <;> exact mem_of (by decide +kernel)
  unfold pvtD;split
  · unfold pvlD
    split
    · exact mem_of (by decide +kernel)
    split <;> exact mem_of (by decide +kernel)
  unfold pvtP;split
  · rename_i h2;exact sep_in (by decide) _ _ (in_deg h.1 h2)
  unfold pvtQ;split
  · rename_i h2;exact sep_in (by decide) _ _ (in_deg h.2 h2)
  unfold pvtM;split
  · exact four_in (mem_of (by decide +kernel)) (mem_of (by decide +kernel)) (mem_of (by decide +kernel)) (mem_of (by decide +kernel))
  unfold pvtR
  exact four_in (mem_of (by decide +kernel)) (mem_of (by decide +kernel)) (mem_of (by decide +kernel)) (mem_of (by decide +kernel))
theorem name_in {l:List DF} (h:okL l):nameV l ∈ allNames:=nm_in (vec_ok h)
theorem funcs9_self {l:List DF} (hl:l.length < 4611686018427387904) (hK:4611686018427387904<=K):w_funcs9 K (l,l,())=some true:=by
  simp only [w_funcs9]
  rw [ite_f (by simp)]
  refine (lpLA (l:=l) (L:=fun k i=>w_funcs9_l4 K k l l i (some true) (fun z2=>some z2)) (g:=fun _=>true) (B:=0) (kx:=some true) (kf:=some false) (fun k=>?_) (fun k p y r e _=>?_) l [] K rfl (by omega)).trans ?_
  · simp only [w_funcs9_l4];rw [ite_f (decide_eq_false (by omega))]
  · subst e
    simp only [w_funcs9_l4]
    rw [ite_t lt_len,ite_t bnds_mid,ite_t bnds_mid,getD_midI,next_i hl,ite_f (by simp [eqD]),if_pos trivial]
  · simp
abbrev RMade (R':Type):=DF × Int × List Int × List Int × Int × DF × Unit->Option ((Bool × Unit) × (DF × Unit))
theorem c_made_l4 (ch:List Nat) (hl:ch.length<=4) (n fb:Nat) (hn:n<=4) (hf:fb < 65536) (fa:Int) (s:DF) (r:RMade R) (kx:DF->Int->Option R):∀ (m i k:Nat),i + m=n->m < k →
    i_Func_made_vi_closure_c1_l4 K r k (rowsV ch n) s (fa,(fb:Int),()) ((mkB (fun i=>fb.testBit (rowV ch ch.length i)) i:Nat):Int) (n:Int) (i:Int) kx=kx s ((valV fb n ch:Nat):Int)
  | 0,i,k + 1,e,_=>by
    obtain rfl:i=n:=by omega
    simp only [i_Func_made_vi_closure_c1_l4];rw [ite_f (decide_eq_false (by omega))];rfl
  | m + 1,i,k + 1,e,hk=>by
    have ih:=c_made_l4 ch hl n fb hn hf fa s r kx m (i + 1) k (by omega) (by omega)
    rw [mkB_succ] at ih
    have hr:=rowV_lt hl i
    have hg:(rowsV ch n).getD ((i:Int)).toNat 0=((rowV ch ch.length i:Nat):Int):=by rw [Int.toNat_natCast];exact getD_mr _ (by omega) _
    simp only [i_Func_made_vi_closure_c1_l4]
    rw [ite_t (decide_eq_true (by omega)),ite_t (bnds_n (by simp [rowsV];omega)),hg,i_Func_at_eq _ (by omega),some_bind',ite_t (nn _),shl_bt (by omega),or_dg (mkB_lt _ _) (by omega),w64s (by omega),ih]
theorem c_made_l14 (ch:List Nat) (hl:ch.length < 4) (n t:Nat) (hn:n<=4) (ht:t < 16) (r:RMade R) (v1:Int) (v2 v3:List Int) (v5:DF) (v6:DF) (v41:List Int) (v42 v43:Int) (kx:Int->List Int->List Int->Int->DF->DF->List Int->List Int->Int->Int->Option R):∀ (m i k:Nat),i + m=n->m < k →
    i_Func_made_vi_closure_c1_l14 K r k v1 v2 v3 (ch.length:Int) v5 v6 (t:Int) (mixV ch t n i) v41 v42 v43 (n:Int) (i:Int) kx=kx v1 v2 v3 (ch.length:Int) v5 v6 (rowsV (ch ++ [t]) n) v41 v42 v43
  | 0,i,k + 1,e,_=>by
    obtain rfl:i=n:=by omega
    simp only [i_Func_made_vi_closure_c1_l14];rw [ite_f (decide_eq_false (by omega)),mixV_n]
  | m + 1,i,k + 1,e,hk=>by
    have ih:=c_made_l14 ch hl n t hn ht r v1 v2 v3 v5 v6 v41 v42 v43 kx m (i + 1) k (by omega) (by omega)
    have hg:(mixV ch t n i).getD ((i:Int)).toNat 0=((rowV ch ch.length i:Nat):Int):=by
      rw [Int.toNat_natCast]
      have:=getD_mr (fun q=>if q < i then ((rowV (ch ++ [t]) (ch ++ [t]).length q:Nat):Int) else ((rowV ch ch.length q:Nat):Int)) (show i < n by omega) 0
      rw [if_neg (by omega)] at this;exact this
    have hb:bnds (i:Int) ((mixV ch t n i).length:Int)=true:=bnds_n (by simp [mixV];omega)
    have hr:rowV ch ch.length i < 2 ^ ch.length:=mkB_lt _ _
    simp only [i_Func_made_vi_closure_c1_l14]
    rw [ite_t (decide_eq_true (by omega)),ite_t hb,i_bit_eq i (by omega),some_bind',ite_t (nn _),hg,shl_bt (by omega),or_dg hr (by omega),ite_t hb,<-rowV_snoc,Int.toNat_natCast,mixV_set (by omega),w64s (by omega),ih]
/-- The relation with what the function makes of tuples. -/
def orM (fb n:Nat) (L:List Nat) (mm:Nat) (ch:List Nat) (q:List Nat) (B:Nat):Nat:=q.foldl (fun acc t=>acc ||| madeV fb n L mm (ch ++ [t])) B
theorem orM_or (fb n:Nat) (L:List Nat) (mm:Nat) (ch:List Nat) (B:Nat):orM fb n L mm ch L B=B ||| madeV fb n L (mm + 1) ch:=by
  apply Nat.eq_of_testBit_eq
  intro j
  rw [orM,fold_bit,Nat.testBit_or,madeV,fold_bit,Nat.zero_testBit,Bool.false_or]
theorem c_made_l10 (B n fb a:Nat) (hn:n<=4) (ch:List Nat) (hl:ch.length < 4) (mm:Nat) (r:RMade R)
    (hr:∀ t ∈ relL B n,∀ D:Nat,D < 65536->r (((a:Int),(fb:Int),()),(n:Int),(relL B n).map (fun (a:Nat)=>(a:Int)),rowsV (ch ++ [t]) n,((ch ++ [t]).length:Int),((n:Int),(D:Int),()),())=some ((true,()),(((n:Int),((D ||| madeV fb n (relL B n) mm (ch ++ [t]):Nat):Int),()),())))
    (kx:DF->Option R) (kr:DF->Bool->Option R):∀ (q p:List Nat) (k D:Nat),D < 65536->relL B n=p ++ q->100 + q.length < k →
    i_Func_made_vi_closure_c1_l10 K r k (n:Int) ((relL B n).map fun (a:Nat)=>(a:Int)) (rowsV ch n) (ch.length:Int) ((n:Int),(D:Int),()) ((a:Int),(fb:Int),()) ((relL B n).map fun (a:Nat)=>(a:Int)) (((relL B n).map fun (a:Nat)=>(a:Int)).length:Int) (p.length:Int) kx kr
      = kx ((n:Int),((orM fb n (relL B n) mm ch q D:Nat):Int),())
  | [],p,k + 1,D,hD,e,_=>by
    simp only [i_Func_made_vi_closure_c1_l10];rw [ite_f (decide_eq_false (by rw [e];simp))];rfl
  | t :: q,p,k + 1,D,hD,e,hk=>by
    have hlt:=madeV_lt (fb:=fb) hn (relL B n) mm (ch ++ [t])
    have ih:=c_made_l10 B n fb a hn ch hl mm r hr kx kr q (p ++ [t]) k (D ||| madeV fb n (relL B n) mm (ch ++ [t])) (Nat.or_lt_two_pow (n:=16) hD hlt) (by rw [e,mid_app]) (by simp at hk;omega)
    simp only [snoc_len] at ih
    have hp:p.length < (relL B n).length:=by rw [e];simp
    have hmem:t ∈ relL B n:=by rw [e];simp
    have h4:=relL_len B n
    have h5:=pw4 hn
    have ht16:t < 16:=by have:=relL_lt hmem;omega
    have ht:((relL B n).map fun (a:Nat)=>(a:Int)).getD ((p.length:Int)).toNat 0=(t:Int):=by rw [getD_map,show (relL B n).getD p.length 0=t from by rw [e];exact getD_mid p q t 0]
    have h14:=fun kx=>c_made_l14 (K:=K) (R:=R) ch hl n t hn ht16 r (n:Int) ((relL B n).map fun (a:Nat)=>(a:Int)) (rowsV ch n) ((n:Int),(D:Int),()) ((a:Int),(fb:Int),()) ((relL B n).map fun (a:Nat)=>(a:Int)) (((relL B n).map fun (a:Nat)=>(a:Int)).length:Int) (p.length:Int) kx n 0 k (by omega) (by simp at hk;omega)
    rw [mixV_0,show ((0:Nat):Int)=0 from rfl] at h14
    have hrt:=hr t hmem D hD
    rw [snoc_len] at hrt
    simp only [i_Func_made_vi_closure_c1_l10]
    rw [ite_t (decide_eq_true (by simp;omega)),ite_t (bnds_n (by simpa using hp)),slices_Clone_int64_eq (by simp [rowsV];omega),some_bind',ht,h14,w64s (by omega),hrt,some_bind',w64s (by omega),ite_f (by rfl),ih]
    rfl
theorem c_made_eq {B n fb a:Nat} (hn:n<=4) (ha:a<=4) (hf:fb < 65536) (hK:4611686018427387904<=K):∀ (m k:Nat) (ch:List Nat) (D:Nat),D < 65536->ch.length + m=a->m < k →
    i_Func_made_vi_closure_c1 K k (((a:Int),(fb:Int),()),(n:Int),(relL B n).map (fun (a:Nat)=>(a:Int)),rowsV ch n,(ch.length:Int),((n:Int),(D:Int),()),())=some ((true,()),(((n:Int),((D ||| madeV fb n (relL B n) m ch:Nat):Int),()),()))
  | 0,k + 1,ch,D,hD,e,_=>by
    have:=c_made_l4 (K:=K) ch (by omega) n fb hn hf (a:Int) ((n:Int),(D:Int),()) (i_Func_made_vi_closure_c1 K k) (fun z2 z3=>(i_closure_c1 K (z3,z2,())).bind fun y4=>some ((y4.1.1,()),(y4.2.1,()))) n 0 K (by omega) (by omega)
    simp only [mkB] at this
    rw [show ((0:Nat):Int)=0 from rfl] at this
    have hv:=valV_lt fb n ch
    have hp:=pw4 hn
    have h16:2 ^ valV fb n ch < 65536:=show 2 ^ valV fb n ch < 2 ^ 16 from Nat.pow_lt_pow_right (show 1 < 2 by decide) (show valV fb n ch < 16 by omega)
    rw [i_Func_made_vi_closure_c1]
    simp only [i_Func_made_vi_closure_c1_b]
    rw [ite_t (decide_eq_true (by simp at e;omega)),this]
    simp only [i_closure_c1]
    rw [ite_t (nn _),some_bind',shl1 (by omega),bitI_or (by omega) (by omega)]
    rfl
  | m + 1,k + 1,ch,D,hD,e,hk=>by
    have hp:=pw4 hn
    have h4:=relL_len B n
    have:=c_made_l10 (K:=K) B n fb a hn ch (by omega) m (i_Func_made_vi_closure_c1 K k) (fun t ht D' hD'=>c_made_eq hn ha hf hK m k (ch ++ [t]) D' hD' (by simp;omega) (by omega)) (fun z20=>some ((true,()),(z20,()))) (fun z21 z22=>some ((z22,()),(z21,()))) (relL B n) [] K D hD rfl (by omega)
    simp only [List.length_nil] at this
    rw [show ((0:Nat):Int)=0 from rfl] at this
    rw [i_Func_made_vi_closure_c1]
    simp only [i_Func_made_vi_closure_c1_b]
    rw [ite_f (decide_eq_false (by omega)),this,orM_or]
/-- One round of the closure. -/
def clStep (n:Nat) (l:List DF) (B:Nat):Nat:=l.foldl (fun B f=>B ||| madeV f.2.1.toNat n (relL B n) f.1.toNat []) B
theorem rowsV_nil (n:Nat):rowsV [] n=List.replicate n 0:=by
  unfold rowsV
  have:(fun i=>((rowV [] 0 i:Nat):Int))=fun _=>0:=rfl
  rw [List.length_nil,this,List.map_const',List.length_range]
theorem madeV_lt' {fb n:Nat} (L:List Nat):∀ (m:Nat) (ch:List Nat),madeV fb n L m ch < 2 ^ 2 ^ n
  | 0,ch=>Nat.pow_lt_pow_right (show 1 < 2 by decide) (valV_lt fb n ch)
  | m + 1,ch=>fold_lt L 0 (Nat.two_pow_pos _) (fun t _=>madeV_lt' L m _)
theorem clStep_lt {n:Nat}:∀ (l:List DF) {B:Nat},B < 2 ^ 2 ^ n->clStep n l B < 2 ^ 2 ^ n
  | [],B,h=>h
  | f :: l,B,h=>clStep_lt l (Nat.or_lt_two_pow h (madeV_lt' _ _ _))
theorem clStep_le {n:Nat}:∀ (l:List DF) (B:Nat),B<=clStep n l B
  | [],B=>Nat.le_refl _
  | f :: l,B=>Nat.le_trans Nat.left_le_or (clStep_le l _)
theorem clos_l3 (n:Nat) (hn:n<=4) (v0:List DF) (v4 v5:DF) (l:List DF) (hl:okL l) (hK:4611686018427387904<=K) (kx:List DF->DF->DF->DF->Option R):∀ (r p:List DF) (B k:Nat),B < 2 ^ 2 ^ n->l=p ++ r->r.length < k →
    i_closure_l3 K k v0 ((n:Int),(B:Int),()) v4 v5 l (l.length:Int) (p.length:Int) kx=kx v0 ((n:Int),((clStep n r B:Nat):Int),()) v4 v5
  | [],p,B,k + 1,hB,e,_=>by
    simp only [i_closure_l3];rw [ite_f (decide_eq_false (by rw [e];simp))];rfl
  | f :: r,p,B,k + 1,hB,e,hk=>by
    obtain ⟨a,fb,rfl,ha,hf⟩:=hl.nat (mem_mid e)
    have hp:=pw4 hn
    have hb4:B < 65536:=Nat.lt_of_lt_of_le hB (Nat.pow_le_pow_right (n:=2) (by decide) hp)
    have hf4:fb < 65536:=Nat.lt_of_lt_of_le hf (Nat.pow_le_pow_right (n:=2) (by decide) (pw4 ha))
    have hlen:=hl.2
    have ih:=clos_l3 n hn v0 v4 v5 l hl hK kx r (p ++ [((a:Int),(fb:Int),())]) (B ||| madeV fb n (relL B n) a []) k (Nat.or_lt_two_pow hB (madeV_lt' _ _ _)) (by rw [e,mid_app]) (by simp at hk;omega)
    have hw:IntKind.i64.wrap ((p.length:Int) + 1)=(((p ++ [((a:Int),(fb:Int),())]).length:Nat):Int):=by rw [snoc_len];exact w64s (by rw [e] at hlen;simp at hlen;omega)
    have hm:=c_made_eq (K:=K) (B:=B) (fb:=fb) hn ha hf4 hK a K [] B hb4 (by simp) (by omega)
    rw [List.length_nil,show ((0:Nat):Int)=0 from rfl] at hm
    simp only [i_closure_l3]
    rw [ite_t (decide_eq_true (by rw [e];simp;omega)),ite_t (by rw [e];exact bnds_mid),i_tuples_eq hn (by omega) hK,some_bind',show lim=1099511627776 from rfl,ite_t (by simp;omega),
      show l.getD ((p.length:Nat):Int).toNat ((0:Int),(0:Int),())=((a:Int),(fb:Int),()) by rw [e];exact getD_midI p r _ _,Int.toNat_natCast,<-rowsV_nil,show sel B.testBit (2 ^ n)=(relL B n).map (fun (a:Nat)=>(a:Int)) from rfl,hm,some_bind',hw,ih]
    rfl
theorem eqD_rel (n B C:Nat):eqD (.pair (.int .i64) (.pair (.int .i64) .unit)) ((n:Int),(B:Int),()) ((n:Int),(C:Int),())=decide (B=C):=by
  rw [Bool.eq_iff_iff]
  simp [eqD]
  exact Int.ofNat_inj
def packN (l:List Nat) (r:Nat):Nat:=mkB (fun i=>(l.getD i 0).testBit r) l.length
def putN (b n:Nat) (l:List Nat):Nat:=mkB (fun r=>b.testBit (packN l r)) (2 ^ n)
theorem putN_lt (b n:Nat) (l:List Nat):putN b n l < 2 ^ 2 ^ n:=mkB_lt _ _
abbrev GS:=List Int × Bool
def hitG (d:Int) (x:Nat) (s:GS):GS:=if s.1.getD x 0 < 0 then (s.1.set x d,true) else s
def newG (d:Int) (l:List Nat) (s:GS):Bool:=decide (d=1) || l.any fun h=>decide (s.1.getD h 0=d - 1)
def stepI (b n:Nat) (kn:List Nat) (d:Int):Nat->List Nat->GS->GS
  | 0,l,s=>if newG d l s=true then hitG d (putN b n l) s else s
  | m + 1,l,s=>kn.foldl (fun s h=>stepI b n kn d m (l ++ [h]) s) s
def stepS (b n:Nat) (kn:List Nat) (d:Int):Nat->List Nat->GS->GS
  | 0,l,s=>hitG d (putN b n l) s
  | m + 1,l,s=>kn.foldl (fun s h=>stepS b n kn d m (l ++ [h]) s) s
def roundI (fs:List (Nat × Nat)) (n:Nat) (kn:List Nat) (d:Int) (s:GS):GS:=fs.foldl (fun s f=>stepI f.2 n kn d f.1 [] s) s
def roundS (fs:List (Nat × Nat)) (n:Nat) (kn:List Nat) (d:Int) (s:GS):GS:=fs.foldl (fun s f=>stepS f.2 n kn d f.1 [] s) s
def knG (D:List Int) (d:Int):List Nat:=(List.range D.length).filter fun i=>decide (0<=D.getD i 0) && decide (D.getD i 0<=d - 1)
def knS (D:List Int):List Nat:=(List.range D.length).filter fun i=>decide (0<=D.getD i 0)
def genI (fs:List (Nat × Nat)) (n:Nat):Nat->Int->List Int->List Int
  | 0,_,D=>D
  | k + 1,d,D=>if (roundI fs n (knG D d) d (D,false)).2=true then genI fs n k (d + 1) (roundI fs n (knG D d) d (D,false)).1 else (roundI fs n (knG D d) d (D,false)).1
def genS (fs:List (Nat × Nat)) (n:Nat):Nat->Int->List Int->List Int
  | 0,_,D=>D
  | k + 1,d,D=>if (roundS fs n (knS D) d (D,false)).2=true then genS fs n k (d + 1) (roundS fs n (knS D) d (D,false)).1 else (roundS fs n (knS D) d (D,false)).1
theorem gget_set (D:List Int) (x i:Nat) (d:Int):(D.set x d).getD i 0=if i=x/\x < D.length then d else D.getD i 0:=by
  simp only [List.getD_eq_getElem?_getD,List.getElem?_set]
  by_cases e:x=i
  · subst e
    by_cases h:x < D.length
    · simp [h]
    · simp [h]
  · rw [if_neg e,if_neg (by omega)]
theorem gneg_lt {D:List Int} {x:Nat} (h:D.getD x 0 < 0):x < D.length:=by
  rcases Nat.lt_or_ge x D.length with e | e
  · exact e
  · rw [List.getD_eq_getElem?_getD,List.getElem?_eq_none e] at h;exact absurd h (by decide)
theorem ghit_keep {d:Int} {x i:Nat} {s:GS} (h:0<=s.1.getD i 0):(hitG d x s).1.getD i 0=s.1.getD i 0:=by
  unfold hitG
  split
  · rename_i h1
    show (s.1.set x d).getD i 0=_
    rw [gget_set,if_neg (fun e=>by rw [e.1] at h;omega)]
  · rfl
theorem ghit_len {d:Int} {x:Nat} {s:GS}:(hitG d x s).1.length=s.1.length:=by
  unfold hitG;split
  · exact List.length_set
  · rfl
theorem ghit_done {d:Int} {x:Nat} {s:GS} (hd:0<=d):0<=(hitG d x s).1.getD x 0:=by
  unfold hitG
  split
  · rename_i h
    show 0<=(s.1.set x d).getD x 0
    rw [gget_set,if_pos ⟨rfl,gneg_lt h⟩];exact hd
  · omega
/-- what a step does: each entry stays, or was negative and is the depth. -/
def GExt (D:List Int) (d:Int) (s:GS):Prop:=s.1.length=D.length/\∀ i,s.1.getD i 0=D.getD i 0\/(D.getD i 0 < 0/\s.1.getD i 0=d)
theorem GExt.keep {D:List Int} {d:Int} {s:GS} (h:GExt D d s) {i:Nat} (hi:0<=D.getD i 0):s.1.getD i 0=D.getD i 0:=by
  rcases h.2 i with e | e
  · exact e
  · omega
theorem GExt.hit {D:List Int} {d:Int} {s:GS} (h:GExt D d s) (x:Nat):GExt D d (hitG d x s):=by
  refine ⟨ghit_len.trans h.1,fun i=>?_⟩
  unfold hitG
  split
  · rename_i h1
    show (s.1.set x d).getD i 0=_\/_/\(s.1.set x d).getD i 0=d
    rw [gget_set]
    split
    · rename_i e
      obtain ⟨rfl,e⟩:=e
      by_cases h0:D.getD i 0 < 0
      · exact Or.inr ⟨h0,rfl⟩
      · rw [h.keep (by omega)] at h1;exact absurd h1 h0
    · exact h.2 i
  · exact h.2 i
theorem GExt.step {b n:Nat} {kn:List Nat} {D:List Int} {d:Int}:∀ (m:Nat) (l:List Nat) (s:GS),GExt D d s->GExt D d (stepS b n kn d m l s)
  | 0,l,s,h=>h.hit _
  | m + 1,l,s,h=>by
    have:∀ (q:List Nat) (s:GS),GExt D d s->GExt D d (q.foldl (fun s h=>stepS b n kn d m (l ++ [h]) s) s):=by
      intro q
      induction q with
      | nil=>intro s h;exact h
      | cons y q ih=>intro s h;exact ih _ (GExt.step m _ _ h)
    exact this kn s h
theorem GExt.round {fs:List (Nat × Nat)} {n:Nat} {kn:List Nat} {D:List Int} {d:Int}:∀ (fs:List (Nat × Nat)) (s:GS),GExt D d s->GExt D d (roundS fs n kn d s)
  | [],s,h=>h
  | f :: fs,s,h=>GExt.round (fs:=fs) fs _ (GExt.step _ _ _ h)
/-- what lists of a function have made before the last round -/
def GMade (b n a:Nat) (d:Int) (D:List Int):Prop:=d=1\/∀ l:List Nat,l.length=a->(∀ h ∈ l,h < D.length/\0<=D.getD h 0/\D.getD h 0<=d - 2)->0<=D.getD (putN b n l) 0
theorem gstep_eq {b n a:Nat} {kn:List Nat} {D:List Int} {d:Int} (hm:GMade b n a d D) (hk:∀ h ∈ kn,h < D.length/\0<=D.getD h 0/\D.getD h 0<=d - 1):∀ (m:Nat) (l:List Nat) (s:GS),l.length + m=a →
    (∀ h ∈ l,h < D.length/\0<=D.getD h 0/\D.getD h 0<=d - 1)->GExt D d s->stepI b n kn d m l s=stepS b n kn d m l s
  | 0,l,s,hl,hh,hs=>by
    simp only [stepI,stepS]
    by_cases hn:newG d l s=true
    · rw [if_pos hn]
    · rw [if_neg hn]
      simp only [newG,Bool.or_eq_true,decide_eq_true_eq,List.any_eq_true,not_or,not_exists,not_and] at hn
      rcases hm with h1 | h1
      · exact absurd h1 hn.1
      · have h2:=h1 l (by omega) (fun h hm=>by
          obtain ⟨k1,k2,k3⟩:=hh h hm
          have:=hn.2 h hm
          rw [hs.keep k2] at this
          exact ⟨k1,k2,by omega⟩)
        unfold hitG
        rw [if_neg (by rw [hs.keep h2];omega)]
  | m + 1,l,s,hl,hh,hs=>by
    simp only [stepI,stepS]
    have:∀ (q:List Nat) (s:GS),(∀ y ∈ q,y ∈ kn)->GExt D d s->q.foldl (fun s h=>stepI b n kn d m (l ++ [h]) s) s=q.foldl (fun s h=>stepS b n kn d m (l ++ [h]) s) s:=by
      intro q
      induction q with
      | nil=>intro s _ _;rfl
      | cons y q ih =>
        intro s hq h
        rw [List.foldl_cons,List.foldl_cons,gstep_eq hm hk m (l ++ [y]) s (by simp;omega) (fun z hz=>by
          rcases List.mem_append.1 hz with e | e
          · exact hh z e
          · rw [List.mem_singleton.1 e];exact hk y (hq y (List.mem_cons_self ..))) h]
        exact ih _ (fun z hz=>hq z (List.mem_cons_of_mem _ hz)) (GExt.step _ _ _ h)
    exact this kn s (fun _ h=>h) hs
theorem ground_eq {n:Nat} {kn:List Nat} {D:List Int} {d:Int} (hk:∀ h ∈ kn,h < D.length/\0<=D.getD h 0/\D.getD h 0<=d - 1):∀ (fs:List (Nat × Nat)) (s:GS),(∀ f ∈ fs,GMade f.2 n f.1 d D)->GExt D d s->roundI fs n kn d s=roundS fs n kn d s
  | [],_,_,_=>rfl
  | f :: fs,s,hm,hs=>by
    show roundI fs n kn d (stepI f.2 n kn d f.1 [] s)=roundS fs n kn d (stepS f.2 n kn d f.1 [] s)
    rw [gstep_eq (hm f (List.mem_cons_self ..)) hk f.1 [] s (by simp) (fun _ h=>by cases h) hs]
    exact ground_eq hk fs _ (fun g hg=>hm g (List.mem_cons_of_mem _ hg)) (GExt.step _ _ _ hs)
theorem gstep_keep {b n:Nat} {kn:List Nat} {d:Int} {i:Nat}:∀ (m:Nat) (l:List Nat) (s:GS),0<=s.1.getD i 0->0<=(stepS b n kn d m l s).1.getD i 0
  | 0,l,s,h=>by show 0<=(hitG d (putN b n l) s).1.getD i 0;rw [ghit_keep h];exact h
  | m + 1,l,s,h=>by
    have:∀ (q:List Nat) (s:GS),0<=s.1.getD i 0->0<=(q.foldl (fun s h=>stepS b n kn d m (l ++ [h]) s) s).1.getD i 0:=by
      intro q
      induction q with
      | nil=>intro s h;exact h
      | cons y q ih=>intro s h;exact ih _ (gstep_keep m _ _ h)
    exact this kn s h
theorem gstep_done {b n:Nat} {kn:List Nat} {d:Int} (hd:0<=d):∀ (m:Nat) (l l':List Nat) (s:GS),l'.length=m->(∀ h ∈ l',h ∈ kn)->0<=(stepS b n kn d m l s).1.getD (putN b n (l ++ l')) 0
  | 0,l,l',s,hl,_=>by
    obtain rfl:l'=[]:=List.length_eq_zero_iff.1 hl
    rw [List.append_nil];exact ghit_done hd
  | m + 1,l,[],s,hl,_=>by cases hl
  | m + 1,l,y :: l',s,hl,hh=>by
    have:∀ (q:List Nat) (s:GS),y ∈ q->0<=(q.foldl (fun s h=>stepS b n kn d m (l ++ [h]) s) s).1.getD (putN b n (l ++ y :: l')) 0:=by
      intro q
      induction q with
      | nil=>intro s h;cases h
      | cons z q ih =>
        intro s h
        rw [List.foldl_cons]
        rcases List.mem_cons.1 h with e | e
        · subst e
          have h1:=gstep_done (b:=b) (n:=n) (kn:=kn) hd m (l ++ [y]) l' s (by simpa using hl) (fun z hz=>hh z (List.mem_cons_of_mem _ hz))
          rw [show l ++ [y] ++ l'=l ++ y :: l' by simp] at h1
          have:∀ (q:List Nat) (s:GS),0<=s.1.getD (putN b n (l ++ y :: l')) 0->0<=(q.foldl (fun s h=>stepS b n kn d m (l ++ [h]) s) s).1.getD (putN b n (l ++ y :: l')) 0:=by
            intro q
            induction q with
            | nil=>intro s h;exact h
            | cons y q ih=>intro s h;exact ih _ (gstep_keep m _ _ h)
          exact this q _ h1
        · exact ih _ e
    exact this kn s (hh y (List.mem_cons_self ..))
theorem ground_keep {n:Nat} {kn:List Nat} {d:Int} {i:Nat}:∀ (fs:List (Nat × Nat)) (s:GS),0<=s.1.getD i 0->0<=(roundS fs n kn d s).1.getD i 0
  | [],_,h=>h
  | f :: fs,s,h=>ground_keep fs _ (gstep_keep _ _ _ h)
theorem ground_done {n:Nat} {kn:List Nat} {d:Int} (hd:0<=d):∀ (fs:List (Nat × Nat)) (s:GS) (f:Nat × Nat) (l:List Nat),f ∈ fs->l.length=f.1->(∀ h ∈ l,h ∈ kn)->0<=(roundS fs n kn d s).1.getD (putN f.2 n l) 0
  | [],_,_,_,h,_,_=>by cases h
  | g :: fs,s,f,l,h,hl,hh=>by
    rcases List.mem_cons.1 h with e | e
    · subst e;exact ground_keep fs _ (gstep_done hd f.1 [] l s hl hh)
    · exact ground_done hd fs _ f l e hl hh
/-- how many entries are negative -/
def negs (D:List Int):Nat:=D.countP fun x=>decide (x < 0)
def GAdv (s s':GS):Prop:=s'=s\/(s'.2=true/\negs s'.1 < negs s.1)
theorem GAdv.trans {s t u:GS} (h:GAdv s t) (k:GAdv t u):GAdv s u:=by
  rcases h with rfl | h
  · exact k
  · rcases k with rfl | k
    · exact Or.inr h
    · exact Or.inr ⟨k.1,Nat.lt_trans k.2 h.2⟩
theorem negs_set:∀ (D:List Int) (x:Nat) (d:Int),D.getD x 0 < 0->0<=d->negs (D.set x d) < negs D
  | [],x,d,h,_=>by simp at h
  | y :: D,0,d,h,hd=>by
    have h:y < 0:=h
    simp only [List.set_cons_zero,negs,List.countP_cons]
    rw [decide_eq_true h,decide_eq_false (by omega)];simp
  | y :: D,x + 1,d,h,hd=>by
    have:=negs_set D x d (by simpa using h) hd
    simp only [List.set_cons_succ,negs,List.countP_cons] at this ⊢
    omega
theorem ghit_adv {d:Int} (hd:0<=d) (x:Nat) (s:GS):GAdv s (hitG d x s):=by
  unfold hitG
  split
  · rename_i h;exact Or.inr ⟨rfl,negs_set _ _ _ h hd⟩
  · exact Or.inl rfl
theorem gstep_adv {b n:Nat} {kn:List Nat} {d:Int} (hd:0<=d):∀ (m:Nat) (l:List Nat) (s:GS),GAdv s (stepS b n kn d m l s)
  | 0,l,s=>ghit_adv hd _ _
  | m + 1,l,s=>by
    have:∀ (q:List Nat) (s:GS),GAdv s (q.foldl (fun s h=>stepS b n kn d m (l ++ [h]) s) s):=by
      intro q
      induction q with
      | nil=>intro s;exact Or.inl rfl
      | cons y q ih=>intro s;exact (gstep_adv hd m _ _).trans (ih _)
    exact this kn s
theorem ground_adv {n:Nat} {kn:List Nat} {d:Int} (hd:0<=d):∀ (fs:List (Nat × Nat)) (s:GS),GAdv s (roundS fs n kn d s)
  | [],_=>Or.inl rfl
  | f :: fs,s=>(gstep_adv hd _ _ _).trans (ground_adv hd fs _)
theorem mem_knS {D:List Int} {h:Nat}:h ∈ knS D ↔ h < D.length/\0<=D.getD h 0:=by simp [knS]
theorem knG_eq {D:List Int} {d:Int} (h:∀ i,D.getD i 0<=d - 1):knG D d=knS D:=by
  unfold knG knS
  refine List.filter_congr fun i _=>?_
  rw [decide_eq_true (h i),Bool.and_true]
/-- a state ahead of a round -/
structure GReady (fs:List (Nat × Nat)) (n:Nat) (d:Int) (D:List Int):Prop where
  pos:1<=d
  le:∀ i,D.getD i 0<=d - 1
  made:∀ f ∈ fs,GMade f.2 n f.1 d D
theorem GReady.kn {fs:List (Nat × Nat)} {n:Nat} {d:Int} {D:List Int} (h:GReady fs n d D):knG D d=knS D:=knG_eq h.le
theorem GReady.round {fs:List (Nat × Nat)} {n:Nat} {d:Int} {D:List Int} (h:GReady fs n d D):roundI fs n (knG D d) d (D,false)=roundS fs n (knS D) d (D,false):=by
  rw [h.kn]
  exact ground_eq (fun x hx=>⟨(mem_knS.1 hx).1,(mem_knS.1 hx).2,h.le x⟩) fs _ h.made ⟨rfl,fun i=>Or.inl rfl⟩
theorem GReady.next {fs:List (Nat × Nat)} {n:Nat} {d:Int} {D:List Int} (h:GReady fs n d D):GReady fs n (d + 1) (roundS fs n (knS D) d (D,false)).1:=by
  have hp:=h.pos
  have he:GExt D d (roundS fs n (knS D) d (D,false)):=GExt.round (fs:=fs) fs _ ⟨rfl,fun i=>Or.inl rfl⟩
  refine ⟨by omega,fun i=>?_,fun f hf=>Or.inr fun l hl hh=>?_⟩
  · have:=h.le i
    rcases he.2 i with e | e <;> omega
  · refine ground_done (by omega) fs _ f l hf hl fun x hx=>mem_knS.2 ?_
    obtain ⟨k1,k2,k3⟩:=hh x hx
    have h1:=he.1
    refine ⟨by omega,?_⟩
    rcases he.2 x with e | e
    · omega
    · omega
theorem gen_eq {fs:List (Nat × Nat)} {n:Nat}:∀ (k:Nat) (d:Int) (D:List Int),GReady fs n d D->genI fs n k d D=genS fs n k d D
  | 0,_,_,_=>rfl
  | k + 1,d,D,h=>by
    simp only [genI,genS,h.round]
    split
    · exact gen_eq k _ _ h.next
    · rfl
/-- enough rounds are enough -/
theorem genS_fuel {fs:List (Nat × Nat)} {n:Nat}:∀ (k k':Nat) (d:Int) (D:List Int),0<=d->negs D < k->negs D < k'->genS fs n k d D=genS fs n k' d D
  | 0,_,_,_,_,h,_=>by omega
  | _,0,_,_,_,_,h=>by omega
  | k + 1,k' + 1,d,D,hd,h,h'=>by
    simp only [genS]
    split
    · rename_i hb
      rcases ground_adv (n:=n) (kn:=knS D) hd fs (D,false) with e | e
      · rw [e] at hb;cases hb
      · exact genS_fuel k k' _ _ (by omega) (by have:=e.2;simp only at this;omega) (by have:=e.2;simp only at this;omega)
    · rfl
/-- all that a list generates has what is kept by putting together -/
theorem gstep_all {b n:Nat} {kn:List Nat} {d:Int} {P:Nat->Prop} {a:Nat} (hp:∀ l:List Nat,l.length=a->(∀ h ∈ l,P h)->P (putN b n l)) (hk:∀ h ∈ kn,P h):∀ (m:Nat) (l:List Nat) (s:GS),l.length + m=a->(∀ h ∈ l,P h) →
    (∀ i,i < s.1.length->0<=s.1.getD i 0->P i)->(∀ i,i < (stepS b n kn d m l s).1.length->0<=(stepS b n kn d m l s).1.getD i 0->P i)
  | 0,l,s,hl,hh,hs=>by
    intro i hi h0
    have hi:i < (hitG d (putN b n l) s).1.length:=hi
    have h0:0<=(hitG d (putN b n l) s).1.getD i 0:=h0
    rw [ghit_len] at hi
    unfold hitG at h0
    split at h0
    · have h0:0<=(s.1.set (putN b n l) d).getD i 0:=h0
      rw [gget_set] at h0
      split at h0
      · rename_i e;rw [e.1];exact hp l (by omega) hh
      · exact hs i hi h0
    · exact hs i hi h0
  | m + 1,l,s,hl,hh,hs=>by
    have:∀ (q:List Nat) (s:GS),(∀ y ∈ q,y ∈ kn)->(∀ i,i < s.1.length->0<=s.1.getD i 0->P i)->∀ i,i < (q.foldl (fun s h=>stepS b n kn d m (l ++ [h]) s) s).1.length->0<=(q.foldl (fun s h=>stepS b n kn d m (l ++ [h]) s) s).1.getD i 0->P i:=by
      intro q
      induction q with
      | nil=>intro s _ h;exact h
      | cons y q ih =>
        intro s hq h
        refine ih _ (fun z hz=>hq z (List.mem_cons_of_mem _ hz)) (gstep_all hp hk m (l ++ [y]) s (by simp;omega) (fun z hz=>?_) h)
        rcases List.mem_append.1 hz with e | e
        · exact hh z e
        · rw [List.mem_singleton.1 e];exact hk y (hq y (List.mem_cons_self ..))
    exact this kn s (fun _ h=>h) hs
theorem ground_all {n:Nat} {kn:List Nat} {d:Int} {P:Nat->Prop} (hk:∀ h ∈ kn,P h):∀ (fs:List (Nat × Nat)) (s:GS),(∀ f ∈ fs,∀ l:List Nat,l.length=f.1->(∀ h ∈ l,P h)->P (putN f.2 n l)) →
    (∀ i,i < s.1.length->0<=s.1.getD i 0->P i)->(∀ i,i < (roundS fs n kn d s).1.length->0<=(roundS fs n kn d s).1.getD i 0->P i)
  | [],_,_,h=>h
  | f :: fs,s,hp,h=>ground_all hk fs _ (fun g hg=>hp g (List.mem_cons_of_mem _ hg)) (gstep_all (hp f (List.mem_cons_self ..)) hk f.1 [] s (by simp) (fun _ h=>by cases h) h)
theorem gen_all {fs:List (Nat × Nat)} {n:Nat} {P:Nat->Prop} (hp:∀ f ∈ fs,∀ l:List Nat,l.length=f.1->(∀ h ∈ l,P h)->P (putN f.2 n l)):∀ (k:Nat) (d:Int) (D:List Int),(∀ i,i < D.length->0<=D.getD i 0->P i) →
    ∀ i,i < (genS fs n k d D).length->0<=(genS fs n k d D).getD i 0->P i
  | 0,_,_,h=>h
  | k + 1,d,D,h=>by
    have h1:=ground_all (n:=n) (d:=d) (kn:=knS D) (fun x hx=>h x (mem_knS.1 hx).1 (mem_knS.1 hx).2) fs (D,false) hp h
    simp only [genS]
    split
    · exact gen_all hp k _ _ h1
    · exact h1
theorem genS_len {fs:List (Nat × Nat)} {n:Nat}:∀ (k:Nat) (d:Int) (D:List Int),(genS fs n k d D).length=D.length
  | 0,_,_=>rfl
  | k + 1,d,D=>by
    have he:GExt D d (roundS fs n (knS D) d (D,false)):=GExt.round (fs:=fs) fs _ ⟨rfl,fun i=>Or.inl rfl⟩
    simp only [genS]
    split
    · rw [genS_len k];exact he.1
    · exact he.1
def fN (n b:Nat):DF:=((n:Int),(b:Int),())
def fnsN (n:Nat) (l:List Nat):List DF:=l.map (fN n)
theorem fns_len (n:Nat) (l:List Nat):(fnsN n l).length=l.length:=by simp [fnsN]
theorem fns_get (n:Nat) (l:List Nat) (i:Nat) (h:i < l.length):(fnsN n l).getD (i:Int).toNat ((0:Int),(0:Int),())=fN n (l.getD i 0):=by
  simp [fnsN,List.getD,h]
theorem fns_snoc (n:Nat) (l:List Nat) (x:Nat):fnsN n l ++ [fN n x]=fnsN n (l ++ [x]):=by simp [fnsN]
theorem getD_all {l:List Nat} {B:Nat} (hB:0 < B) (h:∀ x ∈ l,x < B) (i:Nat):l.getD i 0 < B:=by
  by_cases hi:i < l.length
  · have:l.getD i 0=l[i]:=by simp [List.getD,hi]
    rw [this];exact h _ (List.getElem_mem hi)
  · simp [List.getD,hi,hB]
theorem putc_l {n j:Nat} (l:List Nat) (hl:l.length<=4) (hb:∀ x ∈ l,x < 65536) (v2:DF) (kx:DF->Int->Option R):∀ (m i k:Nat),i + m=l.length->m < k →
    i_Func_put_c1_l3 K k (j:Int) v2 ((mkB (fun i=>(l.getD i 0).testBit j) i:Nat):Int) (fnsN n l) (l.length:Int) (i:Int) kx=kx v2 ((packN l j:Nat):Int)
  | _,_,0,_,h=>by omega
  | 0,i,k + 1,e,_=>by
    obtain rfl:i=l.length:=by omega
    simp only [i_Func_put_c1_l3];rw [ite_f (decide_eq_false (by omega))];rfl
  | m + 1,i,k + 1,e,hk=>by
    have ih:=putc_l (n:=n) (j:=j) l hl hb v2 kx m (i + 1) k (by omega) (by omega)
    rw [mkB_succ] at ih
    have hx:=getD_all (by decide) hb i
    simp only [i_Func_put_c1_l3]
    rw [ite_t (decide_eq_true (by omega)),ite_t (bnds_n (by rw [fns_len];omega)),fns_get n l i (by omega),fN,i_Func_at_eq j (by omega),some_bind',ite_t (nn _),shl_bt (by omega),or_dg (mkB_lt _ _) (by omega),w64s (by omega),ih]
theorem packN_lt (l:List Nat) (r:Nat):packN l r < 2 ^ l.length:=mkB_lt _ _
theorem i_Func_put_eq {a b n m:Nat} (hb:b < 65536) (hn:n<=4) (l:List Nat) (hl:l.length<=4) (hx:∀ x ∈ l,x < 65536) (hK:4611686018427387904<=K):i_Func_put K (fN a b,(n:Int),fnsN m l,())=some (fN n (putN b n l)):=by
  simp only [i_Func_put]
  rw [i_funcBy_eq (fun r=>b.testBit (packN l r)) hn (fun j hj=>?_) hK,some_bind']
  · rfl
  · simp only [i_Func_put_c1,fns_len]
    have:=putc_l (K:=K) (n:=m) (j:=j) l hl hx (fN a b) (fun z2 z3=>(i_Func_at K (z2,z3,())).bind fun y4=>some y4) l.length 0 K (by omega) (by omega)
    refine this.trans ?_
    have h16:packN l j < 16:=Nat.lt_of_lt_of_le (packN_lt l j) (Nat.pow_le_pow_right (by decide) hl)
    rw [fN,i_Func_at_eq _ (by omega),some_bind'];rfl
def projN (n i:Nat):Nat:=mkB (fun r=>r.testBit i) (2 ^ n)
theorem projN_lt (n i:Nat):projN n i < 2 ^ 2 ^ n:=mkB_lt _ _
theorem i_projection_eq {n i:Nat} (hn:n<=4) (hK:4611686018427387904<=K):i_projection K ((n:Int),(i:Int),())=some (fN n (projN n i)):=by
  simp only [i_projection]
  rw [i_funcBy_eq (fun r=>r.testBit i) hn (fun j hj=>?_) hK,some_bind']
  · rfl
  · have h16:j < 16:=Nat.lt_of_lt_of_le hj (Nat.pow_le_pow_right (by decide) hn)
    simp only [i_projection_c1]
    rw [i_bit_eq i (by omega),some_bind'];rfl
theorem that_l (p:Nat->Bool) (f:DF × Unit->Option Bool) (n N:Nat) (hN:N<=65536) (hf:∀ j,j < N->f (fN n j,())=some (p j)) (kx:List DF->Option R):∀ (m i k:Nat),i + m=N->m < k →
    i_funcsThat_l3 K k (n:Int) f (fnsN n ((List.range i).filter p)) (N:Int) (i:Int) kx=kx (fnsN n ((List.range N).filter p))
  | _,_,0,_,h=>by omega
  | 0,i,k + 1,e,_=>by
    obtain rfl:i=N:=by omega
    simp only [i_funcsThat_l3];rw [ite_f (decide_eq_false (by omega))]
  | m + 1,i,k + 1,e,hk=>by
    have ih:=that_l p f n N hN hf kx m (i + 1) k (by omega) (by omega)
    have hlen:(fnsN n ((List.range i).filter p)).length<=i:=by
      rw [fns_len];exact Nat.le_trans (List.length_filter_le _ _) (by simp)
    have hlim:(1099511627776:Nat)=lim:=rfl
    simp only [i_funcsThat_l3]
    rw [ite_t (decide_eq_true (by omega)),show f (((n:Int),(i:Int),()),())=some (p i) from hf i (by omega),some_bind']
    rw [List.range_succ,List.filter_append] at ih
    cases hp:p i
    · rw [ite_f rfl,w64s (by omega)]
      rw [show List.filter p [i]=[] by simp [hp],List.append_nil] at ih
      exact ih
    · rw [ite_t rfl,ite_t (decide_eq_true (by simp only [List.length_cons,List.length_nil];omega)),w64s (by omega)]
      rw [show List.filter p [i]=[i] by simp [hp],<-fns_snoc] at ih
      exact ih
theorem pp4 {n:Nat} (hn:n<=4):2 ^ 2 ^ n<=65536:=Nat.le_trans (Nat.pow_le_pow_right (by decide) (Nat.pow_le_pow_right (by decide) hn)) (show 2 ^ 2 ^ 4<=65536 by decide)
theorem i_funcsThat_eq (p:Nat->Bool) {f:DF × Unit->Option Bool} {n:Nat} (hn:n<=4) (hf:∀ j,j < 2 ^ 2 ^ n->f (fN n j,())=some (p j)) (hK:4611686018427387904<=K):i_funcsThat K ((n:Int),f,())=some (fnsN n ((List.range (2 ^ 2 ^ n)).filter p)):=by
  have h16:=pp4 hn
  simp only [i_funcsThat]
  rw [i_funcsOf_eq hn,some_bind']
  exact that_l (K:=K) p f n (2 ^ 2 ^ n) h16 hf (fun z5=>some z5) (2 ^ 2 ^ n) 0 K (by omega) (by omega)
theorem i_known_eq {n:Nat} (hn:n<=4) {list:List DF} {D:List Int} (hD:D.length=2 ^ 2 ^ n) {d:Int} (h0:0<=d) (h1:d < 1000000) (hK:4611686018427387904<=K):i_generated_known K ((list,(n:Int),D,()),d,())=some (fnsN n (knG D d)):=by
  simp only [i_generated_known]
  rw [i_funcsThat_eq (fun i=>decide (0<=D.getD i 0) && decide (D.getD i 0<=d - 1)) hn (fun j hj=>?_) hK,some_bind',knG,hD]
  simp only [i_generated_known_c1,fN]
  refine (ite_t (bnds_n (show j < D.length by omega))).trans ?_
  show (i_within K (D.getD ((j:Nat):Int).toNat 0,0,IntKind.i64.wrap (d - 1),())).bind _=_
  rw [Int.toNat_natCast,w64 (by omega) (by omega),i_within_eq,some_bind']
theorem i_all_eq {n:Nat} (hn:n<=4) {list:List DF} {D:List Int} (hD:D.length=2 ^ 2 ^ n) (hK:4611686018427387904<=K):i_generated_all K ((list,(n:Int),D,()),())=some (fnsN n (knS D)):=by
  simp only [i_generated_all]
  rw [i_funcsThat_eq (fun i=>decide (0<=D.getD i 0)) hn (fun j hj=>?_) hK,some_bind',knS,hD]
  simp only [i_generated_all_c1,fN]
  refine (ite_t (bnds_n (show j < D.length by omega))).trans ?_
  rfl
theorem isNewF_eq {n:Nat} {list:List DF} {l:List Nat} {s:GS} {d:Int} (hl:l.length<=4) (hx:∀ x ∈ l,x < s.1.length) (h0:0<=d) (h1:d < 1000000) (hK:4611686018427387904<=K):isNewF K list (n:Int) d (fnsN n l) s=some (newG d l s):=by
  unfold isNewF newG
  by_cases hd:d=1
  · rw [if_pos hd,decide_eq_true hd,Bool.true_or]
  · rw [if_neg hd,decide_eq_false hd,Bool.false_or,slices_ContainsFunc_impl_Func_eq _ (fun x=>decide (s.1.getD x.2.1.toNat 0=d - 1)) (by rw [fns_len];omega) hK (fun x hx'=>?_)]
    · simp only [fnsN,List.any_map];rfl
    · obtain ⟨b,hb,rfl⟩:=List.mem_map.1 hx'
      simp only [i_generated_steps_c1,fN]
      refine (ite_t (bnds_n (hx b hb))).trans ?_
      show some (decide (s.1.getD ((b:Nat):Int).toNat 0=IntKind.i64.wrap (d - 1)))=_
      exact congrArg some (decide_eq_decide.2 (by rw [w64 (by omega) (by omega)]))
theorem eachF_eq {n x:Nat} {d:Int} {s:GS} (hx:x < s.1.length):eachF d (fN n x) s=some (hitG d x s):=by
  unfold eachF hitG fN
  rw [if_pos ⟨by simp,by simpa using hx⟩]
  simp only [Int.toNat_natCast]
theorem stepI_len {b n:Nat} {kn:List Nat} {d:Int}:∀ (m:Nat) (l:List Nat) (s:GS),(stepI b n kn d m l s).1.length=s.1.length
  | 0,l,s=>by
    simp only [stepI];split
    · exact ghit_len
    · rfl
  | m + 1,l,s=>by
    have:∀ (q:List Nat) (s:GS),(q.foldl (fun s h=>stepI b n kn d m (l ++ [h]) s) s).1.length=s.1.length:=by
      intro q
      induction q with
      | nil=>intro s;rfl
      | cons y q ih=>intro s;rw [List.foldl_cons,ih];exact stepI_len m _ _
    exact this kn s
theorem foldF_map {α β σ:Type} {g:α->β} {f:σ->β->Option σ} {h:σ->α->σ} {I:σ->Prop} (hI:∀ s x,I s->I (h s x)):∀ (l:List α) (s:σ),(∀ x ∈ l,∀ s,I s->f s (g x)=some (h s x))->I s->foldF f (l.map g) s=some (l.foldl h s)
  | [],_,_,_=>rfl
  | x :: l,s,hf,hs=>by
    rw [List.map_cons,foldF,hf x (List.mem_cons_self ..) s hs,Option.bind_some,List.foldl_cons]
    exact foldF_map hI l _ (fun y hy=>hf y (List.mem_cons_of_mem _ hy)) (hI s x hs)
theorem stepsF_eq {n a b:Nat} (hn:n<=4) (ha:a<=4) (hb:b < 65536) {list:List DF} {kn:List Nat} (hkl:kn.length<=65536) (hkn:∀ x ∈ kn,x < 2 ^ 2 ^ n) {d:Int} (h0:0<=d) (h1:d < 1000000) (hK:4611686018427387904<=K):∀ (m k:Nat) (l:List Nat) (s:GS),l.length + m=a->m < k →
    (∀ x ∈ l,x < 2 ^ 2 ^ n)->s.1.length=2 ^ 2 ^ n->stepsF K list (n:Int) (fN a b) (fnsN n kn) d k (fnsN n l) s=some (stepI b n kn d m l s)
  | _,0,_,_,_,h,_,_=>by omega
  | 0,k + 1,l,s,hl,_,hx,hs=>by
    have h16:=pp4 hn
    simp only [stepsF,fns_len]
    refine (if_pos (show (l.length:Int)=(a:Int) by omega)).trans ?_
    rw [isNewF_eq (by omega) (fun x h=>by rw [hs];exact hx x h) h0 h1 hK,Option.bind_some,stepI]
    cases newG d l s
    · rfl
    · rw [if_pos rfl,if_pos rfl,i_Func_put_eq hb hn l (by omega) (fun x h=>Nat.lt_of_lt_of_le (hx x h) h16) hK,Option.bind_some,eachF_eq (by rw [hs];exact putN_lt _ _ _)]
  | m + 1,k + 1,l,s,hl,hk,hx,hs=>by
    simp only [stepsF,fns_len]
    refine (if_neg (show ¬ (l.length:Int)=(a:Int) by omega)).trans ?_
    rw [if_pos ⟨by omega,by omega⟩,stepI]
    refine foldF_map (I:=fun s=>s.1.length=2 ^ 2 ^ n) (fun s x h=>by rw [stepI_len];exact h) kn s (fun x hxk s hs=>?_) hs
    rw [fns_snoc]
    exact stepsF_eq hn ha hb hkl hkn h0 h1 hK m k (l ++ [x]) s (by simp;omega) (by omega) (fun y hy=>by
      rcases List.mem_append.1 hy with e | e
      · exact hx y e
      · rw [List.mem_singleton.1 e];exact hkn x hxk) hs
/-- a list of functions, in numbers -/
def fsN (fs:List (Nat × Nat)):List DF:=fs.map fun f=>fN f.1 f.2
def okFs (fs:List (Nat × Nat)):Prop:=(∀ f ∈ fs,f.1<=4/\f.2 < 2 ^ 2 ^ f.1)/\fs.length<=1000
theorem roundF_eq {n:Nat} (hn:n<=4) {fs:List (Nat × Nat)} (hf:okFs fs) {list:List DF} {kn:List Nat} (hkl:kn.length<=65536) (hkn:∀ x ∈ kn,x < 2 ^ 2 ^ n) {d:Int} (h0:0<=d) (h1:d < 1000000) (hK:4611686018427387904<=K) (s:GS) (hs:s.1.length=2 ^ 2 ^ n) :
    roundF K list (n:Int) (fnsN n kn) d (fsN fs) s=some (roundI fs n kn d s):=by
  unfold roundF fsN roundI
  refine foldF_map (I:=fun s=>s.1.length=2 ^ 2 ^ n) (fun s x h=>by rw [stepI_len];exact h) fs s (fun f hff s hs=>?_) hs
  have h2:=hf.1 f hff
  exact stepsF_eq hn h2.1 (Nat.lt_of_lt_of_le h2.2 (pp4 h2.1)) hkl hkn h0 h1 hK f.1 100 [] s (by simp) (by omega) (fun _ h=>by cases h) hs
theorem negs_le (D:List Int):negs D<=D.length:=List.countP_le_length
theorem knG_lt {D:List Int} {d:Int}:(knG D d).length<=D.length/\∀ x ∈ knG D d,x < D.length:=by
  refine ⟨Nat.le_trans (List.length_filter_le _ _) (by simp),fun x hx=>?_⟩
  exact List.mem_range.1 (List.mem_filter.1 hx).1
theorem roundI_len {fs:List (Nat × Nat)} {n:Nat} {kn:List Nat} {d:Int}:∀ (fs:List (Nat × Nat)) (s:GS),(roundI fs n kn d s).1.length=s.1.length
  | [],_=>rfl
  | f :: fs,s=>(roundI_len (fs:=fs) fs _).trans (stepI_len _ _ _)
theorem loopF_eq {n:Nat} (hn:n<=4) {fs:List (Nat × Nat)} (hf:okFs fs) (hK:4611686018427387904<=K):∀ (k:Nat) (d:Int) (D:List Int),GReady fs n d D->D.length=2 ^ 2 ^ n->negs D < k->d + negs D < 1000000->loopF K (fsN fs) (n:Int) k d D=some (genI fs n k d D)
  | 0,_,_,_,_,h,_=>by omega
  | k + 1,d,D,hr,hD,hk,hd=>by
    have h0:=hr.pos
    have h16:=pp4 hn
    have hk2:=knG_lt (D:=D) (d:=d)
    simp only [loopF]
    rw [if_pos ⟨by omega,by omega,by have:=hf.2;simp only [fsN,List.length_map];omega⟩,i_known_eq hn hD (by omega) (by omega) hK,Option.bind_some,
      roundF_eq hn hf (by omega) (fun x hx=>by rw [<-hD];exact hk2.2 x hx) (by omega) (by omega) hK _ hD,Option.bind_some,genI]
    by_cases hb:(roundI fs n (knG D d) d (D,false)).2=true
    · rw [if_pos hb,if_pos hb]
      rw [hr.round] at hb ⊢
      have hadv:=ground_adv (n:=n) (kn:=knS D) (show (0:Int)<=d by omega) fs (D,false)
      have hlt:negs (roundS fs n (knS D) d (D,false)).1 < negs D:=by
        rcases hadv with e | e
        · rw [e] at hb;cases hb
        · exact e.2
      have hl2:(roundS fs n (knS D) d (D,false)).1.length=2 ^ 2 ^ n:=by rw [<-hr.round,roundI_len (fs:=fs)];exact hD
      exact loopF_eq hn hf hK k (d + 1) _ hr.next hl2 (by omega) (by omega)
    · rw [if_neg hb,if_neg hb]
/-- the projections have the depth 0 -/
def initG (n:Nat):List Int:=(List.range n).foldl (fun D i=>D.set (projN n i) 0) (List.replicate (2 ^ 2 ^ n) (-1))
theorem initF_eq {n:Nat} (hn:n<=4) (hK:4611686018427387904<=K):∀ (m i k:Nat) (D:List Int),i + m=n->m < k->D.length=2 ^ 2 ^ n →
    initF K (n:Int) k (i:Int) D=some ((List.range' i m).foldl (fun D i=>D.set (projN n i) 0) D)
  | _,_,0,_,_,h,_=>by omega
  | 0,i,k + 1,D,h,_,_=>by
    simp only [initF];rw [if_neg (by omega)];rfl
  | m + 1,i,k + 1,D,h,hk,hD=>by
    have ih:=initF_eq hn hK m (i + 1) k (D.set (projN n i) 0) (by omega) (by omega) (by simpa using hD)
    have hp:=projN_lt n i
    simp only [initF]
    rw [if_pos (by omega),i_projection_eq hn hK,Option.bind_some]
    refine (if_pos ⟨by simp [fN],by simp only [fN];omega⟩).trans ?_
    rw [List.range'_succ,List.foldl_cons,<-ih];rfl
def KK:Nat:=9223372036854775808
theorem rep16:slices_Repeat_int64 KK ([(-1:Int)],(16:Int),())=some (List.replicate 16 (-1)):=by decide +kernel
theorem rep256:slices_Repeat_int64 KK ([(-1:Int)],(256:Int),())=some (List.replicate 256 (-1)):=by decide +kernel
theorem rep_eq {n:Nat} (hn:n=2\/n=3):slices_Repeat_int64 KK ([(-1:Int)],((2 ^ 2 ^ n:Nat):Int),())=some (List.replicate (2 ^ 2 ^ n) (-1)):=by
  rcases hn with rfl | rfl
  · exact rep16
  · exact rep256
theorem KK_ge:4611686018427387904<=KK:=by decide
/-- what a list generates, round by round -/
def genD (fs:List (Nat × Nat)) (n:Nat):List Int:=genS fs n KK 1 (initG n)
theorem initG_len (n:Nat):(initG n).length=2 ^ 2 ^ n:=by
  have:∀ (l:List Nat) (D:List Int),(l.foldl (fun D i=>D.set (projN n i) 0) D).length=D.length:=by
    intro l
    induction l with
    | nil=>intro D;rfl
    | cons y l ih=>intro D;rw [List.foldl_cons,ih];simp
  rw [initG,this];simp
theorem initG_mem (n x:Nat):(initG n).getD x 0<=0/\(x < 2 ^ 2 ^ n->0<=(initG n).getD x 0->∃ i,i < n/\x=projN n i):=by
  have key:∀ (l:List Nat) (D:List Int),(D.getD x 0<=0->(l.foldl (fun D i=>D.set (projN n i) 0) D).getD x 0<=0)/\(0<=(l.foldl (fun D i=>D.set (projN n i) 0) D).getD x 0->0<=D.getD x 0\/∃ i ∈ l,x=projN n i):=by
    intro l
    induction l with
    | nil=>intro D;exact ⟨fun h=>h,fun h=>Or.inl h⟩
    | cons y l ih =>
      intro D
      rw [List.foldl_cons]
      obtain ⟨h1,h2⟩:=ih (D.set (projN n y) 0)
      refine ⟨fun h=>h1 ?_,fun h=>?_⟩
      · rw [gget_set];split
        · exact Int.le_refl 0
        · exact h
      · rcases h2 h with e | ⟨i,hi,e⟩
        · rw [gget_set] at e
          split at e
          · rename_i hx;exact Or.inr ⟨y,List.mem_cons_self ..,hx.1⟩
          · exact Or.inl e
        · exact Or.inr ⟨i,List.mem_cons_of_mem _ hi,e⟩
  obtain ⟨h1,h2⟩:=key (List.range n) (List.replicate (2 ^ 2 ^ n) (-1))
  have h0:(List.replicate (2 ^ 2 ^ n) (-1:Int)).getD x 0=if x < 2 ^ 2 ^ n then -1 else 0:=by
    simp only [List.getD,List.getElem?_replicate]
    split <;> rfl
  refine ⟨h1 (by rw [h0];split <;> decide),fun hx h=>?_⟩
  rcases h2 h with e | ⟨i,hi,e⟩
  · rw [h0,if_pos hx] at e;exact absurd e (by decide)
  · exact ⟨i,List.mem_range.1 hi,e⟩
theorem initG_ready (fs:List (Nat × Nat)) (n:Nat):GReady fs n 1 (initG n):=⟨by decide,fun i=>by have:=(initG_mem n i).1;omega,fun _ _=>Or.inl rfl⟩
theorem initG_negs {n:Nat} (hn:n<=4):negs (initG n)<=65536:=by
  have:=negs_le (initG n)
  rw [initG_len] at this
  exact Nat.le_trans this (pp4 hn)
theorem genF_eq {n:Nat} (hn:n=2\/n=3) {fs:List (Nat × Nat)} (hf:okFs fs):genF KK (fsN fs) (n:Int)=some (genD fs n):=by
  have hn4:n<=4:=by omega
  have hl:(fsN fs).length < 1000000:=by have:=hf.2;simp only [fsN,List.length_map];omega
  have h16:=Nat.two_pow_pos (2 ^ n)
  unfold genF
  rw [if_pos ⟨by omega,by omega,hl⟩,i_funcsOf_eq hn4,Option.bind_some,rep_eq hn,Option.bind_some,if_neg (by simp only [List.length_replicate];omega)]
  have hi:=initF_eq (K:=KK) hn4 KK_ge n 0 1000 (List.replicate (2 ^ 2 ^ n) (-1)) (by omega) (by omega) (by simp)
  rw [show ((0:Nat):Int)=0 from rfl,<-List.range_eq_range'] at hi
  rw [hi,Option.bind_some]
  have hg:=initG_negs hn4
  have hlp:=loopF_eq hn4 hf KK_ge KK 1 (initG n) (initG_ready fs n) (initG_len n) (by have:(9223372036854775808:Nat)=KK:=rfl;omega) (by omega)
  rw [show (List.range n).foldl (fun D i=>D.set (projN n i) 0) (List.replicate (2 ^ 2 ^ n) (-1))=initG n from rfl,hlp,gen_eq KK 1 (initG n) (initG_ready fs n)];rfl
/-- the code of a list and an arity -/
def codeG (l:List DF) (n:Int):Int:=if codeV l=0 then (if 2<=n/\n<=3 then (if n=3/\(l.any fun f=>decide (f.1 > 2))=true then 2 else 0) else 2) else codeV l
theorem anyL1 {x:List DF} {f:List DF × Unit->Option Bool} {b:Bool} (hK:10<=K) (hf:f (x,())=some b):slices_ContainsFunc_L_impl_Func K ([x],f,())=some b:=by
  obtain ⟨k,rfl⟩:∃ k,K=k + 2:=⟨K - 2,by omega⟩
  simp only [slices_ContainsFunc_L_impl_Func,slices_IndexFunc_L_impl_Func,slices_IndexFunc_L_impl_Func_l2]
  rw [ite_t (by rfl),ite_t (by rfl),show ([x]:List (List DF)).getD (0:Int).toNat []=x from rfl,hf,some_bind']
  cases b
  · rw [ite_f rfl,ite_f (by rfl)];rfl
  · rw [ite_t rfl];rfl
theorem i_generationCode_eq {l:List DF} (hl:l.length < 4611686018427387904) (n:Int) (hK:4611686018427387904<=K):i_generationCode K (n,[l],())=some (codeG l n):=by
  have hc:i_generationCode_c1 K (l,())=some (!(l.all (isF 0))):=by simp only [i_generationCode_c1];rw [i_areFuncs_eq hl hK,some_bind']
  have hc2:slices_ContainsFunc_impl_Func K (l,(fun y6=>i_generationCode_c2 K (y6.1,())),())=some (l.any fun f=>decide (f.1 > 2)):=slices_ContainsFunc_impl_Func_eq _ _ hl hK fun x _=>by simp only [i_generationCode_c2]
  simp only [i_generationCode]
  rw [anyL1 (by omega) hc,some_bind',codeG,codeV]
  cases hall:l.all (isF 0)
  · rw [ite_t (c:=!false) rfl];rfl
  · rw [ite_f (c:=!true) rfl,i_within_eq,some_bind',if_pos rfl]
    by_cases hn:2<=n/\n<=3
    · rw [decide_eq_true hn.1,decide_eq_true hn.2,ite_f (by rfl),if_pos hn]
      obtain ⟨k,rfl⟩:∃ k,K=k + 2:=⟨K - 2,by omega⟩
      simp only [i_generationCode_l6]
      rw [ite_t (by rfl),ite_t (by rfl),show ([l]:List (List DF)).getD (0:Int).toNat []=l from rfl]
      by_cases h8:8 < l.length
      · rw [ite_t (decide_eq_true (by omega)),if_pos h8];rfl
      · rw [ite_f (decide_eq_false (by omega)),if_neg h8,if_pos rfl]
        by_cases h3:n=3
        · rw [ite_t (decide_eq_true h3),hc2,some_bind']
          cases ha:l.any fun f=>decide (f.1 > 2)
          · rw [ite_f rfl,ite_f (by rfl),if_neg (by simp)]
          · rw [ite_t rfl,if_pos ⟨h3,rfl⟩]
        · rw [ite_f (decide_eq_false h3),ite_f (by rfl),if_neg (fun h=>h3 h.1)]
    · rw [ite_t (by
        by_cases h2:2<=n
        · rw [decide_eq_true h2,decide_eq_false (fun h=>hn ⟨h2,h⟩)];rfl
        · rw [decide_eq_false h2];rfl),if_neg hn]
      by_cases h8:8 < l.length
      · rw [if_pos h8];rfl
      · rw [if_neg h8];rfl
theorem i_GeneratedBy_ok {fs:List (Nat × Nat)} (hf:okFs fs) {n:Nat} (hn:n=2\/n=3) (h:codeG (fsN fs) (n:Int)=0):i_GeneratedBy KK (fsN fs,(n:Int),())=some (fnsN n (knS (genD fs n)),0,()):=by
  have hl:(fsN fs).length < 4611686018427387904:=by have:=hf.2;simp only [fsN,List.length_map];omega
  simp only [i_GeneratedBy,genByF]
  rw [i_generationCode_eq hl n KK_ge,Option.bind_some,h,if_pos rfl,genF_eq hn hf,Option.bind_some,i_all_eq (by omega) (by rw [genD,genS_len,initG_len]) KK_ge,Option.bind_some]
theorem up_getI (l:List Nat) (i:Nat):(up l).getD (i:Int).toNat (0:Int)=((l.getD i 0:Nat):Int):=by
  rw [Int.toNat_natCast]
  simp only [up,List.getD,List.getElem?_map]
  cases l[i]? <;> rfl
theorem up_snoc (l:List Nat) (x:Nat):up l ++ [((x:Nat):Int)]=up (l ++ [x]):=by simp [up]
theorem sput_l7 {n a b r:Nat} (l:List Nat) (hl:l.length<=4) (hx:∀ x ∈ l,x < 65536) (hr:r < 100) (v2 v7:Int) (v3:DF) (kx:List Int->Int->DF->Int->Int->Int->Option R):∀ (m i k:Nat),i + m=l.length->m < k →
    s_l04Put_l7 K k (up l) v2 v3 v7 (r:Int) ((mkB (fun i=>(l.getD i 0).testBit r) i:Nat):Int) (i:Int) kx=kx (up l) v2 v3 v7 (r:Int) ((packN l r:Nat):Int)
  | _,_,0,_,h=>by omega
  | 0,i,k + 1,e,_=>by
    obtain rfl:i=l.length:=by omega
    simp only [s_l04Put_l7,up_len];rw [ite_f (decide_eq_false (by omega))];rfl
  | m + 1,i,k + 1,e,hk=>by
    have ih:=sput_l7 (n:=n) (a:=a) (b:=b) (r:=r) l hl hx hr v2 v7 v3 kx m (i + 1) k (by omega) (by omega)
    rw [mkB_succ] at ih
    have hx1:=getD_all (by decide) hx i
    simp only [s_l04Put_l7,up_len]
    rw [ite_t (decide_eq_true (by omega)),ite_t (bnds_n (by omega)),ite_t (u64_dec _),ite_t (u64_dec _),u64n (by omega),u64n (by omega),up_getI,bitI_bt r (by omega),shl_bt (by omega),or_dg (mkB_lt _ _) (by omega),w64s (by omega),ih]
theorem sput_l3 {n a b:Nat} (hn:n<=4) (hb:b < 65536) (l:List Nat) (hl:l.length<=4) (hx:∀ x ∈ l,x < 65536) (kx:Int->Option R):∀ (m r k:Nat),r + m=2 ^ n->m + 100 < k →
    s_l04Put_l3 K k (up l) (n:Int) (fN a b) ((mkB (fun r=>b.testBit (packN l r)) r:Nat):Int) (r:Int) kx=kx ((putN b n l:Nat):Int)
  | _,_,0,_,h=>by omega
  | 0,r,k + 1,e,_=>by
    obtain rfl:r=2 ^ n:=by omega
    simp only [s_l04Put_l3];rw [s_l01Rows_eq (by omega),some_bind',ite_f (decide_eq_false (by omega))];rfl
  | m + 1,r,k + 1,e,hk=>by
    have hp:2 ^ n<=16:=Nat.pow_le_pow_right (by decide) hn
    have ih:=sput_l3 (a:=a) hn hb l hl hx kx m (r + 1) k (by omega) (by omega)
    rw [mkB_succ] at ih
    have h16:packN l r < 16:=Nat.lt_of_lt_of_le (packN_lt l r) (Nat.pow_le_pow_right (by decide) hl)
    simp only [s_l04Put_l3]
    rw [s_l01Rows_eq (by omega),some_bind',ite_t (decide_eq_true (by omega))]
    refine (sput_l7 (K:=K) (n:=n) (a:=a) (b:=b) (r:=r) l hl hx (by omega) _ _ _ _ l.length 0 k (by omega) (by omega)).trans ?_
    rw [fN,s_l01At_eq (by omega) (by omega),some_bind',ite_t (u64_dec _),u64n (by omega),shl_bt (by omega),or_dg (mkB_lt _ _) (by omega),w64s (by omega)]
    exact ih
theorem s_l04Put_eq {a b n:Nat} (hb:b < 65536) (hn:n<=4) (l:List Nat) (hl:l.length<=4) (hx:∀ x ∈ l,x < 65536) (hK:1000<=K):s_l04Put K (fN a b,up l,(n:Int),())=some ((putN b n l:Nat):Int):=by
  have hp:2 ^ n<=16:=Nat.pow_le_pow_right (by decide) hn
  simp only [s_l04Put]
  exact sput_l3 (K:=K) (a:=a) hn hb l hl hx (fun z11=>some z11) (2 ^ n) 0 K (by omega) (by omega)
theorem stepS_flag {b n:Nat} {kn:List Nat} {d:Int}:∀ (m:Nat) (l:List Nat) (D:List Int) (c:Bool),stepS b n kn d m l (D,c)=((stepS b n kn d m l (D,false)).1,c || (stepS b n kn d m l (D,false)).2)
  | 0,l,D,c=>by
    simp only [stepS,hitG]
    split
    · simp
    · simp
  | m + 1,l,D,c=>by
    have key:∀ (q:List Nat) (D:List Int) (c:Bool),q.foldl (fun s h=>stepS b n kn d m (l ++ [h]) s) (D,c)=((q.foldl (fun s h=>stepS b n kn d m (l ++ [h]) s) (D,false)).1,c || (q.foldl (fun s h=>stepS b n kn d m (l ++ [h]) s) (D,false)).2):=by
      intro q
      induction q with
      | nil=>intro D c;simp
      | cons y q ih =>
        intro D c
        rw [List.foldl_cons,List.foldl_cons,stepS_flag m _ D c,ih,ih (stepS b n kn d m (l ++ [y]) (D,false)).1 (stepS b n kn d m (l ++ [y]) (D,false)).2,Bool.or_assoc]
    exact key kn D c
theorem stepS_len {b n:Nat} {kn:List Nat} {d:Int}:∀ (m:Nat) (l:List Nat) (s:GS),(stepS b n kn d m l s).1.length=s.1.length
  | 0,l,s=>ghit_len
  | m + 1,l,s=>by
    have:∀ (q:List Nat) (s:GS),(q.foldl (fun s h=>stepS b n kn d m (l ++ [h]) s) s).1.length=s.1.length:=by
      intro q
      induction q with
      | nil=>intro s;rfl
      | cons y q ih=>intro s;rw [List.foldl_cons,ih];exact stepS_len m _ _
    exact this kn s
abbrev RRes:=Bool × (List Int × List Int × List Int × Unit)
theorem sround_l9 {n a b m:Nat} {kn l:List Nat} {d:Int} (hkl:kn.length<=65536) (hl:l.length<=10) (r:(DF × List Int × List Int × List Int × Int × Int × Unit)->Option RRes)
    (hr:∀ x ∈ kn,∀ D:List Int,D.length=2 ^ 2 ^ n->r (fN a b,D,up kn,up (l ++ [x]),(n:Int),d,())=some ((stepS b n kn d m (l ++ [x]) (D,false)).2,((stepS b n kn d m (l ++ [x]) (D,false)).1,up kn,up (l ++ [x]),())))
    (kx:List Int->List Int->List Int->Bool->Option R):∀ (q p:List Nat) (k:Nat) (s:GS),kn=p ++ q->q.length < k->s.1.length=2 ^ 2 ^ n →
    s_l04Round_l9 K r k s.1 (up kn) (up l) (n:Int) d (fN a b) s.2 (p.length:Int) kx=kx (q.foldl (fun s h=>stepS b n kn d m (l ++ [h]) s) s).1 (up kn) (up l) (q.foldl (fun s h=>stepS b n kn d m (l ++ [h]) s) s).2
  | _,_,0,_,_,h,_=>by omega
  | [],p,k + 1,s,e,_,_=>by
    rw [List.append_nil] at e
    simp only [s_l04Round_l9,up_len];rw [ite_f (decide_eq_false (by rw [e];omega))];rfl
  | y :: q,p,k + 1,s,e,hk,hs=>by
    obtain ⟨D,c⟩:=s
    have hlen:kn.length=p.length + (q.length + 1):=by rw [e];simp
    have hy:kn.getD p.length 0=y:=by rw [e];simp [List.getD]
    have hm:y ∈ kn:=by rw [e];simp
    have hlim:(1099511627776:Nat)=lim:=rfl
    have ih:=sround_l9 (kn:=kn) (l:=l) hkl hl r hr kx q (p ++ [y]) k (stepS b n kn d m (l ++ [y]) (D,c)) (by rw [e];simp) (by simp at hk;omega) (by rw [stepS_len];exact hs)
    rw [snoc_len] at ih
    have hr1:=hr y hm D hs
    simp only [s_l04Round_l9,up_len,s_l01Own]
    rw [ite_t (decide_eq_true (by omega)),ite_t (decide_eq_true (by simp only [List.length_nil];omega)),List.nil_append,some_bind',ite_t (bnds_n (by omega)),up_getI,hy,ite_t (decide_eq_true (by simp only [List.length_cons,List.length_nil,up_len];omega)),up_snoc,hr1,some_bind',w64s (by omega),List.foldl_cons,<-ih,stepS_flag m (l ++ [y]) D c]
    cases (stepS b n kn d m (l ++ [y]) (D,false)).2
    · rw [ite_f rfl,Bool.or_false]
    · rw [ite_t rfl,Bool.or_true]
theorem s_l04Round_eq {n a b:Nat} (hn:n<=4) (ha:a<=4) (hb:b < 65536) {kn:List Nat} (hkl:kn.length<=65536) (hkn:∀ x ∈ kn,x < 2 ^ 2 ^ n) {d:Int} (hK:4611686018427387904<=K):∀ (m k:Nat) (l:List Nat) (D:List Int),l.length + m=a->m < k->(∀ x ∈ l,x < 2 ^ 2 ^ n)->D.length=2 ^ 2 ^ n →
    s_l04Round K k (fN a b,D,up kn,up l,(n:Int),d,())=some ((stepS b n kn d m l (D,false)).2,((stepS b n kn d m l (D,false)).1,up kn,up l,()))
  | _,0,_,_,_,h,_,_=>by omega
  | 0,k + 1,l,D,hl,_,hx,hD=>by
    have h16:=pp4 hn
    have hp:=putN_lt b n l
    simp only [s_l04Round,s_l04Round_b,up_len]
    refine (ite_t (decide_eq_true (show (l.length:Int)=(a:Int) by omega))).trans ?_
    rw [s_l04Put_eq hb hn l (by omega) (fun x h=>Nat.lt_of_lt_of_le (hx x h) h16) (by omega),some_bind',ite_t (bnds_n (by omega)),Int.toNat_natCast,stepS,hitG]
    by_cases h0:D.getD (putN b n l) 0 < 0
    · rw [ite_f (decide_eq_false (by omega)),ite_t (bnds_n (by omega)),if_pos h0]
    · rw [ite_t (decide_eq_true (by omega)),if_neg h0]
  | m + 1,k + 1,l,D,hl,hk,hx,hD=>by
    have ih:=s_l04Round_eq hn ha hb hkl hkn (d:=d) hK m k
    simp only [s_l04Round,s_l04Round_b,up_len]
    refine (ite_f (decide_eq_false (show ¬ (l.length:Int)=(a:Int) by omega))).trans ?_
    refine (sround_l9 (K:=K) (m:=m) hkl (by omega) (s_l04Round K k) (fun x hxk D hD=>ih (l ++ [x]) D (by simp;omega) (by omega) (fun y hy=>by
      rcases List.mem_append.1 hy with e | e
      · exact hx y e
      · rw [List.mem_singleton.1 e];exact hkn x hxk) hD) _ kn [] K (D,false) rfl (by omega) hD).trans ?_
    rfl
theorem sdep_l3 {n:Nat} (hn:n<=4) (v0:List DF) (kx:List DF->Int->List Int->Option R):∀ (m i k:Nat),i + m=2 ^ 2 ^ n->m < k →
    s_l04Depths_l3 K k v0 (n:Int) (List.replicate i (-1)) (i:Int) kx=kx v0 (n:Int) (List.replicate (2 ^ 2 ^ n) (-1))
  | _,_,0,_,h=>by omega
  | 0,i,k + 1,e,_=>by
    obtain rfl:i=2 ^ 2 ^ n:=by omega
    simp only [s_l04Depths_l3];rw [s_l01All_eq hn,some_bind',ite_f (decide_eq_false (by omega))]
  | m + 1,i,k + 1,e,hk=>by
    have h16:=pp4 hn
    have hlim:(1099511627776:Nat)=lim:=rfl
    have ih:=sdep_l3 hn v0 kx m (i + 1) k (by omega) (by omega)
    simp only [s_l04Depths_l3]
    rw [s_l01All_eq hn,some_bind',ite_t (decide_eq_true (by omega)),ite_t (decide_eq_true (by simp only [List.length_replicate,List.length_cons,List.length_nil];omega)),w64s (by omega),<-ih,List.replicate_succ']
theorem sproj_eq {n i:Nat} (hn:n=2\/n=3) (hi:i < n):s_l01Projection KK ((n:Int),(i:Int),())=some (fN n (projN n i)):=by
  have:(n=2/\(i=0\/i=1))\/(n=3/\(i=0\/i=1\/i=2)):=by omega
  rcases this with ⟨rfl,rfl | rfl⟩ | ⟨rfl,rfl | rfl | rfl⟩ <;> decide +kernel
theorem sdep_l7 {n:Nat} (hn:n=2\/n=3) (v0:List DF) (kx:List DF->Int->List Int->Option R):∀ (m i k:Nat) (D:List Int),i + m=n->m < k->D.length=2 ^ 2 ^ n →
    s_l04Depths_l7 KK k v0 (n:Int) D (i:Int) kx=kx v0 (n:Int) ((List.range' i m).foldl (fun D i=>D.set (projN n i) 0) D)
  | _,_,0,_,_,h,_=>by omega
  | 0,i,k + 1,D,e,_,_=>by
    simp only [s_l04Depths_l7];rw [ite_f (decide_eq_false (by omega))];rfl
  | m + 1,i,k + 1,D,e,hk,hD=>by
    have ih:=sdep_l7 hn v0 kx m (i + 1) k (D.set (projN n i) 0) (by omega) (by omega) (by simpa using hD)
    have hp:=projN_lt n i
    simp only [s_l04Depths_l7]
    rw [ite_t (decide_eq_true (by omega)),sproj_eq hn (by omega),some_bind']
    refine (ite_t (bnds_n (show projN n i < D.length by omega))).trans ?_
    rw [w64s (by omega),List.range'_succ,List.foldl_cons,<-ih];rfl
theorem sdep_l17 {n:Nat} (hn:n<=4) (v0:List DF) {D:List Int} (hD:D.length=2 ^ 2 ^ n) (v8:Bool) (v9:Int) (kx:List DF->Int->List Int->Bool->Int->List Int->Option R):∀ (m i k:Nat),i + m=2 ^ 2 ^ n->m < k →
    s_l04Depths_l17 K k v0 (n:Int) D v8 v9 (up ((List.range i).filter fun i=>decide (0<=D.getD i 0))) (i:Int) kx=kx v0 (n:Int) D v8 v9 (up (knS D))
  | _,_,0,_,h=>by omega
  | 0,i,k + 1,e,_=>by
    obtain rfl:i=2 ^ 2 ^ n:=by omega
    simp only [s_l04Depths_l17];rw [s_l01All_eq hn,some_bind',ite_f (decide_eq_false (by omega)),knS,hD]
  | m + 1,i,k + 1,e,hk=>by
    have h16:=pp4 hn
    have hlim:(1099511627776:Nat)=lim:=rfl
    have ih:=sdep_l17 hn v0 hD v8 v9 kx m (i + 1) k (by omega) (by omega)
    have hlen:(up ((List.range i).filter fun i=>decide (0<=D.getD i 0))).length<=i:=by
      rw [up_len];exact Nat.le_trans (List.length_filter_le _ _) (by simp)
    rw [List.range_succ,List.filter_append] at ih
    simp only [s_l04Depths_l17]
    rw [s_l01All_eq hn,some_bind',ite_t (decide_eq_true (by omega)),ite_t (bnds_n (by omega)),Int.toNat_natCast,w64s (by omega)]
    by_cases h0:0<=D.getD i 0
    · rw [ite_t (decide_eq_true h0),ite_t (decide_eq_true (by simp only [List.length_cons,List.length_nil];omega))]
      rw [show List.filter (fun i=>decide (0<=D.getD i 0)) [i]=[i] by rw [List.filter_cons_of_pos (by simpa using h0)];rfl,<-up_snoc] at ih
      exact ih
    · rw [ite_f (decide_eq_false h0)]
      rw [show List.filter (fun i=>decide (0<=D.getD i 0)) [i]=[] by rw [List.filter_cons_of_neg (by simpa using h0)];rfl,List.append_nil] at ih
      exact ih
theorem sdep_l22 {n:Nat} (hn:n<=4) {fs:List (Nat × Nat)} (hf:okFs fs) {kn:List Nat} (hkl:kn.length<=65536) (hkn:∀ x ∈ kn,x < 2 ^ 2 ^ n) {d:Int} (hK:4611686018427387904<=K) (kx:List DF->Int->List Int->Bool->Int->Option R):∀ (q p:List (Nat × Nat)) (k:Nat) (s:GS),fs=p ++ q->q.length < k->s.1.length=2 ^ 2 ^ n →
    s_l04Depths_l22 K k (fsN fs) (n:Int) s.1 s.2 d (up kn) (p.length:Int) kx=kx (fsN fs) (n:Int) (roundS q n kn d s).1 (roundS q n kn d s).2 d
  | _,_,0,_,_,h,_=>by omega
  | [],p,k + 1,s,e,_,_=>by
    rw [List.append_nil] at e
    simp only [s_l04Depths_l22];rw [ite_f (decide_eq_false (by rw [e];simp [fsN]))];rfl
  | f :: q,p,k + 1,s,e,hk,hs=>by
    obtain ⟨D,c⟩:=s
    have hfl:=hf.2
    have hlen:(fsN fs).length=p.length + (q.length + 1):=by rw [e];simp [fsN]
    have hlen2:fs.length=p.length + (q.length + 1):=by rw [e];simp
    have hy:(fsN fs).getD p.length ((0:Int),(0:Int),())=fN f.1 f.2:=by rw [e];simp [fsN,List.getD]
    have hff:=hf.1 f (by rw [e];simp)
    have ih:=sdep_l22 (d:=d) hn hf hkl hkn hK kx q (p ++ [f]) k (stepS f.2 n kn d f.1 [] (D,c)) (by rw [e];simp) (by simp at hk;omega) (by rw [stepS_len];exact hs)
    rw [snoc_len] at ih
    have hr:=s_l04Round_eq (K:=K) (d:=d) hn hff.1 (Nat.lt_of_lt_of_le hff.2 (pp4 hff.1)) hkl hkn hK f.1 K [] D (by simp) (by omega) (fun _ h=>by cases h) hs
    simp only [s_l04Depths_l22]
    rw [ite_t (decide_eq_true (by omega)),ite_t (bnds_n (by omega)),Int.toNat_natCast,hy]
    rw [show ([]:List Int)=up [] from rfl,hr,some_bind',w64s (by omega)]
    rw [show roundS (f :: q) n kn d (D,c)=roundS q n kn d (stepS f.2 n kn d f.1 [] (D,c)) from rfl,<-ih,stepS_flag f.1 [] D c]
    cases (stepS f.2 n kn d f.1 [] (D,false)).2
    · rw [ite_f rfl,Bool.or_false]
    · rw [ite_t rfl,Bool.or_true]
theorem knS_lt {D:List Int}:(knS D).length<=D.length/\∀ x ∈ knS D,x < D.length:=by
  refine ⟨Nat.le_trans (List.length_filter_le _ _) (by simp),fun x hx=>?_⟩
  exact List.mem_range.1 (List.mem_filter.1 hx).1
theorem roundS_len {n:Nat} {kn:List Nat} {d:Int}:∀ (fs:List (Nat × Nat)) (s:GS),(roundS fs n kn d s).1.length=s.1.length
  | [],_=>rfl
  | f :: fs,s=>(roundS_len fs _).trans (stepS_len _ _ _)
theorem sdep_l12 {n:Nat} (hn:n<=4) {fs:List (Nat × Nat)} (hf:okFs fs) (hK:4611686018427387904<=K) (kx:List Int->Option R):∀ (c k:Nat) (d:Int) (D:List Int),0<=d->d + c < 1000000->D.length=2 ^ 2 ^ n->negs D<=c->c + 100000 < k →
    s_l04Depths_l12 K k (fsN fs) (n:Int) D true d kx=kx (genS fs n (c + 1) d D)
  | _,0,_,_,_,_,_,_,h=>by omega
  | c,k + 1,d,D,h0,hd,hD,hc,hk=>by
    have h16:=pp4 hn
    have hfl:=hf.2
    have hk2:=knS_lt (D:=D)
    rw [s_l04Depths_l12,if_pos rfl]
    rw [show ([]:List Int)=up ((List.range 0).filter fun i=>decide (0<=D.getD i 0)) from rfl]
    refine (sdep_l17 (K:=K) hn (fsN fs) hD false d _ (2 ^ 2 ^ n) 0 k (by omega) (by omega)).trans ?_
    refine (sdep_l22 (K:=K) hn hf (by omega) (fun x hx=>by rw [<-hD];exact hk2.2 x hx) hK _ fs [] k (D,false) rfl (by omega) hD).trans ?_
    rw [genS,w64 (by omega) (by omega)]
    have hadv:=ground_adv (n:=n) (kn:=knS D) h0 fs (D,false)
    cases hb:(roundS fs n (knS D) d (D,false)).2
    · obtain ⟨k',rfl⟩:∃ k',k=k' + 1:=⟨k - 1,by omega⟩
      rw [s_l04Depths_l12,if_neg (by decide),if_neg (by decide)]
    · have hlt:negs (roundS fs n (knS D) d (D,false)).1 < negs D:=by
        rcases hadv with e | e
        · rw [e] at hb;cases hb
        · exact e.2
      obtain ⟨c',rfl⟩:∃ c',c=c' + 1:=⟨c - 1,by omega⟩
      rw [if_pos rfl]
      exact sdep_l12 hn hf hK kx c' k (d + 1) _ (by omega) (by omega) (by rw [roundS_len];exact hD) (by omega) (by omega)
theorem s_l04Depths_eq {n:Nat} (hn:n=2\/n=3) {fs:List (Nat × Nat)} (hf:okFs fs):s_l04Depths KK (fsN fs,(n:Int),())=some (genD fs n):=by
  have hn4:n<=4:=by omega
  have h16:=pp4 hn4
  have hKK:(9223372036854775808:Nat)=KK:=rfl
  simp only [s_l04Depths]
  rw [show ([]:List Int)=List.replicate 0 (-1) from rfl]
  refine (sdep_l3 (K:=KK) hn4 (fsN fs) _ (2 ^ 2 ^ n) 0 KK (by omega) (by omega)).trans ?_
  refine (sdep_l7 hn (fsN fs) _ n 0 KK (List.replicate (2 ^ 2 ^ n) (-1)) (by omega) (by omega) (by simp)).trans ?_
  rw [<-List.range_eq_range']
  have hg:=initG_negs hn4
  refine (sdep_l12 (K:=KK) hn4 hf KK_ge (fun z29=>some z29) 65536 KK 1 (initG n) (by omega) (by omega) (initG_len n) hg (by omega)).trans ?_
  rw [genD,genS_fuel (65536 + 1) KK 1 (initG n) (by omega) (by omega) (by omega)]
theorem s_l04Code_eq {l:List DF} (hl:l.length < 4611686018427387904) (n:Int) (hK:4611686018427387904<=K):s_l04Code K (l,n,())=some (codeG l n):=by
  simp only [s_l04Code]
  rw [s_l02Code_eq hl hK,some_bind',codeG]
  by_cases hc:codeV l=0
  · rw [hc,ite_f (by rfl),if_pos rfl,s_l01In_eq,some_bind']
    by_cases hn:2<=n/\n<=3
    · rw [decide_eq_true hn.1,decide_eq_true hn.2,ite_f (by rfl),if_pos hn]
      refine (lpLA (l:=l) (L:=fun k i=>s_l04Code_l7 K k l n i (some (0:Int)) (fun z4=>some z4)) (g:=fun f=>!(decide (n=3) && decide (f.1 > 2))) (B:=0) (kx:=some 0) (kf:=some 2) (fun k=>?_) (fun k p y r e _=>?_) l [] K rfl (by omega)).trans ?_
      · simp only [s_l04Code_l7];rw [ite_f (decide_eq_false (by omega))]
      · subst e
        simp only [s_l04Code_l7]
        rw [ite_t lt_len,ite_t bnds_mid,getD_midI,next_i hl]
        by_cases h3:n=3
        · rw [ite_t (decide_eq_true h3),decide_eq_true h3,Bool.true_and]
          cases decide (y.1 > 2)
          · rw [ite_f rfl,if_pos (by rfl)]
          · rw [ite_t rfl,if_neg (by decide)]
        · rw [ite_f (decide_eq_false h3),decide_eq_false h3,Bool.false_and,if_pos (by rfl)]
      · by_cases h3:n=3/\(l.any fun f=>decide (f.1 > 2))=true
        · rw [if_pos h3,if_neg]
          intro hall
          obtain ⟨f,hf,h2⟩:=List.any_eq_true.1 h3.2
          have:=List.all_eq_true.1 hall f hf
          rw [h2,decide_eq_true h3.1] at this;cases this
        · rw [if_neg h3,if_pos]
          rw [List.all_eq_true]
          intro f hf
          cases h2:decide (f.1 > 2)
          · simp
          · rw [decide_eq_false fun h=>h3 ⟨h,List.any_eq_true.2 ⟨f,hf,h2⟩⟩];rfl
    · rw [ite_t (by
        by_cases h2:2<=n
        · rw [decide_eq_true h2,decide_eq_false (fun h=>hn ⟨h2,h⟩)];rfl
        · rw [decide_eq_false h2];rfl),if_neg hn]
  · rw [ite_t (by rw [decide_eq_false hc];rfl),if_neg hc]
theorem putN_bit {b n r:Nat} {l:List Nat} (hr:r < 2 ^ n):(putN b n l).testBit r=b.testBit (packN l r):=by rw [putN,mkB_bit,decide_eq_true hr,Bool.true_and]
theorem packN_bit (l:List Nat) (r i:Nat):(packN l r).testBit i=(decide (i < l.length) && (l.getD i 0).testBit r):=mkB_bit _ _ _
theorem projN_bit {n i r:Nat} (hr:r < 2 ^ n):(projN n i).testBit r=r.testBit i:=by rw [projN,mkB_bit,decide_eq_true hr,Bool.true_and]
theorem getD_mem {l:List Nat} {i:Nat} (h:i < l.length):l.getD i 0 ∈ l:=by
  have:l.getD i 0=l[i]:=by simp [List.getD,h]
  rw [this];exact List.getElem_mem h
theorem hi_bit {n r i:Nat} (hr:r < 2 ^ n) (hi:n<=i):r.testBit i=false:=Nat.testBit_lt_two_pow (Nat.lt_of_lt_of_le hr (Nat.pow_le_pow_right (by decide) hi))
/-- kept by putting together -/
def Comp (Q:Nat->Nat->Prop):Prop:=∀ a b n l,b < 2 ^ 2 ^ a->List.length l=a->Q a b->(∀ x ∈ l,Q n x)->Q n (putN b n l)
def kq0 (n b:Nat):Prop:=b.testBit 0=false
def kq1 (n b:Nat):Prop:=b.testBit (2 ^ n - 1)=true
def kq2 (n b:Nat):Prop:=0 < n/\∀ r,r < 2 ^ n->b.testBit (2 ^ n - 1 - r)=!b.testBit r
def kq3 (n b:Nat):Prop:=∀ r i,r < 2 ^ n->i < n->b.testBit r=true->b.testBit (r ||| 2 ^ i)=true
def kq4 (n b:Nat):Prop:=∀ r s,r < 2 ^ n->s < 2 ^ n->b.testBit (r ^^^ s)=xor (xor (b.testBit r) (b.testBit s)) (b.testBit 0)
def kq5 (n b:Nat):Prop:=∃ v,∀ r s,r < 2 ^ n->s < 2 ^ n->r.testBit v=s.testBit v->b.testBit r=b.testBit s
def kq6 (n b:Nat):Prop:=∀ r s,r < 2 ^ n->s < 2 ^ n->b.testBit (r &&& s)=(b.testBit r && b.testBit s)
def kq7 (n b:Nat):Prop:=∀ r s,r < 2 ^ n->s < 2 ^ n->b.testBit (r ||| s)=(b.testBit r || b.testBit s)
theorem pos2 (n:Nat):0 < 2 ^ n:=Nat.two_pow_pos n
theorem and_lt2 {n r s:Nat} (hr:r < 2 ^ n):r &&& s < 2 ^ n:=Nat.lt_of_le_of_lt Nat.and_le_left hr
theorem packN_ext {l:List Nat} {r z:Nat} (h:∀ i,i < l.length->(l.getD i 0).testBit r=z.testBit i) (hz:z < 2 ^ l.length):packN l r=z:=by
  apply Nat.eq_of_testBit_eq
  intro i
  rw [packN_bit]
  by_cases hi:i < l.length
  · rw [decide_eq_true hi,Bool.true_and,h i hi]
  · rw [decide_eq_false hi,Bool.false_and,hi_bit hz (by omega)]
theorem comp0:Comp kq0:=by
  intro a b n l hb hl hq hx
  show (putN b n l).testBit 0=false
  rw [putN_bit (pos2 n),packN_ext (z:=0) (fun i hi=>by rw [Nat.zero_testBit];exact hx _ (getD_mem hi)) (pos2 _)]
  exact hq
theorem comp1:Comp kq1:=by
  intro a b n l hb hl hq hx
  show (putN b n l).testBit (2 ^ n - 1)=true
  have:=pos2 n
  have:=pos2 l.length
  rw [putN_bit (by omega),packN_ext (z:=2 ^ l.length - 1) (fun i hi=>by rw [Nat.testBit_two_pow_sub_one,decide_eq_true hi];exact hx _ (getD_mem hi)) (by omega),hl]
  exact hq
theorem compl_bit2 {n r:Nat} (h:r < 2 ^ n) (i:Nat):(2 ^ n - 1 - r).testBit i=(decide (i < n) && !r.testBit i):=by
  rw [show 2 ^ n - 1 - r=2 ^ n - (r + 1) by omega,Nat.testBit_two_pow_sub_succ h]
theorem comp2:Comp kq2:=by
  intro a b n l hb hl hq hx
  have h0:0 < n:=by
    have ha:=hq.1
    exact (hx _ (getD_mem (l:=l) (i:=0) (by omega))).1
  refine ⟨h0,fun r hr=>?_⟩
  rw [putN_bit (by omega),putN_bit hr,packN_ext (z:=2 ^ l.length - 1 - packN l r) (fun i hi=>?_) (by have:=pos2 l.length;omega),hl]
  · exact hq.2 _ (by rw [<-hl];exact packN_lt l r)
  · rw [(hx _ (getD_mem hi)).2 r hr,compl_bit2 (packN_lt l r),decide_eq_true hi,Bool.true_and,packN_bit,decide_eq_true hi,Bool.true_and]
theorem or_lt2 {n r s:Nat} (hr:r < 2 ^ n) (hs:s < 2 ^ n):r ||| s < 2 ^ n:=Nat.or_lt_two_pow hr hs
theorem mono_sub {n b:Nat} (hq:kq3 n b) {r s:Nat} (hr:r < 2 ^ n) (hs:s < 2 ^ n) (h:∀ i,r.testBit i=true->s.testBit i=true) (hb:b.testBit r=true):b.testBit s=true:=by
  have key:∀ k,k<=n->b.testBit (r ||| s % 2 ^ k)=true:=by
    intro k
    induction k with
    | zero=>intro _;rw [Nat.pow_zero,Nat.mod_one,Nat.or_zero];exact hb
    | succ k ih =>
      intro hk
      have h1:=ih (by omega)
      have hlt:r ||| s % 2 ^ k < 2 ^ n:=or_lt2 hr (Nat.lt_of_le_of_lt (Nat.mod_le _ _) hs)
      cases hc:s.testBit k
      · have e:s % 2 ^ (k + 1)=s % 2 ^ k:=by
          apply Nat.eq_of_testBit_eq
          intro i
          rw [Nat.testBit_mod_two_pow,Nat.testBit_mod_two_pow]
          by_cases hi:i=k
          · subst hi;rw [hc];simp
          · have:decide (i < k + 1)=decide (i < k):=by apply decide_eq_decide.2;omega
            rw [this]
        rw [e];exact h1
      · have e:r ||| s % 2 ^ (k + 1)=(r ||| s % 2 ^ k) ||| 2 ^ k:=by
          apply Nat.eq_of_testBit_eq
          intro i
          rw [Nat.testBit_or,Nat.testBit_or,Nat.testBit_or,Nat.testBit_mod_two_pow,Nat.testBit_mod_two_pow,Nat.testBit_two_pow]
          by_cases hi:i=k
          · subst hi;rw [hc];simp
          · have:decide (i < k + 1)=decide (i < k):=by apply decide_eq_decide.2;omega
            rw [this,show decide (k=i)=false from decide_eq_false (fun e=>hi e.symm),Bool.or_false]
        rw [e];exact hq _ _ hlt (by omega) h1
  have:=key n (Nat.le_refl _)
  rw [Nat.mod_eq_of_lt hs] at this
  have e:r ||| s=s:=by
    apply Nat.eq_of_testBit_eq
    intro i
    rw [Nat.testBit_or]
    cases hc:r.testBit i
    · simp
    · rw [h i hc];rfl
  rw [e] at this;exact this
theorem pow_lt2 {i n:Nat} (h:i < n):2 ^ i < 2 ^ n:=Nat.pow_lt_pow_right (by decide) h
theorem comp3:Comp kq3:=by
  intro a b n l hb hl hq hx r i hr hi h
  have hr2:r ||| 2 ^ i < 2 ^ n:=or_lt2 hr (pow_lt2 hi)
  rw [putN_bit hr] at h
  rw [putN_bit hr2]
  refine mono_sub hq (by rw [<-hl];exact packN_lt _ _) (by rw [<-hl];exact packN_lt _ _) (fun j hj=>?_) h
  rw [packN_bit,Bool.and_eq_true,decide_eq_true_eq] at hj
  rw [packN_bit,decide_eq_true hj.1,Bool.true_and]
  exact hx _ (getD_mem hj.1) r i hr hi hj.2
theorem xor_lt2 {n r s:Nat} (hr:r < 2 ^ n) (hs:s < 2 ^ n):r ^^^ s < 2 ^ n:=Nat.xor_lt_two_pow hr hs
theorem comp4:Comp kq4:=by
  intro a b n l hb hl hq hx r s hr hs
  have hp:∀ r,packN l r < 2 ^ a:=fun r=>by rw [<-hl];exact packN_lt _ _
  have e:packN l (r ^^^ s)=(packN l r ^^^ packN l s) ^^^ packN l 0:=packN_ext (fun i hi=>by
    rw [Nat.testBit_xor,Nat.testBit_xor,packN_bit,packN_bit,packN_bit,decide_eq_true hi,Bool.true_and,Bool.true_and,Bool.true_and]
    exact hx _ (getD_mem hi) r s hr hs) (by rw [hl];exact xor_lt2 (xor_lt2 (hp r) (hp s)) (hp 0))
  rw [putN_bit (xor_lt2 hr hs),putN_bit hr,putN_bit hs,putN_bit (pos2 n),e,hq _ _ (xor_lt2 (hp r) (hp s)) (hp 0),hq _ _ (hp r) (hp s)]
  cases b.testBit (packN l r) <;> cases b.testBit (packN l s) <;> cases b.testBit (packN l 0) <;> cases b.testBit 0 <;> rfl
theorem comp5:Comp kq5:=by
  intro a b n l hb hl hq hx
  obtain ⟨v,hv⟩:=hq
  have hp:∀ r,packN l r < 2 ^ a:=fun r=>by rw [<-hl];exact packN_lt _ _
  by_cases hva:v < l.length
  · obtain ⟨u,hu⟩:=hx _ (getD_mem hva)
    refine ⟨u,fun r s hr hs h=>?_⟩
    rw [putN_bit hr,putN_bit hs]
    refine hv _ _ (hp r) (hp s) ?_
    rw [packN_bit,packN_bit,hu r s hr hs h]
  · refine ⟨0,fun r s hr hs _=>?_⟩
    rw [putN_bit hr,putN_bit hs]
    refine hv _ _ (hp r) (hp s) ?_
    rw [packN_bit,packN_bit,decide_eq_false hva];rfl
theorem comp6:Comp kq6:=by
  intro a b n l hb hl hq hx r s hr hs
  have hp:∀ r,packN l r < 2 ^ a:=fun r=>by rw [<-hl];exact packN_lt _ _
  have e:packN l (r &&& s)=packN l r &&& packN l s:=packN_ext (fun i hi=>by
    rw [Nat.testBit_and,packN_bit,packN_bit,decide_eq_true hi,Bool.true_and,Bool.true_and]
    exact hx _ (getD_mem hi) r s hr hs) (by rw [hl];exact and_lt2 (hp r))
  rw [putN_bit (and_lt2 hr),putN_bit hr,putN_bit hs,e,hq _ _ (hp r) (hp s)]
theorem comp7:Comp kq7:=by
  intro a b n l hb hl hq hx r s hr hs
  have hp:∀ r,packN l r < 2 ^ a:=fun r=>by rw [<-hl];exact packN_lt _ _
  have e:packN l (r ||| s)=packN l r ||| packN l s:=packN_ext (fun i hi=>by
    rw [Nat.testBit_or,packN_bit,packN_bit,decide_eq_true hi,Bool.true_and,Bool.true_and]
    exact hx _ (getD_mem hi) r s hr hs) (by rw [hl];exact or_lt2 (hp r) (hp s))
  rw [putN_bit (or_lt2 hr hs),putN_bit hr,putN_bit hs,e,hq _ _ (hp r) (hp s)]
theorem proj0 {n i:Nat} (hi:i < n):kq0 n (projN n i):=by show (projN n i).testBit 0=false;rw [projN_bit (pos2 n),Nat.zero_testBit]
theorem proj1 {n i:Nat} (hi:i < n):kq1 n (projN n i):=by
  show (projN n i).testBit (2 ^ n - 1)=true
  rw [projN_bit (by have:=pos2 n;omega),Nat.testBit_two_pow_sub_one,decide_eq_true hi]
theorem proj2 {n i:Nat} (hi:i < n):kq2 n (projN n i):=⟨by omega,fun r hr=>by rw [projN_bit (by omega),projN_bit hr,compl_bit2 hr,decide_eq_true hi,Bool.true_and]⟩
theorem proj3 {n i:Nat} (hi:i < n):kq3 n (projN n i):=fun r j hr hj h=>by
  rw [projN_bit hr] at h
  rw [projN_bit (or_lt2 hr (pow_lt2 hj)),Nat.testBit_or,h];rfl
theorem proj4 {n i:Nat} (hi:i < n):kq4 n (projN n i):=fun r s hr hs=>by
  rw [projN_bit (xor_lt2 hr hs),projN_bit hr,projN_bit hs,projN_bit (pos2 n),Nat.testBit_xor,Nat.zero_testBit,Bool.xor_false]
theorem proj5 {n i:Nat} (hi:i < n):kq5 n (projN n i):=⟨i,fun r s hr hs h=>by rw [projN_bit hr,projN_bit hs,h]⟩
theorem proj6 {n i:Nat} (hi:i < n):kq6 n (projN n i):=fun r s hr hs=>by rw [projN_bit (and_lt2 hr),projN_bit hr,projN_bit hs,Nat.testBit_and]
theorem proj7 {n i:Nat} (hi:i < n):kq7 n (projN n i):=fun r s hr hs=>by rw [projN_bit (or_lt2 hr hs),projN_bit hr,projN_bit hs,Nat.testBit_or]
/-- a row with the value c, turned where c is 0 -/
def kq8 (c d n b:Nat):Prop:=∀ ys:List Nat,ys ≠ []->ys.length<=d->(∀ y ∈ ys,y < 2 ^ n/\(b.testBit (if c=0 then 2 ^ n - 1 - y else y)).toNat=c)->∃ i,i < n/\∀ y ∈ ys,y.testBit i=true
theorem turn_lt {c n y:Nat} (h:y < 2 ^ n):(if c=0 then 2 ^ n - 1 - y else y) < 2 ^ n:=by split <;> omega
theorem comp8 {c:Nat} (hc:c<=1) (d:Nat):Comp (kq8 c d):=by
  intro a b n l hb hl hq hx ys h0 hd hy
  have hp:∀ r,packN l r < 2 ^ a:=fun r=>by rw [<-hl];exact packN_lt _ _
  -- the rows that go into the outer function
  have hval:∀ y ∈ ys,(if c=0 then 2 ^ a - 1 - packN l (if c=0 then 2 ^ n - 1 - y else y) else packN l (if c=0 then 2 ^ n - 1 - y else y)) < 2 ^ a ∧
      (b.testBit (if c=0 then 2 ^ a - 1 - (if c=0 then 2 ^ a - 1 - packN l (if c=0 then 2 ^ n - 1 - y else y) else packN l (if c=0 then 2 ^ n - 1 - y else y)) else (if c=0 then 2 ^ a - 1 - packN l (if c=0 then 2 ^ n - 1 - y else y) else packN l (if c=0 then 2 ^ n - 1 - y else y)))).toNat=c:=fun y hm=>by
    have h1:=hp (if c=0 then 2 ^ n - 1 - y else y)
    obtain ⟨h2,h3⟩:=hy y hm
    rw [putN_bit (turn_lt h2)] at h3
    generalize packN l (if c=0 then 2 ^ n - 1 - y else y)=z at h1 h3
    by_cases hc0:c=0
    · simp only [if_pos hc0]
      rw [show 2 ^ a - 1 - (2 ^ a - 1 - z)=z by omega]
      exact ⟨by omega,h3⟩
    · simp only [if_neg hc0];exact ⟨h1,h3⟩
  obtain ⟨i,hi,hin⟩:=hq (ys.map fun y=>if c=0 then 2 ^ a - 1 - packN l (if c=0 then 2 ^ n - 1 - y else y) else packN l (if c=0 then 2 ^ n - 1 - y else y)) (by simpa using h0) (by simpa using hd) (fun z hz=>by
    obtain ⟨y,hm,rfl⟩:=List.mem_map.1 hz
    exact hval y hm)
  rw [<-hl] at hi
  refine hx _ (getD_mem hi) ys h0 hd fun y hm=>⟨(hy y hm).1,?_⟩
  have h4:=hin _ (List.mem_map.2 ⟨y,hm,rfl⟩)
  have h1:=hp (if c=0 then 2 ^ n - 1 - y else y)
  by_cases hc0:c=0
  · subst hc0
    simp only [if_true] at h4 h1 ⊢
    rw [compl_bit2 h1,Bool.and_eq_true,packN_bit,decide_eq_true hi,Bool.true_and] at h4
    have h5:=h4.2
    rw [Bool.not_eq_true'] at h5
    rw [h5];rfl
  · obtain rfl:c=1:=by omega
    simp only [if_neg hc0] at h4 ⊢
    rw [packN_bit,decide_eq_true hi,Bool.true_and] at h4
    rw [h4];rfl
theorem proj8 {c n i:Nat} (hc:c<=1) (d:Nat) (hi:i < n):kq8 c d n (projN n i):=by
  intro ys h0 hd hy
  refine ⟨i,hi,fun y hm=>?_⟩
  obtain ⟨h1,h2⟩:=hy y hm
  rw [projN_bit (turn_lt h1)] at h2
  by_cases hc0:c=0
  · subst hc0
    simp only [if_true] at h2
    rw [compl_bit2 h1,decide_eq_true hi,Bool.true_and] at h2
    cases hb:y.testBit i
    · rw [hb] at h2;cases h2
    · rfl
  · obtain rfl:c=1:=by omega
    simp only [if_neg hc0] at h2
    cases hb:y.testBit i
    · rw [hb] at h2;cases h2
    · rfl
theorem pc2 {n b:Nat} (hb:b < 2 ^ 2 ^ n):dualI n b=true ↔ kq2 n b:=by
  constructor
  · intro h
    have h0:0 < n:=by
      unfold dualI at h
      rw [Bool.and_eq_true,decide_eq_true_eq] at h;exact h.1
    rw [dual_eq hb,dualS,allR_iff] at h
    refine ⟨h0,fun r hr=>?_⟩
    have:=h r (by omega) (by omega)
    revert this
    cases b.testBit r <;> cases b.testBit (2 ^ n - 1 - r) <;> simp
  · intro h
    rw [dual_eq hb,dualS,allR_iff]
    intro r _ hr
    rw [h.2 r (by omega)]
    cases b.testBit r <;> rfl
theorem pc3 {n b:Nat}:monoI n b=true ↔ kq3 n b:=by
  unfold monoI
  rw [allR_iff]
  constructor
  · intro h r i hr hi hb
    have:=(allR_iff _ _ _).1 (h r (by omega) (by omega)) i (by omega) (by omega)
    rw [hb] at this
    revert this
    cases b.testBit (r ||| 2 ^ i) <;> simp
  · intro h r _ hr
    rw [allR_iff]
    intro i _ hi
    cases hb:b.testBit r
    · rfl
    · rw [h r i (by omega) (by omega) hb];rfl
theorem linR_xor {d:Nat->Bool} {r s:Nat}:∀ n,linR d (r ^^^ s) n=xor (linR d r n) (linR d s n)
  | 0=>rfl
  | n + 1=>by
    rw [linR,linR,linR,linR_xor n,Nat.testBit_xor]
    cases linR d r n <;> cases linR d s n <;> cases r.testBit n <;> cases s.testBit n <;> cases d n <;> rfl
theorem pc4 {n b:Nat} (hn:n<=4):affI n b=true ↔ kq4 n b:=by
  constructor
  · intro h r s hr hs
    unfold affI at h
    rw [allR_iff] at h
    have h1:=h r (by omega) (by omega)
    have h2:=h s (by omega) (by omega)
    have h3:=h (r ^^^ s) (by omega) (by rw [Nat.zero_add];exact xor_lt2 hr hs)
    rw [beq_iff_eq] at h1 h2 h3
    rw [linR_xor] at h3
    rw [<-h1,<-h2,<-h3]
    cases linR (fun i=>xor (b.testBit 0) (b.testBit (2 ^ i))) r n <;> cases linR (fun i=>xor (b.testBit 0) (b.testBit (2 ^ i))) s n <;> cases b.testBit 0 <;> rfl
  · intro h
    rw [aff_eq hn,affS,allR_iff]
    intro v _ hv
    rw [allR_iff]
    intro r _ hr
    rw [h r (2 ^ v) (by omega) (pow_lt2 (by omega))]
    cases b.testBit r <;> cases b.testBit (2 ^ v) <;> cases b.testBit 0 <;> rfl
theorem mem_keepL (p:Nat->Bool) (x:Nat):∀ d i,x ∈ keepL p i d ↔ i<=x/\x < i + d/\p x=true
  | 0,i=>by simp [keepL];omega
  | d + 1,i=>by
    rw [keepL]
    by_cases h:p i=true
    · rw [if_pos h,List.mem_cons,mem_keepL p x d (i + 1)]
      constructor
      · rintro (rfl | ⟨h1,h2,h3⟩)
        · exact ⟨by omega,by omega,h⟩
        · exact ⟨by omega,by omega,h3⟩
      · rintro ⟨h1,h2,h3⟩
        by_cases e:x=i
        · exact Or.inl e
        · exact Or.inr ⟨by omega,by omega,h3⟩
    · rw [if_neg h,mem_keepL p x d (i + 1)]
      constructor
      · rintro ⟨h1,h2,h3⟩;exact ⟨by omega,by omega,h3⟩
      · rintro ⟨h1,h2,h3⟩
        refine ⟨?_,by omega,h3⟩
        rcases Nat.eq_or_lt_of_le h1 with e | e
        · subst e;exact absurd h3 h
        · exact e
theorem keepL_one {p:Nat->Bool} {v:Nat} (h:∀ x,p x=true->x=v):∀ d i,(keepL p i d).length<=1
  | 0,i=>by simp [keepL]
  | d + 1,i=>by
    rw [keepL]
    by_cases hp:p i=true
    · rw [if_pos hp]
      have:keepL p (i + 1) d=[]:=by
        rw [List.eq_nil_iff_forall_not_mem]
        intro x hx
        rw [mem_keepL] at hx
        have h1:=h x hx.2.2
        have h2:=h i hp
        omega
      rw [this];simp
    · rw [if_neg hp];exact keepL_one h d (i + 1)
theorem tb_eq {b r s:Nat}:tb b r=tb b s ↔ b.testBit r=b.testBit s:=by
  unfold tb;cases b.testBit r <;> cases b.testBit s <;> simp
/-- a function hangs on the variables that are essential alone -/
theorem ess_only {n b:Nat} {r s:Nat} (hr:r < 2 ^ n) (hs:s < 2 ^ n) (h:∀ i,i < n->essB n b i=true->r.testBit i=s.testBit i):b.testBit r=b.testBit s:=by
  have key:∀ k,k<=n->b.testBit (mkB (fun i=>if i < k then s.testBit i else r.testBit i) n)=b.testBit r:=by
    intro k
    induction k with
    | zero =>
      intro _
      rw [show (fun i=>if i < 0 then s.testBit i else r.testBit i)=r.testBit from funext fun i=>by simp,mkB_self hr]
    | succ k ih =>
      intro hk
      rw [<-ih (by omega)]
      by_cases e:r.testBit k=s.testBit k
      · have:mkB (fun i=>if i < k + 1 then s.testBit i else r.testBit i) n=mkB (fun i=>if i < k then s.testBit i else r.testBit i) n:=mkB_congr fun j _=>by
          by_cases hj:j=k
          · subst hj;simp [e]
          · by_cases h1:j < k
            · rw [if_pos h1,if_pos (by omega)]
            · rw [if_neg h1,if_neg (by omega)]
        rw [this]
      · have hne:essB n b k=false:=by
          cases hc:essB n b k
          · rfl
          · exact absurd (h k (by omega) hc) e
        rw [essB_iff] at hne
        have h1:=tb_eq.1 (hne _ (mkB_lt (fun i=>if i < k then s.testBit i else r.testBit i) n))
        rw [h1]
        congr 1
        apply Nat.eq_of_testBit_eq
        intro j
        unfold pw
        rw [Nat.testBit_xor,mkB_bit,mkB_bit,Nat.testBit_two_pow]
        by_cases hj:j=k
        · subst hj
          rw [decide_eq_true (show j < n by omega),if_pos (by omega),if_neg (by omega),decide_eq_true rfl]
          revert e
          cases r.testBit j <;> cases s.testBit j <;> simp
        · rw [show decide (k=j)=false from decide_eq_false (fun e=>hj e.symm),Bool.xor_false]
          by_cases h1:j < k
          · rw [if_pos h1,if_pos (by omega)]
          · rw [if_neg h1,if_neg (by omega)]
  have:=key n (Nat.le_refl _)
  rw [<-this]
  congr 1
  rw [show mkB (fun i=>if i < n then s.testBit i else r.testBit i) n=mkB s.testBit n from mkB_congr fun j hj=>by rw [if_pos hj],mkB_self hs]
theorem pu5 {n b:Nat}:(essL n b).length<=1 ↔ kq5 n b:=by
  rw [essL_K,up_len]
  constructor
  · intro h
    cases hc:essK n b with
    | nil =>
      refine ⟨0,fun r s hr hs _=>ess_only hr hs fun i hi he=>?_⟩
      have:i ∈ essK n b:=(mem_keepL _ _ _ _).2 ⟨by omega,by omega,he⟩
      rw [hc] at this;cases this
    | cons v l =>
      rw [hc] at h
      have hl:l=[]:=by simpa using h
      subst hl
      refine ⟨v,fun r s hr hs hv=>ess_only hr hs fun i hi he=>?_⟩
      have:i ∈ essK n b:=(mem_keepL _ _ _ _).2 ⟨by omega,by omega,he⟩
      rw [hc,List.mem_singleton] at this
      rw [this];exact hv
  · rintro ⟨v,hv⟩
    have:essK n b=keepL (fun i=>decide (i < n) && essB n b i) 0 n:=keepL_congr n 0 fun j _ h=>by rw [decide_eq_true (show j < n by omega),Bool.true_and]
    rw [this]
    refine keepL_one (v:=v) (fun x hx=>?_) n 0
    rw [Bool.and_eq_true,decide_eq_true_eq] at hx
    rcases Nat.lt_or_ge v v with e | _
    · omega
    by_cases hxv:x=v
    · exact hxv
    · exfalso
      have:essB n b x=false:=(essB_iff n b x).2 fun r hr=>tb_eq.2 (hv r _ hr (xor_lt2 hr (pow_lt2 hx.1)) (by unfold pw;rw [Nat.testBit_xor,Nat.testBit_two_pow,decide_eq_false hxv,Bool.xor_false]))
      rw [this] at hx;exact absurd hx.2 (by decide)
theorem cntE_all (r:Nat):∀ l:List Nat,cntE r l=l.length ↔ ∀ i ∈ l,r.testBit i=true
  | []=>by simp [cntE]
  | x :: l=>by
    have h:=cntE_all r l
    have hle:∀ l:List Nat,cntE r l<=l.length:=by
      intro l
      induction l with
      | nil=>exact Nat.le_refl _
      | cons y l ih=>have:=tb_le r y;simp only [cntE,List.length_cons];omega
    have h1:=tb_le r x
    have h2:=hle l
    rw [cntE,List.length_cons]
    constructor
    · intro e i hi
      have h3:tb r x=1:=by omega
      have h4:cntE r l=l.length:=by omega
      rcases List.mem_cons.1 hi with rfl | hi
      · unfold tb at h3;cases hb:r.testBit i
        · rw [hb] at h3;cases h3
        · rfl
      · exact h.1 h4 i hi
    · intro e
      have h3:tb r x=1:=by unfold tb;rw [e x (List.mem_cons_self ..)];rfl
      have h4:=h.2 fun i hi=>e i (List.mem_cons_of_mem _ hi)
      omega
theorem join_true {n b:Nat} (hb:b < 2 ^ 2 ^ n):b=mkB (joinR true (essK n b)) (2 ^ n) ↔ ∀ r,r < 2 ^ n->(b.testBit r=true ↔ ∀ i ∈ essK n b,r.testBit i=true):=by
  rw [mkB_iff hb]
  refine forall_congr' fun r=>forall_congr' fun hr=>?_
  unfold joinR
  rw [if_pos rfl,<-cntE_all,<-beq_iff_eq (a:=cntE r (essK n b))]
  cases (cntE r (essK n b) == (essK n b).length) <;> cases b.testBit r <;> simp
theorem pj6 {n b:Nat} (hn:n<=4) (hb:b < 2 ^ 2 ^ n):joinB true n b=true ↔ kq6 n b:=by
  unfold joinB
  rw [Bool.or_eq_true,decide_eq_true_eq,decide_eq_true_eq,join_true hb]
  constructor
  · rintro (h | h) r s hr hs
    · have hc:∀ r s,r < 2 ^ n->s < 2 ^ n->b.testBit r=b.testBit s:=fun r s hr hs=>ess_only hr hs fun i hi he=>by
        have:i ∈ essK n b:=(mem_keepL _ _ _ _).2 ⟨by omega,by omega,he⟩
        rw [h] at this;cases this
      rw [hc _ r (and_lt2 hr) hr,hc s r hs hr,Bool.and_self]
    · rw [Bool.eq_iff_iff,Bool.and_eq_true,h _ (and_lt2 hr),h r hr,h s hs]
      simp only [Nat.testBit_and,Bool.and_eq_true]
      exact ⟨fun k=>⟨fun i hi=>(k i hi).1,fun i hi=>(k i hi).2⟩,fun k i hi=>⟨k.1 i hi,k.2 i hi⟩⟩
  · intro hq
    by_cases hz:∀ r,r < 2 ^ n->b.testBit r=false
    · left
      rw [List.eq_nil_iff_forall_not_mem]
      intro i hi
      rw [essK,mem_keepL] at hi
      have:essB n b i=false:=(essB_iff n b i).2 fun r hr=>tb_eq.2 (by rw [hz r hr,hz _ (by unfold pw;exact xor_lt2 hr (pow_lt2 (by omega)))])
      rw [this] at hi;exact absurd hi.2.2 (by decide)
    · right
      have hmon:∀ r s,r < 2 ^ n->s < 2 ^ n->r &&& s=r->b.testBit r=true->b.testBit s=true:=fun r s hr hs e h=>by
        have:=hq r s hr hs
        rw [e,h,Bool.true_and] at this;exact this.symm
      have hfull:b.testBit (2 ^ n - 1)=true:=by
        have hz:=Classical.not_forall.1 hz
        obtain ⟨r,hr⟩:=hz
        obtain ⟨hr,h1⟩:=Classical.not_imp.1 hr
        have hp:=pos2 n
        refine hmon r _ hr (by omega) ?_ (by cases hc:b.testBit r;exact absurd hc h1;rfl)
        apply Nat.eq_of_testBit_eq
        intro i
        rw [Nat.testBit_and,Nat.testBit_two_pow_sub_one]
        by_cases hi:i < n
        · simp [hi]
        · rw [hi_bit hr (by omega)];rfl
      -- the least row
      have key:∀ k,k<=2 ^ n->∃ m,m < 2 ^ n/\b.testBit m=true/\∀ r,r < k->b.testBit r=true->∀ i,m.testBit i=true->r.testBit i=true:=by
        intro k
        induction k with
        | zero=>intro _;exact ⟨2 ^ n - 1,by have:=pos2 n;omega,hfull,fun r h=>by omega⟩
        | succ k ih =>
          intro hk
          obtain ⟨m,m1,m2,m3⟩:=ih (by omega)
          by_cases hb:b.testBit k=true
          · refine ⟨m &&& k,and_lt2 m1,by rw [hq m k m1 (by omega),m2,hb];rfl,fun r hr h i hi=>?_⟩
            rw [Nat.testBit_and,Bool.and_eq_true] at hi
            by_cases e:r=k
            · rw [e];exact hi.2
            · exact m3 r (by omega) h i hi.1
          · refine ⟨m,m1,m2,fun r hr h=>?_⟩
            by_cases e:r=k
            · rw [e] at h;exact absurd h hb
            · exact m3 r (by omega) h
      obtain ⟨m,m1,m2,m3⟩:=key (2 ^ n) (Nat.le_refl _)
      have hsub:∀ r,r < 2 ^ n->(b.testBit r=true ↔ ∀ i,m.testBit i=true->r.testBit i=true):=fun r hr=>by
        refine ⟨fun h=>m3 r hr h,fun h=>hmon m r m1 hr ?_ m2⟩
        apply Nat.eq_of_testBit_eq
        intro i
        rw [Nat.testBit_and]
        cases hc:m.testBit i
        · rfl
        · rw [h i hc];rfl
      have hess:∀ i,i ∈ essK n b ↔ m.testBit i=true:=fun i=>by
        rw [essK,mem_keepL]
        constructor
        · rintro ⟨_,hi,he⟩
          cases hc:m.testBit i
          · exfalso
            have:essB n b i=false:=(essB_iff n b i).2 fun r hr=>tb_eq.2 (by
              have hx:r ^^^ pw i < 2 ^ n:=by unfold pw;exact xor_lt2 hr (pow_lt2 (by omega))
              rw [Bool.eq_iff_iff,hsub r hr,hsub _ hx]
              refine forall_congr' fun j=>forall_congr' fun hj=>?_
              unfold pw
              rw [Nat.testBit_xor,Nat.testBit_two_pow,show decide (i=j)=false from decide_eq_false (fun e=>by rw [e] at hc;rw [hc] at hj;cases hj),Bool.xor_false])
            rw [this] at he;cases he
          · rfl
        · intro h
          have hi:i < n:=by
            rcases Nat.lt_or_ge i n with e | e
            · exact e
            · rw [hi_bit m1 e] at h;cases h
          refine ⟨by omega,by omega,?_⟩
          cases hc:essB n b i
          · exfalso
            have h1:=tb_eq.1 ((essB_iff n b i).1 hc m m1)
            have hx:m ^^^ pw i < 2 ^ n:=by unfold pw;exact xor_lt2 m1 (pow_lt2 hi)
            rw [m2] at h1
            have h2:=(hsub _ hx).1 h1.symm i h
            unfold pw at h2
            rw [Nat.testBit_xor,Nat.testBit_two_pow,h,decide_eq_true rfl] at h2;cases h2
          · rfl
      intro r hr
      rw [hsub r hr]
      exact ⟨fun h i hi=>h i ((hess i).1 hi),fun h i hi=>h i ((hess i).2 hi)⟩
theorem kq6_dual {n b:Nat}:kq6 n (dualN n b) ↔ kq7 n b:=by
  have hc:∀ {r},r < 2 ^ n->2 ^ n - 1 - r < 2 ^ n:=fun h=>by omega
  have hcc:∀ {r},r < 2 ^ n->2 ^ n - 1 - (2 ^ n - 1 - r)=r:=fun h=>by omega
  have hand:∀ {r s},r < 2 ^ n->s < 2 ^ n->2 ^ n - 1 - (r &&& s)=(2 ^ n - 1 - r) ||| (2 ^ n - 1 - s):=fun {r s} hr hs=>by
    apply Nat.eq_of_testBit_eq
    intro i
    rw [compl_bit2 (and_lt2 hr),Nat.testBit_or,compl_bit2 hr,compl_bit2 hs,Nat.testBit_and]
    cases decide (i < n) <;> cases r.testBit i <;> cases s.testBit i <;> rfl
  constructor
  · intro h r s hr hs
    have:=h _ _ (hc hr) (hc hs)
    rw [dualN_bit (and_lt2 (hc hr)),dualN_bit (hc hr),dualN_bit (hc hs),hand (hc hr) (hc hs),hcc hr,hcc hs] at this
    revert this
    cases b.testBit (r ||| s) <;> cases b.testBit r <;> cases b.testBit s <;> simp
  · intro h r s hr hs
    rw [dualN_bit (and_lt2 hr),dualN_bit hr,dualN_bit hs,hand hr hs,h _ _ (hc hr) (hc hs)]
    cases b.testBit (2 ^ n - 1 - r) <;> cases b.testBit (2 ^ n - 1 - s) <;> rfl
theorem pj7 {n b:Nat} (hn:n<=4) (hb:b < 2 ^ 2 ^ n):joinB false n b=true ↔ kq7 n b:=by
  rw [<-joinB_dual hb,pj6 hn (dualN_lt n b),kq6_dual]
theorem turn_turn {c n y:Nat} (h:y < 2 ^ n):(if c=0 then 2 ^ n - 1 - (if c=0 then 2 ^ n - 1 - y else y) else (if c=0 then 2 ^ n - 1 - y else y))=y:=by split <;> omega
theorem mem_degS {n b c y:Nat}:y ∈ degS n b c (2 ^ n) ↔ y < 2 ^ n/\(b.testBit (if c=0 then 2 ^ n - 1 - y else y)).toNat=c:=by
  rw [degS_mem]
  constructor
  · rintro ⟨r,hr,h1,rfl⟩
    exact ⟨turn_lt hr,by rw [turn_turn hr];exact h1⟩
  · rintro ⟨h1,h2⟩
    exact ⟨_,turn_lt h1,h2,(turn_turn h1).symm⟩
theorem degN_find (n b c:Nat):degN n b c=((List.range' 1 9).find? fun j=>decide (0 ∈ meets n (degS n b c (2 ^ n)) j)).elim 9 (· - 1):=by
  unfold degN
  have h:=degGo_meets (n:=n) (S:=degS n b c (2 ^ n)) 9 0 rfl
  by_cases hS:degS n b c (2 ^ n)=[]
  · rw [if_pos hS,hS]
    have:((List.range' 1 9).find? fun j=>decide (0 ∈ meets n [] j))=none:=by
      rw [List.find?_eq_none]
      intro j hj
      rw [decide_eq_true_eq,mem_meets]
      rintro ⟨ys,h1,h2,_⟩
      have hj:=List.mem_range'_1.1 hj
      cases ys with
      | nil=>simp at h2;omega
      | cons y ys=>exact absurd (h1 y (List.mem_cons_self ..)) (by simp)
    rw [this];rfl
  · rw [if_neg hS];exact h
theorem deg_q8 {n b c d:Nat} (hd:d<=9):d<=degN n b c ↔ kq8 c d n b:=by
  have hq:kq8 c d n b ↔ ∀ j,1<=j->j<=d->0 ∉ meets n (degS n b c (2 ^ n)) j:=by
    constructor
    · intro h j h1 h2 h0
      obtain ⟨ys,y1,y2,y3⟩:=(mem_meets j 0).1 h0
      obtain ⟨i,hi,hin⟩:=h ys (by intro e;rw [e] at y2;simp at y2;omega) (by omega) fun y hy=>mem_degS.1 (y1 y hy)
      have:=congrArg (·.testBit i) y3
      simp only [andL_bit,Nat.zero_testBit,Nat.testBit_two_pow_sub_one,decide_eq_true hi,Bool.true_and] at this
      rw [List.all_eq_true.2 hin] at this;cases this
    · intro h ys h0 hl hy
      refine Classical.byContradiction fun hno=>h ys.length (by cases ys with | nil=>exact absurd rfl h0 | cons y ys=>simp) hl ((mem_meets _ _).2 ⟨ys,fun y hm=>mem_degS.2 (hy y hm),rfl,andL_zero fun v hv=>?_⟩)
      refine Classical.byContradiction fun hn=>hno ⟨v,hv,fun y hm=>?_⟩
      cases hc:y.testBit v
      · exact absurd ⟨y,hm,hc⟩ hn
      · rfl
  rw [hq,degN_find]
  cases hf:(List.range' 1 9).find? fun j=>decide (0 ∈ meets n (degS n b c (2 ^ n)) j) with
  | none =>
    refine ⟨fun _ j h1 h2 h0=>?_,fun _=>hd⟩
    have:=List.find?_eq_none.1 hf j (List.mem_range'_1.2 ⟨h1,by omega⟩)
    exact this (decide_eq_true h0)
  | some k =>
    have hk:=List.find?_some hf
    have hm:=List.mem_range'_1.1 (List.mem_of_find?_eq_some hf)
    rw [decide_eq_true_eq] at hk
    show d<=k - 1 ↔ _
    constructor
    · intro h j h1 h2 h0
      have hlt:j < k:=by omega
      obtain ⟨_,ps,bs,e,hno⟩:=List.find?_eq_some_iff_append.1 hf
      have hmem:j ∈ ps ++ k :: bs:=e ▸ List.mem_range'_1.2 ⟨h1,by omega⟩
      rcases List.mem_append.1 hmem with ha | ha
      · have:=hno j ha
        rw [decide_eq_true h0] at this;cases this
      · rcases List.mem_cons.1 ha with e2 | hb
        · omega
        · have hp:(ps ++ k :: bs).Pairwise (· < ·):=e ▸ List.pairwise_lt_range'
          have:=(List.pairwise_cons.1 (List.pairwise_append.1 hp).2.1).1 j hb
          omega
    · intro h
      refine Classical.byContradiction fun hn=>h k hm.1 (by omega) hk
theorem gen_kept {fs:List (Nat × Nat)} {n:Nat} {Q:Nat->Nat->Prop} (hf:okFs fs) (hc:Comp Q) (hp:∀ i,i < n->Q n (projN n i)) (hq:∀ f ∈ fs,Q f.1 f.2):∀ x ∈ knS (genD fs n),Q n x:=by
  intro x hx
  obtain ⟨h1,h2⟩:=mem_knS.1 hx
  refine gen_all (P:=Q n) (fun f hff l hl hh=>hc f.1 f.2 n l (hf.1 f hff).2 hl (hq f hff) hh) KK 1 (initG n) (fun i hi h0=>?_) x h1 h2
  obtain ⟨j,hj,e⟩:=(initG_mem n i).2 (by rwa [initG_len] at hi) h0
  rw [e];exact hp j hj
theorem genD_len (fs:List (Nat × Nat)) (n:Nat):(genD fs n).length=2 ^ 2 ^ n:=by rw [genD,genS_len,initG_len]
theorem genD_lt {fs:List (Nat × Nat)} {n x:Nat} (h:x ∈ knS (genD fs n)):x < 2 ^ 2 ^ n:=by
  rw [<-genD_len fs n];exact (mem_knS.1 h).1
def kqC (k:Nat):Nat->Nat->Prop:=match k with
  | 0=>kq0
  | 1=>kq1
  | 2=>kq2
  | 3=>kq3
  | _=>kq4
theorem inC_kq {n b:Nat} (hn:n<=4) (hb:b < 2 ^ 2 ^ n):∀ k,inC n b k=true ↔ kqC k n b
  | 0=>by show (!b.testBit 0)=true ↔ b.testBit 0=false;simp
  | 1=>Iff.rfl
  | 2=>pc2 hb
  | 3=>pc3
  | _ + 4=>pc4 hn
theorem compC:∀ k,Comp (kqC k)
  | 0=>comp0
  | 1=>comp1
  | 2=>comp2
  | 3=>comp3
  | _ + 4=>comp4
theorem projC {n i:Nat} (h:i < n):∀ k,kqC k n (projN n i)
  | 0=>proj0 h
  | 1=>proj1 h
  | 2=>proj2 h
  | 3=>proj3 h
  | _ + 4=>proj4 h
theorem all_kept {fs:List (Nat × Nat)} {n:Nat} (hf:okFs fs) (hn:n<=4) {c:DF->Bool} {Q:Nat->Nat->Prop} (hc:Comp Q) (hp:∀ i,i < n->Q n (projN n i)) (he:∀ n b,n<=4->b < 2 ^ 2 ^ n->(c (fN n b)=true ↔ Q n b)) (ha:(fsN fs).all c=true) :
    ∀ x ∈ knS (genD fs n),c (fN n x)=true:=by
  intro x hx
  refine (he n x hn (genD_lt hx)).2 (gen_kept hf hc hp (fun f hff=>?_) x hx)
  have h2:=hf.1 f hff
  exact (he f.1 f.2 h2.1 h2.2).1 (List.all_eq_true.1 ha _ (List.mem_map.2 ⟨f,hff,rfl⟩))
theorem keptC {fs:List (Nat × Nat)} {n:Nat} (hf:okFs fs) (hn:n<=4) (k:Nat) (ha:(fsN fs).all (pC k)=true):∀ x ∈ knS (genD fs n),pC k (fN n x)=true :=
  all_kept hf hn (compC k) (fun i h=>projC h k) (fun n b hn hb=>inC_kq hn hb k) ha
theorem keptU {fs:List (Nat × Nat)} {n:Nat} (hf:okFs fs) (hn:n<=4) (ha:(fsN fs).all pU=true):∀ x ∈ knS (genD fs n),pU (fN n x)=true :=
  all_kept hf hn comp5 (fun i h=>proj5 h) (fun n b hn hb=>decide_eq_true_iff.trans pu5) ha
theorem keptJ {fs:List (Nat × Nat)} {n:Nat} (hf:okFs fs) (hn:n<=4):∀ (t:Bool),(fsN fs).all (pJ t)=true->∀ x ∈ knS (genD fs n),pJ t (fN n x)=true
  | true,ha=>all_kept hf hn comp6 (fun i h=>proj6 h) (fun n b hn hb=>pj6 hn hb) ha
  | false,ha=>all_kept hf hn comp7 (fun i h=>proj7 h) (fun n b hn hb=>pj7 hn hb) ha
theorem keptD {fs:List (Nat × Nat)} {n c:Nat} (hf:okFs fs) (hc:c<=1):∀ x ∈ knS (genD fs n),leastD c (fsN fs)<=pD c (fN n x):=by
  intro x hx
  have h9:=leastD_le c (fsN fs)
  refine (deg_q8 h9).2 (gen_kept hf (comp8 hc _) (fun i h=>proj8 hc _ h) (fun f hff=>?_) x hx)
  exact (deg_q8 h9).1 (least_mem c (List.mem_map.2 ⟨f,hff,rfl⟩))
theorem isF_nm {n b:Nat} (hn:n<=4) (hb:b < 2 ^ 2 ^ n):isF 0 (fN n b)=true:=by
  show isF 0 ((n:Int),(b:Int),())=true
  simp only [isF,Bool.and_eq_true,decide_eq_true_eq,Int.toNat_natCast]
  exact ⟨⟨⟨by omega,by omega⟩,by omega⟩,Int.ofNat_lt.2 hb⟩
theorem okL_fsN {fs:List (Nat × Nat)} (hf:okFs fs) (hl:fs.length<=40):okL (fsN fs):=by
  refine ⟨fun g hg=>?_,by simpa [fsN] using hl⟩
  obtain ⟨f,hff,rfl⟩:=List.mem_map.1 hg
  exact isF_nm (hf.1 f hff).1 (hf.1 f hff).2
/-- what is generated has the name of the list -/
theorem name_kept {fs:List (Nat × Nat)} {n:Nat} (hf:okFs fs) (hl:fs.length<=40) (hn:n<=4) {G:List DF} (hG:okL G) (e:nameV (fsN fs)=nameV G) {x:Nat} (hx:x ∈ knS (genD fs n)):nameV (G ++ [fN n x])=nameV (fsN fs):=by
  rw [e]
  rw [nameV_vec,nameV_vec] at e
  rw [nameV_vec,nameV_vec]
  have hd:∀ c,c<=1->btwN (leastD c (fsN fs)) (leastD c G) (leastD c (G ++ [fN n x])):=fun c hc=>by
    have:=keptD (n:=n) hf hc x hx
    unfold btwN
    rw [least_snoc]
    omega
  refine nm_good (P:=vecL (fsN fs)) (Q:=vecL G) (R:=vecL (G ++ [fN n x])) (vec_ok (okL_fsN hf hl)) (vec_ok hG) ⟨?_,?_,?_,?_,?_,?_,?_,?_,hd 0 (by decide),hd 1 (by decide)⟩ e
  · exact btw_l fun h=>keptC hf hn 0 h x hx
  · exact btw_l fun h=>keptC hf hn 1 h x hx
  · exact btw_l fun h=>keptC hf hn 2 h x hx
  · exact btw_l fun h=>keptC hf hn 3 h x hx
  · exact btw_l fun h=>keptC hf hn 4 h x hx
  · exact btw_l fun h=>keptU hf hn h x hx
  · exact btw_l fun h=>keptJ hf hn false h x hx
  · exact btw_l fun h=>keptJ hf hn true h x hx
theorem mem_relQ {B m t:Nat}:t ∈ relL B m ↔ t < 2 ^ m/\B.testBit t=true:=by simp [relL]
def keptR (m B n b:Nat):Prop:=∀ ch:List Nat,ch.length=n->(∀ t ∈ ch,t ∈ relL B m)->B.testBit (valV b m ch)=true
theorem keepV_iff {b m B:Nat}:∀ (k:Nat) (ch:List Nat),keepV b m B (relL B m) k ch=true ↔ ∀ l:List Nat,l.length=k->(∀ t ∈ l,t ∈ relL B m)->B.testBit (valV b m (ch ++ l))=true
  | 0,ch=>by
    constructor
    · intro h l hl _
      obtain rfl:l=[]:=List.length_eq_zero_iff.1 hl
      rw [List.append_nil];exact h
    · intro h
      have:=h [] rfl (fun _ h=>by cases h)
      rw [List.append_nil] at this;exact this
  | k + 1,ch=>by
    simp only [keepV,List.all_eq_true]
    constructor
    · rintro h (_ | ⟨t,l⟩) hl hh
      · cases hl
      · have:=(keepV_iff k (ch ++ [t])).1 (h t (hh t (List.mem_cons_self ..))) l (by simpa using hl) (fun y hy=>hh y (List.mem_cons_of_mem _ hy))
        rwa [List.append_assoc] at this
    · intro h t ht
      refine (keepV_iff k (ch ++ [t])).2 fun l hl hh=>?_
      rw [List.append_assoc]
      refine h ([t] ++ l) (by simp [hl]) fun y hy=>?_
      rcases List.mem_append.1 hy with e | e
      · rw [List.mem_singleton.1 e];exact ht
      · exact hh y e
theorem valV_put {b n m:Nat} {l ch:List Nat} (hc:ch.length=n):valV (putN b n l) m ch=valV b m (l.map fun x=>valV x m ch):=by
  unfold valV
  refine mkB_congr fun i hi=>?_
  rw [hc,putN_bit (show rowV ch n i < 2 ^ n from mkB_lt _ _)]
  congr 1
  unfold packN rowV
  rw [List.length_map]
  refine mkB_congr fun j hj=>?_
  have:(l.map fun x=>mkB (fun i=>x.testBit (mkB (fun j=>(ch.getD j 0).testBit i) n)) m).getD j 0=mkB (fun i=>(l.getD j 0).testBit (mkB (fun j=>(ch.getD j 0).testBit i) n)) m:=by
    simp [List.getD,hj]
  rw [this,mkB_bit,decide_eq_true hi,Bool.true_and]
theorem compR (m B:Nat):Comp (keptR m B):=by
  intro a b n l hb hl hq hx ch hc hh
  rw [valV_put hc]
  refine hq _ (by simpa using hl) fun t ht=>?_
  obtain ⟨x,hxl,rfl⟩:=List.mem_map.1 ht
  exact mem_relQ.2 ⟨valV_lt _ _ _,hx x hxl ch hc hh⟩
theorem projR {m B n i:Nat} (hi:i < n):keptR m B n (projN n i):=by
  intro ch hc hh
  have hg:ch.getD i 0 ∈ relL B m:=hh _ (getD_mem (by omega))
  have:valV (projN n i) m ch=ch.getD i 0:=by
    rw [<-mkB_self (mem_relQ.1 hg).1]
    unfold valV
    refine mkB_congr fun j hj=>?_
    rw [hc,projN_bit (show rowV ch n j < 2 ^ n from mkB_lt _ _),rowV,mkB_bit,decide_eq_true hi,Bool.true_and]
  rw [this];exact (mem_relQ.1 hg).2
def subB (A B:Nat):Prop:=∀ j,A.testBit j=true->B.testBit j=true
theorem subB.eq {A B:Nat} (h:subB A B) (k:subB B A):A=B:=Nat.eq_of_testBit_eq fun j=>by rw [Bool.eq_iff_iff];exact ⟨h j,k j⟩
def ClosedR (n:Nat) (l:List DF) (C:Nat):Prop:=∀ f ∈ l,subB (madeV f.2.1.toNat n (relL C n) f.1.toNat []) C
theorem made_mono {b n A B:Nat} (h:subB A B):∀ (m:Nat) (ch:List Nat),subB (madeV b n (relL A n) m ch) (madeV b n (relL B n) m ch)
  | 0,ch=>fun _ h=>h
  | m + 1,ch=>by
    intro j hj
    simp only [madeV,fold_bit,Nat.zero_testBit,Bool.false_or,List.any_eq_true] at hj ⊢
    obtain ⟨t,ht,hb⟩:=hj
    obtain ⟨h1,h2⟩:=mem_relQ.1 ht
    exact ⟨t,mem_relQ.2 ⟨h1,h t h2⟩,made_mono h m _ j hb⟩
theorem subB_or {A B D:Nat}:subB (A ||| B) D ↔ subB A D/\subB B D:=by
  constructor
  · intro h
    exact ⟨fun j hj=>h j (by rw [Nat.testBit_or,hj,Bool.true_or]),fun j hj=>h j (by rw [Nat.testBit_or,hj,Bool.or_true])⟩
  · rintro ⟨h1,h2⟩ j hj
    rw [Nat.testBit_or,Bool.or_eq_true] at hj
    exact hj.elim (h1 j) (h2 j)
theorem clStep_sub {n D:Nat}:∀ (l:List DF) {B:Nat},ClosedR n l D->subB B D->subB (clStep n l B) D
  | [],B,_,h=>h
  | f :: l,B,hc,h=>clStep_sub l (fun g hg=>hc g (List.mem_cons_of_mem _ hg)) (subB_or.2 ⟨h,fun j hj=>hc f (List.mem_cons_self ..) j (made_mono h _ _ j hj)⟩)
theorem clStep_sup {n:Nat}:∀ (l:List DF) (B:Nat),subB B (clStep n l B)
  | [],B=>fun _ h=>h
  | f :: l,B=>fun j hj=>clStep_sup l _ j (by rw [Nat.testBit_or,hj,Bool.true_or])
theorem clStep_closed {n:Nat}:∀ (l:List DF) (B:Nat),subB (clStep n l B) B->ClosedR n l B
  | [],B,_=>fun f h=>by cases h
  | f :: l,B,h=>by
    have h1:subB (clStep n l (B ||| madeV f.2.1.toNat n (relL B n) f.1.toNat [])) B:=h
    have h2:=subB_or.1 (fun j hj=>h1 j (clStep_sup l _ j hj):subB (B ||| madeV f.2.1.toNat n (relL B n) f.1.toNat []) B)
    have h3:B ||| madeV f.2.1.toNat n (relL B n) f.1.toNat []=B:=subB.eq (subB_or.2 h2) (subB_or.1 (fun _ h=>h)).1
    rw [h3] at h1
    intro g hg
    rcases List.mem_cons.1 hg with rfl | hg
    · exact h2.2
    · exact clStep_closed l B h1 g hg
/-- the least closed relation with B in it -/
structure LeastR (n:Nat) (l:List DF) (B C:Nat):Prop where
  sup:subB B C
  closed:ClosedR n l C
  least:∀ D,subB B D->ClosedR n l D->subB C D
theorem LeastR.eq {n:Nat} {l:List DF} {B C C':Nat} (h:LeastR n l B C) (k:LeastR n l B C'):C=C':=subB.eq (h.least _ k.sup k.closed) (k.least _ h.sup h.closed)
theorem clos_L (n:Nat) (hn:n<=4) (l:List DF) (hl:okL l) (hK:4611686018427387904<=K) (v4:DF) (kr:DF->Option R):∀ (m B k:Nat),B < 2 ^ 2 ^ n->2 ^ 2 ^ n - B<=m->100 + m < k →
    ∃ C,C < 2 ^ 2 ^ n/\LeastR n l B C/\i_closure_l1 K k l ((n:Int),(B:Int),()) v4 kr=kr ((n:Int),(C:Int),())
  | 0,B,k,hB,hm,_=>by omega
  | m + 1,B,k + 1,hB,hm,hk=>by
    have hlen:=hl.2
    have h3:=fun kx=>clos_l3 (K:=K) (R:=R) n hn l v4 ((n:Int),(B:Int),()) l hl hK kx l [] B k hB rfl (by omega)
    rw [List.length_nil,show ((0:Nat):Int)=0 from rfl] at h3
    by_cases e:clStep n l B=B
    · refine ⟨B,hB,⟨fun _ h=>h,clStep_closed l B (by rw [e];exact fun _ h=>h),fun D h _=>h⟩,?_⟩
      simp only [i_closure_l1]
      rw [h3,e,eqD_rel,ite_t (decide_eq_true rfl)]
    · have hle:=clStep_le (n:=n) l B
      obtain ⟨C,c1,c2,c3⟩:=clos_L n hn l hl hK v4 kr m (clStep n l B) k (clStep_lt l hB) (by omega) (by omega)
      refine ⟨C,c1,⟨fun j hj=>c2.sup j (clStep_sup l B j hj),c2.closed,fun D h hc=>c2.least D (clStep_sub l hc h) hc⟩,?_⟩
      simp only [i_closure_l1]
      rw [h3,eqD_rel,ite_f (decide_eq_false e),c3]
/-- a round of the spec: all from the relation of the round's begin -/
def clS (n:Nat) (B:Nat) (l:List DF) (acc:Nat):Nat:=l.foldl (fun a f=>a ||| madeV f.2.1.toNat n (relL B n) f.1.toNat []) acc
theorem clS_lt {n B:Nat}:∀ (l:List DF) {a:Nat},a < 2 ^ 2 ^ n->clS n B l a < 2 ^ 2 ^ n
  | [],_,h=>h
  | f :: l,_,h=>clS_lt l (Nat.or_lt_two_pow h (madeV_lt' _ _ _))
theorem clS_le {n B:Nat}:∀ (l:List DF) (a:Nat),a<=clS n B l a
  | [],a=>Nat.le_refl a
  | f :: l,a=>Nat.le_trans Nat.left_le_or (clS_le l _)
theorem clS_sup {n B:Nat}:∀ (l:List DF) (a:Nat),subB a (clS n B l a)
  | [],a=>fun _ h=>h
  | f :: l,a=>fun j hj=>clS_sup l _ j (by rw [Nat.testBit_or,hj,Bool.true_or])
theorem clS_sub {n B D:Nat} (hB:subB B D):∀ (l:List DF) {a:Nat},ClosedR n l D->subB a D->subB (clS n B l a) D
  | [],a,_,h=>h
  | f :: l,a,hc,h=>clS_sub hB l (fun g hg=>hc g (List.mem_cons_of_mem _ hg)) (subB_or.2 ⟨h,fun j hj=>hc f (List.mem_cons_self ..) j (made_mono hB _ _ j hj)⟩)
theorem clS_closed {n B:Nat}:∀ (l:List DF) (a:Nat),subB (clS n B l a) B->ClosedR n l B
  | [],_,_=>fun f h=>by cases h
  | f :: l,a,h=>by
    have h1:subB (clS n B l (a ||| madeV f.2.1.toNat n (relL B n) f.1.toNat [])) B:=h
    intro g hg
    rcases List.mem_cons.1 hg with rfl | hg
    · exact (subB_or.1 (fun j hj=>h1 j (clS_sup l _ j hj):subB (a ||| madeV g.2.1.toNat n (relL B n) g.1.toNat []) B)).2
    · exact clS_closed l _ h1 g hg
theorem sclos_l8 {n B:Nat} (hn:n<=4) (hB:B < 2 ^ 2 ^ n) (l:List DF) (hl:okL l) (hK:4611686018427387904<=K) (v4:DF) (kx:List DF->DF->DF->Int->Option R):∀ (r p:List DF) (a k:Nat),a < 2 ^ 2 ^ n->l=p ++ r->r.length < k →
    s_ClosureOf_l8 K k l ((n:Int),(B:Int),()) v4 (a:Int) (p.length:Int) kx=kx l ((n:Int),(B:Int),()) v4 ((clS n B r a:Nat):Int)
  | _,_,_,0,_,_,h=>by omega
  | [],p,a,k + 1,ha,e,_=>by
    simp only [s_ClosureOf_l8]
    rw [ite_f (by rw [e];exact nlt_len)];rfl
  | f :: r,p,a,k + 1,ha,e,hk=>by
    have h16:=pp4 hn
    have hlen:=hl.2
    have hlen2:l.length=p.length + (r.length + 1):=by rw [e];simp
    have hfl:f ∈ l:=mem_mid e
    obtain ⟨c,b,rfl,hc,hb⟩:=hl.nat hfl
    have hm:=madeV_lt' (fb:=b) (n:=n) (relL B n) c []
    have ih:=sclos_l8 hn hB l hl hK v4 kx r (p ++ [((c:Int),(b:Int),())]) (a ||| madeV b n (relL B n) c []) k (Nat.or_lt_two_pow ha hm) (by rw [e];simp) (by simp at hk;omega)
    have hs:=s_made_eq (K:=K) (B:=B) (fb:=b) hn hc (Nat.lt_of_lt_of_le hb (pp4 hc)) (by omega) hK c K [] (by simp) (by omega) (by simp)
    simp only [List.map_nil] at hs
    simp only [s_ClosureOf_l8]
    rw [ite_t (by rw [e];exact lt_len),ite_t (by rw [e];exact bnds_mid),s_l06List_eq hn (by omega) hK,some_bind',show l.getD ((p.length:Nat):Int).toNat ((0:Int),(0:Int),())=((c:Int),(b:Int),()) by rw [e];exact getD_midI p r _ _,hs,some_bind',bitI_or (by omega) (by omega),w64s (by omega),<-snoc_len p ((c:Int),(b:Int),()),ih];rfl
theorem sclos_L (n:Nat) (hn:n<=4) (l:List DF) (hl:okL l) (hK:4611686018427387904<=K) (v4:DF) (kr:DF->Int->Option R):∀ (m B k:Nat),B < 2 ^ 2 ^ n->2 ^ 2 ^ n - B<=m->100 + m < k →
    ∃ C,LeastR n l B C/\s_ClosureOf_l6 K k l ((n:Int),(B:Int),()) v4 kr=kr ((n:Int),(C:Int),()) 0
  | 0,B,k,hB,hm,_=>by omega
  | m + 1,B,k + 1,hB,hm,hk=>by
    have hlen:=hl.2
    have h3:=fun kx=>sclos_l8 (K:=K) (R:=R) hn hB l hl hK v4 kx l [] B k hB rfl (by omega)
    rw [List.length_nil,show ((0:Nat):Int)=0 from rfl] at h3
    by_cases e:clS n B l B=B
    · refine ⟨B,⟨fun _ h=>h,clS_closed l B (by rw [e];exact fun _ h=>h),fun D h _=>h⟩,?_⟩
      simp only [s_ClosureOf_l6]
      rw [h3,e,ite_t (decide_eq_true rfl)]
    · have hle:=clS_le (n:=n) (B:=B) l B
      obtain ⟨C,c2,c3⟩:=sclos_L n hn l hl hK v4 kr m (clS n B l B) k (clS_lt l hB) (by omega) (by omega)
      refine ⟨C,⟨fun j hj=>c2.sup j (clS_sup l B j hj),c2.closed,fun D h hc=>c2.least D (clS_sub h l hc h) hc⟩,?_⟩
      simp only [s_ClosureOf_l6]
      rw [h3,ite_f (decide_eq_false fun h=>e (Int.ofNat_inj.1 h)),c3]
def cR (l:List DF) (r:DF):Int:=if (l.all (isF 0) && isF 1 r)=true then (if 8 < l.length then 2 else 0) else 1
/-- ClosureOf, of both: the least closed relation -/
theorem closure_both {l:List DF} (hlen:l.length < 4611686018427387904) (r:DF):∃ q,i_ClosureOf KK (l,r,())=some (q,cR l r,())/\s_ClosureOf KK (l,r,())=some (q,cR l r,()) ∧
    (cR l r=0->∃ n C:Nat,q=((n:Int),(C:Int),())/\1<=n/\n<=4/\C < 2 ^ 2 ^ n/\ClosedR n l C):=by
  unfold cR
  have hK:=KK_ge
  cases ha:l.all (isF 0)
  · refine ⟨((0:Int),(0:Int),()),?_,?_,fun h=>?_⟩
    · simp only [i_ClosureOf]
      rw [i_areFuncs_eq hlen hK,some_bind',ha,ite_t (c:=!false) rfl];rfl
    · simp only [s_ClosureOf]
      rw [s_l02Code_eq hlen hK,some_bind',codeV,ha,ite_t (decide_eq_true (by rfl))];rfl
    · rw [Bool.false_and,if_neg (by decide)] at h;cases h
  · cases hr:isF 1 r
    · have hcode:s_ClosureOf KK (l,r,())=some (((0:Int),(0:Int),()),(1:Int),()):=by
        simp only [s_ClosureOf]
        rw [s_l02Code_eq hlen hK,some_bind',codeV,ha,if_pos rfl]
        rw [ite_f (decide_eq_false (by split <;> decide)),s_l06Is_eq,some_bind',hr,ite_t (c:=!false) rfl]
      refine ⟨((0:Int),(0:Int),()),?_,by rw [hcode];rfl,fun h=>?_⟩
      · simp only [i_ClosureOf]
        rw [i_areFuncs_eq hlen hK,some_bind',ha,ite_f (c:=!true) rfl,i_IsRelation_eq,some_bind',hr,ite_t (c:=!false) rfl];rfl
      · rw [if_neg (by decide)] at h;cases h
    · rw [if_pos (by rfl)]
      by_cases h8:8 < l.length
      · rw [if_pos h8]
        refine ⟨((0:Int),(0:Int),()),?_,?_,fun h=>by cases h⟩
        · simp only [i_ClosureOf,i_ClosureOf_j3]
          rw [i_areFuncs_eq hlen hK,some_bind',ha,ite_f (c:=!true) rfl,i_IsRelation_eq,some_bind',hr,ite_f (c:=!true) rfl,ite_t (decide_eq_true (by omega))]
        · simp only [s_ClosureOf,s_ClosureOf_j4]
          rw [s_l02Code_eq hlen hK,some_bind',codeV,ha,if_pos rfl,if_pos h8,ite_f (by rfl),s_l06Is_eq,some_bind',hr,ite_f (c:=!true) rfl,ite_t (by rfl)]
      · rw [if_neg h8]
        have hl:okL l:=⟨List.all_eq_true.1 ha,by omega⟩
        obtain ⟨n,B,rfl,hn,hB,hn1⟩:=isF_nat hr (by decide)
        have h16:=pp4 hn
        have hKK:(9223372036854775808:Nat)=KK:=rfl
        obtain ⟨C,c1,c2,c3⟩:=clos_L (K:=KK) (R:=DF) n hn l hl hK ((0:Int),(0:Int),()) (fun z8=>some z8) (2 ^ 2 ^ n) B KK hB (by omega) (by omega)
        obtain ⟨C',d2,d3⟩:=sclos_L (K:=KK) (R:=DF × Int × Unit) n hn l hl hK ((0:Int),(0:Int),()) (fun z10 z11=>some (z10,z11,())) (2 ^ 2 ^ n) B KK hB (by omega) (by omega)
        obtain rfl:=c2.eq d2
        refine ⟨((n:Int),(C:Int),()),?_,?_,fun _=>⟨n,C,rfl,by omega,hn,c1,c2.closed⟩⟩
        · simp only [i_ClosureOf,i_ClosureOf_j3,i_closure]
          rw [i_areFuncs_eq hlen hK,some_bind',ha,ite_f (c:=!true) rfl,i_IsRelation_eq,some_bind',hr,ite_f (c:=!true) rfl,ite_f (decide_eq_false (by omega)),c3,some_bind']
        · simp only [s_ClosureOf,s_ClosureOf_j4]
          rw [s_l02Code_eq hlen hK,some_bind',codeV,ha,if_pos rfl,if_neg h8,ite_f (by rfl),s_l06Is_eq,some_bind',hr,ite_f (c:=!true) rfl,ite_f (by rfl),d3]
theorem closed_keep {n C:Nat} {l:List DF} (h:ClosedR n l C) {f:DF} (hf:f ∈ l):keepV f.2.1.toNat n C (relL C n) f.1.toNat []=true:=(keep_made _ _ _ _ _ _).2 (h f hf)
/-- what is generated keeps what the list keeps -/
theorem rel_kept {fs:List (Nat × Nat)} {n m C:Nat} (hf:okFs fs) (h:ClosedR m (fsN fs) C):∀ x ∈ knS (genD fs n),keepV x m C (relL C m) n []=true:=by
  intro x hx
  refine (keepV_iff _ _).2 (gen_kept hf (compR m C) (fun i h=>projR h) (fun f hff=>?_) x hx)
  exact (keepV_iff f.1 []).1 (closed_keep h (List.mem_map.2 ⟨f,hff,rfl⟩))
noncomputable def genF0 (t:ByteArray):List DF:=((i_generators KK (t,())).getD ([],false,())).1
theorem gens_f:∀ t ∈ allNames,((i_generators KK (t,())).map fun y=>y.2.1 && y.1.all (isF 0) && decide (y.1.length<=5) && ((i_cloneName KK (y.1,())).map fun s=>cmpS .eql s t) == some true)=some true:=by decide +kernel
theorem gensF_ok {t:ByteArray} (h:t ∈ allNames):i_generators KK (t,())=some (genF0 t,true,())/\okL (genF0 t)/\(genF0 t).length<=5/\nameV (genF0 t)=t:=by
  obtain ⟨⟨l,o,u⟩,hy,e⟩:=Option.map_eq_some_iff.1 (gens_f t h)
  simp only [Bool.and_eq_true,decide_eq_true_eq,beq_iff_eq] at e
  obtain ⟨⟨⟨e1,e2⟩,e3⟩,e4⟩:=e
  have hg:genF0 t=l:=by rw [genF0,hy];rfl
  have hok:okL l:=⟨List.all_eq_true.1 e2,by omega⟩
  rw [i_cloneName_eq hok KK_ge] at e4
  have e4:cmpS .eql (nameV l) t=true:=by
    simpa using e4
  rw [hg]
  exact ⟨by rw [hy,e1],hok,e3,(eql_iff _ _).1 e4⟩
theorem inNamed_true {f:DF} {t:ByteArray} (h:t ∈ allNames) (hf:isF 0 f=true) (e:nameV (genF0 t ++ [f])=t):i_IsInNamed KK (f,t,())=some (true,0,()):=by
  obtain ⟨h1,h2,h3,_⟩:=gensF_ok h
  have hlim:(1099511627776:Nat)=lim:=rfl
  simp only [i_IsInNamed,i_isInNamed,slices_Clone_impl_Func]
  rw [i_IsFunc_eq,some_bind',hf,ite_f (c:=!true) rfl,h1,some_bind',ite_f (c:=!true) rfl,if_pos (show (genF0 t).length<=lim by omega),some_bind',ite_t (decide_eq_true (by simp;omega)),i_cloneName_eq (okL_snoc h2 (by omega) hf) KK_ge,some_bind',e,(eql_iff t t).2 rfl];rfl
def rowC5 (f:DF):List Int:=(List.range 5).map fun k=>if pC k f=true then 1 else 0
theorem row5_l {n b:Nat} (hn:n<=4) (hb:b < 2 ^ 2 ^ n) (hK:4611686018427387904<=K) (kx:List Int->Option R):∀ (m i k:Nat),i + m=5->m < k →
    i_ClassRow_l5 K k (fN n b) ((List.range i).map fun k=>if pC k (fN n b)=true then 1 else 0) (i:Int) kx=kx (rowC5 (fN n b))
  | _,_,0,_,h=>by omega
  | 0,i,k + 1,e,_=>by
    obtain rfl:i=5:=by omega
    simp only [i_ClassRow_l5];rw [ite_f (by rfl)];rfl
  | m + 1,i,k + 1,e,hk=>by
    have ih:=row5_l hn hb hK kx m (i + 1) k (by omega) (by omega)
    rw [List.range_succ,List.map_append] at ih
    have hlim:(1099511627776:Nat)=lim:=rfl
    simp only [i_ClassRow_l5]
    rw [ite_t (decide_eq_true (by omega)),fN,i_isIn_eq hn hb (show i < 5 by omega) hK,some_bind',i_one_eq,some_bind',ite_t (decide_eq_true (by simp;omega)),w64s (by omega)]
    exact ih
theorem i_ClassRow_eq {n b:Nat} (hn:n<=4) (hb:b < 2 ^ 2 ^ n) (hK:4611686018427387904<=K):i_ClassRow K (fN n b,())=some (rowC5 (fN n b),0,()):=by
  simp only [i_ClassRow]
  rw [i_IsFunc_eq,some_bind',isF_nm hn hb,ite_f (c:=!true) rfl]
  exact row5_l (K:=K) hn hb hK (fun z5=>some (z5,0,())) 5 0 K (by omega) (by omega)
def clsL (l:List DF):List Int:=((List.range 5).filter fun k=>l.all (pC k)).map fun k=>((k:Nat):Int)
theorem cls_l {l:List DF} (h:okL l) (hK:4611686018427387904<=K) (kx:List Int->Option R):∀ (m i k:Nat),i + m=5->m < k →
    i_classesOf_l3 K k l (((List.range i).filter fun k=>l.all (pC k)).map fun k=>((k:Nat):Int)) (i:Int) kx=kx (clsL l)
  | _,_,0,_,h=>by omega
  | 0,i,k + 1,e,_=>by
    obtain rfl:i=5:=by omega
    simp only [i_classesOf_l3];rw [ite_f (by rfl)];rfl
  | m + 1,i,k + 1,e,hk=>by
    have ih:=cls_l h hK kx m (i + 1) k (by omega) (by omega)
    have hlen:(((List.range i).filter fun k=>l.all (pC k)).map fun k=>((k:Nat):Int)).length<=i:=by
      rw [List.length_map];exact Nat.le_trans (List.length_filter_le _ _) (by simp)
    have hlim:(1099511627776:Nat)=lim:=rfl
    simp only [i_classesOf_l3]
    rw [ite_t (decide_eq_true (by omega)),i_allIn_eq h hK (show i < 5 by omega),some_bind',w64s (by omega)]
    rw [List.range_succ,List.filter_append,List.map_append] at ih
    cases hp:l.all (pC i)
    · rw [ite_f rfl]
      rw [show List.filter (fun k=>l.all (pC k)) [i]=[] by simp [hp],List.map_nil,List.append_nil] at ih
      exact ih
    · rw [ite_t rfl,ite_t (decide_eq_true (by simp only [List.length_cons,List.length_nil];omega))]
      rw [show List.filter (fun k=>l.all (pC k)) [i]=[i] by simp [hp]] at ih
      exact ih
theorem i_ClassesOf_eq {l:List DF} (hc:codeV l=0) (hK:4611686018427387904<=K):i_ClassesOf K (l,())=some (clsL l,0,()):=by
  obtain ⟨h1,h2⟩:=okL_of_code hc
  simp only [i_ClassesOf,i_classesOf]
  rw [i_listCode_eq (by omega) hK,some_bind',hc,ite_f (by rfl)]
  have:=cls_l (K:=K) h1 hK (fun z3=>some z3) 5 0 K (by omega) (by omega)
  rw [show ((0:Nat):Int)=0 from rfl] at this
  refine (congrArg (fun o=>Option.bind o _) this).trans ?_
  rfl
theorem clsL_len (l:List DF):(clsL l).length<=5:=by
  rw [clsL,List.length_map];exact Nat.le_trans (List.length_filter_le _ _) (by simp)
/-- in the row of a function stand the classes of the list -/
theorem cls_row {fs:List (Nat × Nat)} {n:Nat} (hf:okFs fs) (hn:n<=4) {x:Nat} (hx:x ∈ knS (genD fs n)):∀ c ∈ clsL (fsN fs),∃ j:Nat,c=j/\j < (rowC5 (fN n x)).length/\(rowC5 (fN n x)).getD j 0=1:=by
  intro c hc
  obtain ⟨j,hj,rfl⟩:=List.mem_map.1 hc
  obtain ⟨h1,h2⟩:=List.mem_filter.1 hj
  have h5:=List.mem_range.1 h1
  have:=keptC hf hn j h2 x hx
  refine ⟨j,rfl,by simp [rowC5];omega,?_⟩
  simp [rowC5,List.getD,h5,this]
theorem isF_natD {n C:Nat} (h1:1<=n) (hn:n<=4) (hC:C < 2 ^ 2 ^ n):isF 1 ((n:Int),(C:Int),())=true:=by
  simp only [isF,Bool.and_eq_true,decide_eq_true_eq,Int.toNat_natCast]
  exact ⟨⟨⟨by omega,by omega⟩,by omega⟩,Int.ofNat_lt.2 hC⟩
theorem i_KeepsRelation_eq {n m x C:Nat} (hn:n<=4) (hx:x < 2 ^ 2 ^ n) (h1:1<=m) (hm:m<=4) (hC:C < 2 ^ 2 ^ m) (hK:4611686018427387904<=K):i_KeepsRelation K (fN n x,((m:Int),(C:Int),()),())=some (keepV x m C (relL C m) n [],0,()):=by
  have h16:=pp4 hn
  have h16':=pp4 hm
  simp only [i_KeepsRelation]
  rw [i_IsFunc_eq,some_bind',isF_nm hn hx,ite_f (c:=!true) rfl,i_IsRelation_eq,some_bind',isF_natD h1 hm hC,ite_f (c:=!true) rfl,fN,i_keeps_eq hm hn (by omega) (by omega) hK,some_bind']
theorem sgen_l6 {n N:Nat} {D:List Int} (hD:D.length=N) (hN:N<=65536) (kx:List DF->Option R):∀ (m i k:Nat),i + m=N->m < k →
    s_GeneratedBy_l6 K k (n:Int) D (fnsN n ((List.range i).filter fun i=>decide (0<=D.getD i 0))) (i:Int) kx=kx (fnsN n (knS D))
  | _,_,0,_,h=>by omega
  | 0,i,k + 1,e,_=>by
    obtain rfl:i=D.length:=by omega
    simp only [s_GeneratedBy_l6];rw [ite_f (decide_eq_false (by omega))];rfl
  | m + 1,i,k + 1,e,hk=>by
    have ih:=sgen_l6 (n:=n) hD hN kx m (i + 1) k (by omega) (by omega)
    have hlen:(fnsN n ((List.range i).filter fun i=>decide (0<=D.getD i 0))).length<=i:=by
      rw [fns_len];exact Nat.le_trans (List.length_filter_le _ _) (by simp)
    have hlim:(1099511627776:Nat)=lim:=rfl
    simp only [s_GeneratedBy_l6]
    rw [ite_t (decide_eq_true (by omega)),ite_t (bnds_n (by omega)),Int.toNat_natCast,w64s (by omega)]
    rw [List.range_succ,List.filter_append] at ih
    by_cases hp:0<=D.getD i 0
    · rw [ite_t (decide_eq_true hp),ite_t (decide_eq_true (by simp only [List.length_cons,List.length_nil];omega))]
      rw [show List.filter (fun i=>decide (0<=D.getD i 0)) [i]=[i] by simp only [List.filter_cons,decide_eq_true hp];rfl,<-fns_snoc] at ih
      exact ih
    · rw [ite_f (decide_eq_false hp)]
      rw [show List.filter (fun i=>decide (0<=D.getD i 0)) [i]=[] by simp only [List.filter_cons,decide_eq_false hp];rfl,List.append_nil] at ih
      exact ih
theorem s_GeneratedBy_ok {fs:List (Nat × Nat)} (hf:okFs fs) {n:Nat} (hn:n=2\/n=3) (h:codeG (fsN fs) (n:Int)=0):s_GeneratedBy KK (fsN fs,(n:Int),())=some (fnsN n (knS (genD fs n)),0,()):=by
  have hl:(fsN fs).length < 4611686018427387904:=by have:=hf.2;simp only [fsN,List.length_map];omega
  have hKK:(9223372036854775808:Nat)=KK:=rfl
  have h16:=pp4 (show n<=4 by omega)
  simp only [s_GeneratedBy]
  rw [s_l04Code_eq hl _ KK_ge,some_bind',h,ite_f (by rfl),s_l04Depths_eq hn hf,some_bind']
  exact sgen_l6 (K:=KK) (n:=n) (genD_len fs n) h16 (fun z6=>some (z6,0,())) (2 ^ 2 ^ n) 0 KK (by omega) (by omega)
theorem fns_mem {n i:Nat} {L:List Nat} (h:i < L.length):(fnsN n L).getD ((i:Nat):Int).toNat ((0:Int),(0:Int),())=fN n (L.getD i 0):=fns_get n L i h
theorem below_ok {s:DSrc} (n:Int) (h:okS s) (hn1:1<=n):Okf (w_dice_below K (s,n,())) (fun y=>okS y.2.1/\0<=y.1.1/\y.1.1 < n):=by
  obtain ⟨code,at',hash,u⟩:=s
  simp only [w_dice_below]
  refine Okf.ite (fun hn=>?_) (fun hn=>?_)
  · have hn:=of_decide_eq_true hn
    omega
  · have hn0:(!decide (n=0))=true:=by simp;omega
    obtain ⟨a1,a2⟩:=and_u64 (shrI .u64 (IntKind.u64.wrap ((IntKind.u64.wrap (hash * (6364136223846793005:Int))) + (1442695040888963407:Int))) (33:Int))
    have h0:0<=at':=h.at0
    have h1:at'<=code.length:=h.at1
    have hl:code.length<=4611686018427387904:=h.len
    have hb:∀ b ∈ code,0<=b/\b < 256:=h.bytes
    rw [w64 (x:=bitI .and .u64 _ 16777215) (by omega) (by omega)]
    refine Okf.ite (fun hc=>?_) (fun hc=>?_)
    · have hc:at' < code.length:=of_decide_eq_true hc
      have hm:code.getD at'.toNat 0 ∈ code:=by
        simp only [List.getD,List.getElem?_eq_getElem (show at'.toNat < code.length by omega)]
        simp
      obtain ⟨b1,b2⟩:=hb _ hm
      rw [ite_t (bnds_t h0 hc),ite_t hn0]
      rw [w64 (x:=code.getD at'.toNat 0) (by omega) (by omega),w64 (x:=bitI .and .u64 _ 16777215 + _) (by omega) (by omega),w64 (x:=at' + 1) (by omega) (by omega)]
      obtain ⟨t1,t2⟩:=tmod_ok (a:=bitI .and .u64 (shrI .u64 (IntKind.u64.wrap ((IntKind.u64.wrap (hash * (6364136223846793005:Int))) + (1442695040888963407:Int))) (33:Int)) 16777215 + code.getD at'.toNat 0) (n:=n) (by omega) (by omega)
      exact Okf.ret ⟨⟨hb,show 0<=at' + 1 by omega,show at' + 1<=code.length by omega,hl⟩,t1,t2⟩
    · rw [ite_t hn0]
      obtain ⟨t1,t2⟩:=tmod_ok (a:=bitI .and .u64 (shrI .u64 (IntKind.u64.wrap ((IntKind.u64.wrap (hash * (6364136223846793005:Int))) + (1442695040888963407:Int))) (33:Int)) 16777215) (n:=n) (by omega) (by omega)
      exact Okf.ret ⟨⟨hb,h0,h1,hl⟩,t1,t2⟩
theorem roll_l {code:List Int} (hc:code.length<=4096) (hb:∀ b ∈ code,0<=b/\b < 256) (Q:R->Prop) (kx:DSrc->Option R) (hk:∀ s,okS s->Okf (kx s) Q):∀ (m i k:Nat) (s:DSrc),i + m=code.length->m < k->okS s->Okf (w_roll_l3 K k code s (i:Int) kx) Q
  | _,_,0,_,_,h,_=>by omega
  | 0,i,k + 1,s,e,_,h=>by
    simp only [w_roll_l3]
    rw [ite_f (decide_eq_false (by omega))]
    exact hk s h
  | m + 1,i,k + 1,s,e,hm,h=>by
    simp only [w_roll_l3]
    rw [ite_t (decide_eq_true (by omega)),ite_t (bnds_n (by omega)),w64s (by omega)]
    exact roll_l hc hb Q kx hk m (i + 1) k _ (by omega) (by omega) ⟨h.bytes,h.at0,h.at1,h.len⟩
theorem roll_ok {code:List Int} (hc:code.length<=4096) (hb:∀ b ∈ code,0<=b/\b < 256) (n:Int) (hK:4611686018427387904<=K):Okf (w_roll K (code,n,())) (fun y=>okS y.1.1):=by
  simp only [w_roll]
  exact roll_l (K:=K) hc hb (fun y:(DSrc × Unit) × Unit=>okS y.1.1) (fun z4=>some ((z4,()),())) (fun s h=>Okf.ret h) code.length 0 K (code,0,_,()) (by omega) (by omega) ⟨hb,Int.le_refl _,by show (0:Int)<=(code.length:Int);omega,by show code.length<=_;omega⟩
def smallFs (fs:List (Nat × Nat)):Prop:=∀ f ∈ fs,f.1<=2/\f.2 < 2 ^ 2 ^ f.1
theorem top_l6 (Q:R->Prop) (kx:DSrc->List DF->Option R) (hk:∀ s fs,okS s->smallFs fs->fs.length<=3->Okf (kx s (fsN fs)) Q):∀ (m k:Nat) (s:DSrc) (fs:List (Nat × Nat)),okS s->smallFs fs->fs.length + m<=3->m < k->Okf (w_FnTop_l6 K k s (fsN fs) (m:Int) kx) Q
  | _,0,_,_,_,_,_,h=>by omega
  | 0,k + 1,s,fs,h,hf,hl,_=>by
    simp only [w_FnTop_l6]
    rw [ite_f (by rfl)]
    exact hk s fs h hf (by omega)
  | m + 1,k + 1,s,fs,h,hf,hl,hm=>by
    simp only [w_FnTop_l6]
    rw [ite_t (decide_eq_true (by omega))]
    refine Okf.bind (below_ok 3 h (by decide)) fun y hy=>?_
    obtain ⟨⟨a,_⟩,s2,_⟩:=y
    obtain ⟨h2,a1,a2⟩:=hy
    obtain ⟨n,rfl⟩:=Int.eq_ofNat_of_zero_le (show 0<=a from a1)
    have a2:(n:Int) < 3:=a2
    have hn:n<=2:=by omega
    have hp:2 ^ n<=4:=Nat.pow_le_pow_right (n:=2) (by decide) hn
    have e1:shlI .i64 (1:Int) (IntKind.u64.wrap ((n:Nat):Int))=((2 ^ n:Nat):Int):=by rw [u64n (by omega),shl1 (by omega)]
    have e2:shlI .i64 (1:Int) (IntKind.u64.wrap ((2 ^ n:Nat):Int))=((2 ^ 2 ^ n:Nat):Int):=by rw [u64n (by omega),shl1 (by omega)]
    show Okf (if decide ((0:Int)<=IntKind.u64.wrap ((n:Nat):Int))=true then _ else none) Q
    rw [ite_t (u64_dec _)]
    simp only [e1]
    rw [ite_t (u64_dec _),e2]
    have hpp:=Nat.two_pow_pos (2 ^ n)
    refine Okf.bind (below_ok ((2 ^ 2 ^ n:Nat):Int) h2 (by omega)) fun y hy=>?_
    obtain ⟨⟨b,_⟩,s3,_⟩:=y
    obtain ⟨h3,b1,b2⟩:=hy
    obtain ⟨c,rfl⟩:=Int.eq_ofNat_of_zero_le (show 0<=b from b1)
    have b2:((c:Nat):Int) < ((2 ^ 2 ^ n:Nat):Int):=b2
    have hlim:(1099511627776:Nat)=lim:=rfl
    rw [ite_t (decide_eq_true (by simp [fsN];omega))]
    have e3:fsN fs ++ [((((n:Nat):Int)),(((c:Nat):Int)),())]=fsN (fs ++ [(n,c)]):=by simp [fsN,fN]
    rw [w64 (by omega) (by omega),show ((m + 1:Nat):Int) - 1=(m:Int) by omega]
    show Okf (w_FnTop_l6 K k s3 (fsN fs ++ [((((n:Nat):Int)),(((c:Nat):Int)),())]) (m:Int) kx) Q
    rw [e3]
    exact top_l6 Q kx hk m k s3 (fs ++ [(n,c)]) h3 (fun f hff=>by
      rcases List.mem_append.1 hff with e | e
      · exact hf f e
      · rw [List.mem_singleton.1 e];exact ⟨hn,Int.ofNat_lt.1 b2⟩) (by simp;omega) (by omega)
theorem top_l30 {cls row:List Int} (hr:∀ c ∈ cls,∃ j:Nat,c=j/\j < row.length/\row.getD j 0=1) (hl:cls.length < 1000) (v7:List DF) (v11:ByteArray) (v18:DF) (v20:Int) (kx:List DF->ByteArray->List Int->DF->Int->Option R) (kr:Bool->Option R):∀ (r p:List Int) (k:Nat),cls=p ++ r->r.length < k →
    w_FnTop_l30 K k v7 v11 cls v18 v20 row (p.length:Int) kx kr=kx v7 v11 cls v18 v20
  | _,_,0,_,h=>by omega
  | [],p,k + 1,e,_=>by
    simp only [w_FnTop_l30]
    rw [ite_f (by rw [e];exact nlt_len)]
  | c :: r,p,k + 1,e,hk=>by
    have ih:=top_l30 hr hl v7 v11 v18 v20 kx kr r (p ++ [c]) k (by rw [e];simp) (by simp at hk;omega)
    obtain ⟨j,hj,h1,h2⟩:=hr c (mem_mid e)
    have hlen:cls.length=p.length + (r.length + 1):=by rw [e];simp
    have hg:cls.getD ((p.length:Nat):Int).toNat 0=((j:Nat):Int):=by rw [e,getD_midI,hj]
    simp only [w_FnTop_l30]
    rw [ite_t (by rw [e];exact lt_len),ite_t (by rw [e];exact bnds_mid),hg,ite_t (bnds_n h1),Int.toNat_natCast,h2,ite_f (by rfl),w64s (by omega),<-snoc_len p c,ih]
theorem top_l22 {n:Nat} {L:List Nat} {name:ByteArray} {q:DF} {cls:List Int} (hcl:cls.length<=5) (hL:L.length<=65536) (hin:∀ x ∈ L,i_IsInNamed KK (fN n x,name,())=some (true,0,()))
    (hrow:∀ x ∈ L,i_ClassRow KK (fN n x,())=some (rowC5 (fN n x),0,())/\∀ c ∈ cls,∃ j:Nat,c=j/\j < (rowC5 (fN n x)).length/\(rowC5 (fN n x)).getD j 0=1)
    (hkeep:∀ x ∈ L,i_KeepsRelation KK (fN n x,q,())=some (true,0,())) (kx:Option R) (kr:Bool->Option R):∀ (m i k:Nat),i + m=L.length->m + 100 < k →
    w_FnTop_l22 KK k (fnsN n L) name cls q (i:Int) kx kr=kx
  | _,_,0,_,h=>by omega
  | 0,i,k + 1,e,_=>by
    have hlen:=fns_len n L
    simp only [w_FnTop_l22]
    rw [ite_f (decide_eq_false (by omega))]
  | m + 1,i,k + 1,e,hk=>by
    have ih:=top_l22 hcl hL hin hrow hkeep kx kr m (i + 1) k (by omega) (by omega)
    have hlen:=fns_len n L
    have hx:=getD_mem (l:=L) (i:=i) (by omega)
    obtain ⟨h1,h2⟩:=hrow _ hx
    have hg:=fns_mem (n:=n) (i:=i) (L:=L) (by omega)
    have hb:bnds (i:Int) ((fnsN n L).length:Int)=true:=bnds_n (by omega)
    have hl:=top_l30 (K:=KK) (R:=R) h2 (by omega) (fnsN n L) name q (i:Int)
    simp only [w_FnTop_l22]
    rw [ite_t (decide_eq_true (by omega)),ite_t hb,hg,hin _ hx,some_bind',ite_t hb,hkeep _ hx,some_bind',ite_t hb,h1,some_bind',ite_f (by rfl),ite_f (by rfl),ite_f (by rfl),ite_f (by rfl),ite_f (by rfl)]
    simp only [w_FnTop_j29]
    refine (hl _ _ cls [] k rfl (by omega)).trans ?_
    rw [w64s (by omega)]
    exact ih
theorem codeV_small {fs:List (Nat × Nat)} (h:smallFs fs) (hl:fs.length<=3):codeV (fsN fs)=0/\okFs fs:=by
  have hf:okFs fs:=⟨fun f hff=>⟨by have:=(h f hff).1;omega,(h f hff).2⟩,by omega⟩
  have hok:=okL_fsN hf (by omega)
  refine ⟨?_,hf⟩
  unfold codeV
  rw [if_pos (List.all_eq_true.2 hok.1),if_neg (by simp [fsN];omega)]
theorem top_main {fs:List (Nat × Nat)} {s:DSrc} (hs:okS s) (h:smallFs fs) (hl:fs.length<=3) :
    Okf ((i_GeneratedBy KK (fsN fs,(2:Int),())).bind fun y12 =>
    (s_GeneratedBy KK (fsN fs,(2:Int),())).bind fun y13 =>
    (i_CloneName KK (fsN fs,())).bind fun y14 =>
    (s_CloneName KK (fsN fs,())).bind fun y15 =>
    (if (!decide (y12.2.1=y13.2.1))=true then
    some false
    else
    (w_funcs9 KK (y12.1,y13.1,())).bind fun y16 =>
    (if (!y16)=true then
    some false
    else
    (if (!decide (y12.2.1=(0:Int)))=true then
    some false
    else
    (if (!decide (y14.2.1=y15.2.1))=true then
    some false
    else
    (if (cmpS .neq y14.1 y15.1)=true then
    some false
    else
    (if (!decide (y14.2.1=(0:Int)))=true then
    some false
    else
    w_FnTop_j16 KK KK s (fsN fs) y12.1 y14.1 none (fun z39 =>
    some z39)))))))) (fun b=>b=true):=by
  obtain ⟨hv,hf⟩:=codeV_small h hl
  have hK:=KK_ge
  have hKK:(9223372036854775808:Nat)=KK:=rfl
  have hll:(fsN fs).length < 4611686018427387904:=by simp [fsN];omega
  have hg:codeG (fsN fs) ((2:Nat):Int)=0:=by
    unfold codeG
    rw [if_pos hv,if_pos ⟨by decide,by decide⟩,if_neg (fun h=>absurd h.1 (by decide))]
  have hn4:(2:Nat)<=4:=by decide
  have hkn:=knS_lt (D:=genD fs 2)
  rw [genD_len] at hkn
  have h16:=pp4 hn4
  have hfl:=fns_len 2 (knS (genD fs 2))
  have hok:=okL_fsN hf (by omega)
  have hname:=name_in hok
  have g1:=i_GeneratedBy_ok hf (n:=2) (Or.inl rfl) hg
  have g2:=s_GeneratedBy_ok hf (n:=2) (Or.inl rfl) hg
  rw [show ((2:Nat):Int)=2 from rfl] at g1 g2
  rw [g1,some_bind',g2,some_bind',i_CloneName_eq hll hK,some_bind',s_CloneName_eq hll hK,some_bind',if_pos hv,ite_f (by rfl),funcs9_self (l:=fnsN 2 (knS (genD fs 2))) (by omega) hK,some_bind',ite_f (by rfl),ite_f (by rfl),ite_f (by rfl),ite_f (neq_self _),ite_f (by rfl)]
  simp only [w_FnTop_j16]
  rw [i_ClassesOf_eq hv hK,some_bind']
  refine Okf.bind (below_ok 16 hs (by decide)) fun y hy=>?_
  obtain ⟨⟨b,_⟩,s3,_⟩:=y
  obtain ⟨h3,b1,b2⟩:=hy
  obtain ⟨t,rfl⟩:=Int.eq_ofNat_of_zero_le (show 0<=b from b1)
  have b2:((t:Nat):Int) < 16:=b2
  obtain ⟨q,q1,q2,q3⟩:=closure_both hll (((2:Nat):Int),((t:Nat):Int),())
  have hc:cR (fsN fs) (((2:Nat):Int),((t:Nat):Int),())=0:=by
    unfold cR
    rw [List.all_eq_true.2 hok.1,isF_natD (by decide) hn4 (show t < 2 ^ 2 ^ 2 by omega),if_pos (by rfl),if_neg (by simp [fsN];omega)]
  obtain ⟨p,C,rfl,p1,p2,p3,p4⟩:=q3 hc
  rw [hc] at q1
  have q1:i_ClosureOf KK (fsN fs,((2:Int),((t:Nat):Int),()),())=some (((p:Int),(C:Int),()),0,()):=q1
  show Okf ((i_ClosureOf KK (fsN fs,((2:Int),((t:Nat):Int),()),())).bind _) _
  rw [q1,some_bind',ite_f (by rfl),ite_f (by rfl)]
  simp only [w_FnTop_j21]
  refine ⟨true,top_l22 (clsL_len _) (by omega) (fun x hx=>?_) (fun x hx=>⟨i_ClassRow_eq hn4 (genD_lt hx) hK,cls_row hf hn4 hx⟩) (fun x hx=>?_) _ _ (knS (genD fs 2)).length 0 KK (by omega) (by omega),rfl⟩
  · obtain ⟨_,g2,_,g4⟩:=gensF_ok hname
    exact inNamed_true hname (isF_nm hn4 (genD_lt hx)) (name_kept hf (by omega) hn4 g2 g4.symm hx)
  · rw [i_KeepsRelation_eq hn4 (genD_lt hx) p1 p2 p3 hK,rel_kept hf p4 x hx]
theorem law_Top {code:List Int} (hb:∀ b ∈ code,0<=b/\b < 256):w_FnTop 9223372036854775808 (code,())=some true:=by
  have hKK:(9223372036854775808:Nat)=KK:=rfl
  have key:Okf (w_FnTop KK (code,())) (fun b=>b=true):=by
    simp only [w_FnTop,w_big,some_bind']
    by_cases hl:(code.length:Int) > 4096
    · rw [ite_t (decide_eq_true hl)];exact Okf.ret rfl
    · rw [ite_f (decide_eq_false hl)]
      refine Okf.bind (roll_ok (by omega) hb 9967 KK_ge) fun y hy=>?_
      refine Okf.bind (below_ok 3 hy (by decide)) fun y hy=>?_
      obtain ⟨⟨a,_⟩,s2,_⟩:=y
      obtain ⟨h2,a1,a2⟩:=hy
      obtain ⟨n,rfl⟩:=Int.eq_ofNat_of_zero_le (show 0<=a from a1)
      have a2:((n:Nat):Int) < 3:=a2
      have e:IntKind.i64.wrap ((1:Int) + ((n:Nat):Int))=((n + 1:Nat):Int):=by rw [w64 (by omega) (by omega)];omega
      show Okf (w_FnTop_l6 KK KK s2 (fsN []) (IntKind.i64.wrap ((1:Int) + ((n:Nat):Int))) _) _
      rw [e]
      exact top_l6 (K:=KK) _ _ (fun s fs hs h h3=>top_main hs h h3) (n + 1) KK s2 [] h2 (fun _ h=>by cases h) (by simp;omega) (by omega)
  obtain ⟨y,e,hy⟩:=key
  rw [hKK,e,hy]
end Go.Proofs.YtmlgfaojfmkdnaaGreatDoor.E
namespace Go.Proofs.YtmlgfaojfmkdnaaGreatDoor.E
open Go Go.Proofs
/-- FnTop, in plain numbers and lists: no condition but what is known of all data. -/
theorem PuFnTop (x:den as_w_FnTop) (h:okD as_w_FnTop x):∃ K,w_FnTop K x=some true:=by
  obtain ⟨code,u⟩:=x
  exact ⟨9223372036854775808,law_Top fun b hb=>by
    have h1:=bounds_u8 (h.1.2 b hb)
    exact ⟨h1.1,Int.lt_of_le_of_lt h1.2 (by decide)⟩⟩
end Go.Proofs.YtmlgfaojfmkdnaaGreatDoor.E
