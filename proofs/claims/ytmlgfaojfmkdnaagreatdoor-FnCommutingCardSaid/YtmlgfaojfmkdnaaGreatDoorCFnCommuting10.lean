/-
  Plain lemmas: what the functions hand back, and that the statement holds of it. Conditions: those of each theorem.
-/
import Derived.Test.YtmlgfaojfmkdnaaGreatDoorCFnCommuting9
namespace Go.Proofs.YtmlgfaojfmkdnaaGreatDoor.E
open Go Go.Proofs
set_option maxRecDepth 100000
set_option linter.unusedVariables false
set_option linter.unusedSimpArgs false
variable {K:Nat} {R:Type}
/-- a list of functions, in numbers -/
def fsN (fs:List (Nat × Nat)):List DF:=fs.map fun f=>fN f.1 f.2
def okFs (fs:List (Nat × Nat)):Prop:=(∀ f ∈ fs,f.1<=4/\f.2 < 2 ^ 2 ^ f.1)/\fs.length<=1000
theorem roundF_eq {n:Nat} (hn:n<=4) {fs:List (Nat × Nat)} (hf:okFs fs) {list:List DF} {kn:List Nat} (hkl:kn.length<=65536) (hkn:∀ x ∈ kn,x < 2 ^ 2 ^ n) {d:Int} (h0:0<=d) (h1:d < 1000000) (hK:4611686018427387904<=K) (s:GS) (hs:s.1.length=2 ^ 2 ^ n) :
    roundF K list (n:Int) (fnsN n kn) d (fsN fs) s=some (roundI fs n kn d s):=by
  unfold roundF fsN roundI
  refine foldF_map (I:=fun s=>s.1.length=2 ^ 2 ^ n) (fun s x h=>by rw [stepI_len];exact h) fs s (fun f hff s hs=>?_) hs
  have h2:=hf.1 f hff
  exact stepsF_eq hn h2.1 (Nat.lt_of_lt_of_le h2.2 (pp4 h2.1)) hkl hkn h0 h1 hK f.1 100 [] s (by simp) (by omega) (fun _ h=>by cases h) hs
theorem negs_le (D:List Int):negs D<=D.length:=List.countP_le_length
theorem knG_lt {D:List Int} {d:Int}:(knG D d).length<=D.length/\∀ x ∈ knG D d,x < D.length:=by
  refine ⟨Nat.le_trans (List.length_filter_le _ _) (by simp),fun x hx=>?_⟩
  exact List.mem_range.1 (List.mem_filter.1 hx).1
theorem roundI_len {fs:List (Nat × Nat)} {n:Nat} {kn:List Nat} {d:Int}:∀ (fs:List (Nat × Nat)) (s:GS),(roundI fs n kn d s).1.length=s.1.length
  | [],_=>rfl
  | f :: fs,s=>(roundI_len (fs:=fs) fs _).trans (stepI_len _ _ _)
theorem loopF_eq {n:Nat} (hn:n<=4) {fs:List (Nat × Nat)} (hf:okFs fs) (hK:4611686018427387904<=K):∀ (k:Nat) (d:Int) (D:List Int),GReady fs n d D->D.length=2 ^ 2 ^ n->negs D < k->d + negs D < 1000000->loopF K (fsN fs) (n:Int) k d D=some (genI fs n k d D)
  | 0,_,_,_,_,h,_=>by omega
  | k + 1,d,D,hr,hD,hk,hd=>by
    have h0:=hr.pos
    have h16:=pp4 hn
    have hk2:=knG_lt (D:=D) (d:=d)
    simp only [loopF]
    rw [if_pos ⟨by omega,by omega,by have:=hf.2;simp only [fsN,List.length_map];omega⟩,i_known_eq hn hD (by omega) (by omega) hK,Option.bind_some,
      roundF_eq hn hf (by omega) (fun x hx=>by rw [<-hD];exact hk2.2 x hx) (by omega) (by omega) hK _ hD,Option.bind_some,genI]
    by_cases hb:(roundI fs n (knG D d) d (D,false)).2=true
    · rw [if_pos hb,if_pos hb]
      rw [hr.round] at hb ⊢
      have hadv:=ground_adv (n:=n) (kn:=knS D) (show (0:Int)<=d by omega) fs (D,false)
      have hlt:negs (roundS fs n (knS D) d (D,false)).1 < negs D:=by
        rcases hadv with e | e
        · rw [e] at hb;cases hb
        · exact e.2
      have hl2:(roundS fs n (knS D) d (D,false)).1.length=2 ^ 2 ^ n:=by rw [<-hr.round,roundI_len (fs:=fs)];exact hD
      exact loopF_eq hn hf hK k (d + 1) _ hr.next hl2 (by omega) (by omega)
    · rw [if_neg hb,if_neg hb]
/-- the projections have the depth 0 -/
def initG (n:Nat):List Int:=(List.range n).foldl (fun D i=>D.set (projN n i) 0) (List.replicate (2 ^ 2 ^ n) (-1))
theorem initF_eq {n:Nat} (hn:n<=4) (hK:4611686018427387904<=K):∀ (m i k:Nat) (D:List Int),i + m=n->m < k->D.length=2 ^ 2 ^ n →
    initF K (n:Int) k (i:Int) D=some ((List.range' i m).foldl (fun D i=>D.set (projN n i) 0) D)
  | _,_,0,_,_,h,_=>by omega
  | 0,i,k + 1,D,h,_,_=>by
    simp only [initF];rw [if_neg (by omega)];rfl
  | m + 1,i,k + 1,D,h,hk,hD=>by
    have ih:=initF_eq hn hK m (i + 1) k (D.set (projN n i) 0) (by omega) (by omega) (by simpa using hD)
    have hp:=projN_lt n i
    simp only [initF]
    rw [if_pos (by omega),i_projection_eq hn hK,Option.bind_some]
    refine (if_pos ⟨by simp [fN],by simp only [fN];omega⟩).trans ?_
    rw [List.range'_succ,List.foldl_cons,<-ih];rfl
def KK:Nat:=9223372036854775808
theorem rep16:slices_Repeat_int64 KK ([(-1:Int)],(16:Int),())=some (List.replicate 16 (-1)):=by decide +kernel
theorem rep256:slices_Repeat_int64 KK ([(-1:Int)],(256:Int),())=some (List.replicate 256 (-1)):=by decide +kernel
theorem rep_eq {n:Nat} (hn:n=2\/n=3):slices_Repeat_int64 KK ([(-1:Int)],((2 ^ 2 ^ n:Nat):Int),())=some (List.replicate (2 ^ 2 ^ n) (-1)):=by
  rcases hn with rfl | rfl
  · exact rep16
  · exact rep256
theorem KK_ge:4611686018427387904<=KK:=by decide
/-- what a list generates, round by round -/
def genD (fs:List (Nat × Nat)) (n:Nat):List Int:=genS fs n KK 1 (initG n)
theorem initG_len (n:Nat):(initG n).length=2 ^ 2 ^ n:=by
  have:∀ (l:List Nat) (D:List Int),(l.foldl (fun D i=>D.set (projN n i) 0) D).length=D.length:=by
    intro l
    induction l with
    | nil=>intro D;rfl
    | cons y l ih=>intro D;rw [List.foldl_cons,ih];simp
  rw [initG,this];simp
theorem initG_mem (n x:Nat):(initG n).getD x 0<=0/\(x < 2 ^ 2 ^ n->0<=(initG n).getD x 0->∃ i,i < n/\x=projN n i):=by
  have key:∀ (l:List Nat) (D:List Int),(D.getD x 0<=0->(l.foldl (fun D i=>D.set (projN n i) 0) D).getD x 0<=0)/\(0<=(l.foldl (fun D i=>D.set (projN n i) 0) D).getD x 0->0<=D.getD x 0\/∃ i ∈ l,x=projN n i):=by
    intro l
    induction l with
    | nil=>intro D;exact ⟨fun h=>h,fun h=>Or.inl h⟩
    | cons y l ih =>
      intro D
      rw [List.foldl_cons]
      obtain ⟨h1,h2⟩:=ih (D.set (projN n y) 0)
      refine ⟨fun h=>h1 ?_,fun h=>?_⟩
      · rw [gget_set];split
        · exact Int.le_refl 0
        · exact h
      · rcases h2 h with e | ⟨i,hi,e⟩
        · rw [gget_set] at e
          split at e
          · rename_i hx;exact Or.inr ⟨y,List.mem_cons_self ..,hx.1⟩
          · exact Or.inl e
        · exact Or.inr ⟨i,List.mem_cons_of_mem _ hi,e⟩
  obtain ⟨h1,h2⟩:=key (List.range n) (List.replicate (2 ^ 2 ^ n) (-1))
  have h0:(List.replicate (2 ^ 2 ^ n) (-1:Int)).getD x 0=if x < 2 ^ 2 ^ n then -1 else 0:=by
    simp only [List.getD,List.getElem?_replicate]
    split <;> rfl
  refine ⟨h1 (by rw [h0];split <;> decide),fun hx h=>?_⟩
  rcases h2 h with e | ⟨i,hi,e⟩
  · rw [h0,if_pos hx] at e;exact absurd e (by decide)
  · exact ⟨i,List.mem_range.1 hi,e⟩
theorem initG_proj {n i:Nat} (hi:i < n):0<=(initG n).getD (projN n i) 0:=by
  have keep:∀ (l:List Nat) (D:List Int),0<=D.getD (projN n i) 0->0<=(l.foldl (fun D i=>D.set (projN n i) 0) D).getD (projN n i) 0:=by
    intro l
    induction l with
    | nil=>intro D h;exact h
    | cons y l ih =>
      intro D h
      rw [List.foldl_cons]
      refine ih _ ?_
      rw [gget_set];split
      · exact Int.le_refl 0
      · exact h
  have:∀ (l:List Nat) (D:List Int),i ∈ l->D.length=2 ^ 2 ^ n->0<=(l.foldl (fun D i=>D.set (projN n i) 0) D).getD (projN n i) 0:=by
    intro l
    induction l with
    | nil=>intro D h;cases h
    | cons y l ih =>
      intro D h hD
      rw [List.foldl_cons]
      rcases List.mem_cons.1 h with e | e
      · subst e
        refine keep l _ ?_
        rw [gget_set,if_pos ⟨rfl,by rw [hD];exact projN_lt _ _⟩];exact Int.le_refl 0
      · exact ih _ e (by simpa using hD)
  exact this (List.range n) _ (List.mem_range.2 hi) (by simp)
theorem initG_ready (fs:List (Nat × Nat)) (n:Nat):GReady fs n 1 (initG n):=⟨by decide,fun i=>by have:=(initG_mem n i).1;omega,fun _ _=>Or.inl rfl⟩
theorem initG_negs {n:Nat} (hn:n<=4):negs (initG n)<=65536:=by
  have:=negs_le (initG n)
  rw [initG_len] at this
  exact Nat.le_trans this (pp4 hn)
theorem genF_eq {n:Nat} (hn:n=2\/n=3) {fs:List (Nat × Nat)} (hf:okFs fs):genF KK (fsN fs) (n:Int)=some (genD fs n):=by
  have hn4:n<=4:=by omega
  have hl:(fsN fs).length < 1000000:=by have:=hf.2;simp only [fsN,List.length_map];omega
  have h16:=Nat.two_pow_pos (2 ^ n)
  unfold genF
  rw [if_pos ⟨by omega,by omega,hl⟩,i_funcsOf_eq hn4,Option.bind_some,rep_eq hn,Option.bind_some,if_neg (by simp only [List.length_replicate];omega)]
  have hi:=initF_eq (K:=KK) hn4 KK_ge n 0 1000 (List.replicate (2 ^ 2 ^ n) (-1)) (by omega) (by omega) (by simp)
  rw [show ((0:Nat):Int)=0 from rfl,<-List.range_eq_range'] at hi
  rw [hi,Option.bind_some]
  have hg:=initG_negs hn4
  have hlp:=loopF_eq hn4 hf KK_ge KK 1 (initG n) (initG_ready fs n) (initG_len n) (by have:(9223372036854775808:Nat)=KK:=rfl;omega) (by omega)
  rw [show (List.range n).foldl (fun D i=>D.set (projN n i) 0) (List.replicate (2 ^ 2 ^ n) (-1))=initG n from rfl,hlp,gen_eq KK 1 (initG n) (initG_ready fs n)];rfl
/-- the code of a list and an arity -/
def codeG (l:List DF) (n:Int):Int:=if codeV l=0 then (if 2<=n/\n<=3 then (if n=3/\(l.any fun f=>decide (f.1 > 2))=true then 2 else 0) else 2) else codeV l
theorem anyL1 {x:List DF} {f:List DF × Unit->Option Bool} {b:Bool} (hK:10<=K) (hf:f (x,())=some b):slices_ContainsFunc_L_impl_Func K ([x],f,())=some b:=by
  obtain ⟨k,rfl⟩:∃ k,K=k + 2:=⟨K - 2,by omega⟩
  simp only [slices_ContainsFunc_L_impl_Func,slices_IndexFunc_L_impl_Func,slices_IndexFunc_L_impl_Func_l2]
  rw [ite_t (by rfl),ite_t (by rfl),show ([x]:List (List DF)).getD (0:Int).toNat []=x from rfl,hf,some_bind']
  cases b
  · rw [ite_f rfl,ite_f (by rfl)];rfl
  · rw [ite_t rfl];rfl
theorem i_generationCode_eq {l:List DF} (hl:l.length < 4611686018427387904) (n:Int) (hK:4611686018427387904<=K):i_generationCode K (n,[l],())=some (codeG l n):=by
  have hc:i_generationCode_c1 K (l,())=some (!(l.all (isF 0))):=by simp only [i_generationCode_c1];rw [i_areFuncs_eq hl hK,some_bind']
  have hc2:slices_ContainsFunc_impl_Func K (l,(fun y6=>i_generationCode_c2 K (y6.1,())),())=some (l.any fun f=>decide (f.1 > 2)):=slices_ContainsFunc_impl_Func_eq _ _ hl hK fun x _=>by simp only [i_generationCode_c2]
  simp only [i_generationCode]
  rw [anyL1 (by omega) hc,some_bind',codeG,codeV]
  cases hall:l.all (isF 0)
  · rw [ite_t (c:=!false) rfl];rfl
  · rw [ite_f (c:=!true) rfl,i_within_eq,some_bind',if_pos rfl]
    by_cases hn:2<=n/\n<=3
    · rw [decide_eq_true hn.1,decide_eq_true hn.2,ite_f (by rfl),if_pos hn]
      obtain ⟨k,rfl⟩:∃ k,K=k + 2:=⟨K - 2,by omega⟩
      simp only [i_generationCode_l6]
      rw [ite_t (by rfl),ite_t (by rfl),show ([l]:List (List DF)).getD (0:Int).toNat []=l from rfl]
      by_cases h8:8 < l.length
      · rw [ite_t (decide_eq_true (by omega)),if_pos h8];rfl
      · rw [ite_f (decide_eq_false (by omega)),if_neg h8,if_pos rfl]
        by_cases h3:n=3
        · rw [ite_t (decide_eq_true h3),hc2,some_bind']
          cases ha:l.any fun f=>decide (f.1 > 2)
          · rw [ite_f rfl,ite_f (by rfl),if_neg (by simp)]
          · rw [ite_t rfl,if_pos ⟨h3,rfl⟩]
        · rw [ite_f (decide_eq_false h3),ite_f (by rfl),if_neg (fun h=>h3 h.1)]
    · rw [ite_t (by
        by_cases h2:2<=n
        · rw [decide_eq_true h2,decide_eq_false (fun h=>hn ⟨h2,h⟩)];rfl
        · rw [decide_eq_false h2];rfl),if_neg hn]
      by_cases h8:8 < l.length
      · rw [if_pos h8];rfl
      · rw [if_neg h8];rfl
theorem fs_of {l:List DF} (h:codeV l=0):∃ fs,l=fsN fs/\okFs fs/\fs.length<=8:=by
  obtain ⟨h1,h2⟩:=okL_of_code h
  refine ⟨l.map fun f=>(f.1.toNat,f.2.1.toNat),?_,⟨fun f hf=>?_,by simp;omega⟩,by simpa using h2⟩
  · unfold fsN
    rw [List.map_map]
    have:∀ f ∈ l,((fun f:Nat × Nat=>fN f.1 f.2) ∘ fun f:DF=>(f.1.toNat,f.2.1.toNat)) f=f:=fun f hf=>by
      obtain ⟨n,b,rfl,_,_⟩:=h1.nat hf
      rfl
    exact (List.map_congr_left this).trans (List.map_id' l) |>.symm
  · obtain ⟨g,hg,rfl⟩:=List.mem_map.1 hf
    obtain ⟨n,b,rfl,hn,hb⟩:=h1.nat hg
    exact ⟨hn,hb⟩
/-- GeneratedBy, in numbers -/
theorem i_GeneratedBy_bad {l:List DF} (hl:l.length < 4611686018427387904) {n:Int} (h:codeG l n ≠ 0):i_GeneratedBy KK (l,n,())=some ([],codeG l n,()):=by
  simp only [i_GeneratedBy,genByF]
  rw [i_generationCode_eq hl n KK_ge,Option.bind_some,if_neg h]
theorem i_GeneratedBy_ok {fs:List (Nat × Nat)} (hf:okFs fs) {n:Nat} (hn:n=2\/n=3) (h:codeG (fsN fs) (n:Int)=0):i_GeneratedBy KK (fsN fs,(n:Int),())=some (fnsN n (knS (genD fs n)),0,()):=by
  have hl:(fsN fs).length < 4611686018427387904:=by have:=hf.2;simp only [fsN,List.length_map];omega
  simp only [i_GeneratedBy,genByF]
  rw [i_generationCode_eq hl n KK_ge,Option.bind_some,h,if_pos rfl,genF_eq hn hf,Option.bind_some,i_all_eq (by omega) (by rw [genD,genS_len,initG_len]) KK_ge,Option.bind_some]
theorem up_getI (l:List Nat) (i:Nat):(up l).getD (i:Int).toNat (0:Int)=((l.getD i 0:Nat):Int):=by
  rw [Int.toNat_natCast]
  simp only [up,List.getD,List.getElem?_map]
  cases l[i]? <;> rfl
theorem up_snoc (l:List Nat) (x:Nat):up l ++ [((x:Nat):Int)]=up (l ++ [x]):=by simp [up]
theorem sput_l7 {n a b r:Nat} (l:List Nat) (hl:l.length<=4) (hx:∀ x ∈ l,x < 65536) (hr:r < 100) (v2 v7:Int) (v3:DF) (kx:List Int->Int->DF->Int->Int->Int->Option R):∀ (m i k:Nat),i + m=l.length->m < k →
    s_l04Put_l7 K k (up l) v2 v3 v7 (r:Int) ((mkB (fun i=>(l.getD i 0).testBit r) i:Nat):Int) (i:Int) kx=kx (up l) v2 v3 v7 (r:Int) ((packN l r:Nat):Int)
  | _,_,0,_,h=>by omega
  | 0,i,k + 1,e,_=>by
    obtain rfl:i=l.length:=by omega
    simp only [s_l04Put_l7,up_len];rw [ite_f (decide_eq_false (by omega))];rfl
  | m + 1,i,k + 1,e,hk=>by
    have ih:=sput_l7 (n:=n) (a:=a) (b:=b) (r:=r) l hl hx hr v2 v7 v3 kx m (i + 1) k (by omega) (by omega)
    rw [mkB_succ] at ih
    have hx1:=getD_all (by decide) hx i
    simp only [s_l04Put_l7,up_len]
    rw [ite_t (decide_eq_true (by omega)),ite_t (bnds_n (by omega)),ite_t (u64_dec _),ite_t (u64_dec _),u64n (by omega),u64n (by omega),up_getI,bitI_bt r (by omega),shl_bt (by omega),or_dg (mkB_lt _ _) (by omega),w64s (by omega),ih]
theorem sput_l3 {n a b:Nat} (hn:n<=4) (hb:b < 65536) (l:List Nat) (hl:l.length<=4) (hx:∀ x ∈ l,x < 65536) (kx:Int->Option R):∀ (m r k:Nat),r + m=2 ^ n->m + 100 < k →
    s_l04Put_l3 K k (up l) (n:Int) (fN a b) ((mkB (fun r=>b.testBit (packN l r)) r:Nat):Int) (r:Int) kx=kx ((putN b n l:Nat):Int)
  | _,_,0,_,h=>by omega
  | 0,r,k + 1,e,_=>by
    obtain rfl:r=2 ^ n:=by omega
    simp only [s_l04Put_l3];rw [s_l01Rows_eq (by omega),some_bind',ite_f (decide_eq_false (by omega))];rfl
  | m + 1,r,k + 1,e,hk=>by
    have hp:2 ^ n<=16:=Nat.pow_le_pow_right (by decide) hn
    have ih:=sput_l3 (a:=a) hn hb l hl hx kx m (r + 1) k (by omega) (by omega)
    rw [mkB_succ] at ih
    have h16:packN l r < 16:=Nat.lt_of_lt_of_le (packN_lt l r) (Nat.pow_le_pow_right (by decide) hl)
    simp only [s_l04Put_l3]
    rw [s_l01Rows_eq (by omega),some_bind',ite_t (decide_eq_true (by omega))]
    refine (sput_l7 (K:=K) (n:=n) (a:=a) (b:=b) (r:=r) l hl hx (by omega) _ _ _ _ l.length 0 k (by omega) (by omega)).trans ?_
    rw [fN,s_l01At_eq (by omega) (by omega),some_bind',ite_t (u64_dec _),u64n (by omega),shl_bt (by omega),or_dg (mkB_lt _ _) (by omega),w64s (by omega)]
    exact ih
theorem s_l04Put_eq {a b n:Nat} (hb:b < 65536) (hn:n<=4) (l:List Nat) (hl:l.length<=4) (hx:∀ x ∈ l,x < 65536) (hK:1000<=K):s_l04Put K (fN a b,up l,(n:Int),())=some ((putN b n l:Nat):Int):=by
  have hp:2 ^ n<=16:=Nat.pow_le_pow_right (by decide) hn
  simp only [s_l04Put]
  exact sput_l3 (K:=K) (a:=a) hn hb l hl hx (fun z11=>some z11) (2 ^ n) 0 K (by omega) (by omega)
theorem stepS_flag {b n:Nat} {kn:List Nat} {d:Int}:∀ (m:Nat) (l:List Nat) (D:List Int) (c:Bool),stepS b n kn d m l (D,c)=((stepS b n kn d m l (D,false)).1,c || (stepS b n kn d m l (D,false)).2)
  | 0,l,D,c=>by
    simp only [stepS,hitG]
    split
    · simp
    · simp
  | m + 1,l,D,c=>by
    have key:∀ (q:List Nat) (D:List Int) (c:Bool),q.foldl (fun s h=>stepS b n kn d m (l ++ [h]) s) (D,c)=((q.foldl (fun s h=>stepS b n kn d m (l ++ [h]) s) (D,false)).1,c || (q.foldl (fun s h=>stepS b n kn d m (l ++ [h]) s) (D,false)).2):=by
      intro q
      induction q with
      | nil=>intro D c;simp
      | cons y q ih =>
        intro D c
        rw [List.foldl_cons,List.foldl_cons,stepS_flag m _ D c,ih,ih (stepS b n kn d m (l ++ [y]) (D,false)).1 (stepS b n kn d m (l ++ [y]) (D,false)).2,Bool.or_assoc]
    exact key kn D c
theorem stepS_len {b n:Nat} {kn:List Nat} {d:Int}:∀ (m:Nat) (l:List Nat) (s:GS),(stepS b n kn d m l s).1.length=s.1.length
  | 0,l,s=>ghit_len
  | m + 1,l,s=>by
    have:∀ (q:List Nat) (s:GS),(q.foldl (fun s h=>stepS b n kn d m (l ++ [h]) s) s).1.length=s.1.length:=by
      intro q
      induction q with
      | nil=>intro s;rfl
      | cons y q ih=>intro s;rw [List.foldl_cons,ih];exact stepS_len m _ _
    exact this kn s
abbrev RRes:=Bool × (List Int × List Int × List Int × Unit)
theorem sround_l9 {n a b m:Nat} {kn l:List Nat} {d:Int} (hkl:kn.length<=65536) (hl:l.length<=10) (r:(DF × List Int × List Int × List Int × Int × Int × Unit)->Option RRes)
    (hr:∀ x ∈ kn,∀ D:List Int,D.length=2 ^ 2 ^ n->r (fN a b,D,up kn,up (l ++ [x]),(n:Int),d,())=some ((stepS b n kn d m (l ++ [x]) (D,false)).2,((stepS b n kn d m (l ++ [x]) (D,false)).1,up kn,up (l ++ [x]),())))
    (kx:List Int->List Int->List Int->Bool->Option R):∀ (q p:List Nat) (k:Nat) (s:GS),kn=p ++ q->q.length < k->s.1.length=2 ^ 2 ^ n →
    s_l04Round_l9 K r k s.1 (up kn) (up l) (n:Int) d (fN a b) s.2 (p.length:Int) kx=kx (q.foldl (fun s h=>stepS b n kn d m (l ++ [h]) s) s).1 (up kn) (up l) (q.foldl (fun s h=>stepS b n kn d m (l ++ [h]) s) s).2
  | _,_,0,_,_,h,_=>by omega
  | [],p,k + 1,s,e,_,_=>by
    rw [List.append_nil] at e
    simp only [s_l04Round_l9,up_len];rw [ite_f (decide_eq_false (by rw [e];omega))];rfl
  | y :: q,p,k + 1,s,e,hk,hs=>by
    obtain ⟨D,c⟩:=s
    have hlen:kn.length=p.length + (q.length + 1):=by rw [e];simp
    have hy:kn.getD p.length 0=y:=by rw [e];simp [List.getD]
    have hm:y ∈ kn:=by rw [e];simp
    have hlim:(1099511627776:Nat)=lim:=rfl
    have ih:=sround_l9 (kn:=kn) (l:=l) hkl hl r hr kx q (p ++ [y]) k (stepS b n kn d m (l ++ [y]) (D,c)) (by rw [e];simp) (by simp at hk;omega) (by rw [stepS_len];exact hs)
    rw [snoc_len] at ih
    have hr1:=hr y hm D hs
    simp only [s_l04Round_l9,up_len,s_l01Own]
    rw [ite_t (decide_eq_true (by omega)),ite_t (decide_eq_true (by simp only [List.length_nil];omega)),List.nil_append,some_bind',ite_t (bnds_n (by omega)),up_getI,hy,ite_t (decide_eq_true (by simp only [List.length_cons,List.length_nil,up_len];omega)),up_snoc,hr1,some_bind',w64s (by omega),List.foldl_cons,<-ih,stepS_flag m (l ++ [y]) D c]
    cases (stepS b n kn d m (l ++ [y]) (D,false)).2
    · rw [ite_f rfl,Bool.or_false]
    · rw [ite_t rfl,Bool.or_true]
theorem s_l04Round_eq {n a b:Nat} (hn:n<=4) (ha:a<=4) (hb:b < 65536) {kn:List Nat} (hkl:kn.length<=65536) (hkn:∀ x ∈ kn,x < 2 ^ 2 ^ n) {d:Int} (hK:4611686018427387904<=K):∀ (m k:Nat) (l:List Nat) (D:List Int),l.length + m=a->m < k->(∀ x ∈ l,x < 2 ^ 2 ^ n)->D.length=2 ^ 2 ^ n →
    s_l04Round K k (fN a b,D,up kn,up l,(n:Int),d,())=some ((stepS b n kn d m l (D,false)).2,((stepS b n kn d m l (D,false)).1,up kn,up l,()))
  | _,0,_,_,_,h,_,_=>by omega
  | 0,k + 1,l,D,hl,_,hx,hD=>by
    have h16:=pp4 hn
    have hp:=putN_lt b n l
    simp only [s_l04Round,s_l04Round_b,up_len]
    refine (ite_t (decide_eq_true (show (l.length:Int)=(a:Int) by omega))).trans ?_
    rw [s_l04Put_eq hb hn l (by omega) (fun x h=>Nat.lt_of_lt_of_le (hx x h) h16) (by omega),some_bind',ite_t (bnds_n (by omega)),Int.toNat_natCast,stepS,hitG]
    by_cases h0:D.getD (putN b n l) 0 < 0
    · rw [ite_f (decide_eq_false (by omega)),ite_t (bnds_n (by omega)),if_pos h0]
    · rw [ite_t (decide_eq_true (by omega)),if_neg h0]
  | m + 1,k + 1,l,D,hl,hk,hx,hD=>by
    have ih:=s_l04Round_eq hn ha hb hkl hkn (d:=d) hK m k
    simp only [s_l04Round,s_l04Round_b,up_len]
    refine (ite_f (decide_eq_false (show ¬ (l.length:Int)=(a:Int) by omega))).trans ?_
    refine (sround_l9 (K:=K) (m:=m) hkl (by omega) (s_l04Round K k) (fun x hxk D hD=>ih (l ++ [x]) D (by simp;omega) (by omega) (fun y hy=>by
      rcases List.mem_append.1 hy with e | e
      · exact hx y e
      · rw [List.mem_singleton.1 e];exact hkn x hxk) hD) _ kn [] K (D,false) rfl (by omega) hD).trans ?_
    rfl
theorem sdep_l3 {n:Nat} (hn:n<=4) (v0:List DF) (kx:List DF->Int->List Int->Option R):∀ (m i k:Nat),i + m=2 ^ 2 ^ n->m < k →
    s_l04Depths_l3 K k v0 (n:Int) (List.replicate i (-1)) (i:Int) kx=kx v0 (n:Int) (List.replicate (2 ^ 2 ^ n) (-1))
  | _,_,0,_,h=>by omega
  | 0,i,k + 1,e,_=>by
    obtain rfl:i=2 ^ 2 ^ n:=by omega
    simp only [s_l04Depths_l3];rw [s_l01All_eq hn,some_bind',ite_f (decide_eq_false (by omega))]
  | m + 1,i,k + 1,e,hk=>by
    have h16:=pp4 hn
    have hlim:(1099511627776:Nat)=lim:=rfl
    have ih:=sdep_l3 hn v0 kx m (i + 1) k (by omega) (by omega)
    simp only [s_l04Depths_l3]
    rw [s_l01All_eq hn,some_bind',ite_t (decide_eq_true (by omega)),ite_t (decide_eq_true (by simp only [List.length_replicate,List.length_cons,List.length_nil];omega)),w64s (by omega),<-ih,List.replicate_succ']
theorem sproj_eq {n i:Nat} (hn:n=2\/n=3) (hi:i < n):s_l01Projection KK ((n:Int),(i:Int),())=some (fN n (projN n i)):=by
  have:(n=2/\(i=0\/i=1))\/(n=3/\(i=0\/i=1\/i=2)):=by omega
  rcases this with ⟨rfl,rfl | rfl⟩ | ⟨rfl,rfl | rfl | rfl⟩ <;> decide +kernel
theorem sdep_l7 {n:Nat} (hn:n=2\/n=3) (v0:List DF) (kx:List DF->Int->List Int->Option R):∀ (m i k:Nat) (D:List Int),i + m=n->m < k->D.length=2 ^ 2 ^ n →
    s_l04Depths_l7 KK k v0 (n:Int) D (i:Int) kx=kx v0 (n:Int) ((List.range' i m).foldl (fun D i=>D.set (projN n i) 0) D)
  | _,_,0,_,_,h,_=>by omega
  | 0,i,k + 1,D,e,_,_=>by
    simp only [s_l04Depths_l7];rw [ite_f (decide_eq_false (by omega))];rfl
  | m + 1,i,k + 1,D,e,hk,hD=>by
    have ih:=sdep_l7 hn v0 kx m (i + 1) k (D.set (projN n i) 0) (by omega) (by omega) (by simpa using hD)
    have hp:=projN_lt n i
    simp only [s_l04Depths_l7]
    rw [ite_t (decide_eq_true (by omega)),sproj_eq hn (by omega),some_bind']
    refine (ite_t (bnds_n (show projN n i < D.length by omega))).trans ?_
    rw [w64s (by omega),List.range'_succ,List.foldl_cons,<-ih];rfl
theorem sdep_l17 {n:Nat} (hn:n<=4) (v0:List DF) {D:List Int} (hD:D.length=2 ^ 2 ^ n) (v8:Bool) (v9:Int) (kx:List DF->Int->List Int->Bool->Int->List Int->Option R):∀ (m i k:Nat),i + m=2 ^ 2 ^ n->m < k →
    s_l04Depths_l17 K k v0 (n:Int) D v8 v9 (up ((List.range i).filter fun i=>decide (0<=D.getD i 0))) (i:Int) kx=kx v0 (n:Int) D v8 v9 (up (knS D))
  | _,_,0,_,h=>by omega
  | 0,i,k + 1,e,_=>by
    obtain rfl:i=2 ^ 2 ^ n:=by omega
    simp only [s_l04Depths_l17];rw [s_l01All_eq hn,some_bind',ite_f (decide_eq_false (by omega)),knS,hD]
  | m + 1,i,k + 1,e,hk=>by
    have h16:=pp4 hn
    have hlim:(1099511627776:Nat)=lim:=rfl
    have ih:=sdep_l17 hn v0 hD v8 v9 kx m (i + 1) k (by omega) (by omega)
    have hlen:(up ((List.range i).filter fun i=>decide (0<=D.getD i 0))).length<=i:=by
      rw [up_len];exact Nat.le_trans (List.length_filter_le _ _) (by simp)
    rw [List.range_succ,List.filter_append] at ih
    simp only [s_l04Depths_l17]
    rw [s_l01All_eq hn,some_bind',ite_t (decide_eq_true (by omega)),ite_t (bnds_n (by omega)),Int.toNat_natCast,w64s (by omega)]
    by_cases h0:0<=D.getD i 0
    · rw [ite_t (decide_eq_true h0),ite_t (decide_eq_true (by simp only [List.length_cons,List.length_nil];omega))]
      rw [show List.filter (fun i=>decide (0<=D.getD i 0)) [i]=[i] by rw [List.filter_cons_of_pos (by simpa using h0)];rfl,<-up_snoc] at ih
      exact ih
    · rw [ite_f (decide_eq_false h0)]
      rw [show List.filter (fun i=>decide (0<=D.getD i 0)) [i]=[] by rw [List.filter_cons_of_neg (by simpa using h0)];rfl,List.append_nil] at ih
      exact ih
theorem sdep_l22 {n:Nat} (hn:n<=4) {fs:List (Nat × Nat)} (hf:okFs fs) {kn:List Nat} (hkl:kn.length<=65536) (hkn:∀ x ∈ kn,x < 2 ^ 2 ^ n) {d:Int} (hK:4611686018427387904<=K) (kx:List DF->Int->List Int->Bool->Int->Option R):∀ (q p:List (Nat × Nat)) (k:Nat) (s:GS),fs=p ++ q->q.length < k->s.1.length=2 ^ 2 ^ n →
    s_l04Depths_l22 K k (fsN fs) (n:Int) s.1 s.2 d (up kn) (p.length:Int) kx=kx (fsN fs) (n:Int) (roundS q n kn d s).1 (roundS q n kn d s).2 d
  | _,_,0,_,_,h,_=>by omega
  | [],p,k + 1,s,e,_,_=>by
    rw [List.append_nil] at e
    simp only [s_l04Depths_l22];rw [ite_f (decide_eq_false (by rw [e];simp [fsN]))];rfl
  | f :: q,p,k + 1,s,e,hk,hs=>by
    obtain ⟨D,c⟩:=s
    have hfl:=hf.2
    have hlen:(fsN fs).length=p.length + (q.length + 1):=by rw [e];simp [fsN]
    have hlen2:fs.length=p.length + (q.length + 1):=by rw [e];simp
    have hy:(fsN fs).getD p.length ((0:Int),(0:Int),())=fN f.1 f.2:=by rw [e];simp [fsN,List.getD]
    have hff:=hf.1 f (by rw [e];simp)
    have ih:=sdep_l22 (d:=d) hn hf hkl hkn hK kx q (p ++ [f]) k (stepS f.2 n kn d f.1 [] (D,c)) (by rw [e];simp) (by simp at hk;omega) (by rw [stepS_len];exact hs)
    rw [snoc_len] at ih
    have hr:=s_l04Round_eq (K:=K) (d:=d) hn hff.1 (Nat.lt_of_lt_of_le hff.2 (pp4 hff.1)) hkl hkn hK f.1 K [] D (by simp) (by omega) (fun _ h=>by cases h) hs
    simp only [s_l04Depths_l22]
    rw [ite_t (decide_eq_true (by omega)),ite_t (bnds_n (by omega)),Int.toNat_natCast,hy]
    rw [show ([]:List Int)=up [] from rfl,hr,some_bind',w64s (by omega)]
    rw [show roundS (f :: q) n kn d (D,c)=roundS q n kn d (stepS f.2 n kn d f.1 [] (D,c)) from rfl,<-ih,stepS_flag f.1 [] D c]
    cases (stepS f.2 n kn d f.1 [] (D,false)).2
    · rw [ite_f rfl,Bool.or_false]
    · rw [ite_t rfl,Bool.or_true]
theorem knS_lt {D:List Int}:(knS D).length<=D.length/\∀ x ∈ knS D,x < D.length:=by
  refine ⟨Nat.le_trans (List.length_filter_le _ _) (by simp),fun x hx=>?_⟩
  exact List.mem_range.1 (List.mem_filter.1 hx).1
theorem roundS_len {n:Nat} {kn:List Nat} {d:Int}:∀ (fs:List (Nat × Nat)) (s:GS),(roundS fs n kn d s).1.length=s.1.length
  | [],_=>rfl
  | f :: fs,s=>(roundS_len fs _).trans (stepS_len _ _ _)
theorem sdep_l12 {n:Nat} (hn:n<=4) {fs:List (Nat × Nat)} (hf:okFs fs) (hK:4611686018427387904<=K) (kx:List Int->Option R):∀ (c k:Nat) (d:Int) (D:List Int),0<=d->d + c < 1000000->D.length=2 ^ 2 ^ n->negs D<=c->c + 100000 < k →
    s_l04Depths_l12 K k (fsN fs) (n:Int) D true d kx=kx (genS fs n (c + 1) d D)
  | _,0,_,_,_,_,_,_,h=>by omega
  | c,k + 1,d,D,h0,hd,hD,hc,hk=>by
    have h16:=pp4 hn
    have hfl:=hf.2
    have hk2:=knS_lt (D:=D)
    rw [s_l04Depths_l12,if_pos rfl]
    rw [show ([]:List Int)=up ((List.range 0).filter fun i=>decide (0<=D.getD i 0)) from rfl]
    refine (sdep_l17 (K:=K) hn (fsN fs) hD false d _ (2 ^ 2 ^ n) 0 k (by omega) (by omega)).trans ?_
    refine (sdep_l22 (K:=K) hn hf (by omega) (fun x hx=>by rw [<-hD];exact hk2.2 x hx) hK _ fs [] k (D,false) rfl (by omega) hD).trans ?_
    rw [genS,w64 (by omega) (by omega)]
    have hadv:=ground_adv (n:=n) (kn:=knS D) h0 fs (D,false)
    cases hb:(roundS fs n (knS D) d (D,false)).2
    · obtain ⟨k',rfl⟩:∃ k',k=k' + 1:=⟨k - 1,by omega⟩
      rw [s_l04Depths_l12,if_neg (by decide),if_neg (by decide)]
    · have hlt:negs (roundS fs n (knS D) d (D,false)).1 < negs D:=by
        rcases hadv with e | e
        · rw [e] at hb;cases hb
        · exact e.2
      obtain ⟨c',rfl⟩:∃ c',c=c' + 1:=⟨c - 1,by omega⟩
      rw [if_pos rfl]
      exact sdep_l12 hn hf hK kx c' k (d + 1) _ (by omega) (by omega) (by rw [roundS_len];exact hD) (by omega) (by omega)
theorem s_l04Depths_eq {n:Nat} (hn:n=2\/n=3) {fs:List (Nat × Nat)} (hf:okFs fs):s_l04Depths KK (fsN fs,(n:Int),())=some (genD fs n):=by
  have hn4:n<=4:=by omega
  have h16:=pp4 hn4
  have hKK:(9223372036854775808:Nat)=KK:=rfl
  simp only [s_l04Depths]
  rw [show ([]:List Int)=List.replicate 0 (-1) from rfl]
  refine (sdep_l3 (K:=KK) hn4 (fsN fs) _ (2 ^ 2 ^ n) 0 KK (by omega) (by omega)).trans ?_
  refine (sdep_l7 hn (fsN fs) _ n 0 KK (List.replicate (2 ^ 2 ^ n) (-1)) (by omega) (by omega) (by simp)).trans ?_
  rw [<-List.range_eq_range']
  have hg:=initG_negs hn4
  refine (sdep_l12 (K:=KK) hn4 hf KK_ge (fun z29=>some z29) 65536 KK 1 (initG n) (by omega) (by omega) (initG_len n) hg (by omega)).trans ?_
  rw [genD,genS_fuel (65536 + 1) KK 1 (initG n) (by omega) (by omega) (by omega)]
theorem s_l04Code_eq {l:List DF} (hl:l.length < 4611686018427387904) (n:Int) (hK:4611686018427387904<=K):s_l04Code K (l,n,())=some (codeG l n):=by
  simp only [s_l04Code]
  rw [s_l02Code_eq hl hK,some_bind',codeG]
  by_cases hc:codeV l=0
  · rw [hc,ite_f (by rfl),if_pos rfl,s_l01In_eq,some_bind']
    by_cases hn:2<=n/\n<=3
    · rw [decide_eq_true hn.1,decide_eq_true hn.2,ite_f (by rfl),if_pos hn]
      refine (lpLA (l:=l) (L:=fun k i=>s_l04Code_l7 K k l n i (some (0:Int)) (fun z4=>some z4)) (g:=fun f=>!(decide (n=3) && decide (f.1 > 2))) (B:=0) (kx:=some 0) (kf:=some 2) (fun k=>?_) (fun k p y r e _=>?_) l [] K rfl (by omega)).trans ?_
      · simp only [s_l04Code_l7];rw [ite_f (decide_eq_false (by omega))]
      · subst e
        simp only [s_l04Code_l7]
        rw [ite_t lt_len,ite_t bnds_mid,getD_midI,next_i hl]
        by_cases h3:n=3
        · rw [ite_t (decide_eq_true h3),decide_eq_true h3,Bool.true_and]
          cases decide (y.1 > 2)
          · rw [ite_f rfl,if_pos (by rfl)]
          · rw [ite_t rfl,if_neg (by decide)]
        · rw [ite_f (decide_eq_false h3),decide_eq_false h3,Bool.false_and,if_pos (by rfl)]
      · by_cases h3:n=3/\(l.any fun f=>decide (f.1 > 2))=true
        · rw [if_pos h3,if_neg]
          intro hall
          obtain ⟨f,hf,h2⟩:=List.any_eq_true.1 h3.2
          have:=List.all_eq_true.1 hall f hf
          rw [h2,decide_eq_true h3.1] at this;cases this
        · rw [if_neg h3,if_pos]
          rw [List.all_eq_true]
          intro f hf
          cases h2:decide (f.1 > 2)
          · simp
          · rw [decide_eq_false fun h=>h3 ⟨h,List.any_eq_true.2 ⟨f,hf,h2⟩⟩];rfl
    · rw [ite_t (by
        by_cases h2:2<=n
        · rw [decide_eq_true h2,decide_eq_false (fun h=>hn ⟨h2,h⟩)];rfl
        · rw [decide_eq_false h2];rfl),if_neg hn]
  · rw [ite_t (by rw [decide_eq_false hc];rfl),if_neg hc]
noncomputable def kindBoth (b k:Nat):Bool:=match i_Func_isOfKind KK (fN 3 b,(k:Int),()),s_l10Kind KK (fN 3 b,(k:Int),()) with
  | some x,some y=>x == y
  | _,_=>false
theorem kinds_all:((List.range 256).all fun b=>(List.range 4).all fun k=>kindBoth b k)=true:=by decide +kernel
noncomputable def kB (k b:Nat):Bool:=(i_Func_isOfKind KK (fN 3 b,(k:Int),())).getD false
theorem kB_eq {k b:Nat} (hk:k < 4) (hb:b < 256):i_Func_isOfKind KK (fN 3 b,(k:Int),())=some (kB k b)/\s_l10Kind KK (fN 3 b,(k:Int),())=some (kB k b):=by
  have h:=List.all_eq_true.1 (List.all_eq_true.1 kinds_all b (List.mem_range.2 hb)) k (List.mem_range.2 hk)
  unfold kindBoth at h
  unfold kB
  cases h1:i_Func_isOfKind KK (fN 3 b,(k:Int),()) with
  | none=>rw [h1] at h;cases h
  | some x =>
    cases h2:s_l10Kind KK (fN 3 b,(k:Int),()) with
    | none=>rw [h1,h2] at h;cases h
    | some y =>
      rw [h1,h2] at h
      have h:(x == y)=true:=h
      have:x=y:=by simpa using h
      subst this
      exact ⟨rfl,rfl⟩
/-- the first function of a kind -/
noncomputable def firstK (k:Nat) (L:List Nat):DF × Int × Unit:=match L.find? (kB k) with
  | some b=>(fN 3 b,0,())
  | none=>(((0:Int),(0:Int),()),4,())
theorem find_idx (g:Nat->Bool):∀ (L:List Nat) (f:DF->Bool),(∀ b ∈ L,f (fN 3 b)=g b)->(match (fnsN 3 L).findIdx? f with | some j=>some ((fnsN 3 L).getD j ((0:Int),(0:Int),())) | none=>none)=(L.find? g).map (fN 3)
  | [],f,_=>rfl
  | b :: L,f,h=>by
    have ih:=find_idx g L f fun x hx=>h x (List.mem_cons_of_mem _ hx)
    have hb:=h b (List.mem_cons_self ..)
    rw [show fnsN 3 (b :: L)=fN 3 b :: fnsN 3 L from rfl,List.findIdx?_cons,hb,List.find?_cons]
    cases g b
    · rw [if_neg (by decide)]
      rw [<-ih]
      cases (fnsN 3 L).findIdx? f <;> rfl
    · rw [if_pos rfl];rfl
theorem i_find {k:Nat} (hk:k < 4) {L:List Nat} (hL:∀ b ∈ L,b < 256) (hl:L.length<=256):((slices_IndexFunc_impl_Func KK (fnsN 3 L,(fun y5=>i_FindOfKind_c1 KK (y5.1,(k:Int),())),())).bind fun y4 =>
    (if (decide (y4 < (0:Int)))=true then some (((0:Int),(0:Int),()),(4:Int),()) else (if (bnds y4 ((fnsN 3 L).length:Int))=true then some (((fnsN 3 L).getD y4.toNat ((0:Int),(0:Int),())),(0:Int),()) else none)))=some (firstK k L):=by
  have hf:∀ x ∈ fnsN 3 L,(fun y5:DF × Unit=>i_FindOfKind_c1 KK (y5.1,(k:Int),())) (x,())=some (kB k x.2.1.toNat):=fun x hx=>by
    obtain ⟨b,hb,rfl⟩:=List.mem_map.1 hx
    simp only [i_FindOfKind_c1]
    rw [(kB_eq hk (hL b hb)).1,some_bind'];rfl
  have hlen:=fns_len 3 L
  have hKK:(9223372036854775808:Nat)=KK:=rfl
  have h1:=idx_impl_Func_l (K:=KK) (fun y5:DF × Unit=>i_FindOfKind_c1 KK (y5.1,(k:Int),())) (fun x=>kB k x.2.1.toNat) (fnsN 3 L) (by omega) (some (-1:Int)) (fun z=>some z) (fnsN 3 L) [] KK rfl (by omega) hf
  simp only [List.length_nil,Nat.zero_add] at h1
  rw [show ((0:Nat):Int)=0 from rfl] at h1
  have h2:=find_idx (kB k) L (fun x=>kB k x.2.1.toNat) fun b _=>rfl
  simp only [slices_IndexFunc_impl_Func]
  rw [h1]
  unfold firstK
  cases hc:(fnsN 3 L).findIdx? fun x=>kB k x.2.1.toNat with
  | none =>
    rw [hc] at h2
    cases hd:L.find? (kB k) with
    | none=>rfl
    | some b=>rw [hd] at h2;cases h2
  | some j =>
    rw [hc] at h2
    have hj:j < (fnsN 3 L).length:=by
      have:=List.findIdx?_eq_some_iff_getElem.1 hc
      exact this.1
    cases hd:L.find? (kB k) with
    | none=>rw [hd] at h2;cases h2
    | some b =>
      rw [hd] at h2
      have h2:some ((fnsN 3 L).getD j ((0:Int),(0:Int),()))=some (fN 3 b):=h2
      injection h2 with h2
      simp only [some_bind']
      rw [ite_f (decide_eq_false (by omega)),ite_t (bnds_n hj),Int.toNat_natCast,h2]
theorem s_find {k:Nat} (hk:k < 4) {D:List Int} (hD:D.length=256) (v4:DF) (kx:DF->Option R) (kr:DF->Int->Option R):∀ (m i f:Nat),i + m=256->m < f →
    s_FindOfKind_l10 KK f (k:Int) v4 D (i:Int) kx kr=match ((List.range' i m).filter fun i=>decide (0<=D.getD i 0)).find? (kB k) with | some b=>kr (fN 3 b) 0 | none=>kx v4
  | _,_,0,_,h=>by omega
  | 0,i,f + 1,e,_=>by
    simp only [s_FindOfKind_l10];rw [ite_f (decide_eq_false (by omega))];rfl
  | m + 1,i,f + 1,e,hf=>by
    have ih:=s_find hk hD v4 kx kr m (i + 1) f (by omega) (by omega)
    simp only [s_FindOfKind_l10]
    rw [ite_t (decide_eq_true (by omega)),ite_t (bnds_n (by omega)),Int.toNat_natCast,w64s (by omega),ih,List.range'_succ,List.filter_cons]
    by_cases h0:0<=D.getD i 0
    · rw [ite_t (decide_eq_true h0),if_pos (decide_eq_true h0),List.find?_cons]
      have hkb:=(kB_eq hk (show i < 256 by omega)).2
      refine (congrArg (fun o=>Option.bind o _) (show s_l10Kind KK (((3:Int),(i:Int),()),(k:Int),())=some (kB k i) from hkb)).trans ?_
      rw [some_bind']
      cases kB k i
      · rw [ite_f rfl]
      · rw [ite_t rfl];rfl
    · rw [ite_f (decide_eq_false h0),if_neg (by simpa using h0)]
/-- What both answer. -/
noncomputable def findV (l:List DF) (kind:Int):DF × Int × Unit :=
  if codeV l=1 then (((0:Int),(0:Int),()),1,()) else if ¬ (0<=kind/\kind<=3) then (((0:Int),(0:Int),()),2,()) else if codeG l 3 ≠ 0 then (((0:Int),(0:Int),()),codeG l 3,()) else firstK kind.toNat (knS (genD (l.map fun f=>(f.1.toNat,f.2.1.toNat)) 3))
theorem codeG_V {l:List DF} {n:Int} (h:codeG l n=0):codeV l=0:=by
  unfold codeG at h
  by_cases h0:codeV l=0
  · exact h0
  · rw [if_neg h0] at h;exact h
theorem fs_eq {l:List DF} (h:codeV l=0):l=fsN (l.map fun f=>(f.1.toNat,f.2.1.toNat))/\okFs (l.map fun f=>(f.1.toNat,f.2.1.toNat)):=by
  obtain ⟨fs,h1,h2,h3⟩:=fs_of h
  have e:(l.map fun f:DF=>(f.1.toNat,f.2.1.toNat))=fs:=by
    rw [h1,fsN,List.map_map]
    exact (List.map_congr_left (fun f _=>rfl)).trans (List.map_id' fs)
  rw [e];exact ⟨h1,h2⟩
theorem gen_len {fs:List (Nat × Nat)}:(genD fs 3).length=256:=by rw [genD,genS_len,initG_len]
theorem i_FindOfKind_eq {l:List DF} (hl:l.length < 4611686018427387904) (kind:Int):i_FindOfKind KK (l,kind,())=some (findV l kind):=by
  simp only [i_FindOfKind]
  rw [i_areFuncs_eq hl KK_ge,some_bind']
  unfold findV
  cases hall:l.all (isF 0)
  · rw [ite_t (c:=!false) rfl,if_pos (by unfold codeV;rw [hall];rfl)]
  · have hc1:codeV l ≠ 1:=by unfold codeV;rw [hall,if_pos rfl];split <;> decide
    rw [ite_f (c:=!true) rfl,if_neg hc1]
    simp only [i_isKind]
    rw [i_within_eq,some_bind',some_bind']
    by_cases hk:0<=kind/\kind<=3
    · rw [decide_eq_true hk.1,decide_eq_true hk.2,ite_f (by rfl),if_neg (fun h=>h hk)]
      by_cases hg:codeG l 3=0
      · obtain ⟨h1,h2⟩:=fs_eq (codeG_V hg)
        rw [if_neg (fun h=>h hg)]
        have hgb:=i_GeneratedBy_ok h2 (n:=3) (Or.inr rfl) (by rw [<-h1];exact hg)
        rw [<-h1] at hgb
        rw [show ((3:Nat):Int)=3 from rfl] at hgb
        rw [hgb,some_bind']
        refine (ite_f (by rfl)).trans ?_
        have hkn:=knS_lt (D:=genD (l.map fun f=>(f.1.toNat,f.2.1.toNat)) 3)
        rw [gen_len] at hkn
        obtain ⟨k,rfl⟩:=Int.eq_ofNat_of_zero_le hk.1
        exact i_find (show k < 4 by omega) hkn.2 hkn.1
      · rw [i_GeneratedBy_bad hl hg,some_bind',if_pos hg]
        refine (ite_t ?_).trans rfl
        show (!decide (codeG l 3=0))=true
        rw [decide_eq_false hg];rfl
    · rw [ite_t (by
        by_cases h2:0<=kind
        · rw [decide_eq_true h2,decide_eq_false (fun h=>hk ⟨h2,h⟩)];rfl
        · rw [decide_eq_false h2];rfl),if_pos hk]
theorem nilcode {k:Nat} (kind:Int) (F kr:Int->Option R):s_l10Code_l2 K (k + 1) kind [] (0:Int) F kr=F kind:=by
  simp only [s_l10Code_l2]
  rw [ite_f (by rfl)]
theorem s_l10Code_nil (kind:Int):s_l10Code KK (kind,[],())=some (if 0<=kind/\kind<=3 then 0 else 2):=by
  have hKK:KK=9223372036854775807 + 1:=rfl
  have this:∀ (F kr:Int->Option Int),s_l10Code_l2 KK KK kind [] (0:Int) F kr=F kind:=fun F kr=>(congrArg (fun k=>s_l10Code_l2 KK k kind [] (0:Int) F kr) hKK).trans (nilcode kind F kr)
  simp only [s_l10Code]
  rw [this,s_l01In_eq,some_bind']
  by_cases hk:0<=kind/\kind<=3
  · rw [decide_eq_true hk.1,decide_eq_true hk.2,if_pos hk];rfl
  · rw [ite_t (by
      by_cases h2:0<=kind
      · rw [decide_eq_true h2,decide_eq_false (fun h=>hk ⟨h2,h⟩)];rfl
      · rw [decide_eq_false h2];rfl),if_neg hk]
theorem s_FindOfKind_eq {l:List DF} (hl:l.length < 4611686018427387904) (kind:Int):s_FindOfKind KK (l,kind,())=some (findV l kind):=by
  have hj6:∀ (v6:Int) (kr:DF->Int->Option (DF × Int × Unit)),v6 ≠ 0->s_FindOfKind_j6 KK KK l kind ((0:Int),(0:Int),()) v6 none kr=kr ((0:Int),(0:Int),()) v6:=fun v6 kr h=>by
    simp only [s_FindOfKind_j6]
    rw [ite_t (by rw [decide_eq_false h];rfl)]
  simp only [s_FindOfKind]
  rw [s_l02Code_eq hl KK_ge,some_bind']
  unfold findV
  by_cases hc:codeV l=0
  · rw [ite_t (decide_eq_true hc),s_l10Code_nil,some_bind',if_neg (c:=codeV l=1) (by rw [hc];decide)]
    simp only [s_FindOfKind_j4]
    by_cases hk:0<=kind/\kind<=3
    · rw [if_pos hk,ite_t (by rfl),if_neg (fun h=>h hk),s_l04Code_eq hl 3 KK_ge,some_bind']
      by_cases hg:codeG l 3=0
      · rw [if_neg (fun h=>h hg),hg]
        simp only [s_FindOfKind_j6]
        rw [ite_f (by rfl)]
        obtain ⟨h1,h2⟩:=fs_eq hc
        have hgd:=s_l04Depths_eq (n:=3) (Or.inr rfl) h2
        rw [<-h1,show ((3:Nat):Int)=3 from rfl] at hgd
        rw [hgd,some_bind']
        obtain ⟨k,rfl⟩:=Int.eq_ofNat_of_zero_le hk.1
        have hKK:(9223372036854775808:Nat)=KK:=rfl
        refine (s_find (show k < 4 by omega) gen_len ((0:Int),(0:Int),()) _ _ 256 0 KK (by omega) (by omega)).trans ?_
        rw [<-List.range_eq_range',Int.toNat_natCast,firstK,knS,gen_len]
        split <;> rfl
      · rw [if_pos hg,hj6 _ _ hg]
    · rw [if_neg hk,ite_f (by rfl),if_pos hk,hj6 _ _ (by decide)]
  · rw [ite_f (decide_eq_false hc)]
    simp only [s_FindOfKind_j4]
    rw [ite_f (decide_eq_false hc),hj6 _ _ hc]
    have h2:codeV l=1\/codeV l=2:=by
      unfold codeV at hc ⊢
      split at hc
      · rename_i h;rw [if_pos h];split at hc
        · rename_i h8;rw [if_pos h8];exact Or.inr rfl
        · exact absurd rfl hc
      · rename_i h;rw [if_neg h];exact Or.inl rfl
    rcases h2 with h2 | h2
    · rw [if_pos h2,h2]
    · rw [if_neg (by rw [h2];decide),h2]
      have hg:codeG l 3=2:=by unfold codeG;rw [if_neg hc,h2]
      by_cases hk:0<=kind/\kind<=3
      · rw [if_neg (fun h=>h hk),if_pos (by rw [hg];decide),hg]
      · rw [if_pos hk]
theorem putN_bit {b n r:Nat} {l:List Nat} (hr:r < 2 ^ n):(putN b n l).testBit r=b.testBit (packN l r):=by rw [putN,mkB_bit,decide_eq_true hr,Bool.true_and]
theorem packN_bit (l:List Nat) (r i:Nat):(packN l r).testBit i=(decide (i < l.length) && (l.getD i 0).testBit r):=mkB_bit _ _ _
theorem projN_bit {n i r:Nat} (hr:r < 2 ^ n):(projN n i).testBit r=r.testBit i:=by rw [projN,mkB_bit,decide_eq_true hr,Bool.true_and]
theorem getD_mem {l:List Nat} {i:Nat} (h:i < l.length):l.getD i 0 ∈ l:=by
  have:l.getD i 0=l[i]:=by simp [List.getD,h]
  rw [this];exact List.getElem_mem h
theorem hi_bit {n r i:Nat} (hr:r < 2 ^ n) (hi:n<=i):r.testBit i=false:=Nat.testBit_lt_two_pow (Nat.lt_of_lt_of_le hr (Nat.pow_le_pow_right (by decide) hi))
/-- kept by putting together -/
def Comp (Q:Nat->Nat->Prop):Prop:=∀ a b n l,b < 2 ^ 2 ^ a->List.length l=a->Q a b->(∀ x ∈ l,Q n x)->Q n (putN b n l)
def kq0 (n b:Nat):Prop:=b.testBit 0=false
def kq1 (n b:Nat):Prop:=b.testBit (2 ^ n - 1)=true
def kq2 (n b:Nat):Prop:=0 < n/\∀ r,r < 2 ^ n->b.testBit (2 ^ n - 1 - r)=!b.testBit r
def kq3 (n b:Nat):Prop:=∀ r i,r < 2 ^ n->i < n->b.testBit r=true->b.testBit (r ||| 2 ^ i)=true
def kq4 (n b:Nat):Prop:=∀ r s,r < 2 ^ n->s < 2 ^ n->b.testBit (r ^^^ s)=xor (xor (b.testBit r) (b.testBit s)) (b.testBit 0)
def kq5 (n b:Nat):Prop:=∃ v,∀ r s,r < 2 ^ n->s < 2 ^ n->r.testBit v=s.testBit v->b.testBit r=b.testBit s
def kq6 (n b:Nat):Prop:=∀ r s,r < 2 ^ n->s < 2 ^ n->b.testBit (r &&& s)=(b.testBit r && b.testBit s)
def kq7 (n b:Nat):Prop:=∀ r s,r < 2 ^ n->s < 2 ^ n->b.testBit (r ||| s)=(b.testBit r || b.testBit s)
theorem pos2 (n:Nat):0 < 2 ^ n:=Nat.two_pow_pos n
theorem and_lt2 {n r s:Nat} (hr:r < 2 ^ n):r &&& s < 2 ^ n:=Nat.lt_of_le_of_lt Nat.and_le_left hr
theorem packN_ext {l:List Nat} {r z:Nat} (h:∀ i,i < l.length->(l.getD i 0).testBit r=z.testBit i) (hz:z < 2 ^ l.length):packN l r=z:=by
  apply Nat.eq_of_testBit_eq
  intro i
  rw [packN_bit]
  by_cases hi:i < l.length
  · rw [decide_eq_true hi,Bool.true_and,h i hi]
  · rw [decide_eq_false hi,Bool.false_and,hi_bit hz (by omega)]
theorem comp0:Comp kq0:=by
  intro a b n l hb hl hq hx
  show (putN b n l).testBit 0=false
  rw [putN_bit (pos2 n),packN_ext (z:=0) (fun i hi=>by rw [Nat.zero_testBit];exact hx _ (getD_mem hi)) (pos2 _)]
  exact hq
theorem comp1:Comp kq1:=by
  intro a b n l hb hl hq hx
  show (putN b n l).testBit (2 ^ n - 1)=true
  have:=pos2 n
  have:=pos2 l.length
  rw [putN_bit (by omega),packN_ext (z:=2 ^ l.length - 1) (fun i hi=>by rw [Nat.testBit_two_pow_sub_one,decide_eq_true hi];exact hx _ (getD_mem hi)) (by omega),hl]
  exact hq
theorem compl_bit2 {n r:Nat} (h:r < 2 ^ n) (i:Nat):(2 ^ n - 1 - r).testBit i=(decide (i < n) && !r.testBit i):=by
  rw [show 2 ^ n - 1 - r=2 ^ n - (r + 1) by omega,Nat.testBit_two_pow_sub_succ h]
theorem comp2:Comp kq2:=by
  intro a b n l hb hl hq hx
  have h0:0 < n:=by
    have ha:=hq.1
    exact (hx _ (getD_mem (l:=l) (i:=0) (by omega))).1
  refine ⟨h0,fun r hr=>?_⟩
  rw [putN_bit (by omega),putN_bit hr,packN_ext (z:=2 ^ l.length - 1 - packN l r) (fun i hi=>?_) (by have:=pos2 l.length;omega),hl]
  · exact hq.2 _ (by rw [<-hl];exact packN_lt l r)
  · rw [(hx _ (getD_mem hi)).2 r hr,compl_bit2 (packN_lt l r),decide_eq_true hi,Bool.true_and,packN_bit,decide_eq_true hi,Bool.true_and]
theorem or_lt2 {n r s:Nat} (hr:r < 2 ^ n) (hs:s < 2 ^ n):r ||| s < 2 ^ n:=Nat.or_lt_two_pow hr hs
theorem mono_sub {n b:Nat} (hq:kq3 n b) {r s:Nat} (hr:r < 2 ^ n) (hs:s < 2 ^ n) (h:∀ i,r.testBit i=true->s.testBit i=true) (hb:b.testBit r=true):b.testBit s=true:=by
  have key:∀ k,k<=n->b.testBit (r ||| s % 2 ^ k)=true:=by
    intro k
    induction k with
    | zero=>intro _;rw [Nat.pow_zero,Nat.mod_one,Nat.or_zero];exact hb
    | succ k ih =>
      intro hk
      have h1:=ih (by omega)
      have hlt:r ||| s % 2 ^ k < 2 ^ n:=or_lt2 hr (Nat.lt_of_le_of_lt (Nat.mod_le _ _) hs)
      cases hc:s.testBit k
      · have e:s % 2 ^ (k + 1)=s % 2 ^ k:=by
          apply Nat.eq_of_testBit_eq
          intro i
          rw [Nat.testBit_mod_two_pow,Nat.testBit_mod_two_pow]
          by_cases hi:i=k
          · subst hi;rw [hc];simp
          · have:decide (i < k + 1)=decide (i < k):=by apply decide_eq_decide.2;omega
            rw [this]
        rw [e];exact h1
      · have e:r ||| s % 2 ^ (k + 1)=(r ||| s % 2 ^ k) ||| 2 ^ k:=by
          apply Nat.eq_of_testBit_eq
          intro i
          rw [Nat.testBit_or,Nat.testBit_or,Nat.testBit_or,Nat.testBit_mod_two_pow,Nat.testBit_mod_two_pow,Nat.testBit_two_pow]
          by_cases hi:i=k
          · subst hi;rw [hc];simp
          · have:decide (i < k + 1)=decide (i < k):=by apply decide_eq_decide.2;omega
            rw [this,show decide (k=i)=false from decide_eq_false (fun e=>hi e.symm),Bool.or_false]
        rw [e];exact hq _ _ hlt (by omega) h1
  have:=key n (Nat.le_refl _)
  rw [Nat.mod_eq_of_lt hs] at this
  have e:r ||| s=s:=by
    apply Nat.eq_of_testBit_eq
    intro i
    rw [Nat.testBit_or]
    cases hc:r.testBit i
    · simp
    · rw [h i hc];rfl
  rw [e] at this;exact this
theorem pow_lt2 {i n:Nat} (h:i < n):2 ^ i < 2 ^ n:=Nat.pow_lt_pow_right (by decide) h
theorem comp3:Comp kq3:=by
  intro a b n l hb hl hq hx r i hr hi h
  have hr2:r ||| 2 ^ i < 2 ^ n:=or_lt2 hr (pow_lt2 hi)
  rw [putN_bit hr] at h
  rw [putN_bit hr2]
  refine mono_sub hq (by rw [<-hl];exact packN_lt _ _) (by rw [<-hl];exact packN_lt _ _) (fun j hj=>?_) h
  rw [packN_bit,Bool.and_eq_true,decide_eq_true_eq] at hj
  rw [packN_bit,decide_eq_true hj.1,Bool.true_and]
  exact hx _ (getD_mem hj.1) r i hr hi hj.2
theorem xor_lt2 {n r s:Nat} (hr:r < 2 ^ n) (hs:s < 2 ^ n):r ^^^ s < 2 ^ n:=Nat.xor_lt_two_pow hr hs
theorem comp4:Comp kq4:=by
  intro a b n l hb hl hq hx r s hr hs
  have hp:∀ r,packN l r < 2 ^ a:=fun r=>by rw [<-hl];exact packN_lt _ _
  have e:packN l (r ^^^ s)=(packN l r ^^^ packN l s) ^^^ packN l 0:=packN_ext (fun i hi=>by
    rw [Nat.testBit_xor,Nat.testBit_xor,packN_bit,packN_bit,packN_bit,decide_eq_true hi,Bool.true_and,Bool.true_and,Bool.true_and]
    exact hx _ (getD_mem hi) r s hr hs) (by rw [hl];exact xor_lt2 (xor_lt2 (hp r) (hp s)) (hp 0))
  rw [putN_bit (xor_lt2 hr hs),putN_bit hr,putN_bit hs,putN_bit (pos2 n),e,hq _ _ (xor_lt2 (hp r) (hp s)) (hp 0),hq _ _ (hp r) (hp s)]
  cases b.testBit (packN l r) <;> cases b.testBit (packN l s) <;> cases b.testBit (packN l 0) <;> cases b.testBit 0 <;> rfl
theorem comp5:Comp kq5:=by
  intro a b n l hb hl hq hx
  obtain ⟨v,hv⟩:=hq
  have hp:∀ r,packN l r < 2 ^ a:=fun r=>by rw [<-hl];exact packN_lt _ _
  by_cases hva:v < l.length
  · obtain ⟨u,hu⟩:=hx _ (getD_mem hva)
    refine ⟨u,fun r s hr hs h=>?_⟩
    rw [putN_bit hr,putN_bit hs]
    refine hv _ _ (hp r) (hp s) ?_
    rw [packN_bit,packN_bit,hu r s hr hs h]
  · refine ⟨0,fun r s hr hs _=>?_⟩
    rw [putN_bit hr,putN_bit hs]
    refine hv _ _ (hp r) (hp s) ?_
    rw [packN_bit,packN_bit,decide_eq_false hva];rfl
theorem comp6:Comp kq6:=by
  intro a b n l hb hl hq hx r s hr hs
  have hp:∀ r,packN l r < 2 ^ a:=fun r=>by rw [<-hl];exact packN_lt _ _
  have e:packN l (r &&& s)=packN l r &&& packN l s:=packN_ext (fun i hi=>by
    rw [Nat.testBit_and,packN_bit,packN_bit,decide_eq_true hi,Bool.true_and,Bool.true_and]
    exact hx _ (getD_mem hi) r s hr hs) (by rw [hl];exact and_lt2 (hp r))
  rw [putN_bit (and_lt2 hr),putN_bit hr,putN_bit hs,e,hq _ _ (hp r) (hp s)]
theorem comp7:Comp kq7:=by
  intro a b n l hb hl hq hx r s hr hs
  have hp:∀ r,packN l r < 2 ^ a:=fun r=>by rw [<-hl];exact packN_lt _ _
  have e:packN l (r ||| s)=packN l r ||| packN l s:=packN_ext (fun i hi=>by
    rw [Nat.testBit_or,packN_bit,packN_bit,decide_eq_true hi,Bool.true_and,Bool.true_and]
    exact hx _ (getD_mem hi) r s hr hs) (by rw [hl];exact or_lt2 (hp r) (hp s))
  rw [putN_bit (or_lt2 hr hs),putN_bit hr,putN_bit hs,e,hq _ _ (hp r) (hp s)]
theorem proj0 {n i:Nat} (hi:i < n):kq0 n (projN n i):=by show (projN n i).testBit 0=false;rw [projN_bit (pos2 n),Nat.zero_testBit]
theorem proj1 {n i:Nat} (hi:i < n):kq1 n (projN n i):=by
  show (projN n i).testBit (2 ^ n - 1)=true
  rw [projN_bit (by have:=pos2 n;omega),Nat.testBit_two_pow_sub_one,decide_eq_true hi]
theorem proj2 {n i:Nat} (hi:i < n):kq2 n (projN n i):=⟨by omega,fun r hr=>by rw [projN_bit (by omega),projN_bit hr,compl_bit2 hr,decide_eq_true hi,Bool.true_and]⟩
theorem proj3 {n i:Nat} (hi:i < n):kq3 n (projN n i):=fun r j hr hj h=>by
  rw [projN_bit hr] at h
  rw [projN_bit (or_lt2 hr (pow_lt2 hj)),Nat.testBit_or,h];rfl
theorem proj4 {n i:Nat} (hi:i < n):kq4 n (projN n i):=fun r s hr hs=>by
  rw [projN_bit (xor_lt2 hr hs),projN_bit hr,projN_bit hs,projN_bit (pos2 n),Nat.testBit_xor,Nat.zero_testBit,Bool.xor_false]
theorem proj5 {n i:Nat} (hi:i < n):kq5 n (projN n i):=⟨i,fun r s hr hs h=>by rw [projN_bit hr,projN_bit hs,h]⟩
theorem proj6 {n i:Nat} (hi:i < n):kq6 n (projN n i):=fun r s hr hs=>by rw [projN_bit (and_lt2 hr),projN_bit hr,projN_bit hs,Nat.testBit_and]
theorem proj7 {n i:Nat} (hi:i < n):kq7 n (projN n i):=fun r s hr hs=>by rw [projN_bit (or_lt2 hr hs),projN_bit hr,projN_bit hs,Nat.testBit_or]
/-- a row with the value c, turned where c is 0 -/
def kq8 (c d n b:Nat):Prop:=∀ ys:List Nat,ys ≠ []->ys.length<=d->(∀ y ∈ ys,y < 2 ^ n/\(b.testBit (if c=0 then 2 ^ n - 1 - y else y)).toNat=c)->∃ i,i < n/\∀ y ∈ ys,y.testBit i=true
theorem turn_lt {c n y:Nat} (h:y < 2 ^ n):(if c=0 then 2 ^ n - 1 - y else y) < 2 ^ n:=by split <;> omega
theorem comp8 {c:Nat} (hc:c<=1) (d:Nat):Comp (kq8 c d):=by
  intro a b n l hb hl hq hx ys h0 hd hy
  have hp:∀ r,packN l r < 2 ^ a:=fun r=>by rw [<-hl];exact packN_lt _ _
  -- the rows that go into the outer function
  have hval:∀ y ∈ ys,(if c=0 then 2 ^ a - 1 - packN l (if c=0 then 2 ^ n - 1 - y else y) else packN l (if c=0 then 2 ^ n - 1 - y else y)) < 2 ^ a ∧
      (b.testBit (if c=0 then 2 ^ a - 1 - (if c=0 then 2 ^ a - 1 - packN l (if c=0 then 2 ^ n - 1 - y else y) else packN l (if c=0 then 2 ^ n - 1 - y else y)) else (if c=0 then 2 ^ a - 1 - packN l (if c=0 then 2 ^ n - 1 - y else y) else packN l (if c=0 then 2 ^ n - 1 - y else y)))).toNat=c:=fun y hm=>by
    have h1:=hp (if c=0 then 2 ^ n - 1 - y else y)
    obtain ⟨h2,h3⟩:=hy y hm
    rw [putN_bit (turn_lt h2)] at h3
    generalize packN l (if c=0 then 2 ^ n - 1 - y else y)=z at h1 h3
    by_cases hc0:c=0
    · simp only [if_pos hc0]
      rw [show 2 ^ a - 1 - (2 ^ a - 1 - z)=z by omega]
      exact ⟨by omega,h3⟩
    · simp only [if_neg hc0];exact ⟨h1,h3⟩
  obtain ⟨i,hi,hin⟩:=hq (ys.map fun y=>if c=0 then 2 ^ a - 1 - packN l (if c=0 then 2 ^ n - 1 - y else y) else packN l (if c=0 then 2 ^ n - 1 - y else y)) (by simpa using h0) (by simpa using hd) (fun z hz=>by
    obtain ⟨y,hm,rfl⟩:=List.mem_map.1 hz
    exact hval y hm)
  rw [<-hl] at hi
  refine hx _ (getD_mem hi) ys h0 hd fun y hm=>⟨(hy y hm).1,?_⟩
  have h4:=hin _ (List.mem_map.2 ⟨y,hm,rfl⟩)
  have h1:=hp (if c=0 then 2 ^ n - 1 - y else y)
  by_cases hc0:c=0
  · subst hc0
    simp only [if_true] at h4 h1 ⊢
    rw [compl_bit2 h1,Bool.and_eq_true,packN_bit,decide_eq_true hi,Bool.true_and] at h4
    have h5:=h4.2
    rw [Bool.not_eq_true'] at h5
    rw [h5];rfl
  · obtain rfl:c=1:=by omega
    simp only [if_neg hc0] at h4 ⊢
    rw [packN_bit,decide_eq_true hi,Bool.true_and] at h4
    rw [h4];rfl
theorem proj8 {c n i:Nat} (hc:c<=1) (d:Nat) (hi:i < n):kq8 c d n (projN n i):=by
  intro ys h0 hd hy
  refine ⟨i,hi,fun y hm=>?_⟩
  obtain ⟨h1,h2⟩:=hy y hm
  rw [projN_bit (turn_lt h1)] at h2
  by_cases hc0:c=0
  · subst hc0
    simp only [if_true] at h2
    rw [compl_bit2 h1,decide_eq_true hi,Bool.true_and] at h2
    cases hb:y.testBit i
    · rw [hb] at h2;cases h2
    · rfl
  · obtain rfl:c=1:=by omega
    simp only [if_neg hc0] at h2
    cases hb:y.testBit i
    · rw [hb] at h2;cases h2
    · rfl
theorem pc2 {n b:Nat} (hb:b < 2 ^ 2 ^ n):dualI n b=true ↔ kq2 n b:=by
  constructor
  · intro h
    have h0:0 < n:=by
      unfold dualI at h
      rw [Bool.and_eq_true,decide_eq_true_eq] at h;exact h.1
    rw [dual_eq hb,dualS,allR_iff] at h
    refine ⟨h0,fun r hr=>?_⟩
    have:=h r (by omega) (by omega)
    revert this
    cases b.testBit r <;> cases b.testBit (2 ^ n - 1 - r) <;> simp
  · intro h
    rw [dual_eq hb,dualS,allR_iff]
    intro r _ hr
    rw [h.2 r (by omega)]
    cases b.testBit r <;> rfl
theorem pc3 {n b:Nat}:monoI n b=true ↔ kq3 n b:=by
  unfold monoI
  rw [allR_iff]
  constructor
  · intro h r i hr hi hb
    have:=(allR_iff _ _ _).1 (h r (by omega) (by omega)) i (by omega) (by omega)
    rw [hb] at this
    revert this
    cases b.testBit (r ||| 2 ^ i) <;> simp
  · intro h r _ hr
    rw [allR_iff]
    intro i _ hi
    cases hb:b.testBit r
    · rfl
    · rw [h r i (by omega) (by omega) hb];rfl
theorem linR_xor {d:Nat->Bool} {r s:Nat}:∀ n,linR d (r ^^^ s) n=xor (linR d r n) (linR d s n)
  | 0=>rfl
  | n + 1=>by
    rw [linR,linR,linR,linR_xor n,Nat.testBit_xor]
    cases linR d r n <;> cases linR d s n <;> cases r.testBit n <;> cases s.testBit n <;> cases d n <;> rfl
theorem pc4 {n b:Nat} (hn:n<=4):affI n b=true ↔ kq4 n b:=by
  constructor
  · intro h r s hr hs
    unfold affI at h
    rw [allR_iff] at h
    have h1:=h r (by omega) (by omega)
    have h2:=h s (by omega) (by omega)
    have h3:=h (r ^^^ s) (by omega) (by rw [Nat.zero_add];exact xor_lt2 hr hs)
    rw [beq_iff_eq] at h1 h2 h3
    rw [linR_xor] at h3
    rw [<-h1,<-h2,<-h3]
    cases linR (fun i=>xor (b.testBit 0) (b.testBit (2 ^ i))) r n <;> cases linR (fun i=>xor (b.testBit 0) (b.testBit (2 ^ i))) s n <;> cases b.testBit 0 <;> rfl
  · intro h
    rw [aff_eq hn,affS,allR_iff]
    intro v _ hv
    rw [allR_iff]
    intro r _ hr
    rw [h r (2 ^ v) (by omega) (pow_lt2 (by omega))]
    cases b.testBit r <;> cases b.testBit (2 ^ v) <;> cases b.testBit 0 <;> rfl
theorem mem_keepL (p:Nat->Bool) (x:Nat):∀ d i,x ∈ keepL p i d ↔ i<=x/\x < i + d/\p x=true
  | 0,i=>by simp [keepL];omega
  | d + 1,i=>by
    rw [keepL]
    by_cases h:p i=true
    · rw [if_pos h,List.mem_cons,mem_keepL p x d (i + 1)]
      constructor
      · rintro (rfl | ⟨h1,h2,h3⟩)
        · exact ⟨by omega,by omega,h⟩
        · exact ⟨by omega,by omega,h3⟩
      · rintro ⟨h1,h2,h3⟩
        by_cases e:x=i
        · exact Or.inl e
        · exact Or.inr ⟨by omega,by omega,h3⟩
    · rw [if_neg h,mem_keepL p x d (i + 1)]
      constructor
      · rintro ⟨h1,h2,h3⟩;exact ⟨by omega,by omega,h3⟩
      · rintro ⟨h1,h2,h3⟩
        refine ⟨?_,by omega,h3⟩
        rcases Nat.eq_or_lt_of_le h1 with e | e
        · subst e;exact absurd h3 h
        · exact e
theorem keepL_one {p:Nat->Bool} {v:Nat} (h:∀ x,p x=true->x=v):∀ d i,(keepL p i d).length<=1
  | 0,i=>by simp [keepL]
  | d + 1,i=>by
    rw [keepL]
    by_cases hp:p i=true
    · rw [if_pos hp]
      have:keepL p (i + 1) d=[]:=by
        rw [List.eq_nil_iff_forall_not_mem]
        intro x hx
        rw [mem_keepL] at hx
        have h1:=h x hx.2.2
        have h2:=h i hp
        omega
      rw [this];simp
    · rw [if_neg hp];exact keepL_one h d (i + 1)
theorem tb_eq {b r s:Nat}:tb b r=tb b s ↔ b.testBit r=b.testBit s:=by
  unfold tb;cases b.testBit r <;> cases b.testBit s <;> simp
/-- a function hangs on the variables that are essential alone -/
theorem ess_only {n b:Nat} {r s:Nat} (hr:r < 2 ^ n) (hs:s < 2 ^ n) (h:∀ i,i < n->essB n b i=true->r.testBit i=s.testBit i):b.testBit r=b.testBit s:=by
  have key:∀ k,k<=n->b.testBit (mkB (fun i=>if i < k then s.testBit i else r.testBit i) n)=b.testBit r:=by
    intro k
    induction k with
    | zero =>
      intro _
      rw [show (fun i=>if i < 0 then s.testBit i else r.testBit i)=r.testBit from funext fun i=>by simp,mkB_self hr]
    | succ k ih =>
      intro hk
      rw [<-ih (by omega)]
      by_cases e:r.testBit k=s.testBit k
      · have:mkB (fun i=>if i < k + 1 then s.testBit i else r.testBit i) n=mkB (fun i=>if i < k then s.testBit i else r.testBit i) n:=mkB_congr fun j _=>by
          by_cases hj:j=k
          · subst hj;simp [e]
          · by_cases h1:j < k
            · rw [if_pos h1,if_pos (by omega)]
            · rw [if_neg h1,if_neg (by omega)]
        rw [this]
      · have hne:essB n b k=false:=by
          cases hc:essB n b k
          · rfl
          · exact absurd (h k (by omega) hc) e
        rw [essB_iff] at hne
        have h1:=tb_eq.1 (hne _ (mkB_lt (fun i=>if i < k then s.testBit i else r.testBit i) n))
        rw [h1]
        congr 1
        apply Nat.eq_of_testBit_eq
        intro j
        unfold pw
        rw [Nat.testBit_xor,mkB_bit,mkB_bit,Nat.testBit_two_pow]
        by_cases hj:j=k
        · subst hj
          rw [decide_eq_true (show j < n by omega),if_pos (by omega),if_neg (by omega),decide_eq_true rfl]
          revert e
          cases r.testBit j <;> cases s.testBit j <;> simp
        · rw [show decide (k=j)=false from decide_eq_false (fun e=>hj e.symm),Bool.xor_false]
          by_cases h1:j < k
          · rw [if_pos h1,if_pos (by omega)]
          · rw [if_neg h1,if_neg (by omega)]
  have:=key n (Nat.le_refl _)
  rw [<-this]
  congr 1
  rw [show mkB (fun i=>if i < n then s.testBit i else r.testBit i) n=mkB s.testBit n from mkB_congr fun j hj=>by rw [if_pos hj],mkB_self hs]
theorem pu5 {n b:Nat}:(essL n b).length<=1 ↔ kq5 n b:=by
  rw [essL_K,up_len]
  constructor
  · intro h
    cases hc:essK n b with
    | nil =>
      refine ⟨0,fun r s hr hs _=>ess_only hr hs fun i hi he=>?_⟩
      have:i ∈ essK n b:=(mem_keepL _ _ _ _).2 ⟨by omega,by omega,he⟩
      rw [hc] at this;cases this
    | cons v l =>
      rw [hc] at h
      have hl:l=[]:=by simpa using h
      subst hl
      refine ⟨v,fun r s hr hs hv=>ess_only hr hs fun i hi he=>?_⟩
      have:i ∈ essK n b:=(mem_keepL _ _ _ _).2 ⟨by omega,by omega,he⟩
      rw [hc,List.mem_singleton] at this
      rw [this];exact hv
  · rintro ⟨v,hv⟩
    have:essK n b=keepL (fun i=>decide (i < n) && essB n b i) 0 n:=keepL_congr n 0 fun j _ h=>by rw [decide_eq_true (show j < n by omega),Bool.true_and]
    rw [this]
    refine keepL_one (v:=v) (fun x hx=>?_) n 0
    rw [Bool.and_eq_true,decide_eq_true_eq] at hx
    rcases Nat.lt_or_ge v v with e | _
    · omega
    by_cases hxv:x=v
    · exact hxv
    · exfalso
      have:essB n b x=false:=(essB_iff n b x).2 fun r hr=>tb_eq.2 (hv r _ hr (xor_lt2 hr (pow_lt2 hx.1)) (by unfold pw;rw [Nat.testBit_xor,Nat.testBit_two_pow,decide_eq_false hxv,Bool.xor_false]))
      rw [this] at hx;exact absurd hx.2 (by decide)
theorem cntE_all (r:Nat):∀ l:List Nat,cntE r l=l.length ↔ ∀ i ∈ l,r.testBit i=true
  | []=>by simp [cntE]
  | x :: l=>by
    have h:=cntE_all r l
    have hle:∀ l:List Nat,cntE r l<=l.length:=by
      intro l
      induction l with
      | nil=>exact Nat.le_refl _
      | cons y l ih=>have:=tb_le r y;simp only [cntE,List.length_cons];omega
    have h1:=tb_le r x
    have h2:=hle l
    rw [cntE,List.length_cons]
    constructor
    · intro e i hi
      have h3:tb r x=1:=by omega
      have h4:cntE r l=l.length:=by omega
      rcases List.mem_cons.1 hi with rfl | hi
      · unfold tb at h3;cases hb:r.testBit i
        · rw [hb] at h3;cases h3
        · rfl
      · exact h.1 h4 i hi
    · intro e
      have h3:tb r x=1:=by unfold tb;rw [e x (List.mem_cons_self ..)];rfl
      have h4:=h.2 fun i hi=>e i (List.mem_cons_of_mem _ hi)
      omega
theorem join_true {n b:Nat} (hb:b < 2 ^ 2 ^ n):b=mkB (joinR true (essK n b)) (2 ^ n) ↔ ∀ r,r < 2 ^ n->(b.testBit r=true ↔ ∀ i ∈ essK n b,r.testBit i=true):=by
  rw [mkB_iff hb]
  refine forall_congr' fun r=>forall_congr' fun hr=>?_
  unfold joinR
  rw [if_pos rfl,<-cntE_all,<-beq_iff_eq (a:=cntE r (essK n b))]
  cases (cntE r (essK n b) == (essK n b).length) <;> cases b.testBit r <;> simp
theorem pj6 {n b:Nat} (hn:n<=4) (hb:b < 2 ^ 2 ^ n):joinB true n b=true ↔ kq6 n b:=by
  unfold joinB
  rw [Bool.or_eq_true,decide_eq_true_eq,decide_eq_true_eq,join_true hb]
  constructor
  · rintro (h | h) r s hr hs
    · have hc:∀ r s,r < 2 ^ n->s < 2 ^ n->b.testBit r=b.testBit s:=fun r s hr hs=>ess_only hr hs fun i hi he=>by
        have:i ∈ essK n b:=(mem_keepL _ _ _ _).2 ⟨by omega,by omega,he⟩
        rw [h] at this;cases this
      rw [hc _ r (and_lt2 hr) hr,hc s r hs hr,Bool.and_self]
    · rw [Bool.eq_iff_iff,Bool.and_eq_true,h _ (and_lt2 hr),h r hr,h s hs]
      simp only [Nat.testBit_and,Bool.and_eq_true]
      exact ⟨fun k=>⟨fun i hi=>(k i hi).1,fun i hi=>(k i hi).2⟩,fun k i hi=>⟨k.1 i hi,k.2 i hi⟩⟩
  · intro hq
    by_cases hz:∀ r,r < 2 ^ n->b.testBit r=false
    · left
      rw [List.eq_nil_iff_forall_not_mem]
      intro i hi
      rw [essK,mem_keepL] at hi
      have:essB n b i=false:=(essB_iff n b i).2 fun r hr=>tb_eq.2 (by rw [hz r hr,hz _ (by unfold pw;exact xor_lt2 hr (pow_lt2 (by omega)))])
      rw [this] at hi;exact absurd hi.2.2 (by decide)
    · right
      have hmon:∀ r s,r < 2 ^ n->s < 2 ^ n->r &&& s=r->b.testBit r=true->b.testBit s=true:=fun r s hr hs e h=>by
        have:=hq r s hr hs
        rw [e,h,Bool.true_and] at this;exact this.symm
      have hfull:b.testBit (2 ^ n - 1)=true:=by
        have hz:=Classical.not_forall.1 hz
        obtain ⟨r,hr⟩:=hz
        obtain ⟨hr,h1⟩:=Classical.not_imp.1 hr
        have hp:=pos2 n
        refine hmon r _ hr (by omega) ?_ (by cases hc:b.testBit r;exact absurd hc h1;rfl)
        apply Nat.eq_of_testBit_eq
        intro i
        rw [Nat.testBit_and,Nat.testBit_two_pow_sub_one]
        by_cases hi:i < n
        · simp [hi]
        · rw [hi_bit hr (by omega)];rfl
      -- the least row
      have key:∀ k,k<=2 ^ n->∃ m,m < 2 ^ n/\b.testBit m=true/\∀ r,r < k->b.testBit r=true->∀ i,m.testBit i=true->r.testBit i=true:=by
        intro k
        induction k with
        | zero=>intro _;exact ⟨2 ^ n - 1,by have:=pos2 n;omega,hfull,fun r h=>by omega⟩
        | succ k ih =>
          intro hk
          obtain ⟨m,m1,m2,m3⟩:=ih (by omega)
          by_cases hb:b.testBit k=true
          · refine ⟨m &&& k,and_lt2 m1,by rw [hq m k m1 (by omega),m2,hb];rfl,fun r hr h i hi=>?_⟩
            rw [Nat.testBit_and,Bool.and_eq_true] at hi
            by_cases e:r=k
            · rw [e];exact hi.2
            · exact m3 r (by omega) h i hi.1
          · refine ⟨m,m1,m2,fun r hr h=>?_⟩
            by_cases e:r=k
            · rw [e] at h;exact absurd h hb
            · exact m3 r (by omega) h
      obtain ⟨m,m1,m2,m3⟩:=key (2 ^ n) (Nat.le_refl _)
      have hsub:∀ r,r < 2 ^ n->(b.testBit r=true ↔ ∀ i,m.testBit i=true->r.testBit i=true):=fun r hr=>by
        refine ⟨fun h=>m3 r hr h,fun h=>hmon m r m1 hr ?_ m2⟩
        apply Nat.eq_of_testBit_eq
        intro i
        rw [Nat.testBit_and]
        cases hc:m.testBit i
        · rfl
        · rw [h i hc];rfl
      have hess:∀ i,i ∈ essK n b ↔ m.testBit i=true:=fun i=>by
        rw [essK,mem_keepL]
        constructor
        · rintro ⟨_,hi,he⟩
          cases hc:m.testBit i
          · exfalso
            have:essB n b i=false:=(essB_iff n b i).2 fun r hr=>tb_eq.2 (by
              have hx:r ^^^ pw i < 2 ^ n:=by unfold pw;exact xor_lt2 hr (pow_lt2 (by omega))
              rw [Bool.eq_iff_iff,hsub r hr,hsub _ hx]
              refine forall_congr' fun j=>forall_congr' fun hj=>?_
              unfold pw
              rw [Nat.testBit_xor,Nat.testBit_two_pow,show decide (i=j)=false from decide_eq_false (fun e=>by rw [e] at hc;rw [hc] at hj;cases hj),Bool.xor_false])
            rw [this] at he;cases he
          · rfl
        · intro h
          have hi:i < n:=by
            rcases Nat.lt_or_ge i n with e | e
            · exact e
            · rw [hi_bit m1 e] at h;cases h
          refine ⟨by omega,by omega,?_⟩
          cases hc:essB n b i
          · exfalso
            have h1:=tb_eq.1 ((essB_iff n b i).1 hc m m1)
            have hx:m ^^^ pw i < 2 ^ n:=by unfold pw;exact xor_lt2 m1 (pow_lt2 hi)
            rw [m2] at h1
            have h2:=(hsub _ hx).1 h1.symm i h
            unfold pw at h2
            rw [Nat.testBit_xor,Nat.testBit_two_pow,h,decide_eq_true rfl] at h2;cases h2
          · rfl
      intro r hr
      rw [hsub r hr]
      exact ⟨fun h i hi=>h i ((hess i).1 hi),fun h i hi=>h i ((hess i).2 hi)⟩
theorem kq6_dual {n b:Nat}:kq6 n (dualN n b) ↔ kq7 n b:=by
  have hc:∀ {r},r < 2 ^ n->2 ^ n - 1 - r < 2 ^ n:=fun h=>by omega
  have hcc:∀ {r},r < 2 ^ n->2 ^ n - 1 - (2 ^ n - 1 - r)=r:=fun h=>by omega
  have hand:∀ {r s},r < 2 ^ n->s < 2 ^ n->2 ^ n - 1 - (r &&& s)=(2 ^ n - 1 - r) ||| (2 ^ n - 1 - s):=fun {r s} hr hs=>by
    apply Nat.eq_of_testBit_eq
    intro i
    rw [compl_bit2 (and_lt2 hr),Nat.testBit_or,compl_bit2 hr,compl_bit2 hs,Nat.testBit_and]
    cases decide (i < n) <;> cases r.testBit i <;> cases s.testBit i <;> rfl
  constructor
  · intro h r s hr hs
    have:=h _ _ (hc hr) (hc hs)
    rw [dualN_bit (and_lt2 (hc hr)),dualN_bit (hc hr),dualN_bit (hc hs),hand (hc hr) (hc hs),hcc hr,hcc hs] at this
    revert this
    cases b.testBit (r ||| s) <;> cases b.testBit r <;> cases b.testBit s <;> simp
  · intro h r s hr hs
    rw [dualN_bit (and_lt2 hr),dualN_bit hr,dualN_bit hs,hand hr hs,h _ _ (hc hr) (hc hs)]
    cases b.testBit (2 ^ n - 1 - r) <;> cases b.testBit (2 ^ n - 1 - s) <;> rfl
theorem pj7 {n b:Nat} (hn:n<=4) (hb:b < 2 ^ 2 ^ n):joinB false n b=true ↔ kq7 n b:=by
  rw [<-joinB_dual hb,pj6 hn (dualN_lt n b),kq6_dual]
theorem turn_turn {c n y:Nat} (h:y < 2 ^ n):(if c=0 then 2 ^ n - 1 - (if c=0 then 2 ^ n - 1 - y else y) else (if c=0 then 2 ^ n - 1 - y else y))=y:=by split <;> omega
theorem mem_degS {n b c y:Nat}:y ∈ degS n b c (2 ^ n) ↔ y < 2 ^ n/\(b.testBit (if c=0 then 2 ^ n - 1 - y else y)).toNat=c:=by
  rw [degS_mem]
  constructor
  · rintro ⟨r,hr,h1,rfl⟩
    exact ⟨turn_lt hr,by rw [turn_turn hr];exact h1⟩
  · rintro ⟨h1,h2⟩
    exact ⟨_,turn_lt h1,h2,(turn_turn h1).symm⟩
theorem degN_find (n b c:Nat):degN n b c=((List.range' 1 9).find? fun j=>decide (0 ∈ meets n (degS n b c (2 ^ n)) j)).elim 9 (· - 1):=by
  unfold degN
  have h:=degGo_meets (n:=n) (S:=degS n b c (2 ^ n)) 9 0 rfl
  by_cases hS:degS n b c (2 ^ n)=[]
  · rw [if_pos hS,hS]
    have:((List.range' 1 9).find? fun j=>decide (0 ∈ meets n [] j))=none:=by
      rw [List.find?_eq_none]
      intro j hj
      rw [decide_eq_true_eq,mem_meets]
      rintro ⟨ys,h1,h2,_⟩
      have hj:=List.mem_range'_1.1 hj
      cases ys with
      | nil=>simp at h2;omega
      | cons y ys=>exact absurd (h1 y (List.mem_cons_self ..)) (by simp)
    rw [this];rfl
  · rw [if_neg hS];exact h
theorem deg_q8 {n b c d:Nat} (hd:d<=9):d<=degN n b c ↔ kq8 c d n b:=by
  have hq:kq8 c d n b ↔ ∀ j,1<=j->j<=d->0 ∉ meets n (degS n b c (2 ^ n)) j:=by
    constructor
    · intro h j h1 h2 h0
      obtain ⟨ys,y1,y2,y3⟩:=(mem_meets j 0).1 h0
      obtain ⟨i,hi,hin⟩:=h ys (by intro e;rw [e] at y2;simp at y2;omega) (by omega) fun y hy=>mem_degS.1 (y1 y hy)
      have:=congrArg (·.testBit i) y3
      simp only [andL_bit,Nat.zero_testBit,Nat.testBit_two_pow_sub_one,decide_eq_true hi,Bool.true_and] at this
      rw [List.all_eq_true.2 hin] at this;cases this
    · intro h ys h0 hl hy
      refine Classical.byContradiction fun hno=>h ys.length (by cases ys with | nil=>exact absurd rfl h0 | cons y ys=>simp) hl ((mem_meets _ _).2 ⟨ys,fun y hm=>mem_degS.2 (hy y hm),rfl,andL_zero fun v hv=>?_⟩)
      refine Classical.byContradiction fun hn=>hno ⟨v,hv,fun y hm=>?_⟩
      cases hc:y.testBit v
      · exact absurd ⟨y,hm,hc⟩ hn
      · rfl
  rw [hq,degN_find]
  cases hf:(List.range' 1 9).find? fun j=>decide (0 ∈ meets n (degS n b c (2 ^ n)) j) with
  | none =>
    refine ⟨fun _ j h1 h2 h0=>?_,fun _=>hd⟩
    have:=List.find?_eq_none.1 hf j (List.mem_range'_1.2 ⟨h1,by omega⟩)
    exact this (decide_eq_true h0)
  | some k =>
    have hk:=List.find?_some hf
    have hm:=List.mem_range'_1.1 (List.mem_of_find?_eq_some hf)
    rw [decide_eq_true_eq] at hk
    show d<=k - 1 ↔ _
    constructor
    · intro h j h1 h2 h0
      have hlt:j < k:=by omega
      obtain ⟨_,ps,bs,e,hno⟩:=List.find?_eq_some_iff_append.1 hf
      have hmem:j ∈ ps ++ k :: bs:=e ▸ List.mem_range'_1.2 ⟨h1,by omega⟩
      rcases List.mem_append.1 hmem with ha | ha
      · have:=hno j ha
        rw [decide_eq_true h0] at this;cases this
      · rcases List.mem_cons.1 ha with e2 | hb
        · omega
        · have hp:(ps ++ k :: bs).Pairwise (· < ·):=e ▸ List.pairwise_lt_range'
          have:=(List.pairwise_cons.1 (List.pairwise_append.1 hp).2.1).1 j hb
          omega
    · intro h
      refine Classical.byContradiction fun hn=>h k hm.1 (by omega) hk
theorem gen_kept {fs:List (Nat × Nat)} {n:Nat} {Q:Nat->Nat->Prop} (hf:okFs fs) (hc:Comp Q) (hp:∀ i,i < n->Q n (projN n i)) (hq:∀ f ∈ fs,Q f.1 f.2):∀ x ∈ knS (genD fs n),Q n x:=by
  intro x hx
  obtain ⟨h1,h2⟩:=mem_knS.1 hx
  refine gen_all (P:=Q n) (fun f hff l hl hh=>hc f.1 f.2 n l (hf.1 f hff).2 hl (hq f hff) hh) KK 1 (initG n) (fun i hi h0=>?_) x h1 h2
  obtain ⟨j,hj,e⟩:=(initG_mem n i).2 (by rwa [initG_len] at hi) h0
  rw [e];exact hp j hj
theorem genD_len (fs:List (Nat × Nat)) (n:Nat):(genD fs n).length=2 ^ 2 ^ n:=by rw [genD,genS_len,initG_len]
theorem genD_lt {fs:List (Nat × Nat)} {n x:Nat} (h:x ∈ knS (genD fs n)):x < 2 ^ 2 ^ n:=by
  rw [<-genD_len fs n];exact (mem_knS.1 h).1
def kqC (k:Nat):Nat->Nat->Prop:=match k with
  | 0=>kq0
  | 1=>kq1
  | 2=>kq2
  | 3=>kq3
  | _=>kq4
theorem inC_kq {n b:Nat} (hn:n<=4) (hb:b < 2 ^ 2 ^ n):∀ k,inC n b k=true ↔ kqC k n b
  | 0=>by show (!b.testBit 0)=true ↔ b.testBit 0=false;simp
  | 1=>Iff.rfl
  | 2=>pc2 hb
  | 3=>pc3
  | _ + 4=>pc4 hn
theorem compC:∀ k,Comp (kqC k)
  | 0=>comp0
  | 1=>comp1
  | 2=>comp2
  | 3=>comp3
  | _ + 4=>comp4
theorem projC {n i:Nat} (h:i < n):∀ k,kqC k n (projN n i)
  | 0=>proj0 h
  | 1=>proj1 h
  | 2=>proj2 h
  | 3=>proj3 h
  | _ + 4=>proj4 h
theorem all_kept {fs:List (Nat × Nat)} {n:Nat} (hf:okFs fs) (hn:n<=4) {c:DF->Bool} {Q:Nat->Nat->Prop} (hc:Comp Q) (hp:∀ i,i < n->Q n (projN n i)) (he:∀ n b,n<=4->b < 2 ^ 2 ^ n->(c (fN n b)=true ↔ Q n b)) (ha:(fsN fs).all c=true) :
    ∀ x ∈ knS (genD fs n),c (fN n x)=true:=by
  intro x hx
  refine (he n x hn (genD_lt hx)).2 (gen_kept hf hc hp (fun f hff=>?_) x hx)
  have h2:=hf.1 f hff
  exact (he f.1 f.2 h2.1 h2.2).1 (List.all_eq_true.1 ha _ (List.mem_map.2 ⟨f,hff,rfl⟩))
theorem keptC {fs:List (Nat × Nat)} {n:Nat} (hf:okFs fs) (hn:n<=4) (k:Nat) (ha:(fsN fs).all (pC k)=true):∀ x ∈ knS (genD fs n),pC k (fN n x)=true :=
  all_kept hf hn (compC k) (fun i h=>projC h k) (fun n b hn hb=>inC_kq hn hb k) ha
theorem keptU {fs:List (Nat × Nat)} {n:Nat} (hf:okFs fs) (hn:n<=4) (ha:(fsN fs).all pU=true):∀ x ∈ knS (genD fs n),pU (fN n x)=true :=
  all_kept hf hn comp5 (fun i h=>proj5 h) (fun n b hn hb=>decide_eq_true_iff.trans pu5) ha
theorem keptJ {fs:List (Nat × Nat)} {n:Nat} (hf:okFs fs) (hn:n<=4):∀ (t:Bool),(fsN fs).all (pJ t)=true->∀ x ∈ knS (genD fs n),pJ t (fN n x)=true
  | true,ha=>all_kept hf hn comp6 (fun i h=>proj6 h) (fun n b hn hb=>pj6 hn hb) ha
  | false,ha=>all_kept hf hn comp7 (fun i h=>proj7 h) (fun n b hn hb=>pj7 hn hb) ha
theorem keptD {fs:List (Nat × Nat)} {n c:Nat} (hf:okFs fs) (hc:c<=1):∀ x ∈ knS (genD fs n),leastD c (fsN fs)<=pD c (fN n x):=by
  intro x hx
  have h9:=leastD_le c (fsN fs)
  refine (deg_q8 h9).2 (gen_kept hf (comp8 hc _) (fun i h=>proj8 hc _ h) (fun f hff=>?_) x hx)
  exact (deg_q8 h9).1 (least_mem c (List.mem_map.2 ⟨f,hff,rfl⟩))
theorem isF_nm {n b:Nat} (hn:n<=4) (hb:b < 2 ^ 2 ^ n):isF 0 (fN n b)=true:=by
  show isF 0 ((n:Int),(b:Int),())=true
  simp only [isF,Bool.and_eq_true,decide_eq_true_eq,Int.toNat_natCast]
  exact ⟨⟨⟨by omega,by omega⟩,by omega⟩,Int.ofNat_lt.2 hb⟩
theorem okL_fsN {fs:List (Nat × Nat)} (hf:okFs fs) (hl:fs.length<=40):okL (fsN fs):=by
  refine ⟨fun g hg=>?_,by simpa [fsN] using hl⟩
  obtain ⟨f,hff,rfl⟩:=List.mem_map.1 hg
  exact isF_nm (hf.1 f hff).1 (hf.1 f hff).2
/-- what is generated has the name of the list -/
theorem name_kept {fs:List (Nat × Nat)} {n:Nat} (hf:okFs fs) (hl:fs.length<=40) (hn:n<=4) {G:List DF} (hG:okL G) (e:nameV (fsN fs)=nameV G) {x:Nat} (hx:x ∈ knS (genD fs n)):nameV (G ++ [fN n x])=nameV (fsN fs):=by
  rw [e]
  rw [nameV_vec,nameV_vec] at e
  rw [nameV_vec,nameV_vec]
  have hd:∀ c,c<=1->btwN (leastD c (fsN fs)) (leastD c G) (leastD c (G ++ [fN n x])):=fun c hc=>by
    have:=keptD (n:=n) hf hc x hx
    unfold btwN
    rw [least_snoc]
    omega
  refine nm_good (P:=vecL (fsN fs)) (Q:=vecL G) (R:=vecL (G ++ [fN n x])) (vec_ok (okL_fsN hf hl)) (vec_ok hG) ⟨?_,?_,?_,?_,?_,?_,?_,?_,hd 0 (by decide),hd 1 (by decide)⟩ e
  · exact btw_l fun h=>keptC hf hn 0 h x hx
  · exact btw_l fun h=>keptC hf hn 1 h x hx
  · exact btw_l fun h=>keptC hf hn 2 h x hx
  · exact btw_l fun h=>keptC hf hn 3 h x hx
  · exact btw_l fun h=>keptC hf hn 4 h x hx
  · exact btw_l fun h=>keptU hf hn h x hx
  · exact btw_l fun h=>keptJ hf hn false h x hx
  · exact btw_l fun h=>keptJ hf hn true h x hx
noncomputable def genF0 (t:ByteArray):List DF:=((i_generators KK (t,())).getD ([],false,())).1
theorem gens_f:∀ t ∈ allNames,((i_generators KK (t,())).map fun y=>y.2.1 && y.1.all (isF 0) && decide (y.1.length<=5) && ((i_cloneName KK (y.1,())).map fun s=>cmpS .eql s t) == some true)=some true:=by decide +kernel
theorem gensF_ok {t:ByteArray} (h:t ∈ allNames):i_generators KK (t,())=some (genF0 t,true,())/\okL (genF0 t)/\(genF0 t).length<=5/\nameV (genF0 t)=t:=by
  obtain ⟨⟨l,o,u⟩,hy,e⟩:=Option.map_eq_some_iff.1 (gens_f t h)
  simp only [Bool.and_eq_true,decide_eq_true_eq,beq_iff_eq] at e
  obtain ⟨⟨⟨e1,e2⟩,e3⟩,e4⟩:=e
  have hg:genF0 t=l:=by rw [genF0,hy];rfl
  have hok:okL l:=⟨List.all_eq_true.1 e2,by omega⟩
  rw [i_cloneName_eq hok KK_ge] at e4
  have e4:cmpS .eql (nameV l) t=true:=by
    simpa using e4
  rw [hg]
  exact ⟨by rw [hy,e1],hok,e3,(eql_iff _ _).1 e4⟩
theorem eqD_refl3 (q:DF):eqD (.pair (.int .i64) (.pair (.int .i64) .unit)) q q=true:=by
  obtain ⟨a,b,u⟩:=q
  simp [eqD]
theorem fns_mem {n i:Nat} {L:List Nat} (h:i < L.length):(fnsN n L).getD ((i:Nat):Int).toNat ((0:Int),(0:Int),())=fN n (L.getD i 0):=fns_get n L i h
/-- functions put into functions, step by step -/
def runP (n:Nat):List ((Nat × Nat) × List Nat)->List Nat->List Nat
  | [],st=>st
  | s :: p,st=>runP n p (st ++ [putN s.1.2 n (s.2.map fun i=>st.getD i 0)])
def okP (G:List (Nat × Nat)):List ((Nat × Nat) × List Nat)->Nat->Bool
  | [],_=>true
  | s :: p,k=>G.contains s.1 && s.2.length == s.1.1 && s.2.all (fun i=>decide (i < k)) && okP G p (k + 1)
theorem genS_keep {fs:List (Nat × Nat)} {n x:Nat}:∀ (k:Nat) (d:Int) (D:List Int),0<=D.getD x 0->0<=(genS fs n k d D).getD x 0
  | 0,_,_,h=>h
  | k + 1,d,D,h=>by
    have h1:0<=(roundS fs n (knS D) d (D,false)).1.getD x 0:=ground_keep fs _ h
    simp only [genS]
    split
    · exact genS_keep k _ _ h1
    · exact h1
theorem proj_mem {fs:List (Nat × Nat)} {n i:Nat} (hi:i < n):projN n i ∈ knS (genD fs n) :=
  mem_knS.2 ⟨by rw [genD_len];exact projN_lt _ _,genS_keep KK 1 (initG n) (initG_proj hi)⟩
theorem put_mem {fs:List (Nat × Nat)} {n:Nat} (hn:n<=4) {f:Nat × Nat} (hf:f ∈ fs) {l:List Nat} (hl:l.length=f.1) (h:∀ x ∈ l,x ∈ knS (genD fs n)):putN f.2 n l ∈ knS (genD fs n):=by
  have hg:=initG_negs hn
  have hKK:(9223372036854775808:Nat)=KK:=rfl
  exact mem_knS.2 ⟨by rw [genD_len];exact putN_lt _ _ _,gen_closed KK 1 (initG n) (by decide) (by omega) f hf l hl h⟩
theorem runP_mem {fs G:List (Nat × Nat)} {n:Nat} (hn:n<=4) (hG:∀ g ∈ G,g ∈ fs):∀ (p:List ((Nat × Nat) × List Nat)) (st:List Nat),okP G p st.length=true->(∀ x ∈ st,x ∈ knS (genD fs n))->∀ x ∈ runP n p st,x ∈ knS (genD fs n)
  | [],st,_,h=>h
  | s :: p,st,ho,h=>by
    simp only [okP,Bool.and_eq_true,beq_iff_eq,List.all_eq_true,decide_eq_true_eq,List.contains_iff_mem] at ho
    obtain ⟨⟨⟨h1,h2⟩,h3⟩,h4⟩:=ho
    refine runP_mem hn hG p (st ++ [putN s.1.2 n (s.2.map fun i=>st.getD i 0)]) (by simpa using h4) fun x hx=>?_
    rcases List.mem_append.1 hx with e | e
    · exact h x e
    · rw [List.mem_singleton.1 e]
      refine put_mem hn (hG _ h1) (by simpa using h2) fun y hy=>?_
      obtain ⟨i,hi,rfl⟩:=List.mem_map.1 hy
      exact h _ (getD_mem (h3 i hi))
/-- few functions that generate the majority function, each with how -/
def majG:List (List (Nat × Nat) × List ((Nat × Nat) × List Nat)):=[
  ([(2,1)],[((2,1),[0,1]),((2,1),[0,0]),((2,1),[1,1]),((2,1),[4,5]),((2,1),[2,6]),((2,1),[3,7])]),
  ([(2,7)],[((2,7),[0,1]),((2,7),[0,0]),((2,7),[1,1]),((2,7),[4,5]),((2,7),[2,6]),((2,7),[3,7])]),
  ([(0,0),(2,11)],[((0,0),[]),((2,11),[0,1]),((2,11),[4,2]),((2,11),[3,5]),((2,11),[3,0]),((2,11),[1,2]),((2,11),[1,8]),((2,11),[7,9]),((2,11),[6,10])]),
  ([(0,0),(2,13)],[((2,13),[0,1]),((2,13),[3,1]),((0,0),[]),((2,13),[2,5]),((2,13),[4,6]),((2,13),[1,2]),((2,13),[0,8]),((2,13),[9,5]),((2,13),[7,10])]),
  ([(0,1),(2,2)],[((0,1),[]),((2,2),[0,1]),((2,2),[4,2]),((2,2),[3,5]),((2,2),[3,0]),((2,2),[1,2]),((2,2),[1,8]),((2,2),[7,9]),((2,2),[6,10])]),
  ([(0,1),(2,4)],[((2,4),[0,1]),((2,4),[3,1]),((0,1),[]),((2,4),[2,5]),((2,4),[4,6]),((2,4),[1,2]),((2,4),[0,8]),((2,4),[9,5]),((2,4),[7,10])]),
  ([(1,0),(2,11)],[((1,0),[0]),((2,11),[0,1]),((2,11),[4,2]),((2,11),[3,5]),((2,11),[3,0]),((2,11),[1,2]),((2,11),[1,8]),((2,11),[7,9]),((2,11),[6,10])]),
  ([(1,0),(2,13)],[((2,13),[0,1]),((2,13),[3,1]),((1,0),[0]),((2,13),[2,5]),((2,13),[4,6]),((2,13),[1,2]),((2,13),[0,8]),((2,13),[9,5]),((2,13),[7,10])]),
  ([(1,1),(2,2)],[((1,1),[0]),((2,2),[3,1]),((1,1),[4]),((1,1),[2]),((1,1),[1]),((2,2),[0,7]),((2,2),[6,8]),((2,2),[5,9])]),
  ([(1,1),(2,4)],[((1,1),[0]),((2,4),[3,1]),((1,1),[2]),((2,4),[4,5]),((1,1),[1]),((2,4),[0,7]),((1,1),[8]),((2,4),[6,9])]),
  ([(1,1),(2,8)],[((2,8),[0,1]),((1,1),[3]),((2,8),[0,2]),((1,1),[5]),((2,8),[1,2]),((1,1),[7]),((2,8),[6,8]),((2,8),[4,9]),((1,1),[10])]),
  ([(1,1),(2,11)],[((1,1),[0]),((2,11),[3,1]),((1,1),[4]),((1,1),[2]),((1,1),[1]),((2,11),[0,7]),((2,11),[6,8]),((2,11),[5,9])]),
  ([(1,1),(2,13)],[((1,1),[0]),((2,13),[3,1]),((1,1),[2]),((2,13),[4,5]),((1,1),[1]),((2,13),[0,7]),((1,1),[8]),((2,13),[6,9])]),
  ([(1,1),(2,14)],[((2,14),[0,1]),((1,1),[3]),((2,14),[0,2]),((1,1),[5]),((2,14),[1,2]),((1,1),[7]),((2,14),[6,8]),((2,14),[4,9]),((1,1),[10])]),
  ([(1,3),(2,2)],[((1,3),[0]),((2,2),[0,1]),((2,2),[4,2]),((2,2),[3,5]),((2,2),[3,0]),((2,2),[1,2]),((2,2),[1,8]),((2,2),[7,9]),((2,2),[6,10])]),
  ([(1,3),(2,4)],[((2,4),[0,1]),((2,4),[3,1]),((1,3),[0]),((2,4),[2,5]),((2,4),[4,6]),((2,4),[1,2]),((2,4),[0,8]),((2,4),[9,5]),((2,4),[7,10])]),
  ([(2,0),(2,11)],[((2,0),[0,0]),((2,11),[0,1]),((2,11),[4,2]),((2,11),[3,5]),((2,11),[3,0]),((2,11),[1,2]),((2,11),[1,8]),((2,11),[7,9]),((2,11),[6,10])]),
  ([(2,0),(2,13)],[((2,13),[0,1]),((2,13),[3,1]),((2,0),[0,0]),((2,13),[2,5]),((2,13),[4,6]),((2,13),[1,2]),((2,13),[0,8]),((2,13),[9,5]),((2,13),[7,10])]),
  ([(2,2),(2,3)],[((2,2),[0,0]),((2,3),[0,3]),((2,2),[0,1]),((2,2),[5,2]),((2,2),[4,6]),((2,3),[0,0]),((2,2),[1,2]),((2,2),[1,9]),((2,2),[8,10]),((2,2),[7,11])]),
  ([(2,2),(2,5)],[((2,2),[0,0]),((2,5),[3,0]),((2,2),[0,1]),((2,2),[5,2]),((2,2),[4,6]),((2,5),[0,0]),((2,2),[1,2]),((2,2),[1,9]),((2,2),[8,10]),((2,2),[7,11])]),
  ([(2,2),(2,6)],[((2,2),[1,0]),((2,6),[0,3]),((2,6),[0,1]),((2,2),[5,2]),((2,2),[4,6])]),
  ([(2,2),(2,9)],[((2,2),[0,1]),((2,2),[2,1]),((2,9),[3,4]),((2,9),[0,2]),((2,2),[6,0]),((2,2),[5,7])]),
  ([(2,2),(2,11)],[((2,2),[1,2]),((2,11),[0,3]),((2,11),[0,0]),((2,2),[5,1]),((2,2),[0,2]),((2,2),[0,7]),((2,2),[6,8]),((2,2),[4,9])]),
  ([(2,2),(2,13)],[((2,2),[0,1]),((2,13),[3,2]),((2,13),[0,0]),((2,2),[5,0]),((2,2),[1,2]),((2,2),[1,7]),((2,2),[6,8]),((2,2),[4,9])]),
  ([(2,2),(2,14)],[((2,14),[0,1]),((2,2),[3,2]),((2,2),[0,1]),((2,2),[0,5]),((2,2),[4,6]),((2,2),[3,7])]),
  ([(2,2),(2,15)],[((2,15),[0,0]),((2,2),[0,1]),((2,2),[4,2]),((2,2),[3,5]),((2,2),[3,0]),((2,2),[1,2]),((2,2),[1,8]),((2,2),[7,9]),((2,2),[6,10])]),
  ([(2,3),(2,4)],[((2,3),[0,0]),((2,4),[3,1]),((2,3),[0,2]),((2,4),[4,5]),((2,3),[0,1]),((2,4),[0,7]),((2,3),[0,8]),((2,4),[6,9])]),
  ([(2,3),(2,8)],[((2,8),[0,1]),((2,3),[0,3]),((2,8),[0,2]),((2,3),[0,5]),((2,8),[1,2]),((2,3),[0,7]),((2,8),[6,8]),((2,8),[4,9]),((2,3),[0,10])]),
  ([(2,3),(2,11)],[((2,3),[0,0]),((2,11),[3,1]),((2,3),[0,4]),((2,3),[0,2]),((2,3),[0,1]),((2,11),[0,7]),((2,11),[6,8]),((2,11),[5,9])]),
  ([(2,3),(2,13)],[((2,3),[0,0]),((2,13),[3,1]),((2,3),[0,2]),((2,13),[4,5]),((2,3),[0,1]),((2,13),[0,7]),((2,3),[0,8]),((2,13),[6,9])]),
  ([(2,3),(2,14)],[((2,14),[0,1]),((2,3),[0,3]),((2,14),[0,2]),((2,3),[0,5]),((2,14),[1,2]),((2,3),[0,7]),((2,14),[6,8]),((2,14),[4,9]),((2,3),[0,10])]),
  ([(2,4),(2,5)],[((2,4),[0,1]),((2,4),[3,1]),((2,5),[2,0]),((2,4),[4,5]),((2,4),[1,2]),((2,4),[0,7]),((2,4),[0,0]),((2,5),[9,0]),((2,4),[8,10]),((2,4),[6,11])]),
  ([(2,4),(2,6)],[((2,6),[1,2]),((2,4),[0,3]),((2,4),[1,2]),((2,6),[1,5]),((2,4),[4,6])]),
  ([(2,4),(2,9)],[((2,9),[0,1]),((2,4),[0,3]),((2,4),[2,0]),((2,4),[2,1]),((2,9),[5,6]),((2,4),[4,7])]),
  ([(2,4),(2,11)],[((2,4),[1,2]),((2,4),[0,3]),((2,4),[2,1]),((2,4),[0,5]),((2,11),[1,2]),((2,11),[1,7]),((2,4),[6,8]),((2,4),[4,9])]),
  ([(2,4),(2,13)],[((2,4),[1,2]),((2,4),[0,3]),((2,4),[2,1]),((2,4),[0,5]),((2,13),[1,2]),((2,13),[7,2]),((2,4),[6,8]),((2,4),[4,9])]),
  ([(2,4),(2,14)],[((2,4),[1,2]),((2,4),[0,3]),((2,4),[2,1]),((2,4),[0,5]),((2,14),[1,2]),((2,4),[6,7]),((2,4),[4,8])]),
  ([(2,4),(2,15)],[((2,4),[0,1]),((2,4),[3,1]),((2,15),[0,0]),((2,4),[2,5]),((2,4),[4,6]),((2,4),[1,2]),((2,4),[0,8]),((2,4),[9,5]),((2,4),[7,10])]),
  ([(2,5),(2,8)],[((2,8),[0,1]),((2,5),[3,0]),((2,8),[0,2]),((2,5),[5,0]),((2,8),[1,2]),((2,5),[7,0]),((2,8),[6,8]),((2,8),[4,9]),((2,5),[10,0])]),
  ([(2,5),(2,11)],[((2,5),[0,0]),((2,11),[3,1]),((2,5),[4,0]),((2,5),[2,0]),((2,5),[1,0]),((2,11),[0,7]),((2,11),[6,8]),((2,11),[5,9])]),
  ([(2,5),(2,13)],[((2,5),[0,0]),((2,13),[3,1]),((2,5),[2,0]),((2,13),[4,5]),((2,5),[1,0]),((2,13),[0,7]),((2,5),[8,0]),((2,13),[6,9])]),
  ([(2,5),(2,14)],[((2,14),[0,1]),((2,5),[3,0]),((2,14),[0,2]),((2,5),[5,0]),((2,14),[1,2]),((2,5),[7,0]),((2,14),[6,8]),((2,14),[4,9]),((2,5),[10,0])]),
  ([(2,6),(2,8)],[((2,6),[0,1]),((2,6),[0,2]),((2,8),[3,4]),((2,6),[0,5])]),
  ([(2,6),(2,11)],[((2,11),[0,0]),((2,6),[0,3]),((2,6),[1,2]),((2,6),[0,1]),((2,11),[5,6]),((2,6),[4,7])]),
  ([(2,6),(2,13)],[((2,13),[0,0]),((2,6),[0,3]),((2,6),[0,1]),((2,6),[1,2]),((2,13),[5,6]),((2,6),[4,7])]),
  ([(2,6),(2,14)],[((2,14),[0,1]),((2,14),[0,2]),((2,14),[1,2]),((2,6),[4,5]),((2,6),[3,6])]),
  ([(2,8),(2,9)],[((2,8),[0,1]),((2,8),[0,2]),((2,8),[1,2]),((2,9),[4,5]),((2,9),[3,6])]),
  ([(2,8),(2,11)],[((2,11),[0,1]),((2,11),[0,3]),((2,11),[0,2]),((2,11),[0,5]),((2,11),[1,2]),((2,11),[1,7]),((2,8),[6,8]),((2,8),[4,9])]),
  ([(2,8),(2,13)],[((2,13),[0,1]),((2,13),[3,1]),((2,13),[0,2]),((2,13),[5,2]),((2,13),[1,2]),((2,13),[7,2]),((2,8),[6,8]),((2,8),[4,9])]),
  ([(2,8),(2,14)],[((2,14),[0,1]),((2,14),[0,2]),((2,14),[1,2]),((2,8),[4,5]),((2,8),[3,6])]),
  ([(2,9),(2,11)],[((2,9),[0,1]),((2,9),[1,2]),((2,11),[3,4]),((2,9),[0,5])]),
  ([(2,9),(2,13)],[((2,9),[1,2]),((2,9),[0,1]),((2,13),[3,4]),((2,9),[0,5])]),
  ([(2,9),(2,14)],[((2,9),[0,1]),((2,9),[0,2]),((2,14),[3,4]),((2,9),[0,5])])]
theorem majG_ok:∀ g ∈ majG,okP g.1 g.2 3=true/\232 ∈ runP 3 g.2 [projN 3 0,projN 3 1,projN 3 2]:=by decide +kernel
def all22:List (Nat × Nat):=(List.range 3).flatMap fun n=>(List.range (2 ^ 2 ^ n)).map fun b=>(n,b)
theorem mem22 {n b:Nat} (hn:n<=2) (hb:b < 2 ^ 2 ^ n):(n,b) ∈ all22:=by
  unfold all22
  exact List.mem_flatMap.2 ⟨n,List.mem_range.2 (by omega),List.mem_map.2 ⟨b,List.mem_range.2 hb,rfl⟩⟩
def chkM (l:List (Nat × Nat)):Bool:=majG.any fun g=>g.1.all fun f=>l.contains f
/-- classes that lack the majority function -/
def offC (k:Nat) (f:Nat × Nat):Bool:=match k with
  | 0=>!affI f.1 f.2
  | 1=>!decide (degN f.1 f.2 0=9)
  | 2=>!decide (degN f.1 f.2 1=9)
  | 3=>!joinB false f.1 f.2
  | _=>!joinB true f.1 f.2
theorem tree_ok:((all22.filter (offC 0)).all fun a=>chkM [a] || (all22.filter (offC 1)).all fun b=>chkM [a,b] || (all22.filter (offC 2)).all fun c=>chkM [a,b,c] || (all22.filter (offC 3)).all fun d=>chkM [a,b,c,d] || (all22.filter (offC 4)).all fun e=>chkM [a,b,c,d,e])=true:=by decide +kernel
theorem chkM_of {l fs:List (Nat × Nat)} (h:chkM l=true) (hs:∀ f ∈ l,f ∈ fs):232 ∈ knS (genD fs 3):=by
  obtain ⟨g,hg,ha⟩:=List.any_eq_true.1 h
  obtain ⟨h1,h2⟩:=majG_ok g hg
  refine runP_mem (by decide) (fun f hf=>hs f (List.contains_iff_mem.1 (List.all_eq_true.1 ha f hf))) g.2 [projN 3 0,projN 3 1,projN 3 2] h1 (fun x hx=>?_) 232 h2
  simp only [List.mem_cons,List.not_mem_nil,or_false] at hx
  rcases hx with rfl | rfl | rfl
  · exact proj_mem (by decide)
  · exact proj_mem (by decide)
  · exact proj_mem (by decide)
theorem maj_gen {fs:List (Nat × Nat)} (h2:∀ f ∈ fs,f.1<=2/\f.2 < 2 ^ 2 ^ f.1) (ho:∀ k,k < 5->∃ f ∈ fs,offC k f=true):232 ∈ knS (genD fs 3):=by
  obtain ⟨a,a1,a2⟩:=ho 0 (by decide)
  obtain ⟨b,b1,b2⟩:=ho 1 (by decide)
  obtain ⟨c,c1,c2⟩:=ho 2 (by decide)
  obtain ⟨d,d1,d2⟩:=ho 3 (by decide)
  obtain ⟨e,e1,e2⟩:=ho 4 (by decide)
  have hm:∀ k f,f ∈ fs->offC k f=true->f ∈ all22.filter (offC k):=fun k f hf ho=>List.mem_filter.2 ⟨mem22 (h2 f hf).1 (h2 f hf).2,ho⟩
  have hs:∀ l:List (Nat × Nat),(∀ f ∈ l,f=a\/f=b\/f=c\/f=d\/f=e)->∀ f ∈ l,f ∈ fs:=fun l h f hf=>by
    rcases h f hf with rfl | rfl | rfl | rfl | rfl <;> assumption
  have t:=List.all_eq_true.1 tree_ok a (hm 0 a a1 a2)
  rcases (Bool.or_eq_true _ _).mp t with t | t
  · exact chkM_of t (hs _ (by simp))
  have t:=List.all_eq_true.1 t b (hm 1 b b1 b2)
  rcases (Bool.or_eq_true _ _).mp t with t | t
  · exact chkM_of t (hs _ (by simp))
  have t:=List.all_eq_true.1 t c (hm 2 c c1 c2)
  rcases (Bool.or_eq_true _ _).mp t with t | t
  · exact chkM_of t (hs _ (by simp))
  have t:=List.all_eq_true.1 t d (hm 3 d d1 d2)
  rcases (Bool.or_eq_true _ _).mp t with t | t
  · exact chkM_of t (hs _ (by simp))
  have t:=List.all_eq_true.1 t e (hm 4 e e1 e2)
  exact chkM_of t (hs _ (by simp))
def majN:List (List UInt8):=([⟨#[68,50]⟩,⟨#[68,49]⟩,⟨#[68]⟩,⟨#[77,50]⟩,⟨#[77,48]⟩,⟨#[77,49]⟩,⟨#[77]⟩,⟨#[82,50]⟩,⟨#[82,48]⟩,⟨#[82,49]⟩,⟨#[82]⟩,⟨#[66,70]⟩,
  ⟨#[83,48,48,94,50]⟩,⟨#[83,48,49,94,50]⟩,⟨#[83,48,50,94,50]⟩,⟨#[83,48,94,50]⟩,⟨#[83,49,48,94,50]⟩,⟨#[83,49,49,94,50]⟩,⟨#[83,49,50,94,50]⟩,⟨#[83,49,94,50]⟩]:List ByteArray).map fun b=>b.data.toList
theorem r_names:∀ z o d m:Bool,∀ p ∈ [0,1,2],∀ q ∈ [0,1,2],(nameB z o d m false false false false p q).data.toList ∈ majN:=by decide +kernel
theorem p_names:∀ z o d m a u v e:Bool,∀ p ∈ [0,1,9],∀ q ∈ [0,1,9],(d=true->u=true)->(a || decide (p=9) || decide (q=9) || v || e)=true->¬ (nameB z o d m a u v e p q).data.toList ∈ majN:=by decide +kernel
theorem small_facts:∀ f ∈ all22,(dualI f.1 f.2=true->(essL f.1 f.2).length<=1)/\degN f.1 f.2 0 ∈ [0,1,9]/\degN f.1 f.2 1 ∈ [0,1,9]:=by decide +kernel
theorem maj_facts:pU (fN 3 232)=false/\pJ false (fN 3 232)=false/\pJ true (fN 3 232)=false/\pC 4 (fN 3 232)=false/\pD 0 (fN 3 232)=2/\pD 1 (fN 3 232)=2:=by decide +kernel
theorem min_in {S:List Nat} {c:Nat}:∀ (l:List DF) (a:Nat),a ∈ S->(∀ f ∈ l,pD c f ∈ S)->l.foldl (fun a f=>min a (pD c f)) a ∈ S
  | [],a,h,_=>h
  | f :: l,a,h,hl=>by
    rw [List.foldl_cons]
    refine min_in l _ ?_ fun g hg=>hl g (List.mem_cons_of_mem _ hg)
    rcases Nat.le_total a (pD c f) with e | e
    · rw [Nat.min_eq_left e];exact h
    · rw [Nat.min_eq_right e];exact hl f (List.mem_cons_self ..)
theorem le2_in {x:Nat} (h:x<=2):x ∈ [0,1,2]:=by
  have:x=0\/x=1\/x=2:=by omega
  rcases this with rfl | rfl | rfl <;> decide
theorem all_off {fs:List (Nat × Nat)} {c:DF->Bool} (h:(fsN fs).all c=false):∃ f ∈ fs,c (fN f.1 f.2)=false:=by
  rw [Bool.eq_false_iff,Ne,List.all_eq_true] at h
  refine Classical.byContradiction fun hn=>h fun g hg=>?_
  obtain ⟨f,hf,rfl⟩:=List.mem_map.1 hg
  cases hc:c (fN f.1 f.2)
  · exact absurd ⟨f,hf,hc⟩ hn
  · rfl
theorem least_off {fs:List (Nat × Nat)} {c:Nat} (h:leastD c (fsN fs) ≠ 9):∃ f ∈ fs,degN f.1 f.2 c ≠ 9:=by
  refine Classical.byContradiction fun hn=>h ?_
  have:=min_in (S:=[9]) (c:=c) (fsN fs) 9 (by simp) fun g hg=>by
    obtain ⟨f,hf,rfl⟩:=List.mem_map.1 hg
    rw [List.mem_singleton]
    exact Classical.byContradiction fun hd=>hn ⟨f,hf,hd⟩
  exact List.mem_singleton.1 this
/-- the name holds the majority function: then the list generates it -/
theorem maj_below {fs:List (Nat × Nat)} (hf:okFs fs) (h2:∀ f ∈ fs,f.1<=2) {G:List DF} (e:nameV (G ++ [fN 3 232])=nameV (fsN fs)):232 ∈ knS (genD fs 3):=by
  have hs:∀ f ∈ fs,f.1<=2/\f.2 < 2 ^ 2 ^ f.1:=fun f hff=>⟨h2 f hff,(hf.1 f hff).2⟩
  have hsm:∀ f ∈ fs,f ∈ all22:=fun f hff=>mem22 (hs f hff).1 (hs f hff).2
  obtain ⟨m1,m2,m3,m4,m5,m6⟩:=maj_facts
  have hR:(nameV (G ++ [fN 3 232])).data.toList ∈ majN:=by
    have g0:leastD 0 (G ++ [fN 3 232])<=2:=by rw [least_snoc,m5];exact Nat.min_le_right _ _
    have g1:leastD 1 (G ++ [fN 3 232])<=2:=by rw [least_snoc,m6];exact Nat.min_le_right _ _
    unfold nameV
    rw [show (G ++ [fN 3 232]).all pU=false by simp [m1],show (G ++ [fN 3 232]).all (pJ false)=false by simp [m2],show (G ++ [fN 3 232]).all (pJ true)=false by simp [m3],show (G ++ [fN 3 232]).all (pC 4)=false by simp [m4]]
    exact r_names _ _ _ _ _ (le2_in g0) _ (le2_in g1)
  rw [e] at hR
  have hd:(fsN fs).all (pC 2)=true->(fsN fs).all pU=true:=fun h=>by
    rw [List.all_eq_true] at h ⊢
    intro g hg
    obtain ⟨f,hff,rfl⟩:=List.mem_map.1 hg
    exact decide_eq_true ((small_facts f (hsm f hff)).1 (h _ hg))
  have hp:∀ c,c=0\/c=1->leastD c (fsN fs) ∈ [0,1,9]:=fun c hc=>min_in _ 9 (by decide) fun g hg=>by
    obtain ⟨f,hff,rfl⟩:=List.mem_map.1 hg
    rcases hc with rfl | rfl
    · exact (small_facts f (hsm f hff)).2.1
    · exact (small_facts f (hsm f hff)).2.2
  have hb:¬ ((fsN fs).all (pC 4) || decide (leastD 0 (fsN fs)=9) || decide (leastD 1 (fsN fs)=9) || (fsN fs).all (pJ false) || (fsN fs).all (pJ true))=true:=fun hb =>
    p_names _ _ _ _ _ _ _ _ _ (hp 0 (Or.inl rfl)) _ (hp 1 (Or.inr rfl)) hd hb hR
  simp only [Bool.or_eq_true,decide_eq_true_eq,not_or] at hb
  obtain ⟨⟨⟨⟨b1,b2⟩,b3⟩,b4⟩,b5⟩:=hb
  refine maj_gen hs fun k hk=>?_
  have hk:k=0\/k=1\/k=2\/k=3\/k=4:=by omega
  rcases hk with rfl | rfl | rfl | rfl | rfl
  · obtain ⟨f,hff,h⟩:=all_off (Bool.eq_false_iff.2 b1)
    exact ⟨f,hff,by show (!affI f.1 f.2)=true;rw [show affI f.1 f.2=false from h];rfl⟩
  · obtain ⟨f,hff,h⟩:=least_off b2
    exact ⟨f,hff,by show (!decide (degN f.1 f.2 0=9))=true;rw [decide_eq_false h];rfl⟩
  · obtain ⟨f,hff,h⟩:=least_off b3
    exact ⟨f,hff,by show (!decide (degN f.1 f.2 1=9))=true;rw [decide_eq_false h];rfl⟩
  · obtain ⟨f,hff,h⟩:=all_off (Bool.eq_false_iff.2 b4)
    exact ⟨f,hff,by show (!joinB false f.1 f.2)=true;rw [show joinB false f.1 f.2=false from h];rfl⟩
  · obtain ⟨f,hff,h⟩:=all_off (Bool.eq_false_iff.2 b5)
    exact ⟨f,hff,by show (!joinB true f.1 f.2)=true;rw [show joinB true f.1 f.2=false from h];rfl⟩
theorem sc_l7 {a b gb x:Nat} (ha:a<=4) (hb:b<=4) (hg:gb < 65536) (hx:x < 65536) (v2:DF) (v9:Int) (kx:DF->DF->Int->Int->Int->Int->Int->Option R):∀ (m i k:Nat),i + m=a->m < k →
    s_l10Commute_l7 K k v2 ((b:Int),(gb:Int),()) (a:Int) (b:Int) (x:Int) ((mkB (fun i=>gb.testBit (rowXc b x i)) i:Nat):Int) v9 (i:Int) kx=kx v2 ((b:Int),(gb:Int),()) (a:Int) (b:Int) (x:Int) ((rowsC gb a b x:Nat):Int) v9
  | _,_,0,_,h=>by omega
  | 0,i,k + 1,e,_=>by
    obtain rfl:i=a:=by omega
    simp only [s_l10Commute_l7];rw [ite_f (decide_eq_false (by omega))];rfl
  | m + 1,i,k + 1,e,hk=>by
    have ih:=sc_l7 ha hb hg hx v2 v9 kx m (i + 1) k (by omega) (by omega)
    rw [mkB_succ] at ih
    have hm:=mul16 (show i<=a by omega) ha hb
    have h16:=pw4 hb
    have hp1:1<=2 ^ b:=Nat.one_le_two_pow
    have hs:x >>> (i * b)<=x:=by rw [Nat.shiftRight_eq_div_pow];exact Nat.div_le_self _ _
    have hr:rowXc b x i < 16:=Nat.lt_of_lt_of_le (Nat.mod_lt _ (by omega)) h16
    simp only [s_l10Commute_l7]
    rw [ite_t (decide_eq_true (by omega)),w64mul (by omega),ite_t (u64_dec _),u64n (by omega),shrI_n _ _ (by omega),s_l01Rows_eq (by omega),some_bind',w64 (x:=((2 ^ b:Nat):Int) - 1) (by omega) (by omega),show ((2 ^ b:Nat):Int) - 1=((2 ^ b - 1:Nat):Int) by omega,bitI_and (by omega) (by omega),Nat.and_two_pow_sub_one_eq_mod,show x >>> (i * b) % 2 ^ b=rowXc b x i from rfl,
      s_l01At_eq (by omega) (by omega),some_bind',ite_t (u64_dec _),u64n (by omega),shl_bt (by omega),or_dg (mkB_lt _ _) (by omega),w64s (by omega),ih]
theorem sc_l16 {a b x j:Nat} (ha:a<=4) (hb:b<=4) (hj:j < 4) (hx:x < 65536) (v2 v3:DF) (v8 v9:Int) (kx:DF->DF->Int->Int->Int->Int->Int->Int->Int->Option R):∀ (m i k:Nat),i + m=a->m < k →
    s_l10Commute_l16 K k v2 v3 (a:Int) (b:Int) (x:Int) v8 v9 (j:Int) ((mkB (fun i=>x.testBit (i * b + j)) i:Nat):Int) (i:Int) kx=kx v2 v3 (a:Int) (b:Int) (x:Int) v8 v9 (j:Int) ((colC a b x j:Nat):Int)
  | _,_,0,_,h=>by omega
  | 0,i,k + 1,e,_=>by
    obtain rfl:i=a:=by omega
    simp only [s_l10Commute_l16];rw [ite_f (decide_eq_false (by omega))];rfl
  | m + 1,i,k + 1,e,hk=>by
    have ih:=sc_l16 ha hb hj hx v2 v3 v8 v9 kx m (i + 1) k (by omega) (by omega)
    rw [mkB_succ] at ih
    have hm:=mul16 (show i<=a by omega) ha hb
    simp only [s_l10Commute_l16]
    rw [ite_t (decide_eq_true (by omega)),ite_t (u64_dec _),ite_t (u64_dec _),w64mul (by omega),<-Int.natCast_add,w64n (by omega),u64n (by omega),u64n (by omega),bitI_bt _ (by omega),shl_bt (by omega),or_dg (mkB_lt _ _) (by omega),w64s (by omega),ih]
theorem sc_l12 {a b fb x:Nat} (ha:a<=4) (hb:b<=4) (hf:fb < 65536) (hx:x < 65536) (v3:DF) (v8:Int) (kx:DF->DF->Int->Int->Int->Int->Int->Option R):∀ (m j k:Nat),j + m=b->100 + m < k →
    s_l10Commute_l12 K k ((a:Int),(fb:Int),()) v3 (a:Int) (b:Int) (x:Int) v8 ((mkB (fun j=>fb.testBit (colC a b x j)) j:Nat):Int) (j:Int) kx=kx ((a:Int),(fb:Int),()) v3 (a:Int) (b:Int) (x:Int) v8 ((colsC fb a b x:Nat):Int)
  | _,_,0,_,h=>by omega
  | 0,j,k + 1,e,_=>by
    obtain rfl:j=b:=by omega
    simp only [s_l10Commute_l12];rw [ite_f (decide_eq_false (by omega))];rfl
  | m + 1,j,k + 1,e,hk=>by
    have ih:=sc_l12 ha hb hf hx v3 v8 kx m (j + 1) k (by omega) (by omega)
    rw [mkB_succ] at ih
    have h16:=fun kx=>sc_l16 (K:=K) (R:=R) (a:=a) (b:=b) (x:=x) (j:=j) ha hb (by omega) hx ((a:Int),(fb:Int),()) v3 v8 ((mkB (fun j=>fb.testBit (colC a b x j)) j:Nat):Int) kx a 0 k (by omega) (by omega)
    simp only [mkB] at h16
    rw [show ((0:Nat):Int)=0 from rfl] at h16
    have hc:colC a b x j < 16:=Nat.lt_of_lt_of_le (mkB_lt _ _) (pw4 ha)
    simp only [s_l10Commute_l12]
    rw [ite_t (decide_eq_true (by omega)),h16,s_l01At_eq (by omega) (by omega),some_bind',ite_t (u64_dec _),u64n (by omega),shl_bt (by omega),or_dg (mkB_lt _ _) (by omega),w64s (by omega),ih]
theorem sc_l3 {a b fb gb:Nat} (ha:a<=4) (hb:b<=4) (hf:fb < 65536) (hg:gb < 65536) (kx:Option R) (kr:Bool->Option R) (N:Nat) (hN:N=2 ^ (a * b)):∀ (m x k:Nat),x + m=N->1000 + m < k →
    s_l10Commute_l3 K k ((a:Int),(fb:Int),()) ((b:Int),(gb:Int),()) (a:Int) (b:Int) (x:Int) kx kr=if allX (okXc fb gb a b) x m=true then kx else kr false
  | _,_,0,_,h=>by omega
  | 0,x,k + 1,e,_=>by
    have hm:=mul16 (Nat.le_refl a) ha hb
    simp only [s_l10Commute_l3];rw [w64mul (by omega),s_l01Rows_eq (by omega),some_bind',ite_f (decide_eq_false (by omega))];rfl
  | m + 1,x,k + 1,e,hk=>by
    have hm:=mul16 (Nat.le_refl a) ha hb
    have hN2:2 ^ (a * b)<=65536:=Nat.le_trans (Nat.pow_le_pow_right (n:=2) (by decide) hm) (by decide)
    have ih:=sc_l3 ha hb hf hg kx kr N hN m (x + 1) k (by omega) (by omega)
    have h7:=fun kx=>sc_l7 (K:=K) (R:=R) (a:=a) (b:=b) (gb:=gb) (x:=x) ha hb hg (by omega) ((a:Int),(fb:Int),()) 0 kx a 0 k (by omega) (by omega)
    have h12:=fun kx=>sc_l12 (K:=K) (R:=R) (a:=a) (b:=b) (fb:=fb) (x:=x) ha hb hf (by omega) ((b:Int),(gb:Int),()) ((rowsC gb a b x:Nat):Int) kx b 0 k (by omega) (by omega)
    simp only [mkB] at h7 h12
    rw [show ((0:Nat):Int)=0 from rfl] at h7 h12
    have hr:rowsC gb a b x < 16:=Nat.lt_of_lt_of_le (mkB_lt _ _) (pw4 ha)
    have hc:colsC fb a b x < 16:=Nat.lt_of_lt_of_le (mkB_lt _ _) (pw4 hb)
    simp only [s_l10Commute_l3]
    rw [w64mul (by omega),s_l01Rows_eq (by omega),some_bind',ite_t (decide_eq_true (by omega)),h7,h12,s_l01At_eq (by omega) (by omega),some_bind',s_l01At_eq (by omega) (by omega),some_bind',w64s (by omega),ih]
    have e:(!decide (bt fb (rowsC gb a b x)=bt gb (colsC fb a b x)))=!(okXc fb gb a b x):=by
      unfold okXc bt;cases fb.testBit (rowsC gb a b x) <;> cases gb.testBit (colsC fb a b x) <;> rfl
    rw [e]
    rw [allX]
    cases h:okXc fb gb a b x
    · rfl
    · rw [ite_f (c:=!true) rfl,Bool.true_and]
def cmF (f g:DF):Bool:=cmB f.2.1.toNat g.2.1.toNat f.1.toNat g.1.toNat
theorem s_com_eq {f g:DF} (hf:isF 0 f=true) (hg:isF 0 g=true) (hK:4611686018427387904<=K):s_l10Commute K (f,g,())=some (cmF f g):=by
  obtain ⟨a,fb,rfl,ha,hfb,_⟩:=isF_nat hf (by decide)
  obtain ⟨b,gb,rfl,hb,hgb,_⟩:=isF_nat hg (by decide)
  have hm:=mul16 (Nat.le_refl a) ha hb
  have hN:2 ^ (a * b)<=65536:=Nat.le_trans (Nat.pow_le_pow_right (n:=2) (by decide) hm) (by decide)
  have h3:=sc_l3 (K:=K) (R:=Bool) ha hb (rel_lt ha hfb) (rel_lt hb hgb) (some true) (fun z=>some z) (2 ^ (a * b)) rfl (2 ^ (a * b)) 0 K (by omega) (by omega)
  rw [show ((0:Nat):Int)=0 from rfl] at h3
  simp only [s_l10Commute]
  rw [h3]
  show _=some (allX (okXc fb gb a b) 0 (2 ^ (a * b)))
  cases allX (okXc fb gb a b) 0 (2 ^ (a * b)) <;> rfl
theorem i_com_eq {f g:DF} (hf:isF 0 f=true) (hg:isF 0 g=true) (hK:4611686018427387904<=K):i_commute K (f,g,())=some (cmF f g):=by
  obtain ⟨a,fb,rfl,ha,hfb,_⟩:=isF_nat hf (by decide)
  obtain ⟨b,gb,rfl,hb,hgb,_⟩:=isF_nat hg (by decide)
  have hm:=mul16 (Nat.le_refl a) ha hb
  have hN:2 ^ (a * b)<=65536:=Nat.le_trans (Nat.pow_le_pow_right (n:=2) (by decide) hm) (by decide)
  have h3:=cm_l3 (K:=K) (R:=Bool) ha hb (rel_lt ha hfb) (rel_lt hb hgb) (some true) (fun z=>some z) (2 ^ (a * b)) hN (2 ^ (a * b)) 0 K (by omega) (by omega)
  rw [show ((0:Nat):Int)=0 from rfl] at h3
  simp only [i_commute]
  rw [w64mul (by omega),ite_t (nn _),shl1 (by omega),h3]
  show _=some (allX (okXc fb gb a b) 0 (2 ^ (a * b)))
  cases allX (okXc fb gb a b) 0 (2 ^ (a * b)) <;> rfl
def trX (a b x:Nat):Nat:=mkB (fun t=>x.testBit ((t % a) * b + t / a)) (a * b)
theorem rowXc_bit (b x i:Nat):rowXc b x i=mkB (fun j=>x.testBit (i * b + j)) b:=by
  apply Nat.eq_of_testBit_eq
  intro j
  rw [rowXc,Nat.testBit_mod_two_pow,Nat.testBit_shiftRight,mkB_bit]
theorem trX_bit {a b x i j:Nat} (hi:i < a) (hj:j < b):(trX a b x).testBit (j * a + i)=x.testBit (i * b + j):=by
  have hlt:j * a + i < a * b:=by
    have h1:(j + 1) * a<=b * a:=Nat.mul_le_mul_right a hj
    rw [Nat.add_mul,Nat.one_mul,Nat.mul_comm b a] at h1
    omega
  rw [trX,mkB_bit,decide_eq_true hlt,Bool.true_and,show (j * a + i) % a=i by rw [Nat.add_comm,Nat.add_mul_mod_self_right,Nat.mod_eq_of_lt hi],show (j * a + i) / a=j by rw [Nat.add_comm,Nat.add_mul_div_right _ _ (by omega),Nat.div_eq_of_lt hi,Nat.zero_add]]
theorem com_turn {a b fb gb:Nat} (h:cmB gb fb b a=true):cmB fb gb a b=true:=by
  unfold cmB at h ⊢
  rw [allX_iff] at h ⊢
  intro x h0 h1
  have hx:trX a b x < 2 ^ (b * a):=by rw [Nat.mul_comm];exact mkB_lt _ _
  have:=h (trX a b x) (Nat.zero_le _) (by omega)
  have e1:rowsC fb b a (trX a b x)=colsC fb a b x:=by
    unfold rowsC colsC
    refine mkB_congr fun j hj=>?_
    congr 1
    rw [rowXc_bit,colC]
    exact mkB_congr fun i hi=>trX_bit hi hj
  have e2:colsC gb b a (trX a b x)=rowsC gb a b x:=by
    unfold rowsC colsC
    refine mkB_congr fun i hi=>?_
    congr 1
    rw [rowXc_bit,colC]
    exact mkB_congr fun j hj=>trX_bit hi hj
  unfold okXc at this ⊢
  rw [e1,e2] at this
  rw [beq_iff_eq] at this ⊢
  exact this.symm
theorem com_sym (f g:DF):cmF f g=cmF g f:=by rw [Bool.eq_iff_iff];exact ⟨com_turn,com_turn⟩
theorem com_proj {n i:Nat} (hi:i < n) (g:DF):cmF (fN n (projN n i)) g=true:=by
  show cmB (projN n i) g.2.1.toNat n g.1.toNat=true
  unfold cmB
  rw [allX_iff]
  intro x _ _
  unfold okXc
  rw [beq_iff_eq]
  have hr:rowsC g.2.1.toNat n g.1.toNat x < 2 ^ n:=mkB_lt _ _
  have e:colsC (projN n i) n g.1.toNat x=rowXc g.1.toNat x i:=by
    rw [rowXc_bit,colsC]
    refine mkB_congr fun j hj=>?_
    rw [projN,mkB_bit,decide_eq_true (show colC n g.1.toNat x j < 2 ^ n from mkB_lt _ _),Bool.true_and,colC,mkB_bit,decide_eq_true hi,Bool.true_and]
  rw [e,projN,mkB_bit,decide_eq_true hr,Bool.true_and,rowsC,mkB_bit,decide_eq_true hi,Bool.true_and]
def areC (f g:DF):Bool × Int × Unit:=if (isF 0 f && isF 0 g)=true then (cmF f g,0,()) else (false,1,())
theorem i_are_eq (f g:DF) (hK:4611686018427387904<=K):i_AreCommuting K (f,g,())=some (areC f g):=by
  simp only [i_AreCommuting]
  rw [i_areFuncs_eq (by simp) hK,some_bind',show ([f,g].all (isF 0))=(isF 0 f && isF 0 g) by simp,areC]
  cases hf:isF 0 f
  · rfl
  · cases hg:isF 0 g
    · rfl
    · rw [ite_f (by rfl),i_com_eq hf hg hK,some_bind',if_pos (by rfl)]
theorem s_are_eq (f g:DF) (hK:4611686018427387904<=K):s_AreCommuting K (f,g,())=some (areC f g):=by
  simp only [s_AreCommuting]
  rw [s_l01Is_eq,some_bind',areC]
  cases hf:isF 0 f
  · rfl
  · rw [ite_f (by rfl),s_l01Is_eq,some_bind']
    cases hg:isF 0 g
    · rfl
    · rw [ite_f (by rfl),s_com_eq hf hg hK,some_bind',if_pos (by rfl)]
theorem isF_fn {n b:Nat} (hn:n<=4) (hb:b < 2 ^ 2 ^ n):isF 0 (fN n b)=true:=by
  show isF 0 ((n:Int),(b:Int),())=true
  simp only [isF,Bool.and_eq_true,decide_eq_true_eq,Int.toNat_natCast]
  exact ⟨⟨⟨by omega,by omega⟩,by omega⟩,Int.ofNat_lt.2 hb⟩
def cenP (n:Nat) (l:List DF) (b:Nat):Bool:=l.all fun g=>cmF (fN n b) g
def cenL (n:Nat) (l:List DF):List Nat:=(List.range (2 ^ 2 ^ n)).filter (cenP n l)
theorem cen_l12 {n b:Nat} (hn:n<=4) (hb:b < 2 ^ 2 ^ n) {l:List DF} (hl:okL l) (hK:4611686018427387904<=K) (v1:Int) (v7:List DF) (v8:Int) (kx:List DF->Int->List DF->Int->DF->Bool->Option R):∀ (r p:List DF) (c:Bool) (k:Nat),l=p ++ r->r.length < k →
    s_CentraliserOf_l12 K k l v1 v7 v8 (fN n b) c (p.length:Int) kx=kx l v1 v7 v8 (fN n b) (c && r.all fun g=>cmF (fN n b) g)
  | _,_,_,0,_,h=>by omega
  | [],p,c,k + 1,e,_=>by
    simp only [s_CentraliserOf_l12]
    rw [ite_f (by rw [e];exact nlt_len),List.all_nil,Bool.and_true]
  | y :: r,p,c,k + 1,e,hk=>by
    have hlen:=hl.2
    have hlen2:l.length=p.length + (r.length + 1):=by rw [e];simp
    simp only [s_CentraliserOf_l12]
    rw [ite_t (by rw [e];exact lt_len)]
    cases c
    · rw [ite_f rfl,Bool.false_and]
    · have ih:=cen_l12 hn hb hl hK v1 v7 v8 kx r (p ++ [y]) (cmF (fN n b) y) k (by rw [e];simp) (by simp at hk;omega)
      rw [ite_t rfl]
      simp only [s_CentraliserOf_j14]
      rw [ite_t (by rw [e];exact bnds_mid),show l.getD ((p.length:Nat):Int).toNat ((0:Int),(0:Int),())=y by rw [e];exact getD_midI p r _ _,s_com_eq (isF_fn hn hb) (hl.1 y (mem_mid e)) hK,some_bind',w64s (by omega),<-snoc_len p y,ih,Bool.true_and,List.all_cons]
theorem cen_l8 {n:Nat} (hn:n<=3) {l:List DF} (hl:okL l) (hK:4611686018427387904<=K) (kx:List DF->Option R):∀ (m i k:Nat),i + m=2 ^ 2 ^ n->100 + m < k →
    s_CentraliserOf_l8 K k l (n:Int) (fnsN n ((List.range i).filter (cenP n l))) (i:Int) kx=kx (fnsN n (cenL n l))
  | _,_,0,_,h=>by omega
  | 0,i,k + 1,e,_=>by
    obtain rfl:i=2 ^ 2 ^ n:=by omega
    simp only [s_CentraliserOf_l8]
    rw [s_l01All_eq (by omega),some_bind',ite_f (decide_eq_false (by omega))];rfl
  | m + 1,i,k + 1,e,hk=>by
    have h16:=pp4 (show n<=4 by omega)
    have hlen:=hl.2
    have ih:=cen_l8 hn hl hK kx m (i + 1) k (by omega) (by omega)
    have hl2:(fnsN n ((List.range i).filter (cenP n l))).length<=i:=by
      rw [fns_len];exact Nat.le_trans (List.length_filter_le _ _) (by simp)
    have hlim:(1099511627776:Nat)=lim:=rfl
    have h12:=fun kx=>cen_l12 (K:=K) (R:=R) (n:=n) (b:=i) (by omega) (by omega) hl hK (n:Int) (fnsN n ((List.range i).filter (cenP n l))) (i:Int) kx l [] true k rfl (by omega)
    rw [List.length_nil,show ((0:Nat):Int)=0 from rfl] at h12
    simp only [s_CentraliserOf_l8]
    rw [s_l01All_eq (by omega),some_bind',ite_t (decide_eq_true (by omega))]
    refine (h12 _).trans ?_
    rw [List.range_succ,List.filter_append] at ih
    rw [Bool.true_and,w64s (by omega)]
    cases hp:cenP n l i
    · rw [show (l.all fun g=>cmF (fN n i) g)=false from hp,ite_f rfl]
      rw [show List.filter (cenP n l) [i]=[] by simp [hp],List.append_nil] at ih
      exact ih
    · rw [show (l.all fun g=>cmF (fN n i) g)=true from hp,ite_t rfl,ite_t (decide_eq_true (by simp only [List.length_cons,List.length_nil];omega))]
      rw [show List.filter (cenP n l) [i]=[i] by simp [hp],<-fns_snoc] at ih
      exact ih
theorem cenL_len (n:Nat) (l:List DF):(cenL n l).length<=2 ^ 2 ^ n:=Nat.le_trans (List.length_filter_le _ _) (by simp)
theorem cen_both {l:List DF} (hlen:l.length < 4611686018427387904) (n:Int) (hK:4611686018427387904<=K):∃ (L:List Nat) (m:Nat) (c:Int),L.length<=65536/\i_CentraliserOf K (l,n,())=some (fnsN m L,c,())/\s_CentraliserOf K (l,n,())=some (fnsN m L,c,()) ∧
    (c=0->n=(m:Int)/\m<=3/\∀ i,i < m->projN m i ∈ L):=by
  by_cases hc:codeV l=0
  · obtain ⟨h1,h2⟩:=okL_of_code hc
    by_cases hn:0<=n/\n<=3
    · obtain ⟨m,rfl⟩:=Int.eq_ofNat_of_zero_le hn.1
      have hm:m<=3:=by omega
      have h16:=pp4 (show m<=4 by omega)
      have hL:=cenL_len m l
      refine ⟨cenL m l,m,0,by omega,?_,?_,fun _=>⟨rfl,hm,fun i hi=>?_⟩⟩
      · simp only [i_CentraliserOf]
        rw [i_listCode_eq hlen hK,some_bind',hc,ite_f (by rfl),i_within_eq,some_bind',decide_eq_true hn.1,decide_eq_true hn.2,ite_f (by rfl)]
        have:=i_funcsThat_eq (K:=K) (n:=m) (cenP m l) (f:=fun y4=>i_CentraliserOf_c1 K (y4.1,l,())) (by omega) (fun j hj=>by
          simp only [i_CentraliserOf_c1]
          rw [i_allAre_eq (g:=fun g=>cmF (fN m j) g) (by omega) hK (fun g hg=>by
            simp only [i_CentraliserOf_c1_c1]
            rw [i_com_eq (isF_fn (by omega) hj) (h1.1 g hg) hK,some_bind']),some_bind'];rfl) hK
        rw [this,some_bind'];rfl
      · simp only [s_CentraliserOf]
        rw [s_l02Code_eq hlen hK,some_bind',ite_t (decide_eq_true hc),s_l01In_eq,some_bind',decide_eq_true hn.1,decide_eq_true hn.2,ite_f (by rfl)]
        simp only [s_CentraliserOf_j4]
        rw [hc,ite_f (by rfl)]
        exact cen_l8 (K:=K) hm h1 hK (fun z20=>some (z20,0,())) (2 ^ 2 ^ m) 0 K (by omega) (by omega)
      · exact List.mem_filter.2 ⟨List.mem_range.2 (projN_lt _ _),List.all_eq_true.2 fun g _=>com_proj hi g⟩
    · have hb:(decide (0<=n) && decide (n<=3))=false:=and_decF hn
      refine ⟨[],0,2,by simp,?_,?_,fun h=>by cases h⟩
      · simp only [i_CentraliserOf]
        rw [i_listCode_eq hlen hK,some_bind',hc,ite_f (by rfl),i_within_eq,some_bind',hb,ite_t (by rfl)];rfl
      · simp only [s_CentraliserOf]
        rw [s_l02Code_eq hlen hK,some_bind',ite_t (decide_eq_true hc),s_l01In_eq,some_bind',hb,ite_t (by rfl)];rfl
  · refine ⟨[],0,codeV l,by simp,?_,?_,fun h=>absurd h hc⟩
    · simp only [i_CentraliserOf]
      rw [i_listCode_eq hlen hK,some_bind',ite_t (by rw [decide_eq_false hc];rfl)];rfl
    · simp only [s_CentraliserOf]
      rw [s_l02Code_eq hlen hK,some_bind',ite_f (decide_eq_false hc)]
      simp only [s_CentraliserOf_j4]
      rw [ite_t (by rw [decide_eq_false hc];rfl)];rfl
def abR:List DF->List DF->Bool
  | _,[]=>true
  | p,y :: r=>((p ++ [y]).all fun g=>cmF y g) && abR (p ++ [y]) r
theorem iab_l5 {l:List DF} (hl:okL l) (hK:4611686018427387904<=K) (kx:Option R) (kr:Bool->Int->Option R):∀ (r p:List DF) (k:Nat),l=p ++ r->r.length < k →
    i_IsAbelian_l5 K k l l (l.length:Int) (p.length:Int) kx kr=if abR p r=true then kx else kr false 0
  | _,_,0,_,h=>by omega
  | [],p,k + 1,e,_=>by
    simp only [i_IsAbelian_l5]
    rw [ite_f (by rw [e];exact nlt_len)];rfl
  | y :: r,p,k + 1,e,hk=>by
    have ih:=iab_l5 hl hK kx kr r (p ++ [y]) k (by rw [e];simp) (by simp at hk;omega)
    have hlen:=hl.2
    have hlen2:l.length=p.length + (r.length + 1):=by rw [e];simp
    have hy:l.getD ((p.length:Nat):Int).toNat ((0:Int),(0:Int),())=y:=by rw [e];exact getD_midI p r _ _
    have hs:sliceL l (0:Int) ((p.length + 1:Nat):Int)=p ++ [y]:=by
      show (l.take (((p.length + 1:Nat):Int)).toNat).drop 0=_
      rw [Int.toNat_natCast,List.drop_zero,e,show p ++ y :: r=(p ++ [y]) ++ r by simp,show p.length + 1=(p ++ [y]).length by simp,List.take_left']
      rfl
    have hm:∀ g ∈ p ++ [y],isF 0 g=true:=fun g hg=>hl.1 g (by
      rw [e,show p ++ y :: r=(p ++ [y]) ++ r by simp];exact List.mem_append_left _ hg)
    have hyF:=hm y (by simp)
    simp only [i_IsAbelian_l5]
    rw [ite_t (by rw [e];exact lt_len),ite_t (by rw [e];exact bnds_mid),w64s (by omega),ite_t (by
      rw [decide_eq_true (show (0:Int)<=0 by omega),decide_eq_true (show (0:Int)<=((p.length + 1:Nat):Int) by omega),decide_eq_true (show ((p.length + 1:Nat):Int)<=(l.length:Int) by omega)];rfl),hs,hy,
      i_allAre_eq (g:=fun g=>cmF y g) (by simp;omega) hK (fun g hg=>by
        simp only [i_IsAbelian_c1]
        rw [i_com_eq hyF (hm g hg) hK,some_bind']),some_bind',abR]
    cases hc:(p ++ [y]).all fun g=>cmF y g
    · rfl
    · rw [ite_f (by rfl),Bool.true_and,<-ih,snoc_len]
theorem sab_l8 {l p r:List DF} {y:DF} (hl:okL l) (e:l=p ++ y :: r) (hK:4611686018427387904<=K) (kx:List DF->Int->Option R) (kr:Bool->Int->Option R):∀ (s q:List DF) (k:Nat),p ++ [y]=q ++ s->s.length < k →
    s_IsAbelian_l8 K k l (p.length:Int) (q.length:Int) kx kr=if (s.all fun g=>cmF y g)=true then kx l (p.length:Int) else kr false 0
  | _,_,0,_,h=>by omega
  | [],q,k + 1,e2,_=>by
    have:q.length=p.length + 1:=by rw [List.append_nil] at e2;rw [<-e2];simp
    simp only [s_IsAbelian_l8]
    rw [ite_f (decide_eq_false (by omega))];rfl
  | z :: s,q,k + 1,e2,hk=>by
    have ih:=sab_l8 hl e hK kx kr s (q ++ [z]) k (by rw [e2];simp) (by simp at hk;omega)
    have hlen:=hl.2
    have hlen2:l.length=p.length + (r.length + 1):=by rw [e];simp
    have hq:q.length + (s.length + 1)=p.length + 1:=by have:=congrArg List.length e2;simpa using this.symm
    have el:l=q ++ z :: (s ++ r):=by rw [e,show p ++ y :: r=(p ++ [y]) ++ r by simp,e2];simp
    have hy:l.getD ((p.length:Nat):Int).toNat ((0:Int),(0:Int),())=y:=by rw [e];exact getD_midI p r _ _
    have hz:l.getD ((q.length:Nat):Int).toNat ((0:Int),(0:Int),())=z:=by rw [el];exact getD_midI q _ _ _
    simp only [s_IsAbelian_l8]
    rw [ite_t (decide_eq_true (by omega)),ite_t (by rw [e];exact bnds_mid),ite_t (bnds_n (by omega)),hy,hz,s_com_eq (hl.1 y (mem_mid e)) (hl.1 z (mem_mid el)) hK,some_bind',w64s (by omega),List.all_cons]
    cases hc:cmF y z
    · rfl
    · rw [ite_f (by rfl),Bool.true_and,<-snoc_len q z,ih]
theorem sab_l5 {l:List DF} (hl:okL l) (hK:4611686018427387904<=K) (kx:Option R) (kr:Bool->Int->Option R):∀ (r p:List DF) (k:Nat),l=p ++ r->100 + r.length < k →
    s_IsAbelian_l5 K k l (p.length:Int) kx kr=if abR p r=true then kx else kr false 0
  | _,_,0,_,h=>by omega
  | [],p,k + 1,e,_=>by
    simp only [s_IsAbelian_l5]
    rw [ite_f (by rw [e];exact nlt_len)];rfl
  | y :: r,p,k + 1,e,hk=>by
    have ih:=sab_l5 hl hK kx kr r (p ++ [y]) k (by rw [e];simp) (by simp at hk;omega)
    have hlen:=hl.2
    have hlen2:l.length=p.length + (r.length + 1):=by rw [e];simp
    have h8:=fun kx=>sab_l8 (K:=K) (R:=R) hl e hK kx kr (p ++ [y]) [] k rfl (by simp at hk ⊢;omega)
    rw [List.length_nil,show ((0:Nat):Int)=0 from rfl] at h8
    simp only [s_IsAbelian_l5]
    rw [ite_t (by rw [e];exact lt_len)]
    refine (h8 _).trans ?_
    rw [abR,w64s (by omega)]
    cases hc:(p ++ [y]).all fun g=>cmF y g
    · rfl
    · rw [if_pos rfl,Bool.true_and,<-ih,snoc_len]
theorem ab_both {l:List DF} (hlen:l.length < 4611686018427387904) (hK:4611686018427387904<=K):∃ (b:Bool) (c:Int),i_IsAbelian K (l,())=some (b,c,())/\s_IsAbelian K (l,())=some (b,c,()):=by
  by_cases hc:codeV l=0
  · obtain ⟨h1,h2⟩:=okL_of_code hc
    have e1:=iab_l5 (K:=K) (R:=Bool × Int × Unit) h1 hK (some (true,(0:Int),())) (fun z4 z5=>some (z4,z5,())) l [] K rfl (by omega)
    have e2:=sab_l5 (K:=K) (R:=Bool × Int × Unit) h1 hK (some (true,(0:Int),())) (fun z4 z5=>some (z4,z5,())) l [] K rfl (by omega)
    rw [List.length_nil,show ((0:Nat):Int)=0 from rfl] at e1 e2
    refine ⟨abR [] l,0,?_,?_⟩
    · simp only [i_IsAbelian]
      rw [i_listCode_eq hlen hK,some_bind',hc,ite_f (by rfl),e1]
      cases abR [] l <;> rfl
    · simp only [s_IsAbelian]
      rw [s_l02Code_eq hlen hK,some_bind',hc,ite_f (by rfl),e2]
      cases abR [] l <;> rfl
  · refine ⟨false,codeV l,?_,?_⟩
    · simp only [i_IsAbelian]
      rw [i_listCode_eq hlen hK,some_bind',ite_t (by rw [decide_eq_false hc];rfl)]
    · simp only [s_IsAbelian]
      rw [s_l02Code_eq hlen hK,some_bind',ite_t (by rw [decide_eq_false hc];rfl)]
theorem DrawAre_ok {code:List Int} (hc:code.length<=4096) (hb:∀ b ∈ code,0<=b/\b < 256) (hK:4611686018427387904<=K):Okf (s_DrawAreCommuting K (code,())) (fun _=>True):=by
  simp only [s_DrawAreCommuting]
  refine Okf.bind (from_ok hc hb hK) fun y1 h1=>?_
  refine Okf.bind (l10Draw_ok h1 hK) fun y2 h2=>?_
  refine Okf.bind (l10Draw_ok h2 hK) fun y3 h3=>?_
  refine Okf.ite (fun _=>?_) fun _=>Okf.ret trivial
  exact Okf.bind (drawOf_ok h3 (by unfold arN;omega) hK) fun y5 h5=>Okf.ret trivial
theorem dce_l4 (hK:4611686018427387904<=K) (kx:DSrc->List DF->Option R) (Q:R->Prop) (hk:∀ s l,okS s->l.length<=3->Okf (kx s l) Q):∀ (m k:Nat) (s:DSrc) (l:List DF),okS s->l.length + m<=3->m < k->Okf (s_DrawCentraliserOf_l4 K k s l (m:Int) kx) Q
  | _,0,_,_,_,_,h=>by omega
  | 0,k + 1,s,l,h,hl,_=>by
    simp only [s_DrawCentraliserOf_l4]
    rw [ite_f (by rfl)]
    exact hk s l h (by omega)
  | m + 1,k + 1,s,l,h,hl,hm=>by
    have hlim:(1099511627776:Nat)=lim:=rfl
    have e1:IntKind.i64.wrap (((m + 1:Nat):Int) - 1)=(m:Int):=by rw [w64 (by omega) (by omega)];omega
    simp only [s_DrawCentraliserOf_l4]
    rw [ite_t (decide_eq_true (by omega)),e1]
    refine Okf.bind (l10Draw_ok h hK) fun y2 h2=>?_
    refine Okf.ite (fun _=>?_) fun _=>?_
    · refine Okf.bind (drawOf_ok h2 (by unfold arN;omega) hK) fun y5 h5=>?_
      rw [ite_t (decide_eq_true (by simp;omega))]
      exact dce_l4 hK kx Q hk m k _ _ h5.1 (by simp;omega) (by omega)
    · rw [ite_t (decide_eq_true (by simp;omega))]
      exact dce_l4 hK kx Q hk m k _ _ h2 (by simp;omega) (by omega)
theorem DrawCen_ok {code:List Int} (hc:code.length<=4096) (hb:∀ b ∈ code,0<=b/\b < 256) (hK:4611686018427387904<=K):Okf (s_DrawCentraliserOf K (code,())) (fun y=>y.1.length<=3):=by
  simp only [s_DrawCentraliserOf]
  refine Okf.bind (from_ok hc hb hK) fun y1 h1=>?_
  refine Okf.bind (next_ok _ h1) fun y3 h3=>?_
  obtain ⟨⟨a,_⟩,s3,_⟩:=y3
  obtain ⟨q1,q2,_⟩:=h3
  obtain ⟨q3,q4⟩:=q2 (by decide)
  obtain ⟨n,rfl⟩:=Int.eq_ofNat_of_zero_le (show 0<=a from q3)
  have q4:((n:Nat):Int) < 3:=q4
  refine dce_l4 (K:=K) hK _ (fun y:List DF × Int × Unit=>y.1.length<=3) (fun s l hs hl=>?_) n K s3 [] q1 (by simp;omega) (by omega)
  refine Okf.bind (next_ok _ hs) fun y10 h10=>?_
  exact Okf.bind (pick_ok h10.1 (by simp)) fun y12 h12=>Okf.ret hl
theorem DrawAb_ok {code:List Int} (hc:code.length<=4096) (hb:∀ b ∈ code,0<=b/\b < 256) (hK:4611686018427387904<=K):Okf (s_DrawIsAbelian K (code,())) (fun y=>y.length<=3):=by
  simp only [s_DrawIsAbelian]
  exact Okf.bind (DrawCen_ok hc hb hK) fun y h=>Okf.ret h
theorem dfl_l4 (hK:4611686018427387904<=K) {us:List DF} (hu:us.length=11) (kx:DSrc->List DF->Option R) (Q:R->Prop) (hk:∀ s l,okS s->l.length<=3->Okf (kx s l) Q):∀ (m k:Nat) (s:DSrc) (l:List DF),okS s->l.length + m<=3->m < k->Okf (s_l04DrawList_l4 K k s 2 us l (m:Int) kx) Q
  | _,0,_,_,_,_,h=>by omega
  | 0,k + 1,s,l,h,hl,_=>by
    simp only [s_l04DrawList_l4]
    rw [ite_f (by rfl)]
    exact hk s l h (by omega)
  | m + 1,k + 1,s,l,h,hl,hm=>by
    have hlim:(1099511627776:Nat)=lim:=rfl
    have e1:IntKind.i64.wrap (((m + 1:Nat):Int) - 1)=(m:Int):=by rw [w64 (by omega) (by omega)];omega
    simp only [s_l04DrawList_l4]
    rw [ite_t (decide_eq_true (by omega)),e1]
    refine Okf.bind (next_ok _ h) fun y15 h15=>?_
    obtain ⟨q1,q2,_⟩:=h15
    obtain ⟨q3,q4⟩:=q2 (by decide)
    rw [ite_t (bnds_t q3 (by rw [hu];exact q4))]
    refine Okf.bind (next_ok _ q1) fun y16 h16=>?_
    refine Okf.ite (fun _=>?_) fun _=>?_
    · refine Okf.bind (next_ok _ h16.1) fun y17 h17=>?_
      obtain ⟨r3,r4⟩:=h17.2.1 (by decide)
      refine Okf.bind (drawOf_ok h17.1 (by rw [w64 (by omega) (by omega)];unfold arN;omega) hK) fun y18 h18=>?_
      rw [ite_t (decide_eq_true (by simp;omega))]
      exact dfl_l4 hK hu kx Q hk m k _ _ h18.1 (by simp;omega) (by omega)
    · rw [ite_t (decide_eq_true (by simp;omega))]
      exact dfl_l4 hK hu kx Q hk m k _ _ h16.1 (by simp;omega) (by omega)
theorem dfl_l14 (v0:DSrc) (kx:DSrc->List DF->Option R) (Q:R->Prop) (hk:∀ l,l.length<=9->Okf (kx v0 l) Q):∀ (m k:Nat) (l:List DF),l.length + m=9->m < k->Okf (s_l04DrawList_l14 K k v0 l kx) Q
  | _,0,_,_,h=>by omega
  | 0,k + 1,l,h,_=>by
    simp only [s_l04DrawList_l14]
    rw [ite_f (decide_eq_false (by omega))]
    exact hk l (by omega)
  | m + 1,k + 1,l,h,hm=>by
    have hlim:(1099511627776:Nat)=lim:=rfl
    simp only [s_l04DrawList_l14]
    rw [ite_t (decide_eq_true (by omega)),ite_t (decide_eq_true (by simp;omega))]
    exact dfl_l14 v0 kx Q hk m k _ (by simp;omega) (by omega)
theorem l04List_ok {s:DSrc} (h:okS s) (hK:4611686018427387904<=K):Okf (s_l04DrawList K (s,2,())) (fun y=>okS y.2.1/\y.1.1.length<=10):=by
  have hlim:(1099511627776:Nat)=lim:=rfl
  simp only [s_l04DrawList]
  refine Okf.bind (next_ok _ h) fun y14 h14=>?_
  obtain ⟨⟨a,_⟩,s3,_⟩:=y14
  obtain ⟨q1,q2,_⟩:=h14
  obtain ⟨q3,q4⟩:=q2 (by decide)
  obtain ⟨n,rfl⟩:=Int.eq_ofNat_of_zero_le (show 0<=a from q3)
  have q4:((n:Nat):Int) < 4:=q4
  refine dfl_l4 (K:=K) hK (by rfl) _ (fun y:(List DF × Unit) × (DSrc × Unit)=>okS y.2.1/\y.1.1.length<=10) (fun s l hs hl=>?_) n K s3 [] q1 (by simp;omega) (by omega)
  refine Okf.bind (next_ok _ hs) fun y24 h24=>?_
  refine Okf.ite (fun _=>?_) fun _=>Okf.ite (fun _=>?_) fun _=>Okf.ret ⟨h24.1,by show l.length<=10;omega⟩
  · refine Okf.bind (l01Spoil_ok h24.1 hK) fun y25 h25=>?_
    rw [ite_t (decide_eq_true (by simp;omega))]
    exact Okf.ret ⟨h25,by show (l ++ [y25.1.1]).length<=10;simp;omega⟩
  · exact dfl_l14 (K:=K) _ _ _ (fun l hl=>Okf.ret ⟨h24.1,by show l.length<=10;omega⟩) (9 - l.length) K l (by omega) (by omega)
theorem DrawFind_ok {code:List Int} (hc:code.length<=4096) (hb:∀ b ∈ code,0<=b/\b < 256) (hK:4611686018427387904<=K):Okf (s_DrawFindOfKind K (code,())) (fun y=>y.1.length<=10):=by
  simp only [s_DrawFindOfKind]
  refine Okf.bind (from_ok hc hb hK) fun y1 h1=>?_
  refine Okf.bind (l04List_ok h1 hK) fun y2 h2=>?_
  refine Okf.bind (next_ok _ h2.1) fun y3 h3=>?_
  exact Okf.bind (next_ok _ h3.1) fun y4 h4=>Okf.ret h2.2
theorem fc_j43 (f g:DF) (k:Nat) (kn:Option R) (kr:Bool->Option R):w_FnCommuting_j43 KK k f g (areC f g).1 (areC f g).2.1 kn kr=kr true:=by
  simp only [w_FnCommuting_j43]
  rw [i_are_eq g f KK_ge,some_bind']
  unfold areC
  cases hf:isF 0 f
  · rfl
  · cases hg:isF 0 g
    · rfl
    · simp only [Bool.and_self,if_true]
      rw [com_sym g f]
      cases cmF f g <;> rfl
theorem fc_l38 {m:Nat} {L:List Nat} (hL:L.length<=65536) (x:Nat) (v3 v4:DF) (v5:Bool) (v6 v10 v32 v34:Int) (kx:DF->DF->Bool->Int->Int->List DF->Int->Int->Bool->Option R):∀ (n i k:Nat) (c:Bool),i + n=L.length->n < k →
    w_FnCommuting_l38 K k v3 v4 v5 v6 v10 (fnsN m L) v32 (fN m x) v34 c (i:Int) kx=kx v3 v4 v5 v6 v10 (fnsN m L) v32 v34 (c || (L.drop i).any fun y=>decide (y=x))
  | _,_,0,_,_,h=>by omega
  | 0,i,k + 1,c,e,_=>by
    have hlen:=fns_len m L
    simp only [w_FnCommuting_l38]
    rw [ite_f (decide_eq_false (by omega)),List.drop_of_length_le (by omega),List.any_nil,Bool.or_false]
  | n + 1,i,k + 1,c,e,hk=>by
    have hlen:=fns_len m L
    have hi:i < L.length:=by omega
    have hd:L.drop i=L.getD i 0 :: L.drop (i + 1):=by
      rw [List.drop_eq_getElem_cons hi];simp [List.getD,hi]
    simp only [w_FnCommuting_l38]
    rw [ite_t (decide_eq_true (by omega)),w64s (by omega)]
    cases c
    · have ih:=fc_l38 (m:=m) hL x v3 v4 v5 v6 v10 v32 v34 kx n (i + 1) k (decide (L.getD i 0=x)) (by omega) (by omega)
      rw [ite_f (by decide),ite_t (bnds_n (by omega)),fns_mem hi]
      rw [show eqD (.pair (.int .i64) (.pair (.int .i64) .unit)) (fN m (L.getD i 0)) (fN m x)=decide (L.getD i 0=x) from eqD_rel _ _ _,ih,hd,List.any_cons,Bool.false_or]
    · have ih:=fc_l38 (m:=m) hL x v3 v4 v5 v6 v10 v32 v34 kx n (i + 1) k true (by omega) (by omega)
      rw [ite_t rfl,ih,Bool.true_or,Bool.true_or]
theorem i_ProjectionOf_eq {n i:Nat} (hi:i < n) (hn:n<=4) (hK:4611686018427387904<=K):i_ProjectionOf K ((n:Int),(i:Int),())=some (fN n (projN n i),0,()):=by
  simp only [i_ProjectionOf]
  rw [i_within_eq,some_bind',decide_eq_true (show (1:Int)<=(n:Int) by omega),decide_eq_true (show (n:Int)<=4 by omega),ite_f (by rfl),i_within_eq,some_bind',w64 (by omega) (by omega),decide_eq_true (show (0:Int)<=(i:Int) by omega),decide_eq_true (show (i:Int)<=(n:Int) - 1 by omega),ite_f (by rfl),i_projection_eq hn hK,some_bind']
theorem fc_l33 {m:Nat} {L:List Nat} (hm:m<=3) (hL:L.length<=65536) (hp:∀ i,i < m->projN m i ∈ L) (v3 v4:DF) (v5:Bool) (v6:Int) (kx:DF->DF->Bool->Int->Option R) (kr:Bool->Option R):∀ (n i k:Nat),i + n=m->65536 + n < k →
    w_FnCommuting_l33 KK k v3 v4 v5 v6 (m:Int) (fnsN m L) (i:Int) kx kr=kx v3 v4 v5 v6
  | _,_,0,_,h=>by omega
  | 0,i,k + 1,e,_=>by
    simp only [w_FnCommuting_l33]
    rw [ite_f (decide_eq_false (by omega))]
  | n + 1,i,k + 1,e,hk=>by
    have ih:=fc_l33 hm hL hp v3 v4 v5 v6 kx kr n (i + 1) k (by omega) (by omega)
    have h38:=fun kx=>fc_l38 (K:=KK) (R:=R) (m:=m) hL (projN m i) v3 v4 v5 v6 (m:Int) (i:Int) 0 kx L.length 0 k false (by omega) (by omega)
    rw [show ((0:Nat):Int)=0 from rfl] at h38
    have ha:((L.drop 0).any fun y=>decide (y=projN m i))=true:=by
      rw [List.drop_zero,List.any_eq_true];exact ⟨_,hp i (by omega),decide_eq_true rfl⟩
    simp only [w_FnCommuting_l33]
    rw [ite_t (decide_eq_true (by omega)),i_ProjectionOf_eq (show i < m by omega) (by omega) KK_ge,some_bind']
    refine (h38 _).trans ?_
    rw [ha,ite_f (by rfl),ite_f (by rfl),w64s (by omega),ih]
theorem fc_j31 {f g:DF} {L:List Nat} {m:Nat} {n c:Int} (hL:L.length<=65536) (hc:c=0->n=(m:Int)/\m<=3/\∀ i,i < m->projN m i ∈ L) {k:Nat} (hk:100000 < k) (kn:Option R) (kr:Bool->Option R):w_FnCommuting_j31 KK k f g (areC f g).1 (areC f g).2.1 n (fnsN m L) c kn kr=kr true:=by
  simp only [w_FnCommuting_j31]
  by_cases h:c=0
  · obtain ⟨rfl,h2,h3⟩:=hc h
    rw [ite_t (decide_eq_true h)]
    refine (fc_l33 h2 hL h3 f g _ _ _ _ m 0 k (by omega) (by omega)).trans ?_
    exact fc_j43 f g k none _
  · rw [ite_f (decide_eq_false h)]
    exact fc_j43 f g k none _
theorem genD2:genF0 ⟨#[68,50]⟩=[fN 3 232]:=by decide +kernel
theorem D2_in:(⟨#[68,50]⟩:ByteArray) ∈ allNames:=mem_of (by decide +kernel)
theorem kB0:((List.range 256).all fun b=>kB 0 b == (b == 232))=true:=by decide +kernel
theorem isIn_eq {f:DF} {t:ByteArray} (h:t ∈ allNames) (hf:isF 0 f=true):i_isInNamed KK (f,t,genF0 t,())=some (cmpS .eql (nameV (genF0 t ++ [f])) t):=by
  obtain ⟨h1,h2,h3,_⟩:=gensF_ok h
  have hlim:(1099511627776:Nat)=lim:=rfl
  simp only [i_isInNamed,slices_Clone_impl_Func]
  rw [if_pos (show (genF0 t).length<=lim by omega),some_bind',ite_t (decide_eq_true (by simp;omega)),i_cloneName_eq (okL_snoc h2 (by omega) hf) KK_ge,some_bind']
theorem below_D2 {t:ByteArray} (h:t ∈ allNames):i_IsBelow KK ((⟨#[68,50]⟩:ByteArray),t,())=some (cmpS .eql (nameV (genF0 t ++ [fN 3 232])) t,0,()):=by
  obtain ⟨d1,d2,d3,_⟩:=gensF_ok D2_in
  obtain ⟨h1,h2,h3,_⟩:=gensF_ok h
  simp only [i_IsBelow]
  rw [d1,some_bind',h1,some_bind',ite_f (by rfl),ite_f (by rfl),i_allAre_eq (g:=fun f=>cmpS .eql (nameV (genF0 t ++ [f])) t) (show (genF0 ⟨#[68,50]⟩).length < 4611686018427387904 by omega) KK_ge (fun x hx=>by
    simp only [i_IsBelow_c1]
    rw [isIn_eq h (d2.1 x hx),some_bind']),some_bind',genD2]
  simp
theorem kind_some {b k:Nat} (hk:k < 4) (hb:b < 256):i_IsOfKind KK (fN 3 b,(k:Int),())=some (kB k b,0,()):=by
  simp only [i_IsOfKind,i_isKind]
  rw [i_IsFunc_eq,some_bind',isF_nm (by decide) (show b < 2 ^ 2 ^ 3 from hb),ite_f (by rfl),i_within_eq,some_bind',some_bind',decide_eq_true (show (0:Int)<=(k:Int) by omega),decide_eq_true (show (k:Int)<=3 by omega),ite_f (by rfl),(kB_eq hk hb).1,some_bind']
theorem kind_none {k:Nat} (hk:k < 4):∃ y,i_IsOfKind KK (((0:Int),(0:Int),()),(k:Int),())=some y:=by
  refine ⟨(false,0,()),?_⟩
  simp only [i_IsOfKind,i_isKind]
  rw [i_IsFunc_eq,some_bind',ite_f (by rfl),i_within_eq,some_bind',some_bind',decide_eq_true (show (0:Int)<=(k:Int) by omega),decide_eq_true (show (k:Int)<=3 by omega),ite_f (by rfl)]
  simp only [i_Func_isOfKind]
  rw [ite_t (by rfl),some_bind']
theorem fc_j28 {k:Nat} (hk:k < 4) {L:List Nat} (hL:∀ b ∈ L,b < 256) (k':Nat) (v3 v4:DF) (v5:Bool) (v6 v10:Int) (v11:List DF) (v12:Int) (kn:DF->DF->Bool->Int->Int->List DF->Int->Option R) (kr:Bool->Option R) :
    w_FnCommuting_j28 KK k' v3 v4 v5 v6 v10 v11 v12 (k:Int) (firstK k L).1 (firstK k L).2.1 kn kr=kn v3 v4 v5 v6 v10 v11 v12:=by
  unfold firstK
  cases hf:L.find? (kB k) with
  | none =>
    obtain ⟨y,hy⟩:=kind_none hk
    simp only [w_FnCommuting_j28]
    rw [hy,some_bind',ite_f (by rfl)]
  | some b =>
    have hb:=hL b (List.mem_of_find?_eq_some hf)
    simp only [w_FnCommuting_j28]
    rw [kind_some hk hb,some_bind',ite_t (by rfl),List.find?_some hf,ite_f (by rfl),ite_f (by rfl)]
theorem codeG3 {fs:List (Nat × Nat)} (h:codeG (fsN fs) 3=0):∀ f ∈ fs,f.1<=2:=by
  unfold codeG at h
  by_cases h0:codeV (fsN fs)=0
  · rw [if_pos h0,if_pos ⟨by decide,by decide⟩] at h
    by_cases ha:((fsN fs).any fun f=>decide (f.1 > 2))=true
    · rw [if_pos ⟨rfl,ha⟩] at h;cases h
    · intro f hf
      refine Classical.byContradiction fun hn=>ha (List.any_eq_true.2 ⟨fN f.1 f.2,List.mem_map.2 ⟨f,hf,rfl⟩,decide_eq_true ?_⟩)
      show ((f.1:Nat):Int) > 2
      omega
  · rw [if_neg h0] at h;exact absurd h h0
theorem first0 {L:List Nat} (hL:∀ b ∈ L,b < 256):decide ((firstK 0 L).2.1=0)=true ↔ 232 ∈ L:=by
  have hk:∀ b,b ∈ L->(kB 0 b=true ↔ b=232):=fun b hb=>by
    have:=List.all_eq_true.1 kB0 b (List.mem_range.2 (hL b hb))
    rw [beq_iff_eq] at this
    rw [this,beq_iff_eq]
  unfold firstK
  cases hf:L.find? (kB 0) with
  | none =>
    refine ⟨fun h=>(by cases h),fun h=>?_⟩
    exact absurd ((hk 232 h).2 rfl) (List.find?_eq_none.1 hf 232 h)
  | some b =>
    have hm:=List.mem_of_find?_eq_some hf
    refine ⟨fun _=>?_,fun _=>rfl⟩
    rw [<-(hk b hm).1 (List.find?_some hf)];exact hm
theorem fc_j24 {l:List DF} {k:Nat} (hk:k < 4) (hl:l.length<=1000) (hg:codeG l 3=0) (k':Nat) (v3 v4:DF) (v5:Bool) (v6 v10:Int) (v11:List DF) (v12:Int) (kn:DF->DF->Bool->Int->Int->List DF->Int->Option R) (kr:Bool->Option R) :
    w_FnCommuting_j24 KK k' v3 v4 v5 v6 v10 v11 v12 l (k:Int) (firstK k (knS (genD (l.map fun f=>(f.1.toNat,f.2.1.toNat)) 3))).1 (firstK k (knS (genD (l.map fun f=>(f.1.toNat,f.2.1.toNat)) 3))).2.1 kn kr=kn v3 v4 v5 v6 v10 v11 v12:=by
  have hv:=codeG_V hg
  obtain ⟨e1,hf⟩:=fs_eq hv
  have h8:=(okL_of_code hv).2
  generalize hfs:(l.map fun f=>(f.1.toNat,f.2.1.toNat))=fs at e1 hf ⊢
  subst e1
  have hll:(fsN fs).length < 4611686018427387904:=by omega
  have hlf : fs.length ≤ 40 := by have : (fsN fs).length = fs.length := by simp [fsN]
                                  omega
  have hok:=okL_fsN hf hlf
  have hname:=name_in hok
  have hlt:∀ b ∈ knS (genD fs 3),b < 256:=fun b hb=>genD_lt hb
  obtain ⟨_,g2,_,g4⟩:=gensF_ok hname
  simp only [w_FnCommuting_j24,gN_eq]
  rw [i_CloneName_eq hll KK_ge,if_pos hv,some_bind',below_D2 hname,some_bind',ite_f (by rfl),ite_f (by rfl)]
  by_cases h0:k=0
  · subst h0
    have hb:cmpS .eql (nameV (genF0 (nameV (fsN fs)) ++ [fN 3 232])) (nameV (fsN fs))=decide ((firstK 0 (knS (genD fs 3))).2.1=0):=by
      rw [Bool.eq_iff_iff,first0 hlt,eql_iff]
      exact ⟨fun e=>maj_below hf (codeG3 hg) e,fun h=>name_kept hf hlf (by decide) g2 g4.symm h⟩
    rw [ite_t (by rfl),hb,ite_f (by simp)]
    exact fc_j28 (by decide) hlt k' v3 v4 v5 v6 v10 v11 v12 _ _
  · rw [ite_f (decide_eq_false (by omega))]
    exact fc_j28 hk hlt k' v3 v4 v5 v6 v10 v11 v12 _ _
theorem codeG_not {l:List DF} {n:Int}:codeG l n ≠ 4:=by
  unfold codeG codeV
  split <;> split <;> (try split) <;> (try split) <;> (try split) <;> (try split) <;> first | decide | (rename_i h;revert h;decide) | skip
theorem fc_j23 {f g:DF} {L:List Nat} {m:Nat} {n c:Int} (hL:L.length<=65536) (hc:c=0->n=(m:Int)/\m<=3/\∀ i,i < m->projN m i ∈ L) {l:List DF} (hl:l.length<=1000) (kind:Int) {k:Nat} (hk:100000 < k) (kn:Option R) (kr:Bool->Option R) :
    w_FnCommuting_j23 KK k f g (areC f g).1 (areC f g).2.1 n (fnsN m L) c l kind (findV l kind).1 (findV l kind).2.1 kn kr=kr true:=by
  have h31:=fun (kn:Option R) (kr:Bool->Option R)=>fc_j31 (R:=R) (f:=f) (g:=g) hL hc hk kn kr
  simp only [w_FnCommuting_j23]
  by_cases hok:(findV l kind).2.1=0\/(findV l kind).2.1=4
  · have hg:codeG l 3=0/\∃ k0:Nat,kind=k0/\k0 < 4:=by
      unfold findV at hok
      by_cases h1:codeV l=1
      · rw [if_pos h1] at hok;rcases hok with h | h <;> cases h
      · rw [if_neg h1] at hok
        by_cases h2:0<=kind/\kind<=3
        · rw [if_neg (fun h=>h h2)] at hok
          by_cases h3:codeG l 3=0
          · exact ⟨h3,kind.toNat,by omega,by omega⟩
          · rw [if_pos h3] at hok
            rcases hok with h | h
            · exact absurd h h3
            · exact absurd h codeG_not
        · rw [if_pos h2] at hok;rcases hok with h | h <;> cases h
    obtain ⟨hg,k0,rfl,hk0⟩:=hg
    have hv:=codeG_V hg
    have hfv:findV l (k0:Int)=firstK k0 (knS (genD (l.map fun f=>(f.1.toNat,f.2.1.toNat)) 3)):=by
      unfold findV
      rw [if_neg (by rw [hv];decide),if_neg (fun h=>h ⟨by omega,by omega⟩),if_neg (fun h=>h hg),Int.toNat_natCast]
    have h24:=fun kn kr=>fc_j24 (R:=R) hk0 hl hg k f g (areC f g).1 (areC f g).2.1 n (fnsN m L) c kn kr
    rw [<-hfv] at h24
    rcases hok with h | h
    · rw [ite_t (decide_eq_true h)]
      exact (h24 _ _).trans (h31 _ _)
    · rw [ite_f (by rw [h];rfl),ite_t (decide_eq_true h)]
      exact (h24 _ _).trans (h31 _ _)
  · rw [ite_f (decide_eq_false fun h=>hok (Or.inl h)),ite_f (decide_eq_false fun h=>hok (Or.inr h))]
    exact h31 _ _
theorem law_Commuting {code:List Int} (hb:∀ b ∈ code,0<=b/\b < 256):w_FnCommuting 9223372036854775808 (code,())=some true:=by
  have hKK:(9223372036854775808:Nat)=KK:=rfl
  show w_FnCommuting KK (code,())=some true
  have hK:=KK_ge
  simp only [w_FnCommuting,w_big,some_bind']
  by_cases hl:(code.length:Int) > 4096
  · rw [ite_t (decide_eq_true hl)]
  · rw [ite_f (decide_eq_false hl)]
    have hc:code.length<=4096:=by omega
    obtain ⟨⟨f,g,u⟩,e2,_⟩:=DrawAre_ok hc hb hK
    obtain ⟨⟨l,n,u2⟩,e5,h5⟩:=DrawCen_ok hc hb hK
    obtain ⟨a,e9,h9⟩:=DrawAb_ok hc hb hK
    obtain ⟨⟨b,kind,u3⟩,e12,h12⟩:=DrawFind_ok hc hb hK
    have h5:l.length<=3:=h5
    have h12:b.length<=10:=h12
    obtain ⟨L,m,c,c1,c2,c3,c4⟩:=cen_both (K:=KK) (show l.length < 4611686018427387904 by omega) n hK
    obtain ⟨ab,ac,a1,a2⟩:=ab_both (K:=KK) (show a.length < 4611686018427387904 by omega) hK
    have hfl:=fns_len m L
    rw [e2,some_bind',i_are_eq f g hK,some_bind',s_are_eq f g hK,some_bind',ite_f (by simp),ite_f (by simp)]
    simp only [w_FnCommuting_j8]
    rw [e5,some_bind',c2,some_bind',c3,some_bind',ite_f (by simp),funcs9_self (l:=fnsN m L) (by omega) hK,some_bind',ite_f (by rfl)]
    simp only [w_FnCommuting_j13]
    rw [e9,some_bind',a1,some_bind',a2,some_bind',ite_f (by simp),ite_f (by simp)]
    simp only [w_FnCommuting_j18]
    rw [e12,some_bind',i_FindOfKind_eq (by omega) kind,some_bind',s_FindOfKind_eq (by omega) kind,some_bind',ite_f (by simp),ite_f (by rw [eqD_refl3];rfl)]
    exact fc_j23 c1 c4 (by omega) kind (by omega) _ _
end Go.Proofs.YtmlgfaojfmkdnaaGreatDoor.E
namespace Go.Proofs.YtmlgfaojfmkdnaaGreatDoor.E
open Go Go.Proofs
/-- FnCommuting, in plain numbers and lists: no condition but what is known of all data. -/
theorem PuFnCommuting (x:den as_w_FnCommuting) (h:okD as_w_FnCommuting x):∃ K,w_FnCommuting K x=some true:=by
  obtain ⟨code,u⟩:=x
  exact ⟨9223372036854775808,law_Commuting fun b hb=>by
    have h1:=bounds_u8 (h.1.2 b hb)
    exact ⟨h1.1,Int.lt_of_le_of_lt h1.2 (by decide)⟩⟩
end Go.Proofs.YtmlgfaojfmkdnaaGreatDoor.E
