/-
  Plain lemmas: what the functions hand back, and that the statement holds of it. Conditions: those of each theorem.
-/
import Derived.Test.YtefmjjpdflpnaaaGreatCFnFormulas5
namespace Go.Proofs.YtefmjjpdflpnaaaGreat.E
open Go Go.Proofs
set_option maxRecDepth 100000
set_option linter.unusedVariables false
set_option linter.unusedSimpArgs false
variable {K:Nat} {R:Type}
theorem w64 {x:Int} (h1 : -9223372036854775808<=x) (h2:x < 9223372036854775808):IntKind.i64.wrap x=x:=by
  simp only [IntKind.wrap,IntKind.bits,IntKind.signed,Bool.true_and]
  simp only [show (2:Int) ^ 64=18446744073709551616 from rfl,show (2:Int) ^ (64 - 1)=9223372036854775808 from rfl]
  split <;> rename_i h <;> simp only [decide_eq_true_eq] at h <;> omega
theorem w64n {n:Nat} (h:n < 9223372036854775808):IntKind.i64.wrap (n:Int)=(n:Int):=w64 (by omega) (by omega)
theorem w64s {n:Nat} (h:n + 1 < 9223372036854775808):IntKind.i64.wrap ((n:Int) + 1)=((n + 1:Nat):Int):=by rw [w64 (by omega) (by omega)];rfl
theorem w64m1 {n:Nat} (h:n < 9223372036854775808):IntKind.i64.wrap ((n:Int) - 1)=(n:Int) - 1:=w64 (by omega) (by omega)
theorem u64n {n:Nat} (h:n < 18446744073709551616):IntKind.u64.wrap (n:Int)=(n:Int):=by
  simp only [IntKind.wrap,IntKind.bits,IntKind.signed,Bool.false_and,Bool.false_eq_true,if_false]
  simp only [show (2:Int) ^ 64=18446744073709551616 from rfl]
  omega
theorem u64_ge (x:Int):0<=IntKind.u64.wrap x:=by
  simp only [IntKind.wrap,IntKind.bits,IntKind.signed,Bool.false_and,Bool.false_eq_true,if_false]
  exact Int.emod_nonneg _ (by decide)
theorem u64_dec (x:Int):decide ((0:Int)<=IntKind.u64.wrap x)=true:=decide_eq_true (u64_ge x)
theorem bnds_t {i n:Int} (h0:0<=i) (h:i < n):bnds i n=true:=by simp [bnds,h0,h]
theorem bnds_n {i n:Nat} (h:i < n):bnds (i:Int) (n:Int)=true:=bnds_t (by omega) (by omega)
theorem nn (n:Nat):decide ((0:Int)<=(n:Int))=true:=decide_eq_true (by omega)
theorem emod2n (x:Nat):((x:Int) % 18446744073709551616).toNat=x % 18446744073709551616:=by omega
theorem bitI_and {a b:Nat} (ha:a < 9223372036854775808) (hb:b < 9223372036854775808):bitI .and .i64 (a:Int) (b:Int)=((a &&& b:Nat):Int):=by
  have h:a &&& b<=a:=Nat.and_le_left
  show IntKind.i64.wrap (((BitVec.ofInt 64 (a:Int) &&& BitVec.ofInt 64 (b:Int):BitVec 64).toNat:Nat):Int)=_
  simp only [BitVec.toNat_and,BitVec.toNat_ofInt]
  simp only [show ((2 ^ 64:Nat):Int)=18446744073709551616 from rfl,emod2n]
  rw [Nat.mod_eq_of_lt (by omega),Nat.mod_eq_of_lt (by omega),w64n (by omega)]
theorem bitI_or {a b:Nat} (ha:a < 9223372036854775808) (hb:b < 9223372036854775808):bitI .or .i64 (a:Int) (b:Int)=((a ||| b:Nat):Int):=by
  have h:a ||| b < 9223372036854775808:=Nat.or_lt_two_pow (n:=63) ha hb
  show IntKind.i64.wrap (((BitVec.ofInt 64 (a:Int) ||| BitVec.ofInt 64 (b:Int):BitVec 64).toNat:Nat):Int)=_
  simp only [BitVec.toNat_or,BitVec.toNat_ofInt]
  simp only [show ((2 ^ 64:Nat):Int)=18446744073709551616 from rfl,emod2n]
  rw [Nat.mod_eq_of_lt (by omega),Nat.mod_eq_of_lt (by omega),w64n (by omega)]
theorem shrI_n (a j:Nat) (ha:a < 9223372036854775808):shrI .i64 (a:Int) (j:Int)=((a >>> j:Nat):Int):=by
  simp only [shrI,IntKind.bits,Int.toNat_natCast,Nat.shiftRight_eq_div_pow]
  have:(2:Int) ^ min j 64=((2 ^ min j 64:Nat):Int):=by simp
  rw [this,Int.fdiv_eq_ediv_of_nonneg _ (Int.natCast_nonneg _),<-Int.natCast_ediv]
  by_cases h:j<=64
  · rw [Nat.min_eq_left h]
  · rw [Nat.min_eq_right (by omega),Nat.div_eq_of_lt (by omega),Nat.div_eq_of_lt]
    exact Nat.lt_of_lt_of_le ha (Nat.le_trans (show 9223372036854775808<=2 ^ 64 by decide) (Nat.pow_le_pow_right (by decide) (by omega)))
theorem shlI_n (a j:Nat) (h:a * 2 ^ j < 9223372036854775808):shlI .i64 (a:Int) (j:Int)=((a * 2 ^ j:Nat):Int):=by
  simp only [shlI,IntKind.bits,Int.toNat_natCast]
  by_cases hj:j<=64
  · rw [Nat.min_eq_left hj,<-w64n h];congr 1
  · have ha:a=0:=by
      rcases Nat.eq_zero_or_pos a with h0 | h0
      · exact h0
      · have:=Nat.mul_le_mul_right (2 ^ j) h0
        have h2:2 ^ 64<=2 ^ j:=Nat.pow_le_pow_right (by decide) (by omega)
        have:(18446744073709551616:Nat)<=2 ^ j:=h2
        omega
    subst ha
    have:=w64n (n:=0) (by decide)
    simpa using this
theorem shl1 {j:Nat} (h:j < 63):shlI .i64 (1:Int) (j:Int)=((2 ^ j:Nat):Int):=by
  have h2:2 ^ j < 2 ^ 63:=Nat.pow_lt_pow_right (by decide) h
  have:=shlI_n 1 j (by simpa using h2)
  simpa using this
/-- A digit of a number. -/
def bt (b j:Nat):Int:=if b.testBit j then 1 else 0
theorem bt_eq (b j:Nat):bt b j=(((b >>> j) &&& 1:Nat):Int):=by
  unfold bt
  rw [Nat.and_one_is_mod,Nat.shiftRight_eq_div_pow]
  have:=Nat.testBit_eq_decide_div_mod_eq (x:=b) (i:=j)
  rw [this]
  have h2:=Nat.mod_lt (b / 2 ^ j) (show 0 < 2 by decide)
  split <;> rename_i h <;> simp only [decide_eq_true_eq] at h <;> omega
theorem bitI_bt {b:Nat} (j:Nat) (hb:b < 9223372036854775808):bitI .and .i64 (shrI .i64 (b:Int) (j:Int)) (1:Int)=bt b j:=by
  rw [shrI_n b j hb,show (1:Int)=((1:Nat):Int) from rfl,bitI_and ?_ (by decide),bt_eq]
  rw [Nat.shiftRight_eq_div_pow];exact Nat.lt_of_le_of_lt (Nat.div_le_self _ _) hb
def mkB (g:Nat->Bool):Nat->Nat
  | 0=>0
  | n + 1=>mkB g n + (if g n then 2 ^ n else 0)
theorem mkB_lt (g:Nat->Bool):∀ n,mkB g n < 2 ^ n
  | 0=>by simp [mkB]
  | n + 1=>by
    have:=mkB_lt g n
    rw [mkB,Nat.pow_succ];split <;> omega
theorem mkB_bit (g:Nat->Bool):∀ (n j:Nat),(mkB g n).testBit j=(decide (j < n) && g j)
  | 0,j=>by simp [mkB]
  | n + 1,j=>by
    have hlt:=mkB_lt g n
    rw [mkB]
    by_cases hg:g n=true
    · rw [if_pos hg,Nat.add_comm,show 2 ^ n + mkB g n=2 ^ n ||| mkB g n from by simpa using Nat.two_pow_add_eq_or_of_lt hlt 1,Nat.testBit_or,Nat.testBit_two_pow]
      by_cases h:j=n
      · subst h;simp [hg]
      · rw [mkB_bit g n j]
        have:(decide (n=j))=false:=decide_eq_false (fun e=>h e.symm)
        have e2:decide (j < n + 1)=decide (j < n):=by apply decide_eq_decide.2;omega
        rw [e2];simp [this]
    · rw [if_neg hg,Nat.add_zero,mkB_bit g n j]
      by_cases h:j=n
      · subst h;simp [hg]
      · have e2:decide (j < n + 1)=decide (j < n):=by apply decide_eq_decide.2;omega
        rw [e2]
theorem mkB_congr {g h:Nat->Bool}:∀ {n:Nat},(∀ j,j < n->g j=h j)->mkB g n=mkB h n
  | 0,_=>rfl
  | n + 1,e=>by rw [mkB,mkB,mkB_congr fun j hj=>e j (by omega),e n (by omega)]
theorem or_pow {x n:Nat} (h:x < 2 ^ n):x ||| 2 ^ n=x + 2 ^ n:=by
  have:=Nat.two_pow_add_eq_or_of_lt h 1
  rw [Nat.or_comm,Nat.add_comm]
  simpa using this.symm
theorem getD_mid {α:Type} (p r:List α) (y d:α):(p ++ y :: r).getD p.length d=y:=by
  simp [List.getD]
theorem getD_midI {α:Type} (p r:List α) (y d:α):(p ++ y :: r).getD ((p.length:Int)).toNat d=y:=by
  rw [Int.toNat_natCast];exact getD_mid p r y d
theorem set_mid {α:Type} (p r:List α) (y z:α):(p ++ y :: r).set p.length z=p ++ z :: r:=by
  simp
theorem len_mid {α:Type} (p r:List α) (y:α):p.length < (p ++ y :: r).length:=by simp
theorem mid_app {α:Type} (p r:List α) (y:α):p ++ y :: r=(p ++ [y]) ++ r:=by simp
theorem snoc_len {α:Type} (p:List α) (y:α):(p ++ [y]).length=p.length + 1:=by simp
theorem ite_t {c:Bool} {α:Type} {a b:α} (h:c=true):(if c=true then a else b)=a:=if_pos h
theorem ite_f {c:Bool} {α:Type} {a b:α} (h:c=false):(if c=true then a else b)=b:=if_neg (by rw [h];decide)
theorem some_bind' {α β:Type} (a:α) (f:α->Option β):(some a).bind f=f a:=rfl
abbrev DF:=Int × Int × Unit
theorem i_within_eq (a b c:Int):i_within K (a,b,c,())=some (decide (b<=a) && decide (a<=c)):=by
  simp only [i_within]
  by_cases h:b<=a
  · rw [if_pos (decide_eq_true h)];simp [h]
  · rw [if_neg (by simpa using h)];simp [h]
theorem s_l01In_eq (a b c:Int):s_l01In K (a,b,c,())=some (decide (b<=a) && decide (a<=c)):=by
  simp only [s_l01In]
  by_cases h:b<=a
  · rw [if_pos (decide_eq_true h)];simp [h]
  · rw [if_neg (by simpa using h)];simp [h]
theorem i_rowsOf_eq {n:Nat} (h:n < 63):i_rowsOf K ((n:Int),())=some ((2 ^ n:Nat):Int):=by
  simp only [i_rowsOf];rw [if_pos (nn n),shl1 h]
theorem s_l01Rows_eq {n:Nat} (h:n < 63):s_l01Rows K ((n:Int),())=some ((2 ^ n:Nat):Int):=by
  simp only [s_l01Rows];rw [if_pos (u64_dec _),u64n (by omega),shl1 h]
theorem i_Func_rows_eq {n:Nat} (b:Int) (h:n < 63):i_Func_rows K (((n:Int),b,()),())=some ((2 ^ n:Nat):Int):=by
  simp only [i_Func_rows,i_rowsOf_eq h];rfl
theorem pw4 {n:Nat} (h:n<=4):2 ^ n<=16:=Nat.pow_le_pow_right (by decide) h
theorem ppw4 {n:Nat} (h:n<=4):2 ^ 2 ^ n<=65536:=Nat.pow_le_pow_right (by decide) (pw4 h)
theorem i_funcsOf_eq {n:Nat} (h:n<=4):i_funcsOf K ((n:Int),())=some ((2 ^ 2 ^ n:Nat):Int):=by
  have h4:=pw4 h
  simp only [i_funcsOf,i_rowsOf_eq (show n < 63 by omega),some_bind']
  rw [if_pos (nn _),shl1 (by omega)]
theorem s_l01All_eq {n:Nat} (h:n<=4):s_l01All K ((n:Int),())=some ((2 ^ 2 ^ n:Nat) - 1:Int):=by
  have h4:=pw4 h
  have h5:=ppw4 h
  simp only [s_l01All,s_l01Rows_eq (show n < 63 by omega),some_bind']
  rw [if_pos (u64_dec _),u64n (by omega),shl1 (by omega),w64m1 (by omega)]
/-- What is a function, or a relation with as many places. -/
def isF (lo:Int) (f:DF):Bool:=decide (lo<=f.1) && decide (f.1<=4) && decide (0<=f.2.1) && decide (f.2.1 < ((2 ^ 2 ^ f.1.toNat:Nat):Int))
theorem isF_mk {lo:Int} {n b:Nat} (h1:lo<=n) (h2:n<=4) (h3:b < 2 ^ 2 ^ n):isF lo ((n:Int),(b:Int),())=true:=by
  simp only [isF,Bool.and_eq_true,decide_eq_true_eq,Int.toNat_natCast]
  exact ⟨⟨⟨h1,by omega⟩,by omega⟩,by omega⟩
theorem isF_range {lo:Int} (hl:0<=lo) {a c:Int} {u:Unit} (h:lo<=a/\a<=4):(decide ((0:Int)<=c) && decide (c<=((2 ^ 2 ^ a.toNat:Nat):Int) - 1))=isF lo (a,c,u):=by
  simp only [isF,h.1,h.2,decide_true,Bool.true_and]
  congr 1
  apply decide_eq_decide.2;omega
theorem isF_out {lo:Int} {a c:Int} {u:Unit} (h:¬ (lo<=a/\a<=4)):isF lo (a,c,u)=false:=by
  simp only [isF,Bool.and_eq_false_iff,decide_eq_false_iff_not];omega
theorem and_dec {a b:Prop} [Decidable a] [Decidable b]:((decide a && decide b)=true) ↔ (a/\b):=by simp
theorem i_IsFunc_eq (f:DF):i_IsFunc K (f,())=some (isF 0 f):=by
  obtain ⟨a,c,u⟩:=f
  simp only [i_IsFunc,i_isArity,i_within_eq,some_bind']
  by_cases h:0<=a/\a<=4
  · obtain ⟨n,rfl⟩:=Int.eq_ofNat_of_zero_le h.1
    rw [if_pos (and_dec.2 h),i_funcsOf_eq (by omega),some_bind']
    have h5:=ppw4 (show n<=4 by omega)
    rw [w64m1 (by omega)]
    have:=isF_range (lo:=0) (by decide) (c:=c) (u:=u) h
    rw [Int.toNat_natCast] at this
    rw [this]
  · rw [if_neg (fun e=>h (and_dec.1 e)),isF_out h]
theorem i_bit_eq {b:Nat} (j:Nat) (h:b < 9223372036854775808):i_bit K ((b:Int),(j:Int),())=some (bt b j):=by
  simp only [i_bit];rw [if_pos (nn j),bitI_bt j h]
theorem i_Func_at_eq {n:Int} {b:Nat} (j:Nat) (h:b < 9223372036854775808):i_Func_at K ((n,(b:Int),()),(j:Int),())=some (bt b j):=by
  simp only [i_Func_at,i_bit_eq j h];rfl
theorem s_l01At_eq {n:Int} {b j:Nat} (h:b < 9223372036854775808) (hj:j < 9223372036854775808):s_l01At K ((n,(b:Int),()),(j:Int),())=some (bt b j):=by
  simp only [s_l01At];rw [if_pos (u64_dec _),u64n (by omega),bitI_bt j h]
theorem lt_len {α:Type} {p r:List α} {y:α}:decide ((p.length:Int) < ((p ++ y :: r).length:Int))=true:=decide_eq_true (by simp;omega)
theorem nlt_len {α:Type} {p:List α}:decide ((p.length:Int) < ((p ++ []).length:Int))=false:=decide_eq_false (by simp)
theorem bnds_mid {α:Type} {p r:List α} {y:α}:bnds (p.length:Int) ((p ++ y :: r).length:Int)=true:=bnds_n (len_mid p r y)
theorem next_i {α:Type} {p r:List α} {y:α} (h:(p ++ y :: r).length < 4611686018427387904):IntKind.i64.wrap ((p.length:Int) + 1)=(((p ++ [y]).length:Nat):Int):=by
  rw [snoc_len];refine w64s ?_
  have:=len_mid p r y;omega
def dg (b:Bool) (n:Nat):Nat:=if b=true then 2 ^ n else 0
theorem dg_le (b:Bool) (n:Nat):dg b n<=2 ^ n:=by unfold dg;split <;> simp
theorem mkB_succ (g:Nat->Bool) (n:Nat):mkB g (n + 1)=mkB g n + dg (g n) n:=rfl
theorem shl_bt {a j n:Nat} (hn:n < 62):shlI .i64 (bt a j) (n:Int)=((dg (a.testBit j) n:Nat):Int):=by
  unfold bt dg
  cases a.testBit j
  · have:=shlI_n 0 n (by simp)
    simpa using this
  · rw [if_pos rfl,if_pos rfl,shl1 (by omega)]
theorem lt62 {n:Nat} (hn:n < 62):2 ^ (n + 1)<=4611686018427387904:=Nat.le_trans (Nat.pow_le_pow_right (by decide) (show n + 1<=62 by omega)) (by decide)
theorem or_dg {x n:Nat} (hx:x < 2 ^ n) (hn:n < 62) (b:Bool):bitI .or .i64 (x:Int) ((dg b n:Nat):Int)=((x + dg b n:Nat):Int):=by
  have h2:=lt62 hn
  have h3:=Nat.pow_succ 2 n
  have h4:=dg_le b n
  rw [bitI_or (by omega) (by omega)]
  congr 1
  unfold dg;cases b
  · simp
  · rw [if_pos rfl,or_pow hx]
def b1 (b:Bool):Int:=if b=true then 1 else 0
theorem shl_b1 {b:Bool} {n:Nat} (hn:n < 62):shlI .i64 (if b=true then 1 else 0) (n:Int)=((dg b n:Nat):Int):=by
  unfold dg
  cases b
  · have:=shlI_n 0 n (by simp)
    simpa using this
  · rw [if_pos rfl,if_pos rfl,shl1 (by omega)]
theorem funcBy_l (g:Nat->Bool) (f:Int × Unit->Option Int) (N:Nat) (hN:N<=16) (hf:∀ j:Nat,j < N->f ((j:Int),())=some (if g j=true then 1 else 0)) (v4:DF) (a:Int) (kx:DF->DF->Option R):∀ (m i k:Nat),i + m=N->m < k →
    i_funcBy_l3 K k f v4 (a,((mkB g i:Nat):Int),()) (N:Int) (i:Int) kx=kx v4 (a,((mkB g N:Nat):Int),())
  | 0,i,k + 1,e,_=>by
    obtain rfl:i=N:=by omega
    simp only [i_funcBy_l3];rw [ite_f (decide_eq_false (by omega))]
  | m + 1,i,k + 1,e,hk=>by
    have ih:=funcBy_l g f N hN hf v4 a kx m (i + 1) k (by omega) (by omega)
    rw [mkB_succ] at ih
    simp only [i_funcBy_l3]
    rw [ite_t (decide_eq_true (by omega)),hf i (by omega),some_bind',ite_t (nn _),shl_b1 (by omega),or_dg (mkB_lt _ _) (by omega),w64s (by omega),ih]
theorem i_funcBy_eq (g:Nat->Bool) {f:Int × Unit->Option Int} {n:Nat} (hn:n<=4) (hf:∀ j:Nat,j < 2 ^ n->f ((j:Int),())=some (if g j=true then 1 else 0)) (hK:4611686018427387904<=K):i_funcBy K ((n:Int),f,())=some ((n:Int),((mkB g (2 ^ n):Nat):Int),()):=by
  have hp:=pw4 hn
  simp only [i_funcBy,i_rowsOf_eq (show n < 63 by omega),some_bind']
  have:=funcBy_l (K:=K) g f (2 ^ n) hp hf ((0:Int),(0:Int),()) (n:Int) (fun z3 z4=>some z4) (2 ^ n) 0 K (by omega) (by omega)
  simp only [mkB] at this
  rw [show ((0:Nat):Int)=0 from rfl] at this
  exact this
/-- Something is handed back, and it is so. -/
def Okf {α:Type} (o:Option α) (P:α->Prop):Prop:=∃ y,o=some y/\P y
theorem Okf.ret {α:Type} {y:α} {P:α->Prop} (h:P y):Okf (some y) P:=⟨y,rfl,h⟩
theorem Okf.bind {α β:Type} {o:Option α} {P:α->Prop} {g:α->Option β} {Q:β->Prop} (h:Okf o P) (hg:∀ y,P y->Okf (g y) Q):Okf (o.bind g) Q:=by
  obtain ⟨y,e,hp⟩:=h
  rw [e];exact hg y hp
theorem Okf.mono {α:Type} {o:Option α} {P Q:α->Prop} (h:Okf o P) (hq:∀ y,P y->Q y):Okf o Q:=by
  obtain ⟨y,e,hp⟩:=h;exact ⟨y,e,hq y hp⟩
theorem Okf.ite {α:Type} {c:Bool} {a b:Option α} {P:α->Prop} (h1:c=true->Okf a P) (h2:c=false->Okf b P):Okf (if c=true then a else b) P:=by
  cases c
  · exact h2 rfl
  · exact h1 rfl
abbrev DSrc:=List Int × Int × Int × Unit
/-- A source that may be asked. -/
structure okS (s:DSrc):Prop where
  bytes:∀ b ∈ s.1,0<=b/\b < 256
  at0:0<=s.2.1
  at1:s.2.1<=s.1.length
  len:s.1.length<=4611686018427387904
theorem and_u64 (a:Int):0<=bitI .and .u64 a 16777215/\bitI .and .u64 a 16777215<=16777215:=by
  have e:bitI .and .u64 a 16777215=IntKind.u64.wrap (((BitVec.ofInt 64 a &&& BitVec.ofInt 64 16777215:BitVec 64).toNat:Nat):Int):=by unfold bitI;rw [gI_eq,gI_eq];rfl
  rw [e,BitVec.toNat_and]
  have h:(BitVec.ofInt 64 a).toNat &&& (BitVec.ofInt 64 16777215).toNat<=16777215:=Nat.le_trans Nat.and_le_right (by decide)
  rw [u64n (by omega)]
  omega
theorem tmod_ok {a n:Int} (ha:0<=a) (hn:1<=n):0<=Int.tmod a n/\Int.tmod a n < n:=⟨Int.tmod_nonneg _ ha,Int.tmod_lt_of_pos _ (by omega)⟩
def nextP (n:Int) (y:(Int × Unit) × (DSrc × Unit)):Prop:=okS y.2.1/\(1<=n->0<=y.1.1/\y.1.1 < n)/\(n < 1->y.1.1=0)
theorem next_ok {s:DSrc} (n:Int) (h:okS s):Okf (s_l01Next K (s,n,())) (nextP n):=by
  obtain ⟨code,at',hash,u⟩:=s
  simp only [s_l01Next]
  refine Okf.ite (fun hn=>?_) (fun hn=>?_)
  · have hn:=of_decide_eq_true hn
    exact Okf.ret ⟨h,fun h1=>by omega,fun _=>rfl⟩
  · have hn:=of_decide_eq_false hn
    have hn0:(!decide (n=0))=true:=by simp;omega
    obtain ⟨a1,a2⟩:=and_u64 (shrI .u64 (IntKind.u64.wrap ((IntKind.u64.wrap (hash * (6364136223846793005:Int))) + (1442695040888963407:Int))) (33:Int))
    have h0:0<=at':=h.at0
    have h1:at'<=code.length:=h.at1
    have hl:code.length<=4611686018427387904:=h.len
    have hb:∀ b ∈ code,0<=b/\b < 256:=h.bytes
    rw [w64 (x:=bitI .and .u64 _ 16777215) (by omega) (by omega)]
    refine Okf.ite (fun hc=>?_) (fun hc=>?_)
    · have hc:at' < code.length:=of_decide_eq_true hc
      have hm:code.getD at'.toNat 0 ∈ code:=by
        simp only [List.getD,List.getElem?_eq_getElem (show at'.toNat < code.length by omega)]
        simp
      obtain ⟨b1,b2⟩:=hb _ hm
      rw [ite_t (bnds_t h0 hc),ite_t hn0]
      rw [w64 (x:=code.getD at'.toNat 0) (by omega) (by omega),w64 (x:=bitI .and .u64 _ 16777215 + _) (by omega) (by omega),w64 (x:=at' + 1) (by omega) (by omega)]
      obtain ⟨t1,t2⟩:=tmod_ok (a:=bitI .and .u64 (shrI .u64 (IntKind.u64.wrap ((IntKind.u64.wrap (hash * (6364136223846793005:Int))) + (1442695040888963407:Int))) (33:Int)) 16777215 + code.getD at'.toNat 0) (n:=n) (by omega) (by omega)
      exact Okf.ret ⟨⟨hb,show 0<=at' + 1 by omega,show at' + 1<=code.length by omega,hl⟩,fun _=>⟨t1,t2⟩,fun h=>by omega⟩
    · rw [ite_t hn0]
      obtain ⟨t1,t2⟩:=tmod_ok (a:=bitI .and .u64 (shrI .u64 (IntKind.u64.wrap ((IntKind.u64.wrap (hash * (6364136223846793005:Int))) + (1442695040888963407:Int))) (33:Int)) 16777215) (n:=n) (by omega) (by omega)
      exact Okf.ret ⟨⟨hb,h0,h1,hl⟩,fun _=>⟨t1,t2⟩,fun h=>by omega⟩
theorem pick_ok {s:DSrc} {l:List Int} (h:okS s) (hl:l ≠ []):Okf (s_l01Pick K (s,l,())) (fun y=>okS y.2.1/\y.1.1 ∈ l):=by
  simp only [s_l01Pick]
  have hp:0 < l.length:=List.length_pos_iff.2 hl
  refine Okf.bind (next_ok (l.length:Int) h) fun y hy=>?_
  obtain ⟨y1,y2,_⟩:=hy
  obtain ⟨y3,y4⟩:=y2 (by omega)
  rw [ite_t (bnds_t y3 y4)]
  refine Okf.ret ⟨y1,?_⟩
  simp only [List.getD,List.getElem?_eq_getElem (show y.1.1.toNat < l.length by omega)]
  simp
theorem from_l (code:List Int) (hc:code.length<=4096) (hb:∀ b ∈ code,0<=b/\b < 256) (Q:R->Prop) (kx:DSrc->Option R) (hk:∀ s,okS s->s.1=code->Okf (kx s) Q):∀ (m i k:Nat) (s:DSrc),i + m=code.length->m < k->okS s->s.1=code->Okf (s_l01From_l3 K k code s (i:Int) kx) Q
  | 0,i,k + 1,s,e,_,h,hs=>by
    simp only [s_l01From_l3]
    rw [ite_f (decide_eq_false (by omega))]
    exact hk s h hs
  | m + 1,i,k + 1,s,e,hm,h,hs=>by
    simp only [s_l01From_l3,s_l01From_j5]
    rw [ite_t (decide_eq_true (by omega)),ite_t (decide_eq_true (by omega)),ite_t (bnds_n (by omega)),w64s (by omega)]
    exact from_l code hc hb Q kx hk m (i + 1) k _ (by omega) (by omega) ⟨h.bytes,h.at0,h.at1,h.len⟩ hs
theorem from_ok {code:List Int} (hc:code.length<=4096) (hb:∀ b ∈ code,0<=b/\b < 256) (hK:4611686018427387904<=K):Okf (s_l01From K (code,())) (fun y=>okS y.1.1):=by
  simp only [s_l01From]
  exact from_l (K:=K) code hc hb (fun y=>okS y.1.1) (fun z7=>some ((z7,()),())) (fun s h _=>Okf.ret h) code.length 0 K (code,0,IntKind.u64.wrap ((13231:Int) + (IntKind.u64.wrap (code.length:Int))),()) (by omega) (by omega) ⟨hb,Int.le_refl _,by show (0:Int)<=(code.length:Int);omega,by show code.length<=_;omega⟩ rfl
/-- Codes of the length that the statements ask about. -/
structure okCode (code:List Int):Prop where
  len:code.length<=4096
  bytes:∀ b ∈ code,0<=b/\b < 256
theorem likeI_l (l:List Int) (hl:l.length < 4611686018427387904) (kx:Option R) (kr:Bool->Option R):∀ (r p:List Int) (k:Nat),l=p ++ r->r.length < k->w_likeInts_l4 K k l l (p.length:Int) kx kr=kx
  | [],p,k + 1,h,_=>by subst h;simp only [w_likeInts_l4];rw [ite_f nlt_len]
  | y :: r,p,k + 1,h,hk=>by
    subst h
    simp only [w_likeInts_l4]
    rw [ite_t lt_len,ite_t bnds_mid,ite_t bnds_mid,ite_f (by simp),next_i hl]
    exact likeI_l _ hl kx kr r (p ++ [y]) k (mid_app p r y) (by simp at hk;omega)
theorem w_likeInts_refl {l:List Int} (hl:l.length < 4611686018427387904) (hK:4611686018427387904<=K):w_likeInts K (l,l,())=some true:=by
  simp only [w_likeInts]
  rw [ite_f (by simp)]
  exact likeI_l l hl _ _ l [] K rfl (by omega)
theorem near_ok {s:DSrc} {m:Int} (h:okS s):Okf (s_l01Near K (s,m,())) (fun y=>okS y.2.1):=by
  simp only [s_l01Near]
  refine Okf.bind (next_ok _ h) fun y1 h1=>?_
  refine Okf.ite (fun _=>?_) fun _=>?_
  · exact Okf.bind (pick_ok h1.1 (by simp)) fun y3 h3=>Okf.ret h3.1
  · exact Okf.bind (next_ok _ h1.1) fun y4 h4=>Okf.ret h4.1
/-- A power of 2, closed to the arithmetic. -/
def pw (n:Nat):Nat:=2 ^ n
theorem pwE_pos (n:Nat):0 < pw n:=Nat.two_pow_pos n
theorem pw_mono {a b:Nat} (h:a<=b):pw a<=pw b:=Nat.pow_le_pow_right (by decide) h
theorem p_le {n:Nat} (hn:n<=4):pw n<=16:=Nat.le_trans (pw_mono hn) (by decide)
/-- The number with these digits. -/
def packL:List Nat->Nat->Nat
  | [],_=>0
  | x :: xs,j=>x * pw j + packL xs (j + 1)
/-- Numbers of at least 0 as whole numbers. -/
def up (l:List Nat):List Int:=l.map (fun x:Nat=>((x:Nat):Int))
theorem up_len (l:List Nat):(up l).length=l.length:=by simp [up]
theorem of_l3 {n:Nat} {l:List Nat} (hn:n<=4) (hl:l.length=pw n) (hv:∀ x ∈ l,x<=1) (v4:Int × Int × Unit) (u:Unit) (kx0:(Int × Int × Unit)->(Int × Int × Unit)->Option R) :
    ∀ (d i k acc:Nat),i + d=pw n->d < k->acc < pw i->s_l01Of_l3 K k (n:Int) (up l) v4 ((n:Int),(acc:Int),u) (i:Int) kx0=kx0 v4 ((n:Int),((acc + packL (l.drop i) i:Nat):Int),u)
  | d,i,0,acc,_,h,_=>by omega
  | 0,i,k + 1,acc,e,_,_=>by
    rw [s_l01Of_l3,s_l01Rows_eq (by omega),some_bind',ite_f (decide_eq_false (by unfold pw at e;omega)),List.drop_eq_nil_of_le (by omega)];rfl
  | d + 1,i,k + 1,acc,e,h,ha=>by
    have hp:=p_le hn
    have hil:i < l.length:=by omega
    have hx:=hv l[i] (List.getElem_mem hil)
    have hg:(up l).getD (i:Int).toNat (0:Int)=((l[i]:Nat):Int):=by simp [up,List.getD,hil]
    have hpi:pw (i + 1)=pw i * 2:=by unfold pw;rw [Nat.pow_succ]
    have hp15:pw i<=65536:=Nat.le_trans (pw_mono (show i<=16 by omega)) (by decide)
    have hm:l[i] * pw i<=pw i:=Nat.le_trans (Nat.mul_le_mul_right _ hx) (by omega)
    have hu:((up l).length:Int)=(l.length:Int):=by rw [up_len]
    have ih:=of_l3 hn hl hv v4 () kx0 d (i + 1) k (acc + l[i] * pw i) (by omega) (by omega) (by omega)
    rw [s_l01Of_l3,s_l01Rows_eq (by omega),some_bind',ite_t (decide_eq_true (by unfold pw at e;omega)),hu,ite_t (bnds_n hil),ite_t (u64_dec _),hg,u64n (by omega)]
    have hs:shlI .i64 ((l[i]:Nat):Int) (i:Int)=((l[i] * pw i:Nat):Int):=shlI_n _ _ (by unfold pw at hm hp15;omega)
    rw [hs,w64s (by omega)]
    dsimp only
    rw [show IntKind.i64.wrap ((acc:Int) + ((l[i] * pw i:Nat):Int))=((acc + l[i] * pw i:Nat):Int) by rw [w64 (by omega) (by omega)];omega]
    rw [List.drop_eq_getElem_cons hil,packL,<-Nat.add_assoc]
    exact ih
theorem s_l01Of_eq {n:Nat} {l:List Nat} (hn:n<=4) (hl:l.length=pw n) (hv:∀ x ∈ l,x<=1) (hK:100<=K):s_l01Of K ((n:Int),up l,())=some ((n:Int),((packL l 0:Nat):Int),()):=by
  have hp:=p_le hn
  simp only [s_l01Of]
  refine (of_l3 (K:=K) hn hl hv _ () _ (pw n) 0 K 0 (by omega) (by omega) (pwE_pos 0)).trans ?_
  rw [List.drop_zero,Nat.zero_add]
def dualN (n b:Nat):Nat:=mkB (fun j=>!b.testBit (2 ^ n - 1 - j)) (2 ^ n)
theorem dualN_lt (n b:Nat):dualN n b < 2 ^ 2 ^ n:=mkB_lt _ _
theorem dualN_bit {n b j:Nat} (h:j < 2 ^ n):(dualN n b).testBit j=!b.testBit (2 ^ n - 1 - j):=by rw [dualN,mkB_bit,decide_eq_true h,Bool.true_and]
theorem i_Func_dual_eq {n b:Nat} (hn:n<=4) (hb:b < 9223372036854775808) (hK:4611686018427387904<=K):i_Func_dual K (((n:Int),(b:Int),()),())=some ((n:Int),((dualN n b:Nat):Int),()):=by
  have hp:2 ^ n<=16:=Nat.pow_le_pow_right (by decide) hn
  simp only [i_Func_dual]
  rw [i_funcBy_eq (fun j=>!b.testBit (2 ^ n - 1 - j)) hn (fun j hj=>?_) hK]
  · rfl
  · simp only [i_Func_dual_c1]
    rw [i_Func_rows_eq _ (by omega),some_bind',w64 (x:=((2 ^ n:Nat):Int) - 1) (by omega) (by omega),w64 (by omega) (by omega),show ((2 ^ n:Nat):Int) - 1 - (j:Int)=((2 ^ n - 1 - j:Nat):Int) by omega,i_Func_at_eq _ hb,some_bind']
    unfold bt
    cases b.testBit (2 ^ n - 1 - j) <;> rfl
theorem idx_impl_Func_l (f:DF × Unit->Option Bool) (g:DF->Bool) (l:List DF) (hl:l.length < 4611686018427387904) (kx:Option R) (kr:Int->Option R):∀ (r p:List DF) (k:Nat),l=p ++ r->r.length < k->(∀ x ∈ r,f (x,())=some (g x)) →
    slices_IndexFunc_impl_Func_l2 K k l f (l.length:Int) (p.length:Int) kx kr=match r.findIdx? g with | some j=>kr ((p.length + j:Nat):Int) | none=>kx
  | [],p,k + 1,h,_,_=>by subst h;simp only [slices_IndexFunc_impl_Func_l2];rw [ite_f nlt_len];rfl
  | y :: r,p,k + 1,h,hk,hf=>by
    subst h
    simp only [slices_IndexFunc_impl_Func_l2]
    rw [ite_t lt_len,ite_t bnds_mid,getD_midI,hf y (by simp),some_bind',List.findIdx?_cons]
    cases hg:g y
    · rw [if_neg (by decide),if_neg (by decide),next_i hl,idx_impl_Func_l f g _ hl kx kr r (p ++ [y]) k (mid_app p r y) (by simp at hk;omega) (fun x hx=>hf x (by simp [hx]))]
      cases hr:r.findIdx? g
      · rfl
      · simp only [Option.map_some];congr 1;simp;omega
    · rw [if_pos rfl,if_pos rfl];rfl
theorem slices_ContainsFunc_impl_Func_eq (f:DF × Unit->Option Bool) (g:DF->Bool) {l:List DF} (hl:l.length < 4611686018427387904) (hK:4611686018427387904<=K) (hf:∀ x ∈ l,f (x,())=some (g x)) :
    slices_ContainsFunc_impl_Func K (l,f,())=some (l.any g):=by
  simp only [slices_ContainsFunc_impl_Func,slices_IndexFunc_impl_Func]
  have:=idx_impl_Func_l (K:=K) f g l hl (some (-1:Int)) (fun z=>some z) l [] K rfl (by omega) hf
  simp only [List.length_nil,Nat.zero_add] at this
  rw [show ((0:Nat):Int)=0 from rfl] at this
  rw [this,<-List.findIdx?_isSome];cases l.findIdx? g <;> simp
theorem any_not' {α:Type} (l:List α) (g:α->Bool):(!(l.any fun a=>!g a))=l.all g:=by
  induction l with
  | nil=>rfl
  | cons a l ih=>simp only [List.any_cons,List.all_cons,Bool.not_or,Bool.not_not,ih]
theorem i_areFuncs_eq {l:List DF} (hl:l.length < 4611686018427387904) (hK:4611686018427387904<=K):i_areFuncs K (l,())=some (l.all (isF 0)):=by
  simp only [i_areFuncs]
  rw [slices_ContainsFunc_impl_Func_eq _ (fun x=>!isF 0 x) hl hK (fun x hx=>by simp only [i_areFuncs_c1];rw [i_IsFunc_eq,some_bind']),some_bind',any_not']
theorem eql_iff (a b:ByteArray):cmpS .eql a b=true ↔ a=b:=by
  simp only [cmpS,beq_iff_eq,ByteArray.toList_eq]
  exact ⟨fun h=>ByteArray.ext (Array.toList_inj.mp h),fun h=>by rw [h]⟩
theorem eql_ne {a b:ByteArray} (h:a ≠ b):cmpS .eql a b=false:=by
  cases e:cmpS .eql a b
  · rfl
  · exact absurd ((eql_iff a b).1 e) h
def packN (l:List Nat) (r:Nat):Nat:=mkB (fun i=>(l.getD i 0).testBit r) l.length
def putN (b n:Nat) (l:List Nat):Nat:=mkB (fun r=>b.testBit (packN l r)) (2 ^ n)
theorem putN_lt (b n:Nat) (l:List Nat):putN b n l < 2 ^ 2 ^ n:=mkB_lt _ _
def fN (n b:Nat):DF:=((n:Int),(b:Int),())
def fnsN (n:Nat) (l:List Nat):List DF:=l.map (fN n)
theorem fns_len (n:Nat) (l:List Nat):(fnsN n l).length=l.length:=by simp [fnsN]
theorem fns_get (n:Nat) (l:List Nat) (i:Nat) (h:i < l.length):(fnsN n l).getD (i:Int).toNat ((0:Int),(0:Int),())=fN n (l.getD i 0):=by
  simp [fnsN,List.getD,h]
theorem fns_snoc (n:Nat) (l:List Nat) (x:Nat):fnsN n l ++ [fN n x]=fnsN n (l ++ [x]):=by simp [fnsN]
theorem getD_all {l:List Nat} {B:Nat} (hB:0 < B) (h:∀ x ∈ l,x < B) (i:Nat):l.getD i 0 < B:=by
  by_cases hi:i < l.length
  · have:l.getD i 0=l[i]:=by simp [List.getD,hi]
    rw [this];exact h _ (List.getElem_mem hi)
  · simp [List.getD,hi,hB]
theorem putc_l {n j:Nat} (l:List Nat) (hl:l.length<=4) (hb:∀ x ∈ l,x < 65536) (v2:DF) (kx:DF->Int->Option R):∀ (m i k:Nat),i + m=l.length->m < k →
    i_Func_put_c1_l3 K k (j:Int) v2 ((mkB (fun i=>(l.getD i 0).testBit j) i:Nat):Int) (fnsN n l) (l.length:Int) (i:Int) kx=kx v2 ((packN l j:Nat):Int)
  | _,_,0,_,h=>by omega
  | 0,i,k + 1,e,_=>by
    obtain rfl:i=l.length:=by omega
    simp only [i_Func_put_c1_l3];rw [ite_f (decide_eq_false (by omega))];rfl
  | m + 1,i,k + 1,e,hk=>by
    have ih:=putc_l (n:=n) (j:=j) l hl hb v2 kx m (i + 1) k (by omega) (by omega)
    rw [mkB_succ] at ih
    have hx:=getD_all (by decide) hb i
    simp only [i_Func_put_c1_l3]
    rw [ite_t (decide_eq_true (by omega)),ite_t (bnds_n (by rw [fns_len];omega)),fns_get n l i (by omega),fN,i_Func_at_eq j (by omega),some_bind',ite_t (nn _),shl_bt (by omega),or_dg (mkB_lt _ _) (by omega),w64s (by omega),ih]
theorem packN_lt (l:List Nat) (r:Nat):packN l r < 2 ^ l.length:=mkB_lt _ _
theorem i_Func_put_eq {a b n m:Nat} (hb:b < 65536) (hn:n<=4) (l:List Nat) (hl:l.length<=4) (hx:∀ x ∈ l,x < 65536) (hK:4611686018427387904<=K):i_Func_put K (fN a b,(n:Int),fnsN m l,())=some (fN n (putN b n l)):=by
  simp only [i_Func_put]
  rw [i_funcBy_eq (fun r=>b.testBit (packN l r)) hn (fun j hj=>?_) hK,some_bind']
  · rfl
  · simp only [i_Func_put_c1,fns_len]
    have:=putc_l (K:=K) (n:=m) (j:=j) l hl hx (fN a b) (fun z2 z3=>(i_Func_at K (z2,z3,())).bind fun y4=>some y4) l.length 0 K (by omega) (by omega)
    refine this.trans ?_
    have h16:packN l j < 16:=Nat.lt_of_lt_of_le (packN_lt l j) (Nat.pow_le_pow_right (by decide) hl)
    rw [fN,i_Func_at_eq _ (by omega),some_bind'];rfl
def projN (n i:Nat):Nat:=mkB (fun r=>r.testBit i) (2 ^ n)
theorem projN_lt (n i:Nat):projN n i < 2 ^ 2 ^ n:=mkB_lt _ _
theorem i_projection_eq {n i:Nat} (hn:n<=4) (hK:4611686018427387904<=K):i_projection K ((n:Int),(i:Int),())=some (fN n (projN n i)):=by
  simp only [i_projection]
  rw [i_funcBy_eq (fun r=>r.testBit i) hn (fun j hj=>?_) hK,some_bind']
  · rfl
  · have h16:j < 16:=Nat.lt_of_lt_of_le hj (Nat.pow_le_pow_right (by decide) hn)
    simp only [i_projection_c1]
    rw [i_bit_eq i (by omega),some_bind'];rfl
theorem putN_bit {b n r:Nat} {l:List Nat} (hr:r < 2 ^ n):(putN b n l).testBit r=b.testBit (packN l r):=by rw [putN,mkB_bit,decide_eq_true hr,Bool.true_and]
theorem packN_bit (l:List Nat) (r i:Nat):(packN l r).testBit i=(decide (i < l.length) && (l.getD i 0).testBit r):=mkB_bit _ _ _
end Go.Proofs.YtefmjjpdflpnaaaGreat.E
namespace Go.Proofs.YtefmjjpdflpnaaaGreat.E
open Go Go.Proofs Go.Proofs.YtefmjjpdflpnaaaGreat
set_option maxRecDepth 100000
set_option linter.unusedVariables false
noncomputable def as_s_l05Most:Ty:=(.pair .str .unit)
noncomputable def sp_s_l05Most (F:(ByteArray × Unit)->Option Int):FnSpec:=⟨as_s_l05Most,[false],(.int .i64),F⟩
noncomputable def s_l05Most_j6 {R:Type} (K:Nat) (k:Nat) (v0:ByteArray) (v3:Int) (v4:Int) (kn:ByteArray->Int->Int->Option R) :Option R :=
    gN K ((if (bnds v4 (v0.size:Int))=true then
    let x1:=(IntKind.i64.wrap (IntKind.u8.wrap ((byteAt v0 v4) - (97:Int))))
    kn v0 (maxL v3 [x1]) v4
    else
    none))
noncomputable def s_l05Most_j4 {R:Type} (K:Nat) (k:Nat) (v0:ByteArray) (v3:Int) (v4:Int) (kn:ByteArray->Int->Int->Option R) :Option R :=
    kn v0 v3 (IntKind.i64.wrap (v4 + (1:Int)))
noncomputable def s_l05Most_l3 {R:Type} (K:Nat):Nat->ByteArray->Int->Int->(Int->Option R)->Option R
  | 0,_,_,_,_=>none
  | k + 1,v0,v3,v4,kx0 =>
    (if (decide (v4 < (v0.size:Int)))=true then
    (if (bnds v4 (v0.size:Int))=true then
    (if (decide ((byteAt v0 v4) ≥ (97:Int)))=true then
    (if (bnds v4 (v0.size:Int))=true then
    (if (decide ((byteAt v0 v4)<=(100:Int)))=true then
    s_l05Most_j6 K k v0 v3 v4 (fun z2 z3 z4 =>
    s_l05Most_j4 K k z2 z3 z4 (fun z5 z6 z7 =>
    s_l05Most_l3 K k z5 z6 z7 kx0))
    else
    s_l05Most_j4 K k v0 v3 v4 (fun z8 z9 z10 =>
    s_l05Most_l3 K k z8 z9 z10 kx0))
    else
    none)
    else
    s_l05Most_j4 K k v0 v3 v4 (fun z11 z12 z13 =>
    s_l05Most_l3 K k z11 z12 z13 kx0))
    else
    none)
    else
    kx0 v3)
noncomputable def s_l05Most (K:Nat) (x:(ByteArray × Unit)):Option Int :=
    s_l05Most_l3 K K x.1 (-1:Int) (0:Int) (fun z14 =>
    some z14)
noncomputable def X0_s_l05Most:Lv:=[(3,(.v (.int .i64)))]
noncomputable def rv_s_l05Most:Lv:=[(2,(.v (.int .i64)))]
noncomputable def D_s_l05Most (K:Nat):List (PD (den (.int .i64))):=[.L 3 [(0,(.v .str)),(3,(.v (.int .i64))),(4,(.v (.int .i64)))] [] (fun k x kx kr=>s_l05Most_l3 K k x.1 x.2.1 x.2.2.1 (fun z0=>kx 0 (mkSt X0_s_l05Most (z0,())))),
  .J 6 [(0,(.v .str)),(3,(.v (.int .i64))),(4,(.v (.int .i64)))] [(0,(.v .str)),(3,(.v (.int .i64))),(4,(.v (.int .i64)))] K (fun k x kn kx kr=>s_l05Most_j6 K k x.1 x.2.1 x.2.2.1 (fun z0 z1 z2=>kn (z0,z1,z2,()))),
  .J 4 [(0,(.v .str)),(3,(.v (.int .i64))),(4,(.v (.int .i64)))] [(0,(.v .str)),(3,(.v (.int .i64))),(4,(.v (.int .i64)))] 0 (fun k x kn kx kr=>s_l05Most_j4 K k x.1 x.2.1 x.2.2.1 (fun z0 z1 z2=>kn (z0,z1,z2,())))]
theorem ok_s_l05Most (K:Nat):FnOk Tryz.prog 33 (sp_s_l05Most (s_l05Most K)) :=
  fn_okD tysOk [] 0 (D_s_l05Most K) [(0,X0_s_l05Most)] rv_s_l05Most K Tryz.func33 (by kernel_rfl) ⟨⟨fun _ _ _ _=>by kernel_rfl,fun _ _ _=>rfl⟩,⟨fun _ _ _ _ _=>by kernel_rfl,⟨fun _ _ _ _ _=>by kernel_rfl,trivial⟩⟩⟩ (fun _=>by kernel_rfl)
noncomputable def C_s_l05Most (K:Nat):CB Tryz.prog:=.f _ _ (ok_s_l05Most K)
noncomputable def as_s_l05Places:Ty:=(.pair (.int .u8) .unit)
noncomputable def sp_s_l05Places (F:(Int × Unit)->Option Int):FnSpec:=⟨as_s_l05Places,[false],(.int .i64),F⟩
noncomputable def s_l05Places_j15 {R:Type} (K:Nat) (k:Nat) (v3:Int) (kn:Option R) (kr:(Int->Option R)):Option R :=
    gN K ((if (decide (v3=(63:Int)))=true then
    (if (decide (v3=(63:Int)))=true then
    kr (3:Int)
    else
    kn)
    else
    (if (decide (v3=(77:Int)))=true then
    kr (3:Int)
    else
    kn)))
noncomputable def s_l05Places_j9 {R:Type} (K:Nat) (k:Nat) (v3:Int) (kn:Option R) (kr:(Int->Option R)):Option R :=
    gN K ((if (decide (v3=(33:Int)))=true then
    kr (1:Int)
    else
    (if (decide (v3=(38:Int)))=true then
    (if (decide (v3=(38:Int)))=true then
    kr (2:Int)
    else
    s_l05Places_j15 K k v3 kn (fun z1 =>
    kr z1))
    else
    (if (decide (v3=(124:Int)))=true then
    (if (decide (v3=(124:Int)))=true then
    kr (2:Int)
    else
    s_l05Places_j15 K k v3 kn (fun z2 =>
    kr z2))
    else
    (if (decide (v3=(94:Int)))=true then
    kr (2:Int)
    else
    s_l05Places_j15 K k v3 kn (fun z3 =>
    kr z3))))))
noncomputable def s_l05Places_j18 {R:Type} (K:Nat) (k:Nat)  (kn:Option R) (kr:(Int->Option R)):Option R :=
    kr (-1:Int)
noncomputable def s_l05Places (K:Nat) (x:(Int × Unit)):Option Int :=
    (if (decide (x.1=(97:Int)))=true then
    (if (decide (x.1=(97:Int)))=true then
    some (0:Int)
    else
    s_l05Places_j9 K K x.1 (s_l05Places_j18 K K none (fun z4 =>
    some z4)) (fun z5 =>
    some z5))
    else
    (if (decide (x.1=(98:Int)))=true then
    (if (decide (x.1=(98:Int)))=true then
    some (0:Int)
    else
    s_l05Places_j9 K K x.1 (s_l05Places_j18 K K none (fun z6 =>
    some z6)) (fun z7 =>
    some z7))
    else
    (if (decide (x.1=(99:Int)))=true then
    (if (decide (x.1=(99:Int)))=true then
    some (0:Int)
    else
    s_l05Places_j9 K K x.1 (s_l05Places_j18 K K none (fun z8 =>
    some z8)) (fun z9 =>
    some z9))
    else
    (if (decide (x.1=(100:Int)))=true then
    (if (decide (x.1=(100:Int)))=true then
    some (0:Int)
    else
    s_l05Places_j9 K K x.1 (s_l05Places_j18 K K none (fun z10 =>
    some z10)) (fun z11 =>
    some z11))
    else
    (if (decide (x.1=(48:Int)))=true then
    (if (decide (x.1=(48:Int)))=true then
    some (0:Int)
    else
    s_l05Places_j9 K K x.1 (s_l05Places_j18 K K none (fun z12 =>
    some z12)) (fun z13 =>
    some z13))
    else
    (if (decide (x.1=(49:Int)))=true then
    some (0:Int)
    else
    s_l05Places_j9 K K x.1 (s_l05Places_j18 K K none (fun z14 =>
    some z14)) (fun z15 =>
    some z15)))))))
noncomputable def rv_s_l05Places:Lv:=[(2,(.v (.int .i64)))]
noncomputable def D_s_l05Places (K:Nat):List (PD (den (.int .i64))):=[.J 9 [(3,(.v (.int .u8)))] [] K (fun k x kn kx kr=>s_l05Places_j9 K k x.1 (kn ()) (fun z0=>kr (mkSt rv_s_l05Places (z0,())))),
  .J 15 [(3,(.v (.int .u8)))] [] K (fun k x kn kx kr=>s_l05Places_j15 K k x.1 (kn ()) (fun z0=>kr (mkSt rv_s_l05Places (z0,())))),
  .J 18 [] [] 0 (fun k x kn kx kr=>s_l05Places_j18 K k (kn ()) (fun z0=>kr (mkSt rv_s_l05Places (z0,()))))]
theorem ok_s_l05Places (K:Nat):FnOk Tryz.prog 74 (sp_s_l05Places (s_l05Places K)) :=
  fn_okD tysOk [] 0 (D_s_l05Places K) [] rv_s_l05Places K Tryz.func74 (by kernel_rfl) ⟨fun _ _ _ _ _=>by kernel_rfl,⟨fun _ _ _ _ _=>by kernel_rfl,⟨fun _ _ _ _ _=>by kernel_rfl,trivial⟩⟩⟩ (fun _=>by kernel_rfl)
noncomputable def C_s_l05Places (K:Nat):CB Tryz.prog:=.f _ _ (ok_s_l05Places K)
noncomputable def s_l05End_l7 {R:Type} (K:Nat) (r:(ByteArray × Int × Unit)->Option Int):Nat->ByteArray->Int->Int->(Int->Option R)->(Int->Option R)->Option R
  | 0,_,_,_,_,_=>none
  | k + 1,v0,v1,v5,kx0,kr =>
    (if (decide (v5 > (0:Int)))=true then
    (r (v0,v1,())).bind fun y2 =>
    (if (decide (y2 < (0:Int)))=true then
    kr (-1:Int)
    else
    s_l05End_l7 K r k v0 y2 (IntKind.i64.wrap (v5 - (1:Int))) kx0 kr)
    else
    kx0 v1)
noncomputable def s_l05End_b (K:Nat) (r:(ByteArray × Int × Unit)->Option Int) (x:(ByteArray × Int × Unit)):Option Int :=
    (if (decide (x.2.1 ≥ (x.1.size:Int)))=true then
    some (-1:Int)
    else
    (if (bnds x.2.1 (x.1.size:Int))=true then
    (s_l05Places K ((byteAt x.1 x.2.1),())).bind fun y1 =>
    (if (decide (y1 < (0:Int)))=true then
    some (-1:Int)
    else
    s_l05End_l7 K r K x.1 (IntKind.i64.wrap (x.2.1 + (1:Int))) y1 (fun z3 =>
    some z3) (fun z4 =>
    some z4))
    else
    none))
noncomputable def s_l05End (K:Nat):Nat->(ByteArray × Int × Unit)->Option Int
  | 0=>fun _=>none
  | k + 1=>s_l05End_b K (s_l05End K k)
noncomputable def X0_s_l05End:Lv:=[(1,(.v (.int .i64)))]
noncomputable def rv_s_l05End:Lv:=[(4,(.v (.int .i64)))]
noncomputable def D_s_l05End (K:Nat) (r:(ByteArray × Int × Unit)->Option Int):List (PD (den (.int .i64))):=[.L 7 [(0,(.v .str)),(1,(.v (.int .i64))),(5,(.v (.int .i64)))] [] (fun k x kx kr=>s_l05End_l7 K r k x.1 x.2.1 x.2.2.1 (fun z0=>kx 0 (mkSt X0_s_l05End (z0,()))) (fun z0=>kr (mkSt rv_s_l05End (z0,()))))]
theorem okb_s_l05End (K:Nat) (r:(ByteArray × Int × Unit)->Option Int) (hr:FnOk Tryz.prog 72 (sp_s_l05End r)):FnOk Tryz.prog 72 (sp_s_l05End (s_l05End_b K r)) :=
  fn_okD tysOk [.f _ (sp_s_l05End (r)) (hr),C_s_l05Places K] 0 (D_s_l05End K r) [(0,X0_s_l05End)] rv_s_l05End K Tryz.func72 (by kernel_rfl) ⟨⟨fun _ _ _ _=>by kernel_rfl,fun _ _ _=>rfl⟩,trivial⟩ (fun _=>by kernel_rfl)
theorem ok_s_l05End (K:Nat):∀ k,FnOk Tryz.prog 72 (sp_s_l05End (s_l05End K k))
  | 0=>fnOk_none
  | k + 1=>okb_s_l05End K (s_l05End K k) (ok_s_l05End K k)
noncomputable def as_s_l05Is:Ty:=(.pair .str .unit)
noncomputable def sp_s_l05Is (F:(ByteArray × Unit)->Option Bool):FnSpec:=⟨as_s_l05Is,[false],.bool,F⟩
noncomputable def s_l05Is (K:Nat) (x:(ByteArray × Unit)):Option Bool :=
    (if (decide ((x.1.size:Int) ≥ (1:Int)))=true then
    (if (decide ((x.1.size:Int)<=(60:Int)))=true then
    (s_l05End K K (x.1,(0:Int),())).bind fun y1 =>
    some (decide (y1=(x.1.size:Int)))
    else
    some false)
    else
    some false)
noncomputable def rv_s_l05Is:Lv:=[(2,(.v .bool))]
theorem ok_s_l05Is (K:Nat):FnOk Tryz.prog 39 (sp_s_l05Is (s_l05Is K)) :=
  fn_okD tysOk [.f _ (sp_s_l05End (s_l05End K K)) (ok_s_l05End K K)] 0 [] [] rv_s_l05Is K Tryz.func39 (by kernel_rfl) trivial (fun _=>by kernel_rfl)
noncomputable def C_s_l05Is (K:Nat):CB Tryz.prog:=.f _ _ (ok_s_l05Is K)
noncomputable def as_s_l05Parts:Ty:=(.pair .str .unit)
noncomputable def sp_s_l05Parts (F:(ByteArray × Unit)->Option (List ByteArray)):FnSpec:=⟨as_s_l05Parts,[false],(.sl .str),F⟩
noncomputable def s_l05Parts_l2 {R:Type} (K:Nat):Nat->ByteArray->(List ByteArray)->Int->((List ByteArray)->Option R)->Option R
  | 0,_,_,_,_=>none
  | k + 1,v0,v3,v4,kx0 =>
    (if (decide (v4 < (v0.size:Int)))=true then
    (s_l05End K K (v0,v4,())).bind fun y2 =>
    (if (decide (0<=v4) && decide (v4<=y2) && decide (y2<=(v0.size:Int)))=true then
    let l3:=[(v0.extract v4.toNat y2.toNat)]
    (if (decide (v3.length + l3.length<=lim))=true then
    let l4:=(v3 ++ l3)
    s_l05Parts_l2 K k v0 l4 y2 kx0
    else
    none)
    else
    none)
    else
    kx0 v3)
noncomputable def s_l05Parts (K:Nat) (x:(ByteArray × Unit)):Option (List ByteArray) :=
    let l1:=([]:List ByteArray)
    s_l05Parts_l2 K K x.1 l1 (1:Int) (fun z5 =>
    some z5)
noncomputable def X0_s_l05Parts:Lv:=[(3,(.r .str))]
noncomputable def rv_s_l05Parts:Lv:=[(2,(.r .str))]
noncomputable def D_s_l05Parts (K:Nat):List (PD (den (.sl .str))):=[.L 2 [(0,(.v .str)),(3,(.r .str)),(4,(.v (.int .i64)))] [] (fun k x kx kr=>s_l05Parts_l2 K k x.1 x.2.1 x.2.2.1 (fun z0=>kx 0 (mkSt X0_s_l05Parts (z0,()))))]
theorem ok_s_l05Parts (K:Nat):FnOk Tryz.prog 60 (sp_s_l05Parts (s_l05Parts K)) :=
  fn_okD tysOk [.f _ (sp_s_l05End (s_l05End K K)) (ok_s_l05End K K)] 0 (D_s_l05Parts K) [(0,X0_s_l05Parts)] rv_s_l05Parts K Tryz.func60 (by kernel_rfl) ⟨⟨fun _ _ _ _=>by kernel_rfl,fun _ _ _=>rfl⟩,trivial⟩ (fun _=>by kernel_rfl)
noncomputable def C_s_l05Parts (K:Nat):CB Tryz.prog:=.f _ _ (ok_s_l05Parts K)
noncomputable def as_s_l01Constant:Ty:=(.pair (.int .i64) (.pair (.int .i64) .unit))
noncomputable def sp_s_l01Constant (F:(Int × Int × Unit)->Option dq0):FnSpec:=⟨as_s_l01Constant,[false,false],tq0,F⟩
noncomputable def s_l01Constant (K:Nat) (x:(Int × Int × Unit)):Option dq0 :=
    (s_l01All K (x.1,())).bind fun y1 =>
    let x2:=((x.1,((0:Int),(0:Int),()).2.1,()).1,(IntKind.i64.wrap (x.2.1 * y1)),())
    some x2
noncomputable def rv_s_l01Constant:Lv:=[(4,(.bx (.v tq0)))]
theorem ok_s_l01Constant (K:Nat):FnOk Tryz.prog 73 (sp_s_l01Constant (s_l01Constant K)) :=
  fn_okD tysOk [C_s_l01All K] 0 [] [] rv_s_l01Constant K Tryz.func73 (by kernel_rfl) trivial (fun _=>by kernel_rfl)
noncomputable def C_s_l01Constant (K:Nat):CB Tryz.prog:=.f _ _ (ok_s_l01Constant K)
noncomputable def as_s_l01Projection:Ty:=(.pair (.int .i64) (.pair (.int .i64) .unit))
noncomputable def sp_s_l01Projection (F:(Int × Int × Unit)->Option dq0):FnSpec:=⟨as_s_l01Projection,[false,false],tq0,F⟩
noncomputable def s_l01Projection_l3 {R:Type} (K:Nat):Nat->Int->Int->dq0->(List Int)->Int->(Int->dq0->(List Int)->Option R)->Option R
  | 0,_,_,_,_,_,_=>none
  | k + 1,v0,v1,v4,v5,v6,kx0 =>
    (s_l01Rows K (v0,())).bind fun y2 =>
    (if (decide (v6 < y2))=true then
    (if (decide ((0:Int)<=(IntKind.u64.wrap v1)))=true then
    let x3:=(bitI .and .i64 (shrI .i64 v6 (IntKind.u64.wrap v1)) (1:Int))
    (if (decide (v5.length + ([x3]).length<=lim))=true then
    let l4:=(v5 ++ [x3])
    s_l01Projection_l3 K k v0 v1 v4 l4 (IntKind.i64.wrap (v6 + (1:Int))) kx0
    else
    none)
    else
    none)
    else
    kx0 v0 v4 v5)
noncomputable def s_l01Projection (K:Nat) (x:(Int × Int × Unit)):Option dq0 :=
    let l1:=([]:List Int)
    s_l01Projection_l3 K K x.1 x.2.1 ((0:Int),(0:Int),()) l1 (0:Int) (fun z5 z6 z7 =>
    (s_l01Of K (z5,z7,())).bind fun y8 =>
    some y8)
noncomputable def X0_s_l01Projection:Lv:=[(0,(.v (.int .i64))),(4,(.bx (.v tq0))),(5,(.r (.int .i64)))]
noncomputable def rv_s_l01Projection:Lv:=[(4,(.bx (.v tq0)))]
noncomputable def D_s_l01Projection (K:Nat):List (PD (den tq0)):=[.L 3 [(0,(.v (.int .i64))),(1,(.v (.int .i64))),(4,(.bx (.v tq0))),(5,(.r (.int .i64))),(6,(.v (.int .i64)))] [] (fun k x kx kr=>s_l01Projection_l3 K k x.1 x.2.1 x.2.2.1 x.2.2.2.1 x.2.2.2.2.1 (fun z0 z1 z2=>kx 0 (mkSt X0_s_l01Projection (z0,z1,z2,()))))]
theorem ok_s_l01Projection (K:Nat):FnOk Tryz.prog 75 (sp_s_l01Projection (s_l01Projection K)) :=
  fn_okD tysOk [C_s_l01Rows K,C_s_l01Of K] 0 (D_s_l01Projection K) [(0,X0_s_l01Projection)] rv_s_l01Projection K Tryz.func75 (by kernel_rfl) ⟨⟨fun _ _ _ _=>by kernel_rfl,fun _ _ _=>rfl⟩,trivial⟩ (fun _=>by kernel_rfl)
noncomputable def C_s_l01Projection (K:Nat):CB Tryz.prog:=.f _ _ (ok_s_l01Projection K)
noncomputable def as_s_l01Put:Ty:=(.pair tq0 (.pair (.sl tq0) .unit))
noncomputable def sp_s_l01Put (F:(dq0 × (List dq0) × Unit)->Option dq0):FnSpec:=⟨as_s_l01Put,[false,false],tq0,F⟩
noncomputable def s_l01Put_l7 {R:Type} (K:Nat):Nat->(List dq0)->dq0->dq0->Int->(List Int)->Int->Int->Int->((List dq0)->dq0->dq0->Int->(List Int)->Int->Int->Option R)->Option R
  | 0,_,_,_,_,_,_,_,_,_=>none
  | k + 1,v1,v2,v4,v5,v6,v7,v8,v9,kx2 =>
    (if (decide (v9 < (v1.length:Int)))=true then
    (if (bnds v9 (v1.length:Int))=true then
    (s_l01At K ((v1.getD v9.toNat ((0:Int),(0:Int),())),v7,())).bind fun y3 =>
    (if (decide ((0:Int)<=(IntKind.u64.wrap v9)))=true then
    let x4:=(IntKind.i64.wrap (v8 + (shlI .i64 y3 (IntKind.u64.wrap v9))))
    s_l01Put_l7 K k v1 v2 v4 v5 v6 v7 x4 (IntKind.i64.wrap (v9 + (1:Int))) kx2
    else
    none)
    else
    none)
    else
    kx2 v1 v2 v4 v5 v6 v7 v8)
noncomputable def s_l01Put_l3 {R:Type} (K:Nat):Nat->(List dq0)->dq0->dq0->Int->(List Int)->Int->(dq0->Int->(List Int)->Option R)->Option R
  | 0,_,_,_,_,_,_,_=>none
  | k + 1,v1,v2,v4,v5,v6,v7,kx0 =>
    (s_l01Rows K (v5,())).bind fun y2 =>
    (if (decide (v7 < y2))=true then
    s_l01Put_l7 K k v1 v2 v4 v5 v6 v7 (0:Int) (0:Int) (fun z5 z6 z7 z8 z9 z10 z11 =>
    (s_l01At K (z6,z11,())).bind fun y12 =>
    (if (decide (z9.length + ([y12]).length<=lim))=true then
    let l13:=(z9 ++ [y12])
    s_l01Put_l3 K k z5 z6 z7 z8 l13 (IntKind.i64.wrap (z10 + (1:Int))) kx0
    else
    none))
    else
    kx0 v4 v5 v6)
noncomputable def s_l01Put (K:Nat) (x:(dq0 × (List dq0) × Unit)):Option dq0 :=
    (if (bnds (0:Int) (x.2.1.length:Int))=true then
    let l1:=([]:List Int)
    s_l01Put_l3 K K x.2.1 x.1 ((0:Int),(0:Int),()) ((x.2.1.getD (0:Int).toNat ((0:Int),(0:Int),())).1) l1 (0:Int) (fun z14 z15 z16 =>
    (s_l01Of K (z15,z16,())).bind fun y17 =>
    some y17)
    else
    none)
noncomputable def X0_s_l01Put:Lv:=[(4,(.bx (.v tq0))),(5,(.v (.int .i64))),(6,(.r (.int .i64)))]
noncomputable def X2_s_l01Put:Lv:=[(1,(.v (.sl tq0))),(2,(.bx (.v tq0))),(4,(.bx (.v tq0))),(5,(.v (.int .i64))),(6,(.r (.int .i64))),(7,(.v (.int .i64))),(8,(.v (.int .i64)))]
noncomputable def rv_s_l01Put:Lv:=[(4,(.bx (.v tq0)))]
noncomputable def D_s_l01Put (K:Nat):List (PD (den tq0)):=[.L 3 [(1,(.v (.sl tq0))),(2,(.bx (.v tq0))),(4,(.bx (.v tq0))),(5,(.v (.int .i64))),(6,(.r (.int .i64))),(7,(.v (.int .i64)))] [] (fun k x kx kr=>s_l01Put_l3 K k x.1 x.2.1 x.2.2.1 x.2.2.2.1 x.2.2.2.2.1 x.2.2.2.2.2.1 (fun z0 z1 z2=>kx 0 (mkSt X0_s_l01Put (z0,z1,z2,())))),
  .L 7 [(1,(.v (.sl tq0))),(2,(.bx (.v tq0))),(4,(.bx (.v tq0))),(5,(.v (.int .i64))),(6,(.r (.int .i64))),(7,(.v (.int .i64))),(8,(.v (.int .i64))),(9,(.v (.int .i64)))] [] (fun k x kx kr=>s_l01Put_l7 K k x.1 x.2.1 x.2.2.1 x.2.2.2.1 x.2.2.2.2.1 x.2.2.2.2.2.1 x.2.2.2.2.2.2.1 x.2.2.2.2.2.2.2.1 (fun z0 z1 z2 z3 z4 z5 z6=>kx 2 (mkSt X2_s_l01Put (z0,z1,z2,z3,z4,z5,z6,()))))]
theorem ok_s_l01Put (K:Nat):FnOk Tryz.prog 76 (sp_s_l01Put (s_l01Put K)) :=
  fn_okD tysOk [C_s_l01Rows K,C_s_l01Of K,C_s_l01At K] 0 (D_s_l01Put K) [(0,X0_s_l01Put),(2,X2_s_l01Put)] rv_s_l01Put K Tryz.func76 (by kernel_rfl) ⟨⟨fun _ _ _ _=>by kernel_rfl,fun _ _ _=>rfl⟩,⟨⟨fun _ _ _ _=>by kernel_rfl,fun _ _ _=>rfl⟩,trivial⟩⟩ (fun _=>by kernel_rfl)
noncomputable def C_s_l01Put (K:Nat):CB Tryz.prog:=.f _ _ (ok_s_l01Put K)
noncomputable def as_s_l01Bits:Ty:=(.pair (.sl (.int .i64)) .unit)
noncomputable def sp_s_l01Bits (F:((List Int) × Unit)->Option Bool):FnSpec:=⟨as_s_l01Bits,[false],.bool,F⟩
noncomputable def s_l01Bits_l2 {R:Type} (K:Nat):Nat->(List Int)->Int->(Option R)->(Bool->Option R)->Option R
  | 0,_,_,_,_=>none
  | k + 1,v0,v3,kx0,kr =>
    (if (decide (v3 < (v0.length:Int)))=true then
    (if (bnds v3 (v0.length:Int))=true then
    (s_l01In K ((v0.getD v3.toNat (0:Int)),(0:Int),(1:Int),())).bind fun y1 =>
    (if (!y1)=true then
    kr false
    else
    s_l01Bits_l2 K k v0 (IntKind.i64.wrap (v3 + (1:Int))) kx0 kr)
    else
    none)
    else
    kx0)
noncomputable def s_l01Bits (K:Nat) (x:((List Int) × Unit)):Option Bool :=
    s_l01Bits_l2 K K x.1 (0:Int) (some true) (fun z2 =>
    some z2)
noncomputable def X0_s_l01Bits:Lv:=[]
noncomputable def rv_s_l01Bits:Lv:=[(2,(.v .bool))]
noncomputable def D_s_l01Bits (K:Nat):List (PD (den .bool)):=[.L 2 [(0,(.v (.sl (.int .i64)))),(3,(.v (.int .i64)))] [] (fun k x kx kr=>s_l01Bits_l2 K k x.1 x.2.1 (kx 0 (mkSt X0_s_l01Bits ())) (fun z0=>kr (mkSt rv_s_l01Bits (z0,()))))]
theorem ok_s_l01Bits (K:Nat):FnOk Tryz.prog 109 (sp_s_l01Bits (s_l01Bits K)) :=
  fn_okD tysOk [C_s_l01In K] 0 (D_s_l01Bits K) [(0,X0_s_l01Bits)] rv_s_l01Bits K Tryz.func109 (by kernel_rfl) ⟨⟨fun _ _ _ _=>by kernel_rfl,fun _ _ _=>rfl⟩,trivial⟩ (fun _=>by kernel_rfl)
noncomputable def C_s_l01Bits (K:Nat):CB Tryz.prog:=.f _ _ (ok_s_l01Bits K)
noncomputable def as_s_l01Read:Ty:=(.pair .str .unit)
noncomputable def sp_s_l01Read (F:(ByteArray × Unit)->Option (dq0 × Bool × Unit)):FnSpec:=⟨as_s_l01Read,[false],(.tup (.pair tq0 (.pair .bool .unit))),F⟩
noncomputable def s_l01Read_l7 {R:Type} (K:Nat):Nat->ByteArray->dq0->Int->(List Int)->Int->(dq0->Int->(List Int)->Option R)->Option R
  | 0,_,_,_,_,_,_=>none
  | k + 1,v0,v2,v4,v5,v6,kx0 =>
    (if (decide (v6 < (v0.size:Int)))=true then
    (if (bnds v6 (v0.size:Int))=true then
    let x6:=(IntKind.i64.wrap ((IntKind.i64.wrap (byteAt v0 v6)) - (48:Int)))
    (if (decide (v5.length + ([x6]).length<=lim))=true then
    let l7:=(v5 ++ [x6])
    s_l01Read_l7 K k v0 v2 v4 l7 (IntKind.i64.wrap (v6 + (1:Int))) kx0
    else
    none)
    else
    none)
    else
    kx0 v2 v4 v5)
noncomputable def s_l01Read_j6 {R:Type} (K:Nat) (k:Nat) (v0:ByteArray) (v2:dq0) (v4:Int) (v5:(List Int)) (kn:Option R) (kr:(dq0->Bool->Option R)):Option R :=
    s_l01Read_l7 K k v0 v2 v4 v5 (2:Int) (fun z8 z9 z10 =>
    (s_l01Bits K (z10,())).bind fun y11 =>
    (if (!y11)=true then
    kr ((0:Int),(0:Int),()) false
    else
    (s_l01Of K (z9,z10,())).bind fun y12 =>
    kr y12 true))
noncomputable def s_l01Read_j3 {R:Type} (K:Nat) (k:Nat) (v0:ByteArray) (v2:dq0) (kn:Option R) (kr:(dq0->Bool->Option R)):Option R :=
    (if (bnds (0:Int) (v0.size:Int))=true then
    let x1:=(IntKind.i64.wrap ((IntKind.i64.wrap (byteAt v0 (0:Int))) - (48:Int)))
    let l2:=([]:List Int)
    (s_l01In K (x1,(0:Int),(4:Int),())).bind fun y3 =>
    (if (!y3)=true then
    kr ((0:Int),(0:Int),()) false
    else
    (s_l01Rows K (x1,())).bind fun y4 =>
    let x5:=(!decide ((v0.size:Int)=(IntKind.i64.wrap ((2:Int) + y4))))
    (if x5=true then
    kr ((0:Int),(0:Int),()) false
    else
    s_l01Read_j6 K k v0 v2 x1 l2 none (fun z13 z14 =>
    kr z13 z14)))
    else
    none)
noncomputable def s_l01Read (K:Nat) (x:(ByteArray × Unit)):Option (dq0 × Bool × Unit) :=
    (if (decide ((x.1.size:Int) < (3:Int)))=true then
    some (((0:Int),(0:Int),()),false,())
    else
    (if (bnds (1:Int) (x.1.size:Int))=true then
    (if (!decide ((byteAt x.1 (1:Int))=(58:Int)))=true then
    some (((0:Int),(0:Int),()),false,())
    else
    s_l01Read_j3 K K x.1 ((0:Int),(0:Int),()) none (fun z15 z16 =>
    some (z15,z16,())))
    else
    none))
noncomputable def X0_s_l01Read:Lv:=[(2,(.bx (.v tq0))),(4,(.v (.int .i64))),(5,(.r (.int .i64)))]
noncomputable def rv_s_l01Read:Lv:=[(2,(.bx (.v tq0))),(3,(.v .bool))]
noncomputable def D_s_l01Read (K:Nat):List (PD (den (.tup (.pair tq0 (.pair .bool .unit))))):=[.J 3 [(0,(.v .str)),(2,(.bx (.v tq0)))] [] 0 (fun k x kn kx kr=>s_l01Read_j3 K k x.1 x.2.1 (kn ()) (fun z0 z1=>kr (mkSt rv_s_l01Read (z0,z1,())))),
  .J 6 [(0,(.v .str)),(2,(.bx (.v tq0))),(4,(.v (.int .i64))),(5,(.r (.int .i64)))] [] 0 (fun k x kn kx kr=>s_l01Read_j6 K k x.1 x.2.1 x.2.2.1 x.2.2.2.1 (kn ()) (fun z0 z1=>kr (mkSt rv_s_l01Read (z0,z1,())))),
  .L 7 [(0,(.v .str)),(2,(.bx (.v tq0))),(4,(.v (.int .i64))),(5,(.r (.int .i64))),(6,(.v (.int .i64)))] [] (fun k x kx kr=>s_l01Read_l7 K k x.1 x.2.1 x.2.2.1 x.2.2.2.1 x.2.2.2.2.1 (fun z0 z1 z2=>kx 0 (mkSt X0_s_l01Read (z0,z1,z2,()))))]
theorem ok_s_l01Read (K:Nat):FnOk Tryz.prog 100 (sp_s_l01Read (s_l01Read K)) :=
  fn_okD tysOk [C_s_l01In K,C_s_l01Rows K,C_s_l01Of K,C_s_l01Bits K] 0 (D_s_l01Read K) [(0,X0_s_l01Read)] rv_s_l01Read K Tryz.func100 (by kernel_rfl) ⟨fun _ _ _ _ _=>by kernel_rfl,⟨fun _ _ _ _ _=>by kernel_rfl,⟨⟨fun _ _ _ _=>by kernel_rfl,fun _ _ _=>rfl⟩,trivial⟩⟩⟩ (fun _=>by kernel_rfl)
noncomputable def C_s_l01Read (K:Nat):CB Tryz.prog:=.f _ _ (ok_s_l01Read K)
noncomputable def as_s_l05Gate:Ty:=(.pair (.int .u8) .unit)
noncomputable def sp_s_l05Gate (F:(Int × Unit)->Option dq0):FnSpec:=⟨as_s_l05Gate,[false],tq0,F⟩
noncomputable def s_l05Gate_l3 {R:Type} (K:Nat):Nat->Int->dq0->(List ByteArray)->Int->(dq0->Option R)->(dq0->Option R)->Option R
  | 0,_,_,_,_,_,_=>none
  | k + 1,v0,v2,v3,v4,kx0,kr =>
    (if (decide (v4 < (v3.length:Int)))=true then
    (if (bnds v4 ((⟨#[33,38,124,94,63,77]⟩:ByteArray).size:Int))=true then
    let x2:=(decide ((byteAt (⟨#[33,38,124,94,63,77]⟩:ByteArray) v4)=v0))
    (if x2=true then
    (if (bnds v4 (v3.length:Int))=true then
    (s_l01Read K ((v3.getD v4.toNat ByteArray.empty),())).bind fun y3 =>
    kr y3.1
    else
    none)
    else
    s_l05Gate_l3 K k v0 v2 v3 (IntKind.i64.wrap (v4 + (1:Int))) kx0 kr)
    else
    none)
    else
    kx0 v2)
noncomputable def s_l05Gate (K:Nat) (x:(Int × Unit)):Option dq0 :=
    let l1:=[(⟨#[49,58,49,48]⟩:ByteArray),(⟨#[50,58,48,48,48,49]⟩:ByteArray),(⟨#[50,58,48,49,49,49]⟩:ByteArray),(⟨#[50,58,48,49,49,48]⟩:ByteArray),(⟨#[51,58,48,48,48,49,49,48,49,49]⟩:ByteArray),(⟨#[51,58,48,48,48,49,48,49,49,49]⟩:ByteArray)]
    s_l05Gate_l3 K K x.1 ((0:Int),(0:Int),()) l1 (0:Int) (fun z4 =>
    some ((0:Int),(0:Int),())) (fun z5 =>
    some z5)
noncomputable def X0_s_l05Gate:Lv:=[(2,(.bx (.v tq0)))]
noncomputable def rv_s_l05Gate:Lv:=[(2,(.bx (.v tq0)))]
noncomputable def D_s_l05Gate (K:Nat):List (PD (den tq0)):=[.L 3 [(0,(.v (.int .u8))),(2,(.bx (.v tq0))),(3,(.r .str)),(4,(.v (.int .i64)))] [] (fun k x kx kr=>s_l05Gate_l3 K k x.1 x.2.1 x.2.2.1 x.2.2.2.1 (fun z0=>kx 0 (mkSt X0_s_l05Gate (z0,()))) (fun z0=>kr (mkSt rv_s_l05Gate (z0,()))))]
theorem ok_s_l05Gate (K:Nat):FnOk Tryz.prog 77 (sp_s_l05Gate (s_l05Gate K)) :=
  fn_okD tysOk [C_s_l01Read K] 0 (D_s_l05Gate K) [(0,X0_s_l05Gate)] rv_s_l05Gate K Tryz.func77 (by kernel_rfl) ⟨⟨fun _ _ _ _=>by kernel_rfl,fun _ _ _=>rfl⟩,trivial⟩ (fun _=>by kernel_rfl)
noncomputable def C_s_l05Gate (K:Nat):CB Tryz.prog:=.f _ _ (ok_s_l05Gate K)
noncomputable def s_l05Func_j3 {R:Type} (K:Nat) (r:(Int × ByteArray × Unit)->Option dq0) (k:Nat) (v0:Int) (v4:dq0) (v5:Int) (kn:Option R) (kr:(dq0->Option R)):Option R :=
    gN K ((s_l01Constant K (v0,(IntKind.i64.wrap (IntKind.u8.wrap (v5 - (48:Int)))),())).bind fun y1 =>
    kr y1)
noncomputable def s_l05Func_j4 {R:Type} (K:Nat) (r:(Int × ByteArray × Unit)->Option dq0) (k:Nat) (v0:Int) (v1:ByteArray) (v4:dq0) (v5:Int) (kn:Int->ByteArray->dq0->Int->Option R) (kr:(dq0->Option R)):Option R :=
    gN K ((s_l05Places K (v5,())).bind fun y4 =>
    (if (decide (y4=(0:Int)))=true then
    (s_l01Projection K (v0,(IntKind.i64.wrap (IntKind.u8.wrap (v5 - (97:Int)))),())).bind fun y5 =>
    kr y5
    else
    kn v0 v1 v4 v5))
noncomputable def s_l05Func_l8 {R:Type} (K:Nat) (r:(Int × ByteArray × Unit)->Option dq0):Nat->Int->dq0->Int->(List ByteArray)->(List dq0)->Int->(dq0->Int->(List dq0)->Option R)->Option R
  | 0,_,_,_,_,_,_,_=>none
  | k + 1,v0,v4,v5,v6,v7,v8,kx1 =>
    (if (decide (v8 < (v6.length:Int)))=true then
    (if (bnds v8 (v6.length:Int))=true then
    (r (v0,(v6.getD v8.toNat ByteArray.empty),())).bind fun y12 =>
    (if (decide (v7.length + ([y12]).length<=lim))=true then
    let l13:=(v7 ++ [y12])
    s_l05Func_l8 K r k v0 v4 v5 v6 l13 (IntKind.i64.wrap (v8 + (1:Int))) kx1
    else
    none)
    else
    none)
    else
    kx1 v4 v5 v7)
noncomputable def s_l05Func_j6 {R:Type} (K:Nat) (r:(Int × ByteArray × Unit)->Option dq0) (k:Nat) (v0:Int) (v1:ByteArray) (v4:dq0) (v5:Int) (kn:Option R) (kr:(dq0->Option R)):Option R :=
    (s_l05Parts K (v1,())).bind fun y10 =>
    let l11:=([]:List dq0)
    s_l05Func_l8 K r k v0 v4 v5 y10 l11 (0:Int) (fun z14 z15 z16 =>
    (s_l05Gate K (z15,())).bind fun y17 =>
    (s_l01Put K (y17,z16,())).bind fun y18 =>
    kr y18)
noncomputable def s_l05Func_b (K:Nat) (r:(Int × ByteArray × Unit)->Option dq0) (x:(Int × ByteArray × Unit)):Option dq0 :=
    (if (bnds (0:Int) (x.2.1.size:Int))=true then
    (if (decide ((byteAt x.2.1 (0:Int))=(48:Int)))=true then
    s_l05Func_j3 K r K x.1 ((0:Int),(0:Int),()) (byteAt x.2.1 (0:Int)) none (fun z2 =>
    some z2)
    else
    (if (decide ((byteAt x.2.1 (0:Int))=(49:Int)))=true then
    s_l05Func_j3 K r K x.1 ((0:Int),(0:Int),()) (byteAt x.2.1 (0:Int)) none (fun z3 =>
    some z3)
    else
    s_l05Func_j4 K r K x.1 x.2.1 ((0:Int),(0:Int),()) (byteAt x.2.1 (0:Int)) (fun z6 z7 z8 z9 =>
    s_l05Func_j6 K r K z6 z7 z8 z9 none (fun z19 =>
    some z19)) (fun z20 =>
    some z20)))
    else
    none)
noncomputable def s_l05Func (K:Nat):Nat->(Int × ByteArray × Unit)->Option dq0
  | 0=>fun _=>none
  | k + 1=>s_l05Func_b K (s_l05Func K k)
noncomputable def X1_s_l05Func:Lv:=[(4,(.bx (.v tq0))),(5,(.v (.int .u8))),(7,(.r tq0))]
noncomputable def rv_s_l05Func:Lv:=[(4,(.bx (.v tq0)))]
noncomputable def D_s_l05Func (K:Nat) (r:(Int × ByteArray × Unit)->Option dq0):List (PD (den tq0)):=[.J 3 [(0,(.v (.int .i64))),(4,(.bx (.v tq0))),(5,(.v (.int .u8)))] [] K (fun k x kn kx kr=>s_l05Func_j3 K r k x.1 x.2.1 x.2.2.1 (kn ()) (fun z0=>kr (mkSt rv_s_l05Func (z0,())))),
  .J 4 [(0,(.v (.int .i64))),(1,(.v .str)),(4,(.bx (.v tq0))),(5,(.v (.int .u8)))] [(0,(.v (.int .i64))),(1,(.v .str)),(4,(.bx (.v tq0))),(5,(.v (.int .u8)))] K (fun k x kn kx kr=>s_l05Func_j4 K r k x.1 x.2.1 x.2.2.1 x.2.2.2.1 (fun z0 z1 z2 z3=>kn (z0,z1,z2,z3,())) (fun z0=>kr (mkSt rv_s_l05Func (z0,())))),
  .J 6 [(0,(.v (.int .i64))),(1,(.v .str)),(4,(.bx (.v tq0))),(5,(.v (.int .u8)))] [] 0 (fun k x kn kx kr=>s_l05Func_j6 K r k x.1 x.2.1 x.2.2.1 x.2.2.2.1 (kn ()) (fun z0=>kr (mkSt rv_s_l05Func (z0,())))),
  .L 8 [(0,(.v (.int .i64))),(4,(.bx (.v tq0))),(5,(.v (.int .u8))),(6,(.r .str)),(7,(.r tq0)),(8,(.v (.int .i64)))] [] (fun k x kx kr=>s_l05Func_l8 K r k x.1 x.2.1 x.2.2.1 x.2.2.2.1 x.2.2.2.2.1 x.2.2.2.2.2.1 (fun z0 z1 z2=>kx 1 (mkSt X1_s_l05Func (z0,z1,z2,()))))]
theorem okb_s_l05Func (K:Nat) (r:(Int × ByteArray × Unit)->Option dq0) (hr:FnOk Tryz.prog 41 (sp_s_l05Func r)):FnOk Tryz.prog 41 (sp_s_l05Func (s_l05Func_b K r)) :=
  fn_okD tysOk [.f _ (sp_s_l05Func (r)) (hr),C_s_l05Parts K,C_s_l01Constant K,C_s_l05Places K,C_s_l01Projection K,C_s_l01Put K,C_s_l05Gate K] 0 (D_s_l05Func K r) [(1,X1_s_l05Func)] rv_s_l05Func K Tryz.func41 (by kernel_rfl) ⟨fun _ _ _ _ _=>by kernel_rfl,⟨fun _ _ _ _ _=>by kernel_rfl,⟨fun _ _ _ _ _=>by kernel_rfl,⟨⟨fun _ _ _ _=>by kernel_rfl,fun _ _ _=>rfl⟩,trivial⟩⟩⟩⟩ (fun _=>by kernel_rfl)
theorem ok_s_l05Func (K:Nat):∀ k,FnOk Tryz.prog 41 (sp_s_l05Func (s_l05Func K k))
  | 0=>fnOk_none
  | k + 1=>okb_s_l05Func K (s_l05Func K k) (ok_s_l05Func K k)
noncomputable def as_s_FuncOfFormula:Ty:=(.pair (.int .i64) (.pair .str .unit))
noncomputable def sp_s_FuncOfFormula (F:(Int × ByteArray × Unit)->Option (dq0 × Int × Unit)):FnSpec:=⟨as_s_FuncOfFormula,[false,false],(.tup (.pair tq0 (.pair (.int .i64) .unit))),F⟩
noncomputable def s_FuncOfFormula (K:Nat) (x:(Int × ByteArray × Unit)):Option (dq0 × Int × Unit) :=
    (s_l05Is K (x.2.1,())).bind fun y1 =>
    (if (!y1)=true then
    some (((0:Int),(0:Int),()),(6:Int),())
    else
    (s_l01In K (x.1,(0:Int),(4:Int),())).bind fun y2 =>
    (if (!y2)=true then
    some (((0:Int),(0:Int),()),(2:Int),())
    else
    (s_l05Most K (x.2.1,())).bind fun y3 =>
    (if (decide (y3 ≥ x.1))=true then
    some (((0:Int),(0:Int),()),(2:Int),())
    else
    (s_l05Func K K (x.1,x.2.1,())).bind fun y4 =>
    some (y4,(0:Int),()))))
noncomputable def rv_s_FuncOfFormula:Lv:=[(4,(.bx (.v tq0))),(5,(.v (.int .i64)))]
theorem ok_s_FuncOfFormula (K:Nat):FnOk Tryz.prog 7 (sp_s_FuncOfFormula (s_FuncOfFormula K)) :=
  fn_okD tysOk [C_s_l05Most K,C_s_l05Is K,C_s_l01In K,.f _ (sp_s_l05Func (s_l05Func K K)) (ok_s_l05Func K K)] 0 [] [] rv_s_FuncOfFormula K Tryz.func7 (by kernel_rfl) trivial (fun _=>by kernel_rfl)
noncomputable def C_s_FuncOfFormula (K:Nat):CB Tryz.prog:=.f _ _ (ok_s_FuncOfFormula K)
end Go.Proofs.YtefmjjpdflpnaaaGreat.E
namespace Go.Proofs.YtefmjjpdflpnaaaGreat.E
open Go Go.Proofs
set_option linter.unusedVariables false
set_option linter.unusedSimpArgs false
set_option maxRecDepth 100000
variable {K:Nat} {R:Type}
/-! formulas, as they are read -/
inductive FrB where
  | mk (c:UInt8) (ps:List FrB)
/-- how many places a byte has; -1 if it is none of a formula -/
def plcI (x:Int):Int:=if x=97\/x=98\/x=99\/x=100\/x=48\/x=49 then 0 else if x=33 then 1 else if x=38\/x=124\/x=94 then 2 else if x=63\/x=77 then 3 else -1
theorem s_places_eq (x:Int):s_l05Places K (x,())=some (plcI x):=by
  simp only [s_l05Places,s_l05Places_j9,s_l05Places_j15,s_l05Places_j18,gN_eq,plcI,decide_eq_true_eq]
  by_cases h1:x=97
  · simp [h1]
  by_cases h2:x=98
  · simp [h2]
  by_cases h3:x=99
  · simp [h3]
  by_cases h4:x=100
  · simp [h4]
  by_cases h5:x=48
  · simp [h5]
  by_cases h6:x=49
  · simp [h6]
  by_cases h7:x=33
  · simp [h7]
  by_cases h8:x=38
  · simp [h8]
  by_cases h9:x=124
  · simp [h9]
  by_cases h10:x=94
  · simp [h10]
  by_cases h11:x=63
  · simp [h11]
  by_cases h12:x=77
  · simp [h12]
  simp [h1,h2,h3,h4,h5,h6,h7,h8,h9,h10,h11,h12]
theorem plcI_lt (x:Int):plcI x < 4 ∧ -1<=plcI x:=by
  unfold plcI
  split
  · decide
  · split
    · decide
    · split
      · decide
      · split <;> decide
/-- some formulas, one behind the other -/
def rdN (rd:List UInt8->Option (FrB × List UInt8)):Nat->List UInt8->Option (List FrB × List UInt8)
  | 0,l=>some ([],l)
  | m + 1,l=>match rd l with
    | none=>none
    | some (f,l')=>match rdN rd m l' with
      | none=>none
      | some (fs,l'')=>some (f :: fs,l'')
/-- the formula at the beginning, and the rest -/
def rdF:Nat->List UInt8->Option (FrB × List UInt8)
  | 0,_=>none
  | _ + 1,[]=>none
  | k + 1,c :: l=>if plcI (c.toNat:Int) < 0 then none else match rdN (rdF k) (plcI (c.toNat:Int)).toNat l with
    | none=>none
    | some (ps,l')=>some (.mk c ps,l')
theorem rdN_suf {rd:List UInt8->Option (FrB × List UInt8)} (h:∀ l f l',rd l=some (f,l')->l' <:+ l):∀ (m:Nat) (l:List UInt8) (fs:List FrB) (l':List UInt8),rdN rd m l=some (fs,l')->l' <:+ l
  | 0,l,fs,l',e=>by
    rw [rdN] at e
    obtain ⟨_,rfl⟩:=Prod.mk.inj (Option.some.inj e)
    exact List.suffix_refl _
  | m + 1,l,fs,l',e=>by
    rw [rdN] at e
    cases h1:rd l with
    | none=>rw [h1] at e;cases e
    | some p =>
      obtain ⟨f,l1⟩:=p
      rw [h1] at e
      dsimp only at e
      cases h2:rdN rd m l1 with
      | none=>rw [h2] at e;cases e
      | some q =>
        obtain ⟨gs,l2⟩:=q
        rw [h2] at e
        obtain ⟨_,rfl⟩:=Prod.mk.inj (Option.some.inj e)
        exact (rdN_suf h m l1 gs l2 h2).trans (h l f l1 h1)
theorem rdF_suf:∀ (k:Nat) (l:List UInt8) (f:FrB) (l':List UInt8),rdF k l=some (f,l')->l' <:+ l/\l'.length < l.length
  | 0,_,_,_,e=>by cases e
  | k + 1,[],_,_,e=>by cases e
  | k + 1,c :: l,f,l',e=>by
    rw [rdF] at e
    split at e
    · cases e
    · cases h2:rdN (rdF k) (plcI (c.toNat:Int)).toNat l with
      | none=>rw [h2] at e;cases e
      | some q =>
        obtain ⟨gs,l2⟩:=q
        rw [h2] at e
        obtain ⟨_,rfl⟩:=Prod.mk.inj (Option.some.inj e)
        have:=rdN_suf (fun l f l' h=>(rdF_suf k l f l' h).1) _ _ _ _ h2
        exact ⟨this.trans (List.suffix_cons _ _),by have:=this.length_le;simp;omega⟩
/-- where a rest begins -/
def posR (L l:List UInt8):Int:=((L.length - l.length:Nat):Int)
def endV (L:List UInt8) (o:Option (FrB × List UInt8)):Int:=match o with
  | some p=>posR L p.2
  | none => -1
theorem size_tl (t:ByteArray):t.size=t.data.toList.length:=by
  show t.data.size=_
  rw [Array.length_toList]
theorem byteAt_pos {t:ByteArray} {l:List UInt8} {c:UInt8} (h:(c :: l) <:+ t.data.toList):byteAt t (posR t.data.toList (c :: l))=((c.toNat:Nat):Int)/\posR t.data.toList l=posR t.data.toList (c :: l) + 1/\posR t.data.toList (c :: l) < (t.size:Int):=by
  obtain ⟨p,hp⟩:=h
  have hs:=size_tl t
  have hl:t.data.toList.length=p.length + (l.length + 1):=by rw [<-hp];simp
  refine ⟨?_,?_,?_⟩
  · unfold byteAt posR
    rw [Int.toNat_natCast,hl,List.length_cons,show p.length + (l.length + 1) - (l.length + 1)=p.length by omega]
    have:t.data.getD p.length 0=c:=by
      rw [Array.getD_eq_getD_getElem?,<-Array.getElem?_toList,<-hp];simp
    rw [this]
  · unfold posR;rw [hl,List.length_cons];omega
  · unfold posR;rw [hs,hl,List.length_cons];omega
theorem posR_nn (L l:List UInt8):0<=posR L l:=by unfold posR;omega
theorem end_l7 {t:ByteArray} {k:Nat} (hr:∀ l,l <:+ t.data.toList->l.length < k->s_l05End K k (t,posR t.data.toList l,())=some (endV t.data.toList (rdF k l))) (kx kr:Int->Option R):∀ (m k2:Nat) (l:List UInt8),l <:+ t.data.toList->l.length < k->m < k2->m < 10 →
    s_l05End_l7 K (s_l05End K k) k2 t (posR t.data.toList l) (m:Int) kx kr=match rdN (rdF k) m l with | some p=>kx (posR t.data.toList p.2) | none=>kr (-1)
  | _,0,_,_,_,h,_=>by omega
  | 0,k2 + 1,l,_,_,_,_=>by
    simp only [s_l05End_l7]
    rw [ite_f (by rfl)];rfl
  | m + 1,k2 + 1,l,hl,hk,hm,h10=>by
    simp only [s_l05End_l7]
    rw [ite_t (decide_eq_true (by omega)),hr l hl hk,some_bind',w64 (by omega) (by omega),show ((m + 1:Nat):Int) - 1=(m:Int) by omega,rdN]
    cases h1:rdF k l with
    | none=>exact ite_t (by rfl)
    | some p =>
      obtain ⟨f,l'⟩:=p
      obtain ⟨s1,s2⟩:=rdF_suf k l f l' h1
      have ih:=end_l7 hr kx kr m k2 l' (s1.trans hl) (by omega) (by omega) (by omega)
      show (if decide (posR t.data.toList l' < 0)=true then kr (-1) else s_l05End_l7 K (s_l05End K k) k2 t (posR t.data.toList l') (m:Int) kx kr)=_
      rw [ite_f (decide_eq_false (by have:=posR_nn t.data.toList l';omega)),ih]
      dsimp only
      cases rdN (rdF k) m l' with
      | none=>rfl
      | some q=>rfl
theorem end_eq {t:ByteArray} (hs:t.size < 4611686018427387904) (hK:100<=K):∀ (k:Nat) (l:List UInt8),l <:+ t.data.toList->l.length < k->s_l05End K k (t,posR t.data.toList l,())=some (endV t.data.toList (rdF k l))
  | 0,_,_,h=>by omega
  | k + 1,[],hl,h=>by
    rw [s_l05End]
    simp only [s_l05End_b]
    rw [ite_t (decide_eq_true (by unfold posR;rw [size_tl];simp))];rfl
  | k + 1,c :: l,hl,h=>by
    obtain ⟨b1,b2,b3⟩:=byteAt_pos hl
    have hsz:=size_tl t
    have hp0:=posR_nn t.data.toList (c :: l)
    have hl2:l <:+ t.data.toList:=(List.suffix_cons c l).trans hl
    rw [s_l05End]
    simp only [s_l05End_b]
    rw [ite_f (decide_eq_false (by omega)),ite_t (bnds_t hp0 b3),b1,s_places_eq,some_bind',rdF]
    obtain ⟨p1,p2⟩:=plcI_lt ((c.toNat:Nat):Int)
    by_cases hneg:plcI ((c.toNat:Nat):Int) < 0
    · rw [ite_t (decide_eq_true hneg),if_pos hneg];rfl
    · rw [ite_f (decide_eq_false hneg),if_neg hneg]
      obtain ⟨m,hm⟩:=Int.eq_ofNat_of_zero_le (show 0<=plcI ((c.toNat:Nat):Int) by omega)
      have h7:=end_l7 (K:=K) (R:=Int) (t:=t) (k:=k) (fun l h1 h2=>end_eq hs hK k l h1 h2) (fun z3=>some z3) (fun z4=>some z4) m K l hl2 (by simp at h;omega) (by omega) (by omega)
      rw [hm,w64 (by omega) (by omega),<-b2]
      refine h7.trans ?_
      show _=some (endV _ (match rdN (rdF k) ((m:Nat):Int).toNat l with | none=>none | some (ps,l')=>some (FrB.mk c ps,l')))
      rw [Int.toNat_natCast]
      cases rdN (rdF k) m l with
      | none=>rfl
      | some q=>rfl
theorem rdN_congr {rd rd':List UInt8->Option (FrB × List UInt8)} {B:Nat} (h:∀ l,l.length < B->rd l=rd' l) (hs:∀ l f l',rd l=some (f,l')->l'.length < l.length):∀ (m:Nat) (l:List UInt8),l.length < B->rdN rd m l=rdN rd' m l
  | 0,_,_=>rfl
  | m + 1,l,hl=>by
    rw [rdN,rdN,<-h l hl]
    cases h1:rd l with
    | none=>rfl
    | some p =>
      obtain ⟨f,l'⟩:=p
      dsimp only
      rw [rdN_congr h hs m l' (by have:=hs l f l' h1;omega)]
theorem rdF_fuel:∀ (k k':Nat) (l:List UInt8),l.length < k->l.length < k'->rdF k l=rdF k' l
  | 0,_,_,h,_=>by omega
  | _,0,_,_,h=>by omega
  | k + 1,k' + 1,[],_,_=>rfl
  | k + 1,k' + 1,c :: l,h,h'=>by
    simp only [List.length_cons] at h h'
    rw [rdF,rdF,rdN_congr (rd':=rdF k') (B:=l.length + 1) (fun y hy=>rdF_fuel k k' y (by omega) (by omega)) (fun y f y' e=>(rdF_suf k y f y' e).2) _ _ (Nat.lt_succ_self _)]
/-- the formula of a text -/
def rdT (L:List UInt8):Option FrB:=if 1<=L.length/\L.length<=60 then (match rdF (L.length + 1) L with
  | some (f,[])=>some f
  | _=>none) else none
theorem s_is_eq {t:ByteArray} (hs:t.size < 4611686018427387904) (hK:4611686018427387904<=K):s_l05Is K (t,())=some (rdT t.data.toList).isSome:=by
  have hsz:=size_tl t
  simp only [s_l05Is]
  unfold rdT
  by_cases h1:1<=t.data.toList.length
  · rw [ite_t (decide_eq_true (by omega))]
    by_cases h60:t.data.toList.length<=60
    · rw [ite_t (decide_eq_true (by omega)),if_pos ⟨h1,h60⟩]
      have he:=end_eq (K:=K) (t:=t) hs (by omega) K t.data.toList (List.suffix_refl _) (by omega)
      rw [show posR t.data.toList t.data.toList=0 by unfold posR;omega,rdF_fuel K (t.data.toList.length + 1) _ (by omega) (by omega)] at he
      rw [he,some_bind']
      cases hr:rdF (t.data.toList.length + 1) t.data.toList with
      | none=>exact congrArg some (decide_eq_false (by show ¬ (-1:Int)=_;omega))
      | some p =>
        obtain ⟨f,l'⟩:=p
        obtain ⟨q1,q2⟩:=rdF_suf _ _ _ _ hr
        cases l' with
        | nil=>exact congrArg some (decide_eq_true (by show posR _ []=_;unfold posR;rw [hsz];simp))
        | cons c l'=>exact congrArg some (decide_eq_false (by
            show ¬ posR _ (c :: l')=_
            have:=q1.length_le
            unfold posR
            simp only [List.length_cons] at this ⊢
            omega))
    · rw [ite_f (decide_eq_false (by omega)),if_neg (fun h=>h60 h.2)];rfl
  · rw [ite_f (decide_eq_false (by omega)),if_neg (fun h=>h1 h.1)];rfl
/-- the number of a variable; -1 if a byte is none -/
def varI (x:Int):Int:=if 97<=x/\x<=100 then x - 97 else -1
def mostV:Int->List UInt8->Int
  | v,[]=>v
  | v,c :: l=>mostV (if varI (c.toNat:Int) > v then varI (c.toNat:Int) else v) l
theorem most_l3 {t:ByteArray} (hs:t.size < 4611686018427387904) (kx:Int->Option R):∀ (l:List UInt8) (k:Nat) (v:Int),l <:+ t.data.toList->l.length < k → -1<=v->s_l05Most_l3 K k t v (posR t.data.toList l) kx=kx (mostV v l)
  | _,0,_,_,h,_=>by omega
  | [],k + 1,v,_,_,_=>by
    simp only [s_l05Most_l3]
    rw [ite_f (decide_eq_false (by unfold posR;rw [size_tl];simp))];rfl
  | c :: l,k + 1,v,hl,hk,hv=>by
    obtain ⟨b1,b2,b3⟩:=byteAt_pos hl
    have hsz:=size_tl t
    have hp0:=posR_nn t.data.toList (c :: l)
    have hl2:l <:+ t.data.toList:=(List.suffix_cons c l).trans hl
    have hc:((c.toNat:Nat):Int) < 256:=by have:=c.toNat_lt;omega
    simp only [s_l05Most_l3,s_l05Most_j6,s_l05Most_j4,gN_eq]
    rw [ite_t (decide_eq_true b3),ite_t (bnds_t hp0 b3),ite_t (bnds_t hp0 b3),ite_t (bnds_t hp0 b3),b1,w64 (x:=posR t.data.toList (c :: l) + 1) (by omega) (by omega),<-b2,mostV]
    by_cases h1:(97:Int)<=((c.toNat:Nat):Int)
    · rw [ite_t (decide_eq_true h1)]
      by_cases h2:((c.toNat:Nat):Int)<=100
      · have hw:IntKind.i64.wrap (IntKind.u8.wrap (((c.toNat:Nat):Int) - 97))=((c.toNat:Nat):Int) - 97:=by
          generalize ((c.toNat:Nat):Int)=x at h1 h2
          have:x=97\/x=98\/x=99\/x=100:=by omega
          rcases this with rfl | rfl | rfl | rfl <;> decide
        rw [ite_t (decide_eq_true h2),hw,show varI ((c.toNat:Nat):Int)=((c.toNat:Nat):Int) - 97 from if_pos ⟨h1,h2⟩,most_l3 hs kx l k _ hl2 (by simp at hk;omega) (by simp only [maxL];split <;> omega)]
        rfl
      · rw [ite_f (decide_eq_false h2),show varI ((c.toNat:Nat):Int) = -1 from if_neg (fun h=>h2 h.2),most_l3 hs kx l k v hl2 (by simp at hk;omega) hv,if_neg (by omega)]
    · rw [ite_f (decide_eq_false h1),show varI ((c.toNat:Nat):Int) = -1 from if_neg (fun h=>h1 h.1),most_l3 hs kx l k v hl2 (by simp at hk;omega) hv,if_neg (by omega)]
theorem s_most_eq {t:ByteArray} (hs:t.size < 4611686018427387904) (hK:4611686018427387904<=K):s_l05Most K (t,())=some (mostV (-1) t.data.toList):=by
  have hsz:=size_tl t
  simp only [s_l05Most]
  have:=most_l3 (K:=K) (t:=t) hs (fun z=>some z) t.data.toList K (-1) (List.suffix_refl _) (by omega) (by decide)
  rw [show posR t.data.toList t.data.toList=0 by unfold posR;omega] at this
  exact this
def varsOk (n:Int) (l:List UInt8):Bool:=l.all fun c=>decide (varI (c.toNat:Int) < n)
theorem most_vars {n:Int}:∀ (l:List UInt8) (v:Int),decide (mostV v l < n)=(decide (v < n) && varsOk n l)
  | [],v=>by rw [mostV,varsOk,List.all_nil,Bool.and_true]
  | c :: l,v=>by
    rw [mostV,most_vars l,varsOk,varsOk,List.all_cons,<-Bool.and_assoc]
    congr 1
    by_cases h:varI (c.toNat:Int) > v
    · rw [if_pos h]
      by_cases h2:varI (c.toNat:Int) < n
      · rw [decide_eq_true h2,decide_eq_true (show v < n by omega)];rfl
      · rw [decide_eq_false h2,Bool.and_false]
    · rw [if_neg h]
      by_cases h2:v < n
      · rw [decide_eq_true h2,decide_eq_true (show varI (c.toNat:Int) < n by omega)];rfl
      · rw [decide_eq_false h2,Bool.false_and]
variable {K:Nat} {R:Type}
/-! formulas: the spec's functions -/
/-- What is read does not hang on the rest. -/
theorem rdN_loc {rd:List UInt8->Option (FrB × List UInt8)} (h:∀ l f l',rd l=some (f,l')->∃ a,l=a ++ l'/\∀ r,rd (a ++ r)=some (f,r)):∀ (m:Nat) (l:List UInt8) (fs:List FrB) (l':List UInt8),rdN rd m l=some (fs,l')->∃ a,l=a ++ l'/\∀ r,rdN rd m (a ++ r)=some (fs,r)
  | 0,l,fs,l',e=>by
    rw [rdN] at e
    obtain ⟨rfl,rfl⟩:=Prod.mk.inj (Option.some.inj e)
    exact ⟨[],rfl,fun r=>rfl⟩
  | m + 1,l,fs,l',e=>by
    rw [rdN] at e
    cases h1:rd l with
    | none=>rw [h1] at e;cases e
    | some p =>
      obtain ⟨f,l1⟩:=p
      rw [h1] at e
      dsimp only at e
      cases h2:rdN rd m l1 with
      | none=>rw [h2] at e;cases e
      | some q =>
        obtain ⟨gs,l2⟩:=q
        rw [h2] at e
        obtain ⟨rfl,rfl⟩:=Prod.mk.inj (Option.some.inj e)
        obtain ⟨a,rfl,ha⟩:=h l f l1 h1
        obtain ⟨b,rfl,hb⟩:=rdN_loc h m _ _ _ h2
        refine ⟨a ++ b,by simp,fun r=>?_⟩
        rw [rdN,List.append_assoc,ha]
        dsimp only
        rw [hb]
theorem rdF_loc:∀ (k:Nat) (l:List UInt8) (f:FrB) (l':List UInt8),rdF k l=some (f,l')->∃ a,l=a ++ l'/\∀ r,rdF k (a ++ r)=some (f,r)
  | 0,_,_,_,e=>by cases e
  | k + 1,[],_,_,e=>by cases e
  | k + 1,c :: l,f,l',e=>by
    rw [rdF] at e
    split at e
    · cases e
    · rename_i hn
      cases h2:rdN (rdF k) (plcI (c.toNat:Int)).toNat l with
      | none=>rw [h2] at e;cases e
      | some q =>
        obtain ⟨gs,l2⟩:=q
        rw [h2] at e
        obtain ⟨rfl,rfl⟩:=Prod.mk.inj (Option.some.inj e)
        obtain ⟨a,rfl,ha⟩:=rdN_loc (fun l f l' h=>rdF_loc k l f l' h) _ _ _ _ h2
        refine ⟨c :: a,rfl,fun r=>?_⟩
        rw [List.cons_append,rdF,if_neg hn,ha]
/-- the bits of a gate, with its arity -/
def gateB (c:UInt8):Nat × Nat:=if c=33 then (1,1) else if c=38 then (2,8) else if c=124 then (2,14) else if c=94 then (2,6) else if c=63 then (3,216) else if c=77 then (3,232) else (0,0)
def leafB (n:Nat) (c:UInt8):Nat:=if c=48 then 0 else if c=49 then 2 ^ 2 ^ n - 1 else projN n (c.toNat - 97)
mutual
/-- the bits of the function of a formula -/
def ofF (n:Nat):FrB->Nat
  | .mk c ps=>if plcI (c.toNat:Int)=0 then leafB n c else putN (gateB c).2 n (ofL n ps)
def ofL (n:Nat):List FrB->List Nat
  | []=>[]
  | f :: fs=>ofF n f :: ofL n fs
end
theorem packL_snoc:∀ (l:List Nat) (x j:Nat),packL (l ++ [x]) j=packL l j + x * pw (j + l.length)
  | [],x,j=>by simp [packL]
  | y :: l,x,j=>by
    rw [List.cons_append,packL,packL,packL_snoc l x (j + 1),List.length_cons,show j + 1 + l.length=j + (l.length + 1) by omega]
    omega
theorem packL_mk (g:Nat->Bool):∀ N,packL ((List.range N).map fun r=>(g r).toNat) 0=mkB g N
  | 0=>rfl
  | N + 1=>by
    rw [List.range_succ,List.map_append,List.map_cons,List.map_nil,packL_snoc,packL_mk g N,mkB]
    simp only [List.length_map,List.length_range,Nat.zero_add,pw]
    cases g N <;> simp
theorem s_of_mk {n:Nat} (hn:n<=4) (g:Nat->Bool) (hK:100<=K):s_l01Of K ((n:Int),up ((List.range (2 ^ n)).map fun r=>(g r).toNat),())=some (fN n (mkB g (2 ^ n))):=by
  rw [s_l01Of_eq hn (by simp [pw]) (fun x hx=>by
    obtain ⟨r,_,rfl⟩:=List.mem_map.1 hx
    cases g r <;> simp) hK,packL_mk];rfl
theorem bt_nat (b j:Nat):bt b j=(((b.testBit j).toNat:Nat):Int):=by unfold bt;cases b.testBit j <;> rfl
theorem up_sn (l:List Nat) (x:Nat):up l ++ [((x:Nat):Int)]=up (l ++ [x]):=by simp [up]
theorem sproj_l3 {n v:Nat} (hn:n<=4) (hv:v < 63) (v4:DF) (kx:Int->DF->List Int->Option R):∀ (m i k:Nat),i + m=2 ^ n->m < k →
    s_l01Projection_l3 K k (n:Int) (v:Int) v4 (up ((List.range i).map fun r=>(r.testBit v).toNat)) (i:Int) kx=kx (n:Int) v4 (up ((List.range (2 ^ n)).map fun r=>(r.testBit v).toNat))
  | _,_,0,_,h=>by omega
  | 0,i,k + 1,e,_=>by
    obtain rfl:i=2 ^ n:=by omega
    simp only [s_l01Projection_l3]
    rw [s_l01Rows_eq (by omega),some_bind',ite_f (decide_eq_false (by omega))]
  | m + 1,i,k + 1,e,hk=>by
    have hp:2 ^ n<=16:=Nat.pow_le_pow_right (by decide) hn
    have ih:=sproj_l3 hn hv v4 kx m (i + 1) k (by omega) (by omega)
    have hlim:(1099511627776:Nat)=lim:=rfl
    simp only [s_l01Projection_l3]
    rw [s_l01Rows_eq (by omega),some_bind',ite_t (decide_eq_true (by omega)),ite_t (u64_dec _),u64n (by omega),bitI_bt v (by omega),bt_nat,ite_t (decide_eq_true (by simp [up];omega)),up_sn,w64s (by omega)]
    rw [List.range_succ,List.map_append] at ih
    exact ih
theorem s_proj_eq {n v:Nat} (hn:n<=4) (hv:v < 63) (hK:100<=K):s_l01Projection K ((n:Int),(v:Int),())=some (fN n (projN n v)):=by
  have hp:2 ^ n<=16:=Nat.pow_le_pow_right (by decide) hn
  simp only [s_l01Projection]
  refine (sproj_l3 (K:=K) hn hv _ _ (2 ^ n) 0 K (by omega) (by omega)).trans ?_
  rw [s_of_mk hn (fun r=>r.testBit v) hK,some_bind'];rfl
theorem s_const_eq {n v:Nat} (hn:n<=4) (hv:v<=1):s_l01Constant K ((n:Int),(v:Int),())=some (fN n (if v=0 then 0 else 2 ^ 2 ^ n - 1)):=by
  have hp:2 ^ 2 ^ n<=65536:=Nat.le_trans (Nat.pow_le_pow_right (by decide) (Nat.pow_le_pow_right (by decide) hn)) (show 2 ^ 2 ^ 4<=65536 by decide)
  have h1:=Nat.two_pow_pos (2 ^ n)
  simp only [s_l01Constant]
  rw [s_l01All_eq hn,some_bind']
  have hv:v=0\/v=1:=by omega
  rcases hv with rfl | rfl
  · rw [show ((0:Nat):Int) * (((2 ^ 2 ^ n:Nat):Int) - 1)=((0:Nat):Int) by simp,w64n (n:=0) (by decide)];rfl
  · rw [show ((1:Nat):Int) * (((2 ^ 2 ^ n:Nat):Int) - 1)=((2 ^ 2 ^ n - 1:Nat):Int) by omega,w64n (by omega)];rfl
theorem sputl_l7 {n r:Nat} (l:List Nat) (hl:l.length<=4) (hx:∀ x ∈ l,x < 65536) (hr:r < 100) (v2 v4:DF) (v5:Int) (v6:List Int) (kx:List DF->DF->DF->Int->List Int->Int->Int->Option R):∀ (m i k:Nat),i + m=l.length->m < k →
    s_l01Put_l7 K k (fnsN n l) v2 v4 v5 v6 (r:Int) ((mkB (fun i=>(l.getD i 0).testBit r) i:Nat):Int) (i:Int) kx=kx (fnsN n l) v2 v4 v5 v6 (r:Int) ((packN l r:Nat):Int)
  | _,_,0,_,h=>by omega
  | 0,i,k + 1,e,_=>by
    obtain rfl:i=l.length:=by omega
    simp only [s_l01Put_l7,fns_len];rw [ite_f (decide_eq_false (by omega))];rfl
  | m + 1,i,k + 1,e,hk=>by
    have ih:=sputl_l7 (n:=n) l hl hx hr v2 v4 v5 v6 kx m (i + 1) k (by omega) (by omega)
    rw [mkB_succ] at ih
    have hx1:=getD_all (by decide) hx i
    have hlt:=mkB_lt (fun i=>(l.getD i 0).testBit r) i
    have hp:2 ^ i<=2 ^ 4:=Nat.pow_le_pow_right (n:=2) (by decide) (by omega)
    have hd:dg ((l.getD i 0).testBit r) i<=16:=by unfold dg;split <;> omega
    simp only [s_l01Put_l7,fns_len]
    rw [ite_t (decide_eq_true (by omega)),ite_t (bnds_n (by omega)),fns_get n l i (by omega),fN,s_l01At_eq (by omega) (by omega),some_bind',ite_t (u64_dec _),u64n (by omega),shl_bt (by omega),<-Int.natCast_add,w64n (by omega),w64s (by omega),ih]
theorem sputl_l3 {n a b:Nat} (hn:n<=4) (hb:b < 65536) (l:List Nat) (hl:l.length<=4) (hx:∀ x ∈ l,x < 65536) (v4:DF) (kx:DF->Int->List Int->Option R):∀ (m i k:Nat),i + m=2 ^ n->m + 100 < k →
    s_l01Put_l3 K k (fnsN n l) (fN a b) v4 (n:Int) (up ((List.range i).map fun r=>(b.testBit (packN l r)).toNat)) (i:Int) kx=kx v4 (n:Int) (up ((List.range (2 ^ n)).map fun r=>(b.testBit (packN l r)).toNat))
  | _,_,0,_,h=>by omega
  | 0,i,k + 1,e,_=>by
    obtain rfl:i=2 ^ n:=by omega
    simp only [s_l01Put_l3]
    rw [s_l01Rows_eq (by omega),some_bind',ite_f (decide_eq_false (by omega))]
  | m + 1,i,k + 1,e,hk=>by
    have hp:2 ^ n<=16:=Nat.pow_le_pow_right (by decide) hn
    have ih:=sputl_l3 (a:=a) hn hb l hl hx v4 kx m (i + 1) k (by omega) (by omega)
    have hlim:(1099511627776:Nat)=lim:=rfl
    have h16:packN l i < 16:=Nat.lt_of_lt_of_le (packN_lt l i) (Nat.pow_le_pow_right (by decide) hl)
    have h7:=fun kx=>sputl_l7 (K:=K) (R:=R) (n:=n) (r:=i) l hl hx (by omega) (fN a b) v4 (n:Int) (up ((List.range i).map fun r=>(b.testBit (packN l r)).toNat)) kx l.length 0 k (by omega) (by omega)
    simp only [mkB] at h7
    rw [show ((0:Nat):Int)=0 from rfl] at h7
    simp only [s_l01Put_l3]
    rw [s_l01Rows_eq (by omega),some_bind',ite_t (decide_eq_true (by omega))]
    refine (h7 _).trans ?_
    rw [fN,s_l01At_eq (by omega) (by omega),some_bind',bt_nat,ite_t (decide_eq_true (by simp [up];omega)),up_sn,w64s (by omega)]
    rw [List.range_succ,List.map_append] at ih
    exact ih
theorem s_put_eq {n a b:Nat} (hn:n<=4) (hb:b < 65536) (l:List Nat) (hl:l.length<=4) (h0:0 < l.length) (hx:∀ x ∈ l,x < 65536) (hK:1000<=K):s_l01Put K (fN a b,fnsN n l,())=some (fN n (putN b n l)):=by
  have hp:2 ^ n<=16:=Nat.pow_le_pow_right (by decide) hn
  simp only [s_l01Put]
  have hg:(fnsN n l).getD (0:Int).toNat ((0:Int),(0:Int),())=fN n (l.getD 0 0):=fns_get n l 0 h0
  rw [ite_t (by rw [fns_len];exact bnds_n h0),hg]
  refine (sputl_l3 (K:=K) (a:=a) hn hb l hl hx _ _ (2 ^ n) 0 K (by omega) (by omega)).trans ?_
  rw [s_of_mk hn (fun r=>b.testBit (packN l r)) (by omega),some_bind'];rfl
def BKf:Nat:=9223372036854775808
theorem BKf_ge:4611686018427387904<=BKf:=by decide
theorem s_gate_eq (c:UInt8) (h:0 < plcI (c.toNat:Int)):s_l05Gate BKf ((c.toNat:Int),())=some (fN (gateB c).1 (gateB c).2):=by
  have hn:c.toNat=33\/c.toNat=38\/c.toNat=124\/c.toNat=94\/c.toNat=63\/c.toNat=77:=by
    unfold plcI at h
    split at h
    · omega
    · split at h
      · omega
      · split at h
        · omega
        · split at h
          · omega
          · omega
  have e:c=UInt8.ofNat c.toNat:=by simp
  rw [e]
  rcases hn with h | h | h | h | h | h <;> rw [h] <;> decide +kernel
/-- parts, one behind the other -/
theorem rdF_head {k:Nat} {c:UInt8} {l l':List UInt8} {f:FrB} (h:rdF (k + 1) (c :: l)=some (f,l')):∃ ps,f=.mk c ps/\0<=plcI (c.toNat:Int)/\rdN (rdF k) (plcI (c.toNat:Int)).toNat l=some (ps,l'):=by
  rw [rdF] at h
  split at h
  · cases h
  · cases h2:rdN (rdF k) (plcI (c.toNat:Int)).toNat l with
    | none=>rw [h2] at h;cases h
    | some q =>
      obtain ⟨gs,l2⟩:=q
      rw [h2] at h
      obtain ⟨rfl,rfl⟩:=Prod.mk.inj (Option.some.inj h)
      exact ⟨gs,rfl,by omega,rfl⟩
def toB (a:List UInt8):ByteArray:=⟨a.toArray⟩
theorem toB_l (a:List UInt8):(toB a).data.toList=a:=rfl
theorem toB_size (a:List UInt8):(toB a).size=a.length:=rfl
theorem extract_l {t:ByteArray} {x a l:List UInt8} (h:x ++ a ++ l=t.data.toList):t.extract x.length (x.length + a.length)=toB a:=by
  have ht:t.data=(x ++ a ++ l).toArray:=by rw [h]
  apply ByteArray.ext
  rw [ByteArray.data_extract,ht]
  apply Array.ext'
  simp [toB]
/-- texts that are read as formulas -/
def txtOk (k N:Nat) (T:ByteArray) (f:FrB):Prop:=rdF k T.data.toList=some (f,[])/\T.data.toList.length < k/\T.size<=N
inductive txtsOk (k N:Nat):List ByteArray->List FrB->Prop
  | nil:txtsOk k N [] []
  | cons {T:ByteArray} {f:FrB} {Ts:List ByteArray} {fs:List FrB} (h:txtOk k N T f) (r:txtsOk k N Ts fs):txtsOk k N (T :: Ts) (f :: fs)
theorem parts_l2 {t:ByteArray} (hs:t.size < 4611686018427387904) (hK:4611686018427387904<=K) (kx:List ByteArray->Option R) {k:Nat}:∀ (ps:List FrB) (l:List UInt8) (out:List ByteArray) (k2:Nat),l <:+ t.data.toList->l.length < k->rdN (rdF k) ps.length l=some (ps,[])->ps.length < k2->out.length + ps.length<=100 →
    ∃ Ts,txtsOk k t.size Ts ps/\s_l05Parts_l2 K k2 t out (posR t.data.toList l) kx=kx (out ++ Ts)
  | _,_,_,0,_,_,_,h,_=>by omega
  | [],l,out,k2 + 1,hl,hk,e,_,_=>by
    obtain ⟨_,rfl⟩:=Prod.mk.inj (Option.some.inj e)
    refine ⟨[],.nil,?_⟩
    simp only [s_l05Parts_l2]
    rw [ite_f (decide_eq_false (by unfold posR;rw [size_tl];simp)),List.append_nil]
  | f :: ps,l,out,k2 + 1,hl,hk,e,hk2,h100=>by
    have hsz:=size_tl t
    have hlim:(1099511627776:Nat)=lim:=rfl
    rw [List.length_cons,rdN] at e
    cases h1:rdF k l with
    | none=>rw [h1] at e;cases e
    | some p =>
      obtain ⟨g,l1⟩:=p
      rw [h1] at e
      dsimp only at e
      cases h2:rdN (rdF k) ps.length l1 with
      | none=>rw [h2] at e;cases e
      | some q =>
        obtain ⟨gs,l2⟩:=q
        rw [h2] at e
        obtain ⟨e3,rfl⟩:=Prod.mk.inj (Option.some.inj e)
        obtain ⟨rfl,rfl⟩:=List.cons.inj e3
        obtain ⟨s1,s2⟩:=rdF_suf k l g l1 h1
        obtain ⟨a,rfl,ha⟩:=rdF_loc k l g l1 h1
        obtain ⟨x,hx⟩:=hl
        have hl1:l1 <:+ t.data.toList:=⟨x ++ a,by rw [<-hx];simp⟩
        obtain ⟨Ts,t1,t2⟩:=parts_l2 hs hK kx gs l1 (out ++ [toB a]) k2 hl1 (by omega) h2 (by simp at hk2;omega) (by simp at h100 ⊢;omega)
        have hlen:t.data.toList.length=x.length + (a.length + l1.length):=by rw [<-hx];simp
        have hp1:posR t.data.toList (a ++ l1)=((x.length:Nat):Int):=by unfold posR;rw [hlen,List.length_append];omega
        have hp2:posR t.data.toList l1=((x.length + a.length:Nat):Int):=by unfold posR;rw [hlen];omega
        have ha0:0 < a.length:=by rw [List.length_append] at s2;omega
        have hal:(a ++ l1).length<=t.size:=by rw [List.length_append];omega
        refine ⟨toB a :: Ts,.cons ⟨by have:=ha [];rw [List.append_nil] at this;exact this,by rw [toB_l];simp at hk;omega,by rw [toB_size];omega⟩ t1,?_⟩
        have he:=end_eq (K:=K) (t:=t) hs (by omega) K (a ++ l1) ⟨x,hx⟩ (by omega)
        rw [rdF_fuel K k _ (by omega) hk,h1] at he
        have he:s_l05End K K (t,posR t.data.toList (a ++ l1),())=some (posR t.data.toList l1):=he
        simp only [s_l05Parts_l2]
        rw [ite_t (decide_eq_true (by rw [hp1];omega)),he,some_bind',ite_t (by
          rw [decide_eq_true (posR_nn _ _),decide_eq_true (show posR t.data.toList (a ++ l1)<=posR t.data.toList l1 by rw [hp1,hp2];omega),decide_eq_true (show posR t.data.toList l1<=(t.size:Int) by rw [hp2];omega)];rfl),
          show t.extract (posR t.data.toList (a ++ l1)).toNat (posR t.data.toList l1).toNat=toB a by rw [hp1,hp2,Int.toNat_natCast,Int.toNat_natCast];exact extract_l (l:=l1) (by rw [<-hx];simp),
          ite_t (decide_eq_true (by simp at h100 ⊢;omega)),t2]
        simp
theorem rdN_len {rd:List UInt8->Option (FrB × List UInt8)}:∀ (m:Nat) (l:List UInt8) (fs:List FrB) (l':List UInt8),rdN rd m l=some (fs,l')->fs.length=m
  | 0,l,fs,l',e=>by
    obtain ⟨rfl,_⟩:=Prod.mk.inj (Option.some.inj e)
    rfl
  | m + 1,l,fs,l',e=>by
    rw [rdN] at e
    cases h1:rd l with
    | none=>rw [h1] at e;cases e
    | some p =>
      obtain ⟨f,l1⟩:=p
      rw [h1] at e
      dsimp only at e
      cases h2:rdN rd m l1 with
      | none=>rw [h2] at e;cases e
      | some q =>
        obtain ⟨gs,l2⟩:=q
        rw [h2] at e
        obtain ⟨rfl,_⟩:=Prod.mk.inj (Option.some.inj e)
        rw [List.length_cons,rdN_len m _ _ _ h2]
theorem ofF_lt (n:Nat):∀ f,ofF n f < 2 ^ 2 ^ n
  | .mk c ps=>by
    have:=Nat.two_pow_pos (2 ^ n)
    rw [ofF]
    split
    · unfold leafB
      split
      · exact this
      · split
        · omega
        · exact projN_lt _ _
    · exact putN_lt _ _ _
theorem ofL_lt (n:Nat):∀ fs,∀ x ∈ ofL n fs,x < 2 ^ 2 ^ n
  | [],x,h=>by rw [ofL] at h;cases h
  | f :: fs,x,h=>by
    rw [ofL] at h
    rcases List.mem_cons.1 h with rfl | h
    · exact ofF_lt n f
    · exact ofL_lt n fs x h
theorem ofL_len (n:Nat):∀ fs,(ofL n fs).length=fs.length
  | []=>by rw [ofL];rfl
  | f :: fs=>by rw [ofL,List.length_cons,ofL_len n fs,List.length_cons]
theorem txts_len {k N:Nat}:∀ {Ts:List ByteArray} {fs:List FrB},txtsOk k N Ts fs->Ts.length=fs.length
  | _,_,.nil=>rfl
  | _,_,.cons _ r=>by rw [List.length_cons,List.length_cons,txts_len r]
theorem func_l8 {n k N:Nat} {r:(Int × ByteArray × Unit)->Option DF} (hr:∀ T f,txtOk k N T f->r ((n:Int),T,())=some (fN n (ofF n f))) (v4:DF) (v5:Int) (kx:DF->Int->List DF->Option R) {Tall:List ByteArray} (h100:Tall.length<=100):∀ (Tr:List ByteArray) (fr:List FrB),txtsOk k N Tr fr->∀ (Tp:List ByteArray) (acc:List Nat) (k2:Nat),Tall=Tp ++ Tr->acc.length=Tp.length->Tr.length < k2 →
    s_l05Func_l8 K r k2 (n:Int) v4 v5 Tall (fnsN n acc) (Tp.length:Int) kx=kx v4 v5 (fnsN n (acc ++ ofL n fr))
  | _,_,_,_,_,0,_,_,h=>by omega
  | [],fr,h,Tp,acc,k2 + 1,e,ha,hk=>by
    cases h
    simp only [s_l05Func_l8]
    rw [ite_f (by rw [e];exact nlt_len),ofL,List.append_nil]
  | T :: Tr,fr,h,Tp,acc,k2 + 1,e,ha,hk=>by
    cases h with
    | @cons _ f _ fs h1 h2 =>
      have hlen:Tall.length=Tp.length + (Tr.length + 1):=by rw [e];simp
      have hlim:(1099511627776:Nat)=lim:=rfl
      have ih:=func_l8 hr v4 v5 kx h100 Tr fs h2 (Tp ++ [T]) (acc ++ [ofF n f]) k2 (by rw [e];simp) (by simp [ha]) (by simp at hk;omega)
      simp only [s_l05Func_l8]
      rw [ite_t (by rw [e];exact lt_len),ite_t (by rw [e];exact bnds_mid),show Tall.getD ((Tp.length:Nat):Int).toNat ByteArray.empty=T by rw [e];exact getD_midI Tp Tr _ _,hr T f h1,some_bind',ite_t (decide_eq_true (by rw [fns_len];simp only [List.length_cons,List.length_nil];omega)),fns_snoc,w64s (by omega),<-snoc_len Tp T,ih,ofL,List.append_assoc];rfl
theorem u8d {x y:Nat} (h:y<=x) (hx:x < 256):IntKind.i64.wrap (IntKind.u8.wrap ((x:Int) - (y:Int)))=((x - y:Nat):Int):=by
  have e:((x:Int) - (y:Int))=((x - y:Nat):Int):=by omega
  rw [e]
  have e2:IntKind.u8.wrap ((x - y:Nat):Int)=((x - y:Nat):Int):=by
    have:x - y < 256:=by omega
    generalize x - y=z at this
    show ((z:Nat):Int) % 2 ^ IntKind.u8.bits=_
    rw [show (2:Int) ^ IntKind.u8.bits=256 from rfl]
    omega
  rw [e2,w64n (by omega)]
theorem gate_lt (c:UInt8):(gateB c).2 < 65536:=by unfold gateB;(repeat' split) <;> decide
theorem func_eq {n:Nat} (hn:n<=4):∀ (k:Nat) (T:ByteArray) (f:FrB),txtOk k 4611686018427387903 T f->s_l05Func BKf k ((n:Int),T,())=some (fN n (ofF n f))
  | 0,T,f,h=>by have:=h.2.1;omega
  | k + 1,T,f,h=>by
    obtain ⟨h1,h2,h3⟩:=h
    have hK:=BKf_ge
    have hsz:=size_tl T
    have hp:2 ^ 2 ^ n<=65536:=Nat.le_trans (Nat.pow_le_pow_right (by decide) (Nat.pow_le_pow_right (by decide) hn)) (show 2 ^ 2 ^ 4<=65536 by decide)
    cases hL:T.data.toList with
    | nil=>rw [hL] at h1;cases h1
    | cons c l =>
      have hsuf:(c :: l) <:+ T.data.toList:=by rw [hL];exact List.suffix_refl _
      obtain ⟨b1,b2,b3⟩:=byteAt_pos hsuf
      have hp0:posR T.data.toList (c :: l)=0:=by unfold posR;rw [hL];omega
      rw [hp0] at b1 b2 b3
      rw [hL] at h1 h2
      obtain ⟨ps,rfl,p1,p2⟩:=rdF_head h1
      have hc:c.toNat < 256:=c.toNat_lt
      have hplt:=plcI_lt ((c.toNat:Nat):Int)
      rw [s_l05Func]
      simp only [s_l05Func_b]
      rw [ite_t (bnds_t (by decide) b3),b1]
      by_cases c0:((c.toNat:Nat):Int)=48
      · have hc0:c=48:=UInt8.toNat_inj.1 (by show c.toNat=48;omega)
        rw [ite_t (decide_eq_true c0)]
        simp only [s_l05Func_j3,gN_eq]
        rw [c0,show IntKind.i64.wrap (IntKind.u8.wrap ((48:Int) - 48))=((0:Nat):Int) by decide,s_const_eq hn (by decide),some_bind',hc0]
        rw [ofF,if_pos (by decide),leafB,if_pos rfl];rfl
      · rw [ite_f (decide_eq_false c0)]
        have hc0:¬ c=48:=fun e=>c0 (by rw [e];rfl)
        by_cases c1:((c.toNat:Nat):Int)=49
        · have hc1:c=49:=UInt8.toNat_inj.1 (by show c.toNat=49;omega)
          rw [ite_t (decide_eq_true c1)]
          simp only [s_l05Func_j3,gN_eq]
          rw [c1,show IntKind.i64.wrap (IntKind.u8.wrap ((49:Int) - 48))=((1:Nat):Int) by decide,s_const_eq hn (by decide),some_bind',hc1]
          show some (fN n (2 ^ 2 ^ n - 1))=some (fN n (ofF n (.mk 49 ps)))
          rw [ofF,if_pos (show plcI (((49:UInt8).toNat:Nat):Int)=0 by decide),leafB,if_neg (by decide),if_pos rfl]
        · rw [ite_f (decide_eq_false c1)]
          have hc1:¬ c=49:=fun e=>c1 (by rw [e];rfl)
          simp only [s_l05Func_j4,gN_eq]
          rw [s_places_eq,some_bind']
          by_cases z:plcI ((c.toNat:Nat):Int)=0
          · have h97:97<=c.toNat:=by
              unfold plcI at z
              split at z
              · omega
              · split at z
                · omega
                · split at z
                  · omega
                  · split at z <;> omega
            rw [ite_t (decide_eq_true z),show ((c.toNat:Nat):Int) - 97=((c.toNat:Nat):Int) - ((97:Nat):Int) from rfl,u8d h97 hc]
            have hv:c.toNat - 97 < 63\/63<=c.toNat - 97:=by omega
            have h100:c.toNat<=100:=by
              unfold plcI at z
              split at z
              · omega
              · split at z
                · omega
                · split at z
                  · omega
                  · split at z <;> omega
            rw [s_proj_eq hn (by omega) (by omega),some_bind',ofF,if_pos z,leafB,if_neg hc0,if_neg hc1]
          · rw [ite_f (decide_eq_false z)]
            obtain ⟨m,hm⟩:=Int.eq_ofNat_of_zero_le p1
            rw [hm,Int.toNat_natCast] at p2
            have hlen:=rdN_len _ _ _ _ p2
            have hl2:l <:+ T.data.toList:=by rw [hL];exact List.suffix_cons _ _
            simp only [s_l05Func_j6]
            obtain ⟨Ts,t1,t2⟩:=parts_l2 (K:=BKf) (t:=T) (k:=k) (by omega) hK (fun z5=>some z5) ps l [] BKf hl2 (by simp at h2;omega) (by rw [hlen];exact p2) (by omega) (by simp;omega)
            have htl:=txts_len t1
            have hpt:s_l05Parts BKf (T,())=some Ts:=by
              simp only [s_l05Parts]
              rw [show (1:Int)=posR T.data.toList l by omega]
              exact t2
            rw [hpt,some_bind']
            refine (func_l8 (K:=BKf) (n:=n) (k:=k) (N:=T.size) (r:=s_l05Func BKf k) (fun T' f' h'=>func_eq hn k T' f' ⟨h'.1,h'.2.1,by have:=h'.2.2;omega⟩) ((0:Int),(0:Int),()) ((c.toNat:Nat):Int) _ (Tall:=Ts) (by omega) Ts ps t1 [] [] BKf rfl rfl (by omega)).trans ?_
            rw [List.nil_append,s_gate_eq c (by omega),some_bind',s_put_eq hn (gate_lt c) (ofL n ps) (by rw [ofL_len];omega) (by rw [ofL_len];omega) (fun x hx=>Nat.lt_of_lt_of_le (ofL_lt n ps x hx) hp) (by omega),some_bind',ofF,if_neg z]
/-- what both packages' FuncOfFormula answer -/
def fofV (n:Int) (L:List UInt8):DF × Int × Unit:=match rdT L with
  | none=>(((0:Int),(0:Int),()),6,())
  | some f=>if 0<=n/\n<=4 then (if varsOk n L=true then (fN n.toNat (ofF n.toNat f),0,()) else (((0:Int),(0:Int),()),2,())) else (((0:Int),(0:Int),()),2,())
theorem s_fof_eq (n:Int) {t:ByteArray} (hs:t.size < 4611686018427387903):s_FuncOfFormula BKf (n,t,())=some (fofV n t.data.toList):=by
  have hK:=BKf_ge
  have hsz:=size_tl t
  simp only [s_FuncOfFormula]
  rw [s_is_eq (by omega) hK,some_bind',fofV]
  cases hr:rdT t.data.toList with
  | none=>rfl
  | some f =>
    rw [ite_f (by rfl),s_l01In_eq,some_bind']
    dsimp only
    by_cases hn:0<=n/\n<=4
    · rw [decide_eq_true hn.1,decide_eq_true hn.2,ite_f (by rfl),if_pos hn,s_most_eq (by omega) hK,some_bind']
      have hm:=most_vars (n:=n) t.data.toList (-1)
      rw [decide_eq_true (show (-1:Int) < n by omega),Bool.true_and] at hm
      cases hv:varsOk n t.data.toList
      · rw [hv] at hm
        have:=of_decide_eq_false hm
        rw [ite_t (decide_eq_true (by omega))];rfl
      · rw [hv] at hm
        have:=of_decide_eq_true hm
        rw [ite_f (decide_eq_false (by omega)),if_pos rfl]
        obtain ⟨m,rfl⟩:=Int.eq_ofNat_of_zero_le hn.1
        have ht:txtOk BKf 4611686018427387903 t f:=by
          unfold rdT at hr
          split at hr
          · have hBK:BKf=9223372036854775808:=rfl
            refine ⟨?_,by omega,by omega⟩
            rw [rdF_fuel BKf (t.data.toList.length + 1) _ (by omega) (by omega)]
            cases h1:rdF (t.data.toList.length + 1) t.data.toList with
            | none=>rw [h1] at hr;cases hr
            | some p =>
              obtain ⟨g,l'⟩:=p
              rw [h1] at hr
              cases l' with
              | nil=>cases hr;rfl
              | cons _ _=>cases hr
          · cases hr
        rw [func_eq (by omega) BKf t f ht,some_bind',Int.toNat_natCast]
    · rw [ite_t (by
        by_cases h2:0<=n
        · rw [decide_eq_true h2,decide_eq_false (fun h=>hn ⟨h2,h⟩)];rfl
        · rw [decide_eq_false h2];rfl),if_neg hn]
end Go.Proofs.YtefmjjpdflpnaaaGreat.E
namespace Go.Proofs.YtefmjjpdflpnaaaGreat.E
open Go Go.Proofs Go.Proofs.YtefmjjpdflpnaaaGreat
set_option maxRecDepth 100000
set_option linter.unusedVariables false
noncomputable def as_internal_bytealg_IndexByteString:Ty:=(.pair .str (.pair (.int .u8) .unit))
noncomputable def sp_internal_bytealg_IndexByteString (F:(ByteArray × Int × Unit)->Option Int):FnSpec:=⟨as_internal_bytealg_IndexByteString,[false,false],(.int .i64),F⟩
noncomputable def internal_bytealg_IndexByteString (K:Nat) (x:ByteArray × Int × Unit):Option Int:=some (Lib.indexByte x.1.data.toList x.2.1.toNat.toUInt8)
theorem ok_internal_bytealg_IndexByteString (K:Nat):FnOk Tryz.prog 105 (sp_internal_bytealg_IndexByteString (internal_bytealg_IndexByteString K)):=indexByte_ok Tryz.func105 (by kernel_rfl) (by kernel_rfl) (by kernel_rfl) (by kernel_rfl)
noncomputable def C_internal_bytealg_IndexByteString (K:Nat):CB Tryz.prog:=.f _ _ (ok_internal_bytealg_IndexByteString K)
noncomputable def as_internal_stringslite_IndexByte:Ty:=(.pair .str (.pair (.int .u8) .unit))
noncomputable def sp_internal_stringslite_IndexByte (F:(ByteArray × Int × Unit)->Option Int):FnSpec:=⟨as_internal_stringslite_IndexByte,[false,false],(.int .i64),F⟩
noncomputable def internal_stringslite_IndexByte (K:Nat) (x:(ByteArray × Int × Unit)):Option Int :=
    (internal_bytealg_IndexByteString K (x.1,x.2.1,())).bind fun y1 =>
    some y1
noncomputable def rv_internal_stringslite_IndexByte:Lv:=[(4,(.v (.int .i64)))]
theorem ok_internal_stringslite_IndexByte (K:Nat):FnOk Tryz.prog 86 (sp_internal_stringslite_IndexByte (internal_stringslite_IndexByte K)) :=
  fn_okD tysOk [C_internal_bytealg_IndexByteString K] 0 [] [] rv_internal_stringslite_IndexByte K Tryz.func86 (by kernel_rfl) trivial (fun _=>by kernel_rfl)
noncomputable def C_internal_stringslite_IndexByte (K:Nat):CB Tryz.prog:=.f _ _ (ok_internal_stringslite_IndexByte K)
noncomputable def as_strings_IndexByte:Ty:=(.pair .str (.pair (.int .u8) .unit))
noncomputable def sp_strings_IndexByte (F:(ByteArray × Int × Unit)->Option Int):FnSpec:=⟨as_strings_IndexByte,[false,false],(.int .i64),F⟩
noncomputable def strings_IndexByte (K:Nat) (x:(ByteArray × Int × Unit)):Option Int :=
    (internal_stringslite_IndexByte K (x.1,x.2.1,())).bind fun y1 =>
    some y1
noncomputable def rv_strings_IndexByte:Lv:=[(4,(.v (.int .i64)))]
theorem ok_strings_IndexByte (K:Nat):FnOk Tryz.prog 53 (sp_strings_IndexByte (strings_IndexByte K)) :=
  fn_okD tysOk [C_internal_stringslite_IndexByte K] 0 [] [] rv_strings_IndexByte K Tryz.func53 (by kernel_rfl) trivial (fun _=>by kernel_rfl)
noncomputable def C_strings_IndexByte (K:Nat):CB Tryz.prog:=.f _ _ (ok_strings_IndexByte K)
noncomputable def as_i_placesOf:Ty:=(.pair (.int .u8) .unit)
noncomputable def sp_i_placesOf (F:(Int × Unit)->Option Int):FnSpec:=⟨as_i_placesOf,[false],(.int .i64),F⟩
noncomputable def i_placesOf_j7 {R:Type} (K:Nat) (k:Nat) (v0:Int) (kn:Option R) (kr:(Int->Option R)):Option R :=
    gN K ((if (decide (v0=(63:Int)))=true then
    kr (3:Int)
    else
    (if (decide (v0=(77:Int)))=true then
    kr (3:Int)
    else
    kn)))
noncomputable def i_placesOf_j3 {R:Type} (K:Nat) (k:Nat) (v0:Int) (kn:Option R) (kr:(Int->Option R)):Option R :=
    gN K ((if (decide (v0=(33:Int)))=true then
    kr (1:Int)
    else
    (if (decide (v0=(38:Int)))=true then
    kr (2:Int)
    else
    (if (decide (v0=(124:Int)))=true then
    kr (2:Int)
    else
    (if (decide (v0=(94:Int)))=true then
    kr (2:Int)
    else
    i_placesOf_j7 K k v0 kn (fun z2 =>
    kr z2))))))
noncomputable def i_placesOf_j9 {R:Type} (K:Nat) (k:Nat)  (kn:Option R) (kr:(Int->Option R)):Option R :=
    kr (-1:Int)
noncomputable def i_placesOf (K:Nat) (x:(Int × Unit)):Option Int :=
    (strings_IndexByte K ((⟨#[97,98,99,100]⟩:ByteArray),x.1,())).bind fun y1 =>
    (if (decide (y1 ≥ (0:Int)))=true then
    some (0:Int)
    else
    (if (decide (x.1=(48:Int)))=true then
    some (0:Int)
    else
    (if (decide (x.1=(49:Int)))=true then
    some (0:Int)
    else
    i_placesOf_j3 K K x.1 (i_placesOf_j9 K K none (fun z3 =>
    some z3)) (fun z4 =>
    some z4))))
noncomputable def rv_i_placesOf:Lv:=[(2,(.v (.int .i64)))]
noncomputable def D_i_placesOf (K:Nat):List (PD (den (.int .i64))):=[.J 3 [(0,(.v (.int .u8)))] [] K (fun k x kn kx kr=>i_placesOf_j3 K k x.1 (kn ()) (fun z0=>kr (mkSt rv_i_placesOf (z0,())))),
  .J 7 [(0,(.v (.int .u8)))] [] K (fun k x kn kx kr=>i_placesOf_j7 K k x.1 (kn ()) (fun z0=>kr (mkSt rv_i_placesOf (z0,())))),
  .J 9 [] [] 0 (fun k x kn kx kr=>i_placesOf_j9 K k (kn ()) (fun z0=>kr (mkSt rv_i_placesOf (z0,()))))]
theorem ok_i_placesOf (K:Nat):FnOk Tryz.prog 91 (sp_i_placesOf (i_placesOf K)) :=
  fn_okD tysOk [C_strings_IndexByte K] 0 (D_i_placesOf K) [] rv_i_placesOf K Tryz.func91 (by kernel_rfl) ⟨fun _ _ _ _ _=>by kernel_rfl,⟨fun _ _ _ _ _=>by kernel_rfl,⟨fun _ _ _ _ _=>by kernel_rfl,trivial⟩⟩⟩ (fun _=>by kernel_rfl)
noncomputable def C_i_placesOf (K:Nat):CB Tryz.prog:=.f _ _ (ok_i_placesOf K)
noncomputable def i_readFormula_l6 {R:Type} (K:Nat) (r:(ByteArray × Unit)->Option (dq2 × ByteArray × Bool × Unit)):Nat->Int->(List Frm)->Int->(List Frm)->ByteArray->Int->Int->(Int->(List Frm)->Int->(List Frm)->ByteArray->Option R)->(Int->(List Frm)->ByteArray->Bool->Option R)->Option R
  | 0,_,_,_,_,_,_,_,_,_=>none
  | k + 1,v2_0,v2_1,v5_0,v5_1,v6,v25,v26,kx0,kr =>
    (if (decide (v26 < v25))=true then
    (r (v6,())).bind fun y3 =>
    (if (!y3.2.2.1)=true then
    kr (0:Int) ([]:List Frm) (⟨#[]⟩:ByteArray) false
    else
    let l4:=[(Frm.mk y3.1.1 y3.1.2.1)]
    (if (decide (v5_1.length + l4.length<=lim))=true then
    let l5:=(v5_1 ++ l4)
    i_readFormula_l6 K r k v2_0 v2_1 v5_0 l5 y3.2.1 v25 (IntKind.i64.wrap (v26 + (1:Int))) kx0 kr
    else
    none))
    else
    kx0 v2_0 v2_1 v5_0 v5_1 v6)
noncomputable def i_readFormula_j3 {R:Type} (K:Nat) (r:(ByteArray × Unit)->Option (dq2 × ByteArray × Bool × Unit)) (k:Nat) (v0:ByteArray) (v2_0:Int) (v2_1:(List Frm)) (kn:Option R) (kr:(Int->(List Frm)->ByteArray->Bool->Option R)):Option R :=
    (if (bnds (0:Int) (v0.size:Int))=true then
    (if (decide (0<=(1:Int)) && decide ((1:Int)<=(v0.size:Int)) && decide ((v0.size:Int)<=(v0.size:Int)))=true then
    (i_placesOf K ((byteAt v0 (0:Int)),())).bind fun y2 =>
    i_readFormula_l6 K r k v2_0 v2_1 (byteAt v0 (0:Int)) ([]:List Frm) (v0.extract (1:Int).toNat (v0.size:Int).toNat) y2 (0:Int) (fun z6 z7 z8 z9 z10 =>
    kr z8 z9 z10 true) (fun z11 z12 z13 z14 =>
    kr z11 z12 z13 z14)
    else
    none)
    else
    none)
noncomputable def i_readFormula_b (K:Nat) (r:(ByteArray × Unit)->Option (dq2 × ByteArray × Bool × Unit)) (x:(ByteArray × Unit)):Option (dq2 × ByteArray × Bool × Unit) :=
    (if (cmpS .eql x.1 (⟨#[]⟩:ByteArray))=true then
    some (((0:Int),([]:List Frm),()),(⟨#[]⟩:ByteArray),false,())
    else
    (if (bnds (0:Int) (x.1.size:Int))=true then
    (i_placesOf K ((byteAt x.1 (0:Int)),())).bind fun y1 =>
    (if (decide (y1 < (0:Int)))=true then
    some (((0:Int),([]:List Frm),()),(⟨#[]⟩:ByteArray),false,())
    else
    i_readFormula_j3 K r K x.1 (0:Int) ([]:List Frm) none (fun z15 z16 z17 z18 =>
    some ((z15,z16,()),z17,z18,())))
    else
    none))
noncomputable def i_readFormula (K:Nat):Nat->(ByteArray × Unit)->Option (dq2 × ByteArray × Bool × Unit)
  | 0=>fun _=>none
  | k + 1=>i_readFormula_b K (i_readFormula K k)
noncomputable def X0_i_readFormula:Lv:=[(2,(.bx (.st (.pair (.v (.int .u8)) (.pair (.r (.st .frm)) .unit))))),(5,(.bx (.st (.pair (.v (.int .u8)) (.pair (.r (.st .frm)) .unit))))),(6,(.v .str))]
noncomputable def rv_i_readFormula:Lv:=[(2,(.bx (.st (.pair (.v (.int .u8)) (.pair (.r (.st .frm)) .unit))))),(3,(.v .str)),(4,(.v .bool))]
noncomputable def D_i_readFormula (K:Nat) (r:(ByteArray × Unit)->Option (dq2 × ByteArray × Bool × Unit)):List (PD (den (.tup (.pair tq2 (.pair .str (.pair .bool .unit)))))):=[.J 3 [(0,(.v .str)),(2,(.bx (.st (.pair (.v (.int .u8)) (.pair (.r (.st .frm)) .unit)))))] [] 0 (fun k x kn kx kr=>i_readFormula_j3 K r k x.1 x.2.1.1 x.2.1.2.1 (kn ()) (fun z0 z1 z2 z3=>kr (mkSt rv_i_readFormula ((z0,z1,()),z2,z3,())))),
  .L 6 [(2,(.bx (.st (.pair (.v (.int .u8)) (.pair (.r (.st .frm)) .unit))))),(5,(.bx (.st (.pair (.v (.int .u8)) (.pair (.r (.st .frm)) .unit))))),(6,(.v .str)),(25,(.v (.int .i64))),(26,(.v (.int .i64)))] [] (fun k x kx kr=>i_readFormula_l6 K r k x.1.1 x.1.2.1 x.2.1.1 x.2.1.2.1 x.2.2.1 x.2.2.2.1 x.2.2.2.2.1 (fun z0 z1 z2 z3 z4=>kx 0 (mkSt X0_i_readFormula ((z0,z1,()),(z2,z3,()),z4,()))) (fun z0 z1 z2 z3=>kr (mkSt rv_i_readFormula ((z0,z1,()),z2,z3,()))))]
theorem okb_i_readFormula (K:Nat) (r:(ByteArray × Unit)->Option (dq2 × ByteArray × Bool × Unit)) (hr:FnOk Tryz.prog 64 (sp_i_readFormula r)):FnOk Tryz.prog 64 (sp_i_readFormula (i_readFormula_b K r)) :=
  fn_okD tysOk [.f _ (sp_i_readFormula (r)) (hr),C_i_placesOf K] 0 (D_i_readFormula K r) [(0,X0_i_readFormula)] rv_i_readFormula K Tryz.func64 (by kernel_rfl) ⟨fun _ _ _ _ _=>by kernel_rfl,⟨⟨fun _ _ _ _=>by kernel_rfl,fun _ _ _=>rfl⟩,trivial⟩⟩ (fun _=>by kernel_rfl)
theorem ok_i_readFormula (K:Nat):∀ k,FnOk Tryz.prog 64 (sp_i_readFormula (i_readFormula K k))
  | 0=>fnOk_none
  | k + 1=>okb_i_readFormula K (i_readFormula K k) (ok_i_readFormula K k)
noncomputable def as_i_parse:Ty:=(.pair .str .unit)
noncomputable def sp_i_parse (F:(ByteArray × Unit)->Option (dq2 × Bool × Unit)):FnSpec:=⟨as_i_parse,[false],(.tup (.pair tq2 (.pair .bool .unit))),F⟩
noncomputable def i_parse (K:Nat) (x:(ByteArray × Unit)):Option (dq2 × Bool × Unit) :=
    (if (decide ((x.1.size:Int) > (60:Int)))=true then
    some (((0:Int),([]:List Frm),()),false,())
    else
    (i_readFormula K K (x.1,())).bind fun y1 =>
    (if y1.2.2.1=true then
    some ((y1.1.1,y1.1.2.1,()),(cmpS .eql y1.2.1 (⟨#[]⟩:ByteArray)),())
    else
    some ((y1.1.1,y1.1.2.1,()),false,())))
noncomputable def rv_i_parse:Lv:=[(2,(.bx (.st (.pair (.v (.int .u8)) (.pair (.r (.st .frm)) .unit))))),(3,(.v .bool))]
theorem ok_i_parse (K:Nat):FnOk Tryz.prog 35 (sp_i_parse (i_parse K)) :=
  fn_okD tysOk [.f _ (sp_i_readFormula (i_readFormula K K)) (ok_i_readFormula K K)] 0 [] [] rv_i_parse K Tryz.func35 (by kernel_rfl) trivial (fun _=>by kernel_rfl)
noncomputable def C_i_parse (K:Nat):CB Tryz.prog:=.f _ _ (ok_i_parse K)
noncomputable def as_i_formula_variable:Ty:=(.pair (.ptr (.st .frm)) .unit)
noncomputable def sp_i_formula_variable (F:(Frm × Unit)->Option Int):FnSpec:=⟨as_i_formula_variable,[false],(.int .i64),F⟩
noncomputable def i_formula_variable (K:Nat) (x:(Frm × Unit)):Option Int :=
    (strings_IndexByte K ((⟨#[97,98,99,100]⟩:ByteArray),(Frm.c x.1),())).bind fun y1 =>
    some y1
noncomputable def rv_i_formula_variable:Lv:=[(2,(.v (.int .i64)))]
theorem ok_i_formula_variable (K:Nat):FnOk Tryz.prog 66 (sp_i_formula_variable (i_formula_variable K)) :=
  fn_okD tysOkR [C_strings_IndexByte K] 0 [] [] rv_i_formula_variable K Tryz.func66 (by kernel_rfl) trivial (fun _=>by kernel_rfl)
noncomputable def C_i_formula_variable (K:Nat):CB Tryz.prog:=.f _ _ (ok_i_formula_variable K)
noncomputable def as_slices_IndexFunc_impl_formula:Ty:=(.pair (.sl (.st .frm)) (.pair (.fn (.pair (.st .frm) .unit) .bool) .unit))
noncomputable def sp_slices_IndexFunc_impl_formula (F:((List Frm) × ((Frm × Unit)->Option Bool) × Unit)->Option Int):FnSpec:=⟨as_slices_IndexFunc_impl_formula,[false,false],(.int .i64),F⟩
noncomputable def slices_IndexFunc_impl_formula_l2 {R:Type} (K:Nat):Nat->(List Frm)->((Frm × Unit)->Option Bool)->Int->Int->(Option R)->(Int->Option R)->Option R
  | 0,_,_,_,_,_,_=>none
  | k + 1,v0,v1,v7,v8,kx0,kr =>
    (if (decide (v8 < v7))=true then
    (if (bnds v8 (v0.length:Int))=true then
    (v1 ((v0.getD v8.toNat (Frm.mk 0 [])),())).bind fun y1 =>
    (if y1=true then
    kr v8
    else
    slices_IndexFunc_impl_formula_l2 K k v0 v1 v7 (IntKind.i64.wrap (v8 + (1:Int))) kx0 kr)
    else
    none)
    else
    kx0)
noncomputable def slices_IndexFunc_impl_formula (K:Nat) (x:((List Frm) × ((Frm × Unit)->Option Bool) × Unit)):Option Int :=
    slices_IndexFunc_impl_formula_l2 K K x.1 x.2.1 (x.1.length:Int) (0:Int) (some (-1:Int)) (fun z2 =>
    some z2)
noncomputable def X0_slices_IndexFunc_impl_formula:Lv:=[]
noncomputable def rv_slices_IndexFunc_impl_formula:Lv:=[(4,(.v (.int .i64)))]
noncomputable def D_slices_IndexFunc_impl_formula (K:Nat):List (PD (den (.int .i64))):=[.L 2 [(0,(.v (.sl (.st .frm)))),(1,(.v (.fn (.pair (.st .frm) .unit) .bool))),(7,(.v (.int .i64))),(8,(.v (.int .i64)))] [] (fun k x kx kr=>slices_IndexFunc_impl_formula_l2 K k x.1 x.2.1 x.2.2.1 x.2.2.2.1 (kx 0 (mkSt X0_slices_IndexFunc_impl_formula ())) (fun z0=>kr (mkSt rv_slices_IndexFunc_impl_formula (z0,()))))]
theorem ok_slices_IndexFunc_impl_formula (K:Nat):FnOk Tryz.prog 92 (sp_slices_IndexFunc_impl_formula (slices_IndexFunc_impl_formula K)) :=
  fn_okD tysOkR [] 0 (D_slices_IndexFunc_impl_formula K) [(0,X0_slices_IndexFunc_impl_formula)] rv_slices_IndexFunc_impl_formula K Tryz.func92 (by kernel_rfl) ⟨⟨fun _ _ _ _=>by kernel_rfl,fun _ _ _=>rfl⟩,trivial⟩ (fun _=>by kernel_rfl)
noncomputable def C_slices_IndexFunc_impl_formula (K:Nat):CB Tryz.prog:=.f _ _ (ok_slices_IndexFunc_impl_formula K)
noncomputable def as_slices_ContainsFunc_impl_formula:Ty:=(.pair (.sl (.st .frm)) (.pair (.fn (.pair (.st .frm) .unit) .bool) .unit))
noncomputable def sp_slices_ContainsFunc_impl_formula (F:((List Frm) × ((Frm × Unit)->Option Bool) × Unit)->Option Bool):FnSpec:=⟨as_slices_ContainsFunc_impl_formula,[false,false],.bool,F⟩
noncomputable def slices_ContainsFunc_impl_formula (K:Nat) (x:((List Frm) × ((Frm × Unit)->Option Bool) × Unit)):Option Bool :=
    (slices_IndexFunc_impl_formula K (x.1,x.2.1,())).bind fun y1 =>
    some (decide (y1 ≥ (0:Int)))
noncomputable def rv_slices_ContainsFunc_impl_formula:Lv:=[(4,(.v .bool))]
theorem ok_slices_ContainsFunc_impl_formula (K:Nat):FnOk Tryz.prog 67 (sp_slices_ContainsFunc_impl_formula (slices_ContainsFunc_impl_formula K)) :=
  fn_okD tysOkR [C_slices_IndexFunc_impl_formula K] 0 [] [] rv_slices_ContainsFunc_impl_formula K Tryz.func67 (by kernel_rfl) trivial (fun _=>by kernel_rfl)
noncomputable def C_slices_ContainsFunc_impl_formula (K:Nat):CB Tryz.prog:=.f _ _ (ok_slices_ContainsFunc_impl_formula K)
noncomputable def as_i_formula_isOf:Ty:=(.pair (.ptr (.st .frm)) (.pair (.int .i64) .unit))
noncomputable def sp_i_formula_isOf (F:(Frm × Int × Unit)->Option Bool):FnSpec:=⟨as_i_formula_isOf,[false,false],.bool,F⟩
noncomputable def i_formula_isOf (K:Nat) (r:(Frm × Int × Unit)->Option Bool) (x:(Frm × Int × Unit)):Option Bool :=
    (i_formula_variable K (x.1,())).bind fun y1 =>
    (if (decide (y1 < x.2.1))=true then
    (slices_ContainsFunc_impl_formula K ((Frm.ps x.1),(fun y3=>r (y3.1,x.2.1,())),())).bind fun y2 =>
    some (!y2)
    else
    some false)
noncomputable def rv_i_formula_isOf:Lv:=[(4,(.v .bool))]
theorem ok_i_formula_isOf (K:Nat) (r:(Frm × Int × Unit)->Option Bool) (hr:FnOk Tryz.prog 68 (sp_i_formula_isOf_c1 r)):FnOk Tryz.prog 37 (sp_i_formula_isOf (i_formula_isOf K r)) :=
  fn_okD tysOkR [C_i_formula_variable K,C_slices_ContainsFunc_impl_formula K,.f _ (sp_i_formula_isOf_c1 (r)) (hr)] 0 [] [] rv_i_formula_isOf K Tryz.func37 (by kernel_rfl) trivial (fun _=>by kernel_rfl)
noncomputable def as_i_constant:Ty:=(.pair (.int .i64) (.pair (.int .i64) .unit))
noncomputable def sp_i_constant (F:(Int × Int × Unit)->Option dq0):FnSpec:=⟨as_i_constant,[false,false],tq0,F⟩
noncomputable def i_constant (K:Nat) (x:(Int × Int × Unit)):Option dq0 :=
    (i_funcsOf K (x.1,())).bind fun y1 =>
    let x2:=(IntKind.i64.wrap ((IntKind.i64.wrap (y1 - (1:Int))) * x.2.1))
    some ((x.1,((0:Int),(0:Int),()).2.1,()).1,x2,())
noncomputable def rv_i_constant:Lv:=[(4,(.bx (.v tq0)))]
theorem ok_i_constant (K:Nat):FnOk Tryz.prog 70 (sp_i_constant (i_constant K)) :=
  fn_okD tysOk [C_i_funcsOf K] 0 [] [] rv_i_constant K Tryz.func70 (by kernel_rfl) trivial (fun _=>by kernel_rfl)
noncomputable def C_i_constant (K:Nat):CB Tryz.prog:=.f _ _ (ok_i_constant K)
noncomputable def as_i_names:Ty:=.unit
noncomputable def sp_i_names (F:Unit->Option (List dq3)):FnSpec:=⟨as_i_names,[],(.sl tq3),F⟩
noncomputable def i_names (K:Nat) (x:Unit):Option (List dq3) :=
    let x1:=(((⟨#[122,101,114,111]⟩:ByteArray),(ByteArray.empty,ByteArray.empty,()).2.1,()).1,(⟨#[48,58,48]⟩:ByteArray),())
    let x2:=(((⟨#[111,110,101]⟩:ByteArray),(ByteArray.empty,ByteArray.empty,()).2.1,()).1,(⟨#[48,58,49]⟩:ByteArray),())
    let x3:=(((⟨#[105,100]⟩:ByteArray),(ByteArray.empty,ByteArray.empty,()).2.1,()).1,(⟨#[49,58,48,49]⟩:ByteArray),())
    let x4:=(((⟨#[110,111,116]⟩:ByteArray),(ByteArray.empty,ByteArray.empty,()).2.1,()).1,(⟨#[49,58,49,48]⟩:ByteArray),())
    let x5:=(((⟨#[97,110,100]⟩:ByteArray),(ByteArray.empty,ByteArray.empty,()).2.1,()).1,(⟨#[50,58,48,48,48,49]⟩:ByteArray),())
    let x6:=(((⟨#[111,114]⟩:ByteArray),(ByteArray.empty,ByteArray.empty,()).2.1,()).1,(⟨#[50,58,48,49,49,49]⟩:ByteArray),())
    let x7:=(((⟨#[120,111,114]⟩:ByteArray),(ByteArray.empty,ByteArray.empty,()).2.1,()).1,(⟨#[50,58,48,49,49,48]⟩:ByteArray),())
    let x8:=(((⟨#[110,97,110,100]⟩:ByteArray),(ByteArray.empty,ByteArray.empty,()).2.1,()).1,(⟨#[50,58,49,49,49,48]⟩:ByteArray),())
    let x9:=(((⟨#[110,111,114]⟩:ByteArray),(ByteArray.empty,ByteArray.empty,()).2.1,()).1,(⟨#[50,58,49,48,48,48]⟩:ByteArray),())
    let x10:=(((⟨#[101,113,117,97,108]⟩:ByteArray),(ByteArray.empty,ByteArray.empty,()).2.1,()).1,(⟨#[50,58,49,48,48,49]⟩:ByteArray),())
    let x11:=(((⟨#[105,109,112,108,121]⟩:ByteArray),(ByteArray.empty,ByteArray.empty,()).2.1,()).1,(⟨#[50,58,49,48,49,49]⟩:ByteArray),())
    let x12:=(((⟨#[109,97,106,111,114,105,116,121]⟩:ByteArray),(ByteArray.empty,ByteArray.empty,()).2.1,()).1,(⟨#[51,58,48,48,48,49,48,49,49,49]⟩:ByteArray),())
    let x13:=(((⟨#[109,105,110,111,114,105,116,121]⟩:ByteArray),(ByteArray.empty,ByteArray.empty,()).2.1,()).1,(⟨#[51,58,48,49,49,48,49,48,48,49]⟩:ByteArray),())
    let x14:=(((⟨#[105,102]⟩:ByteArray),(ByteArray.empty,ByteArray.empty,()).2.1,()).1,(⟨#[51,58,48,48,48,49,49,48,49,49]⟩:ByteArray),())
    let l15:=[x1,x2,x3,x4,x5,x6,x7,x8,x9,x10,x11,x12,x13,x14]
    some l15
noncomputable def rv_i_names:Lv:=[(0,(.r tq3))]
theorem ok_i_names (K:Nat):FnOk Tryz.prog 107 (sp_i_names (i_names K)) :=
  fn_okD tysOk [] 0 [] [] rv_i_names K Tryz.func107 (by kernel_rfl) trivial (fun _=>by kernel_rfl)
noncomputable def C_i_names (K:Nat):CB Tryz.prog:=.f _ _ (ok_i_names K)
noncomputable def as_internal_stringslite_Index:Ty:=(.pair .str (.pair .str .unit))
noncomputable def sp_internal_stringslite_Index (F:(ByteArray × ByteArray × Unit)->Option Int):FnSpec:=⟨as_internal_stringslite_Index,[false,false],(.int .i64),F⟩
noncomputable def internal_stringslite_Index_j4 {R:Type} (K:Nat) (k:Nat) (v0:ByteArray) (v1:ByteArray) (v5:Int) (kn:Option R) (kr:(Int->Option R)):Option R :=
    gN K ((if (decide (v5=(1:Int)))=true then
    (if (bnds (0:Int) (v1.size:Int))=true then
    (internal_stringslite_IndexByte K (v0,(byteAt v1 (0:Int)),())).bind fun y1 =>
    kr y1
    else
    none)
    else
    (if (decide (v5 ≥ (v0.size:Int)))=true then
    kr (-1:Int)
    else
    none)))
noncomputable def internal_stringslite_Index (K:Nat) (x:(ByteArray × ByteArray × Unit)):Option Int :=
    (if (decide ((x.2.1.size:Int)=(0:Int)))=true then
    some (0:Int)
    else
    (if (cmpS .eql x.2.1 x.1)=true then
    some (0:Int)
    else
    internal_stringslite_Index_j4 K K x.1 x.2.1 (x.2.1.size:Int) none (fun z2 =>
    some z2)))
noncomputable def rv_internal_stringslite_Index:Lv:=[(4,(.v (.int .i64)))]
noncomputable def D_internal_stringslite_Index (K:Nat):List (PD (den (.int .i64))):=[.J 4 [(0,(.v .str)),(1,(.v .str)),(5,(.v (.int .i64)))] [] K (fun k x kn kx kr=>internal_stringslite_Index_j4 K k x.1 x.2.1 x.2.2.1 (kn ()) (fun z0=>kr (mkSt rv_internal_stringslite_Index (z0,()))))]
theorem ok_internal_stringslite_Index (K:Nat):FnOk Tryz.prog 106 (sp_internal_stringslite_Index (internal_stringslite_Index K)) :=
  fn_okD tysOk [C_internal_stringslite_IndexByte K] 0 (D_internal_stringslite_Index K) [] rv_internal_stringslite_Index K Tryz.func106 (by kernel_rfl) ⟨fun _ _ _ _ _=>by kernel_rfl,trivial⟩ (fun _=>by kernel_rfl)
noncomputable def C_internal_stringslite_Index (K:Nat):CB Tryz.prog:=.f _ _ (ok_internal_stringslite_Index K)
noncomputable def as_internal_stringslite_Cut:Ty:=(.pair .str (.pair .str .unit))
noncomputable def sp_internal_stringslite_Cut (F:(ByteArray × ByteArray × Unit)->Option (ByteArray × ByteArray × Bool × Unit)):FnSpec:=⟨as_internal_stringslite_Cut,[false,false],(.tup (.pair .str (.pair .str (.pair .bool .unit)))),F⟩
noncomputable def internal_stringslite_Cut (K:Nat) (x:(ByteArray × ByteArray × Unit)):Option (ByteArray × ByteArray × Bool × Unit) :=
    (internal_stringslite_Index K (x.1,x.2.1,())).bind fun y1 =>
    (if (decide (y1 ≥ (0:Int)))=true then
    (if (decide (0<=(0:Int)) && decide ((0:Int)<=y1) && decide (y1<=(x.1.size:Int)))=true then
    (if (decide (0<=(IntKind.i64.wrap (y1 + (x.2.1.size:Int)))) && decide ((IntKind.i64.wrap (y1 + (x.2.1.size:Int)))<=(x.1.size:Int)) && decide ((x.1.size:Int)<=(x.1.size:Int)))=true then
    let x2:=(x.1.extract (IntKind.i64.wrap (y1 + (x.2.1.size:Int))).toNat (x.1.size:Int).toNat)
    some ((x.1.extract (0:Int).toNat y1.toNat),x2,true,())
    else
    none)
    else
    none)
    else
    some (x.1,(⟨#[]⟩:ByteArray),false,()))
noncomputable def rv_internal_stringslite_Cut:Lv:=[(4,(.v .str)),(5,(.v .str)),(6,(.v .bool))]
theorem ok_internal_stringslite_Cut (K:Nat):FnOk Tryz.prog 120 (sp_internal_stringslite_Cut (internal_stringslite_Cut K)) :=
  fn_okD tysOk [C_internal_stringslite_Index K] 0 [] [] rv_internal_stringslite_Cut K Tryz.func120 (by kernel_rfl) trivial (fun _=>by kernel_rfl)
noncomputable def C_internal_stringslite_Cut (K:Nat):CB Tryz.prog:=.f _ _ (ok_internal_stringslite_Cut K)
noncomputable def as_strings_Cut:Ty:=(.pair .str (.pair .str .unit))
noncomputable def sp_strings_Cut (F:(ByteArray × ByteArray × Unit)->Option (ByteArray × ByteArray × Bool × Unit)):FnSpec:=⟨as_strings_Cut,[false,false],(.tup (.pair .str (.pair .str (.pair .bool .unit)))),F⟩
noncomputable def strings_Cut (K:Nat) (x:(ByteArray × ByteArray × Unit)):Option (ByteArray × ByteArray × Bool × Unit) :=
    (internal_stringslite_Cut K (x.1,x.2.1,())).bind fun y1 =>
    some (y1.1,y1.2.1,y1.2.2.1,())
noncomputable def rv_strings_Cut:Lv:=[(4,(.v .str)),(5,(.v .str)),(6,(.v .bool))]
theorem ok_strings_Cut (K:Nat):FnOk Tryz.prog 115 (sp_strings_Cut (strings_Cut K)) :=
  fn_okD tysOk [C_internal_stringslite_Cut K] 0 [] [] rv_strings_Cut K Tryz.func115 (by kernel_rfl) trivial (fun _=>by kernel_rfl)
noncomputable def C_strings_Cut (K:Nat):CB Tryz.prog:=.f _ _ (ok_strings_Cut K)
noncomputable def as_i_Func_text:Ty:=(.pair tq0 .unit)
noncomputable def sp_i_Func_text (F:(dq0 × Unit)->Option ByteArray):FnSpec:=⟨as_i_Func_text,[false],.str,F⟩
noncomputable def i_Func_text_l3 {R:Type} (K:Nat):Nat->dq0->(List Int)->Int->Int->((List Int)->Option R)->Option R
  | 0,_,_,_,_,_=>none
  | k + 1,v1,v3,v11,v12,kx0 =>
    (if (decide (v12 < v11))=true then
    (i_Func_at K (v1,v12,())).bind fun y3 =>
    let l4:=[(IntKind.u8.wrap ((48:Int) + (IntKind.u8.wrap y3)))]
    (if (decide (v3.length + l4.length<=lim))=true then
    let l5:=(v3 ++ l4)
    i_Func_text_l3 K k v1 l5 v11 (IntKind.i64.wrap (v12 + (1:Int))) kx0
    else
    none)
    else
    kx0 v3)
noncomputable def i_Func_text (K:Nat) (x:(dq0 × Unit)):Option ByteArray :=
    let l1:=[(IntKind.u8.wrap ((48:Int) + (IntKind.u8.wrap x.1.1))),(58:Int)]
    (i_Func_rows K (x.1,())).bind fun y2 =>
    i_Func_text_l3 K K x.1 l1 y2 (0:Int) (fun z6 =>
    some (bytesOf z6))
noncomputable def X0_i_Func_text:Lv:=[(3,(.r (.int .u8)))]
noncomputable def rv_i_Func_text:Lv:=[(2,(.v .str))]
noncomputable def D_i_Func_text (K:Nat):List (PD (den .str)):=[.L 3 [(1,(.bx (.v tq0))),(3,(.r (.int .u8))),(11,(.v (.int .i64))),(12,(.v (.int .i64)))] [] (fun k x kx kr=>i_Func_text_l3 K k x.1 x.2.1 x.2.2.1 x.2.2.2.1 (fun z0=>kx 0 (mkSt X0_i_Func_text (z0,()))))]
theorem ok_i_Func_text (K:Nat):FnOk Tryz.prog 116 (sp_i_Func_text (i_Func_text K)) :=
  fn_okD tysOk [C_i_Func_at K,C_i_Func_rows K] 0 (D_i_Func_text K) [(0,X0_i_Func_text)] rv_i_Func_text K Tryz.func116 (by kernel_rfl) ⟨⟨fun _ _ _ _=>by kernel_rfl,fun _ _ _=>rfl⟩,trivial⟩ (fun _=>by kernel_rfl)
noncomputable def C_i_Func_text (K:Nat):CB Tryz.prog:=.f _ _ (ok_i_Func_text K)
noncomputable def as_i_readFunc:Ty:=(.pair .str .unit)
noncomputable def sp_i_readFunc (F:(ByteArray × Unit)->Option (dq0 × Bool × Unit)):FnSpec:=⟨as_i_readFunc,[false],(.tup (.pair tq0 (.pair .bool .unit))),F⟩
noncomputable def i_readFunc_l6 {R:Type} (K:Nat):Nat->ByteArray->dq0->ByteArray->dq0->Int->Int->(ByteArray->dq0->dq0->Option R)->Option R
  | 0,_,_,_,_,_,_,_=>none
  | k + 1,v0,v2,v5,v7,v31,v32,kx0 =>
    (if (decide (v32 < v31))=true then
    (if (bnds v32 (v5.size:Int))=true then
    (if (decide ((byteAt v5 v32)=(49:Int)))=true then
    (if (decide ((0:Int)<=v32))=true then
    i_readFunc_l6 K k v0 v2 v5 (v7.1,(bitI .or .i64 v7.2.1 (shlI .i64 (1:Int) v32)),()) v31 (IntKind.i64.wrap (v32 + (1:Int))) kx0
    else
    none)
    else
    i_readFunc_l6 K k v0 v2 v5 v7 v31 (IntKind.i64.wrap (v32 + (1:Int))) kx0)
    else
    none)
    else
    kx0 v0 v2 v7)
noncomputable def i_readFunc_j4 {R:Type} (K:Nat) (k:Nat) (v0:ByteArray) (v2:dq0) (v4:ByteArray) (v5:ByteArray) (kn:Option R) (kr:(dq0->Bool->Option R)):Option R :=
    (if (bnds (0:Int) (v4.size:Int))=true then
    let x3:=(IntKind.i64.wrap ((IntKind.i64.wrap (byteAt v4 (0:Int))) - (48:Int)))
    i_readFunc_l6 K k v0 v2 v5 (x3,((0:Int),(0:Int),()).2.1,()) (v5.size:Int) (0:Int) (fun z4 z5 z6 =>
    (i_IsFunc K (z6,())).bind fun y7 =>
    (if (!y7)=true then
    kr ((0:Int),(0:Int),()) false
    else
    (i_Func_text K (z6,())).bind fun y8 =>
    (if (cmpS .neq y8 z4)=true then
    kr ((0:Int),(0:Int),()) false
    else
    kr z6 true)))
    else
    none)
noncomputable def i_readFunc (K:Nat) (x:(ByteArray × Unit)):Option (dq0 × Bool × Unit) :=
    (strings_Cut K (x.1,(⟨#[58]⟩:ByteArray),())).bind fun y1 =>
    (if (!decide ((y1.1.size:Int)=(1:Int)))=true then
    some (((0:Int),(0:Int),()),false,())
    else
    (i_rowsOf K ((4:Int),())).bind fun y2 =>
    (if (decide ((y1.2.1.size:Int) > y2))=true then
    some (((0:Int),(0:Int),()),false,())
    else
    i_readFunc_j4 K K x.1 ((0:Int),(0:Int),()) y1.1 y1.2.1 none (fun z9 z10 =>
    some (z9,z10,()))))
noncomputable def X0_i_readFunc:Lv:=[(0,(.v .str)),(2,(.bx (.v tq0))),(7,(.bx (.v tq0)))]
noncomputable def rv_i_readFunc:Lv:=[(2,(.bx (.v tq0))),(3,(.v .bool))]
noncomputable def D_i_readFunc (K:Nat):List (PD (den (.tup (.pair tq0 (.pair .bool .unit))))):=[.J 4 [(0,(.v .str)),(2,(.bx (.v tq0))),(4,(.v .str)),(5,(.v .str))] [] 0 (fun k x kn kx kr=>i_readFunc_j4 K k x.1 x.2.1 x.2.2.1 x.2.2.2.1 (kn ()) (fun z0 z1=>kr (mkSt rv_i_readFunc (z0,z1,())))),
  .L 6 [(0,(.v .str)),(2,(.bx (.v tq0))),(5,(.v .str)),(7,(.bx (.v tq0))),(31,(.v (.int .i64))),(32,(.v (.int .i64)))] [] (fun k x kx kr=>i_readFunc_l6 K k x.1 x.2.1 x.2.2.1 x.2.2.2.1 x.2.2.2.2.1 x.2.2.2.2.2.1 (fun z0 z1 z2=>kx 0 (mkSt X0_i_readFunc (z0,z1,z2,()))))]
theorem ok_i_readFunc (K:Nat):FnOk Tryz.prog 108 (sp_i_readFunc (i_readFunc K)) :=
  fn_okD tysOk [C_i_IsFunc K,C_i_rowsOf K,C_strings_Cut K,C_i_Func_text K] 0 (D_i_readFunc K) [(0,X0_i_readFunc)] rv_i_readFunc K Tryz.func108 (by kernel_rfl) ⟨fun _ _ _ _ _=>by kernel_rfl,⟨⟨fun _ _ _ _=>by kernel_rfl,fun _ _ _=>rfl⟩,trivial⟩⟩ (fun _=>by kernel_rfl)
noncomputable def C_i_readFunc (K:Nat):CB Tryz.prog:=.f _ _ (ok_i_readFunc K)
noncomputable def as_i_namedFunc:Ty:=(.pair .str .unit)
noncomputable def sp_i_namedFunc (F:(ByteArray × Unit)->Option (dq0 × Bool × Unit)):FnSpec:=⟨as_i_namedFunc,[false],(.tup (.pair tq0 (.pair .bool .unit))),F⟩
noncomputable def i_namedFunc_l2 {R:Type} (K:Nat):Nat->ByteArray->dq0->(List dq3)->Int->Int->(dq0->Option R)->(dq0->Bool->Option R)->Option R
  | 0,_,_,_,_,_,_,_=>none
  | k + 1,v0,v2,v6,v7,v8,kx0,kr =>
    (if (decide (v8 < v7))=true then
    (if (bnds v8 (v6.length:Int))=true then
    let x2:=(cmpS .eql ((v6.getD v8.toNat (ByteArray.empty,ByteArray.empty,())).1) v0)
    (if x2=true then
    let x3:=(v6.getD v8.toNat (ByteArray.empty,ByteArray.empty,())).2.1
    (i_readFunc K (x3,())).bind fun y4 =>
    kr y4.1 y4.2.1
    else
    i_namedFunc_l2 K k v0 v2 v6 v7 (IntKind.i64.wrap (v8 + (1:Int))) kx0 kr)
    else
    none)
    else
    kx0 v2)
noncomputable def i_namedFunc (K:Nat) (x:(ByteArray × Unit)):Option (dq0 × Bool × Unit) :=
    (i_names K ()).bind fun y1 =>
    i_namedFunc_l2 K K x.1 ((0:Int),(0:Int),()) y1 (y1.length:Int) (0:Int) (fun z5 =>
    some (((0:Int),(0:Int),()),false,())) (fun z6 z7 =>
    some (z6,z7,()))
noncomputable def X0_i_namedFunc:Lv:=[(2,(.bx (.v tq0)))]
noncomputable def rv_i_namedFunc:Lv:=[(2,(.bx (.v tq0))),(3,(.v .bool))]
noncomputable def D_i_namedFunc (K:Nat):List (PD (den (.tup (.pair tq0 (.pair .bool .unit))))):=[.L 2 [(0,(.v .str)),(2,(.bx (.v tq0))),(6,(.r tq3)),(7,(.v (.int .i64))),(8,(.v (.int .i64)))] [] (fun k x kx kr=>i_namedFunc_l2 K k x.1 x.2.1 x.2.2.1 x.2.2.2.1 x.2.2.2.2.1 (fun z0=>kx 0 (mkSt X0_i_namedFunc (z0,()))) (fun z0 z1=>kr (mkSt rv_i_namedFunc (z0,z1,()))))]
theorem ok_i_namedFunc (K:Nat):FnOk Tryz.prog 95 (sp_i_namedFunc (i_namedFunc K)) :=
  fn_okD tysOk [C_i_names K,C_i_readFunc K] 0 (D_i_namedFunc K) [(0,X0_i_namedFunc)] rv_i_namedFunc K Tryz.func95 (by kernel_rfl) ⟨⟨fun _ _ _ _=>by kernel_rfl,fun _ _ _=>rfl⟩,trivial⟩ (fun _=>by kernel_rfl)
end Go.Proofs.YtefmjjpdflpnaaaGreat.E
namespace Go.Proofs.YtefmjjpdflpnaaaGreat.E
open Go Go.Proofs Go.Proofs.YtefmjjpdflpnaaaGreat Go.RowKit Go.Maps
set_option maxRecDepth 100000
set_option maxHeartbeats 4000000
set_option linter.unusedVariables false
/-! the names of gates: a map by bytes that is filled once, and the function of a name -/
structure MapG (P:Program) (k e:TypeId) (w0:World) (b n:Nat) (D:DataW Nat) (w:World):Prop where
  own:w.ownsMap P k (plainElem P e) b n D
  le:w0.heap.size < b
  bel:Below w0.heap.size w0 w
  box:w.heap[w0.heap.size]?=some (.cells #[.int .i64 0,.int .i64 0] 27 (0,0))
theorem wpList_insertG {P:Program} (w0:World) {w:World} {ops:Array Oper} {rest:List Oper} {o:Oper} {a:Act} {Q:Exit->Act->World->Prop} (k e t:TypeId) (K:Keyed P k) (ht:P.underlying t=some (.map k e)) (hk:P.underlying k=some (.int .u8)) (he:P.underlying e=some .string)
    (b n:Nat) (D:DataW Nat) (hw:MapG P k e w0 b n D w) {m:Operand} (x:Int) (v:ByteArray) (hg:o.guard=none) (hop:o.op=Op.insert t m (.const (.int .u8 x)) (.const (.string v))) (hm:a.eval m=.map (some b)) (hx:(Lit.int .u8 x).wf=true) (hv:v.size<=maxLen) (hn:n < maxLen)
    (hK:∀ w',MapG P k e w0 b (n + 1) (D.put (.int .u8 x) (.lit (.string v.data.toList))) w'->wpList P ops Q rest (a.put o.dst undef) w'):wpList P ops Q (o :: rest) a w:=by
  refine wpList_plain hg fun K' hK'=>?_
  have hkey:keyOf P k (.int .u8 x)=some (.int .u8 x):=keyOf_int_mk hk hx
  obtain ⟨w',hrun,r1,r2⟩:=hw.own.update K ht hn hkey (plainElem_string he hv)
  unfold Oper.wp
  simp only [execOp,hop]
  rw [hm,show a.eval (.const (.int .u8 x))=.int .u8 x from rfl,show a.eval (.const (.string v))=.string v from rfl]
  simp [hrun,Result.andThen]
  exact hK' _ _ (hK w' ⟨r1,hw.le,hw.bel.grown r2 hw.bel.size (fun j hj=>by cases hj;exact Nat.le_of_lt hw.le),(r2.block _ (Array.getElem?_eq_some_iff.1 hw.box).1 (fun e=>by injection e with e;have:=hw.le;omega)).trans hw.box⟩)
theorem lawB:Keyed Tryz.prog 5:=int_keyed Tryz.underlying5
def gateE:List (Int × List UInt8):=[(33,[110,111,116]),(38,[97,110,100]),(124,[111,114]),(94,[120,111,114]),(63,[105,102]),(77,[109,97,106,111,114,105,116,121])]
def gateF (l:List (Int × List UInt8)):DataW Nat:=l.foldl (fun D p=>D.put (.int .u8 p.1) (.lit (.string p.2))) (.map [])
/-- What such a map answers. -/
def gateL (l:List (Int × List UInt8)) (k:Int):List UInt8:=l.foldl (fun v p=>if k=p.1 then p.2 else v) []
def gateN (c:Int):ByteArray:=⟨(gateL gateE c).toArray⟩
theorem isKey_int (x:Int):WideAt.IsKeyLit (.int .u8 x):=trivial
theorem gate_at:∀ (l:List (Int × List UInt8)) (D:DataW Nat) (k:Int) (v:List UInt8),IsMap D->D.atKey (.int .u8 k) (.lit (.string []))=.lit (.string v) →
    (l.foldl (fun D p=>D.put (.int .u8 p.1) (.lit (.string p.2))) D).atKey (.int .u8 k) (.lit (.string []))=.lit (.string (l.foldl (fun v p=>if k=p.1 then p.2 else v) v))
  | [],_,_,_,_,h=>h
  | p :: l,D,k,v,hm,h=>by
    rw [List.foldl_cons,List.foldl_cons]
    refine gate_at l _ k _ (hm.put _ _) ?_
    by_cases e:k=p.1
    · subst e;rw [if_pos rfl,atKey_put_same hm (isKey_int _)]
    · rw [if_neg e,atKey_put_other (fun h=>e (by injection h)),h]
theorem zeroSg (w:World):(zeroValue 9).run Tryz.prog w=.ok (.string ⟨#[]⟩) w:=Tryz.zeroValue9 w
theorem wpList_lookG (w0:World) {w:World} {ops:Array Oper} {rest:List Oper} {o:Oper} {a:Act} {Q:Exit->Act->World->Prop} (b:Nat) (hw:MapG Tryz.prog 5 9 w0 b 6 (gateF gateE) w) {m x:Operand} (c:Int) (hg:o.guard=none) (hop:o.op=Op.lookup 103 m x false) (hm:a.eval m=.map (some b)) (hx:a.eval x=.int .u8 c) (hc:(Lit.int .u8 c).wf=true)
    (hK:wpList Tryz.prog ops Q rest (a.put o.dst (.string (gateN c))) w):wpList Tryz.prog ops Q (o :: rest) a w:=by
  refine wpList_plain hg fun K' hK'=>?_
  have hkey:keyOf Tryz.prog 5 (.int .u8 c)=some (.int .u8 c):=keyOf_int_mk Tryz.underlying5 hc
  obtain ⟨v,ps,hrun,hv⟩:=hw.own.lookup lawB Tryz.underlying103 (zeroSg w) (plainElem_string Tryz.underlying9 (by decide)) hkey
  obtain ⟨t,rfl,ht,_⟩:=plainElem_string_inv Tryz.underlying9 hv
  have h7:=gate_at gateE (.map []) c [] isMap_empty (by simp [DataW.atKey])
  have h8:(gateF gateE).atKey (.int .u8 c) (.lit (.string []))=.lit (.string (gateL gateE c)):=h7
  have ht:=(Prod.mk.inj ht).1
  have h9:(Lit.string (gateL gateE c))=.string t.data.toList:=by
    have:(DataW.lit (Lit.string (gateL gateE c)):DataW Nat)=.lit (.string t.data.toList):=h8.symm.trans ht
    injection this
  injection h9 with h9
  have:t=gateN c:=by
    cases t with
    | mk d=>unfold gateN;rw [h9]
  subst this
  unfold Oper.wp
  simp [execOp,hop,hm,hx,hrun,Result.andThen]
  exact hK' _ _ hK
theorem wpList_storeG {w:World} {ops:Array Oper} {rest:List Oper} {o:Oper} {a:Act} {Q:Exit->Act->World->Prop} (b:Nat) (u v:Int) {arr:Array Value} {p x:Operand} (hg:o.guard=none) (hop:o.op=Op.store 27 p x) (hp:a.eval p=.pointer (some ⟨b,0,none⟩)) (hx:a.eval x=.agg #[.int .i64 u,.int .i64 v])
    (hb:w.heap[b]?=some (.cells arr 27 (0,0))) (ha:arr.size=2)
    (hK:∀ w',w'.heap[b]?=some (.cells #[.int .i64 u,.int .i64 v] 27 (0,0))->w.grownBy w' (some b)->w'.cell? ⟨b,0,none⟩=some (.int .i64 u)->w'.cell? ⟨b,1,none⟩=some (.int .i64 v)->wpList Tryz.prog ops Q rest (a.put o.dst undef) w'):wpList Tryz.prog ops Q (o :: rest) a w:=by
  refine wpList_plain hg fun K' hK'=>?_
  have ho:TyOk Tryz.prog (lk tys) 27 (.st (.pair (.int .i64) (.pair (.int .i64) .unit))):=tysOk _ _ (by kernel_rfl)
  have hst:=storeVar_run (w:=w) ho hb (cs:=[.int .i64 u,.int .i64 v]) rfl (fun c hc=>by
    simp only [List.mem_cons,List.not_mem_nil,or_false] at hc
    rcases hc with rfl | rfl <;> rfl) (by rw [ha];exact Nat.le_refl 2)
  have e:(setSeg arr.toList 0 [Value.int .i64 u,Value.int .i64 v]).toArray=#[.int .i64 u,.int .i64 v]:=by
    obtain ⟨l⟩:=arr
    match l,ha with
    | [x,y],_=>rfl
  rw [e] at hst
  have h1:(w.setRow b #[.int .i64 u,.int .i64 v]).heap[b]?=some (.cells #[.int .i64 u,.int .i64 v] 27 (0,0)):=setRow_heap w b arr _ _ _ hb
  refine wp_skip' (w':=w.setRow b #[.int .i64 u,.int .i64 v]) ?_ (hK' _ _ (hK _ h1 ⟨rfl,rfl,rfl,by simp,fun k _ hk=>setRow_other w b k _ (fun e=>hk (by simp [e]))⟩ ((cellAt h1 0).trans rfl) (by have:=cellAt (o:=0) h1 1;simp only [Nat.zero_add] at this;rw [this];rfl)))
  simp only [execOp,hop,hp,hx]
  exact exec_skip (by unfold Instr.storeAt;simp only [Instr.sureAddr,Sem.run_bind,pure_run,Result.andThen_ok];exact hst)
abbrev DFt:=Int × Int × Unit
theorem named_calls (K:Nat) (w:World) (s:ByteArray) (y:DFt × Bool × Unit) (hy:i_namedFunc K (s,())=some y):Calls Tryz.prog 95 #[.string s] w fun e w'=>e=.returned (.tuple #[.agg #[.int .i64 y.1.1,.int .i64 y.1.2.1],.bool y.2.1])/\Below w.heap.size w w':=by
  refine ((((ok_i_namedFunc K).plain rfl) w [.string s] (s,()) y ⟨[.string s],[],rfl,rfl,rfl⟩ hy).calls Tryz.func95 (by kernel_rfl) (c:=bodyOf Tryz.f95) (by kernel_rfl)).mono ?_
  rintro e w' ⟨v,rfl,bs,⟨us,h0,v1,r1,b1,b2,rfl,rfl,⟨cs,h1,c1,c2,b3,b4,rfl,rfl,⟨rfl,_⟩,c3,c4,b5,b6,rfl,rfl,⟨rfl,_⟩,rfl,_⟩,v2,r2,b7,b8,rfl,rfl,⟨cs2,h2,rfl,_⟩,rfl,_⟩,h3,h4,h5⟩
  refine ⟨?_,h5⟩
  cases h0
  cases h1
  cases h2
  rfl
theorem gate_calls (K:Nat) (w:World) (c:Int) (hc:(Lit.int .u8 c).wf=true) (y:DFt × Bool × Unit) (hy:i_namedFunc K (gateN c,())=some y):Calls Tryz.prog 71 #[.int .u8 c] w fun e w'=>e=.returned (.agg #[.int .i64 y.1.1,.int .i64 y.1.2.1])/\Below w.heap.size w w':=by
  have hmm:∀ (t:TypeId) (w:World),(Instr.makeMap t none).run Tryz.prog w=_:=@run_makeMap Tryz.prog
  have hnm:=fun w=>named_calls K w _ y hy
  have h0:MapG Tryz.prog 5 9 w (w.heap.size + 1) 0 (.map []) ((w.alloc (.cells #[.int .i64 0,.int .i64 0] 27)).alloc (.map #[] 0)):=by
    have e:w.heap.size + 1=(w.alloc (.cells #[.int .i64 0,.int .i64 0] 27)).heap.size:=by rw [alloc_size]
    rw [e]
    refine ⟨World.ownsMap_made _ _ _ _,by rw [alloc_size];exact Nat.lt_succ_self _,((Below.refl _ _).alloc (Nat.le_refl _) _).alloc (by rw [alloc_size];exact Nat.le_succ _) _,?_⟩
    rw [alloc_get,if_neg (by rw [alloc_size];omega),alloc_get,if_pos rfl]
  clear hy
  go_enter Tryz.func71,Tryz.ntmps71
  go_wp2_with (first
    | (refine wpList_insertG w 5 9 103 lawB Tryz.underlying103 Tryz.underlying5 Tryz.underlying9 _ _ _ (by assumption) _ _ rfl rfl rfl (by decide) (by decide) (by decide) ?_;intro w1 h1;go_frame)
    | (at_lookup;refine wpList_lookG w _ (by assumption) _ rfl rfl rfl rfl hc ?_)
    | (go_at_call 95;refine (hnm _).mono ?_;rintro e w2 ⟨rfl,hbe⟩;have hbx:=(hbe.block _ (Array.getElem?_eq_some_iff.1 h1.box).1).trans h1.box;have hb2:Aside (Below w.heap.size w w2):=Below.trans h1.bel (hbe.mono h1.bel.size))
    | (refine wpList_storeG w.heap.size _ _ (p:=.tmp 2) (x:=.tmp 15) rfl rfl rfl rfl (arr:=#[.int .i64 0,.int .i64 0]) (by rw [alloc_get,if_neg (by have:=(Array.getElem?_eq_some_iff.1 hbx).1;omega)];exact hbx) rfl ?_;intro w3 h3 h4 h5 h6)
    | go_in)
  have ho:TyOk Tryz.prog (lk tys) 27 (.st (.pair (.int .i64) (.pair (.int .i64) .unit))):=tysOk _ _ (by kernel_rfl)
  have hl:=loadVar_run (w:=w3) ho (o:=0) h3 (Nat.le_refl 2)
  refine ⟨rfl,_,results_run (vs:=[.agg #[.int .i64 y.1.1,.int .i64 y.1.2.1]]) ?_,rfl,?_⟩
  · show (List.mapM (rvG _) [ResultVar.cell 2 27]).run _ _=_
    simp only [List.mapM_cons,List.mapM_nil,Sem.run_bind]
    show ((loadVar 27 ⟨w.heap.size,0,none⟩).run _ _).andThen _=_
    rw [hl];rfl
  · have hb2:Below w.heap.size w w2:=hb2
    exact (hb2.alloc hb2.size _).grown h4 (by rw [alloc_size];exact Nat.le_succ_of_le hb2.size) (fun j hj=>by cases hj;exact Nat.le_refl _)
noncomputable def gateV (K:Nat) (x:Int × Unit):Option DFt:=if 0<=x.1/\x.1 < 256 then (i_namedFunc K (gateN x.1,())).bind fun y=>some y.1 else none
theorem gate_ok (K:Nat):FnOk Tryz.prog 71 ⟨.pair (.int .u8) .unit,[false],.st (.pair (.int .i64) (.pair (.int .i64) .unit)),gateV K⟩:=by
  refine ⟨fun _=>?_,fun h=>by cases h⟩
  intro w vs x y hx hy
  obtain ⟨c,u⟩:=x
  have hy:gateV K (c,u)=some y:=hy
  unfold gateV at hy
  split at hy
  case isFalse=>cases hy
  rename_i h
  obtain ⟨y0,h0,h1⟩:=Option.bind_eq_some_iff.1 hy
  cases h1
  obtain ⟨cs,r,rfl,h2,h3⟩:=hx
  have h2:cs=[.int .u8 c]:=h2
  have h3:r=[]:=h3
  subst h2;subst h3
  have hw:(Lit.int .u8 c).wf=true:=by
    have h:(0:Int)<=c/\c < 256:=h
    simp [Lit.wf,IntKind.signed,IntKind.bits,IntKind.min,IntKind.max]
    omega
  refine cf_of_calls Tryz.func71 (c:=bodyOf Tryz.f71) (by kernel_rfl) (by kernel_rfl) ?_
  refine (gate_calls K w c hw y0 h0).mono ?_
  rintro e w' ⟨rfl,hb⟩
  exact ⟨_,rfl,ret_plain (R:=.st (.pair (.int .i64) (.pair (.int .i64) .unit))) rfl rfl rfl (c:=[.int .i64 y0.1.1,.int .i64 y0.1.2.1]) ⟨[_],[_],[],[],rfl,rfl,⟨rfl,rfl⟩,[_],[],[],[],rfl,rfl,⟨rfl,rfl⟩,rfl,rfl⟩ hb⟩
end Go.Proofs.YtefmjjpdflpnaaaGreat.E
namespace Go.Proofs.YtefmjjpdflpnaaaGreat.E
open Go Go.Proofs Go.Proofs.YtefmjjpdflpnaaaGreat
set_option maxRecDepth 100000
set_option linter.unusedVariables false
noncomputable def as_i_gate:Ty:=(.pair (.int .u8) .unit)
noncomputable def sp_i_gate (F:(Int × Unit)->Option dq0):FnSpec:=⟨as_i_gate,[false],tq0,F⟩
noncomputable def i_gate (K:Nat) (x:Int × Unit):Option (Int × Int × Unit):=gateV K x
theorem ok_i_gate (K:Nat):FnOk Tryz.prog 71 (sp_i_gate (i_gate K)):=gate_ok K
noncomputable def C_i_gate (K:Nat):CB Tryz.prog:=.f _ _ (ok_i_gate K)
noncomputable def i_formula_of_j4 {R:Type} (K:Nat) (r:(Frm × Int × Unit)->Option dq0) (k:Nat) (v0:Frm) (v1:Int) (v4:dq0) (kn:Option R) (kr:(dq0->Option R)):Option R :=
    gN K (let x4:=(IntKind.i64.wrap (IntKind.u8.wrap ((Frm.c v0) - (48:Int))))
    (i_constant K (v1,x4,())).bind fun y5 =>
    kr y5)
noncomputable def i_formula_of_l7 {R:Type} (K:Nat) (r:(Frm × Int × Unit)->Option dq0):Nat->Frm->Int->dq0->(List dq0)->Int->Int->(Frm->Int->dq0->(List dq0)->Option R)->Option R
  | 0,_,_,_,_,_,_,_=>none
  | k + 1,v0,v1,v4,v5,v40,v41,kx1 =>
    (if (decide (v41 < v40))=true then
    (if (bnds v41 ((Frm.ps v0).length:Int))=true then
    (r (((Frm.ps v0).getD v41.toNat (Frm.mk 0 [])),v1,())).bind fun y8 =>
    (if (decide (v5.length + ([y8]).length<=lim))=true then
    let l9:=(v5 ++ [y8])
    i_formula_of_l7 K r k v0 v1 v4 l9 v40 (IntKind.i64.wrap (v41 + (1:Int))) kx1
    else
    none)
    else
    none)
    else
    kx1 v0 v1 v4 v5)
noncomputable def i_formula_of_j5 {R:Type} (K:Nat) (r:(Frm × Int × Unit)->Option dq0) (k:Nat) (v0:Frm) (v1:Int) (v4:dq0) (kn:Option R) (kr:(dq0->Option R)):Option R :=
    i_formula_of_l7 K r k v0 v1 v4 ([]:List dq0) ((Frm.ps v0).length:Int) (0:Int) (fun z10 z11 z12 z13 =>
    (i_gate K ((Frm.c z10),())).bind fun y14 =>
    (i_Func_put K (y14,z11,z13,())).bind fun y15 =>
    kr y15)
noncomputable def i_formula_of_b (K:Nat) (r:(Frm × Int × Unit)->Option dq0) (x:(Frm × Int × Unit)):Option dq0 :=
    (i_formula_variable K (x.1,())).bind fun y1 =>
    (if (decide (y1 ≥ (0:Int)))=true then
    (i_formula_variable K (x.1,())).bind fun y2 =>
    (i_projection K (x.2.1,y2,())).bind fun y3 =>
    some y3
    else
    (if (decide ((Frm.c x.1)=(48:Int)))=true then
    i_formula_of_j4 K r K x.1 x.2.1 ((0:Int),(0:Int),()) none (fun z6 =>
    some z6)
    else
    (if (decide ((Frm.c x.1)=(49:Int)))=true then
    i_formula_of_j4 K r K x.1 x.2.1 ((0:Int),(0:Int),()) none (fun z7 =>
    some z7)
    else
    i_formula_of_j5 K r K x.1 x.2.1 ((0:Int),(0:Int),()) none (fun z16 =>
    some z16))))
noncomputable def i_formula_of (K:Nat):Nat->(Frm × Int × Unit)->Option dq0
  | 0=>fun _=>none
  | k + 1=>i_formula_of_b K (i_formula_of K k)
noncomputable def X1_i_formula_of:Lv:=[(0,(.v (.ptr (.st .frm)))),(1,(.v (.int .i64))),(4,(.bx (.v tq0))),(5,(.r tq0))]
noncomputable def rv_i_formula_of:Lv:=[(4,(.bx (.v tq0)))]
noncomputable def D_i_formula_of (K:Nat) (r:(Frm × Int × Unit)->Option dq0):List (PD (den tq0)):=[.J 4 [(0,(.v (.ptr (.st .frm)))),(1,(.v (.int .i64))),(4,(.bx (.v tq0)))] [] K (fun k x kn kx kr=>i_formula_of_j4 K r k x.1 x.2.1 x.2.2.1 (kn ()) (fun z0=>kr (mkSt rv_i_formula_of (z0,())))),
  .J 5 [(0,(.v (.ptr (.st .frm)))),(1,(.v (.int .i64))),(4,(.bx (.v tq0)))] [] 0 (fun k x kn kx kr=>i_formula_of_j5 K r k x.1 x.2.1 x.2.2.1 (kn ()) (fun z0=>kr (mkSt rv_i_formula_of (z0,())))),
  .L 7 [(0,(.v (.ptr (.st .frm)))),(1,(.v (.int .i64))),(4,(.bx (.v tq0))),(5,(.r tq0)),(40,(.v (.int .i64))),(41,(.v (.int .i64)))] [] (fun k x kx kr=>i_formula_of_l7 K r k x.1 x.2.1 x.2.2.1 x.2.2.2.1 x.2.2.2.2.1 x.2.2.2.2.2.1 (fun z0 z1 z2 z3=>kx 1 (mkSt X1_i_formula_of (z0,z1,z2,z3,()))))]
theorem okb_i_formula_of (K:Nat) (r:(Frm × Int × Unit)->Option dq0) (hr:FnOk Tryz.prog 38 (sp_i_formula_of r)):FnOk Tryz.prog 38 (sp_i_formula_of (i_formula_of_b K r)) :=
  fn_okD tysOkR [.f _ (sp_i_formula_of (r)) (hr),C_i_Func_put K,C_i_formula_variable K,C_i_projection K,C_i_constant K,C_i_gate K] 0 (D_i_formula_of K r) [(1,X1_i_formula_of)] rv_i_formula_of K Tryz.func38 (by kernel_rfl) ⟨fun _ _ _ _ _=>by kernel_rfl,⟨fun _ _ _ _ _=>by kernel_rfl,⟨⟨fun _ _ _ _=>by kernel_rfl,fun _ _ _=>rfl⟩,trivial⟩⟩⟩ (fun _=>by kernel_rfl)
theorem ok_i_formula_of (K:Nat):∀ k,FnOk Tryz.prog 38 (sp_i_formula_of (i_formula_of K k))
  | 0=>fnOk_none
  | k + 1=>okb_i_formula_of K (i_formula_of K k) (ok_i_formula_of K k)
noncomputable def i_formula_isOf_c1_b (K:Nat) (r:(Frm × Int × Unit)->Option Bool) (x:(Frm × Int × Unit)):Option Bool :=
    (i_formula_isOf K r (x.1,x.2.1,())).bind fun y1 =>
    some (!y1)
noncomputable def i_formula_isOf_c1 (K:Nat):Nat->(Frm × Int × Unit)->Option Bool
  | 0=>fun _=>none
  | k + 1=>i_formula_isOf_c1_b K (i_formula_isOf_c1 K k)
noncomputable def rv_i_formula_isOf_c1:Lv:=[(3,(.v .bool))]
theorem okb_i_formula_isOf_c1 (K:Nat) (r:(Frm × Int × Unit)->Option Bool) (hr:FnOk Tryz.prog 68 (sp_i_formula_isOf_c1 r)):FnOk Tryz.prog 68 (sp_i_formula_isOf_c1 (i_formula_isOf_c1_b K r)) :=
  fn_okD tysOkR [.f _ (sp_i_formula_isOf (i_formula_isOf K r)) (ok_i_formula_isOf K r hr)] 0 [] [] rv_i_formula_isOf_c1 K Tryz.func68 (by kernel_rfl) trivial (fun _=>by kernel_rfl)
theorem ok_i_formula_isOf_c1 (K:Nat):∀ k,FnOk Tryz.prog 68 (sp_i_formula_isOf_c1 (i_formula_isOf_c1 K k))
  | 0=>fnOk_none
  | k + 1=>okb_i_formula_isOf_c1 K (i_formula_isOf_c1 K k) (ok_i_formula_isOf_c1 K k)
noncomputable def as_i_FuncOfFormula:Ty:=(.pair (.int .i64) (.pair .str .unit))
noncomputable def sp_i_FuncOfFormula (F:(Int × ByteArray × Unit)->Option (dq0 × Int × Unit)):FnSpec:=⟨as_i_FuncOfFormula,[false,false],(.tup (.pair tq0 (.pair (.int .i64) .unit))),F⟩
noncomputable def i_FuncOfFormula (K:Nat) (x:(Int × ByteArray × Unit)):Option (dq0 × Int × Unit) :=
    (i_parse K (x.2.1,())).bind fun y1 =>
    (if (!y1.2.1)=true then
    some (((0:Int),(0:Int),()),(6:Int),())
    else
    (i_isArity K (x.1,())).bind fun y2 =>
    (if (!y2)=true then
    some (((0:Int),(0:Int),()),(2:Int),())
    else
    (i_formula_isOf K (i_formula_isOf_c1 K K) ((Frm.mk y1.1.1 y1.1.2.1),x.1,())).bind fun y3 =>
    (if (!y3)=true then
    some (((0:Int),(0:Int),()),(2:Int),())
    else
    (i_formula_of K K ((Frm.mk y1.1.1 y1.1.2.1),x.1,())).bind fun y4 =>
    some (y4,(0:Int),()))))
noncomputable def rv_i_FuncOfFormula:Lv:=[(4,(.bx (.v tq0))),(5,(.v (.int .i64)))]
theorem ok_i_FuncOfFormula (K:Nat):FnOk Tryz.prog 6 (sp_i_FuncOfFormula (i_FuncOfFormula K)) :=
  fn_okD tysOk [C_i_parse K,C_i_isArity K,.f _ (sp_i_formula_isOf (i_formula_isOf K (i_formula_isOf_c1 K K))) (ok_i_formula_isOf K (i_formula_isOf_c1 K K) (ok_i_formula_isOf_c1 K K)),.f _ (sp_i_formula_of (i_formula_of K K)) (ok_i_formula_of K K),.f _ (sp_i_formula_isOf_c1 (i_formula_isOf_c1 K K)) (ok_i_formula_isOf_c1 K K)] 0 [] [] rv_i_FuncOfFormula K Tryz.func6 (by kernel_rfl) trivial (fun _=>by kernel_rfl)
noncomputable def C_i_FuncOfFormula (K:Nat):CB Tryz.prog:=.f _ _ (ok_i_FuncOfFormula K)
end Go.Proofs.YtefmjjpdflpnaaaGreat.E
