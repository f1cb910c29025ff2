/-
  Contracts of slices.Clone over any element that leads to no memory, and of the library's search for a byte. Conditions: those of each theorem.
-/
import Derived.Test.YtmlgfaojfmkdnaaGreatDoorCFnCommuting4
namespace Go.Proofs.YtmlgfaojfmkdnaaGreatDoor.E
open Go Go.RowKit Go.Shelf
set_option linter.unusedVariables false
set_option linter.unusedSimpArgs false
theorem cellAt {w:World} {b o:Nat} {arr:Array Value} {t:TypeId} {fz:Nat × Nat} (h:w.heap[b]?=some (.cells arr t fz)) (j:Nat):w.cell? ⟨b,o + j,none⟩=arr[o + j]?:=by
  simp [World.cell?,h]
set_option maxHeartbeats 2000000 in
set_option maxRecDepth 100000 in
/-- slices.Clone of a slice that is not nil, whatever its address. -/
theorem clone_calls {P:Program} {ρ:Ren} (L:SlLaysE0.n41 P ρ) (i0:TypeInfo) (z:Value) (size bytes:Nat) (hi:P.info? (ρ.t 23)=some i0) (hz0:i0.zero=some z) (hz1:i0.size=size) (hz2:i0.bytes=bytes) (hzs:z.cells.size=size) (hsz:0 < size)
    (z23:∀ w,(Go.sizeOf (ρ.t 23)).run P w=.ok size w) (a:Addr) (n c:Nat) (news:List Value) (w:World) (hl:news.length=n * size) (hn:n<=maxLen) (hbig:n * bytes<=140737488355328)
    (hc:∀ j u,news[j]?=some u->w.cell? (a.add j)=some u) (h1:∀ u ∈ news,u.oneCell'=true) :
    Calls P (ρ.f 41) #[.slice (some a) n c] w fun e w'=>∃ v',e=.returned v'/\w'.ownsRow w.heap.size (ρ.t 23) size v' n news/\Below w.heap.size w w':=by
  have mixed:=L.mixed;have t4:=L.t4;have a4:=L.a4;have z4:=L.z4;have v4:=L.v4;have t22:=L.t22;have a22:=L.a22;have z22:=L.z22;have v22:=L.v22
  have q22:∀ (w:World) (a:Option Addr) (n c n' c':Nat),(binOp .eql (ρ.t 22) (.slice a n c) (.slice none n' c')).run P w=.ok (.bool a.isNone) w:=fun w a n c n' c'=>Lib.run_eql_slice_nil w _ _ a n c n' c' L.t22
  have u22:∀ w,Sem.run P (underlying (ρ.t 22)) w=.ok (TypeDesc.slice (ρ.t 23)) w:=run_underlying t22
  have A:Aside (∀ j u,news[j]?=some u->w.cell? (a.add j)=some u):=hc
  clear hc
  obtain ⟨_,_,FG⟩:=L.f41
  go_enter FG,SlBodyN.n41_ntmps ρ
  go_wp2_with (at_builtin;refine wpList_append_own _ rfl _ _ (ρ.t 22) rfl w.heap.size (ρ.t 23) i0 z size bytes t22 hi hz0 hz1 hz2 hzs hsz _ _ _ rfl (World.ownsRow_made w #[] 0 (Nat.le_refl _) (Nat.zero_le _) (by simp)) a n c news rfl ?qc1 ?qc2 ?qc3 ?qc4 ?qc5 ?qc6 ?_)
  case qc1=>exact hl
  case qc2 =>
    intro j u hj
    exact Lib.cell?_alloc_some _ (A.out j u hj)
  case qc3=>exact h1
  case qc4=>rw [Nat.zero_add];exact hn
  case qc5=>rw [Nat.zero_add];exact hbig
  case qc6=>simp
  intro v' w1 hown hgrow hnil
  go_wp2
  go_ret
  refine ⟨v',rfl,by simpa using hown,?_⟩
  exact ((Below.refl _ w).alloc (Nat.le_refl _) _).grown hgrow (by simp) (by intro k hk;simp [Value.ownBlock] at hk;omega)
theorem clone_ok {P:Program} {ρ:Ren} (L:SlLaysE0.n41 P ρ) {ty:Nat->Option Ty} {e:Ty} (ht:TyOk P ty (ρ.t 23) e) (hm:e.mem=false) {z:SV} (hz:zeroSV e=some z) (hw:e.ownable=true) (hs:0 < e.sz) :
    FnOk P (ρ.f 41) ⟨.pair (.sl e) .unit,[false],.sl e,fun x=>if (x.1:List (den e)).length<=lim then some x.1 else none⟩:=by
  refine ⟨fun _=>?_,fun h=>by cases h⟩
  intro w vs x y hx hy
  obtain ⟨c,r,rfl,hc,hr⟩:=hx
  have hr:r=[]:=hr
  subst hr
  obtain ⟨a,n,cp,rfl,hn,hcp,hl⟩:=hc
  have hy:(if (x.1:List (den e)).length<=lim then some x.1 else none)=some y:=hy
  split at hy
  case isFalse=>cases hy
  rename_i hlim
  cases hy
  obtain ⟨nm,hnm,hf⟩:=L.f41
  obtain ⟨i,hi,hsz,hb1,hb2,hzz⟩:=zero_val ht hz hw
  refine cf_of_calls hf hnm rfl ?_
  have nil_case:x.1=[]->Calls P (ρ.f 41) #[.slice none n cp] w fun e' w'=>∃ v,e'=.returned v/\Ret (.sl e) x.1 w v w':=fun h0=>by
    refine (AnyE.slices_Clone_nil L n cp w).mono ?_
    rintro e' w' ⟨rfl,rfl⟩
    exact ⟨_,rfl,[],⟨_,rfl,.inl ⟨rfl,h0,rfl⟩⟩,List.nodup_nil,fun b hb=>(by cases hb),Below.refl _ _⟩
  cases a with
  | none =>
    rcases hl with h0 | ⟨b,o,arr,t,fz,h1,_⟩
    · exact nil_case h0
    · cases h1
  | some a =>
    have hcl:∃ news:List Value,news.length=n * e.sz/\(∀ j u,news[j]?=some u->w.cell? (a.add j)=some u)/\(∀ u ∈ news,u.oneCell'=true) ∧
        ∀ (i:Nat) y,(x.1:List (den e))[i]?=some y->TC e w (seg news (i * e.sz) e.sz) y []:=by
      rcases hl with h0 | ⟨b,o,arr,t,fz,h1,hb,hh,ho,hel⟩
      · have h0:(x.1:List (den e))=[]:=h0
        have hn0:n=0:=by rw [hn,h0];rfl
        exact ⟨[],by rw [hn0];simp,fun j u h=>(by simp at h),fun u h=>(by cases h),fun i y h=>by rw [h0] at h;simp at h⟩
      · cases h1
        have hal:arr.toList.length=arr.size:=Array.length_toList
        have hlen:(seg arr.toList o (n * e.sz)).length=n * e.sz:=seg_len (by rw [hal];exact ho)
        have hel':∀ (i:Nat) y,(x.1:List (den e))[i]?=some y->TC e w (seg (seg arr.toList o (n * e.sz)) (i * e.sz) e.sz) y []:=fun i y hy=>by
          have hi:i < n:=by rw [hn];exact (List.getElem?_eq_some_iff.1 hy).1
          have hm1:(i + 1) * e.sz<=n * e.sz:=Nat.mul_le_mul_right _ hi
          rw [Nat.succ_mul] at hm1
          rw [seg_seg _ hm1]
          exact TC_of_RX P e hm (hel i y hy)
        refine ⟨seg arr.toList o (n * e.sz),hlen,fun j u hj=>?_,fun u hu=>?_,hel'⟩
        · rw [seg_get] at hj
          split at hj
          case isFalse=>cases hj
          rw [show (⟨b,o,none⟩:Addr).add j=⟨b,o + j,none⟩ from Addr.add_lit ..,cellAt hh,<-Array.getElem?_toList]
          exact hj
        · obtain ⟨k,hk⟩:=List.getElem?_of_mem hu
          have hk2:=(List.getElem?_eq_some_iff.1 hk).1
          rw [hlen] at hk2
          have hi:k / e.sz < n:=Nat.div_lt_of_lt_mul (by rw [Nat.mul_comm];exact hk2)
          have hmod:=Nat.mod_lt k hs
          have hi2:k / e.sz < (x.1:List (den e)).length:=by rw [<-hn];exact hi
          have:=TC_one (hel' (k / e.sz) _ (List.getElem?_eq_getElem hi2)) u (by
            refine List.mem_of_getElem? (i:=k % e.sz) ?_
            rw [seg_get,if_pos hmod,Nat.mul_comm (k / e.sz),Nat.div_add_mod];exact hk)
          exact this
    obtain ⟨news,hl1,hl2,hl3,hl4⟩:=hcl
    have hn40:n<=1099511627776:=by rw [hn];exact hlim
    refine (clone_calls L i _ e.sz i.bytes hi hzz.1 hsz rfl (by rw [hzz.2];simp;exact TC_len _ _ _ _ _ (TC_zero e (w:=w) hz hw)) hs (fun w=>ht.sizeOf w) a n cp news w hl1 (by unfold maxLen;omega) ?_ hl2 hl3).mono ?_
    · have:=Nat.mul_le_mul hn40 hb1;omega
    rintro e' w' ⟨v',rfl,hown,hbel⟩
    refine ⟨v',rfl,?_⟩
    obtain ⟨ho1,ho2⟩:=hown
    rcases ho2 with ⟨rfl,h0⟩ | ⟨g,cap,cur,rfl,hg,hcur,hle,hmx,hcs,htk⟩
    · have h0':(x.1:List (den e))=[]:=List.length_eq_zero_iff.1 (by rw [<-hn];exact h0)
      exact ⟨[],⟨_,rfl,.inl ⟨rfl,h0',rfl⟩⟩,List.nodup_nil,fun b hb=>(by cases hb),hbel⟩
    · refine ⟨[g],⟨_,rfl,.inr ⟨g,0,n,cap,cur,_,List.replicate n [],rfl,?_,hn,hcur,hle,by rw [hcs];omega,by simp,fun j y bi hy hbi=>?_⟩⟩,by simp,fun b hb=>?_,hbel⟩
      · congr 1;simp
      · have hbi':bi=[]:=List.eq_of_mem_replicate (List.mem_of_getElem? hbi)
        subst hbi'
        have hj:j < n:=by rw [hn];exact (List.getElem?_eq_some_iff.1 hy).1
        have hm1:(j + 1) * e.sz<=n * e.sz:=Nat.mul_le_mul_right _ hj
        rw [Nat.succ_mul] at hm1
        have e1:seg cur.toList (0 + j * e.sz) e.sz=seg news (j * e.sz) e.sz:=by
          rw [Nat.zero_add,<-htk]
          apply List.ext_getElem?
          intro k
          rw [seg_get,seg_get]
          by_cases hk:k < e.sz
          · rw [if_pos hk,if_pos hk,List.getElem?_take,if_pos (by omega)]
          · rw [if_neg hk,if_neg hk]
        rw [e1]
        exact TC_congr e (fun b hb=>by cases hb) (hl4 j y hy)
      · simp only [List.mem_singleton] at hb;subst hb
        exact ⟨hg,(Array.getElem?_eq_some_iff.1 hcur).1⟩
/-- The library's search for a byte in a string. -/
theorem indexByte_ok {P:Program} {f:FuncId} {fn:Func} (hf:P.funcs[f]?=some fn) (hname:(fn.name == "runtime.NumGoroutine")=false) (hb:fn.body.isNone=true) (hn:Extern.findNext fn=none) (he:Extern.find fn=some Extern.BytealgIndexByte.indexByte) :
    FnOk P f ⟨.pair .str (.pair (.int .u8) .unit),[false,false],.int .i64,fun x=>some (Lib.indexByte (x.1:ByteArray).data.toList (x.2.1:Int).toNat.toUInt8)⟩:=by
  refine ⟨fun _=>?_,fun h=>by cases h⟩
  intro w vs x y hx hy
  obtain ⟨c,r,rfl,hc,c2,r2,rfl,hc2,hr⟩:=hx
  have hr:r2=[]:=hr
  subst hr
  have hc:c=[.string x.1]:=hc
  have hc2:c2=[.int .u8 x.2.1]:=hc2
  subst hc;subst hc2
  cases hy
  refine cf_of_value (by
    rw [run_callFunc_extern hf hname hb hn he]
    show ((Extern.BytealgIndexByte.indexByte #[.string x.1,.int .u8 x.2.1]).run P w).andThen _=_
    rw [Lib.run_indexByteString];rfl) ?_
  exact ⟨[],⟨_,rfl,rfl,rfl⟩,List.nodup_nil,fun b hb=>(by cases hb),Below.refl _ _⟩
/-- The library's count of a byte in a string. -/
theorem countByte_ok {P:Program} {f:FuncId} {fn:Func} (hf:P.funcs[f]?=some fn) (hname:(fn.name == "runtime.NumGoroutine")=false) (hb:fn.body.isNone=true) (hn:Extern.findNext fn=none) (he:Extern.find fn=some Extern.BytealgCount.count) :
    FnOk P f ⟨.pair .str (.pair (.int .u8) .unit),[false,false],.int .i64,fun x=>some ((Lib.countByte (x.1:ByteArray).data.toList (x.2.1:Int).toNat.toUInt8:Nat):Int)⟩:=by
  refine ⟨fun _=>?_,fun h=>by cases h⟩
  intro w vs x y hx hy
  obtain ⟨c,r,rfl,hc,c2,r2,rfl,hc2,hr⟩:=hx
  have hr:r2=[]:=hr
  subst hr
  have hc:c=[.string x.1]:=hc
  have hc2:c2=[.int .u8 x.2.1]:=hc2
  subst hc;subst hc2
  cases hy
  refine cf_of_value (by
    rw [run_callFunc_extern hf hname hb hn he]
    show ((Extern.BytealgCount.count #[.string x.1,.int .u8 x.2.1]).run P w).andThen _=_
    rw [Lib.run_countString];rfl) ?_
  exact ⟨[],⟨_,rfl,rfl,rfl⟩,List.nodup_nil,fun b hb=>(by cases hb),Below.refl _ _⟩
end Go.Proofs.YtmlgfaojfmkdnaaGreatDoor.E
namespace Go.Proofs.YtmlgfaojfmkdnaaGreatDoor.E
open Go Go.RowKit Go.ChangeShapes Go.WideShapes Go.ChangeAt
set_option linter.unusedVariables false
set_option linter.unusedSimpArgs false
theorem ok_valOf {P:Program} {ty:Nat->Option Ty} {w:World} {base t:Nat} {T:Ty} (h:TyOk P ty t T) (hd:dataB T=true) {v:Value} (hv:Value.okWide P w .any base t v):v=valOf T v.cells.toList:=by
  obtain ⟨d,hu,hok⟩:=h.und
  cases T with
  | st f =>
    cases d <;> simp only [UnOk] at hok
    simp only [Value.okWide,hu] at hv
    obtain ⟨cs,rfl,_⟩:=hv
    simp [Value.cells,valOf]
  | int k =>
    cases d <;> simp only [UnOk] at hok
    simp only [Value.okWide,Cell.okWide,hu] at hv
    cases v <;> simp_all [Cell.ok,Value.cells,valOf]
  | bool =>
    cases d <;> simp only [UnOk] at hok
    simp only [Value.okWide,Cell.okWide,hu] at hv
    cases v <;> simp_all [Cell.ok,Value.cells,valOf]
  | str =>
    cases d <;> simp only [UnOk] at hok
    simp only [Value.okWide,Cell.okWide,hu] at hv
    cases v <;> simp_all [Cell.ok,Value.cells,valOf]
  | sl e =>
    cases d <;> simp only [UnOk] at hok
    simp only [Value.okWide,Cell.okWide,hu] at hv
    cases v <;> simp_all [Cell.ok,Value.cells,valOf]
  | unit=>exact (no_unit h).elim
  | pair a b=>exact (no_pair h).elim
  | tup _=>cases hd
  | arr _ _=>cases hd
  | ptr _=>cases hd
  | fn _ _=>cases hd
/-- One argument: what it reads as, its cells, what is known of it. -/
theorem arg_open {P:Program} {ty:Nat->Option Ty} {w:World} {base t:Nat} {T:Ty} (O:∀ t T,ty t=some T->TyOk P ty t T) (ht:ty t=some T) (hd:dataB T=true) {v:Value} (hv:Value.okWide P w .any base t v)
    {H:Type} {enc:TypeId × Value->H} {spare:Nat->Bool} {held:Bool} {d:DataW H} {ps:List MemPlace} (h:DataW.Trod enc P w 0 spare held t v d ps) :
    ∃ y:den T,v=valOf T v.cells.toList/\RX P T false w (fun b=>b < w.heap.size) v.cells.toList y/\okD T y:=by
  obtain ⟨m,hm⟩:=h
  obtain ⟨y,y1,y2⟩:=(opensAll (w:=w) O T).1 t ht hd H enc spare held m _ _ hm
  exact ⟨y,ok_valOf (O t T ht) hd hv,y1,y2⟩
theorem ret_bool {w w':World} {v:Value} {b:Bool} (h:Ret .bool b w v w'):v=.bool b/\Below w.heap.size w w':=by
  obtain ⟨bs,⟨cs,e,h1,h2⟩,_,_,h3⟩:=h
  refine ⟨?_,h3⟩
  have h1:cs=[.bool b]:=h1
  subst h1
  simpa [valOf] using e
end Go.Proofs.YtmlgfaojfmkdnaaGreatDoor.E
namespace Go.Proofs.YtmlgfaojfmkdnaaGreatDoor.E
open Go Go.RowKit
set_option linter.unusedVariables false
set_option linter.unusedSimpArgs false
section
variable {C:Cx} {cf:Cfg} {st st':St} {a:Act} {w w':World} {G G':Gh} {us:U}
theorem kcan_fit:∀ (sh:Shp) (d:Nat),sh.okI=true->KFit sh (kcan sh d).1/\∀ p ∈ (kcan sh d).1.ids,p.2=1
  | .v T,d,_=>⟨trivial,fun p hp=>(by cases hp)⟩
  | .r e,d,_=>⟨trivial,fun p hp=>by simp only [kcan,KS.ids,List.mem_singleton] at hp;rw [hp]⟩
  | .bx c,d,h=>by cases h
  | .cl _ c,d,h=>by cases h
  | .unit,d,_=>⟨trivial,fun p hp=>(by cases hp)⟩
  | .pair a b,d,h=>by
    simp only [Shp.okI,Bool.and_eq_true] at h
    obtain ⟨h1,h2⟩:=kcan_fit a d h.1
    obtain ⟨h3,h4⟩:=kcan_fit b (kcan a d).2 h.2
    exact ⟨⟨h1,h3⟩,fun p hp=>(List.mem_append.1 hp).elim (h2 p) (h4 p)⟩
  | .st a,d,h=>kcan_fit a d h
theorem kzL_fit:∀ (l:Lv) {vs:List Value},(l.all fun z=>z.2.okO)=true->vs.length=l.length->FitL st0 G l (kzL l) vs
  | [],vs,_,hv=>by rw [List.length_eq_zero_iff.1 hv];trivial
  | (i,sh) :: l,[],_,hv=>by simp at hv
  | (i,sh) :: l,v :: vs,h,hv=>by
    simp only [List.all_cons,Bool.and_eq_true] at h
    have ih:=kzL_fit l (vs:=vs) h.2 (by simpa using hv)
    have g0:∀ k,(st0 k).gen=0:=fun k=>rfl
    cases sh with
    | bx c =>
      obtain ⟨h1,h2⟩:=kcan_fit c (8 * i + 1) h.1
      exact ⟨h1,fun p hp=>by rw [h2 p hp];exact Nat.zero_lt_one,.inl Nat.zero_lt_one,ih⟩
    | cl f c =>
      obtain ⟨h1,h2⟩:=kcan_fit c (8 * i + 1) h.1
      exact ⟨h1,fun p hp=>by rw [h2 p hp];exact Nat.zero_lt_one,.inl Nat.zero_lt_one,ih⟩
    | _ =>
      have hI:=h.1
      simp only [Shp.okO,Bool.and_eq_true] at hI
      obtain ⟨h1,h2⟩:=kcan_fit _ (8 * i) hI.1
      exact ⟨h1,fun p hp=>by rw [h2 p hp];exact Nat.zero_lt_one,ih⟩
theorem putS_keys:∀ (sh:Shp) (k:KS) (x:den sh.ty),KFit sh k->(putS sh k x).2.map (·.1)=k.keys
  | .v T,k,x,h=>by cases k <;> first | rfl | exact h.elim
  | .r e,k,x,h=>by cases k <;> first | rfl | exact h.elim
  | .bx c,k,x,h=>by cases k <;> exact h.elim
  | .cl _ c,k,x,h=>by cases k <;> exact h.elim
  | .unit,k,x,h=>by cases k <;> first | rfl | exact h.elim
  | .pair a b,k,x,h=>by
    cases k <;> try exact h.elim
    rename_i k1 k2
    show ((putS a k1 x.1).2 ++ (putS b k2 x.2).2).map (·.1)=_
    rw [List.map_append,putS_keys a k1 x.1 h.1,putS_keys b k2 x.2 h.2];rfl
  | .st a,k,x,h=>by
    cases k <;> try exact h.elim
    rename_i k1
    exact putS_keys a k1 x h
theorem putL_keys:∀ (l:Lv) (ks:List (Nat × Nat × KS)) (x:den l.ty) {vs:List Value},FitL st G l ks vs->(putL l ks x).2.map (·.1)=keysL l ks
  | [],[],x,vs,h=>rfl
  | [],_ :: _,x,vs,h=>rfl
  | (i,sh) :: l,[],x,vs,h=>by cases sh <;> cases vs <;> exact h.elim
  | (i,sh) :: l,k :: ks,x,[],h=>by cases sh <;> exact h.elim
  | (i,sh) :: l,(b,g,k) :: ks,x,v :: vs,h=>by
    cases sh with
    | bx c =>
      show ((bk b,_) :: (putS c k x.1).2 ++ (putL l ks x.2).2).map (·.1)=_
      rw [List.map_append,List.map_cons,putS_keys c k x.1 h.1,putL_keys l ks x.2 h.2.2.2];rfl
    | cl f c =>
      show ((bk b,_) :: (putS c k x.1).2 ++ (putL l ks x.2).2).map (·.1)=_
      rw [List.map_append,List.map_cons,putS_keys c k x.1 h.1,putL_keys l ks x.2 h.2.2.2];rfl
    | v T =>
      show ((putS _ k x.1).2 ++ (putL l ks x.2).2).map (·.1)=_
      rw [List.map_append,putS_keys _ k x.1 h.1,putL_keys l ks x.2 h.2.2];rfl
    | r T =>
      show ((putS _ k x.1).2 ++ (putL l ks x.2).2).map (·.1)=_
      rw [List.map_append,putS_keys _ k x.1 h.1,putL_keys l ks x.2 h.2.2];rfl
    | unit =>
      show ((putS _ k x.1).2 ++ (putL l ks x.2).2).map (·.1)=_
      rw [List.map_append,putS_keys _ k x.1 h.1,putL_keys l ks x.2 h.2.2];rfl
    | pair A B =>
      show ((putS _ k x.1).2 ++ (putL l ks x.2).2).map (·.1)=_
      rw [List.map_append,putS_keys _ k x.1 h.1,putL_keys l ks x.2 h.2.2];rfl
    | st A =>
      show ((putS _ k x.1).2 ++ (putL l ks x.2).2).map (·.1)=_
      rw [List.map_append,putS_keys _ k x.1 h.1,putL_keys l ks x.2 h.2.2];rfl
/-- The slots of the parameters. -/
theorem slots_sw {P:Program} {S:Nat->Prop}:∀ (l:Lv) (v:SV) {vs:List Value} (i0:Nat),idxs i0 l=true->SX P st G w S v true vs->∀ z ∈ slotsU l v,∃ j v',z=(sk (i0 + j),.sv v')/\j < vs.length/\SW P st G w S v' (vs.getD j undef)
  | [],v,vs,i0,_,_,z,hz=>by cases v <;> cases hz
  | (i,sh) :: l,v,vs,i0,hi,h,z,hz=>by
    cases v with
    | pair a b =>
      obtain ⟨c,r,rfl,h1,h2⟩:=h
      simp only [idxs,Bool.and_eq_true] at hi
      have hi0:=Nat.eq_of_beq_eq_true hi.1
      subst hi0
      rcases List.mem_cons.1 hz with hz | hz
      · refine ⟨0,a,hz,by simp,?_⟩
        show SW P st G w S a (valS a c)
        cases a <;> first | exact ⟨c,rfl,h1⟩ | exact h1.elim
      · obtain ⟨j,v',k1,k2,k3⟩:=slots_sw l b (i + 1) hi.2 h2 z hz
        refine ⟨j + 1,v',by rw [k1];congr 2;omega,by simpa using k2,by simpa using k3⟩
    | _=>cases hz
theorem slots_keys:∀ (l:Lv) (v:SV) (i0:Nat),idxs i0 l=true->((slotsU l v).map (·.1)).Nodup/\∀ z ∈ slotsU l v,∃ j v',z=(sk j,.sv v')/\i0<=j
  | [],v,i0,_=>by cases v <;> exact ⟨List.nodup_nil,fun z hz=>(by cases hz)⟩
  | (i,sh) :: l,v,i0,hi=>by
    cases v with
    | pair a b =>
      simp only [idxs,Bool.and_eq_true] at hi
      have hi0:=Nat.eq_of_beq_eq_true hi.1
      subst hi0
      obtain ⟨h1,h2⟩:=slots_keys l b (i + 1) hi.2
      refine ⟨?_,fun z hz=>?_⟩
      · show (sk i :: (slotsU l b).map (·.1)).Nodup
        rw [List.nodup_cons]
        refine ⟨fun hm=>?_,h1⟩
        obtain ⟨z,hz,e⟩:=List.mem_map.1 hm
        obtain ⟨j,v',e2,hj⟩:=h2 z hz
        rw [e2] at e
        have:=sk_inj e
        omega
      · rcases List.mem_cons.1 hz with hz | hz
        · exact ⟨i,a,hz,Nat.le_refl _⟩
        · obtain ⟨j,v',k1,k2⟩:=h2 z hz
          exact ⟨j,v',k1,by omega⟩
    | _=>exact ⟨List.nodup_nil,fun z hz=>(by cases hz)⟩
theorem entry_invS {P:Program} {ps:Lv} {vals:List Value} {x:den ps.ty} {bs:List Nat} {S:Nat->Prop} {pr nt:Nat} (h:XL P ps w S vals x bs) (hn:bs.Nodup) (hS:∀ b,S b->b < w.heap.size/\b ∉ bs) (hbs:∀ b ∈ bs,b < w.heap.size) (hok:entSB ps=true) (hlen:ps.length<=nt) (hpr:pr<=ps.length) :
    ∃ G,Inv ⟨P,w,bs,vals,pr,nt,fun b=>S b\/w.heap.size<=b\/b ∈ bs⟩ (entSt ps x) { tmps:=vals.toArray ++ Array.replicate (nt - vals.toArray.size) undef,defers:=[] } w G:=by
  simp only [entSB,Bool.and_eq_true,nodupB_iff] at hok
  obtain ⟨⟨hi,hO⟩,hkn⟩:=hok
  have hvl:=XL_len _ h
  let G0:Gh:=⟨fun _=>undef,fun _=>[],fun _=>0,fun b=>S b\/w.heap.size<=b\/b ∈ bs⟩
  have hfit:=kzL_fit (G:=G0) ps (vs:=vals) hO hvl
  obtain ⟨ge,K⟩:=putL_ok (st:=st0) (G:=G0) (fun b hb=>(hS b hb).1) ps (kzL ps) x hfit h
  have hke:=putL_keys ps (kzL ps) x hfit
  have hkn:((putL ps (kzL ps) x).2.map (·.1)).Nodup:=by rw [hke];exact hkn
  have hkg:(ge.map (·.1)).Nodup:=K.keys ▸ hkn
  obtain ⟨hsn,hsk⟩:=slots_keys ps (putL ps (kzL ps) x).1 0 hi
  have bn:(ge.flatMap (·.2.2)).Nodup:=K.bls ▸ hn
  let G:Gh:=⟨fun k=>match ge.lookup k with | some q=>q.1 | none=>undef,fun k=>match ge.lookup k with | some q=>q.2 | none=>[],fun k=>match ge.lookup k with | some q=>q.2.headD 0 | none=>0,fun b=>S b\/w.heap.size<=b\/b ∈ bs⟩
  have hga:GA G ge:=fun q hq=>by
    have:=lkp_mem ge hkg (show (q.1,q.2) ∈ ge from hq)
    refine ⟨?_,?_,?_⟩
    · show (match ge.lookup q.1 with | some q=>q.1 | none=>undef)=_;rw [this]
    · show (match ge.lookup q.1 with | some q=>q.2 | none=>[])=_;rw [this]
    · show (match ge.lookup q.1 with | some q=>q.2.headD 0 | none=>0)=_;rw [this]
  have hin:∀ z ∈ (putL ps (kzL ps) x).2,entSt ps x z.1=z.2:=fun z hz=>upds_in _ _ hkn (by simpa using hz)
  have hcell:∀ z ∈ (putL ps (kzL ps) x).2,∀ i,z.1 ≠ sk i:=fun z hz i e=>by
    obtain ⟨q,_,_,⟨t,_,_,_,h1,_⟩ | ⟨b,_,_,_,_,_,_,h1,_⟩⟩:=K.cell z hz
    · rw [h1] at e;exact sk_ne_rk _ _ e.symm
    · rw [h1] at e;exact sk_ne_bk _ _ e.symm
  have hslot:∀ i,entSt ps x (sk i)=upds st0 (slotsU ps (putL ps (kzL ps) x).1) (sk i):=fun i=>upds_out _ _ _ fun p hp e=>hcell p hp i e
  have hout:∀ k,(∀ i,k ≠ sk i)->k ∉ (putL ps (kzL ps) x).2.map (·.1)->entSt ps x k=.none:=fun k h1 h2=>by
    have e1:entSt ps x k=upds st0 (slotsU ps (putL ps (kzL ps) x).1) k:=upds_out _ _ _ fun p hp e=>h2 (List.mem_map.2 ⟨p,hp,e⟩)
    rw [e1,upds_out _ _ _ fun p hp e=>?_];rfl
    obtain ⟨j,v',e2,_⟩:=hsk p hp
    rw [e2] at e;exact h1 j e.symm
  have hsl:∀ i,entSt ps x (sk i)=.none\/∃ v,entSt ps x (sk i)=.sv v/\(sk i,Cell.sv v) ∈ slotsU ps (putL ps (kzL ps) x).1:=fun i=>by
    rw [hslot i]
    by_cases hk:∃ p ∈ slotsU ps (putL ps (kzL ps) x).1,p.1=sk i
    · obtain ⟨p,hp,e⟩:=hk
      obtain ⟨j,v',e2,_⟩:=hsk p hp
      rw [e2] at e
      have:=sk_inj e
      subst this
      right
      rw [e2] at hp
      exact ⟨v',upds_in _ _ hsn hp,hp⟩
    · left
      rw [upds_out _ _ _ fun p hp e=>hk ⟨p,hp,e⟩];rfl
  have hmem:∀ k,entSt ps x k ≠ .none->(∀ i,k ≠ sk i)->∃ z ∈ (putL ps (kzL ps) x).2,z.1=k:=fun k h1 h2=>by
    by_cases hk:k ∈ (putL ps (kzL ps) x).2.map (·.1)
    · obtain ⟨z,hz,e⟩:=List.mem_map.1 hk;exact ⟨z,hz,e⟩
    · exact absurd (hout k h2 hk) h1
  have hns:∀ k c,entSt ps x k=c->(∀ v,c ≠ .sv v)->c ≠ .none->∃ z ∈ (putL ps (kzL ps) x).2,z.1=k:=fun k c h1 h2 h3=>by
    refine hmem k (by rw [h1];exact h3) fun i e=>?_
    subst e
    rcases hsl i with h | ⟨v,h,_⟩
    · rw [h] at h1;exact h3 h1.symm
    · rw [h] at h1;exact h2 v h1.symm
  have hown:∀ k b,b ∈ ownB (entSt ps x) G k->∃ z ∈ (putL ps (kzL ps) x).2,z.1=k:=fun k b hb=>by
    unfold ownB at hb
    split at hb
    · rename_i g h e l hr;exact hns k _ hr (fun v e=>by cases e) (by simp)
    · rename_i g T v hr;exact hns k _ hr (fun v e=>by cases e) (by simp)
    · rename_i g hr;exact hns k _ hr (fun v e=>by cases e) (by simp)
    · cases hb
  have hz:∀ z ∈ (putL ps (kzL ps) x).2,∃ q ∈ ge,q.1=z.1/\ownB (entSt ps x) G z.1=q.2.2:=fun z hz=>by
    obtain ⟨q,hq,e,h⟩:=K.cell z hz
    refine ⟨q,hq,e,?_⟩
    have hz2:=hin z hz
    have g:=hga q hq
    rw [e] at g
    unfold ownB
    rw [hz2]
    rcases h with ⟨t,g',e',l,h1,_⟩ | ⟨b,g',T,v,blk,arr,ty,h1,h2,_⟩
    · rw [h1];rw [h1] at g;exact g.2.1
    · rw [h1];rw [h1] at g
      show [G.bx (bk b)]=_
      rw [g.2.2,h2];rfl
  have hfz:∀ b,S b->Fz (entSt ps x) G w b:=fun b hb=>by
    refine ⟨(hS b hb).1,fun k hk=>?_,.inl hb⟩
    obtain ⟨z,hz1,rfl⟩:=hown k b hk
    obtain ⟨q,hq,_,ho⟩:=hz z hz1
    rw [ho] at hk
    exact (hS b hb).2 (by rw [K.bls];exact List.mem_flatMap.2 ⟨q,hq,hk⟩)
  have hinst:Inst (putL ps (kzL ps) x).2 ge S w (entSt ps x) G (Fz (entSt ps x) G w):=⟨hin,hga,hfz,fun b hb=>hb.1⟩
  have hsx:=K.sx _ _ _ hinst
  have hsize:vals.toArray.size=vals.length:=by simp
  have htm:∀ i,i < vals.length->({ tmps:=vals.toArray ++ Array.replicate (nt - vals.toArray.size) undef,defers:=[] }:Act).tmps.getD i undef=vals.getD i undef:=fun i hi=>by
    show (vals.toArray ++ Array.replicate (nt - vals.toArray.size) undef).getD i undef=_
    simp only [Array.getD_eq_getD_getElem?,List.getD]
    rw [Array.getElem?_append_left (by simpa using hi)]
    simp
  refine ⟨G,{ rt:=fun k g hh e l hr=>?_,sc:=fun i=>?_,bx:=fun k g T v hr=>?_,nd:=fun k=>?_,dj:=fun k k' b h1 h2=>?_,lt:=fun k b hb=>?_,os:=rfl,tape:=rfl,output:=rfl,size:=Nat.le_refl _,block:=fun _ _ _=>rfl,s0:=rfl,m0:=fun b hb=>hb.elim (fun h=>.inr (.inl h)) (fun h=>.inr (.inr h)),sl:=fun i v hv=>?_,df:=rfl,sz:=?_,pa:=fun i hi=>?_ }⟩
  · obtain ⟨z,hz1,rfl⟩:=hns k _ hr (fun v e=>by cases e) (by simp)
    obtain ⟨q,hq,e',hc⟩:=K.cell z hz1
    have hz2:=hin z hz1
    have gg:=hga q hq
    rw [e'] at gg
    rw [hz2] at hr
    rcases hc with ⟨t,g',e2,l2,h1,h2,_⟩ | ⟨b,g',T,v,blk,arr,ty,h1,_⟩
    · rw [h1] at hr;cases hr
      rw [gg.1,gg.2.1];exact h2
    · rw [h1] at hr;cases hr
  · rcases hsl i with h | ⟨v,h,_⟩
    · exact .inr h
    · exact .inl ⟨v,h⟩
  · obtain ⟨z,hz1,rfl⟩:=hns k _ hr (fun v e=>by cases e) (by simp)
    obtain ⟨q,hq,e',hc⟩:=K.cell z hz1
    have hz2:=hin z hz1
    have gg:=hga q hq
    rw [e'] at gg
    rw [hz2] at hr
    rcases hc with ⟨t,g',e2,l2,h1,_⟩ | ⟨b,g',T',v',blk,arr,ty,h1,h2,h3,h4,h5,h6⟩
    · rw [h1] at hr;cases hr
    · rw [h1] at hr;cases hr
      refine ⟨h3,arr,ty,?_,h6 _ _ _ hinst⟩
      rw [gg.2.2,h2];exact h4
  · by_cases hk:∃ z ∈ (putL ps (kzL ps) x).2,z.1=k
    · obtain ⟨z,hz1,rfl⟩:=hk
      obtain ⟨q,hq,e,ho⟩:=hz z hz1
      rw [ho];exact flat_nd bn q hq
    · have:ownB (entSt ps x) G k=[]:=List.eq_nil_iff_forall_not_mem.2 fun b hb=>hk (hown k b hb)
      rw [this];exact List.nodup_nil
  · obtain ⟨z,hz1,rfl⟩:=hown k b h1
    obtain ⟨z',hz1',rfl⟩:=hown k' b h2
    obtain ⟨q,hq,e,ho⟩:=hz z hz1
    obtain ⟨q',hq',e',ho'⟩:=hz z' hz1'
    rw [ho] at h1;rw [ho'] at h2
    rw [<-e,<-e',flat_dj bn q hq q' hq' b h1 h2]
  · obtain ⟨z,hz1,rfl⟩:=hown k b hb
    obtain ⟨q,hq,e,ho⟩:=hz z hz1
    rw [ho] at hb
    have:b ∈ bs:=by rw [K.bls];exact List.mem_flatMap.2 ⟨q,hq,hb⟩
    exact ⟨hbs b this,.inr this⟩
  · rcases hsl i with h | ⟨v',h,hm⟩
    · rw [h] at hv;cases hv
    · rw [h] at hv;cases hv
      obtain ⟨j,v2,e2,hj,hw⟩:=slots_sw ps _ 0 hi hsx _ hm
      simp only [Prod.mk.injEq,Cell.sv.injEq,Nat.zero_add] at e2
      have:=sk_inj e2.1
      subst this
      rw [e2.2,htm i hj];exact hw
  · show (vals.toArray ++ Array.replicate (nt - vals.toArray.size) undef).size=nt
    rw [Array.size_append,Array.size_replicate,hsize];omega
  · show (vals.toArray ++ Array.replicate (nt - vals.toArray.size) undef).getD i undef=vals.getD i undef
    exact htm i (by rw [hvl];exact Nat.lt_of_lt_of_le hi hpr)
theorem outsV_run {α:Type} {u:α} (I:Inv C st a w G):∀ (l:Lv) {f:SV->M α},Rn (outsV l f) st u->∃ v,SX C.P st G w (Fz st G w) v true (l.map fun p=>a.tmps.getD p.1 undef)/\Rn (f v) st u
  | [],f,h=>⟨.unit,rfl,h⟩
  | (i,sh) :: l,f,h=>by
    unfold outsV at h
    obtain ⟨v,_,hv,h⟩:=slot_run I h
    split at h
    · exact (Rn_fail.1 h).elim
    · rename_i hnt
      obtain ⟨v',k1,k2⟩:=outsV_run I l h
      obtain ⟨c,hc1,hc2⟩:=SW_cells hv (fun b e=>hnt b e)
      exact ⟨.pair v v',⟨c,_,by rw [List.map_cons,hc1],hc2,k1⟩,k2⟩
theorem outV_map (f:Nat->Value):∀ (l:Lv) (vs:List Value) (i0:Nat),idxs i0 l=true->vs.length=l.length->(∀ p ∈ outL l,p.1 < i0 + vs.length->f p.1=vs.getD (p.1 - i0) undef)->(outL l).map (fun p=>f p.1)=outV l vs
  | [],vs,i0,_,hv,_=>by rw [List.length_eq_zero_iff.1 hv];rfl
  | (i,sh) :: l,[],i0,_,hv,_=>by simp at hv
  | (i,sh) :: l,v :: vs,i0,hi,hv,h=>by
    simp only [idxs,Bool.and_eq_true] at hi
    have hi0:=Nat.eq_of_beq_eq_true hi.1
    subst hi0
    have hge:∀ (l:Lv) (i0:Nat),idxs i0 l=true->∀ p ∈ outL l,i0<=p.1:=by
      intro l
      induction l with
      | nil=>intro i0 _ p hp;cases hp
      | cons q l ih =>
        intro i0 hi p hp
        obtain ⟨q1,q2⟩:=q
        simp only [idxs,Bool.and_eq_true] at hi
        have e:=Nat.eq_of_beq_eq_true hi.1
        have:=fun hp=>ih (i0 + 1) hi.2 p hp
        cases q2 with
        | bx c =>
          rcases List.mem_cons.1 hp with hp | hp
          · rw [hp];exact Nat.le_of_eq e.symm
          · have:=this hp;omega
        | cl f c =>
          rcases List.mem_cons.1 hp with hp | hp
          · rw [hp];exact Nat.le_of_eq e.symm
          · have:=this hp;omega
        | _=>have:=this hp;omega
    have rest:=outV_map f l vs (i + 1) hi.2 (by simpa using hv) (fun p hp hlt=>by
      have h1:=hge l (i + 1) hi.2 p hp
      have hp':p ∈ outL ((i,sh) :: l):=by cases sh <;> first | exact hp | exact List.mem_cons_of_mem _ hp
      rw [h p hp' (by simp;omega),show p.1 - i=(p.1 - (i + 1)) + 1 from by omega];simp)
    cases sh with
    | bx c =>
      show f i :: (outL l).map (fun p=>f p.1)=v :: outV l vs
      rw [rest,h (i,.bx c) List.mem_cons_self (by simp)];simp
    | cl f0 c =>
      show f i :: (outL l).map (fun p=>f p.1)=v :: outV l vs
      rw [rest,h (i,.cl f0 c) List.mem_cons_self (by simp)];simp
    | _=>exact rest
/-- The boxes among the parameters stand in slots that stay as they are. -/
def protB (ps:Lv) (pr:Nat):Bool:=(outL ps).all fun p=>Nat.blt p.1 pr
theorem fin_shape {P:Program} {ps rl:Lv} {vals:List Value} {bs:List Nat} {S:Nat->Prop} {w0:World} {fn:Func} {y:den rl.ty × den (outL ps).ty} {pr nt:Nat} (O:CfgOk ⟨P,w0,bs,vals,pr,nt,fun b=>S b\/w0.heap.size<=b\/b ∈ bs⟩ cf) (I:Inv ⟨P,w0,bs,vals,pr,nt,fun b=>S b\/w0.heap.size<=b\/b ∈ bs⟩ st a w G)
    {F:den ps.ty->Option (den rl.ty × den (outL ps).ty)} (hi:idxs 0 ps=true) (hp:protB ps pr=true) (hvl:vals.length=ps.length) (h:Rn (finS cf fn.results.toList ps rl) st y):∃ v,(results fn a.tmps).run P w=.ok v w/\ShRet P ⟨ps,rl,F⟩ vals y.1 y.2 bs S w0 v w:=by
  unfold finS at h
  obtain ⟨v,vs,h1,h2,h⟩:=resSV_run O I _ h
  obtain ⟨x,ks,gs,od,d1,h,A⟩:=rdL_run I.toInvM rl v _ h h2
  obtain ⟨u,h3,h⟩:=outsV_run I (outL ps) h
  obtain ⟨z,ks',gs',od',d2,h,B⟩:=rdL_run I.toInvM (outL ps) u _ h h3
  rw [Rn_bif] at h
  rcases h with ⟨hb,h⟩ | ⟨_,h⟩
  case inr=>exact (Rn_fail.1 h).elim
  rw [Rn_ret] at h
  subst h
  rw [nodupB_iff] at hb
  obtain ⟨hodn,_,hodg⟩:=List.nodup_append.1 hb
  have hov:(outL ps).map (fun p=>a.tmps.getD p.1 undef)=outV ps vals:=outV_map (fun i=>a.tmps.getD i undef) ps vals 0 hi hvl fun p hp' _=>by
    have:=List.all_eq_true.1 hp p hp'
    rw [Nat.sub_zero]
    exact I.pa p.1 (Nat.le_of_ble_eq_true this)
  have hown:∀ b,b ∈ od.flatMap (ownB st G) ++ od'.flatMap (ownB st G)->∃ k ∈ od ++ od',b ∈ ownB st G k:=fun b hb=>by
    rcases List.mem_append.1 hb with hb | hb
    · obtain ⟨k,hk,hb⟩:=List.mem_flatMap.1 hb;exact ⟨k,List.mem_append_left _ hk,hb⟩
    · obtain ⟨k,hk,hb⟩:=List.mem_flatMap.1 hb;exact ⟨k,List.mem_append_right _ hk,hb⟩
  have s0:∀ b,G.s0 b->S b\/w0.heap.size<=b\/b ∈ bs:=fun b hb=>by rw [I.s0] at hb;exact hb
  have hS1:∀ b,Fz st G w b->b < w.heap.size/\(S b\/w0.heap.size<=b\/b ∈ bs)/\b ∉ od.flatMap (ownB st G) ++ od'.flatMap (ownB st G):=fun b hb=>⟨hb.1,s0 b hb.2.2,fun hm=>by
    obtain ⟨k,_,hk⟩:=hown b hm
    exact hb.2.1 k hk⟩
  have hS2:∀ (gs2:List (Nat × Nat)),(∀ p ∈ gs2,p ∈ gs ++ gs')->(∀ p ∈ gs2,RT st p)->∀ p ∈ gs2,∀ b ∈ G.bl (rk p.1),b < w.heap.size/\(S b\/w0.heap.size<=b\/b ∈ bs)/\b ∉ od.flatMap (ownB st G) ++ od'.flatMap (ownB st G):=fun gs2 hsub hrt p hp b hb=>by
    have ho:b ∈ ownB st G (rk p.1):=by rw [own_of_RT (hrt p hp)];exact hb
    refine ⟨(I.lt _ _ ho).1,s0 b (I.m0 _ (I.lt _ _ ho).2),fun hm=>?_⟩
    obtain ⟨k,hk,hbk⟩:=hown b hm
    have:=I.dj _ _ _ hbk ho
    subst this
    exact hodg _ hk _ (List.mem_map.2 ⟨p,hsub p hp,rfl⟩) rfl
  refine ⟨retV vs,?_,⟨vs,_,_,rfl,A.xs _ hS1 (fun b hb=>hb.1) (hS2 gs (fun p hp=>List.mem_append_left _ hp) A.gone),?_,?_,fun b hb=>?_⟩,I.os,I.tape,I.output,I.size,I.block⟩
  · rw [results_run h1];rfl
  · have:=B.xs _ hS1 (fun b hb=>hb.1) (hS2 gs' (fun p hp=>List.mem_append_right _ hp) B.gone)
    rw [hov] at this
    exact this
  · rw [<-List.flatMap_append];exact own_nd I.toInvM _ hodn
  · obtain ⟨k,_,hk⟩:=hown b hb
    exact ⟨(I.lt _ _ hk).2.symm,(I.lt _ _ hk).1⟩
/-- A function's contract by shapes: out of its code, and the evaluator's run of it. -/
theorem sh_ok {P:Program} {cf:Cfg} {f:FuncId} {fn:Func} {c:Code} {ps rl:Lv} {en:Env (den rl.ty × den (outL ps).ty)} {F:den ps.ty->Option (den rl.ty × den (outL ps).ty)} (hf:P.funcs[f]?=some fn) (hname:(fn.name == "runtime.NumGoroutine")=false) (hb:fn.body=some c)
    (hT:∀ t T,cf.ty t=some T->TyOk P cf.ty t T) (hfn:∀ g sp,cf.fn g=some sp->FnOk P g sp) (hfs:∀ g sp,cf.fs g=some sp->ShOk P g sp) (hmp:∀ g p,cf.mp g=some p->MpOk P g p.1 p.2) (hmix:P.follows .mixedOrders=true) (hnt:cf.nt=fn.ntmps) (hpr:cf.prot<=ps.length) (hprm:protB ps cf.prot=true) (hlen:ps.length<=cf.nt) (hent:entSB ps=true)
    (hl:∀ C,C.P=P->CfgOk C cf->LpOk C en c) (hF:∀ x y,F x=some y->evFnS cf ps rl en fn.results.toList c x=some y):ShOk P f ⟨ps,rl,F⟩:=by
  intro w vals x y z bs S hX hnd hS hbs hy
  have O:CfgOk ⟨P,w,bs,vals,cf.prot,cf.nt,fun b=>S b\/w.heap.size<=b\/b ∈ bs⟩ cf:=⟨rfl,rfl,hT,hfn,hfs,hmp⟩
  have hX:XL P ps w S vals x bs:=hX
  have hvl:vals.length=ps.length:=XL_len _ hX
  have hi:idxs 0 ps=true:=by simp only [entSB,Bool.and_eq_true] at hent;exact hent.1.1
  obtain ⟨G,I⟩:=entry_invS (nt:=cf.nt) (pr:=cf.prot) hX hnd hS hbs hent hlen hpr
  intro o a next Q hn
  rw [run_enter hf hname hb,Oper.upon_enter]
  refine calls_of_wp hf hb ?_
  have hev:=hF x (y,z) hy
  unfold evFnS at hev
  rw [<-hnt]
  have last:∀ st' a' w' G',(finS cf fn.results.toList ps rl).go st' [] (fun _ y=>some y)=some (y,z)->Inv ⟨P,w,bs,vals,cf.prot,cf.nt,fun b=>S b\/w.heap.size<=b\/b ∈ bs⟩ st' a' w' G'->∃ v,(results fn a'.tmps).run P w'=.ok v w'/\ShRet P ⟨ps,rl,F⟩ vals y z bs S w v w':=fun st' a' w' G' h I'=>by
    obtain ⟨rd,u,h1,h2⟩:=go_run _ _ h
    simp only [Option.some.injEq] at h2
    subst h2
    exact fin_shape O I' hi hprm hvl ⟨rd,h1⟩
  refine evC_sound O hmix c (hl _ rfl O) hev I (fun st' a' w' G' h I'=>?_) (fun i st' a' w' G' h I'=>by cases h) (fun st' a' w' G' h I'=>?_)
  · obtain ⟨v,k1,k2⟩:=last st' a' w' G' h I'
    exact ⟨I'.df,v,k1,hn v w' k2⟩
  · obtain ⟨v,k1,k2⟩:=last st' a' w' G' h I'
    exact ⟨I'.df,v,k1,hn v w' k2⟩
end
end Go.Proofs.YtmlgfaojfmkdnaaGreatDoor.E
namespace Go.Proofs.YtmlgfaojfmkdnaaGreatDoor.E
open Go Go.RowKit
set_option linter.unusedVariables false
set_option linter.unusedSimpArgs false
/-- An open number stops the computation here (so that the kernel does not open a segment that it need not). -/
def gN {α:Type} (n:Nat) (x:α):α:=match n with
  | 0=>x
  | _ + 1=>x
theorem gN_eq {α:Type} (n:Nat) (x:α):gN n x=x:=by cases n <;> rfl
/-- A loop (its first region, the live slots at its head, the slots that share roots, its plain function) or a segment (the live slots ahead of it and behind it; q: 0, or an open number that locks it). -/
inductive PD (R:Type) where
  | L (id:Nat) (l:Lv) (al:Al) (g:Nat->den l.ty->(Nat->St->Option R)->(St->Option R)->Option R)
  | J (id:Nat) (l ln:Lv) (q:Nat) (g:Nat->den l.ty->(den ln.ty->Option R)->(Nat->St->Option R)->(St->Option R)->Option R)
def lkL {R:Type} (k:Nat):List (PD R)->Nat->Option (LoopS R)
  | [],_=>none
  | .L i l al g :: D,t=>bif Nat.beq i t then some (mkLoopA l al (g k)) else lkL k D t
  | .J _ _ _ _ _ :: D,t=>lkL k D t
def lkS {R:Type} (k:Nat):List (PD R)->Nat->Option (SegS R)
  | [],_=>none
  | .L _ _ _ _ :: D,t=>lkS k D t
  | .J i l ln q g :: D,t=>bif Nat.beq i t then some (mkSeg l ln (g k)) else lkS k D t
def hasL {R:Type}:List (PD R)->Nat->Bool
  | [],_=>false
  | .L i _ _ _ :: D,t=>Nat.beq i t || hasL D t
  | .J _ _ _ _ _ :: D,t=>hasL D t
def hasS {R:Type}:List (PD R)->Nat->Bool
  | [],_=>false
  | .L _ _ _ _ :: D,t=>hasS D t
  | .J i _ _ _ _ :: D,t=>Nat.beq i t || hasS D t
def mkEn {R:Type} (D:List (PD R)) (X:List (Nat × Lv)) (rv:Lv) (k:Nat):Env R:={ L:=lkL k D,X:=lk X,S:=lkS k D,rv:=rv }
/-- The loops' bodies (true) and segments (false) of a code, in its order. -/
def partsA {R:Type} (D:List (PD R)):Code->List (Bool × Code)
  | .seq a b=>partsA D a ++ ((bif hasS D (rid b) then [(false,b)] else []) ++ partsA D b)
  | .cond _ a b=>((bif hasS D (rid a) then [(false,a)] else []) ++ partsA D a) ++ ((bif hasS D (rid b) then [(false,b)] else []) ++ partsA D b)
  | .block _ c=>partsA D c
  | .loop c=>(bif hasL D (rid c) then [(true,c)] else []) ++ partsA D c
  | _=>[]
def nthC:List (Bool × Code)->Nat->Code
  | [],_=>.skip
  | c :: _,0=>c.2
  | _ :: l,n + 1=>nthC l n
/-- The table has just these parts, each name once. -/
def idsB {R:Type}:List (PD R)->List (Bool × Code)->Bool
  | [],[]=>true
  | .L i _ _ _ :: D,(b,c) :: ps=>b && Nat.beq i (rid c) && !hasL D i && idsB D ps
  | .J i _ _ _ _ :: D,(b,c) :: ps=>!b && Nat.beq i (rid c) && !hasS D i && idsB D ps
  | _,_=>false
/-- A part's plain function is one run of the evaluator over its code. -/
def EqOf {R:Type} (cf:Cfg) (en:Nat->Env R):PD R->Code->Prop
  | .L _ l al g,c=>(∀ k x kx kr,g (k + 1) x kx kr=evC cf (en k) c (mkStA l al x) (fun s=>mkLoopA l al (g k) s kx kr) kx kr)/\∀ x kx kr,g 0 x kx kr=none
  | .J _ l ln q g,c=>∀ k x kn kx kr,g k x kn kx kr=gN q (evC cf (en k) c (mkSt l x) (cutK ln kn) kx kr)
def HD {R:Type} (cf:Cfg) (en:Nat->Env R) (ps:List (Bool × Code)):List (PD R)->Nat->Prop
  | [],_=>True
  | .L _ l al g :: D,i=>((∀ k x kx kr,g (k + 1) x kx kr=evC cf (en k) (nthC ps i) (mkStA l al x) (fun s=>mkLoopA l al (g k) s kx kr) kx kr)/\∀ x kx kr,g 0 x kx kr=none)/\HD cf en ps D (i + 1)
  | .J _ l ln q g :: D,i=>(∀ k x kn kx kr,g k x kn kx kr=gN q (evC cf (en k) (nthC ps i) (mkSt l x) (cutK ln kn) kx kr))/\HD cf en ps D (i + 1)
theorem hasL_lk {R:Type} {k t:Nat}:∀ (D:List (PD R)),hasL D t=false->lkL k D t=none
  | [],_=>rfl
  | .L i l al g :: D,h=>by
    simp only [hasL,Bool.or_eq_false_iff] at h
    simp only [lkL,h.1,cond_false]
    exact hasL_lk D h.2
  | .J _ _ _ _ _ :: D,h=>hasL_lk D h
theorem hasS_lk {R:Type} {k t:Nat}:∀ (D:List (PD R)),hasS D t=false->lkS k D t=none
  | [],_=>rfl
  | .J i l al q g :: D,h=>by
    simp only [hasS,Bool.or_eq_false_iff] at h
    simp only [lkS,h.1,cond_false]
    exact hasS_lk D h.2
  | .L _ _ _ _ :: D,h=>hasS_lk D h
theorem nthC_app:∀ (p:List (Bool × Code)) (q:Bool × Code) (r:List (Bool × Code)),nthC (p ++ q :: r) p.length=q.2
  | [],q,r=>rfl
  | a :: p,q,r=>nthC_app p q r
theorem hd_all {R:Type} {cf:Cfg} {en:Nat->Env R} (ps0:List (Bool × Code)):∀ (D:List (PD R)) (pre ps:List (Bool × Code)),ps0=pre ++ ps->HD cf en ps0 D pre.length->idsB D ps=true →
    ∀ p ∈ ps,(p.1=true/\∃ l al g,(∀ k,lkL k D (rid p.2)=some (mkLoopA l al (g k)))/\EqOf cf en (.L 0 l al g) p.2)\/(p.1=false/\∃ l ln q g,(∀ k,lkS k D (rid p.2)=some (mkSeg l ln (g k)))/\EqOf cf en (.J 0 l ln q g) p.2)
  | [],pre,ps,e,h,hi,p,hp=>by
    cases ps with
    | nil=>cases hp
    | cons _ _=>cases hi
  | .L i l al g :: D,pre,[],e,h,hi,p,hp=>by cases hp
  | .J i l ln q g :: D,pre,[],e,h,hi,p,hp=>by cases hp
  | .L i l al g :: D,pre,(b,c) :: ps,e,h,hi,p,hp=>by
    simp only [idsB,Bool.and_eq_true,Bool.not_eq_true'] at hi
    obtain ⟨⟨⟨rfl,hid⟩,hno⟩,hi⟩:=hi
    obtain ⟨h1,h2⟩:=h
    have hid:=Nat.eq_of_beq_eq_true hid
    rcases List.mem_cons.1 hp with rfl | hp
    · refine .inl ⟨rfl,l,al,g,fun k=>?_,?_⟩
      · simp only [lkL,hid,Nat.beq_refl,cond_true]
      · rw [e,nthC_app] at h1;exact h1
    · rcases hd_all ps0 D (pre ++ [(true,c)]) ps (by rw [e];simp) (by simpa using h2) hi p hp with ⟨q,l',al',g',h3,h4⟩ | ⟨q,l',ln',q',g',h3,h4⟩
      · refine .inl ⟨q,l',al',g',fun k=>?_,h4⟩
        cases hb:Nat.beq i (rid p.2)
        · simp only [lkL,hb,cond_false];exact h3 k
        · have hb:=Nat.eq_of_beq_eq_true hb
          rw [<-hb] at h3
          have:=h3 0
          rw [hasL_lk D hno] at this;cases this
      · exact .inr ⟨q,l',ln',q',g',fun k=>h3 k,h4⟩
  | .J i l ln q g :: D,pre,(b,c) :: ps,e,h,hi,p,hp=>by
    simp only [idsB,Bool.and_eq_true,Bool.not_eq_true'] at hi
    obtain ⟨⟨⟨rfl,hid⟩,hno⟩,hi⟩:=hi
    obtain ⟨h1,h2⟩:=h
    have hid:=Nat.eq_of_beq_eq_true hid
    rcases List.mem_cons.1 hp with rfl | hp
    · refine .inr ⟨rfl,l,ln,q,g,fun k=>?_,?_⟩
      · simp only [lkS,hid,Nat.beq_refl,cond_true]
      · rw [e,nthC_app] at h1;exact h1
    · rcases hd_all ps0 D (pre ++ [(false,c)]) ps (by rw [e];simp) (by simpa using h2) hi p hp with ⟨q,l',al',g',h3,h4⟩ | ⟨q,l',ln',q',g',h3,h4⟩
      · exact .inl ⟨q,l',al',g',fun k=>h3 k,h4⟩
      · refine .inr ⟨q,l',ln',q',g',fun k=>?_,h4⟩
        cases hb:Nat.beq i (rid p.2)
        · simp only [lkS,hb,cond_false];exact h3 k
        · have hb:=Nat.eq_of_beq_eq_true hb
          rw [<-hb] at h3
          have:=h3 0
          rw [hasS_lk D hno] at this;cases this
theorem lp_all {C:Cx} {cf:Cfg} {R:Type} {D:List (PD R)} {X:List (Nat × Lv)} {rv:Lv} (O:CfgOk C cf) (hmix:C.P.follows .mixedOrders=true):∀ (c:Code),
    (∀ p ∈ partsA D c,(p.1=true/\∃ l al g,(∀ k,lkL k D (rid p.2)=some (mkLoopA l al (g k)))/\EqOf cf (mkEn D X rv) (.L 0 l al g) p.2)\/(p.1=false/\∃ l ln q g,(∀ k,lkS k D (rid p.2)=some (mkSeg l ln (g k)))/\EqOf cf (mkEn D X rv) (.J 0 l ln q g) p.2))->∀ k,LpOk C (mkEn D X rv k) c:=by
  have sg:∀ (b:Code) (l:List (Bool × Code)),(∀ k,LpOk C (mkEn D X rv k) b)->(∀ p ∈ (bif hasS D (rid b) then [(false,b)] else []) ++ l,(p.1=true/\∃ l al g,(∀ k,lkL k D (rid p.2)=some (mkLoopA l al (g k)))/\EqOf cf (mkEn D X rv) (.L 0 l al g) p.2)\/(p.1=false/\∃ l ln q g,(∀ k,lkS k D (rid p.2)=some (mkSeg l ln (g k)))/\EqOf cf (mkEn D X rv) (.J 0 l ln q g) p.2)) →
      ∀ k,∀ J,(mkEn D X rv k).S (rid b)=some J->SgS C J b:=fun b l hb hp k J hJ=>by
    have hJ:lkS k D (rid b)=some J:=hJ
    cases hh:hasS D (rid b)
    · rw [hasS_lk D hh] at hJ;cases hJ
    · rw [hh] at hp
      rcases hp (false,b) (by simp) with ⟨q,_⟩ | ⟨_,l,ln,q,g,h1,h2⟩
      · cases q
      · have h1:lkS k D (rid b)=_:=h1 k
        rw [h1] at hJ;cases hJ
        exact seg_sound O hmix (fun x kn kx kr=>(h2 k x kn kx kr).trans (gN_eq _ _)) (hb k)
  intro c
  induction c with
  | seq a b iha ihb =>
    intro hp k
    have hb:=ihb fun p hm=>hp p (by simp only [partsA];exact List.mem_append_right _ (List.mem_append_right _ hm))
    exact ⟨iha (fun p hm=>hp p (by simp only [partsA];exact List.mem_append_left _ hm)) k,sg b (partsA D b) hb (fun p hm=>hp p (by simp only [partsA];exact List.mem_append_right _ hm)) k,fun _=>hb k⟩
  | cond t a b iha ihb =>
    intro hp k
    have ha:=iha fun p hm=>hp p (by simp only [partsA];exact List.mem_append_left _ (List.mem_append_right _ hm))
    have hb:=ihb fun p hm=>hp p (by simp only [partsA];exact List.mem_append_right _ (List.mem_append_right _ hm))
    exact ⟨⟨sg a (partsA D a) ha (fun p hm=>hp p (by simp only [partsA];exact List.mem_append_left _ hm)) k,fun _=>ha k⟩,sg b (partsA D b) hb (fun p hm=>hp p (by simp only [partsA];exact List.mem_append_right _ hm)) k,fun _=>hb k⟩
  | block i c ih=>exact fun hp k=>ih hp k
  | loop c ih =>
    intro hp k f hf
    have hf:lkL k D (rid c)=some f:=hf
    have hc:=ih fun p hm=>hp p (by simp only [partsA];exact List.mem_append_right _ hm)
    cases hh:hasL D (rid c)
    · rw [hasL_lk D hh] at hf;cases hf
    · rcases hp (true,c) (by simp [partsA,hh]) with ⟨_,l,al,g,h1,h2⟩ | ⟨q,_⟩
      · have h1:lkL k D (rid c)=_:=h1 k
        rw [h1] at hf;cases hf
        exact loopA_sound O hmix h2.2 h2.1 hc k
      · cases q
  | _=>exact fun _ _=>trivial
/-- A callee with its contract. -/
inductive CB (P:Program) where
  | f (n:Nat) (sp:FnSpec) (h:FnOk P n sp)
  | s (n:Nat) (sp:ShSpec) (h:ShOk P n sp)
  | m (n t:Nat) (g:ByteArray->ByteArray) (h:MpOk P n t g)
def cbF {P:Program}:List (CB P)->Nat->Option FnSpec
  | [],_=>none
  | .f n sp _ :: l,t=>bif Nat.beq n t then some sp else cbF l t
  | .s _ _ _ :: l,t=>cbF l t
  | .m _ _ _ _ :: l,t=>cbF l t
def cbS {P:Program}:List (CB P)->Nat->Option ShSpec
  | [],_=>none
  | .f _ _ _ :: l,t=>cbS l t
  | .s n sp _ :: l,t=>bif Nat.beq n t then some sp else cbS l t
  | .m _ _ _ _ :: l,t=>cbS l t
def cbM {P:Program}:List (CB P)->Nat->Option (Nat × (ByteArray->ByteArray))
  | [],_=>none
  | .f _ _ _ :: l,t=>cbM l t
  | .s _ _ _ :: l,t=>cbM l t
  | .m n u g _ :: l,t=>bif Nat.beq n t then some (u,g) else cbM l t
theorem cbF_ok {P:Program}:∀ (l:List (CB P)) (g:Nat) (sp:FnSpec),cbF l g=some sp->FnOk P g sp
  | [],_,_,h=>by cases h
  | .f n s h' :: l,g,sp,h=>by
    unfold cbF at h
    cases hb:Nat.beq n g
    · rw [hb] at h;exact cbF_ok l g sp h
    · rw [hb] at h
      simp only [cond_true,Option.some.injEq] at h
      have:=Nat.eq_of_beq_eq_true hb
      subst h;subst this;exact h'
  | .s _ _ _ :: l,g,sp,h=>cbF_ok l g sp h
  | .m _ _ _ _ :: l,g,sp,h=>cbF_ok l g sp h
theorem cbS_ok {P:Program}:∀ (l:List (CB P)) (g:Nat) (sp:ShSpec),cbS l g=some sp->ShOk P g sp
  | [],_,_,h=>by cases h
  | .s n s h' :: l,g,sp,h=>by
    unfold cbS at h
    cases hb:Nat.beq n g
    · rw [hb] at h;exact cbS_ok l g sp h
    · rw [hb] at h
      simp only [cond_true,Option.some.injEq] at h
      have:=Nat.eq_of_beq_eq_true hb
      subst h;subst this;exact h'
  | .f _ _ _ :: l,g,sp,h=>cbS_ok l g sp h
  | .m _ _ _ _ :: l,g,sp,h=>cbS_ok l g sp h
theorem cbM_ok {P:Program}:∀ (l:List (CB P)) (g:Nat) (p:Nat × (ByteArray->ByteArray)),cbM l g=some p->MpOk P g p.1 p.2
  | [],_,_,h=>by cases h
  | .m n u f h' :: l,g,sp,h=>by
    unfold cbM at h
    cases hb:Nat.beq n g
    · rw [hb] at h;exact cbM_ok l g sp h
    · rw [hb] at h
      simp only [cond_true,Option.some.injEq] at h
      have:=Nat.eq_of_beq_eq_true hb
      subst h;subst this;exact h'
  | .f _ _ _ :: l,g,sp,h=>cbM_ok l g sp h
  | .s _ _ _ :: l,g,sp,h=>cbM_ok l g sp h
def cfOf {P:Program} (tys:List (Nat × Ty)) (l:List (CB P)) (prot nt:Nat):Cfg:={ ty:=lk tys,fn:=cbF l,fs:=cbS l,mp:=cbM l,prot:=prot,nt:=nt }
def okB {R:Type} (P:Program) (fn:Func) (D:List (PD R)):Bool:=P.follows .mixedOrders && !(fn.name == "runtime.NumGoroutine") && fn.body.isSome && idsB D (partsA D (bodyOf fn))
theorem body_some {fn:Func} (h:fn.body.isSome=true):fn.body=some (bodyOf fn):=by
  unfold bodyOf
  cases hb:fn.body
  · rw [hb] at h;cases h
  · rfl
theorem fn_okD {P:Program} {tys:List (Nat × Ty)} (hT:∀ t T,lk tys t=some T->TyOk P (lk tys) t T) {f:FuncId} {fn:Func} {pas ret:Ty} {mu:List Bool} {F:den pas->Option (den ret)} (l:List (CB P)) (prot:Nat) (D:List (PD (den ret))) (X:List (Nat × Lv)) (rv:Lv) (K:Nat) (hf:P.funcs[f]?=some fn)
    (hB:(okB P fn D && Nat.ble prot pas.len && !((mu.drop prot).any id) && Nat.ble pas.len fn.ntmps && entB pas mu)=true)
    (hH:HD (cfOf tys l prot fn.ntmps) (mkEn D X rv) (partsA D (bodyOf fn)) D 0)
    (hF:∀ x,F x=evFn (cfOf tys l prot fn.ntmps) pas mu ret (mkEn D X rv K) fn.results.toList (bodyOf fn) x):FnOk P f ⟨pas,mu,ret,F⟩:=by
  simp only [okB,Bool.and_eq_true,Bool.not_eq_true'] at hB
  obtain ⟨⟨⟨⟨⟨⟨⟨h1,h2⟩,h3⟩,h4⟩,h5⟩,h6⟩,h7⟩,h8⟩:=hB
  refine fn_ok (cf:=cfOf tys l prot fn.ntmps) (en:=mkEn D X rv K) (c:=bodyOf fn) hf h2 (body_some h3) hT (cbF_ok l) (cbS_ok l) (cbM_ok l) h1 rfl (Nat.le_of_ble_eq_true h5) h6 (Nat.le_of_ble_eq_true h7) h8 (fun C hP O=>?_) (fun x y h=>by rw [<-hF];exact h)
  exact lp_all O (by rw [hP];exact h1) _ (hd_all _ D [] _ rfl hH h4) K
theorem sh_okD {P:Program} {tys:List (Nat × Ty)} (hT:∀ t T,lk tys t=some T->TyOk P (lk tys) t T) {f:FuncId} {fn:Func} {ps rl:Lv} {F:den ps.ty->Option (den rl.ty × den (outL ps).ty)} (l:List (CB P)) (prot:Nat) (D:List (PD (den rl.ty × den (outL ps).ty))) (X:List (Nat × Lv)) (rv:Lv) (K:Nat) (hf:P.funcs[f]?=some fn)
    (hB:(okB P fn D && Nat.ble prot ps.length && protB ps prot && Nat.ble ps.length fn.ntmps && entSB ps)=true)
    (hH:HD (cfOf tys l prot fn.ntmps) (mkEn D X rv) (partsA D (bodyOf fn)) D 0)
    (hF:∀ x,F x=evFnS (cfOf tys l prot fn.ntmps) ps rl (mkEn D X rv K) fn.results.toList (bodyOf fn) x):ShOk P f ⟨ps,rl,F⟩:=by
  simp only [okB,Bool.and_eq_true,Bool.not_eq_true'] at hB
  obtain ⟨⟨⟨⟨⟨⟨⟨h1,h2⟩,h3⟩,h4⟩,h5⟩,h6⟩,h7⟩,h8⟩:=hB
  refine sh_ok (cf:=cfOf tys l prot fn.ntmps) (en:=mkEn D X rv K) (c:=bodyOf fn) hf h2 (body_some h3) hT (cbF_ok l) (cbS_ok l) (cbM_ok l) h1 rfl (Nat.le_of_ble_eq_true h5) h6 (Nat.le_of_ble_eq_true h7) h8 (fun C hP O=>?_) (fun x y h=>by rw [<-hF];exact h)
  exact lp_all O (by rw [hP];exact h1) _ (hd_all _ D [] _ rfl hH h4) K
end Go.Proofs.YtmlgfaojfmkdnaaGreatDoor.E
namespace Go.Proofs.YtmlgfaojfmkdnaaGreatDoor.E
open Go Go.Proofs Go.Proofs.YtmlgfaojfmkdnaaGreatDoor
set_option maxRecDepth 100000
noncomputable abbrev tq0:Ty:=(.st (.pair (.int .i64) (.pair (.int .i64) .unit)))
abbrev dq0:Type:=(Int × Int × Unit)
noncomputable abbrev tq1:Ty:=(.st (.pair (.sl (.int .u8)) (.pair (.int .i64) (.pair (.int .u64) .unit))))
abbrev dq1:Type:=((List Int) × Int × Int × Unit)
noncomputable abbrev tq2:Ty:=(.st (.pair (.sl tq0) (.pair (.int .i64) (.pair (.sl (.int .i64)) .unit))))
abbrev dq2:Type:=((List dq0) × Int × (List Int) × Unit)
noncomputable def tys:List (Nat × Ty):=[(2,(.int .i64)),(3,(.int .i64)),(4,.bool),(5,(.int .u8)),(9,.str),(21,(.int .i32)),(22,(.sl (.int .u8))),(26,(.int .u64)),(27,(.sl tq0)),(30,tq0),(36,(.sl (.int .i64))),(40,tq0),(60,tq1),(61,(.int .u64)),(63,(.ptr tq2)),(74,(.fn (.pair tq0 .unit) .bool)),(97,(.sl (.sl tq0))),(102,tq2),(107,(.arr 5 .bool)),(122,(.sl .str)),(139,tq1),(164,(.int .u32)),(175,(.arr 24 (.int .u8))),(198,(.int .u64)),(213,(.arr 32 (.int .u8)))]
theorem tysOk:∀ t T,lk tys t=some T->TyOk Tryz.prog (lk tys) t T:=tys_ok (by kernel_rfl)
noncomputable def as_s_l04Round:Ty:=(.pair tq0 (.pair (.sl (.int .i64)) (.pair (.sl (.int .i64)) (.pair (.sl (.int .i64)) (.pair (.int .i64) (.pair (.int .i64) .unit))))))
noncomputable def sp_s_l04Round (F:(dq0 × (List Int) × (List Int) × (List Int) × Int × Int × Unit)->Option (Bool × ((List Int) × (List Int) × (List Int) × Unit))):FnSpec:=⟨as_s_l04Round,[false,true,true,true,false,false],(.pair .bool (.pair (.sl (.int .i64)) (.pair (.sl (.int .i64)) (.pair (.sl (.int .i64)) .unit)))),F⟩
end Go.Proofs.YtmlgfaojfmkdnaaGreatDoor.E
namespace Go.Proofs.YtmlgfaojfmkdnaaGreatDoor.E
open Go Go.Proofs Go.Proofs.YtmlgfaojfmkdnaaGreatDoor
set_option maxRecDepth 100000
set_option linter.unusedVariables false
noncomputable def as_slices_IndexFunc_impl_Func:Ty:=(.pair (.sl tq0) (.pair (.fn (.pair tq0 .unit) .bool) .unit))
noncomputable def sp_slices_IndexFunc_impl_Func (F:((List dq0) × ((dq0 × Unit)->Option Bool) × Unit)->Option Int):FnSpec:=⟨as_slices_IndexFunc_impl_Func,[false,false],(.int .i64),F⟩
noncomputable def slices_IndexFunc_impl_Func_l2 {R:Type} (K:Nat):Nat->(List dq0)->((dq0 × Unit)->Option Bool)->Int->Int->(Option R)->(Int->Option R)->Option R
  | 0,_,_,_,_,_,_=>none
  | k + 1,v0,v1,v7,v8,kx0,kr =>
    (if (decide (v8 < v7))=true then
    (if (bnds v8 (v0.length:Int))=true then
    (v1 ((v0.getD v8.toNat ((0:Int),(0:Int),())),())).bind fun y1 =>
    (if y1=true then
    kr v8
    else
    slices_IndexFunc_impl_Func_l2 K k v0 v1 v7 (IntKind.i64.wrap (v8 + (1:Int))) kx0 kr)
    else
    none)
    else
    kx0)
noncomputable def slices_IndexFunc_impl_Func (K:Nat) (x:((List dq0) × ((dq0 × Unit)->Option Bool) × Unit)):Option Int :=
    slices_IndexFunc_impl_Func_l2 K K x.1 x.2.1 (x.1.length:Int) (0:Int) (some (-1:Int)) (fun z2 =>
    some z2)
noncomputable def X0_slices_IndexFunc_impl_Func:Lv:=[]
noncomputable def rv_slices_IndexFunc_impl_Func:Lv:=[(4,(.v (.int .i64)))]
noncomputable def D_slices_IndexFunc_impl_Func (K:Nat):List (PD (den (.int .i64))):=[.L 2 [(0,(.v (.sl tq0))),(1,(.v (.fn (.pair tq0 .unit) .bool))),(7,(.v (.int .i64))),(8,(.v (.int .i64)))] [] (fun k x kx kr=>slices_IndexFunc_impl_Func_l2 K k x.1 x.2.1 x.2.2.1 x.2.2.2.1 (kx 0 (mkSt X0_slices_IndexFunc_impl_Func ())) (fun z0=>kr (mkSt rv_slices_IndexFunc_impl_Func (z0,()))))]
theorem ok_slices_IndexFunc_impl_Func (K:Nat):FnOk Tryz.prog 75 (sp_slices_IndexFunc_impl_Func (slices_IndexFunc_impl_Func K)) :=
  fn_okD tysOk [] 0 (D_slices_IndexFunc_impl_Func K) [(0,X0_slices_IndexFunc_impl_Func)] rv_slices_IndexFunc_impl_Func K Tryz.func75 (by kernel_rfl) ⟨⟨fun _ _ _ _=>by kernel_rfl,fun _ _ _=>rfl⟩,trivial⟩ (fun _=>by kernel_rfl)
noncomputable def C_slices_IndexFunc_impl_Func (K:Nat):CB Tryz.prog:=.f _ _ (ok_slices_IndexFunc_impl_Func K)
noncomputable def as_slices_ContainsFunc_impl_Func:Ty:=(.pair (.sl tq0) (.pair (.fn (.pair tq0 .unit) .bool) .unit))
noncomputable def sp_slices_ContainsFunc_impl_Func (F:((List dq0) × ((dq0 × Unit)->Option Bool) × Unit)->Option Bool):FnSpec:=⟨as_slices_ContainsFunc_impl_Func,[false,false],.bool,F⟩
noncomputable def slices_ContainsFunc_impl_Func (K:Nat) (x:((List dq0) × ((dq0 × Unit)->Option Bool) × Unit)):Option Bool :=
    (slices_IndexFunc_impl_Func K (x.1,x.2.1,())).bind fun y1 =>
    some (decide (y1 ≥ (0:Int)))
noncomputable def rv_slices_ContainsFunc_impl_Func:Lv:=[(4,(.v .bool))]
theorem ok_slices_ContainsFunc_impl_Func (K:Nat):FnOk Tryz.prog 84 (sp_slices_ContainsFunc_impl_Func (slices_ContainsFunc_impl_Func K)) :=
  fn_okD tysOk [C_slices_IndexFunc_impl_Func K] 0 [] [] rv_slices_ContainsFunc_impl_Func K Tryz.func84 (by kernel_rfl) trivial (fun _=>by kernel_rfl)
noncomputable def C_slices_ContainsFunc_impl_Func (K:Nat):CB Tryz.prog:=.f _ _ (ok_slices_ContainsFunc_impl_Func K)
noncomputable def as_i_within:Ty:=(.pair (.int .i64) (.pair (.int .i64) (.pair (.int .i64) .unit)))
noncomputable def sp_i_within (F:(Int × Int × Int × Unit)->Option Bool):FnSpec:=⟨as_i_within,[false,false,false],.bool,F⟩
noncomputable def i_within (K:Nat) (x:(Int × Int × Int × Unit)):Option Bool :=
    (if (decide (x.1 ≥ x.2.1))=true then
    some (decide (x.1<=x.2.2.1))
    else
    some false)
noncomputable def rv_i_within:Lv:=[(6,(.v .bool))]
theorem ok_i_within (K:Nat):FnOk Tryz.prog 65 (sp_i_within (i_within K)) :=
  fn_okD tysOk [] 0 [] [] rv_i_within K Tryz.func65 (by kernel_rfl) trivial (fun _=>by kernel_rfl)
noncomputable def C_i_within (K:Nat):CB Tryz.prog:=.f _ _ (ok_i_within K)
noncomputable def as_i_rowsOf:Ty:=(.pair (.int .i64) .unit)
noncomputable def sp_i_rowsOf (F:(Int × Unit)->Option Int):FnSpec:=⟨as_i_rowsOf,[false],(.int .i64),F⟩
noncomputable def i_rowsOf (K:Nat) (x:(Int × Unit)):Option Int :=
    (if (decide ((0:Int)<=x.1))=true then
    some (shlI .i64 (1:Int) x.1)
    else
    none)
noncomputable def rv_i_rowsOf:Lv:=[(2,(.v (.int .i64)))]
theorem ok_i_rowsOf (K:Nat):FnOk Tryz.prog 158 (sp_i_rowsOf (i_rowsOf K)) :=
  fn_okD tysOk [] 0 [] [] rv_i_rowsOf K Tryz.func158 (by kernel_rfl) trivial (fun _=>by kernel_rfl)
noncomputable def C_i_rowsOf (K:Nat):CB Tryz.prog:=.f _ _ (ok_i_rowsOf K)
noncomputable def as_i_funcsOf:Ty:=(.pair (.int .i64) .unit)
noncomputable def sp_i_funcsOf (F:(Int × Unit)->Option Int):FnSpec:=⟨as_i_funcsOf,[false],(.int .i64),F⟩
noncomputable def i_funcsOf (K:Nat) (x:(Int × Unit)):Option Int :=
    (i_rowsOf K (x.1,())).bind fun y1 =>
    (if (decide ((0:Int)<=y1))=true then
    some (shlI .i64 (1:Int) y1)
    else
    none)
noncomputable def rv_i_funcsOf:Lv:=[(2,(.v (.int .i64)))]
theorem ok_i_funcsOf (K:Nat):FnOk Tryz.prog 87 (sp_i_funcsOf (i_funcsOf K)) :=
  fn_okD tysOk [C_i_rowsOf K] 0 [] [] rv_i_funcsOf K Tryz.func87 (by kernel_rfl) trivial (fun _=>by kernel_rfl)
noncomputable def C_i_funcsOf (K:Nat):CB Tryz.prog:=.f _ _ (ok_i_funcsOf K)
noncomputable def as_i_isArity:Ty:=(.pair (.int .i64) .unit)
noncomputable def sp_i_isArity (F:(Int × Unit)->Option Bool):FnSpec:=⟨as_i_isArity,[false],.bool,F⟩
noncomputable def i_isArity (K:Nat) (x:(Int × Unit)):Option Bool :=
    (i_within K (x.1,(0:Int),(4:Int),())).bind fun y1 =>
    some y1
noncomputable def rv_i_isArity:Lv:=[(2,(.v .bool))]
theorem ok_i_isArity (K:Nat):FnOk Tryz.prog 114 (sp_i_isArity (i_isArity K)) :=
  fn_okD tysOk [C_i_within K] 0 [] [] rv_i_isArity K Tryz.func114 (by kernel_rfl) trivial (fun _=>by kernel_rfl)
noncomputable def C_i_isArity (K:Nat):CB Tryz.prog:=.f _ _ (ok_i_isArity K)
noncomputable def as_i_IsFunc:Ty:=(.pair tq0 .unit)
noncomputable def sp_i_IsFunc (F:(dq0 × Unit)->Option Bool):FnSpec:=⟨as_i_IsFunc,[false],.bool,F⟩
noncomputable def i_IsFunc (K:Nat) (x:(dq0 × Unit)):Option Bool :=
    (i_isArity K (x.1.1,())).bind fun y1 =>
    (if y1=true then
    (i_funcsOf K (x.1.1,())).bind fun y2 =>
    (i_within K (x.1.2.1,(0:Int),(IntKind.i64.wrap (y2 - (1:Int))),())).bind fun y3 =>
    some y3
    else
    some false)
noncomputable def rv_i_IsFunc:Lv:=[(2,(.v .bool))]
theorem ok_i_IsFunc (K:Nat):FnOk Tryz.prog 48 (sp_i_IsFunc (i_IsFunc K)) :=
  fn_okD tysOk [C_i_within K,C_i_funcsOf K,C_i_isArity K] 0 [] [] rv_i_IsFunc K Tryz.func48 (by kernel_rfl) trivial (fun _=>by kernel_rfl)
noncomputable def C_i_IsFunc (K:Nat):CB Tryz.prog:=.f _ _ (ok_i_IsFunc K)
noncomputable def as_i_areFuncs_c1:Ty:=(.pair tq0 .unit)
noncomputable def sp_i_areFuncs_c1 (F:(dq0 × Unit)->Option Bool):FnSpec:=⟨as_i_areFuncs_c1,[false],.bool,F⟩
noncomputable def i_areFuncs_c1 (K:Nat) (x:(dq0 × Unit)):Option Bool :=
    (i_IsFunc K (x.1,())).bind fun y1 =>
    some (!y1)
noncomputable def rv_i_areFuncs_c1:Lv:=[(2,(.v .bool))]
theorem ok_i_areFuncs_c1 (K:Nat):FnOk Tryz.prog 110 (sp_i_areFuncs_c1 (i_areFuncs_c1 K)) :=
  fn_okD tysOk [C_i_IsFunc K] 0 [] [] rv_i_areFuncs_c1 K Tryz.func110 (by kernel_rfl) trivial (fun _=>by kernel_rfl)
noncomputable def C_i_areFuncs_c1 (K:Nat):CB Tryz.prog:=.f _ _ (ok_i_areFuncs_c1 K)
noncomputable def as_i_areFuncs:Ty:=(.pair (.sl tq0) .unit)
noncomputable def sp_i_areFuncs (F:((List dq0) × Unit)->Option Bool):FnSpec:=⟨as_i_areFuncs,[false],.bool,F⟩
noncomputable def i_areFuncs (K:Nat) (x:((List dq0) × Unit)):Option Bool :=
    (slices_ContainsFunc_impl_Func K (x.1,(fun y2=>i_areFuncs_c1 K (y2.1,())),())).bind fun y1 =>
    some (!y1)
noncomputable def rv_i_areFuncs:Lv:=[(2,(.v .bool))]
theorem ok_i_areFuncs (K:Nat):FnOk Tryz.prog 45 (sp_i_areFuncs (i_areFuncs K)) :=
  fn_okD tysOk [C_slices_ContainsFunc_impl_Func K,C_i_areFuncs_c1 K] 0 [] [] rv_i_areFuncs K Tryz.func45 (by kernel_rfl) trivial (fun _=>by kernel_rfl)
noncomputable def C_i_areFuncs (K:Nat):CB Tryz.prog:=.f _ _ (ok_i_areFuncs K)
noncomputable def as_i_bit:Ty:=(.pair (.int .i64) (.pair (.int .i64) .unit))
noncomputable def sp_i_bit (F:(Int × Int × Unit)->Option Int):FnSpec:=⟨as_i_bit,[false,false],(.int .i64),F⟩
noncomputable def i_bit (K:Nat) (x:(Int × Int × Unit)):Option Int :=
    (if (decide ((0:Int)<=x.2.1))=true then
    some (bitI .and .i64 (shrI .i64 x.1 x.2.1) (1:Int))
    else
    none)
noncomputable def rv_i_bit:Lv:=[(4,(.v (.int .i64)))]
theorem ok_i_bit (K:Nat):FnOk Tryz.prog 130 (sp_i_bit (i_bit K)) :=
  fn_okD tysOk [] 0 [] [] rv_i_bit K Tryz.func130 (by kernel_rfl) trivial (fun _=>by kernel_rfl)
noncomputable def C_i_bit (K:Nat):CB Tryz.prog:=.f _ _ (ok_i_bit K)
noncomputable def as_i_Func_at:Ty:=(.pair tq0 (.pair (.int .i64) .unit))
noncomputable def sp_i_Func_at (F:(dq0 × Int × Unit)->Option Int):FnSpec:=⟨as_i_Func_at,[false,false],(.int .i64),F⟩
noncomputable def i_Func_at (K:Nat) (x:(dq0 × Int × Unit)):Option Int :=
    (i_bit K (x.1.2.1,x.2.1,())).bind fun y1 =>
    some y1
noncomputable def rv_i_Func_at:Lv:=[(4,(.v (.int .i64)))]
theorem ok_i_Func_at (K:Nat):FnOk Tryz.prog 127 (sp_i_Func_at (i_Func_at K)) :=
  fn_okD tysOk [C_i_bit K] 0 [] [] rv_i_Func_at K Tryz.func127 (by kernel_rfl) trivial (fun _=>by kernel_rfl)
noncomputable def C_i_Func_at (K:Nat):CB Tryz.prog:=.f _ _ (ok_i_Func_at K)
noncomputable def as_i_commute:Ty:=(.pair tq0 (.pair tq0 .unit))
noncomputable def sp_i_commute (F:(dq0 × dq0 × Unit)->Option Bool):FnSpec:=⟨as_i_commute,[false,false],.bool,F⟩
noncomputable def i_commute_l7 {R:Type} (K:Nat):Nat->dq0->dq0->Int->Int->Int->Int->Int->Int->Int->Int->Int->(dq0->dq0->Int->Int->Int->Int->Int->Int->Int->Option R)->Option R
  | 0,_,_,_,_,_,_,_,_,_,_,_,_=>none
  | k + 1,v2,v3,v5,v6,v7,v8,v9,v21,v22,v25,v26,kx2 =>
    (if (decide (v26 < v25))=true then
    (if (decide ((0:Int)<=(IntKind.i64.wrap (v26 * v6))))=true then
    (if (decide ((0:Int)<=v6))=true then
    let x1:=(bitI .and .i64 (shrI .i64 v7 (IntKind.i64.wrap (v26 * v6))) (IntKind.i64.wrap ((shlI .i64 (1:Int) v6) - (1:Int))))
    (i_Func_at K (v3,x1,())).bind fun y2 =>
    (if (decide ((0:Int)<=v26))=true then
    i_commute_l7 K k v2 v3 v5 v6 v7 (bitI .or .i64 v8 (shlI .i64 y2 v26)) v9 v21 v22 v25 (IntKind.i64.wrap (v26 + (1:Int))) kx2
    else
    none)
    else
    none)
    else
    none)
    else
    kx2 v2 v3 v5 v6 v7 v8 v9 v21 v22)
noncomputable def i_commute_l16 {R:Type} (K:Nat):Nat->dq0->dq0->Int->Int->Int->Int->Int->Int->Int->Int->Int->Int->Int->Int->Int->(dq0->dq0->Int->Int->Int->Int->Int->Int->Int->Int->Int->Int->Int->Option R)->Option R
  | 0,_,_,_,_,_,_,_,_,_,_,_,_,_,_,_,_=>none
  | k + 1,v2,v3,v5,v6,v7,v8,v9,v11,v12,v21,v22,v45,v46,v49,v50,kx6 =>
    (if (decide (v50 < v49))=true then
    (i_bit K (v7,(IntKind.i64.wrap ((IntKind.i64.wrap (v50 * v6)) + v11)),())).bind fun y12 =>
    (if (decide ((0:Int)<=v50))=true then
    i_commute_l16 K k v2 v3 v5 v6 v7 v8 v9 v11 (bitI .or .i64 v12 (shlI .i64 y12 v50)) v21 v22 v45 v46 v49 (IntKind.i64.wrap (v50 + (1:Int))) kx6
    else
    none)
    else
    kx6 v2 v3 v5 v6 v7 v8 v9 v11 v12 v21 v22 v45 v46)
noncomputable def i_commute_l12 {R:Type} (K:Nat):Nat->dq0->dq0->Int->Int->Int->Int->Int->Int->Int->Int->Int->(dq0->dq0->Int->Int->Int->Int->Int->Int->Option R)->Option R
  | 0,_,_,_,_,_,_,_,_,_,_,_,_=>none
  | k + 1,v2,v3,v5,v6,v7,v8,v9,v21,v22,v45,v46,kx4 =>
    (if (decide (v46 < v45))=true then
    i_commute_l16 K k v2 v3 v5 v6 v7 v8 v9 v46 (0:Int) v21 v22 v45 v46 v5 (0:Int) (fun z13 z14 z15 z16 z17 z18 z19 z20 z21 z22 z23 z24 z25 =>
    (i_Func_at K (z13,z21,())).bind fun y26 =>
    (if (decide ((0:Int)<=z20))=true then
    i_commute_l12 K k z13 z14 z15 z16 z17 z18 (bitI .or .i64 z19 (shlI .i64 y26 z20)) z22 z23 z24 (IntKind.i64.wrap (z25 + (1:Int))) kx4
    else
    none))
    else
    kx4 v2 v3 v5 v6 v8 v9 v21 v22)
noncomputable def i_commute_l3 {R:Type} (K:Nat):Nat->dq0->dq0->Int->Int->Int->Int->(Option R)->(Bool->Option R)->Option R
  | 0,_,_,_,_,_,_,_,_=>none
  | k + 1,v2,v3,v5,v6,v21,v22,kx0,kr =>
    (if (decide (v22 < v21))=true then
    i_commute_l7 K k v2 v3 v5 v6 v22 (0:Int) (0:Int) v21 v22 v5 (0:Int) (fun z3 z4 z5 z6 z7 z8 z9 z10 z11 =>
    i_commute_l12 K k z3 z4 z5 z6 z7 z8 z9 z10 z11 z6 (0:Int) (fun z27 z28 z29 z30 z31 z32 z33 z34 =>
    (i_Func_at K (z27,z31,())).bind fun y35 =>
    (i_Func_at K (z28,z32,())).bind fun y36 =>
    (if (!decide (y35=y36))=true then
    kr false
    else
    i_commute_l3 K k z27 z28 z29 z30 z33 (IntKind.i64.wrap (z34 + (1:Int))) kx0 kr)))
    else
    kx0)
noncomputable def i_commute (K:Nat) (x:(dq0 × dq0 × Unit)):Option Bool :=
    (if (decide ((0:Int)<=(IntKind.i64.wrap (x.1.1 * x.2.1.1))))=true then
    i_commute_l3 K K x.1 x.2.1 x.1.1 x.2.1.1 (shlI .i64 (1:Int) (IntKind.i64.wrap (x.1.1 * x.2.1.1))) (0:Int) (some true) (fun z37 =>
    some z37)
    else
    none)
noncomputable def X0_i_commute:Lv:=[]
noncomputable def X2_i_commute:Lv:=[(2,(.bx (.v tq0))),(3,(.bx (.v tq0))),(5,(.v (.int .i64))),(6,(.v (.int .i64))),(7,(.v (.int .i64))),(8,(.v (.int .i64))),(9,(.v (.int .i64))),(21,(.v (.int .i64))),(22,(.v (.int .i64)))]
noncomputable def X4_i_commute:Lv:=[(2,(.bx (.v tq0))),(3,(.bx (.v tq0))),(5,(.v (.int .i64))),(6,(.v (.int .i64))),(8,(.v (.int .i64))),(9,(.v (.int .i64))),(21,(.v (.int .i64))),(22,(.v (.int .i64)))]
noncomputable def X6_i_commute:Lv:=[(2,(.bx (.v tq0))),(3,(.bx (.v tq0))),(5,(.v (.int .i64))),(6,(.v (.int .i64))),(7,(.v (.int .i64))),(8,(.v (.int .i64))),(9,(.v (.int .i64))),(11,(.v (.int .i64))),(12,(.v (.int .i64))),(21,(.v (.int .i64))),(22,(.v (.int .i64))),(45,(.v (.int .i64))),(46,(.v (.int .i64)))]
noncomputable def rv_i_commute:Lv:=[(4,(.v .bool))]
noncomputable def D_i_commute (K:Nat):List (PD (den .bool)):=[.L 3 [(2,(.bx (.v tq0))),(3,(.bx (.v tq0))),(5,(.v (.int .i64))),(6,(.v (.int .i64))),(21,(.v (.int .i64))),(22,(.v (.int .i64)))] [] (fun k x kx kr=>i_commute_l3 K k x.1 x.2.1 x.2.2.1 x.2.2.2.1 x.2.2.2.2.1 x.2.2.2.2.2.1 (kx 0 (mkSt X0_i_commute ())) (fun z0=>kr (mkSt rv_i_commute (z0,())))),
  .L 7 [(2,(.bx (.v tq0))),(3,(.bx (.v tq0))),(5,(.v (.int .i64))),(6,(.v (.int .i64))),(7,(.v (.int .i64))),(8,(.v (.int .i64))),(9,(.v (.int .i64))),(21,(.v (.int .i64))),(22,(.v (.int .i64))),(25,(.v (.int .i64))),(26,(.v (.int .i64)))] [] (fun k x kx kr=>i_commute_l7 K k x.1 x.2.1 x.2.2.1 x.2.2.2.1 x.2.2.2.2.1 x.2.2.2.2.2.1 x.2.2.2.2.2.2.1 x.2.2.2.2.2.2.2.1 x.2.2.2.2.2.2.2.2.1 x.2.2.2.2.2.2.2.2.2.1 x.2.2.2.2.2.2.2.2.2.2.1 (fun z0 z1 z2 z3 z4 z5 z6 z7 z8=>kx 2 (mkSt X2_i_commute (z0,z1,z2,z3,z4,z5,z6,z7,z8,())))),
  .L 12 [(2,(.bx (.v tq0))),(3,(.bx (.v tq0))),(5,(.v (.int .i64))),(6,(.v (.int .i64))),(7,(.v (.int .i64))),(8,(.v (.int .i64))),(9,(.v (.int .i64))),(21,(.v (.int .i64))),(22,(.v (.int .i64))),(45,(.v (.int .i64))),(46,(.v (.int .i64)))] [] (fun k x kx kr=>i_commute_l12 K k x.1 x.2.1 x.2.2.1 x.2.2.2.1 x.2.2.2.2.1 x.2.2.2.2.2.1 x.2.2.2.2.2.2.1 x.2.2.2.2.2.2.2.1 x.2.2.2.2.2.2.2.2.1 x.2.2.2.2.2.2.2.2.2.1 x.2.2.2.2.2.2.2.2.2.2.1 (fun z0 z1 z2 z3 z4 z5 z6 z7=>kx 4 (mkSt X4_i_commute (z0,z1,z2,z3,z4,z5,z6,z7,())))),
  .L 16 [(2,(.bx (.v tq0))),(3,(.bx (.v tq0))),(5,(.v (.int .i64))),(6,(.v (.int .i64))),(7,(.v (.int .i64))),(8,(.v (.int .i64))),(9,(.v (.int .i64))),(11,(.v (.int .i64))),(12,(.v (.int .i64))),(21,(.v (.int .i64))),(22,(.v (.int .i64))),(45,(.v (.int .i64))),(46,(.v (.int .i64))),(49,(.v (.int .i64))),(50,(.v (.int .i64)))] [] (fun k x kx kr=>i_commute_l16 K k x.1 x.2.1 x.2.2.1 x.2.2.2.1 x.2.2.2.2.1 x.2.2.2.2.2.1 x.2.2.2.2.2.2.1 x.2.2.2.2.2.2.2.1 x.2.2.2.2.2.2.2.2.1 x.2.2.2.2.2.2.2.2.2.1 x.2.2.2.2.2.2.2.2.2.2.1 x.2.2.2.2.2.2.2.2.2.2.2.1 x.2.2.2.2.2.2.2.2.2.2.2.2.1 x.2.2.2.2.2.2.2.2.2.2.2.2.2.1 x.2.2.2.2.2.2.2.2.2.2.2.2.2.2.1 (fun z0 z1 z2 z3 z4 z5 z6 z7 z8 z9 z10 z11 z12=>kx 6 (mkSt X6_i_commute (z0,z1,z2,z3,z4,z5,z6,z7,z8,z9,z10,z11,z12,()))))]
theorem ok_i_commute (K:Nat):FnOk Tryz.prog 60 (sp_i_commute (i_commute K)) :=
  fn_okD tysOk [C_i_Func_at K,C_i_bit K] 0 (D_i_commute K) [(0,X0_i_commute),(2,X2_i_commute),(4,X4_i_commute),(6,X6_i_commute)] rv_i_commute K Tryz.func60 (by kernel_rfl) ⟨⟨fun _ _ _ _=>by kernel_rfl,fun _ _ _=>rfl⟩,⟨⟨fun _ _ _ _=>by kernel_rfl,fun _ _ _=>rfl⟩,⟨⟨fun _ _ _ _=>by kernel_rfl,fun _ _ _=>rfl⟩,⟨⟨fun _ _ _ _=>by kernel_rfl,fun _ _ _=>rfl⟩,trivial⟩⟩⟩⟩ (fun _=>by kernel_rfl)
noncomputable def C_i_commute (K:Nat):CB Tryz.prog:=.f _ _ (ok_i_commute K)
noncomputable def as_i_AreCommuting:Ty:=(.pair tq0 (.pair tq0 .unit))
noncomputable def sp_i_AreCommuting (F:(dq0 × dq0 × Unit)->Option (Bool × Int × Unit)):FnSpec:=⟨as_i_AreCommuting,[false,false],(.tup (.pair .bool (.pair (.int .i64) .unit))),F⟩
noncomputable def i_AreCommuting (K:Nat) (x:(dq0 × dq0 × Unit)):Option (Bool × Int × Unit) :=
    let l1:=[x.1,x.2.1]
    (i_areFuncs K (l1,())).bind fun y2 =>
    (if (!y2)=true then
    some (false,(1:Int),())
    else
    (i_commute K (x.1,x.2.1,())).bind fun y3 =>
    some (y3,(0:Int),()))
noncomputable def rv_i_AreCommuting:Lv:=[(4,(.v .bool)),(5,(.v (.int .i64)))]
theorem ok_i_AreCommuting (K:Nat):FnOk Tryz.prog 21 (sp_i_AreCommuting (i_AreCommuting K)) :=
  fn_okD tysOk [C_i_areFuncs K,C_i_commute K] 0 [] [] rv_i_AreCommuting K Tryz.func21 (by kernel_rfl) trivial (fun _=>by kernel_rfl)
noncomputable def C_i_AreCommuting (K:Nat):CB Tryz.prog:=.f _ _ (ok_i_AreCommuting K)
noncomputable def as_i_listCode:Ty:=(.pair (.sl tq0) .unit)
noncomputable def sp_i_listCode (F:((List dq0) × Unit)->Option Int):FnSpec:=⟨as_i_listCode,[false],(.int .i64),F⟩
noncomputable def i_listCode (K:Nat) (x:((List dq0) × Unit)):Option Int :=
    (i_areFuncs K (x.1,())).bind fun y1 =>
    (if (!y1)=true then
    some (1:Int)
    else
    (if (decide ((x.1.length:Int) > (8:Int)))=true then
    some (2:Int)
    else
    some (0:Int)))
noncomputable def rv_i_listCode:Lv:=[(2,(.v (.int .i64)))]
theorem ok_i_listCode (K:Nat):FnOk Tryz.prog 40 (sp_i_listCode (i_listCode K)) :=
  fn_okD tysOk [C_i_areFuncs K] 0 [] [] rv_i_listCode K Tryz.func40 (by kernel_rfl) trivial (fun _=>by kernel_rfl)
noncomputable def C_i_listCode (K:Nat):CB Tryz.prog:=.f _ _ (ok_i_listCode K)
noncomputable def as_i_funcsThat:Ty:=(.pair (.int .i64) (.pair (.fn (.pair tq0 .unit) .bool) .unit))
noncomputable def sp_i_funcsThat (F:(Int × ((dq0 × Unit)->Option Bool) × Unit)->Option (List dq0)):FnSpec:=⟨as_i_funcsThat,[false,false],(.sl tq0),F⟩
noncomputable def i_funcsThat_l3 {R:Type} (K:Nat):Nat->Int->((dq0 × Unit)->Option Bool)->(List dq0)->Int->Int->((List dq0)->Option R)->Option R
  | 0,_,_,_,_,_,_=>none
  | k + 1,v0,v1,v5,v9,v10,kx0 =>
    (if (decide (v10 < v9))=true then
    (v1 (((v0,((0:Int),(0:Int),()).2.1,()).1,v10,()),())).bind fun y2 =>
    (if y2=true then
    let l3:=[((v0,((0:Int),(0:Int),()).2.1,()).1,v10,())]
    (if (decide (v5.length + l3.length<=lim))=true then
    let l4:=(v5 ++ l3)
    i_funcsThat_l3 K k v0 v1 l4 v9 (IntKind.i64.wrap (v10 + (1:Int))) kx0
    else
    none)
    else
    i_funcsThat_l3 K k v0 v1 v5 v9 (IntKind.i64.wrap (v10 + (1:Int))) kx0)
    else
    kx0 v5)
noncomputable def i_funcsThat (K:Nat) (x:(Int × ((dq0 × Unit)->Option Bool) × Unit)):Option (List dq0) :=
    (i_funcsOf K (x.1,())).bind fun y1 =>
    i_funcsThat_l3 K K x.1 x.2.1 ([]:List dq0) y1 (0:Int) (fun z5 =>
    some z5)
noncomputable def X0_i_funcsThat:Lv:=[(5,(.r tq0))]
noncomputable def rv_i_funcsThat:Lv:=[(4,(.r tq0))]
noncomputable def D_i_funcsThat (K:Nat):List (PD (den (.sl tq0))):=[.L 3 [(0,(.v (.int .i64))),(1,(.v (.fn (.pair tq0 .unit) .bool))),(5,(.r tq0)),(9,(.v (.int .i64))),(10,(.v (.int .i64)))] [] (fun k x kx kr=>i_funcsThat_l3 K k x.1 x.2.1 x.2.2.1 x.2.2.2.1 x.2.2.2.2.1 (fun z0=>kx 0 (mkSt X0_i_funcsThat (z0,()))))]
theorem ok_i_funcsThat (K:Nat):FnOk Tryz.prog 66 (sp_i_funcsThat (i_funcsThat K)) :=
  fn_okD tysOk [C_i_funcsOf K] 0 (D_i_funcsThat K) [(0,X0_i_funcsThat)] rv_i_funcsThat K Tryz.func66 (by kernel_rfl) ⟨⟨fun _ _ _ _=>by kernel_rfl,fun _ _ _=>rfl⟩,trivial⟩ (fun _=>by kernel_rfl)
noncomputable def C_i_funcsThat (K:Nat):CB Tryz.prog:=.f _ _ (ok_i_funcsThat K)
noncomputable def as_i_allAre_c1:Ty:=(.pair tq0 (.pair (.ptr (.fn (.pair tq0 .unit) .bool)) .unit))
noncomputable def sp_i_allAre_c1 (F:(dq0 × ((dq0 × Unit)->Option Bool) × Unit)->Option Bool):FnSpec:=⟨as_i_allAre_c1,[false,false],.bool,F⟩
noncomputable def i_allAre_c1 (K:Nat) (x:(dq0 × ((dq0 × Unit)->Option Bool) × Unit)):Option Bool :=
    (x.2.1 (x.1,())).bind fun y1 =>
    some (!y1)
noncomputable def rv_i_allAre_c1:Lv:=[(3,(.v .bool))]
theorem ok_i_allAre_c1 (K:Nat):FnOk Tryz.prog 144 (sp_i_allAre_c1 (i_allAre_c1 K)) :=
  fn_okD tysOk [] 0 [] [] rv_i_allAre_c1 K Tryz.func144 (by kernel_rfl) trivial (fun _=>by kernel_rfl)
noncomputable def C_i_allAre_c1 (K:Nat):CB Tryz.prog:=.f _ _ (ok_i_allAre_c1 K)
noncomputable def as_i_allAre:Ty:=(.pair (.sl tq0) (.pair (.fn (.pair tq0 .unit) .bool) .unit))
noncomputable def sp_i_allAre (F:((List dq0) × ((dq0 × Unit)->Option Bool) × Unit)->Option Bool):FnSpec:=⟨as_i_allAre,[false,false],.bool,F⟩
noncomputable def i_allAre (K:Nat) (x:((List dq0) × ((dq0 × Unit)->Option Bool) × Unit)):Option Bool :=
    (slices_ContainsFunc_impl_Func K (x.1,(fun y2=>i_allAre_c1 K (y2.1,x.2.1,())),())).bind fun y1 =>
    some (!y1)
noncomputable def rv_i_allAre:Lv:=[(4,(.v .bool))]
theorem ok_i_allAre (K:Nat):FnOk Tryz.prog 68 (sp_i_allAre (i_allAre K)) :=
  fn_okD tysOk [C_slices_ContainsFunc_impl_Func K,C_i_allAre_c1 K] 0 [] [] rv_i_allAre K Tryz.func68 (by kernel_rfl) trivial (fun _=>by kernel_rfl)
noncomputable def C_i_allAre (K:Nat):CB Tryz.prog:=.f _ _ (ok_i_allAre K)
noncomputable def as_i_CentraliserOf_c1_c1:Ty:=(.pair tq0 (.pair (.ptr tq0) .unit))
noncomputable def sp_i_CentraliserOf_c1_c1 (F:(dq0 × dq0 × Unit)->Option Bool):FnSpec:=⟨as_i_CentraliserOf_c1_c1,[false,false],.bool,F⟩
noncomputable def i_CentraliserOf_c1_c1 (K:Nat) (x:(dq0 × dq0 × Unit)):Option Bool :=
    (i_commute K (x.2.1,x.1,())).bind fun y1 =>
    some y1
noncomputable def rv_i_CentraliserOf_c1_c1:Lv:=[(3,(.v .bool))]
theorem ok_i_CentraliserOf_c1_c1 (K:Nat):FnOk Tryz.prog 69 (sp_i_CentraliserOf_c1_c1 (i_CentraliserOf_c1_c1 K)) :=
  fn_okD tysOk [C_i_commute K] 0 [] [] rv_i_CentraliserOf_c1_c1 K Tryz.func69 (by kernel_rfl) trivial (fun _=>by kernel_rfl)
noncomputable def C_i_CentraliserOf_c1_c1 (K:Nat):CB Tryz.prog:=.f _ _ (ok_i_CentraliserOf_c1_c1 K)
noncomputable def as_i_CentraliserOf_c1:Ty:=(.pair tq0 (.pair (.ptr (.sl tq0)) .unit))
noncomputable def sp_i_CentraliserOf_c1 (F:(dq0 × (List dq0) × Unit)->Option Bool):FnSpec:=⟨as_i_CentraliserOf_c1,[false,false],.bool,F⟩
noncomputable def i_CentraliserOf_c1 (K:Nat) (x:(dq0 × (List dq0) × Unit)):Option Bool :=
    (i_allAre K (x.2.1,(fun y2=>i_CentraliserOf_c1_c1 K (y2.1,x.1,())),())).bind fun y1 =>
    some y1
noncomputable def rv_i_CentraliserOf_c1:Lv:=[(3,(.v .bool))]
theorem ok_i_CentraliserOf_c1 (K:Nat):FnOk Tryz.prog 67 (sp_i_CentraliserOf_c1 (i_CentraliserOf_c1 K)) :=
  fn_okD tysOk [C_i_allAre K,C_i_CentraliserOf_c1_c1 K] 0 [] [] rv_i_CentraliserOf_c1 K Tryz.func67 (by kernel_rfl) trivial (fun _=>by kernel_rfl)
noncomputable def C_i_CentraliserOf_c1 (K:Nat):CB Tryz.prog:=.f _ _ (ok_i_CentraliserOf_c1 K)
noncomputable def as_i_CentraliserOf:Ty:=(.pair (.sl tq0) (.pair (.int .i64) .unit))
noncomputable def sp_i_CentraliserOf (F:((List dq0) × Int × Unit)->Option ((List dq0) × Int × Unit)):FnSpec:=⟨as_i_CentraliserOf,[false,false],(.tup (.pair (.sl tq0) (.pair (.int .i64) .unit))),F⟩
noncomputable def i_CentraliserOf (K:Nat) (x:((List dq0) × Int × Unit)):Option ((List dq0) × Int × Unit) :=
    (i_listCode K (x.1,())).bind fun y1 =>
    (if (!decide (y1=(0:Int)))=true then
    some (([]:List dq0),y1,())
    else
    (i_within K (x.2.1,(0:Int),(3:Int),())).bind fun y2 =>
    (if (!y2)=true then
    some (([]:List dq0),(2:Int),())
    else
    (i_funcsThat K (x.2.1,(fun y4=>i_CentraliserOf_c1 K (y4.1,x.1,())),())).bind fun y3 =>
    some (y3,(0:Int),())))
noncomputable def rv_i_CentraliserOf:Lv:=[(4,(.r tq0)),(5,(.v (.int .i64)))]
theorem ok_i_CentraliserOf (K:Nat):FnOk Tryz.prog 24 (sp_i_CentraliserOf (i_CentraliserOf K)) :=
  fn_okD tysOk [C_i_listCode K,C_i_within K,C_i_funcsThat K,C_i_CentraliserOf_c1 K] 0 [] [] rv_i_CentraliserOf K Tryz.func24 (by kernel_rfl) trivial (fun _=>by kernel_rfl)
noncomputable def C_i_CentraliserOf (K:Nat):CB Tryz.prog:=.f _ _ (ok_i_CentraliserOf K)
noncomputable def as_i_Func_rows:Ty:=(.pair tq0 .unit)
noncomputable def sp_i_Func_rows (F:(dq0 × Unit)->Option Int):FnSpec:=⟨as_i_Func_rows,[false],(.int .i64),F⟩
noncomputable def i_Func_rows (K:Nat) (x:(dq0 × Unit)):Option Int :=
    (i_rowsOf K (x.1.1,())).bind fun y1 =>
    some y1
noncomputable def rv_i_Func_rows:Lv:=[(2,(.v (.int .i64)))]
theorem ok_i_Func_rows (K:Nat):FnOk Tryz.prog 126 (sp_i_Func_rows (i_Func_rows K)) :=
  fn_okD tysOk [C_i_rowsOf K] 0 [] [] rv_i_Func_rows K Tryz.func126 (by kernel_rfl) trivial (fun _=>by kernel_rfl)
noncomputable def C_i_Func_rows (K:Nat):CB Tryz.prog:=.f _ _ (ok_i_Func_rows K)
noncomputable def as_i_funcBy:Ty:=(.pair (.int .i64) (.pair (.fn (.pair (.int .i64) .unit) (.int .i64)) .unit))
noncomputable def sp_i_funcBy (F:(Int × ((Int × Unit)->Option Int) × Unit)->Option dq0):FnSpec:=⟨as_i_funcBy,[false,false],tq0,F⟩
noncomputable def i_funcBy_l3 {R:Type} (K:Nat):Nat->((Int × Unit)->Option Int)->dq0->dq0->Int->Int->(dq0->dq0->Option R)->Option R
  | 0,_,_,_,_,_,_=>none
  | k + 1,v1,v4,v5,v10,v11,kx0 =>
    (if (decide (v11 < v10))=true then
    (v1 (v11,())).bind fun y2 =>
    (if (decide ((0:Int)<=v11))=true then
    i_funcBy_l3 K k v1 v4 (v5.1,(bitI .or .i64 v5.2.1 (shlI .i64 y2 v11)),()) v10 (IntKind.i64.wrap (v11 + (1:Int))) kx0
    else
    none)
    else
    kx0 v4 v5)
noncomputable def i_funcBy (K:Nat) (x:(Int × ((Int × Unit)->Option Int) × Unit)):Option dq0 :=
    (i_rowsOf K (x.1,())).bind fun y1 =>
    i_funcBy_l3 K K x.2.1 ((0:Int),(0:Int),()) (x.1,((0:Int),(0:Int),()).2.1,()) y1 (0:Int) (fun z3 z4 =>
    some z4)
noncomputable def X0_i_funcBy:Lv:=[(4,(.bx (.v tq0))),(5,(.bx (.v tq0)))]
noncomputable def rv_i_funcBy:Lv:=[(4,(.bx (.v tq0)))]
noncomputable def D_i_funcBy (K:Nat):List (PD (den tq0)):=[.L 3 [(1,(.v (.fn (.pair (.int .i64) .unit) (.int .i64)))),(4,(.bx (.v tq0))),(5,(.bx (.v tq0))),(10,(.v (.int .i64))),(11,(.v (.int .i64)))] [] (fun k x kx kr=>i_funcBy_l3 K k x.1 x.2.1 x.2.2.1 x.2.2.2.1 x.2.2.2.2.1 (fun z0 z1=>kx 0 (mkSt X0_i_funcBy (z0,z1,()))))]
theorem ok_i_funcBy (K:Nat):FnOk Tryz.prog 121 (sp_i_funcBy (i_funcBy K)) :=
  fn_okD tysOk [C_i_rowsOf K] 0 (D_i_funcBy K) [(0,X0_i_funcBy)] rv_i_funcBy K Tryz.func121 (by kernel_rfl) ⟨⟨fun _ _ _ _=>by kernel_rfl,fun _ _ _=>rfl⟩,trivial⟩ (fun _=>by kernel_rfl)
noncomputable def C_i_funcBy (K:Nat):CB Tryz.prog:=.f _ _ (ok_i_funcBy K)
noncomputable def as_i_Func_dual_c1:Ty:=(.pair (.int .i64) (.pair (.ptr tq0) .unit))
noncomputable def sp_i_Func_dual_c1 (F:(Int × dq0 × Unit)->Option Int):FnSpec:=⟨as_i_Func_dual_c1,[false,false],(.int .i64),F⟩
noncomputable def i_Func_dual_c1 (K:Nat) (x:(Int × dq0 × Unit)):Option Int :=
    (i_Func_rows K (x.2.1,())).bind fun y1 =>
    let x2:=(IntKind.i64.wrap ((IntKind.i64.wrap (y1 - (1:Int))) - x.1))
    (i_Func_at K (x.2.1,x2,())).bind fun y3 =>
    some (IntKind.i64.wrap ((1:Int) - y3))
noncomputable def rv_i_Func_dual_c1:Lv:=[(3,(.v (.int .i64)))]
theorem ok_i_Func_dual_c1 (K:Nat):FnOk Tryz.prog 182 (sp_i_Func_dual_c1 (i_Func_dual_c1 K)) :=
  fn_okD tysOk [C_i_Func_rows K,C_i_Func_at K] 0 [] [] rv_i_Func_dual_c1 K Tryz.func182 (by kernel_rfl) trivial (fun _=>by kernel_rfl)
noncomputable def C_i_Func_dual_c1 (K:Nat):CB Tryz.prog:=.f _ _ (ok_i_Func_dual_c1 K)
noncomputable def as_i_Func_dual:Ty:=(.pair tq0 .unit)
noncomputable def sp_i_Func_dual (F:(dq0 × Unit)->Option dq0):FnSpec:=⟨as_i_Func_dual,[false],tq0,F⟩
noncomputable def i_Func_dual (K:Nat) (x:(dq0 × Unit)):Option dq0 :=
    (i_funcBy K (x.1.1,(fun y2=>i_Func_dual_c1 K (y2.1,x.1,())),())).bind fun y1 =>
    some y1
noncomputable def rv_i_Func_dual:Lv:=[(2,(.bx (.v tq0)))]
theorem ok_i_Func_dual (K:Nat):FnOk Tryz.prog 128 (sp_i_Func_dual (i_Func_dual K)) :=
  fn_okD tysOk [C_i_funcBy K,C_i_Func_dual_c1 K] 0 [] [] rv_i_Func_dual K Tryz.func128 (by kernel_rfl) trivial (fun _=>by kernel_rfl)
noncomputable def C_i_Func_dual (K:Nat):CB Tryz.prog:=.f _ _ (ok_i_Func_dual K)
noncomputable def as_i_Func_isMonotone:Ty:=(.pair tq0 .unit)
noncomputable def sp_i_Func_isMonotone (F:(dq0 × Unit)->Option Bool):FnSpec:=⟨as_i_Func_isMonotone,[false],.bool,F⟩
noncomputable def i_Func_isMonotone_l5 {R:Type} (K:Nat):Nat->dq0->Int->Int->Int->Int->Int->(dq0->Int->Int->Option R)->(Bool->Option R)->Option R
  | 0,_,_,_,_,_,_,_,_=>none
  | k + 1,v1,v3,v6,v7,v11,v12,kx2,kr =>
    (if (decide (v12 < v11))=true then
    (i_Func_at K (v1,v3,())).bind fun y2 =>
    (if (decide ((0:Int)<=v12))=true then
    (i_Func_at K (v1,(bitI .or .i64 v3 (shlI .i64 (1:Int) v12)),())).bind fun y3 =>
    (if (decide (y2 > y3))=true then
    kr false
    else
    i_Func_isMonotone_l5 K k v1 v3 v6 v7 v11 (IntKind.i64.wrap (v12 + (1:Int))) kx2 kr)
    else
    none)
    else
    kx2 v1 v6 v7)
noncomputable def i_Func_isMonotone_l2 {R:Type} (K:Nat):Nat->dq0->Int->Int->(Option R)->(Bool->Option R)->Option R
  | 0,_,_,_,_,_=>none
  | k + 1,v1,v6,v7,kx0,kr =>
    (if (decide (v7 < v6))=true then
    i_Func_isMonotone_l5 K k v1 v7 v6 v7 v1.1 (0:Int) (fun z4 z5 z6 =>
    i_Func_isMonotone_l2 K k z4 z5 (IntKind.i64.wrap (z6 + (1:Int))) kx0 kr) (fun z7 =>
    kr z7)
    else
    kx0)
noncomputable def i_Func_isMonotone (K:Nat) (x:(dq0 × Unit)):Option Bool :=
    (i_Func_rows K (x.1,())).bind fun y1 =>
    i_Func_isMonotone_l2 K K x.1 y1 (0:Int) (some true) (fun z8 =>
    some z8)
noncomputable def X0_i_Func_isMonotone:Lv:=[]
noncomputable def X2_i_Func_isMonotone:Lv:=[(1,(.bx (.v tq0))),(6,(.v (.int .i64))),(7,(.v (.int .i64)))]
noncomputable def rv_i_Func_isMonotone:Lv:=[(2,(.v .bool))]
noncomputable def D_i_Func_isMonotone (K:Nat):List (PD (den .bool)):=[.L 2 [(1,(.bx (.v tq0))),(6,(.v (.int .i64))),(7,(.v (.int .i64)))] [] (fun k x kx kr=>i_Func_isMonotone_l2 K k x.1 x.2.1 x.2.2.1 (kx 0 (mkSt X0_i_Func_isMonotone ())) (fun z0=>kr (mkSt rv_i_Func_isMonotone (z0,())))),
  .L 5 [(1,(.bx (.v tq0))),(3,(.v (.int .i64))),(6,(.v (.int .i64))),(7,(.v (.int .i64))),(11,(.v (.int .i64))),(12,(.v (.int .i64)))] [] (fun k x kx kr=>i_Func_isMonotone_l5 K k x.1 x.2.1 x.2.2.1 x.2.2.2.1 x.2.2.2.2.1 x.2.2.2.2.2.1 (fun z0 z1 z2=>kx 2 (mkSt X2_i_Func_isMonotone (z0,z1,z2,()))) (fun z0=>kr (mkSt rv_i_Func_isMonotone (z0,()))))]
theorem ok_i_Func_isMonotone (K:Nat):FnOk Tryz.prog 129 (sp_i_Func_isMonotone (i_Func_isMonotone K)) :=
  fn_okD tysOk [C_i_Func_rows K,C_i_Func_at K] 0 (D_i_Func_isMonotone K) [(0,X0_i_Func_isMonotone),(2,X2_i_Func_isMonotone)] rv_i_Func_isMonotone K Tryz.func129 (by kernel_rfl) ⟨⟨fun _ _ _ _=>by kernel_rfl,fun _ _ _=>rfl⟩,⟨⟨fun _ _ _ _=>by kernel_rfl,fun _ _ _=>rfl⟩,trivial⟩⟩ (fun _=>by kernel_rfl)
noncomputable def C_i_Func_isMonotone (K:Nat):CB Tryz.prog:=.f _ _ (ok_i_Func_isMonotone K)
noncomputable def as_i_Func_isIn:Ty:=(.pair tq0 (.pair (.int .i64) .unit))
noncomputable def sp_i_Func_isIn (F:(dq0 × Int × Unit)->Option Bool):FnSpec:=⟨as_i_Func_isIn,[false,false],.bool,F⟩
noncomputable def i_Func_isIn_l16 {R:Type} (K:Nat):Nat->dq0->Int->Int->Int->Int->Int->Int->(dq0->Int->Int->Int->Int->Option R)->Option R
  | 0,_,_,_,_,_,_,_,_=>none
  | k + 1,v2,v6,v7,v40,v41,v47,v48,kx3 =>
    (if (decide (v48 < v47))=true then
    (i_bit K (v6,v48,())).bind fun y8 =>
    (i_Func_at K (v2,(0:Int),())).bind fun y9 =>
    (if (decide ((0:Int)<=v48))=true then
    (i_Func_at K (v2,(shlI .i64 (1:Int) v48),())).bind fun y10 =>
    let x11:=(bitI .xor .i64 v7 (bitI .and .i64 y8 (bitI .xor .i64 y9 y10)))
    i_Func_isIn_l16 K k v2 v6 x11 v40 v41 v47 (IntKind.i64.wrap (v48 + (1:Int))) kx3
    else
    none)
    else
    kx3 v2 v6 v7 v40 v41)
noncomputable def i_Func_isIn_l12 {R:Type} (K:Nat):Nat->dq0->Int->Int->(Option R)->(Bool->Option R)->Option R
  | 0,_,_,_,_,_=>none
  | k + 1,v2,v40,v41,kx1,kr =>
    (if (decide (v41 < v40))=true then
    (i_Func_at K (v2,(0:Int),())).bind fun y7 =>
    i_Func_isIn_l16 K k v2 v41 y7 v40 v41 v2.1 (0:Int) (fun z12 z13 z14 z15 z16 =>
    (i_Func_at K (z12,z13,())).bind fun y17 =>
    (if (!decide (z14=y17))=true then
    kr false
    else
    i_Func_isIn_l12 K k z12 z15 (IntKind.i64.wrap (z16 + (1:Int))) kx1 kr))
    else
    kx1)
noncomputable def i_Func_isIn (K:Nat) (x:(dq0 × Int × Unit)):Option Bool :=
    (i_Func_rows K (x.1,())).bind fun y1 =>
    (if (decide (x.2.1=(0:Int)))=true then
    (i_Func_at K (x.1,(0:Int),())).bind fun y2 =>
    some (decide (y2=(0:Int)))
    else
    (if (decide (x.2.1=(1:Int)))=true then
    (i_Func_at K (x.1,(IntKind.i64.wrap (y1 - (1:Int))),())).bind fun y3 =>
    some (decide (y3=(1:Int)))
    else
    (if (decide (x.2.1=(2:Int)))=true then
    (if (decide (x.1.1 > (0:Int)))=true then
    (i_Func_dual K (x.1,())).bind fun y4 =>
    some (eqD (.pair (.int .i64) (.pair (.int .i64) .unit)) x.1 y4)
    else
    some false)
    else
    (if (decide (x.2.1=(3:Int)))=true then
    (i_Func_isMonotone K (x.1,())).bind fun y5 =>
    some y5
    else
    (i_Func_rows K (x.1,())).bind fun y6 =>
    i_Func_isIn_l12 K K x.1 y6 (0:Int) (some true) (fun z18 =>
    some z18)))))
noncomputable def X1_i_Func_isIn:Lv:=[]
noncomputable def X3_i_Func_isIn:Lv:=[(2,(.bx (.v tq0))),(6,(.v (.int .i64))),(7,(.v (.int .i64))),(40,(.v (.int .i64))),(41,(.v (.int .i64)))]
noncomputable def rv_i_Func_isIn:Lv:=[(4,(.v .bool))]
noncomputable def D_i_Func_isIn (K:Nat):List (PD (den .bool)):=[.L 12 [(2,(.bx (.v tq0))),(40,(.v (.int .i64))),(41,(.v (.int .i64)))] [] (fun k x kx kr=>i_Func_isIn_l12 K k x.1 x.2.1 x.2.2.1 (kx 1 (mkSt X1_i_Func_isIn ())) (fun z0=>kr (mkSt rv_i_Func_isIn (z0,())))),
  .L 16 [(2,(.bx (.v tq0))),(6,(.v (.int .i64))),(7,(.v (.int .i64))),(40,(.v (.int .i64))),(41,(.v (.int .i64))),(47,(.v (.int .i64))),(48,(.v (.int .i64)))] [] (fun k x kx kr=>i_Func_isIn_l16 K k x.1 x.2.1 x.2.2.1 x.2.2.2.1 x.2.2.2.2.1 x.2.2.2.2.2.1 x.2.2.2.2.2.2.1 (fun z0 z1 z2 z3 z4=>kx 3 (mkSt X3_i_Func_isIn (z0,z1,z2,z3,z4,()))))]
theorem ok_i_Func_isIn (K:Nat):FnOk Tryz.prog 53 (sp_i_Func_isIn (i_Func_isIn K)) :=
  fn_okD tysOk [C_i_Func_rows K,C_i_Func_at K,C_i_Func_dual K,C_i_Func_isMonotone K,C_i_bit K] 0 (D_i_Func_isIn K) [(1,X1_i_Func_isIn),(3,X3_i_Func_isIn)] rv_i_Func_isIn K Tryz.func53 (by kernel_rfl) ⟨⟨fun _ _ _ _=>by kernel_rfl,fun _ _ _=>rfl⟩,⟨⟨fun _ _ _ _=>by kernel_rfl,fun _ _ _=>rfl⟩,trivial⟩⟩ (fun _=>by kernel_rfl)
noncomputable def C_i_Func_isIn (K:Nat):CB Tryz.prog:=.f _ _ (ok_i_Func_isIn K)
noncomputable def as_i_allIn_c1:Ty:=(.pair tq0 (.pair (.ptr (.int .i64)) .unit))
noncomputable def sp_i_allIn_c1 (F:(dq0 × Int × Unit)->Option Bool):FnSpec:=⟨as_i_allIn_c1,[false,false],.bool,F⟩
noncomputable def i_allIn_c1 (K:Nat) (x:(dq0 × Int × Unit)):Option Bool :=
    (i_Func_isIn K (x.1,x.2.1,())).bind fun y1 =>
    some (!y1)
noncomputable def rv_i_allIn_c1:Lv:=[(3,(.v .bool))]
theorem ok_i_allIn_c1 (K:Nat):FnOk Tryz.prog 163 (sp_i_allIn_c1 (i_allIn_c1 K)) :=
  fn_okD tysOk [C_i_Func_isIn K] 0 [] [] rv_i_allIn_c1 K Tryz.func163 (by kernel_rfl) trivial (fun _=>by kernel_rfl)
noncomputable def C_i_allIn_c1 (K:Nat):CB Tryz.prog:=.f _ _ (ok_i_allIn_c1 K)
noncomputable def as_i_allIn:Ty:=(.pair (.sl tq0) (.pair (.int .i64) .unit))
noncomputable def sp_i_allIn (F:((List dq0) × Int × Unit)->Option Bool):FnSpec:=⟨as_i_allIn,[false,false],.bool,F⟩
noncomputable def i_allIn (K:Nat) (x:((List dq0) × Int × Unit)):Option Bool :=
    (slices_ContainsFunc_impl_Func K (x.1,(fun y2=>i_allIn_c1 K (y2.1,x.2.1,())),())).bind fun y1 =>
    some (!y1)
noncomputable def rv_i_allIn:Lv:=[(4,(.v .bool))]
theorem ok_i_allIn (K:Nat):FnOk Tryz.prog 94 (sp_i_allIn (i_allIn K)) :=
  fn_okD tysOk [C_slices_ContainsFunc_impl_Func K,C_i_allIn_c1 K] 0 [] [] rv_i_allIn K Tryz.func94 (by kernel_rfl) trivial (fun _=>by kernel_rfl)
noncomputable def C_i_allIn (K:Nat):CB Tryz.prog:=.f _ _ (ok_i_allIn K)
noncomputable def as_i_Func_isEssential:Ty:=(.pair tq0 (.pair (.int .i64) .unit))
noncomputable def sp_i_Func_isEssential (F:(dq0 × Int × Unit)->Option Bool):FnSpec:=⟨as_i_Func_isEssential,[false,false],.bool,F⟩
noncomputable def i_Func_isEssential_l2 {R:Type} (K:Nat):Nat->Int->dq0->Int->Int->(Option R)->(Bool->Option R)->Option R
  | 0,_,_,_,_,_,_=>none
  | k + 1,v1,v2,v7,v8,kx0,kr =>
    (if (decide (v8 < v7))=true then
    (i_Func_at K (v2,v8,())).bind fun y2 =>
    (if (decide ((0:Int)<=v1))=true then
    (i_Func_at K (v2,(bitI .xor .i64 v8 (shlI .i64 (1:Int) v1)),())).bind fun y3 =>
    (if (!decide (y2=y3))=true then
    kr true
    else
    i_Func_isEssential_l2 K k v1 v2 v7 (IntKind.i64.wrap (v8 + (1:Int))) kx0 kr)
    else
    none)
    else
    kx0)
noncomputable def i_Func_isEssential (K:Nat) (x:(dq0 × Int × Unit)):Option Bool :=
    (i_Func_rows K (x.1,())).bind fun y1 =>
    i_Func_isEssential_l2 K K x.2.1 x.1 y1 (0:Int) (some false) (fun z4 =>
    some z4)
noncomputable def X0_i_Func_isEssential:Lv:=[]
noncomputable def rv_i_Func_isEssential:Lv:=[(4,(.v .bool))]
noncomputable def D_i_Func_isEssential (K:Nat):List (PD (den .bool)):=[.L 2 [(1,(.v (.int .i64))),(2,(.bx (.v tq0))),(7,(.v (.int .i64))),(8,(.v (.int .i64)))] [] (fun k x kx kr=>i_Func_isEssential_l2 K k x.1 x.2.1 x.2.2.1 x.2.2.2.1 (kx 0 (mkSt X0_i_Func_isEssential ())) (fun z0=>kr (mkSt rv_i_Func_isEssential (z0,()))))]
theorem ok_i_Func_isEssential (K:Nat):FnOk Tryz.prog 191 (sp_i_Func_isEssential (i_Func_isEssential K)) :=
  fn_okD tysOk [C_i_Func_rows K,C_i_Func_at K] 0 (D_i_Func_isEssential K) [(0,X0_i_Func_isEssential)] rv_i_Func_isEssential K Tryz.func191 (by kernel_rfl) ⟨⟨fun _ _ _ _=>by kernel_rfl,fun _ _ _=>rfl⟩,trivial⟩ (fun _=>by kernel_rfl)
noncomputable def C_i_Func_isEssential (K:Nat):CB Tryz.prog:=.f _ _ (ok_i_Func_isEssential K)
noncomputable def as_i_Func_essential:Ty:=(.pair tq0 .unit)
noncomputable def sp_i_Func_essential (F:(dq0 × Unit)->Option (List Int)):FnSpec:=⟨as_i_Func_essential,[false],(.sl (.int .i64)),F⟩
noncomputable def i_Func_essential_l3 {R:Type} (K:Nat):Nat->dq0->(List Int)->Int->Int->((List Int)->Option R)->Option R
  | 0,_,_,_,_,_=>none
  | k + 1,v1,v3,v6,v7,kx0 =>
    (if (decide (v7 < v6))=true then
    (i_Func_isEssential K (v1,v7,())).bind fun y1 =>
    (if y1=true then
    (if (decide (v3.length + ([v7]).length<=lim))=true then
    let l2:=(v3 ++ [v7])
    i_Func_essential_l3 K k v1 l2 v6 (IntKind.i64.wrap (v7 + (1:Int))) kx0
    else
    none)
    else
    i_Func_essential_l3 K k v1 v3 v6 (IntKind.i64.wrap (v7 + (1:Int))) kx0)
    else
    kx0 v3)
noncomputable def i_Func_essential (K:Nat) (x:(dq0 × Unit)):Option (List Int) :=
    i_Func_essential_l3 K K x.1 ([]:List Int) x.1.1 (0:Int) (fun z3 =>
    some z3)
noncomputable def X0_i_Func_essential:Lv:=[(3,(.r (.int .i64)))]
noncomputable def rv_i_Func_essential:Lv:=[(2,(.r (.int .i64)))]
noncomputable def D_i_Func_essential (K:Nat):List (PD (den (.sl (.int .i64)))):=[.L 3 [(1,(.bx (.v tq0))),(3,(.r (.int .i64))),(6,(.v (.int .i64))),(7,(.v (.int .i64)))] [] (fun k x kx kr=>i_Func_essential_l3 K k x.1 x.2.1 x.2.2.1 x.2.2.2.1 (fun z0=>kx 0 (mkSt X0_i_Func_essential (z0,()))))]
theorem ok_i_Func_essential (K:Nat):FnOk Tryz.prog 164 (sp_i_Func_essential (i_Func_essential K)) :=
  fn_okD tysOk [C_i_Func_isEssential K] 0 (D_i_Func_essential K) [(0,X0_i_Func_essential)] rv_i_Func_essential K Tryz.func164 (by kernel_rfl) ⟨⟨fun _ _ _ _=>by kernel_rfl,fun _ _ _=>rfl⟩,trivial⟩ (fun _=>by kernel_rfl)
noncomputable def C_i_Func_essential (K:Nat):CB Tryz.prog:=.f _ _ (ok_i_Func_essential K)
noncomputable def as_i_Func_isUnary:Ty:=(.pair tq0 .unit)
noncomputable def sp_i_Func_isUnary (F:(dq0 × Unit)->Option Bool):FnSpec:=⟨as_i_Func_isUnary,[false],.bool,F⟩
noncomputable def i_Func_isUnary (K:Nat) (x:(dq0 × Unit)):Option Bool :=
    (i_Func_essential K (x.1,())).bind fun y1 =>
    some (decide ((y1.length:Int)<=(1:Int)))
noncomputable def rv_i_Func_isUnary:Lv:=[(2,(.v .bool))]
theorem ok_i_Func_isUnary (K:Nat):FnOk Tryz.prog 95 (sp_i_Func_isUnary (i_Func_isUnary K)) :=
  fn_okD tysOk [C_i_Func_essential K] 0 [] [] rv_i_Func_isUnary K Tryz.func95 (by kernel_rfl) trivial (fun _=>by kernel_rfl)
noncomputable def C_i_Func_isUnary (K:Nat):CB Tryz.prog:=.f _ _ (ok_i_Func_isUnary K)
noncomputable def as_i_byConstants:Ty:=(.pair .str (.pair .bool (.pair .bool .unit)))
noncomputable def sp_i_byConstants (F:(ByteArray × Bool × Bool × Unit)->Option ByteArray):FnSpec:=⟨as_i_byConstants,[false,false,false],.str,F⟩
noncomputable def i_byConstants_j3 {R:Type} (K:Nat) (k:Nat) (v0:ByteArray) (v1:Bool) (v2:Bool) (kn:ByteArray->Option R) (kr:(ByteArray->Option R)):Option R :=
    gN K ((if v1=true then
    (if (decide (v0.size + (⟨#[48]⟩:ByteArray).size<=9223372036854775807))=true then
    kr (v0 ++ (⟨#[48]⟩:ByteArray))
    else
    none)
    else
    (if v2=true then
    (if (decide (v0.size + (⟨#[49]⟩:ByteArray).size<=9223372036854775807))=true then
    kr (v0 ++ (⟨#[49]⟩:ByteArray))
    else
    none)
    else
    kn v0)))
noncomputable def i_byConstants (K:Nat) (x:(ByteArray × Bool × Bool × Unit)):Option ByteArray :=
    (if x.2.1=true then
    (if x.2.2.1=true then
    (if (decide (x.1.size + (⟨#[50]⟩:ByteArray).size<=9223372036854775807))=true then
    some (x.1 ++ (⟨#[50]⟩:ByteArray))
    else
    none)
    else
    i_byConstants_j3 K K x.1 x.2.1 x.2.2.1 (fun z1 =>
    some z1) (fun z2 =>
    some z2))
    else
    i_byConstants_j3 K K x.1 x.2.1 x.2.2.1 (fun z3 =>
    some z3) (fun z4 =>
    some z4))
noncomputable def rv_i_byConstants:Lv:=[(6,(.v .str))]
noncomputable def D_i_byConstants (K:Nat):List (PD (den .str)):=[.J 3 [(0,(.v .str)),(1,(.v .bool)),(2,(.v .bool))] [(0,(.v .str))] K (fun k x kn kx kr=>i_byConstants_j3 K k x.1 x.2.1 x.2.2.1 (fun z0=>kn (z0,())) (fun z0=>kr (mkSt rv_i_byConstants (z0,()))))]
theorem ok_i_byConstants (K:Nat):FnOk Tryz.prog 96 (sp_i_byConstants (i_byConstants K)) :=
  fn_okD tysOk [] 0 (D_i_byConstants K) [] rv_i_byConstants K Tryz.func96 (by kernel_rfl) ⟨fun _ _ _ _ _=>by kernel_rfl,trivial⟩ (fun _=>by kernel_rfl)
noncomputable def C_i_byConstants (K:Nat):CB Tryz.prog:=.f _ _ (ok_i_byConstants K)
noncomputable def as_i_choose:Ty:=(.pair .bool (.pair .str (.pair .str .unit)))
noncomputable def sp_i_choose (F:(Bool × ByteArray × ByteArray × Unit)->Option ByteArray):FnSpec:=⟨as_i_choose,[false,false,false],.str,F⟩
noncomputable def i_choose (K:Nat) (x:(Bool × ByteArray × ByteArray × Unit)):Option ByteArray :=
    (if x.1=true then
    some x.2.1
    else
    some x.2.2.1)
noncomputable def rv_i_choose:Lv:=[(6,(.v .str))]
theorem ok_i_choose (K:Nat):FnOk Tryz.prog 97 (sp_i_choose (i_choose K)) :=
  fn_okD tysOk [] 0 [] [] rv_i_choose K Tryz.func97 (by kernel_rfl) trivial (fun _=>by kernel_rfl)
noncomputable def C_i_choose (K:Nat):CB Tryz.prog:=.f _ _ (ok_i_choose K)
noncomputable def as_i_Func_essentialRow:Ty:=(.pair tq0 .unit)
noncomputable def sp_i_Func_essentialRow (F:(dq0 × Unit)->Option Int):FnSpec:=⟨as_i_Func_essentialRow,[false],(.int .i64),F⟩
noncomputable def i_Func_essentialRow_l3 {R:Type} (K:Nat):Nat->Int->(List Int)->Int->Int->(Int->Option R)->Option R
  | 0,_,_,_,_,_=>none
  | k + 1,v3,v7,v8,v9,kx0 =>
    (if (decide (v9 < v8))=true then
    (if (bnds v9 (v7.length:Int))=true then
    (if (decide ((0:Int)<=(v7.getD v9.toNat (0:Int))))=true then
    let x2:=(bitI .or .i64 v3 (shlI .i64 (1:Int) (v7.getD v9.toNat (0:Int))))
    i_Func_essentialRow_l3 K k x2 v7 v8 (IntKind.i64.wrap (v9 + (1:Int))) kx0
    else
    none)
    else
    none)
    else
    kx0 v3)
noncomputable def i_Func_essentialRow (K:Nat) (x:(dq0 × Unit)):Option Int :=
    (i_Func_essential K (x.1,())).bind fun y1 =>
    i_Func_essentialRow_l3 K K (0:Int) y1 (y1.length:Int) (0:Int) (fun z3 =>
    some z3)
noncomputable def X0_i_Func_essentialRow:Lv:=[(3,(.v (.int .i64)))]
noncomputable def rv_i_Func_essentialRow:Lv:=[(2,(.v (.int .i64)))]
noncomputable def D_i_Func_essentialRow (K:Nat):List (PD (den (.int .i64))):=[.L 3 [(3,(.v (.int .i64))),(7,(.r (.int .i64))),(8,(.v (.int .i64))),(9,(.v (.int .i64)))] [] (fun k x kx kr=>i_Func_essentialRow_l3 K k x.1 x.2.1 x.2.2.1 x.2.2.2.1 (fun z0=>kx 0 (mkSt X0_i_Func_essentialRow (z0,()))))]
theorem ok_i_Func_essentialRow (K:Nat):FnOk Tryz.prog 165 (sp_i_Func_essentialRow (i_Func_essentialRow K)) :=
  fn_okD tysOk [C_i_Func_essential K] 0 (D_i_Func_essentialRow K) [(0,X0_i_Func_essentialRow)] rv_i_Func_essentialRow K Tryz.func165 (by kernel_rfl) ⟨⟨fun _ _ _ _=>by kernel_rfl,fun _ _ _=>rfl⟩,trivial⟩ (fun _=>by kernel_rfl)
noncomputable def C_i_Func_essentialRow (K:Nat):CB Tryz.prog:=.f _ _ (ok_i_Func_essentialRow K)
noncomputable def as_i_Func_isConstant:Ty:=(.pair tq0 .unit)
noncomputable def sp_i_Func_isConstant (F:(dq0 × Unit)->Option Bool):FnSpec:=⟨as_i_Func_isConstant,[false],.bool,F⟩
noncomputable def i_Func_isConstant (K:Nat) (x:(dq0 × Unit)):Option Bool :=
    (i_Func_essential K (x.1,())).bind fun y1 =>
    some (decide ((y1.length:Int)=(0:Int)))
noncomputable def rv_i_Func_isConstant:Lv:=[(2,(.v .bool))]
theorem ok_i_Func_isConstant (K:Nat):FnOk Tryz.prog 166 (sp_i_Func_isConstant (i_Func_isConstant K)) :=
  fn_okD tysOk [C_i_Func_essential K] 0 [] [] rv_i_Func_isConstant K Tryz.func166 (by kernel_rfl) trivial (fun _=>by kernel_rfl)
noncomputable def C_i_Func_isConstant (K:Nat):CB Tryz.prog:=.f _ _ (ok_i_Func_isConstant K)
noncomputable def as_i_one:Ty:=(.pair .bool .unit)
noncomputable def sp_i_one (F:(Bool × Unit)->Option Int):FnSpec:=⟨as_i_one,[false],(.int .i64),F⟩
noncomputable def i_one (K:Nat) (x:(Bool × Unit)):Option Int :=
    (if x.1=true then
    some (1:Int)
    else
    some (0:Int))
noncomputable def rv_i_one:Lv:=[(2,(.v (.int .i64)))]
theorem ok_i_one (K:Nat):FnOk Tryz.prog 52 (sp_i_one (i_one K)) :=
  fn_okD tysOk [] 0 [] [] rv_i_one K Tryz.func52 (by kernel_rfl) trivial (fun _=>by kernel_rfl)
noncomputable def C_i_one (K:Nat):CB Tryz.prog:=.f _ _ (ok_i_one K)
noncomputable def as_i_Func_isDisjunction_c1:Ty:=(.pair (.int .i64) (.pair (.ptr (.int .i64)) .unit))
noncomputable def sp_i_Func_isDisjunction_c1 (F:(Int × Int × Unit)->Option Int):FnSpec:=⟨as_i_Func_isDisjunction_c1,[false,false],(.int .i64),F⟩
noncomputable def i_Func_isDisjunction_c1 (K:Nat) (x:(Int × Int × Unit)):Option Int :=
    (i_one K ((!decide ((bitI .and .i64 x.1 x.2.1)=(0:Int))),())).bind fun y1 =>
    some y1
noncomputable def rv_i_Func_isDisjunction_c1:Lv:=[(3,(.v (.int .i64)))]
theorem ok_i_Func_isDisjunction_c1 (K:Nat):FnOk Tryz.prog 167 (sp_i_Func_isDisjunction_c1 (i_Func_isDisjunction_c1 K)) :=
  fn_okD tysOk [C_i_one K] 0 [] [] rv_i_Func_isDisjunction_c1 K Tryz.func167 (by kernel_rfl) trivial (fun _=>by kernel_rfl)
noncomputable def C_i_Func_isDisjunction_c1 (K:Nat):CB Tryz.prog:=.f _ _ (ok_i_Func_isDisjunction_c1 K)
noncomputable def as_i_Func_isDisjunction:Ty:=(.pair tq0 .unit)
noncomputable def sp_i_Func_isDisjunction (F:(dq0 × Unit)->Option Bool):FnSpec:=⟨as_i_Func_isDisjunction,[false],.bool,F⟩
noncomputable def i_Func_isDisjunction (K:Nat) (x:(dq0 × Unit)):Option Bool :=
    (i_Func_essentialRow K (x.1,())).bind fun y1 =>
    (i_Func_isConstant K (x.1,())).bind fun y2 =>
    (if y2=true then
    some true
    else
    (i_funcBy K (x.1.1,(fun y4=>i_Func_isDisjunction_c1 K (y4.1,y1,())),())).bind fun y3 =>
    some (eqD (.pair (.int .i64) (.pair (.int .i64) .unit)) x.1 y3))
noncomputable def rv_i_Func_isDisjunction:Lv:=[(2,(.v .bool))]
theorem ok_i_Func_isDisjunction (K:Nat):FnOk Tryz.prog 98 (sp_i_Func_isDisjunction (i_Func_isDisjunction K)) :=
  fn_okD tysOk [C_i_funcBy K,C_i_Func_essentialRow K,C_i_Func_isConstant K,C_i_Func_isDisjunction_c1 K] 0 [] [] rv_i_Func_isDisjunction K Tryz.func98 (by kernel_rfl) trivial (fun _=>by kernel_rfl)
noncomputable def C_i_Func_isDisjunction (K:Nat):CB Tryz.prog:=.f _ _ (ok_i_Func_isDisjunction K)
noncomputable def as_i_Func_isConjunction_c1:Ty:=(.pair (.int .i64) (.pair (.ptr (.int .i64)) .unit))
noncomputable def sp_i_Func_isConjunction_c1 (F:(Int × Int × Unit)->Option Int):FnSpec:=⟨as_i_Func_isConjunction_c1,[false,false],(.int .i64),F⟩
noncomputable def i_Func_isConjunction_c1 (K:Nat) (x:(Int × Int × Unit)):Option Int :=
    (i_one K ((decide ((bitI .and .i64 x.1 x.2.1)=x.2.1)),())).bind fun y1 =>
    some y1
noncomputable def rv_i_Func_isConjunction_c1:Lv:=[(3,(.v (.int .i64)))]
theorem ok_i_Func_isConjunction_c1 (K:Nat):FnOk Tryz.prog 168 (sp_i_Func_isConjunction_c1 (i_Func_isConjunction_c1 K)) :=
  fn_okD tysOk [C_i_one K] 0 [] [] rv_i_Func_isConjunction_c1 K Tryz.func168 (by kernel_rfl) trivial (fun _=>by kernel_rfl)
noncomputable def C_i_Func_isConjunction_c1 (K:Nat):CB Tryz.prog:=.f _ _ (ok_i_Func_isConjunction_c1 K)
noncomputable def as_i_Func_isConjunction:Ty:=(.pair tq0 .unit)
noncomputable def sp_i_Func_isConjunction (F:(dq0 × Unit)->Option Bool):FnSpec:=⟨as_i_Func_isConjunction,[false],.bool,F⟩
noncomputable def i_Func_isConjunction (K:Nat) (x:(dq0 × Unit)):Option Bool :=
    (i_Func_essentialRow K (x.1,())).bind fun y1 =>
    (i_Func_isConstant K (x.1,())).bind fun y2 =>
    (if y2=true then
    some true
    else
    (i_funcBy K (x.1.1,(fun y4=>i_Func_isConjunction_c1 K (y4.1,y1,())),())).bind fun y3 =>
    some (eqD (.pair (.int .i64) (.pair (.int .i64) .unit)) x.1 y3))
noncomputable def rv_i_Func_isConjunction:Lv:=[(2,(.v .bool))]
theorem ok_i_Func_isConjunction (K:Nat):FnOk Tryz.prog 99 (sp_i_Func_isConjunction (i_Func_isConjunction K)) :=
  fn_okD tysOk [C_i_funcBy K,C_i_Func_essentialRow K,C_i_Func_isConstant K,C_i_Func_isConjunction_c1 K] 0 [] [] rv_i_Func_isConjunction K Tryz.func99 (by kernel_rfl) trivial (fun _=>by kernel_rfl)
noncomputable def C_i_Func_isConjunction (K:Nat):CB Tryz.prog:=.f _ _ (ok_i_Func_isConjunction K)
end Go.Proofs.YtmlgfaojfmkdnaaGreatDoor.E
namespace Go.Proofs.YtmlgfaojfmkdnaaGreatDoor.Dg
open Go Go.Proofs Go.Proofs.YtmlgfaojfmkdnaaGreatDoor.E
set_option linter.unusedVariables false
set_option linter.unusedSimpArgs false
variable {K:Nat} {R:Type}
theorem w64 {x:Int} (h1 : -9223372036854775808<=x) (h2:x < 9223372036854775808):IntKind.i64.wrap x=x:=by
  simp only [IntKind.wrap,IntKind.bits,IntKind.signed,Bool.true_and]
  simp only [show (2:Int) ^ 64=18446744073709551616 from rfl,show (2:Int) ^ (64 - 1)=9223372036854775808 from rfl]
  split <;> rename_i h <;> simp only [decide_eq_true_eq] at h <;> omega
theorem w64n {n:Nat} (h:n < 9223372036854775808):IntKind.i64.wrap (n:Int)=(n:Int):=w64 (by omega) (by omega)
theorem nn (n:Nat):decide ((0:Int)<=(n:Int))=true:=decide_eq_true (by omega)
theorem emod2n (x:Nat):((x:Int) % 18446744073709551616).toNat=x % 18446744073709551616:=by omega
theorem bitI_and {a b:Nat} (ha:a < 9223372036854775808) (hb:b < 9223372036854775808):bitI .and .i64 (a:Int) (b:Int)=((a &&& b:Nat):Int):=by
  have h:a &&& b<=a:=Nat.and_le_left
  show IntKind.i64.wrap (((BitVec.ofInt 64 (a:Int) &&& BitVec.ofInt 64 (b:Int):BitVec 64).toNat:Nat):Int)=_
  simp only [BitVec.toNat_and,BitVec.toNat_ofInt]
  simp only [show ((2 ^ 64:Nat):Int)=18446744073709551616 from rfl,emod2n]
  rw [Nat.mod_eq_of_lt (by omega),Nat.mod_eq_of_lt (by omega),w64n (by omega)]
theorem shrI_n (a j:Nat) (ha:a < 9223372036854775808):shrI .i64 (a:Int) (j:Int)=((a >>> j:Nat):Int):=by
  simp only [shrI,IntKind.bits,Int.toNat_natCast,Nat.shiftRight_eq_div_pow]
  have:(2:Int) ^ min j 64=((2 ^ min j 64:Nat):Int):=by simp
  rw [this,Int.fdiv_eq_ediv_of_nonneg _ (Int.natCast_nonneg _),<-Int.natCast_ediv]
  by_cases h:j<=64
  · rw [Nat.min_eq_left h]
  · rw [Nat.min_eq_right (by omega),Nat.div_eq_of_lt (by omega),Nat.div_eq_of_lt]
    exact Nat.lt_of_lt_of_le ha (Nat.le_trans (show 9223372036854775808<=2 ^ 64 by decide) (Nat.pow_le_pow_right (by decide) (by omega)))
theorem shlI_n (a j:Nat) (h:a * 2 ^ j < 9223372036854775808):shlI .i64 (a:Int) (j:Int)=((a * 2 ^ j:Nat):Int):=by
  simp only [shlI,IntKind.bits,Int.toNat_natCast]
  by_cases hj:j<=64
  · rw [Nat.min_eq_left hj,<-w64n h];congr 1
  · have ha:a=0:=by
      rcases Nat.eq_zero_or_pos a with h0 | h0
      · exact h0
      · have:=Nat.mul_le_mul_right (2 ^ j) h0
        have h2:2 ^ 64<=2 ^ j:=Nat.pow_le_pow_right (by decide) (by omega)
        have:(18446744073709551616:Nat)<=2 ^ j:=h2
        omega
    subst ha
    have:=w64n (n:=0) (by decide)
    simpa using this
theorem shl1 {j:Nat} (h:j < 63):shlI .i64 (1:Int) (j:Int)=((2 ^ j:Nat):Int):=by
  have h2:2 ^ j < 2 ^ 63:=Nat.pow_lt_pow_right (by decide) h
  have:=shlI_n 1 j (by simpa using h2)
  simpa using this
/-- A digit of a number. -/
def bt (b j:Nat):Int:=if b.testBit j then 1 else 0
theorem bt_eq (b j:Nat):bt b j=(((b >>> j) &&& 1:Nat):Int):=by
  unfold bt
  rw [Nat.and_one_is_mod,Nat.shiftRight_eq_div_pow]
  have:=Nat.testBit_eq_decide_div_mod_eq (x:=b) (i:=j)
  rw [this]
  have h2:=Nat.mod_lt (b / 2 ^ j) (show 0 < 2 by decide)
  split <;> rename_i h <;> simp only [decide_eq_true_eq] at h <;> omega
theorem bitI_bt {b:Nat} (j:Nat) (hb:b < 9223372036854775808):bitI .and .i64 (shrI .i64 (b:Int) (j:Int)) (1:Int)=bt b j:=by
  rw [shrI_n b j hb,show (1:Int)=((1:Nat):Int) from rfl,bitI_and ?_ (by decide),bt_eq]
  rw [Nat.shiftRight_eq_div_pow];exact Nat.lt_of_le_of_lt (Nat.div_le_self _ _) hb
theorem i_rowsOf_eq {n:Nat} (h:n < 63):i_rowsOf K ((n:Int),())=some ((2 ^ n:Nat):Int):=by
  simp only [i_rowsOf];rw [if_pos (nn n),shl1 h]
theorem i_Func_rows_eq {n:Nat} (b:Int) (h:n < 63):i_Func_rows K (((n:Int),b,()),())=some ((2 ^ n:Nat):Int):=by
  simp only [i_Func_rows,i_rowsOf_eq h];rfl
theorem i_bit_eq {b:Nat} (j:Nat) (h:b < 9223372036854775808):i_bit K ((b:Int),(j:Int),())=some (bt b j):=by
  simp only [i_bit];rw [if_pos (nn j),bitI_bt j h]
theorem i_Func_at_eq {n:Int} {b:Nat} (j:Nat) (h:b < 9223372036854775808):i_Func_at K ((n,(b:Int),()),(j:Int),())=some (bt b j):=by
  simp only [i_Func_at,i_bit_eq j h];rfl
end Go.Proofs.YtmlgfaojfmkdnaaGreatDoor.Dg
namespace Go.Proofs.YtmlgfaojfmkdnaaGreatDoor.E
open Go Go.Proofs Go.Proofs.YtmlgfaojfmkdnaaGreatDoor Go.RowKit Go.Maps
set_option maxRecDepth 100000
set_option linter.unusedVariables false
/-! sets of small numbers: maps from int64 to true -/
theorem law2:Keyed Tryz.prog 2:=int_keyed Tryz.underlying2
/-- What a map reads as that is a set of numbers below 65536. -/
structure SetD (D:DataW Nat) (S:Nat->Prop):Prop where
  map:IsMap D
  keys:∀ kl,has D kl=true->∃ x:Nat,x < 65536/\kl=.int .i64 x
  mem:∀ x:Nat,has D (.int .i64 x)=true ↔ S x
  val:∀ x:Nat,D.atKey (.int .i64 x) (.lit (.bool false))=.lit (.bool (has D (.int .i64 x)))
theorem SetD.empty:SetD (.map []) (fun _=>False) :=
  ⟨isMap_empty,fun kl h=>by simp [has] at h,fun x=>by simp [has],fun x=>by simp [has,DataW.atKey]⟩
theorem isKey_int (x:Nat):WideAt.IsKeyLit (.int .i64 x):=trivial
theorem SetD.put {D:DataW Nat} {S:Nat->Prop} (h:SetD D S) {x:Nat} (hx:x < 65536):SetD (D.put (.int .i64 x) (.lit (.bool true))) (fun y=>S y\/y=x):=by
  refine ⟨h.map.put _ _,fun kl hk=>?_,fun y=>?_,fun y=>?_⟩
  · by_cases e:kl=.int .i64 x
    · exact ⟨x,hx,e⟩
    · rw [has_put_other e] at hk;exact h.keys kl hk
  · by_cases e:y=x
    · subst e;simp [has_put_same h.map (isKey_int y)]
    · have e2:(Lit.int .i64 (y:Int)) ≠ .int .i64 (x:Int):=fun c=>e (by injection c with _ c;exact Int.ofNat_inj.1 c)
      rw [has_put_other e2,h.mem];simp [e]
  · by_cases e:y=x
    · subst e;rw [atKey_put_same h.map (isKey_int y),has_put_same h.map (isKey_int y)]
    · have e2:(Lit.int .i64 (y:Int)) ≠ .int .i64 (x:Int):=fun c=>e (by injection c with _ c;exact Int.ofNat_inj.1 c)
      rw [atKey_put_other e2,has_put_other e2];exact h.val y
theorem SetD.congr {D:DataW Nat} {S T:Nat->Prop} (h:SetD D S) (e:∀ x,S x ↔ T x):SetD D T:=⟨h.map,h.keys,fun x=>(h.mem x).trans (e x),h.val⟩
def SetM (w:World) (b N:Nat) (S:Nat->Prop):Prop:=∃ D,w.ownsMap Tryz.prog 2 (plainElem Tryz.prog 4) b N D/\SetD D S
theorem SetM.kept {w w':World} {row:Option Nat} {b N:Nat} {S:Nat->Prop} (h:SetM w b N S) (hg:w.grownBy w' row) (hne:some b ≠ row):SetM w' b N S:=by
  obtain ⟨D,h1,h2⟩:=h;exact ⟨D,h1.kept hg hne,h2⟩
theorem SetM.lt {w:World} {b N:Nat} {S:Nat->Prop} (h:SetM w b N S):b < w.heap.size:=by
  obtain ⟨D,h1,h2⟩:=h;exact h1.lt
theorem SetM.congr {w:World} {b N:Nat} {S T:Nat->Prop} (h:SetM w b N S) (e:∀ x,S x ↔ T x):SetM w b N T:=by
  obtain ⟨D,h1,h2⟩:=h;exact ⟨D,h1,h2.congr e⟩
theorem SetM.mono {w:World} {b N N':Nat} {S:Nat->Prop} (h:SetM w b N S) (e:N<=N'):SetM w b N' S:=by
  obtain ⟨D,h1,h2⟩:=h;exact ⟨D,h1.mono e,h2⟩
theorem SetM.made (w:World):SetM (w.alloc (.map #[] 0)) w.heap.size 0 (fun _=>False):=⟨_,World.ownsMap_made w _ _ _,SetD.empty⟩
theorem i64_wf {x:Nat} (hx:x < 65536):(Lit.int .i64 (x:Int)).wf=true:=by
  have h1:IntKind.min .i64 = -9223372036854775808:=by decide
  have h2:IntKind.max .i64=9223372036854775807:=by decide
  simp only [Lit.wf,h1,h2,Bool.and_eq_true,decide_eq_true_eq]
  omega
section
variable {w:World} {ops:Array Oper} {rest:List Oper} {o:Oper} {a:Act} {Q:Exit->Act->World->Prop}
theorem wpList_setPut (hg:o.guard=none) (m x:Operand) (hop:o.op=Op.mapUpdate 169 m x (.const (.bool true))) (b N:Nat) (S:Nat->Prop) (hm:a.eval m=.map (some b)) (hS:SetM w b N S) (hN:N < maxLen) (k:Nat) (hx:a.eval x=.int .i64 k) (hk:k < 65536)
    (hK:∀ w',SetM w' b (N + 1) (fun y=>S y\/y=k)->w.grownBy w' (some b)->wpList Tryz.prog ops Q rest (a.put o.dst undef) w'):wpList Tryz.prog ops Q (o :: rest) a w:=by
  obtain ⟨D,h1,h2⟩:=hS
  exact wpList_mapUpdate_own w hg m x _ 169 hop 2 4 law2 Tryz.underlying169 _ b N D hm h1 hN _ _ _ hx rfl (keyOf_int_mk Tryz.underlying2 (i64_wf hk)) _ [] (plainElem_bool Tryz.underlying4 true) (fun w' r1 r2=>hK w' ⟨_,r1,h2.put hk⟩ r2)
theorem wpList_setInsert (hg:o.guard=none) (m x:Operand) (hop:o.op=Op.insert 169 m x (.const (.bool true))) (b N:Nat) (S:Nat->Prop) (hm:a.eval m=.map (some b)) (hS:SetM w b N S) (hN:N < maxLen) (k:Nat) (hx:a.eval x=.int .i64 k) (hk:k < 65536)
    (hK:∀ w',SetM w' b (N + 1) (fun y=>S y\/y=k)->w.grownBy w' (some b)->wpList Tryz.prog ops Q rest (a.put o.dst undef) w'):wpList Tryz.prog ops Q (o :: rest) a w:=by
  obtain ⟨D,h1,h2⟩:=hS
  refine wpList_plain hg fun K' hK'=>?_
  obtain ⟨w',hrun,r1,r2⟩:=h1.update law2 Tryz.underlying169 hN (keyOf_int_mk Tryz.underlying2 (i64_wf hk)) (plainElem_bool Tryz.underlying4 true)
  unfold Oper.wp
  simp only [execOp,hop]
  rw [hm,hx,show a.eval (.const (.bool true))=.bool true from rfl]
  simp [hrun,Result.andThen]
  exact hK' _ _ (hK w' ⟨_,r1,h2.put hk⟩ r2)
theorem zero4 (w:World):(zeroValue 4).run Tryz.prog w=.ok (.bool false) w:=Tryz.zeroValue4 w
theorem wpList_setLook (hg:o.guard=none) (m x:Operand) (hop:o.op=Op.lookup 169 m x false) (b N:Nat) (S:Nat->Prop) (hm:a.eval m=.map (some b)) (hS:SetM w b N S) (k:Nat) (hx:a.eval x=.int .i64 k) (hk:k < 65536)
    (hK:∀ c:Bool,(c=true ↔ S k)->wpList Tryz.prog ops Q rest (a.put o.dst (.bool c)) w):wpList Tryz.prog ops Q (o :: rest) a w:=by
  obtain ⟨D,h1,h2⟩:=hS
  refine wpList_plain hg fun K' hK'=>?_
  obtain ⟨v,ps,hrun,hv⟩:=h1.lookup law2 Tryz.underlying169 (zero4 w) (plainElem_bool Tryz.underlying4 false) (keyOf_int_mk Tryz.underlying2 (i64_wf hk))
  rw [h2.val] at hv
  obtain rfl:v=.bool (has D (.int .i64 k)):=by
    simp only [plainElem,Tryz.underlying4] at hv
    revert hv
    cases v <;> simp <;> intro h <;> simp_all
  unfold Oper.wp
  simp [execOp,hop,hm,hx,hrun,Result.andThen]
  exact hK' _ _ (hK _ (h2.mem k))
theorem wpList_setLen (hg:o.guard=none) (m:Operand) (hop:o.op=Op.call { callee:=Callee.builtin Builtin.len,args:=#[m],argTypes:=#[169] }) (b N:Nat) (S:Nat->Prop) (hm:a.eval m=.map (some b)) (hS:SetM w b N S)
    (hK:∀ c:Nat,(c=0 ↔ ∀ x,¬ S x)->c<=N->wpList Tryz.prog ops Q rest (a.put o.dst (.int .i64 c)) w):wpList Tryz.prog ops Q (o :: rest) a w:=by
  obtain ⟨D,h1,h2⟩:=hS
  refine wpList_len_own w hg m 169 hop 2 4 Tryz.underlying169 _ b N D hm h1 (hK (Maps.size D) ?_ h1.size_le)
  obtain ⟨es,rfl,_,hes⟩:=h1.entries law2
  constructor
  · intro h x hx
    have:=(h2.mem x).2 hx
    have h0:es=[]:=List.eq_nil_of_length_eq_zero h
    subst h0;simp [has] at this
  · intro h
    show es.length=0
    cases es with
    | nil=>rfl
    | cons p es =>
      have hk:has (.map (p :: es)) p.1=true:=by
        have:p.1.sameKey p.1=true:=WideAt.sameKey_self (hes p (by simp))
        simp [has,this]
      obtain ⟨x,_,e⟩:=h2.keys _ hk
      rw [e] at hk
      exact absurd ((h2.mem x).1 hk) (h x)
/-- A range over a set under way: L: what is still to come. -/
def SetR (w:World) (b r N:Nat) (S L:Nat->Prop) (cnt:Nat):Prop:=∃ D left,w.ranges Tryz.prog 2 (plainElem Tryz.prog 4) b r N D left cnt/\SetD D S/\(∀ kl,left kl=true->has D kl=true)/\∀ x:Nat,left (.int .i64 x)=true ↔ L x
theorem SetR.kept {w w':World} {row:Option Nat} {b r N cnt:Nat} {S L:Nat->Prop} (h:SetR w b r N S L cnt) (hg:w.grownBy w' row) (hb:some b ≠ row) (hr:some r ≠ row):SetR w' b r N S L cnt:=by
  obtain ⟨D,left,h1,h2,h3,h4⟩:=h;exact ⟨D,left,h1.kept hg hb hr,h2,h3,h4⟩
theorem SetR.set {w:World} {b r N cnt:Nat} {S L:Nat->Prop} (h:SetR w b r N S L cnt):SetM w b N S:=by
  obtain ⟨D,left,h1,h2,h3,h4⟩:=h;exact ⟨D,h1.owns,h2⟩
theorem SetR.left_eq {w:World} {b r N cnt:Nat} {S L:Nat->Prop} (h:SetR w b r N S L cnt):w.rangeLeft b r=cnt:=by
  obtain ⟨D,left,h1,h2,h3,h4⟩:=h;exact h1.left_eq
theorem SetR.lt {w:World} {b r N cnt:Nat} {S L:Nat->Prop} (h:SetR w b r N S L cnt):r < w.heap.size:=by
  obtain ⟨D,left,h1,h2,h3,h4⟩:=h;exact h1.lt
theorem wpList_setRange (hg:o.guard=none) (m:Operand) (hop:o.op=Op.range 169 m) (b N:Nat) (S:Nat->Prop) (hm:a.eval m=.map (some b)) (hS:SetM w b N S)
    (hK:∀ w' cnt,SetR w' b w.heap.size N S S cnt->cnt<=N->w.grownBy w' none->w'.heap.size=w.heap.size + 1->wpList Tryz.prog ops Q rest (a.put o.dst (.pointer (some ⟨w.heap.size,0,none⟩))) w'):wpList Tryz.prog ops Q (o :: rest) a w:=by
  obtain ⟨D,h1,h2⟩:=hS
  exact wpList_range_own w hg m 169 hop 2 4 law2 Tryz.underlying169 _ b N D hm h1 (fun w' r1 r2 r3=>hK w' _ ⟨D,_,r1,h2,fun kl h=>h,h2.mem⟩ h1.size_le r2 r3)
theorem wpList_setNext (hg:o.guard=none) (it:Operand) (hop:o.op=Op.next it false) (b r N:Nat) (S L:Nat->Prop) (cnt:Nat) (hit:a.eval it=.pointer (some ⟨r,0,none⟩)) (h:SetR w b r N S L cnt)
    (hDone:(∀ x,¬ L x)->wpList Tryz.prog ops Q rest (a.put o.dst (.tuple #[.bool false])) w)
    (hMore:∀ (x:Nat) (c:Value) (w':World) (cnt':Nat),x < 65536->L x->S x->SetR w' b r N S (fun y=>L y/\y ≠ x) cnt'->cnt' < cnt->w.grownBy w' (some r)->w'.heap.size=w.heap.size →
      (Instr.entry (.pointer (some ⟨r,0,none⟩))).run Tryz.prog w'=.ok (.tuple #[.int .i64 x,c]) w'->wpList Tryz.prog ops Q rest (a.put o.dst (.tuple #[.bool true,.int .i64 x,c])) w'):wpList Tryz.prog ops Q (o :: rest) a w:=by
  obtain ⟨D,left,h1,h2,h3,h4⟩:=h
  refine wpList_next_ranges w hg it hop 2 law2 (plainElem Tryz.prog 4) (Value.int .i64) id (fun key kl hkey=>by obtain ⟨x,rfl,_⟩:=Maps.keyOf_int_inv Tryz.underlying2 hkey;exact ⟨x,rfl⟩) (fun v y hv=>⟨v,rfl⟩) b r N D left cnt hit h1 (fun h0 hl=>hDone (fun x hx=>by rw [<-h4,hl] at hx;cases hx)) ?_
  intro x c kl y w' cnt' hkey hlk hv hat hrg hlt hgr hsz hen
  obtain ⟨x',ex,rfl,hwx⟩:=Maps.keyOf_int_inv Tryz.underlying2 hkey
  cases ex
  obtain ⟨n,hn,e⟩:=h2.keys _ (h3 _ hlk)
  injection e with _ e
  subst e
  refine hMore n c w' cnt' hn ((h4 n).1 hlk) ((h2.mem n).1 (h3 _ hlk)) ⟨D,_,hrg,h2,fun kl h=>h3 kl (by simp at h;exact h.1),fun z=>?_⟩ hlt hgr hsz hen
  simp only [Bool.and_eq_true,h4,Bool.not_eq_true',Lit.sameKey]
  by_cases e:z=n
  · subst e;simp
  · simp [e,Int.ofNat_inj]
end
end Go.Proofs.YtmlgfaojfmkdnaaGreatDoor.E
namespace Go.Proofs.YtmlgfaojfmkdnaaGreatDoor.E
open Go Go.Proofs Go.Proofs.YtmlgfaojfmkdnaaGreatDoor Go.RowKit Go.Maps
set_option maxRecDepth 100000
set_option maxHeartbeats 4000000
set_option linter.unusedVariables false
/-- the sets of the rows with the value c -/
def degS (n b c:Nat) (m:Nat):List Nat:=((List.range m).filter fun r=>(b.testBit r).toNat == c).map fun r=>if c=0 then 2 ^ n - 1 - r else r
def stepL (n:Nat) (M S:List Nat):List Nat:=(List.range (2 ^ n)).filter fun x=>M.any fun a=>S.any fun y=>a &&& y == x
def degGo (n:Nat) (S:List Nat):Nat->Nat->List Nat->Nat
  | 0,_,_=>9
  | f + 1,k,M=>if 0 ∈ stepL n M S then k else degGo n S f (k + 1) (stepL n M S)
def degN (n b c:Nat):Nat:=if degS n b c (2 ^ n)=[] then 9 else degGo n (degS n b c (2 ^ n)) 9 0 [2 ^ n - 1]
theorem calls_of {f:Nat} {A R:Ty} {F:den A->Option (den R)} {mu:List Bool} {fn:Func} {c:Code} (h:FnOk Tryz.prog f ⟨A,mu,R,F⟩) (hm:mu.any id=false) (hf:Tryz.prog.funcs[f]?=some fn) (hname:(fn.name == "runtime.NumGoroutine")=false) (hb:fn.body=some c)
    (w:World) (vs:List Value) (x:den A) (y:den R) (hx:RX Tryz.prog A true w (fun b=>b < w.heap.size) vs x) (hy:F x=some y):Calls Tryz.prog f vs.toArray w fun e w'=>∃ v,e=.returned v/\Ret R y w v w' :=
  ((h.plain hm) w vs x y hx hy).calls hf hname hb
theorem rows_calls (w:World) (n b:Nat) (hn:n<=4):Calls Tryz.prog 126 #[.agg #[.int .i64 n,.int .i64 b]] w fun e w'=>e=.returned (.int .i64 ((2 ^ n:Nat):Int))/\Below w.heap.size w w':=by
  refine (calls_of (ok_i_Func_rows 0) rfl Tryz.func126 (by kernel_rfl) (c:=bodyOf Tryz.f126) (by kernel_rfl) w [.agg #[.int .i64 n,.int .i64 b]] (((n:Int),(b:Int),()),()) _ ?_ (Dg.i_Func_rows_eq (K:=0) (b:Int) (by omega))).mono ?_
  · exact ⟨[.int .i64 n,.int .i64 b],[],rfl,⟨[.int .i64 n],[.int .i64 b],rfl,rfl,⟨[.int .i64 b],[],rfl,rfl,rfl⟩⟩,rfl⟩
  · rintro e w' ⟨v,rfl,bs,⟨cs,h0,h1,h2⟩,h3,h4,h5⟩
    have h1:cs=[.int .i64 ((2 ^ n:Nat):Int)]:=h1
    subst h1
    cases h0
    exact ⟨rfl,h5⟩
theorem bt_toNat (b r:Nat):((b.testBit r).toNat:Int)=Dg.bt b r:=by unfold Dg.bt;cases b.testBit r <;> rfl
theorem at_calls (w:World) (n b r:Nat) (hb:b < 65536):Calls Tryz.prog 127 #[.agg #[.int .i64 n,.int .i64 b],.int .i64 r] w fun e w'=>e=.returned (.int .i64 ((b.testBit r).toNat:Int))/\Below w.heap.size w w':=by
  refine (calls_of (ok_i_Func_at 0) rfl Tryz.func127 (by kernel_rfl) (c:=bodyOf Tryz.f127) (by kernel_rfl) w [.agg #[.int .i64 n,.int .i64 b],.int .i64 r] (((n:Int),(b:Int),()),((r:Int),())) _ ?_ (Dg.i_Func_at_eq (K:=0) (n:=(n:Int)) r (by omega))).mono ?_
  · exact ⟨[.int .i64 n,.int .i64 b],[.int .i64 r],rfl,⟨[.int .i64 n],[.int .i64 b],rfl,rfl,⟨[.int .i64 b],[],rfl,rfl,rfl⟩⟩,⟨[.int .i64 r],[],rfl,rfl,rfl⟩⟩
  · rintro e w' ⟨v,rfl,bs,⟨cs,h0,h1,h2⟩,h3,h4,h5⟩
    have h1:cs=[.int .i64 (Dg.bt b r)]:=h1
    subst h1
    cases h0
    exact ⟨by rw [bt_toNat];rfl,h5⟩
def DegW (w:World) (n b c:Nat) (e:Ending) (w':World):Prop:=e=.returned (.int .i64 (degN n b c:Nat))/\Below w.heap.size w w'
theorem box_cells {w:World} {H n b:Nat} (h:w.heap[H]?=some (.cells #[.int .i64 n,.int .i64 b] 30 (0,0))):w.cell? ⟨H,0,none⟩=some (.int .i64 n)/\w.cell? ⟨H,1,none⟩=some (.int .i64 b):=⟨by simp [World.cell?,h],by simp [World.cell?,h]⟩
theorem alloc2_0 (w:World) (o o':Obj):((w.alloc o).alloc o').heap[w.heap.size]?=some o:=by
  rw [alloc_get,if_neg (by simp),alloc_get,if_pos rfl]
theorem grown_of_below {w w':World} (h:Below w.heap.size w w'):w.grownBy w' none:=⟨h.os,h.tape,h.output,h.size,fun k hk _=>h.block k hk⟩
theorem mono1 {w:World} {o:Obj} {w1:World} {n b:Nat} (e:o=.cells #[.int .i64 n,.int .i64 b] 30) (h:Below ((w.alloc o).alloc (.map #[] 0)).heap.size ((w.alloc o).alloc (.map #[] 0)) w1) :
    SetM w1 (w.heap.size + 1) 0 (fun _=>False)/\w1.heap[w.heap.size]?=some (.cells #[.int .i64 n,.int .i64 b] 30 (0,0))/\Below w.heap.size w w1/\w.heap.size + 2<=w1.heap.size:=by
  subst e
  have hg:=grown_of_below h
  have hs:=h.size
  simp at hs
  refine ⟨?_,?_,?_,by omega⟩
  · have:=(SetM.made (w.alloc (.cells #[.int .i64 n,.int .i64 b] 30))).kept hg (by simp)
    simpa using this
  · rw [h.block _ (by simp;omega)];exact alloc2_0 _ _ _
  · exact (((Below.refl _ w).alloc (Nat.le_refl _) _).alloc (by simp) _).grown hg (by simp;omega) (fun j hj=>by cases hj)
theorem degS_succ (n b c r:Nat):degS n b c (r + 1)=degS n b c r ++ (if (b.testBit r).toNat == c then [if c=0 then 2 ^ n - 1 - r else r] else []):=by
  simp only [degS,List.range_succ,List.filter_append,List.map_append]
  congr 1
  cases h:((b.testBit r).toNat == c) <;> simp [List.filter,h]
theorem deg_next {n b c r N b0:Nat} {w:World} {k:Nat} (hk:k=if c=0 then 2 ^ n - 1 - r else r) (he:(((b.testBit r).toNat:Int) == (c:Int))=true) (h:SetM w b0 N (fun y=>y ∈ degS n b c r\/y=k)):SetM w b0 N (fun y=>y ∈ degS n b c (r + 1)):=by
  have he:((b.testBit r).toNat == c)=true:=by
    rw [beq_iff_eq] at he ⊢;omega
  rw [degS_succ,if_pos he,<-hk]
  exact h.congr fun x=>by simp
theorem deg_same {n b c r N b0:Nat} {w:World} (he:(((b.testBit r).toNat:Int) == (c:Int))=false) (h:SetM w b0 N (fun y=>y ∈ degS n b c r)):SetM w b0 N (fun y=>y ∈ degS n b c (r + 1)):=by
  have he:((b.testBit r).toNat == c)=false:=by
    rw [beq_eq_false_iff_ne] at he ⊢;omega
  rw [degS_succ,he];simpa using h
theorem degS_lt (n b c:Nat):∀ y ∈ degS n b c (2 ^ n),y < 2 ^ n:=by
  intro y hy
  simp only [degS,List.mem_map,List.mem_filter,List.mem_range] at hy
  obtain ⟨r,⟨hr,_⟩,rfl⟩:=hy
  split <;> omega
theorem and_lt {x y:Nat} (h:x < 65536):x &&& y < 65536:=Nat.lt_of_le_of_lt Nat.and_le_left h
theorem step_mem {n:Nat} {M S:List Nat} (h:∀ a ∈ M,a < 2 ^ n) (z:Nat):z ∈ stepL n M S ↔ ∃ a,a ∈ M/\∃ y,y ∈ S/\z=a &&& y:=by
  simp only [stepL,List.mem_filter,List.mem_range,List.any_eq_true,beq_iff_eq]
  constructor
  · rintro ⟨_,a,ha,y,hy,e⟩;exact ⟨a,ha,y,hy,e.symm⟩
  · rintro ⟨a,ha,y,hy,e⟩;exact ⟨e ▸ Nat.lt_of_le_of_lt Nat.and_le_left (h a ha),a,ha,y,hy,e.symm⟩
theorem and_val {x y:Nat} (hx:x < 65536) (hy:y < 65536):Value.int .i64 (bits BinOp.and .i64 (x:Int) (y:Int))=.int .i64 ((x &&& y:Nat):Int):=congrArg _ (Dg.bitI_and (by omega) (by omega))
theorem mr_cast {m r:Nat} (h:r < m):Value.int .i64 ((m:Int) - 1 - (r:Int))=.int .i64 ((m - 1 - r:Nat):Int):=congrArg _ (by omega)
theorem ne_nil {c1:Nat} {l:List Nat} (h:l ≠ []) (hc:c1=0 ↔ ∀ x,¬ x ∈ l):((c1:Int) == 0)=false:=by
  rw [beq_eq_false_iff_ne];intro e
  exact h (List.eq_nil_iff_forall_not_mem.2 (hc.1 (by omega)))
theorem box_below {w w':World} {H n b:Nat} (hb:Below w.heap.size w w') (h:w.heap[H]?=some (.cells #[.int .i64 n,.int .i64 b] 30 (0,0))):w'.heap[H]?=some (.cells #[.int .i64 n,.int .i64 b] 30 (0,0)):=by
  rw [hb.block H (Array.getElem?_eq_some_iff.1 h).1];exact h
theorem dg_calls (w:World) (n b c:Nat) (hn:n<=4) (hb:b < 65536) (hc:c<=1):Calls Tryz.prog 169 #[.agg #[.int .i64 n,.int .i64 b],.int .i64 c] w (DegW w n b c):=by
  have hp16:2 ^ n<=16:=Nat.pow_le_pow_right (by decide) hn
  obtain ⟨m,hm⟩:∃ m,m=2 ^ n:=⟨_,rfl⟩
  have hrows:=fun w=>rows_calls w n b hn
  rw [<-hm] at hp16
  have hm1:1<=m:=hm ▸ Nat.one_le_two_pow
  simp only [<-hm] at hrows
  have A0:Aside (m=2 ^ n):=hm
  clear hm
  have hmm:∀ (t:TypeId) (w:World),(Instr.makeMap t none).run Tryz.prog w=_:=@run_makeMap Tryz.prog
  go_enter Tryz.func169,Tryz.ntmps169
  go_wp2_with (first
    | (go_at_call 126;refine (hrows _).mono ?_;rintro e w1 ⟨rfl,hbe1⟩)
    | go_in)
  obtain ⟨hset1,hbox1,hbel1,hsz1⟩:=mono1 rfl hbe1
  clear hbe1
  go_loopw [16] (fun t16 wr=>∃ r:Nat,r<=m/\t16=.int .i64 r/\SetM wr (w.heap.size + 1) r (fun x=>x ∈ degS n b c r)/\wr.heap[w.heap.size]?=some (.cells #[.int .i64 n,.int .i64 b] 30 (0,0))/\Below w.heap.size w wr/\w.heap.size + 2<=wr.heap.size)
    (fun t16 _=>m - (intOf t16).toNat)
  case atStart=>exact ⟨0,by omega,rfl,hset1.congr (fun x=>by simp [degS]),hbox1,hbel1,hsz1⟩
  case round =>
    obtain ⟨r,hr,rfl,hset,hbox,hbel,hsz⟩:=hrel
    obtain ⟨hx0,hx1⟩:=box_cells hbox
    by_cases hrm:r=m
    · subst hrm
      have hlow:w.heap.size < wr.heap.size:=by omega
      have hbox2:(wr.alloc (.map #[] 0)).heap[w.heap.size]?=some (.cells #[.int .i64 n,.int .i64 b] 30 (0,0)):=by rw [alloc_get,if_neg (by omega)];exact hbox
      obtain ⟨hy0,hy1⟩:=box_cells hbox2
      by_cases hS:degS n b c r=[]
      · go_wp2_with (first
          | (at_len;refine wpList_setLen rfl _ rfl (w.heap.size + 1) _ _ rfl hset ?_;intro c1 hc1 hc2;obtain rfl:c1=0:=hc1.2 (by rw [hS];simp))
          | go_in)
        go_ret
        refine ⟨?_,hbel⟩
        have hm:r=2 ^ n:=A0
        rw [degN,if_pos (hm ▸ hS)];rfl
      · go_wp2_with (first
          | (at_len;refine wpList_setLen rfl _ rfl (w.heap.size + 1) _ _ rfl hset ?_;intro c1 hc1 hc2;have hc3:((c1:Int) == 0)=false:=ne_nil hS hc1)
          | (go_at_call 126;refine (hrows _).mono ?_;rintro e w3 ⟨rfl,hbe3⟩)
          | (refine wpList_setInsert rfl _ _ rfl wr.heap.size 0 (fun _=>False) rfl (((SetM.made wr).kept (grown_of_below hbe3) (by simp))) (by unfold maxLen;omega) (r - 1) (congrArg (Value.int .i64) (by omega)) (by omega) ?_;intro w4 hset4 hg4)
          | go_in)
        have hg1:=World.grownBy_alloc wr (.map #[] 0) none
        have hsets:=(((hset.kept hg1 (by simp)).kept (grown_of_below hbe3) (by simp)).kept hg4 (by simp;omega)).mono hp16
        have hbel4:Below w.heap.size w w4:=((hbel.alloc (by omega) _).grown (grown_of_below hbe3) (by simp;omega) (fun j hj=>by cases hj)).grown hg4 (by have:=hbe3.size;simp at this;omega) (fun j hj=>by cases hj;omega)
        obtain ⟨SL,hSL⟩:∃ SL,SL=degS n b c r:=⟨_,rfl⟩
        have A1:Aside (degGo n SL 9 0 [r - 1]=degN n b c):=by
          have hm:r=2 ^ n:=A0
          show degGo n SL 9 0 [r - 1]=degN n b c
          rw [degN,<-hm,<-hSL,if_neg (hSL ▸ hS)]
        have A2:Aside (∀ y ∈ SL,y < r):=by
          have hm:r=2 ^ n:=A0
          show ∀ y ∈ SL,y < r
          rw [hSL,hm];exact degS_lt n b c
        rw [<-hSL] at hsets
        have hset5:SetM w4 wr.heap.size 16 (fun x=>x ∈ [r - 1]):=(hset4.congr (fun x=>by simp)).mono (by decide)
        clear hx0 hx1 hy0 hy1 hS hSL hset hset4 hc1 hc2 hc3 hbox hbox2 hbe3 hg4 hg1 hbel hmm
        have hmm:∀ (t:TypeId) (w:World),(Instr.makeMap t none).run Tryz.prog w=_:=@run_makeMap Tryz.prog
        go_loopw [8,9] (fun t8 t9 wr=>∃ (k bm NM:Nat) (M:List Nat),k<=9/\t8=.map (some bm)/\t9=.int .i64 k/\SetM wr bm NM (fun x=>x ∈ M)/\NM<=16 ^ (k + 1)/\w.heap.size + 2<=bm/\(∀ a ∈ M,a < r) ∧
            degGo n SL (9 - k) k M=degN n b c/\SetM wr (w.heap.size + 1) 16 (fun x=>x ∈ SL)/\Below w.heap.size w wr) (fun _ t9 _=>9 - (intOf t9).toNat)
        case atStart=>exact ⟨0,wr.heap.size,16,[r - 1],by omega,rfl,rfl,hset5,by decide,by omega,fun a ha=>by simp at ha;omega,A1,hsets,hbel4⟩
        case round =>
          obtain ⟨k,bm,NM,M,hk,rfl,rfl,hM,hNM,hbm,hMr,hgo,hsets,hbel⟩:=hrel
          have A3:Aside (degGo n SL (9 - k) k M=degN n b c):=hgo
          clear hgo
          by_cases hk9:k=9
          · subst hk9
            go_wp2
            go_ret
            have h9:degGo n SL (9 - 9) 9 M=degN n b c:=A3
            refine ⟨?_,hbel⟩
            rw [<-h9];rfl
          · have hbmlt:=hM.lt
            have hNMb:NM<=68719476736:=Nat.le_trans hNM (Nat.le_trans (Nat.pow_le_pow_right (by decide) (by omega:k + 1<=9)) (by decide))
            have hM1:=hM.kept (World.grownBy_alloc _ (.map #[] 0) none) (by simp)
            go_wp2_with (first
              | (at_range;refine wpList_setRange rfl _ rfl bm NM _ rfl hM1 ?_;intro w5 cnt5 hrg5 hcnt5 hg5 hs5)
              | go_in)
            go_frame
            have hset6:=(SetM.made wr).kept hg5 (by simp)
            have hsets6:=((hsets.kept (World.grownBy_alloc wr (.map #[] 0) none) (by simp)).kept hg5 (by simp))
            have hbel6:=(hbel.alloc (by omega) (.map #[] 0)).grown hg5 (by simp;omega) (fun j hj=>by cases hj)
            simp only [alloc_size] at hrg5 hs5
            have hk9b:decide ((k:Int) < 9)=true:=decide_eq_true (by omega)
            simp only [alloc_size,hk9b]
            clear hg5 hM1 hbox1 hset1 hbel1
            generalize hbn:wr.heap.size=bn at *
            go_loopw [11] (fun _ wq=>∃ (L:Nat->Prop) (cnt N:Nat),SetR wq bm (bn + 1) NM (fun x=>x ∈ M) L cnt/\SetM wq bn N (fun z=>∃ a,a ∈ M/\¬ L a/\∃ y,y ∈ SL/\z=a &&& y)/\N + 16 * cnt<=16 * NM/\SetM wq (w.heap.size + 1) 16 (fun x=>x ∈ SL)/\Below w.heap.size w wq/\bn + 2<=wq.heap.size)
              (fun _ wq=>wq.rangeLeft bm (bn + 1))
            case atStart=>exact ⟨_,cnt5,0,hrg5,hset6.congr (fun x=>⟨False.elim,fun ⟨a,h1,h2,_⟩=>h2 h1⟩),by omega,hsets6,hbel6,by omega⟩
            case round =>
              obtain ⟨L,cnt,N,hrgM,hN1,hN2,hsets7,hbel7,hsz7⟩:=hrel
              go_wp2_with (first
                | (at_next;go_loud (refine wpList_setNext rfl _ rfl bm (bn + 1) NM (fun x=>x ∈ M) L cnt rfl hrgM ?_ ?_))
                | go_in)
              · intro hL0
                go_wp2_with (first
                  | (at_lookup;go_loud (refine wpList_setLook rfl _ _ rfl bn N _ rfl hN1 0 rfl (by decide) ?_);intro c9 hc9)
                  | go_in)
                all_goals have hMr2:∀ a ∈ M,a < 2 ^ n:=fun a ha=>(show r=2 ^ n from A0) ▸ hMr a ha
                all_goals have hst:∀ z,(∃ a,a ∈ M/\¬ L a/\∃ y,y ∈ SL/\z=a &&& y) ↔ z ∈ stepL n M SL:=fun z=>⟨fun ⟨a,h1,_,h2⟩=>(step_mem hMr2 z).2 ⟨a,h1,h2⟩,fun h=>by obtain ⟨a,h1,h2⟩:=(step_mem hMr2 z).1 h;exact ⟨a,h1,hL0 a,h2⟩⟩
                all_goals have h9:degGo n SL (9 - k) k M=degN n b c:=A3
                all_goals rw [show 9 - k=(9 - (k + 1)) + 1 by omega,degGo] at h9
                · have hz:0 ∈ stepL n M SL:=(hst 0).1 (hc9.1 (by assumption))
                  rw [if_pos hz] at h9
                  go_ret
                  exact ⟨by rw [<-h9];rfl,hbel7⟩
                · have hz:¬ 0 ∈ stepL n M SL:=fun h=>by
                    have h1:c9=true:=hc9.2 ((hst 0).2 h)
                    have h2:c9=false:=by assumption
                    rw [h1] at h2;cases h2
                  rw [if_neg hz] at h9
                  refine ⟨⟨k + 1,bn,16 * NM,stepL n M SL,by omega,rfl,rfl,(hN1.congr hst).mono (by omega),?_,by omega,fun a ha=>?_,h9,hsets7,hbel7⟩,?_⟩
                  · rw [Nat.pow_succ 16 (k + 1)];omega
                  · have:=(List.mem_range.1 (List.mem_filter.1 ha).1);rw [show r=2 ^ n from A0];exact this
                  · simp [intOf];omega
              · intro x cx w8 cnt8 hx16 hLx hxM hrg8 hlt8 hg8 hs8 hen8
                go_wp2_with (first
                  | (at_range;refine wpList_setRange rfl _ rfl (w.heap.size + 1) 16 _ rfl (hsets7.kept hg8 (by simp;omega)) ?_;intro w9 cnt9 hrg9 hcnt9 hg9 hs9)
                  | go_in)
                go_frame
                have hN9:=(hN1.kept hg8 (by simp)).kept hg9 (by simp)
                have hrgM9:=hrg8.kept hg9 (by simp) (by simp)
                have hbel9:=(hbel7.grown hg8 (by omega) (fun j hj=>by cases hj;omega)).grown hg9 (by omega) (fun j hj=>by cases hj)
                have hr2:bn + 2<=w8.heap.size:=by omega
                clear hg9 hg8 hN1 hsets7 hbel7 hen8 hs8
                generalize hr2e:w8.heap.size=r2 at *
                go_loopw [12] (fun _ wz=>∃ (L2:Nat->Prop) (cnt2 N2:Nat),SetR wz (w.heap.size + 1) r2 16 (fun x=>x ∈ SL) L2 cnt2/\SetM wz bn N2 (fun z=>(∃ a,a ∈ M/\¬ L a/\∃ y,y ∈ SL/\z=a &&& y)\/∃ y,y ∈ SL/\¬ L2 y/\z=x &&& y)/\N2 + cnt2 + 16 * cnt8<=16 * NM ∧
                    SetR wz bm (bn + 1) NM (fun x=>x ∈ M) (fun y=>L y/\y ≠ x) cnt8/\Below w.heap.size w wz/\r2 + 1<=wz.heap.size)
                  (fun _ wz=>wz.rangeLeft (w.heap.size + 1) r2)
                case atStart=>exact ⟨_,cnt9,N,hrg9,hN9.congr (fun z=>⟨Or.inl,fun h=>h.elim id (fun ⟨y,h1,h2,_⟩=>absurd h1 h2)⟩),by omega,hrgM9,hbel9,by omega⟩
                case round =>
                  obtain ⟨L2,cnt2,N2,hrgS,hNz,hNz2,hrgMz,hbelz,hszz⟩:=hrel
                  have hN2m:N2 < maxLen:=by unfold maxLen;omega
                  go_wp2_with (first
                    | (at_next;refine wpList_setNext rfl _ rfl (w.heap.size + 1) r2 16 (fun x=>x ∈ SL) L2 cnt2 rfl hrgS ?_ ?_)
                    | go_in)
                  · intro hL2
                    go_wp2
                    refine ⟨⟨fun y=>L y/\y ≠ x,cnt8,N2,hrgMz,hNz.congr (fun z=>?_),by omega,hrgS.set,hbelz,by omega⟩,?_⟩
                    · constructor
                      · rintro (⟨a,h1,h2,h3⟩ | ⟨y,h1,_,h3⟩)
                        · exact ⟨a,h1,fun h=>h2 h.1,h3⟩
                        · exact ⟨x,hxM,fun h=>h.2 rfl,y,h1,h3⟩
                      · rintro ⟨a,h1,h2,y,h3,h4⟩
                        by_cases e:a=x
                        · subst e;exact Or.inr ⟨y,h3,hL2 y,h4⟩
                        · exact Or.inl ⟨a,h1,fun h=>h2 ⟨h,e⟩,y,h3,h4⟩
                    · rw [hrgMz.left_eq,hrgM.left_eq];exact hlt8
                  · intro y cy wy cnty hy16 hLy hyS hrgy hlty hgy hsy heny
                    go_wp2_with (first
                      | (at_mapUpdate;go_loud (refine wpList_setPut rfl _ _ rfl bn N2 _ rfl (hNz.kept hgy (by simp;omega)) hN2m (x &&& y) (and_val hx16 hy16) (and_lt hx16) ?_);intro wp hNp hgp)
                      | go_in)
                    have hgys:=hgy.size
                    have hgps:=hgp.size
                    have hrgy2:=hrgy.kept hgp (by simp;omega) (by simp;omega)
                    have hrgMy:=(hrgMz.kept hgy (by simp;omega) (by simp;omega)).kept hgp (by simp;omega) (by simp)
                    refine ⟨⟨_,_,_,_,_,_,_,_,_,⟨fun q=>L2 q/\q ≠ y,cnty,N2 + 1,hrgy2,hNp.congr (fun z=>?_),by omega,hrgMy,?_,by omega⟩,rfl⟩,?_⟩
                    · constructor
                      · rintro ((h | ⟨q,h1,h2,h3⟩) | h)
                        · exact Or.inl h
                        · exact Or.inr ⟨q,h1,fun h=>h2 h.1,h3⟩
                        · exact Or.inr ⟨y,hyS,fun h=>h.2 rfl,h⟩
                      · rintro (h | ⟨q,h1,h2,h3⟩)
                        · exact Or.inl (Or.inl h)
                        · by_cases e:q=y
                          · subst e;exact Or.inr h3
                          · exact Or.inl (Or.inr ⟨q,h1,fun h=>h2 ⟨h,e⟩,h3⟩)
                    · exact (hbelz.grown hgy (by omega) (fun j hj=>by cases hj;omega)).grown hgp (by omega) (fun j hj=>by cases hj;omega)
                    · rw [hrgy2.left_eq,hrgS.left_eq];exact hlty
    · have hrlt:r < m:=by omega
      go_wp2_with (first
        | (go_at_call 127;refine (at_calls _ n b r hb).mono ?_;rintro e w2 ⟨rfl,hbe2⟩;  have hbox3:=box_below hbe2 hbox;obtain ⟨hz0,hz1⟩:=box_cells hbox3)
        | (go_at_call 126;refine (hrows _).mono ?_;rintro e w3 ⟨rfl,hbe3⟩)
        | (at_mapUpdate;refine wpList_setPut rfl _ _ rfl (w.heap.size + 1) r _ rfl ((hset.kept (grown_of_below hbe2) (by simp)).kept (grown_of_below hbe3) (by simp)) (by unfold maxLen;omega) (m - 1 - r) (mr_cast hrlt) (by omega) ?_;intro w4 hset4 hg4)
        | (at_mapUpdate;refine wpList_setPut rfl _ _ rfl (w.heap.size + 1) r _ rfl (hset.kept (grown_of_below hbe2) (by simp)) (by unfold maxLen;omega) r rfl (by omega) ?_;intro w4 hset4 hg4)
        | go_in)
      · have h2:=hbe2.size
        have h3:=hbe3.size
        have h4:=hg4.size
        have hc0:c=0:=by
          have h:((c:Int) == 0)=true:=by assumption
          rw [beq_iff_eq] at h;omega
        refine ⟨⟨r + 1,by omega,rfl,deg_next (by rw [if_pos hc0,<-(show m=2 ^ n from A0)]) (by assumption) hset4,?_,?_,by omega⟩,?_⟩
        · rw [hg4.block _ (by omega) (by simp)];exact box_below hbe3 hbox3
        · exact (((hbel.grown (grown_of_below hbe2) (by omega) (fun j hj=>by cases hj)).grown (grown_of_below hbe3) (by omega) (fun j hj=>by cases hj)).grown hg4 (by omega) (fun j hj=>by cases hj;omega))
        · simp [intOf];omega
      · have h2:=hbe2.size
        have h4:=hg4.size
        have hc0:c ≠ 0:=by
          have h:((c:Int) == 0)=false:=by assumption
          rw [beq_eq_false_iff_ne] at h;omega
        refine ⟨⟨r + 1,by omega,rfl,deg_next (by rw [if_neg hc0]) (by assumption) hset4,?_,?_,by omega⟩,?_⟩
        · rw [hg4.block _ (by omega) (by simp)];exact hbox3
        · exact ((hbel.grown (grown_of_below hbe2) (by omega) (fun j hj=>by cases hj)).grown hg4 (by omega) (fun j hj=>by cases hj;omega))
        · simp [intOf];omega
      · have h2:=hbe2.size
        refine ⟨⟨r + 1,by omega,rfl,(deg_same (by assumption) (hset.kept (grown_of_below hbe2) (by simp))).mono (by omega),hbox3,hbel.grown (grown_of_below hbe2) (by omega) (fun j hj=>by cases hj),by omega⟩,?_⟩
        simp [intOf];omega
end Go.Proofs.YtmlgfaojfmkdnaaGreatDoor.E
namespace Go.Proofs.YtmlgfaojfmkdnaaGreatDoor.E
open Go Go.Proofs Go.Proofs.YtmlgfaojfmkdnaaGreatDoor
set_option maxRecDepth 100000
set_option linter.unusedVariables false
noncomputable def degF (x:(Int × Int × Unit) × Int × Unit):Option Int :=
  if 0<=x.1.1/\x.1.1<=4/\0<=x.1.2.1/\x.1.2.1 < 65536/\0<=x.2.1/\x.2.1<=1 then some (degN x.1.1.toNat x.1.2.1.toNat x.2.1.toNat:Nat) else none
theorem degF_ok:FnOk Tryz.prog 169 ⟨.pair (.st (.pair (.int .i64) (.pair (.int .i64) .unit))) (.pair (.int .i64) .unit),[false,false],.int .i64,degF⟩:=by
  refine ⟨fun _=>?_,fun h=>by cases h⟩
  intro w vs x y hx hy
  obtain ⟨⟨ar,bi,u⟩,c,u2⟩:=x
  have hy:degF ((ar,bi,u),c,u2)=some y:=hy
  unfold degF at hy
  split at hy
  case isFalse=>cases hy
  rename_i h
  cases hy
  obtain ⟨h1,h2,h3,h4,h5,h6⟩:=h
  obtain ⟨n,rfl⟩:=Int.eq_ofNat_of_zero_le h1
  obtain ⟨b,rfl⟩:=Int.eq_ofNat_of_zero_le h3
  obtain ⟨c,rfl⟩:=Int.eq_ofNat_of_zero_le h5
  have hv:vs=[.agg #[.int .i64 n,.int .i64 b],.int .i64 c]:=by
    obtain ⟨cs,r,rfl,⟨c1,c2,rfl,h7,c3,c4,rfl,h8,h9⟩,c5,r2,rfl,h10,h11⟩:=hx
    have h7:c1=[.int .i64 (n:Int)]:=h7
    have h8:c3=[.int .i64 (b:Int)]:=h8
    have h9:c4=[]:=h9
    have h10:c5=[.int .i64 (c:Int)]:=h10
    have h11:r2=[]:=h11
    subst h7 h8 h9 h10 h11
    rfl
  subst hv
  refine cf_of_calls Tryz.func169 (c:=bodyOf Tryz.f169) (by kernel_rfl) (by kernel_rfl) ?_
  refine (dg_calls w n b c (by have h2:(n:Int)<=4:=h2;omega) (by have h4:(b:Int) < 65536:=h4;omega) (by have h6:(c:Int)<=1:=h6;omega)).mono ?_
  rintro e w' ⟨rfl,hb⟩
  exact ⟨_,rfl,ret_plain (R:=.int .i64) rfl rfl rfl (c:=[.int .i64 (degN n b c:Nat)]) ⟨rfl,rfl⟩ hb⟩
noncomputable def as_i_Func_degree:Ty:=(.pair tq0 (.pair (.int .i64) .unit))
noncomputable def sp_i_Func_degree (F:(dq0 × Int × Unit)->Option Int):FnSpec:=⟨as_i_Func_degree,[false,false],(.int .i64),F⟩
noncomputable def i_Func_degree (K:Nat) (x:(Int × Int × Unit) × Int × Unit):Option Int:=degF x
theorem ok_i_Func_degree (K:Nat):FnOk Tryz.prog 169 (sp_i_Func_degree (i_Func_degree K)):=degF_ok
noncomputable def C_i_Func_degree (K:Nat):CB Tryz.prog:=.f _ _ (ok_i_Func_degree K)
noncomputable def as_i_least:Ty:=(.pair (.sl tq0) (.pair (.int .i64) .unit))
noncomputable def sp_i_least (F:((List dq0) × Int × Unit)->Option Int):FnSpec:=⟨as_i_least,[false,false],(.int .i64),F⟩
noncomputable def i_least_l3 {R:Type} (K:Nat):Nat->Int->Int->(List dq0)->Int->Int->(Int->Option R)->Option R
  | 0,_,_,_,_,_,_=>none
  | k + 1,v1,v5,v8,v9,v10,kx0 =>
    (if (decide (v10 < v9))=true then
    (if (bnds v10 (v8.length:Int))=true then
    (i_Func_degree K ((v8.getD v10.toNat ((0:Int),(0:Int),())),v1,())).bind fun y1 =>
    i_least_l3 K k v1 (minL v5 [y1]) v8 v9 (IntKind.i64.wrap (v10 + (1:Int))) kx0
    else
    none)
    else
    kx0 v5)
noncomputable def i_least (K:Nat) (x:((List dq0) × Int × Unit)):Option Int :=
    i_least_l3 K K x.2.1 (9:Int) x.1 (x.1.length:Int) (0:Int) (fun z2 =>
    some z2)
noncomputable def X0_i_least:Lv:=[(5,(.v (.int .i64)))]
noncomputable def rv_i_least:Lv:=[(4,(.v (.int .i64)))]
noncomputable def D_i_least (K:Nat):List (PD (den (.int .i64))):=[.L 3 [(1,(.v (.int .i64))),(5,(.v (.int .i64))),(8,(.v (.sl tq0))),(9,(.v (.int .i64))),(10,(.v (.int .i64)))] [] (fun k x kx kr=>i_least_l3 K k x.1 x.2.1 x.2.2.1 x.2.2.2.1 x.2.2.2.2.1 (fun z0=>kx 0 (mkSt X0_i_least (z0,()))))]
theorem ok_i_least (K:Nat):FnOk Tryz.prog 100 (sp_i_least (i_least K)) :=
  fn_okD tysOk [C_i_Func_degree K] 0 (D_i_least K) [(0,X0_i_least)] rv_i_least K Tryz.func100 (by kernel_rfl) ⟨⟨fun _ _ _ _=>by kernel_rfl,fun _ _ _=>rfl⟩,trivial⟩ (fun _=>by kernel_rfl)
noncomputable def C_i_least (K:Nat):CB Tryz.prog:=.f _ _ (ok_i_least K)
noncomputable def as_internal_strconv_small:Ty:=(.pair (.int .i64) .unit)
noncomputable def sp_internal_strconv_small (F:(Int × Unit)->Option ByteArray):FnSpec:=⟨as_internal_strconv_small,[false],.str,F⟩
noncomputable def internal_strconv_small (K:Nat) (x:(Int × Unit)):Option ByteArray :=
    (if (decide (x.1 < (10:Int)))=true then
    (if (decide (0<=x.1) && decide (x.1<=(IntKind.i64.wrap (x.1 + (1:Int)))) && decide ((IntKind.i64.wrap (x.1 + (1:Int)))<=((⟨#[48,49,50,51,52,53,54,55,56,57,97,98,99,100,101,102,103,104,105,106,107,108,109,110,111,112,113,114,115,116,117,118,119,120,121,122]⟩:ByteArray).size:Int)))=true then
    let x1:=((⟨#[48,49,50,51,52,53,54,55,56,57,97,98,99,100,101,102,103,104,105,106,107,108,109,110,111,112,113,114,115,116,117,118,119,120,121,122]⟩:ByteArray).extract x.1.toNat (IntKind.i64.wrap (x.1 + (1:Int))).toNat)
    some x1
    else
    none)
    else
    let x2:=(IntKind.i64.wrap ((IntKind.i64.wrap (x.1 * (2:Int))) + (2:Int)))
    (if (decide (0<=(IntKind.i64.wrap (x.1 * (2:Int)))) && decide ((IntKind.i64.wrap (x.1 * (2:Int)))<=x2) && decide (x2<=((⟨#[48,48,48,49,48,50,48,51,48,52,48,53,48,54,48,55,48,56,48,57,49,48,49,49,49,50,49,51,49,52,49,53,49,54,49,55,49,56,49,57,50,48,50,49,50,50,50,51,50,52,50,53,50,54,50,55,50,56,50,57,51,48,51,49,51,50,51,51,51,52,51,53,51,54,51,55,51,56,51,57,52,48,52,49,52,50,52,51,52,52,52,53,52,54,52,55,52,56,52,57,53,48,53,49,53,50,53,51,53,52,53,53,53,54,53,55,53,56,53,57,54,48,54,49,54,50,54,51,54,52,54,53,54,54,54,55,54,56,54,57,55,48,55,49,55,50,55,51,55,52,55,53,55,54,55,55,55,56,55,57,56,48,56,49,56,50,56,51,56,52,56,53,56,54,56,55,56,56,56,57,57,48,57,49,57,50,57,51,57,52,57,53,57,54,57,55,57,56,57,57]⟩:ByteArray).size:Int)))=true then
    let x3:=((⟨#[48,48,48,49,48,50,48,51,48,52,48,53,48,54,48,55,48,56,48,57,49,48,49,49,49,50,49,51,49,52,49,53,49,54,49,55,49,56,49,57,50,48,50,49,50,50,50,51,50,52,50,53,50,54,50,55,50,56,50,57,51,48,51,49,51,50,51,51,51,52,51,53,51,54,51,55,51,56,51,57,52,48,52,49,52,50,52,51,52,52,52,53,52,54,52,55,52,56,52,57,53,48,53,49,53,50,53,51,53,52,53,53,53,54,53,55,53,56,53,57,54,48,54,49,54,50,54,51,54,52,54,53,54,54,54,55,54,56,54,57,55,48,55,49,55,50,55,51,55,52,55,53,55,54,55,55,55,56,55,57,56,48,56,49,56,50,56,51,56,52,56,53,56,54,56,55,56,56,56,57,57,48,57,49,57,50,57,51,57,52,57,53,57,54,57,55,57,56,57,57]⟩:ByteArray).extract (IntKind.i64.wrap (x.1 * (2:Int))).toNat x2.toNat)
    some x3
    else
    none))
noncomputable def rv_internal_strconv_small:Lv:=[(2,(.v .str))]
theorem ok_internal_strconv_small (K:Nat):FnOk Tryz.prog 199 (sp_internal_strconv_small (internal_strconv_small K)) :=
  fn_okD tysOk [] 0 [] [] rv_internal_strconv_small K Tryz.func199 (by kernel_rfl) trivial (fun _=>by kernel_rfl)
noncomputable def C_internal_strconv_small (K:Nat):CB Tryz.prog:=.f _ _ (ok_internal_strconv_small K)
noncomputable def as_math_bits_Len64:Ty:=(.pair (.int .u64) .unit)
noncomputable def sp_math_bits_Len64 (F:(Int × Unit)->Option Int):FnSpec:=⟨as_math_bits_Len64,[false],(.int .i64),F⟩
noncomputable def math_bits_Len64_j10 {R:Type} (K:Nat) (k:Nat) (v0:Int) (v2:Int) (kn:Option R) (kr:(Int->Option R)):Option R :=
    (if (bnds (IntKind.u8.wrap v0) ((⟨#[0,1,2,2,3,3,3,3,4,4,4,4,4,4,4,4,5,5,5,5,5,5,5,5,5,5,5,5,5,5,5,5,6,6,6,6,6,6,6,6,6,6,6,6,6,6,6,6,6,6,6,6,6,6,6,6,6,6,6,6,6,6,6,6,7,7,7,7,7,7,7,7,7,7,7,7,7,7,7,7,7,7,7,7,7,7,7,7,7,7,7,7,7,7,7,7,7,7,7,7,7,7,7,7,7,7,7,7,7,7,7,7,7,7,7,7,7,7,7,7,7,7,7,7,7,7,7,7,8,8,8,8,8,8,8,8,8,8,8,8,8,8,8,8,8,8,8,8,8,8,8,8,8,8,8,8,8,8,8,8,8,8,8,8,8,8,8,8,8,8,8,8,8,8,8,8,8,8,8,8,8,8,8,8,8,8,8,8,8,8,8,8,8,8,8,8,8,8,8,8,8,8,8,8,8,8,8,8,8,8,8,8,8,8,8,8,8,8,8,8,8,8,8,8,8,8,8,8,8,8,8,8,8,8,8,8,8,8,8,8,8,8,8,8,8,8,8,8,8,8,8,8,8,8,8,8]⟩:ByteArray).size:Int))=true then
    let x1:=(byteAt (⟨#[0,1,2,2,3,3,3,3,4,4,4,4,4,4,4,4,5,5,5,5,5,5,5,5,5,5,5,5,5,5,5,5,6,6,6,6,6,6,6,6,6,6,6,6,6,6,6,6,6,6,6,6,6,6,6,6,6,6,6,6,6,6,6,6,7,7,7,7,7,7,7,7,7,7,7,7,7,7,7,7,7,7,7,7,7,7,7,7,7,7,7,7,7,7,7,7,7,7,7,7,7,7,7,7,7,7,7,7,7,7,7,7,7,7,7,7,7,7,7,7,7,7,7,7,7,7,7,7,8,8,8,8,8,8,8,8,8,8,8,8,8,8,8,8,8,8,8,8,8,8,8,8,8,8,8,8,8,8,8,8,8,8,8,8,8,8,8,8,8,8,8,8,8,8,8,8,8,8,8,8,8,8,8,8,8,8,8,8,8,8,8,8,8,8,8,8,8,8,8,8,8,8,8,8,8,8,8,8,8,8,8,8,8,8,8,8,8,8,8,8,8,8,8,8,8,8,8,8,8,8,8,8,8,8,8,8,8,8,8,8,8,8,8,8,8,8,8,8,8,8,8,8,8,8,8,8]⟩:ByteArray) (IntKind.u8.wrap v0))
    kr (IntKind.i64.wrap (v2 + (IntKind.i64.wrap x1)))
    else
    none)
noncomputable def math_bits_Len64_j7 {R:Type} (K:Nat) (k:Nat) (v0:Int) (v2:Int) (kn:Option R) (kr:(Int->Option R)):Option R :=
    (if (decide (v0 ≥ (256:Int)))=true then
    math_bits_Len64_j10 K k (shrI .u64 v0 (8:Int)) (IntKind.i64.wrap (v2 + (8:Int))) none (fun z2 =>
    kr z2)
    else
    math_bits_Len64_j10 K k v0 v2 none (fun z3 =>
    kr z3))
noncomputable def math_bits_Len64_j4 {R:Type} (K:Nat) (k:Nat) (v0:Int) (v2:Int) (kn:Option R) (kr:(Int->Option R)):Option R :=
    (if (decide (v0 ≥ (65536:Int)))=true then
    math_bits_Len64_j7 K k (shrI .u64 v0 (16:Int)) (IntKind.i64.wrap (v2 + (16:Int))) none (fun z4 =>
    kr z4)
    else
    math_bits_Len64_j7 K k v0 v2 none (fun z5 =>
    kr z5))
noncomputable def math_bits_Len64 (K:Nat) (x:(Int × Unit)):Option Int :=
    (if (decide (x.1 ≥ (4294967296:Int)))=true then
    math_bits_Len64_j4 K K (shrI .u64 x.1 (32:Int)) (32:Int) none (fun z6 =>
    some z6)
    else
    math_bits_Len64_j4 K K x.1 (0:Int) none (fun z7 =>
    some z7))
noncomputable def rv_math_bits_Len64:Lv:=[(2,(.v (.int .i64)))]
noncomputable def D_math_bits_Len64 (K:Nat):List (PD (den (.int .i64))):=[.J 4 [(0,(.v (.int .u64))),(2,(.v (.int .i64)))] [] 0 (fun k x kn kx kr=>math_bits_Len64_j4 K k x.1 x.2.1 (kn ()) (fun z0=>kr (mkSt rv_math_bits_Len64 (z0,())))),
  .J 7 [(0,(.v (.int .u64))),(2,(.v (.int .i64)))] [] 0 (fun k x kn kx kr=>math_bits_Len64_j7 K k x.1 x.2.1 (kn ()) (fun z0=>kr (mkSt rv_math_bits_Len64 (z0,())))),
  .J 10 [(0,(.v (.int .u64))),(2,(.v (.int .i64)))] [] 0 (fun k x kn kx kr=>math_bits_Len64_j10 K k x.1 x.2.1 (kn ()) (fun z0=>kr (mkSt rv_math_bits_Len64 (z0,()))))]
theorem ok_math_bits_Len64 (K:Nat):FnOk Tryz.prog 213 (sp_math_bits_Len64 (math_bits_Len64 K)) :=
  fn_okD tysOk [] 0 (D_math_bits_Len64 K) [] rv_math_bits_Len64 K Tryz.func213 (by kernel_rfl) ⟨fun _ _ _ _ _=>by kernel_rfl,⟨fun _ _ _ _ _=>by kernel_rfl,⟨fun _ _ _ _ _=>by kernel_rfl,trivial⟩⟩⟩ (fun _=>by kernel_rfl)
noncomputable def C_math_bits_Len64 (K:Nat):CB Tryz.prog:=.f _ _ (ok_math_bits_Len64 K)
noncomputable def as_internal_strconv_log10Pow2:Ty:=(.pair (.int .i64) .unit)
noncomputable def sp_internal_strconv_log10Pow2 (F:(Int × Unit)->Option Int):FnSpec:=⟨as_internal_strconv_log10Pow2,[false],(.int .i64),F⟩
noncomputable def internal_strconv_log10Pow2 (K:Nat) (x:(Int × Unit)):Option Int :=
    let x1:=(shrI .i64 (IntKind.i64.wrap (x.1 * (78913:Int))) (18:Int))
    some x1
noncomputable def rv_internal_strconv_log10Pow2:Lv:=[(2,(.v (.int .i64)))]
theorem ok_internal_strconv_log10Pow2 (K:Nat):FnOk Tryz.prog 221 (sp_internal_strconv_log10Pow2 (internal_strconv_log10Pow2 K)) :=
  fn_okD tysOk [] 0 [] [] rv_internal_strconv_log10Pow2 K Tryz.func221 (by kernel_rfl) trivial (fun _=>by kernel_rfl)
noncomputable def C_internal_strconv_log10Pow2 (K:Nat):CB Tryz.prog:=.f _ _ (ok_internal_strconv_log10Pow2 K)
noncomputable def as_internal_strconv_numDigits:Ty:=(.pair (.int .u64) .unit)
noncomputable def sp_internal_strconv_numDigits (F:(Int × Unit)->Option Int):FnSpec:=⟨as_internal_strconv_numDigits,[false],(.int .i64),F⟩
noncomputable def internal_strconv_numDigits (K:Nat) (x:(Int × Unit)):Option Int :=
    (math_bits_Len64 K (x.1,())).bind fun y1 =>
    (internal_strconv_log10Pow2 K (y1,())).bind fun y2 =>
    none
noncomputable def rv_internal_strconv_numDigits:Lv:=[]
theorem ok_internal_strconv_numDigits (K:Nat):FnOk Tryz.prog 200 (sp_internal_strconv_numDigits (internal_strconv_numDigits K)) :=
  fn_okD tysOk [C_math_bits_Len64 K,C_internal_strconv_log10Pow2 K] 0 [] [] rv_internal_strconv_numDigits K Tryz.func200 (by kernel_rfl) trivial (fun _=>by kernel_rfl)
noncomputable def C_internal_strconv_numDigits (K:Nat):CB Tryz.prog:=.f _ _ (ok_internal_strconv_numDigits K)
noncomputable def as_internal_strconv_formatBits:Ty:=(.pair (.sl (.int .u8)) (.pair (.int .u64) (.pair (.int .i64) (.pair .bool (.pair .bool .unit)))))
noncomputable def sp_internal_strconv_formatBits (F:((List Int) × Int × Int × Bool × Bool × Unit)->Option ((List Int) × ByteArray × Unit)):FnSpec:=⟨as_internal_strconv_formatBits,[false,false,false,false,false],(.tup (.pair (.sl (.int .u8)) (.pair .str .unit))),F⟩
noncomputable def internal_strconv_formatBits (K:Nat) (x:((List Int) × Int × Int × Bool × Bool × Unit)):Option ((List Int) × ByteArray × Unit):=none
theorem ok_internal_strconv_formatBits (K:Nat):FnOk Tryz.prog 202 (sp_internal_strconv_formatBits (internal_strconv_formatBits K)):=fnOk_none
noncomputable def C_internal_strconv_formatBits (K:Nat):CB Tryz.prog:=.f _ _ (ok_internal_strconv_formatBits K)
noncomputable def as_internal_strconv_FormatInt:Ty:=(.pair (.int .i64) (.pair (.int .i64) .unit))
noncomputable def sp_internal_strconv_FormatInt (F:(Int × Int × Unit)->Option ByteArray):FnSpec:=⟨as_internal_strconv_FormatInt,[false,false],.str,F⟩
noncomputable def internal_strconv_FormatInt_j8 {R:Type} (K:Nat) (k:Nat) (v0:Int) (v5:(List Int)) (v6:Int) (kn:Option R) (kr:(ByteArray->Option R)):Option R :=
    (internal_strconv_numDigits K (v6,())).bind fun y2 =>
    none
noncomputable def internal_strconv_FormatInt_j4 {R:Type} (K:Nat) (k:Nat) (v0:Int) (kn:Option R) (kr:(ByteArray->Option R)):Option R :=
    (if (decide (v0 < (0:Int)))=true then
    internal_strconv_FormatInt_j8 K k v0 (List.replicate 24 (0:Int)) (IntKind.u64.wrap (0 - (IntKind.u64.wrap v0))) none (fun z3 =>
    kr z3)
    else
    internal_strconv_FormatInt_j8 K k v0 (List.replicate 24 (0:Int)) (IntKind.u64.wrap v0) none (fun z4 =>
    kr z4))
noncomputable def internal_strconv_FormatInt (K:Nat) (x:(Int × Int × Unit)):Option ByteArray :=
    (if (decide (x.2.1=(10:Int)))=true then
    (if (decide ((0:Int)<=x.1))=true then
    (if (decide (x.1 < (100:Int)))=true then
    (internal_strconv_small K (x.1,())).bind fun y1 =>
    some y1
    else
    internal_strconv_FormatInt_j4 K K x.1 none (fun z5 =>
    some z5))
    else
    internal_strconv_FormatInt_j4 K K x.1 none (fun z6 =>
    some z6))
    else
    (internal_strconv_formatBits K (([]:List Int),(IntKind.u64.wrap x.1),x.2.1,(decide (x.1 < (0:Int))),false,())).bind fun y7 =>
    some y7.2.1)
noncomputable def rv_internal_strconv_FormatInt:Lv:=[(4,(.v .str))]
noncomputable def D_internal_strconv_FormatInt (K:Nat):List (PD (den .str)):=[.J 4 [(0,(.v (.int .i64)))] [] 0 (fun k x kn kx kr=>internal_strconv_FormatInt_j4 K k x.1 (kn ()) (fun z0=>kr (mkSt rv_internal_strconv_FormatInt (z0,())))),
  .J 8 [(0,(.v (.int .i64))),(5,(.bx (.v (.arr 24 (.int .u8))))),(6,(.v (.int .u64)))] [] 0 (fun k x kn kx kr=>internal_strconv_FormatInt_j8 K k x.1 x.2.1 x.2.2.1 (kn ()) (fun z0=>kr (mkSt rv_internal_strconv_FormatInt (z0,()))))]
theorem ok_internal_strconv_FormatInt (K:Nat):FnOk Tryz.prog 192 (sp_internal_strconv_FormatInt (internal_strconv_FormatInt K)) :=
  fn_okD tysOk [C_internal_strconv_small K,C_internal_strconv_numDigits K,C_internal_strconv_formatBits K] 0 (D_internal_strconv_FormatInt K) [] rv_internal_strconv_FormatInt K Tryz.func192 (by kernel_rfl) ⟨fun _ _ _ _ _=>by kernel_rfl,⟨fun _ _ _ _ _=>by kernel_rfl,trivial⟩⟩ (fun _=>by kernel_rfl)
noncomputable def C_internal_strconv_FormatInt (K:Nat):CB Tryz.prog:=.f _ _ (ok_internal_strconv_FormatInt K)
noncomputable def as_strconv_FormatInt:Ty:=(.pair (.int .i64) (.pair (.int .i64) .unit))
noncomputable def sp_strconv_FormatInt (F:(Int × Int × Unit)->Option ByteArray):FnSpec:=⟨as_strconv_FormatInt,[false,false],.str,F⟩
noncomputable def strconv_FormatInt (K:Nat) (x:(Int × Int × Unit)):Option ByteArray :=
    (internal_strconv_FormatInt K (x.1,x.2.1,())).bind fun y1 =>
    some y1
noncomputable def rv_strconv_FormatInt:Lv:=[(4,(.v .str))]
theorem ok_strconv_FormatInt (K:Nat):FnOk Tryz.prog 170 (sp_strconv_FormatInt (strconv_FormatInt K)) :=
  fn_okD tysOk [C_internal_strconv_FormatInt K] 0 [] [] rv_strconv_FormatInt K Tryz.func170 (by kernel_rfl) trivial (fun _=>by kernel_rfl)
noncomputable def C_strconv_FormatInt (K:Nat):CB Tryz.prog:=.f _ _ (ok_strconv_FormatInt K)
noncomputable def as_i_separatedName:Ty:=(.pair .str (.pair .bool (.pair .bool (.pair (.int .i64) .unit))))
noncomputable def sp_i_separatedName (F:(ByteArray × Bool × Bool × Int × Unit)->Option ByteArray):FnSpec:=⟨as_i_separatedName,[false,false,false,false],.str,F⟩
noncomputable def i_separatedName (K:Nat) (x:(ByteArray × Bool × Bool × Int × Unit)):Option ByteArray :=
    (i_choose K (x.2.1,(⟨#[48]⟩:ByteArray),(⟨#[49]⟩:ByteArray),())).bind fun y1 =>
    (i_choose K (x.2.1,(⟨#[50]⟩:ByteArray),(⟨#[]⟩:ByteArray),())).bind fun y2 =>
    (i_choose K (x.2.2.1,y1,y2,())).bind fun y3 =>
    (if (decide (x.2.2.2.1 < (9:Int)))=true then
    (if (decide (x.1.size + y3.size<=9223372036854775807))=true then
    (if (decide ((x.1 ++ y3).size + (⟨#[94]⟩:ByteArray).size<=9223372036854775807))=true then
    (strconv_FormatInt K (x.2.2.2.1,(10:Int),())).bind fun y4 =>
    (if (decide (((x.1 ++ y3) ++ (⟨#[94]⟩:ByteArray)).size + y4.size<=9223372036854775807))=true then
    some (((x.1 ++ y3) ++ (⟨#[94]⟩:ByteArray)) ++ y4)
    else
    none)
    else
    none)
    else
    none)
    else
    (if (decide (x.1.size + y3.size<=9223372036854775807))=true then
    some (x.1 ++ y3)
    else
    none))
noncomputable def rv_i_separatedName:Lv:=[(8,(.v .str))]
theorem ok_i_separatedName (K:Nat):FnOk Tryz.prog 101 (sp_i_separatedName (i_separatedName K)) :=
  fn_okD tysOk [C_i_choose K,C_strconv_FormatInt K] 0 [] [] rv_i_separatedName K Tryz.func101 (by kernel_rfl) trivial (fun _=>by kernel_rfl)
noncomputable def C_i_separatedName (K:Nat):CB Tryz.prog:=.f _ _ (ok_i_separatedName K)
end Go.Proofs.YtmlgfaojfmkdnaaGreatDoor.E
