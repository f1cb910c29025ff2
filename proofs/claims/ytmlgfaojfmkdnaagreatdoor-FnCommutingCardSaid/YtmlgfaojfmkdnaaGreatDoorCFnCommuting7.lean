/-
  What the Go functions that FnCommuting reaches hand back, each as a plain function with a proof that the call does so, and plain lemmas on them. Conditions: those of each theorem.
-/
import Derived.Test.YtmlgfaojfmkdnaaGreatDoorCFnCommuting6
namespace Go.Proofs.YtmlgfaojfmkdnaaGreatDoor.E
open Go Go.Proofs Go.Proofs.YtmlgfaojfmkdnaaGreatDoor Go.RowKit
set_option maxRecDepth 100000
set_option maxHeartbeats 8000000
set_option linter.unusedVariables false
/-- what generate leaves -/
def GenW (list:List DFg) (lv:Value) (n:Int) (D:List Int) (w0:World) (e:Ending) (w:World):Prop:=∃ p:GnP,e=.returned (.pointer (some ⟨p.G,0,none⟩))/\p.lv=lv/\p.n=n/\p.L<=p.c/\GnI p w D/\Below w0.heap.size w0 w
theorem rep_block {w w1:World} {t:TypeId} (h:Below (w.alloc (.cells #[.int .i64 (-1)] t)).heap.size (w.alloc (.cells #[.int .i64 (-1)] t)) w1):w1.heap[w.heap.size]?=some (.cells #[.int .i64 (-1)] t (0,0)):=by
  rw [h.block _ (by simp),alloc_get,if_pos rfl]
/-- the slots of the region that sets a projection's depth -/
def xl (p:GnP) (n i:Int) (y:DFg) (j:Nat):List (Nat × Value):=[(24,.pointer (some ⟨p.G,0,none⟩)),(25,.pointer (some ⟨p.G,0,none⟩)),(26,.pointer (some ⟨p.G,2,none⟩)),(27,.slice (some ⟨p.D,p.o,none⟩) p.L p.c),(28,.int .i64 n),(29,.int .i64 i),(30,.agg #[.int .i64 y.1,.int .i64 y.2.1]),(31,.int .i64 y.2.1),(32,.pointer (some ⟨p.D,p.o + j,none⟩))]
theorem xl_dst (p:GnP) (n i:Int) (y:DFg) (j:Nat):(xl p n i y j).map (·.1)=[24,25,26,27,28,29,30,31,32]:=rfl
theorem xl_nd (p:GnP) (n i:Int) (y:DFg) (j:Nat):((xl p n i y j).map (·.1)).Nodup:=by rw [xl_dst];decide
structure XW (p:GnP) (l:List Int) (j:Nat) (w0 W:World) (L:Nat->Bool) (w:World):Prop where
  nine:L 9=true->∀ k,k < 9->L k=true
  bel:L 9=false->Below W.heap.size W w
  fin:L 9=true->GnI p w (l.set j 0)/\Below w0.heap.size w0 w/\W.heap.size<=w.heap.size
def XJ (p:GnP) (n i:Int) (y:DFg) (j:Nat) (l:List Int) (w0 W:World) (a0:Act) (L:Nat->Bool) (a:Act) (w:World):Prop:=a=ov L 0 (xl p n i y j) a0/\XW p l j w0 W L w
theorem XJ.quiet {p:GnP} {n i:Int} {y:DFg} {j:Nat} {l:List Int} {w0 W:World} {a0:Act} {L:Nat->Bool} {w w':World} {k d:Nat} {x:Value} (hw:XW p l j w0 W L w) (hk:(xl p n i y j)[k]?=some (d,x)) (hL:L k=false) (h9:k < 9) (hb:Below w.heap.size w w') (hWw:W.heap.size<=w.heap.size) :
    XJ p n i y j l w0 W a0 (fun m=>m == k || L m) ((ov L 0 (xl p n i y j) a0).put (some d) x) w':=by
  have e9:(9 == k)=false:=by rw [beq_eq_false_iff_ne];omega
  have hf:L 9=false:=by
    cases hc:L 9
    · rfl
    · rw [hw.nine hc k h9] at hL;cases hL
  refine ⟨by rw [ov_put (xl p n i y j) 0 k a0 (xl_nd ..) hk (by rw [Nat.zero_add];exact hL),Nat.zero_add],?_⟩
  refine ⟨?_,?_,?_⟩
  all_goals simp only [e9,Bool.false_or,hf]
  · intro h;cases h
  · intro _;exact (hw.bel hf).trans (hb.mono hWw)
  · intro h;cases h
theorem gen_calls (K:Nat) (w:World) (list:List DFg) (lv:Value) (n:Int) (D:List Int) (hl:RX Tryz.prog (.sl tq0) false w (fun b=>b < w.heap.size) [lv] list) (h:genF K list n=some D):Calls Tryz.prog 36 #[lv,.int .i64 n] w (GenW list lv n D w):=by
  unfold genF at h
  split at h
  case isFalse=>cases h
  rename_i hb
  obtain ⟨hn0,hn1,hll⟩:=hb
  obtain ⟨q,hq,h⟩:=Option.bind_eq_some_iff.1 h
  obtain ⟨D0,hD0,h⟩:=Option.bind_eq_some_iff.1 h
  split at h
  case isTrue=>cases h
  rename_i hD0l
  obtain ⟨D1,hD1,h⟩:=Option.bind_eq_some_iff.1 h
  obtain ⟨la,lc,hlv,hlc,_⟩:=rx_cells hl
  have A0:Aside (RX Tryz.prog (.sl tq0) false w (fun b=>b < w.heap.size) [lv] list):=hl
  have A1:Aside (initF K n 1000 0 D0=some D1):=hD1
  have A2:Aside (loopF K list n K 1 D1=some D):=h
  have hfun:=fun w=>funcs_calls K w n q hq
  have hrep:=fun w b t hb=>rep_calls K w b t q D0 hb hD0l hD0
  have A3:Aside (D0.length ≠ 0):=hD0l
  clear hl hD1 h hq hD0 hD0l
  subst hlv
  go_enter Tryz.func36,Tryz.ntmps36
  go_wp2_with (first
    | (go_at_call 87;refine (hfun _).mono ?_;rintro e w1 ⟨rfl,hbe1⟩;have hbk:=rep_block hbe1)
    | (go_at_call 86;refine (hrep _ w.heap.size _ hbk).mono ?_;rintro e w2 ⟨_,rfl,b,o,c,tD,rfl,hlc2,hdep,hge,hbe2⟩)
    | go_in)
  obtain ⟨N,rfl⟩:=Int.eq_ofNat_of_zero_le hn0
  have hN:N < 1000:=by omega
  have hbw2:b < w2.heap.size:=by obtain ⟨arr,h1,_⟩:=hdep;exact (Array.getElem?_eq_some_iff.1 h1).1
  have hw01:Below w.heap.size w w1:=((Below.refl _ w).alloc (Nat.le_refl _) _).trans (hbe1.mono (by simp))
  have hw02:Below w.heap.size w w2:=hw01.trans (hbe2.mono hw01.size)
  have hb0:w.heap.size<=b:=Nat.le_trans hw01.size hge
  obtain ⟨p,hp⟩:∃ p:GnP,p=⟨.slice la list.length lc,(N:Int),1,w2.heap.size,w2.heap.size + 1,0,0,b,o,c,D0.length,tD⟩:=⟨_,rfl⟩
  have hpG:p.G=w2.heap.size:=by rw [hp]
  have hpg:p.gb=w2.heap.size + 1:=by rw [hp]
  have hpD:p.D=b:=by rw [hp]
  obtain ⟨W3,hW3⟩:∃ W3,W3=((w2.alloc (.cells #[.slice la list.length lc,.int .i64 N,.slice (some ⟨b,o,none⟩) D0.length c] 102)).alloc (.cells #[.pointer (some ⟨w2.heap.size,0,none⟩)] 63)):=⟨_,rfl⟩
  have hW3b:Below w2.heap.size w2 W3:=by rw [hW3];exact ((Below.refl _ _).alloc (Nat.le_refl _) _).alloc (by simp) _
  have hW3s:W3.heap.size=w2.heap.size + 1 + 1:=by rw [hW3];simp
  have hgi:GnI p W3 D0:=by
    rw [hp]
    refine ⟨?_,?_,?_⟩
    · show W3.heap[w2.heap.size]?=_
      rw [hW3,alloc_get,if_neg (by simp),alloc_get,if_pos rfl]
    · show W3.heap[w2.heap.size + 1]?=_
      rw [hW3,alloc_get,if_pos (by simp)]
    · obtain ⟨arr,h1,h2⟩:=hdep
      exact ⟨arr,by show W3.heap[b]?=_;rw [hW3b.block b hbw2];exact h1,h2⟩
  have hplc:p.L<=p.c:=by rw [hp];exact hlc2
  have A4:Aside (p.lv=.slice la list.length lc/\p.n=(N:Int)/\p.L=D0.length/\p.L<=p.c/\p.G < W3.heap.size/\p.gb < W3.heap.size/\p.D < p.G/\w.heap.size<=p.D/\p.G < p.gb):=⟨by rw [hp],by rw [hp],by rw [hp],hplc,by omega,by omega,by omega,by omega,by omega⟩
  have A5:Aside (GnI p W3 D0/\Below w.heap.size w W3):=⟨hgi,hw02.trans (hW3b.mono hw02.size)⟩
  have e1:Value.pointer (some ⟨w2.heap.size + 1,0,none⟩)=.pointer (some ⟨p.gb,0,none⟩):=by rw [hpg]
  rw [<-hW3,e1]
  clear hgi hW3b hW3s hp hdep hbe1 hbe2 hw01 hw02 hb0 hbk hge hbw2 hlc2 hrep hfun hpG hpg hpD hW3 e1
  go_loopw [21] (fun t21 wr=>∃ (i k:Nat) (l:List Int),i<=N/\t21=.int .i64 i/\initF K (N:Int) k (i:Int) l=some D1/\GnI p wr l/\Below w.heap.size w wr/\W3.heap.size<=wr.heap.size/\l.length=D0.length) (fun t21 _=>N - (intOf t21).toNat)
  case atStart=>exact ⟨0,1000,D0,Nat.zero_le _,rfl,A1,A5.1,A5.2,Nat.le_refl _,rfl⟩
  case round =>
    obtain ⟨i,k,l,hi,rfl,hin,hgi,hbel,hsz,hll2⟩:=hrel
    have A6:Aside (GnI p wr l/\Below w.heap.size w wr/\W3.heap.size<=wr.heap.size/\l.length=D0.length):=⟨hgi,hbel,hsz,hll2⟩
    by_cases hiN:i < N
    · have hx:∃ k' y j,k=k' + 1/\i_projection K ((N:Int),(i:Int),())=some y/\y.2.1=((j:Nat):Int)/\j < l.length/\initF K (N:Int) k' ((i:Int) + 1) (l.set j 0)=some D1:=by
        cases k with
        | zero=>cases hin
        | succ k' =>
          simp only [initF] at hin
          rw [if_pos (by omega)] at hin
          obtain ⟨y,hy,hin⟩:=Option.bind_eq_some_iff.1 hin
          split at hin
          case isFalse=>cases hin
          rename_i hb
          obtain ⟨j,hj⟩:=Int.eq_ofNat_of_zero_le hb.1
          rw [hj] at hin hb
          exact ⟨k',y,j,rfl,hy,hj,by omega,hin⟩
      obtain ⟨k',y,j,rfl,hy,hyj,hjl,hin'⟩:=hx
      have A7:Aside (i_projection K ((N:Int),(i:Int),())=some y/\y.2.1=((j:Nat):Int)/\initF K (N:Int) k' ((i:Int) + 1) (l.set j 0)=some D1):=⟨hy,hyj,hin'⟩
      clear hin hgi hbel hsz hll2 hy hyj hin'
      go_wp2
      have hA4:=A4
      obtain ⟨q1,q2,q3,q4,q5,q6,q7,q8,q9⟩:=(show p.lv=.slice la list.length lc/\p.n=(N:Int)/\p.L=D0.length/\p.L<=p.c/\p.G < W3.heap.size/\p.gb < W3.heap.size/\p.D < p.G/\w.heap.size<=p.D/\p.G < p.gb from A4)
      obtain ⟨hgi,hbel,hsz,hll2⟩:=(show GnI p wr l/\Below w.heap.size w wr/\W3.heap.size<=wr.heap.size/\l.length=D0.length from A6)
      obtain ⟨hy,hyj,hin'⟩:=(show i_projection K ((N:Int),(i:Int),())=some y/\y.2.1=((j:Nat):Int)/\initF K (N:Int) k' ((i:Int) + 1) (l.set j 0)=some D1 from A7)
      refine region_inv (XJ p (N:Int) (i:Int) y j l w wr) (by kernel_rfl) (by kernel_rfl) ⟨rfl,(fun h=>by cases h),fun _=>⟨rfl,rfl,rfl,Nat.le_refl _,fun _ _=>rfl⟩,(fun h=>by cases h)⟩ ?_ ?_
      · intro L a2 w3 m om ho hL hes hJ
        obtain ⟨rfl,hw⟩:=hJ
        have hm:m < 10:=(Array.getElem?_eq_some_iff.1 ho).1
        have hf:L 9=false:=by
          cases hc:L 9
          · rfl
          · have hm9:m=9\/m < 9:=by omega
            rcases hm9 with rfl | hm9
            · rw [hc] at hL;cases hL
            · rw [hw.nine hc m hm9] at hL;cases hL
        have hb3:=hw.bel hf
        have hg3:GnI p w3 l:=hgi.below hb3 (Nat.le_refl _)
        have hcs:m=0\/m=1\/m=2\/m=3\/m=4\/m=5\/m=6\/m=7\/m=8\/m=9:=by omega
        rcases hcs with rfl | rfl | rfl | rfl | rfl | rfl | rfl | rfl | rfl | rfl
        all_goals simp only [List.getElem?_toArray,List.getElem?_cons_succ,List.getElem?_cons_zero,Option.some.injEq] at ho
        all_goals subst ho
        · exact wpOp_mk rfl rfl (op_load (tysOk 63 (.ptr tq2) rfl) (ov_eval_out _ _ _ (by rw [xl_dst];decide)) hg3.hgb (show 1<=1 from Nat.le_refl 1) rfl (XJ.quiet hw rfl hL (by decide) (Below.refl _ _) hb3.size))
        · exact wpOp_mk rfl rfl (op_nil (ov_eval _ 0 0 _ (xl_nd ..) rfl (hes 0 (by decide)) (by simp)) (XJ.quiet hw rfl hL (by decide) (Below.refl _ _) hb3.size))
        · exact wpOp_mk rfl rfl (op_field tysOk (t:=102) (n:=2) rfl (by decide) (by decide) (ov_eval _ 0 1 _ (xl_nd ..) rfl (hes 1 (by decide)) (by simp)) (XJ.quiet hw rfl hL (by decide) (Below.refl _ _) hb3.size))
        · exact wpOp_mk rfl rfl (op_load (tysOk 36 (.sl (.int .i64)) rfl) (ov_eval _ 0 2 _ (xl_nd ..) rfl (hes 2 (by decide)) (by simp)) hg3.hG (show 3<=3 by decide) rfl (XJ.quiet hw rfl hL (by decide) (Below.refl _ _) hb3.size))
        · exact wpOp_mk rfl rfl (op_move (ov_eval_out _ _ _ (by rw [xl_dst];decide)) (XJ.quiet hw rfl hL (by decide) (Below.refl _ _) hb3.size))
        · exact wpOp_mk rfl rfl (op_move (ov_eval_out _ _ _ (by rw [xl_dst];decide)) (XJ.quiet hw rfl hL (by decide) (Below.refl _ _) hb3.size))
        · refine wpOp_mk rfl rfl (op_call (fi:=#[]) (ca:=#[]) rfl (args20 (ov_eval _ 0 4 _ (xl_nd ..) rfl (hes 4 (by decide)) (by simp)) (ov_eval _ 0 5 _ (xl_nd ..) rfl (hes 5 (by decide)) (by simp))) Tryz.func81 (by kernel_rfl) (c:=bodyOf Tryz.f81) (by kernel_rfl) (proj_calls K w3 (N:Int) (i:Int) y hy) ?_)
          rintro e w4 ⟨rfl,hb4⟩
          exact ⟨_,rfl,XJ.quiet hw rfl hL (by decide) hb4 hb3.size⟩
        · exact wpOp_mk rfl rfl (op_fieldv tysOk (t:=30) (i:=1) rfl (c:=[.int .i64 y.1,.int .i64 y.2.1]) (d:=[.int .i64 y.2.1]) (ov_eval _ 0 6 _ (xl_nd ..) rfl (hes 6 (by decide)) (by simp)) (by decide) rfl rfl (XJ.quiet hw rfl hL (by decide) (Below.refl _ _) hb3.size))
        · refine wpOp_mk rfl rfl (op_index tysOk (t:=36) rfl (ov_eval _ 0 3 _ (xl_nd ..) rfl (hes 3 (by decide)) (by simp)) (ov_eval _ 0 7 _ (xl_nd ..) rfl (hes 7 (by decide)) (by simp)) (by rw [hyj];omega) (by rw [hyj];omega) ?_)
          have e2:p.o + y.2.1.toNat * (Ty.int .i64).sz=p.o + j:=by
            have:(Ty.int .i64).sz=1:=rfl
            rw [this,hyj,Int.toNat_natCast];omega
          rw [e2]
          exact XJ.quiet hw rfl hL (by decide) (Below.refl _ _) hb3.size
        · refine wpOp_mk rfl rfl (op_store1 (tysOk 2 (.int .i64) rfl) (d:=0) (ov_eval _ 0 8 _ (xl_nd ..) rfl (hes 8 (by decide)) (by simp)) rfl hg3.hD (by omega) fun w4 hd4 hg4 hs4=>?_)
          refine ⟨ov_congr _ _ _ fun m _ h2=>?_,fun _ m hm=>?_,(fun h=>by cases h),fun _=>⟨⟨?_,?_,hd4⟩,?_,?_⟩⟩
          · have h2:m < 9:=by simpa [xl] using h2
            have:(m == 9)=false:=by rw [beq_eq_false_iff_ne];omega
            simp [this]
          · have h8 := hes m (by have : m = 0 ∨ m = 1 ∨ m = 2 ∨ m = 3 ∨ m = 4 ∨ m = 5 ∨ m = 6 ∨ m = 7 ∨ m = 8 := by omega
                                 rcases this with rfl | rfl | rfl | rfl | rfl | rfl | rfl | rfl | rfl <;> decide)
            rw [h8];simp
          · rw [hg4.block _ (hg3.lt _ (by simp)) (by simp;omega)];exact hg3.hG
          · rw [hg4.block _ (hg3.lt _ (by simp)) (by simp;omega)];exact hg3.hgb
          · exact (hbel.trans (hb3.mono hbel.size)).grown hg4 (Nat.le_trans hbel.size hb3.size) (fun k hk=>by injection hk with hk;omega)
          · rw [hs4];exact hb3.size
      · intro L a2 w3 hall hJ
        obtain ⟨rfl,hw⟩:=hJ
        rw [ov_congr (M:=fun _=>true) (xl p (N:Int) (i:Int) y j) 0 _ (fun m _ h2=>hall m (Nat.lt_trans (show m < 9 by simpa [xl] using h2) (by decide)))]
        obtain ⟨hg3,hb3,hs3⟩:=hw.fin (hall 9 (by decide))
        have A8:Aside (GnI p w3 (l.set j 0)/\Below w.heap.size w w3/\W3.heap.size<=w3.heap.size):=⟨hg3,hb3,Nat.le_trans hsz hs3⟩
        clear hg3 hb3 hs3 hw hgi hbel hsz hy hyj hin' hall
        simp only [ov,xl,pif,cond_true,Act.put,List.setIfInBounds_toArray,List.set_cons_succ,List.set_cons_zero]
        go_wp2
        go_roundw
        case rel=>exact ⟨i + 1,k',l.set j 0,by omega,rfl,A7.2.2,A8.1,A8.2.1,A8.2.2,by simpa using hll2⟩
        case measure=>simp [intOf];omega
    · have hiN:i=N:=by omega
      subst hiN
      have hlD:l=D1:=by
        cases k with
        | zero=>cases hin
        | succ k' =>
          simp only [initF] at hin
          rw [if_neg (by omega)] at hin
          injection hin
      subst hlD
      clear hin hgi hbel hsz hll2 hiN
      go_wp2
      go_loopg [7] K (fun k t7 wx=>∃ (db:Nat) (depth:Int) (Dk:List Int),t7=.pointer (some ⟨db,0,none⟩)/\loopF K list (i:Int) k depth Dk=some D/\wx.heap[db]?=some (.cells #[.int .i64 depth] 2 (0,0))/\GnI p wx Dk/\Below w.heap.size w wx/\W3.heap.size<=wx.heap.size/\W3.heap.size<=db)
      case atStart =>
        have hb6:Below wr.heap.size wr (wr.alloc (.cells #[.int .i64 1] 2)):=(Below.refl _ _).alloc (Nat.le_refl _) _
        exact ⟨wr.heap.size,1,l,rfl,A2,by rw [alloc_get,if_pos rfl],GnI.below A6.1 hb6 (Nat.le_refl _),(show Below w.heap.size w wr from A6.2.1).trans (hb6.mono A6.2.1.size),Nat.le_trans A6.2.2.1 hb6.size,A6.2.2.1⟩
      case round =>
        obtain ⟨db,depth,Dk,rfl,hlp,hdb,hgx,hbx,hsx,hdbs⟩:=hrel
        generalize wr=wo at *
        have hx:∃ k' known s1,gk=k' + 1/\(0<=depth/\depth < 1000000)/\i_generated_known K ((list,(i:Int),Dk,()),depth,())=some known/\roundF K list (i:Int) known depth list (Dk,false)=some s1/\(if s1.2=true then loopF K list (i:Int) k' (depth + 1) s1.1 else some s1.1)=some D:=by
          cases gk with
          | zero=>cases hlp
          | succ k' =>
            simp only [loopF] at hlp
            split at hlp
            case isFalse=>cases hlp
            rename_i hb
            obtain ⟨known,hkn,hlp⟩:=Option.bind_eq_some_iff.1 hlp
            obtain ⟨s1,hs1,hlp⟩:=Option.bind_eq_some_iff.1 hlp
            exact ⟨k',known,s1,rfl,⟨hb.1,hb.2.1⟩,hkn,hs1,hlp⟩
        obtain ⟨k',known,s1,rfl,⟨hd0,hd1⟩,hkn,hs1,hlp'⟩:=hx
        obtain ⟨q1,q2,q3,q4,q5,q6,q7,q8,q9⟩:=(show p.lv=.slice la list.length lc/\p.n=(i:Int)/\p.L=D0.length/\p.L<=p.c/\p.G < W3.heap.size/\p.gb < W3.heap.size/\p.D < p.G/\w.heap.size<=p.D/\p.G < p.gb from A4)
        have hl0:RX Tryz.prog (.sl tq0) false wo (fun b=>b < w.heap.size) [p.lv] list:=by
          rw [q1]
          exact RX_congr _ (.sl tq0) false hbx.size (fun b h1 h2=>⟨h1,hbx.block b h2⟩) (fun b h1=>Nat.lt_of_lt_of_le h1 hbx.size) (show RX Tryz.prog (.sl tq0) false w (fun b=>b < w.heap.size) [.slice la list.length lc] list from A0)
        have hknc:=known_calls K p q4 hgx hl0 (fun b hb=>Nat.lt_of_lt_of_le hb hbx.size) depth (by rw [q2];exact hkn)
        have c5:wo.cell? ⟨p.gb,0,none⟩=some (.pointer (some ⟨p.G,0,none⟩)):=by simp [World.cell?,hgx.hgb]
        have c7:wo.cell? ⟨db,0,none⟩=some (.int .i64 depth):=by simp [World.cell?,hdb]
        have hdbl:db < wo.heap.size:=(Array.getElem?_eq_some_iff.1 hdb).1
        have A8:Aside (wo.heap[db]?=some (.cells #[.int .i64 depth] 2 (0,0))/\GnI p wo Dk/\Below w.heap.size w wo/\W3.heap.size<=wo.heap.size/\W3.heap.size<=db/\db < wo.heap.size):=⟨hdb,hgx,hbx,hsx,hdbs,hdbl⟩
        have A9:Aside (roundF K list (i:Int) known depth list (Dk,false)=some s1/\(if s1.2=true then loopF K list (i:Int) k' (depth + 1) s1.1 else some s1.1)=some D):=⟨hs1,hlp'⟩
        have A10:Aside (RX Tryz.prog (.sl tq0) false wo (fun b=>b < w.heap.size) [p.lv] list):=hl0
        clear hlp hdb hgx hbx hsx hkn hs1 hlp' hl0 q1 q2 q3 q5 q6 q7 q8 q9 hdbl hdbs
        go_wp2_with (first
          | (go_at_call 88;refine hknc.mono ?_;rintro e W4 ⟨kv,rfl,hkw⟩)
          | go_in)
        obtain ⟨hkr,hkb⟩:=hkw
        obtain ⟨hdb,hgx,hbx,hsx,hdbs,hdbl⟩:=(show wo.heap[db]?=some (.cells #[.int .i64 depth] 2 (0,0))/\GnI p wo Dk/\Below w.heap.size w wo/\W3.heap.size<=wo.heap.size/\W3.heap.size<=db/\db < wo.heap.size from A8)
        obtain ⟨q1,q2,q3,q4,q5,q6,q7,q8,q9⟩:=(show p.lv=.slice la list.length lc/\p.n=(i:Int)/\p.L=D0.length/\p.L<=p.c/\p.G < W3.heap.size/\p.gb < W3.heap.size/\p.D < p.G/\w.heap.size<=p.D/\p.G < p.gb from A4)
        obtain ⟨pp,hpp⟩:∃ pp:GnP,pp={ p with depth:=depth,db:=db,ab:=W4.heap.size }:=⟨_,rfl⟩
        have e1:pp.lv=p.lv/\pp.n=p.n/\pp.depth=depth/\pp.G=p.G/\pp.gb=p.gb/\pp.db=db/\pp.ab=W4.heap.size/\pp.D=p.D/\pp.o=p.o/\pp.c=p.c/\pp.L=p.L/\pp.tD=p.tD:=by rw [hpp];simp
        obtain ⟨r1,r2,r3,r4,r5,r6,r7,r8,r9,r10,r11,r12⟩:=e1
        have hW4:wo.heap.size<=W4.heap.size:=hkb.size
        have hok:pp.Ok:=⟨by rw [r10,r11];exact q4,by rw [r4,r8];omega,by rw [r4,r7];omega,by rw [r5,r8];omega,by rw [r5,r7];omega,by rw [r6,r8];omega,by rw [r6,r7];omega,by rw [r8,r7];omega⟩
        have hb5:Below W4.heap.size W4 (W4.alloc (.cells #[.bool false] 4)):=(Below.refl _ _).alloc (Nat.le_refl _) _
        have hg4:GnI p W4 Dk:=hgx.below hkb (Nat.le_refl _)
        have hg5:GnI p (W4.alloc (.cells #[.bool false] 4)) Dk:=hg4.below hb5 (Nat.le_refl _)
        have hgw:GnW pp (W4.alloc (.cells #[.bool false] 4)) (Dk,false):=by
          refine ⟨by rw [r4,r1,r2,r8,r9,r10,r11];exact hg5.hG,by rw [r4,r5];exact hg5.hgb,?_,?_,by rw [r8,r9,r11,r12];exact hg5.hD⟩
          · rw [r6,r3,hb5.block _ (by omega),hkb.block _ hdbl];exact hdb
          · rw [r7,alloc_get,if_pos rfl]
        have hk5:RX Tryz.prog (.sl tq0) false (W4.alloc (.cells #[.bool false] 4)) (fun b=>wo.heap.size<=b/\b < W4.heap.size) [kv] known:=RX_congr _ (.sl tq0) false hb5.size (fun b h1 h2=>⟨h1,hb5.block b h2⟩) (fun b h1=>Nat.lt_of_lt_of_le h1.2 hb5.size) hkr
        have hbw:Below w.heap.size w (W4.alloc (.cells #[.bool false] 4)):=(hbx.trans (hkb.mono hbx.size)).trans (hb5.mono (Nat.le_trans hbx.size hkb.size))
        have A11:Aside (GnW pp (W4.alloc (.cells #[.bool false] 4)) (Dk,false)/\Below w.heap.size w (W4.alloc (.cells #[.bool false] 4))/\RX Tryz.prog (.sl tq0) false (W4.alloc (.cells #[.bool false] 4)) (fun b=>wo.heap.size<=b/\b < W4.heap.size) [kv] known):=⟨hgw,hbw,hk5⟩
        have A12:Aside (pp.Ok/\wo.heap.size<=W4.heap.size):=⟨hok,hW4⟩
        have A13:Aside (pp.lv=p.lv/\pp.n=p.n/\pp.depth=depth/\pp.G=p.G/\pp.gb=p.gb/\pp.db=db/\pp.ab=W4.heap.size/\pp.D=p.D/\pp.o=p.o/\pp.c=p.c/\pp.L=p.L/\pp.tD=p.tD):=⟨r1,r2,r3,r4,r5,r6,r7,r8,r9,r10,r11,r12⟩
        clear hkr hkb hdb hgx hbx hsx hdbs hdbl q1 q2 q3 q5 q6 q7 q8 q9 hpp r1 r2 r3 r4 r5 r6 r7 r8 r9 r10 r11 r12 hW4 hok hb5 hg4 hg5 hgw hk5 hbw c5 c7 hknc
        have hrd:roundF K list (i:Int) known depth list (Dk,false)=some s1:=A9.1
        go_loopw [41] (fun t41 wq=>∃ (j:Nat) (s:GSt),j<=list.length/\t41=.int .i64 j/\foldF (fun s f=>stepsF K list (i:Int) f known depth 100 [] s) (list.drop j) s=some s1/\GnW pp wq s/\Below w.heap.size w wq/\W4.heap.size + 1<=wq.heap.size/\RX Tryz.prog (.sl tq0) false wq (fun b=>wo.heap.size<=b/\b < W4.heap.size) [kv] known) (fun t41 _=>list.length - (intOf t41).toNat)
        case atStart=>exact ⟨0,(Dk,false),Nat.zero_le _,rfl,hrd,A11.1,A11.2.1,by simp,A11.2.2⟩
        case round =>
          obtain ⟨j,s,hj,rfl,hfo,hgw,hbw,hsw,hkw⟩:=hrel
          clear hrd
          by_cases hjl:j=list.length
          · subst hjl
            have hss:s=s1:=by
              rw [List.drop_length] at hfo
              injection hfo
            subst hss
            obtain ⟨r1,r2,r3,r4,r5,r6,r7,r8,r9,r10,r11,r12⟩:=(show pp.lv=p.lv/\pp.n=p.n/\pp.depth=depth/\pp.G=p.G/\pp.gb=p.gb/\pp.db=db/\pp.ab=W4.heap.size/\pp.D=p.D/\pp.o=p.o/\pp.c=p.c/\pp.L=p.L/\pp.tD=p.tD from A13)
            have c5:=(gn_cells hgw).1
            have c7:=(gn_cells hgw).2.2.2.1
            have c9:=(gn_cells hgw).2.2.2.2
            rw [r4,r5] at c5
            rw [r6,r3] at c7
            rw [r7] at c9
            have hgi:GnI p wr s.1:=by
              have:=hgw.gi
              exact ⟨by rw [<-r4,<-r1,<-r2,<-r8,<-r9,<-r10,<-r11];exact this.hG,by rw [<-r4,<-r5];exact this.hgb,by rw [<-r8,<-r9,<-r11,<-r12];exact this.hD⟩
            have A14:Aside (GnI p wr s.1/\Below w.heap.size w wr/\W4.heap.size + 1<=wr.heap.size):=⟨hgi,hbw,hsw⟩
            have hA9:(if s.2=true then loopF K list (i:Int) k' (depth + 1) s.1 else some s.1)=some D:=A9.2
            cases hs2:s.2
            · rw [hs2] at c9
              have A15:Aside (s.1=D):=by
                rw [if_neg (by rw [hs2];decide)] at hA9
                injection hA9
              clear hfo hgw hbw hsw hkw hgi hA9 hs2 r1 r2 r3 r4 r5 r6 r7 r8 r9 r10 r11 r12 A9
              go_wp2
              go_ret
              obtain ⟨q1,q2,q3,q4,q5,q6,q7,q8,q9⟩:=(show p.lv=.slice la list.length lc/\p.n=(i:Int)/\p.L=D0.length/\p.L<=p.c/\p.G < W3.heap.size/\p.gb < W3.heap.size/\p.D < p.G/\w.heap.size<=p.D/\p.G < p.gb from A4)
              have hz:s.1=D:=A15
              rw [<-hz]
              exact ⟨p,rfl,q1,q2,q4,A14.1,A14.2.1⟩
            · rw [hs2] at c9
              have A15:Aside (loopF K list (i:Int) k' (depth + 1) s.1=some D):=by
                rw [if_pos hs2] at hA9;exact hA9
              clear hfo hgw hbw hsw hkw hgi hA9 hs2 r1 r2 r3 r4 r5 r6 r7 r8 r9 r10 r11 r12 A9
              go_wp2
              go_roundg k'
              case measure=>omega
              case rel =>
                have hb7:Below wr.heap.size wr (wr.alloc (.cells #[.int .i64 (depth + 1)] 2)):=(Below.refl _ _).alloc (Nat.le_refl _) _
                have hb8:Below w.heap.size w wr:=A14.2.1
                have hW4:wo.heap.size<=W4.heap.size:=A12.2
                have hwW3:W3.heap.size<=wo.heap.size:=A8.2.2.2.1
                have hsw:W4.heap.size + 1<=wr.heap.size:=A14.2.2
                exact ⟨wr.heap.size,depth + 1,s.1,rfl,A15,by rw [alloc_get,if_pos rfl],GnI.below A14.1 hb7 (Nat.le_refl _),hb8.trans (hb7.mono hb8.size),by have:=hb7.size;omega,by omega⟩
          · have hjl:j < list.length:=by omega
            obtain ⟨f,hf⟩:∃ f,list[j]?=some f:=⟨_,List.getElem?_eq_getElem hjl⟩
            have hdrop:list.drop j=f :: list.drop (j + 1):=by
              rw [List.drop_eq_getElem_cons hjl]
              rw [List.getElem?_eq_getElem hjl] at hf
              injection hf with hf;rw [hf]
            rw [hdrop] at hfo
            obtain ⟨s2,hs2,hfo2⟩:=Option.bind_eq_some_iff.1 (show (stepsF K list (i:Int) f known depth 100 [] s).bind (fun s=>foldF (fun s f=>stepsF K list (i:Int) f known depth 100 [] s) (list.drop (j + 1)) s)=some s1 from hfo)
            obtain ⟨r1,r2,r3,r4,r5,r6,r7,r8,r9,r10,r11,r12⟩:=(show pp.lv=p.lv/\pp.n=p.n/\pp.depth=depth/\pp.G=p.G/\pp.gb=p.gb/\pp.db=db/\pp.ab=W4.heap.size/\pp.D=p.D/\pp.o=p.o/\pp.c=p.c/\pp.L=p.L/\pp.tD=p.tD from A13)
            obtain ⟨q1,q2,q3,q4,q5,q6,q7,q8,q9⟩:=(show p.lv=.slice la list.length lc/\p.n=(i:Int)/\p.L=D0.length/\p.L<=p.c/\p.G < W3.heap.size/\p.gb < W3.heap.size/\p.D < p.G/\w.heap.size<=p.D/\p.G < p.gb from A4)
            -- the list, in this world
            have hlw:RX Tryz.prog (.sl tq0) false wr (fun b=>b < w.heap.size) [.slice la list.length lc] list:=RX_congr _ (.sl tq0) false hbw.size (fun b h1 h2=>⟨h1,hbw.block b h2⟩) (fun b h1=>Nat.lt_of_lt_of_le h1 hbw.size) (show RX Tryz.prog (.sl tq0) false w (fun b=>b < w.heap.size) [.slice la list.length lc] list from A0)
            obtain ⟨a',c',e5,_,hcs⟩:=rx_cells hlw
            injection e5 with e5 _ e6
            subst e5
            subst e6
            rcases hcs with hcs | ⟨lb,lo,rfl,hSl,hcs⟩
            · rw [hcs] at hjl;simp at hjl
            obtain ⟨d0,d1⟩:=hcs j f hf
            have hb6:Below wr.heap.size wr (wr.alloc (.cells #[.int .i64 f.1,.int .i64 f.2.1] 30)):=(Below.refl _ _).alloc (Nat.le_refl _) _
            have hok:pp.Ok:=A12.1
            have hW4:wo.heap.size<=W4.heap.size:=A12.2
            have hg6:GnW pp (wr.alloc (.cells #[.int .i64 f.1,.int .i64 f.2.1] 30)) s:=hgw.below hb6 (Nat.le_refl _)
            have hwW3:W3.heap.size<=wo.heap.size:=A8.2.2.2.1
            have hdbl:db < wo.heap.size:=A8.2.2.2.2.2
            have hdbs:W3.heap.size<=db:=A8.2.2.2.2.1
            have hwW:w.heap.size<=W3.heap.size:=by omega
            have hl6:RX Tryz.prog (.sl tq0) false (wr.alloc (.cells #[.int .i64 f.1,.int .i64 f.2.1] 30)) (pp.S (wr.alloc (.cells #[.int .i64 f.1,.int .i64 f.2.1] 30)).heap.size) [pp.lv] list:=by
              rw [r1,q1]
              refine RX_congr _ (.sl tq0) false hb6.size (fun b h1 h2=>⟨⟨?_,?_,?_⟩,hb6.block b h2⟩) (fun b h1=>h1.1) hlw
              · have:=hb6.size;omega
              · rw [r8];omega
              · rw [r7];omega
            have hk6:RX Tryz.prog (.sl tq0) false (wr.alloc (.cells #[.int .i64 f.1,.int .i64 f.2.1] 30)) (pp.S (wr.alloc (.cells #[.int .i64 f.1,.int .i64 f.2.1] 30)).heap.size) [kv] known:=by
              refine RX_congr _ (.sl tq0) false hb6.size (fun b h1 h2=>⟨⟨?_,?_,?_⟩,hb6.block b h2⟩) (fun b h1=>h1.1) hkw
              · have:=hb6.size;omega
              · rw [r8];omega
              · rw [r7];omega
            have c5:=(gn_cells hg6).1
            have c7:=(gn_cells hg6).2.2.2.1
            rw [r4,r5] at c5
            rw [r6,r3] at c7
            have hst:Calls Tryz.prog 89 #[.pointer (some ⟨p.G,0,none⟩),.agg #[.int .i64 f.1,.int .i64 f.2.1],kv,.slice none 0 0,.int .i64 depth,.func (.func 90) #[] #[.pointer (some ⟨p.gb,0,none⟩),.pointer (some ⟨db,0,none⟩),.pointer (some ⟨W4.heap.size,0,none⟩)]] (wr.alloc (.cells #[.int .i64 f.1,.int .i64 f.2.1] 30)) (StepsW pp (wr.alloc (.cells #[.int .i64 f.1,.int .i64 f.2.1] 30)).heap.size [] (.slice none 0 0) s2 (wr.alloc (.cells #[.int .i64 f.1,.int .i64 f.2.1] 30))):=by
              have:=steps_ok K pp hok list f known kv (wr.alloc (.cells #[.int .i64 f.1,.int .i64 f.2.1] 30)).heap.size (fun b hb=>Nat.lt_of_lt_of_le (hgw.lt b hb) hb6.size) 100 [] (.slice none 0 0) _ s s2 hg6 hl6 hk6 (World.ownsRow_nil _ _ _ _) (Nat.le_refl _) (by rw [r2,q2,r3];exact hs2)
              unfold stepArgs at this
              rw [r3,r4,r5,r6,r7] at this
              exact this
            have A14:Aside (foldF (fun s f=>stepsF K list (i:Int) f known depth 100 [] s) (list.drop (j + 1)) s2=some s1):=hfo2
            have A15:Aside (Below w.heap.size w wr/\W4.heap.size + 1<=wr.heap.size/\RX Tryz.prog (.sl tq0) false wr (fun b=>wo.heap.size<=b/\b < W4.heap.size) [kv] known):=⟨hbw,hsw,hkw⟩
            clear hs2 hfo2 hfo hdrop hf hlw hcs hSl hg6 hl6 hk6 hgw hbw hsw hkw hb6 hok hW4 hwW3 hdbl hdbs hwW r1 r2 r3 r4 r5 r6 r7 r8 r9 r10 r11 r12 q1 q2 q3 q4 q5 q6 q7 q8 q9
            go_wp2_with (first
              | (go_at_call 89;refine hst.mono ?_;rintro e w9 ⟨rfl,hg9,_,hf9⟩)
              | go_in)
            obtain ⟨hbw,hsw,hkw⟩:=(show Below w.heap.size w wr/\W4.heap.size + 1<=wr.heap.size/\RX Tryz.prog (.sl tq0) false wr (fun b=>wo.heap.size<=b/\b < W4.heap.size) [kv] known from A15)
            have hb6:Below wr.heap.size wr (wr.alloc (.cells #[.int .i64 f.1,.int .i64 f.2.1] 30)):=(Below.refl _ _).alloc (Nat.le_refl _) _
            obtain ⟨r1,r2,r3,r4,r5,r6,r7,r8,r9,r10,r11,r12⟩:=(show pp.lv=p.lv/\pp.n=p.n/\pp.depth=depth/\pp.G=p.G/\pp.gb=p.gb/\pp.db=db/\pp.ab=W4.heap.size/\pp.D=p.D/\pp.o=p.o/\pp.c=p.c/\pp.L=p.L/\pp.tD=p.tD from A13)
            obtain ⟨q1,q2,q3,q4,q5,q6,q7,q8,q9⟩:=(show p.lv=.slice (some ⟨lb,lo,none⟩) list.length lc/\p.n=(i:Int)/\p.L=D0.length/\p.L<=p.c/\p.G < W3.heap.size/\p.gb < W3.heap.size/\p.D < p.G/\w.heap.size<=p.D/\p.G < p.gb from A4)
            have hwW3:W3.heap.size<=wo.heap.size:=A8.2.2.2.1
            have hW4:wo.heap.size<=W4.heap.size:=A12.2
            have hb9:Below w.heap.size w w9:=by
              refine (hbw.trans (hb6.mono hbw.size)).trans ⟨hf9.os,hf9.tape,hf9.output,hf9.size,fun k hk=>hf9.block k ?_ ?_ ?_ (by simp [Value.ownBlock])⟩
              · have:=hbw.size;have:=hb6.size;omega
              · rw [r8];omega
              · rw [r7];omega
            have hk9:RX Tryz.prog (.sl tq0) false w9 (fun b=>wo.heap.size<=b/\b < W4.heap.size) [kv] known:=by
              refine RX_congr _ (.sl tq0) false (Nat.le_trans hb6.size hf9.size) (fun b h1 h2=>⟨h1,?_⟩) (fun b h1=>?_) hkw
              · rw [hf9.block b (by have:=hb6.size;omega) (by rw [r8];omega) (by rw [r7];omega) (by simp [Value.ownBlock]),hb6.block b h2]
              · have:=hb6.size;have:=hf9.size;omega
            have hs9:W4.heap.size + 1<=w9.heap.size:=by have:=hb6.size;have:=hf9.size;omega
            have A16:Aside (GnW pp w9 s2/\Below w.heap.size w w9/\W4.heap.size + 1<=w9.heap.size/\RX Tryz.prog (.sl tq0) false w9 (fun b=>wo.heap.size<=b/\b < W4.heap.size) [kv] known):=⟨hg9,hb9,hs9,hk9⟩
            go_roundw
            case rel=>exact ⟨j + 1,s2,by omega,by simp,A14,A16.1,A16.2.1,A16.2.2.1,A16.2.2.2⟩
            case measure=>simp [intOf];omega
/-! GeneratedBy -/
theorem code_calls (K:Nat) (w:World) (b:Nat) (t:TypeId) (lv:Value) (list:List DFg) (n c:Int) {S:Nat->Prop} (hb:w.heap[b]?=some (.cells #[lv] t (0,0))) (hl:RX Tryz.prog (.sl tq0) false w S [lv] list) (hy:i_generationCode K (n,[list],())=some c) :
    Calls Tryz.prog 35 #[.int .i64 n,.slice (some ⟨b,0,none⟩) 1 1] w fun e w'=>e=.returned (.int .i64 c)/\Below w.heap.size w w':=by
  refine (gcalls (ok_i_generationCode K) rfl Tryz.func35 (by kernel_rfl) (c:=bodyOf Tryz.f35) (by kernel_rfl) w [.int .i64 n,.slice (some ⟨b,0,none⟩) 1 1] (n,[list],()) c ?_ hy).mono ?_
  · refine ⟨[.int .i64 n],[.slice (some ⟨b,0,none⟩) 1 1],rfl,rfl,[.slice (some ⟨b,0,none⟩) 1 1],[],rfl,?_,rfl⟩
    refine ⟨some ⟨b,0,none⟩,1,1,rfl,rfl,Nat.le_refl _,.inr ⟨b,0,_,t,(0,0),rfl,(Array.getElem?_eq_some_iff.1 hb).1,hb,Nat.le_refl _,fun i y hy=>?_⟩⟩
    cases i with
    | zero =>
      have:y=list:=by simpa using hy.symm
      subst this
      exact RX_congr _ (.sl tq0) false (Nat.le_refl _) (fun b h1 h2=>⟨h2,rfl⟩) (fun _ h=>h) hl
    | succ i=>simp at hy
  · rintro e w' ⟨v,rfl,bs,⟨cs,h0,h1,h2⟩,h3,h4,h5⟩
    have h1:cs=[.int .i64 c]:=h1
    subst h1
    cases h0
    exact ⟨rfl,h5⟩
noncomputable abbrev gbT:Ty:=.tup (.pair (.sl tq0) (.pair (.int .i64) .unit))
def GbW (y:List DFg × Int × Unit) (w:World) (e:Ending) (w':World):Prop:=∃ v,e=.returned v/\Ret gbT y w v w'
theorem gb_calls (K:Nat) (w:World) (list:List DFg) (lv:Value) (n:Int) (y:List DFg × Int × Unit) (hl:RX Tryz.prog (.sl tq0) false w (fun b=>b < w.heap.size) [lv] list) (hy:genByF K (list,n,())=some y):Calls Tryz.prog 9 #[lv,.int .i64 n] w (GbW y w):=by
  unfold genByF at hy
  obtain ⟨c,hc,hy⟩:=Option.bind_eq_some_iff.1 hy
  obtain ⟨la,lc,hlv,hlc,_⟩:=rx_cells hl
  subst hlv
  have hb1:∀ t,Below w.heap.size w (w.alloc (.cells #[.slice la list.length lc] t)):=fun t=>(Below.refl _ _).alloc (Nat.le_refl _) _
  have hcode:=fun t=>code_calls K (w.alloc (.cells #[.slice la list.length lc] t)) w.heap.size t (.slice la list.length lc) list n c (S:=fun b=>b < w.heap.size) (by rw [alloc_get,if_pos rfl]) (RX_congr _ (.sl tq0) false (hb1 t).size (fun b h1 h2=>⟨h1,(hb1 t).block b h2⟩) (fun b h1=>Nat.lt_of_lt_of_le h1 (hb1 t).size) hl) hc
  by_cases hc0:c=0
  · subst hc0
    rw [if_pos rfl] at hy
    obtain ⟨D,hD,hy⟩:=Option.bind_eq_some_iff.1 hy
    obtain ⟨l,hll,hy⟩:=Option.bind_eq_some_iff.1 hy
    injection hy with hy
    subst hy
    have hgen:∀ w',Below w.heap.size w w'->Calls Tryz.prog 36 #[.slice la list.length lc,.int .i64 n] w' (GenW list (.slice la list.length lc) n D w'):=fun w' hb=>gen_calls K w' list _ n D (RX_congr _ (.sl tq0) false hb.size (fun b h1 h2=>⟨Nat.lt_of_lt_of_le h1 hb.size,hb.block b h2⟩) (fun b h1=>h1) hl) hD
    have hall:∀ p w',p.lv=.slice la list.length lc->p.n=n->p.L<=p.c->GnI p w' D->Below w.heap.size w w'->Calls Tryz.prog 37 #[.pointer (some ⟨p.G,0,none⟩)] w' fun e w''=>∃ v,e=.returned v/\Ret (.sl tq0) l w' v w'':=fun p w' h1 h2 h3 h4 hb =>
      all_calls K p h3 h4 (T:=fun b=>b < w.heap.size) (by rw [h1];exact RX_congr _ (.sl tq0) false hb.size (fun b h1 h2=>⟨h1,hb.block b h2⟩) (fun b h1=>Nat.lt_of_lt_of_le h1 hb.size) hl) (fun b h=>Nat.lt_of_lt_of_le h hb.size) (by rw [h2];exact hll)
    have A0:Aside (∀ t,Below w.heap.size w (w.alloc (.cells #[.slice la list.length lc] t))):=hb1
    clear hc hD hll hl hb1
    go_enter Tryz.func9,Tryz.ntmps9
    go_wp2_with (first
      | (go_at_call 35;refine (hcode _).mono ?_;rintro e w1 ⟨rfl,hbe1⟩;have hb2:Aside (Below w.heap.size w w1):=Below.trans (A0 _) (hbe1.mono (A0 _).size))
      | (go_at_call 36;refine (hgen _ hb2).mono ?_;rintro e w2 ⟨p,rfl,g1,g2,g3,g4,g5⟩;have hb3:Aside (Below w.heap.size w w2):=Below.trans hb2 (g5.mono hb2.size);have A1:Aside (p.lv=.slice la list.length lc/\p.n=n/\p.L<=p.c/\GnI p w2 D):=⟨g1,g2,g3,g4⟩;clear g1 g2 g3 g4)
      | (go_at_call 37;refine (hall _ _ A1.1 A1.2.1 A1.2.2.1 A1.2.2.2 hb3).mono ?_;rintro e w3 ⟨v,rfl,hret⟩)
      | go_in)
    go_ret2
    obtain ⟨bs,h1,h2,h3,h4⟩:=hret
    have hbb:Below w.heap.size w w2:=hb3
    exact ⟨.tuple #[v,.int .i64 0],rfl,bs,⟨[v,.int .i64 0],rfl,v,[.int .i64 0],bs,[],rfl,by simp,h1,.int .i64 0,[],[],[],rfl,rfl,⟨[.int .i64 0],rfl,rfl,rfl⟩,rfl,rfl⟩,h2,fun b hb=>⟨Nat.le_trans hbb.size (h3 b hb).1,(h3 b hb).2⟩,hbb.trans (h4.mono hbb.size)⟩
  · rw [if_neg hc0] at hy
    injection hy with hy
    subst hy
    have A0:Aside (∀ t,Below w.heap.size w (w.alloc (.cells #[.slice la list.length lc] t))):=hb1
    have hcb:(c == 0)=false:=by rw [beq_eq_false_iff_ne];exact hc0
    have hcb2:(c != 0)=true:=by rw [bne_iff_ne];exact hc0
    clear hc hl hb1 hc0
    go_enter Tryz.func9,Tryz.ntmps9
    go_wp2_with (first
      | (go_at_call 35;refine (hcode _).mono ?_;rintro e w1 ⟨rfl,hbe1⟩;have hb2:Aside (Below w.heap.size w w1):=Below.trans (A0 _) (hbe1.mono (A0 _).size))
      | go_in)
    go_ret2
    exact ⟨.tuple #[.slice none 0 0,.int .i64 c],rfl,[],⟨[.slice none 0 0,.int .i64 c],rfl,.slice none 0 0,[.int .i64 c],[],[],rfl,rfl,⟨[.slice none 0 0],rfl,.inl ⟨rfl,rfl,rfl⟩⟩,.int .i64 c,[],[],[],rfl,rfl,⟨[.int .i64 c],rfl,rfl,rfl⟩,rfl,rfl⟩,List.nodup_nil,fun b hb=>(by cases hb),hb2⟩
theorem gby_ok (K:Nat):FnOk Tryz.prog 9 ⟨.pair (.sl tq0) (.pair (.int .i64) .unit),[false,false],gbT,genByF K⟩:=by
  refine ⟨fun _=>?_,fun h=>by cases h⟩
  intro w vs x y hx hy
  obtain ⟨list,n,u⟩:=x
  obtain ⟨cs,r,rfl,hl,c2,r2,rfl,h2,h3⟩:=hx
  have h2:c2=[.int .i64 n]:=h2
  have h3:r2=[]:=h3
  subst h2 h3
  obtain ⟨lv,hlv⟩:∃ lv,lv=valOf (.sl tq0) cs:=⟨_,rfl⟩
  have hcs:cs=[lv]:=by
    have hl1:cs.length=1:=RX_len _ _ _ _ _ _ hl
    match cs,hl1 with
    | [x],_=>rw [hlv];rfl
  rw [<-hlv]
  rw [hcs] at hl
  refine cf_of_calls Tryz.func9 (c:=bodyOf Tryz.f9) (by kernel_rfl) (by kernel_rfl) ?_
  exact gb_calls K w list lv n y hl hy
end Go.Proofs.YtmlgfaojfmkdnaaGreatDoor.E
namespace Go.Proofs.YtmlgfaojfmkdnaaGreatDoor.E
open Go Go.Proofs Go.Proofs.YtmlgfaojfmkdnaaGreatDoor
set_option maxRecDepth 100000
set_option linter.unusedVariables false
noncomputable def as_i_GeneratedBy:Ty:=(.pair (.sl tq0) (.pair (.int .i64) .unit))
noncomputable def sp_i_GeneratedBy (F:((List dq0) × Int × Unit)->Option ((List dq0) × Int × Unit)):FnSpec:=⟨as_i_GeneratedBy,[false,false],(.tup (.pair (.sl tq0) (.pair (.int .i64) .unit))),F⟩
noncomputable def i_GeneratedBy (K:Nat) (x:List (Int × Int × Unit) × Int × Unit):Option (List (Int × Int × Unit) × Int × Unit):=genByF K x
theorem ok_i_GeneratedBy (K:Nat):FnOk Tryz.prog 9 (sp_i_GeneratedBy (i_GeneratedBy K)):=gby_ok K
noncomputable def C_i_GeneratedBy (K:Nat):CB Tryz.prog:=.f _ _ (ok_i_GeneratedBy K)
noncomputable def as_i_isKind:Ty:=(.pair (.int .i64) .unit)
noncomputable def sp_i_isKind (F:(Int × Unit)->Option Bool):FnSpec:=⟨as_i_isKind,[false],.bool,F⟩
noncomputable def i_isKind (K:Nat) (x:(Int × Unit)):Option Bool :=
    (i_within K (x.1,(0:Int),(3:Int),())).bind fun y1 =>
    some y1
noncomputable def rv_i_isKind:Lv:=[(2,(.v .bool))]
theorem ok_i_isKind (K:Nat):FnOk Tryz.prog 74 (sp_i_isKind (i_isKind K)) :=
  fn_okD tysOk [C_i_within K] 0 [] [] rv_i_isKind K Tryz.func74 (by kernel_rfl) trivial (fun _=>by kernel_rfl)
noncomputable def C_i_isKind (K:Nat):CB Tryz.prog:=.f _ _ (ok_i_isKind K)
noncomputable def as_i_forTwo:Ty:=(.pair (.fn (.pair (.int .i64) (.pair (.int .i64) .unit)) .bool) .unit)
noncomputable def sp_i_forTwo (F:(((Int × Int × Unit)->Option Bool) × Unit)->Option Bool):FnSpec:=⟨as_i_forTwo,[false],.bool,F⟩
noncomputable def i_forTwo (K:Nat) (x:(((Int × Int × Unit)->Option Bool) × Unit)):Option Bool :=
    (x.1 ((0:Int),(0:Int),())).bind fun y1 =>
    (if y1=true then
    (x.1 ((0:Int),(1:Int),())).bind fun y2 =>
    (if y2=true then
    (x.1 ((1:Int),(0:Int),())).bind fun y3 =>
    (if y3=true then
    (x.1 ((1:Int),(1:Int),())).bind fun y4 =>
    some y4
    else
    some false)
    else
    some false)
    else
    some false)
noncomputable def rv_i_forTwo:Lv:=[(2,(.v .bool))]
theorem ok_i_forTwo (K:Nat):FnOk Tryz.prog 146 (sp_i_forTwo (i_forTwo K)) :=
  fn_okD tysOk [] 0 [] [] rv_i_forTwo K Tryz.func146 (by kernel_rfl) trivial (fun _=>by kernel_rfl)
noncomputable def C_i_forTwo (K:Nat):CB Tryz.prog:=.f _ _ (ok_i_forTwo K)
noncomputable def as_i_packed:Ty:=(.pair (.sl (.int .i64)) .unit)
noncomputable def sp_i_packed (F:((List Int) × Unit)->Option Int):FnSpec:=⟨as_i_packed,[false],(.int .i64),F⟩
noncomputable def i_packed_l3 {R:Type} (K:Nat):Nat->Int->(List Int)->Int->Int->(Int->Option R)->Option R
  | 0,_,_,_,_,_=>none
  | k + 1,v3,v6,v7,v8,kx0 =>
    (if (decide (v8 < v7))=true then
    (if (bnds v8 (v6.length:Int))=true then
    (if (decide ((0:Int)<=v8))=true then
    let x1:=(bitI .or .i64 v3 (shlI .i64 (v6.getD v8.toNat (0:Int)) v8))
    i_packed_l3 K k x1 v6 v7 (IntKind.i64.wrap (v8 + (1:Int))) kx0
    else
    none)
    else
    none)
    else
    kx0 v3)
noncomputable def i_packed (K:Nat) (x:((List Int) × Unit)):Option Int :=
    i_packed_l3 K K (0:Int) x.1 (x.1.length:Int) (0:Int) (fun z2 =>
    some z2)
noncomputable def X0_i_packed:Lv:=[(3,(.v (.int .i64)))]
noncomputable def rv_i_packed:Lv:=[(2,(.v (.int .i64)))]
noncomputable def D_i_packed (K:Nat):List (PD (den (.int .i64))):=[.L 3 [(3,(.v (.int .i64))),(6,(.v (.sl (.int .i64)))),(7,(.v (.int .i64))),(8,(.v (.int .i64)))] [] (fun k x kx kr=>i_packed_l3 K k x.1 x.2.1 x.2.2.1 x.2.2.2.1 (fun z0=>kx 0 (mkSt X0_i_packed (z0,()))))]
theorem ok_i_packed (K:Nat):FnOk Tryz.prog 186 (sp_i_packed (i_packed K)) :=
  fn_okD tysOk [] 0 (D_i_packed K) [(0,X0_i_packed)] rv_i_packed K Tryz.func186 (by kernel_rfl) ⟨⟨fun _ _ _ _=>by kernel_rfl,fun _ _ _=>rfl⟩,trivial⟩ (fun _=>by kernel_rfl)
noncomputable def C_i_packed (K:Nat):CB Tryz.prog:=.f _ _ (ok_i_packed K)
noncomputable def as_i_Func_of:Ty:=(.pair tq0 (.pair (.sl (.int .i64)) .unit))
noncomputable def sp_i_Func_of (F:(dq0 × (List Int) × Unit)->Option Int):FnSpec:=⟨as_i_Func_of,[false,false],(.int .i64),F⟩
noncomputable def i_Func_of (K:Nat) (x:(dq0 × (List Int) × Unit)):Option Int :=
    (i_packed K (x.2.1,())).bind fun y1 =>
    (i_Func_at K (x.1,y1,())).bind fun y2 =>
    some y2
noncomputable def rv_i_Func_of:Lv:=[(4,(.v (.int .i64)))]
theorem ok_i_Func_of (K:Nat):FnOk Tryz.prog 148 (sp_i_Func_of (i_Func_of K)) :=
  fn_okD tysOk [C_i_Func_at K,C_i_packed K] 0 [] [] rv_i_Func_of K Tryz.func148 (by kernel_rfl) trivial (fun _=>by kernel_rfl)
noncomputable def C_i_Func_of (K:Nat):CB Tryz.prog:=.f _ _ (ok_i_Func_of K)
noncomputable def as_i_Func_isOfKind_c1:Ty:=(.pair (.int .i64) (.pair (.int .i64) (.pair (.ptr tq0) .unit)))
noncomputable def sp_i_Func_isOfKind_c1 (F:(Int × Int × dq0 × Unit)->Option Bool):FnSpec:=⟨as_i_Func_isOfKind_c1,[false,false,false],.bool,F⟩
noncomputable def i_Func_isOfKind_c1 (K:Nat) (x:(Int × Int × dq0 × Unit)):Option Bool :=
    let l1:=[x.1,x.1,x.2.1]
    (i_Func_of K (x.2.2.1,l1,())).bind fun y2 =>
    (if (decide (y2=x.1))=true then
    let l3:=[x.1,x.2.1,x.1]
    (i_Func_of K (x.2.2.1,l3,())).bind fun y4 =>
    (if (decide (y4=x.1))=true then
    let l5:=[x.2.1,x.1,x.1]
    (i_Func_of K (x.2.2.1,l5,())).bind fun y6 =>
    some (decide (y6=x.1))
    else
    some false)
    else
    some false)
noncomputable def rv_i_Func_isOfKind_c1:Lv:=[(5,(.v .bool))]
theorem ok_i_Func_isOfKind_c1 (K:Nat):FnOk Tryz.prog 147 (sp_i_Func_isOfKind_c1 (i_Func_isOfKind_c1 K)) :=
  fn_okD tysOk [C_i_Func_of K] 0 [] [] rv_i_Func_isOfKind_c1 K Tryz.func147 (by kernel_rfl) trivial (fun _=>by kernel_rfl)
noncomputable def C_i_Func_isOfKind_c1 (K:Nat):CB Tryz.prog:=.f _ _ (ok_i_Func_isOfKind_c1 K)
noncomputable def as_i_Func_isOfKind_c2:Ty:=(.pair (.int .i64) (.pair (.int .i64) (.pair (.ptr tq0) .unit)))
noncomputable def sp_i_Func_isOfKind_c2 (F:(Int × Int × dq0 × Unit)->Option Bool):FnSpec:=⟨as_i_Func_isOfKind_c2,[false,false,false],.bool,F⟩
noncomputable def i_Func_isOfKind_c2 (K:Nat) (x:(Int × Int × dq0 × Unit)):Option Bool :=
    let l1:=[x.1,x.1,x.2.1]
    (i_Func_of K (x.2.2.1,l1,())).bind fun y2 =>
    (if (decide (y2=x.2.1))=true then
    let l3:=[x.1,x.2.1,x.1]
    (i_Func_of K (x.2.2.1,l3,())).bind fun y4 =>
    (if (decide (y4=x.2.1))=true then
    let l5:=[x.2.1,x.1,x.1]
    (i_Func_of K (x.2.2.1,l5,())).bind fun y6 =>
    some (decide (y6=x.2.1))
    else
    some false)
    else
    some false)
noncomputable def rv_i_Func_isOfKind_c2:Lv:=[(5,(.v .bool))]
theorem ok_i_Func_isOfKind_c2 (K:Nat):FnOk Tryz.prog 149 (sp_i_Func_isOfKind_c2 (i_Func_isOfKind_c2 K)) :=
  fn_okD tysOk [C_i_Func_of K] 0 [] [] rv_i_Func_isOfKind_c2 K Tryz.func149 (by kernel_rfl) trivial (fun _=>by kernel_rfl)
noncomputable def C_i_Func_isOfKind_c2 (K:Nat):CB Tryz.prog:=.f _ _ (ok_i_Func_isOfKind_c2 K)
noncomputable def as_i_Func_isOfKind_c3:Ty:=(.pair (.int .i64) (.pair (.int .i64) (.pair (.ptr tq0) .unit)))
noncomputable def sp_i_Func_isOfKind_c3 (F:(Int × Int × dq0 × Unit)->Option Bool):FnSpec:=⟨as_i_Func_isOfKind_c3,[false,false,false],.bool,F⟩
noncomputable def i_Func_isOfKind_c3 (K:Nat) (x:(Int × Int × dq0 × Unit)):Option Bool :=
    let l1:=[x.1,x.2.1,x.2.1]
    (i_Func_of K (x.2.2.1,l1,())).bind fun y2 =>
    (if (decide (y2=x.1))=true then
    let l3:=[x.2.1,x.2.1,x.1]
    (i_Func_of K (x.2.2.1,l3,())).bind fun y4 =>
    some (decide (y4=x.1))
    else
    some false)
noncomputable def rv_i_Func_isOfKind_c3:Lv:=[(5,(.v .bool))]
theorem ok_i_Func_isOfKind_c3 (K:Nat):FnOk Tryz.prog 150 (sp_i_Func_isOfKind_c3 (i_Func_isOfKind_c3 K)) :=
  fn_okD tysOk [C_i_Func_of K] 0 [] [] rv_i_Func_isOfKind_c3 K Tryz.func150 (by kernel_rfl) trivial (fun _=>by kernel_rfl)
noncomputable def C_i_Func_isOfKind_c3 (K:Nat):CB Tryz.prog:=.f _ _ (ok_i_Func_isOfKind_c3 K)
noncomputable def as_i_Func_isIdempotent:Ty:=(.pair tq0 .unit)
noncomputable def sp_i_Func_isIdempotent (F:(dq0 × Unit)->Option Bool):FnSpec:=⟨as_i_Func_isIdempotent,[false],.bool,F⟩
noncomputable def i_Func_isIdempotent (K:Nat) (x:(dq0 × Unit)):Option Bool :=
    (if (decide (x.1.1 > (0:Int)))=true then
    (i_Func_at K (x.1,(0:Int),())).bind fun y1 =>
    (if (decide (y1=(0:Int)))=true then
    (i_Func_rows K (x.1,())).bind fun y2 =>
    (i_Func_at K (x.1,(IntKind.i64.wrap (y2 - (1:Int))),())).bind fun y3 =>
    some (decide (y3=(1:Int)))
    else
    some false)
    else
    some false)
noncomputable def rv_i_Func_isIdempotent:Lv:=[(2,(.v .bool))]
theorem ok_i_Func_isIdempotent (K:Nat):FnOk Tryz.prog 151 (sp_i_Func_isIdempotent (i_Func_isIdempotent K)) :=
  fn_okD tysOk [C_i_Func_rows K,C_i_Func_at K] 0 [] [] rv_i_Func_isIdempotent K Tryz.func151 (by kernel_rfl) trivial (fun _=>by kernel_rfl)
noncomputable def C_i_Func_isIdempotent (K:Nat):CB Tryz.prog:=.f _ _ (ok_i_Func_isIdempotent K)
noncomputable def as_math_bits_OnesCount64:Ty:=(.pair (.int .u64) .unit)
noncomputable def sp_math_bits_OnesCount64 (F:(Int × Unit)->Option Int):FnSpec:=⟨as_math_bits_OnesCount64,[false],(.int .i64),F⟩
noncomputable def math_bits_OnesCount64 (K:Nat) (x:(Int × Unit)):Option Int :=
    let x1:=(bitI .and .u64 (shrI .u64 x.1 (1:Int)) (6148914691236517205:Int))
    let x2:=(IntKind.u64.wrap (x1 + (bitI .and .u64 x.1 (6148914691236517205:Int))))
    let x3:=(bitI .and .u64 (shrI .u64 x2 (2:Int)) (3689348814741910323:Int))
    let x4:=(IntKind.u64.wrap (x3 + (bitI .and .u64 x2 (3689348814741910323:Int))))
    let x5:=(bitI .and .u64 (IntKind.u64.wrap ((shrI .u64 x4 (4:Int)) + x4)) (1085102592571150095:Int))
    let x6:=(shrI .u64 (IntKind.u64.wrap (x5 + (shrI .u64 x5 (8:Int)))) (16:Int))
    let x7:=(IntKind.u64.wrap ((IntKind.u64.wrap (x5 + (shrI .u64 x5 (8:Int)))) + x6))
    let x8:=(IntKind.i64.wrap (IntKind.u64.wrap (x7 + (shrI .u64 x7 (32:Int)))))
    some (bitI .and .i64 x8 (127:Int))
noncomputable def rv_math_bits_OnesCount64:Lv:=[(2,(.v (.int .i64)))]
theorem ok_math_bits_OnesCount64 (K:Nat):FnOk Tryz.prog 181 (sp_math_bits_OnesCount64 (math_bits_OnesCount64 K)) :=
  fn_okD tysOk [] 0 [] [] rv_math_bits_OnesCount64 K Tryz.func181 (by kernel_rfl) trivial (fun _=>by kernel_rfl)
noncomputable def C_math_bits_OnesCount64 (K:Nat):CB Tryz.prog:=.f _ _ (ok_math_bits_OnesCount64 K)
noncomputable def as_i_ones:Ty:=(.pair (.int .i64) .unit)
noncomputable def sp_i_ones (F:(Int × Unit)->Option Int):FnSpec:=⟨as_i_ones,[false],(.int .i64),F⟩
noncomputable def i_ones (K:Nat) (x:(Int × Unit)):Option Int :=
    (math_bits_OnesCount64 K ((IntKind.u64.wrap x.1),())).bind fun y1 =>
    some y1
noncomputable def rv_i_ones:Lv:=[(2,(.v (.int .i64)))]
theorem ok_i_ones (K:Nat):FnOk Tryz.prog 123 (sp_i_ones (i_ones K)) :=
  fn_okD tysOk [C_math_bits_OnesCount64 K] 0 [] [] rv_i_ones K Tryz.func123 (by kernel_rfl) trivial (fun _=>by kernel_rfl)
noncomputable def C_i_ones (K:Nat):CB Tryz.prog:=.f _ _ (ok_i_ones K)
noncomputable def as_i_Func_levels:Ty:=(.pair tq0 .unit)
noncomputable def sp_i_Func_levels (F:(dq0 × Unit)->Option ((List Int) × Bool × Unit)):FnSpec:=⟨as_i_Func_levels,[false],(.tup (.pair (.sl (.int .i64)) (.pair .bool .unit))),F⟩
noncomputable def i_Func_levels_j8 {R:Type} (K:Nat) (k:Nat) (v1:dq0) (v4:(List Int)) (v5:Int) (v6:Int) (v13:Int) (v14:Int) (kn:dq0->(List Int)->Int->Int->Option R) :Option R :=
    (i_Func_at K (v1,v5,())).bind fun y6 =>
    (if (bnds v6 (v4.length:Int))=true then
    let l7:=(v4.set v6.toNat y6)
    kn v1 l7 v13 v14
    else
    none)
noncomputable def i_Func_levels_l3 {R:Type} (K:Nat):Nat->dq0->(List Int)->Int->Int->((List Int)->Option R)->((List Int)->Bool->Option R)->Option R
  | 0,_,_,_,_,_,_=>none
  | k + 1,v1,v4,v13,v14,kx0,kr =>
    (if (decide (v14 < v13))=true then
    (i_ones K (v14,())).bind fun y4 =>
    (if (bnds y4 (v4.length:Int))=true then
    (if (decide ((v4.getD y4.toNat (0:Int)) ≥ (0:Int)))=true then
    (if (bnds y4 (v4.length:Int))=true then
    (i_Func_at K (v1,v14,())).bind fun y5 =>
    (if (!decide ((v4.getD y4.toNat (0:Int))=y5))=true then
    kr ([]:List Int) false
    else
    i_Func_levels_j8 K k v1 v4 v14 y4 v13 v14 (fun z8 z9 z10 z11 =>
    i_Func_levels_l3 K k z8 z9 z10 (IntKind.i64.wrap (z11 + (1:Int))) kx0 kr))
    else
    none)
    else
    i_Func_levels_j8 K k v1 v4 v14 y4 v13 v14 (fun z12 z13 z14 z15 =>
    i_Func_levels_l3 K k z12 z13 z14 (IntKind.i64.wrap (z15 + (1:Int))) kx0 kr))
    else
    none)
    else
    kx0 v4)
noncomputable def i_Func_levels (K:Nat) (x:(dq0 × Unit)):Option ((List Int) × Bool × Unit) :=
    let l1:=[(-1:Int)]
    (slices_Repeat_int64 K (l1,(IntKind.i64.wrap (x.1.1 + (1:Int))),())).bind fun y2 =>
    (i_Func_rows K (x.1,())).bind fun y3 =>
    i_Func_levels_l3 K K x.1 y2 y3 (0:Int) (fun z16 =>
    some (z16,true,())) (fun z17 z18 =>
    some (z17,z18,()))
noncomputable def X0_i_Func_levels:Lv:=[(4,(.r (.int .i64)))]
noncomputable def rv_i_Func_levels:Lv:=[(2,(.r (.int .i64))),(3,(.v .bool))]
noncomputable def D_i_Func_levels (K:Nat):List (PD (den (.tup (.pair (.sl (.int .i64)) (.pair .bool .unit))))):=[.L 3 [(1,(.bx (.v tq0))),(4,(.r (.int .i64))),(13,(.v (.int .i64))),(14,(.v (.int .i64)))] [] (fun k x kx kr=>i_Func_levels_l3 K k x.1 x.2.1 x.2.2.1 x.2.2.2.1 (fun z0=>kx 0 (mkSt X0_i_Func_levels (z0,()))) (fun z0 z1=>kr (mkSt rv_i_Func_levels (z0,z1,())))),
  .J 8 [(1,(.bx (.v tq0))),(4,(.r (.int .i64))),(5,(.v (.int .i64))),(6,(.v (.int .i64))),(13,(.v (.int .i64))),(14,(.v (.int .i64)))] [(1,(.bx (.v tq0))),(4,(.r (.int .i64))),(13,(.v (.int .i64))),(14,(.v (.int .i64)))] 0 (fun k x kn kx kr=>i_Func_levels_j8 K k x.1 x.2.1 x.2.2.1 x.2.2.2.1 x.2.2.2.2.1 x.2.2.2.2.2.1 (fun z0 z1 z2 z3=>kn (z0,z1,z2,z3,())))]
theorem ok_i_Func_levels (K:Nat):FnOk Tryz.prog 187 (sp_i_Func_levels (i_Func_levels K)) :=
  fn_okD tysOk [C_slices_Repeat_int64 K,C_i_ones K,C_i_Func_rows K,C_i_Func_at K] 0 (D_i_Func_levels K) [(0,X0_i_Func_levels)] rv_i_Func_levels K Tryz.func187 (by kernel_rfl) ⟨⟨fun _ _ _ _=>by kernel_rfl,fun _ _ _=>rfl⟩,⟨fun _ _ _ _ _=>by kernel_rfl,trivial⟩⟩ (fun _=>by kernel_rfl)
noncomputable def C_i_Func_levels (K:Nat):CB Tryz.prog:=.f _ _ (ok_i_Func_levels K)
noncomputable def as_i_Func_isSymmetric:Ty:=(.pair tq0 .unit)
noncomputable def sp_i_Func_isSymmetric (F:(dq0 × Unit)->Option Bool):FnSpec:=⟨as_i_Func_isSymmetric,[false],.bool,F⟩
noncomputable def i_Func_isSymmetric (K:Nat) (x:(dq0 × Unit)):Option Bool :=
    (i_Func_levels K (x.1,())).bind fun y1 =>
    some y1.2.1
noncomputable def rv_i_Func_isSymmetric:Lv:=[(2,(.v .bool))]
theorem ok_i_Func_isSymmetric (K:Nat):FnOk Tryz.prog 152 (sp_i_Func_isSymmetric (i_Func_isSymmetric K)) :=
  fn_okD tysOk [C_i_Func_levels K] 0 [] [] rv_i_Func_isSymmetric K Tryz.func152 (by kernel_rfl) trivial (fun _=>by kernel_rfl)
noncomputable def C_i_Func_isSymmetric (K:Nat):CB Tryz.prog:=.f _ _ (ok_i_Func_isSymmetric K)
noncomputable def as_i_Func_isOfKind:Ty:=(.pair tq0 (.pair (.int .i64) .unit))
noncomputable def sp_i_Func_isOfKind (F:(dq0 × Int × Unit)->Option Bool):FnSpec:=⟨as_i_Func_isOfKind,[false,false],.bool,F⟩
noncomputable def i_Func_isOfKind (K:Nat) (x:(dq0 × Int × Unit)):Option Bool :=
    (if (!decide (x.1.1=(3:Int)))=true then
    some false
    else
    (if (decide (x.2.1=(0:Int)))=true then
    (i_forTwo K ((fun y2=>i_Func_isOfKind_c1 K (y2.1,y2.2.1,x.1,())),())).bind fun y1 =>
    some y1
    else
    (if (decide (x.2.1=(1:Int)))=true then
    (i_forTwo K ((fun y4=>i_Func_isOfKind_c2 K (y4.1,y4.2.1,x.1,())),())).bind fun y3 =>
    some y3
    else
    (if (decide (x.2.1=(2:Int)))=true then
    (i_forTwo K ((fun y6=>i_Func_isOfKind_c3 K (y6.1,y6.2.1,x.1,())),())).bind fun y5 =>
    some y5
    else
    (i_Func_isIdempotent K (x.1,())).bind fun y7 =>
    (if y7=true then
    (i_Func_isSymmetric K (x.1,())).bind fun y8 =>
    some y8
    else
    some false)))))
noncomputable def rv_i_Func_isOfKind:Lv:=[(4,(.v .bool))]
theorem ok_i_Func_isOfKind (K:Nat):FnOk Tryz.prog 77 (sp_i_Func_isOfKind (i_Func_isOfKind K)) :=
  fn_okD tysOk [C_i_forTwo K,C_i_Func_isOfKind_c1 K,C_i_Func_isOfKind_c2 K,C_i_Func_isOfKind_c3 K,C_i_Func_isIdempotent K,C_i_Func_isSymmetric K] 0 [] [] rv_i_Func_isOfKind K Tryz.func77 (by kernel_rfl) trivial (fun _=>by kernel_rfl)
noncomputable def C_i_Func_isOfKind (K:Nat):CB Tryz.prog:=.f _ _ (ok_i_Func_isOfKind K)
noncomputable def as_i_FindOfKind_c1:Ty:=(.pair tq0 (.pair (.ptr (.int .i64)) .unit))
noncomputable def sp_i_FindOfKind_c1 (F:(dq0 × Int × Unit)->Option Bool):FnSpec:=⟨as_i_FindOfKind_c1,[false,false],.bool,F⟩
noncomputable def i_FindOfKind_c1 (K:Nat) (x:(dq0 × Int × Unit)):Option Bool :=
    (i_Func_isOfKind K (x.1,x.2.1,())).bind fun y1 =>
    some y1
noncomputable def rv_i_FindOfKind_c1:Lv:=[(3,(.v .bool))]
theorem ok_i_FindOfKind_c1 (K:Nat):FnOk Tryz.prog 76 (sp_i_FindOfKind_c1 (i_FindOfKind_c1 K)) :=
  fn_okD tysOk [C_i_Func_isOfKind K] 0 [] [] rv_i_FindOfKind_c1 K Tryz.func76 (by kernel_rfl) trivial (fun _=>by kernel_rfl)
noncomputable def C_i_FindOfKind_c1 (K:Nat):CB Tryz.prog:=.f _ _ (ok_i_FindOfKind_c1 K)
noncomputable def as_i_FindOfKind:Ty:=(.pair (.sl tq0) (.pair (.int .i64) .unit))
noncomputable def sp_i_FindOfKind (F:((List dq0) × Int × Unit)->Option (dq0 × Int × Unit)):FnSpec:=⟨as_i_FindOfKind,[false,false],(.tup (.pair tq0 (.pair (.int .i64) .unit))),F⟩
noncomputable def i_FindOfKind (K:Nat) (x:((List dq0) × Int × Unit)):Option (dq0 × Int × Unit) :=
    (i_areFuncs K (x.1,())).bind fun y1 =>
    (if (!y1)=true then
    some (((0:Int),(0:Int),()),(1:Int),())
    else
    (i_isKind K (x.2.1,())).bind fun y2 =>
    (if (!y2)=true then
    some (((0:Int),(0:Int),()),(2:Int),())
    else
    (i_GeneratedBy K (x.1,(3:Int),())).bind fun y3 =>
    (if (!decide (y3.2.1=(0:Int)))=true then
    some (((0:Int),(0:Int),()),y3.2.1,())
    else
    (slices_IndexFunc_impl_Func K (y3.1,(fun y5=>i_FindOfKind_c1 K (y5.1,x.2.1,())),())).bind fun y4 =>
    (if (decide (y4 < (0:Int)))=true then
    some (((0:Int),(0:Int),()),(4:Int),())
    else
    (if (bnds y4 (y3.1.length:Int))=true then
    some ((y3.1.getD y4.toNat ((0:Int),(0:Int),())),(0:Int),())
    else
    none)))))
noncomputable def rv_i_FindOfKind:Lv:=[(4,(.bx (.v tq0))),(5,(.v (.int .i64)))]
theorem ok_i_FindOfKind (K:Nat):FnOk Tryz.prog 30 (sp_i_FindOfKind (i_FindOfKind K)) :=
  fn_okD tysOk [C_i_GeneratedBy K,C_i_areFuncs K,C_i_isKind K,C_slices_IndexFunc_impl_Func K,C_i_FindOfKind_c1 K] 0 [] [] rv_i_FindOfKind K Tryz.func30 (by kernel_rfl) trivial (fun _=>by kernel_rfl)
noncomputable def C_i_FindOfKind (K:Nat):CB Tryz.prog:=.f _ _ (ok_i_FindOfKind K)
noncomputable def as_i_IsAbelian_c1:Ty:=(.pair tq0 (.pair (.ptr tq0) .unit))
noncomputable def sp_i_IsAbelian_c1 (F:(dq0 × dq0 × Unit)->Option Bool):FnSpec:=⟨as_i_IsAbelian_c1,[false,false],.bool,F⟩
noncomputable def i_IsAbelian_c1 (K:Nat) (x:(dq0 × dq0 × Unit)):Option Bool :=
    (i_commute K (x.2.1,x.1,())).bind fun y1 =>
    some y1
noncomputable def rv_i_IsAbelian_c1:Lv:=[(3,(.v .bool))]
theorem ok_i_IsAbelian_c1 (K:Nat):FnOk Tryz.prog 72 (sp_i_IsAbelian_c1 (i_IsAbelian_c1 K)) :=
  fn_okD tysOk [C_i_commute K] 0 [] [] rv_i_IsAbelian_c1 K Tryz.func72 (by kernel_rfl) trivial (fun _=>by kernel_rfl)
noncomputable def C_i_IsAbelian_c1 (K:Nat):CB Tryz.prog:=.f _ _ (ok_i_IsAbelian_c1 K)
noncomputable def as_i_IsAbelian:Ty:=(.pair (.sl tq0) .unit)
noncomputable def sp_i_IsAbelian (F:((List dq0) × Unit)->Option (Bool × Int × Unit)):FnSpec:=⟨as_i_IsAbelian,[false],(.tup (.pair .bool (.pair (.int .i64) .unit))),F⟩
noncomputable def i_IsAbelian_l5 {R:Type} (K:Nat):Nat->(List dq0)->(List dq0)->Int->Int->(Option R)->(Bool->Int->Option R)->Option R
  | 0,_,_,_,_,_,_=>none
  | k + 1,v0,v12,v13,v14,kx0,kr =>
    (if (decide (v14 < v13))=true then
    (if (bnds v14 (v12.length:Int))=true then
    (if (decide (0<=(0:Int)) && decide ((0:Int)<=(IntKind.i64.wrap (v14 + (1:Int)))) && decide ((IntKind.i64.wrap (v14 + (1:Int)))<=(v0.length:Int)))=true then
    (i_allAre K ((sliceL v0 (0:Int) (IntKind.i64.wrap (v14 + (1:Int)))),(fun y3=>i_IsAbelian_c1 K (y3.1,(v12.getD v14.toNat ((0:Int),(0:Int),())),())),())).bind fun y2 =>
    (if (!y2)=true then
    kr false (0:Int)
    else
    i_IsAbelian_l5 K k v0 v12 v13 (IntKind.i64.wrap (v14 + (1:Int))) kx0 kr)
    else
    none)
    else
    none)
    else
    kx0)
noncomputable def i_IsAbelian (K:Nat) (x:((List dq0) × Unit)):Option (Bool × Int × Unit) :=
    (i_listCode K (x.1,())).bind fun y1 =>
    (if (!decide (y1=(0:Int)))=true then
    some (false,y1,())
    else
    i_IsAbelian_l5 K K x.1 x.1 (x.1.length:Int) (0:Int) (some (true,(0:Int),())) (fun z4 z5 =>
    some (z4,z5,())))
noncomputable def X0_i_IsAbelian:Lv:=[]
noncomputable def rv_i_IsAbelian:Lv:=[(2,(.v .bool)),(3,(.v (.int .i64)))]
noncomputable def D_i_IsAbelian (K:Nat):List (PD (den (.tup (.pair .bool (.pair (.int .i64) .unit))))):=[.L 5 [(0,(.v (.sl tq0))),(12,(.v (.sl tq0))),(13,(.v (.int .i64))),(14,(.v (.int .i64)))] [] (fun k x kx kr=>i_IsAbelian_l5 K k x.1 x.2.1 x.2.2.1 x.2.2.2.1 (kx 0 (mkSt X0_i_IsAbelian ())) (fun z0 z1=>kr (mkSt rv_i_IsAbelian (z0,z1,()))))]
theorem ok_i_IsAbelian (K:Nat):FnOk Tryz.prog 27 (sp_i_IsAbelian (i_IsAbelian K)) :=
  fn_okD tysOk [C_i_listCode K,C_i_allAre K,C_i_IsAbelian_c1 K] 0 (D_i_IsAbelian K) [(0,X0_i_IsAbelian)] rv_i_IsAbelian K Tryz.func27 (by kernel_rfl) ⟨⟨fun _ _ _ _=>by kernel_rfl,fun _ _ _=>rfl⟩,trivial⟩ (fun _=>by kernel_rfl)
noncomputable def C_i_IsAbelian (K:Nat):CB Tryz.prog:=.f _ _ (ok_i_IsAbelian K)
noncomputable def as_slices_Index_string:Ty:=(.pair (.sl .str) (.pair .str .unit))
noncomputable def sp_slices_Index_string (F:((List ByteArray) × ByteArray × Unit)->Option Int):FnSpec:=⟨as_slices_Index_string,[false,false],(.int .i64),F⟩
noncomputable def slices_Index_string_l2 {R:Type} (K:Nat):Nat->(List ByteArray)->ByteArray->Int->Int->(Option R)->(Int->Option R)->Option R
  | 0,_,_,_,_,_,_=>none
  | k + 1,v0,v1,v7,v8,kx0,kr =>
    (if (decide (v8 < v7))=true then
    (if (bnds v8 (v0.length:Int))=true then
    (if (cmpS .eql v1 (v0.getD v8.toNat ByteArray.empty))=true then
    kr v8
    else
    slices_Index_string_l2 K k v0 v1 v7 (IntKind.i64.wrap (v8 + (1:Int))) kx0 kr)
    else
    none)
    else
    kx0)
noncomputable def slices_Index_string (K:Nat) (x:((List ByteArray) × ByteArray × Unit)):Option Int :=
    slices_Index_string_l2 K K x.1 x.2.1 (x.1.length:Int) (0:Int) (some (-1:Int)) (fun z1 =>
    some z1)
noncomputable def X0_slices_Index_string:Lv:=[]
noncomputable def rv_slices_Index_string:Lv:=[(4,(.v (.int .i64)))]
noncomputable def D_slices_Index_string (K:Nat):List (PD (den (.int .i64))):=[.L 2 [(0,(.v (.sl .str))),(1,(.v .str)),(7,(.v (.int .i64))),(8,(.v (.int .i64)))] [] (fun k x kx kr=>slices_Index_string_l2 K k x.1 x.2.1 x.2.2.1 x.2.2.2.1 (kx 0 (mkSt X0_slices_Index_string ())) (fun z0=>kr (mkSt rv_slices_Index_string (z0,()))))]
theorem ok_slices_Index_string (K:Nat):FnOk Tryz.prog 175 (sp_slices_Index_string (slices_Index_string K)) :=
  fn_okD tysOk [] 0 (D_slices_Index_string K) [(0,X0_slices_Index_string)] rv_slices_Index_string K Tryz.func175 (by kernel_rfl) ⟨⟨fun _ _ _ _=>by kernel_rfl,fun _ _ _=>rfl⟩,trivial⟩ (fun _=>by kernel_rfl)
noncomputable def C_slices_Index_string (K:Nat):CB Tryz.prog:=.f _ _ (ok_slices_Index_string K)
noncomputable def as_slices_Contains_string:Ty:=(.pair (.sl .str) (.pair .str .unit))
noncomputable def sp_slices_Contains_string (F:((List ByteArray) × ByteArray × Unit)->Option Bool):FnSpec:=⟨as_slices_Contains_string,[false,false],.bool,F⟩
noncomputable def slices_Contains_string (K:Nat) (x:((List ByteArray) × ByteArray × Unit)):Option Bool :=
    (slices_Index_string K (x.1,x.2.1,())).bind fun y1 =>
    some (decide (y1 ≥ (0:Int)))
noncomputable def rv_slices_Contains_string:Lv:=[(4,(.v .bool))]
theorem ok_slices_Contains_string (K:Nat):FnOk Tryz.prog 115 (sp_slices_Contains_string (slices_Contains_string K)) :=
  fn_okD tysOk [C_slices_Index_string K] 0 [] [] rv_slices_Contains_string K Tryz.func115 (by kernel_rfl) trivial (fun _=>by kernel_rfl)
noncomputable def C_slices_Contains_string (K:Nat):CB Tryz.prog:=.f _ _ (ok_slices_Contains_string K)
noncomputable def as_internal_bytealg_IndexByteString:Ty:=(.pair .str (.pair (.int .u8) .unit))
noncomputable def sp_internal_bytealg_IndexByteString (F:(ByteArray × Int × Unit)->Option Int):FnSpec:=⟨as_internal_bytealg_IndexByteString,[false,false],(.int .i64),F⟩
noncomputable def internal_bytealg_IndexByteString (K:Nat) (x:ByteArray × Int × Unit):Option Int:=some (Lib.indexByte x.1.data.toList x.2.1.toNat.toUInt8)
theorem ok_internal_bytealg_IndexByteString (K:Nat):FnOk Tryz.prog 231 (sp_internal_bytealg_IndexByteString (internal_bytealg_IndexByteString K)):=indexByte_ok Tryz.func231 (by kernel_rfl) (by kernel_rfl) (by kernel_rfl) (by kernel_rfl)
noncomputable def C_internal_bytealg_IndexByteString (K:Nat):CB Tryz.prog:=.f _ _ (ok_internal_bytealg_IndexByteString K)
noncomputable def as_internal_stringslite_IndexByte:Ty:=(.pair .str (.pair (.int .u8) .unit))
noncomputable def sp_internal_stringslite_IndexByte (F:(ByteArray × Int × Unit)->Option Int):FnSpec:=⟨as_internal_stringslite_IndexByte,[false,false],(.int .i64),F⟩
noncomputable def internal_stringslite_IndexByte (K:Nat) (x:(ByteArray × Int × Unit)):Option Int :=
    (internal_bytealg_IndexByteString K (x.1,x.2.1,())).bind fun y1 =>
    some y1
noncomputable def rv_internal_stringslite_IndexByte:Lv:=[(4,(.v (.int .i64)))]
theorem ok_internal_stringslite_IndexByte (K:Nat):FnOk Tryz.prog 214 (sp_internal_stringslite_IndexByte (internal_stringslite_IndexByte K)) :=
  fn_okD tysOk [C_internal_bytealg_IndexByteString K] 0 [] [] rv_internal_stringslite_IndexByte K Tryz.func214 (by kernel_rfl) trivial (fun _=>by kernel_rfl)
noncomputable def C_internal_stringslite_IndexByte (K:Nat):CB Tryz.prog:=.f _ _ (ok_internal_stringslite_IndexByte K)
noncomputable def as_internal_stringslite_Index:Ty:=(.pair .str (.pair .str .unit))
noncomputable def sp_internal_stringslite_Index (F:(ByteArray × ByteArray × Unit)->Option Int):FnSpec:=⟨as_internal_stringslite_Index,[false,false],(.int .i64),F⟩
noncomputable def internal_stringslite_Index_j4 {R:Type} (K:Nat) (k:Nat) (v0:ByteArray) (v1:ByteArray) (v5:Int) (kn:Option R) (kr:(Int->Option R)):Option R :=
    gN K ((if (decide (v5=(1:Int)))=true then
    (if (bnds (0:Int) (v1.size:Int))=true then
    (internal_stringslite_IndexByte K (v0,(byteAt v1 (0:Int)),())).bind fun y1 =>
    kr y1
    else
    none)
    else
    (if (decide (v5 ≥ (v0.size:Int)))=true then
    kr (-1:Int)
    else
    none)))
noncomputable def internal_stringslite_Index (K:Nat) (x:(ByteArray × ByteArray × Unit)):Option Int :=
    (if (decide ((x.2.1.size:Int)=(0:Int)))=true then
    some (0:Int)
    else
    (if (cmpS .eql x.2.1 x.1)=true then
    some (0:Int)
    else
    internal_stringslite_Index_j4 K K x.1 x.2.1 (x.2.1.size:Int) none (fun z2 =>
    some z2)))
noncomputable def rv_internal_stringslite_Index:Lv:=[(4,(.v (.int .i64)))]
noncomputable def D_internal_stringslite_Index (K:Nat):List (PD (den (.int .i64))):=[.J 4 [(0,(.v .str)),(1,(.v .str)),(5,(.v (.int .i64)))] [] K (fun k x kn kx kr=>internal_stringslite_Index_j4 K k x.1 x.2.1 x.2.2.1 (kn ()) (fun z0=>kr (mkSt rv_internal_stringslite_Index (z0,()))))]
theorem ok_internal_stringslite_Index (K:Nat):FnOk Tryz.prog 195 (sp_internal_stringslite_Index (internal_stringslite_Index K)) :=
  fn_okD tysOk [C_internal_stringslite_IndexByte K] 0 (D_internal_stringslite_Index K) [] rv_internal_stringslite_Index K Tryz.func195 (by kernel_rfl) ⟨fun _ _ _ _ _=>by kernel_rfl,trivial⟩ (fun _=>by kernel_rfl)
noncomputable def C_internal_stringslite_Index (K:Nat):CB Tryz.prog:=.f _ _ (ok_internal_stringslite_Index K)
noncomputable def as_internal_stringslite_Cut:Ty:=(.pair .str (.pair .str .unit))
noncomputable def sp_internal_stringslite_Cut (F:(ByteArray × ByteArray × Unit)->Option (ByteArray × ByteArray × Bool × Unit)):FnSpec:=⟨as_internal_stringslite_Cut,[false,false],(.tup (.pair .str (.pair .str (.pair .bool .unit)))),F⟩
noncomputable def internal_stringslite_Cut (K:Nat) (x:(ByteArray × ByteArray × Unit)):Option (ByteArray × ByteArray × Bool × Unit) :=
    (internal_stringslite_Index K (x.1,x.2.1,())).bind fun y1 =>
    (if (decide (y1 ≥ (0:Int)))=true then
    (if (decide (0<=(0:Int)) && decide ((0:Int)<=y1) && decide (y1<=(x.1.size:Int)))=true then
    (if (decide (0<=(IntKind.i64.wrap (y1 + (x.2.1.size:Int)))) && decide ((IntKind.i64.wrap (y1 + (x.2.1.size:Int)))<=(x.1.size:Int)) && decide ((x.1.size:Int)<=(x.1.size:Int)))=true then
    let x2:=(x.1.extract (IntKind.i64.wrap (y1 + (x.2.1.size:Int))).toNat (x.1.size:Int).toNat)
    some ((x.1.extract (0:Int).toNat y1.toNat),x2,true,())
    else
    none)
    else
    none)
    else
    some (x.1,(⟨#[]⟩:ByteArray),false,()))
noncomputable def rv_internal_stringslite_Cut:Lv:=[(4,(.v .str)),(5,(.v .str)),(6,(.v .bool))]
theorem ok_internal_stringslite_Cut (K:Nat):FnOk Tryz.prog 178 (sp_internal_stringslite_Cut (internal_stringslite_Cut K)) :=
  fn_okD tysOk [C_internal_stringslite_Index K] 0 [] [] rv_internal_stringslite_Cut K Tryz.func178 (by kernel_rfl) trivial (fun _=>by kernel_rfl)
noncomputable def C_internal_stringslite_Cut (K:Nat):CB Tryz.prog:=.f _ _ (ok_internal_stringslite_Cut K)
noncomputable def as_strings_Cut:Ty:=(.pair .str (.pair .str .unit))
noncomputable def sp_strings_Cut (F:(ByteArray × ByteArray × Unit)->Option (ByteArray × ByteArray × Bool × Unit)):FnSpec:=⟨as_strings_Cut,[false,false],(.tup (.pair .str (.pair .str (.pair .bool .unit)))),F⟩
noncomputable def strings_Cut (K:Nat) (x:(ByteArray × ByteArray × Unit)):Option (ByteArray × ByteArray × Bool × Unit) :=
    (internal_stringslite_Cut K (x.1,x.2.1,())).bind fun y1 =>
    some (y1.1,y1.2.1,y1.2.2.1,())
noncomputable def rv_strings_Cut:Lv:=[(4,(.v .str)),(5,(.v .str)),(6,(.v .bool))]
theorem ok_strings_Cut (K:Nat):FnOk Tryz.prog 117 (sp_strings_Cut (strings_Cut K)) :=
  fn_okD tysOk [C_internal_stringslite_Cut K] 0 [] [] rv_strings_Cut K Tryz.func117 (by kernel_rfl) trivial (fun _=>by kernel_rfl)
noncomputable def C_strings_Cut (K:Nat):CB Tryz.prog:=.f _ _ (ok_strings_Cut K)
noncomputable def as_strings_explode:Ty:=(.pair .str (.pair (.int .i64) .unit))
noncomputable def sp_strings_explode (F:(ByteArray × Int × Unit)->Option (List ByteArray)):FnSpec:=⟨as_strings_explode,[false,false],(.sl .str),F⟩
noncomputable def strings_explode (K:Nat) (x:(ByteArray × Int × Unit)):Option (List ByteArray):=none
theorem ok_strings_explode (K:Nat):FnOk Tryz.prog 196 (sp_strings_explode (strings_explode K)):=fnOk_none
noncomputable def C_strings_explode (K:Nat):CB Tryz.prog:=.f _ _ (ok_strings_explode K)
noncomputable def as_strings_Index:Ty:=(.pair .str (.pair .str .unit))
noncomputable def sp_strings_Index (F:(ByteArray × ByteArray × Unit)->Option Int):FnSpec:=⟨as_strings_Index,[false,false],(.int .i64),F⟩
noncomputable def strings_Index (K:Nat) (x:(ByteArray × ByteArray × Unit)):Option Int :=
    (internal_stringslite_Index K (x.1,x.2.1,())).bind fun y1 =>
    some y1
noncomputable def rv_strings_Index:Lv:=[(4,(.v (.int .i64)))]
theorem ok_strings_Index (K:Nat):FnOk Tryz.prog 198 (sp_strings_Index (strings_Index K)) :=
  fn_okD tysOk [C_internal_stringslite_Index K] 0 [] [] rv_strings_Index K Tryz.func198 (by kernel_rfl) trivial (fun _=>by kernel_rfl)
noncomputable def C_strings_Index (K:Nat):CB Tryz.prog:=.f _ _ (ok_strings_Index K)
noncomputable def as_unicode_utf8_RuneCountInString:Ty:=(.pair .str .unit)
noncomputable def sp_unicode_utf8_RuneCountInString (F:(ByteArray × Unit)->Option Int):FnSpec:=⟨as_unicode_utf8_RuneCountInString,[false],(.int .i64),F⟩
noncomputable def unicode_utf8_RuneCountInString (K:Nat) (x:(ByteArray × Unit)):Option Int:=none
theorem ok_unicode_utf8_RuneCountInString (K:Nat):FnOk Tryz.prog 218 (sp_unicode_utf8_RuneCountInString (unicode_utf8_RuneCountInString K)):=fnOk_none
noncomputable def C_unicode_utf8_RuneCountInString (K:Nat):CB Tryz.prog:=.f _ _ (ok_unicode_utf8_RuneCountInString K)
noncomputable def as_internal_bytealg_CountString:Ty:=(.pair .str (.pair (.int .u8) .unit))
noncomputable def sp_internal_bytealg_CountString (F:(ByteArray × Int × Unit)->Option Int):FnSpec:=⟨as_internal_bytealg_CountString,[false,false],(.int .i64),F⟩
noncomputable def internal_bytealg_CountString (K:Nat) (x:ByteArray × Int × Unit):Option Int:=some ((Lib.countByte x.1.data.toList x.2.1.toNat.toUInt8:Nat):Int)
theorem ok_internal_bytealg_CountString (K:Nat):FnOk Tryz.prog 220 (sp_internal_bytealg_CountString (internal_bytealg_CountString K)):=countByte_ok Tryz.func220 (by kernel_rfl) (by kernel_rfl) (by kernel_rfl) (by kernel_rfl)
noncomputable def C_internal_bytealg_CountString (K:Nat):CB Tryz.prog:=.f _ _ (ok_internal_bytealg_CountString K)
noncomputable def as_strings_Count:Ty:=(.pair .str (.pair .str .unit))
noncomputable def sp_strings_Count (F:(ByteArray × ByteArray × Unit)->Option Int):FnSpec:=⟨as_strings_Count,[false,false],(.int .i64),F⟩
noncomputable def strings_Count_l6 {R:Type} (K:Nat):Nat->ByteArray->ByteArray->Int->(Int->Option R)->Option R
  | 0,_,_,_,_=>none
  | k + 1,v0,v1,v5,kr =>
    (strings_Index K (v0,v1,())).bind fun y3 =>
    (if (decide (y3=(-1:Int)))=true then
    kr v5
    else
    (if (decide (0<=(IntKind.i64.wrap (y3 + (v1.size:Int)))) && decide ((IntKind.i64.wrap (y3 + (v1.size:Int)))<=(v0.size:Int)) && decide ((v0.size:Int)<=(v0.size:Int)))=true then
    let x4:=(v0.extract (IntKind.i64.wrap (y3 + (v1.size:Int))).toNat (v0.size:Int).toNat)
    strings_Count_l6 K k x4 v1 (IntKind.i64.wrap (v5 + (1:Int))) kr
    else
    none))
noncomputable def strings_Count (K:Nat) (x:(ByteArray × ByteArray × Unit)):Option Int :=
    (if (decide ((x.2.1.size:Int)=(0:Int)))=true then
    (unicode_utf8_RuneCountInString K (x.1,())).bind fun y1 =>
    some (IntKind.i64.wrap (y1 + (1:Int)))
    else
    (if (decide ((x.2.1.size:Int)=(1:Int)))=true then
    (if (bnds (0:Int) (x.2.1.size:Int))=true then
    (internal_bytealg_CountString K (x.1,(byteAt x.2.1 (0:Int)),())).bind fun y2 =>
    some y2
    else
    none)
    else
    strings_Count_l6 K K x.1 x.2.1 (0:Int) (fun z5 =>
    some z5)))
noncomputable def rv_strings_Count:Lv:=[(4,(.v (.int .i64)))]
noncomputable def D_strings_Count (K:Nat):List (PD (den (.int .i64))):=[.L 6 [(0,(.v .str)),(1,(.v .str)),(5,(.v (.int .i64)))] [] (fun k x kx kr=>strings_Count_l6 K k x.1 x.2.1 x.2.2.1 (fun z0=>kr (mkSt rv_strings_Count (z0,()))))]
theorem ok_strings_Count (K:Nat):FnOk Tryz.prog 197 (sp_strings_Count (strings_Count K)) :=
  fn_okD tysOk [C_strings_Index K,C_unicode_utf8_RuneCountInString K,C_internal_bytealg_CountString K] 0 (D_strings_Count K) [] rv_strings_Count K Tryz.func197 (by kernel_rfl) ⟨⟨fun _ _ _ _=>by kernel_rfl,fun _ _ _=>rfl⟩,trivial⟩ (fun _=>by kernel_rfl)
noncomputable def C_strings_Count (K:Nat):CB Tryz.prog:=.f _ _ (ok_strings_Count K)
noncomputable def ps_strings_genSplit:Lv:=[(0,(.v .str)),(1,(.v .str)),(2,(.v (.int .i64))),(3,(.v (.int .i64)))]
noncomputable def rl_strings_genSplit:Lv:=[(0,(.v (.sl .str)))]
noncomputable def sp_strings_genSplit (F:(ByteArray × ByteArray × Int × Int × Unit)->Option (((List ByteArray) × Unit) × Unit)):ShSpec:=⟨ps_strings_genSplit,rl_strings_genSplit,F⟩
noncomputable def strings_genSplit_l11 {R:Type} (K:Nat):Nat->ByteArray->ByteArray->Int->Int->(List ByteArray)->Int->(ByteArray->(List ByteArray)->Int->Option R)->Option R
  | 0,_,_,_,_,_,_,_=>none
  | k + 1,v0,v1,v2,v3,v9,v10,kx0 =>
    (if (decide (v10 < v3))=true then
    (strings_Index K (v0,v1,())).bind fun y5 =>
    (if (decide (y5 < (0:Int)))=true then
    kx0 v0 v9 v10
    else
    (if (decide (0<=(0:Int)) && decide ((0:Int)<=(IntKind.i64.wrap (y5 + v2))) && decide ((IntKind.i64.wrap (y5 + v2))<=(v0.size:Int)))=true then
    let x6:=(v0.extract (0:Int).toNat (IntKind.i64.wrap (y5 + v2)).toNat)
    (if (bnds v10 (v9.length:Int))=true then
    let l7:=(v9.set v10.toNat x6)
    (if (decide (0<=(IntKind.i64.wrap (y5 + (v1.size:Int)))) && decide ((IntKind.i64.wrap (y5 + (v1.size:Int)))<=(v0.size:Int)) && decide ((v0.size:Int)<=(v0.size:Int)))=true then
    let x8:=(v0.extract (IntKind.i64.wrap (y5 + (v1.size:Int))).toNat (v0.size:Int).toNat)
    strings_genSplit_l11 K k x8 v1 v2 v3 l7 (IntKind.i64.wrap (v10 + (1:Int))) kx0
    else
    none)
    else
    none)
    else
    none))
    else
    kx0 v0 v9 v10)
noncomputable def strings_genSplit_j7 {R:Type} (K:Nat) (k:Nat) (v0:ByteArray) (v1:ByteArray) (v2:Int) (v3:Int) (kn:Option R) (kr:((List ByteArray)->Option R)):Option R :=
    (if (decide (0<=(minL v3 [(IntKind.i64.wrap ((v0.size:Int) + (1:Int)))])) && decide ((minL v3 [(IntKind.i64.wrap ((v0.size:Int) + (1:Int)))])<=(lim:Int)) && decide ((minL v3 [(IntKind.i64.wrap ((v0.size:Int) + (1:Int)))])=(minL v3 [(IntKind.i64.wrap ((v0.size:Int) + (1:Int)))])))=true then
    let l3:=(List.replicate (minL v3 [(IntKind.i64.wrap ((v0.size:Int) + (1:Int)))]).toNat ByteArray.empty)
    let x4:=(IntKind.i64.wrap ((minL v3 [(IntKind.i64.wrap ((v0.size:Int) + (1:Int)))]) - (1:Int)))
    strings_genSplit_l11 K k v0 v1 v2 x4 l3 (0:Int) (fun z9 z10 z11 =>
    (if (bnds z11 (z10.length:Int))=true then
    let l12:=(z10.set z11.toNat z9)
    (if (decide (0<=(0:Int)) && decide ((0:Int)<=(IntKind.i64.wrap (z11 + (1:Int)))) && decide ((IntKind.i64.wrap (z11 + (1:Int)))<=(l12.length:Int)))=true then
    kr (sliceL l12 (0:Int) ((0:Int) + ((IntKind.i64.wrap (z11 + (1:Int))) - (0:Int))))
    else
    none)
    else
    none))
    else
    none)
noncomputable def strings_genSplit (K:Nat) (x:(ByteArray × ByteArray × Int × Int × Unit)):Option (((List ByteArray) × Unit) × Unit) :=
    (if (decide (x.2.2.2.1=(0:Int)))=true then
    some ((([]:List ByteArray),()),())
    else
    (if (cmpS .eql x.2.1 (⟨#[]⟩:ByteArray))=true then
    (strings_explode K (x.1,x.2.2.2.1,())).bind fun y1 =>
    some ((y1,()),())
    else
    (if (decide (x.2.2.2.1 < (0:Int)))=true then
    (strings_Count K (x.1,x.2.1,())).bind fun y2 =>
    strings_genSplit_j7 K K x.1 x.2.1 x.2.2.1 (IntKind.i64.wrap (y2 + (1:Int))) none (fun z13 =>
    some ((z13,()),()))
    else
    strings_genSplit_j7 K K x.1 x.2.1 x.2.2.1 x.2.2.2.1 none (fun z14 =>
    some ((z14,()),())))))
noncomputable def X0_strings_genSplit:Lv:=[(0,(.v .str)),(9,(.r .str)),(10,(.v (.int .i64)))]
noncomputable def rv_strings_genSplit:Lv:=[(8,(.v (.sl .str)))]
noncomputable def D_strings_genSplit (K:Nat):List (PD (den rl_strings_genSplit.ty × den (outL ps_strings_genSplit).ty)):=[.J 7 [(0,(.v .str)),(1,(.v .str)),(2,(.v (.int .i64))),(3,(.v (.int .i64)))] [] 0 (fun k x kn kx kr=>strings_genSplit_j7 K k x.1 x.2.1 x.2.2.1 x.2.2.2.1 (kn ()) (fun z0=>kr (mkSt rv_strings_genSplit (z0,())))),
  .L 11 [(0,(.v .str)),(1,(.v .str)),(2,(.v (.int .i64))),(3,(.v (.int .i64))),(9,(.r .str)),(10,(.v (.int .i64)))] [] (fun k x kx kr=>strings_genSplit_l11 K k x.1 x.2.1 x.2.2.1 x.2.2.2.1 x.2.2.2.2.1 x.2.2.2.2.2.1 (fun z0 z1 z2=>kx 0 (mkSt X0_strings_genSplit (z0,z1,z2,()))))]
theorem ok_strings_genSplit (K:Nat):ShOk Tryz.prog 179 (sp_strings_genSplit (strings_genSplit K)) :=
  sh_okD tysOk [C_strings_explode K,C_strings_Count K,C_strings_Index K] 0 (D_strings_genSplit K) [(0,X0_strings_genSplit)] rv_strings_genSplit K Tryz.func179 (by kernel_rfl) ⟨fun _ _ _ _ _=>by kernel_rfl,⟨⟨fun _ _ _ _=>by kernel_rfl,fun _ _ _=>rfl⟩,trivial⟩⟩ (fun _=>by kernel_rfl)
noncomputable def C_strings_genSplit (K:Nat):CB Tryz.prog:=.s _ _ (ok_strings_genSplit K)
noncomputable def ps_strings_Split:Lv:=[(0,(.v .str)),(1,(.v .str))]
noncomputable def rl_strings_Split:Lv:=[(0,(.v (.sl .str)))]
noncomputable def sp_strings_Split (F:(ByteArray × ByteArray × Unit)->Option (((List ByteArray) × Unit) × Unit)):ShSpec:=⟨ps_strings_Split,rl_strings_Split,F⟩
noncomputable def strings_Split (K:Nat) (x:(ByteArray × ByteArray × Unit)):Option (((List ByteArray) × Unit) × Unit) :=
    (strings_genSplit K (x.1,x.2.1,(0:Int),(-1:Int),())).bind fun y1 =>
    some ((y1.1.1,()),())
noncomputable def rv_strings_Split:Lv:=[(4,(.v (.sl .str)))]
theorem ok_strings_Split (K:Nat):ShOk Tryz.prog 118 (sp_strings_Split (strings_Split K)) :=
  sh_okD tysOk [C_strings_genSplit K] 0 [] [] rv_strings_Split K Tryz.func118 (by kernel_rfl) trivial (fun _=>by kernel_rfl)
noncomputable def C_strings_Split (K:Nat):CB Tryz.prog:=.s _ _ (ok_strings_Split K)
noncomputable def i_table:ByteArray->ByteArray:=tableG
theorem ok_i_table:MpOk Tryz.prog 119 127 i_table:=table_ok
noncomputable def C_i_table (K:Nat):CB Tryz.prog:=.m _ _ _ ok_i_table
noncomputable def as_i_Func_text:Ty:=(.pair tq0 .unit)
noncomputable def sp_i_Func_text (F:(dq0 × Unit)->Option ByteArray):FnSpec:=⟨as_i_Func_text,[false],.str,F⟩
noncomputable def i_Func_text_l3 {R:Type} (K:Nat):Nat->dq0->(List Int)->Int->Int->((List Int)->Option R)->Option R
  | 0,_,_,_,_,_=>none
  | k + 1,v1,v3,v11,v12,kx0 =>
    (if (decide (v12 < v11))=true then
    (i_Func_at K (v1,v12,())).bind fun y3 =>
    let l4:=[(IntKind.u8.wrap ((48:Int) + (IntKind.u8.wrap y3)))]
    (if (decide (v3.length + l4.length<=lim))=true then
    let l5:=(v3 ++ l4)
    i_Func_text_l3 K k v1 l5 v11 (IntKind.i64.wrap (v12 + (1:Int))) kx0
    else
    none)
    else
    kx0 v3)
noncomputable def i_Func_text (K:Nat) (x:(dq0 × Unit)):Option ByteArray :=
    let l1:=[(IntKind.u8.wrap ((48:Int) + (IntKind.u8.wrap x.1.1))),(58:Int)]
    (i_Func_rows K (x.1,())).bind fun y2 =>
    i_Func_text_l3 K K x.1 l1 y2 (0:Int) (fun z6 =>
    some (bytesOf z6))
noncomputable def X0_i_Func_text:Lv:=[(3,(.r (.int .u8)))]
noncomputable def rv_i_Func_text:Lv:=[(2,(.v .str))]
noncomputable def D_i_Func_text (K:Nat):List (PD (den .str)):=[.L 3 [(1,(.bx (.v tq0))),(3,(.r (.int .u8))),(11,(.v (.int .i64))),(12,(.v (.int .i64)))] [] (fun k x kx kr=>i_Func_text_l3 K k x.1 x.2.1 x.2.2.1 x.2.2.2.1 (fun z0=>kx 0 (mkSt X0_i_Func_text (z0,()))))]
theorem ok_i_Func_text (K:Nat):FnOk Tryz.prog 180 (sp_i_Func_text (i_Func_text K)) :=
  fn_okD tysOk [C_i_Func_rows K,C_i_Func_at K] 0 (D_i_Func_text K) [(0,X0_i_Func_text)] rv_i_Func_text K Tryz.func180 (by kernel_rfl) ⟨⟨fun _ _ _ _=>by kernel_rfl,fun _ _ _=>rfl⟩,trivial⟩ (fun _=>by kernel_rfl)
noncomputable def C_i_Func_text (K:Nat):CB Tryz.prog:=.f _ _ (ok_i_Func_text K)
noncomputable def as_i_readFunc:Ty:=(.pair .str .unit)
noncomputable def sp_i_readFunc (F:(ByteArray × Unit)->Option (dq0 × Bool × Unit)):FnSpec:=⟨as_i_readFunc,[false],(.tup (.pair tq0 (.pair .bool .unit))),F⟩
noncomputable def i_readFunc_l6 {R:Type} (K:Nat):Nat->ByteArray->dq0->ByteArray->dq0->Int->Int->(ByteArray->dq0->dq0->Option R)->Option R
  | 0,_,_,_,_,_,_,_=>none
  | k + 1,v0,v2,v5,v7,v31,v32,kx0 =>
    (if (decide (v32 < v31))=true then
    (if (bnds v32 (v5.size:Int))=true then
    (if (decide ((byteAt v5 v32)=(49:Int)))=true then
    (if (decide ((0:Int)<=v32))=true then
    i_readFunc_l6 K k v0 v2 v5 (v7.1,(bitI .or .i64 v7.2.1 (shlI .i64 (1:Int) v32)),()) v31 (IntKind.i64.wrap (v32 + (1:Int))) kx0
    else
    none)
    else
    i_readFunc_l6 K k v0 v2 v5 v7 v31 (IntKind.i64.wrap (v32 + (1:Int))) kx0)
    else
    none)
    else
    kx0 v0 v2 v7)
noncomputable def i_readFunc_j4 {R:Type} (K:Nat) (k:Nat) (v0:ByteArray) (v2:dq0) (v4:ByteArray) (v5:ByteArray) (kn:Option R) (kr:(dq0->Bool->Option R)):Option R :=
    (if (bnds (0:Int) (v4.size:Int))=true then
    let x3:=(IntKind.i64.wrap ((IntKind.i64.wrap (byteAt v4 (0:Int))) - (48:Int)))
    i_readFunc_l6 K k v0 v2 v5 (x3,((0:Int),(0:Int),()).2.1,()) (v5.size:Int) (0:Int) (fun z4 z5 z6 =>
    (i_IsFunc K (z6,())).bind fun y7 =>
    (if (!y7)=true then
    kr ((0:Int),(0:Int),()) false
    else
    (i_Func_text K (z6,())).bind fun y8 =>
    (if (cmpS .neq y8 z4)=true then
    kr ((0:Int),(0:Int),()) false
    else
    kr z6 true)))
    else
    none)
noncomputable def i_readFunc (K:Nat) (x:(ByteArray × Unit)):Option (dq0 × Bool × Unit) :=
    (strings_Cut K (x.1,(⟨#[58]⟩:ByteArray),())).bind fun y1 =>
    (if (!decide ((y1.1.size:Int)=(1:Int)))=true then
    some (((0:Int),(0:Int),()),false,())
    else
    (i_rowsOf K ((4:Int),())).bind fun y2 =>
    (if (decide ((y1.2.1.size:Int) > y2))=true then
    some (((0:Int),(0:Int),()),false,())
    else
    i_readFunc_j4 K K x.1 ((0:Int),(0:Int),()) y1.1 y1.2.1 none (fun z9 z10 =>
    some (z9,z10,()))))
noncomputable def X0_i_readFunc:Lv:=[(0,(.v .str)),(2,(.bx (.v tq0))),(7,(.bx (.v tq0)))]
noncomputable def rv_i_readFunc:Lv:=[(2,(.bx (.v tq0))),(3,(.v .bool))]
noncomputable def D_i_readFunc (K:Nat):List (PD (den (.tup (.pair tq0 (.pair .bool .unit))))):=[.J 4 [(0,(.v .str)),(2,(.bx (.v tq0))),(4,(.v .str)),(5,(.v .str))] [] 0 (fun k x kn kx kr=>i_readFunc_j4 K k x.1 x.2.1 x.2.2.1 x.2.2.2.1 (kn ()) (fun z0 z1=>kr (mkSt rv_i_readFunc (z0,z1,())))),
  .L 6 [(0,(.v .str)),(2,(.bx (.v tq0))),(5,(.v .str)),(7,(.bx (.v tq0))),(31,(.v (.int .i64))),(32,(.v (.int .i64)))] [] (fun k x kx kr=>i_readFunc_l6 K k x.1 x.2.1 x.2.2.1 x.2.2.2.1 x.2.2.2.2.1 x.2.2.2.2.2.1 (fun z0 z1 z2=>kx 0 (mkSt X0_i_readFunc (z0,z1,z2,()))))]
theorem ok_i_readFunc (K:Nat):FnOk Tryz.prog 120 (sp_i_readFunc (i_readFunc K)) :=
  fn_okD tysOk [C_i_IsFunc K,C_strings_Cut K,C_i_rowsOf K,C_i_Func_text K] 0 (D_i_readFunc K) [(0,X0_i_readFunc)] rv_i_readFunc K Tryz.func120 (by kernel_rfl) ⟨fun _ _ _ _ _=>by kernel_rfl,⟨⟨fun _ _ _ _=>by kernel_rfl,fun _ _ _=>rfl⟩,trivial⟩⟩ (fun _=>by kernel_rfl)
noncomputable def C_i_readFunc (K:Nat):CB Tryz.prog:=.f _ _ (ok_i_readFunc K)
noncomputable def as_i_generators_c1:Ty:=(.pair (.int .i64) (.pair (.ptr .str) (.pair (.ptr (.int .i64)) .unit)))
noncomputable def sp_i_generators_c1 (F:(Int × ByteArray × Int × Unit)->Option Int):FnSpec:=⟨as_i_generators_c1,[false,false,false],(.int .i64),F⟩
noncomputable def i_generators_c1 (K:Nat) (x:(Int × ByteArray × Int × Unit)):Option Int :=
    (if (bnds (1:Int) (x.2.1.size:Int))=true then
    (if (decide ((byteAt x.2.1 (1:Int))=(48:Int)))=true then
    (i_ones K (x.1,())).bind fun y1 =>
    (i_one K ((decide (y1 ≥ (2:Int))),())).bind fun y2 =>
    some y2
    else
    (i_ones K (x.1,())).bind fun y3 =>
    (i_one K ((decide ((IntKind.i64.wrap (x.2.2.1 - y3))<=(1:Int))),())).bind fun y4 =>
    some y4)
    else
    none)
noncomputable def rv_i_generators_c1:Lv:=[(4,(.v (.int .i64)))]
theorem ok_i_generators_c1 (K:Nat):FnOk Tryz.prog 122 (sp_i_generators_c1 (i_generators_c1 K)) :=
  fn_okD tysOk [C_i_one K,C_i_ones K] 0 [] [] rv_i_generators_c1 K Tryz.func122 (by kernel_rfl) trivial (fun _=>by kernel_rfl)
noncomputable def C_i_generators_c1 (K:Nat):CB Tryz.prog:=.f _ _ (ok_i_generators_c1 K)
noncomputable def as_i_generators:Ty:=(.pair .str .unit)
noncomputable def sp_i_generators (F:(ByteArray × Unit)->Option ((List dq0) × Bool × Unit)):FnSpec:=⟨as_i_generators,[false],(.tup (.pair (.sl tq0) (.pair .bool .unit))),F⟩
noncomputable def i_generators_l6 {R:Type} (K:Nat):Nat->ByteArray->ByteArray->Bool->(List dq0)->(List ByteArray)->Int->Int->(ByteArray->ByteArray->Bool->(List dq0)->Option R)->Option R
  | 0,_,_,_,_,_,_,_,_=>none
  | k + 1,v4,v5,v6,v7,v26,v27,v28,kx0 =>
    (if (decide (v28 < v27))=true then
    (if (bnds v28 (v26.length:Int))=true then
    (i_readFunc K ((v26.getD v28.toNat ByteArray.empty),())).bind fun y5 =>
    (if (decide (v7.length + ([y5.1]).length<=lim))=true then
    let l6:=(v7 ++ [y5.1])
    i_generators_l6 K k v4 v5 v6 l6 v26 v27 (IntKind.i64.wrap (v28 + (1:Int))) kx0
    else
    none)
    else
    none)
    else
    kx0 v4 v5 v6 v7)
noncomputable def i_generators (K:Nat) (x:(ByteArray × Unit)):Option ((List dq0) × Bool × Unit) :=
    (i_CloneNames K ()).bind fun y1 =>
    (slices_Contains_string K (y1,x.1,())).bind fun y2 =>
    (if (!y2)=true then
    some (([]:List dq0),false,())
    else
    (strings_Cut K (x.1,(⟨#[94]⟩:ByteArray),())).bind fun y3 =>
    (if (decide (y3.1.size<=9223372036854775807))=true then
    (strings_Split K ((i_table y3.1),(⟨#[32]⟩:ByteArray),())).bind fun y4 =>
    i_generators_l6 K K y3.1 y3.2.1 y3.2.2.1 ([]:List dq0) y4.1.1 (y4.1.1.length:Int) (0:Int) (fun z7 z8 z9 z10 =>
    (if z9=true then
    (if (bnds (0:Int) (z8.size:Int))=true then
    let x11:=(IntKind.i64.wrap (IntKind.u8.wrap ((byteAt z8 (0:Int)) - (48:Int))))
    (i_funcBy K ((IntKind.i64.wrap (x11 + (1:Int))),(fun y13=>i_generators_c1 K (y13.1,z7,(IntKind.i64.wrap (x11 + (1:Int))),())),())).bind fun y12 =>
    (if (decide (z10.length + ([y12]).length<=lim))=true then
    let l14:=(z10 ++ [y12])
    some (l14,true,())
    else
    none)
    else
    none)
    else
    some (z10,true,())))
    else
    none))
noncomputable def X0_i_generators:Lv:=[(4,(.bx (.v .str))),(5,(.v .str)),(6,(.v .bool)),(7,(.r tq0))]
noncomputable def rv_i_generators:Lv:=[(2,(.r tq0)),(3,(.v .bool))]
noncomputable def D_i_generators (K:Nat):List (PD (den (.tup (.pair (.sl tq0) (.pair .bool .unit))))):=[.L 6 [(4,(.bx (.v .str))),(5,(.v .str)),(6,(.v .bool)),(7,(.r tq0)),(26,(.v (.sl .str))),(27,(.v (.int .i64))),(28,(.v (.int .i64)))] [] (fun k x kx kr=>i_generators_l6 K k x.1 x.2.1 x.2.2.1 x.2.2.2.1 x.2.2.2.2.1 x.2.2.2.2.2.1 x.2.2.2.2.2.2.1 (fun z0 z1 z2 z3=>kx 0 (mkSt X0_i_generators (z0,z1,z2,z3,()))))]
theorem ok_i_generators (K:Nat):FnOk Tryz.prog 49 (sp_i_generators (i_generators K)) :=
  fn_okD tysOk [C_slices_Contains_string K,C_i_CloneNames K,C_strings_Cut K,C_strings_Split K,C_i_table K,C_i_readFunc K,C_i_funcBy K,C_i_generators_c1 K] 0 (D_i_generators K) [(0,X0_i_generators)] rv_i_generators K Tryz.func49 (by kernel_rfl) ⟨⟨fun _ _ _ _=>by kernel_rfl,fun _ _ _=>rfl⟩,trivial⟩ (fun _=>by kernel_rfl)
noncomputable def C_i_generators (K:Nat):CB Tryz.prog:=.f _ _ (ok_i_generators K)
noncomputable def as_slices_Clone_impl_Func:Ty:=(.pair (.sl tq0) .unit)
noncomputable def sp_slices_Clone_impl_Func (F:((List dq0) × Unit)->Option (List dq0)):FnSpec:=⟨as_slices_Clone_impl_Func,[false],(.sl tq0),F⟩
noncomputable def slices_Clone_impl_Func (K:Nat) (x:List (Int × Int × Unit) × Unit):Option (List (Int × Int × Unit)):=if x.1.length<=lim then some x.1 else none
noncomputable def ren_slices_Clone_impl_Func:Go.Shelf.Ren:=⟨fun _=>124,fun k=>bif Nat.beq k 22 then 27 else bif Nat.beq k 23 then 30 else 4,fun k=>k⟩
theorem lays_slices_Clone_impl_Func:SlLaysE0.n41 Tryz.prog ren_slices_Clone_impl_Func :=
  ⟨by kernel_rfl,⟨Tryz.f124.name,by kernel_rfl,by kernel_rfl⟩,Tryz.underlying4,Tryz.isAgg4,Tryz.sizeOf4,Tryz.zeroValue4,Tryz.underlying27,Tryz.isAgg27,Tryz.sizeOf27,Tryz.zeroValue27⟩
theorem ok_slices_Clone_impl_Func (K:Nat):FnOk Tryz.prog 124 (sp_slices_Clone_impl_Func (slices_Clone_impl_Func K)):=clone_ok (ty:=lk tys) lays_slices_Clone_impl_Func (tysOk 30 _ rfl) rfl (z:=.val (.st (.pair (.int .i64) (.pair (.int .i64) .unit))) ((0:Int),(0:Int),())) rfl rfl (by decide)
noncomputable def C_slices_Clone_impl_Func (K:Nat):CB Tryz.prog:=.f _ _ (ok_slices_Clone_impl_Func K)
noncomputable def as_i_isInNamed:Ty:=(.pair tq0 (.pair .str (.pair (.sl tq0) .unit)))
noncomputable def sp_i_isInNamed (F:(dq0 × ByteArray × (List dq0) × Unit)->Option Bool):FnSpec:=⟨as_i_isInNamed,[false,false,false],.bool,F⟩
noncomputable def i_isInNamed (K:Nat) (x:(dq0 × ByteArray × (List dq0) × Unit)):Option Bool :=
    (slices_Clone_impl_Func K (x.2.2.1,())).bind fun y1 =>
    (if (decide (y1.length + ([x.1]).length<=lim))=true then
    let l2:=(y1 ++ [x.1])
    (i_cloneName K (l2,())).bind fun y3 =>
    some (cmpS .eql y3 x.2.1)
    else
    none)
noncomputable def rv_i_isInNamed:Lv:=[(6,(.v .bool))]
theorem ok_i_isInNamed (K:Nat):FnOk Tryz.prog 50 (sp_i_isInNamed (i_isInNamed K)) :=
  fn_okD tysOk [C_i_cloneName K,C_slices_Clone_impl_Func K] 0 [] [] rv_i_isInNamed K Tryz.func50 (by kernel_rfl) trivial (fun _=>by kernel_rfl)
noncomputable def C_i_isInNamed (K:Nat):CB Tryz.prog:=.f _ _ (ok_i_isInNamed K)
noncomputable def as_i_IsBelow_c1:Ty:=(.pair tq0 (.pair (.ptr .str) (.pair (.ptr (.sl tq0)) .unit)))
noncomputable def sp_i_IsBelow_c1 (F:(dq0 × ByteArray × (List dq0) × Unit)->Option Bool):FnSpec:=⟨as_i_IsBelow_c1,[false,false,false],.bool,F⟩
noncomputable def i_IsBelow_c1 (K:Nat) (x:(dq0 × ByteArray × (List dq0) × Unit)):Option Bool :=
    (i_isInNamed K (x.1,x.2.1,x.2.2.1,())).bind fun y1 =>
    some y1
noncomputable def rv_i_IsBelow_c1:Lv:=[(4,(.v .bool))]
theorem ok_i_IsBelow_c1 (K:Nat):FnOk Tryz.prog 80 (sp_i_IsBelow_c1 (i_IsBelow_c1 K)) :=
  fn_okD tysOk [C_i_isInNamed K] 0 [] [] rv_i_IsBelow_c1 K Tryz.func80 (by kernel_rfl) trivial (fun _=>by kernel_rfl)
noncomputable def C_i_IsBelow_c1 (K:Nat):CB Tryz.prog:=.f _ _ (ok_i_IsBelow_c1 K)
noncomputable def as_i_IsBelow:Ty:=(.pair .str (.pair .str .unit))
noncomputable def sp_i_IsBelow (F:(ByteArray × ByteArray × Unit)->Option (Bool × Int × Unit)):FnSpec:=⟨as_i_IsBelow,[false,false],(.tup (.pair .bool (.pair (.int .i64) .unit))),F⟩
noncomputable def i_IsBelow (K:Nat) (x:(ByteArray × ByteArray × Unit)):Option (Bool × Int × Unit) :=
    (i_generators K (x.1,())).bind fun y1 =>
    (i_generators K (x.2.1,())).bind fun y2 =>
    (if (!y1.2.1)=true then
    some (false,(6:Int),())
    else
    (if (!y2.2.1)=true then
    some (false,(6:Int),())
    else
    (i_allAre K (y1.1,(fun y4=>i_IsBelow_c1 K (y4.1,x.2.1,y2.1,())),())).bind fun y3 =>
    some (y3,(0:Int),())))
noncomputable def rv_i_IsBelow:Lv:=[(4,(.v .bool)),(5,(.v (.int .i64)))]
theorem ok_i_IsBelow (K:Nat):FnOk Tryz.prog 32 (sp_i_IsBelow (i_IsBelow K)) :=
  fn_okD tysOk [C_i_generators K,C_i_allAre K,C_i_IsBelow_c1 K] 0 [] [] rv_i_IsBelow K Tryz.func32 (by kernel_rfl) trivial (fun _=>by kernel_rfl)
noncomputable def C_i_IsBelow (K:Nat):CB Tryz.prog:=.f _ _ (ok_i_IsBelow K)
noncomputable def as_i_IsOfKind:Ty:=(.pair tq0 (.pair (.int .i64) .unit))
noncomputable def sp_i_IsOfKind (F:(dq0 × Int × Unit)->Option (Bool × Int × Unit)):FnSpec:=⟨as_i_IsOfKind,[false,false],(.tup (.pair .bool (.pair (.int .i64) .unit))),F⟩
noncomputable def i_IsOfKind (K:Nat) (x:(dq0 × Int × Unit)):Option (Bool × Int × Unit) :=
    (i_IsFunc K (x.1,())).bind fun y1 =>
    (if (!y1)=true then
    some (false,(1:Int),())
    else
    (i_isKind K (x.2.1,())).bind fun y2 =>
    (if (!y2)=true then
    some (false,(2:Int),())
    else
    (i_Func_isOfKind K (x.1,x.2.1,())).bind fun y3 =>
    some (y3,(0:Int),())))
noncomputable def rv_i_IsOfKind:Lv:=[(4,(.v .bool)),(5,(.v (.int .i64)))]
theorem ok_i_IsOfKind (K:Nat):FnOk Tryz.prog 33 (sp_i_IsOfKind (i_IsOfKind K)) :=
  fn_okD tysOk [C_i_IsFunc K,C_i_isKind K,C_i_Func_isOfKind K] 0 [] [] rv_i_IsOfKind K Tryz.func33 (by kernel_rfl) trivial (fun _=>by kernel_rfl)
noncomputable def C_i_IsOfKind (K:Nat):CB Tryz.prog:=.f _ _ (ok_i_IsOfKind K)
noncomputable def as_i_ProjectionOf:Ty:=(.pair (.int .i64) (.pair (.int .i64) .unit))
noncomputable def sp_i_ProjectionOf (F:(Int × Int × Unit)->Option (dq0 × Int × Unit)):FnSpec:=⟨as_i_ProjectionOf,[false,false],(.tup (.pair tq0 (.pair (.int .i64) .unit))),F⟩
noncomputable def i_ProjectionOf (K:Nat) (x:(Int × Int × Unit)):Option (dq0 × Int × Unit) :=
    (i_within K (x.1,(1:Int),(4:Int),())).bind fun y1 =>
    (if (!y1)=true then
    some (((0:Int),(0:Int),()),(2:Int),())
    else
    (i_within K (x.2.1,(0:Int),(IntKind.i64.wrap (x.1 - (1:Int))),())).bind fun y2 =>
    (if (!y2)=true then
    some (((0:Int),(0:Int),()),(2:Int),())
    else
    (i_projection K (x.1,x.2.1,())).bind fun y3 =>
    some (y3,(0:Int),())))
noncomputable def rv_i_ProjectionOf:Lv:=[(4,(.bx (.v tq0))),(5,(.v (.int .i64)))]
theorem ok_i_ProjectionOf (K:Nat):FnOk Tryz.prog 34 (sp_i_ProjectionOf (i_ProjectionOf K)) :=
  fn_okD tysOk [C_i_within K,C_i_projection K] 0 [] [] rv_i_ProjectionOf K Tryz.func34 (by kernel_rfl) trivial (fun _=>by kernel_rfl)
noncomputable def C_i_ProjectionOf (K:Nat):CB Tryz.prog:=.f _ _ (ok_i_ProjectionOf K)
noncomputable def as_s_l01In:Ty:=(.pair (.int .i64) (.pair (.int .i64) (.pair (.int .i64) .unit)))
noncomputable def sp_s_l01In (F:(Int × Int × Int × Unit)->Option Bool):FnSpec:=⟨as_s_l01In,[false,false,false],.bool,F⟩
noncomputable def s_l01In (K:Nat) (x:(Int × Int × Int × Unit)):Option Bool :=
    (if (decide (x.1 ≥ x.2.1))=true then
    some (decide (x.1<=x.2.2.1))
    else
    some false)
noncomputable def rv_s_l01In:Lv:=[(6,(.v .bool))]
theorem ok_s_l01In (K:Nat):FnOk Tryz.prog 70 (sp_s_l01In (s_l01In K)) :=
  fn_okD tysOk [] 0 [] [] rv_s_l01In K Tryz.func70 (by kernel_rfl) trivial (fun _=>by kernel_rfl)
noncomputable def C_s_l01In (K:Nat):CB Tryz.prog:=.f _ _ (ok_s_l01In K)
noncomputable def as_s_l01Rows:Ty:=(.pair (.int .i64) .unit)
noncomputable def sp_s_l01Rows (F:(Int × Unit)->Option Int):FnSpec:=⟨as_s_l01Rows,[false],(.int .i64),F⟩
noncomputable def s_l01Rows (K:Nat) (x:(Int × Unit)):Option Int :=
    (if (decide ((0:Int)<=(IntKind.u64.wrap x.1)))=true then
    some (shlI .i64 (1:Int) (IntKind.u64.wrap x.1))
    else
    none)
noncomputable def rv_s_l01Rows:Lv:=[(2,(.v (.int .i64)))]
theorem ok_s_l01Rows (K:Nat):FnOk Tryz.prog 133 (sp_s_l01Rows (s_l01Rows K)) :=
  fn_okD tysOk [] 0 [] [] rv_s_l01Rows K Tryz.func133 (by kernel_rfl) trivial (fun _=>by kernel_rfl)
noncomputable def C_s_l01Rows (K:Nat):CB Tryz.prog:=.f _ _ (ok_s_l01Rows K)
noncomputable def as_s_l01All:Ty:=(.pair (.int .i64) .unit)
noncomputable def sp_s_l01All (F:(Int × Unit)->Option Int):FnSpec:=⟨as_s_l01All,[false],(.int .i64),F⟩
noncomputable def s_l01All (K:Nat) (x:(Int × Unit)):Option Int :=
    (s_l01Rows K (x.1,())).bind fun y1 =>
    (if (decide ((0:Int)<=(IntKind.u64.wrap y1)))=true then
    let x2:=(IntKind.i64.wrap ((shlI .i64 (1:Int) (IntKind.u64.wrap y1)) - (1:Int)))
    some x2
    else
    none)
noncomputable def rv_s_l01All:Lv:=[(2,(.v (.int .i64)))]
theorem ok_s_l01All (K:Nat):FnOk Tryz.prog 71 (sp_s_l01All (s_l01All K)) :=
  fn_okD tysOk [C_s_l01Rows K] 0 [] [] rv_s_l01All K Tryz.func71 (by kernel_rfl) trivial (fun _=>by kernel_rfl)
noncomputable def C_s_l01All (K:Nat):CB Tryz.prog:=.f _ _ (ok_s_l01All K)
noncomputable def as_s_l01Is:Ty:=(.pair tq0 .unit)
noncomputable def sp_s_l01Is (F:(dq0 × Unit)->Option Bool):FnSpec:=⟨as_s_l01Is,[false],.bool,F⟩
noncomputable def s_l01Is (K:Nat) (x:(dq0 × Unit)):Option Bool :=
    (s_l01In K (x.1.1,(0:Int),(4:Int),())).bind fun y1 =>
    (if y1=true then
    (s_l01All K (x.1.1,())).bind fun y2 =>
    (s_l01In K (x.1.2.1,(0:Int),y2,())).bind fun y3 =>
    some y3
    else
    some false)
noncomputable def rv_s_l01Is:Lv:=[(2,(.v .bool))]
theorem ok_s_l01Is (K:Nat):FnOk Tryz.prog 61 (sp_s_l01Is (s_l01Is K)) :=
  fn_okD tysOk [C_s_l01In K,C_s_l01All K] 0 [] [] rv_s_l01Is K Tryz.func61 (by kernel_rfl) trivial (fun _=>by kernel_rfl)
noncomputable def C_s_l01Is (K:Nat):CB Tryz.prog:=.f _ _ (ok_s_l01Is K)
noncomputable def as_s_l01At:Ty:=(.pair tq0 (.pair (.int .i64) .unit))
noncomputable def sp_s_l01At (F:(dq0 × Int × Unit)->Option Int):FnSpec:=⟨as_s_l01At,[false,false],(.int .i64),F⟩
noncomputable def s_l01At (K:Nat) (x:(dq0 × Int × Unit)):Option Int :=
    (if (decide ((0:Int)<=(IntKind.u64.wrap x.2.1)))=true then
    let x1:=(bitI .and .i64 (shrI .i64 x.1.2.1 (IntKind.u64.wrap x.2.1)) (1:Int))
    some x1
    else
    none)
noncomputable def rv_s_l01At:Lv:=[(4,(.v (.int .i64)))]
theorem ok_s_l01At (K:Nat):FnOk Tryz.prog 143 (sp_s_l01At (s_l01At K)) :=
  fn_okD tysOk [] 0 [] [] rv_s_l01At K Tryz.func143 (by kernel_rfl) trivial (fun _=>by kernel_rfl)
noncomputable def C_s_l01At (K:Nat):CB Tryz.prog:=.f _ _ (ok_s_l01At K)
noncomputable def as_s_l10Commute:Ty:=(.pair tq0 (.pair tq0 .unit))
noncomputable def sp_s_l10Commute (F:(dq0 × dq0 × Unit)->Option Bool):FnSpec:=⟨as_s_l10Commute,[false,false],.bool,F⟩
noncomputable def s_l10Commute_l7 {R:Type} (K:Nat):Nat->dq0->dq0->Int->Int->Int->Int->Int->Int->(dq0->dq0->Int->Int->Int->Int->Int->Option R)->Option R
  | 0,_,_,_,_,_,_,_,_,_=>none
  | k + 1,v2,v3,v5,v6,v7,v8,v9,v10,kx2 =>
    (if (decide (v10 < v5))=true then
    (if (decide ((0:Int)<=(IntKind.u64.wrap (IntKind.i64.wrap (v10 * v6)))))=true then
    let x2:=(shrI .i64 v7 (IntKind.u64.wrap (IntKind.i64.wrap (v10 * v6))))
    (s_l01Rows K (v6,())).bind fun y3 =>
    (s_l01At K (v3,(bitI .and .i64 x2 (IntKind.i64.wrap (y3 - (1:Int)))),())).bind fun y4 =>
    (if (decide ((0:Int)<=(IntKind.u64.wrap v10)))=true then
    s_l10Commute_l7 K k v2 v3 v5 v6 v7 (bitI .or .i64 v8 (shlI .i64 y4 (IntKind.u64.wrap v10))) v9 (IntKind.i64.wrap (v10 + (1:Int))) kx2
    else
    none)
    else
    none)
    else
    kx2 v2 v3 v5 v6 v7 v8 v9)
noncomputable def s_l10Commute_l16 {R:Type} (K:Nat):Nat->dq0->dq0->Int->Int->Int->Int->Int->Int->Int->Int->(dq0->dq0->Int->Int->Int->Int->Int->Int->Int->Option R)->Option R
  | 0,_,_,_,_,_,_,_,_,_,_,_=>none
  | k + 1,v2,v3,v5,v6,v7,v8,v9,v12,v13,v14,kx6 =>
    (if (decide (v14 < v5))=true then
    let x12:=(IntKind.u64.wrap (IntKind.i64.wrap ((IntKind.i64.wrap (v14 * v6)) + v12)))
    (if (decide ((0:Int)<=x12))=true then
    (if (decide ((0:Int)<=(IntKind.u64.wrap v14)))=true then
    let x13:=(shlI .i64 (bitI .and .i64 (shrI .i64 v7 x12) (1:Int)) (IntKind.u64.wrap v14))
    s_l10Commute_l16 K k v2 v3 v5 v6 v7 v8 v9 v12 (bitI .or .i64 v13 x13) (IntKind.i64.wrap (v14 + (1:Int))) kx6
    else
    none)
    else
    none)
    else
    kx6 v2 v3 v5 v6 v7 v8 v9 v12 v13)
noncomputable def s_l10Commute_l12 {R:Type} (K:Nat):Nat->dq0->dq0->Int->Int->Int->Int->Int->Int->(dq0->dq0->Int->Int->Int->Int->Int->Option R)->Option R
  | 0,_,_,_,_,_,_,_,_,_=>none
  | k + 1,v2,v3,v5,v6,v7,v8,v9,v12,kx4 =>
    (if (decide (v12 < v6))=true then
    s_l10Commute_l16 K k v2 v3 v5 v6 v7 v8 v9 v12 (0:Int) (0:Int) (fun z14 z15 z16 z17 z18 z19 z20 z21 z22 =>
    (s_l01At K (z14,z22,())).bind fun y23 =>
    (if (decide ((0:Int)<=(IntKind.u64.wrap z21)))=true then
    s_l10Commute_l12 K k z14 z15 z16 z17 z18 z19 (bitI .or .i64 z20 (shlI .i64 y23 (IntKind.u64.wrap z21))) (IntKind.i64.wrap (z21 + (1:Int))) kx4
    else
    none))
    else
    kx4 v2 v3 v5 v6 v7 v8 v9)
noncomputable def s_l10Commute_l3 {R:Type} (K:Nat):Nat->dq0->dq0->Int->Int->Int->(Option R)->(Bool->Option R)->Option R
  | 0,_,_,_,_,_,_,_=>none
  | k + 1,v2,v3,v5,v6,v7,kx0,kr =>
    (s_l01Rows K ((IntKind.i64.wrap (v5 * v6)),())).bind fun y1 =>
    (if (decide (v7 < y1))=true then
    s_l10Commute_l7 K k v2 v3 v5 v6 v7 (0:Int) (0:Int) (0:Int) (fun z5 z6 z7 z8 z9 z10 z11 =>
    s_l10Commute_l12 K k z5 z6 z7 z8 z9 z10 z11 (0:Int) (fun z24 z25 z26 z27 z28 z29 z30 =>
    (s_l01At K (z24,z29,())).bind fun y31 =>
    (s_l01At K (z25,z30,())).bind fun y32 =>
    (if (!decide (y31=y32))=true then
    kr false
    else
    s_l10Commute_l3 K k z24 z25 z26 z27 (IntKind.i64.wrap (z28 + (1:Int))) kx0 kr)))
    else
    kx0)
noncomputable def s_l10Commute (K:Nat) (x:(dq0 × dq0 × Unit)):Option Bool :=
    s_l10Commute_l3 K K x.1 x.2.1 x.1.1 x.2.1.1 (0:Int) (some true) (fun z33 =>
    some z33)
noncomputable def X0_s_l10Commute:Lv:=[]
noncomputable def X2_s_l10Commute:Lv:=[(2,(.bx (.v tq0))),(3,(.bx (.v tq0))),(5,(.v (.int .i64))),(6,(.v (.int .i64))),(7,(.v (.int .i64))),(8,(.v (.int .i64))),(9,(.v (.int .i64)))]
noncomputable def X4_s_l10Commute:Lv:=[(2,(.bx (.v tq0))),(3,(.bx (.v tq0))),(5,(.v (.int .i64))),(6,(.v (.int .i64))),(7,(.v (.int .i64))),(8,(.v (.int .i64))),(9,(.v (.int .i64)))]
noncomputable def X6_s_l10Commute:Lv:=[(2,(.bx (.v tq0))),(3,(.bx (.v tq0))),(5,(.v (.int .i64))),(6,(.v (.int .i64))),(7,(.v (.int .i64))),(8,(.v (.int .i64))),(9,(.v (.int .i64))),(12,(.v (.int .i64))),(13,(.v (.int .i64)))]
noncomputable def rv_s_l10Commute:Lv:=[(4,(.v .bool))]
noncomputable def D_s_l10Commute (K:Nat):List (PD (den .bool)):=[.L 3 [(2,(.bx (.v tq0))),(3,(.bx (.v tq0))),(5,(.v (.int .i64))),(6,(.v (.int .i64))),(7,(.v (.int .i64)))] [] (fun k x kx kr=>s_l10Commute_l3 K k x.1 x.2.1 x.2.2.1 x.2.2.2.1 x.2.2.2.2.1 (kx 0 (mkSt X0_s_l10Commute ())) (fun z0=>kr (mkSt rv_s_l10Commute (z0,())))),
  .L 7 [(2,(.bx (.v tq0))),(3,(.bx (.v tq0))),(5,(.v (.int .i64))),(6,(.v (.int .i64))),(7,(.v (.int .i64))),(8,(.v (.int .i64))),(9,(.v (.int .i64))),(10,(.v (.int .i64)))] [] (fun k x kx kr=>s_l10Commute_l7 K k x.1 x.2.1 x.2.2.1 x.2.2.2.1 x.2.2.2.2.1 x.2.2.2.2.2.1 x.2.2.2.2.2.2.1 x.2.2.2.2.2.2.2.1 (fun z0 z1 z2 z3 z4 z5 z6=>kx 2 (mkSt X2_s_l10Commute (z0,z1,z2,z3,z4,z5,z6,())))),
  .L 12 [(2,(.bx (.v tq0))),(3,(.bx (.v tq0))),(5,(.v (.int .i64))),(6,(.v (.int .i64))),(7,(.v (.int .i64))),(8,(.v (.int .i64))),(9,(.v (.int .i64))),(12,(.v (.int .i64)))] [] (fun k x kx kr=>s_l10Commute_l12 K k x.1 x.2.1 x.2.2.1 x.2.2.2.1 x.2.2.2.2.1 x.2.2.2.2.2.1 x.2.2.2.2.2.2.1 x.2.2.2.2.2.2.2.1 (fun z0 z1 z2 z3 z4 z5 z6=>kx 4 (mkSt X4_s_l10Commute (z0,z1,z2,z3,z4,z5,z6,())))),
  .L 16 [(2,(.bx (.v tq0))),(3,(.bx (.v tq0))),(5,(.v (.int .i64))),(6,(.v (.int .i64))),(7,(.v (.int .i64))),(8,(.v (.int .i64))),(9,(.v (.int .i64))),(12,(.v (.int .i64))),(13,(.v (.int .i64))),(14,(.v (.int .i64)))] [] (fun k x kx kr=>s_l10Commute_l16 K k x.1 x.2.1 x.2.2.1 x.2.2.2.1 x.2.2.2.2.1 x.2.2.2.2.2.1 x.2.2.2.2.2.2.1 x.2.2.2.2.2.2.2.1 x.2.2.2.2.2.2.2.2.1 x.2.2.2.2.2.2.2.2.2.1 (fun z0 z1 z2 z3 z4 z5 z6 z7 z8=>kx 6 (mkSt X6_s_l10Commute (z0,z1,z2,z3,z4,z5,z6,z7,z8,()))))]
theorem ok_s_l10Commute (K:Nat):FnOk Tryz.prog 62 (sp_s_l10Commute (s_l10Commute K)) :=
  fn_okD tysOk [C_s_l01Rows K,C_s_l01At K] 0 (D_s_l10Commute K) [(0,X0_s_l10Commute),(2,X2_s_l10Commute),(4,X4_s_l10Commute),(6,X6_s_l10Commute)] rv_s_l10Commute K Tryz.func62 (by kernel_rfl) ⟨⟨fun _ _ _ _=>by kernel_rfl,fun _ _ _=>rfl⟩,⟨⟨fun _ _ _ _=>by kernel_rfl,fun _ _ _=>rfl⟩,⟨⟨fun _ _ _ _=>by kernel_rfl,fun _ _ _=>rfl⟩,⟨⟨fun _ _ _ _=>by kernel_rfl,fun _ _ _=>rfl⟩,trivial⟩⟩⟩⟩ (fun _=>by kernel_rfl)
noncomputable def C_s_l10Commute (K:Nat):CB Tryz.prog:=.f _ _ (ok_s_l10Commute K)
noncomputable def as_s_AreCommuting:Ty:=(.pair tq0 (.pair tq0 .unit))
noncomputable def sp_s_AreCommuting (F:(dq0 × dq0 × Unit)->Option (Bool × Int × Unit)):FnSpec:=⟨as_s_AreCommuting,[false,false],(.tup (.pair .bool (.pair (.int .i64) .unit))),F⟩
noncomputable def s_AreCommuting (K:Nat) (x:(dq0 × dq0 × Unit)):Option (Bool × Int × Unit) :=
    (s_l01Is K (x.1,())).bind fun y1 =>
    (if (!y1)=true then
    some (false,(1:Int),())
    else
    (s_l01Is K (x.2.1,())).bind fun y2 =>
    (if (!y2)=true then
    some (false,(1:Int),())
    else
    (s_l10Commute K (x.1,x.2.1,())).bind fun y3 =>
    some (y3,(0:Int),())))
noncomputable def rv_s_AreCommuting:Lv:=[(4,(.v .bool)),(5,(.v (.int .i64)))]
theorem ok_s_AreCommuting (K:Nat):FnOk Tryz.prog 22 (sp_s_AreCommuting (s_AreCommuting K)) :=
  fn_okD tysOk [C_s_l01Is K,C_s_l10Commute K] 0 [] [] rv_s_AreCommuting K Tryz.func22 (by kernel_rfl) trivial (fun _=>by kernel_rfl)
noncomputable def C_s_AreCommuting (K:Nat):CB Tryz.prog:=.f _ _ (ok_s_AreCommuting K)
noncomputable def as_s_l02Code:Ty:=(.pair (.sl tq0) .unit)
noncomputable def sp_s_l02Code (F:((List dq0) × Unit)->Option Int):FnSpec:=⟨as_s_l02Code,[false],(.int .i64),F⟩
noncomputable def s_l02Code_l2 {R:Type} (K:Nat):Nat->(List dq0)->Int->((List dq0)->Option R)->(Int->Option R)->Option R
  | 0,_,_,_,_=>none
  | k + 1,v0,v3,kx0,kr =>
    (if (decide (v3 < (v0.length:Int)))=true then
    (if (bnds v3 (v0.length:Int))=true then
    (s_l01Is K ((v0.getD v3.toNat ((0:Int),(0:Int),())),())).bind fun y1 =>
    (if (!y1)=true then
    kr (1:Int)
    else
    s_l02Code_l2 K k v0 (IntKind.i64.wrap (v3 + (1:Int))) kx0 kr)
    else
    none)
    else
    kx0 v0)
noncomputable def s_l02Code (K:Nat) (x:((List dq0) × Unit)):Option Int :=
    s_l02Code_l2 K K x.1 (0:Int) (fun z2 =>
    (if (decide ((z2.length:Int) > (8:Int)))=true then
    some (2:Int)
    else
    some (0:Int))) (fun z3 =>
    some z3)
noncomputable def X0_s_l02Code:Lv:=[(0,(.v (.sl tq0)))]
noncomputable def rv_s_l02Code:Lv:=[(2,(.v (.int .i64)))]
noncomputable def D_s_l02Code (K:Nat):List (PD (den (.int .i64))):=[.L 2 [(0,(.v (.sl tq0))),(3,(.v (.int .i64)))] [] (fun k x kx kr=>s_l02Code_l2 K k x.1 x.2.1 (fun z0=>kx 0 (mkSt X0_s_l02Code (z0,()))) (fun z0=>kr (mkSt rv_s_l02Code (z0,()))))]
theorem ok_s_l02Code (K:Nat):FnOk Tryz.prog 42 (sp_s_l02Code (s_l02Code K)) :=
  fn_okD tysOk [C_s_l01Is K] 0 (D_s_l02Code K) [(0,X0_s_l02Code)] rv_s_l02Code K Tryz.func42 (by kernel_rfl) ⟨⟨fun _ _ _ _=>by kernel_rfl,fun _ _ _=>rfl⟩,trivial⟩ (fun _=>by kernel_rfl)
noncomputable def C_s_l02Code (K:Nat):CB Tryz.prog:=.f _ _ (ok_s_l02Code K)
noncomputable def as_s_CentraliserOf:Ty:=(.pair (.sl tq0) (.pair (.int .i64) .unit))
noncomputable def sp_s_CentraliserOf (F:((List dq0) × Int × Unit)->Option ((List dq0) × Int × Unit)):FnSpec:=⟨as_s_CentraliserOf,[false,false],(.tup (.pair (.sl tq0) (.pair (.int .i64) .unit))),F⟩
noncomputable def s_CentraliserOf_j14 {R:Type} (K:Nat) (k:Nat) (v0:(List dq0)) (v1:Int) (v7:(List dq0)) (v8:Int) (v9:dq0) (v11:Int) (kn:(List dq0)->Int->(List dq0)->Int->dq0->Bool->Int->Option R) :Option R :=
    (if (bnds v11 (v0.length:Int))=true then
    (s_l10Commute K (v9,(v0.getD v11.toNat ((0:Int),(0:Int),())),())).bind fun y5 =>
    kn v0 v1 v7 v8 v9 y5 (IntKind.i64.wrap (v11 + (1:Int)))
    else
    none)
noncomputable def s_CentraliserOf_l12 {R:Type} (K:Nat):Nat->(List dq0)->Int->(List dq0)->Int->dq0->Bool->Int->((List dq0)->Int->(List dq0)->Int->dq0->Bool->Option R)->Option R
  | 0,_,_,_,_,_,_,_,_=>none
  | k + 1,v0,v1,v7,v8,v9,v10,v11,kx2 =>
    (if (decide (v11 < (v0.length:Int)))=true then
    (if v10=true then
    s_CentraliserOf_j14 K k v0 v1 v7 v8 v9 v11 (fun z6 z7 z8 z9 z10 z11 z12 =>
    s_CentraliserOf_l12 K k z6 z7 z8 z9 z10 z11 z12 kx2)
    else
    kx2 v0 v1 v7 v8 v9 v10)
    else
    kx2 v0 v1 v7 v8 v9 v10)
noncomputable def s_CentraliserOf_l8 {R:Type} (K:Nat):Nat->(List dq0)->Int->(List dq0)->Int->((List dq0)->Option R)->Option R
  | 0,_,_,_,_,_=>none
  | k + 1,v0,v1,v7,v8,kx0 =>
    (s_l01All K (v1,())).bind fun y4 =>
    (if (decide (v8<=y4))=true then
    s_CentraliserOf_l12 K k v0 v1 v7 v8 ((v1,((0:Int),(0:Int),()).2.1,()).1,v8,()) true (0:Int) (fun z13 z14 z15 z16 z17 z18 =>
    (if z18=true then
    (if (decide (z15.length + ([z17]).length<=lim))=true then
    let l19:=(z15 ++ [z17])
    s_CentraliserOf_l8 K k z13 z14 l19 (IntKind.i64.wrap (z16 + (1:Int))) kx0
    else
    none)
    else
    s_CentraliserOf_l8 K k z13 z14 z15 (IntKind.i64.wrap (z16 + (1:Int))) kx0))
    else
    kx0 v7)
noncomputable def s_CentraliserOf_j4 {R:Type} (K:Nat) (k:Nat) (v0:(List dq0)) (v1:Int) (v6:Int) (kn:Option R) (kr:((List dq0)->Int->Option R)):Option R :=
    (if (!decide (v6=(0:Int)))=true then
    kr ([]:List dq0) v6
    else
    let l3:=([]:List dq0)
    s_CentraliserOf_l8 K k v0 v1 l3 (0:Int) (fun z20 =>
    kr z20 (0:Int)))
noncomputable def s_CentraliserOf (K:Nat) (x:((List dq0) × Int × Unit)):Option ((List dq0) × Int × Unit) :=
    (s_l02Code K (x.1,())).bind fun y1 =>
    (if (decide (y1=(0:Int)))=true then
    (s_l01In K (x.2.1,(0:Int),(3:Int),())).bind fun y2 =>
    (if (!y2)=true then
    s_CentraliserOf_j4 K K x.1 x.2.1 (2:Int) none (fun z21 z22 =>
    some (z21,z22,()))
    else
    s_CentraliserOf_j4 K K x.1 x.2.1 y1 none (fun z23 z24 =>
    some (z23,z24,())))
    else
    s_CentraliserOf_j4 K K x.1 x.2.1 y1 none (fun z25 z26 =>
    some (z25,z26,())))
noncomputable def X0_s_CentraliserOf:Lv:=[(7,(.r tq0))]
noncomputable def X2_s_CentraliserOf:Lv:=[(0,(.v (.sl tq0))),(1,(.v (.int .i64))),(7,(.r tq0)),(8,(.v (.int .i64))),(9,(.bx (.v tq0))),(10,(.v .bool))]
noncomputable def rv_s_CentraliserOf:Lv:=[(4,(.r tq0)),(5,(.v (.int .i64)))]
noncomputable def D_s_CentraliserOf (K:Nat):List (PD (den (.tup (.pair (.sl tq0) (.pair (.int .i64) .unit))))):=[.J 4 [(0,(.v (.sl tq0))),(1,(.v (.int .i64))),(6,(.v (.int .i64)))] [] 0 (fun k x kn kx kr=>s_CentraliserOf_j4 K k x.1 x.2.1 x.2.2.1 (kn ()) (fun z0 z1=>kr (mkSt rv_s_CentraliserOf (z0,z1,())))),
  .L 8 [(0,(.v (.sl tq0))),(1,(.v (.int .i64))),(7,(.r tq0)),(8,(.v (.int .i64)))] [] (fun k x kx kr=>s_CentraliserOf_l8 K k x.1 x.2.1 x.2.2.1 x.2.2.2.1 (fun z0=>kx 0 (mkSt X0_s_CentraliserOf (z0,())))),
  .L 12 [(0,(.v (.sl tq0))),(1,(.v (.int .i64))),(7,(.r tq0)),(8,(.v (.int .i64))),(9,(.bx (.v tq0))),(10,(.v .bool)),(11,(.v (.int .i64)))] [] (fun k x kx kr=>s_CentraliserOf_l12 K k x.1 x.2.1 x.2.2.1 x.2.2.2.1 x.2.2.2.2.1 x.2.2.2.2.2.1 x.2.2.2.2.2.2.1 (fun z0 z1 z2 z3 z4 z5=>kx 2 (mkSt X2_s_CentraliserOf (z0,z1,z2,z3,z4,z5,())))),
  .J 14 [(0,(.v (.sl tq0))),(1,(.v (.int .i64))),(7,(.r tq0)),(8,(.v (.int .i64))),(9,(.bx (.v tq0))),(11,(.v (.int .i64)))] [(0,(.v (.sl tq0))),(1,(.v (.int .i64))),(7,(.r tq0)),(8,(.v (.int .i64))),(9,(.bx (.v tq0))),(10,(.v .bool)),(11,(.v (.int .i64)))] 0 (fun k x kn kx kr=>s_CentraliserOf_j14 K k x.1 x.2.1 x.2.2.1 x.2.2.2.1 x.2.2.2.2.1 x.2.2.2.2.2.1 (fun z0 z1 z2 z3 z4 z5 z6=>kn (z0,z1,z2,z3,z4,z5,z6,())))]
theorem ok_s_CentraliserOf (K:Nat):FnOk Tryz.prog 25 (sp_s_CentraliserOf (s_CentraliserOf K)) :=
  fn_okD tysOk [C_s_l02Code K,C_s_l10Commute K,C_s_l01In K,C_s_l01All K] 0 (D_s_CentraliserOf K) [(0,X0_s_CentraliserOf),(2,X2_s_CentraliserOf)] rv_s_CentraliserOf K Tryz.func25 (by kernel_rfl) ⟨fun _ _ _ _ _=>by kernel_rfl,⟨⟨fun _ _ _ _=>by kernel_rfl,fun _ _ _=>rfl⟩,⟨⟨fun _ _ _ _=>by kernel_rfl,fun _ _ _=>rfl⟩,⟨fun _ _ _ _ _=>by kernel_rfl,trivial⟩⟩⟩⟩ (fun _=>by kernel_rfl)
noncomputable def C_s_CentraliserOf (K:Nat):CB Tryz.prog:=.f _ _ (ok_s_CentraliserOf K)
noncomputable def ps_s_l01From:Lv:=[(0,(.v (.sl (.int .u8))))]
noncomputable def rl_s_l01From:Lv:=[(0,(.bx (.v tq1)))]
noncomputable def sp_s_l01From (F:((List Int) × Unit)->Option ((dq1 × Unit) × Unit)):ShSpec:=⟨ps_s_l01From,rl_s_l01From,F⟩
noncomputable def s_l01From_j5 {R:Type} (K:Nat) (k:Nat) (v0:(List Int)) (v3:dq1) (v4:Int) (kn:(List Int)->dq1->Int->Option R) :Option R :=
    (if (bnds v4 (v0.length:Int))=true then
    let x3:=(IntKind.u64.wrap ((IntKind.u64.wrap (v3.2.2.1 * (1099511628211:Int))) + (IntKind.u64.wrap (v0.getD v4.toNat (0:Int)))))
    kn v0 (v3.1,v3.2.1,(IntKind.u64.wrap (x3 + (149:Int))),()) (IntKind.i64.wrap (v4 + (1:Int)))
    else
    none)
noncomputable def s_l01From_l3 {R:Type} (K:Nat):Nat->(List Int)->dq1->Int->(dq1->Option R)->Option R
  | 0,_,_,_,_=>none
  | k + 1,v0,v3,v4,kx0 =>
    (if (decide (v4 < (v0.length:Int)))=true then
    (if (decide (v4 < (4096:Int)))=true then
    s_l01From_j5 K k v0 v3 v4 (fun z4 z5 z6 =>
    s_l01From_l3 K k z4 z5 z6 kx0)
    else
    kx0 v3)
    else
    kx0 v3)
noncomputable def s_l01From (K:Nat) (x:((List Int) × Unit)):Option ((dq1 × Unit) × Unit) :=
    let x1:=(IntKind.u64.wrap ((13231:Int) + (IntKind.u64.wrap (x.1.length:Int))))
    let x2:=((x.1,(0:Int),(0:Int),()).1,(x.1,(0:Int),(0:Int),()).2.1,x1,())
    s_l01From_l3 K K x.1 x2 (0:Int) (fun z7 =>
    some ((z7,()),()))
noncomputable def X0_s_l01From:Lv:=[(3,(.bx (.v tq1)))]
noncomputable def rv_s_l01From:Lv:=[(2,(.bx (.v tq1)))]
noncomputable def D_s_l01From (K:Nat):List (PD (den rl_s_l01From.ty × den (outL ps_s_l01From).ty)):=[.L 3 [(0,(.v (.sl (.int .u8)))),(3,(.bx (.v tq1))),(4,(.v (.int .i64)))] [] (fun k x kx kr=>s_l01From_l3 K k x.1 x.2.1 x.2.2.1 (fun z0=>kx 0 (mkSt X0_s_l01From (z0,())))),
  .J 5 [(0,(.v (.sl (.int .u8)))),(3,(.bx (.v tq1))),(4,(.v (.int .i64)))] [(0,(.v (.sl (.int .u8)))),(3,(.bx (.v tq1))),(4,(.v (.int .i64)))] 0 (fun k x kn kx kr=>s_l01From_j5 K k x.1 x.2.1 x.2.2.1 (fun z0 z1 z2=>kn (z0,z1,z2,())))]
theorem ok_s_l01From (K:Nat):ShOk Tryz.prog 57 (sp_s_l01From (s_l01From K)) :=
  sh_okD tysOk [] 0 (D_s_l01From K) [(0,X0_s_l01From)] rv_s_l01From K Tryz.func57 (by kernel_rfl) ⟨⟨fun _ _ _ _=>by kernel_rfl,fun _ _ _=>rfl⟩,⟨fun _ _ _ _ _=>by kernel_rfl,trivial⟩⟩ (fun _=>by kernel_rfl)
noncomputable def C_s_l01From (K:Nat):CB Tryz.prog:=.s _ _ (ok_s_l01From K)
noncomputable def ps_s_l01Next:Lv:=[(0,(.bx (.v tq1))),(1,(.v (.int .i64)))]
noncomputable def rl_s_l01Next:Lv:=[(0,(.v (.int .i64)))]
noncomputable def sp_s_l01Next (F:(dq1 × Int × Unit)->Option ((Int × Unit) × (dq1 × Unit))):ShSpec:=⟨ps_s_l01Next,rl_s_l01Next,F⟩
noncomputable def s_l01Next (K:Nat) (x:(dq1 × Int × Unit)):Option ((Int × Unit) × (dq1 × Unit)) :=
    (if (decide (x.2.1 < (1:Int)))=true then
    some (((0:Int),()),(x.1,()))
    else
    let x1:=(IntKind.u64.wrap ((IntKind.u64.wrap (x.1.2.2.1 * (6364136223846793005:Int))) + (1442695040888963407:Int)))
    let x2:=(bitI .and .u64 (shrI .u64 ((x.1.1,x.1.2.1,x1,()).2.2.1) (33:Int)) (16777215:Int))
    let x3:=(decide ((x.1.1,x.1.2.1,x1,()).2.1 < (((x.1.1,x.1.2.1,x1,()).1).length:Int)))
    (if x3=true then
    (if (bnds ((x.1.1,x.1.2.1,x1,()).2.1) (((x.1.1,x.1.2.1,x1,()).1).length:Int))=true then
    let x4:=(((x.1.1,x.1.2.1,x1,()).1).getD ((x.1.1,x.1.2.1,x1,()).2.1).toNat (0:Int))
    let x5:=(IntKind.i64.wrap ((IntKind.i64.wrap x2) + (IntKind.i64.wrap x4)))
    let x6:=(IntKind.i64.wrap ((x.1.1,x.1.2.1,x1,()).2.1 + (1:Int)))
    (if (!decide (x.2.1=0))=true then
    some (((Int.tmod x5 x.2.1),()),(((x.1.1,x.1.2.1,x1,()).1,x6,(x.1.1,x.1.2.1,x1,()).2.2.1,()),()))
    else
    none)
    else
    none)
    else
    (if (!decide (x.2.1=0))=true then
    some (((Int.tmod (IntKind.i64.wrap x2) x.2.1),()),((x.1.1,x.1.2.1,x1,()),()))
    else
    none)))
noncomputable def rv_s_l01Next:Lv:=[(0,(.bx (.v tq1))),(4,(.v (.int .i64)))]
theorem ok_s_l01Next (K:Nat):ShOk Tryz.prog 63 (sp_s_l01Next (s_l01Next K)) :=
  sh_okD tysOk [] 1 [] [] rv_s_l01Next K Tryz.func63 (by kernel_rfl) trivial (fun _=>by kernel_rfl)
noncomputable def C_s_l01Next (K:Nat):CB Tryz.prog:=.s _ _ (ok_s_l01Next K)
noncomputable def ps_s_l01Pick:Lv:=[(0,(.bx (.v tq1))),(1,(.v (.sl (.int .i64))))]
noncomputable def rl_s_l01Pick:Lv:=[(0,(.v (.int .i64)))]
noncomputable def sp_s_l01Pick (F:(dq1 × (List Int) × Unit)->Option ((Int × Unit) × (dq1 × Unit))):ShSpec:=⟨ps_s_l01Pick,rl_s_l01Pick,F⟩
noncomputable def s_l01Pick (K:Nat) (x:(dq1 × (List Int) × Unit)):Option ((Int × Unit) × (dq1 × Unit)) :=
    (s_l01Next K (x.1,(x.2.1.length:Int),())).bind fun y1 =>
    (if (bnds y1.1.1 (x.2.1.length:Int))=true then
    some (((x.2.1.getD y1.1.1.toNat (0:Int)),()),(y1.2.1,()))
    else
    none)
noncomputable def rv_s_l01Pick:Lv:=[(0,(.bx (.v tq1))),(4,(.v (.int .i64)))]
theorem ok_s_l01Pick (K:Nat):ShOk Tryz.prog 64 (sp_s_l01Pick (s_l01Pick K)) :=
  sh_okD tysOk [C_s_l01Next K] 1 [] [] rv_s_l01Pick K Tryz.func64 (by kernel_rfl) trivial (fun _=>by kernel_rfl)
noncomputable def C_s_l01Pick (K:Nat):CB Tryz.prog:=.s _ _ (ok_s_l01Pick K)
noncomputable def as_s_l10Weight:Ty:=(.pair (.int .i64) .unit)
noncomputable def sp_s_l10Weight (F:(Int × Unit)->Option Int):FnSpec:=⟨as_s_l10Weight,[false],(.int .i64),F⟩
noncomputable def s_l10Weight_l2 {R:Type} (K:Nat):Nat->Int->Int->(Int->Option R)->Option R
  | 0,_,_,_=>none
  | k + 1,v0,v3,kx0 =>
    (if (decide (v0 > (0:Int)))=true then
    s_l10Weight_l2 K k (IntKind.i64.wrap (Int.tdiv v0 (2:Int))) (IntKind.i64.wrap (v3 + (Int.tmod v0 (2:Int)))) kx0
    else
    kx0 v3)
noncomputable def s_l10Weight (K:Nat) (x:(Int × Unit)):Option Int :=
    s_l10Weight_l2 K K x.1 (0:Int) (fun z1 =>
    some z1)
noncomputable def X0_s_l10Weight:Lv:=[(3,(.v (.int .i64)))]
noncomputable def rv_s_l10Weight:Lv:=[(2,(.v (.int .i64)))]
noncomputable def D_s_l10Weight (K:Nat):List (PD (den (.int .i64))):=[.L 2 [(0,(.v (.int .i64))),(3,(.v (.int .i64)))] [] (fun k x kx kr=>s_l10Weight_l2 K k x.1 x.2.1 (fun z0=>kx 0 (mkSt X0_s_l10Weight (z0,()))))]
theorem ok_s_l10Weight (K:Nat):FnOk Tryz.prog 134 (sp_s_l10Weight (s_l10Weight K)) :=
  fn_okD tysOk [] 0 (D_s_l10Weight K) [(0,X0_s_l10Weight)] rv_s_l10Weight K Tryz.func134 (by kernel_rfl) ⟨⟨fun _ _ _ _=>by kernel_rfl,fun _ _ _=>rfl⟩,trivial⟩ (fun _=>by kernel_rfl)
noncomputable def C_s_l10Weight (K:Nat):CB Tryz.prog:=.f _ _ (ok_s_l10Weight K)
noncomputable def as_s_l01Of:Ty:=(.pair (.int .i64) (.pair (.sl (.int .i64)) .unit))
noncomputable def sp_s_l01Of (F:(Int × (List Int) × Unit)->Option dq0):FnSpec:=⟨as_s_l01Of,[false,false],tq0,F⟩
noncomputable def s_l01Of_l3 {R:Type} (K:Nat):Nat->Int->(List Int)->dq0->dq0->Int->(dq0->dq0->Option R)->Option R
  | 0,_,_,_,_,_,_=>none
  | k + 1,v0,v1,v4,v5,v6,kx0 =>
    (s_l01Rows K (v0,())).bind fun y1 =>
    (if (decide (v6 < y1))=true then
    (if (bnds v6 (v1.length:Int))=true then
    (if (decide ((0:Int)<=(IntKind.u64.wrap v6)))=true then
    let x2:=(shlI .i64 (v1.getD v6.toNat (0:Int)) (IntKind.u64.wrap v6))
    s_l01Of_l3 K k v0 v1 v4 (v5.1,(IntKind.i64.wrap (v5.2.1 + x2)),()) (IntKind.i64.wrap (v6 + (1:Int))) kx0
    else
    none)
    else
    none)
    else
    kx0 v4 v5)
noncomputable def s_l01Of (K:Nat) (x:(Int × (List Int) × Unit)):Option dq0 :=
    s_l01Of_l3 K K x.1 x.2.1 ((0:Int),(0:Int),()) (x.1,((0:Int),(0:Int),()).2.1,()) (0:Int) (fun z3 z4 =>
    some z4)
noncomputable def X0_s_l01Of:Lv:=[(4,(.bx (.v tq0))),(5,(.bx (.v tq0)))]
noncomputable def rv_s_l01Of:Lv:=[(4,(.bx (.v tq0)))]
noncomputable def D_s_l01Of (K:Nat):List (PD (den tq0)):=[.L 3 [(0,(.v (.int .i64))),(1,(.v (.sl (.int .i64)))),(4,(.bx (.v tq0))),(5,(.bx (.v tq0))),(6,(.v (.int .i64)))] [] (fun k x kx kr=>s_l01Of_l3 K k x.1 x.2.1 x.2.2.1 x.2.2.2.1 x.2.2.2.2.1 (fun z0 z1=>kx 0 (mkSt X0_s_l01Of (z0,z1,()))))]
theorem ok_s_l01Of (K:Nat):FnOk Tryz.prog 138 (sp_s_l01Of (s_l01Of K)) :=
  fn_okD tysOk [C_s_l01Rows K] 0 (D_s_l01Of K) [(0,X0_s_l01Of)] rv_s_l01Of K Tryz.func138 (by kernel_rfl) ⟨⟨fun _ _ _ _=>by kernel_rfl,fun _ _ _=>rfl⟩,trivial⟩ (fun _=>by kernel_rfl)
noncomputable def C_s_l01Of (K:Nat):CB Tryz.prog:=.f _ _ (ok_s_l01Of K)
noncomputable def as_s_l01Projection:Ty:=(.pair (.int .i64) (.pair (.int .i64) .unit))
noncomputable def sp_s_l01Projection (F:(Int × Int × Unit)->Option dq0):FnSpec:=⟨as_s_l01Projection,[false,false],tq0,F⟩
noncomputable def s_l01Projection_l3 {R:Type} (K:Nat):Nat->Int->Int->dq0->(List Int)->Int->(Int->dq0->(List Int)->Option R)->Option R
  | 0,_,_,_,_,_,_=>none
  | k + 1,v0,v1,v4,v5,v6,kx0 =>
    (s_l01Rows K (v0,())).bind fun y2 =>
    (if (decide (v6 < y2))=true then
    (if (decide ((0:Int)<=(IntKind.u64.wrap v1)))=true then
    let x3:=(bitI .and .i64 (shrI .i64 v6 (IntKind.u64.wrap v1)) (1:Int))
    (if (decide (v5.length + ([x3]).length<=lim))=true then
    let l4:=(v5 ++ [x3])
    s_l01Projection_l3 K k v0 v1 v4 l4 (IntKind.i64.wrap (v6 + (1:Int))) kx0
    else
    none)
    else
    none)
    else
    kx0 v0 v4 v5)
noncomputable def s_l01Projection (K:Nat) (x:(Int × Int × Unit)):Option dq0 :=
    let l1:=([]:List Int)
    s_l01Projection_l3 K K x.1 x.2.1 ((0:Int),(0:Int),()) l1 (0:Int) (fun z5 z6 z7 =>
    (s_l01Of K (z5,z7,())).bind fun y8 =>
    some y8)
noncomputable def X0_s_l01Projection:Lv:=[(0,(.v (.int .i64))),(4,(.bx (.v tq0))),(5,(.r (.int .i64)))]
noncomputable def rv_s_l01Projection:Lv:=[(4,(.bx (.v tq0)))]
noncomputable def D_s_l01Projection (K:Nat):List (PD (den tq0)):=[.L 3 [(0,(.v (.int .i64))),(1,(.v (.int .i64))),(4,(.bx (.v tq0))),(5,(.r (.int .i64))),(6,(.v (.int .i64)))] [] (fun k x kx kr=>s_l01Projection_l3 K k x.1 x.2.1 x.2.2.1 x.2.2.2.1 x.2.2.2.2.1 (fun z0 z1 z2=>kx 0 (mkSt X0_s_l01Projection (z0,z1,z2,()))))]
theorem ok_s_l01Projection (K:Nat):FnOk Tryz.prog 92 (sp_s_l01Projection (s_l01Projection K)) :=
  fn_okD tysOk [C_s_l01Rows K,C_s_l01Of K] 0 (D_s_l01Projection K) [(0,X0_s_l01Projection)] rv_s_l01Projection K Tryz.func92 (by kernel_rfl) ⟨⟨fun _ _ _ _=>by kernel_rfl,fun _ _ _=>rfl⟩,trivial⟩ (fun _=>by kernel_rfl)
noncomputable def C_s_l01Projection (K:Nat):CB Tryz.prog:=.f _ _ (ok_s_l01Projection K)
noncomputable def as_s_l01Constant:Ty:=(.pair (.int .i64) (.pair (.int .i64) .unit))
noncomputable def sp_s_l01Constant (F:(Int × Int × Unit)->Option dq0):FnSpec:=⟨as_s_l01Constant,[false,false],tq0,F⟩
noncomputable def s_l01Constant (K:Nat) (x:(Int × Int × Unit)):Option dq0 :=
    (s_l01All K (x.1,())).bind fun y1 =>
    let x2:=((x.1,((0:Int),(0:Int),()).2.1,()).1,(IntKind.i64.wrap (x.2.1 * y1)),())
    some x2
noncomputable def rv_s_l01Constant:Lv:=[(4,(.bx (.v tq0)))]
theorem ok_s_l01Constant (K:Nat):FnOk Tryz.prog 136 (sp_s_l01Constant (s_l01Constant K)) :=
  fn_okD tysOk [C_s_l01All K] 0 [] [] rv_s_l01Constant K Tryz.func136 (by kernel_rfl) trivial (fun _=>by kernel_rfl)
noncomputable def C_s_l01Constant (K:Nat):CB Tryz.prog:=.f _ _ (ok_s_l01Constant K)
noncomputable def as_s_l01Weight:Ty:=(.pair tq0 .unit)
noncomputable def sp_s_l01Weight (F:(dq0 × Unit)->Option Int):FnSpec:=⟨as_s_l01Weight,[false],(.int .i64),F⟩
noncomputable def s_l01Weight_l3 {R:Type} (K:Nat):Nat->dq0->Int->Int->(Int->Option R)->Option R
  | 0,_,_,_,_=>none
  | k + 1,v1,v3,v4,kx0 =>
    (s_l01Rows K (v1.1,())).bind fun y1 =>
    (if (decide (v4 < y1))=true then
    (s_l01At K (v1,v4,())).bind fun y2 =>
    s_l01Weight_l3 K k v1 (IntKind.i64.wrap (v3 + y2)) (IntKind.i64.wrap (v4 + (1:Int))) kx0
    else
    kx0 v3)
noncomputable def s_l01Weight (K:Nat) (x:(dq0 × Unit)):Option Int :=
    s_l01Weight_l3 K K x.1 (0:Int) (0:Int) (fun z3 =>
    some z3)
noncomputable def X0_s_l01Weight:Lv:=[(3,(.v (.int .i64)))]
noncomputable def rv_s_l01Weight:Lv:=[(2,(.v (.int .i64)))]
noncomputable def D_s_l01Weight (K:Nat):List (PD (den (.int .i64))):=[.L 3 [(1,(.bx (.v tq0))),(3,(.v (.int .i64))),(4,(.v (.int .i64)))] [] (fun k x kx kr=>s_l01Weight_l3 K k x.1 x.2.1 x.2.2.1 (fun z0=>kx 0 (mkSt X0_s_l01Weight (z0,()))))]
theorem ok_s_l01Weight (K:Nat):FnOk Tryz.prog 137 (sp_s_l01Weight (s_l01Weight K)) :=
  fn_okD tysOk [C_s_l01Rows K,C_s_l01At K] 0 (D_s_l01Weight K) [(0,X0_s_l01Weight)] rv_s_l01Weight K Tryz.func137 (by kernel_rfl) ⟨⟨fun _ _ _ _=>by kernel_rfl,fun _ _ _=>rfl⟩,trivial⟩ (fun _=>by kernel_rfl)
noncomputable def C_s_l01Weight (K:Nat):CB Tryz.prog:=.f _ _ (ok_s_l01Weight K)
noncomputable def as_s_l01Known:Ty:=.unit
noncomputable def sp_s_l01Known (F:Unit->Option (List ByteArray)):FnSpec:=⟨as_s_l01Known,[],(.sl .str),F⟩
noncomputable def s_l01Known (K:Nat) (x:Unit):Option (List ByteArray) :=
    let l1:=[(⟨#[48,58,48]⟩:ByteArray),(⟨#[48,58,49]⟩:ByteArray),(⟨#[49,58,48,49]⟩:ByteArray),(⟨#[49,58,49,48]⟩:ByteArray),(⟨#[50,58,48,48,48,49]⟩:ByteArray),(⟨#[50,58,48,49,49,49]⟩:ByteArray),(⟨#[50,58,48,49,49,48]⟩:ByteArray),(⟨#[50,58,49,49,49,48]⟩:ByteArray),(⟨#[50,58,49,48,48,48]⟩:ByteArray),(⟨#[50,58,49,48,48,49]⟩:ByteArray),(⟨#[50,58,49,48,49,49]⟩:ByteArray),(⟨#[51,58,48,48,48,49,48,49,49,49]⟩:ByteArray),(⟨#[51,58,48,49,49,48,49,48,48,49]⟩:ByteArray),(⟨#[51,58,48,48,48,49,49,48,49,49]⟩:ByteArray)]
    some l1
noncomputable def rv_s_l01Known:Lv:=[(0,(.r .str))]
theorem ok_s_l01Known (K:Nat):FnOk Tryz.prog 139 (sp_s_l01Known (s_l01Known K)) :=
  fn_okD tysOk [] 0 [] [] rv_s_l01Known K Tryz.func139 (by kernel_rfl) trivial (fun _=>by kernel_rfl)
noncomputable def C_s_l01Known (K:Nat):CB Tryz.prog:=.f _ _ (ok_s_l01Known K)
noncomputable def as_s_l01Bits:Ty:=(.pair (.sl (.int .i64)) .unit)
noncomputable def sp_s_l01Bits (F:((List Int) × Unit)->Option Bool):FnSpec:=⟨as_s_l01Bits,[false],.bool,F⟩
noncomputable def s_l01Bits_l2 {R:Type} (K:Nat):Nat->(List Int)->Int->(Option R)->(Bool->Option R)->Option R
  | 0,_,_,_,_=>none
  | k + 1,v0,v3,kx0,kr =>
    (if (decide (v3 < (v0.length:Int)))=true then
    (if (bnds v3 (v0.length:Int))=true then
    (s_l01In K ((v0.getD v3.toNat (0:Int)),(0:Int),(1:Int),())).bind fun y1 =>
    (if (!y1)=true then
    kr false
    else
    s_l01Bits_l2 K k v0 (IntKind.i64.wrap (v3 + (1:Int))) kx0 kr)
    else
    none)
    else
    kx0)
noncomputable def s_l01Bits (K:Nat) (x:((List Int) × Unit)):Option Bool :=
    s_l01Bits_l2 K K x.1 (0:Int) (some true) (fun z2 =>
    some z2)
noncomputable def X0_s_l01Bits:Lv:=[]
noncomputable def rv_s_l01Bits:Lv:=[(2,(.v .bool))]
noncomputable def D_s_l01Bits (K:Nat):List (PD (den .bool)):=[.L 2 [(0,(.v (.sl (.int .i64)))),(3,(.v (.int .i64)))] [] (fun k x kx kr=>s_l01Bits_l2 K k x.1 x.2.1 (kx 0 (mkSt X0_s_l01Bits ())) (fun z0=>kr (mkSt rv_s_l01Bits (z0,()))))]
theorem ok_s_l01Bits (K:Nat):FnOk Tryz.prog 183 (sp_s_l01Bits (s_l01Bits K)) :=
  fn_okD tysOk [C_s_l01In K] 0 (D_s_l01Bits K) [(0,X0_s_l01Bits)] rv_s_l01Bits K Tryz.func183 (by kernel_rfl) ⟨⟨fun _ _ _ _=>by kernel_rfl,fun _ _ _=>rfl⟩,trivial⟩ (fun _=>by kernel_rfl)
noncomputable def C_s_l01Bits (K:Nat):CB Tryz.prog:=.f _ _ (ok_s_l01Bits K)
noncomputable def as_s_l01Read:Ty:=(.pair .str .unit)
noncomputable def sp_s_l01Read (F:(ByteArray × Unit)->Option (dq0 × Bool × Unit)):FnSpec:=⟨as_s_l01Read,[false],(.tup (.pair tq0 (.pair .bool .unit))),F⟩
noncomputable def s_l01Read_l7 {R:Type} (K:Nat):Nat->ByteArray->dq0->Int->(List Int)->Int->(dq0->Int->(List Int)->Option R)->Option R
  | 0,_,_,_,_,_,_=>none
  | k + 1,v0,v2,v4,v5,v6,kx0 =>
    (if (decide (v6 < (v0.size:Int)))=true then
    (if (bnds v6 (v0.size:Int))=true then
    let x6:=(IntKind.i64.wrap ((IntKind.i64.wrap (byteAt v0 v6)) - (48:Int)))
    (if (decide (v5.length + ([x6]).length<=lim))=true then
    let l7:=(v5 ++ [x6])
    s_l01Read_l7 K k v0 v2 v4 l7 (IntKind.i64.wrap (v6 + (1:Int))) kx0
    else
    none)
    else
    none)
    else
    kx0 v2 v4 v5)
noncomputable def s_l01Read_j6 {R:Type} (K:Nat) (k:Nat) (v0:ByteArray) (v2:dq0) (v4:Int) (v5:(List Int)) (kn:Option R) (kr:(dq0->Bool->Option R)):Option R :=
    s_l01Read_l7 K k v0 v2 v4 v5 (2:Int) (fun z8 z9 z10 =>
    (s_l01Bits K (z10,())).bind fun y11 =>
    (if (!y11)=true then
    kr ((0:Int),(0:Int),()) false
    else
    (s_l01Of K (z9,z10,())).bind fun y12 =>
    kr y12 true))
noncomputable def s_l01Read_j3 {R:Type} (K:Nat) (k:Nat) (v0:ByteArray) (v2:dq0) (kn:Option R) (kr:(dq0->Bool->Option R)):Option R :=
    (if (bnds (0:Int) (v0.size:Int))=true then
    let x1:=(IntKind.i64.wrap ((IntKind.i64.wrap (byteAt v0 (0:Int))) - (48:Int)))
    let l2:=([]:List Int)
    (s_l01In K (x1,(0:Int),(4:Int),())).bind fun y3 =>
    (if (!y3)=true then
    kr ((0:Int),(0:Int),()) false
    else
    (s_l01Rows K (x1,())).bind fun y4 =>
    let x5:=(!decide ((v0.size:Int)=(IntKind.i64.wrap ((2:Int) + y4))))
    (if x5=true then
    kr ((0:Int),(0:Int),()) false
    else
    s_l01Read_j6 K k v0 v2 x1 l2 none (fun z13 z14 =>
    kr z13 z14)))
    else
    none)
noncomputable def s_l01Read (K:Nat) (x:(ByteArray × Unit)):Option (dq0 × Bool × Unit) :=
    (if (decide ((x.1.size:Int) < (3:Int)))=true then
    some (((0:Int),(0:Int),()),false,())
    else
    (if (bnds (1:Int) (x.1.size:Int))=true then
    (if (!decide ((byteAt x.1 (1:Int))=(58:Int)))=true then
    some (((0:Int),(0:Int),()),false,())
    else
    s_l01Read_j3 K K x.1 ((0:Int),(0:Int),()) none (fun z15 z16 =>
    some (z15,z16,())))
    else
    none))
noncomputable def X0_s_l01Read:Lv:=[(2,(.bx (.v tq0))),(4,(.v (.int .i64))),(5,(.r (.int .i64)))]
noncomputable def rv_s_l01Read:Lv:=[(2,(.bx (.v tq0))),(3,(.v .bool))]
noncomputable def D_s_l01Read (K:Nat):List (PD (den (.tup (.pair tq0 (.pair .bool .unit))))):=[.J 3 [(0,(.v .str)),(2,(.bx (.v tq0)))] [] 0 (fun k x kn kx kr=>s_l01Read_j3 K k x.1 x.2.1 (kn ()) (fun z0 z1=>kr (mkSt rv_s_l01Read (z0,z1,())))),
  .J 6 [(0,(.v .str)),(2,(.bx (.v tq0))),(4,(.v (.int .i64))),(5,(.r (.int .i64)))] [] 0 (fun k x kn kx kr=>s_l01Read_j6 K k x.1 x.2.1 x.2.2.1 x.2.2.2.1 (kn ()) (fun z0 z1=>kr (mkSt rv_s_l01Read (z0,z1,())))),
  .L 7 [(0,(.v .str)),(2,(.bx (.v tq0))),(4,(.v (.int .i64))),(5,(.r (.int .i64))),(6,(.v (.int .i64)))] [] (fun k x kx kr=>s_l01Read_l7 K k x.1 x.2.1 x.2.2.1 x.2.2.2.1 x.2.2.2.2.1 (fun z0 z1 z2=>kx 0 (mkSt X0_s_l01Read (z0,z1,z2,()))))]
theorem ok_s_l01Read (K:Nat):FnOk Tryz.prog 140 (sp_s_l01Read (s_l01Read K)) :=
  fn_okD tysOk [C_s_l01In K,C_s_l01Rows K,C_s_l01Of K,C_s_l01Bits K] 0 (D_s_l01Read K) [(0,X0_s_l01Read)] rv_s_l01Read K Tryz.func140 (by kernel_rfl) ⟨fun _ _ _ _ _=>by kernel_rfl,⟨fun _ _ _ _ _=>by kernel_rfl,⟨⟨fun _ _ _ _=>by kernel_rfl,fun _ _ _=>rfl⟩,trivial⟩⟩⟩ (fun _=>by kernel_rfl)
noncomputable def C_s_l01Read (K:Nat):CB Tryz.prog:=.f _ _ (ok_s_l01Read K)
noncomputable def as_s_l01Fix:Ty:=(.pair tq0 (.pair (.int .i64) (.pair (.int .i64) .unit)))
noncomputable def sp_s_l01Fix (F:(dq0 × Int × Int × Unit)->Option dq0):FnSpec:=⟨as_s_l01Fix,[false,false,false],tq0,F⟩
noncomputable def s_l01Fix_l3 {R:Type} (K:Nat):Nat->Int->Int->dq0->dq0->(List Int)->Int->(dq0->dq0->(List Int)->Option R)->Option R
  | 0,_,_,_,_,_,_,_=>none
  | k + 1,v1,v2,v3,v6,v7,v8,kx0 =>
    (s_l01Rows K (v3.1,())).bind fun y2 =>
    (if (decide (v8 < y2))=true then
    (if (decide ((0:Int)<=(IntKind.u64.wrap v1)))=true then
    let x3:=(bitI .and .i64 (shrI .i64 v8 (IntKind.u64.wrap v1)) (1:Int))
    (if (decide (x3=v2))=true then
    (s_l01At K (v3,v8,())).bind fun y4 =>
    (if (decide (v7.length + ([y4]).length<=lim))=true then
    let l5:=(v7 ++ [y4])
    s_l01Fix_l3 K k v1 v2 v3 v6 l5 (IntKind.i64.wrap (v8 + (1:Int))) kx0
    else
    none)
    else
    s_l01Fix_l3 K k v1 v2 v3 v6 v7 (IntKind.i64.wrap (v8 + (1:Int))) kx0)
    else
    none)
    else
    kx0 v3 v6 v7)
noncomputable def s_l01Fix (K:Nat) (x:(dq0 × Int × Int × Unit)):Option dq0 :=
    let l1:=([]:List Int)
    s_l01Fix_l3 K K x.2.1 x.2.2.1 x.1 ((0:Int),(0:Int),()) l1 (0:Int) (fun z6 z7 z8 =>
    (s_l01Of K ((IntKind.i64.wrap (z6.1 - (1:Int))),z8,())).bind fun y9 =>
    some y9)
noncomputable def X0_s_l01Fix:Lv:=[(3,(.bx (.v tq0))),(6,(.bx (.v tq0))),(7,(.r (.int .i64)))]
noncomputable def rv_s_l01Fix:Lv:=[(6,(.bx (.v tq0)))]
noncomputable def D_s_l01Fix (K:Nat):List (PD (den tq0)):=[.L 3 [(1,(.v (.int .i64))),(2,(.v (.int .i64))),(3,(.bx (.v tq0))),(6,(.bx (.v tq0))),(7,(.r (.int .i64))),(8,(.v (.int .i64)))] [] (fun k x kx kr=>s_l01Fix_l3 K k x.1 x.2.1 x.2.2.1 x.2.2.2.1 x.2.2.2.2.1 x.2.2.2.2.2.1 (fun z0 z1 z2=>kx 0 (mkSt X0_s_l01Fix (z0,z1,z2,()))))]
theorem ok_s_l01Fix (K:Nat):FnOk Tryz.prog 141 (sp_s_l01Fix (s_l01Fix K)) :=
  fn_okD tysOk [C_s_l01Rows K,C_s_l01Of K,C_s_l01At K] 0 (D_s_l01Fix K) [(0,X0_s_l01Fix)] rv_s_l01Fix K Tryz.func141 (by kernel_rfl) ⟨⟨fun _ _ _ _=>by kernel_rfl,fun _ _ _=>rfl⟩,trivial⟩ (fun _=>by kernel_rfl)
noncomputable def C_s_l01Fix (K:Nat):CB Tryz.prog:=.f _ _ (ok_s_l01Fix K)
noncomputable def as_s_l01Dual:Ty:=(.pair tq0 .unit)
noncomputable def sp_s_l01Dual (F:(dq0 × Unit)->Option dq0):FnSpec:=⟨as_s_l01Dual,[false],tq0,F⟩
noncomputable def s_l01Dual_l3 {R:Type} (K:Nat):Nat->dq0->dq0->(List Int)->Int->Int->(dq0->dq0->(List Int)->Option R)->Option R
  | 0,_,_,_,_,_,_=>none
  | k + 1,v1,v2,v3,v4,v5,kx0 =>
    (if (decide (v5 < v4))=true then
    let x3:=(IntKind.i64.wrap ((IntKind.i64.wrap (v4 - (1:Int))) - v5))
    (s_l01At K (v1,x3,())).bind fun y4 =>
    let l5:=[(IntKind.i64.wrap ((1:Int) - y4))]
    (if (decide (v3.length + l5.length<=lim))=true then
    let l6:=(v3 ++ l5)
    s_l01Dual_l3 K k v1 v2 l6 v4 (IntKind.i64.wrap (v5 + (1:Int))) kx0
    else
    none)
    else
    kx0 v1 v2 v3)
noncomputable def s_l01Dual (K:Nat) (x:(dq0 × Unit)):Option dq0 :=
    let l1:=([]:List Int)
    (s_l01Rows K (x.1.1,())).bind fun y2 =>
    s_l01Dual_l3 K K x.1 ((0:Int),(0:Int),()) l1 y2 (0:Int) (fun z7 z8 z9 =>
    (s_l01Of K (z7.1,z9,())).bind fun y10 =>
    some y10)
noncomputable def X0_s_l01Dual:Lv:=[(1,(.bx (.v tq0))),(2,(.bx (.v tq0))),(3,(.r (.int .i64)))]
noncomputable def rv_s_l01Dual:Lv:=[(2,(.bx (.v tq0)))]
noncomputable def D_s_l01Dual (K:Nat):List (PD (den tq0)):=[.L 3 [(1,(.bx (.v tq0))),(2,(.bx (.v tq0))),(3,(.r (.int .i64))),(4,(.v (.int .i64))),(5,(.v (.int .i64)))] [] (fun k x kx kr=>s_l01Dual_l3 K k x.1 x.2.1 x.2.2.1 x.2.2.2.1 x.2.2.2.2.1 (fun z0 z1 z2=>kx 0 (mkSt X0_s_l01Dual (z0,z1,z2,()))))]
theorem ok_s_l01Dual (K:Nat):FnOk Tryz.prog 142 (sp_s_l01Dual (s_l01Dual K)) :=
  fn_okD tysOk [C_s_l01Rows K,C_s_l01Of K,C_s_l01At K] 0 (D_s_l01Dual K) [(0,X0_s_l01Dual)] rv_s_l01Dual K Tryz.func142 (by kernel_rfl) ⟨⟨fun _ _ _ _=>by kernel_rfl,fun _ _ _=>rfl⟩,trivial⟩ (fun _=>by kernel_rfl)
noncomputable def C_s_l01Dual (K:Nat):CB Tryz.prog:=.f _ _ (ok_s_l01Dual K)
noncomputable def ps_s_l01DrawOf:Lv:=[(0,(.bx (.v tq1))),(1,(.v (.int .i64)))]
noncomputable def rl_s_l01DrawOf:Lv:=[(0,(.v tq0))]
noncomputable def sp_s_l01DrawOf (F:(dq1 × Int × Unit)->Option ((dq0 × Unit) × (dq1 × Unit))):ShSpec:=⟨ps_s_l01DrawOf,rl_s_l01DrawOf,F⟩
noncomputable def s_l01DrawOf_j33 {R:Type} (K:Nat) (k:Nat) (v0:dq1) (v4:dq0) (v5:dq0) (kn:Option R) (kr:(dq1->dq0->Option R)):Option R :=
    kr v0 v5
noncomputable def s_l01DrawOf_l11 {R:Type} (K:Nat):Nat->dq1->Int->dq0->Int->(List Int)->Int->Int->(dq1->Int->dq0->(List Int)->Option R)->Option R
  | 0,_,_,_,_,_,_,_,_=>none
  | k + 1,v0,v1,v4,v6,v7,v8,v9,kx1 =>
    (s_l01Rows K (v1,())).bind fun y14 =>
    (if (decide (v9 < y14))=true then
    let x15:=(((4:Int),((0:Int),(0:Int),()).2.1,()).1,(bitI .and .i64 v9 v6),())
    (s_l01Weight K (x15,())).bind fun y16 =>
    let l17:=[(Int.tmod (IntKind.i64.wrap (y16 + v8)) (2:Int))]
    (if (decide (v7.length + l17.length<=lim))=true then
    let l18:=(v7 ++ l17)
    s_l01DrawOf_l11 K k v0 v1 v4 v6 l18 v8 (IntKind.i64.wrap (v9 + (1:Int))) kx1
    else
    none)
    else
    kx1 v0 v1 v4 v7)
noncomputable def s_l01DrawOf_j19 {R:Type} (K:Nat) (k:Nat) (v0:dq1) (v1:Int) (v4:dq0) (v10:(List Int)) (v11:Int) (v12:Int) (v13:Int) (kn:dq1->Int->dq0->(List Int)->Int->Int->Int->Option R) :Option R :=
    kn v0 v1 v4 v10 v11 v12 (IntKind.i64.wrap (v13 + (1:Int)))
noncomputable def s_l01DrawOf_l18 {R:Type} (K:Nat):Nat->dq1->Int->dq0->(List Int)->Int->Int->Int->(dq1->Int->dq0->(List Int)->Option R)->Option R
  | 0,_,_,_,_,_,_,_,_=>none
  | k + 1,v0,v1,v4,v10,v11,v12,v13,kx3 =>
    (s_l01Rows K (v1,())).bind fun y29 =>
    (if (decide (v13 < y29))=true then
    (if (decide ((bitI .and .i64 v13 v11)=v11))=true then
    let l30:=[(1:Int)]
    (if (decide (v10.length + l30.length<=lim))=true then
    let l31:=(v10 ++ l30)
    s_l01DrawOf_j19 K k v0 v1 v4 l31 v11 v12 v13 (fun z32 z33 z34 z35 z36 z37 z38 =>
    s_l01DrawOf_l18 K k z32 z33 z34 z35 z36 z37 z38 kx3)
    else
    none)
    else
    (if (decide ((bitI .and .i64 v13 v12)=v12))=true then
    let l39:=[(1:Int)]
    (if (decide (v10.length + l39.length<=lim))=true then
    let l40:=(v10 ++ l39)
    s_l01DrawOf_j19 K k v0 v1 v4 l40 v11 v12 v13 (fun z41 z42 z43 z44 z45 z46 z47 =>
    s_l01DrawOf_l18 K k z41 z42 z43 z44 z45 z46 z47 kx3)
    else
    none)
    else
    let l48:=[(0:Int)]
    (if (decide (v10.length + l48.length<=lim))=true then
    let l49:=(v10 ++ l48)
    s_l01DrawOf_j19 K k v0 v1 v4 l49 v11 v12 v13 (fun z50 z51 z52 z53 z54 z55 z56 =>
    s_l01DrawOf_l18 K k z50 z51 z52 z53 z54 z55 z56 kx3)
    else
    none)))
    else
    kx3 v0 v1 v4 v10)
noncomputable def s_l01DrawOf (K:Nat) (x:(dq1 × Int × Unit)):Option ((dq0 × Unit) × (dq1 × Unit)) :=
    (s_l01All K (x.2.1,())).bind fun y1 =>
    (s_l01Next K (x.1,(IntKind.i64.wrap (y1 + (1:Int))),())).bind fun y2 =>
    (s_l01Next K (y2.2.1,(8:Int),())).bind fun y3 =>
    (if (decide (y3.1.1=(0:Int)))=true then
    (if (decide (x.2.1 > (0:Int)))=true then
    (s_l01Next K (y3.2.1,x.2.1,())).bind fun y4 =>
    (s_l01Projection K (x.2.1,y4.1.1,())).bind fun y5 =>
    some ((y5,()),(y4.2.1,()))
    else
    s_l01DrawOf_j33 K K y3.2.1 ((0:Int),(0:Int),()) ((x.2.1,((0:Int),(0:Int),()).2.1,()).1,y2.1.1,()) none (fun z6 z7 =>
    some ((z7,()),(z6,()))))
    else
    (if (decide (y3.1.1=(1:Int)))=true then
    (s_l01Next K (y3.2.1,(2:Int),())).bind fun y8 =>
    (s_l01Constant K (x.2.1,y8.1.1,())).bind fun y9 =>
    some ((y9,()),(y8.2.1,()))
    else
    (if (decide (y3.1.1=(2:Int)))=true then
    (s_l01Rows K (x.2.1,())).bind fun y10 =>
    (s_l01Next K (y3.2.1,y10,())).bind fun y11 =>
    let l12:=([]:List Int)
    (s_l01Next K (y11.2.1,(2:Int),())).bind fun y13 =>
    s_l01DrawOf_l11 K K y13.2.1 x.2.1 ((0:Int),(0:Int),()) y11.1.1 l12 y13.1.1 (0:Int) (fun z19 z20 z21 z22 =>
    (s_l01Of K (z20,z22,())).bind fun y23 =>
    some ((y23,()),(z19,())))
    else
    (if (decide (y3.1.1=(3:Int)))=true then
    let l24:=([]:List Int)
    (s_l01Rows K (x.2.1,())).bind fun y25 =>
    (s_l01Next K (y3.2.1,y25,())).bind fun y26 =>
    (s_l01Rows K (x.2.1,())).bind fun y27 =>
    (s_l01Next K (y26.2.1,y27,())).bind fun y28 =>
    s_l01DrawOf_l18 K K y28.2.1 x.2.1 ((0:Int),(0:Int),()) l24 y26.1.1 y28.1.1 (0:Int) (fun z57 z58 z59 z60 =>
    (s_l01Of K (z58,z60,())).bind fun y61 =>
    some ((y61,()),(z57,())))
    else
    (if (decide (y3.1.1=(4:Int)))=true then
    (s_l01Known K ()).bind fun y62 =>
    (s_l01Next K (y3.2.1,(y62.length:Int),())).bind fun y63 =>
    (if (bnds y63.1.1 (y62.length:Int))=true then
    (s_l01Read K ((y62.getD y63.1.1.toNat ByteArray.empty),())).bind fun y64 =>
    (if (decide (y64.1.1=x.2.1))=true then
    some ((y64.1,()),(y63.2.1,()))
    else
    s_l01DrawOf_j33 K K y63.2.1 ((0:Int),(0:Int),()) ((x.2.1,((0:Int),(0:Int),()).2.1,()).1,y2.1.1,()) none (fun z65 z66 =>
    some ((z66,()),(z65,()))))
    else
    none)
    else
    (if (decide (y3.1.1=(5:Int)))=true then
    (if (decide (x.2.1 > (0:Int)))=true then
    (s_l01Fix K (((x.2.1,((0:Int),(0:Int),()).2.1,()).1,y2.1.1,()),(IntKind.i64.wrap (x.2.1 - (1:Int))),(0:Int),())).bind fun y67 =>
    (s_l01Dual K (y67,())).bind fun y68 =>
    (s_l01Rows K ((IntKind.i64.wrap (x.2.1 - (1:Int))),())).bind fun y69 =>
    (if (decide ((0:Int)<=(IntKind.u64.wrap y69)))=true then
    let x70:=(IntKind.i64.wrap (y67.2.1 + (shlI .i64 y68.2.1 (IntKind.u64.wrap y69))))
    some ((((x.2.1,((0:Int),(0:Int),()).2.1,()).1,x70,()),()),(y3.2.1,()))
    else
    none)
    else
    s_l01DrawOf_j33 K K y3.2.1 ((0:Int),(0:Int),()) ((x.2.1,((0:Int),(0:Int),()).2.1,()).1,y2.1.1,()) none (fun z71 z72 =>
    some ((z72,()),(z71,()))))
    else
    s_l01DrawOf_j33 K K y3.2.1 ((0:Int),(0:Int),()) ((x.2.1,((0:Int),(0:Int),()).2.1,()).1,y2.1.1,()) none (fun z73 z74 =>
    some ((z74,()),(z73,())))))))))
noncomputable def X1_s_l01DrawOf:Lv:=[(0,(.bx (.v tq1))),(1,(.v (.int .i64))),(4,(.bx (.v tq0))),(7,(.r (.int .i64)))]
noncomputable def X3_s_l01DrawOf:Lv:=[(0,(.bx (.v tq1))),(1,(.v (.int .i64))),(4,(.bx (.v tq0))),(10,(.r (.int .i64)))]
noncomputable def rv_s_l01DrawOf:Lv:=[(0,(.bx (.v tq1))),(4,(.bx (.v tq0)))]
noncomputable def D_s_l01DrawOf (K:Nat):List (PD (den rl_s_l01DrawOf.ty × den (outL ps_s_l01DrawOf).ty)):=[.L 11 [(0,(.bx (.v tq1))),(1,(.v (.int .i64))),(4,(.bx (.v tq0))),(6,(.v (.int .i64))),(7,(.r (.int .i64))),(8,(.v (.int .i64))),(9,(.v (.int .i64)))] [] (fun k x kx kr=>s_l01DrawOf_l11 K k x.1 x.2.1 x.2.2.1 x.2.2.2.1 x.2.2.2.2.1 x.2.2.2.2.2.1 x.2.2.2.2.2.2.1 (fun z0 z1 z2 z3=>kx 1 (mkSt X1_s_l01DrawOf (z0,z1,z2,z3,())))),
  .L 18 [(0,(.bx (.v tq1))),(1,(.v (.int .i64))),(4,(.bx (.v tq0))),(10,(.r (.int .i64))),(11,(.v (.int .i64))),(12,(.v (.int .i64))),(13,(.v (.int .i64)))] [] (fun k x kx kr=>s_l01DrawOf_l18 K k x.1 x.2.1 x.2.2.1 x.2.2.2.1 x.2.2.2.2.1 x.2.2.2.2.2.1 x.2.2.2.2.2.2.1 (fun z0 z1 z2 z3=>kx 3 (mkSt X3_s_l01DrawOf (z0,z1,z2,z3,())))),
  .J 19 [(0,(.bx (.v tq1))),(1,(.v (.int .i64))),(4,(.bx (.v tq0))),(10,(.r (.int .i64))),(11,(.v (.int .i64))),(12,(.v (.int .i64))),(13,(.v (.int .i64)))] [(0,(.bx (.v tq1))),(1,(.v (.int .i64))),(4,(.bx (.v tq0))),(10,(.r (.int .i64))),(11,(.v (.int .i64))),(12,(.v (.int .i64))),(13,(.v (.int .i64)))] 0 (fun k x kn kx kr=>s_l01DrawOf_j19 K k x.1 x.2.1 x.2.2.1 x.2.2.2.1 x.2.2.2.2.1 x.2.2.2.2.2.1 x.2.2.2.2.2.2.1 (fun z0 z1 z2 z3 z4 z5 z6=>kn (z0,z1,z2,z3,z4,z5,z6,()))),
  .J 33 [(0,(.bx (.v tq1))),(4,(.bx (.v tq0))),(5,(.bx (.v tq0)))] [] 0 (fun k x kn kx kr=>s_l01DrawOf_j33 K k x.1 x.2.1 x.2.2.1 (kn ()) (fun z0 z1=>kr (mkSt rv_s_l01DrawOf (z0,z1,()))))]
theorem ok_s_l01DrawOf (K:Nat):ShOk Tryz.prog 59 (sp_s_l01DrawOf (s_l01DrawOf K)) :=
  sh_okD tysOk [C_s_l01Next K,C_s_l01All K,C_s_l01Projection K,C_s_l01Rows K,C_s_l01Constant K,C_s_l01Weight K,C_s_l01Of K,C_s_l01Known K,C_s_l01Read K,C_s_l01Fix K,C_s_l01Dual K] 1 (D_s_l01DrawOf K) [(1,X1_s_l01DrawOf),(3,X3_s_l01DrawOf)] rv_s_l01DrawOf K Tryz.func59 (by kernel_rfl) ⟨⟨fun _ _ _ _=>by kernel_rfl,fun _ _ _=>rfl⟩,⟨⟨fun _ _ _ _=>by kernel_rfl,fun _ _ _=>rfl⟩,⟨fun _ _ _ _ _=>by kernel_rfl,⟨fun _ _ _ _ _=>by kernel_rfl,trivial⟩⟩⟩⟩ (fun _=>by kernel_rfl)
noncomputable def C_s_l01DrawOf (K:Nat):CB Tryz.prog:=.s _ _ (ok_s_l01DrawOf K)
noncomputable def ps_s_l01Bad:Lv:=[(0,(.bx (.v tq1))),(1,(.v tq0))]
noncomputable def rl_s_l01Bad:Lv:=[(0,(.v tq0))]
noncomputable def sp_s_l01Bad (F:(dq1 × dq0 × Unit)->Option ((dq0 × Unit) × (dq1 × Unit))):ShSpec:=⟨ps_s_l01Bad,rl_s_l01Bad,F⟩
noncomputable def s_l01Bad (K:Nat) (x:(dq1 × dq0 × Unit)):Option ((dq0 × Unit) × (dq1 × Unit)) :=
    (s_l01Next K (x.1,(50:Int),())).bind fun y1 =>
    (if (decide (y1.1.1=(0:Int)))=true then
    let l2:=[(-1:Int),(5:Int),(1099511627776:Int)]
    (s_l01Pick K (y1.2.1,l2,())).bind fun y3 =>
    let x4:=((y3.1.1,((0:Int),(0:Int),()).2.1,()).1,x.2.1.2.1,())
    some ((x4,()),(y3.2.1,()))
    else
    (if (decide (y1.1.1=(1:Int)))=true then
    (s_l01All K (x.2.1.1,())).bind fun y5 =>
    let l6:=[(-1:Int),(IntKind.i64.wrap (y5 + (1:Int))),(1099511627776:Int)]
    (s_l01Pick K (y1.2.1,l6,())).bind fun y7 =>
    let x8:=((x.2.1.1,((0:Int),(0:Int),()).2.1,()).1,y7.1.1,())
    some ((x8,()),(y7.2.1,()))
    else
    some ((x.2.1,()),(y1.2.1,()))))
noncomputable def rv_s_l01Bad:Lv:=[(0,(.bx (.v tq1))),(4,(.bx (.v tq0)))]
theorem ok_s_l01Bad (K:Nat):ShOk Tryz.prog 184 (sp_s_l01Bad (s_l01Bad K)) :=
  sh_okD tysOk [C_s_l01Next K,C_s_l01Pick K,C_s_l01All K] 1 [] [] rv_s_l01Bad K Tryz.func184 (by kernel_rfl) trivial (fun _=>by kernel_rfl)
noncomputable def C_s_l01Bad (K:Nat):CB Tryz.prog:=.s _ _ (ok_s_l01Bad K)
noncomputable def ps_s_l01Draw:Lv:=[(0,(.bx (.v tq1)))]
noncomputable def rl_s_l01Draw:Lv:=[(0,(.v tq0))]
noncomputable def sp_s_l01Draw (F:(dq1 × Unit)->Option ((dq0 × Unit) × (dq1 × Unit))):ShSpec:=⟨ps_s_l01Draw,rl_s_l01Draw,F⟩
noncomputable def s_l01Draw (K:Nat) (x:(dq1 × Unit)):Option ((dq0 × Unit) × (dq1 × Unit)) :=
    let l1:=[(0:Int),(1:Int),(1:Int),(2:Int),(2:Int),(2:Int),(3:Int),(3:Int),(3:Int),(4:Int),(4:Int)]
    (s_l01Pick K (x.1,l1,())).bind fun y2 =>
    (s_l01DrawOf K (y2.2.1,y2.1.1,())).bind fun y3 =>
    some ((y3.1.1,()),(y3.2.1,()))
noncomputable def rv_s_l01Draw:Lv:=[(0,(.bx (.v tq1))),(2,(.bx (.v tq0)))]
theorem ok_s_l01Draw (K:Nat):ShOk Tryz.prog 185 (sp_s_l01Draw (s_l01Draw K)) :=
  sh_okD tysOk [C_s_l01DrawOf K,C_s_l01Pick K] 1 [] [] rv_s_l01Draw K Tryz.func185 (by kernel_rfl) trivial (fun _=>by kernel_rfl)
noncomputable def C_s_l01Draw (K:Nat):CB Tryz.prog:=.s _ _ (ok_s_l01Draw K)
noncomputable def ps_s_l01Spoil:Lv:=[(0,(.bx (.v tq1)))]
noncomputable def rl_s_l01Spoil:Lv:=[(0,(.v tq0))]
noncomputable def sp_s_l01Spoil (F:(dq1 × Unit)->Option ((dq0 × Unit) × (dq1 × Unit))):ShSpec:=⟨ps_s_l01Spoil,rl_s_l01Spoil,F⟩
noncomputable def s_l01Spoil (K:Nat) (x:(dq1 × Unit)):Option ((dq0 × Unit) × (dq1 × Unit)) :=
    (s_l01Draw K (x.1,())).bind fun y1 =>
    (s_l01Bad K (y1.2.1,y1.1.1,())).bind fun y2 =>
    some ((y2.1.1,()),(y2.2.1,()))
noncomputable def rv_s_l01Spoil:Lv:=[(0,(.bx (.v tq1))),(2,(.bx (.v tq0)))]
theorem ok_s_l01Spoil (K:Nat):ShOk Tryz.prog 145 (sp_s_l01Spoil (s_l01Spoil K)) :=
  sh_okD tysOk [C_s_l01Bad K,C_s_l01Draw K] 1 [] [] rv_s_l01Spoil K Tryz.func145 (by kernel_rfl) trivial (fun _=>by kernel_rfl)
noncomputable def C_s_l01Spoil (K:Nat):CB Tryz.prog:=.s _ _ (ok_s_l01Spoil K)
noncomputable def ps_s_l02DrawIn:Lv:=[(0,(.bx (.v tq1)))]
noncomputable def rl_s_l02DrawIn:Lv:=[(0,(.v tq0))]
noncomputable def sp_s_l02DrawIn (F:(dq1 × Unit)->Option ((dq0 × Unit) × (dq1 × Unit))):ShSpec:=⟨ps_s_l02DrawIn,rl_s_l02DrawIn,F⟩
noncomputable def s_l02DrawIn_l13 {R:Type} (K:Nat):Nat->dq1->dq0->Int->Int->Int->Int->Int->Int->(dq1->dq0->Int->Int->Int->Int->Int->Option R)->Option R
  | 0,_,_,_,_,_,_,_,_,_=>none
  | k + 1,v0,v2,v3,v5,v6,v7,v8,v9,kx3 =>
    (if (decide (v9 < v3))=true then
    (if (decide ((0:Int)<=(IntKind.u64.wrap v9)))=true then
    let x8:=(bitI .and .i64 (shrI .i64 v7 (IntKind.u64.wrap v9)) (1:Int))
    (if (decide (x8=(1:Int)))=true then
    (if (decide ((0:Int)<=(IntKind.u64.wrap (IntKind.i64.wrap (v9 + (1:Int))))))=true then
    let x9:=(shrI .i64 v6 (IntKind.u64.wrap (IntKind.i64.wrap (v9 + (1:Int)))))
    s_l02DrawIn_l13 K k v0 v2 v3 v5 v6 v7 (IntKind.i64.wrap (v8 + x9)) (IntKind.i64.wrap (v9 + (1:Int))) kx3
    else
    none)
    else
    s_l02DrawIn_l13 K k v0 v2 v3 v5 v6 v7 v8 (IntKind.i64.wrap (v9 + (1:Int))) kx3)
    else
    none)
    else
    kx3 v0 v2 v3 v5 v6 v7 v8)
noncomputable def s_l02DrawIn_l9 {R:Type} (K:Nat):Nat->dq1->dq0->Int->Int->Int->Int->(dq1->dq0->Int->Int->Option R)->Option R
  | 0,_,_,_,_,_,_,_=>none
  | k + 1,v0,v2,v3,v5,v6,v7,kx1 =>
    (s_l01Rows K (v3,())).bind fun y7 =>
    (if (decide (v7 < y7))=true then
    s_l02DrawIn_l13 K k v0 v2 v3 v5 v6 v7 v6 (0:Int) (fun z10 z11 z12 z13 z14 z15 z16 =>
    (if (decide ((0:Int)<=(IntKind.u64.wrap z15)))=true then
    let x17:=(shlI .i64 (bitI .and .i64 z16 (1:Int)) (IntKind.u64.wrap z15))
    s_l02DrawIn_l9 K k z10 z11 z12 (bitI .or .i64 z13 x17) z14 (IntKind.i64.wrap (z15 + (1:Int))) kx1
    else
    none))
    else
    kx1 v0 v2 v3 v5)
noncomputable def s_l02DrawIn_l26 {R:Type} (K:Nat):Nat->dq1->dq0->Int->Int->Int->Int->Int->Int->(dq1->dq0->Int->Int->Int->Int->Int->Option R)->Option R
  | 0,_,_,_,_,_,_,_,_,_=>none
  | k + 1,v0,v2,v3,v10,v11,v12,v13,v14,kx7 =>
    (if (decide (v14 < v3))=true then
    (if (decide ((0:Int)<=(IntKind.u64.wrap v14)))=true then
    let x24:=(bitI .and .i64 (shrI .i64 v12 (IntKind.u64.wrap v14)) (1:Int))
    s_l02DrawIn_l26 K k v0 v2 v3 v10 v11 v12 (IntKind.i64.wrap (v13 + x24)) (IntKind.i64.wrap (v14 + (1:Int))) kx7
    else
    none)
    else
    kx7 v0 v2 v3 v10 v11 v12 v13)
noncomputable def s_l02DrawIn_l22 {R:Type} (K:Nat):Nat->dq1->dq0->Int->Int->Int->Int->(dq1->dq0->Int->Int->Option R)->Option R
  | 0,_,_,_,_,_,_,_=>none
  | k + 1,v0,v2,v3,v10,v11,v12,kx5 =>
    (s_l01Rows K (v3,())).bind fun y23 =>
    (if (decide (v12 < y23))=true then
    s_l02DrawIn_l26 K k v0 v2 v3 v10 v11 v12 (0:Int) (0:Int) (fun z25 z26 z27 z28 z29 z30 z31 =>
    (if (decide (z31 ≥ z29))=true then
    (if (decide ((0:Int)<=(IntKind.u64.wrap z30)))=true then
    let x32:=(bitI .or .i64 z28 (shlI .i64 (1:Int) (IntKind.u64.wrap z30)))
    s_l02DrawIn_l22 K k z25 z26 z27 x32 z29 (IntKind.i64.wrap (z30 + (1:Int))) kx5
    else
    none)
    else
    s_l02DrawIn_l22 K k z25 z26 z27 z28 z29 (IntKind.i64.wrap (z30 + (1:Int))) kx5))
    else
    kx5 v0 v2 v3 v10)
noncomputable def s_l02DrawIn_j36 {R:Type} (K:Nat) (k:Nat) (v0:dq1) (v2:dq0) (v3:Int) (v4:dq0) (v15:Int) (v16:Int) (kn:dq1->dq0->Int->dq0->Int->Int->Option R) :Option R :=
    kn v0 v2 v3 v4 v15 (IntKind.i64.wrap (v16 + (1:Int)))
noncomputable def s_l02DrawIn_l35 {R:Type} (K:Nat):Nat->dq1->dq0->Int->dq0->Int->Int->(dq1->dq0->Int->Int->Option R)->Option R
  | 0,_,_,_,_,_,_,_=>none
  | k + 1,v0,v2,v3,v4,v15,v16,kx9 =>
    (s_l01Rows K (v3,())).bind fun y37 =>
    (if (decide (v16 < y37))=true then
    (s_l01Rows K (v3,())).bind fun y38 =>
    let x39:=(IntKind.i64.wrap ((IntKind.i64.wrap (y38 - (1:Int))) - v16))
    (if (decide (v16 < x39))=true then
    (s_l01At K (v4,v16,())).bind fun y40 =>
    (if (decide (y40=(1:Int)))=true then
    (if (decide ((0:Int)<=(IntKind.u64.wrap v16)))=true then
    let x41:=(bitI .or .i64 v15 (shlI .i64 (1:Int) (IntKind.u64.wrap v16)))
    s_l02DrawIn_j36 K k v0 v2 v3 v4 x41 v16 (fun z42 z43 z44 z45 z46 z47 =>
    s_l02DrawIn_l35 K k z42 z43 z44 z45 z46 z47 kx9)
    else
    none)
    else
    (if (decide (v16 > x39))=true then
    (s_l01At K (v4,x39,())).bind fun y48 =>
    (if (decide (y48=(0:Int)))=true then
    (if (decide ((0:Int)<=(IntKind.u64.wrap v16)))=true then
    let x49:=(bitI .or .i64 v15 (shlI .i64 (1:Int) (IntKind.u64.wrap v16)))
    s_l02DrawIn_j36 K k v0 v2 v3 v4 x49 v16 (fun z50 z51 z52 z53 z54 z55 =>
    s_l02DrawIn_l35 K k z50 z51 z52 z53 z54 z55 kx9)
    else
    none)
    else
    s_l02DrawIn_j36 K k v0 v2 v3 v4 v15 v16 (fun z56 z57 z58 z59 z60 z61 =>
    s_l02DrawIn_l35 K k z56 z57 z58 z59 z60 z61 kx9))
    else
    s_l02DrawIn_j36 K k v0 v2 v3 v4 v15 v16 (fun z62 z63 z64 z65 z66 z67 =>
    s_l02DrawIn_l35 K k z62 z63 z64 z65 z66 z67 kx9)))
    else
    (if (decide (v16 > x39))=true then
    (s_l01At K (v4,x39,())).bind fun y68 =>
    (if (decide (y68=(0:Int)))=true then
    (if (decide ((0:Int)<=(IntKind.u64.wrap v16)))=true then
    let x69:=(bitI .or .i64 v15 (shlI .i64 (1:Int) (IntKind.u64.wrap v16)))
    s_l02DrawIn_j36 K k v0 v2 v3 v4 x69 v16 (fun z70 z71 z72 z73 z74 z75 =>
    s_l02DrawIn_l35 K k z70 z71 z72 z73 z74 z75 kx9)
    else
    none)
    else
    s_l02DrawIn_j36 K k v0 v2 v3 v4 v15 v16 (fun z76 z77 z78 z79 z80 z81 =>
    s_l02DrawIn_l35 K k z76 z77 z78 z79 z80 z81 kx9))
    else
    s_l02DrawIn_j36 K k v0 v2 v3 v4 v15 v16 (fun z82 z83 z84 z85 z86 z87 =>
    s_l02DrawIn_l35 K k z82 z83 z84 z85 z86 z87 kx9)))
    else
    kx9 v0 v2 v3 v15)
noncomputable def s_l02DrawIn (K:Nat) (x:(dq1 × Unit)):Option ((dq0 × Unit) × (dq1 × Unit)) :=
    let l1:=[(0:Int),(1:Int),(2:Int),(2:Int),(3:Int),(3:Int),(4:Int)]
    (s_l01Pick K (x.1,l1,())).bind fun y2 =>
    (s_l01DrawOf K (y2.2.1,y2.1.1,())).bind fun y3 =>
    (s_l01Next K (y3.2.1,(6:Int),())).bind fun y4 =>
    (if (decide (y4.1.1=(0:Int)))=true then
    (s_l01Spoil K (y4.2.1,())).bind fun y5 =>
    some ((y5.1.1,()),(y5.2.1,()))
    else
    (if (decide (y4.1.1=(1:Int)))=true then
    (s_l01Next K (y4.2.1,(32:Int),())).bind fun y6 =>
    s_l02DrawIn_l9 K K y6.2.1 ((0:Int),(0:Int),()) y2.1.1 (0:Int) y6.1.1 (0:Int) (fun z18 z19 z20 z21 =>
    some ((((z20,((0:Int),(0:Int),()).2.1,()).1,z21,()),()),(z18,())))
    else
    (if (decide (y4.1.1=(2:Int)))=true then
    (s_l01Next K (y4.2.1,(IntKind.i64.wrap (y2.1.1 + (2:Int))),())).bind fun y22 =>
    s_l02DrawIn_l22 K K y22.2.1 ((0:Int),(0:Int),()) y2.1.1 (0:Int) y22.1.1 (0:Int) (fun z33 z34 z35 z36 =>
    some ((((z35,((0:Int),(0:Int),()).2.1,()).1,z36,()),()),(z33,())))
    else
    (if (decide (y4.1.1=(3:Int)))=true then
    s_l02DrawIn_l35 K K y4.2.1 ((0:Int),(0:Int),()) y2.1.1 y3.1.1 (0:Int) (0:Int) (fun z88 z89 z90 z91 =>
    some ((((z90,((0:Int),(0:Int),()).2.1,()).1,z91,()),()),(z88,())))
    else
    some ((y3.1.1,()),(y4.2.1,()))))))
noncomputable def X1_s_l02DrawIn:Lv:=[(0,(.bx (.v tq1))),(2,(.bx (.v tq0))),(3,(.v (.int .i64))),(5,(.v (.int .i64)))]
noncomputable def X3_s_l02DrawIn:Lv:=[(0,(.bx (.v tq1))),(2,(.bx (.v tq0))),(3,(.v (.int .i64))),(5,(.v (.int .i64))),(6,(.v (.int .i64))),(7,(.v (.int .i64))),(8,(.v (.int .i64)))]
noncomputable def X5_s_l02DrawIn:Lv:=[(0,(.bx (.v tq1))),(2,(.bx (.v tq0))),(3,(.v (.int .i64))),(10,(.v (.int .i64)))]
noncomputable def X7_s_l02DrawIn:Lv:=[(0,(.bx (.v tq1))),(2,(.bx (.v tq0))),(3,(.v (.int .i64))),(10,(.v (.int .i64))),(11,(.v (.int .i64))),(12,(.v (.int .i64))),(13,(.v (.int .i64)))]
noncomputable def X9_s_l02DrawIn:Lv:=[(0,(.bx (.v tq1))),(2,(.bx (.v tq0))),(3,(.v (.int .i64))),(15,(.v (.int .i64)))]
noncomputable def rv_s_l02DrawIn:Lv:=[(0,(.bx (.v tq1))),(2,(.bx (.v tq0)))]
noncomputable def D_s_l02DrawIn (K:Nat):List (PD (den rl_s_l02DrawIn.ty × den (outL ps_s_l02DrawIn).ty)):=[.L 9 [(0,(.bx (.v tq1))),(2,(.bx (.v tq0))),(3,(.v (.int .i64))),(5,(.v (.int .i64))),(6,(.v (.int .i64))),(7,(.v (.int .i64)))] [] (fun k x kx kr=>s_l02DrawIn_l9 K k x.1 x.2.1 x.2.2.1 x.2.2.2.1 x.2.2.2.2.1 x.2.2.2.2.2.1 (fun z0 z1 z2 z3=>kx 1 (mkSt X1_s_l02DrawIn (z0,z1,z2,z3,())))),
  .L 13 [(0,(.bx (.v tq1))),(2,(.bx (.v tq0))),(3,(.v (.int .i64))),(5,(.v (.int .i64))),(6,(.v (.int .i64))),(7,(.v (.int .i64))),(8,(.v (.int .i64))),(9,(.v (.int .i64)))] [] (fun k x kx kr=>s_l02DrawIn_l13 K k x.1 x.2.1 x.2.2.1 x.2.2.2.1 x.2.2.2.2.1 x.2.2.2.2.2.1 x.2.2.2.2.2.2.1 x.2.2.2.2.2.2.2.1 (fun z0 z1 z2 z3 z4 z5 z6=>kx 3 (mkSt X3_s_l02DrawIn (z0,z1,z2,z3,z4,z5,z6,())))),
  .L 22 [(0,(.bx (.v tq1))),(2,(.bx (.v tq0))),(3,(.v (.int .i64))),(10,(.v (.int .i64))),(11,(.v (.int .i64))),(12,(.v (.int .i64)))] [] (fun k x kx kr=>s_l02DrawIn_l22 K k x.1 x.2.1 x.2.2.1 x.2.2.2.1 x.2.2.2.2.1 x.2.2.2.2.2.1 (fun z0 z1 z2 z3=>kx 5 (mkSt X5_s_l02DrawIn (z0,z1,z2,z3,())))),
  .L 26 [(0,(.bx (.v tq1))),(2,(.bx (.v tq0))),(3,(.v (.int .i64))),(10,(.v (.int .i64))),(11,(.v (.int .i64))),(12,(.v (.int .i64))),(13,(.v (.int .i64))),(14,(.v (.int .i64)))] [] (fun k x kx kr=>s_l02DrawIn_l26 K k x.1 x.2.1 x.2.2.1 x.2.2.2.1 x.2.2.2.2.1 x.2.2.2.2.2.1 x.2.2.2.2.2.2.1 x.2.2.2.2.2.2.2.1 (fun z0 z1 z2 z3 z4 z5 z6=>kx 7 (mkSt X7_s_l02DrawIn (z0,z1,z2,z3,z4,z5,z6,())))),
  .L 35 [(0,(.bx (.v tq1))),(2,(.bx (.v tq0))),(3,(.v (.int .i64))),(4,(.bx (.v tq0))),(15,(.v (.int .i64))),(16,(.v (.int .i64)))] [] (fun k x kx kr=>s_l02DrawIn_l35 K k x.1 x.2.1 x.2.2.1 x.2.2.2.1 x.2.2.2.2.1 x.2.2.2.2.2.1 (fun z0 z1 z2 z3=>kx 9 (mkSt X9_s_l02DrawIn (z0,z1,z2,z3,())))),
  .J 36 [(0,(.bx (.v tq1))),(2,(.bx (.v tq0))),(3,(.v (.int .i64))),(4,(.bx (.v tq0))),(15,(.v (.int .i64))),(16,(.v (.int .i64)))] [(0,(.bx (.v tq1))),(2,(.bx (.v tq0))),(3,(.v (.int .i64))),(4,(.bx (.v tq0))),(15,(.v (.int .i64))),(16,(.v (.int .i64)))] 0 (fun k x kn kx kr=>s_l02DrawIn_j36 K k x.1 x.2.1 x.2.2.1 x.2.2.2.1 x.2.2.2.2.1 x.2.2.2.2.2.1 (fun z0 z1 z2 z3 z4 z5=>kn (z0,z1,z2,z3,z4,z5,())))]
theorem ok_s_l02DrawIn (K:Nat):ShOk Tryz.prog 135 (sp_s_l02DrawIn (s_l02DrawIn K)) :=
  sh_okD tysOk [C_s_l01DrawOf K,C_s_l01Next K,C_s_l01Pick K,C_s_l01Rows K,C_s_l01At K,C_s_l01Spoil K] 1 (D_s_l02DrawIn K) [(1,X1_s_l02DrawIn),(3,X3_s_l02DrawIn),(5,X5_s_l02DrawIn),(7,X7_s_l02DrawIn),(9,X9_s_l02DrawIn)] rv_s_l02DrawIn K Tryz.func135 (by kernel_rfl) ⟨⟨fun _ _ _ _=>by kernel_rfl,fun _ _ _=>rfl⟩,⟨⟨fun _ _ _ _=>by kernel_rfl,fun _ _ _=>rfl⟩,⟨⟨fun _ _ _ _=>by kernel_rfl,fun _ _ _=>rfl⟩,⟨⟨fun _ _ _ _=>by kernel_rfl,fun _ _ _=>rfl⟩,⟨⟨fun _ _ _ _=>by kernel_rfl,fun _ _ _=>rfl⟩,⟨fun _ _ _ _ _=>by kernel_rfl,trivial⟩⟩⟩⟩⟩⟩ (fun _=>by kernel_rfl)
noncomputable def C_s_l02DrawIn (K:Nat):CB Tryz.prog:=.s _ _ (ok_s_l02DrawIn K)
end Go.Proofs.YtmlgfaojfmkdnaaGreatDoor.E
