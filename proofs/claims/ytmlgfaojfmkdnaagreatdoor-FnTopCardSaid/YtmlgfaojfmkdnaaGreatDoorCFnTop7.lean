/-
  What the Go functions that FnTop reaches hand back, each as a plain function with a proof that the call does so, and plain lemmas on them. Conditions: those of each theorem.
-/
import Derived.Test.YtmlgfaojfmkdnaaGreatDoorCFnTop6
namespace Go.Proofs.YtmlgfaojfmkdnaaGreatDoor.E
open Go Go.Proofs Go.Proofs.YtmlgfaojfmkdnaaGreatDoor Go.RowKit
set_option maxRecDepth 100000
set_option maxHeartbeats 8000000
set_option linter.unusedVariables false
/-- what generate leaves -/
def GenW (list:List DFg) (lv:Value) (n:Int) (D:List Int) (w0:World) (e:Ending) (w:World):Prop:=∃ p:GnP,e=.returned (.pointer (some ⟨p.G,0,none⟩))/\p.lv=lv/\p.n=n/\p.L<=p.c/\GnI p w D/\Below w0.heap.size w0 w
theorem rep_block {w w1:World} {t:TypeId} (h:Below (w.alloc (.cells #[.int .i64 (-1)] t)).heap.size (w.alloc (.cells #[.int .i64 (-1)] t)) w1):w1.heap[w.heap.size]?=some (.cells #[.int .i64 (-1)] t (0,0)):=by
  rw [h.block _ (by simp),alloc_get,if_pos rfl]
/-- the slots of the region that sets a projection's depth -/
def xl (p:GnP) (n i:Int) (y:DFg) (j:Nat):List (Nat × Value):=[(24,.pointer (some ⟨p.G,0,none⟩)),(25,.pointer (some ⟨p.G,0,none⟩)),(26,.pointer (some ⟨p.G,2,none⟩)),(27,.slice (some ⟨p.D,p.o,none⟩) p.L p.c),(28,.int .i64 n),(29,.int .i64 i),(30,.agg #[.int .i64 y.1,.int .i64 y.2.1]),(31,.int .i64 y.2.1),(32,.pointer (some ⟨p.D,p.o + j,none⟩))]
theorem xl_dst (p:GnP) (n i:Int) (y:DFg) (j:Nat):(xl p n i y j).map (·.1)=[24,25,26,27,28,29,30,31,32]:=rfl
theorem xl_nd (p:GnP) (n i:Int) (y:DFg) (j:Nat):((xl p n i y j).map (·.1)).Nodup:=by rw [xl_dst];decide
structure XW (p:GnP) (l:List Int) (j:Nat) (w0 W:World) (L:Nat->Bool) (w:World):Prop where
  nine:L 9=true->∀ k,k < 9->L k=true
  bel:L 9=false->Below W.heap.size W w
  fin:L 9=true->GnI p w (l.set j 0)/\Below w0.heap.size w0 w/\W.heap.size<=w.heap.size
def XJ (p:GnP) (n i:Int) (y:DFg) (j:Nat) (l:List Int) (w0 W:World) (a0:Act) (L:Nat->Bool) (a:Act) (w:World):Prop:=a=ov L 0 (xl p n i y j) a0/\XW p l j w0 W L w
theorem XJ.quiet {p:GnP} {n i:Int} {y:DFg} {j:Nat} {l:List Int} {w0 W:World} {a0:Act} {L:Nat->Bool} {w w':World} {k d:Nat} {x:Value} (hw:XW p l j w0 W L w) (hk:(xl p n i y j)[k]?=some (d,x)) (hL:L k=false) (h9:k < 9) (hb:Below w.heap.size w w') (hWw:W.heap.size<=w.heap.size) :
    XJ p n i y j l w0 W a0 (fun m=>m == k || L m) ((ov L 0 (xl p n i y j) a0).put (some d) x) w':=by
  have e9:(9 == k)=false:=by rw [beq_eq_false_iff_ne];omega
  have hf:L 9=false:=by
    cases hc:L 9
    · rfl
    · rw [hw.nine hc k h9] at hL;cases hL
  refine ⟨by rw [ov_put (xl p n i y j) 0 k a0 (xl_nd ..) hk (by rw [Nat.zero_add];exact hL),Nat.zero_add],?_⟩
  refine ⟨?_,?_,?_⟩
  all_goals simp only [e9,Bool.false_or,hf]
  · intro h;cases h
  · intro _;exact (hw.bel hf).trans (hb.mono hWw)
  · intro h;cases h
theorem gen_calls (K:Nat) (w:World) (list:List DFg) (lv:Value) (n:Int) (D:List Int) (hl:RX Tryz.prog (.sl tq0) false w (fun b=>b < w.heap.size) [lv] list) (h:genF K list n=some D):Calls Tryz.prog 36 #[lv,.int .i64 n] w (GenW list lv n D w):=by
  unfold genF at h
  split at h
  case isFalse=>cases h
  rename_i hb
  obtain ⟨hn0,hn1,hll⟩:=hb
  obtain ⟨q,hq,h⟩:=Option.bind_eq_some_iff.1 h
  obtain ⟨D0,hD0,h⟩:=Option.bind_eq_some_iff.1 h
  split at h
  case isTrue=>cases h
  rename_i hD0l
  obtain ⟨D1,hD1,h⟩:=Option.bind_eq_some_iff.1 h
  obtain ⟨la,lc,hlv,hlc,_⟩:=rx_cells hl
  have A0:Aside (RX Tryz.prog (.sl tq0) false w (fun b=>b < w.heap.size) [lv] list):=hl
  have A1:Aside (initF K n 1000 0 D0=some D1):=hD1
  have A2:Aside (loopF K list n K 1 D1=some D):=h
  have hfun:=fun w=>funcs_calls K w n q hq
  have hrep:=fun w b t hb=>rep_calls K w b t q D0 hb hD0l hD0
  have A3:Aside (D0.length ≠ 0):=hD0l
  clear hl hD1 h hq hD0 hD0l
  subst hlv
  go_enter Tryz.func36,Tryz.ntmps36
  go_wp2_with (first
    | (go_at_call 87;refine (hfun _).mono ?_;rintro e w1 ⟨rfl,hbe1⟩;have hbk:=rep_block hbe1)
    | (go_at_call 86;refine (hrep _ w.heap.size _ hbk).mono ?_;rintro e w2 ⟨_,rfl,b,o,c,tD,rfl,hlc2,hdep,hge,hbe2⟩)
    | go_in)
  obtain ⟨N,rfl⟩:=Int.eq_ofNat_of_zero_le hn0
  have hN:N < 1000:=by omega
  have hbw2:b < w2.heap.size:=by obtain ⟨arr,h1,_⟩:=hdep;exact (Array.getElem?_eq_some_iff.1 h1).1
  have hw01:Below w.heap.size w w1:=((Below.refl _ w).alloc (Nat.le_refl _) _).trans (hbe1.mono (by simp))
  have hw02:Below w.heap.size w w2:=hw01.trans (hbe2.mono hw01.size)
  have hb0:w.heap.size<=b:=Nat.le_trans hw01.size hge
  obtain ⟨p,hp⟩:∃ p:GnP,p=⟨.slice la list.length lc,(N:Int),1,w2.heap.size,w2.heap.size + 1,0,0,b,o,c,D0.length,tD⟩:=⟨_,rfl⟩
  have hpG:p.G=w2.heap.size:=by rw [hp]
  have hpg:p.gb=w2.heap.size + 1:=by rw [hp]
  have hpD:p.D=b:=by rw [hp]
  obtain ⟨W3,hW3⟩:∃ W3,W3=((w2.alloc (.cells #[.slice la list.length lc,.int .i64 N,.slice (some ⟨b,o,none⟩) D0.length c] 102)).alloc (.cells #[.pointer (some ⟨w2.heap.size,0,none⟩)] 63)):=⟨_,rfl⟩
  have hW3b:Below w2.heap.size w2 W3:=by rw [hW3];exact ((Below.refl _ _).alloc (Nat.le_refl _) _).alloc (by simp) _
  have hW3s:W3.heap.size=w2.heap.size + 1 + 1:=by rw [hW3];simp
  have hgi:GnI p W3 D0:=by
    rw [hp]
    refine ⟨?_,?_,?_⟩
    · show W3.heap[w2.heap.size]?=_
      rw [hW3,alloc_get,if_neg (by simp),alloc_get,if_pos rfl]
    · show W3.heap[w2.heap.size + 1]?=_
      rw [hW3,alloc_get,if_pos (by simp)]
    · obtain ⟨arr,h1,h2⟩:=hdep
      exact ⟨arr,by show W3.heap[b]?=_;rw [hW3b.block b hbw2];exact h1,h2⟩
  have hplc:p.L<=p.c:=by rw [hp];exact hlc2
  have A4:Aside (p.lv=.slice la list.length lc/\p.n=(N:Int)/\p.L=D0.length/\p.L<=p.c/\p.G < W3.heap.size/\p.gb < W3.heap.size/\p.D < p.G/\w.heap.size<=p.D/\p.G < p.gb):=⟨by rw [hp],by rw [hp],by rw [hp],hplc,by omega,by omega,by omega,by omega,by omega⟩
  have A5:Aside (GnI p W3 D0/\Below w.heap.size w W3):=⟨hgi,hw02.trans (hW3b.mono hw02.size)⟩
  have e1:Value.pointer (some ⟨w2.heap.size + 1,0,none⟩)=.pointer (some ⟨p.gb,0,none⟩):=by rw [hpg]
  rw [<-hW3,e1]
  clear hgi hW3b hW3s hp hdep hbe1 hbe2 hw01 hw02 hb0 hbk hge hbw2 hlc2 hrep hfun hpG hpg hpD hW3 e1
  go_loopw [21] (fun t21 wr=>∃ (i k:Nat) (l:List Int),i<=N/\t21=.int .i64 i/\initF K (N:Int) k (i:Int) l=some D1/\GnI p wr l/\Below w.heap.size w wr/\W3.heap.size<=wr.heap.size/\l.length=D0.length) (fun t21 _=>N - (intOf t21).toNat)
  case atStart=>exact ⟨0,1000,D0,Nat.zero_le _,rfl,A1,A5.1,A5.2,Nat.le_refl _,rfl⟩
  case round =>
    obtain ⟨i,k,l,hi,rfl,hin,hgi,hbel,hsz,hll2⟩:=hrel
    have A6:Aside (GnI p wr l/\Below w.heap.size w wr/\W3.heap.size<=wr.heap.size/\l.length=D0.length):=⟨hgi,hbel,hsz,hll2⟩
    by_cases hiN:i < N
    · have hx:∃ k' y j,k=k' + 1/\i_projection K ((N:Int),(i:Int),())=some y/\y.2.1=((j:Nat):Int)/\j < l.length/\initF K (N:Int) k' ((i:Int) + 1) (l.set j 0)=some D1:=by
        cases k with
        | zero=>cases hin
        | succ k' =>
          simp only [initF] at hin
          rw [if_pos (by omega)] at hin
          obtain ⟨y,hy,hin⟩:=Option.bind_eq_some_iff.1 hin
          split at hin
          case isFalse=>cases hin
          rename_i hb
          obtain ⟨j,hj⟩:=Int.eq_ofNat_of_zero_le hb.1
          rw [hj] at hin hb
          exact ⟨k',y,j,rfl,hy,hj,by omega,hin⟩
      obtain ⟨k',y,j,rfl,hy,hyj,hjl,hin'⟩:=hx
      have A7:Aside (i_projection K ((N:Int),(i:Int),())=some y/\y.2.1=((j:Nat):Int)/\initF K (N:Int) k' ((i:Int) + 1) (l.set j 0)=some D1):=⟨hy,hyj,hin'⟩
      clear hin hgi hbel hsz hll2 hy hyj hin'
      go_wp2
      have hA4:=A4
      obtain ⟨q1,q2,q3,q4,q5,q6,q7,q8,q9⟩:=(show p.lv=.slice la list.length lc/\p.n=(N:Int)/\p.L=D0.length/\p.L<=p.c/\p.G < W3.heap.size/\p.gb < W3.heap.size/\p.D < p.G/\w.heap.size<=p.D/\p.G < p.gb from A4)
      obtain ⟨hgi,hbel,hsz,hll2⟩:=(show GnI p wr l/\Below w.heap.size w wr/\W3.heap.size<=wr.heap.size/\l.length=D0.length from A6)
      obtain ⟨hy,hyj,hin'⟩:=(show i_projection K ((N:Int),(i:Int),())=some y/\y.2.1=((j:Nat):Int)/\initF K (N:Int) k' ((i:Int) + 1) (l.set j 0)=some D1 from A7)
      refine region_inv (XJ p (N:Int) (i:Int) y j l w wr) (by kernel_rfl) (by kernel_rfl) ⟨rfl,(fun h=>by cases h),fun _=>⟨rfl,rfl,rfl,Nat.le_refl _,fun _ _=>rfl⟩,(fun h=>by cases h)⟩ ?_ ?_
      · intro L a2 w3 m om ho hL hes hJ
        obtain ⟨rfl,hw⟩:=hJ
        have hm:m < 10:=(Array.getElem?_eq_some_iff.1 ho).1
        have hf:L 9=false:=by
          cases hc:L 9
          · rfl
          · have hm9:m=9\/m < 9:=by omega
            rcases hm9 with rfl | hm9
            · rw [hc] at hL;cases hL
            · rw [hw.nine hc m hm9] at hL;cases hL
        have hb3:=hw.bel hf
        have hg3:GnI p w3 l:=hgi.below hb3 (Nat.le_refl _)
        have hcs:m=0\/m=1\/m=2\/m=3\/m=4\/m=5\/m=6\/m=7\/m=8\/m=9:=by omega
        rcases hcs with rfl | rfl | rfl | rfl | rfl | rfl | rfl | rfl | rfl | rfl
        all_goals simp only [List.getElem?_toArray,List.getElem?_cons_succ,List.getElem?_cons_zero,Option.some.injEq] at ho
        all_goals subst ho
        · exact wpOp_mk rfl rfl (op_load (tysOk 63 (.ptr tq2) rfl) (ov_eval_out _ _ _ (by rw [xl_dst];decide)) hg3.hgb (show 1<=1 from Nat.le_refl 1) rfl (XJ.quiet hw rfl hL (by decide) (Below.refl _ _) hb3.size))
        · exact wpOp_mk rfl rfl (op_nil (ov_eval _ 0 0 _ (xl_nd ..) rfl (hes 0 (by decide)) (by simp)) (XJ.quiet hw rfl hL (by decide) (Below.refl _ _) hb3.size))
        · exact wpOp_mk rfl rfl (op_field tysOk (t:=102) (n:=2) rfl (by decide) (by decide) (ov_eval _ 0 1 _ (xl_nd ..) rfl (hes 1 (by decide)) (by simp)) (XJ.quiet hw rfl hL (by decide) (Below.refl _ _) hb3.size))
        · exact wpOp_mk rfl rfl (op_load (tysOk 36 (.sl (.int .i64)) rfl) (ov_eval _ 0 2 _ (xl_nd ..) rfl (hes 2 (by decide)) (by simp)) hg3.hG (show 3<=3 by decide) rfl (XJ.quiet hw rfl hL (by decide) (Below.refl _ _) hb3.size))
        · exact wpOp_mk rfl rfl (op_move (ov_eval_out _ _ _ (by rw [xl_dst];decide)) (XJ.quiet hw rfl hL (by decide) (Below.refl _ _) hb3.size))
        · exact wpOp_mk rfl rfl (op_move (ov_eval_out _ _ _ (by rw [xl_dst];decide)) (XJ.quiet hw rfl hL (by decide) (Below.refl _ _) hb3.size))
        · refine wpOp_mk rfl rfl (op_call (fi:=#[]) (ca:=#[]) rfl (args20 (ov_eval _ 0 4 _ (xl_nd ..) rfl (hes 4 (by decide)) (by simp)) (ov_eval _ 0 5 _ (xl_nd ..) rfl (hes 5 (by decide)) (by simp))) Tryz.func81 (by kernel_rfl) (c:=bodyOf Tryz.f81) (by kernel_rfl) (proj_calls K w3 (N:Int) (i:Int) y hy) ?_)
          rintro e w4 ⟨rfl,hb4⟩
          exact ⟨_,rfl,XJ.quiet hw rfl hL (by decide) hb4 hb3.size⟩
        · exact wpOp_mk rfl rfl (op_fieldv tysOk (t:=30) (i:=1) rfl (c:=[.int .i64 y.1,.int .i64 y.2.1]) (d:=[.int .i64 y.2.1]) (ov_eval _ 0 6 _ (xl_nd ..) rfl (hes 6 (by decide)) (by simp)) (by decide) rfl rfl (XJ.quiet hw rfl hL (by decide) (Below.refl _ _) hb3.size))
        · refine wpOp_mk rfl rfl (op_index tysOk (t:=36) rfl (ov_eval _ 0 3 _ (xl_nd ..) rfl (hes 3 (by decide)) (by simp)) (ov_eval _ 0 7 _ (xl_nd ..) rfl (hes 7 (by decide)) (by simp)) (by rw [hyj];omega) (by rw [hyj];omega) ?_)
          have e2:p.o + y.2.1.toNat * (Ty.int .i64).sz=p.o + j:=by
            have:(Ty.int .i64).sz=1:=rfl
            rw [this,hyj,Int.toNat_natCast];omega
          rw [e2]
          exact XJ.quiet hw rfl hL (by decide) (Below.refl _ _) hb3.size
        · refine wpOp_mk rfl rfl (op_store1 (tysOk 2 (.int .i64) rfl) (d:=0) (ov_eval _ 0 8 _ (xl_nd ..) rfl (hes 8 (by decide)) (by simp)) rfl hg3.hD (by omega) fun w4 hd4 hg4 hs4=>?_)
          refine ⟨ov_congr _ _ _ fun m _ h2=>?_,fun _ m hm=>?_,(fun h=>by cases h),fun _=>⟨⟨?_,?_,hd4⟩,?_,?_⟩⟩
          · have h2:m < 9:=by simpa [xl] using h2
            have:(m == 9)=false:=by rw [beq_eq_false_iff_ne];omega
            simp [this]
          · have h8 := hes m (by have : m = 0 ∨ m = 1 ∨ m = 2 ∨ m = 3 ∨ m = 4 ∨ m = 5 ∨ m = 6 ∨ m = 7 ∨ m = 8 := by omega
                                 rcases this with rfl | rfl | rfl | rfl | rfl | rfl | rfl | rfl | rfl <;> decide)
            rw [h8];simp
          · rw [hg4.block _ (hg3.lt _ (by simp)) (by simp;omega)];exact hg3.hG
          · rw [hg4.block _ (hg3.lt _ (by simp)) (by simp;omega)];exact hg3.hgb
          · exact (hbel.trans (hb3.mono hbel.size)).grown hg4 (Nat.le_trans hbel.size hb3.size) (fun k hk=>by injection hk with hk;omega)
          · rw [hs4];exact hb3.size
      · intro L a2 w3 hall hJ
        obtain ⟨rfl,hw⟩:=hJ
        rw [ov_congr (M:=fun _=>true) (xl p (N:Int) (i:Int) y j) 0 _ (fun m _ h2=>hall m (Nat.lt_trans (show m < 9 by simpa [xl] using h2) (by decide)))]
        obtain ⟨hg3,hb3,hs3⟩:=hw.fin (hall 9 (by decide))
        have A8:Aside (GnI p w3 (l.set j 0)/\Below w.heap.size w w3/\W3.heap.size<=w3.heap.size):=⟨hg3,hb3,Nat.le_trans hsz hs3⟩
        clear hg3 hb3 hs3 hw hgi hbel hsz hy hyj hin' hall
        simp only [ov,xl,pif,cond_true,Act.put,List.setIfInBounds_toArray,List.set_cons_succ,List.set_cons_zero]
        go_wp2
        go_roundw
        case rel=>exact ⟨i + 1,k',l.set j 0,by omega,rfl,A7.2.2,A8.1,A8.2.1,A8.2.2,by simpa using hll2⟩
        case measure=>simp [intOf];omega
    · have hiN:i=N:=by omega
      subst hiN
      have hlD:l=D1:=by
        cases k with
        | zero=>cases hin
        | succ k' =>
          simp only [initF] at hin
          rw [if_neg (by omega)] at hin
          injection hin
      subst hlD
      clear hin hgi hbel hsz hll2 hiN
      go_wp2
      go_loopg [7] K (fun k t7 wx=>∃ (db:Nat) (depth:Int) (Dk:List Int),t7=.pointer (some ⟨db,0,none⟩)/\loopF K list (i:Int) k depth Dk=some D/\wx.heap[db]?=some (.cells #[.int .i64 depth] 2 (0,0))/\GnI p wx Dk/\Below w.heap.size w wx/\W3.heap.size<=wx.heap.size/\W3.heap.size<=db)
      case atStart =>
        have hb6:Below wr.heap.size wr (wr.alloc (.cells #[.int .i64 1] 2)):=(Below.refl _ _).alloc (Nat.le_refl _) _
        exact ⟨wr.heap.size,1,l,rfl,A2,by rw [alloc_get,if_pos rfl],GnI.below A6.1 hb6 (Nat.le_refl _),(show Below w.heap.size w wr from A6.2.1).trans (hb6.mono A6.2.1.size),Nat.le_trans A6.2.2.1 hb6.size,A6.2.2.1⟩
      case round =>
        obtain ⟨db,depth,Dk,rfl,hlp,hdb,hgx,hbx,hsx,hdbs⟩:=hrel
        generalize wr=wo at *
        have hx:∃ k' known s1,gk=k' + 1/\(0<=depth/\depth < 1000000)/\i_generated_known K ((list,(i:Int),Dk,()),depth,())=some known/\roundF K list (i:Int) known depth list (Dk,false)=some s1/\(if s1.2=true then loopF K list (i:Int) k' (depth + 1) s1.1 else some s1.1)=some D:=by
          cases gk with
          | zero=>cases hlp
          | succ k' =>
            simp only [loopF] at hlp
            split at hlp
            case isFalse=>cases hlp
            rename_i hb
            obtain ⟨known,hkn,hlp⟩:=Option.bind_eq_some_iff.1 hlp
            obtain ⟨s1,hs1,hlp⟩:=Option.bind_eq_some_iff.1 hlp
            exact ⟨k',known,s1,rfl,⟨hb.1,hb.2.1⟩,hkn,hs1,hlp⟩
        obtain ⟨k',known,s1,rfl,⟨hd0,hd1⟩,hkn,hs1,hlp'⟩:=hx
        obtain ⟨q1,q2,q3,q4,q5,q6,q7,q8,q9⟩:=(show p.lv=.slice la list.length lc/\p.n=(i:Int)/\p.L=D0.length/\p.L<=p.c/\p.G < W3.heap.size/\p.gb < W3.heap.size/\p.D < p.G/\w.heap.size<=p.D/\p.G < p.gb from A4)
        have hl0:RX Tryz.prog (.sl tq0) false wo (fun b=>b < w.heap.size) [p.lv] list:=by
          rw [q1]
          exact RX_congr _ (.sl tq0) false hbx.size (fun b h1 h2=>⟨h1,hbx.block b h2⟩) (fun b h1=>Nat.lt_of_lt_of_le h1 hbx.size) (show RX Tryz.prog (.sl tq0) false w (fun b=>b < w.heap.size) [.slice la list.length lc] list from A0)
        have hknc:=known_calls K p q4 hgx hl0 (fun b hb=>Nat.lt_of_lt_of_le hb hbx.size) depth (by rw [q2];exact hkn)
        have c5:wo.cell? ⟨p.gb,0,none⟩=some (.pointer (some ⟨p.G,0,none⟩)):=by simp [World.cell?,hgx.hgb]
        have c7:wo.cell? ⟨db,0,none⟩=some (.int .i64 depth):=by simp [World.cell?,hdb]
        have hdbl:db < wo.heap.size:=(Array.getElem?_eq_some_iff.1 hdb).1
        have A8:Aside (wo.heap[db]?=some (.cells #[.int .i64 depth] 2 (0,0))/\GnI p wo Dk/\Below w.heap.size w wo/\W3.heap.size<=wo.heap.size/\W3.heap.size<=db/\db < wo.heap.size):=⟨hdb,hgx,hbx,hsx,hdbs,hdbl⟩
        have A9:Aside (roundF K list (i:Int) known depth list (Dk,false)=some s1/\(if s1.2=true then loopF K list (i:Int) k' (depth + 1) s1.1 else some s1.1)=some D):=⟨hs1,hlp'⟩
        have A10:Aside (RX Tryz.prog (.sl tq0) false wo (fun b=>b < w.heap.size) [p.lv] list):=hl0
        clear hlp hdb hgx hbx hsx hkn hs1 hlp' hl0 q1 q2 q3 q5 q6 q7 q8 q9 hdbl hdbs
        go_wp2_with (first
          | (go_at_call 88;refine hknc.mono ?_;rintro e W4 ⟨kv,rfl,hkw⟩)
          | go_in)
        obtain ⟨hkr,hkb⟩:=hkw
        obtain ⟨hdb,hgx,hbx,hsx,hdbs,hdbl⟩:=(show wo.heap[db]?=some (.cells #[.int .i64 depth] 2 (0,0))/\GnI p wo Dk/\Below w.heap.size w wo/\W3.heap.size<=wo.heap.size/\W3.heap.size<=db/\db < wo.heap.size from A8)
        obtain ⟨q1,q2,q3,q4,q5,q6,q7,q8,q9⟩:=(show p.lv=.slice la list.length lc/\p.n=(i:Int)/\p.L=D0.length/\p.L<=p.c/\p.G < W3.heap.size/\p.gb < W3.heap.size/\p.D < p.G/\w.heap.size<=p.D/\p.G < p.gb from A4)
        obtain ⟨pp,hpp⟩:∃ pp:GnP,pp={ p with depth:=depth,db:=db,ab:=W4.heap.size }:=⟨_,rfl⟩
        have e1:pp.lv=p.lv/\pp.n=p.n/\pp.depth=depth/\pp.G=p.G/\pp.gb=p.gb/\pp.db=db/\pp.ab=W4.heap.size/\pp.D=p.D/\pp.o=p.o/\pp.c=p.c/\pp.L=p.L/\pp.tD=p.tD:=by rw [hpp];simp
        obtain ⟨r1,r2,r3,r4,r5,r6,r7,r8,r9,r10,r11,r12⟩:=e1
        have hW4:wo.heap.size<=W4.heap.size:=hkb.size
        have hok:pp.Ok:=⟨by rw [r10,r11];exact q4,by rw [r4,r8];omega,by rw [r4,r7];omega,by rw [r5,r8];omega,by rw [r5,r7];omega,by rw [r6,r8];omega,by rw [r6,r7];omega,by rw [r8,r7];omega⟩
        have hb5:Below W4.heap.size W4 (W4.alloc (.cells #[.bool false] 4)):=(Below.refl _ _).alloc (Nat.le_refl _) _
        have hg4:GnI p W4 Dk:=hgx.below hkb (Nat.le_refl _)
        have hg5:GnI p (W4.alloc (.cells #[.bool false] 4)) Dk:=hg4.below hb5 (Nat.le_refl _)
        have hgw:GnW pp (W4.alloc (.cells #[.bool false] 4)) (Dk,false):=by
          refine ⟨by rw [r4,r1,r2,r8,r9,r10,r11];exact hg5.hG,by rw [r4,r5];exact hg5.hgb,?_,?_,by rw [r8,r9,r11,r12];exact hg5.hD⟩
          · rw [r6,r3,hb5.block _ (by omega),hkb.block _ hdbl];exact hdb
          · rw [r7,alloc_get,if_pos rfl]
        have hk5:RX Tryz.prog (.sl tq0) false (W4.alloc (.cells #[.bool false] 4)) (fun b=>wo.heap.size<=b/\b < W4.heap.size) [kv] known:=RX_congr _ (.sl tq0) false hb5.size (fun b h1 h2=>⟨h1,hb5.block b h2⟩) (fun b h1=>Nat.lt_of_lt_of_le h1.2 hb5.size) hkr
        have hbw:Below w.heap.size w (W4.alloc (.cells #[.bool false] 4)):=(hbx.trans (hkb.mono hbx.size)).trans (hb5.mono (Nat.le_trans hbx.size hkb.size))
        have A11:Aside (GnW pp (W4.alloc (.cells #[.bool false] 4)) (Dk,false)/\Below w.heap.size w (W4.alloc (.cells #[.bool false] 4))/\RX Tryz.prog (.sl tq0) false (W4.alloc (.cells #[.bool false] 4)) (fun b=>wo.heap.size<=b/\b < W4.heap.size) [kv] known):=⟨hgw,hbw,hk5⟩
        have A12:Aside (pp.Ok/\wo.heap.size<=W4.heap.size):=⟨hok,hW4⟩
        have A13:Aside (pp.lv=p.lv/\pp.n=p.n/\pp.depth=depth/\pp.G=p.G/\pp.gb=p.gb/\pp.db=db/\pp.ab=W4.heap.size/\pp.D=p.D/\pp.o=p.o/\pp.c=p.c/\pp.L=p.L/\pp.tD=p.tD):=⟨r1,r2,r3,r4,r5,r6,r7,r8,r9,r10,r11,r12⟩
        clear hkr hkb hdb hgx hbx hsx hdbs hdbl q1 q2 q3 q5 q6 q7 q8 q9 hpp r1 r2 r3 r4 r5 r6 r7 r8 r9 r10 r11 r12 hW4 hok hb5 hg4 hg5 hgw hk5 hbw c5 c7 hknc
        have hrd:roundF K list (i:Int) known depth list (Dk,false)=some s1:=A9.1
        go_loopw [41] (fun t41 wq=>∃ (j:Nat) (s:GSt),j<=list.length/\t41=.int .i64 j/\foldF (fun s f=>stepsF K list (i:Int) f known depth 100 [] s) (list.drop j) s=some s1/\GnW pp wq s/\Below w.heap.size w wq/\W4.heap.size + 1<=wq.heap.size/\RX Tryz.prog (.sl tq0) false wq (fun b=>wo.heap.size<=b/\b < W4.heap.size) [kv] known) (fun t41 _=>list.length - (intOf t41).toNat)
        case atStart=>exact ⟨0,(Dk,false),Nat.zero_le _,rfl,hrd,A11.1,A11.2.1,by simp,A11.2.2⟩
        case round =>
          obtain ⟨j,s,hj,rfl,hfo,hgw,hbw,hsw,hkw⟩:=hrel
          clear hrd
          by_cases hjl:j=list.length
          · subst hjl
            have hss:s=s1:=by
              rw [List.drop_length] at hfo
              injection hfo
            subst hss
            obtain ⟨r1,r2,r3,r4,r5,r6,r7,r8,r9,r10,r11,r12⟩:=(show pp.lv=p.lv/\pp.n=p.n/\pp.depth=depth/\pp.G=p.G/\pp.gb=p.gb/\pp.db=db/\pp.ab=W4.heap.size/\pp.D=p.D/\pp.o=p.o/\pp.c=p.c/\pp.L=p.L/\pp.tD=p.tD from A13)
            have c5:=(gn_cells hgw).1
            have c7:=(gn_cells hgw).2.2.2.1
            have c9:=(gn_cells hgw).2.2.2.2
            rw [r4,r5] at c5
            rw [r6,r3] at c7
            rw [r7] at c9
            have hgi:GnI p wr s.1:=by
              have:=hgw.gi
              exact ⟨by rw [<-r4,<-r1,<-r2,<-r8,<-r9,<-r10,<-r11];exact this.hG,by rw [<-r4,<-r5];exact this.hgb,by rw [<-r8,<-r9,<-r11,<-r12];exact this.hD⟩
            have A14:Aside (GnI p wr s.1/\Below w.heap.size w wr/\W4.heap.size + 1<=wr.heap.size):=⟨hgi,hbw,hsw⟩
            have hA9:(if s.2=true then loopF K list (i:Int) k' (depth + 1) s.1 else some s.1)=some D:=A9.2
            cases hs2:s.2
            · rw [hs2] at c9
              have A15:Aside (s.1=D):=by
                rw [if_neg (by rw [hs2];decide)] at hA9
                injection hA9
              clear hfo hgw hbw hsw hkw hgi hA9 hs2 r1 r2 r3 r4 r5 r6 r7 r8 r9 r10 r11 r12 A9
              go_wp2
              go_ret
              obtain ⟨q1,q2,q3,q4,q5,q6,q7,q8,q9⟩:=(show p.lv=.slice la list.length lc/\p.n=(i:Int)/\p.L=D0.length/\p.L<=p.c/\p.G < W3.heap.size/\p.gb < W3.heap.size/\p.D < p.G/\w.heap.size<=p.D/\p.G < p.gb from A4)
              have hz:s.1=D:=A15
              rw [<-hz]
              exact ⟨p,rfl,q1,q2,q4,A14.1,A14.2.1⟩
            · rw [hs2] at c9
              have A15:Aside (loopF K list (i:Int) k' (depth + 1) s.1=some D):=by
                rw [if_pos hs2] at hA9;exact hA9
              clear hfo hgw hbw hsw hkw hgi hA9 hs2 r1 r2 r3 r4 r5 r6 r7 r8 r9 r10 r11 r12 A9
              go_wp2
              go_roundg k'
              case measure=>omega
              case rel =>
                have hb7:Below wr.heap.size wr (wr.alloc (.cells #[.int .i64 (depth + 1)] 2)):=(Below.refl _ _).alloc (Nat.le_refl _) _
                have hb8:Below w.heap.size w wr:=A14.2.1
                have hW4:wo.heap.size<=W4.heap.size:=A12.2
                have hwW3:W3.heap.size<=wo.heap.size:=A8.2.2.2.1
                have hsw:W4.heap.size + 1<=wr.heap.size:=A14.2.2
                exact ⟨wr.heap.size,depth + 1,s.1,rfl,A15,by rw [alloc_get,if_pos rfl],GnI.below A14.1 hb7 (Nat.le_refl _),hb8.trans (hb7.mono hb8.size),by have:=hb7.size;omega,by omega⟩
          · have hjl:j < list.length:=by omega
            obtain ⟨f,hf⟩:∃ f,list[j]?=some f:=⟨_,List.getElem?_eq_getElem hjl⟩
            have hdrop:list.drop j=f :: list.drop (j + 1):=by
              rw [List.drop_eq_getElem_cons hjl]
              rw [List.getElem?_eq_getElem hjl] at hf
              injection hf with hf;rw [hf]
            rw [hdrop] at hfo
            obtain ⟨s2,hs2,hfo2⟩:=Option.bind_eq_some_iff.1 (show (stepsF K list (i:Int) f known depth 100 [] s).bind (fun s=>foldF (fun s f=>stepsF K list (i:Int) f known depth 100 [] s) (list.drop (j + 1)) s)=some s1 from hfo)
            obtain ⟨r1,r2,r3,r4,r5,r6,r7,r8,r9,r10,r11,r12⟩:=(show pp.lv=p.lv/\pp.n=p.n/\pp.depth=depth/\pp.G=p.G/\pp.gb=p.gb/\pp.db=db/\pp.ab=W4.heap.size/\pp.D=p.D/\pp.o=p.o/\pp.c=p.c/\pp.L=p.L/\pp.tD=p.tD from A13)
            obtain ⟨q1,q2,q3,q4,q5,q6,q7,q8,q9⟩:=(show p.lv=.slice la list.length lc/\p.n=(i:Int)/\p.L=D0.length/\p.L<=p.c/\p.G < W3.heap.size/\p.gb < W3.heap.size/\p.D < p.G/\w.heap.size<=p.D/\p.G < p.gb from A4)
            -- the list, in this world
            have hlw:RX Tryz.prog (.sl tq0) false wr (fun b=>b < w.heap.size) [.slice la list.length lc] list:=RX_congr _ (.sl tq0) false hbw.size (fun b h1 h2=>⟨h1,hbw.block b h2⟩) (fun b h1=>Nat.lt_of_lt_of_le h1 hbw.size) (show RX Tryz.prog (.sl tq0) false w (fun b=>b < w.heap.size) [.slice la list.length lc] list from A0)
            obtain ⟨a',c',e5,_,hcs⟩:=rx_cells hlw
            injection e5 with e5 _ e6
            subst e5
            subst e6
            rcases hcs with hcs | ⟨lb,lo,rfl,hSl,hcs⟩
            · rw [hcs] at hjl;simp at hjl
            obtain ⟨d0,d1⟩:=hcs j f hf
            have hb6:Below wr.heap.size wr (wr.alloc (.cells #[.int .i64 f.1,.int .i64 f.2.1] 30)):=(Below.refl _ _).alloc (Nat.le_refl _) _
            have hok:pp.Ok:=A12.1
            have hW4:wo.heap.size<=W4.heap.size:=A12.2
            have hg6:GnW pp (wr.alloc (.cells #[.int .i64 f.1,.int .i64 f.2.1] 30)) s:=hgw.below hb6 (Nat.le_refl _)
            have hwW3:W3.heap.size<=wo.heap.size:=A8.2.2.2.1
            have hdbl:db < wo.heap.size:=A8.2.2.2.2.2
            have hdbs:W3.heap.size<=db:=A8.2.2.2.2.1
            have hwW:w.heap.size<=W3.heap.size:=by omega
            have hl6:RX Tryz.prog (.sl tq0) false (wr.alloc (.cells #[.int .i64 f.1,.int .i64 f.2.1] 30)) (pp.S (wr.alloc (.cells #[.int .i64 f.1,.int .i64 f.2.1] 30)).heap.size) [pp.lv] list:=by
              rw [r1,q1]
              refine RX_congr _ (.sl tq0) false hb6.size (fun b h1 h2=>⟨⟨?_,?_,?_⟩,hb6.block b h2⟩) (fun b h1=>h1.1) hlw
              · have:=hb6.size;omega
              · rw [r8];omega
              · rw [r7];omega
            have hk6:RX Tryz.prog (.sl tq0) false (wr.alloc (.cells #[.int .i64 f.1,.int .i64 f.2.1] 30)) (pp.S (wr.alloc (.cells #[.int .i64 f.1,.int .i64 f.2.1] 30)).heap.size) [kv] known:=by
              refine RX_congr _ (.sl tq0) false hb6.size (fun b h1 h2=>⟨⟨?_,?_,?_⟩,hb6.block b h2⟩) (fun b h1=>h1.1) hkw
              · have:=hb6.size;omega
              · rw [r8];omega
              · rw [r7];omega
            have c5:=(gn_cells hg6).1
            have c7:=(gn_cells hg6).2.2.2.1
            rw [r4,r5] at c5
            rw [r6,r3] at c7
            have hst:Calls Tryz.prog 89 #[.pointer (some ⟨p.G,0,none⟩),.agg #[.int .i64 f.1,.int .i64 f.2.1],kv,.slice none 0 0,.int .i64 depth,.func (.func 90) #[] #[.pointer (some ⟨p.gb,0,none⟩),.pointer (some ⟨db,0,none⟩),.pointer (some ⟨W4.heap.size,0,none⟩)]] (wr.alloc (.cells #[.int .i64 f.1,.int .i64 f.2.1] 30)) (StepsW pp (wr.alloc (.cells #[.int .i64 f.1,.int .i64 f.2.1] 30)).heap.size [] (.slice none 0 0) s2 (wr.alloc (.cells #[.int .i64 f.1,.int .i64 f.2.1] 30))):=by
              have:=steps_ok K pp hok list f known kv (wr.alloc (.cells #[.int .i64 f.1,.int .i64 f.2.1] 30)).heap.size (fun b hb=>Nat.lt_of_lt_of_le (hgw.lt b hb) hb6.size) 100 [] (.slice none 0 0) _ s s2 hg6 hl6 hk6 (World.ownsRow_nil _ _ _ _) (Nat.le_refl _) (by rw [r2,q2,r3];exact hs2)
              unfold stepArgs at this
              rw [r3,r4,r5,r6,r7] at this
              exact this
            have A14:Aside (foldF (fun s f=>stepsF K list (i:Int) f known depth 100 [] s) (list.drop (j + 1)) s2=some s1):=hfo2
            have A15:Aside (Below w.heap.size w wr/\W4.heap.size + 1<=wr.heap.size/\RX Tryz.prog (.sl tq0) false wr (fun b=>wo.heap.size<=b/\b < W4.heap.size) [kv] known):=⟨hbw,hsw,hkw⟩
            clear hs2 hfo2 hfo hdrop hf hlw hcs hSl hg6 hl6 hk6 hgw hbw hsw hkw hb6 hok hW4 hwW3 hdbl hdbs hwW r1 r2 r3 r4 r5 r6 r7 r8 r9 r10 r11 r12 q1 q2 q3 q4 q5 q6 q7 q8 q9
            go_wp2_with (first
              | (go_at_call 89;refine hst.mono ?_;rintro e w9 ⟨rfl,hg9,_,hf9⟩)
              | go_in)
            obtain ⟨hbw,hsw,hkw⟩:=(show Below w.heap.size w wr/\W4.heap.size + 1<=wr.heap.size/\RX Tryz.prog (.sl tq0) false wr (fun b=>wo.heap.size<=b/\b < W4.heap.size) [kv] known from A15)
            have hb6:Below wr.heap.size wr (wr.alloc (.cells #[.int .i64 f.1,.int .i64 f.2.1] 30)):=(Below.refl _ _).alloc (Nat.le_refl _) _
            obtain ⟨r1,r2,r3,r4,r5,r6,r7,r8,r9,r10,r11,r12⟩:=(show pp.lv=p.lv/\pp.n=p.n/\pp.depth=depth/\pp.G=p.G/\pp.gb=p.gb/\pp.db=db/\pp.ab=W4.heap.size/\pp.D=p.D/\pp.o=p.o/\pp.c=p.c/\pp.L=p.L/\pp.tD=p.tD from A13)
            obtain ⟨q1,q2,q3,q4,q5,q6,q7,q8,q9⟩:=(show p.lv=.slice (some ⟨lb,lo,none⟩) list.length lc/\p.n=(i:Int)/\p.L=D0.length/\p.L<=p.c/\p.G < W3.heap.size/\p.gb < W3.heap.size/\p.D < p.G/\w.heap.size<=p.D/\p.G < p.gb from A4)
            have hwW3:W3.heap.size<=wo.heap.size:=A8.2.2.2.1
            have hW4:wo.heap.size<=W4.heap.size:=A12.2
            have hb9:Below w.heap.size w w9:=by
              refine (hbw.trans (hb6.mono hbw.size)).trans ⟨hf9.os,hf9.tape,hf9.output,hf9.size,fun k hk=>hf9.block k ?_ ?_ ?_ (by simp [Value.ownBlock])⟩
              · have:=hbw.size;have:=hb6.size;omega
              · rw [r8];omega
              · rw [r7];omega
            have hk9:RX Tryz.prog (.sl tq0) false w9 (fun b=>wo.heap.size<=b/\b < W4.heap.size) [kv] known:=by
              refine RX_congr _ (.sl tq0) false (Nat.le_trans hb6.size hf9.size) (fun b h1 h2=>⟨h1,?_⟩) (fun b h1=>?_) hkw
              · rw [hf9.block b (by have:=hb6.size;omega) (by rw [r8];omega) (by rw [r7];omega) (by simp [Value.ownBlock]),hb6.block b h2]
              · have:=hb6.size;have:=hf9.size;omega
            have hs9:W4.heap.size + 1<=w9.heap.size:=by have:=hb6.size;have:=hf9.size;omega
            have A16:Aside (GnW pp w9 s2/\Below w.heap.size w w9/\W4.heap.size + 1<=w9.heap.size/\RX Tryz.prog (.sl tq0) false w9 (fun b=>wo.heap.size<=b/\b < W4.heap.size) [kv] known):=⟨hg9,hb9,hs9,hk9⟩
            go_roundw
            case rel=>exact ⟨j + 1,s2,by omega,by simp,A14,A16.1,A16.2.1,A16.2.2.1,A16.2.2.2⟩
            case measure=>simp [intOf];omega
/-! GeneratedBy -/
theorem code_calls (K:Nat) (w:World) (b:Nat) (t:TypeId) (lv:Value) (list:List DFg) (n c:Int) {S:Nat->Prop} (hb:w.heap[b]?=some (.cells #[lv] t (0,0))) (hl:RX Tryz.prog (.sl tq0) false w S [lv] list) (hy:i_generationCode K (n,[list],())=some c) :
    Calls Tryz.prog 35 #[.int .i64 n,.slice (some ⟨b,0,none⟩) 1 1] w fun e w'=>e=.returned (.int .i64 c)/\Below w.heap.size w w':=by
  refine (gcalls (ok_i_generationCode K) rfl Tryz.func35 (by kernel_rfl) (c:=bodyOf Tryz.f35) (by kernel_rfl) w [.int .i64 n,.slice (some ⟨b,0,none⟩) 1 1] (n,[list],()) c ?_ hy).mono ?_
  · refine ⟨[.int .i64 n],[.slice (some ⟨b,0,none⟩) 1 1],rfl,rfl,[.slice (some ⟨b,0,none⟩) 1 1],[],rfl,?_,rfl⟩
    refine ⟨some ⟨b,0,none⟩,1,1,rfl,rfl,Nat.le_refl _,.inr ⟨b,0,_,t,(0,0),rfl,(Array.getElem?_eq_some_iff.1 hb).1,hb,Nat.le_refl _,fun i y hy=>?_⟩⟩
    cases i with
    | zero =>
      have:y=list:=by simpa using hy.symm
      subst this
      exact RX_congr _ (.sl tq0) false (Nat.le_refl _) (fun b h1 h2=>⟨h2,rfl⟩) (fun _ h=>h) hl
    | succ i=>simp at hy
  · rintro e w' ⟨v,rfl,bs,⟨cs,h0,h1,h2⟩,h3,h4,h5⟩
    have h1:cs=[.int .i64 c]:=h1
    subst h1
    cases h0
    exact ⟨rfl,h5⟩
noncomputable abbrev gbT:Ty:=.tup (.pair (.sl tq0) (.pair (.int .i64) .unit))
def GbW (y:List DFg × Int × Unit) (w:World) (e:Ending) (w':World):Prop:=∃ v,e=.returned v/\Ret gbT y w v w'
theorem gb_calls (K:Nat) (w:World) (list:List DFg) (lv:Value) (n:Int) (y:List DFg × Int × Unit) (hl:RX Tryz.prog (.sl tq0) false w (fun b=>b < w.heap.size) [lv] list) (hy:genByF K (list,n,())=some y):Calls Tryz.prog 9 #[lv,.int .i64 n] w (GbW y w):=by
  unfold genByF at hy
  obtain ⟨c,hc,hy⟩:=Option.bind_eq_some_iff.1 hy
  obtain ⟨la,lc,hlv,hlc,_⟩:=rx_cells hl
  subst hlv
  have hb1:∀ t,Below w.heap.size w (w.alloc (.cells #[.slice la list.length lc] t)):=fun t=>(Below.refl _ _).alloc (Nat.le_refl _) _
  have hcode:=fun t=>code_calls K (w.alloc (.cells #[.slice la list.length lc] t)) w.heap.size t (.slice la list.length lc) list n c (S:=fun b=>b < w.heap.size) (by rw [alloc_get,if_pos rfl]) (RX_congr _ (.sl tq0) false (hb1 t).size (fun b h1 h2=>⟨h1,(hb1 t).block b h2⟩) (fun b h1=>Nat.lt_of_lt_of_le h1 (hb1 t).size) hl) hc
  by_cases hc0:c=0
  · subst hc0
    rw [if_pos rfl] at hy
    obtain ⟨D,hD,hy⟩:=Option.bind_eq_some_iff.1 hy
    obtain ⟨l,hll,hy⟩:=Option.bind_eq_some_iff.1 hy
    injection hy with hy
    subst hy
    have hgen:∀ w',Below w.heap.size w w'->Calls Tryz.prog 36 #[.slice la list.length lc,.int .i64 n] w' (GenW list (.slice la list.length lc) n D w'):=fun w' hb=>gen_calls K w' list _ n D (RX_congr _ (.sl tq0) false hb.size (fun b h1 h2=>⟨Nat.lt_of_lt_of_le h1 hb.size,hb.block b h2⟩) (fun b h1=>h1) hl) hD
    have hall:∀ p w',p.lv=.slice la list.length lc->p.n=n->p.L<=p.c->GnI p w' D->Below w.heap.size w w'->Calls Tryz.prog 37 #[.pointer (some ⟨p.G,0,none⟩)] w' fun e w''=>∃ v,e=.returned v/\Ret (.sl tq0) l w' v w'':=fun p w' h1 h2 h3 h4 hb =>
      all_calls K p h3 h4 (T:=fun b=>b < w.heap.size) (by rw [h1];exact RX_congr _ (.sl tq0) false hb.size (fun b h1 h2=>⟨h1,hb.block b h2⟩) (fun b h1=>Nat.lt_of_lt_of_le h1 hb.size) hl) (fun b h=>Nat.lt_of_lt_of_le h hb.size) (by rw [h2];exact hll)
    have A0:Aside (∀ t,Below w.heap.size w (w.alloc (.cells #[.slice la list.length lc] t))):=hb1
    clear hc hD hll hl hb1
    go_enter Tryz.func9,Tryz.ntmps9
    go_wp2_with (first
      | (go_at_call 35;refine (hcode _).mono ?_;rintro e w1 ⟨rfl,hbe1⟩;have hb2:Aside (Below w.heap.size w w1):=Below.trans (A0 _) (hbe1.mono (A0 _).size))
      | (go_at_call 36;refine (hgen _ hb2).mono ?_;rintro e w2 ⟨p,rfl,g1,g2,g3,g4,g5⟩;have hb3:Aside (Below w.heap.size w w2):=Below.trans hb2 (g5.mono hb2.size);have A1:Aside (p.lv=.slice la list.length lc/\p.n=n/\p.L<=p.c/\GnI p w2 D):=⟨g1,g2,g3,g4⟩;clear g1 g2 g3 g4)
      | (go_at_call 37;refine (hall _ _ A1.1 A1.2.1 A1.2.2.1 A1.2.2.2 hb3).mono ?_;rintro e w3 ⟨v,rfl,hret⟩)
      | go_in)
    go_ret2
    obtain ⟨bs,h1,h2,h3,h4⟩:=hret
    have hbb:Below w.heap.size w w2:=hb3
    exact ⟨.tuple #[v,.int .i64 0],rfl,bs,⟨[v,.int .i64 0],rfl,v,[.int .i64 0],bs,[],rfl,by simp,h1,.int .i64 0,[],[],[],rfl,rfl,⟨[.int .i64 0],rfl,rfl,rfl⟩,rfl,rfl⟩,h2,fun b hb=>⟨Nat.le_trans hbb.size (h3 b hb).1,(h3 b hb).2⟩,hbb.trans (h4.mono hbb.size)⟩
  · rw [if_neg hc0] at hy
    injection hy with hy
    subst hy
    have A0:Aside (∀ t,Below w.heap.size w (w.alloc (.cells #[.slice la list.length lc] t))):=hb1
    have hcb:(c == 0)=false:=by rw [beq_eq_false_iff_ne];exact hc0
    have hcb2:(c != 0)=true:=by rw [bne_iff_ne];exact hc0
    clear hc hl hb1 hc0
    go_enter Tryz.func9,Tryz.ntmps9
    go_wp2_with (first
      | (go_at_call 35;refine (hcode _).mono ?_;rintro e w1 ⟨rfl,hbe1⟩;have hb2:Aside (Below w.heap.size w w1):=Below.trans (A0 _) (hbe1.mono (A0 _).size))
      | go_in)
    go_ret2
    exact ⟨.tuple #[.slice none 0 0,.int .i64 c],rfl,[],⟨[.slice none 0 0,.int .i64 c],rfl,.slice none 0 0,[.int .i64 c],[],[],rfl,rfl,⟨[.slice none 0 0],rfl,.inl ⟨rfl,rfl,rfl⟩⟩,.int .i64 c,[],[],[],rfl,rfl,⟨[.int .i64 c],rfl,rfl,rfl⟩,rfl,rfl⟩,List.nodup_nil,fun b hb=>(by cases hb),hb2⟩
theorem gby_ok (K:Nat):FnOk Tryz.prog 9 ⟨.pair (.sl tq0) (.pair (.int .i64) .unit),[false,false],gbT,genByF K⟩:=by
  refine ⟨fun _=>?_,fun h=>by cases h⟩
  intro w vs x y hx hy
  obtain ⟨list,n,u⟩:=x
  obtain ⟨cs,r,rfl,hl,c2,r2,rfl,h2,h3⟩:=hx
  have h2:c2=[.int .i64 n]:=h2
  have h3:r2=[]:=h3
  subst h2 h3
  obtain ⟨lv,hlv⟩:∃ lv,lv=valOf (.sl tq0) cs:=⟨_,rfl⟩
  have hcs:cs=[lv]:=by
    have hl1:cs.length=1:=RX_len _ _ _ _ _ _ hl
    match cs,hl1 with
    | [x],_=>rw [hlv];rfl
  rw [<-hlv]
  rw [hcs] at hl
  refine cf_of_calls Tryz.func9 (c:=bodyOf Tryz.f9) (by kernel_rfl) (by kernel_rfl) ?_
  exact gb_calls K w list lv n y hl hy
end Go.Proofs.YtmlgfaojfmkdnaaGreatDoor.E
namespace Go.Proofs.YtmlgfaojfmkdnaaGreatDoor.E
open Go Go.Proofs Go.Proofs.YtmlgfaojfmkdnaaGreatDoor
set_option maxRecDepth 100000
set_option linter.unusedVariables false
noncomputable def as_i_GeneratedBy:Ty:=(.pair (.sl tq0) (.pair (.int .i64) .unit))
noncomputable def sp_i_GeneratedBy (F:((List dq0) × Int × Unit)->Option ((List dq0) × Int × Unit)):FnSpec:=⟨as_i_GeneratedBy,[false,false],(.tup (.pair (.sl tq0) (.pair (.int .i64) .unit))),F⟩
noncomputable def i_GeneratedBy (K:Nat) (x:List (Int × Int × Unit) × Int × Unit):Option (List (Int × Int × Unit) × Int × Unit):=genByF K x
theorem ok_i_GeneratedBy (K:Nat):FnOk Tryz.prog 9 (sp_i_GeneratedBy (i_GeneratedBy K)):=gby_ok K
noncomputable def C_i_GeneratedBy (K:Nat):CB Tryz.prog:=.f _ _ (ok_i_GeneratedBy K)
noncomputable def as_slices_Index_string:Ty:=(.pair (.sl .str) (.pair .str .unit))
noncomputable def sp_slices_Index_string (F:((List ByteArray) × ByteArray × Unit)->Option Int):FnSpec:=⟨as_slices_Index_string,[false,false],(.int .i64),F⟩
noncomputable def slices_Index_string_l2 {R:Type} (K:Nat):Nat->(List ByteArray)->ByteArray->Int->Int->(Option R)->(Int->Option R)->Option R
  | 0,_,_,_,_,_,_=>none
  | k + 1,v0,v1,v7,v8,kx0,kr =>
    (if (decide (v8 < v7))=true then
    (if (bnds v8 (v0.length:Int))=true then
    (if (cmpS .eql v1 (v0.getD v8.toNat ByteArray.empty))=true then
    kr v8
    else
    slices_Index_string_l2 K k v0 v1 v7 (IntKind.i64.wrap (v8 + (1:Int))) kx0 kr)
    else
    none)
    else
    kx0)
noncomputable def slices_Index_string (K:Nat) (x:((List ByteArray) × ByteArray × Unit)):Option Int :=
    slices_Index_string_l2 K K x.1 x.2.1 (x.1.length:Int) (0:Int) (some (-1:Int)) (fun z1 =>
    some z1)
noncomputable def X0_slices_Index_string:Lv:=[]
noncomputable def rv_slices_Index_string:Lv:=[(4,(.v (.int .i64)))]
noncomputable def D_slices_Index_string (K:Nat):List (PD (den (.int .i64))):=[.L 2 [(0,(.v (.sl .str))),(1,(.v .str)),(7,(.v (.int .i64))),(8,(.v (.int .i64)))] [] (fun k x kx kr=>slices_Index_string_l2 K k x.1 x.2.1 x.2.2.1 x.2.2.2.1 (kx 0 (mkSt X0_slices_Index_string ())) (fun z0=>kr (mkSt rv_slices_Index_string (z0,()))))]
theorem ok_slices_Index_string (K:Nat):FnOk Tryz.prog 175 (sp_slices_Index_string (slices_Index_string K)) :=
  fn_okD tysOk [] 0 (D_slices_Index_string K) [(0,X0_slices_Index_string)] rv_slices_Index_string K Tryz.func175 (by kernel_rfl) ⟨⟨fun _ _ _ _=>by kernel_rfl,fun _ _ _=>rfl⟩,trivial⟩ (fun _=>by kernel_rfl)
noncomputable def C_slices_Index_string (K:Nat):CB Tryz.prog:=.f _ _ (ok_slices_Index_string K)
noncomputable def as_slices_Contains_string:Ty:=(.pair (.sl .str) (.pair .str .unit))
noncomputable def sp_slices_Contains_string (F:((List ByteArray) × ByteArray × Unit)->Option Bool):FnSpec:=⟨as_slices_Contains_string,[false,false],.bool,F⟩
noncomputable def slices_Contains_string (K:Nat) (x:((List ByteArray) × ByteArray × Unit)):Option Bool :=
    (slices_Index_string K (x.1,x.2.1,())).bind fun y1 =>
    some (decide (y1 ≥ (0:Int)))
noncomputable def rv_slices_Contains_string:Lv:=[(4,(.v .bool))]
theorem ok_slices_Contains_string (K:Nat):FnOk Tryz.prog 115 (sp_slices_Contains_string (slices_Contains_string K)) :=
  fn_okD tysOk [C_slices_Index_string K] 0 [] [] rv_slices_Contains_string K Tryz.func115 (by kernel_rfl) trivial (fun _=>by kernel_rfl)
noncomputable def C_slices_Contains_string (K:Nat):CB Tryz.prog:=.f _ _ (ok_slices_Contains_string K)
noncomputable def as_internal_bytealg_IndexByteString:Ty:=(.pair .str (.pair (.int .u8) .unit))
noncomputable def sp_internal_bytealg_IndexByteString (F:(ByteArray × Int × Unit)->Option Int):FnSpec:=⟨as_internal_bytealg_IndexByteString,[false,false],(.int .i64),F⟩
noncomputable def internal_bytealg_IndexByteString (K:Nat) (x:ByteArray × Int × Unit):Option Int:=some (Lib.indexByte x.1.data.toList x.2.1.toNat.toUInt8)
theorem ok_internal_bytealg_IndexByteString (K:Nat):FnOk Tryz.prog 231 (sp_internal_bytealg_IndexByteString (internal_bytealg_IndexByteString K)):=indexByte_ok Tryz.func231 (by kernel_rfl) (by kernel_rfl) (by kernel_rfl) (by kernel_rfl)
noncomputable def C_internal_bytealg_IndexByteString (K:Nat):CB Tryz.prog:=.f _ _ (ok_internal_bytealg_IndexByteString K)
noncomputable def as_internal_stringslite_IndexByte:Ty:=(.pair .str (.pair (.int .u8) .unit))
noncomputable def sp_internal_stringslite_IndexByte (F:(ByteArray × Int × Unit)->Option Int):FnSpec:=⟨as_internal_stringslite_IndexByte,[false,false],(.int .i64),F⟩
noncomputable def internal_stringslite_IndexByte (K:Nat) (x:(ByteArray × Int × Unit)):Option Int :=
    (internal_bytealg_IndexByteString K (x.1,x.2.1,())).bind fun y1 =>
    some y1
noncomputable def rv_internal_stringslite_IndexByte:Lv:=[(4,(.v (.int .i64)))]
theorem ok_internal_stringslite_IndexByte (K:Nat):FnOk Tryz.prog 214 (sp_internal_stringslite_IndexByte (internal_stringslite_IndexByte K)) :=
  fn_okD tysOk [C_internal_bytealg_IndexByteString K] 0 [] [] rv_internal_stringslite_IndexByte K Tryz.func214 (by kernel_rfl) trivial (fun _=>by kernel_rfl)
noncomputable def C_internal_stringslite_IndexByte (K:Nat):CB Tryz.prog:=.f _ _ (ok_internal_stringslite_IndexByte K)
noncomputable def as_internal_stringslite_Index:Ty:=(.pair .str (.pair .str .unit))
noncomputable def sp_internal_stringslite_Index (F:(ByteArray × ByteArray × Unit)->Option Int):FnSpec:=⟨as_internal_stringslite_Index,[false,false],(.int .i64),F⟩
noncomputable def internal_stringslite_Index_j4 {R:Type} (K:Nat) (k:Nat) (v0:ByteArray) (v1:ByteArray) (v5:Int) (kn:Option R) (kr:(Int->Option R)):Option R :=
    gN K ((if (decide (v5=(1:Int)))=true then
    (if (bnds (0:Int) (v1.size:Int))=true then
    (internal_stringslite_IndexByte K (v0,(byteAt v1 (0:Int)),())).bind fun y1 =>
    kr y1
    else
    none)
    else
    (if (decide (v5 ≥ (v0.size:Int)))=true then
    kr (-1:Int)
    else
    none)))
noncomputable def internal_stringslite_Index (K:Nat) (x:(ByteArray × ByteArray × Unit)):Option Int :=
    (if (decide ((x.2.1.size:Int)=(0:Int)))=true then
    some (0:Int)
    else
    (if (cmpS .eql x.2.1 x.1)=true then
    some (0:Int)
    else
    internal_stringslite_Index_j4 K K x.1 x.2.1 (x.2.1.size:Int) none (fun z2 =>
    some z2)))
noncomputable def rv_internal_stringslite_Index:Lv:=[(4,(.v (.int .i64)))]
noncomputable def D_internal_stringslite_Index (K:Nat):List (PD (den (.int .i64))):=[.J 4 [(0,(.v .str)),(1,(.v .str)),(5,(.v (.int .i64)))] [] K (fun k x kn kx kr=>internal_stringslite_Index_j4 K k x.1 x.2.1 x.2.2.1 (kn ()) (fun z0=>kr (mkSt rv_internal_stringslite_Index (z0,()))))]
theorem ok_internal_stringslite_Index (K:Nat):FnOk Tryz.prog 195 (sp_internal_stringslite_Index (internal_stringslite_Index K)) :=
  fn_okD tysOk [C_internal_stringslite_IndexByte K] 0 (D_internal_stringslite_Index K) [] rv_internal_stringslite_Index K Tryz.func195 (by kernel_rfl) ⟨fun _ _ _ _ _=>by kernel_rfl,trivial⟩ (fun _=>by kernel_rfl)
noncomputable def C_internal_stringslite_Index (K:Nat):CB Tryz.prog:=.f _ _ (ok_internal_stringslite_Index K)
noncomputable def as_internal_stringslite_Cut:Ty:=(.pair .str (.pair .str .unit))
noncomputable def sp_internal_stringslite_Cut (F:(ByteArray × ByteArray × Unit)->Option (ByteArray × ByteArray × Bool × Unit)):FnSpec:=⟨as_internal_stringslite_Cut,[false,false],(.tup (.pair .str (.pair .str (.pair .bool .unit)))),F⟩
noncomputable def internal_stringslite_Cut (K:Nat) (x:(ByteArray × ByteArray × Unit)):Option (ByteArray × ByteArray × Bool × Unit) :=
    (internal_stringslite_Index K (x.1,x.2.1,())).bind fun y1 =>
    (if (decide (y1 ≥ (0:Int)))=true then
    (if (decide (0<=(0:Int)) && decide ((0:Int)<=y1) && decide (y1<=(x.1.size:Int)))=true then
    (if (decide (0<=(IntKind.i64.wrap (y1 + (x.2.1.size:Int)))) && decide ((IntKind.i64.wrap (y1 + (x.2.1.size:Int)))<=(x.1.size:Int)) && decide ((x.1.size:Int)<=(x.1.size:Int)))=true then
    let x2:=(x.1.extract (IntKind.i64.wrap (y1 + (x.2.1.size:Int))).toNat (x.1.size:Int).toNat)
    some ((x.1.extract (0:Int).toNat y1.toNat),x2,true,())
    else
    none)
    else
    none)
    else
    some (x.1,(⟨#[]⟩:ByteArray),false,()))
noncomputable def rv_internal_stringslite_Cut:Lv:=[(4,(.v .str)),(5,(.v .str)),(6,(.v .bool))]
theorem ok_internal_stringslite_Cut (K:Nat):FnOk Tryz.prog 178 (sp_internal_stringslite_Cut (internal_stringslite_Cut K)) :=
  fn_okD tysOk [C_internal_stringslite_Index K] 0 [] [] rv_internal_stringslite_Cut K Tryz.func178 (by kernel_rfl) trivial (fun _=>by kernel_rfl)
noncomputable def C_internal_stringslite_Cut (K:Nat):CB Tryz.prog:=.f _ _ (ok_internal_stringslite_Cut K)
noncomputable def as_strings_Cut:Ty:=(.pair .str (.pair .str .unit))
noncomputable def sp_strings_Cut (F:(ByteArray × ByteArray × Unit)->Option (ByteArray × ByteArray × Bool × Unit)):FnSpec:=⟨as_strings_Cut,[false,false],(.tup (.pair .str (.pair .str (.pair .bool .unit)))),F⟩
noncomputable def strings_Cut (K:Nat) (x:(ByteArray × ByteArray × Unit)):Option (ByteArray × ByteArray × Bool × Unit) :=
    (internal_stringslite_Cut K (x.1,x.2.1,())).bind fun y1 =>
    some (y1.1,y1.2.1,y1.2.2.1,())
noncomputable def rv_strings_Cut:Lv:=[(4,(.v .str)),(5,(.v .str)),(6,(.v .bool))]
theorem ok_strings_Cut (K:Nat):FnOk Tryz.prog 117 (sp_strings_Cut (strings_Cut K)) :=
  fn_okD tysOk [C_internal_stringslite_Cut K] 0 [] [] rv_strings_Cut K Tryz.func117 (by kernel_rfl) trivial (fun _=>by kernel_rfl)
noncomputable def C_strings_Cut (K:Nat):CB Tryz.prog:=.f _ _ (ok_strings_Cut K)
noncomputable def as_strings_explode:Ty:=(.pair .str (.pair (.int .i64) .unit))
noncomputable def sp_strings_explode (F:(ByteArray × Int × Unit)->Option (List ByteArray)):FnSpec:=⟨as_strings_explode,[false,false],(.sl .str),F⟩
noncomputable def strings_explode (K:Nat) (x:(ByteArray × Int × Unit)):Option (List ByteArray):=none
theorem ok_strings_explode (K:Nat):FnOk Tryz.prog 196 (sp_strings_explode (strings_explode K)):=fnOk_none
noncomputable def C_strings_explode (K:Nat):CB Tryz.prog:=.f _ _ (ok_strings_explode K)
noncomputable def as_strings_Index:Ty:=(.pair .str (.pair .str .unit))
noncomputable def sp_strings_Index (F:(ByteArray × ByteArray × Unit)->Option Int):FnSpec:=⟨as_strings_Index,[false,false],(.int .i64),F⟩
noncomputable def strings_Index (K:Nat) (x:(ByteArray × ByteArray × Unit)):Option Int :=
    (internal_stringslite_Index K (x.1,x.2.1,())).bind fun y1 =>
    some y1
noncomputable def rv_strings_Index:Lv:=[(4,(.v (.int .i64)))]
theorem ok_strings_Index (K:Nat):FnOk Tryz.prog 198 (sp_strings_Index (strings_Index K)) :=
  fn_okD tysOk [C_internal_stringslite_Index K] 0 [] [] rv_strings_Index K Tryz.func198 (by kernel_rfl) trivial (fun _=>by kernel_rfl)
noncomputable def C_strings_Index (K:Nat):CB Tryz.prog:=.f _ _ (ok_strings_Index K)
noncomputable def as_unicode_utf8_RuneCountInString:Ty:=(.pair .str .unit)
noncomputable def sp_unicode_utf8_RuneCountInString (F:(ByteArray × Unit)->Option Int):FnSpec:=⟨as_unicode_utf8_RuneCountInString,[false],(.int .i64),F⟩
noncomputable def unicode_utf8_RuneCountInString (K:Nat) (x:(ByteArray × Unit)):Option Int:=none
theorem ok_unicode_utf8_RuneCountInString (K:Nat):FnOk Tryz.prog 218 (sp_unicode_utf8_RuneCountInString (unicode_utf8_RuneCountInString K)):=fnOk_none
noncomputable def C_unicode_utf8_RuneCountInString (K:Nat):CB Tryz.prog:=.f _ _ (ok_unicode_utf8_RuneCountInString K)
noncomputable def as_internal_bytealg_CountString:Ty:=(.pair .str (.pair (.int .u8) .unit))
noncomputable def sp_internal_bytealg_CountString (F:(ByteArray × Int × Unit)->Option Int):FnSpec:=⟨as_internal_bytealg_CountString,[false,false],(.int .i64),F⟩
noncomputable def internal_bytealg_CountString (K:Nat) (x:ByteArray × Int × Unit):Option Int:=some ((Lib.countByte x.1.data.toList x.2.1.toNat.toUInt8:Nat):Int)
theorem ok_internal_bytealg_CountString (K:Nat):FnOk Tryz.prog 220 (sp_internal_bytealg_CountString (internal_bytealg_CountString K)):=countByte_ok Tryz.func220 (by kernel_rfl) (by kernel_rfl) (by kernel_rfl) (by kernel_rfl)
noncomputable def C_internal_bytealg_CountString (K:Nat):CB Tryz.prog:=.f _ _ (ok_internal_bytealg_CountString K)
noncomputable def as_strings_Count:Ty:=(.pair .str (.pair .str .unit))
noncomputable def sp_strings_Count (F:(ByteArray × ByteArray × Unit)->Option Int):FnSpec:=⟨as_strings_Count,[false,false],(.int .i64),F⟩
noncomputable def strings_Count_l6 {R:Type} (K:Nat):Nat->ByteArray->ByteArray->Int->(Int->Option R)->Option R
  | 0,_,_,_,_=>none
  | k + 1,v0,v1,v5,kr =>
    (strings_Index K (v0,v1,())).bind fun y3 =>
    (if (decide (y3=(-1:Int)))=true then
    kr v5
    else
    (if (decide (0<=(IntKind.i64.wrap (y3 + (v1.size:Int)))) && decide ((IntKind.i64.wrap (y3 + (v1.size:Int)))<=(v0.size:Int)) && decide ((v0.size:Int)<=(v0.size:Int)))=true then
    let x4:=(v0.extract (IntKind.i64.wrap (y3 + (v1.size:Int))).toNat (v0.size:Int).toNat)
    strings_Count_l6 K k x4 v1 (IntKind.i64.wrap (v5 + (1:Int))) kr
    else
    none))
noncomputable def strings_Count (K:Nat) (x:(ByteArray × ByteArray × Unit)):Option Int :=
    (if (decide ((x.2.1.size:Int)=(0:Int)))=true then
    (unicode_utf8_RuneCountInString K (x.1,())).bind fun y1 =>
    some (IntKind.i64.wrap (y1 + (1:Int)))
    else
    (if (decide ((x.2.1.size:Int)=(1:Int)))=true then
    (if (bnds (0:Int) (x.2.1.size:Int))=true then
    (internal_bytealg_CountString K (x.1,(byteAt x.2.1 (0:Int)),())).bind fun y2 =>
    some y2
    else
    none)
    else
    strings_Count_l6 K K x.1 x.2.1 (0:Int) (fun z5 =>
    some z5)))
noncomputable def rv_strings_Count:Lv:=[(4,(.v (.int .i64)))]
noncomputable def D_strings_Count (K:Nat):List (PD (den (.int .i64))):=[.L 6 [(0,(.v .str)),(1,(.v .str)),(5,(.v (.int .i64)))] [] (fun k x kx kr=>strings_Count_l6 K k x.1 x.2.1 x.2.2.1 (fun z0=>kr (mkSt rv_strings_Count (z0,()))))]
theorem ok_strings_Count (K:Nat):FnOk Tryz.prog 197 (sp_strings_Count (strings_Count K)) :=
  fn_okD tysOk [C_strings_Index K,C_unicode_utf8_RuneCountInString K,C_internal_bytealg_CountString K] 0 (D_strings_Count K) [] rv_strings_Count K Tryz.func197 (by kernel_rfl) ⟨⟨fun _ _ _ _=>by kernel_rfl,fun _ _ _=>rfl⟩,trivial⟩ (fun _=>by kernel_rfl)
noncomputable def C_strings_Count (K:Nat):CB Tryz.prog:=.f _ _ (ok_strings_Count K)
noncomputable def ps_strings_genSplit:Lv:=[(0,(.v .str)),(1,(.v .str)),(2,(.v (.int .i64))),(3,(.v (.int .i64)))]
noncomputable def rl_strings_genSplit:Lv:=[(0,(.v (.sl .str)))]
noncomputable def sp_strings_genSplit (F:(ByteArray × ByteArray × Int × Int × Unit)->Option (((List ByteArray) × Unit) × Unit)):ShSpec:=⟨ps_strings_genSplit,rl_strings_genSplit,F⟩
noncomputable def strings_genSplit_l11 {R:Type} (K:Nat):Nat->ByteArray->ByteArray->Int->Int->(List ByteArray)->Int->(ByteArray->(List ByteArray)->Int->Option R)->Option R
  | 0,_,_,_,_,_,_,_=>none
  | k + 1,v0,v1,v2,v3,v9,v10,kx0 =>
    (if (decide (v10 < v3))=true then
    (strings_Index K (v0,v1,())).bind fun y5 =>
    (if (decide (y5 < (0:Int)))=true then
    kx0 v0 v9 v10
    else
    (if (decide (0<=(0:Int)) && decide ((0:Int)<=(IntKind.i64.wrap (y5 + v2))) && decide ((IntKind.i64.wrap (y5 + v2))<=(v0.size:Int)))=true then
    let x6:=(v0.extract (0:Int).toNat (IntKind.i64.wrap (y5 + v2)).toNat)
    (if (bnds v10 (v9.length:Int))=true then
    let l7:=(v9.set v10.toNat x6)
    (if (decide (0<=(IntKind.i64.wrap (y5 + (v1.size:Int)))) && decide ((IntKind.i64.wrap (y5 + (v1.size:Int)))<=(v0.size:Int)) && decide ((v0.size:Int)<=(v0.size:Int)))=true then
    let x8:=(v0.extract (IntKind.i64.wrap (y5 + (v1.size:Int))).toNat (v0.size:Int).toNat)
    strings_genSplit_l11 K k x8 v1 v2 v3 l7 (IntKind.i64.wrap (v10 + (1:Int))) kx0
    else
    none)
    else
    none)
    else
    none))
    else
    kx0 v0 v9 v10)
noncomputable def strings_genSplit_j7 {R:Type} (K:Nat) (k:Nat) (v0:ByteArray) (v1:ByteArray) (v2:Int) (v3:Int) (kn:Option R) (kr:((List ByteArray)->Option R)):Option R :=
    (if (decide (0<=(minL v3 [(IntKind.i64.wrap ((v0.size:Int) + (1:Int)))])) && decide ((minL v3 [(IntKind.i64.wrap ((v0.size:Int) + (1:Int)))])<=(lim:Int)) && decide ((minL v3 [(IntKind.i64.wrap ((v0.size:Int) + (1:Int)))])=(minL v3 [(IntKind.i64.wrap ((v0.size:Int) + (1:Int)))])))=true then
    let l3:=(List.replicate (minL v3 [(IntKind.i64.wrap ((v0.size:Int) + (1:Int)))]).toNat ByteArray.empty)
    let x4:=(IntKind.i64.wrap ((minL v3 [(IntKind.i64.wrap ((v0.size:Int) + (1:Int)))]) - (1:Int)))
    strings_genSplit_l11 K k v0 v1 v2 x4 l3 (0:Int) (fun z9 z10 z11 =>
    (if (bnds z11 (z10.length:Int))=true then
    let l12:=(z10.set z11.toNat z9)
    (if (decide (0<=(0:Int)) && decide ((0:Int)<=(IntKind.i64.wrap (z11 + (1:Int)))) && decide ((IntKind.i64.wrap (z11 + (1:Int)))<=(l12.length:Int)))=true then
    kr (sliceL l12 (0:Int) ((0:Int) + ((IntKind.i64.wrap (z11 + (1:Int))) - (0:Int))))
    else
    none)
    else
    none))
    else
    none)
noncomputable def strings_genSplit (K:Nat) (x:(ByteArray × ByteArray × Int × Int × Unit)):Option (((List ByteArray) × Unit) × Unit) :=
    (if (decide (x.2.2.2.1=(0:Int)))=true then
    some ((([]:List ByteArray),()),())
    else
    (if (cmpS .eql x.2.1 (⟨#[]⟩:ByteArray))=true then
    (strings_explode K (x.1,x.2.2.2.1,())).bind fun y1 =>
    some ((y1,()),())
    else
    (if (decide (x.2.2.2.1 < (0:Int)))=true then
    (strings_Count K (x.1,x.2.1,())).bind fun y2 =>
    strings_genSplit_j7 K K x.1 x.2.1 x.2.2.1 (IntKind.i64.wrap (y2 + (1:Int))) none (fun z13 =>
    some ((z13,()),()))
    else
    strings_genSplit_j7 K K x.1 x.2.1 x.2.2.1 x.2.2.2.1 none (fun z14 =>
    some ((z14,()),())))))
noncomputable def X0_strings_genSplit:Lv:=[(0,(.v .str)),(9,(.r .str)),(10,(.v (.int .i64)))]
noncomputable def rv_strings_genSplit:Lv:=[(8,(.v (.sl .str)))]
noncomputable def D_strings_genSplit (K:Nat):List (PD (den rl_strings_genSplit.ty × den (outL ps_strings_genSplit).ty)):=[.J 7 [(0,(.v .str)),(1,(.v .str)),(2,(.v (.int .i64))),(3,(.v (.int .i64)))] [] 0 (fun k x kn kx kr=>strings_genSplit_j7 K k x.1 x.2.1 x.2.2.1 x.2.2.2.1 (kn ()) (fun z0=>kr (mkSt rv_strings_genSplit (z0,())))),
  .L 11 [(0,(.v .str)),(1,(.v .str)),(2,(.v (.int .i64))),(3,(.v (.int .i64))),(9,(.r .str)),(10,(.v (.int .i64)))] [] (fun k x kx kr=>strings_genSplit_l11 K k x.1 x.2.1 x.2.2.1 x.2.2.2.1 x.2.2.2.2.1 x.2.2.2.2.2.1 (fun z0 z1 z2=>kx 0 (mkSt X0_strings_genSplit (z0,z1,z2,()))))]
theorem ok_strings_genSplit (K:Nat):ShOk Tryz.prog 179 (sp_strings_genSplit (strings_genSplit K)) :=
  sh_okD tysOk [C_strings_explode K,C_strings_Count K,C_strings_Index K] 0 (D_strings_genSplit K) [(0,X0_strings_genSplit)] rv_strings_genSplit K Tryz.func179 (by kernel_rfl) ⟨fun _ _ _ _ _=>by kernel_rfl,⟨⟨fun _ _ _ _=>by kernel_rfl,fun _ _ _=>rfl⟩,trivial⟩⟩ (fun _=>by kernel_rfl)
noncomputable def C_strings_genSplit (K:Nat):CB Tryz.prog:=.s _ _ (ok_strings_genSplit K)
noncomputable def ps_strings_Split:Lv:=[(0,(.v .str)),(1,(.v .str))]
noncomputable def rl_strings_Split:Lv:=[(0,(.v (.sl .str)))]
noncomputable def sp_strings_Split (F:(ByteArray × ByteArray × Unit)->Option (((List ByteArray) × Unit) × Unit)):ShSpec:=⟨ps_strings_Split,rl_strings_Split,F⟩
noncomputable def strings_Split (K:Nat) (x:(ByteArray × ByteArray × Unit)):Option (((List ByteArray) × Unit) × Unit) :=
    (strings_genSplit K (x.1,x.2.1,(0:Int),(-1:Int),())).bind fun y1 =>
    some ((y1.1.1,()),())
noncomputable def rv_strings_Split:Lv:=[(4,(.v (.sl .str)))]
theorem ok_strings_Split (K:Nat):ShOk Tryz.prog 118 (sp_strings_Split (strings_Split K)) :=
  sh_okD tysOk [C_strings_genSplit K] 0 [] [] rv_strings_Split K Tryz.func118 (by kernel_rfl) trivial (fun _=>by kernel_rfl)
noncomputable def C_strings_Split (K:Nat):CB Tryz.prog:=.s _ _ (ok_strings_Split K)
noncomputable def i_table:ByteArray->ByteArray:=tableG
theorem ok_i_table:MpOk Tryz.prog 119 127 i_table:=table_ok
noncomputable def C_i_table (K:Nat):CB Tryz.prog:=.m _ _ _ ok_i_table
noncomputable def as_i_Func_text:Ty:=(.pair tq0 .unit)
noncomputable def sp_i_Func_text (F:(dq0 × Unit)->Option ByteArray):FnSpec:=⟨as_i_Func_text,[false],.str,F⟩
noncomputable def i_Func_text_l3 {R:Type} (K:Nat):Nat->dq0->(List Int)->Int->Int->((List Int)->Option R)->Option R
  | 0,_,_,_,_,_=>none
  | k + 1,v1,v3,v11,v12,kx0 =>
    (if (decide (v12 < v11))=true then
    (i_Func_at K (v1,v12,())).bind fun y3 =>
    let l4:=[(IntKind.u8.wrap ((48:Int) + (IntKind.u8.wrap y3)))]
    (if (decide (v3.length + l4.length<=lim))=true then
    let l5:=(v3 ++ l4)
    i_Func_text_l3 K k v1 l5 v11 (IntKind.i64.wrap (v12 + (1:Int))) kx0
    else
    none)
    else
    kx0 v3)
noncomputable def i_Func_text (K:Nat) (x:(dq0 × Unit)):Option ByteArray :=
    let l1:=[(IntKind.u8.wrap ((48:Int) + (IntKind.u8.wrap x.1.1))),(58:Int)]
    (i_Func_rows K (x.1,())).bind fun y2 =>
    i_Func_text_l3 K K x.1 l1 y2 (0:Int) (fun z6 =>
    some (bytesOf z6))
noncomputable def X0_i_Func_text:Lv:=[(3,(.r (.int .u8)))]
noncomputable def rv_i_Func_text:Lv:=[(2,(.v .str))]
noncomputable def D_i_Func_text (K:Nat):List (PD (den .str)):=[.L 3 [(1,(.bx (.v tq0))),(3,(.r (.int .u8))),(11,(.v (.int .i64))),(12,(.v (.int .i64)))] [] (fun k x kx kr=>i_Func_text_l3 K k x.1 x.2.1 x.2.2.1 x.2.2.2.1 (fun z0=>kx 0 (mkSt X0_i_Func_text (z0,()))))]
theorem ok_i_Func_text (K:Nat):FnOk Tryz.prog 180 (sp_i_Func_text (i_Func_text K)) :=
  fn_okD tysOk [C_i_Func_rows K,C_i_Func_at K] 0 (D_i_Func_text K) [(0,X0_i_Func_text)] rv_i_Func_text K Tryz.func180 (by kernel_rfl) ⟨⟨fun _ _ _ _=>by kernel_rfl,fun _ _ _=>rfl⟩,trivial⟩ (fun _=>by kernel_rfl)
noncomputable def C_i_Func_text (K:Nat):CB Tryz.prog:=.f _ _ (ok_i_Func_text K)
noncomputable def as_i_readFunc:Ty:=(.pair .str .unit)
noncomputable def sp_i_readFunc (F:(ByteArray × Unit)->Option (dq0 × Bool × Unit)):FnSpec:=⟨as_i_readFunc,[false],(.tup (.pair tq0 (.pair .bool .unit))),F⟩
noncomputable def i_readFunc_l6 {R:Type} (K:Nat):Nat->ByteArray->dq0->ByteArray->dq0->Int->Int->(ByteArray->dq0->dq0->Option R)->Option R
  | 0,_,_,_,_,_,_,_=>none
  | k + 1,v0,v2,v5,v7,v31,v32,kx0 =>
    (if (decide (v32 < v31))=true then
    (if (bnds v32 (v5.size:Int))=true then
    (if (decide ((byteAt v5 v32)=(49:Int)))=true then
    (if (decide ((0:Int)<=v32))=true then
    i_readFunc_l6 K k v0 v2 v5 (v7.1,(bitI .or .i64 v7.2.1 (shlI .i64 (1:Int) v32)),()) v31 (IntKind.i64.wrap (v32 + (1:Int))) kx0
    else
    none)
    else
    i_readFunc_l6 K k v0 v2 v5 v7 v31 (IntKind.i64.wrap (v32 + (1:Int))) kx0)
    else
    none)
    else
    kx0 v0 v2 v7)
noncomputable def i_readFunc_j4 {R:Type} (K:Nat) (k:Nat) (v0:ByteArray) (v2:dq0) (v4:ByteArray) (v5:ByteArray) (kn:Option R) (kr:(dq0->Bool->Option R)):Option R :=
    (if (bnds (0:Int) (v4.size:Int))=true then
    let x3:=(IntKind.i64.wrap ((IntKind.i64.wrap (byteAt v4 (0:Int))) - (48:Int)))
    i_readFunc_l6 K k v0 v2 v5 (x3,((0:Int),(0:Int),()).2.1,()) (v5.size:Int) (0:Int) (fun z4 z5 z6 =>
    (i_IsFunc K (z6,())).bind fun y7 =>
    (if (!y7)=true then
    kr ((0:Int),(0:Int),()) false
    else
    (i_Func_text K (z6,())).bind fun y8 =>
    (if (cmpS .neq y8 z4)=true then
    kr ((0:Int),(0:Int),()) false
    else
    kr z6 true)))
    else
    none)
noncomputable def i_readFunc (K:Nat) (x:(ByteArray × Unit)):Option (dq0 × Bool × Unit) :=
    (strings_Cut K (x.1,(⟨#[58]⟩:ByteArray),())).bind fun y1 =>
    (if (!decide ((y1.1.size:Int)=(1:Int)))=true then
    some (((0:Int),(0:Int),()),false,())
    else
    (i_rowsOf K ((4:Int),())).bind fun y2 =>
    (if (decide ((y1.2.1.size:Int) > y2))=true then
    some (((0:Int),(0:Int),()),false,())
    else
    i_readFunc_j4 K K x.1 ((0:Int),(0:Int),()) y1.1 y1.2.1 none (fun z9 z10 =>
    some (z9,z10,()))))
noncomputable def X0_i_readFunc:Lv:=[(0,(.v .str)),(2,(.bx (.v tq0))),(7,(.bx (.v tq0)))]
noncomputable def rv_i_readFunc:Lv:=[(2,(.bx (.v tq0))),(3,(.v .bool))]
noncomputable def D_i_readFunc (K:Nat):List (PD (den (.tup (.pair tq0 (.pair .bool .unit))))):=[.J 4 [(0,(.v .str)),(2,(.bx (.v tq0))),(4,(.v .str)),(5,(.v .str))] [] 0 (fun k x kn kx kr=>i_readFunc_j4 K k x.1 x.2.1 x.2.2.1 x.2.2.2.1 (kn ()) (fun z0 z1=>kr (mkSt rv_i_readFunc (z0,z1,())))),
  .L 6 [(0,(.v .str)),(2,(.bx (.v tq0))),(5,(.v .str)),(7,(.bx (.v tq0))),(31,(.v (.int .i64))),(32,(.v (.int .i64)))] [] (fun k x kx kr=>i_readFunc_l6 K k x.1 x.2.1 x.2.2.1 x.2.2.2.1 x.2.2.2.2.1 x.2.2.2.2.2.1 (fun z0 z1 z2=>kx 0 (mkSt X0_i_readFunc (z0,z1,z2,()))))]
theorem ok_i_readFunc (K:Nat):FnOk Tryz.prog 120 (sp_i_readFunc (i_readFunc K)) :=
  fn_okD tysOk [C_i_IsFunc K,C_strings_Cut K,C_i_rowsOf K,C_i_Func_text K] 0 (D_i_readFunc K) [(0,X0_i_readFunc)] rv_i_readFunc K Tryz.func120 (by kernel_rfl) ⟨fun _ _ _ _ _=>by kernel_rfl,⟨⟨fun _ _ _ _=>by kernel_rfl,fun _ _ _=>rfl⟩,trivial⟩⟩ (fun _=>by kernel_rfl)
noncomputable def C_i_readFunc (K:Nat):CB Tryz.prog:=.f _ _ (ok_i_readFunc K)
noncomputable def as_math_bits_OnesCount64:Ty:=(.pair (.int .u64) .unit)
noncomputable def sp_math_bits_OnesCount64 (F:(Int × Unit)->Option Int):FnSpec:=⟨as_math_bits_OnesCount64,[false],(.int .i64),F⟩
noncomputable def math_bits_OnesCount64 (K:Nat) (x:(Int × Unit)):Option Int :=
    let x1:=(bitI .and .u64 (shrI .u64 x.1 (1:Int)) (6148914691236517205:Int))
    let x2:=(IntKind.u64.wrap (x1 + (bitI .and .u64 x.1 (6148914691236517205:Int))))
    let x3:=(bitI .and .u64 (shrI .u64 x2 (2:Int)) (3689348814741910323:Int))
    let x4:=(IntKind.u64.wrap (x3 + (bitI .and .u64 x2 (3689348814741910323:Int))))
    let x5:=(bitI .and .u64 (IntKind.u64.wrap ((shrI .u64 x4 (4:Int)) + x4)) (1085102592571150095:Int))
    let x6:=(shrI .u64 (IntKind.u64.wrap (x5 + (shrI .u64 x5 (8:Int)))) (16:Int))
    let x7:=(IntKind.u64.wrap ((IntKind.u64.wrap (x5 + (shrI .u64 x5 (8:Int)))) + x6))
    let x8:=(IntKind.i64.wrap (IntKind.u64.wrap (x7 + (shrI .u64 x7 (32:Int)))))
    some (bitI .and .i64 x8 (127:Int))
noncomputable def rv_math_bits_OnesCount64:Lv:=[(2,(.v (.int .i64)))]
theorem ok_math_bits_OnesCount64 (K:Nat):FnOk Tryz.prog 181 (sp_math_bits_OnesCount64 (math_bits_OnesCount64 K)) :=
  fn_okD tysOk [] 0 [] [] rv_math_bits_OnesCount64 K Tryz.func181 (by kernel_rfl) trivial (fun _=>by kernel_rfl)
noncomputable def C_math_bits_OnesCount64 (K:Nat):CB Tryz.prog:=.f _ _ (ok_math_bits_OnesCount64 K)
noncomputable def as_i_ones:Ty:=(.pair (.int .i64) .unit)
noncomputable def sp_i_ones (F:(Int × Unit)->Option Int):FnSpec:=⟨as_i_ones,[false],(.int .i64),F⟩
noncomputable def i_ones (K:Nat) (x:(Int × Unit)):Option Int :=
    (math_bits_OnesCount64 K ((IntKind.u64.wrap x.1),())).bind fun y1 =>
    some y1
noncomputable def rv_i_ones:Lv:=[(2,(.v (.int .i64)))]
theorem ok_i_ones (K:Nat):FnOk Tryz.prog 123 (sp_i_ones (i_ones K)) :=
  fn_okD tysOk [C_math_bits_OnesCount64 K] 0 [] [] rv_i_ones K Tryz.func123 (by kernel_rfl) trivial (fun _=>by kernel_rfl)
noncomputable def C_i_ones (K:Nat):CB Tryz.prog:=.f _ _ (ok_i_ones K)
noncomputable def as_i_generators_c1:Ty:=(.pair (.int .i64) (.pair (.ptr .str) (.pair (.ptr (.int .i64)) .unit)))
noncomputable def sp_i_generators_c1 (F:(Int × ByteArray × Int × Unit)->Option Int):FnSpec:=⟨as_i_generators_c1,[false,false,false],(.int .i64),F⟩
noncomputable def i_generators_c1 (K:Nat) (x:(Int × ByteArray × Int × Unit)):Option Int :=
    (if (bnds (1:Int) (x.2.1.size:Int))=true then
    (if (decide ((byteAt x.2.1 (1:Int))=(48:Int)))=true then
    (i_ones K (x.1,())).bind fun y1 =>
    (i_one K ((decide (y1 ≥ (2:Int))),())).bind fun y2 =>
    some y2
    else
    (i_ones K (x.1,())).bind fun y3 =>
    (i_one K ((decide ((IntKind.i64.wrap (x.2.2.1 - y3))<=(1:Int))),())).bind fun y4 =>
    some y4)
    else
    none)
noncomputable def rv_i_generators_c1:Lv:=[(4,(.v (.int .i64)))]
theorem ok_i_generators_c1 (K:Nat):FnOk Tryz.prog 122 (sp_i_generators_c1 (i_generators_c1 K)) :=
  fn_okD tysOk [C_i_one K,C_i_ones K] 0 [] [] rv_i_generators_c1 K Tryz.func122 (by kernel_rfl) trivial (fun _=>by kernel_rfl)
noncomputable def C_i_generators_c1 (K:Nat):CB Tryz.prog:=.f _ _ (ok_i_generators_c1 K)
noncomputable def as_i_generators:Ty:=(.pair .str .unit)
noncomputable def sp_i_generators (F:(ByteArray × Unit)->Option ((List dq0) × Bool × Unit)):FnSpec:=⟨as_i_generators,[false],(.tup (.pair (.sl tq0) (.pair .bool .unit))),F⟩
noncomputable def i_generators_l6 {R:Type} (K:Nat):Nat->ByteArray->ByteArray->Bool->(List dq0)->(List ByteArray)->Int->Int->(ByteArray->ByteArray->Bool->(List dq0)->Option R)->Option R
  | 0,_,_,_,_,_,_,_,_=>none
  | k + 1,v4,v5,v6,v7,v26,v27,v28,kx0 =>
    (if (decide (v28 < v27))=true then
    (if (bnds v28 (v26.length:Int))=true then
    (i_readFunc K ((v26.getD v28.toNat ByteArray.empty),())).bind fun y5 =>
    (if (decide (v7.length + ([y5.1]).length<=lim))=true then
    let l6:=(v7 ++ [y5.1])
    i_generators_l6 K k v4 v5 v6 l6 v26 v27 (IntKind.i64.wrap (v28 + (1:Int))) kx0
    else
    none)
    else
    none)
    else
    kx0 v4 v5 v6 v7)
noncomputable def i_generators (K:Nat) (x:(ByteArray × Unit)):Option ((List dq0) × Bool × Unit) :=
    (i_CloneNames K ()).bind fun y1 =>
    (slices_Contains_string K (y1,x.1,())).bind fun y2 =>
    (if (!y2)=true then
    some (([]:List dq0),false,())
    else
    (strings_Cut K (x.1,(⟨#[94]⟩:ByteArray),())).bind fun y3 =>
    (if (decide (y3.1.size<=9223372036854775807))=true then
    (strings_Split K ((i_table y3.1),(⟨#[32]⟩:ByteArray),())).bind fun y4 =>
    i_generators_l6 K K y3.1 y3.2.1 y3.2.2.1 ([]:List dq0) y4.1.1 (y4.1.1.length:Int) (0:Int) (fun z7 z8 z9 z10 =>
    (if z9=true then
    (if (bnds (0:Int) (z8.size:Int))=true then
    let x11:=(IntKind.i64.wrap (IntKind.u8.wrap ((byteAt z8 (0:Int)) - (48:Int))))
    (i_funcBy K ((IntKind.i64.wrap (x11 + (1:Int))),(fun y13=>i_generators_c1 K (y13.1,z7,(IntKind.i64.wrap (x11 + (1:Int))),())),())).bind fun y12 =>
    (if (decide (z10.length + ([y12]).length<=lim))=true then
    let l14:=(z10 ++ [y12])
    some (l14,true,())
    else
    none)
    else
    none)
    else
    some (z10,true,())))
    else
    none))
noncomputable def X0_i_generators:Lv:=[(4,(.bx (.v .str))),(5,(.v .str)),(6,(.v .bool)),(7,(.r tq0))]
noncomputable def rv_i_generators:Lv:=[(2,(.r tq0)),(3,(.v .bool))]
noncomputable def D_i_generators (K:Nat):List (PD (den (.tup (.pair (.sl tq0) (.pair .bool .unit))))):=[.L 6 [(4,(.bx (.v .str))),(5,(.v .str)),(6,(.v .bool)),(7,(.r tq0)),(26,(.v (.sl .str))),(27,(.v (.int .i64))),(28,(.v (.int .i64)))] [] (fun k x kx kr=>i_generators_l6 K k x.1 x.2.1 x.2.2.1 x.2.2.2.1 x.2.2.2.2.1 x.2.2.2.2.2.1 x.2.2.2.2.2.2.1 (fun z0 z1 z2 z3=>kx 0 (mkSt X0_i_generators (z0,z1,z2,z3,()))))]
theorem ok_i_generators (K:Nat):FnOk Tryz.prog 49 (sp_i_generators (i_generators K)) :=
  fn_okD tysOk [C_slices_Contains_string K,C_i_CloneNames K,C_strings_Cut K,C_strings_Split K,C_i_table K,C_i_readFunc K,C_i_funcBy K,C_i_generators_c1 K] 0 (D_i_generators K) [(0,X0_i_generators)] rv_i_generators K Tryz.func49 (by kernel_rfl) ⟨⟨fun _ _ _ _=>by kernel_rfl,fun _ _ _=>rfl⟩,trivial⟩ (fun _=>by kernel_rfl)
noncomputable def C_i_generators (K:Nat):CB Tryz.prog:=.f _ _ (ok_i_generators K)
noncomputable def as_slices_Clone_impl_Func:Ty:=(.pair (.sl tq0) .unit)
noncomputable def sp_slices_Clone_impl_Func (F:((List dq0) × Unit)->Option (List dq0)):FnSpec:=⟨as_slices_Clone_impl_Func,[false],(.sl tq0),F⟩
noncomputable def slices_Clone_impl_Func (K:Nat) (x:List (Int × Int × Unit) × Unit):Option (List (Int × Int × Unit)):=if x.1.length<=lim then some x.1 else none
noncomputable def ren_slices_Clone_impl_Func:Go.Shelf.Ren:=⟨fun _=>124,fun k=>bif Nat.beq k 22 then 27 else bif Nat.beq k 23 then 30 else 4,fun k=>k⟩
theorem lays_slices_Clone_impl_Func:SlLaysE0.n41 Tryz.prog ren_slices_Clone_impl_Func :=
  ⟨by kernel_rfl,⟨Tryz.f124.name,by kernel_rfl,by kernel_rfl⟩,Tryz.underlying4,Tryz.isAgg4,Tryz.sizeOf4,Tryz.zeroValue4,Tryz.underlying27,Tryz.isAgg27,Tryz.sizeOf27,Tryz.zeroValue27⟩
theorem ok_slices_Clone_impl_Func (K:Nat):FnOk Tryz.prog 124 (sp_slices_Clone_impl_Func (slices_Clone_impl_Func K)):=clone_ok (ty:=lk tys) lays_slices_Clone_impl_Func (tysOk 30 _ rfl) rfl (z:=.val (.st (.pair (.int .i64) (.pair (.int .i64) .unit))) ((0:Int),(0:Int),())) rfl rfl (by decide)
noncomputable def C_slices_Clone_impl_Func (K:Nat):CB Tryz.prog:=.f _ _ (ok_slices_Clone_impl_Func K)
noncomputable def as_i_isInNamed:Ty:=(.pair tq0 (.pair .str (.pair (.sl tq0) .unit)))
noncomputable def sp_i_isInNamed (F:(dq0 × ByteArray × (List dq0) × Unit)->Option Bool):FnSpec:=⟨as_i_isInNamed,[false,false,false],.bool,F⟩
noncomputable def i_isInNamed (K:Nat) (x:(dq0 × ByteArray × (List dq0) × Unit)):Option Bool :=
    (slices_Clone_impl_Func K (x.2.2.1,())).bind fun y1 =>
    (if (decide (y1.length + ([x.1]).length<=lim))=true then
    let l2:=(y1 ++ [x.1])
    (i_cloneName K (l2,())).bind fun y3 =>
    some (cmpS .eql y3 x.2.1)
    else
    none)
noncomputable def rv_i_isInNamed:Lv:=[(6,(.v .bool))]
theorem ok_i_isInNamed (K:Nat):FnOk Tryz.prog 50 (sp_i_isInNamed (i_isInNamed K)) :=
  fn_okD tysOk [C_i_cloneName K,C_slices_Clone_impl_Func K] 0 [] [] rv_i_isInNamed K Tryz.func50 (by kernel_rfl) trivial (fun _=>by kernel_rfl)
noncomputable def C_i_isInNamed (K:Nat):CB Tryz.prog:=.f _ _ (ok_i_isInNamed K)
noncomputable def as_i_IsInNamed:Ty:=(.pair tq0 (.pair .str .unit))
noncomputable def sp_i_IsInNamed (F:(dq0 × ByteArray × Unit)->Option (Bool × Int × Unit)):FnSpec:=⟨as_i_IsInNamed,[false,false],(.tup (.pair .bool (.pair (.int .i64) .unit))),F⟩
noncomputable def i_IsInNamed (K:Nat) (x:(dq0 × ByteArray × Unit)):Option (Bool × Int × Unit) :=
    (i_IsFunc K (x.1,())).bind fun y1 =>
    (if (!y1)=true then
    some (false,(1:Int),())
    else
    (i_generators K (x.2.1,())).bind fun y2 =>
    (if (!y2.2.1)=true then
    some (false,(6:Int),())
    else
    (i_isInNamed K (x.1,x.2.1,y2.1,())).bind fun y3 =>
    some (y3,(0:Int),())))
noncomputable def rv_i_IsInNamed:Lv:=[(4,(.v .bool)),(5,(.v (.int .i64)))]
theorem ok_i_IsInNamed (K:Nat):FnOk Tryz.prog 16 (sp_i_IsInNamed (i_IsInNamed K)) :=
  fn_okD tysOk [C_i_IsFunc K,C_i_generators K,C_i_isInNamed K] 0 [] [] rv_i_IsInNamed K Tryz.func16 (by kernel_rfl) trivial (fun _=>by kernel_rfl)
noncomputable def C_i_IsInNamed (K:Nat):CB Tryz.prog:=.f _ _ (ok_i_IsInNamed K)
noncomputable def as_i_KeepsRelation:Ty:=(.pair tq0 (.pair tq0 .unit))
noncomputable def sp_i_KeepsRelation (F:(dq0 × dq0 × Unit)->Option (Bool × Int × Unit)):FnSpec:=⟨as_i_KeepsRelation,[false,false],(.tup (.pair .bool (.pair (.int .i64) .unit))),F⟩
noncomputable def i_KeepsRelation (K:Nat) (x:(dq0 × dq0 × Unit)):Option (Bool × Int × Unit) :=
    (i_IsFunc K (x.1,())).bind fun y1 =>
    (if (!y1)=true then
    some (false,(1:Int),())
    else
    (i_IsRelation K (x.2.1,())).bind fun y2 =>
    (if (!y2)=true then
    some (false,(1:Int),())
    else
    (i_Func_keeps K (x.1,x.2.1,())).bind fun y3 =>
    some (y3,(0:Int),())))
noncomputable def rv_i_KeepsRelation:Lv:=[(4,(.v .bool)),(5,(.v (.int .i64)))]
theorem ok_i_KeepsRelation (K:Nat):FnOk Tryz.prog 17 (sp_i_KeepsRelation (i_KeepsRelation K)) :=
  fn_okD tysOk [C_i_IsRelation K,C_i_IsFunc K,C_i_Func_keeps K] 0 [] [] rv_i_KeepsRelation K Tryz.func17 (by kernel_rfl) trivial (fun _=>by kernel_rfl)
noncomputable def C_i_KeepsRelation (K:Nat):CB Tryz.prog:=.f _ _ (ok_i_KeepsRelation K)
noncomputable def as_s_l01In:Ty:=(.pair (.int .i64) (.pair (.int .i64) (.pair (.int .i64) .unit)))
noncomputable def sp_s_l01In (F:(Int × Int × Int × Unit)->Option Bool):FnSpec:=⟨as_s_l01In,[false,false,false],.bool,F⟩
noncomputable def s_l01In (K:Nat) (x:(Int × Int × Int × Unit)):Option Bool :=
    (if (decide (x.1 ≥ x.2.1))=true then
    some (decide (x.1<=x.2.2.1))
    else
    some false)
noncomputable def rv_s_l01In:Lv:=[(6,(.v .bool))]
theorem ok_s_l01In (K:Nat):FnOk Tryz.prog 70 (sp_s_l01In (s_l01In K)) :=
  fn_okD tysOk [] 0 [] [] rv_s_l01In K Tryz.func70 (by kernel_rfl) trivial (fun _=>by kernel_rfl)
noncomputable def C_s_l01In (K:Nat):CB Tryz.prog:=.f _ _ (ok_s_l01In K)
noncomputable def as_s_l01Rows:Ty:=(.pair (.int .i64) .unit)
noncomputable def sp_s_l01Rows (F:(Int × Unit)->Option Int):FnSpec:=⟨as_s_l01Rows,[false],(.int .i64),F⟩
noncomputable def s_l01Rows (K:Nat) (x:(Int × Unit)):Option Int :=
    (if (decide ((0:Int)<=(IntKind.u64.wrap x.1)))=true then
    some (shlI .i64 (1:Int) (IntKind.u64.wrap x.1))
    else
    none)
noncomputable def rv_s_l01Rows:Lv:=[(2,(.v (.int .i64)))]
theorem ok_s_l01Rows (K:Nat):FnOk Tryz.prog 133 (sp_s_l01Rows (s_l01Rows K)) :=
  fn_okD tysOk [] 0 [] [] rv_s_l01Rows K Tryz.func133 (by kernel_rfl) trivial (fun _=>by kernel_rfl)
noncomputable def C_s_l01Rows (K:Nat):CB Tryz.prog:=.f _ _ (ok_s_l01Rows K)
noncomputable def as_s_l01All:Ty:=(.pair (.int .i64) .unit)
noncomputable def sp_s_l01All (F:(Int × Unit)->Option Int):FnSpec:=⟨as_s_l01All,[false],(.int .i64),F⟩
noncomputable def s_l01All (K:Nat) (x:(Int × Unit)):Option Int :=
    (s_l01Rows K (x.1,())).bind fun y1 =>
    (if (decide ((0:Int)<=(IntKind.u64.wrap y1)))=true then
    let x2:=(IntKind.i64.wrap ((shlI .i64 (1:Int) (IntKind.u64.wrap y1)) - (1:Int)))
    some x2
    else
    none)
noncomputable def rv_s_l01All:Lv:=[(2,(.v (.int .i64)))]
theorem ok_s_l01All (K:Nat):FnOk Tryz.prog 71 (sp_s_l01All (s_l01All K)) :=
  fn_okD tysOk [C_s_l01Rows K] 0 [] [] rv_s_l01All K Tryz.func71 (by kernel_rfl) trivial (fun _=>by kernel_rfl)
noncomputable def C_s_l01All (K:Nat):CB Tryz.prog:=.f _ _ (ok_s_l01All K)
noncomputable def as_s_l01Is:Ty:=(.pair tq0 .unit)
noncomputable def sp_s_l01Is (F:(dq0 × Unit)->Option Bool):FnSpec:=⟨as_s_l01Is,[false],.bool,F⟩
noncomputable def s_l01Is (K:Nat) (x:(dq0 × Unit)):Option Bool :=
    (s_l01In K (x.1.1,(0:Int),(4:Int),())).bind fun y1 =>
    (if y1=true then
    (s_l01All K (x.1.1,())).bind fun y2 =>
    (s_l01In K (x.1.2.1,(0:Int),y2,())).bind fun y3 =>
    some y3
    else
    some false)
noncomputable def rv_s_l01Is:Lv:=[(2,(.v .bool))]
theorem ok_s_l01Is (K:Nat):FnOk Tryz.prog 61 (sp_s_l01Is (s_l01Is K)) :=
  fn_okD tysOk [C_s_l01In K,C_s_l01All K] 0 [] [] rv_s_l01Is K Tryz.func61 (by kernel_rfl) trivial (fun _=>by kernel_rfl)
noncomputable def C_s_l01Is (K:Nat):CB Tryz.prog:=.f _ _ (ok_s_l01Is K)
noncomputable def as_s_l02Code:Ty:=(.pair (.sl tq0) .unit)
noncomputable def sp_s_l02Code (F:((List dq0) × Unit)->Option Int):FnSpec:=⟨as_s_l02Code,[false],(.int .i64),F⟩
noncomputable def s_l02Code_l2 {R:Type} (K:Nat):Nat->(List dq0)->Int->((List dq0)->Option R)->(Int->Option R)->Option R
  | 0,_,_,_,_=>none
  | k + 1,v0,v3,kx0,kr =>
    (if (decide (v3 < (v0.length:Int)))=true then
    (if (bnds v3 (v0.length:Int))=true then
    (s_l01Is K ((v0.getD v3.toNat ((0:Int),(0:Int),())),())).bind fun y1 =>
    (if (!y1)=true then
    kr (1:Int)
    else
    s_l02Code_l2 K k v0 (IntKind.i64.wrap (v3 + (1:Int))) kx0 kr)
    else
    none)
    else
    kx0 v0)
noncomputable def s_l02Code (K:Nat) (x:((List dq0) × Unit)):Option Int :=
    s_l02Code_l2 K K x.1 (0:Int) (fun z2 =>
    (if (decide ((z2.length:Int) > (8:Int)))=true then
    some (2:Int)
    else
    some (0:Int))) (fun z3 =>
    some z3)
noncomputable def X0_s_l02Code:Lv:=[(0,(.v (.sl tq0)))]
noncomputable def rv_s_l02Code:Lv:=[(2,(.v (.int .i64)))]
noncomputable def D_s_l02Code (K:Nat):List (PD (den (.int .i64))):=[.L 2 [(0,(.v (.sl tq0))),(3,(.v (.int .i64)))] [] (fun k x kx kr=>s_l02Code_l2 K k x.1 x.2.1 (fun z0=>kx 0 (mkSt X0_s_l02Code (z0,()))) (fun z0=>kr (mkSt rv_s_l02Code (z0,()))))]
theorem ok_s_l02Code (K:Nat):FnOk Tryz.prog 42 (sp_s_l02Code (s_l02Code K)) :=
  fn_okD tysOk [C_s_l01Is K] 0 (D_s_l02Code K) [(0,X0_s_l02Code)] rv_s_l02Code K Tryz.func42 (by kernel_rfl) ⟨⟨fun _ _ _ _=>by kernel_rfl,fun _ _ _=>rfl⟩,trivial⟩ (fun _=>by kernel_rfl)
noncomputable def C_s_l02Code (K:Nat):CB Tryz.prog:=.f _ _ (ok_s_l02Code K)
noncomputable def as_s_l01At:Ty:=(.pair tq0 (.pair (.int .i64) .unit))
noncomputable def sp_s_l01At (F:(dq0 × Int × Unit)->Option Int):FnSpec:=⟨as_s_l01At,[false,false],(.int .i64),F⟩
noncomputable def s_l01At (K:Nat) (x:(dq0 × Int × Unit)):Option Int :=
    (if (decide ((0:Int)<=(IntKind.u64.wrap x.2.1)))=true then
    let x1:=(bitI .and .i64 (shrI .i64 x.1.2.1 (IntKind.u64.wrap x.2.1)) (1:Int))
    some x1
    else
    none)
noncomputable def rv_s_l01At:Lv:=[(4,(.v (.int .i64)))]
theorem ok_s_l01At (K:Nat):FnOk Tryz.prog 143 (sp_s_l01At (s_l01At K)) :=
  fn_okD tysOk [] 0 [] [] rv_s_l01At K Tryz.func143 (by kernel_rfl) trivial (fun _=>by kernel_rfl)
noncomputable def C_s_l01At (K:Nat):CB Tryz.prog:=.f _ _ (ok_s_l01At K)
noncomputable def as_s_l02In:Ty:=(.pair tq0 (.pair (.int .i64) .unit))
noncomputable def sp_s_l02In (F:(dq0 × Int × Unit)->Option Bool):FnSpec:=⟨as_s_l02In,[false,false],.bool,F⟩
noncomputable def s_l02In_l9 {R:Type} (K:Nat):Nat->dq0->Int->Int->(Option R)->(Bool->Option R)->Option R
  | 0,_,_,_,_,_=>none
  | k + 1,v2,v5,v6,kx1,kr =>
    (if (decide (v6 < v5))=true then
    (s_l01At K (v2,v6,())).bind fun y4 =>
    let x5:=(IntKind.i64.wrap ((IntKind.i64.wrap (v5 - (1:Int))) - v6))
    (s_l01At K (v2,x5,())).bind fun y6 =>
    (if (decide (y4=y6))=true then
    kr false
    else
    s_l02In_l9 K k v2 v5 (IntKind.i64.wrap (v6 + (1:Int))) kx1 kr)
    else
    kx1)
noncomputable def s_l02In_l19 {R:Type} (K:Nat):Nat->dq0->Int->Int->Int->(dq0->Int->Int->Option R)->(Bool->Option R)->Option R
  | 0,_,_,_,_,_,_=>none
  | k + 1,v2,v5,v7,v8,kx5,kr =>
    (if (decide (v8 < v2.1))=true then
    (if (decide ((0:Int)<=(IntKind.u64.wrap v8)))=true then
    let x8:=(bitI .and .i64 v7 (shlI .i64 (1:Int) (IntKind.u64.wrap v8)))
    (if (decide (x8=(0:Int)))=true then
    (s_l01At K (v2,v7,())).bind fun y9 =>
    (if (decide (y9=(1:Int)))=true then
    let x10:=(bitI .or .i64 v7 (shlI .i64 (1:Int) (IntKind.u64.wrap v8)))
    (s_l01At K (v2,x10,())).bind fun y11 =>
    (if (decide (y11=(0:Int)))=true then
    kr false
    else
    s_l02In_l19 K k v2 v5 v7 (IntKind.i64.wrap (v8 + (1:Int))) kx5 kr)
    else
    s_l02In_l19 K k v2 v5 v7 (IntKind.i64.wrap (v8 + (1:Int))) kx5 kr)
    else
    s_l02In_l19 K k v2 v5 v7 (IntKind.i64.wrap (v8 + (1:Int))) kx5 kr)
    else
    none)
    else
    kx5 v2 v5 v7)
noncomputable def s_l02In_l16 {R:Type} (K:Nat):Nat->dq0->Int->Int->(Option R)->(Bool->Option R)->Option R
  | 0,_,_,_,_,_=>none
  | k + 1,v2,v5,v7,kx3,kr =>
    (if (decide (v7 < v5))=true then
    s_l02In_l19 K k v2 v5 v7 (0:Int) (fun z12 z13 z14 =>
    s_l02In_l16 K k z12 z13 (IntKind.i64.wrap (z14 + (1:Int))) kx3 kr) (fun z15 =>
    kr z15)
    else
    kx3)
noncomputable def s_l02In_l31 {R:Type} (K:Nat):Nat->dq0->Int->Int->Int->Bool->Int->(dq0->Int->Int->Option R)->(Bool->Option R)->Option R
  | 0,_,_,_,_,_,_,_,_=>none
  | k + 1,v2,v5,v10,v11,v12,v13,kx9,kr =>
    (if (decide (v13 < v5))=true then
    (s_l01At K (v2,v13,())).bind fun y19 =>
    (s_l01At K (v2,(bitI .xor .i64 v13 v11),())).bind fun y20 =>
    (if (!((!decide (y19=y20)) == v12))=true then
    kr false
    else
    s_l02In_l31 K k v2 v5 v10 v11 v12 (IntKind.i64.wrap (v13 + (1:Int))) kx9 kr)
    else
    kx9 v2 v5 v10)
noncomputable def s_l02In_l26 {R:Type} (K:Nat):Nat->dq0->Int->Int->(Option R)->(Bool->Option R)->Option R
  | 0,_,_,_,_,_=>none
  | k + 1,v2,v5,v10,kx7,kr =>
    (if (decide (v10 < v2.1))=true then
    (if (decide ((0:Int)<=(IntKind.u64.wrap v10)))=true then
    (s_l01At K (v2,(0:Int),())).bind fun y17 =>
    (s_l01At K (v2,(shlI .i64 (1:Int) (IntKind.u64.wrap v10)),())).bind fun y18 =>
    s_l02In_l31 K k v2 v5 v10 (shlI .i64 (1:Int) (IntKind.u64.wrap v10)) (!decide (y17=y18)) (0:Int) (fun z21 z22 z23 =>
    s_l02In_l26 K k z21 z22 (IntKind.i64.wrap (z23 + (1:Int))) kx7 kr) (fun z24 =>
    kr z24)
    else
    none)
    else
    kx7)
noncomputable def s_l02In (K:Nat) (x:(dq0 × Int × Unit)):Option Bool :=
    (s_l01Rows K (x.1.1,())).bind fun y1 =>
    (if (decide (x.2.1=(0:Int)))=true then
    (s_l01At K (x.1,(0:Int),())).bind fun y2 =>
    some (decide (y2=(0:Int)))
    else
    (if (decide (x.2.1=(1:Int)))=true then
    (s_l01At K (x.1,(IntKind.i64.wrap (y1 - (1:Int))),())).bind fun y3 =>
    some (decide (y3=(1:Int)))
    else
    (if (decide (x.2.1=(2:Int)))=true then
    s_l02In_l9 K K x.1 y1 (0:Int) (some true) (fun z7 =>
    some z7)
    else
    (if (decide (x.2.1=(3:Int)))=true then
    s_l02In_l16 K K x.1 y1 (0:Int) (some true) (fun z16 =>
    some z16)
    else
    s_l02In_l26 K K x.1 y1 (0:Int) (some true) (fun z25 =>
    some z25)))))
noncomputable def X1_s_l02In:Lv:=[]
noncomputable def X3_s_l02In:Lv:=[]
noncomputable def X5_s_l02In:Lv:=[(2,(.bx (.v tq0))),(5,(.v (.int .i64))),(7,(.v (.int .i64)))]
noncomputable def X7_s_l02In:Lv:=[]
noncomputable def X9_s_l02In:Lv:=[(2,(.bx (.v tq0))),(5,(.v (.int .i64))),(10,(.v (.int .i64)))]
noncomputable def rv_s_l02In:Lv:=[(4,(.v .bool))]
noncomputable def D_s_l02In (K:Nat):List (PD (den .bool)):=[.L 9 [(2,(.bx (.v tq0))),(5,(.v (.int .i64))),(6,(.v (.int .i64)))] [] (fun k x kx kr=>s_l02In_l9 K k x.1 x.2.1 x.2.2.1 (kx 1 (mkSt X1_s_l02In ())) (fun z0=>kr (mkSt rv_s_l02In (z0,())))),
  .L 16 [(2,(.bx (.v tq0))),(5,(.v (.int .i64))),(7,(.v (.int .i64)))] [] (fun k x kx kr=>s_l02In_l16 K k x.1 x.2.1 x.2.2.1 (kx 3 (mkSt X3_s_l02In ())) (fun z0=>kr (mkSt rv_s_l02In (z0,())))),
  .L 19 [(2,(.bx (.v tq0))),(5,(.v (.int .i64))),(7,(.v (.int .i64))),(8,(.v (.int .i64)))] [] (fun k x kx kr=>s_l02In_l19 K k x.1 x.2.1 x.2.2.1 x.2.2.2.1 (fun z0 z1 z2=>kx 5 (mkSt X5_s_l02In (z0,z1,z2,()))) (fun z0=>kr (mkSt rv_s_l02In (z0,())))),
  .L 26 [(2,(.bx (.v tq0))),(5,(.v (.int .i64))),(10,(.v (.int .i64)))] [] (fun k x kx kr=>s_l02In_l26 K k x.1 x.2.1 x.2.2.1 (kx 7 (mkSt X7_s_l02In ())) (fun z0=>kr (mkSt rv_s_l02In (z0,())))),
  .L 31 [(2,(.bx (.v tq0))),(5,(.v (.int .i64))),(10,(.v (.int .i64))),(11,(.v (.int .i64))),(12,(.v .bool)),(13,(.v (.int .i64)))] [] (fun k x kx kr=>s_l02In_l31 K k x.1 x.2.1 x.2.2.1 x.2.2.2.1 x.2.2.2.2.1 x.2.2.2.2.2.1 (fun z0 z1 z2=>kx 9 (mkSt X9_s_l02In (z0,z1,z2,()))) (fun z0=>kr (mkSt rv_s_l02In (z0,()))))]
theorem ok_s_l02In (K:Nat):FnOk Tryz.prog 171 (sp_s_l02In (s_l02In K)) :=
  fn_okD tysOk [C_s_l01Rows K,C_s_l01At K] 0 (D_s_l02In K) [(1,X1_s_l02In),(3,X3_s_l02In),(5,X5_s_l02In),(7,X7_s_l02In),(9,X9_s_l02In)] rv_s_l02In K Tryz.func171 (by kernel_rfl) ⟨⟨fun _ _ _ _=>by kernel_rfl,fun _ _ _=>rfl⟩,⟨⟨fun _ _ _ _=>by kernel_rfl,fun _ _ _=>rfl⟩,⟨⟨fun _ _ _ _=>by kernel_rfl,fun _ _ _=>rfl⟩,⟨⟨fun _ _ _ _=>by kernel_rfl,fun _ _ _=>rfl⟩,⟨⟨fun _ _ _ _=>by kernel_rfl,fun _ _ _=>rfl⟩,trivial⟩⟩⟩⟩⟩ (fun _=>by kernel_rfl)
noncomputable def C_s_l02In (K:Nat):CB Tryz.prog:=.f _ _ (ok_s_l02In K)
noncomputable def as_s_l02Classes:Ty:=(.pair (.sl tq0) (.pair (.int .i64) .unit))
noncomputable def sp_s_l02Classes (F:((List dq0) × Int × Unit)->Option Int):FnSpec:=⟨as_s_l02Classes,[false,false],(.int .i64),F⟩
noncomputable def s_l02Classes_l7 {R:Type} (K:Nat):Nat->(List dq0)->Int->Int->Int->Bool->Int->((List dq0)->Int->Int->Int->Bool->Option R)->Option R
  | 0,_,_,_,_,_,_,_=>none
  | k + 1,v0,v1,v5,v6,v7,v8,kx2 =>
    (if (decide (v8 < (v0.length:Int)))=true then
    (if v7=true then
    (if (decide ((0:Int)<=(IntKind.u64.wrap v8)))=true then
    let x1:=(bitI .and .i64 (shrI .i64 v1 (IntKind.u64.wrap v8)) (1:Int))
    (if (decide (x1=(0:Int)))=true then
    s_l02Classes_l7 K k v0 v1 v5 v6 true (IntKind.i64.wrap (v8 + (1:Int))) kx2
    else
    (if (bnds v8 (v0.length:Int))=true then
    (s_l02In K ((v0.getD v8.toNat ((0:Int),(0:Int),())),v6,())).bind fun y2 =>
    s_l02Classes_l7 K k v0 v1 v5 v6 y2 (IntKind.i64.wrap (v8 + (1:Int))) kx2
    else
    none))
    else
    none)
    else
    s_l02Classes_l7 K k v0 v1 v5 v6 false (IntKind.i64.wrap (v8 + (1:Int))) kx2)
    else
    kx2 v0 v1 v5 v6 v7)
noncomputable def s_l02Classes_l3 {R:Type} (K:Nat):Nat->(List dq0)->Int->Int->Int->(Int->Option R)->Option R
  | 0,_,_,_,_,_=>none
  | k + 1,v0,v1,v5,v6,kx0 =>
    (if (decide (v6 < (5:Int)))=true then
    s_l02Classes_l7 K k v0 v1 v5 v6 true (0:Int) (fun z3 z4 z5 z6 z7 =>
    (if z7=true then
    (if (decide ((0:Int)<=(IntKind.u64.wrap z6)))=true then
    let x8:=(bitI .or .i64 z5 (shlI .i64 (1:Int) (IntKind.u64.wrap z6)))
    s_l02Classes_l3 K k z3 z4 x8 (IntKind.i64.wrap (z6 + (1:Int))) kx0
    else
    none)
    else
    s_l02Classes_l3 K k z3 z4 z5 (IntKind.i64.wrap (z6 + (1:Int))) kx0))
    else
    kx0 v5)
noncomputable def s_l02Classes (K:Nat) (x:((List dq0) × Int × Unit)):Option Int :=
    s_l02Classes_l3 K K x.1 x.2.1 (0:Int) (0:Int) (fun z9 =>
    some z9)
noncomputable def X0_s_l02Classes:Lv:=[(5,(.v (.int .i64)))]
noncomputable def X2_s_l02Classes:Lv:=[(0,(.v (.sl tq0))),(1,(.v (.int .i64))),(5,(.v (.int .i64))),(6,(.v (.int .i64))),(7,(.v .bool))]
noncomputable def rv_s_l02Classes:Lv:=[(4,(.v (.int .i64)))]
noncomputable def D_s_l02Classes (K:Nat):List (PD (den (.int .i64))):=[.L 3 [(0,(.v (.sl tq0))),(1,(.v (.int .i64))),(5,(.v (.int .i64))),(6,(.v (.int .i64)))] [] (fun k x kx kr=>s_l02Classes_l3 K k x.1 x.2.1 x.2.2.1 x.2.2.2.1 (fun z0=>kx 0 (mkSt X0_s_l02Classes (z0,())))),
  .L 7 [(0,(.v (.sl tq0))),(1,(.v (.int .i64))),(5,(.v (.int .i64))),(6,(.v (.int .i64))),(7,(.v .bool)),(8,(.v (.int .i64)))] [] (fun k x kx kr=>s_l02Classes_l7 K k x.1 x.2.1 x.2.2.1 x.2.2.2.1 x.2.2.2.2.1 x.2.2.2.2.2.1 (fun z0 z1 z2 z3 z4=>kx 2 (mkSt X2_s_l02Classes (z0,z1,z2,z3,z4,()))))]
theorem ok_s_l02Classes (K:Nat):FnOk Tryz.prog 102 (sp_s_l02Classes (s_l02Classes K)) :=
  fn_okD tysOk [C_s_l02In K] 0 (D_s_l02Classes K) [(0,X0_s_l02Classes),(2,X2_s_l02Classes)] rv_s_l02Classes K Tryz.func102 (by kernel_rfl) ⟨⟨fun _ _ _ _=>by kernel_rfl,fun _ _ _=>rfl⟩,⟨⟨fun _ _ _ _=>by kernel_rfl,fun _ _ _=>rfl⟩,trivial⟩⟩ (fun _=>by kernel_rfl)
noncomputable def C_s_l02Classes (K:Nat):CB Tryz.prog:=.f _ _ (ok_s_l02Classes K)
noncomputable def as_s_l02Whole:Ty:=(.pair (.sl tq0) .unit)
noncomputable def sp_s_l02Whole (F:((List dq0) × Unit)->Option Int):FnSpec:=⟨as_s_l02Whole,[false],(.int .i64),F⟩
noncomputable def s_l02Whole (K:Nat) (x:((List dq0) × Unit)):Option Int :=
    (if (decide ((0:Int)<=(IntKind.u64.wrap (x.1.length:Int))))=true then
    let x1:=(IntKind.i64.wrap ((shlI .i64 (1:Int) (IntKind.u64.wrap (x.1.length:Int))) - (1:Int)))
    some x1
    else
    none)
noncomputable def rv_s_l02Whole:Lv:=[(2,(.v (.int .i64)))]
theorem ok_s_l02Whole (K:Nat):FnOk Tryz.prog 103 (sp_s_l02Whole (s_l02Whole K)) :=
  fn_okD tysOk [] 0 [] [] rv_s_l02Whole K Tryz.func103 (by kernel_rfl) trivial (fun _=>by kernel_rfl)
noncomputable def C_s_l02Whole (K:Nat):CB Tryz.prog:=.f _ _ (ok_s_l02Whole K)
noncomputable def as_s_l01Of:Ty:=(.pair (.int .i64) (.pair (.sl (.int .i64)) .unit))
noncomputable def sp_s_l01Of (F:(Int × (List Int) × Unit)->Option dq0):FnSpec:=⟨as_s_l01Of,[false,false],tq0,F⟩
noncomputable def s_l01Of_l3 {R:Type} (K:Nat):Nat->Int->(List Int)->dq0->dq0->Int->(dq0->dq0->Option R)->Option R
  | 0,_,_,_,_,_,_=>none
  | k + 1,v0,v1,v4,v5,v6,kx0 =>
    (s_l01Rows K (v0,())).bind fun y1 =>
    (if (decide (v6 < y1))=true then
    (if (bnds v6 (v1.length:Int))=true then
    (if (decide ((0:Int)<=(IntKind.u64.wrap v6)))=true then
    let x2:=(shlI .i64 (v1.getD v6.toNat (0:Int)) (IntKind.u64.wrap v6))
    s_l01Of_l3 K k v0 v1 v4 (v5.1,(IntKind.i64.wrap (v5.2.1 + x2)),()) (IntKind.i64.wrap (v6 + (1:Int))) kx0
    else
    none)
    else
    none)
    else
    kx0 v4 v5)
noncomputable def s_l01Of (K:Nat) (x:(Int × (List Int) × Unit)):Option dq0 :=
    s_l01Of_l3 K K x.1 x.2.1 ((0:Int),(0:Int),()) (x.1,((0:Int),(0:Int),()).2.1,()) (0:Int) (fun z3 z4 =>
    some z4)
noncomputable def X0_s_l01Of:Lv:=[(4,(.bx (.v tq0))),(5,(.bx (.v tq0)))]
noncomputable def rv_s_l01Of:Lv:=[(4,(.bx (.v tq0)))]
noncomputable def D_s_l01Of (K:Nat):List (PD (den tq0)):=[.L 3 [(0,(.v (.int .i64))),(1,(.v (.sl (.int .i64)))),(4,(.bx (.v tq0))),(5,(.bx (.v tq0))),(6,(.v (.int .i64)))] [] (fun k x kx kr=>s_l01Of_l3 K k x.1 x.2.1 x.2.2.1 x.2.2.2.1 x.2.2.2.2.1 (fun z0 z1=>kx 0 (mkSt X0_s_l01Of (z0,z1,()))))]
theorem ok_s_l01Of (K:Nat):FnOk Tryz.prog 138 (sp_s_l01Of (s_l01Of K)) :=
  fn_okD tysOk [C_s_l01Rows K] 0 (D_s_l01Of K) [(0,X0_s_l01Of)] rv_s_l01Of K Tryz.func138 (by kernel_rfl) ⟨⟨fun _ _ _ _=>by kernel_rfl,fun _ _ _=>rfl⟩,trivial⟩ (fun _=>by kernel_rfl)
noncomputable def C_s_l01Of (K:Nat):CB Tryz.prog:=.f _ _ (ok_s_l01Of K)
noncomputable def as_s_l01Fix:Ty:=(.pair tq0 (.pair (.int .i64) (.pair (.int .i64) .unit)))
noncomputable def sp_s_l01Fix (F:(dq0 × Int × Int × Unit)->Option dq0):FnSpec:=⟨as_s_l01Fix,[false,false,false],tq0,F⟩
noncomputable def s_l01Fix_l3 {R:Type} (K:Nat):Nat->Int->Int->dq0->dq0->(List Int)->Int->(dq0->dq0->(List Int)->Option R)->Option R
  | 0,_,_,_,_,_,_,_=>none
  | k + 1,v1,v2,v3,v6,v7,v8,kx0 =>
    (s_l01Rows K (v3.1,())).bind fun y2 =>
    (if (decide (v8 < y2))=true then
    (if (decide ((0:Int)<=(IntKind.u64.wrap v1)))=true then
    let x3:=(bitI .and .i64 (shrI .i64 v8 (IntKind.u64.wrap v1)) (1:Int))
    (if (decide (x3=v2))=true then
    (s_l01At K (v3,v8,())).bind fun y4 =>
    (if (decide (v7.length + ([y4]).length<=lim))=true then
    let l5:=(v7 ++ [y4])
    s_l01Fix_l3 K k v1 v2 v3 v6 l5 (IntKind.i64.wrap (v8 + (1:Int))) kx0
    else
    none)
    else
    s_l01Fix_l3 K k v1 v2 v3 v6 v7 (IntKind.i64.wrap (v8 + (1:Int))) kx0)
    else
    none)
    else
    kx0 v3 v6 v7)
noncomputable def s_l01Fix (K:Nat) (x:(dq0 × Int × Int × Unit)):Option dq0 :=
    let l1:=([]:List Int)
    s_l01Fix_l3 K K x.2.1 x.2.2.1 x.1 ((0:Int),(0:Int),()) l1 (0:Int) (fun z6 z7 z8 =>
    (s_l01Of K ((IntKind.i64.wrap (z6.1 - (1:Int))),z8,())).bind fun y9 =>
    some y9)
noncomputable def X0_s_l01Fix:Lv:=[(3,(.bx (.v tq0))),(6,(.bx (.v tq0))),(7,(.r (.int .i64)))]
noncomputable def rv_s_l01Fix:Lv:=[(6,(.bx (.v tq0)))]
noncomputable def D_s_l01Fix (K:Nat):List (PD (den tq0)):=[.L 3 [(1,(.v (.int .i64))),(2,(.v (.int .i64))),(3,(.bx (.v tq0))),(6,(.bx (.v tq0))),(7,(.r (.int .i64))),(8,(.v (.int .i64)))] [] (fun k x kx kr=>s_l01Fix_l3 K k x.1 x.2.1 x.2.2.1 x.2.2.2.1 x.2.2.2.2.1 x.2.2.2.2.2.1 (fun z0 z1 z2=>kx 0 (mkSt X0_s_l01Fix (z0,z1,z2,()))))]
theorem ok_s_l01Fix (K:Nat):FnOk Tryz.prog 141 (sp_s_l01Fix (s_l01Fix K)) :=
  fn_okD tysOk [C_s_l01Rows K,C_s_l01Of K,C_s_l01At K] 0 (D_s_l01Fix K) [(0,X0_s_l01Fix)] rv_s_l01Fix K Tryz.func141 (by kernel_rfl) ⟨⟨fun _ _ _ _=>by kernel_rfl,fun _ _ _=>rfl⟩,trivial⟩ (fun _=>by kernel_rfl)
noncomputable def C_s_l01Fix (K:Nat):CB Tryz.prog:=.f _ _ (ok_s_l01Fix K)
noncomputable def as_s_l01Essential:Ty:=(.pair tq0 .unit)
noncomputable def sp_s_l01Essential (F:(dq0 × Unit)->Option (List Int)):FnSpec:=⟨as_s_l01Essential,[false],(.sl (.int .i64)),F⟩
noncomputable def s_l01Essential_l3 {R:Type} (K:Nat):Nat->dq0->(List Int)->Int->((List Int)->Option R)->Option R
  | 0,_,_,_,_=>none
  | k + 1,v1,v3,v4,kx0 =>
    (if (decide (v4 < v1.1))=true then
    (s_l01Fix K (v1,v4,(0:Int),())).bind fun y2 =>
    (s_l01Fix K (v1,v4,(1:Int),())).bind fun y3 =>
    (if (!(eqD (.pair (.int .i64) (.pair (.int .i64) .unit)) y2 y3))=true then
    (if (decide (v3.length + ([v4]).length<=lim))=true then
    let l4:=(v3 ++ [v4])
    s_l01Essential_l3 K k v1 l4 (IntKind.i64.wrap (v4 + (1:Int))) kx0
    else
    none)
    else
    s_l01Essential_l3 K k v1 v3 (IntKind.i64.wrap (v4 + (1:Int))) kx0)
    else
    kx0 v3)
noncomputable def s_l01Essential (K:Nat) (x:(dq0 × Unit)):Option (List Int) :=
    let l1:=([]:List Int)
    s_l01Essential_l3 K K x.1 l1 (0:Int) (fun z5 =>
    some z5)
noncomputable def X0_s_l01Essential:Lv:=[(3,(.r (.int .i64)))]
noncomputable def rv_s_l01Essential:Lv:=[(2,(.r (.int .i64)))]
noncomputable def D_s_l01Essential (K:Nat):List (PD (den (.sl (.int .i64)))):=[.L 3 [(1,(.bx (.v tq0))),(3,(.r (.int .i64))),(4,(.v (.int .i64)))] [] (fun k x kx kr=>s_l01Essential_l3 K k x.1 x.2.1 x.2.2.1 (fun z0=>kx 0 (mkSt X0_s_l01Essential (z0,()))))]
theorem ok_s_l01Essential (K:Nat):FnOk Tryz.prog 104 (sp_s_l01Essential (s_l01Essential K)) :=
  fn_okD tysOk [C_s_l01Fix K] 0 (D_s_l01Essential K) [(0,X0_s_l01Essential)] rv_s_l01Essential K Tryz.func104 (by kernel_rfl) ⟨⟨fun _ _ _ _=>by kernel_rfl,fun _ _ _=>rfl⟩,trivial⟩ (fun _=>by kernel_rfl)
noncomputable def C_s_l01Essential (K:Nat):CB Tryz.prog:=.f _ _ (ok_s_l01Essential K)
noncomputable def as_s_l08Joined:Ty:=(.pair tq0 (.pair .bool .unit))
noncomputable def sp_s_l08Joined (F:(dq0 × Bool × Unit)->Option Bool):FnSpec:=⟨as_s_l08Joined,[false,false],.bool,F⟩
noncomputable def s_l08Joined_l9 {R:Type} (K:Nat):Nat->Bool->dq0->(List Int)->Int->Int->Int->(Bool->dq0->(List Int)->Int->Int->Option R)->Option R
  | 0,_,_,_,_,_,_,_=>none
  | k + 1,v1,v2,v5,v6,v7,v8,kx2 =>
    (if (decide (v8 < (v5.length:Int)))=true then
    (if (bnds v8 (v5.length:Int))=true then
    (if (decide ((0:Int)<=(IntKind.u64.wrap (v5.getD v8.toNat (0:Int)))))=true then
    let x4:=(shrI .i64 v6 (IntKind.u64.wrap (v5.getD v8.toNat (0:Int))))
    (if (decide ((bitI .and .i64 x4 (1:Int))=(1:Int)))=true then
    s_l08Joined_l9 K k v1 v2 v5 v6 (IntKind.i64.wrap (v7 + (1:Int))) (IntKind.i64.wrap (v8 + (1:Int))) kx2
    else
    s_l08Joined_l9 K k v1 v2 v5 v6 v7 (IntKind.i64.wrap (v8 + (1:Int))) kx2)
    else
    none)
    else
    none)
    else
    kx2 v1 v2 v5 v6 v7)
noncomputable def s_l08Joined_j16 {R:Type} (K:Nat) (k:Nat) (v1:Bool) (v2:dq0) (v5:(List Int)) (v6:Int) (v9:Bool) (kn:Bool->dq0->(List Int)->Int->Option R) (kr:(Bool->Option R)):Option R :=
    (s_l01At K (v2,v6,())).bind fun y10 =>
    (if (!(v9 == (decide (y10=(1:Int)))))=true then
    kr false
    else
    kn v1 v2 v5 v6)
noncomputable def s_l08Joined_l5 {R:Type} (K:Nat):Nat->Bool->dq0->(List Int)->Int->(Option R)->(Bool->Option R)->Option R
  | 0,_,_,_,_,_,_=>none
  | k + 1,v1,v2,v5,v6,kx0,kr =>
    (s_l01Rows K (v2.1,())).bind fun y3 =>
    (if (decide (v6 < y3))=true then
    s_l08Joined_l9 K k v1 v2 v5 v6 (0:Int) (0:Int) (fun z5 z6 z7 z8 z9 =>
    (if z5=true then
    s_l08Joined_j16 K k z5 z6 z7 z8 (decide (z9=(z7.length:Int))) (fun z11 z12 z13 z14 =>
    s_l08Joined_l5 K k z11 z12 z13 (IntKind.i64.wrap (z14 + (1:Int))) kx0 kr) (fun z15 =>
    kr z15)
    else
    s_l08Joined_j16 K k z5 z6 z7 z8 (decide (z9 > (0:Int))) (fun z16 z17 z18 z19 =>
    s_l08Joined_l5 K k z16 z17 z18 (IntKind.i64.wrap (z19 + (1:Int))) kx0 kr) (fun z20 =>
    kr z20)))
    else
    kx0)
noncomputable def s_l08Joined_j3 {R:Type} (K:Nat) (k:Nat) (v1:Bool) (v2:dq0) (kn:Option R) (kr:(Bool->Option R)):Option R :=
    (s_l01Essential K (v2,())).bind fun y2 =>
    s_l08Joined_l5 K k v1 v2 y2 (0:Int) (kr true) (fun z21 =>
    kr z21)
noncomputable def s_l08Joined (K:Nat) (x:(dq0 × Bool × Unit)):Option Bool :=
    (if (decide (x.1.2.1=(0:Int)))=true then
    some true
    else
    (s_l01All K (x.1.1,())).bind fun y1 =>
    (if (decide (x.1.2.1=y1))=true then
    some true
    else
    s_l08Joined_j3 K K x.2.1 x.1 none (fun z22 =>
    some z22)))
noncomputable def X0_s_l08Joined:Lv:=[]
noncomputable def X2_s_l08Joined:Lv:=[(1,(.v .bool)),(2,(.bx (.v tq0))),(5,(.r (.int .i64))),(6,(.v (.int .i64))),(7,(.v (.int .i64)))]
noncomputable def rv_s_l08Joined:Lv:=[(4,(.v .bool))]
noncomputable def D_s_l08Joined (K:Nat):List (PD (den .bool)):=[.J 3 [(1,(.v .bool)),(2,(.bx (.v tq0)))] [] 0 (fun k x kn kx kr=>s_l08Joined_j3 K k x.1 x.2.1 (kn ()) (fun z0=>kr (mkSt rv_s_l08Joined (z0,())))),
  .L 5 [(1,(.v .bool)),(2,(.bx (.v tq0))),(5,(.r (.int .i64))),(6,(.v (.int .i64)))] [] (fun k x kx kr=>s_l08Joined_l5 K k x.1 x.2.1 x.2.2.1 x.2.2.2.1 (kx 0 (mkSt X0_s_l08Joined ())) (fun z0=>kr (mkSt rv_s_l08Joined (z0,())))),
  .L 9 [(1,(.v .bool)),(2,(.bx (.v tq0))),(5,(.r (.int .i64))),(6,(.v (.int .i64))),(7,(.v (.int .i64))),(8,(.v (.int .i64)))] [] (fun k x kx kr=>s_l08Joined_l9 K k x.1 x.2.1 x.2.2.1 x.2.2.2.1 x.2.2.2.2.1 x.2.2.2.2.2.1 (fun z0 z1 z2 z3 z4=>kx 2 (mkSt X2_s_l08Joined (z0,z1,z2,z3,z4,())))),
  .J 16 [(1,(.v .bool)),(2,(.bx (.v tq0))),(5,(.r (.int .i64))),(6,(.v (.int .i64))),(9,(.v .bool))] [(1,(.v .bool)),(2,(.bx (.v tq0))),(5,(.r (.int .i64))),(6,(.v (.int .i64)))] 0 (fun k x kn kx kr=>s_l08Joined_j16 K k x.1 x.2.1 x.2.2.1 x.2.2.2.1 x.2.2.2.2.1 (fun z0 z1 z2 z3=>kn (z0,z1,z2,z3,())) (fun z0=>kr (mkSt rv_s_l08Joined (z0,()))))]
theorem ok_s_l08Joined (K:Nat):FnOk Tryz.prog 105 (sp_s_l08Joined (s_l08Joined K)) :=
  fn_okD tysOk [C_s_l01All K,C_s_l01Essential K,C_s_l01Rows K,C_s_l01At K] 0 (D_s_l08Joined K) [(0,X0_s_l08Joined),(2,X2_s_l08Joined)] rv_s_l08Joined K Tryz.func105 (by kernel_rfl) ⟨fun _ _ _ _ _=>by kernel_rfl,⟨⟨fun _ _ _ _=>by kernel_rfl,fun _ _ _=>rfl⟩,⟨⟨fun _ _ _ _=>by kernel_rfl,fun _ _ _=>rfl⟩,⟨fun _ _ _ _ _=>by kernel_rfl,trivial⟩⟩⟩⟩ (fun _=>by kernel_rfl)
noncomputable def C_s_l08Joined (K:Nat):CB Tryz.prog:=.f _ _ (ok_s_l08Joined K)
noncomputable def s_l08Apart_j9 {R:Type} (K:Nat) (r:((List Int) × Int × Int × Int × Int × Int × Unit)->Option Bool) (k:Nat) (v0:(List Int)) (v1:Int) (v2:Int) (v3:Int) (v5:Int) (v13:Int) (v14:Int) (kn:(List Int)->Int->Int->Int->Int->Int->Option R) (kr:(Bool->Option R)):Option R :=
    (r (v0,v1,v2,(IntKind.i64.wrap (v3 - (1:Int))),(IntKind.i64.wrap (v13 + (1:Int))),(bitI .and .i64 v5 v14),())).bind fun y3 =>
    (if (!y3)=true then
    kr false
    else
    kn v0 v1 v2 v3 v5 v13)
noncomputable def s_l08Apart_l4 {R:Type} (K:Nat) (r:((List Int) × Int × Int × Int × Int × Int × Unit)->Option Bool):Nat->(List Int)->Int->Int->Int->Int->Int->(Option R)->(Bool->Option R)->Option R
  | 0,_,_,_,_,_,_,_,_=>none
  | k + 1,v0,v1,v2,v3,v5,v13,kx0,kr =>
    (if (decide (v13 < (v0.length:Int)))=true then
    (if (bnds v13 (v0.length:Int))=true then
    (if (decide (v2=(0:Int)))=true then
    (s_l01Rows K (v1,())).bind fun y1 =>
    let x2:=(IntKind.i64.wrap ((IntKind.i64.wrap (y1 - (1:Int))) - (v0.getD v13.toNat (0:Int))))
    s_l08Apart_j9 K r k v0 v1 v2 v3 v5 v13 x2 (fun z4 z5 z6 z7 z8 z9 =>
    s_l08Apart_l4 K r k z4 z5 z6 z7 z8 (IntKind.i64.wrap (z9 + (1:Int))) kx0 kr) (fun z10 =>
    kr z10)
    else
    s_l08Apart_j9 K r k v0 v1 v2 v3 v5 v13 (v0.getD v13.toNat (0:Int)) (fun z11 z12 z13 z14 z15 z16 =>
    s_l08Apart_l4 K r k z11 z12 z13 z14 z15 (IntKind.i64.wrap (z16 + (1:Int))) kx0 kr) (fun z17 =>
    kr z17))
    else
    none)
    else
    kx0)
noncomputable def s_l08Apart_b (K:Nat) (r:((List Int) × Int × Int × Int × Int × Int × Unit)->Option Bool) (x:((List Int) × Int × Int × Int × Int × Int × Unit)):Option Bool :=
    (if (decide (x.2.2.2.1=(0:Int)))=true then
    some (!decide (x.2.2.2.2.2.1=(0:Int)))
    else
    s_l08Apart_l4 K r K x.1 x.2.1 x.2.2.1 x.2.2.2.1 x.2.2.2.2.2.1 x.2.2.2.2.1 (some true) (fun z18 =>
    some z18))
noncomputable def s_l08Apart (K:Nat):Nat->((List Int) × Int × Int × Int × Int × Int × Unit)->Option Bool
  | 0=>fun _=>none
  | k + 1=>s_l08Apart_b K (s_l08Apart K k)
noncomputable def X0_s_l08Apart:Lv:=[]
noncomputable def rv_s_l08Apart:Lv:=[(12,(.v .bool))]
noncomputable def D_s_l08Apart (K:Nat) (r:((List Int) × Int × Int × Int × Int × Int × Unit)->Option Bool):List (PD (den .bool)):=[.L 4 [(0,(.v (.sl (.int .i64)))),(1,(.v (.int .i64))),(2,(.v (.int .i64))),(3,(.v (.int .i64))),(5,(.v (.int .i64))),(13,(.v (.int .i64)))] [] (fun k x kx kr=>s_l08Apart_l4 K r k x.1 x.2.1 x.2.2.1 x.2.2.2.1 x.2.2.2.2.1 x.2.2.2.2.2.1 (kx 0 (mkSt X0_s_l08Apart ())) (fun z0=>kr (mkSt rv_s_l08Apart (z0,())))),
  .J 9 [(0,(.v (.sl (.int .i64)))),(1,(.v (.int .i64))),(2,(.v (.int .i64))),(3,(.v (.int .i64))),(5,(.v (.int .i64))),(13,(.v (.int .i64))),(14,(.v (.int .i64)))] [(0,(.v (.sl (.int .i64)))),(1,(.v (.int .i64))),(2,(.v (.int .i64))),(3,(.v (.int .i64))),(5,(.v (.int .i64))),(13,(.v (.int .i64)))] 0 (fun k x kn kx kr=>s_l08Apart_j9 K r k x.1 x.2.1 x.2.2.1 x.2.2.2.1 x.2.2.2.2.1 x.2.2.2.2.2.1 x.2.2.2.2.2.2.1 (fun z0 z1 z2 z3 z4 z5=>kn (z0,z1,z2,z3,z4,z5,())) (fun z0=>kr (mkSt rv_s_l08Apart (z0,()))))]
theorem okb_s_l08Apart (K:Nat) (r:((List Int) × Int × Int × Int × Int × Int × Unit)->Option Bool) (hr:FnOk Tryz.prog 172 (sp_s_l08Apart r)):FnOk Tryz.prog 172 (sp_s_l08Apart (s_l08Apart_b K r)) :=
  fn_okD tysOk [C_s_l01Rows K,.f _ (sp_s_l08Apart (r)) (hr)] 0 (D_s_l08Apart K r) [(0,X0_s_l08Apart)] rv_s_l08Apart K Tryz.func172 (by kernel_rfl) ⟨⟨fun _ _ _ _=>by kernel_rfl,fun _ _ _=>rfl⟩,⟨fun _ _ _ _ _=>by kernel_rfl,trivial⟩⟩ (fun _=>by kernel_rfl)
theorem ok_s_l08Apart (K:Nat):∀ k,FnOk Tryz.prog 172 (sp_s_l08Apart (s_l08Apart K k))
  | 0=>fnOk_none
  | k + 1=>okb_s_l08Apart K (s_l08Apart K k) (ok_s_l08Apart K k)
noncomputable def as_s_l08Degree:Ty:=(.pair tq0 (.pair (.int .i64) .unit))
noncomputable def sp_s_l08Degree (F:(dq0 × Int × Unit)->Option Int):FnSpec:=⟨as_s_l08Degree,[false,false],(.int .i64),F⟩
noncomputable def s_l08Degree_l3 {R:Type} (K:Nat):Nat->Int->dq0->(List Int)->Int->(Int->dq0->(List Int)->Option R)->Option R
  | 0,_,_,_,_,_=>none
  | k + 1,v1,v2,v5,v6,kx0 =>
    (s_l01Rows K (v2.1,())).bind fun y2 =>
    (if (decide (v6 < y2))=true then
    (s_l01At K (v2,v6,())).bind fun y3 =>
    (if (decide (y3=v1))=true then
    (if (decide (v5.length + ([v6]).length<=lim))=true then
    let l4:=(v5 ++ [v6])
    s_l08Degree_l3 K k v1 v2 l4 (IntKind.i64.wrap (v6 + (1:Int))) kx0
    else
    none)
    else
    s_l08Degree_l3 K k v1 v2 v5 (IntKind.i64.wrap (v6 + (1:Int))) kx0)
    else
    kx0 v1 v2 v5)
noncomputable def s_l08Degree_l8 {R:Type} (K:Nat):Nat->Int->dq0->(List Int)->Int->(Option R)->(Int->Option R)->Option R
  | 0,_,_,_,_,_,_=>none
  | k + 1,v1,v2,v5,v7,kx2,kr =>
    (if (decide (v7<=(minL (v5.length:Int) [(4:Int)])))=true then
    (s_l01Rows K (v2.1,())).bind fun y8 =>
    (s_l08Apart K K (v5,v2.1,v1,v7,(0:Int),(IntKind.i64.wrap (y8 - (1:Int))),())).bind fun y9 =>
    (if (!y9)=true then
    kr (IntKind.i64.wrap (v7 - (1:Int)))
    else
    s_l08Degree_l8 K k v1 v2 v5 (IntKind.i64.wrap (v7 + (1:Int))) kx2 kr)
    else
    kx2)
noncomputable def s_l08Degree (K:Nat) (x:(dq0 × Int × Unit)):Option Int :=
    let l1:=([]:List Int)
    s_l08Degree_l3 K K x.2.1 x.1 l1 (0:Int) (fun z5 z6 z7 =>
    s_l08Degree_l8 K K z5 z6 z7 (1:Int) (some (9:Int)) (fun z10 =>
    some z10))
noncomputable def X0_s_l08Degree:Lv:=[(1,(.v (.int .i64))),(2,(.bx (.v tq0))),(5,(.r (.int .i64)))]
noncomputable def X2_s_l08Degree:Lv:=[]
noncomputable def rv_s_l08Degree:Lv:=[(4,(.v (.int .i64)))]
noncomputable def D_s_l08Degree (K:Nat):List (PD (den (.int .i64))):=[.L 3 [(1,(.v (.int .i64))),(2,(.bx (.v tq0))),(5,(.r (.int .i64))),(6,(.v (.int .i64)))] [] (fun k x kx kr=>s_l08Degree_l3 K k x.1 x.2.1 x.2.2.1 x.2.2.2.1 (fun z0 z1 z2=>kx 0 (mkSt X0_s_l08Degree (z0,z1,z2,())))),
  .L 8 [(1,(.v (.int .i64))),(2,(.bx (.v tq0))),(5,(.r (.int .i64))),(7,(.v (.int .i64)))] [] (fun k x kx kr=>s_l08Degree_l8 K k x.1 x.2.1 x.2.2.1 x.2.2.2.1 (kx 2 (mkSt X2_s_l08Degree ())) (fun z0=>kr (mkSt rv_s_l08Degree (z0,()))))]
theorem ok_s_l08Degree (K:Nat):FnOk Tryz.prog 106 (sp_s_l08Degree (s_l08Degree K)) :=
  fn_okD tysOk [C_s_l01Rows K,C_s_l01At K,.f _ (sp_s_l08Apart (s_l08Apart K K)) (ok_s_l08Apart K K)] 0 (D_s_l08Degree K) [(0,X0_s_l08Degree),(2,X2_s_l08Degree)] rv_s_l08Degree K Tryz.func106 (by kernel_rfl) ⟨⟨fun _ _ _ _=>by kernel_rfl,fun _ _ _=>rfl⟩,⟨⟨fun _ _ _ _=>by kernel_rfl,fun _ _ _=>rfl⟩,trivial⟩⟩ (fun _=>by kernel_rfl)
noncomputable def C_s_l08Degree (K:Nat):CB Tryz.prog:=.f _ _ (ok_s_l08Degree K)
noncomputable def as_s_l08Four:Ty:=(.pair (.int .i64) (.pair .str (.pair .str (.pair .str (.pair .str .unit)))))
noncomputable def sp_s_l08Four (F:(Int × ByteArray × ByteArray × ByteArray × ByteArray × Unit)->Option ByteArray):FnSpec:=⟨as_s_l08Four,[false,false,false,false,false],.str,F⟩
noncomputable def s_l08Four (K:Nat) (x:(Int × ByteArray × ByteArray × ByteArray × ByteArray × Unit)):Option ByteArray :=
    (if (decide ((bitI .and .i64 x.1 (3:Int))=(3:Int)))=true then
    some x.2.1
    else
    (if (decide ((bitI .and .i64 x.1 (3:Int))=(1:Int)))=true then
    some x.2.2.1
    else
    (if (decide ((bitI .and .i64 x.1 (3:Int))=(2:Int)))=true then
    some x.2.2.2.1
    else
    some x.2.2.2.2.1)))
noncomputable def rv_s_l08Four:Lv:=[(10,(.v .str))]
theorem ok_s_l08Four (K:Nat):FnOk Tryz.prog 107 (sp_s_l08Four (s_l08Four K)) :=
  fn_okD tysOk [] 0 [] [] rv_s_l08Four K Tryz.func107 (by kernel_rfl) trivial (fun _=>by kernel_rfl)
noncomputable def C_s_l08Four (K:Nat):CB Tryz.prog:=.f _ _ (ok_s_l08Four K)
noncomputable def s_l01Dec_b (K:Nat) (r:(Int × Unit)->Option ByteArray) (x:(Int × Unit)):Option ByteArray :=
    (if (decide (x.1 < (0:Int)))=true then
    (r ((IntKind.i64.wrap (0 - x.1)),())).bind fun y1 =>
    (if (decide ((⟨#[45]⟩:ByteArray).size + y1.size<=9223372036854775807))=true then
    some ((⟨#[45]⟩:ByteArray) ++ y1)
    else
    none)
    else
    (if (decide (x.1 < (10:Int)))=true then
    let l2:=[(IntKind.u8.wrap (IntKind.i64.wrap ((48:Int) + x.1)))]
    some (bytesOf l2)
    else
    (r ((IntKind.i64.wrap (Int.tdiv x.1 (10:Int))),())).bind fun y3 =>
    let x4:=(IntKind.u8.wrap (IntKind.i64.wrap ((48:Int) + (Int.tmod x.1 (10:Int)))))
    (if (decide (y3.size + (bytesOf ([x4])).size<=9223372036854775807))=true then
    some (y3 ++ (bytesOf ([x4])))
    else
    none)))
noncomputable def s_l01Dec (K:Nat):Nat->(Int × Unit)->Option ByteArray
  | 0=>fun _=>none
  | k + 1=>s_l01Dec_b K (s_l01Dec K k)
noncomputable def rv_s_l01Dec:Lv:=[(2,(.v .str))]
theorem okb_s_l01Dec (K:Nat) (r:(Int × Unit)->Option ByteArray) (hr:FnOk Tryz.prog 173 (sp_s_l01Dec r)):FnOk Tryz.prog 173 (sp_s_l01Dec (s_l01Dec_b K r)) :=
  fn_okD tysOk [.f _ (sp_s_l01Dec (r)) (hr)] 0 [] [] rv_s_l01Dec K Tryz.func173 (by kernel_rfl) trivial (fun _=>by kernel_rfl)
theorem ok_s_l01Dec (K:Nat):∀ k,FnOk Tryz.prog 173 (sp_s_l01Dec (s_l01Dec K k))
  | 0=>fnOk_none
  | k + 1=>okb_s_l01Dec K (s_l01Dec K k) (ok_s_l01Dec K k)
noncomputable def as_s_l08Degrees:Ty:=(.pair .str (.pair (.int .i64) .unit))
noncomputable def sp_s_l08Degrees (F:(ByteArray × Int × Unit)->Option ByteArray):FnSpec:=⟨as_s_l08Degrees,[false,false],.str,F⟩
noncomputable def s_l08Degrees (K:Nat) (x:(ByteArray × Int × Unit)):Option ByteArray :=
    (if (decide (x.2.1=(9:Int)))=true then
    some x.1
    else
    (if (decide (x.1.size + (⟨#[94]⟩:ByteArray).size<=9223372036854775807))=true then
    (s_l01Dec K K (x.2.1,())).bind fun y1 =>
    (if (decide ((x.1 ++ (⟨#[94]⟩:ByteArray)).size + y1.size<=9223372036854775807))=true then
    some ((x.1 ++ (⟨#[94]⟩:ByteArray)) ++ y1)
    else
    none)
    else
    none))
noncomputable def rv_s_l08Degrees:Lv:=[(4,(.v .str))]
theorem ok_s_l08Degrees (K:Nat):FnOk Tryz.prog 108 (sp_s_l08Degrees (s_l08Degrees K)) :=
  fn_okD tysOk [.f _ (sp_s_l01Dec (s_l01Dec K K)) (ok_s_l01Dec K K)] 0 [] [] rv_s_l08Degrees K Tryz.func108 (by kernel_rfl) trivial (fun _=>by kernel_rfl)
noncomputable def C_s_l08Degrees (K:Nat):CB Tryz.prog:=.f _ _ (ok_s_l08Degrees K)
noncomputable def as_s_l08Kind:Ty:=(.pair .bool (.pair .bool (.pair .str (.pair .str (.pair .str (.pair .str .unit))))))
noncomputable def sp_s_l08Kind (F:(Bool × Bool × ByteArray × ByteArray × ByteArray × ByteArray × Unit)->Option ByteArray):FnSpec:=⟨as_s_l08Kind,[false,false,false,false,false,false],.str,F⟩
noncomputable def s_l08Kind_j3 {R:Type} (K:Nat) (k:Nat) (v0:Bool) (v1:Bool) (v3:ByteArray) (v4:ByteArray) (v5:ByteArray) (kn:ByteArray->Option R) (kr:(ByteArray->Option R)):Option R :=
    gN K ((if v1=true then
    kr v3
    else
    (if v0=true then
    kr v4
    else
    kn v5)))
noncomputable def s_l08Kind (K:Nat) (x:(Bool × Bool × ByteArray × ByteArray × ByteArray × ByteArray × Unit)):Option ByteArray :=
    (if x.1=true then
    (if x.2.1=true then
    some x.2.2.1
    else
    s_l08Kind_j3 K K x.1 x.2.1 x.2.2.2.1 x.2.2.2.2.1 x.2.2.2.2.2.1 (fun z1 =>
    some z1) (fun z2 =>
    some z2))
    else
    s_l08Kind_j3 K K x.1 x.2.1 x.2.2.2.1 x.2.2.2.2.1 x.2.2.2.2.2.1 (fun z3 =>
    some z3) (fun z4 =>
    some z4))
noncomputable def rv_s_l08Kind:Lv:=[(12,(.v .str))]
noncomputable def D_s_l08Kind (K:Nat):List (PD (den .str)):=[.J 3 [(0,(.v .bool)),(1,(.v .bool)),(3,(.v .str)),(4,(.v .str)),(5,(.v .str))] [(5,(.v .str))] K (fun k x kn kx kr=>s_l08Kind_j3 K k x.1 x.2.1 x.2.2.1 x.2.2.2.1 x.2.2.2.2.1 (fun z0=>kn (z0,())) (fun z0=>kr (mkSt rv_s_l08Kind (z0,()))))]
theorem ok_s_l08Kind (K:Nat):FnOk Tryz.prog 109 (sp_s_l08Kind (s_l08Kind K)) :=
  fn_okD tysOk [] 0 (D_s_l08Kind K) [] rv_s_l08Kind K Tryz.func109 (by kernel_rfl) ⟨fun _ _ _ _ _=>by kernel_rfl,trivial⟩ (fun _=>by kernel_rfl)
noncomputable def C_s_l08Kind (K:Nat):CB Tryz.prog:=.f _ _ (ok_s_l08Kind K)
noncomputable def as_s_l08Name:Ty:=(.pair (.sl tq0) .unit)
noncomputable def sp_s_l08Name (F:((List dq0) × Unit)->Option ByteArray):FnSpec:=⟨as_s_l08Name,[false],.str,F⟩
noncomputable def s_l08Name_j9 {R:Type} (K:Nat) (k:Nat) (v0:(List dq0)) (v3:Int) (v4:Bool) (v5:Bool) (v6:Bool) (v7:Int) (v8:Int) (v9:Int) (kn:(List dq0)->Int->Bool->Bool->Bool->Int->Int->Int->Option R) :Option R :=
    (if (bnds v9 (v0.length:Int))=true then
    (s_l08Degree K ((v0.getD v9.toNat ((0:Int),(0:Int),())),(0:Int),())).bind fun y6 =>
    (if (bnds v9 (v0.length:Int))=true then
    (s_l08Degree K ((v0.getD v9.toNat ((0:Int),(0:Int),())),(1:Int),())).bind fun y7 =>
    kn v0 v3 v4 v5 v6 (minL v7 [y6]) (minL v8 [y7]) v9
    else
    none)
    else
    none)
noncomputable def s_l08Name_j8 {R:Type} (K:Nat) (k:Nat) (v0:(List dq0)) (v3:Int) (v4:Bool) (v5:Bool) (v6:Bool) (v7:Int) (v8:Int) (v9:Int) (kn:(List dq0)->Int->Bool->Bool->Bool->Int->Int->Int->Option R) :Option R :=
    (if v6=true then
    (if (bnds v9 (v0.length:Int))=true then
    (s_l08Joined K ((v0.getD v9.toNat ((0:Int),(0:Int),())),true,())).bind fun y5 =>
    s_l08Name_j9 K k v0 v3 v4 v5 y5 v7 v8 v9 (fun z8 z9 z10 z11 z12 z13 z14 z15 =>
    kn z8 z9 z10 z11 z12 z13 z14 z15)
    else
    none)
    else
    s_l08Name_j9 K k v0 v3 v4 v5 false v7 v8 v9 (fun z16 z17 z18 z19 z20 z21 z22 z23 =>
    kn z16 z17 z18 z19 z20 z21 z22 z23))
noncomputable def s_l08Name_j7 {R:Type} (K:Nat) (k:Nat) (v0:(List dq0)) (v3:Int) (v4:Bool) (v5:Bool) (v6:Bool) (v7:Int) (v8:Int) (v9:Int) (kn:(List dq0)->Int->Bool->Bool->Bool->Int->Int->Int->Option R) :Option R :=
    (if v5=true then
    (if (bnds v9 (v0.length:Int))=true then
    (s_l08Joined K ((v0.getD v9.toNat ((0:Int),(0:Int),())),false,())).bind fun y4 =>
    s_l08Name_j8 K k v0 v3 v4 y4 v6 v7 v8 v9 (fun z24 z25 z26 z27 z28 z29 z30 z31 =>
    kn z24 z25 z26 z27 z28 z29 z30 z31)
    else
    none)
    else
    s_l08Name_j8 K k v0 v3 v4 false v6 v7 v8 v9 (fun z32 z33 z34 z35 z36 z37 z38 z39 =>
    kn z32 z33 z34 z35 z36 z37 z38 z39))
noncomputable def s_l08Name_j5 {R:Type} (K:Nat) (k:Nat) (v0:(List dq0)) (v3:Int) (v4:Bool) (v5:Bool) (v6:Bool) (v7:Int) (v8:Int) (v9:Int) (kn:(List dq0)->Int->Bool->Bool->Bool->Int->Int->Int->Option R) :Option R :=
    kn v0 v3 v4 v5 v6 v7 v8 (IntKind.i64.wrap (v9 + (1:Int)))
noncomputable def s_l08Name_l4 {R:Type} (K:Nat):Nat->(List dq0)->Int->Bool->Bool->Bool->Int->Int->Int->(Int->Bool->Bool->Bool->Int->Int->Option R)->Option R
  | 0,_,_,_,_,_,_,_,_,_=>none
  | k + 1,v0,v3,v4,v5,v6,v7,v8,v9,kx0 =>
    (if (decide (v9 < (v0.length:Int)))=true then
    (if v4=true then
    (if (bnds v9 (v0.length:Int))=true then
    (s_l01Essential K ((v0.getD v9.toNat ((0:Int),(0:Int),())),())).bind fun y3 =>
    s_l08Name_j7 K k v0 v3 (decide ((y3.length:Int)<=(1:Int))) v5 v6 v7 v8 v9 (fun z40 z41 z42 z43 z44 z45 z46 z47 =>
    s_l08Name_j5 K k z40 z41 z42 z43 z44 z45 z46 z47 (fun z48 z49 z50 z51 z52 z53 z54 z55 =>
    s_l08Name_l4 K k z48 z49 z50 z51 z52 z53 z54 z55 kx0))
    else
    none)
    else
    s_l08Name_j7 K k v0 v3 false v5 v6 v7 v8 v9 (fun z56 z57 z58 z59 z60 z61 z62 z63 =>
    s_l08Name_j5 K k z56 z57 z58 z59 z60 z61 z62 z63 (fun z64 z65 z66 z67 z68 z69 z70 z71 =>
    s_l08Name_l4 K k z64 z65 z66 z67 z68 z69 z70 z71 kx0)))
    else
    kx0 v3 v4 v5 v6 v7 v8)
noncomputable def s_l08Name_j32 {R:Type} (K:Nat) (k:Nat) (v3:Int) (v7:Int) (v8:Int) (v10:Bool) (v11:Bool) (kn:Int->Option R) (kr:(ByteArray->Option R)):Option R :=
    gN K ((if v10=true then
    kr (⟨#[68]⟩:ByteArray)
    else
    (if (decide (v7 ≥ (2:Int)))=true then
    (s_l08Kind K ((!decide ((bitI .and .i64 v3 (1:Int))=(0:Int))),v11,(⟨#[83,48,48]⟩:ByteArray),(⟨#[83,48,49]⟩:ByteArray),(⟨#[83,48,50]⟩:ByteArray),(⟨#[83,48]⟩:ByteArray),())).bind fun y82 =>
    (s_l08Degrees K (y82,v7,())).bind fun y83 =>
    kr y83
    else
    (if (decide (v8 ≥ (2:Int)))=true then
    (s_l08Kind K ((!decide ((bitI .and .i64 v3 (2:Int))=(0:Int))),v11,(⟨#[83,49,48]⟩:ByteArray),(⟨#[83,49,49]⟩:ByteArray),(⟨#[83,49,50]⟩:ByteArray),(⟨#[83,49]⟩:ByteArray),())).bind fun y84 =>
    (s_l08Degrees K (y84,v8,())).bind fun y85 =>
    kr y85
    else
    (if v11=true then
    (s_l08Four K (v3,(⟨#[77,50]⟩:ByteArray),(⟨#[77,48]⟩:ByteArray),(⟨#[77,49]⟩:ByteArray),(⟨#[77]⟩:ByteArray),())).bind fun y86 =>
    kr y86
    else
    kn v3)))))
noncomputable def s_l08Name_j30 {R:Type} (K:Nat) (k:Nat) (v3:Int) (v7:Int) (v8:Int) (v10:Bool) (v11:Bool) (kn:Int->Option R) (kr:(ByteArray->Option R)):Option R :=
    gN K ((if v10=true then
    (if (!decide ((bitI .and .i64 v3 (1:Int))=(0:Int)))=true then
    kr (⟨#[68,49]⟩:ByteArray)
    else
    s_l08Name_j32 K k v3 v7 v8 v10 v11 (fun z87 =>
    kn z87) (fun z88 =>
    kr z88))
    else
    s_l08Name_j32 K k v3 v7 v8 v10 v11 (fun z89 =>
    kn z89) (fun z90 =>
    kr z90)))
noncomputable def s_l08Name_j26 {R:Type} (K:Nat) (k:Nat) (v3:Int) (v7:Int) (v8:Int) (v10:Bool) (v11:Bool) (v12:Bool) (kn:Int->Option R) (kr:(ByteArray->Option R)):Option R :=
    gN K ((if v12=true then
    (s_l08Four K (v3,(⟨#[76,50]⟩:ByteArray),(⟨#[76,48]⟩:ByteArray),(⟨#[76,49]⟩:ByteArray),(⟨#[76]⟩:ByteArray),())).bind fun y81 =>
    kr y81
    else
    (if v10=true then
    (if v11=true then
    kr (⟨#[68,50]⟩:ByteArray)
    else
    s_l08Name_j30 K k v3 v7 v8 v10 v11 (fun z91 =>
    kn z91) (fun z92 =>
    kr z92))
    else
    s_l08Name_j30 K k v3 v7 v8 v10 v11 (fun z93 =>
    kn z93) (fun z94 =>
    kr z94))))
noncomputable def s_l08Name_j24 {R:Type} (K:Nat) (k:Nat) (v3:Int) (v7:Int) (v8:Int) (v10:Bool) (v11:Bool) (v12:Bool) (kn:Int->Option R) (kr:(ByteArray->Option R)):Option R :=
    gN K ((if v12=true then
    (if v10=true then
    kr (⟨#[76,51]⟩:ByteArray)
    else
    s_l08Name_j26 K k v3 v7 v8 v10 v11 v12 (fun z95 =>
    kn z95) (fun z96 =>
    kr z96))
    else
    s_l08Name_j26 K k v3 v7 v8 v10 v11 v12 (fun z97 =>
    kn z97) (fun z98 =>
    kr z98)))
noncomputable def s_l08Name_j16 {R:Type} (K:Nat) (k:Nat) (v3:Int) (v4:Bool) (v5:Bool) (v6:Bool) (v7:Int) (v8:Int) (v10:Bool) (v11:Bool) (v12:Bool) (kn:Int->Option R) (kr:(ByteArray->Option R)):Option R :=
    gN K ((if v4=true then
    kr (⟨#[78]⟩:ByteArray)
    else
    (if v5=true then
    (s_l08Four K (v3,(⟨#[86,50]⟩:ByteArray),(⟨#[86,48]⟩:ByteArray),(⟨#[86,49]⟩:ByteArray),(⟨#[86]⟩:ByteArray),())).bind fun y79 =>
    kr y79
    else
    (if v6=true then
    (s_l08Four K (v3,(⟨#[69,50]⟩:ByteArray),(⟨#[69,48]⟩:ByteArray),(⟨#[69,49]⟩:ByteArray),(⟨#[69]⟩:ByteArray),())).bind fun y80 =>
    kr y80
    else
    (if v12=true then
    (if (decide ((bitI .and .i64 v3 (3:Int))=(3:Int)))=true then
    kr (⟨#[76,50]⟩:ByteArray)
    else
    s_l08Name_j24 K k v3 v7 v8 v10 v11 v12 (fun z99 =>
    kn z99) (fun z100 =>
    kr z100))
    else
    s_l08Name_j24 K k v3 v7 v8 v10 v11 v12 (fun z101 =>
    kn z101) (fun z102 =>
    kr z102))))))
noncomputable def s_l08Name_j14 {R:Type} (K:Nat) (k:Nat) (v3:Int) (v4:Bool) (v5:Bool) (v6:Bool) (v7:Int) (v8:Int) (v10:Bool) (v11:Bool) (v12:Bool) (kn:Int->Option R) (kr:(ByteArray->Option R)):Option R :=
    gN K ((if v4=true then
    (if v10=true then
    kr (⟨#[78,50]⟩:ByteArray)
    else
    s_l08Name_j16 K k v3 v4 v5 v6 v7 v8 v10 v11 v12 (fun z103 =>
    kn z103) (fun z104 =>
    kr z104))
    else
    s_l08Name_j16 K k v3 v4 v5 v6 v7 v8 v10 v11 v12 (fun z105 =>
    kn z105) (fun z106 =>
    kr z106)))
noncomputable def s_l08Name_j40 {R:Type} (K:Nat) (k:Nat) (v3:Int) (kn:Option R) (kr:(ByteArray->Option R)):Option R :=
    (s_l08Four K (v3,(⟨#[82,50]⟩:ByteArray),(⟨#[82,48]⟩:ByteArray),(⟨#[82,49]⟩:ByteArray),(⟨#[66,70]⟩:ByteArray),())).bind fun y108 =>
    kr y108
noncomputable def s_l08Name (K:Nat) (x:((List dq0) × Unit)):Option ByteArray :=
    (s_l02Whole K (x.1,())).bind fun y1 =>
    (s_l02Classes K (x.1,y1,())).bind fun y2 =>
    s_l08Name_l4 K K x.1 y2 true true true (9:Int) (9:Int) (0:Int) (fun z72 z73 z74 z75 z76 z77 =>
    (if z73=true then
    (if (!decide ((bitI .and .i64 z72 (8:Int))=(0:Int)))=true then
    (s_l08Four K (z72,(⟨#[73,50]⟩:ByteArray),(⟨#[73,48]⟩:ByteArray),(⟨#[73,49]⟩:ByteArray),(⟨#[73]⟩:ByteArray),())).bind fun y78 =>
    some y78
    else
    s_l08Name_j14 K K z72 z73 z74 z75 z76 z77 (!decide ((bitI .and .i64 z72 (4:Int))=(0:Int))) (!decide ((bitI .and .i64 z72 (8:Int))=(0:Int))) (!decide ((bitI .and .i64 z72 (16:Int))=(0:Int))) (fun z107 =>
    s_l08Name_j40 K K z107 none (fun z109 =>
    some z109)) (fun z110 =>
    some z110))
    else
    s_l08Name_j14 K K z72 z73 z74 z75 z76 z77 (!decide ((bitI .and .i64 z72 (4:Int))=(0:Int))) (!decide ((bitI .and .i64 z72 (8:Int))=(0:Int))) (!decide ((bitI .and .i64 z72 (16:Int))=(0:Int))) (fun z111 =>
    s_l08Name_j40 K K z111 none (fun z112 =>
    some z112)) (fun z113 =>
    some z113)))
noncomputable def X0_s_l08Name:Lv:=[(3,(.v (.int .i64))),(4,(.v .bool)),(5,(.v .bool)),(6,(.v .bool)),(7,(.v (.int .i64))),(8,(.v (.int .i64)))]
noncomputable def rv_s_l08Name:Lv:=[(2,(.v .str))]
noncomputable def D_s_l08Name (K:Nat):List (PD (den .str)):=[.L 4 [(0,(.v (.sl tq0))),(3,(.v (.int .i64))),(4,(.v .bool)),(5,(.v .bool)),(6,(.v .bool)),(7,(.v (.int .i64))),(8,(.v (.int .i64))),(9,(.v (.int .i64)))] [] (fun k x kx kr=>s_l08Name_l4 K k x.1 x.2.1 x.2.2.1 x.2.2.2.1 x.2.2.2.2.1 x.2.2.2.2.2.1 x.2.2.2.2.2.2.1 x.2.2.2.2.2.2.2.1 (fun z0 z1 z2 z3 z4 z5=>kx 0 (mkSt X0_s_l08Name (z0,z1,z2,z3,z4,z5,())))),
  .J 7 [(0,(.v (.sl tq0))),(3,(.v (.int .i64))),(4,(.v .bool)),(5,(.v .bool)),(6,(.v .bool)),(7,(.v (.int .i64))),(8,(.v (.int .i64))),(9,(.v (.int .i64)))] [(0,(.v (.sl tq0))),(3,(.v (.int .i64))),(4,(.v .bool)),(5,(.v .bool)),(6,(.v .bool)),(7,(.v (.int .i64))),(8,(.v (.int .i64))),(9,(.v (.int .i64)))] 0 (fun k x kn kx kr=>s_l08Name_j7 K k x.1 x.2.1 x.2.2.1 x.2.2.2.1 x.2.2.2.2.1 x.2.2.2.2.2.1 x.2.2.2.2.2.2.1 x.2.2.2.2.2.2.2.1 (fun z0 z1 z2 z3 z4 z5 z6 z7=>kn (z0,z1,z2,z3,z4,z5,z6,z7,()))),
  .J 8 [(0,(.v (.sl tq0))),(3,(.v (.int .i64))),(4,(.v .bool)),(5,(.v .bool)),(6,(.v .bool)),(7,(.v (.int .i64))),(8,(.v (.int .i64))),(9,(.v (.int .i64)))] [(0,(.v (.sl tq0))),(3,(.v (.int .i64))),(4,(.v .bool)),(5,(.v .bool)),(6,(.v .bool)),(7,(.v (.int .i64))),(8,(.v (.int .i64))),(9,(.v (.int .i64)))] 0 (fun k x kn kx kr=>s_l08Name_j8 K k x.1 x.2.1 x.2.2.1 x.2.2.2.1 x.2.2.2.2.1 x.2.2.2.2.2.1 x.2.2.2.2.2.2.1 x.2.2.2.2.2.2.2.1 (fun z0 z1 z2 z3 z4 z5 z6 z7=>kn (z0,z1,z2,z3,z4,z5,z6,z7,()))),
  .J 9 [(0,(.v (.sl tq0))),(3,(.v (.int .i64))),(4,(.v .bool)),(5,(.v .bool)),(6,(.v .bool)),(7,(.v (.int .i64))),(8,(.v (.int .i64))),(9,(.v (.int .i64)))] [(0,(.v (.sl tq0))),(3,(.v (.int .i64))),(4,(.v .bool)),(5,(.v .bool)),(6,(.v .bool)),(7,(.v (.int .i64))),(8,(.v (.int .i64))),(9,(.v (.int .i64)))] 0 (fun k x kn kx kr=>s_l08Name_j9 K k x.1 x.2.1 x.2.2.1 x.2.2.2.1 x.2.2.2.2.1 x.2.2.2.2.2.1 x.2.2.2.2.2.2.1 x.2.2.2.2.2.2.2.1 (fun z0 z1 z2 z3 z4 z5 z6 z7=>kn (z0,z1,z2,z3,z4,z5,z6,z7,()))),
  .J 5 [(0,(.v (.sl tq0))),(3,(.v (.int .i64))),(4,(.v .bool)),(5,(.v .bool)),(6,(.v .bool)),(7,(.v (.int .i64))),(8,(.v (.int .i64))),(9,(.v (.int .i64)))] [(0,(.v (.sl tq0))),(3,(.v (.int .i64))),(4,(.v .bool)),(5,(.v .bool)),(6,(.v .bool)),(7,(.v (.int .i64))),(8,(.v (.int .i64))),(9,(.v (.int .i64)))] 0 (fun k x kn kx kr=>s_l08Name_j5 K k x.1 x.2.1 x.2.2.1 x.2.2.2.1 x.2.2.2.2.1 x.2.2.2.2.2.1 x.2.2.2.2.2.2.1 x.2.2.2.2.2.2.2.1 (fun z0 z1 z2 z3 z4 z5 z6 z7=>kn (z0,z1,z2,z3,z4,z5,z6,z7,()))),
  .J 14 [(3,(.v (.int .i64))),(4,(.v .bool)),(5,(.v .bool)),(6,(.v .bool)),(7,(.v (.int .i64))),(8,(.v (.int .i64))),(10,(.v .bool)),(11,(.v .bool)),(12,(.v .bool))] [(3,(.v (.int .i64)))] K (fun k x kn kx kr=>s_l08Name_j14 K k x.1 x.2.1 x.2.2.1 x.2.2.2.1 x.2.2.2.2.1 x.2.2.2.2.2.1 x.2.2.2.2.2.2.1 x.2.2.2.2.2.2.2.1 x.2.2.2.2.2.2.2.2.1 (fun z0=>kn (z0,())) (fun z0=>kr (mkSt rv_s_l08Name (z0,())))),
  .J 16 [(3,(.v (.int .i64))),(4,(.v .bool)),(5,(.v .bool)),(6,(.v .bool)),(7,(.v (.int .i64))),(8,(.v (.int .i64))),(10,(.v .bool)),(11,(.v .bool)),(12,(.v .bool))] [(3,(.v (.int .i64)))] K (fun k x kn kx kr=>s_l08Name_j16 K k x.1 x.2.1 x.2.2.1 x.2.2.2.1 x.2.2.2.2.1 x.2.2.2.2.2.1 x.2.2.2.2.2.2.1 x.2.2.2.2.2.2.2.1 x.2.2.2.2.2.2.2.2.1 (fun z0=>kn (z0,())) (fun z0=>kr (mkSt rv_s_l08Name (z0,())))),
  .J 24 [(3,(.v (.int .i64))),(7,(.v (.int .i64))),(8,(.v (.int .i64))),(10,(.v .bool)),(11,(.v .bool)),(12,(.v .bool))] [(3,(.v (.int .i64)))] K (fun k x kn kx kr=>s_l08Name_j24 K k x.1 x.2.1 x.2.2.1 x.2.2.2.1 x.2.2.2.2.1 x.2.2.2.2.2.1 (fun z0=>kn (z0,())) (fun z0=>kr (mkSt rv_s_l08Name (z0,())))),
  .J 26 [(3,(.v (.int .i64))),(7,(.v (.int .i64))),(8,(.v (.int .i64))),(10,(.v .bool)),(11,(.v .bool)),(12,(.v .bool))] [(3,(.v (.int .i64)))] K (fun k x kn kx kr=>s_l08Name_j26 K k x.1 x.2.1 x.2.2.1 x.2.2.2.1 x.2.2.2.2.1 x.2.2.2.2.2.1 (fun z0=>kn (z0,())) (fun z0=>kr (mkSt rv_s_l08Name (z0,())))),
  .J 30 [(3,(.v (.int .i64))),(7,(.v (.int .i64))),(8,(.v (.int .i64))),(10,(.v .bool)),(11,(.v .bool))] [(3,(.v (.int .i64)))] K (fun k x kn kx kr=>s_l08Name_j30 K k x.1 x.2.1 x.2.2.1 x.2.2.2.1 x.2.2.2.2.1 (fun z0=>kn (z0,())) (fun z0=>kr (mkSt rv_s_l08Name (z0,())))),
  .J 32 [(3,(.v (.int .i64))),(7,(.v (.int .i64))),(8,(.v (.int .i64))),(10,(.v .bool)),(11,(.v .bool))] [(3,(.v (.int .i64)))] K (fun k x kn kx kr=>s_l08Name_j32 K k x.1 x.2.1 x.2.2.1 x.2.2.2.1 x.2.2.2.2.1 (fun z0=>kn (z0,())) (fun z0=>kr (mkSt rv_s_l08Name (z0,())))),
  .J 40 [(3,(.v (.int .i64)))] [] 0 (fun k x kn kx kr=>s_l08Name_j40 K k x.1 (kn ()) (fun z0=>kr (mkSt rv_s_l08Name (z0,()))))]
theorem ok_s_l08Name (K:Nat):FnOk Tryz.prog 43 (sp_s_l08Name (s_l08Name K)) :=
  fn_okD tysOk [C_s_l02Classes K,C_s_l02Whole K,C_s_l01Essential K,C_s_l08Joined K,C_s_l08Degree K,C_s_l08Four K,C_s_l08Degrees K,C_s_l08Kind K] 0 (D_s_l08Name K) [(0,X0_s_l08Name)] rv_s_l08Name K Tryz.func43 (by kernel_rfl) ⟨⟨fun _ _ _ _=>by kernel_rfl,fun _ _ _=>rfl⟩,⟨fun _ _ _ _ _=>by kernel_rfl,⟨fun _ _ _ _ _=>by kernel_rfl,⟨fun _ _ _ _ _=>by kernel_rfl,⟨fun _ _ _ _ _=>by kernel_rfl,⟨fun _ _ _ _ _=>by kernel_rfl,⟨fun _ _ _ _ _=>by kernel_rfl,⟨fun _ _ _ _ _=>by kernel_rfl,⟨fun _ _ _ _ _=>by kernel_rfl,⟨fun _ _ _ _ _=>by kernel_rfl,⟨fun _ _ _ _ _=>by kernel_rfl,⟨fun _ _ _ _ _=>by kernel_rfl,trivial⟩⟩⟩⟩⟩⟩⟩⟩⟩⟩⟩⟩ (fun _=>by kernel_rfl)
noncomputable def C_s_l08Name (K:Nat):CB Tryz.prog:=.f _ _ (ok_s_l08Name K)
noncomputable def as_s_CloneName:Ty:=(.pair (.sl tq0) .unit)
noncomputable def sp_s_CloneName (F:((List dq0) × Unit)->Option (ByteArray × Int × Unit)):FnSpec:=⟨as_s_CloneName,[false],(.tup (.pair .str (.pair (.int .i64) .unit))),F⟩
noncomputable def s_CloneName (K:Nat) (x:((List dq0) × Unit)):Option (ByteArray × Int × Unit) :=
    (s_l02Code K (x.1,())).bind fun y1 =>
    (if (!decide (y1=(0:Int)))=true then
    some ((⟨#[]⟩:ByteArray),y1,())
    else
    (s_l08Name K (x.1,())).bind fun y2 =>
    some (y2,(0:Int),()))
noncomputable def rv_s_CloneName:Lv:=[(2,(.v .str)),(3,(.v (.int .i64)))]
theorem ok_s_CloneName (K:Nat):FnOk Tryz.prog 12 (sp_s_CloneName (s_CloneName K)) :=
  fn_okD tysOk [C_s_l02Code K,C_s_l08Name K] 0 [] [] rv_s_CloneName K Tryz.func12 (by kernel_rfl) trivial (fun _=>by kernel_rfl)
noncomputable def C_s_CloneName (K:Nat):CB Tryz.prog:=.f _ _ (ok_s_CloneName K)
noncomputable def s_l06Is (K:Nat) (x:(dq0 × Unit)):Option Bool :=
    (s_l01In K (x.1.1,(1:Int),(4:Int),())).bind fun y1 =>
    (if y1=true then
    (s_l01All K (x.1.1,())).bind fun y2 =>
    (s_l01In K (x.1.2.1,(0:Int),y2,())).bind fun y3 =>
    some y3
    else
    some false)
noncomputable def s_l06Value_l7 {R:Type} (K:Nat):Nat->(List Int)->Int->dq0->Int->Int->Int->Int->((List Int)->Int->dq0->Int->Int->Int->Option R)->Option R
  | 0,_,_,_,_,_,_,_,_=>none
  | k + 1,v1,v2,v3,v7,v8,v9,v10,kx2 =>
    (if (decide (v10 < (v1.length:Int)))=true then
    (if (bnds v10 (v1.length:Int))=true then
    (if (decide ((0:Int)<=(IntKind.u64.wrap v8)))=true then
    let x1:=(shrI .i64 (v1.getD v10.toNat (0:Int)) (IntKind.u64.wrap v8))
    (if (decide ((0:Int)<=(IntKind.u64.wrap v10)))=true then
    let x2:=(shlI .i64 (bitI .and .i64 x1 (1:Int)) (IntKind.u64.wrap v10))
    s_l06Value_l7 K k v1 v2 v3 v7 v8 (bitI .or .i64 v9 x2) (IntKind.i64.wrap (v10 + (1:Int))) kx2
    else
    none)
    else
    none)
    else
    none)
    else
    kx2 v1 v2 v3 v7 v8 v9)
noncomputable def s_l06Value_l3 {R:Type} (K:Nat):Nat->(List Int)->Int->dq0->Int->Int->(Int->Option R)->Option R
  | 0,_,_,_,_,_,_=>none
  | k + 1,v1,v2,v3,v7,v8,kx0 =>
    (if (decide (v8 < v2))=true then
    s_l06Value_l7 K k v1 v2 v3 v7 v8 (0:Int) (0:Int) (fun z3 z4 z5 z6 z7 z8 =>
    (s_l01At K (z5,z8,())).bind fun y9 =>
    (if (decide ((0:Int)<=(IntKind.u64.wrap z7)))=true then
    s_l06Value_l3 K k z3 z4 z5 (bitI .or .i64 z6 (shlI .i64 y9 (IntKind.u64.wrap z7))) (IntKind.i64.wrap (z7 + (1:Int))) kx0
    else
    none))
    else
    kx0 v7)
noncomputable def s_l06Value (K:Nat) (x:(dq0 × (List Int) × Int × Unit)):Option Int :=
    s_l06Value_l3 K K x.2.1 x.2.2.1 x.1 (0:Int) (0:Int) (fun z10 =>
    some z10)
noncomputable def as_s_l01Own:Ty:=(.pair (.sl (.int .i64)) .unit)
noncomputable def sp_s_l01Own (F:((List Int) × Unit)->Option (List Int)):FnSpec:=⟨as_s_l01Own,[false],(.sl (.int .i64)),F⟩
noncomputable def s_l01Own (K:Nat) (x:((List Int) × Unit)):Option (List Int) :=
    let l1:=([]:List Int)
    (if (decide (l1.length + x.1.length<=lim))=true then
    let l2:=(l1 ++ x.1)
    some l2
    else
    none)
noncomputable def rv_s_l01Own:Lv:=[(2,(.r (.int .i64)))]
theorem ok_s_l01Own (K:Nat):FnOk Tryz.prog 132 (sp_s_l01Own (s_l01Own K)) :=
  fn_okD tysOk [] 0 [] [] rv_s_l01Own K Tryz.func132 (by kernel_rfl) trivial (fun _=>by kernel_rfl)
noncomputable def C_s_l01Own (K:Nat):CB Tryz.prog:=.f _ _ (ok_s_l01Own K)
noncomputable def s_l06Made_l5 {R:Type} (K:Nat) (r:(dq0 × dq0 × (List Int) × (List Int) × Unit)->Option Int):Nat->(List Int)->(List Int)->dq0->dq0->Int->Int->(Int->Option R)->Option R
  | 0,_,_,_,_,_,_,_=>none
  | k + 1,v2,v3,v4,v5,v9,v10,kx0 =>
    (if (decide (v10 < (v2.length:Int)))=true then
    (s_l01Own K (v3,())).bind fun y2 =>
    (if (bnds v10 (v2.length:Int))=true then
    let l3:=[(v2.getD v10.toNat (0:Int))]
    (if (decide (y2.length + l3.length<=lim))=true then
    let l4:=(y2 ++ l3)
    (r (v4,v5,v2,l4,())).bind fun y5 =>
    s_l06Made_l5 K r k v2 v3 v4 v5 (bitI .or .i64 v9 y5) (IntKind.i64.wrap (v10 + (1:Int))) kx0
    else
    none)
    else
    none)
    else
    kx0 v9)
noncomputable def s_l06Made_b (K:Nat) (r:(dq0 × dq0 × (List Int) × (List Int) × Unit)->Option Int) (x:(dq0 × dq0 × (List Int) × (List Int) × Unit)):Option Int :=
    (if (decide ((x.2.2.2.1.length:Int)=x.1.1))=true then
    (s_l06Value K (x.1,x.2.2.2.1,x.2.1.1,())).bind fun y1 =>
    (if (decide ((0:Int)<=(IntKind.u64.wrap y1)))=true then
    some (shlI .i64 (1:Int) (IntKind.u64.wrap y1))
    else
    none)
    else
    s_l06Made_l5 K r K x.2.2.1 x.2.2.2.1 x.1 x.2.1 (0:Int) (0:Int) (fun z6 =>
    some z6))
noncomputable def s_l06Made (K:Nat):Nat->(dq0 × dq0 × (List Int) × (List Int) × Unit)->Option Int
  | 0=>fun _=>none
  | k + 1=>s_l06Made_b K (s_l06Made K k)
noncomputable def s_l06List_l3 {R:Type} (K:Nat):Nat->dq0->(List Int)->Int->((List Int)->Option R)->Option R
  | 0,_,_,_,_=>none
  | k + 1,v1,v3,v4,kx0 =>
    (s_l01Rows K (v1.1,())).bind fun y2 =>
    (if (decide (v4 < y2))=true then
    (if (decide ((0:Int)<=(IntKind.u64.wrap v4)))=true then
    let x3:=(bitI .and .i64 (shrI .i64 v1.2.1 (IntKind.u64.wrap v4)) (1:Int))
    (if (decide (x3=(1:Int)))=true then
    (if (decide (v3.length + ([v4]).length<=lim))=true then
    let l4:=(v3 ++ [v4])
    s_l06List_l3 K k v1 l4 (IntKind.i64.wrap (v4 + (1:Int))) kx0
    else
    none)
    else
    s_l06List_l3 K k v1 v3 (IntKind.i64.wrap (v4 + (1:Int))) kx0)
    else
    none)
    else
    kx0 v3)
noncomputable def s_l06List (K:Nat) (x:(dq0 × Unit)):Option (List Int) :=
    let l1:=([]:List Int)
    s_l06List_l3 K K x.1 l1 (0:Int) (fun z5 =>
    some z5)
noncomputable def s_ClosureOf_l8 {R:Type} (K:Nat):Nat->(List dq0)->dq0->dq0->Int->Int->((List dq0)->dq0->dq0->Int->Option R)->Option R
  | 0,_,_,_,_,_,_=>none
  | k + 1,v0,v3,v4,v7,v8,kx2 =>
    (if (decide (v8 < (v0.length:Int)))=true then
    (if (bnds v8 (v0.length:Int))=true then
    (s_l06List K (v3,())).bind fun y3 =>
    let l4:=([]:List Int)
    (s_l06Made K K ((v0.getD v8.toNat ((0:Int),(0:Int),())),v3,y3,l4,())).bind fun y5 =>
    s_ClosureOf_l8 K k v0 v3 v4 (bitI .or .i64 v7 y5) (IntKind.i64.wrap (v8 + (1:Int))) kx2
    else
    none)
    else
    kx2 v0 v3 v4 v7)
noncomputable def s_ClosureOf_l6 {R:Type} (K:Nat):Nat->(List dq0)->dq0->dq0->(dq0->Int->Option R)->Option R
  | 0,_,_,_,_=>none
  | k + 1,v0,v3,v4,kr =>
    s_ClosureOf_l8 K k v0 v3 v4 v3.2.1 (0:Int) (fun z6 z7 z8 z9 =>
    (if (decide (z9=z7.2.1))=true then
    kr z7 (0:Int)
    else
    s_ClosureOf_l6 K k z6 (z7.1,z9,()) z8 kr))
noncomputable def s_ClosureOf_j4 {R:Type} (K:Nat) (k:Nat) (v0:(List dq0)) (v3:dq0) (v4:dq0) (v6:Int) (kn:Option R) (kr:(dq0->Int->Option R)):Option R :=
    (if (!decide (v6=(0:Int)))=true then
    kr ((0:Int),(0:Int),()) v6
    else
    s_ClosureOf_l6 K k v0 v3 v4 (fun z10 z11 =>
    kr z10 z11))
noncomputable def s_ClosureOf (K:Nat) (x:((List dq0) × dq0 × Unit)):Option (dq0 × Int × Unit) :=
    (s_l02Code K (x.1,())).bind fun y1 =>
    (if (decide (y1=(1:Int)))=true then
    some (((0:Int),(0:Int),()),(1:Int),())
    else
    (s_l06Is K (x.2.1,())).bind fun y2 =>
    (if (!y2)=true then
    some (((0:Int),(0:Int),()),(1:Int),())
    else
    s_ClosureOf_j4 K K x.1 x.2.1 ((0:Int),(0:Int),()) y1 none (fun z12 z13 =>
    some (z12,z13,()))))
noncomputable def as_s_l04Code:Ty:=(.pair (.sl tq0) (.pair (.int .i64) .unit))
noncomputable def sp_s_l04Code (F:((List dq0) × Int × Unit)->Option Int):FnSpec:=⟨as_s_l04Code,[false,false],(.int .i64),F⟩
noncomputable def s_l04Code_l7 {R:Type} (K:Nat):Nat->(List dq0)->Int->Int->(Option R)->(Int->Option R)->Option R
  | 0,_,_,_,_,_=>none
  | k + 1,v0,v1,v6,kx0,kr =>
    (if (decide (v6 < (v0.length:Int)))=true then
    (if (decide (v1=(3:Int)))=true then
    (if (bnds v6 (v0.length:Int))=true then
    let x3:=(decide ((v0.getD v6.toNat ((0:Int),(0:Int),())).1 > (2:Int)))
    (if x3=true then
    kr (2:Int)
    else
    s_l04Code_l7 K k v0 v1 (IntKind.i64.wrap (v6 + (1:Int))) kx0 kr)
    else
    none)
    else
    s_l04Code_l7 K k v0 v1 (IntKind.i64.wrap (v6 + (1:Int))) kx0 kr)
    else
    kx0)
noncomputable def s_l04Code (K:Nat) (x:((List dq0) × Int × Unit)):Option Int :=
    (s_l02Code K (x.1,())).bind fun y1 =>
    (if (!decide (y1=(0:Int)))=true then
    some y1
    else
    (s_l01In K (x.2.1,(2:Int),(3:Int),())).bind fun y2 =>
    (if (!y2)=true then
    some (2:Int)
    else
    s_l04Code_l7 K K x.1 x.2.1 (0:Int) (some (0:Int)) (fun z4 =>
    some z4)))
noncomputable def X0_s_l04Code:Lv:=[]
noncomputable def rv_s_l04Code:Lv:=[(4,(.v (.int .i64)))]
noncomputable def D_s_l04Code (K:Nat):List (PD (den (.int .i64))):=[.L 7 [(0,(.v (.sl tq0))),(1,(.v (.int .i64))),(6,(.v (.int .i64)))] [] (fun k x kx kr=>s_l04Code_l7 K k x.1 x.2.1 x.2.2.1 (kx 0 (mkSt X0_s_l04Code ())) (fun z0=>kr (mkSt rv_s_l04Code (z0,()))))]
theorem ok_s_l04Code (K:Nat):FnOk Tryz.prog 38 (sp_s_l04Code (s_l04Code K)) :=
  fn_okD tysOk [C_s_l02Code K,C_s_l01In K] 0 (D_s_l04Code K) [(0,X0_s_l04Code)] rv_s_l04Code K Tryz.func38 (by kernel_rfl) ⟨⟨fun _ _ _ _=>by kernel_rfl,fun _ _ _=>rfl⟩,trivial⟩ (fun _=>by kernel_rfl)
noncomputable def C_s_l04Code (K:Nat):CB Tryz.prog:=.f _ _ (ok_s_l04Code K)
noncomputable def as_s_l01Projection:Ty:=(.pair (.int .i64) (.pair (.int .i64) .unit))
noncomputable def sp_s_l01Projection (F:(Int × Int × Unit)->Option dq0):FnSpec:=⟨as_s_l01Projection,[false,false],tq0,F⟩
noncomputable def s_l01Projection_l3 {R:Type} (K:Nat):Nat->Int->Int->dq0->(List Int)->Int->(Int->dq0->(List Int)->Option R)->Option R
  | 0,_,_,_,_,_,_=>none
  | k + 1,v0,v1,v4,v5,v6,kx0 =>
    (s_l01Rows K (v0,())).bind fun y2 =>
    (if (decide (v6 < y2))=true then
    (if (decide ((0:Int)<=(IntKind.u64.wrap v1)))=true then
    let x3:=(bitI .and .i64 (shrI .i64 v6 (IntKind.u64.wrap v1)) (1:Int))
    (if (decide (v5.length + ([x3]).length<=lim))=true then
    let l4:=(v5 ++ [x3])
    s_l01Projection_l3 K k v0 v1 v4 l4 (IntKind.i64.wrap (v6 + (1:Int))) kx0
    else
    none)
    else
    none)
    else
    kx0 v0 v4 v5)
noncomputable def s_l01Projection (K:Nat) (x:(Int × Int × Unit)):Option dq0 :=
    let l1:=([]:List Int)
    s_l01Projection_l3 K K x.1 x.2.1 ((0:Int),(0:Int),()) l1 (0:Int) (fun z5 z6 z7 =>
    (s_l01Of K (z5,z7,())).bind fun y8 =>
    some y8)
noncomputable def X0_s_l01Projection:Lv:=[(0,(.v (.int .i64))),(4,(.bx (.v tq0))),(5,(.r (.int .i64)))]
noncomputable def rv_s_l01Projection:Lv:=[(4,(.bx (.v tq0)))]
noncomputable def D_s_l01Projection (K:Nat):List (PD (den tq0)):=[.L 3 [(0,(.v (.int .i64))),(1,(.v (.int .i64))),(4,(.bx (.v tq0))),(5,(.r (.int .i64))),(6,(.v (.int .i64)))] [] (fun k x kx kr=>s_l01Projection_l3 K k x.1 x.2.1 x.2.2.1 x.2.2.2.1 x.2.2.2.2.1 (fun z0 z1 z2=>kx 0 (mkSt X0_s_l01Projection (z0,z1,z2,()))))]
theorem ok_s_l01Projection (K:Nat):FnOk Tryz.prog 92 (sp_s_l01Projection (s_l01Projection K)) :=
  fn_okD tysOk [C_s_l01Rows K,C_s_l01Of K] 0 (D_s_l01Projection K) [(0,X0_s_l01Projection)] rv_s_l01Projection K Tryz.func92 (by kernel_rfl) ⟨⟨fun _ _ _ _=>by kernel_rfl,fun _ _ _=>rfl⟩,trivial⟩ (fun _=>by kernel_rfl)
noncomputable def C_s_l01Projection (K:Nat):CB Tryz.prog:=.f _ _ (ok_s_l01Projection K)
noncomputable def as_s_l04Put:Ty:=(.pair tq0 (.pair (.sl (.int .i64)) (.pair (.int .i64) .unit)))
noncomputable def sp_s_l04Put (F:(dq0 × (List Int) × Int × Unit)->Option Int):FnSpec:=⟨as_s_l04Put,[false,false,false],(.int .i64),F⟩
noncomputable def s_l04Put_l7 {R:Type} (K:Nat):Nat->(List Int)->Int->dq0->Int->Int->Int->Int->((List Int)->Int->dq0->Int->Int->Int->Option R)->Option R
  | 0,_,_,_,_,_,_,_,_=>none
  | k + 1,v1,v2,v3,v7,v8,v9,v10,kx2 =>
    (if (decide (v10 < (v1.length:Int)))=true then
    (if (bnds v10 (v1.length:Int))=true then
    (if (decide ((0:Int)<=(IntKind.u64.wrap v8)))=true then
    let x2:=(shrI .i64 (v1.getD v10.toNat (0:Int)) (IntKind.u64.wrap v8))
    (if (decide ((0:Int)<=(IntKind.u64.wrap v10)))=true then
    let x3:=(shlI .i64 (bitI .and .i64 x2 (1:Int)) (IntKind.u64.wrap v10))
    s_l04Put_l7 K k v1 v2 v3 v7 v8 (bitI .or .i64 v9 x3) (IntKind.i64.wrap (v10 + (1:Int))) kx2
    else
    none)
    else
    none)
    else
    none)
    else
    kx2 v1 v2 v3 v7 v8 v9)
noncomputable def s_l04Put_l3 {R:Type} (K:Nat):Nat->(List Int)->Int->dq0->Int->Int->(Int->Option R)->Option R
  | 0,_,_,_,_,_,_=>none
  | k + 1,v1,v2,v3,v7,v8,kx0 =>
    (s_l01Rows K (v2,())).bind fun y1 =>
    (if (decide (v8 < y1))=true then
    s_l04Put_l7 K k v1 v2 v3 v7 v8 (0:Int) (0:Int) (fun z4 z5 z6 z7 z8 z9 =>
    (s_l01At K (z6,z9,())).bind fun y10 =>
    (if (decide ((0:Int)<=(IntKind.u64.wrap z8)))=true then
    s_l04Put_l3 K k z4 z5 z6 (bitI .or .i64 z7 (shlI .i64 y10 (IntKind.u64.wrap z8))) (IntKind.i64.wrap (z8 + (1:Int))) kx0
    else
    none))
    else
    kx0 v7)
noncomputable def s_l04Put (K:Nat) (x:(dq0 × (List Int) × Int × Unit)):Option Int :=
    s_l04Put_l3 K K x.2.1 x.2.2.1 x.1 (0:Int) (0:Int) (fun z11 =>
    some z11)
noncomputable def X0_s_l04Put:Lv:=[(7,(.v (.int .i64)))]
noncomputable def X2_s_l04Put:Lv:=[(1,(.v (.sl (.int .i64)))),(2,(.v (.int .i64))),(3,(.bx (.v tq0))),(7,(.v (.int .i64))),(8,(.v (.int .i64))),(9,(.v (.int .i64)))]
noncomputable def rv_s_l04Put:Lv:=[(6,(.v (.int .i64)))]
noncomputable def D_s_l04Put (K:Nat):List (PD (den (.int .i64))):=[.L 3 [(1,(.v (.sl (.int .i64)))),(2,(.v (.int .i64))),(3,(.bx (.v tq0))),(7,(.v (.int .i64))),(8,(.v (.int .i64)))] [] (fun k x kx kr=>s_l04Put_l3 K k x.1 x.2.1 x.2.2.1 x.2.2.2.1 x.2.2.2.2.1 (fun z0=>kx 0 (mkSt X0_s_l04Put (z0,())))),
  .L 7 [(1,(.v (.sl (.int .i64)))),(2,(.v (.int .i64))),(3,(.bx (.v tq0))),(7,(.v (.int .i64))),(8,(.v (.int .i64))),(9,(.v (.int .i64))),(10,(.v (.int .i64)))] [] (fun k x kx kr=>s_l04Put_l7 K k x.1 x.2.1 x.2.2.1 x.2.2.2.1 x.2.2.2.2.1 x.2.2.2.2.2.1 x.2.2.2.2.2.2.1 (fun z0 z1 z2 z3 z4 z5=>kx 2 (mkSt X2_s_l04Put (z0,z1,z2,z3,z4,z5,()))))]
theorem ok_s_l04Put (K:Nat):FnOk Tryz.prog 162 (sp_s_l04Put (s_l04Put K)) :=
  fn_okD tysOk [C_s_l01Rows K,C_s_l01At K] 0 (D_s_l04Put K) [(0,X0_s_l04Put),(2,X2_s_l04Put)] rv_s_l04Put K Tryz.func162 (by kernel_rfl) ⟨⟨fun _ _ _ _=>by kernel_rfl,fun _ _ _=>rfl⟩,⟨⟨fun _ _ _ _=>by kernel_rfl,fun _ _ _=>rfl⟩,trivial⟩⟩ (fun _=>by kernel_rfl)
noncomputable def C_s_l04Put (K:Nat):CB Tryz.prog:=.f _ _ (ok_s_l04Put K)
noncomputable def s_l04Round_l9 {R:Type} (K:Nat) (r:(dq0 × (List Int) × (List Int) × (List Int) × Int × Int × Unit)->Option (Bool × ((List Int) × (List Int) × (List Int) × Unit))):Nat->(List Int)->(List Int)->(List Int)->Int->Int->dq0->Bool->Int->((List Int)->(List Int)->(List Int)->Bool->Option R)->Option R
  | 0,_,_,_,_,_,_,_,_,_=>none
  | k + 1,v1,v2,v3,v4,v5,v6,v14,v15,kx0 =>
    (if (decide (v15 < (v2.length:Int)))=true then
    (s_l01Own K (v3,())).bind fun y3 =>
    (if (bnds v15 (v2.length:Int))=true then
    let l4:=[(v2.getD v15.toNat (0:Int))]
    (if (decide (y3.length + l4.length<=lim))=true then
    let l5:=(y3 ++ l4)
    (r (v6,v1,v2,l5,v4,v5,())).bind fun y6 =>
    (if y6.1=true then
    s_l04Round_l9 K r k y6.2.1 y6.2.2.1 v3 v4 v5 v6 true (IntKind.i64.wrap (v15 + (1:Int))) kx0
    else
    s_l04Round_l9 K r k y6.2.1 y6.2.2.1 v3 v4 v5 v6 v14 (IntKind.i64.wrap (v15 + (1:Int))) kx0)
    else
    none)
    else
    none)
    else
    kx0 v1 v2 v3 v14)
noncomputable def s_l04Round_b (K:Nat) (r:(dq0 × (List Int) × (List Int) × (List Int) × Int × Int × Unit)->Option (Bool × ((List Int) × (List Int) × (List Int) × Unit))) (x:(dq0 × (List Int) × (List Int) × (List Int) × Int × Int × Unit)):Option (Bool × ((List Int) × (List Int) × (List Int) × Unit)) :=
    (if (decide ((x.2.2.2.1.length:Int)=x.1.1))=true then
    (s_l04Put K (x.1,x.2.2.2.1,x.2.2.2.2.1,())).bind fun y1 =>
    (if (bnds y1 (x.2.1.length:Int))=true then
    (if (decide ((x.2.1.getD y1.toNat (0:Int)) ≥ (0:Int)))=true then
    some (false,(x.2.1,x.2.2.1,x.2.2.2.1,()))
    else
    (if (bnds y1 (x.2.1.length:Int))=true then
    let l2:=(x.2.1.set y1.toNat x.2.2.2.2.2.1)
    some (true,(l2,x.2.2.1,x.2.2.2.1,()))
    else
    none))
    else
    none)
    else
    s_l04Round_l9 K r K x.2.1 x.2.2.1 x.2.2.2.1 x.2.2.2.2.1 x.2.2.2.2.2.1 x.1 false (0:Int) (fun z7 z8 z9 z10 =>
    some (z10,(z7,z8,z9,()))))
noncomputable def s_l04Round (K:Nat):Nat->(dq0 × (List Int) × (List Int) × (List Int) × Int × Int × Unit)->Option (Bool × ((List Int) × (List Int) × (List Int) × Unit))
  | 0=>fun _=>none
  | k + 1=>s_l04Round_b K (s_l04Round K k)
noncomputable def X0_s_l04Round:Lv:=[(1,(.r (.int .i64))),(2,(.r (.int .i64))),(3,(.r (.int .i64))),(14,(.v .bool))]
noncomputable def rv_s_l04Round:Lv:=[(1,(.r (.int .i64))),(2,(.r (.int .i64))),(3,(.r (.int .i64))),(12,(.v .bool))]
noncomputable def D_s_l04Round (K:Nat) (r:(dq0 × (List Int) × (List Int) × (List Int) × Int × Int × Unit)->Option (Bool × ((List Int) × (List Int) × (List Int) × Unit))):List (PD (den (.pair .bool (.pair (.sl (.int .i64)) (.pair (.sl (.int .i64)) (.pair (.sl (.int .i64)) .unit)))))):=[.L 9 [(1,(.r (.int .i64))),(2,(.r (.int .i64))),(3,(.r (.int .i64))),(4,(.v (.int .i64))),(5,(.v (.int .i64))),(6,(.bx (.v tq0))),(14,(.v .bool)),(15,(.v (.int .i64)))] [] (fun k x kx kr=>s_l04Round_l9 K r k x.1 x.2.1 x.2.2.1 x.2.2.2.1 x.2.2.2.2.1 x.2.2.2.2.2.1 x.2.2.2.2.2.2.1 x.2.2.2.2.2.2.2.1 (fun z0 z1 z2 z3=>kx 0 (mkSt X0_s_l04Round (z0,z1,z2,z3,()))))]
theorem okb_s_l04Round (K:Nat) (r:(dq0 × (List Int) × (List Int) × (List Int) × Int × Int × Unit)->Option (Bool × ((List Int) × (List Int) × (List Int) × Unit))) (hr:FnOk Tryz.prog 93 (sp_s_l04Round r)):FnOk Tryz.prog 93 (sp_s_l04Round (s_l04Round_b K r)) :=
  fn_okD tysOk [.f _ (sp_s_l04Round (r)) (hr),C_s_l01Own K,C_s_l04Put K] 4 (D_s_l04Round K r) [(0,X0_s_l04Round)] rv_s_l04Round K Tryz.func93 (by kernel_rfl) ⟨⟨fun _ _ _ _=>by kernel_rfl,fun _ _ _=>rfl⟩,trivial⟩ (fun _=>by kernel_rfl)
theorem ok_s_l04Round (K:Nat):∀ k,FnOk Tryz.prog 93 (sp_s_l04Round (s_l04Round K k))
  | 0=>fnOk_none
  | k + 1=>okb_s_l04Round K (s_l04Round K k) (ok_s_l04Round K k)
noncomputable def as_s_l04Depths:Ty:=(.pair (.sl tq0) (.pair (.int .i64) .unit))
noncomputable def sp_s_l04Depths (F:((List dq0) × Int × Unit)->Option (List Int)):FnSpec:=⟨as_s_l04Depths,[false,false],(.sl (.int .i64)),F⟩
noncomputable def s_l04Depths_l3 {R:Type} (K:Nat):Nat->(List dq0)->Int->(List Int)->Int->((List dq0)->Int->(List Int)->Option R)->Option R
  | 0,_,_,_,_,_=>none
  | k + 1,v0,v1,v5,v6,kx0 =>
    (s_l01All K (v1,())).bind fun y2 =>
    (if (decide (v6<=y2))=true then
    let l3:=[(-1:Int)]
    (if (decide (v5.length + l3.length<=lim))=true then
    let l4:=(v5 ++ l3)
    s_l04Depths_l3 K k v0 v1 l4 (IntKind.i64.wrap (v6 + (1:Int))) kx0
    else
    none)
    else
    kx0 v0 v1 v5)
noncomputable def s_l04Depths_l7 {R:Type} (K:Nat):Nat->(List dq0)->Int->(List Int)->Int->((List dq0)->Int->(List Int)->Option R)->Option R
  | 0,_,_,_,_,_=>none
  | k + 1,v0,v1,v5,v7,kx2 =>
    (if (decide (v7 < v1))=true then
    (s_l01Projection K (v1,v7,())).bind fun y8 =>
    (if (bnds y8.2.1 (v5.length:Int))=true then
    let l9:=(v5.set y8.2.1.toNat (0:Int))
    s_l04Depths_l7 K k v0 v1 l9 (IntKind.i64.wrap (v7 + (1:Int))) kx2
    else
    none)
    else
    kx2 v0 v1 v5)
noncomputable def s_l04Depths_l17 {R:Type} (K:Nat):Nat->(List dq0)->Int->(List Int)->Bool->Int->(List Int)->Int->((List dq0)->Int->(List Int)->Bool->Int->(List Int)->Option R)->Option R
  | 0,_,_,_,_,_,_,_,_=>none
  | k + 1,v0,v1,v5,v8,v9,v10,v11,kx6 =>
    (s_l01All K (v1,())).bind fun y14 =>
    (if (decide (v11<=y14))=true then
    (if (bnds v11 (v5.length:Int))=true then
    (if (decide ((v5.getD v11.toNat (0:Int)) ≥ (0:Int)))=true then
    (if (decide (v10.length + ([v11]).length<=lim))=true then
    let l15:=(v10 ++ [v11])
    s_l04Depths_l17 K k v0 v1 v5 v8 v9 l15 (IntKind.i64.wrap (v11 + (1:Int))) kx6
    else
    none)
    else
    s_l04Depths_l17 K k v0 v1 v5 v8 v9 v10 (IntKind.i64.wrap (v11 + (1:Int))) kx6)
    else
    none)
    else
    kx6 v0 v1 v5 v8 v9 v10)
noncomputable def s_l04Depths_l22 {R:Type} (K:Nat):Nat->(List dq0)->Int->(List Int)->Bool->Int->(List Int)->Int->((List dq0)->Int->(List Int)->Bool->Int->Option R)->Option R
  | 0,_,_,_,_,_,_,_,_=>none
  | k + 1,v0,v1,v5,v8,v9,v10,v12,kx8 =>
    (if (decide (v12 < (v0.length:Int)))=true then
    (if (bnds v12 (v0.length:Int))=true then
    let l22:=([]:List Int)
    (s_l04Round K K ((v0.getD v12.toNat ((0:Int),(0:Int),())),v5,v10,l22,v1,v9,())).bind fun y23 =>
    (if y23.1=true then
    s_l04Depths_l22 K k v0 v1 y23.2.1 true v9 y23.2.2.1 (IntKind.i64.wrap (v12 + (1:Int))) kx8
    else
    s_l04Depths_l22 K k v0 v1 y23.2.1 v8 v9 y23.2.2.1 (IntKind.i64.wrap (v12 + (1:Int))) kx8)
    else
    none)
    else
    kx8 v0 v1 v5 v8 v9)
noncomputable def s_l04Depths_l12 {R:Type} (K:Nat):Nat->(List dq0)->Int->(List Int)->Bool->Int->((List Int)->Option R)->Option R
  | 0,_,_,_,_,_,_=>none
  | k + 1,v0,v1,v5,v8,v9,kx4 =>
    (if v8=true then
    let l13:=([]:List Int)
    s_l04Depths_l17 K k v0 v1 v5 false v9 l13 (0:Int) (fun z16 z17 z18 z19 z20 z21 =>
    s_l04Depths_l22 K k z16 z17 z18 z19 z20 z21 (0:Int) (fun z24 z25 z26 z27 z28 =>
    s_l04Depths_l12 K k z24 z25 z26 z27 (IntKind.i64.wrap (z28 + (1:Int))) kx4))
    else
    kx4 v5)
noncomputable def s_l04Depths (K:Nat) (x:((List dq0) × Int × Unit)):Option (List Int) :=
    let l1:=([]:List Int)
    s_l04Depths_l3 K K x.1 x.2.1 l1 (0:Int) (fun z5 z6 z7 =>
    s_l04Depths_l7 K K z5 z6 z7 (0:Int) (fun z10 z11 z12 =>
    s_l04Depths_l12 K K z10 z11 z12 true (1:Int) (fun z29 =>
    some z29)))
noncomputable def X0_s_l04Depths:Lv:=[(0,(.v (.sl tq0))),(1,(.v (.int .i64))),(5,(.r (.int .i64)))]
noncomputable def X2_s_l04Depths:Lv:=[(0,(.v (.sl tq0))),(1,(.v (.int .i64))),(5,(.r (.int .i64)))]
noncomputable def X4_s_l04Depths:Lv:=[(5,(.r (.int .i64)))]
noncomputable def X6_s_l04Depths:Lv:=[(0,(.v (.sl tq0))),(1,(.v (.int .i64))),(5,(.r (.int .i64))),(8,(.v .bool)),(9,(.v (.int .i64))),(10,(.r (.int .i64)))]
noncomputable def X8_s_l04Depths:Lv:=[(0,(.v (.sl tq0))),(1,(.v (.int .i64))),(5,(.r (.int .i64))),(8,(.v .bool)),(9,(.v (.int .i64)))]
noncomputable def rv_s_l04Depths:Lv:=[(4,(.r (.int .i64)))]
noncomputable def D_s_l04Depths (K:Nat):List (PD (den (.sl (.int .i64)))):=[.L 3 [(0,(.v (.sl tq0))),(1,(.v (.int .i64))),(5,(.r (.int .i64))),(6,(.v (.int .i64)))] [] (fun k x kx kr=>s_l04Depths_l3 K k x.1 x.2.1 x.2.2.1 x.2.2.2.1 (fun z0 z1 z2=>kx 0 (mkSt X0_s_l04Depths (z0,z1,z2,())))),
  .L 7 [(0,(.v (.sl tq0))),(1,(.v (.int .i64))),(5,(.r (.int .i64))),(7,(.v (.int .i64)))] [] (fun k x kx kr=>s_l04Depths_l7 K k x.1 x.2.1 x.2.2.1 x.2.2.2.1 (fun z0 z1 z2=>kx 2 (mkSt X2_s_l04Depths (z0,z1,z2,())))),
  .L 12 [(0,(.v (.sl tq0))),(1,(.v (.int .i64))),(5,(.r (.int .i64))),(8,(.v .bool)),(9,(.v (.int .i64)))] [] (fun k x kx kr=>s_l04Depths_l12 K k x.1 x.2.1 x.2.2.1 x.2.2.2.1 x.2.2.2.2.1 (fun z0=>kx 4 (mkSt X4_s_l04Depths (z0,())))),
  .L 17 [(0,(.v (.sl tq0))),(1,(.v (.int .i64))),(5,(.r (.int .i64))),(8,(.v .bool)),(9,(.v (.int .i64))),(10,(.r (.int .i64))),(11,(.v (.int .i64)))] [] (fun k x kx kr=>s_l04Depths_l17 K k x.1 x.2.1 x.2.2.1 x.2.2.2.1 x.2.2.2.2.1 x.2.2.2.2.2.1 x.2.2.2.2.2.2.1 (fun z0 z1 z2 z3 z4 z5=>kx 6 (mkSt X6_s_l04Depths (z0,z1,z2,z3,z4,z5,())))),
  .L 22 [(0,(.v (.sl tq0))),(1,(.v (.int .i64))),(5,(.r (.int .i64))),(8,(.v .bool)),(9,(.v (.int .i64))),(10,(.r (.int .i64))),(12,(.v (.int .i64)))] [] (fun k x kx kr=>s_l04Depths_l22 K k x.1 x.2.1 x.2.2.1 x.2.2.2.1 x.2.2.2.2.1 x.2.2.2.2.2.1 x.2.2.2.2.2.2.1 (fun z0 z1 z2 z3 z4=>kx 8 (mkSt X8_s_l04Depths (z0,z1,z2,z3,z4,()))))]
theorem ok_s_l04Depths (K:Nat):FnOk Tryz.prog 39 (sp_s_l04Depths (s_l04Depths K)) :=
  fn_okD tysOk [C_s_l01All K,C_s_l01Projection K,.f _ (sp_s_l04Round (s_l04Round K K)) (ok_s_l04Round K K)] 0 (D_s_l04Depths K) [(0,X0_s_l04Depths),(2,X2_s_l04Depths),(4,X4_s_l04Depths),(6,X6_s_l04Depths),(8,X8_s_l04Depths)] rv_s_l04Depths K Tryz.func39 (by kernel_rfl) ⟨⟨fun _ _ _ _=>by kernel_rfl,fun _ _ _=>rfl⟩,⟨⟨fun _ _ _ _=>by kernel_rfl,fun _ _ _=>rfl⟩,⟨⟨fun _ _ _ _=>by kernel_rfl,fun _ _ _=>rfl⟩,⟨⟨fun _ _ _ _=>by kernel_rfl,fun _ _ _=>rfl⟩,⟨⟨fun _ _ _ _=>by kernel_rfl,fun _ _ _=>rfl⟩,trivial⟩⟩⟩⟩⟩ (fun _=>by kernel_rfl)
noncomputable def C_s_l04Depths (K:Nat):CB Tryz.prog:=.f _ _ (ok_s_l04Depths K)
noncomputable def as_s_GeneratedBy:Ty:=(.pair (.sl tq0) (.pair (.int .i64) .unit))
noncomputable def sp_s_GeneratedBy (F:((List dq0) × Int × Unit)->Option ((List dq0) × Int × Unit)):FnSpec:=⟨as_s_GeneratedBy,[false,false],(.tup (.pair (.sl tq0) (.pair (.int .i64) .unit))),F⟩
noncomputable def s_GeneratedBy_l6 {R:Type} (K:Nat):Nat->Int->(List Int)->(List dq0)->Int->((List dq0)->Option R)->Option R
  | 0,_,_,_,_,_=>none
  | k + 1,v1,v7,v8,v9,kx0 =>
    (if (decide (v9 < (v7.length:Int)))=true then
    (if (bnds v9 (v7.length:Int))=true then
    (if (decide ((v7.getD v9.toNat (0:Int)) ≥ (0:Int)))=true then
    let l4:=[((v1,((0:Int),(0:Int),()).2.1,()).1,v9,())]
    (if (decide (v8.length + l4.length<=lim))=true then
    let l5:=(v8 ++ l4)
    s_GeneratedBy_l6 K k v1 v7 l5 (IntKind.i64.wrap (v9 + (1:Int))) kx0
    else
    none)
    else
    s_GeneratedBy_l6 K k v1 v7 v8 (IntKind.i64.wrap (v9 + (1:Int))) kx0)
    else
    none)
    else
    kx0 v8)
noncomputable def s_GeneratedBy (K:Nat) (x:((List dq0) × Int × Unit)):Option ((List dq0) × Int × Unit) :=
    (s_l04Code K (x.1,x.2.1,())).bind fun y1 =>
    (if (!decide (y1=(0:Int)))=true then
    some (([]:List dq0),y1,())
    else
    (s_l04Depths K (x.1,x.2.1,())).bind fun y2 =>
    let l3:=([]:List dq0)
    s_GeneratedBy_l6 K K x.2.1 y2 l3 (0:Int) (fun z6 =>
    some (z6,(0:Int),())))
noncomputable def X0_s_GeneratedBy:Lv:=[(8,(.r tq0))]
noncomputable def rv_s_GeneratedBy:Lv:=[(4,(.r tq0)),(5,(.v (.int .i64)))]
noncomputable def D_s_GeneratedBy (K:Nat):List (PD (den (.tup (.pair (.sl tq0) (.pair (.int .i64) .unit))))):=[.L 6 [(1,(.v (.int .i64))),(7,(.r (.int .i64))),(8,(.r tq0)),(9,(.v (.int .i64)))] [] (fun k x kx kr=>s_GeneratedBy_l6 K k x.1 x.2.1 x.2.2.1 x.2.2.2.1 (fun z0=>kx 0 (mkSt X0_s_GeneratedBy (z0,()))))]
theorem ok_s_GeneratedBy (K:Nat):FnOk Tryz.prog 10 (sp_s_GeneratedBy (s_GeneratedBy K)) :=
  fn_okD tysOk [C_s_l04Code K,C_s_l04Depths K] 0 (D_s_GeneratedBy K) [(0,X0_s_GeneratedBy)] rv_s_GeneratedBy K Tryz.func10 (by kernel_rfl) ⟨⟨fun _ _ _ _=>by kernel_rfl,fun _ _ _=>rfl⟩,trivial⟩ (fun _=>by kernel_rfl)
noncomputable def C_s_GeneratedBy (K:Nat):CB Tryz.prog:=.f _ _ (ok_s_GeneratedBy K)
noncomputable def as_w_big:Ty:=(.pair (.sl (.int .u8)) .unit)
noncomputable def sp_w_big (F:((List Int) × Unit)->Option Bool):FnSpec:=⟨as_w_big,[false],.bool,F⟩
noncomputable def w_big (K:Nat) (x:((List Int) × Unit)):Option Bool :=
    some (decide ((x.1.length:Int) > (4096:Int)))
noncomputable def rv_w_big:Lv:=[(2,(.v .bool))]
theorem ok_w_big (K:Nat):FnOk Tryz.prog 6 (sp_w_big (w_big K)) :=
  fn_okD tysOk [] 0 [] [] rv_w_big K Tryz.func6 (by kernel_rfl) trivial (fun _=>by kernel_rfl)
noncomputable def C_w_big (K:Nat):CB Tryz.prog:=.f _ _ (ok_w_big K)
noncomputable def ps_w_roll:Lv:=[(0,(.v (.sl (.int .u8)))),(1,(.v (.int .u64)))]
noncomputable def rl_w_roll:Lv:=[(0,(.bx (.v tq1)))]
noncomputable def sp_w_roll (F:((List Int) × Int × Unit)->Option ((dq1 × Unit) × Unit)):ShSpec:=⟨ps_w_roll,rl_w_roll,F⟩
noncomputable def w_roll_l3 {R:Type} (K:Nat):Nat->(List Int)->dq1->Int->(dq1->Option R)->Option R
  | 0,_,_,_,_=>none
  | k + 1,v0,v5,v6,kx0 =>
    (if (decide (v6 < (v0.length:Int)))=true then
    (if (bnds v6 (v0.length:Int))=true then
    let x3:=(IntKind.u64.wrap ((IntKind.u64.wrap (v5.2.2.1 * (1099511628211:Int))) + (IntKind.u64.wrap (v0.getD v6.toNat (0:Int)))))
    w_roll_l3 K k v0 (v5.1,v5.2.1,(IntKind.u64.wrap (x3 + (5:Int))),()) (IntKind.i64.wrap (v6 + (1:Int))) kx0
    else
    none)
    else
    kx0 v5)
noncomputable def w_roll (K:Nat) (x:((List Int) × Int × Unit)):Option ((dq1 × Unit) × Unit) :=
    let x1:=(IntKind.u64.wrap ((IntKind.u64.wrap (x.2.1 * (8311:Int))) + (IntKind.u64.wrap (x.1.length:Int))))
    let x2:=((x.1,(0:Int),(0:Int),()).1,(x.1,(0:Int),(0:Int),()).2.1,x1,())
    w_roll_l3 K K x.1 x2 (0:Int) (fun z4 =>
    some ((z4,()),()))
noncomputable def X0_w_roll:Lv:=[(5,(.bx (.v tq1)))]
noncomputable def rv_w_roll:Lv:=[(4,(.bx (.v tq1)))]
noncomputable def D_w_roll (K:Nat):List (PD (den rl_w_roll.ty × den (outL ps_w_roll).ty)):=[.L 3 [(0,(.v (.sl (.int .u8)))),(5,(.bx (.v tq1))),(6,(.v (.int .i64)))] [] (fun k x kx kr=>w_roll_l3 K k x.1 x.2.1 x.2.2.1 (fun z0=>kx 0 (mkSt X0_w_roll (z0,()))))]
theorem ok_w_roll (K:Nat):ShOk Tryz.prog 7 (sp_w_roll (w_roll K)) :=
  sh_okD tysOk [] 0 (D_w_roll K) [(0,X0_w_roll)] rv_w_roll K Tryz.func7 (by kernel_rfl) ⟨⟨fun _ _ _ _=>by kernel_rfl,fun _ _ _=>rfl⟩,trivial⟩ (fun _=>by kernel_rfl)
noncomputable def C_w_roll (K:Nat):CB Tryz.prog:=.s _ _ (ok_w_roll K)
noncomputable def ps_w_dice_below:Lv:=[(0,(.bx (.v tq1))),(1,(.v (.int .i64)))]
noncomputable def rl_w_dice_below:Lv:=[(0,(.v (.int .i64)))]
noncomputable def sp_w_dice_below (F:(dq1 × Int × Unit)->Option ((Int × Unit) × (dq1 × Unit))):ShSpec:=⟨ps_w_dice_below,rl_w_dice_below,F⟩
noncomputable def w_dice_below (K:Nat) (x:(dq1 × Int × Unit)):Option ((Int × Unit) × (dq1 × Unit)) :=
    (if (decide (x.2.1 < (1:Int)))=true then
    some (((0:Int),()),(x.1,()))
    else
    let x1:=(IntKind.u64.wrap ((IntKind.u64.wrap (x.1.2.2.1 * (6364136223846793005:Int))) + (1442695040888963407:Int)))
    let x2:=(bitI .and .u64 (shrI .u64 ((x.1.1,x.1.2.1,x1,()).2.2.1) (33:Int)) (16777215:Int))
    let x3:=(decide ((x.1.1,x.1.2.1,x1,()).2.1 < (((x.1.1,x.1.2.1,x1,()).1).length:Int)))
    (if x3=true then
    (if (bnds ((x.1.1,x.1.2.1,x1,()).2.1) (((x.1.1,x.1.2.1,x1,()).1).length:Int))=true then
    let x4:=(((x.1.1,x.1.2.1,x1,()).1).getD ((x.1.1,x.1.2.1,x1,()).2.1).toNat (0:Int))
    let x5:=(IntKind.i64.wrap ((IntKind.i64.wrap x2) + (IntKind.i64.wrap x4)))
    let x6:=(IntKind.i64.wrap ((x.1.1,x.1.2.1,x1,()).2.1 + (1:Int)))
    (if (!decide (x.2.1=0))=true then
    some (((Int.tmod x5 x.2.1),()),(((x.1.1,x.1.2.1,x1,()).1,x6,(x.1.1,x.1.2.1,x1,()).2.2.1,()),()))
    else
    none)
    else
    none)
    else
    (if (!decide (x.2.1=0))=true then
    some (((Int.tmod (IntKind.i64.wrap x2) x.2.1),()),((x.1.1,x.1.2.1,x1,()),()))
    else
    none)))
noncomputable def rv_w_dice_below:Lv:=[(0,(.bx (.v tq1))),(4,(.v (.int .i64)))]
theorem ok_w_dice_below (K:Nat):ShOk Tryz.prog 8 (sp_w_dice_below (w_dice_below K)) :=
  sh_okD tysOk [] 1 [] [] rv_w_dice_below K Tryz.func8 (by kernel_rfl) trivial (fun _=>by kernel_rfl)
noncomputable def C_w_dice_below (K:Nat):CB Tryz.prog:=.s _ _ (ok_w_dice_below K)
end Go.Proofs.YtmlgfaojfmkdnaaGreatDoor.E
