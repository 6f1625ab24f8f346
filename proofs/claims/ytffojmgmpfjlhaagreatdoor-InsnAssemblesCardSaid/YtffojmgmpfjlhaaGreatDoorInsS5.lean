/- Parts of the proof: see the last text -/
import Derived.Test.YtffojmgmpfjlhaaGreatDoorInsS4
set_option maxHeartbeats 8000000
set_option maxRecDepth 100000
set_option linter.unusedVariables false
set_option linter.unusedSimpArgs false
namespace Go.Proofs.YtffojmgmpfjlhaaGreatDoor.Q
open Go.Proofs.YtffojmgmpfjlhaaGreatDoor Go.RowKit Go.Proofs.YtffojmgmpfjlhaaGreatDoorW.PrintWords Go.Proofs.YtffojmgmpfjlhaaGreatDoorW.PrintLast Go.Proofs.YtffojmgmpfjlhaaGreatDoorW.PrintMore
attribute [local go_sem] max2_int min2_int max_two min_two max_three min_three max_four min_four
mutual
def insn_appended.j0:Nat→List Int→Int→Int→Int→Int→Int→Option (List Int)
 | 0,_,_,_,_,_,_=>none
 | k+1,x0,x5,x114000,x114001,x114002,x114003=>(insn_bytesOf.f k x5).bind fun t127=>(insn_appended.l0 k x0 x114003 t127 0)
def insn_appended.l0:Nat→List Int→Int→Int→Int→Option (List Int)
 | 0,_,_,_,_=>none
 | k+1,x0,x6,x43,x44=>if x44 < x43 then (if x0.length < 140737488355328 then (insn_appended.l0 k (x0 ++ [(Go.bits .and .i64 x6 127) % 256]) (x6 / 128) x43 (wrap64 (x44+1))) else (none)) else (some x0)
end
def insn_appended.f (k:Nat) (l0:List Int) (a1_0:Int) (a1_1:Int) (a1_2:Int) (a1_3:Int):Option (List Int):=(insn_kindOf.f a1_0).bind fun bt114=>(if l0.length < 140737488355328 then ((some (l0 ++ [(wrap64 (128+a1_0)) % 256]:List Int)).bind fun y116=>((insn_hasB.f bt114.2).bind fun t119=>(if t119=true then (if y116.length < 140737488355328 then (insn_appended.j0 k (y116 ++ [(wrap64 ((wrap64 (8 * a1_1))+a1_2)) % 256]) bt114.2 a1_0 a1_1 a1_2 a1_3) else (none)) else ((insn_hasA.f bt114.2).bind fun t123=>(if t123=true then (if y116.length < 140737488355328 then (insn_appended.j0 k (y116 ++ [(a1_1) % 256]) bt114.2 a1_0 a1_1 a1_2 a1_3) else (none)) else (insn_appended.j0 k y116 bt114.2 a1_0 a1_1 a1_2 a1_3)))))) else (none))
theorem insn_appended.mono_l:∀ k,(∀ y0 y1 y2 y3 y4 y5,LeO (insn_appended.j0 k y0 y1 y2 y3 y4 y5) (insn_appended.j0 (k+1) y0 y1 y2 y3 y4 y5))∧(∀ y0 y1 y2 y3,LeO (insn_appended.l0 k y0 y1 y2 y3) (insn_appended.l0 (k+1) y0 y1 y2 y3))
 | 0=>⟨fun _ _ _ _ _ _ r h=>by simp [insn_appended.j0] at h,fun _ _ _ _ r h=>by simp [insn_appended.l0] at h⟩
 | k+1=>by
  obtain ⟨ih0,ih1⟩:=insn_appended.mono_l k;refine ⟨?_,?_⟩
  ·intro y0 y1 y2 y3 y4 y5;unfold insn_appended.j0;repeat' first
   | (with_reducible exact ih0 _ _ _ _ _ _)
   | (with_reducible exact ih1 _ _ _ _)
   | (with_reducible exact insn_bytesOf.mono _ _)
   | (with_reducible exact LeO.refl _)
   | (with_reducible exact LeO.none _)
   | (with_reducible refine LeO.ite ?_ ?_)
   | (with_reducible refine LeO.bind ?_ (fun _=>?_))
   | exact LeO.none _
   | refine LeO.ite ?_ ?_
   | refine LeO.bind ?_ (fun _=>?_)
  ·intro y0 y1 y2 y3;unfold insn_appended.l0;repeat' first
   | (with_reducible exact ih0 _ _ _ _ _ _)
   | (with_reducible exact ih1 _ _ _ _)
   | (with_reducible exact insn_bytesOf.mono _ _)
   | (with_reducible exact LeO.refl _)
   | (with_reducible exact LeO.none _)
   | (with_reducible refine LeO.ite ?_ ?_)
   | (with_reducible refine LeO.bind ?_ (fun _=>?_))
   | exact LeO.none _
   | refine LeO.ite ?_ ?_
   | refine LeO.bind ?_ (fun _=>?_)
theorem insn_appended.mono:∀ a0 a1 a2 a3 a4 k,LeO (insn_appended.f k a0 a1 a2 a3 a4) (insn_appended.f (k+1) a0 a1 a2 a3 a4):=by
 intro a0 a1 a2 a3 a4 k;obtain ⟨ih0,ih1⟩:=insn_appended.mono_l k;unfold insn_appended.f;repeat' first
   | (with_reducible exact ih0 _ _ _ _ _ _)
   | (with_reducible exact ih1 _ _ _ _)
   | (with_reducible exact insn_bytesOf.mono _ _)
   | (with_reducible exact LeO.refl _)
   | (with_reducible exact LeO.none _)
   | (with_reducible refine LeO.ite ?_ ?_)
   | (with_reducible refine LeO.bind ?_ (fun _=>?_))
   | exact LeO.none _
   | refine LeO.ite ?_ ?_
   | refine LeO.bind ?_ (fun _=>?_)
theorem insn_appended.calls (k:Nat) (P0_:Nat→Prop) (u9000_:Value) (l0:List Int) (a1_0:Int) (a1_1:Int) (a1_2:Int) (a1_3:Int) (r:List Int) (w0 w:World) (hB:Below w0.heap.size w0 w) (ho0:Kd.R (Kd.int .u8) 5 w w0.heap.size P0_ u9000_ l0) (h:insn_appended.f k l0 a1_0 a1_1 a1_2 a1_3=some r) (hgw:GW w0) :
  Calls Tryz.prog 50 #[u9000_,.agg #[.int .i64 a1_0,.int .i64 a1_1,.int .i64 a1_2,.int .i64 a1_3]] w fun e w'=>∃ v0_:Value,e=.returned (v0_)∧Kd.R (Kd.int .u8) 5 w' w0.heap.size (fun k_=>(P0_ k_∨w.heap.size≤k_)) v0_ r∧Below w0.heap.size w0 w'∧Kept w w' (fun k_=>P0_ k_):=by
 have hu23:=Tryz.underlying23;have HO0:=Aside0.mk (show Kd.R (Kd.int .u8) 5 w w0.heap.size (fun k_=>(P0_ k_∨w.heap.size≤k_)) u9000_ l0 from Kd.R_mono ho0 (fun k_ hk=>(.inl hk)));have HK:=Aside0.mk (Kept.refl w (fun k_=>P0_ k_));have HW0:=Aside0.mk hB.size;have HB:=Aside0.mk hB;clear hB;unfold insn_appended.f at h;have H:=h;clear h;obtain ⟨⟨t114,t115⟩,A3,H⟩:=bas H;(try dsimp only at H);by_cases c4:l0.length < 140737488355328
 ·rw [if_pos c4] at H;have LMc4:=Aside0.mk c4;clear c4;obtain ⟨y116,hy116⟩:∃ y_:List Int,y_=(l0 ++ [(wrap64 (128+a1_0)) % 256]):=⟨_,rfl⟩;replace H:((insn_hasB.f t115).bind fun t119=>(if t119=true then (if y116.length < 140737488355328 then (insn_appended.j0 k (y116 ++ [(wrap64 ((wrap64 (8 * a1_1))+a1_2)) % 256]) t115 a1_0 a1_1 a1_2 a1_3) else (none)) else ((insn_hasA.f t115).bind fun t123=>(if t123=true then (if y116.length < 140737488355328 then (insn_appended.j0 k (y116 ++ [(a1_1) % 256]) t115 a1_0 a1_1 a1_2 a1_3) else (none)) else (insn_appended.j0 k y116 t115 a1_0 a1_1 a1_2 a1_3)))))=some r:=by first | (rw [hy116];with_reducible exact H) | (have H2_:=(Option.bind_some _ _).symm.trans H;rw [hy116];with_reducible exact H2_) | (have H2_:=(Option.bind_some _ _).symm.trans H;with_reducible exact H2_) | with_reducible exact H | (rw [hy116];exact H) | exact H
  have Ny116:=Aside0.mk hy116;clear hy116;have HC5:=Aside0.mk H;clear H;go_enter Tryz.func50,Tryz.ntmps50
  go_upto_block 0 with (first | ((with_reducible refine gate_dst (N:=3) rfl ?_);refine bxe (N:=3) (cs:=#[.int .i64 a1_0,.int .i64 a1_1,.int .i64 a1_2,.int .i64 a1_3]) (t:=23) ?_;intro gb113 hg w6 hbox hb;replace HO0:=Aside0.mk (Kd.R_below (by (with_reducible repeat (first | apply Kd.R_alloc | apply Kd.R_drewN | apply Kd.R_drew));exact HO0.out) hb);have BK113:=Aside0.mk hbox;have GW113:=Aside0.mk ((by rw [hg];exact (by first | exact HK.out.1 | exact (show Kept w _ (fun k_=>P0_ k_) from by repeat (first | (with_reducible first | exact HK.out | apply Kept.alloc | apply Kept.drewN | apply Kept.drew) | exact HK.out)).1):w.heap.size≤gb113));replace HK:=Aside0.mk (Kept.below (S:=(fun k_=>P0_ k_)) (by repeat (first | (with_reducible first | exact HK.out | apply Kept.alloc | apply Kept.drewN | apply Kept.drew) | exact HK.out)) hb);have GE113:Aside0 (w0.heap.size≤gb113):=⟨gwb⟩;replace HB:=Aside0.mk (below_step blw hb);clear hb hbox hg;obtain ⟨hcz7_0,hcz7_1,hcz7_2,hcz7_3,hfz7_0,hfz7_1,hfz7_2,hfz7_3⟩:=bz4 BK113.out) | ((with_reducible refine gate_callee (f:=55) rfl ?_);refine gl (some 9) Tryz.func55 #[.int .i64 a1_0] ?_;(with_reducible refine (insn_kindOf.calls a1_0 _ _ _ A3.out gwy).mono ?_);rintro e w8 ⟨rfl,hb⟩;refine ⟨_,rfl,?_⟩;replace HO0:=Aside0.mk (Kd.R_below (by (with_reducible repeat (first | apply Kd.R_alloc | apply Kd.R_drewN | apply Kd.R_drew));exact HO0.out) hb);replace BK113:=Aside0.mk (blk_below (g:=gb113) bko hb);replace HK:=Aside0.mk (Kept.below (S:=(fun k_=>P0_ k_)) (by repeat (first | (with_reducible first | exact HK.out | apply Kept.alloc | apply Kept.drewN | apply Kept.drew | refine Kept.setCell ?_ (.inr GW113.out) _) | exact HK.out)) hb);replace HB:=Aside0.mk (below_step blw hb);clear hb;obtain ⟨hcz9_0,hcz9_1,hcz9_2,hcz9_3,hfz9_0,hfz9_1,hfz9_2,hfz9_3⟩:=bz4 BK113.out) | ((with_reducible refine gate_builtin (b:=.append) (xs:=#[.tmp 11,.tmp 16]) rfl ?_);at_builtin;refine Kd.R_append (Kd.int .u8) (w0:=w0) w0.heap.size rfl (.tmp 11) (.tmp 16) 24 5 (.int .u8 0) 1 rfl Tryz.underlying24 info5 rfl (by decide) (by omega) u9000_ l0 ((wrap64 (128+a1_0)) % 256) [.int .u8 ((wrap64 (128+a1_0)) % 256)] (fun k_=>(P0_ k_∨w.heap.size≤k_)) (fun _=>False) rfl rfl ?aP (fun _ hk=>hk.elim) ?aF ?aO ?aB ?aS ?aL ?_;(case aP=>exact rfl);(case aB=>exact blw);(case aF=>exact (fun k_ hk=>(.inr (Nat.le_trans (by first | exact HK.out.1 | exact (show Kept w _ (fun k_=>P0_ k_) from by repeat (first | (with_reducible first | exact HK.out | apply Kept.alloc | apply Kept.drewN | apply Kept.drew | refine Kept.setCell ?_ (.inr GW113.out) _) | exact HK.out)).1) hk))));(case aO=>exact (by (with_reducible repeat (first | apply Kd.R_alloc | apply Kd.R_drewN | apply Kd.R_drew));exact HO0.out));(case aS=>exact (below_size blw));(case aL=>have:=LMc4.out;omega);intro v117 w10 ho hb hg hat;rw [← Ny116.out] at ho;replace BK113:=Aside0.mk (blk_grown (g:=gb113) (o:=.cells #[.int .i64 a1_0,.int .i64 a1_1,.int .i64 a1_2,.int .i64 a1_3] 23 (0,0)) bko hg (Kd.R_ne HO0.out BK113.out (by decide)));replace HB:=Aside0.mk hb;replace HK:=Aside0.mk (Kept.of_grown (S:=(fun k_=>P0_ k_)) hg (by repeat (first | (with_reducible first | exact HK.out | apply Kept.alloc | apply Kept.drewN | apply Kept.drew | refine Kept.setCell ?_ (.inr GW113.out) _) | exact HK.out)) (fun k_ e_=>(HO0.out.1 k_ e_)));have HO118:=Aside0.mk ho;clear ho hb hg hat))
  (try simp only [Act.put,List.setIfInBounds_toArray,List.set_cons_zero,List.set_cons_succ]);go_cut [0] (fun v0 wc=>∃ (kq:Nat) (x0_4:List Int),Aside0 (insn_appended.j0 kq x0_4 t115 a1_0 a1_1 a1_2 a1_3=some r)∧Aside0 (kq≤k)∧Aside0 (Kd.R (Kd.int .u8) 5 wc w0.heap.size (fun k_=>(P0_ k_∨w.heap.size≤k_)) v0 x0_4)∧Aside0 (wc.heap[gb113]?=some (.cells #[.int .i64 a1_0,.int .i64 a1_1,.int .i64 a1_2,.int .i64 a1_3] 23 (0,0)))∧Aside0 (Kept w wc (fun k_=>P0_ k_))∧Aside0 (Below w0.heap.size w0 wc))
  case first =>
   have H:=HC5.out;clear HC5;obtain ⟨t119,A11,H⟩:=bas H;(try dsimp only at H);by_cases c12:t119=true
   ·subst c12;rw [if_pos rfl] at H;by_cases c13:y116.length < 140737488355328
    ·rw [if_pos c13] at H;have LMc13:=Aside0.mk c13;clear c13;obtain ⟨y120,hy120⟩:∃ y_:List Int,y_=(y116 ++ [(wrap64 ((wrap64 (8 * a1_1))+a1_2)) % 256]):=⟨_,rfl⟩;replace H:(insn_appended.j0 k y120 t115 a1_0 a1_1 a1_2 a1_3)=some r:=by first | (rw [hy120];with_reducible exact H) | (have H2_:=(Option.bind_some _ _).symm.trans H;rw [hy120];with_reducible exact H2_) | (have H2_:=(Option.bind_some _ _).symm.trans H;with_reducible exact H2_) | with_reducible exact H | (rw [hy120];exact H) | exact H
     have Ny120:=Aside0.mk hy120;clear hy120;have H':=Aside0.mk H;clear H;go_wp2_with (first | ((with_reducible refine gate_callee (f:=58) rfl ?_);refine gl (some 20) Tryz.func58 #[.int .i64 t115] ?_;(with_reducible refine (insn_hasB.calls _ true _ A11.out).mono ?_);rintro e w' ⟨rfl,⟨nd,rfl⟩⟩;refine ⟨_,rfl,?_⟩;obtain ⟨_,_,_,_,_,_,_,_⟩:=bz4 BK113.out) | ((with_reducible refine gate_builtin (b:=.append) (xs:=#[.tmp 21,.tmp 29]) rfl ?_);at_builtin;refine Kd.R_append (Kd.int .u8) (w0:=w0) w0.heap.size rfl (.tmp 21) (.tmp 29) 24 5 (.int .u8 0) 1 rfl Tryz.underlying24 info5 rfl (by decide) (by omega) v117 y116 ((wrap64 ((wrap64 (8 * a1_1))+a1_2)) % 256) [.int .u8 ((wrap64 ((wrap64 (8 * a1_1))+a1_2)) % 256)] (fun k_=>(P0_ k_∨w.heap.size≤k_)) (fun _=>False) rfl rfl ?aP (fun _ hk=>hk.elim) ?aF ?aO ?aB ?aS ?aL ?_;(case aP=>exact rfl);(case aB=>exact blw);(case aF=>exact (fun k_ hk=>(.inr (Nat.le_trans (by first | exact HK.out.1 | exact (show Kept w _ (fun k_=>P0_ k_) from by repeat (first | (with_reducible first | exact HK.out | apply Kept.alloc | apply Kept.drewN | apply Kept.drew | refine Kept.setCell ?_ (.inr GW113.out) _) | exact HK.out)).1) hk))));(case aO=>exact (by (with_reducible repeat (first | apply Kd.R_alloc | apply Kd.R_drewN | apply Kd.R_drew));exact HO118.out));(case aS=>exact (below_size blw));(case aL=>have:=LMc13.out;omega);intro v121 w15 ho hb hg hat;rw [← Ny120.out] at ho;replace BK113:=Aside0.mk (blk_grown (g:=gb113) (o:=.cells #[.int .i64 a1_0,.int .i64 a1_1,.int .i64 a1_2,.int .i64 a1_3] 23 (0,0)) bko hg (Kd.R_ne HO118.out BK113.out (by decide)));replace HB:=Aside0.mk hb;replace HK:=Aside0.mk (Kept.of_grown (S:=(fun k_=>P0_ k_)) hg (by repeat (first | (with_reducible first | exact HK.out | apply Kept.alloc | apply Kept.drewN | apply Kept.drew | refine Kept.setCell ?_ (.inr GW113.out) _) | exact HK.out)) (fun k_ e_=>(HO118.out.1 k_ e_)));have HO122:=Aside0.mk ho;clear ho hb hg hat))
     go_meet
     case rel=>exact ⟨_,(y120),H',⟨by first | omega | exact Nat.le_refl _⟩,⟨by (with_reducible repeat (first | apply Kd.R_alloc | apply Kd.R_drewN | apply Kd.R_drew));exact HO122.out⟩,⟨bko⟩,⟨by repeat (first | (with_reducible first | exact HK.out | apply Kept.alloc | apply Kept.drewN | apply Kept.drew | refine Kept.setCell ?_ (.inr GW113.out) _) | exact HK.out)⟩,⟨blw⟩⟩
    ·rw [if_neg c13] at H;exact absurd H (by simp)
   ·replace c12:=Bool.eq_false_iff.mpr c12;subst c12;rw [if_neg (show ¬ (false=true) by decide)] at H;obtain ⟨t123,A16,H⟩:=bas H;(try dsimp only at H);by_cases c17:t123=true
    ·subst c17;rw [if_pos rfl] at H;by_cases c18:y116.length < 140737488355328
     ·rw [if_pos c18] at H;have LMc18:=Aside0.mk c18;clear c18;obtain ⟨y124,hy124⟩:∃ y_:List Int,y_=(y116 ++ [(a1_1) % 256]):=⟨_,rfl⟩;replace H:(insn_appended.j0 k y124 t115 a1_0 a1_1 a1_2 a1_3)=some r:=by first | (rw [hy124];with_reducible exact H) | (have H2_:=(Option.bind_some _ _).symm.trans H;rw [hy124];with_reducible exact H2_) | (have H2_:=(Option.bind_some _ _).symm.trans H;with_reducible exact H2_) | with_reducible exact H | (rw [hy124];exact H) | exact H
      have Ny124:=Aside0.mk hy124;clear hy124;have H':=Aside0.mk H;clear H;go_wp2_with (first | ((with_reducible refine gate_callee (f:=58) rfl ?_);refine gl (some 20) Tryz.func58 #[.int .i64 t115] ?_;(with_reducible refine (insn_hasB.calls _ false _ A11.out).mono ?_);rintro e w' ⟨rfl,⟨nd,rfl⟩⟩;refine ⟨_,rfl,?_⟩) | ((with_reducible refine gate_callee (f:=57) rfl ?_);refine gl (some 33) Tryz.func57 #[.int .i64 t115] ?_;(with_reducible refine (insn_hasA.calls _ true _ A16.out).mono ?_);rintro e w' ⟨rfl,⟨nd,rfl⟩⟩;refine ⟨_,rfl,?_⟩;obtain ⟨_,_,_,_,_,_,_,_⟩:=bz4 BK113.out) | ((with_reducible refine gate_builtin (b:=.append) (xs:=#[.tmp 34,.tmp 38]) rfl ?_);at_builtin;refine Kd.R_append (Kd.int .u8) (w0:=w0) w0.heap.size rfl (.tmp 34) (.tmp 38) 24 5 (.int .u8 0) 1 rfl Tryz.underlying24 info5 rfl (by decide) (by omega) v117 y116 ((a1_1) % 256) [.int .u8 ((a1_1) % 256)] (fun k_=>(P0_ k_∨w.heap.size≤k_)) (fun _=>False) rfl rfl ?aP (fun _ hk=>hk.elim) ?aF ?aO ?aB ?aS ?aL ?_;(case aP=>exact rfl);(case aB=>exact blw);(case aF=>exact (fun k_ hk=>(.inr (Nat.le_trans (by first | exact HK.out.1 | exact (show Kept w _ (fun k_=>P0_ k_) from by repeat (first | (with_reducible first | exact HK.out | apply Kept.alloc | apply Kept.drewN | apply Kept.drew | refine Kept.setCell ?_ (.inr GW113.out) _) | exact HK.out)).1) hk))));(case aO=>exact (by (with_reducible repeat (first | apply Kd.R_alloc | apply Kd.R_drewN | apply Kd.R_drew));exact HO118.out));(case aS=>exact (below_size blw));(case aL=>have:=LMc18.out;omega);intro v125 w20 ho hb hg hat;rw [← Ny124.out] at ho;replace BK113:=Aside0.mk (blk_grown (g:=gb113) (o:=.cells #[.int .i64 a1_0,.int .i64 a1_1,.int .i64 a1_2,.int .i64 a1_3] 23 (0,0)) bko hg (Kd.R_ne HO118.out BK113.out (by decide)));replace HB:=Aside0.mk hb;replace HK:=Aside0.mk (Kept.of_grown (S:=(fun k_=>P0_ k_)) hg (by repeat (first | (with_reducible first | exact HK.out | apply Kept.alloc | apply Kept.drewN | apply Kept.drew | refine Kept.setCell ?_ (.inr GW113.out) _) | exact HK.out)) (fun k_ e_=>(HO118.out.1 k_ e_)));have HO126:=Aside0.mk ho;clear ho hb hg hat))
      go_meet
      case rel=>exact ⟨_,(y124),H',⟨by first | omega | exact Nat.le_refl _⟩,⟨by (with_reducible repeat (first | apply Kd.R_alloc | apply Kd.R_drewN | apply Kd.R_drew));exact HO126.out⟩,⟨bko⟩,⟨by repeat (first | (with_reducible first | exact HK.out | apply Kept.alloc | apply Kept.drewN | apply Kept.drew | refine Kept.setCell ?_ (.inr GW113.out) _) | exact HK.out)⟩,⟨blw⟩⟩
     ·rw [if_neg c18] at H;exact absurd H (by simp)
    ·replace c17:=Bool.eq_false_iff.mpr c17;subst c17;rw [if_neg (show ¬ (false=true) by decide)] at H;have H':=Aside0.mk H;clear H;go_wp2_with (first | ((with_reducible refine gate_callee (f:=58) rfl ?_);refine gl (some 20) Tryz.func58 #[.int .i64 t115] ?_;(with_reducible refine (insn_hasB.calls _ false _ A11.out).mono ?_);rintro e w' ⟨rfl,⟨nd,rfl⟩⟩;refine ⟨_,rfl,?_⟩) | ((with_reducible refine gate_callee (f:=57) rfl ?_);refine gl (some 33) Tryz.func57 #[.int .i64 t115] ?_;(with_reducible refine (insn_hasA.calls _ false _ A16.out).mono ?_);rintro e w' ⟨rfl,⟨nd,rfl⟩⟩;refine ⟨_,rfl,?_⟩))
     go_meet
     case rel=>exact ⟨_,(y116),H',⟨by first | omega | exact Nat.le_refl _⟩,⟨by (with_reducible repeat (first | apply Kd.R_alloc | apply Kd.R_drewN | apply Kd.R_drew));exact HO118.out⟩,⟨bko⟩,⟨by repeat (first | (with_reducible first | exact HK.out | apply Kept.alloc | apply Kept.drewN | apply Kept.drew | refine Kept.setCell ?_ (.inr GW113.out) _) | exact HK.out)⟩,⟨blw⟩⟩
  case rest =>
   clear HC5;try clear hcz7_0
   try clear hcz7_1
   try clear hcz7_2
   try clear hcz7_3
   try clear hcz9_0
   try clear hcz9_1
   try clear hcz9_2
   try clear hcz9_3
   try clear hfz7_0
   try clear hfz7_1
   try clear hfz7_2
   try clear hfz7_3
   try clear hfz9_0
   try clear hfz9_1
   try clear hfz9_2
   try clear hfz9_3
   obtain ⟨kq,x0_4,HA,HJ4,HO_0,BK113,HK,HB⟩:=hcut;cases kq with
   | zero=>exact absurd HA.out (by simp [insn_appended.j0])
   | succ kj4 =>
    have H:=HA.out;clear HA;simp only [insn_appended.j0] at H;obtain ⟨t127,A21,H⟩:=bas H;(try dsimp only at H);have H':=Aside0.mk H;clear H;obtain ⟨hcz22_0,hcz22_1,hcz22_2,hcz22_3,hfz22_0,hfz22_1,hfz22_2,hfz22_3⟩:=bz4 BK113.out;go_wp2_with (first | ((with_reducible refine gate_callee (f:=89) rfl ?_);refine gl (some 43) Tryz.func89 #[.int .i64 t115] ?_;(with_reducible refine (insn_bytesOf.calls kj4 _ _ _ A21.out).mono ?_);rintro e w' ⟨rfl,⟨nd,rfl⟩⟩;refine ⟨_,rfl,?_⟩))
    try simp only [Act.put,List.setIfInBounds_toArray,List.set_cons_zero,List.set_cons_succ]
    go_loopg [0,6,44] kj4 (fun kq v0 v6 v44 w'=>∃ (x0_2:List Int) (x6_2:Int) (x44_2:Int),v6=.int .i64 x6_2∧v44=.int .i64 x44_2∧Aside0 (insn_appended.l0 kq x0_2 x6_2 t127 x44_2=some r)∧Aside0 (kq≤kj4)∧Aside0 (Kd.R (Kd.int .u8) 5 w' w0.heap.size (fun k_=>(P0_ k_∨w.heap.size≤k_)) v0 x0_2)∧Aside0 (w'.heap[gb113]?=some (.cells #[.int .i64 a1_0,.int .i64 a1_1,.int .i64 a1_2,.int .i64 a1_3] 23 (0,0)))∧Aside0 (Kept w w' (fun k_=>P0_ k_))∧Aside0 (Below w0.heap.size w0 w'))
    case atStart=>exact ⟨(x0_4),(a1_3),(0),rsd,rsd,H',⟨Nat.le_refl _⟩,⟨by (with_reducible repeat (first | apply Kd.R_alloc | apply Kd.R_drewN | apply Kd.R_drew));exact HO_0.out⟩,⟨bko⟩,⟨by repeat (first | (with_reducible first | exact HK.out | apply Kept.alloc | apply Kept.drewN | apply Kept.drew | refine Kept.setCell ?_ (.inr GW113.out) _) | exact HK.out)⟩,⟨blw⟩⟩
    case round =>
     clear H';try clear hcz22_0
     try clear hcz22_1
     try clear hcz22_2
     try clear hcz22_3
     try clear hfz22_0
     try clear hfz22_1
     try clear hfz22_2
     try clear hfz22_3
     obtain ⟨x0_2,x6_2,x44_2,rfl,rfl,HA,HK2,HO_0,BK113,HK,HB⟩:=hrel;cases gk with
     | zero=>exact absurd HA.out (by simp [insn_appended.l0])
     | succ k2 =>
      have H:=HA.out;clear HA;simp only [insn_appended.l0] at H;by_cases c23:x44_2 < t127
      ·rw [if_pos c23] at H;have c23b0:=decide_eq_true c23;clear c23;by_cases c24:x0_2.length < 140737488355328
       ·rw [if_pos c24] at H;have LMc24:=Aside0.mk c24;clear c24;obtain ⟨y128,hy128⟩:∃ y_:List Int,y_=(x0_2 ++ [(Go.bits .and .i64 x6_2 127) % 256]):=⟨_,rfl⟩;replace H:(insn_appended.l0 k2 y128 (x6_2 / 128) t127 (wrap64 (x44_2+1)))=some r:=by first | (rw [hy128];with_reducible exact H) | (have H2_:=(Option.bind_some _ _).symm.trans H;rw [hy128];with_reducible exact H2_) | (have H2_:=(Option.bind_some _ _).symm.trans H;with_reducible exact H2_) | with_reducible exact H | (rw [hy128];exact H) | exact H
        have Ny128:=Aside0.mk hy128;clear hy128;have H':=Aside0.mk H;clear H;go_wp2_with (first | ((with_reducible refine gate_builtin (b:=.append) (xs:=#[.tmp 46,.tmp 50]) rfl ?_);at_builtin;refine Kd.R_append (Kd.int .u8) (w0:=w0) w0.heap.size rfl (.tmp 46) (.tmp 50) 24 5 (.int .u8 0) 1 rfl Tryz.underlying24 info5 rfl (by decide) (by omega) u0 x0_2 ((Go.bits .and .i64 x6_2 127) % 256) [.int .u8 ((Go.bits .and .i64 x6_2 127) % 256)] (fun k_=>(P0_ k_∨w.heap.size≤k_)) (fun _=>False) rfl rfl ?aP (fun _ hk=>hk.elim) ?aF ?aO ?aB ?aS ?aL ?_;(case aP=>exact rfl);(case aB=>exact blw);(case aF=>exact (fun k_ hk=>(.inr (Nat.le_trans (by first | exact HK.out.1 | exact (show Kept w _ (fun k_=>P0_ k_) from by repeat (first | (with_reducible first | exact HK.out | apply Kept.alloc | apply Kept.drewN | apply Kept.drew | refine Kept.setCell ?_ (.inr GW113.out) _) | exact HK.out)).1) hk))));(case aO=>exact (by (with_reducible repeat (first | apply Kd.R_alloc | apply Kd.R_drewN | apply Kd.R_drew));exact HO_0.out));(case aS=>exact (below_size blw));(case aL=>have:=LMc24.out;omega);intro v129 w25 ho hb hg hat;rw [← Ny128.out] at ho;replace BK113:=Aside0.mk (blk_grown (g:=gb113) (o:=.cells #[.int .i64 a1_0,.int .i64 a1_1,.int .i64 a1_2,.int .i64 a1_3] 23 (0,0)) bko hg (Kd.R_ne HO_0.out BK113.out (by decide)));replace HB:=Aside0.mk hb;replace HK:=Aside0.mk (Kept.of_grown (S:=(fun k_=>P0_ k_)) hg (by repeat (first | (with_reducible first | exact HK.out | apply Kept.alloc | apply Kept.drewN | apply Kept.drew | refine Kept.setCell ?_ (.inr GW113.out) _) | exact HK.out)) (fun k_ e_=>(HO_0.out.1 k_ e_)));have HO130:=Aside0.mk ho;clear ho hb hg hat))
        go_roundg k2
        case measure=>have:=HJ4.out;have:=HK2.out;omega
        case rel=>exact ⟨(y128),(x6_2 / 128),(wrap64 (x44_2+1)),rsd,rsd,H',⟨by have:=HJ4.out;have:=HK2.out;omega⟩,⟨by (with_reducible repeat (first | apply Kd.R_alloc | apply Kd.R_drewN | apply Kd.R_drew));exact HO130.out⟩,⟨bko⟩,⟨by repeat (first | (with_reducible first | exact HK.out | apply Kept.alloc | apply Kept.drewN | apply Kept.drew | refine Kept.setCell ?_ (.inr GW113.out) _) | exact HK.out)⟩,⟨blw⟩⟩
       ·rw [if_neg c24] at H;exact absurd H (by simp)
      ·rw [if_neg c23] at H;have c23b0:=decide_eq_false c23;clear c23;obtain rfl:=Option.some.inj H;go_wp2;go_ret;exact ⟨_,by first | rfl | (simp [errW_none,errW_some] <;> rfl) | (simp [*,errW_none,errW_some] <;> rfl),by (with_reducible repeat (first | apply Kd.R_alloc | apply Kd.R_drewN | apply Kd.R_drew));exact HO_0.out,by repeat (first | (with_reducible first | exact HB.out | apply below_alloc | apply pw_below_drewN | apply below_drew1 | refine below_set ?_ GE113.out) | exact HB.out),by repeat (first | (with_reducible first | exact HK.out | apply Kept.alloc | apply Kept.drewN | apply Kept.drew | refine Kept.setCell ?_ (.inr GW113.out) _) | exact HK.out)⟩
 ·rw [if_neg c4] at H;exact absurd H (by simp)
def insn_Encode.f (k:Nat) (a0_0:Int) (a0_1:Int) (a0_2:Int) (a0_3:Int):Option (List Int × Int):=(insn_Check.f k a0_0 a0_1 a0_2 a0_3).bind fun t132=>(if t132=0 then ((insn_appended.f k ([]:List Int) a0_0 a0_1 a0_2 a0_3).bind fun t133=>(some (t133,0))) else (some (([]:List Int),t132)))
theorem insn_Encode.mono:∀ a0 a1 a2 a3 k,LeO (insn_Encode.f k a0 a1 a2 a3) (insn_Encode.f (k+1) a0 a1 a2 a3):=by
 intro a0 a1 a2 a3 k;unfold insn_Encode.f;repeat' first
   | (with_reducible exact insn_Check.mono _ _ _ _ _)
   | (with_reducible exact insn_appended.mono _ _ _ _ _ _)
   | (with_reducible exact LeO.refl _)
   | (with_reducible exact LeO.none _)
   | (with_reducible refine LeO.ite ?_ ?_)
   | (with_reducible refine LeO.bind ?_ (fun _=>?_))
   | exact LeO.none _
   | refine LeO.ite ?_ ?_
   | refine LeO.bind ?_ (fun _=>?_)
theorem insn_Encode.calls (k:Nat) (a0_0:Int) (a0_1:Int) (a0_2:Int) (a0_3:Int) (r1:List Int) (r2:Int) (w:World) (h:insn_Encode.f k a0_0 a0_1 a0_2 a0_3=some (r1,r2)) (hgw:GW w) :
  Calls Tryz.prog 18 #[.agg #[.int .i64 a0_0,.int .i64 a0_1,.int .i64 a0_2,.int .i64 a0_3]] w fun e w'=>∃ v0_:Value,e=.returned (.tuple #[v0_,.int .i64 r2])∧Kd.R (Kd.int .u8) 5 w' w.heap.size (fun _=>True) v0_ r1∧Below w.heap.size w w':=by
 have hu23:=Tryz.underlying23;have HB:=Aside0.mk (Below.refl w.heap.size w);unfold insn_Encode.f at h;have H:=h;clear h;obtain ⟨t132,A2,H⟩:=bas H;(try dsimp only at H);by_cases c3:t132=0
 ·rw [if_pos c3] at H;obtain ⟨c3b0,c3b1⟩:=bqt c3;clear c3;obtain ⟨t133,A4,H⟩:=bas H;(try dsimp only at H);simp only [Option.some.injEq,Prod.mk.injEq] at H;obtain ⟨rfl,rfl⟩:=H;go_enter Tryz.func18,Tryz.ntmps18
  go_wp2_with (first | ((with_reducible refine gate_dst (N:=1) rfl ?_);refine bxe (N:=1) (cs:=#[.int .i64 a0_0,.int .i64 a0_1,.int .i64 a0_2,.int .i64 a0_3]) (t:=23) ?_;intro gb131 hg w5 hbox hb;have BK131:=Aside0.mk hbox;have GW131:Aside0 (w.heap.size≤gb131):=⟨gwb⟩;have GE131:Aside0 (w.heap.size≤gb131):=⟨gwb⟩;replace HB:=Aside0.mk (below_step blw hb);clear hb hbox hg;obtain ⟨_,_,_,_,_,_,_,_⟩:=bz4 BK131.out) | ((with_reducible refine gate_callee (f:=31) rfl ?_);refine gl (some 6) Tryz.func31 #[.agg #[.int .i64 a0_0,.int .i64 a0_1,.int .i64 a0_2,.int .i64 a0_3]] ?_;(with_reducible refine (insn_Check.calls k a0_0 a0_1 a0_2 a0_3 _ _ A2.out gwy).mono ?_);rintro e w7 ⟨rfl,hb⟩;refine ⟨_,rfl,?_⟩;replace BK131:=Aside0.mk (blk_below (g:=gb131) bko hb);replace HB:=Aside0.mk (below_step blw hb);clear hb;obtain ⟨_,_,_,_,_,_,_,_⟩:=bz4 BK131.out) | ((with_reducible refine gate_callee (f:=50) rfl ?_);refine gl (some 11) Tryz.func50 #[.slice none 0 0,.agg #[.int .i64 a0_0,.int .i64 a0_1,.int .i64 a0_2,.int .i64 a0_3]] ?_;(refine (insn_appended.calls k (fun k_=>some k_=(.slice none 0 0:Value).ownBlock) (.slice none 0 0) ([]:List Int) a0_0 a0_1 a0_2 a0_3 t133 w _ ?side1 ?side2 A4.out gwy).mono ?_);(case side1=>repeat (first | (with_reducible first | exact HB.out | apply below_alloc | apply pw_below_drewN | apply below_drew1 | refine below_set ?_ GE131.out) | exact HB.out));(case side2=>exact Kd.R_nil _ _ _ _ _);rintro e w9 ⟨v134,rfl,ho0,hb,hkp⟩;refine ⟨_,rfl,?_⟩;replace BK131:=Aside0.mk (blk_kept bko hkp (fun hs_=>(fun e_=>by simp [Value.ownBlock] at e_) hs_));have HO135:=Aside0.mk (Kd.R_mono (ok':=fun k_=>True) ho0 (fun k_ hk_=>trivial));replace HB:=Aside0.mk hb;(try clear hb);(try clear hkp);(try clear ho0)))
  go_ret2;exact ⟨_,by first | rfl | (simp [errW_none,errW_some] <;> rfl) | (simp [*,errW_none,errW_some] <;> rfl),by (with_reducible repeat (first | apply Kd.R_alloc | apply Kd.R_drewN | apply Kd.R_drew));exact HO135.out,blw⟩
 ·rw [if_neg c3] at H;obtain ⟨c3b0,c3b1⟩:=bqf c3;simp only [Option.some.injEq,Prod.mk.injEq] at H;obtain ⟨rfl,rfl⟩:=H;go_enter Tryz.func18,Tryz.ntmps18
  go_wp2_with (first | ((with_reducible refine gate_dst (N:=1) rfl ?_);refine bxe (N:=1) (cs:=#[.int .i64 a0_0,.int .i64 a0_1,.int .i64 a0_2,.int .i64 a0_3]) (t:=23) ?_;intro gb131 hg w10 hbox hb;have BK131:=Aside0.mk hbox;have GW131:Aside0 (w.heap.size≤gb131):=⟨gwb⟩;have GE131:Aside0 (w.heap.size≤gb131):=⟨gwb⟩;replace HB:=Aside0.mk (below_step blw hb);clear hb hbox hg;obtain ⟨_,_,_,_,_,_,_,_⟩:=bz4 BK131.out) | ((with_reducible refine gate_callee (f:=31) rfl ?_);refine gl (some 6) Tryz.func31 #[.agg #[.int .i64 a0_0,.int .i64 a0_1,.int .i64 a0_2,.int .i64 a0_3]] ?_;(with_reducible refine (insn_Check.calls k a0_0 a0_1 a0_2 a0_3 _ _ A2.out gwy).mono ?_);rintro e w12 ⟨rfl,hb⟩;refine ⟨_,rfl,?_⟩;replace BK131:=Aside0.mk (blk_below (g:=gb131) bko hb);replace HB:=Aside0.mk (below_step blw hb);clear hb))
  go_ret2;exact ⟨_,by first | rfl | (simp [errW_none,errW_some] <;> rfl) | (simp [*,errW_none,errW_some] <;> rfl),by first | exact Kd.R_nil _ _ _ _ _ | exact Kd.N_nil _ _ _ _ _ | exact Kd.V_nil _ _ _ _ _ | exact Kd.Q_nil _ _ _ _ _ | exact Kd.S_nil _ _ _ _ _,blw⟩
def lzsameBytes.f (l0:List Int) (l1:List Int):Option (Bool):=some ((strOfNums l0).toList == (strOfNums l1).toList)
theorem lzsameBytes.calls (A0:Option Addr) (c0:Nat) (l0:List Int) (A1:Option Addr) (c1:Nat) (l1:List Int) (r:Bool) (w:World) (hr0:Kd.C (Kd.int .u8) w A0 l0.length l0) (hc0:l0.length≤c0) (hr1:Kd.C (Kd.int .u8) w A1 l1.length l1) (hc1:l1.length≤c1) (h:lzsameBytes.f l0 l1=some r) :
  Calls Tryz.prog 20 #[.slice A0 l0.length c0,.slice A1 l1.length c1] w fun e w'=>e=.returned (.bool r)∧Drawn0 w w':=by
 have HR0:=Aside0.mk hr0;have HC0:=Aside0.mk hc0;clear hr0 hc0;have HR1:=Aside0.mk hr1;have HC1:=Aside0.mk hc1;clear hr1 hc1;unfold lzsameBytes.f at h;have H:=h;clear h;obtain rfl:=Option.some.inj H;have hcv3:=Kd.C_string (P:=Tryz.prog) (A:=A0) (c:=c0) Tryz.underlying24 Tryz.underlying5 Tryz.underlying9 HR0.out;have hcv4:=Kd.C_string (P:=Tryz.prog) (A:=A1) (c:=c1) Tryz.underlying24 Tryz.underlying5 Tryz.underlying9 HR1.out;go_enter Tryz.func20,Tryz.ntmps20
 go_wp2;go_ret;exact ⟨by first | rfl | (simp;done) | (simp [*];done),by repeat (first | exact Drawn0.refl _ | apply Drawn0.step)⟩
def insn_length.f (k:Nat) (a0:Int):Option (Int):=(insn_bytesOf.f k a0).bind fun t136=>((insn_hasA.f a0).bind fun t137=>(if t137=true then (some (wrap64 ((wrap64 (1+t136))+1))) else (some (wrap64 (1+t136)))))
theorem insn_length.mono:∀ a0 k,LeO (insn_length.f k a0) (insn_length.f (k+1) a0):=by
 intro a0 k;unfold insn_length.f;repeat' first
   | (with_reducible exact insn_bytesOf.mono _ _)
   | (with_reducible exact LeO.refl _)
   | (with_reducible exact LeO.none _)
   | (with_reducible refine LeO.ite ?_ ?_)
   | (with_reducible refine LeO.bind ?_ (fun _=>?_))
   | exact LeO.none _
   | refine LeO.ite ?_ ?_
   | refine LeO.bind ?_ (fun _=>?_)
theorem insn_length.calls (k:Nat) (a0:Int) (r:Int) (w:World) (h:insn_length.f k a0=some r) :
  Calls Tryz.prog 56 #[.int .i64 a0] w fun e w'=>e=.returned (.int .i64 r)∧Drawn0 w w':=by
 unfold insn_length.f at h;have H:=h;clear h;obtain ⟨t136,A2,H⟩:=bas H;(try dsimp only at H);obtain ⟨t137,A3,H⟩:=bas H;(try dsimp only at H);by_cases c4:t137=true
 ·subst c4;rw [if_pos rfl] at H;obtain rfl:=Option.some.inj H;go_enter Tryz.func56,Tryz.ntmps56
  go_wp2_with (first | ((with_reducible refine gate_callee (f:=89) rfl ?_);refine gl (some 5) Tryz.func89 #[.int .i64 a0] ?_;(with_reducible refine (insn_bytesOf.calls k a0 _ _ A2.out).mono ?_);rintro e w' ⟨rfl,⟨nd,rfl⟩⟩;refine ⟨_,rfl,?_⟩) | ((with_reducible refine gate_callee (f:=57) rfl ?_);refine gl (some 8) Tryz.func57 #[.int .i64 a0] ?_;(with_reducible refine (insn_hasA.calls a0 true _ A3.out).mono ?_);rintro e w' ⟨rfl,⟨nd,rfl⟩⟩;refine ⟨_,rfl,?_⟩))
  go_ret;exact ⟨by first | rfl | (simp;done) | (simp [*];done),by repeat (first | exact Drawn0.refl _ | apply Drawn0.step)⟩
 ·replace c4:=Bool.eq_false_iff.mpr c4;subst c4;rw [if_neg (show ¬ (false=true) by decide)] at H;obtain rfl:=Option.some.inj H;go_enter Tryz.func56,Tryz.ntmps56
  go_wp2_with (first | ((with_reducible refine gate_callee (f:=89) rfl ?_);refine gl (some 5) Tryz.func89 #[.int .i64 a0] ?_;(with_reducible refine (insn_bytesOf.calls k a0 _ _ A2.out).mono ?_);rintro e w' ⟨rfl,⟨nd,rfl⟩⟩;refine ⟨_,rfl,?_⟩) | ((with_reducible refine gate_callee (f:=57) rfl ?_);refine gl (some 8) Tryz.func57 #[.int .i64 a0] ?_;(with_reducible refine (insn_hasA.calls a0 false _ A3.out).mono ?_);rintro e w' ⟨rfl,⟨nd,rfl⟩⟩;refine ⟨_,rfl,?_⟩))
  go_ret;exact ⟨by first | rfl | (simp;done) | (simp [*];done),by repeat (first | exact Drawn0.refl _ | apply Drawn0.step)⟩
mutual
def insn_immOf.j0:Nat→List Int→Int→Bool→Option (Int)
 | 0,_,_,_=>none
 | k+1,x1,x5,x22=>if x22=true then (insn_immOf.j1 k x1 (-1)) else (insn_immOf.j1 k x1 x5)
def insn_immOf.j1:Nat→List Int→Int→Option (Int)
 | 0,_,_=>none
 | k+1,x1,x5=>insn_immOf.l0 k x1 x5 (wrap64 ((x1.length:Int) - 1))
def insn_immOf.l0:Nat→List Int→Int→Int→Option (Int)
 | 0,_,_,_=>none
 | k+1,x1,x5,x6=>if x6≥0 then (if 0≤x6 then (if x6 < (x1.length:Int) then (insn_immOf.l0 k x1 (Go.bits .or .i64 (wrap64 (x5 * 128)) (wrap64 (rd x1 x6))) (wrap64 (x6 - 1))) else (none)) else (none)) else (some x5)
end
def insn_immOf.f (k:Nat) (a0:Int) (l1:List Int):Option (Int):=if a0=8 then (insn_immOf.j0 k l1 0 false) else (if (l1.length:Int) > 0 then (if 0≤(wrap64 ((l1.length:Int) - 1)) then (if (wrap64 ((l1.length:Int) - 1)) < (l1.length:Int) then (insn_immOf.j0 k l1 0 (decide ((rd l1 (wrap64 ((l1.length:Int) - 1)))≥64))) else (none)) else (none)) else (insn_immOf.j0 k l1 0 false))
theorem insn_immOf.mono_l:∀ k,(∀ y0 y1 y2,LeO (insn_immOf.j0 k y0 y1 y2) (insn_immOf.j0 (k+1) y0 y1 y2))∧(∀ y0 y1,LeO (insn_immOf.j1 k y0 y1) (insn_immOf.j1 (k+1) y0 y1))∧(∀ y0 y1 y2,LeO (insn_immOf.l0 k y0 y1 y2) (insn_immOf.l0 (k+1) y0 y1 y2))
 | 0=>⟨fun _ _ _ r h=>by simp [insn_immOf.j0] at h,fun _ _ r h=>by simp [insn_immOf.j1] at h,fun _ _ _ r h=>by simp [insn_immOf.l0] at h⟩
 | k+1=>by
  obtain ⟨ih0,ih1,ih2⟩:=insn_immOf.mono_l k;refine ⟨?_,?_,?_⟩
  ·intro y0 y1 y2;unfold insn_immOf.j0;repeat' first
   | (with_reducible exact ih0 _ _ _)
   | (with_reducible exact ih1 _ _)
   | (with_reducible exact ih2 _ _ _)
   | (with_reducible exact LeO.refl _)
   | (with_reducible exact LeO.none _)
   | (with_reducible refine LeO.ite ?_ ?_)
   | (with_reducible refine LeO.bind ?_ (fun _=>?_))
   | exact LeO.none _
   | refine LeO.ite ?_ ?_
   | refine LeO.bind ?_ (fun _=>?_)
  ·intro y0 y1;unfold insn_immOf.j1;repeat' first
   | (with_reducible exact ih0 _ _ _)
   | (with_reducible exact ih1 _ _)
   | (with_reducible exact ih2 _ _ _)
   | (with_reducible exact LeO.refl _)
   | (with_reducible exact LeO.none _)
   | (with_reducible refine LeO.ite ?_ ?_)
   | (with_reducible refine LeO.bind ?_ (fun _=>?_))
   | exact LeO.none _
   | refine LeO.ite ?_ ?_
   | refine LeO.bind ?_ (fun _=>?_)
  ·intro y0 y1 y2;unfold insn_immOf.l0;repeat' first
   | (with_reducible exact ih0 _ _ _)
   | (with_reducible exact ih1 _ _)
   | (with_reducible exact ih2 _ _ _)
   | (with_reducible exact LeO.refl _)
   | (with_reducible exact LeO.none _)
   | (with_reducible refine LeO.ite ?_ ?_)
   | (with_reducible refine LeO.bind ?_ (fun _=>?_))
   | exact LeO.none _
   | refine LeO.ite ?_ ?_
   | refine LeO.bind ?_ (fun _=>?_)
theorem insn_immOf.mono:∀ a0 a1 k,LeO (insn_immOf.f k a0 a1) (insn_immOf.f (k+1) a0 a1):=by
 intro a0 a1 k;obtain ⟨ih0,ih1,ih2⟩:=insn_immOf.mono_l k;unfold insn_immOf.f;repeat' first
   | (with_reducible exact ih0 _ _ _)
   | (with_reducible exact ih1 _ _)
   | (with_reducible exact ih2 _ _ _)
   | (with_reducible exact LeO.refl _)
   | (with_reducible exact LeO.none _)
   | (with_reducible refine LeO.ite ?_ ?_)
   | (with_reducible refine LeO.bind ?_ (fun _=>?_))
   | exact LeO.none _
   | refine LeO.ite ?_ ?_
   | refine LeO.bind ?_ (fun _=>?_)
theorem insn_immOf.calls (k:Nat) (a0:Int) (A1:Option Addr) (c1:Nat) (l1:List Int) (r:Int) (w:World) (hr1:Kd.C (Kd.int .u8) w A1 l1.length l1) (hc1:l1.length≤c1) (h:insn_immOf.f k a0 l1=some r) :
  Calls Tryz.prog 59 #[.int .i64 a0,.slice A1 l1.length c1] w fun e w'=>e=.returned (.int .i64 r)∧Drawn0 w w':=by
 have HR1:=Aside0.mk hr1;have HC1:=Aside0.mk hc1;clear hr1 hc1;unfold insn_immOf.f at h;have H:=h;clear h;have HC3:=Aside0.mk H;clear H;go_enter Tryz.func59,Tryz.ntmps59
 go_upto_region 2 with (fail)
 go_cut [22] (fun v22 wc=>∃ (kq:Nat) (x22_2:Bool),v22=.bool x22_2∧Aside0 (insn_immOf.j0 kq l1 0 x22_2=some r)∧Aside0 (kq≤k)∧Drawn0 w wc)
 case first =>
  have H:=HC3.out;clear HC3;by_cases c4:a0=8
  ·rw [if_pos c4] at H;obtain ⟨c4b0,c4b1⟩:=bqt c4;clear c4;(first | rw [c4b0] | (simp only [i64_w,i32_w];rw [c4b0]) | skip);have H':=Aside0.mk H;clear H;go_wp2;go_meet
   case rel=>exact ⟨_,(false),rsd,H',⟨by first | omega | exact Nat.le_refl _⟩,by repeat (first | exact Drawn0.refl _ | apply Drawn0.step)⟩
  ·rw [if_neg c4] at H;obtain ⟨c4b0,c4b1⟩:=bqf c4;(first | rw [c4b0] | (simp only [i64_w,i32_w];rw [c4b0]) | skip);by_cases c5:(l1.length:Int) > 0
   ·rw [if_pos c5] at H;have c5b0:decide (0 < (l1.length:Int))=true:=decide_eq_true c5;have c5b1:decide (0 < l1.length)=true:=decide_eq_true (by omega);clear c5;obtain ⟨ji6,hji6⟩:∃ j_:Int,(wrap64 ((l1.length:Int) - 1))=j_:=⟨_,rfl⟩;replace H:(if 0≤(ji6) then (if (ji6) < (l1.length:Int) then (insn_immOf.j0 k l1 0 (decide ((rd l1 (ji6))≥64))) else (none)) else (none))=some r:=by first | (rw [hji6] at H;exact H) | (simp only [hji6] at H ⊢;exact H)
    have hji6w:(IntKind.i64.wrap ((l1.length:Int) - 1))=ji6:=(i64_w _).trans hji6;by_cases c7:0≤(ji6)
    ·rw [if_pos c7] at H;have c7b0:=decide_eq_true c7;clear c7;by_cases c8:(ji6) < (l1.length:Int)
     ·rw [if_pos c8] at H;have c8b0:=decide_eq_true c8;clear c8;have H':=Aside0.mk H;clear H;have p138:0≤((ji6):Int):=of_decide_eq_true asm;have q138:(ji6) < (l1.length:Int):=of_decide_eq_true asm;obtain ⟨ad138,e138,hx138_0⟩:=Kd.at_int HR1.out (ji6) p138 q138;cases e138;replace p138:=eq_true p138;replace q138:=eq_true q138;go_wp2;go_meet
      case rel=>exact ⟨_,(decide ((rd l1 (ji6))≥64)),(by first | rfl | (simp;done) | (simp only [← hji6] <;> (first | rfl | simp)) | (simp [*];done)),H',⟨by first | omega | exact Nat.le_refl _⟩,by repeat (first | exact Drawn0.refl _ | apply Drawn0.step)⟩
     ·rw [if_neg c8] at H;exact absurd H (by simp)
    ·rw [if_neg c7] at H;exact absurd H (by simp)
   ·rw [if_neg c5] at H;have c5b0:decide (0 < (l1.length:Int))=false:=decide_eq_false c5;have c5b1:decide (0 < l1.length)=false:=decide_eq_false (by omega);clear c5;have H':=Aside0.mk H;clear H;go_wp2;go_meet
    case rel=>exact ⟨_,(false),rsd,H',⟨by first | omega | exact Nat.le_refl _⟩,by repeat (first | exact Drawn0.refl _ | apply Drawn0.step)⟩
 case rest =>
  clear HC3;obtain ⟨kq,x22_2,rfl,HA,HJ2,⟨mc2,rfl⟩⟩:=hcut;cases kq with
  | zero=>exact absurd HA.out (by simp [insn_immOf.j0])
  | succ kj2 =>
   have H:=HA.out;clear HA;simp only [insn_immOf.j0] at H;have HC9:=Aside0.mk H;clear H;go_upto_if 22 with (fail)
   go_cut [5] (fun v5 wc=>∃ (kq:Nat) (x5_8:Int),v5=.int .i64 x5_8∧Aside0 (insn_immOf.j1 kq l1 x5_8=some r)∧Aside0 (kq≤kj2)∧Drawn0 w wc)
   case first =>
    have H:=HC9.out;clear HC9;by_cases c10:x22_2=true
    ·subst c10;rw [if_pos rfl] at H;have H':=Aside0.mk H;clear H;go_wp2;go_meet
     case rel=>exact ⟨_,((-1)),rsd,H',⟨by have:=HJ2.out;first | omega | exact Nat.le_refl _⟩,by repeat (first | exact Drawn0.refl _ | apply Drawn0.step)⟩
    ·replace c10:=Bool.eq_false_iff.mpr c10;subst c10;rw [if_neg (show ¬ (false=true) by decide)] at H;have H':=Aside0.mk H;clear H;go_wp2;go_meet
     case rel=>exact ⟨_,(0),rsd,H',⟨by have:=HJ2.out;first | omega | exact Nat.le_refl _⟩,by repeat (first | exact Drawn0.refl _ | apply Drawn0.step)⟩
   case rest =>
    clear HC9;obtain ⟨kq,x5_8,rfl,HA,HJ8,⟨mc8,rfl⟩⟩:=hcut;cases kq with
    | zero=>exact absurd HA.out (by simp [insn_immOf.j1])
    | succ kj8 =>
     have H:=HA.out;clear HA;simp only [insn_immOf.j1] at H;have H':=Aside0.mk H;clear H;go_wp2;try simp only [Act.put,List.setIfInBounds_toArray,List.set_cons_zero,List.set_cons_succ]
     go_loopg [5,6] kj8 (fun kq v5 v6 w'=>∃ (x5_3:Int) (x6_3:Int),v5=.int .i64 x5_3∧v6=.int .i64 x6_3∧Aside0 (insn_immOf.l0 kq l1 x5_3 x6_3=some r)∧Aside0 (kq≤kj8)∧Drawn0 w w')
     case atStart=>exact ⟨(x5_8),(wrap64 ((l1.length:Int) - 1)),rsd,rsd,H',⟨Nat.le_refl _⟩,by repeat (first | exact Drawn0.refl _ | apply Drawn0.step)⟩
     case round =>
      clear H';obtain ⟨x5_3,x6_3,rfl,rfl,HA,HK3,⟨m3,rfl⟩⟩:=hrel;cases gk with
      | zero=>exact absurd HA.out (by simp [insn_immOf.l0])
      | succ k3 =>
       have H:=HA.out;clear HA;simp only [insn_immOf.l0] at H;by_cases c11:x6_3≥0
       ·rw [if_pos c11] at H;have c11b0:decide (0≤x6_3)=true:=decide_eq_true c11;clear c11;by_cases c12:0≤x6_3
        ·rw [if_pos c12] at H;have c12b0:=decide_eq_true c12;clear c12;by_cases c13:x6_3 < (l1.length:Int)
         ·rw [if_pos c13] at H;have c13b0:=decide_eq_true c13;clear c13;have H':=Aside0.mk H;clear H;have p139:0≤(x6_3:Int):=of_decide_eq_true asm;have q139:x6_3 < (l1.length:Int):=of_decide_eq_true asm;obtain ⟨ad139,e139,hx139_0⟩:=Kd.at_int HR1.out x6_3 p139 q139;cases e139;replace p139:=eq_true p139;replace q139:=eq_true q139;go_wp2;go_roundg k3
          case measure=>have:=HJ2.out;have:=HJ8.out;have:=HK3.out;omega
          case rel=>exact ⟨(Go.bits .or .i64 (wrap64 (x5_3 * 128)) (wrap64 (rd l1 x6_3))),(wrap64 (x6_3 - 1)),rsd,rsd,H',⟨by have:=HJ2.out;have:=HJ8.out;have:=HK3.out;omega⟩,by repeat (first | exact Drawn0.refl _ | apply Drawn0.step)⟩
         ·rw [if_neg c13] at H;exact absurd H (by simp)
        ·rw [if_neg c12] at H;exact absurd H (by simp)
       ·rw [if_neg c11] at H;have c11b0:decide (0≤x6_3)=false:=decide_eq_false c11;clear c11;obtain rfl:=Option.some.inj H;go_wp2;go_ret;exact ⟨by first | rfl | (simp;done) | (simp [*];done),by repeat (first | exact Drawn0.refl _ | apply Drawn0.step)⟩
end Go.Proofs.YtffojmgmpfjlhaaGreatDoor.Q
