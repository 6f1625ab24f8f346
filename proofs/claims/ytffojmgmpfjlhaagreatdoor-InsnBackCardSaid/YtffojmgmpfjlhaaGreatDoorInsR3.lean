/- Parts of the proof: see the last text -/
import Derived.Test.YtffojmgmpfjlhaaGreatDoorInsQ1
import Derived.Test.YtffojmgmpfjlhaaGreatDoorInsQ2
import Derived.Test.YtffojmgmpfjlhaaGreatDoorInsQ3
import Derived.Test.YtffojmgmpfjlhaaGreatDoorInsR1
import Derived.Test.YtffojmgmpfjlhaaGreatDoorInsR2
set_option linter.unusedVariables false
set_option linter.unusedSimpArgs false
namespace Go.Proofs.YtffojmgmpfjlhaaGreatDoor.Q
open Go.Proofs.YtffojmgmpfjlhaaGreatDoor Go.RowKit Go.Proofs.YtffojmgmpfjlhaaGreatDoorW.PrintWords Go.Proofs.YtffojmgmpfjlhaaGreatDoorW.PrintLast Go.Proofs.YtffojmgmpfjlhaaGreatDoorW.PrintMore
attribute [local go_sem] max2_int min2_int max_two min_two max_three min_three max_four min_four
mutual
def rzDecode.j0:Nat→List Int→Bool→Option (Int × Int × Int × Int × Int × Int)
 | 0,_,_=>none
 | k+1,x0,x27=>if x27=true then (some (0,0,0,0,0,20)) else (if 0 < (x0.length:Int) then ((rzForm.f k (wrap64 ((wrap64 (rd x0 0)) - 128))).bind fun t355=>((rzOperands.f k t355).bind fun bt356=>(if bt356.1=true then (if (x0.length:Int) < 2 then (some (0,0,0,0,0,21)) else (if 1 < (x0.length:Int) then (if (rd x0 1) > 63 then (rzDecode.j1 k x0 t355 bt356.2.1 bt356.2.2 true (wrap64 ((wrap64 (rd x0 0)) - 128)) 0 0 0) else (if bt356.2.1=true then (rzDecode.j1 k x0 t355 bt356.2.1 bt356.2.2 false (wrap64 ((wrap64 (rd x0 0)) - 128)) 0 0 0) else (rzDecode.j1 k x0 t355 bt356.2.1 bt356.2.2 (decide ((rd x0 1) > 7)) (wrap64 ((wrap64 (rd x0 0)) - 128)) 0 0 0))) else (none))) else (rzDecode.j2 k x0 t355 bt356.2.2 1 (wrap64 ((wrap64 (rd x0 0)) - 128)) 0 0 0)))) else (none))
def rzDecode.j2:Nat→List Int→Int→Int→Int→Int→Int→Int→Int→Option (Int × Int × Int × Int × Int × Int)
 | 0,_,_,_,_,_,_,_,_=>none
 | k+1,x0,x4,x7,x8,x355000,x355001,x355002,x355003=>rzDecode.l0 k x0 x4 x7 x8 0 x355000 x355001 x355002 x355003
def rzDecode.l0:Nat→List Int→Int→Int→Int→Int→Int→Int→Int→Int→Option (Int × Int × Int × Int × Int × Int)
 | 0,_,_,_,_,_,_,_,_,_=>none
 | k+1,x0,x4,x7,x8,x9,x355000,x355001,x355002,x355003=>if x9 < x7 then (if (wrap64 (x8+x9))≥(x0.length:Int) then (some (0,0,0,0,0,21)) else (if x9=9 then (if 0≤(wrap64 (x8+x9)) then (if (wrap64 (x8+x9)) < (x0.length:Int) then (if (rd x0 (wrap64 (x8+x9)))=0 then (if (rd x0 (wrap64 (x8+x9))) > 127 then (some (0,0,0,0,0,20)) else (rzDecode.l0 k x0 x4 x7 x8 (wrap64 (x9+1)) x355000 x355001 x355002 x355003)) else (if (rd x0 (wrap64 (x8+x9))) > 127 then (some (0,0,0,0,0,20)) else (if (rd x0 (wrap64 (x8+x9)))=127 then (rzDecode.l0 k x0 x4 x7 x8 (wrap64 (x9+1)) x355000 x355001 x355002 x355003) else (some (0,0,0,0,0,20))))) else (none)) else (none)) else (if 0≤(wrap64 (x8+x9)) then (if (wrap64 (x8+x9)) < (x0.length:Int) then (if (rd x0 (wrap64 (x8+x9))) > 127 then (some (0,0,0,0,0,20)) else (rzDecode.l0 k x0 x4 x7 x8 (wrap64 (x9+1)) x355000 x355001 x355002 x355003)) else (none)) else (none)))) else (if x7 > 0 then (if 0≤x8 then (if x8≤(wrap64 (x8+x7)) then (if (wrap64 (x8+x7))≤(x0.length:Int) then ((rznumber.f k ((x0.take ((wrap64 (x8+x7)):Int).toNat).drop (x8:Int).toNat)).bind fun t370=>(if x4=10 then (if x8 < (x0.length:Int) then (some (x355000,x355001,x355002,wrap64 (rd x0 x8),wrap64 (x8+x7),0)) else (none)) else (some (x355000,x355001,x355002,t370,wrap64 (x8+x7),0)))) else (none)) else (none)) else (none)) else (if x4=10 then (if 0≤x8 then (if x8 < (x0.length:Int) then (some (x355000,x355001,x355002,wrap64 (rd x0 x8),wrap64 (x8+x7),0)) else (none)) else (none)) else (some (x355000,x355001,x355002,x355003,wrap64 (x8+x7),0))))
def rzDecode.j1:Nat→List Int→Int→Bool→Int→Bool→Int→Int→Int→Int→Option (Int × Int × Int × Int × Int × Int)
 | 0,_,_,_,_,_,_,_,_,_=>none
 | k+1,x0,x4,x6,x7,x62,x355000,x355001,x355002,x355003=>if x62=true then (some (0,0,0,0,0,20)) else (if 1 < (x0.length:Int) then (if x6=true then (rzDecode.j2 k x0 x4 x7 2 x355000 (wrap64 (Int.tdiv (wrap64 (rd x0 1)) 8)) (Int.tmod (wrap64 (rd x0 1)) 8) x355003) else (rzDecode.j2 k x0 x4 x7 2 x355000 (wrap64 (rd x0 1)) x355002 x355003)) else (none))
end
def rzDecode.f (k:Nat) (l0:List Int):Option (Int × Int × Int × Int × Int × Int):=if (l0.length:Int)=0 then (some (0,0,0,0,0,21)) else (if 0 < (l0.length:Int) then (if (rd l0 0) < 128 then (rzDecode.j0 k l0 true) else ((rzForm.f k (wrap64 ((wrap64 (rd l0 0)) - 128))).bind fun t352=>(rzDecode.j0 k l0 (t352 == 0)))) else (none))
theorem rzDecode.mono_l:∀ k,(∀ y0 y1,LeO (rzDecode.j0 k y0 y1) (rzDecode.j0 (k+1) y0 y1))∧(∀ y0 y1 y2 y3 y4 y5 y6 y7,LeO (rzDecode.j2 k y0 y1 y2 y3 y4 y5 y6 y7) (rzDecode.j2 (k+1) y0 y1 y2 y3 y4 y5 y6 y7))∧(∀ y0 y1 y2 y3 y4 y5 y6 y7 y8,LeO (rzDecode.l0 k y0 y1 y2 y3 y4 y5 y6 y7 y8) (rzDecode.l0 (k+1) y0 y1 y2 y3 y4 y5 y6 y7 y8))∧(∀ y0 y1 y2 y3 y4 y5 y6 y7 y8,LeO (rzDecode.j1 k y0 y1 y2 y3 y4 y5 y6 y7 y8) (rzDecode.j1 (k+1) y0 y1 y2 y3 y4 y5 y6 y7 y8))
 | 0=>⟨fun _ _ r h=>by simp [rzDecode.j0] at h,fun _ _ _ _ _ _ _ _ r h=>by simp [rzDecode.j2] at h,fun _ _ _ _ _ _ _ _ _ r h=>by simp [rzDecode.l0] at h,fun _ _ _ _ _ _ _ _ _ r h=>by simp [rzDecode.j1] at h⟩
 | k+1=>by
  obtain ⟨ih0,ih1,ih2,ih3⟩:=rzDecode.mono_l k;refine ⟨?_,?_,?_,?_⟩
  ·intro y0 y1;unfold rzDecode.j0;repeat' first
   | (with_reducible exact ih0 _ _)
   | (with_reducible exact ih1 _ _ _ _ _ _ _ _)
   | (with_reducible exact ih2 _ _ _ _ _ _ _ _ _)
   | (with_reducible exact ih3 _ _ _ _ _ _ _ _ _)
   | (with_reducible exact rzForm.mono _ _)
   | (with_reducible exact rzOperands.mono _ _)
   | (with_reducible exact rznumber.mono _ _)
   | (with_reducible exact LeO.refl _)
   | (with_reducible exact LeO.none _)
   | (with_reducible refine LeO.ite ?_ ?_)
   | (with_reducible refine LeO.bind ?_ (fun _=>?_))
   | exact LeO.none _
   | refine LeO.ite ?_ ?_
   | refine LeO.bind ?_ (fun _=>?_)
  ·intro y0 y1 y2 y3 y4 y5 y6 y7;unfold rzDecode.j2;repeat' first
   | (with_reducible exact ih0 _ _)
   | (with_reducible exact ih1 _ _ _ _ _ _ _ _)
   | (with_reducible exact ih2 _ _ _ _ _ _ _ _ _)
   | (with_reducible exact ih3 _ _ _ _ _ _ _ _ _)
   | (with_reducible exact rzForm.mono _ _)
   | (with_reducible exact rzOperands.mono _ _)
   | (with_reducible exact rznumber.mono _ _)
   | (with_reducible exact LeO.refl _)
   | (with_reducible exact LeO.none _)
   | (with_reducible refine LeO.ite ?_ ?_)
   | (with_reducible refine LeO.bind ?_ (fun _=>?_))
   | exact LeO.none _
   | refine LeO.ite ?_ ?_
   | refine LeO.bind ?_ (fun _=>?_)
  ·intro y0 y1 y2 y3 y4 y5 y6 y7 y8;unfold rzDecode.l0;repeat' first
   | (with_reducible exact ih0 _ _)
   | (with_reducible exact ih1 _ _ _ _ _ _ _ _)
   | (with_reducible exact ih2 _ _ _ _ _ _ _ _ _)
   | (with_reducible exact ih3 _ _ _ _ _ _ _ _ _)
   | (with_reducible exact rzForm.mono _ _)
   | (with_reducible exact rzOperands.mono _ _)
   | (with_reducible exact rznumber.mono _ _)
   | (with_reducible exact LeO.refl _)
   | (with_reducible exact LeO.none _)
   | (with_reducible refine LeO.ite ?_ ?_)
   | (with_reducible refine LeO.bind ?_ (fun _=>?_))
   | exact LeO.none _
   | refine LeO.ite ?_ ?_
   | refine LeO.bind ?_ (fun _=>?_)
  ·intro y0 y1 y2 y3 y4 y5 y6 y7 y8;unfold rzDecode.j1;repeat' first
   | (with_reducible exact ih0 _ _)
   | (with_reducible exact ih1 _ _ _ _ _ _ _ _)
   | (with_reducible exact ih2 _ _ _ _ _ _ _ _ _)
   | (with_reducible exact ih3 _ _ _ _ _ _ _ _ _)
   | (with_reducible exact rzForm.mono _ _)
   | (with_reducible exact rzOperands.mono _ _)
   | (with_reducible exact rznumber.mono _ _)
   | (with_reducible exact LeO.refl _)
   | (with_reducible exact LeO.none _)
   | (with_reducible refine LeO.ite ?_ ?_)
   | (with_reducible refine LeO.bind ?_ (fun _=>?_))
   | exact LeO.none _
   | refine LeO.ite ?_ ?_
   | refine LeO.bind ?_ (fun _=>?_)
theorem rzDecode.mono:∀ a0 k,LeO (rzDecode.f k a0) (rzDecode.f (k+1) a0):=by
 intro a0 k;obtain ⟨ih0,ih1,ih2,ih3⟩:=rzDecode.mono_l k;unfold rzDecode.f;repeat' first
   | (with_reducible exact ih0 _ _)
   | (with_reducible exact ih1 _ _ _ _ _ _ _ _)
   | (with_reducible exact ih2 _ _ _ _ _ _ _ _ _)
   | (with_reducible exact ih3 _ _ _ _ _ _ _ _ _)
   | (with_reducible exact rzForm.mono _ _)
   | (with_reducible exact rzOperands.mono _ _)
   | (with_reducible exact rznumber.mono _ _)
   | (with_reducible exact LeO.refl _)
   | (with_reducible exact LeO.none _)
   | (with_reducible refine LeO.ite ?_ ?_)
   | (with_reducible refine LeO.bind ?_ (fun _=>?_))
   | exact LeO.none _
   | refine LeO.ite ?_ ?_
   | refine LeO.bind ?_ (fun _=>?_)
set_option maxHeartbeats 8000000 in
set_option maxRecDepth 100000 in
theorem rzDecode.calls (k:Nat) (A0:Option Addr) (c0:Nat) (l0:List Int) (r1:Int) (r2:Int) (r3:Int) (r4:Int) (r5:Int) (r6:Int) (w:World) (hr0:Kd.C (Kd.int .u8) w A0 l0.length l0) (hc0:l0.length≤c0) (h:rzDecode.f k l0=some (r1,r2,r3,r4,r5,r6)) :
  Calls Tryz.prog 23 #[.slice A0 l0.length c0] w fun e w'=>e=.returned (.agg #[.int .i64 r1,.int .i64 r2,.int .i64 r3,.int .i64 r4,.int .i64 r5,.int .i64 r6])∧Below w.heap.size w w':=by
 have hu35:=Tryz.underlying35;have hu23:=Tryz.underlying23;have HR0:=Aside0.mk hr0;have HC0:=Aside0.mk hc0;clear hr0 hc0;have HB:=Aside0.mk (Below.refl w.heap.size w);have H:(if (l0.length:Int)=0 then (some (0,0,0,0,0,21)) else (if 0 < (l0.length:Int) then (if (rd l0 0) < 128 then (rzDecode.j0 k l0 true) else ((rzForm.f k (wrap64 ((wrap64 (rd l0 0)) - 128))).bind fun t352=>(rzDecode.j0 k l0 (t352 == 0)))) else (none)))=some (r1,r2,r3,r4,r5,r6):=h;clear h;by_cases c2:(l0.length:Int)=0
 ·rw [if_pos c2] at H;have c2b0:((l0.length:Int) == 0)=true:=beq_iff_eq.mpr c2;have c2b1:((l0.length:Int) != 0)=false:=bne_eq_false_iff_eq.mpr c2;clear c2;simp only [Option.some.injEq,Prod.mk.injEq] at H;obtain ⟨rfl,rfl,rfl,rfl,rfl,rfl⟩:=H;go_enter Tryz.func23,Tryz.ntmps23
  go_wp2_with (first | ((with_reducible refine gate_dst (N:=2) rfl ?_);refine box_event ?hg (N:=2) ?hd (cs:=#[.int .i64 0,.int .i64 0,.int .i64 0,.int .i64 0,.int .i64 0,.int .i64 0]) (t:=35) ?hr ?_;(case hd=>rfl);(case hg=>rfl);(case hr=>first | (go_simp;done) | (go_simp;rfl));intro gb349 hg w3 hbox hb;have n0_:=Aside0.mk (below_step blw hb);have n1_:=Aside0.mk (hbox);have n2_:=Aside0.mk ((by rw [hg];exact (below_size blw):w.heap.size≤gb349));have n3_:=Aside0.mk ((by rw [hg];exact (below_size blw):w.heap.size≤gb349));clear HB;have HB:=n0_;have BK349:=n1_;have GW349:=n2_;have GE349:=n3_;clear n0_ n1_ n2_ n3_;clear hb hbox hg;have hcz4_0:w3.cell? ⟨gb349,0,none⟩=some (.int .i64 0):=(blk_cell BK349.out 0).trans rfl;have hcz4_1:w3.cell? ⟨gb349,1,none⟩=some (.int .i64 0):=(blk_cell BK349.out 1).trans rfl;have hcz4_2:w3.cell? ⟨gb349,2,none⟩=some (.int .i64 0):=(blk_cell BK349.out 2).trans rfl;have hcz4_3:w3.cell? ⟨gb349,3,none⟩=some (.int .i64 0):=(blk_cell BK349.out 3).trans rfl;have hcz4_4:w3.cell? ⟨gb349,4,none⟩=some (.int .i64 0):=(blk_cell BK349.out 4).trans rfl;have hcz4_5:w3.cell? ⟨gb349,5,none⟩=some (.int .i64 0):=(blk_cell BK349.out 5).trans rfl;have hfz4_0:=blk_frozen BK349.out 0;have hfz4_1:=blk_frozen BK349.out 1;have hfz4_2:=blk_frozen BK349.out 2;have hfz4_3:=blk_frozen BK349.out 3;have hfz4_4:=blk_frozen BK349.out 4;have hfz4_5:=blk_frozen BK349.out 5))
  refine bodyPost_ret (results_cell_row rfl _ _ gb349 35 #[.int .i64 0,.int .i64 0,.int .i64 0,.int .i64 0,.int .i64 0,.int .i64 21] (0,0) _ rfl (by (with_reducible repeat (first | refine blk_drewN ?_ _ | refine blk_drew ?_ | refine blk_alloc ?_ _));refine blk_put (cs:=#[.int .i64 0,.int .i64 0,.int .i64 0,.int .i64 0,.int .i64 0,.int .i64 0]) ?_ 5 _ rfl;(with_reducible repeat (first | refine blk_drewN ?_ _ | refine blk_drew ?_ | refine blk_alloc ?_ _));refine blk_put (cs:=#[.int .i64 0,.int .i64 0,.int .i64 0,.int .i64 0,.int .i64 0,.int .i64 0]) ?_ 4 _ rfl;(with_reducible repeat (first | refine blk_drewN ?_ _ | refine blk_drew ?_ | refine blk_alloc ?_ _));refine blk_put (cs:=#[.int .i64 0,.int .i64 0,.int .i64 0,.int .i64 0,.int .i64 0,.int .i64 0]) ?_ 3 _ rfl;(with_reducible repeat (first | refine blk_drewN ?_ _ | refine blk_drew ?_ | refine blk_alloc ?_ _));refine blk_put (cs:=#[.int .i64 0,.int .i64 0,.int .i64 0,.int .i64 0,.int .i64 0,.int .i64 0]) ?_ 2 _ rfl;(with_reducible repeat (first | refine blk_drewN ?_ _ | refine blk_drew ?_ | refine blk_alloc ?_ _));refine blk_put (cs:=#[.int .i64 0,.int .i64 0,.int .i64 0,.int .i64 0,.int .i64 0,.int .i64 0]) ?_ 1 _ rfl;(with_reducible repeat (first | refine blk_drewN ?_ _ | refine blk_drew ?_ | refine blk_alloc ?_ _));refine blk_put (cs:=#[.int .i64 0,.int .i64 0,.int .i64 0,.int .i64 0,.int .i64 0,.int .i64 0]) ?_ 0 _ rfl;(with_reducible repeat (first | refine blk_drewN ?_ _ | refine blk_drew ?_ | refine blk_alloc ?_ _));exact BK349.out) Tryz.underlying35 rfl (by kernel_rfl)) rfl ?_;exact ⟨rew,blw⟩
 ·rw [if_neg c2] at H;have c2b0:((l0.length:Int) == 0)=false:=beq_eq_false_iff_ne.mpr c2;have c2b1:((l0.length:Int) != 0)=true:=bne_iff_ne.mpr c2;have c2b2:¬ (l0=[]):=fun h_=>c2 (by rw [h_];rfl)
  have HC5:=Aside0.mk H;clear H;go_enter Tryz.func23,Tryz.ntmps23
  go_upto_region 3 with (first | ((with_reducible refine gate_dst (N:=2) rfl ?_);refine box_event ?hg (N:=2) ?hd (cs:=#[.int .i64 0,.int .i64 0,.int .i64 0,.int .i64 0,.int .i64 0,.int .i64 0]) (t:=35) ?hr ?_;(case hd=>rfl);(case hg=>rfl);(case hr=>first | (go_simp;done) | (go_simp;rfl));intro gb349 hg w6 hbox hb;have n0_:=Aside0.mk (below_step blw hb);have n1_:=Aside0.mk (hbox);have n2_:=Aside0.mk ((by rw [hg];exact (below_size blw):w.heap.size≤gb349));have n3_:=Aside0.mk ((by rw [hg];exact (below_size blw):w.heap.size≤gb349));clear HB;have HB:=n0_;have BK349:=n1_;have GW349:=n2_;have GE349:=n3_;clear n0_ n1_ n2_ n3_;clear hb hbox hg))
  (try simp only [Act.put,List.setIfInBounds_toArray,List.set_cons_zero,List.set_cons_succ]);go_cut [27] (fun v27 wc=>∃ (kq:Nat) (x27_4:Bool),v27=.bool x27_4∧Aside0 (rzDecode.j0 kq l0 x27_4=some (r1,r2,r3,r4,r5,r6))∧Aside0 (kq≤k)∧Aside0 (wc.heap[gb349]?=some (.cells #[.int .i64 0,.int .i64 0,.int .i64 0,.int .i64 0,.int .i64 0,.int .i64 0] 35 (0,0)))∧Aside0 (Below w.heap.size w wc))
  case first =>
   have H:=HC5.out;clear HC5;by_cases c7:0 < (l0.length:Int)
   ·rw [if_pos c7] at H;have c7b0:decide (0 < (l0.length:Int))=true:=decide_eq_true c7;have c7b1:decide (0 < l0.length)=true:=decide_eq_true (by omega);clear c7;(first | rw [c7b0] | (simp only [i64_w,i32_w];rw [c7b0]) | skip);by_cases c8:(rd l0 0) < 128
    ·rw [if_pos c8] at H;have c8b0:decide ((rd l0 0) < 128)=true:=decide_eq_true c8;clear c8;have H':=Aside0.mk H;clear H;have p350:0≤(0:Int):=(by omega);have q350:0 < (l0.length:Int):=of_decide_eq_true asm;obtain ⟨ad350,e350,hx350_0⟩:=Kd.at_int HR0.out 0 p350 q350;cases e350;have qi350:(0 < l0.length)=True:=eq_true (by omega);(try rw [show ((0:Int)).toNat=0 from rfl] at hx350_0);(try rw [Addr.add_zero'] at hx350_0);replace hx350_0:=(HB.out.cell (World.block_lt_of_cell? w _ hx350_0)).trans hx350_0;replace p350:=eq_true p350;replace q350:=eq_true q350;go_wp2;go_meet
     case rel=>exact ⟨_,(true),rsd,H',⟨by first | omega | exact Nat.le_refl _⟩,⟨bko⟩,⟨blw⟩⟩
    ·rw [if_neg c8] at H;have c8b0:decide ((rd l0 0) < 128)=false:=decide_eq_false c8;clear c8;replace H:=Option.bind_eq_some_iff.mp H;obtain ⟨t352,A90,H⟩:=H;replace H:(rzDecode.j0 k l0 (t352 == 0))=some (r1,r2,r3,r4,r5,r6):=H;have A9:=Aside0.mk A90;clear A90;have H':=Aside0.mk H;clear H;have p350:0≤(0:Int):=(by omega);have q350:0 < (l0.length:Int):=of_decide_eq_true asm;obtain ⟨ad350,e350,hx350_0⟩:=Kd.at_int HR0.out 0 p350 q350;cases e350;have qi350:(0 < l0.length)=True:=eq_true (by omega);(try rw [show ((0:Int)).toNat=0 from rfl] at hx350_0);(try rw [Addr.add_zero'] at hx350_0);replace hx350_0:=(HB.out.cell (World.block_lt_of_cell? w _ hx350_0)).trans hx350_0;replace p350:=eq_true p350;replace q350:=eq_true q350;have p351:0≤(0:Int):=(by omega);have q351:0 < (l0.length:Int):=of_decide_eq_true asm;obtain ⟨ad351,e351,hx351_0⟩:=Kd.at_int HR0.out 0 p351 q351;obtain rfl:ad350=ad351:=(by injection e351);have qi351:(0 < l0.length)=True:=eq_true (by omega);(try rw [show ((0:Int)).toNat=0 from rfl] at hx351_0);(try rw [Addr.add_zero'] at hx351_0);replace hx351_0:=(HB.out.cell (World.block_lt_of_cell? w _ hx351_0)).trans hx351_0;replace p351:=eq_true p351;replace q351:=eq_true q351;go_wp2_with (first | (go_at_call 51;(with_reducible refine (rzForm.calls k (wrap64 ((wrap64 (rd l0 0)) - 128)) t352 _ A9.out).mono ?_);rintro e w' ⟨rfl,⟨nd,rfl⟩⟩))
     go_meet
     case rel=>exact ⟨_,((t352 == 0)),rsd,H',⟨by first | omega | exact Nat.le_refl _⟩,⟨bko⟩,⟨blw⟩⟩
   ·rw [if_neg c7] at H;exact absurd H (by simp)
  case rest =>
   clear HC5;try clear c2
   try clear c2b0
   try clear c2b1
   try clear c2b2
   try clear p2
   try clear p3
   try clear q3
   try clear hx3
   try clear qi3
   try clear p6
   try clear c7
   try clear c7b0
   try clear c7b1
   try clear c8
   try clear c8b0
   try clear hcz4_0
   try clear hcz4_1
   try clear hcz4_2
   try clear hcz4_3
   try clear hcz4_4
   try clear hcz4_5
   try clear hfz4_0
   try clear hfz4_1
   try clear hfz4_2
   try clear hfz4_3
   try clear hfz4_4
   try clear hfz4_5
   try clear hx350_0
   try clear hx351_0
   try clear p350
   try clear p351
   try clear q350
   try clear q351
   obtain ⟨kq,x27_4,rfl,HA,HJ4,BK349,HB⟩:=hcut;cases kq with
   | zero=>exact absurd HA.out (by simp [rzDecode.j0])
   | succ kj4 =>
    have H:=HA.out;clear HA;simp only [rzDecode.j0] at H;by_cases c10:x27_4=true
    ·subst c10;have H1:(some (0,0,0,0,0,20))=some (r1,r2,r3,r4,r5,r6):=by rw [if_pos rfl] at H;exact H
     clear H;have H:=H1;clear H1;simp only [Option.some.injEq,Prod.mk.injEq] at H;obtain ⟨rfl,rfl,rfl,rfl,rfl,rfl⟩:=H;have hcz11_0:wc.cell? ⟨gb349,0,none⟩=some (.int .i64 0):=(blk_cell BK349.out 0).trans rfl;have hcz11_1:wc.cell? ⟨gb349,1,none⟩=some (.int .i64 0):=(blk_cell BK349.out 1).trans rfl;have hcz11_2:wc.cell? ⟨gb349,2,none⟩=some (.int .i64 0):=(blk_cell BK349.out 2).trans rfl;have hcz11_3:wc.cell? ⟨gb349,3,none⟩=some (.int .i64 0):=(blk_cell BK349.out 3).trans rfl;have hcz11_4:wc.cell? ⟨gb349,4,none⟩=some (.int .i64 0):=(blk_cell BK349.out 4).trans rfl;have hcz11_5:wc.cell? ⟨gb349,5,none⟩=some (.int .i64 0):=(blk_cell BK349.out 5).trans rfl;have hfz11_0:=blk_frozen BK349.out 0;have hfz11_1:=blk_frozen BK349.out 1;have hfz11_2:=blk_frozen BK349.out 2;have hfz11_3:=blk_frozen BK349.out 3;have hfz11_4:=blk_frozen BK349.out 4;have hfz11_5:=blk_frozen BK349.out 5;go_wp2;refine bodyPost_ret (results_cell_row rfl _ _ gb349 35 #[.int .i64 0,.int .i64 0,.int .i64 0,.int .i64 0,.int .i64 0,.int .i64 20] (0,0) _ rfl (by (with_reducible repeat (first | refine blk_drewN ?_ _ | refine blk_drew ?_ | refine blk_alloc ?_ _));refine blk_put (cs:=#[.int .i64 0,.int .i64 0,.int .i64 0,.int .i64 0,.int .i64 0,.int .i64 0]) ?_ 5 _ rfl;(with_reducible repeat (first | refine blk_drewN ?_ _ | refine blk_drew ?_ | refine blk_alloc ?_ _));refine blk_put (cs:=#[.int .i64 0,.int .i64 0,.int .i64 0,.int .i64 0,.int .i64 0,.int .i64 0]) ?_ 4 _ rfl;(with_reducible repeat (first | refine blk_drewN ?_ _ | refine blk_drew ?_ | refine blk_alloc ?_ _));refine blk_put (cs:=#[.int .i64 0,.int .i64 0,.int .i64 0,.int .i64 0,.int .i64 0,.int .i64 0]) ?_ 3 _ rfl;(with_reducible repeat (first | refine blk_drewN ?_ _ | refine blk_drew ?_ | refine blk_alloc ?_ _));refine blk_put (cs:=#[.int .i64 0,.int .i64 0,.int .i64 0,.int .i64 0,.int .i64 0,.int .i64 0]) ?_ 2 _ rfl;(with_reducible repeat (first | refine blk_drewN ?_ _ | refine blk_drew ?_ | refine blk_alloc ?_ _));refine blk_put (cs:=#[.int .i64 0,.int .i64 0,.int .i64 0,.int .i64 0,.int .i64 0,.int .i64 0]) ?_ 1 _ rfl;(with_reducible repeat (first | refine blk_drewN ?_ _ | refine blk_drew ?_ | refine blk_alloc ?_ _));refine blk_put (cs:=#[.int .i64 0,.int .i64 0,.int .i64 0,.int .i64 0,.int .i64 0,.int .i64 0]) ?_ 0 _ rfl;(with_reducible repeat (first | refine blk_drewN ?_ _ | refine blk_drew ?_ | refine blk_alloc ?_ _));exact BK349.out) Tryz.underlying35 rfl (by kernel_rfl)) rfl ?_;exact ⟨rew,blw⟩
    ·replace c10:=Bool.eq_false_iff.mpr c10;subst c10;have H1:(if 0 < (l0.length:Int) then ((rzForm.f kj4 (wrap64 ((wrap64 (rd l0 0)) - 128))).bind fun t355=>((rzOperands.f kj4 t355).bind fun bt356=>(if bt356.1=true then (if (l0.length:Int) < 2 then (some (0,0,0,0,0,21)) else (if 1 < (l0.length:Int) then (if (rd l0 1) > 63 then (rzDecode.j1 kj4 l0 t355 bt356.2.1 bt356.2.2 true (wrap64 ((wrap64 (rd l0 0)) - 128)) 0 0 0) else (if bt356.2.1=true then (rzDecode.j1 kj4 l0 t355 bt356.2.1 bt356.2.2 false (wrap64 ((wrap64 (rd l0 0)) - 128)) 0 0 0) else (rzDecode.j1 kj4 l0 t355 bt356.2.1 bt356.2.2 (decide ((rd l0 1) > 7)) (wrap64 ((wrap64 (rd l0 0)) - 128)) 0 0 0))) else (none))) else (rzDecode.j2 kj4 l0 t355 bt356.2.2 1 (wrap64 ((wrap64 (rd l0 0)) - 128)) 0 0 0)))) else (none))=some (r1,r2,r3,r4,r5,r6):=by rw [if_neg (show ¬ (false=true) by decide)] at H;exact H
     clear H;have H:=H1;clear H1;by_cases c12:0 < (l0.length:Int)
     ·rw [if_pos c12] at H;have c12b0:decide (0 < (l0.length:Int))=true:=decide_eq_true c12;have c12b1:decide (0 < l0.length)=true:=decide_eq_true (by omega);clear c12;replace H:=Option.bind_eq_some_iff.mp H;obtain ⟨t355,A130,H⟩:=H;replace H:((rzOperands.f kj4 t355).bind fun bt356=>(if bt356.1=true then (if (l0.length:Int) < 2 then (some (0,0,0,0,0,21)) else (if 1 < (l0.length:Int) then (if (rd l0 1) > 63 then (rzDecode.j1 kj4 l0 t355 bt356.2.1 bt356.2.2 true (wrap64 ((wrap64 (rd l0 0)) - 128)) 0 0 0) else (if bt356.2.1=true then (rzDecode.j1 kj4 l0 t355 bt356.2.1 bt356.2.2 false (wrap64 ((wrap64 (rd l0 0)) - 128)) 0 0 0) else (rzDecode.j1 kj4 l0 t355 bt356.2.1 bt356.2.2 (decide ((rd l0 1) > 7)) (wrap64 ((wrap64 (rd l0 0)) - 128)) 0 0 0))) else (none))) else (rzDecode.j2 kj4 l0 t355 bt356.2.2 1 (wrap64 ((wrap64 (rd l0 0)) - 128)) 0 0 0)))=some (r1,r2,r3,r4,r5,r6):=H;have A13:=Aside0.mk A130;clear A130;replace H:=Option.bind_eq_some_iff.mp H;obtain ⟨⟨t356,t357,t358⟩,A140,H⟩:=H;replace H:(if t356=true then (if (l0.length:Int) < 2 then (some (0,0,0,0,0,21)) else (if 1 < (l0.length:Int) then (if (rd l0 1) > 63 then (rzDecode.j1 kj4 l0 t355 t357 t358 true (wrap64 ((wrap64 (rd l0 0)) - 128)) 0 0 0) else (if t357=true then (rzDecode.j1 kj4 l0 t355 t357 t358 false (wrap64 ((wrap64 (rd l0 0)) - 128)) 0 0 0) else (rzDecode.j1 kj4 l0 t355 t357 t358 (decide ((rd l0 1) > 7)) (wrap64 ((wrap64 (rd l0 0)) - 128)) 0 0 0))) else (none))) else (rzDecode.j2 kj4 l0 t355 t358 1 (wrap64 ((wrap64 (rd l0 0)) - 128)) 0 0 0))=some (r1,r2,r3,r4,r5,r6):=H;have A14:=Aside0.mk A140;clear A140;have HC15:=Aside0.mk H;clear H;have p353:0≤(0:Int):=(by omega);have q353:0 < (l0.length:Int):=of_decide_eq_true asm;obtain ⟨ad353,e353,hx353_0⟩:=Kd.at_int HR0.out 0 p353 q353;cases e353;have qi353:(0 < l0.length)=True:=eq_true (by omega);(try rw [show ((0:Int)).toNat=0 from rfl] at hx353_0);(try rw [Addr.add_zero'] at hx353_0);replace hx353_0:=(HB.out.cell (World.block_lt_of_cell? w _ hx353_0)).trans hx353_0;replace p353:=eq_true p353;replace q353:=eq_true q353;go_upto_if 44 with (first | ((with_reducible refine gate_dst (N:=3) rfl ?_);refine box_event ?hg (N:=3) ?hd (cs:=#[.int .i64 0,.int .i64 0,.int .i64 0,.int .i64 0]) (t:=23) ?hr ?_;(case hd=>rfl);(case hg=>rfl);(case hr=>first | (go_simp;done) | (go_simp;rfl));intro gb354 hg w16 hbox hb;have n0_:=Aside0.mk (blk_below (g:=gb349) (o:=.cells #[.int .i64 0,.int .i64 0,.int .i64 0,.int .i64 0,.int .i64 0,.int .i64 0] 35 (0,0)) bko hb);have n1_:=Aside0.mk (below_step blw hb);have n2_:=Aside0.mk (hbox);have n3_:=Aside0.mk ((by rw [hg];exact (below_size blw):w.heap.size≤gb354));have n4_:=Aside0.mk ((by rw [hg];exact (below_size blw):w.heap.size≤gb354));have n5_:=Aside0.mk ((by rw [hg];exact Nat.ne_of_lt (blk_lt (g:=gb349) (o:=.cells #[.int .i64 0,.int .i64 0,.int .i64 0,.int .i64 0,.int .i64 0,.int .i64 0] 35 (0,0)) bko):gb349≠gb354));have n6_:=Aside0.mk ((by rw [hg];exact Nat.ne_of_gt (blk_lt (g:=gb349) (o:=.cells #[.int .i64 0,.int .i64 0,.int .i64 0,.int .i64 0,.int .i64 0,.int .i64 0] 35 (0,0)) bko):gb354≠gb349));clear BK349;clear HB;have BK349:=n0_;have HB:=n1_;have BK354:=n2_;have GW354:=n3_;have GE354:=n4_;have NB349_354:=n5_;have NB354_349:=n6_;clear n0_ n1_ n2_ n3_ n4_ n5_ n6_;clear hb hbox hg;have hnb17:=NB354_349.out;have hnc17:=NB349_354.out;have hcz18_0:w16.cell? ⟨gb354,0,none⟩=some (.int .i64 0):=(blk_cell BK354.out 0).trans rfl;have hcz18_1:w16.cell? ⟨gb354,1,none⟩=some (.int .i64 0):=(blk_cell BK354.out 1).trans rfl;have hcz18_2:w16.cell? ⟨gb354,2,none⟩=some (.int .i64 0):=(blk_cell BK354.out 2).trans rfl;have hcz18_3:w16.cell? ⟨gb354,3,none⟩=some (.int .i64 0):=(blk_cell BK354.out 3).trans rfl;have hfz18_0:=blk_frozen BK354.out 0;have hfz18_1:=blk_frozen BK354.out 1;have hfz18_2:=blk_frozen BK354.out 2;have hfz18_3:=blk_frozen BK354.out 3) | ((with_reducible refine gate_callee (f:=51) rfl ?_);refine goesL_ (some 37) rfl rfl Tryz.func51 (by kernel_rfl) rfl #[.int .i64 (wrap64 ((wrap64 (rd l0 0)) - 128))] rfl fq ?_;(with_reducible refine (rzForm.calls kj4 (wrap64 ((wrap64 (rd l0 0)) - 128)) t355 _ A13.out).mono ?_);rintro e w' ⟨rfl,⟨nd,rfl⟩⟩;refine ⟨_,rfl,?_⟩) | ((with_reducible refine gate_callee (f:=53) rfl ?_);refine goesL_ (some 40) rfl rfl Tryz.func53 (by kernel_rfl) rfl #[.int .i64 t355] rfl fq ?_;(with_reducible refine (rzOperands.calls kj4 t355 t356 t357 t358 _ A14.out).mono ?_);rintro e w' ⟨rfl,⟨nd,rfl⟩⟩;refine ⟨_,rfl,?_⟩))
      (try simp only [Act.put,List.setIfInBounds_toArray,List.set_cons_zero,List.set_cons_succ]);go_cut [8] (fun v8 wc=>∃ (kq:Nat) (x8_14:Int) (x350000_14:Int) (x350001_14:Int) (x350002_14:Int) (x350003_14:Int) (x350004_14:Int) (x350005_14:Int) (x355001_14:Int) (x355002_14:Int),v8=.int .i64 x8_14∧Aside0 (rzDecode.j2 kq l0 t355 t358 x8_14 (wrap64 ((wrap64 (rd l0 0)) - 128)) x355001_14 x355002_14 0=some (r1,r2,r3,r4,r5,r6))∧Aside0 (kq≤kj4)∧Aside0 (wc.heap[gb349]?=some (.cells #[.int .i64 x350000_14,.int .i64 x350001_14,.int .i64 x350002_14,.int .i64 x350003_14,.int .i64 x350004_14,.int .i64 x350005_14] 35 (0,0)))∧Aside0 (wc.heap[gb354]?=some (.cells #[.int .i64 (wrap64 ((wrap64 (rd l0 0)) - 128)),.int .i64 x355001_14,.int .i64 x355002_14,.int .i64 0] 23 (0,0)))∧Aside0 (Below w.heap.size w wc))
      case first =>
       have H:=HC15.out;clear HC15;by_cases c19:t356=true
       ·subst c19;have H1:(if (l0.length:Int) < 2 then (some (0,0,0,0,0,21)) else (if 1 < (l0.length:Int) then (if (rd l0 1) > 63 then (rzDecode.j1 kj4 l0 t355 t357 t358 true (wrap64 ((wrap64 (rd l0 0)) - 128)) 0 0 0) else (if t357=true then (rzDecode.j1 kj4 l0 t355 t357 t358 false (wrap64 ((wrap64 (rd l0 0)) - 128)) 0 0 0) else (rzDecode.j1 kj4 l0 t355 t357 t358 (decide ((rd l0 1) > 7)) (wrap64 ((wrap64 (rd l0 0)) - 128)) 0 0 0))) else (none)))=some (r1,r2,r3,r4,r5,r6):=by rw [if_pos rfl] at H;exact H
        clear H;have H:=H1;clear H1;by_cases c20:(l0.length:Int) < 2
        ·rw [if_pos c20] at H;have c20b0:decide ((l0.length:Int) < 2)=true:=decide_eq_true c20;have c20b1:decide (l0.length < 2)=true:=decide_eq_true (by omega);clear c20;(first | rw [c20b0] | (simp only [i64_w,i32_w];rw [c20b0]) | skip);simp only [Option.some.injEq,Prod.mk.injEq] at H;obtain ⟨rfl,rfl,rfl,rfl,rfl,rfl⟩:=H;have hnb21:=NB349_354.out;have hnc21:=NB354_349.out;have hcz22_0:w16.cell? ⟨gb349,0,none⟩=some (.int .i64 0):=(blk_cell BK349.out 0).trans rfl;have hcz22_1:w16.cell? ⟨gb349,1,none⟩=some (.int .i64 0):=(blk_cell BK349.out 1).trans rfl;have hcz22_2:w16.cell? ⟨gb349,2,none⟩=some (.int .i64 0):=(blk_cell BK349.out 2).trans rfl;have hcz22_3:w16.cell? ⟨gb349,3,none⟩=some (.int .i64 0):=(blk_cell BK349.out 3).trans rfl;have hcz22_4:w16.cell? ⟨gb349,4,none⟩=some (.int .i64 0):=(blk_cell BK349.out 4).trans rfl;have hcz22_5:w16.cell? ⟨gb349,5,none⟩=some (.int .i64 0):=(blk_cell BK349.out 5).trans rfl;have hfz22_0:=blk_frozen BK349.out 0;have hfz22_1:=blk_frozen BK349.out 1;have hfz22_2:=blk_frozen BK349.out 2;have hfz22_3:=blk_frozen BK349.out 3;have hfz22_4:=blk_frozen BK349.out 4;have hfz22_5:=blk_frozen BK349.out 5;go_wp2;refine bodyPost_ret (results_cell_row rfl _ _ gb349 35 #[.int .i64 0,.int .i64 0,.int .i64 0,.int .i64 0,.int .i64 0,.int .i64 21] (0,0) _ rfl (by (with_reducible repeat (first | refine blk_drewN ?_ _ | refine blk_drew ?_ | refine blk_alloc ?_ _));refine blk_put (cs:=#[.int .i64 0,.int .i64 0,.int .i64 0,.int .i64 0,.int .i64 0,.int .i64 0]) ?_ 5 _ rfl;(with_reducible repeat (first | refine blk_drewN ?_ _ | refine blk_drew ?_ | refine blk_alloc ?_ _));refine blk_put (cs:=#[.int .i64 0,.int .i64 0,.int .i64 0,.int .i64 0,.int .i64 0,.int .i64 0]) ?_ 4 _ rfl;(with_reducible repeat (first | refine blk_drewN ?_ _ | refine blk_drew ?_ | refine blk_alloc ?_ _));refine blk_put (cs:=#[.int .i64 0,.int .i64 0,.int .i64 0,.int .i64 0,.int .i64 0,.int .i64 0]) ?_ 3 _ rfl;(with_reducible repeat (first | refine blk_drewN ?_ _ | refine blk_drew ?_ | refine blk_alloc ?_ _));refine blk_put (cs:=#[.int .i64 0,.int .i64 0,.int .i64 0,.int .i64 0,.int .i64 0,.int .i64 0]) ?_ 2 _ rfl;(with_reducible repeat (first | refine blk_drewN ?_ _ | refine blk_drew ?_ | refine blk_alloc ?_ _));refine blk_put (cs:=#[.int .i64 0,.int .i64 0,.int .i64 0,.int .i64 0,.int .i64 0,.int .i64 0]) ?_ 1 _ rfl;(with_reducible repeat (first | refine blk_drewN ?_ _ | refine blk_drew ?_ | refine blk_alloc ?_ _));refine blk_put (cs:=#[.int .i64 0,.int .i64 0,.int .i64 0,.int .i64 0,.int .i64 0,.int .i64 0]) ?_ 0 _ rfl;(with_reducible repeat (first | refine blk_drewN ?_ _ | refine blk_drew ?_ | refine blk_alloc ?_ _));refine blk_far ?_ NB349_354.out _;(with_reducible repeat (first | refine blk_drewN ?_ _ | refine blk_drew ?_ | refine blk_alloc ?_ _));refine blk_far ?_ NB349_354.out _;(with_reducible repeat (first | refine blk_drewN ?_ _ | refine blk_drew ?_ | refine blk_alloc ?_ _));refine blk_far ?_ NB349_354.out _;(with_reducible repeat (first | refine blk_drewN ?_ _ | refine blk_drew ?_ | refine blk_alloc ?_ _));refine blk_far ?_ NB349_354.out _;(with_reducible repeat (first | refine blk_drewN ?_ _ | refine blk_drew ?_ | refine blk_alloc ?_ _));exact BK349.out) Tryz.underlying35 rfl (by kernel_rfl)) rfl ?_;exact ⟨rew,blw⟩
        ·rw [if_neg c20] at H;have c20b0:decide ((l0.length:Int) < 2)=false:=decide_eq_false c20;have c20b1:decide (l0.length < 2)=false:=decide_eq_false (by omega);clear c20;(first | rw [c20b0] | (simp only [i64_w,i32_w];rw [c20b0]) | skip);have HC23:=Aside0.mk H;clear H;go_upto_region 12 with (fail)
         go_cut [62] (fun v62 wc=>∃ (kq:Nat) (x62_22:Bool),v62=.bool x62_22∧Aside0 (rzDecode.j1 kq l0 t355 t357 t358 x62_22 (wrap64 ((wrap64 (rd l0 0)) - 128)) 0 0 0=some (r1,r2,r3,r4,r5,r6))∧Aside0 (kq≤kj4)∧Aside0 (wc.heap[gb349]?=some (.cells #[.int .i64 0,.int .i64 0,.int .i64 0,.int .i64 0,.int .i64 0,.int .i64 0] 35 (0,0)))∧Aside0 (wc.heap[gb354]?=some (.cells #[.int .i64 (wrap64 ((wrap64 (rd l0 0)) - 128)),.int .i64 0,.int .i64 0,.int .i64 0] 23 (0,0)))∧Aside0 (Below w.heap.size w wc))
         case first =>
          have H:=HC23.out;clear HC23;by_cases c24:1 < (l0.length:Int)
          ·rw [if_pos c24] at H;have c24b0:decide (1 < (l0.length:Int))=true:=decide_eq_true c24;have c24b1:decide (1 < l0.length)=true:=decide_eq_true (by omega);clear c24;(first | rw [c24b0] | (simp only [i64_w,i32_w];rw [c24b0]) | skip);by_cases c25:(rd l0 1) > 63
           ·rw [if_pos c25] at H;have c25b0:decide (63 < (rd l0 1))=true:=decide_eq_true c25;clear c25;have H':=Aside0.mk H;clear H;have p359:0≤(1:Int):=(by omega);have q359:1 < (l0.length:Int):=of_decide_eq_true asm;obtain ⟨ad359,e359,hx359_0⟩:=Kd.at_int HR0.out 1 p359 q359;obtain rfl:ad353=ad359:=(by injection e359);(try simp only [show (1:Int).toNat=1 from rfl,Nat.reduceMul,Nat.reduceEqDiff,Go.Addr.add,↓reduceIte] at hx359_0);have qi359:(1 < l0.length)=True:=eq_true (by omega);(try rw [show ((1:Int)).toNat=1 from rfl] at hx359_0);have hn359_0:ad353.block≠gb354:=Nat.ne_of_lt (Nat.lt_of_lt_of_le (by have:=World.block_lt_of_cell? _ _ hx359_0;first | rwa [add_block] at this | exact this) GW354.out);have hn359_1:ad353.block≠gb354:=Nat.ne_of_lt (Nat.lt_of_lt_of_le (by have:=World.block_lt_of_cell? _ _ hx359_0;first | rwa [add_block] at this | exact this) GW354.out);have hn359_2:ad353.block≠gb354:=Nat.ne_of_lt (Nat.lt_of_lt_of_le (by have:=World.block_lt_of_cell? _ _ hx359_0;first | rwa [add_block] at this | exact this) GW354.out);have hn359_3:ad353.block≠gb354:=Nat.ne_of_lt (Nat.lt_of_lt_of_le (by have:=World.block_lt_of_cell? _ _ hx359_0;first | rwa [add_block] at this | exact this) GW354.out);replace hx359_0:=(HB.out.cell (World.block_lt_of_cell? w _ hx359_0)).trans hx359_0;replace hx359_0:=(cell_far (p:=⟨gb354,0,none⟩) (by first | (rw [add_block];exact hn359_0) | (show (Addr.add _ _).block≠_;rw [add_block];exact hn359_0) | exact hn359_0) (.int .i64 (wrap64 ((wrap64 (rd l0 0)) - 128)))).trans hx359_0;replace hx359_0:=(cell_far (p:=⟨gb354,1,none⟩) (by first | (rw [add_block];exact hn359_1) | (show (Addr.add _ _).block≠_;rw [add_block];exact hn359_1) | exact hn359_1) (.int .i64 0)).trans hx359_0;replace hx359_0:=(cell_far (p:=⟨gb354,2,none⟩) (by first | (rw [add_block];exact hn359_2) | (show (Addr.add _ _).block≠_;rw [add_block];exact hn359_2) | exact hn359_2) (.int .i64 0)).trans hx359_0;replace hx359_0:=(cell_far (p:=⟨gb354,3,none⟩) (by first | (rw [add_block];exact hn359_3) | (show (Addr.add _ _).block≠_;rw [add_block];exact hn359_3) | exact hn359_3) (.int .i64 0)).trans hx359_0;clear hn359_0;clear hn359_1;clear hn359_2;clear hn359_3;replace p359:=eq_true p359;replace q359:=eq_true q359;go_wp2;go_meet
            case rel=>exact ⟨_,(true),rsd,H',⟨by have:=HJ4.out;first | omega | exact Nat.le_refl _⟩,⟨by (with_reducible repeat (first | refine blk_drewN ?_ _ | refine blk_drew ?_ | refine blk_alloc ?_ _));refine blk_far ?_ NB349_354.out _;(with_reducible repeat (first | refine blk_drewN ?_ _ | refine blk_drew ?_ | refine blk_alloc ?_ _));refine blk_far ?_ NB349_354.out _;(with_reducible repeat (first | refine blk_drewN ?_ _ | refine blk_drew ?_ | refine blk_alloc ?_ _));refine blk_far ?_ NB349_354.out _;(with_reducible repeat (first | refine blk_drewN ?_ _ | refine blk_drew ?_ | refine blk_alloc ?_ _));refine blk_far ?_ NB349_354.out _;(with_reducible repeat (first | refine blk_drewN ?_ _ | refine blk_drew ?_ | refine blk_alloc ?_ _));exact BK349.out⟩,⟨by (with_reducible repeat (first | refine blk_drewN ?_ _ | refine blk_drew ?_ | refine blk_alloc ?_ _));refine blk_put (cs:=#[.int .i64 (wrap64 ((wrap64 (rd l0 0)) - 128)),.int .i64 0,.int .i64 0,.int .i64 0]) ?_ 3 _ rfl;(with_reducible repeat (first | refine blk_drewN ?_ _ | refine blk_drew ?_ | refine blk_alloc ?_ _));refine blk_put (cs:=#[.int .i64 (wrap64 ((wrap64 (rd l0 0)) - 128)),.int .i64 0,.int .i64 0,.int .i64 0]) ?_ 2 _ rfl;(with_reducible repeat (first | refine blk_drewN ?_ _ | refine blk_drew ?_ | refine blk_alloc ?_ _));refine blk_put (cs:=#[.int .i64 (wrap64 ((wrap64 (rd l0 0)) - 128)),.int .i64 0,.int .i64 0,.int .i64 0]) ?_ 1 _ rfl;(with_reducible repeat (first | refine blk_drewN ?_ _ | refine blk_drew ?_ | refine blk_alloc ?_ _));refine blk_put (cs:=#[.int .i64 0,.int .i64 0,.int .i64 0,.int .i64 0]) ?_ 0 _ rfl;(with_reducible repeat (first | refine blk_drewN ?_ _ | refine blk_drew ?_ | refine blk_alloc ?_ _));exact BK354.out⟩,⟨blw⟩⟩
           ·rw [if_neg c25] at H;have c25b0:decide (63 < (rd l0 1))=false:=decide_eq_false c25;clear c25;by_cases c26:t357=true
            ·subst c26;have H1:(rzDecode.j1 kj4 l0 t355 true t358 false (wrap64 ((wrap64 (rd l0 0)) - 128)) 0 0 0)=some (r1,r2,r3,r4,r5,r6):=by rw [if_pos rfl] at H;exact H
             clear H;have H:=H1;clear H1;have H':=Aside0.mk H;clear H;have p359:0≤(1:Int):=(by omega);have q359:1 < (l0.length:Int):=of_decide_eq_true asm;obtain ⟨ad359,e359,hx359_0⟩:=Kd.at_int HR0.out 1 p359 q359;obtain rfl:ad353=ad359:=(by injection e359);(try simp only [show (1:Int).toNat=1 from rfl,Nat.reduceMul,Nat.reduceEqDiff,Go.Addr.add,↓reduceIte] at hx359_0);have qi359:(1 < l0.length)=True:=eq_true (by omega);(try rw [show ((1:Int)).toNat=1 from rfl] at hx359_0);have hn359_0:ad353.block≠gb354:=Nat.ne_of_lt (Nat.lt_of_lt_of_le (by have:=World.block_lt_of_cell? _ _ hx359_0;first | rwa [add_block] at this | exact this) GW354.out);have hn359_1:ad353.block≠gb354:=Nat.ne_of_lt (Nat.lt_of_lt_of_le (by have:=World.block_lt_of_cell? _ _ hx359_0;first | rwa [add_block] at this | exact this) GW354.out);have hn359_2:ad353.block≠gb354:=Nat.ne_of_lt (Nat.lt_of_lt_of_le (by have:=World.block_lt_of_cell? _ _ hx359_0;first | rwa [add_block] at this | exact this) GW354.out);have hn359_3:ad353.block≠gb354:=Nat.ne_of_lt (Nat.lt_of_lt_of_le (by have:=World.block_lt_of_cell? _ _ hx359_0;first | rwa [add_block] at this | exact this) GW354.out);replace hx359_0:=(HB.out.cell (World.block_lt_of_cell? w _ hx359_0)).trans hx359_0;replace hx359_0:=(cell_far (p:=⟨gb354,0,none⟩) (by first | (rw [add_block];exact hn359_0) | (show (Addr.add _ _).block≠_;rw [add_block];exact hn359_0) | exact hn359_0) (.int .i64 (wrap64 ((wrap64 (rd l0 0)) - 128)))).trans hx359_0;replace hx359_0:=(cell_far (p:=⟨gb354,1,none⟩) (by first | (rw [add_block];exact hn359_1) | (show (Addr.add _ _).block≠_;rw [add_block];exact hn359_1) | exact hn359_1) (.int .i64 0)).trans hx359_0;replace hx359_0:=(cell_far (p:=⟨gb354,2,none⟩) (by first | (rw [add_block];exact hn359_2) | (show (Addr.add _ _).block≠_;rw [add_block];exact hn359_2) | exact hn359_2) (.int .i64 0)).trans hx359_0;replace hx359_0:=(cell_far (p:=⟨gb354,3,none⟩) (by first | (rw [add_block];exact hn359_3) | (show (Addr.add _ _).block≠_;rw [add_block];exact hn359_3) | exact hn359_3) (.int .i64 0)).trans hx359_0;clear hn359_0;clear hn359_1;clear hn359_2;clear hn359_3;replace p359:=eq_true p359;replace q359:=eq_true q359;go_wp2;go_meet
             case rel=>exact ⟨_,(false),rsd,H',⟨by have:=HJ4.out;first | omega | exact Nat.le_refl _⟩,⟨by (with_reducible repeat (first | refine blk_drewN ?_ _ | refine blk_drew ?_ | refine blk_alloc ?_ _));refine blk_far ?_ NB349_354.out _;(with_reducible repeat (first | refine blk_drewN ?_ _ | refine blk_drew ?_ | refine blk_alloc ?_ _));refine blk_far ?_ NB349_354.out _;(with_reducible repeat (first | refine blk_drewN ?_ _ | refine blk_drew ?_ | refine blk_alloc ?_ _));refine blk_far ?_ NB349_354.out _;(with_reducible repeat (first | refine blk_drewN ?_ _ | refine blk_drew ?_ | refine blk_alloc ?_ _));refine blk_far ?_ NB349_354.out _;(with_reducible repeat (first | refine blk_drewN ?_ _ | refine blk_drew ?_ | refine blk_alloc ?_ _));exact BK349.out⟩,⟨by (with_reducible repeat (first | refine blk_drewN ?_ _ | refine blk_drew ?_ | refine blk_alloc ?_ _));refine blk_put (cs:=#[.int .i64 (wrap64 ((wrap64 (rd l0 0)) - 128)),.int .i64 0,.int .i64 0,.int .i64 0]) ?_ 3 _ rfl;(with_reducible repeat (first | refine blk_drewN ?_ _ | refine blk_drew ?_ | refine blk_alloc ?_ _));refine blk_put (cs:=#[.int .i64 (wrap64 ((wrap64 (rd l0 0)) - 128)),.int .i64 0,.int .i64 0,.int .i64 0]) ?_ 2 _ rfl;(with_reducible repeat (first | refine blk_drewN ?_ _ | refine blk_drew ?_ | refine blk_alloc ?_ _));refine blk_put (cs:=#[.int .i64 (wrap64 ((wrap64 (rd l0 0)) - 128)),.int .i64 0,.int .i64 0,.int .i64 0]) ?_ 1 _ rfl;(with_reducible repeat (first | refine blk_drewN ?_ _ | refine blk_drew ?_ | refine blk_alloc ?_ _));refine blk_put (cs:=#[.int .i64 0,.int .i64 0,.int .i64 0,.int .i64 0]) ?_ 0 _ rfl;(with_reducible repeat (first | refine blk_drewN ?_ _ | refine blk_drew ?_ | refine blk_alloc ?_ _));exact BK354.out⟩,⟨blw⟩⟩
            ·replace c26:=Bool.eq_false_iff.mpr c26;subst c26;have H1:(rzDecode.j1 kj4 l0 t355 false t358 (decide ((rd l0 1) > 7)) (wrap64 ((wrap64 (rd l0 0)) - 128)) 0 0 0)=some (r1,r2,r3,r4,r5,r6):=by rw [if_neg (show ¬ (false=true) by decide)] at H;exact H
             clear H;have H:=H1;clear H1;have H':=Aside0.mk H;clear H;have p359:0≤(1:Int):=(by omega);have q359:1 < (l0.length:Int):=of_decide_eq_true asm;obtain ⟨ad359,e359,hx359_0⟩:=Kd.at_int HR0.out 1 p359 q359;obtain rfl:ad353=ad359:=(by injection e359);(try simp only [show (1:Int).toNat=1 from rfl,Nat.reduceMul,Nat.reduceEqDiff,Go.Addr.add,↓reduceIte] at hx359_0);have qi359:(1 < l0.length)=True:=eq_true (by omega);(try rw [show ((1:Int)).toNat=1 from rfl] at hx359_0);have hn359_0:ad353.block≠gb354:=Nat.ne_of_lt (Nat.lt_of_lt_of_le (by have:=World.block_lt_of_cell? _ _ hx359_0;first | rwa [add_block] at this | exact this) GW354.out);have hn359_1:ad353.block≠gb354:=Nat.ne_of_lt (Nat.lt_of_lt_of_le (by have:=World.block_lt_of_cell? _ _ hx359_0;first | rwa [add_block] at this | exact this) GW354.out);have hn359_2:ad353.block≠gb354:=Nat.ne_of_lt (Nat.lt_of_lt_of_le (by have:=World.block_lt_of_cell? _ _ hx359_0;first | rwa [add_block] at this | exact this) GW354.out);have hn359_3:ad353.block≠gb354:=Nat.ne_of_lt (Nat.lt_of_lt_of_le (by have:=World.block_lt_of_cell? _ _ hx359_0;first | rwa [add_block] at this | exact this) GW354.out);replace hx359_0:=(HB.out.cell (World.block_lt_of_cell? w _ hx359_0)).trans hx359_0;replace hx359_0:=(cell_far (p:=⟨gb354,0,none⟩) (by first | (rw [add_block];exact hn359_0) | (show (Addr.add _ _).block≠_;rw [add_block];exact hn359_0) | exact hn359_0) (.int .i64 (wrap64 ((wrap64 (rd l0 0)) - 128)))).trans hx359_0;replace hx359_0:=(cell_far (p:=⟨gb354,1,none⟩) (by first | (rw [add_block];exact hn359_1) | (show (Addr.add _ _).block≠_;rw [add_block];exact hn359_1) | exact hn359_1) (.int .i64 0)).trans hx359_0;replace hx359_0:=(cell_far (p:=⟨gb354,2,none⟩) (by first | (rw [add_block];exact hn359_2) | (show (Addr.add _ _).block≠_;rw [add_block];exact hn359_2) | exact hn359_2) (.int .i64 0)).trans hx359_0;replace hx359_0:=(cell_far (p:=⟨gb354,3,none⟩) (by first | (rw [add_block];exact hn359_3) | (show (Addr.add _ _).block≠_;rw [add_block];exact hn359_3) | exact hn359_3) (.int .i64 0)).trans hx359_0;clear hn359_0;clear hn359_1;clear hn359_2;clear hn359_3;replace p359:=eq_true p359;replace q359:=eq_true q359;have p360:0≤(1:Int):=(by omega);have q360:1 < (l0.length:Int):=of_decide_eq_true asm;obtain ⟨ad360,e360,hx360_0⟩:=Kd.at_int HR0.out 1 p360 q360;obtain rfl:ad353=ad360:=(by injection e360);(try simp only [show (1:Int).toNat=1 from rfl,Nat.reduceMul,Nat.reduceEqDiff,Go.Addr.add,↓reduceIte] at hx360_0);have qi360:(1 < l0.length)=True:=eq_true (by omega);(try rw [show ((1:Int)).toNat=1 from rfl] at hx360_0);have hn360_0:ad353.block≠gb354:=Nat.ne_of_lt (Nat.lt_of_lt_of_le (by have:=World.block_lt_of_cell? _ _ hx360_0;first | rwa [add_block] at this | exact this) GW354.out);have hn360_1:ad353.block≠gb354:=Nat.ne_of_lt (Nat.lt_of_lt_of_le (by have:=World.block_lt_of_cell? _ _ hx360_0;first | rwa [add_block] at this | exact this) GW354.out);have hn360_2:ad353.block≠gb354:=Nat.ne_of_lt (Nat.lt_of_lt_of_le (by have:=World.block_lt_of_cell? _ _ hx360_0;first | rwa [add_block] at this | exact this) GW354.out);have hn360_3:ad353.block≠gb354:=Nat.ne_of_lt (Nat.lt_of_lt_of_le (by have:=World.block_lt_of_cell? _ _ hx360_0;first | rwa [add_block] at this | exact this) GW354.out);replace hx360_0:=(HB.out.cell (World.block_lt_of_cell? w _ hx360_0)).trans hx360_0;replace hx360_0:=(cell_far (p:=⟨gb354,0,none⟩) (by first | (rw [add_block];exact hn360_0) | (show (Addr.add _ _).block≠_;rw [add_block];exact hn360_0) | exact hn360_0) (.int .i64 (wrap64 ((wrap64 (rd l0 0)) - 128)))).trans hx360_0;replace hx360_0:=(cell_far (p:=⟨gb354,1,none⟩) (by first | (rw [add_block];exact hn360_1) | (show (Addr.add _ _).block≠_;rw [add_block];exact hn360_1) | exact hn360_1) (.int .i64 0)).trans hx360_0;replace hx360_0:=(cell_far (p:=⟨gb354,2,none⟩) (by first | (rw [add_block];exact hn360_2) | (show (Addr.add _ _).block≠_;rw [add_block];exact hn360_2) | exact hn360_2) (.int .i64 0)).trans hx360_0;replace hx360_0:=(cell_far (p:=⟨gb354,3,none⟩) (by first | (rw [add_block];exact hn360_3) | (show (Addr.add _ _).block≠_;rw [add_block];exact hn360_3) | exact hn360_3) (.int .i64 0)).trans hx360_0;clear hn360_0;clear hn360_1;clear hn360_2;clear hn360_3;replace p360:=eq_true p360;replace q360:=eq_true q360;go_wp2;go_meet
             case rel=>exact ⟨_,(decide ((rd l0 1) > 7)),rsd,H',⟨by have:=HJ4.out;first | omega | exact Nat.le_refl _⟩,⟨by (with_reducible repeat (first | refine blk_drewN ?_ _ | refine blk_drew ?_ | refine blk_alloc ?_ _));refine blk_far ?_ NB349_354.out _;(with_reducible repeat (first | refine blk_drewN ?_ _ | refine blk_drew ?_ | refine blk_alloc ?_ _));refine blk_far ?_ NB349_354.out _;(with_reducible repeat (first | refine blk_drewN ?_ _ | refine blk_drew ?_ | refine blk_alloc ?_ _));refine blk_far ?_ NB349_354.out _;(with_reducible repeat (first | refine blk_drewN ?_ _ | refine blk_drew ?_ | refine blk_alloc ?_ _));refine blk_far ?_ NB349_354.out _;(with_reducible repeat (first | refine blk_drewN ?_ _ | refine blk_drew ?_ | refine blk_alloc ?_ _));exact BK349.out⟩,⟨by (with_reducible repeat (first | refine blk_drewN ?_ _ | refine blk_drew ?_ | refine blk_alloc ?_ _));refine blk_put (cs:=#[.int .i64 (wrap64 ((wrap64 (rd l0 0)) - 128)),.int .i64 0,.int .i64 0,.int .i64 0]) ?_ 3 _ rfl;(with_reducible repeat (first | refine blk_drewN ?_ _ | refine blk_drew ?_ | refine blk_alloc ?_ _));refine blk_put (cs:=#[.int .i64 (wrap64 ((wrap64 (rd l0 0)) - 128)),.int .i64 0,.int .i64 0,.int .i64 0]) ?_ 2 _ rfl;(with_reducible repeat (first | refine blk_drewN ?_ _ | refine blk_drew ?_ | refine blk_alloc ?_ _));refine blk_put (cs:=#[.int .i64 (wrap64 ((wrap64 (rd l0 0)) - 128)),.int .i64 0,.int .i64 0,.int .i64 0]) ?_ 1 _ rfl;(with_reducible repeat (first | refine blk_drewN ?_ _ | refine blk_drew ?_ | refine blk_alloc ?_ _));refine blk_put (cs:=#[.int .i64 0,.int .i64 0,.int .i64 0,.int .i64 0]) ?_ 0 _ rfl;(with_reducible repeat (first | refine blk_drewN ?_ _ | refine blk_drew ?_ | refine blk_alloc ?_ _));exact BK354.out⟩,⟨blw⟩⟩
          ·rw [if_neg c24] at H;exact absurd H (by simp)
         case rest =>
          clear HC23;try clear c1
          try clear c2
          try clear c2b0
          try clear c2b1
          try clear c2b2
          try clear p2
          try clear p3
          try clear q3
          try clear hx3
          try clear qi3
          try clear c5
          try clear p6
          try clear c7
          try clear c7b0
          try clear c7b1
          try clear c8
          try clear c8b0
          try clear c10
          try clear c12
          try clear c12b0
          try clear c12b1
          try clear c17
          try clear c19
          try clear c20
          try clear c20b0
          try clear c20b1
          try clear c21
          try clear c23
          try clear c24
          try clear c24b0
          try clear c24b1
          try clear c25
          try clear c25b0
          try clear c26
          try clear hcz11_0
          try clear hcz11_1
          try clear hcz11_2
          try clear hcz11_3
          try clear hcz11_4
          try clear hcz11_5
          try clear hcz18_0
          try clear hcz18_1
          try clear hcz18_2
          try clear hcz18_3
          try clear hcz22_0
          try clear hcz22_1
          try clear hcz22_2
          try clear hcz22_3
          try clear hcz22_4
          try clear hcz22_5
          try clear hcz4_0
          try clear hcz4_1
          try clear hcz4_2
          try clear hcz4_3
          try clear hcz4_4
          try clear hcz4_5
          try clear hfz11_0
          try clear hfz11_1
          try clear hfz11_2
          try clear hfz11_3
          try clear hfz11_4
          try clear hfz11_5
          try clear hfz18_0
          try clear hfz18_1
          try clear hfz18_2
          try clear hfz18_3
          try clear hfz22_0
          try clear hfz22_1
          try clear hfz22_2
          try clear hfz22_3
          try clear hfz22_4
          try clear hfz22_5
          try clear hfz4_0
          try clear hfz4_1
          try clear hfz4_2
          try clear hfz4_3
          try clear hfz4_4
          try clear hfz4_5
          try clear hx350_0
          try clear hx351_0
          try clear hx353_0
          try clear hx359_0
          try clear hx360_0
          try clear p2
          try clear p3
          try clear p350
          try clear p351
          try clear p353
          try clear p359
          try clear p360
          try clear p6
          try clear q3
          try clear q350
          try clear q351
          try clear q353
          try clear q359
          try clear q360
          obtain ⟨kq,x62_22,rfl,HA,HJ22,BK349,BK354,HB⟩:=hcut;cases kq with
          | zero=>exact absurd HA.out (by simp [rzDecode.j1])
          | succ kj22 =>
           have H:=HA.out;clear HA;simp only [rzDecode.j1] at H;by_cases c27:x62_22=true
           ·subst c27;have H1:(some (0,0,0,0,0,20))=some (r1,r2,r3,r4,r5,r6):=by rw [if_pos rfl] at H;exact H
            clear H;have H:=H1;clear H1;simp only [Option.some.injEq,Prod.mk.injEq] at H;obtain ⟨rfl,rfl,rfl,rfl,rfl,rfl⟩:=H;have hnb28:=NB349_354.out;have hnc28:=NB354_349.out;have hcz29_0:wc.cell? ⟨gb349,0,none⟩=some (.int .i64 0):=(blk_cell BK349.out 0).trans rfl;have hcz29_1:wc.cell? ⟨gb349,1,none⟩=some (.int .i64 0):=(blk_cell BK349.out 1).trans rfl;have hcz29_2:wc.cell? ⟨gb349,2,none⟩=some (.int .i64 0):=(blk_cell BK349.out 2).trans rfl;have hcz29_3:wc.cell? ⟨gb349,3,none⟩=some (.int .i64 0):=(blk_cell BK349.out 3).trans rfl;have hcz29_4:wc.cell? ⟨gb349,4,none⟩=some (.int .i64 0):=(blk_cell BK349.out 4).trans rfl;have hcz29_5:wc.cell? ⟨gb349,5,none⟩=some (.int .i64 0):=(blk_cell BK349.out 5).trans rfl;have hfz29_0:=blk_frozen BK349.out 0;have hfz29_1:=blk_frozen BK349.out 1;have hfz29_2:=blk_frozen BK349.out 2;have hfz29_3:=blk_frozen BK349.out 3;have hfz29_4:=blk_frozen BK349.out 4;have hfz29_5:=blk_frozen BK349.out 5;go_wp2;refine bodyPost_ret (results_cell_row rfl _ _ gb349 35 #[.int .i64 0,.int .i64 0,.int .i64 0,.int .i64 0,.int .i64 0,.int .i64 20] (0,0) _ rfl (by (with_reducible repeat (first | refine blk_drewN ?_ _ | refine blk_drew ?_ | refine blk_alloc ?_ _));refine blk_put (cs:=#[.int .i64 0,.int .i64 0,.int .i64 0,.int .i64 0,.int .i64 0,.int .i64 0]) ?_ 5 _ rfl;(with_reducible repeat (first | refine blk_drewN ?_ _ | refine blk_drew ?_ | refine blk_alloc ?_ _));refine blk_put (cs:=#[.int .i64 0,.int .i64 0,.int .i64 0,.int .i64 0,.int .i64 0,.int .i64 0]) ?_ 4 _ rfl;(with_reducible repeat (first | refine blk_drewN ?_ _ | refine blk_drew ?_ | refine blk_alloc ?_ _));refine blk_put (cs:=#[.int .i64 0,.int .i64 0,.int .i64 0,.int .i64 0,.int .i64 0,.int .i64 0]) ?_ 3 _ rfl;(with_reducible repeat (first | refine blk_drewN ?_ _ | refine blk_drew ?_ | refine blk_alloc ?_ _));refine blk_put (cs:=#[.int .i64 0,.int .i64 0,.int .i64 0,.int .i64 0,.int .i64 0,.int .i64 0]) ?_ 2 _ rfl;(with_reducible repeat (first | refine blk_drewN ?_ _ | refine blk_drew ?_ | refine blk_alloc ?_ _));refine blk_put (cs:=#[.int .i64 0,.int .i64 0,.int .i64 0,.int .i64 0,.int .i64 0,.int .i64 0]) ?_ 1 _ rfl;(with_reducible repeat (first | refine blk_drewN ?_ _ | refine blk_drew ?_ | refine blk_alloc ?_ _));refine blk_put (cs:=#[.int .i64 0,.int .i64 0,.int .i64 0,.int .i64 0,.int .i64 0,.int .i64 0]) ?_ 0 _ rfl;(with_reducible repeat (first | refine blk_drewN ?_ _ | refine blk_drew ?_ | refine blk_alloc ?_ _));exact BK349.out) Tryz.underlying35 rfl (by kernel_rfl)) rfl ?_;exact ⟨rew,blw⟩
           ·replace c27:=Bool.eq_false_iff.mpr c27;subst c27;have H1:(if 1 < (l0.length:Int) then (if t357=true then (rzDecode.j2 kj22 l0 t355 t358 2 (wrap64 ((wrap64 (rd l0 0)) - 128)) (wrap64 (Int.tdiv (wrap64 (rd l0 1)) 8)) (Int.tmod (wrap64 (rd l0 1)) 8) 0) else (rzDecode.j2 kj22 l0 t355 t358 2 (wrap64 ((wrap64 (rd l0 0)) - 128)) (wrap64 (rd l0 1)) 0 0)) else (none))=some (r1,r2,r3,r4,r5,r6):=by rw [if_neg (show ¬ (false=true) by decide)] at H;exact H
            clear H;have H:=H1;clear H1;by_cases c30:1 < (l0.length:Int)
            ·rw [if_pos c30] at H;have c30b0:decide (1 < (l0.length:Int))=true:=decide_eq_true c30;have c30b1:decide (1 < l0.length)=true:=decide_eq_true (by omega);clear c30;by_cases c31:t357=true
             ·subst c31;have H1:(rzDecode.j2 kj22 l0 t355 t358 2 (wrap64 ((wrap64 (rd l0 0)) - 128)) (wrap64 (Int.tdiv (wrap64 (rd l0 1)) 8)) (Int.tmod (wrap64 (rd l0 1)) 8) 0)=some (r1,r2,r3,r4,r5,r6):=by rw [if_pos rfl] at H;exact H
              clear H;have H:=H1;clear H1;have H':=Aside0.mk H;clear H;have p361:0≤(1:Int):=(by omega);have q361:1 < (l0.length:Int):=of_decide_eq_true asm;obtain ⟨ad361,e361,hx361_0⟩:=Kd.at_int HR0.out 1 p361 q361;obtain rfl:ad353=ad361:=(by injection e361);(try simp only [show (1:Int).toNat=1 from rfl,Nat.reduceMul,Nat.reduceEqDiff,Go.Addr.add,↓reduceIte] at hx361_0);have qi361:(1 < l0.length)=True:=eq_true (by omega);(try rw [show ((1:Int)).toNat=1 from rfl] at hx361_0);replace hx361_0:=(HB.out.cell (World.block_lt_of_cell? w _ hx361_0)).trans hx361_0;replace p361:=eq_true p361;replace q361:=eq_true q361;have hnb32:=NB354_349.out;have hnc32:=NB349_354.out;have hcz33_0:wc.cell? ⟨gb354,0,none⟩=some (.int .i64 (wrap64 ((wrap64 (rd l0 0)) - 128))):=(blk_cell BK354.out 0).trans rfl;have hcz33_1:wc.cell? ⟨gb354,1,none⟩=some (.int .i64 0):=(blk_cell BK354.out 1).trans rfl;have hcz33_2:wc.cell? ⟨gb354,2,none⟩=some (.int .i64 0):=(blk_cell BK354.out 2).trans rfl;have hcz33_3:wc.cell? ⟨gb354,3,none⟩=some (.int .i64 0):=(blk_cell BK354.out 3).trans rfl;have hfz33_0:=blk_frozen BK354.out 0;have hfz33_1:=blk_frozen BK354.out 1;have hfz33_2:=blk_frozen BK354.out 2;have hfz33_3:=blk_frozen BK354.out 3;have p362:0≤(1:Int):=(by omega);have q362:1 < (l0.length:Int):=of_decide_eq_true asm;obtain ⟨ad362,e362,hx362_0⟩:=Kd.at_int HR0.out 1 p362 q362;obtain rfl:ad353=ad362:=(by injection e362);(try simp only [show (1:Int).toNat=1 from rfl,Nat.reduceMul,Nat.reduceEqDiff,Go.Addr.add,↓reduceIte] at hx362_0);have qi362:(1 < l0.length)=True:=eq_true (by omega);(try rw [show ((1:Int)).toNat=1 from rfl] at hx362_0);have hn362_0:ad353.block≠gb354:=Nat.ne_of_lt (Nat.lt_of_lt_of_le (by have:=World.block_lt_of_cell? _ _ hx362_0;first | rwa [add_block] at this | exact this) GW354.out);replace hx362_0:=(HB.out.cell (World.block_lt_of_cell? w _ hx362_0)).trans hx362_0;replace hx362_0:=(cell_far (p:=⟨gb354,1,none⟩) (by first | (rw [add_block];exact hn362_0) | (show (Addr.add _ _).block≠_;rw [add_block];exact hn362_0) | exact hn362_0) (.int .i64 (wrap64 (rd l0 1)))).trans hx362_0;clear hn362_0;replace p362:=eq_true p362;replace q362:=eq_true q362;have p363:0≤(1:Int):=(by omega);have q363:1 < (l0.length:Int):=of_decide_eq_true asm;obtain ⟨ad363,e363,hx363_0⟩:=Kd.at_int HR0.out 1 p363 q363;obtain rfl:ad353=ad363:=(by injection e363);(try simp only [show (1:Int).toNat=1 from rfl,Nat.reduceMul,Nat.reduceEqDiff,Go.Addr.add,↓reduceIte] at hx363_0);have qi363:(1 < l0.length)=True:=eq_true (by omega);(try rw [show ((1:Int)).toNat=1 from rfl] at hx363_0);have hn363_0:ad353.block≠gb354:=Nat.ne_of_lt (Nat.lt_of_lt_of_le (by have:=World.block_lt_of_cell? _ _ hx363_0;first | rwa [add_block] at this | exact this) GW354.out);have hn363_1:ad353.block≠gb354:=Nat.ne_of_lt (Nat.lt_of_lt_of_le (by have:=World.block_lt_of_cell? _ _ hx363_0;first | rwa [add_block] at this | exact this) GW354.out);replace hx363_0:=(HB.out.cell (World.block_lt_of_cell? w _ hx363_0)).trans hx363_0;replace hx363_0:=(cell_far (p:=⟨gb354,1,none⟩) (by first | (rw [add_block];exact hn363_0) | (show (Addr.add _ _).block≠_;rw [add_block];exact hn363_0) | exact hn363_0) (.int .i64 (wrap64 (rd l0 1)))).trans hx363_0;replace hx363_0:=(cell_far (p:=⟨gb354,1,none⟩) (by first | (rw [add_block];exact hn363_1) | (show (Addr.add _ _).block≠_;rw [add_block];exact hn363_1) | exact hn363_1) (.int .i64 (wrap64 (Int.tdiv (wrap64 (rd l0 1)) 8)))).trans hx363_0;clear hn363_0;clear hn363_1;replace p363:=eq_true p363;replace q363:=eq_true q363;go_wp2;go_meet
              case rel=>exact ⟨_,(2),(0),(0),(0),(0),(0),(0),(wrap64 (Int.tdiv (wrap64 (rd l0 1)) 8)),(Int.tmod (wrap64 (rd l0 1)) 8),rsd,H',⟨by have:=HJ4.out;have:=HJ22.out;first | omega | exact Nat.le_refl _⟩,⟨by (with_reducible repeat (first | refine blk_drewN ?_ _ | refine blk_drew ?_ | refine blk_alloc ?_ _));refine blk_far ?_ NB349_354.out _;(with_reducible repeat (first | refine blk_drewN ?_ _ | refine blk_drew ?_ | refine blk_alloc ?_ _));refine blk_far ?_ NB349_354.out _;(with_reducible repeat (first | refine blk_drewN ?_ _ | refine blk_drew ?_ | refine blk_alloc ?_ _));refine blk_far ?_ NB349_354.out _;(with_reducible repeat (first | refine blk_drewN ?_ _ | refine blk_drew ?_ | refine blk_alloc ?_ _));exact BK349.out⟩,⟨by (with_reducible repeat (first | refine blk_drewN ?_ _ | refine blk_drew ?_ | refine blk_alloc ?_ _));refine blk_put (cs:=#[.int .i64 (wrap64 ((wrap64 (rd l0 0)) - 128)),.int .i64 (wrap64 (Int.tdiv (wrap64 (rd l0 1)) 8)),.int .i64 0,.int .i64 0]) ?_ 2 _ rfl;(with_reducible repeat (first | refine blk_drewN ?_ _ | refine blk_drew ?_ | refine blk_alloc ?_ _));refine blk_put (cs:=#[.int .i64 (wrap64 ((wrap64 (rd l0 0)) - 128)),.int .i64 (wrap64 (rd l0 1)),.int .i64 0,.int .i64 0]) ?_ 1 _ rfl;(with_reducible repeat (first | refine blk_drewN ?_ _ | refine blk_drew ?_ | refine blk_alloc ?_ _));refine blk_put (cs:=#[.int .i64 (wrap64 ((wrap64 (rd l0 0)) - 128)),.int .i64 0,.int .i64 0,.int .i64 0]) ?_ 1 _ rfl;(with_reducible repeat (first | refine blk_drewN ?_ _ | refine blk_drew ?_ | refine blk_alloc ?_ _));exact BK354.out⟩,⟨blw⟩⟩
             ·replace c31:=Bool.eq_false_iff.mpr c31;subst c31;have H1:(rzDecode.j2 kj22 l0 t355 t358 2 (wrap64 ((wrap64 (rd l0 0)) - 128)) (wrap64 (rd l0 1)) 0 0)=some (r1,r2,r3,r4,r5,r6):=by rw [if_neg (show ¬ (false=true) by decide)] at H;exact H
              clear H;have H:=H1;clear H1;have H':=Aside0.mk H;clear H;have p361:0≤(1:Int):=(by omega);have q361:1 < (l0.length:Int):=of_decide_eq_true asm;obtain ⟨ad361,e361,hx361_0⟩:=Kd.at_int HR0.out 1 p361 q361;obtain rfl:ad353=ad361:=(by injection e361);(try simp only [show (1:Int).toNat=1 from rfl,Nat.reduceMul,Nat.reduceEqDiff,Go.Addr.add,↓reduceIte] at hx361_0);have qi361:(1 < l0.length)=True:=eq_true (by omega);(try rw [show ((1:Int)).toNat=1 from rfl] at hx361_0);replace hx361_0:=(HB.out.cell (World.block_lt_of_cell? w _ hx361_0)).trans hx361_0;replace p361:=eq_true p361;replace q361:=eq_true q361;have hnb34:=NB354_349.out;have hnc34:=NB349_354.out;have hcz35_0:wc.cell? ⟨gb354,0,none⟩=some (.int .i64 (wrap64 ((wrap64 (rd l0 0)) - 128))):=(blk_cell BK354.out 0).trans rfl;have hcz35_1:wc.cell? ⟨gb354,1,none⟩=some (.int .i64 0):=(blk_cell BK354.out 1).trans rfl;have hcz35_2:wc.cell? ⟨gb354,2,none⟩=some (.int .i64 0):=(blk_cell BK354.out 2).trans rfl;have hcz35_3:wc.cell? ⟨gb354,3,none⟩=some (.int .i64 0):=(blk_cell BK354.out 3).trans rfl;have hfz35_0:=blk_frozen BK354.out 0;have hfz35_1:=blk_frozen BK354.out 1;have hfz35_2:=blk_frozen BK354.out 2;have hfz35_3:=blk_frozen BK354.out 3;go_wp2;go_meet
              case rel=>exact ⟨_,(2),(0),(0),(0),(0),(0),(0),(wrap64 (rd l0 1)),(0),rsd,H',⟨by have:=HJ4.out;have:=HJ22.out;first | omega | exact Nat.le_refl _⟩,⟨by (with_reducible repeat (first | refine blk_drewN ?_ _ | refine blk_drew ?_ | refine blk_alloc ?_ _));refine blk_far ?_ NB349_354.out _;(with_reducible repeat (first | refine blk_drewN ?_ _ | refine blk_drew ?_ | refine blk_alloc ?_ _));exact BK349.out⟩,⟨by (with_reducible repeat (first | refine blk_drewN ?_ _ | refine blk_drew ?_ | refine blk_alloc ?_ _));refine blk_put (cs:=#[.int .i64 (wrap64 ((wrap64 (rd l0 0)) - 128)),.int .i64 0,.int .i64 0,.int .i64 0]) ?_ 1 _ rfl;(with_reducible repeat (first | refine blk_drewN ?_ _ | refine blk_drew ?_ | refine blk_alloc ?_ _));exact BK354.out⟩,⟨blw⟩⟩
            ·rw [if_neg c30] at H;exact absurd H (by simp)
       ·replace c19:=Bool.eq_false_iff.mpr c19;subst c19;have H1:(rzDecode.j2 kj4 l0 t355 t358 1 (wrap64 ((wrap64 (rd l0 0)) - 128)) 0 0 0)=some (r1,r2,r3,r4,r5,r6):=by rw [if_neg (show ¬ (false=true) by decide)] at H;exact H
        clear H;have H:=H1;clear H1;have H':=Aside0.mk H;clear H;go_wp2;go_meet
        case rel=>exact ⟨_,(1),(0),(0),(0),(0),(0),(0),(0),(0),rsd,H',⟨by have:=HJ4.out;first | omega | exact Nat.le_refl _⟩,⟨by (with_reducible repeat (first | refine blk_drewN ?_ _ | refine blk_drew ?_ | refine blk_alloc ?_ _));refine blk_far ?_ NB349_354.out _;(with_reducible repeat (first | refine blk_drewN ?_ _ | refine blk_drew ?_ | refine blk_alloc ?_ _));refine blk_far ?_ NB349_354.out _;(with_reducible repeat (first | refine blk_drewN ?_ _ | refine blk_drew ?_ | refine blk_alloc ?_ _));refine blk_far ?_ NB349_354.out _;(with_reducible repeat (first | refine blk_drewN ?_ _ | refine blk_drew ?_ | refine blk_alloc ?_ _));refine blk_far ?_ NB349_354.out _;(with_reducible repeat (first | refine blk_drewN ?_ _ | refine blk_drew ?_ | refine blk_alloc ?_ _));exact BK349.out⟩,⟨by (with_reducible repeat (first | refine blk_drewN ?_ _ | refine blk_drew ?_ | refine blk_alloc ?_ _));refine blk_put (cs:=#[.int .i64 (wrap64 ((wrap64 (rd l0 0)) - 128)),.int .i64 0,.int .i64 0,.int .i64 0]) ?_ 3 _ rfl;(with_reducible repeat (first | refine blk_drewN ?_ _ | refine blk_drew ?_ | refine blk_alloc ?_ _));refine blk_put (cs:=#[.int .i64 (wrap64 ((wrap64 (rd l0 0)) - 128)),.int .i64 0,.int .i64 0,.int .i64 0]) ?_ 2 _ rfl;(with_reducible repeat (first | refine blk_drewN ?_ _ | refine blk_drew ?_ | refine blk_alloc ?_ _));refine blk_put (cs:=#[.int .i64 (wrap64 ((wrap64 (rd l0 0)) - 128)),.int .i64 0,.int .i64 0,.int .i64 0]) ?_ 1 _ rfl;(with_reducible repeat (first | refine blk_drewN ?_ _ | refine blk_drew ?_ | refine blk_alloc ?_ _));refine blk_put (cs:=#[.int .i64 0,.int .i64 0,.int .i64 0,.int .i64 0]) ?_ 0 _ rfl;(with_reducible repeat (first | refine blk_drewN ?_ _ | refine blk_drew ?_ | refine blk_alloc ?_ _));exact BK354.out⟩,⟨blw⟩⟩
      case rest =>
       clear HC15;try clear c1
       try clear c2
       try clear c2b0
       try clear c2b1
       try clear c2b2
       try clear p2
       try clear c3
       try clear p3
       try clear q3
       try clear hx3
       try clear qi3
       try clear c5
       try clear p6
       try clear c7
       try clear c7b0
       try clear c7b1
       try clear c8
       try clear c8b0
       try clear c10
       try clear c12
       try clear c12b0
       try clear c12b1
       try clear c17
       try clear c19
       try clear c20
       try clear c20b0
       try clear c20b1
       try clear c21
       try clear c23
       try clear c24
       try clear c24b0
       try clear c24b1
       try clear c25
       try clear c25b0
       try clear c26
       try clear c27
       try clear c28
       try clear c30
       try clear c30b0
       try clear c30b1
       try clear c31
       try clear c32
       try clear c34
       try clear p35
       try clear q35
       try clear hx35
       try clear qi35
       try clear hcz11_0
       try clear hcz11_1
       try clear hcz11_2
       try clear hcz11_3
       try clear hcz11_4
       try clear hcz11_5
       try clear hcz18_0
       try clear hcz18_1
       try clear hcz18_2
       try clear hcz18_3
       try clear hcz22_0
       try clear hcz22_1
       try clear hcz22_2
       try clear hcz22_3
       try clear hcz22_4
       try clear hcz22_5
       try clear hcz29_0
       try clear hcz29_1
       try clear hcz29_2
       try clear hcz29_3
       try clear hcz29_4
       try clear hcz29_5
       try clear hcz33_0
       try clear hcz33_1
       try clear hcz33_2
       try clear hcz33_3
       try clear hcz35_0
       try clear hcz35_1
       try clear hcz35_2
       try clear hcz35_3
       try clear hcz4_0
       try clear hcz4_1
       try clear hcz4_2
       try clear hcz4_3
       try clear hcz4_4
       try clear hcz4_5
       try clear hfz11_0
       try clear hfz11_1
       try clear hfz11_2
       try clear hfz11_3
       try clear hfz11_4
       try clear hfz11_5
       try clear hfz18_0
       try clear hfz18_1
       try clear hfz18_2
       try clear hfz18_3
       try clear hfz22_0
       try clear hfz22_1
       try clear hfz22_2
       try clear hfz22_3
       try clear hfz22_4
       try clear hfz22_5
       try clear hfz29_0
       try clear hfz29_1
       try clear hfz29_2
       try clear hfz29_3
       try clear hfz29_4
       try clear hfz29_5
       try clear hfz33_0
       try clear hfz33_1
       try clear hfz33_2
       try clear hfz33_3
       try clear hfz35_0
       try clear hfz35_1
       try clear hfz35_2
       try clear hfz35_3
       try clear hfz4_0
       try clear hfz4_1
       try clear hfz4_2
       try clear hfz4_3
       try clear hfz4_4
       try clear hfz4_5
       try clear hx350_0
       try clear hx351_0
       try clear hx353_0
       try clear hx359_0
       try clear hx360_0
       try clear hx361_0
       try clear hx362_0
       try clear hx363_0
       try clear p2
       try clear p3
       try clear p350
       try clear p351
       try clear p353
       try clear p359
       try clear p360
       try clear p361
       try clear p362
       try clear p363
       try clear p6
       try clear q3
       try clear q350
       try clear q351
       try clear q353
       try clear q359
       try clear q360
       try clear q361
       try clear q362
       try clear q363
       obtain ⟨kq,x8_14,x350000_14,x350001_14,x350002_14,x350003_14,x350004_14,x350005_14,x355001_14,x355002_14,rfl,HA,HJ14,BK349,BK354,HB⟩:=hcut;cases kq with
       | zero=>exact absurd HA.out (by simp [rzDecode.j2])
       | succ kj14 =>
        have H:=HA.out;clear HA;simp only [rzDecode.j2] at H;have H':=Aside0.mk H;clear H;go_wp2;try simp only [Act.put,List.setIfInBounds_toArray,List.set_cons_zero,List.set_cons_succ]
        go_loopg [9] kj14 (fun kq v9 w'=>∃ (x9_3:Int) (x350000_3:Int) (x350001_3:Int) (x350002_3:Int) (x350003_3:Int) (x350004_3:Int) (x350005_3:Int),v9=.int .i64 x9_3∧Aside0 (rzDecode.l0 kq l0 t355 t358 x8_14 x9_3 (wrap64 ((wrap64 (rd l0 0)) - 128)) x355001_14 x355002_14 0=some (r1,r2,r3,r4,r5,r6))∧Aside0 (kq≤kj14)∧Aside0 (w'.heap[gb349]?=some (.cells #[.int .i64 x350000_3,.int .i64 x350001_3,.int .i64 x350002_3,.int .i64 x350003_3,.int .i64 x350004_3,.int .i64 x350005_3] 35 (0,0)))∧Aside0 (w'.heap[gb354]?=some (.cells #[.int .i64 (wrap64 ((wrap64 (rd l0 0)) - 128)),.int .i64 x355001_14,.int .i64 x355002_14,.int .i64 0] 23 (0,0)))∧Aside0 (Below w.heap.size w w'))
        case atStart=>exact ⟨(0),(x350000_14),(x350001_14),(x350002_14),(x350003_14),(x350004_14),(x350005_14),rsd,H',⟨Nat.le_refl _⟩,⟨bko⟩,⟨bko⟩,⟨blw⟩⟩
        case round =>
         clear H';try clear c1
         try clear c2
         try clear c2b0
         try clear c2b1
         try clear c2b2
         try clear p2
         try clear c3
         try clear p3
         try clear q3
         try clear hx3
         try clear qi3
         try clear c5
         try clear p6
         try clear c7
         try clear c7b0
         try clear c7b1
         try clear c8
         try clear c8b0
         try clear c10
         try clear c12
         try clear c12b0
         try clear c12b1
         try clear c17
         try clear c19
         try clear c20
         try clear c20b0
         try clear c20b1
         try clear c21
         try clear c23
         try clear c24
         try clear c24b0
         try clear c24b1
         try clear c25
         try clear c25b0
         try clear c26
         try clear c27
         try clear c28
         try clear c30
         try clear c30b0
         try clear c30b1
         try clear c31
         try clear c32
         try clear c34
         try clear p35
         try clear q35
         try clear hx35
         try clear qi35
         try clear hcz11_0
         try clear hcz11_1
         try clear hcz11_2
         try clear hcz11_3
         try clear hcz11_4
         try clear hcz11_5
         try clear hcz18_0
         try clear hcz18_1
         try clear hcz18_2
         try clear hcz18_3
         try clear hcz22_0
         try clear hcz22_1
         try clear hcz22_2
         try clear hcz22_3
         try clear hcz22_4
         try clear hcz22_5
         try clear hcz29_0
         try clear hcz29_1
         try clear hcz29_2
         try clear hcz29_3
         try clear hcz29_4
         try clear hcz29_5
         try clear hcz33_0
         try clear hcz33_1
         try clear hcz33_2
         try clear hcz33_3
         try clear hcz35_0
         try clear hcz35_1
         try clear hcz35_2
         try clear hcz35_3
         try clear hcz4_0
         try clear hcz4_1
         try clear hcz4_2
         try clear hcz4_3
         try clear hcz4_4
         try clear hcz4_5
         try clear hfz11_0
         try clear hfz11_1
         try clear hfz11_2
         try clear hfz11_3
         try clear hfz11_4
         try clear hfz11_5
         try clear hfz18_0
         try clear hfz18_1
         try clear hfz18_2
         try clear hfz18_3
         try clear hfz22_0
         try clear hfz22_1
         try clear hfz22_2
         try clear hfz22_3
         try clear hfz22_4
         try clear hfz22_5
         try clear hfz29_0
         try clear hfz29_1
         try clear hfz29_2
         try clear hfz29_3
         try clear hfz29_4
         try clear hfz29_5
         try clear hfz33_0
         try clear hfz33_1
         try clear hfz33_2
         try clear hfz33_3
         try clear hfz35_0
         try clear hfz35_1
         try clear hfz35_2
         try clear hfz35_3
         try clear hfz4_0
         try clear hfz4_1
         try clear hfz4_2
         try clear hfz4_3
         try clear hfz4_4
         try clear hfz4_5
         try clear hx350_0
         try clear hx351_0
         try clear hx353_0
         try clear hx359_0
         try clear hx360_0
         try clear hx361_0
         try clear hx362_0
         try clear hx363_0
         try clear p2
         try clear p3
         try clear p35
         try clear p350
         try clear p351
         try clear p353
         try clear p359
         try clear p360
         try clear p361
         try clear p362
         try clear p363
         try clear p6
         try clear q3
         try clear q35
         try clear q350
         try clear q351
         try clear q353
         try clear q359
         try clear q360
         try clear q361
         try clear q362
         try clear q363
         obtain ⟨x9_3,x350000_3,x350001_3,x350002_3,x350003_3,x350004_3,x350005_3,rfl,HA,HK3,BK349,BK354,HB⟩:=hrel;cases gk with
         | zero=>exact absurd HA.out (by simp [rzDecode.l0])
         | succ k3 =>
          have H:=HA.out;clear HA;simp only [rzDecode.l0] at H;by_cases c36:x9_3 < t358
          ·rw [if_pos c36] at H;have c36b0:decide (x9_3 < t358)=true:=decide_eq_true c36;clear c36;by_cases c37:(wrap64 (x8_14+x9_3))≥(l0.length:Int)
           ·rw [if_pos c37] at H;have c37b0:decide ((l0.length:Int)≤(wrap64 (x8_14+x9_3)))=true:=decide_eq_true c37;clear c37;simp only [Option.some.injEq,Prod.mk.injEq] at H;obtain ⟨rfl,rfl,rfl,rfl,rfl,rfl⟩:=H;have hnb38:=NB349_354.out;have hnc38:=NB354_349.out;have hcz39_0:wr.cell? ⟨gb349,0,none⟩=some (.int .i64 x350000_3):=(blk_cell BK349.out 0).trans rfl;have hcz39_1:wr.cell? ⟨gb349,1,none⟩=some (.int .i64 x350001_3):=(blk_cell BK349.out 1).trans rfl;have hcz39_2:wr.cell? ⟨gb349,2,none⟩=some (.int .i64 x350002_3):=(blk_cell BK349.out 2).trans rfl;have hcz39_3:wr.cell? ⟨gb349,3,none⟩=some (.int .i64 x350003_3):=(blk_cell BK349.out 3).trans rfl;have hcz39_4:wr.cell? ⟨gb349,4,none⟩=some (.int .i64 x350004_3):=(blk_cell BK349.out 4).trans rfl;have hcz39_5:wr.cell? ⟨gb349,5,none⟩=some (.int .i64 x350005_3):=(blk_cell BK349.out 5).trans rfl;have hfz39_0:=blk_frozen BK349.out 0;have hfz39_1:=blk_frozen BK349.out 1;have hfz39_2:=blk_frozen BK349.out 2;have hfz39_3:=blk_frozen BK349.out 3;have hfz39_4:=blk_frozen BK349.out 4;have hfz39_5:=blk_frozen BK349.out 5;go_wp2;refine bodyPost_ret (results_cell_row rfl _ _ gb349 35 #[.int .i64 0,.int .i64 0,.int .i64 0,.int .i64 0,.int .i64 0,.int .i64 21] (0,0) _ rfl (by (with_reducible repeat (first | refine blk_drewN ?_ _ | refine blk_drew ?_ | refine blk_alloc ?_ _));refine blk_put (cs:=#[.int .i64 0,.int .i64 0,.int .i64 0,.int .i64 0,.int .i64 0,.int .i64 x350005_3]) ?_ 5 _ rfl;(with_reducible repeat (first | refine blk_drewN ?_ _ | refine blk_drew ?_ | refine blk_alloc ?_ _));refine blk_put (cs:=#[.int .i64 0,.int .i64 0,.int .i64 0,.int .i64 0,.int .i64 x350004_3,.int .i64 x350005_3]) ?_ 4 _ rfl;(with_reducible repeat (first | refine blk_drewN ?_ _ | refine blk_drew ?_ | refine blk_alloc ?_ _));refine blk_put (cs:=#[.int .i64 0,.int .i64 0,.int .i64 0,.int .i64 x350003_3,.int .i64 x350004_3,.int .i64 x350005_3]) ?_ 3 _ rfl;(with_reducible repeat (first | refine blk_drewN ?_ _ | refine blk_drew ?_ | refine blk_alloc ?_ _));refine blk_put (cs:=#[.int .i64 0,.int .i64 0,.int .i64 x350002_3,.int .i64 x350003_3,.int .i64 x350004_3,.int .i64 x350005_3]) ?_ 2 _ rfl;(with_reducible repeat (first | refine blk_drewN ?_ _ | refine blk_drew ?_ | refine blk_alloc ?_ _));refine blk_put (cs:=#[.int .i64 0,.int .i64 x350001_3,.int .i64 x350002_3,.int .i64 x350003_3,.int .i64 x350004_3,.int .i64 x350005_3]) ?_ 1 _ rfl;(with_reducible repeat (first | refine blk_drewN ?_ _ | refine blk_drew ?_ | refine blk_alloc ?_ _));refine blk_put (cs:=#[.int .i64 x350000_3,.int .i64 x350001_3,.int .i64 x350002_3,.int .i64 x350003_3,.int .i64 x350004_3,.int .i64 x350005_3]) ?_ 0 _ rfl;(with_reducible repeat (first | refine blk_drewN ?_ _ | refine blk_drew ?_ | refine blk_alloc ?_ _));exact BK349.out) Tryz.underlying35 rfl (by kernel_rfl)) rfl ?_;exact ⟨rew,blw⟩
           ·rw [if_neg c37] at H;have c37b0:decide ((l0.length:Int)≤(wrap64 (x8_14+x9_3)))=false:=decide_eq_false c37;clear c37;by_cases c40:x9_3=9
            ·rw [if_pos c40] at H;have c40b0:(x9_3 == 9)=true:=beq_iff_eq.mpr c40;have c40b1:(x9_3 != 9)=false:=bne_eq_false_iff_eq.mpr c40;clear c40;obtain ⟨ji41,hji41⟩:∃ j_:Int,(wrap64 (x8_14+x9_3))=j_:=⟨_,rfl⟩;replace H:(if 0≤(ji41) then (if (ji41) < (l0.length:Int) then (if (rd l0 (ji41))=0 then (if (rd l0 (ji41)) > 127 then (some (0,0,0,0,0,20)) else (rzDecode.l0 k3 l0 t355 t358 x8_14 (wrap64 (x9_3+1)) (wrap64 ((wrap64 (rd l0 0)) - 128)) x355001_14 x355002_14 0)) else (if (rd l0 (ji41)) > 127 then (some (0,0,0,0,0,20)) else (if (rd l0 (ji41))=127 then (rzDecode.l0 k3 l0 t355 t358 x8_14 (wrap64 (x9_3+1)) (wrap64 ((wrap64 (rd l0 0)) - 128)) x355001_14 x355002_14 0) else (some (0,0,0,0,0,20))))) else (none)) else (none))=some (r1,r2,r3,r4,r5,r6):=by first | (rw [hji41] at H;exact H) | (simp only [hji41] at H ⊢;exact H)
             (try rw [hji41] at c37b0);have hji41w:(IntKind.i64.wrap (x8_14+x9_3))=ji41:=(i64_w _).trans hji41;by_cases c42:0≤(ji41)
             ·rw [if_pos c42] at H;have c42b0:decide (0≤(ji41))=true:=decide_eq_true c42;clear c42;by_cases c43:(ji41) < (l0.length:Int)
              ·rw [if_pos c43] at H;have c43b0:decide ((ji41) < (l0.length:Int))=true:=decide_eq_true c43;clear c43;by_cases c44:(rd l0 (ji41))=0
               ·rw [if_pos c44] at H;have c44b0:((rd l0 (ji41)) == 0)=true:=beq_iff_eq.mpr c44;have c44b1:((rd l0 (ji41)) != 0)=false:=bne_eq_false_iff_eq.mpr c44;clear c44;by_cases c45:(rd l0 (ji41)) > 127
                ·rw [if_pos c45] at H;have c45b0:decide (127 < (rd l0 (ji41)))=true:=decide_eq_true c45;clear c45;simp only [Option.some.injEq,Prod.mk.injEq] at H;obtain ⟨rfl,rfl,rfl,rfl,rfl,rfl⟩:=H;have p364:0≤((ji41):Int):=of_decide_eq_true asm;have q364:(ji41) < (l0.length:Int):=of_decide_eq_true asm;obtain ⟨ad364,e364,hx364_0⟩:=Kd.at_int HR0.out (ji41) p364 q364;obtain rfl:ad353=ad364:=(by injection e364);replace hx364_0:=(HB.out.cell (World.block_lt_of_cell? w _ hx364_0)).trans hx364_0;replace p364:=eq_true p364;replace q364:=eq_true q364;have p365:0≤((ji41):Int):=of_decide_eq_true asm;have q365:(ji41) < (l0.length:Int):=of_decide_eq_true asm;obtain ⟨ad365,e365,hx365_0⟩:=Kd.at_int HR0.out (ji41) p365 q365;obtain rfl:ad353=ad365:=(by injection e365);replace hx365_0:=(HB.out.cell (World.block_lt_of_cell? w _ hx365_0)).trans hx365_0;replace p365:=eq_true p365;replace q365:=eq_true q365;have hnb46:=NB349_354.out;have hnc46:=NB354_349.out;have hcz47_0:wr.cell? ⟨gb349,0,none⟩=some (.int .i64 x350000_3):=(blk_cell BK349.out 0).trans rfl;have hcz47_1:wr.cell? ⟨gb349,1,none⟩=some (.int .i64 x350001_3):=(blk_cell BK349.out 1).trans rfl;have hcz47_2:wr.cell? ⟨gb349,2,none⟩=some (.int .i64 x350002_3):=(blk_cell BK349.out 2).trans rfl;have hcz47_3:wr.cell? ⟨gb349,3,none⟩=some (.int .i64 x350003_3):=(blk_cell BK349.out 3).trans rfl;have hcz47_4:wr.cell? ⟨gb349,4,none⟩=some (.int .i64 x350004_3):=(blk_cell BK349.out 4).trans rfl;have hcz47_5:wr.cell? ⟨gb349,5,none⟩=some (.int .i64 x350005_3):=(blk_cell BK349.out 5).trans rfl;have hfz47_0:=blk_frozen BK349.out 0;have hfz47_1:=blk_frozen BK349.out 1;have hfz47_2:=blk_frozen BK349.out 2;have hfz47_3:=blk_frozen BK349.out 3;have hfz47_4:=blk_frozen BK349.out 4;have hfz47_5:=blk_frozen BK349.out 5;go_wp2;refine bodyPost_ret (results_cell_row rfl _ _ gb349 35 #[.int .i64 0,.int .i64 0,.int .i64 0,.int .i64 0,.int .i64 0,.int .i64 20] (0,0) _ rfl (by (with_reducible repeat (first | refine blk_drewN ?_ _ | refine blk_drew ?_ | refine blk_alloc ?_ _));refine blk_put (cs:=#[.int .i64 0,.int .i64 0,.int .i64 0,.int .i64 0,.int .i64 0,.int .i64 x350005_3]) ?_ 5 _ rfl;(with_reducible repeat (first | refine blk_drewN ?_ _ | refine blk_drew ?_ | refine blk_alloc ?_ _));refine blk_put (cs:=#[.int .i64 0,.int .i64 0,.int .i64 0,.int .i64 0,.int .i64 x350004_3,.int .i64 x350005_3]) ?_ 4 _ rfl;(with_reducible repeat (first | refine blk_drewN ?_ _ | refine blk_drew ?_ | refine blk_alloc ?_ _));refine blk_put (cs:=#[.int .i64 0,.int .i64 0,.int .i64 0,.int .i64 x350003_3,.int .i64 x350004_3,.int .i64 x350005_3]) ?_ 3 _ rfl;(with_reducible repeat (first | refine blk_drewN ?_ _ | refine blk_drew ?_ | refine blk_alloc ?_ _));refine blk_put (cs:=#[.int .i64 0,.int .i64 0,.int .i64 x350002_3,.int .i64 x350003_3,.int .i64 x350004_3,.int .i64 x350005_3]) ?_ 2 _ rfl;(with_reducible repeat (first | refine blk_drewN ?_ _ | refine blk_drew ?_ | refine blk_alloc ?_ _));refine blk_put (cs:=#[.int .i64 0,.int .i64 x350001_3,.int .i64 x350002_3,.int .i64 x350003_3,.int .i64 x350004_3,.int .i64 x350005_3]) ?_ 1 _ rfl;(with_reducible repeat (first | refine blk_drewN ?_ _ | refine blk_drew ?_ | refine blk_alloc ?_ _));refine blk_put (cs:=#[.int .i64 x350000_3,.int .i64 x350001_3,.int .i64 x350002_3,.int .i64 x350003_3,.int .i64 x350004_3,.int .i64 x350005_3]) ?_ 0 _ rfl;(with_reducible repeat (first | refine blk_drewN ?_ _ | refine blk_drew ?_ | refine blk_alloc ?_ _));exact BK349.out) Tryz.underlying35 rfl (by kernel_rfl)) rfl ?_;exact ⟨by first | rfl | (simp [errW_none,errW_some] <;> rfl) | (simp only [← hji41];first | rfl | (simp [errW_none,errW_some] <;> rfl)) | (simp [*,errW_none,errW_some] <;> rfl),blw⟩
                ·rw [if_neg c45] at H;have c45b0:decide (127 < (rd l0 (ji41)))=false:=decide_eq_false c45;clear c45;have H':=Aside0.mk H;clear H;have p364:0≤((ji41):Int):=of_decide_eq_true asm;have q364:(ji41) < (l0.length:Int):=of_decide_eq_true asm;obtain ⟨ad364,e364,hx364_0⟩:=Kd.at_int HR0.out (ji41) p364 q364;obtain rfl:ad353=ad364:=(by injection e364);replace hx364_0:=(HB.out.cell (World.block_lt_of_cell? w _ hx364_0)).trans hx364_0;replace p364:=eq_true p364;replace q364:=eq_true q364;have p365:0≤((ji41):Int):=of_decide_eq_true asm;have q365:(ji41) < (l0.length:Int):=of_decide_eq_true asm;obtain ⟨ad365,e365,hx365_0⟩:=Kd.at_int HR0.out (ji41) p365 q365;obtain rfl:ad353=ad365:=(by injection e365);replace hx365_0:=(HB.out.cell (World.block_lt_of_cell? w _ hx365_0)).trans hx365_0;replace p365:=eq_true p365;replace q365:=eq_true q365;go_wp2;go_roundg k3
                 case measure=>have:=HJ4.out;have:=HJ14.out;have:=HK3.out;omega
                 case rel=>exact ⟨(wrap64 (x9_3+1)),(x350000_3),(x350001_3),(x350002_3),(x350003_3),(x350004_3),(x350005_3),rsd,H',⟨by have:=HJ4.out;have:=HJ14.out;have:=HK3.out;omega⟩,⟨bko⟩,⟨bko⟩,⟨blw⟩⟩
               ·rw [if_neg c44] at H;have c44b0:((rd l0 (ji41)) == 0)=false:=beq_eq_false_iff_ne.mpr c44;have c44b1:((rd l0 (ji41)) != 0)=true:=bne_iff_ne.mpr c44;by_cases c48:(rd l0 (ji41)) > 127
                ·rw [if_pos c48] at H;have c48b0:decide (127 < (rd l0 (ji41)))=true:=decide_eq_true c48;clear c48;simp only [Option.some.injEq,Prod.mk.injEq] at H;obtain ⟨rfl,rfl,rfl,rfl,rfl,rfl⟩:=H;have p364:0≤((ji41):Int):=of_decide_eq_true asm;have q364:(ji41) < (l0.length:Int):=of_decide_eq_true asm;obtain ⟨ad364,e364,hx364_0⟩:=Kd.at_int HR0.out (ji41) p364 q364;obtain rfl:ad353=ad364:=(by injection e364);replace hx364_0:=(HB.out.cell (World.block_lt_of_cell? w _ hx364_0)).trans hx364_0;replace p364:=eq_true p364;replace q364:=eq_true q364;have p366:0≤((ji41):Int):=of_decide_eq_true asm;have q366:(ji41) < (l0.length:Int):=of_decide_eq_true asm;obtain ⟨ad366,e366,hx366_0⟩:=Kd.at_int HR0.out (ji41) p366 q366;obtain rfl:ad353=ad366:=(by injection e366);replace hx366_0:=(HB.out.cell (World.block_lt_of_cell? w _ hx366_0)).trans hx366_0;replace p366:=eq_true p366;replace q366:=eq_true q366;have p367:0≤((ji41):Int):=of_decide_eq_true asm;have q367:(ji41) < (l0.length:Int):=of_decide_eq_true asm;obtain ⟨ad367,e367,hx367_0⟩:=Kd.at_int HR0.out (ji41) p367 q367;obtain rfl:ad353=ad367:=(by injection e367);replace hx367_0:=(HB.out.cell (World.block_lt_of_cell? w _ hx367_0)).trans hx367_0;replace p367:=eq_true p367;replace q367:=eq_true q367;have hnb49:=NB349_354.out;have hnc49:=NB354_349.out;have hcz50_0:wr.cell? ⟨gb349,0,none⟩=some (.int .i64 x350000_3):=(blk_cell BK349.out 0).trans rfl;have hcz50_1:wr.cell? ⟨gb349,1,none⟩=some (.int .i64 x350001_3):=(blk_cell BK349.out 1).trans rfl;have hcz50_2:wr.cell? ⟨gb349,2,none⟩=some (.int .i64 x350002_3):=(blk_cell BK349.out 2).trans rfl;have hcz50_3:wr.cell? ⟨gb349,3,none⟩=some (.int .i64 x350003_3):=(blk_cell BK349.out 3).trans rfl;have hcz50_4:wr.cell? ⟨gb349,4,none⟩=some (.int .i64 x350004_3):=(blk_cell BK349.out 4).trans rfl;have hcz50_5:wr.cell? ⟨gb349,5,none⟩=some (.int .i64 x350005_3):=(blk_cell BK349.out 5).trans rfl;have hfz50_0:=blk_frozen BK349.out 0;have hfz50_1:=blk_frozen BK349.out 1;have hfz50_2:=blk_frozen BK349.out 2;have hfz50_3:=blk_frozen BK349.out 3;have hfz50_4:=blk_frozen BK349.out 4;have hfz50_5:=blk_frozen BK349.out 5;go_wp2;refine bodyPost_ret (results_cell_row rfl _ _ gb349 35 #[.int .i64 0,.int .i64 0,.int .i64 0,.int .i64 0,.int .i64 0,.int .i64 20] (0,0) _ rfl (by (with_reducible repeat (first | refine blk_drewN ?_ _ | refine blk_drew ?_ | refine blk_alloc ?_ _));refine blk_put (cs:=#[.int .i64 0,.int .i64 0,.int .i64 0,.int .i64 0,.int .i64 0,.int .i64 x350005_3]) ?_ 5 _ rfl;(with_reducible repeat (first | refine blk_drewN ?_ _ | refine blk_drew ?_ | refine blk_alloc ?_ _));refine blk_put (cs:=#[.int .i64 0,.int .i64 0,.int .i64 0,.int .i64 0,.int .i64 x350004_3,.int .i64 x350005_3]) ?_ 4 _ rfl;(with_reducible repeat (first | refine blk_drewN ?_ _ | refine blk_drew ?_ | refine blk_alloc ?_ _));refine blk_put (cs:=#[.int .i64 0,.int .i64 0,.int .i64 0,.int .i64 x350003_3,.int .i64 x350004_3,.int .i64 x350005_3]) ?_ 3 _ rfl;(with_reducible repeat (first | refine blk_drewN ?_ _ | refine blk_drew ?_ | refine blk_alloc ?_ _));refine blk_put (cs:=#[.int .i64 0,.int .i64 0,.int .i64 x350002_3,.int .i64 x350003_3,.int .i64 x350004_3,.int .i64 x350005_3]) ?_ 2 _ rfl;(with_reducible repeat (first | refine blk_drewN ?_ _ | refine blk_drew ?_ | refine blk_alloc ?_ _));refine blk_put (cs:=#[.int .i64 0,.int .i64 x350001_3,.int .i64 x350002_3,.int .i64 x350003_3,.int .i64 x350004_3,.int .i64 x350005_3]) ?_ 1 _ rfl;(with_reducible repeat (first | refine blk_drewN ?_ _ | refine blk_drew ?_ | refine blk_alloc ?_ _));refine blk_put (cs:=#[.int .i64 x350000_3,.int .i64 x350001_3,.int .i64 x350002_3,.int .i64 x350003_3,.int .i64 x350004_3,.int .i64 x350005_3]) ?_ 0 _ rfl;(with_reducible repeat (first | refine blk_drewN ?_ _ | refine blk_drew ?_ | refine blk_alloc ?_ _));exact BK349.out) Tryz.underlying35 rfl (by kernel_rfl)) rfl ?_;exact ⟨by first | rfl | (simp [errW_none,errW_some] <;> rfl) | (simp only [← hji41];first | rfl | (simp [errW_none,errW_some] <;> rfl)) | (simp [*,errW_none,errW_some] <;> rfl),blw⟩
                ·rw [if_neg c48] at H;have c48b0:decide (127 < (rd l0 (ji41)))=false:=decide_eq_false c48;clear c48;by_cases c51:(rd l0 (ji41))=127
                 ·rw [if_pos c51] at H;have c51b0:((rd l0 (ji41)) == 127)=true:=beq_iff_eq.mpr c51;have c51b1:((rd l0 (ji41)) != 127)=false:=bne_eq_false_iff_eq.mpr c51;clear c51;have H':=Aside0.mk H;clear H;have p364:0≤((ji41):Int):=of_decide_eq_true asm;have q364:(ji41) < (l0.length:Int):=of_decide_eq_true asm;obtain ⟨ad364,e364,hx364_0⟩:=Kd.at_int HR0.out (ji41) p364 q364;obtain rfl:ad353=ad364:=(by injection e364);replace hx364_0:=(HB.out.cell (World.block_lt_of_cell? w _ hx364_0)).trans hx364_0;replace p364:=eq_true p364;replace q364:=eq_true q364;have p366:0≤((ji41):Int):=of_decide_eq_true asm;have q366:(ji41) < (l0.length:Int):=of_decide_eq_true asm;obtain ⟨ad366,e366,hx366_0⟩:=Kd.at_int HR0.out (ji41) p366 q366;obtain rfl:ad353=ad366:=(by injection e366);replace hx366_0:=(HB.out.cell (World.block_lt_of_cell? w _ hx366_0)).trans hx366_0;replace p366:=eq_true p366;replace q366:=eq_true q366;have p367:0≤((ji41):Int):=of_decide_eq_true asm;have q367:(ji41) < (l0.length:Int):=of_decide_eq_true asm;obtain ⟨ad367,e367,hx367_0⟩:=Kd.at_int HR0.out (ji41) p367 q367;obtain rfl:ad353=ad367:=(by injection e367);replace hx367_0:=(HB.out.cell (World.block_lt_of_cell? w _ hx367_0)).trans hx367_0;replace p367:=eq_true p367;replace q367:=eq_true q367;go_wp2;go_roundg k3
                  case measure=>have:=HJ4.out;have:=HJ14.out;have:=HK3.out;omega
                  case rel=>exact ⟨(wrap64 (x9_3+1)),(x350000_3),(x350001_3),(x350002_3),(x350003_3),(x350004_3),(x350005_3),rsd,H',⟨by have:=HJ4.out;have:=HJ14.out;have:=HK3.out;omega⟩,⟨bko⟩,⟨bko⟩,⟨blw⟩⟩
                 ·rw [if_neg c51] at H;have c51b0:((rd l0 (ji41)) == 127)=false:=beq_eq_false_iff_ne.mpr c51;have c51b1:((rd l0 (ji41)) != 127)=true:=bne_iff_ne.mpr c51;simp only [Option.some.injEq,Prod.mk.injEq] at H;obtain ⟨rfl,rfl,rfl,rfl,rfl,rfl⟩:=H;have p364:0≤((ji41):Int):=of_decide_eq_true asm;have q364:(ji41) < (l0.length:Int):=of_decide_eq_true asm;obtain ⟨ad364,e364,hx364_0⟩:=Kd.at_int HR0.out (ji41) p364 q364;obtain rfl:ad353=ad364:=(by injection e364);replace hx364_0:=(HB.out.cell (World.block_lt_of_cell? w _ hx364_0)).trans hx364_0;replace p364:=eq_true p364;replace q364:=eq_true q364;have p366:0≤((ji41):Int):=of_decide_eq_true asm;have q366:(ji41) < (l0.length:Int):=of_decide_eq_true asm;obtain ⟨ad366,e366,hx366_0⟩:=Kd.at_int HR0.out (ji41) p366 q366;obtain rfl:ad353=ad366:=(by injection e366);replace hx366_0:=(HB.out.cell (World.block_lt_of_cell? w _ hx366_0)).trans hx366_0;replace p366:=eq_true p366;replace q366:=eq_true q366;have p367:0≤((ji41):Int):=of_decide_eq_true asm;have q367:(ji41) < (l0.length:Int):=of_decide_eq_true asm;obtain ⟨ad367,e367,hx367_0⟩:=Kd.at_int HR0.out (ji41) p367 q367;obtain rfl:ad353=ad367:=(by injection e367);replace hx367_0:=(HB.out.cell (World.block_lt_of_cell? w _ hx367_0)).trans hx367_0;replace p367:=eq_true p367;replace q367:=eq_true q367;have hnb52:=NB349_354.out;have hnc52:=NB354_349.out;have hcz53_0:wr.cell? ⟨gb349,0,none⟩=some (.int .i64 x350000_3):=(blk_cell BK349.out 0).trans rfl;have hcz53_1:wr.cell? ⟨gb349,1,none⟩=some (.int .i64 x350001_3):=(blk_cell BK349.out 1).trans rfl;have hcz53_2:wr.cell? ⟨gb349,2,none⟩=some (.int .i64 x350002_3):=(blk_cell BK349.out 2).trans rfl;have hcz53_3:wr.cell? ⟨gb349,3,none⟩=some (.int .i64 x350003_3):=(blk_cell BK349.out 3).trans rfl;have hcz53_4:wr.cell? ⟨gb349,4,none⟩=some (.int .i64 x350004_3):=(blk_cell BK349.out 4).trans rfl;have hcz53_5:wr.cell? ⟨gb349,5,none⟩=some (.int .i64 x350005_3):=(blk_cell BK349.out 5).trans rfl;have hfz53_0:=blk_frozen BK349.out 0;have hfz53_1:=blk_frozen BK349.out 1;have hfz53_2:=blk_frozen BK349.out 2;have hfz53_3:=blk_frozen BK349.out 3;have hfz53_4:=blk_frozen BK349.out 4;have hfz53_5:=blk_frozen BK349.out 5;go_wp2;refine bodyPost_ret (results_cell_row rfl _ _ gb349 35 #[.int .i64 0,.int .i64 0,.int .i64 0,.int .i64 0,.int .i64 0,.int .i64 20] (0,0) _ rfl (by (with_reducible repeat (first | refine blk_drewN ?_ _ | refine blk_drew ?_ | refine blk_alloc ?_ _));refine blk_put (cs:=#[.int .i64 0,.int .i64 0,.int .i64 0,.int .i64 0,.int .i64 0,.int .i64 x350005_3]) ?_ 5 _ rfl;(with_reducible repeat (first | refine blk_drewN ?_ _ | refine blk_drew ?_ | refine blk_alloc ?_ _));refine blk_put (cs:=#[.int .i64 0,.int .i64 0,.int .i64 0,.int .i64 0,.int .i64 x350004_3,.int .i64 x350005_3]) ?_ 4 _ rfl;(with_reducible repeat (first | refine blk_drewN ?_ _ | refine blk_drew ?_ | refine blk_alloc ?_ _));refine blk_put (cs:=#[.int .i64 0,.int .i64 0,.int .i64 0,.int .i64 x350003_3,.int .i64 x350004_3,.int .i64 x350005_3]) ?_ 3 _ rfl;(with_reducible repeat (first | refine blk_drewN ?_ _ | refine blk_drew ?_ | refine blk_alloc ?_ _));refine blk_put (cs:=#[.int .i64 0,.int .i64 0,.int .i64 x350002_3,.int .i64 x350003_3,.int .i64 x350004_3,.int .i64 x350005_3]) ?_ 2 _ rfl;(with_reducible repeat (first | refine blk_drewN ?_ _ | refine blk_drew ?_ | refine blk_alloc ?_ _));refine blk_put (cs:=#[.int .i64 0,.int .i64 x350001_3,.int .i64 x350002_3,.int .i64 x350003_3,.int .i64 x350004_3,.int .i64 x350005_3]) ?_ 1 _ rfl;(with_reducible repeat (first | refine blk_drewN ?_ _ | refine blk_drew ?_ | refine blk_alloc ?_ _));refine blk_put (cs:=#[.int .i64 x350000_3,.int .i64 x350001_3,.int .i64 x350002_3,.int .i64 x350003_3,.int .i64 x350004_3,.int .i64 x350005_3]) ?_ 0 _ rfl;(with_reducible repeat (first | refine blk_drewN ?_ _ | refine blk_drew ?_ | refine blk_alloc ?_ _));exact BK349.out) Tryz.underlying35 rfl (by kernel_rfl)) rfl ?_;exact ⟨by first | rfl | (simp [errW_none,errW_some] <;> rfl) | (simp only [← hji41];first | rfl | (simp [errW_none,errW_some] <;> rfl)) | (simp [*,errW_none,errW_some] <;> rfl),blw⟩
              ·rw [if_neg c43] at H;exact absurd H (by simp)
             ·rw [if_neg c42] at H;exact absurd H (by simp)
            ·rw [if_neg c40] at H;have c40b0:(x9_3 == 9)=false:=beq_eq_false_iff_ne.mpr c40;have c40b1:(x9_3 != 9)=true:=bne_iff_ne.mpr c40;obtain ⟨ji54,hji54⟩:∃ j_:Int,(wrap64 (x8_14+x9_3))=j_:=⟨_,rfl⟩;replace H:(if 0≤(ji54) then (if (ji54) < (l0.length:Int) then (if (rd l0 (ji54)) > 127 then (some (0,0,0,0,0,20)) else (rzDecode.l0 k3 l0 t355 t358 x8_14 (wrap64 (x9_3+1)) (wrap64 ((wrap64 (rd l0 0)) - 128)) x355001_14 x355002_14 0)) else (none)) else (none))=some (r1,r2,r3,r4,r5,r6):=by first | (rw [hji54] at H;exact H) | (simp only [hji54] at H ⊢;exact H)
             (try rw [hji54] at c37b0);have hji54w:(IntKind.i64.wrap (x8_14+x9_3))=ji54:=(i64_w _).trans hji54;by_cases c55:0≤(ji54)
             ·rw [if_pos c55] at H;have c55b0:decide (0≤(ji54))=true:=decide_eq_true c55;clear c55;by_cases c56:(ji54) < (l0.length:Int)
              ·rw [if_pos c56] at H;have c56b0:decide ((ji54) < (l0.length:Int))=true:=decide_eq_true c56;clear c56;by_cases c57:(rd l0 (ji54)) > 127
               ·rw [if_pos c57] at H;have c57b0:decide (127 < (rd l0 (ji54)))=true:=decide_eq_true c57;clear c57;simp only [Option.some.injEq,Prod.mk.injEq] at H;obtain ⟨rfl,rfl,rfl,rfl,rfl,rfl⟩:=H;have p368:0≤((ji54):Int):=of_decide_eq_true asm;have q368:(ji54) < (l0.length:Int):=of_decide_eq_true asm;obtain ⟨ad368,e368,hx368_0⟩:=Kd.at_int HR0.out (ji54) p368 q368;obtain rfl:ad353=ad368:=(by injection e368);replace hx368_0:=(HB.out.cell (World.block_lt_of_cell? w _ hx368_0)).trans hx368_0;replace p368:=eq_true p368;replace q368:=eq_true q368;have hnb58:=NB349_354.out;have hnc58:=NB354_349.out;have hcz59_0:wr.cell? ⟨gb349,0,none⟩=some (.int .i64 x350000_3):=(blk_cell BK349.out 0).trans rfl;have hcz59_1:wr.cell? ⟨gb349,1,none⟩=some (.int .i64 x350001_3):=(blk_cell BK349.out 1).trans rfl;have hcz59_2:wr.cell? ⟨gb349,2,none⟩=some (.int .i64 x350002_3):=(blk_cell BK349.out 2).trans rfl;have hcz59_3:wr.cell? ⟨gb349,3,none⟩=some (.int .i64 x350003_3):=(blk_cell BK349.out 3).trans rfl;have hcz59_4:wr.cell? ⟨gb349,4,none⟩=some (.int .i64 x350004_3):=(blk_cell BK349.out 4).trans rfl;have hcz59_5:wr.cell? ⟨gb349,5,none⟩=some (.int .i64 x350005_3):=(blk_cell BK349.out 5).trans rfl;have hfz59_0:=blk_frozen BK349.out 0;have hfz59_1:=blk_frozen BK349.out 1;have hfz59_2:=blk_frozen BK349.out 2;have hfz59_3:=blk_frozen BK349.out 3;have hfz59_4:=blk_frozen BK349.out 4;have hfz59_5:=blk_frozen BK349.out 5;go_wp2;refine bodyPost_ret (results_cell_row rfl _ _ gb349 35 #[.int .i64 0,.int .i64 0,.int .i64 0,.int .i64 0,.int .i64 0,.int .i64 20] (0,0) _ rfl (by (with_reducible repeat (first | refine blk_drewN ?_ _ | refine blk_drew ?_ | refine blk_alloc ?_ _));refine blk_put (cs:=#[.int .i64 0,.int .i64 0,.int .i64 0,.int .i64 0,.int .i64 0,.int .i64 x350005_3]) ?_ 5 _ rfl;(with_reducible repeat (first | refine blk_drewN ?_ _ | refine blk_drew ?_ | refine blk_alloc ?_ _));refine blk_put (cs:=#[.int .i64 0,.int .i64 0,.int .i64 0,.int .i64 0,.int .i64 x350004_3,.int .i64 x350005_3]) ?_ 4 _ rfl;(with_reducible repeat (first | refine blk_drewN ?_ _ | refine blk_drew ?_ | refine blk_alloc ?_ _));refine blk_put (cs:=#[.int .i64 0,.int .i64 0,.int .i64 0,.int .i64 x350003_3,.int .i64 x350004_3,.int .i64 x350005_3]) ?_ 3 _ rfl;(with_reducible repeat (first | refine blk_drewN ?_ _ | refine blk_drew ?_ | refine blk_alloc ?_ _));refine blk_put (cs:=#[.int .i64 0,.int .i64 0,.int .i64 x350002_3,.int .i64 x350003_3,.int .i64 x350004_3,.int .i64 x350005_3]) ?_ 2 _ rfl;(with_reducible repeat (first | refine blk_drewN ?_ _ | refine blk_drew ?_ | refine blk_alloc ?_ _));refine blk_put (cs:=#[.int .i64 0,.int .i64 x350001_3,.int .i64 x350002_3,.int .i64 x350003_3,.int .i64 x350004_3,.int .i64 x350005_3]) ?_ 1 _ rfl;(with_reducible repeat (first | refine blk_drewN ?_ _ | refine blk_drew ?_ | refine blk_alloc ?_ _));refine blk_put (cs:=#[.int .i64 x350000_3,.int .i64 x350001_3,.int .i64 x350002_3,.int .i64 x350003_3,.int .i64 x350004_3,.int .i64 x350005_3]) ?_ 0 _ rfl;(with_reducible repeat (first | refine blk_drewN ?_ _ | refine blk_drew ?_ | refine blk_alloc ?_ _));exact BK349.out) Tryz.underlying35 rfl (by kernel_rfl)) rfl ?_;exact ⟨by first | rfl | (simp [errW_none,errW_some] <;> rfl) | (simp only [← hji54];first | rfl | (simp [errW_none,errW_some] <;> rfl)) | (simp [*,errW_none,errW_some] <;> rfl),blw⟩
               ·rw [if_neg c57] at H;have c57b0:decide (127 < (rd l0 (ji54)))=false:=decide_eq_false c57;clear c57;have H':=Aside0.mk H;clear H;have p368:0≤((ji54):Int):=of_decide_eq_true asm;have q368:(ji54) < (l0.length:Int):=of_decide_eq_true asm;obtain ⟨ad368,e368,hx368_0⟩:=Kd.at_int HR0.out (ji54) p368 q368;obtain rfl:ad353=ad368:=(by injection e368);replace hx368_0:=(HB.out.cell (World.block_lt_of_cell? w _ hx368_0)).trans hx368_0;replace p368:=eq_true p368;replace q368:=eq_true q368;go_wp2;go_roundg k3
                case measure=>have:=HJ4.out;have:=HJ14.out;have:=HK3.out;omega
                case rel=>exact ⟨(wrap64 (x9_3+1)),(x350000_3),(x350001_3),(x350002_3),(x350003_3),(x350004_3),(x350005_3),rsd,H',⟨by have:=HJ4.out;have:=HJ14.out;have:=HK3.out;omega⟩,⟨bko⟩,⟨bko⟩,⟨blw⟩⟩
              ·rw [if_neg c56] at H;exact absurd H (by simp)
             ·rw [if_neg c55] at H;exact absurd H (by simp)
          ·rw [if_neg c36] at H;have c36b0:decide (x9_3 < t358)=false:=decide_eq_false c36;clear c36;by_cases c60:t358 > 0
           ·rw [if_pos c60] at H;have c60b0:decide (0 < t358)=true:=decide_eq_true c60;clear c60;by_cases c61:0≤x8_14
            ·rw [if_pos c61] at H;have c61b0:=eq_true c61;have c61b1:decide (0≤x8_14)=true:=decide_eq_true c61;clear c61;by_cases c62:x8_14≤(wrap64 (x8_14+t358))
             ·rw [if_pos c62] at H;have c62b0:=eq_true c62;have c62b1:decide (x8_14≤(wrap64 (x8_14+t358)))=true:=decide_eq_true c62;by_cases c63:(wrap64 (x8_14+t358))≤(l0.length:Int)
              ·rw [if_pos c63] at H;have c63b0:=eq_true c63;have c63b1:decide ((wrap64 (x8_14+t358))≤(l0.length:Int))=true:=decide_eq_true c63;replace H:=Option.bind_eq_some_iff.mp H;obtain ⟨t370,A640,H⟩:=H;replace H:(if t355=10 then (if x8_14 < (l0.length:Int) then (some ((wrap64 ((wrap64 (rd l0 0)) - 128)),x355001_14,x355002_14,wrap64 (rd l0 x8_14),wrap64 (x8_14+t358),0)) else (none)) else (some ((wrap64 ((wrap64 (rd l0 0)) - 128)),x355001_14,x355002_14,t370,wrap64 (x8_14+t358),0)))=some (r1,r2,r3,r4,r5,r6):=H;have A64:=Aside0.mk A640;clear A640;by_cases c65:t355=10
               ·rw [if_pos c65] at H;have c65b0:(t355 == 10)=true:=beq_iff_eq.mpr c65;have c65b1:(t355 != 10)=false:=bne_eq_false_iff_eq.mpr c65;clear c65;by_cases c66:x8_14 < (l0.length:Int)
                ·rw [if_pos c66] at H;have c66b0:decide (x8_14 < (l0.length:Int))=true:=decide_eq_true c66;clear c66;simp only [Option.some.injEq,Prod.mk.injEq] at H;obtain ⟨rfl,rfl,rfl,rfl,rfl,rfl⟩:=H;obtain ⟨i067,hi067,_,hsz67,_⟩:=info_parts info5;obtain ⟨A67,hcut67,hA67,hC67⟩:=print_mid_of (P:=Tryz.prog) (Value.int .u8) 0 24 5 .i64 .i64 Tryz.underlying24 hi067 hsz67 (some ad353) c0 l0 x8_14 (wrap64 (x8_14+t358)) (of_decide_eq_true asm) (by first | omega | exact of_decide_eq_true asm) (of_decide_eq_true asm) HC0.out;have HR369:=Aside0.mk (Kd.C_of_reads (h1:=fun _=>rfl) (hA67 _ (Kd.reads_of_C HR0.out)));have HC369:=Aside0.mk hC67;clear hA67 hC67 hi067 hsz67;go_wp2_with (first | ((with_reducible refine gate_callee (f:=60) rfl ?_);refine goesL_ (some 133) rfl rfl Tryz.func60 (by kernel_rfl) rfl #[.slice A67 ((l0.take ((wrap64 (x8_14+t358)):Int).toNat).drop (x8_14:Int).toNat).length (c0 - x8_14.toNat)] rfl (by (try simp only [List.map_toArray,List.map_cons,List.map_nil]);first | done | (rw [show ((l0.take ((wrap64 (x8_14+t358)):Int).toNat).drop (x8_14:Int).toNat).length=((wrap64 (x8_14+t358)).toNat - x8_14.toNat) from (by rw [List.length_drop,List.length_take];have h_:((wrap64 (x8_14+t358)):Int)≤(l0.length:Int):=of_decide_eq_true asm;omega)] <;> rfl) | rfl | (simp only [List.length_drop,List.length_take];rfl)) ?_;(with_reducible refine (rznumber.calls k3 _ _ ((l0.take ((wrap64 (x8_14+t358)):Int).toNat).drop (x8_14:Int).toNat) t370 _ ?side1 ?side2 A64.out).mono ?_);(case side1=>repeat (first | exact (Kd.C_below HR369.out HB.out) | (with_reducible refine Kd.C_alloc ?_ _) | (with_reducible refine Kd.C_drewN ?_ _) | (with_reducible refine Kd.C_drew ?_)));(case side2=>exact HC369.out);rintro e w' ⟨rfl,⟨nd,rfl⟩⟩;refine ⟨_,rfl,?_⟩;(try (rw [drewN_self wr];generalize hq_:World.drewN wr _=wr;have n0_:Aside0 (wr.heap[gb349]?=some (.cells #[.int .i64 x350000_3,.int .i64 x350001_3,.int .i64 x350002_3,.int .i64 x350003_3,.int .i64 x350004_3,.int .i64 x350005_3] 35 (0,0))):=⟨by rw [← hq_];exact bko⟩;have n1_:Aside0 (wr.heap[gb354]?=some (.cells #[.int .i64 (wrap64 ((wrap64 (rd l0 0)) - 128)),.int .i64 x355001_14,.int .i64 x355002_14,.int .i64 0] 23 (0,0))):=⟨by rw [← hq_];exact bko⟩;have n2_:Aside0 (Below w.heap.size w wr):=⟨by rw [← hq_];exact blw⟩;clear BK349 BK354 HB hq_;have BK349:=n0_;have BK354:=n1_;have HB:=n2_;clear n0_ n1_ n2_));have hnb68:=NB354_349.out;have hnc68:=NB349_354.out;have hcz69_0:wr.cell? ⟨gb354,0,none⟩=some (.int .i64 (wrap64 ((wrap64 (rd l0 0)) - 128))):=(blk_cell BK354.out 0).trans rfl;have hcz69_1:wr.cell? ⟨gb354,1,none⟩=some (.int .i64 x355001_14):=(blk_cell BK354.out 1).trans rfl;have hcz69_2:wr.cell? ⟨gb354,2,none⟩=some (.int .i64 x355002_14):=(blk_cell BK354.out 2).trans rfl;have hcz69_3:wr.cell? ⟨gb354,3,none⟩=some (.int .i64 0):=(blk_cell BK354.out 3).trans rfl;have hfz69_0:=blk_frozen BK354.out 0;have hfz69_1:=blk_frozen BK354.out 1;have hfz69_2:=blk_frozen BK354.out 2;have hfz69_3:=blk_frozen BK354.out 3;have p371:0≤(x8_14:Int):=of_decide_eq_true asm;have q371:x8_14 < (l0.length:Int):=of_decide_eq_true asm;obtain ⟨ad371,e371,hx371_0⟩:=Kd.at_int HR0.out x8_14 p371 q371;obtain rfl:ad353=ad371:=(by injection e371);have hn371_0:ad353.block≠gb354:=Nat.ne_of_lt (Nat.lt_of_lt_of_le (by have:=World.block_lt_of_cell? _ _ hx371_0;first | rwa [add_block] at this | exact this) GW354.out);replace hx371_0:=(HB.out.cell (World.block_lt_of_cell? w _ hx371_0)).trans hx371_0;replace hx371_0:=(cell_far (p:=⟨gb354,3,none⟩) (by first | (rw [add_block];exact hn371_0) | (show (Addr.add _ _).block≠_;rw [add_block];exact hn371_0) | exact hn371_0) (.int .i64 t370)).trans hx371_0;clear hn371_0;replace p371:=eq_true p371;replace q371:=eq_true q371;have hcz70_0:wr.cell? ⟨gb349,0,none⟩=some (.int .i64 x350000_3):=(blk_cell BK349.out 0).trans rfl;have hcz70_1:wr.cell? ⟨gb349,1,none⟩=some (.int .i64 x350001_3):=(blk_cell BK349.out 1).trans rfl;have hcz70_2:wr.cell? ⟨gb349,2,none⟩=some (.int .i64 x350002_3):=(blk_cell BK349.out 2).trans rfl;have hcz70_3:wr.cell? ⟨gb349,3,none⟩=some (.int .i64 x350003_3):=(blk_cell BK349.out 3).trans rfl;have hcz70_4:wr.cell? ⟨gb349,4,none⟩=some (.int .i64 x350004_3):=(blk_cell BK349.out 4).trans rfl;have hcz70_5:wr.cell? ⟨gb349,5,none⟩=some (.int .i64 x350005_3):=(blk_cell BK349.out 5).trans rfl;have hfz70_0:=blk_frozen BK349.out 0;have hfz70_1:=blk_frozen BK349.out 1;have hfz70_2:=blk_frozen BK349.out 2;have hfz70_3:=blk_frozen BK349.out 3;have hfz70_4:=blk_frozen BK349.out 4;have hfz70_5:=blk_frozen BK349.out 5))
                 refine bodyPost_ret (results_cell_row rfl _ _ gb349 35 #[.int .i64 (wrap64 ((wrap64 (rd l0 0)) - 128)),.int .i64 x355001_14,.int .i64 x355002_14,.int .i64 (wrap64 (rd l0 x8_14)),.int .i64 (wrap64 (x8_14+t358)),.int .i64 0] (0,0) _ rfl (by (with_reducible repeat (first | refine blk_drewN ?_ _ | refine blk_drew ?_ | refine blk_alloc ?_ _));refine blk_put (cs:=#[.int .i64 (wrap64 ((wrap64 (rd l0 0)) - 128)),.int .i64 x355001_14,.int .i64 x355002_14,.int .i64 (wrap64 (rd l0 x8_14)),.int .i64 (wrap64 (x8_14+t358)),.int .i64 x350005_3]) ?_ 5 _ rfl;(with_reducible repeat (first | refine blk_drewN ?_ _ | refine blk_drew ?_ | refine blk_alloc ?_ _));refine blk_put (cs:=#[.int .i64 (wrap64 ((wrap64 (rd l0 0)) - 128)),.int .i64 x355001_14,.int .i64 x355002_14,.int .i64 (wrap64 (rd l0 x8_14)),.int .i64 x350004_3,.int .i64 x350005_3]) ?_ 4 _ rfl;(with_reducible repeat (first | refine blk_drewN ?_ _ | refine blk_drew ?_ | refine blk_alloc ?_ _));refine blk_put (cs:=#[.int .i64 (wrap64 ((wrap64 (rd l0 0)) - 128)),.int .i64 x355001_14,.int .i64 x355002_14,.int .i64 x350003_3,.int .i64 x350004_3,.int .i64 x350005_3]) ?_ 3 _ rfl;(with_reducible repeat (first | refine blk_drewN ?_ _ | refine blk_drew ?_ | refine blk_alloc ?_ _));refine blk_put (cs:=#[.int .i64 (wrap64 ((wrap64 (rd l0 0)) - 128)),.int .i64 x355001_14,.int .i64 x350002_3,.int .i64 x350003_3,.int .i64 x350004_3,.int .i64 x350005_3]) ?_ 2 _ rfl;(with_reducible repeat (first | refine blk_drewN ?_ _ | refine blk_drew ?_ | refine blk_alloc ?_ _));refine blk_put (cs:=#[.int .i64 (wrap64 ((wrap64 (rd l0 0)) - 128)),.int .i64 x350001_3,.int .i64 x350002_3,.int .i64 x350003_3,.int .i64 x350004_3,.int .i64 x350005_3]) ?_ 1 _ rfl;(with_reducible repeat (first | refine blk_drewN ?_ _ | refine blk_drew ?_ | refine blk_alloc ?_ _));refine blk_put (cs:=#[.int .i64 x350000_3,.int .i64 x350001_3,.int .i64 x350002_3,.int .i64 x350003_3,.int .i64 x350004_3,.int .i64 x350005_3]) ?_ 0 _ rfl;(with_reducible repeat (first | refine blk_drewN ?_ _ | refine blk_drew ?_ | refine blk_alloc ?_ _));refine blk_far ?_ NB349_354.out _;(with_reducible repeat (first | refine blk_drewN ?_ _ | refine blk_drew ?_ | refine blk_alloc ?_ _));refine blk_far ?_ NB349_354.out _;(with_reducible repeat (first | refine blk_drewN ?_ _ | refine blk_drew ?_ | refine blk_alloc ?_ _));exact BK349.out) Tryz.underlying35 rfl (by kernel_rfl)) rfl ?_;exact ⟨rew,blw⟩
                ·rw [if_neg c66] at H;exact absurd H (by simp)
               ·rw [if_neg c65] at H;have c65b0:(t355 == 10)=false:=beq_eq_false_iff_ne.mpr c65;have c65b1:(t355 != 10)=true:=bne_iff_ne.mpr c65;simp only [Option.some.injEq,Prod.mk.injEq] at H;obtain ⟨rfl,rfl,rfl,rfl,rfl,rfl⟩:=H;obtain ⟨i071,hi071,_,hsz71,_⟩:=info_parts info5;obtain ⟨A71,hcut71,hA71,hC71⟩:=print_mid_of (P:=Tryz.prog) (Value.int .u8) 0 24 5 .i64 .i64 Tryz.underlying24 hi071 hsz71 (some ad353) c0 l0 x8_14 (wrap64 (x8_14+t358)) (of_decide_eq_true asm) (by first | omega | exact of_decide_eq_true asm) (of_decide_eq_true asm) HC0.out;have HR369:=Aside0.mk (Kd.C_of_reads (h1:=fun _=>rfl) (hA71 _ (Kd.reads_of_C HR0.out)));have HC369:=Aside0.mk hC71;clear hA71 hC71 hi071 hsz71;go_wp2_with (first | ((with_reducible refine gate_callee (f:=60) rfl ?_);refine goesL_ (some 133) rfl rfl Tryz.func60 (by kernel_rfl) rfl #[.slice A71 ((l0.take ((wrap64 (x8_14+t358)):Int).toNat).drop (x8_14:Int).toNat).length (c0 - x8_14.toNat)] rfl (by (try simp only [List.map_toArray,List.map_cons,List.map_nil]);first | done | (rw [show ((l0.take ((wrap64 (x8_14+t358)):Int).toNat).drop (x8_14:Int).toNat).length=((wrap64 (x8_14+t358)).toNat - x8_14.toNat) from (by rw [List.length_drop,List.length_take];have h_:((wrap64 (x8_14+t358)):Int)≤(l0.length:Int):=of_decide_eq_true asm;omega)] <;> rfl) | rfl | (simp only [List.length_drop,List.length_take];rfl)) ?_;(with_reducible refine (rznumber.calls k3 _ _ ((l0.take ((wrap64 (x8_14+t358)):Int).toNat).drop (x8_14:Int).toNat) t370 _ ?side1 ?side2 A64.out).mono ?_);(case side1=>repeat (first | exact (Kd.C_below HR369.out HB.out) | (with_reducible refine Kd.C_alloc ?_ _) | (with_reducible refine Kd.C_drewN ?_ _) | (with_reducible refine Kd.C_drew ?_)));(case side2=>exact HC369.out);rintro e w' ⟨rfl,⟨nd,rfl⟩⟩;refine ⟨_,rfl,?_⟩;(try (rw [drewN_self wr];generalize hq_:World.drewN wr _=wr;have n0_:Aside0 (wr.heap[gb349]?=some (.cells #[.int .i64 x350000_3,.int .i64 x350001_3,.int .i64 x350002_3,.int .i64 x350003_3,.int .i64 x350004_3,.int .i64 x350005_3] 35 (0,0))):=⟨by rw [← hq_];exact bko⟩;have n1_:Aside0 (wr.heap[gb354]?=some (.cells #[.int .i64 (wrap64 ((wrap64 (rd l0 0)) - 128)),.int .i64 x355001_14,.int .i64 x355002_14,.int .i64 0] 23 (0,0))):=⟨by rw [← hq_];exact bko⟩;have n2_:Aside0 (Below w.heap.size w wr):=⟨by rw [← hq_];exact blw⟩;clear BK349 BK354 HB hq_;have BK349:=n0_;have BK354:=n1_;have HB:=n2_;clear n0_ n1_ n2_));have hnb72:=NB354_349.out;have hnc72:=NB349_354.out;have hcz73_0:wr.cell? ⟨gb354,0,none⟩=some (.int .i64 (wrap64 ((wrap64 (rd l0 0)) - 128))):=(blk_cell BK354.out 0).trans rfl;have hcz73_1:wr.cell? ⟨gb354,1,none⟩=some (.int .i64 x355001_14):=(blk_cell BK354.out 1).trans rfl;have hcz73_2:wr.cell? ⟨gb354,2,none⟩=some (.int .i64 x355002_14):=(blk_cell BK354.out 2).trans rfl;have hcz73_3:wr.cell? ⟨gb354,3,none⟩=some (.int .i64 0):=(blk_cell BK354.out 3).trans rfl;have hfz73_0:=blk_frozen BK354.out 0;have hfz73_1:=blk_frozen BK354.out 1;have hfz73_2:=blk_frozen BK354.out 2;have hfz73_3:=blk_frozen BK354.out 3;have hcz74_0:wr.cell? ⟨gb349,0,none⟩=some (.int .i64 x350000_3):=(blk_cell BK349.out 0).trans rfl;have hcz74_1:wr.cell? ⟨gb349,1,none⟩=some (.int .i64 x350001_3):=(blk_cell BK349.out 1).trans rfl;have hcz74_2:wr.cell? ⟨gb349,2,none⟩=some (.int .i64 x350002_3):=(blk_cell BK349.out 2).trans rfl;have hcz74_3:wr.cell? ⟨gb349,3,none⟩=some (.int .i64 x350003_3):=(blk_cell BK349.out 3).trans rfl;have hcz74_4:wr.cell? ⟨gb349,4,none⟩=some (.int .i64 x350004_3):=(blk_cell BK349.out 4).trans rfl;have hcz74_5:wr.cell? ⟨gb349,5,none⟩=some (.int .i64 x350005_3):=(blk_cell BK349.out 5).trans rfl;have hfz74_0:=blk_frozen BK349.out 0;have hfz74_1:=blk_frozen BK349.out 1;have hfz74_2:=blk_frozen BK349.out 2;have hfz74_3:=blk_frozen BK349.out 3;have hfz74_4:=blk_frozen BK349.out 4;have hfz74_5:=blk_frozen BK349.out 5))
                refine bodyPost_ret (results_cell_row rfl _ _ gb349 35 #[.int .i64 (wrap64 ((wrap64 (rd l0 0)) - 128)),.int .i64 x355001_14,.int .i64 x355002_14,.int .i64 t370,.int .i64 (wrap64 (x8_14+t358)),.int .i64 0] (0,0) _ rfl (by (with_reducible repeat (first | refine blk_drewN ?_ _ | refine blk_drew ?_ | refine blk_alloc ?_ _));refine blk_put (cs:=#[.int .i64 (wrap64 ((wrap64 (rd l0 0)) - 128)),.int .i64 x355001_14,.int .i64 x355002_14,.int .i64 t370,.int .i64 (wrap64 (x8_14+t358)),.int .i64 x350005_3]) ?_ 5 _ rfl;(with_reducible repeat (first | refine blk_drewN ?_ _ | refine blk_drew ?_ | refine blk_alloc ?_ _));refine blk_put (cs:=#[.int .i64 (wrap64 ((wrap64 (rd l0 0)) - 128)),.int .i64 x355001_14,.int .i64 x355002_14,.int .i64 t370,.int .i64 x350004_3,.int .i64 x350005_3]) ?_ 4 _ rfl;(with_reducible repeat (first | refine blk_drewN ?_ _ | refine blk_drew ?_ | refine blk_alloc ?_ _));refine blk_put (cs:=#[.int .i64 (wrap64 ((wrap64 (rd l0 0)) - 128)),.int .i64 x355001_14,.int .i64 x355002_14,.int .i64 x350003_3,.int .i64 x350004_3,.int .i64 x350005_3]) ?_ 3 _ rfl;(with_reducible repeat (first | refine blk_drewN ?_ _ | refine blk_drew ?_ | refine blk_alloc ?_ _));refine blk_put (cs:=#[.int .i64 (wrap64 ((wrap64 (rd l0 0)) - 128)),.int .i64 x355001_14,.int .i64 x350002_3,.int .i64 x350003_3,.int .i64 x350004_3,.int .i64 x350005_3]) ?_ 2 _ rfl;(with_reducible repeat (first | refine blk_drewN ?_ _ | refine blk_drew ?_ | refine blk_alloc ?_ _));refine blk_put (cs:=#[.int .i64 (wrap64 ((wrap64 (rd l0 0)) - 128)),.int .i64 x350001_3,.int .i64 x350002_3,.int .i64 x350003_3,.int .i64 x350004_3,.int .i64 x350005_3]) ?_ 1 _ rfl;(with_reducible repeat (first | refine blk_drewN ?_ _ | refine blk_drew ?_ | refine blk_alloc ?_ _));refine blk_put (cs:=#[.int .i64 x350000_3,.int .i64 x350001_3,.int .i64 x350002_3,.int .i64 x350003_3,.int .i64 x350004_3,.int .i64 x350005_3]) ?_ 0 _ rfl;(with_reducible repeat (first | refine blk_drewN ?_ _ | refine blk_drew ?_ | refine blk_alloc ?_ _));refine blk_far ?_ NB349_354.out _;(with_reducible repeat (first | refine blk_drewN ?_ _ | refine blk_drew ?_ | refine blk_alloc ?_ _));exact BK349.out) Tryz.underlying35 rfl (by kernel_rfl)) rfl ?_;exact ⟨rew,blw⟩
              ·rw [if_neg c63] at H;exact absurd H (by simp)
             ·rw [if_neg c62] at H;exact absurd H (by simp)
            ·rw [if_neg c61] at H;exact absurd H (by simp)
           ·rw [if_neg c60] at H;have c60b0:decide (0 < t358)=false:=decide_eq_false c60;clear c60;by_cases c75:t355=10
            ·rw [if_pos c75] at H;have c75b0:(t355 == 10)=true:=beq_iff_eq.mpr c75;have c75b1:(t355 != 10)=false:=bne_eq_false_iff_eq.mpr c75;clear c75;by_cases c76:0≤x8_14
             ·rw [if_pos c76] at H;have c76b0:decide (0≤x8_14)=true:=decide_eq_true c76;clear c76;by_cases c77:x8_14 < (l0.length:Int)
              ·rw [if_pos c77] at H;have c77b0:decide (x8_14 < (l0.length:Int))=true:=decide_eq_true c77;clear c77;simp only [Option.some.injEq,Prod.mk.injEq] at H;obtain ⟨rfl,rfl,rfl,rfl,rfl,rfl⟩:=H;have p372:0≤(x8_14:Int):=of_decide_eq_true asm;have q372:x8_14 < (l0.length:Int):=of_decide_eq_true asm;obtain ⟨ad372,e372,hx372_0⟩:=Kd.at_int HR0.out x8_14 p372 q372;obtain rfl:ad353=ad372:=(by injection e372);replace hx372_0:=(HB.out.cell (World.block_lt_of_cell? w _ hx372_0)).trans hx372_0;replace p372:=eq_true p372;replace q372:=eq_true q372;have hnb78:=NB354_349.out;have hnc78:=NB349_354.out;have hcz79_0:wr.cell? ⟨gb354,0,none⟩=some (.int .i64 (wrap64 ((wrap64 (rd l0 0)) - 128))):=(blk_cell BK354.out 0).trans rfl;have hcz79_1:wr.cell? ⟨gb354,1,none⟩=some (.int .i64 x355001_14):=(blk_cell BK354.out 1).trans rfl;have hcz79_2:wr.cell? ⟨gb354,2,none⟩=some (.int .i64 x355002_14):=(blk_cell BK354.out 2).trans rfl;have hcz79_3:wr.cell? ⟨gb354,3,none⟩=some (.int .i64 0):=(blk_cell BK354.out 3).trans rfl;have hfz79_0:=blk_frozen BK354.out 0;have hfz79_1:=blk_frozen BK354.out 1;have hfz79_2:=blk_frozen BK354.out 2;have hfz79_3:=blk_frozen BK354.out 3;have hcz80_0:wr.cell? ⟨gb349,0,none⟩=some (.int .i64 x350000_3):=(blk_cell BK349.out 0).trans rfl;have hcz80_1:wr.cell? ⟨gb349,1,none⟩=some (.int .i64 x350001_3):=(blk_cell BK349.out 1).trans rfl;have hcz80_2:wr.cell? ⟨gb349,2,none⟩=some (.int .i64 x350002_3):=(blk_cell BK349.out 2).trans rfl;have hcz80_3:wr.cell? ⟨gb349,3,none⟩=some (.int .i64 x350003_3):=(blk_cell BK349.out 3).trans rfl;have hcz80_4:wr.cell? ⟨gb349,4,none⟩=some (.int .i64 x350004_3):=(blk_cell BK349.out 4).trans rfl;have hcz80_5:wr.cell? ⟨gb349,5,none⟩=some (.int .i64 x350005_3):=(blk_cell BK349.out 5).trans rfl;have hfz80_0:=blk_frozen BK349.out 0;have hfz80_1:=blk_frozen BK349.out 1;have hfz80_2:=blk_frozen BK349.out 2;have hfz80_3:=blk_frozen BK349.out 3;have hfz80_4:=blk_frozen BK349.out 4;have hfz80_5:=blk_frozen BK349.out 5;go_wp2;refine bodyPost_ret (results_cell_row rfl _ _ gb349 35 #[.int .i64 (wrap64 ((wrap64 (rd l0 0)) - 128)),.int .i64 x355001_14,.int .i64 x355002_14,.int .i64 (wrap64 (rd l0 x8_14)),.int .i64 (wrap64 (x8_14+t358)),.int .i64 0] (0,0) _ rfl (by (with_reducible repeat (first | refine blk_drewN ?_ _ | refine blk_drew ?_ | refine blk_alloc ?_ _));refine blk_put (cs:=#[.int .i64 (wrap64 ((wrap64 (rd l0 0)) - 128)),.int .i64 x355001_14,.int .i64 x355002_14,.int .i64 (wrap64 (rd l0 x8_14)),.int .i64 (wrap64 (x8_14+t358)),.int .i64 x350005_3]) ?_ 5 _ rfl;(with_reducible repeat (first | refine blk_drewN ?_ _ | refine blk_drew ?_ | refine blk_alloc ?_ _));refine blk_put (cs:=#[.int .i64 (wrap64 ((wrap64 (rd l0 0)) - 128)),.int .i64 x355001_14,.int .i64 x355002_14,.int .i64 (wrap64 (rd l0 x8_14)),.int .i64 x350004_3,.int .i64 x350005_3]) ?_ 4 _ rfl;(with_reducible repeat (first | refine blk_drewN ?_ _ | refine blk_drew ?_ | refine blk_alloc ?_ _));refine blk_put (cs:=#[.int .i64 (wrap64 ((wrap64 (rd l0 0)) - 128)),.int .i64 x355001_14,.int .i64 x355002_14,.int .i64 x350003_3,.int .i64 x350004_3,.int .i64 x350005_3]) ?_ 3 _ rfl;(with_reducible repeat (first | refine blk_drewN ?_ _ | refine blk_drew ?_ | refine blk_alloc ?_ _));refine blk_put (cs:=#[.int .i64 (wrap64 ((wrap64 (rd l0 0)) - 128)),.int .i64 x355001_14,.int .i64 x350002_3,.int .i64 x350003_3,.int .i64 x350004_3,.int .i64 x350005_3]) ?_ 2 _ rfl;(with_reducible repeat (first | refine blk_drewN ?_ _ | refine blk_drew ?_ | refine blk_alloc ?_ _));refine blk_put (cs:=#[.int .i64 (wrap64 ((wrap64 (rd l0 0)) - 128)),.int .i64 x350001_3,.int .i64 x350002_3,.int .i64 x350003_3,.int .i64 x350004_3,.int .i64 x350005_3]) ?_ 1 _ rfl;(with_reducible repeat (first | refine blk_drewN ?_ _ | refine blk_drew ?_ | refine blk_alloc ?_ _));refine blk_put (cs:=#[.int .i64 x350000_3,.int .i64 x350001_3,.int .i64 x350002_3,.int .i64 x350003_3,.int .i64 x350004_3,.int .i64 x350005_3]) ?_ 0 _ rfl;(with_reducible repeat (first | refine blk_drewN ?_ _ | refine blk_drew ?_ | refine blk_alloc ?_ _));refine blk_far ?_ NB349_354.out _;(with_reducible repeat (first | refine blk_drewN ?_ _ | refine blk_drew ?_ | refine blk_alloc ?_ _));exact BK349.out) Tryz.underlying35 rfl (by kernel_rfl)) rfl ?_;exact ⟨rew,blw⟩
              ·rw [if_neg c77] at H;exact absurd H (by simp)
             ·rw [if_neg c76] at H;exact absurd H (by simp)
            ·rw [if_neg c75] at H;have c75b0:(t355 == 10)=false:=beq_eq_false_iff_ne.mpr c75;have c75b1:(t355 != 10)=true:=bne_iff_ne.mpr c75;simp only [Option.some.injEq,Prod.mk.injEq] at H;obtain ⟨rfl,rfl,rfl,rfl,rfl,rfl⟩:=H;have hnb81:=NB354_349.out;have hnc81:=NB349_354.out;have hcz82_0:wr.cell? ⟨gb354,0,none⟩=some (.int .i64 (wrap64 ((wrap64 (rd l0 0)) - 128))):=(blk_cell BK354.out 0).trans rfl;have hcz82_1:wr.cell? ⟨gb354,1,none⟩=some (.int .i64 x355001_14):=(blk_cell BK354.out 1).trans rfl;have hcz82_2:wr.cell? ⟨gb354,2,none⟩=some (.int .i64 x355002_14):=(blk_cell BK354.out 2).trans rfl;have hcz82_3:wr.cell? ⟨gb354,3,none⟩=some (.int .i64 0):=(blk_cell BK354.out 3).trans rfl;have hfz82_0:=blk_frozen BK354.out 0;have hfz82_1:=blk_frozen BK354.out 1;have hfz82_2:=blk_frozen BK354.out 2;have hfz82_3:=blk_frozen BK354.out 3;have hcz83_0:wr.cell? ⟨gb349,0,none⟩=some (.int .i64 x350000_3):=(blk_cell BK349.out 0).trans rfl;have hcz83_1:wr.cell? ⟨gb349,1,none⟩=some (.int .i64 x350001_3):=(blk_cell BK349.out 1).trans rfl;have hcz83_2:wr.cell? ⟨gb349,2,none⟩=some (.int .i64 x350002_3):=(blk_cell BK349.out 2).trans rfl;have hcz83_3:wr.cell? ⟨gb349,3,none⟩=some (.int .i64 x350003_3):=(blk_cell BK349.out 3).trans rfl;have hcz83_4:wr.cell? ⟨gb349,4,none⟩=some (.int .i64 x350004_3):=(blk_cell BK349.out 4).trans rfl;have hcz83_5:wr.cell? ⟨gb349,5,none⟩=some (.int .i64 x350005_3):=(blk_cell BK349.out 5).trans rfl;have hfz83_0:=blk_frozen BK349.out 0;have hfz83_1:=blk_frozen BK349.out 1;have hfz83_2:=blk_frozen BK349.out 2;have hfz83_3:=blk_frozen BK349.out 3;have hfz83_4:=blk_frozen BK349.out 4;have hfz83_5:=blk_frozen BK349.out 5;go_wp2;refine bodyPost_ret (results_cell_row rfl _ _ gb349 35 #[.int .i64 (wrap64 ((wrap64 (rd l0 0)) - 128)),.int .i64 x355001_14,.int .i64 x355002_14,.int .i64 0,.int .i64 (wrap64 (x8_14+t358)),.int .i64 0] (0,0) _ rfl (by (with_reducible repeat (first | refine blk_drewN ?_ _ | refine blk_drew ?_ | refine blk_alloc ?_ _));refine blk_put (cs:=#[.int .i64 (wrap64 ((wrap64 (rd l0 0)) - 128)),.int .i64 x355001_14,.int .i64 x355002_14,.int .i64 0,.int .i64 (wrap64 (x8_14+t358)),.int .i64 x350005_3]) ?_ 5 _ rfl;(with_reducible repeat (first | refine blk_drewN ?_ _ | refine blk_drew ?_ | refine blk_alloc ?_ _));refine blk_put (cs:=#[.int .i64 (wrap64 ((wrap64 (rd l0 0)) - 128)),.int .i64 x355001_14,.int .i64 x355002_14,.int .i64 0,.int .i64 x350004_3,.int .i64 x350005_3]) ?_ 4 _ rfl;(with_reducible repeat (first | refine blk_drewN ?_ _ | refine blk_drew ?_ | refine blk_alloc ?_ _));refine blk_put (cs:=#[.int .i64 (wrap64 ((wrap64 (rd l0 0)) - 128)),.int .i64 x355001_14,.int .i64 x355002_14,.int .i64 x350003_3,.int .i64 x350004_3,.int .i64 x350005_3]) ?_ 3 _ rfl;(with_reducible repeat (first | refine blk_drewN ?_ _ | refine blk_drew ?_ | refine blk_alloc ?_ _));refine blk_put (cs:=#[.int .i64 (wrap64 ((wrap64 (rd l0 0)) - 128)),.int .i64 x355001_14,.int .i64 x350002_3,.int .i64 x350003_3,.int .i64 x350004_3,.int .i64 x350005_3]) ?_ 2 _ rfl;(with_reducible repeat (first | refine blk_drewN ?_ _ | refine blk_drew ?_ | refine blk_alloc ?_ _));refine blk_put (cs:=#[.int .i64 (wrap64 ((wrap64 (rd l0 0)) - 128)),.int .i64 x350001_3,.int .i64 x350002_3,.int .i64 x350003_3,.int .i64 x350004_3,.int .i64 x350005_3]) ?_ 1 _ rfl;(with_reducible repeat (first | refine blk_drewN ?_ _ | refine blk_drew ?_ | refine blk_alloc ?_ _));refine blk_put (cs:=#[.int .i64 x350000_3,.int .i64 x350001_3,.int .i64 x350002_3,.int .i64 x350003_3,.int .i64 x350004_3,.int .i64 x350005_3]) ?_ 0 _ rfl;(with_reducible repeat (first | refine blk_drewN ?_ _ | refine blk_drew ?_ | refine blk_alloc ?_ _));exact BK349.out) Tryz.underlying35 rfl (by kernel_rfl)) rfl ?_;exact ⟨rew,blw⟩
     ·rw [if_neg c12] at H;exact absurd H (by simp)
end Go.Proofs.YtffojmgmpfjlhaaGreatDoor.Q
