/- InsnApart: within an encoding no other one begins: the law returns true for every input; the inputs read as they did; the package-level variables hold what the program's text lays in them: the tied card. -/
import Derived.Test.YtffojmgmpfjlhaaGreatDoorInsQ1
import Derived.Test.YtffojmgmpfjlhaaGreatDoorInsQ2
import Derived.Test.YtffojmgmpfjlhaaGreatDoorInsQ3
import Derived.Test.YtffojmgmpfjlhaaGreatDoorInsQ6
import Derived.Test.YtffojmgmpfjlhaaGreatDoorInsQ9
import Derived.Test.YtffojmgmpfjlhaaGreatDoorInsQ10
import Derived.Test.YtffojmgmpfjlhaaGreatDoorInsQ11
import Derived.Test.YtffojmgmpfjlhaaGreatDoorInsQ13
import Derived.Test.YtffojmgmpfjlhaaGreatDoorInsQ14
import Derived.Test.YtffojmgmpfjlhaaGreatDoorInsQ15
import Derived.Test.YtffojmgmpfjlhaaGreatDoorInsQ16
import Derived.Test.YtffojmgmpfjlhaaGreatDoorInsQ17
import Derived.Test.YtffojmgmpfjlhaaGreatDoorInsR1
import Derived.Test.YtffojmgmpfjlhaaGreatDoorInsR2
import Derived.Test.YtffojmgmpfjlhaaGreatDoorInsR4
import Derived.Test.YtffojmgmpfjlhaaGreatDoorInsnApartZ1
import Derived.Test.YtffojmgmpfjlhaaGreatDoorTie
import Derived.Test.YtffojmgmpfjlhaaGreatDoorCards
import Derived.WalkKit
import Derived.ProofKit
import Derived.OpenShut
import Derived.ShutString
import Derived.ChangeOld
import Derived.Below
import Derived.SizedLaws
import Derived.SevenTiedAt
set_option linter.unusedVariables false
set_option linter.unusedSimpArgs false
namespace Go.Proofs.YtffojmgmpfjlhaaGreatDoor.Q
open Go.Proofs.YtffojmgmpfjlhaaGreatDoor Go.RowKit Go.Proofs.YtffojmgmpfjlhaaGreatDoorW.PrintWords Go.Proofs.YtffojmgmpfjlhaaGreatDoorW.PrintLast Go.Proofs.YtffojmgmpfjlhaaGreatDoorW.PrintMore
attribute [local go_sem] max2_int min2_int max_two min_two max_three min_three max_four min_four
mutual
def lzInsnApart.j0:Nat→List Int→Bool→Int→Bool→Option (Bool)
 | 0,_,_,_,_=>none
 | k+1,x0,x3,x5,x28=>if x28=true then (some false) else (lzInsnApart.l0 k x0 x3 x5 1)
def lzInsnApart.l0:Nat→List Int→Bool→Int→Int→Option (Bool)
 | 0,_,_,_,_=>none
 | k+1,x0,x3,x5,x7=>if x7 < x5 then (if 0≤x7 then (if x7≤(x0.length:Int) then ((insn_Decode.f k (x0.drop (x7:Int).toNat)).bind fun bt673=>(if bt673.2.2.2.2.2=20 then (lzInsnApart.l0 k x0 x3 x5 (wrap64 (x7+1))) else (some false))) else (none)) else (none)) else (some x3)
end
def lzInsnApart.f (k:Nat) (l0:List Int):Option (Bool):=(lzsane.f k).bind fun t664=>((insn_Decode.f k l0).bind fun bt665=>(if bt665.2.2.2.2.2=0 then (if bt665.2.2.2.2.1 < 1 then (lzInsnApart.j0 k l0 t664 bt665.2.2.2.2.1 true) else (lzInsnApart.j0 k l0 t664 bt665.2.2.2.2.1 (decide (bt665.2.2.2.2.1 > (l0.length:Int))))) else (some t664)))
theorem lzInsnApart.mono_l:∀ k,(∀ y0 y1 y2 y3,LeO (lzInsnApart.j0 k y0 y1 y2 y3) (lzInsnApart.j0 (k+1) y0 y1 y2 y3))∧(∀ y0 y1 y2 y3,LeO (lzInsnApart.l0 k y0 y1 y2 y3) (lzInsnApart.l0 (k+1) y0 y1 y2 y3))
 | 0=>⟨fun _ _ _ _ r h=>by simp [lzInsnApart.j0] at h,fun _ _ _ _ r h=>by simp [lzInsnApart.l0] at h⟩
 | k+1=>by
  obtain ⟨ih0,ih1⟩:=lzInsnApart.mono_l k;refine ⟨?_,?_⟩
  ·intro y0 y1 y2 y3;unfold lzInsnApart.j0;repeat' first
   | (with_reducible exact ih0 _ _ _ _)
   | (with_reducible exact ih1 _ _ _ _)
   | (with_reducible exact insn_Decode.mono _ _)
   | (with_reducible exact lzsane.mono _)
   | (with_reducible exact LeO.refl _)
   | (with_reducible exact LeO.none _)
   | (with_reducible refine LeO.ite ?_ ?_)
   | (with_reducible refine LeO.bind ?_ (fun _=>?_))
   | exact LeO.none _
   | refine LeO.ite ?_ ?_
   | refine LeO.bind ?_ (fun _=>?_)
  ·intro y0 y1 y2 y3;unfold lzInsnApart.l0;repeat' first
   | (with_reducible exact ih0 _ _ _ _)
   | (with_reducible exact ih1 _ _ _ _)
   | (with_reducible exact insn_Decode.mono _ _)
   | (with_reducible exact lzsane.mono _)
   | (with_reducible exact LeO.refl _)
   | (with_reducible exact LeO.none _)
   | (with_reducible refine LeO.ite ?_ ?_)
   | (with_reducible refine LeO.bind ?_ (fun _=>?_))
   | exact LeO.none _
   | refine LeO.ite ?_ ?_
   | refine LeO.bind ?_ (fun _=>?_)
theorem lzInsnApart.mono:∀ a0 k,LeO (lzInsnApart.f k a0) (lzInsnApart.f (k+1) a0):=by
 intro a0 k;obtain ⟨ih0,ih1⟩:=lzInsnApart.mono_l k;unfold lzInsnApart.f;repeat' first
   | (with_reducible exact ih0 _ _ _ _)
   | (with_reducible exact ih1 _ _ _ _)
   | (with_reducible exact insn_Decode.mono _ _)
   | (with_reducible exact lzsane.mono _)
   | (with_reducible exact LeO.refl _)
   | (with_reducible exact LeO.none _)
   | (with_reducible refine LeO.ite ?_ ?_)
   | (with_reducible refine LeO.bind ?_ (fun _=>?_))
   | exact LeO.none _
   | refine LeO.ite ?_ ?_
   | refine LeO.bind ?_ (fun _=>?_)
set_option maxHeartbeats 8000000 in
set_option maxRecDepth 100000 in
theorem lzInsnApart.calls (k:Nat) (A0:Option Addr) (c0:Nat) (l0:List Int) (r:Bool) (w:World) (hr0:Kd.C (Kd.int .u8) w A0 l0.length l0) (hc0:l0.length≤c0) (h:lzInsnApart.f k l0=some r) (hgw:GW w) :
  Calls Tryz.prog 7 #[.slice A0 l0.length c0] w fun e w'=>e=.returned (.bool r)∧Below w.heap.size w w':=by
 have hu23:=Tryz.underlying23;have HR0:=Aside0.mk hr0;have HC0:=Aside0.mk hc0;clear hr0 hc0;have HB:=Aside0.mk (Below.refl w.heap.size w);have H:((lzsane.f k).bind fun t664=>((insn_Decode.f k l0).bind fun bt665=>(if bt665.2.2.2.2.2=0 then (if bt665.2.2.2.2.1 < 1 then (lzInsnApart.j0 k l0 t664 bt665.2.2.2.2.1 true) else (lzInsnApart.j0 k l0 t664 bt665.2.2.2.2.1 (decide (bt665.2.2.2.2.1 > (l0.length:Int))))) else (some t664))))=some r:=h;clear h;replace H:=Option.bind_eq_some_iff.mp H;obtain ⟨t664,A20,H⟩:=H;replace H:((insn_Decode.f k l0).bind fun bt665=>(if bt665.2.2.2.2.2=0 then (if bt665.2.2.2.2.1 < 1 then (lzInsnApart.j0 k l0 t664 bt665.2.2.2.2.1 true) else (lzInsnApart.j0 k l0 t664 bt665.2.2.2.2.1 (decide (bt665.2.2.2.2.1 > (l0.length:Int))))) else (some t664)))=some r:=H;have A2:=Aside0.mk A20;clear A20;replace H:=Option.bind_eq_some_iff.mp H;obtain ⟨⟨t665,t666,t667,t668,t669,t670⟩,A30,H⟩:=H;replace H:(if t670=0 then (if t669 < 1 then (lzInsnApart.j0 k l0 t664 t669 true) else (lzInsnApart.j0 k l0 t664 t669 (decide (t669 > (l0.length:Int))))) else (some t664))=some r:=H;have A3:=Aside0.mk A30;clear A30;by_cases c4:t670=0
 ·rw [if_pos c4] at H;have c4b0:(t670 == 0)=true:=beq_iff_eq.mpr c4;have c4b1:(t670 != 0)=false:=bne_eq_false_iff_eq.mpr c4;clear c4;have HC5:=Aside0.mk H;clear H;go_enter Tryz.func7,Tryz.ntmps7
  go_upto_region 5 with (first | ((with_reducible refine gate_callee (f:=17) rfl ?_);refine goesL_ (some 11) rfl rfl Tryz.func17 (by kernel_rfl) rfl #[] rfl fq ?_;(with_reducible refine (lzsane.calls k  t664 _ A2.out (by (first | exact hgw | exact hgw.below (by repeat (first | (with_reducible first | exact HB.out | apply below_alloc | apply pw_below_drewN | apply below_drew1 | refine below_set ?_ (by first | assumption | exact Aside0.out (by assumption))) | exact HB.out)) (Nat.le_refl _)))).mono ?_);rintro e w6 ⟨rfl,hb⟩;refine ⟨_,rfl,?_⟩;have n0_:=Aside0.mk (below_step blw hb);clear HB;have HB:=n0_;clear n0_;(try clear hb);(try clear hb2);(try clear hk);(try clear hi)) | ((with_reducible refine gate_callee (f:=22) rfl ?_);refine goesL_ (some 14) rfl rfl Tryz.func22 (by kernel_rfl) rfl #[.slice A0 l0.length c0] rfl fq ?_;(with_reducible refine (insn_Decode.calls k (fun k_=>k_ < w.heap.size) _ _ l0 t665 t666 t667 t668 t669 t670 _ ?side1 A3.out (by (first | exact hgw | exact hgw.below (by repeat (first | (with_reducible first | exact HB.out | apply below_alloc | apply pw_below_drewN | apply below_drew1 | refine below_set ?_ (by first | assumption | exact Aside0.out (by assumption))) | exact HB.out)) (Nat.le_refl _)))).mono ?_);(case side1=>exact Kd.V_mk HC0.out (Kd.F_below (Kd.C_F (Kd.heap_int .u8) HR0.out) blw));rintro e w7 ⟨rfl,hb⟩;refine ⟨_,rfl,?_⟩;have n0_:=Aside0.mk (below_step blw hb);clear HB;have HB:=n0_;clear n0_;(try clear hb);(try clear hb2);(try clear hk);(try clear hi)) | ((with_reducible refine gate_dst (N:=4) rfl ?_);(try (refine gate_guard (by rfl) ?_;dsimp only));refine box_event ?hg (N:=4) ?hd (cs:=#[.int .i64 0,.int .i64 0,.int .i64 0,.int .i64 0]) (t:=23) ?hr ?_;(case hd=>rfl);(case hg=>rfl);(case hr=>first | (go_simp;done) | (go_simp;rfl));intro gb671 hg w8 hbox hb;have n0_:=Aside0.mk (below_step blw hb);have n1_:=Aside0.mk (hbox);have n2_:=Aside0.mk ((by rw [hg];exact (below_size blw):w.heap.size≤gb671));have n3_:=Aside0.mk ((by rw [hg];exact (below_size blw):w.heap.size≤gb671));clear HB;have HB:=n0_;have BK671:=n1_;have GW671:=n2_;have GE671:=n3_;clear n0_ n1_ n2_ n3_;clear hb hbox hg;have hcz9_0:w8.cell? ⟨gb671,0,none⟩=some (.int .i64 0):=(blk_cell BK671.out 0).trans rfl;have hcz9_1:w8.cell? ⟨gb671,1,none⟩=some (.int .i64 0):=(blk_cell BK671.out 1).trans rfl;have hcz9_2:w8.cell? ⟨gb671,2,none⟩=some (.int .i64 0):=(blk_cell BK671.out 2).trans rfl;have hcz9_3:w8.cell? ⟨gb671,3,none⟩=some (.int .i64 0):=(blk_cell BK671.out 3).trans rfl;have hfz9_0:=blk_frozen BK671.out 0;have hfz9_1:=blk_frozen BK671.out 1;have hfz9_2:=blk_frozen BK671.out 2;have hfz9_3:=blk_frozen BK671.out 3))
  (try simp only [Act.put,List.setIfInBounds_toArray,List.set_cons_zero,List.set_cons_succ]);go_cut [28] (fun v28 wc=>∃ (kq:Nat) (x28_4:Bool),v28=.bool x28_4∧Aside0 (lzInsnApart.j0 kq l0 t664 t669 x28_4=some r)∧Aside0 (kq≤k)∧Aside0 (wc.heap[gb671]?=some (.cells #[.int .i64 t665,.int .i64 t666,.int .i64 t667,.int .i64 t668] 23 (0,0)))∧Aside0 (Below w.heap.size w wc))
  case first =>
   have H:=HC5.out;clear HC5;by_cases c10:t669 < 1
   ·rw [if_pos c10] at H;have c10b0:decide (t669 < 1)=true:=decide_eq_true c10;clear c10;(first | rw [c10b0] | (simp only [i64_w,i32_w];rw [c10b0]) | skip);have H':=Aside0.mk H;clear H;go_wp2;go_meet
    case rel=>exact ⟨_,(true),rsd,H',⟨by first | omega | exact Nat.le_refl _⟩,⟨by (with_reducible repeat (first | refine blk_drewN ?_ _ | refine blk_drew ?_ | refine blk_alloc ?_ _));refine blk_put (cs:=#[.int .i64 t665,.int .i64 t666,.int .i64 t667,.int .i64 0]) ?_ 3 _ rfl;(with_reducible repeat (first | refine blk_drewN ?_ _ | refine blk_drew ?_ | refine blk_alloc ?_ _));refine blk_put (cs:=#[.int .i64 t665,.int .i64 t666,.int .i64 0,.int .i64 0]) ?_ 2 _ rfl;(with_reducible repeat (first | refine blk_drewN ?_ _ | refine blk_drew ?_ | refine blk_alloc ?_ _));refine blk_put (cs:=#[.int .i64 t665,.int .i64 0,.int .i64 0,.int .i64 0]) ?_ 1 _ rfl;(with_reducible repeat (first | refine blk_drewN ?_ _ | refine blk_drew ?_ | refine blk_alloc ?_ _));refine blk_put (cs:=#[.int .i64 0,.int .i64 0,.int .i64 0,.int .i64 0]) ?_ 0 _ rfl;(with_reducible repeat (first | refine blk_drewN ?_ _ | refine blk_drew ?_ | refine blk_alloc ?_ _));exact BK671.out⟩,⟨blw⟩⟩
   ·rw [if_neg c10] at H;have c10b0:decide (t669 < 1)=false:=decide_eq_false c10;clear c10;(first | rw [c10b0] | (simp only [i64_w,i32_w];rw [c10b0]) | skip);have H':=Aside0.mk H;clear H;go_wp2;go_meet
    case rel=>exact ⟨_,(decide (t669 > (l0.length:Int))),rsd,H',⟨by first | omega | exact Nat.le_refl _⟩,⟨by (with_reducible repeat (first | refine blk_drewN ?_ _ | refine blk_drew ?_ | refine blk_alloc ?_ _));refine blk_put (cs:=#[.int .i64 t665,.int .i64 t666,.int .i64 t667,.int .i64 0]) ?_ 3 _ rfl;(with_reducible repeat (first | refine blk_drewN ?_ _ | refine blk_drew ?_ | refine blk_alloc ?_ _));refine blk_put (cs:=#[.int .i64 t665,.int .i64 t666,.int .i64 0,.int .i64 0]) ?_ 2 _ rfl;(with_reducible repeat (first | refine blk_drewN ?_ _ | refine blk_drew ?_ | refine blk_alloc ?_ _));refine blk_put (cs:=#[.int .i64 t665,.int .i64 0,.int .i64 0,.int .i64 0]) ?_ 1 _ rfl;(with_reducible repeat (first | refine blk_drewN ?_ _ | refine blk_drew ?_ | refine blk_alloc ?_ _));refine blk_put (cs:=#[.int .i64 0,.int .i64 0,.int .i64 0,.int .i64 0]) ?_ 0 _ rfl;(with_reducible repeat (first | refine blk_drewN ?_ _ | refine blk_drew ?_ | refine blk_alloc ?_ _));exact BK671.out⟩,⟨blw⟩⟩
  case rest =>
   clear HC5;try clear c1
   try clear c2
   try clear p2
   try clear c4
   try clear c4b0
   try clear c4b1
   try clear c7
   try clear c10
   try clear c10b0
   try clear hcz9_0
   try clear hcz9_1
   try clear hcz9_2
   try clear hcz9_3
   try clear hfz9_0
   try clear hfz9_1
   try clear hfz9_2
   try clear hfz9_3
   obtain ⟨kq,x28_4,rfl,HA,HJ4,BK671,HB⟩:=hcut;cases kq with
   | zero=>exact absurd HA.out (by simp [lzInsnApart.j0])
   | succ kj4 =>
    have H:=HA.out;clear HA;simp only [lzInsnApart.j0] at H;by_cases c11:x28_4=true
    ·subst c11;have H1:(some false)=some r:=by rw [if_pos rfl] at H;exact H
     clear H;have H:=H1;clear H1;obtain rfl:=Option.some.inj H;go_wp2;go_ret;exact ⟨rew,blw⟩
    ·replace c11:=Bool.eq_false_iff.mpr c11;subst c11;have H1:(lzInsnApart.l0 kj4 l0 t664 t669 1)=some r:=by rw [if_neg (show ¬ (false=true) by decide)] at H;exact H
     clear H;have H:=H1;clear H1;have H':=Aside0.mk H;clear H;go_wp2;try simp only [Act.put,List.setIfInBounds_toArray,List.set_cons_zero,List.set_cons_succ]
     go_loopg [7] kj4 (fun kq v7 w'=>∃ (x7_2:Int),v7=.int .i64 x7_2∧Aside0 (lzInsnApart.l0 kq l0 t664 t669 x7_2=some r)∧Aside0 (kq≤kj4)∧Aside0 (w'.heap[gb671]?=some (.cells #[.int .i64 t665,.int .i64 t666,.int .i64 t667,.int .i64 t668] 23 (0,0)))∧Aside0 (Below w.heap.size w w'))
     case atStart=>exact ⟨(1),rsd,H',⟨Nat.le_refl _⟩,⟨bko⟩,⟨blw⟩⟩
     case round =>
      clear H';try clear c1
      try clear c2
      try clear p2
      try clear c4
      try clear c4b0
      try clear c4b1
      try clear c7
      try clear c10
      try clear c10b0
      try clear c11
      try clear hcz9_0
      try clear hcz9_1
      try clear hcz9_2
      try clear hcz9_3
      try clear hfz9_0
      try clear hfz9_1
      try clear hfz9_2
      try clear hfz9_3
      try clear p2
      obtain ⟨x7_2,rfl,HA,HK2,BK671,HB⟩:=hrel;cases gk with
      | zero=>exact absurd HA.out (by simp [lzInsnApart.l0])
      | succ k2 =>
       have H:=HA.out;clear HA;simp only [lzInsnApart.l0] at H;by_cases c12:x7_2 < t669
       ·rw [if_pos c12] at H;have c12b0:decide (x7_2 < t669)=true:=decide_eq_true c12;clear c12;by_cases c13:0≤x7_2
        ·rw [if_pos c13] at H;have c13b0:=eq_true c13;have c13b1:decide (0≤x7_2)=true:=decide_eq_true c13;clear c13;by_cases c14:x7_2≤(l0.length:Int)
         ·rw [if_pos c14] at H;have c14b0:=eq_true c14;have c14b1:decide (x7_2≤(l0.length:Int))=true:=decide_eq_true c14;clear c14;replace H:=Option.bind_eq_some_iff.mp H;obtain ⟨⟨t673,t674,t675,t676,t677,t678⟩,A150,H⟩:=H;replace H:(if t678=20 then (lzInsnApart.l0 k2 l0 t664 t669 (wrap64 (x7_2+1))) else (some false))=some r:=H;have A15:=Aside0.mk A150;clear A150;by_cases c16:t678=20
          ·rw [if_pos c16] at H;have c16b0:(t678 == 20)=true:=beq_iff_eq.mpr c16;have c16b1:(t678 != 20)=false:=bne_eq_false_iff_eq.mpr c16;clear c16;have H':=Aside0.mk H;clear H;obtain ⟨i017,hi017,_,hsz17,_⟩:=info_parts info5;obtain ⟨A17,hcut17,hA17,hC17⟩:=print_drop_of (P:=Tryz.prog) (Value.int .u8) 0 24 5 .i64 Tryz.underlying24 hi017 hsz17 A0 c0 l0 x7_2 (of_decide_eq_true asm) (of_decide_eq_true asm) HC0.out;have HR672:=Aside0.mk (Kd.C_of_reads (h1:=fun _=>rfl) (hA17 _ (Kd.reads_of_C HR0.out)));have HC672:=Aside0.mk hC17;clear hA17 hC17 hi017 hsz17;go_wp2_with (first | ((with_reducible refine gate_callee (f:=22) rfl ?_);refine goesL_ (some 38) rfl rfl Tryz.func22 (by kernel_rfl) rfl #[.slice A17 (l0.drop (x7_2:Int).toNat).length (c0 - x7_2.toNat)] rfl (by (try simp only [List.map_toArray,List.map_cons,List.map_nil]);first | done | (rw [show (l0.drop (x7_2:Int).toNat).length=(l0.length - x7_2.toNat) from List.length_drop] <;> rfl) | rfl | (simp only [List.length_drop,List.length_take];rfl)) ?_;(with_reducible refine (insn_Decode.calls k2 (fun k_=>k_ < w.heap.size) _ _ (l0.drop (x7_2:Int).toNat) t673 t674 t675 t676 t677 t678 _ ?side1 A15.out (by (first | exact hgw | exact hgw.below (by repeat (first | (with_reducible first | exact HB.out | apply below_alloc | apply pw_below_drewN | apply below_drew1 | refine below_set ?_ (by first | assumption | exact Aside0.out (by assumption))) | exact HB.out)) (Nat.le_refl _)))).mono ?_);(case side1=>exact Kd.V_mk HC672.out (Kd.F_below (Kd.C_F (Kd.heap_int .u8) HR672.out) blw));rintro e w18 ⟨rfl,hb⟩;refine ⟨_,rfl,?_⟩;have n0_:=Aside0.mk (blk_below (g:=gb671) (o:=.cells #[.int .i64 t665,.int .i64 t666,.int .i64 t667,.int .i64 t668] 23 (0,0)) bko hb);have n1_:=Aside0.mk (below_step blw hb);clear BK671;clear HB;have BK671:=n0_;have HB:=n1_;clear n0_ n1_;(try clear hb);(try clear hb2);(try clear hk);(try clear hi)) | ((with_reducible refine gate_dst (N:=8) rfl ?_);(try (refine gate_guard (by rfl) ?_;dsimp only));refine box_event ?hg (N:=8) ?hd (cs:=#[.int .i64 0,.int .i64 0,.int .i64 0,.int .i64 0]) (t:=23) ?hr ?_;(case hd=>rfl);(case hg=>rfl);(case hr=>first | (go_simp;done) | (go_simp;rfl));intro gb679 hg w19 hbox hb;have n0_:=Aside0.mk (blk_below (g:=gb671) (o:=.cells #[.int .i64 t665,.int .i64 t666,.int .i64 t667,.int .i64 t668] 23 (0,0)) bko hb);have n1_:=Aside0.mk (below_step blw hb);have n2_:=Aside0.mk (hbox);have n3_:=Aside0.mk ((by rw [hg];exact (below_size blw):w.heap.size≤gb679));have n4_:=Aside0.mk ((by rw [hg];exact (below_size blw):w.heap.size≤gb679));have n5_:=Aside0.mk ((by rw [hg];exact Nat.ne_of_lt (blk_lt (g:=gb671) (o:=.cells #[.int .i64 t665,.int .i64 t666,.int .i64 t667,.int .i64 t668] 23 (0,0)) bko):gb671≠gb679));have n6_:=Aside0.mk ((by rw [hg];exact Nat.ne_of_gt (blk_lt (g:=gb671) (o:=.cells #[.int .i64 t665,.int .i64 t666,.int .i64 t667,.int .i64 t668] 23 (0,0)) bko):gb679≠gb671));clear BK671;clear HB;have BK671:=n0_;have HB:=n1_;have BK679:=n2_;have GW679:=n3_;have GE679:=n4_;have NB671_679:=n5_;have NB679_671:=n6_;clear n0_ n1_ n2_ n3_ n4_ n5_ n6_;clear hb hbox hg;have hnb20:=NB679_671.out;have hnc20:=NB671_679.out;have hcz21_0:w19.cell? ⟨gb679,0,none⟩=some (.int .i64 0):=(blk_cell BK679.out 0).trans rfl;have hcz21_1:w19.cell? ⟨gb679,1,none⟩=some (.int .i64 0):=(blk_cell BK679.out 1).trans rfl;have hcz21_2:w19.cell? ⟨gb679,2,none⟩=some (.int .i64 0):=(blk_cell BK679.out 2).trans rfl;have hcz21_3:w19.cell? ⟨gb679,3,none⟩=some (.int .i64 0):=(blk_cell BK679.out 3).trans rfl;have hfz21_0:=blk_frozen BK679.out 0;have hfz21_1:=blk_frozen BK679.out 1;have hfz21_2:=blk_frozen BK679.out 2;have hfz21_3:=blk_frozen BK679.out 3))
           go_roundg k2
           case measure=>have:=HJ4.out;have:=HK2.out;omega
           case rel=>exact ⟨(wrap64 (x7_2+1)),rsd,H',⟨by have:=HJ4.out;have:=HK2.out;omega⟩,⟨by (with_reducible repeat (first | refine blk_drewN ?_ _ | refine blk_drew ?_ | refine blk_alloc ?_ _));refine blk_far ?_ NB671_679.out _;(with_reducible repeat (first | refine blk_drewN ?_ _ | refine blk_drew ?_ | refine blk_alloc ?_ _));refine blk_far ?_ NB671_679.out _;(with_reducible repeat (first | refine blk_drewN ?_ _ | refine blk_drew ?_ | refine blk_alloc ?_ _));refine blk_far ?_ NB671_679.out _;(with_reducible repeat (first | refine blk_drewN ?_ _ | refine blk_drew ?_ | refine blk_alloc ?_ _));refine blk_far ?_ NB671_679.out _;(with_reducible repeat (first | refine blk_drewN ?_ _ | refine blk_drew ?_ | refine blk_alloc ?_ _));exact BK671.out⟩,⟨blw⟩⟩
          ·rw [if_neg c16] at H;have c16b0:(t678 == 20)=false:=beq_eq_false_iff_ne.mpr c16;have c16b1:(t678 != 20)=true:=bne_iff_ne.mpr c16;obtain rfl:=Option.some.inj H;obtain ⟨i022,hi022,_,hsz22,_⟩:=info_parts info5;obtain ⟨A22,hcut22,hA22,hC22⟩:=print_drop_of (P:=Tryz.prog) (Value.int .u8) 0 24 5 .i64 Tryz.underlying24 hi022 hsz22 A0 c0 l0 x7_2 (of_decide_eq_true asm) (of_decide_eq_true asm) HC0.out;have HR672:=Aside0.mk (Kd.C_of_reads (h1:=fun _=>rfl) (hA22 _ (Kd.reads_of_C HR0.out)));have HC672:=Aside0.mk hC22;clear hA22 hC22 hi022 hsz22;go_wp2_with (first | ((with_reducible refine gate_callee (f:=22) rfl ?_);refine goesL_ (some 38) rfl rfl Tryz.func22 (by kernel_rfl) rfl #[.slice A22 (l0.drop (x7_2:Int).toNat).length (c0 - x7_2.toNat)] rfl (by (try simp only [List.map_toArray,List.map_cons,List.map_nil]);first | done | (rw [show (l0.drop (x7_2:Int).toNat).length=(l0.length - x7_2.toNat) from List.length_drop] <;> rfl) | rfl | (simp only [List.length_drop,List.length_take];rfl)) ?_;(with_reducible refine (insn_Decode.calls k2 (fun k_=>k_ < w.heap.size) _ _ (l0.drop (x7_2:Int).toNat) t673 t674 t675 t676 t677 t678 _ ?side1 A15.out (by (first | exact hgw | exact hgw.below (by repeat (first | (with_reducible first | exact HB.out | apply below_alloc | apply pw_below_drewN | apply below_drew1 | refine below_set ?_ (by first | assumption | exact Aside0.out (by assumption))) | exact HB.out)) (Nat.le_refl _)))).mono ?_);(case side1=>exact Kd.V_mk HC672.out (Kd.F_below (Kd.C_F (Kd.heap_int .u8) HR672.out) blw));rintro e w23 ⟨rfl,hb⟩;refine ⟨_,rfl,?_⟩;have n0_:=Aside0.mk (blk_below (g:=gb671) (o:=.cells #[.int .i64 t665,.int .i64 t666,.int .i64 t667,.int .i64 t668] 23 (0,0)) bko hb);have n1_:=Aside0.mk (below_step blw hb);clear BK671;clear HB;have BK671:=n0_;have HB:=n1_;clear n0_ n1_;(try clear hb);(try clear hb2);(try clear hk);(try clear hi)) | ((with_reducible refine gate_dst (N:=8) rfl ?_);(try (refine gate_guard (by rfl) ?_;dsimp only));refine box_event ?hg (N:=8) ?hd (cs:=#[.int .i64 0,.int .i64 0,.int .i64 0,.int .i64 0]) (t:=23) ?hr ?_;(case hd=>rfl);(case hg=>rfl);(case hr=>first | (go_simp;done) | (go_simp;rfl));intro gb679 hg w24 hbox hb;have n0_:=Aside0.mk (blk_below (g:=gb671) (o:=.cells #[.int .i64 t665,.int .i64 t666,.int .i64 t667,.int .i64 t668] 23 (0,0)) bko hb);have n1_:=Aside0.mk (below_step blw hb);have n2_:=Aside0.mk (hbox);have n3_:=Aside0.mk ((by rw [hg];exact (below_size blw):w.heap.size≤gb679));have n4_:=Aside0.mk ((by rw [hg];exact (below_size blw):w.heap.size≤gb679));have n5_:=Aside0.mk ((by rw [hg];exact Nat.ne_of_lt (blk_lt (g:=gb671) (o:=.cells #[.int .i64 t665,.int .i64 t666,.int .i64 t667,.int .i64 t668] 23 (0,0)) bko):gb671≠gb679));have n6_:=Aside0.mk ((by rw [hg];exact Nat.ne_of_gt (blk_lt (g:=gb671) (o:=.cells #[.int .i64 t665,.int .i64 t666,.int .i64 t667,.int .i64 t668] 23 (0,0)) bko):gb679≠gb671));clear BK671;clear HB;have BK671:=n0_;have HB:=n1_;have BK679:=n2_;have GW679:=n3_;have GE679:=n4_;have NB671_679:=n5_;have NB679_671:=n6_;clear n0_ n1_ n2_ n3_ n4_ n5_ n6_;clear hb hbox hg;have hnb25:=NB679_671.out;have hnc25:=NB671_679.out;have hcz26_0:w24.cell? ⟨gb679,0,none⟩=some (.int .i64 0):=(blk_cell BK679.out 0).trans rfl;have hcz26_1:w24.cell? ⟨gb679,1,none⟩=some (.int .i64 0):=(blk_cell BK679.out 1).trans rfl;have hcz26_2:w24.cell? ⟨gb679,2,none⟩=some (.int .i64 0):=(blk_cell BK679.out 2).trans rfl;have hcz26_3:w24.cell? ⟨gb679,3,none⟩=some (.int .i64 0):=(blk_cell BK679.out 3).trans rfl;have hfz26_0:=blk_frozen BK679.out 0;have hfz26_1:=blk_frozen BK679.out 1;have hfz26_2:=blk_frozen BK679.out 2;have hfz26_3:=blk_frozen BK679.out 3))
           go_ret;exact ⟨rew,blw⟩
         ·rw [if_neg c14] at H;exact absurd H (by simp)
        ·rw [if_neg c13] at H;exact absurd H (by simp)
       ·rw [if_neg c12] at H;have c12b0:decide (x7_2 < t669)=false:=decide_eq_false c12;clear c12;obtain rfl:=Option.some.inj H;go_wp2;go_ret;exact ⟨rew,blw⟩
 ·rw [if_neg c4] at H;have c4b0:(t670 == 0)=false:=beq_eq_false_iff_ne.mpr c4;have c4b1:(t670 != 0)=true:=bne_iff_ne.mpr c4;obtain rfl:=Option.some.inj H;go_enter Tryz.func7,Tryz.ntmps7
  go_wp2_with (first | ((with_reducible refine gate_callee (f:=17) rfl ?_);refine goesL_ (some 11) rfl rfl Tryz.func17 (by kernel_rfl) rfl #[] rfl fq ?_;(with_reducible refine (lzsane.calls k  t664 _ A2.out (by (first | exact hgw | exact hgw.below (by repeat (first | (with_reducible first | exact HB.out | apply below_alloc | apply pw_below_drewN | apply below_drew1 | refine below_set ?_ (by first | assumption | exact Aside0.out (by assumption))) | exact HB.out)) (Nat.le_refl _)))).mono ?_);rintro e w27 ⟨rfl,hb⟩;refine ⟨_,rfl,?_⟩;have n0_:=Aside0.mk (below_step blw hb);clear HB;have HB:=n0_;clear n0_;(try clear hb);(try clear hb2);(try clear hk);(try clear hi)) | ((with_reducible refine gate_callee (f:=22) rfl ?_);refine goesL_ (some 14) rfl rfl Tryz.func22 (by kernel_rfl) rfl #[.slice A0 l0.length c0] rfl fq ?_;(with_reducible refine (insn_Decode.calls k (fun k_=>k_ < w.heap.size) _ _ l0 t665 t666 t667 t668 t669 t670 _ ?side1 A3.out (by (first | exact hgw | exact hgw.below (by repeat (first | (with_reducible first | exact HB.out | apply below_alloc | apply pw_below_drewN | apply below_drew1 | refine below_set ?_ (by first | assumption | exact Aside0.out (by assumption))) | exact HB.out)) (Nat.le_refl _)))).mono ?_);(case side1=>exact Kd.V_mk HC0.out (Kd.F_below (Kd.C_F (Kd.heap_int .u8) HR0.out) blw));rintro e w28 ⟨rfl,hb⟩;refine ⟨_,rfl,?_⟩;have n0_:=Aside0.mk (below_step blw hb);clear HB;have HB:=n0_;clear n0_;(try clear hb);(try clear hb2);(try clear hk);(try clear hi)) | ((with_reducible refine gate_dst (N:=4) rfl ?_);(try (refine gate_guard (by rfl) ?_;dsimp only));refine box_event ?hg (N:=4) ?hd (cs:=#[.int .i64 0,.int .i64 0,.int .i64 0,.int .i64 0]) (t:=23) ?hr ?_;(case hd=>rfl);(case hg=>rfl);(case hr=>first | (go_simp;done) | (go_simp;rfl));intro gb671 hg w29 hbox hb;have n0_:=Aside0.mk (below_step blw hb);have n1_:=Aside0.mk (hbox);have n2_:=Aside0.mk ((by rw [hg];exact (below_size blw):w.heap.size≤gb671));have n3_:=Aside0.mk ((by rw [hg];exact (below_size blw):w.heap.size≤gb671));clear HB;have HB:=n0_;have BK671:=n1_;have GW671:=n2_;have GE671:=n3_;clear n0_ n1_ n2_ n3_;clear hb hbox hg;have hcz30_0:w29.cell? ⟨gb671,0,none⟩=some (.int .i64 0):=(blk_cell BK671.out 0).trans rfl;have hcz30_1:w29.cell? ⟨gb671,1,none⟩=some (.int .i64 0):=(blk_cell BK671.out 1).trans rfl;have hcz30_2:w29.cell? ⟨gb671,2,none⟩=some (.int .i64 0):=(blk_cell BK671.out 2).trans rfl;have hcz30_3:w29.cell? ⟨gb671,3,none⟩=some (.int .i64 0):=(blk_cell BK671.out 3).trans rfl;have hfz30_0:=blk_frozen BK671.out 0;have hfz30_1:=blk_frozen BK671.out 1;have hfz30_2:=blk_frozen BK671.out 2;have hfz30_3:=blk_frozen BK671.out 3))
  go_ret;exact ⟨rew,blw⟩
def lzInsnApart.Pure:Prop:=∀ (l0:List Int),l0.length≤maxLen→l0.length * 1≤140737488351232→(∀ x∈l0,(Lit.int .u8 x).wf=true)→∃ k,lzInsnApart.f k l0=some true
theorem lzInsnApart.walk (P:lzInsnApart.Pure) (a0:Option Addr) (len0 cap0:Nat) (z0:List Int) (w:World) (w0:(a0=none∧len0=0∧cap0=0∧z0=[])∨∃ x,a0=some x∧len0≤cap0∧cap0≤maxLen∧z0.length=cap0∧(∀ i,i < z0.length→w.cell? (x.add i)=some (.int .u8 (z0.getD i 0)))∧∀ n∈z0,(Lit.int .u8 n).wf=true) (y0:len0 * 1≤140737488351232) (hgw:GW w) :
  Calls Tryz.prog 7 #[.slice a0 len0 cap0] w fun e w'=>e=.returned (.bool true)∧Below w.heap.size w w':=by
 obtain ⟨l0,rfl,hr0,hm0,hw0,hc0⟩:=ReadsInt.ofRowC w0;obtain ⟨k,h⟩:=P l0 hm0 y0 hw0;refine (lzInsnApart.calls k _ _ l0 true w (Kd.C_of_reads (d:=(0:Int)) (h1:=fun _=>rfl) hr0) hc0 h (by (first | exact hgw | exact hgw.below (by repeat (first | (with_reducible first | exact HB.out | apply below_alloc | apply pw_below_drewN | apply below_drew1 | refine below_set ?_ (by first | assumption | exact Aside0.out (by assumption))) | exact HB.out)) (Nat.le_refl _)))).mono ?_;rintro e w' ⟨rfl,hd⟩;exact ⟨rfl,hd⟩
end Go.Proofs.YtffojmgmpfjlhaaGreatDoor.Q
namespace Go.Proofs.YtffojmgmpfjlhaaGreatDoor.Q
open Go.Proofs.Ix hiding rd
open Go.Proofs.YtffojmgmpfjlhaaGreatDoor Go.RowKit Go.Proofs.YtffojmgmpfjlhaaGreatDoorW.PrintWords
theorem nameM_low {op:Int} (h:op < 1):nameM op=[]:=by
 unfold nameM kindM
 rw [if_neg (by omega),if_pos (Or.inl h)]
theorem dec_low {l:List Int} (hb:Byt l) (h0:0 < l.length) (h:rd l 0 < 128):decD l=errD 20:=by
 have hr:=hb.at (i:=0) h0
 have hr:0≤rd l 0∧rd l 0 < 256:=hr
 have:opD l < 1:=by unfold opD;simp only [wrap64];omega
 unfold decD
 rw [if_neg (by omega),if_pos (nameM_low this)]
theorem apart_l0 (l:List Int) (hb:Byt l) (hl:l.length≤140737488351232) (n:Nat) (hn:n≤12) (hnl:n≤l.length) (hlow:∀ j:Nat,1≤j→j < n→rd l (j:Int) < 128) :
  ∀ (d i k:Nat),1≤i→i+d=n→d+100 < k→lzInsnApart.l0 k l true (n:Int) (i:Int)=some true
 | 0,i,k,h1,h2,h3=>by
  obtain ⟨k,rfl⟩:∃ m,k=m+1:=⟨k - 1,by omega⟩
  rw [lzInsnApart.l0,if_neg (by omega)]
 | d+1,i,k,h1,h2,h3=>by
  obtain ⟨k,rfl⟩:∃ m,k=m+60+1:=⟨k - 61,by omega⟩
  have hd:decD (l.drop i)=errD 20:=by
   refine dec_low (hb.drop i) (by simp;omega) ?_
   have:=rd_drop l i 0
   rw [show ((0:Nat):Int)=0 from rfl] at this
   rw [this]
   exact hlow i h1 (by omega)
  rw [lzInsnApart.l0,if_pos (by omega),if_pos (by omega),if_pos (by omega),Int.toNat_natCast,decode_f _ (by simp;omega),Option.bind_some,hd,if_pos (show (errD 20).2.2.2.2.2=20 from rfl),wrap_succ (by omega)]
  exact apart_l0 l hb hl n hn hnl hlow d (i+1) _ (by omega) (by omega) (by omega)
theorem InsnApart_pure:lzInsnApart.Pure:=by
 intro l _ hl hb
 refine ⟨200,?_⟩
 unfold lzInsnApart.f
 rw [sane_true 100,Option.bind_some,decode_f l (by omega) 140,Option.bind_some]
 by_cases h:(decD l).2.2.2.2.2=0
 ·rw [if_pos h]
  obtain ⟨n,hn,h1,h12,hnl,hlow⟩:=dec_ok h
  rw [hn,if_neg (by omega)]
  show lzInsnApart.j0 (199+1) _ _ _ _=_
  rw [lzInsnApart.j0,if_neg (by simp;omega)]
  exact apart_l0 l hb (by omega) n h12 hnl hlow (n - 1) 1 199 (by omega) (by omega) (by omega)
 ·rw [if_neg h]
end Go.Proofs.YtffojmgmpfjlhaaGreatDoor.Q
namespace Go.Proofs.YtffojmgmpfjlhaaGreatDoor.insnApart
open Go.ChangeShapes Go.WideShapes Go.ChangeAt Go.RowKit
open Go.ChangeMaps (open_string shut_string)
set_option maxRecDepth 100000 in
theorem lifted (os:Os) (started:os.Started) (H:Type) (enc:TypeId × Value→H) :
  ReturnsInHanded {} Tryz.checked os 7 .any (fun w args=>(Rows.insnApartSpec.pre enc Tryz.prog Tryz.f7 [] false w args∧laidMetH Tryz.prog insnLaid w)∧sizedMet enc Tryz.prog Tryz.f7 (OpenSpec.ofChange Rows.insnApartSpec) false w args)
   (Rows.insnApartSpec.post enc Tryz.prog Tryz.f7 false true false false):=by
 refine handed_and_shaped (C:=Tryz.checked) (X:=fun w _=>laidMetH Tryz.prog insnLaid w) (fun _ _ _ hh h=>h.of_heap hh) own started (by kernel_rfl) Tryz.func7
  (ChangeSpec.witness_shaped (enc:=enc) (C:=Tryz.checked) (os:=os) (X:=fun w _=>laidMetH Tryz.prog insnLaid w) false (World.laidAll Tryz.prog os insnLaid) #[.slice none 0 0] 8 rfl (laid_shaped os) (by kernel_rfl) (by kernel_rfl) (by kernel_rfl) (laid_met os _)) ?_
 intro W base args ds gs before hval0 hW hcnd hsz0 hL hsh _
 have hgw:=of_laid hL hsh
 clear hL hsh
 have hsz:(DataW.weightsEach Tryz.prog (Tryz.f7.params.toList ++ Rows.insnApartSpec.plain.varTypes Tryz.prog) (ds ++ gs)).all (·≤reachBytes)=true:=hsz0
 have hval:∀ (j:Nat) t v,Tryz.f7.params[j]?=some t→args[j]?=some v→Value.okWide Tryz.prog W .any base t v:=hval0
 have hW':=hW
 obtain ⟨p,q,hA0,hV,rfl,hfz,hnd⟩:=hW
 have hA:DataW.TrodAll enc Tryz.prog W 0 (fun _=>true) true Tryz.f7.params.toList args.toList ds p:=hA0
 rw [Tryz.params7] at hA hval hsz
 obtain ⟨v0,vs0,d0,ds0,p0,q0,hargs,rfl,rfl,h0,r0⟩:=trodAll_cons hA
 obtain ⟨rfl,rfl,rfl⟩:=trodAll_nil r0
 obtain rfl:args=#[v0]:=by cases args;simp_all
 obtain ⟨rfl,rfl⟩:=trodVars_none hV
 have k0:=h0
 have lt0:∀ x∈p0,x.block < W.heap.size:=by obtain ⟨m,hm⟩:=k0;exact DataW.trod_lt m _ _ _ hm
 obtain ⟨a0,len0,cap0,z0,rfl,w0,y0⟩:=Q.open_bytes (hval 0 24 v0 rfl rfl) h0 hsz (j:=0) rfl rfl
 clear hA0 hval0 hsz0 hsz
 refine (Q.lzInsnApart.walk Q.InsnApart_pure a0 len0 cap0 z0 W w0 y0 hgw).mono fun e W' ⟨he,bel⟩=>?_
 subst he
 exact ⟨_,rfl,_,_,_,[],_,[],hW',trodAll_mk1 (shut_bool Tryz.underlying4 _),(trodAll_cons_mk (Below.trod Q.laidOut (by kernel_rfl) (of_decide_eq_true (by kernel_rfl)) k0 bel lt0) trodAll_mk0),rfl,bel.frame _,fun h=>by cases h⟩
theorem over:Rows.InsnApartSaid :=
 OpenClaim.holds_of_wide 7 Tryz.f7 rfl rfl rfl rfl rfl rfl rfl ⟨rfl,rfl,rfl,rfl,rfl⟩ rfl rfl rfl rfl rfl (by kernel_rfl) Tryz.func7 (by kernel_rfl)
  (of_decide_eq_true (by kernel_rfl)) (by unfold Func.isWrapper;first | (rw [if_pos (by decide +kernel)];kernel_rfl) | (rw [if_neg (by decide +kernel)];exact ⟨rfl,rfl⟩))
  (fun os started H enc _=>lifted os started H enc)
end Go.Proofs.YtffojmgmpfjlhaaGreatDoor.insnApart
namespace Go.Proofs.YtffojmgmpfjlhaaGreatDoor
theorem insnApart_card:Rows.InsnApartCardSaid :=
 Claim7.holds_tied_plain_at .later [] [.data,.data,.data,.data,.sentinel,.sentinel,.data,.pinned] true (true, "80711ac449649a074bc558eb23188a5f300da04a61053c1048030e6933e8af92") true
  insnApart.over (fun _ h=>by cases h) (by kernel_rfl) (fun _ h=>by cases h) insnApart_row_tie rfl ⟨rfl,rfl⟩ (by kernel_rfl) rfl
  (fun f fn hf hfn=>by
   obtain rfl:f=7:=Option.some.inj ((show Tryz.prog.funcNamed "tapline/taplinelaw02.InsnApart" = some 7 by kernel_rfl).symm.trans hf) |>.symm
   obtain rfl:fn=Tryz.f7:=(Option.some.inj (Tryz.func7.symm.trans hfn)).symm
   exact ⟨by kernel_rfl,fun j t ht=>by
    rw [Tryz.params7] at ht
    have hm:t∈[24]:=by simpa using Array.mem_of_getElem? ht
    have hall:([24].all fun u=>!Tryz.prog.wantsStandIn u)=true:=by kernel_rfl
    exact (show Tryz.prog.wantsStandIn t=false by simpa using List.all_eq_true.1 hall t hm)⟩)
  (by kernel_rfl)
#print axioms insnApart_card
end Go.Proofs.YtffojmgmpfjlhaaGreatDoor
