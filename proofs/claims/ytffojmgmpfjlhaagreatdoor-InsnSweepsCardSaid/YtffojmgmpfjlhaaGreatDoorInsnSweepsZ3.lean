/- InsnSweeps: Sweep returns what the specification returns: the law returns true for every input; the inputs read as they did; the package-level variables hold what the program's text lays in them: the tied card. -/
import Derived.Test.YtffojmgmpfjlhaaGreatDoorInsQ1
import Derived.Test.YtffojmgmpfjlhaaGreatDoorInsQ2
import Derived.Test.YtffojmgmpfjlhaaGreatDoorInsQ3
import Derived.Test.YtffojmgmpfjlhaaGreatDoorInsQ9
import Derived.Test.YtffojmgmpfjlhaaGreatDoorInsQ10
import Derived.Test.YtffojmgmpfjlhaaGreatDoorInsQ11
import Derived.Test.YtffojmgmpfjlhaaGreatDoorInsQ13
import Derived.Test.YtffojmgmpfjlhaaGreatDoorInsQ14
import Derived.Test.YtffojmgmpfjlhaaGreatDoorInsQ15
import Derived.Test.YtffojmgmpfjlhaaGreatDoorInsQ16
import Derived.Test.YtffojmgmpfjlhaaGreatDoorInsQ17
import Derived.Test.YtffojmgmpfjlhaaGreatDoorInsR1
import Derived.Test.YtffojmgmpfjlhaaGreatDoorInsR4
import Derived.Test.YtffojmgmpfjlhaaGreatDoorInsnSweepsZ1
import Derived.Test.YtffojmgmpfjlhaaGreatDoorInsnSweepsZ2
import Derived.Test.YtffojmgmpfjlhaaGreatDoorTie
import Derived.Test.YtffojmgmpfjlhaaGreatDoorCards
import Derived.WalkKit
import Derived.ProofKit
import Derived.OpenShut
import Derived.ShutString
import Derived.ChangeOld
import Derived.Below
import Derived.SizedLaws
import Derived.SevenTiedAt
set_option linter.unusedVariables false
set_option linter.unusedSimpArgs false
namespace Go.Proofs.YtffojmgmpfjlhaaGreatDoor.Q
open Go.Proofs.YtffojmgmpfjlhaaGreatDoor Go.RowKit Go.Proofs.YtffojmgmpfjlhaaGreatDoorW.PrintWords Go.Proofs.YtffojmgmpfjlhaaGreatDoorW.PrintLast Go.Proofs.YtffojmgmpfjlhaaGreatDoorW.PrintMore
attribute [local go_sem] max2_int min2_int max_two min_two max_three min_three max_four min_four
def lzsameInts.l0:Nat→List Int→List Int→Int→Option (Bool)
 | 0,_,_,_=>none
 | k+1,x0,x1,x5=>if x5 < (x0.length:Int) then (if 0≤x5 then (if x5 < (x1.length:Int) then (if (rd x0 x5)=(rd x1 x5) then (lzsameInts.l0 k x0 x1 (wrap64 (x5+1))) else (some false)) else (none)) else (none)) else (some true)
def lzsameInts.f (k:Nat) (l0:List Int) (l1:List Int):Option (Bool):=if (l0.length:Int)=(l1.length:Int) then (lzsameInts.l0 k l0 l1 0) else (some false)
theorem lzsameInts.mono_l:∀ k,(∀ y0 y1 y2,LeO (lzsameInts.l0 k y0 y1 y2) (lzsameInts.l0 (k+1) y0 y1 y2))
 | 0=>fun _ _ _ r h=>by simp [lzsameInts.l0] at h
 | k+1=>by
  have ih0:=lzsameInts.mono_l k
  ·intro y0 y1 y2;unfold lzsameInts.l0;repeat' first
   | (with_reducible exact ih0 _ _ _)
   | (with_reducible exact LeO.refl _)
   | (with_reducible exact LeO.none _)
   | (with_reducible refine LeO.ite ?_ ?_)
   | (with_reducible refine LeO.bind ?_ (fun _=>?_))
   | exact LeO.none _
   | refine LeO.ite ?_ ?_
   | refine LeO.bind ?_ (fun _=>?_)
theorem lzsameInts.mono:∀ a0 a1 k,LeO (lzsameInts.f k a0 a1) (lzsameInts.f (k+1) a0 a1):=by
 intro a0 a1 k;have ih0:=lzsameInts.mono_l k;unfold lzsameInts.f;repeat' first
   | (with_reducible exact ih0 _ _ _)
   | (with_reducible exact LeO.refl _)
   | (with_reducible exact LeO.none _)
   | (with_reducible refine LeO.ite ?_ ?_)
   | (with_reducible refine LeO.bind ?_ (fun _=>?_))
   | exact LeO.none _
   | refine LeO.ite ?_ ?_
   | refine LeO.bind ?_ (fun _=>?_)
set_option maxHeartbeats 8000000 in
set_option maxRecDepth 100000 in
theorem lzsameInts.calls (k:Nat) (A0:Option Addr) (c0:Nat) (l0:List Int) (A1:Option Addr) (c1:Nat) (l1:List Int) (r:Bool) (w:World) (hr0:Kd.C (Kd.int .i64) w A0 l0.length l0) (hc0:l0.length≤c0) (hr1:Kd.C (Kd.int .i64) w A1 l1.length l1) (hc1:l1.length≤c1) (h:lzsameInts.f k l0 l1=some r) :
  Calls Tryz.prog 35 #[.slice A0 l0.length c0,.slice A1 l1.length c1] w fun e w'=>e=.returned (.bool r)∧Drawn0 w w':=by
 have HR0:=Aside0.mk hr0;have HC0:=Aside0.mk hc0;clear hr0 hc0;have HR1:=Aside0.mk hr1;have HC1:=Aside0.mk hc1;clear hr1 hc1;have H:(if (l0.length:Int)=(l1.length:Int) then (lzsameInts.l0 k l0 l1 0) else (some false))=some r:=h;clear h;by_cases c3:(l0.length:Int)=(l1.length:Int)
 ·rw [if_pos c3] at H;have c3b0:((l0.length:Int) == (l1.length:Int))=true:=beq_iff_eq.mpr c3;have c3b1:((l0.length:Int) != (l1.length:Int))=false:=bne_eq_false_iff_eq.mpr c3;have c3b2:(l0.length == l1.length)=true:=by first | simpa using c3 | (simp at c3 ⊢;omega)
  clear c3;have H':=Aside0.mk H;clear H;go_enter Tryz.func35,Tryz.ntmps35
  go_wp2;repeat (go_quiet (fail);try go_wp2)
  try simp only [Act.put,List.setIfInBounds_toArray,List.set_cons_zero,List.set_cons_succ]
  go_loopg [5] k (fun kq v5 w'=>∃ (x5_1:Int),v5=.int .i64 x5_1∧Aside0 (lzsameInts.l0 kq l0 l1 x5_1=some r)∧Aside0 (kq≤k)∧Drawn0 w w')
  case atStart=>exact ⟨(0),rsd,H',⟨Nat.le_refl _⟩,by repeat (first | exact Drawn0.refl _ | apply Drawn0.step)⟩
  case round =>
   clear H';try clear c1
   try clear p2
   try clear c3
   try clear c3b0
   try clear c3b1
   try clear c3b2
   obtain ⟨x5_1,rfl,HA,HK1,⟨m1,rfl⟩⟩:=hrel;cases gk with
   | zero=>exact absurd HA.out (by simp [lzsameInts.l0])
   | succ k1 =>
    have H:=HA.out;clear HA;simp only [lzsameInts.l0] at H;by_cases c4:x5_1 < (l0.length:Int)
    ·rw [if_pos c4] at H;have c4b0:decide (x5_1 < (l0.length:Int))=true:=decide_eq_true c4;clear c4;by_cases c5:0≤x5_1
     ·rw [if_pos c5] at H;have c5b0:decide (0≤x5_1)=true:=decide_eq_true c5;clear c5;by_cases c6:x5_1 < (l1.length:Int)
      ·rw [if_pos c6] at H;have c6b0:decide (x5_1 < (l1.length:Int))=true:=decide_eq_true c6;clear c6;by_cases c7:(rd l0 x5_1)=(rd l1 x5_1)
       ·rw [if_pos c7] at H;have c7b0:((rd l0 x5_1) == (rd l1 x5_1))=true:=beq_iff_eq.mpr c7;have c7b1:((rd l0 x5_1) != (rd l1 x5_1))=false:=bne_eq_false_iff_eq.mpr c7;clear c7;have H':=Aside0.mk H;clear H;have p806:0≤(x5_1:Int):=of_decide_eq_true asm;have q806:x5_1 < (l0.length:Int):=of_decide_eq_true asm;obtain ⟨ad806,e806,hx806_0⟩:=Kd.at_int HR0.out x5_1 p806 q806;cases e806;replace p806:=eq_true p806;replace q806:=eq_true q806;have p807:0≤(x5_1:Int):=of_decide_eq_true asm;have q807:x5_1 < (l1.length:Int):=of_decide_eq_true asm;obtain ⟨ad807,e807,hx807_0⟩:=Kd.at_int HR1.out x5_1 p807 q807;cases e807;replace p807:=eq_true p807;replace q807:=eq_true q807;go_wp2;repeat (go_quiet (fail);try go_wp2)
        go_roundg k1
        case measure=>have:=HK1.out;omega
        case rel=>exact ⟨(wrap64 (x5_1+1)),rsd,H',⟨by have:=HK1.out;omega⟩,by repeat (first | exact Drawn0.refl _ | apply Drawn0.step)⟩
       ·rw [if_neg c7] at H;have c7b0:((rd l0 x5_1) == (rd l1 x5_1))=false:=beq_eq_false_iff_ne.mpr c7;have c7b1:((rd l0 x5_1) != (rd l1 x5_1))=true:=bne_iff_ne.mpr c7;obtain rfl:=Option.some.inj H;have p806:0≤(x5_1:Int):=of_decide_eq_true asm;have q806:x5_1 < (l0.length:Int):=of_decide_eq_true asm;obtain ⟨ad806,e806,hx806_0⟩:=Kd.at_int HR0.out x5_1 p806 q806;cases e806;replace p806:=eq_true p806;replace q806:=eq_true q806;have p807:0≤(x5_1:Int):=of_decide_eq_true asm;have q807:x5_1 < (l1.length:Int):=of_decide_eq_true asm;obtain ⟨ad807,e807,hx807_0⟩:=Kd.at_int HR1.out x5_1 p807 q807;cases e807;replace p807:=eq_true p807;replace q807:=eq_true q807;go_wp2;repeat (go_quiet (fail);try go_wp2)
        go_ret;exact ⟨by first | rfl | (simp;done) | (simp [*];done),by repeat (first | exact Drawn0.refl _ | apply Drawn0.step)⟩
      ·rw [if_neg c6] at H;exact absurd H (by simp)
     ·rw [if_neg c5] at H;exact absurd H (by simp)
    ·rw [if_neg c4] at H;have c4b0:decide (x5_1 < (l0.length:Int))=false:=decide_eq_false c4;clear c4;obtain rfl:=Option.some.inj H;go_wp2;repeat (go_quiet (fail);try go_wp2)
     go_ret;exact ⟨by first | rfl | (simp;done) | (simp [*];done),by repeat (first | exact Drawn0.refl _ | apply Drawn0.step)⟩
 ·rw [if_neg c3] at H;have c3b0:((l0.length:Int) == (l1.length:Int))=false:=beq_eq_false_iff_ne.mpr c3;have c3b1:((l0.length:Int) != (l1.length:Int))=true:=bne_iff_ne.mpr c3;have c3b2:(l0.length == l1.length)=false:=by first | simpa using c3 | (simp at c3 ⊢;omega)
  obtain rfl:=Option.some.inj H;go_enter Tryz.func35,Tryz.ntmps35
  go_wp2;repeat (go_quiet (fail);try go_wp2)
  go_ret;exact ⟨by first | rfl | (simp;done) | (simp [*];done),by repeat (first | exact Drawn0.refl _ | apply Drawn0.step)⟩
end Go.Proofs.YtffojmgmpfjlhaaGreatDoor.Q
namespace Go.Proofs.YtffojmgmpfjlhaaGreatDoor.Q
open Go.Proofs.YtffojmgmpfjlhaaGreatDoor Go.RowKit Go.Proofs.YtffojmgmpfjlhaaGreatDoorW.PrintWords Go.Proofs.YtffojmgmpfjlhaaGreatDoorW.PrintLast Go.Proofs.YtffojmgmpfjlhaaGreatDoorW.PrintMore
attribute [local go_sem] max2_int min2_int max_two min_two max_three min_three max_four min_four
attribute [local go_sem high] eqA23
mutual
def lzInsnSweeps.j0:Nat→Bool→List (S23)→Bool→List (S23)→List Int→Int→Option (Bool)
 | 0,_,_,_,_,_,_=>none
 | k+1,x3,x4,x36,x824000,x824001,x824002=>if x36=true then (some false) else (lzInsnSweeps.l0 k x3 x4 0 x824000 x824001 x824002)
def lzInsnSweeps.l0:Nat→Bool→List (S23)→Int→List (S23)→List Int→Int→Option (Bool)
 | 0,_,_,_,_,_,_=>none
 | k+1,x3,x4,x8,x824000,x824001,x824002=>if x8 < (x4.length:Int) then (if 0≤x8 then (if x8 < (x824000.length:Int) then (if (!(((rd_T23 x4 x8).f0) == ((rd_T23 x824000 x8).f0)) || (!(((rd_T23 x4 x8).f1) == ((rd_T23 x824000 x8).f1)) || (!(((rd_T23 x4 x8).f2) == ((rd_T23 x824000 x8).f2)) || (!(((rd_T23 x4 x8).f3) == ((rd_T23 x824000 x8).f3))))))=true then (some false) else (lzInsnSweeps.l0 k x3 x4 (wrap64 (x8+1)) x824000 x824001 x824002)) else (none)) else (none)) else (some x3)
end
def lzInsnSweeps.f (k:Nat) (l0:List Int):Option (Bool):=(lzsane.f k).bind fun t808=>((insn_Sweep.f k l0).bind fun bt809=>((rzSweep.f k l0).bind fun bt816=>(if bt809.2.2=bt816.2.2 then (if (bt809.1.length:Int)=(bt816.1.length:Int) then ((lzsameInts.f k bt809.2.1 bt816.2.1).bind fun t824=>(lzInsnSweeps.j0 k t808 bt809.1 (!t824) bt816.1 bt816.2.1 bt816.2.2)) else (lzInsnSweeps.j0 k t808 bt809.1 true bt816.1 bt816.2.1 bt816.2.2)) else (lzInsnSweeps.j0 k t808 bt809.1 true bt816.1 bt816.2.1 bt816.2.2))))
theorem lzInsnSweeps.mono_l:∀ k,(∀ y0 y1 y2 y3 y4 y5,LeO (lzInsnSweeps.j0 k y0 y1 y2 y3 y4 y5) (lzInsnSweeps.j0 (k+1) y0 y1 y2 y3 y4 y5))∧(∀ y0 y1 y2 y3 y4 y5,LeO (lzInsnSweeps.l0 k y0 y1 y2 y3 y4 y5) (lzInsnSweeps.l0 (k+1) y0 y1 y2 y3 y4 y5))
 | 0=>⟨fun _ _ _ _ _ _ r h=>by simp [lzInsnSweeps.j0] at h,fun _ _ _ _ _ _ r h=>by simp [lzInsnSweeps.l0] at h⟩
 | k+1=>by
  obtain ⟨ih0,ih1⟩:=lzInsnSweeps.mono_l k;refine ⟨?_,?_⟩
  ·intro y0 y1 y2 y3 y4 y5;unfold lzInsnSweeps.j0;repeat' first
   | (with_reducible exact ih0 _ _ _ _ _ _)
   | (with_reducible exact ih1 _ _ _ _ _ _)
   | (with_reducible exact insn_Sweep.mono _ _)
   | (with_reducible exact lzsameInts.mono _ _ _)
   | (with_reducible exact lzsane.mono _)
   | (with_reducible exact rzSweep.mono _ _)
   | (with_reducible exact LeO.refl _)
   | (with_reducible exact LeO.none _)
   | (with_reducible refine LeO.ite ?_ ?_)
   | (with_reducible refine LeO.bind ?_ (fun _=>?_))
   | exact LeO.none _
   | refine LeO.ite ?_ ?_
   | refine LeO.bind ?_ (fun _=>?_)
  ·intro y0 y1 y2 y3 y4 y5;unfold lzInsnSweeps.l0;repeat' first
   | (with_reducible exact ih0 _ _ _ _ _ _)
   | (with_reducible exact ih1 _ _ _ _ _ _)
   | (with_reducible exact insn_Sweep.mono _ _)
   | (with_reducible exact lzsameInts.mono _ _ _)
   | (with_reducible exact lzsane.mono _)
   | (with_reducible exact rzSweep.mono _ _)
   | (with_reducible exact LeO.refl _)
   | (with_reducible exact LeO.none _)
   | (with_reducible refine LeO.ite ?_ ?_)
   | (with_reducible refine LeO.bind ?_ (fun _=>?_))
   | exact LeO.none _
   | refine LeO.ite ?_ ?_
   | refine LeO.bind ?_ (fun _=>?_)
theorem lzInsnSweeps.mono:∀ a0 k,LeO (lzInsnSweeps.f k a0) (lzInsnSweeps.f (k+1) a0):=by
 intro a0 k;obtain ⟨ih0,ih1⟩:=lzInsnSweeps.mono_l k;unfold lzInsnSweeps.f;repeat' first
   | (with_reducible exact ih0 _ _ _ _ _ _)
   | (with_reducible exact ih1 _ _ _ _ _ _)
   | (with_reducible exact insn_Sweep.mono _ _)
   | (with_reducible exact lzsameInts.mono _ _ _)
   | (with_reducible exact lzsane.mono _)
   | (with_reducible exact rzSweep.mono _ _)
   | (with_reducible exact LeO.refl _)
   | (with_reducible exact LeO.none _)
   | (with_reducible refine LeO.ite ?_ ?_)
   | (with_reducible refine LeO.bind ?_ (fun _=>?_))
   | exact LeO.none _
   | refine LeO.ite ?_ ?_
   | refine LeO.bind ?_ (fun _=>?_)
set_option maxHeartbeats 8000000 in
set_option maxRecDepth 100000 in
theorem lzInsnSweeps.calls (k:Nat) (A0:Option Addr) (c0:Nat) (l0:List Int) (r:Bool) (w:World) (hr0:Kd.C (Kd.int .u8) w A0 l0.length l0) (hc0:l0.length≤c0) (h:lzInsnSweeps.f k l0=some r) (hgw:GW w) :
  Calls Tryz.prog 12 #[.slice A0 l0.length c0] w fun e w'=>e=.returned (.bool r)∧Below w.heap.size w w':=by
 have hu70:=Tryz.underlying70;have hu23:=Tryz.underlying23;have HR0:=Aside0.mk hr0;have HC0:=Aside0.mk hc0;clear hr0 hc0;have HB:=Aside0.mk (Below.refl w.heap.size w);have H:((lzsane.f k).bind fun t808=>((insn_Sweep.f k l0).bind fun bt809=>((rzSweep.f k l0).bind fun bt816=>(if bt809.2.2=bt816.2.2 then (if (bt809.1.length:Int)=(bt816.1.length:Int) then ((lzsameInts.f k bt809.2.1 bt816.2.1).bind fun t824=>(lzInsnSweeps.j0 k t808 bt809.1 (!t824) bt816.1 bt816.2.1 bt816.2.2)) else (lzInsnSweeps.j0 k t808 bt809.1 true bt816.1 bt816.2.1 bt816.2.2)) else (lzInsnSweeps.j0 k t808 bt809.1 true bt816.1 bt816.2.1 bt816.2.2)))))=some r:=h;clear h;replace H:=Option.bind_eq_some_iff.mp H;obtain ⟨t808,A20,H⟩:=H;replace H:((insn_Sweep.f k l0).bind fun bt809=>((rzSweep.f k l0).bind fun bt816=>(if bt809.2.2=bt816.2.2 then (if (bt809.1.length:Int)=(bt816.1.length:Int) then ((lzsameInts.f k bt809.2.1 bt816.2.1).bind fun t824=>(lzInsnSweeps.j0 k t808 bt809.1 (!t824) bt816.1 bt816.2.1 bt816.2.2)) else (lzInsnSweeps.j0 k t808 bt809.1 true bt816.1 bt816.2.1 bt816.2.2)) else (lzInsnSweeps.j0 k t808 bt809.1 true bt816.1 bt816.2.1 bt816.2.2))))=some r:=H;have A2:=Aside0.mk A20;clear A20;replace H:=Option.bind_eq_some_iff.mp H;obtain ⟨⟨t809,t810,t811⟩,A30,H⟩:=H;replace H:((rzSweep.f k l0).bind fun bt816=>(if t811=bt816.2.2 then (if (t809.length:Int)=(bt816.1.length:Int) then ((lzsameInts.f k t810 bt816.2.1).bind fun t824=>(lzInsnSweeps.j0 k t808 t809 (!t824) bt816.1 bt816.2.1 bt816.2.2)) else (lzInsnSweeps.j0 k t808 t809 true bt816.1 bt816.2.1 bt816.2.2)) else (lzInsnSweeps.j0 k t808 t809 true bt816.1 bt816.2.1 bt816.2.2)))=some r:=H;have A3:=Aside0.mk A30;clear A30;replace H:=Option.bind_eq_some_iff.mp H;obtain ⟨⟨t816,t819,t822⟩,A40,H⟩:=H;replace H:(if t811=t822 then (if (t809.length:Int)=(t816.length:Int) then ((lzsameInts.f k t810 t819).bind fun t824=>(lzInsnSweeps.j0 k t808 t809 (!t824) t816 t819 t822)) else (lzInsnSweeps.j0 k t808 t809 true t816 t819 t822)) else (lzInsnSweeps.j0 k t808 t809 true t816 t819 t822))=some r:=H;have A4:=Aside0.mk A40;clear A40;have HC5:=Aside0.mk H;clear H;go_enter Tryz.func12,Tryz.ntmps12
 go_upto_region 4 with (first | (go_at_call 17;(with_reducible refine (lzsane.calls k  t808 _ A2.out (by (first | exact hgw | exact hgw.below (by repeat (first | (with_reducible first | exact HB.out | apply below_alloc | apply pw_below_drewN | apply below_drew1 | refine below_set ?_ (by first | assumption | exact Aside0.out (by assumption))) | exact HB.out)) (Nat.le_refl _)))).mono ?_);rintro e w6 ⟨rfl,hb⟩;have n0_:=Aside0.mk (below_step blw hb);clear HB;have HB:=n0_;clear n0_;(try clear hb);(try clear hb2);(try clear hk);(try clear hi)) | (go_at_call 33;(with_reducible refine (insn_Sweep.calls k _ _ l0 t809 t810 t811 _ ?side1 ?side2 A3.out (by (first | exact hgw | exact hgw.below (by repeat (first | (with_reducible first | exact HB.out | apply below_alloc | apply pw_below_drewN | apply below_drew1 | refine below_set ?_ (by first | assumption | exact Aside0.out (by assumption))) | exact HB.out)) (Nat.le_refl _)))).mono ?_);(case side1=>repeat (first | exact (Kd.C_below HR0.out HB.out) | (with_reducible refine Kd.C_alloc ?_ _) | (with_reducible refine Kd.C_drewN ?_ _) | (with_reducible refine Kd.C_drew ?_)));(case side2=>exact HC0.out);rintro e w7 ⟨v812,v814,rfl,ho0,ho1,hb⟩;have n0_:=Aside0.mk (Kd.R_lower ho0 (below_size blw));have n1_:=Aside0.mk (Kd.R_lower ho1 (below_size blw));have n2_:=Aside0.mk (below_step blw hb);clear HB;have HO813:=n0_;have HO815:=n1_;have HB:=n2_;clear n0_ n1_ n2_;(try clear hb);(try clear hb2);(try clear hk);(try clear hi);(try clear ho0);(try clear ho1)) | (go_at_call 34;(with_reducible refine (rzSweep.calls k _ _ l0 t816 t819 t822 _ ?side1 ?side2 A4.out).mono ?_);(case side1=>repeat (first | exact (Kd.C_below HR0.out HB.out) | (with_reducible refine Kd.C_alloc ?_ _) | (with_reducible refine Kd.C_drewN ?_ _) | (with_reducible refine Kd.C_drew ?_)));(case side2=>exact HC0.out);rintro e w8 ⟨v817,v820,rfl,ho0,ho1,hb⟩;have n0_:=Aside0.mk (Kd.R_elder' (by (with_reducible repeat (first | apply Kd.R_alloc | apply Kd.R_drewN | apply Kd.R_drew));exact HO813.out) (Kd.R_base ho0) hb);have n1_:=Aside0.mk (Kd.R_elder' (by (with_reducible repeat (first | apply Kd.R_alloc | apply Kd.R_drewN | apply Kd.R_drew));exact HO815.out) (Kd.R_base ho1) hb);have n2_:=Aside0.mk (Kd.R_lower (Kd.R_new' ho0 (Kd.R_lt (by (with_reducible repeat (first | apply Kd.R_alloc | apply Kd.R_drewN | apply Kd.R_drew));exact HO813.out))) (below_size blw));have n3_:=Aside0.mk (Kd.R_lower (Kd.R_new' ho1 (Kd.R_lt (by (with_reducible repeat (first | apply Kd.R_alloc | apply Kd.R_drewN | apply Kd.R_drew));exact HO815.out))) (below_size blw));have n4_:=Aside0.mk (below_step blw hb);clear HO813;clear HO815;clear HB;have HO813:=n0_;have HO815:=n1_;have HO818:=n2_;have HO821:=n3_;have HB:=n4_;clear n0_ n1_ n2_ n3_ n4_;(try clear hb);(try clear hb2);(try clear hk);(try clear hi);(try clear ho0);(try clear ho1)) | ((with_reducible refine gate_dst (N:=7) rfl ?_);(try (refine gate_guard (by rfl) ?_;dsimp only));refine box_event ?hg (N:=7) ?hd (cs:=#[.slice none 0 0,.slice none 0 0,.int .i64 0]) (t:=70) ?hr ?_;(case hd=>rfl);(case hg=>rfl);(case hr=>first | (go_simp;done) | (go_simp;rfl));intro gb823 hg w9 hbox hb;have n0_:=Aside0.mk (Kd.R_below (by (with_reducible repeat (first | apply Kd.R_alloc | apply Kd.R_drewN | apply Kd.R_drew));exact HO813.out) hb);have n1_:=Aside0.mk (Kd.R_below (by (with_reducible repeat (first | apply Kd.R_alloc | apply Kd.R_drewN | apply Kd.R_drew));exact HO815.out) hb);have n2_:=Aside0.mk (Kd.R_below (by (with_reducible repeat (first | apply Kd.R_alloc | apply Kd.R_drewN | apply Kd.R_drew));exact HO818.out) hb);have n3_:=Aside0.mk (Kd.R_below (by (with_reducible repeat (first | apply Kd.R_alloc | apply Kd.R_drewN | apply Kd.R_drew));exact HO821.out) hb);have n4_:=Aside0.mk (below_step blw hb);have n5_:=Aside0.mk (hbox);have n6_:=Aside0.mk ((by rw [hg];exact (below_size blw):w.heap.size≤gb823));have n7_:=Aside0.mk ((by rw [hg];exact (below_size blw):w.heap.size≤gb823));clear HO813;clear HO815;clear HO818;clear HO821;clear HB;have HO813:=n0_;have HO815:=n1_;have HO818:=n2_;have HO821:=n3_;have HB:=n4_;have BK823:=n5_;have GW823:=n6_;have GE823:=n7_;clear n0_ n1_ n2_ n3_ n4_ n5_ n6_ n7_;clear hb hbox hg;obtain ⟨Ao10,co10,eo10⟩:=Kd.R_slice HO818.out;subst eo10;have hcz11_0:w9.cell? ⟨gb823,0,none⟩=some (.slice none 0 0):=(blk_cell BK823.out 0).trans rfl;have hcz11_1:w9.cell? ⟨gb823,1,none⟩=some (.slice none 0 0):=(blk_cell BK823.out 1).trans rfl;have hcz11_2:w9.cell? ⟨gb823,2,none⟩=some (.int .i64 0):=(blk_cell BK823.out 2).trans rfl;have hfz11_0:=blk_frozen BK823.out 0;have hfz11_1:=blk_frozen BK823.out 1;have hfz11_2:=blk_frozen BK823.out 2;obtain ⟨Ao12,co12,eo12⟩:=Kd.R_slice HO821.out;subst eo12))
 repeat (go_quiet (first | (go_at_call 17;(with_reducible refine (lzsane.calls k  t808 _ A2.out (by (first | exact hgw | exact hgw.below (by repeat (first | (with_reducible first | exact HB.out | apply below_alloc | apply pw_below_drewN | apply below_drew1 | refine below_set ?_ (by first | assumption | exact Aside0.out (by assumption))) | exact HB.out)) (Nat.le_refl _)))).mono ?_);rintro e w6 ⟨rfl,hb⟩;have n0_:=Aside0.mk (below_step blw hb);clear HB;have HB:=n0_;clear n0_;(try clear hb);(try clear hb2);(try clear hk);(try clear hi)) | (go_at_call 33;(with_reducible refine (insn_Sweep.calls k _ _ l0 t809 t810 t811 _ ?side1 ?side2 A3.out (by (first | exact hgw | exact hgw.below (by repeat (first | (with_reducible first | exact HB.out | apply below_alloc | apply pw_below_drewN | apply below_drew1 | refine below_set ?_ (by first | assumption | exact Aside0.out (by assumption))) | exact HB.out)) (Nat.le_refl _)))).mono ?_);(case side1=>repeat (first | exact (Kd.C_below HR0.out HB.out) | (with_reducible refine Kd.C_alloc ?_ _) | (with_reducible refine Kd.C_drewN ?_ _) | (with_reducible refine Kd.C_drew ?_)));(case side2=>exact HC0.out);rintro e w7 ⟨v812,v814,rfl,ho0,ho1,hb⟩;have n0_:=Aside0.mk (Kd.R_lower ho0 (below_size blw));have n1_:=Aside0.mk (Kd.R_lower ho1 (below_size blw));have n2_:=Aside0.mk (below_step blw hb);clear HB;have HO813:=n0_;have HO815:=n1_;have HB:=n2_;clear n0_ n1_ n2_;(try clear hb);(try clear hb2);(try clear hk);(try clear hi);(try clear ho0);(try clear ho1)) | (go_at_call 34;(with_reducible refine (rzSweep.calls k _ _ l0 t816 t819 t822 _ ?side1 ?side2 A4.out).mono ?_);(case side1=>repeat (first | exact (Kd.C_below HR0.out HB.out) | (with_reducible refine Kd.C_alloc ?_ _) | (with_reducible refine Kd.C_drewN ?_ _) | (with_reducible refine Kd.C_drew ?_)));(case side2=>exact HC0.out);rintro e w8 ⟨v817,v820,rfl,ho0,ho1,hb⟩;have n0_:=Aside0.mk (Kd.R_elder' (by (with_reducible repeat (first | apply Kd.R_alloc | apply Kd.R_drewN | apply Kd.R_drew));exact HO813.out) (Kd.R_base ho0) hb);have n1_:=Aside0.mk (Kd.R_elder' (by (with_reducible repeat (first | apply Kd.R_alloc | apply Kd.R_drewN | apply Kd.R_drew));exact HO815.out) (Kd.R_base ho1) hb);have n2_:=Aside0.mk (Kd.R_lower (Kd.R_new' ho0 (Kd.R_lt (by (with_reducible repeat (first | apply Kd.R_alloc | apply Kd.R_drewN | apply Kd.R_drew));exact HO813.out))) (below_size blw));have n3_:=Aside0.mk (Kd.R_lower (Kd.R_new' ho1 (Kd.R_lt (by (with_reducible repeat (first | apply Kd.R_alloc | apply Kd.R_drewN | apply Kd.R_drew));exact HO815.out))) (below_size blw));have n4_:=Aside0.mk (below_step blw hb);clear HO813;clear HO815;clear HB;have HO813:=n0_;have HO815:=n1_;have HO818:=n2_;have HO821:=n3_;have HB:=n4_;clear n0_ n1_ n2_ n3_ n4_;(try clear hb);(try clear hb2);(try clear hk);(try clear hi);(try clear ho0);(try clear ho1)) | ((with_reducible refine gate_dst (N:=7) rfl ?_);(try (refine gate_guard (by rfl) ?_;dsimp only));refine box_event ?hg (N:=7) ?hd (cs:=#[.slice none 0 0,.slice none 0 0,.int .i64 0]) (t:=70) ?hr ?_;(case hd=>rfl);(case hg=>rfl);(case hr=>first | (go_simp;done) | (go_simp;rfl));intro gb823 hg w9 hbox hb;have n0_:=Aside0.mk (Kd.R_below (by (with_reducible repeat (first | apply Kd.R_alloc | apply Kd.R_drewN | apply Kd.R_drew));exact HO813.out) hb);have n1_:=Aside0.mk (Kd.R_below (by (with_reducible repeat (first | apply Kd.R_alloc | apply Kd.R_drewN | apply Kd.R_drew));exact HO815.out) hb);have n2_:=Aside0.mk (Kd.R_below (by (with_reducible repeat (first | apply Kd.R_alloc | apply Kd.R_drewN | apply Kd.R_drew));exact HO818.out) hb);have n3_:=Aside0.mk (Kd.R_below (by (with_reducible repeat (first | apply Kd.R_alloc | apply Kd.R_drewN | apply Kd.R_drew));exact HO821.out) hb);have n4_:=Aside0.mk (below_step blw hb);have n5_:=Aside0.mk (hbox);have n6_:=Aside0.mk ((by rw [hg];exact (below_size blw):w.heap.size≤gb823));have n7_:=Aside0.mk ((by rw [hg];exact (below_size blw):w.heap.size≤gb823));clear HO813;clear HO815;clear HO818;clear HO821;clear HB;have HO813:=n0_;have HO815:=n1_;have HO818:=n2_;have HO821:=n3_;have HB:=n4_;have BK823:=n5_;have GW823:=n6_;have GE823:=n7_;clear n0_ n1_ n2_ n3_ n4_ n5_ n6_ n7_;clear hb hbox hg;obtain ⟨Ao10,co10,eo10⟩:=Kd.R_slice HO818.out;subst eo10;have hcz11_0:w9.cell? ⟨gb823,0,none⟩=some (.slice none 0 0):=(blk_cell BK823.out 0).trans rfl;have hcz11_1:w9.cell? ⟨gb823,1,none⟩=some (.slice none 0 0):=(blk_cell BK823.out 1).trans rfl;have hcz11_2:w9.cell? ⟨gb823,2,none⟩=some (.int .i64 0):=(blk_cell BK823.out 2).trans rfl;have hfz11_0:=blk_frozen BK823.out 0;have hfz11_1:=blk_frozen BK823.out 1;have hfz11_2:=blk_frozen BK823.out 2;obtain ⟨Ao12,co12,eo12⟩:=Kd.R_slice HO821.out;subst eo12));go_upto_region 4 with (first | (go_at_call 17;(with_reducible refine (lzsane.calls k  t808 _ A2.out (by (first | exact hgw | exact hgw.below (by repeat (first | (with_reducible first | exact HB.out | apply below_alloc | apply pw_below_drewN | apply below_drew1 | refine below_set ?_ (by first | assumption | exact Aside0.out (by assumption))) | exact HB.out)) (Nat.le_refl _)))).mono ?_);rintro e w6 ⟨rfl,hb⟩;have n0_:=Aside0.mk (below_step blw hb);clear HB;have HB:=n0_;clear n0_;(try clear hb);(try clear hb2);(try clear hk);(try clear hi)) | (go_at_call 33;(with_reducible refine (insn_Sweep.calls k _ _ l0 t809 t810 t811 _ ?side1 ?side2 A3.out (by (first | exact hgw | exact hgw.below (by repeat (first | (with_reducible first | exact HB.out | apply below_alloc | apply pw_below_drewN | apply below_drew1 | refine below_set ?_ (by first | assumption | exact Aside0.out (by assumption))) | exact HB.out)) (Nat.le_refl _)))).mono ?_);(case side1=>repeat (first | exact (Kd.C_below HR0.out HB.out) | (with_reducible refine Kd.C_alloc ?_ _) | (with_reducible refine Kd.C_drewN ?_ _) | (with_reducible refine Kd.C_drew ?_)));(case side2=>exact HC0.out);rintro e w7 ⟨v812,v814,rfl,ho0,ho1,hb⟩;have n0_:=Aside0.mk (Kd.R_lower ho0 (below_size blw));have n1_:=Aside0.mk (Kd.R_lower ho1 (below_size blw));have n2_:=Aside0.mk (below_step blw hb);clear HB;have HO813:=n0_;have HO815:=n1_;have HB:=n2_;clear n0_ n1_ n2_;(try clear hb);(try clear hb2);(try clear hk);(try clear hi);(try clear ho0);(try clear ho1)) | (go_at_call 34;(with_reducible refine (rzSweep.calls k _ _ l0 t816 t819 t822 _ ?side1 ?side2 A4.out).mono ?_);(case side1=>repeat (first | exact (Kd.C_below HR0.out HB.out) | (with_reducible refine Kd.C_alloc ?_ _) | (with_reducible refine Kd.C_drewN ?_ _) | (with_reducible refine Kd.C_drew ?_)));(case side2=>exact HC0.out);rintro e w8 ⟨v817,v820,rfl,ho0,ho1,hb⟩;have n0_:=Aside0.mk (Kd.R_elder' (by (with_reducible repeat (first | apply Kd.R_alloc | apply Kd.R_drewN | apply Kd.R_drew));exact HO813.out) (Kd.R_base ho0) hb);have n1_:=Aside0.mk (Kd.R_elder' (by (with_reducible repeat (first | apply Kd.R_alloc | apply Kd.R_drewN | apply Kd.R_drew));exact HO815.out) (Kd.R_base ho1) hb);have n2_:=Aside0.mk (Kd.R_lower (Kd.R_new' ho0 (Kd.R_lt (by (with_reducible repeat (first | apply Kd.R_alloc | apply Kd.R_drewN | apply Kd.R_drew));exact HO813.out))) (below_size blw));have n3_:=Aside0.mk (Kd.R_lower (Kd.R_new' ho1 (Kd.R_lt (by (with_reducible repeat (first | apply Kd.R_alloc | apply Kd.R_drewN | apply Kd.R_drew));exact HO815.out))) (below_size blw));have n4_:=Aside0.mk (below_step blw hb);clear HO813;clear HO815;clear HB;have HO813:=n0_;have HO815:=n1_;have HO818:=n2_;have HO821:=n3_;have HB:=n4_;clear n0_ n1_ n2_ n3_ n4_;(try clear hb);(try clear hb2);(try clear hk);(try clear hi);(try clear ho0);(try clear ho1)) | ((with_reducible refine gate_dst (N:=7) rfl ?_);(try (refine gate_guard (by rfl) ?_;dsimp only));refine box_event ?hg (N:=7) ?hd (cs:=#[.slice none 0 0,.slice none 0 0,.int .i64 0]) (t:=70) ?hr ?_;(case hd=>rfl);(case hg=>rfl);(case hr=>first | (go_simp;done) | (go_simp;rfl));intro gb823 hg w9 hbox hb;have n0_:=Aside0.mk (Kd.R_below (by (with_reducible repeat (first | apply Kd.R_alloc | apply Kd.R_drewN | apply Kd.R_drew));exact HO813.out) hb);have n1_:=Aside0.mk (Kd.R_below (by (with_reducible repeat (first | apply Kd.R_alloc | apply Kd.R_drewN | apply Kd.R_drew));exact HO815.out) hb);have n2_:=Aside0.mk (Kd.R_below (by (with_reducible repeat (first | apply Kd.R_alloc | apply Kd.R_drewN | apply Kd.R_drew));exact HO818.out) hb);have n3_:=Aside0.mk (Kd.R_below (by (with_reducible repeat (first | apply Kd.R_alloc | apply Kd.R_drewN | apply Kd.R_drew));exact HO821.out) hb);have n4_:=Aside0.mk (below_step blw hb);have n5_:=Aside0.mk (hbox);have n6_:=Aside0.mk ((by rw [hg];exact (below_size blw):w.heap.size≤gb823));have n7_:=Aside0.mk ((by rw [hg];exact (below_size blw):w.heap.size≤gb823));clear HO813;clear HO815;clear HO818;clear HO821;clear HB;have HO813:=n0_;have HO815:=n1_;have HO818:=n2_;have HO821:=n3_;have HB:=n4_;have BK823:=n5_;have GW823:=n6_;have GE823:=n7_;clear n0_ n1_ n2_ n3_ n4_ n5_ n6_ n7_;clear hb hbox hg;obtain ⟨Ao10,co10,eo10⟩:=Kd.R_slice HO818.out;subst eo10;have hcz11_0:w9.cell? ⟨gb823,0,none⟩=some (.slice none 0 0):=(blk_cell BK823.out 0).trans rfl;have hcz11_1:w9.cell? ⟨gb823,1,none⟩=some (.slice none 0 0):=(blk_cell BK823.out 1).trans rfl;have hcz11_2:w9.cell? ⟨gb823,2,none⟩=some (.int .i64 0):=(blk_cell BK823.out 2).trans rfl;have hfz11_0:=blk_frozen BK823.out 0;have hfz11_1:=blk_frozen BK823.out 1;have hfz11_2:=blk_frozen BK823.out 2;obtain ⟨Ao12,co12,eo12⟩:=Kd.R_slice HO821.out;subst eo12)))
 (try simp only [Act.put,List.setIfInBounds_toArray,List.set_cons_zero,List.set_cons_succ]);go_cut [36] (fun v36 wc=>∃ (kq:Nat) (x36_4:Bool),v36=.bool x36_4∧Aside0 (lzInsnSweeps.j0 kq t808 t809 x36_4 t816 t819 t822=some r)∧Aside0 (kq≤k)∧Aside0 (Kd.R k23 23 wc w.heap.size (fun k_=>some k_≠((.slice Ao10 t816.length co10):Value).ownBlock) v812 t809)∧Aside0 (Kd.R k23 23 wc w.heap.size (fun k_=>some k_≠(v812:Value).ownBlock) (.slice Ao10 t816.length co10) t816)∧Aside0 (Kd.R (Kd.int .i64) 3 wc w.heap.size (fun _=>True) (.slice Ao12 t819.length co12) t819)∧Aside0 (wc.heap[gb823]?=some (.cells #[(.slice Ao10 t816.length co10),(.slice Ao12 t819.length co12),.int .i64 t822] 70 (0,0)))∧Aside0 (Below w.heap.size w wc))
 case first =>
  have H:=HC5.out;clear HC5;by_cases c13:t811=t822
  ·rw [if_pos c13] at H;have c13b0:(t811 == t822)=true:=beq_iff_eq.mpr c13;have c13b1:(t811 != t822)=false:=bne_eq_false_iff_eq.mpr c13;clear c13;(first | rw [c13b0] | (simp only [i64_w,i32_w];rw [c13b0]) | skip);by_cases c14:(t809.length:Int)=(t816.length:Int)
   ·rw [if_pos c14] at H;have c14b0:((t809.length:Int) == (t816.length:Int))=true:=beq_iff_eq.mpr c14;have c14b1:((t809.length:Int) != (t816.length:Int))=false:=bne_eq_false_iff_eq.mpr c14;have c14b2:(t809.length == t816.length)=true:=by first | simpa using c14 | (simp at c14 ⊢;omega)
    clear c14;replace H:=Option.bind_eq_some_iff.mp H;obtain ⟨t824,A150,H⟩:=H;replace H:(lzInsnSweeps.j0 k t808 t809 (!t824) t816 t819 t822)=some r:=H;have A15:=Aside0.mk A150;clear A150;have H':=Aside0.mk H;clear H;have hcz16_0:w9.cell? ⟨gb823,0,none⟩=some (.slice none 0 0):=(blk_cell BK823.out 0).trans rfl;have hcz16_1:w9.cell? ⟨gb823,1,none⟩=some (.slice none 0 0):=(blk_cell BK823.out 1).trans rfl;have hcz16_2:w9.cell? ⟨gb823,2,none⟩=some (.int .i64 0):=(blk_cell BK823.out 2).trans rfl;have hfz16_0:=blk_frozen BK823.out 0;have hfz16_1:=blk_frozen BK823.out 1;have hfz16_2:=blk_frozen BK823.out 2;obtain ⟨Ao17,co17,eo17⟩:=Kd.R_slice HO813.out;subst eo17;obtain ⟨Ao18,co18,eo18⟩:=Kd.R_slice HO815.out;subst eo18;go_wp2_with (first | (go_at_call 35;(with_reducible refine (lzsameInts.calls k _ _ t810 _ _ t819 t824 _ ?side1 ?side2 ?side3 ?side4 A15.out).mono ?_);(case side1=>refine (Kd.R_reads' (e:=3) (base:=w.heap.size) (ok:=fun k_=>(True∧some k_≠(.slice Ao12 t819.length co12:Value).ownBlock)) (n:=t810.length) (c:=co18) ?_).2.2;exact (by (with_reducible repeat (first | apply Kd.R_alloc | apply Kd.R_drewN | apply Kd.R_drew));exact (Kd.R_mono (Kd.R_far (p:=⟨gb823,2,none⟩) (Kd.R_far (p:=⟨gb823,1,none⟩) (Kd.R_far (p:=⟨gb823,0,none⟩) (Kd.R_types HO815.out BK823.out (by decide)) (fun _ hk=>hk.2) (.slice Ao10 t816.length co10)) (fun _ hk=>hk.2) (.slice Ao12 t819.length co12)) (fun _ hk=>hk.2) (.int .i64 t822)) (fun _ h_=>h_.1))));(case side2=>exact (Kd.R_reads' HO815.out).2.1);(case side3=>refine (Kd.R_reads' (e:=3) (base:=w.heap.size) (ok:=fun k_=>(True∧some k_≠(.slice Ao18 t810.length co18:Value).ownBlock)) (n:=t819.length) (c:=co12) ?_).2.2;exact (by (with_reducible repeat (first | apply Kd.R_alloc | apply Kd.R_drewN | apply Kd.R_drew));exact (Kd.R_mono (Kd.R_far (p:=⟨gb823,2,none⟩) (Kd.R_far (p:=⟨gb823,1,none⟩) (Kd.R_far (p:=⟨gb823,0,none⟩) (Kd.R_types HO821.out BK823.out (by decide)) (fun _ hk=>hk.2) (.slice Ao10 t816.length co10)) (fun _ hk=>hk.2) (.slice Ao12 t819.length co12)) (fun _ hk=>hk.2) (.int .i64 t822)) (fun _ h_=>h_.1))));(case side4=>exact (Kd.R_reads' HO821.out).2.1);rintro e w' ⟨rfl,⟨nd,rfl⟩⟩;(try first | exact ⟨rfl,_,World.drewN_drewN _ _ _⟩ | exact ⟨rfl,_,Eq.trans (World.drewN_drewN _ _ _) (congrArg (World.drewN _) (Nat.add_assoc _ _ _))⟩)))
    repeat (go_quiet (first | (go_at_call 35;(with_reducible refine (lzsameInts.calls k _ _ t810 _ _ t819 t824 _ ?side1 ?side2 ?side3 ?side4 A15.out).mono ?_);(case side1=>refine (Kd.R_reads' (e:=3) (base:=w.heap.size) (ok:=fun k_=>(True∧some k_≠(.slice Ao12 t819.length co12:Value).ownBlock)) (n:=t810.length) (c:=co18) ?_).2.2;exact (by (with_reducible repeat (first | apply Kd.R_alloc | apply Kd.R_drewN | apply Kd.R_drew));exact (Kd.R_mono (Kd.R_far (p:=⟨gb823,2,none⟩) (Kd.R_far (p:=⟨gb823,1,none⟩) (Kd.R_far (p:=⟨gb823,0,none⟩) (Kd.R_types HO815.out BK823.out (by decide)) (fun _ hk=>hk.2) (.slice Ao10 t816.length co10)) (fun _ hk=>hk.2) (.slice Ao12 t819.length co12)) (fun _ hk=>hk.2) (.int .i64 t822)) (fun _ h_=>h_.1))));(case side2=>exact (Kd.R_reads' HO815.out).2.1);(case side3=>refine (Kd.R_reads' (e:=3) (base:=w.heap.size) (ok:=fun k_=>(True∧some k_≠(.slice Ao18 t810.length co18:Value).ownBlock)) (n:=t819.length) (c:=co12) ?_).2.2;exact (by (with_reducible repeat (first | apply Kd.R_alloc | apply Kd.R_drewN | apply Kd.R_drew));exact (Kd.R_mono (Kd.R_far (p:=⟨gb823,2,none⟩) (Kd.R_far (p:=⟨gb823,1,none⟩) (Kd.R_far (p:=⟨gb823,0,none⟩) (Kd.R_types HO821.out BK823.out (by decide)) (fun _ hk=>hk.2) (.slice Ao10 t816.length co10)) (fun _ hk=>hk.2) (.slice Ao12 t819.length co12)) (fun _ hk=>hk.2) (.int .i64 t822)) (fun _ h_=>h_.1))));(case side4=>exact (Kd.R_reads' HO821.out).2.1);rintro e w' ⟨rfl,⟨nd,rfl⟩⟩;(try first | exact ⟨rfl,_,World.drewN_drewN _ _ _⟩ | exact ⟨rfl,_,Eq.trans (World.drewN_drewN _ _ _) (congrArg (World.drewN _) (Nat.add_assoc _ _ _))⟩)));try go_wp2_with (first | (go_at_call 35;(with_reducible refine (lzsameInts.calls k _ _ t810 _ _ t819 t824 _ ?side1 ?side2 ?side3 ?side4 A15.out).mono ?_);(case side1=>refine (Kd.R_reads' (e:=3) (base:=w.heap.size) (ok:=fun k_=>(True∧some k_≠(.slice Ao12 t819.length co12:Value).ownBlock)) (n:=t810.length) (c:=co18) ?_).2.2;exact (by (with_reducible repeat (first | apply Kd.R_alloc | apply Kd.R_drewN | apply Kd.R_drew));exact (Kd.R_mono (Kd.R_far (p:=⟨gb823,2,none⟩) (Kd.R_far (p:=⟨gb823,1,none⟩) (Kd.R_far (p:=⟨gb823,0,none⟩) (Kd.R_types HO815.out BK823.out (by decide)) (fun _ hk=>hk.2) (.slice Ao10 t816.length co10)) (fun _ hk=>hk.2) (.slice Ao12 t819.length co12)) (fun _ hk=>hk.2) (.int .i64 t822)) (fun _ h_=>h_.1))));(case side2=>exact (Kd.R_reads' HO815.out).2.1);(case side3=>refine (Kd.R_reads' (e:=3) (base:=w.heap.size) (ok:=fun k_=>(True∧some k_≠(.slice Ao18 t810.length co18:Value).ownBlock)) (n:=t819.length) (c:=co12) ?_).2.2;exact (by (with_reducible repeat (first | apply Kd.R_alloc | apply Kd.R_drewN | apply Kd.R_drew));exact (Kd.R_mono (Kd.R_far (p:=⟨gb823,2,none⟩) (Kd.R_far (p:=⟨gb823,1,none⟩) (Kd.R_far (p:=⟨gb823,0,none⟩) (Kd.R_types HO821.out BK823.out (by decide)) (fun _ hk=>hk.2) (.slice Ao10 t816.length co10)) (fun _ hk=>hk.2) (.slice Ao12 t819.length co12)) (fun _ hk=>hk.2) (.int .i64 t822)) (fun _ h_=>h_.1))));(case side4=>exact (Kd.R_reads' HO821.out).2.1);rintro e w' ⟨rfl,⟨nd,rfl⟩⟩;(try first | exact ⟨rfl,_,World.drewN_drewN _ _ _⟩ | exact ⟨rfl,_,Eq.trans (World.drewN_drewN _ _ _) (congrArg (World.drewN _) (Nat.add_assoc _ _ _))⟩))))
    go_meet
    case rel=>exact ⟨_,(!t824),rsd,H',⟨by first | omega | exact Nat.le_refl _⟩,⟨by (with_reducible repeat (first | apply Kd.R_alloc | apply Kd.R_drewN | apply Kd.R_drew));exact Kd.R_mono (Kd.R_far (p:=⟨gb823,2,none⟩) (Kd.R_far (p:=⟨gb823,1,none⟩) (Kd.R_far (p:=⟨gb823,0,none⟩) (Kd.R_types HO813.out BK823.out (by decide)) (fun _ hk=>hk.2) (.slice Ao10 t816.length co10)) (fun _ hk=>hk.2) (.slice Ao12 t819.length co12)) (fun _ hk=>hk.2) (.int .i64 t822)) (fun _ hk=>hk.1.2)⟩,⟨by (with_reducible repeat (first | apply Kd.R_alloc | apply Kd.R_drewN | apply Kd.R_drew));exact Kd.R_mono (Kd.R_far (p:=⟨gb823,2,none⟩) (Kd.R_far (p:=⟨gb823,1,none⟩) (Kd.R_far (p:=⟨gb823,0,none⟩) (Kd.R_types HO818.out BK823.out (by decide)) (fun _ hk=>hk.2) (.slice Ao10 t816.length co10)) (fun _ hk=>hk.2) (.slice Ao12 t819.length co12)) (fun _ hk=>hk.2) (.int .i64 t822)) (fun _ hk=>hk.1.2)⟩,⟨by (with_reducible repeat (first | apply Kd.R_alloc | apply Kd.R_drewN | apply Kd.R_drew));exact Kd.R_mono (Kd.R_far (p:=⟨gb823,2,none⟩) (Kd.R_far (p:=⟨gb823,1,none⟩) (Kd.R_far (p:=⟨gb823,0,none⟩) (Kd.R_types HO821.out BK823.out (by decide)) (fun _ hk=>hk.2) (.slice Ao10 t816.length co10)) (fun _ hk=>hk.2) (.slice Ao12 t819.length co12)) (fun _ hk=>hk.2) (.int .i64 t822)) (fun _ hk=>trivial)⟩,⟨by (with_reducible repeat (first | refine blk_drewN ?_ _ | refine blk_drew ?_ | refine blk_alloc ?_ _));refine blk_put (cs:=#[.slice Ao10 t816.length co10,.slice Ao12 t819.length co12,.int .i64 0]) ?_ 2 _ rfl;(with_reducible repeat (first | refine blk_drewN ?_ _ | refine blk_drew ?_ | refine blk_alloc ?_ _));refine blk_put (cs:=#[.slice Ao10 t816.length co10,.slice none 0 0,.int .i64 0]) ?_ 1 _ rfl;(with_reducible repeat (first | refine blk_drewN ?_ _ | refine blk_drew ?_ | refine blk_alloc ?_ _));refine blk_put (cs:=#[.slice none 0 0,.slice none 0 0,.int .i64 0]) ?_ 0 _ rfl;(with_reducible repeat (first | refine blk_drewN ?_ _ | refine blk_drew ?_ | refine blk_alloc ?_ _));exact BK823.out⟩,⟨blw⟩⟩
   ·rw [if_neg c14] at H;have c14b0:((t809.length:Int) == (t816.length:Int))=false:=beq_eq_false_iff_ne.mpr c14;have c14b1:((t809.length:Int) != (t816.length:Int))=true:=bne_iff_ne.mpr c14;have c14b2:(t809.length == t816.length)=false:=by first | simpa using c14 | (simp at c14 ⊢;omega)
    have H':=Aside0.mk H;clear H;have hcz19_0:w9.cell? ⟨gb823,0,none⟩=some (.slice none 0 0):=(blk_cell BK823.out 0).trans rfl;have hcz19_1:w9.cell? ⟨gb823,1,none⟩=some (.slice none 0 0):=(blk_cell BK823.out 1).trans rfl;have hcz19_2:w9.cell? ⟨gb823,2,none⟩=some (.int .i64 0):=(blk_cell BK823.out 2).trans rfl;have hfz19_0:=blk_frozen BK823.out 0;have hfz19_1:=blk_frozen BK823.out 1;have hfz19_2:=blk_frozen BK823.out 2;obtain ⟨Ao20,co20,eo20⟩:=Kd.R_slice HO813.out;subst eo20;go_wp2;repeat (go_quiet (fail);try go_wp2)
    go_meet
    case rel=>exact ⟨_,(true),rsd,H',⟨by first | omega | exact Nat.le_refl _⟩,⟨by (with_reducible repeat (first | apply Kd.R_alloc | apply Kd.R_drewN | apply Kd.R_drew));exact Kd.R_mono (Kd.R_far (p:=⟨gb823,2,none⟩) (Kd.R_far (p:=⟨gb823,1,none⟩) (Kd.R_far (p:=⟨gb823,0,none⟩) (Kd.R_types HO813.out BK823.out (by decide)) (fun _ hk=>hk.2) (.slice Ao10 t816.length co10)) (fun _ hk=>hk.2) (.slice Ao12 t819.length co12)) (fun _ hk=>hk.2) (.int .i64 t822)) (fun _ hk=>hk.1.2)⟩,⟨by (with_reducible repeat (first | apply Kd.R_alloc | apply Kd.R_drewN | apply Kd.R_drew));exact Kd.R_mono (Kd.R_far (p:=⟨gb823,2,none⟩) (Kd.R_far (p:=⟨gb823,1,none⟩) (Kd.R_far (p:=⟨gb823,0,none⟩) (Kd.R_types HO818.out BK823.out (by decide)) (fun _ hk=>hk.2) (.slice Ao10 t816.length co10)) (fun _ hk=>hk.2) (.slice Ao12 t819.length co12)) (fun _ hk=>hk.2) (.int .i64 t822)) (fun _ hk=>hk.1.2)⟩,⟨by (with_reducible repeat (first | apply Kd.R_alloc | apply Kd.R_drewN | apply Kd.R_drew));exact Kd.R_mono (Kd.R_far (p:=⟨gb823,2,none⟩) (Kd.R_far (p:=⟨gb823,1,none⟩) (Kd.R_far (p:=⟨gb823,0,none⟩) (Kd.R_types HO821.out BK823.out (by decide)) (fun _ hk=>hk.2) (.slice Ao10 t816.length co10)) (fun _ hk=>hk.2) (.slice Ao12 t819.length co12)) (fun _ hk=>hk.2) (.int .i64 t822)) (fun _ hk=>trivial)⟩,⟨by (with_reducible repeat (first | refine blk_drewN ?_ _ | refine blk_drew ?_ | refine blk_alloc ?_ _));refine blk_put (cs:=#[.slice Ao10 t816.length co10,.slice Ao12 t819.length co12,.int .i64 0]) ?_ 2 _ rfl;(with_reducible repeat (first | refine blk_drewN ?_ _ | refine blk_drew ?_ | refine blk_alloc ?_ _));refine blk_put (cs:=#[.slice Ao10 t816.length co10,.slice none 0 0,.int .i64 0]) ?_ 1 _ rfl;(with_reducible repeat (first | refine blk_drewN ?_ _ | refine blk_drew ?_ | refine blk_alloc ?_ _));refine blk_put (cs:=#[.slice none 0 0,.slice none 0 0,.int .i64 0]) ?_ 0 _ rfl;(with_reducible repeat (first | refine blk_drewN ?_ _ | refine blk_drew ?_ | refine blk_alloc ?_ _));exact BK823.out⟩,⟨blw⟩⟩
  ·rw [if_neg c13] at H;have c13b0:(t811 == t822)=false:=beq_eq_false_iff_ne.mpr c13;have c13b1:(t811 != t822)=true:=bne_iff_ne.mpr c13;(first | rw [c13b0] | (simp only [i64_w,i32_w];rw [c13b0]) | skip);have H':=Aside0.mk H;clear H;have hcz21_0:w9.cell? ⟨gb823,0,none⟩=some (.slice none 0 0):=(blk_cell BK823.out 0).trans rfl;have hcz21_1:w9.cell? ⟨gb823,1,none⟩=some (.slice none 0 0):=(blk_cell BK823.out 1).trans rfl;have hcz21_2:w9.cell? ⟨gb823,2,none⟩=some (.int .i64 0):=(blk_cell BK823.out 2).trans rfl;have hfz21_0:=blk_frozen BK823.out 0;have hfz21_1:=blk_frozen BK823.out 1;have hfz21_2:=blk_frozen BK823.out 2;go_wp2;repeat (go_quiet (fail);try go_wp2)
   go_meet
   case rel=>exact ⟨_,(true),rsd,H',⟨by first | omega | exact Nat.le_refl _⟩,⟨by (with_reducible repeat (first | apply Kd.R_alloc | apply Kd.R_drewN | apply Kd.R_drew));exact Kd.R_mono (Kd.R_far (p:=⟨gb823,2,none⟩) (Kd.R_far (p:=⟨gb823,1,none⟩) (Kd.R_far (p:=⟨gb823,0,none⟩) (Kd.R_types HO813.out BK823.out (by decide)) (fun _ hk=>hk.2) (.slice Ao10 t816.length co10)) (fun _ hk=>hk.2) (.slice Ao12 t819.length co12)) (fun _ hk=>hk.2) (.int .i64 t822)) (fun _ hk=>hk.1.2)⟩,⟨by (with_reducible repeat (first | apply Kd.R_alloc | apply Kd.R_drewN | apply Kd.R_drew));exact Kd.R_mono (Kd.R_far (p:=⟨gb823,2,none⟩) (Kd.R_far (p:=⟨gb823,1,none⟩) (Kd.R_far (p:=⟨gb823,0,none⟩) (Kd.R_types HO818.out BK823.out (by decide)) (fun _ hk=>hk.2) (.slice Ao10 t816.length co10)) (fun _ hk=>hk.2) (.slice Ao12 t819.length co12)) (fun _ hk=>hk.2) (.int .i64 t822)) (fun _ hk=>hk.1.2)⟩,⟨by (with_reducible repeat (first | apply Kd.R_alloc | apply Kd.R_drewN | apply Kd.R_drew));exact Kd.R_mono (Kd.R_far (p:=⟨gb823,2,none⟩) (Kd.R_far (p:=⟨gb823,1,none⟩) (Kd.R_far (p:=⟨gb823,0,none⟩) (Kd.R_types HO821.out BK823.out (by decide)) (fun _ hk=>hk.2) (.slice Ao10 t816.length co10)) (fun _ hk=>hk.2) (.slice Ao12 t819.length co12)) (fun _ hk=>hk.2) (.int .i64 t822)) (fun _ hk=>trivial)⟩,⟨by (with_reducible repeat (first | refine blk_drewN ?_ _ | refine blk_drew ?_ | refine blk_alloc ?_ _));refine blk_put (cs:=#[.slice Ao10 t816.length co10,.slice Ao12 t819.length co12,.int .i64 0]) ?_ 2 _ rfl;(with_reducible repeat (first | refine blk_drewN ?_ _ | refine blk_drew ?_ | refine blk_alloc ?_ _));refine blk_put (cs:=#[.slice Ao10 t816.length co10,.slice none 0 0,.int .i64 0]) ?_ 1 _ rfl;(with_reducible repeat (first | refine blk_drewN ?_ _ | refine blk_drew ?_ | refine blk_alloc ?_ _));refine blk_put (cs:=#[.slice none 0 0,.slice none 0 0,.int .i64 0]) ?_ 0 _ rfl;(with_reducible repeat (first | refine blk_drewN ?_ _ | refine blk_drew ?_ | refine blk_alloc ?_ _));exact BK823.out⟩,⟨blw⟩⟩
 case rest =>
  clear HC5;try clear c1
  try clear p2
  try clear c12
  try clear c13
  try clear c13b0
  try clear c13b1
  try clear c14
  try clear c14b0
  try clear c14b1
  try clear c14b2
  try clear hcz11_0
  try clear hcz11_1
  try clear hcz11_2
  try clear hcz16_0
  try clear hcz16_1
  try clear hcz16_2
  try clear hcz19_0
  try clear hcz19_1
  try clear hcz19_2
  try clear hcz21_0
  try clear hcz21_1
  try clear hcz21_2
  try clear hfz11_0
  try clear hfz11_1
  try clear hfz11_2
  try clear hfz16_0
  try clear hfz16_1
  try clear hfz16_2
  try clear hfz19_0
  try clear hfz19_1
  try clear hfz19_2
  try clear hfz21_0
  try clear hfz21_1
  try clear hfz21_2
  obtain ⟨kq,x36_4,rfl,HA,HJ4,HO_4,HO_824000,HO_824001,BK823,HB⟩:=hcut;cases kq with
  | zero=>exact absurd HA.out (by simp [lzInsnSweeps.j0])
  | succ kj4 =>
   have H:=HA.out;clear HA;simp only [lzInsnSweeps.j0] at H;by_cases c22:x36_4=true
   ·subst c22;have H1:(some false)=some r:=by rw [if_pos rfl] at H;exact H
    clear H;have H:=H1;clear H1;obtain rfl:=Option.some.inj H;go_wp2;repeat (go_quiet (fail);try go_wp2)
    go_ret;exact ⟨rew,blw⟩
   ·replace c22:=Bool.eq_false_iff.mpr c22;subst c22;have H1:(lzInsnSweeps.l0 kj4 t808 t809 0 t816 t819 t822)=some r:=by rw [if_neg (show ¬ (false=true) by decide)] at H;exact H
    clear H;have H:=H1;clear H1;have H':=Aside0.mk H;clear H;go_wp2;repeat (go_quiet (fail);try go_wp2)
    try simp only [Act.put,List.setIfInBounds_toArray,List.set_cons_zero,List.set_cons_succ]
    go_loopg [8] kj4 (fun kq v8 w'=>∃ (x8_2:Int),v8=.int .i64 x8_2∧Aside0 (lzInsnSweeps.l0 kq t808 t809 x8_2 t816 t819 t822=some r)∧Aside0 (kq≤kj4)∧Aside0 (Kd.R k23 23 w' w.heap.size (fun k_=>some k_≠((.slice Ao10 t816.length co10):Value).ownBlock) v812 t809)∧Aside0 (Kd.R k23 23 w' w.heap.size (fun k_=>some k_≠(v812:Value).ownBlock) (.slice Ao10 t816.length co10) t816)∧Aside0 (Kd.R (Kd.int .i64) 3 w' w.heap.size (fun _=>True) (.slice Ao12 t819.length co12) t819)∧Aside0 (w'.heap[gb823]?=some (.cells #[(.slice Ao10 t816.length co10),(.slice Ao12 t819.length co12),.int .i64 t822] 70 (0,0)))∧Aside0 (Below w.heap.size w w'))
    case atStart=>exact ⟨(0),rsd,H',⟨Nat.le_refl _⟩,⟨by (with_reducible repeat (first | apply Kd.R_alloc | apply Kd.R_drewN | apply Kd.R_drew));exact HO_4.out⟩,⟨by (with_reducible repeat (first | apply Kd.R_alloc | apply Kd.R_drewN | apply Kd.R_drew));exact HO_824000.out⟩,⟨by (with_reducible repeat (first | apply Kd.R_alloc | apply Kd.R_drewN | apply Kd.R_drew));exact HO_824001.out⟩,⟨bko⟩,⟨blw⟩⟩
    case round =>
     clear H';try clear c1
     try clear c2
     try clear p2
     try clear c12
     try clear c13
     try clear c13b0
     try clear c13b1
     try clear c14
     try clear c14b0
     try clear c14b1
     try clear c14b2
     try clear c22
     try clear hcz11_0
     try clear hcz11_1
     try clear hcz11_2
     try clear hcz16_0
     try clear hcz16_1
     try clear hcz16_2
     try clear hcz19_0
     try clear hcz19_1
     try clear hcz19_2
     try clear hcz21_0
     try clear hcz21_1
     try clear hcz21_2
     try clear hfz11_0
     try clear hfz11_1
     try clear hfz11_2
     try clear hfz16_0
     try clear hfz16_1
     try clear hfz16_2
     try clear hfz19_0
     try clear hfz19_1
     try clear hfz19_2
     try clear hfz21_0
     try clear hfz21_1
     try clear hfz21_2
     try clear p2
     obtain ⟨x8_2,rfl,HA,HK2,HO_4,HO_824000,HO_824001,BK823,HB⟩:=hrel;cases gk with
     | zero=>exact absurd HA.out (by simp [lzInsnSweeps.l0])
     | succ k2 =>
      have H:=HA.out;clear HA;simp only [lzInsnSweeps.l0] at H;by_cases c23:x8_2 < (t809.length:Int)
      ·rw [if_pos c23] at H;have c23b0:decide (x8_2 < (t809.length:Int))=true:=decide_eq_true c23;clear c23;by_cases c24:0≤x8_2
       ·rw [if_pos c24] at H;have c24b0:decide (0≤x8_2)=true:=decide_eq_true c24;clear c24;by_cases c25:x8_2 < (t816.length:Int)
        ·rw [if_pos c25] at H;have c25b0:decide (x8_2 < (t816.length:Int))=true:=decide_eq_true c25;clear c25;by_cases c26:(!(((rd_T23 t809 x8_2).f0) == ((rd_T23 t816 x8_2).f0)) || (!(((rd_T23 t809 x8_2).f1) == ((rd_T23 t816 x8_2).f1)) || (!(((rd_T23 t809 x8_2).f2) == ((rd_T23 t816 x8_2).f2)) || (!(((rd_T23 t809 x8_2).f3) == ((rd_T23 t816 x8_2).f3))))))=true
         ·rw [if_pos c26] at H;have c26b0:(!(((rd_T23 t809 x8_2).f0) == ((rd_T23 t816 x8_2).f0)) || (!(((rd_T23 t809 x8_2).f1) == ((rd_T23 t816 x8_2).f1)) || (!(((rd_T23 t809 x8_2).f2) == ((rd_T23 t816 x8_2).f2)) || (!(((rd_T23 t809 x8_2).f3) == ((rd_T23 t816 x8_2).f3))))))=true:=c26;clear c26;obtain rfl:=Option.some.inj H;obtain ⟨Ao27,co27,eo27⟩:=Kd.R_slice HO_4.out;subst eo27;have p825:0≤(x8_2:Int):=of_decide_eq_true asm;have q825:x8_2 < (t809.length:Int):=of_decide_eq_true asm;obtain ⟨ad825,e825,hx825_0,hx825_1,hx825_2,hx825_3⟩:=at_T23 (Kd.R_reads' HO_4.out).2.2 x8_2 p825 q825;cases e825;replace p825:=eq_true p825;replace q825:=eq_true q825;have hcz28_0:wr.cell? ⟨gb823,0,none⟩=some (.slice Ao10 t816.length co10):=(blk_cell BK823.out 0).trans rfl;have hcz28_1:wr.cell? ⟨gb823,1,none⟩=some (.slice Ao12 t819.length co12):=(blk_cell BK823.out 1).trans rfl;have hcz28_2:wr.cell? ⟨gb823,2,none⟩=some (.int .i64 t822):=(blk_cell BK823.out 2).trans rfl;have hfz28_0:=blk_frozen BK823.out 0;have hfz28_1:=blk_frozen BK823.out 1;have hfz28_2:=blk_frozen BK823.out 2;have p826:0≤(x8_2:Int):=of_decide_eq_true asm;have q826:x8_2 < (t816.length:Int):=of_decide_eq_true asm;obtain ⟨ad826,e826,hx826_0,hx826_1,hx826_2,hx826_3⟩:=at_T23 (Kd.R_reads' HO_824000.out).2.2 x8_2 p826 q826;cases e826;replace p826:=eq_true p826;replace q826:=eq_true q826;go_wp2;repeat (go_quiet (fail);try go_wp2)
          go_ret;exact ⟨rew,blw⟩
         ·rw [if_neg c26] at H;have c26b0:(!(((rd_T23 t809 x8_2).f0) == ((rd_T23 t816 x8_2).f0)) || (!(((rd_T23 t809 x8_2).f1) == ((rd_T23 t816 x8_2).f1)) || (!(((rd_T23 t809 x8_2).f2) == ((rd_T23 t816 x8_2).f2)) || (!(((rd_T23 t809 x8_2).f3) == ((rd_T23 t816 x8_2).f3))))))=false:=by simpa using c26
          clear c26;have H':=Aside0.mk H;clear H;obtain ⟨Ao29,co29,eo29⟩:=Kd.R_slice HO_4.out;subst eo29;have p825:0≤(x8_2:Int):=of_decide_eq_true asm;have q825:x8_2 < (t809.length:Int):=of_decide_eq_true asm;obtain ⟨ad825,e825,hx825_0,hx825_1,hx825_2,hx825_3⟩:=at_T23 (Kd.R_reads' HO_4.out).2.2 x8_2 p825 q825;cases e825;replace p825:=eq_true p825;replace q825:=eq_true q825;have hcz30_0:wr.cell? ⟨gb823,0,none⟩=some (.slice Ao10 t816.length co10):=(blk_cell BK823.out 0).trans rfl;have hcz30_1:wr.cell? ⟨gb823,1,none⟩=some (.slice Ao12 t819.length co12):=(blk_cell BK823.out 1).trans rfl;have hcz30_2:wr.cell? ⟨gb823,2,none⟩=some (.int .i64 t822):=(blk_cell BK823.out 2).trans rfl;have hfz30_0:=blk_frozen BK823.out 0;have hfz30_1:=blk_frozen BK823.out 1;have hfz30_2:=blk_frozen BK823.out 2;have p826:0≤(x8_2:Int):=of_decide_eq_true asm;have q826:x8_2 < (t816.length:Int):=of_decide_eq_true asm;obtain ⟨ad826,e826,hx826_0,hx826_1,hx826_2,hx826_3⟩:=at_T23 (Kd.R_reads' HO_824000.out).2.2 x8_2 p826 q826;cases e826;replace p826:=eq_true p826;replace q826:=eq_true q826;go_wp2;repeat (go_quiet (fail);try go_wp2)
          go_roundg k2
          case measure=>have:=HJ4.out;have:=HK2.out;omega
          case rel=>exact ⟨(wrap64 (x8_2+1)),rsd,H',⟨by have:=HJ4.out;have:=HK2.out;omega⟩,⟨by (with_reducible repeat (first | apply Kd.R_alloc | apply Kd.R_drewN | apply Kd.R_drew));exact HO_4.out⟩,⟨by (with_reducible repeat (first | apply Kd.R_alloc | apply Kd.R_drewN | apply Kd.R_drew));exact HO_824000.out⟩,⟨by (with_reducible repeat (first | apply Kd.R_alloc | apply Kd.R_drewN | apply Kd.R_drew));exact HO_824001.out⟩,⟨bko⟩,⟨blw⟩⟩
        ·rw [if_neg c25] at H;exact absurd H (by simp)
       ·rw [if_neg c24] at H;exact absurd H (by simp)
      ·rw [if_neg c23] at H;have c23b0:decide (x8_2 < (t809.length:Int))=false:=decide_eq_false c23;clear c23;obtain rfl:=Option.some.inj H;obtain ⟨Ao31,co31,eo31⟩:=Kd.R_slice HO_4.out;subst eo31;go_wp2;repeat (go_quiet (fail);try go_wp2)
       go_ret;exact ⟨rew,blw⟩
def lzInsnSweeps.Pure:Prop:=∀ (l0:List Int),l0.length≤maxLen→l0.length * 1≤140737488351232→(∀ x∈l0,(Lit.int .u8 x).wf=true)→∃ k,lzInsnSweeps.f k l0=some true
theorem lzInsnSweeps.walk (P:lzInsnSweeps.Pure) (a0:Option Addr) (len0 cap0:Nat) (z0:List Int) (w:World) (w0:(a0=none∧len0=0∧cap0=0∧z0=[])∨∃ x,a0=some x∧len0≤cap0∧cap0≤maxLen∧z0.length=cap0∧(∀ i,i < z0.length→w.cell? (x.add i)=some (.int .u8 (z0.getD i 0)))∧∀ n∈z0,(Lit.int .u8 n).wf=true) (y0:len0 * 1≤140737488351232) (hgw:GW w) :
  Calls Tryz.prog 12 #[.slice a0 len0 cap0] w fun e w'=>e=.returned (.bool true)∧Below w.heap.size w w':=by
 obtain ⟨l0,rfl,hr0,hm0,hw0,hc0⟩:=ReadsInt.ofRowC w0;obtain ⟨k,h⟩:=P l0 hm0 y0 hw0;refine (lzInsnSweeps.calls k _ _ l0 true w (Kd.C_of_reads (d:=(0:Int)) (h1:=fun _=>rfl) hr0) hc0 h (by (first | exact hgw | exact hgw.below (by repeat (first | (with_reducible first | exact HB.out | apply below_alloc | apply pw_below_drewN | apply below_drew1 | refine below_set ?_ (by first | assumption | exact Aside0.out (by assumption))) | exact HB.out)) (Nat.le_refl _)))).mono ?_;rintro e w' ⟨rfl,hd⟩;exact ⟨rfl,hd⟩
end Go.Proofs.YtffojmgmpfjlhaaGreatDoor.Q
namespace Go.Proofs.YtffojmgmpfjlhaaGreatDoor.Q
open Go.Proofs.Ix hiding rd
open Go.Proofs.YtffojmgmpfjlhaaGreatDoor Go.RowKit Go.Proofs.YtffojmgmpfjlhaaGreatDoorW.PrintWords
theorem wrap_addn {i j:Nat} (h:i+j≤1000000):wrap64 ((i:Int)+((j:Nat):Int))=((i+j:Nat):Int):=by
 simp only [wrap64]
 omega
theorem sweep_both (l:List Int) (hb:Byt l) (hl:l.length≤2048):∀ (m i:Nat) (L:List S23) (A:List Int) (k:Nat),l.length - i < m→i≤l.length→L.length≤i→A.length≤i→m+200≤k →
  ∃ r,insn_Sweep.l0 k l L A (i:Int)=some r∧rzSweep.l0 k l (i:Int) L A 0=some r∧r.1.length≤2048∧r.2.1.length≤2048
 | 0,i,L,A,k,h1,h2,h3,h4,h5=>by omega
 | m+1,i,L,A,k,h1,h2,h3,h4,h5=>by
  obtain ⟨k,rfl⟩:∃ q,k=q+100+1:=⟨k - 101,by omega⟩
  unfold insn_Sweep.l0 rzSweep.l0
  by_cases c:i=l.length
  ·rw [if_neg (by omega),if_neg (by omega)]
   exact ⟨_,rfl,rfl,by show L.length≤_;omega,by show A.length≤_;omega⟩
  ·rw [if_pos (by omega),if_pos (by omega),if_pos (by omega),if_pos (by omega),if_pos (by omega),if_pos (by omega),Int.toNat_natCast,
    show k+100=(k+40)+60 from rfl,decode_f _ (by simp;omega),show k+40+60=k+100 from rfl,rdecode_f _ (hb.drop i) (by simp;omega),Option.bind_some,Option.bind_some]
   by_cases he:(decD (l.drop i)).2.2.2.2.2=0
   ·obtain ⟨n,hn,hn1,_,hnl,_⟩:=dec_ok he
    rw [List.length_drop] at hnl
    rw [if_pos he,if_pos he,if_pos (by omega),if_pos (by omega),if_pos (by omega),if_pos (by omega),hn,wrap_addn (by omega)]
    exact sweep_both l hb hl m (i+n) _ _ (k+100) (by omega) (by omega) (by simp;omega) (by simp;omega) (by omega)
   ·rw [if_neg he,if_neg he]
    exact ⟨_,rfl,rfl,Nat.zero_le _,Nat.zero_le _⟩
theorem ints_l0 (a:List Int) (h:a.length≤2048):∀ (d i k:Nat),i+d=a.length→d < k→lzsameInts.l0 k a a (i:Int)=some true
 | 0,i,k,h1,h2=>by
  obtain ⟨k,rfl⟩:∃ m,k=m+1:=⟨k - 1,by omega⟩
  rw [lzsameInts.l0,if_neg (by omega)]
 | d+1,i,k,h1,h2=>by
  obtain ⟨k,rfl⟩:∃ m,k=m+1:=⟨k - 1,by omega⟩
  rw [lzsameInts.l0,if_pos (by omega),if_pos (by omega),if_pos (by omega),if_pos rfl,wrap_succ (by omega)]
  exact ints_l0 a h d (i+1) k (by omega) (by omega)
theorem ints_same (a:List Int) (h:a.length≤2048) (k:Nat) (hk:2048 < k):lzsameInts.f k a a=some true:=by
 unfold lzsameInts.f
 rw [if_pos rfl]
 exact ints_l0 a h a.length 0 k (by omega) (by omega)
theorem sweeps_l0 (L:List S23) (h:L.length≤2048) (A:List Int) (e:Int):∀ (d i k:Nat),i+d=L.length→d < k→lzInsnSweeps.l0 k true L (i:Int) L A e=some true
 | 0,i,k,h1,h2=>by
  obtain ⟨k,rfl⟩:∃ m,k=m+1:=⟨k - 1,by omega⟩
  rw [lzInsnSweeps.l0,if_neg (by omega)]
 | d+1,i,k,h1,h2=>by
  obtain ⟨k,rfl⟩:∃ m,k=m+1:=⟨k - 1,by omega⟩
  rw [lzInsnSweeps.l0,if_pos (by omega),if_pos (by omega),if_pos (by omega),if_neg (by simp),wrap_succ (by omega)]
  exact sweeps_l0 L h A e d (i+1) k (by omega) (by omega)
theorem InsnSweeps_pure:lzInsnSweeps.Pure:=by
 intro l _ hl hb
 refine ⟨3000,?_⟩
 obtain ⟨r,h1,h2,h3,h4⟩:∃ r,insn_Sweep.f 3000 l=some r∧rzSweep.f 3000 l=some r∧r.1.length≤2048∧r.2.1.length≤2048:=by
  unfold insn_Sweep.f rzSweep.f
  by_cases c:(l.length:Int) > 2048
  ·rw [if_pos c,if_pos c]
   exact ⟨_,rfl,rfl,Nat.zero_le _,Nat.zero_le _⟩
  ·rw [if_neg c,if_neg c]
   exact sweep_both l hb (by omega) 2049 0 [] [] 3000 (by omega) (by omega) (Nat.zero_le _) (Nat.zero_le _) (by omega)
 unfold lzInsnSweeps.f
 rw [sane_true 2900,Option.bind_some,h1,h2,Option.bind_some,Option.bind_some,if_pos rfl,if_pos rfl,ints_same _ h4 3000 (by omega),Option.bind_some]
 show lzInsnSweeps.j0 (2999+1) _ _ _ _ _ _=_
 rw [lzInsnSweeps.j0,if_neg (by decide)]
 exact sweeps_l0 r.1 h3 _ _ r.1.length 0 2999 (by omega) (by omega)
end Go.Proofs.YtffojmgmpfjlhaaGreatDoor.Q
namespace Go.Proofs.YtffojmgmpfjlhaaGreatDoor.insnSweeps
open Go.ChangeShapes Go.WideShapes Go.ChangeAt Go.RowKit
open Go.ChangeMaps (open_string shut_string)
set_option maxRecDepth 100000 in
theorem lifted (os:Os) (started:os.Started) (H:Type) (enc:TypeId × Value→H) :
  ReturnsInHanded {} Tryz.checked os 12 .any (fun w args=>(Rows.insnSweepsSpec.pre enc Tryz.prog Tryz.f12 [] false w args∧laidMetH Tryz.prog insnLaid w)∧sizedMet enc Tryz.prog Tryz.f12 (OpenSpec.ofChange Rows.insnSweepsSpec) false w args)
   (Rows.insnSweepsSpec.post enc Tryz.prog Tryz.f12 false true false false):=by
 refine handed_and_shaped (C:=Tryz.checked) (X:=fun w _=>laidMetH Tryz.prog insnLaid w) (fun _ _ _ hh h=>h.of_heap hh) own started (by kernel_rfl) Tryz.func12
  (ChangeSpec.witness_shaped (enc:=enc) (C:=Tryz.checked) (os:=os) (X:=fun w _=>laidMetH Tryz.prog insnLaid w) false (World.laidAll Tryz.prog os insnLaid) #[.slice none 0 0] 8 rfl (laid_shaped os) (by kernel_rfl) (by kernel_rfl) (by kernel_rfl) (laid_met os _)) ?_
 intro W base args ds gs before hval0 hW hcnd hsz0 hL hsh _
 have hgw:=of_laid hL hsh
 clear hL hsh
 have hsz:(DataW.weightsEach Tryz.prog (Tryz.f12.params.toList ++ Rows.insnSweepsSpec.plain.varTypes Tryz.prog) (ds ++ gs)).all (·≤reachBytes)=true:=hsz0
 have hval:∀ (j:Nat) t v,Tryz.f12.params[j]?=some t→args[j]?=some v→Value.okWide Tryz.prog W .any base t v:=hval0
 have hW':=hW
 obtain ⟨p,q,hA0,hV,rfl,hfz,hnd⟩:=hW
 have hA:DataW.TrodAll enc Tryz.prog W 0 (fun _=>true) true Tryz.f12.params.toList args.toList ds p:=hA0
 rw [Tryz.params12] at hA hval hsz
 obtain ⟨v0,vs0,d0,ds0,p0,q0,hargs,rfl,rfl,h0,r0⟩:=trodAll_cons hA
 obtain ⟨rfl,rfl,rfl⟩:=trodAll_nil r0
 obtain rfl:args=#[v0]:=by cases args;simp_all
 obtain ⟨rfl,rfl⟩:=trodVars_none hV
 have k0:=h0
 have lt0:∀ x∈p0,x.block < W.heap.size:=by obtain ⟨m,hm⟩:=k0;exact DataW.trod_lt m _ _ _ hm
 obtain ⟨a0,len0,cap0,z0,rfl,w0,y0⟩:=Q.open_bytes (hval 0 24 v0 rfl rfl) h0 hsz (j:=0) rfl rfl
 clear hA0 hval0 hsz0 hsz
 refine (Q.lzInsnSweeps.walk Q.InsnSweeps_pure a0 len0 cap0 z0 W w0 y0 hgw).mono fun e W' ⟨he,bel⟩=>?_
 subst he
 exact ⟨_,rfl,_,_,_,[],_,[],hW',trodAll_mk1 (shut_bool Tryz.underlying4 _),(trodAll_cons_mk (Below.trod Q.laidOut (by kernel_rfl) (of_decide_eq_true (by kernel_rfl)) k0 bel lt0) trodAll_mk0),rfl,bel.frame _,fun h=>by cases h⟩
theorem over:Rows.InsnSweepsSaid :=
 OpenClaim.holds_of_wide 12 Tryz.f12 rfl rfl rfl rfl rfl rfl rfl ⟨rfl,rfl,rfl,rfl,rfl⟩ rfl rfl rfl rfl rfl (by kernel_rfl) Tryz.func12 (by kernel_rfl)
  (of_decide_eq_true (by kernel_rfl)) (by unfold Func.isWrapper;first | (rw [if_pos (by decide +kernel)];kernel_rfl) | (rw [if_neg (by decide +kernel)];exact ⟨rfl,rfl⟩))
  (fun os started H enc _=>lifted os started H enc)
end Go.Proofs.YtffojmgmpfjlhaaGreatDoor.insnSweeps
namespace Go.Proofs.YtffojmgmpfjlhaaGreatDoor
theorem insnSweeps_card:Rows.InsnSweepsCardSaid :=
 Claim7.holds_tied_plain_at .later [] [.data,.data,.data,.data,.sentinel,.sentinel,.data,.pinned] true (true, "80711ac449649a074bc558eb23188a5f300da04a61053c1048030e6933e8af92") true
  insnSweeps.over (fun _ h=>by cases h) (by kernel_rfl) (fun _ h=>by cases h) insnSweeps_row_tie rfl ⟨rfl,rfl⟩ (by kernel_rfl) rfl
  (fun f fn hf hfn=>by
   obtain rfl:f=12:=Option.some.inj ((show Tryz.prog.funcNamed "tapline/taplinelaw02.InsnSweeps" = some 12 by kernel_rfl).symm.trans hf) |>.symm
   obtain rfl:fn=Tryz.f12:=(Option.some.inj (Tryz.func12.symm.trans hfn)).symm
   exact ⟨by kernel_rfl,fun j t ht=>by
    rw [Tryz.params12] at ht
    have hm:t∈[24]:=by simpa using Array.mem_of_getElem? ht
    have hall:([24].all fun u=>!Tryz.prog.wantsStandIn u)=true:=by kernel_rfl
    exact (show Tryz.prog.wantsStandIn t=false by simpa using List.all_eq_true.1 hall t hm)⟩)
  (by kernel_rfl)
#print axioms insnSweeps_card
end Go.Proofs.YtffojmgmpfjlhaaGreatDoor
