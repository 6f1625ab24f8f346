/- Parts of the proof that the program's token functions return what the specification's return. -/
import Derived.Test.YtadgddipkbdnbaaGreatDoorLexTokensZ1
import Derived.Test.YtadgddipkbdnbaaGreatDoorLexTokensZ2
import Derived.Test.YtadgddipkbdnbaaGreatDoorLexTokensZ3
import Derived.Test.YtadgddipkbdnbaaGreatDoorLexTokensZ4
set_option linter.unusedVariables false
set_option linter.unusedSimpArgs false
namespace Go.Proofs.YtadgddipkbdnbaaGreatDoor.Q
open Go.Proofs.YtadgddipkbdnbaaGreatDoor Go.RowKit Go.Proofs.YtadgddipkbdnbaaGreatDoorW.PrintWords Go.Proofs.YtadgddipkbdnbaaGreatDoorW.PrintLast Go.Proofs.YtadgddipkbdnbaaGreatDoorW.PrintMore
attribute [local go_sem] max2_int min2_int max_two min_two max_three min_three max_four min_four
def rzisLetter.f (a0:Int):Option (Bool):=if a0≥65 then (if a0≤90 then (some true) else (if a0≥97 then (if a0≤122 then (some true) else (some (a0 == 95))) else (some (a0 == 95)))) else (if a0≥97 then (if a0≤122 then (some true) else (some (a0 == 95))) else (some (a0 == 95)))
set_option maxHeartbeats 8000000 in
set_option maxRecDepth 100000 in
theorem rzisLetter.calls (a0:Int) (r:Bool) (w:World) (h:rzisLetter.f a0=some r) :
  Calls Tryz.prog 78 #[.int .u8 a0] w fun e w'=>e=.returned (.bool r)∧Drawn0 w w':=by
 have H:(if a0≥65 then (if a0≤90 then (some true) else (if a0≥97 then (if a0≤122 then (some true) else (some (a0 == 95))) else (some (a0 == 95)))) else (if a0≥97 then (if a0≤122 then (some true) else (some (a0 == 95))) else (some (a0 == 95))))=some r:=h;clear h;by_cases c2:a0≥65
 ·rw [if_pos c2] at H;have c2b0:decide (65≤a0)=true:=decide_eq_true c2;clear c2;by_cases c3:a0≤90
  ·rw [if_pos c3] at H;have c3b0:decide (a0≤90)=true:=decide_eq_true c3;clear c3;obtain rfl:=Option.some.inj H;go_enter Tryz.func78,Tryz.ntmps78
   go_wp2;go_ret;exact ⟨by first | rfl | (simp;done) | (simp [*];done),by repeat (first | exact Drawn0.refl _ | apply Drawn0.step)⟩
  ·rw [if_neg c3] at H;have c3b0:decide (a0≤90)=false:=decide_eq_false c3;clear c3;by_cases c4:a0≥97
   ·rw [if_pos c4] at H;have c4b0:decide (97≤a0)=true:=decide_eq_true c4;clear c4;by_cases c5:a0≤122
    ·rw [if_pos c5] at H;have c5b0:decide (a0≤122)=true:=decide_eq_true c5;clear c5;obtain rfl:=Option.some.inj H;go_enter Tryz.func78,Tryz.ntmps78
     go_wp2;go_ret;exact ⟨by first | rfl | (simp;done) | (simp [*];done),by repeat (first | exact Drawn0.refl _ | apply Drawn0.step)⟩
    ·rw [if_neg c5] at H;have c5b0:decide (a0≤122)=false:=decide_eq_false c5;clear c5;obtain rfl:=Option.some.inj H;go_enter Tryz.func78,Tryz.ntmps78
     go_wp2;go_ret;exact ⟨by first | rfl | (simp;done) | (simp [*];done),by repeat (first | exact Drawn0.refl _ | apply Drawn0.step)⟩
   ·rw [if_neg c4] at H;have c4b0:decide (97≤a0)=false:=decide_eq_false c4;clear c4;obtain rfl:=Option.some.inj H;go_enter Tryz.func78,Tryz.ntmps78
    go_wp2;go_ret;exact ⟨by first | rfl | (simp;done) | (simp [*];done),by repeat (first | exact Drawn0.refl _ | apply Drawn0.step)⟩
 ·rw [if_neg c2] at H;have c2b0:decide (65≤a0)=false:=decide_eq_false c2;clear c2;by_cases c6:a0≥97
  ·rw [if_pos c6] at H;have c6b0:decide (97≤a0)=true:=decide_eq_true c6;clear c6;by_cases c7:a0≤122
   ·rw [if_pos c7] at H;have c7b0:decide (a0≤122)=true:=decide_eq_true c7;clear c7;obtain rfl:=Option.some.inj H;go_enter Tryz.func78,Tryz.ntmps78
    go_wp2;go_ret;exact ⟨by first | rfl | (simp;done) | (simp [*];done),by repeat (first | exact Drawn0.refl _ | apply Drawn0.step)⟩
   ·rw [if_neg c7] at H;have c7b0:decide (a0≤122)=false:=decide_eq_false c7;clear c7;obtain rfl:=Option.some.inj H;go_enter Tryz.func78,Tryz.ntmps78
    go_wp2;go_ret;exact ⟨by first | rfl | (simp;done) | (simp [*];done),by repeat (first | exact Drawn0.refl _ | apply Drawn0.step)⟩
  ·rw [if_neg c6] at H;have c6b0:decide (97≤a0)=false:=decide_eq_false c6;clear c6;obtain rfl:=Option.some.inj H;go_enter Tryz.func78,Tryz.ntmps78
   go_wp2;go_ret;exact ⟨by first | rfl | (simp;done) | (simp [*];done),by repeat (first | exact Drawn0.refl _ | apply Drawn0.step)⟩
def rzisDescByte.j0:Nat→Int→Bool→Option (Bool)
 | 0,_,_=>none
 | k+1,x0,x8=>if x8=true then (some true) else (if x0=58 then (some true) else (if x0=42 then (some true) else (if x0=63 then (some true) else (if x0=91 then (some true) else (if x0=93 then (some true) else (if x0=33 then (some true) else (if x0=94 then (some true) else (if x0=45 then (some true) else (if x0=46 then (some true) else (if x0=92 then (some true) else (some false)))))))))))
def rzisDescByte.f (k:Nat) (a0:Int):Option (Bool):=(rzisLetter.f a0).bind fun t120=>(if t120=true then (rzisDescByte.j0 k a0 true) else ((rzisDigit.f a0).bind fun t121=>(rzisDescByte.j0 k a0 t121)))
theorem rzisDescByte.mono_l:∀ k,(∀ y0 y1,LeO (rzisDescByte.j0 k y0 y1) (rzisDescByte.j0 (k+1) y0 y1))
 | 0=>fun _ _ r h=>by simp [rzisDescByte.j0] at h
 | k+1=>by
  have ih0:=rzisDescByte.mono_l k
  ·intro y0 y1;unfold rzisDescByte.j0;repeat' first
   | (with_reducible exact ih0 _ _)
   | (with_reducible exact LeO.refl _)
   | (with_reducible exact LeO.none _)
   | (with_reducible refine LeO.ite ?_ ?_)
   | (with_reducible refine LeO.bind ?_ (fun _=>?_))
   | exact LeO.none _
   | refine LeO.ite ?_ ?_
   | refine LeO.bind ?_ (fun _=>?_)
theorem rzisDescByte.mono:∀ a0 k,LeO (rzisDescByte.f k a0) (rzisDescByte.f (k+1) a0):=by
 intro a0 k;have ih0:=rzisDescByte.mono_l k;unfold rzisDescByte.f;repeat' first
   | (with_reducible exact ih0 _ _)
   | (with_reducible exact LeO.refl _)
   | (with_reducible exact LeO.none _)
   | (with_reducible refine LeO.ite ?_ ?_)
   | (with_reducible refine LeO.bind ?_ (fun _=>?_))
   | exact LeO.none _
   | refine LeO.ite ?_ ?_
   | refine LeO.bind ?_ (fun _=>?_)
set_option maxHeartbeats 8000000 in
set_option maxRecDepth 100000 in
theorem rzisDescByte.calls (k:Nat) (a0:Int) (r:Bool) (w:World) (h:rzisDescByte.f k a0=some r) :
  Calls Tryz.prog 70 #[.int .u8 a0] w fun e w'=>e=.returned (.bool r)∧Drawn0 w w':=by
 have H:((rzisLetter.f a0).bind fun t120=>(if t120=true then (rzisDescByte.j0 k a0 true) else ((rzisDigit.f a0).bind fun t121=>(rzisDescByte.j0 k a0 t121))))=some r:=h;clear h;have HC2:=Aside0.mk H;clear H;go_enter Tryz.func70,Tryz.ntmps70
 go_upto_region 1 with (fail)
 go_cut [8] (fun v8 wc=>∃ (kq:Nat) (x8_1:Bool),v8=.bool x8_1∧Aside0 (rzisDescByte.j0 kq a0 x8_1=some r)∧Aside0 (kq≤k)∧Drawn0 w wc)
 case first =>
  have H:=HC2.out;clear HC2;replace H:=Option.bind_eq_some_iff.mp H;obtain ⟨t120,A30,H⟩:=H;replace H:(if t120=true then (rzisDescByte.j0 k a0 true) else ((rzisDigit.f a0).bind fun t121=>(rzisDescByte.j0 k a0 t121)))=some r:=H;have A3:=Aside0.mk A30;clear A30;by_cases c4:t120=true
  ·subst c4;have H1:(rzisDescByte.j0 k a0 true)=some r:=by rw [if_pos rfl] at H;exact H
   clear H;have H:=H1;clear H1;have H':=Aside0.mk H;clear H;go_wp2_with (first | ((with_reducible refine gate_callee (f:=78) rfl ?_);refine goesL_ (some 4) rfl rfl Tryz.func78 (by kernel_rfl) rfl #[.int .u8 a0] rfl fq ?_;(with_reducible refine (rzisLetter.calls a0 true _ A3.out).mono ?_);rintro e w' ⟨rfl,⟨nd,rfl⟩⟩;refine ⟨_,rfl,?_⟩))
   go_meet
   case rel=>exact ⟨_,(true),rsd,H',⟨by first | omega | exact Nat.le_refl _⟩,by repeat (first | exact Drawn0.refl _ | apply Drawn0.step)⟩
  ·replace c4:=Bool.eq_false_iff.mpr c4;subst c4;have H1:((rzisDigit.f a0).bind fun t121=>(rzisDescByte.j0 k a0 t121))=some r:=by rw [if_neg (show ¬ (false=true) by decide)] at H;exact H
   clear H;have H:=H1;clear H1;replace H:=Option.bind_eq_some_iff.mp H;obtain ⟨t121,A50,H⟩:=H;replace H:(rzisDescByte.j0 k a0 t121)=some r:=H;have A5:=Aside0.mk A50;clear A50;have H':=Aside0.mk H;clear H;go_wp2_with (first | ((with_reducible refine gate_callee (f:=78) rfl ?_);refine goesL_ (some 4) rfl rfl Tryz.func78 (by kernel_rfl) rfl #[.int .u8 a0] rfl fq ?_;(with_reducible refine (rzisLetter.calls a0 false _ A3.out).mono ?_);rintro e w' ⟨rfl,⟨nd,rfl⟩⟩;refine ⟨_,rfl,?_⟩) | (go_at_call 80;(with_reducible refine (rzisDigit.calls a0 t121 _ A5.out).mono ?_);rintro e w' ⟨rfl,⟨nd,rfl⟩⟩))
   go_meet
   case rel=>exact ⟨_,(t121),rsd,H',⟨by first | omega | exact Nat.le_refl _⟩,by repeat (first | exact Drawn0.refl _ | apply Drawn0.step)⟩
 case rest =>
  clear HC2;try clear p2
  try clear c4
  obtain ⟨kq,x8_1,rfl,HA,HJ1,⟨mc1,rfl⟩⟩:=hcut;cases kq with
  | zero=>exact absurd HA.out (by simp [rzisDescByte.j0])
  | succ kj1 =>
   have H:=HA.out;clear HA;simp only [rzisDescByte.j0] at H;by_cases c6:x8_1=true
   ·subst c6;have H1:(some true)=some r:=by rw [if_pos rfl] at H;exact H
    clear H;have H:=H1;clear H1;obtain rfl:=Option.some.inj H;go_wp2;go_ret;exact ⟨by first | rfl | (simp;done) | (simp [*];done),by repeat (first | exact Drawn0.refl _ | apply Drawn0.step)⟩
   ·replace c6:=Bool.eq_false_iff.mpr c6;subst c6;have H1:(if a0=58 then (some true) else (if a0=42 then (some true) else (if a0=63 then (some true) else (if a0=91 then (some true) else (if a0=93 then (some true) else (if a0=33 then (some true) else (if a0=94 then (some true) else (if a0=45 then (some true) else (if a0=46 then (some true) else (if a0=92 then (some true) else (some false)))))))))))=some r:=by rw [if_neg (show ¬ (false=true) by decide)] at H;exact H
    clear H;have H:=H1;clear H1;by_cases c7:a0=58
    ·rw [if_pos c7] at H;have c7b0:(a0 == 58)=true:=beq_iff_eq.mpr c7;have c7b1:(a0 != 58)=false:=bne_eq_false_iff_eq.mpr c7;clear c7;obtain rfl:=Option.some.inj H;go_wp2;go_ret;exact ⟨by first | rfl | (simp;done) | (simp [*];done),by repeat (first | exact Drawn0.refl _ | apply Drawn0.step)⟩
    ·rw [if_neg c7] at H;have c7b0:(a0 == 58)=false:=beq_eq_false_iff_ne.mpr c7;have c7b1:(a0 != 58)=true:=bne_iff_ne.mpr c7;by_cases c8:a0=42
     ·rw [if_pos c8] at H;have c8b0:(a0 == 42)=true:=beq_iff_eq.mpr c8;have c8b1:(a0 != 42)=false:=bne_eq_false_iff_eq.mpr c8;clear c8;obtain rfl:=Option.some.inj H;go_wp2;go_ret;exact ⟨by first | rfl | (simp;done) | (simp [*];done),by repeat (first | exact Drawn0.refl _ | apply Drawn0.step)⟩
     ·rw [if_neg c8] at H;have c8b0:(a0 == 42)=false:=beq_eq_false_iff_ne.mpr c8;have c8b1:(a0 != 42)=true:=bne_iff_ne.mpr c8;by_cases c9:a0=63
      ·rw [if_pos c9] at H;have c9b0:(a0 == 63)=true:=beq_iff_eq.mpr c9;have c9b1:(a0 != 63)=false:=bne_eq_false_iff_eq.mpr c9;clear c9;obtain rfl:=Option.some.inj H;go_wp2;go_ret;exact ⟨by first | rfl | (simp;done) | (simp [*];done),by repeat (first | exact Drawn0.refl _ | apply Drawn0.step)⟩
      ·rw [if_neg c9] at H;have c9b0:(a0 == 63)=false:=beq_eq_false_iff_ne.mpr c9;have c9b1:(a0 != 63)=true:=bne_iff_ne.mpr c9;by_cases c10:a0=91
       ·rw [if_pos c10] at H;have c10b0:(a0 == 91)=true:=beq_iff_eq.mpr c10;have c10b1:(a0 != 91)=false:=bne_eq_false_iff_eq.mpr c10;clear c10;obtain rfl:=Option.some.inj H;go_wp2;go_ret;exact ⟨by first | rfl | (simp;done) | (simp [*];done),by repeat (first | exact Drawn0.refl _ | apply Drawn0.step)⟩
       ·rw [if_neg c10] at H;have c10b0:(a0 == 91)=false:=beq_eq_false_iff_ne.mpr c10;have c10b1:(a0 != 91)=true:=bne_iff_ne.mpr c10;by_cases c11:a0=93
        ·rw [if_pos c11] at H;have c11b0:(a0 == 93)=true:=beq_iff_eq.mpr c11;have c11b1:(a0 != 93)=false:=bne_eq_false_iff_eq.mpr c11;clear c11;obtain rfl:=Option.some.inj H;go_wp2;go_ret;exact ⟨by first | rfl | (simp;done) | (simp [*];done),by repeat (first | exact Drawn0.refl _ | apply Drawn0.step)⟩
        ·rw [if_neg c11] at H;have c11b0:(a0 == 93)=false:=beq_eq_false_iff_ne.mpr c11;have c11b1:(a0 != 93)=true:=bne_iff_ne.mpr c11;by_cases c12:a0=33
         ·rw [if_pos c12] at H;have c12b0:(a0 == 33)=true:=beq_iff_eq.mpr c12;have c12b1:(a0 != 33)=false:=bne_eq_false_iff_eq.mpr c12;clear c12;obtain rfl:=Option.some.inj H;go_wp2;go_ret;exact ⟨by first | rfl | (simp;done) | (simp [*];done),by repeat (first | exact Drawn0.refl _ | apply Drawn0.step)⟩
         ·rw [if_neg c12] at H;have c12b0:(a0 == 33)=false:=beq_eq_false_iff_ne.mpr c12;have c12b1:(a0 != 33)=true:=bne_iff_ne.mpr c12;by_cases c13:a0=94
          ·rw [if_pos c13] at H;have c13b0:(a0 == 94)=true:=beq_iff_eq.mpr c13;have c13b1:(a0 != 94)=false:=bne_eq_false_iff_eq.mpr c13;clear c13;obtain rfl:=Option.some.inj H;go_wp2;go_ret;exact ⟨by first | rfl | (simp;done) | (simp [*];done),by repeat (first | exact Drawn0.refl _ | apply Drawn0.step)⟩
          ·rw [if_neg c13] at H;have c13b0:(a0 == 94)=false:=beq_eq_false_iff_ne.mpr c13;have c13b1:(a0 != 94)=true:=bne_iff_ne.mpr c13;by_cases c14:a0=45
           ·rw [if_pos c14] at H;have c14b0:(a0 == 45)=true:=beq_iff_eq.mpr c14;have c14b1:(a0 != 45)=false:=bne_eq_false_iff_eq.mpr c14;clear c14;obtain rfl:=Option.some.inj H;go_wp2;go_ret;exact ⟨by first | rfl | (simp;done) | (simp [*];done),by repeat (first | exact Drawn0.refl _ | apply Drawn0.step)⟩
           ·rw [if_neg c14] at H;have c14b0:(a0 == 45)=false:=beq_eq_false_iff_ne.mpr c14;have c14b1:(a0 != 45)=true:=bne_iff_ne.mpr c14;by_cases c15:a0=46
            ·rw [if_pos c15] at H;have c15b0:(a0 == 46)=true:=beq_iff_eq.mpr c15;have c15b1:(a0 != 46)=false:=bne_eq_false_iff_eq.mpr c15;clear c15;obtain rfl:=Option.some.inj H;go_wp2;go_ret;exact ⟨by first | rfl | (simp;done) | (simp [*];done),by repeat (first | exact Drawn0.refl _ | apply Drawn0.step)⟩
            ·rw [if_neg c15] at H;have c15b0:(a0 == 46)=false:=beq_eq_false_iff_ne.mpr c15;have c15b1:(a0 != 46)=true:=bne_iff_ne.mpr c15;by_cases c16:a0=92
             ·rw [if_pos c16] at H;have c16b0:(a0 == 92)=true:=beq_iff_eq.mpr c16;have c16b1:(a0 != 92)=false:=bne_eq_false_iff_eq.mpr c16;clear c16;obtain rfl:=Option.some.inj H;go_wp2;go_ret;exact ⟨by first | rfl | (simp;done) | (simp [*];done),by repeat (first | exact Drawn0.refl _ | apply Drawn0.step)⟩
             ·rw [if_neg c16] at H;have c16b0:(a0 == 92)=false:=beq_eq_false_iff_ne.mpr c16;have c16b1:(a0 != 92)=true:=bne_iff_ne.mpr c16;obtain rfl:=Option.some.inj H;go_wp2;go_ret;exact ⟨by first | rfl | (simp;done) | (simp [*];done),by repeat (first | exact Drawn0.refl _ | apply Drawn0.step)⟩
def rzrun.l0:Nat→ByteArray→Int→Option (Int)
 | 0,_,_=>none
 | k+1,x0,x1=>if x1 < (x0.size:Int) then (if 0≤x1 then ((rzisLetter.f (bt x0 x1)).bind fun t125=>(if t125=true then (rzrun.l0 k x0 (wrap64 (x1+1))) else ((rzisDigit.f (bt x0 x1)).bind fun t126=>(if t126=true then (rzrun.l0 k x0 (wrap64 (x1+1))) else (some x1))))) else (none)) else (some x1)
def rzrun.f (k:Nat) (a0:ByteArray) (a1:Int):Option (Int):=rzrun.l0 k a0 a1
theorem rzrun.mono_l:∀ k,(∀ y0 y1,LeO (rzrun.l0 k y0 y1) (rzrun.l0 (k+1) y0 y1))
 | 0=>fun _ _ r h=>by simp [rzrun.l0] at h
 | k+1=>by
  have ih0:=rzrun.mono_l k
  ·intro y0 y1;unfold rzrun.l0;repeat' first
   | (with_reducible exact ih0 _ _)
   | (with_reducible exact LeO.refl _)
   | (with_reducible exact LeO.none _)
   | (with_reducible refine LeO.ite ?_ ?_)
   | (with_reducible refine LeO.bind ?_ (fun _=>?_))
   | exact LeO.none _
   | refine LeO.ite ?_ ?_
   | refine LeO.bind ?_ (fun _=>?_)
theorem rzrun.mono:∀ a0 a1 k,LeO (rzrun.f k a0 a1) (rzrun.f (k+1) a0 a1):=by
 intro a0 a1 k;have ih0:=rzrun.mono_l k;unfold rzrun.f;repeat' first
   | (with_reducible exact ih0 _ _)
   | (with_reducible exact LeO.refl _)
   | (with_reducible exact LeO.none _)
   | (with_reducible refine LeO.ite ?_ ?_)
   | (with_reducible refine LeO.bind ?_ (fun _=>?_))
   | exact LeO.none _
   | refine LeO.ite ?_ ?_
   | refine LeO.bind ?_ (fun _=>?_)
set_option maxHeartbeats 8000000 in
set_option maxRecDepth 100000 in
theorem rzrun.calls (k:Nat) (a0:ByteArray) (a1:Int) (r:Int) (w:World) (h:rzrun.f k a0 a1=some r) :
  Calls Tryz.prog 81 #[.string a0,.int .i64 a1] w fun e w'=>e=.returned (.int .i64 r)∧Drawn0 w w':=by
 have H:(rzrun.l0 k a0 a1)=some r:=h;clear h;have H':=Aside0.mk H;clear H;go_enter Tryz.func81,Tryz.ntmps81
 go_wp2;try simp only [Act.put,List.setIfInBounds_toArray,List.set_cons_zero,List.set_cons_succ]
 go_loopg [1] k (fun kq v1 w'=>∃ (x1_1:Int),v1=.int .i64 x1_1∧Aside0 (rzrun.l0 kq a0 x1_1=some r)∧Aside0 (kq≤k)∧Drawn0 w w')
 case atStart=>exact ⟨(a1),rsd,H',⟨Nat.le_refl _⟩,by repeat (first | exact Drawn0.refl _ | apply Drawn0.step)⟩
 case round =>
  clear H';try clear p2
  obtain ⟨x1_1,rfl,HA,HK1,⟨m1,rfl⟩⟩:=hrel;cases gk with
  | zero=>exact absurd HA.out (by simp [rzrun.l0])
  | succ k1 =>
   have H:=HA.out;clear HA;simp only [rzrun.l0] at H;by_cases c3:x1_1 < (a0.size:Int)
   ·rw [if_pos c3] at H;have c3b0:decide (x1_1 < (a0.size:Int))=true:=decide_eq_true c3;clear c3;by_cases c4:0≤x1_1
    ·rw [if_pos c4] at H;have c4b0:decide (0≤x1_1)=true:=decide_eq_true c4;clear c4;replace H:=Option.bind_eq_some_iff.mp H;obtain ⟨t125,A60,H⟩:=H;replace H:(if t125=true then (rzrun.l0 k1 a0 (wrap64 (x1_1+1))) else ((rzisDigit.f (bt a0 x1_1)).bind fun t126=>(if t126=true then (rzrun.l0 k1 a0 (wrap64 (x1_1+1))) else (some x1_1))))=some r:=H;have A6:=Aside0.mk A60;clear A60;by_cases c7:t125=true
     ·subst c7;have H1:(rzrun.l0 k1 a0 (wrap64 (x1_1+1)))=some r:=by rw [if_pos rfl] at H;exact H
      clear H;have H:=H1;clear H1;have H':=Aside0.mk H;clear H;have p5:0≤(x1_1:Int):=of_decide_eq_true asm;have q5:x1_1 < (a0.size:Int):=of_decide_eq_true asm;have hx5:=bt_at a0 x1_1;replace p5:=eq_true p5;replace q5:=eq_true q5;go_wp2_with (first | (go_at_call 78;(with_reducible refine (rzisLetter.calls (bt a0 x1_1) true _ A6.out).mono ?_);rintro e w' ⟨rfl,⟨nd,rfl⟩⟩))
      go_roundg k1
      case measure=>have:=HK1.out;omega
      case rel=>exact ⟨(wrap64 (x1_1+1)),rsd,H',⟨by have:=HK1.out;omega⟩,by repeat (first | exact Drawn0.refl _ | apply Drawn0.step)⟩
     ·replace c7:=Bool.eq_false_iff.mpr c7;subst c7;have H1:((rzisDigit.f (bt a0 x1_1)).bind fun t126=>(if t126=true then (rzrun.l0 k1 a0 (wrap64 (x1_1+1))) else (some x1_1)))=some r:=by rw [if_neg (show ¬ (false=true) by decide)] at H;exact H
      clear H;have H:=H1;clear H1;replace H:=Option.bind_eq_some_iff.mp H;obtain ⟨t126,A90,H⟩:=H;replace H:(if t126=true then (rzrun.l0 k1 a0 (wrap64 (x1_1+1))) else (some x1_1))=some r:=H;have A9:=Aside0.mk A90;clear A90;by_cases c10:t126=true
      ·subst c10;have H1:(rzrun.l0 k1 a0 (wrap64 (x1_1+1)))=some r:=by rw [if_pos rfl] at H;exact H
       clear H;have H:=H1;clear H1;have H':=Aside0.mk H;clear H;have p5:0≤(x1_1:Int):=of_decide_eq_true asm;have q5:x1_1 < (a0.size:Int):=of_decide_eq_true asm;have hx5:=bt_at a0 x1_1;replace p5:=eq_true p5;replace q5:=eq_true q5;go_wp2_with (first | (go_at_call 78;(with_reducible refine (rzisLetter.calls (bt a0 x1_1) false _ A6.out).mono ?_);rintro e w' ⟨rfl,⟨nd,rfl⟩⟩;have p8:0≤(x1_1:Int):=of_decide_eq_true asm;have q8:x1_1 < (a0.size:Int):=of_decide_eq_true asm;have hx8:=bt_at a0 x1_1;replace p8:=eq_true p8;replace q8:=eq_true q8) | (go_at_call 80;(with_reducible refine (rzisDigit.calls (bt a0 x1_1) true _ A9.out).mono ?_);rintro e w' ⟨rfl,⟨nd,rfl⟩⟩))
       go_roundg k1
       case measure=>have:=HK1.out;omega
       case rel=>exact ⟨(wrap64 (x1_1+1)),rsd,H',⟨by have:=HK1.out;omega⟩,by repeat (first | exact Drawn0.refl _ | apply Drawn0.step)⟩
      ·replace c10:=Bool.eq_false_iff.mpr c10;subst c10;have H1:(some x1_1)=some r:=by rw [if_neg (show ¬ (false=true) by decide)] at H;exact H
       clear H;have H:=H1;clear H1;obtain rfl:=Option.some.inj H;have p5:0≤(x1_1:Int):=of_decide_eq_true asm;have q5:x1_1 < (a0.size:Int):=of_decide_eq_true asm;have hx5:=bt_at a0 x1_1;replace p5:=eq_true p5;replace q5:=eq_true q5;go_wp2_with (first | (go_at_call 78;(with_reducible refine (rzisLetter.calls (bt a0 x1_1) false _ A6.out).mono ?_);rintro e w' ⟨rfl,⟨nd,rfl⟩⟩;have p8:0≤(x1_1:Int):=of_decide_eq_true asm;have q8:x1_1 < (a0.size:Int):=of_decide_eq_true asm;have hx8:=bt_at a0 x1_1;replace p8:=eq_true p8;replace q8:=eq_true q8) | (go_at_call 80;(with_reducible refine (rzisDigit.calls (bt a0 x1_1) false _ A9.out).mono ?_);rintro e w' ⟨rfl,⟨nd,rfl⟩⟩))
       go_ret;exact ⟨by first | rfl | (simp;done) | (simp [*];done),by repeat (first | exact Drawn0.refl _ | apply Drawn0.step)⟩
    ·rw [if_neg c4] at H;exact absurd H (by simp)
   ·rw [if_neg c3] at H;have c3b0:decide (x1_1 < (a0.size:Int))=false:=decide_eq_false c3;clear c3;obtain rfl:=Option.some.inj H;go_wp2;go_ret;exact ⟨by first | rfl | (simp;done) | (simp [*];done),by repeat (first | exact Drawn0.refl _ | apply Drawn0.step)⟩
def rzWords.f  : Option (List ByteArray):=some (([(⟨#[112,114,111,98,101]⟩:zB),(⟨#[119,104,101,110]⟩:zB),(⟨#[111,112,116,105,111,110]⟩:zB),(⟨#[105,110,108,105,110,101]⟩:zB),(⟨#[116,114,97,110,115,108,97,116,111,114]⟩:zB),(⟨#[115,101,108,102]⟩:zB),(⟨#[116,104,105,115]⟩:zB),(⟨#[115,105,122,101,111,102]⟩:zB),(⟨#[120,108,97,116,101]⟩:zB)]:List ByteArray))
set_option maxHeartbeats 8000000 in
set_option maxRecDepth 100000 in
theorem rzWords.calls  (r:List ByteArray) (w:World) (h:rzWords.f  = some r) :
  Calls Tryz.prog 44 #[] w fun e w'=>∃ v0_:Value,e=.returned (v0_)∧Kd.R Kd.string 9 w' w.heap.size (fun _=>True) v0_ r∧Below w.heap.size w w':=by
 have HB:=Aside0.mk (Below.refl w.heap.size w);have H:(some (([(⟨#[112,114,111,98,101]⟩:zB),(⟨#[119,104,101,110]⟩:zB),(⟨#[111,112,116,105,111,110]⟩:zB),(⟨#[105,110,108,105,110,101]⟩:zB),(⟨#[116,114,97,110,115,108,97,116,111,114]⟩:zB),(⟨#[115,101,108,102]⟩:zB),(⟨#[116,104,105,115]⟩:zB),(⟨#[115,105,122,101,111,102]⟩:zB),(⟨#[120,108,97,116,101]⟩:zB)]:List ByteArray)))=some r:=h;clear h;obtain ⟨y122,hy122⟩:∃ y_:List ByteArray,y_=(([(⟨#[112,114,111,98,101]⟩:zB),(⟨#[119,104,101,110]⟩:zB),(⟨#[111,112,116,105,111,110]⟩:zB),(⟨#[105,110,108,105,110,101]⟩:zB),(⟨#[116,114,97,110,115,108,97,116,111,114]⟩:zB),(⟨#[115,101,108,102]⟩:zB),(⟨#[116,104,105,115]⟩:zB),(⟨#[115,105,122,101,111,102]⟩:zB),(⟨#[120,108,97,116,101]⟩:zB)]:List ByteArray)):=⟨_,rfl⟩;replace H:(some y122)=some r:=by first | (rw [hy122];with_reducible exact H) | (have H2_:=(Option.bind_some _ _).symm.trans H;rw [hy122];with_reducible exact H2_) | (have H2_:=(Option.bind_some _ _).symm.trans H;with_reducible exact H2_) | with_reducible exact H | (rw [hy122];exact H) | exact H
 have Ny122:=Aside0.mk hy122;clear hy122;obtain rfl:=Option.some.inj H;go_enter Tryz.func44,Tryz.ntmps44
 go_wp2_with (first | ((with_reducible refine gate_dst (N:=1) rfl ?_);refine Kd.R_lit Kd.string _ 9 ?hg (N:=1) ?hd (xs:=([(⟨#[112,114,111,98,101]⟩:zB),(⟨#[119,104,101,110]⟩:zB),(⟨#[111,112,116,105,111,110]⟩:zB),(⟨#[105,110,108,105,110,101]⟩:zB),(⟨#[116,114,97,110,115,108,97,116,111,114]⟩:zB),(⟨#[115,101,108,102]⟩:zB),(⟨#[116,104,105,115]⟩:zB),(⟨#[115,105,122,101,111,102]⟩:zB),(⟨#[120,108,97,116,101]⟩:zB)]:List ByteArray)) (inner:=[.string (⟨#[112,114,111,98,101]⟩:zB),.string (⟨#[119,104,101,110]⟩:zB),.string (⟨#[111,112,116,105,111,110]⟩:zB),.string (⟨#[105,110,108,105,110,101]⟩:zB),.string (⟨#[116,114,97,110,115,108,97,116,111,114]⟩:zB),.string (⟨#[115,101,108,102]⟩:zB),.string (⟨#[116,104,105,115]⟩:zB),.string (⟨#[115,105,122,101,111,102]⟩:zB),.string (⟨#[120,108,97,116,101]⟩:zB)]) (ok:=fun _=>True) (okp:=fun _=>True) ?hr ?hp (fun _ hk=>hk) trivial (Below.refl _ _) (Nat.le_refl _) (by simp) ?_;(case hd=>rfl);(case hg=>rfl);(case hr=>first | (go_simp;done) | (go_simp;rfl));(case hp=>exact (Reps.one (show Kd.M Kd.string _ _ _ (⟨#[112,114,111,98,101]⟩:zB) [.string (⟨#[112,114,111,98,101]⟩:zB)] from rfl) (Reps.one (show Kd.M Kd.string _ _ _ (⟨#[119,104,101,110]⟩:zB) [.string (⟨#[119,104,101,110]⟩:zB)] from rfl) (Reps.one (show Kd.M Kd.string _ _ _ (⟨#[111,112,116,105,111,110]⟩:zB) [.string (⟨#[111,112,116,105,111,110]⟩:zB)] from rfl) (Reps.one (show Kd.M Kd.string _ _ _ (⟨#[105,110,108,105,110,101]⟩:zB) [.string (⟨#[105,110,108,105,110,101]⟩:zB)] from rfl) (Reps.one (show Kd.M Kd.string _ _ _ (⟨#[116,114,97,110,115,108,97,116,111,114]⟩:zB) [.string (⟨#[116,114,97,110,115,108,97,116,111,114]⟩:zB)] from rfl) (Reps.one (show Kd.M Kd.string _ _ _ (⟨#[115,101,108,102]⟩:zB) [.string (⟨#[115,101,108,102]⟩:zB)] from rfl) (Reps.one (show Kd.M Kd.string _ _ _ (⟨#[116,104,105,115]⟩:zB) [.string (⟨#[116,104,105,115]⟩:zB)] from rfl) (Reps.one (show Kd.M Kd.string _ _ _ (⟨#[115,105,122,101,111,102]⟩:zB) [.string (⟨#[115,105,122,101,111,102]⟩:zB)] from rfl) (Reps.one (show Kd.M Kd.string _ _ _ (⟨#[120,108,97,116,101]⟩:zB) [.string (⟨#[120,108,97,116,101]⟩:zB)] from rfl) (Reps.none _ _)))))))))));intro v123 w1 ho2 hb hg_ hnew_;clear hg_ hnew_;(first | rw [← Ny122.out] at ho2 | (simp only [Int.reduceToNat] at ho2;rw [← Ny122.out] at ho2));have n0_:=Aside0.mk (Kd.R_lower ho2 (below_size blw));have n1_:=Aside0.mk (below_step blw hb);clear HB;have HO124:=n0_;have HB:=n1_;clear n0_ n1_;clear hb ho2))
 go_ret;exact ⟨_,by first | rfl | (simp [errW_none,errW_some] <;> rfl) | (simp [*,errW_none,errW_some] <;> rfl),by (with_reducible repeat (first | apply Kd.R_alloc | apply Kd.R_drewN | apply Kd.R_drew));exact HO124.out,blw⟩
def rzword.l0:Nat→List ByteArray→Int→Int→ByteArray→Int→Option (Int × ByteArray × Int × Int)
 | 0,_,_,_,_,_=>none
 | k+1,x7,x8,x130000,x130001,x130002=>if x8 < (x7.length:Int) then (if 0≤x8 then (if (rdOf ByteArray.empty x7 x8).toList=x130001.toList then (rzword.l0 k x7 (wrap64 (x8+1)) 2 x130001 x130002) else (rzword.l0 k x7 (wrap64 (x8+1)) x130000 x130001 x130002)) else (none)) else (some (x130000,x130001,x130002,0))
def rzword.f (k:Nat) (a0:ByteArray) (a1:Int):Option (Int × ByteArray × Int × Int):=(rzrun.f k a0 a1).bind fun t128=>(if (wrap64 (t128 - a1)) > 31 then (some (0,(⟨#[]⟩:zB),0,111)) else (if 0≤a1 then (if a1≤t128 then (if t128≤(a0.size:Int) then ((rzWords.f).bind fun t130=>(rzword.l0 k t130 0 1 (a0.extract (a1:Int).toNat (t128:Int).toNat) a1)) else (none)) else (none)) else (none)))
theorem rzword.mono_l:∀ k,(∀ y0 y1 y2 y3 y4,LeO (rzword.l0 k y0 y1 y2 y3 y4) (rzword.l0 (k+1) y0 y1 y2 y3 y4))
 | 0=>fun _ _ _ _ _ r h=>by simp [rzword.l0] at h
 | k+1=>by
  have ih0:=rzword.mono_l k
  ·intro y0 y1 y2 y3 y4;unfold rzword.l0;repeat' first
   | (with_reducible exact ih0 _ _ _ _ _)
   | (with_reducible exact rzrun.mono _ _ _)
   | (with_reducible exact LeO.refl _)
   | (with_reducible exact LeO.none _)
   | (with_reducible refine LeO.ite ?_ ?_)
   | (with_reducible refine LeO.bind ?_ (fun _=>?_))
   | exact LeO.none _
   | refine LeO.ite ?_ ?_
   | refine LeO.bind ?_ (fun _=>?_)
theorem rzword.mono:∀ a0 a1 k,LeO (rzword.f k a0 a1) (rzword.f (k+1) a0 a1):=by
 intro a0 a1 k;have ih0:=rzword.mono_l k;unfold rzword.f;repeat' first
   | (with_reducible exact ih0 _ _ _ _ _)
   | (with_reducible exact rzrun.mono _ _ _)
   | (with_reducible exact LeO.refl _)
   | (with_reducible exact LeO.none _)
   | (with_reducible refine LeO.ite ?_ ?_)
   | (with_reducible refine LeO.bind ?_ (fun _=>?_))
   | exact LeO.none _
   | refine LeO.ite ?_ ?_
   | refine LeO.bind ?_ (fun _=>?_)
set_option maxHeartbeats 8000000 in
set_option maxRecDepth 100000 in
theorem rzword.calls (k:Nat) (a0:ByteArray) (a1:Int) (r1:Int) (r2:ByteArray) (r3:Int) (r4:Int) (w:World) (h:rzword.f k a0 a1=some (r1,r2,r3,r4)) :
  Calls Tryz.prog 79 #[.string a0,.int .i64 a1] w fun e w'=>e=.returned (.agg #[.int .i64 r1,.string r2,.int .i64 r3,.int .i64 r4])∧Below w.heap.size w w':=by
 have hu68:=Tryz.underlying68;have hu38:=Tryz.underlying38;have HB:=Aside0.mk (Below.refl w.heap.size w);have H:((rzrun.f k a0 a1).bind fun t128=>(if (wrap64 (t128 - a1)) > 31 then (some (0,(⟨#[]⟩:zB),0,111)) else (if 0≤a1 then (if a1≤t128 then (if t128≤(a0.size:Int) then ((rzWords.f).bind fun t130=>(rzword.l0 k t130 0 1 (a0.extract (a1:Int).toNat (t128:Int).toNat) a1)) else (none)) else (none)) else (none))))=some (r1,r2,r3,r4):=h;clear h;replace H:=Option.bind_eq_some_iff.mp H;obtain ⟨t128,A30,H⟩:=H;replace H:(if (wrap64 (t128 - a1)) > 31 then (some (0,(⟨#[]⟩:zB),0,111)) else (if 0≤a1 then (if a1≤t128 then (if t128≤(a0.size:Int) then ((rzWords.f).bind fun t130=>(rzword.l0 k t130 0 1 (a0.extract (a1:Int).toNat (t128:Int).toNat) a1)) else (none)) else (none)) else (none)))=some (r1,r2,r3,r4):=H;have A3:=Aside0.mk A30;clear A30;by_cases c4:(wrap64 (t128 - a1)) > 31
 ·rw [if_pos c4] at H;have c4b0:decide (31 < (wrap64 (t128 - a1)))=true:=decide_eq_true c4;clear c4;simp only [Option.some.injEq,Prod.mk.injEq] at H;obtain ⟨rfl,rfl,rfl,rfl⟩:=H;go_enter Tryz.func79,Tryz.ntmps79
  go_wp2_with (first | ((with_reducible refine gate_dst (N:=4) rfl ?_);refine box_event ?hg (N:=4) ?hd (cs:=#[.int .i64 0,.string (⟨#[]⟩:zB),.int .i64 0,.int .i64 0]) (t:=68) ?hr ?_;(case hd=>rfl);(case hg=>rfl);(case hr=>first | (go_simp;done) | (go_simp;rfl));intro gb127 hg w5 hbox hb;have n0_:=Aside0.mk (below_step blw hb);have n1_:=Aside0.mk (hbox);have n2_:=Aside0.mk ((by rw [hg];exact (below_size blw):w.heap.size≤gb127));have n3_:=Aside0.mk ((by rw [hg];exact (below_size blw):w.heap.size≤gb127));clear HB;have HB:=n0_;have BK127:=n1_;have GW127:=n2_;have GE127:=n3_;clear n0_ n1_ n2_ n3_;clear hb hbox hg) | (go_at_call 81;(with_reducible refine (rzrun.calls k a0 a1 t128 _ A3.out).mono ?_);rintro e w' ⟨rfl,⟨nd,rfl⟩⟩;(try first | exact ⟨rfl,_,World.drewN_drewN _ _ _⟩ | exact ⟨rfl,_,Eq.trans (World.drewN_drewN _ _ _) (congrArg (World.drewN _) (Nat.add_assoc _ _ _))⟩);have hcz6_0:w5.cell? ⟨gb127,0,none⟩=some (.int .i64 0):=(blk_cell BK127.out 0).trans rfl;have hcz6_1:w5.cell? ⟨gb127,1,none⟩=some (.string (⟨#[]⟩:zB)):=(blk_cell BK127.out 1).trans rfl;have hcz6_2:w5.cell? ⟨gb127,2,none⟩=some (.int .i64 0):=(blk_cell BK127.out 2).trans rfl;have hcz6_3:w5.cell? ⟨gb127,3,none⟩=some (.int .i64 0):=(blk_cell BK127.out 3).trans rfl;have hfz6_0:=blk_frozen BK127.out 0;have hfz6_1:=blk_frozen BK127.out 1;have hfz6_2:=blk_frozen BK127.out 2;have hfz6_3:=blk_frozen BK127.out 3))
  repeat (go_quiet (first | ((with_reducible refine gate_dst (N:=4) rfl ?_);refine box_event ?hg (N:=4) ?hd (cs:=#[.int .i64 0,.string (⟨#[]⟩:zB),.int .i64 0,.int .i64 0]) (t:=68) ?hr ?_;(case hd=>rfl);(case hg=>rfl);(case hr=>first | (go_simp;done) | (go_simp;rfl));intro gb127 hg w5 hbox hb;have n0_:=Aside0.mk (below_step blw hb);have n1_:=Aside0.mk (hbox);have n2_:=Aside0.mk ((by rw [hg];exact (below_size blw):w.heap.size≤gb127));have n3_:=Aside0.mk ((by rw [hg];exact (below_size blw):w.heap.size≤gb127));clear HB;have HB:=n0_;have BK127:=n1_;have GW127:=n2_;have GE127:=n3_;clear n0_ n1_ n2_ n3_;clear hb hbox hg) | (go_at_call 81;(with_reducible refine (rzrun.calls k a0 a1 t128 _ A3.out).mono ?_);rintro e w' ⟨rfl,⟨nd,rfl⟩⟩;(try first | exact ⟨rfl,_,World.drewN_drewN _ _ _⟩ | exact ⟨rfl,_,Eq.trans (World.drewN_drewN _ _ _) (congrArg (World.drewN _) (Nat.add_assoc _ _ _))⟩);have hcz6_0:w5.cell? ⟨gb127,0,none⟩=some (.int .i64 0):=(blk_cell BK127.out 0).trans rfl;have hcz6_1:w5.cell? ⟨gb127,1,none⟩=some (.string (⟨#[]⟩:zB)):=(blk_cell BK127.out 1).trans rfl;have hcz6_2:w5.cell? ⟨gb127,2,none⟩=some (.int .i64 0):=(blk_cell BK127.out 2).trans rfl;have hcz6_3:w5.cell? ⟨gb127,3,none⟩=some (.int .i64 0):=(blk_cell BK127.out 3).trans rfl;have hfz6_0:=blk_frozen BK127.out 0;have hfz6_1:=blk_frozen BK127.out 1;have hfz6_2:=blk_frozen BK127.out 2;have hfz6_3:=blk_frozen BK127.out 3));try go_wp2_with (first | ((with_reducible refine gate_dst (N:=4) rfl ?_);refine box_event ?hg (N:=4) ?hd (cs:=#[.int .i64 0,.string (⟨#[]⟩:zB),.int .i64 0,.int .i64 0]) (t:=68) ?hr ?_;(case hd=>rfl);(case hg=>rfl);(case hr=>first | (go_simp;done) | (go_simp;rfl));intro gb127 hg w5 hbox hb;have n0_:=Aside0.mk (below_step blw hb);have n1_:=Aside0.mk (hbox);have n2_:=Aside0.mk ((by rw [hg];exact (below_size blw):w.heap.size≤gb127));have n3_:=Aside0.mk ((by rw [hg];exact (below_size blw):w.heap.size≤gb127));clear HB;have HB:=n0_;have BK127:=n1_;have GW127:=n2_;have GE127:=n3_;clear n0_ n1_ n2_ n3_;clear hb hbox hg) | (go_at_call 81;(with_reducible refine (rzrun.calls k a0 a1 t128 _ A3.out).mono ?_);rintro e w' ⟨rfl,⟨nd,rfl⟩⟩;(try first | exact ⟨rfl,_,World.drewN_drewN _ _ _⟩ | exact ⟨rfl,_,Eq.trans (World.drewN_drewN _ _ _) (congrArg (World.drewN _) (Nat.add_assoc _ _ _))⟩);have hcz6_0:w5.cell? ⟨gb127,0,none⟩=some (.int .i64 0):=(blk_cell BK127.out 0).trans rfl;have hcz6_1:w5.cell? ⟨gb127,1,none⟩=some (.string (⟨#[]⟩:zB)):=(blk_cell BK127.out 1).trans rfl;have hcz6_2:w5.cell? ⟨gb127,2,none⟩=some (.int .i64 0):=(blk_cell BK127.out 2).trans rfl;have hcz6_3:w5.cell? ⟨gb127,3,none⟩=some (.int .i64 0):=(blk_cell BK127.out 3).trans rfl;have hfz6_0:=blk_frozen BK127.out 0;have hfz6_1:=blk_frozen BK127.out 1;have hfz6_2:=blk_frozen BK127.out 2;have hfz6_3:=blk_frozen BK127.out 3)))
  refine bodyPost_ret (results_cell_row rfl _ _ gb127 68 #[.int .i64 0,.string (⟨#[]⟩:zB),.int .i64 0,.int .i64 111] (0,0) _ rfl (by (with_reducible repeat (first | refine blk_drewN ?_ _ | refine blk_drew ?_ | refine blk_alloc ?_ _));refine blk_put (cs:=#[.int .i64 0,.string (⟨#[]⟩:zB),.int .i64 0,.int .i64 0]) ?_ 3 _ rfl;(with_reducible repeat (first | refine blk_drewN ?_ _ | refine blk_drew ?_ | refine blk_alloc ?_ _));refine blk_put (cs:=#[.int .i64 0,.string (⟨#[]⟩:zB),.int .i64 0,.int .i64 0]) ?_ 2 _ rfl;(with_reducible repeat (first | refine blk_drewN ?_ _ | refine blk_drew ?_ | refine blk_alloc ?_ _));refine blk_put (cs:=#[.int .i64 0,.string (⟨#[]⟩:zB),.int .i64 0,.int .i64 0]) ?_ 1 _ rfl;(with_reducible repeat (first | refine blk_drewN ?_ _ | refine blk_drew ?_ | refine blk_alloc ?_ _));refine blk_put (cs:=#[.int .i64 0,.string (⟨#[]⟩:zB),.int .i64 0,.int .i64 0]) ?_ 0 _ rfl;(with_reducible repeat (first | refine blk_drewN ?_ _ | refine blk_drew ?_ | refine blk_alloc ?_ _));exact BK127.out) Tryz.underlying68 rfl (by kernel_rfl)) rfl ?_;exact ⟨rew,blw⟩
 ·rw [if_neg c4] at H;have c4b0:decide (31 < (wrap64 (t128 - a1)))=false:=decide_eq_false c4;clear c4;by_cases c7:0≤a1
  ·rw [if_pos c7] at H;have c7b0:=eq_true c7;have c7b1:decide (0≤a1)=true:=decide_eq_true c7;clear c7;by_cases c8:a1≤t128
   ·rw [if_pos c8] at H;have c8b0:=eq_true c8;have c8b1:decide (a1≤t128)=true:=decide_eq_true c8;clear c8;by_cases c9:t128≤(a0.size:Int)
    ·rw [if_pos c9] at H;have c9b0:=eq_true c9;have c9b1:decide (t128≤(a0.size:Int))=true:=decide_eq_true c9;clear c9;replace H:=Option.bind_eq_some_iff.mp H;obtain ⟨t130,A100,H⟩:=H;replace H:(rzword.l0 k t130 0 1 (a0.extract (a1:Int).toNat (t128:Int).toNat) a1)=some (r1,r2,r3,r4):=H;have A10:=Aside0.mk A100;clear A100;have H':=Aside0.mk H;clear H;go_enter Tryz.func79,Tryz.ntmps79
     go_wp2_with (first | ((with_reducible refine gate_dst (N:=4) rfl ?_);refine box_event ?hg (N:=4) ?hd (cs:=#[.int .i64 0,.string (⟨#[]⟩:zB),.int .i64 0,.int .i64 0]) (t:=68) ?hr ?_;(case hd=>rfl);(case hg=>rfl);(case hr=>first | (go_simp;done) | (go_simp;rfl));intro gb127 hg w11 hbox hb;have n0_:=Aside0.mk (below_step blw hb);have n1_:=Aside0.mk (hbox);have n2_:=Aside0.mk ((by rw [hg];exact (below_size blw):w.heap.size≤gb127));have n3_:=Aside0.mk ((by rw [hg];exact (below_size blw):w.heap.size≤gb127));clear HB;have HB:=n0_;have BK127:=n1_;have GW127:=n2_;have GE127:=n3_;clear n0_ n1_ n2_ n3_;clear hb hbox hg) | (go_at_call 81;(with_reducible refine (rzrun.calls k a0 a1 t128 _ A3.out).mono ?_);rintro e w' ⟨rfl,⟨nd,rfl⟩⟩;(try first | exact ⟨rfl,_,World.drewN_drewN _ _ _⟩ | exact ⟨rfl,_,Eq.trans (World.drewN_drewN _ _ _) (congrArg (World.drewN _) (Nat.add_assoc _ _ _))⟩)) | ((with_reducible refine gate_dst (N:=6) rfl ?_);refine box_event ?hg (N:=6) ?hd (cs:=#[.int .i64 0,.string (⟨#[]⟩:zB),.int .i64 0]) (t:=38) ?hr ?_;(case hd=>rfl);(case hg=>rfl);(case hr=>first | (go_simp;done) | (go_simp;rfl));intro gb129 hg w12 hbox hb;have n0_:=Aside0.mk (blk_below (g:=gb127) (o:=.cells #[.int .i64 0,.string (⟨#[]⟩:zB),.int .i64 0,.int .i64 0] 68 (0,0)) bko hb);have n1_:=Aside0.mk (below_step blw hb);have n2_:=Aside0.mk (hbox);have n3_:=Aside0.mk ((by rw [hg];exact (below_size blw):w.heap.size≤gb129));have n4_:=Aside0.mk ((by rw [hg];exact (below_size blw):w.heap.size≤gb129));have n5_:=Aside0.mk ((by rw [hg];exact Nat.ne_of_lt (blk_lt (g:=gb127) (o:=.cells #[.int .i64 0,.string (⟨#[]⟩:zB),.int .i64 0,.int .i64 0] 68 (0,0)) bko):gb127≠gb129));have n6_:=Aside0.mk ((by rw [hg];exact Nat.ne_of_gt (blk_lt (g:=gb127) (o:=.cells #[.int .i64 0,.string (⟨#[]⟩:zB),.int .i64 0,.int .i64 0] 68 (0,0)) bko):gb129≠gb127));clear BK127;clear HB;have BK127:=n0_;have HB:=n1_;have BK129:=n2_;have GW129:=n3_;have GE129:=n4_;have NB127_129:=n5_;have NB129_127:=n6_;clear n0_ n1_ n2_ n3_ n4_ n5_ n6_;clear hb hbox hg;have hnb13:=NB129_127.out;have hnc13:=NB127_129.out;have hcz14_0:w12.cell? ⟨gb129,0,none⟩=some (.int .i64 0):=(blk_cell BK129.out 0).trans rfl;have hcz14_1:w12.cell? ⟨gb129,1,none⟩=some (.string (⟨#[]⟩:zB)):=(blk_cell BK129.out 1).trans rfl;have hcz14_2:w12.cell? ⟨gb129,2,none⟩=some (.int .i64 0):=(blk_cell BK129.out 2).trans rfl;have hfz14_0:=blk_frozen BK129.out 0;have hfz14_1:=blk_frozen BK129.out 1;have hfz14_2:=blk_frozen BK129.out 2) | (go_at_call 44;(with_reducible refine (rzWords.calls  t130 _ A10.out).mono ?_);rintro e w15 ⟨v131,rfl,ho0,hb⟩;have n0_:=Aside0.mk (Kd.R_lower ho0 (below_size blw));have n1_:=Aside0.mk (blk_below (g:=gb127) (o:=.cells #[.int .i64 0,.string (⟨#[]⟩:zB),.int .i64 0,.int .i64 0] 68 (0,0)) (by (with_reducible repeat (first | refine blk_drewN ?_ _ | refine blk_drew ?_ | refine blk_alloc ?_ _));refine blk_far ?_ NB127_129.out _;(with_reducible repeat (first | refine blk_drewN ?_ _ | refine blk_drew ?_ | refine blk_alloc ?_ _));refine blk_far ?_ NB127_129.out _;(with_reducible repeat (first | refine blk_drewN ?_ _ | refine blk_drew ?_ | refine blk_alloc ?_ _));refine blk_far ?_ NB127_129.out _;(with_reducible repeat (first | refine blk_drewN ?_ _ | refine blk_drew ?_ | refine blk_alloc ?_ _));exact BK127.out) hb);have n2_:=Aside0.mk (blk_below (g:=gb129) (o:=.cells #[.int .i64 1,.string (a0.extract (a1:Int).toNat (t128:Int).toNat),.int .i64 a1] 38 (0,0)) (by (with_reducible repeat (first | refine blk_drewN ?_ _ | refine blk_drew ?_ | refine blk_alloc ?_ _));refine blk_put (cs:=#[.int .i64 1,.string (a0.extract (a1:Int).toNat (t128:Int).toNat),.int .i64 0]) ?_ 2 _ rfl;(with_reducible repeat (first | refine blk_drewN ?_ _ | refine blk_drew ?_ | refine blk_alloc ?_ _));refine blk_put (cs:=#[.int .i64 1,.string (⟨#[]⟩:zB),.int .i64 0]) ?_ 1 _ rfl;(with_reducible repeat (first | refine blk_drewN ?_ _ | refine blk_drew ?_ | refine blk_alloc ?_ _));refine blk_put (cs:=#[.int .i64 0,.string (⟨#[]⟩:zB),.int .i64 0]) ?_ 0 _ rfl;(with_reducible repeat (first | refine blk_drewN ?_ _ | refine blk_drew ?_ | refine blk_alloc ?_ _));exact BK129.out) hb);have n3_:=Aside0.mk (below_step blw hb);clear BK127;clear BK129;clear HB;have HO132:=n0_;have BK127:=n1_;have BK129:=n2_;have HB:=n3_;clear n0_ n1_ n2_ n3_;(try clear hb);(try clear hb2);(try clear hk);(try clear hi);(try clear ho0)))
     repeat (go_quiet (first | ((with_reducible refine gate_dst (N:=4) rfl ?_);refine box_event ?hg (N:=4) ?hd (cs:=#[.int .i64 0,.string (⟨#[]⟩:zB),.int .i64 0,.int .i64 0]) (t:=68) ?hr ?_;(case hd=>rfl);(case hg=>rfl);(case hr=>first | (go_simp;done) | (go_simp;rfl));intro gb127 hg w11 hbox hb;have n0_:=Aside0.mk (below_step blw hb);have n1_:=Aside0.mk (hbox);have n2_:=Aside0.mk ((by rw [hg];exact (below_size blw):w.heap.size≤gb127));have n3_:=Aside0.mk ((by rw [hg];exact (below_size blw):w.heap.size≤gb127));clear HB;have HB:=n0_;have BK127:=n1_;have GW127:=n2_;have GE127:=n3_;clear n0_ n1_ n2_ n3_;clear hb hbox hg) | (go_at_call 81;(with_reducible refine (rzrun.calls k a0 a1 t128 _ A3.out).mono ?_);rintro e w' ⟨rfl,⟨nd,rfl⟩⟩;(try first | exact ⟨rfl,_,World.drewN_drewN _ _ _⟩ | exact ⟨rfl,_,Eq.trans (World.drewN_drewN _ _ _) (congrArg (World.drewN _) (Nat.add_assoc _ _ _))⟩)) | ((with_reducible refine gate_dst (N:=6) rfl ?_);refine box_event ?hg (N:=6) ?hd (cs:=#[.int .i64 0,.string (⟨#[]⟩:zB),.int .i64 0]) (t:=38) ?hr ?_;(case hd=>rfl);(case hg=>rfl);(case hr=>first | (go_simp;done) | (go_simp;rfl));intro gb129 hg w12 hbox hb;have n0_:=Aside0.mk (blk_below (g:=gb127) (o:=.cells #[.int .i64 0,.string (⟨#[]⟩:zB),.int .i64 0,.int .i64 0] 68 (0,0)) bko hb);have n1_:=Aside0.mk (below_step blw hb);have n2_:=Aside0.mk (hbox);have n3_:=Aside0.mk ((by rw [hg];exact (below_size blw):w.heap.size≤gb129));have n4_:=Aside0.mk ((by rw [hg];exact (below_size blw):w.heap.size≤gb129));have n5_:=Aside0.mk ((by rw [hg];exact Nat.ne_of_lt (blk_lt (g:=gb127) (o:=.cells #[.int .i64 0,.string (⟨#[]⟩:zB),.int .i64 0,.int .i64 0] 68 (0,0)) bko):gb127≠gb129));have n6_:=Aside0.mk ((by rw [hg];exact Nat.ne_of_gt (blk_lt (g:=gb127) (o:=.cells #[.int .i64 0,.string (⟨#[]⟩:zB),.int .i64 0,.int .i64 0] 68 (0,0)) bko):gb129≠gb127));clear BK127;clear HB;have BK127:=n0_;have HB:=n1_;have BK129:=n2_;have GW129:=n3_;have GE129:=n4_;have NB127_129:=n5_;have NB129_127:=n6_;clear n0_ n1_ n2_ n3_ n4_ n5_ n6_;clear hb hbox hg;have hnb13:=NB129_127.out;have hnc13:=NB127_129.out;have hcz14_0:w12.cell? ⟨gb129,0,none⟩=some (.int .i64 0):=(blk_cell BK129.out 0).trans rfl;have hcz14_1:w12.cell? ⟨gb129,1,none⟩=some (.string (⟨#[]⟩:zB)):=(blk_cell BK129.out 1).trans rfl;have hcz14_2:w12.cell? ⟨gb129,2,none⟩=some (.int .i64 0):=(blk_cell BK129.out 2).trans rfl;have hfz14_0:=blk_frozen BK129.out 0;have hfz14_1:=blk_frozen BK129.out 1;have hfz14_2:=blk_frozen BK129.out 2) | (go_at_call 44;(with_reducible refine (rzWords.calls  t130 _ A10.out).mono ?_);rintro e w15 ⟨v131,rfl,ho0,hb⟩;have n0_:=Aside0.mk (Kd.R_lower ho0 (below_size blw));have n1_:=Aside0.mk (blk_below (g:=gb127) (o:=.cells #[.int .i64 0,.string (⟨#[]⟩:zB),.int .i64 0,.int .i64 0] 68 (0,0)) (by (with_reducible repeat (first | refine blk_drewN ?_ _ | refine blk_drew ?_ | refine blk_alloc ?_ _));refine blk_far ?_ NB127_129.out _;(with_reducible repeat (first | refine blk_drewN ?_ _ | refine blk_drew ?_ | refine blk_alloc ?_ _));refine blk_far ?_ NB127_129.out _;(with_reducible repeat (first | refine blk_drewN ?_ _ | refine blk_drew ?_ | refine blk_alloc ?_ _));refine blk_far ?_ NB127_129.out _;(with_reducible repeat (first | refine blk_drewN ?_ _ | refine blk_drew ?_ | refine blk_alloc ?_ _));exact BK127.out) hb);have n2_:=Aside0.mk (blk_below (g:=gb129) (o:=.cells #[.int .i64 1,.string (a0.extract (a1:Int).toNat (t128:Int).toNat),.int .i64 a1] 38 (0,0)) (by (with_reducible repeat (first | refine blk_drewN ?_ _ | refine blk_drew ?_ | refine blk_alloc ?_ _));refine blk_put (cs:=#[.int .i64 1,.string (a0.extract (a1:Int).toNat (t128:Int).toNat),.int .i64 0]) ?_ 2 _ rfl;(with_reducible repeat (first | refine blk_drewN ?_ _ | refine blk_drew ?_ | refine blk_alloc ?_ _));refine blk_put (cs:=#[.int .i64 1,.string (⟨#[]⟩:zB),.int .i64 0]) ?_ 1 _ rfl;(with_reducible repeat (first | refine blk_drewN ?_ _ | refine blk_drew ?_ | refine blk_alloc ?_ _));refine blk_put (cs:=#[.int .i64 0,.string (⟨#[]⟩:zB),.int .i64 0]) ?_ 0 _ rfl;(with_reducible repeat (first | refine blk_drewN ?_ _ | refine blk_drew ?_ | refine blk_alloc ?_ _));exact BK129.out) hb);have n3_:=Aside0.mk (below_step blw hb);clear BK127;clear BK129;clear HB;have HO132:=n0_;have BK127:=n1_;have BK129:=n2_;have HB:=n3_;clear n0_ n1_ n2_ n3_;(try clear hb);(try clear hb2);(try clear hk);(try clear hi);(try clear ho0)));try go_wp2_with (first | ((with_reducible refine gate_dst (N:=4) rfl ?_);refine box_event ?hg (N:=4) ?hd (cs:=#[.int .i64 0,.string (⟨#[]⟩:zB),.int .i64 0,.int .i64 0]) (t:=68) ?hr ?_;(case hd=>rfl);(case hg=>rfl);(case hr=>first | (go_simp;done) | (go_simp;rfl));intro gb127 hg w11 hbox hb;have n0_:=Aside0.mk (below_step blw hb);have n1_:=Aside0.mk (hbox);have n2_:=Aside0.mk ((by rw [hg];exact (below_size blw):w.heap.size≤gb127));have n3_:=Aside0.mk ((by rw [hg];exact (below_size blw):w.heap.size≤gb127));clear HB;have HB:=n0_;have BK127:=n1_;have GW127:=n2_;have GE127:=n3_;clear n0_ n1_ n2_ n3_;clear hb hbox hg) | (go_at_call 81;(with_reducible refine (rzrun.calls k a0 a1 t128 _ A3.out).mono ?_);rintro e w' ⟨rfl,⟨nd,rfl⟩⟩;(try first | exact ⟨rfl,_,World.drewN_drewN _ _ _⟩ | exact ⟨rfl,_,Eq.trans (World.drewN_drewN _ _ _) (congrArg (World.drewN _) (Nat.add_assoc _ _ _))⟩)) | ((with_reducible refine gate_dst (N:=6) rfl ?_);refine box_event ?hg (N:=6) ?hd (cs:=#[.int .i64 0,.string (⟨#[]⟩:zB),.int .i64 0]) (t:=38) ?hr ?_;(case hd=>rfl);(case hg=>rfl);(case hr=>first | (go_simp;done) | (go_simp;rfl));intro gb129 hg w12 hbox hb;have n0_:=Aside0.mk (blk_below (g:=gb127) (o:=.cells #[.int .i64 0,.string (⟨#[]⟩:zB),.int .i64 0,.int .i64 0] 68 (0,0)) bko hb);have n1_:=Aside0.mk (below_step blw hb);have n2_:=Aside0.mk (hbox);have n3_:=Aside0.mk ((by rw [hg];exact (below_size blw):w.heap.size≤gb129));have n4_:=Aside0.mk ((by rw [hg];exact (below_size blw):w.heap.size≤gb129));have n5_:=Aside0.mk ((by rw [hg];exact Nat.ne_of_lt (blk_lt (g:=gb127) (o:=.cells #[.int .i64 0,.string (⟨#[]⟩:zB),.int .i64 0,.int .i64 0] 68 (0,0)) bko):gb127≠gb129));have n6_:=Aside0.mk ((by rw [hg];exact Nat.ne_of_gt (blk_lt (g:=gb127) (o:=.cells #[.int .i64 0,.string (⟨#[]⟩:zB),.int .i64 0,.int .i64 0] 68 (0,0)) bko):gb129≠gb127));clear BK127;clear HB;have BK127:=n0_;have HB:=n1_;have BK129:=n2_;have GW129:=n3_;have GE129:=n4_;have NB127_129:=n5_;have NB129_127:=n6_;clear n0_ n1_ n2_ n3_ n4_ n5_ n6_;clear hb hbox hg;have hnb13:=NB129_127.out;have hnc13:=NB127_129.out;have hcz14_0:w12.cell? ⟨gb129,0,none⟩=some (.int .i64 0):=(blk_cell BK129.out 0).trans rfl;have hcz14_1:w12.cell? ⟨gb129,1,none⟩=some (.string (⟨#[]⟩:zB)):=(blk_cell BK129.out 1).trans rfl;have hcz14_2:w12.cell? ⟨gb129,2,none⟩=some (.int .i64 0):=(blk_cell BK129.out 2).trans rfl;have hfz14_0:=blk_frozen BK129.out 0;have hfz14_1:=blk_frozen BK129.out 1;have hfz14_2:=blk_frozen BK129.out 2) | (go_at_call 44;(with_reducible refine (rzWords.calls  t130 _ A10.out).mono ?_);rintro e w15 ⟨v131,rfl,ho0,hb⟩;have n0_:=Aside0.mk (Kd.R_lower ho0 (below_size blw));have n1_:=Aside0.mk (blk_below (g:=gb127) (o:=.cells #[.int .i64 0,.string (⟨#[]⟩:zB),.int .i64 0,.int .i64 0] 68 (0,0)) (by (with_reducible repeat (first | refine blk_drewN ?_ _ | refine blk_drew ?_ | refine blk_alloc ?_ _));refine blk_far ?_ NB127_129.out _;(with_reducible repeat (first | refine blk_drewN ?_ _ | refine blk_drew ?_ | refine blk_alloc ?_ _));refine blk_far ?_ NB127_129.out _;(with_reducible repeat (first | refine blk_drewN ?_ _ | refine blk_drew ?_ | refine blk_alloc ?_ _));refine blk_far ?_ NB127_129.out _;(with_reducible repeat (first | refine blk_drewN ?_ _ | refine blk_drew ?_ | refine blk_alloc ?_ _));exact BK127.out) hb);have n2_:=Aside0.mk (blk_below (g:=gb129) (o:=.cells #[.int .i64 1,.string (a0.extract (a1:Int).toNat (t128:Int).toNat),.int .i64 a1] 38 (0,0)) (by (with_reducible repeat (first | refine blk_drewN ?_ _ | refine blk_drew ?_ | refine blk_alloc ?_ _));refine blk_put (cs:=#[.int .i64 1,.string (a0.extract (a1:Int).toNat (t128:Int).toNat),.int .i64 0]) ?_ 2 _ rfl;(with_reducible repeat (first | refine blk_drewN ?_ _ | refine blk_drew ?_ | refine blk_alloc ?_ _));refine blk_put (cs:=#[.int .i64 1,.string (⟨#[]⟩:zB),.int .i64 0]) ?_ 1 _ rfl;(with_reducible repeat (first | refine blk_drewN ?_ _ | refine blk_drew ?_ | refine blk_alloc ?_ _));refine blk_put (cs:=#[.int .i64 0,.string (⟨#[]⟩:zB),.int .i64 0]) ?_ 0 _ rfl;(with_reducible repeat (first | refine blk_drewN ?_ _ | refine blk_drew ?_ | refine blk_alloc ?_ _));exact BK129.out) hb);have n3_:=Aside0.mk (below_step blw hb);clear BK127;clear BK129;clear HB;have HO132:=n0_;have BK127:=n1_;have BK129:=n2_;have HB:=n3_;clear n0_ n1_ n2_ n3_;(try clear hb);(try clear hb2);(try clear hk);(try clear hi);(try clear ho0))))
     try simp only [Act.put,List.setIfInBounds_toArray,List.set_cons_zero,List.set_cons_succ]
     go_loopg [8] k (fun kq v8 w'=>∃ (x8_1:Int) (x130000_1:Int),v8=.int .i64 x8_1∧Aside0 (rzword.l0 kq t130 x8_1 x130000_1 (a0.extract (a1:Int).toNat (t128:Int).toNat) a1=some (r1,r2,r3,r4))∧Aside0 (kq≤k)∧Aside0 (Kd.R Kd.string 9 w' w.heap.size (fun _=>True) v131 t130)∧Aside0 (w'.heap[gb127]?=some (.cells #[.int .i64 0,.string (⟨#[]⟩:zB),.int .i64 0,.int .i64 0] 68 (0,0)))∧Aside0 (w'.heap[gb129]?=some (.cells #[.int .i64 x130000_1,.string (a0.extract (a1:Int).toNat (t128:Int).toNat),.int .i64 a1] 38 (0,0)))∧Aside0 (Below w.heap.size w w'))
     case atStart=>exact ⟨(0),(1),rsd,H',⟨Nat.le_refl _⟩,⟨by (with_reducible repeat (first | apply Kd.R_alloc | apply Kd.R_drewN | apply Kd.R_drew));exact HO132.out⟩,⟨bko⟩,⟨bko⟩,⟨blw⟩⟩
     case round =>
      clear H';try clear c1
      try clear p2
      try clear c4
      try clear c4b0
      try clear p6
      try clear c7
      try clear c7b0
      try clear c7b1
      try clear c8
      try clear c8b0
      try clear c8b1
      try clear c9
      try clear c9b0
      try clear c9b1
      try clear c13
      try clear hcz14_0
      try clear hcz14_1
      try clear hcz14_2
      try clear hcz6_0
      try clear hcz6_1
      try clear hcz6_2
      try clear hcz6_3
      try clear hfz14_0
      try clear hfz14_1
      try clear hfz14_2
      try clear hfz6_0
      try clear hfz6_1
      try clear hfz6_2
      try clear hfz6_3
      obtain ⟨x8_1,x130000_1,rfl,HA,HK1,HO_7,BK127,BK129,HB⟩:=hrel;cases gk with
      | zero=>exact absurd HA.out (by simp [rzword.l0])
      | succ k1 =>
       have H:=HA.out;clear HA;simp only [rzword.l0] at H;by_cases c16:x8_1 < (t130.length:Int)
       ·rw [if_pos c16] at H;have c16b0:decide (x8_1 < (t130.length:Int))=true:=decide_eq_true c16;clear c16;by_cases c17:0≤x8_1
        ·rw [if_pos c17] at H;have c17b0:decide (0≤x8_1)=true:=decide_eq_true c17;clear c17;by_cases c18:(rdOf ByteArray.empty t130 x8_1).toList=(a0.extract (a1:Int).toNat (t128:Int).toNat).toList
         ·rw [if_pos c18] at H;have c18b0:((rdOf ByteArray.empty t130 x8_1).toList == (a0.extract (a1:Int).toNat (t128:Int).toNat).toList)=true:=beq_iff_eq.mpr c18;have c18b1:((rdOf ByteArray.empty t130 x8_1).toList != (a0.extract (a1:Int).toNat (t128:Int).toNat).toList)=false:=bne_eq_false_iff_eq.mpr c18;clear c18;have H':=Aside0.mk H;clear H;obtain ⟨Ao19,co19,eo19⟩:=Kd.R_slice HO_7.out;subst eo19;have p133:0≤(x8_1:Int):=of_decide_eq_true asm;have q133:x8_1 < (t130.length:Int):=of_decide_eq_true asm;obtain ⟨ad133,e133,hx133_0⟩:=Kd.at_string (Kd.R_reads' HO_7.out).2.2 x8_1 p133 q133;cases e133;replace p133:=eq_true p133;replace q133:=eq_true q133;have hnb20:=NB129_127.out;have hnc20:=NB127_129.out;have hcz21_0:wr.cell? ⟨gb129,0,none⟩=some (.int .i64 x130000_1):=(blk_cell BK129.out 0).trans rfl;have hcz21_1:wr.cell? ⟨gb129,1,none⟩=some (.string (a0.extract (a1:Int).toNat (t128:Int).toNat)):=(blk_cell BK129.out 1).trans rfl;have hcz21_2:wr.cell? ⟨gb129,2,none⟩=some (.int .i64 a1):=(blk_cell BK129.out 2).trans rfl;have hfz21_0:=blk_frozen BK129.out 0;have hfz21_1:=blk_frozen BK129.out 1;have hfz21_2:=blk_frozen BK129.out 2;go_wp2;repeat (go_quiet (fail);try go_wp2)
          go_roundg k1
          case measure=>have:=HK1.out;omega
          case rel=>exact ⟨(wrap64 (x8_1+1)),(2),rsd,H',⟨by have:=HK1.out;omega⟩,⟨by (with_reducible repeat (first | apply Kd.R_alloc | apply Kd.R_drewN | apply Kd.R_drew));exact Kd.R_mono (Kd.R_far (p:=⟨gb129,0,none⟩) (Kd.R_types HO_7.out BK129.out (by decide)) (fun _ hk=>hk.2) (.int .i64 2)) (fun _ hk=>trivial)⟩,⟨by (with_reducible repeat (first | refine blk_drewN ?_ _ | refine blk_drew ?_ | refine blk_alloc ?_ _));refine blk_far ?_ NB127_129.out _;(with_reducible repeat (first | refine blk_drewN ?_ _ | refine blk_drew ?_ | refine blk_alloc ?_ _));exact BK127.out⟩,⟨by (with_reducible repeat (first | refine blk_drewN ?_ _ | refine blk_drew ?_ | refine blk_alloc ?_ _));refine blk_put (cs:=#[.int .i64 x130000_1,.string (a0.extract (a1:Int).toNat (t128:Int).toNat),.int .i64 a1]) ?_ 0 _ rfl;(with_reducible repeat (first | refine blk_drewN ?_ _ | refine blk_drew ?_ | refine blk_alloc ?_ _));exact BK129.out⟩,⟨blw⟩⟩
         ·rw [if_neg c18] at H;have c18b0:((rdOf ByteArray.empty t130 x8_1).toList == (a0.extract (a1:Int).toNat (t128:Int).toNat).toList)=false:=beq_eq_false_iff_ne.mpr c18;have c18b1:((rdOf ByteArray.empty t130 x8_1).toList != (a0.extract (a1:Int).toNat (t128:Int).toNat).toList)=true:=bne_iff_ne.mpr c18;have H':=Aside0.mk H;clear H;obtain ⟨Ao22,co22,eo22⟩:=Kd.R_slice HO_7.out;subst eo22;have p133:0≤(x8_1:Int):=of_decide_eq_true asm;have q133:x8_1 < (t130.length:Int):=of_decide_eq_true asm;obtain ⟨ad133,e133,hx133_0⟩:=Kd.at_string (Kd.R_reads' HO_7.out).2.2 x8_1 p133 q133;cases e133;replace p133:=eq_true p133;replace q133:=eq_true q133;have hnb23:=NB129_127.out;have hnc23:=NB127_129.out;have hcz24_0:wr.cell? ⟨gb129,0,none⟩=some (.int .i64 x130000_1):=(blk_cell BK129.out 0).trans rfl;have hcz24_1:wr.cell? ⟨gb129,1,none⟩=some (.string (a0.extract (a1:Int).toNat (t128:Int).toNat)):=(blk_cell BK129.out 1).trans rfl;have hcz24_2:wr.cell? ⟨gb129,2,none⟩=some (.int .i64 a1):=(blk_cell BK129.out 2).trans rfl;have hfz24_0:=blk_frozen BK129.out 0;have hfz24_1:=blk_frozen BK129.out 1;have hfz24_2:=blk_frozen BK129.out 2;go_wp2;repeat (go_quiet (fail);try go_wp2)
          go_roundg k1
          case measure=>have:=HK1.out;omega
          case rel=>exact ⟨(wrap64 (x8_1+1)),(x130000_1),rsd,H',⟨by have:=HK1.out;omega⟩,⟨by (with_reducible repeat (first | apply Kd.R_alloc | apply Kd.R_drewN | apply Kd.R_drew));exact HO_7.out⟩,⟨bko⟩,⟨bko⟩,⟨blw⟩⟩
        ·rw [if_neg c17] at H;exact absurd H (by simp)
       ·rw [if_neg c16] at H;have c16b0:decide (x8_1 < (t130.length:Int))=false:=decide_eq_false c16;clear c16;simp only [Option.some.injEq,Prod.mk.injEq] at H;obtain ⟨rfl,rfl,rfl,rfl⟩:=H;obtain ⟨Ao25,co25,eo25⟩:=Kd.R_slice HO_7.out;subst eo25;have hnb26:=NB129_127.out;have hnc26:=NB127_129.out;have hcz27_0:wr.cell? ⟨gb129,0,none⟩=some (.int .i64 x130000_1):=(blk_cell BK129.out 0).trans rfl;have hcz27_1:wr.cell? ⟨gb129,1,none⟩=some (.string (a0.extract (a1:Int).toNat (t128:Int).toNat)):=(blk_cell BK129.out 1).trans rfl;have hcz27_2:wr.cell? ⟨gb129,2,none⟩=some (.int .i64 a1):=(blk_cell BK129.out 2).trans rfl;have hfz27_0:=blk_frozen BK129.out 0;have hfz27_1:=blk_frozen BK129.out 1;have hfz27_2:=blk_frozen BK129.out 2;have hcz28_0:wr.cell? ⟨gb127,0,none⟩=some (.int .i64 0):=(blk_cell BK127.out 0).trans rfl;have hcz28_1:wr.cell? ⟨gb127,1,none⟩=some (.string (⟨#[]⟩:zB)):=(blk_cell BK127.out 1).trans rfl;have hcz28_2:wr.cell? ⟨gb127,2,none⟩=some (.int .i64 0):=(blk_cell BK127.out 2).trans rfl;have hcz28_3:wr.cell? ⟨gb127,3,none⟩=some (.int .i64 0):=(blk_cell BK127.out 3).trans rfl;have hfz28_0:=blk_frozen BK127.out 0;have hfz28_1:=blk_frozen BK127.out 1;have hfz28_2:=blk_frozen BK127.out 2;have hfz28_3:=blk_frozen BK127.out 3;go_wp2;repeat (go_quiet (fail);try go_wp2)
        refine bodyPost_ret (results_cell_row rfl _ _ gb127 68 #[.int .i64 x130000_1,.string (a0.extract (a1:Int).toNat (t128:Int).toNat),.int .i64 a1,.int .i64 0] (0,0) _ rfl (by (with_reducible repeat (first | refine blk_drewN ?_ _ | refine blk_drew ?_ | refine blk_alloc ?_ _));refine blk_put (cs:=#[.int .i64 x130000_1,.string (a0.extract (a1:Int).toNat (t128:Int).toNat),.int .i64 a1,.int .i64 0]) ?_ 3 _ rfl;(with_reducible repeat (first | refine blk_drewN ?_ _ | refine blk_drew ?_ | refine blk_alloc ?_ _));refine blk_put (cs:=#[.int .i64 x130000_1,.string (a0.extract (a1:Int).toNat (t128:Int).toNat),.int .i64 0,.int .i64 0]) ?_ 2 _ rfl;(with_reducible repeat (first | refine blk_drewN ?_ _ | refine blk_drew ?_ | refine blk_alloc ?_ _));refine blk_put (cs:=#[.int .i64 x130000_1,.string (⟨#[]⟩:zB),.int .i64 0,.int .i64 0]) ?_ 1 _ rfl;(with_reducible repeat (first | refine blk_drewN ?_ _ | refine blk_drew ?_ | refine blk_alloc ?_ _));refine blk_put (cs:=#[.int .i64 0,.string (⟨#[]⟩:zB),.int .i64 0,.int .i64 0]) ?_ 0 _ rfl;(with_reducible repeat (first | refine blk_drewN ?_ _ | refine blk_drew ?_ | refine blk_alloc ?_ _));exact BK127.out) Tryz.underlying68 rfl (by kernel_rfl)) rfl ?_;exact ⟨rew,blw⟩
    ·rw [if_neg c9] at H;exact absurd H (by simp)
   ·rw [if_neg c8] at H;exact absurd H (by simp)
  ·rw [if_neg c7] at H;exact absurd H (by simp)
end Go.Proofs.YtadgddipkbdnbaaGreatDoor.Q
