/- Parts of the proof of InsnLists. -/
import Derived.Test.YtffojmgmpfjlhaaGreatDoorInsnListsY2
set_option maxHeartbeats 8000000
set_option maxRecDepth 100000
set_option linter.unusedVariables false
set_option linter.unusedSimpArgs false
namespace Go.Proofs.YtffojmgmpfjlhaaGreatDoor.Q
open Go.Proofs.YtffojmgmpfjlhaaGreatDoor Go.RowKit Go.Proofs.YtffojmgmpfjlhaaGreatDoorW.PrintWords Go.Proofs.YtffojmgmpfjlhaaGreatDoorW.PrintLast Go.Proofs.YtffojmgmpfjlhaaGreatDoorW.PrintMore
attribute [local go_sem] max2_int min2_int max_two min_two max_three min_three max_four min_four
mutual
def rzForm.j0:Nat→Int→Bool→Option (Int)
 | 0,_,_=>none
 | k+1,x3,x4=>if x4=true then (some 1) else (if x3=2 then (rzForm.j1 k x3 (x3 == 2)) else (if x3=5 then (rzForm.j1 k x3 (x3 == 5)) else (if x3=6 then (rzForm.j1 k x3 (x3 == 6)) else (if x3=7 then (rzForm.j1 k x3 (x3 == 7)) else (if x3=8 then (rzForm.j1 k x3 (x3 == 8)) else (if x3=9 then (rzForm.j1 k x3 (x3 == 9)) else (if x3=10 then (rzForm.j1 k x3 (x3 == 10)) else (if x3=11 then (rzForm.j1 k x3 (x3 == 11)) else (if x3=12 then (rzForm.j1 k x3 (x3 == 12)) else (if x3=13 then (rzForm.j1 k x3 (x3 == 13)) else (if x3=14 then (rzForm.j1 k x3 (x3 == 14)) else (rzForm.j1 k x3 (x3 == 15)))))))))))))
def rzForm.j1:Nat→Int→Bool→Option (Int)
 | 0,_,_=>none
 | k+1,x3,x8=>if x8=true then (some 2) else (if x3=3 then (some 3) else (if x3=4 then (rzForm.j2 k x3 (x3 == 4)) else (rzForm.j2 k x3 (x3 == 16))))
def rzForm.j2:Nat→Int→Bool→Option (Int)
 | 0,_,_=>none
 | k+1,x3,x23=>if x23=true then (some 4) else (if x3=17 then (rzForm.j3 k x3 (x3 == 17)) else (if x3=18 then (rzForm.j3 k x3 (x3 == 18)) else (if x3=19 then (rzForm.j3 k x3 (x3 == 19)) else (rzForm.j3 k x3 (x3 == 20)))))
def rzForm.j3:Nat→Int→Bool→Option (Int)
 | 0,_,_=>none
 | k+1,x3,x26=>if x26=true then (some 5) else (if x3=21 then (rzForm.j4 k x3 (x3 == 21)) else (if x3=22 then (rzForm.j4 k x3 (x3 == 22)) else (if x3=23 then (rzForm.j4 k x3 (x3 == 23)) else (rzForm.j4 k x3 (x3 == 24)))))
def rzForm.j4:Nat→Int→Bool→Option (Int)
 | 0,_,_=>none
 | k+1,x3,x31=>if x31=true then (some 6) else (if x3=25 then (rzForm.j5 k x3 (x3 == 25)) else (rzForm.j5 k x3 (x3 == 27)))
def rzForm.j5:Nat→Int→Bool→Option (Int)
 | 0,_,_=>none
 | k+1,x3,x36=>if x36=true then (some 7) else (if x3=26 then (rzForm.j6 k x3 (x3 == 26)) else (if x3=28 then (rzForm.j6 k x3 (x3 == 28)) else (if x3=30 then (rzForm.j6 k x3 (x3 == 30)) else (rzForm.j6 k x3 (x3 == 31)))))
def rzForm.j6:Nat→Int→Bool→Option (Int)
 | 0,_,_=>none
 | k+1,x3,x39=>if x39=true then (some 8) else (if x3=32 then (some 9) else (if x3=33 then (some 10) else (if x3=34 then (some 11) else (some 0))))
end
def rzForm.f (k:Nat) (a0:Int):Option (Int):=if a0=1 then (rzForm.j0 k a0 (a0 == 1)) else (if a0=29 then (rzForm.j0 k a0 (a0 == 29)) else (rzForm.j0 k a0 (a0 == 76)))
theorem rzForm.mono_l:∀ k,(∀ y0 y1,LeO (rzForm.j0 k y0 y1) (rzForm.j0 (k+1) y0 y1))∧(∀ y0 y1,LeO (rzForm.j1 k y0 y1) (rzForm.j1 (k+1) y0 y1))∧(∀ y0 y1,LeO (rzForm.j2 k y0 y1) (rzForm.j2 (k+1) y0 y1))∧(∀ y0 y1,LeO (rzForm.j3 k y0 y1) (rzForm.j3 (k+1) y0 y1))∧(∀ y0 y1,LeO (rzForm.j4 k y0 y1) (rzForm.j4 (k+1) y0 y1))∧(∀ y0 y1,LeO (rzForm.j5 k y0 y1) (rzForm.j5 (k+1) y0 y1))∧(∀ y0 y1,LeO (rzForm.j6 k y0 y1) (rzForm.j6 (k+1) y0 y1))
 | 0=>⟨fun _ _ r h=>by simp [rzForm.j0] at h,fun _ _ r h=>by simp [rzForm.j1] at h,fun _ _ r h=>by simp [rzForm.j2] at h,fun _ _ r h=>by simp [rzForm.j3] at h,fun _ _ r h=>by simp [rzForm.j4] at h,fun _ _ r h=>by simp [rzForm.j5] at h,fun _ _ r h=>by simp [rzForm.j6] at h⟩
 | k+1=>by
  obtain ⟨ih0,ih1,ih2,ih3,ih4,ih5,ih6⟩:=rzForm.mono_l k;refine ⟨?_,?_,?_,?_,?_,?_,?_⟩
  ·intro y0 y1;unfold rzForm.j0;repeat' first | (with_reducible first | exact ih0 _ _ | exact ih1 _ _ | exact ih2 _ _ | exact ih3 _ _ | exact ih4 _ _ | exact ih5 _ _ | exact ih6 _ _ | exact LeO.refl _ | exact LeO.none _ | refine LeO.ite ?_ ?_ | refine LeO.bind ?_ (fun _=>?_)) | exact LeO.none _ | refine LeO.ite ?_ ?_ | refine LeO.bind ?_ (fun _=>?_)
  ·intro y0 y1;unfold rzForm.j1;repeat' first | (with_reducible first | exact ih0 _ _ | exact ih1 _ _ | exact ih2 _ _ | exact ih3 _ _ | exact ih4 _ _ | exact ih5 _ _ | exact ih6 _ _ | exact LeO.refl _ | exact LeO.none _ | refine LeO.ite ?_ ?_ | refine LeO.bind ?_ (fun _=>?_)) | exact LeO.none _ | refine LeO.ite ?_ ?_ | refine LeO.bind ?_ (fun _=>?_)
  ·intro y0 y1;unfold rzForm.j2;repeat' first | (with_reducible first | exact ih0 _ _ | exact ih1 _ _ | exact ih2 _ _ | exact ih3 _ _ | exact ih4 _ _ | exact ih5 _ _ | exact ih6 _ _ | exact LeO.refl _ | exact LeO.none _ | refine LeO.ite ?_ ?_ | refine LeO.bind ?_ (fun _=>?_)) | exact LeO.none _ | refine LeO.ite ?_ ?_ | refine LeO.bind ?_ (fun _=>?_)
  ·intro y0 y1;unfold rzForm.j3;repeat' first | (with_reducible first | exact ih0 _ _ | exact ih1 _ _ | exact ih2 _ _ | exact ih3 _ _ | exact ih4 _ _ | exact ih5 _ _ | exact ih6 _ _ | exact LeO.refl _ | exact LeO.none _ | refine LeO.ite ?_ ?_ | refine LeO.bind ?_ (fun _=>?_)) | exact LeO.none _ | refine LeO.ite ?_ ?_ | refine LeO.bind ?_ (fun _=>?_)
  ·intro y0 y1;unfold rzForm.j4;repeat' first | (with_reducible first | exact ih0 _ _ | exact ih1 _ _ | exact ih2 _ _ | exact ih3 _ _ | exact ih4 _ _ | exact ih5 _ _ | exact ih6 _ _ | exact LeO.refl _ | exact LeO.none _ | refine LeO.ite ?_ ?_ | refine LeO.bind ?_ (fun _=>?_)) | exact LeO.none _ | refine LeO.ite ?_ ?_ | refine LeO.bind ?_ (fun _=>?_)
  ·intro y0 y1;unfold rzForm.j5;repeat' first | (with_reducible first | exact ih0 _ _ | exact ih1 _ _ | exact ih2 _ _ | exact ih3 _ _ | exact ih4 _ _ | exact ih5 _ _ | exact ih6 _ _ | exact LeO.refl _ | exact LeO.none _ | refine LeO.ite ?_ ?_ | refine LeO.bind ?_ (fun _=>?_)) | exact LeO.none _ | refine LeO.ite ?_ ?_ | refine LeO.bind ?_ (fun _=>?_)
  ·intro y0 y1;unfold rzForm.j6;repeat' first | (with_reducible first | exact ih0 _ _ | exact ih1 _ _ | exact ih2 _ _ | exact ih3 _ _ | exact ih4 _ _ | exact ih5 _ _ | exact ih6 _ _ | exact LeO.refl _ | exact LeO.none _ | refine LeO.ite ?_ ?_ | refine LeO.bind ?_ (fun _=>?_)) | exact LeO.none _ | refine LeO.ite ?_ ?_ | refine LeO.bind ?_ (fun _=>?_)
theorem rzForm.mono:∀ a0 k,LeO (rzForm.f k a0) (rzForm.f (k+1) a0):=by
 intro a0 k;obtain ⟨ih0,ih1,ih2,ih3,ih4,ih5,ih6⟩:=rzForm.mono_l k;unfold rzForm.f;repeat' first | (with_reducible first | exact ih0 _ _ | exact ih1 _ _ | exact ih2 _ _ | exact ih3 _ _ | exact ih4 _ _ | exact ih5 _ _ | exact ih6 _ _ | exact LeO.refl _ | exact LeO.none _ | refine LeO.ite ?_ ?_ | refine LeO.bind ?_ (fun _=>?_)) | exact LeO.none _ | refine LeO.ite ?_ ?_ | refine LeO.bind ?_ (fun _=>?_)
theorem rzForm.calls (k:Nat) (a0:Int) (r:Int) (w:World) (h:rzForm.f k a0=some r) :
  Calls Tryz.prog 51 #[.int .i64 a0] w fun e w'=>e=.returned (.int .i64 r)∧Drawn0 w w':=by
 unfold rzForm.f at h;have H:=h;clear h;have HC2:=Aside0.mk H;clear H;go_enter Tryz.func51,Tryz.ntmps51
 go_upto_if 4 with (fail)
 go_cut [4] (fun v4 wc=>∃ (kq:Nat) (x4_1:Bool),v4=.bool x4_1∧Aside0 (rzForm.j0 kq a0 x4_1=some r)∧Aside0 (kq≤k)∧Drawn0 w wc)
 case first =>
  have H:=HC2.out;clear HC2;by_cases c3:a0=1
  ·rw [if_pos c3] at H;obtain ⟨c3b0,c3b1⟩:=bqt c3;clear c3;(first | rw [c3b0] | (simp only [i64_w,i32_w];rw [c3b0]) | skip);have H':=Aside0.mk H;clear H;go_wp2;go_meet
   case rel=>exact ⟨_,((a0 == 1)),rsd,H',⟨by first | omega | exact Nat.le_refl _⟩,by repeat (first | exact Drawn0.refl _ | apply Drawn0.step)⟩
  ·rw [if_neg c3] at H;obtain ⟨c3b0,c3b1⟩:=bqf c3;(first | rw [c3b0] | (simp only [i64_w,i32_w];rw [c3b0]) | skip);by_cases c4:a0=29
   ·rw [if_pos c4] at H;obtain ⟨c4b0,c4b1⟩:=bqt c4;clear c4;have H':=Aside0.mk H;clear H;go_wp2;go_meet
    case rel=>exact ⟨_,((a0 == 29)),rsd,H',⟨by first | omega | exact Nat.le_refl _⟩,by repeat (first | exact Drawn0.refl _ | apply Drawn0.step)⟩
   ·rw [if_neg c4] at H;obtain ⟨c4b0,c4b1⟩:=bqf c4;have H':=Aside0.mk H;clear H;go_wp2;go_meet
    case rel=>exact ⟨_,((a0 == 76)),rsd,H',⟨by first | omega | exact Nat.le_refl _⟩,by repeat (first | exact Drawn0.refl _ | apply Drawn0.step)⟩
 case rest =>
  clear HC2;obtain ⟨kq,x4_1,rfl,HA,HJ1,⟨mc1,rfl⟩⟩:=hcut;cases kq with
  | zero=>exact absurd HA.out (by simp [rzForm.j0])
  | succ kj1 =>
   have H:=HA.out;clear HA;simp only [rzForm.j0] at H;by_cases c5:x4_1=true
   ·subst c5;rw [if_pos rfl] at H;obtain rfl:=Option.some.inj H;go_wp2;go_ret;exact ⟨by first | rfl | (simp;done) | (simp [*];done),by repeat (first | exact Drawn0.refl _ | apply Drawn0.step)⟩
   ·replace c5:=Bool.eq_false_iff.mpr c5;subst c5;rw [if_neg (show ¬ (false=true) by decide)] at H;have HC6:=Aside0.mk H;clear H;go_upto_if 8 with (fail)
    go_cut [8] (fun v8 wc=>∃ (kq:Nat) (x8_5:Bool),v8=.bool x8_5∧Aside0 (rzForm.j1 kq a0 x8_5=some r)∧Aside0 (kq≤kj1)∧Drawn0 w wc)
    case first =>
     have H:=HC6.out;clear HC6;by_cases c7:a0=2
     ·rw [if_pos c7] at H;obtain ⟨c7b0,c7b1⟩:=bqt c7;clear c7;(first | rw [c7b0] | (simp only [i64_w,i32_w];rw [c7b0]) | skip);have H':=Aside0.mk H;clear H;go_wp2;go_meet
      case rel=>exact ⟨_,((a0 == 2)),rsd,H',⟨by have:=HJ1.out;first | omega | exact Nat.le_refl _⟩,by repeat (first | exact Drawn0.refl _ | apply Drawn0.step)⟩
     ·rw [if_neg c7] at H;obtain ⟨c7b0,c7b1⟩:=bqf c7;(first | rw [c7b0] | (simp only [i64_w,i32_w];rw [c7b0]) | skip);by_cases c8:a0=5
      ·rw [if_pos c8] at H;obtain ⟨c8b0,c8b1⟩:=bqt c8;clear c8;have H':=Aside0.mk H;clear H;go_wp2;go_meet
       case rel=>exact ⟨_,((a0 == 5)),rsd,H',⟨by have:=HJ1.out;first | omega | exact Nat.le_refl _⟩,by repeat (first | exact Drawn0.refl _ | apply Drawn0.step)⟩
      ·rw [if_neg c8] at H;obtain ⟨c8b0,c8b1⟩:=bqf c8;by_cases c9:a0=6
       ·rw [if_pos c9] at H;obtain ⟨c9b0,c9b1⟩:=bqt c9;clear c9;have H':=Aside0.mk H;clear H;go_wp2;go_meet
        case rel=>exact ⟨_,((a0 == 6)),rsd,H',⟨by have:=HJ1.out;first | omega | exact Nat.le_refl _⟩,by repeat (first | exact Drawn0.refl _ | apply Drawn0.step)⟩
       ·rw [if_neg c9] at H;obtain ⟨c9b0,c9b1⟩:=bqf c9;by_cases c10:a0=7
        ·rw [if_pos c10] at H;obtain ⟨c10b0,c10b1⟩:=bqt c10;clear c10;have H':=Aside0.mk H;clear H;go_wp2;go_meet
         case rel=>exact ⟨_,((a0 == 7)),rsd,H',⟨by have:=HJ1.out;first | omega | exact Nat.le_refl _⟩,by repeat (first | exact Drawn0.refl _ | apply Drawn0.step)⟩
        ·rw [if_neg c10] at H;obtain ⟨c10b0,c10b1⟩:=bqf c10;by_cases c11:a0=8
         ·rw [if_pos c11] at H;obtain ⟨c11b0,c11b1⟩:=bqt c11;clear c11;have H':=Aside0.mk H;clear H;go_wp2;go_meet
          case rel=>exact ⟨_,((a0 == 8)),rsd,H',⟨by have:=HJ1.out;first | omega | exact Nat.le_refl _⟩,by repeat (first | exact Drawn0.refl _ | apply Drawn0.step)⟩
         ·rw [if_neg c11] at H;obtain ⟨c11b0,c11b1⟩:=bqf c11;by_cases c12:a0=9
          ·rw [if_pos c12] at H;obtain ⟨c12b0,c12b1⟩:=bqt c12;clear c12;have H':=Aside0.mk H;clear H;go_wp2;go_meet
           case rel=>exact ⟨_,((a0 == 9)),rsd,H',⟨by have:=HJ1.out;first | omega | exact Nat.le_refl _⟩,by repeat (first | exact Drawn0.refl _ | apply Drawn0.step)⟩
          ·rw [if_neg c12] at H;obtain ⟨c12b0,c12b1⟩:=bqf c12;by_cases c13:a0=10
           ·rw [if_pos c13] at H;obtain ⟨c13b0,c13b1⟩:=bqt c13;clear c13;have H':=Aside0.mk H;clear H;go_wp2;go_meet
            case rel=>exact ⟨_,((a0 == 10)),rsd,H',⟨by have:=HJ1.out;first | omega | exact Nat.le_refl _⟩,by repeat (first | exact Drawn0.refl _ | apply Drawn0.step)⟩
           ·rw [if_neg c13] at H;obtain ⟨c13b0,c13b1⟩:=bqf c13;by_cases c14:a0=11
            ·rw [if_pos c14] at H;obtain ⟨c14b0,c14b1⟩:=bqt c14;clear c14;have H':=Aside0.mk H;clear H;go_wp2;go_meet
             case rel=>exact ⟨_,((a0 == 11)),rsd,H',⟨by have:=HJ1.out;first | omega | exact Nat.le_refl _⟩,by repeat (first | exact Drawn0.refl _ | apply Drawn0.step)⟩
            ·rw [if_neg c14] at H;obtain ⟨c14b0,c14b1⟩:=bqf c14;by_cases c15:a0=12
             ·rw [if_pos c15] at H;obtain ⟨c15b0,c15b1⟩:=bqt c15;clear c15;have H':=Aside0.mk H;clear H;go_wp2;go_meet
              case rel=>exact ⟨_,((a0 == 12)),rsd,H',⟨by have:=HJ1.out;first | omega | exact Nat.le_refl _⟩,by repeat (first | exact Drawn0.refl _ | apply Drawn0.step)⟩
             ·rw [if_neg c15] at H;obtain ⟨c15b0,c15b1⟩:=bqf c15;by_cases c16:a0=13
              ·rw [if_pos c16] at H;obtain ⟨c16b0,c16b1⟩:=bqt c16;clear c16;have H':=Aside0.mk H;clear H;go_wp2;go_meet
               case rel=>exact ⟨_,((a0 == 13)),rsd,H',⟨by have:=HJ1.out;first | omega | exact Nat.le_refl _⟩,by repeat (first | exact Drawn0.refl _ | apply Drawn0.step)⟩
              ·rw [if_neg c16] at H;obtain ⟨c16b0,c16b1⟩:=bqf c16;by_cases c17:a0=14
               ·rw [if_pos c17] at H;obtain ⟨c17b0,c17b1⟩:=bqt c17;clear c17;have H':=Aside0.mk H;clear H;go_wp2;go_meet
                case rel=>exact ⟨_,((a0 == 14)),rsd,H',⟨by have:=HJ1.out;first | omega | exact Nat.le_refl _⟩,by repeat (first | exact Drawn0.refl _ | apply Drawn0.step)⟩
               ·rw [if_neg c17] at H;obtain ⟨c17b0,c17b1⟩:=bqf c17;have H':=Aside0.mk H;clear H;go_wp2;go_meet
                case rel=>exact ⟨_,((a0 == 15)),rsd,H',⟨by have:=HJ1.out;first | omega | exact Nat.le_refl _⟩,by repeat (first | exact Drawn0.refl _ | apply Drawn0.step)⟩
    case rest =>
     clear HC6;try clear c5
     obtain ⟨kq,x8_5,rfl,HA,HJ5,⟨mc5,rfl⟩⟩:=hcut;cases kq with
     | zero=>exact absurd HA.out (by simp [rzForm.j1])
     | succ kj5 =>
      have H:=HA.out;clear HA;simp only [rzForm.j1] at H;by_cases c18:x8_5=true
      ·subst c18;rw [if_pos rfl] at H;obtain rfl:=Option.some.inj H;go_wp2;go_ret;exact ⟨by first | rfl | (simp;done) | (simp [*];done),by repeat (first | exact Drawn0.refl _ | apply Drawn0.step)⟩
      ·replace c18:=Bool.eq_false_iff.mpr c18;subst c18;rw [if_neg (show ¬ (false=true) by decide)] at H;by_cases c19:a0=3
       ·rw [if_pos c19] at H;obtain ⟨c19b0,c19b1⟩:=bqt c19;clear c19;obtain rfl:=Option.some.inj H;go_wp2;go_ret;exact ⟨by first | rfl | (simp;done) | (simp [*];done),by repeat (first | exact Drawn0.refl _ | apply Drawn0.step)⟩
       ·rw [if_neg c19] at H;obtain ⟨c19b0,c19b1⟩:=bqf c19;have HC20:=Aside0.mk H;clear H;go_upto_if 23 with (fail)
        go_cut [23] (fun v23 wc=>∃ (kq:Nat) (x23_19:Bool),v23=.bool x23_19∧Aside0 (rzForm.j2 kq a0 x23_19=some r)∧Aside0 (kq≤kj5)∧Drawn0 w wc)
        case first =>
         have H:=HC20.out;clear HC20;by_cases c21:a0=4
         ·rw [if_pos c21] at H;obtain ⟨c21b0,c21b1⟩:=bqt c21;clear c21;(first | rw [c21b0] | (simp only [i64_w,i32_w];rw [c21b0]) | skip);have H':=Aside0.mk H;clear H;go_wp2;go_meet
          case rel=>exact ⟨_,((a0 == 4)),rsd,H',⟨by have:=HJ1.out;have:=HJ5.out;first | omega | exact Nat.le_refl _⟩,by repeat (first | exact Drawn0.refl _ | apply Drawn0.step)⟩
         ·rw [if_neg c21] at H;obtain ⟨c21b0,c21b1⟩:=bqf c21;(first | rw [c21b0] | (simp only [i64_w,i32_w];rw [c21b0]) | skip);have H':=Aside0.mk H;clear H;go_wp2;go_meet
          case rel=>exact ⟨_,((a0 == 16)),rsd,H',⟨by have:=HJ1.out;have:=HJ5.out;first | omega | exact Nat.le_refl _⟩,by repeat (first | exact Drawn0.refl _ | apply Drawn0.step)⟩
        case rest =>
         clear HC20;try clear c18
         try clear c19
         try clear c19b0
         try clear c19b1
         obtain ⟨kq,x23_19,rfl,HA,HJ19,⟨mc19,rfl⟩⟩:=hcut;cases kq with
         | zero=>exact absurd HA.out (by simp [rzForm.j2])
         | succ kj19 =>
          have H:=HA.out;clear HA;simp only [rzForm.j2] at H;by_cases c22:x23_19=true
          ·subst c22;rw [if_pos rfl] at H;obtain rfl:=Option.some.inj H;go_wp2;go_ret;exact ⟨by first | rfl | (simp;done) | (simp [*];done),by repeat (first | exact Drawn0.refl _ | apply Drawn0.step)⟩
          ·replace c22:=Bool.eq_false_iff.mpr c22;subst c22;rw [if_neg (show ¬ (false=true) by decide)] at H;have HC23:=Aside0.mk H;clear H;go_upto_if 26 with (fail)
           go_cut [26] (fun v26 wc=>∃ (kq:Nat) (x26_22:Bool),v26=.bool x26_22∧Aside0 (rzForm.j3 kq a0 x26_22=some r)∧Aside0 (kq≤kj19)∧Drawn0 w wc)
           case first =>
            have H:=HC23.out;clear HC23;by_cases c24:a0=17
            ·rw [if_pos c24] at H;obtain ⟨c24b0,c24b1⟩:=bqt c24;clear c24;(first | rw [c24b0] | (simp only [i64_w,i32_w];rw [c24b0]) | skip);have H':=Aside0.mk H;clear H;go_wp2;go_meet
             case rel=>exact ⟨_,((a0 == 17)),rsd,H',⟨by have:=HJ1.out;have:=HJ5.out;have:=HJ19.out;first | omega | exact Nat.le_refl _⟩,by repeat (first | exact Drawn0.refl _ | apply Drawn0.step)⟩
            ·rw [if_neg c24] at H;obtain ⟨c24b0,c24b1⟩:=bqf c24;(first | rw [c24b0] | (simp only [i64_w,i32_w];rw [c24b0]) | skip);by_cases c25:a0=18
             ·rw [if_pos c25] at H;obtain ⟨c25b0,c25b1⟩:=bqt c25;clear c25;have H':=Aside0.mk H;clear H;go_wp2;go_meet
              case rel=>exact ⟨_,((a0 == 18)),rsd,H',⟨by have:=HJ1.out;have:=HJ5.out;have:=HJ19.out;first | omega | exact Nat.le_refl _⟩,by repeat (first | exact Drawn0.refl _ | apply Drawn0.step)⟩
             ·rw [if_neg c25] at H;obtain ⟨c25b0,c25b1⟩:=bqf c25;by_cases c26:a0=19
              ·rw [if_pos c26] at H;obtain ⟨c26b0,c26b1⟩:=bqt c26;clear c26;have H':=Aside0.mk H;clear H;go_wp2;go_meet
               case rel=>exact ⟨_,((a0 == 19)),rsd,H',⟨by have:=HJ1.out;have:=HJ5.out;have:=HJ19.out;first | omega | exact Nat.le_refl _⟩,by repeat (first | exact Drawn0.refl _ | apply Drawn0.step)⟩
              ·rw [if_neg c26] at H;obtain ⟨c26b0,c26b1⟩:=bqf c26;have H':=Aside0.mk H;clear H;go_wp2;go_meet
               case rel=>exact ⟨_,((a0 == 20)),rsd,H',⟨by have:=HJ1.out;have:=HJ5.out;have:=HJ19.out;first | omega | exact Nat.le_refl _⟩,by repeat (first | exact Drawn0.refl _ | apply Drawn0.step)⟩
           case rest =>
            clear HC23;try clear c22
            obtain ⟨kq,x26_22,rfl,HA,HJ22,⟨mc22,rfl⟩⟩:=hcut;cases kq with
            | zero=>exact absurd HA.out (by simp [rzForm.j3])
            | succ kj22 =>
             have H:=HA.out;clear HA;simp only [rzForm.j3] at H;by_cases c27:x26_22=true
             ·subst c27;rw [if_pos rfl] at H;obtain rfl:=Option.some.inj H;go_wp2;go_ret;exact ⟨by first | rfl | (simp;done) | (simp [*];done),by repeat (first | exact Drawn0.refl _ | apply Drawn0.step)⟩
             ·replace c27:=Bool.eq_false_iff.mpr c27;subst c27;rw [if_neg (show ¬ (false=true) by decide)] at H;have HC28:=Aside0.mk H;clear H;go_upto_if 31 with (fail)
              go_cut [31] (fun v31 wc=>∃ (kq:Nat) (x31_27:Bool),v31=.bool x31_27∧Aside0 (rzForm.j4 kq a0 x31_27=some r)∧Aside0 (kq≤kj22)∧Drawn0 w wc)
              case first =>
               have H:=HC28.out;clear HC28;by_cases c29:a0=21
               ·rw [if_pos c29] at H;obtain ⟨c29b0,c29b1⟩:=bqt c29;clear c29;(first | rw [c29b0] | (simp only [i64_w,i32_w];rw [c29b0]) | skip);have H':=Aside0.mk H;clear H;go_wp2;go_meet
                case rel=>exact ⟨_,((a0 == 21)),rsd,H',⟨by have:=HJ1.out;have:=HJ5.out;have:=HJ19.out;have:=HJ22.out;first | omega | exact Nat.le_refl _⟩,by repeat (first | exact Drawn0.refl _ | apply Drawn0.step)⟩
               ·rw [if_neg c29] at H;obtain ⟨c29b0,c29b1⟩:=bqf c29;(first | rw [c29b0] | (simp only [i64_w,i32_w];rw [c29b0]) | skip);by_cases c30:a0=22
                ·rw [if_pos c30] at H;obtain ⟨c30b0,c30b1⟩:=bqt c30;clear c30;have H':=Aside0.mk H;clear H;go_wp2;go_meet
                 case rel=>exact ⟨_,((a0 == 22)),rsd,H',⟨by have:=HJ1.out;have:=HJ5.out;have:=HJ19.out;have:=HJ22.out;first | omega | exact Nat.le_refl _⟩,by repeat (first | exact Drawn0.refl _ | apply Drawn0.step)⟩
                ·rw [if_neg c30] at H;obtain ⟨c30b0,c30b1⟩:=bqf c30;by_cases c31:a0=23
                 ·rw [if_pos c31] at H;obtain ⟨c31b0,c31b1⟩:=bqt c31;clear c31;have H':=Aside0.mk H;clear H;go_wp2;go_meet
                  case rel=>exact ⟨_,((a0 == 23)),rsd,H',⟨by have:=HJ1.out;have:=HJ5.out;have:=HJ19.out;have:=HJ22.out;first | omega | exact Nat.le_refl _⟩,by repeat (first | exact Drawn0.refl _ | apply Drawn0.step)⟩
                 ·rw [if_neg c31] at H;obtain ⟨c31b0,c31b1⟩:=bqf c31;have H':=Aside0.mk H;clear H;go_wp2;go_meet
                  case rel=>exact ⟨_,((a0 == 24)),rsd,H',⟨by have:=HJ1.out;have:=HJ5.out;have:=HJ19.out;have:=HJ22.out;first | omega | exact Nat.le_refl _⟩,by repeat (first | exact Drawn0.refl _ | apply Drawn0.step)⟩
              case rest =>
               clear HC28;try clear c27
               obtain ⟨kq,x31_27,rfl,HA,HJ27,⟨mc27,rfl⟩⟩:=hcut;cases kq with
               | zero=>exact absurd HA.out (by simp [rzForm.j4])
               | succ kj27 =>
                have H:=HA.out;clear HA;simp only [rzForm.j4] at H;by_cases c32:x31_27=true
                ·subst c32;rw [if_pos rfl] at H;obtain rfl:=Option.some.inj H;go_wp2;go_ret;exact ⟨by first | rfl | (simp;done) | (simp [*];done),by repeat (first | exact Drawn0.refl _ | apply Drawn0.step)⟩
                ·replace c32:=Bool.eq_false_iff.mpr c32;subst c32;rw [if_neg (show ¬ (false=true) by decide)] at H;have HC33:=Aside0.mk H;clear H;go_upto_if 36 with (fail)
                 go_cut [36] (fun v36 wc=>∃ (kq:Nat) (x36_32:Bool),v36=.bool x36_32∧Aside0 (rzForm.j5 kq a0 x36_32=some r)∧Aside0 (kq≤kj27)∧Drawn0 w wc)
                 case first =>
                  have H:=HC33.out;clear HC33;by_cases c34:a0=25
                  ·rw [if_pos c34] at H;obtain ⟨c34b0,c34b1⟩:=bqt c34;clear c34;(first | rw [c34b0] | (simp only [i64_w,i32_w];rw [c34b0]) | skip);have H':=Aside0.mk H;clear H;go_wp2;go_meet
                   case rel=>exact ⟨_,((a0 == 25)),rsd,H',⟨by have:=HJ1.out;have:=HJ5.out;have:=HJ19.out;have:=HJ22.out;have:=HJ27.out;first | omega | exact Nat.le_refl _⟩,by repeat (first | exact Drawn0.refl _ | apply Drawn0.step)⟩
                  ·rw [if_neg c34] at H;obtain ⟨c34b0,c34b1⟩:=bqf c34;(first | rw [c34b0] | (simp only [i64_w,i32_w];rw [c34b0]) | skip);have H':=Aside0.mk H;clear H;go_wp2;go_meet
                   case rel=>exact ⟨_,((a0 == 27)),rsd,H',⟨by have:=HJ1.out;have:=HJ5.out;have:=HJ19.out;have:=HJ22.out;have:=HJ27.out;first | omega | exact Nat.le_refl _⟩,by repeat (first | exact Drawn0.refl _ | apply Drawn0.step)⟩
                 case rest =>
                  clear HC33;try clear c32
                  obtain ⟨kq,x36_32,rfl,HA,HJ32,⟨mc32,rfl⟩⟩:=hcut;cases kq with
                  | zero=>exact absurd HA.out (by simp [rzForm.j5])
                  | succ kj32 =>
                   have H:=HA.out;clear HA;simp only [rzForm.j5] at H;by_cases c35:x36_32=true
                   ·subst c35;rw [if_pos rfl] at H;obtain rfl:=Option.some.inj H;go_wp2;go_ret;exact ⟨by first | rfl | (simp;done) | (simp [*];done),by repeat (first | exact Drawn0.refl _ | apply Drawn0.step)⟩
                   ·replace c35:=Bool.eq_false_iff.mpr c35;subst c35;rw [if_neg (show ¬ (false=true) by decide)] at H;have HC36:=Aside0.mk H;clear H;go_upto_if 39 with (fail)
                    go_cut [39] (fun v39 wc=>∃ (kq:Nat) (x39_35:Bool),v39=.bool x39_35∧Aside0 (rzForm.j6 kq a0 x39_35=some r)∧Aside0 (kq≤kj32)∧Drawn0 w wc)
                    case first =>
                     have H:=HC36.out;clear HC36;by_cases c37:a0=26
                     ·rw [if_pos c37] at H;obtain ⟨c37b0,c37b1⟩:=bqt c37;clear c37;(first | rw [c37b0] | (simp only [i64_w,i32_w];rw [c37b0]) | skip);have H':=Aside0.mk H;clear H;go_wp2;go_meet
                      case rel=>exact ⟨_,((a0 == 26)),rsd,H',⟨by have:=HJ1.out;have:=HJ5.out;have:=HJ19.out;have:=HJ22.out;have:=HJ27.out;have:=HJ32.out;first | omega | exact Nat.le_refl _⟩,by repeat (first | exact Drawn0.refl _ | apply Drawn0.step)⟩
                     ·rw [if_neg c37] at H;obtain ⟨c37b0,c37b1⟩:=bqf c37;(first | rw [c37b0] | (simp only [i64_w,i32_w];rw [c37b0]) | skip);by_cases c38:a0=28
                      ·rw [if_pos c38] at H;obtain ⟨c38b0,c38b1⟩:=bqt c38;clear c38;have H':=Aside0.mk H;clear H;go_wp2;go_meet
                       case rel=>exact ⟨_,((a0 == 28)),rsd,H',⟨by have:=HJ1.out;have:=HJ5.out;have:=HJ19.out;have:=HJ22.out;have:=HJ27.out;have:=HJ32.out;first | omega | exact Nat.le_refl _⟩,by repeat (first | exact Drawn0.refl _ | apply Drawn0.step)⟩
                      ·rw [if_neg c38] at H;obtain ⟨c38b0,c38b1⟩:=bqf c38;by_cases c39:a0=30
                       ·rw [if_pos c39] at H;obtain ⟨c39b0,c39b1⟩:=bqt c39;clear c39;have H':=Aside0.mk H;clear H;go_wp2;go_meet
                        case rel=>exact ⟨_,((a0 == 30)),rsd,H',⟨by have:=HJ1.out;have:=HJ5.out;have:=HJ19.out;have:=HJ22.out;have:=HJ27.out;have:=HJ32.out;first | omega | exact Nat.le_refl _⟩,by repeat (first | exact Drawn0.refl _ | apply Drawn0.step)⟩
                       ·rw [if_neg c39] at H;obtain ⟨c39b0,c39b1⟩:=bqf c39;have H':=Aside0.mk H;clear H;go_wp2;go_meet
                        case rel=>exact ⟨_,((a0 == 31)),rsd,H',⟨by have:=HJ1.out;have:=HJ5.out;have:=HJ19.out;have:=HJ22.out;have:=HJ27.out;have:=HJ32.out;first | omega | exact Nat.le_refl _⟩,by repeat (first | exact Drawn0.refl _ | apply Drawn0.step)⟩
                    case rest =>
                     clear HC36;try clear c35
                     obtain ⟨kq,x39_35,rfl,HA,HJ35,⟨mc35,rfl⟩⟩:=hcut;cases kq with
                     | zero=>exact absurd HA.out (by simp [rzForm.j6])
                     | succ kj35 =>
                      have H:=HA.out;clear HA;simp only [rzForm.j6] at H;by_cases c40:x39_35=true
                      ·subst c40;rw [if_pos rfl] at H;obtain rfl:=Option.some.inj H;go_wp2;go_ret;exact ⟨by first | rfl | (simp;done) | (simp [*];done),by repeat (first | exact Drawn0.refl _ | apply Drawn0.step)⟩
                      ·replace c40:=Bool.eq_false_iff.mpr c40;subst c40;rw [if_neg (show ¬ (false=true) by decide)] at H;by_cases c41:a0=32
                       ·rw [if_pos c41] at H;obtain ⟨c41b0,c41b1⟩:=bqt c41;clear c41;obtain rfl:=Option.some.inj H;go_wp2;go_ret;exact ⟨by first | rfl | (simp;done) | (simp [*];done),by repeat (first | exact Drawn0.refl _ | apply Drawn0.step)⟩
                       ·rw [if_neg c41] at H;obtain ⟨c41b0,c41b1⟩:=bqf c41;by_cases c42:a0=33
                        ·rw [if_pos c42] at H;obtain ⟨c42b0,c42b1⟩:=bqt c42;clear c42;obtain rfl:=Option.some.inj H;go_wp2;go_ret;exact ⟨by first | rfl | (simp;done) | (simp [*];done),by repeat (first | exact Drawn0.refl _ | apply Drawn0.step)⟩
                        ·rw [if_neg c42] at H;obtain ⟨c42b0,c42b1⟩:=bqf c42;by_cases c43:a0=34
                         ·rw [if_pos c43] at H;obtain ⟨c43b0,c43b1⟩:=bqt c43;clear c43;obtain rfl:=Option.some.inj H;go_wp2;go_ret;exact ⟨by first | rfl | (simp;done) | (simp [*];done),by repeat (first | exact Drawn0.refl _ | apply Drawn0.step)⟩
                         ·rw [if_neg c43] at H;obtain ⟨c43b0,c43b1⟩:=bqf c43;obtain rfl:=Option.some.inj H;go_wp2;go_ret;exact ⟨by first | rfl | (simp;done) | (simp [*];done),by repeat (first | exact Drawn0.refl _ | apply Drawn0.step)⟩
mutual
def rzOperands.j0:Nat→Int→Bool→Option (Bool × Bool × Int)
 | 0,_,_=>none
 | k+1,x5,x6=>if x6=true then (some (true,true,0)) else (if x5=3 then (some (true,false,10)) else (if x5=4 then (some (true,false,1)) else (if x5=5 then (rzOperands.j1 k x5 (x5 == 5)) else (rzOperands.j1 k x5 (x5 == 6)))))
def rzOperands.j1:Nat→Int→Bool→Option (Bool × Bool × Int)
 | 0,_,_=>none
 | k+1,x5,x13=>if x13=true then (some (true,true,1)) else (if x5=7 then (some (false,false,2)) else (if x5=8 then (some (true,false,0)) else (if x5=9 then (some (true,false,2)) else (if x5=10 then (some (false,false,1)) else (some (false,false,0))))))
end
def rzOperands.f (k:Nat) (a0:Int):Option (Bool × Bool × Int):=if a0=2 then (rzOperands.j0 k a0 (a0 == 2)) else (rzOperands.j0 k a0 (a0 == 11))
theorem rzOperands.mono_l:∀ k,(∀ y0 y1,LeO (rzOperands.j0 k y0 y1) (rzOperands.j0 (k+1) y0 y1))∧(∀ y0 y1,LeO (rzOperands.j1 k y0 y1) (rzOperands.j1 (k+1) y0 y1))
 | 0=>⟨fun _ _ r h=>by simp [rzOperands.j0] at h,fun _ _ r h=>by simp [rzOperands.j1] at h⟩
 | k+1=>by
  obtain ⟨ih0,ih1⟩:=rzOperands.mono_l k;refine ⟨?_,?_⟩
  ·intro y0 y1;unfold rzOperands.j0;repeat' first | (with_reducible first | exact ih0 _ _ | exact ih1 _ _ | exact LeO.refl _ | exact LeO.none _ | refine LeO.ite ?_ ?_ | refine LeO.bind ?_ (fun _=>?_)) | exact LeO.none _ | refine LeO.ite ?_ ?_ | refine LeO.bind ?_ (fun _=>?_)
  ·intro y0 y1;unfold rzOperands.j1;repeat' first | (with_reducible first | exact ih0 _ _ | exact ih1 _ _ | exact LeO.refl _ | exact LeO.none _ | refine LeO.ite ?_ ?_ | refine LeO.bind ?_ (fun _=>?_)) | exact LeO.none _ | refine LeO.ite ?_ ?_ | refine LeO.bind ?_ (fun _=>?_)
theorem rzOperands.mono:∀ a0 k,LeO (rzOperands.f k a0) (rzOperands.f (k+1) a0):=by
 intro a0 k;obtain ⟨ih0,ih1⟩:=rzOperands.mono_l k;unfold rzOperands.f;repeat' first | (with_reducible first | exact ih0 _ _ | exact ih1 _ _ | exact LeO.refl _ | exact LeO.none _ | refine LeO.ite ?_ ?_ | refine LeO.bind ?_ (fun _=>?_)) | exact LeO.none _ | refine LeO.ite ?_ ?_ | refine LeO.bind ?_ (fun _=>?_)
theorem rzOperands.calls (k:Nat) (a0:Int) (r1:Bool) (r2:Bool) (r3:Int) (w:World) (h:rzOperands.f k a0=some (r1,r2,r3)) :
  Calls Tryz.prog 53 #[.int .i64 a0] w fun e w'=>e=.returned (.tuple #[.bool r1,.bool r2,.int .i64 r3])∧Drawn0 w w':=by
 unfold rzOperands.f at h;have H:=h;clear h;have HC2:=Aside0.mk H;clear H;go_enter Tryz.func53,Tryz.ntmps53
 go_upto_if 6 with (fail)
 go_cut [6] (fun v6 wc=>∃ (kq:Nat) (x6_1:Bool),v6=.bool x6_1∧Aside0 (rzOperands.j0 kq a0 x6_1=some (r1,r2,r3))∧Aside0 (kq≤k)∧Drawn0 w wc)
 case first =>
  have H:=HC2.out;clear HC2;by_cases c3:a0=2
  ·rw [if_pos c3] at H;obtain ⟨c3b0,c3b1⟩:=bqt c3;clear c3;(first | rw [c3b0] | (simp only [i64_w,i32_w];rw [c3b0]) | skip);have H':=Aside0.mk H;clear H;go_wp2;go_meet
   case rel=>exact ⟨_,((a0 == 2)),rsd,H',⟨by first | omega | exact Nat.le_refl _⟩,by repeat (first | exact Drawn0.refl _ | apply Drawn0.step)⟩
  ·rw [if_neg c3] at H;obtain ⟨c3b0,c3b1⟩:=bqf c3;(first | rw [c3b0] | (simp only [i64_w,i32_w];rw [c3b0]) | skip);have H':=Aside0.mk H;clear H;go_wp2;go_meet
   case rel=>exact ⟨_,((a0 == 11)),rsd,H',⟨by first | omega | exact Nat.le_refl _⟩,by repeat (first | exact Drawn0.refl _ | apply Drawn0.step)⟩
 case rest =>
  clear HC2;obtain ⟨kq,x6_1,rfl,HA,HJ1,⟨mc1,rfl⟩⟩:=hcut;cases kq with
  | zero=>exact absurd HA.out (by simp [rzOperands.j0])
  | succ kj1 =>
   have H:=HA.out;clear HA;simp only [rzOperands.j0] at H;by_cases c4:x6_1=true
   ·subst c4;rw [if_pos rfl] at H;simp only [Option.some.injEq,Prod.mk.injEq] at H;obtain ⟨rfl,rfl,rfl⟩:=H;go_wp2;go_ret3;exact ⟨by first | rfl | (simp;done) | (simp [*];done),by repeat (first | exact Drawn0.refl _ | apply Drawn0.step)⟩
   ·replace c4:=Bool.eq_false_iff.mpr c4;subst c4;rw [if_neg (show ¬ (false=true) by decide)] at H;by_cases c5:a0=3
    ·rw [if_pos c5] at H;obtain ⟨c5b0,c5b1⟩:=bqt c5;clear c5;simp only [Option.some.injEq,Prod.mk.injEq] at H;obtain ⟨rfl,rfl,rfl⟩:=H;go_wp2;go_ret3;exact ⟨by first | rfl | (simp;done) | (simp [*];done),by repeat (first | exact Drawn0.refl _ | apply Drawn0.step)⟩
    ·rw [if_neg c5] at H;obtain ⟨c5b0,c5b1⟩:=bqf c5;by_cases c6:a0=4
     ·rw [if_pos c6] at H;obtain ⟨c6b0,c6b1⟩:=bqt c6;clear c6;simp only [Option.some.injEq,Prod.mk.injEq] at H;obtain ⟨rfl,rfl,rfl⟩:=H;go_wp2;go_ret3;exact ⟨by first | rfl | (simp;done) | (simp [*];done),by repeat (first | exact Drawn0.refl _ | apply Drawn0.step)⟩
     ·rw [if_neg c6] at H;obtain ⟨c6b0,c6b1⟩:=bqf c6;have HC7:=Aside0.mk H;clear H;go_upto_if 13 with (fail)
      go_cut [13] (fun v13 wc=>∃ (kq:Nat) (x13_6:Bool),v13=.bool x13_6∧Aside0 (rzOperands.j1 kq a0 x13_6=some (r1,r2,r3))∧Aside0 (kq≤kj1)∧Drawn0 w wc)
      case first =>
       have H:=HC7.out;clear HC7;by_cases c8:a0=5
       ·rw [if_pos c8] at H;obtain ⟨c8b0,c8b1⟩:=bqt c8;clear c8;(first | rw [c8b0] | (simp only [i64_w,i32_w];rw [c8b0]) | skip);have H':=Aside0.mk H;clear H;go_wp2;go_meet
        case rel=>exact ⟨_,((a0 == 5)),rsd,H',⟨by have:=HJ1.out;first | omega | exact Nat.le_refl _⟩,by repeat (first | exact Drawn0.refl _ | apply Drawn0.step)⟩
       ·rw [if_neg c8] at H;obtain ⟨c8b0,c8b1⟩:=bqf c8;(first | rw [c8b0] | (simp only [i64_w,i32_w];rw [c8b0]) | skip);have H':=Aside0.mk H;clear H;go_wp2;go_meet
        case rel=>exact ⟨_,((a0 == 6)),rsd,H',⟨by have:=HJ1.out;first | omega | exact Nat.le_refl _⟩,by repeat (first | exact Drawn0.refl _ | apply Drawn0.step)⟩
      case rest =>
       clear HC7;try clear c4
       try clear c5
       try clear c5b0
       try clear c5b1
       try clear c6
       try clear c6b0
       try clear c6b1
       obtain ⟨kq,x13_6,rfl,HA,HJ6,⟨mc6,rfl⟩⟩:=hcut;cases kq with
       | zero=>exact absurd HA.out (by simp [rzOperands.j1])
       | succ kj6 =>
        have H:=HA.out;clear HA;simp only [rzOperands.j1] at H;by_cases c9:x13_6=true
        ·subst c9;rw [if_pos rfl] at H;simp only [Option.some.injEq,Prod.mk.injEq] at H;obtain ⟨rfl,rfl,rfl⟩:=H;go_wp2;go_ret3;exact ⟨by first | rfl | (simp;done) | (simp [*];done),by repeat (first | exact Drawn0.refl _ | apply Drawn0.step)⟩
        ·replace c9:=Bool.eq_false_iff.mpr c9;subst c9;rw [if_neg (show ¬ (false=true) by decide)] at H;by_cases c10:a0=7
         ·rw [if_pos c10] at H;obtain ⟨c10b0,c10b1⟩:=bqt c10;clear c10;simp only [Option.some.injEq,Prod.mk.injEq] at H;obtain ⟨rfl,rfl,rfl⟩:=H;go_wp2;go_ret3;exact ⟨by first | rfl | (simp;done) | (simp [*];done),by repeat (first | exact Drawn0.refl _ | apply Drawn0.step)⟩
         ·rw [if_neg c10] at H;obtain ⟨c10b0,c10b1⟩:=bqf c10;by_cases c11:a0=8
          ·rw [if_pos c11] at H;obtain ⟨c11b0,c11b1⟩:=bqt c11;clear c11;simp only [Option.some.injEq,Prod.mk.injEq] at H;obtain ⟨rfl,rfl,rfl⟩:=H;go_wp2;go_ret3;exact ⟨by first | rfl | (simp;done) | (simp [*];done),by repeat (first | exact Drawn0.refl _ | apply Drawn0.step)⟩
          ·rw [if_neg c11] at H;obtain ⟨c11b0,c11b1⟩:=bqf c11;by_cases c12:a0=9
           ·rw [if_pos c12] at H;obtain ⟨c12b0,c12b1⟩:=bqt c12;clear c12;simp only [Option.some.injEq,Prod.mk.injEq] at H;obtain ⟨rfl,rfl,rfl⟩:=H;go_wp2;go_ret3;exact ⟨by first | rfl | (simp;done) | (simp [*];done),by repeat (first | exact Drawn0.refl _ | apply Drawn0.step)⟩
           ·rw [if_neg c12] at H;obtain ⟨c12b0,c12b1⟩:=bqf c12;by_cases c13:a0=10
            ·rw [if_pos c13] at H;obtain ⟨c13b0,c13b1⟩:=bqt c13;clear c13;simp only [Option.some.injEq,Prod.mk.injEq] at H;obtain ⟨rfl,rfl,rfl⟩:=H;go_wp2;go_ret3;exact ⟨by first | rfl | (simp;done) | (simp [*];done),by repeat (first | exact Drawn0.refl _ | apply Drawn0.step)⟩
            ·rw [if_neg c13] at H;obtain ⟨c13b0,c13b1⟩:=bqf c13;simp only [Option.some.injEq,Prod.mk.injEq] at H;obtain ⟨rfl,rfl,rfl⟩:=H;go_wp2;go_ret3;exact ⟨by first | rfl | (simp;done) | (simp [*];done),by repeat (first | exact Drawn0.refl _ | apply Drawn0.step)⟩
mutual
def rznumber.j0:Nat→List Int→Int→Option (Int)
 | 0,_,_=>none
 | k+1,x0,x3=>rznumber.l0 k x0 x3 (wrap64 ((x0.length:Int) - 1))
def rznumber.l0:Nat→List Int→Int→Int→Option (Int)
 | 0,_,_,_=>none
 | k+1,x0,x3,x4=>if x4≥0 then (if 0≤x4 then (if x4 < (x0.length:Int) then (rznumber.l0 k x0 (Go.bits .or .i64 (wrap64 (x3 * 128)) (wrap64 (rd x0 x4))) (wrap64 (x4 - 1))) else (none)) else (none)) else (some x3)
end
def rznumber.f (k:Nat) (l0:List Int):Option (Int):=if 0≤(wrap64 ((l0.length:Int) - 1)) then (if (wrap64 ((l0.length:Int) - 1)) < (l0.length:Int) then (if (rd l0 (wrap64 ((l0.length:Int) - 1)))≥64 then (rznumber.j0 k l0 (-1)) else (rznumber.j0 k l0 0)) else (none)) else (none)
theorem rznumber.mono_l:∀ k,(∀ y0 y1,LeO (rznumber.j0 k y0 y1) (rznumber.j0 (k+1) y0 y1))∧(∀ y0 y1 y2,LeO (rznumber.l0 k y0 y1 y2) (rznumber.l0 (k+1) y0 y1 y2))
 | 0=>⟨fun _ _ r h=>by simp [rznumber.j0] at h,fun _ _ _ r h=>by simp [rznumber.l0] at h⟩
 | k+1=>by
  obtain ⟨ih0,ih1⟩:=rznumber.mono_l k;refine ⟨?_,?_⟩
  ·intro y0 y1;unfold rznumber.j0;repeat' first | (with_reducible first | exact ih0 _ _ | exact ih1 _ _ _ | exact LeO.refl _ | exact LeO.none _ | refine LeO.ite ?_ ?_ | refine LeO.bind ?_ (fun _=>?_)) | exact LeO.none _ | refine LeO.ite ?_ ?_ | refine LeO.bind ?_ (fun _=>?_)
  ·intro y0 y1 y2;unfold rznumber.l0;repeat' first | (with_reducible first | exact ih0 _ _ | exact ih1 _ _ _ | exact LeO.refl _ | exact LeO.none _ | refine LeO.ite ?_ ?_ | refine LeO.bind ?_ (fun _=>?_)) | exact LeO.none _ | refine LeO.ite ?_ ?_ | refine LeO.bind ?_ (fun _=>?_)
theorem rznumber.mono:∀ a0 k,LeO (rznumber.f k a0) (rznumber.f (k+1) a0):=by
 intro a0 k;obtain ⟨ih0,ih1⟩:=rznumber.mono_l k;unfold rznumber.f;repeat' first | (with_reducible first | exact ih0 _ _ | exact ih1 _ _ _ | exact LeO.refl _ | exact LeO.none _ | refine LeO.ite ?_ ?_ | refine LeO.bind ?_ (fun _=>?_)) | exact LeO.none _ | refine LeO.ite ?_ ?_ | refine LeO.bind ?_ (fun _=>?_)
theorem rznumber.calls (k:Nat) (A0:Option Addr) (c0:Nat) (l0:List Int) (r:Int) (w:World) (hr0:Kd.C (Kd.int .u8) w A0 l0.length l0) (hc0:l0.length≤c0) (h:rznumber.f k l0=some r) :
  Calls Tryz.prog 60 #[.slice A0 l0.length c0] w fun e w'=>e=.returned (.int .i64 r)∧Drawn0 w w':=by
 have HR0:=Aside0.mk hr0;have HC0:=Aside0.mk hc0;clear hr0 hc0;unfold rznumber.f at h;have H:=h;clear h;obtain ⟨ji2,hji2⟩:∃ j_:Int,(wrap64 ((l0.length:Int) - 1))=j_:=⟨_,rfl⟩;replace H:(if 0≤(ji2) then (if (ji2) < (l0.length:Int) then (if (rd l0 (ji2))≥64 then (rznumber.j0 k l0 (-1)) else (rznumber.j0 k l0 0)) else (none)) else (none))=some r:=by first | (rw [hji2] at H;exact H) | (simp only [hji2] at H ⊢;exact H)
 have hji2w:(IntKind.i64.wrap ((l0.length:Int) - 1))=ji2:=(i64_w _).trans hji2;by_cases c3:0≤(ji2)
 ·rw [if_pos c3] at H;have c3b0:=decide_eq_true c3;clear c3;by_cases c4:(ji2) < (l0.length:Int)
  ·rw [if_pos c4] at H;have c4b0:=decide_eq_true c4;clear c4;have HC5:=Aside0.mk H;clear H;have p347:0≤((ji2):Int):=of_decide_eq_true asm;have q347:(ji2) < (l0.length:Int):=of_decide_eq_true asm;obtain ⟨ad347,e347,hx347_0⟩:=Kd.at_int HR0.out (ji2) p347 q347;cases e347;replace p347:=eq_true p347;replace q347:=eq_true q347;go_enter Tryz.func60,Tryz.ntmps60
   go_upto_if 11 with (fail)
   go_cut [3] (fun v3 wc=>∃ (kq:Nat) (x3_4:Int),v3=.int .i64 x3_4∧Aside0 (rznumber.j0 kq l0 x3_4=some r)∧Aside0 (kq≤k)∧Drawn0 w wc)
   case first =>
    have H:=HC5.out;clear HC5;by_cases c6:(rd l0 (ji2))≥64
    ·rw [if_pos c6] at H;have c6b0:decide (64≤(rd l0 (ji2)))=true:=decide_eq_true c6;clear c6;(first | rw [c6b0] | (simp only [i64_w,i32_w];rw [c6b0]) | skip);have H':=Aside0.mk H;clear H;go_wp2;go_meet
     case rel=>exact ⟨_,((-1)),rsd,H',⟨by first | omega | exact Nat.le_refl _⟩,by repeat (first | exact Drawn0.refl _ | apply Drawn0.step)⟩
    ·rw [if_neg c6] at H;have c6b0:decide (64≤(rd l0 (ji2)))=false:=decide_eq_false c6;clear c6;(first | rw [c6b0] | (simp only [i64_w,i32_w];rw [c6b0]) | skip);have H':=Aside0.mk H;clear H;go_wp2;go_meet
     case rel=>exact ⟨_,(0),rsd,H',⟨by first | omega | exact Nat.le_refl _⟩,by repeat (first | exact Drawn0.refl _ | apply Drawn0.step)⟩
   case rest =>
    clear HC5;try clear c3b0
    try clear c4b0
    try clear hx347_0
    try clear p347
    try clear q347
    obtain ⟨kq,x3_4,rfl,HA,HJ4,⟨mc4,rfl⟩⟩:=hcut;cases kq with
    | zero=>exact absurd HA.out (by simp [rznumber.j0])
    | succ kj4 =>
     have H:=HA.out;clear HA;simp only [rznumber.j0] at H;have H':=Aside0.mk H;clear H;go_wp2;try simp only [Act.put,List.setIfInBounds_toArray,List.set_cons_zero,List.set_cons_succ]
     go_loopg [3,4] kj4 (fun kq v3 v4 w'=>∃ (x3_2:Int) (x4_2:Int),v3=.int .i64 x3_2∧v4=.int .i64 x4_2∧Aside0 (rznumber.l0 kq l0 x3_2 x4_2=some r)∧Aside0 (kq≤kj4)∧Drawn0 w w')
     case atStart=>exact ⟨(x3_4),(wrap64 ((l0.length:Int) - 1)),rsd,rsd,H',⟨Nat.le_refl _⟩,by repeat (first | exact Drawn0.refl _ | apply Drawn0.step)⟩
     case round =>
      clear H';obtain ⟨x3_2,x4_2,rfl,rfl,HA,HK2,⟨m2,rfl⟩⟩:=hrel;cases gk with
      | zero=>exact absurd HA.out (by simp [rznumber.l0])
      | succ k2 =>
       have H:=HA.out;clear HA;simp only [rznumber.l0] at H;by_cases c7:x4_2≥0
       ·rw [if_pos c7] at H;have c7b0:decide (0≤x4_2)=true:=decide_eq_true c7;clear c7;by_cases c8:0≤x4_2
        ·rw [if_pos c8] at H;have c8b0:=decide_eq_true c8;clear c8;by_cases c9:x4_2 < (l0.length:Int)
         ·rw [if_pos c9] at H;have c9b0:=decide_eq_true c9;clear c9;have H':=Aside0.mk H;clear H;have p348:0≤(x4_2:Int):=of_decide_eq_true asm;have q348:x4_2 < (l0.length:Int):=of_decide_eq_true asm;obtain ⟨ad348,e348,hx348_0⟩:=Kd.at_int HR0.out x4_2 p348 q348;obtain rfl:ad347=ad348:=(by injection e348);replace p348:=eq_true p348;replace q348:=eq_true q348;go_wp2;go_roundg k2
          case measure=>have:=HJ4.out;have:=HK2.out;omega
          case rel=>exact ⟨(Go.bits .or .i64 (wrap64 (x3_2 * 128)) (wrap64 (rd l0 x4_2))),(wrap64 (x4_2 - 1)),rsd,rsd,H',⟨by have:=HJ4.out;have:=HK2.out;omega⟩,by repeat (first | exact Drawn0.refl _ | apply Drawn0.step)⟩
         ·rw [if_neg c9] at H;exact absurd H (by simp)
        ·rw [if_neg c8] at H;exact absurd H (by simp)
       ·rw [if_neg c7] at H;have c7b0:decide (0≤x4_2)=false:=decide_eq_false c7;clear c7;obtain rfl:=Option.some.inj H;go_wp2;go_ret;exact ⟨by first | rfl | (simp;done) | (simp only [← hji2] <;> (first | rfl | simp)) | (simp [*];done),by repeat (first | exact Drawn0.refl _ | apply Drawn0.step)⟩
  ·rw [if_neg c4] at H;exact absurd H (by simp)
 ·rw [if_neg c3] at H;exact absurd H (by simp)
end Go.Proofs.YtffojmgmpfjlhaaGreatDoor.Q
