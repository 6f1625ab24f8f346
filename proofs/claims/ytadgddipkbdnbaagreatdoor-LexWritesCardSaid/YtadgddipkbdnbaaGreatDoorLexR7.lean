/- Parts of the proof: see the last text -/
import Derived.Test.YtadgddipkbdnbaaGreatDoorLexP1
import Derived.Test.YtadgddipkbdnbaaGreatDoorLexP2
import Derived.Test.YtadgddipkbdnbaaGreatDoorLexP3
import Derived.Test.YtadgddipkbdnbaaGreatDoorLexR1
namespace Go.Proofs.YtadgddipkbdnbaaGreatDoor.Q
open Go.Proofs.YtadgddipkbdnbaaGreatDoor Go.RowKit Go.Proofs.YtadgddipkbdnbaaGreatDoorW.PrintWords Go.Proofs.YtadgddipkbdnbaaGreatDoorW.PrintLast Go.Proofs.YtadgddipkbdnbaaGreatDoorW.PrintMore
attribute [local go_sem] max2_int min2_int max_two min_two max_three min_three max_four min_four   
set_option linter.unusedVariables false
set_option linter.unusedSimpArgs false
def taplineref11_opens.f (l0 : List (S38)) : Option (Bool) := if (l0.length : Int) = 0 then (some false) else (if 0 ≤ (wrap64 ((l0.length : Int) - 1)) then (if (wrap64 ((l0.length : Int) - 1)) < (l0.length : Int) then (if ((rd_T38 l0 (wrap64 ((l0.length : Int) - 1))).f0) = 2 then (if ((rd_T38 l0 (wrap64 ((l0.length : Int) - 1))).f1).toList = ([112, 114, 111, 98, 101] : List UInt8) then (some true) else (if (l0.length : Int) ≥ 2 then (if ((rd_T38 l0 (wrap64 ((l0.length : Int) - 1))).f0) = 5 then (if ((rd_T38 l0 (wrap64 ((l0.length : Int) - 1))).f1).toList = ([44] : List UInt8) then (if 0 ≤ (wrap64 ((l0.length : Int) - 2)) then (if (wrap64 ((l0.length : Int) - 2)) < (l0.length : Int) then (some (((rd_T38 l0 (wrap64 ((l0.length : Int) - 2))).f0) == 6)) else (none)) else (none)) else (some false)) else (some false)) else (some false))) else (if (l0.length : Int) ≥ 2 then (if ((rd_T38 l0 (wrap64 ((l0.length : Int) - 1))).f0) = 5 then (if ((rd_T38 l0 (wrap64 ((l0.length : Int) - 1))).f1).toList = ([44] : List UInt8) then (if 0 ≤ (wrap64 ((l0.length : Int) - 2)) then (if (wrap64 ((l0.length : Int) - 2)) < (l0.length : Int) then (some (((rd_T38 l0 (wrap64 ((l0.length : Int) - 2))).f0) == 6)) else (none)) else (none)) else (some false)) else (some false)) else (some false))) else (none)) else (none))
set_option maxHeartbeats 8000000 in
set_option maxRecDepth 100000 in
theorem taplineref11_opens.calls (A0 : Option Addr) (c0 : Nat) (l0 : List (S38)) (r : Bool) (w : World) (hr0 : Kd.C k38 w A0 l0.length l0) (hc0 : l0.length ≤ c0) (h : taplineref11_opens.f l0 = some r) :
  Calls Tryz.prog 52 #[.slice A0 l0.length c0] w fun e w' => e = .returned (.bool r) ∧ Drawn0 w w' := by
 have HR0 := Aside0.mk hr0
 have HC0 := Aside0.mk hc0
 clear hr0 hc0
 have H : (if (l0.length : Int) = 0 then (some false) else (if 0 ≤ (wrap64 ((l0.length : Int) - 1)) then (if (wrap64 ((l0.length : Int) - 1)) < (l0.length : Int) then (if ((rd_T38 l0 (wrap64 ((l0.length : Int) - 1))).f0) = 2 then (if ((rd_T38 l0 (wrap64 ((l0.length : Int) - 1))).f1).toList = ([112, 114, 111, 98, 101] : List UInt8) then (some true) else (if (l0.length : Int) ≥ 2 then (if ((rd_T38 l0 (wrap64 ((l0.length : Int) - 1))).f0) = 5 then (if ((rd_T38 l0 (wrap64 ((l0.length : Int) - 1))).f1).toList = ([44] : List UInt8) then (if 0 ≤ (wrap64 ((l0.length : Int) - 2)) then (if (wrap64 ((l0.length : Int) - 2)) < (l0.length : Int) then (some (((rd_T38 l0 (wrap64 ((l0.length : Int) - 2))).f0) == 6)) else (none)) else (none)) else (some false)) else (some false)) else (some false))) else (if (l0.length : Int) ≥ 2 then (if ((rd_T38 l0 (wrap64 ((l0.length : Int) - 1))).f0) = 5 then (if ((rd_T38 l0 (wrap64 ((l0.length : Int) - 1))).f1).toList = ([44] : List UInt8) then (if 0 ≤ (wrap64 ((l0.length : Int) - 2)) then (if (wrap64 ((l0.length : Int) - 2)) < (l0.length : Int) then (some (((rd_T38 l0 (wrap64 ((l0.length : Int) - 2))).f0) == 6)) else (none)) else (none)) else (some false)) else (some false)) else (some false))) else (none)) else (none))) = some r := h
 clear h
 by_cases c2 : (l0.length : Int) = 0
 ·rw [if_pos c2] at H
  have c2b0 : ((l0.length : Int) == 0) = true := beq_iff_eq.mpr c2
  have c2b1 : ((l0.length : Int) != 0) = false := bne_eq_false_iff_eq.mpr c2
  clear c2
  obtain rfl := Option.some.inj H
  go_enter Tryz.func52, Tryz.ntmps52
  go_wp2
  go_ret
  exact ⟨by first | rfl | (simp; done) | (simp [*]; done), by repeat (first | exact Drawn0.refl _ | apply Drawn0.step)⟩
 ·rw [if_neg c2] at H
  have c2b0 : ((l0.length : Int) == 0) = false := beq_eq_false_iff_ne.mpr c2
  have c2b1 : ((l0.length : Int) != 0) = true := bne_iff_ne.mpr c2
  have c2b2 : ¬ (l0 = []) := fun h_ => c2 (by rw [h_]; rfl)
  obtain ⟨ji3, hji3⟩ : ∃ j_ : Int, (wrap64 ((l0.length : Int) - 1)) = j_ := ⟨_, rfl⟩
  replace H : (if 0 ≤ (ji3) then (if (ji3) < (l0.length : Int) then (if ((rd_T38 l0 (ji3)).f0) = 2 then (if ((rd_T38 l0 (ji3)).f1).toList = ([112, 114, 111, 98, 101] : List UInt8) then (some true) else (if (l0.length : Int) ≥ 2 then (if ((rd_T38 l0 (ji3)).f0) = 5 then (if ((rd_T38 l0 (ji3)).f1).toList = ([44] : List UInt8) then (if 0 ≤ (wrap64 ((l0.length : Int) - 2)) then (if (wrap64 ((l0.length : Int) - 2)) < (l0.length : Int) then (some (((rd_T38 l0 (wrap64 ((l0.length : Int) - 2))).f0) == 6)) else (none)) else (none)) else (some false)) else (some false)) else (some false))) else (if (l0.length : Int) ≥ 2 then (if ((rd_T38 l0 (ji3)).f0) = 5 then (if ((rd_T38 l0 (ji3)).f1).toList = ([44] : List UInt8) then (if 0 ≤ (wrap64 ((l0.length : Int) - 2)) then (if (wrap64 ((l0.length : Int) - 2)) < (l0.length : Int) then (some (((rd_T38 l0 (wrap64 ((l0.length : Int) - 2))).f0) == 6)) else (none)) else (none)) else (some false)) else (some false)) else (some false))) else (none)) else (none)) = some r := by first | (rw [hji3] at H; exact H) | (simp only [hji3] at H ⊢; exact H)
  have hji3w : (IntKind.i64.wrap ((l0.length : Int) - 1)) = ji3 := (i64_w _).trans hji3
  by_cases c4 : 0 ≤ (ji3)
  ·rw [if_pos c4] at H
   have c4b0 : decide (0 ≤ (ji3)) = true := decide_eq_true c4
   clear c4
   by_cases c5 : (ji3) < (l0.length : Int)
   ·rw [if_pos c5] at H
    have c5b0 : decide ((ji3) < (l0.length : Int)) = true := decide_eq_true c5
    clear c5
    by_cases c6 : ((rd_T38 l0 (ji3)).f0) = 2
    ·rw [if_pos c6] at H
     have c6b0 : (((rd_T38 l0 (ji3)).f0) == 2) = true := beq_iff_eq.mpr c6
     have c6b1 : (((rd_T38 l0 (ji3)).f0) != 2) = false := bne_eq_false_iff_eq.mpr c6
     clear c6
     by_cases c7 : ((rd_T38 l0 (ji3)).f1).toList = ([112, 114, 111, 98, 101] : List UInt8)
     ·rw [if_pos c7] at H
      have c7b0 : (((rd_T38 l0 (ji3)).f1).toList == ([112, 114, 111, 98, 101] : List UInt8)) = true := beq_iff_eq.mpr c7
      have c7b1 : (((rd_T38 l0 (ji3)).f1).toList != ([112, 114, 111, 98, 101] : List UInt8)) = false := bne_eq_false_iff_eq.mpr c7
      clear c7
      obtain rfl := Option.some.inj H
      have p155 : 0 ≤ ((ji3) : Int) := of_decide_eq_true asm
      have q155 : (ji3) < (l0.length : Int) := of_decide_eq_true asm
      obtain ⟨ad155, e155, hx155_0, hx155_1, hx155_2⟩ := at_T38 HR0.out (ji3) p155 q155
      cases e155
      replace p155 := eq_true p155
      replace q155 := eq_true q155
      have p156 : 0 ≤ ((ji3) : Int) := of_decide_eq_true asm
      have q156 : (ji3) < (l0.length : Int) := of_decide_eq_true asm
      obtain ⟨ad156, e156, hx156_0, hx156_1, hx156_2⟩ := at_T38 HR0.out (ji3) p156 q156
      obtain rfl : ad155 = ad156 := (by injection e156)
      replace p156 := eq_true p156
      replace q156 := eq_true q156
      go_enter Tryz.func52, Tryz.ntmps52
      go_wp2
      go_ret
      exact ⟨by first | rfl | (simp; done) | (simp only [← hji3] <;> (first | rfl | simp)) | (simp [*]; done), by repeat (first | exact Drawn0.refl _ | apply Drawn0.step)⟩
     ·rw [if_neg c7] at H
      have c7b0 : (((rd_T38 l0 (ji3)).f1).toList == ([112, 114, 111, 98, 101] : List UInt8)) = false := beq_eq_false_iff_ne.mpr c7
      have c7b1 : (((rd_T38 l0 (ji3)).f1).toList != ([112, 114, 111, 98, 101] : List UInt8)) = true := bne_iff_ne.mpr c7
      by_cases c8 : (l0.length : Int) ≥ 2
      ·rw [if_pos c8] at H
       have c8b0 : decide (2 ≤ (l0.length : Int)) = true := decide_eq_true c8
       have c8b1 : decide (2 ≤ l0.length) = true := decide_eq_true (by omega)
       clear c8
       by_cases c9 : ((rd_T38 l0 (ji3)).f0) = 5
       ·rw [if_pos c9] at H
        have c9b0 : (((rd_T38 l0 (ji3)).f0) == 5) = true := beq_iff_eq.mpr c9
        have c9b1 : (((rd_T38 l0 (ji3)).f0) != 5) = false := bne_eq_false_iff_eq.mpr c9
        clear c9
        by_cases c10 : ((rd_T38 l0 (ji3)).f1).toList = ([44] : List UInt8)
        ·rw [if_pos c10] at H
         have c10b0 : (((rd_T38 l0 (ji3)).f1).toList == ([44] : List UInt8)) = true := beq_iff_eq.mpr c10
         have c10b1 : (((rd_T38 l0 (ji3)).f1).toList != ([44] : List UInt8)) = false := bne_eq_false_iff_eq.mpr c10
         clear c10
         obtain ⟨ji11, hji11⟩ : ∃ j_ : Int, (wrap64 ((l0.length : Int) - 2)) = j_ := ⟨_, rfl⟩
         replace H : (if 0 ≤ (ji11) then (if (ji11) < (l0.length : Int) then (some (((rd_T38 l0 (ji11)).f0) == 6)) else (none)) else (none)) = some r := by first | (rw [hji11] at H; exact H) | (simp only [hji11] at H ⊢; exact H)
         have hji11w : (IntKind.i64.wrap ((l0.length : Int) - 2)) = ji11 := (i64_w _).trans hji11
         by_cases c12 : 0 ≤ (ji11)
         ·rw [if_pos c12] at H
          have c12b0 : decide (0 ≤ (ji11)) = true := decide_eq_true c12
          clear c12
          by_cases c13 : (ji11) < (l0.length : Int)
          ·rw [if_pos c13] at H
           have c13b0 : decide ((ji11) < (l0.length : Int)) = true := decide_eq_true c13
           clear c13
           obtain rfl := Option.some.inj H
           have p155 : 0 ≤ ((ji3) : Int) := of_decide_eq_true asm
           have q155 : (ji3) < (l0.length : Int) := of_decide_eq_true asm
           obtain ⟨ad155, e155, hx155_0, hx155_1, hx155_2⟩ := at_T38 HR0.out (ji3) p155 q155
           cases e155
           replace p155 := eq_true p155
           replace q155 := eq_true q155
           have p156 : 0 ≤ ((ji3) : Int) := of_decide_eq_true asm
           have q156 : (ji3) < (l0.length : Int) := of_decide_eq_true asm
           obtain ⟨ad156, e156, hx156_0, hx156_1, hx156_2⟩ := at_T38 HR0.out (ji3) p156 q156
           obtain rfl : ad155 = ad156 := (by injection e156)
           replace p156 := eq_true p156
           replace q156 := eq_true q156
           have p157 : 0 ≤ ((ji3) : Int) := of_decide_eq_true asm
           have q157 : (ji3) < (l0.length : Int) := of_decide_eq_true asm
           obtain ⟨ad157, e157, hx157_0, hx157_1, hx157_2⟩ := at_T38 HR0.out (ji3) p157 q157
           obtain rfl : ad155 = ad157 := (by injection e157)
           replace p157 := eq_true p157
           replace q157 := eq_true q157
           have p158 : 0 ≤ ((ji3) : Int) := of_decide_eq_true asm
           have q158 : (ji3) < (l0.length : Int) := of_decide_eq_true asm
           obtain ⟨ad158, e158, hx158_0, hx158_1, hx158_2⟩ := at_T38 HR0.out (ji3) p158 q158
           obtain rfl : ad155 = ad158 := (by injection e158)
           replace p158 := eq_true p158
           replace q158 := eq_true q158
           have p159 : 0 ≤ ((ji11) : Int) := of_decide_eq_true asm
           have q159 : (ji11) < (l0.length : Int) := of_decide_eq_true asm
           obtain ⟨ad159, e159, hx159_0, hx159_1, hx159_2⟩ := at_T38 HR0.out (ji11) p159 q159
           obtain rfl : ad155 = ad159 := (by injection e159)
           replace p159 := eq_true p159
           replace q159 := eq_true q159
           go_enter Tryz.func52, Tryz.ntmps52
           go_wp2
           go_ret
           exact ⟨by first | rfl | (simp; done) | (simp only [← hji3, ← hji11] <;> (first | rfl | simp)) | (simp [*]; done), by repeat (first | exact Drawn0.refl _ | apply Drawn0.step)⟩
          ·rw [if_neg c13] at H
           exact absurd H (by simp)
         ·rw [if_neg c12] at H
          exact absurd H (by simp)
        ·rw [if_neg c10] at H
         have c10b0 : (((rd_T38 l0 (ji3)).f1).toList == ([44] : List UInt8)) = false := beq_eq_false_iff_ne.mpr c10
         have c10b1 : (((rd_T38 l0 (ji3)).f1).toList != ([44] : List UInt8)) = true := bne_iff_ne.mpr c10
         obtain rfl := Option.some.inj H
         have p155 : 0 ≤ ((ji3) : Int) := of_decide_eq_true asm
         have q155 : (ji3) < (l0.length : Int) := of_decide_eq_true asm
         obtain ⟨ad155, e155, hx155_0, hx155_1, hx155_2⟩ := at_T38 HR0.out (ji3) p155 q155
         cases e155
         replace p155 := eq_true p155
         replace q155 := eq_true q155
         have p156 : 0 ≤ ((ji3) : Int) := of_decide_eq_true asm
         have q156 : (ji3) < (l0.length : Int) := of_decide_eq_true asm
         obtain ⟨ad156, e156, hx156_0, hx156_1, hx156_2⟩ := at_T38 HR0.out (ji3) p156 q156
         obtain rfl : ad155 = ad156 := (by injection e156)
         replace p156 := eq_true p156
         replace q156 := eq_true q156
         have p157 : 0 ≤ ((ji3) : Int) := of_decide_eq_true asm
         have q157 : (ji3) < (l0.length : Int) := of_decide_eq_true asm
         obtain ⟨ad157, e157, hx157_0, hx157_1, hx157_2⟩ := at_T38 HR0.out (ji3) p157 q157
         obtain rfl : ad155 = ad157 := (by injection e157)
         replace p157 := eq_true p157
         replace q157 := eq_true q157
         have p158 : 0 ≤ ((ji3) : Int) := of_decide_eq_true asm
         have q158 : (ji3) < (l0.length : Int) := of_decide_eq_true asm
         obtain ⟨ad158, e158, hx158_0, hx158_1, hx158_2⟩ := at_T38 HR0.out (ji3) p158 q158
         obtain rfl : ad155 = ad158 := (by injection e158)
         replace p158 := eq_true p158
         replace q158 := eq_true q158
         go_enter Tryz.func52, Tryz.ntmps52
         go_wp2
         go_ret
         exact ⟨by first | rfl | (simp; done) | (simp only [← hji3] <;> (first | rfl | simp)) | (simp [*]; done), by repeat (first | exact Drawn0.refl _ | apply Drawn0.step)⟩
       ·rw [if_neg c9] at H
        have c9b0 : (((rd_T38 l0 (ji3)).f0) == 5) = false := beq_eq_false_iff_ne.mpr c9
        have c9b1 : (((rd_T38 l0 (ji3)).f0) != 5) = true := bne_iff_ne.mpr c9
        obtain rfl := Option.some.inj H
        have p155 : 0 ≤ ((ji3) : Int) := of_decide_eq_true asm
        have q155 : (ji3) < (l0.length : Int) := of_decide_eq_true asm
        obtain ⟨ad155, e155, hx155_0, hx155_1, hx155_2⟩ := at_T38 HR0.out (ji3) p155 q155
        cases e155
        replace p155 := eq_true p155
        replace q155 := eq_true q155
        have p156 : 0 ≤ ((ji3) : Int) := of_decide_eq_true asm
        have q156 : (ji3) < (l0.length : Int) := of_decide_eq_true asm
        obtain ⟨ad156, e156, hx156_0, hx156_1, hx156_2⟩ := at_T38 HR0.out (ji3) p156 q156
        obtain rfl : ad155 = ad156 := (by injection e156)
        replace p156 := eq_true p156
        replace q156 := eq_true q156
        have p157 : 0 ≤ ((ji3) : Int) := of_decide_eq_true asm
        have q157 : (ji3) < (l0.length : Int) := of_decide_eq_true asm
        obtain ⟨ad157, e157, hx157_0, hx157_1, hx157_2⟩ := at_T38 HR0.out (ji3) p157 q157
        obtain rfl : ad155 = ad157 := (by injection e157)
        replace p157 := eq_true p157
        replace q157 := eq_true q157
        go_enter Tryz.func52, Tryz.ntmps52
        go_wp2
        go_ret
        exact ⟨by first | rfl | (simp; done) | (simp only [← hji3] <;> (first | rfl | simp)) | (simp [*]; done), by repeat (first | exact Drawn0.refl _ | apply Drawn0.step)⟩
      ·rw [if_neg c8] at H
       have c8b0 : decide (2 ≤ (l0.length : Int)) = false := decide_eq_false c8
       have c8b1 : decide (2 ≤ l0.length) = false := decide_eq_false (by omega)
       clear c8
       obtain rfl := Option.some.inj H
       have p155 : 0 ≤ ((ji3) : Int) := of_decide_eq_true asm
       have q155 : (ji3) < (l0.length : Int) := of_decide_eq_true asm
       obtain ⟨ad155, e155, hx155_0, hx155_1, hx155_2⟩ := at_T38 HR0.out (ji3) p155 q155
       cases e155
       replace p155 := eq_true p155
       replace q155 := eq_true q155
       have p156 : 0 ≤ ((ji3) : Int) := of_decide_eq_true asm
       have q156 : (ji3) < (l0.length : Int) := of_decide_eq_true asm
       obtain ⟨ad156, e156, hx156_0, hx156_1, hx156_2⟩ := at_T38 HR0.out (ji3) p156 q156
       obtain rfl : ad155 = ad156 := (by injection e156)
       replace p156 := eq_true p156
       replace q156 := eq_true q156
       go_enter Tryz.func52, Tryz.ntmps52
       go_wp2
       go_ret
       exact ⟨by first | rfl | (simp; done) | (simp only [← hji3] <;> (first | rfl | simp)) | (simp [*]; done), by repeat (first | exact Drawn0.refl _ | apply Drawn0.step)⟩
    ·rw [if_neg c6] at H
     have c6b0 : (((rd_T38 l0 (ji3)).f0) == 2) = false := beq_eq_false_iff_ne.mpr c6
     have c6b1 : (((rd_T38 l0 (ji3)).f0) != 2) = true := bne_iff_ne.mpr c6
     by_cases c14 : (l0.length : Int) ≥ 2
     ·rw [if_pos c14] at H
      have c14b0 : decide (2 ≤ (l0.length : Int)) = true := decide_eq_true c14
      have c14b1 : decide (2 ≤ l0.length) = true := decide_eq_true (by omega)
      clear c14
      by_cases c15 : ((rd_T38 l0 (ji3)).f0) = 5
      ·rw [if_pos c15] at H
       have c15b0 : (((rd_T38 l0 (ji3)).f0) == 5) = true := beq_iff_eq.mpr c15
       have c15b1 : (((rd_T38 l0 (ji3)).f0) != 5) = false := bne_eq_false_iff_eq.mpr c15
       clear c15
       by_cases c16 : ((rd_T38 l0 (ji3)).f1).toList = ([44] : List UInt8)
       ·rw [if_pos c16] at H
        have c16b0 : (((rd_T38 l0 (ji3)).f1).toList == ([44] : List UInt8)) = true := beq_iff_eq.mpr c16
        have c16b1 : (((rd_T38 l0 (ji3)).f1).toList != ([44] : List UInt8)) = false := bne_eq_false_iff_eq.mpr c16
        clear c16
        obtain ⟨ji17, hji17⟩ : ∃ j_ : Int, (wrap64 ((l0.length : Int) - 2)) = j_ := ⟨_, rfl⟩
        replace H : (if 0 ≤ (ji17) then (if (ji17) < (l0.length : Int) then (some (((rd_T38 l0 (ji17)).f0) == 6)) else (none)) else (none)) = some r := by first | (rw [hji17] at H; exact H) | (simp only [hji17] at H ⊢; exact H)
        have hji17w : (IntKind.i64.wrap ((l0.length : Int) - 2)) = ji17 := (i64_w _).trans hji17
        by_cases c18 : 0 ≤ (ji17)
        ·rw [if_pos c18] at H
         have c18b0 : decide (0 ≤ (ji17)) = true := decide_eq_true c18
         clear c18
         by_cases c19 : (ji17) < (l0.length : Int)
         ·rw [if_pos c19] at H
          have c19b0 : decide ((ji17) < (l0.length : Int)) = true := decide_eq_true c19
          clear c19
          obtain rfl := Option.some.inj H
          have p155 : 0 ≤ ((ji3) : Int) := of_decide_eq_true asm
          have q155 : (ji3) < (l0.length : Int) := of_decide_eq_true asm
          obtain ⟨ad155, e155, hx155_0, hx155_1, hx155_2⟩ := at_T38 HR0.out (ji3) p155 q155
          cases e155
          replace p155 := eq_true p155
          replace q155 := eq_true q155
          have p160 : 0 ≤ ((ji3) : Int) := of_decide_eq_true asm
          have q160 : (ji3) < (l0.length : Int) := of_decide_eq_true asm
          obtain ⟨ad160, e160, hx160_0, hx160_1, hx160_2⟩ := at_T38 HR0.out (ji3) p160 q160
          obtain rfl : ad155 = ad160 := (by injection e160)
          replace p160 := eq_true p160
          replace q160 := eq_true q160
          have p161 : 0 ≤ ((ji3) : Int) := of_decide_eq_true asm
          have q161 : (ji3) < (l0.length : Int) := of_decide_eq_true asm
          obtain ⟨ad161, e161, hx161_0, hx161_1, hx161_2⟩ := at_T38 HR0.out (ji3) p161 q161
          obtain rfl : ad155 = ad161 := (by injection e161)
          replace p161 := eq_true p161
          replace q161 := eq_true q161
          have p162 : 0 ≤ ((ji17) : Int) := of_decide_eq_true asm
          have q162 : (ji17) < (l0.length : Int) := of_decide_eq_true asm
          obtain ⟨ad162, e162, hx162_0, hx162_1, hx162_2⟩ := at_T38 HR0.out (ji17) p162 q162
          obtain rfl : ad155 = ad162 := (by injection e162)
          replace p162 := eq_true p162
          replace q162 := eq_true q162
          go_enter Tryz.func52, Tryz.ntmps52
          go_wp2
          go_ret
          exact ⟨by first | rfl | (simp; done) | (simp only [← hji3, ← hji17] <;> (first | rfl | simp)) | (simp [*]; done), by repeat (first | exact Drawn0.refl _ | apply Drawn0.step)⟩
         ·rw [if_neg c19] at H
          exact absurd H (by simp)
        ·rw [if_neg c18] at H
         exact absurd H (by simp)
       ·rw [if_neg c16] at H
        have c16b0 : (((rd_T38 l0 (ji3)).f1).toList == ([44] : List UInt8)) = false := beq_eq_false_iff_ne.mpr c16
        have c16b1 : (((rd_T38 l0 (ji3)).f1).toList != ([44] : List UInt8)) = true := bne_iff_ne.mpr c16
        obtain rfl := Option.some.inj H
        have p155 : 0 ≤ ((ji3) : Int) := of_decide_eq_true asm
        have q155 : (ji3) < (l0.length : Int) := of_decide_eq_true asm
        obtain ⟨ad155, e155, hx155_0, hx155_1, hx155_2⟩ := at_T38 HR0.out (ji3) p155 q155
        cases e155
        replace p155 := eq_true p155
        replace q155 := eq_true q155
        have p160 : 0 ≤ ((ji3) : Int) := of_decide_eq_true asm
        have q160 : (ji3) < (l0.length : Int) := of_decide_eq_true asm
        obtain ⟨ad160, e160, hx160_0, hx160_1, hx160_2⟩ := at_T38 HR0.out (ji3) p160 q160
        obtain rfl : ad155 = ad160 := (by injection e160)
        replace p160 := eq_true p160
        replace q160 := eq_true q160
        have p161 : 0 ≤ ((ji3) : Int) := of_decide_eq_true asm
        have q161 : (ji3) < (l0.length : Int) := of_decide_eq_true asm
        obtain ⟨ad161, e161, hx161_0, hx161_1, hx161_2⟩ := at_T38 HR0.out (ji3) p161 q161
        obtain rfl : ad155 = ad161 := (by injection e161)
        replace p161 := eq_true p161
        replace q161 := eq_true q161
        go_enter Tryz.func52, Tryz.ntmps52
        go_wp2
        go_ret
        exact ⟨by first | rfl | (simp; done) | (simp only [← hji3] <;> (first | rfl | simp)) | (simp [*]; done), by repeat (first | exact Drawn0.refl _ | apply Drawn0.step)⟩
      ·rw [if_neg c15] at H
       have c15b0 : (((rd_T38 l0 (ji3)).f0) == 5) = false := beq_eq_false_iff_ne.mpr c15
       have c15b1 : (((rd_T38 l0 (ji3)).f0) != 5) = true := bne_iff_ne.mpr c15
       obtain rfl := Option.some.inj H
       have p155 : 0 ≤ ((ji3) : Int) := of_decide_eq_true asm
       have q155 : (ji3) < (l0.length : Int) := of_decide_eq_true asm
       obtain ⟨ad155, e155, hx155_0, hx155_1, hx155_2⟩ := at_T38 HR0.out (ji3) p155 q155
       cases e155
       replace p155 := eq_true p155
       replace q155 := eq_true q155
       have p160 : 0 ≤ ((ji3) : Int) := of_decide_eq_true asm
       have q160 : (ji3) < (l0.length : Int) := of_decide_eq_true asm
       obtain ⟨ad160, e160, hx160_0, hx160_1, hx160_2⟩ := at_T38 HR0.out (ji3) p160 q160
       obtain rfl : ad155 = ad160 := (by injection e160)
       replace p160 := eq_true p160
       replace q160 := eq_true q160
       go_enter Tryz.func52, Tryz.ntmps52
       go_wp2
       go_ret
       exact ⟨by first | rfl | (simp; done) | (simp only [← hji3] <;> (first | rfl | simp)) | (simp [*]; done), by repeat (first | exact Drawn0.refl _ | apply Drawn0.step)⟩
     ·rw [if_neg c14] at H
      have c14b0 : decide (2 ≤ (l0.length : Int)) = false := decide_eq_false c14
      have c14b1 : decide (2 ≤ l0.length) = false := decide_eq_false (by omega)
      clear c14
      obtain rfl := Option.some.inj H
      have p155 : 0 ≤ ((ji3) : Int) := of_decide_eq_true asm
      have q155 : (ji3) < (l0.length : Int) := of_decide_eq_true asm
      obtain ⟨ad155, e155, hx155_0, hx155_1, hx155_2⟩ := at_T38 HR0.out (ji3) p155 q155
      cases e155
      replace p155 := eq_true p155
      replace q155 := eq_true q155
      go_enter Tryz.func52, Tryz.ntmps52
      go_wp2
      go_ret
      exact ⟨by first | rfl | (simp; done) | (simp only [← hji3] <;> (first | rfl | simp)) | (simp [*]; done), by repeat (first | exact Drawn0.refl _ | apply Drawn0.step)⟩
   ·rw [if_neg c5] at H
    exact absurd H (by simp)
  ·rw [if_neg c4] at H
   exact absurd H (by simp)
end Go.Proofs.YtadgddipkbdnbaaGreatDoor.Q
