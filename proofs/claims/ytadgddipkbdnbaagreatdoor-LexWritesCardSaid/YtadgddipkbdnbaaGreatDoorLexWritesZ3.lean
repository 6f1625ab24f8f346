/- Parts of the proof: For every list of tokens (at most 200, or more than 4000, and 3000 bytes), Join and Tight of the program return what the specification's return; the inputs read as they did; the package-level variables hold what the program's text lays in them: the tied card. -/
import Derived.Test.YtadgddipkbdnbaaGreatDoorLexP1
import Derived.Test.YtadgddipkbdnbaaGreatDoorLexP2
import Derived.Test.YtadgddipkbdnbaaGreatDoorLexP3
import Derived.Test.YtadgddipkbdnbaaGreatDoorLexP7
import Derived.Test.YtadgddipkbdnbaaGreatDoorLexP8
import Derived.Test.YtadgddipkbdnbaaGreatDoorLexP11
import Derived.Test.YtadgddipkbdnbaaGreatDoorLexP12
import Derived.Test.YtadgddipkbdnbaaGreatDoorLexP14
import Derived.Test.YtadgddipkbdnbaaGreatDoorLexWritesZ1
import Derived.Test.YtadgddipkbdnbaaGreatDoorLexWritesZ2
namespace Go.Proofs.YtadgddipkbdnbaaGreatDoor.Q
open Go.Proofs.YtadgddipkbdnbaaGreatDoor Go.RowKit Go.Proofs.YtadgddipkbdnbaaGreatDoorW.PrintWords Go.Proofs.YtadgddipkbdnbaaGreatDoorW.PrintLast Go.Proofs.YtadgddipkbdnbaaGreatDoorW.PrintMore
attribute [local go_sem] max2_int min2_int max_two min_two max_three min_three max_four min_four   
set_option linter.unusedVariables false
set_option linter.unusedSimpArgs false
def taplineref11_Join.l0 : Nat → List (S38) → ByteArray → Int → Option (ByteArray)
 | 0, _, _, _ => none
 | k + 1, x0, x3, x4 => if x4 < (x0.length : Int) then (if x4 > 0 then (if x3.size + 1 ≤ 9223372036854775807 then (if 0 ≤ x4 then (if (x3 ++ (⟨#[32]⟩ : ByteArray)).size + ((rd_T38 x0 x4).f1).size ≤ 9223372036854775807 then (if (((x3 ++ (⟨#[32]⟩ : ByteArray)) ++ ((rd_T38 x0 x4).f1)).size : Int) > 20000 then (some (⟨#[]⟩ : ByteArray)) else (taplineref11_Join.l0 k x0 ((x3 ++ (⟨#[32]⟩ : ByteArray)) ++ ((rd_T38 x0 x4).f1)) (wrap64 (x4 + 1)))) else (none)) else (none)) else (none)) else (if 0 ≤ x4 then (if x3.size + ((rd_T38 x0 x4).f1).size ≤ 9223372036854775807 then (if ((x3 ++ ((rd_T38 x0 x4).f1)).size : Int) > 20000 then (some (⟨#[]⟩ : ByteArray)) else (taplineref11_Join.l0 k x0 (x3 ++ ((rd_T38 x0 x4).f1)) (wrap64 (x4 + 1)))) else (none)) else (none))) else ((taplineref11_gives.f k x3 x0).bind fun t254 => (if t254 = true then (some x3) else (some (⟨#[]⟩ : ByteArray))))
def taplineref11_Join.f (k : Nat) (l0 : List (S38)) : Option (ByteArray) := if (l0.length : Int) > 4000 then (some (⟨#[]⟩ : ByteArray)) else (taplineref11_Join.l0 k l0 (⟨#[]⟩ : ByteArray) 0)
theorem taplineref11_Join.mono_l : ∀ k, (∀ y0 y1 y2, LeO (taplineref11_Join.l0 k y0 y1 y2) (taplineref11_Join.l0 (k + 1) y0 y1 y2))
 | 0 => fun _ _ _ r h => by simp [taplineref11_Join.l0] at h
 | k + 1 => by
  have ih0 := taplineref11_Join.mono_l k
  ·intro y0 y1 y2
   unfold taplineref11_Join.l0
   repeat' first
   | (with_reducible exact ih0 _ _ _)
   | (with_reducible exact taplineref11_gives.mono _ _ _)
   | (with_reducible exact LeO.refl _)
   | (with_reducible exact LeO.none _)
   | (with_reducible refine LeO.ite ?_ ?_)
   | (with_reducible refine LeO.bind ?_ (fun _ => ?_))
   | exact LeO.none _
   | refine LeO.ite ?_ ?_
   | refine LeO.bind ?_ (fun _ => ?_)
theorem taplineref11_Join.mono : ∀ a0 k, LeO (taplineref11_Join.f k a0) (taplineref11_Join.f (k + 1) a0) := by
 intro a0 k
 have ih0 := taplineref11_Join.mono_l k
 unfold taplineref11_Join.f
 repeat' first
   | (with_reducible exact ih0 _ _ _)
   | (with_reducible exact taplineref11_gives.mono _ _ _)
   | (with_reducible exact LeO.refl _)
   | (with_reducible exact LeO.none _)
   | (with_reducible refine LeO.ite ?_ ?_)
   | (with_reducible refine LeO.bind ?_ (fun _ => ?_))
   | exact LeO.none _
   | refine LeO.ite ?_ ?_
   | refine LeO.bind ?_ (fun _ => ?_)
set_option maxHeartbeats 8000000 in
set_option maxRecDepth 100000 in
theorem taplineref11_Join.calls (k : Nat) (A0 : Option Addr) (c0 : Nat) (l0 : List (S38)) (r : ByteArray) (w : World) (hr0 : Kd.C k38 w A0 l0.length l0) (hc0 : l0.length ≤ c0) (h : taplineref11_Join.f k l0 = some r) :
  Calls Tryz.prog 23 #[.slice A0 l0.length c0] w fun e w' => e = .returned (.string r) ∧ Below w.heap.size w w' := by
 have HR0 := Aside0.mk hr0
 have HC0 := Aside0.mk hc0
 clear hr0 hc0
 have HB := Aside0.mk (Below.refl w.heap.size w)
 have H : (if (l0.length : Int) > 4000 then (some (⟨#[]⟩ : ByteArray)) else (taplineref11_Join.l0 k l0 (⟨#[]⟩ : ByteArray) 0)) = some r := h
 clear h
 by_cases c2 : (l0.length : Int) > 4000
 ·rw [if_pos c2] at H
  have c2b0 : decide (4000 < (l0.length : Int)) = true := decide_eq_true c2
  have c2b1 : decide (4000 < l0.length) = true := decide_eq_true (by omega)
  clear c2
  obtain rfl := Option.some.inj H
  go_enter Tryz.func23, Tryz.ntmps23
  go_wp2
  go_ret
  exact ⟨rew, blw⟩
 ·rw [if_neg c2] at H
  have c2b0 : decide (4000 < (l0.length : Int)) = false := decide_eq_false c2
  have c2b1 : decide (4000 < l0.length) = false := decide_eq_false (by omega)
  clear c2
  have H' := Aside0.mk H
  clear H
  go_enter Tryz.func23, Tryz.ntmps23
  go_wp2
  try simp only [Act.put, List.setIfInBounds_toArray, List.set_cons_zero, List.set_cons_succ]
  go_loopg [3, 4] k (fun kq v3 v4 w' => ∃ (x3_1 : ByteArray) (x4_1 : Int), v3 = .string x3_1 ∧ v4 = .int .i64 x4_1 ∧ Aside0 (taplineref11_Join.l0 kq l0 x3_1 x4_1 = some r) ∧ Aside0 (kq ≤ k) ∧ Aside0 (Below w.heap.size w w'))
  case atStart => exact ⟨((⟨#[]⟩ : ByteArray)), (0), rsd, rsd, H', ⟨Nat.le_refl _⟩, ⟨blw⟩⟩
  case round =>
   clear H'
   try clear c2
   try clear c2b0
   try clear c2b1
   try clear p2
   obtain ⟨x3_1, x4_1, rfl, rfl, HA, HK1, HB⟩ := hrel
   cases gk with
   | zero => exact absurd HA.out (by simp [taplineref11_Join.l0])
   | succ k1 =>
    have H := HA.out
    clear HA
    simp only [taplineref11_Join.l0] at H
    by_cases c3 : x4_1 < (l0.length : Int)
    ·rw [if_pos c3] at H
     have c3b0 : decide (x4_1 < (l0.length : Int)) = true := decide_eq_true c3
     clear c3
     by_cases c4 : x4_1 > 0
     ·rw [if_pos c4] at H
      have c4b0 : decide (0 < x4_1) = true := decide_eq_true c4
      clear c4
      by_cases c5 : x3_1.size + 1 ≤ 9223372036854775807
      ·rw [if_pos c5] at H
       have c5b0 := eq_true c5
       have c5b1 : decide (x3_1.size + 1 ≤ 9223372036854775807) = true := decide_eq_true c5
       try have c5b2 : (9223372036854775807 < x3_1.size + 1) = False := eq_false (Nat.not_lt.2 c5)
       by_cases c6 : 0 ≤ x4_1
       ·rw [if_pos c6] at H
        have c6b0 : decide (0 ≤ x4_1) = true := decide_eq_true c6
        clear c6
        by_cases c7 : (x3_1 ++ (⟨#[32]⟩ : ByteArray)).size + ((rd_T38 l0 x4_1).f1).size ≤ 9223372036854775807
        ·rw [if_pos c7] at H
         have c7b0 := eq_true c7
         have c7b1 : decide ((x3_1 ++ (⟨#[32]⟩ : ByteArray)).size + ((rd_T38 l0 x4_1).f1).size ≤ 9223372036854775807) = true := decide_eq_true c7
         try have c7b2 : (9223372036854775807 < (x3_1 ++ (⟨#[32]⟩ : ByteArray)).size + ((rd_T38 l0 x4_1).f1).size) = False := eq_false (Nat.not_lt.2 c7)
         by_cases c8 : (((x3_1 ++ (⟨#[32]⟩ : ByteArray)) ++ ((rd_T38 l0 x4_1).f1)).size : Int) > 20000
         ·rw [if_pos c8] at H
          have c8b0 : decide (20000 < (((x3_1 ++ (⟨#[32]⟩ : ByteArray)) ++ ((rd_T38 l0 x4_1).f1)).size : Int)) = true := decide_eq_true c8
          have c8b1 : decide (20000 < ((x3_1 ++ (⟨#[32]⟩ : ByteArray)) ++ ((rd_T38 l0 x4_1).f1)).size) = true := decide_eq_true (by omega)
          have c8b9 : decide (20000 < (x3_1.size : Int) + 1 + (((rd_T38 l0 x4_1).f1).size : Int)) = true := by have q := of_decide_eq_true c8b0; refine decide_eq_true ?_; simp only [ByteArray.size_append] at q; have e : (⟨#[32]⟩ : ByteArray).size = 1 := rfl; omega
          clear c8
          obtain rfl := Option.some.inj H
          have p255 : 0 ≤ (x4_1 : Int) := of_decide_eq_true asm
          have q255 : x4_1 < (l0.length : Int) := of_decide_eq_true asm
          obtain ⟨ad255, e255, hx255_0, hx255_1, hx255_2⟩ := at_T38 HR0.out x4_1 p255 q255
          cases e255
          replace hx255_0 := (HB.out.cell (World.block_lt_of_cell? w _ hx255_0)).trans hx255_0
          replace hx255_1 := (HB.out.cell (World.block_lt_of_cell? w _ hx255_1)).trans hx255_1
          replace hx255_2 := (HB.out.cell (World.block_lt_of_cell? w _ hx255_2)).trans hx255_2
          replace p255 := eq_true p255
          replace q255 := eq_true q255
          go_wp2
          go_ret
          exact ⟨rew, blw⟩
         ·rw [if_neg c8] at H
          have c8b0 : decide (20000 < (((x3_1 ++ (⟨#[32]⟩ : ByteArray)) ++ ((rd_T38 l0 x4_1).f1)).size : Int)) = false := decide_eq_false c8
          have c8b1 : decide (20000 < ((x3_1 ++ (⟨#[32]⟩ : ByteArray)) ++ ((rd_T38 l0 x4_1).f1)).size) = false := decide_eq_false (by omega)
          have c8b9 : decide (20000 < (x3_1.size : Int) + 1 + (((rd_T38 l0 x4_1).f1).size : Int)) = false := by have q := of_decide_eq_false c8b0; refine decide_eq_false ?_; simp only [ByteArray.size_append] at q; have e : (⟨#[32]⟩ : ByteArray).size = 1 := rfl; omega
          clear c8
          have H' := Aside0.mk H
          clear H
          have p255 : 0 ≤ (x4_1 : Int) := of_decide_eq_true asm
          have q255 : x4_1 < (l0.length : Int) := of_decide_eq_true asm
          obtain ⟨ad255, e255, hx255_0, hx255_1, hx255_2⟩ := at_T38 HR0.out x4_1 p255 q255
          cases e255
          replace hx255_0 := (HB.out.cell (World.block_lt_of_cell? w _ hx255_0)).trans hx255_0
          replace hx255_1 := (HB.out.cell (World.block_lt_of_cell? w _ hx255_1)).trans hx255_1
          replace hx255_2 := (HB.out.cell (World.block_lt_of_cell? w _ hx255_2)).trans hx255_2
          replace p255 := eq_true p255
          replace q255 := eq_true q255
          go_wp2
          go_roundg k1
          case measure => have := HK1.out; omega
          case rel => exact ⟨((x3_1 ++ (⟨#[32]⟩ : ByteArray)) ++ ((rd_T38 l0 x4_1).f1)), (wrap64 (x4_1 + 1)), rsd, rsd, H', ⟨by have := HK1.out; omega⟩, ⟨blw⟩⟩
        ·rw [if_neg c7] at H
         exact absurd H (by simp)
       ·rw [if_neg c6] at H
        exact absurd H (by simp)
      ·rw [if_neg c5] at H
       exact absurd H (by simp)
     ·rw [if_neg c4] at H
      have c4b0 : decide (0 < x4_1) = false := decide_eq_false c4
      clear c4
      by_cases c9 : 0 ≤ x4_1
      ·rw [if_pos c9] at H
       have c9b0 : decide (0 ≤ x4_1) = true := decide_eq_true c9
       clear c9
       by_cases c10 : x3_1.size + ((rd_T38 l0 x4_1).f1).size ≤ 9223372036854775807
       ·rw [if_pos c10] at H
        have c10b0 := eq_true c10
        have c10b1 : decide (x3_1.size + ((rd_T38 l0 x4_1).f1).size ≤ 9223372036854775807) = true := decide_eq_true c10
        try have c10b2 : (9223372036854775807 < x3_1.size + ((rd_T38 l0 x4_1).f1).size) = False := eq_false (Nat.not_lt.2 c10)
        by_cases c11 : ((x3_1 ++ ((rd_T38 l0 x4_1).f1)).size : Int) > 20000
        ·rw [if_pos c11] at H
         have c11b0 : decide (20000 < ((x3_1 ++ ((rd_T38 l0 x4_1).f1)).size : Int)) = true := decide_eq_true c11
         have c11b1 : decide (20000 < (x3_1 ++ ((rd_T38 l0 x4_1).f1)).size) = true := decide_eq_true (by omega)
         have c11b9 : decide (20000 < (x3_1.size : Int) + (((rd_T38 l0 x4_1).f1).size : Int)) = true := by have q := of_decide_eq_true c11b0; refine decide_eq_true ?_; simp only [ByteArray.size_append] at q; have e : (⟨#[32]⟩ : ByteArray).size = 1 := rfl; omega
         clear c11
         obtain rfl := Option.some.inj H
         have p256 : 0 ≤ (x4_1 : Int) := of_decide_eq_true asm
         have q256 : x4_1 < (l0.length : Int) := of_decide_eq_true asm
         obtain ⟨ad256, e256, hx256_0, hx256_1, hx256_2⟩ := at_T38 HR0.out x4_1 p256 q256
         cases e256
         replace hx256_0 := (HB.out.cell (World.block_lt_of_cell? w _ hx256_0)).trans hx256_0
         replace hx256_1 := (HB.out.cell (World.block_lt_of_cell? w _ hx256_1)).trans hx256_1
         replace hx256_2 := (HB.out.cell (World.block_lt_of_cell? w _ hx256_2)).trans hx256_2
         replace p256 := eq_true p256
         replace q256 := eq_true q256
         go_wp2
         go_ret
         exact ⟨rew, blw⟩
        ·rw [if_neg c11] at H
         have c11b0 : decide (20000 < ((x3_1 ++ ((rd_T38 l0 x4_1).f1)).size : Int)) = false := decide_eq_false c11
         have c11b1 : decide (20000 < (x3_1 ++ ((rd_T38 l0 x4_1).f1)).size) = false := decide_eq_false (by omega)
         have c11b9 : decide (20000 < (x3_1.size : Int) + (((rd_T38 l0 x4_1).f1).size : Int)) = false := by have q := of_decide_eq_false c11b0; refine decide_eq_false ?_; simp only [ByteArray.size_append] at q; have e : (⟨#[32]⟩ : ByteArray).size = 1 := rfl; omega
         clear c11
         have H' := Aside0.mk H
         clear H
         have p256 : 0 ≤ (x4_1 : Int) := of_decide_eq_true asm
         have q256 : x4_1 < (l0.length : Int) := of_decide_eq_true asm
         obtain ⟨ad256, e256, hx256_0, hx256_1, hx256_2⟩ := at_T38 HR0.out x4_1 p256 q256
         cases e256
         replace hx256_0 := (HB.out.cell (World.block_lt_of_cell? w _ hx256_0)).trans hx256_0
         replace hx256_1 := (HB.out.cell (World.block_lt_of_cell? w _ hx256_1)).trans hx256_1
         replace hx256_2 := (HB.out.cell (World.block_lt_of_cell? w _ hx256_2)).trans hx256_2
         replace p256 := eq_true p256
         replace q256 := eq_true q256
         go_wp2
         go_roundg k1
         case measure => have := HK1.out; omega
         case rel => exact ⟨(x3_1 ++ ((rd_T38 l0 x4_1).f1)), (wrap64 (x4_1 + 1)), rsd, rsd, H', ⟨by have := HK1.out; omega⟩, ⟨blw⟩⟩
       ·rw [if_neg c10] at H
        exact absurd H (by simp)
      ·rw [if_neg c9] at H
       exact absurd H (by simp)
    ·rw [if_neg c3] at H
     have c3b0 : decide (x4_1 < (l0.length : Int)) = false := decide_eq_false c3
     clear c3
     replace H := Option.bind_eq_some_iff.mp H
     obtain ⟨t254, A120, H⟩ := H
     replace H : (if t254 = true then (some x3_1) else (some (⟨#[]⟩ : ByteArray))) = some r := H
     have A12 := Aside0.mk A120
     clear A120
     by_cases c13 : t254 = true
     ·subst c13
      have H1 : (some x3_1) = some r := by rw [if_pos rfl] at H; exact H
      clear H
      have H := H1
      clear H1
      obtain rfl := Option.some.inj H
      go_wp2_with (first | ((with_reducible refine gate_callee (f := 59) rfl ?_); refine goesL_ (some 30) rfl rfl Tryz.func59 (by kernel_rfl) rfl #[.string x3_1, .slice A0 l0.length c0] rfl fq ?_; (with_reducible refine (taplineref11_gives.calls k1 x3_1 _ _ l0 true _ ?side1 ?side2 A12.out).mono ?_); (case side1 => repeat (first | exact (Kd.C_below HR0.out HB.out) | (with_reducible refine Kd.C_alloc ?_ _) | (with_reducible refine Kd.C_drewN ?_ _) | (with_reducible refine Kd.C_drew ?_))); (case side2 => exact HC0.out); rintro e w14 ⟨rfl, hb⟩; refine ⟨_, rfl, ?_⟩; have n0_ := Aside0.mk (below_step blw hb); clear HB; have HB := n0_; clear n0_; (try clear hb); (try clear hb2); (try clear hk); (try clear hi)))
      go_ret
      exact ⟨rew, blw⟩
     ·replace c13 := Bool.eq_false_iff.mpr c13
      subst c13
      have H1 : (some (⟨#[]⟩ : ByteArray)) = some r := by rw [if_neg (show ¬ (false = true) by decide)] at H; exact H
      clear H
      have H := H1
      clear H1
      obtain rfl := Option.some.inj H
      go_wp2_with (first | ((with_reducible refine gate_callee (f := 59) rfl ?_); refine goesL_ (some 30) rfl rfl Tryz.func59 (by kernel_rfl) rfl #[.string x3_1, .slice A0 l0.length c0] rfl fq ?_; (with_reducible refine (taplineref11_gives.calls k1 x3_1 _ _ l0 false _ ?side1 ?side2 A12.out).mono ?_); (case side1 => repeat (first | exact (Kd.C_below HR0.out HB.out) | (with_reducible refine Kd.C_alloc ?_ _) | (with_reducible refine Kd.C_drewN ?_ _) | (with_reducible refine Kd.C_drew ?_))); (case side2 => exact HC0.out); rintro e w15 ⟨rfl, hb⟩; refine ⟨_, rfl, ?_⟩; have n0_ := Aside0.mk (below_step blw hb); clear HB; have HB := n0_; clear n0_; (try clear hb); (try clear hb2); (try clear hk); (try clear hi)))
      go_ret
      exact ⟨rew, blw⟩
end Go.Proofs.YtadgddipkbdnbaaGreatDoor.Q
namespace Go.Proofs.YtadgddipkbdnbaaGreatDoor.Q
open Go.Proofs.YtadgddipkbdnbaaGreatDoor Go.RowKit Go.Proofs.YtadgddipkbdnbaaGreatDoorW.PrintWords Go.Proofs.YtadgddipkbdnbaaGreatDoorW.PrintLast Go.Proofs.YtadgddipkbdnbaaGreatDoorW.PrintMore
attribute [local go_sem] max2_int min2_int max_two min_two max_three min_three max_four min_four   
set_option linter.unusedVariables false
set_option linter.unusedSimpArgs false
def taplineref11_Tight.l0 : Nat → List (S38) → ByteArray → Int → Option (ByteArray)
 | 0, _, _, _ => none
 | k + 1, x0, x3, x4 => if x4 < (x0.length : Int) then (if 0 ≤ x4 then (if x3.size + ((rd_T38 x0 x4).f1).size ≤ 9223372036854775807 then (if 0 ≤ (wrap64 (x4 + 1)) then (if (wrap64 (x4 + 1)) ≤ (x0.length : Int) then ((taplineref11_gives.f k (x3 ++ ((rd_T38 x0 x4).f1)) (x0.take ((wrap64 (x4 + 1)) : Int).toNat)).bind fun t271 => (if t271 = true then (taplineref11_Tight.l0 k x0 (x3 ++ ((rd_T38 x0 x4).f1)) (wrap64 (x4 + 1))) else (if x3.size + 1 ≤ 9223372036854775807 then (if (x3 ++ (⟨#[32]⟩ : ByteArray)).size + ((rd_T38 x0 x4).f1).size ≤ 9223372036854775807 then (taplineref11_Tight.l0 k x0 ((x3 ++ (⟨#[32]⟩ : ByteArray)) ++ ((rd_T38 x0 x4).f1)) (wrap64 (x4 + 1))) else (none)) else (none)))) else (none)) else (none)) else (none)) else (none)) else (some x3)
def taplineref11_Tight.f (k : Nat) (l0 : List (S38)) : Option (ByteArray) := (taplineref11_Join.f k l0).bind fun t265 => (if t265.toList = ([] : List UInt8) then (some (⟨#[]⟩ : ByteArray)) else (taplineref11_Tight.l0 k l0 (⟨#[]⟩ : ByteArray) 0))
theorem taplineref11_Tight.mono_l : ∀ k, (∀ y0 y1 y2, LeO (taplineref11_Tight.l0 k y0 y1 y2) (taplineref11_Tight.l0 (k + 1) y0 y1 y2))
 | 0 => fun _ _ _ r h => by simp [taplineref11_Tight.l0] at h
 | k + 1 => by
  have ih0 := taplineref11_Tight.mono_l k
  ·intro y0 y1 y2
   unfold taplineref11_Tight.l0
   repeat' first
   | (with_reducible exact ih0 _ _ _)
   | (with_reducible exact taplineref11_Join.mono _ _)
   | (with_reducible exact taplineref11_gives.mono _ _ _)
   | (with_reducible exact LeO.refl _)
   | (with_reducible exact LeO.none _)
   | (with_reducible refine LeO.ite ?_ ?_)
   | (with_reducible refine LeO.bind ?_ (fun _ => ?_))
   | exact LeO.none _
   | refine LeO.ite ?_ ?_
   | refine LeO.bind ?_ (fun _ => ?_)
theorem taplineref11_Tight.mono : ∀ a0 k, LeO (taplineref11_Tight.f k a0) (taplineref11_Tight.f (k + 1) a0) := by
 intro a0 k
 have ih0 := taplineref11_Tight.mono_l k
 unfold taplineref11_Tight.f
 repeat' first
   | (with_reducible exact ih0 _ _ _)
   | (with_reducible exact taplineref11_Join.mono _ _)
   | (with_reducible exact taplineref11_gives.mono _ _ _)
   | (with_reducible exact LeO.refl _)
   | (with_reducible exact LeO.none _)
   | (with_reducible refine LeO.ite ?_ ?_)
   | (with_reducible refine LeO.bind ?_ (fun _ => ?_))
   | exact LeO.none _
   | refine LeO.ite ?_ ?_
   | refine LeO.bind ?_ (fun _ => ?_)
def taplineref11_Tight.T7 : Bool × List (List Nat × List Nat) := (true, [([], []), ([], []), ([], []), ([1, 2], [1, 2]), ([3], [3]), ([4], [4]), ([0, 5], [0, 5]), ([], []), ([], []), ([8], [8]), ([7, 9], [7, 9]), ([6, 10], [6, 10])])
def taplineref11_Tight.B7 : List Nat := [0, 0, 0, 6, 14, 30, 63, 0, 0, 256, 896, 2047]
theorem taplineref11_Tight.tab7 : rtab .any (opsOf Tryz.f25 7) = taplineref11_Tight.T7 := by kernel_rfl
theorem taplineref11_Tight.bits7 : waitsOk taplineref11_Tight.T7.2 taplineref11_Tight.B7 = true := by kernel_rfl
set_option maxHeartbeats 8000000 in
set_option maxRecDepth 100000 in
theorem taplineref11_Tight.calls (k : Nat) (A0 : Option Addr) (c0 : Nat) (l0 : List (S38)) (r : ByteArray) (w : World) (hr0 : Kd.C k38 w A0 l0.length l0) (hc0 : l0.length ≤ c0) (h : taplineref11_Tight.f k l0 = some r) :
  Calls Tryz.prog 25 #[.slice A0 l0.length c0] w fun e w' => e = .returned (.string r) ∧ Below w.heap.size w w' := by
 have HR0 := Aside0.mk hr0
 have HC0 := Aside0.mk hc0
 clear hr0 hc0
 have HB := Aside0.mk (Below.refl w.heap.size w)
 have H : ((taplineref11_Join.f k l0).bind fun t265 => (if t265.toList = ([] : List UInt8) then (some (⟨#[]⟩ : ByteArray)) else (taplineref11_Tight.l0 k l0 (⟨#[]⟩ : ByteArray) 0))) = some r := h
 clear h
 replace H := Option.bind_eq_some_iff.mp H
 obtain ⟨t265, A20, H⟩ := H
 replace H : (if t265.toList = ([] : List UInt8) then (some (⟨#[]⟩ : ByteArray)) else (taplineref11_Tight.l0 k l0 (⟨#[]⟩ : ByteArray) 0)) = some r := H
 have A2 := Aside0.mk A20
 clear A20
 by_cases c3 : t265.toList = ([] : List UInt8)
 ·rw [if_pos c3] at H
  have c3b0 : (t265.toList == ([] : List UInt8)) = true := beq_iff_eq.mpr c3
  have c3b1 : (t265.toList != ([] : List UInt8)) = false := bne_eq_false_iff_eq.mpr c3
  clear c3
  obtain rfl := Option.some.inj H
  go_enter Tryz.func25, Tryz.ntmps25
  go_wp2_with (first | ((with_reducible refine gate_callee (f := 23) rfl ?_); refine goesL_ (some 6) rfl rfl Tryz.func23 (by kernel_rfl) rfl #[.slice A0 l0.length c0] rfl fq ?_; (with_reducible refine (taplineref11_Join.calls k _ _ l0 t265 _ ?side1 ?side2 A2.out).mono ?_); (case side1 => repeat (first | exact HR0.out | (with_reducible refine Kd.C_alloc ?_ _) | (with_reducible refine Kd.C_drewN ?_ _) | (with_reducible refine Kd.C_drew ?_))); (case side2 => exact HC0.out); rintro e w4 ⟨rfl, hb⟩; refine ⟨_, rfl, ?_⟩; have n0_ := Aside0.mk (below_step blw hb); clear HB; have HB := n0_; clear n0_; (try clear hb); (try clear hb2); (try clear hk); (try clear hi)))
  go_ret
  exact ⟨rew, blw⟩
 ·rw [if_neg c3] at H
  have c3b0 : (t265.toList == ([] : List UInt8)) = false := beq_eq_false_iff_ne.mpr c3
  have c3b1 : (t265.toList != ([] : List UInt8)) = true := bne_iff_ne.mpr c3
  have H' := Aside0.mk H
  clear H
  go_enter Tryz.func25, Tryz.ntmps25
  go_wp2_with (first | ((with_reducible refine gate_callee (f := 23) rfl ?_); refine goesL_ (some 6) rfl rfl Tryz.func23 (by kernel_rfl) rfl #[.slice A0 l0.length c0] rfl fq ?_; (with_reducible refine (taplineref11_Join.calls k _ _ l0 t265 _ ?side1 ?side2 A2.out).mono ?_); (case side1 => repeat (first | exact HR0.out | (with_reducible refine Kd.C_alloc ?_ _) | (with_reducible refine Kd.C_drewN ?_ _) | (with_reducible refine Kd.C_drew ?_))); (case side2 => exact HC0.out); rintro e w5 ⟨rfl, hb⟩; refine ⟨_, rfl, ?_⟩; have n0_ := Aside0.mk (below_step blw hb); clear HB; have HB := n0_; clear n0_; (try clear hb); (try clear hb2); (try clear hk); (try clear hi)))
  try simp only [Act.put, List.setIfInBounds_toArray, List.set_cons_zero, List.set_cons_succ]
  go_loopg [3, 4] k (fun kq v3 v4 w' => ∃ (x3_1 : ByteArray) (x4_1 : Int), v3 = .string x3_1 ∧ v4 = .int .i64 x4_1 ∧ Aside0 (taplineref11_Tight.l0 kq l0 x3_1 x4_1 = some r) ∧ Aside0 (kq ≤ k) ∧ Aside0 (Below w.heap.size w w'))
  case atStart => exact ⟨((⟨#[]⟩ : ByteArray)), (0), rsd, rsd, H', ⟨Nat.le_refl _⟩, ⟨blw⟩⟩
  case round =>
   clear H'
   try clear c2
   try clear p2
   try clear c3
   try clear c3b0
   try clear c3b1
   obtain ⟨x3_1, x4_1, rfl, rfl, HA, HK1, HB⟩ := hrel
   cases gk with
   | zero => exact absurd HA.out (by simp [taplineref11_Tight.l0])
   | succ k1 =>
    have H := HA.out
    clear HA
    simp only [taplineref11_Tight.l0] at H
    by_cases c6 : x4_1 < (l0.length : Int)
    ·rw [if_pos c6] at H
     have c6b0 : decide (x4_1 < (l0.length : Int)) = true := decide_eq_true c6
     clear c6
     by_cases c7 : 0 ≤ x4_1
     ·rw [if_pos c7] at H
      have c7b0 : decide (0 ≤ x4_1) = true := decide_eq_true c7
      clear c7
      by_cases c8 : x3_1.size + ((rd_T38 l0 x4_1).f1).size ≤ 9223372036854775807
      ·rw [if_pos c8] at H
       have c8b0 := eq_true c8
       have c8b1 : decide (x3_1.size + ((rd_T38 l0 x4_1).f1).size ≤ 9223372036854775807) = true := decide_eq_true c8
       try have c8b2 : (9223372036854775807 < x3_1.size + ((rd_T38 l0 x4_1).f1).size) = False := eq_false (Nat.not_lt.2 c8)
       obtain ⟨ji9, hji9⟩ : ∃ j_ : Int, (wrap64 (x4_1 + 1)) = j_ := ⟨_, rfl⟩
       replace H : (if 0 ≤ (ji9) then (if (ji9) ≤ (l0.length : Int) then ((taplineref11_gives.f k1 (x3_1 ++ ((rd_T38 l0 x4_1).f1)) (l0.take ((ji9) : Int).toNat)).bind fun t271 => (if t271 = true then (taplineref11_Tight.l0 k1 l0 (x3_1 ++ ((rd_T38 l0 x4_1).f1)) ji9) else (if x3_1.size + 1 ≤ 9223372036854775807 then (if (x3_1 ++ (⟨#[32]⟩ : ByteArray)).size + ((rd_T38 l0 x4_1).f1).size ≤ 9223372036854775807 then (taplineref11_Tight.l0 k1 l0 ((x3_1 ++ (⟨#[32]⟩ : ByteArray)) ++ ((rd_T38 l0 x4_1).f1)) ji9) else (none)) else (none)))) else (none)) else (none)) = some r := by first | (rw [hji9] at H; exact H) | (simp only [hji9] at H ⊢; exact H)
       have hji9w : (IntKind.i64.wrap (x4_1 + 1)) = ji9 := (i64_w _).trans hji9
       by_cases c10 : 0 ≤ (ji9)
       ·rw [if_pos c10] at H
        have c10b0 := eq_true c10
        have c10b1 : decide (0 ≤ (ji9)) = true := decide_eq_true c10
        clear c10
        by_cases c11 : (ji9) ≤ (l0.length : Int)
        ·rw [if_pos c11] at H
         have c11b0 := eq_true c11
         have c11b1 : decide ((ji9) ≤ (l0.length : Int)) = true := decide_eq_true c11
         clear c11
         obtain ⟨y267, hy267⟩ : ∃ y_ : List (S38), y_ = (l0.take ((ji9) : Int).toNat) := ⟨_, rfl⟩
         replace H : ((taplineref11_gives.f k1 (x3_1 ++ ((rd_T38 l0 x4_1).f1)) y267).bind fun t271 => (if t271 = true then (taplineref11_Tight.l0 k1 l0 (x3_1 ++ ((rd_T38 l0 x4_1).f1)) ji9) else (if x3_1.size + 1 ≤ 9223372036854775807 then (if (x3_1 ++ (⟨#[32]⟩ : ByteArray)).size + ((rd_T38 l0 x4_1).f1).size ≤ 9223372036854775807 then (taplineref11_Tight.l0 k1 l0 ((x3_1 ++ (⟨#[32]⟩ : ByteArray)) ++ ((rd_T38 l0 x4_1).f1)) ji9) else (none)) else (none)))) = some r := by first | (rw [hy267]; with_reducible exact H) | (have H2_ := (Option.bind_some _ _).symm.trans H; rw [hy267]; with_reducible exact H2_) | (have H2_ := (Option.bind_some _ _).symm.trans H; with_reducible exact H2_) | with_reducible exact H | (rw [hy267]; exact H) | exact H
         have Ny267 := Aside0.mk hy267
         clear hy267
         replace H := Option.bind_eq_some_iff.mp H
         obtain ⟨t271, A120, H⟩ := H
         replace H : (if t271 = true then (taplineref11_Tight.l0 k1 l0 (x3_1 ++ ((rd_T38 l0 x4_1).f1)) ji9) else (if x3_1.size + 1 ≤ 9223372036854775807 then (if (x3_1 ++ (⟨#[32]⟩ : ByteArray)).size + ((rd_T38 l0 x4_1).f1).size ≤ 9223372036854775807 then (taplineref11_Tight.l0 k1 l0 ((x3_1 ++ (⟨#[32]⟩ : ByteArray)) ++ ((rd_T38 l0 x4_1).f1)) ji9) else (none)) else (none))) = some r := H
         have A12 := Aside0.mk A120
         clear A120
         by_cases c13 : t271 = true
         ·subst c13
          have H1 : (taplineref11_Tight.l0 k1 l0 (x3_1 ++ ((rd_T38 l0 x4_1).f1)) ji9) = some r := by rw [if_pos rfl] at H; exact H
          clear H
          have H := H1
          clear H1
          have H' := Aside0.mk H
          clear H
          try go_wp2
          have n0_ := Aside0.mk (below_drew1 HB.out)
          clear HB
          have HB := n0_
          clear n0_
          have p266 : 0 ≤ (x4_1 : Int) := of_decide_eq_true asm
          have q266 : x4_1 < (l0.length : Int) := of_decide_eq_true asm
          obtain ⟨ad266, e266, hx266_0, hx266_1, hx266_2⟩ := at_T38 HR0.out x4_1 p266 q266
          have hw266_2 := hx266_2
          have hw266_1 := hx266_1
          have hw266_0 := hx266_0
          cases e266
          replace hx266_0 := (HB.out.cell (World.block_lt_of_cell? w _ hx266_0)).trans hx266_0
          replace hx266_1 := (HB.out.cell (World.block_lt_of_cell? w _ hx266_1)).trans hx266_1
          replace hx266_2 := (HB.out.cell (World.block_lt_of_cell? w _ hx266_2)).trans hx266_2
          replace p266 := eq_true p266
          replace q266 := eq_true q266
          have q15 : ((ji9) : Int) ≤ ((l0.length : Int) : Int) := of_decide_eq_true asm
          obtain ⟨i015, hi015, _, hsz15, _⟩ := info_parts info38
          have hroom15 : l0.length ≤ c0 := HC0.out
          have hC15 : Kd.C k38 _ (some ad266) l0.length l0 := HR0.out
          have hcut15 := cut_to (P := Tryz.prog) 23 38 .i64 Tryz.underlying23 hi015 (some ad266) l0.length c0 (ji9) (of_decide_eq_true asm) q15 hroom15
          have hr15 := Kd.C_take (m := ((ji9) : Int).toNat) hC15 (by omega)
          have hy15 : y267.length = ((ji9) : Int).toNat := (by rw [Ny267.out, List.length_take]; omega)
          rw [← Ny267.out] at hr15
          rw [← hy15] at hcut15
          have HR270 := Aside0.mk hr15
          have HC270 := Aside0.mk (show y267.length ≤ c0 from by omega)
          clear hr15 hC15 hroom15 hi015 hsz15
          have KY15 := Aside0.mk hy15
          clear hy15
          replace q15 := eq_true q15
          refine start_ (n := 12) (S := fun w' => w'.cell? (ad266.add ((x4_1).toNat * 3)) = some (.int .i64 ((rd_T38 l0 x4_1).f0)) ∧ w'.cell? ⟨(ad266.add ((x4_1).toNat * 3)).block, (ad266.add ((x4_1).toNat * 3)).off + 1, none⟩ = some (.string ((rd_T38 l0 x4_1).f1)) ∧ w'.cell? ⟨(ad266.add ((x4_1).toNat * 3)).block, (ad266.add ((x4_1).toNat * 3)).off + 2, none⟩ = some (.int .i64 ((rd_T38 l0 x4_1).f2))) (ds := []) #[false, false, false, false, false, false, false, false, false, false, false, false] (by kernel_rfl) rfl rfl ⟨((HB.out.cell (World.block_lt_of_cell? w _ hw266_0)).trans hw266_0), ((HB.out.cell (World.block_lt_of_cell? w _ hw266_1)).trans hw266_1), ((HB.out.cell (World.block_lt_of_cell? w _ hw266_2)).trans hw266_2)⟩ (fun hHeld => ?_); refine with_tabW taplineref11_Tight.tab7 taplineref11_Tight.bits7 (fun HT_ HW_ => ?_)
          generalize wr.drew = w14 at HB HR270 hx266_0 hx266_1 hx266_2 hHeld ⊢
          refine pure_ (i := 0) (N := some 14) (v := ?_) (a' := ?_) #[true, false, false, false, false, false, false, false, false, false, false, false] rfl rfl (any_of HT_.out (by kernel_rfl)) (fun _ _ _ h => h) (Or.inl ⟨by rfl, ?_⟩) ?_ ?_
          rotate_left
          ·intro w'
           go_simp
           with_reducible rfl
          rotate_left
          ·simp only [Act.put, List.setIfInBounds_toArray, List.set_cons_zero, List.set_cons_succ, i64_w, i32_w]
           rfl
          refine pure_ (i := 1) (N := some 15) (v := ?_) (a' := ?_) #[true, true, false, false, false, false, false, false, false, false, false, false] rfl rfl (any_of HT_.out (by kernel_rfl)) (fun _ _ _ h => h) (Or.inl ⟨by rfl, ?_⟩) ?_ ?_
          rotate_left
          ·intro w'
           go_simp
           with_reducible rfl
          rotate_left
          ·simp only [Act.put, List.setIfInBounds_toArray, List.set_cons_zero, List.set_cons_succ, i64_w, i32_w]
           rfl
          refine pure_ (i := 2) (N := some 16) (v := ?_) (a' := ?_) #[true, true, true, false, false, false, false, false, false, false, false, false] rfl rfl (any_of HT_.out (by kernel_rfl)) (fun _ _ _ h => h) (Or.inl ⟨by rfl, ?_⟩) ?_ ?_
          rotate_left
          ·intro w'
           go_simp
           with_reducible rfl
          rotate_left
          ·simp only [Act.put, List.setIfInBounds_toArray, List.set_cons_zero, List.set_cons_succ, i64_w, i32_w]
           rfl
          refine pure_ (i := 3) (N := some 17) (v := ?_) (a' := ?_) #[true, true, true, true, false, false, false, false, false, false, false, false] rfl rfl (any_of HT_.out (by kernel_rfl)) (fun _ _ _ h => h) (Or.inl ⟨by rfl, ?_⟩) ?_ ?_
          rotate_left
          ·intro w'
           go_simp
           with_reducible rfl
          rotate_left
          ·simp only [Act.put, List.setIfInBounds_toArray, List.set_cons_zero, List.set_cons_succ, i64_w, i32_w]
           rfl
          refine pure_ (i := 4) (N := some 18) (v := ?_) (a' := ?_) #[true, true, true, true, true, false, false, false, false, false, false, false] rfl rfl (any_of HT_.out (by kernel_rfl)) (fun _ _ _ h => h) (Or.inl ⟨by rfl, ?_⟩) ?_ ?_
          rotate_left
          ·intro w'
           go_simp
           with_reducible rfl
          rotate_left
          ·simp only [Act.put, List.setIfInBounds_toArray, List.set_cons_zero, List.set_cons_succ, i64_w, i32_w]
           rfl
          refine pure_ (i := 7) (N := some 21) (v := ?_) (a' := ?_) #[true, true, true, true, true, false, false, true, false, false, false, false] rfl rfl (any_of HT_.out (by kernel_rfl)) (fun _ _ _ h => h) (Or.inl ⟨by rfl, ?_⟩) ?_ ?_
          rotate_left
          ·intro w'
           go_simp
           with_reducible rfl
          rotate_left
          ·simp only [Act.put, List.setIfInBounds_toArray, List.set_cons_zero, List.set_cons_succ, i64_w, i32_w]
           rfl
          refine pure_ (i := 8) (N := some 22) (v := ?_) (a' := ?_) #[true, true, true, true, true, false, false, true, true, false, false, false] rfl rfl (any_of HT_.out (by kernel_rfl)) (fun _ _ _ h => h) (Or.inl ⟨by rfl, ?_⟩) ?_ ?_
          rotate_left
          ·intro w'
           go_simp
           with_reducible rfl
          rotate_left
          ·simp only [Act.put, List.setIfInBounds_toArray, List.set_cons_zero, List.set_cons_succ, i64_w, i32_w]
           rfl
          refine pure_ (i := 9) (N := some 23) (v := ?_) (a' := ?_) #[true, true, true, true, true, false, false, true, true, true, false, false] rfl rfl (any_of HT_.out (by kernel_rfl)) (fun _ _ _ h => h) (Or.inl ⟨by rfl, ?_⟩) ?_ ?_
          rotate_left
          ·intro w'
           go_simp
           with_reducible rfl
          rotate_left
          ·simp only [Act.put, List.setIfInBounds_toArray, List.set_cons_zero, List.set_cons_succ, i64_w, i32_w]
           rfl
          refine pure_ (i := 10) (N := some 24) (v := ?_) (a' := ?_) #[true, true, true, true, true, false, false, true, true, true, true, false] rfl rfl (any_of HT_.out (by kernel_rfl)) (fun _ _ _ h => h) (Or.inl ⟨by rfl, ?_⟩) ?_ ?_
          rotate_left
          ·intro w'
           go_simp
           with_reducible rfl
          rotate_left
          ·simp only [Act.put, List.setIfInBounds_toArray, List.set_cons_zero, List.set_cons_succ, i64_w, i32_w]
           rfl
          refine take_ (i := 5) (N := some 19) (v := ?_) (a' := ?_) #[true, true, true, true, true, true, false, true, true, true, true, false] rfl rfl (take_ofW HT_.out HW_.out (by kernel_rfl)) (fun _ _ _ h => h) (Or.inl ⟨by rfl, ?_⟩) hHeld ?_ ?_
          rotate_left
          ·rintro w' ⟨s0, s1, s2⟩
           go_simp
           with_reducible rfl
          rotate_left
          ·simp only [Act.put, List.setIfInBounds_toArray, List.set_cons_zero, List.set_cons_succ, i64_w, i32_w]
           rfl
          refine pure_ (i := 6) (N := some 20) (v := ?_) (a' := ?_) #[true, true, true, true, true, true, true, true, true, true, true, false] rfl rfl (any_of HT_.out (by kernel_rfl)) (fun _ _ _ h => h) (Or.inl ⟨by rfl, ?_⟩) ?_ ?_
          rotate_left
          ·intro w'
           go_simp
           with_reducible rfl
          rotate_left
          ·simp only [Act.put, List.setIfInBounds_toArray, List.set_cons_zero, List.set_cons_succ, i64_w, i32_w]
           rfl
          refine one_ (i := 11) (N := some 25) #[true, true, true, true, true, true, true, true, true, true, true, true] rfl rfl (one_of HT_.out (by kernel_rfl)) (by decide) (fun K hK => ?_)
          refine goes_ Tryz.func59 (by kernel_rfl) rfl #[.string (x3_1 ++ ((rd_T38 l0 x4_1).f1)), .slice (some ad266) y267.length c0] (by rfl) rfl rfl fq ?_
          with_reducible refine (taplineref11_gives.calls k1 (x3_1 ++ ((rd_T38 l0 x4_1).f1)) _ _ y267 true _ ?side1 ?side2 A12.out).mono ?_
          (case side1 => repeat (first | exact (Kd.C_below HR270.out HB.out) | (with_reducible refine Kd.C_alloc ?_ _) | (with_reducible refine Kd.C_drewN ?_ _) | (with_reducible refine Kd.C_drew ?_)))
          (case side2 => exact HC270.out)
          rintro e w16 ⟨rfl, hb⟩
          refine ⟨_, rfl, ?_⟩
          have n0_ := Aside0.mk (below_step blw hb)
          clear HB
          have HB := n0_
          clear n0_
          (try clear hb)
          (try clear hb2)
          (try clear hk)
          (try clear hi)
          refine hK.out _ _ ⟨((HB.out.cell (World.block_lt_of_cell? w _ hw266_0)).trans hw266_0), ((HB.out.cell (World.block_lt_of_cell? w _ hw266_1)).trans hw266_1), ((HB.out.cell (World.block_lt_of_cell? w _ hw266_2)).trans hw266_2)⟩ (fun hHeld => ?_)
          clear hK K
          refine norm_ (a' := ?_) ?_ ?_
          rotate_left
          ·show Act.put _ (some 25) _ = _
           simp only [Act.put, List.setIfInBounds_toArray, List.set_cons_zero, List.set_cons_succ, i64_w, i32_w]
           rfl
          refine done_ (done_of HT_.out (by kernel_rfl)) ?_
          have p272 : 0 ≤ (x4_1 : Int) := of_decide_eq_true asm
          have q272 : x4_1 < (l0.length : Int) := of_decide_eq_true asm
          obtain ⟨ad272, e272, hx272_0, hx272_1, hx272_2⟩ := at_T38 HR0.out x4_1 p272 q272
          obtain rfl : ad266 = ad272 := (by injection e272)
          replace hx272_0 := (HB.out.cell (World.block_lt_of_cell? w _ hx272_0)).trans hx272_0
          replace hx272_1 := (HB.out.cell (World.block_lt_of_cell? w _ hx272_1)).trans hx272_1
          replace hx272_2 := (HB.out.cell (World.block_lt_of_cell? w _ hx272_2)).trans hx272_2
          replace p272 := eq_true p272
          replace q272 := eq_true q272
          try go_wp2
          go_roundg k1
          case measure => have := HK1.out; omega
          case rel => exact ⟨(x3_1 ++ ((rd_T38 l0 x4_1).f1)), (ji9), rsd, (by first | rfl | (simp; done) | (simp only [← hji9] <;> (first | rfl | simp)) | (simp [*]; done)), H', ⟨by have := HK1.out; omega⟩, ⟨blw⟩⟩
         ·replace c13 := Bool.eq_false_iff.mpr c13
          subst c13
          have H1 : (if x3_1.size + 1 ≤ 9223372036854775807 then (if (x3_1 ++ (⟨#[32]⟩ : ByteArray)).size + ((rd_T38 l0 x4_1).f1).size ≤ 9223372036854775807 then (taplineref11_Tight.l0 k1 l0 ((x3_1 ++ (⟨#[32]⟩ : ByteArray)) ++ ((rd_T38 l0 x4_1).f1)) ji9) else (none)) else (none)) = some r := by rw [if_neg (show ¬ (false = true) by decide)] at H; exact H
          clear H
          have H := H1
          clear H1
          by_cases c17 : x3_1.size + 1 ≤ 9223372036854775807
          ·rw [if_pos c17] at H
           have c17b0 := eq_true c17
           have c17b1 : decide (x3_1.size + 1 ≤ 9223372036854775807) = true := decide_eq_true c17
           try have c17b2 : (9223372036854775807 < x3_1.size + 1) = False := eq_false (Nat.not_lt.2 c17)
           by_cases c18 : (x3_1 ++ (⟨#[32]⟩ : ByteArray)).size + ((rd_T38 l0 x4_1).f1).size ≤ 9223372036854775807
           ·rw [if_pos c18] at H
            have c18b0 := eq_true c18
            have c18b1 : decide ((x3_1 ++ (⟨#[32]⟩ : ByteArray)).size + ((rd_T38 l0 x4_1).f1).size ≤ 9223372036854775807) = true := decide_eq_true c18
            try have c18b2 : (9223372036854775807 < (x3_1 ++ (⟨#[32]⟩ : ByteArray)).size + ((rd_T38 l0 x4_1).f1).size) = False := eq_false (Nat.not_lt.2 c18)
            have H' := Aside0.mk H
            clear H
            try go_wp2
            have n0_ := Aside0.mk (below_drew1 HB.out)
            clear HB
            have HB := n0_
            clear n0_
            have p266 : 0 ≤ (x4_1 : Int) := of_decide_eq_true asm
            have q266 : x4_1 < (l0.length : Int) := of_decide_eq_true asm
            obtain ⟨ad266, e266, hx266_0, hx266_1, hx266_2⟩ := at_T38 HR0.out x4_1 p266 q266
            have hw266_2 := hx266_2
            have hw266_1 := hx266_1
            have hw266_0 := hx266_0
            cases e266
            replace hx266_0 := (HB.out.cell (World.block_lt_of_cell? w _ hx266_0)).trans hx266_0
            replace hx266_1 := (HB.out.cell (World.block_lt_of_cell? w _ hx266_1)).trans hx266_1
            replace hx266_2 := (HB.out.cell (World.block_lt_of_cell? w _ hx266_2)).trans hx266_2
            replace p266 := eq_true p266
            replace q266 := eq_true q266
            have q20 : ((ji9) : Int) ≤ ((l0.length : Int) : Int) := of_decide_eq_true asm
            obtain ⟨i020, hi020, _, hsz20, _⟩ := info_parts info38
            have hroom20 : l0.length ≤ c0 := HC0.out
            have hC20 : Kd.C k38 _ (some ad266) l0.length l0 := HR0.out
            have hcut20 := cut_to (P := Tryz.prog) 23 38 .i64 Tryz.underlying23 hi020 (some ad266) l0.length c0 (ji9) (of_decide_eq_true asm) q20 hroom20
            have hr20 := Kd.C_take (m := ((ji9) : Int).toNat) hC20 (by omega)
            have hy20 : y267.length = ((ji9) : Int).toNat := (by rw [Ny267.out, List.length_take]; omega)
            rw [← Ny267.out] at hr20
            rw [← hy20] at hcut20
            have HR270 := Aside0.mk hr20
            have HC270 := Aside0.mk (show y267.length ≤ c0 from by omega)
            clear hr20 hC20 hroom20 hi020 hsz20
            have KY20 := Aside0.mk hy20
            clear hy20
            replace q20 := eq_true q20
            refine start_ (n := 12) (S := fun w' => w'.cell? (ad266.add ((x4_1).toNat * 3)) = some (.int .i64 ((rd_T38 l0 x4_1).f0)) ∧ w'.cell? ⟨(ad266.add ((x4_1).toNat * 3)).block, (ad266.add ((x4_1).toNat * 3)).off + 1, none⟩ = some (.string ((rd_T38 l0 x4_1).f1)) ∧ w'.cell? ⟨(ad266.add ((x4_1).toNat * 3)).block, (ad266.add ((x4_1).toNat * 3)).off + 2, none⟩ = some (.int .i64 ((rd_T38 l0 x4_1).f2))) (ds := []) #[false, false, false, false, false, false, false, false, false, false, false, false] (by kernel_rfl) rfl rfl ⟨((HB.out.cell (World.block_lt_of_cell? w _ hw266_0)).trans hw266_0), ((HB.out.cell (World.block_lt_of_cell? w _ hw266_1)).trans hw266_1), ((HB.out.cell (World.block_lt_of_cell? w _ hw266_2)).trans hw266_2)⟩ (fun hHeld => ?_); refine with_tabW taplineref11_Tight.tab7 taplineref11_Tight.bits7 (fun HT_ HW_ => ?_)
            generalize wr.drew = w19 at HB HR270 hx266_0 hx266_1 hx266_2 hHeld ⊢
            refine pure_ (i := 0) (N := some 14) (v := ?_) (a' := ?_) #[true, false, false, false, false, false, false, false, false, false, false, false] rfl rfl (any_of HT_.out (by kernel_rfl)) (fun _ _ _ h => h) (Or.inl ⟨by rfl, ?_⟩) ?_ ?_
            rotate_left
            ·intro w'
             go_simp
             with_reducible rfl
            rotate_left
            ·simp only [Act.put, List.setIfInBounds_toArray, List.set_cons_zero, List.set_cons_succ, i64_w, i32_w]
             rfl
            refine pure_ (i := 1) (N := some 15) (v := ?_) (a' := ?_) #[true, true, false, false, false, false, false, false, false, false, false, false] rfl rfl (any_of HT_.out (by kernel_rfl)) (fun _ _ _ h => h) (Or.inl ⟨by rfl, ?_⟩) ?_ ?_
            rotate_left
            ·intro w'
             go_simp
             with_reducible rfl
            rotate_left
            ·simp only [Act.put, List.setIfInBounds_toArray, List.set_cons_zero, List.set_cons_succ, i64_w, i32_w]
             rfl
            refine pure_ (i := 2) (N := some 16) (v := ?_) (a' := ?_) #[true, true, true, false, false, false, false, false, false, false, false, false] rfl rfl (any_of HT_.out (by kernel_rfl)) (fun _ _ _ h => h) (Or.inl ⟨by rfl, ?_⟩) ?_ ?_
            rotate_left
            ·intro w'
             go_simp
             with_reducible rfl
            rotate_left
            ·simp only [Act.put, List.setIfInBounds_toArray, List.set_cons_zero, List.set_cons_succ, i64_w, i32_w]
             rfl
            refine pure_ (i := 3) (N := some 17) (v := ?_) (a' := ?_) #[true, true, true, true, false, false, false, false, false, false, false, false] rfl rfl (any_of HT_.out (by kernel_rfl)) (fun _ _ _ h => h) (Or.inl ⟨by rfl, ?_⟩) ?_ ?_
            rotate_left
            ·intro w'
             go_simp
             with_reducible rfl
            rotate_left
            ·simp only [Act.put, List.setIfInBounds_toArray, List.set_cons_zero, List.set_cons_succ, i64_w, i32_w]
             rfl
            refine pure_ (i := 4) (N := some 18) (v := ?_) (a' := ?_) #[true, true, true, true, true, false, false, false, false, false, false, false] rfl rfl (any_of HT_.out (by kernel_rfl)) (fun _ _ _ h => h) (Or.inl ⟨by rfl, ?_⟩) ?_ ?_
            rotate_left
            ·intro w'
             go_simp
             with_reducible rfl
            rotate_left
            ·simp only [Act.put, List.setIfInBounds_toArray, List.set_cons_zero, List.set_cons_succ, i64_w, i32_w]
             rfl
            refine pure_ (i := 7) (N := some 21) (v := ?_) (a' := ?_) #[true, true, true, true, true, false, false, true, false, false, false, false] rfl rfl (any_of HT_.out (by kernel_rfl)) (fun _ _ _ h => h) (Or.inl ⟨by rfl, ?_⟩) ?_ ?_
            rotate_left
            ·intro w'
             go_simp
             with_reducible rfl
            rotate_left
            ·simp only [Act.put, List.setIfInBounds_toArray, List.set_cons_zero, List.set_cons_succ, i64_w, i32_w]
             rfl
            refine pure_ (i := 8) (N := some 22) (v := ?_) (a' := ?_) #[true, true, true, true, true, false, false, true, true, false, false, false] rfl rfl (any_of HT_.out (by kernel_rfl)) (fun _ _ _ h => h) (Or.inl ⟨by rfl, ?_⟩) ?_ ?_
            rotate_left
            ·intro w'
             go_simp
             with_reducible rfl
            rotate_left
            ·simp only [Act.put, List.setIfInBounds_toArray, List.set_cons_zero, List.set_cons_succ, i64_w, i32_w]
             rfl
            refine pure_ (i := 9) (N := some 23) (v := ?_) (a' := ?_) #[true, true, true, true, true, false, false, true, true, true, false, false] rfl rfl (any_of HT_.out (by kernel_rfl)) (fun _ _ _ h => h) (Or.inl ⟨by rfl, ?_⟩) ?_ ?_
            rotate_left
            ·intro w'
             go_simp
             with_reducible rfl
            rotate_left
            ·simp only [Act.put, List.setIfInBounds_toArray, List.set_cons_zero, List.set_cons_succ, i64_w, i32_w]
             rfl
            refine pure_ (i := 10) (N := some 24) (v := ?_) (a' := ?_) #[true, true, true, true, true, false, false, true, true, true, true, false] rfl rfl (any_of HT_.out (by kernel_rfl)) (fun _ _ _ h => h) (Or.inl ⟨by rfl, ?_⟩) ?_ ?_
            rotate_left
            ·intro w'
             go_simp
             with_reducible rfl
            rotate_left
            ·simp only [Act.put, List.setIfInBounds_toArray, List.set_cons_zero, List.set_cons_succ, i64_w, i32_w]
             rfl
            refine take_ (i := 5) (N := some 19) (v := ?_) (a' := ?_) #[true, true, true, true, true, true, false, true, true, true, true, false] rfl rfl (take_ofW HT_.out HW_.out (by kernel_rfl)) (fun _ _ _ h => h) (Or.inl ⟨by rfl, ?_⟩) hHeld ?_ ?_
            rotate_left
            ·rintro w' ⟨s0, s1, s2⟩
             go_simp
             with_reducible rfl
            rotate_left
            ·simp only [Act.put, List.setIfInBounds_toArray, List.set_cons_zero, List.set_cons_succ, i64_w, i32_w]
             rfl
            refine pure_ (i := 6) (N := some 20) (v := ?_) (a' := ?_) #[true, true, true, true, true, true, true, true, true, true, true, false] rfl rfl (any_of HT_.out (by kernel_rfl)) (fun _ _ _ h => h) (Or.inl ⟨by rfl, ?_⟩) ?_ ?_
            rotate_left
            ·intro w'
             go_simp
             with_reducible rfl
            rotate_left
            ·simp only [Act.put, List.setIfInBounds_toArray, List.set_cons_zero, List.set_cons_succ, i64_w, i32_w]
             rfl
            refine one_ (i := 11) (N := some 25) #[true, true, true, true, true, true, true, true, true, true, true, true] rfl rfl (one_of HT_.out (by kernel_rfl)) (by decide) (fun K hK => ?_)
            refine goes_ Tryz.func59 (by kernel_rfl) rfl #[.string (x3_1 ++ ((rd_T38 l0 x4_1).f1)), .slice (some ad266) y267.length c0] (by rfl) rfl rfl fq ?_
            with_reducible refine (taplineref11_gives.calls k1 (x3_1 ++ ((rd_T38 l0 x4_1).f1)) _ _ y267 false _ ?side1 ?side2 A12.out).mono ?_
            (case side1 => repeat (first | exact (Kd.C_below HR270.out HB.out) | (with_reducible refine Kd.C_alloc ?_ _) | (with_reducible refine Kd.C_drewN ?_ _) | (with_reducible refine Kd.C_drew ?_)))
            (case side2 => exact HC270.out)
            rintro e w21 ⟨rfl, hb⟩
            refine ⟨_, rfl, ?_⟩
            have n0_ := Aside0.mk (below_step blw hb)
            clear HB
            have HB := n0_
            clear n0_
            (try clear hb)
            (try clear hb2)
            (try clear hk)
            (try clear hi)
            refine hK.out _ _ ⟨((HB.out.cell (World.block_lt_of_cell? w _ hw266_0)).trans hw266_0), ((HB.out.cell (World.block_lt_of_cell? w _ hw266_1)).trans hw266_1), ((HB.out.cell (World.block_lt_of_cell? w _ hw266_2)).trans hw266_2)⟩ (fun hHeld => ?_)
            clear hK K
            refine norm_ (a' := ?_) ?_ ?_
            rotate_left
            ·show Act.put _ (some 25) _ = _
             simp only [Act.put, List.setIfInBounds_toArray, List.set_cons_zero, List.set_cons_succ, i64_w, i32_w]
             rfl
            refine done_ (done_of HT_.out (by kernel_rfl)) ?_
            have p273 : 0 ≤ (x4_1 : Int) := of_decide_eq_true asm
            have q273 : x4_1 < (l0.length : Int) := of_decide_eq_true asm
            obtain ⟨ad273, e273, hx273_0, hx273_1, hx273_2⟩ := at_T38 HR0.out x4_1 p273 q273
            obtain rfl : ad266 = ad273 := (by injection e273)
            replace hx273_0 := (HB.out.cell (World.block_lt_of_cell? w _ hx273_0)).trans hx273_0
            replace hx273_1 := (HB.out.cell (World.block_lt_of_cell? w _ hx273_1)).trans hx273_1
            replace hx273_2 := (HB.out.cell (World.block_lt_of_cell? w _ hx273_2)).trans hx273_2
            replace p273 := eq_true p273
            replace q273 := eq_true q273
            try go_wp2
            go_roundg k1
            case measure => have := HK1.out; omega
            case rel => exact ⟨((x3_1 ++ (⟨#[32]⟩ : ByteArray)) ++ ((rd_T38 l0 x4_1).f1)), (ji9), rsd, (by first | rfl | (simp; done) | (simp only [← hji9] <;> (first | rfl | simp)) | (simp [*]; done)), H', ⟨by have := HK1.out; omega⟩, ⟨blw⟩⟩
           ·rw [if_neg c18] at H
            exact absurd H (by simp)
          ·rw [if_neg c17] at H
           exact absurd H (by simp)
        ·rw [if_neg c11] at H
         exact absurd H (by simp)
       ·rw [if_neg c10] at H
        exact absurd H (by simp)
      ·rw [if_neg c8] at H
       exact absurd H (by simp)
     ·rw [if_neg c7] at H
      exact absurd H (by simp)
    ·rw [if_neg c6] at H
     have c6b0 : decide (x4_1 < (l0.length : Int)) = false := decide_eq_false c6
     clear c6
     obtain rfl := Option.some.inj H
     go_wp2
     go_ret
     exact ⟨rew, blw⟩
end Go.Proofs.YtadgddipkbdnbaaGreatDoor.Q
namespace Go.Proofs.YtadgddipkbdnbaaGreatDoor.Q
open Go.Proofs.YtadgddipkbdnbaaGreatDoor Go.RowKit Go.Proofs.YtadgddipkbdnbaaGreatDoorW.PrintWords Go.Proofs.YtadgddipkbdnbaaGreatDoorW.PrintLast Go.Proofs.YtadgddipkbdnbaaGreatDoorW.PrintMore
attribute [local go_sem] max2_int min2_int max_two min_two max_three min_three max_four min_four   
set_option linter.unusedVariables false
set_option linter.unusedSimpArgs false
mutual
def taplinelaw11_LexWrites.l0 : Nat → List (S38) → Bool → Int → Int → Option (Bool)
 | 0, _, _, _, _ => none
 | k + 1, x0, x3, x4, x5 => if x5 < (x0.length : Int) then (if 0 ≤ x5 then (taplinelaw11_LexWrites.l0 k x0 x3 (wrap64 (x4 + (((rd_T38 x0 x5).f1).size : Int))) (wrap64 (x5 + 1))) else (none)) else (if (x0.length : Int) > 200 then (if (x0.length : Int) ≤ 4000 then (taplinelaw11_LexWrites.j1 k x0 x3 true) else (taplinelaw11_LexWrites.j1 k x0 x3 (decide (x4 > 3000)))) else (taplinelaw11_LexWrites.j1 k x0 x3 (decide (x4 > 3000))))
def taplinelaw11_LexWrites.j1 : Nat → List (S38) → Bool → Bool → Option (Bool)
 | 0, _, _, _ => none
 | k + 1, x0, x3, x32 => if x32 = true then (some x3) else (if x3 = true then ((lex_Join.f k x0).bind fun t276 => ((taplineref11_Join.f k x0).bind fun t277 => (if t276.toList = t277.toList then ((lex_Tight.f k x0).bind fun t278 => ((taplineref11_Tight.f k x0).bind fun t279 => (some (t278.toList == t279.toList)))) else (some false)))) else (some false))
end
def taplinelaw11_LexWrites.f (k : Nat) (l0 : List (S38)) : Option (Bool) := (sane_t.f).bind fun t274 => (taplinelaw11_LexWrites.l0 k l0 t274 0 0)
theorem taplinelaw11_LexWrites.mono_l : ∀ k, (∀ y0 y1 y2 y3, LeO (taplinelaw11_LexWrites.l0 k y0 y1 y2 y3) (taplinelaw11_LexWrites.l0 (k + 1) y0 y1 y2 y3)) ∧ (∀ y0 y1 y2, LeO (taplinelaw11_LexWrites.j1 k y0 y1 y2) (taplinelaw11_LexWrites.j1 (k + 1) y0 y1 y2))
 | 0 => ⟨fun _ _ _ _ r h => by simp [taplinelaw11_LexWrites.l0] at h, fun _ _ _ r h => by simp [taplinelaw11_LexWrites.j1] at h⟩
 | k + 1 => by
  obtain ⟨ih0, ih1⟩ := taplinelaw11_LexWrites.mono_l k
  refine ⟨?_, ?_⟩
  ·intro y0 y1 y2 y3
   unfold taplinelaw11_LexWrites.l0
   repeat' first
   | (with_reducible exact ih0 _ _ _ _)
   | (with_reducible exact ih1 _ _ _)
   | (with_reducible exact lex_Join.mono _ _)
   | (with_reducible exact lex_Tight.mono _ _)
   | (with_reducible exact taplineref11_Join.mono _ _)
   | (with_reducible exact taplineref11_Tight.mono _ _)
   | (with_reducible exact LeO.refl _)
   | (with_reducible exact LeO.none _)
   | (with_reducible refine LeO.ite ?_ ?_)
   | (with_reducible refine LeO.bind ?_ (fun _ => ?_))
   | exact LeO.none _
   | refine LeO.ite ?_ ?_
   | refine LeO.bind ?_ (fun _ => ?_)
  ·intro y0 y1 y2
   unfold taplinelaw11_LexWrites.j1
   repeat' first
   | (with_reducible exact ih0 _ _ _ _)
   | (with_reducible exact ih1 _ _ _)
   | (with_reducible exact lex_Join.mono _ _)
   | (with_reducible exact lex_Tight.mono _ _)
   | (with_reducible exact taplineref11_Join.mono _ _)
   | (with_reducible exact taplineref11_Tight.mono _ _)
   | (with_reducible exact LeO.refl _)
   | (with_reducible exact LeO.none _)
   | (with_reducible refine LeO.ite ?_ ?_)
   | (with_reducible refine LeO.bind ?_ (fun _ => ?_))
   | exact LeO.none _
   | refine LeO.ite ?_ ?_
   | refine LeO.bind ?_ (fun _ => ?_)
theorem taplinelaw11_LexWrites.mono : ∀ a0 k, LeO (taplinelaw11_LexWrites.f k a0) (taplinelaw11_LexWrites.f (k + 1) a0) := by
 intro a0 k
 obtain ⟨ih0, ih1⟩ := taplinelaw11_LexWrites.mono_l k
 unfold taplinelaw11_LexWrites.f
 repeat' first
   | (with_reducible exact ih0 _ _ _ _)
   | (with_reducible exact ih1 _ _ _)
   | (with_reducible exact lex_Join.mono _ _)
   | (with_reducible exact lex_Tight.mono _ _)
   | (with_reducible exact taplineref11_Join.mono _ _)
   | (with_reducible exact taplineref11_Tight.mono _ _)
   | (with_reducible exact LeO.refl _)
   | (with_reducible exact LeO.none _)
   | (with_reducible refine LeO.ite ?_ ?_)
   | (with_reducible refine LeO.bind ?_ (fun _ => ?_))
   | exact LeO.none _
   | refine LeO.ite ?_ ?_
   | refine LeO.bind ?_ (fun _ => ?_)
set_option maxHeartbeats 8000000 in
set_option maxRecDepth 100000 in
theorem taplinelaw11_LexWrites.calls (k : Nat) (A0 : Option Addr) (c0 : Nat) (l0 : List (S38)) (r : Bool) (w : World) (hr0 : Kd.C k38 w A0 l0.length l0) (hc0 : l0.length ≤ c0) (h : taplinelaw11_LexWrites.f k l0 = some r) (hgw : GW w) :
  Calls Tryz.prog 5 #[.slice A0 l0.length c0] w fun e w' => e = .returned (.bool r) ∧ Below w.heap.size w w' := by
 have HR0 := Aside0.mk hr0
 have HC0 := Aside0.mk hc0
 clear hr0 hc0
 have HB := Aside0.mk (Below.refl w.heap.size w)
 have H : ((sane_t.f).bind fun t274 => (taplinelaw11_LexWrites.l0 k l0 t274 0 0)) = some r := h
 clear h
 replace H := Option.bind_eq_some_iff.mp H
 obtain ⟨t274, A20, H⟩ := H
 replace H : (taplinelaw11_LexWrites.l0 k l0 t274 0 0) = some r := H
 have A2 := Aside0.mk A20
 clear A20
 have H' := Aside0.mk H
 clear H
 go_enter Tryz.func5, Tryz.ntmps5
 go_wp2_with (first | ((with_reducible refine gate_callee (f := 16) rfl ?_); refine goesL_ (some 6) rfl rfl Tryz.func16 (by kernel_rfl) rfl #[] rfl fq ?_; (with_reducible refine (sane_t.calls  t274 _ A2.out gwx).mono ?_); rintro e w3 ⟨rfl, hb⟩; refine ⟨_, rfl, ?_⟩; have n0_ := Aside0.mk (below_step blw hb); clear HB; have HB := n0_; clear n0_; (try clear hb); (try clear hb2); (try clear hk); (try clear hi)))
 try simp only [Act.put, List.setIfInBounds_toArray, List.set_cons_zero, List.set_cons_succ]
 go_loopg [4, 5] k (fun kq v4 v5 w' => ∃ (x4_1 : Int) (x5_1 : Int), v4 = .int .i64 x4_1 ∧ v5 = .int .i64 x5_1 ∧ Aside0 (taplinelaw11_LexWrites.l0 kq l0 t274 x4_1 x5_1 = some r) ∧ Aside0 (kq ≤ k) ∧ Aside0 (Below w.heap.size w w'))
 case atStart => exact ⟨(0), (0), rsd, rsd, H', ⟨Nat.le_refl _⟩, ⟨blw⟩⟩
 case round =>
  clear H'
  try clear c1
  try clear p2
  obtain ⟨x4_1, x5_1, rfl, rfl, HA, HK1, HB⟩ := hrel
  cases gk with
  | zero => exact absurd HA.out (by simp [taplinelaw11_LexWrites.l0])
  | succ k1 =>
   have H := HA.out
   clear HA
   simp only [taplinelaw11_LexWrites.l0] at H
   by_cases c4 : x5_1 < (l0.length : Int)
   ·rw [if_pos c4] at H
    have c4b0 : decide (x5_1 < (l0.length : Int)) = true := decide_eq_true c4
    clear c4
    by_cases c5 : 0 ≤ x5_1
    ·rw [if_pos c5] at H
     have c5b0 : decide (0 ≤ x5_1) = true := decide_eq_true c5
     clear c5
     have H' := Aside0.mk H
     clear H
     have p275 : 0 ≤ (x5_1 : Int) := of_decide_eq_true asm
     have q275 : x5_1 < (l0.length : Int) := of_decide_eq_true asm
     obtain ⟨ad275, e275, hx275_0, hx275_1, hx275_2⟩ := at_T38 HR0.out x5_1 p275 q275
     cases e275
     replace hx275_0 := (HB.out.cell (World.block_lt_of_cell? w _ hx275_0)).trans hx275_0
     replace hx275_1 := (HB.out.cell (World.block_lt_of_cell? w _ hx275_1)).trans hx275_1
     replace hx275_2 := (HB.out.cell (World.block_lt_of_cell? w _ hx275_2)).trans hx275_2
     replace p275 := eq_true p275
     replace q275 := eq_true q275
     go_wp2
     go_roundg k1
     case measure => have := HK1.out; omega
     case rel => exact ⟨(wrap64 (x4_1 + (((rd_T38 l0 x5_1).f1).size : Int))), (wrap64 (x5_1 + 1)), rsd, rsd, H', ⟨by have := HK1.out; omega⟩, ⟨blw⟩⟩
    ·rw [if_neg c5] at H
     exact absurd H (by simp)
   ·rw [if_neg c4] at H
    have c4b0 : decide (x5_1 < (l0.length : Int)) = false := decide_eq_false c4
    clear c4
    have HC6 := Aside0.mk H
    clear H
    go_upto_region 7 with (fail)
    go_cut [32] (fun v32 wc => ∃ (kq : Nat) (x32_5 : Bool), v32 = .bool x32_5 ∧ Aside0 (taplinelaw11_LexWrites.j1 kq l0 t274 x32_5 = some r) ∧ Aside0 (kq ≤ k1) ∧ Aside0 (Below w.heap.size w wc))
    case first =>
     have H := HC6.out
     clear HC6
     by_cases c7 : (l0.length : Int) > 200
     ·rw [if_pos c7] at H
      have c7b0 : decide (200 < (l0.length : Int)) = true := decide_eq_true c7
      have c7b1 : decide (200 < l0.length) = true := decide_eq_true (by omega)
      clear c7
      (first | rw [c7b0] | (simp only [i64_w, i32_w]; rw [c7b0]) | skip)
      by_cases c8 : (l0.length : Int) ≤ 4000
      ·rw [if_pos c8] at H
       have c8b0 : decide ((l0.length : Int) ≤ 4000) = true := decide_eq_true c8
       have c8b1 : decide (l0.length ≤ 4000) = true := decide_eq_true (by omega)
       clear c8
       have H' := Aside0.mk H
       clear H
       go_wp2
       go_meet
       case rel => exact ⟨_, (true), rsd, H', ⟨by have := HK1.out; first | omega | exact Nat.le_refl _⟩, ⟨blw⟩⟩
      ·rw [if_neg c8] at H
       have c8b0 : decide ((l0.length : Int) ≤ 4000) = false := decide_eq_false c8
       have c8b1 : decide (l0.length ≤ 4000) = false := decide_eq_false (by omega)
       clear c8
       have H' := Aside0.mk H
       clear H
       go_wp2
       go_meet
       case rel => exact ⟨_, (decide (x4_1 > 3000)), rsd, H', ⟨by have := HK1.out; first | omega | exact Nat.le_refl _⟩, ⟨blw⟩⟩
     ·rw [if_neg c7] at H
      have c7b0 : decide (200 < (l0.length : Int)) = false := decide_eq_false c7
      have c7b1 : decide (200 < l0.length) = false := decide_eq_false (by omega)
      clear c7
      (first | rw [c7b0] | (simp only [i64_w, i32_w]; rw [c7b0]) | skip)
      have H' := Aside0.mk H
      clear H
      go_wp2
      go_meet
      case rel => exact ⟨_, (decide (x4_1 > 3000)), rsd, H', ⟨by have := HK1.out; first | omega | exact Nat.le_refl _⟩, ⟨blw⟩⟩
    case rest =>
     clear HC6
     try clear c1
     try clear p2
     try clear q2
     try clear hx2
     try clear c4
     try clear c4b0
     try clear c5
     try clear c5b0
     try clear p6
     try clear c7
     try clear c7b0
     try clear c7b1
     try clear c8
     try clear c8b0
     try clear c8b1
     try clear hx275_0
     try clear hx275_1
     try clear hx275_2
     try clear p2
     try clear p275
     try clear q275
     obtain ⟨kq, x32_5, rfl, HA, HJ5, HB⟩ := hcut
     cases kq with
     | zero => exact absurd HA.out (by simp [taplinelaw11_LexWrites.j1])
     | succ kj5 =>
      have H := HA.out
      clear HA
      simp only [taplinelaw11_LexWrites.j1] at H
      by_cases c9 : x32_5 = true
      ·subst c9
       have H1 : (some t274) = some r := by rw [if_pos rfl] at H; exact H
       clear H
       have H := H1
       clear H1
       obtain rfl := Option.some.inj H
       go_wp2
       go_ret
       exact ⟨rew, blw⟩
      ·replace c9 := Bool.eq_false_iff.mpr c9
       subst c9
       have H1 : (if t274 = true then ((lex_Join.f kj5 l0).bind fun t276 => ((taplineref11_Join.f kj5 l0).bind fun t277 => (if t276.toList = t277.toList then ((lex_Tight.f kj5 l0).bind fun t278 => ((taplineref11_Tight.f kj5 l0).bind fun t279 => (some (t278.toList == t279.toList)))) else (some false)))) else (some false)) = some r := by rw [if_neg (show ¬ (false = true) by decide)] at H; exact H
       clear H
       have H := H1
       clear H1
       by_cases c10 : t274 = true
       ·subst c10
        have H1 : ((lex_Join.f kj5 l0).bind fun t276 => ((taplineref11_Join.f kj5 l0).bind fun t277 => (if t276.toList = t277.toList then ((lex_Tight.f kj5 l0).bind fun t278 => ((taplineref11_Tight.f kj5 l0).bind fun t279 => (some (t278.toList == t279.toList)))) else (some false)))) = some r := by rw [if_pos rfl] at H; exact H
        clear H
        have H := H1
        clear H1
        replace H := Option.bind_eq_some_iff.mp H
        obtain ⟨t276, A110, H⟩ := H
        replace H : ((taplineref11_Join.f kj5 l0).bind fun t277 => (if t276.toList = t277.toList then ((lex_Tight.f kj5 l0).bind fun t278 => ((taplineref11_Tight.f kj5 l0).bind fun t279 => (some (t278.toList == t279.toList)))) else (some false))) = some r := H
        have A11 := Aside0.mk A110
        clear A110
        replace H := Option.bind_eq_some_iff.mp H
        obtain ⟨t277, A120, H⟩ := H
        replace H : (if t276.toList = t277.toList then ((lex_Tight.f kj5 l0).bind fun t278 => ((taplineref11_Tight.f kj5 l0).bind fun t279 => (some (t278.toList == t279.toList)))) else (some false)) = some r := H
        have A12 := Aside0.mk A120
        clear A120
        by_cases c13 : t276.toList = t277.toList
        ·rw [if_pos c13] at H
         have c13b0 : (t276.toList == t277.toList) = true := beq_iff_eq.mpr c13
         have c13b1 : (t276.toList != t277.toList) = false := bne_eq_false_iff_eq.mpr c13
         clear c13
         replace H := Option.bind_eq_some_iff.mp H
         obtain ⟨t278, A140, H⟩ := H
         replace H : ((taplineref11_Tight.f kj5 l0).bind fun t279 => (some (t278.toList == t279.toList))) = some r := H
         have A14 := Aside0.mk A140
         clear A140
         replace H := Option.bind_eq_some_iff.mp H
         obtain ⟨t279, A150, H⟩ := H
         replace H : (some (t278.toList == t279.toList)) = some r := H
         have A15 := Aside0.mk A150
         clear A150
         obtain rfl := Option.some.inj H
         go_wp2_with (first | (go_at_call 22; (with_reducible refine (lex_Join.calls kj5 _ _ l0 t276 _ ?side1 ?side2 A11.out gwx).mono ?_); (case side1 => repeat (first | exact (Kd.C_below HR0.out HB.out) | (with_reducible refine Kd.C_alloc ?_ _) | (with_reducible refine Kd.C_drewN ?_ _) | (with_reducible refine Kd.C_drew ?_))); (case side2 => exact HC0.out); rintro e w16 ⟨rfl, hb⟩; have n0_ := Aside0.mk (below_step blw hb); clear HB; have HB := n0_; clear n0_; (try clear hb); (try clear hb2); (try clear hk); (try clear hi)) | (go_at_call 23; (with_reducible refine (taplineref11_Join.calls kj5 _ _ l0 t277 _ ?side1 ?side2 A12.out).mono ?_); (case side1 => repeat (first | exact (Kd.C_below HR0.out HB.out) | (with_reducible refine Kd.C_alloc ?_ _) | (with_reducible refine Kd.C_drewN ?_ _) | (with_reducible refine Kd.C_drew ?_))); (case side2 => exact HC0.out); rintro e w17 ⟨rfl, hb⟩; have n0_ := Aside0.mk (below_step blw hb); clear HB; have HB := n0_; clear n0_; (try clear hb); (try clear hb2); (try clear hk); (try clear hi)) | (go_at_call 24; (with_reducible refine (lex_Tight.calls kj5 _ _ l0 t278 _ ?side1 ?side2 A14.out gwx).mono ?_); (case side1 => repeat (first | exact (Kd.C_below HR0.out HB.out) | (with_reducible refine Kd.C_alloc ?_ _) | (with_reducible refine Kd.C_drewN ?_ _) | (with_reducible refine Kd.C_drew ?_))); (case side2 => exact HC0.out); rintro e w18 ⟨rfl, hb⟩; have n0_ := Aside0.mk (below_step blw hb); clear HB; have HB := n0_; clear n0_; (try clear hb); (try clear hb2); (try clear hk); (try clear hi)) | (go_at_call 25; (with_reducible refine (taplineref11_Tight.calls kj5 _ _ l0 t279 _ ?side1 ?side2 A15.out).mono ?_); (case side1 => repeat (first | exact (Kd.C_below HR0.out HB.out) | (with_reducible refine Kd.C_alloc ?_ _) | (with_reducible refine Kd.C_drewN ?_ _) | (with_reducible refine Kd.C_drew ?_))); (case side2 => exact HC0.out); rintro e w19 ⟨rfl, hb⟩; have n0_ := Aside0.mk (below_step blw hb); clear HB; have HB := n0_; clear n0_; (try clear hb); (try clear hb2); (try clear hk); (try clear hi)))
         go_ret
         exact ⟨rew, blw⟩
        ·rw [if_neg c13] at H
         have c13b0 : (t276.toList == t277.toList) = false := beq_eq_false_iff_ne.mpr c13
         have c13b1 : (t276.toList != t277.toList) = true := bne_iff_ne.mpr c13
         obtain rfl := Option.some.inj H
         go_wp2_with (first | (go_at_call 22; (with_reducible refine (lex_Join.calls kj5 _ _ l0 t276 _ ?side1 ?side2 A11.out gwx).mono ?_); (case side1 => repeat (first | exact (Kd.C_below HR0.out HB.out) | (with_reducible refine Kd.C_alloc ?_ _) | (with_reducible refine Kd.C_drewN ?_ _) | (with_reducible refine Kd.C_drew ?_))); (case side2 => exact HC0.out); rintro e w20 ⟨rfl, hb⟩; have n0_ := Aside0.mk (below_step blw hb); clear HB; have HB := n0_; clear n0_; (try clear hb); (try clear hb2); (try clear hk); (try clear hi)) | (go_at_call 23; (with_reducible refine (taplineref11_Join.calls kj5 _ _ l0 t277 _ ?side1 ?side2 A12.out).mono ?_); (case side1 => repeat (first | exact (Kd.C_below HR0.out HB.out) | (with_reducible refine Kd.C_alloc ?_ _) | (with_reducible refine Kd.C_drewN ?_ _) | (with_reducible refine Kd.C_drew ?_))); (case side2 => exact HC0.out); rintro e w21 ⟨rfl, hb⟩; have n0_ := Aside0.mk (below_step blw hb); clear HB; have HB := n0_; clear n0_; (try clear hb); (try clear hb2); (try clear hk); (try clear hi)))
         go_ret
         exact ⟨rew, blw⟩
       ·replace c10 := Bool.eq_false_iff.mpr c10
        subst c10
        have H1 : (some false) = some r := by rw [if_neg (show ¬ (false = true) by decide)] at H; exact H
        clear H
        have H := H1
        clear H1
        obtain rfl := Option.some.inj H
        go_wp2
        go_ret
        exact ⟨rew, blw⟩
end Go.Proofs.YtadgddipkbdnbaaGreatDoor.Q
