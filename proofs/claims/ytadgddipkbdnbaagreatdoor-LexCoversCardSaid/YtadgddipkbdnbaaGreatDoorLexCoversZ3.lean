/- Parts of the proof: For every text that is scanned without an error, its tokens stand in order, each at its offset, and all else is blanks and comments; the inputs read as they did; the package-level variables hold what the program's text lays in them: the tied card. -/
import Derived.Test.YtadgddipkbdnbaaGreatDoorLexP1
import Derived.Test.YtadgddipkbdnbaaGreatDoorLexP2
import Derived.Test.YtadgddipkbdnbaaGreatDoorLexP3
import Derived.Test.YtadgddipkbdnbaaGreatDoorLexCoversZ1
namespace Go.Proofs.YtadgddipkbdnbaaGreatDoor.Q
open Go.Proofs.YtadgddipkbdnbaaGreatDoor Go.RowKit Go.Proofs.YtadgddipkbdnbaaGreatDoorW.PrintWords Go.Proofs.YtadgddipkbdnbaaGreatDoorW.PrintLast Go.Proofs.YtadgddipkbdnbaaGreatDoorW.PrintMore
attribute [local go_sem] max2_int min2_int max_two min_two max_three min_three max_four min_four   
set_option linter.unusedVariables false
set_option linter.unusedSimpArgs false
mutual
def taplinelaw11_idle.l0 : Nat → ByteArray → Int → Option (Bool)
 | 0, _, _ => none
 | k + 1, x0, x3 => if x3 < (x0.size : Int) then (if 0 ≤ x3 then (if (bt x0 x3) = 47 then (if (wrap64 (x3 + 1)) < (x0.size : Int) then (if 0 ≤ (wrap64 (x3 + 1)) then (taplinelaw11_idle.j1 k x0 x3 ((bt x0 (wrap64 (x3 + 1))) == 47)) else (none)) else (taplinelaw11_idle.j1 k x0 x3 false)) else (taplinelaw11_idle.j1 k x0 x3 false)) else (none)) else (some true)
def taplinelaw11_idle.j1 : Nat → ByteArray → Int → Bool → Option (Bool)
 | 0, _, _, _ => none
 | k + 1, x0, x3, x25 => if x25 = true then (taplinelaw11_idle.l1 k x0 x3) else (if 0 ≤ x3 then (if x3 < (x0.size : Int) then (if (bt x0 x3) = 47 then (if (wrap64 (x3 + 1)) < (x0.size : Int) then (if 0 ≤ (wrap64 (x3 + 1)) then (taplinelaw11_idle.j3 k x0 x3 ((bt x0 (wrap64 (x3 + 1))) == 42)) else (none)) else (taplinelaw11_idle.j3 k x0 x3 false)) else (taplinelaw11_idle.j3 k x0 x3 false)) else (none)) else (none))
def taplinelaw11_idle.l1 : Nat → ByteArray → Int → Option (Bool)
 | 0, _, _ => none
 | k + 1, x0, x3 => if x3 < (x0.size : Int) then (if 0 ≤ x3 then (if (bt x0 x3) = 10 then (taplinelaw11_idle.l0 k x0 x3) else (taplinelaw11_idle.l1 k x0 (wrap64 (x3 + 1)))) else (none)) else (taplinelaw11_idle.l0 k x0 x3)
def taplinelaw11_idle.j3 : Nat → ByteArray → Int → Bool → Option (Bool)
 | 0, _, _, _ => none
 | k + 1, x0, x3, x55 => if x55 = true then (taplinelaw11_idle.l2 k x0 (wrap64 (x3 + 2))) else (if 0 ≤ x3 then (if x3 < (x0.size : Int) then (if (bt x0 x3) = 32 then (taplinelaw11_idle.l0 k x0 (wrap64 (x3 + 1))) else (if (bt x0 x3) = 9 then (taplinelaw11_idle.l0 k x0 (wrap64 (x3 + 1))) else (if (bt x0 x3) = 13 then (taplinelaw11_idle.l0 k x0 (wrap64 (x3 + 1))) else (if (bt x0 x3) = 10 then (taplinelaw11_idle.l0 k x0 (wrap64 (x3 + 1))) else (some false))))) else (none)) else (none))
def taplinelaw11_idle.l2 : Nat → ByteArray → Int → Option (Bool)
 | 0, _, _ => none
 | k + 1, x0, x3 => if (wrap64 (x3 + 1)) < (x0.size : Int) then (if 0 ≤ x3 then (if x3 < (x0.size : Int) then (if (bt x0 x3) = 42 then (if 0 ≤ (wrap64 (x3 + 1)) then (if (bt x0 (wrap64 (x3 + 1))) = 47 then (if (wrap64 (x3 + 1)) ≥ (x0.size : Int) then (some false) else (taplinelaw11_idle.l0 k x0 (wrap64 (x3 + 2)))) else (taplinelaw11_idle.l2 k x0 (wrap64 (x3 + 1)))) else (none)) else (taplinelaw11_idle.l2 k x0 (wrap64 (x3 + 1)))) else (none)) else (none)) else (if (wrap64 (x3 + 1)) ≥ (x0.size : Int) then (some false) else (taplinelaw11_idle.l0 k x0 (wrap64 (x3 + 2))))
end
def taplinelaw11_idle.f (k : Nat) (a0 : ByteArray) : Option (Bool) := taplinelaw11_idle.l0 k a0 0
theorem taplinelaw11_idle.mono_l : ∀ k, (∀ y0 y1, LeO (taplinelaw11_idle.l0 k y0 y1) (taplinelaw11_idle.l0 (k + 1) y0 y1)) ∧ (∀ y0 y1 y2, LeO (taplinelaw11_idle.j1 k y0 y1 y2) (taplinelaw11_idle.j1 (k + 1) y0 y1 y2)) ∧ (∀ y0 y1, LeO (taplinelaw11_idle.l1 k y0 y1) (taplinelaw11_idle.l1 (k + 1) y0 y1)) ∧ (∀ y0 y1 y2, LeO (taplinelaw11_idle.j3 k y0 y1 y2) (taplinelaw11_idle.j3 (k + 1) y0 y1 y2)) ∧ (∀ y0 y1, LeO (taplinelaw11_idle.l2 k y0 y1) (taplinelaw11_idle.l2 (k + 1) y0 y1))
 | 0 => ⟨fun _ _ r h => by simp [taplinelaw11_idle.l0] at h, fun _ _ _ r h => by simp [taplinelaw11_idle.j1] at h, fun _ _ r h => by simp [taplinelaw11_idle.l1] at h, fun _ _ _ r h => by simp [taplinelaw11_idle.j3] at h, fun _ _ r h => by simp [taplinelaw11_idle.l2] at h⟩
 | k + 1 => by
  obtain ⟨ih0, ih1, ih2, ih3, ih4⟩ := taplinelaw11_idle.mono_l k
  refine ⟨?_, ?_, ?_, ?_, ?_⟩
  ·intro y0 y1
   unfold taplinelaw11_idle.l0
   repeat' first
   | (with_reducible exact ih0 _ _)
   | (with_reducible exact ih1 _ _ _)
   | (with_reducible exact ih2 _ _)
   | (with_reducible exact ih3 _ _ _)
   | (with_reducible exact ih4 _ _)
   | (with_reducible exact LeO.refl _)
   | (with_reducible exact LeO.none _)
   | (with_reducible refine LeO.ite ?_ ?_)
   | (with_reducible refine LeO.bind ?_ (fun _ => ?_))
   | exact LeO.none _
   | refine LeO.ite ?_ ?_
   | refine LeO.bind ?_ (fun _ => ?_)
  ·intro y0 y1 y2
   unfold taplinelaw11_idle.j1
   repeat' first
   | (with_reducible exact ih0 _ _)
   | (with_reducible exact ih1 _ _ _)
   | (with_reducible exact ih2 _ _)
   | (with_reducible exact ih3 _ _ _)
   | (with_reducible exact ih4 _ _)
   | (with_reducible exact LeO.refl _)
   | (with_reducible exact LeO.none _)
   | (with_reducible refine LeO.ite ?_ ?_)
   | (with_reducible refine LeO.bind ?_ (fun _ => ?_))
   | exact LeO.none _
   | refine LeO.ite ?_ ?_
   | refine LeO.bind ?_ (fun _ => ?_)
  ·intro y0 y1
   unfold taplinelaw11_idle.l1
   repeat' first
   | (with_reducible exact ih0 _ _)
   | (with_reducible exact ih1 _ _ _)
   | (with_reducible exact ih2 _ _)
   | (with_reducible exact ih3 _ _ _)
   | (with_reducible exact ih4 _ _)
   | (with_reducible exact LeO.refl _)
   | (with_reducible exact LeO.none _)
   | (with_reducible refine LeO.ite ?_ ?_)
   | (with_reducible refine LeO.bind ?_ (fun _ => ?_))
   | exact LeO.none _
   | refine LeO.ite ?_ ?_
   | refine LeO.bind ?_ (fun _ => ?_)
  ·intro y0 y1 y2
   unfold taplinelaw11_idle.j3
   repeat' first
   | (with_reducible exact ih0 _ _)
   | (with_reducible exact ih1 _ _ _)
   | (with_reducible exact ih2 _ _)
   | (with_reducible exact ih3 _ _ _)
   | (with_reducible exact ih4 _ _)
   | (with_reducible exact LeO.refl _)
   | (with_reducible exact LeO.none _)
   | (with_reducible refine LeO.ite ?_ ?_)
   | (with_reducible refine LeO.bind ?_ (fun _ => ?_))
   | exact LeO.none _
   | refine LeO.ite ?_ ?_
   | refine LeO.bind ?_ (fun _ => ?_)
  ·intro y0 y1
   unfold taplinelaw11_idle.l2
   repeat' first
   | (with_reducible exact ih0 _ _)
   | (with_reducible exact ih1 _ _ _)
   | (with_reducible exact ih2 _ _)
   | (with_reducible exact ih3 _ _ _)
   | (with_reducible exact ih4 _ _)
   | (with_reducible exact LeO.refl _)
   | (with_reducible exact LeO.none _)
   | (with_reducible refine LeO.ite ?_ ?_)
   | (with_reducible refine LeO.bind ?_ (fun _ => ?_))
   | exact LeO.none _
   | refine LeO.ite ?_ ?_
   | refine LeO.bind ?_ (fun _ => ?_)
theorem taplinelaw11_idle.mono : ∀ a0 k, LeO (taplinelaw11_idle.f k a0) (taplinelaw11_idle.f (k + 1) a0) := by
 intro a0 k
 obtain ⟨ih0, ih1, ih2, ih3, ih4⟩ := taplinelaw11_idle.mono_l k
 unfold taplinelaw11_idle.f
 repeat' first
   | (with_reducible exact ih0 _ _)
   | (with_reducible exact ih1 _ _ _)
   | (with_reducible exact ih2 _ _)
   | (with_reducible exact ih3 _ _ _)
   | (with_reducible exact ih4 _ _)
   | (with_reducible exact LeO.refl _)
   | (with_reducible exact LeO.none _)
   | (with_reducible refine LeO.ite ?_ ?_)
   | (with_reducible refine LeO.bind ?_ (fun _ => ?_))
   | exact LeO.none _
   | refine LeO.ite ?_ ?_
   | refine LeO.bind ?_ (fun _ => ?_)
set_option maxHeartbeats 8000000 in
set_option maxRecDepth 100000 in
theorem taplinelaw11_idle.calls (k : Nat) (a0 : ByteArray) (r : Bool) (w : World) (h : taplinelaw11_idle.f k a0 = some r) :
  Calls Tryz.prog 29 #[.string a0] w fun e w' => e = .returned (.bool r) ∧ Drawn0 w w' := by
 have H : (taplinelaw11_idle.l0 k a0 0) = some r := h
 clear h
 have H' := Aside0.mk H
 clear H
 go_enter Tryz.func29, Tryz.ntmps29
 go_wp2
 try simp only [Act.put, List.setIfInBounds_toArray, List.set_cons_zero, List.set_cons_succ]
 go_loopg [3] k (fun kq v3 w' => ∃ (x3_1 : Int), v3 = .int .i64 x3_1 ∧ Aside0 (taplinelaw11_idle.l0 kq a0 x3_1 = some r) ∧ Aside0 (kq ≤ k) ∧ Drawn0 w w')
 case atStart => exact ⟨(0), rsd, H', ⟨Nat.le_refl _⟩, by repeat (first | exact Drawn0.refl _ | apply Drawn0.step)⟩
 case round =>
  clear H'
  obtain ⟨x3_1, rfl, HA, HK1, ⟨m1, rfl⟩⟩ := hrel
  cases gk with
  | zero => exact absurd HA.out (by simp [taplinelaw11_idle.l0])
  | succ k1 =>
   have H := HA.out
   clear HA
   simp only [taplinelaw11_idle.l0] at H
   by_cases c2 : x3_1 < (a0.size : Int)
   ·rw [if_pos c2] at H
    have c2b0 : decide (x3_1 < (a0.size : Int)) = true := decide_eq_true c2
    clear c2
    have HC3 := Aside0.mk H
    clear H
    go_upto_region 3 with (fail)
    go_cut [25] (fun v25 wc => ∃ (kq : Nat) (x25_2 : Bool), v25 = .bool x25_2 ∧ Aside0 (taplinelaw11_idle.j1 kq a0 x3_1 x25_2 = some r) ∧ Aside0 (kq ≤ k1) ∧ Drawn0 w wc)
    case first =>
     have H := HC3.out
     clear HC3
     by_cases c4 : 0 ≤ x3_1
     ·rw [if_pos c4] at H
      have c4b0 : decide (0 ≤ x3_1) = true := decide_eq_true c4
      clear c4
      (first | rw [c4b0] | (simp only [i64_w, i32_w]; rw [c4b0]) | skip)
      by_cases c6 : (bt a0 x3_1) = 47
      ·rw [if_pos c6] at H
       have c6b0 : ((bt a0 x3_1) == 47) = true := beq_iff_eq.mpr c6
       have c6b1 : ((bt a0 x3_1) != 47) = false := bne_eq_false_iff_eq.mpr c6
       clear c6
       by_cases c7 : (wrap64 (x3_1 + 1)) < (a0.size : Int)
       ·rw [if_pos c7] at H
        have c7b0 : decide ((wrap64 (x3_1 + 1)) < (a0.size : Int)) = true := decide_eq_true c7
        clear c7
        obtain ⟨ji8, hji8⟩ : ∃ j_ : Int, (wrap64 (x3_1 + 1)) = j_ := ⟨_, rfl⟩
        replace H : (if 0 ≤ (ji8) then (taplinelaw11_idle.j1 k1 a0 x3_1 ((bt a0 (ji8)) == 47)) else (none)) = some r := by first | (rw [hji8] at H; exact H) | (simp only [hji8] at H ⊢; exact H)
        (try rw [hji8] at c7b0)
        have hji8w : (IntKind.i64.wrap (x3_1 + 1)) = ji8 := (i64_w _).trans hji8
        by_cases c9 : 0 ≤ (ji8)
        ·rw [if_pos c9] at H
         have c9b0 : decide (0 ≤ (ji8)) = true := decide_eq_true c9
         clear c9
         have H' := Aside0.mk H
         clear H
         have p5 : 0 ≤ (x3_1 : Int) := of_decide_eq_true asm
         have q5 : x3_1 < (a0.size : Int) := of_decide_eq_true asm
         have hx5 := bt_at a0 x3_1
         replace p5 := eq_true p5
         replace q5 := eq_true q5
         have p10 : 0 ≤ ((ji8) : Int) := of_decide_eq_true asm
         have q10 : (ji8) < (a0.size : Int) := of_decide_eq_true asm
         have hx10 := bt_at a0 (ji8)
         replace p10 := eq_true p10
         replace q10 := eq_true q10
         go_wp2
         go_meet
         case rel => exact ⟨_, (((bt a0 (ji8)) == 47)), (by first | rfl | (simp; done) | (simp only [← hji8] <;> (first | rfl | simp)) | (simp [*]; done)), H', ⟨by have := HK1.out; first | omega | exact Nat.le_refl _⟩, by repeat (first | exact Drawn0.refl _ | apply Drawn0.step)⟩
        ·rw [if_neg c9] at H
         exact absurd H (by simp)
       ·rw [if_neg c7] at H
        have c7b0 : decide ((wrap64 (x3_1 + 1)) < (a0.size : Int)) = false := decide_eq_false c7
        clear c7
        have H' := Aside0.mk H
        clear H
        have p5 : 0 ≤ (x3_1 : Int) := of_decide_eq_true asm
        have q5 : x3_1 < (a0.size : Int) := of_decide_eq_true asm
        have hx5 := bt_at a0 x3_1
        replace p5 := eq_true p5
        replace q5 := eq_true q5
        go_wp2
        go_meet
        case rel => exact ⟨_, (false), rsd, H', ⟨by have := HK1.out; first | omega | exact Nat.le_refl _⟩, by repeat (first | exact Drawn0.refl _ | apply Drawn0.step)⟩
      ·rw [if_neg c6] at H
       have c6b0 : ((bt a0 x3_1) == 47) = false := beq_eq_false_iff_ne.mpr c6
       have c6b1 : ((bt a0 x3_1) != 47) = true := bne_iff_ne.mpr c6
       have H' := Aside0.mk H
       clear H
       have p5 : 0 ≤ (x3_1 : Int) := of_decide_eq_true asm
       have q5 : x3_1 < (a0.size : Int) := of_decide_eq_true asm
       have hx5 := bt_at a0 x3_1
       replace p5 := eq_true p5
       replace q5 := eq_true q5
       go_wp2
       go_meet
       case rel => exact ⟨_, (false), rsd, H', ⟨by have := HK1.out; first | omega | exact Nat.le_refl _⟩, by repeat (first | exact Drawn0.refl _ | apply Drawn0.step)⟩
     ·rw [if_neg c4] at H
      exact absurd H (by simp)
    case rest =>
     clear HC3
     try clear p1
     try clear q1
     try clear hx1
     try clear c2
     try clear c2b0
     try clear p2
     try clear c4
     try clear c4b0
     try clear p5
     try clear q5
     try clear hx5
     try clear c6
     try clear c6b0
     try clear c6b1
     try clear p6
     try clear c7
     try clear c7b0
     try clear c9
     try clear c9b0
     try clear p10
     try clear q10
     try clear hx10
     try clear p10
     try clear p5
     try clear q10
     try clear q5
     obtain ⟨kq, x25_2, rfl, HA, HJ2, ⟨mc2, rfl⟩⟩ := hcut
     cases kq with
     | zero => exact absurd HA.out (by simp [taplinelaw11_idle.j1])
     | succ kj2 =>
      have H := HA.out
      clear HA
      simp only [taplinelaw11_idle.j1] at H
      by_cases c11 : x25_2 = true
      ·subst c11
       have H1 : (taplinelaw11_idle.l1 kj2 a0 x3_1) = some r := by rw [if_pos rfl] at H; exact H
       clear H
       have H := H1
       clear H1
       have H' := Aside0.mk H
       clear H
       go_wp2
       try simp only [Act.put, List.setIfInBounds_toArray, List.set_cons_zero, List.set_cons_succ]
       go_loopg [3] kj2 (fun kq v3 w' => ∃ (x3_3 : Int), v3 = .int .i64 x3_3 ∧ Aside0 (taplinelaw11_idle.l1 kq a0 x3_3 = some r) ∧ Aside0 (kq ≤ kj2) ∧ Drawn0 w w')
       case atStart => exact ⟨(x3_1), rsd, H', ⟨Nat.le_refl _⟩, by repeat (first | exact Drawn0.refl _ | apply Drawn0.step)⟩
       case round =>
        clear H'
        try clear c1
        try clear p1
        try clear q1
        try clear hx1
        try clear c2
        try clear c2b0
        try clear p2
        try clear c4
        try clear c4b0
        try clear p5
        try clear q5
        try clear hx5
        try clear c6
        try clear c6b0
        try clear c6b1
        try clear p6
        try clear c7
        try clear c7b0
        try clear c9
        try clear c9b0
        try clear p10
        try clear q10
        try clear hx10
        try clear c11
        try clear p1
        try clear p10
        try clear p2
        try clear p5
        try clear p6
        try clear q1
        try clear q10
        try clear q5
        obtain ⟨x3_3, rfl, HA, HK3, ⟨m3, rfl⟩⟩ := hrel
        cases gk with
        | zero => exact absurd HA.out (by simp [taplinelaw11_idle.l1])
        | succ k3 =>
         have H := HA.out
         clear HA
         simp only [taplinelaw11_idle.l1] at H
         by_cases c12 : x3_3 < (a0.size : Int)
         ·rw [if_pos c12] at H
          have c12b0 : decide (x3_3 < (a0.size : Int)) = true := decide_eq_true c12
          clear c12
          by_cases c13 : 0 ≤ x3_3
          ·rw [if_pos c13] at H
           have c13b0 : decide (0 ≤ x3_3) = true := decide_eq_true c13
           clear c13
           by_cases c15 : (bt a0 x3_3) = 10
           ·rw [if_pos c15] at H
            have c15b0 : ((bt a0 x3_3) == 10) = true := beq_iff_eq.mpr c15
            have c15b1 : ((bt a0 x3_3) != 10) = false := bne_eq_false_iff_eq.mpr c15
            clear c15
            have H' := Aside0.mk H
            clear H
            have p14 : 0 ≤ (x3_3 : Int) := of_decide_eq_true asm
            have q14 : x3_3 < (a0.size : Int) := of_decide_eq_true asm
            have hx14 := bt_at a0 x3_3
            replace p14 := eq_true p14
            replace q14 := eq_true q14
            go_wp2
            go_roundg k3
            case measure => have := HK1.out; have := HJ2.out; have := HK3.out; omega
            case rel => exact ⟨(x3_3), rsd, H', ⟨by have := HK1.out; have := HJ2.out; have := HK3.out; omega⟩, by repeat (first | exact Drawn0.refl _ | apply Drawn0.step)⟩
           ·rw [if_neg c15] at H
            have c15b0 : ((bt a0 x3_3) == 10) = false := beq_eq_false_iff_ne.mpr c15
            have c15b1 : ((bt a0 x3_3) != 10) = true := bne_iff_ne.mpr c15
            have H' := Aside0.mk H
            clear H
            have p14 : 0 ≤ (x3_3 : Int) := of_decide_eq_true asm
            have q14 : x3_3 < (a0.size : Int) := of_decide_eq_true asm
            have hx14 := bt_at a0 x3_3
            replace p14 := eq_true p14
            replace q14 := eq_true q14
            go_wp2
            go_roundg k3
            case measure => have := HK1.out; have := HJ2.out; have := HK3.out; omega
            case rel => exact ⟨(wrap64 (x3_3 + 1)), rsd, H', ⟨by have := HK1.out; have := HJ2.out; have := HK3.out; omega⟩, by repeat (first | exact Drawn0.refl _ | apply Drawn0.step)⟩
          ·rw [if_neg c13] at H
           exact absurd H (by simp)
         ·rw [if_neg c12] at H
          have c12b0 : decide (x3_3 < (a0.size : Int)) = false := decide_eq_false c12
          clear c12
          have H' := Aside0.mk H
          clear H
          go_wp2
          go_roundg k3
          case measure => have := HK1.out; have := HJ2.out; have := HK3.out; omega
          case rel => exact ⟨(x3_3), rsd, H', ⟨by have := HK1.out; have := HJ2.out; have := HK3.out; omega⟩, by repeat (first | exact Drawn0.refl _ | apply Drawn0.step)⟩
      ·replace c11 := Bool.eq_false_iff.mpr c11
       subst c11
       have H1 : (if 0 ≤ x3_1 then (if x3_1 < (a0.size : Int) then (if (bt a0 x3_1) = 47 then (if (wrap64 (x3_1 + 1)) < (a0.size : Int) then (if 0 ≤ (wrap64 (x3_1 + 1)) then (taplinelaw11_idle.j3 kj2 a0 x3_1 ((bt a0 (wrap64 (x3_1 + 1))) == 42)) else (none)) else (taplinelaw11_idle.j3 kj2 a0 x3_1 false)) else (taplinelaw11_idle.j3 kj2 a0 x3_1 false)) else (none)) else (none)) = some r := by rw [if_neg (show ¬ (false = true) by decide)] at H; exact H
       clear H
       have H := H1
       clear H1
       have HC16 := Aside0.mk H
       clear H
       go_upto_region 6 with (fail)
       go_cut [55] (fun v55 wc => ∃ (kq : Nat) (x55_15 : Bool), v55 = .bool x55_15 ∧ Aside0 (taplinelaw11_idle.j3 kq a0 x3_1 x55_15 = some r) ∧ Aside0 (kq ≤ kj2) ∧ Drawn0 w wc)
       case first =>
        have H := HC16.out
        clear HC16
        by_cases c17 : 0 ≤ x3_1
        ·rw [if_pos c17] at H
         have c17b0 : decide (0 ≤ x3_1) = true := decide_eq_true c17
         clear c17
         (first | rw [c17b0] | (simp only [i64_w, i32_w]; rw [c17b0]) | skip)
         by_cases c18 : x3_1 < (a0.size : Int)
         ·rw [if_pos c18] at H
          have c18b0 : decide (x3_1 < (a0.size : Int)) = true := decide_eq_true c18
          clear c18
          by_cases c20 : (bt a0 x3_1) = 47
          ·rw [if_pos c20] at H
           have c20b0 : ((bt a0 x3_1) == 47) = true := beq_iff_eq.mpr c20
           have c20b1 : ((bt a0 x3_1) != 47) = false := bne_eq_false_iff_eq.mpr c20
           clear c20
           by_cases c21 : (wrap64 (x3_1 + 1)) < (a0.size : Int)
           ·rw [if_pos c21] at H
            have c21b0 : decide ((wrap64 (x3_1 + 1)) < (a0.size : Int)) = true := decide_eq_true c21
            clear c21
            obtain ⟨ji22, hji22⟩ : ∃ j_ : Int, (wrap64 (x3_1 + 1)) = j_ := ⟨_, rfl⟩
            replace H : (if 0 ≤ (ji22) then (taplinelaw11_idle.j3 kj2 a0 x3_1 ((bt a0 (ji22)) == 42)) else (none)) = some r := by first | (rw [hji22] at H; exact H) | (simp only [hji22] at H ⊢; exact H)
            (try rw [hji22] at c21b0)
            have hji22w : (IntKind.i64.wrap (x3_1 + 1)) = ji22 := (i64_w _).trans hji22
            by_cases c23 : 0 ≤ (ji22)
            ·rw [if_pos c23] at H
             have c23b0 : decide (0 ≤ (ji22)) = true := decide_eq_true c23
             clear c23
             have H' := Aside0.mk H
             clear H
             have p19 : 0 ≤ (x3_1 : Int) := of_decide_eq_true asm
             have q19 : x3_1 < (a0.size : Int) := of_decide_eq_true asm
             have hx19 := bt_at a0 x3_1
             replace p19 := eq_true p19
             replace q19 := eq_true q19
             have p24 : 0 ≤ ((ji22) : Int) := of_decide_eq_true asm
             have q24 : (ji22) < (a0.size : Int) := of_decide_eq_true asm
             have hx24 := bt_at a0 (ji22)
             replace p24 := eq_true p24
             replace q24 := eq_true q24
             go_wp2
             go_meet
             case rel => exact ⟨_, (((bt a0 (ji22)) == 42)), (by first | rfl | (simp; done) | (simp only [← hji22] <;> (first | rfl | simp)) | (simp [*]; done)), H', ⟨by have := HK1.out; have := HJ2.out; first | omega | exact Nat.le_refl _⟩, by repeat (first | exact Drawn0.refl _ | apply Drawn0.step)⟩
            ·rw [if_neg c23] at H
             exact absurd H (by simp)
           ·rw [if_neg c21] at H
            have c21b0 : decide ((wrap64 (x3_1 + 1)) < (a0.size : Int)) = false := decide_eq_false c21
            clear c21
            have H' := Aside0.mk H
            clear H
            have p19 : 0 ≤ (x3_1 : Int) := of_decide_eq_true asm
            have q19 : x3_1 < (a0.size : Int) := of_decide_eq_true asm
            have hx19 := bt_at a0 x3_1
            replace p19 := eq_true p19
            replace q19 := eq_true q19
            go_wp2
            go_meet
            case rel => exact ⟨_, (false), rsd, H', ⟨by have := HK1.out; have := HJ2.out; first | omega | exact Nat.le_refl _⟩, by repeat (first | exact Drawn0.refl _ | apply Drawn0.step)⟩
          ·rw [if_neg c20] at H
           have c20b0 : ((bt a0 x3_1) == 47) = false := beq_eq_false_iff_ne.mpr c20
           have c20b1 : ((bt a0 x3_1) != 47) = true := bne_iff_ne.mpr c20
           have H' := Aside0.mk H
           clear H
           have p19 : 0 ≤ (x3_1 : Int) := of_decide_eq_true asm
           have q19 : x3_1 < (a0.size : Int) := of_decide_eq_true asm
           have hx19 := bt_at a0 x3_1
           replace p19 := eq_true p19
           replace q19 := eq_true q19
           go_wp2
           go_meet
           case rel => exact ⟨_, (false), rsd, H', ⟨by have := HK1.out; have := HJ2.out; first | omega | exact Nat.le_refl _⟩, by repeat (first | exact Drawn0.refl _ | apply Drawn0.step)⟩
         ·rw [if_neg c18] at H
          exact absurd H (by simp)
        ·rw [if_neg c17] at H
         exact absurd H (by simp)
       case rest =>
        clear HC16
        try clear c1
        try clear p1
        try clear q1
        try clear hx1
        try clear c2
        try clear c2b0
        try clear p2
        try clear q2
        try clear hx2
        try clear c4
        try clear c4b0
        try clear p5
        try clear q5
        try clear hx5
        try clear c6
        try clear c6b0
        try clear c6b1
        try clear p6
        try clear c7
        try clear c7b0
        try clear c9
        try clear c9b0
        try clear p10
        try clear q10
        try clear hx10
        try clear c11
        try clear c12
        try clear c12b0
        try clear c13
        try clear c13b0
        try clear p14
        try clear q14
        try clear hx14
        try clear c15
        try clear c15b0
        try clear c15b1
        try clear c17
        try clear c17b0
        try clear c18
        try clear c18b0
        try clear p19
        try clear q19
        try clear hx19
        try clear c20
        try clear c20b0
        try clear c20b1
        try clear c21
        try clear c21b0
        try clear c23
        try clear c23b0
        try clear p24
        try clear q24
        try clear hx24
        try clear p1
        try clear p10
        try clear p14
        try clear p19
        try clear p2
        try clear p24
        try clear p5
        try clear p6
        try clear q1
        try clear q10
        try clear q14
        try clear q19
        try clear q24
        try clear q5
        obtain ⟨kq, x55_15, rfl, HA, HJ15, ⟨mc15, rfl⟩⟩ := hcut
        cases kq with
        | zero => exact absurd HA.out (by simp [taplinelaw11_idle.j3])
        | succ kj15 =>
         have H := HA.out
         clear HA
         simp only [taplinelaw11_idle.j3] at H
         by_cases c25 : x55_15 = true
         ·subst c25
          have H1 : (taplinelaw11_idle.l2 kj15 a0 (wrap64 (x3_1 + 2))) = some r := by rw [if_pos rfl] at H; exact H
          clear H
          have H := H1
          clear H1
          have H' := Aside0.mk H
          clear H
          go_wp2
          try simp only [Act.put, List.setIfInBounds_toArray, List.set_cons_zero, List.set_cons_succ]
          go_loopg [3] kj15 (fun kq v3 w' => ∃ (x3_4 : Int), v3 = .int .i64 x3_4 ∧ Aside0 (taplinelaw11_idle.l2 kq a0 x3_4 = some r) ∧ Aside0 (kq ≤ kj15) ∧ Drawn0 w w')
          case atStart => exact ⟨(wrap64 (x3_1 + 2)), rsd, H', ⟨Nat.le_refl _⟩, by repeat (first | exact Drawn0.refl _ | apply Drawn0.step)⟩
          case round =>
           clear H'
           try clear c1
           try clear p1
           try clear q1
           try clear hx1
           try clear c2
           try clear c2b0
           try clear p2
           try clear q2
           try clear hx2
           try clear c4
           try clear c4b0
           try clear p5
           try clear q5
           try clear hx5
           try clear c6
           try clear c6b0
           try clear c6b1
           try clear p6
           try clear c7
           try clear c7b0
           try clear c9
           try clear c9b0
           try clear p10
           try clear q10
           try clear hx10
           try clear c11
           try clear c12
           try clear c12b0
           try clear c13
           try clear c13b0
           try clear p14
           try clear q14
           try clear hx14
           try clear c15
           try clear c15b0
           try clear c15b1
           try clear c17
           try clear c17b0
           try clear c18
           try clear c18b0
           try clear p19
           try clear q19
           try clear hx19
           try clear c20
           try clear c20b0
           try clear c20b1
           try clear c21
           try clear c21b0
           try clear c23
           try clear c23b0
           try clear p24
           try clear q24
           try clear hx24
           try clear c25
           try clear p1
           try clear p10
           try clear p14
           try clear p19
           try clear p2
           try clear p24
           try clear p5
           try clear p6
           try clear q1
           try clear q10
           try clear q14
           try clear q19
           try clear q2
           try clear q24
           try clear q5
           obtain ⟨x3_4, rfl, HA, HK4, ⟨m4, rfl⟩⟩ := hrel
           cases gk with
           | zero => exact absurd HA.out (by simp [taplinelaw11_idle.l2])
           | succ k4 =>
            have H := HA.out
            clear HA
            simp only [taplinelaw11_idle.l2] at H
            by_cases c26 : (wrap64 (x3_4 + 1)) < (a0.size : Int)
            ·rw [if_pos c26] at H
             have c26b0 : decide ((wrap64 (x3_4 + 1)) < (a0.size : Int)) = true := decide_eq_true c26
             clear c26
             by_cases c27 : 0 ≤ x3_4
             ·rw [if_pos c27] at H
              have c27b0 : decide (0 ≤ x3_4) = true := decide_eq_true c27
              clear c27
              by_cases c28 : x3_4 < (a0.size : Int)
              ·rw [if_pos c28] at H
               have c28b0 : decide (x3_4 < (a0.size : Int)) = true := decide_eq_true c28
               clear c28
               by_cases c30 : (bt a0 x3_4) = 42
               ·rw [if_pos c30] at H
                have c30b0 : ((bt a0 x3_4) == 42) = true := beq_iff_eq.mpr c30
                have c30b1 : ((bt a0 x3_4) != 42) = false := bne_eq_false_iff_eq.mpr c30
                clear c30
                obtain ⟨ji31, hji31⟩ : ∃ j_ : Int, (wrap64 (x3_4 + 1)) = j_ := ⟨_, rfl⟩
                replace H : (if 0 ≤ (ji31) then (if (bt a0 (ji31)) = 47 then (if (ji31) ≥ (a0.size : Int) then (some false) else (taplinelaw11_idle.l0 k4 a0 (wrap64 (x3_4 + 2)))) else (taplinelaw11_idle.l2 k4 a0 ji31)) else (none)) = some r := by first | (rw [hji31] at H; exact H) | (simp only [hji31] at H ⊢; exact H)
                (try rw [hji31] at c26b0)
                have hji31w : (IntKind.i64.wrap (x3_4 + 1)) = ji31 := (i64_w _).trans hji31
                by_cases c32 : 0 ≤ (ji31)
                ·rw [if_pos c32] at H
                 have c32b0 : decide (0 ≤ (ji31)) = true := decide_eq_true c32
                 clear c32
                 by_cases c34 : (bt a0 (ji31)) = 47
                 ·rw [if_pos c34] at H
                  have c34b0 : ((bt a0 (ji31)) == 47) = true := beq_iff_eq.mpr c34
                  have c34b1 : ((bt a0 (ji31)) != 47) = false := bne_eq_false_iff_eq.mpr c34
                  clear c34
                  by_cases c35 : (ji31) ≥ (a0.size : Int)
                  ·rw [if_pos c35] at H
                   have c35b0 : decide ((a0.size : Int) ≤ (ji31)) = true := decide_eq_true c35
                   clear c35
                   obtain rfl := Option.some.inj H
                   have p29 : 0 ≤ (x3_4 : Int) := of_decide_eq_true asm
                   have q29 : x3_4 < (a0.size : Int) := of_decide_eq_true asm
                   have hx29 := bt_at a0 x3_4
                   replace p29 := eq_true p29
                   replace q29 := eq_true q29
                   have p33 : 0 ≤ ((ji31) : Int) := of_decide_eq_true asm
                   have q33 : (ji31) < (a0.size : Int) := of_decide_eq_true asm
                   have hx33 := bt_at a0 (ji31)
                   replace p33 := eq_true p33
                   replace q33 := eq_true q33
                   go_wp2
                   go_ret
                   exact ⟨by first | rfl | (simp; done) | (simp only [← hji31] <;> (first | rfl | simp)) | (simp [*]; done), by repeat (first | exact Drawn0.refl _ | apply Drawn0.step)⟩
                  ·rw [if_neg c35] at H
                   have c35b0 : decide ((a0.size : Int) ≤ (ji31)) = false := decide_eq_false c35
                   clear c35
                   have H' := Aside0.mk H
                   clear H
                   have p29 : 0 ≤ (x3_4 : Int) := of_decide_eq_true asm
                   have q29 : x3_4 < (a0.size : Int) := of_decide_eq_true asm
                   have hx29 := bt_at a0 x3_4
                   replace p29 := eq_true p29
                   replace q29 := eq_true q29
                   have p33 : 0 ≤ ((ji31) : Int) := of_decide_eq_true asm
                   have q33 : (ji31) < (a0.size : Int) := of_decide_eq_true asm
                   have hx33 := bt_at a0 (ji31)
                   replace p33 := eq_true p33
                   replace q33 := eq_true q33
                   go_wp2
                   go_roundg k4
                   case measure => have := HK1.out; have := HJ2.out; have := HJ15.out; have := HK4.out; omega
                   case rel => exact ⟨(wrap64 (x3_4 + 2)), rsd, H', ⟨by have := HK1.out; have := HJ2.out; have := HJ15.out; have := HK4.out; omega⟩, by repeat (first | exact Drawn0.refl _ | apply Drawn0.step)⟩
                 ·rw [if_neg c34] at H
                  have c34b0 : ((bt a0 (ji31)) == 47) = false := beq_eq_false_iff_ne.mpr c34
                  have c34b1 : ((bt a0 (ji31)) != 47) = true := bne_iff_ne.mpr c34
                  have H' := Aside0.mk H
                  clear H
                  have p29 : 0 ≤ (x3_4 : Int) := of_decide_eq_true asm
                  have q29 : x3_4 < (a0.size : Int) := of_decide_eq_true asm
                  have hx29 := bt_at a0 x3_4
                  replace p29 := eq_true p29
                  replace q29 := eq_true q29
                  have p33 : 0 ≤ ((ji31) : Int) := of_decide_eq_true asm
                  have q33 : (ji31) < (a0.size : Int) := of_decide_eq_true asm
                  have hx33 := bt_at a0 (ji31)
                  replace p33 := eq_true p33
                  replace q33 := eq_true q33
                  go_wp2
                  go_roundg k4
                  case measure => have := HK1.out; have := HJ2.out; have := HJ15.out; have := HK4.out; omega
                  case rel => exact ⟨(ji31), (by first | rfl | (simp; done) | (simp only [← hji31] <;> (first | rfl | simp)) | (simp [*]; done)), H', ⟨by have := HK1.out; have := HJ2.out; have := HJ15.out; have := HK4.out; omega⟩, by repeat (first | exact Drawn0.refl _ | apply Drawn0.step)⟩
                ·rw [if_neg c32] at H
                 exact absurd H (by simp)
               ·rw [if_neg c30] at H
                have c30b0 : ((bt a0 x3_4) == 42) = false := beq_eq_false_iff_ne.mpr c30
                have c30b1 : ((bt a0 x3_4) != 42) = true := bne_iff_ne.mpr c30
                have H' := Aside0.mk H
                clear H
                have p29 : 0 ≤ (x3_4 : Int) := of_decide_eq_true asm
                have q29 : x3_4 < (a0.size : Int) := of_decide_eq_true asm
                have hx29 := bt_at a0 x3_4
                replace p29 := eq_true p29
                replace q29 := eq_true q29
                go_wp2
                go_roundg k4
                case measure => have := HK1.out; have := HJ2.out; have := HJ15.out; have := HK4.out; omega
                case rel => exact ⟨(wrap64 (x3_4 + 1)), rsd, H', ⟨by have := HK1.out; have := HJ2.out; have := HJ15.out; have := HK4.out; omega⟩, by repeat (first | exact Drawn0.refl _ | apply Drawn0.step)⟩
              ·rw [if_neg c28] at H
               exact absurd H (by simp)
             ·rw [if_neg c27] at H
              exact absurd H (by simp)
            ·rw [if_neg c26] at H
             have c26b0 : decide ((wrap64 (x3_4 + 1)) < (a0.size : Int)) = false := decide_eq_false c26
             clear c26
             by_cases c36 : (wrap64 (x3_4 + 1)) ≥ (a0.size : Int)
             ·rw [if_pos c36] at H
              have c36b0 : decide ((a0.size : Int) ≤ (wrap64 (x3_4 + 1))) = true := decide_eq_true c36
              clear c36
              obtain rfl := Option.some.inj H
              go_wp2
              go_ret
              exact ⟨by first | rfl | (simp; done) | (simp [*]; done), by repeat (first | exact Drawn0.refl _ | apply Drawn0.step)⟩
             ·rw [if_neg c36] at H
              have c36b0 : decide ((a0.size : Int) ≤ (wrap64 (x3_4 + 1))) = false := decide_eq_false c36
              clear c36
              have H' := Aside0.mk H
              clear H
              go_wp2
              go_roundg k4
              case measure => have := HK1.out; have := HJ2.out; have := HJ15.out; have := HK4.out; omega
              case rel => exact ⟨(wrap64 (x3_4 + 2)), rsd, H', ⟨by have := HK1.out; have := HJ2.out; have := HJ15.out; have := HK4.out; omega⟩, by repeat (first | exact Drawn0.refl _ | apply Drawn0.step)⟩
         ·replace c25 := Bool.eq_false_iff.mpr c25
          subst c25
          have H1 : (if 0 ≤ x3_1 then (if x3_1 < (a0.size : Int) then (if (bt a0 x3_1) = 32 then (taplinelaw11_idle.l0 kj15 a0 (wrap64 (x3_1 + 1))) else (if (bt a0 x3_1) = 9 then (taplinelaw11_idle.l0 kj15 a0 (wrap64 (x3_1 + 1))) else (if (bt a0 x3_1) = 13 then (taplinelaw11_idle.l0 kj15 a0 (wrap64 (x3_1 + 1))) else (if (bt a0 x3_1) = 10 then (taplinelaw11_idle.l0 kj15 a0 (wrap64 (x3_1 + 1))) else (some false))))) else (none)) else (none)) = some r := by rw [if_neg (show ¬ (false = true) by decide)] at H; exact H
          clear H
          have H := H1
          clear H1
          by_cases c37 : 0 ≤ x3_1
          ·rw [if_pos c37] at H
           have c37b0 : decide (0 ≤ x3_1) = true := decide_eq_true c37
           clear c37
           by_cases c38 : x3_1 < (a0.size : Int)
           ·rw [if_pos c38] at H
            have c38b0 : decide (x3_1 < (a0.size : Int)) = true := decide_eq_true c38
            clear c38
            by_cases c40 : (bt a0 x3_1) = 32
            ·rw [if_pos c40] at H
             have c40b0 : ((bt a0 x3_1) == 32) = true := beq_iff_eq.mpr c40
             have c40b1 : ((bt a0 x3_1) != 32) = false := bne_eq_false_iff_eq.mpr c40
             clear c40
             have H' := Aside0.mk H
             clear H
             have p39 : 0 ≤ (x3_1 : Int) := of_decide_eq_true asm
             have q39 : x3_1 < (a0.size : Int) := of_decide_eq_true asm
             have hx39 := bt_at a0 x3_1
             replace p39 := eq_true p39
             replace q39 := eq_true q39
             go_wp2
             go_roundg kj15
             case measure => have := HK1.out; have := HJ2.out; have := HJ15.out; omega
             case rel => exact ⟨(wrap64 (x3_1 + 1)), rsd, H', ⟨by have := HK1.out; have := HJ2.out; have := HJ15.out; omega⟩, by repeat (first | exact Drawn0.refl _ | apply Drawn0.step)⟩
            ·rw [if_neg c40] at H
             have c40b0 : ((bt a0 x3_1) == 32) = false := beq_eq_false_iff_ne.mpr c40
             have c40b1 : ((bt a0 x3_1) != 32) = true := bne_iff_ne.mpr c40
             by_cases c42 : (bt a0 x3_1) = 9
             ·rw [if_pos c42] at H
              have c42b0 : ((bt a0 x3_1) == 9) = true := beq_iff_eq.mpr c42
              have c42b1 : ((bt a0 x3_1) != 9) = false := bne_eq_false_iff_eq.mpr c42
              clear c42
              have H' := Aside0.mk H
              clear H
              have p39 : 0 ≤ (x3_1 : Int) := of_decide_eq_true asm
              have q39 : x3_1 < (a0.size : Int) := of_decide_eq_true asm
              have hx39 := bt_at a0 x3_1
              replace p39 := eq_true p39
              replace q39 := eq_true q39
              have p41 : 0 ≤ (x3_1 : Int) := of_decide_eq_true asm
              have q41 : x3_1 < (a0.size : Int) := of_decide_eq_true asm
              have hx41 := bt_at a0 x3_1
              replace p41 := eq_true p41
              replace q41 := eq_true q41
              go_wp2
              go_roundg kj15
              case measure => have := HK1.out; have := HJ2.out; have := HJ15.out; omega
              case rel => exact ⟨(wrap64 (x3_1 + 1)), rsd, H', ⟨by have := HK1.out; have := HJ2.out; have := HJ15.out; omega⟩, by repeat (first | exact Drawn0.refl _ | apply Drawn0.step)⟩
             ·rw [if_neg c42] at H
              have c42b0 : ((bt a0 x3_1) == 9) = false := beq_eq_false_iff_ne.mpr c42
              have c42b1 : ((bt a0 x3_1) != 9) = true := bne_iff_ne.mpr c42
              by_cases c44 : (bt a0 x3_1) = 13
              ·rw [if_pos c44] at H
               have c44b0 : ((bt a0 x3_1) == 13) = true := beq_iff_eq.mpr c44
               have c44b1 : ((bt a0 x3_1) != 13) = false := bne_eq_false_iff_eq.mpr c44
               clear c44
               have H' := Aside0.mk H
               clear H
               have p39 : 0 ≤ (x3_1 : Int) := of_decide_eq_true asm
               have q39 : x3_1 < (a0.size : Int) := of_decide_eq_true asm
               have hx39 := bt_at a0 x3_1
               replace p39 := eq_true p39
               replace q39 := eq_true q39
               have p41 : 0 ≤ (x3_1 : Int) := of_decide_eq_true asm
               have q41 : x3_1 < (a0.size : Int) := of_decide_eq_true asm
               have hx41 := bt_at a0 x3_1
               replace p41 := eq_true p41
               replace q41 := eq_true q41
               have p43 : 0 ≤ (x3_1 : Int) := of_decide_eq_true asm
               have q43 : x3_1 < (a0.size : Int) := of_decide_eq_true asm
               have hx43 := bt_at a0 x3_1
               replace p43 := eq_true p43
               replace q43 := eq_true q43
               go_wp2
               go_roundg kj15
               case measure => have := HK1.out; have := HJ2.out; have := HJ15.out; omega
               case rel => exact ⟨(wrap64 (x3_1 + 1)), rsd, H', ⟨by have := HK1.out; have := HJ2.out; have := HJ15.out; omega⟩, by repeat (first | exact Drawn0.refl _ | apply Drawn0.step)⟩
              ·rw [if_neg c44] at H
               have c44b0 : ((bt a0 x3_1) == 13) = false := beq_eq_false_iff_ne.mpr c44
               have c44b1 : ((bt a0 x3_1) != 13) = true := bne_iff_ne.mpr c44
               by_cases c46 : (bt a0 x3_1) = 10
               ·rw [if_pos c46] at H
                have c46b0 : ((bt a0 x3_1) == 10) = true := beq_iff_eq.mpr c46
                have c46b1 : ((bt a0 x3_1) != 10) = false := bne_eq_false_iff_eq.mpr c46
                clear c46
                have H' := Aside0.mk H
                clear H
                have p39 : 0 ≤ (x3_1 : Int) := of_decide_eq_true asm
                have q39 : x3_1 < (a0.size : Int) := of_decide_eq_true asm
                have hx39 := bt_at a0 x3_1
                replace p39 := eq_true p39
                replace q39 := eq_true q39
                have p41 : 0 ≤ (x3_1 : Int) := of_decide_eq_true asm
                have q41 : x3_1 < (a0.size : Int) := of_decide_eq_true asm
                have hx41 := bt_at a0 x3_1
                replace p41 := eq_true p41
                replace q41 := eq_true q41
                have p43 : 0 ≤ (x3_1 : Int) := of_decide_eq_true asm
                have q43 : x3_1 < (a0.size : Int) := of_decide_eq_true asm
                have hx43 := bt_at a0 x3_1
                replace p43 := eq_true p43
                replace q43 := eq_true q43
                have p45 : 0 ≤ (x3_1 : Int) := of_decide_eq_true asm
                have q45 : x3_1 < (a0.size : Int) := of_decide_eq_true asm
                have hx45 := bt_at a0 x3_1
                replace p45 := eq_true p45
                replace q45 := eq_true q45
                go_wp2
                go_roundg kj15
                case measure => have := HK1.out; have := HJ2.out; have := HJ15.out; omega
                case rel => exact ⟨(wrap64 (x3_1 + 1)), rsd, H', ⟨by have := HK1.out; have := HJ2.out; have := HJ15.out; omega⟩, by repeat (first | exact Drawn0.refl _ | apply Drawn0.step)⟩
               ·rw [if_neg c46] at H
                have c46b0 : ((bt a0 x3_1) == 10) = false := beq_eq_false_iff_ne.mpr c46
                have c46b1 : ((bt a0 x3_1) != 10) = true := bne_iff_ne.mpr c46
                obtain rfl := Option.some.inj H
                have p39 : 0 ≤ (x3_1 : Int) := of_decide_eq_true asm
                have q39 : x3_1 < (a0.size : Int) := of_decide_eq_true asm
                have hx39 := bt_at a0 x3_1
                replace p39 := eq_true p39
                replace q39 := eq_true q39
                have p41 : 0 ≤ (x3_1 : Int) := of_decide_eq_true asm
                have q41 : x3_1 < (a0.size : Int) := of_decide_eq_true asm
                have hx41 := bt_at a0 x3_1
                replace p41 := eq_true p41
                replace q41 := eq_true q41
                have p43 : 0 ≤ (x3_1 : Int) := of_decide_eq_true asm
                have q43 : x3_1 < (a0.size : Int) := of_decide_eq_true asm
                have hx43 := bt_at a0 x3_1
                replace p43 := eq_true p43
                replace q43 := eq_true q43
                have p45 : 0 ≤ (x3_1 : Int) := of_decide_eq_true asm
                have q45 : x3_1 < (a0.size : Int) := of_decide_eq_true asm
                have hx45 := bt_at a0 x3_1
                replace p45 := eq_true p45
                replace q45 := eq_true q45
                go_wp2
                go_ret
                exact ⟨by first | rfl | (simp; done) | (simp [*]; done), by repeat (first | exact Drawn0.refl _ | apply Drawn0.step)⟩
           ·rw [if_neg c38] at H
            exact absurd H (by simp)
          ·rw [if_neg c37] at H
           exact absurd H (by simp)
   ·rw [if_neg c2] at H
    have c2b0 : decide (x3_1 < (a0.size : Int)) = false := decide_eq_false c2
    clear c2
    obtain rfl := Option.some.inj H
    go_wp2
    go_ret
    exact ⟨by first | rfl | (simp; done) | (simp [*]; done), by repeat (first | exact Drawn0.refl _ | apply Drawn0.step)⟩
end Go.Proofs.YtadgddipkbdnbaaGreatDoor.Q
