/- For every unsigned integer of 64 bits, its decimal, octal and hexadecimal digits are read as the same value, without a suffix only below 2 to the 63; the inputs read as they did; the package-level variables hold what the program's text lays in them: the tied card. -/
import Derived.Test.YtadgddipkbdnbaaGreatDoorLexP1
import Derived.Test.YtadgddipkbdnbaaGreatDoorLexP2
import Derived.Test.YtadgddipkbdnbaaGreatDoorLexP3
import Derived.Test.YtadgddipkbdnbaaGreatDoorLexP4
import Derived.Test.YtadgddipkbdnbaaGreatDoorLexP7
import Derived.Test.YtadgddipkbdnbaaGreatDoorLexP8
import Derived.Test.YtadgddipkbdnbaaGreatDoorLexP11
import Derived.Test.YtadgddipkbdnbaaGreatDoorLexP14
import Derived.Test.YtadgddipkbdnbaaGreatDoorLexP15
import Derived.Test.YtadgddipkbdnbaaGreatDoorLexBasesZ1
import Derived.IntWalk
import Derived.Test.YtadgddipkbdnbaaGreatDoorTie
import Derived.Test.YtadgddipkbdnbaaGreatDoorCards
import Derived.WalkKit
import Derived.ProofKit
import Derived.OpenShut
import Derived.ShutString
import Derived.ChangeOld
import Derived.Below
import Derived.SizedLaws
import Derived.SevenTiedAt
namespace Go.Proofs.YtadgddipkbdnbaaGreatDoor.Q
open Go.Proofs.YtadgddipkbdnbaaGreatDoor Go.RowKit Go.Proofs.YtadgddipkbdnbaaGreatDoorW.PrintWords Go.Proofs.YtadgddipkbdnbaaGreatDoorW.PrintLast Go.Proofs.YtadgddipkbdnbaaGreatDoorW.PrintMore
attribute [local go_sem] max2_int min2_int max_two min_two max_three min_three max_four min_four   
set_option linter.unusedVariables false
set_option linter.unusedSimpArgs false
def taplinelaw11_LexBases.l0 : Nat → Int → Bool → List ByteArray → Int → Option (Bool)
 | 0, _, _, _, _ => none
 | k + 1, x0, x3, x4, x5 => if x5 < (x4.length : Int) then (if 0 ≤ x5 then (if (rdOf ByteArray.empty x4 x5).size + 1 ≤ 9223372036854775807 then ((lex_Number.f ((rdOf ByteArray.empty x4 x5) ++ (⟨#[117]⟩ : ByteArray))).bind fun bt369 => ((lex_Number.f (rdOf ByteArray.empty x4 x5)).bind fun bt373 => (if bt369.2.2 = 0 then (if bt369.2.1 = true then (if bt369.1 = (wrap64 (x0)) then (if ((bt373.2.2 == 0) != (decide (x0 < 9223372036854775808))) = true then (some false) else (if bt373.2.2 = 0 then (if bt373.1 = bt369.1 then (if bt373.2.1 = true then (some false) else (taplinelaw11_LexBases.l0 k x0 x3 x4 (wrap64 (x5 + 1)))) else (some false)) else (taplinelaw11_LexBases.l0 k x0 x3 x4 (wrap64 (x5 + 1))))) else (some false)) else (some false)) else (some false)))) else (none)) else (none)) else (some x3)
def taplinelaw11_LexBases.f (k : Nat) (a0 : Int) : Option (Bool) := (sane_t.f).bind fun t361 => ((taplinelaw11_digits.f k a0 10).bind fun t362 => ((taplinelaw11_digits.f k a0 8).bind fun t363 => (if 1 + t363.size ≤ 9223372036854775807 then ((taplinelaw11_digits.f k a0 16).bind fun t364 => (if 2 + t364.size ≤ 9223372036854775807 then (taplinelaw11_LexBases.l0 k a0 t361 (([t362, (⟨#[48]⟩ : ByteArray) ++ t363, (⟨#[48, 120]⟩ : ByteArray) ++ t364] : List ByteArray)) 0) else (none))) else (none))))
theorem taplinelaw11_LexBases.mono_l : ∀ k, (∀ y0 y1 y2 y3, LeO (taplinelaw11_LexBases.l0 k y0 y1 y2 y3) (taplinelaw11_LexBases.l0 (k + 1) y0 y1 y2 y3))
 | 0 => fun _ _ _ _ r h => by simp [taplinelaw11_LexBases.l0] at h
 | k + 1 => by
  have ih0 := taplinelaw11_LexBases.mono_l k
  ·intro y0 y1 y2 y3
   unfold taplinelaw11_LexBases.l0
   repeat' first
   | (with_reducible exact ih0 _ _ _ _)
   | (with_reducible exact taplinelaw11_digits.mono _ _ _)
   | (with_reducible exact LeO.refl _)
   | (with_reducible exact LeO.none _)
   | (with_reducible refine LeO.ite ?_ ?_)
   | (with_reducible refine LeO.bind ?_ (fun _ => ?_))
   | exact LeO.none _
   | refine LeO.ite ?_ ?_
   | refine LeO.bind ?_ (fun _ => ?_)
theorem taplinelaw11_LexBases.mono : ∀ a0 k, LeO (taplinelaw11_LexBases.f k a0) (taplinelaw11_LexBases.f (k + 1) a0) := by
 intro a0 k
 have ih0 := taplinelaw11_LexBases.mono_l k
 unfold taplinelaw11_LexBases.f
 repeat' first
   | (with_reducible exact ih0 _ _ _ _)
   | (with_reducible exact taplinelaw11_digits.mono _ _ _)
   | (with_reducible exact LeO.refl _)
   | (with_reducible exact LeO.none _)
   | (with_reducible refine LeO.ite ?_ ?_)
   | (with_reducible refine LeO.bind ?_ (fun _ => ?_))
   | exact LeO.none _
   | refine LeO.ite ?_ ?_
   | refine LeO.bind ?_ (fun _ => ?_)
set_option maxHeartbeats 8000000 in
set_option maxRecDepth 100000 in
theorem taplinelaw11_LexBases.calls (k : Nat) (a0 : Int) (r : Bool) (w : World) (h : taplinelaw11_LexBases.f k a0 = some r) (hgw : GW w) :
  Calls Tryz.prog 11 #[.int .u64 a0] w fun e w' => e = .returned (.bool r) ∧ Below w.heap.size w w' := by
 have HB := Aside0.mk (Below.refl w.heap.size w)
 have H : ((sane_t.f).bind fun t361 => ((taplinelaw11_digits.f k a0 10).bind fun t362 => ((taplinelaw11_digits.f k a0 8).bind fun t363 => (if 1 + t363.size ≤ 9223372036854775807 then ((taplinelaw11_digits.f k a0 16).bind fun t364 => (if 2 + t364.size ≤ 9223372036854775807 then (taplinelaw11_LexBases.l0 k a0 t361 (([t362, (⟨#[48]⟩ : ByteArray) ++ t363, (⟨#[48, 120]⟩ : ByteArray) ++ t364] : List ByteArray)) 0) else (none))) else (none))))) = some r := h
 clear h
 replace H := Option.bind_eq_some_iff.mp H
 obtain ⟨t361, A20, H⟩ := H
 replace H : ((taplinelaw11_digits.f k a0 10).bind fun t362 => ((taplinelaw11_digits.f k a0 8).bind fun t363 => (if 1 + t363.size ≤ 9223372036854775807 then ((taplinelaw11_digits.f k a0 16).bind fun t364 => (if 2 + t364.size ≤ 9223372036854775807 then (taplinelaw11_LexBases.l0 k a0 t361 (([t362, (⟨#[48]⟩ : ByteArray) ++ t363, (⟨#[48, 120]⟩ : ByteArray) ++ t364] : List ByteArray)) 0) else (none))) else (none)))) = some r := H
 have A2 := Aside0.mk A20
 clear A20
 replace H := Option.bind_eq_some_iff.mp H
 obtain ⟨t362, A30, H⟩ := H
 replace H : ((taplinelaw11_digits.f k a0 8).bind fun t363 => (if 1 + t363.size ≤ 9223372036854775807 then ((taplinelaw11_digits.f k a0 16).bind fun t364 => (if 2 + t364.size ≤ 9223372036854775807 then (taplinelaw11_LexBases.l0 k a0 t361 (([t362, (⟨#[48]⟩ : ByteArray) ++ t363, (⟨#[48, 120]⟩ : ByteArray) ++ t364] : List ByteArray)) 0) else (none))) else (none))) = some r := H
 have A3 := Aside0.mk A30
 clear A30
 replace H := Option.bind_eq_some_iff.mp H
 obtain ⟨t363, A40, H⟩ := H
 replace H : (if 1 + t363.size ≤ 9223372036854775807 then ((taplinelaw11_digits.f k a0 16).bind fun t364 => (if 2 + t364.size ≤ 9223372036854775807 then (taplinelaw11_LexBases.l0 k a0 t361 (([t362, (⟨#[48]⟩ : ByteArray) ++ t363, (⟨#[48, 120]⟩ : ByteArray) ++ t364] : List ByteArray)) 0) else (none))) else (none)) = some r := H
 have A4 := Aside0.mk A40
 clear A40
 by_cases c5 : 1 + t363.size ≤ 9223372036854775807
 ·rw [if_pos c5] at H
  have c5b0 := eq_true c5
  have c5b1 : decide (1 + t363.size ≤ 9223372036854775807) = true := decide_eq_true c5
  try have c5b2 : (9223372036854775807 < 1 + t363.size) = False := eq_false (Nat.not_lt.2 c5)
  replace H := Option.bind_eq_some_iff.mp H
  obtain ⟨t364, A60, H⟩ := H
  replace H : (if 2 + t364.size ≤ 9223372036854775807 then (taplinelaw11_LexBases.l0 k a0 t361 (([t362, (⟨#[48]⟩ : ByteArray) ++ t363, (⟨#[48, 120]⟩ : ByteArray) ++ t364] : List ByteArray)) 0) else (none)) = some r := H
  have A6 := Aside0.mk A60
  clear A60
  by_cases c7 : 2 + t364.size ≤ 9223372036854775807
  ·rw [if_pos c7] at H
   have c7b0 := eq_true c7
   have c7b1 : decide (2 + t364.size ≤ 9223372036854775807) = true := decide_eq_true c7
   try have c7b2 : (9223372036854775807 < 2 + t364.size) = False := eq_false (Nat.not_lt.2 c7)
   obtain ⟨y365, hy365⟩ : ∃ y_ : List ByteArray, y_ = (([t362, (⟨#[48]⟩ : ByteArray) ++ t363, (⟨#[48, 120]⟩ : ByteArray) ++ t364] : List ByteArray)) := ⟨_, rfl⟩
   replace H : (taplinelaw11_LexBases.l0 k a0 t361 y365 0) = some r := by first | (rw [hy365]; with_reducible exact H) | (have H2_ := (Option.bind_some _ _).symm.trans H; rw [hy365]; with_reducible exact H2_) | (have H2_ := (Option.bind_some _ _).symm.trans H; with_reducible exact H2_) | with_reducible exact H | (rw [hy365]; exact H) | exact H
   have Ny365 := Aside0.mk hy365
   clear hy365
   have H' := Aside0.mk H
   clear H
   go_enter Tryz.func11, Tryz.ntmps11
   go_wp2_with (first | ((with_reducible refine gate_callee (f := 16) rfl ?_); refine goesL_ (some 12) rfl rfl Tryz.func16 (by kernel_rfl) rfl #[] rfl fq ?_; (with_reducible refine (sane_t.calls  t361 _ A2.out gwx).mono ?_); rintro e w8 ⟨rfl, hb⟩; refine ⟨_, rfl, ?_⟩; have n0_ := Aside0.mk (below_step blw hb); clear HB; have HB := n0_; clear n0_; (try clear hb); (try clear hb2); (try clear hk); (try clear hi)) | ((with_reducible refine gate_callee (f := 30) rfl ?_); refine goesL_ (some 14) rfl rfl Tryz.func30 (by kernel_rfl) rfl #[.int .u64 a0, .int .u64 10] rfl fq ?_; (with_reducible refine (taplinelaw11_digits.calls k a0 10 t362 _ A3.out).mono ?_); rintro e w' ⟨rfl, ⟨nd, rfl⟩⟩; refine ⟨_, rfl, ?_⟩) | ((with_reducible refine gate_callee (f := 30) rfl ?_); refine goesL_ (some 16) rfl rfl Tryz.func30 (by kernel_rfl) rfl #[.int .u64 a0, .int .u64 8] rfl fq ?_; (with_reducible refine (taplinelaw11_digits.calls k a0 8 t363 _ A4.out).mono ?_); rintro e w' ⟨rfl, ⟨nd, rfl⟩⟩; refine ⟨_, rfl, ?_⟩) | ((with_reducible refine gate_callee (f := 30) rfl ?_); refine goesL_ (some 19) rfl rfl Tryz.func30 (by kernel_rfl) rfl #[.int .u64 a0, .int .u64 16] rfl fq ?_; (with_reducible refine (taplinelaw11_digits.calls k a0 16 t364 _ A6.out).mono ?_); rintro e w' ⟨rfl, ⟨nd, rfl⟩⟩; refine ⟨_, rfl, ?_⟩) | ((with_reducible refine gate_dst (N := 21) rfl ?_); refine Kd.R_lit Kd.string _ 9 ?hg (N := 21) ?hd (xs := ([t362, (⟨#[48]⟩ : ByteArray) ++ t363, (⟨#[48, 120]⟩ : ByteArray) ++ t364] : List ByteArray)) (inner := [.string t362, .string ((⟨#[48]⟩ : ByteArray) ++ t363), .string ((⟨#[48, 120]⟩ : ByteArray) ++ t364)]) (ok := fun _ => True) (okp := fun _ => True) ?hr ?hp (fun _ hk => hk) trivial (Below.refl _ _) (Nat.le_refl _) (by simp) ?_; (case hd => rfl); (case hg => rfl); (case hr => first | (go_simp; done) | (go_simp; rfl)); (case hp => exact (Reps.one (show Kd.M Kd.string _ _ _ t362 [.string t362] from rfl) (Reps.one (show Kd.M Kd.string _ _ _ ((⟨#[48]⟩ : ByteArray) ++ t363) [.string ((⟨#[48]⟩ : ByteArray) ++ t363)] from rfl) (Reps.one (show Kd.M Kd.string _ _ _ ((⟨#[48, 120]⟩ : ByteArray) ++ t364) [.string ((⟨#[48, 120]⟩ : ByteArray) ++ t364)] from rfl) (Reps.none _ _))))); intro v366 w9 ho10 hb hg_ hnew_; clear hg_ hnew_; (first | rw [← Ny365.out] at ho10 | (simp only [Int.reduceToNat] at ho10; rw [← Ny365.out] at ho10)); have n0_ := Aside0.mk (Kd.R_lower ho10 (below_size blw)); have n1_ := Aside0.mk (below_step blw hb); clear HB; have HO367 := n0_; have HB := n1_; clear n0_ n1_; clear hb ho10))
   try simp only [Act.put, List.setIfInBounds_toArray, List.set_cons_zero, List.set_cons_succ]
   go_loopg [5] k (fun kq v5 w' => ∃ (x5_1 : Int), v5 = .int .i64 x5_1 ∧ Aside0 (taplinelaw11_LexBases.l0 kq a0 t361 y365 x5_1 = some r) ∧ Aside0 (kq ≤ k) ∧ Aside0 (Kd.R Kd.string 9 w' w.heap.size (fun _ => True) v366 y365) ∧ Aside0 (Below w.heap.size w w'))
   case atStart => exact ⟨(0), rsd, H', ⟨Nat.le_refl _⟩, ⟨by (with_reducible repeat (first | apply Kd.R_alloc | apply Kd.R_drewN | apply Kd.R_drew)); exact HO367.out⟩, ⟨blw⟩⟩
   case round =>
    clear H'
    try clear c1
    try clear p2
    try clear c3
    try clear c5
    try clear c5b0
    try clear c5b1
    try clear c5b2
    try clear c7
    try clear c7b0
    try clear c7b1
    try clear c7b2
    obtain ⟨x5_1, rfl, HA, HK1, HO_4, HB⟩ := hrel
    cases gk with
    | zero => exact absurd HA.out (by simp [taplinelaw11_LexBases.l0])
    | succ k1 =>
     have H := HA.out
     clear HA
     simp only [taplinelaw11_LexBases.l0] at H
     by_cases c11 : x5_1 < (y365.length : Int)
     ·rw [if_pos c11] at H
      have c11b0 : decide (x5_1 < (y365.length : Int)) = true := decide_eq_true c11
      clear c11
      by_cases c12 : 0 ≤ x5_1
      ·rw [if_pos c12] at H
       have c12b0 : decide (0 ≤ x5_1) = true := decide_eq_true c12
       clear c12
       by_cases c13 : (rdOf ByteArray.empty y365 x5_1).size + 1 ≤ 9223372036854775807
       ·rw [if_pos c13] at H
        have c13b0 := eq_true c13
        have c13b1 : decide ((rdOf ByteArray.empty y365 x5_1).size + 1 ≤ 9223372036854775807) = true := decide_eq_true c13
        try have c13b2 : (9223372036854775807 < (rdOf ByteArray.empty y365 x5_1).size + 1) = False := eq_false (Nat.not_lt.2 c13)
        replace H := Option.bind_eq_some_iff.mp H
        obtain ⟨⟨t369, t370, t371⟩, A140, H⟩ := H
        replace H : ((lex_Number.f (rdOf ByteArray.empty y365 x5_1)).bind fun bt373 => (if t371 = 0 then (if t370 = true then (if t369 = (wrap64 (a0)) then (if ((bt373.2.2 == 0) != (decide (a0 < 9223372036854775808))) = true then (some false) else (if bt373.2.2 = 0 then (if bt373.1 = t369 then (if bt373.2.1 = true then (some false) else (taplinelaw11_LexBases.l0 k1 a0 t361 y365 (wrap64 (x5_1 + 1)))) else (some false)) else (taplinelaw11_LexBases.l0 k1 a0 t361 y365 (wrap64 (x5_1 + 1))))) else (some false)) else (some false)) else (some false))) = some r := H
        have A14 := Aside0.mk A140
        clear A140
        replace H := Option.bind_eq_some_iff.mp H
        obtain ⟨⟨t373, t374, t375⟩, A150, H⟩ := H
        replace H : (if t371 = 0 then (if t370 = true then (if t369 = (wrap64 (a0)) then (if ((t375 == 0) != (decide (a0 < 9223372036854775808))) = true then (some false) else (if t375 = 0 then (if t373 = t369 then (if t374 = true then (some false) else (taplinelaw11_LexBases.l0 k1 a0 t361 y365 (wrap64 (x5_1 + 1)))) else (some false)) else (taplinelaw11_LexBases.l0 k1 a0 t361 y365 (wrap64 (x5_1 + 1))))) else (some false)) else (some false)) else (some false)) = some r := H
        have A15 := Aside0.mk A150
        clear A150
        by_cases c16 : t371 = 0
        ·rw [if_pos c16] at H
         have c16b0 : (t371 == 0) = true := beq_iff_eq.mpr c16
         have c16b1 : (t371 != 0) = false := bne_eq_false_iff_eq.mpr c16
         clear c16
         by_cases c17 : t370 = true
         ·subst c17
          have H1 : (if t369 = (wrap64 (a0)) then (if ((t375 == 0) != (decide (a0 < 9223372036854775808))) = true then (some false) else (if t375 = 0 then (if t373 = t369 then (if t374 = true then (some false) else (taplinelaw11_LexBases.l0 k1 a0 t361 y365 (wrap64 (x5_1 + 1)))) else (some false)) else (taplinelaw11_LexBases.l0 k1 a0 t361 y365 (wrap64 (x5_1 + 1))))) else (some false)) = some r := by rw [if_pos rfl] at H; exact H
          clear H
          have H := H1
          clear H1
          by_cases c18 : t369 = (wrap64 (a0))
          ·rw [if_pos c18] at H
           have c18b0 : (t369 == (wrap64 (a0))) = true := beq_iff_eq.mpr c18
           have c18b1 : (t369 != (wrap64 (a0))) = false := bne_eq_false_iff_eq.mpr c18
           clear c18
           by_cases c19 : ((t375 == 0) != (decide (a0 < 9223372036854775808))) = true
           ·rw [if_pos c19] at H
            have c19b0 : ((t375 == 0) != (decide (a0 < 9223372036854775808))) = true := c19
            (try (have c19b1 : decide ((t375 == 0) = (decide (a0 < 9223372036854775808))) = false := by simpa using c19))
            (try (have c19b2 : ((t375 == 0) == (decide (a0 < 9223372036854775808))) = false := by simpa using c19))
            (try (have c19b3 : ¬ ((t375 == 0) = (decide (a0 < 9223372036854775808))) := by simpa using c19))
            clear c19
            obtain rfl := Option.some.inj H
            obtain ⟨Ao20, co20, eo20⟩ := Kd.R_slice HO_4.out
            subst eo20
            have p368 : 0 ≤ (x5_1 : Int) := of_decide_eq_true asm
            have q368 : x5_1 < (y365.length : Int) := of_decide_eq_true asm
            obtain ⟨ad368, e368, hx368_0⟩ := Kd.at_string (Kd.R_reads' HO_4.out).2.2 x5_1 p368 q368
            cases e368
            replace p368 := eq_true p368
            replace q368 := eq_true q368
            go_wp2_with (first | ((with_reducible refine gate_callee (f := 20) rfl ?_); refine goesL_ (some 34) rfl rfl Tryz.func20 (by kernel_rfl) rfl #[.string ((rdOf ByteArray.empty y365 x5_1) ++ (⟨#[117]⟩ : ByteArray))] rfl fq ?_; (with_reducible refine (lex_Number.calls ((rdOf ByteArray.empty y365 x5_1) ++ (⟨#[117]⟩ : ByteArray)) t369 true t371 _ A14.out gwx).mono ?_); rintro e w21 ⟨rfl, hb⟩; refine ⟨_, rfl, ?_⟩; have n0_ := Aside0.mk (Kd.R_below (by (with_reducible repeat (first | apply Kd.R_alloc | apply Kd.R_drewN | apply Kd.R_drew)); exact HO_4.out) hb); have n1_ := Aside0.mk (below_step blw hb); clear HO_4; clear HB; have HO_4 := n0_; have HB := n1_; clear n0_ n1_; (try clear hb); (try clear hb2); (try clear hk); (try clear hi); have p372 : 0 ≤ (x5_1 : Int) := of_decide_eq_true asm; have q372 : x5_1 < (y365.length : Int) := of_decide_eq_true asm; obtain ⟨ad372, e372, hx372_0⟩ := Kd.at_string (Kd.R_reads' HO_4.out).2.2 x5_1 p372 q372; obtain rfl : ad368 = ad372 := (by injection e372); replace p372 := eq_true p372; replace q372 := eq_true q372) | ((with_reducible refine gate_callee (f := 20) rfl ?_); refine goesL_ (some 43) rfl rfl Tryz.func20 (by kernel_rfl) rfl #[.string (rdOf ByteArray.empty y365 x5_1)] rfl fq ?_; (with_reducible refine (lex_Number.calls (rdOf ByteArray.empty y365 x5_1) t373 t374 t375 _ A15.out gwx).mono ?_); rintro e w22 ⟨rfl, hb⟩; refine ⟨_, rfl, ?_⟩; have n0_ := Aside0.mk (Kd.R_below (by (with_reducible repeat (first | apply Kd.R_alloc | apply Kd.R_drewN | apply Kd.R_drew)); exact HO_4.out) hb); have n1_ := Aside0.mk (below_step blw hb); clear HO_4; clear HB; have HO_4 := n0_; have HB := n1_; clear n0_ n1_; (try clear hb); (try clear hb2); (try clear hk); (try clear hi)))
            go_ret
            exact ⟨rew, blw⟩
           ·rw [if_neg c19] at H
            have c19b0 : ((t375 == 0) != (decide (a0 < 9223372036854775808))) = false := by simpa using c19
            (try (have c19b1 : decide ((t375 == 0) = (decide (a0 < 9223372036854775808))) = true := by simpa using c19))
            (try (have c19b2 : ((t375 == 0) == (decide (a0 < 9223372036854775808))) = true := by simpa using c19))
            clear c19
            by_cases c23 : t375 = 0
            ·rw [if_pos c23] at H
             have c23b0 : (t375 == 0) = true := beq_iff_eq.mpr c23
             have c23b1 : (t375 != 0) = false := bne_eq_false_iff_eq.mpr c23
             clear c23
             by_cases c24 : t373 = t369
             ·rw [if_pos c24] at H
              have c24b0 : (t373 == t369) = true := beq_iff_eq.mpr c24
              have c24b1 : (t373 != t369) = false := bne_eq_false_iff_eq.mpr c24
              clear c24
              by_cases c25 : t374 = true
              ·subst c25
               have H1 : (some false) = some r := by rw [if_pos rfl] at H; exact H
               clear H
               have H := H1
               clear H1
               obtain rfl := Option.some.inj H
               obtain ⟨Ao26, co26, eo26⟩ := Kd.R_slice HO_4.out
               subst eo26
               have p368 : 0 ≤ (x5_1 : Int) := of_decide_eq_true asm
               have q368 : x5_1 < (y365.length : Int) := of_decide_eq_true asm
               obtain ⟨ad368, e368, hx368_0⟩ := Kd.at_string (Kd.R_reads' HO_4.out).2.2 x5_1 p368 q368
               cases e368
               replace p368 := eq_true p368
               replace q368 := eq_true q368
               go_wp2_with (first | ((with_reducible refine gate_callee (f := 20) rfl ?_); refine goesL_ (some 34) rfl rfl Tryz.func20 (by kernel_rfl) rfl #[.string ((rdOf ByteArray.empty y365 x5_1) ++ (⟨#[117]⟩ : ByteArray))] rfl fq ?_; (with_reducible refine (lex_Number.calls ((rdOf ByteArray.empty y365 x5_1) ++ (⟨#[117]⟩ : ByteArray)) t369 true t371 _ A14.out gwx).mono ?_); rintro e w27 ⟨rfl, hb⟩; refine ⟨_, rfl, ?_⟩; have n0_ := Aside0.mk (Kd.R_below (by (with_reducible repeat (first | apply Kd.R_alloc | apply Kd.R_drewN | apply Kd.R_drew)); exact HO_4.out) hb); have n1_ := Aside0.mk (below_step blw hb); clear HO_4; clear HB; have HO_4 := n0_; have HB := n1_; clear n0_ n1_; (try clear hb); (try clear hb2); (try clear hk); (try clear hi); have p372 : 0 ≤ (x5_1 : Int) := of_decide_eq_true asm; have q372 : x5_1 < (y365.length : Int) := of_decide_eq_true asm; obtain ⟨ad372, e372, hx372_0⟩ := Kd.at_string (Kd.R_reads' HO_4.out).2.2 x5_1 p372 q372; obtain rfl : ad368 = ad372 := (by injection e372); replace p372 := eq_true p372; replace q372 := eq_true q372) | ((with_reducible refine gate_callee (f := 20) rfl ?_); refine goesL_ (some 43) rfl rfl Tryz.func20 (by kernel_rfl) rfl #[.string (rdOf ByteArray.empty y365 x5_1)] rfl fq ?_; (with_reducible refine (lex_Number.calls (rdOf ByteArray.empty y365 x5_1) t373 true t375 _ A15.out gwx).mono ?_); rintro e w28 ⟨rfl, hb⟩; refine ⟨_, rfl, ?_⟩; have n0_ := Aside0.mk (Kd.R_below (by (with_reducible repeat (first | apply Kd.R_alloc | apply Kd.R_drewN | apply Kd.R_drew)); exact HO_4.out) hb); have n1_ := Aside0.mk (below_step blw hb); clear HO_4; clear HB; have HO_4 := n0_; have HB := n1_; clear n0_ n1_; (try clear hb); (try clear hb2); (try clear hk); (try clear hi)))
               all_goals first | (exfalso; have hx := c19b0; simp only [c23b0] at hx; simp at hx; omega; done) | (go_ret; exact ⟨rew, blw⟩)
              ·replace c25 := Bool.eq_false_iff.mpr c25
               subst c25
               have H1 : (taplinelaw11_LexBases.l0 k1 a0 t361 y365 (wrap64 (x5_1 + 1))) = some r := by rw [if_neg (show ¬ (false = true) by decide)] at H; exact H
               clear H
               have H := H1
               clear H1
               have H' := Aside0.mk H
               clear H
               obtain ⟨Ao29, co29, eo29⟩ := Kd.R_slice HO_4.out
               subst eo29
               have p368 : 0 ≤ (x5_1 : Int) := of_decide_eq_true asm
               have q368 : x5_1 < (y365.length : Int) := of_decide_eq_true asm
               obtain ⟨ad368, e368, hx368_0⟩ := Kd.at_string (Kd.R_reads' HO_4.out).2.2 x5_1 p368 q368
               cases e368
               replace p368 := eq_true p368
               replace q368 := eq_true q368
               go_wp2_with (first | ((with_reducible refine gate_callee (f := 20) rfl ?_); refine goesL_ (some 34) rfl rfl Tryz.func20 (by kernel_rfl) rfl #[.string ((rdOf ByteArray.empty y365 x5_1) ++ (⟨#[117]⟩ : ByteArray))] rfl fq ?_; (with_reducible refine (lex_Number.calls ((rdOf ByteArray.empty y365 x5_1) ++ (⟨#[117]⟩ : ByteArray)) t369 true t371 _ A14.out gwx).mono ?_); rintro e w30 ⟨rfl, hb⟩; refine ⟨_, rfl, ?_⟩; have n0_ := Aside0.mk (Kd.R_below (by (with_reducible repeat (first | apply Kd.R_alloc | apply Kd.R_drewN | apply Kd.R_drew)); exact HO_4.out) hb); have n1_ := Aside0.mk (below_step blw hb); clear HO_4; clear HB; have HO_4 := n0_; have HB := n1_; clear n0_ n1_; (try clear hb); (try clear hb2); (try clear hk); (try clear hi); have p372 : 0 ≤ (x5_1 : Int) := of_decide_eq_true asm; have q372 : x5_1 < (y365.length : Int) := of_decide_eq_true asm; obtain ⟨ad372, e372, hx372_0⟩ := Kd.at_string (Kd.R_reads' HO_4.out).2.2 x5_1 p372 q372; obtain rfl : ad368 = ad372 := (by injection e372); replace p372 := eq_true p372; replace q372 := eq_true q372) | ((with_reducible refine gate_callee (f := 20) rfl ?_); refine goesL_ (some 43) rfl rfl Tryz.func20 (by kernel_rfl) rfl #[.string (rdOf ByteArray.empty y365 x5_1)] rfl fq ?_; (with_reducible refine (lex_Number.calls (rdOf ByteArray.empty y365 x5_1) t373 false t375 _ A15.out gwx).mono ?_); rintro e w31 ⟨rfl, hb⟩; refine ⟨_, rfl, ?_⟩; have n0_ := Aside0.mk (Kd.R_below (by (with_reducible repeat (first | apply Kd.R_alloc | apply Kd.R_drewN | apply Kd.R_drew)); exact HO_4.out) hb); have n1_ := Aside0.mk (below_step blw hb); clear HO_4; clear HB; have HO_4 := n0_; have HB := n1_; clear n0_ n1_; (try clear hb); (try clear hb2); (try clear hk); (try clear hi)))
               all_goals try (exfalso; have hx := c19b0; simp only [c23b0] at hx; simp at hx; omega; done)
               go_roundg k1
               case measure => have := HK1.out; omega
               case rel => exact ⟨(wrap64 (x5_1 + 1)), rsd, H', ⟨by have := HK1.out; omega⟩, ⟨by (with_reducible repeat (first | apply Kd.R_alloc | apply Kd.R_drewN | apply Kd.R_drew)); exact HO_4.out⟩, ⟨blw⟩⟩
             ·rw [if_neg c24] at H
              have c24b0 : (t373 == t369) = false := beq_eq_false_iff_ne.mpr c24
              have c24b1 : (t373 != t369) = true := bne_iff_ne.mpr c24
              obtain rfl := Option.some.inj H
              obtain ⟨Ao32, co32, eo32⟩ := Kd.R_slice HO_4.out
              subst eo32
              have p368 : 0 ≤ (x5_1 : Int) := of_decide_eq_true asm
              have q368 : x5_1 < (y365.length : Int) := of_decide_eq_true asm
              obtain ⟨ad368, e368, hx368_0⟩ := Kd.at_string (Kd.R_reads' HO_4.out).2.2 x5_1 p368 q368
              cases e368
              replace p368 := eq_true p368
              replace q368 := eq_true q368
              go_wp2_with (first | ((with_reducible refine gate_callee (f := 20) rfl ?_); refine goesL_ (some 34) rfl rfl Tryz.func20 (by kernel_rfl) rfl #[.string ((rdOf ByteArray.empty y365 x5_1) ++ (⟨#[117]⟩ : ByteArray))] rfl fq ?_; (with_reducible refine (lex_Number.calls ((rdOf ByteArray.empty y365 x5_1) ++ (⟨#[117]⟩ : ByteArray)) t369 true t371 _ A14.out gwx).mono ?_); rintro e w33 ⟨rfl, hb⟩; refine ⟨_, rfl, ?_⟩; have n0_ := Aside0.mk (Kd.R_below (by (with_reducible repeat (first | apply Kd.R_alloc | apply Kd.R_drewN | apply Kd.R_drew)); exact HO_4.out) hb); have n1_ := Aside0.mk (below_step blw hb); clear HO_4; clear HB; have HO_4 := n0_; have HB := n1_; clear n0_ n1_; (try clear hb); (try clear hb2); (try clear hk); (try clear hi); have p372 : 0 ≤ (x5_1 : Int) := of_decide_eq_true asm; have q372 : x5_1 < (y365.length : Int) := of_decide_eq_true asm; obtain ⟨ad372, e372, hx372_0⟩ := Kd.at_string (Kd.R_reads' HO_4.out).2.2 x5_1 p372 q372; obtain rfl : ad368 = ad372 := (by injection e372); replace p372 := eq_true p372; replace q372 := eq_true q372) | ((with_reducible refine gate_callee (f := 20) rfl ?_); refine goesL_ (some 43) rfl rfl Tryz.func20 (by kernel_rfl) rfl #[.string (rdOf ByteArray.empty y365 x5_1)] rfl fq ?_; (with_reducible refine (lex_Number.calls (rdOf ByteArray.empty y365 x5_1) t373 t374 t375 _ A15.out gwx).mono ?_); rintro e w34 ⟨rfl, hb⟩; refine ⟨_, rfl, ?_⟩; have n0_ := Aside0.mk (Kd.R_below (by (with_reducible repeat (first | apply Kd.R_alloc | apply Kd.R_drewN | apply Kd.R_drew)); exact HO_4.out) hb); have n1_ := Aside0.mk (below_step blw hb); clear HO_4; clear HB; have HO_4 := n0_; have HB := n1_; clear n0_ n1_; (try clear hb); (try clear hb2); (try clear hk); (try clear hi)))
              all_goals first | (exfalso; have hx := c19b0; simp only [c23b0] at hx; simp at hx; omega; done) | (go_ret; exact ⟨rew, blw⟩)
            ·rw [if_neg c23] at H
             have c23b0 : (t375 == 0) = false := beq_eq_false_iff_ne.mpr c23
             have c23b1 : (t375 != 0) = true := bne_iff_ne.mpr c23
             have H' := Aside0.mk H
             clear H
             obtain ⟨Ao35, co35, eo35⟩ := Kd.R_slice HO_4.out
             subst eo35
             have p368 : 0 ≤ (x5_1 : Int) := of_decide_eq_true asm
             have q368 : x5_1 < (y365.length : Int) := of_decide_eq_true asm
             obtain ⟨ad368, e368, hx368_0⟩ := Kd.at_string (Kd.R_reads' HO_4.out).2.2 x5_1 p368 q368
             cases e368
             replace p368 := eq_true p368
             replace q368 := eq_true q368
             go_wp2_with (first | ((with_reducible refine gate_callee (f := 20) rfl ?_); refine goesL_ (some 34) rfl rfl Tryz.func20 (by kernel_rfl) rfl #[.string ((rdOf ByteArray.empty y365 x5_1) ++ (⟨#[117]⟩ : ByteArray))] rfl fq ?_; (with_reducible refine (lex_Number.calls ((rdOf ByteArray.empty y365 x5_1) ++ (⟨#[117]⟩ : ByteArray)) t369 true t371 _ A14.out gwx).mono ?_); rintro e w36 ⟨rfl, hb⟩; refine ⟨_, rfl, ?_⟩; have n0_ := Aside0.mk (Kd.R_below (by (with_reducible repeat (first | apply Kd.R_alloc | apply Kd.R_drewN | apply Kd.R_drew)); exact HO_4.out) hb); have n1_ := Aside0.mk (below_step blw hb); clear HO_4; clear HB; have HO_4 := n0_; have HB := n1_; clear n0_ n1_; (try clear hb); (try clear hb2); (try clear hk); (try clear hi); have p372 : 0 ≤ (x5_1 : Int) := of_decide_eq_true asm; have q372 : x5_1 < (y365.length : Int) := of_decide_eq_true asm; obtain ⟨ad372, e372, hx372_0⟩ := Kd.at_string (Kd.R_reads' HO_4.out).2.2 x5_1 p372 q372; obtain rfl : ad368 = ad372 := (by injection e372); replace p372 := eq_true p372; replace q372 := eq_true q372) | ((with_reducible refine gate_callee (f := 20) rfl ?_); refine goesL_ (some 43) rfl rfl Tryz.func20 (by kernel_rfl) rfl #[.string (rdOf ByteArray.empty y365 x5_1)] rfl fq ?_; (with_reducible refine (lex_Number.calls (rdOf ByteArray.empty y365 x5_1) t373 t374 t375 _ A15.out gwx).mono ?_); rintro e w37 ⟨rfl, hb⟩; refine ⟨_, rfl, ?_⟩; have n0_ := Aside0.mk (Kd.R_below (by (with_reducible repeat (first | apply Kd.R_alloc | apply Kd.R_drewN | apply Kd.R_drew)); exact HO_4.out) hb); have n1_ := Aside0.mk (below_step blw hb); clear HO_4; clear HB; have HO_4 := n0_; have HB := n1_; clear n0_ n1_; (try clear hb); (try clear hb2); (try clear hk); (try clear hi)))
             all_goals try (exfalso; have hx := c19b0; simp only [c23b0] at hx; simp at hx; omega; done)
             go_roundg k1
             case measure => have := HK1.out; omega
             case rel => exact ⟨(wrap64 (x5_1 + 1)), rsd, H', ⟨by have := HK1.out; omega⟩, ⟨by (with_reducible repeat (first | apply Kd.R_alloc | apply Kd.R_drewN | apply Kd.R_drew)); exact HO_4.out⟩, ⟨blw⟩⟩
          ·rw [if_neg c18] at H
           have c18b0 : (t369 == (wrap64 (a0))) = false := beq_eq_false_iff_ne.mpr c18
           have c18b1 : (t369 != (wrap64 (a0))) = true := bne_iff_ne.mpr c18
           obtain rfl := Option.some.inj H
           obtain ⟨Ao38, co38, eo38⟩ := Kd.R_slice HO_4.out
           subst eo38
           have p368 : 0 ≤ (x5_1 : Int) := of_decide_eq_true asm
           have q368 : x5_1 < (y365.length : Int) := of_decide_eq_true asm
           obtain ⟨ad368, e368, hx368_0⟩ := Kd.at_string (Kd.R_reads' HO_4.out).2.2 x5_1 p368 q368
           cases e368
           replace p368 := eq_true p368
           replace q368 := eq_true q368
           go_wp2_with (first | ((with_reducible refine gate_callee (f := 20) rfl ?_); refine goesL_ (some 34) rfl rfl Tryz.func20 (by kernel_rfl) rfl #[.string ((rdOf ByteArray.empty y365 x5_1) ++ (⟨#[117]⟩ : ByteArray))] rfl fq ?_; (with_reducible refine (lex_Number.calls ((rdOf ByteArray.empty y365 x5_1) ++ (⟨#[117]⟩ : ByteArray)) t369 true t371 _ A14.out gwx).mono ?_); rintro e w39 ⟨rfl, hb⟩; refine ⟨_, rfl, ?_⟩; have n0_ := Aside0.mk (Kd.R_below (by (with_reducible repeat (first | apply Kd.R_alloc | apply Kd.R_drewN | apply Kd.R_drew)); exact HO_4.out) hb); have n1_ := Aside0.mk (below_step blw hb); clear HO_4; clear HB; have HO_4 := n0_; have HB := n1_; clear n0_ n1_; (try clear hb); (try clear hb2); (try clear hk); (try clear hi); have p372 : 0 ≤ (x5_1 : Int) := of_decide_eq_true asm; have q372 : x5_1 < (y365.length : Int) := of_decide_eq_true asm; obtain ⟨ad372, e372, hx372_0⟩ := Kd.at_string (Kd.R_reads' HO_4.out).2.2 x5_1 p372 q372; obtain rfl : ad368 = ad372 := (by injection e372); replace p372 := eq_true p372; replace q372 := eq_true q372) | ((with_reducible refine gate_callee (f := 20) rfl ?_); refine goesL_ (some 43) rfl rfl Tryz.func20 (by kernel_rfl) rfl #[.string (rdOf ByteArray.empty y365 x5_1)] rfl fq ?_; (with_reducible refine (lex_Number.calls (rdOf ByteArray.empty y365 x5_1) t373 t374 t375 _ A15.out gwx).mono ?_); rintro e w40 ⟨rfl, hb⟩; refine ⟨_, rfl, ?_⟩; have n0_ := Aside0.mk (Kd.R_below (by (with_reducible repeat (first | apply Kd.R_alloc | apply Kd.R_drewN | apply Kd.R_drew)); exact HO_4.out) hb); have n1_ := Aside0.mk (below_step blw hb); clear HO_4; clear HB; have HO_4 := n0_; have HB := n1_; clear n0_ n1_; (try clear hb); (try clear hb2); (try clear hk); (try clear hi)))
           all_goals first | (exfalso; have hx := c19b0; simp only [c23b0] at hx; simp at hx; omega; done) | (go_ret; exact ⟨rew, blw⟩)
         ·replace c17 := Bool.eq_false_iff.mpr c17
          subst c17
          have H1 : (some false) = some r := by rw [if_neg (show ¬ (false = true) by decide)] at H; exact H
          clear H
          have H := H1
          clear H1
          obtain rfl := Option.some.inj H
          obtain ⟨Ao41, co41, eo41⟩ := Kd.R_slice HO_4.out
          subst eo41
          have p368 : 0 ≤ (x5_1 : Int) := of_decide_eq_true asm
          have q368 : x5_1 < (y365.length : Int) := of_decide_eq_true asm
          obtain ⟨ad368, e368, hx368_0⟩ := Kd.at_string (Kd.R_reads' HO_4.out).2.2 x5_1 p368 q368
          cases e368
          replace p368 := eq_true p368
          replace q368 := eq_true q368
          go_wp2_with (first | ((with_reducible refine gate_callee (f := 20) rfl ?_); refine goesL_ (some 34) rfl rfl Tryz.func20 (by kernel_rfl) rfl #[.string ((rdOf ByteArray.empty y365 x5_1) ++ (⟨#[117]⟩ : ByteArray))] rfl fq ?_; (with_reducible refine (lex_Number.calls ((rdOf ByteArray.empty y365 x5_1) ++ (⟨#[117]⟩ : ByteArray)) t369 false t371 _ A14.out gwx).mono ?_); rintro e w42 ⟨rfl, hb⟩; refine ⟨_, rfl, ?_⟩; have n0_ := Aside0.mk (Kd.R_below (by (with_reducible repeat (first | apply Kd.R_alloc | apply Kd.R_drewN | apply Kd.R_drew)); exact HO_4.out) hb); have n1_ := Aside0.mk (below_step blw hb); clear HO_4; clear HB; have HO_4 := n0_; have HB := n1_; clear n0_ n1_; (try clear hb); (try clear hb2); (try clear hk); (try clear hi); have p372 : 0 ≤ (x5_1 : Int) := of_decide_eq_true asm; have q372 : x5_1 < (y365.length : Int) := of_decide_eq_true asm; obtain ⟨ad372, e372, hx372_0⟩ := Kd.at_string (Kd.R_reads' HO_4.out).2.2 x5_1 p372 q372; obtain rfl : ad368 = ad372 := (by injection e372); replace p372 := eq_true p372; replace q372 := eq_true q372) | ((with_reducible refine gate_callee (f := 20) rfl ?_); refine goesL_ (some 43) rfl rfl Tryz.func20 (by kernel_rfl) rfl #[.string (rdOf ByteArray.empty y365 x5_1)] rfl fq ?_; (with_reducible refine (lex_Number.calls (rdOf ByteArray.empty y365 x5_1) t373 t374 t375 _ A15.out gwx).mono ?_); rintro e w43 ⟨rfl, hb⟩; refine ⟨_, rfl, ?_⟩; have n0_ := Aside0.mk (Kd.R_below (by (with_reducible repeat (first | apply Kd.R_alloc | apply Kd.R_drewN | apply Kd.R_drew)); exact HO_4.out) hb); have n1_ := Aside0.mk (below_step blw hb); clear HO_4; clear HB; have HO_4 := n0_; have HB := n1_; clear n0_ n1_; (try clear hb); (try clear hb2); (try clear hk); (try clear hi)))
          all_goals first | (exfalso; have hx := c19b0; simp only [c23b0] at hx; simp at hx; omega; done) | (go_ret; exact ⟨rew, blw⟩)
        ·rw [if_neg c16] at H
         have c16b0 : (t371 == 0) = false := beq_eq_false_iff_ne.mpr c16
         have c16b1 : (t371 != 0) = true := bne_iff_ne.mpr c16
         obtain rfl := Option.some.inj H
         obtain ⟨Ao44, co44, eo44⟩ := Kd.R_slice HO_4.out
         subst eo44
         have p368 : 0 ≤ (x5_1 : Int) := of_decide_eq_true asm
         have q368 : x5_1 < (y365.length : Int) := of_decide_eq_true asm
         obtain ⟨ad368, e368, hx368_0⟩ := Kd.at_string (Kd.R_reads' HO_4.out).2.2 x5_1 p368 q368
         cases e368
         replace p368 := eq_true p368
         replace q368 := eq_true q368
         go_wp2_with (first | ((with_reducible refine gate_callee (f := 20) rfl ?_); refine goesL_ (some 34) rfl rfl Tryz.func20 (by kernel_rfl) rfl #[.string ((rdOf ByteArray.empty y365 x5_1) ++ (⟨#[117]⟩ : ByteArray))] rfl fq ?_; (with_reducible refine (lex_Number.calls ((rdOf ByteArray.empty y365 x5_1) ++ (⟨#[117]⟩ : ByteArray)) t369 t370 t371 _ A14.out gwx).mono ?_); rintro e w45 ⟨rfl, hb⟩; refine ⟨_, rfl, ?_⟩; have n0_ := Aside0.mk (Kd.R_below (by (with_reducible repeat (first | apply Kd.R_alloc | apply Kd.R_drewN | apply Kd.R_drew)); exact HO_4.out) hb); have n1_ := Aside0.mk (below_step blw hb); clear HO_4; clear HB; have HO_4 := n0_; have HB := n1_; clear n0_ n1_; (try clear hb); (try clear hb2); (try clear hk); (try clear hi); have p372 : 0 ≤ (x5_1 : Int) := of_decide_eq_true asm; have q372 : x5_1 < (y365.length : Int) := of_decide_eq_true asm; obtain ⟨ad372, e372, hx372_0⟩ := Kd.at_string (Kd.R_reads' HO_4.out).2.2 x5_1 p372 q372; obtain rfl : ad368 = ad372 := (by injection e372); replace p372 := eq_true p372; replace q372 := eq_true q372) | ((with_reducible refine gate_callee (f := 20) rfl ?_); refine goesL_ (some 43) rfl rfl Tryz.func20 (by kernel_rfl) rfl #[.string (rdOf ByteArray.empty y365 x5_1)] rfl fq ?_; (with_reducible refine (lex_Number.calls (rdOf ByteArray.empty y365 x5_1) t373 t374 t375 _ A15.out gwx).mono ?_); rintro e w46 ⟨rfl, hb⟩; refine ⟨_, rfl, ?_⟩; have n0_ := Aside0.mk (Kd.R_below (by (with_reducible repeat (first | apply Kd.R_alloc | apply Kd.R_drewN | apply Kd.R_drew)); exact HO_4.out) hb); have n1_ := Aside0.mk (below_step blw hb); clear HO_4; clear HB; have HO_4 := n0_; have HB := n1_; clear n0_ n1_; (try clear hb); (try clear hb2); (try clear hk); (try clear hi)))
         all_goals first | (exfalso; have hx := c19b0; simp only [c23b0] at hx; simp at hx; omega; done) | (go_ret; exact ⟨rew, blw⟩)
       ·rw [if_neg c13] at H
        exact absurd H (by simp)
      ·rw [if_neg c12] at H
       exact absurd H (by simp)
     ·rw [if_neg c11] at H
      have c11b0 : decide (x5_1 < (y365.length : Int)) = false := decide_eq_false c11
      clear c11
      obtain rfl := Option.some.inj H
      obtain ⟨Ao47, co47, eo47⟩ := Kd.R_slice HO_4.out
      subst eo47
      go_wp2
      all_goals first | (exfalso; have hx := c19b0; simp only [c23b0] at hx; simp at hx; omega; done) | (go_ret; exact ⟨rew, blw⟩)
  ·rw [if_neg c7] at H
   exact absurd H (by simp)
 ·rw [if_neg c5] at H
  exact absurd H (by simp)
def taplinelaw11_LexBases.Pure : Prop := ∀ (a0 : Int), (Lit.int .u64 a0).wf = true → ∃ k, taplinelaw11_LexBases.f k a0 = some true
theorem taplinelaw11_LexBases.walk (P : taplinelaw11_LexBases.Pure) (a0 : Int) (w : World) (w0 : (Lit.int .u64 a0).wf = true) (hgw : GW w) :
  Calls Tryz.prog 11 #[.int .u64 a0] w fun e w' => e = .returned (.bool true) ∧ Below w.heap.size w w' := by
 obtain ⟨k, h⟩ := P a0 w0
 refine (taplinelaw11_LexBases.calls k a0 true w h gwx).mono ?_
 rintro e w' ⟨rfl, hd⟩
 exact ⟨rfl, hd⟩
end Go.Proofs.YtadgddipkbdnbaaGreatDoor.Q
set_option linter.unusedVariables false
set_option linter.unusedSimpArgs false
namespace Go.Proofs.Lx
open Go.Proofs.YtadgddipkbdnbaaGreatDoor
def digC (d : Nat) : UInt8 := ([48, 49, 50, 51, 52, 53, 54, 55, 56, 57, 97, 98, 99, 100, 101, 102] : List UInt8).getD d 48
def digL (b : Nat) : Nat → Nat → List UInt8
 | 0, _ => []
 | k + 1, n => if n < b then [digC (n % b)] else digL b k (n / b) ++ [digC (n % b)]
theorem digC_ok : ∀ d, d < 16 → isHex (digC d) = true ∧ hexVal (digC d) = d ∧ isWord (digC d) = true ∧ digC d ≠ 117 ∧ digC d ≠ 85 ∧ digC d ≠ 120 ∧ digC d ≠ 88 := by decide
theorem digC_dec : ∀ d, d < 10 → isDigit (digC d) = true := by decide
theorem digC_zero : ∀ d, d < 10 → digC d = 48 → d = 0 := by decide
theorem valF_append (b : Nat) : ∀ (l m : List UInt8) (a : Nat), valF b a (l ++ m) = (valF b a l).bind fun x => valF b x m
 | [], m, a => rfl
 | c :: l, m, a => by
  simp only [List.cons_append, valF]
  split
  ·exact valF_append b l m _
  ·rfl
theorem digL_val {b : Nat} (hb : 2 ≤ b) (hb2 : b ≤ 16) : ∀ k n, n < k → valF b 0 (digL b k n) = some n
 | 0, n, h => absurd h (by omega)
 | k + 1, n, h => by
  have hm : n % b < b := Nat.mod_lt _ (by omega)
  obtain ⟨h1, h2, -⟩ := digC_ok (n % b) (by omega)
  rw [digL]
  split
  ·rename_i hlt
   rw [valF, if_pos ⟨h1, by omega⟩, valF, h2, Nat.mod_eq_of_lt hlt, Nat.mul_zero, Nat.zero_add]
  ·rename_i hlt
   have hd : n / b < k := by
    have : n / b < n := Nat.div_lt_self (by omega) (by omega)
    omega
   rw [valF_append, digL_val hb hb2 k (n / b) hd, Option.bind_some, valF, if_pos ⟨h1, by omega⟩, valF, h2, Nat.div_add_mod]
theorem digL_word {b : Nat} (hb : 2 ≤ b) (hb2 : b ≤ 16) : ∀ k n, ∀ c ∈ digL b k n, isWord c = true
 | 0, n, c, h => by cases h
 | k + 1, n, c, h => by
  have hm : n % b < b := Nat.mod_lt _ (by omega)
  obtain ⟨h1, h2, h3, -⟩ := digC_ok (n % b) (by omega)
  rw [digL] at h
  split at h
  ·rw [List.mem_singleton.1 h]; exact h3
  ·rcases List.mem_append.1 h with h | h
   ·exact digL_word hb hb2 k (n / b) c h
   ·rw [List.mem_singleton.1 h]; exact h3
theorem digL_last {b : Nat} (hb : 2 ≤ b) (hb2 : b ≤ 16) (k n : Nat) : ∃ l d, digL b (k + 1) n = l ++ [digC d] ∧ d < 16 := by
 have hm : n % b < b := Nat.mod_lt _ (by omega)
 rw [digL]
 split
 ·exact ⟨[], _, rfl, by omega⟩
 ·exact ⟨_, _, rfl, by omega⟩
theorem digL_len {b : Nat} (hb : 2 ≤ b) : ∀ k n m, n < 2 ^ m → (digL b k n).length ≤ m + 1
 | 0, n, m, _ => by simp [digL]
 | k + 1, n, m, h => by
  rw [digL]
  split
  ·simp
  ·rename_i hlt
   cases m with
   | zero => simp at h; omega
   | succ m =>
    have h1 : n / b < 2 ^ m := by
     rw [Nat.div_lt_iff_lt_mul (by omega)]
     have : 2 ^ m * 2 ≤ 2 ^ m * b := Nat.mul_le_mul_left _ hb
     rw [Nat.pow_succ] at h
     omega
    have := digL_len hb k (n / b) m h1
    rw [List.length_append, List.length_cons, List.length_nil]
    omega
theorem digL_dec : ∀ k n, n < k → ∃ d l, digL 10 k n = digC d :: l ∧ d < 10 ∧ (d = 0 → l = [])
 | 0, n, h => absurd h (by omega)
 | k + 1, n, h => by
  rw [digL]
  split
  ·exact ⟨n % 10, [], rfl, by omega, fun _ => rfl⟩
  ·rename_i hlt
   obtain ⟨d, l, h1, h2, h3⟩ := digL_dec k (n / 10) (by omega)
   refine ⟨d, l ++ [digC (n % 10)], by rw [h1]; rfl, h2, fun hd => ?_⟩
   exfalso
   have hl := h3 hd
   rw [hd, hl] at h1
   have hv := digL_val (b := 10) (by omega) (by omega) k (n / 10) (by omega)
   rw [h1] at hv
   have : (0 : Nat) = n / 10 := by
    have e : valF 10 0 [digC 0] = some 0 := by decide
    rw [e] at hv
    exact Option.some.inj hv
   omega
structure IntT (t : List UInt8) (n : Nat) : Prop where
 digit : ∃ c u, t = c :: u ∧ isDigit c = true
 word : ∀ c ∈ t, isWord c = true
 last : ∃ l c, t = l ++ [c] ∧ c ≠ 117 ∧ c ≠ 85
 rad : ∃ b ds, radix t = (b, ds) ∧ ds ≠ [] ∧ valF b 0 ds = some n
 len : t.length ≤ 100
theorem int_plain {t : List UInt8} {n : Nat} (h : IntT t n) : integer t = if n < 9223372036854775808 then some (n, false) else none := by
 obtain ⟨l, c, e, h1, h2⟩ := h.last
 obtain ⟨b, ds, hr, hd, hv⟩ := h.rad
 have hs : suffixed t = false := by
  unfold suffixed
  rw [e, List.getLast?_concat, Bool.or_eq_false_iff]
  exact ⟨by simpa using h1, by simpa using h2⟩
 have hbd : body t = t := by unfold body; rw [hs]; rfl
 unfold integer
 rw [hbd, hr, if_neg hd, hs]
 unfold okVal limit
 rw [hv]
 simp only [Option.bind_some, Bool.false_eq_true, if_false]
 split <;> rfl
theorem int_suffix {t : List UInt8} {n : Nat} (h : IntT t n) (hn : n < 18446744073709551616) : integer (t ++ [117]) = some (n, true) := by
 obtain ⟨b, ds, hr, hd, hv⟩ := h.rad
 have hs : suffixed (t ++ [117]) = true := by
  unfold suffixed
  rw [List.getLast?_concat]; rfl
 have hbd : body (t ++ [117]) = t := by unfold body; rw [hs, if_pos rfl, List.dropLast_concat]
 unfold integer
 rw [hbd, hr, if_neg hd, hs]
 unfold okVal limit
 rw [hv]
 simp only [Option.bind_some, if_true]
 rw [if_pos hn]; rfl
theorem tw_all : ∀ {t : List UInt8}, (∀ c ∈ t, isWord c = true) → t.takeWhile isWord = t
 | [], _ => rfl
 | c :: t, h => by rw [List.takeWhile_cons, if_pos (h c (by simp)), tw_all fun d hd => h d (by simp [hd])]
theorem digit_no : ∀ c : UInt8, isDigit c = true → isLetter c = false ∧ isBlank c = false ∧ c ≠ 47 := by
 intro c h
 simp only [isDigit, Bool.and_eq_true, decide_eq_true_eq, UInt8.le_iff_toNat_le] at h
 obtain ⟨h1, h2⟩ := h
 have e1 : (48 : UInt8).toNat = 48 := rfl
 have e2 : (57 : UInt8).toNat = 57 := rfl
 refine ⟨?_, ?_, ?_⟩
 ·simp only [isLetter, Bool.or_eq_false_iff, Bool.and_eq_false_iff, decide_eq_false_iff_not, UInt8.le_iff_toNat_le, beq_eq_false_iff_ne]
  have a1 : (65 : UInt8).toNat = 65 := rfl
  have a2 : (97 : UInt8).toNat = 97 := rfl
  refine ⟨⟨.inl (by omega), .inl (by omega)⟩, fun h => ?_⟩
  have := congrArg UInt8.toNat h
  have a3 : (95 : UInt8).toNat = 95 := rfl
  omega
 ·simp only [isBlank, Bool.or_eq_false_iff, beq_eq_false_iff_ne]
  refine ⟨⟨⟨?_, ?_⟩, ?_⟩, ?_⟩ <;> intro h <;> have := congrArg UInt8.toNat h <;> simp at this <;> omega
 ·intro h
  have := congrArg UInt8.toNat h
  have a3 : (47 : UInt8).toNat = 47 := rfl
  omega
theorem one_int {t : List UInt8} (h1 : ∃ c u, t = c :: u ∧ isDigit c = true) (h2 : ∀ c ∈ t, isWord c = true) : one false t = if (integer t).isNone then .error 112 else .ok (3, t.length) := by
 obtain ⟨c, u, e, hc⟩ := h1
 obtain ⟨a1, a2, a3⟩ := digit_no c hc
 have htw := tw_all h2
 rw [e] at htw ⊢
 rw [one]
 simp only [Bool.false_and, Bool.false_eq_true, if_false]
 rw [if_neg (by rw [a1]; decide), if_pos hc, htw, List.take_length]
theorem skips_digit {t : List UInt8} (h1 : ∃ c u, t = c :: u ∧ isDigit c = true) : Skips t t := by
 obtain ⟨c, u, e, hc⟩ := h1
 obtain ⟨a1, a2, a3⟩ := digit_no c hc
 rw [e]
 exact .stop c u a2 (by intro h; simp at h; exact a3 h.1) (by intro h; simp at h; exact a3 h.1)
theorem kind_int {t : List UInt8} (h1 : ∃ c u, t = c :: u ∧ isDigit c = true) (h2 : ∀ c ∈ t, isWord c = true) (hl : t.length ≤ 20000) : kindM t = if (integer t).isNone then 0 else 3 := by
 have ho := one_int h1 h2
 have hs := skips_digit h1
 split
 ·rename_i hi
  rw [if_pos hi] at ho
  refine kindM_err ?_
  rw [scan_eq, if_neg (by omega)]
  obtain ⟨c, u, e, hc⟩ := h1
  have hr : scanR t.length [] t = .error (t, 112) := by
   rw [scanR_eq, skip_of hs]
   rw [e] at ho ⊢
   simp only [scanT]
   have : one (opens []) (c :: u) = .error 112 := ho
   rw [this]
  rw [hr]
  simp
 ·rename_i hi
  rw [if_neg hi] at ho
  have hne : t ≠ [] := by obtain ⟨c, u, e, -⟩ := h1; rw [e]; simp
  exact kindM_of (x := (3, t)) ⟨ho, hne, hs⟩ hl
theorem IntT.snoc {t : List UInt8} {n : Nat} (h : IntT t n) : (∃ c u, t ++ [117] = c :: u ∧ isDigit c = true) ∧ (∀ c ∈ t ++ [117], isWord c = true) := by
 obtain ⟨c, u, e, hc⟩ := h.digit
 refine ⟨⟨c, u ++ [117], by rw [e]; rfl, hc⟩, fun d hd => ?_⟩
 rcases List.mem_append.1 hd with hd | hd
 ·exact h.word d hd
 ·rw [List.mem_singleton.1 hd]; decide
theorem intT_dec {n : Nat} (k : Nat) (hk : n < k) (hn : n < 18446744073709551616) : IntT (digL 10 k n) n := by
 obtain ⟨d, l, h1, h2, h3⟩ := digL_dec k n hk
 have hv := digL_val (b := 10) (by omega) (by omega) k n hk
 obtain ⟨k', rfl⟩ : ∃ m, k = m + 1 := ⟨k - 1, by omega⟩
 obtain ⟨l2, d2, g1, g2⟩ := digL_last (b := 10) (by omega) (by omega) k' n
 obtain ⟨-, -, -, q1, q2, -⟩ := digC_ok d2 g2
 refine ⟨⟨_, l, h1, digC_dec d h2⟩, digL_word (by omega) (by omega) _ n, ⟨l2, _, g1, q1, q2⟩, ⟨10, digL 10 (k' + 1) n, ?_, by rw [h1]; simp, hv⟩, ?_⟩
 ·rw [h1]
  have hz := digC_zero d h2
  unfold radix
  split
  ·rename_i e
   obtain ⟨e1, e2⟩ := List.cons.inj e
   have := h3 (hz e1)
   rw [this] at e2; cases e2
  ·rename_i e
   obtain ⟨e1, e2⟩ := List.cons.inj e
   have := h3 (hz e1)
   rw [this] at e2; cases e2
  ·rename_i e
   obtain ⟨e1, e2⟩ := List.cons.inj e
   have := h3 (hz e1)
   rw [this] at e2; cases e2
  ·rfl
 ·have := digL_len (b := 10) (by omega) (k' + 1) n 64 hn
  omega
theorem intT_pre {n : Nat} (b : Nat) (hb : b = 8 ∨ b = 16) (k : Nat) (hk : n < k) (hn : n < 18446744073709551616) : IntT ((if b = 8 then [48] else [48, 120]) ++ digL b k n) n := by
 have hb2 : 2 ≤ b := by omega
 have hb16 : b ≤ 16 := by omega
 have hv := digL_val hb2 hb16 k n hk
 obtain ⟨k', rfl⟩ : ∃ m, k = m + 1 := ⟨k - 1, by omega⟩
 obtain ⟨l2, d2, g1, g2⟩ := digL_last hb2 hb16 k' n
 obtain ⟨-, -, -, q1, q2, -⟩ := digC_ok d2 g2
 have hw := digL_word hb2 hb16 (k' + 1) n
 have hl := digL_len hb2 (k' + 1) n 64 hn
 have hne : digL b (k' + 1) n ≠ [] := by rw [g1]; simp
 have hno : ∀ c u, digL b (k' + 1) n = c :: u → c ≠ 120 ∧ c ≠ 88 := by
  have key : ∀ k n, ∀ c ∈ digL b k n, c ≠ 120 ∧ c ≠ 88 := by
   intro k
   induction k with
   | zero => intro n c hc; cases hc
   | succ k ih =>
    intro n c hc
    have hm : n % b < b := Nat.mod_lt _ (by omega)
    obtain ⟨-, -, -, -, -, q3, q4⟩ := digC_ok (n % b) (by omega)
    rw [digL] at hc
    split at hc
    ·rw [List.mem_singleton.1 hc]; exact ⟨q3, q4⟩
    ·rcases List.mem_append.1 hc with hc | hc
     ·exact ih (n / b) c hc
     ·rw [List.mem_singleton.1 hc]; exact ⟨q3, q4⟩
  intro c u e
  exact key (k' + 1) n c (by rw [e]; simp)
 generalize digL b (k' + 1) n = ds at *
 rcases hb with rfl | rfl
 ·rw [if_pos rfl]
  refine ⟨⟨48, ds, rfl, by decide⟩, ?_, ⟨48 :: l2, _, by rw [g1]; rfl, q1, q2⟩, ⟨8, ds, ?_, hne, hv⟩, by simp only [List.length_append, List.length_cons, List.length_nil]; omega⟩
  ·intro c hc
   rcases List.mem_append.1 hc with hc | hc
   ·rw [List.mem_singleton.1 hc]; decide
   ·exact hw c hc
  ·cases ds with
   | nil => exact absurd rfl hne
   | cons c u =>
    obtain ⟨n1, n2⟩ := hno c u rfl
    show radix (48 :: c :: u) = _
    unfold radix
    split
    ·rename_i e; simp only [List.cons.injEq, true_and] at e; exact absurd e.1 n1
    ·rename_i e; simp only [List.cons.injEq, true_and] at e; exact absurd e.1 n2
    ·rename_i e; simp only [List.cons.injEq, true_and] at e; obtain ⟨rfl, rfl⟩ := e; rfl
    ·rename_i h; exact absurd rfl (h c u)
 ·rw [if_neg (by decide)]
  refine ⟨⟨48, 120 :: ds, rfl, by decide⟩, ?_, ⟨48 :: 120 :: l2, _, by rw [g1]; rfl, q1, q2⟩, ⟨16, ds, rfl, hne, hv⟩, by simp only [List.length_append, List.length_cons, List.length_nil]; omega⟩
  intro c hc
  rcases List.mem_append.1 hc with hc | hc
  ·simp only [List.mem_cons, List.not_mem_nil, or_false] at hc
   rcases hc with hc | hc <;> rw [hc] <;> decide
  ·exact hw c hc
end Go.Proofs.Lx
namespace Go.Proofs.YtadgddipkbdnbaaGreatDoor.Q
open Go.RowKit Go.Proofs.YtadgddipkbdnbaaGreatDoor YtadgddipkbdnbaaGreatDoorW.PrintWords YtadgddipkbdnbaaGreatDoorW.PrintLast
theorem num_int {t : ByteArray} (h1 : ∃ c u, t.data.toList = c :: u ∧ Lx.isDigit c = true) (h2 : ∀ c ∈ t.data.toList, Lx.isWord c = true) (hl : t.size ≤ 20000) :
  lex_Number.f t = some (match Lx.integer t.data.toList with | some (n, u) => (wrap64 n, u, 0) | none => (0, false, 114)) := by
 unfold lex_Number.f
 rw [kind_f, Lx.kind_int h1 h2 (by rw [ba_len]; exact hl)]
 simp only [Option.bind_some]
 cases hi : Lx.integer t.data.toList with
 | none => rfl
 | some p =>
  obtain ⟨n, u⟩ := p
  obtain ⟨c, r, e, hc⟩ := h1
  have hpos : 0 < t.size := by rw [← ba_len, e]; simp
  have h0 : t[0] = c := by
   have : t.data.toList[0]? = some c := by rw [e]; rfl
   rw [List.getElem?_eq_getElem (by rw [ba_len]; exact hpos)] at this
   exact Option.some.inj this
  have hb : bt t 0 ≠ 39 := by
   unfold bt
   rw [dif_pos (show (0 : Int).toNat < t.size from hpos)]
   show ((t[0].toNat : Nat) : Int) ≠ 39
   rw [h0]
   intro h
   have : c = 39 := UInt8.toNat_inj.1 (by have : (39 : UInt8).toNat = 39 := rfl; omega)
   rw [this] at hc
   revert hc; decide
  rw [if_neg (show ¬ ((some (n, u) : Option (Nat × Bool)).isNone = true) by simp), if_pos rfl, if_pos (by omega), if_neg hb]
  unfold lex_integer.f
  rw [if_pos (by omega), hi]
  rfl
theorem num_both {t : ByteArray} {n : Nat} (h : Lx.IntT t.data.toList n) (hn : n < 18446744073709551616) :
  lex_Number.f (t ++ (⟨#[117]⟩ : ByteArray)) = some (wrap64 n, true, 0) ∧ lex_Number.f t = some (if n < 9223372036854775808 then (wrap64 n, false, 0) else (0, false, 114)) ∧ t.size ≤ 100 := by
 have hl := h.len
 rw [ba_len] at hl
 have ed : (t ++ (⟨#[117]⟩ : ByteArray)).data.toList = t.data.toList ++ [117] := by rw [ByteArray.data_append, Array.toList_append]
 obtain ⟨s1, s2⟩ := h.snoc
 have hz : (t ++ (⟨#[117]⟩ : ByteArray)).size = t.size + 1 := by rw [ByteArray.size_append]; rfl
 refine ⟨?_, ?_, hl⟩
 ·rw [num_int (t := t ++ (⟨#[117]⟩ : ByteArray)) (by rw [ed]; exact s1) (by rw [ed]; exact s2) (by omega), ed, Lx.int_suffix h hn]
 ·rw [num_int h.digit h.word (by omega), Lx.int_plain h]
  by_cases hlt : n < 9223372036854775808
  ·rw [if_pos hlt, if_pos hlt]
  ·rw [if_neg hlt, if_neg hlt]
theorem digits_f (b : Nat) (hb : 2 ≤ b) (hb2 : b ≤ 16) : ∀ k n, n < k → n < 18446744073709551616 → taplinelaw11_digits.f k (n : Int) (b : Int) = some (strS (Lx.digL b k n))
 | 0, n, h, _ => absurd h (by omega)
 | k + 1, n, h, hn => by
  have hm : n % b < b := Nat.mod_lt _ (by omega)
  have e1 : Int.tmod (n : Int) (b : Int) = ((n % b : Nat) : Int) := by rw [Int.tmod_eq_emod_of_nonneg (by omega)]; rfl
  have e2 : IntKind.u64.wrap (((n % b : Nat) : Int) + 1) = ((n % b + 1 : Nat) : Int) := IntWalk.u64_in _ ⟨by omega, by omega⟩
  have e3 : IntKind.u64.wrap (Int.tdiv (n : Int) (b : Int)) = ((n / b : Nat) : Int) := by
   rw [IntWalk.u64_quo _ _ ⟨by omega, by omega, by omega⟩]; rfl
  have e4 : ∀ d, d < 16 → (⟨#[48, 49, 50, 51, 52, 53, 54, 55, 56, 57, 97, 98, 99, 100, 101, 102]⟩ : ByteArray).extract d (d + 1) = strS [Lx.digC d] := by decide
  have hH : Unit → Int.tmod (n : Int) (b : Int) = ((n % b : Nat) : Int) := fun _ => e1
  rw [taplinelaw11_digits.f, e1, e2, e3, Int.toNat_natCast, Int.toNat_natCast, e4 _ (by omega), Lx.digL]
  clear e1 e2 e3 e4 hH
  rw [if_neg (by omega), if_pos (by omega), if_pos (by omega), if_pos (by omega)]
  by_cases hlt : n < b
  ·rw [if_pos (by omega), if_pos hlt]
  ·have hd : n / b < n := Nat.div_lt_self (by omega) (by omega)
   rw [if_neg (by omega), if_neg hlt, digits_f b hb hb2 k (n / b) (by omega) (by omega)]
   simp only [Option.bind_some]
   have h64 : (2 : Nat) ^ 64 = 18446744073709551616 := by decide
   have hlen := Lx.digL_len hb k (n / b) 64 (by omega)
   rw [if_pos (by show (Lx.digL b k (n / b)).length + 1 ≤ _; omega)]
   congr 1
theorem bases_l0 (n : Nat) (hn : n < 18446744073709551616) (l : List ByteArray) (hl : ∀ t ∈ l, Lx.IntT t.data.toList n) (hl3 : l.length ≤ 10) (K : Nat) : ∀ d i, i ≤ l.length → l.length - i = d → taplinelaw11_LexBases.l0 (K + d + 1) (n : Int) true l (i : Int) = some true := by
 intro d
 induction d with
 | zero =>
  intro i hi hd
  rw [taplinelaw11_LexBases.l0, if_neg (by omega)]
 | succ d ih =>
  intro i hi hd
  have hlt : i < l.length := by omega
  have hr : rdOf ByteArray.empty l (i : Int) = l[i] := by
   unfold rdOf
   rw [Int.toNat_natCast, List.getD_eq_getElem?_getD, List.getElem?_eq_getElem hlt]; rfl
  obtain ⟨n1, n2, n3⟩ := num_both (hl l[i] (List.getElem_mem hlt)) hn
  have ih' := ih (i + 1) (by omega) (by omega)
  rw [show K + (d + 1) + 1 = (K + d + 1) + 1 by omega, taplinelaw11_LexBases.l0, if_pos (by omega), if_pos (by omega), hr, if_pos (by omega), n1, Option.bind_some, n2, Option.bind_some]
  rw [if_pos rfl, if_pos rfl, if_pos rfl]
  have wi : Unit → wrap64 ((i : Int) + 1) = ((i + 1 : Nat) : Int) := fun _ => by rw [wrapn (by omega) (by omega)]; rfl
  rw [wi ()]
  by_cases hs : n < 9223372036854775808
  ·have h1 : decide ((n : Int) < 9223372036854775808) = true := decide_eq_true (by omega)
   rw [if_pos hs, h1]
   have q1 : (((0 : Int) == 0) != true) = false := by decide
   show (if (((0 : Int) == 0) != true) = true then some false else if (0 : Int) = 0 then (if wrap64 (n : Int) = wrap64 (n : Int) then (if false = true then some false else taplinelaw11_LexBases.l0 (K + d + 1) (n : Int) true l ((i + 1 : Nat) : Int)) else some false) else taplinelaw11_LexBases.l0 (K + d + 1) (n : Int) true l ((i + 1 : Nat) : Int)) = _
   rw [q1, if_neg (by decide), if_pos rfl, if_pos rfl, if_neg (by decide)]
   exact ih'
  ·have h1 : decide ((n : Int) < 9223372036854775808) = false := decide_eq_false (by omega)
   rw [if_neg hs, h1]
   have q1 : (((114 : Int) == 0) != false) = false := by decide
   have q2 : ¬ ((114 : Int) = 0) := by decide
   show (if (((114 : Int) == 0) != false) = true then some false else if (114 : Int) = 0 then _ else taplinelaw11_LexBases.l0 (K + d + 1) (n : Int) true l ((i + 1 : Nat) : Int)) = _
   rw [q1, if_neg (by decide), if_neg q2]
   exact ih'
theorem LexBases_pure : taplinelaw11_LexBases.Pure := by
 intro a ha
 have hrange : 0 ≤ a ∧ a < 18446744073709551616 := by
  simp only [Lit.wf, Bool.and_eq_true, decide_eq_true_eq] at ha
  have e1 : IntKind.u64.min = 0 := by decide
  have e2 : IntKind.u64.max = 18446744073709551615 := by decide
  rw [e1, e2] at ha
  omega
 obtain ⟨n, rfl⟩ := Int.eq_ofNat_of_zero_le hrange.1
 have hn : n < 18446744073709551616 := by omega
 refine ⟨n + 10, ?_⟩
 simp only [taplinelaw11_LexBases.f, sane_t.f, Option.bind_some]
 have d10 := digits_f 10 (by omega) (by omega) (n + 10) n (by omega) hn
 have d8 := digits_f 8 (by omega) (by omega) (n + 10) n (by omega) hn
 have d16 := digits_f 16 (by omega) (by omega) (n + 10) n (by omega) hn
 have c10 : ((10 : Nat) : Int) = 10 := rfl
 have c8 : ((8 : Nat) : Int) = 8 := rfl
 have c16 : ((16 : Nat) : Int) = 16 := rfl
 rw [c10] at d10
 rw [c8] at d8
 rw [c16] at d16
 rw [d10, d8, d16]
 simp only [Option.bind_some]
 have i10 := Lx.intT_dec (n + 10) (by omega) hn
 have i8 := Lx.intT_pre 8 (.inl rfl) (n + 10) (by omega) hn
 have i16 := Lx.intT_pre 16 (.inr rfl) (n + 10) (by omega) hn
 have z8 := i8.len
 have z16 := i16.len
 rw [if_pos rfl] at i8 z8
 rw [if_neg (by decide)] at i16 z16
 have s8 : (strS (Lx.digL 8 (n + 10) n)).size = (Lx.digL 8 (n + 10) n).length := rfl
 have s16 : (strS (Lx.digL 16 (n + 10) n)).size = (Lx.digL 16 (n + 10) n).length := rfl
 rw [List.length_append] at z8 z16
 rw [if_pos (by rw [s8]; omega), if_pos (by rw [s16]; omega)]
 have := bases_l0 n hn [strS (Lx.digL 10 (n + 10) n), (⟨#[48]⟩ : ByteArray) ++ strS (Lx.digL 8 (n + 10) n), (⟨#[48, 120]⟩ : ByteArray) ++ strS (Lx.digL 16 (n + 10) n)] (by
  intro t ht
  simp only [List.mem_cons, List.not_mem_nil, or_false] at ht
  rcases ht with rfl | rfl | rfl
  ·exact i10
  ·rw [ByteArray.data_append, Array.toList_append]; exact i8
  ·rw [ByteArray.data_append, Array.toList_append]; exact i16) (by simp) (n + 6) 3 0 (by simp) rfl
 exact this
end Go.Proofs.YtadgddipkbdnbaaGreatDoor.Q
set_option linter.unusedVariables false
set_option linter.unusedSimpArgs false
namespace Go.Proofs.YtadgddipkbdnbaaGreatDoor.lexBases
open Go.ChangeShapes Go.WideShapes Go.ChangeAt Go.RowKit
open Go.ChangeMaps (open_string shut_string)
set_option maxRecDepth 100000 in
theorem lifted (os : Os) (started : os.Started) (H : Type) (enc : TypeId × Value → H) :
  ReturnsInHanded {} Tryz.checked os 11 .any (fun w args => (Rows.lexBasesSpec.pre enc Tryz.prog Tryz.f11 [] false w args ∧ laidMetH Tryz.prog lexLaid w) ∧ sizedMet enc Tryz.prog Tryz.f11 (OpenSpec.ofChange Rows.lexBasesSpec) false w args)
   (Rows.lexBasesSpec.post enc Tryz.prog Tryz.f11 false true false false) := by
 refine handed_and_shaped (C := Tryz.checked) (X := fun w _ => laidMetH Tryz.prog lexLaid w) (fun _ _ _ hh h => h.of_heap hh) own started (by kernel_rfl) Tryz.func11
  (ChangeSpec.witness_shaped (enc := enc) (C := Tryz.checked) (os := os) (X := fun w _ => laidMetH Tryz.prog lexLaid w) false (World.doorLaid Tryz.prog 400 os) #[.int .u64 0] 8 rfl (World.shaped_of_RefB (by kernel_rfl) (by kernel_rfl)) (by kernel_rfl) (by kernel_rfl) (by kernel_rfl) (door_met os _)) ?_
 intro W base args ds gs before hval0 hW hcnd hsz0 hL hsh _
 have hgw := of_laid hL hsh
 clear hL hsh
 have hsz : (DataW.weightsEach Tryz.prog (Tryz.f11.params.toList ++ Rows.lexBasesSpec.plain.varTypes Tryz.prog) (ds ++ gs)).all (· ≤ reachBytes) = true := hsz0
 have hval : ∀ (j : Nat) t v, Tryz.f11.params[j]? = some t → args[j]? = some v → Value.okWide Tryz.prog W .any base t v := hval0
 have hW' := hW
 obtain ⟨p, q, hA0, hV, rfl, hfz, hnd⟩ := hW
 have hA : DataW.TrodAll enc Tryz.prog W 0 (fun _ => true) true Tryz.f11.params.toList args.toList ds p := hA0
 rw [Tryz.params11] at hA hval hsz
 obtain ⟨v0, vs0, d0, ds0, p0, q0, hargs, rfl, rfl, h0, r0⟩ := trodAll_cons hA
 obtain ⟨rfl, rfl, rfl⟩ := trodAll_nil r0
 obtain rfl : args = #[v0] := by cases args; simp_all
 obtain ⟨rfl, rfl⟩ := trodVars_none hV
 obtain ⟨a0, rfl, rfl, rfl, w0⟩ := open_int Tryz.underlying48 (hval 0 48 v0 rfl rfl) h0
 clear hA0 hval0 hsz0 hsz
 refine (Q.taplinelaw11_LexBases.walk Q.LexBases_pure a0 W w0 hgw).mono fun e W' ⟨he, bel⟩ => ?_
 subst he
 exact ⟨_, rfl, _, _, _, [], _, [], hW', trodAll_mk1 (shut_bool Tryz.underlying4 _), (trodAll_cons_mk (shut_int Tryz.underlying48 w0) trodAll_mk0), rfl, bel.frame _, fun h => by cases h⟩
theorem over : Rows.LexBasesSaid :=
 OpenClaim.holds_of_wide 11 Tryz.f11 rfl rfl rfl rfl rfl rfl rfl ⟨rfl, rfl, rfl, rfl, rfl⟩ rfl rfl rfl rfl rfl (by kernel_rfl) Tryz.func11 (by kernel_rfl)
  (of_decide_eq_true (by kernel_rfl)) (by unfold Func.isWrapper; first | (rw [if_pos (by decide +kernel)]; kernel_rfl) | (rw [if_neg (by decide +kernel)]; exact ⟨rfl, rfl⟩))
  (fun os started H enc _ => lifted os started H enc)
end Go.Proofs.YtadgddipkbdnbaaGreatDoor.lexBases
namespace Go.Proofs.YtadgddipkbdnbaaGreatDoor
theorem lexBases_card : Rows.LexBasesCardSaid :=
 Claim7.holds_tied_plain_at .later [] [.data, .data, .data, .sentinel, .sentinel, .listed, .data, .data] true (true, "85ed3a9bdcdf405d5b0a35b2759147de3913577c107b7173cad54d4ee995d561") true
  lexBases.over (fun _ h => by cases h) (by kernel_rfl) (fun _ h => by cases h) lexBases_row_tie rfl ⟨rfl, rfl⟩ (by kernel_rfl) rfl
  (fun f fn hf hfn => by
   obtain rfl : f = 11 := Option.some.inj ((show Tryz.prog.funcNamed "tapline/taplinelaw11.LexBases" = some 11 by kernel_rfl).symm.trans hf) |>.symm
   obtain rfl : fn = Tryz.f11 := (Option.some.inj (Tryz.func11.symm.trans hfn)).symm
   exact ⟨by kernel_rfl, fun j t ht => by
    rw [Tryz.params11] at ht
    have hm : t ∈ [48] := by simpa using Array.mem_of_getElem? ht
    have hall : ([48].all fun u => !Tryz.prog.wantsStandIn u) = true := by kernel_rfl
    exact (show Tryz.prog.wantsStandIn t = false by simpa using List.all_eq_true.1 hall t hm)⟩)
  (by kernel_rfl)
#print axioms lexBases_card
end Go.Proofs.YtadgddipkbdnbaaGreatDoor
