/- For every string and text: unquoting what a string is quoted as returns it, a text is a string exactly if it can be unquoted, and quoting what it is unquoted as gives a text of the same value; the inputs read as they did; the package-level variables hold what the program's text lays in them: the tied card. -/
import Derived.Test.YtadgddipkbdnbaaGreatDoorLexP1
import Derived.Test.YtadgddipkbdnbaaGreatDoorLexP2
import Derived.Test.YtadgddipkbdnbaaGreatDoorLexP3
import Derived.Test.YtadgddipkbdnbaaGreatDoorLexP4
import Derived.Test.YtadgddipkbdnbaaGreatDoorLexP7
import Derived.Test.YtadgddipkbdnbaaGreatDoorLexP8
import Derived.Test.YtadgddipkbdnbaaGreatDoorLexP10
import Derived.Test.YtadgddipkbdnbaaGreatDoorLexP13
import Derived.Test.YtadgddipkbdnbaaGreatDoorLexP14
import Derived.Test.YtadgddipkbdnbaaGreatDoorLexP15
import Derived.Test.YtadgddipkbdnbaaGreatDoorLexStringsZ1
import Derived.Test.YtadgddipkbdnbaaGreatDoorTie
import Derived.Test.YtadgddipkbdnbaaGreatDoorCards
import Derived.WalkKit
import Derived.ProofKit
import Derived.OpenShut
import Derived.ShutString
import Derived.ChangeOld
import Derived.Below
import Derived.SizedLaws
import Derived.SevenTiedAt
namespace Go.Proofs.YtadgddipkbdnbaaGreatDoor.Q
open Go.Proofs.YtadgddipkbdnbaaGreatDoor Go.RowKit Go.Proofs.YtadgddipkbdnbaaGreatDoorW.PrintWords Go.Proofs.YtadgddipkbdnbaaGreatDoorW.PrintLast Go.Proofs.YtadgddipkbdnbaaGreatDoorW.PrintMore
attribute [local go_sem] max2_int min2_int max_two min_two max_three min_three max_four min_four   
set_option linter.unusedVariables false
set_option linter.unusedSimpArgs false
mutual
def taplinelaw11_LexStrings.j0 : Nat → ByteArray → Bool → Option (Bool)
 | 0, _, _ => none
 | k + 1, x1, x5 => (lex_Unquote.f k x1).bind fun bt412 => ((lex_Kind.f x1).bind fun t414 => (if ((bt412.2 == 0) != (t414 == 4)) = true then (some false) else (if bt412.2 = 0 then (taplinelaw11_LexStrings.j1 k x5 bt412.1 (decide ((bt412.1.size : Int) > 64))) else (taplinelaw11_LexStrings.j1 k x5 bt412.1 true))))
def taplinelaw11_LexStrings.j1 : Nat → Bool → ByteArray → Bool → Option (Bool)
 | 0, _, _, _ => none
 | k + 1, x5, x10, x58 => if x58 = true then (some x5) else ((lex_Quote.f x10).bind fun bt415 => ((lex_Unquote.f k bt415.1).bind fun bt417 => (if x5 = true then (if bt415.2 = 0 then (if bt417.2 = 0 then (some (bt417.1.toList == x10.toList)) else (some false)) else (some false)) else (some false))))
end
def taplinelaw11_LexStrings.f (k : Nat) (a0 : ByteArray) (a1 : ByteArray) : Option (Bool) := (sane_t.f).bind fun t406 => ((lex_Quote.f a0).bind fun bt407 => (if bt407.2 = 0 then ((lex_Unquote.f k bt407.1).bind fun bt409 => (if bt409.2 = 0 then (if bt409.1.toList = a0.toList then ((lex_Kind.f bt407.1).bind fun t411 => (if t411 = 4 then (taplinelaw11_LexStrings.j0 k a1 t406) else (some false))) else (some false)) else (some false))) else (taplinelaw11_LexStrings.j0 k a1 t406)))
theorem taplinelaw11_LexStrings.mono_l : ∀ k, (∀ y0 y1, LeO (taplinelaw11_LexStrings.j0 k y0 y1) (taplinelaw11_LexStrings.j0 (k + 1) y0 y1)) ∧ (∀ y0 y1 y2, LeO (taplinelaw11_LexStrings.j1 k y0 y1 y2) (taplinelaw11_LexStrings.j1 (k + 1) y0 y1 y2))
 | 0 => ⟨fun _ _ r h => by simp [taplinelaw11_LexStrings.j0] at h, fun _ _ _ r h => by simp [taplinelaw11_LexStrings.j1] at h⟩
 | k + 1 => by
  obtain ⟨ih0, ih1⟩ := taplinelaw11_LexStrings.mono_l k
  refine ⟨?_, ?_⟩
  ·intro y0 y1
   unfold taplinelaw11_LexStrings.j0
   repeat' first
   | (with_reducible exact ih0 _ _)
   | (with_reducible exact ih1 _ _ _)
   | (with_reducible exact lex_Unquote.mono _ _)
   | (with_reducible exact LeO.refl _)
   | (with_reducible exact LeO.none _)
   | (with_reducible refine LeO.ite ?_ ?_)
   | (with_reducible refine LeO.bind ?_ (fun _ => ?_))
   | exact LeO.none _
   | refine LeO.ite ?_ ?_
   | refine LeO.bind ?_ (fun _ => ?_)
  ·intro y0 y1 y2
   unfold taplinelaw11_LexStrings.j1
   repeat' first
   | (with_reducible exact ih0 _ _)
   | (with_reducible exact ih1 _ _ _)
   | (with_reducible exact lex_Unquote.mono _ _)
   | (with_reducible exact LeO.refl _)
   | (with_reducible exact LeO.none _)
   | (with_reducible refine LeO.ite ?_ ?_)
   | (with_reducible refine LeO.bind ?_ (fun _ => ?_))
   | exact LeO.none _
   | refine LeO.ite ?_ ?_
   | refine LeO.bind ?_ (fun _ => ?_)
theorem taplinelaw11_LexStrings.mono : ∀ a0 a1 k, LeO (taplinelaw11_LexStrings.f k a0 a1) (taplinelaw11_LexStrings.f (k + 1) a0 a1) := by
 intro a0 a1 k
 obtain ⟨ih0, ih1⟩ := taplinelaw11_LexStrings.mono_l k
 unfold taplinelaw11_LexStrings.f
 repeat' first
   | (with_reducible exact ih0 _ _)
   | (with_reducible exact ih1 _ _ _)
   | (with_reducible exact lex_Unquote.mono _ _)
   | (with_reducible exact LeO.refl _)
   | (with_reducible exact LeO.none _)
   | (with_reducible refine LeO.ite ?_ ?_)
   | (with_reducible refine LeO.bind ?_ (fun _ => ?_))
   | exact LeO.none _
   | refine LeO.ite ?_ ?_
   | refine LeO.bind ?_ (fun _ => ?_)
set_option maxHeartbeats 8000000 in
set_option maxRecDepth 100000 in
theorem taplinelaw11_LexStrings.calls (k : Nat) (a0 : ByteArray) (a1 : ByteArray) (r : Bool) (w : World) (h : taplinelaw11_LexStrings.f k a0 a1 = some r) (hgw : GW w) :
  Calls Tryz.prog 13 #[.string a0, .string a1] w fun e w' => e = .returned (.bool r) ∧ Below w.heap.size w w' := by
 have HB := Aside0.mk (Below.refl w.heap.size w)
 have H : ((sane_t.f).bind fun t406 => ((lex_Quote.f a0).bind fun bt407 => (if bt407.2 = 0 then ((lex_Unquote.f k bt407.1).bind fun bt409 => (if bt409.2 = 0 then (if bt409.1.toList = a0.toList then ((lex_Kind.f bt407.1).bind fun t411 => (if t411 = 4 then (taplinelaw11_LexStrings.j0 k a1 t406) else (some false))) else (some false)) else (some false))) else (taplinelaw11_LexStrings.j0 k a1 t406)))) = some r := h
 clear h
 replace H := Option.bind_eq_some_iff.mp H
 obtain ⟨t406, A30, H⟩ := H
 replace H : ((lex_Quote.f a0).bind fun bt407 => (if bt407.2 = 0 then ((lex_Unquote.f k bt407.1).bind fun bt409 => (if bt409.2 = 0 then (if bt409.1.toList = a0.toList then ((lex_Kind.f bt407.1).bind fun t411 => (if t411 = 4 then (taplinelaw11_LexStrings.j0 k a1 t406) else (some false))) else (some false)) else (some false))) else (taplinelaw11_LexStrings.j0 k a1 t406))) = some r := H
 have A3 := Aside0.mk A30
 clear A30
 replace H := Option.bind_eq_some_iff.mp H
 obtain ⟨⟨t407, t408⟩, A40, H⟩ := H
 replace H : (if t408 = 0 then ((lex_Unquote.f k t407).bind fun bt409 => (if bt409.2 = 0 then (if bt409.1.toList = a0.toList then ((lex_Kind.f t407).bind fun t411 => (if t411 = 4 then (taplinelaw11_LexStrings.j0 k a1 t406) else (some false))) else (some false)) else (some false))) else (taplinelaw11_LexStrings.j0 k a1 t406)) = some r := H
 have A4 := Aside0.mk A40
 clear A40
 have HC5 := Aside0.mk H
 clear H
 go_enter Tryz.func13, Tryz.ntmps13
 go_upto_if 23 with (first | ((with_reducible refine gate_callee (f := 16) rfl ?_); refine goesL_ (some 16) rfl rfl Tryz.func16 (by kernel_rfl) rfl #[] rfl fq ?_; (with_reducible refine (sane_t.calls  t406 _ A3.out gwx).mono ?_); rintro e w6 ⟨rfl, hb⟩; refine ⟨_, rfl, ?_⟩; have n0_ := Aside0.mk (below_step blw hb); clear HB; have HB := n0_; clear n0_; (try clear hb); (try clear hb2); (try clear hk); (try clear hi)) | ((with_reducible refine gate_callee (f := 31) rfl ?_); refine goesL_ (some 19) rfl rfl Tryz.func31 (by kernel_rfl) rfl #[.string a0] rfl fq ?_; (with_reducible refine (lex_Quote.calls a0 t407 t408 _ A4.out gwx).mono ?_); rintro e w7 ⟨rfl, hb⟩; refine ⟨_, rfl, ?_⟩; have n0_ := Aside0.mk (below_step blw hb); clear HB; have HB := n0_; clear n0_; (try clear hb); (try clear hb2); (try clear hk); (try clear hi)))
 (try simp only [Act.put, List.setIfInBounds_toArray, List.set_cons_zero, List.set_cons_succ])
 go_cut [] (fun wc => ∃ (kq : Nat), Aside0 (taplinelaw11_LexStrings.j0 kq a1 t406 = some r) ∧ Aside0 (kq ≤ k) ∧ Aside0 (Below w.heap.size w wc))
 case first =>
  have H := HC5.out
  clear HC5
  by_cases c8 : t408 = 0
  ·rw [if_pos c8] at H
   have c8b0 : (t408 == 0) = true := beq_iff_eq.mpr c8
   have c8b1 : (t408 != 0) = false := bne_eq_false_iff_eq.mpr c8
   clear c8
   (first | rw [c8b0] | (simp only [i64_w, i32_w]; rw [c8b0]) | skip)
   replace H := Option.bind_eq_some_iff.mp H
   obtain ⟨⟨t409, t410⟩, A90, H⟩ := H
   replace H : (if t410 = 0 then (if t409.toList = a0.toList then ((lex_Kind.f t407).bind fun t411 => (if t411 = 4 then (taplinelaw11_LexStrings.j0 k a1 t406) else (some false))) else (some false)) else (some false)) = some r := H
   have A9 := Aside0.mk A90
   clear A90
   by_cases c10 : t410 = 0
   ·rw [if_pos c10] at H
    have c10b0 : (t410 == 0) = true := beq_iff_eq.mpr c10
    have c10b1 : (t410 != 0) = false := bne_eq_false_iff_eq.mpr c10
    clear c10
    by_cases c11 : t409.toList = a0.toList
    ·rw [if_pos c11] at H
     have c11b0 : (t409.toList == a0.toList) = true := beq_iff_eq.mpr c11
     have c11b1 : (t409.toList != a0.toList) = false := bne_eq_false_iff_eq.mpr c11
     clear c11
     replace H := Option.bind_eq_some_iff.mp H
     obtain ⟨t411, A120, H⟩ := H
     replace H : (if t411 = 4 then (taplinelaw11_LexStrings.j0 k a1 t406) else (some false)) = some r := H
     have A12 := Aside0.mk A120
     clear A120
     by_cases c13 : t411 = 4
     ·rw [if_pos c13] at H
      have c13b0 : (t411 == 4) = true := beq_iff_eq.mpr c13
      have c13b1 : (t411 != 4) = false := bne_eq_false_iff_eq.mpr c13
      clear c13
      have H' := Aside0.mk H
      clear H
      go_wp2_with (first | ((with_reducible refine gate_callee (f := 33) rfl ?_); refine goesL_ (some 26) rfl rfl Tryz.func33 (by kernel_rfl) rfl #[.string t407] rfl fq ?_; (with_reducible refine (lex_Unquote.calls k t407 t409 t410 _ A9.out gwx).mono ?_); rintro e w14 ⟨rfl, hb⟩; refine ⟨_, rfl, ?_⟩; have n0_ := Aside0.mk (below_step blw hb); clear HB; have HB := n0_; clear n0_; (try clear hb); (try clear hb2); (try clear hk); (try clear hi)) | (go_at_call 35; (with_reducible refine (lex_Kind.calls t407 t411 _ A12.out gwx).mono ?_); rintro e w15 ⟨rfl, hb⟩; have n0_ := Aside0.mk (below_step blw hb); clear HB; have HB := n0_; clear n0_; (try clear hb); (try clear hb2); (try clear hk); (try clear hi)))
      go_meet
      case rel => exact ⟨_, H', ⟨by first | omega | exact Nat.le_refl _⟩, ⟨blw⟩⟩
     ·rw [if_neg c13] at H
      have c13b0 : (t411 == 4) = false := beq_eq_false_iff_ne.mpr c13
      have c13b1 : (t411 != 4) = true := bne_iff_ne.mpr c13
      obtain rfl := Option.some.inj H
      go_wp2_with (first | ((with_reducible refine gate_callee (f := 33) rfl ?_); refine goesL_ (some 26) rfl rfl Tryz.func33 (by kernel_rfl) rfl #[.string t407] rfl fq ?_; (with_reducible refine (lex_Unquote.calls k t407 t409 t410 _ A9.out gwx).mono ?_); rintro e w16 ⟨rfl, hb⟩; refine ⟨_, rfl, ?_⟩; have n0_ := Aside0.mk (below_step blw hb); clear HB; have HB := n0_; clear n0_; (try clear hb); (try clear hb2); (try clear hk); (try clear hi)) | (go_at_call 35; (with_reducible refine (lex_Kind.calls t407 t411 _ A12.out gwx).mono ?_); rintro e w17 ⟨rfl, hb⟩; have n0_ := Aside0.mk (below_step blw hb); clear HB; have HB := n0_; clear n0_; (try clear hb); (try clear hb2); (try clear hk); (try clear hi)))
      go_ret
      exact ⟨rew, blw⟩
    ·rw [if_neg c11] at H
     have c11b0 : (t409.toList == a0.toList) = false := beq_eq_false_iff_ne.mpr c11
     have c11b1 : (t409.toList != a0.toList) = true := bne_iff_ne.mpr c11
     obtain rfl := Option.some.inj H
     go_wp2_with (first | ((with_reducible refine gate_callee (f := 33) rfl ?_); refine goesL_ (some 26) rfl rfl Tryz.func33 (by kernel_rfl) rfl #[.string t407] rfl fq ?_; (with_reducible refine (lex_Unquote.calls k t407 t409 t410 _ A9.out gwx).mono ?_); rintro e w18 ⟨rfl, hb⟩; refine ⟨_, rfl, ?_⟩; have n0_ := Aside0.mk (below_step blw hb); clear HB; have HB := n0_; clear n0_; (try clear hb); (try clear hb2); (try clear hk); (try clear hi)))
     go_ret
     exact ⟨rew, blw⟩
   ·rw [if_neg c10] at H
    have c10b0 : (t410 == 0) = false := beq_eq_false_iff_ne.mpr c10
    have c10b1 : (t410 != 0) = true := bne_iff_ne.mpr c10
    obtain rfl := Option.some.inj H
    go_wp2_with (first | ((with_reducible refine gate_callee (f := 33) rfl ?_); refine goesL_ (some 26) rfl rfl Tryz.func33 (by kernel_rfl) rfl #[.string t407] rfl fq ?_; (with_reducible refine (lex_Unquote.calls k t407 t409 t410 _ A9.out gwx).mono ?_); rintro e w19 ⟨rfl, hb⟩; refine ⟨_, rfl, ?_⟩; have n0_ := Aside0.mk (below_step blw hb); clear HB; have HB := n0_; clear n0_; (try clear hb); (try clear hb2); (try clear hk); (try clear hi)))
    go_ret
    exact ⟨rew, blw⟩
  ·rw [if_neg c8] at H
   have c8b0 : (t408 == 0) = false := beq_eq_false_iff_ne.mpr c8
   have c8b1 : (t408 != 0) = true := bne_iff_ne.mpr c8
   (first | rw [c8b0] | (simp only [i64_w, i32_w]; rw [c8b0]) | skip)
   have H' := Aside0.mk H
   clear H
   go_wp2
   go_meet
   case rel => exact ⟨_, H', ⟨by first | omega | exact Nat.le_refl _⟩, ⟨blw⟩⟩
 case rest =>
  clear HC5
  try clear c1
  try clear p2
  try clear c3
  try clear c8
  try clear c8b0
  try clear c8b1
  try clear c10
  try clear c10b0
  try clear c10b1
  try clear c11
  try clear c11b0
  try clear c11b1
  try clear c13
  try clear c13b0
  try clear c13b1
  try clear c16
  obtain ⟨kq, HA, HJ4, HB⟩ := hcut
  cases kq with
  | zero => exact absurd HA.out (by simp [taplinelaw11_LexStrings.j0])
  | succ kj4 =>
   have H := HA.out
   clear HA
   simp only [taplinelaw11_LexStrings.j0] at H
   replace H := Option.bind_eq_some_iff.mp H
   obtain ⟨⟨t412, t413⟩, A200, H⟩ := H
   replace H : ((lex_Kind.f a1).bind fun t414 => (if ((t413 == 0) != (t414 == 4)) = true then (some false) else (if t413 = 0 then (taplinelaw11_LexStrings.j1 kj4 t406 t412 (decide ((t412.size : Int) > 64))) else (taplinelaw11_LexStrings.j1 kj4 t406 t412 true)))) = some r := H
   have A20 := Aside0.mk A200
   clear A200
   replace H := Option.bind_eq_some_iff.mp H
   obtain ⟨t414, A210, H⟩ := H
   replace H : (if ((t413 == 0) != (t414 == 4)) = true then (some false) else (if t413 = 0 then (taplinelaw11_LexStrings.j1 kj4 t406 t412 (decide ((t412.size : Int) > 64))) else (taplinelaw11_LexStrings.j1 kj4 t406 t412 true))) = some r := H
   have A21 := Aside0.mk A210
   clear A210
   by_cases c22 : ((t413 == 0) != (t414 == 4)) = true
   ·rw [if_pos c22] at H
    have c22b0 : ((t413 == 0) != (t414 == 4)) = true := c22
    (try (have c22b1 : decide ((t413 == 0) = (t414 == 4)) = false := by simpa using c22))
    (try (have c22b2 : ((t413 == 0) == (t414 == 4)) = false := by simpa using c22))
    (try (have c22b3 : ¬ ((t413 == 0) = (t414 == 4)) := by simpa using c22))
    clear c22
    obtain rfl := Option.some.inj H
    go_wp2_with (first | ((with_reducible refine gate_callee (f := 33) rfl ?_); refine goesL_ (some 43) rfl rfl Tryz.func33 (by kernel_rfl) rfl #[.string a1] rfl fq ?_; (with_reducible refine (lex_Unquote.calls kj4 a1 t412 t413 _ A20.out gwx).mono ?_); rintro e w23 ⟨rfl, hb⟩; refine ⟨_, rfl, ?_⟩; have n0_ := Aside0.mk (below_step blw hb); clear HB; have HB := n0_; clear n0_; (try clear hb); (try clear hb2); (try clear hk); (try clear hi)) | ((with_reducible refine gate_callee (f := 35) rfl ?_); refine goesL_ (some 49) rfl rfl Tryz.func35 (by kernel_rfl) rfl #[.string a1] rfl fq ?_; (with_reducible refine (lex_Kind.calls a1 t414 _ A21.out gwx).mono ?_); rintro e w24 ⟨rfl, hb⟩; refine ⟨_, rfl, ?_⟩; have n0_ := Aside0.mk (below_step blw hb); clear HB; have HB := n0_; clear n0_; (try clear hb); (try clear hb2); (try clear hk); (try clear hi)))
    go_ret
    exact ⟨rew, blw⟩
   ·rw [if_neg c22] at H
    have c22b0 : ((t413 == 0) != (t414 == 4)) = false := by simpa using c22
    (try (have c22b1 : decide ((t413 == 0) = (t414 == 4)) = true := by simpa using c22))
    (try (have c22b2 : ((t413 == 0) == (t414 == 4)) = true := by simpa using c22))
    clear c22
    have HC25 := Aside0.mk H
    clear H
    go_upto_region 10 with (first | ((with_reducible refine gate_callee (f := 33) rfl ?_); refine goesL_ (some 43) rfl rfl Tryz.func33 (by kernel_rfl) rfl #[.string a1] rfl fq ?_; (with_reducible refine (lex_Unquote.calls kj4 a1 t412 t413 _ A20.out gwx).mono ?_); rintro e w26 ⟨rfl, hb⟩; refine ⟨_, rfl, ?_⟩; have n0_ := Aside0.mk (below_step blw hb); clear HB; have HB := n0_; clear n0_; (try clear hb); (try clear hb2); (try clear hk); (try clear hi)) | ((with_reducible refine gate_callee (f := 35) rfl ?_); refine goesL_ (some 49) rfl rfl Tryz.func35 (by kernel_rfl) rfl #[.string a1] rfl fq ?_; (with_reducible refine (lex_Kind.calls a1 t414 _ A21.out gwx).mono ?_); rintro e w27 ⟨rfl, hb⟩; refine ⟨_, rfl, ?_⟩; have n0_ := Aside0.mk (below_step blw hb); clear HB; have HB := n0_; clear n0_; (try clear hb); (try clear hb2); (try clear hk); (try clear hi)))
    (try simp only [Act.put, List.setIfInBounds_toArray, List.set_cons_zero, List.set_cons_succ])
    go_cut [58] (fun v58 wc => ∃ (kq : Nat) (x58_24 : Bool), v58 = .bool x58_24 ∧ Aside0 (taplinelaw11_LexStrings.j1 kq t406 t412 x58_24 = some r) ∧ Aside0 (kq ≤ kj4) ∧ Aside0 (Below w.heap.size w wc))
    case first =>
     have H := HC25.out
     clear HC25
     by_cases c28 : t413 = 0
     ·rw [if_pos c28] at H
      have c28b0 : (t413 == 0) = true := beq_iff_eq.mpr c28
      have c28b1 : (t413 != 0) = false := bne_eq_false_iff_eq.mpr c28
      clear c28
      (first | rw [c28b0] | (simp only [i64_w, i32_w]; rw [c28b0]) | skip)
      have H' := Aside0.mk H
      clear H
      go_wp2
      go_meet
      case rel => exact ⟨_, (decide ((t412.size : Int) > 64)), rsd, H', ⟨by have := HJ4.out; first | omega | exact Nat.le_refl _⟩, ⟨blw⟩⟩
     ·rw [if_neg c28] at H
      have c28b0 : (t413 == 0) = false := beq_eq_false_iff_ne.mpr c28
      have c28b1 : (t413 != 0) = true := bne_iff_ne.mpr c28
      (first | rw [c28b0] | (simp only [i64_w, i32_w]; rw [c28b0]) | skip)
      have H' := Aside0.mk H
      clear H
      go_wp2
      go_meet
      case rel => exact ⟨_, (true), rsd, H', ⟨by have := HJ4.out; first | omega | exact Nat.le_refl _⟩, ⟨blw⟩⟩
    case rest =>
     clear HC25
     try clear c1
     try clear c2
     try clear p2
     try clear c3
     try clear c8
     try clear c8b0
     try clear c8b1
     try clear c10
     try clear c10b0
     try clear c10b1
     try clear c11
     try clear c11b0
     try clear c11b1
     try clear c13
     try clear c13b0
     try clear c13b1
     try clear c16
     try clear c22
     try clear c22b0
     try clear c22b1
     try clear c22b2
     try clear c28
     try clear c28b0
     try clear c28b1
     try clear p2
     obtain ⟨kq, x58_24, rfl, HA, HJ24, HB⟩ := hcut
     cases kq with
     | zero => exact absurd HA.out (by simp [taplinelaw11_LexStrings.j1])
     | succ kj24 =>
      have H := HA.out
      clear HA
      simp only [taplinelaw11_LexStrings.j1] at H
      by_cases c29 : x58_24 = true
      ·subst c29
       have H1 : (some t406) = some r := by rw [if_pos rfl] at H; exact H
       clear H
       have H := H1
       clear H1
       obtain rfl := Option.some.inj H
       go_wp2
       go_ret
       exact ⟨rew, blw⟩
      ·replace c29 := Bool.eq_false_iff.mpr c29
       subst c29
       have H1 : ((lex_Quote.f t412).bind fun bt415 => ((lex_Unquote.f kj24 bt415.1).bind fun bt417 => (if t406 = true then (if bt415.2 = 0 then (if bt417.2 = 0 then (some (bt417.1.toList == t412.toList)) else (some false)) else (some false)) else (some false)))) = some r := by rw [if_neg (show ¬ (false = true) by decide)] at H; exact H
       clear H
       have H := H1
       clear H1
       replace H := Option.bind_eq_some_iff.mp H
       obtain ⟨⟨t415, t416⟩, A300, H⟩ := H
       replace H : ((lex_Unquote.f kj24 t415).bind fun bt417 => (if t406 = true then (if t416 = 0 then (if bt417.2 = 0 then (some (bt417.1.toList == t412.toList)) else (some false)) else (some false)) else (some false))) = some r := H
       have A30 := Aside0.mk A300
       clear A300
       replace H := Option.bind_eq_some_iff.mp H
       obtain ⟨⟨t417, t418⟩, A310, H⟩ := H
       replace H : (if t406 = true then (if t416 = 0 then (if t418 = 0 then (some (t417.toList == t412.toList)) else (some false)) else (some false)) else (some false)) = some r := H
       have A31 := Aside0.mk A310
       clear A310
       by_cases c32 : t406 = true
       ·subst c32
        have H1 : (if t416 = 0 then (if t418 = 0 then (some (t417.toList == t412.toList)) else (some false)) else (some false)) = some r := by rw [if_pos rfl] at H; exact H
        clear H
        have H := H1
        clear H1
        by_cases c33 : t416 = 0
        ·rw [if_pos c33] at H
         have c33b0 : (t416 == 0) = true := beq_iff_eq.mpr c33
         have c33b1 : (t416 != 0) = false := bne_eq_false_iff_eq.mpr c33
         clear c33
         by_cases c34 : t418 = 0
         ·rw [if_pos c34] at H
          have c34b0 : (t418 == 0) = true := beq_iff_eq.mpr c34
          have c34b1 : (t418 != 0) = false := bne_eq_false_iff_eq.mpr c34
          clear c34
          obtain rfl := Option.some.inj H
          go_wp2_with (first | ((with_reducible refine gate_callee (f := 31) rfl ?_); refine goesL_ (some 62) rfl rfl Tryz.func31 (by kernel_rfl) rfl #[.string t412] rfl fq ?_; (with_reducible refine (lex_Quote.calls t412 t415 t416 _ A30.out gwx).mono ?_); rintro e w35 ⟨rfl, hb⟩; refine ⟨_, rfl, ?_⟩; have n0_ := Aside0.mk (below_step blw hb); clear HB; have HB := n0_; clear n0_; (try clear hb); (try clear hb2); (try clear hk); (try clear hi)) | ((with_reducible refine gate_callee (f := 33) rfl ?_); refine goesL_ (some 67) rfl rfl Tryz.func33 (by kernel_rfl) rfl #[.string t415] rfl fq ?_; (with_reducible refine (lex_Unquote.calls kj24 t415 t417 t418 _ A31.out gwx).mono ?_); rintro e w36 ⟨rfl, hb⟩; refine ⟨_, rfl, ?_⟩; have n0_ := Aside0.mk (below_step blw hb); clear HB; have HB := n0_; clear n0_; (try clear hb); (try clear hb2); (try clear hk); (try clear hi)))
          go_ret
          exact ⟨rew, blw⟩
         ·rw [if_neg c34] at H
          have c34b0 : (t418 == 0) = false := beq_eq_false_iff_ne.mpr c34
          have c34b1 : (t418 != 0) = true := bne_iff_ne.mpr c34
          obtain rfl := Option.some.inj H
          go_wp2_with (first | ((with_reducible refine gate_callee (f := 31) rfl ?_); refine goesL_ (some 62) rfl rfl Tryz.func31 (by kernel_rfl) rfl #[.string t412] rfl fq ?_; (with_reducible refine (lex_Quote.calls t412 t415 t416 _ A30.out gwx).mono ?_); rintro e w37 ⟨rfl, hb⟩; refine ⟨_, rfl, ?_⟩; have n0_ := Aside0.mk (below_step blw hb); clear HB; have HB := n0_; clear n0_; (try clear hb); (try clear hb2); (try clear hk); (try clear hi)) | ((with_reducible refine gate_callee (f := 33) rfl ?_); refine goesL_ (some 67) rfl rfl Tryz.func33 (by kernel_rfl) rfl #[.string t415] rfl fq ?_; (with_reducible refine (lex_Unquote.calls kj24 t415 t417 t418 _ A31.out gwx).mono ?_); rintro e w38 ⟨rfl, hb⟩; refine ⟨_, rfl, ?_⟩; have n0_ := Aside0.mk (below_step blw hb); clear HB; have HB := n0_; clear n0_; (try clear hb); (try clear hb2); (try clear hk); (try clear hi)))
          go_ret
          exact ⟨rew, blw⟩
        ·rw [if_neg c33] at H
         have c33b0 : (t416 == 0) = false := beq_eq_false_iff_ne.mpr c33
         have c33b1 : (t416 != 0) = true := bne_iff_ne.mpr c33
         obtain rfl := Option.some.inj H
         go_wp2_with (first | ((with_reducible refine gate_callee (f := 31) rfl ?_); refine goesL_ (some 62) rfl rfl Tryz.func31 (by kernel_rfl) rfl #[.string t412] rfl fq ?_; (with_reducible refine (lex_Quote.calls t412 t415 t416 _ A30.out gwx).mono ?_); rintro e w39 ⟨rfl, hb⟩; refine ⟨_, rfl, ?_⟩; have n0_ := Aside0.mk (below_step blw hb); clear HB; have HB := n0_; clear n0_; (try clear hb); (try clear hb2); (try clear hk); (try clear hi)) | ((with_reducible refine gate_callee (f := 33) rfl ?_); refine goesL_ (some 67) rfl rfl Tryz.func33 (by kernel_rfl) rfl #[.string t415] rfl fq ?_; (with_reducible refine (lex_Unquote.calls kj24 t415 t417 t418 _ A31.out gwx).mono ?_); rintro e w40 ⟨rfl, hb⟩; refine ⟨_, rfl, ?_⟩; have n0_ := Aside0.mk (below_step blw hb); clear HB; have HB := n0_; clear n0_; (try clear hb); (try clear hb2); (try clear hk); (try clear hi)))
         go_ret
         exact ⟨rew, blw⟩
       ·replace c32 := Bool.eq_false_iff.mpr c32
        subst c32
        have H1 : (some false) = some r := by rw [if_neg (show ¬ (false = true) by decide)] at H; exact H
        clear H
        have H := H1
        clear H1
        obtain rfl := Option.some.inj H
        go_wp2_with (first | ((with_reducible refine gate_callee (f := 31) rfl ?_); refine goesL_ (some 62) rfl rfl Tryz.func31 (by kernel_rfl) rfl #[.string t412] rfl fq ?_; (with_reducible refine (lex_Quote.calls t412 t415 t416 _ A30.out gwx).mono ?_); rintro e w41 ⟨rfl, hb⟩; refine ⟨_, rfl, ?_⟩; have n0_ := Aside0.mk (below_step blw hb); clear HB; have HB := n0_; clear n0_; (try clear hb); (try clear hb2); (try clear hk); (try clear hi)) | ((with_reducible refine gate_callee (f := 33) rfl ?_); refine goesL_ (some 67) rfl rfl Tryz.func33 (by kernel_rfl) rfl #[.string t415] rfl fq ?_; (with_reducible refine (lex_Unquote.calls kj24 t415 t417 t418 _ A31.out gwx).mono ?_); rintro e w42 ⟨rfl, hb⟩; refine ⟨_, rfl, ?_⟩; have n0_ := Aside0.mk (below_step blw hb); clear HB; have HB := n0_; clear n0_; (try clear hb); (try clear hb2); (try clear hk); (try clear hi)))
        go_ret
        exact ⟨rew, blw⟩
def taplinelaw11_LexStrings.Pure : Prop := ∀ (a0 : ByteArray) (a1 : ByteArray), a0.size ≤ 140737488351232 → a1.size ≤ 140737488351232 → ∃ k, taplinelaw11_LexStrings.f k a0 a1 = some true
theorem taplinelaw11_LexStrings.walk (P : taplinelaw11_LexStrings.Pure) (a0 : ByteArray) (a1 : ByteArray) (w : World) (w0 : a0.size ≤ 140737488351232) (w1 : a1.size ≤ 140737488351232) (hgw : GW w) :
  Calls Tryz.prog 13 #[.string a0, .string a1] w fun e w' => e = .returned (.bool true) ∧ Below w.heap.size w w' := by
 obtain ⟨k, h⟩ := P a0 a1 w0 w1
 refine (taplinelaw11_LexStrings.calls k a0 a1 true w h gwx).mono ?_
 rintro e w' ⟨rfl, hd⟩
 exact ⟨rfl, hd⟩
end Go.Proofs.YtadgddipkbdnbaaGreatDoor.Q
set_option linter.unusedVariables false
set_option linter.unusedSimpArgs false
namespace Go.Proofs.YtadgddipkbdnbaaGreatDoor.Q
open Go.RowKit Go.Proofs.YtadgddipkbdnbaaGreatDoor YtadgddipkbdnbaaGreatDoorW.PrintWords YtadgddipkbdnbaaGreatDoorW.PrintLast
theorem strings_j0 (t : ByteArray) (ht : t.size ≤ 140737488351232) (k : Nat) (hk : 20001 < k) : taplinelaw11_LexStrings.j0 (k + 2) t true = some true := by
 rw [taplinelaw11_LexStrings.j0, unq_f t (k + 1) (by omega), kind_f]
 simp only [Option.bind_some]
 have hok := unq_ok (t := t.data.toList)
 have e : ((unqM t.data.toList).2 == 0) = (Lx.kindM t.data.toList == 4) := by
  by_cases h : Lx.kindM t.data.toList = 4
  ·rw [beq_iff_eq.2 h, beq_iff_eq.2 (hok.2 h)]
  ·rw [beq_eq_false_iff_ne.2 h, beq_eq_false_iff_ne.2 (fun h' => h (hok.1 h'))]
 rw [e, if_neg (by simp)]
 by_cases h : (unqM t.data.toList).2 = 0
 ·rw [if_pos h]
  by_cases hb : ((unqM t.data.toList).1.size : Int) > 64
  ·rw [decide_eq_true hb, taplinelaw11_LexStrings.j1, if_pos rfl]
  ·have hz := unq_ne0 (t := t.data.toList)
   have h0 : 0 ∉ (unqM t.data.toList).1.data.toList := fun h => hz 0 h rfl
   generalize (unqM t.data.toList).1 = v at *
   rw [decide_eq_false hb, taplinelaw11_LexStrings.j1, if_neg (by decide), quote_yes v (by omega) h0]
   simp only [Option.bind_some]
   rw [unq_f _ k (by omega)]
   have e2 : unqM (strS (quoteB v.data.toList)).data.toList = (v, 0) := unq_quote v (by omega) h0
   rw [e2]
   simp
 ·rw [if_neg h, taplinelaw11_LexStrings.j1, if_pos rfl]
theorem LexStrings_pure : taplinelaw11_LexStrings.Pure := by
 intro s t hs ht
 refine ⟨20010, ?_⟩
 simp only [taplinelaw11_LexStrings.f, sane_t.f, Option.bind_some]
 by_cases h1 : s.size > 64
 ·have e : lex_Quote.f s = some (⟨#[]⟩, 2) := by unfold lex_Quote.f; rw [if_pos h1]
  rw [e]
  simp only [Option.bind_some]
  rw [if_neg (by decide)]
  exact strings_j0 t ht 20008 (by omega)
 ·by_cases h2 : 0 ∈ s.data.toList
  ·have e : lex_Quote.f s = some (⟨#[]⟩, 1) := by unfold lex_Quote.f; rw [if_neg h1, if_pos h2]
   rw [e]
   simp only [Option.bind_some]
   rw [if_neg (by decide)]
   exact strings_j0 t ht 20008 (by omega)
  ·rw [quote_yes s (by omega) h2]
   simp only [Option.bind_some]
   have e1 : unqM (strS (quoteB s.data.toList)).data.toList = (s, 0) := unq_quote s (by omega) h2
   have e2 : Lx.kindM (strS (quoteB s.data.toList)).data.toList = 4 := Lx.quote_kind _ (fun c hc e => h2 (e ▸ hc)) (by rw [ba_len]; omega)
   rw [if_pos trivial, unq_f _ 20010 (by omega), e1, kind_f, e2]
   simp only [Option.bind_some]
   rw [if_pos trivial, if_pos trivial, if_pos trivial]
   exact strings_j0 t ht 20008 (by omega)
end Go.Proofs.YtadgddipkbdnbaaGreatDoor.Q
set_option linter.unusedVariables false
set_option linter.unusedSimpArgs false
namespace Go.Proofs.YtadgddipkbdnbaaGreatDoor.lexStrings
open Go.ChangeShapes Go.WideShapes Go.ChangeAt Go.RowKit
open Go.ChangeMaps (open_string shut_string)
set_option maxRecDepth 100000 in
theorem lifted (os : Os) (started : os.Started) (H : Type) (enc : TypeId × Value → H) :
  ReturnsInHanded {} Tryz.checked os 13 .any (fun w args => (Rows.lexStringsSpec.pre enc Tryz.prog Tryz.f13 [] false w args ∧ laidMetH Tryz.prog lexLaid w) ∧ sizedMet enc Tryz.prog Tryz.f13 (OpenSpec.ofChange Rows.lexStringsSpec) false w args)
   (Rows.lexStringsSpec.post enc Tryz.prog Tryz.f13 false true false false) := by
 refine handed_and_shaped (C := Tryz.checked) (X := fun w _ => laidMetH Tryz.prog lexLaid w) (fun _ _ _ hh h => h.of_heap hh) own started (by kernel_rfl) Tryz.func13
  (ChangeSpec.witness_shaped (enc := enc) (C := Tryz.checked) (os := os) (X := fun w _ => laidMetH Tryz.prog lexLaid w) false (World.doorLaid Tryz.prog 400 os) #[.string ByteArray.empty, .string ByteArray.empty] 8 rfl (World.shaped_of_RefB (by kernel_rfl) (by kernel_rfl)) (by kernel_rfl) (by kernel_rfl) (by kernel_rfl) (door_met os _)) ?_
 intro W base args ds gs before hval0 hW hcnd hsz0 hL hsh _
 have hgw := of_laid hL hsh
 clear hL hsh
 have hsz : (DataW.weightsEach Tryz.prog (Tryz.f13.params.toList ++ Rows.lexStringsSpec.plain.varTypes Tryz.prog) (ds ++ gs)).all (· ≤ reachBytes) = true := hsz0
 have hval : ∀ (j : Nat) t v, Tryz.f13.params[j]? = some t → args[j]? = some v → Value.okWide Tryz.prog W .any base t v := hval0
 have hW' := hW
 obtain ⟨p, q, hA0, hV, rfl, hfz, hnd⟩ := hW
 have hA : DataW.TrodAll enc Tryz.prog W 0 (fun _ => true) true Tryz.f13.params.toList args.toList ds p := hA0
 rw [Tryz.params13] at hA hval hsz
 obtain ⟨v0, vs0, d0, ds0, p0, q0, hargs, rfl, rfl, h0, r0⟩ := trodAll_cons hA
 obtain ⟨v1, vs1, d1, ds1, p1, q1, rfl, rfl, rfl, h1, r1⟩ := trodAll_cons r0
 obtain ⟨rfl, rfl, rfl⟩ := trodAll_nil r1
 obtain rfl : args = #[v0, v1] := by cases args; simp_all
 obtain ⟨rfl, rfl⟩ := trodVars_none hV
 obtain ⟨a0, rfl, rfl, rfl, y0⟩ := open_string Tryz.underlying9 (hval 0 9 v0 rfl rfl) h0
 have w0 : a0.size ≤ 140737488351232 := by
  have z := sized_string hsz (j := 0) (t := 9) rfl rfl
  rw [Array.length_toList] at z
  exact z
 obtain ⟨a1, rfl, rfl, rfl, y1⟩ := open_string Tryz.underlying9 (hval 1 9 v1 rfl rfl) h1
 have w1 : a1.size ≤ 140737488351232 := by
  have z := sized_string hsz (j := 1) (t := 9) rfl rfl
  rw [Array.length_toList] at z
  exact z
 clear hA0 hval0 hsz0 hsz
 refine (Q.taplinelaw11_LexStrings.walk Q.LexStrings_pure a0 a1 W w0 w1 hgw).mono fun e W' ⟨he, bel⟩ => ?_
 subst he
 exact ⟨_, rfl, _, _, _, [], _, [], hW', trodAll_mk1 (shut_bool Tryz.underlying4 _), (trodAll_cons_mk (shut_string Tryz.underlying9 y0) (trodAll_cons_mk (shut_string Tryz.underlying9 y1) trodAll_mk0)), rfl, bel.frame _, fun h => by cases h⟩
theorem over : Rows.LexStringsSaid :=
 OpenClaim.holds_of_wide 13 Tryz.f13 rfl rfl rfl rfl rfl rfl rfl ⟨rfl, rfl, rfl, rfl, rfl⟩ rfl rfl rfl rfl rfl (by kernel_rfl) Tryz.func13 (by kernel_rfl)
  (of_decide_eq_true (by kernel_rfl)) (by unfold Func.isWrapper; first | (rw [if_pos (by decide +kernel)]; kernel_rfl) | (rw [if_neg (by decide +kernel)]; exact ⟨rfl, rfl⟩))
  (fun os started H enc _ => lifted os started H enc)
end Go.Proofs.YtadgddipkbdnbaaGreatDoor.lexStrings
namespace Go.Proofs.YtadgddipkbdnbaaGreatDoor
theorem lexStrings_card : Rows.LexStringsCardSaid :=
 Claim7.holds_tied_plain_at .later [] [.data, .data, .data, .sentinel, .sentinel, .listed, .data, .data] true (true, "85ed3a9bdcdf405d5b0a35b2759147de3913577c107b7173cad54d4ee995d561") true
  lexStrings.over (fun _ h => by cases h) (by kernel_rfl) (fun _ h => by cases h) lexStrings_row_tie rfl ⟨rfl, rfl⟩ (by kernel_rfl) rfl
  (fun f fn hf hfn => by
   obtain rfl : f = 13 := Option.some.inj ((show Tryz.prog.funcNamed "tapline/taplinelaw11.LexStrings" = some 13 by kernel_rfl).symm.trans hf) |>.symm
   obtain rfl : fn = Tryz.f13 := (Option.some.inj (Tryz.func13.symm.trans hfn)).symm
   exact ⟨by kernel_rfl, fun j t ht => by
    rw [Tryz.params13] at ht
    have hm : t ∈ [9, 9] := by simpa using Array.mem_of_getElem? ht
    have hall : ([9, 9].all fun u => !Tryz.prog.wantsStandIn u) = true := by kernel_rfl
    exact (show Tryz.prog.wantsStandIn t = false by simpa using List.all_eq_true.1 hall t hm)⟩)
  (by kernel_rfl)
#print axioms lexStrings_card
end Go.Proofs.YtadgddipkbdnbaaGreatDoor
