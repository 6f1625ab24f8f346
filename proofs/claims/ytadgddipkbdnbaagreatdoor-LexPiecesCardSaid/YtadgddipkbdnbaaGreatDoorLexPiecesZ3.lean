/- For every two texts that are scanned without an error, the first one, a line feed, a semicolon, a space and the second one are scanned as the tokens of both with the sign between (unless too long or too many); the inputs read as they did; the package-level variables hold what the program's text lays in them: the tied card. -/
import Derived.Test.YtadgddipkbdnbaaGreatDoorLexP1
import Derived.Test.YtadgddipkbdnbaaGreatDoorLexPiecesZ1
import Derived.Test.YtadgddipkbdnbaaGreatDoorLexPiecesZ2
import Derived.Test.YtadgddipkbdnbaaGreatDoorLexP2
import Derived.Test.YtadgddipkbdnbaaGreatDoorLexP3
import Derived.Test.YtadgddipkbdnbaaGreatDoorLexP4
import Derived.Test.YtadgddipkbdnbaaGreatDoorLexP7
import Derived.Test.YtadgddipkbdnbaaGreatDoorLexP8
import Derived.Test.YtadgddipkbdnbaaGreatDoorLexP10
import Derived.Test.YtadgddipkbdnbaaGreatDoorLexP14
import Derived.Test.YtadgddipkbdnbaaGreatDoorLexP15
import Derived.Test.YtadgddipkbdnbaaGreatDoorLexR1
import Derived.Test.YtadgddipkbdnbaaGreatDoorTie
import Derived.Test.YtadgddipkbdnbaaGreatDoorCards
import Derived.WalkKit
import Derived.ProofKit
import Derived.OpenShut
import Derived.ShutString
import Derived.ChangeOld
import Derived.Below
import Derived.SizedLaws
import Derived.SevenTiedAt
namespace Go.Proofs.YtadgddipkbdnbaaGreatDoor.Q
open Go.Proofs.YtadgddipkbdnbaaGreatDoor Go.RowKit Go.Proofs.YtadgddipkbdnbaaGreatDoorW.PrintWords Go.Proofs.YtadgddipkbdnbaaGreatDoorW.PrintLast Go.Proofs.YtadgddipkbdnbaaGreatDoorW.PrintMore
attribute [local go_sem] max2_int min2_int max_two min_two max_three min_three max_four min_four   
set_option linter.unusedVariables false
set_option linter.unusedSimpArgs false
def taplinelaw11_LexPieces.j0 : Nat → ByteArray → ByteArray → Bool → List (S38) → List (S38) → Bool → Option (Bool)
 | 0, _, _, _, _, _, _ => none
 | k + 1, x0, x1, x5, x6, x9, x52 => if x52 = true then (some x5) else (if x0.size + 3 ≤ 9223372036854775807 then (if (x0 ++ (⟨#[10, 59, 32]⟩ : ByteArray)).size + x1.size ≤ 9223372036854775807 then ((lex_Scan.f ((x0 ++ (⟨#[10, 59, 32]⟩ : ByteArray)) ++ x1)).bind fun bt332 => ((some (([] : List (S38)) : List (S38))).bind fun y337 => (if y337.length + x6.length < 4398046511104 then ((some (y337 ++ x6 : List (S38))).bind fun y340 => (if y340.length < 4398046511104 then ((some (y340 ++ [(⟨5, (⟨#[59]⟩ : ByteArray), 0⟩ : S38)] : List (S38))).bind fun y343 => (if x5 = true then (if bt332.2.2 = 0 then (if y343.length + x9.length < 4398046511104 then ((lex_Same.f bt332.1 (y343 ++ x9)).bind fun t349 => (some t349)) else (none)) else (some false)) else (some false))) else (none))) else (none)))) else (none)) else (none))
def taplinelaw11_LexPieces.f (k : Nat) (a0 : ByteArray) (a1 : ByteArray) : Option (Bool) := (sane_t.f).bind fun t321 => ((lex_Scan.f a0).bind fun bt322 => ((lex_Scan.f a1).bind fun bt327 => (if bt322.2.2 = 0 then (if bt327.2.2 = 0 then (if (wrap64 ((wrap64 ((a0.size : Int) + (a1.size : Int))) + 3)) > 20000 then (taplinelaw11_LexPieces.j0 k a0 a1 t321 bt322.1 bt327.1 true) else (taplinelaw11_LexPieces.j0 k a0 a1 t321 bt322.1 bt327.1 (decide ((wrap64 ((wrap64 ((bt322.1.length : Int) + (bt327.1.length : Int))) + 1)) > 4000)))) else (taplinelaw11_LexPieces.j0 k a0 a1 t321 bt322.1 bt327.1 true)) else (taplinelaw11_LexPieces.j0 k a0 a1 t321 bt322.1 bt327.1 true))))
theorem taplinelaw11_LexPieces.mono_l : ∀ k, (∀ y0 y1 y2 y3 y4 y5, LeO (taplinelaw11_LexPieces.j0 k y0 y1 y2 y3 y4 y5) (taplinelaw11_LexPieces.j0 (k + 1) y0 y1 y2 y3 y4 y5))
 | 0 => fun _ _ _ _ _ _ r h => by simp [taplinelaw11_LexPieces.j0] at h
 | k + 1 => by
  have ih0 := taplinelaw11_LexPieces.mono_l k
  ·intro y0 y1 y2 y3 y4 y5
   unfold taplinelaw11_LexPieces.j0
   repeat' first
   | (with_reducible exact ih0 _ _ _ _ _ _)
   | (with_reducible exact LeO.refl _)
   | (with_reducible exact LeO.none _)
   | (with_reducible refine LeO.ite ?_ ?_)
   | (with_reducible refine LeO.bind ?_ (fun _ => ?_))
   | exact LeO.none _
   | refine LeO.ite ?_ ?_
   | refine LeO.bind ?_ (fun _ => ?_)
theorem taplinelaw11_LexPieces.mono : ∀ a0 a1 k, LeO (taplinelaw11_LexPieces.f k a0 a1) (taplinelaw11_LexPieces.f (k + 1) a0 a1) := by
 intro a0 a1 k
 have ih0 := taplinelaw11_LexPieces.mono_l k
 unfold taplinelaw11_LexPieces.f
 repeat' first
   | (with_reducible exact ih0 _ _ _ _ _ _)
   | (with_reducible exact LeO.refl _)
   | (with_reducible exact LeO.none _)
   | (with_reducible refine LeO.ite ?_ ?_)
   | (with_reducible refine LeO.bind ?_ (fun _ => ?_))
   | exact LeO.none _
   | refine LeO.ite ?_ ?_
   | refine LeO.bind ?_ (fun _ => ?_)
set_option maxHeartbeats 8000000 in
set_option maxRecDepth 100000 in
theorem taplinelaw11_LexPieces.calls (k : Nat) (a0 : ByteArray) (a1 : ByteArray) (r : Bool) (w : World) (h : taplinelaw11_LexPieces.f k a0 a1 = some r) (hgw : GW w) :
  Calls Tryz.prog 9 #[.string a0, .string a1] w fun e w' => e = .returned (.bool r) ∧ Below w.heap.size w w' := by
 have hu38 := Tryz.underlying38
 have HB := Aside0.mk (Below.refl w.heap.size w)
 have H : ((sane_t.f).bind fun t321 => ((lex_Scan.f a0).bind fun bt322 => ((lex_Scan.f a1).bind fun bt327 => (if bt322.2.2 = 0 then (if bt327.2.2 = 0 then (if (wrap64 ((wrap64 ((a0.size : Int) + (a1.size : Int))) + 3)) > 20000 then (taplinelaw11_LexPieces.j0 k a0 a1 t321 bt322.1 bt327.1 true) else (taplinelaw11_LexPieces.j0 k a0 a1 t321 bt322.1 bt327.1 (decide ((wrap64 ((wrap64 ((bt322.1.length : Int) + (bt327.1.length : Int))) + 1)) > 4000)))) else (taplinelaw11_LexPieces.j0 k a0 a1 t321 bt322.1 bt327.1 true)) else (taplinelaw11_LexPieces.j0 k a0 a1 t321 bt322.1 bt327.1 true))))) = some r := h
 clear h
 replace H := Option.bind_eq_some_iff.mp H
 obtain ⟨t321, A30, H⟩ := H
 replace H : ((lex_Scan.f a0).bind fun bt322 => ((lex_Scan.f a1).bind fun bt327 => (if bt322.2.2 = 0 then (if bt327.2.2 = 0 then (if (wrap64 ((wrap64 ((a0.size : Int) + (a1.size : Int))) + 3)) > 20000 then (taplinelaw11_LexPieces.j0 k a0 a1 t321 bt322.1 bt327.1 true) else (taplinelaw11_LexPieces.j0 k a0 a1 t321 bt322.1 bt327.1 (decide ((wrap64 ((wrap64 ((bt322.1.length : Int) + (bt327.1.length : Int))) + 1)) > 4000)))) else (taplinelaw11_LexPieces.j0 k a0 a1 t321 bt322.1 bt327.1 true)) else (taplinelaw11_LexPieces.j0 k a0 a1 t321 bt322.1 bt327.1 true)))) = some r := H
 have A3 := Aside0.mk A30
 clear A30
 replace H := Option.bind_eq_some_iff.mp H
 obtain ⟨⟨t322, t323, t324⟩, A40, H⟩ := H
 replace H : ((lex_Scan.f a1).bind fun bt327 => (if t324 = 0 then (if bt327.2.2 = 0 then (if (wrap64 ((wrap64 ((a0.size : Int) + (a1.size : Int))) + 3)) > 20000 then (taplinelaw11_LexPieces.j0 k a0 a1 t321 t322 bt327.1 true) else (taplinelaw11_LexPieces.j0 k a0 a1 t321 t322 bt327.1 (decide ((wrap64 ((wrap64 ((t322.length : Int) + (bt327.1.length : Int))) + 1)) > 4000)))) else (taplinelaw11_LexPieces.j0 k a0 a1 t321 t322 bt327.1 true)) else (taplinelaw11_LexPieces.j0 k a0 a1 t321 t322 bt327.1 true))) = some r := H
 have A4 := Aside0.mk A40
 clear A40
 replace H := Option.bind_eq_some_iff.mp H
 obtain ⟨⟨t327, t328, t329⟩, A50, H⟩ := H
 replace H : (if t324 = 0 then (if t329 = 0 then (if (wrap64 ((wrap64 ((a0.size : Int) + (a1.size : Int))) + 3)) > 20000 then (taplinelaw11_LexPieces.j0 k a0 a1 t321 t322 t327 true) else (taplinelaw11_LexPieces.j0 k a0 a1 t321 t322 t327 (decide ((wrap64 ((wrap64 ((t322.length : Int) + (t327.length : Int))) + 1)) > 4000)))) else (taplinelaw11_LexPieces.j0 k a0 a1 t321 t322 t327 true)) else (taplinelaw11_LexPieces.j0 k a0 a1 t321 t322 t327 true)) = some r := H
 have A5 := Aside0.mk A50
 clear A50
 have HC6 := Aside0.mk H
 clear H
 go_enter Tryz.func9, Tryz.ntmps9
 go_upto_region 4 with (first | ((with_reducible refine gate_callee (f := 16) rfl ?_); refine goesL_ (some 16) rfl rfl Tryz.func16 (by kernel_rfl) rfl #[] rfl fq ?_; (with_reducible refine (sane_t.calls  t321 _ A3.out gwx).mono ?_); rintro e w7 ⟨rfl, hb⟩; refine ⟨_, rfl, ?_⟩; have n0_ := Aside0.mk (below_step blw hb); clear HB; have HB := n0_; clear n0_; (try clear hb); (try clear hb2); (try clear hk); (try clear hi)) | ((with_reducible refine gate_callee (f := 17) rfl ?_); refine goesL_ (some 19) rfl rfl Tryz.func17 (by kernel_rfl) rfl #[.string a0] rfl fq ?_; (with_reducible refine (lex_Scan.calls a0 t322 t323 t324 _ A4.out gwx).mono ?_); rintro e w8 ⟨v325, rfl, ho0, hb⟩; refine ⟨_, rfl, ?_⟩; have n0_ := Aside0.mk (Kd.R_lower ho0 (below_size blw)); have n1_ := Aside0.mk (below_step blw hb); clear HB; have HO326 := n0_; have HB := n1_; clear n0_ n1_; (try clear hb); (try clear hb2); (try clear hk); (try clear hi); (try clear ho0)) | ((with_reducible refine gate_callee (f := 17) rfl ?_); refine goesL_ (some 25) rfl rfl Tryz.func17 (by kernel_rfl) rfl #[.string a1] rfl fq ?_; (with_reducible refine (lex_Scan.calls a1 t327 t328 t329 _ A5.out gwx).mono ?_); rintro e w9 ⟨v330, rfl, ho0, hb⟩; refine ⟨_, rfl, ?_⟩; have n0_ := Aside0.mk (Kd.R_elder' (by (with_reducible repeat (first | apply Kd.R_alloc | apply Kd.R_drewN | apply Kd.R_drew)); exact HO326.out) (Kd.R_base ho0) hb); have n1_ := Aside0.mk (Kd.R_lower (Kd.R_new' ho0 (Kd.R_lt (by (with_reducible repeat (first | apply Kd.R_alloc | apply Kd.R_drewN | apply Kd.R_drew)); exact HO326.out))) (below_size blw)); have n2_ := Aside0.mk (below_step blw hb); clear HO326; clear HB; have HO326 := n0_; have HO331 := n1_; have HB := n2_; clear n0_ n1_ n2_; (try clear hb); (try clear hb2); (try clear hk); (try clear hi); (try clear ho0)))
 (try simp only [Act.put, List.setIfInBounds_toArray, List.set_cons_zero, List.set_cons_succ])
 go_cut [52] (fun v52 wc => ∃ (kq : Nat) (x52_5 : Bool), v52 = .bool x52_5 ∧ Aside0 (taplinelaw11_LexPieces.j0 kq a0 a1 t321 t322 t327 x52_5 = some r) ∧ Aside0 (kq ≤ k) ∧ Aside0 (Kd.R k38 38 wc w.heap.size (fun k_ => some k_ ≠ (v330 : Value).ownBlock) v325 t322) ∧ Aside0 (Kd.R k38 38 wc w.heap.size (fun k_ => some k_ ≠ (v325 : Value).ownBlock) v330 t327) ∧ Aside0 (Below w.heap.size w wc))
 case first =>
  have H := HC6.out
  clear HC6
  by_cases c10 : t324 = 0
  ·rw [if_pos c10] at H
   have c10b0 : (t324 == 0) = true := beq_iff_eq.mpr c10
   have c10b1 : (t324 != 0) = false := bne_eq_false_iff_eq.mpr c10
   clear c10
   (first | rw [c10b0] | (simp only [i64_w, i32_w]; rw [c10b0]) | skip)
   by_cases c11 : t329 = 0
   ·rw [if_pos c11] at H
    have c11b0 : (t329 == 0) = true := beq_iff_eq.mpr c11
    have c11b1 : (t329 != 0) = false := bne_eq_false_iff_eq.mpr c11
    clear c11
    by_cases c12 : (wrap64 ((wrap64 ((a0.size : Int) + (a1.size : Int))) + 3)) > 20000
    ·rw [if_pos c12] at H
     have c12b0 : decide (20000 < (wrap64 ((wrap64 ((a0.size : Int) + (a1.size : Int))) + 3))) = true := decide_eq_true c12
     clear c12
     have H' := Aside0.mk H
     clear H
     go_wp2
     go_meet
     case rel => exact ⟨_, (true), rsd, H', ⟨by first | omega | exact Nat.le_refl _⟩, ⟨by (with_reducible repeat (first | apply Kd.R_alloc | apply Kd.R_drewN | apply Kd.R_drew)); exact Kd.R_mono HO326.out (fun _ hk => hk.2)⟩, ⟨by (with_reducible repeat (first | apply Kd.R_alloc | apply Kd.R_drewN | apply Kd.R_drew)); exact Kd.R_mono HO331.out (fun _ hk => hk.2)⟩, ⟨blw⟩⟩
    ·rw [if_neg c12] at H
     have c12b0 : decide (20000 < (wrap64 ((wrap64 ((a0.size : Int) + (a1.size : Int))) + 3))) = false := decide_eq_false c12
     clear c12
     have H' := Aside0.mk H
     clear H
     obtain ⟨Ao13, co13, eo13⟩ := Kd.R_slice HO326.out
     subst eo13
     obtain ⟨Ao14, co14, eo14⟩ := Kd.R_slice HO331.out
     subst eo14
     go_wp2
     go_meet
     case rel => exact ⟨_, (decide ((wrap64 ((wrap64 ((t322.length : Int) + (t327.length : Int))) + 1)) > 4000)), rsd, H', ⟨by first | omega | exact Nat.le_refl _⟩, ⟨by (with_reducible repeat (first | apply Kd.R_alloc | apply Kd.R_drewN | apply Kd.R_drew)); exact Kd.R_mono HO326.out (fun _ hk => hk.2)⟩, ⟨by (with_reducible repeat (first | apply Kd.R_alloc | apply Kd.R_drewN | apply Kd.R_drew)); exact Kd.R_mono HO331.out (fun _ hk => hk.2)⟩, ⟨blw⟩⟩
   ·rw [if_neg c11] at H
    have c11b0 : (t329 == 0) = false := beq_eq_false_iff_ne.mpr c11
    have c11b1 : (t329 != 0) = true := bne_iff_ne.mpr c11
    have H' := Aside0.mk H
    clear H
    go_wp2
    go_meet
    case rel => exact ⟨_, (true), rsd, H', ⟨by first | omega | exact Nat.le_refl _⟩, ⟨by (with_reducible repeat (first | apply Kd.R_alloc | apply Kd.R_drewN | apply Kd.R_drew)); exact Kd.R_mono HO326.out (fun _ hk => hk.2)⟩, ⟨by (with_reducible repeat (first | apply Kd.R_alloc | apply Kd.R_drewN | apply Kd.R_drew)); exact Kd.R_mono HO331.out (fun _ hk => hk.2)⟩, ⟨blw⟩⟩
  ·rw [if_neg c10] at H
   have c10b0 : (t324 == 0) = false := beq_eq_false_iff_ne.mpr c10
   have c10b1 : (t324 != 0) = true := bne_iff_ne.mpr c10
   (first | rw [c10b0] | (simp only [i64_w, i32_w]; rw [c10b0]) | skip)
   have H' := Aside0.mk H
   clear H
   go_wp2
   go_meet
   case rel => exact ⟨_, (true), rsd, H', ⟨by first | omega | exact Nat.le_refl _⟩, ⟨by (with_reducible repeat (first | apply Kd.R_alloc | apply Kd.R_drewN | apply Kd.R_drew)); exact Kd.R_mono HO326.out (fun _ hk => hk.2)⟩, ⟨by (with_reducible repeat (first | apply Kd.R_alloc | apply Kd.R_drewN | apply Kd.R_drew)); exact Kd.R_mono HO331.out (fun _ hk => hk.2)⟩, ⟨blw⟩⟩
 case rest =>
  clear HC6
  try clear c1
  try clear p2
  try clear p6
  try clear c9
  try clear c10
  try clear c10b0
  try clear c10b1
  try clear c11
  try clear c11b0
  try clear c11b1
  try clear c12
  try clear c12b0
  obtain ⟨kq, x52_5, rfl, HA, HJ5, HO_6, HO_9, HB⟩ := hcut
  cases kq with
  | zero => exact absurd HA.out (by simp [taplinelaw11_LexPieces.j0])
  | succ kj5 =>
   have H := HA.out
   clear HA
   simp only [taplinelaw11_LexPieces.j0] at H
   by_cases c15 : x52_5 = true
   ·subst c15
    have H1 : (some t321) = some r := by rw [if_pos rfl] at H; exact H
    clear H
    have H := H1
    clear H1
    obtain rfl := Option.some.inj H
    go_wp2
    go_ret
    exact ⟨rew, blw⟩
   ·replace c15 := Bool.eq_false_iff.mpr c15
    subst c15
    have H1 : (if a0.size + 3 ≤ 9223372036854775807 then (if (a0 ++ (⟨#[10, 59, 32]⟩ : ByteArray)).size + a1.size ≤ 9223372036854775807 then ((lex_Scan.f ((a0 ++ (⟨#[10, 59, 32]⟩ : ByteArray)) ++ a1)).bind fun bt332 => ((some (([] : List (S38)) : List (S38))).bind fun y337 => (if y337.length + t322.length < 4398046511104 then ((some (y337 ++ t322 : List (S38))).bind fun y340 => (if y340.length < 4398046511104 then ((some (y340 ++ [(⟨5, (⟨#[59]⟩ : ByteArray), 0⟩ : S38)] : List (S38))).bind fun y343 => (if t321 = true then (if bt332.2.2 = 0 then (if y343.length + t327.length < 4398046511104 then ((lex_Same.f bt332.1 (y343 ++ t327)).bind fun t349 => (some t349)) else (none)) else (some false)) else (some false))) else (none))) else (none)))) else (none)) else (none)) = some r := by rw [if_neg (show ¬ (false = true) by decide)] at H; exact H
    clear H
    have H := H1
    clear H1
    by_cases c16 : a0.size + 3 ≤ 9223372036854775807
    ·rw [if_pos c16] at H
     have c16b0 := eq_true c16
     have c16b1 : decide (a0.size + 3 ≤ 9223372036854775807) = true := decide_eq_true c16
     try have c16b2 : (9223372036854775807 < a0.size + 3) = False := eq_false (Nat.not_lt.2 c16)
     by_cases c17 : (a0 ++ (⟨#[10, 59, 32]⟩ : ByteArray)).size + a1.size ≤ 9223372036854775807
     ·rw [if_pos c17] at H
      have c17b0 := eq_true c17
      have c17b1 : decide ((a0 ++ (⟨#[10, 59, 32]⟩ : ByteArray)).size + a1.size ≤ 9223372036854775807) = true := decide_eq_true c17
      try have c17b2 : (9223372036854775807 < (a0 ++ (⟨#[10, 59, 32]⟩ : ByteArray)).size + a1.size) = False := eq_false (Nat.not_lt.2 c17)
      replace H := Option.bind_eq_some_iff.mp H
      obtain ⟨⟨t332, t333, t334⟩, A180, H⟩ := H
      replace H : ((some (([] : List (S38)) : List (S38))).bind fun y337 => (if y337.length + t322.length < 4398046511104 then ((some (y337 ++ t322 : List (S38))).bind fun y340 => (if y340.length < 4398046511104 then ((some (y340 ++ [(⟨5, (⟨#[59]⟩ : ByteArray), 0⟩ : S38)] : List (S38))).bind fun y343 => (if t321 = true then (if t334 = 0 then (if y343.length + t327.length < 4398046511104 then ((lex_Same.f t332 (y343 ++ t327)).bind fun t349 => (some t349)) else (none)) else (some false)) else (some false))) else (none))) else (none))) = some r := H
      have A18 := Aside0.mk A180
      clear A180
      obtain ⟨y337, hy337⟩ : ∃ y_ : List (S38), y_ = (([] : List (S38))) := ⟨_, rfl⟩
      replace H : (if y337.length + t322.length < 4398046511104 then ((some (y337 ++ t322 : List (S38))).bind fun y340 => (if y340.length < 4398046511104 then ((some (y340 ++ [(⟨5, (⟨#[59]⟩ : ByteArray), 0⟩ : S38)] : List (S38))).bind fun y343 => (if t321 = true then (if t334 = 0 then (if y343.length + t327.length < 4398046511104 then ((lex_Same.f t332 (y343 ++ t327)).bind fun t349 => (some t349)) else (none)) else (some false)) else (some false))) else (none))) else (none)) = some r := by first | (rw [hy337]; with_reducible exact H) | (have H2_ := (Option.bind_some _ _).symm.trans H; rw [hy337]; with_reducible exact H2_) | (have H2_ := (Option.bind_some _ _).symm.trans H; with_reducible exact H2_) | with_reducible exact H | (rw [hy337]; exact H) | exact H
      have Ny337 := Aside0.mk hy337
      clear hy337
      by_cases c19 : y337.length + t322.length < 4398046511104
      ·rw [if_pos c19] at H
       have LMc19 := Aside0.mk c19
       clear c19
       obtain ⟨y340, hy340⟩ : ∃ y_ : List (S38), y_ = (y337 ++ t322) := ⟨_, rfl⟩
       replace H : (if y340.length < 4398046511104 then ((some (y340 ++ [(⟨5, (⟨#[59]⟩ : ByteArray), 0⟩ : S38)] : List (S38))).bind fun y343 => (if t321 = true then (if t334 = 0 then (if y343.length + t327.length < 4398046511104 then ((lex_Same.f t332 (y343 ++ t327)).bind fun t349 => (some t349)) else (none)) else (some false)) else (some false))) else (none)) = some r := by first | (rw [hy340]; with_reducible exact H) | (have H2_ := (Option.bind_some _ _).symm.trans H; rw [hy340]; with_reducible exact H2_) | (have H2_ := (Option.bind_some _ _).symm.trans H; with_reducible exact H2_) | with_reducible exact H | (rw [hy340]; exact H) | exact H
       have Ny340 := Aside0.mk hy340
       clear hy340
       by_cases c20 : y340.length < 4398046511104
       ·rw [if_pos c20] at H
        have LMc20 := Aside0.mk c20
        clear c20
        obtain ⟨y343, hy343⟩ : ∃ y_ : List (S38), y_ = (y340 ++ [(⟨5, (⟨#[59]⟩ : ByteArray), 0⟩ : S38)]) := ⟨_, rfl⟩
        replace H : (if t321 = true then (if t334 = 0 then (if y343.length + t327.length < 4398046511104 then ((lex_Same.f t332 (y343 ++ t327)).bind fun t349 => (some t349)) else (none)) else (some false)) else (some false)) = some r := by first | (rw [hy343]; with_reducible exact H) | (have H2_ := (Option.bind_some _ _).symm.trans H; rw [hy343]; with_reducible exact H2_) | (have H2_ := (Option.bind_some _ _).symm.trans H; with_reducible exact H2_) | with_reducible exact H | (rw [hy343]; exact H) | exact H
        have Ny343 := Aside0.mk hy343
        clear hy343
        by_cases c21 : t321 = true
        ·subst c21
         have H1 : (if t334 = 0 then (if y343.length + t327.length < 4398046511104 then ((lex_Same.f t332 (y343 ++ t327)).bind fun t349 => (some t349)) else (none)) else (some false)) = some r := by rw [if_pos rfl] at H; exact H
         clear H
         have H := H1
         clear H1
         by_cases c22 : t334 = 0
         ·rw [if_pos c22] at H
          have c22b0 : (t334 == 0) = true := beq_iff_eq.mpr c22
          have c22b1 : (t334 != 0) = false := bne_eq_false_iff_eq.mpr c22
          clear c22
          by_cases c23 : y343.length + t327.length < 4398046511104
          ·rw [if_pos c23] at H
           have LMc23 := Aside0.mk c23
           clear c23
           obtain ⟨y346, hy346⟩ : ∃ y_ : List (S38), y_ = (y343 ++ t327) := ⟨_, rfl⟩
           replace H : ((lex_Same.f t332 y346).bind fun t349 => (some t349)) = some r := by first | (rw [hy346]; with_reducible exact H) | (have H2_ := (Option.bind_some _ _).symm.trans H; rw [hy346]; with_reducible exact H2_) | (have H2_ := (Option.bind_some _ _).symm.trans H; with_reducible exact H2_) | with_reducible exact H | (rw [hy346]; exact H) | exact H
           have Ny346 := Aside0.mk hy346
           clear hy346
           replace H := Option.bind_eq_some_iff.mp H
           obtain ⟨t349, A240, H⟩ := H
           replace H : (some t349) = some r := H
           have A24 := Aside0.mk A240
           clear A240
           obtain rfl := Option.some.inj H
           go_wp2_with (first | ((with_reducible refine gate_callee (f := 17) rfl ?_); refine goesL_ (some 59) rfl rfl Tryz.func17 (by kernel_rfl) rfl #[.string ((a0 ++ (⟨#[10, 59, 32]⟩ : ByteArray)) ++ a1)] rfl fq ?_; (with_reducible refine (lex_Scan.calls ((a0 ++ (⟨#[10, 59, 32]⟩ : ByteArray)) ++ a1) t332 t333 t334 _ A18.out gwx).mono ?_); rintro e w25 ⟨v335, rfl, ho0, hb⟩; refine ⟨_, rfl, ?_⟩; have n0_ := Aside0.mk (Kd.R_elder' (by (with_reducible repeat (first | apply Kd.R_alloc | apply Kd.R_drewN | apply Kd.R_drew)); exact HO_6.out) (Kd.R_base ho0) hb); have n1_ := Aside0.mk (Kd.R_elder' (by (with_reducible repeat (first | apply Kd.R_alloc | apply Kd.R_drewN | apply Kd.R_drew)); exact HO_9.out) (Kd.R_base ho0) hb); have n2_ := Aside0.mk (Kd.R_lower (Kd.R_new' (Kd.R_new' ho0 (Kd.R_lt (by (with_reducible repeat (first | apply Kd.R_alloc | apply Kd.R_drewN | apply Kd.R_drew)); exact HO_6.out))) (Kd.R_lt (by (with_reducible repeat (first | apply Kd.R_alloc | apply Kd.R_drewN | apply Kd.R_drew)); exact HO_9.out))) (below_size blw)); have n3_ := Aside0.mk (below_step blw hb); clear HO_6; clear HO_9; clear HB; have HO_6 := n0_; have HO_9 := n1_; have HO336 := n2_; have HB := n3_; clear n0_ n1_ n2_ n3_; (try clear hb); (try clear hb2); (try clear hk); (try clear hi); (try clear ho0)) | ((with_reducible refine gate_dst (N := 63) rfl ?_); (try (refine gate_guard (by rfl) ?_; dsimp only)); refine Kd.R_lit k38 _ 38 ?hg (N := 63) ?hd (xs := ([] : List (S38))) (inner := []) (ok := fun _ => True) (okp := fun _ => True) ?hr ?hp (fun _ hk => hk) trivial (Below.refl _ _) (Nat.le_refl _) (by simp) ?_; (case hd => rfl); (case hg => rfl); (case hr => first | (go_simp; done) | (go_simp; rfl)); (case hp => exact (Reps.none _ _)); intro v338 w26 ho27 hb hg_ hnew_; clear hg_ hnew_; (first | rw [← Ny337.out] at ho27 | (simp only [Int.reduceToNat] at ho27; rw [← Ny337.out] at ho27)); have n0_ := Aside0.mk (Kd.R_elder' (by (with_reducible repeat (first | apply Kd.R_alloc | apply Kd.R_drewN | apply Kd.R_drew)); exact HO_6.out) (Kd.R_base ho27) hb); have n1_ := Aside0.mk (Kd.R_elder' (by (with_reducible repeat (first | apply Kd.R_alloc | apply Kd.R_drewN | apply Kd.R_drew)); exact HO_9.out) (Kd.R_base ho27) hb); have n2_ := Aside0.mk (Kd.R_elder' (by (with_reducible repeat (first | apply Kd.R_alloc | apply Kd.R_drewN | apply Kd.R_drew)); exact HO336.out) (Kd.R_base ho27) hb); have n3_ := Aside0.mk (Kd.R_lower (Kd.R_new' (Kd.R_new' (Kd.R_new' ho27 (Kd.R_lt (by (with_reducible repeat (first | apply Kd.R_alloc | apply Kd.R_drewN | apply Kd.R_drew)); exact HO_6.out))) (Kd.R_lt (by (with_reducible repeat (first | apply Kd.R_alloc | apply Kd.R_drewN | apply Kd.R_drew)); exact HO_9.out))) (Kd.R_lt (by (with_reducible repeat (first | apply Kd.R_alloc | apply Kd.R_drewN | apply Kd.R_drew)); exact HO336.out))) (below_size blw)); have n4_ := Aside0.mk (below_step blw hb); clear HO_6; clear HO_9; clear HO336; clear HB; have HO_6 := n0_; have HO_9 := n1_; have HO336 := n2_; have HO339 := n3_; have HB := n4_; clear n0_ n1_ n2_ n3_ n4_; clear hb ho27; obtain ⟨Ao29, co29, eo29⟩ := Kd.R_slice HO_6.out; subst eo29) | ((with_reducible refine gate_builtin (b := .append) (xs := #[.tmp 63, .tmp 64]) rfl ?_); (try (refine gate_guard (by rfl) ?_; dsimp only)); at_builtin; refine Kd.R_append_rows k38 (w0 := w) w.heap.size rfl (.tmp 63) (.tmp 64) 23 38 (.agg #[(.int .i64 0), (.string ⟨#[]⟩), (.int .i64 0)]) 32 rfl Tryz.underlying23 info38 rfl (by decide) (by omega) v338 y337 t322 _ _ _ (fun k_ => some k_ ≠ (.slice Ao29 t322.length co29 : Value).ownBlock ∧ some k_ ≠ (v330 : Value).ownBlock ∧ some k_ ≠ (v335 : Value).ownBlock) (fun _ => False) rfl rfl ?aO ?aR (fun _ _ h => h) (fun _ h => h.elim) ?aF ?aB ?aS ?aL ?_; (case aR => repeat (first | exact (Kd.R_reads' HO_6.out).2.2 | (with_reducible refine Kd.C_alloc ?_ _) | (with_reducible refine Kd.C_drewN ?_ _) | (with_reducible refine Kd.C_drew ?_))); (case aB => exact blw); (case aF => exact (fun k_ hk => ⟨Kd.fresh' (Kd.R_lt (by (with_reducible repeat (first | apply Kd.R_alloc | apply Kd.R_drewN | apply Kd.R_drew)); exact HO_6.out)) k_ hk, Kd.fresh' (Kd.R_lt (by (with_reducible repeat (first | apply Kd.R_alloc | apply Kd.R_drewN | apply Kd.R_drew)); exact HO_9.out)) k_ hk, Kd.fresh' (Kd.R_lt (by (with_reducible repeat (first | apply Kd.R_alloc | apply Kd.R_drewN | apply Kd.R_drew)); exact HO336.out)) k_ hk⟩)); (case aO => exact (by (with_reducible repeat (first | apply Kd.R_alloc | apply Kd.R_drewN | apply Kd.R_drew)); exact Kd.R_mono HO339.out (fun _ hk => ⟨hk.1.1.2, ⟨hk.1.2, hk.2⟩⟩))); (case aS => exact (below_size blw)); (case aL => have := LMc19.out; omega); intro v341 w28 ho hb hg hat; rw [← Ny340.out] at ho; have n0_ := Aside0.mk (Kd.R_after (ok := (fun k_ => some k_ ≠ (v330 : Value).ownBlock ∧ some k_ ≠ (v335 : Value).ownBlock)) (by (with_reducible repeat (first | apply Kd.R_alloc | apply Kd.R_drewN | apply Kd.R_drew)); exact HO_6.out) hg hat); have n1_ := Aside0.mk (Kd.R_after (ok := (fun k_ => some k_ ≠ (.slice Ao29 t322.length co29 : Value).ownBlock ∧ some k_ ≠ (v335 : Value).ownBlock)) (by (with_reducible repeat (first | apply Kd.R_alloc | apply Kd.R_drewN | apply Kd.R_drew)); exact HO_9.out) hg hat); have n2_ := Aside0.mk (Kd.R_after (ok := (fun k_ => some k_ ≠ (.slice Ao29 t322.length co29 : Value).ownBlock ∧ some k_ ≠ (v330 : Value).ownBlock)) (by (with_reducible repeat (first | apply Kd.R_alloc | apply Kd.R_drewN | apply Kd.R_drew)); exact Kd.R_mono HO336.out (fun _ hk => ⟨⟨hk.1.1.2, hk.1.2⟩, hk.2⟩)) hg hat); have n3_ := Aside0.mk (hb); have n4_ := Aside0.mk (ho); clear HO_6; clear HO_9; clear HO336; clear HB; clear HO339; have HO_6 := n0_; have HO_9 := n1_; have HO336 := n2_; have HB := n3_; have HO342 := n4_; clear n0_ n1_ n2_ n3_ n4_; clear ho hb hg hat) | ((with_reducible refine gate_builtin (b := .append) (xs := #[.tmp 65, .tmp 67]) rfl ?_); (try (refine gate_guard (by rfl) ?_; dsimp only)); at_builtin; refine Kd.R_append k38 (w0 := w) w.heap.size rfl (.tmp 65) (.tmp 67) 23 38 (.agg #[(.int .i64 0), (.string ⟨#[]⟩), (.int .i64 0)]) 32 rfl Tryz.underlying23 info38 rfl (by decide) (by omega) v341 y340 (⟨5, (⟨#[59]⟩ : ByteArray), 0⟩ : S38) [.int .i64 5, .string (⟨#[59]⟩ : ByteArray), .int .i64 0] (fun k_ => some k_ ≠ (.slice Ao29 t322.length co29 : Value).ownBlock ∧ some k_ ≠ (v330 : Value).ownBlock ∧ some k_ ≠ (v335 : Value).ownBlock) (fun _ => False) rfl rfl ?aP (fun _ hk => hk.elim) ?aF ?aO ?aB ?aS ?aL ?_; (case aP => exact k38_mkM _ _ _ (⟨5, (⟨#[59]⟩ : ByteArray), 0⟩ : S38)); (case aB => exact blw); (case aF => exact (fun k_ hk => ⟨Kd.fresh' (Kd.R_lt (by (with_reducible repeat (first | apply Kd.R_alloc | apply Kd.R_drewN | apply Kd.R_drew)); exact HO_6.out)) k_ hk, Kd.fresh' (Kd.R_lt (by (with_reducible repeat (first | apply Kd.R_alloc | apply Kd.R_drewN | apply Kd.R_drew)); exact HO_9.out)) k_ hk, Kd.fresh' (Kd.R_lt (by (with_reducible repeat (first | apply Kd.R_alloc | apply Kd.R_drewN | apply Kd.R_drew)); exact HO336.out)) k_ hk⟩)); (case aO => exact (by (with_reducible repeat (first | apply Kd.R_alloc | apply Kd.R_drewN | apply Kd.R_drew)); exact HO342.out)); (case aS => exact (below_size blw)); (case aL => have := LMc20.out; omega); intro v344 w30 ho hb hg hat; rw [← Ny343.out] at ho; have n0_ := Aside0.mk (Kd.R_after (ok := (fun k_ => some k_ ≠ (v330 : Value).ownBlock ∧ some k_ ≠ (v335 : Value).ownBlock)) (by (with_reducible repeat (first | apply Kd.R_alloc | apply Kd.R_drewN | apply Kd.R_drew)); exact HO_6.out) hg hat); have n1_ := Aside0.mk (Kd.R_after (ok := (fun k_ => some k_ ≠ (.slice Ao29 t322.length co29 : Value).ownBlock ∧ some k_ ≠ (v335 : Value).ownBlock)) (by (with_reducible repeat (first | apply Kd.R_alloc | apply Kd.R_drewN | apply Kd.R_drew)); exact HO_9.out) hg hat); have n2_ := Aside0.mk (Kd.R_after (ok := (fun k_ => some k_ ≠ (.slice Ao29 t322.length co29 : Value).ownBlock ∧ some k_ ≠ (v330 : Value).ownBlock)) (by (with_reducible repeat (first | apply Kd.R_alloc | apply Kd.R_drewN | apply Kd.R_drew)); exact HO336.out) hg hat); have n3_ := Aside0.mk (hb); have n4_ := Aside0.mk (ho); clear HO_6; clear HO_9; clear HO336; clear HB; clear HO342; have HO_6 := n0_; have HO_9 := n1_; have HO336 := n2_; have HB := n3_; have HO345 := n4_; clear n0_ n1_ n2_ n3_ n4_; clear ho hb hg hat; obtain ⟨Ao32, co32, eo32⟩ := Kd.R_slice HO_9.out; subst eo32) | ((with_reducible refine gate_builtin (b := .append) (xs := #[.tmp 76, .tmp 77]) rfl ?_); (try (refine gate_guard (by rfl) ?_; dsimp only)); at_builtin; refine Kd.R_append_rows k38 (w0 := w) w.heap.size rfl (.tmp 76) (.tmp 77) 23 38 (.agg #[(.int .i64 0), (.string ⟨#[]⟩), (.int .i64 0)]) 32 rfl Tryz.underlying23 info38 rfl (by decide) (by omega) v344 y343 t327 _ _ _ (fun k_ => some k_ ≠ (.slice Ao29 t322.length co29 : Value).ownBlock ∧ some k_ ≠ (.slice Ao32 t327.length co32 : Value).ownBlock ∧ some k_ ≠ (v335 : Value).ownBlock) (fun _ => False) rfl rfl ?aO ?aR (fun _ _ h => h) (fun _ h => h.elim) ?aF ?aB ?aS ?aL ?_; (case aR => repeat (first | exact (Kd.R_reads' HO_9.out).2.2 | (with_reducible refine Kd.C_alloc ?_ _) | (with_reducible refine Kd.C_drewN ?_ _) | (with_reducible refine Kd.C_drew ?_))); (case aB => exact blw); (case aF => exact (fun k_ hk => ⟨Kd.fresh' (Kd.R_lt (by (with_reducible repeat (first | apply Kd.R_alloc | apply Kd.R_drewN | apply Kd.R_drew)); exact HO_6.out)) k_ hk, Kd.fresh' (Kd.R_lt (by (with_reducible repeat (first | apply Kd.R_alloc | apply Kd.R_drewN | apply Kd.R_drew)); exact HO_9.out)) k_ hk, Kd.fresh' (Kd.R_lt (by (with_reducible repeat (first | apply Kd.R_alloc | apply Kd.R_drewN | apply Kd.R_drew)); exact HO336.out)) k_ hk⟩)); (case aO => exact (by (with_reducible repeat (first | apply Kd.R_alloc | apply Kd.R_drewN | apply Kd.R_drew)); exact HO345.out)); (case aS => exact (below_size blw)); (case aL => have := LMc23.out; omega); intro v347 w31 ho hb hg hat; rw [← Ny346.out] at ho; have n0_ := Aside0.mk (Kd.R_after (ok := (fun k_ => some k_ ≠ (.slice Ao32 t327.length co32 : Value).ownBlock ∧ some k_ ≠ (v335 : Value).ownBlock)) (by (with_reducible repeat (first | apply Kd.R_alloc | apply Kd.R_drewN | apply Kd.R_drew)); exact HO_6.out) hg hat); have n1_ := Aside0.mk (Kd.R_after (ok := (fun k_ => some k_ ≠ (.slice Ao29 t322.length co29 : Value).ownBlock ∧ some k_ ≠ (v335 : Value).ownBlock)) (by (with_reducible repeat (first | apply Kd.R_alloc | apply Kd.R_drewN | apply Kd.R_drew)); exact HO_9.out) hg hat); have n2_ := Aside0.mk (Kd.R_after (ok := (fun k_ => some k_ ≠ (.slice Ao29 t322.length co29 : Value).ownBlock ∧ some k_ ≠ (.slice Ao32 t327.length co32 : Value).ownBlock)) (by (with_reducible repeat (first | apply Kd.R_alloc | apply Kd.R_drewN | apply Kd.R_drew)); exact HO336.out) hg hat); have n3_ := Aside0.mk (hb); have n4_ := Aside0.mk (ho); clear HO_6; clear HO_9; clear HO336; clear HB; clear HO345; have HO_6 := n0_; have HO_9 := n1_; have HO336 := n2_; have HB := n3_; have HO348 := n4_; clear n0_ n1_ n2_ n3_ n4_; clear ho hb hg hat; obtain ⟨Ao33, co33, eo33⟩ := Kd.R_slice HO336.out; subst eo33; obtain ⟨Ao34, co34, eo34⟩ := Kd.R_slice HO348.out; subst eo34) | (go_at_call 28; (with_reducible refine (lex_Same.calls _ _ t332 _ _ y346 t349 _ ?side1 ?side2 ?side3 ?side4 A24.out).mono ?_); (case side1 => repeat (first | exact (Kd.R_reads' HO336.out).2.2 | (with_reducible refine Kd.C_alloc ?_ _) | (with_reducible refine Kd.C_drewN ?_ _) | (with_reducible refine Kd.C_drew ?_))); (case side2 => exact (Kd.R_reads' HO336.out).2.1); (case side3 => repeat (first | exact (Kd.R_reads' HO348.out).2.2 | (with_reducible refine Kd.C_alloc ?_ _) | (with_reducible refine Kd.C_drewN ?_ _) | (with_reducible refine Kd.C_drew ?_))); (case side4 => exact (Kd.R_reads' HO348.out).2.1); rintro e w35 ⟨rfl, hb⟩; have n0_ := Aside0.mk (Kd.R_below (by (with_reducible repeat (first | apply Kd.R_alloc | apply Kd.R_drewN | apply Kd.R_drew)); exact HO_6.out) hb); have n1_ := Aside0.mk (Kd.R_below (by (with_reducible repeat (first | apply Kd.R_alloc | apply Kd.R_drewN | apply Kd.R_drew)); exact HO_9.out) hb); have n2_ := Aside0.mk (Kd.R_below (by (with_reducible repeat (first | apply Kd.R_alloc | apply Kd.R_drewN | apply Kd.R_drew)); exact HO336.out) hb); have n3_ := Aside0.mk (Kd.R_below (by (with_reducible repeat (first | apply Kd.R_alloc | apply Kd.R_drewN | apply Kd.R_drew)); exact HO348.out) hb); have n4_ := Aside0.mk (below_step blw hb); clear HO_6; clear HO_9; clear HO336; clear HO348; clear HB; have HO_6 := n0_; have HO_9 := n1_; have HO336 := n2_; have HO348 := n3_; have HB := n4_; clear n0_ n1_ n2_ n3_ n4_; (try clear hb); (try clear hb2); (try clear hk); (try clear hi)))
           go_ret
           exact ⟨rew, blw⟩
          ·rw [if_neg c23] at H
           exact absurd H (by simp)
         ·rw [if_neg c22] at H
          have c22b0 : (t334 == 0) = false := beq_eq_false_iff_ne.mpr c22
          have c22b1 : (t334 != 0) = true := bne_iff_ne.mpr c22
          obtain rfl := Option.some.inj H
          go_wp2_with (first | ((with_reducible refine gate_callee (f := 17) rfl ?_); refine goesL_ (some 59) rfl rfl Tryz.func17 (by kernel_rfl) rfl #[.string ((a0 ++ (⟨#[10, 59, 32]⟩ : ByteArray)) ++ a1)] rfl fq ?_; (with_reducible refine (lex_Scan.calls ((a0 ++ (⟨#[10, 59, 32]⟩ : ByteArray)) ++ a1) t332 t333 t334 _ A18.out gwx).mono ?_); rintro e w36 ⟨v335, rfl, ho0, hb⟩; refine ⟨_, rfl, ?_⟩; have n0_ := Aside0.mk (Kd.R_elder' (by (with_reducible repeat (first | apply Kd.R_alloc | apply Kd.R_drewN | apply Kd.R_drew)); exact HO_6.out) (Kd.R_base ho0) hb); have n1_ := Aside0.mk (Kd.R_elder' (by (with_reducible repeat (first | apply Kd.R_alloc | apply Kd.R_drewN | apply Kd.R_drew)); exact HO_9.out) (Kd.R_base ho0) hb); have n2_ := Aside0.mk (Kd.R_lower (Kd.R_new' (Kd.R_new' ho0 (Kd.R_lt (by (with_reducible repeat (first | apply Kd.R_alloc | apply Kd.R_drewN | apply Kd.R_drew)); exact HO_6.out))) (Kd.R_lt (by (with_reducible repeat (first | apply Kd.R_alloc | apply Kd.R_drewN | apply Kd.R_drew)); exact HO_9.out))) (below_size blw)); have n3_ := Aside0.mk (below_step blw hb); clear HO_6; clear HO_9; clear HB; have HO_6 := n0_; have HO_9 := n1_; have HO336 := n2_; have HB := n3_; clear n0_ n1_ n2_ n3_; (try clear hb); (try clear hb2); (try clear hk); (try clear hi); (try clear ho0)) | ((with_reducible refine gate_dst (N := 63) rfl ?_); (try (refine gate_guard (by rfl) ?_; dsimp only)); refine Kd.R_lit k38 _ 38 ?hg (N := 63) ?hd (xs := ([] : List (S38))) (inner := []) (ok := fun _ => True) (okp := fun _ => True) ?hr ?hp (fun _ hk => hk) trivial (Below.refl _ _) (Nat.le_refl _) (by simp) ?_; (case hd => rfl); (case hg => rfl); (case hr => first | (go_simp; done) | (go_simp; rfl)); (case hp => exact (Reps.none _ _)); intro v338 w37 ho38 hb hg_ hnew_; clear hg_ hnew_; (first | rw [← Ny337.out] at ho38 | (simp only [Int.reduceToNat] at ho38; rw [← Ny337.out] at ho38)); have n0_ := Aside0.mk (Kd.R_elder' (by (with_reducible repeat (first | apply Kd.R_alloc | apply Kd.R_drewN | apply Kd.R_drew)); exact HO_6.out) (Kd.R_base ho38) hb); have n1_ := Aside0.mk (Kd.R_elder' (by (with_reducible repeat (first | apply Kd.R_alloc | apply Kd.R_drewN | apply Kd.R_drew)); exact HO_9.out) (Kd.R_base ho38) hb); have n2_ := Aside0.mk (Kd.R_elder' (by (with_reducible repeat (first | apply Kd.R_alloc | apply Kd.R_drewN | apply Kd.R_drew)); exact HO336.out) (Kd.R_base ho38) hb); have n3_ := Aside0.mk (Kd.R_lower (Kd.R_new' (Kd.R_new' (Kd.R_new' ho38 (Kd.R_lt (by (with_reducible repeat (first | apply Kd.R_alloc | apply Kd.R_drewN | apply Kd.R_drew)); exact HO_6.out))) (Kd.R_lt (by (with_reducible repeat (first | apply Kd.R_alloc | apply Kd.R_drewN | apply Kd.R_drew)); exact HO_9.out))) (Kd.R_lt (by (with_reducible repeat (first | apply Kd.R_alloc | apply Kd.R_drewN | apply Kd.R_drew)); exact HO336.out))) (below_size blw)); have n4_ := Aside0.mk (below_step blw hb); clear HO_6; clear HO_9; clear HO336; clear HB; have HO_6 := n0_; have HO_9 := n1_; have HO336 := n2_; have HO339 := n3_; have HB := n4_; clear n0_ n1_ n2_ n3_ n4_; clear hb ho38; obtain ⟨Ao40, co40, eo40⟩ := Kd.R_slice HO_6.out; subst eo40) | ((with_reducible refine gate_builtin (b := .append) (xs := #[.tmp 63, .tmp 64]) rfl ?_); (try (refine gate_guard (by rfl) ?_; dsimp only)); at_builtin; refine Kd.R_append_rows k38 (w0 := w) w.heap.size rfl (.tmp 63) (.tmp 64) 23 38 (.agg #[(.int .i64 0), (.string ⟨#[]⟩), (.int .i64 0)]) 32 rfl Tryz.underlying23 info38 rfl (by decide) (by omega) v338 y337 t322 _ _ _ (fun k_ => some k_ ≠ (.slice Ao40 t322.length co40 : Value).ownBlock ∧ some k_ ≠ (v330 : Value).ownBlock ∧ some k_ ≠ (v335 : Value).ownBlock) (fun _ => False) rfl rfl ?aO ?aR (fun _ _ h => h) (fun _ h => h.elim) ?aF ?aB ?aS ?aL ?_; (case aR => repeat (first | exact (Kd.R_reads' HO_6.out).2.2 | (with_reducible refine Kd.C_alloc ?_ _) | (with_reducible refine Kd.C_drewN ?_ _) | (with_reducible refine Kd.C_drew ?_))); (case aB => exact blw); (case aF => exact (fun k_ hk => ⟨Kd.fresh' (Kd.R_lt (by (with_reducible repeat (first | apply Kd.R_alloc | apply Kd.R_drewN | apply Kd.R_drew)); exact HO_6.out)) k_ hk, Kd.fresh' (Kd.R_lt (by (with_reducible repeat (first | apply Kd.R_alloc | apply Kd.R_drewN | apply Kd.R_drew)); exact HO_9.out)) k_ hk, Kd.fresh' (Kd.R_lt (by (with_reducible repeat (first | apply Kd.R_alloc | apply Kd.R_drewN | apply Kd.R_drew)); exact HO336.out)) k_ hk⟩)); (case aO => exact (by (with_reducible repeat (first | apply Kd.R_alloc | apply Kd.R_drewN | apply Kd.R_drew)); exact Kd.R_mono HO339.out (fun _ hk => ⟨hk.1.1.2, ⟨hk.1.2, hk.2⟩⟩))); (case aS => exact (below_size blw)); (case aL => have := LMc19.out; omega); intro v341 w39 ho hb hg hat; rw [← Ny340.out] at ho; have n0_ := Aside0.mk (Kd.R_after (ok := (fun k_ => some k_ ≠ (v330 : Value).ownBlock ∧ some k_ ≠ (v335 : Value).ownBlock)) (by (with_reducible repeat (first | apply Kd.R_alloc | apply Kd.R_drewN | apply Kd.R_drew)); exact HO_6.out) hg hat); have n1_ := Aside0.mk (Kd.R_after (ok := (fun k_ => some k_ ≠ (.slice Ao40 t322.length co40 : Value).ownBlock ∧ some k_ ≠ (v335 : Value).ownBlock)) (by (with_reducible repeat (first | apply Kd.R_alloc | apply Kd.R_drewN | apply Kd.R_drew)); exact HO_9.out) hg hat); have n2_ := Aside0.mk (Kd.R_after (ok := (fun k_ => some k_ ≠ (.slice Ao40 t322.length co40 : Value).ownBlock ∧ some k_ ≠ (v330 : Value).ownBlock)) (by (with_reducible repeat (first | apply Kd.R_alloc | apply Kd.R_drewN | apply Kd.R_drew)); exact Kd.R_mono HO336.out (fun _ hk => ⟨⟨hk.1.1.2, hk.1.2⟩, hk.2⟩)) hg hat); have n3_ := Aside0.mk (hb); have n4_ := Aside0.mk (ho); clear HO_6; clear HO_9; clear HO336; clear HB; clear HO339; have HO_6 := n0_; have HO_9 := n1_; have HO336 := n2_; have HB := n3_; have HO342 := n4_; clear n0_ n1_ n2_ n3_ n4_; clear ho hb hg hat) | ((with_reducible refine gate_builtin (b := .append) (xs := #[.tmp 65, .tmp 67]) rfl ?_); (try (refine gate_guard (by rfl) ?_; dsimp only)); at_builtin; refine Kd.R_append k38 (w0 := w) w.heap.size rfl (.tmp 65) (.tmp 67) 23 38 (.agg #[(.int .i64 0), (.string ⟨#[]⟩), (.int .i64 0)]) 32 rfl Tryz.underlying23 info38 rfl (by decide) (by omega) v341 y340 (⟨5, (⟨#[59]⟩ : ByteArray), 0⟩ : S38) [.int .i64 5, .string (⟨#[59]⟩ : ByteArray), .int .i64 0] (fun k_ => some k_ ≠ (.slice Ao40 t322.length co40 : Value).ownBlock ∧ some k_ ≠ (v330 : Value).ownBlock ∧ some k_ ≠ (v335 : Value).ownBlock) (fun _ => False) rfl rfl ?aP (fun _ hk => hk.elim) ?aF ?aO ?aB ?aS ?aL ?_; (case aP => exact k38_mkM _ _ _ (⟨5, (⟨#[59]⟩ : ByteArray), 0⟩ : S38)); (case aB => exact blw); (case aF => exact (fun k_ hk => ⟨Kd.fresh' (Kd.R_lt (by (with_reducible repeat (first | apply Kd.R_alloc | apply Kd.R_drewN | apply Kd.R_drew)); exact HO_6.out)) k_ hk, Kd.fresh' (Kd.R_lt (by (with_reducible repeat (first | apply Kd.R_alloc | apply Kd.R_drewN | apply Kd.R_drew)); exact HO_9.out)) k_ hk, Kd.fresh' (Kd.R_lt (by (with_reducible repeat (first | apply Kd.R_alloc | apply Kd.R_drewN | apply Kd.R_drew)); exact HO336.out)) k_ hk⟩)); (case aO => exact (by (with_reducible repeat (first | apply Kd.R_alloc | apply Kd.R_drewN | apply Kd.R_drew)); exact HO342.out)); (case aS => exact (below_size blw)); (case aL => have := LMc20.out; omega); intro v344 w41 ho hb hg hat; rw [← Ny343.out] at ho; have n0_ := Aside0.mk (Kd.R_after (ok := (fun k_ => some k_ ≠ (v330 : Value).ownBlock ∧ some k_ ≠ (v335 : Value).ownBlock)) (by (with_reducible repeat (first | apply Kd.R_alloc | apply Kd.R_drewN | apply Kd.R_drew)); exact HO_6.out) hg hat); have n1_ := Aside0.mk (Kd.R_after (ok := (fun k_ => some k_ ≠ (.slice Ao40 t322.length co40 : Value).ownBlock ∧ some k_ ≠ (v335 : Value).ownBlock)) (by (with_reducible repeat (first | apply Kd.R_alloc | apply Kd.R_drewN | apply Kd.R_drew)); exact HO_9.out) hg hat); have n2_ := Aside0.mk (Kd.R_after (ok := (fun k_ => some k_ ≠ (.slice Ao40 t322.length co40 : Value).ownBlock ∧ some k_ ≠ (v330 : Value).ownBlock)) (by (with_reducible repeat (first | apply Kd.R_alloc | apply Kd.R_drewN | apply Kd.R_drew)); exact HO336.out) hg hat); have n3_ := Aside0.mk (hb); have n4_ := Aside0.mk (ho); clear HO_6; clear HO_9; clear HO336; clear HB; clear HO342; have HO_6 := n0_; have HO_9 := n1_; have HO336 := n2_; have HB := n3_; have HO345 := n4_; clear n0_ n1_ n2_ n3_ n4_; clear ho hb hg hat))
          go_ret
          exact ⟨rew, blw⟩
        ·replace c21 := Bool.eq_false_iff.mpr c21
         subst c21
         have H1 : (some false) = some r := by rw [if_neg (show ¬ (false = true) by decide)] at H; exact H
         clear H
         have H := H1
         clear H1
         obtain rfl := Option.some.inj H
         go_wp2_with (first | ((with_reducible refine gate_callee (f := 17) rfl ?_); refine goesL_ (some 59) rfl rfl Tryz.func17 (by kernel_rfl) rfl #[.string ((a0 ++ (⟨#[10, 59, 32]⟩ : ByteArray)) ++ a1)] rfl fq ?_; (with_reducible refine (lex_Scan.calls ((a0 ++ (⟨#[10, 59, 32]⟩ : ByteArray)) ++ a1) t332 t333 t334 _ A18.out gwx).mono ?_); rintro e w42 ⟨v335, rfl, ho0, hb⟩; refine ⟨_, rfl, ?_⟩; have n0_ := Aside0.mk (Kd.R_elder' (by (with_reducible repeat (first | apply Kd.R_alloc | apply Kd.R_drewN | apply Kd.R_drew)); exact HO_6.out) (Kd.R_base ho0) hb); have n1_ := Aside0.mk (Kd.R_elder' (by (with_reducible repeat (first | apply Kd.R_alloc | apply Kd.R_drewN | apply Kd.R_drew)); exact HO_9.out) (Kd.R_base ho0) hb); have n2_ := Aside0.mk (Kd.R_lower (Kd.R_new' (Kd.R_new' ho0 (Kd.R_lt (by (with_reducible repeat (first | apply Kd.R_alloc | apply Kd.R_drewN | apply Kd.R_drew)); exact HO_6.out))) (Kd.R_lt (by (with_reducible repeat (first | apply Kd.R_alloc | apply Kd.R_drewN | apply Kd.R_drew)); exact HO_9.out))) (below_size blw)); have n3_ := Aside0.mk (below_step blw hb); clear HO_6; clear HO_9; clear HB; have HO_6 := n0_; have HO_9 := n1_; have HO336 := n2_; have HB := n3_; clear n0_ n1_ n2_ n3_; (try clear hb); (try clear hb2); (try clear hk); (try clear hi); (try clear ho0)) | ((with_reducible refine gate_dst (N := 63) rfl ?_); (try (refine gate_guard (by rfl) ?_; dsimp only)); refine Kd.R_lit k38 _ 38 ?hg (N := 63) ?hd (xs := ([] : List (S38))) (inner := []) (ok := fun _ => True) (okp := fun _ => True) ?hr ?hp (fun _ hk => hk) trivial (Below.refl _ _) (Nat.le_refl _) (by simp) ?_; (case hd => rfl); (case hg => rfl); (case hr => first | (go_simp; done) | (go_simp; rfl)); (case hp => exact (Reps.none _ _)); intro v338 w43 ho44 hb hg_ hnew_; clear hg_ hnew_; (first | rw [← Ny337.out] at ho44 | (simp only [Int.reduceToNat] at ho44; rw [← Ny337.out] at ho44)); have n0_ := Aside0.mk (Kd.R_elder' (by (with_reducible repeat (first | apply Kd.R_alloc | apply Kd.R_drewN | apply Kd.R_drew)); exact HO_6.out) (Kd.R_base ho44) hb); have n1_ := Aside0.mk (Kd.R_elder' (by (with_reducible repeat (first | apply Kd.R_alloc | apply Kd.R_drewN | apply Kd.R_drew)); exact HO_9.out) (Kd.R_base ho44) hb); have n2_ := Aside0.mk (Kd.R_elder' (by (with_reducible repeat (first | apply Kd.R_alloc | apply Kd.R_drewN | apply Kd.R_drew)); exact HO336.out) (Kd.R_base ho44) hb); have n3_ := Aside0.mk (Kd.R_lower (Kd.R_new' (Kd.R_new' (Kd.R_new' ho44 (Kd.R_lt (by (with_reducible repeat (first | apply Kd.R_alloc | apply Kd.R_drewN | apply Kd.R_drew)); exact HO_6.out))) (Kd.R_lt (by (with_reducible repeat (first | apply Kd.R_alloc | apply Kd.R_drewN | apply Kd.R_drew)); exact HO_9.out))) (Kd.R_lt (by (with_reducible repeat (first | apply Kd.R_alloc | apply Kd.R_drewN | apply Kd.R_drew)); exact HO336.out))) (below_size blw)); have n4_ := Aside0.mk (below_step blw hb); clear HO_6; clear HO_9; clear HO336; clear HB; have HO_6 := n0_; have HO_9 := n1_; have HO336 := n2_; have HO339 := n3_; have HB := n4_; clear n0_ n1_ n2_ n3_ n4_; clear hb ho44; obtain ⟨Ao46, co46, eo46⟩ := Kd.R_slice HO_6.out; subst eo46) | ((with_reducible refine gate_builtin (b := .append) (xs := #[.tmp 63, .tmp 64]) rfl ?_); (try (refine gate_guard (by rfl) ?_; dsimp only)); at_builtin; refine Kd.R_append_rows k38 (w0 := w) w.heap.size rfl (.tmp 63) (.tmp 64) 23 38 (.agg #[(.int .i64 0), (.string ⟨#[]⟩), (.int .i64 0)]) 32 rfl Tryz.underlying23 info38 rfl (by decide) (by omega) v338 y337 t322 _ _ _ (fun k_ => some k_ ≠ (.slice Ao46 t322.length co46 : Value).ownBlock ∧ some k_ ≠ (v330 : Value).ownBlock ∧ some k_ ≠ (v335 : Value).ownBlock) (fun _ => False) rfl rfl ?aO ?aR (fun _ _ h => h) (fun _ h => h.elim) ?aF ?aB ?aS ?aL ?_; (case aR => repeat (first | exact (Kd.R_reads' HO_6.out).2.2 | (with_reducible refine Kd.C_alloc ?_ _) | (with_reducible refine Kd.C_drewN ?_ _) | (with_reducible refine Kd.C_drew ?_))); (case aB => exact blw); (case aF => exact (fun k_ hk => ⟨Kd.fresh' (Kd.R_lt (by (with_reducible repeat (first | apply Kd.R_alloc | apply Kd.R_drewN | apply Kd.R_drew)); exact HO_6.out)) k_ hk, Kd.fresh' (Kd.R_lt (by (with_reducible repeat (first | apply Kd.R_alloc | apply Kd.R_drewN | apply Kd.R_drew)); exact HO_9.out)) k_ hk, Kd.fresh' (Kd.R_lt (by (with_reducible repeat (first | apply Kd.R_alloc | apply Kd.R_drewN | apply Kd.R_drew)); exact HO336.out)) k_ hk⟩)); (case aO => exact (by (with_reducible repeat (first | apply Kd.R_alloc | apply Kd.R_drewN | apply Kd.R_drew)); exact Kd.R_mono HO339.out (fun _ hk => ⟨hk.1.1.2, ⟨hk.1.2, hk.2⟩⟩))); (case aS => exact (below_size blw)); (case aL => have := LMc19.out; omega); intro v341 w45 ho hb hg hat; rw [← Ny340.out] at ho; have n0_ := Aside0.mk (Kd.R_after (ok := (fun k_ => some k_ ≠ (v330 : Value).ownBlock ∧ some k_ ≠ (v335 : Value).ownBlock)) (by (with_reducible repeat (first | apply Kd.R_alloc | apply Kd.R_drewN | apply Kd.R_drew)); exact HO_6.out) hg hat); have n1_ := Aside0.mk (Kd.R_after (ok := (fun k_ => some k_ ≠ (.slice Ao46 t322.length co46 : Value).ownBlock ∧ some k_ ≠ (v335 : Value).ownBlock)) (by (with_reducible repeat (first | apply Kd.R_alloc | apply Kd.R_drewN | apply Kd.R_drew)); exact HO_9.out) hg hat); have n2_ := Aside0.mk (Kd.R_after (ok := (fun k_ => some k_ ≠ (.slice Ao46 t322.length co46 : Value).ownBlock ∧ some k_ ≠ (v330 : Value).ownBlock)) (by (with_reducible repeat (first | apply Kd.R_alloc | apply Kd.R_drewN | apply Kd.R_drew)); exact Kd.R_mono HO336.out (fun _ hk => ⟨⟨hk.1.1.2, hk.1.2⟩, hk.2⟩)) hg hat); have n3_ := Aside0.mk (hb); have n4_ := Aside0.mk (ho); clear HO_6; clear HO_9; clear HO336; clear HB; clear HO339; have HO_6 := n0_; have HO_9 := n1_; have HO336 := n2_; have HB := n3_; have HO342 := n4_; clear n0_ n1_ n2_ n3_ n4_; clear ho hb hg hat) | ((with_reducible refine gate_builtin (b := .append) (xs := #[.tmp 65, .tmp 67]) rfl ?_); (try (refine gate_guard (by rfl) ?_; dsimp only)); at_builtin; refine Kd.R_append k38 (w0 := w) w.heap.size rfl (.tmp 65) (.tmp 67) 23 38 (.agg #[(.int .i64 0), (.string ⟨#[]⟩), (.int .i64 0)]) 32 rfl Tryz.underlying23 info38 rfl (by decide) (by omega) v341 y340 (⟨5, (⟨#[59]⟩ : ByteArray), 0⟩ : S38) [.int .i64 5, .string (⟨#[59]⟩ : ByteArray), .int .i64 0] (fun k_ => some k_ ≠ (.slice Ao46 t322.length co46 : Value).ownBlock ∧ some k_ ≠ (v330 : Value).ownBlock ∧ some k_ ≠ (v335 : Value).ownBlock) (fun _ => False) rfl rfl ?aP (fun _ hk => hk.elim) ?aF ?aO ?aB ?aS ?aL ?_; (case aP => exact k38_mkM _ _ _ (⟨5, (⟨#[59]⟩ : ByteArray), 0⟩ : S38)); (case aB => exact blw); (case aF => exact (fun k_ hk => ⟨Kd.fresh' (Kd.R_lt (by (with_reducible repeat (first | apply Kd.R_alloc | apply Kd.R_drewN | apply Kd.R_drew)); exact HO_6.out)) k_ hk, Kd.fresh' (Kd.R_lt (by (with_reducible repeat (first | apply Kd.R_alloc | apply Kd.R_drewN | apply Kd.R_drew)); exact HO_9.out)) k_ hk, Kd.fresh' (Kd.R_lt (by (with_reducible repeat (first | apply Kd.R_alloc | apply Kd.R_drewN | apply Kd.R_drew)); exact HO336.out)) k_ hk⟩)); (case aO => exact (by (with_reducible repeat (first | apply Kd.R_alloc | apply Kd.R_drewN | apply Kd.R_drew)); exact HO342.out)); (case aS => exact (below_size blw)); (case aL => have := LMc20.out; omega); intro v344 w47 ho hb hg hat; rw [← Ny343.out] at ho; have n0_ := Aside0.mk (Kd.R_after (ok := (fun k_ => some k_ ≠ (v330 : Value).ownBlock ∧ some k_ ≠ (v335 : Value).ownBlock)) (by (with_reducible repeat (first | apply Kd.R_alloc | apply Kd.R_drewN | apply Kd.R_drew)); exact HO_6.out) hg hat); have n1_ := Aside0.mk (Kd.R_after (ok := (fun k_ => some k_ ≠ (.slice Ao46 t322.length co46 : Value).ownBlock ∧ some k_ ≠ (v335 : Value).ownBlock)) (by (with_reducible repeat (first | apply Kd.R_alloc | apply Kd.R_drewN | apply Kd.R_drew)); exact HO_9.out) hg hat); have n2_ := Aside0.mk (Kd.R_after (ok := (fun k_ => some k_ ≠ (.slice Ao46 t322.length co46 : Value).ownBlock ∧ some k_ ≠ (v330 : Value).ownBlock)) (by (with_reducible repeat (first | apply Kd.R_alloc | apply Kd.R_drewN | apply Kd.R_drew)); exact HO336.out) hg hat); have n3_ := Aside0.mk (hb); have n4_ := Aside0.mk (ho); clear HO_6; clear HO_9; clear HO336; clear HB; clear HO342; have HO_6 := n0_; have HO_9 := n1_; have HO336 := n2_; have HB := n3_; have HO345 := n4_; clear n0_ n1_ n2_ n3_ n4_; clear ho hb hg hat))
         go_ret
         exact ⟨rew, blw⟩
       ·rw [if_neg c20] at H
        exact absurd H (by simp)
      ·rw [if_neg c19] at H
       exact absurd H (by simp)
     ·rw [if_neg c17] at H
      exact absurd H (by simp)
    ·rw [if_neg c16] at H
     exact absurd H (by simp)
def taplinelaw11_LexPieces.Pure : Prop := ∀ (a0 : ByteArray) (a1 : ByteArray), a0.size ≤ 140737488351232 → a1.size ≤ 140737488351232 → ∃ k, taplinelaw11_LexPieces.f k a0 a1 = some true
theorem taplinelaw11_LexPieces.walk (P : taplinelaw11_LexPieces.Pure) (a0 : ByteArray) (a1 : ByteArray) (w : World) (w0 : a0.size ≤ 140737488351232) (w1 : a1.size ≤ 140737488351232) (hgw : GW w) :
  Calls Tryz.prog 9 #[.string a0, .string a1] w fun e w' => e = .returned (.bool true) ∧ Below w.heap.size w w' := by
 obtain ⟨k, h⟩ := P a0 a1 w0 w1
 refine (taplinelaw11_LexPieces.calls k a0 a1 true w h gwx).mono ?_
 rintro e w' ⟨rfl, hd⟩
 exact ⟨rfl, hd⟩
end Go.Proofs.YtadgddipkbdnbaaGreatDoor.Q
set_option linter.unusedVariables false
set_option linter.unusedSimpArgs false
namespace Go.Proofs.Lx
open Go.Proofs.YtadgddipkbdnbaaGreatDoor
theorem pieces {s t : List UInt8} (hs : (scan s).2.2 = 0) (ht : (scan t).2.2 = 0) (hl : s.length + t.length + 3 ≤ 20000) (hn : (scan s).1.length + (scan t).1.length + 1 ≤ 4000) :
  (scan (s ++ [10, 59, 32] ++ t)).2.2 = 0 ∧ (scan (s ++ [10, 59, 32] ++ t)).1.map ktM = (scan s).1.map ktM ++ ((5, [59]) :: (scan t).1.map ktM) := by
 obtain ⟨-, -, f, a1, a2⟩ := scan_to hs
 obtain ⟨-, -, g, b1, b2⟩ := scan_to ht
 have e : s ++ [10, 59, 32] ++ t = s ++ (10 :: 59 :: 32 :: t) := by simp
 rw [e]
 have hx := a1.ext (v := 10 :: 59 :: 32 :: t) (.inr ⟨10, _, rfl, by decide⟩)
 have hsemi : Skips (59 :: 32 :: t) (59 :: 32 :: t) := .stop 59 (32 :: t) (by decide) (by simp) (by simp)
 have hsk : Skips (f ++ 10 :: 59 :: 32 :: t) (59 :: 32 :: t) := skips_nl a2 rfl (.blank 10 _ _ (by decide) hsemi)
 have hone : ∀ d, one d (59 :: 32 :: t) = .ok (5, 1) := by
  intro d
  have h0 : one d [59] = .ok (5, 1) := by cases d <;> rfl
  have := one_agree (m := 1) (v := 32 :: t) h0 (Nat.le_refl _) (.inr ⟨32, t, rfl, by decide⟩)
  exact this
 have hb := b1.ctx (p' := (5, [59]) :: (((scan s).1.map ktM).reverse ++ [])) [] [] rfl (by
  intro z
  match z with
  | [] => simp [opK]
  | [u] => simp [opK]
  | u :: w :: z => simp [opK])
 obtain ⟨g', c1, c2, -⟩ := LexTo.blank (c := 32) (by decide) hb
 have hmid : LexTo (((scan s).1.map ktM).reverse ++ []) (f ++ 10 :: 59 :: 32 :: t) ((5, [59]) :: (scan t).1.map ktM) g' := .cons _ _ 59 (32 :: t) 5 1 _ _ hsk (hone _) c1
 exact to_scan (by simp only [List.length_append, List.length_cons]; omega) (by simp only [List.length_append, List.length_cons, List.length_map]; omega) (hx.trans hmid) (c2 b2)
end Go.Proofs.Lx
namespace Go.Proofs.YtadgddipkbdnbaaGreatDoor.Q
open Go.RowKit Go.Proofs.YtadgddipkbdnbaaGreatDoor YtadgddipkbdnbaaGreatDoorW.PrintWords YtadgddipkbdnbaaGreatDoorW.PrintLast
theorem LexPieces_pure : taplinelaw11_LexPieces.Pure := by
 intro s t hs ht
 refine ⟨2, ?_⟩
 simp only [taplinelaw11_LexPieces.f, sane_t.f, lex_Scan.f, Option.bind_some]
 have hsl : s.data.toList.length = s.size := by rw [Array.length_toList]; rfl
 have htl : t.data.toList.length = t.size := by rw [Array.length_toList]; rfl
 have n1 := scan_count s.data.toList
 have n2 := scan_count t.data.toList
 by_cases es : (Lx.scan s.data.toList).2.2 = 0
 ·rw [if_pos es]
  by_cases et : (Lx.scan t.data.toList).2.2 = 0
  ·rw [if_pos et]
   have w1 : wrap64 (wrap64 ((s.size : Int) + (t.size : Int)) + 3) = (s.size : Int) + (t.size : Int) + 3 := by
    rw [wrapn (i := (s.size : Int) + (t.size : Int)) (by omega) (by omega), wrapn (by omega) (by omega)]
   have w2 : wrap64 (wrap64 ((((Lx.scan s.data.toList).1.map tokS).length : Int) + (((Lx.scan t.data.toList).1.map tokS).length : Int)) + 1) = ((Lx.scan s.data.toList).1.length : Int) + ((Lx.scan t.data.toList).1.length : Int) + 1 := by
    rw [List.length_map, List.length_map, wrapn (i := ((Lx.scan s.data.toList).1.length : Int) + ((Lx.scan t.data.toList).1.length : Int)) (by omega) (by omega), wrapn (by omega) (by omega)]
   rw [w1]
   by_cases hbig : (s.size : Int) + (t.size : Int) + 3 > 20000
   ·rw [if_pos hbig]
    simp only [taplinelaw11_LexPieces.j0, if_true]
   ·rw [if_neg hbig, w2]
    by_cases hmany : ((Lx.scan s.data.toList).1.length : Int) + ((Lx.scan t.data.toList).1.length : Int) + 1 > 4000
    ·rw [decide_eq_true hmany]
     simp only [taplinelaw11_LexPieces.j0, if_true]
    ·rw [decide_eq_false hmany]
     simp only [taplinelaw11_LexPieces.j0, Bool.false_eq_true, if_false]
     have hz : (s ++ (⟨#[10, 59, 32]⟩ : ByteArray)).size = s.size + 3 := by rw [ByteArray.size_append]; rfl
     rw [if_pos (by omega), if_pos (by rw [hz]; omega)]
     have ed : ((s ++ (⟨#[10, 59, 32]⟩ : ByteArray)) ++ t).data.toList = s.data.toList ++ [10, 59, 32] ++ t.data.toList := by
      rw [ByteArray.data_append, ByteArray.data_append, Array.toList_append, Array.toList_append]
     obtain ⟨p1, p2⟩ := Lx.pieces es et (by omega) (by omega)
     simp only [lex_Scan.f, Option.bind_some]
     rw [ed, if_pos (by simp only [List.length_append, List.length_map, List.length_nil, List.length_cons]; omega), if_pos (by simp only [List.length_append, List.length_map, List.length_nil, List.length_cons]; omega), if_pos trivial, if_pos p1,
      if_pos (by simp only [List.length_append, List.length_map, List.length_nil, List.length_cons]; omega)]
     simp only [lex_Same.f, Option.bind_some]
     rw [decide_eq_true]
     rw [kt_tokS, p2]
     simp only [List.map_append, List.nil_append, kt_tokS, List.map_cons, List.map_nil, List.append_assoc, List.singleton_append]
     rfl
  ·rw [if_neg et]
   simp only [taplinelaw11_LexPieces.j0, if_true]
 ·rw [if_neg es]
  simp only [taplinelaw11_LexPieces.j0, if_true]
end Go.Proofs.YtadgddipkbdnbaaGreatDoor.Q
set_option linter.unusedVariables false
set_option linter.unusedSimpArgs false
namespace Go.Proofs.YtadgddipkbdnbaaGreatDoor.lexPieces
open Go.ChangeShapes Go.WideShapes Go.ChangeAt Go.RowKit
open Go.ChangeMaps (open_string shut_string)
set_option maxRecDepth 100000 in
theorem lifted (os : Os) (started : os.Started) (H : Type) (enc : TypeId × Value → H) :
  ReturnsInHanded {} Tryz.checked os 9 .any (fun w args => (Rows.lexPiecesSpec.pre enc Tryz.prog Tryz.f9 [] false w args ∧ laidMetH Tryz.prog lexLaid w) ∧ sizedMet enc Tryz.prog Tryz.f9 (OpenSpec.ofChange Rows.lexPiecesSpec) false w args)
   (Rows.lexPiecesSpec.post enc Tryz.prog Tryz.f9 false true false false) := by
 refine handed_and_shaped (C := Tryz.checked) (X := fun w _ => laidMetH Tryz.prog lexLaid w) (fun _ _ _ hh h => h.of_heap hh) own started (by kernel_rfl) Tryz.func9
  (ChangeSpec.witness_shaped (enc := enc) (C := Tryz.checked) (os := os) (X := fun w _ => laidMetH Tryz.prog lexLaid w) false (World.doorLaid Tryz.prog 400 os) #[.string ByteArray.empty, .string ByteArray.empty] 8 rfl (World.shaped_of_RefB (by kernel_rfl) (by kernel_rfl)) (by kernel_rfl) (by kernel_rfl) (by kernel_rfl) (door_met os _)) ?_
 intro W base args ds gs before hval0 hW hcnd hsz0 hL hsh _
 have hgw := of_laid hL hsh
 clear hL hsh
 have hsz : (DataW.weightsEach Tryz.prog (Tryz.f9.params.toList ++ Rows.lexPiecesSpec.plain.varTypes Tryz.prog) (ds ++ gs)).all (· ≤ reachBytes) = true := hsz0
 have hval : ∀ (j : Nat) t v, Tryz.f9.params[j]? = some t → args[j]? = some v → Value.okWide Tryz.prog W .any base t v := hval0
 have hW' := hW
 obtain ⟨p, q, hA0, hV, rfl, hfz, hnd⟩ := hW
 have hA : DataW.TrodAll enc Tryz.prog W 0 (fun _ => true) true Tryz.f9.params.toList args.toList ds p := hA0
 rw [Tryz.params9] at hA hval hsz
 obtain ⟨v0, vs0, d0, ds0, p0, q0, hargs, rfl, rfl, h0, r0⟩ := trodAll_cons hA
 obtain ⟨v1, vs1, d1, ds1, p1, q1, rfl, rfl, rfl, h1, r1⟩ := trodAll_cons r0
 obtain ⟨rfl, rfl, rfl⟩ := trodAll_nil r1
 obtain rfl : args = #[v0, v1] := by cases args; simp_all
 obtain ⟨rfl, rfl⟩ := trodVars_none hV
 obtain ⟨a0, rfl, rfl, rfl, y0⟩ := open_string Tryz.underlying9 (hval 0 9 v0 rfl rfl) h0
 have w0 : a0.size ≤ 140737488351232 := by
  have z := sized_string hsz (j := 0) (t := 9) rfl rfl
  rw [Array.length_toList] at z
  exact z
 obtain ⟨a1, rfl, rfl, rfl, y1⟩ := open_string Tryz.underlying9 (hval 1 9 v1 rfl rfl) h1
 have w1 : a1.size ≤ 140737488351232 := by
  have z := sized_string hsz (j := 1) (t := 9) rfl rfl
  rw [Array.length_toList] at z
  exact z
 clear hA0 hval0 hsz0 hsz
 refine (Q.taplinelaw11_LexPieces.walk Q.LexPieces_pure a0 a1 W w0 w1 hgw).mono fun e W' ⟨he, bel⟩ => ?_
 subst he
 exact ⟨_, rfl, _, _, _, [], _, [], hW', trodAll_mk1 (shut_bool Tryz.underlying4 _), (trodAll_cons_mk (shut_string Tryz.underlying9 y0) (trodAll_cons_mk (shut_string Tryz.underlying9 y1) trodAll_mk0)), rfl, bel.frame _, fun h => by cases h⟩
theorem over : Rows.LexPiecesSaid :=
 OpenClaim.holds_of_wide 9 Tryz.f9 rfl rfl rfl rfl rfl rfl rfl ⟨rfl, rfl, rfl, rfl, rfl⟩ rfl rfl rfl rfl rfl (by kernel_rfl) Tryz.func9 (by kernel_rfl)
  (of_decide_eq_true (by kernel_rfl)) (by unfold Func.isWrapper; first | (rw [if_pos (by decide +kernel)]; kernel_rfl) | (rw [if_neg (by decide +kernel)]; exact ⟨rfl, rfl⟩))
  (fun os started H enc _ => lifted os started H enc)
end Go.Proofs.YtadgddipkbdnbaaGreatDoor.lexPieces
namespace Go.Proofs.YtadgddipkbdnbaaGreatDoor
theorem lexPieces_card : Rows.LexPiecesCardSaid :=
 Claim7.holds_tied_plain_at .later [] [.data, .data, .data, .sentinel, .sentinel, .listed, .data, .data] true (true, "85ed3a9bdcdf405d5b0a35b2759147de3913577c107b7173cad54d4ee995d561") true
  lexPieces.over (fun _ h => by cases h) (by kernel_rfl) (fun _ h => by cases h) lexPieces_row_tie rfl ⟨rfl, rfl⟩ (by kernel_rfl) rfl
  (fun f fn hf hfn => by
   obtain rfl : f = 9 := Option.some.inj ((show Tryz.prog.funcNamed "tapline/taplinelaw11.LexPieces" = some 9 by kernel_rfl).symm.trans hf) |>.symm
   obtain rfl : fn = Tryz.f9 := (Option.some.inj (Tryz.func9.symm.trans hfn)).symm
   exact ⟨by kernel_rfl, fun j t ht => by
    rw [Tryz.params9] at ht
    have hm : t ∈ [9, 9] := by simpa using Array.mem_of_getElem? ht
    have hall : ([9, 9].all fun u => !Tryz.prog.wantsStandIn u) = true := by kernel_rfl
    exact (show Tryz.prog.wantsStandIn t = false by simpa using List.all_eq_true.1 hall t hm)⟩)
  (by kernel_rfl)
#print axioms lexPieces_card
end Go.Proofs.YtadgddipkbdnbaaGreatDoor
