/- For every text that is scanned without an error (at most 200 tokens, joined at most 20000 bytes), what Join and Tight write of its tokens is scanned as the same tokens; the inputs read as they did; the package-level variables hold what the program's text lays in them: the tied card. -/
import Derived.Test.YtadgddipkbdnbaaGreatDoorLexP1
import Derived.Test.YtadgddipkbdnbaaGreatDoorLexP2
import Derived.Test.YtadgddipkbdnbaaGreatDoorLexP3
import Derived.Test.YtadgddipkbdnbaaGreatDoorLexP4
import Derived.Test.YtadgddipkbdnbaaGreatDoorLexP7
import Derived.Test.YtadgddipkbdnbaaGreatDoorLexP8
import Derived.Test.YtadgddipkbdnbaaGreatDoorLexP10
import Derived.Test.YtadgddipkbdnbaaGreatDoorLexP11
import Derived.Test.YtadgddipkbdnbaaGreatDoorLexP12
import Derived.Test.YtadgddipkbdnbaaGreatDoorLexP14
import Derived.Test.YtadgddipkbdnbaaGreatDoorLexP15
import Derived.Test.YtadgddipkbdnbaaGreatDoorLexBackZ1
import Derived.Test.YtadgddipkbdnbaaGreatDoorTie
import Derived.Test.YtadgddipkbdnbaaGreatDoorCards
import Derived.WalkKit
import Derived.ProofKit
import Derived.OpenShut
import Derived.ShutString
import Derived.ChangeOld
import Derived.Below
import Derived.SizedLaws
import Derived.SevenTiedAt
namespace Go.Proofs.YtadgddipkbdnbaaGreatDoor.Q
open Go.Proofs.YtadgddipkbdnbaaGreatDoor Go.RowKit Go.Proofs.YtadgddipkbdnbaaGreatDoorW.PrintWords Go.Proofs.YtadgddipkbdnbaaGreatDoorW.PrintLast Go.Proofs.YtadgddipkbdnbaaGreatDoorW.PrintMore
attribute [local go_sem] max2_int min2_int max_two min_two max_three min_three max_four min_four   
set_option linter.unusedVariables false
set_option linter.unusedSimpArgs false
def taplinelaw11_LexBack.j0 : Nat → Bool → List (S38) → Bool → Option (Bool)
 | 0, _, _, _ => none
 | k + 1, x3, x4, x39 => if x39 = true then (some x3) else ((lex_Join.f k x4).bind fun t286 => ((lex_Scan.f t286).bind fun bt287 => ((lex_Tight.f k x4).bind fun t292 => ((lex_Scan.f t292).bind fun bt293 => (if x3 = true then (if bt287.2.2 = 0 then (if bt293.2.2 = 0 then ((lex_Same.f bt287.1 x4).bind fun t298 => (if t298 = true then ((lex_Same.f bt293.1 x4).bind fun t299 => (some t299)) else (some false))) else (some false)) else (some false)) else (some false))))))
def taplinelaw11_LexBack.f (k : Nat) (a0 : ByteArray) : Option (Bool) := (sane_t.f).bind fun t280 => ((lex_Scan.f a0).bind fun bt281 => (if bt281.2.2 = 0 then (if (bt281.1.length : Int) = 0 then (taplinelaw11_LexBack.j0 k t280 bt281.1 true) else (if (bt281.1.length : Int) > 200 then (taplinelaw11_LexBack.j0 k t280 bt281.1 true) else (taplinelaw11_LexBack.j0 k t280 bt281.1 (decide ((wrap64 ((a0.size : Int) + (bt281.1.length : Int))) > 20000))))) else (taplinelaw11_LexBack.j0 k t280 bt281.1 true)))
theorem taplinelaw11_LexBack.mono_l : ∀ k, (∀ y0 y1 y2, LeO (taplinelaw11_LexBack.j0 k y0 y1 y2) (taplinelaw11_LexBack.j0 (k + 1) y0 y1 y2))
 | 0 => fun _ _ _ r h => by simp [taplinelaw11_LexBack.j0] at h
 | k + 1 => by
  have ih0 := taplinelaw11_LexBack.mono_l k
  ·intro y0 y1 y2
   unfold taplinelaw11_LexBack.j0
   repeat' first
   | (with_reducible exact ih0 _ _ _)
   | (with_reducible exact lex_Join.mono _ _)
   | (with_reducible exact lex_Tight.mono _ _)
   | (with_reducible exact LeO.refl _)
   | (with_reducible exact LeO.none _)
   | (with_reducible refine LeO.ite ?_ ?_)
   | (with_reducible refine LeO.bind ?_ (fun _ => ?_))
   | exact LeO.none _
   | refine LeO.ite ?_ ?_
   | refine LeO.bind ?_ (fun _ => ?_)
theorem taplinelaw11_LexBack.mono : ∀ a0 k, LeO (taplinelaw11_LexBack.f k a0) (taplinelaw11_LexBack.f (k + 1) a0) := by
 intro a0 k
 have ih0 := taplinelaw11_LexBack.mono_l k
 unfold taplinelaw11_LexBack.f
 repeat' first
   | (with_reducible exact ih0 _ _ _)
   | (with_reducible exact lex_Join.mono _ _)
   | (with_reducible exact lex_Tight.mono _ _)
   | (with_reducible exact LeO.refl _)
   | (with_reducible exact LeO.none _)
   | (with_reducible refine LeO.ite ?_ ?_)
   | (with_reducible refine LeO.bind ?_ (fun _ => ?_))
   | exact LeO.none _
   | refine LeO.ite ?_ ?_
   | refine LeO.bind ?_ (fun _ => ?_)
set_option maxHeartbeats 8000000 in
set_option maxRecDepth 100000 in
theorem taplinelaw11_LexBack.calls (k : Nat) (a0 : ByteArray) (r : Bool) (w : World) (h : taplinelaw11_LexBack.f k a0 = some r) (hgw : GW w) :
  Calls Tryz.prog 7 #[.string a0] w fun e w' => e = .returned (.bool r) ∧ Below w.heap.size w w' := by
 have HB := Aside0.mk (Below.refl w.heap.size w)
 have H : ((sane_t.f).bind fun t280 => ((lex_Scan.f a0).bind fun bt281 => (if bt281.2.2 = 0 then (if (bt281.1.length : Int) = 0 then (taplinelaw11_LexBack.j0 k t280 bt281.1 true) else (if (bt281.1.length : Int) > 200 then (taplinelaw11_LexBack.j0 k t280 bt281.1 true) else (taplinelaw11_LexBack.j0 k t280 bt281.1 (decide ((wrap64 ((a0.size : Int) + (bt281.1.length : Int))) > 20000))))) else (taplinelaw11_LexBack.j0 k t280 bt281.1 true)))) = some r := h
 clear h
 replace H := Option.bind_eq_some_iff.mp H
 obtain ⟨t280, A20, H⟩ := H
 replace H : ((lex_Scan.f a0).bind fun bt281 => (if bt281.2.2 = 0 then (if (bt281.1.length : Int) = 0 then (taplinelaw11_LexBack.j0 k t280 bt281.1 true) else (if (bt281.1.length : Int) > 200 then (taplinelaw11_LexBack.j0 k t280 bt281.1 true) else (taplinelaw11_LexBack.j0 k t280 bt281.1 (decide ((wrap64 ((a0.size : Int) + (bt281.1.length : Int))) > 20000))))) else (taplinelaw11_LexBack.j0 k t280 bt281.1 true))) = some r := H
 have A2 := Aside0.mk A20
 clear A20
 replace H := Option.bind_eq_some_iff.mp H
 obtain ⟨⟨t281, t282, t283⟩, A30, H⟩ := H
 replace H : (if t283 = 0 then (if (t281.length : Int) = 0 then (taplinelaw11_LexBack.j0 k t280 t281 true) else (if (t281.length : Int) > 200 then (taplinelaw11_LexBack.j0 k t280 t281 true) else (taplinelaw11_LexBack.j0 k t280 t281 (decide ((wrap64 ((a0.size : Int) + (t281.length : Int))) > 20000))))) else (taplinelaw11_LexBack.j0 k t280 t281 true)) = some r := H
 have A3 := Aside0.mk A30
 clear A30
 have HC4 := Aside0.mk H
 clear H
 go_enter Tryz.func7, Tryz.ntmps7
 go_upto_region 3 with (first | ((with_reducible refine gate_callee (f := 16) rfl ?_); refine goesL_ (some 13) rfl rfl Tryz.func16 (by kernel_rfl) rfl #[] rfl fq ?_; (with_reducible refine (sane_t.calls  t280 _ A2.out gwx).mono ?_); rintro e w5 ⟨rfl, hb⟩; refine ⟨_, rfl, ?_⟩; have n0_ := Aside0.mk (below_step blw hb); clear HB; have HB := n0_; clear n0_; (try clear hb); (try clear hb2); (try clear hk); (try clear hi)) | ((with_reducible refine gate_callee (f := 17) rfl ?_); refine goesL_ (some 16) rfl rfl Tryz.func17 (by kernel_rfl) rfl #[.string a0] rfl fq ?_; (with_reducible refine (lex_Scan.calls a0 t281 t282 t283 _ A3.out gwx).mono ?_); rintro e w6 ⟨v284, rfl, ho0, hb⟩; refine ⟨_, rfl, ?_⟩; have n0_ := Aside0.mk (Kd.R_lower ho0 (below_size blw)); have n1_ := Aside0.mk (below_step blw hb); clear HB; have HO285 := n0_; have HB := n1_; clear n0_ n1_; (try clear hb); (try clear hb2); (try clear hk); (try clear hi); (try clear ho0)))
 (try simp only [Act.put, List.setIfInBounds_toArray, List.set_cons_zero, List.set_cons_succ])
 go_cut [39] (fun v39 wc => ∃ (kq : Nat) (x39_3 : Bool), v39 = .bool x39_3 ∧ Aside0 (taplinelaw11_LexBack.j0 kq t280 t281 x39_3 = some r) ∧ Aside0 (kq ≤ k) ∧ Aside0 (Kd.R k38 38 wc w.heap.size (fun _ => True) v284 t281) ∧ Aside0 (Below w.heap.size w wc))
 case first =>
  have H := HC4.out
  clear HC4
  by_cases c7 : t283 = 0
  ·rw [if_pos c7] at H
   have c7b0 : (t283 == 0) = true := beq_iff_eq.mpr c7
   have c7b1 : (t283 != 0) = false := bne_eq_false_iff_eq.mpr c7
   clear c7
   (first | rw [c7b0] | (simp only [i64_w, i32_w]; rw [c7b0]) | skip)
   by_cases c8 : (t281.length : Int) = 0
   ·rw [if_pos c8] at H
    have c8b0 : ((t281.length : Int) == 0) = true := beq_iff_eq.mpr c8
    have c8b1 : ((t281.length : Int) != 0) = false := bne_eq_false_iff_eq.mpr c8
    clear c8
    have H' := Aside0.mk H
    clear H
    obtain ⟨Ao9, co9, eo9⟩ := Kd.R_slice HO285.out
    subst eo9
    go_wp2
    go_meet
    case rel => exact ⟨_, (true), rsd, H', ⟨by first | omega | exact Nat.le_refl _⟩, ⟨by (with_reducible repeat (first | apply Kd.R_alloc | apply Kd.R_drewN | apply Kd.R_drew)); exact HO285.out⟩, ⟨blw⟩⟩
   ·rw [if_neg c8] at H
    have c8b0 : ((t281.length : Int) == 0) = false := beq_eq_false_iff_ne.mpr c8
    have c8b1 : ((t281.length : Int) != 0) = true := bne_iff_ne.mpr c8
    have c8b2 : ¬ (t281 = []) := fun h_ => c8 (by rw [h_]; rfl)
    by_cases c10 : (t281.length : Int) > 200
    ·rw [if_pos c10] at H
     have c10b0 : decide (200 < (t281.length : Int)) = true := decide_eq_true c10
     have c10b1 : decide (200 < t281.length) = true := decide_eq_true (by omega)
     clear c10
     have H' := Aside0.mk H
     clear H
     obtain ⟨Ao11, co11, eo11⟩ := Kd.R_slice HO285.out
     subst eo11
     go_wp2
     go_meet
     case rel => exact ⟨_, (true), rsd, H', ⟨by first | omega | exact Nat.le_refl _⟩, ⟨by (with_reducible repeat (first | apply Kd.R_alloc | apply Kd.R_drewN | apply Kd.R_drew)); exact HO285.out⟩, ⟨blw⟩⟩
    ·rw [if_neg c10] at H
     have c10b0 : decide (200 < (t281.length : Int)) = false := decide_eq_false c10
     have c10b1 : decide (200 < t281.length) = false := decide_eq_false (by omega)
     clear c10
     have H' := Aside0.mk H
     clear H
     obtain ⟨Ao12, co12, eo12⟩ := Kd.R_slice HO285.out
     subst eo12
     go_wp2
     go_meet
     case rel => exact ⟨_, (decide ((wrap64 ((a0.size : Int) + (t281.length : Int))) > 20000)), rsd, H', ⟨by first | omega | exact Nat.le_refl _⟩, ⟨by (with_reducible repeat (first | apply Kd.R_alloc | apply Kd.R_drewN | apply Kd.R_drew)); exact HO285.out⟩, ⟨blw⟩⟩
  ·rw [if_neg c7] at H
   have c7b0 : (t283 == 0) = false := beq_eq_false_iff_ne.mpr c7
   have c7b1 : (t283 != 0) = true := bne_iff_ne.mpr c7
   (first | rw [c7b0] | (simp only [i64_w, i32_w]; rw [c7b0]) | skip)
   have H' := Aside0.mk H
   clear H
   go_wp2
   go_meet
   case rel => exact ⟨_, (true), rsd, H', ⟨by first | omega | exact Nat.le_refl _⟩, ⟨by (with_reducible repeat (first | apply Kd.R_alloc | apply Kd.R_drewN | apply Kd.R_drew)); exact HO285.out⟩, ⟨blw⟩⟩
 case rest =>
  clear HC4
  try clear c1
  try clear p2
  try clear p6
  try clear c7
  try clear c7b0
  try clear c7b1
  try clear c8
  try clear c8b0
  try clear c8b1
  try clear c8b2
  try clear c10
  try clear c10b0
  try clear c10b1
  obtain ⟨kq, x39_3, rfl, HA, HJ3, HO_4, HB⟩ := hcut
  cases kq with
  | zero => exact absurd HA.out (by simp [taplinelaw11_LexBack.j0])
  | succ kj3 =>
   have H := HA.out
   clear HA
   simp only [taplinelaw11_LexBack.j0] at H
   by_cases c13 : x39_3 = true
   ·subst c13
    have H1 : (some t280) = some r := by rw [if_pos rfl] at H; exact H
    clear H
    have H := H1
    clear H1
    obtain rfl := Option.some.inj H
    go_wp2
    go_ret
    exact ⟨rew, blw⟩
   ·replace c13 := Bool.eq_false_iff.mpr c13
    subst c13
    have H1 : ((lex_Join.f kj3 t281).bind fun t286 => ((lex_Scan.f t286).bind fun bt287 => ((lex_Tight.f kj3 t281).bind fun t292 => ((lex_Scan.f t292).bind fun bt293 => (if t280 = true then (if bt287.2.2 = 0 then (if bt293.2.2 = 0 then ((lex_Same.f bt287.1 t281).bind fun t298 => (if t298 = true then ((lex_Same.f bt293.1 t281).bind fun t299 => (some t299)) else (some false))) else (some false)) else (some false)) else (some false)))))) = some r := by rw [if_neg (show ¬ (false = true) by decide)] at H; exact H
    clear H
    have H := H1
    clear H1
    replace H := Option.bind_eq_some_iff.mp H
    obtain ⟨t286, A140, H⟩ := H
    replace H : ((lex_Scan.f t286).bind fun bt287 => ((lex_Tight.f kj3 t281).bind fun t292 => ((lex_Scan.f t292).bind fun bt293 => (if t280 = true then (if bt287.2.2 = 0 then (if bt293.2.2 = 0 then ((lex_Same.f bt287.1 t281).bind fun t298 => (if t298 = true then ((lex_Same.f bt293.1 t281).bind fun t299 => (some t299)) else (some false))) else (some false)) else (some false)) else (some false))))) = some r := H
    have A14 := Aside0.mk A140
    clear A140
    replace H := Option.bind_eq_some_iff.mp H
    obtain ⟨⟨t287, t288, t289⟩, A150, H⟩ := H
    replace H : ((lex_Tight.f kj3 t281).bind fun t292 => ((lex_Scan.f t292).bind fun bt293 => (if t280 = true then (if t289 = 0 then (if bt293.2.2 = 0 then ((lex_Same.f t287 t281).bind fun t298 => (if t298 = true then ((lex_Same.f bt293.1 t281).bind fun t299 => (some t299)) else (some false))) else (some false)) else (some false)) else (some false)))) = some r := H
    have A15 := Aside0.mk A150
    clear A150
    replace H := Option.bind_eq_some_iff.mp H
    obtain ⟨t292, A160, H⟩ := H
    replace H : ((lex_Scan.f t292).bind fun bt293 => (if t280 = true then (if t289 = 0 then (if bt293.2.2 = 0 then ((lex_Same.f t287 t281).bind fun t298 => (if t298 = true then ((lex_Same.f bt293.1 t281).bind fun t299 => (some t299)) else (some false))) else (some false)) else (some false)) else (some false))) = some r := H
    have A16 := Aside0.mk A160
    clear A160
    replace H := Option.bind_eq_some_iff.mp H
    obtain ⟨⟨t293, t294, t295⟩, A170, H⟩ := H
    replace H : (if t280 = true then (if t289 = 0 then (if t295 = 0 then ((lex_Same.f t287 t281).bind fun t298 => (if t298 = true then ((lex_Same.f t293 t281).bind fun t299 => (some t299)) else (some false))) else (some false)) else (some false)) else (some false)) = some r := H
    have A17 := Aside0.mk A170
    clear A170
    by_cases c18 : t280 = true
    ·subst c18
     have H1 : (if t289 = 0 then (if t295 = 0 then ((lex_Same.f t287 t281).bind fun t298 => (if t298 = true then ((lex_Same.f t293 t281).bind fun t299 => (some t299)) else (some false))) else (some false)) else (some false)) = some r := by rw [if_pos rfl] at H; exact H
     clear H
     have H := H1
     clear H1
     by_cases c19 : t289 = 0
     ·rw [if_pos c19] at H
      have c19b0 : (t289 == 0) = true := beq_iff_eq.mpr c19
      have c19b1 : (t289 != 0) = false := bne_eq_false_iff_eq.mpr c19
      clear c19
      by_cases c20 : t295 = 0
      ·rw [if_pos c20] at H
       have c20b0 : (t295 == 0) = true := beq_iff_eq.mpr c20
       have c20b1 : (t295 != 0) = false := bne_eq_false_iff_eq.mpr c20
       clear c20
       replace H := Option.bind_eq_some_iff.mp H
       obtain ⟨t298, A210, H⟩ := H
       replace H : (if t298 = true then ((lex_Same.f t293 t281).bind fun t299 => (some t299)) else (some false)) = some r := H
       have A21 := Aside0.mk A210
       clear A210
       by_cases c22 : t298 = true
       ·subst c22
        have H1 : ((lex_Same.f t293 t281).bind fun t299 => (some t299)) = some r := by rw [if_pos rfl] at H; exact H
        clear H
        have H := H1
        clear H1
        replace H := Option.bind_eq_some_iff.mp H
        obtain ⟨t299, A230, H⟩ := H
        replace H : (some t299) = some r := H
        have A23 := Aside0.mk A230
        clear A230
        obtain rfl := Option.some.inj H
        obtain ⟨Ao24, co24, eo24⟩ := Kd.R_slice HO_4.out
        subst eo24
        go_wp2_with (first | ((with_reducible refine gate_callee (f := 22) rfl ?_); refine goesL_ (some 43) rfl rfl Tryz.func22 (by kernel_rfl) rfl #[.slice Ao24 t281.length co24] rfl fq ?_; (with_reducible refine (lex_Join.calls kj3 _ _ t281 t286 _ ?side1 ?side2 A14.out gwx).mono ?_); (case side1 => repeat (first | exact (Kd.R_reads' HO_4.out).2.2 | (with_reducible refine Kd.C_alloc ?_ _) | (with_reducible refine Kd.C_drewN ?_ _) | (with_reducible refine Kd.C_drew ?_))); (case side2 => exact (Kd.R_reads' HO_4.out).2.1); rintro e w25 ⟨rfl, hb⟩; refine ⟨_, rfl, ?_⟩; have n0_ := Aside0.mk (Kd.R_below (by (with_reducible repeat (first | apply Kd.R_alloc | apply Kd.R_drewN | apply Kd.R_drew)); exact HO_4.out) hb); have n1_ := Aside0.mk (below_step blw hb); clear HO_4; clear HB; have HO_4 := n0_; have HB := n1_; clear n0_ n1_; (try clear hb); (try clear hb2); (try clear hk); (try clear hi)) | ((with_reducible refine gate_callee (f := 17) rfl ?_); refine goesL_ (some 44) rfl rfl Tryz.func17 (by kernel_rfl) rfl #[.string t286] rfl fq ?_; (with_reducible refine (lex_Scan.calls t286 t287 t288 t289 _ A15.out gwx).mono ?_); rintro e w26 ⟨v290, rfl, ho0, hb⟩; refine ⟨_, rfl, ?_⟩; have n0_ := Aside0.mk (Kd.R_elder' (by (with_reducible repeat (first | apply Kd.R_alloc | apply Kd.R_drewN | apply Kd.R_drew)); exact HO_4.out) (Kd.R_base ho0) hb); have n1_ := Aside0.mk (Kd.R_lower (Kd.R_new' ho0 (Kd.R_lt (by (with_reducible repeat (first | apply Kd.R_alloc | apply Kd.R_drewN | apply Kd.R_drew)); exact HO_4.out))) (below_size blw)); have n2_ := Aside0.mk (below_step blw hb); clear HO_4; clear HB; have HO_4 := n0_; have HO291 := n1_; have HB := n2_; clear n0_ n1_ n2_; (try clear hb); (try clear hb2); (try clear hk); (try clear hi); (try clear ho0)) | ((with_reducible refine gate_callee (f := 24) rfl ?_); refine goesL_ (some 50) rfl rfl Tryz.func24 (by kernel_rfl) rfl #[.slice Ao24 t281.length co24] rfl fq ?_; (with_reducible refine (lex_Tight.calls kj3 _ _ t281 t292 _ ?side1 ?side2 A16.out gwx).mono ?_); (case side1 => repeat (first | exact (Kd.R_reads' HO_4.out).2.2 | (with_reducible refine Kd.C_alloc ?_ _) | (with_reducible refine Kd.C_drewN ?_ _) | (with_reducible refine Kd.C_drew ?_))); (case side2 => exact (Kd.R_reads' HO_4.out).2.1); rintro e w27 ⟨rfl, hb⟩; refine ⟨_, rfl, ?_⟩; have n0_ := Aside0.mk (Kd.R_below (by (with_reducible repeat (first | apply Kd.R_alloc | apply Kd.R_drewN | apply Kd.R_drew)); exact HO_4.out) hb); have n1_ := Aside0.mk (Kd.R_below (by (with_reducible repeat (first | apply Kd.R_alloc | apply Kd.R_drewN | apply Kd.R_drew)); exact HO291.out) hb); have n2_ := Aside0.mk (below_step blw hb); clear HO_4; clear HO291; clear HB; have HO_4 := n0_; have HO291 := n1_; have HB := n2_; clear n0_ n1_ n2_; (try clear hb); (try clear hb2); (try clear hk); (try clear hi)) | ((with_reducible refine gate_callee (f := 17) rfl ?_); refine goesL_ (some 51) rfl rfl Tryz.func17 (by kernel_rfl) rfl #[.string t292] rfl fq ?_; (with_reducible refine (lex_Scan.calls t292 t293 t294 t295 _ A17.out gwx).mono ?_); rintro e w28 ⟨v296, rfl, ho0, hb⟩; refine ⟨_, rfl, ?_⟩; have n0_ := Aside0.mk (Kd.R_elder' (by (with_reducible repeat (first | apply Kd.R_alloc | apply Kd.R_drewN | apply Kd.R_drew)); exact HO_4.out) (Kd.R_base ho0) hb); have n1_ := Aside0.mk (Kd.R_elder' (by (with_reducible repeat (first | apply Kd.R_alloc | apply Kd.R_drewN | apply Kd.R_drew)); exact HO291.out) (Kd.R_base ho0) hb); have n2_ := Aside0.mk (Kd.R_lower (Kd.R_new' (Kd.R_new' ho0 (Kd.R_lt (by (with_reducible repeat (first | apply Kd.R_alloc | apply Kd.R_drewN | apply Kd.R_drew)); exact HO_4.out))) (Kd.R_lt (by (with_reducible repeat (first | apply Kd.R_alloc | apply Kd.R_drewN | apply Kd.R_drew)); exact HO291.out))) (below_size blw)); have n3_ := Aside0.mk (below_step blw hb); clear HO_4; clear HO291; clear HB; have HO_4 := n0_; have HO291 := n1_; have HO297 := n2_; have HB := n3_; clear n0_ n1_ n2_ n3_; (try clear hb); (try clear hb2); (try clear hk); (try clear hi); (try clear ho0); obtain ⟨Ao29, co29, eo29⟩ := Kd.R_slice HO291.out; subst eo29) | (go_at_call 28; (with_reducible refine (lex_Same.calls _ _ t287 _ _ t281 true _ ?side1 ?side2 ?side3 ?side4 A21.out).mono ?_); (case side1 => repeat (first | exact (Kd.R_reads' HO291.out).2.2 | (with_reducible refine Kd.C_alloc ?_ _) | (with_reducible refine Kd.C_drewN ?_ _) | (with_reducible refine Kd.C_drew ?_))); (case side2 => exact (Kd.R_reads' HO291.out).2.1); (case side3 => repeat (first | exact (Kd.R_reads' HO_4.out).2.2 | (with_reducible refine Kd.C_alloc ?_ _) | (with_reducible refine Kd.C_drewN ?_ _) | (with_reducible refine Kd.C_drew ?_))); (case side4 => exact (Kd.R_reads' HO_4.out).2.1); rintro e w30 ⟨rfl, hb⟩; have n0_ := Aside0.mk (Kd.R_below (by (with_reducible repeat (first | apply Kd.R_alloc | apply Kd.R_drewN | apply Kd.R_drew)); exact HO_4.out) hb); have n1_ := Aside0.mk (Kd.R_below (by (with_reducible repeat (first | apply Kd.R_alloc | apply Kd.R_drewN | apply Kd.R_drew)); exact HO291.out) hb); have n2_ := Aside0.mk (Kd.R_below (by (with_reducible repeat (first | apply Kd.R_alloc | apply Kd.R_drewN | apply Kd.R_drew)); exact HO297.out) hb); have n3_ := Aside0.mk (below_step blw hb); clear HO_4; clear HO291; clear HO297; clear HB; have HO_4 := n0_; have HO291 := n1_; have HO297 := n2_; have HB := n3_; clear n0_ n1_ n2_ n3_; (try clear hb); (try clear hb2); (try clear hk); (try clear hi); obtain ⟨Ao31, co31, eo31⟩ := Kd.R_slice HO297.out; subst eo31) | (go_at_call 28; (with_reducible refine (lex_Same.calls _ _ t293 _ _ t281 t299 _ ?side1 ?side2 ?side3 ?side4 A23.out).mono ?_); (case side1 => repeat (first | exact (Kd.R_reads' HO297.out).2.2 | (with_reducible refine Kd.C_alloc ?_ _) | (with_reducible refine Kd.C_drewN ?_ _) | (with_reducible refine Kd.C_drew ?_))); (case side2 => exact (Kd.R_reads' HO297.out).2.1); (case side3 => repeat (first | exact (Kd.R_reads' HO_4.out).2.2 | (with_reducible refine Kd.C_alloc ?_ _) | (with_reducible refine Kd.C_drewN ?_ _) | (with_reducible refine Kd.C_drew ?_))); (case side4 => exact (Kd.R_reads' HO_4.out).2.1); rintro e w32 ⟨rfl, hb⟩; have n0_ := Aside0.mk (Kd.R_below (by (with_reducible repeat (first | apply Kd.R_alloc | apply Kd.R_drewN | apply Kd.R_drew)); exact HO_4.out) hb); have n1_ := Aside0.mk (Kd.R_below (by (with_reducible repeat (first | apply Kd.R_alloc | apply Kd.R_drewN | apply Kd.R_drew)); exact HO291.out) hb); have n2_ := Aside0.mk (Kd.R_below (by (with_reducible repeat (first | apply Kd.R_alloc | apply Kd.R_drewN | apply Kd.R_drew)); exact HO297.out) hb); have n3_ := Aside0.mk (below_step blw hb); clear HO_4; clear HO291; clear HO297; clear HB; have HO_4 := n0_; have HO291 := n1_; have HO297 := n2_; have HB := n3_; clear n0_ n1_ n2_ n3_; (try clear hb); (try clear hb2); (try clear hk); (try clear hi)))
        go_ret
        exact ⟨rew, blw⟩
       ·replace c22 := Bool.eq_false_iff.mpr c22
        subst c22
        have H1 : (some false) = some r := by rw [if_neg (show ¬ (false = true) by decide)] at H; exact H
        clear H
        have H := H1
        clear H1
        obtain rfl := Option.some.inj H
        obtain ⟨Ao33, co33, eo33⟩ := Kd.R_slice HO_4.out
        subst eo33
        go_wp2_with (first | ((with_reducible refine gate_callee (f := 22) rfl ?_); refine goesL_ (some 43) rfl rfl Tryz.func22 (by kernel_rfl) rfl #[.slice Ao33 t281.length co33] rfl fq ?_; (with_reducible refine (lex_Join.calls kj3 _ _ t281 t286 _ ?side1 ?side2 A14.out gwx).mono ?_); (case side1 => repeat (first | exact (Kd.R_reads' HO_4.out).2.2 | (with_reducible refine Kd.C_alloc ?_ _) | (with_reducible refine Kd.C_drewN ?_ _) | (with_reducible refine Kd.C_drew ?_))); (case side2 => exact (Kd.R_reads' HO_4.out).2.1); rintro e w34 ⟨rfl, hb⟩; refine ⟨_, rfl, ?_⟩; have n0_ := Aside0.mk (Kd.R_below (by (with_reducible repeat (first | apply Kd.R_alloc | apply Kd.R_drewN | apply Kd.R_drew)); exact HO_4.out) hb); have n1_ := Aside0.mk (below_step blw hb); clear HO_4; clear HB; have HO_4 := n0_; have HB := n1_; clear n0_ n1_; (try clear hb); (try clear hb2); (try clear hk); (try clear hi)) | ((with_reducible refine gate_callee (f := 17) rfl ?_); refine goesL_ (some 44) rfl rfl Tryz.func17 (by kernel_rfl) rfl #[.string t286] rfl fq ?_; (with_reducible refine (lex_Scan.calls t286 t287 t288 t289 _ A15.out gwx).mono ?_); rintro e w35 ⟨v290, rfl, ho0, hb⟩; refine ⟨_, rfl, ?_⟩; have n0_ := Aside0.mk (Kd.R_elder' (by (with_reducible repeat (first | apply Kd.R_alloc | apply Kd.R_drewN | apply Kd.R_drew)); exact HO_4.out) (Kd.R_base ho0) hb); have n1_ := Aside0.mk (Kd.R_lower (Kd.R_new' ho0 (Kd.R_lt (by (with_reducible repeat (first | apply Kd.R_alloc | apply Kd.R_drewN | apply Kd.R_drew)); exact HO_4.out))) (below_size blw)); have n2_ := Aside0.mk (below_step blw hb); clear HO_4; clear HB; have HO_4 := n0_; have HO291 := n1_; have HB := n2_; clear n0_ n1_ n2_; (try clear hb); (try clear hb2); (try clear hk); (try clear hi); (try clear ho0)) | ((with_reducible refine gate_callee (f := 24) rfl ?_); refine goesL_ (some 50) rfl rfl Tryz.func24 (by kernel_rfl) rfl #[.slice Ao33 t281.length co33] rfl fq ?_; (with_reducible refine (lex_Tight.calls kj3 _ _ t281 t292 _ ?side1 ?side2 A16.out gwx).mono ?_); (case side1 => repeat (first | exact (Kd.R_reads' HO_4.out).2.2 | (with_reducible refine Kd.C_alloc ?_ _) | (with_reducible refine Kd.C_drewN ?_ _) | (with_reducible refine Kd.C_drew ?_))); (case side2 => exact (Kd.R_reads' HO_4.out).2.1); rintro e w36 ⟨rfl, hb⟩; refine ⟨_, rfl, ?_⟩; have n0_ := Aside0.mk (Kd.R_below (by (with_reducible repeat (first | apply Kd.R_alloc | apply Kd.R_drewN | apply Kd.R_drew)); exact HO_4.out) hb); have n1_ := Aside0.mk (Kd.R_below (by (with_reducible repeat (first | apply Kd.R_alloc | apply Kd.R_drewN | apply Kd.R_drew)); exact HO291.out) hb); have n2_ := Aside0.mk (below_step blw hb); clear HO_4; clear HO291; clear HB; have HO_4 := n0_; have HO291 := n1_; have HB := n2_; clear n0_ n1_ n2_; (try clear hb); (try clear hb2); (try clear hk); (try clear hi)) | ((with_reducible refine gate_callee (f := 17) rfl ?_); refine goesL_ (some 51) rfl rfl Tryz.func17 (by kernel_rfl) rfl #[.string t292] rfl fq ?_; (with_reducible refine (lex_Scan.calls t292 t293 t294 t295 _ A17.out gwx).mono ?_); rintro e w37 ⟨v296, rfl, ho0, hb⟩; refine ⟨_, rfl, ?_⟩; have n0_ := Aside0.mk (Kd.R_elder' (by (with_reducible repeat (first | apply Kd.R_alloc | apply Kd.R_drewN | apply Kd.R_drew)); exact HO_4.out) (Kd.R_base ho0) hb); have n1_ := Aside0.mk (Kd.R_elder' (by (with_reducible repeat (first | apply Kd.R_alloc | apply Kd.R_drewN | apply Kd.R_drew)); exact HO291.out) (Kd.R_base ho0) hb); have n2_ := Aside0.mk (Kd.R_lower (Kd.R_new' (Kd.R_new' ho0 (Kd.R_lt (by (with_reducible repeat (first | apply Kd.R_alloc | apply Kd.R_drewN | apply Kd.R_drew)); exact HO_4.out))) (Kd.R_lt (by (with_reducible repeat (first | apply Kd.R_alloc | apply Kd.R_drewN | apply Kd.R_drew)); exact HO291.out))) (below_size blw)); have n3_ := Aside0.mk (below_step blw hb); clear HO_4; clear HO291; clear HB; have HO_4 := n0_; have HO291 := n1_; have HO297 := n2_; have HB := n3_; clear n0_ n1_ n2_ n3_; (try clear hb); (try clear hb2); (try clear hk); (try clear hi); (try clear ho0); obtain ⟨Ao38, co38, eo38⟩ := Kd.R_slice HO291.out; subst eo38) | (go_at_call 28; (with_reducible refine (lex_Same.calls _ _ t287 _ _ t281 false _ ?side1 ?side2 ?side3 ?side4 A21.out).mono ?_); (case side1 => repeat (first | exact (Kd.R_reads' HO291.out).2.2 | (with_reducible refine Kd.C_alloc ?_ _) | (with_reducible refine Kd.C_drewN ?_ _) | (with_reducible refine Kd.C_drew ?_))); (case side2 => exact (Kd.R_reads' HO291.out).2.1); (case side3 => repeat (first | exact (Kd.R_reads' HO_4.out).2.2 | (with_reducible refine Kd.C_alloc ?_ _) | (with_reducible refine Kd.C_drewN ?_ _) | (with_reducible refine Kd.C_drew ?_))); (case side4 => exact (Kd.R_reads' HO_4.out).2.1); rintro e w39 ⟨rfl, hb⟩; have n0_ := Aside0.mk (Kd.R_below (by (with_reducible repeat (first | apply Kd.R_alloc | apply Kd.R_drewN | apply Kd.R_drew)); exact HO_4.out) hb); have n1_ := Aside0.mk (Kd.R_below (by (with_reducible repeat (first | apply Kd.R_alloc | apply Kd.R_drewN | apply Kd.R_drew)); exact HO291.out) hb); have n2_ := Aside0.mk (Kd.R_below (by (with_reducible repeat (first | apply Kd.R_alloc | apply Kd.R_drewN | apply Kd.R_drew)); exact HO297.out) hb); have n3_ := Aside0.mk (below_step blw hb); clear HO_4; clear HO291; clear HO297; clear HB; have HO_4 := n0_; have HO291 := n1_; have HO297 := n2_; have HB := n3_; clear n0_ n1_ n2_ n3_; (try clear hb); (try clear hb2); (try clear hk); (try clear hi)))
        go_ret
        exact ⟨rew, blw⟩
      ·rw [if_neg c20] at H
       have c20b0 : (t295 == 0) = false := beq_eq_false_iff_ne.mpr c20
       have c20b1 : (t295 != 0) = true := bne_iff_ne.mpr c20
       obtain rfl := Option.some.inj H
       obtain ⟨Ao40, co40, eo40⟩ := Kd.R_slice HO_4.out
       subst eo40
       go_wp2_with (first | ((with_reducible refine gate_callee (f := 22) rfl ?_); refine goesL_ (some 43) rfl rfl Tryz.func22 (by kernel_rfl) rfl #[.slice Ao40 t281.length co40] rfl fq ?_; (with_reducible refine (lex_Join.calls kj3 _ _ t281 t286 _ ?side1 ?side2 A14.out gwx).mono ?_); (case side1 => repeat (first | exact (Kd.R_reads' HO_4.out).2.2 | (with_reducible refine Kd.C_alloc ?_ _) | (with_reducible refine Kd.C_drewN ?_ _) | (with_reducible refine Kd.C_drew ?_))); (case side2 => exact (Kd.R_reads' HO_4.out).2.1); rintro e w41 ⟨rfl, hb⟩; refine ⟨_, rfl, ?_⟩; have n0_ := Aside0.mk (Kd.R_below (by (with_reducible repeat (first | apply Kd.R_alloc | apply Kd.R_drewN | apply Kd.R_drew)); exact HO_4.out) hb); have n1_ := Aside0.mk (below_step blw hb); clear HO_4; clear HB; have HO_4 := n0_; have HB := n1_; clear n0_ n1_; (try clear hb); (try clear hb2); (try clear hk); (try clear hi)) | ((with_reducible refine gate_callee (f := 17) rfl ?_); refine goesL_ (some 44) rfl rfl Tryz.func17 (by kernel_rfl) rfl #[.string t286] rfl fq ?_; (with_reducible refine (lex_Scan.calls t286 t287 t288 t289 _ A15.out gwx).mono ?_); rintro e w42 ⟨v290, rfl, ho0, hb⟩; refine ⟨_, rfl, ?_⟩; have n0_ := Aside0.mk (Kd.R_elder' (by (with_reducible repeat (first | apply Kd.R_alloc | apply Kd.R_drewN | apply Kd.R_drew)); exact HO_4.out) (Kd.R_base ho0) hb); have n1_ := Aside0.mk (Kd.R_lower (Kd.R_new' ho0 (Kd.R_lt (by (with_reducible repeat (first | apply Kd.R_alloc | apply Kd.R_drewN | apply Kd.R_drew)); exact HO_4.out))) (below_size blw)); have n2_ := Aside0.mk (below_step blw hb); clear HO_4; clear HB; have HO_4 := n0_; have HO291 := n1_; have HB := n2_; clear n0_ n1_ n2_; (try clear hb); (try clear hb2); (try clear hk); (try clear hi); (try clear ho0)) | ((with_reducible refine gate_callee (f := 24) rfl ?_); refine goesL_ (some 50) rfl rfl Tryz.func24 (by kernel_rfl) rfl #[.slice Ao40 t281.length co40] rfl fq ?_; (with_reducible refine (lex_Tight.calls kj3 _ _ t281 t292 _ ?side1 ?side2 A16.out gwx).mono ?_); (case side1 => repeat (first | exact (Kd.R_reads' HO_4.out).2.2 | (with_reducible refine Kd.C_alloc ?_ _) | (with_reducible refine Kd.C_drewN ?_ _) | (with_reducible refine Kd.C_drew ?_))); (case side2 => exact (Kd.R_reads' HO_4.out).2.1); rintro e w43 ⟨rfl, hb⟩; refine ⟨_, rfl, ?_⟩; have n0_ := Aside0.mk (Kd.R_below (by (with_reducible repeat (first | apply Kd.R_alloc | apply Kd.R_drewN | apply Kd.R_drew)); exact HO_4.out) hb); have n1_ := Aside0.mk (Kd.R_below (by (with_reducible repeat (first | apply Kd.R_alloc | apply Kd.R_drewN | apply Kd.R_drew)); exact HO291.out) hb); have n2_ := Aside0.mk (below_step blw hb); clear HO_4; clear HO291; clear HB; have HO_4 := n0_; have HO291 := n1_; have HB := n2_; clear n0_ n1_ n2_; (try clear hb); (try clear hb2); (try clear hk); (try clear hi)) | ((with_reducible refine gate_callee (f := 17) rfl ?_); refine goesL_ (some 51) rfl rfl Tryz.func17 (by kernel_rfl) rfl #[.string t292] rfl fq ?_; (with_reducible refine (lex_Scan.calls t292 t293 t294 t295 _ A17.out gwx).mono ?_); rintro e w44 ⟨v296, rfl, ho0, hb⟩; refine ⟨_, rfl, ?_⟩; have n0_ := Aside0.mk (Kd.R_elder' (by (with_reducible repeat (first | apply Kd.R_alloc | apply Kd.R_drewN | apply Kd.R_drew)); exact HO_4.out) (Kd.R_base ho0) hb); have n1_ := Aside0.mk (Kd.R_elder' (by (with_reducible repeat (first | apply Kd.R_alloc | apply Kd.R_drewN | apply Kd.R_drew)); exact HO291.out) (Kd.R_base ho0) hb); have n2_ := Aside0.mk (Kd.R_lower (Kd.R_new' (Kd.R_new' ho0 (Kd.R_lt (by (with_reducible repeat (first | apply Kd.R_alloc | apply Kd.R_drewN | apply Kd.R_drew)); exact HO_4.out))) (Kd.R_lt (by (with_reducible repeat (first | apply Kd.R_alloc | apply Kd.R_drewN | apply Kd.R_drew)); exact HO291.out))) (below_size blw)); have n3_ := Aside0.mk (below_step blw hb); clear HO_4; clear HO291; clear HB; have HO_4 := n0_; have HO291 := n1_; have HO297 := n2_; have HB := n3_; clear n0_ n1_ n2_ n3_; (try clear hb); (try clear hb2); (try clear hk); (try clear hi); (try clear ho0)))
       go_ret
       exact ⟨rew, blw⟩
     ·rw [if_neg c19] at H
      have c19b0 : (t289 == 0) = false := beq_eq_false_iff_ne.mpr c19
      have c19b1 : (t289 != 0) = true := bne_iff_ne.mpr c19
      obtain rfl := Option.some.inj H
      obtain ⟨Ao45, co45, eo45⟩ := Kd.R_slice HO_4.out
      subst eo45
      go_wp2_with (first | ((with_reducible refine gate_callee (f := 22) rfl ?_); refine goesL_ (some 43) rfl rfl Tryz.func22 (by kernel_rfl) rfl #[.slice Ao45 t281.length co45] rfl fq ?_; (with_reducible refine (lex_Join.calls kj3 _ _ t281 t286 _ ?side1 ?side2 A14.out gwx).mono ?_); (case side1 => repeat (first | exact (Kd.R_reads' HO_4.out).2.2 | (with_reducible refine Kd.C_alloc ?_ _) | (with_reducible refine Kd.C_drewN ?_ _) | (with_reducible refine Kd.C_drew ?_))); (case side2 => exact (Kd.R_reads' HO_4.out).2.1); rintro e w46 ⟨rfl, hb⟩; refine ⟨_, rfl, ?_⟩; have n0_ := Aside0.mk (Kd.R_below (by (with_reducible repeat (first | apply Kd.R_alloc | apply Kd.R_drewN | apply Kd.R_drew)); exact HO_4.out) hb); have n1_ := Aside0.mk (below_step blw hb); clear HO_4; clear HB; have HO_4 := n0_; have HB := n1_; clear n0_ n1_; (try clear hb); (try clear hb2); (try clear hk); (try clear hi)) | ((with_reducible refine gate_callee (f := 17) rfl ?_); refine goesL_ (some 44) rfl rfl Tryz.func17 (by kernel_rfl) rfl #[.string t286] rfl fq ?_; (with_reducible refine (lex_Scan.calls t286 t287 t288 t289 _ A15.out gwx).mono ?_); rintro e w47 ⟨v290, rfl, ho0, hb⟩; refine ⟨_, rfl, ?_⟩; have n0_ := Aside0.mk (Kd.R_elder' (by (with_reducible repeat (first | apply Kd.R_alloc | apply Kd.R_drewN | apply Kd.R_drew)); exact HO_4.out) (Kd.R_base ho0) hb); have n1_ := Aside0.mk (Kd.R_lower (Kd.R_new' ho0 (Kd.R_lt (by (with_reducible repeat (first | apply Kd.R_alloc | apply Kd.R_drewN | apply Kd.R_drew)); exact HO_4.out))) (below_size blw)); have n2_ := Aside0.mk (below_step blw hb); clear HO_4; clear HB; have HO_4 := n0_; have HO291 := n1_; have HB := n2_; clear n0_ n1_ n2_; (try clear hb); (try clear hb2); (try clear hk); (try clear hi); (try clear ho0)) | ((with_reducible refine gate_callee (f := 24) rfl ?_); refine goesL_ (some 50) rfl rfl Tryz.func24 (by kernel_rfl) rfl #[.slice Ao45 t281.length co45] rfl fq ?_; (with_reducible refine (lex_Tight.calls kj3 _ _ t281 t292 _ ?side1 ?side2 A16.out gwx).mono ?_); (case side1 => repeat (first | exact (Kd.R_reads' HO_4.out).2.2 | (with_reducible refine Kd.C_alloc ?_ _) | (with_reducible refine Kd.C_drewN ?_ _) | (with_reducible refine Kd.C_drew ?_))); (case side2 => exact (Kd.R_reads' HO_4.out).2.1); rintro e w48 ⟨rfl, hb⟩; refine ⟨_, rfl, ?_⟩; have n0_ := Aside0.mk (Kd.R_below (by (with_reducible repeat (first | apply Kd.R_alloc | apply Kd.R_drewN | apply Kd.R_drew)); exact HO_4.out) hb); have n1_ := Aside0.mk (Kd.R_below (by (with_reducible repeat (first | apply Kd.R_alloc | apply Kd.R_drewN | apply Kd.R_drew)); exact HO291.out) hb); have n2_ := Aside0.mk (below_step blw hb); clear HO_4; clear HO291; clear HB; have HO_4 := n0_; have HO291 := n1_; have HB := n2_; clear n0_ n1_ n2_; (try clear hb); (try clear hb2); (try clear hk); (try clear hi)) | ((with_reducible refine gate_callee (f := 17) rfl ?_); refine goesL_ (some 51) rfl rfl Tryz.func17 (by kernel_rfl) rfl #[.string t292] rfl fq ?_; (with_reducible refine (lex_Scan.calls t292 t293 t294 t295 _ A17.out gwx).mono ?_); rintro e w49 ⟨v296, rfl, ho0, hb⟩; refine ⟨_, rfl, ?_⟩; have n0_ := Aside0.mk (Kd.R_elder' (by (with_reducible repeat (first | apply Kd.R_alloc | apply Kd.R_drewN | apply Kd.R_drew)); exact HO_4.out) (Kd.R_base ho0) hb); have n1_ := Aside0.mk (Kd.R_elder' (by (with_reducible repeat (first | apply Kd.R_alloc | apply Kd.R_drewN | apply Kd.R_drew)); exact HO291.out) (Kd.R_base ho0) hb); have n2_ := Aside0.mk (Kd.R_lower (Kd.R_new' (Kd.R_new' ho0 (Kd.R_lt (by (with_reducible repeat (first | apply Kd.R_alloc | apply Kd.R_drewN | apply Kd.R_drew)); exact HO_4.out))) (Kd.R_lt (by (with_reducible repeat (first | apply Kd.R_alloc | apply Kd.R_drewN | apply Kd.R_drew)); exact HO291.out))) (below_size blw)); have n3_ := Aside0.mk (below_step blw hb); clear HO_4; clear HO291; clear HB; have HO_4 := n0_; have HO291 := n1_; have HO297 := n2_; have HB := n3_; clear n0_ n1_ n2_ n3_; (try clear hb); (try clear hb2); (try clear hk); (try clear hi); (try clear ho0)))
      go_ret
      exact ⟨rew, blw⟩
    ·replace c18 := Bool.eq_false_iff.mpr c18
     subst c18
     have H1 : (some false) = some r := by rw [if_neg (show ¬ (false = true) by decide)] at H; exact H
     clear H
     have H := H1
     clear H1
     obtain rfl := Option.some.inj H
     obtain ⟨Ao50, co50, eo50⟩ := Kd.R_slice HO_4.out
     subst eo50
     go_wp2_with (first | ((with_reducible refine gate_callee (f := 22) rfl ?_); refine goesL_ (some 43) rfl rfl Tryz.func22 (by kernel_rfl) rfl #[.slice Ao50 t281.length co50] rfl fq ?_; (with_reducible refine (lex_Join.calls kj3 _ _ t281 t286 _ ?side1 ?side2 A14.out gwx).mono ?_); (case side1 => repeat (first | exact (Kd.R_reads' HO_4.out).2.2 | (with_reducible refine Kd.C_alloc ?_ _) | (with_reducible refine Kd.C_drewN ?_ _) | (with_reducible refine Kd.C_drew ?_))); (case side2 => exact (Kd.R_reads' HO_4.out).2.1); rintro e w51 ⟨rfl, hb⟩; refine ⟨_, rfl, ?_⟩; have n0_ := Aside0.mk (Kd.R_below (by (with_reducible repeat (first | apply Kd.R_alloc | apply Kd.R_drewN | apply Kd.R_drew)); exact HO_4.out) hb); have n1_ := Aside0.mk (below_step blw hb); clear HO_4; clear HB; have HO_4 := n0_; have HB := n1_; clear n0_ n1_; (try clear hb); (try clear hb2); (try clear hk); (try clear hi)) | ((with_reducible refine gate_callee (f := 17) rfl ?_); refine goesL_ (some 44) rfl rfl Tryz.func17 (by kernel_rfl) rfl #[.string t286] rfl fq ?_; (with_reducible refine (lex_Scan.calls t286 t287 t288 t289 _ A15.out gwx).mono ?_); rintro e w52 ⟨v290, rfl, ho0, hb⟩; refine ⟨_, rfl, ?_⟩; have n0_ := Aside0.mk (Kd.R_elder' (by (with_reducible repeat (first | apply Kd.R_alloc | apply Kd.R_drewN | apply Kd.R_drew)); exact HO_4.out) (Kd.R_base ho0) hb); have n1_ := Aside0.mk (Kd.R_lower (Kd.R_new' ho0 (Kd.R_lt (by (with_reducible repeat (first | apply Kd.R_alloc | apply Kd.R_drewN | apply Kd.R_drew)); exact HO_4.out))) (below_size blw)); have n2_ := Aside0.mk (below_step blw hb); clear HO_4; clear HB; have HO_4 := n0_; have HO291 := n1_; have HB := n2_; clear n0_ n1_ n2_; (try clear hb); (try clear hb2); (try clear hk); (try clear hi); (try clear ho0)) | ((with_reducible refine gate_callee (f := 24) rfl ?_); refine goesL_ (some 50) rfl rfl Tryz.func24 (by kernel_rfl) rfl #[.slice Ao50 t281.length co50] rfl fq ?_; (with_reducible refine (lex_Tight.calls kj3 _ _ t281 t292 _ ?side1 ?side2 A16.out gwx).mono ?_); (case side1 => repeat (first | exact (Kd.R_reads' HO_4.out).2.2 | (with_reducible refine Kd.C_alloc ?_ _) | (with_reducible refine Kd.C_drewN ?_ _) | (with_reducible refine Kd.C_drew ?_))); (case side2 => exact (Kd.R_reads' HO_4.out).2.1); rintro e w53 ⟨rfl, hb⟩; refine ⟨_, rfl, ?_⟩; have n0_ := Aside0.mk (Kd.R_below (by (with_reducible repeat (first | apply Kd.R_alloc | apply Kd.R_drewN | apply Kd.R_drew)); exact HO_4.out) hb); have n1_ := Aside0.mk (Kd.R_below (by (with_reducible repeat (first | apply Kd.R_alloc | apply Kd.R_drewN | apply Kd.R_drew)); exact HO291.out) hb); have n2_ := Aside0.mk (below_step blw hb); clear HO_4; clear HO291; clear HB; have HO_4 := n0_; have HO291 := n1_; have HB := n2_; clear n0_ n1_ n2_; (try clear hb); (try clear hb2); (try clear hk); (try clear hi)) | ((with_reducible refine gate_callee (f := 17) rfl ?_); refine goesL_ (some 51) rfl rfl Tryz.func17 (by kernel_rfl) rfl #[.string t292] rfl fq ?_; (with_reducible refine (lex_Scan.calls t292 t293 t294 t295 _ A17.out gwx).mono ?_); rintro e w54 ⟨v296, rfl, ho0, hb⟩; refine ⟨_, rfl, ?_⟩; have n0_ := Aside0.mk (Kd.R_elder' (by (with_reducible repeat (first | apply Kd.R_alloc | apply Kd.R_drewN | apply Kd.R_drew)); exact HO_4.out) (Kd.R_base ho0) hb); have n1_ := Aside0.mk (Kd.R_elder' (by (with_reducible repeat (first | apply Kd.R_alloc | apply Kd.R_drewN | apply Kd.R_drew)); exact HO291.out) (Kd.R_base ho0) hb); have n2_ := Aside0.mk (Kd.R_lower (Kd.R_new' (Kd.R_new' ho0 (Kd.R_lt (by (with_reducible repeat (first | apply Kd.R_alloc | apply Kd.R_drewN | apply Kd.R_drew)); exact HO_4.out))) (Kd.R_lt (by (with_reducible repeat (first | apply Kd.R_alloc | apply Kd.R_drewN | apply Kd.R_drew)); exact HO291.out))) (below_size blw)); have n3_ := Aside0.mk (below_step blw hb); clear HO_4; clear HO291; clear HB; have HO_4 := n0_; have HO291 := n1_; have HO297 := n2_; have HB := n3_; clear n0_ n1_ n2_ n3_; (try clear hb); (try clear hb2); (try clear hk); (try clear hi); (try clear ho0)))
     go_ret
     exact ⟨rew, blw⟩
def taplinelaw11_LexBack.Pure : Prop := ∀ (a0 : ByteArray), a0.size ≤ 140737488351232 → ∃ k, taplinelaw11_LexBack.f k a0 = some true
theorem taplinelaw11_LexBack.walk (P : taplinelaw11_LexBack.Pure) (a0 : ByteArray) (w : World) (w0 : a0.size ≤ 140737488351232) (hgw : GW w) :
  Calls Tryz.prog 7 #[.string a0] w fun e w' => e = .returned (.bool true) ∧ Below w.heap.size w w' := by
 obtain ⟨k, h⟩ := P a0 w0
 refine (taplinelaw11_LexBack.calls k a0 true w h gwx).mono ?_
 rintro e w' ⟨rfl, hd⟩
 exact ⟨rfl, hd⟩
end Go.Proofs.YtadgddipkbdnbaaGreatDoor.Q
set_option linter.unusedVariables false
set_option linter.unusedSimpArgs false
namespace Go.Proofs.Lx
open Go.Proofs.YtadgddipkbdnbaaGreatDoor
theorem join_back {ts : List K} (hc : Toks [] ts) (hne : ts ≠ []) (h1 : (joinK ts).length ≤ 20000) (h2 : ts.length ≤ 4000) : (scan (joinK ts)).2.2 = 0 ∧ (scan (joinK ts)).1.map ktM = ts :=
 to_scan h1 h2 (join_lex hc hne) .nil
theorem joinK_ne {ts : List K} (hc : Toks [] ts) (hne : ts ≠ []) : joinK ts ≠ [] := by
 match ts with
 | [] => exact absurd rfl hne
 | [x] => exact hc.1.2.1
 | x :: y :: ts =>
  intro h
  have := congrArg List.length h
  simp [joinK] at this
theorem tight_back {ts : List K} (hc : Toks [] ts) (h1 : (tightK [] [] ts).length ≤ 20000) (h2 : ts.length ≤ 4000) : Wr ts (tightK [] [] ts) ∧ (scan (tightK [] [] ts)).2.2 = 0 ∧ (scan (tightK [] [] ts)).1.map ktM = ts := by
 have h := tight_wr (ts := ts) (done := []) (out := []) ⟨rfl, [], .nil _ _⟩ (fun _ => rfl) (by simpa using hc)
 rw [List.nil_append] at h
 exact ⟨h, h.gives h1 h2⟩
end Go.Proofs.Lx
namespace Go.Proofs.YtadgddipkbdnbaaGreatDoor.Q
open Go.RowKit Go.Proofs.YtadgddipkbdnbaaGreatDoor YtadgddipkbdnbaaGreatDoorW.PrintWords YtadgddipkbdnbaaGreatDoorW.PrintLast
theorem scanned {t : List UInt8} (h : (Lx.scan t).2.2 = 0) : t.length ≤ 20000 ∧ (Lx.scan t).1.length ≤ 4000 ∧ Lx.Toks [] ((Lx.scan t).1.map Lx.ktM) ∧ lenS ((Lx.scan t).1.map tokS) ≤ t.length + (Lx.scan t).1.length := by
 obtain ⟨h1, h2, f, h3, h4⟩ := Lx.scan_to h
 refine ⟨h1, h2, h3.chain, ?_⟩
 have := h3.texts
 rw [lenS_kt, kt_tokS, Lx.sum_succ, List.length_map]
 omega
theorem gives_of {t : List UInt8} {ts : List Lx.K} (h : (Lx.scan t).2.2 = 0 ∧ (Lx.scan t).1.map Lx.ktM = ts) : Lx.givesM t ts = true := decide_eq_true h
theorem LexBack_pure : taplinelaw11_LexBack.Pure := by
 intro s hs
 refine ⟨20000, ?_⟩
 simp only [taplinelaw11_LexBack.f, sane_t.f, lex_Scan.f, Option.bind_some]
 have hsl : s.data.toList.length = s.size := ba_len s
 by_cases es : (Lx.scan s.data.toList).2.2 = 0
 ·rw [if_pos es]
  obtain ⟨h1, h2, h3, h4⟩ := scanned es
  generalize Lx.scan s.data.toList = sc at es h2 h3 h4
  obtain ⟨l, at_, e⟩ := sc
  simp only at es h2 h3 h4 ⊢
  rw [List.length_map]
  by_cases h0 : (l.length : Int) = 0
  ·rw [if_pos h0]
   show taplinelaw11_LexBack.j0 (19999 + 1) _ _ _ = _
   rw [taplinelaw11_LexBack.j0, if_pos rfl]
  ·rw [if_neg h0]
   by_cases h200 : (l.length : Int) > 200
   ·rw [if_pos h200]
    show taplinelaw11_LexBack.j0 (19999 + 1) _ _ _ = _
    rw [taplinelaw11_LexBack.j0, if_pos rfl]
   ·rw [if_neg h200, wrapn (by omega) (by omega)]
    by_cases hbig : (s.size : Int) + (l.length : Int) > 20000
    ·rw [decide_eq_true hbig]
     show taplinelaw11_LexBack.j0 (19999 + 1) _ _ _ = _
     rw [taplinelaw11_LexBack.j0, if_pos rfl]
    ·rw [decide_eq_false hbig]
     show taplinelaw11_LexBack.j0 (19999 + 1) _ _ _ = _
     rw [taplinelaw11_LexBack.j0, if_neg (by decide)]
     have hlen : (l.map tokS).length ≤ 4000 := by rw [List.length_map]; omega
     have hne : l.map Lx.ktM ≠ [] := by
      intro h
      have := congrArg List.length h
      rw [List.length_map, List.length_nil] at this
      omega
     rw [join_f _ hlen (by omega) 19999 (by rw [List.length_map]; omega), tight_f _ hlen (by omega) 19999 (by rw [List.length_map]; omega), kt_tokS]
     have j1 := Lx.joinK_len (l.map Lx.ktM)
     rw [← kt_tokS, ← lenS_kt, kt_tokS] at j1
     have j2 := Lx.join_back h3 hne (by omega) (by rw [List.length_map]; omega)
     have t1 := Lx.tight_len (ts := l.map Lx.ktM) (done := []) (out := [])
     rw [← kt_tokS, ← lenS_kt, kt_tokS, List.length_nil] at t1
     obtain ⟨-, t2⟩ := Lx.tight_back h3 (by omega) (by rw [List.length_map]; omega)
     have j3 : joinM (l.map Lx.ktM) = Lx.joinK (l.map Lx.ktM) := by unfold joinM; rw [if_pos (gives_of j2)]
     have t3 : tightM (l.map Lx.ktM) = Lx.tightK [] [] (l.map Lx.ktM) := by unfold tightM; rw [j3, if_neg (Lx.joinK_ne h3 hne)]
     rw [j3, t3]
     simp only [Option.bind_some, if_true, lex_Same.f, strS]
     show (if (Lx.scan (Lx.joinK (l.map Lx.ktM))).2.2 = 0 then _ else _) = _
     rw [if_pos j2.1]
     show (if (Lx.scan (Lx.tightK [] [] (l.map Lx.ktM))).2.2 = 0 then _ else _) = _
     rw [if_pos t2.1, kt_tokS, kt_tokS, kt_tokS, j2.2, t2.2]
     simp
 ·rw [if_neg es]
  show taplinelaw11_LexBack.j0 (19999 + 1) _ _ _ = _
  rw [taplinelaw11_LexBack.j0, if_pos rfl]
end Go.Proofs.YtadgddipkbdnbaaGreatDoor.Q
set_option linter.unusedVariables false
set_option linter.unusedSimpArgs false
namespace Go.Proofs.YtadgddipkbdnbaaGreatDoor.lexBack
open Go.ChangeShapes Go.WideShapes Go.ChangeAt Go.RowKit
open Go.ChangeMaps (open_string shut_string)
set_option maxRecDepth 100000 in
theorem lifted (os : Os) (started : os.Started) (H : Type) (enc : TypeId × Value → H) :
  ReturnsInHanded {} Tryz.checked os 7 .any (fun w args => (Rows.lexBackSpec.pre enc Tryz.prog Tryz.f7 [] false w args ∧ laidMetH Tryz.prog lexLaid w) ∧ sizedMet enc Tryz.prog Tryz.f7 (OpenSpec.ofChange Rows.lexBackSpec) false w args)
   (Rows.lexBackSpec.post enc Tryz.prog Tryz.f7 false true false false) := by
 refine handed_and_shaped (C := Tryz.checked) (X := fun w _ => laidMetH Tryz.prog lexLaid w) (fun _ _ _ hh h => h.of_heap hh) own started (by kernel_rfl) Tryz.func7
  (ChangeSpec.witness_shaped (enc := enc) (C := Tryz.checked) (os := os) (X := fun w _ => laidMetH Tryz.prog lexLaid w) false (World.doorLaid Tryz.prog 400 os) #[.string ByteArray.empty] 8 rfl (World.shaped_of_RefB (by kernel_rfl) (by kernel_rfl)) (by kernel_rfl) (by kernel_rfl) (by kernel_rfl) (door_met os _)) ?_
 intro W base args ds gs before hval0 hW hcnd hsz0 hL hsh _
 have hgw := of_laid hL hsh
 clear hL hsh
 have hsz : (DataW.weightsEach Tryz.prog (Tryz.f7.params.toList ++ Rows.lexBackSpec.plain.varTypes Tryz.prog) (ds ++ gs)).all (· ≤ reachBytes) = true := hsz0
 have hval : ∀ (j : Nat) t v, Tryz.f7.params[j]? = some t → args[j]? = some v → Value.okWide Tryz.prog W .any base t v := hval0
 have hW' := hW
 obtain ⟨p, q, hA0, hV, rfl, hfz, hnd⟩ := hW
 have hA : DataW.TrodAll enc Tryz.prog W 0 (fun _ => true) true Tryz.f7.params.toList args.toList ds p := hA0
 rw [Tryz.params7] at hA hval hsz
 obtain ⟨v0, vs0, d0, ds0, p0, q0, hargs, rfl, rfl, h0, r0⟩ := trodAll_cons hA
 obtain ⟨rfl, rfl, rfl⟩ := trodAll_nil r0
 obtain rfl : args = #[v0] := by cases args; simp_all
 obtain ⟨rfl, rfl⟩ := trodVars_none hV
 obtain ⟨a0, rfl, rfl, rfl, y0⟩ := open_string Tryz.underlying9 (hval 0 9 v0 rfl rfl) h0
 have w0 : a0.size ≤ 140737488351232 := by
  have z := sized_string hsz (j := 0) (t := 9) rfl rfl
  rw [Array.length_toList] at z
  exact z
 clear hA0 hval0 hsz0 hsz
 refine (Q.taplinelaw11_LexBack.walk Q.LexBack_pure a0 W w0 hgw).mono fun e W' ⟨he, bel⟩ => ?_
 subst he
 exact ⟨_, rfl, _, _, _, [], _, [], hW', trodAll_mk1 (shut_bool Tryz.underlying4 _), (trodAll_cons_mk (shut_string Tryz.underlying9 y0) trodAll_mk0), rfl, bel.frame _, fun h => by cases h⟩
theorem over : Rows.LexBackSaid :=
 OpenClaim.holds_of_wide 7 Tryz.f7 rfl rfl rfl rfl rfl rfl rfl ⟨rfl, rfl, rfl, rfl, rfl⟩ rfl rfl rfl rfl rfl (by kernel_rfl) Tryz.func7 (by kernel_rfl)
  (of_decide_eq_true (by kernel_rfl)) (by unfold Func.isWrapper; first | (rw [if_pos (by decide +kernel)]; kernel_rfl) | (rw [if_neg (by decide +kernel)]; exact ⟨rfl, rfl⟩))
  (fun os started H enc _ => lifted os started H enc)
end Go.Proofs.YtadgddipkbdnbaaGreatDoor.lexBack
namespace Go.Proofs.YtadgddipkbdnbaaGreatDoor
theorem lexBack_card : Rows.LexBackCardSaid :=
 Claim7.holds_tied_plain_at .later [] [.data, .data, .data, .sentinel, .sentinel, .listed, .data, .data] true (true, "85ed3a9bdcdf405d5b0a35b2759147de3913577c107b7173cad54d4ee995d561") true
  lexBack.over (fun _ h => by cases h) (by kernel_rfl) (fun _ h => by cases h) lexBack_row_tie rfl ⟨rfl, rfl⟩ (by kernel_rfl) rfl
  (fun f fn hf hfn => by
   obtain rfl : f = 7 := Option.some.inj ((show Tryz.prog.funcNamed "tapline/taplinelaw11.LexBack" = some 7 by kernel_rfl).symm.trans hf) |>.symm
   obtain rfl : fn = Tryz.f7 := (Option.some.inj (Tryz.func7.symm.trans hfn)).symm
   exact ⟨by kernel_rfl, fun j t ht => by
    rw [Tryz.params7] at ht
    have hm : t ∈ [9] := by simpa using Array.mem_of_getElem? ht
    have hall : ([9].all fun u => !Tryz.prog.wantsStandIn u) = true := by kernel_rfl
    exact (show Tryz.prog.wantsStandIn t = false by simpa using List.all_eq_true.1 hall t hm)⟩)
  (by kernel_rfl)
#print axioms lexBack_card
end Go.Proofs.YtadgddipkbdnbaaGreatDoor
