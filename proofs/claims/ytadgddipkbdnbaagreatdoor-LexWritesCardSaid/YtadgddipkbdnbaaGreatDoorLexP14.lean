/- Parts of the proof: see the last text -/
import Derived.Test.YtadgddipkbdnbaaGreatDoorLexP1
import Derived.Test.YtadgddipkbdnbaaGreatDoorLexP2
import Derived.Test.YtadgddipkbdnbaaGreatDoorLexP3
import Derived.Test.YtadgddipkbdnbaaGreatDoorLexP4
import Derived.Test.YtadgddipkbdnbaaGreatDoorLexP5
import Derived.Test.YtadgddipkbdnbaaGreatDoorLexP6
import Derived.Test.YtadgddipkbdnbaaGreatDoorLexP7
import Derived.Test.YtadgddipkbdnbaaGreatDoorLexP8
import Derived.Test.YtadgddipkbdnbaaGreatDoorLexP9
import Derived.Test.YtadgddipkbdnbaaGreatDoorLexP10
import Derived.Test.YtadgddipkbdnbaaGreatDoorLexP11
import Derived.Test.YtadgddipkbdnbaaGreatDoorLexP12
import Derived.Test.YtadgddipkbdnbaaGreatDoorLexP13
namespace Go.Proofs.YtadgddipkbdnbaaGreatDoor.Q
open Go.Proofs.YtadgddipkbdnbaaGreatDoor Go.RowKit Go.Proofs.YtadgddipkbdnbaaGreatDoorW.PrintWords Go.Proofs.YtadgddipkbdnbaaGreatDoorW.PrintLast Go.Proofs.YtadgddipkbdnbaaGreatDoorW.PrintMore
attribute [local go_sem] max2_int min2_int max_two min_two max_three min_three max_four min_four   
set_option linter.unusedVariables false
set_option linter.unusedSimpArgs false
mutual
def taplinelaw11_sane.j0 : Nat → Bool → Option (Bool)
 | 0, _ => none
 | k + 1, x47 => if x47 = true then (some false) else ((lex_Number.f (⟨#[48, 49, 48]⟩ : ByteArray)).bind fun bt170 => ((lex_Number.f (⟨#[39, 92, 110, 39]⟩ : ByteArray)).bind fun bt173 => ((lex_Number.f (⟨#[49, 56, 52, 52, 54, 55, 52, 52, 48, 55, 51, 55, 48, 57, 53, 53, 49, 54, 49, 53, 117]⟩ : ByteArray)).bind fun bt176 => (if bt170.2.2 = 0 then (if bt173.2.2 = 0 then (if bt176.2.2 = 0 then (if bt170.1 = 8 then (if bt173.1 = 10 then (if bt176.1 = (-1) then (if bt170.2.1 = true then (taplinelaw11_sane.j1 k true) else (if bt173.2.1 = true then (taplinelaw11_sane.j1 k true) else (taplinelaw11_sane.j1 k (!bt176.2.1)))) else (taplinelaw11_sane.j1 k true)) else (taplinelaw11_sane.j1 k true)) else (taplinelaw11_sane.j1 k true)) else (taplinelaw11_sane.j1 k true)) else (taplinelaw11_sane.j1 k true)) else (taplinelaw11_sane.j1 k true)))))
def taplinelaw11_sane.j1 : Nat → Bool → Option (Bool)
 | 0, _ => none
 | k + 1, x94 => if x94 = true then (some false) else ((lex_Quote.f (⟨#[97, 9, 34, 255]⟩ : ByteArray)).bind fun bt179 => ((lex_Scan.f (⟨#[97, 32, 43, 32, 43, 32, 98]⟩ : ByteArray)).bind fun bt181 => ((lex_Scan.f (⟨#[112, 114, 111, 98, 101, 32, 120, 32, 119, 104, 101, 110]⟩ : ByteArray)).bind fun bt186 => ((lex_Place.f (⟨#[97, 10, 98]⟩ : ByteArray) 2).bind fun bt191 => (if bt179.2 = 0 then (if bt181.2.2 = 0 then (if bt186.2.2 = 0 then (if bt191.2.2 = 0 then (if bt179.1.toList = ([34, 97, 92, 116, 92, 34, 92, 120, 102, 102, 34] : List UInt8) then ((lex_Tight.f k bt181.1).bind fun t194 => (if t194.toList = ([97, 43, 32, 43, 98] : List UInt8) then ((lex_Tight.f k bt186.1).bind fun t195 => (if t195.toList = ([112, 114, 111, 98, 101, 32, 120, 32, 119, 104, 101, 110] : List UInt8) then (if bt191.1 = 2 then (some (bt191.2.1 == 1)) else (some false)) else (some false))) else (some false))) else (some false)) else (some false)) else (some false)) else (some false)) else (some false))))))
end
def taplinelaw11_sane.f (k : Nat)  : Option (Bool) := (taplinelaw11_kinds.f k (⟨#[112, 114, 111, 98, 101, 32, 115, 121, 115, 99, 97, 108, 108, 58, 58, 58, 101, 110, 116, 114, 121, 44, 32, 105, 111, 58, 58, 58, 42, 32, 119, 104, 101, 110, 32, 40, 120, 45, 62, 121, 32, 62, 61, 32, 48, 120, 49, 70, 117, 41]⟩ : ByteArray) (([2, 6, 5, 6, 2, 5, 1, 5, 1, 5, 3, 5] : List Int)) (([(⟨#[112, 114, 111, 98, 101]⟩ : ByteArray), (⟨#[115, 121, 115, 99, 97, 108, 108, 58, 58, 58, 101, 110, 116, 114, 121]⟩ : ByteArray), (⟨#[44]⟩ : ByteArray), (⟨#[105, 111, 58, 58, 58, 42]⟩ : ByteArray), (⟨#[119, 104, 101, 110]⟩ : ByteArray), (⟨#[40]⟩ : ByteArray), (⟨#[120]⟩ : ByteArray), (⟨#[45, 62]⟩ : ByteArray), (⟨#[121]⟩ : ByteArray), (⟨#[62, 61]⟩ : ByteArray), (⟨#[48, 120, 49, 70, 117]⟩ : ByteArray), (⟨#[41]⟩ : ByteArray)] : List ByteArray))).bind fun t158 => ((taplinelaw11_kinds.f k (⟨#[97, 91, 98, 93]⟩ : ByteArray) (([1, 5, 1, 5] : List Int)) (([(⟨#[97]⟩ : ByteArray), (⟨#[91]⟩ : ByteArray), (⟨#[98]⟩ : ByteArray), (⟨#[93]⟩ : ByteArray)] : List ByteArray))).bind fun t165 => (if t158 = true then (if t165 = true then ((taplinelaw11_fails.f (⟨#[49, 97]⟩ : ByteArray) 112).bind fun t166 => (if t166 = true then ((taplinelaw11_fails.f (⟨#[48, 57]⟩ : ByteArray) 112).bind fun t167 => (if t167 = true then ((taplinelaw11_fails.f (⟨#[34, 97]⟩ : ByteArray) 113).bind fun t168 => (if t168 = true then ((taplinelaw11_fails.f (⟨#[36]⟩ : ByteArray) 110).bind fun t169 => (taplinelaw11_sane.j0 k (!t169))) else (taplinelaw11_sane.j0 k true))) else (taplinelaw11_sane.j0 k true))) else (taplinelaw11_sane.j0 k true))) else (taplinelaw11_sane.j0 k true)) else (taplinelaw11_sane.j0 k true)))
theorem taplinelaw11_sane.mono_l : ∀ k, (∀ y0, LeO (taplinelaw11_sane.j0 k y0) (taplinelaw11_sane.j0 (k + 1) y0)) ∧ (∀ y0, LeO (taplinelaw11_sane.j1 k y0) (taplinelaw11_sane.j1 (k + 1) y0))
 | 0 => ⟨fun _ r h => by simp [taplinelaw11_sane.j0] at h, fun _ r h => by simp [taplinelaw11_sane.j1] at h⟩
 | k + 1 => by
  obtain ⟨ih0, ih1⟩ := taplinelaw11_sane.mono_l k
  refine ⟨?_, ?_⟩
  ·intro y0
   unfold taplinelaw11_sane.j0
   repeat' first
   | (with_reducible exact ih0 _)
   | (with_reducible exact ih1 _)
   | (with_reducible exact lex_Tight.mono _ _)
   | (with_reducible exact taplinelaw11_kinds.mono _ _ _ _)
   | (with_reducible exact LeO.refl _)
   | (with_reducible exact LeO.none _)
   | (with_reducible refine LeO.ite ?_ ?_)
   | (with_reducible refine LeO.bind ?_ (fun _ => ?_))
   | exact LeO.none _
   | refine LeO.ite ?_ ?_
   | refine LeO.bind ?_ (fun _ => ?_)
  ·intro y0
   unfold taplinelaw11_sane.j1
   repeat' first
   | (with_reducible exact ih0 _)
   | (with_reducible exact ih1 _)
   | (with_reducible exact lex_Tight.mono _ _)
   | (with_reducible exact taplinelaw11_kinds.mono _ _ _ _)
   | (with_reducible exact LeO.refl _)
   | (with_reducible exact LeO.none _)
   | (with_reducible refine LeO.ite ?_ ?_)
   | (with_reducible refine LeO.bind ?_ (fun _ => ?_))
   | exact LeO.none _
   | refine LeO.ite ?_ ?_
   | refine LeO.bind ?_ (fun _ => ?_)
theorem taplinelaw11_sane.mono : ∀ k, LeO (taplinelaw11_sane.f k ) (taplinelaw11_sane.f (k + 1) ) := by
 intro  k
 obtain ⟨ih0, ih1⟩ := taplinelaw11_sane.mono_l k
 unfold taplinelaw11_sane.f
 repeat' first
   | (with_reducible exact ih0 _)
   | (with_reducible exact ih1 _)
   | (with_reducible exact lex_Tight.mono _ _)
   | (with_reducible exact taplinelaw11_kinds.mono _ _ _ _)
   | (with_reducible exact LeO.refl _)
   | (with_reducible exact LeO.none _)
   | (with_reducible refine LeO.ite ?_ ?_)
   | (with_reducible refine LeO.bind ?_ (fun _ => ?_))
   | exact LeO.none _
   | refine LeO.ite ?_ ?_
   | refine LeO.bind ?_ (fun _ => ?_)
theorem j0_true (k : Nat) (h : taplinelaw11_sane.j0 k true = some true) : False := by
 cases k with
 | zero => simp [taplinelaw11_sane.j0] at h
 | succ k => simp [taplinelaw11_sane.j0] at h
theorem j1_true (k : Nat) (h : taplinelaw11_sane.j1 k true = some true) : False := by
 cases k with
 | zero => simp [taplinelaw11_sane.j1] at h
 | succ k => simp [taplinelaw11_sane.j1] at h
set_option maxHeartbeats 8000000 in
set_option maxRecDepth 100000 in
theorem sane_p (k : Nat) (w : World) (h : taplinelaw11_sane.f k  = some true) (hgw : GW w) :
  Calls Tryz.prog 16 #[] w fun e w' => e = .returned (.bool true) ∧ Below w.heap.size w w' := by
 have HB := Aside0.mk (Below.refl w.heap.size w)
 have H : ((taplinelaw11_kinds.f k (⟨#[112, 114, 111, 98, 101, 32, 115, 121, 115, 99, 97, 108, 108, 58, 58, 58, 101, 110, 116, 114, 121, 44, 32, 105, 111, 58, 58, 58, 42, 32, 119, 104, 101, 110, 32, 40, 120, 45, 62, 121, 32, 62, 61, 32, 48, 120, 49, 70, 117, 41]⟩ : ByteArray) (([2, 6, 5, 6, 2, 5, 1, 5, 1, 5, 3, 5] : List Int)) (([(⟨#[112, 114, 111, 98, 101]⟩ : ByteArray), (⟨#[115, 121, 115, 99, 97, 108, 108, 58, 58, 58, 101, 110, 116, 114, 121]⟩ : ByteArray), (⟨#[44]⟩ : ByteArray), (⟨#[105, 111, 58, 58, 58, 42]⟩ : ByteArray), (⟨#[119, 104, 101, 110]⟩ : ByteArray), (⟨#[40]⟩ : ByteArray), (⟨#[120]⟩ : ByteArray), (⟨#[45, 62]⟩ : ByteArray), (⟨#[121]⟩ : ByteArray), (⟨#[62, 61]⟩ : ByteArray), (⟨#[48, 120, 49, 70, 117]⟩ : ByteArray), (⟨#[41]⟩ : ByteArray)] : List ByteArray))).bind fun t158 => ((taplinelaw11_kinds.f k (⟨#[97, 91, 98, 93]⟩ : ByteArray) (([1, 5, 1, 5] : List Int)) (([(⟨#[97]⟩ : ByteArray), (⟨#[91]⟩ : ByteArray), (⟨#[98]⟩ : ByteArray), (⟨#[93]⟩ : ByteArray)] : List ByteArray))).bind fun t165 => (if t158 = true then (if t165 = true then ((taplinelaw11_fails.f (⟨#[49, 97]⟩ : ByteArray) 112).bind fun t166 => (if t166 = true then ((taplinelaw11_fails.f (⟨#[48, 57]⟩ : ByteArray) 112).bind fun t167 => (if t167 = true then ((taplinelaw11_fails.f (⟨#[34, 97]⟩ : ByteArray) 113).bind fun t168 => (if t168 = true then ((taplinelaw11_fails.f (⟨#[36]⟩ : ByteArray) 110).bind fun t169 => (taplinelaw11_sane.j0 k (!t169))) else (taplinelaw11_sane.j0 k true))) else (taplinelaw11_sane.j0 k true))) else (taplinelaw11_sane.j0 k true))) else (taplinelaw11_sane.j0 k true)) else (taplinelaw11_sane.j0 k true)))) = some true := h
 clear h
 obtain ⟨y152, hy152⟩ : ∃ y_ : List Int, y_ = (([2, 6, 5, 6, 2, 5, 1, 5, 1, 5, 3, 5] : List Int)) := ⟨_, rfl⟩
 replace H : ((taplinelaw11_kinds.f k (⟨#[112, 114, 111, 98, 101, 32, 115, 121, 115, 99, 97, 108, 108, 58, 58, 58, 101, 110, 116, 114, 121, 44, 32, 105, 111, 58, 58, 58, 42, 32, 119, 104, 101, 110, 32, 40, 120, 45, 62, 121, 32, 62, 61, 32, 48, 120, 49, 70, 117, 41]⟩ : ByteArray) y152 (([(⟨#[112, 114, 111, 98, 101]⟩ : ByteArray), (⟨#[115, 121, 115, 99, 97, 108, 108, 58, 58, 58, 101, 110, 116, 114, 121]⟩ : ByteArray), (⟨#[44]⟩ : ByteArray), (⟨#[105, 111, 58, 58, 58, 42]⟩ : ByteArray), (⟨#[119, 104, 101, 110]⟩ : ByteArray), (⟨#[40]⟩ : ByteArray), (⟨#[120]⟩ : ByteArray), (⟨#[45, 62]⟩ : ByteArray), (⟨#[121]⟩ : ByteArray), (⟨#[62, 61]⟩ : ByteArray), (⟨#[48, 120, 49, 70, 117]⟩ : ByteArray), (⟨#[41]⟩ : ByteArray)] : List ByteArray))).bind fun t158 => ((taplinelaw11_kinds.f k (⟨#[97, 91, 98, 93]⟩ : ByteArray) (([1, 5, 1, 5] : List Int)) (([(⟨#[97]⟩ : ByteArray), (⟨#[91]⟩ : ByteArray), (⟨#[98]⟩ : ByteArray), (⟨#[93]⟩ : ByteArray)] : List ByteArray))).bind fun t165 => (if t158 = true then (if t165 = true then ((taplinelaw11_fails.f (⟨#[49, 97]⟩ : ByteArray) 112).bind fun t166 => (if t166 = true then ((taplinelaw11_fails.f (⟨#[48, 57]⟩ : ByteArray) 112).bind fun t167 => (if t167 = true then ((taplinelaw11_fails.f (⟨#[34, 97]⟩ : ByteArray) 113).bind fun t168 => (if t168 = true then ((taplinelaw11_fails.f (⟨#[36]⟩ : ByteArray) 110).bind fun t169 => (taplinelaw11_sane.j0 k (!t169))) else (taplinelaw11_sane.j0 k true))) else (taplinelaw11_sane.j0 k true))) else (taplinelaw11_sane.j0 k true))) else (taplinelaw11_sane.j0 k true)) else (taplinelaw11_sane.j0 k true)))) = some true := by first | (rw [hy152]; with_reducible exact H) | (have H2_ := (Option.bind_some _ _).symm.trans H; rw [hy152]; with_reducible exact H2_) | (have H2_ := (Option.bind_some _ _).symm.trans H; with_reducible exact H2_) | with_reducible exact H | (rw [hy152]; exact H) | exact H
 have Ny152 := Aside0.mk hy152
 clear hy152
 obtain ⟨y155, hy155⟩ : ∃ y_ : List ByteArray, y_ = (([(⟨#[112, 114, 111, 98, 101]⟩ : ByteArray), (⟨#[115, 121, 115, 99, 97, 108, 108, 58, 58, 58, 101, 110, 116, 114, 121]⟩ : ByteArray), (⟨#[44]⟩ : ByteArray), (⟨#[105, 111, 58, 58, 58, 42]⟩ : ByteArray), (⟨#[119, 104, 101, 110]⟩ : ByteArray), (⟨#[40]⟩ : ByteArray), (⟨#[120]⟩ : ByteArray), (⟨#[45, 62]⟩ : ByteArray), (⟨#[121]⟩ : ByteArray), (⟨#[62, 61]⟩ : ByteArray), (⟨#[48, 120, 49, 70, 117]⟩ : ByteArray), (⟨#[41]⟩ : ByteArray)] : List ByteArray)) := ⟨_, rfl⟩
 replace H : ((taplinelaw11_kinds.f k (⟨#[112, 114, 111, 98, 101, 32, 115, 121, 115, 99, 97, 108, 108, 58, 58, 58, 101, 110, 116, 114, 121, 44, 32, 105, 111, 58, 58, 58, 42, 32, 119, 104, 101, 110, 32, 40, 120, 45, 62, 121, 32, 62, 61, 32, 48, 120, 49, 70, 117, 41]⟩ : ByteArray) y152 y155).bind fun t158 => ((taplinelaw11_kinds.f k (⟨#[97, 91, 98, 93]⟩ : ByteArray) (([1, 5, 1, 5] : List Int)) (([(⟨#[97]⟩ : ByteArray), (⟨#[91]⟩ : ByteArray), (⟨#[98]⟩ : ByteArray), (⟨#[93]⟩ : ByteArray)] : List ByteArray))).bind fun t165 => (if t158 = true then (if t165 = true then ((taplinelaw11_fails.f (⟨#[49, 97]⟩ : ByteArray) 112).bind fun t166 => (if t166 = true then ((taplinelaw11_fails.f (⟨#[48, 57]⟩ : ByteArray) 112).bind fun t167 => (if t167 = true then ((taplinelaw11_fails.f (⟨#[34, 97]⟩ : ByteArray) 113).bind fun t168 => (if t168 = true then ((taplinelaw11_fails.f (⟨#[36]⟩ : ByteArray) 110).bind fun t169 => (taplinelaw11_sane.j0 k (!t169))) else (taplinelaw11_sane.j0 k true))) else (taplinelaw11_sane.j0 k true))) else (taplinelaw11_sane.j0 k true))) else (taplinelaw11_sane.j0 k true)) else (taplinelaw11_sane.j0 k true)))) = some true := by first | (rw [hy155]; with_reducible exact H) | (have H2_ := (Option.bind_some _ _).symm.trans H; rw [hy155]; with_reducible exact H2_) | (have H2_ := (Option.bind_some _ _).symm.trans H; with_reducible exact H2_) | with_reducible exact H | (rw [hy155]; exact H) | exact H
 have Ny155 := Aside0.mk hy155
 clear hy155
 replace H := Option.bind_eq_some_iff.mp H
 obtain ⟨t158, A10, H⟩ := H
 replace H : ((taplinelaw11_kinds.f k (⟨#[97, 91, 98, 93]⟩ : ByteArray) (([1, 5, 1, 5] : List Int)) (([(⟨#[97]⟩ : ByteArray), (⟨#[91]⟩ : ByteArray), (⟨#[98]⟩ : ByteArray), (⟨#[93]⟩ : ByteArray)] : List ByteArray))).bind fun t165 => (if t158 = true then (if t165 = true then ((taplinelaw11_fails.f (⟨#[49, 97]⟩ : ByteArray) 112).bind fun t166 => (if t166 = true then ((taplinelaw11_fails.f (⟨#[48, 57]⟩ : ByteArray) 112).bind fun t167 => (if t167 = true then ((taplinelaw11_fails.f (⟨#[34, 97]⟩ : ByteArray) 113).bind fun t168 => (if t168 = true then ((taplinelaw11_fails.f (⟨#[36]⟩ : ByteArray) 110).bind fun t169 => (taplinelaw11_sane.j0 k (!t169))) else (taplinelaw11_sane.j0 k true))) else (taplinelaw11_sane.j0 k true))) else (taplinelaw11_sane.j0 k true))) else (taplinelaw11_sane.j0 k true)) else (taplinelaw11_sane.j0 k true))) = some true := H
 have A1 := Aside0.mk A10
 clear A10
 obtain ⟨y159, hy159⟩ : ∃ y_ : List Int, y_ = (([1, 5, 1, 5] : List Int)) := ⟨_, rfl⟩
 replace H : ((taplinelaw11_kinds.f k (⟨#[97, 91, 98, 93]⟩ : ByteArray) y159 (([(⟨#[97]⟩ : ByteArray), (⟨#[91]⟩ : ByteArray), (⟨#[98]⟩ : ByteArray), (⟨#[93]⟩ : ByteArray)] : List ByteArray))).bind fun t165 => (if t158 = true then (if t165 = true then ((taplinelaw11_fails.f (⟨#[49, 97]⟩ : ByteArray) 112).bind fun t166 => (if t166 = true then ((taplinelaw11_fails.f (⟨#[48, 57]⟩ : ByteArray) 112).bind fun t167 => (if t167 = true then ((taplinelaw11_fails.f (⟨#[34, 97]⟩ : ByteArray) 113).bind fun t168 => (if t168 = true then ((taplinelaw11_fails.f (⟨#[36]⟩ : ByteArray) 110).bind fun t169 => (taplinelaw11_sane.j0 k (!t169))) else (taplinelaw11_sane.j0 k true))) else (taplinelaw11_sane.j0 k true))) else (taplinelaw11_sane.j0 k true))) else (taplinelaw11_sane.j0 k true)) else (taplinelaw11_sane.j0 k true))) = some true := by first | (rw [hy159]; with_reducible exact H) | (have H2_ := (Option.bind_some _ _).symm.trans H; rw [hy159]; with_reducible exact H2_) | (have H2_ := (Option.bind_some _ _).symm.trans H; with_reducible exact H2_) | with_reducible exact H | (rw [hy159]; exact H) | exact H
 have Ny159 := Aside0.mk hy159
 clear hy159
 obtain ⟨y162, hy162⟩ : ∃ y_ : List ByteArray, y_ = (([(⟨#[97]⟩ : ByteArray), (⟨#[91]⟩ : ByteArray), (⟨#[98]⟩ : ByteArray), (⟨#[93]⟩ : ByteArray)] : List ByteArray)) := ⟨_, rfl⟩
 replace H : ((taplinelaw11_kinds.f k (⟨#[97, 91, 98, 93]⟩ : ByteArray) y159 y162).bind fun t165 => (if t158 = true then (if t165 = true then ((taplinelaw11_fails.f (⟨#[49, 97]⟩ : ByteArray) 112).bind fun t166 => (if t166 = true then ((taplinelaw11_fails.f (⟨#[48, 57]⟩ : ByteArray) 112).bind fun t167 => (if t167 = true then ((taplinelaw11_fails.f (⟨#[34, 97]⟩ : ByteArray) 113).bind fun t168 => (if t168 = true then ((taplinelaw11_fails.f (⟨#[36]⟩ : ByteArray) 110).bind fun t169 => (taplinelaw11_sane.j0 k (!t169))) else (taplinelaw11_sane.j0 k true))) else (taplinelaw11_sane.j0 k true))) else (taplinelaw11_sane.j0 k true))) else (taplinelaw11_sane.j0 k true)) else (taplinelaw11_sane.j0 k true))) = some true := by first | (rw [hy162]; with_reducible exact H) | (have H2_ := (Option.bind_some _ _).symm.trans H; rw [hy162]; with_reducible exact H2_) | (have H2_ := (Option.bind_some _ _).symm.trans H; with_reducible exact H2_) | with_reducible exact H | (rw [hy162]; exact H) | exact H
 have Ny162 := Aside0.mk hy162
 clear hy162
 replace H := Option.bind_eq_some_iff.mp H
 obtain ⟨t165, A20, H⟩ := H
 replace H : (if t158 = true then (if t165 = true then ((taplinelaw11_fails.f (⟨#[49, 97]⟩ : ByteArray) 112).bind fun t166 => (if t166 = true then ((taplinelaw11_fails.f (⟨#[48, 57]⟩ : ByteArray) 112).bind fun t167 => (if t167 = true then ((taplinelaw11_fails.f (⟨#[34, 97]⟩ : ByteArray) 113).bind fun t168 => (if t168 = true then ((taplinelaw11_fails.f (⟨#[36]⟩ : ByteArray) 110).bind fun t169 => (taplinelaw11_sane.j0 k (!t169))) else (taplinelaw11_sane.j0 k true))) else (taplinelaw11_sane.j0 k true))) else (taplinelaw11_sane.j0 k true))) else (taplinelaw11_sane.j0 k true)) else (taplinelaw11_sane.j0 k true)) = some true := H
 have A2 := Aside0.mk A20
 clear A20
 have HC3 := Aside0.mk H
 clear H
 go_enter Tryz.func16, Tryz.ntmps16
 go_upto_region 3 with (first | ((with_reducible refine gate_dst (N := 20) rfl ?_); refine Kd.R_lit (Kd.int .i64) _ 3 ?hg (N := 20) ?hd (xs := ([2, 6, 5, 6, 2, 5, 1, 5, 1, 5, 3, 5] : List Int)) (inner := [.int .i64 2, .int .i64 6, .int .i64 5, .int .i64 6, .int .i64 2, .int .i64 5, .int .i64 1, .int .i64 5, .int .i64 1, .int .i64 5, .int .i64 3, .int .i64 5]) (ok := fun _ => True) (okp := fun _ => True) ?hr ?hp (fun _ hk => hk) trivial (Below.refl _ _) (Nat.le_refl _) (by simp) ?_; (case hd => rfl); (case hg => rfl); (case hr => first | (go_simp; done) | (go_simp; rfl)); (case hp => exact (Reps.one (show Kd.M (Kd.int .i64) _ _ _ 2 [.int .i64 2] from rfl) (Reps.one (show Kd.M (Kd.int .i64) _ _ _ 6 [.int .i64 6] from rfl) (Reps.one (show Kd.M (Kd.int .i64) _ _ _ 5 [.int .i64 5] from rfl) (Reps.one (show Kd.M (Kd.int .i64) _ _ _ 6 [.int .i64 6] from rfl) (Reps.one (show Kd.M (Kd.int .i64) _ _ _ 2 [.int .i64 2] from rfl) (Reps.one (show Kd.M (Kd.int .i64) _ _ _ 5 [.int .i64 5] from rfl) (Reps.one (show Kd.M (Kd.int .i64) _ _ _ 1 [.int .i64 1] from rfl) (Reps.one (show Kd.M (Kd.int .i64) _ _ _ 5 [.int .i64 5] from rfl) (Reps.one (show Kd.M (Kd.int .i64) _ _ _ 1 [.int .i64 1] from rfl) (Reps.one (show Kd.M (Kd.int .i64) _ _ _ 5 [.int .i64 5] from rfl) (Reps.one (show Kd.M (Kd.int .i64) _ _ _ 3 [.int .i64 3] from rfl) (Reps.one (show Kd.M (Kd.int .i64) _ _ _ 5 [.int .i64 5] from rfl) (Reps.none _ _)))))))))))))); intro v153 w4 ho5 hb hg_ hnew_; clear hg_ hnew_; (first | rw [← Ny152.out] at ho5 | (simp only [Int.reduceToNat] at ho5; rw [← Ny152.out] at ho5)); have n0_ := Aside0.mk (Kd.R_lower ho5 (below_size blw)); have n1_ := Aside0.mk (below_step blw hb); clear HB; have HO154 := n0_; have HB := n1_; clear n0_ n1_; clear hb ho5) | ((with_reducible refine gate_dst (N := 21) rfl ?_); refine Kd.R_lit Kd.string _ 9 ?hg (N := 21) ?hd (xs := ([(⟨#[112, 114, 111, 98, 101]⟩ : ByteArray), (⟨#[115, 121, 115, 99, 97, 108, 108, 58, 58, 58, 101, 110, 116, 114, 121]⟩ : ByteArray), (⟨#[44]⟩ : ByteArray), (⟨#[105, 111, 58, 58, 58, 42]⟩ : ByteArray), (⟨#[119, 104, 101, 110]⟩ : ByteArray), (⟨#[40]⟩ : ByteArray), (⟨#[120]⟩ : ByteArray), (⟨#[45, 62]⟩ : ByteArray), (⟨#[121]⟩ : ByteArray), (⟨#[62, 61]⟩ : ByteArray), (⟨#[48, 120, 49, 70, 117]⟩ : ByteArray), (⟨#[41]⟩ : ByteArray)] : List ByteArray)) (inner := [.string (⟨#[112, 114, 111, 98, 101]⟩ : ByteArray), .string (⟨#[115, 121, 115, 99, 97, 108, 108, 58, 58, 58, 101, 110, 116, 114, 121]⟩ : ByteArray), .string (⟨#[44]⟩ : ByteArray), .string (⟨#[105, 111, 58, 58, 58, 42]⟩ : ByteArray), .string (⟨#[119, 104, 101, 110]⟩ : ByteArray), .string (⟨#[40]⟩ : ByteArray), .string (⟨#[120]⟩ : ByteArray), .string (⟨#[45, 62]⟩ : ByteArray), .string (⟨#[121]⟩ : ByteArray), .string (⟨#[62, 61]⟩ : ByteArray), .string (⟨#[48, 120, 49, 70, 117]⟩ : ByteArray), .string (⟨#[41]⟩ : ByteArray)]) (ok := fun _ => True) (okp := fun _ => True) ?hr ?hp (fun _ hk => hk) trivial (Below.refl _ _) (Nat.le_refl _) (by simp) ?_; (case hd => rfl); (case hg => rfl); (case hr => first | (go_simp; done) | (go_simp; rfl)); (case hp => exact (Reps.one (show Kd.M Kd.string _ _ _ (⟨#[112, 114, 111, 98, 101]⟩ : ByteArray) [.string (⟨#[112, 114, 111, 98, 101]⟩ : ByteArray)] from rfl) (Reps.one (show Kd.M Kd.string _ _ _ (⟨#[115, 121, 115, 99, 97, 108, 108, 58, 58, 58, 101, 110, 116, 114, 121]⟩ : ByteArray) [.string (⟨#[115, 121, 115, 99, 97, 108, 108, 58, 58, 58, 101, 110, 116, 114, 121]⟩ : ByteArray)] from rfl) (Reps.one (show Kd.M Kd.string _ _ _ (⟨#[44]⟩ : ByteArray) [.string (⟨#[44]⟩ : ByteArray)] from rfl) (Reps.one (show Kd.M Kd.string _ _ _ (⟨#[105, 111, 58, 58, 58, 42]⟩ : ByteArray) [.string (⟨#[105, 111, 58, 58, 58, 42]⟩ : ByteArray)] from rfl) (Reps.one (show Kd.M Kd.string _ _ _ (⟨#[119, 104, 101, 110]⟩ : ByteArray) [.string (⟨#[119, 104, 101, 110]⟩ : ByteArray)] from rfl) (Reps.one (show Kd.M Kd.string _ _ _ (⟨#[40]⟩ : ByteArray) [.string (⟨#[40]⟩ : ByteArray)] from rfl) (Reps.one (show Kd.M Kd.string _ _ _ (⟨#[120]⟩ : ByteArray) [.string (⟨#[120]⟩ : ByteArray)] from rfl) (Reps.one (show Kd.M Kd.string _ _ _ (⟨#[45, 62]⟩ : ByteArray) [.string (⟨#[45, 62]⟩ : ByteArray)] from rfl) (Reps.one (show Kd.M Kd.string _ _ _ (⟨#[121]⟩ : ByteArray) [.string (⟨#[121]⟩ : ByteArray)] from rfl) (Reps.one (show Kd.M Kd.string _ _ _ (⟨#[62, 61]⟩ : ByteArray) [.string (⟨#[62, 61]⟩ : ByteArray)] from rfl) (Reps.one (show Kd.M Kd.string _ _ _ (⟨#[48, 120, 49, 70, 117]⟩ : ByteArray) [.string (⟨#[48, 120, 49, 70, 117]⟩ : ByteArray)] from rfl) (Reps.one (show Kd.M Kd.string _ _ _ (⟨#[41]⟩ : ByteArray) [.string (⟨#[41]⟩ : ByteArray)] from rfl) (Reps.none _ _)))))))))))))); intro v156 w6 ho7 hb hg_ hnew_; clear hg_ hnew_; (first | rw [← Ny155.out] at ho7 | (simp only [Int.reduceToNat] at ho7; rw [← Ny155.out] at ho7)); have n0_ := Aside0.mk (Kd.R_below (by (with_reducible repeat (first | apply Kd.R_alloc | apply Kd.R_drewN | apply Kd.R_drew)); exact HO154.out) hb); have n1_ := Aside0.mk (Kd.R_lower ho7 (below_size blw)); have n2_ := Aside0.mk (below_step blw hb); clear HO154; clear HB; have HO154 := n0_; have HO157 := n1_; have HB := n2_; clear n0_ n1_ n2_; clear hb ho7; obtain ⟨Ao8, co8, eo8⟩ := Kd.R_slice HO154.out; subst eo8; obtain ⟨Ao9, co9, eo9⟩ := Kd.R_slice HO157.out; subst eo9) | ((with_reducible refine gate_callee (f := 47) rfl ?_); refine goesL_ (some 22) rfl rfl Tryz.func47 (by kernel_rfl) rfl #[.string (⟨#[112, 114, 111, 98, 101, 32, 115, 121, 115, 99, 97, 108, 108, 58, 58, 58, 101, 110, 116, 114, 121, 44, 32, 105, 111, 58, 58, 58, 42, 32, 119, 104, 101, 110, 32, 40, 120, 45, 62, 121, 32, 62, 61, 32, 48, 120, 49, 70, 117, 41]⟩ : ByteArray), .slice Ao8 y152.length co8, .slice Ao9 y155.length co9] rfl fq ?_; (with_reducible refine (taplinelaw11_kinds.calls k (⟨#[112, 114, 111, 98, 101, 32, 115, 121, 115, 99, 97, 108, 108, 58, 58, 58, 101, 110, 116, 114, 121, 44, 32, 105, 111, 58, 58, 58, 42, 32, 119, 104, 101, 110, 32, 40, 120, 45, 62, 121, 32, 62, 61, 32, 48, 120, 49, 70, 117, 41]⟩ : ByteArray) _ _ y152 _ _ y155 t158 _ ?side1 ?side2 ?side3 ?side4 A1.out gwx).mono ?_); (case side1 => repeat (first | exact (Kd.R_reads' HO154.out).2.2 | (with_reducible refine Kd.C_alloc ?_ _) | (with_reducible refine Kd.C_drewN ?_ _) | (with_reducible refine Kd.C_drew ?_))); (case side2 => exact (Kd.R_reads' HO154.out).2.1); (case side3 => repeat (first | exact (Kd.R_reads' HO157.out).2.2 | (with_reducible refine Kd.C_alloc ?_ _) | (with_reducible refine Kd.C_drewN ?_ _) | (with_reducible refine Kd.C_drew ?_))); (case side4 => exact (Kd.R_reads' HO157.out).2.1); rintro e w10 ⟨rfl, hb⟩; refine ⟨_, rfl, ?_⟩; have n0_ := Aside0.mk (Kd.R_below (by (with_reducible repeat (first | apply Kd.R_alloc | apply Kd.R_drewN | apply Kd.R_drew)); exact HO154.out) hb); have n1_ := Aside0.mk (Kd.R_below (by (with_reducible repeat (first | apply Kd.R_alloc | apply Kd.R_drewN | apply Kd.R_drew)); exact HO157.out) hb); have n2_ := Aside0.mk (below_step blw hb); clear HO154; clear HO157; clear HB; have HO154 := n0_; have HO157 := n1_; have HB := n2_; clear n0_ n1_ n2_; (try clear hb); (try clear hb2); (try clear hk); (try clear hi)) | ((with_reducible refine gate_dst (N := 23) rfl ?_); refine Kd.R_lit (Kd.int .i64) _ 3 ?hg (N := 23) ?hd (xs := ([1, 5, 1, 5] : List Int)) (inner := [.int .i64 1, .int .i64 5, .int .i64 1, .int .i64 5]) (ok := fun _ => True) (okp := fun _ => True) ?hr ?hp (fun _ hk => hk) trivial (Below.refl _ _) (Nat.le_refl _) (by simp) ?_; (case hd => rfl); (case hg => rfl); (case hr => first | (go_simp; done) | (go_simp; rfl)); (case hp => exact (Reps.one (show Kd.M (Kd.int .i64) _ _ _ 1 [.int .i64 1] from rfl) (Reps.one (show Kd.M (Kd.int .i64) _ _ _ 5 [.int .i64 5] from rfl) (Reps.one (show Kd.M (Kd.int .i64) _ _ _ 1 [.int .i64 1] from rfl) (Reps.one (show Kd.M (Kd.int .i64) _ _ _ 5 [.int .i64 5] from rfl) (Reps.none _ _)))))); intro v160 w11 ho12 hb hg_ hnew_; clear hg_ hnew_; (first | rw [← Ny159.out] at ho12 | (simp only [Int.reduceToNat] at ho12; rw [← Ny159.out] at ho12)); have n0_ := Aside0.mk (Kd.R_elder' (by (with_reducible repeat (first | apply Kd.R_alloc | apply Kd.R_drewN | apply Kd.R_drew)); exact HO154.out) (Kd.R_base ho12) hb); have n1_ := Aside0.mk (Kd.R_below (by (with_reducible repeat (first | apply Kd.R_alloc | apply Kd.R_drewN | apply Kd.R_drew)); exact HO157.out) hb); have n2_ := Aside0.mk (Kd.R_lower (Kd.R_new' ho12 (Kd.R_lt (by (with_reducible repeat (first | apply Kd.R_alloc | apply Kd.R_drewN | apply Kd.R_drew)); exact HO154.out))) (below_size blw)); have n3_ := Aside0.mk (below_step blw hb); clear HO154; clear HO157; clear HB; have HO154 := n0_; have HO157 := n1_; have HO161 := n2_; have HB := n3_; clear n0_ n1_ n2_ n3_; clear hb ho12) | ((with_reducible refine gate_dst (N := 24) rfl ?_); refine Kd.R_lit Kd.string _ 9 ?hg (N := 24) ?hd (xs := ([(⟨#[97]⟩ : ByteArray), (⟨#[91]⟩ : ByteArray), (⟨#[98]⟩ : ByteArray), (⟨#[93]⟩ : ByteArray)] : List ByteArray)) (inner := [.string (⟨#[97]⟩ : ByteArray), .string (⟨#[91]⟩ : ByteArray), .string (⟨#[98]⟩ : ByteArray), .string (⟨#[93]⟩ : ByteArray)]) (ok := fun _ => True) (okp := fun _ => True) ?hr ?hp (fun _ hk => hk) trivial (Below.refl _ _) (Nat.le_refl _) (by simp) ?_; (case hd => rfl); (case hg => rfl); (case hr => first | (go_simp; done) | (go_simp; rfl)); (case hp => exact (Reps.one (show Kd.M Kd.string _ _ _ (⟨#[97]⟩ : ByteArray) [.string (⟨#[97]⟩ : ByteArray)] from rfl) (Reps.one (show Kd.M Kd.string _ _ _ (⟨#[91]⟩ : ByteArray) [.string (⟨#[91]⟩ : ByteArray)] from rfl) (Reps.one (show Kd.M Kd.string _ _ _ (⟨#[98]⟩ : ByteArray) [.string (⟨#[98]⟩ : ByteArray)] from rfl) (Reps.one (show Kd.M Kd.string _ _ _ (⟨#[93]⟩ : ByteArray) [.string (⟨#[93]⟩ : ByteArray)] from rfl) (Reps.none _ _)))))); intro v163 w13 ho14 hb hg_ hnew_; clear hg_ hnew_; (first | rw [← Ny162.out] at ho14 | (simp only [Int.reduceToNat] at ho14; rw [← Ny162.out] at ho14)); have n0_ := Aside0.mk (Kd.R_below (by (with_reducible repeat (first | apply Kd.R_alloc | apply Kd.R_drewN | apply Kd.R_drew)); exact HO154.out) hb); have n1_ := Aside0.mk (Kd.R_elder' (by (with_reducible repeat (first | apply Kd.R_alloc | apply Kd.R_drewN | apply Kd.R_drew)); exact HO157.out) (Kd.R_base ho14) hb); have n2_ := Aside0.mk (Kd.R_below (by (with_reducible repeat (first | apply Kd.R_alloc | apply Kd.R_drewN | apply Kd.R_drew)); exact HO161.out) hb); have n3_ := Aside0.mk (Kd.R_lower (Kd.R_new' ho14 (Kd.R_lt (by (with_reducible repeat (first | apply Kd.R_alloc | apply Kd.R_drewN | apply Kd.R_drew)); exact HO157.out))) (below_size blw)); have n4_ := Aside0.mk (below_step blw hb); clear HO154; clear HO157; clear HO161; clear HB; have HO154 := n0_; have HO157 := n1_; have HO161 := n2_; have HO164 := n3_; have HB := n4_; clear n0_ n1_ n2_ n3_ n4_; clear hb ho14; obtain ⟨Ao15, co15, eo15⟩ := Kd.R_slice HO161.out; subst eo15; obtain ⟨Ao16, co16, eo16⟩ := Kd.R_slice HO164.out; subst eo16) | ((with_reducible refine gate_callee (f := 47) rfl ?_); refine goesL_ (some 25) rfl rfl Tryz.func47 (by kernel_rfl) rfl #[.string (⟨#[97, 91, 98, 93]⟩ : ByteArray), .slice Ao15 y159.length co15, .slice Ao16 y162.length co16] rfl fq ?_; (with_reducible refine (taplinelaw11_kinds.calls k (⟨#[97, 91, 98, 93]⟩ : ByteArray) _ _ y159 _ _ y162 t165 _ ?side1 ?side2 ?side3 ?side4 A2.out gwx).mono ?_); (case side1 => repeat (first | exact (Kd.R_reads' HO161.out).2.2 | (with_reducible refine Kd.C_alloc ?_ _) | (with_reducible refine Kd.C_drewN ?_ _) | (with_reducible refine Kd.C_drew ?_))); (case side2 => exact (Kd.R_reads' HO161.out).2.1); (case side3 => repeat (first | exact (Kd.R_reads' HO164.out).2.2 | (with_reducible refine Kd.C_alloc ?_ _) | (with_reducible refine Kd.C_drewN ?_ _) | (with_reducible refine Kd.C_drew ?_))); (case side4 => exact (Kd.R_reads' HO164.out).2.1); rintro e w17 ⟨rfl, hb⟩; refine ⟨_, rfl, ?_⟩; have n0_ := Aside0.mk (Kd.R_below (by (with_reducible repeat (first | apply Kd.R_alloc | apply Kd.R_drewN | apply Kd.R_drew)); exact HO154.out) hb); have n1_ := Aside0.mk (Kd.R_below (by (with_reducible repeat (first | apply Kd.R_alloc | apply Kd.R_drewN | apply Kd.R_drew)); exact HO157.out) hb); have n2_ := Aside0.mk (Kd.R_below (by (with_reducible repeat (first | apply Kd.R_alloc | apply Kd.R_drewN | apply Kd.R_drew)); exact HO161.out) hb); have n3_ := Aside0.mk (Kd.R_below (by (with_reducible repeat (first | apply Kd.R_alloc | apply Kd.R_drewN | apply Kd.R_drew)); exact HO164.out) hb); have n4_ := Aside0.mk (below_step blw hb); clear HO154; clear HO157; clear HO161; clear HO164; clear HB; have HO154 := n0_; have HO157 := n1_; have HO161 := n2_; have HO164 := n3_; have HB := n4_; clear n0_ n1_ n2_ n3_ n4_; (try clear hb); (try clear hb2); (try clear hk); (try clear hi)))
 (try simp only [Act.put, List.setIfInBounds_toArray, List.set_cons_zero, List.set_cons_succ])
 go_cut [47] (fun v47 wc => ∃ (kq : Nat) (x47_2 : Bool), v47 = .bool x47_2 ∧ Aside0 (taplinelaw11_sane.j0 kq x47_2 = some true) ∧ Aside0 (kq ≤ k) ∧ Aside0 (Below w.heap.size w wc))
 case first =>
  have H := HC3.out
  clear HC3
  by_cases c18 : t158 = true
  ·subst c18
   have H1 : (if t165 = true then ((taplinelaw11_fails.f (⟨#[49, 97]⟩ : ByteArray) 112).bind fun t166 => (if t166 = true then ((taplinelaw11_fails.f (⟨#[48, 57]⟩ : ByteArray) 112).bind fun t167 => (if t167 = true then ((taplinelaw11_fails.f (⟨#[34, 97]⟩ : ByteArray) 113).bind fun t168 => (if t168 = true then ((taplinelaw11_fails.f (⟨#[36]⟩ : ByteArray) 110).bind fun t169 => (taplinelaw11_sane.j0 k (!t169))) else (taplinelaw11_sane.j0 k true))) else (taplinelaw11_sane.j0 k true))) else (taplinelaw11_sane.j0 k true))) else (taplinelaw11_sane.j0 k true)) = some true := by rw [if_pos rfl] at H; exact H
   clear H
   have H := H1
   clear H1
   by_cases c19 : t165 = true
   ·subst c19
    have H1 : ((taplinelaw11_fails.f (⟨#[49, 97]⟩ : ByteArray) 112).bind fun t166 => (if t166 = true then ((taplinelaw11_fails.f (⟨#[48, 57]⟩ : ByteArray) 112).bind fun t167 => (if t167 = true then ((taplinelaw11_fails.f (⟨#[34, 97]⟩ : ByteArray) 113).bind fun t168 => (if t168 = true then ((taplinelaw11_fails.f (⟨#[36]⟩ : ByteArray) 110).bind fun t169 => (taplinelaw11_sane.j0 k (!t169))) else (taplinelaw11_sane.j0 k true))) else (taplinelaw11_sane.j0 k true))) else (taplinelaw11_sane.j0 k true))) = some true := by rw [if_pos rfl] at H; exact H
    clear H
    have H := H1
    clear H1
    replace H := Option.bind_eq_some_iff.mp H
    obtain ⟨t166, A200, H⟩ := H
    replace H : (if t166 = true then ((taplinelaw11_fails.f (⟨#[48, 57]⟩ : ByteArray) 112).bind fun t167 => (if t167 = true then ((taplinelaw11_fails.f (⟨#[34, 97]⟩ : ByteArray) 113).bind fun t168 => (if t168 = true then ((taplinelaw11_fails.f (⟨#[36]⟩ : ByteArray) 110).bind fun t169 => (taplinelaw11_sane.j0 k (!t169))) else (taplinelaw11_sane.j0 k true))) else (taplinelaw11_sane.j0 k true))) else (taplinelaw11_sane.j0 k true)) = some true := H
    have A20 := Aside0.mk A200
    clear A200
    by_cases c21 : t166 = true
    ·subst c21
     have H1 : ((taplinelaw11_fails.f (⟨#[48, 57]⟩ : ByteArray) 112).bind fun t167 => (if t167 = true then ((taplinelaw11_fails.f (⟨#[34, 97]⟩ : ByteArray) 113).bind fun t168 => (if t168 = true then ((taplinelaw11_fails.f (⟨#[36]⟩ : ByteArray) 110).bind fun t169 => (taplinelaw11_sane.j0 k (!t169))) else (taplinelaw11_sane.j0 k true))) else (taplinelaw11_sane.j0 k true))) = some true := by rw [if_pos rfl] at H; exact H
     clear H
     have H := H1
     clear H1
     replace H := Option.bind_eq_some_iff.mp H
     obtain ⟨t167, A220, H⟩ := H
     replace H : (if t167 = true then ((taplinelaw11_fails.f (⟨#[34, 97]⟩ : ByteArray) 113).bind fun t168 => (if t168 = true then ((taplinelaw11_fails.f (⟨#[36]⟩ : ByteArray) 110).bind fun t169 => (taplinelaw11_sane.j0 k (!t169))) else (taplinelaw11_sane.j0 k true))) else (taplinelaw11_sane.j0 k true)) = some true := H
     have A22 := Aside0.mk A220
     clear A220
     by_cases c23 : t167 = true
     ·subst c23
      have H1 : ((taplinelaw11_fails.f (⟨#[34, 97]⟩ : ByteArray) 113).bind fun t168 => (if t168 = true then ((taplinelaw11_fails.f (⟨#[36]⟩ : ByteArray) 110).bind fun t169 => (taplinelaw11_sane.j0 k (!t169))) else (taplinelaw11_sane.j0 k true))) = some true := by rw [if_pos rfl] at H; exact H
      clear H
      have H := H1
      clear H1
      replace H := Option.bind_eq_some_iff.mp H
      obtain ⟨t168, A240, H⟩ := H
      replace H : (if t168 = true then ((taplinelaw11_fails.f (⟨#[36]⟩ : ByteArray) 110).bind fun t169 => (taplinelaw11_sane.j0 k (!t169))) else (taplinelaw11_sane.j0 k true)) = some true := H
      have A24 := Aside0.mk A240
      clear A240
      by_cases c25 : t168 = true
      ·subst c25
       have H1 : ((taplinelaw11_fails.f (⟨#[36]⟩ : ByteArray) 110).bind fun t169 => (taplinelaw11_sane.j0 k (!t169))) = some true := by rw [if_pos rfl] at H; exact H
       clear H
       have H := H1
       clear H1
       replace H := Option.bind_eq_some_iff.mp H
       obtain ⟨t169, A260, H⟩ := H
       replace H : (taplinelaw11_sane.j0 k (!t169)) = some true := H
       have A26 := Aside0.mk A260
       clear A260
       have H' := Aside0.mk H
       clear H
       go_wp2_with (first | (go_at_call 48; (with_reducible refine (taplinelaw11_fails.calls (⟨#[49, 97]⟩ : ByteArray) 112 true _ A20.out gwx).mono ?_); rintro e w27 ⟨rfl, hb⟩; have n0_ := Aside0.mk (Kd.R_below (by (with_reducible repeat (first | apply Kd.R_alloc | apply Kd.R_drewN | apply Kd.R_drew)); exact HO154.out) hb); have n1_ := Aside0.mk (Kd.R_below (by (with_reducible repeat (first | apply Kd.R_alloc | apply Kd.R_drewN | apply Kd.R_drew)); exact HO157.out) hb); have n2_ := Aside0.mk (Kd.R_below (by (with_reducible repeat (first | apply Kd.R_alloc | apply Kd.R_drewN | apply Kd.R_drew)); exact HO161.out) hb); have n3_ := Aside0.mk (Kd.R_below (by (with_reducible repeat (first | apply Kd.R_alloc | apply Kd.R_drewN | apply Kd.R_drew)); exact HO164.out) hb); have n4_ := Aside0.mk (below_step blw hb); clear HO154; clear HO157; clear HO161; clear HO164; clear HB; have HO154 := n0_; have HO157 := n1_; have HO161 := n2_; have HO164 := n3_; have HB := n4_; clear n0_ n1_ n2_ n3_ n4_; (try clear hb); (try clear hb2); (try clear hk); (try clear hi)) | (go_at_call 48; (with_reducible refine (taplinelaw11_fails.calls (⟨#[48, 57]⟩ : ByteArray) 112 true _ A22.out gwx).mono ?_); rintro e w28 ⟨rfl, hb⟩; have n0_ := Aside0.mk (Kd.R_below (by (with_reducible repeat (first | apply Kd.R_alloc | apply Kd.R_drewN | apply Kd.R_drew)); exact HO154.out) hb); have n1_ := Aside0.mk (Kd.R_below (by (with_reducible repeat (first | apply Kd.R_alloc | apply Kd.R_drewN | apply Kd.R_drew)); exact HO157.out) hb); have n2_ := Aside0.mk (Kd.R_below (by (with_reducible repeat (first | apply Kd.R_alloc | apply Kd.R_drewN | apply Kd.R_drew)); exact HO161.out) hb); have n3_ := Aside0.mk (Kd.R_below (by (with_reducible repeat (first | apply Kd.R_alloc | apply Kd.R_drewN | apply Kd.R_drew)); exact HO164.out) hb); have n4_ := Aside0.mk (below_step blw hb); clear HO154; clear HO157; clear HO161; clear HO164; clear HB; have HO154 := n0_; have HO157 := n1_; have HO161 := n2_; have HO164 := n3_; have HB := n4_; clear n0_ n1_ n2_ n3_ n4_; (try clear hb); (try clear hb2); (try clear hk); (try clear hi)) | (go_at_call 48; (with_reducible refine (taplinelaw11_fails.calls (⟨#[34, 97]⟩ : ByteArray) 113 true _ A24.out gwx).mono ?_); rintro e w29 ⟨rfl, hb⟩; have n0_ := Aside0.mk (Kd.R_below (by (with_reducible repeat (first | apply Kd.R_alloc | apply Kd.R_drewN | apply Kd.R_drew)); exact HO154.out) hb); have n1_ := Aside0.mk (Kd.R_below (by (with_reducible repeat (first | apply Kd.R_alloc | apply Kd.R_drewN | apply Kd.R_drew)); exact HO157.out) hb); have n2_ := Aside0.mk (Kd.R_below (by (with_reducible repeat (first | apply Kd.R_alloc | apply Kd.R_drewN | apply Kd.R_drew)); exact HO161.out) hb); have n3_ := Aside0.mk (Kd.R_below (by (with_reducible repeat (first | apply Kd.R_alloc | apply Kd.R_drewN | apply Kd.R_drew)); exact HO164.out) hb); have n4_ := Aside0.mk (below_step blw hb); clear HO154; clear HO157; clear HO161; clear HO164; clear HB; have HO154 := n0_; have HO157 := n1_; have HO161 := n2_; have HO164 := n3_; have HB := n4_; clear n0_ n1_ n2_ n3_ n4_; (try clear hb); (try clear hb2); (try clear hk); (try clear hi)) | (go_at_call 48; (with_reducible refine (taplinelaw11_fails.calls (⟨#[36]⟩ : ByteArray) 110 t169 _ A26.out gwx).mono ?_); rintro e w30 ⟨rfl, hb⟩; have n0_ := Aside0.mk (Kd.R_below (by (with_reducible repeat (first | apply Kd.R_alloc | apply Kd.R_drewN | apply Kd.R_drew)); exact HO154.out) hb); have n1_ := Aside0.mk (Kd.R_below (by (with_reducible repeat (first | apply Kd.R_alloc | apply Kd.R_drewN | apply Kd.R_drew)); exact HO157.out) hb); have n2_ := Aside0.mk (Kd.R_below (by (with_reducible repeat (first | apply Kd.R_alloc | apply Kd.R_drewN | apply Kd.R_drew)); exact HO161.out) hb); have n3_ := Aside0.mk (Kd.R_below (by (with_reducible repeat (first | apply Kd.R_alloc | apply Kd.R_drewN | apply Kd.R_drew)); exact HO164.out) hb); have n4_ := Aside0.mk (below_step blw hb); clear HO154; clear HO157; clear HO161; clear HO164; clear HB; have HO154 := n0_; have HO157 := n1_; have HO161 := n2_; have HO164 := n3_; have HB := n4_; clear n0_ n1_ n2_ n3_ n4_; (try clear hb); (try clear hb2); (try clear hk); (try clear hi)))
       go_meet
       case rel => exact ⟨_, (!t169), rsd, H', ⟨by first | omega | exact Nat.le_refl _⟩, ⟨blw⟩⟩
      ·replace c25 := Bool.eq_false_iff.mpr c25
       subst c25
       have H1 : (taplinelaw11_sane.j0 k true) = some true := by rw [if_neg (show ¬ (false = true) by decide)] at H; exact H
       clear H
       have H := H1
       clear H1
       exact (j0_true k H).elim
     ·replace c23 := Bool.eq_false_iff.mpr c23
      subst c23
      have H1 : (taplinelaw11_sane.j0 k true) = some true := by rw [if_neg (show ¬ (false = true) by decide)] at H; exact H
      clear H
      have H := H1
      clear H1
      exact (j0_true k H).elim
    ·replace c21 := Bool.eq_false_iff.mpr c21
     subst c21
     have H1 : (taplinelaw11_sane.j0 k true) = some true := by rw [if_neg (show ¬ (false = true) by decide)] at H; exact H
     clear H
     have H := H1
     clear H1
     exact (j0_true k H).elim
   ·replace c19 := Bool.eq_false_iff.mpr c19
    subst c19
    have H1 : (taplinelaw11_sane.j0 k true) = some true := by rw [if_neg (show ¬ (false = true) by decide)] at H; exact H
    clear H
    have H := H1
    clear H1
    exact (j0_true k H).elim
  ·replace c18 := Bool.eq_false_iff.mpr c18
   subst c18
   have H1 : (taplinelaw11_sane.j0 k true) = some true := by rw [if_neg (show ¬ (false = true) by decide)] at H; exact H
   clear H
   have H := H1
   clear H1
   exact (j0_true k H).elim
 case rest =>
  clear HC3
  try clear c1
  try clear c2
  try clear p2
  try clear c4
  try clear c16
  try clear c18
  try clear c19
  try clear c21
  try clear c23
  try clear c25
  obtain ⟨kq, x47_2, rfl, HA, HJ2, HB⟩ := hcut
  cases kq with
  | zero => exact absurd HA.out (by simp [taplinelaw11_sane.j0])
  | succ kj2 =>
   have H := HA.out
   clear HA
   simp only [taplinelaw11_sane.j0] at H
   by_cases c37 : x47_2 = true
   ·subst c37
    have H1 : (some false) = some true := by rw [if_pos rfl] at H; exact H
    clear H
    have H := H1
    clear H1
    exact absurd (Option.some.inj H) (by decide)
   ·replace c37 := Bool.eq_false_iff.mpr c37
    subst c37
    have H1 : ((lex_Number.f (⟨#[48, 49, 48]⟩ : ByteArray)).bind fun bt170 => ((lex_Number.f (⟨#[39, 92, 110, 39]⟩ : ByteArray)).bind fun bt173 => ((lex_Number.f (⟨#[49, 56, 52, 52, 54, 55, 52, 52, 48, 55, 51, 55, 48, 57, 53, 53, 49, 54, 49, 53, 117]⟩ : ByteArray)).bind fun bt176 => (if bt170.2.2 = 0 then (if bt173.2.2 = 0 then (if bt176.2.2 = 0 then (if bt170.1 = 8 then (if bt173.1 = 10 then (if bt176.1 = (-1) then (if bt170.2.1 = true then (taplinelaw11_sane.j1 kj2 true) else (if bt173.2.1 = true then (taplinelaw11_sane.j1 kj2 true) else (taplinelaw11_sane.j1 kj2 (!bt176.2.1)))) else (taplinelaw11_sane.j1 kj2 true)) else (taplinelaw11_sane.j1 kj2 true)) else (taplinelaw11_sane.j1 kj2 true)) else (taplinelaw11_sane.j1 kj2 true)) else (taplinelaw11_sane.j1 kj2 true)) else (taplinelaw11_sane.j1 kj2 true))))) = some true := by rw [if_neg (show ¬ (false = true) by decide)] at H; exact H
    clear H
    have H := H1
    clear H1
    replace H := Option.bind_eq_some_iff.mp H
    obtain ⟨⟨t170, t171, t172⟩, A380, H⟩ := H
    replace H : ((lex_Number.f (⟨#[39, 92, 110, 39]⟩ : ByteArray)).bind fun bt173 => ((lex_Number.f (⟨#[49, 56, 52, 52, 54, 55, 52, 52, 48, 55, 51, 55, 48, 57, 53, 53, 49, 54, 49, 53, 117]⟩ : ByteArray)).bind fun bt176 => (if t172 = 0 then (if bt173.2.2 = 0 then (if bt176.2.2 = 0 then (if t170 = 8 then (if bt173.1 = 10 then (if bt176.1 = (-1) then (if t171 = true then (taplinelaw11_sane.j1 kj2 true) else (if bt173.2.1 = true then (taplinelaw11_sane.j1 kj2 true) else (taplinelaw11_sane.j1 kj2 (!bt176.2.1)))) else (taplinelaw11_sane.j1 kj2 true)) else (taplinelaw11_sane.j1 kj2 true)) else (taplinelaw11_sane.j1 kj2 true)) else (taplinelaw11_sane.j1 kj2 true)) else (taplinelaw11_sane.j1 kj2 true)) else (taplinelaw11_sane.j1 kj2 true)))) = some true := H
    have A38 := Aside0.mk A380
    clear A380
    replace H := Option.bind_eq_some_iff.mp H
    obtain ⟨⟨t173, t174, t175⟩, A390, H⟩ := H
    replace H : ((lex_Number.f (⟨#[49, 56, 52, 52, 54, 55, 52, 52, 48, 55, 51, 55, 48, 57, 53, 53, 49, 54, 49, 53, 117]⟩ : ByteArray)).bind fun bt176 => (if t172 = 0 then (if t175 = 0 then (if bt176.2.2 = 0 then (if t170 = 8 then (if t173 = 10 then (if bt176.1 = (-1) then (if t171 = true then (taplinelaw11_sane.j1 kj2 true) else (if t174 = true then (taplinelaw11_sane.j1 kj2 true) else (taplinelaw11_sane.j1 kj2 (!bt176.2.1)))) else (taplinelaw11_sane.j1 kj2 true)) else (taplinelaw11_sane.j1 kj2 true)) else (taplinelaw11_sane.j1 kj2 true)) else (taplinelaw11_sane.j1 kj2 true)) else (taplinelaw11_sane.j1 kj2 true)) else (taplinelaw11_sane.j1 kj2 true))) = some true := H
    have A39 := Aside0.mk A390
    clear A390
    replace H := Option.bind_eq_some_iff.mp H
    obtain ⟨⟨t176, t177, t178⟩, A400, H⟩ := H
    replace H : (if t172 = 0 then (if t175 = 0 then (if t178 = 0 then (if t170 = 8 then (if t173 = 10 then (if t176 = (-1) then (if t171 = true then (taplinelaw11_sane.j1 kj2 true) else (if t174 = true then (taplinelaw11_sane.j1 kj2 true) else (taplinelaw11_sane.j1 kj2 (!t177)))) else (taplinelaw11_sane.j1 kj2 true)) else (taplinelaw11_sane.j1 kj2 true)) else (taplinelaw11_sane.j1 kj2 true)) else (taplinelaw11_sane.j1 kj2 true)) else (taplinelaw11_sane.j1 kj2 true)) else (taplinelaw11_sane.j1 kj2 true)) = some true := H
    have A40 := Aside0.mk A400
    clear A400
    have HC41 := Aside0.mk H
    clear H
    go_upto_region 8 with (first | ((with_reducible refine gate_callee (f := 20) rfl ?_); refine goesL_ (some 49) rfl rfl Tryz.func20 (by kernel_rfl) rfl #[.string (⟨#[48, 49, 48]⟩ : ByteArray)] rfl fq ?_; (with_reducible refine (lex_Number.calls (⟨#[48, 49, 48]⟩ : ByteArray) t170 t171 t172 _ A38.out gwx).mono ?_); rintro e w42 ⟨rfl, hb⟩; refine ⟨_, rfl, ?_⟩; have n0_ := Aside0.mk (below_step blw hb); clear HB; have HB := n0_; clear n0_; (try clear hb); (try clear hb2); (try clear hk); (try clear hi)) | ((with_reducible refine gate_callee (f := 20) rfl ?_); refine goesL_ (some 54) rfl rfl Tryz.func20 (by kernel_rfl) rfl #[.string (⟨#[39, 92, 110, 39]⟩ : ByteArray)] rfl fq ?_; (with_reducible refine (lex_Number.calls (⟨#[39, 92, 110, 39]⟩ : ByteArray) t173 t174 t175 _ A39.out gwx).mono ?_); rintro e w43 ⟨rfl, hb⟩; refine ⟨_, rfl, ?_⟩; have n0_ := Aside0.mk (below_step blw hb); clear HB; have HB := n0_; clear n0_; (try clear hb); (try clear hb2); (try clear hk); (try clear hi)) | ((with_reducible refine gate_callee (f := 20) rfl ?_); refine goesL_ (some 59) rfl rfl Tryz.func20 (by kernel_rfl) rfl #[.string (⟨#[49, 56, 52, 52, 54, 55, 52, 52, 48, 55, 51, 55, 48, 57, 53, 53, 49, 54, 49, 53, 117]⟩ : ByteArray)] rfl fq ?_; (with_reducible refine (lex_Number.calls (⟨#[49, 56, 52, 52, 54, 55, 52, 52, 48, 55, 51, 55, 48, 57, 53, 53, 49, 54, 49, 53, 117]⟩ : ByteArray) t176 t177 t178 _ A40.out gwx).mono ?_); rintro e w44 ⟨rfl, hb⟩; refine ⟨_, rfl, ?_⟩; have n0_ := Aside0.mk (below_step blw hb); clear HB; have HB := n0_; clear n0_; (try clear hb); (try clear hb2); (try clear hk); (try clear hi)))
    (try simp only [Act.put, List.setIfInBounds_toArray, List.set_cons_zero, List.set_cons_succ])
    go_cut [94] (fun v94 wc => ∃ (kq : Nat) (x94_40 : Bool), v94 = .bool x94_40 ∧ Aside0 (taplinelaw11_sane.j1 kq x94_40 = some true) ∧ Aside0 (kq ≤ kj2) ∧ Aside0 (Below w.heap.size w wc))
    case first =>
     have H := HC41.out
     clear HC41
     by_cases c45 : t172 = 0
     ·rw [if_pos c45] at H
      have c45b0 : (t172 == 0) = true := beq_iff_eq.mpr c45
      have c45b1 : (t172 != 0) = false := bne_eq_false_iff_eq.mpr c45
      clear c45
      (first | rw [c45b0] | (simp only [i64_w, i32_w]; rw [c45b0]) | skip)
      by_cases c46 : t175 = 0
      ·rw [if_pos c46] at H
       have c46b0 : (t175 == 0) = true := beq_iff_eq.mpr c46
       have c46b1 : (t175 != 0) = false := bne_eq_false_iff_eq.mpr c46
       clear c46
       by_cases c47 : t178 = 0
       ·rw [if_pos c47] at H
        have c47b0 : (t178 == 0) = true := beq_iff_eq.mpr c47
        have c47b1 : (t178 != 0) = false := bne_eq_false_iff_eq.mpr c47
        clear c47
        by_cases c48 : t170 = 8
        ·rw [if_pos c48] at H
         have c48b0 : (t170 == 8) = true := beq_iff_eq.mpr c48
         have c48b1 : (t170 != 8) = false := bne_eq_false_iff_eq.mpr c48
         clear c48
         by_cases c49 : t173 = 10
         ·rw [if_pos c49] at H
          have c49b0 : (t173 == 10) = true := beq_iff_eq.mpr c49
          have c49b1 : (t173 != 10) = false := bne_eq_false_iff_eq.mpr c49
          clear c49
          by_cases c50 : t176 = (-1)
          ·rw [if_pos c50] at H
           have c50b0 : (t176 == (-1)) = true := beq_iff_eq.mpr c50
           have c50b1 : (t176 != (-1)) = false := bne_eq_false_iff_eq.mpr c50
           clear c50
           by_cases c51 : t171 = true
           ·subst c51
            have H1 : (taplinelaw11_sane.j1 kj2 true) = some true := by rw [if_pos rfl] at H; exact H
            clear H
            have H := H1
            clear H1
            exact (j1_true kj2 H).elim
           ·replace c51 := Bool.eq_false_iff.mpr c51
            subst c51
            have H1 : (if t174 = true then (taplinelaw11_sane.j1 kj2 true) else (taplinelaw11_sane.j1 kj2 (!t177))) = some true := by rw [if_neg (show ¬ (false = true) by decide)] at H; exact H
            clear H
            have H := H1
            clear H1
            by_cases c52 : t174 = true
            ·subst c52
             have H1 : (taplinelaw11_sane.j1 kj2 true) = some true := by rw [if_pos rfl] at H; exact H
             clear H
             have H := H1
             clear H1
             exact (j1_true kj2 H).elim
            ·replace c52 := Bool.eq_false_iff.mpr c52
             subst c52
             have H1 : (taplinelaw11_sane.j1 kj2 (!t177)) = some true := by rw [if_neg (show ¬ (false = true) by decide)] at H; exact H
             clear H
             have H := H1
             clear H1
             have H' := Aside0.mk H
             clear H
             go_wp2
             go_meet
             case rel => exact ⟨_, (!t177), rsd, H', ⟨by have := HJ2.out; first | omega | exact Nat.le_refl _⟩, ⟨blw⟩⟩
          ·rw [if_neg c50] at H
           have c50b0 : (t176 == (-1)) = false := beq_eq_false_iff_ne.mpr c50
           have c50b1 : (t176 != (-1)) = true := bne_iff_ne.mpr c50
           have H' := Aside0.mk H
           clear H
           go_wp2
           go_meet
           case rel => exact ⟨_, (true), rsd, H', ⟨by have := HJ2.out; first | omega | exact Nat.le_refl _⟩, ⟨blw⟩⟩
         ·rw [if_neg c49] at H
          have c49b0 : (t173 == 10) = false := beq_eq_false_iff_ne.mpr c49
          have c49b1 : (t173 != 10) = true := bne_iff_ne.mpr c49
          have H' := Aside0.mk H
          clear H
          go_wp2
          go_meet
          case rel => exact ⟨_, (true), rsd, H', ⟨by have := HJ2.out; first | omega | exact Nat.le_refl _⟩, ⟨blw⟩⟩
        ·rw [if_neg c48] at H
         have c48b0 : (t170 == 8) = false := beq_eq_false_iff_ne.mpr c48
         have c48b1 : (t170 != 8) = true := bne_iff_ne.mpr c48
         have H' := Aside0.mk H
         clear H
         go_wp2
         go_meet
         case rel => exact ⟨_, (true), rsd, H', ⟨by have := HJ2.out; first | omega | exact Nat.le_refl _⟩, ⟨blw⟩⟩
       ·rw [if_neg c47] at H
        have c47b0 : (t178 == 0) = false := beq_eq_false_iff_ne.mpr c47
        have c47b1 : (t178 != 0) = true := bne_iff_ne.mpr c47
        have H' := Aside0.mk H
        clear H
        go_wp2
        go_meet
        case rel => exact ⟨_, (true), rsd, H', ⟨by have := HJ2.out; first | omega | exact Nat.le_refl _⟩, ⟨blw⟩⟩
      ·rw [if_neg c46] at H
       have c46b0 : (t175 == 0) = false := beq_eq_false_iff_ne.mpr c46
       have c46b1 : (t175 != 0) = true := bne_iff_ne.mpr c46
       have H' := Aside0.mk H
       clear H
       go_wp2
       go_meet
       case rel => exact ⟨_, (true), rsd, H', ⟨by have := HJ2.out; first | omega | exact Nat.le_refl _⟩, ⟨blw⟩⟩
     ·rw [if_neg c45] at H
      have c45b0 : (t172 == 0) = false := beq_eq_false_iff_ne.mpr c45
      have c45b1 : (t172 != 0) = true := bne_iff_ne.mpr c45
      (first | rw [c45b0] | (simp only [i64_w, i32_w]; rw [c45b0]) | skip)
      have H' := Aside0.mk H
      clear H
      go_wp2
      go_meet
      case rel => exact ⟨_, (true), rsd, H', ⟨by have := HJ2.out; first | omega | exact Nat.le_refl _⟩, ⟨blw⟩⟩
    case rest =>
     clear HC41
     try clear c1
     try clear c2
     try clear p2
     try clear c3
     try clear c4
     try clear c5
     try clear c16
     try clear c18
     try clear c19
     try clear c20
     try clear c21
     try clear c23
     try clear c25
     try clear c37
     try clear c45
     try clear c45b0
     try clear c45b1
     try clear c46
     try clear c46b0
     try clear c46b1
     try clear c47
     try clear c47b0
     try clear c47b1
     try clear c48
     try clear c48b0
     try clear c48b1
     try clear c49
     try clear c49b0
     try clear c49b1
     try clear c50
     try clear c50b0
     try clear c50b1
     try clear c51
     try clear c52
     try clear p2
     obtain ⟨kq, x94_40, rfl, HA, HJ40, HB⟩ := hcut
     cases kq with
     | zero => exact absurd HA.out (by simp [taplinelaw11_sane.j1])
     | succ kj40 =>
      have H := HA.out
      clear HA
      simp only [taplinelaw11_sane.j1] at H
      by_cases c53 : x94_40 = true
      ·subst c53
       have H1 : (some false) = some true := by rw [if_pos rfl] at H; exact H
       clear H
       have H := H1
       clear H1
       exact absurd (Option.some.inj H) (by decide)
      ·replace c53 := Bool.eq_false_iff.mpr c53
       subst c53
       have H1 : ((lex_Quote.f (⟨#[97, 9, 34, 255]⟩ : ByteArray)).bind fun bt179 => ((lex_Scan.f (⟨#[97, 32, 43, 32, 43, 32, 98]⟩ : ByteArray)).bind fun bt181 => ((lex_Scan.f (⟨#[112, 114, 111, 98, 101, 32, 120, 32, 119, 104, 101, 110]⟩ : ByteArray)).bind fun bt186 => ((lex_Place.f (⟨#[97, 10, 98]⟩ : ByteArray) 2).bind fun bt191 => (if bt179.2 = 0 then (if bt181.2.2 = 0 then (if bt186.2.2 = 0 then (if bt191.2.2 = 0 then (if bt179.1.toList = ([34, 97, 92, 116, 92, 34, 92, 120, 102, 102, 34] : List UInt8) then ((lex_Tight.f kj40 bt181.1).bind fun t194 => (if t194.toList = ([97, 43, 32, 43, 98] : List UInt8) then ((lex_Tight.f kj40 bt186.1).bind fun t195 => (if t195.toList = ([112, 114, 111, 98, 101, 32, 120, 32, 119, 104, 101, 110] : List UInt8) then (if bt191.1 = 2 then (some (bt191.2.1 == 1)) else (some false)) else (some false))) else (some false))) else (some false)) else (some false)) else (some false)) else (some false)) else (some false)))))) = some true := by rw [if_neg (show ¬ (false = true) by decide)] at H; exact H
       clear H
       have H := H1
       clear H1
       replace H := Option.bind_eq_some_iff.mp H
       obtain ⟨⟨t179, t180⟩, A540, H⟩ := H
       replace H : ((lex_Scan.f (⟨#[97, 32, 43, 32, 43, 32, 98]⟩ : ByteArray)).bind fun bt181 => ((lex_Scan.f (⟨#[112, 114, 111, 98, 101, 32, 120, 32, 119, 104, 101, 110]⟩ : ByteArray)).bind fun bt186 => ((lex_Place.f (⟨#[97, 10, 98]⟩ : ByteArray) 2).bind fun bt191 => (if t180 = 0 then (if bt181.2.2 = 0 then (if bt186.2.2 = 0 then (if bt191.2.2 = 0 then (if t179.toList = ([34, 97, 92, 116, 92, 34, 92, 120, 102, 102, 34] : List UInt8) then ((lex_Tight.f kj40 bt181.1).bind fun t194 => (if t194.toList = ([97, 43, 32, 43, 98] : List UInt8) then ((lex_Tight.f kj40 bt186.1).bind fun t195 => (if t195.toList = ([112, 114, 111, 98, 101, 32, 120, 32, 119, 104, 101, 110] : List UInt8) then (if bt191.1 = 2 then (some (bt191.2.1 == 1)) else (some false)) else (some false))) else (some false))) else (some false)) else (some false)) else (some false)) else (some false)) else (some false))))) = some true := H
       have A54 := Aside0.mk A540
       clear A540
       replace H := Option.bind_eq_some_iff.mp H
       obtain ⟨⟨t181, t182, t183⟩, A550, H⟩ := H
       replace H : ((lex_Scan.f (⟨#[112, 114, 111, 98, 101, 32, 120, 32, 119, 104, 101, 110]⟩ : ByteArray)).bind fun bt186 => ((lex_Place.f (⟨#[97, 10, 98]⟩ : ByteArray) 2).bind fun bt191 => (if t180 = 0 then (if t183 = 0 then (if bt186.2.2 = 0 then (if bt191.2.2 = 0 then (if t179.toList = ([34, 97, 92, 116, 92, 34, 92, 120, 102, 102, 34] : List UInt8) then ((lex_Tight.f kj40 t181).bind fun t194 => (if t194.toList = ([97, 43, 32, 43, 98] : List UInt8) then ((lex_Tight.f kj40 bt186.1).bind fun t195 => (if t195.toList = ([112, 114, 111, 98, 101, 32, 120, 32, 119, 104, 101, 110] : List UInt8) then (if bt191.1 = 2 then (some (bt191.2.1 == 1)) else (some false)) else (some false))) else (some false))) else (some false)) else (some false)) else (some false)) else (some false)) else (some false)))) = some true := H
       have A55 := Aside0.mk A550
       clear A550
       replace H := Option.bind_eq_some_iff.mp H
       obtain ⟨⟨t186, t187, t188⟩, A560, H⟩ := H
       replace H : ((lex_Place.f (⟨#[97, 10, 98]⟩ : ByteArray) 2).bind fun bt191 => (if t180 = 0 then (if t183 = 0 then (if t188 = 0 then (if bt191.2.2 = 0 then (if t179.toList = ([34, 97, 92, 116, 92, 34, 92, 120, 102, 102, 34] : List UInt8) then ((lex_Tight.f kj40 t181).bind fun t194 => (if t194.toList = ([97, 43, 32, 43, 98] : List UInt8) then ((lex_Tight.f kj40 t186).bind fun t195 => (if t195.toList = ([112, 114, 111, 98, 101, 32, 120, 32, 119, 104, 101, 110] : List UInt8) then (if bt191.1 = 2 then (some (bt191.2.1 == 1)) else (some false)) else (some false))) else (some false))) else (some false)) else (some false)) else (some false)) else (some false)) else (some false))) = some true := H
       have A56 := Aside0.mk A560
       clear A560
       replace H := Option.bind_eq_some_iff.mp H
       obtain ⟨⟨t191, t192, t193⟩, A570, H⟩ := H
       replace H : (if t180 = 0 then (if t183 = 0 then (if t188 = 0 then (if t193 = 0 then (if t179.toList = ([34, 97, 92, 116, 92, 34, 92, 120, 102, 102, 34] : List UInt8) then ((lex_Tight.f kj40 t181).bind fun t194 => (if t194.toList = ([97, 43, 32, 43, 98] : List UInt8) then ((lex_Tight.f kj40 t186).bind fun t195 => (if t195.toList = ([112, 114, 111, 98, 101, 32, 120, 32, 119, 104, 101, 110] : List UInt8) then (if t191 = 2 then (some (t192 == 1)) else (some false)) else (some false))) else (some false))) else (some false)) else (some false)) else (some false)) else (some false)) else (some false)) = some true := H
       have A57 := Aside0.mk A570
       clear A570
       by_cases c58 : t180 = 0
       ·rw [if_pos c58] at H
        have c58b0 : (t180 == 0) = true := beq_iff_eq.mpr c58
        have c58b1 : (t180 != 0) = false := bne_eq_false_iff_eq.mpr c58
        clear c58
        by_cases c59 : t183 = 0
        ·rw [if_pos c59] at H
         have c59b0 : (t183 == 0) = true := beq_iff_eq.mpr c59
         have c59b1 : (t183 != 0) = false := bne_eq_false_iff_eq.mpr c59
         clear c59
         by_cases c60 : t188 = 0
         ·rw [if_pos c60] at H
          have c60b0 : (t188 == 0) = true := beq_iff_eq.mpr c60
          have c60b1 : (t188 != 0) = false := bne_eq_false_iff_eq.mpr c60
          clear c60
          by_cases c61 : t193 = 0
          ·rw [if_pos c61] at H
           have c61b0 : (t193 == 0) = true := beq_iff_eq.mpr c61
           have c61b1 : (t193 != 0) = false := bne_eq_false_iff_eq.mpr c61
           clear c61
           by_cases c62 : t179.toList = ([34, 97, 92, 116, 92, 34, 92, 120, 102, 102, 34] : List UInt8)
           ·rw [if_pos c62] at H
            have c62b0 : (t179.toList == ([34, 97, 92, 116, 92, 34, 92, 120, 102, 102, 34] : List UInt8)) = true := beq_iff_eq.mpr c62
            have c62b1 : (t179.toList != ([34, 97, 92, 116, 92, 34, 92, 120, 102, 102, 34] : List UInt8)) = false := bne_eq_false_iff_eq.mpr c62
            clear c62
            replace H := Option.bind_eq_some_iff.mp H
            obtain ⟨t194, A630, H⟩ := H
            replace H : (if t194.toList = ([97, 43, 32, 43, 98] : List UInt8) then ((lex_Tight.f kj40 t186).bind fun t195 => (if t195.toList = ([112, 114, 111, 98, 101, 32, 120, 32, 119, 104, 101, 110] : List UInt8) then (if t191 = 2 then (some (t192 == 1)) else (some false)) else (some false))) else (some false)) = some true := H
            have A63 := Aside0.mk A630
            clear A630
            by_cases c64 : t194.toList = ([97, 43, 32, 43, 98] : List UInt8)
            ·rw [if_pos c64] at H
             have c64b0 : (t194.toList == ([97, 43, 32, 43, 98] : List UInt8)) = true := beq_iff_eq.mpr c64
             have c64b1 : (t194.toList != ([97, 43, 32, 43, 98] : List UInt8)) = false := bne_eq_false_iff_eq.mpr c64
             clear c64
             replace H := Option.bind_eq_some_iff.mp H
             obtain ⟨t195, A650, H⟩ := H
             replace H : (if t195.toList = ([112, 114, 111, 98, 101, 32, 120, 32, 119, 104, 101, 110] : List UInt8) then (if t191 = 2 then (some (t192 == 1)) else (some false)) else (some false)) = some true := H
             have A65 := Aside0.mk A650
             clear A650
             by_cases c66 : t195.toList = ([112, 114, 111, 98, 101, 32, 120, 32, 119, 104, 101, 110] : List UInt8)
             ·rw [if_pos c66] at H
              have c66b0 : (t195.toList == ([112, 114, 111, 98, 101, 32, 120, 32, 119, 104, 101, 110] : List UInt8)) = true := beq_iff_eq.mpr c66
              have c66b1 : (t195.toList != ([112, 114, 111, 98, 101, 32, 120, 32, 119, 104, 101, 110] : List UInt8)) = false := bne_eq_false_iff_eq.mpr c66
              clear c66
              by_cases c67 : t191 = 2
              ·rw [if_pos c67] at H
               have c67b0 : (t191 == 2) = true := beq_iff_eq.mpr c67
               have c67b1 : (t191 != 2) = false := bne_eq_false_iff_eq.mpr c67
               clear c67
               have hr_ := Option.some.inj H
               go_wp2_with (first | ((with_reducible refine gate_callee (f := 31) rfl ?_); refine goesL_ (some 96) rfl rfl Tryz.func31 (by kernel_rfl) rfl #[.string (⟨#[97, 9, 34, 255]⟩ : ByteArray)] rfl fq ?_; (with_reducible refine (lex_Quote.calls (⟨#[97, 9, 34, 255]⟩ : ByteArray) t179 t180 _ A54.out gwx).mono ?_); rintro e w68 ⟨rfl, hb⟩; refine ⟨_, rfl, ?_⟩; have n0_ := Aside0.mk (below_step blw hb); clear HB; have HB := n0_; clear n0_; (try clear hb); (try clear hb2); (try clear hk); (try clear hi)) | ((with_reducible refine gate_callee (f := 17) rfl ?_); refine goesL_ (some 100) rfl rfl Tryz.func17 (by kernel_rfl) rfl #[.string (⟨#[97, 32, 43, 32, 43, 32, 98]⟩ : ByteArray)] rfl fq ?_; (with_reducible refine (lex_Scan.calls (⟨#[97, 32, 43, 32, 43, 32, 98]⟩ : ByteArray) t181 t182 t183 _ A55.out gwx).mono ?_); rintro e w69 ⟨v184, rfl, ho0, hb⟩; refine ⟨_, rfl, ?_⟩; have n0_ := Aside0.mk (Kd.R_lower ho0 (below_size blw)); have n1_ := Aside0.mk (below_step blw hb); clear HB; have HO185 := n0_; have HB := n1_; clear n0_ n1_; (try clear hb); (try clear hb2); (try clear hk); (try clear hi); (try clear ho0)) | ((with_reducible refine gate_callee (f := 17) rfl ?_); refine goesL_ (some 105) rfl rfl Tryz.func17 (by kernel_rfl) rfl #[.string (⟨#[112, 114, 111, 98, 101, 32, 120, 32, 119, 104, 101, 110]⟩ : ByteArray)] rfl fq ?_; (with_reducible refine (lex_Scan.calls (⟨#[112, 114, 111, 98, 101, 32, 120, 32, 119, 104, 101, 110]⟩ : ByteArray) t186 t187 t188 _ A56.out gwx).mono ?_); rintro e w70 ⟨v189, rfl, ho0, hb⟩; refine ⟨_, rfl, ?_⟩; have n0_ := Aside0.mk (Kd.R_elder' (by (with_reducible repeat (first | apply Kd.R_alloc | apply Kd.R_drewN | apply Kd.R_drew)); exact HO185.out) (Kd.R_base ho0) hb); have n1_ := Aside0.mk (Kd.R_lower (Kd.R_new' ho0 (Kd.R_lt (by (with_reducible repeat (first | apply Kd.R_alloc | apply Kd.R_drewN | apply Kd.R_drew)); exact HO185.out))) (below_size blw)); have n2_ := Aside0.mk (below_step blw hb); clear HO185; clear HB; have HO185 := n0_; have HO190 := n1_; have HB := n2_; clear n0_ n1_ n2_; (try clear hb); (try clear hb2); (try clear hk); (try clear hi); (try clear ho0)) | ((with_reducible refine gate_callee (f := 26) rfl ?_); refine goesL_ (some 110) rfl rfl Tryz.func26 (by kernel_rfl) rfl #[.string (⟨#[97, 10, 98]⟩ : ByteArray), .int .i64 2] rfl fq ?_; (with_reducible refine (lex_Place.calls (⟨#[97, 10, 98]⟩ : ByteArray) 2 t191 t192 t193 _ A57.out gwx).mono ?_); rintro e w71 ⟨rfl, hb⟩; refine ⟨_, rfl, ?_⟩; have n0_ := Aside0.mk (Kd.R_below (by (with_reducible repeat (first | apply Kd.R_alloc | apply Kd.R_drewN | apply Kd.R_drew)); exact HO185.out) hb); have n1_ := Aside0.mk (Kd.R_below (by (with_reducible repeat (first | apply Kd.R_alloc | apply Kd.R_drewN | apply Kd.R_drew)); exact HO190.out) hb); have n2_ := Aside0.mk (below_step blw hb); clear HO185; clear HO190; clear HB; have HO185 := n0_; have HO190 := n1_; have HB := n2_; clear n0_ n1_ n2_; (try clear hb); (try clear hb2); (try clear hk); (try clear hi); obtain ⟨Ao72, co72, eo72⟩ := Kd.R_slice HO185.out; subst eo72) | (go_at_call 24; (with_reducible refine (lex_Tight.calls kj40 _ _ t181 t194 _ ?side1 ?side2 A63.out gwx).mono ?_); (case side1 => repeat (first | exact (Kd.R_reads' HO185.out).2.2 | (with_reducible refine Kd.C_alloc ?_ _) | (with_reducible refine Kd.C_drewN ?_ _) | (with_reducible refine Kd.C_drew ?_))); (case side2 => exact (Kd.R_reads' HO185.out).2.1); rintro e w73 ⟨rfl, hb⟩; have n0_ := Aside0.mk (Kd.R_below (by (with_reducible repeat (first | apply Kd.R_alloc | apply Kd.R_drewN | apply Kd.R_drew)); exact HO185.out) hb); have n1_ := Aside0.mk (Kd.R_below (by (with_reducible repeat (first | apply Kd.R_alloc | apply Kd.R_drewN | apply Kd.R_drew)); exact HO190.out) hb); have n2_ := Aside0.mk (below_step blw hb); clear HO185; clear HO190; clear HB; have HO185 := n0_; have HO190 := n1_; have HB := n2_; clear n0_ n1_ n2_; (try clear hb); (try clear hb2); (try clear hk); (try clear hi); obtain ⟨Ao74, co74, eo74⟩ := Kd.R_slice HO190.out; subst eo74) | (go_at_call 24; (with_reducible refine (lex_Tight.calls kj40 _ _ t186 t195 _ ?side1 ?side2 A65.out gwx).mono ?_); (case side1 => repeat (first | exact (Kd.R_reads' HO190.out).2.2 | (with_reducible refine Kd.C_alloc ?_ _) | (with_reducible refine Kd.C_drewN ?_ _) | (with_reducible refine Kd.C_drew ?_))); (case side2 => exact (Kd.R_reads' HO190.out).2.1); rintro e w75 ⟨rfl, hb⟩; have n0_ := Aside0.mk (Kd.R_below (by (with_reducible repeat (first | apply Kd.R_alloc | apply Kd.R_drewN | apply Kd.R_drew)); exact HO185.out) hb); have n1_ := Aside0.mk (Kd.R_below (by (with_reducible repeat (first | apply Kd.R_alloc | apply Kd.R_drewN | apply Kd.R_drew)); exact HO190.out) hb); have n2_ := Aside0.mk (below_step blw hb); clear HO185; clear HO190; clear HB; have HO185 := n0_; have HO190 := n1_; have HB := n2_; clear n0_ n1_ n2_; (try clear hb); (try clear hb2); (try clear hk); (try clear hi)))
               go_ret
               exact ⟨rew, blw⟩
              ·rw [if_neg c67] at H
               have c67b0 : (t191 == 2) = false := beq_eq_false_iff_ne.mpr c67
               have c67b1 : (t191 != 2) = true := bne_iff_ne.mpr c67
               exact absurd (Option.some.inj H) (by decide)
             ·rw [if_neg c66] at H
              have c66b0 : (t195.toList == ([112, 114, 111, 98, 101, 32, 120, 32, 119, 104, 101, 110] : List UInt8)) = false := beq_eq_false_iff_ne.mpr c66
              have c66b1 : (t195.toList != ([112, 114, 111, 98, 101, 32, 120, 32, 119, 104, 101, 110] : List UInt8)) = true := bne_iff_ne.mpr c66
              exact absurd (Option.some.inj H) (by decide)
            ·rw [if_neg c64] at H
             have c64b0 : (t194.toList == ([97, 43, 32, 43, 98] : List UInt8)) = false := beq_eq_false_iff_ne.mpr c64
             have c64b1 : (t194.toList != ([97, 43, 32, 43, 98] : List UInt8)) = true := bne_iff_ne.mpr c64
             exact absurd (Option.some.inj H) (by decide)
           ·rw [if_neg c62] at H
            have c62b0 : (t179.toList == ([34, 97, 92, 116, 92, 34, 92, 120, 102, 102, 34] : List UInt8)) = false := beq_eq_false_iff_ne.mpr c62
            have c62b1 : (t179.toList != ([34, 97, 92, 116, 92, 34, 92, 120, 102, 102, 34] : List UInt8)) = true := bne_iff_ne.mpr c62
            exact absurd (Option.some.inj H) (by decide)
          ·rw [if_neg c61] at H
           have c61b0 : (t193 == 0) = false := beq_eq_false_iff_ne.mpr c61
           have c61b1 : (t193 != 0) = true := bne_iff_ne.mpr c61
           exact absurd (Option.some.inj H) (by decide)
         ·rw [if_neg c60] at H
          have c60b0 : (t188 == 0) = false := beq_eq_false_iff_ne.mpr c60
          have c60b1 : (t188 != 0) = true := bne_iff_ne.mpr c60
          exact absurd (Option.some.inj H) (by decide)
        ·rw [if_neg c59] at H
         have c59b0 : (t183 == 0) = false := beq_eq_false_iff_ne.mpr c59
         have c59b1 : (t183 != 0) = true := bne_iff_ne.mpr c59
         exact absurd (Option.some.inj H) (by decide)
       ·rw [if_neg c58] at H
        have c58b0 : (t180 == 0) = false := beq_eq_false_iff_ne.mpr c58
        have c58b1 : (t180 != 0) = true := bne_iff_ne.mpr c58
        exact absurd (Option.some.inj H) (by decide)
theorem sane_true : taplinelaw11_sane.f 100 = some true := by decide +kernel
def sane_t.f : Option Bool := some true
theorem sane_t.calls (r : Bool) (w : World) (h : sane_t.f = some r) (hgw : GW w) :
  Calls Tryz.prog 16 #[] w fun e w' => e = .returned (.bool r) ∧ Below w.heap.size w w' := by
 cases h
 exact sane_p 100 w sane_true hgw
end Go.Proofs.YtadgddipkbdnbaaGreatDoor.Q
