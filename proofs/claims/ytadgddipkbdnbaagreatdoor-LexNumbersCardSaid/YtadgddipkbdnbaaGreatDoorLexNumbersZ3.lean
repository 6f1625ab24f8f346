/- For every string, Number of the program returns what the specification's Number returns, and the chapter's examples hold; the input reads as it did; the package-level variables hold what the program's text lays in them: the tied card. -/
import Derived.Test.YtadgddipkbdnbaaGreatDoorLexP1
import Derived.Test.YtadgddipkbdnbaaGreatDoorLexP2
import Derived.Test.YtadgddipkbdnbaaGreatDoorLexP3
import Derived.Test.YtadgddipkbdnbaaGreatDoorLexP4
import Derived.Test.YtadgddipkbdnbaaGreatDoorLexP7
import Derived.Test.YtadgddipkbdnbaaGreatDoorLexP8
import Derived.Test.YtadgddipkbdnbaaGreatDoorLexP11
import Derived.Test.YtadgddipkbdnbaaGreatDoorLexP14
import Derived.Test.YtadgddipkbdnbaaGreatDoorLexP15
import Derived.Test.YtadgddipkbdnbaaGreatDoorLexR3
import Derived.Test.YtadgddipkbdnbaaGreatDoorLexR8
import Derived.Test.YtadgddipkbdnbaaGreatDoorLexR9
import Derived.Test.YtadgddipkbdnbaaGreatDoorLexNumbersZ1
import Derived.Test.YtadgddipkbdnbaaGreatDoorLexNumbersZ2
import Derived.Test.YtadgddipkbdnbaaGreatDoorTie
import Derived.Test.YtadgddipkbdnbaaGreatDoorCards
import Derived.WalkKit
import Derived.ProofKit
import Derived.OpenShut
import Derived.ShutString
import Derived.ChangeOld
import Derived.Below
import Derived.SizedLaws
import Derived.SevenTiedAt
namespace Go.Proofs.YtadgddipkbdnbaaGreatDoor.Q
open Go.Proofs.YtadgddipkbdnbaaGreatDoor Go.RowKit Go.Proofs.YtadgddipkbdnbaaGreatDoorW.PrintWords Go.Proofs.YtadgddipkbdnbaaGreatDoorW.PrintLast Go.Proofs.YtadgddipkbdnbaaGreatDoorW.PrintMore
attribute [local go_sem] max2_int min2_int max_two min_two max_three min_three max_four min_four   
set_option linter.unusedVariables false
set_option linter.unusedSimpArgs false
def taplinelaw11_LexNumbers.f (k : Nat) (a0 : ByteArray) : Option (Bool) := (sane_t.f).bind fun t220 => ((lex_Number.f a0).bind fun bt221 => ((taplineref11_Number.f k a0).bind fun bt224 => (if bt224.2.2 = true then (if t220 = true then (if bt221.2.2 = 0 then (if bt221.1 = bt224.1 then (some (bt221.2.1 == bt224.2.1)) else (some false)) else (some false)) else (some false)) else (if t220 = true then (if bt221.2.2 = 114 then (if bt221.1 = 0 then (some (!bt221.2.1)) else (some false)) else (some false)) else (some false)))))
theorem taplinelaw11_LexNumbers.mono : ∀ a0 k, LeO (taplinelaw11_LexNumbers.f k a0) (taplinelaw11_LexNumbers.f (k + 1) a0) := by
 intro a0 k
 unfold taplinelaw11_LexNumbers.f
 repeat' first
   | (with_reducible exact taplineref11_Number.mono _ _)
   | (with_reducible exact LeO.refl _)
   | (with_reducible exact LeO.none _)
   | (with_reducible refine LeO.ite ?_ ?_)
   | (with_reducible refine LeO.bind ?_ (fun _ => ?_))
   | exact LeO.none _
   | refine LeO.ite ?_ ?_
   | refine LeO.bind ?_ (fun _ => ?_)
set_option maxHeartbeats 8000000 in
set_option maxRecDepth 100000 in
theorem taplinelaw11_LexNumbers.calls (k : Nat) (a0 : ByteArray) (r : Bool) (w : World) (h : taplinelaw11_LexNumbers.f k a0 = some r) (hgw : GW w) :
  Calls Tryz.prog 4 #[.string a0] w fun e w' => e = .returned (.bool r) ∧ Below w.heap.size w w' := by
 have hu35 := Tryz.underlying35
 have HB := Aside0.mk (Below.refl w.heap.size w)
 have H : ((sane_t.f).bind fun t220 => ((lex_Number.f a0).bind fun bt221 => ((taplineref11_Number.f k a0).bind fun bt224 => (if bt224.2.2 = true then (if t220 = true then (if bt221.2.2 = 0 then (if bt221.1 = bt224.1 then (some (bt221.2.1 == bt224.2.1)) else (some false)) else (some false)) else (some false)) else (if t220 = true then (if bt221.2.2 = 114 then (if bt221.1 = 0 then (some (!bt221.2.1)) else (some false)) else (some false)) else (some false)))))) = some r := h
 clear h
 replace H := Option.bind_eq_some_iff.mp H
 obtain ⟨t220, A20, H⟩ := H
 replace H : ((lex_Number.f a0).bind fun bt221 => ((taplineref11_Number.f k a0).bind fun bt224 => (if bt224.2.2 = true then (if t220 = true then (if bt221.2.2 = 0 then (if bt221.1 = bt224.1 then (some (bt221.2.1 == bt224.2.1)) else (some false)) else (some false)) else (some false)) else (if t220 = true then (if bt221.2.2 = 114 then (if bt221.1 = 0 then (some (!bt221.2.1)) else (some false)) else (some false)) else (some false))))) = some r := H
 have A2 := Aside0.mk A20
 clear A20
 replace H := Option.bind_eq_some_iff.mp H
 obtain ⟨⟨t221, t222, t223⟩, A30, H⟩ := H
 replace H : ((taplineref11_Number.f k a0).bind fun bt224 => (if bt224.2.2 = true then (if t220 = true then (if t223 = 0 then (if t221 = bt224.1 then (some (t222 == bt224.2.1)) else (some false)) else (some false)) else (some false)) else (if t220 = true then (if t223 = 114 then (if t221 = 0 then (some (!t222)) else (some false)) else (some false)) else (some false)))) = some r := H
 have A3 := Aside0.mk A30
 clear A30
 replace H := Option.bind_eq_some_iff.mp H
 obtain ⟨⟨t224, t225, t226⟩, A40, H⟩ := H
 replace H : (if t226 = true then (if t220 = true then (if t223 = 0 then (if t221 = t224 then (some (t222 == t225)) else (some false)) else (some false)) else (some false)) else (if t220 = true then (if t223 = 114 then (if t221 = 0 then (some (!t222)) else (some false)) else (some false)) else (some false))) = some r := H
 have A4 := Aside0.mk A40
 clear A40
 by_cases c5 : t226 = true
 ·subst c5
  have H1 : (if t220 = true then (if t223 = 0 then (if t221 = t224 then (some (t222 == t225)) else (some false)) else (some false)) else (some false)) = some r := by rw [if_pos rfl] at H; exact H
  clear H
  have H := H1
  clear H1
  by_cases c6 : t220 = true
  ·subst c6
   have H1 : (if t223 = 0 then (if t221 = t224 then (some (t222 == t225)) else (some false)) else (some false)) = some r := by rw [if_pos rfl] at H; exact H
   clear H
   have H := H1
   clear H1
   by_cases c7 : t223 = 0
   ·rw [if_pos c7] at H
    have c7b0 : (t223 == 0) = true := beq_iff_eq.mpr c7
    have c7b1 : (t223 != 0) = false := bne_eq_false_iff_eq.mpr c7
    clear c7
    by_cases c8 : t221 = t224
    ·rw [if_pos c8] at H
     have c8b0 : (t221 == t224) = true := beq_iff_eq.mpr c8
     have c8b1 : (t221 != t224) = false := bne_eq_false_iff_eq.mpr c8
     clear c8
     obtain rfl := Option.some.inj H
     go_enter Tryz.func4, Tryz.ntmps4
     go_wp2_with (first | ((with_reducible refine gate_callee (f := 16) rfl ?_); refine goesL_ (some 8) rfl rfl Tryz.func16 (by kernel_rfl) rfl #[] rfl fq ?_; (with_reducible refine (sane_t.calls  true _ A2.out gwx).mono ?_); rintro e w9 ⟨rfl, hb⟩; refine ⟨_, rfl, ?_⟩; have n0_ := Aside0.mk (below_step blw hb); clear HB; have HB := n0_; clear n0_; (try clear hb); (try clear hb2); (try clear hk); (try clear hi)) | ((with_reducible refine gate_callee (f := 20) rfl ?_); refine goesL_ (some 11) rfl rfl Tryz.func20 (by kernel_rfl) rfl #[.string a0] rfl fq ?_; (with_reducible refine (lex_Number.calls a0 t221 t222 t223 _ A3.out gwx).mono ?_); rintro e w10 ⟨rfl, hb⟩; refine ⟨_, rfl, ?_⟩; have n0_ := Aside0.mk (below_step blw hb); clear HB; have HB := n0_; clear n0_; (try clear hb); (try clear hb2); (try clear hk); (try clear hi)) | ((with_reducible refine gate_callee (f := 21) rfl ?_); refine goesL_ (some 16) rfl rfl Tryz.func21 (by kernel_rfl) rfl #[.string a0] rfl fq ?_; (with_reducible refine (taplineref11_Number.calls k a0 t224 t225 true _ A4.out).mono ?_); rintro e w11 ⟨rfl, hb⟩; refine ⟨_, rfl, ?_⟩; have n0_ := Aside0.mk (below_step blw hb); clear HB; have HB := n0_; clear n0_; (try clear hb); (try clear hb2); (try clear hk); (try clear hi)) | ((with_reducible refine gate_dst (N := 7) rfl ?_); refine box_event ?hg (N := 7) ?hd (cs := #[.int .i64 0, .bool false, .bool false]) (t := 35) ?hr ?_; (case hd => rfl); (case hg => rfl); (case hr => first | (go_simp; done) | (go_simp; rfl)); intro gb227 hg w12 hbox hb; have n0_ := Aside0.mk (below_step blw hb); have n1_ := Aside0.mk (hbox); have n2_ := Aside0.mk ((by rw [hg]; exact (below_size blw) : w.heap.size ≤ gb227)); have n3_ := Aside0.mk ((by rw [hg]; exact (below_size blw) : w.heap.size ≤ gb227)); clear HB; have HB := n0_; have BK227 := n1_; have GW227 := n2_; have GE227 := n3_; clear n0_ n1_ n2_ n3_; clear hb hbox hg; have hcz13_0 : w12.cell? ⟨gb227, 0, none⟩ = some (.int .i64 0) := (blk_cell BK227.out 0).trans rfl; have hcz13_1 : w12.cell? ⟨gb227, 1, none⟩ = some (.bool false) := (blk_cell BK227.out 1).trans rfl; have hcz13_2 : w12.cell? ⟨gb227, 2, none⟩ = some (.bool false) := (blk_cell BK227.out 2).trans rfl; have hfz13_0 := blk_frozen BK227.out 0; have hfz13_1 := blk_frozen BK227.out 1; have hfz13_2 := blk_frozen BK227.out 2))
     go_ret
     exact ⟨rew, blw⟩
    ·rw [if_neg c8] at H
     have c8b0 : (t221 == t224) = false := beq_eq_false_iff_ne.mpr c8
     have c8b1 : (t221 != t224) = true := bne_iff_ne.mpr c8
     obtain rfl := Option.some.inj H
     go_enter Tryz.func4, Tryz.ntmps4
     go_wp2_with (first | ((with_reducible refine gate_callee (f := 16) rfl ?_); refine goesL_ (some 8) rfl rfl Tryz.func16 (by kernel_rfl) rfl #[] rfl fq ?_; (with_reducible refine (sane_t.calls  true _ A2.out gwx).mono ?_); rintro e w14 ⟨rfl, hb⟩; refine ⟨_, rfl, ?_⟩; have n0_ := Aside0.mk (below_step blw hb); clear HB; have HB := n0_; clear n0_; (try clear hb); (try clear hb2); (try clear hk); (try clear hi)) | ((with_reducible refine gate_callee (f := 20) rfl ?_); refine goesL_ (some 11) rfl rfl Tryz.func20 (by kernel_rfl) rfl #[.string a0] rfl fq ?_; (with_reducible refine (lex_Number.calls a0 t221 t222 t223 _ A3.out gwx).mono ?_); rintro e w15 ⟨rfl, hb⟩; refine ⟨_, rfl, ?_⟩; have n0_ := Aside0.mk (below_step blw hb); clear HB; have HB := n0_; clear n0_; (try clear hb); (try clear hb2); (try clear hk); (try clear hi)) | ((with_reducible refine gate_callee (f := 21) rfl ?_); refine goesL_ (some 16) rfl rfl Tryz.func21 (by kernel_rfl) rfl #[.string a0] rfl fq ?_; (with_reducible refine (taplineref11_Number.calls k a0 t224 t225 true _ A4.out).mono ?_); rintro e w16 ⟨rfl, hb⟩; refine ⟨_, rfl, ?_⟩; have n0_ := Aside0.mk (below_step blw hb); clear HB; have HB := n0_; clear n0_; (try clear hb); (try clear hb2); (try clear hk); (try clear hi)) | ((with_reducible refine gate_dst (N := 7) rfl ?_); refine box_event ?hg (N := 7) ?hd (cs := #[.int .i64 0, .bool false, .bool false]) (t := 35) ?hr ?_; (case hd => rfl); (case hg => rfl); (case hr => first | (go_simp; done) | (go_simp; rfl)); intro gb227 hg w17 hbox hb; have n0_ := Aside0.mk (below_step blw hb); have n1_ := Aside0.mk (hbox); have n2_ := Aside0.mk ((by rw [hg]; exact (below_size blw) : w.heap.size ≤ gb227)); have n3_ := Aside0.mk ((by rw [hg]; exact (below_size blw) : w.heap.size ≤ gb227)); clear HB; have HB := n0_; have BK227 := n1_; have GW227 := n2_; have GE227 := n3_; clear n0_ n1_ n2_ n3_; clear hb hbox hg; have hcz18_0 : w17.cell? ⟨gb227, 0, none⟩ = some (.int .i64 0) := (blk_cell BK227.out 0).trans rfl; have hcz18_1 : w17.cell? ⟨gb227, 1, none⟩ = some (.bool false) := (blk_cell BK227.out 1).trans rfl; have hcz18_2 : w17.cell? ⟨gb227, 2, none⟩ = some (.bool false) := (blk_cell BK227.out 2).trans rfl; have hfz18_0 := blk_frozen BK227.out 0; have hfz18_1 := blk_frozen BK227.out 1; have hfz18_2 := blk_frozen BK227.out 2))
     go_ret
     exact ⟨rew, blw⟩
   ·rw [if_neg c7] at H
    have c7b0 : (t223 == 0) = false := beq_eq_false_iff_ne.mpr c7
    have c7b1 : (t223 != 0) = true := bne_iff_ne.mpr c7
    obtain rfl := Option.some.inj H
    go_enter Tryz.func4, Tryz.ntmps4
    go_wp2_with (first | ((with_reducible refine gate_callee (f := 16) rfl ?_); refine goesL_ (some 8) rfl rfl Tryz.func16 (by kernel_rfl) rfl #[] rfl fq ?_; (with_reducible refine (sane_t.calls  true _ A2.out gwx).mono ?_); rintro e w19 ⟨rfl, hb⟩; refine ⟨_, rfl, ?_⟩; have n0_ := Aside0.mk (below_step blw hb); clear HB; have HB := n0_; clear n0_; (try clear hb); (try clear hb2); (try clear hk); (try clear hi)) | ((with_reducible refine gate_callee (f := 20) rfl ?_); refine goesL_ (some 11) rfl rfl Tryz.func20 (by kernel_rfl) rfl #[.string a0] rfl fq ?_; (with_reducible refine (lex_Number.calls a0 t221 t222 t223 _ A3.out gwx).mono ?_); rintro e w20 ⟨rfl, hb⟩; refine ⟨_, rfl, ?_⟩; have n0_ := Aside0.mk (below_step blw hb); clear HB; have HB := n0_; clear n0_; (try clear hb); (try clear hb2); (try clear hk); (try clear hi)) | ((with_reducible refine gate_callee (f := 21) rfl ?_); refine goesL_ (some 16) rfl rfl Tryz.func21 (by kernel_rfl) rfl #[.string a0] rfl fq ?_; (with_reducible refine (taplineref11_Number.calls k a0 t224 t225 true _ A4.out).mono ?_); rintro e w21 ⟨rfl, hb⟩; refine ⟨_, rfl, ?_⟩; have n0_ := Aside0.mk (below_step blw hb); clear HB; have HB := n0_; clear n0_; (try clear hb); (try clear hb2); (try clear hk); (try clear hi)) | ((with_reducible refine gate_dst (N := 7) rfl ?_); refine box_event ?hg (N := 7) ?hd (cs := #[.int .i64 0, .bool false, .bool false]) (t := 35) ?hr ?_; (case hd => rfl); (case hg => rfl); (case hr => first | (go_simp; done) | (go_simp; rfl)); intro gb227 hg w22 hbox hb; have n0_ := Aside0.mk (below_step blw hb); have n1_ := Aside0.mk (hbox); have n2_ := Aside0.mk ((by rw [hg]; exact (below_size blw) : w.heap.size ≤ gb227)); have n3_ := Aside0.mk ((by rw [hg]; exact (below_size blw) : w.heap.size ≤ gb227)); clear HB; have HB := n0_; have BK227 := n1_; have GW227 := n2_; have GE227 := n3_; clear n0_ n1_ n2_ n3_; clear hb hbox hg; have hcz23_0 : w22.cell? ⟨gb227, 0, none⟩ = some (.int .i64 0) := (blk_cell BK227.out 0).trans rfl; have hcz23_1 : w22.cell? ⟨gb227, 1, none⟩ = some (.bool false) := (blk_cell BK227.out 1).trans rfl; have hcz23_2 : w22.cell? ⟨gb227, 2, none⟩ = some (.bool false) := (blk_cell BK227.out 2).trans rfl; have hfz23_0 := blk_frozen BK227.out 0; have hfz23_1 := blk_frozen BK227.out 1; have hfz23_2 := blk_frozen BK227.out 2))
    go_ret
    exact ⟨rew, blw⟩
  ·replace c6 := Bool.eq_false_iff.mpr c6
   subst c6
   have H1 : (some false) = some r := by rw [if_neg (show ¬ (false = true) by decide)] at H; exact H
   clear H
   have H := H1
   clear H1
   obtain rfl := Option.some.inj H
   go_enter Tryz.func4, Tryz.ntmps4
   go_wp2_with (first | ((with_reducible refine gate_callee (f := 16) rfl ?_); refine goesL_ (some 8) rfl rfl Tryz.func16 (by kernel_rfl) rfl #[] rfl fq ?_; (with_reducible refine (sane_t.calls  false _ A2.out gwx).mono ?_); rintro e w24 ⟨rfl, hb⟩; refine ⟨_, rfl, ?_⟩; have n0_ := Aside0.mk (below_step blw hb); clear HB; have HB := n0_; clear n0_; (try clear hb); (try clear hb2); (try clear hk); (try clear hi)) | ((with_reducible refine gate_callee (f := 20) rfl ?_); refine goesL_ (some 11) rfl rfl Tryz.func20 (by kernel_rfl) rfl #[.string a0] rfl fq ?_; (with_reducible refine (lex_Number.calls a0 t221 t222 t223 _ A3.out gwx).mono ?_); rintro e w25 ⟨rfl, hb⟩; refine ⟨_, rfl, ?_⟩; have n0_ := Aside0.mk (below_step blw hb); clear HB; have HB := n0_; clear n0_; (try clear hb); (try clear hb2); (try clear hk); (try clear hi)) | ((with_reducible refine gate_callee (f := 21) rfl ?_); refine goesL_ (some 16) rfl rfl Tryz.func21 (by kernel_rfl) rfl #[.string a0] rfl fq ?_; (with_reducible refine (taplineref11_Number.calls k a0 t224 t225 true _ A4.out).mono ?_); rintro e w26 ⟨rfl, hb⟩; refine ⟨_, rfl, ?_⟩; have n0_ := Aside0.mk (below_step blw hb); clear HB; have HB := n0_; clear n0_; (try clear hb); (try clear hb2); (try clear hk); (try clear hi)) | ((with_reducible refine gate_dst (N := 7) rfl ?_); refine box_event ?hg (N := 7) ?hd (cs := #[.int .i64 0, .bool false, .bool false]) (t := 35) ?hr ?_; (case hd => rfl); (case hg => rfl); (case hr => first | (go_simp; done) | (go_simp; rfl)); intro gb227 hg w27 hbox hb; have n0_ := Aside0.mk (below_step blw hb); have n1_ := Aside0.mk (hbox); have n2_ := Aside0.mk ((by rw [hg]; exact (below_size blw) : w.heap.size ≤ gb227)); have n3_ := Aside0.mk ((by rw [hg]; exact (below_size blw) : w.heap.size ≤ gb227)); clear HB; have HB := n0_; have BK227 := n1_; have GW227 := n2_; have GE227 := n3_; clear n0_ n1_ n2_ n3_; clear hb hbox hg; have hcz28_0 : w27.cell? ⟨gb227, 0, none⟩ = some (.int .i64 0) := (blk_cell BK227.out 0).trans rfl; have hcz28_1 : w27.cell? ⟨gb227, 1, none⟩ = some (.bool false) := (blk_cell BK227.out 1).trans rfl; have hcz28_2 : w27.cell? ⟨gb227, 2, none⟩ = some (.bool false) := (blk_cell BK227.out 2).trans rfl; have hfz28_0 := blk_frozen BK227.out 0; have hfz28_1 := blk_frozen BK227.out 1; have hfz28_2 := blk_frozen BK227.out 2))
   go_ret
   exact ⟨rew, blw⟩
 ·replace c5 := Bool.eq_false_iff.mpr c5
  subst c5
  have H1 : (if t220 = true then (if t223 = 114 then (if t221 = 0 then (some (!t222)) else (some false)) else (some false)) else (some false)) = some r := by rw [if_neg (show ¬ (false = true) by decide)] at H; exact H
  clear H
  have H := H1
  clear H1
  by_cases c29 : t220 = true
  ·subst c29
   have H1 : (if t223 = 114 then (if t221 = 0 then (some (!t222)) else (some false)) else (some false)) = some r := by rw [if_pos rfl] at H; exact H
   clear H
   have H := H1
   clear H1
   by_cases c30 : t223 = 114
   ·rw [if_pos c30] at H
    have c30b0 : (t223 == 114) = true := beq_iff_eq.mpr c30
    have c30b1 : (t223 != 114) = false := bne_eq_false_iff_eq.mpr c30
    clear c30
    by_cases c31 : t221 = 0
    ·rw [if_pos c31] at H
     have c31b0 : (t221 == 0) = true := beq_iff_eq.mpr c31
     have c31b1 : (t221 != 0) = false := bne_eq_false_iff_eq.mpr c31
     clear c31
     obtain rfl := Option.some.inj H
     go_enter Tryz.func4, Tryz.ntmps4
     go_wp2_with (first | ((with_reducible refine gate_callee (f := 16) rfl ?_); refine goesL_ (some 8) rfl rfl Tryz.func16 (by kernel_rfl) rfl #[] rfl fq ?_; (with_reducible refine (sane_t.calls  true _ A2.out gwx).mono ?_); rintro e w32 ⟨rfl, hb⟩; refine ⟨_, rfl, ?_⟩; have n0_ := Aside0.mk (below_step blw hb); clear HB; have HB := n0_; clear n0_; (try clear hb); (try clear hb2); (try clear hk); (try clear hi)) | ((with_reducible refine gate_callee (f := 20) rfl ?_); refine goesL_ (some 11) rfl rfl Tryz.func20 (by kernel_rfl) rfl #[.string a0] rfl fq ?_; (with_reducible refine (lex_Number.calls a0 t221 t222 t223 _ A3.out gwx).mono ?_); rintro e w33 ⟨rfl, hb⟩; refine ⟨_, rfl, ?_⟩; have n0_ := Aside0.mk (below_step blw hb); clear HB; have HB := n0_; clear n0_; (try clear hb); (try clear hb2); (try clear hk); (try clear hi)) | ((with_reducible refine gate_callee (f := 21) rfl ?_); refine goesL_ (some 16) rfl rfl Tryz.func21 (by kernel_rfl) rfl #[.string a0] rfl fq ?_; (with_reducible refine (taplineref11_Number.calls k a0 t224 t225 false _ A4.out).mono ?_); rintro e w34 ⟨rfl, hb⟩; refine ⟨_, rfl, ?_⟩; have n0_ := Aside0.mk (below_step blw hb); clear HB; have HB := n0_; clear n0_; (try clear hb); (try clear hb2); (try clear hk); (try clear hi)) | ((with_reducible refine gate_dst (N := 7) rfl ?_); refine box_event ?hg (N := 7) ?hd (cs := #[.int .i64 0, .bool false, .bool false]) (t := 35) ?hr ?_; (case hd => rfl); (case hg => rfl); (case hr => first | (go_simp; done) | (go_simp; rfl)); intro gb227 hg w35 hbox hb; have n0_ := Aside0.mk (below_step blw hb); have n1_ := Aside0.mk (hbox); have n2_ := Aside0.mk ((by rw [hg]; exact (below_size blw) : w.heap.size ≤ gb227)); have n3_ := Aside0.mk ((by rw [hg]; exact (below_size blw) : w.heap.size ≤ gb227)); clear HB; have HB := n0_; have BK227 := n1_; have GW227 := n2_; have GE227 := n3_; clear n0_ n1_ n2_ n3_; clear hb hbox hg; have hcz36_0 : w35.cell? ⟨gb227, 0, none⟩ = some (.int .i64 0) := (blk_cell BK227.out 0).trans rfl; have hcz36_1 : w35.cell? ⟨gb227, 1, none⟩ = some (.bool false) := (blk_cell BK227.out 1).trans rfl; have hcz36_2 : w35.cell? ⟨gb227, 2, none⟩ = some (.bool false) := (blk_cell BK227.out 2).trans rfl; have hfz36_0 := blk_frozen BK227.out 0; have hfz36_1 := blk_frozen BK227.out 1; have hfz36_2 := blk_frozen BK227.out 2))
     go_ret
     exact ⟨rew, blw⟩
    ·rw [if_neg c31] at H
     have c31b0 : (t221 == 0) = false := beq_eq_false_iff_ne.mpr c31
     have c31b1 : (t221 != 0) = true := bne_iff_ne.mpr c31
     obtain rfl := Option.some.inj H
     go_enter Tryz.func4, Tryz.ntmps4
     go_wp2_with (first | ((with_reducible refine gate_callee (f := 16) rfl ?_); refine goesL_ (some 8) rfl rfl Tryz.func16 (by kernel_rfl) rfl #[] rfl fq ?_; (with_reducible refine (sane_t.calls  true _ A2.out gwx).mono ?_); rintro e w37 ⟨rfl, hb⟩; refine ⟨_, rfl, ?_⟩; have n0_ := Aside0.mk (below_step blw hb); clear HB; have HB := n0_; clear n0_; (try clear hb); (try clear hb2); (try clear hk); (try clear hi)) | ((with_reducible refine gate_callee (f := 20) rfl ?_); refine goesL_ (some 11) rfl rfl Tryz.func20 (by kernel_rfl) rfl #[.string a0] rfl fq ?_; (with_reducible refine (lex_Number.calls a0 t221 t222 t223 _ A3.out gwx).mono ?_); rintro e w38 ⟨rfl, hb⟩; refine ⟨_, rfl, ?_⟩; have n0_ := Aside0.mk (below_step blw hb); clear HB; have HB := n0_; clear n0_; (try clear hb); (try clear hb2); (try clear hk); (try clear hi)) | ((with_reducible refine gate_callee (f := 21) rfl ?_); refine goesL_ (some 16) rfl rfl Tryz.func21 (by kernel_rfl) rfl #[.string a0] rfl fq ?_; (with_reducible refine (taplineref11_Number.calls k a0 t224 t225 false _ A4.out).mono ?_); rintro e w39 ⟨rfl, hb⟩; refine ⟨_, rfl, ?_⟩; have n0_ := Aside0.mk (below_step blw hb); clear HB; have HB := n0_; clear n0_; (try clear hb); (try clear hb2); (try clear hk); (try clear hi)) | ((with_reducible refine gate_dst (N := 7) rfl ?_); refine box_event ?hg (N := 7) ?hd (cs := #[.int .i64 0, .bool false, .bool false]) (t := 35) ?hr ?_; (case hd => rfl); (case hg => rfl); (case hr => first | (go_simp; done) | (go_simp; rfl)); intro gb227 hg w40 hbox hb; have n0_ := Aside0.mk (below_step blw hb); have n1_ := Aside0.mk (hbox); have n2_ := Aside0.mk ((by rw [hg]; exact (below_size blw) : w.heap.size ≤ gb227)); have n3_ := Aside0.mk ((by rw [hg]; exact (below_size blw) : w.heap.size ≤ gb227)); clear HB; have HB := n0_; have BK227 := n1_; have GW227 := n2_; have GE227 := n3_; clear n0_ n1_ n2_ n3_; clear hb hbox hg; have hcz41_0 : w40.cell? ⟨gb227, 0, none⟩ = some (.int .i64 0) := (blk_cell BK227.out 0).trans rfl; have hcz41_1 : w40.cell? ⟨gb227, 1, none⟩ = some (.bool false) := (blk_cell BK227.out 1).trans rfl; have hcz41_2 : w40.cell? ⟨gb227, 2, none⟩ = some (.bool false) := (blk_cell BK227.out 2).trans rfl; have hfz41_0 := blk_frozen BK227.out 0; have hfz41_1 := blk_frozen BK227.out 1; have hfz41_2 := blk_frozen BK227.out 2))
     go_ret
     exact ⟨rew, blw⟩
   ·rw [if_neg c30] at H
    have c30b0 : (t223 == 114) = false := beq_eq_false_iff_ne.mpr c30
    have c30b1 : (t223 != 114) = true := bne_iff_ne.mpr c30
    obtain rfl := Option.some.inj H
    go_enter Tryz.func4, Tryz.ntmps4
    go_wp2_with (first | ((with_reducible refine gate_callee (f := 16) rfl ?_); refine goesL_ (some 8) rfl rfl Tryz.func16 (by kernel_rfl) rfl #[] rfl fq ?_; (with_reducible refine (sane_t.calls  true _ A2.out gwx).mono ?_); rintro e w42 ⟨rfl, hb⟩; refine ⟨_, rfl, ?_⟩; have n0_ := Aside0.mk (below_step blw hb); clear HB; have HB := n0_; clear n0_; (try clear hb); (try clear hb2); (try clear hk); (try clear hi)) | ((with_reducible refine gate_callee (f := 20) rfl ?_); refine goesL_ (some 11) rfl rfl Tryz.func20 (by kernel_rfl) rfl #[.string a0] rfl fq ?_; (with_reducible refine (lex_Number.calls a0 t221 t222 t223 _ A3.out gwx).mono ?_); rintro e w43 ⟨rfl, hb⟩; refine ⟨_, rfl, ?_⟩; have n0_ := Aside0.mk (below_step blw hb); clear HB; have HB := n0_; clear n0_; (try clear hb); (try clear hb2); (try clear hk); (try clear hi)) | ((with_reducible refine gate_callee (f := 21) rfl ?_); refine goesL_ (some 16) rfl rfl Tryz.func21 (by kernel_rfl) rfl #[.string a0] rfl fq ?_; (with_reducible refine (taplineref11_Number.calls k a0 t224 t225 false _ A4.out).mono ?_); rintro e w44 ⟨rfl, hb⟩; refine ⟨_, rfl, ?_⟩; have n0_ := Aside0.mk (below_step blw hb); clear HB; have HB := n0_; clear n0_; (try clear hb); (try clear hb2); (try clear hk); (try clear hi)) | ((with_reducible refine gate_dst (N := 7) rfl ?_); refine box_event ?hg (N := 7) ?hd (cs := #[.int .i64 0, .bool false, .bool false]) (t := 35) ?hr ?_; (case hd => rfl); (case hg => rfl); (case hr => first | (go_simp; done) | (go_simp; rfl)); intro gb227 hg w45 hbox hb; have n0_ := Aside0.mk (below_step blw hb); have n1_ := Aside0.mk (hbox); have n2_ := Aside0.mk ((by rw [hg]; exact (below_size blw) : w.heap.size ≤ gb227)); have n3_ := Aside0.mk ((by rw [hg]; exact (below_size blw) : w.heap.size ≤ gb227)); clear HB; have HB := n0_; have BK227 := n1_; have GW227 := n2_; have GE227 := n3_; clear n0_ n1_ n2_ n3_; clear hb hbox hg; have hcz46_0 : w45.cell? ⟨gb227, 0, none⟩ = some (.int .i64 0) := (blk_cell BK227.out 0).trans rfl; have hcz46_1 : w45.cell? ⟨gb227, 1, none⟩ = some (.bool false) := (blk_cell BK227.out 1).trans rfl; have hcz46_2 : w45.cell? ⟨gb227, 2, none⟩ = some (.bool false) := (blk_cell BK227.out 2).trans rfl; have hfz46_0 := blk_frozen BK227.out 0; have hfz46_1 := blk_frozen BK227.out 1; have hfz46_2 := blk_frozen BK227.out 2))
    go_ret
    exact ⟨rew, blw⟩
  ·replace c29 := Bool.eq_false_iff.mpr c29
   subst c29
   have H1 : (some false) = some r := by rw [if_neg (show ¬ (false = true) by decide)] at H; exact H
   clear H
   have H := H1
   clear H1
   obtain rfl := Option.some.inj H
   go_enter Tryz.func4, Tryz.ntmps4
   go_wp2_with (first | ((with_reducible refine gate_callee (f := 16) rfl ?_); refine goesL_ (some 8) rfl rfl Tryz.func16 (by kernel_rfl) rfl #[] rfl fq ?_; (with_reducible refine (sane_t.calls  false _ A2.out gwx).mono ?_); rintro e w47 ⟨rfl, hb⟩; refine ⟨_, rfl, ?_⟩; have n0_ := Aside0.mk (below_step blw hb); clear HB; have HB := n0_; clear n0_; (try clear hb); (try clear hb2); (try clear hk); (try clear hi)) | ((with_reducible refine gate_callee (f := 20) rfl ?_); refine goesL_ (some 11) rfl rfl Tryz.func20 (by kernel_rfl) rfl #[.string a0] rfl fq ?_; (with_reducible refine (lex_Number.calls a0 t221 t222 t223 _ A3.out gwx).mono ?_); rintro e w48 ⟨rfl, hb⟩; refine ⟨_, rfl, ?_⟩; have n0_ := Aside0.mk (below_step blw hb); clear HB; have HB := n0_; clear n0_; (try clear hb); (try clear hb2); (try clear hk); (try clear hi)) | ((with_reducible refine gate_callee (f := 21) rfl ?_); refine goesL_ (some 16) rfl rfl Tryz.func21 (by kernel_rfl) rfl #[.string a0] rfl fq ?_; (with_reducible refine (taplineref11_Number.calls k a0 t224 t225 false _ A4.out).mono ?_); rintro e w49 ⟨rfl, hb⟩; refine ⟨_, rfl, ?_⟩; have n0_ := Aside0.mk (below_step blw hb); clear HB; have HB := n0_; clear n0_; (try clear hb); (try clear hb2); (try clear hk); (try clear hi)) | ((with_reducible refine gate_dst (N := 7) rfl ?_); refine box_event ?hg (N := 7) ?hd (cs := #[.int .i64 0, .bool false, .bool false]) (t := 35) ?hr ?_; (case hd => rfl); (case hg => rfl); (case hr => first | (go_simp; done) | (go_simp; rfl)); intro gb227 hg w50 hbox hb; have n0_ := Aside0.mk (below_step blw hb); have n1_ := Aside0.mk (hbox); have n2_ := Aside0.mk ((by rw [hg]; exact (below_size blw) : w.heap.size ≤ gb227)); have n3_ := Aside0.mk ((by rw [hg]; exact (below_size blw) : w.heap.size ≤ gb227)); clear HB; have HB := n0_; have BK227 := n1_; have GW227 := n2_; have GE227 := n3_; clear n0_ n1_ n2_ n3_; clear hb hbox hg; have hcz51_0 : w50.cell? ⟨gb227, 0, none⟩ = some (.int .i64 0) := (blk_cell BK227.out 0).trans rfl; have hcz51_1 : w50.cell? ⟨gb227, 1, none⟩ = some (.bool false) := (blk_cell BK227.out 1).trans rfl; have hcz51_2 : w50.cell? ⟨gb227, 2, none⟩ = some (.bool false) := (blk_cell BK227.out 2).trans rfl; have hfz51_0 := blk_frozen BK227.out 0; have hfz51_1 := blk_frozen BK227.out 1; have hfz51_2 := blk_frozen BK227.out 2))
   go_ret
   exact ⟨rew, blw⟩
def taplinelaw11_LexNumbers.Pure : Prop := ∀ (a0 : ByteArray), a0.size ≤ 140737488351232 → ∃ k, taplinelaw11_LexNumbers.f k a0 = some true
theorem taplinelaw11_LexNumbers.walk (P : taplinelaw11_LexNumbers.Pure) (a0 : ByteArray) (w : World) (w0 : a0.size ≤ 140737488351232) (hgw : GW w) :
  Calls Tryz.prog 4 #[.string a0] w fun e w' => e = .returned (.bool true) ∧ Below w.heap.size w w' := by
 obtain ⟨k, h⟩ := P a0 w0
 refine (taplinelaw11_LexNumbers.calls k a0 true w h gwx).mono ?_
 rintro e w' ⟨rfl, hd⟩
 exact ⟨rfl, hd⟩
end Go.Proofs.YtadgddipkbdnbaaGreatDoor.Q
set_option linter.unusedVariables false
set_option linter.unusedSimpArgs false
namespace Go.Proofs.YtadgddipkbdnbaaGreatDoor.Q
open Go.RowKit Go.Proofs.YtadgddipkbdnbaaGreatDoor YtadgddipkbdnbaaGreatDoorW.PrintWords YtadgddipkbdnbaaGreatDoorW.PrintLast
theorem refKind_ev (t : ByteArray) : Ev (fun k => taplineref11_Kind.f k t) (Lx.kindM t.data.toList) := by
 unfold taplineref11_Kind.f
 refine ev_bind (refScan_ev t) ⟨0, fun k _ => ?_⟩
 exact kind_tail t
def numM (t : List UInt8) : Int × Bool × Bool :=
 if Lx.kindM t = 3 then (if t.head? = some 39 then (match Lx.char t.tail with | some (v, _) => ((v.toNat : Int), false, true) | none => bad3) else intR (Lx.integer t)) else bad3
theorem one3 {t : List UInt8} (h : Lx.kindM t = 3) : ∃ c u, t = c :: u ∧ t.length ≤ 20000 ∧ ((c ≠ 39 ∧ (Lx.integer t).isSome) ∨ (c = 39 ∧ ∃ v k, Lx.char u = some (v, k) ∧ u.head? ≠ some 39 ∧ (u.drop k).head? = some 39)) := by
 obtain ⟨hl, ho, -, hne⟩ := Lx.kindM_one (t := t) (by rw [h]; decide)
 rw [h] at ho
 cases t with
 | nil => exact absurd rfl hne
 | cons c u =>
  refine ⟨c, u, rfl, hl, ?_⟩
  rw [Lx.one] at ho
  simp only [Bool.false_and, Bool.false_eq_true, if_false] at ho
  split at ho
  ·split at ho
   ·cases ho
   ·obtain ⟨h1, -⟩ := Prod.mk.inj (Except.ok.inj ho)
    split at h1 <;> cases h1
  ·split at ho
   ·rename_i hd
    split at ho
    ·cases ho
    ·rename_i hs
     simp only [Except.ok.injEq, Prod.mk.injEq, true_and] at ho
     left
     rw [ho, List.take_length] at hs
     refine ⟨fun hc => by rw [hc] at hd; revert hd; decide, by simpa [Option.isSome_iff_ne_none] using hs⟩
   ·split at ho
    ·rename_i h39
     right
     refine ⟨h39, ?_⟩
     cases hc : Lx.char u with
     | none => rw [hc] at ho; cases ho
     | some p =>
      obtain ⟨v, k⟩ := p
      rw [hc] at ho
      simp only at ho
      split at ho
      ·cases ho
      ·rename_i hq
       exact ⟨v, k, rfl, fun x => hq (.inl x), Decidable.not_not.1 fun x => hq (.inr x)⟩
    ·split at ho
     ·split at ho
      ·cases ho
      ·simp only [Except.ok.injEq, Prod.mk.injEq] at ho; exact absurd ho.1 (by decide)
     ·split at ho
      ·cases ho
      ·simp only [Except.ok.injEq, Prod.mk.injEq] at ho; exact absurd ho.1 (by decide)
theorem wrap_u8 (v : UInt8) : wrap64 (v.toNat : Int) = (v.toNat : Int) := wrap_nat (by omega) (by have := v.toNat_lt; omega)
theorem number_f (t : ByteArray) : lex_Number.f t = some ((numM t.data.toList).1, (numM t.data.toList).2.1, if (numM t.data.toList).2.2 then 0 else 114) := by
 unfold lex_Number.f numM
 rw [kind_f]
 simp only [Option.bind_some]
 by_cases h3 : Lx.kindM t.data.toList = 3
 ·rw [if_pos h3, if_pos h3]
  obtain ⟨c, u, ht, hl, hc⟩ := one3 h3
  have hsz : t.data.toList.length = t.size := sl t
  have hpos : 0 < t.size := by rw [← hsz, ht]; simp
  have h0 : t[0] = c := by
   have : t.data.toList[0]? = some c := by rw [ht]; rfl
   rw [List.getElem?_eq_getElem (by omega)] at this
   exact Option.some.inj this
  have hb : bt t 0 = (c.toNat : Int) := by
   have := bt_nat t 0 hpos
   rw [h0] at this
   exact this
  rw [if_pos (by omega), hb]
  rcases hc with ⟨hn, hi⟩ | ⟨hq, v, k, hch, hh, -⟩
  ·rw [if_neg (by intro x; exact hn (u8_int (d := 39).1 x)), if_neg (by rw [ht]; simpa using hn)]
   unfold lex_integer.f
   rw [if_pos (by omega)]
   cases hint : Lx.integer t.data.toList with
   | none => rw [hint] at hi; cases hi
   | some p => rfl
  ·rw [if_pos (by rw [hq]; rfl), if_pos (by rw [ht, hq]; rfl)]
   unfold lex_character.f
   rw [if_pos (by omega)]
   have e : t.data.toList.drop (1 : Int).toNat = u := by rw [ht]; rfl
   have e2 : t.data.toList.tail = u := by rw [ht]; rfl
   rw [e, e2, hch]
   simp only [Option.map_some, Option.bind_some]
   rw [wrap_u8]
   rfl
 ·rw [if_neg h3, if_neg h3]
  rfl
theorem refNumber_ev (t : ByteArray) : Ev (fun k => taplineref11_Number.f k t) (numM t.data.toList) := by
 unfold taplineref11_Number.f numM
 refine ev_bind (refKind_ev t) ?_
 by_cases h3 : Lx.kindM t.data.toList = 3
 ·rw [if_pos h3]
  simp only [if_pos h3]
  obtain ⟨c, u, ht, hl, hc⟩ := one3 h3
  have hsz : t.data.toList.length = t.size := sl t
  have hpos : 0 < t.size := by rw [← hsz, ht]; simp
  have h0 : t[0] = c := by
   have : t.data.toList[0]? = some c := by rw [ht]; rfl
   rw [List.getElem?_eq_getElem (by omega)] at this
   exact Option.some.inj this
  have hb : bt t 0 = (c.toNat : Int) := by
   have := bt_nat t 0 hpos
   rw [h0] at this
   exact this
  refine ev_if_pos (by omega) ?_
  rw [hb]
  rcases hc with ⟨hn, hi⟩ | ⟨hq, v, k, hch, hh, hd⟩
  ·refine ev_if_neg (by intro x; exact hn (u8_int (d := 39).1 x)) ?_
   rw [if_neg (by rw [ht]; simpa using hn)]
   refine ev_bind (integer_ev t (by omega)) ⟨0, fun k _ => rfl⟩
  ·refine ev_if_pos (by rw [hq]; rfl) ?_
   rw [if_pos (by rw [ht, hq]; rfl)]
   have e2 : t.data.toList.tail = u := by rw [ht]; rfl
   rw [e2, hch]
   simp only
   have hqu : Ev (fun k => taplineref11_quoted.f k t 0) (quR 39 [] 1 (strQ 39 (u.length + 1) u)) := by
    obtain ⟨K, hK⟩ := quoted_l0 t (by omega) 0 39 (t.size - 1) 1 [] (by omega) (by omega) rfl (by simp)
    refine ⟨K, fun k hk => ?_⟩
    have h : taplineref11_quoted.l0 k t 0 39 (strS []) 1 = _ := hK k hk
    have e3 : t.data.toList.drop 1 = u := by rw [ht]; rfl
    have e4 : t.size - 1 = u.length := by rw [← hsz, ht]; rfl
    rw [e3, e4] at h
    simp only [taplineref11_quoted.f]
    rw [if_pos (by omega), if_pos (by omega), hb, hq]
    rw [show wrap64 (0 + 1) = 1 from wrap_nat (by omega) (by omega)]
    exact h
   have hval : quR 39 [] 1 (strQ 39 (u.length + 1) u) = (((k + 2 : Nat) : Int), strS [v]) := by
    cases u with
    | nil => cases hch
    | cons d w =>
     have hd39 : d ≠ 39 := by intro x; rw [x] at hh; exact hh rfl
     rw [strQ, if_neg hd39, hch]
     simp only
     cases hdr : (d :: w).drop k with
     | nil => rw [hdr] at hd; cases hd
     | cons y z =>
      rw [hdr] at hd
      have hy : y = 39 := by simpa using hd
      rw [show (d :: w).length = w.length + 1 from rfl, strQ, if_pos hy]
      have e5 : 1 + (k + 1) = k + 2 := by omega
      rw [← e5]
      rfl
   rw [hval] at hqu
   refine ev_bind hqu ⟨0, fun _ _ => ?_⟩
   rw [if_pos (by exact Int.zero_lt_one)]
   have e6 : bt (strS [v]) 0 = (v.toNat : Int) := bt_nat (strS [v]) 0 Nat.zero_lt_one
   rw [e6, wrap_u8]
 ·rw [if_neg h3]
  simp only [if_neg h3]
  exact ⟨0, fun k _ => rfl⟩
theorem numM_bad (t : List UInt8) (h : (numM t).2.2 = false) : numM t = bad3 := by
 unfold numM at h ⊢
 split
 ·rename_i h3
  rw [if_pos h3] at h
  split
  ·rename_i h4
   rw [if_pos h4] at h
   split
   ·rename_i h5; rw [h5] at h; cases h
   ·rfl
  ·rename_i h4
   rw [if_neg h4] at h
   cases hi : Lx.integer t with
   | none => rfl
   | some p => rw [hi] at h; cases h
 ·rfl
theorem LexNumbers_pure : taplinelaw11_LexNumbers.Pure := by
 intro s hs
 refine Ev.rounds (g := fun k => taplinelaw11_LexNumbers.f k s) ?_
 obtain ⟨K2, h2⟩ := refNumber_ev s
 refine ⟨K2, fun k hk => ?_⟩
 have e2 : taplineref11_Number.f k s = _ := h2 k (by omega)
 simp only [taplinelaw11_LexNumbers.f]
 simp only [sane_t.f, Option.bind_some]
 rw [e2, number_f]
 simp only [Option.bind_some, if_true]
 cases hok : (numM s.data.toList).2.2 with
 | true => simp
 | false => rw [numM_bad _ hok]; rfl
end Go.Proofs.YtadgddipkbdnbaaGreatDoor.Q
set_option linter.unusedVariables false
set_option linter.unusedSimpArgs false
namespace Go.Proofs.YtadgddipkbdnbaaGreatDoor.lexNumbers
open Go.ChangeShapes Go.WideShapes Go.ChangeAt Go.RowKit
open Go.ChangeMaps (open_string shut_string)
set_option maxRecDepth 100000 in
theorem lifted (os : Os) (started : os.Started) (H : Type) (enc : TypeId × Value → H) :
  ReturnsInHanded {} Tryz.checked os 4 .any (fun w args => (Rows.lexNumbersSpec.pre enc Tryz.prog Tryz.f4 [] false w args ∧ laidMetH Tryz.prog lexLaid w) ∧ sizedMet enc Tryz.prog Tryz.f4 (OpenSpec.ofChange Rows.lexNumbersSpec) false w args)
   (Rows.lexNumbersSpec.post enc Tryz.prog Tryz.f4 false true false false) := by
 refine handed_and_shaped (C := Tryz.checked) (X := fun w _ => laidMetH Tryz.prog lexLaid w) (fun _ _ _ hh h => h.of_heap hh) own started (by kernel_rfl) Tryz.func4
  (ChangeSpec.witness_shaped (enc := enc) (C := Tryz.checked) (os := os) (X := fun w _ => laidMetH Tryz.prog lexLaid w) false (World.doorLaid Tryz.prog 400 os) #[.string ByteArray.empty] 8 rfl (World.shaped_of_RefB (by kernel_rfl) (by kernel_rfl)) (by kernel_rfl) (by kernel_rfl) (by kernel_rfl) (door_met os _)) ?_
 intro W base args ds gs before hval0 hW hcnd hsz0 hL hsh _
 have hgw := of_laid hL hsh
 clear hL hsh
 have hsz : (DataW.weightsEach Tryz.prog (Tryz.f4.params.toList ++ Rows.lexNumbersSpec.plain.varTypes Tryz.prog) (ds ++ gs)).all (· ≤ reachBytes) = true := hsz0
 have hval : ∀ (j : Nat) t v, Tryz.f4.params[j]? = some t → args[j]? = some v → Value.okWide Tryz.prog W .any base t v := hval0
 have hW' := hW
 obtain ⟨p, q, hA0, hV, rfl, hfz, hnd⟩ := hW
 have hA : DataW.TrodAll enc Tryz.prog W 0 (fun _ => true) true Tryz.f4.params.toList args.toList ds p := hA0
 rw [Tryz.params4] at hA hval hsz
 obtain ⟨v0, vs0, d0, ds0, p0, q0, hargs, rfl, rfl, h0, r0⟩ := trodAll_cons hA
 obtain ⟨rfl, rfl, rfl⟩ := trodAll_nil r0
 obtain rfl : args = #[v0] := by cases args; simp_all
 obtain ⟨rfl, rfl⟩ := trodVars_none hV
 obtain ⟨a0, rfl, rfl, rfl, y0⟩ := open_string Tryz.underlying9 (hval 0 9 v0 rfl rfl) h0
 have w0 : a0.size ≤ 140737488351232 := by
  have z := sized_string hsz (j := 0) (t := 9) rfl rfl
  rw [Array.length_toList] at z
  exact z
 clear hA0 hval0 hsz0 hsz
 refine (Q.taplinelaw11_LexNumbers.walk Q.LexNumbers_pure a0 W w0 hgw).mono fun e W' ⟨he, bel⟩ => ?_
 subst he
 exact ⟨_, rfl, _, _, _, [], _, [], hW', trodAll_mk1 (shut_bool Tryz.underlying4 _), (trodAll_cons_mk (shut_string Tryz.underlying9 y0) trodAll_mk0), rfl, bel.frame _, fun h => by cases h⟩
theorem over : Rows.LexNumbersSaid :=
 OpenClaim.holds_of_wide 4 Tryz.f4 rfl rfl rfl rfl rfl rfl rfl ⟨rfl, rfl, rfl, rfl, rfl⟩ rfl rfl rfl rfl rfl (by kernel_rfl) Tryz.func4 (by kernel_rfl)
  (of_decide_eq_true (by kernel_rfl)) (by unfold Func.isWrapper; first | (rw [if_pos (by decide +kernel)]; kernel_rfl) | (rw [if_neg (by decide +kernel)]; exact ⟨rfl, rfl⟩))
  (fun os started H enc _ => lifted os started H enc)
end Go.Proofs.YtadgddipkbdnbaaGreatDoor.lexNumbers
namespace Go.Proofs.YtadgddipkbdnbaaGreatDoor
theorem lexNumbers_card : Rows.LexNumbersCardSaid :=
 Claim7.holds_tied_plain_at .later [] [.data, .data, .data, .sentinel, .sentinel, .listed, .data, .data] true (true, "85ed3a9bdcdf405d5b0a35b2759147de3913577c107b7173cad54d4ee995d561") true
  lexNumbers.over (fun _ h => by cases h) (by kernel_rfl) (fun _ h => by cases h) lexNumbers_row_tie rfl ⟨rfl, rfl⟩ (by kernel_rfl) rfl
  (fun f fn hf hfn => by
   obtain rfl : f = 4 := Option.some.inj ((show Tryz.prog.funcNamed "tapline/taplinelaw11.LexNumbers" = some 4 by kernel_rfl).symm.trans hf) |>.symm
   obtain rfl : fn = Tryz.f4 := (Option.some.inj (Tryz.func4.symm.trans hfn)).symm
   exact ⟨by kernel_rfl, fun j t ht => by
    rw [Tryz.params4] at ht
    have hm : t ∈ [9] := by simpa using Array.mem_of_getElem? ht
    have hall : ([9].all fun u => !Tryz.prog.wantsStandIn u) = true := by kernel_rfl
    exact (show Tryz.prog.wantsStandIn t = false by simpa using List.all_eq_true.1 hall t hm)⟩)
  (by kernel_rfl)
#print axioms lexNumbers_card
end Go.Proofs.YtadgddipkbdnbaaGreatDoor
