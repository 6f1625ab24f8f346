/- For every string, Quote and Unquote of the program return what the specification's return; the inputs read as they did; the package-level variables hold what the program's text lays in them: the tied card. -/
import Derived.Test.YtadgddipkbdnbaaGreatDoorLexP1
import Derived.Test.YtadgddipkbdnbaaGreatDoorLexP2
import Derived.Test.YtadgddipkbdnbaaGreatDoorLexP3
import Derived.Test.YtadgddipkbdnbaaGreatDoorLexP4
import Derived.Test.YtadgddipkbdnbaaGreatDoorLexP7
import Derived.Test.YtadgddipkbdnbaaGreatDoorLexP8
import Derived.Test.YtadgddipkbdnbaaGreatDoorLexP13
import Derived.Test.YtadgddipkbdnbaaGreatDoorLexP14
import Derived.Test.YtadgddipkbdnbaaGreatDoorLexP15
import Derived.Test.YtadgddipkbdnbaaGreatDoorLexR3
import Derived.Test.YtadgddipkbdnbaaGreatDoorLexR8
import Derived.Test.YtadgddipkbdnbaaGreatDoorLexR9
import Derived.Test.YtadgddipkbdnbaaGreatDoorLexQuotesZ1
import Derived.Test.YtadgddipkbdnbaaGreatDoorLexQuotesZ2
import Derived.Test.YtadgddipkbdnbaaGreatDoorLexQuotesZ3
import Derived.Test.YtadgddipkbdnbaaGreatDoorTie
import Derived.Test.YtadgddipkbdnbaaGreatDoorCards
import Derived.WalkKit
import Derived.ProofKit
import Derived.OpenShut
import Derived.ShutString
import Derived.ChangeOld
import Derived.Below
import Derived.SizedLaws
import Derived.SevenTiedAt
namespace Go.Proofs.YtadgddipkbdnbaaGreatDoor.Q
open Go.Proofs.YtadgddipkbdnbaaGreatDoor Go.RowKit Go.Proofs.YtadgddipkbdnbaaGreatDoorW.PrintWords Go.Proofs.YtadgddipkbdnbaaGreatDoorW.PrintLast Go.Proofs.YtadgddipkbdnbaaGreatDoorW.PrintMore
attribute [local go_sem] max2_int min2_int max_two min_two max_three min_three max_four min_four   
set_option linter.unusedVariables false
set_option linter.unusedSimpArgs false
def taplinelaw11_LexQuotes.f (k : Nat) (a0 : ByteArray) : Option (Bool) := (sane_t.f).bind fun t389 => ((lex_Quote.f a0).bind fun bt390 => ((taplineref11_Quote.f k a0).bind fun bt392 => ((lex_Unquote.f k a0).bind fun bt395 => ((taplineref11_Unquote.f k a0).bind fun bt397 => (if t389 = true then (if bt390.1.toList = bt392.1.toList then (if bt390.2 = bt392.2 then (if bt395.1.toList = bt397.1.toList then (some (bt395.2 == bt397.2)) else (some false)) else (some false)) else (some false)) else (some false))))))
theorem taplinelaw11_LexQuotes.mono : ∀ a0 k, LeO (taplinelaw11_LexQuotes.f k a0) (taplinelaw11_LexQuotes.f (k + 1) a0) := by
 intro a0 k
 unfold taplinelaw11_LexQuotes.f
 repeat' first
   | (with_reducible exact lex_Unquote.mono _ _)
   | (with_reducible exact taplineref11_Quote.mono _ _)
   | (with_reducible exact taplineref11_Unquote.mono _ _)
   | (with_reducible exact LeO.refl _)
   | (with_reducible exact LeO.none _)
   | (with_reducible refine LeO.ite ?_ ?_)
   | (with_reducible refine LeO.bind ?_ (fun _ => ?_))
   | exact LeO.none _
   | refine LeO.ite ?_ ?_
   | refine LeO.bind ?_ (fun _ => ?_)
set_option maxHeartbeats 8000000 in
set_option maxRecDepth 100000 in
theorem taplinelaw11_LexQuotes.calls (k : Nat) (a0 : ByteArray) (r : Bool) (w : World) (h : taplinelaw11_LexQuotes.f k a0 = some r) (hgw : GW w) :
  Calls Tryz.prog 12 #[.string a0] w fun e w' => e = .returned (.bool r) ∧ Below w.heap.size w w' := by
 have hu55 := Tryz.underlying55
 have HB := Aside0.mk (Below.refl w.heap.size w)
 have H : ((sane_t.f).bind fun t389 => ((lex_Quote.f a0).bind fun bt390 => ((taplineref11_Quote.f k a0).bind fun bt392 => ((lex_Unquote.f k a0).bind fun bt395 => ((taplineref11_Unquote.f k a0).bind fun bt397 => (if t389 = true then (if bt390.1.toList = bt392.1.toList then (if bt390.2 = bt392.2 then (if bt395.1.toList = bt397.1.toList then (some (bt395.2 == bt397.2)) else (some false)) else (some false)) else (some false)) else (some false))))))) = some r := h
 clear h
 replace H := Option.bind_eq_some_iff.mp H
 obtain ⟨t389, A20, H⟩ := H
 replace H : ((lex_Quote.f a0).bind fun bt390 => ((taplineref11_Quote.f k a0).bind fun bt392 => ((lex_Unquote.f k a0).bind fun bt395 => ((taplineref11_Unquote.f k a0).bind fun bt397 => (if t389 = true then (if bt390.1.toList = bt392.1.toList then (if bt390.2 = bt392.2 then (if bt395.1.toList = bt397.1.toList then (some (bt395.2 == bt397.2)) else (some false)) else (some false)) else (some false)) else (some false)))))) = some r := H
 have A2 := Aside0.mk A20
 clear A20
 replace H := Option.bind_eq_some_iff.mp H
 obtain ⟨⟨t390, t391⟩, A30, H⟩ := H
 replace H : ((taplineref11_Quote.f k a0).bind fun bt392 => ((lex_Unquote.f k a0).bind fun bt395 => ((taplineref11_Unquote.f k a0).bind fun bt397 => (if t389 = true then (if t390.toList = bt392.1.toList then (if t391 = bt392.2 then (if bt395.1.toList = bt397.1.toList then (some (bt395.2 == bt397.2)) else (some false)) else (some false)) else (some false)) else (some false))))) = some r := H
 have A3 := Aside0.mk A30
 clear A30
 replace H := Option.bind_eq_some_iff.mp H
 obtain ⟨⟨t392, t393⟩, A40, H⟩ := H
 replace H : ((lex_Unquote.f k a0).bind fun bt395 => ((taplineref11_Unquote.f k a0).bind fun bt397 => (if t389 = true then (if t390.toList = t392.toList then (if t391 = t393 then (if bt395.1.toList = bt397.1.toList then (some (bt395.2 == bt397.2)) else (some false)) else (some false)) else (some false)) else (some false)))) = some r := H
 have A4 := Aside0.mk A40
 clear A40
 replace H := Option.bind_eq_some_iff.mp H
 obtain ⟨⟨t395, t396⟩, A50, H⟩ := H
 replace H : ((taplineref11_Unquote.f k a0).bind fun bt397 => (if t389 = true then (if t390.toList = t392.toList then (if t391 = t393 then (if t395.toList = bt397.1.toList then (some (t396 == bt397.2)) else (some false)) else (some false)) else (some false)) else (some false))) = some r := H
 have A5 := Aside0.mk A50
 clear A50
 replace H := Option.bind_eq_some_iff.mp H
 obtain ⟨⟨t397, t398⟩, A60, H⟩ := H
 replace H : (if t389 = true then (if t390.toList = t392.toList then (if t391 = t393 then (if t395.toList = t397.toList then (some (t396 == t398)) else (some false)) else (some false)) else (some false)) else (some false)) = some r := H
 have A6 := Aside0.mk A60
 clear A60
 by_cases c7 : t389 = true
 ·subst c7
  have H1 : (if t390.toList = t392.toList then (if t391 = t393 then (if t395.toList = t397.toList then (some (t396 == t398)) else (some false)) else (some false)) else (some false)) = some r := by rw [if_pos rfl] at H; exact H
  clear H
  have H := H1
  clear H1
  by_cases c8 : t390.toList = t392.toList
  ·rw [if_pos c8] at H
   have c8b0 : (t390.toList == t392.toList) = true := beq_iff_eq.mpr c8
   have c8b1 : (t390.toList != t392.toList) = false := bne_eq_false_iff_eq.mpr c8
   clear c8
   by_cases c9 : t391 = t393
   ·rw [if_pos c9] at H
    have c9b0 : (t391 == t393) = true := beq_iff_eq.mpr c9
    have c9b1 : (t391 != t393) = false := bne_eq_false_iff_eq.mpr c9
    clear c9
    by_cases c10 : t395.toList = t397.toList
    ·rw [if_pos c10] at H
     have c10b0 : (t395.toList == t397.toList) = true := beq_iff_eq.mpr c10
     have c10b1 : (t395.toList != t397.toList) = false := bne_eq_false_iff_eq.mpr c10
     clear c10
     obtain rfl := Option.some.inj H
     go_enter Tryz.func12, Tryz.ntmps12
     go_wp2_with (first | ((with_reducible refine gate_callee (f := 16) rfl ?_); refine goesL_ (some 10) rfl rfl Tryz.func16 (by kernel_rfl) rfl #[] rfl fq ?_; (with_reducible refine (sane_t.calls  true _ A2.out (by (first | exact hgw | exact hgw.below blw (Nat.le_refl _)))).mono ?_); rintro e w11 ⟨rfl, hb⟩; refine ⟨_, rfl, ?_⟩; have n0_ := Aside0.mk (below_step blw hb); clear HB; have HB := n0_; clear n0_; (try clear hb); (try clear hb2); (try clear hk); (try clear hi)) | ((with_reducible refine gate_callee (f := 31) rfl ?_); refine goesL_ (some 13) rfl rfl Tryz.func31 (by kernel_rfl) rfl #[.string a0] rfl fq ?_; (with_reducible refine (lex_Quote.calls a0 t390 t391 _ A3.out (by (first | exact hgw | exact hgw.below blw (Nat.le_refl _)))).mono ?_); rintro e w12 ⟨rfl, hb⟩; refine ⟨_, rfl, ?_⟩; have n0_ := Aside0.mk (below_step blw hb); clear HB; have HB := n0_; clear n0_; (try clear hb); (try clear hb2); (try clear hk); (try clear hi)) | ((with_reducible refine gate_callee (f := 32) rfl ?_); refine goesL_ (some 17) rfl rfl Tryz.func32 (by kernel_rfl) rfl #[.string a0] rfl fq ?_; (with_reducible refine (taplineref11_Quote.calls k a0 t392 t393 _ A4.out).mono ?_); rintro e w13 ⟨rfl, hb⟩; refine ⟨_, rfl, ?_⟩; have n0_ := Aside0.mk (below_step blw hb); clear HB; have HB := n0_; clear n0_; (try clear hb); (try clear hb2); (try clear hk); (try clear hi)) | ((with_reducible refine gate_dst (N := 6) rfl ?_); refine box_event ?hg (N := 6) ?hd (cs := #[.string (⟨#[]⟩ : ByteArray), .int .i64 0]) (t := 55) ?hr ?_; (case hd => rfl); (case hg => rfl); (case hr => first | (go_simp; done) | (go_simp; rfl)); intro gb394 hg w14 hbox hb; have n0_ := Aside0.mk (below_step blw hb); have n1_ := Aside0.mk (hbox); have n2_ := Aside0.mk ((by rw [hg]; exact (below_size blw) : w.heap.size ≤ gb394)); have n3_ := Aside0.mk ((by rw [hg]; exact (below_size blw) : w.heap.size ≤ gb394)); clear HB; have HB := n0_; have BK394 := n1_; have GW394 := n2_; have GE394 := n3_; clear n0_ n1_ n2_ n3_; clear hb hbox hg; have hcz15_0 : w14.cell? ⟨gb394, 0, none⟩ = some (.string (⟨#[]⟩ : ByteArray)) := (blk_cell BK394.out 0).trans rfl; have hcz15_1 : w14.cell? ⟨gb394, 1, none⟩ = some (.int .i64 0) := (blk_cell BK394.out 1).trans rfl; have hfz15_0 := blk_frozen BK394.out 0; have hfz15_1 := blk_frozen BK394.out 1) | ((with_reducible refine gate_callee (f := 33) rfl ?_); refine goesL_ (some 20) rfl rfl Tryz.func33 (by kernel_rfl) rfl #[.string a0] rfl fq ?_; (with_reducible refine (lex_Unquote.calls k a0 t395 t396 _ A5.out (by (first | exact hgw | exact hgw.below blw (Nat.le_refl _)))).mono ?_); rintro e w16 ⟨rfl, hb⟩; refine ⟨_, rfl, ?_⟩; have n0_ := Aside0.mk (blk_below (g := gb394) (o := .cells #[.string t392, .int .i64 t393] 55 (0, 0)) (by (with_reducible repeat (first | refine blk_drewN ?_ _ | refine blk_drew ?_ | refine blk_alloc ?_ _)); refine blk_put (cs := #[.string t392, .int .i64 0]) ?_ 1 _ rfl; (with_reducible repeat (first | refine blk_drewN ?_ _ | refine blk_drew ?_ | refine blk_alloc ?_ _)); refine blk_put (cs := #[.string (⟨#[]⟩ : ByteArray), .int .i64 0]) ?_ 0 _ rfl; (with_reducible repeat (first | refine blk_drewN ?_ _ | refine blk_drew ?_ | refine blk_alloc ?_ _)); exact BK394.out) hb); have n1_ := Aside0.mk (below_step blw hb); clear BK394; clear HB; have BK394 := n0_; have HB := n1_; clear n0_ n1_; (try clear hb); (try clear hb2); (try clear hk); (try clear hi)) | ((with_reducible refine gate_callee (f := 34) rfl ?_); refine goesL_ (some 24) rfl rfl Tryz.func34 (by kernel_rfl) rfl #[.string a0] rfl fq ?_; (with_reducible refine (taplineref11_Unquote.calls k a0 t397 t398 _ A6.out).mono ?_); rintro e w17 ⟨rfl, hb⟩; refine ⟨_, rfl, ?_⟩; have n0_ := Aside0.mk (blk_below (g := gb394) (o := .cells #[.string t392, .int .i64 t393] 55 (0, 0)) bko hb); have n1_ := Aside0.mk (below_step blw hb); clear BK394; clear HB; have BK394 := n0_; have HB := n1_; clear n0_ n1_; (try clear hb); (try clear hb2); (try clear hk); (try clear hi)) | ((with_reducible refine gate_dst (N := 9) rfl ?_); refine box_event ?hg (N := 9) ?hd (cs := #[.string (⟨#[]⟩ : ByteArray), .int .i64 0]) (t := 55) ?hr ?_; (case hd => rfl); (case hg => rfl); (case hr => first | (go_simp; done) | (go_simp; rfl)); intro gb399 hg w18 hbox hb; have n0_ := Aside0.mk (blk_below (g := gb394) (o := .cells #[.string t392, .int .i64 t393] 55 (0, 0)) bko hb); have n1_ := Aside0.mk (below_step blw hb); have n2_ := Aside0.mk (hbox); have n3_ := Aside0.mk ((by rw [hg]; exact (below_size blw) : w.heap.size ≤ gb399)); have n4_ := Aside0.mk ((by rw [hg]; exact (below_size blw) : w.heap.size ≤ gb399)); have n5_ := Aside0.mk ((by rw [hg]; exact Nat.ne_of_lt (blk_lt (g := gb394) (o := .cells #[.string t392, .int .i64 t393] 55 (0, 0)) bko) : gb394 ≠ gb399)); have n6_ := Aside0.mk ((by rw [hg]; exact Nat.ne_of_gt (blk_lt (g := gb394) (o := .cells #[.string t392, .int .i64 t393] 55 (0, 0)) bko) : gb399 ≠ gb394)); clear BK394; clear HB; have BK394 := n0_; have HB := n1_; have BK399 := n2_; have GW399 := n3_; have GE399 := n4_; have NB394_399 := n5_; have NB399_394 := n6_; clear n0_ n1_ n2_ n3_ n4_ n5_ n6_; clear hb hbox hg; have hnb19 := NB399_394.out; have hnc19 := NB394_399.out; have hcz20_0 : w18.cell? ⟨gb399, 0, none⟩ = some (.string (⟨#[]⟩ : ByteArray)) := (blk_cell BK399.out 0).trans rfl; have hcz20_1 : w18.cell? ⟨gb399, 1, none⟩ = some (.int .i64 0) := (blk_cell BK399.out 1).trans rfl; have hfz20_0 := blk_frozen BK399.out 0; have hfz20_1 := blk_frozen BK399.out 1; have hcz21_0 : w18.cell? ⟨gb394, 0, none⟩ = some (.string t392) := (blk_cell BK394.out 0).trans rfl; have hcz21_1 : w18.cell? ⟨gb394, 1, none⟩ = some (.int .i64 t393) := (blk_cell BK394.out 1).trans rfl; have hfz21_0 := blk_frozen BK394.out 0; have hfz21_1 := blk_frozen BK394.out 1))
     go_ret
     exact ⟨rew, blw⟩
    ·rw [if_neg c10] at H
     have c10b0 : (t395.toList == t397.toList) = false := beq_eq_false_iff_ne.mpr c10
     have c10b1 : (t395.toList != t397.toList) = true := bne_iff_ne.mpr c10
     obtain rfl := Option.some.inj H
     go_enter Tryz.func12, Tryz.ntmps12
     go_wp2_with (first | ((with_reducible refine gate_callee (f := 16) rfl ?_); refine goesL_ (some 10) rfl rfl Tryz.func16 (by kernel_rfl) rfl #[] rfl fq ?_; (with_reducible refine (sane_t.calls  true _ A2.out (by (first | exact hgw | exact hgw.below blw (Nat.le_refl _)))).mono ?_); rintro e w22 ⟨rfl, hb⟩; refine ⟨_, rfl, ?_⟩; have n0_ := Aside0.mk (below_step blw hb); clear HB; have HB := n0_; clear n0_; (try clear hb); (try clear hb2); (try clear hk); (try clear hi)) | ((with_reducible refine gate_callee (f := 31) rfl ?_); refine goesL_ (some 13) rfl rfl Tryz.func31 (by kernel_rfl) rfl #[.string a0] rfl fq ?_; (with_reducible refine (lex_Quote.calls a0 t390 t391 _ A3.out (by (first | exact hgw | exact hgw.below blw (Nat.le_refl _)))).mono ?_); rintro e w23 ⟨rfl, hb⟩; refine ⟨_, rfl, ?_⟩; have n0_ := Aside0.mk (below_step blw hb); clear HB; have HB := n0_; clear n0_; (try clear hb); (try clear hb2); (try clear hk); (try clear hi)) | ((with_reducible refine gate_callee (f := 32) rfl ?_); refine goesL_ (some 17) rfl rfl Tryz.func32 (by kernel_rfl) rfl #[.string a0] rfl fq ?_; (with_reducible refine (taplineref11_Quote.calls k a0 t392 t393 _ A4.out).mono ?_); rintro e w24 ⟨rfl, hb⟩; refine ⟨_, rfl, ?_⟩; have n0_ := Aside0.mk (below_step blw hb); clear HB; have HB := n0_; clear n0_; (try clear hb); (try clear hb2); (try clear hk); (try clear hi)) | ((with_reducible refine gate_dst (N := 6) rfl ?_); refine box_event ?hg (N := 6) ?hd (cs := #[.string (⟨#[]⟩ : ByteArray), .int .i64 0]) (t := 55) ?hr ?_; (case hd => rfl); (case hg => rfl); (case hr => first | (go_simp; done) | (go_simp; rfl)); intro gb394 hg w25 hbox hb; have n0_ := Aside0.mk (below_step blw hb); have n1_ := Aside0.mk (hbox); have n2_ := Aside0.mk ((by rw [hg]; exact (below_size blw) : w.heap.size ≤ gb394)); have n3_ := Aside0.mk ((by rw [hg]; exact (below_size blw) : w.heap.size ≤ gb394)); clear HB; have HB := n0_; have BK394 := n1_; have GW394 := n2_; have GE394 := n3_; clear n0_ n1_ n2_ n3_; clear hb hbox hg; have hcz26_0 : w25.cell? ⟨gb394, 0, none⟩ = some (.string (⟨#[]⟩ : ByteArray)) := (blk_cell BK394.out 0).trans rfl; have hcz26_1 : w25.cell? ⟨gb394, 1, none⟩ = some (.int .i64 0) := (blk_cell BK394.out 1).trans rfl; have hfz26_0 := blk_frozen BK394.out 0; have hfz26_1 := blk_frozen BK394.out 1) | ((with_reducible refine gate_callee (f := 33) rfl ?_); refine goesL_ (some 20) rfl rfl Tryz.func33 (by kernel_rfl) rfl #[.string a0] rfl fq ?_; (with_reducible refine (lex_Unquote.calls k a0 t395 t396 _ A5.out (by (first | exact hgw | exact hgw.below blw (Nat.le_refl _)))).mono ?_); rintro e w27 ⟨rfl, hb⟩; refine ⟨_, rfl, ?_⟩; have n0_ := Aside0.mk (blk_below (g := gb394) (o := .cells #[.string t392, .int .i64 t393] 55 (0, 0)) (by (with_reducible repeat (first | refine blk_drewN ?_ _ | refine blk_drew ?_ | refine blk_alloc ?_ _)); refine blk_put (cs := #[.string t392, .int .i64 0]) ?_ 1 _ rfl; (with_reducible repeat (first | refine blk_drewN ?_ _ | refine blk_drew ?_ | refine blk_alloc ?_ _)); refine blk_put (cs := #[.string (⟨#[]⟩ : ByteArray), .int .i64 0]) ?_ 0 _ rfl; (with_reducible repeat (first | refine blk_drewN ?_ _ | refine blk_drew ?_ | refine blk_alloc ?_ _)); exact BK394.out) hb); have n1_ := Aside0.mk (below_step blw hb); clear BK394; clear HB; have BK394 := n0_; have HB := n1_; clear n0_ n1_; (try clear hb); (try clear hb2); (try clear hk); (try clear hi)) | ((with_reducible refine gate_callee (f := 34) rfl ?_); refine goesL_ (some 24) rfl rfl Tryz.func34 (by kernel_rfl) rfl #[.string a0] rfl fq ?_; (with_reducible refine (taplineref11_Unquote.calls k a0 t397 t398 _ A6.out).mono ?_); rintro e w28 ⟨rfl, hb⟩; refine ⟨_, rfl, ?_⟩; have n0_ := Aside0.mk (blk_below (g := gb394) (o := .cells #[.string t392, .int .i64 t393] 55 (0, 0)) bko hb); have n1_ := Aside0.mk (below_step blw hb); clear BK394; clear HB; have BK394 := n0_; have HB := n1_; clear n0_ n1_; (try clear hb); (try clear hb2); (try clear hk); (try clear hi)) | ((with_reducible refine gate_dst (N := 9) rfl ?_); refine box_event ?hg (N := 9) ?hd (cs := #[.string (⟨#[]⟩ : ByteArray), .int .i64 0]) (t := 55) ?hr ?_; (case hd => rfl); (case hg => rfl); (case hr => first | (go_simp; done) | (go_simp; rfl)); intro gb399 hg w29 hbox hb; have n0_ := Aside0.mk (blk_below (g := gb394) (o := .cells #[.string t392, .int .i64 t393] 55 (0, 0)) bko hb); have n1_ := Aside0.mk (below_step blw hb); have n2_ := Aside0.mk (hbox); have n3_ := Aside0.mk ((by rw [hg]; exact (below_size blw) : w.heap.size ≤ gb399)); have n4_ := Aside0.mk ((by rw [hg]; exact (below_size blw) : w.heap.size ≤ gb399)); have n5_ := Aside0.mk ((by rw [hg]; exact Nat.ne_of_lt (blk_lt (g := gb394) (o := .cells #[.string t392, .int .i64 t393] 55 (0, 0)) bko) : gb394 ≠ gb399)); have n6_ := Aside0.mk ((by rw [hg]; exact Nat.ne_of_gt (blk_lt (g := gb394) (o := .cells #[.string t392, .int .i64 t393] 55 (0, 0)) bko) : gb399 ≠ gb394)); clear BK394; clear HB; have BK394 := n0_; have HB := n1_; have BK399 := n2_; have GW399 := n3_; have GE399 := n4_; have NB394_399 := n5_; have NB399_394 := n6_; clear n0_ n1_ n2_ n3_ n4_ n5_ n6_; clear hb hbox hg; have hnb30 := NB399_394.out; have hnc30 := NB394_399.out; have hcz31_0 : w29.cell? ⟨gb399, 0, none⟩ = some (.string (⟨#[]⟩ : ByteArray)) := (blk_cell BK399.out 0).trans rfl; have hcz31_1 : w29.cell? ⟨gb399, 1, none⟩ = some (.int .i64 0) := (blk_cell BK399.out 1).trans rfl; have hfz31_0 := blk_frozen BK399.out 0; have hfz31_1 := blk_frozen BK399.out 1; have hcz32_0 : w29.cell? ⟨gb394, 0, none⟩ = some (.string t392) := (blk_cell BK394.out 0).trans rfl; have hcz32_1 : w29.cell? ⟨gb394, 1, none⟩ = some (.int .i64 t393) := (blk_cell BK394.out 1).trans rfl; have hfz32_0 := blk_frozen BK394.out 0; have hfz32_1 := blk_frozen BK394.out 1))
     go_ret
     exact ⟨rew, blw⟩
   ·rw [if_neg c9] at H
    have c9b0 : (t391 == t393) = false := beq_eq_false_iff_ne.mpr c9
    have c9b1 : (t391 != t393) = true := bne_iff_ne.mpr c9
    obtain rfl := Option.some.inj H
    go_enter Tryz.func12, Tryz.ntmps12
    go_wp2_with (first | ((with_reducible refine gate_callee (f := 16) rfl ?_); refine goesL_ (some 10) rfl rfl Tryz.func16 (by kernel_rfl) rfl #[] rfl fq ?_; (with_reducible refine (sane_t.calls  true _ A2.out (by (first | exact hgw | exact hgw.below blw (Nat.le_refl _)))).mono ?_); rintro e w33 ⟨rfl, hb⟩; refine ⟨_, rfl, ?_⟩; have n0_ := Aside0.mk (below_step blw hb); clear HB; have HB := n0_; clear n0_; (try clear hb); (try clear hb2); (try clear hk); (try clear hi)) | ((with_reducible refine gate_callee (f := 31) rfl ?_); refine goesL_ (some 13) rfl rfl Tryz.func31 (by kernel_rfl) rfl #[.string a0] rfl fq ?_; (with_reducible refine (lex_Quote.calls a0 t390 t391 _ A3.out (by (first | exact hgw | exact hgw.below blw (Nat.le_refl _)))).mono ?_); rintro e w34 ⟨rfl, hb⟩; refine ⟨_, rfl, ?_⟩; have n0_ := Aside0.mk (below_step blw hb); clear HB; have HB := n0_; clear n0_; (try clear hb); (try clear hb2); (try clear hk); (try clear hi)) | ((with_reducible refine gate_callee (f := 32) rfl ?_); refine goesL_ (some 17) rfl rfl Tryz.func32 (by kernel_rfl) rfl #[.string a0] rfl fq ?_; (with_reducible refine (taplineref11_Quote.calls k a0 t392 t393 _ A4.out).mono ?_); rintro e w35 ⟨rfl, hb⟩; refine ⟨_, rfl, ?_⟩; have n0_ := Aside0.mk (below_step blw hb); clear HB; have HB := n0_; clear n0_; (try clear hb); (try clear hb2); (try clear hk); (try clear hi)) | ((with_reducible refine gate_dst (N := 6) rfl ?_); refine box_event ?hg (N := 6) ?hd (cs := #[.string (⟨#[]⟩ : ByteArray), .int .i64 0]) (t := 55) ?hr ?_; (case hd => rfl); (case hg => rfl); (case hr => first | (go_simp; done) | (go_simp; rfl)); intro gb394 hg w36 hbox hb; have n0_ := Aside0.mk (below_step blw hb); have n1_ := Aside0.mk (hbox); have n2_ := Aside0.mk ((by rw [hg]; exact (below_size blw) : w.heap.size ≤ gb394)); have n3_ := Aside0.mk ((by rw [hg]; exact (below_size blw) : w.heap.size ≤ gb394)); clear HB; have HB := n0_; have BK394 := n1_; have GW394 := n2_; have GE394 := n3_; clear n0_ n1_ n2_ n3_; clear hb hbox hg; have hcz37_0 : w36.cell? ⟨gb394, 0, none⟩ = some (.string (⟨#[]⟩ : ByteArray)) := (blk_cell BK394.out 0).trans rfl; have hcz37_1 : w36.cell? ⟨gb394, 1, none⟩ = some (.int .i64 0) := (blk_cell BK394.out 1).trans rfl; have hfz37_0 := blk_frozen BK394.out 0; have hfz37_1 := blk_frozen BK394.out 1) | ((with_reducible refine gate_callee (f := 33) rfl ?_); refine goesL_ (some 20) rfl rfl Tryz.func33 (by kernel_rfl) rfl #[.string a0] rfl fq ?_; (with_reducible refine (lex_Unquote.calls k a0 t395 t396 _ A5.out (by (first | exact hgw | exact hgw.below blw (Nat.le_refl _)))).mono ?_); rintro e w38 ⟨rfl, hb⟩; refine ⟨_, rfl, ?_⟩; have n0_ := Aside0.mk (blk_below (g := gb394) (o := .cells #[.string t392, .int .i64 t393] 55 (0, 0)) (by (with_reducible repeat (first | refine blk_drewN ?_ _ | refine blk_drew ?_ | refine blk_alloc ?_ _)); refine blk_put (cs := #[.string t392, .int .i64 0]) ?_ 1 _ rfl; (with_reducible repeat (first | refine blk_drewN ?_ _ | refine blk_drew ?_ | refine blk_alloc ?_ _)); refine blk_put (cs := #[.string (⟨#[]⟩ : ByteArray), .int .i64 0]) ?_ 0 _ rfl; (with_reducible repeat (first | refine blk_drewN ?_ _ | refine blk_drew ?_ | refine blk_alloc ?_ _)); exact BK394.out) hb); have n1_ := Aside0.mk (below_step blw hb); clear BK394; clear HB; have BK394 := n0_; have HB := n1_; clear n0_ n1_; (try clear hb); (try clear hb2); (try clear hk); (try clear hi)) | ((with_reducible refine gate_callee (f := 34) rfl ?_); refine goesL_ (some 24) rfl rfl Tryz.func34 (by kernel_rfl) rfl #[.string a0] rfl fq ?_; (with_reducible refine (taplineref11_Unquote.calls k a0 t397 t398 _ A6.out).mono ?_); rintro e w39 ⟨rfl, hb⟩; refine ⟨_, rfl, ?_⟩; have n0_ := Aside0.mk (blk_below (g := gb394) (o := .cells #[.string t392, .int .i64 t393] 55 (0, 0)) bko hb); have n1_ := Aside0.mk (below_step blw hb); clear BK394; clear HB; have BK394 := n0_; have HB := n1_; clear n0_ n1_; (try clear hb); (try clear hb2); (try clear hk); (try clear hi)) | ((with_reducible refine gate_dst (N := 9) rfl ?_); refine box_event ?hg (N := 9) ?hd (cs := #[.string (⟨#[]⟩ : ByteArray), .int .i64 0]) (t := 55) ?hr ?_; (case hd => rfl); (case hg => rfl); (case hr => first | (go_simp; done) | (go_simp; rfl)); intro gb399 hg w40 hbox hb; have n0_ := Aside0.mk (blk_below (g := gb394) (o := .cells #[.string t392, .int .i64 t393] 55 (0, 0)) bko hb); have n1_ := Aside0.mk (below_step blw hb); have n2_ := Aside0.mk (hbox); have n3_ := Aside0.mk ((by rw [hg]; exact (below_size blw) : w.heap.size ≤ gb399)); have n4_ := Aside0.mk ((by rw [hg]; exact (below_size blw) : w.heap.size ≤ gb399)); have n5_ := Aside0.mk ((by rw [hg]; exact Nat.ne_of_lt (blk_lt (g := gb394) (o := .cells #[.string t392, .int .i64 t393] 55 (0, 0)) bko) : gb394 ≠ gb399)); have n6_ := Aside0.mk ((by rw [hg]; exact Nat.ne_of_gt (blk_lt (g := gb394) (o := .cells #[.string t392, .int .i64 t393] 55 (0, 0)) bko) : gb399 ≠ gb394)); clear BK394; clear HB; have BK394 := n0_; have HB := n1_; have BK399 := n2_; have GW399 := n3_; have GE399 := n4_; have NB394_399 := n5_; have NB399_394 := n6_; clear n0_ n1_ n2_ n3_ n4_ n5_ n6_; clear hb hbox hg; have hnb41 := NB399_394.out; have hnc41 := NB394_399.out; have hcz42_0 : w40.cell? ⟨gb399, 0, none⟩ = some (.string (⟨#[]⟩ : ByteArray)) := (blk_cell BK399.out 0).trans rfl; have hcz42_1 : w40.cell? ⟨gb399, 1, none⟩ = some (.int .i64 0) := (blk_cell BK399.out 1).trans rfl; have hfz42_0 := blk_frozen BK399.out 0; have hfz42_1 := blk_frozen BK399.out 1; have hcz43_0 : w40.cell? ⟨gb394, 0, none⟩ = some (.string t392) := (blk_cell BK394.out 0).trans rfl; have hcz43_1 : w40.cell? ⟨gb394, 1, none⟩ = some (.int .i64 t393) := (blk_cell BK394.out 1).trans rfl; have hfz43_0 := blk_frozen BK394.out 0; have hfz43_1 := blk_frozen BK394.out 1))
    go_ret
    exact ⟨rew, blw⟩
  ·rw [if_neg c8] at H
   have c8b0 : (t390.toList == t392.toList) = false := beq_eq_false_iff_ne.mpr c8
   have c8b1 : (t390.toList != t392.toList) = true := bne_iff_ne.mpr c8
   obtain rfl := Option.some.inj H
   go_enter Tryz.func12, Tryz.ntmps12
   go_wp2_with (first | ((with_reducible refine gate_callee (f := 16) rfl ?_); refine goesL_ (some 10) rfl rfl Tryz.func16 (by kernel_rfl) rfl #[] rfl fq ?_; (with_reducible refine (sane_t.calls  true _ A2.out (by (first | exact hgw | exact hgw.below blw (Nat.le_refl _)))).mono ?_); rintro e w44 ⟨rfl, hb⟩; refine ⟨_, rfl, ?_⟩; have n0_ := Aside0.mk (below_step blw hb); clear HB; have HB := n0_; clear n0_; (try clear hb); (try clear hb2); (try clear hk); (try clear hi)) | ((with_reducible refine gate_callee (f := 31) rfl ?_); refine goesL_ (some 13) rfl rfl Tryz.func31 (by kernel_rfl) rfl #[.string a0] rfl fq ?_; (with_reducible refine (lex_Quote.calls a0 t390 t391 _ A3.out (by (first | exact hgw | exact hgw.below blw (Nat.le_refl _)))).mono ?_); rintro e w45 ⟨rfl, hb⟩; refine ⟨_, rfl, ?_⟩; have n0_ := Aside0.mk (below_step blw hb); clear HB; have HB := n0_; clear n0_; (try clear hb); (try clear hb2); (try clear hk); (try clear hi)) | ((with_reducible refine gate_callee (f := 32) rfl ?_); refine goesL_ (some 17) rfl rfl Tryz.func32 (by kernel_rfl) rfl #[.string a0] rfl fq ?_; (with_reducible refine (taplineref11_Quote.calls k a0 t392 t393 _ A4.out).mono ?_); rintro e w46 ⟨rfl, hb⟩; refine ⟨_, rfl, ?_⟩; have n0_ := Aside0.mk (below_step blw hb); clear HB; have HB := n0_; clear n0_; (try clear hb); (try clear hb2); (try clear hk); (try clear hi)) | ((with_reducible refine gate_dst (N := 6) rfl ?_); refine box_event ?hg (N := 6) ?hd (cs := #[.string (⟨#[]⟩ : ByteArray), .int .i64 0]) (t := 55) ?hr ?_; (case hd => rfl); (case hg => rfl); (case hr => first | (go_simp; done) | (go_simp; rfl)); intro gb394 hg w47 hbox hb; have n0_ := Aside0.mk (below_step blw hb); have n1_ := Aside0.mk (hbox); have n2_ := Aside0.mk ((by rw [hg]; exact (below_size blw) : w.heap.size ≤ gb394)); have n3_ := Aside0.mk ((by rw [hg]; exact (below_size blw) : w.heap.size ≤ gb394)); clear HB; have HB := n0_; have BK394 := n1_; have GW394 := n2_; have GE394 := n3_; clear n0_ n1_ n2_ n3_; clear hb hbox hg; have hcz48_0 : w47.cell? ⟨gb394, 0, none⟩ = some (.string (⟨#[]⟩ : ByteArray)) := (blk_cell BK394.out 0).trans rfl; have hcz48_1 : w47.cell? ⟨gb394, 1, none⟩ = some (.int .i64 0) := (blk_cell BK394.out 1).trans rfl; have hfz48_0 := blk_frozen BK394.out 0; have hfz48_1 := blk_frozen BK394.out 1) | ((with_reducible refine gate_callee (f := 33) rfl ?_); refine goesL_ (some 20) rfl rfl Tryz.func33 (by kernel_rfl) rfl #[.string a0] rfl fq ?_; (with_reducible refine (lex_Unquote.calls k a0 t395 t396 _ A5.out (by (first | exact hgw | exact hgw.below blw (Nat.le_refl _)))).mono ?_); rintro e w49 ⟨rfl, hb⟩; refine ⟨_, rfl, ?_⟩; have n0_ := Aside0.mk (blk_below (g := gb394) (o := .cells #[.string t392, .int .i64 t393] 55 (0, 0)) (by (with_reducible repeat (first | refine blk_drewN ?_ _ | refine blk_drew ?_ | refine blk_alloc ?_ _)); refine blk_put (cs := #[.string t392, .int .i64 0]) ?_ 1 _ rfl; (with_reducible repeat (first | refine blk_drewN ?_ _ | refine blk_drew ?_ | refine blk_alloc ?_ _)); refine blk_put (cs := #[.string (⟨#[]⟩ : ByteArray), .int .i64 0]) ?_ 0 _ rfl; (with_reducible repeat (first | refine blk_drewN ?_ _ | refine blk_drew ?_ | refine blk_alloc ?_ _)); exact BK394.out) hb); have n1_ := Aside0.mk (below_step blw hb); clear BK394; clear HB; have BK394 := n0_; have HB := n1_; clear n0_ n1_; (try clear hb); (try clear hb2); (try clear hk); (try clear hi)) | ((with_reducible refine gate_callee (f := 34) rfl ?_); refine goesL_ (some 24) rfl rfl Tryz.func34 (by kernel_rfl) rfl #[.string a0] rfl fq ?_; (with_reducible refine (taplineref11_Unquote.calls k a0 t397 t398 _ A6.out).mono ?_); rintro e w50 ⟨rfl, hb⟩; refine ⟨_, rfl, ?_⟩; have n0_ := Aside0.mk (blk_below (g := gb394) (o := .cells #[.string t392, .int .i64 t393] 55 (0, 0)) bko hb); have n1_ := Aside0.mk (below_step blw hb); clear BK394; clear HB; have BK394 := n0_; have HB := n1_; clear n0_ n1_; (try clear hb); (try clear hb2); (try clear hk); (try clear hi)) | ((with_reducible refine gate_dst (N := 9) rfl ?_); refine box_event ?hg (N := 9) ?hd (cs := #[.string (⟨#[]⟩ : ByteArray), .int .i64 0]) (t := 55) ?hr ?_; (case hd => rfl); (case hg => rfl); (case hr => first | (go_simp; done) | (go_simp; rfl)); intro gb399 hg w51 hbox hb; have n0_ := Aside0.mk (blk_below (g := gb394) (o := .cells #[.string t392, .int .i64 t393] 55 (0, 0)) bko hb); have n1_ := Aside0.mk (below_step blw hb); have n2_ := Aside0.mk (hbox); have n3_ := Aside0.mk ((by rw [hg]; exact (below_size blw) : w.heap.size ≤ gb399)); have n4_ := Aside0.mk ((by rw [hg]; exact (below_size blw) : w.heap.size ≤ gb399)); have n5_ := Aside0.mk ((by rw [hg]; exact Nat.ne_of_lt (blk_lt (g := gb394) (o := .cells #[.string t392, .int .i64 t393] 55 (0, 0)) bko) : gb394 ≠ gb399)); have n6_ := Aside0.mk ((by rw [hg]; exact Nat.ne_of_gt (blk_lt (g := gb394) (o := .cells #[.string t392, .int .i64 t393] 55 (0, 0)) bko) : gb399 ≠ gb394)); clear BK394; clear HB; have BK394 := n0_; have HB := n1_; have BK399 := n2_; have GW399 := n3_; have GE399 := n4_; have NB394_399 := n5_; have NB399_394 := n6_; clear n0_ n1_ n2_ n3_ n4_ n5_ n6_; clear hb hbox hg; have hnb52 := NB399_394.out; have hnc52 := NB394_399.out; have hcz53_0 : w51.cell? ⟨gb399, 0, none⟩ = some (.string (⟨#[]⟩ : ByteArray)) := (blk_cell BK399.out 0).trans rfl; have hcz53_1 : w51.cell? ⟨gb399, 1, none⟩ = some (.int .i64 0) := (blk_cell BK399.out 1).trans rfl; have hfz53_0 := blk_frozen BK399.out 0; have hfz53_1 := blk_frozen BK399.out 1; have hcz54_0 : w51.cell? ⟨gb394, 0, none⟩ = some (.string t392) := (blk_cell BK394.out 0).trans rfl; have hcz54_1 : w51.cell? ⟨gb394, 1, none⟩ = some (.int .i64 t393) := (blk_cell BK394.out 1).trans rfl; have hfz54_0 := blk_frozen BK394.out 0; have hfz54_1 := blk_frozen BK394.out 1))
   go_ret
   exact ⟨rew, blw⟩
 ·replace c7 := Bool.eq_false_iff.mpr c7
  subst c7
  have H1 : (some false) = some r := by rw [if_neg (show ¬ (false = true) by decide)] at H; exact H
  clear H
  have H := H1
  clear H1
  obtain rfl := Option.some.inj H
  go_enter Tryz.func12, Tryz.ntmps12
  go_wp2_with (first | ((with_reducible refine gate_callee (f := 16) rfl ?_); refine goesL_ (some 10) rfl rfl Tryz.func16 (by kernel_rfl) rfl #[] rfl fq ?_; (with_reducible refine (sane_t.calls  false _ A2.out (by (first | exact hgw | exact hgw.below blw (Nat.le_refl _)))).mono ?_); rintro e w55 ⟨rfl, hb⟩; refine ⟨_, rfl, ?_⟩; have n0_ := Aside0.mk (below_step blw hb); clear HB; have HB := n0_; clear n0_; (try clear hb); (try clear hb2); (try clear hk); (try clear hi)) | ((with_reducible refine gate_callee (f := 31) rfl ?_); refine goesL_ (some 13) rfl rfl Tryz.func31 (by kernel_rfl) rfl #[.string a0] rfl fq ?_; (with_reducible refine (lex_Quote.calls a0 t390 t391 _ A3.out (by (first | exact hgw | exact hgw.below blw (Nat.le_refl _)))).mono ?_); rintro e w56 ⟨rfl, hb⟩; refine ⟨_, rfl, ?_⟩; have n0_ := Aside0.mk (below_step blw hb); clear HB; have HB := n0_; clear n0_; (try clear hb); (try clear hb2); (try clear hk); (try clear hi)) | ((with_reducible refine gate_callee (f := 32) rfl ?_); refine goesL_ (some 17) rfl rfl Tryz.func32 (by kernel_rfl) rfl #[.string a0] rfl fq ?_; (with_reducible refine (taplineref11_Quote.calls k a0 t392 t393 _ A4.out).mono ?_); rintro e w57 ⟨rfl, hb⟩; refine ⟨_, rfl, ?_⟩; have n0_ := Aside0.mk (below_step blw hb); clear HB; have HB := n0_; clear n0_; (try clear hb); (try clear hb2); (try clear hk); (try clear hi)) | ((with_reducible refine gate_dst (N := 6) rfl ?_); refine box_event ?hg (N := 6) ?hd (cs := #[.string (⟨#[]⟩ : ByteArray), .int .i64 0]) (t := 55) ?hr ?_; (case hd => rfl); (case hg => rfl); (case hr => first | (go_simp; done) | (go_simp; rfl)); intro gb394 hg w58 hbox hb; have n0_ := Aside0.mk (below_step blw hb); have n1_ := Aside0.mk (hbox); have n2_ := Aside0.mk ((by rw [hg]; exact (below_size blw) : w.heap.size ≤ gb394)); have n3_ := Aside0.mk ((by rw [hg]; exact (below_size blw) : w.heap.size ≤ gb394)); clear HB; have HB := n0_; have BK394 := n1_; have GW394 := n2_; have GE394 := n3_; clear n0_ n1_ n2_ n3_; clear hb hbox hg; have hcz59_0 : w58.cell? ⟨gb394, 0, none⟩ = some (.string (⟨#[]⟩ : ByteArray)) := (blk_cell BK394.out 0).trans rfl; have hcz59_1 : w58.cell? ⟨gb394, 1, none⟩ = some (.int .i64 0) := (blk_cell BK394.out 1).trans rfl; have hfz59_0 := blk_frozen BK394.out 0; have hfz59_1 := blk_frozen BK394.out 1) | ((with_reducible refine gate_callee (f := 33) rfl ?_); refine goesL_ (some 20) rfl rfl Tryz.func33 (by kernel_rfl) rfl #[.string a0] rfl fq ?_; (with_reducible refine (lex_Unquote.calls k a0 t395 t396 _ A5.out (by (first | exact hgw | exact hgw.below blw (Nat.le_refl _)))).mono ?_); rintro e w60 ⟨rfl, hb⟩; refine ⟨_, rfl, ?_⟩; have n0_ := Aside0.mk (blk_below (g := gb394) (o := .cells #[.string t392, .int .i64 t393] 55 (0, 0)) (by (with_reducible repeat (first | refine blk_drewN ?_ _ | refine blk_drew ?_ | refine blk_alloc ?_ _)); refine blk_put (cs := #[.string t392, .int .i64 0]) ?_ 1 _ rfl; (with_reducible repeat (first | refine blk_drewN ?_ _ | refine blk_drew ?_ | refine blk_alloc ?_ _)); refine blk_put (cs := #[.string (⟨#[]⟩ : ByteArray), .int .i64 0]) ?_ 0 _ rfl; (with_reducible repeat (first | refine blk_drewN ?_ _ | refine blk_drew ?_ | refine blk_alloc ?_ _)); exact BK394.out) hb); have n1_ := Aside0.mk (below_step blw hb); clear BK394; clear HB; have BK394 := n0_; have HB := n1_; clear n0_ n1_; (try clear hb); (try clear hb2); (try clear hk); (try clear hi)) | ((with_reducible refine gate_callee (f := 34) rfl ?_); refine goesL_ (some 24) rfl rfl Tryz.func34 (by kernel_rfl) rfl #[.string a0] rfl fq ?_; (with_reducible refine (taplineref11_Unquote.calls k a0 t397 t398 _ A6.out).mono ?_); rintro e w61 ⟨rfl, hb⟩; refine ⟨_, rfl, ?_⟩; have n0_ := Aside0.mk (blk_below (g := gb394) (o := .cells #[.string t392, .int .i64 t393] 55 (0, 0)) bko hb); have n1_ := Aside0.mk (below_step blw hb); clear BK394; clear HB; have BK394 := n0_; have HB := n1_; clear n0_ n1_; (try clear hb); (try clear hb2); (try clear hk); (try clear hi)) | ((with_reducible refine gate_dst (N := 9) rfl ?_); refine box_event ?hg (N := 9) ?hd (cs := #[.string (⟨#[]⟩ : ByteArray), .int .i64 0]) (t := 55) ?hr ?_; (case hd => rfl); (case hg => rfl); (case hr => first | (go_simp; done) | (go_simp; rfl)); intro gb399 hg w62 hbox hb; have n0_ := Aside0.mk (blk_below (g := gb394) (o := .cells #[.string t392, .int .i64 t393] 55 (0, 0)) bko hb); have n1_ := Aside0.mk (below_step blw hb); have n2_ := Aside0.mk (hbox); have n3_ := Aside0.mk ((by rw [hg]; exact (below_size blw) : w.heap.size ≤ gb399)); have n4_ := Aside0.mk ((by rw [hg]; exact (below_size blw) : w.heap.size ≤ gb399)); have n5_ := Aside0.mk ((by rw [hg]; exact Nat.ne_of_lt (blk_lt (g := gb394) (o := .cells #[.string t392, .int .i64 t393] 55 (0, 0)) bko) : gb394 ≠ gb399)); have n6_ := Aside0.mk ((by rw [hg]; exact Nat.ne_of_gt (blk_lt (g := gb394) (o := .cells #[.string t392, .int .i64 t393] 55 (0, 0)) bko) : gb399 ≠ gb394)); clear BK394; clear HB; have BK394 := n0_; have HB := n1_; have BK399 := n2_; have GW399 := n3_; have GE399 := n4_; have NB394_399 := n5_; have NB399_394 := n6_; clear n0_ n1_ n2_ n3_ n4_ n5_ n6_; clear hb hbox hg; have hnb63 := NB399_394.out; have hnc63 := NB394_399.out; have hcz64_0 : w62.cell? ⟨gb399, 0, none⟩ = some (.string (⟨#[]⟩ : ByteArray)) := (blk_cell BK399.out 0).trans rfl; have hcz64_1 : w62.cell? ⟨gb399, 1, none⟩ = some (.int .i64 0) := (blk_cell BK399.out 1).trans rfl; have hfz64_0 := blk_frozen BK399.out 0; have hfz64_1 := blk_frozen BK399.out 1))
  go_ret
  exact ⟨rew, blw⟩
def taplinelaw11_LexQuotes.Pure : Prop := ∀ (a0 : ByteArray), a0.size ≤ 140737488351232 → ∃ k, taplinelaw11_LexQuotes.f k a0 = some true
theorem taplinelaw11_LexQuotes.walk (P : taplinelaw11_LexQuotes.Pure) (a0 : ByteArray) (w : World) (w0 : a0.size ≤ 140737488351232) (hgw : GW w) :
  Calls Tryz.prog 12 #[.string a0] w fun e w' => e = .returned (.bool true) ∧ Below w.heap.size w w' := by
 obtain ⟨k, h⟩ := P a0 w0
 refine (taplinelaw11_LexQuotes.calls k a0 true w h (by (first | exact hgw | exact hgw.below blw (Nat.le_refl _)))).mono ?_
 rintro e w' ⟨rfl, hd⟩
 exact ⟨rfl, hd⟩
end Go.Proofs.YtadgddipkbdnbaaGreatDoor.Q
set_option linter.unusedVariables false
set_option linter.unusedSimpArgs false
namespace Go.Proofs.YtadgddipkbdnbaaGreatDoor.Q
open Go.RowKit Go.Proofs.YtadgddipkbdnbaaGreatDoor YtadgddipkbdnbaaGreatDoorW.PrintWords YtadgddipkbdnbaaGreatDoorW.PrintLast
def quoM (s : ByteArray) : ByteArray × Int := if s.size > 64 then (⟨#[]⟩, 2) else if 0 ∈ s.data.toList then (⟨#[]⟩, 1) else (strS (quoteB s.data.toList), 0)
theorem quote_f (s : ByteArray) : lex_Quote.f s = some (quoM s) := by
 unfold lex_Quote.f quoM
 split
 ·rfl
 ·split <;> rfl
theorem escape_f (c : UInt8) : taplineref11_escape.f (c.toNat : Int) = some (strS (escB c)) := by
 unfold taplineref11_escape.f
 have := c.toNat_lt
 rw [if_pos ⟨by omega, by omega⟩, Int.toNat_natCast, UInt8.ofNat_toNat]
theorem strS_app (a b : List UInt8) : strS a ++ strS b = strS (a ++ b) := by
 unfold strS
 apply ByteArray.ext
 apply Array.ext'
 rw [ByteArray.data_append, Array.toList_append]
theorem qlen (l : List UInt8) : (l.flatMap escB).length ≤ 4 * l.length := by
 have : ∀ c : UInt8, (escB c).length ≤ 4 := u8_all _ (by decide +kernel)
 induction l with
 | nil => simp
 | cons c l ih => rw [List.flatMap_cons, List.length_append, List.length_cons]; have := this c; omega
theorem refQuote_l0 (s : ByteArray) (hs : s.size ≤ 64) (K : Nat) : ∀ d i, i ≤ s.size → s.size - i = d → 0 ∉ s.data.toList.take i →
  taplineref11_Quote.l0 (K + d + 1) s (strS (34 :: (s.data.toList.take i).flatMap escB)) (i : Int) = some (if 0 ∈ s.data.toList then (⟨#[]⟩, 1) else (strS (quoteB s.data.toList), 0)) := by
 intro d
 have hl := ba_len s
 induction d with
 | zero =>
  intro i hi hd h0
  have e : s.data.toList.take i = s.data.toList := List.take_of_length_le (by omega)
  rw [e] at h0 ⊢
  have hq := qlen s.data.toList
  have hz : Unit → (strS (34 :: s.data.toList.flatMap escB)).size = (s.data.toList.flatMap escB).length + 1 := fun _ => rfl
  rw [taplineref11_Quote.l0, if_neg (by omega), hz (), if_pos (by omega), if_neg h0]
  show some (strS (34 :: s.data.toList.flatMap escB) ++ strS [34], (0 : Int)) = _
  rw [strS_app]
  rfl
 | succ d ih =>
  intro i hi hd h0
  have hlt : i < s.size := by omega
  have hb : bt s (i : Int) = (s[i].toNat : Int) := by unfold bt; rw [Int.toNat_natCast, dif_pos hlt]
  have e : s.data.toList.take (i + 1) = s.data.toList.take i ++ [s[i]] := by rw [List.take_add_one, List.getElem?_eq_getElem (by omega)]; rfl
  rw [show K + (d + 1) + 1 = (K + d + 1) + 1 by omega, taplineref11_Quote.l0, if_pos (by omega), if_pos (by omega), hb]
  by_cases hz : s[i] = 0
  ·rw [if_pos (by rw [hz]; rfl), if_pos]
   have : s[i] ∈ s.data.toList := List.mem_of_getElem? (i := i) (by rw [List.getElem?_eq_getElem (by omega)]; rfl)
   rw [hz] at this
   exact this
  ·rw [if_neg (fun x => hz (UInt8.toNat_inj.1 (by have : (0 : UInt8).toNat = 0 := rfl; omega))), escape_f]
   simp only [Option.bind_some]
   have hq := qlen (s.data.toList.take i)
   rw [List.length_take] at hq
   have he : (escB s[i]).length ≤ 4 := by have := qlen [s[i]]; simpa using this
   have z1 : Unit → (strS (34 :: (s.data.toList.take i).flatMap escB)).size = ((s.data.toList.take i).flatMap escB).length + 1 := fun _ => rfl
   have z2 : Unit → (strS (escB s[i])).size = (escB s[i]).length := fun _ => rfl
   rw [z1 (), z2 (), if_pos (by omega), strS_app, wrapn (by omega) (by omega)]
   have e2 : 34 :: (s.data.toList.take i).flatMap escB ++ escB s[i] = 34 :: (s.data.toList.take (i + 1)).flatMap escB := by
    rw [e, List.flatMap_append]; simp
   rw [e2]
   refine ih (i + 1) (by omega) (by omega) ?_
   rw [e, List.mem_append]
   rintro (h | h)
   ·exact h0 h
   ·exact hz (List.mem_singleton.1 h).symm
theorem refQuote_f (s : ByteArray) (k : Nat) (hk : 100 ≤ k) : taplineref11_Quote.f k s = some (quoM s) := by
 unfold taplineref11_Quote.f quoM
 by_cases h : s.size > 64
 ·rw [if_pos (by omega), if_pos h]
 ·rw [if_neg (by omega), if_neg h]
  have := refQuote_l0 s (by omega) (k - s.size - 1) s.size 0 (by omega) (by omega) (by simp)
  rw [show k - s.size - 1 + s.size + 1 = k by omega] at this
  exact this
theorem refUnquote_ev (t : ByteArray) : Ev (fun k => taplineref11_Unquote.f k t) (unqM t.data.toList) := by
 unfold taplineref11_Unquote.f unqM Lx.valS
 refine ev_bind (refKind_e t) ?_
 by_cases h : Lx.kindM t.data.toList = 4
 ·simp only [if_pos h]
  obtain ⟨u, vs, e, hl, hs⟩ := Lx.one4 h
  rw [ba_len] at hl
  have hu : u.length + 1 = t.size := by rw [← ba_len, e]; rfl
  have e2 : t.data.toList.tail = u := by rw [e]; rfl
  rw [e2, hs]
  have hpos : 0 < t.size := by omega
  have h0 : t[0] = 34 := by
   have : t.data.toList[0]? = some 34 := by rw [e]; rfl
   rw [List.getElem?_eq_getElem (by rw [ba_len]; exact hpos)] at this
   exact Option.some.inj this
  have hb : bt t 0 = 34 := by
   unfold bt
   rw [dif_pos (show (0 : Int).toNat < t.size from hpos)]
   show ((t[0].toNat : Nat) : Int) = 34
   rw [h0]; rfl
  have hqu : Ev (fun k => taplineref11_quoted.f k t 0) (quR 34 [] 1 (strQ 34 (u.length + 1) u)) := by
   obtain ⟨K, hK⟩ := quoted_l0 t (by omega) 0 34 (t.size - 1) 1 [] (by omega) (by omega) rfl (by simp)
   refine ⟨K, fun k hk => ?_⟩
   have h : taplineref11_quoted.l0 k t 0 34 (strS []) 1 = _ := hK k hk
   have e3 : t.data.toList.drop 1 = u := by rw [e]; rfl
   have e4 : t.size - 1 = u.length := by omega
   rw [e3, e4] at h
   simp only [taplineref11_quoted.f]
   rw [if_pos (by omega), if_pos (by omega), hb]
   rw [show wrap64 (0 + 1) = 1 from wrap_nat (by omega) (by omega)]
   exact h
  rw [strQ_F, hs] at hqu
  refine ev_bind hqu ⟨0, fun k _ => ?_⟩
  rfl
 ·simp only [if_neg h]
  exact Ev.now _
theorem LexQuotes_pure : taplinelaw11_LexQuotes.Pure := by
 intro s hs
 obtain ⟨K, hK⟩ := refUnquote_ev s
 refine ⟨K + 20100, ?_⟩
 have h1 : taplineref11_Unquote.f (K + 20100) s = some (unqM s.data.toList) := hK _ (by omega)
 simp only [taplinelaw11_LexQuotes.f, sane_t.f, Option.bind_some]
 rw [quote_f, refQuote_f s _ (by omega), unq_f s _ (by omega), h1]
 simp
end Go.Proofs.YtadgddipkbdnbaaGreatDoor.Q
set_option linter.unusedVariables false
set_option linter.unusedSimpArgs false
namespace Go.Proofs.YtadgddipkbdnbaaGreatDoor.lexQuotes
open Go.ChangeShapes Go.WideShapes Go.ChangeAt Go.RowKit
open Go.ChangeMaps (open_string shut_string)
set_option maxRecDepth 100000 in
theorem lifted (os : Os) (started : os.Started) (H : Type) (enc : TypeId × Value → H) :
  ReturnsInHanded {} Tryz.checked os 12 .any (fun w args => (Rows.lexQuotesSpec.pre enc Tryz.prog Tryz.f12 [] false w args ∧ laidMetH Tryz.prog lexLaid w) ∧ sizedMet enc Tryz.prog Tryz.f12 (OpenSpec.ofChange Rows.lexQuotesSpec) false w args)
   (Rows.lexQuotesSpec.post enc Tryz.prog Tryz.f12 false true false false) := by
 refine handed_and_shaped (C := Tryz.checked) (X := fun w _ => laidMetH Tryz.prog lexLaid w) (fun _ _ _ hh h => h.of_heap hh) own started (by kernel_rfl) Tryz.func12
  (ChangeSpec.witness_shaped (enc := enc) (C := Tryz.checked) (os := os) (X := fun w _ => laidMetH Tryz.prog lexLaid w) false (World.doorLaid Tryz.prog 400 os) #[.string ByteArray.empty] 8 rfl (World.shaped_of_RefB (by kernel_rfl) (by kernel_rfl)) (by kernel_rfl) (by kernel_rfl) (by kernel_rfl) (door_met os _)) ?_
 intro W base args ds gs before hval0 hW hcnd hsz0 hL hsh _
 have hgw := of_laid hL hsh
 clear hL hsh
 have hsz : (DataW.weightsEach Tryz.prog (Tryz.f12.params.toList ++ Rows.lexQuotesSpec.plain.varTypes Tryz.prog) (ds ++ gs)).all (· ≤ reachBytes) = true := hsz0
 have hval : ∀ (j : Nat) t v, Tryz.f12.params[j]? = some t → args[j]? = some v → Value.okWide Tryz.prog W .any base t v := hval0
 have hW' := hW
 obtain ⟨p, q, hA0, hV, rfl, hfz, hnd⟩ := hW
 have hA : DataW.TrodAll enc Tryz.prog W 0 (fun _ => true) true Tryz.f12.params.toList args.toList ds p := hA0
 rw [Tryz.params12] at hA hval hsz
 obtain ⟨v0, vs0, d0, ds0, p0, q0, hargs, rfl, rfl, h0, r0⟩ := trodAll_cons hA
 obtain ⟨rfl, rfl, rfl⟩ := trodAll_nil r0
 obtain rfl : args = #[v0] := by cases args; simp_all
 obtain ⟨rfl, rfl⟩ := trodVars_none hV
 obtain ⟨a0, rfl, rfl, rfl, y0⟩ := open_string Tryz.underlying9 (hval 0 9 v0 rfl rfl) h0
 have w0 : a0.size ≤ 140737488351232 := by
  have z := sized_string hsz (j := 0) (t := 9) rfl rfl
  rw [Array.length_toList] at z
  exact z
 clear hA0 hval0 hsz0 hsz
 refine (Q.taplinelaw11_LexQuotes.walk Q.LexQuotes_pure a0 W w0 hgw).mono fun e W' ⟨he, bel⟩ => ?_
 subst he
 exact ⟨_, rfl, _, _, _, [], _, [], hW', trodAll_mk1 (shut_bool Tryz.underlying4 _), (trodAll_cons_mk (shut_string Tryz.underlying9 y0) trodAll_mk0), rfl, bel.frame _, fun h => by cases h⟩
theorem over : Rows.LexQuotesSaid :=
 OpenClaim.holds_of_wide 12 Tryz.f12 rfl rfl rfl rfl rfl rfl rfl ⟨rfl, rfl, rfl, rfl, rfl⟩ rfl rfl rfl rfl rfl (by kernel_rfl) Tryz.func12 (by kernel_rfl)
  (of_decide_eq_true (by kernel_rfl)) (by unfold Func.isWrapper; first | (rw [if_pos (by decide +kernel)]; kernel_rfl) | (rw [if_neg (by decide +kernel)]; exact ⟨rfl, rfl⟩))
  (fun os started H enc _ => lifted os started H enc)
end Go.Proofs.YtadgddipkbdnbaaGreatDoor.lexQuotes
namespace Go.Proofs.YtadgddipkbdnbaaGreatDoor
theorem lexQuotes_card : Rows.LexQuotesCardSaid :=
 Claim7.holds_tied_plain_at .later [] [.data, .data, .data, .sentinel, .sentinel, .listed, .data, .data] true (true, "85ed3a9bdcdf405d5b0a35b2759147de3913577c107b7173cad54d4ee995d561") true
  lexQuotes.over (fun _ h => by cases h) (by kernel_rfl) (fun _ h => by cases h) lexQuotes_row_tie rfl ⟨rfl, rfl⟩ (by kernel_rfl) rfl
  (fun f fn hf hfn => by
   obtain rfl : f = 12 := Option.some.inj ((show Tryz.prog.funcNamed "tapline/taplinelaw11.LexQuotes" = some 12 by kernel_rfl).symm.trans hf) |>.symm
   obtain rfl : fn = Tryz.f12 := (Option.some.inj (Tryz.func12.symm.trans hfn)).symm
   exact ⟨by kernel_rfl, fun j t ht => by
    rw [Tryz.params12] at ht
    have hm : t ∈ [9] := by simpa using Array.mem_of_getElem? ht
    have hall : ([9].all fun u => !Tryz.prog.wantsStandIn u) = true := by kernel_rfl
    exact (show Tryz.prog.wantsStandIn t = false by simpa using List.all_eq_true.1 hall t hm)⟩)
  (by kernel_rfl)
#print axioms lexQuotes_card
end Go.Proofs.YtadgddipkbdnbaaGreatDoor
