/- For every text and two offsets, Place of the program returns what the specification's returns, and two offsets never have the same place; the inputs read as they did; the package-level variables hold what the program's text lays in them: the tied card. -/
import Derived.Test.YtadgddipkbdnbaaGreatDoorLexP1
import Derived.Test.YtadgddipkbdnbaaGreatDoorLexP2
import Derived.Test.YtadgddipkbdnbaaGreatDoorLexP3
import Derived.Test.YtadgddipkbdnbaaGreatDoorLexP4
import Derived.Test.YtadgddipkbdnbaaGreatDoorLexP7
import Derived.Test.YtadgddipkbdnbaaGreatDoorLexP8
import Derived.Test.YtadgddipkbdnbaaGreatDoorLexP14
import Derived.Test.YtadgddipkbdnbaaGreatDoorLexP15
import Derived.Deep.Slices
import Derived.Deep.Fields
import Derived.ChangeSame
import Derived.Lib.SmallJoins
import Derived.Test.YtadgddipkbdnbaaGreatDoorTie
import Derived.Test.YtadgddipkbdnbaaGreatDoorCards
import Derived.WalkKit
import Derived.ProofKit
import Derived.OpenShut
import Derived.ShutString
import Derived.ChangeOld
import Derived.Below
import Derived.SizedLaws
import Derived.SevenTiedAt
namespace Go.Proofs.YtadgddipkbdnbaaGreatDoor.Q
open Go.Proofs.YtadgddipkbdnbaaGreatDoor Go.RowKit Go.Proofs.YtadgddipkbdnbaaGreatDoorW.PrintWords Go.Proofs.YtadgddipkbdnbaaGreatDoorW.PrintLast Go.Proofs.YtadgddipkbdnbaaGreatDoorW.PrintMore
attribute [local go_sem] max2_int min2_int max_two min_two max_three min_three max_four min_four   
set_option linter.unusedVariables false
set_option linter.unusedSimpArgs false
def taplineref11_Place.l0 : Nat → ByteArray → Int → Int → Int → Int → Option (Int × Int)
 | 0, _, _, _, _, _ => none
 | k + 1, x0, x1, x6, x7, x8 => if x8 < x1 then (if 0 ≤ x8 then (if x8 < (x0.size : Int) then (if (bt x0 x8) = 10 then (taplineref11_Place.l0 k x0 x1 (wrap64 (x6 + 1)) 1 (wrap64 (x8 + 1))) else (taplineref11_Place.l0 k x0 x1 x6 (wrap64 (x7 + 1)) (wrap64 (x8 + 1)))) else (none)) else (none)) else (some (x6, x7))
def taplineref11_Place.f (k : Nat) (a0 : ByteArray) (a1 : Int) : Option (Int × Int) := taplineref11_Place.l0 k a0 a1 1 1 0
theorem taplineref11_Place.mono_l : ∀ k, (∀ y0 y1 y2 y3 y4, LeO (taplineref11_Place.l0 k y0 y1 y2 y3 y4) (taplineref11_Place.l0 (k + 1) y0 y1 y2 y3 y4))
 | 0 => fun _ _ _ _ _ r h => by simp [taplineref11_Place.l0] at h
 | k + 1 => by
  have ih0 := taplineref11_Place.mono_l k
  ·intro y0 y1 y2 y3 y4
   unfold taplineref11_Place.l0
   repeat' first
   | (with_reducible exact ih0 _ _ _ _ _)
   | (with_reducible exact LeO.refl _)
   | (with_reducible exact LeO.none _)
   | (with_reducible refine LeO.ite ?_ ?_)
   | (with_reducible refine LeO.bind ?_ (fun _ => ?_))
   | exact LeO.none _
   | refine LeO.ite ?_ ?_
   | refine LeO.bind ?_ (fun _ => ?_)
theorem taplineref11_Place.mono : ∀ a0 a1 k, LeO (taplineref11_Place.f k a0 a1) (taplineref11_Place.f (k + 1) a0 a1) := by
 intro a0 a1 k
 have ih0 := taplineref11_Place.mono_l k
 unfold taplineref11_Place.f
 repeat' first
   | (with_reducible exact ih0 _ _ _ _ _)
   | (with_reducible exact LeO.refl _)
   | (with_reducible exact LeO.none _)
   | (with_reducible refine LeO.ite ?_ ?_)
   | (with_reducible refine LeO.bind ?_ (fun _ => ?_))
   | exact LeO.none _
   | refine LeO.ite ?_ ?_
   | refine LeO.bind ?_ (fun _ => ?_)
set_option maxHeartbeats 8000000 in
set_option maxRecDepth 100000 in
theorem taplineref11_Place.calls (k : Nat) (a0 : ByteArray) (a1 : Int) (r1 : Int) (r2 : Int) (w : World) (h : taplineref11_Place.f k a0 a1 = some (r1, r2)) :
  Calls Tryz.prog 27 #[.string a0, .int .i64 a1] w fun e w' => e = .returned (.tuple #[.int .i64 r1, .int .i64 r2]) ∧ Drawn0 w w' := by
 have H : (taplineref11_Place.l0 k a0 a1 1 1 0) = some (r1, r2) := h
 clear h
 have H' := Aside0.mk H
 clear H
 go_enter Tryz.func27, Tryz.ntmps27
 go_wp2
 try simp only [Act.put, List.setIfInBounds_toArray, List.set_cons_zero, List.set_cons_succ]
 go_loopg [6, 7, 8] k (fun kq v6 v7 v8 w' => ∃ (x6_1 : Int) (x7_1 : Int) (x8_1 : Int), v6 = .int .i64 x6_1 ∧ v7 = .int .i64 x7_1 ∧ v8 = .int .i64 x8_1 ∧ Aside0 (taplineref11_Place.l0 kq a0 a1 x6_1 x7_1 x8_1 = some (r1, r2)) ∧ Aside0 (kq ≤ k) ∧ Drawn0 w w')
 case atStart => exact ⟨(1), (1), (0), rsd, rsd, rsd, H', ⟨Nat.le_refl _⟩, by repeat (first | exact Drawn0.refl _ | apply Drawn0.step)⟩
 case round =>
  clear H'
  try clear c2
  try clear p2
  obtain ⟨x6_1, x7_1, x8_1, rfl, rfl, rfl, HA, HK1, ⟨m1, rfl⟩⟩ := hrel
  cases gk with
  | zero => exact absurd HA.out (by simp [taplineref11_Place.l0])
  | succ k1 =>
   have H := HA.out
   clear HA
   simp only [taplineref11_Place.l0] at H
   by_cases c3 : x8_1 < a1
   ·rw [if_pos c3] at H
    have c3b0 : decide (x8_1 < a1) = true := decide_eq_true c3
    clear c3
    by_cases c4 : 0 ≤ x8_1
    ·rw [if_pos c4] at H
     have c4b0 : decide (0 ≤ x8_1) = true := decide_eq_true c4
     clear c4
     by_cases c5 : x8_1 < (a0.size : Int)
     ·rw [if_pos c5] at H
      have c5b0 : decide (x8_1 < (a0.size : Int)) = true := decide_eq_true c5
      clear c5
      by_cases c7 : (bt a0 x8_1) = 10
      ·rw [if_pos c7] at H
       have c7b0 : ((bt a0 x8_1) == 10) = true := beq_iff_eq.mpr c7
       have c7b1 : ((bt a0 x8_1) != 10) = false := bne_eq_false_iff_eq.mpr c7
       clear c7
       have H' := Aside0.mk H
       clear H
       have p6 : 0 ≤ (x8_1 : Int) := of_decide_eq_true asm
       have q6 : x8_1 < (a0.size : Int) := of_decide_eq_true asm
       have hx6 := bt_at a0 x8_1
       replace p6 := eq_true p6
       replace q6 := eq_true q6
       go_wp2
       go_roundg k1
       case measure => have := HK1.out; omega
       case rel => exact ⟨(wrap64 (x6_1 + 1)), (1), (wrap64 (x8_1 + 1)), rsd, rsd, rsd, H', ⟨by have := HK1.out; omega⟩, by repeat (first | exact Drawn0.refl _ | apply Drawn0.step)⟩
      ·rw [if_neg c7] at H
       have c7b0 : ((bt a0 x8_1) == 10) = false := beq_eq_false_iff_ne.mpr c7
       have c7b1 : ((bt a0 x8_1) != 10) = true := bne_iff_ne.mpr c7
       have H' := Aside0.mk H
       clear H
       have p6 : 0 ≤ (x8_1 : Int) := of_decide_eq_true asm
       have q6 : x8_1 < (a0.size : Int) := of_decide_eq_true asm
       have hx6 := bt_at a0 x8_1
       replace p6 := eq_true p6
       replace q6 := eq_true q6
       go_wp2
       go_roundg k1
       case measure => have := HK1.out; omega
       case rel => exact ⟨(x6_1), (wrap64 (x7_1 + 1)), (wrap64 (x8_1 + 1)), rsd, rsd, rsd, H', ⟨by have := HK1.out; omega⟩, by repeat (first | exact Drawn0.refl _ | apply Drawn0.step)⟩
     ·rw [if_neg c5] at H
      exact absurd H (by simp)
    ·rw [if_neg c4] at H
     exact absurd H (by simp)
   ·rw [if_neg c3] at H
    have c3b0 : decide (x8_1 < a1) = false := decide_eq_false c3
    clear c3
    simp only [Option.some.injEq, Prod.mk.injEq] at H
    obtain ⟨rfl, rfl⟩ := H
    go_wp2
    go_ret2
    exact ⟨by first | rfl | (simp; done) | (simp [*]; done), by repeat (first | exact Drawn0.refl _ | apply Drawn0.step)⟩
end Go.Proofs.YtadgddipkbdnbaaGreatDoor.Q
set_option linter.unusedVariables false
set_option linter.unusedSimpArgs false
namespace Go.Proofs.YtadgddipkbdnbaaGreatDoor.Q
open Go.RowKit Go.Proofs.YtadgddipkbdnbaaGreatDoor YtadgddipkbdnbaaGreatDoorW.PrintWords YtadgddipkbdnbaaGreatDoorW.PrintLast
theorem place_f (s : ByteArray) (hs : s.size ≤ 140737488355328) (a : Int) : lex_Place.f s a = if a < 0 ∨ (s.size : Int) < a then some (0, 0, 1) else some ((((s.data.toList.take a.toNat).count 10 : Nat) : Int) + 1, (colB (s.data.toList.take a.toNat) : Int), 0) := by
 unfold lex_Place.f
 rw [if_pos hs]
theorem ref_l0 (s : ByteArray) (hs : s.size ≤ 140737488355328) (a : Nat) (ha : a ≤ s.size) (K : Nat) : ∀ d i, i ≤ a → a - i = d → taplineref11_Place.l0 (K + d + 1) s (a : Int) ((((s.data.toList.take i).count 10 : Nat) : Int) + 1) (colB (s.data.toList.take i) : Int) (i : Int) = some ((((s.data.toList.take a).count 10 : Nat) : Int) + 1, (colB (s.data.toList.take a) : Int)) := by
 intro d
 induction d with
 | zero =>
  intro i hi hd
  have : i = a := by omega
  rw [taplineref11_Place.l0, if_neg (by omega), this]
 | succ d ih =>
  intro i hi hd
  have hlt : i < s.size := by omega
  have hl : s.data.toList.length = s.size := (Lib.size_eq s).symm
  have e : s.data.toList.take (i + 1) = s.data.toList.take i ++ [s[i]] := by rw [List.take_add_one, List.getElem?_eq_getElem (by omega)]; rfl
  have hb : bt s (i : Int) = (s[i].toNat : Int) := by unfold bt; rw [Int.toNat_natCast, dif_pos hlt]
  have c1 : (s.data.toList.take i).count 10 ≤ i := Nat.le_trans List.count_le_length (by rw [List.length_take]; omega)
  have c2 : colB (s.data.toList.take i) ≤ i + 1 := by
   unfold colB
   have := (List.takeWhile_prefix (· != 10) (l := (s.data.toList.take i).reverse)).length_le
   rw [List.length_reverse, List.length_take] at this
   omega
  have ih' := ih (i + 1) (by omega) (by omega)
  rw [e, colB_snoc] at ih'
  have w1 : Unit → wrap64 ((((s.data.toList.take i).count 10 : Nat) : Int) + 1 + 1) = (((s.data.toList.take i).count 10 + 1 : Nat) : Int) + 1 := fun _ => by unfold wrap64; omega
  have w2 : Unit → wrap64 ((i : Int) + 1) = ((i + 1 : Nat) : Int) := fun _ => by unfold wrap64; omega
  have w3 : Unit → wrap64 ((colB (s.data.toList.take i) : Int) + 1) = ((colB (s.data.toList.take i) + 1 : Nat) : Int) := fun _ => by unfold wrap64; omega
  rw [show K + (d + 1) + 1 = (K + d + 1) + 1 by omega, taplineref11_Place.l0, if_pos (by omega), if_pos (by omega), if_pos (by omega), hb, w2 ()]
  by_cases h : s[i] = 10
  ·rw [if_pos (by rw [h]; rfl), w1 ()]
   rw [if_pos h, List.count_append, h] at ih'
   exact ih'
  ·rw [if_neg (fun x => h (UInt8.toNat_inj.1 (by have : (10 : UInt8).toNat = 10 := rfl; omega))), w3 ()]
   rw [if_neg h, List.count_append, List.count_cons_of_ne h, List.count_nil, Nat.add_zero] at ih'
   exact ih'
theorem ref_place (s : ByteArray) (hs : s.size ≤ 140737488355328) (a : Nat) (ha : a ≤ s.size) : taplineref11_Place.f (a + 1) s (a : Int) = some ((((s.data.toList.take a).count 10 : Nat) : Int) + 1, (colB (s.data.toList.take a) : Int)) := by
 have := ref_l0 s hs a ha 0 a 0 (by omega) (by omega)
 rw [Nat.zero_add] at this
 exact this
theorem place_inj (l : List UInt8) : ∀ (b a : Nat), a < b → b ≤ l.length → (l.take a).count 10 = (l.take b).count 10 → colB (l.take b) = colB (l.take a) + (b - a)
 | 0, a, h, _, _ => absurd h (by omega)
 | b + 1, a, h, hb, hc => by
  have e : l.take (b + 1) = l.take b ++ [l[b]] := by rw [List.take_add_one, List.getElem?_eq_getElem (by omega)]; rfl
  have hmono : (l.take a).count 10 ≤ (l.take b).count 10 := by
   have : l.take a <+: l.take b := List.take_prefix_take_left (by omega)
   exact this.sublist.count_le _
  rw [e, List.count_append] at hc
  have h10 : l[b] ≠ 10 := by
   intro h
   rw [h] at hc
   have : [(10 : UInt8)].count 10 = 1 := by decide
   omega
  rw [List.count_cons_of_ne h10, List.count_nil, Nat.add_zero] at hc
  rw [e, colB_snoc, if_neg h10]
  rcases Nat.lt_or_ge a b with h1 | h1
  ·rw [place_inj l b a h1 (by omega) hc]; omega
  ·have : a = b := by omega
   subst this; omega
set_option maxRecDepth 100000 in
set_option maxHeartbeats 4000000 in
theorem places_out (s : ByteArray) (a b : Int) (r1 r2 r3 q1 q2 q3 : Int) (w : World) (hgw : GW w) (h1 : lex_Place.f s a = some (r1, r2, r3)) (h2 : lex_Place.f s b = some (q1, q2, q3))
  (hout : a < 0 ∨ (s.size : Int) < a) (hr : r1 = 0 ∧ r2 = 0 ∧ r3 = 1) :
  Calls Tryz.prog 6 #[.string s, .agg #[.int .i64 a, .int .i64 b]] w fun e w' => e = .returned (.bool true) ∧ Below w.heap.size w w' := by
 obtain ⟨rfl, rfl, rfl⟩ := hr
 have C1 := fun w hg => lex_Place.calls s a _ _ _ w h1 hg
 have C2 := fun w hg => lex_Place.calls s b _ _ _ w h2 hg
 have H1 := Lib.hid h1
 have H2 := Lib.hid h2
 clear h1 h2
 by_cases h : a < 0
 ·have d1 : decide (a < 0) = true := decide_eq_true h
  have HO := Lib.hid h
  clear h
  go_enter Tryz.func6, Tryz.ntmps6
  go_wp2_with (first | (go_at_call 16; refine (sane_t.calls true _ rfl (hgw.alloc _)).mono ?_; rintro e w1 ⟨rfl, hb1⟩; have k0 : w1.cell? ⟨w.heap.size, 0, none⟩ = some (.int .i64 a) := (hb1.cell (p := ⟨w.heap.size, 0, none⟩) (by simp)).trans (by simp); have k1 : w1.cell? ⟨w.heap.size, 1, none⟩ = some (.int .i64 b) := (hb1.cell (p := ⟨w.heap.size, 1, none⟩) (by simp)).trans (by simp); have g : GW w1 := (hgw.alloc _).below hb1 (Nat.le_refl _); have kb : Below w.heap.size w w1 := ((Below.refl _ _).alloc (Nat.le_refl _) _).trans (hb1.mono (by simp)); clear hb1) | (go_at_call 26; (with_reducible refine (C1 _ g).mono ?_); rintro e w2 ⟨rfl, hb⟩; have k0' := (hb.cell (World.block_lt_of_cell? _ _ k0)).trans k0; have k1' := (hb.cell (World.block_lt_of_cell? _ _ k1)).trans k1; have g' := GW.below g hb (Nat.le_refl _); have kb' := Below.trans kb (hb.mono kb.size); clear k0 k1 g kb hb; have k0 := k0'; have k1 := k1'; have g := g'; have kb := kb'; clear k0' k1' g' kb') | (go_at_call 26; (with_reducible refine (C2 _ g).mono ?_); rintro e w2 ⟨rfl, hb⟩; have k0' := (hb.cell (World.block_lt_of_cell? _ _ k0)).trans k0; have k1' := (hb.cell (World.block_lt_of_cell? _ _ k1)).trans k1; have g' := GW.below g hb (Nat.le_refl _); have kb' := Below.trans kb (hb.mono kb.size); clear k0 k1 g kb hb; have k0 := k0'; have k1 := k1'; have g := g'; have kb := kb'; clear k0' k1' g' kb') | (go_at_call 27; (with_reducible refine (C3 _).mono ?_); rintro e w2 ⟨rfl, nq, rfl⟩))
  repeat (go_quiet (fail); try go_wp2_with (first | (go_at_call 16; refine (sane_t.calls true _ rfl (hgw.alloc _)).mono ?_; rintro e w1 ⟨rfl, hb1⟩; have k0 : w1.cell? ⟨w.heap.size, 0, none⟩ = some (.int .i64 a) := (hb1.cell (p := ⟨w.heap.size, 0, none⟩) (by simp)).trans (by simp); have k1 : w1.cell? ⟨w.heap.size, 1, none⟩ = some (.int .i64 b) := (hb1.cell (p := ⟨w.heap.size, 1, none⟩) (by simp)).trans (by simp); have g : GW w1 := (hgw.alloc _).below hb1 (Nat.le_refl _); have kb : Below w.heap.size w w1 := ((Below.refl _ _).alloc (Nat.le_refl _) _).trans (hb1.mono (by simp)); clear hb1) | (go_at_call 26; (with_reducible refine (C1 _ g).mono ?_); rintro e w2 ⟨rfl, hb⟩; have k0' := (hb.cell (World.block_lt_of_cell? _ _ k0)).trans k0; have k1' := (hb.cell (World.block_lt_of_cell? _ _ k1)).trans k1; have g' := GW.below g hb (Nat.le_refl _); have kb' := Below.trans kb (hb.mono kb.size); clear k0 k1 g kb hb; have k0 := k0'; have k1 := k1'; have g := g'; have kb := kb'; clear k0' k1' g' kb') | (go_at_call 26; (with_reducible refine (C2 _ g).mono ?_); rintro e w2 ⟨rfl, hb⟩; have k0' := (hb.cell (World.block_lt_of_cell? _ _ k0)).trans k0; have k1' := (hb.cell (World.block_lt_of_cell? _ _ k1)).trans k1; have g' := GW.below g hb (Nat.le_refl _); have kb' := Below.trans kb (hb.mono kb.size); clear k0 k1 g kb hb; have k0 := k0'; have k1 := k1'; have g := g'; have kb := kb'; clear k0' k1' g' kb') | (go_at_call 27; (with_reducible refine (C3 _).mono ?_); rintro e w2 ⟨rfl, nq, rfl⟩)))
  go_ret
  exact ⟨rfl, by first | exact kb | exact pw_below_drewN kb _ | exact kb.drew⟩
 ·have d1 : decide (a < 0) = false := decide_eq_false h
  have d2 : decide ((s.size : Int) < a) = true := decide_eq_true (by omega)
  have HO := Lib.hid hout
  clear h hout
  go_enter Tryz.func6, Tryz.ntmps6
  go_wp2_with (first | (go_at_call 16; refine (sane_t.calls true _ rfl (hgw.alloc _)).mono ?_; rintro e w1 ⟨rfl, hb1⟩; have k0 : w1.cell? ⟨w.heap.size, 0, none⟩ = some (.int .i64 a) := (hb1.cell (p := ⟨w.heap.size, 0, none⟩) (by simp)).trans (by simp); have k1 : w1.cell? ⟨w.heap.size, 1, none⟩ = some (.int .i64 b) := (hb1.cell (p := ⟨w.heap.size, 1, none⟩) (by simp)).trans (by simp); have g : GW w1 := (hgw.alloc _).below hb1 (Nat.le_refl _); have kb : Below w.heap.size w w1 := ((Below.refl _ _).alloc (Nat.le_refl _) _).trans (hb1.mono (by simp)); clear hb1) | (go_at_call 26; (with_reducible refine (C1 _ g).mono ?_); rintro e w2 ⟨rfl, hb⟩; have k0' := (hb.cell (World.block_lt_of_cell? _ _ k0)).trans k0; have k1' := (hb.cell (World.block_lt_of_cell? _ _ k1)).trans k1; have g' := GW.below g hb (Nat.le_refl _); have kb' := Below.trans kb (hb.mono kb.size); clear k0 k1 g kb hb; have k0 := k0'; have k1 := k1'; have g := g'; have kb := kb'; clear k0' k1' g' kb') | (go_at_call 26; (with_reducible refine (C2 _ g).mono ?_); rintro e w2 ⟨rfl, hb⟩; have k0' := (hb.cell (World.block_lt_of_cell? _ _ k0)).trans k0; have k1' := (hb.cell (World.block_lt_of_cell? _ _ k1)).trans k1; have g' := GW.below g hb (Nat.le_refl _); have kb' := Below.trans kb (hb.mono kb.size); clear k0 k1 g kb hb; have k0 := k0'; have k1 := k1'; have g := g'; have kb := kb'; clear k0' k1' g' kb') | (go_at_call 27; (with_reducible refine (C3 _).mono ?_); rintro e w2 ⟨rfl, nq, rfl⟩))
  repeat (go_quiet (fail); try go_wp2_with (first | (go_at_call 16; refine (sane_t.calls true _ rfl (hgw.alloc _)).mono ?_; rintro e w1 ⟨rfl, hb1⟩; have k0 : w1.cell? ⟨w.heap.size, 0, none⟩ = some (.int .i64 a) := (hb1.cell (p := ⟨w.heap.size, 0, none⟩) (by simp)).trans (by simp); have k1 : w1.cell? ⟨w.heap.size, 1, none⟩ = some (.int .i64 b) := (hb1.cell (p := ⟨w.heap.size, 1, none⟩) (by simp)).trans (by simp); have g : GW w1 := (hgw.alloc _).below hb1 (Nat.le_refl _); have kb : Below w.heap.size w w1 := ((Below.refl _ _).alloc (Nat.le_refl _) _).trans (hb1.mono (by simp)); clear hb1) | (go_at_call 26; (with_reducible refine (C1 _ g).mono ?_); rintro e w2 ⟨rfl, hb⟩; have k0' := (hb.cell (World.block_lt_of_cell? _ _ k0)).trans k0; have k1' := (hb.cell (World.block_lt_of_cell? _ _ k1)).trans k1; have g' := GW.below g hb (Nat.le_refl _); have kb' := Below.trans kb (hb.mono kb.size); clear k0 k1 g kb hb; have k0 := k0'; have k1 := k1'; have g := g'; have kb := kb'; clear k0' k1' g' kb') | (go_at_call 26; (with_reducible refine (C2 _ g).mono ?_); rintro e w2 ⟨rfl, hb⟩; have k0' := (hb.cell (World.block_lt_of_cell? _ _ k0)).trans k0; have k1' := (hb.cell (World.block_lt_of_cell? _ _ k1)).trans k1; have g' := GW.below g hb (Nat.le_refl _); have kb' := Below.trans kb (hb.mono kb.size); clear k0 k1 g kb hb; have k0 := k0'; have k1 := k1'; have g := g'; have kb := kb'; clear k0' k1' g' kb') | (go_at_call 27; (with_reducible refine (C3 _).mono ?_); rintro e w2 ⟨rfl, nq, rfl⟩)))
  go_ret
  exact ⟨rfl, by first | exact kb | exact pw_below_drewN kb _ | exact kb.drew⟩
set_option maxRecDepth 100000 in
set_option maxHeartbeats 8000000 in
theorem places_in (s : ByteArray) (a b : Int) (r1 r2 q1 q2 q3 : Int) (k : Nat) (w : World) (hgw : GW w) (h1 : lex_Place.f s a = some (r1, r2, 0)) (h2 : lex_Place.f s b = some (q1, q2, q3)) (h3 : taplineref11_Place.f k s a = some (r1, r2))
  (ha : 0 ≤ a) (ha2 : a ≤ s.size) (hq : q3 = 1 ∨ (q3 = 0 ∧ ((r1 = q1 ∧ r2 = q2) ↔ a = b))) :
  Calls Tryz.prog 6 #[.string s, .agg #[.int .i64 a, .int .i64 b]] w fun e w' => e = .returned (.bool true) ∧ Below w.heap.size w w' := by
 have C1 := fun w hg => lex_Place.calls s a _ _ _ w h1 hg
 have C2 := fun w hg => lex_Place.calls s b _ _ _ w h2 hg
 have C3 := fun w => taplineref11_Place.calls k s a _ _ w h3
 have H1 := Lib.hid h1
 have H2 := Lib.hid h2
 have H3 := Lib.hid h3
 clear h1 h2 h3
 have d1 : decide (a < 0) = false := decide_eq_false (by omega)
 have d2 : decide ((s.size : Int) < a) = false := decide_eq_false (by omega)
 rcases hq with rfl | ⟨rfl, hq⟩
 ·clear ha ha2
  go_enter Tryz.func6, Tryz.ntmps6
  go_wp2_with (first | (go_at_call 16; refine (sane_t.calls true _ rfl (hgw.alloc _)).mono ?_; rintro e w1 ⟨rfl, hb1⟩; have k0 : w1.cell? ⟨w.heap.size, 0, none⟩ = some (.int .i64 a) := (hb1.cell (p := ⟨w.heap.size, 0, none⟩) (by simp)).trans (by simp); have k1 : w1.cell? ⟨w.heap.size, 1, none⟩ = some (.int .i64 b) := (hb1.cell (p := ⟨w.heap.size, 1, none⟩) (by simp)).trans (by simp); have g : GW w1 := (hgw.alloc _).below hb1 (Nat.le_refl _); have kb : Below w.heap.size w w1 := ((Below.refl _ _).alloc (Nat.le_refl _) _).trans (hb1.mono (by simp)); clear hb1) | (go_at_call 26; (with_reducible refine (C1 _ g).mono ?_); rintro e w2 ⟨rfl, hb⟩; have k0' := (hb.cell (World.block_lt_of_cell? _ _ k0)).trans k0; have k1' := (hb.cell (World.block_lt_of_cell? _ _ k1)).trans k1; have g' := GW.below g hb (Nat.le_refl _); have kb' := Below.trans kb (hb.mono kb.size); clear k0 k1 g kb hb; have k0 := k0'; have k1 := k1'; have g := g'; have kb := kb'; clear k0' k1' g' kb') | (go_at_call 26; (with_reducible refine (C2 _ g).mono ?_); rintro e w2 ⟨rfl, hb⟩; have k0' := (hb.cell (World.block_lt_of_cell? _ _ k0)).trans k0; have k1' := (hb.cell (World.block_lt_of_cell? _ _ k1)).trans k1; have g' := GW.below g hb (Nat.le_refl _); have kb' := Below.trans kb (hb.mono kb.size); clear k0 k1 g kb hb; have k0 := k0'; have k1 := k1'; have g := g'; have kb := kb'; clear k0' k1' g' kb') | (go_at_call 27; (with_reducible refine (C3 _).mono ?_); rintro e w2 ⟨rfl, nq, rfl⟩))
  repeat (go_quiet (fail); try go_wp2_with (first | (go_at_call 16; refine (sane_t.calls true _ rfl (hgw.alloc _)).mono ?_; rintro e w1 ⟨rfl, hb1⟩; have k0 : w1.cell? ⟨w.heap.size, 0, none⟩ = some (.int .i64 a) := (hb1.cell (p := ⟨w.heap.size, 0, none⟩) (by simp)).trans (by simp); have k1 : w1.cell? ⟨w.heap.size, 1, none⟩ = some (.int .i64 b) := (hb1.cell (p := ⟨w.heap.size, 1, none⟩) (by simp)).trans (by simp); have g : GW w1 := (hgw.alloc _).below hb1 (Nat.le_refl _); have kb : Below w.heap.size w w1 := ((Below.refl _ _).alloc (Nat.le_refl _) _).trans (hb1.mono (by simp)); clear hb1) | (go_at_call 26; (with_reducible refine (C1 _ g).mono ?_); rintro e w2 ⟨rfl, hb⟩; have k0' := (hb.cell (World.block_lt_of_cell? _ _ k0)).trans k0; have k1' := (hb.cell (World.block_lt_of_cell? _ _ k1)).trans k1; have g' := GW.below g hb (Nat.le_refl _); have kb' := Below.trans kb (hb.mono kb.size); clear k0 k1 g kb hb; have k0 := k0'; have k1 := k1'; have g := g'; have kb := kb'; clear k0' k1' g' kb') | (go_at_call 26; (with_reducible refine (C2 _ g).mono ?_); rintro e w2 ⟨rfl, hb⟩; have k0' := (hb.cell (World.block_lt_of_cell? _ _ k0)).trans k0; have k1' := (hb.cell (World.block_lt_of_cell? _ _ k1)).trans k1; have g' := GW.below g hb (Nat.le_refl _); have kb' := Below.trans kb (hb.mono kb.size); clear k0 k1 g kb hb; have k0 := k0'; have k1 := k1'; have g := g'; have kb := kb'; clear k0' k1' g' kb') | (go_at_call 27; (with_reducible refine (C3 _).mono ?_); rintro e w2 ⟨rfl, nq, rfl⟩)))
  go_ret
  exact ⟨rfl, by first | exact kb | exact pw_below_drewN kb _ | exact kb.drew⟩
 ·by_cases hab : a = b
  ·obtain ⟨e1, e2⟩ := hq.2 hab
   have nab : (a == b) = true := beq_iff_eq.2 hab
   have n1 : (r1 == q1) = true := beq_iff_eq.2 e1
   have n2 : (r2 == q2) = true := beq_iff_eq.2 e2
   clear hq hab e1 e2 ha ha2
   go_enter Tryz.func6, Tryz.ntmps6
   go_wp2_with (first | (go_at_call 16; refine (sane_t.calls true _ rfl (hgw.alloc _)).mono ?_; rintro e w1 ⟨rfl, hb1⟩; have k0 : w1.cell? ⟨w.heap.size, 0, none⟩ = some (.int .i64 a) := (hb1.cell (p := ⟨w.heap.size, 0, none⟩) (by simp)).trans (by simp); have k1 : w1.cell? ⟨w.heap.size, 1, none⟩ = some (.int .i64 b) := (hb1.cell (p := ⟨w.heap.size, 1, none⟩) (by simp)).trans (by simp); have g : GW w1 := (hgw.alloc _).below hb1 (Nat.le_refl _); have kb : Below w.heap.size w w1 := ((Below.refl _ _).alloc (Nat.le_refl _) _).trans (hb1.mono (by simp)); clear hb1) | (go_at_call 26; (with_reducible refine (C1 _ g).mono ?_); rintro e w2 ⟨rfl, hb⟩; have k0' := (hb.cell (World.block_lt_of_cell? _ _ k0)).trans k0; have k1' := (hb.cell (World.block_lt_of_cell? _ _ k1)).trans k1; have g' := GW.below g hb (Nat.le_refl _); have kb' := Below.trans kb (hb.mono kb.size); clear k0 k1 g kb hb; have k0 := k0'; have k1 := k1'; have g := g'; have kb := kb'; clear k0' k1' g' kb') | (go_at_call 26; (with_reducible refine (C2 _ g).mono ?_); rintro e w2 ⟨rfl, hb⟩; have k0' := (hb.cell (World.block_lt_of_cell? _ _ k0)).trans k0; have k1' := (hb.cell (World.block_lt_of_cell? _ _ k1)).trans k1; have g' := GW.below g hb (Nat.le_refl _); have kb' := Below.trans kb (hb.mono kb.size); clear k0 k1 g kb hb; have k0 := k0'; have k1 := k1'; have g := g'; have kb := kb'; clear k0' k1' g' kb') | (go_at_call 27; (with_reducible refine (C3 _).mono ?_); rintro e w2 ⟨rfl, nq, rfl⟩))
   repeat (go_quiet (fail); try go_wp2_with (first | (go_at_call 16; refine (sane_t.calls true _ rfl (hgw.alloc _)).mono ?_; rintro e w1 ⟨rfl, hb1⟩; have k0 : w1.cell? ⟨w.heap.size, 0, none⟩ = some (.int .i64 a) := (hb1.cell (p := ⟨w.heap.size, 0, none⟩) (by simp)).trans (by simp); have k1 : w1.cell? ⟨w.heap.size, 1, none⟩ = some (.int .i64 b) := (hb1.cell (p := ⟨w.heap.size, 1, none⟩) (by simp)).trans (by simp); have g : GW w1 := (hgw.alloc _).below hb1 (Nat.le_refl _); have kb : Below w.heap.size w w1 := ((Below.refl _ _).alloc (Nat.le_refl _) _).trans (hb1.mono (by simp)); clear hb1) | (go_at_call 26; (with_reducible refine (C1 _ g).mono ?_); rintro e w2 ⟨rfl, hb⟩; have k0' := (hb.cell (World.block_lt_of_cell? _ _ k0)).trans k0; have k1' := (hb.cell (World.block_lt_of_cell? _ _ k1)).trans k1; have g' := GW.below g hb (Nat.le_refl _); have kb' := Below.trans kb (hb.mono kb.size); clear k0 k1 g kb hb; have k0 := k0'; have k1 := k1'; have g := g'; have kb := kb'; clear k0' k1' g' kb') | (go_at_call 26; (with_reducible refine (C2 _ g).mono ?_); rintro e w2 ⟨rfl, hb⟩; have k0' := (hb.cell (World.block_lt_of_cell? _ _ k0)).trans k0; have k1' := (hb.cell (World.block_lt_of_cell? _ _ k1)).trans k1; have g' := GW.below g hb (Nat.le_refl _); have kb' := Below.trans kb (hb.mono kb.size); clear k0 k1 g kb hb; have k0 := k0'; have k1 := k1'; have g := g'; have kb := kb'; clear k0' k1' g' kb') | (go_at_call 27; (with_reducible refine (C3 _).mono ?_); rintro e w2 ⟨rfl, nq, rfl⟩)))
   go_ret
   exact ⟨rfl, by first | exact kb | exact pw_below_drewN kb _ | exact kb.drew⟩
  ·have nab : (a == b) = false := beq_eq_false_iff_ne.2 hab
   by_cases e1 : r1 = q1
   ·have n2 : (r2 == q2) = false := beq_eq_false_iff_ne.2 (fun e2 => hab (hq.1 ⟨e1, e2⟩))
    clear hq hab ha ha2
    subst e1
    go_enter Tryz.func6, Tryz.ntmps6
    go_wp2_with (first | (go_at_call 16; refine (sane_t.calls true _ rfl (hgw.alloc _)).mono ?_; rintro e w1 ⟨rfl, hb1⟩; have k0 : w1.cell? ⟨w.heap.size, 0, none⟩ = some (.int .i64 a) := (hb1.cell (p := ⟨w.heap.size, 0, none⟩) (by simp)).trans (by simp); have k1 : w1.cell? ⟨w.heap.size, 1, none⟩ = some (.int .i64 b) := (hb1.cell (p := ⟨w.heap.size, 1, none⟩) (by simp)).trans (by simp); have g : GW w1 := (hgw.alloc _).below hb1 (Nat.le_refl _); have kb : Below w.heap.size w w1 := ((Below.refl _ _).alloc (Nat.le_refl _) _).trans (hb1.mono (by simp)); clear hb1) | (go_at_call 26; (with_reducible refine (C1 _ g).mono ?_); rintro e w2 ⟨rfl, hb⟩; have k0' := (hb.cell (World.block_lt_of_cell? _ _ k0)).trans k0; have k1' := (hb.cell (World.block_lt_of_cell? _ _ k1)).trans k1; have g' := GW.below g hb (Nat.le_refl _); have kb' := Below.trans kb (hb.mono kb.size); clear k0 k1 g kb hb; have k0 := k0'; have k1 := k1'; have g := g'; have kb := kb'; clear k0' k1' g' kb') | (go_at_call 26; (with_reducible refine (C2 _ g).mono ?_); rintro e w2 ⟨rfl, hb⟩; have k0' := (hb.cell (World.block_lt_of_cell? _ _ k0)).trans k0; have k1' := (hb.cell (World.block_lt_of_cell? _ _ k1)).trans k1; have g' := GW.below g hb (Nat.le_refl _); have kb' := Below.trans kb (hb.mono kb.size); clear k0 k1 g kb hb; have k0 := k0'; have k1 := k1'; have g := g'; have kb := kb'; clear k0' k1' g' kb') | (go_at_call 27; (with_reducible refine (C3 _).mono ?_); rintro e w2 ⟨rfl, nq, rfl⟩))
    repeat (go_quiet (fail); try go_wp2_with (first | (go_at_call 16; refine (sane_t.calls true _ rfl (hgw.alloc _)).mono ?_; rintro e w1 ⟨rfl, hb1⟩; have k0 : w1.cell? ⟨w.heap.size, 0, none⟩ = some (.int .i64 a) := (hb1.cell (p := ⟨w.heap.size, 0, none⟩) (by simp)).trans (by simp); have k1 : w1.cell? ⟨w.heap.size, 1, none⟩ = some (.int .i64 b) := (hb1.cell (p := ⟨w.heap.size, 1, none⟩) (by simp)).trans (by simp); have g : GW w1 := (hgw.alloc _).below hb1 (Nat.le_refl _); have kb : Below w.heap.size w w1 := ((Below.refl _ _).alloc (Nat.le_refl _) _).trans (hb1.mono (by simp)); clear hb1) | (go_at_call 26; (with_reducible refine (C1 _ g).mono ?_); rintro e w2 ⟨rfl, hb⟩; have k0' := (hb.cell (World.block_lt_of_cell? _ _ k0)).trans k0; have k1' := (hb.cell (World.block_lt_of_cell? _ _ k1)).trans k1; have g' := GW.below g hb (Nat.le_refl _); have kb' := Below.trans kb (hb.mono kb.size); clear k0 k1 g kb hb; have k0 := k0'; have k1 := k1'; have g := g'; have kb := kb'; clear k0' k1' g' kb') | (go_at_call 26; (with_reducible refine (C2 _ g).mono ?_); rintro e w2 ⟨rfl, hb⟩; have k0' := (hb.cell (World.block_lt_of_cell? _ _ k0)).trans k0; have k1' := (hb.cell (World.block_lt_of_cell? _ _ k1)).trans k1; have g' := GW.below g hb (Nat.le_refl _); have kb' := Below.trans kb (hb.mono kb.size); clear k0 k1 g kb hb; have k0 := k0'; have k1 := k1'; have g := g'; have kb := kb'; clear k0' k1' g' kb') | (go_at_call 27; (with_reducible refine (C3 _).mono ?_); rintro e w2 ⟨rfl, nq, rfl⟩)))
    go_ret
    exact ⟨rfl, by first | exact kb | exact pw_below_drewN kb _ | exact kb.drew⟩
   ·have n1 : (r1 == q1) = false := beq_eq_false_iff_ne.2 e1
    clear hq hab ha ha2 e1
    go_enter Tryz.func6, Tryz.ntmps6
    go_wp2_with (first | (go_at_call 16; refine (sane_t.calls true _ rfl (hgw.alloc _)).mono ?_; rintro e w1 ⟨rfl, hb1⟩; have k0 : w1.cell? ⟨w.heap.size, 0, none⟩ = some (.int .i64 a) := (hb1.cell (p := ⟨w.heap.size, 0, none⟩) (by simp)).trans (by simp); have k1 : w1.cell? ⟨w.heap.size, 1, none⟩ = some (.int .i64 b) := (hb1.cell (p := ⟨w.heap.size, 1, none⟩) (by simp)).trans (by simp); have g : GW w1 := (hgw.alloc _).below hb1 (Nat.le_refl _); have kb : Below w.heap.size w w1 := ((Below.refl _ _).alloc (Nat.le_refl _) _).trans (hb1.mono (by simp)); clear hb1) | (go_at_call 26; (with_reducible refine (C1 _ g).mono ?_); rintro e w2 ⟨rfl, hb⟩; have k0' := (hb.cell (World.block_lt_of_cell? _ _ k0)).trans k0; have k1' := (hb.cell (World.block_lt_of_cell? _ _ k1)).trans k1; have g' := GW.below g hb (Nat.le_refl _); have kb' := Below.trans kb (hb.mono kb.size); clear k0 k1 g kb hb; have k0 := k0'; have k1 := k1'; have g := g'; have kb := kb'; clear k0' k1' g' kb') | (go_at_call 26; (with_reducible refine (C2 _ g).mono ?_); rintro e w2 ⟨rfl, hb⟩; have k0' := (hb.cell (World.block_lt_of_cell? _ _ k0)).trans k0; have k1' := (hb.cell (World.block_lt_of_cell? _ _ k1)).trans k1; have g' := GW.below g hb (Nat.le_refl _); have kb' := Below.trans kb (hb.mono kb.size); clear k0 k1 g kb hb; have k0 := k0'; have k1 := k1'; have g := g'; have kb := kb'; clear k0' k1' g' kb') | (go_at_call 27; (with_reducible refine (C3 _).mono ?_); rintro e w2 ⟨rfl, nq, rfl⟩))
    repeat (go_quiet (fail); try go_wp2_with (first | (go_at_call 16; refine (sane_t.calls true _ rfl (hgw.alloc _)).mono ?_; rintro e w1 ⟨rfl, hb1⟩; have k0 : w1.cell? ⟨w.heap.size, 0, none⟩ = some (.int .i64 a) := (hb1.cell (p := ⟨w.heap.size, 0, none⟩) (by simp)).trans (by simp); have k1 : w1.cell? ⟨w.heap.size, 1, none⟩ = some (.int .i64 b) := (hb1.cell (p := ⟨w.heap.size, 1, none⟩) (by simp)).trans (by simp); have g : GW w1 := (hgw.alloc _).below hb1 (Nat.le_refl _); have kb : Below w.heap.size w w1 := ((Below.refl _ _).alloc (Nat.le_refl _) _).trans (hb1.mono (by simp)); clear hb1) | (go_at_call 26; (with_reducible refine (C1 _ g).mono ?_); rintro e w2 ⟨rfl, hb⟩; have k0' := (hb.cell (World.block_lt_of_cell? _ _ k0)).trans k0; have k1' := (hb.cell (World.block_lt_of_cell? _ _ k1)).trans k1; have g' := GW.below g hb (Nat.le_refl _); have kb' := Below.trans kb (hb.mono kb.size); clear k0 k1 g kb hb; have k0 := k0'; have k1 := k1'; have g := g'; have kb := kb'; clear k0' k1' g' kb') | (go_at_call 26; (with_reducible refine (C2 _ g).mono ?_); rintro e w2 ⟨rfl, hb⟩; have k0' := (hb.cell (World.block_lt_of_cell? _ _ k0)).trans k0; have k1' := (hb.cell (World.block_lt_of_cell? _ _ k1)).trans k1; have g' := GW.below g hb (Nat.le_refl _); have kb' := Below.trans kb (hb.mono kb.size); clear k0 k1 g kb hb; have k0 := k0'; have k1 := k1'; have g := g'; have kb := kb'; clear k0' k1' g' kb') | (go_at_call 27; (with_reducible refine (C3 _).mono ?_); rintro e w2 ⟨rfl, nq, rfl⟩)))
    go_ret
    exact ⟨rfl, by first | exact kb | exact pw_below_drewN kb _ | exact kb.drew⟩
theorem places_any (s : ByteArray) (hs : s.size ≤ 140737488355328) (a b : Int) (w : World) (hgw : GW w) :
  Calls Tryz.prog 6 #[.string s, .agg #[.int .i64 a, .int .i64 b]] w fun e w' => e = .returned (.bool true) ∧ Below w.heap.size w w' := by
 have h1 := place_f s hs a
 have h2 := place_f s hs b
 have hl : s.data.toList.length = s.size := (Lib.size_eq s).symm
 by_cases ha : a < 0 ∨ (s.size : Int) < a
 ·rw [if_pos ha] at h1
  by_cases hb : b < 0 ∨ (s.size : Int) < b
  ·rw [if_pos hb] at h2
   exact places_out s a b _ _ _ _ _ _ w hgw h1 h2 ha ⟨rfl, rfl, rfl⟩
  ·rw [if_neg hb] at h2
   exact places_out s a b _ _ _ _ _ _ w hgw h1 h2 ha ⟨rfl, rfl, rfl⟩
 ·rw [if_neg ha] at h1
  obtain ⟨n, rfl⟩ := Int.eq_ofNat_of_zero_le (show 0 ≤ a by omega)
  have h3 := ref_place s hs n (by omega)
  rw [Int.toNat_natCast] at h1
  by_cases hb : b < 0 ∨ (s.size : Int) < b
  ·rw [if_pos hb] at h2
   exact places_in s n b _ _ _ _ _ _ w hgw h1 h2 h3 (by omega) (by omega) (.inl rfl)
  ·rw [if_neg hb] at h2
   obtain ⟨m, rfl⟩ := Int.eq_ofNat_of_zero_le (show 0 ≤ b by omega)
   rw [Int.toNat_natCast] at h2
   refine places_in s n m _ _ _ _ _ _ w hgw h1 h2 h3 (by omega) (by omega) (.inr ⟨rfl, fun ⟨e1, e2⟩ => ?_, fun e => ?_⟩)
   ·have e1' : (s.data.toList.take n).count 10 = (s.data.toList.take m).count 10 := by omega
    have e2' : colB (s.data.toList.take n) = colB (s.data.toList.take m) := by omega
    rcases Nat.lt_trichotomy n m with h | h | h
    ·have := place_inj s.data.toList m n h (by omega) e1'
     omega
    ·rw [h]
    ·have := place_inj s.data.toList n m h (by omega) e1'.symm
     omega
   ·have : n = m := by omega
    rw [this]; exact ⟨rfl, rfl⟩
end Go.Proofs.YtadgddipkbdnbaaGreatDoor.Q
set_option linter.unusedVariables false
set_option linter.unusedSimpArgs false
namespace Go.Proofs.YtadgddipkbdnbaaGreatDoor.Q
open Go.Joins Go.ChangeShapes Go.WideShapes Go.RowKit Go.Deep Go.Proofs.YtadgddipkbdnbaaGreatDoor YtadgddipkbdnbaaGreatDoorW.PrintWords YtadgddipkbdnbaaGreatDoorW.PrintLast
theorem laidOut : laidOutB Tryz.prog = true := by kernel_rfl
section
variable {H : Type} {enc : TypeId × Value → H} {W : World}
set_option maxRecDepth 100000 in
theorem open_arr2 {r : Reach} {b0 : Nat} {v : Value} {d : DataW H} {p : List MemPlace} (hv : Value.okWide Tryz.prog W r b0 41 v) (h : DataW.Trod enc Tryz.prog W 0 (fun _ => true) true 41 v d p) :
  ∃ a b : Int, v = .agg #[.int .i64 a, .int .i64 b] := by
 have hu : Tryz.prog.underlying 41 = some (.array 2 3) := Tryz.underlying41
 have hc : Tryz.prog.cellsOf 41 = 2 := by kernel_rfl
 have hc3 : Tryz.prog.cellsOf 3 = 1 := by kernel_rfl
 obtain ⟨cs, rfl, hsz⟩ : ∃ cs, v = .agg cs ∧ cs.size = 2 := by
  simp only [Value.okWide, hu] at hv
  obtain ⟨cs, h1, h2, _⟩ := hv
  exact ⟨cs, h1, h2.trans hc⟩
 obtain ⟨fuel, hf⟩ := h
 obtain ⟨xs, m, -, -, hl, hxl, hi⟩ := DataW.trod_array hu hf
 obtain ⟨l⟩ := cs
 match l, hsz with
 | [c0, c1], _ =>
  have g0 := hi 0 (by omega)
  have g1 := hi 1 (by omega)
  rw [hc3] at g0 g1
  rw [List.getElem?_eq_getElem (by omega)] at g0 g1
  obtain ⟨a, h0, -, -⟩ := DataW.trod_int Tryz.underlying3 g0
  obtain ⟨b, h1, -, -⟩ := DataW.trod_int Tryz.underlying3 g1
  simp [Value.cells] at h0 h1
  exact ⟨a, b, by rw [h0, h1]⟩
end
end Go.Proofs.YtadgddipkbdnbaaGreatDoor.Q
set_option linter.unusedVariables false
set_option linter.unusedSimpArgs false
namespace Go.Proofs.YtadgddipkbdnbaaGreatDoor.lexPlaces
open Go.ChangeShapes Go.WideShapes Go.ChangeAt Go.RowKit
open Go.ChangeMaps (open_string shut_string)
set_option maxRecDepth 100000 in
theorem lifted (os : Os) (started : os.Started) (H : Type) (enc : TypeId × Value → H) :
  ReturnsInHanded {} Tryz.checked os 6 .any (fun w args => (Rows.lexPlacesSpec.pre enc Tryz.prog Tryz.f6 [] false w args ∧ laidMetH Tryz.prog lexLaid w) ∧ sizedMet enc Tryz.prog Tryz.f6 (OpenSpec.ofChange Rows.lexPlacesSpec) false w args)
   (Rows.lexPlacesSpec.post enc Tryz.prog Tryz.f6 false true false false) := by
 refine handed_and_shaped (C := Tryz.checked) (X := fun w _ => laidMetH Tryz.prog lexLaid w) (fun _ _ _ hh h => h.of_heap hh) own started (by kernel_rfl) Tryz.func6
  (ChangeSpec.witness_shaped (enc := enc) (C := Tryz.checked) (os := os) (X := fun w _ => laidMetH Tryz.prog lexLaid w) false (World.doorLaid Tryz.prog 400 os) #[.string ByteArray.empty, .agg #[.int .i64 0, .int .i64 0]] 8 rfl (World.shaped_of_RefB (by kernel_rfl) (by kernel_rfl)) (by kernel_rfl) (by kernel_rfl) (by kernel_rfl) (door_met os _)) ?_
 intro W base args ds gs before hval0 hW hcnd hsz0 hL hsh _
 have hgw := of_laid hL hsh
 clear hL hsh
 have hsz : (DataW.weightsEach Tryz.prog (Tryz.f6.params.toList ++ Rows.lexPlacesSpec.plain.varTypes Tryz.prog) (ds ++ gs)).all (· ≤ reachBytes) = true := hsz0
 have hval : ∀ (j : Nat) t v, Tryz.f6.params[j]? = some t → args[j]? = some v → Value.okWide Tryz.prog W .any base t v := hval0
 have hW' := hW
 obtain ⟨p, q, hA0, hV, rfl, hfz, hnd⟩ := hW
 have hA : DataW.TrodAll enc Tryz.prog W 0 (fun _ => true) true Tryz.f6.params.toList args.toList ds p := hA0
 rw [Tryz.params6] at hA hval hsz
 obtain ⟨v0, vs0, d0, ds0, p0, q0, hargs, rfl, rfl, h0, r0⟩ := trodAll_cons hA
 obtain ⟨v1, vs1, d1, ds1, p1, q1, rfl, rfl, rfl, h1, r1⟩ := trodAll_cons r0
 obtain ⟨rfl, rfl, rfl⟩ := trodAll_nil r1
 obtain rfl : args = #[v0, v1] := by cases args; simp_all
 obtain ⟨rfl, rfl⟩ := trodVars_none hV
 obtain ⟨a0, rfl, rfl, rfl, y0⟩ := open_string Tryz.underlying9 (hval 0 9 v0 rfl rfl) h0
 have w0 : a0.size ≤ 140737488351232 := by
  have z := sized_string hsz (j := 0) (t := 9) rfl rfl
  rw [Array.length_toList] at z
  exact z
 have k1 := h1
 have lt1 : ∀ x ∈ p1, x.block < W.heap.size := by obtain ⟨m, hm⟩ := k1; exact DataW.trod_lt m _ _ _ hm
 obtain ⟨a1, b1, rfl⟩ := Q.open_arr2 (hval 1 41 v1 rfl rfl) h1
 clear hA0 hval0 hsz0 hsz
 refine (Q.places_any a0 (by omega) a1 b1 W hgw).mono fun e W' ⟨he, bel⟩ => ?_
 subst he
 exact ⟨_, rfl, _, _, _, [], _, [], hW', trodAll_mk1 (shut_bool Tryz.underlying4 _), (trodAll_cons_mk (shut_string Tryz.underlying9 y0) (trodAll_cons_mk (Below.trod Q.laidOut (by kernel_rfl) (of_decide_eq_true (by kernel_rfl)) k1 bel lt1) trodAll_mk0)), rfl, bel.frame _, fun h => by cases h⟩
theorem over : Rows.LexPlacesSaid :=
 OpenClaim.holds_of_wide 6 Tryz.f6 rfl rfl rfl rfl rfl rfl rfl ⟨rfl, rfl, rfl, rfl, rfl⟩ rfl rfl rfl rfl rfl (by kernel_rfl) Tryz.func6 (by kernel_rfl)
  (of_decide_eq_true (by kernel_rfl)) (by unfold Func.isWrapper; first | (rw [if_pos (by decide +kernel)]; kernel_rfl) | (rw [if_neg (by decide +kernel)]; exact ⟨rfl, rfl⟩))
  (fun os started H enc _ => lifted os started H enc)
end Go.Proofs.YtadgddipkbdnbaaGreatDoor.lexPlaces
namespace Go.Proofs.YtadgddipkbdnbaaGreatDoor
theorem lexPlaces_card : Rows.LexPlacesCardSaid :=
 Claim7.holds_tied_plain_at .later [] [.data, .data, .data, .sentinel, .sentinel, .listed, .data, .data] true (true, "85ed3a9bdcdf405d5b0a35b2759147de3913577c107b7173cad54d4ee995d561") true
  lexPlaces.over (fun _ h => by cases h) (by kernel_rfl) (fun _ h => by cases h) lexPlaces_row_tie rfl ⟨rfl, rfl⟩ (by kernel_rfl) rfl
  (fun f fn hf hfn => by
   obtain rfl : f = 6 := Option.some.inj ((show Tryz.prog.funcNamed "tapline/taplinelaw11.LexPlaces" = some 6 by kernel_rfl).symm.trans hf) |>.symm
   obtain rfl : fn = Tryz.f6 := (Option.some.inj (Tryz.func6.symm.trans hfn)).symm
   exact ⟨by kernel_rfl, fun j t ht => by
    rw [Tryz.params6] at ht
    have hm : t ∈ [9, 41] := by simpa using Array.mem_of_getElem? ht
    have hall : ([9, 41].all fun u => !Tryz.prog.wantsStandIn u) = true := by kernel_rfl
    exact (show Tryz.prog.wantsStandIn t = false by simpa using List.all_eq_true.1 hall t hm)⟩)
  (by kernel_rfl)
#print axioms lexPlaces_card
end Go.Proofs.YtadgddipkbdnbaaGreatDoor
