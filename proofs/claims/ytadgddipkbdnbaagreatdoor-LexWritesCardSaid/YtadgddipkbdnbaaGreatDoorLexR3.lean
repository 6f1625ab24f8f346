/- Parts of the proof: see the last text -/
import Derived.Test.YtadgddipkbdnbaaGreatDoorLexP1
import Derived.Test.YtadgddipkbdnbaaGreatDoorLexP2
import Derived.Test.YtadgddipkbdnbaaGreatDoorLexP3
import Derived.Test.YtadgddipkbdnbaaGreatDoorLexP4
import Derived.Test.YtadgddipkbdnbaaGreatDoorLexP5
import Derived.Test.YtadgddipkbdnbaaGreatDoorLexP6
import Derived.Test.YtadgddipkbdnbaaGreatDoorLexR1
import Derived.Test.YtadgddipkbdnbaaGreatDoorLexR2
set_option linter.unusedVariables false
set_option linter.unusedSimpArgs false
namespace Go.Proofs.YtadgddipkbdnbaaGreatDoor.Q
open Go.RowKit Go.Proofs.YtadgddipkbdnbaaGreatDoor YtadgddipkbdnbaaGreatDoorW.PrintWords YtadgddipkbdnbaaGreatDoorW.PrintLast
def hexI (c : UInt8) : Int := if Lx.isHex c then (Lx.hexVal c : Int) else -1
theorem hex_f : ∀ c : UInt8, taplineref11_hex.f 2 (c.toNat : Int) = some (hexI c) := u8_all _ (by decide +kernel)
theorem hexI_ge : ∀ c : UInt8, -1 ≤ hexI c ∧ hexI c < 16 ∧ (0 ≤ hexI c ↔ Lx.isHex c = true) ∧ (0 ≤ hexI c → hexI c = (Lx.hexVal c : Int)) := u8_all _ (by decide +kernel)
theorem hex_any (c : UInt8) (v : Int) (h : hexI c = v) (w : World) : Calls Tryz.prog 87 #[.int .u8 (c.toNat : Int)] w fun e w' => e = .returned (.int .i64 v) ∧ Drawn0 w w' :=
 taplineref11_hex.calls 2 _ _ w (by rw [hex_f, h])
theorem hex_same (c : UInt8) (v : Int) (h : hexI c = v) (w : World) : ∀ n, Calls Tryz.prog 87 #[.int .u8 (c.toNat : Int)] (w.drewN n) fun e w' => e = .returned (.int .i64 v) ∧ ∃ m, w' = w.drewN m := by
 intro n
 refine (hex_any c v h _).mono ?_
 rintro e w' ⟨rfl, m, rfl⟩
 exact ⟨rfl, n + m, by rw [World.drewN_drewN]⟩
def CharR (l : List UInt8) (e : Ending) : Prop := e = .returned (match Lx.char l with | some (c, k) => .agg #[.int .u8 (c.toNat : Int), .int .i64 (k : Int)] | none => .agg #[.int .u8 0, .int .i64 0])
theorem charR_none {l : List UInt8} (h : Lx.char l = none) : CharR l (.returned (.agg #[.int .u8 0, .int .i64 0])) := by unfold CharR; rw [h]
theorem charR_some {l : List UInt8} {c : UInt8} {k : Nat} (h : Lx.char l = some (c, k)) {v n : Int} (hv : v = c.toNat) (hn : n = k) : CharR l (.returned (.agg #[.int .u8 v, .int .i64 n])) := by unfold CharR; rw [h, hv, hn]
theorem ne_of_u8 {c : UInt8} {n : Nat} {k : UInt8} (hk : k.toNat = n) (h : ¬ c = k) : ((c.toNat : Int) == (n : Int)) = false := by rw [beq_eq_false_iff_ne]; exact fun e => h (UInt8.toNat_inj.1 (by omega))
theorem two_heap (w : World) (n : Nat) (x y u v : Value) (T : TypeId) : ((((w.alloc (.cells #[x, y] T)).drewN n).setCell ⟨w.heap.size, 0, none⟩ u).setCell ⟨w.heap.size, 1, none⟩ v).heap[w.heap.size]? = some (.cells #[u, v] T (0, 0)) :=
 blk_put (cs := #[u, y]) (blk_put (cs := #[x, y]) (heap_alloc_new w _) 0 u rfl) 1 v rfl
theorem two_below (w : World) (n : Nat) (o : Obj) (u v : Value) : Below w.heap.size w ((((w.alloc o).drewN n).setCell ⟨w.heap.size, 0, none⟩ u).setCell ⟨w.heap.size, 1, none⟩ v) :=
 ((pw_below_drewN ((Below.refl _ _).alloc (Nat.le_refl _) _) n).setCell (Nat.le_refl _) _).setCell (Nat.le_refl _) _
set_option maxRecDepth 100000 in
set_option maxHeartbeats 8000000 in
theorem refchar_hex (s : ByteArray) (a : Nat) (w : World) (hs : s.size ≤ 140737488355328) (ha : a < 1000000000000000000) (h1 : a < s.size) (h2 : a + 1 < s.size) (h92 : s[a] = 92) (hd : s[a + 1] = 120) :
  Calls Tryz.prog 86 #[.string s, .int .i64 (a : Int)] w fun e w' => CharR (s.data.toList.drop a) e ∧ Below w.heap.size w w' := by
 have d1 := drop_at s a h1
 have d2 := drop_at s (a + 1) h2
 have b0 : ((s[a].toNat : Int) == 0) = false := by rw [h92]; rfl
 have b10 : ((s[a].toNat : Int) == 10) = false := by rw [h92]; rfl
 have b92 : ((s[a].toNat : Int) != 92) = false := by rw [h92]; rfl
 have e110 : ((s[a + 1].toNat : Int) == 110) = false := by rw [hd]; rfl
 have e116 : ((s[a + 1].toNat : Int) == 116) = false := by rw [hd]; rfl
 have e114 : ((s[a + 1].toNat : Int) == 114) = false := by rw [hd]; rfl
 have e92 : ((s[a + 1].toNat : Int) == 92) = false := by rw [hd]; rfl
 have e34 : ((s[a + 1].toNat : Int) == 34) = false := by rw [hd]; rfl
 have e39 : ((s[a + 1].toNat : Int) == 39) = false := by rw [hd]; rfl
 have e120 : ((s[a + 1].toNat : Int) == 120) = true := by rw [hd]; rfl
 have hxe : Lx.char (s.data.toList.drop a) = Lx.hexes (s.data.toList.drop (a + 2)) := by
  rw [d1, d2]; simp [Lx.char, Lx.charC, Lx.escT, Lx.esc, h92, hd]
 have hw3 : IntKind.i64.wrap ((a : Int) + 3) = (a : Int) + 3 := IntWalk.i64_in _ (by omega)
 have hw2 : IntKind.i64.wrap ((a : Int) + 2) = (a : Int) + 2 := IntWalk.i64_in _ (by omega)
 by_cases h3 : a + 3 < s.size
 ·have hd3 : decide ((a : Int) + 3 < (s.size : Int)) = true := decide_eq_true (by omega)
  have z2 : (0 ≤ (a : Int) + 2) = True := eq_true (by omega)
  have z3 : (0 ≤ (a : Int) + 3) = True := eq_true (by omega)
  have y2 : ((a : Int) + 2 < (s.size : Int)) = True := eq_true (by omega)
  have y3 : ((a : Int) + 3 < (s.size : Int)) = True := eq_true (by omega)
  have t2 : ((a : Int) + 2).toNat = a + 2 := by omega
  have t3 : ((a : Int) + 3).toNat = a + 3 := by omega
  have d3 := drop_at s (a + 2) (by omega)
  have d4 := drop_at s (a + 3) h3
  obtain ⟨r1, r2, r3, r4⟩ := hexI_ge s[a + 2]
  obtain ⟨q1, q2, q3, q4⟩ := hexI_ge s[a + 3]
  have hy2 := hex_any s[a + 2] _ rfl
  have hy3 := hex_any s[a + 3] _ rfl
  have hx2 := hex_same s[a + 2] _ rfl
  have hx3 := hex_same s[a + 3] _ rfl
  rw [d3, d4] at hxe
  obtain ⟨v2, hv2⟩ : ∃ v, v = hexI s[a + 2] := ⟨_, rfl⟩
  obtain ⟨v3, hv3⟩ : ∃ v, v = hexI s[a + 3] := ⟨_, rfl⟩
  rw [← hv2] at r1 r2 r3 r4 hx2 hy2
  rw [← hv3] at q1 q2 q3 q4 hx3 hy3
  have hw4 : IntKind.i64.wrap (v2 + v3) = v2 + v3 := IntWalk.i64_in _ (by omega)
  have hw5 : IntKind.i64.wrap (16 * v2) = 16 * v2 := IntWalk.i64_in _ (by omega)
  have hw6 : IntKind.i64.wrap (16 * v2 + v3) = 16 * v2 + v3 := IntWalk.i64_in _ (by omega)
  by_cases g2 : 0 ≤ v2
  ·have p2 : decide (0 ≤ v2) = true := decide_eq_true g2
   by_cases g3 : 0 ≤ v3
   ·have p3 : decide (0 ≤ v3) = true := decide_eq_true g3
    by_cases g4 : 0 < v2 + v3
    ·have p4 : decide (0 < v2 + v3) = true := decide_eq_true g4
     have hch : Lx.char (s.data.toList.drop a) = some (UInt8.ofNat (16 * Lx.hexVal s[a + 2] + Lx.hexVal s[a + 3]), 4) := by
      rw [hxe]
      simp only [Lx.hexes]
      rw [if_pos ⟨r3.1 g2, q3.1 g3, by have := r4 g2; have := q4 g3; omega⟩]
     have hval : ((16 * v2 + v3) % 256 : Int) = ((UInt8.ofNat (16 * Lx.hexVal s[a + 2] + Lx.hexVal s[a + 3])).toNat : Int) := by
      have := r4 g2; have := q4 g3
      rw [UInt8.toNat_ofNat']
      omega
     have HC := Lib.hid hch
     have HV := Lib.hid hval
     clear hch hval hxe d1 d2 d3 d4 h92 hd r3 r4 q3 q4 hv2 hv3
     go_enter Tryz.func86, Tryz.ntmps86
     go_wp2
     go_quiet (first | (go_at_call 87; with_reducible exact hx2 _ _) | (go_at_call 87; with_reducible exact hx3 _ _))
     go_wp2
     go_region_with (first | (go_at_call 87; with_reducible refine (hy2 _).mono ?_; rintro e w' ⟨rfl, ⟨nd, rfl⟩⟩) | (go_at_call 87; with_reducible refine (hy3 _).mono ?_; rintro e w' ⟨rfl, ⟨nd, rfl⟩⟩))
     all_goals (go_wp2; (refine bodyPost_ret (results_cell_row rfl _ _ w.heap.size 113 _ (0, 0) _ rfl (two_heap w _ _ _ _ _ _) Tryz.underlying113 rfl (by kernel_rfl)) rfl ?_); exact ⟨charR_some HC.out HV.out rfl, two_below _ _ _ _ _⟩)
    ·have p4 : decide (0 < v2 + v3) = false := decide_eq_false g4
     have hch : Lx.char (s.data.toList.drop a) = none := by
      rw [hxe]
      simp only [Lx.hexes]
      rw [if_neg (fun h => g4 (by have := r4 g2; have := q4 g3; have := h.2.2; omega))]
     have HC := Lib.hid hch
     clear hch hxe d1 d2 d3 d4 h92 hd r3 r4 q3 q4 hv2 hv3
     go_enter Tryz.func86, Tryz.ntmps86
     go_wp2
     go_quiet (first | (go_at_call 87; with_reducible exact hx2 _ _) | (go_at_call 87; with_reducible exact hx3 _ _))
     go_wp2
     refine bodyPost_ret (results_cell_row rfl _ _ w.heap.size 113 _ (0, 0) _ rfl (two_heap w _ _ _ _ _ _) Tryz.underlying113 rfl (by kernel_rfl)) rfl ?_
     exact ⟨charR_none HC.out, two_below _ _ _ _ _⟩
   ·have p3 : decide (0 ≤ v3) = false := decide_eq_false g3
    have hch : Lx.char (s.data.toList.drop a) = none := by
     rw [hxe]
     simp only [Lx.hexes]
     rw [if_neg (fun h => g3 (q3.2 h.2.1))]
    have HC := Lib.hid hch
    clear hch hxe d1 d2 d3 d4 h92 hd r3 r4 q3 q4 hv2 hv3
    go_enter Tryz.func86, Tryz.ntmps86
    go_wp2
    go_quiet (first | (go_at_call 87; with_reducible exact hx2 _ _) | (go_at_call 87; with_reducible exact hx3 _ _))
    go_wp2
    refine bodyPost_ret (results_cell_row rfl _ _ w.heap.size 113 _ (0, 0) _ rfl (two_heap w _ _ _ _ _ _) Tryz.underlying113 rfl (by kernel_rfl)) rfl ?_
    exact ⟨charR_none HC.out, two_below _ _ _ _ _⟩
  ·have p2 : decide (0 ≤ v2) = false := decide_eq_false g2
   have hch : Lx.char (s.data.toList.drop a) = none := by
    rw [hxe]
    simp only [Lx.hexes]
    rw [if_neg (fun h => g2 (r3.2 h.1))]
   have HC := Lib.hid hch
   clear hch hxe d1 d2 d3 d4 h92 hd r3 r4 q3 q4 hv2 hv3
   go_enter Tryz.func86, Tryz.ntmps86
   go_wp2
   go_quiet (first | (go_at_call 87; with_reducible exact hx2 _ _) | (go_at_call 87; with_reducible exact hx3 _ _))
   go_wp2
   refine bodyPost_ret (results_cell_row rfl _ _ w.heap.size 113 _ (0, 0) _ rfl (two_heap w _ _ _ _ _ _) Tryz.underlying113 rfl (by kernel_rfl)) rfl ?_
   exact ⟨charR_none HC.out, two_below _ _ _ _ _⟩
 ·have hd3 : decide ((a : Int) + 3 < (s.size : Int)) = false := decide_eq_false (by omega)
  have hch : Lx.char (s.data.toList.drop a) = none := by
   rw [hxe]
   rcases (by omega : a + 2 = s.size ∨ a + 3 = s.size) with h | h
   ·rw [List.drop_eq_nil_of_le (by rw [← Lib.size_eq]; omega)]; rfl
   ·rw [drop_at s (a + 2) (by omega), List.drop_eq_nil_of_le (by rw [← Lib.size_eq]; omega)]; rfl
  have HC := Lib.hid hch
  clear hch hxe d1 d2 h92 hd
  go_enter Tryz.func86, Tryz.ntmps86
  go_wp2
  go_quiet (fail)
  go_wp2
  refine bodyPost_ret (results_cell_row rfl _ _ w.heap.size 113 _ (0, 0) _ rfl (two_heap w _ _ _ _ _ _) Tryz.underlying113 rfl (by kernel_rfl)) rfl ?_
  exact ⟨charR_none HC.out, two_below _ _ _ _ _⟩
set_option maxRecDepth 100000 in
set_option maxHeartbeats 8000000 in
theorem refchar_any (s : ByteArray) (a : Nat) (w : World) (hs : s.size ≤ 140737488355328) (ha : a < 1000000000000000000) :
  Calls Tryz.prog 86 #[.string s, .int .i64 (a : Int)] w fun e w' => CharR (s.data.toList.drop a) e ∧ Below w.heap.size w w' := by
 by_cases h1 : a < s.size
 ·have d1 := drop_at s a h1
  by_cases h0 : s[a] = 0
  ·have b0 : ((s[a].toNat : Int) == 0) = true := by rw [h0]; rfl
   have hch : Lx.char (s.data.toList.drop a) = none := by rw [d1]; simp [Lx.char, Lx.charC, h0]
   have HC := Lib.hid hch
   clear hch d1 h0
   go_enter Tryz.func86, Tryz.ntmps86
   go_wp2
   refine bodyPost_ret (results_cell_row rfl _ _ w.heap.size 113 _ (0, 0) _ rfl (heap_alloc_new w _) Tryz.underlying113 rfl (by kernel_rfl)) rfl ?_
   exact ⟨charR_none HC.out, (Below.refl _ _).alloc (Nat.le_refl _) _⟩
  have b0 : ((s[a].toNat : Int) == 0) = false := ne_of_u8 (n := 0) rfl h0
  by_cases h10 : s[a] = 10
  ·have b10 : ((s[a].toNat : Int) == 10) = true := by rw [h10]; rfl
   have hch : Lx.char (s.data.toList.drop a) = none := by rw [d1]; simp [Lx.char, Lx.charC, h10]
   have HC := Lib.hid hch
   clear hch d1 h0 h10
   go_enter Tryz.func86, Tryz.ntmps86
   go_wp2
   refine bodyPost_ret (results_cell_row rfl _ _ w.heap.size 113 _ (0, 0) _ rfl (heap_alloc_new w _) Tryz.underlying113 rfl (by kernel_rfl)) rfl ?_
   exact ⟨charR_none HC.out, (Below.refl _ _).alloc (Nat.le_refl _) _⟩
  have b10 : ((s[a].toNat : Int) == 10) = false := ne_of_u8 (n := 10) rfl h10
  by_cases h92 : s[a] = 92
  ·have b92 : ((s[a].toNat : Int) != 92) = false := by rw [h92]; rfl
   by_cases h2 : a + 1 < s.size
   ·have d2 := drop_at s (a + 1) h2
    by_cases hd : s[a + 1] = 110
    ·exact (by
     have hch : Lx.char (s.data.toList.drop a) = some (10, 2) := by rw [d1]; simp [Lx.char, Lx.charC, Lx.escT, Lx.esc, h92, d2, hd]
     have e110 : ((s[a + 1].toNat : Int) == 110) = true := by rw [hd]; rfl
     have e116 : ((s[a + 1].toNat : Int) == 116) = false := by rw [hd]; rfl
     have e114 : ((s[a + 1].toNat : Int) == 114) = false := by rw [hd]; rfl
     have e92 : ((s[a + 1].toNat : Int) == 92) = false := by rw [hd]; rfl
     have e34 : ((s[a + 1].toNat : Int) == 34) = false := by rw [hd]; rfl
     have e39 : ((s[a + 1].toNat : Int) == 39) = false := by rw [hd]; rfl
     have e120 : ((s[a + 1].toNat : Int) == 120) = false := by rw [hd]; rfl
     have HC := Lib.hid hch
     have HD := Lib.hid hd
     clear hch d1 d2 hd h0 h10 h92
     go_enter Tryz.func86, Tryz.ntmps86
     go_wp2
     refine bodyPost_ret (results_cell_row rfl _ _ w.heap.size 113 _ (0, 0) _ rfl (heap_alloc_new w _) Tryz.underlying113 rfl (by kernel_rfl)) rfl ?_
     exact ⟨charR_some HC.out rfl rfl, (Below.refl _ _).alloc (Nat.le_refl _) _⟩)
    have n110 : ¬ s[a + 1] = 110 := hd
    have e110 : ((s[a + 1].toNat : Int) == 110) = false := by rw [beq_eq_false_iff_ne]; exact fun h => hd (UInt8.toNat_inj.1 (by have : (110 : UInt8).toNat = 110 := rfl; omega))
    clear hd
    by_cases hd : s[a + 1] = 116
    ·exact (by
     have hch : Lx.char (s.data.toList.drop a) = some (9, 2) := by rw [d1]; simp [Lx.char, Lx.charC, Lx.escT, Lx.esc, h92, d2, hd]
     have e110 : ((s[a + 1].toNat : Int) == 110) = false := by rw [hd]; rfl
     have e116 : ((s[a + 1].toNat : Int) == 116) = true := by rw [hd]; rfl
     have e114 : ((s[a + 1].toNat : Int) == 114) = false := by rw [hd]; rfl
     have e92 : ((s[a + 1].toNat : Int) == 92) = false := by rw [hd]; rfl
     have e34 : ((s[a + 1].toNat : Int) == 34) = false := by rw [hd]; rfl
     have e39 : ((s[a + 1].toNat : Int) == 39) = false := by rw [hd]; rfl
     have e120 : ((s[a + 1].toNat : Int) == 120) = false := by rw [hd]; rfl
     have HC := Lib.hid hch
     have HD := Lib.hid hd
     clear hch d1 d2 hd h0 h10 h92
     go_enter Tryz.func86, Tryz.ntmps86
     go_wp2
     refine bodyPost_ret (results_cell_row rfl _ _ w.heap.size 113 _ (0, 0) _ rfl (heap_alloc_new w _) Tryz.underlying113 rfl (by kernel_rfl)) rfl ?_
     exact ⟨charR_some HC.out rfl rfl, (Below.refl _ _).alloc (Nat.le_refl _) _⟩)
    have n116 : ¬ s[a + 1] = 116 := hd
    have e116 : ((s[a + 1].toNat : Int) == 116) = false := by rw [beq_eq_false_iff_ne]; exact fun h => hd (UInt8.toNat_inj.1 (by have : (116 : UInt8).toNat = 116 := rfl; omega))
    clear hd
    by_cases hd : s[a + 1] = 114
    ·exact (by
     have hch : Lx.char (s.data.toList.drop a) = some (13, 2) := by rw [d1]; simp [Lx.char, Lx.charC, Lx.escT, Lx.esc, h92, d2, hd]
     have e110 : ((s[a + 1].toNat : Int) == 110) = false := by rw [hd]; rfl
     have e116 : ((s[a + 1].toNat : Int) == 116) = false := by rw [hd]; rfl
     have e114 : ((s[a + 1].toNat : Int) == 114) = true := by rw [hd]; rfl
     have e92 : ((s[a + 1].toNat : Int) == 92) = false := by rw [hd]; rfl
     have e34 : ((s[a + 1].toNat : Int) == 34) = false := by rw [hd]; rfl
     have e39 : ((s[a + 1].toNat : Int) == 39) = false := by rw [hd]; rfl
     have e120 : ((s[a + 1].toNat : Int) == 120) = false := by rw [hd]; rfl
     have HC := Lib.hid hch
     have HD := Lib.hid hd
     clear hch d1 d2 hd h0 h10 h92
     go_enter Tryz.func86, Tryz.ntmps86
     go_wp2
     refine bodyPost_ret (results_cell_row rfl _ _ w.heap.size 113 _ (0, 0) _ rfl (heap_alloc_new w _) Tryz.underlying113 rfl (by kernel_rfl)) rfl ?_
     exact ⟨charR_some HC.out rfl rfl, (Below.refl _ _).alloc (Nat.le_refl _) _⟩)
    have n114 : ¬ s[a + 1] = 114 := hd
    have e114 : ((s[a + 1].toNat : Int) == 114) = false := by rw [beq_eq_false_iff_ne]; exact fun h => hd (UInt8.toNat_inj.1 (by have : (114 : UInt8).toNat = 114 := rfl; omega))
    clear hd
    by_cases hd : s[a + 1] = 92
    ·exact (by
     have hch : Lx.char (s.data.toList.drop a) = some (92, 2) := by rw [d1]; simp [Lx.char, Lx.charC, Lx.escT, Lx.esc, h92, d2, hd]
     have e110 : ((s[a + 1].toNat : Int) == 110) = false := by rw [hd]; rfl
     have e116 : ((s[a + 1].toNat : Int) == 116) = false := by rw [hd]; rfl
     have e114 : ((s[a + 1].toNat : Int) == 114) = false := by rw [hd]; rfl
     have e92 : ((s[a + 1].toNat : Int) == 92) = true := by rw [hd]; rfl
     have e34 : ((s[a + 1].toNat : Int) == 34) = false := by rw [hd]; rfl
     have e39 : ((s[a + 1].toNat : Int) == 39) = false := by rw [hd]; rfl
     have e120 : ((s[a + 1].toNat : Int) == 120) = false := by rw [hd]; rfl
     have HC := Lib.hid hch
     have HD := Lib.hid hd
     clear hch d1 d2 hd h0 h10 h92
     go_enter Tryz.func86, Tryz.ntmps86
     go_wp2
     refine bodyPost_ret (results_cell_row rfl _ _ w.heap.size 113 _ (0, 0) _ rfl (heap_alloc_new w _) Tryz.underlying113 rfl (by kernel_rfl)) rfl ?_
     exact ⟨charR_some HC.out (by rw [HD.out]) rfl, (Below.refl _ _).alloc (Nat.le_refl _) _⟩)
    have n92 : ¬ s[a + 1] = 92 := hd
    have e92 : ((s[a + 1].toNat : Int) == 92) = false := by rw [beq_eq_false_iff_ne]; exact fun h => hd (UInt8.toNat_inj.1 (by have : (92 : UInt8).toNat = 92 := rfl; omega))
    clear hd
    by_cases hd : s[a + 1] = 34
    ·exact (by
     have hch : Lx.char (s.data.toList.drop a) = some (34, 2) := by rw [d1]; simp [Lx.char, Lx.charC, Lx.escT, Lx.esc, h92, d2, hd]
     have e110 : ((s[a + 1].toNat : Int) == 110) = false := by rw [hd]; rfl
     have e116 : ((s[a + 1].toNat : Int) == 116) = false := by rw [hd]; rfl
     have e114 : ((s[a + 1].toNat : Int) == 114) = false := by rw [hd]; rfl
     have e92 : ((s[a + 1].toNat : Int) == 92) = false := by rw [hd]; rfl
     have e34 : ((s[a + 1].toNat : Int) == 34) = true := by rw [hd]; rfl
     have e39 : ((s[a + 1].toNat : Int) == 39) = false := by rw [hd]; rfl
     have e120 : ((s[a + 1].toNat : Int) == 120) = false := by rw [hd]; rfl
     have HC := Lib.hid hch
     have HD := Lib.hid hd
     clear hch d1 d2 hd h0 h10 h92
     go_enter Tryz.func86, Tryz.ntmps86
     go_wp2
     refine bodyPost_ret (results_cell_row rfl _ _ w.heap.size 113 _ (0, 0) _ rfl (heap_alloc_new w _) Tryz.underlying113 rfl (by kernel_rfl)) rfl ?_
     exact ⟨charR_some HC.out (by rw [HD.out]) rfl, (Below.refl _ _).alloc (Nat.le_refl _) _⟩)
    have n34 : ¬ s[a + 1] = 34 := hd
    have e34 : ((s[a + 1].toNat : Int) == 34) = false := by rw [beq_eq_false_iff_ne]; exact fun h => hd (UInt8.toNat_inj.1 (by have : (34 : UInt8).toNat = 34 := rfl; omega))
    clear hd
    by_cases hd : s[a + 1] = 39
    ·exact (by
     have hch : Lx.char (s.data.toList.drop a) = some (39, 2) := by rw [d1]; simp [Lx.char, Lx.charC, Lx.escT, Lx.esc, h92, d2, hd]
     have e110 : ((s[a + 1].toNat : Int) == 110) = false := by rw [hd]; rfl
     have e116 : ((s[a + 1].toNat : Int) == 116) = false := by rw [hd]; rfl
     have e114 : ((s[a + 1].toNat : Int) == 114) = false := by rw [hd]; rfl
     have e92 : ((s[a + 1].toNat : Int) == 92) = false := by rw [hd]; rfl
     have e34 : ((s[a + 1].toNat : Int) == 34) = false := by rw [hd]; rfl
     have e39 : ((s[a + 1].toNat : Int) == 39) = true := by rw [hd]; rfl
     have e120 : ((s[a + 1].toNat : Int) == 120) = false := by rw [hd]; rfl
     have HC := Lib.hid hch
     have HD := Lib.hid hd
     clear hch d1 d2 hd h0 h10 h92
     go_enter Tryz.func86, Tryz.ntmps86
     go_wp2
     refine bodyPost_ret (results_cell_row rfl _ _ w.heap.size 113 _ (0, 0) _ rfl (heap_alloc_new w _) Tryz.underlying113 rfl (by kernel_rfl)) rfl ?_
     exact ⟨charR_some HC.out (by rw [HD.out]) rfl, (Below.refl _ _).alloc (Nat.le_refl _) _⟩)
    have n39 : ¬ s[a + 1] = 39 := hd
    have e39 : ((s[a + 1].toNat : Int) == 39) = false := by rw [beq_eq_false_iff_ne]; exact fun h => hd (UInt8.toNat_inj.1 (by have : (39 : UInt8).toNat = 39 := rfl; omega))
    clear hd
    have hgo : True := trivial
    by_cases hd : s[a + 1] = 120
    ·exact refchar_hex s a w hs ha h1 h2 h92 hd
    ·have e120 : ((s[a + 1].toNat : Int) == 120) = false := ne_of_u8 (n := 120) rfl hd
     have hch : Lx.char (s.data.toList.drop a) = none := by rw [d1]; simp [Lx.char, Lx.charC, Lx.escT, Lx.esc, h92, d2, n110, n116, n114, n92, n34, n39, hd]
     have HC := Lib.hid hch
     clear hch d1 d2 h0 h10 h92 n110 n116 n114 n92 n34 n39 hd
     go_enter Tryz.func86, Tryz.ntmps86
     go_wp2
     refine bodyPost_ret (results_cell_row rfl _ _ w.heap.size 113 _ (0, 0) _ rfl (heap_alloc_new w _) Tryz.underlying113 rfl (by kernel_rfl)) rfl ?_
     exact ⟨charR_none HC.out, (Below.refl _ _).alloc (Nat.le_refl _) _⟩
   ·have hch : Lx.char (s.data.toList.drop a) = none := by
     rw [d1, List.drop_eq_nil_of_le (by rw [← Lib.size_eq]; omega)]
     simp [Lx.char, Lx.charC, h92, Lx.escT]
    have HC := Lib.hid hch
    clear hch d1 h0 h10 h92
    go_enter Tryz.func86, Tryz.ntmps86
    go_wp2
    refine bodyPost_ret (results_cell_row rfl _ _ w.heap.size 113 _ (0, 0) _ rfl (heap_alloc_new w _) Tryz.underlying113 rfl (by kernel_rfl)) rfl ?_
    exact ⟨charR_none HC.out, (Below.refl _ _).alloc (Nat.le_refl _) _⟩
  ·have b92 : ((s[a].toNat : Int) != 92) = true := by have := ne_of_u8 (n := 92) rfl h92; simp only [bne, Bool.not_eq_true']; exact this
   have hch : Lx.char (s.data.toList.drop a) = some (s[a], 1) := by rw [d1]; simp [Lx.char, Lx.charC, h0, h10, h92]
   have HC := Lib.hid hch
   clear hch d1 h0 h10 h92
   go_enter Tryz.func86, Tryz.ntmps86
   go_wp2
   refine bodyPost_ret (results_cell_row rfl _ _ w.heap.size 113 _ (0, 0) _ rfl (heap_alloc_new w _) Tryz.underlying113 rfl (by kernel_rfl)) rfl ?_
   exact ⟨charR_some HC.out rfl rfl, (Below.refl _ _).alloc (Nat.le_refl _) _⟩
 ·have hch : Lx.char (s.data.toList.drop a) = none := by rw [List.drop_eq_nil_of_le (by rw [← Lib.size_eq]; omega)]; rfl
  have HC := Lib.hid hch
  clear hch
  go_enter Tryz.func86, Tryz.ntmps86
  go_wp2
  refine bodyPost_ret (results_cell_row rfl _ _ w.heap.size 113 _ (0, 0) _ rfl (heap_alloc_new w _) Tryz.underlying113 rfl (by kernel_rfl)) rfl ?_
  exact ⟨charR_none HC.out, (Below.refl _ _).alloc (Nat.le_refl _) _⟩
theorem taplineref11_char.calls (a0 : ByteArray) (a1 : Int) (r1 r2 : Int) (w : World) (h : taplineref11_char.f a0 a1 = some (r1, r2)) :
  Calls Tryz.prog 86 #[.string a0, .int .i64 a1] w fun e w' => e = .returned (.agg #[.int .u8 r1, .int .i64 r2]) ∧ Below w.heap.size w w' := by
 unfold taplineref11_char.f at h
 split at h
 ·rename_i hc
  obtain ⟨h1, h2, h3⟩ := hc
  obtain ⟨n, rfl⟩ := Int.eq_ofNat_of_zero_le h2
  rw [Int.toNat_natCast] at h
  refine (refchar_any a0 n w h1 (by omega)).mono ?_
  rintro e w' ⟨he, hb⟩
  refine ⟨?_, hb⟩
  unfold CharR at he
  rw [he]
  cases hch : Lx.char (a0.data.toList.drop n) with
  | none => rw [hch] at h; cases h; rfl
  | some p =>
   obtain ⟨c, k⟩ := p
   rw [hch] at h
   cases h
   rfl
 ·cases h
end Go.Proofs.YtadgddipkbdnbaaGreatDoor.Q
namespace Go.Proofs.YtadgddipkbdnbaaGreatDoor.Q
open Go.Proofs.YtadgddipkbdnbaaGreatDoor Go.RowKit Go.Proofs.YtadgddipkbdnbaaGreatDoorW.PrintWords Go.Proofs.YtadgddipkbdnbaaGreatDoorW.PrintLast Go.Proofs.YtadgddipkbdnbaaGreatDoorW.PrintMore
attribute [local go_sem] max2_int min2_int max_two min_two max_three min_three max_four min_four   
set_option linter.unusedVariables false
set_option linter.unusedSimpArgs false
mutual
def taplineref11_quoted.l0 : Nat → ByteArray → Int → Int → ByteArray → Int → Option (Int × ByteArray)
 | 0, _, _, _, _, _ => none
 | k + 1, x0, x1, x6, x7, x8 => if x8 < (x0.size : Int) then (if 0 ≤ x8 then (taplineref11_quoted.j1 k x0 x1 x6 x7 x8 ((bt x0 x8) != x6)) else (none)) else (taplineref11_quoted.j1 k x0 x1 x6 x7 x8 false)
def taplineref11_quoted.j1 : Nat → ByteArray → Int → Int → ByteArray → Int → Bool → Option (Int × ByteArray)
 | 0, _, _, _, _, _, _ => none
 | k + 1, x0, x1, x6, x7, x8, x25 => if x25 = true then ((taplineref11_char.f x0 x8).bind fun bt108 => (if bt108.2 = 0 then (some (0, (⟨#[]⟩ : ByteArray))) else ((some (([bt108.1] : List Int) : List Int)).bind fun y111 => (if x7.size + (strOfNums y111).size ≤ 9223372036854775807 then (taplineref11_quoted.l0 k x0 x1 x6 (x7 ++ (strOfNums y111)) (wrap64 (x8 + bt108.2))) else (none))))) else (if x8 ≥ (x0.size : Int) then (some (0, (⟨#[]⟩ : ByteArray))) else (if x6 = 39 then (if (x7.size : Int) = 1 then (some (wrap64 ((wrap64 (x8 + 1)) - x1), x7)) else (some (0, (⟨#[]⟩ : ByteArray)))) else (some (wrap64 ((wrap64 (x8 + 1)) - x1), x7))))
end
def taplineref11_quoted.f (k : Nat) (a0 : ByteArray) (a1 : Int) : Option (Int × ByteArray) := if 0 ≤ a1 then (if a1 < (a0.size : Int) then (taplineref11_quoted.l0 k a0 a1 (bt a0 a1) (⟨#[]⟩ : ByteArray) (wrap64 (a1 + 1))) else (none)) else (none)
theorem taplineref11_quoted.mono_l : ∀ k, (∀ y0 y1 y2 y3 y4, LeO (taplineref11_quoted.l0 k y0 y1 y2 y3 y4) (taplineref11_quoted.l0 (k + 1) y0 y1 y2 y3 y4)) ∧ (∀ y0 y1 y2 y3 y4 y5, LeO (taplineref11_quoted.j1 k y0 y1 y2 y3 y4 y5) (taplineref11_quoted.j1 (k + 1) y0 y1 y2 y3 y4 y5))
 | 0 => ⟨fun _ _ _ _ _ r h => by simp [taplineref11_quoted.l0] at h, fun _ _ _ _ _ _ r h => by simp [taplineref11_quoted.j1] at h⟩
 | k + 1 => by
  obtain ⟨ih0, ih1⟩ := taplineref11_quoted.mono_l k
  refine ⟨?_, ?_⟩
  ·intro y0 y1 y2 y3 y4
   unfold taplineref11_quoted.l0
   repeat' first
   | (with_reducible exact ih0 _ _ _ _ _)
   | (with_reducible exact ih1 _ _ _ _ _ _)
   | (with_reducible exact LeO.refl _)
   | (with_reducible exact LeO.none _)
   | (with_reducible refine LeO.ite ?_ ?_)
   | (with_reducible refine LeO.bind ?_ (fun _ => ?_))
   | exact LeO.none _
   | refine LeO.ite ?_ ?_
   | refine LeO.bind ?_ (fun _ => ?_)
  ·intro y0 y1 y2 y3 y4 y5
   unfold taplineref11_quoted.j1
   repeat' first
   | (with_reducible exact ih0 _ _ _ _ _)
   | (with_reducible exact ih1 _ _ _ _ _ _)
   | (with_reducible exact LeO.refl _)
   | (with_reducible exact LeO.none _)
   | (with_reducible refine LeO.ite ?_ ?_)
   | (with_reducible refine LeO.bind ?_ (fun _ => ?_))
   | exact LeO.none _
   | refine LeO.ite ?_ ?_
   | refine LeO.bind ?_ (fun _ => ?_)
theorem taplineref11_quoted.mono : ∀ a0 a1 k, LeO (taplineref11_quoted.f k a0 a1) (taplineref11_quoted.f (k + 1) a0 a1) := by
 intro a0 a1 k
 obtain ⟨ih0, ih1⟩ := taplineref11_quoted.mono_l k
 unfold taplineref11_quoted.f
 repeat' first
   | (with_reducible exact ih0 _ _ _ _ _)
   | (with_reducible exact ih1 _ _ _ _ _ _)
   | (with_reducible exact LeO.refl _)
   | (with_reducible exact LeO.none _)
   | (with_reducible refine LeO.ite ?_ ?_)
   | (with_reducible refine LeO.bind ?_ (fun _ => ?_))
   | exact LeO.none _
   | refine LeO.ite ?_ ?_
   | refine LeO.bind ?_ (fun _ => ?_)
set_option maxHeartbeats 8000000 in
set_option maxRecDepth 100000 in
theorem taplineref11_quoted.calls (k : Nat) (a0 : ByteArray) (a1 : Int) (r1 : Int) (r2 : ByteArray) (w : World) (h : taplineref11_quoted.f k a0 a1 = some (r1, r2)) :
  Calls Tryz.prog 55 #[.string a0, .int .i64 a1] w fun e w' => e = .returned (.tuple #[.int .i64 r1, .string r2]) ∧ Below w.heap.size w w' := by
 have hu113 := Tryz.underlying113
 have HB := Aside0.mk (Below.refl w.heap.size w)
 have H : (if 0 ≤ a1 then (if a1 < (a0.size : Int) then (taplineref11_quoted.l0 k a0 a1 (bt a0 a1) (⟨#[]⟩ : ByteArray) (wrap64 (a1 + 1))) else (none)) else (none)) = some (r1, r2) := h
 clear h
 by_cases c3 : 0 ≤ a1
 ·rw [if_pos c3] at H
  have c3b0 : decide (0 ≤ a1) = true := decide_eq_true c3
  clear c3
  by_cases c4 : a1 < (a0.size : Int)
  ·rw [if_pos c4] at H
   have c4b0 : decide (a1 < (a0.size : Int)) = true := decide_eq_true c4
   clear c4
   have H' := Aside0.mk H
   clear H
   have p5 : 0 ≤ (a1 : Int) := of_decide_eq_true asm
   have q5 : a1 < (a0.size : Int) := of_decide_eq_true asm
   have hx5 := bt_at a0 a1
   replace p5 := eq_true p5
   replace q5 := eq_true q5
   go_enter Tryz.func55, Tryz.ntmps55
   go_wp2
   try simp only [Act.put, List.setIfInBounds_toArray, List.set_cons_zero, List.set_cons_succ]
   go_loopg [7, 8] k (fun kq v7 v8 w' => ∃ (x7_1 : ByteArray) (x8_1 : Int), v7 = .string x7_1 ∧ v8 = .int .i64 x8_1 ∧ Aside0 (taplineref11_quoted.l0 kq a0 a1 (bt a0 a1) x7_1 x8_1 = some (r1, r2)) ∧ Aside0 (kq ≤ k) ∧ Aside0 (Below w.heap.size w w'))
   case atStart => exact ⟨((⟨#[]⟩ : ByteArray)), (wrap64 (a1 + 1)), rsd, rsd, H', ⟨Nat.le_refl _⟩, ⟨blw⟩⟩
   case round =>
    clear H'
    try clear p2
    try clear c3
    try clear c3b0
    try clear c4
    try clear c4b0
    try clear c5
    try clear p5
    try clear q5
    try clear hx5
    try clear p5
    try clear q5
    obtain ⟨x7_1, x8_1, rfl, rfl, HA, HK1, HB⟩ := hrel
    cases gk with
    | zero => exact absurd HA.out (by simp [taplineref11_quoted.l0])
    | succ k1 =>
     have H := HA.out
     clear HA
     simp only [taplineref11_quoted.l0] at H
     have HC6 := Aside0.mk H
     clear H
     go_upto_region 4 with (fail)
     go_cut [25] (fun v25 wc => ∃ (kq : Nat) (x25_5 : Bool), v25 = .bool x25_5 ∧ Aside0 (taplineref11_quoted.j1 kq a0 a1 (bt a0 a1) x7_1 x8_1 x25_5 = some (r1, r2)) ∧ Aside0 (kq ≤ k1) ∧ Aside0 (Below w.heap.size w wc))
     case first =>
      have H := HC6.out
      clear HC6
      by_cases c7 : x8_1 < (a0.size : Int)
      ·rw [if_pos c7] at H
       have c7b0 : decide (x8_1 < (a0.size : Int)) = true := decide_eq_true c7
       clear c7
       (first | rw [c7b0] | (simp only [i64_w, i32_w]; rw [c7b0]) | skip)
       by_cases c8 : 0 ≤ x8_1
       ·rw [if_pos c8] at H
        have c8b0 : decide (0 ≤ x8_1) = true := decide_eq_true c8
        clear c8
        have H' := Aside0.mk H
        clear H
        have p9 : 0 ≤ (x8_1 : Int) := of_decide_eq_true asm
        have q9 : x8_1 < (a0.size : Int) := of_decide_eq_true asm
        have hx9 := bt_at a0 x8_1
        replace p9 := eq_true p9
        replace q9 := eq_true q9
        go_wp2
        go_meet
        case rel => exact ⟨_, (((bt a0 x8_1) != (bt a0 a1))), rsd, H', ⟨by have := HK1.out; first | omega | exact Nat.le_refl _⟩, ⟨blw⟩⟩
       ·rw [if_neg c8] at H
        exact absurd H (by simp)
      ·rw [if_neg c7] at H
       have c7b0 : decide (x8_1 < (a0.size : Int)) = false := decide_eq_false c7
       clear c7
       (first | rw [c7b0] | (simp only [i64_w, i32_w]; rw [c7b0]) | skip)
       have H' := Aside0.mk H
       clear H
       go_wp2
       go_meet
       case rel => exact ⟨_, (false), rsd, H', ⟨by have := HK1.out; first | omega | exact Nat.le_refl _⟩, ⟨blw⟩⟩
     case rest =>
      clear HC6
      try clear p2
      try clear c3
      try clear c3b0
      try clear c4
      try clear c4b0
      try clear c5
      try clear p5
      try clear q5
      try clear hx5
      try clear p6
      try clear c7
      try clear c7b0
      try clear c8
      try clear c8b0
      try clear p9
      try clear q9
      try clear hx9
      try clear p2
      try clear p5
      try clear p9
      try clear q5
      try clear q9
      obtain ⟨kq, x25_5, rfl, HA, HJ5, HB⟩ := hcut
      cases kq with
      | zero => exact absurd HA.out (by simp [taplineref11_quoted.j1])
      | succ kj5 =>
       have H := HA.out
       clear HA
       simp only [taplineref11_quoted.j1] at H
       by_cases c10 : x25_5 = true
       ·subst c10
        have H1 : ((taplineref11_char.f a0 x8_1).bind fun bt108 => (if bt108.2 = 0 then (some (0, (⟨#[]⟩ : ByteArray))) else ((some (([bt108.1] : List Int) : List Int)).bind fun y111 => (if x7_1.size + (strOfNums y111).size ≤ 9223372036854775807 then (taplineref11_quoted.l0 kj5 a0 a1 (bt a0 a1) (x7_1 ++ (strOfNums y111)) (wrap64 (x8_1 + bt108.2))) else (none))))) = some (r1, r2) := by rw [if_pos rfl] at H; exact H
        clear H
        have H := H1
        clear H1
        replace H := Option.bind_eq_some_iff.mp H
        obtain ⟨⟨t108, t109⟩, A110, H⟩ := H
        replace H : (if t109 = 0 then (some (0, (⟨#[]⟩ : ByteArray))) else ((some (([t108] : List Int) : List Int)).bind fun y111 => (if x7_1.size + (strOfNums y111).size ≤ 9223372036854775807 then (taplineref11_quoted.l0 kj5 a0 a1 (bt a0 a1) (x7_1 ++ (strOfNums y111)) (wrap64 (x8_1 + t109))) else (none)))) = some (r1, r2) := H
        have A11 := Aside0.mk A110
        clear A110
        by_cases c12 : t109 = 0
        ·rw [if_pos c12] at H
         have c12b0 : (t109 == 0) = true := beq_iff_eq.mpr c12
         have c12b1 : (t109 != 0) = false := bne_eq_false_iff_eq.mpr c12
         clear c12
         simp only [Option.some.injEq, Prod.mk.injEq] at H
         obtain ⟨rfl, rfl⟩ := H
         go_wp2_with (first | ((with_reducible refine gate_callee (f := 86) rfl ?_); refine goesL_ (some 28) rfl rfl Tryz.func86 (by kernel_rfl) rfl #[.string a0, .int .i64 x8_1] rfl fq ?_; (with_reducible refine (taplineref11_char.calls a0 x8_1 t108 t109 _ A11.out).mono ?_); rintro e w13 ⟨rfl, hb⟩; refine ⟨_, rfl, ?_⟩; have n0_ := Aside0.mk (below_step blw hb); clear HB; have HB := n0_; clear n0_; (try clear hb); (try clear hb2); (try clear hk); (try clear hi)) | ((with_reducible refine gate_dst (N := 9) rfl ?_); (try (refine gate_guard (by rfl) ?_; dsimp only)); refine box_event ?hg (N := 9) ?hd (cs := #[.int .u8 0, .int .i64 0]) (t := 113) ?hr ?_; (case hd => rfl); (case hg => rfl); (case hr => first | (go_simp; done) | (go_simp; rfl)); intro gb110 hg w14 hbox hb; have n0_ := Aside0.mk (below_step blw hb); have n1_ := Aside0.mk (hbox); have n2_ := Aside0.mk ((by rw [hg]; exact (below_size blw) : w.heap.size ≤ gb110)); have n3_ := Aside0.mk ((by rw [hg]; exact (below_size blw) : w.heap.size ≤ gb110)); clear HB; have HB := n0_; have BK110 := n1_; have GW110 := n2_; have GE110 := n3_; clear n0_ n1_ n2_ n3_; clear hb hbox hg; have hcz15_0 : w14.cell? ⟨gb110, 0, none⟩ = some (.int .u8 0) := (blk_cell BK110.out 0).trans rfl; have hcz15_1 : w14.cell? ⟨gb110, 1, none⟩ = some (.int .i64 0) := (blk_cell BK110.out 1).trans rfl; have hfz15_0 := blk_frozen BK110.out 0; have hfz15_1 := blk_frozen BK110.out 1))
         go_ret2
         exact ⟨rew, blw⟩
        ·rw [if_neg c12] at H
         have c12b0 : (t109 == 0) = false := beq_eq_false_iff_ne.mpr c12
         have c12b1 : (t109 != 0) = true := bne_iff_ne.mpr c12
         obtain ⟨y111, hy111⟩ : ∃ y_ : List Int, y_ = (([t108] : List Int)) := ⟨_, rfl⟩
         replace H : (if x7_1.size + (strOfNums y111).size ≤ 9223372036854775807 then (taplineref11_quoted.l0 kj5 a0 a1 (bt a0 a1) (x7_1 ++ (strOfNums y111)) (wrap64 (x8_1 + t109))) else (none)) = some (r1, r2) := by first | (rw [hy111]; with_reducible exact H) | (have H2_ := (Option.bind_some _ _).symm.trans H; rw [hy111]; with_reducible exact H2_) | (have H2_ := (Option.bind_some _ _).symm.trans H; with_reducible exact H2_) | with_reducible exact H | (rw [hy111]; exact H) | exact H
         have Ny111 := Aside0.mk hy111
         clear hy111
         by_cases c16 : x7_1.size + (strOfNums y111).size ≤ 9223372036854775807
         ·rw [if_pos c16] at H
          have c16b0 := eq_true c16
          have c16b1 : decide (x7_1.size + (strOfNums y111).size ≤ 9223372036854775807) = true := decide_eq_true c16
          try have c16b2 : (9223372036854775807 < x7_1.size + (strOfNums y111).size) = False := eq_false (Nat.not_lt.2 c16)
          have H' := Aside0.mk H
          clear H
          go_wp2_with (first | ((with_reducible refine gate_callee (f := 86) rfl ?_); refine goesL_ (some 28) rfl rfl Tryz.func86 (by kernel_rfl) rfl #[.string a0, .int .i64 x8_1] rfl fq ?_; (with_reducible refine (taplineref11_char.calls a0 x8_1 t108 t109 _ A11.out).mono ?_); rintro e w17 ⟨rfl, hb⟩; refine ⟨_, rfl, ?_⟩; have n0_ := Aside0.mk (below_step blw hb); clear HB; have HB := n0_; clear n0_; (try clear hb); (try clear hb2); (try clear hk); (try clear hi)) | ((with_reducible refine gate_dst (N := 9) rfl ?_); (try (refine gate_guard (by rfl) ?_; dsimp only)); refine box_event ?hg (N := 9) ?hd (cs := #[.int .u8 0, .int .i64 0]) (t := 113) ?hr ?_; (case hd => rfl); (case hg => rfl); (case hr => first | (go_simp; done) | (go_simp; rfl)); intro gb110 hg w18 hbox hb; have n0_ := Aside0.mk (below_step blw hb); have n1_ := Aside0.mk (hbox); have n2_ := Aside0.mk ((by rw [hg]; exact (below_size blw) : w.heap.size ≤ gb110)); have n3_ := Aside0.mk ((by rw [hg]; exact (below_size blw) : w.heap.size ≤ gb110)); clear HB; have HB := n0_; have BK110 := n1_; have GW110 := n2_; have GE110 := n3_; clear n0_ n1_ n2_ n3_; clear hb hbox hg; have hcz19_0 : w18.cell? ⟨gb110, 0, none⟩ = some (.int .u8 0) := (blk_cell BK110.out 0).trans rfl; have hcz19_1 : w18.cell? ⟨gb110, 1, none⟩ = some (.int .i64 0) := (blk_cell BK110.out 1).trans rfl; have hfz19_0 := blk_frozen BK110.out 0; have hfz19_1 := blk_frozen BK110.out 1) | ((with_reducible refine gate_dst (N := 35) rfl ?_); (try (refine gate_guard (by rfl) ?_; dsimp only)); refine Kd.R_lit (Kd.int .u8) _ 5 ?hg (N := 35) ?hd (xs := ([t108] : List Int)) (inner := [.int .u8 t108]) (ok := fun _ => True) (okp := fun _ => True) ?hr ?hp (fun _ hk => hk) trivial (Below.refl _ _) (Nat.le_refl _) (by simp) ?_; (case hd => rfl); (case hg => rfl); (case hr => first | (go_simp; done) | (go_simp; rfl)); (case hp => exact (Reps.one (show Kd.M (Kd.int .u8) _ _ _ t108 [.int .u8 t108] from rfl) (Reps.none _ _))); intro v112 w20 ho21 hb hg_ hnew_; clear hg_ hnew_; (first | rw [← Ny111.out] at ho21 | (simp only [Int.reduceToNat] at ho21; rw [← Ny111.out] at ho21)); have n0_ := Aside0.mk (Kd.R_lower ho21 (below_size blw)); have n1_ := Aside0.mk (blk_below (g := gb110) (o := .cells #[.int .u8 t108, .int .i64 t109] 113 (0, 0)) (by (with_reducible repeat (first | refine blk_drewN ?_ _ | refine blk_drew ?_ | refine blk_alloc ?_ _)); refine blk_put (cs := #[.int .u8 t108, .int .i64 0]) ?_ 1 _ rfl; (with_reducible repeat (first | refine blk_drewN ?_ _ | refine blk_drew ?_ | refine blk_alloc ?_ _)); refine blk_put (cs := #[.int .u8 0, .int .i64 0]) ?_ 0 _ rfl; (with_reducible repeat (first | refine blk_drewN ?_ _ | refine blk_drew ?_ | refine blk_alloc ?_ _)); exact BK110.out) hb); have n2_ := Aside0.mk (below_step blw hb); clear BK110; clear HB; have HO113 := n0_; have BK110 := n1_; have HB := n2_; clear n0_ n1_ n2_; clear hb ho21; have hcv22 := own_string (P := Tryz.prog) Tryz.underlying83 Tryz.underlying5 Tryz.underlying9 (Kd.own_of_R HO113.out); have hcz23_0 : w20.cell? ⟨gb110, 0, none⟩ = some (.int .u8 t108) := (blk_cell BK110.out 0).trans rfl; have hcz23_1 : w20.cell? ⟨gb110, 1, none⟩ = some (.int .i64 t109) := (blk_cell BK110.out 1).trans rfl; have hfz23_0 := blk_frozen BK110.out 0; have hfz23_1 := blk_frozen BK110.out 1))
          go_roundg kj5
          case measure => have := HK1.out; have := HJ5.out; omega
          case rel => exact ⟨(x7_1 ++ (strOfNums y111)), (wrap64 (x8_1 + t109)), rsd, rsd, H', ⟨by have := HK1.out; have := HJ5.out; omega⟩, ⟨blw⟩⟩
         ·rw [if_neg c16] at H
          exact absurd H (by simp)
       ·replace c10 := Bool.eq_false_iff.mpr c10
        subst c10
        have H1 : (if x8_1 ≥ (a0.size : Int) then (some (0, (⟨#[]⟩ : ByteArray))) else (if (bt a0 a1) = 39 then (if (x7_1.size : Int) = 1 then (some (wrap64 ((wrap64 (x8_1 + 1)) - a1), x7_1)) else (some (0, (⟨#[]⟩ : ByteArray)))) else (some (wrap64 ((wrap64 (x8_1 + 1)) - a1), x7_1)))) = some (r1, r2) := by rw [if_neg (show ¬ (false = true) by decide)] at H; exact H
        clear H
        have H := H1
        clear H1
        by_cases c24 : x8_1 ≥ (a0.size : Int)
        ·rw [if_pos c24] at H
         have c24b0 : decide ((a0.size : Int) ≤ x8_1) = true := decide_eq_true c24
         clear c24
         simp only [Option.some.injEq, Prod.mk.injEq] at H
         obtain ⟨rfl, rfl⟩ := H
         go_wp2
         go_ret2
         exact ⟨rew, blw⟩
        ·rw [if_neg c24] at H
         have c24b0 : decide ((a0.size : Int) ≤ x8_1) = false := decide_eq_false c24
         clear c24
         by_cases c25 : (bt a0 a1) = 39
         ·rw [if_pos c25] at H
          have c25b0 : ((bt a0 a1) == 39) = true := beq_iff_eq.mpr c25
          have c25b1 : ((bt a0 a1) != 39) = false := bne_eq_false_iff_eq.mpr c25
          clear c25
          by_cases c26 : (x7_1.size : Int) = 1
          ·rw [if_pos c26] at H
           have c26b0 : ((x7_1.size : Int) == 1) = true := beq_iff_eq.mpr c26
           have c26b1 : ((x7_1.size : Int) != 1) = false := bne_eq_false_iff_eq.mpr c26
           clear c26
           simp only [Option.some.injEq, Prod.mk.injEq] at H
           obtain ⟨rfl, rfl⟩ := H
           go_wp2
           go_ret2
           exact ⟨rew, blw⟩
          ·rw [if_neg c26] at H
           have c26b0 : ((x7_1.size : Int) == 1) = false := beq_eq_false_iff_ne.mpr c26
           have c26b1 : ((x7_1.size : Int) != 1) = true := bne_iff_ne.mpr c26
           simp only [Option.some.injEq, Prod.mk.injEq] at H
           obtain ⟨rfl, rfl⟩ := H
           go_wp2
           go_ret2
           exact ⟨rew, blw⟩
         ·rw [if_neg c25] at H
          have c25b0 : ((bt a0 a1) == 39) = false := beq_eq_false_iff_ne.mpr c25
          have c25b1 : ((bt a0 a1) != 39) = true := bne_iff_ne.mpr c25
          simp only [Option.some.injEq, Prod.mk.injEq] at H
          obtain ⟨rfl, rfl⟩ := H
          go_wp2
          go_ret2
          exact ⟨rew, blw⟩
  ·rw [if_neg c4] at H
   exact absurd H (by simp)
 ·rw [if_neg c3] at H
  exact absurd H (by simp)
end Go.Proofs.YtadgddipkbdnbaaGreatDoor.Q
