/- Parts of the proof: For every string, Quote and Unquote of the program return what the specification's return; the inputs read as they did; the package-level variables hold what the program's text lays in them: the tied card. -/
import Derived.Test.YtadgddipkbdnbaaGreatDoorLexP1
import Derived.Test.YtadgddipkbdnbaaGreatDoorLexP2
import Derived.Test.YtadgddipkbdnbaaGreatDoorLexP3
import Derived.Test.YtadgddipkbdnbaaGreatDoorLexP4
import Derived.Test.YtadgddipkbdnbaaGreatDoorLexR1
import Derived.Test.YtadgddipkbdnbaaGreatDoorLexR3
import Derived.Test.YtadgddipkbdnbaaGreatDoorLexQuotesZ1
import Derived.Test.YtadgddipkbdnbaaGreatDoorLexQuotesZ2
set_option linter.unusedVariables false
set_option linter.unusedSimpArgs false
namespace Go.Proofs.YtadgddipkbdnbaaGreatDoor.Q
open Go.RowKit Go.Proofs.YtadgddipkbdnbaaGreatDoor YtadgddipkbdnbaaGreatDoorW.PrintWords YtadgddipkbdnbaaGreatDoorW.PrintLast
theorem hexdigs : ∀ d, d < 16 → (⟨#[48, 49, 50, 51, 52, 53, 54, 55, 56, 57, 97, 98, 99, 100, 101, 102]⟩ : ByteArray).extract d (d + 1) = strS [if d < 10 then 48 + UInt8.ofNat d else 87 + UInt8.ofNat d] := by decide
theorem hexstr : ∀ c : UInt8, (⟨#[92, 120]⟩ : ByteArray) ++ strS [if c.toNat / 16 < 10 then 48 + UInt8.ofNat (c.toNat / 16) else 87 + UInt8.ofNat (c.toNat / 16)] ++ strS [if c.toNat % 16 < 10 then 48 + UInt8.ofNat (c.toNat % 16) else 87 + UInt8.ofNat (c.toNat % 16)]
  = strS [92, 120, if c / 16 < 10 then 48 + c / 16 else 87 + c / 16, if c % 16 < 10 then 48 + c % 16 else 87 + c % 16] := u8_all _ (by decide +kernel)
theorem esc_hex (c : UInt8) (h1 : Lib.indexByte [10, 9, 13, 92, 34] c = -1) (h2 : ¬ (32 ≤ c.toNat ∧ c.toNat ≤ 126))
  (he : escB c = [92, 120, if c / 16 < 10 then 48 + c / 16 else 87 + c / 16, if c % 16 < 10 then 48 + c % 16 else 87 + c % 16]) (w : World) :
  Calls Tryz.prog 68 #[.int .u8 (c.toNat : Int)] w fun e w' => e = .returned (.string (strS (escB c))) ∧ Below w.heap.size w w' := by
 obtain ⟨n, hn⟩ : ∃ n : Nat, n = c.toNat := ⟨_, rfl⟩
 have hlt : n < 256 := by rw [hn]; exact c.toNat_lt
 have hc : ∀ d : UInt8, d ∈ ([10, 9, 13, 92, 34] : List UInt8) → n ≠ d.toNat := by
  have := u8_all (fun c => Lib.indexByte [10, 9, 13, 92, 34] c = -1 → ∀ d ∈ ([10, 9, 13, 92, 34] : List UInt8), c.toNat ≠ d.toNat) (by decide +kernel) c h1
  intro d hd; rw [hn]; exact this d hd
 have n10 : ((n : Int) == 10) = false := beq_eq_false_iff_ne.2 (by have := hc 10 (by simp); have e : (10 : UInt8).toNat = 10 := rfl; omega)
 have n9 : ((n : Int) == 9) = false := beq_eq_false_iff_ne.2 (by have := hc 9 (by simp); have e : (9 : UInt8).toNat = 9 := rfl; omega)
 have n13 : ((n : Int) == 13) = false := beq_eq_false_iff_ne.2 (by have := hc 13 (by simp); have e : (13 : UInt8).toNat = 13 := rfl; omega)
 have n92 : ((n : Int) == 92) = false := beq_eq_false_iff_ne.2 (by have := hc 92 (by simp); have e : (92 : UInt8).toNat = 92 := rfl; omega)
 have n34 : ((n : Int) == 34) = false := beq_eq_false_iff_ne.2 (by have := hc 34 (by simp); have e : (34 : UInt8).toNat = 34 := rfl; omega)
 rw [← hn] at h2 ⊢
 have HE := Lib.hid he
 have HN := Lib.hid hn
 have HC := Lib.hid hc
 clear hn hc he
 have hi0 : 0 ≤ (n : Int) := by omega
 have hi1 : (n : Int) < 256 := by omega
 have hfin : (⟨#[92, 120]⟩ : ByteArray) ++ (⟨#[48, 49, 50, 51, 52, 53, 54, 55, 56, 57, 97, 98, 99, 100, 101, 102]⟩ : ByteArray).extract (n / 16) (n / 16 + 1) ++ (⟨#[48, 49, 50, 51, 52, 53, 54, 55, 56, 57, 97, 98, 99, 100, 101, 102]⟩ : ByteArray).extract (n % 16) (n % 16 + 1) = strS (escB c) := by
  rw [hexdigs (n / 16) (by omega), hexdigs (n % 16) (by omega), HN.out, hexstr c, HE.out]
 have HF := Lib.hid hfin
 clear hfin
 have hB : ∀ k, Below w.heap.size w (w.drewN k) := fun k => pw_below_drewN (Below.refl _ _) k
 by_cases h32 : 32 ≤ n
 ·have h126 : ¬ (n ≤ 126) := fun h => h2 ⟨h32, h⟩
  have b1 : decide (32 ≤ (n : Int)) = true := decide_eq_true (by omega)
  have b2 : decide ((n : Int) ≤ 126) = false := decide_eq_false (by omega)
  clear h2 h32 h126
  go_enter Tryz.func68, Tryz.ntmps68
  go_wp2
  repeat (go_quiet (fail); try go_wp2)
  go_ret
  exact ⟨ret_str HF.out, hB _⟩
 ·have b1 : decide (32 ≤ (n : Int)) = false := decide_eq_false (by omega)
  clear h2 h32
  go_enter Tryz.func68, Tryz.ntmps68
  go_wp2
  repeat (go_quiet (fail); try go_wp2)
  go_ret
  exact ⟨ret_str HF.out, hB _⟩
theorem esc_plain (c : UInt8) (h1 : Lib.indexByte [10, 9, 13, 92, 34] c = -1) (h2 : 32 ≤ c.toNat ∧ c.toNat ≤ 126) (he : escB c = [c]) (w : World) :
  Calls Tryz.prog 68 #[.int .u8 (c.toNat : Int)] w fun e w' => e = .returned (.string (strS (escB c))) ∧ Below w.heap.size w w' := by
 obtain ⟨n, hn⟩ : ∃ n : Nat, n = c.toNat := ⟨_, rfl⟩
 have hlt : n < 256 := by rw [hn]; exact c.toNat_lt
 have hc : ∀ d : UInt8, d ∈ ([10, 9, 13, 92, 34] : List UInt8) → n ≠ d.toNat := by
  have := u8_all (fun c => Lib.indexByte [10, 9, 13, 92, 34] c = -1 → ∀ d ∈ ([10, 9, 13, 92, 34] : List UInt8), c.toNat ≠ d.toNat) (by decide +kernel) c h1
  intro d hd; rw [hn]; exact this d hd
 have n10 : ((n : Int) == 10) = false := beq_eq_false_iff_ne.2 (by have := hc 10 (by simp); have e : (10 : UInt8).toNat = 10 := rfl; omega)
 have n9 : ((n : Int) == 9) = false := beq_eq_false_iff_ne.2 (by have := hc 9 (by simp); have e : (9 : UInt8).toNat = 9 := rfl; omega)
 have n13 : ((n : Int) == 13) = false := beq_eq_false_iff_ne.2 (by have := hc 13 (by simp); have e : (13 : UInt8).toNat = 13 := rfl; omega)
 have n92 : ((n : Int) == 92) = false := beq_eq_false_iff_ne.2 (by have := hc 92 (by simp); have e : (92 : UInt8).toNat = 92 := rfl; omega)
 have n34 : ((n : Int) == 34) = false := beq_eq_false_iff_ne.2 (by have := hc 34 (by simp); have e : (34 : UInt8).toNat = 34 := rfl; omega)
 rw [← hn] at h2 ⊢
 have HE := Lib.hid he
 have HN := Lib.hid hn
 have HC := Lib.hid hc
 clear hn hc he
 have hi0 : 0 ≤ (n : Int) := by omega
 have hi1 : (n : Int) < 256 := by omega
 have b1 : decide (32 ≤ (n : Int)) = true := decide_eq_true (by omega)
 have b2 : decide ((n : Int) ≤ 126) = true := decide_eq_true (by omega)
 clear h2
 have HF : Hid (strOfNums [(n : Int)] = strS (escB c)) := Lib.hid (by rw [HE.out, HN.out]; show strS [UInt8.ofNat ((c.toNat : Int)).toNat] = _; rw [Int.toNat_natCast, UInt8.ofNat_toNat])
 have HB := Aside0.mk (Below.refl w.heap.size w)
 obtain ⟨y, hy⟩ : ∃ y : List Int, y = [(n : Int)] := ⟨_, rfl⟩
 rw [← hy] at HF
 have hyl : (9223372036854775807 < 1 + (strOfNums y).size) = False := eq_false (by rw [hy]; simp [strOfNums, ByteArray.size])
 have Ny := Aside0.mk hy
 clear hy
 go_enter Tryz.func68, Tryz.ntmps68
 go_wp2_with (first | ((with_reducible refine gate_dst (N := 25) rfl ?_); refine Kd.R_lit (Kd.int .u8) _ 5 ?hg (N := 25) ?hd (xs := ([(n : Int)] : List Int)) (inner := [.int .u8 (n : Int)]) (ok := fun _ => True) (okp := fun _ => True) ?hr ?hp (fun _ hk => hk) trivial (Below.refl _ _) (Nat.le_refl _) (by simp) ?_; (case hd => rfl); (case hg => rfl); (case hr => first | (go_simp; done) | (go_simp; rfl)); (case hp => exact (Reps.one (show Kd.M (Kd.int .u8) _ _ _ (n : Int) [.int .u8 (n : Int)] from rfl) (Reps.none _ _))); intro v380 w14 ho15 hb hg_ hnew_; clear hg_ hnew_; rw [← Ny.out] at ho15; have n0_ := Aside0.mk (Kd.R_lower ho15 (below_size (by repeat (first | (with_reducible first | exact HB.out | apply below_alloc | apply pw_below_drewN | apply below_drew1) | exact HB.out)))); have n1_ := Aside0.mk (below_step (by repeat (first | (with_reducible first | exact HB.out | apply below_alloc | apply pw_below_drewN | apply below_drew1) | exact HB.out)) hb); clear HB; have HO381 := n0_; have HB := n1_; clear n0_ n1_; clear hb ho15; have hcv16 := own_string (P := Tryz.prog) Tryz.underlying83 Tryz.underlying5 Tryz.underlying9 (Kd.own_of_R HO381.out)))
 repeat (go_quiet (first | ((with_reducible refine gate_dst (N := 25) rfl ?_); refine Kd.R_lit (Kd.int .u8) _ 5 ?hg (N := 25) ?hd (xs := ([(n : Int)] : List Int)) (inner := [.int .u8 (n : Int)]) (ok := fun _ => True) (okp := fun _ => True) ?hr ?hp (fun _ hk => hk) trivial (Below.refl _ _) (Nat.le_refl _) (by simp) ?_; (case hd => rfl); (case hg => rfl); (case hr => first | (go_simp; done) | (go_simp; rfl)); (case hp => exact (Reps.one (show Kd.M (Kd.int .u8) _ _ _ (n : Int) [.int .u8 (n : Int)] from rfl) (Reps.none _ _))); intro v380 w14 ho15 hb hg_ hnew_; clear hg_ hnew_; rw [← Ny.out] at ho15; have n0_ := Aside0.mk (Kd.R_lower ho15 (below_size (by repeat (first | (with_reducible first | exact HB.out | apply below_alloc | apply pw_below_drewN | apply below_drew1) | exact HB.out)))); have n1_ := Aside0.mk (below_step (by repeat (first | (with_reducible first | exact HB.out | apply below_alloc | apply pw_below_drewN | apply below_drew1) | exact HB.out)) hb); clear HB; have HO381 := n0_; have HB := n1_; clear n0_ n1_; clear hb ho15; have hcv16 := own_string (P := Tryz.prog) Tryz.underlying83 Tryz.underlying5 Tryz.underlying9 (Kd.own_of_R HO381.out))); try go_wp2_with (first | ((with_reducible refine gate_dst (N := 25) rfl ?_); refine Kd.R_lit (Kd.int .u8) _ 5 ?hg (N := 25) ?hd (xs := ([(n : Int)] : List Int)) (inner := [.int .u8 (n : Int)]) (ok := fun _ => True) (okp := fun _ => True) ?hr ?hp (fun _ hk => hk) trivial (Below.refl _ _) (Nat.le_refl _) (by simp) ?_; (case hd => rfl); (case hg => rfl); (case hr => first | (go_simp; done) | (go_simp; rfl)); (case hp => exact (Reps.one (show Kd.M (Kd.int .u8) _ _ _ (n : Int) [.int .u8 (n : Int)] from rfl) (Reps.none _ _))); intro v380 w14 ho15 hb hg_ hnew_; clear hg_ hnew_; rw [← Ny.out] at ho15; have n0_ := Aside0.mk (Kd.R_lower ho15 (below_size (by repeat (first | (with_reducible first | exact HB.out | apply below_alloc | apply pw_below_drewN | apply below_drew1) | exact HB.out)))); have n1_ := Aside0.mk (below_step (by repeat (first | (with_reducible first | exact HB.out | apply below_alloc | apply pw_below_drewN | apply below_drew1) | exact HB.out)) hb); clear HB; have HO381 := n0_; have HB := n1_; clear n0_ n1_; clear hb ho15; have hcv16 := own_string (P := Tryz.prog) Tryz.underlying83 Tryz.underlying5 Tryz.underlying9 (Kd.own_of_R HO381.out))))
 go_ret
 exact ⟨ret_str HF.out, (by repeat (first | (with_reducible first | exact HB.out | apply below_alloc | apply pw_below_drewN | apply below_drew1) | exact HB.out))⟩
theorem esc_back (c : UInt8) (h2 : c = 92 ∨ c = 34) (w : World) :
  Calls Tryz.prog 68 #[.int .u8 (c.toNat : Int)] w fun e w' => e = .returned (.string (strS (escB c))) ∧ Below w.heap.size w w' := by
 rcases h2 with rfl | rfl
 ·show Calls Tryz.prog 68 #[.int .u8 92] w _
  obtain ⟨n, hn⟩ : ∃ n : Int, n = 92 := ⟨_, rfl⟩
  have HF : Hid ((⟨#[92]⟩ : ByteArray) ++ strOfNums [n] = strS (escB 92)) := Lib.hid (by rw [hn]; decide)
  rw [← hn]
  have n10 : (n == 10) = false := by rw [hn]; decide
  have n9 : (n == 9) = false := by rw [hn]; decide
  have n13 : (n == 13) = false := by rw [hn]; decide
  have n92 : (n == 92) = true := by rw [hn]; decide
  clear hn
  have HB := Aside0.mk (Below.refl w.heap.size w)
  obtain ⟨y, hy⟩ : ∃ y : List Int, y = [(n : Int)] := ⟨_, rfl⟩
  rw [← hy] at HF
  have hyl : (9223372036854775807 < 1 + (strOfNums y).size) = False := eq_false (by rw [hy]; simp [strOfNums, ByteArray.size])
  have Ny := Aside0.mk hy
  clear hy
  go_enter Tryz.func68, Tryz.ntmps68
  go_wp2_with (first | ((with_reducible refine gate_dst (N := 15) rfl ?_); refine Kd.R_lit (Kd.int .u8) _ 5 ?hg (N := 15) ?hd (xs := ([(n : Int)] : List Int)) (inner := [.int .u8 (n : Int)]) (ok := fun _ => True) (okp := fun _ => True) ?hr ?hp (fun _ hk => hk) trivial (Below.refl _ _) (Nat.le_refl _) (by simp) ?_; (case hd => rfl); (case hg => rfl); (case hr => first | (go_simp; done) | (go_simp; rfl)); (case hp => exact (Reps.one (show Kd.M (Kd.int .u8) _ _ _ (n : Int) [.int .u8 (n : Int)] from rfl) (Reps.none _ _))); intro v380 w14 ho15 hb hg_ hnew_; clear hg_ hnew_; rw [← Ny.out] at ho15; have n0_ := Aside0.mk (Kd.R_lower ho15 (below_size (by repeat (first | (with_reducible first | exact HB.out | apply below_alloc | apply pw_below_drewN | apply below_drew1) | exact HB.out)))); have n1_ := Aside0.mk (below_step (by repeat (first | (with_reducible first | exact HB.out | apply below_alloc | apply pw_below_drewN | apply below_drew1) | exact HB.out)) hb); clear HB; have HO381 := n0_; have HB := n1_; clear n0_ n1_; clear hb ho15; have hcv16 := own_string (P := Tryz.prog) Tryz.underlying83 Tryz.underlying5 Tryz.underlying9 (Kd.own_of_R HO381.out)))
  repeat (go_quiet (first | ((with_reducible refine gate_dst (N := 15) rfl ?_); refine Kd.R_lit (Kd.int .u8) _ 5 ?hg (N := 15) ?hd (xs := ([(n : Int)] : List Int)) (inner := [.int .u8 (n : Int)]) (ok := fun _ => True) (okp := fun _ => True) ?hr ?hp (fun _ hk => hk) trivial (Below.refl _ _) (Nat.le_refl _) (by simp) ?_; (case hd => rfl); (case hg => rfl); (case hr => first | (go_simp; done) | (go_simp; rfl)); (case hp => exact (Reps.one (show Kd.M (Kd.int .u8) _ _ _ (n : Int) [.int .u8 (n : Int)] from rfl) (Reps.none _ _))); intro v380 w14 ho15 hb hg_ hnew_; clear hg_ hnew_; rw [← Ny.out] at ho15; have n0_ := Aside0.mk (Kd.R_lower ho15 (below_size (by repeat (first | (with_reducible first | exact HB.out | apply below_alloc | apply pw_below_drewN | apply below_drew1) | exact HB.out)))); have n1_ := Aside0.mk (below_step (by repeat (first | (with_reducible first | exact HB.out | apply below_alloc | apply pw_below_drewN | apply below_drew1) | exact HB.out)) hb); clear HB; have HO381 := n0_; have HB := n1_; clear n0_ n1_; clear hb ho15; have hcv16 := own_string (P := Tryz.prog) Tryz.underlying83 Tryz.underlying5 Tryz.underlying9 (Kd.own_of_R HO381.out))); try go_wp2_with (first | ((with_reducible refine gate_dst (N := 15) rfl ?_); refine Kd.R_lit (Kd.int .u8) _ 5 ?hg (N := 15) ?hd (xs := ([(n : Int)] : List Int)) (inner := [.int .u8 (n : Int)]) (ok := fun _ => True) (okp := fun _ => True) ?hr ?hp (fun _ hk => hk) trivial (Below.refl _ _) (Nat.le_refl _) (by simp) ?_; (case hd => rfl); (case hg => rfl); (case hr => first | (go_simp; done) | (go_simp; rfl)); (case hp => exact (Reps.one (show Kd.M (Kd.int .u8) _ _ _ (n : Int) [.int .u8 (n : Int)] from rfl) (Reps.none _ _))); intro v380 w14 ho15 hb hg_ hnew_; clear hg_ hnew_; rw [← Ny.out] at ho15; have n0_ := Aside0.mk (Kd.R_lower ho15 (below_size (by repeat (first | (with_reducible first | exact HB.out | apply below_alloc | apply pw_below_drewN | apply below_drew1) | exact HB.out)))); have n1_ := Aside0.mk (below_step (by repeat (first | (with_reducible first | exact HB.out | apply below_alloc | apply pw_below_drewN | apply below_drew1) | exact HB.out)) hb); clear HB; have HO381 := n0_; have HB := n1_; clear n0_ n1_; clear hb ho15; have hcv16 := own_string (P := Tryz.prog) Tryz.underlying83 Tryz.underlying5 Tryz.underlying9 (Kd.own_of_R HO381.out))))
  go_ret
  exact ⟨ret_str HF.out, (by repeat (first | (with_reducible first | exact HB.out | apply below_alloc | apply pw_below_drewN | apply below_drew1) | exact HB.out))⟩
 ·show Calls Tryz.prog 68 #[.int .u8 34] w _
  obtain ⟨n, hn⟩ : ∃ n : Int, n = 34 := ⟨_, rfl⟩
  have HF : Hid ((⟨#[92]⟩ : ByteArray) ++ strOfNums [n] = strS (escB 34)) := Lib.hid (by rw [hn]; decide)
  rw [← hn]
  have n10 : (n == 10) = false := by rw [hn]; decide
  have n9 : (n == 9) = false := by rw [hn]; decide
  have n13 : (n == 13) = false := by rw [hn]; decide
  have n92 : (n == 92) = false := by rw [hn]; decide
  have n34 : (n == 34) = true := by rw [hn]; decide
  clear hn
  have HB := Aside0.mk (Below.refl w.heap.size w)
  obtain ⟨y, hy⟩ : ∃ y : List Int, y = [(n : Int)] := ⟨_, rfl⟩
  rw [← hy] at HF
  have hyl : (9223372036854775807 < 1 + (strOfNums y).size) = False := eq_false (by rw [hy]; simp [strOfNums, ByteArray.size])
  have Ny := Aside0.mk hy
  clear hy
  go_enter Tryz.func68, Tryz.ntmps68
  go_wp2_with (first | ((with_reducible refine gate_dst (N := 15) rfl ?_); refine Kd.R_lit (Kd.int .u8) _ 5 ?hg (N := 15) ?hd (xs := ([(n : Int)] : List Int)) (inner := [.int .u8 (n : Int)]) (ok := fun _ => True) (okp := fun _ => True) ?hr ?hp (fun _ hk => hk) trivial (Below.refl _ _) (Nat.le_refl _) (by simp) ?_; (case hd => rfl); (case hg => rfl); (case hr => first | (go_simp; done) | (go_simp; rfl)); (case hp => exact (Reps.one (show Kd.M (Kd.int .u8) _ _ _ (n : Int) [.int .u8 (n : Int)] from rfl) (Reps.none _ _))); intro v380 w14 ho15 hb hg_ hnew_; clear hg_ hnew_; rw [← Ny.out] at ho15; have n0_ := Aside0.mk (Kd.R_lower ho15 (below_size (by repeat (first | (with_reducible first | exact HB.out | apply below_alloc | apply pw_below_drewN | apply below_drew1) | exact HB.out)))); have n1_ := Aside0.mk (below_step (by repeat (first | (with_reducible first | exact HB.out | apply below_alloc | apply pw_below_drewN | apply below_drew1) | exact HB.out)) hb); clear HB; have HO381 := n0_; have HB := n1_; clear n0_ n1_; clear hb ho15; have hcv16 := own_string (P := Tryz.prog) Tryz.underlying83 Tryz.underlying5 Tryz.underlying9 (Kd.own_of_R HO381.out)))
  repeat (go_quiet (first | ((with_reducible refine gate_dst (N := 15) rfl ?_); refine Kd.R_lit (Kd.int .u8) _ 5 ?hg (N := 15) ?hd (xs := ([(n : Int)] : List Int)) (inner := [.int .u8 (n : Int)]) (ok := fun _ => True) (okp := fun _ => True) ?hr ?hp (fun _ hk => hk) trivial (Below.refl _ _) (Nat.le_refl _) (by simp) ?_; (case hd => rfl); (case hg => rfl); (case hr => first | (go_simp; done) | (go_simp; rfl)); (case hp => exact (Reps.one (show Kd.M (Kd.int .u8) _ _ _ (n : Int) [.int .u8 (n : Int)] from rfl) (Reps.none _ _))); intro v380 w14 ho15 hb hg_ hnew_; clear hg_ hnew_; rw [← Ny.out] at ho15; have n0_ := Aside0.mk (Kd.R_lower ho15 (below_size (by repeat (first | (with_reducible first | exact HB.out | apply below_alloc | apply pw_below_drewN | apply below_drew1) | exact HB.out)))); have n1_ := Aside0.mk (below_step (by repeat (first | (with_reducible first | exact HB.out | apply below_alloc | apply pw_below_drewN | apply below_drew1) | exact HB.out)) hb); clear HB; have HO381 := n0_; have HB := n1_; clear n0_ n1_; clear hb ho15; have hcv16 := own_string (P := Tryz.prog) Tryz.underlying83 Tryz.underlying5 Tryz.underlying9 (Kd.own_of_R HO381.out))); try go_wp2_with (first | ((with_reducible refine gate_dst (N := 15) rfl ?_); refine Kd.R_lit (Kd.int .u8) _ 5 ?hg (N := 15) ?hd (xs := ([(n : Int)] : List Int)) (inner := [.int .u8 (n : Int)]) (ok := fun _ => True) (okp := fun _ => True) ?hr ?hp (fun _ hk => hk) trivial (Below.refl _ _) (Nat.le_refl _) (by simp) ?_; (case hd => rfl); (case hg => rfl); (case hr => first | (go_simp; done) | (go_simp; rfl)); (case hp => exact (Reps.one (show Kd.M (Kd.int .u8) _ _ _ (n : Int) [.int .u8 (n : Int)] from rfl) (Reps.none _ _))); intro v380 w14 ho15 hb hg_ hnew_; clear hg_ hnew_; rw [← Ny.out] at ho15; have n0_ := Aside0.mk (Kd.R_lower ho15 (below_size (by repeat (first | (with_reducible first | exact HB.out | apply below_alloc | apply pw_below_drewN | apply below_drew1) | exact HB.out)))); have n1_ := Aside0.mk (below_step (by repeat (first | (with_reducible first | exact HB.out | apply below_alloc | apply pw_below_drewN | apply below_drew1) | exact HB.out)) hb); clear HB; have HO381 := n0_; have HB := n1_; clear n0_ n1_; clear hb ho15; have hcv16 := own_string (P := Tryz.prog) Tryz.underlying83 Tryz.underlying5 Tryz.underlying9 (Kd.own_of_R HO381.out))))
  go_ret
  exact ⟨ret_str HF.out, (by repeat (first | (with_reducible first | exact HB.out | apply below_alloc | apply pw_below_drewN | apply below_drew1) | exact HB.out))⟩
theorem esc_letter (c : UInt8) (h2 : c = 10 ∨ c = 9 ∨ c = 13) (w : World) :
  Calls Tryz.prog 68 #[.int .u8 (c.toNat : Int)] w fun e w' => e = .returned (.string (strS (escB c))) ∧ Below w.heap.size w w' := by
 rcases h2 with rfl | rfl | rfl
 ·show Calls Tryz.prog 68 #[.int .u8 10] w _
  go_enter Tryz.func68, Tryz.ntmps68
  go_wp2
  go_ret
  exact ⟨rfl, Below.refl _ _⟩
 ·show Calls Tryz.prog 68 #[.int .u8 9] w _
  go_enter Tryz.func68, Tryz.ntmps68
  go_wp2
  go_ret
  exact ⟨rfl, Below.refl _ _⟩
 ·show Calls Tryz.prog 68 #[.int .u8 13] w _
  go_enter Tryz.func68, Tryz.ntmps68
  go_wp2
  go_ret
  exact ⟨rfl, Below.refl _ _⟩
theorem esc_cases : ∀ c : UInt8, (Lib.indexByte [10, 9, 13, 92, 34] c = -1 ∧ 32 ≤ c.toNat ∧ c.toNat ≤ 126 ∧ escB c = [c]) ∨ (Lib.indexByte [10, 9, 13, 92, 34] c = -1 ∧ ¬ (32 ≤ c.toNat ∧ c.toNat ≤ 126) ∧ escB c = [92, 120, if c / 16 < 10 then 48 + c / 16 else 87 + c / 16, if c % 16 < 10 then 48 + c % 16 else 87 + c % 16]) ∨ (c = 92 ∨ c = 34) ∨ (c = 10 ∨ c = 9 ∨ c = 13) := by
 refine u8_all _ ?_
 decide +kernel
theorem esc_any (c : UInt8) (w : World) :
  Calls Tryz.prog 68 #[.int .u8 (c.toNat : Int)] w fun e w' => e = .returned (.string (strS (escB c))) ∧ Below w.heap.size w w' := by
 rcases esc_cases c with ⟨h1, h2, h3, h4⟩ | ⟨h1, h2, h3⟩ | h | h
 ·exact esc_plain c h1 ⟨h2, h3⟩ h4 w
 ·exact esc_hex c h1 h2 h3 w
 ·exact esc_back c h w
 ·exact esc_letter c h w
def taplineref11_escape.f (a0 : Int) : Option ByteArray := if 0 ≤ a0 ∧ a0 < 256 then some (strS (escB (UInt8.ofNat a0.toNat))) else none
theorem taplineref11_escape.calls (a0 : Int) (r : ByteArray) (w : World) (h : taplineref11_escape.f a0 = some r) :
  Calls Tryz.prog 68 #[.int .u8 a0] w fun e w' => e = .returned (.string r) ∧ Below w.heap.size w w' := by
 unfold taplineref11_escape.f at h
 split at h
 ·rename_i hc
  cases h
  have := esc_any (UInt8.ofNat a0.toNat) w
  rw [UInt8.toNat_ofNat'] at this
  have e : ((a0.toNat % 2 ^ 8 : Nat) : Int) = a0 := by omega
  rw [e] at this
  exact this
 ·cases h
end Go.Proofs.YtadgddipkbdnbaaGreatDoor.Q
namespace Go.Proofs.YtadgddipkbdnbaaGreatDoor.Q
open Go.Proofs.YtadgddipkbdnbaaGreatDoor Go.RowKit Go.Proofs.YtadgddipkbdnbaaGreatDoorW.PrintWords Go.Proofs.YtadgddipkbdnbaaGreatDoorW.PrintLast Go.Proofs.YtadgddipkbdnbaaGreatDoorW.PrintMore
attribute [local go_sem] max2_int min2_int max_two min_two max_three min_three max_four min_four   
set_option linter.unusedVariables false
set_option linter.unusedSimpArgs false
def taplineref11_Quote.l0 : Nat → ByteArray → ByteArray → Int → Option (ByteArray × Int)
 | 0, _, _, _ => none
 | k + 1, x0, x3, x4 => if x4 < (x0.size : Int) then (if 0 ≤ x4 then (if (bt x0 x4) = 0 then (some ((⟨#[]⟩ : ByteArray), 1)) else ((taplineref11_escape.f (bt x0 x4)).bind fun t377 => (if x3.size + t377.size ≤ 9223372036854775807 then (taplineref11_Quote.l0 k x0 (x3 ++ t377) (wrap64 (x4 + 1))) else (none)))) else (none)) else (if x3.size + 1 ≤ 9223372036854775807 then (some (x3 ++ (⟨#[34]⟩ : ByteArray), 0)) else (none))
def taplineref11_Quote.f (k : Nat) (a0 : ByteArray) : Option (ByteArray × Int) := if (a0.size : Int) > 64 then (some ((⟨#[]⟩ : ByteArray), 2)) else (taplineref11_Quote.l0 k a0 (⟨#[34]⟩ : ByteArray) 0)
theorem taplineref11_Quote.mono_l : ∀ k, (∀ y0 y1 y2, LeO (taplineref11_Quote.l0 k y0 y1 y2) (taplineref11_Quote.l0 (k + 1) y0 y1 y2))
 | 0 => fun _ _ _ r h => by simp [taplineref11_Quote.l0] at h
 | k + 1 => by
  have ih0 := taplineref11_Quote.mono_l k
  ·intro y0 y1 y2
   unfold taplineref11_Quote.l0
   repeat' first
   | (with_reducible exact ih0 _ _ _)
   | (with_reducible exact LeO.refl _)
   | (with_reducible exact LeO.none _)
   | (with_reducible refine LeO.ite ?_ ?_)
   | (with_reducible refine LeO.bind ?_ (fun _ => ?_))
   | exact LeO.none _
   | refine LeO.ite ?_ ?_
   | refine LeO.bind ?_ (fun _ => ?_)
theorem taplineref11_Quote.mono : ∀ a0 k, LeO (taplineref11_Quote.f k a0) (taplineref11_Quote.f (k + 1) a0) := by
 intro a0 k
 have ih0 := taplineref11_Quote.mono_l k
 unfold taplineref11_Quote.f
 repeat' first
   | (with_reducible exact ih0 _ _ _)
   | (with_reducible exact LeO.refl _)
   | (with_reducible exact LeO.none _)
   | (with_reducible refine LeO.ite ?_ ?_)
   | (with_reducible refine LeO.bind ?_ (fun _ => ?_))
   | exact LeO.none _
   | refine LeO.ite ?_ ?_
   | refine LeO.bind ?_ (fun _ => ?_)
set_option maxHeartbeats 8000000 in
set_option maxRecDepth 100000 in
theorem taplineref11_Quote.calls (k : Nat) (a0 : ByteArray) (r1 : ByteArray) (r2 : Int) (w : World) (h : taplineref11_Quote.f k a0 = some (r1, r2)) :
  Calls Tryz.prog 32 #[.string a0] w fun e w' => e = .returned (.agg #[.string r1, .int .i64 r2]) ∧ Below w.heap.size w w' := by
 have hu55 := Tryz.underlying55
 have HB := Aside0.mk (Below.refl w.heap.size w)
 have H : (if (a0.size : Int) > 64 then (some ((⟨#[]⟩ : ByteArray), 2)) else (taplineref11_Quote.l0 k a0 (⟨#[34]⟩ : ByteArray) 0)) = some (r1, r2) := h
 clear h
 by_cases c2 : (a0.size : Int) > 64
 ·rw [if_pos c2] at H
  have c2b0 : decide (64 < (a0.size : Int)) = true := decide_eq_true c2
  have c2b1 : decide (64 < a0.size) = true := decide_eq_true (by omega)
  clear c2
  simp only [Option.some.injEq, Prod.mk.injEq] at H
  obtain ⟨rfl, rfl⟩ := H
  go_enter Tryz.func32, Tryz.ntmps32
  go_wp2_with (first | ((with_reducible refine gate_dst (N := 2) rfl ?_); refine box_event ?hg (N := 2) ?hd (cs := #[.string (⟨#[]⟩ : ByteArray), .int .i64 0]) (t := 55) ?hr ?_; (case hd => rfl); (case hg => rfl); (case hr => first | (go_simp; done) | (go_simp; rfl)); intro gb376 hg w3 hbox hb; have n0_ := Aside0.mk (below_step blw hb); have n1_ := Aside0.mk (hbox); have n2_ := Aside0.mk ((by rw [hg]; exact (below_size blw) : w.heap.size ≤ gb376)); have n3_ := Aside0.mk ((by rw [hg]; exact (below_size blw) : w.heap.size ≤ gb376)); clear HB; have HB := n0_; have BK376 := n1_; have GW376 := n2_; have GE376 := n3_; clear n0_ n1_ n2_ n3_; clear hb hbox hg; have hcz4_0 : w3.cell? ⟨gb376, 0, none⟩ = some (.string (⟨#[]⟩ : ByteArray)) := (blk_cell BK376.out 0).trans rfl; have hcz4_1 : w3.cell? ⟨gb376, 1, none⟩ = some (.int .i64 0) := (blk_cell BK376.out 1).trans rfl; have hfz4_0 := blk_frozen BK376.out 0; have hfz4_1 := blk_frozen BK376.out 1))
  refine bodyPost_ret (results_cell_row rfl _ _ gb376 55 #[.string (⟨#[]⟩ : ByteArray), .int .i64 2] (0, 0) _ rfl (by (with_reducible repeat (first | refine blk_drewN ?_ _ | refine blk_drew ?_ | refine blk_alloc ?_ _)); refine blk_put (cs := #[.string (⟨#[]⟩ : ByteArray), .int .i64 0]) ?_ 1 _ rfl; (with_reducible repeat (first | refine blk_drewN ?_ _ | refine blk_drew ?_ | refine blk_alloc ?_ _)); refine blk_put (cs := #[.string (⟨#[]⟩ : ByteArray), .int .i64 0]) ?_ 0 _ rfl; (with_reducible repeat (first | refine blk_drewN ?_ _ | refine blk_drew ?_ | refine blk_alloc ?_ _)); exact BK376.out) Tryz.underlying55 rfl (by kernel_rfl)) rfl ?_
  exact ⟨rew, blw⟩
 ·rw [if_neg c2] at H
  have c2b0 : decide (64 < (a0.size : Int)) = false := decide_eq_false c2
  have c2b1 : decide (64 < a0.size) = false := decide_eq_false (by omega)
  clear c2
  have H' := Aside0.mk H
  clear H
  go_enter Tryz.func32, Tryz.ntmps32
  go_wp2_with (first | ((with_reducible refine gate_dst (N := 2) rfl ?_); refine box_event ?hg (N := 2) ?hd (cs := #[.string (⟨#[]⟩ : ByteArray), .int .i64 0]) (t := 55) ?hr ?_; (case hd => rfl); (case hg => rfl); (case hr => first | (go_simp; done) | (go_simp; rfl)); intro gb376 hg w5 hbox hb; have n0_ := Aside0.mk (below_step blw hb); have n1_ := Aside0.mk (hbox); have n2_ := Aside0.mk ((by rw [hg]; exact (below_size blw) : w.heap.size ≤ gb376)); have n3_ := Aside0.mk ((by rw [hg]; exact (below_size blw) : w.heap.size ≤ gb376)); clear HB; have HB := n0_; have BK376 := n1_; have GW376 := n2_; have GE376 := n3_; clear n0_ n1_ n2_ n3_; clear hb hbox hg))
  try simp only [Act.put, List.setIfInBounds_toArray, List.set_cons_zero, List.set_cons_succ]
  go_loopg [3, 4] k (fun kq v3 v4 w' => ∃ (x3_1 : ByteArray) (x4_1 : Int) (x377000_1 : ByteArray) (x377001_1 : Int), v3 = .string x3_1 ∧ v4 = .int .i64 x4_1 ∧ Aside0 (taplineref11_Quote.l0 kq a0 x3_1 x4_1 = some (r1, r2)) ∧ Aside0 (kq ≤ k) ∧ Aside0 (w'.heap[gb376]? = some (.cells #[.string x377000_1, .int .i64 x377001_1] 55 (0, 0))) ∧ Aside0 (Below w.heap.size w w'))
  case atStart => exact ⟨((⟨#[34]⟩ : ByteArray)), (0), ((⟨#[]⟩ : ByteArray)), (0), rsd, rsd, H', ⟨Nat.le_refl _⟩, ⟨bko⟩, ⟨blw⟩⟩
  case round =>
   clear H'
   try clear c2
   try clear c2b0
   try clear c2b1
   try clear p2
   try clear c3
   try clear hcz4_0
   try clear hcz4_1
   try clear hfz4_0
   try clear hfz4_1
   obtain ⟨x3_1, x4_1, x377000_1, x377001_1, rfl, rfl, HA, HK1, BK376, HB⟩ := hrel
   cases gk with
   | zero => exact absurd HA.out (by simp [taplineref11_Quote.l0])
   | succ k1 =>
    have H := HA.out
    clear HA
    simp only [taplineref11_Quote.l0] at H
    by_cases c6 : x4_1 < (a0.size : Int)
    ·rw [if_pos c6] at H
     have c6b0 : decide (x4_1 < (a0.size : Int)) = true := decide_eq_true c6
     clear c6
     by_cases c7 : 0 ≤ x4_1
     ·rw [if_pos c7] at H
      have c7b0 : decide (0 ≤ x4_1) = true := decide_eq_true c7
      clear c7
      by_cases c9 : (bt a0 x4_1) = 0
      ·rw [if_pos c9] at H
       have c9b0 : ((bt a0 x4_1) == 0) = true := beq_iff_eq.mpr c9
       have c9b1 : ((bt a0 x4_1) != 0) = false := bne_eq_false_iff_eq.mpr c9
       clear c9
       simp only [Option.some.injEq, Prod.mk.injEq] at H
       obtain ⟨rfl, rfl⟩ := H
       have p8 : 0 ≤ (x4_1 : Int) := of_decide_eq_true asm
       have q8 : x4_1 < (a0.size : Int) := of_decide_eq_true asm
       have hx8 := bt_at a0 x4_1
       replace p8 := eq_true p8
       replace q8 := eq_true q8
       have hcz10_0 : wr.cell? ⟨gb376, 0, none⟩ = some (.string x377000_1) := (blk_cell BK376.out 0).trans rfl
       have hcz10_1 : wr.cell? ⟨gb376, 1, none⟩ = some (.int .i64 x377001_1) := (blk_cell BK376.out 1).trans rfl
       have hfz10_0 := blk_frozen BK376.out 0
       have hfz10_1 := blk_frozen BK376.out 1
       go_wp2
       refine bodyPost_ret (results_cell_row rfl _ _ gb376 55 #[.string (⟨#[]⟩ : ByteArray), .int .i64 1] (0, 0) _ rfl (by (with_reducible repeat (first | refine blk_drewN ?_ _ | refine blk_drew ?_ | refine blk_alloc ?_ _)); refine blk_put (cs := #[.string (⟨#[]⟩ : ByteArray), .int .i64 x377001_1]) ?_ 1 _ rfl; (with_reducible repeat (first | refine blk_drewN ?_ _ | refine blk_drew ?_ | refine blk_alloc ?_ _)); refine blk_put (cs := #[.string x377000_1, .int .i64 x377001_1]) ?_ 0 _ rfl; (with_reducible repeat (first | refine blk_drewN ?_ _ | refine blk_drew ?_ | refine blk_alloc ?_ _)); exact BK376.out) Tryz.underlying55 rfl (by kernel_rfl)) rfl ?_
       exact ⟨rew, blw⟩
      ·rw [if_neg c9] at H
       have c9b0 : ((bt a0 x4_1) == 0) = false := beq_eq_false_iff_ne.mpr c9
       have c9b1 : ((bt a0 x4_1) != 0) = true := bne_iff_ne.mpr c9
       replace H := Option.bind_eq_some_iff.mp H
       obtain ⟨t377, A120, H⟩ := H
       replace H : (if x3_1.size + t377.size ≤ 9223372036854775807 then (taplineref11_Quote.l0 k1 a0 (x3_1 ++ t377) (wrap64 (x4_1 + 1))) else (none)) = some (r1, r2) := H
       have A12 := Aside0.mk A120
       clear A120
       by_cases c13 : x3_1.size + t377.size ≤ 9223372036854775807
       ·rw [if_pos c13] at H
        have c13b0 := eq_true c13
        have c13b1 : decide (x3_1.size + t377.size ≤ 9223372036854775807) = true := decide_eq_true c13
        try have c13b2 : (9223372036854775807 < x3_1.size + t377.size) = False := eq_false (Nat.not_lt.2 c13)
        have H' := Aside0.mk H
        clear H
        have p8 : 0 ≤ (x4_1 : Int) := of_decide_eq_true asm
        have q8 : x4_1 < (a0.size : Int) := of_decide_eq_true asm
        have hx8 := bt_at a0 x4_1
        replace p8 := eq_true p8
        replace q8 := eq_true q8
        have p11 : 0 ≤ (x4_1 : Int) := of_decide_eq_true asm
        have q11 : x4_1 < (a0.size : Int) := of_decide_eq_true asm
        have hx11 := bt_at a0 x4_1
        replace p11 := eq_true p11
        replace q11 := eq_true q11
        go_wp2_with (first | ((with_reducible refine gate_callee (f := 68) rfl ?_); refine goesL_ (some 24) rfl rfl Tryz.func68 (by kernel_rfl) rfl #[.int .u8 (bt a0 x4_1)] rfl fq ?_; (with_reducible refine (taplineref11_escape.calls (bt a0 x4_1) t377 _ A12.out).mono ?_); rintro e w14 ⟨rfl, hb⟩; refine ⟨_, rfl, ?_⟩; have n0_ := Aside0.mk (blk_below (g := gb376) (o := .cells #[.string x377000_1, .int .i64 x377001_1] 55 (0, 0)) bko hb); have n1_ := Aside0.mk (below_step blw hb); clear BK376; clear HB; have BK376 := n0_; have HB := n1_; clear n0_ n1_; (try clear hb); (try clear hb2); (try clear hk); (try clear hi)))
        go_roundg k1
        case measure => have := HK1.out; omega
        case rel => exact ⟨(x3_1 ++ t377), (wrap64 (x4_1 + 1)), (x377000_1), (x377001_1), rsd, rsd, H', ⟨by have := HK1.out; omega⟩, ⟨bko⟩, ⟨blw⟩⟩
       ·rw [if_neg c13] at H
        exact absurd H (by simp)
     ·rw [if_neg c7] at H
      exact absurd H (by simp)
    ·rw [if_neg c6] at H
     have c6b0 : decide (x4_1 < (a0.size : Int)) = false := decide_eq_false c6
     clear c6
     by_cases c15 : x3_1.size + 1 ≤ 9223372036854775807
     ·rw [if_pos c15] at H
      have c15b0 := eq_true c15
      have c15b1 : decide (x3_1.size + 1 ≤ 9223372036854775807) = true := decide_eq_true c15
      try have c15b2 : (9223372036854775807 < x3_1.size + 1) = False := eq_false (Nat.not_lt.2 c15)
      simp only [Option.some.injEq, Prod.mk.injEq] at H
      obtain ⟨rfl, rfl⟩ := H
      have hcz16_0 : wr.cell? ⟨gb376, 0, none⟩ = some (.string x377000_1) := (blk_cell BK376.out 0).trans rfl
      have hcz16_1 : wr.cell? ⟨gb376, 1, none⟩ = some (.int .i64 x377001_1) := (blk_cell BK376.out 1).trans rfl
      have hfz16_0 := blk_frozen BK376.out 0
      have hfz16_1 := blk_frozen BK376.out 1
      go_wp2
      refine bodyPost_ret (results_cell_row rfl _ _ gb376 55 #[.string (x3_1 ++ (⟨#[34]⟩ : ByteArray)), .int .i64 0] (0, 0) _ rfl (by (with_reducible repeat (first | refine blk_drewN ?_ _ | refine blk_drew ?_ | refine blk_alloc ?_ _)); refine blk_put (cs := #[.string (x3_1 ++ (⟨#[34]⟩ : ByteArray)), .int .i64 x377001_1]) ?_ 1 _ rfl; (with_reducible repeat (first | refine blk_drewN ?_ _ | refine blk_drew ?_ | refine blk_alloc ?_ _)); refine blk_put (cs := #[.string x377000_1, .int .i64 x377001_1]) ?_ 0 _ rfl; (with_reducible repeat (first | refine blk_drewN ?_ _ | refine blk_drew ?_ | refine blk_alloc ?_ _)); exact BK376.out) Tryz.underlying55 rfl (by kernel_rfl)) rfl ?_
      exact ⟨rew, blw⟩
     ·rw [if_neg c15] at H
      exact absurd H (by simp)
end Go.Proofs.YtadgddipkbdnbaaGreatDoor.Q
namespace Go.Proofs.YtadgddipkbdnbaaGreatDoor.Q
open Go.Proofs.YtadgddipkbdnbaaGreatDoor Go.RowKit Go.Proofs.YtadgddipkbdnbaaGreatDoorW.PrintWords Go.Proofs.YtadgddipkbdnbaaGreatDoorW.PrintLast Go.Proofs.YtadgddipkbdnbaaGreatDoorW.PrintMore
attribute [local go_sem] max2_int min2_int max_two min_two max_three min_three max_four min_four   
set_option linter.unusedVariables false
set_option linter.unusedSimpArgs false
def taplineref11_Unquote.f (k : Nat) (a0 : ByteArray) : Option (ByteArray × Int) := (taplineref11_Kind.f k a0).bind fun t386 => (if t386 = 4 then ((taplineref11_quoted.f k a0 0).bind fun bt387 => (some (bt387.2, 0))) else (some ((⟨#[]⟩ : ByteArray), 114)))
theorem taplineref11_Unquote.mono : ∀ a0 k, LeO (taplineref11_Unquote.f k a0) (taplineref11_Unquote.f (k + 1) a0) := by
 intro a0 k
 unfold taplineref11_Unquote.f
 repeat' first
   | (with_reducible exact taplineref11_Kind.mono _ _)
   | (with_reducible exact taplineref11_quoted.mono _ _ _)
   | (with_reducible exact LeO.refl _)
   | (with_reducible exact LeO.none _)
   | (with_reducible refine LeO.ite ?_ ?_)
   | (with_reducible refine LeO.bind ?_ (fun _ => ?_))
   | exact LeO.none _
   | refine LeO.ite ?_ ?_
   | refine LeO.bind ?_ (fun _ => ?_)
set_option maxHeartbeats 8000000 in
set_option maxRecDepth 100000 in
theorem taplineref11_Unquote.calls (k : Nat) (a0 : ByteArray) (r1 : ByteArray) (r2 : Int) (w : World) (h : taplineref11_Unquote.f k a0 = some (r1, r2)) :
  Calls Tryz.prog 34 #[.string a0] w fun e w' => e = .returned (.agg #[.string r1, .int .i64 r2]) ∧ Below w.heap.size w w' := by
 have hu55 := Tryz.underlying55
 have HB := Aside0.mk (Below.refl w.heap.size w)
 have H : ((taplineref11_Kind.f k a0).bind fun t386 => (if t386 = 4 then ((taplineref11_quoted.f k a0 0).bind fun bt387 => (some (bt387.2, 0))) else (some ((⟨#[]⟩ : ByteArray), 114)))) = some (r1, r2) := h
 clear h
 replace H := Option.bind_eq_some_iff.mp H
 obtain ⟨t386, A20, H⟩ := H
 replace H : (if t386 = 4 then ((taplineref11_quoted.f k a0 0).bind fun bt387 => (some (bt387.2, 0))) else (some ((⟨#[]⟩ : ByteArray), 114))) = some (r1, r2) := H
 have A2 := Aside0.mk A20
 clear A20
 by_cases c3 : t386 = 4
 ·rw [if_pos c3] at H
  have c3b0 : (t386 == 4) = true := beq_iff_eq.mpr c3
  have c3b1 : (t386 != 4) = false := bne_eq_false_iff_eq.mpr c3
  clear c3
  replace H := Option.bind_eq_some_iff.mp H
  obtain ⟨⟨t387, t388⟩, A40, H⟩ := H
  replace H : (some (t388, 0)) = some (r1, r2) := H
  have A4 := Aside0.mk A40
  clear A40
  simp only [Option.some.injEq, Prod.mk.injEq] at H
  obtain ⟨rfl, rfl⟩ := H
  go_enter Tryz.func34, Tryz.ntmps34
  go_wp2_with (first | ((with_reducible refine gate_dst (N := 2) rfl ?_); refine box_event ?hg (N := 2) ?hd (cs := #[.string (⟨#[]⟩ : ByteArray), .int .i64 0]) (t := 55) ?hr ?_; (case hd => rfl); (case hg => rfl); (case hr => first | (go_simp; done) | (go_simp; rfl)); intro gb385 hg w5 hbox hb; have n0_ := Aside0.mk (below_step blw hb); have n1_ := Aside0.mk (hbox); have n2_ := Aside0.mk ((by rw [hg]; exact (below_size blw) : w.heap.size ≤ gb385)); have n3_ := Aside0.mk ((by rw [hg]; exact (below_size blw) : w.heap.size ≤ gb385)); clear HB; have HB := n0_; have BK385 := n1_; have GW385 := n2_; have GE385 := n3_; clear n0_ n1_ n2_ n3_; clear hb hbox hg) | ((with_reducible refine gate_callee (f := 38) rfl ?_); refine goesL_ (some 6) rfl rfl Tryz.func38 (by kernel_rfl) rfl #[.string a0] rfl fq ?_; (with_reducible refine (taplineref11_Kind.calls k a0 t386 _ A2.out).mono ?_); rintro e w6 ⟨rfl, hb⟩; refine ⟨_, rfl, ?_⟩; have n0_ := Aside0.mk (blk_below (g := gb385) (o := .cells #[.string (⟨#[]⟩ : ByteArray), .int .i64 0] 55 (0, 0)) bko hb); have n1_ := Aside0.mk (below_step blw hb); clear BK385; clear HB; have BK385 := n0_; have HB := n1_; clear n0_ n1_; (try clear hb); (try clear hb2); (try clear hk); (try clear hi)) | ((with_reducible refine gate_callee (f := 55) rfl ?_); refine goesL_ (some 11) rfl rfl Tryz.func55 (by kernel_rfl) rfl #[.string a0, .int .i64 0] rfl fq ?_; (with_reducible refine (taplineref11_quoted.calls k a0 0 t387 t388 _ A4.out).mono ?_); rintro e w7 ⟨rfl, hb⟩; refine ⟨_, rfl, ?_⟩; have n0_ := Aside0.mk (blk_below (g := gb385) (o := .cells #[.string (⟨#[]⟩ : ByteArray), .int .i64 0] 55 (0, 0)) bko hb); have n1_ := Aside0.mk (below_step blw hb); clear BK385; clear HB; have BK385 := n0_; have HB := n1_; clear n0_ n1_; (try clear hb); (try clear hb2); (try clear hk); (try clear hi); have hcz8_0 : w7.cell? ⟨gb385, 0, none⟩ = some (.string (⟨#[]⟩ : ByteArray)) := (blk_cell BK385.out 0).trans rfl; have hcz8_1 : w7.cell? ⟨gb385, 1, none⟩ = some (.int .i64 0) := (blk_cell BK385.out 1).trans rfl; have hfz8_0 := blk_frozen BK385.out 0; have hfz8_1 := blk_frozen BK385.out 1))
  refine bodyPost_ret (results_cell_row rfl _ _ gb385 55 #[.string t388, .int .i64 0] (0, 0) _ rfl (by (with_reducible repeat (first | refine blk_drewN ?_ _ | refine blk_drew ?_ | refine blk_alloc ?_ _)); refine blk_put (cs := #[.string t388, .int .i64 0]) ?_ 1 _ rfl; (with_reducible repeat (first | refine blk_drewN ?_ _ | refine blk_drew ?_ | refine blk_alloc ?_ _)); refine blk_put (cs := #[.string (⟨#[]⟩ : ByteArray), .int .i64 0]) ?_ 0 _ rfl; (with_reducible repeat (first | refine blk_drewN ?_ _ | refine blk_drew ?_ | refine blk_alloc ?_ _)); exact BK385.out) Tryz.underlying55 rfl (by kernel_rfl)) rfl ?_
  exact ⟨rew, blw⟩
 ·rw [if_neg c3] at H
  have c3b0 : (t386 == 4) = false := beq_eq_false_iff_ne.mpr c3
  have c3b1 : (t386 != 4) = true := bne_iff_ne.mpr c3
  simp only [Option.some.injEq, Prod.mk.injEq] at H
  obtain ⟨rfl, rfl⟩ := H
  go_enter Tryz.func34, Tryz.ntmps34
  go_wp2_with (first | ((with_reducible refine gate_dst (N := 2) rfl ?_); refine box_event ?hg (N := 2) ?hd (cs := #[.string (⟨#[]⟩ : ByteArray), .int .i64 0]) (t := 55) ?hr ?_; (case hd => rfl); (case hg => rfl); (case hr => first | (go_simp; done) | (go_simp; rfl)); intro gb385 hg w9 hbox hb; have n0_ := Aside0.mk (below_step blw hb); have n1_ := Aside0.mk (hbox); have n2_ := Aside0.mk ((by rw [hg]; exact (below_size blw) : w.heap.size ≤ gb385)); have n3_ := Aside0.mk ((by rw [hg]; exact (below_size blw) : w.heap.size ≤ gb385)); clear HB; have HB := n0_; have BK385 := n1_; have GW385 := n2_; have GE385 := n3_; clear n0_ n1_ n2_ n3_; clear hb hbox hg) | ((with_reducible refine gate_callee (f := 38) rfl ?_); refine goesL_ (some 6) rfl rfl Tryz.func38 (by kernel_rfl) rfl #[.string a0] rfl fq ?_; (with_reducible refine (taplineref11_Kind.calls k a0 t386 _ A2.out).mono ?_); rintro e w10 ⟨rfl, hb⟩; refine ⟨_, rfl, ?_⟩; have n0_ := Aside0.mk (blk_below (g := gb385) (o := .cells #[.string (⟨#[]⟩ : ByteArray), .int .i64 0] 55 (0, 0)) bko hb); have n1_ := Aside0.mk (below_step blw hb); clear BK385; clear HB; have BK385 := n0_; have HB := n1_; clear n0_ n1_; (try clear hb); (try clear hb2); (try clear hk); (try clear hi); have hcz11_0 : w10.cell? ⟨gb385, 0, none⟩ = some (.string (⟨#[]⟩ : ByteArray)) := (blk_cell BK385.out 0).trans rfl; have hcz11_1 : w10.cell? ⟨gb385, 1, none⟩ = some (.int .i64 0) := (blk_cell BK385.out 1).trans rfl; have hfz11_0 := blk_frozen BK385.out 0; have hfz11_1 := blk_frozen BK385.out 1))
  refine bodyPost_ret (results_cell_row rfl _ _ gb385 55 #[.string (⟨#[]⟩ : ByteArray), .int .i64 114] (0, 0) _ rfl (by (with_reducible repeat (first | refine blk_drewN ?_ _ | refine blk_drew ?_ | refine blk_alloc ?_ _)); refine blk_put (cs := #[.string (⟨#[]⟩ : ByteArray), .int .i64 0]) ?_ 1 _ rfl; (with_reducible repeat (first | refine blk_drewN ?_ _ | refine blk_drew ?_ | refine blk_alloc ?_ _)); refine blk_put (cs := #[.string (⟨#[]⟩ : ByteArray), .int .i64 0]) ?_ 0 _ rfl; (with_reducible repeat (first | refine blk_drewN ?_ _ | refine blk_drew ?_ | refine blk_alloc ?_ _)); exact BK385.out) Tryz.underlying55 rfl (by kernel_rfl)) rfl ?_
  exact ⟨rew, blw⟩
end Go.Proofs.YtadgddipkbdnbaaGreatDoor.Q
