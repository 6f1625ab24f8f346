/- For every text that is scanned without an error, its tokens stand in order, each at its offset, and all else is blanks and comments; the inputs read as they did; the package-level variables hold what the program's text lays in them: the tied card. -/
import Derived.Test.YtadgddipkbdnbaaGreatDoorLexP1
import Derived.Test.YtadgddipkbdnbaaGreatDoorLexP2
import Derived.Test.YtadgddipkbdnbaaGreatDoorLexP3
import Derived.Test.YtadgddipkbdnbaaGreatDoorLexP4
import Derived.Test.YtadgddipkbdnbaaGreatDoorLexP7
import Derived.Test.YtadgddipkbdnbaaGreatDoorLexP8
import Derived.Test.YtadgddipkbdnbaaGreatDoorLexP14
import Derived.Test.YtadgddipkbdnbaaGreatDoorLexP15
import Derived.Test.YtadgddipkbdnbaaGreatDoorLexCoversZ1
import Derived.Test.YtadgddipkbdnbaaGreatDoorLexCoversZ2
import Derived.Test.YtadgddipkbdnbaaGreatDoorLexCoversZ3
import Derived.Test.YtadgddipkbdnbaaGreatDoorLexCoversZ4
import Derived.Test.YtadgddipkbdnbaaGreatDoorTie
import Derived.Test.YtadgddipkbdnbaaGreatDoorCards
import Derived.WalkKit
import Derived.ProofKit
import Derived.OpenShut
import Derived.ShutString
import Derived.ChangeOld
import Derived.Below
import Derived.SizedLaws
import Derived.SevenTiedAt
set_option linter.unusedVariables false
set_option linter.unusedSimpArgs false
namespace Go.Proofs.YtadgddipkbdnbaaGreatDoor.Q
open Go.RowKit Go.Proofs.YtadgddipkbdnbaaGreatDoor YtadgddipkbdnbaaGreatDoorW.PrintWords YtadgddipkbdnbaaGreatDoorW.PrintLast
theorem cbt (s : ByteArray) (a : Nat) (h : a < s.size) : bt s (a : Int) = (s[a].toNat : Int) := by
 unfold bt
 rw [Int.toNat_natCast, dif_pos h]
theorem ceq {c d : UInt8} {n : Int} (h : (d.toNat : Int) = n) : ((c.toNat : Int) = n) ↔ c = d := by
 rw [← h]
 constructor
 ·intro h; exact UInt8.toNat_inj.1 (by omega)
 ·intro h; rw [h]
theorem csl (s : ByteArray) : s.data.toList.length = s.size := (Lib.size_eq s).symm
theorem csat (s : ByteArray) (a : Nat) (h : a < s.size) : s.data.toList.drop a = s[a] :: s.data.toList.drop (a + 1) := by
 rw [List.drop_eq_getElem_cons (by rw [csl]; exact h)]
 rfl
theorem cend (s : ByteArray) (a : Nat) (h : s.size ≤ a) : s.data.toList.drop a = [] := List.drop_eq_nil_of_le (by rw [csl]; exact h)
section
variable (s : ByteArray) (hs : s.size ≤ 140737488355328)
def IdleAt (s : ByteArray) (a : Nat) : Prop := ∀ m, Lx.idleF m (s.data.toList.drop a) = true → Ev (fun k => taplinelaw11_idle.l0 k s (a : Int)) true
theorem idle_l1 (hs : s.size ≤ 140737488355328) : ∀ n b, b ≤ s.size → s.size - b = n → (∀ b', b ≤ b' → b' ≤ s.size → IdleAt s b') → ∀ m, Lx.idleF m ((s.data.toList.drop b).dropWhile (· != 10)) = true → Ev (fun k => taplinelaw11_idle.l1 k s (b : Int)) true := by
 intro n
 induction n with
 | zero =>
  intro b hb hn H m hm
  have e : s.data.toList.drop b = [] := cend s b (by omega)
  refine Ev.step (f := fun k => taplinelaw11_idle.l0 k s (b : Int)) (fun k => ?_) (H b (Nat.le_refl _) hb m (by rw [e] at hm ⊢; exact hm))
  simp only [taplinelaw11_idle.l1]; rw [if_neg (by omega)]
 | succ n ih =>
  intro b hb hn H m hm
  have hlt : b < s.size := by omega
  by_cases h : s[b] = 10
  ·refine Ev.step (f := fun k => taplinelaw11_idle.l0 k s (b : Int)) (fun k => ?_) (H b (Nat.le_refl _) hb m ?_)
   ·simp only [taplinelaw11_idle.l1]; rw [if_pos (by omega), if_pos (by omega), cbt s b hlt, if_pos (by rw [h]; rfl)]
   ·rw [csat s b hlt, List.dropWhile_cons, if_neg (by rw [h]; decide)] at hm
    rw [csat s b hlt]; exact hm
  ·refine Ev.step (f := fun k => taplinelaw11_idle.l1 k s ((b + 1 : Nat) : Int)) (fun k => ?_) (ih (b + 1) (by omega) (by omega) (fun b' h1 h2 => H b' (by omega) h2) m ?_)
   ·simp only [taplinelaw11_idle.l1]
    rw [if_pos (by omega), if_pos (by omega), cbt s b hlt, if_neg (fun e => h ((ceq (n := 10) (d := 10) rfl).1 e)), wrapn (by omega) (by omega)]
    rfl
   ·rw [csat s b hlt, List.dropWhile_cons, if_pos (by simpa using h)] at hm
    exact hm
theorem idle_l2 (hs : s.size ≤ 140737488355328) : ∀ n b, b ≤ s.size → s.size - b = n → (∀ b', b ≤ b' → b' ≤ s.size → IdleAt s b') → ∀ u, Lx.closed (s.data.toList.drop b) = some u → ∀ m, Lx.idleF m u = true → Ev (fun k => taplinelaw11_idle.l2 k s (b : Int)) true := by
 intro n
 induction n with
 | zero =>
  intro b hb hn H u hu
  rw [cend s b (by omega)] at hu
  cases hu
 | succ n ih =>
  intro b hb hn H u hu m hm
  have hlt : b < s.size := by omega
  rw [csat s b hlt] at hu
  by_cases hlt2 : b + 1 < s.size
  ·have hu0 := hu
   rw [csat s (b + 1) hlt2, Lx.closed] at hu
   have w1 : wrap64 ((b : Int) + 1) = ((b + 1 : Nat) : Int) := by rw [wrapn (by omega) (by omega)]; rfl
   have w2 : wrap64 ((b : Int) + 2) = ((b + 2 : Nat) : Int) := by rw [wrapn (by omega) (by omega)]; rfl
   by_cases h : s[b] = 42 ∧ s[b + 1] = 47
   ·rw [if_pos h] at hu
    obtain ⟨h1, h2⟩ := h
    refine Ev.step (f := fun k => taplinelaw11_idle.l0 k s ((b + 2 : Nat) : Int)) (fun k => ?_) (H (b + 2) (by omega) (by omega) m ?_)
    ·simp only [taplinelaw11_idle.l2]
     rw [w1, w2, if_pos (by omega), if_pos (by omega), if_pos (by omega), cbt s b hlt, if_pos (by rw [h1]; rfl), if_pos (by omega), cbt s (b + 1) hlt2, if_pos (by rw [h2]; rfl), if_neg (by omega)]
    ·cases hu
     exact hm
   ·rw [if_neg h, ← csat s (b + 1) hlt2] at hu
    refine Ev.step (f := fun k => taplinelaw11_idle.l2 k s ((b + 1 : Nat) : Int)) (fun k => ?_) (ih (b + 1) (by omega) (by omega) (fun b' h1 h2 => H b' (by omega) h2) u hu m hm)
    simp only [taplinelaw11_idle.l2]
    rw [w1, if_pos (by omega), if_pos (by omega), if_pos (by omega), cbt s b hlt]
    by_cases h1 : s[b] = 42
    ·rw [if_pos (by rw [h1]; rfl), if_pos (by omega), cbt s (b + 1) hlt2, if_neg (fun e => h ⟨h1, (ceq (n := 47) (d := 47) rfl).1 e⟩)]
    ·rw [if_neg (fun e => h1 ((ceq (n := 42) (d := 42) rfl).1 e))]
  ·rw [cend s (b + 1) (by omega)] at hu
   cases hu
theorem beq_int {a b : Int} {p : Prop} [Decidable p] (h : a = b ↔ p) : (a == b) = decide p := by
 by_cases hp : p
 ·rw [decide_eq_true hp]; exact beq_iff_eq.2 (h.2 hp)
 ·rw [decide_eq_false hp]; exact beq_eq_false_iff_ne.2 (fun e => hp (h.1 e))
theorem idle_all (hs : s.size ≤ 140737488355328) : ∀ n a, a ≤ s.size → s.size - a = n → IdleAt s a := by
 intro n
 induction n using Nat.strongRecOn with
 | ind n IH =>
  intro a ha hn m hm
  have H : ∀ b, a < b → b ≤ s.size → IdleAt s b := fun b h1 h2 => IH (s.size - b) (by omega) b h2 rfl
  by_cases hlt : a < s.size
  ·have w1 : wrap64 ((a : Int) + 1) = ((a + 1 : Nat) : Int) := by rw [wrapn (by omega) (by omega)]; rfl
   have w2 : wrap64 ((a : Int) + 2) = ((a + 2 : Nat) : Int) := by rw [wrapn (by omega) (by omega)]; rfl
   cases m with
   | zero => cases hm
   | succ m =>
    rw [csat s a hlt, Lx.idleF] at hm
    have hh : (s.data.toList.drop (a + 1)).head? = if h : a + 1 < s.size then some s[a + 1] else none := by
     split
     ·rename_i h; rw [csat s (a + 1) h]; rfl
     ·rename_i h; rw [cend s (a + 1) (by omega)]; rfl
    have hc47 := ceq (c := s[a]) (n := 47) (d := 47) rfl
    have j1s : ∀ x : Bool, x = decide (s[a] = 47 ∧ (s.data.toList.drop (a + 1)).head? = some 47) → Ev (fun k => taplinelaw11_idle.j1 k s (a : Int) x) true → Ev (fun k => taplinelaw11_idle.l0 k s (a : Int)) true := by
     intro x hx hev
     refine Ev.step (f := fun k => taplinelaw11_idle.j1 k s (a : Int) x) (fun k => ?_) hev
     simp only [taplinelaw11_idle.l0]
     rw [if_pos (by omega), if_pos (by omega), w1, cbt s a hlt]
     by_cases h47 : s[a] = 47
     ·rw [if_pos (hc47.2 h47)]
      by_cases h2 : a + 1 < s.size
      ·rw [if_pos (by omega), if_pos (by omega), cbt s (a + 1) h2]
       congr 1
       rw [hx, hh, dif_pos h2]
       refine beq_int ((ceq (n := 47) (d := 47) rfl).trans ⟨fun h => ⟨h47, by rw [h]⟩, fun h => Option.some.inj h.2⟩)
      ·rw [if_neg (by omega)]
       congr 1
       rw [hx, hh, dif_neg h2, decide_eq_false (fun h => nomatch h.2)]
     ·rw [if_neg (fun e => h47 (hc47.1 e))]
      congr 1
      rw [hx, decide_eq_false (fun h => h47 h.1)]
    have j3s : ∀ x : Bool, x = decide (s[a] = 47 ∧ (s.data.toList.drop (a + 1)).head? = some 42) → Ev (fun k => taplinelaw11_idle.j3 k s (a : Int) x) true → Ev (fun k => taplinelaw11_idle.j1 k s (a : Int) false) true := by
     intro x hx hev
     refine Ev.step (f := fun k => taplinelaw11_idle.j3 k s (a : Int) x) (fun k => ?_) hev
     simp only [taplinelaw11_idle.j1]
     rw [if_neg (by decide), if_pos (by omega), if_pos (by omega), w1, cbt s a hlt]
     by_cases h47 : s[a] = 47
     ·rw [if_pos (hc47.2 h47)]
      by_cases h2 : a + 1 < s.size
      ·rw [if_pos (by omega), if_pos (by omega), cbt s (a + 1) h2]
       congr 1
       rw [hx, hh, dif_pos h2]
       refine beq_int ((ceq (n := 42) (d := 42) rfl).trans ⟨fun h => ⟨h47, by rw [h]⟩, fun h => Option.some.inj h.2⟩)
      ·rw [if_neg (by omega)]
       congr 1
       rw [hx, hh, dif_neg h2, decide_eq_false (fun h => nomatch h.2)]
     ·rw [if_neg (fun e => h47 (hc47.1 e))]
      congr 1
      rw [hx, decide_eq_false (fun h => h47 h.1)]
    by_cases hA : s[a] = 47 ∧ (s.data.toList.drop (a + 1)).head? = some 47
    ·rw [if_pos hA] at hm
     refine j1s true (decide_eq_true hA).symm ?_
     refine Ev.step (f := fun k => taplinelaw11_idle.l1 k s (a : Int)) (fun k => by simp only [taplinelaw11_idle.j1, if_true]) ?_
     refine Ev.step (f := fun k => taplinelaw11_idle.l1 k s ((a + 1 : Nat) : Int)) (fun k => ?_) (idle_l1 s hs _ (a + 1) (by omega) rfl (fun b' h1 h2 => H b' (by omega) h2) m hm)
     simp only [taplinelaw11_idle.l1]
     rw [if_pos (by omega), if_pos (by omega), cbt s a hlt, if_neg (by rw [hA.1]; decide), w1]
    ·rw [if_neg hA] at hm
     refine j1s false (decide_eq_false hA).symm ?_
     by_cases hB : s[a] = 47 ∧ (s.data.toList.drop (a + 1)).head? = some 42
     ·rw [if_pos hB] at hm
      refine j3s true (decide_eq_true hB).symm ?_
      have h2 : a + 1 < s.size := by
       by_cases h2 : a + 1 < s.size
       ·exact h2
       ·rw [hh, dif_neg h2] at hB; cases hB.2
      refine Ev.step (f := fun k => taplinelaw11_idle.l2 k s ((a + 2 : Nat) : Int)) (fun k => by simp only [taplinelaw11_idle.j3, if_true]; rw [w2]) ?_
      rw [csat s (a + 1) h2, List.tail_cons] at hm
      cases hcl : Lx.closed (s.data.toList.drop (a + 1 + 1)) with
      | none => rw [hcl] at hm; cases hm
      | some u =>
       rw [hcl] at hm
       exact idle_l2 s hs _ (a + 2) (by omega) rfl (fun b' h1 h2 => H b' (by omega) h2) u hcl m hm
     ·rw [if_neg hB] at hm
      refine j3s false (decide_eq_false hB).symm ?_
      cases hb : Lx.isBlank s[a] with
      | false => rw [hb, if_neg (by decide)] at hm; cases hm
      | true =>
       rw [hb, if_pos rfl] at hm
       refine Ev.step (f := fun k => taplinelaw11_idle.l0 k s ((a + 1 : Nat) : Int)) (fun k => ?_) (H (a + 1) (by omega) (by omega) m hm)
       simp only [taplinelaw11_idle.j3]
       rw [if_neg (by decide), if_pos (by omega), if_pos (by omega), cbt s a hlt, w1]
       rcases Lx.blank_cases hb with h | h | h | h
       ·rw [if_pos (by rw [h]; rfl)]
       ·rw [if_neg (by rw [h]; decide), if_pos (by rw [h]; rfl)]
       ·rw [if_neg (by rw [h]; decide), if_neg (by rw [h]; decide), if_pos (by rw [h]; rfl)]
       ·rw [if_neg (by rw [h]; decide), if_neg (by rw [h]; decide), if_neg (by rw [h]; decide), if_pos (by rw [h]; rfl)]
  ·exact ⟨1, fun k hk => by
    obtain ⟨k, rfl⟩ : ∃ m, k = m + 1 := ⟨k - 1, by omega⟩
    simp only [taplinelaw11_idle.l0]; rw [if_neg (by omega)]⟩
end
theorem idle_ev {g : ByteArray} (hg : g.size ≤ 140737488355328) {m : Nat} (h : Lx.idleF m g.data.toList = true) : Ev (fun k => taplinelaw11_idle.f k g) true := by
 have := idle_all g hg g.size 0 (by omega) (by omega) m (by rw [List.drop_zero]; exact h)
 exact this
theorem ext_list (s : ByteArray) (a b : Nat) : (s.extract a b).data.toList = (s.data.toList.drop a).take (b - a) := by
 simp only [ByteArray.data_extract, Array.toList_extract, List.extract_eq_take_drop]
theorem skips_seg {t : List UInt8} {i a : Nat} (hi : i ≤ a) (ha : a ≤ t.length) (h : Lx.Skips (t.drop i) (t.drop a)) : ∃ m, Lx.idleF m ((t.drop i).take (a - i)) = true := by
 refine ⟨_, Lx.idle_of h (g := (t.drop i).take (a - i)) ?_ _ (Nat.lt_succ_self _)⟩
 have : (t.drop i).drop (a - i) = t.drop a := by rw [List.drop_drop]; congr 1; omega
 rw [← this, List.take_append_drop]
theorem covers_ev {s : ByteArray} (hs : s.size ≤ 20000) (L : List Lx.Tok) (hL : L.length ≤ 4000) {p : List Lx.K} {i : Nat} {ts : List Lx.Tok} {j : Nat} (h : Lx.LexAt s.data.toList p i ts j) :
  ∀ n, n + ts.length = L.length → L.drop n = ts → i ≤ s.size → Lx.Skips (s.data.toList.drop j) [] → j ≤ s.size → Ev (fun k => taplinelaw11_LexCovers.l0 k s true (L.map tokS) (i : Int) (n : Int)) true := by
 induction h with
 | nil p i =>
  intro n hn hd hi hj hjl
  simp only [List.length_nil, Nat.add_zero] at hn
  obtain ⟨m, hm⟩ := skips_seg (t := s.data.toList) (i := i) (a := s.size) hjl (by rw [csl]; exact Nat.le_refl _) (by rw [cend s s.size (Nat.le_refl _)]; exact hj)
  have hev : Ev (fun k => taplinelaw11_idle.f k (s.extract i s.size)) true := idle_ev (by rw [ByteArray.size_extract]; omega) (m := m) (by rw [ext_list]; exact hm)
  refine Ev.step (f := fun k => (taplinelaw11_idle.f k (s.extract i s.size)).bind fun t359 => (some t359)) (fun k => ?_) (hev.bind (f := fun _ t => some t) (Ev.now true))
  simp only [taplinelaw11_LexCovers.l0]
  rw [if_neg (by rw [List.length_map]; omega), if_pos trivial, if_pos (by omega), if_pos (by omega), Int.toNat_natCast]
 | cons p i a k kind ts j hi ha hsk ho hr ih =>
  intro n hn hd hil hj hjl
  have hk := Lx.one_len _ _ _ _ ho
  rw [List.length_drop, csl] at hk
  rw [csl] at ha
  simp only [List.length_cons] at hn
  have hlt : n < L.length := by omega
  have hget : rd_T38 (L.map tokS) (n : Int) = tokS ⟨kind, (s.data.toList.drop a).take k, a⟩ := by
   unfold rd_T38
   have : L[n]? = some (⟨kind, (s.data.toList.drop a).take k, a⟩ : Lx.Tok) := by
    have := congrArg List.head? hd
    rw [List.head?_drop] at this
    exact this
   rw [Int.toNat_natCast, List.getD_eq_getElem?_getD, List.getElem?_map, this]
   rfl
  have hd2 : L.drop (n + 1) = ts := by
   have := congrArg (List.drop 1) hd
   rw [List.drop_drop] at this
   simpa using this
  have f2 : Unit → (tokS ⟨kind, (s.data.toList.drop a).take k, a⟩).f2 = (a : Int) := fun _ => rfl
  have f1 : Unit → (tokS ⟨kind, (s.data.toList.drop a).take k, a⟩).f1 = strS ((s.data.toList.drop a).take k) := fun _ => rfl
  have hz : Unit → (strS ((s.data.toList.drop a).take k)).size = k := fun _ => by
   show ((s.data.toList.drop a).take k).length = k
   rw [List.length_take, List.length_drop, csl]; omega
  have wk : Unit → wrap64 ((a : Int) + (k : Int)) = ((a + k : Nat) : Int) := fun _ => by rw [wrapn (by omega) (by omega)]; rfl
  obtain ⟨m, hm⟩ := skips_seg (t := s.data.toList) hi (by rw [csl]; omega) hsk
  have hev : Ev (fun k => taplinelaw11_idle.f k (s.extract i a)) true := idle_ev (by rw [ByteArray.size_extract]; omega) (m := m) (by rw [ext_list]; exact hm)
  have hnext := ih (n + 1) (by omega) hd2 (by omega) hj hjl
  refine Ev.step (f := fun K => (taplinelaw11_idle.f K (s.extract i a)).bind fun t358 => (if t358 = true then (taplinelaw11_LexCovers.l0 K s true (L.map tokS) ((a + k : Nat) : Int) ((n + 1 : Nat) : Int)) else (some false))) (fun K => ?_) (hev.bind (f := fun K t358 => (if t358 = true then (taplinelaw11_LexCovers.l0 K s true (L.map tokS) ((a + k : Nat) : Int) ((n + 1 : Nat) : Int)) else (some false))) (by simpa using hnext))
  simp only [taplinelaw11_LexCovers.l0]
  have wn : Unit → wrap64 ((n : Int) + 1) = ((n + 1 : Nat) : Int) := fun _ => by rw [wrapn (by omega) (by omega)]; rfl
  rw [if_pos (by rw [List.length_map]; omega), if_pos (by omega), hget, f2 (), f1 (), hz (), wk (), wn (), if_neg (by omega), if_neg (by omega), if_neg (by omega), if_pos (by omega), if_pos (by omega), if_pos (by omega), if_pos (by
   rw [ByteArray.toList_eq, ByteArray.toList_eq, Int.toNat_natCast, Int.toNat_natCast, ext_list]
   show _ = (s.data.toList.drop a).take k
   rw [show a + k - a = k by omega]), if_pos (by omega), if_pos (by omega), if_pos (by omega), Int.toNat_natCast, Int.toNat_natCast]
theorem LexCovers_pure : taplinelaw11_LexCovers.Pure := by
 intro s hs
 refine Ev.rounds ?_
 have e : ∀ k, taplinelaw11_LexCovers.f k s = if (Lx.scan s.data.toList).2.2 = 0 then taplinelaw11_LexCovers.l0 k s true ((Lx.scan s.data.toList).1.map tokS) 0 0 else some true := by
  intro k
  simp only [taplinelaw11_LexCovers.f, sane_t.f, lex_Scan.f, Option.bind_some]
 refine Ev.congr e ?_
 by_cases es : (Lx.scan s.data.toList).2.2 = 0
 ·simp only [if_pos es]
  obtain ⟨h1, h2, -, -⟩ := Lx.scan_to es
  obtain ⟨j, h3, h4, h5⟩ := Lx.scan_ats es
  rw [csl] at h1 h5
  exact covers_ev h1 _ h2 h3 0 (by simp) (by simp) (by omega) h4 h5
 ·simp only [if_neg es]
  exact Ev.now true
end Go.Proofs.YtadgddipkbdnbaaGreatDoor.Q
set_option linter.unusedVariables false
set_option linter.unusedSimpArgs false
namespace Go.Proofs.YtadgddipkbdnbaaGreatDoor.lexCovers
open Go.ChangeShapes Go.WideShapes Go.ChangeAt Go.RowKit
open Go.ChangeMaps (open_string shut_string)
set_option maxRecDepth 100000 in
theorem lifted (os : Os) (started : os.Started) (H : Type) (enc : TypeId × Value → H) :
  ReturnsInHanded {} Tryz.checked os 10 .any (fun w args => (Rows.lexCoversSpec.pre enc Tryz.prog Tryz.f10 [] false w args ∧ laidMetH Tryz.prog lexLaid w) ∧ sizedMet enc Tryz.prog Tryz.f10 (OpenSpec.ofChange Rows.lexCoversSpec) false w args)
   (Rows.lexCoversSpec.post enc Tryz.prog Tryz.f10 false true false false) := by
 refine handed_and_shaped (C := Tryz.checked) (X := fun w _ => laidMetH Tryz.prog lexLaid w) (fun _ _ _ hh h => h.of_heap hh) own started (by kernel_rfl) Tryz.func10
  (ChangeSpec.witness_shaped (enc := enc) (C := Tryz.checked) (os := os) (X := fun w _ => laidMetH Tryz.prog lexLaid w) false (World.doorLaid Tryz.prog 400 os) #[.string ByteArray.empty] 8 rfl (World.shaped_of_RefB (by kernel_rfl) (by kernel_rfl)) (by kernel_rfl) (by kernel_rfl) (by kernel_rfl) (door_met os _)) ?_
 intro W base args ds gs before hval0 hW hcnd hsz0 hL hsh _
 have hgw := of_laid hL hsh
 clear hL hsh
 have hsz : (DataW.weightsEach Tryz.prog (Tryz.f10.params.toList ++ Rows.lexCoversSpec.plain.varTypes Tryz.prog) (ds ++ gs)).all (· ≤ reachBytes) = true := hsz0
 have hval : ∀ (j : Nat) t v, Tryz.f10.params[j]? = some t → args[j]? = some v → Value.okWide Tryz.prog W .any base t v := hval0
 have hW' := hW
 obtain ⟨p, q, hA0, hV, rfl, hfz, hnd⟩ := hW
 have hA : DataW.TrodAll enc Tryz.prog W 0 (fun _ => true) true Tryz.f10.params.toList args.toList ds p := hA0
 rw [Tryz.params10] at hA hval hsz
 obtain ⟨v0, vs0, d0, ds0, p0, q0, hargs, rfl, rfl, h0, r0⟩ := trodAll_cons hA
 obtain ⟨rfl, rfl, rfl⟩ := trodAll_nil r0
 obtain rfl : args = #[v0] := by cases args; simp_all
 obtain ⟨rfl, rfl⟩ := trodVars_none hV
 obtain ⟨a0, rfl, rfl, rfl, y0⟩ := open_string Tryz.underlying9 (hval 0 9 v0 rfl rfl) h0
 have w0 : a0.size ≤ 140737488351232 := by
  have z := sized_string hsz (j := 0) (t := 9) rfl rfl
  rw [Array.length_toList] at z
  exact z
 clear hA0 hval0 hsz0 hsz
 refine (Q.taplinelaw11_LexCovers.walk Q.LexCovers_pure a0 W w0 hgw).mono fun e W' ⟨he, bel⟩ => ?_
 subst he
 exact ⟨_, rfl, _, _, _, [], _, [], hW', trodAll_mk1 (shut_bool Tryz.underlying4 _), (trodAll_cons_mk (shut_string Tryz.underlying9 y0) trodAll_mk0), rfl, bel.frame _, fun h => by cases h⟩
theorem over : Rows.LexCoversSaid :=
 OpenClaim.holds_of_wide 10 Tryz.f10 rfl rfl rfl rfl rfl rfl rfl ⟨rfl, rfl, rfl, rfl, rfl⟩ rfl rfl rfl rfl rfl (by kernel_rfl) Tryz.func10 (by kernel_rfl)
  (of_decide_eq_true (by kernel_rfl)) (by unfold Func.isWrapper; first | (rw [if_pos (by decide +kernel)]; kernel_rfl) | (rw [if_neg (by decide +kernel)]; exact ⟨rfl, rfl⟩))
  (fun os started H enc _ => lifted os started H enc)
end Go.Proofs.YtadgddipkbdnbaaGreatDoor.lexCovers
namespace Go.Proofs.YtadgddipkbdnbaaGreatDoor
theorem lexCovers_card : Rows.LexCoversCardSaid :=
 Claim7.holds_tied_plain_at .later [] [.data, .data, .data, .sentinel, .sentinel, .listed, .data, .data] true (true, "85ed3a9bdcdf405d5b0a35b2759147de3913577c107b7173cad54d4ee995d561") true
  lexCovers.over (fun _ h => by cases h) (by kernel_rfl) (fun _ h => by cases h) lexCovers_row_tie rfl ⟨rfl, rfl⟩ (by kernel_rfl) rfl
  (fun f fn hf hfn => by
   obtain rfl : f = 10 := Option.some.inj ((show Tryz.prog.funcNamed "tapline/taplinelaw11.LexCovers" = some 10 by kernel_rfl).symm.trans hf) |>.symm
   obtain rfl : fn = Tryz.f10 := (Option.some.inj (Tryz.func10.symm.trans hfn)).symm
   exact ⟨by kernel_rfl, fun j t ht => by
    rw [Tryz.params10] at ht
    have hm : t ∈ [9] := by simpa using Array.mem_of_getElem? ht
    have hall : ([9].all fun u => !Tryz.prog.wantsStandIn u) = true := by kernel_rfl
    exact (show Tryz.prog.wantsStandIn t = false by simpa using List.all_eq_true.1 hall t hm)⟩)
  (by kernel_rfl)
#print axioms lexCovers_card
end Go.Proofs.YtadgddipkbdnbaaGreatDoor
