/- Parts of the proof: see the last text -/
import Derived.Test.YtadgddipkbdnbaaGreatDoorLexP1
import Derived.Test.YtadgddipkbdnbaaGreatDoorLexP2
import Derived.Test.YtadgddipkbdnbaaGreatDoorLexP3
import Derived.Test.YtadgddipkbdnbaaGreatDoorLexP4
import Derived.Test.YtadgddipkbdnbaaGreatDoorLexP5
import Derived.Test.YtadgddipkbdnbaaGreatDoorLexP6
import Derived.Test.YtadgddipkbdnbaaGreatDoorLexP7
import Derived.RangeFuncRecord
set_option linter.unusedVariables false
set_option linter.unusedSimpArgs false
namespace Go.Proofs.YtadgddipkbdnbaaGreatDoor
open Go.RowKit
set_option maxHeartbeats 1000000 in
theorem begins_desc (B b a : Nat) (s : ByteArray) (pre : List Lx.Tok) (w : World) (h : Sw w B b a s pre) (ha : a < s.size) :
  Calls Tryz.prog 117 #[.pointer (some ⟨b, 0, none⟩)] w fun x w' => x = .returned (.bool (Lx.opens pre && Lx.isDescB s[a])) ∧ Below w.heap.size w w' := by
 have h0 := h.scn.text
 have h1 := h.scn.at_
 have hg := h.gw
 have hlt : b < w.heap.size := h.scn.lt
 obtain ⟨v, hv, hl⟩ := h.last
 cases ho : Lx.opens pre with
 | true =>
  have HO := Lib.hid ho
  go_enter Tryz.func117, Tryz.ntmps117
  go_wp2
  go_region_held3 (fun w' => w'.cell? ⟨b, 0, none⟩ = some (.string s) ∧ w'.cell? ⟨b, 1, none⟩ = some (.int .i64 (a : Int)) ∧ GW w' ∧ Below w.heap.size w w') (first | exact ⟨h0, h1, hg.drew, (Below.refl _ _).drew⟩ | exact ⟨k0, k1, kg, kb⟩ | exact ⟨(hb1.cell (World.block_lt_of_cell? _ _ k0)).trans k0, (hb1.cell (World.block_lt_of_cell? _ _ k1)).trans k1, kg.below hb1 (Nat.le_refl _), kb.trans (hb1.mono kb.size)⟩)
  (first | (go_at_call 118; obtain ⟨k0, k1, kg, kb⟩ := (by assumption : _ ∧ _ ∧ GW _ ∧ Below _ _ _); refine (describing_any b B v pre _ ((kb.cell (p := ⟨b, 2, none⟩) hlt).trans hv) (hl.below kb (Nat.le_refl _))).mono ?_; rw [HO.out]; rintro e w1 ⟨rfl, rfl⟩) | (go_at_call 82; obtain ⟨k0, k1, kg, kb⟩ := (by assumption : _ ∧ _ ∧ GW _ ∧ Below _ _ _); refine (is_any _ 16 _ kg).mono ?_; rintro e w1 ⟨rfl, hb1⟩))
  obtain ⟨k0, k1, kg, kb⟩ := (by assumption : _ ∧ _ ∧ GW _ ∧ Below _ _ _)
  go_wp2
  go_ret
  exact ⟨ret_bool (by rw [← pB_desc]; rfl), kb⟩
 | false =>
  have HQ : ∀ n, Calls Tryz.prog 118 #[.pointer (some ⟨b, 0, none⟩)] (w.drewN n) fun e w'' => e = .returned (.bool false) ∧ ∃ m, w'' = w.drewN m := fun n =>
   Calls.quiet_of_same ((describing_any b B v pre (w.drewN n) hv (hl.below (below_drewN (Below.refl _ _) n) (Nat.le_refl _))).mono fun e w' hh => ⟨hh.1.trans (ret_bool ho), hh.2.symm⟩)
  go_enter Tryz.func117, Tryz.ntmps117
  go_wp2
  go_quiet ((go_at_call 118; exact HQ _))
  go_wp2
  go_ret
  exact ⟨rfl, below_drewN (Below.refl _ _) _⟩
def recF (H : Nat) : Nat → Value
 | 0 => .func (.func 117) #[] #[]
 | 1 => .func (.func 114) #[] #[.pointer (some ⟨H, 0, none⟩)]
 | 2 => .func (.func 114) #[] #[.pointer (some ⟨H + 1, 0, none⟩)]
 | 3 => .func (.func 116) #[] #[.pointer (some ⟨H + 1 + 1, 0, none⟩)]
 | 4 => .func (.func 116) #[] #[.pointer (some ⟨H + 1 + 1 + 1, 0, none⟩)]
 | _ => .func (.func 124) #[] #[]
def recFn : Nat → Nat
 | 0 => 117
 | 1 => 114
 | 2 => 114
 | 3 => 116
 | 4 => 116
 | _ => 124
def recA (H b : Nat) : Nat → Array Value
 | 0 => #[.pointer (some ⟨b, 0, none⟩)]
 | 1 => #[.pointer (some ⟨b, 0, none⟩), .pointer (some ⟨H, 0, none⟩)]
 | 2 => #[.pointer (some ⟨b, 0, none⟩), .pointer (some ⟨H + 1, 0, none⟩)]
 | 3 => #[.pointer (some ⟨b, 0, none⟩), .pointer (some ⟨H + 1 + 1, 0, none⟩)]
 | 4 => #[.pointer (some ⟨b, 0, none⟩), .pointer (some ⟨H + 1 + 1 + 1, 0, none⟩)]
 | _ => #[.pointer (some ⟨b, 0, none⟩)]
theorem begins_k (B b a H : Nat) (s : ByteArray) (pre : List Lx.Tok) (w : World) (h : Sw w B b a s pre) (hr : Recs w H) (ha : a < s.size) (hs : s.size ≤ 140737488355328) (k : Nat) (hk : k < 6) :
  Calls Tryz.prog (recFn k) (recA H b k) w fun x w' => x = .returned (.bool (begC pre s[a] (tail s a) k)) ∧ Below w.heap.size w w' := by
 obtain ⟨sv, hs1, hs2⟩ := h.signs
 match k, hk with
 | 0, _ => exact begins_desc B b a s pre w h ha
 | 1, _ => exact (begins_class b a H 2 s w h.gw h.scn hr.c0 ha).mono fun e w' hh => ⟨by rw [hh.1, pB_letter]; rfl, hh.2⟩
 | 2, _ => exact (begins_class b a (H + 1) 4 s w h.gw h.scn hr.c1 ha).mono fun e w' hh => ⟨by rw [hh.1, pB_digit]; rfl, hh.2⟩
 | 3, _ => exact begins_one b a (H + 1 + 1) 39 s w h.scn hr.c2 ha
 | 4, _ => exact begins_one b a (H + 1 + 1 + 1) 34 s w h.scn hr.c3 ha
 | 5, _ => exact begins_sign b a s w h.scn (Nat.le_of_lt ha) (by omega) sv hs1 hs2
set_option maxHeartbeats 1000000 in
theorem asked (B b a H p : Nat) (s : ByteArray) (pre : List Lx.Tok) (w : World) (h : Sw w B b a s pre) (hr : Recs w H) (hp : w.cell? ⟨p, 0, none⟩ = some (.pointer (some ⟨b, 0, none⟩))) (ha : a < s.size) (hs : s.size ≤ 140737488355328) (k : Nat) (hk : k < 6) (u : Value) :
  Calls Tryz.prog 101 #[.agg #[recF H k, u], .pointer (some ⟨p, 0, none⟩)] w fun x w' => x = .returned (.bool (begC pre s[a] (tail s a) k)) ∧ Below w.heap.size w w' := by
 have hplt := World.block_lt_of_cell? w _ hp
 have hb1 := begins_k B b a H s pre (w.alloc (.cells #[recF H k, u] 130)) (h.below ((Below.refl _ _).alloc (Nat.le_refl _) _) (Nat.le_refl _)) (hr.below ((Below.refl _ _).alloc (Nat.le_refl _) _) (Nat.le_refl _)) ha hs k hk
 obtain ⟨ans, hans⟩ : ∃ ans, ans = begC pre s[a] (tail s a) k := ⟨_, rfl⟩
 rw [← hans] at hb1 ⊢
 have HA := Lib.hid hans
 clear hans
 match k, hk with
 | 0, _ =>
  dsimp only [recF, recFn, recA] at hb1 ⊢
  go_enter Tryz.func101, Tryz.ntmps101
  go_wp2_with (go_at_call 117; refine hb1.mono ?_; rintro e w1 ⟨rfl, hb2⟩)
  go_ret
  exact ⟨rfl, ((Below.refl _ _).alloc (Nat.le_refl _) _).trans (hb2.mono (by simp))⟩
 | 1, _ =>
  dsimp only [recF, recFn, recA] at hb1 ⊢
  go_enter Tryz.func101, Tryz.ntmps101
  go_wp2_with (go_at_call 114; refine hb1.mono ?_; rintro e w1 ⟨rfl, hb2⟩)
  go_ret
  exact ⟨rfl, ((Below.refl _ _).alloc (Nat.le_refl _) _).trans (hb2.mono (by simp))⟩
 | 2, _ =>
  dsimp only [recF, recFn, recA] at hb1 ⊢
  go_enter Tryz.func101, Tryz.ntmps101
  go_wp2_with (go_at_call 114; refine hb1.mono ?_; rintro e w1 ⟨rfl, hb2⟩)
  go_ret
  exact ⟨rfl, ((Below.refl _ _).alloc (Nat.le_refl _) _).trans (hb2.mono (by simp))⟩
 | 3, _ =>
  dsimp only [recF, recFn, recA] at hb1 ⊢
  go_enter Tryz.func101, Tryz.ntmps101
  go_wp2_with (go_at_call 116; refine hb1.mono ?_; rintro e w1 ⟨rfl, hb2⟩)
  go_ret
  exact ⟨rfl, ((Below.refl _ _).alloc (Nat.le_refl _) _).trans (hb2.mono (by simp))⟩
 | 4, _ =>
  dsimp only [recF, recFn, recA] at hb1 ⊢
  go_enter Tryz.func101, Tryz.ntmps101
  go_wp2_with (go_at_call 116; refine hb1.mono ?_; rintro e w1 ⟨rfl, hb2⟩)
  go_ret
  exact ⟨rfl, ((Below.refl _ _).alloc (Nat.le_refl _) _).trans (hb2.mono (by simp))⟩
 | 5, _ =>
  dsimp only [recF, recFn, recA] at hb1 ⊢
  go_enter Tryz.func101, Tryz.ntmps101
  go_wp2_with (go_at_call 124; refine hb1.mono ?_; rintro e w1 ⟨rfl, hb2⟩)
  go_ret
  exact ⟨rfl, ((Below.refl _ _).alloc (Nat.le_refl _) _).trans (hb2.mono (by simp))⟩
end Go.Proofs.YtadgddipkbdnbaaGreatDoor
set_option linter.unusedVariables false
set_option linter.unusedSimpArgs false
namespace Go.Proofs.YtadgddipkbdnbaaGreatDoor
open Go.RowKit
def WhichPost (pre : List Lx.Tok) (s : ByteArray) (a : Nat) (c : UInt8) (x : Ending) : Prop :=
 (x = .returned (.int .i64 (-1)) ∧ ∀ j, j < 6 → begC pre c (tail s a) j = false) ∨
 ∃ k : Nat, k < 6 ∧ x = .returned (.int .i64 (k : Int)) ∧ begC pre c (tail s a) k = true ∧ ∀ j, j < k → begC pre c (tail s a) j = false
def recE : Nat → Value
 | 0 => .func (.func 119) #[] #[]
 | 1 => .func (.func 120) #[] #[]
 | 2 => .func (.func 121) #[] #[]
 | 3 => .func (.func 122) #[] #[]
 | 4 => .func (.func 123) #[] #[]
 | _ => .func (.func 126) #[] #[]
theorem Recs.begin_at {w : World} {H : Nat} (h : Recs w H) (k : Nat) (hk : k < 6) : w.cell? ⟨H + 1 + 1 + 1 + 1, k * 2, none⟩ = some (recF H k) := by
 rw [cell_of_row w _ (k * 2) (recC H) _ _ h.row]
 match k, hk with
 | 0, _ => rfl
 | 1, _ => rfl
 | 2, _ => rfl
 | 3, _ => rfl
 | 4, _ => rfl
 | 5, _ => rfl
theorem Recs.end_at {w : World} {H : Nat} (h : Recs w H) (k : Nat) (hk : k < 6) : w.cell? ⟨H + 1 + 1 + 1 + 1, k * 2 + 1, none⟩ = some (recE k) := by
 rw [cell_of_row w _ (k * 2 + 1) (recC H) _ _ h.row]
 match k, hk with
 | 0, _ => rfl
 | 1, _ => rfl
 | 2, _ => rfl
 | 3, _ => rfl
 | 4, _ => rfl
 | 5, _ => rfl
set_option maxHeartbeats 2000000 in
theorem which_any (B b a H p : Nat) (s : ByteArray) (pre : List Lx.Tok) (w : World) (h : Sw w B b a s pre) (hr : Recs w H) (hp : w.cell? ⟨p, 0, none⟩ = some (.pointer (some ⟨b, 0, none⟩))) (ha : a < s.size) (hs : s.size ≤ 140737488355328) :
  Calls Tryz.prog 100 #[.slice (some ⟨H + 1 + 1 + 1 + 1, 0, none⟩) 6 6, .func (.func 101) #[] #[.pointer (some ⟨p, 0, none⟩)]] w fun x w' => WhichPost pre s a s[a] x ∧ Below w.heap.size w w' := by
 have hplt := World.block_lt_of_cell? w _ hp
 obtain ⟨c, hc⟩ : ∃ c, c = s[a] := ⟨_, rfl⟩
 rw [← hc]
 have HC := Lib.hid hc
 clear hc
 go_enter Tryz.func100, Tryz.ntmps100
 go_wp2
 go_loopw [8] (fun i wr => ∃ k : Nat, k ≤ 6 ∧ i = .int .i64 k ∧ Hid (∀ j, j < k → begC pre c (tail s a) j = false) ∧ Below w.heap.size w wr) (fun i _ => 6 - (intOf i).toNat)
 case atStart => exact ⟨0, by omega, rfl, Lib.hid (fun j hj => by omega), Below.refl _ _⟩
 case round =>
  obtain ⟨k, hk, rfl, HN, hb⟩ := hrel
  by_cases hlk : k < 6
  ·have f0 := (hr.below hb (Nat.le_refl _)).begin_at k hlk
   have f1 := (hr.below hb (Nat.le_refl _)).end_at k hlk
   have hask := fun u => asked B b a H p s pre wr (h.below hb (Nat.le_refl _)) (hr.below hb (Nat.le_refl _)) ((hb.cell (p := ⟨p, 0, none⟩) hplt).trans hp) ha hs k hlk u
   rw [← HC.out] at hask
   generalize recF H k = uf at f0 hask
   cases hbk : begC pre c (tail s a) k with
   | true =>
    rw [hbk] at hask
    have HB := Lib.hid hbk
    clear hbk
    go_wp2_with (go_at_call 101; refine (hask _).mono ?_; rintro e w1 ⟨rfl, hb1⟩)
    go_ret
    exact ⟨.inr ⟨k, hlk, rfl, HB.out, HN.out⟩, hb.trans (hb1.mono hb.size)⟩
   | false =>
    rw [hbk] at hask
    have HB := Lib.hid hbk
    clear hbk
    go_wp2_with (go_at_call 101; refine (hask _).mono ?_; rintro e w1 ⟨rfl, hb1⟩)
    go_roundw
    case rel => exact ⟨k + 1, by omega, by go_num, Lib.hid (fun j hj => by
     rcases Nat.lt_or_ge j k with h1 | h1
     ·exact HN.out j h1
     ·obtain rfl : j = k := by omega
      exact HB.out), hb.trans (hb1.mono hb.size)⟩
    case measure => simp [intOf]; omega
  ·obtain rfl : k = 6 := by omega
   go_wp2
   go_ret
   exact ⟨.inl ⟨rfl, HN.out⟩, hb⟩
end Go.Proofs.YtadgddipkbdnbaaGreatDoor
set_option linter.unusedVariables false
set_option linter.unusedSimpArgs false
namespace Go.Proofs.Lx
open Go.Proofs.YtadgddipkbdnbaaGreatDoor
theorem strF_len : ∀ (n : Nat) (t : List UInt8) (vs : List UInt8) (m : Nat), strF n t = some (vs, m) → 1 ≤ m ∧ m ≤ t.length := by
 intro n
 induction n with
 | zero => intro t vs m h; cases h
 | succ n ih =>
  intro t vs m h
  cases t with
  | nil => cases h
  | cons c t =>
   rw [strF] at h
   split at h
   ·simp at h; simp; omega
   ·cases hc : char (c :: t) with
    | none => rw [hc] at h; cases h
    | some p =>
     obtain ⟨v, k⟩ := p
     have hk := char_len _ _ _ hc
     rw [hc] at h
     simp only at h
     cases hs : strF n ((c :: t).drop k) with
     | none => rw [hs] at h; cases h
     | some q =>
      obtain ⟨ws, m'⟩ := q
      rw [hs] at h
      have h2 := ih _ _ _ hs
      rw [List.length_drop] at h2
      simp only [Option.some.injEq, Prod.mk.injEq] at h
      omega
theorem signLen_le (r : List UInt8) : signLen r ≤ r.length := by
 unfold signLen
 cases h : signs.find? fun x => x.isPrefixOf r with
 | none => simp
 | some x =>
  have := List.find?_some h
  simp only [List.isPrefixOf_iff_prefix] at this
  simpa using this.length_le
theorem takeWhile_le (p : UInt8 → Bool) (l : List UInt8) : (l.takeWhile p).length ≤ l.length := (List.takeWhile_prefix p).length_le
theorem takeWhile_pos (p : UInt8 → Bool) (c : UInt8) (l : List UInt8) (h : p c = true) : 1 ≤ ((c :: l).takeWhile p).length := by
 rw [List.takeWhile_cons, if_pos h]; simp
theorem letter_word : ∀ c : UInt8, isLetter c = true → isWord c = true := by
 intro c h; unfold isWord; rw [h]; rfl
theorem digit_word : ∀ c : UInt8, isDigit c = true → isWord c = true := by
 intro c h; unfold isWord; rw [h]; simp
theorem one_len (d : Bool) (r : List UInt8) (kind : Int) (k : Nat) (h : one d r = .ok (kind, k)) : 1 ≤ k ∧ k ≤ r.length := by
 cases r with
 | nil => cases h
 | cons c t =>
  rw [one] at h
  split at h
  ·rename_i hb
   simp only at h
   split at h
   ·cases h
   ·simp only [Except.ok.injEq, Prod.mk.injEq] at h
    obtain ⟨_, rfl⟩ := h
    simp only [Bool.and_eq_true] at hb
    exact ⟨takeWhile_pos _ _ _ hb.2, takeWhile_le _ _⟩
  ·split at h
   ·rename_i hb
    simp only at h
    split at h
    ·cases h
    ·simp only [Except.ok.injEq, Prod.mk.injEq] at h
     obtain ⟨_, rfl⟩ := h
     exact ⟨takeWhile_pos _ _ _ (letter_word _ hb), takeWhile_le _ _⟩
   ·split at h
    ·rename_i hb
     simp only at h
     split at h
     ·cases h
     ·simp only [Except.ok.injEq, Prod.mk.injEq] at h
      obtain ⟨_, rfl⟩ := h
      exact ⟨takeWhile_pos _ _ _ (digit_word _ hb), takeWhile_le _ _⟩
    ·split at h
     ·cases hc : char t with
      | none => rw [hc] at h; cases h
      | some p =>
       obtain ⟨v, j⟩ := p
       rw [hc] at h
       have hj := char_len _ _ _ hc
       simp only at h
       split at h
       ·cases h
       ·rename_i hh
        simp only [Except.ok.injEq, Prod.mk.injEq] at h
        obtain ⟨_, rfl⟩ := h
        refine ⟨by omega, ?_⟩
        rcases Nat.lt_or_ge j t.length with h1 | h1
        ·simp; omega
        ·rw [List.drop_eq_nil_of_le h1] at hh
         simp at hh
     ·split at h
      ·cases hc : strF (t.length + 1) t with
       | none => rw [hc] at h; cases h
       | some p =>
        obtain ⟨v, j⟩ := p
        rw [hc] at h
        have hj := strF_len _ _ _ _ hc
        simp only [Except.ok.injEq, Prod.mk.injEq] at h
        obtain ⟨_, rfl⟩ := h
        simp; omega
      ·split at h
       ·cases h
       ·simp only [Except.ok.injEq, Prod.mk.injEq] at h
        obtain ⟨_, rfl⟩ := h
        exact ⟨by omega, signLen_le _⟩
theorem closed_suffix : ∀ (r u : List UInt8), closed r = some u → ∃ i, u = r.drop i ∧ i ≤ r.length
 | [], u, h => by cases h
 | [c], u, h => by cases h
 | c :: d :: r, u, h => by
  rw [closed] at h
  split at h
  ·cases h; exact ⟨2, rfl, by simp⟩
  ·obtain ⟨i, h1, h2⟩ := closed_suffix (d :: r) u h
   exact ⟨i + 1, h1, by simp at h2 ⊢; omega⟩
theorem dropWhile_suffix (p : UInt8 → Bool) (l : List UInt8) : ∃ i, l.dropWhile p = l.drop i ∧ i ≤ l.length := by
 induction l with
 | nil => exact ⟨0, rfl, by simp⟩
 | cons a l ih =>
  rw [List.dropWhile_cons]
  split
  ·obtain ⟨i, h, hi⟩ := ih
   exact ⟨i + 1, h, by simp; omega⟩
  ·exact ⟨0, rfl, by simp⟩
theorem skipF_suffix : ∀ (n : Nat) (r : List UInt8), (∀ x, skipF n r = .ok x → ∃ i, x = r.drop i ∧ i ≤ r.length) ∧ (∀ x, skipF n r = .error x → ∃ i, x = r.drop i ∧ i ≤ r.length) := by
 intro n
 induction n with
 | zero => intro r; exact ⟨fun x h => by cases h; exact ⟨0, rfl, by omega⟩, fun x h => by cases h⟩
 | succ n ih =>
  intro r
  obtain ⟨i, hi, hil⟩ := dropWhile_suffix isBlank r
  have step : ∀ (t : List UInt8) (j : Nat), t = (r.dropWhile isBlank).drop j → j ≤ (r.dropWhile isBlank).length → (∃ m, t = r.drop m ∧ m ≤ r.length) := fun t j ht hj => by
   rw [hi, List.drop_drop] at ht
   rw [hi, List.length_drop] at hj
   exact ⟨i + j, ht, by omega⟩
  have lift : ∀ (t x : List UInt8), (∃ m, t = r.drop m ∧ m ≤ r.length) → (∃ m, x = t.drop m ∧ m ≤ t.length) → ∃ m, x = r.drop m ∧ m ≤ r.length := fun t x ⟨m, h1, h2⟩ ⟨j, h3, h4⟩ => by
   subst h1
   rw [List.drop_drop] at h3
   rw [List.length_drop] at h4
   exact ⟨m + j, h3, by omega⟩
  rw [skipF]
  split
  ·rename_i t e
   obtain ⟨j, hj, hjl⟩ := dropWhile_suffix (· != 10) t
   have ht : ∃ m, t = r.drop m ∧ m ≤ r.length := step t 2 (by rw [e]; rfl) (by rw [e]; simp)
   have hd := lift t _ ht ⟨j, hj, hjl⟩
   exact ⟨fun x h => lift _ x hd ((ih _).1 x h), fun x h => lift _ x hd ((ih _).2 x h)⟩
  ·rename_i t e
   have ht : ∃ m, t = r.drop m ∧ m ≤ r.length := step t 2 (by rw [e]; rfl) (by rw [e]; simp)
   cases hc : closed t with
   | none =>
    refine ⟨fun x h => (by cases h), fun x h => ?_⟩
    cases h
    exact step _ 0 (by rw [e]; rfl) (by omega)
   | some u =>
    have hd := lift t u ht (closed_suffix t u hc)
    exact ⟨fun x h => lift _ x hd ((ih _).1 x h), fun x h => lift _ x hd ((ih _).2 x h)⟩
  ·exact ⟨fun x h => (by cases h; exact ⟨i, hi, hil⟩), fun x h => (by cases h)⟩
theorem skip_ok_suffix {r x : List UInt8} (h : skip r = .ok x) : ∃ i, x = r.drop i ∧ i ≤ r.length := (skipF_suffix _ r).1 x h
theorem scanF_more (len n : Nat) : ∀ (m : Nat) (pre : List Tok) (r : List UInt8), r.length < n → r.length < m → scanF len n pre r = scanF len m pre r := by
 induction n with
 | zero => intro m pre r h; omega
 | succ n ih =>
  intro m pre r h h'
  cases m with
  | zero => omega
  | succ m =>
   rw [scanF, scanF]
   cases hs : skip r with
   | error c => rfl
   | ok r' =>
    obtain ⟨i, hi, hil⟩ := skip_ok_suffix hs
    have hl : r'.length ≤ r.length := by rw [hi, List.length_drop]; omega
    cases r' with
    | nil => rfl
    | cons c t =>
     simp only
     cases ho : one (opens pre) (c :: t) with
     | error e => rfl
     | ok p =>
      obtain ⟨kind, k⟩ := p
      have hk := one_len _ _ _ _ ho
      simp only
      split
      ·rfl
      ·exact ih m _ _ (by rw [List.length_drop]; omega) (by rw [List.length_drop]; omega)
def scanR (len : Nat) (pre : List Tok) (r : List UInt8) : Except (List UInt8 × Int) (List Tok) := scanF len (r.length + 1) pre r
def scanT (len : Nat) (pre : List Tok) (r' : List UInt8) : Except (List UInt8 × Int) (List Tok) :=
 match r' with
 | [] => .ok pre.reverse
 | c :: t => match one (opens pre) (c :: t) with
  | .error e => .error (c :: t, e)
  | .ok (kind, k) => if pre.length = 4000 then .error (c :: t, 2) else scanR len (⟨kind, (c :: t).take k, len - (c :: t).length⟩ :: pre) ((c :: t).drop k)
theorem scanR_eq (len : Nat) (pre : List Tok) (r : List UInt8) :
  scanR len pre r = match skip r with
   | .error c => .error (c, 113)
   | .ok r' => scanT len pre r' := by
 unfold scanR
 rw [scanF]
 cases hs : skip r with
 | error c => rfl
 | ok r' =>
  obtain ⟨i, hi, hil⟩ := skip_ok_suffix hs
  have hl : r'.length ≤ r.length := by rw [hi, List.length_drop]; omega
  cases r' with
  | nil => rfl
  | cons c t =>
   simp only [scanT]
   cases ho : one (opens pre) (c :: t) with
   | error e => rfl
   | ok p =>
    obtain ⟨kind, k⟩ := p
    have hk := one_len _ _ _ _ ho
    simp only
    split
    ·rfl
    ·exact scanF_more _ _ _ _ _ (by rw [List.length_drop]; omega) (by rw [List.length_drop]; omega)
theorem scan_eq (t : List UInt8) : scan t = if t.length > 20000 then ([], 0, 2) else match scanR t.length [] t with
   | .ok l => (l, 0, 0)
   | .error (r, e) => ([], t.length - r.length, e) := rfl
theorem drop_back {l x : List UInt8} {a i : Nat} (ha : a ≤ l.length) (h : x = (l.drop a).drop i) (hi : i ≤ (l.drop a).length) : x = l.drop (l.length - x.length) := by
 have hx : x = l.drop (a + i) := by rw [h, List.drop_drop]
 rw [List.length_drop] at hi
 have : l.length - x.length = a + i := by rw [hx, List.length_drop]; omega
 rw [this]; exact hx
end Go.Proofs.Lx
set_option linter.unusedVariables false
set_option linter.unusedSimpArgs false
namespace Go.Proofs.YtadgddipkbdnbaaGreatDoor
open Go.RowKit
structure Fr (wB : World) (o b L : Nat) (w : World) : Prop where
 os : w.os = wB.os
 tape : w.tape = wB.tape
 output : w.output = wB.output
 size : wB.heap.size ≤ w.heap.size
 block : ∀ k, k < wB.heap.size → k ≠ o → k ≠ b → k ≠ L → w.heap[k]? = wB.heap[k]?
theorem Fr.below {wB w w' : World} {o b L B : Nat} (h : Fr wB o b L w) (hb : Below B w w') (hB : w.heap.size ≤ B) : Fr wB o b L w' :=
 ⟨hb.os.trans h.os, hb.tape.trans h.tape, hb.output.trans h.output, Nat.le_trans h.size hb.size, fun k hk h1 h2 h3 => (hb.block k (by have := h.size; omega)).trans (h.block k hk h1 h2 h3)⟩
theorem Fr.cell {wB w : World} {o b L : Nat} (h : Fr wB o b L w) {p : Addr} {v : Value} (hp : wB.cell? p = some v) (h1 : p.block ≠ o) (h2 : p.block ≠ b) (h3 : p.block ≠ L) : w.cell? p = some v :=
 (World.cell?_of_block (h.block p.block (World.block_lt_of_cell? _ _ hp) h1 h2 h3)).trans hp
theorem Fr.below_of {wB w : World} {o b L B : Nat} (h : Fr wB o b L w) (ho : B ≤ o) (hb : B ≤ b) (hL : B ≤ L) (hB : B ≤ wB.heap.size) : Below B wB w :=
 ⟨h.os, h.tape, h.output, h.size, fun k hk => h.block k (by omega) (by omega) (by omega) (by omega)⟩
structure Stat (wB : World) (o b L p1 p2 H : Nat) (wv sv : Value) : Prop where
 gw : GW wB
 o6 : 6 ≤ o
 b6 : 6 ≤ b
 l6 : 6 ≤ L
 ob : o ≠ b
 oL : o ≠ L
 bL : b ≠ L
 oB : o < wB.heap.size
 bB : b < wB.heap.size
 lB : L < wB.heap.size
 words : StrsAt wB wv Lx.words
 wne : ∀ g, wv.ownBlock = some g → g ≠ o ∧ g ≠ b ∧ g ≠ L
 signs : StrsAt wB sv Lx.signs
 sne : ∀ g, sv.ownBlock = some g → g ≠ o ∧ g ≠ b ∧ g ≠ L
 c1 : wB.cell? ⟨p1, 0, none⟩ = some (.pointer (some ⟨b, 0, none⟩))
 n1 : p1 ≠ o ∧ p1 ≠ b ∧ p1 ≠ L
 c2 : wB.cell? ⟨p2, 0, none⟩ = some (.slice (some ⟨H + 1 + 1 + 1 + 1, 0, none⟩) 6 6)
 n2 : p2 ≠ o ∧ p2 ≠ b ∧ p2 ≠ L
 recs : Recs wB H
 no : o < H ∨ H + 4 < o
 nb : b < H ∨ H + 4 < b
 nL : L < H ∨ H + 4 < L
structure Inv (wB : World) (o b L : Nat) (wv sv : Value) (rec : Loop) (s : ByteArray) (e : Nat) (preL preO : List Lx.Tok) (w : World) : Prop where
 fr : Fr wB o b L w
 scn : Scn w b s e
 words : w.cell? ⟨b, 3, none⟩ = some wv
 signs : w.cell? ⟨b, 4, none⟩ = some sv
 lfree : w.frozen? ⟨b, 2, none⟩ = false
 ofree : w.frozen? ⟨o, 0, none⟩ = false
 io : ∃ vo vl, w.cell? ⟨o, 0, none⟩ = some vo ∧ w.cell? ⟨b, 2, none⟩ = some vl ∧ w.ownsRow wB.heap.size 38 3 vo preO.length (preO.reverse.flatMap tc) ∧
  LastV w wB.heap.size vl (preL.take 2).reverse ∧ ∀ g, vo.ownBlock = some g → vl.ownBlock ≠ some g
 loop : w.heap[L]? = some (.loop rec)
theorem ownsRow_of_block {w w' : World} {base : Nat} {e : TypeId} {size n : Nat} {v : Value} {xs : List Value} (h : w.ownsRow base e size v n xs) (hm : ∀ k, v.ownBlock = some k → k < w.heap.size → w'.heap[k]? = w.heap[k]?) : w'.ownsRow base e size v n xs := by
 obtain ⟨h1, h2⟩ := h
 refine ⟨h1, ?_⟩
 rcases h2 with h2 | ⟨g, cap, cur, rfl, hg, hh, r⟩
 ·exact .inl h2
 ·exact .inr ⟨g, cap, cur, rfl, hg, (hm g rfl (Array.getElem?_eq_some_iff.1 hh).1).trans hh, r⟩
theorem LastV.of_block {w w' : World} {B : Nat} {v : Value} {l : List Lx.Tok} (h : LastV w B v l) (hm : ∀ k, v.ownBlock = some k → k < w.heap.size → w'.heap[k]? = w.heap[k]?) : LastV w' B v l := by
 rcases h with h | ⟨g, o, cap, cur, rfl, hg, h0, hc, hh, hs, hj⟩
 ·exact .inl h
 ·exact .inr ⟨g, o, cap, cur, rfl, hg, h0, hc, (hm g rfl (Array.getElem?_eq_some_iff.1 hh).1).trans hh, hs, hj⟩
theorem LastV.own_ge {w : World} {B : Nat} {v : Value} {l : List Lx.Tok} (h : LastV w B v l) (k : Nat) (hk : v.ownBlock = some k) : B ≤ k ∧ k < w.heap.size := by
 rcases h with ⟨_, rfl⟩ | ⟨g, o, cap, cur, rfl, hg, h0, hc, hh, hs, hj⟩
 ·cases hk
 ·cases hk; exact ⟨hg, (Array.getElem?_eq_some_iff.1 hh).1⟩
theorem own_ge {w : World} {base : Nat} {e : TypeId} {size n : Nat} {v : Value} {xs : List Value} (h : w.ownsRow base e size v n xs) (k : Nat) (hk : v.ownBlock = some k) : base ≤ k ∧ k < w.heap.size := by
 rcases h.2 with ⟨rfl, _⟩ | ⟨g, cap, cur, rfl, hg, hh, r⟩
 ·cases hk
 ·cases hk; exact ⟨hg, (Array.getElem?_eq_some_iff.1 hh).1⟩
theorem infoT : ∃ i, Tryz.prog.info? 38 = some i ∧ i.zero = some (.agg #[.int .i64 0, .string ⟨#[]⟩, .int .i64 0]) ∧ i.size = 3 ∧ i.bytes = 32 := by
 have h : (Tryz.prog.info? 38).map (fun i => (i.zero, i.size, i.bytes)) = some (some (.agg #[.int .i64 0, .string ⟨#[]⟩, .int .i64 0]), 3, 32) := by kernel_rfl
 cases hi : Tryz.prog.info? 38 with
 | none => rw [hi] at h; cases h
 | some i =>
  rw [hi] at h
  simp only [Option.map_some, Option.some.injEq, Prod.mk.injEq] at h
  exact ⟨i, rfl, h.1, h.2.1, h.2.2⟩
theorem LastV.q {w : World} {B : Nat} {v : Value} {l : List Lx.Tok} (h : LastV w B v l) : YtadgddipkbdnbaaGreatDoorW.PrintWords.QRow w B 38 3 v l.length (l.flatMap tc) := by
 refine ⟨by rw [tc_len]; omega, ?_⟩
 rcases h with ⟨rfl, rfl⟩ | ⟨g, o, cap, cur, rfl, hg, h0, hc, hh, ⟨off, rfl, hm, hs⟩, hj⟩
 ·exact .inl ⟨rfl, none, rfl, fun a ha => by cases ha⟩
 ·refine .inr ⟨g, off, cap, cur, rfl, hg, hh, hc, hm, hs, ?_⟩
  apply List.ext_getElem?
  intro j
  by_cases hlt : j < (l.flatMap tc).length
  ·have := hj j _ (List.getElem?_eq_getElem hlt)
   rw [List.getElem?_eq_getElem hlt, ← this]
   rw [tc_len] at hlt
   rw [List.getElem?_take, if_pos (by omega), List.getElem?_drop]
   simp
  ·rw [List.getElem?_eq_none (Nat.le_of_not_lt hlt)]
   rw [tc_len] at hlt
   rw [List.getElem?_take, if_neg (by omega)]
theorem lastV_of_q {w : World} {B : Nat} {v : Value} {l : List Lx.Tok} (h : YtadgddipkbdnbaaGreatDoorW.PrintWords.QRow w B 38 3 v l.length (l.flatMap tc)) (hl : 0 < l.length) : LastV w B v l := by
 obtain ⟨h1, h2⟩ := h
 rcases h2 with ⟨h0, _⟩ | ⟨g, off, cap, cur, rfl, hg, hh, hc, hm, hs, ht⟩
 ·omega
 ·refine .inr ⟨g, off * 3, cap, cur, rfl, hg, hl, hc, hh, ⟨off, rfl, hm, hs⟩, fun j u hj => ?_⟩
  rw [← ht, List.getElem?_take] at hj
  split at hj
  ·rw [List.getElem?_drop] at hj
   simpa using hj
  ·cases hj
theorem tc_one (t : Lx.Tok) : ∀ u ∈ tc t, u.oneCell' = true := by
 intro u hu
 simp only [tc, List.mem_cons, List.mem_nil_iff, or_false] at hu
 rcases hu with rfl | rfl | rfl <;> rfl
theorem lastV_append (w : World) (ty : TypeId) (B : Nat) (v : Value) (l : List Lx.Tok) (tok : Lx.Tok) (h : LastV w B v l) (hl : l.length ≤ 2) (hB : B ≤ w.heap.size) (a : Addr) (c : Nat) (hnews : ∀ j u, (tc tok)[j]? = some u → w.cell? (a.add j) = some u) :
  ∃ g o cap w', (Builtin.append_ #[23, 23] ty #[v, .slice (some a) 1 c]).run Tryz.prog w = .ok (.slice (some ⟨g, o, none⟩) (l.length + 1) cap) w' ∧ LastV w' B (.slice (some ⟨g, o, none⟩) (l.length + 1) cap) (l ++ [tok]) ∧ w.grownBy w' v.ownBlock ∧
   ((Value.slice (some ⟨g, o, none⟩) (l.length + 1) cap).ownBlock = v.ownBlock ∨ ∃ b, (Value.slice (some ⟨g, o, none⟩) (l.length + 1) cap).ownBlock = some b ∧ w.heap.size ≤ b) := by
 obtain ⟨i, hi, hz, hs, hb⟩ := infoT
 obtain ⟨v', w', hr, hq, hg, ho⟩ := YtadgddipkbdnbaaGreatDoorW.PrintWords.q_append (P := Tryz.prog) w B 23 ty 38 i _ 3 32 Tryz.underlying23 hi hz hs hb rfl (by decide) v l.length _ h.q a 1 c (tc tok) rfl hnews (tc_one tok) (by decide) (by unfold maxLen; omega) (by omega) hB
 have hL : LastV w' B v' (l ++ [tok]) := lastV_of_q (by simpa using hq) (by simp)
 rcases hL with ⟨h0, _⟩ | ⟨g, o, cap, cur, rfl, r⟩
 ·simp at h0
 ·simp only [List.length_append, List.length_cons, List.length_nil, Nat.zero_add] at hr ho ⊢
  exact ⟨g, o, cap, w', hr, .inr ⟨g, o, cap, cur, by simp, r⟩, hg, ho⟩
section
variable {wB w w' : World} {o b L p1 p2 H : Nat} {wv sv : Value} {rec : Loop} {s : ByteArray} {e : Nat} {preL preO : List Lx.Tok}
theorem GW.of6 (h : GW w) (hb : ∀ k, k < 6 → w'.heap[k]? = w.heap[k]?) : GW w' := by
 obtain ⟨⟨t, fr, e⟩, h0, ⟨m, hm⟩, ⟨t4, p4, h4⟩, ⟨t5, p5, h5⟩⟩ := h
 refine ⟨⟨t, fr, by rw [hb 3 (by omega)]; exact e⟩, ?_, ⟨m, ?_⟩, ⟨t4, p4, ?_⟩, ⟨t5, p5, ?_⟩⟩
 ·unfold Lib.TabIs World.var? at h0 ⊢
  rw [glob0] at h0 ⊢
  simp only [Option.bind_some] at h0 ⊢
  rw [hb 0 (by omega)]; exact h0
 ·rw [← hm]; exact World.cell?_of_block (hb 1 (by omega))
 ·rw [← h4]; exact World.cell?_of_block (hb 4 (by omega))
 ·rw [← h5]; exact World.cell?_of_block (hb 5 (by omega))
theorem GW.size6 (h : GW w) : 6 ≤ w.heap.size := by
 obtain ⟨t5, p5, h5⟩ := h.rng
 exact World.block_lt_of_cell? w _ h5
theorem StrsAt.of_block {v : Value} {M : List (List UInt8)} (h : StrsAt w v M) {g0 : Nat} (hm : ∀ k, k < w.heap.size → k ≠ g0 → w'.heap[k]? = w.heap[k]?) (hne : ∀ g, v.ownBlock = some g → g ≠ g0) : StrsAt w' v M := by
 obtain ⟨g, c, rfl, hc⟩ := h
 exact ⟨g, c, rfl, fun j hj => (World.cell?_of_block (hm g (World.block_lt_of_cell? w _ (hc j hj)) (hne g rfl))).trans (hc j hj)⟩
theorem StrsAt.fr {v : Value} {M : List (List UInt8)} (h : StrsAt wB v M) (hf : Fr wB o b L w) (hne : ∀ g, v.ownBlock = some g → g ≠ o ∧ g ≠ b ∧ g ≠ L) : StrsAt w v M := by
 obtain ⟨g, c, rfl, hc⟩ := h
 obtain ⟨h1, h2, h3⟩ := hne g rfl
 exact ⟨g, c, rfl, fun j hj => hf.cell (hc j hj) h1 h2 h3⟩
theorem Recs.fr (h : Recs wB H) (hf : Fr wB o b L w) (no : o < H ∨ H + 4 < o) (nb : b < H ∨ H + 4 < b) (nL : L < H ∨ H + 4 < L) : Recs w H where
 c0 := hf.cell h.c0 (by show H ≠ o; omega) (by show H ≠ b; omega) (by show H ≠ L; omega)
 c1 := hf.cell h.c1 (by show H + 1 ≠ o; omega) (by show H + 1 ≠ b; omega) (by show H + 1 ≠ L; omega)
 c2 := hf.cell h.c2 (by show H + 1 + 1 ≠ o; omega) (by show H + 1 + 1 ≠ b; omega) (by show H + 1 + 1 ≠ L; omega)
 c3 := hf.cell h.c3 (by show H + 1 + 1 + 1 ≠ o; omega) (by show H + 1 + 1 + 1 ≠ b; omega) (by show H + 1 + 1 + 1 ≠ L; omega)
 row := (hf.block _ h.lt (by omega) (by omega) (by omega)).trans h.row
theorem Inv.gw (h : Inv wB o b L wv sv rec s e preL preO w) (st : Stat wB o b L p1 p2 H wv sv) : GW w :=
 st.gw.of6 fun k hk => h.fr.block k (by have := st.gw.size6; omega) (by have := st.o6; omega) (by have := st.b6; omega) (by have := st.l6; omega)
theorem Inv.sw (h : Inv wB o b L wv sv rec s e preL preO w) (st : Stat wB o b L p1 p2 H wv sv) : Sw w wB.heap.size b e s preL := by
 obtain ⟨vo, vl, h1, h2, h3, h4, h5⟩ := h.io
 exact ⟨h.scn, h.gw st, ⟨vl, h2, h4⟩, ⟨wv, h.words, st.words.fr h.fr st.wne⟩, ⟨sv, h.signs, st.signs.fr h.fr st.sne⟩⟩
theorem Inv.recs (h : Inv wB o b L wv sv rec s e preL preO w) (st : Stat wB o b L p1 p2 H wv sv) : Recs w H := st.recs.fr h.fr st.no st.nb st.nL
theorem Inv.c1 (h : Inv wB o b L wv sv rec s e preL preO w) (st : Stat wB o b L p1 p2 H wv sv) : w.cell? ⟨p1, 0, none⟩ = some (.pointer (some ⟨b, 0, none⟩)) := h.fr.cell st.c1 st.n1.1 st.n1.2.1 st.n1.2.2
theorem Inv.c2 (h : Inv wB o b L wv sv rec s e preL preO w) (st : Stat wB o b L p1 p2 H wv sv) : w.cell? ⟨p2, 0, none⟩ = some (.slice (some ⟨H + 1 + 1 + 1 + 1, 0, none⟩) 6 6) := h.fr.cell st.c2 st.n2.1 st.n2.2.1 st.n2.2.2
theorem Inv.below (h : Inv wB o b L wv sv rec s e preL preO w) {B : Nat} (hb : Below B w w') (hB : w.heap.size ≤ B) : Inv wB o b L wv sv rec s e preL preO w' := by
 obtain ⟨vo, vl, h1, h2, h3, h4, h5⟩ := h.io
 have hol : o < w.heap.size := World.block_lt_of_cell? w _ h1
 have hbl : b < w.heap.size := World.block_lt_of_cell? w _ h2
 have hll : L < w.heap.size := (Array.getElem?_eq_some_iff.1 h.loop).1
 have cb : ∀ i, w'.cell? ⟨b, i, none⟩ = w.cell? ⟨b, i, none⟩ := fun i => hb.cell (p := ⟨b, i, none⟩) (by show b < B; omega)
 exact ⟨h.fr.below hb hB, h.scn.below hb (by omega), (cb 3).trans h.words, (cb 4).trans h.signs, (hb.frozen (p := ⟨b, 2, none⟩) (by show b < B; omega)).trans h.lfree, (hb.frozen (p := ⟨o, 0, none⟩) (by show o < B; omega)).trans h.ofree,
  ⟨vo, vl, (hb.cell (p := ⟨o, 0, none⟩) (by show o < B; omega)).trans h1, (cb 2).trans h2, ownsRow_of_block h3 fun k _ hk => hb.block k (by omega), h4.of_block fun k _ hk => hb.block k (by omega), h5⟩, (hb.block L (by omega)).trans h.loop⟩
theorem Inv.drew (h : Inv wB o b L wv sv rec s e preL preO w) : Inv wB o b L wv sv rec s e preL preO w.drew := h.below (Below.refl _ _).drew (Nat.le_refl _)
theorem Fr.setCell {a : Addr} {v : Value} (h : Fr wB o b L w) (ha : a.block = o ∨ a.block = b) : Fr wB o b L (w.setCell a v) :=
 ⟨h.os, h.tape, h.output, by have := h.size; simp only [World.setCell, Array.size_modify]; exact this, fun k hk h1 h2 h3 => (Below.heap_setCell _ _ _ _ (by rcases ha with ha | ha <;> rw [ha] <;> assumption)).trans (h.block k hk h1 h2 h3)⟩
theorem Inv.at (h : Inv wB o b L wv sv rec s e preL preO w) (st : Stat wB o b L p1 p2 H wv sv) (e' : Nat) : Inv wB o b L wv sv rec s e' preL preO (AtW w b e') := by
 obtain ⟨vo, vl, h1, h2, h3, h4, h5⟩ := h.io
 have hkeep : ∀ k, k ≠ b → (AtW w b e').heap[k]? = w.heap[k]? := fun k hk => AtW.heap_other w b e' k hk
 have ho : ∀ i, (AtW w b e').cell? ⟨o, i, none⟩ = w.cell? ⟨o, i, none⟩ := fun i => World.cell?_of_block (hkeep o st.ob)
 have cb : ∀ i, i ≠ 1 → (AtW w b e').cell? ⟨b, i, none⟩ = w.cell? ⟨b, i, none⟩ := fun i hi => World.cell?_setCell_other _ _ _ _ (by intro hh; cases hh; exact hi rfl)
 refine ⟨h.fr.setCell (.inr rfl), AtW.scn h.scn e', (cb 3 (by omega)).trans h.words, (cb 4 (by omega)).trans h.signs, ?_, ?_, ⟨vo, vl, (ho 0).trans h1, (cb 2 (by omega)).trans h2, ?_, ?_, h5⟩, (hkeep L (Ne.symm st.bL)).trans h.loop⟩
 ·unfold AtW; rw [World.frozen?_setCell]; exact h.lfree
 ·unfold AtW; rw [World.frozen?_setCell]; exact h.ofree
 ·exact ownsRow_of_block h3 fun k hk _ => hkeep k (by have := (own_ge h3 k hk).1; have := st.bB; omega)
 ·exact h4.of_block fun k hk _ => hkeep k (by have := (h4.own_ge k hk).1; have := st.bB; omega)
theorem Inv.setLast (h : Inv wB o b L wv sv rec s e preL preO w) (st : Stat wB o b L p1 p2 H wv sv) {w1 : World} {vl vl' : Value} {pre' : List Lx.Tok} (hvl : w.cell? ⟨b, 2, none⟩ = some vl)
  (hg : w.grownBy w1 vl.ownBlock) (hl : LastV w1 wB.heap.size vl' (pre'.take 2).reverse) (hown : vl'.ownBlock = vl.ownBlock ∨ ∃ k, vl'.ownBlock = some k ∧ w.heap.size ≤ k) :
  Inv wB o b L wv sv rec s e pre' preO (w1.setCell ⟨b, 2, none⟩ vl') := by
 obtain ⟨vo, vl0, h1, h2, h3, h4, h5⟩ := h.io
 obtain rfl : vl0 = vl := Option.some.inj (h2.symm.trans hvl)
 have hB := h.fr.size
 have hlow : ∀ k, k < wB.heap.size → w1.heap[k]? = w.heap[k]? := fun k hk => hg.block k (by omega) fun e => by have := (h4.own_ge k e.symm).1; omega
 have hf1 : Fr wB o b L w1 := ⟨hg.os.trans h.fr.os, hg.tape.trans h.fr.tape, hg.output.trans h.fr.output, Nat.le_trans hB hg.size, fun k hk a1 a2 a3 => (hlow k hk).trans (h.fr.block k hk a1 a2 a3)⟩
 have c1 : ∀ (k i : Nat), k < wB.heap.size → w1.cell? ⟨k, i, none⟩ = w.cell? ⟨k, i, none⟩ := fun k i hk => World.cell?_of_block (hlow k hk)
 have z1 : ∀ (k i : Nat), k < wB.heap.size → w1.frozen? ⟨k, i, none⟩ = w.frozen? ⟨k, i, none⟩ := fun k i hk => World.frozen?_of_block (hlow k hk)
 have hkeep : ∀ k, k ≠ b → (w1.setCell ⟨b, 2, none⟩ vl').heap[k]? = w1.heap[k]? := fun k hk => Below.heap_setCell _ _ _ _ hk
 have co : ∀ i, (w1.setCell ⟨b, 2, none⟩ vl').cell? ⟨o, i, none⟩ = w.cell? ⟨o, i, none⟩ := fun i => (World.cell?_of_block (hkeep o st.ob)).trans (c1 o i st.oB)
 have cb : ∀ i, i ≠ 2 → (w1.setCell ⟨b, 2, none⟩ vl').cell? ⟨b, i, none⟩ = w.cell? ⟨b, i, none⟩ := fun i hi => (World.cell?_setCell_other _ _ _ _ (by intro hh; cases hh; exact hi rfl)).trans (c1 b i st.bB)
 refine ⟨hf1.setCell (.inr rfl), ⟨(cb 0 (by omega)).trans h.scn.text, (cb 1 (by omega)).trans h.scn.at_, ?_⟩, (cb 3 (by omega)).trans h.words, (cb 4 (by omega)).trans h.signs, ?_, ?_, ⟨vo, vl', (co 0).trans h1, ?_, ?_, ?_, ?_⟩, ?_⟩
 ·rw [World.frozen?_setCell, z1 b 1 st.bB]; exact h.scn.free
 ·rw [World.frozen?_setCell, z1 b 2 st.bB]; exact h.lfree
 ·rw [World.frozen?_setCell, z1 o 0 st.oB]; exact h.ofree
 ·exact World.cell?_setCell_same' _ _ _ (by rw [c1 b 2 st.bB, h2]; rfl)
 ·exact ownsRow_of_block h3 fun k hk hk2 => (hkeep k (by have := (own_ge h3 k hk).1; have := st.bB; omega)).trans (hg.block k hk2 fun e => h5 k hk e.symm)
 ·exact hl.of_block fun k hk _ => hkeep k (by have := (hl.own_ge k hk).1; have := st.bB; omega)
 ·intro g hg1 hg2
  rcases hown with hh | ⟨k, hh, hk⟩
  ·exact h5 g hg1 (hh ▸ hg2)
  ·rw [hh] at hg2
   have := (own_ge h3 g hg1).2
   have : k = g := Option.some.inj hg2
   omega
 ·exact (hkeep L (Ne.symm st.bL)).trans ((hlow L st.lB).trans h.loop)
theorem Inv.setOut (h : Inv wB o b L wv sv rec s e preL preO w) (st : Stat wB o b L p1 p2 H wv sv) {w1 : World} {vo vo' : Value} {pre' : List Lx.Tok} (hvo : w.cell? ⟨o, 0, none⟩ = some vo)
  (hg : w.grownBy w1 vo.ownBlock) (hl : w1.ownsRow wB.heap.size 38 3 vo' pre'.length (pre'.reverse.flatMap tc)) (hown : vo'.ownBlock = vo.ownBlock ∨ vo'.ownBlock = some w.heap.size) :
  Inv wB o b L wv sv rec s e preL pre' (w1.setCell ⟨o, 0, none⟩ vo') := by
 obtain ⟨vo0, vl, h1, h2, h3, h4, h5⟩ := h.io
 obtain rfl : vo0 = vo := Option.some.inj (h1.symm.trans hvo)
 have hB := h.fr.size
 have hlow : ∀ k, k < wB.heap.size → w1.heap[k]? = w.heap[k]? := fun k hk => hg.block k (by omega) fun e => by have := (own_ge h3 k e.symm).1; omega
 have hf1 : Fr wB o b L w1 := ⟨hg.os.trans h.fr.os, hg.tape.trans h.fr.tape, hg.output.trans h.fr.output, Nat.le_trans hB hg.size, fun k hk a1 a2 a3 => (hlow k hk).trans (h.fr.block k hk a1 a2 a3)⟩
 have c1 : ∀ (k i : Nat), k < wB.heap.size → w1.cell? ⟨k, i, none⟩ = w.cell? ⟨k, i, none⟩ := fun k i hk => World.cell?_of_block (hlow k hk)
 have z1 : ∀ (k i : Nat), k < wB.heap.size → w1.frozen? ⟨k, i, none⟩ = w.frozen? ⟨k, i, none⟩ := fun k i hk => World.frozen?_of_block (hlow k hk)
 have hkeep : ∀ k, k ≠ o → (w1.setCell ⟨o, 0, none⟩ vo').heap[k]? = w1.heap[k]? := fun k hk => Below.heap_setCell _ _ _ _ hk
 have cb : ∀ i, (w1.setCell ⟨o, 0, none⟩ vo').cell? ⟨b, i, none⟩ = w.cell? ⟨b, i, none⟩ := fun i => (World.cell?_of_block (hkeep b (Ne.symm st.ob))).trans (c1 b i st.bB)
 refine ⟨hf1.setCell (.inl rfl), ⟨(cb 0).trans h.scn.text, (cb 1).trans h.scn.at_, ?_⟩, (cb 3).trans h.words, (cb 4).trans h.signs, ?_, ?_, ⟨vo', vl, ?_, (cb 2).trans h2, ?_, ?_, ?_⟩, ?_⟩
 ·rw [World.frozen?_setCell, z1 b 1 st.bB]; exact h.scn.free
 ·rw [World.frozen?_setCell, z1 b 2 st.bB]; exact h.lfree
 ·rw [World.frozen?_setCell, z1 o 0 st.oB]; exact h.ofree
 ·exact World.cell?_setCell_same' _ _ _ (by rw [c1 o 0 st.oB, h1]; rfl)
 ·exact ownsRow_of_block hl fun k hk _ => hkeep k (by have := (own_ge hl k hk).1; have := st.oB; omega)
 ·exact h4.of_block fun k hk hk2 => (hkeep k (by have := (h4.own_ge k hk).1; have := st.oB; omega)).trans (hg.block k hk2 fun e => h5 k e.symm hk)
 ·intro g hg1 hg2
  rcases hown with hh | hh
  ·exact h5 g (hh ▸ hg1) hg2
  ·rw [hh] at hg1
   have := (h4.own_ge g hg2).2
   have : w.heap.size = g := Option.some.inj hg1
   omega
 ·exact (hkeep L (Ne.symm st.oL)).trans ((hlow L st.lB).trans h.loop)
theorem Inv.setLoop (h : Inv wB o b L wv sv rec s e preL preO w) (st : Stat wB o b L p1 p2 H wv sv) (rec' : Loop) : Inv wB o b L wv sv rec' s e preL preO (w.putObj L (.loop rec')) := by
 obtain ⟨vo, vl, h1, h2, h3, h4, h5⟩ := h.io
 have hkeep : ∀ k, k ≠ L → (w.putObj L (.loop rec')).heap[k]? = w.heap[k]? := fun k hk => World.putObj_heap_other hk
 have cb : ∀ i, (w.putObj L (.loop rec')).cell? ⟨b, i, none⟩ = w.cell? ⟨b, i, none⟩ := fun i => World.cell?_of_block (hkeep b st.bL)
 have zb : ∀ i, (w.putObj L (.loop rec')).frozen? ⟨b, i, none⟩ = w.frozen? ⟨b, i, none⟩ := fun i => World.frozen?_of_block (hkeep b st.bL)
 exact ⟨⟨h.fr.os, h.fr.tape, h.fr.output, by rw [World.putObj_size]; exact h.fr.size, fun k hk a1 a2 a3 => (hkeep k a3).trans (h.fr.block k hk a1 a2 a3)⟩,
  ⟨(cb 0).trans h.scn.text, (cb 1).trans h.scn.at_, (zb 1).trans h.scn.free⟩, (cb 3).trans h.words, (cb 4).trans h.signs, (zb 2).trans h.lfree, (World.frozen?_of_block (hkeep o st.oL)).trans h.ofree,
  ⟨vo, vl, (World.cell?_of_block (hkeep o st.oL)).trans h1, (cb 2).trans h2, ownsRow_of_block h3 fun k hk _ => hkeep k (by have := (own_ge h3 k hk).1; have := st.lB; omega), h4.of_block fun k hk _ => hkeep k (by have := (h4.own_ge k hk).1; have := st.lB; omega), h5⟩,
  World.putObj_heap_same (Array.getElem?_eq_some_iff.1 h.loop).1⟩
end
end Go.Proofs.YtadgddipkbdnbaaGreatDoor
