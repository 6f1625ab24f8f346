/- Parts of the proof: For every text that is scanned without an error, its tokens stand in order, each at its offset, and all else is blanks and comments; the inputs read as they did; the package-level variables hold what the program's text lays in them: the tied card. -/
import Derived.Test.YtadgddipkbdnbaaGreatDoorLexP1
import Derived.Test.YtadgddipkbdnbaaGreatDoorLexP2
import Derived.Test.YtadgddipkbdnbaaGreatDoorLexP3
import Derived.Test.YtadgddipkbdnbaaGreatDoorLexP4
import Derived.Test.YtadgddipkbdnbaaGreatDoorLexP7
import Derived.Test.YtadgddipkbdnbaaGreatDoorLexP8
import Derived.Test.YtadgddipkbdnbaaGreatDoorLexP10
import Derived.Test.YtadgddipkbdnbaaGreatDoorLexCoversZ1
set_option linter.unusedVariables false
set_option linter.unusedSimpArgs false
namespace Go.Proofs.Lx
open Go.Proofs.YtadgddipkbdnbaaGreatDoor
theorem scan_ok {t : List UInt8} (h : (scan t).2.2 = 0) : t.length ≤ 20000 ∧ scanR t.length [] t = .ok (scan t).1 ∧ (scan t).2.1 = 0 := by
 rw [scan_eq] at h ⊢
 split
 ·rename_i h2; rw [if_pos h2] at h; cases h
 ·rename_i h2
  rw [if_neg h2] at h
  cases hr : scanR t.length [] t with
  | ok l => exact ⟨by omega, rfl, rfl⟩
  | error p => rw [hr] at h; exact absurd h (scanR_err (x := p.1) (e := p.2) hr)
end Go.Proofs.Lx
set_option linter.unusedVariables false
set_option linter.unusedSimpArgs false
namespace Go.Proofs.Lx
open Go.Proofs.YtadgddipkbdnbaaGreatDoor
def Bd (v : List UInt8) : Prop := v = [] ∨ ∃ c u, v = c :: u ∧ isBlank c = true
theorem blank_cases {c : UInt8} (h : isBlank c = true) : c = 32 ∨ c = 9 ∨ c = 13 ∨ c = 10 := by
 simp only [isBlank, Bool.or_eq_true, beq_iff_eq] at h
 rcases h with ((h | h) | h) | h <;> simp [h]
theorem blank_desc {c : UInt8} (h : isBlank c = true) : isDescB c = false := by
 rcases blank_cases h with h | h | h | h <;> subst h <;> decide
theorem blank_word {c : UInt8} (h : isBlank c = true) : isWord c = false := by
 rcases blank_cases h with h | h | h | h <;> subst h <;> decide
theorem tw_agree (p : UInt8 → Bool) (hp : ∀ c, isBlank c = true → p c = false) {v : List UInt8} (hv : Bd v) : ∀ (r : List UInt8) (m : Nat), (r.takeWhile p).length ≤ m → (r.take m ++ v).takeWhile p = r.takeWhile p
 | [], m, _ => by
  rw [List.take_nil, List.nil_append]
  rcases hv with h | ⟨c, u, h, hb⟩
  ·rw [h]
  ·rw [h, List.takeWhile_cons, if_neg (by rw [hp c hb]; decide)]; rfl
 | c :: r, m, h => by
  by_cases hc : p c = true
  ·rw [List.takeWhile_cons, if_pos hc, List.length_cons] at h
   obtain ⟨m', rfl⟩ : ∃ x, m = x + 1 := ⟨m - 1, by omega⟩
   rw [List.take_succ_cons, List.cons_append, List.takeWhile_cons, if_pos hc, List.takeWhile_cons, if_pos hc, tw_agree p hp hv r m' (by omega)]
  ·rw [List.takeWhile_cons, if_neg hc]
   cases m with
   | zero =>
    rw [List.take_zero, List.nil_append]
    rcases hv with h | ⟨c, u, h, hb⟩
    ·rw [h]; rfl
    ·rw [h, List.takeWhile_cons, if_neg (by rw [hp c hb]; decide)]
   | succ m => rw [List.take_succ_cons, List.cons_append, List.takeWhile_cons, if_neg hc]
theorem take_agree {r : List UInt8} {k m : Nat} (v : List UInt8) (hk : k ≤ m) (hr : k ≤ r.length) : (r.take m ++ v).take k = r.take k := by
 rw [List.take_append_of_le_length (by rw [List.length_take]; omega), List.take_take, Nat.min_eq_left hk]
theorem hexes_agree {t t' : List UInt8} {v : UInt8} {k : Nat} (h : hexes t = some (v, k)) (e : t'.take 2 = t.take 2) : hexes t' = some (v, k) := by
 match t with
 | [] => cases h
 | [x] => cases h
 | x :: y :: r =>
  match t' with
  | [] => cases e
  | [x'] => cases e
  | x' :: y' :: r' =>
   simp only [List.take_succ_cons, List.take_zero, List.cons.injEq] at e
   obtain ⟨rfl, rfl, -⟩ := e
   exact h
theorem hexes_four {t : List UInt8} {v : UInt8} {k : Nat} (h : hexes t = some (v, k)) : k = 4 := by
 unfold hexes at h
 split at h
 ·split at h
  ·simp at h; exact h.2.symm
  ·cases h
 ·cases h
theorem char_agree {t t' : List UInt8} {v : UInt8} {k : Nat} (h : char t = some (v, k)) (e : t'.take k = t.take k) : char t' = some (v, k) := by
 have hk := char_len _ _ _ h
 cases t with
 | nil => cases h
 | cons c t =>
  obtain ⟨k', rfl⟩ : ∃ x, k = x + 1 := ⟨k - 1, by omega⟩
  cases t' with
  | nil => rw [List.take_nil, List.take_succ_cons] at e; cases e
  | cons c' t' =>
   simp only [List.take_succ_cons, List.cons.injEq] at e
   obtain ⟨rfl, e⟩ := e
   simp only [char, charC] at h ⊢
   split
   ·rename_i h0; rw [if_pos h0] at h; cases h
   ·rename_i h0
    rw [if_neg h0] at h
    split
    ·rename_i h1; rw [if_pos h1] at h; exact h
    ·rename_i h1
     rw [if_neg h1] at h
     cases t with
     | nil => cases h
     | cons d u =>
      simp only [escT, esc] at h
      have hk1 : 1 ≤ k' := by
       rcases Nat.eq_zero_or_pos k' with h0 | h0
       ·exfalso
        rw [h0] at h
        repeat' (first | (split at h) | (simp at h; done))
        all_goals first | (have := hexes_four h; omega) | (simp at h; done)
       ·exact h0
      obtain ⟨k2, rfl⟩ : ∃ x, k' = x + 1 := ⟨k' - 1, by omega⟩
      cases t' with
      | nil => rw [List.take_nil, List.take_succ_cons] at e; cases e
      | cons d' u' =>
       simp only [List.take_succ_cons, List.cons.injEq] at e
       obtain ⟨rfl, e⟩ := e
       simp only [escT, esc]
       split
       ·rename_i hh; rw [if_pos hh] at h; exact h
       ·rename_i hh
        rw [if_neg hh] at h
        split
        ·rename_i hh; rw [if_pos hh] at h; exact h
        ·rename_i hh
         rw [if_neg hh] at h
         split
         ·rename_i hh; rw [if_pos hh] at h; exact h
         ·rename_i hh
          rw [if_neg hh] at h
          split
          ·rename_i hh; rw [if_pos hh] at h; exact h
          ·rename_i hh
           rw [if_neg hh] at h
           split
           ·rename_i hh; rw [if_pos hh] at h; cases h
           ·rename_i hh
            rw [if_neg hh] at h
            have := hexes_four h
            have : k2 = 2 := by omega
            subst this
            exact hexes_agree h e
theorem strF_agree : ∀ (n : Nat) {t t' vs : List UInt8} {m : Nat}, strF n t = some (vs, m) → t'.take m = t.take m → ∀ n', m ≤ n' → strF n' t' = some (vs, m)
 | 0, _, _, _, _, h, _, _, _ => by cases h
 | _ + 1, [], _, _, _, h, _, _, _ => by cases h
 | n + 1, c :: t, t', vs, m, h, e, n', hn => by
  have hm := strF_len _ _ _ _ h
  obtain ⟨m', rfl⟩ : ∃ x, m = x + 1 := ⟨m - 1, by omega⟩
  obtain ⟨n'', rfl⟩ : ∃ x, n' = x + 1 := ⟨n' - 1, by omega⟩
  rw [strF] at h
  cases t' with
  | nil => rw [List.take_nil, List.take_succ_cons] at e; cases e
  | cons c' t' =>
   have e0 := e
   simp only [List.take_succ_cons, List.cons.injEq] at e
   obtain ⟨rfl, e⟩ := e
   rw [strF]
   split
   ·rename_i h34; rw [if_pos h34] at h; exact h
   ·rename_i h34
    rw [if_neg h34] at h
    cases hc : char (c' :: t) with
    | none => rw [hc] at h; cases h
    | some p =>
     obtain ⟨v, k⟩ := p
     rw [hc] at h
     simp only at h
     cases hs : strF n ((c' :: t).drop k) with
     | none => rw [hs] at h; cases h
     | some q =>
      obtain ⟨ws, j⟩ := q
      rw [hs] at h
      simp only [Option.some.injEq, Prod.mk.injEq] at h
      obtain ⟨h1, h2⟩ := h
      have hk := char_len _ _ _ hc
      have e1 : (c' :: t').take k = (c' :: t).take k := by
       have := congrArg (List.take k) e0
       rw [List.take_take, List.take_take, Nat.min_eq_left (by omega)] at this
       exact this
      have e2 : ((c' :: t').drop k).take j = ((c' :: t).drop k).take j := by
       have := congrArg (List.drop k) e0
       rw [List.drop_take, List.drop_take, show m' + 1 - k = j by omega] at this
       exact this
      rw [char_agree hc e1]
      simp only
      rw [strF_agree n hs e2 n'' (by omega), ← h1, ← h2]
theorem sign_noblank : ∀ y ∈ signs, ∀ c ∈ y, isBlank c = false := by decide
theorem sign_back {y : List UInt8} (hy : y ∈ signs) {r v : List UInt8} {m : Nat} (hv : Bd v) (h : y <+: r.take m ++ v) : y <+: r := by
 rcases List.prefix_or_prefix_of_prefix h (List.prefix_append (r.take m) v) with h1 | ⟨z, hz⟩
 ·exact h1.trans (List.take_prefix m r)
 ·rw [← hz] at h
  have h2 := (List.prefix_append_right_inj _).1 h
  cases z with
  | nil => rw [List.append_nil] at hz; rw [← hz]; exact List.take_prefix m r
  | cons c z =>
   exfalso
   have hc := sign_noblank y hy c (by rw [← hz]; simp)
   obtain ⟨w, hw⟩ := h2
   rcases hv with h3 | ⟨c', u, h3, hb⟩
   ·rw [h3] at hw; cases hw
   ·rw [h3] at hw
    cases hw
    rw [hb] at hc; cases hc
theorem sign_agree {r v : List UInt8} {m : Nat} (hv : Bd v) (h0 : signLen r ≠ 0) (hm : signLen r ≤ m) : signLen (r.take m ++ v) = signLen r := by
 unfold signLen at h0 hm ⊢
 cases h : signs.find? fun x => x.isPrefixOf r with
 | none => rw [h] at h0; exact absurd rfl h0
 | some x =>
  rw [h] at hm h0
  simp only [Option.map_some, Option.getD_some] at hm h0 ⊢
  have hx := List.find?_eq_some_iff_append.1 h
  obtain ⟨hp, l1, l2, hl, hno⟩ := hx
  have hxr : x <+: r := List.isPrefixOf_iff_prefix.1 hp
  have hxt : x = r.take x.length := List.prefix_iff_eq_take.1 hxr
  have : signs.find? (fun x => x.isPrefixOf (r.take m ++ v)) = some x := by
   refine List.find?_eq_some_iff_append.2 ⟨?_, l1, l2, hl, fun a ha => ?_⟩
   ·refine List.isPrefixOf_iff_prefix.2 ?_
    refine List.IsPrefix.trans ?_ (List.prefix_append _ _)
    rw [hxt]
    refine ⟨(r.take m).drop x.length, ?_⟩
    have : r.take x.length = (r.take m).take x.length := by rw [List.take_take, Nat.min_eq_left hm]
    rw [this, List.take_append_drop]
   ·have := hno a ha
    cases hq : a.isPrefixOf (r.take m ++ v) with
    | false => rfl
    | true =>
     have h1 := sign_back (by rw [hl]; simp [ha]) hv (List.isPrefixOf_iff_prefix.1 hq)
     rw [List.isPrefixOf_iff_prefix.2 h1] at this
     cases this
  rw [this]
  rfl
theorem one_agree {d : Bool} {r v : List UInt8} {kind : Int} {k m : Nat} (h : one d r = .ok (kind, k)) (hk : k ≤ m) (hv : Bd v) : one d (r.take m ++ v) = .ok (kind, k) := by
 have hl := one_len _ _ _ _ h
 cases r with
 | nil => cases h
 | cons c t =>
  have ht : ∀ j, j ≤ k → ((c :: t).take m ++ v).take j = (c :: t).take j := fun j hj => take_agree v (by omega) (by omega)
  have tw : ∀ p : UInt8 → Bool, (∀ c, isBlank c = true → p c = false) → ((c :: t).takeWhile p).length ≤ m → ((c :: t).take m ++ v).takeWhile p = (c :: t).takeWhile p := fun p hp hm => tw_agree p hp hv _ _ hm
  have sg : signLen (c :: t) ≠ 0 → signLen (c :: t) ≤ m → signLen ((c :: t).take m ++ v) = signLen (c :: t) := fun h0 hm => sign_agree hv h0 hm
  obtain ⟨m', rfl⟩ : ∃ x, m = x + 1 := ⟨m - 1, by omega⟩
  rw [List.take_succ_cons, List.cons_append] at ht tw sg ⊢
  rw [one] at h ⊢
  split
  ·rename_i h1
   rw [if_pos h1] at h
   simp only at h ⊢
   split at h
   ·cases h
   ·rename_i h2
    obtain ⟨e1, e2⟩ := Prod.mk.inj (Except.ok.inj h)
    rw [tw isDescB (fun _ hb => blank_desc hb) (by omega), if_neg h2]
    exact h
  ·rename_i h1
   rw [if_neg h1] at h
   split
   ·rename_i h2
    rw [if_pos h2] at h
    simp only at h ⊢
    split at h
    ·cases h
    ·rename_i h3
     obtain ⟨e1, e2⟩ := Prod.mk.inj (Except.ok.inj h)
     rw [tw isWord (fun _ hb => blank_word hb) (by omega), if_neg h3, ht _ (by omega)]
     exact h
   ·rename_i h2
    rw [if_neg h2] at h
    split
    ·rename_i h3
     rw [if_pos h3] at h
     simp only at h ⊢
     split at h
     ·cases h
     ·rename_i h4
      obtain ⟨e1, e2⟩ := Prod.mk.inj (Except.ok.inj h)
      rw [tw isWord (fun _ hb => blank_word hb) (by omega), ht _ (by omega), if_neg h4]
      exact h
    ·rename_i h3
     rw [if_neg h3] at h
     have httail : ∀ j, j + 1 ≤ k → (t.take m' ++ v).take j = t.take j := fun j hj => by
      have := ht (j + 1) hj
      simp only [List.take_succ_cons, List.cons.injEq, true_and] at this
      exact this
     split
     ·rename_i h4
      rw [if_pos h4] at h
      cases hc : char t with
      | none => rw [hc] at h; cases h
      | some p =>
       obtain ⟨x, j⟩ := p
       rw [hc] at h
       simp only at h
       split at h
       ·cases h
       ·rename_i h5
        obtain ⟨e1, e2⟩ := Prod.mk.inj (Except.ok.inj h)
        rw [char_agree hc (httail j (by omega))]
        simp only
        have hj := char_len _ _ _ hc
        have g1 : (t.take m' ++ v).head? = t.head? := by
         have := httail 1 (by omega)
         have h' := congrArg List.head? this
         rw [List.head?_take, List.head?_take] at h'
         simpa using h'
        have g2 : ((t.take m' ++ v).drop j).head? = (t.drop j).head? := by
         have := congrArg (List.drop j) (httail (j + 1) (by omega))
         have h' := congrArg List.head? this
         rw [List.drop_take, List.drop_take, List.head?_take, List.head?_take] at h'
         simpa using h'
        rw [g1, g2, if_neg h5]
        exact h
     ·rename_i h4
      rw [if_neg h4] at h
      split
      ·rename_i h5
       rw [if_pos h5] at h
       cases hc : strF (t.length + 1) t with
       | none => rw [hc] at h; cases h
       | some p =>
        obtain ⟨x, j⟩ := p
        rw [hc] at h
        simp only at h
        obtain ⟨e1, e2⟩ := Prod.mk.inj (Except.ok.inj h)
        have hj := strF_len _ _ _ _ hc
        have hlen : j ≤ (t.take m' ++ v).length := by rw [List.length_append, List.length_take]; omega
        rw [strF_agree _ hc (httail j (by omega)) _ (by omega)]
        exact h
      ·rename_i h5
       rw [if_neg h5] at h
       split at h
       ·cases h
       ·rename_i h6
        obtain ⟨e1, e2⟩ := Prod.mk.inj (Except.ok.inj h)
        rw [sg h6 (by omega), if_neg h6]
        exact h
end Go.Proofs.Lx
set_option linter.unusedVariables false
set_option linter.unusedSimpArgs false
namespace Go.Proofs.Lx
open Go.Proofs.YtadgddipkbdnbaaGreatDoor
inductive Skips : List UInt8 → List UInt8 → Prop
 | nil : Skips [] []
 | stop (c : UInt8) (t : List UInt8) (h : isBlank c = false) (h1 : (c :: t).take 2 ≠ [47, 47]) (h2 : (c :: t).take 2 ≠ [47, 42]) : Skips (c :: t) (c :: t)
 | blank (c : UInt8) (t x : List UInt8) (h : isBlank c = true) (hs : Skips t x) : Skips (c :: t) x
 | line (t x : List UInt8) (hs : Skips (t.dropWhile (· != 10)) x) : Skips (47 :: 47 :: t) x
 | block (t u x : List UInt8) (hc : closed t = some u) (hs : Skips u x) : Skips (47 :: 42 :: t) x
theorem skip_bl (c : UInt8) (t : List UInt8) (h : isBlank c = true) : skip (c :: t) = skip t := by
 rw [skip_eq, skip_eq, List.dropWhile_cons, if_pos h]
theorem skip_li (t : List UInt8) : skip (47 :: 47 :: t) = skip (t.dropWhile (· != 10)) := by
 rw [skip_eq, List.dropWhile_cons, if_neg (by decide)]
 rfl
theorem skip_bo (t : List UInt8) : skip (47 :: 42 :: t) = match closed t with | none => .error (47 :: 42 :: t) | some u => skip u := by
 rw [skip_eq, List.dropWhile_cons, if_neg (by decide)]
 rfl
theorem skip_st (c : UInt8) (t : List UInt8) (h : isBlank c = false) (h1 : (c :: t).take 2 ≠ [47, 47]) (h2 : (c :: t).take 2 ≠ [47, 42]) : skip (c :: t) = .ok (c :: t) := by
 rw [skip_eq, List.dropWhile_cons, if_neg (by rw [h]; decide)]
 split
 ·rename_i e; rw [e] at h1; exact absurd rfl h1
 ·rename_i e; rw [e] at h2; exact absurd rfl h2
 ·rfl
theorem skip_of {r x : List UInt8} (h : Skips r x) : skip r = .ok x := by
 induction h with
 | nil => rfl
 | stop c t h h1 h2 => exact skip_st c t h h1 h2
 | blank c t x h hs ih => rw [skip_bl c t h, ih]
 | line t x hs ih => rw [skip_li, ih]
 | block t u x hc hs ih => rw [skip_bo, hc]; exact ih
theorem skips_of : ∀ (n : Nat) {r x : List UInt8}, r.length = n → skip r = .ok x → Skips r x := by
 intro n
 induction n using Nat.strongRecOn with
 | _ n ih =>
  intro r x hn h
  cases r with
  | nil => cases h; exact .nil
  | cons c t =>
   by_cases hb : isBlank c = true
   ·rw [skip_bl c t hb] at h
    exact .blank c t x hb (ih t.length (by rw [← hn]; simp) rfl h)
   ·have hb' : isBlank c = false := by simpa using hb
    by_cases h1 : (c :: t).take 2 = [47, 47]
    ·match t with
     | [] => cases h1
     | d :: t =>
      simp only [List.take_succ_cons, List.take_zero, List.cons.injEq, and_true] at h1
      obtain ⟨rfl, rfl⟩ := h1
      rw [skip_li] at h
      have := dropWhile_len (· != 10) t
      exact .line t x (ih _ (by rw [← hn]; simp only [List.length_cons]; omega) rfl h)
    ·by_cases h2 : (c :: t).take 2 = [47, 42]
     ·match t with
      | [] => cases h2
      | d :: t =>
       simp only [List.take_succ_cons, List.take_zero, List.cons.injEq, and_true] at h2
       obtain ⟨rfl, rfl⟩ := h2
       rw [skip_bo] at h
       cases hc : closed t with
       | none => rw [hc] at h; cases h
       | some u =>
        rw [hc] at h
        have := closed_len t u hc
        exact .block t u x hc (ih _ (by rw [← hn]; simp only [List.length_cons]; omega) rfl h)
     ·rw [skip_st c t hb' h1 h2] at h
      cases h
      exact .stop c t hb' h1 h2
theorem skips_iff {r x : List UInt8} : Skips r x ↔ skip r = .ok x := ⟨skip_of, fun h => skips_of _ rfl h⟩
theorem dw_append {p : UInt8 → Bool} {v : List UInt8} : ∀ {l : List UInt8}, l.dropWhile p ≠ [] → (l ++ v).dropWhile p = l.dropWhile p ++ v
 | [], h => absurd rfl h
 | c :: l, h => by
  rw [List.cons_append, List.dropWhile_cons, List.dropWhile_cons]
  split
  ·rename_i hc; rw [List.dropWhile_cons, if_pos hc] at h; exact dw_append h
  ·rfl
theorem closed_append (v : List UInt8) : ∀ (t u : List UInt8), closed t = some u → closed (t ++ v) = some (u ++ v)
 | [], u, h => by cases h
 | [_], u, h => by cases h
 | a :: b :: r, u, h => by
  rw [closed] at h
  show closed (a :: b :: (r ++ v)) = _
  rw [closed]
  split
  ·rename_i hc; rw [if_pos hc] at h; cases h; rfl
  ·rename_i hc; rw [if_neg hc] at h; exact closed_append v (b :: r) u h
theorem skips_app {r x : List UInt8} (h : Skips r x) (hx : x ≠ []) {v : List UInt8} (hv : Bd v) : Skips (r ++ v) (x ++ v) := by
 induction h with
 | nil => exact absurd rfl hx
 | stop c t h h1 h2 =>
  have tk : (c :: t ++ v).take 2 = (c :: t).take 2 ∨ ∃ b, (c :: t ++ v).take 2 = [c, b] ∧ isBlank b = true := by
   cases t with
   | cons d t => exact .inl rfl
   | nil =>
    rcases hv with hv | ⟨b, u, hv, hb⟩
    ·exact .inl (by rw [hv]; rfl)
    ·exact .inr ⟨b, by rw [hv]; rfl, hb⟩
  refine .stop c (t ++ v) h ?_ ?_
  ·rcases tk with tk | ⟨b, tk, hb⟩
   ·rw [← List.cons_append, tk]; exact h1
   ·rw [← List.cons_append, tk]
    intro e
    simp only [List.cons.injEq, and_true] at e
    rw [e.2] at hb; revert hb; decide
  ·rcases tk with tk | ⟨b, tk, hb⟩
   ·rw [← List.cons_append, tk]; exact h2
   ·rw [← List.cons_append, tk]
    intro e
    simp only [List.cons.injEq, and_true] at e
    rw [e.2] at hb; revert hb; decide
 | blank c t x h hs ih => exact .blank c (t ++ v) _ h (ih hx)
 | line t x hs ih =>
  refine .line (t ++ v) _ ?_
  have hne : t.dropWhile (· != 10) ≠ [] := by
   intro e
   rw [e] at hs
   cases hs
   exact hx rfl
  rw [dw_append hne]
  exact ih hx
 | block t u x hc hs ih => exact .block (t ++ v) (u ++ v) _ (closed_append v t u hc) (ih hx)
theorem skips_len {r x : List UInt8} (h : Skips r x) : x.length ≤ r.length := by
 obtain ⟨i, hi, -⟩ := skip_ok_suffix (skip_of h)
 rw [hi, List.length_drop]; omega
abbrev K := Int × List UInt8
def ktM (t : Tok) : K := (t.kind, t.text)
def opK : List K → Bool
 | [] => false
 | t :: l => (t.1 == 2 && t.2 == probeW) || (t.1 == 5 && t.2 == [44] && match l with | [] => false | u :: _ => u.1 == 6)
theorem opK_eq (pre : List Tok) : opens pre = opK (pre.map ktM) := by
 match pre with
 | [] => rfl
 | [_] => rfl
 | _ :: _ :: _ => rfl
inductive LexTo : List K → List UInt8 → List K → List UInt8 → Prop
 | nil (p : List K) (r : List UInt8) : LexTo p r [] r
 | cons (p : List K) (r : List UInt8) (c : UInt8) (t : List UInt8) (kind : Int) (k : Nat) (ts : List K) (f : List UInt8) (hs : Skips r (c :: t)) (ho : one (opK p) (c :: t) = .ok (kind, k))
   (hr : LexTo ((kind, (c :: t).take k) :: p) ((c :: t).drop k) ts f) : LexTo p r ((kind, (c :: t).take k) :: ts) f
theorem LexTo.len {p ts : List K} {r f : List UInt8} (h : LexTo p r ts f) : f.length + ts.length ≤ r.length := by
 induction h with
 | nil => simp
 | cons p r c t kind k ts f hs ho hr ih =>
  have h1 := skips_len hs
  have h2 := one_len _ _ _ _ ho
  rw [List.length_drop] at ih
  simp only [List.length_cons] at ih h1 h2 ⊢
  omega
theorem scan_lex : ∀ (n : Nat) {len : Nat} {pre : List Tok} {r : List UInt8} {l : List Tok}, r.length < n → scanF len n pre r = .ok l → ∃ ts f, l.map ktM = (pre.map ktM).reverse ++ ts ∧ LexTo (pre.map ktM) r ts f ∧ Skips f [] ∧ (pre.length ≤ 4000 → l.length ≤ 4000)
 | 0, _, _, _, _, hn, _ => absurd hn (by omega)
 | n + 1, len, pre, r, l, hn, h => by
  rw [scanF] at h
  cases hs : skip r with
  | error c => rw [hs] at h; cases h
  | ok r' =>
   rw [hs] at h
   have hsk := skips_iff.2 hs
   have hl := skips_len hsk
   cases r' with
   | nil =>
    cases h
    exact ⟨[], r, by simp, .nil _ _, hsk, fun h => by rw [List.length_reverse]; exact h⟩
   | cons c t =>
    simp only at h
    cases ho : one (opens pre) (c :: t) with
    | error e' => rw [ho] at h; cases h
    | ok p =>
     obtain ⟨kind, k⟩ := p
     rw [ho] at h
     simp only at h
     have hk := one_len _ _ _ _ ho
     split at h
     ·cases h
     ·rename_i h4
      obtain ⟨ts, f, e1, e2, e3, e4⟩ := scan_lex n (by rw [List.length_drop]; omega) h
      rw [opK_eq] at ho
      refine ⟨(kind, (c :: t).take k) :: ts, f, ?_, .cons _ _ c t kind k ts f hsk ho e2, e3, fun h5 => e4 (by simp only [List.length_cons]; omega)⟩
      rw [e1]
      simp [ktM]
theorem scan_to {t : List UInt8} (h : (scan t).2.2 = 0) : t.length ≤ 20000 ∧ (scan t).1.length ≤ 4000 ∧ ∃ f, LexTo [] t ((scan t).1.map ktM) f ∧ Skips f [] := by
 obtain ⟨h1, h2, -⟩ := scan_ok h
 obtain ⟨ts, f, e1, e2, e3, e4⟩ := scan_lex _ (Nat.lt_succ_self _) h2
 simp only [List.map_nil, List.reverse_nil, List.nil_append] at e1
 exact ⟨h1, e4 (by simp), f, by rw [e1]; exact e2, e3⟩
theorem LexTo.trans {p : List K} {r : List UInt8} {ts : List K} {f : List UInt8} (h : LexTo p r ts f) : ∀ {us : List K} {g : List UInt8}, LexTo (ts.reverse ++ p) f us g → LexTo p r (ts ++ us) g := by
 induction h with
 | nil p r => intro us g h2; exact h2
 | cons p r c t kind k ts f hs ho hr ih =>
  intro us g h2
  exact .cons _ r c t kind k _ _ hs ho (ih (by simpa using h2))
theorem LexTo.blank {p : List K} {c : UInt8} {r : List UInt8} {ts : List K} {f : List UInt8} (hb : isBlank c = true) (h : LexTo p r ts f) : ∃ g, LexTo p (c :: r) ts g ∧ (Skips f [] → Skips g []) ∧ (ts ≠ [] → g = f) := by
 cases h with
 | nil => exact ⟨c :: r, .nil _ _, fun h => .blank c r [] hb h, fun h => absurd rfl h⟩
 | cons _ _ d t kind k ts f hs ho hr => exact ⟨f, .cons p (c :: r) d t kind k ts f (.blank c r _ hb hs) ho hr, id, fun _ => rfl⟩
end Go.Proofs.Lx
set_option linter.unusedVariables false
set_option linter.unusedSimpArgs false
namespace Go.Proofs.Lx
open Go.Proofs.YtadgddipkbdnbaaGreatDoor
def Tokk (d : Bool) (x : K) : Prop := one d x.2 = .ok (x.1, x.2.length) ∧ x.2 ≠ [] ∧ Skips x.2 x.2
theorem LexTo.one {p : List K} {x : K} (h : Tokk (opK p) x) {v : List UInt8} (hv : Bd v) : LexTo p (x.2 ++ v) [x] v := by
 obtain ⟨h1, h2, h3⟩ := h
 obtain ⟨kind, text⟩ := x
 simp only at h1 h2 h3
 cases text with
 | nil => exact absurd rfl h2
 | cons c t =>
  have h4 := one_agree (m := (c :: t).length) h1 (Nat.le_refl _) hv
  rw [List.take_length] at h4
  have e1 : (c :: (t ++ v)).take (c :: t).length = c :: t := by
   rw [← List.cons_append, List.take_append_of_le_length (Nat.le_refl _), List.take_length]
  have e2 : (c :: (t ++ v)).drop (c :: t).length = v := by
   rw [← List.cons_append, List.drop_append_of_le_length (Nat.le_refl _), List.drop_length, List.nil_append]
  have := LexTo.cons p (c :: t ++ v) c (t ++ v) kind (c :: t).length [] v (skips_app h3 (by simp) hv) h4 (by rw [e2]; exact .nil _ _)
  rw [e1] at this
  exact this
end Go.Proofs.Lx
set_option linter.unusedVariables false
set_option linter.unusedSimpArgs false
namespace Go.Proofs.Lx
open Go.Proofs.YtadgddipkbdnbaaGreatDoor
inductive LexAt (t : List UInt8) : List K → Nat → List Tok → Nat → Prop
 | nil (p : List K) (i : Nat) : LexAt t p i [] i
 | cons (p : List K) (i a k : Nat) (kind : Int) (ts : List Tok) (j : Nat) (hi : i ≤ a) (ha : a < t.length) (hs : Skips (t.drop i) (t.drop a)) (ho : one (opK p) (t.drop a) = .ok (kind, k))
   (hr : LexAt t ((kind, (t.drop a).take k) :: p) (a + k) ts j) : LexAt t p i (⟨kind, (t.drop a).take k, a⟩ :: ts) j
theorem skips_drop {r x : List UInt8} (h : Skips r x) : ∃ i, x = r.drop i ∧ i ≤ r.length := skip_ok_suffix (skip_of h)
theorem scan_at (t : List UInt8) : ∀ (n : Nat) {pre : List Tok} {i : Nat} {l : List Tok}, (t.drop i).length < n → i ≤ t.length → scanF t.length n pre (t.drop i) = .ok l → ∃ ts j, l = pre.reverse ++ ts ∧ LexAt t (pre.map ktM) i ts j ∧ Skips (t.drop j) [] ∧ j ≤ t.length
 | 0, _, _, _, hn, _, _ => absurd hn (by omega)
 | n + 1, pre, i, l, hn, hi, h => by
  rw [scanF] at h
  cases hs : skip (t.drop i) with
  | error c => rw [hs] at h; cases h
  | ok r' =>
   rw [hs] at h
   have hsk := skips_iff.2 hs
   have hl := skips_len hsk
   obtain ⟨d, hd, hdl⟩ := skips_drop hsk
   rw [List.drop_drop] at hd
   rw [List.length_drop] at hdl
   cases hr' : r' with
   | nil =>
    rw [hr'] at h hsk
    cases h
    exact ⟨[], i, by simp, .nil _ _, hsk, hi⟩
   | cons c u =>
    rw [hr'] at h
    simp only at h
    rw [← hr'] at h
    cases ho : one (opens pre) r' with
    | error e' => rw [ho] at h; cases h
    | ok p =>
     obtain ⟨kind, k⟩ := p
     rw [ho] at h
     simp only at h
     have hk := one_len _ _ _ _ ho
     have hlen : r'.length = t.length - (i + d) := by rw [hd, List.length_drop]
     have hpos : 0 < r'.length := by rw [hr']; simp
     split at h
     ·cases h
     ·have e1 : t.length - r'.length = i + d := by omega
      rw [e1, hd, List.drop_drop] at h
      obtain ⟨ts, j, e2, e3, e4, e5⟩ := scan_at t n (by rw [List.length_drop] at hn ⊢; omega) (by omega) h
      rw [hd, opK_eq] at ho
      rw [hd] at hsk
      refine ⟨⟨kind, (t.drop (i + d)).take k, i + d⟩ :: ts, j, ?_, .cons _ i (i + d) k kind ts j (by omega) (by omega) hsk ho e3, e4, e5⟩
      rw [e2]
      simp
theorem scan_ats {t : List UInt8} (h : (scan t).2.2 = 0) : ∃ j, LexAt t [] 0 (scan t).1 j ∧ Skips (t.drop j) [] ∧ j ≤ t.length := by
 obtain ⟨h1, h2, -⟩ := scan_ok h
 have h3 : scanF t.length (t.length + 1) [] (t.drop 0) = .ok (scan t).1 := h2
 obtain ⟨ts, j, e1, e2, e3, e4⟩ := scan_at t _ (by simp) (Nat.zero_le _) h3
 simp only [List.reverse_nil, List.nil_append] at e1
 rw [e1]
 exact ⟨j, e2, e3, e4⟩
def idleF : Nat → List UInt8 → Bool
 | 0, _ => false
 | _ + 1, [] => true
 | n + 1, c :: t =>
  if c = 47 ∧ t.head? = some 47 then idleF n (t.dropWhile (· != 10))
  else if c = 47 ∧ t.head? = some 42 then (match closed t.tail with | none => false | some u => idleF n u)
  else if isBlank c then idleF n t else false
theorem closed_split : ∀ {t u : List UInt8}, closed t = some u → ∃ w, t = w ++ u ∧ closed w = some []
 | [], _, h => by cases h
 | [_], _, h => by cases h
 | a :: b :: r, u, h => by
  rw [closed] at h
  split at h
  ·rename_i hc
   cases h
   obtain ⟨rfl, rfl⟩ := hc
   exact ⟨[42, 47], rfl, rfl⟩
  ·rename_i hc
   obtain ⟨w, h1, h2⟩ := closed_split h
   cases w with
   | nil => cases h2
   | cons b' w =>
    simp only [List.cons_append, List.cons.injEq] at h1
    obtain ⟨rfl, rfl⟩ := h1
    exact ⟨a :: b :: w, rfl, by rw [closed, if_neg hc]; exact h2⟩
theorem dw_split (t : List UInt8) : ∃ w, t = w ++ t.dropWhile (· != 10) ∧ (∀ c ∈ w, c ≠ 10) ∧ (t.dropWhile (· != 10) = [] ∨ ∃ u, t.dropWhile (· != 10) = 10 :: u) := by
 induction t with
 | nil => exact ⟨[], rfl, by simp, .inl rfl⟩
 | cons c t ih =>
  by_cases h : c = 10
  ·subst h
   exact ⟨[], by rw [List.dropWhile_cons, if_neg (by decide)]; rfl, by simp, .inr ⟨t, by rw [List.dropWhile_cons, if_neg (by decide)]⟩⟩
  ·obtain ⟨w, h1, h2, h3⟩ := ih
   refine ⟨c :: w, ?_, ?_, ?_⟩
   ·rw [List.dropWhile_cons, if_pos (by simpa using h), List.cons_append, ← h1]
   ·intro d hd
    rcases List.mem_cons.1 hd with e | e
    ·rw [e]; exact h
    ·exact h2 d e
   ·rw [List.dropWhile_cons, if_pos (by simpa using h)]
    exact h3
theorem dw_all10 : ∀ {w : List UInt8} (z : List UInt8), (∀ c ∈ w, c ≠ 10) → (w ++ z).dropWhile (· != 10) = z.dropWhile (· != 10)
 | [], _, _ => rfl
 | c :: w, z, h => by
  rw [List.cons_append, List.dropWhile_cons, if_pos (by simpa using h c (by simp))]
  exact dw_all10 z fun c' hc => h c' (by simp [hc])
theorem skips_head {r x : List UInt8} (h : Skips r x) : ∀ {c u}, x = c :: u → isBlank c = false := by
 induction h with
 | nil => intro c u e; cases e
 | stop c t h h1 h2 => intro c' u e; cases e; exact h
 | blank c t x h hs ih => exact ih
 | line t x hs ih => exact ih
 | block t u x hc hs ih => exact ih
theorem idle_of {r x : List UInt8} (h : Skips r x) : ∀ {g : List UInt8}, r = g ++ x → ∀ n, g.length < n → idleF n g = true := by
 induction h with
 | nil =>
  intro g e n hn
  obtain ⟨n, rfl⟩ : ∃ m, n = m + 1 := ⟨n - 1, by omega⟩
  have : g = [] := by simpa using e.symm
  subst this; rfl
 | stop c t h h1 h2 =>
  intro g e n hn
  obtain ⟨n, rfl⟩ : ∃ m, n = m + 1 := ⟨n - 1, by omega⟩
  have : g = [] := by
   have := congrArg List.length e
   rw [List.length_append] at this
   exact List.length_eq_zero_iff.1 (by omega)
  subst this; rfl
 | blank c t x h hs ih =>
  intro g e n hn
  obtain ⟨n, rfl⟩ : ∃ m, n = m + 1 := ⟨n - 1, by omega⟩
  have hx := skips_len hs
  cases g with
  | nil => have := congrArg List.length e; simp only [List.nil_append, List.length_cons] at this; omega
  | cons c' g =>
   simp only [List.cons_append, List.cons.injEq] at e
   obtain ⟨rfl, e⟩ := e
   have hne : c ≠ 47 := by intro h'; rw [h'] at h; revert h; decide
   rw [idleF, if_neg (fun h => hne h.1), if_neg (fun h => hne h.1), if_pos h]
   exact ih e n (by simpa using hn)
 | line t x hs ih =>
  intro g e n hn
  obtain ⟨n, rfl⟩ : ∃ m, n = m + 1 := ⟨n - 1, by omega⟩
  have hx := skips_len hs
  have hd := dropWhile_len (· != 10) t
  match g with
  | [] => have := congrArg List.length e; simp only [List.nil_append, List.length_cons] at this; omega
  | [_] => have := congrArg List.length e; simp only [List.cons_append, List.nil_append, List.length_cons] at this; omega
  | c1 :: c2 :: g =>
   simp only [List.cons_append, List.cons.injEq] at e
   obtain ⟨rfl, rfl, e⟩ := e
   rw [idleF, if_pos ⟨rfl, rfl⟩]
   obtain ⟨w, hw, hw10, hy⟩ := dw_split t
   obtain ⟨i, hi, hil⟩ := skips_drop hs
   have hg2 : t.dropWhile (· != 10) = (t.dropWhile (· != 10)).take i ++ x := by rw [hi, List.take_append_drop]
   generalize t.dropWhile (· != 10) = y at *
   have hg : g = w ++ y.take i := by
    have : g ++ x = (w ++ y.take i) ++ x := by rw [← e, List.append_assoc, ← hg2]; exact hw
    exact List.append_cancel_right this
   have e2 : (47 :: g : List UInt8).dropWhile (· != 10) = y.take i := by
    rw [List.dropWhile_cons, if_pos (by decide), hg, dw_all10 _ hw10]
    rcases hy with hy | ⟨u, hy⟩
    ·rw [hy]; simp
    ·cases i with
     | zero =>
      exfalso
      rw [List.drop_zero] at hi
      have := skips_head hs (hi.trans hy)
      revert this; decide
     | succ i => rw [hy, List.take_succ_cons, List.dropWhile_cons, if_neg (by decide)]
   rw [e2]
   refine ih hg2 n ?_
   have : (y.take i).length ≤ g.length := by rw [hg, List.length_append]; omega
   simp only [List.length_cons] at hn
   omega
 | block t u x hc hs ih =>
  intro g e n hn
  obtain ⟨n, rfl⟩ : ∃ m, n = m + 1 := ⟨n - 1, by omega⟩
  have hx := skips_len hs
  have hd := closed_len t u hc
  match g with
  | [] => have := congrArg List.length e; simp only [List.nil_append, List.length_cons] at this; omega
  | [_] => have := congrArg List.length e; simp only [List.cons_append, List.nil_append, List.length_cons] at this; omega
  | c1 :: c2 :: g =>
   simp only [List.cons_append, List.cons.injEq] at e
   obtain ⟨rfl, rfl, e⟩ := e
   rw [idleF, if_neg (by simp), if_pos ⟨rfl, rfl⟩]
   obtain ⟨w, hw, hwc⟩ := closed_split hc
   obtain ⟨i, hi, hil⟩ := skips_drop hs
   have hg2 : u = u.take i ++ x := by rw [hi, List.take_append_drop]
   have hg : g = w ++ u.take i := by
    have : g ++ x = (w ++ u.take i) ++ x := by rw [← e, List.append_assoc, ← hg2]; exact hw
    exact List.append_cancel_right this
   have e2 : closed g = some (u.take i) := by
    rw [hg]
    exact closed_append (u.take i) w [] hwc
   rw [List.tail_cons, e2]
   refine ih hg2 n ?_
   have : (u.take i).length ≤ g.length := by rw [hg, List.length_append]; omega
   simp only [List.length_cons] at hn
   omega
end Go.Proofs.Lx
set_option linter.unusedVariables false
set_option linter.unusedSimpArgs false
namespace Go.Proofs.YtadgddipkbdnbaaGreatDoor.Q
open Go.RowKit Go.Proofs.YtadgddipkbdnbaaGreatDoor YtadgddipkbdnbaaGreatDoorW.PrintWords YtadgddipkbdnbaaGreatDoorW.PrintLast
theorem wrapn {i : Int} (h0 : 0 ≤ i) (h : i < 9223372036854775808) : wrap64 i = i := by unfold wrap64; omega
end Go.Proofs.YtadgddipkbdnbaaGreatDoor.Q
