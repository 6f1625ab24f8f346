/- Parts of the proof: For every text that is scanned without an error (at most 60 tokens and 2000 bytes), the text that Tight writes is, without any one of its spaces between tokens, scanned as other tokens or not at all; the inputs read as they did; the package-level variables hold what the program's text lays in them: the tied card. -/
import Derived.Test.YtadgddipkbdnbaaGreatDoorLexP1
import Derived.Test.YtadgddipkbdnbaaGreatDoorLexP2
import Derived.Test.YtadgddipkbdnbaaGreatDoorLexP3
import Derived.Test.YtadgddipkbdnbaaGreatDoorLexP4
import Derived.Test.YtadgddipkbdnbaaGreatDoorLexP7
import Derived.Test.YtadgddipkbdnbaaGreatDoorLexP8
import Derived.Test.YtadgddipkbdnbaaGreatDoorLexP10
import Derived.Test.YtadgddipkbdnbaaGreatDoorLexP11
import Derived.Test.YtadgddipkbdnbaaGreatDoorLexP12
set_option linter.unusedVariables false
set_option linter.unusedSimpArgs false
namespace Go.Proofs.Lx
open Go.Proofs.YtadgddipkbdnbaaGreatDoor
theorem scan_ok {t : List UInt8} (h : (scan t).2.2 = 0) : t.length ≤ 20000 ∧ scanR t.length [] t = .ok (scan t).1 ∧ (scan t).2.1 = 0 := by
 rw [scan_eq] at h ⊢
 split
 ·rename_i h2; rw [if_pos h2] at h; cases h
 ·rename_i h2
  rw [if_neg h2] at h
  cases hr : scanR t.length [] t with
  | ok l => exact ⟨by omega, rfl, rfl⟩
  | error p => rw [hr] at h; exact absurd h (scanR_err (x := p.1) (e := p.2) hr)
theorem scan_of_ok {t : List UInt8} {l : List Tok} (h : t.length ≤ 20000) (hr : scanR t.length [] t = .ok l) : scan t = (l, 0, 0) := by
 rw [scan_eq, if_neg (by omega), hr]
end Go.Proofs.Lx
set_option linter.unusedVariables false
set_option linter.unusedSimpArgs false
namespace Go.Proofs.Lx
open Go.Proofs.YtadgddipkbdnbaaGreatDoor
def Bd (v : List UInt8) : Prop := v = [] ∨ ∃ c u, v = c :: u ∧ isBlank c = true
theorem blank_cases {c : UInt8} (h : isBlank c = true) : c = 32 ∨ c = 9 ∨ c = 13 ∨ c = 10 := by
 simp only [isBlank, Bool.or_eq_true, beq_iff_eq] at h
 rcases h with ((h | h) | h) | h <;> simp [h]
theorem blank_desc {c : UInt8} (h : isBlank c = true) : isDescB c = false := by
 rcases blank_cases h with h | h | h | h <;> subst h <;> decide
theorem blank_word {c : UInt8} (h : isBlank c = true) : isWord c = false := by
 rcases blank_cases h with h | h | h | h <;> subst h <;> decide
theorem tw_agree (p : UInt8 → Bool) (hp : ∀ c, isBlank c = true → p c = false) {v : List UInt8} (hv : Bd v) : ∀ (r : List UInt8) (m : Nat), (r.takeWhile p).length ≤ m → (r.take m ++ v).takeWhile p = r.takeWhile p
 | [], m, _ => by
  rw [List.take_nil, List.nil_append]
  rcases hv with h | ⟨c, u, h, hb⟩
  ·rw [h]
  ·rw [h, List.takeWhile_cons, if_neg (by rw [hp c hb]; decide)]; rfl
 | c :: r, m, h => by
  by_cases hc : p c = true
  ·rw [List.takeWhile_cons, if_pos hc, List.length_cons] at h
   obtain ⟨m', rfl⟩ : ∃ x, m = x + 1 := ⟨m - 1, by omega⟩
   rw [List.take_succ_cons, List.cons_append, List.takeWhile_cons, if_pos hc, List.takeWhile_cons, if_pos hc, tw_agree p hp hv r m' (by omega)]
  ·rw [List.takeWhile_cons, if_neg hc]
   cases m with
   | zero =>
    rw [List.take_zero, List.nil_append]
    rcases hv with h | ⟨c, u, h, hb⟩
    ·rw [h]; rfl
    ·rw [h, List.takeWhile_cons, if_neg (by rw [hp c hb]; decide)]
   | succ m => rw [List.take_succ_cons, List.cons_append, List.takeWhile_cons, if_neg hc]
theorem take_agree {r : List UInt8} {k m : Nat} (v : List UInt8) (hk : k ≤ m) (hr : k ≤ r.length) : (r.take m ++ v).take k = r.take k := by
 rw [List.take_append_of_le_length (by rw [List.length_take]; omega), List.take_take, Nat.min_eq_left hk]
theorem hexes_agree {t t' : List UInt8} {v : UInt8} {k : Nat} (h : hexes t = some (v, k)) (e : t'.take 2 = t.take 2) : hexes t' = some (v, k) := by
 match t with
 | [] => cases h
 | [x] => cases h
 | x :: y :: r =>
  match t' with
  | [] => cases e
  | [x'] => cases e
  | x' :: y' :: r' =>
   simp only [List.take_succ_cons, List.take_zero, List.cons.injEq] at e
   obtain ⟨rfl, rfl, -⟩ := e
   exact h
theorem hexes_four {t : List UInt8} {v : UInt8} {k : Nat} (h : hexes t = some (v, k)) : k = 4 := by
 unfold hexes at h
 split at h
 ·split at h
  ·simp at h; exact h.2.symm
  ·cases h
 ·cases h
theorem char_agree {t t' : List UInt8} {v : UInt8} {k : Nat} (h : char t = some (v, k)) (e : t'.take k = t.take k) : char t' = some (v, k) := by
 have hk := char_len _ _ _ h
 cases t with
 | nil => cases h
 | cons c t =>
  obtain ⟨k', rfl⟩ : ∃ x, k = x + 1 := ⟨k - 1, by omega⟩
  cases t' with
  | nil => rw [List.take_nil, List.take_succ_cons] at e; cases e
  | cons c' t' =>
   simp only [List.take_succ_cons, List.cons.injEq] at e
   obtain ⟨rfl, e⟩ := e
   simp only [char, charC] at h ⊢
   split
   ·rename_i h0; rw [if_pos h0] at h; cases h
   ·rename_i h0
    rw [if_neg h0] at h
    split
    ·rename_i h1; rw [if_pos h1] at h; exact h
    ·rename_i h1
     rw [if_neg h1] at h
     cases t with
     | nil => cases h
     | cons d u =>
      simp only [escT, esc] at h
      have hk1 : 1 ≤ k' := by
       rcases Nat.eq_zero_or_pos k' with h0 | h0
       ·exfalso
        rw [h0] at h
        repeat' (first | (split at h) | (simp at h; done))
        all_goals first | (have := hexes_four h; omega) | (simp at h; done)
       ·exact h0
      obtain ⟨k2, rfl⟩ : ∃ x, k' = x + 1 := ⟨k' - 1, by omega⟩
      cases t' with
      | nil => rw [List.take_nil, List.take_succ_cons] at e; cases e
      | cons d' u' =>
       simp only [List.take_succ_cons, List.cons.injEq] at e
       obtain ⟨rfl, e⟩ := e
       simp only [escT, esc]
       split
       ·rename_i hh; rw [if_pos hh] at h; exact h
       ·rename_i hh
        rw [if_neg hh] at h
        split
        ·rename_i hh; rw [if_pos hh] at h; exact h
        ·rename_i hh
         rw [if_neg hh] at h
         split
         ·rename_i hh; rw [if_pos hh] at h; exact h
         ·rename_i hh
          rw [if_neg hh] at h
          split
          ·rename_i hh; rw [if_pos hh] at h; exact h
          ·rename_i hh
           rw [if_neg hh] at h
           split
           ·rename_i hh; rw [if_pos hh] at h; cases h
           ·rename_i hh
            rw [if_neg hh] at h
            have := hexes_four h
            have : k2 = 2 := by omega
            subst this
            exact hexes_agree h e
theorem strF_agree : ∀ (n : Nat) {t t' vs : List UInt8} {m : Nat}, strF n t = some (vs, m) → t'.take m = t.take m → ∀ n', m ≤ n' → strF n' t' = some (vs, m)
 | 0, _, _, _, _, h, _, _, _ => by cases h
 | _ + 1, [], _, _, _, h, _, _, _ => by cases h
 | n + 1, c :: t, t', vs, m, h, e, n', hn => by
  have hm := strF_len _ _ _ _ h
  obtain ⟨m', rfl⟩ : ∃ x, m = x + 1 := ⟨m - 1, by omega⟩
  obtain ⟨n'', rfl⟩ : ∃ x, n' = x + 1 := ⟨n' - 1, by omega⟩
  rw [strF] at h
  cases t' with
  | nil => rw [List.take_nil, List.take_succ_cons] at e; cases e
  | cons c' t' =>
   have e0 := e
   simp only [List.take_succ_cons, List.cons.injEq] at e
   obtain ⟨rfl, e⟩ := e
   rw [strF]
   split
   ·rename_i h34; rw [if_pos h34] at h; exact h
   ·rename_i h34
    rw [if_neg h34] at h
    cases hc : char (c' :: t) with
    | none => rw [hc] at h; cases h
    | some p =>
     obtain ⟨v, k⟩ := p
     rw [hc] at h
     simp only at h
     cases hs : strF n ((c' :: t).drop k) with
     | none => rw [hs] at h; cases h
     | some q =>
      obtain ⟨ws, j⟩ := q
      rw [hs] at h
      simp only [Option.some.injEq, Prod.mk.injEq] at h
      obtain ⟨h1, h2⟩ := h
      have hk := char_len _ _ _ hc
      have e1 : (c' :: t').take k = (c' :: t).take k := by
       have := congrArg (List.take k) e0
       rw [List.take_take, List.take_take, Nat.min_eq_left (by omega)] at this
       exact this
      have e2 : ((c' :: t').drop k).take j = ((c' :: t).drop k).take j := by
       have := congrArg (List.drop k) e0
       rw [List.drop_take, List.drop_take, show m' + 1 - k = j by omega] at this
       exact this
      rw [char_agree hc e1]
      simp only
      rw [strF_agree n hs e2 n'' (by omega), ← h1, ← h2]
theorem sign_noblank : ∀ y ∈ signs, ∀ c ∈ y, isBlank c = false := by decide
theorem sign_back {y : List UInt8} (hy : y ∈ signs) {r v : List UInt8} {m : Nat} (hv : Bd v) (h : y <+: r.take m ++ v) : y <+: r := by
 rcases List.prefix_or_prefix_of_prefix h (List.prefix_append (r.take m) v) with h1 | ⟨z, hz⟩
 ·exact h1.trans (List.take_prefix m r)
 ·rw [← hz] at h
  have h2 := (List.prefix_append_right_inj _).1 h
  cases z with
  | nil => rw [List.append_nil] at hz; rw [← hz]; exact List.take_prefix m r
  | cons c z =>
   exfalso
   have hc := sign_noblank y hy c (by rw [← hz]; simp)
   obtain ⟨w, hw⟩ := h2
   rcases hv with h3 | ⟨c', u, h3, hb⟩
   ·rw [h3] at hw; cases hw
   ·rw [h3] at hw
    cases hw
    rw [hb] at hc; cases hc
theorem sign_agree {r v : List UInt8} {m : Nat} (hv : Bd v) (h0 : signLen r ≠ 0) (hm : signLen r ≤ m) : signLen (r.take m ++ v) = signLen r := by
 unfold signLen at h0 hm ⊢
 cases h : signs.find? fun x => x.isPrefixOf r with
 | none => rw [h] at h0; exact absurd rfl h0
 | some x =>
  rw [h] at hm h0
  simp only [Option.map_some, Option.getD_some] at hm h0 ⊢
  have hx := List.find?_eq_some_iff_append.1 h
  obtain ⟨hp, l1, l2, hl, hno⟩ := hx
  have hxr : x <+: r := List.isPrefixOf_iff_prefix.1 hp
  have hxt : x = r.take x.length := List.prefix_iff_eq_take.1 hxr
  have : signs.find? (fun x => x.isPrefixOf (r.take m ++ v)) = some x := by
   refine List.find?_eq_some_iff_append.2 ⟨?_, l1, l2, hl, fun a ha => ?_⟩
   ·refine List.isPrefixOf_iff_prefix.2 ?_
    refine List.IsPrefix.trans ?_ (List.prefix_append _ _)
    rw [hxt]
    refine ⟨(r.take m).drop x.length, ?_⟩
    have : r.take x.length = (r.take m).take x.length := by rw [List.take_take, Nat.min_eq_left hm]
    rw [this, List.take_append_drop]
   ·have := hno a ha
    cases hq : a.isPrefixOf (r.take m ++ v) with
    | false => rfl
    | true =>
     have h1 := sign_back (by rw [hl]; simp [ha]) hv (List.isPrefixOf_iff_prefix.1 hq)
     rw [List.isPrefixOf_iff_prefix.2 h1] at this
     cases this
  rw [this]
  rfl
theorem one_agree {d : Bool} {r v : List UInt8} {kind : Int} {k m : Nat} (h : one d r = .ok (kind, k)) (hk : k ≤ m) (hv : Bd v) : one d (r.take m ++ v) = .ok (kind, k) := by
 have hl := one_len _ _ _ _ h
 cases r with
 | nil => cases h
 | cons c t =>
  have ht : ∀ j, j ≤ k → ((c :: t).take m ++ v).take j = (c :: t).take j := fun j hj => take_agree v (by omega) (by omega)
  have tw : ∀ p : UInt8 → Bool, (∀ c, isBlank c = true → p c = false) → ((c :: t).takeWhile p).length ≤ m → ((c :: t).take m ++ v).takeWhile p = (c :: t).takeWhile p := fun p hp hm => tw_agree p hp hv _ _ hm
  have sg : signLen (c :: t) ≠ 0 → signLen (c :: t) ≤ m → signLen ((c :: t).take m ++ v) = signLen (c :: t) := fun h0 hm => sign_agree hv h0 hm
  obtain ⟨m', rfl⟩ : ∃ x, m = x + 1 := ⟨m - 1, by omega⟩
  rw [List.take_succ_cons, List.cons_append] at ht tw sg ⊢
  rw [one] at h ⊢
  split
  ·rename_i h1
   rw [if_pos h1] at h
   simp only at h ⊢
   split at h
   ·cases h
   ·rename_i h2
    obtain ⟨e1, e2⟩ := Prod.mk.inj (Except.ok.inj h)
    rw [tw isDescB (fun _ hb => blank_desc hb) (by omega), if_neg h2]
    exact h
  ·rename_i h1
   rw [if_neg h1] at h
   split
   ·rename_i h2
    rw [if_pos h2] at h
    simp only at h ⊢
    split at h
    ·cases h
    ·rename_i h3
     obtain ⟨e1, e2⟩ := Prod.mk.inj (Except.ok.inj h)
     rw [tw isWord (fun _ hb => blank_word hb) (by omega), if_neg h3, ht _ (by omega)]
     exact h
   ·rename_i h2
    rw [if_neg h2] at h
    split
    ·rename_i h3
     rw [if_pos h3] at h
     simp only at h ⊢
     split at h
     ·cases h
     ·rename_i h4
      obtain ⟨e1, e2⟩ := Prod.mk.inj (Except.ok.inj h)
      rw [tw isWord (fun _ hb => blank_word hb) (by omega), ht _ (by omega), if_neg h4]
      exact h
    ·rename_i h3
     rw [if_neg h3] at h
     have httail : ∀ j, j + 1 ≤ k → (t.take m' ++ v).take j = t.take j := fun j hj => by
      have := ht (j + 1) hj
      simp only [List.take_succ_cons, List.cons.injEq, true_and] at this
      exact this
     split
     ·rename_i h4
      rw [if_pos h4] at h
      cases hc : char t with
      | none => rw [hc] at h; cases h
      | some p =>
       obtain ⟨x, j⟩ := p
       rw [hc] at h
       simp only at h
       split at h
       ·cases h
       ·rename_i h5
        obtain ⟨e1, e2⟩ := Prod.mk.inj (Except.ok.inj h)
        rw [char_agree hc (httail j (by omega))]
        simp only
        have hj := char_len _ _ _ hc
        have g1 : (t.take m' ++ v).head? = t.head? := by
         have := httail 1 (by omega)
         have h' := congrArg List.head? this
         rw [List.head?_take, List.head?_take] at h'
         simpa using h'
        have g2 : ((t.take m' ++ v).drop j).head? = (t.drop j).head? := by
         have := congrArg (List.drop j) (httail (j + 1) (by omega))
         have h' := congrArg List.head? this
         rw [List.drop_take, List.drop_take, List.head?_take, List.head?_take] at h'
         simpa using h'
        rw [g1, g2, if_neg h5]
        exact h
     ·rename_i h4
      rw [if_neg h4] at h
      split
      ·rename_i h5
       rw [if_pos h5] at h
       cases hc : strF (t.length + 1) t with
       | none => rw [hc] at h; cases h
       | some p =>
        obtain ⟨x, j⟩ := p
        rw [hc] at h
        simp only at h
        obtain ⟨e1, e2⟩ := Prod.mk.inj (Except.ok.inj h)
        have hj := strF_len _ _ _ _ hc
        have hlen : j ≤ (t.take m' ++ v).length := by rw [List.length_append, List.length_take]; omega
        rw [strF_agree _ hc (httail j (by omega)) _ (by omega)]
        exact h
      ·rename_i h5
       rw [if_neg h5] at h
       split at h
       ·cases h
       ·rename_i h6
        obtain ⟨e1, e2⟩ := Prod.mk.inj (Except.ok.inj h)
        rw [sg h6 (by omega), if_neg h6]
        exact h
end Go.Proofs.Lx
set_option linter.unusedVariables false
set_option linter.unusedSimpArgs false
namespace Go.Proofs.Lx
open Go.Proofs.YtadgddipkbdnbaaGreatDoor
inductive Skips : List UInt8 → List UInt8 → Prop
 | nil : Skips [] []
 | stop (c : UInt8) (t : List UInt8) (h : isBlank c = false) (h1 : (c :: t).take 2 ≠ [47, 47]) (h2 : (c :: t).take 2 ≠ [47, 42]) : Skips (c :: t) (c :: t)
 | blank (c : UInt8) (t x : List UInt8) (h : isBlank c = true) (hs : Skips t x) : Skips (c :: t) x
 | line (t x : List UInt8) (hs : Skips (t.dropWhile (· != 10)) x) : Skips (47 :: 47 :: t) x
 | block (t u x : List UInt8) (hc : closed t = some u) (hs : Skips u x) : Skips (47 :: 42 :: t) x
theorem skip_bl (c : UInt8) (t : List UInt8) (h : isBlank c = true) : skip (c :: t) = skip t := by
 rw [skip_eq, skip_eq, List.dropWhile_cons, if_pos h]
theorem skip_li (t : List UInt8) : skip (47 :: 47 :: t) = skip (t.dropWhile (· != 10)) := by
 rw [skip_eq, List.dropWhile_cons, if_neg (by decide)]
 rfl
theorem skip_bo (t : List UInt8) : skip (47 :: 42 :: t) = match closed t with | none => .error (47 :: 42 :: t) | some u => skip u := by
 rw [skip_eq, List.dropWhile_cons, if_neg (by decide)]
 rfl
theorem skip_st (c : UInt8) (t : List UInt8) (h : isBlank c = false) (h1 : (c :: t).take 2 ≠ [47, 47]) (h2 : (c :: t).take 2 ≠ [47, 42]) : skip (c :: t) = .ok (c :: t) := by
 rw [skip_eq, List.dropWhile_cons, if_neg (by rw [h]; decide)]
 split
 ·rename_i e; rw [e] at h1; exact absurd rfl h1
 ·rename_i e; rw [e] at h2; exact absurd rfl h2
 ·rfl
theorem skip_of {r x : List UInt8} (h : Skips r x) : skip r = .ok x := by
 induction h with
 | nil => rfl
 | stop c t h h1 h2 => exact skip_st c t h h1 h2
 | blank c t x h hs ih => rw [skip_bl c t h, ih]
 | line t x hs ih => rw [skip_li, ih]
 | block t u x hc hs ih => rw [skip_bo, hc]; exact ih
theorem skips_of : ∀ (n : Nat) {r x : List UInt8}, r.length = n → skip r = .ok x → Skips r x := by
 intro n
 induction n using Nat.strongRecOn with
 | _ n ih =>
  intro r x hn h
  cases r with
  | nil => cases h; exact .nil
  | cons c t =>
   by_cases hb : isBlank c = true
   ·rw [skip_bl c t hb] at h
    exact .blank c t x hb (ih t.length (by rw [← hn]; simp) rfl h)
   ·have hb' : isBlank c = false := by simpa using hb
    by_cases h1 : (c :: t).take 2 = [47, 47]
    ·match t with
     | [] => cases h1
     | d :: t =>
      simp only [List.take_succ_cons, List.take_zero, List.cons.injEq, and_true] at h1
      obtain ⟨rfl, rfl⟩ := h1
      rw [skip_li] at h
      have := dropWhile_len (· != 10) t
      exact .line t x (ih _ (by rw [← hn]; simp only [List.length_cons]; omega) rfl h)
    ·by_cases h2 : (c :: t).take 2 = [47, 42]
     ·match t with
      | [] => cases h2
      | d :: t =>
       simp only [List.take_succ_cons, List.take_zero, List.cons.injEq, and_true] at h2
       obtain ⟨rfl, rfl⟩ := h2
       rw [skip_bo] at h
       cases hc : closed t with
       | none => rw [hc] at h; cases h
       | some u =>
        rw [hc] at h
        have := closed_len t u hc
        exact .block t u x hc (ih _ (by rw [← hn]; simp only [List.length_cons]; omega) rfl h)
     ·rw [skip_st c t hb' h1 h2] at h
      cases h
      exact .stop c t hb' h1 h2
theorem skips_iff {r x : List UInt8} : Skips r x ↔ skip r = .ok x := ⟨skip_of, fun h => skips_of _ rfl h⟩
theorem dw_append {p : UInt8 → Bool} {v : List UInt8} : ∀ {l : List UInt8}, l.dropWhile p ≠ [] → (l ++ v).dropWhile p = l.dropWhile p ++ v
 | [], h => absurd rfl h
 | c :: l, h => by
  rw [List.cons_append, List.dropWhile_cons, List.dropWhile_cons]
  split
  ·rename_i hc; rw [List.dropWhile_cons, if_pos hc] at h; exact dw_append h
  ·rfl
theorem closed_append (v : List UInt8) : ∀ (t u : List UInt8), closed t = some u → closed (t ++ v) = some (u ++ v)
 | [], u, h => by cases h
 | [_], u, h => by cases h
 | a :: b :: r, u, h => by
  rw [closed] at h
  show closed (a :: b :: (r ++ v)) = _
  rw [closed]
  split
  ·rename_i hc; rw [if_pos hc] at h; cases h; rfl
  ·rename_i hc; rw [if_neg hc] at h; exact closed_append v (b :: r) u h
theorem skips_app {r x : List UInt8} (h : Skips r x) (hx : x ≠ []) {v : List UInt8} (hv : Bd v) : Skips (r ++ v) (x ++ v) := by
 induction h with
 | nil => exact absurd rfl hx
 | stop c t h h1 h2 =>
  have tk : (c :: t ++ v).take 2 = (c :: t).take 2 ∨ ∃ b, (c :: t ++ v).take 2 = [c, b] ∧ isBlank b = true := by
   cases t with
   | cons d t => exact .inl rfl
   | nil =>
    rcases hv with hv | ⟨b, u, hv, hb⟩
    ·exact .inl (by rw [hv]; rfl)
    ·exact .inr ⟨b, by rw [hv]; rfl, hb⟩
  refine .stop c (t ++ v) h ?_ ?_
  ·rcases tk with tk | ⟨b, tk, hb⟩
   ·rw [← List.cons_append, tk]; exact h1
   ·rw [← List.cons_append, tk]
    intro e
    simp only [List.cons.injEq, and_true] at e
    rw [e.2] at hb; revert hb; decide
  ·rcases tk with tk | ⟨b, tk, hb⟩
   ·rw [← List.cons_append, tk]; exact h2
   ·rw [← List.cons_append, tk]
    intro e
    simp only [List.cons.injEq, and_true] at e
    rw [e.2] at hb; revert hb; decide
 | blank c t x h hs ih => exact .blank c (t ++ v) _ h (ih hx)
 | line t x hs ih =>
  refine .line (t ++ v) _ ?_
  have hne : t.dropWhile (· != 10) ≠ [] := by
   intro e
   rw [e] at hs
   cases hs
   exact hx rfl
  rw [dw_append hne]
  exact ih hx
 | block t u x hc hs ih => exact .block (t ++ v) (u ++ v) _ (closed_append v t u hc) (ih hx)
theorem skips_len {r x : List UInt8} (h : Skips r x) : x.length ≤ r.length := by
 obtain ⟨i, hi, -⟩ := skip_ok_suffix (skip_of h)
 rw [hi, List.length_drop]; omega
abbrev K := Int × List UInt8
def ktM (t : Tok) : K := (t.kind, t.text)
def opK : List K → Bool
 | [] => false
 | t :: l => (t.1 == 2 && t.2 == probeW) || (t.1 == 5 && t.2 == [44] && match l with | [] => false | u :: _ => u.1 == 6)
theorem opK_eq (pre : List Tok) : opens pre = opK (pre.map ktM) := by
 match pre with
 | [] => rfl
 | [_] => rfl
 | _ :: _ :: _ => rfl
inductive LexTo : List K → List UInt8 → List K → List UInt8 → Prop
 | nil (p : List K) (r : List UInt8) : LexTo p r [] r
 | cons (p : List K) (r : List UInt8) (c : UInt8) (t : List UInt8) (kind : Int) (k : Nat) (ts : List K) (f : List UInt8) (hs : Skips r (c :: t)) (ho : one (opK p) (c :: t) = .ok (kind, k))
   (hr : LexTo ((kind, (c :: t).take k) :: p) ((c :: t).drop k) ts f) : LexTo p r ((kind, (c :: t).take k) :: ts) f
theorem LexTo.len {p ts : List K} {r f : List UInt8} (h : LexTo p r ts f) : f.length + ts.length ≤ r.length := by
 induction h with
 | nil => simp
 | cons p r c t kind k ts f hs ho hr ih =>
  have h1 := skips_len hs
  have h2 := one_len _ _ _ _ ho
  rw [List.length_drop] at ih
  simp only [List.length_cons] at ih h1 h2 ⊢
  omega
theorem scan_lex : ∀ (n : Nat) {len : Nat} {pre : List Tok} {r : List UInt8} {l : List Tok}, r.length < n → scanF len n pre r = .ok l → ∃ ts f, l.map ktM = (pre.map ktM).reverse ++ ts ∧ LexTo (pre.map ktM) r ts f ∧ Skips f [] ∧ (pre.length ≤ 4000 → l.length ≤ 4000)
 | 0, _, _, _, _, hn, _ => absurd hn (by omega)
 | n + 1, len, pre, r, l, hn, h => by
  rw [scanF] at h
  cases hs : skip r with
  | error c => rw [hs] at h; cases h
  | ok r' =>
   rw [hs] at h
   have hsk := skips_iff.2 hs
   have hl := skips_len hsk
   cases r' with
   | nil =>
    cases h
    exact ⟨[], r, by simp, .nil _ _, hsk, fun h => by rw [List.length_reverse]; exact h⟩
   | cons c t =>
    simp only at h
    cases ho : one (opens pre) (c :: t) with
    | error e' => rw [ho] at h; cases h
    | ok p =>
     obtain ⟨kind, k⟩ := p
     rw [ho] at h
     simp only at h
     have hk := one_len _ _ _ _ ho
     split at h
     ·cases h
     ·rename_i h4
      obtain ⟨ts, f, e1, e2, e3, e4⟩ := scan_lex n (by rw [List.length_drop]; omega) h
      rw [opK_eq] at ho
      refine ⟨(kind, (c :: t).take k) :: ts, f, ?_, .cons _ _ c t kind k ts f hsk ho e2, e3, fun h5 => e4 (by simp only [List.length_cons]; omega)⟩
      rw [e1]
      simp [ktM]
theorem lex_scan {p : List K} {r : List UInt8} {ts : List K} {f : List UInt8} (h : LexTo p r ts f) (hf : Skips f []) : ∀ (n len : Nat) (pre : List Tok), pre.map ktM = p → r.length < n → pre.length + ts.length ≤ 4000 → ∃ l, scanF len n pre r = .ok l ∧ l.map ktM = p.reverse ++ ts := by
 induction h with
 | nil p r =>
  intro n len pre hp hn h4
  obtain ⟨n, rfl⟩ : ∃ x, n = x + 1 := ⟨n - 1, by omega⟩
  rw [scanF, skip_of hf]
  exact ⟨pre.reverse, rfl, by rw [← hp]; simp⟩
 | cons p r c t kind k ts f hs ho hr ih =>
  intro n len pre hp hn h4
  obtain ⟨n, rfl⟩ : ∃ x, n = x + 1 := ⟨n - 1, by omega⟩
  have hl := skips_len hs
  have hk := one_len _ _ _ _ ho
  rw [← hp, ← opK_eq] at ho
  simp only [List.length_cons] at h4
  obtain ⟨l, h1, h2⟩ := ih hf n len (⟨kind, (c :: t).take k, len - (c :: t).length⟩ :: pre) (by rw [List.map_cons, hp]; rfl) (by rw [List.length_drop]; omega) (by simp only [List.length_cons]; omega)
  refine ⟨l, ?_, by rw [h2]; simp⟩
  rw [scanF, skip_of hs]
  simp only [ho]
  rw [if_neg (by omega)]
  exact h1
theorem scan_to {t : List UInt8} (h : (scan t).2.2 = 0) : t.length ≤ 20000 ∧ (scan t).1.length ≤ 4000 ∧ ∃ f, LexTo [] t ((scan t).1.map ktM) f ∧ Skips f [] := by
 obtain ⟨h1, h2, -⟩ := scan_ok h
 obtain ⟨ts, f, e1, e2, e3, e4⟩ := scan_lex _ (Nat.lt_succ_self _) h2
 simp only [List.map_nil, List.reverse_nil, List.nil_append] at e1
 exact ⟨h1, e4 (by simp), f, by rw [e1]; exact e2, e3⟩
theorem to_scan {t : List UInt8} {ts : List K} {f : List UInt8} (h1 : t.length ≤ 20000) (h2 : ts.length ≤ 4000) (h : LexTo [] t ts f) (hf : Skips f []) : (scan t).2.2 = 0 ∧ (scan t).1.map ktM = ts := by
 obtain ⟨l, e1, e2⟩ := lex_scan h hf (t.length + 1) t.length [] rfl (by omega) (by simpa using h2)
 rw [scan_of_ok h1 e1]
 exact ⟨rfl, by rw [e2]; rfl⟩
theorem LexTo.ext {p : List K} {r : List UInt8} {ts : List K} {f : List UInt8} (h : LexTo p r ts f) {v : List UInt8} (hv : Bd v) : LexTo p (r ++ v) ts (f ++ v) := by
 induction h with
 | nil p r => exact .nil _ _
 | cons p r c t kind k ts f hs ho hr ih =>
  have hk := one_len _ _ _ _ ho
  have h1 := skips_app hs (by simp) hv
  have h2 := one_agree (m := (c :: t).length) ho hk.2 hv
  rw [List.take_length] at h2
  have e1 : (c :: (t ++ v)).take k = (c :: t).take k := by rw [← List.cons_append, List.take_append_of_le_length hk.2]
  have e2 : (c :: (t ++ v)).drop k = (c :: t).drop k ++ v := by rw [← List.cons_append, List.drop_append_of_le_length hk.2]
  have := LexTo.cons p (r ++ v) c (t ++ v) kind k ts (f ++ v) h1 h2 (by rw [e1, e2]; exact ih)
  rw [e1] at this
  exact this
theorem LexTo.trans {p : List K} {r : List UInt8} {ts : List K} {f : List UInt8} (h : LexTo p r ts f) : ∀ {us : List K} {g : List UInt8}, LexTo (ts.reverse ++ p) f us g → LexTo p r (ts ++ us) g := by
 induction h with
 | nil p r => intro us g h2; exact h2
 | cons p r c t kind k ts f hs ho hr ih =>
  intro us g h2
  exact .cons _ r c t kind k _ _ hs ho (ih (by simpa using h2))
theorem LexTo.blank {p : List K} {c : UInt8} {r : List UInt8} {ts : List K} {f : List UInt8} (hb : isBlank c = true) (h : LexTo p r ts f) : ∃ g, LexTo p (c :: r) ts g ∧ (Skips f [] → Skips g []) ∧ (ts ≠ [] → g = f) := by
 cases h with
 | nil => exact ⟨c :: r, .nil _ _, fun h => .blank c r [] hb h, fun h => absurd rfl h⟩
 | cons _ _ d t kind k ts f hs ho hr => exact ⟨f, .cons p (c :: r) d t kind k ts f (.blank c r _ hb hs) ho hr, id, fun _ => rfl⟩
end Go.Proofs.Lx
set_option linter.unusedVariables false
set_option linter.unusedSimpArgs false
namespace Go.Proofs.Lx
open Go.Proofs.YtadgddipkbdnbaaGreatDoor
def Tokk (d : Bool) (x : K) : Prop := one d x.2 = .ok (x.1, x.2.length) ∧ x.2 ≠ [] ∧ Skips x.2 x.2
theorem skips_stop {r x : List UInt8} (h : Skips r x) : x = [] ∨ ∃ c t, x = c :: t ∧ isBlank c = false ∧ (c :: t).take 2 ≠ [47, 47] ∧ (c :: t).take 2 ≠ [47, 42] := by
 induction h with
 | nil => exact .inl rfl
 | stop c t h h1 h2 => exact .inr ⟨c, t, rfl, h, h1, h2⟩
 | blank c t x h hs ih => exact ih
 | line t x hs ih => exact ih
 | block t u x hc hs ih => exact ih
theorem tokk_of {p : List K} {r : List UInt8} {c : UInt8} {t : List UInt8} {kind : Int} {k : Nat} (hs : Skips r (c :: t)) (ho : one (opK p) (c :: t) = .ok (kind, k)) : Tokk (opK p) (kind, (c :: t).take k) := by
 have hk := one_len _ _ _ _ ho
 have h1 := one_agree (m := k) (v := []) ho (Nat.le_refl _) (.inl rfl)
 rw [List.append_nil] at h1
 have hl : ((c :: t).take k).length = k := by rw [List.length_take]; omega
 obtain ⟨k', rfl⟩ : ∃ x, k = x + 1 := ⟨k - 1, by omega⟩
 refine ⟨by rw [hl]; exact h1, by rw [List.take_succ_cons]; simp, ?_⟩
 rcases skips_stop hs with h | ⟨c', t', e, h2, h3, h4⟩
 ·cases h
 ·cases e
  have e2 : ∀ b : UInt8, (c :: t).take 2 ≠ [47, b] → (c :: t.take k').take 2 ≠ [47, b] := by
   intro b hb e
   cases k' with
   | zero => simp at e
   | succ k' =>
    apply hb
    rw [← e]
    cases t <;> simp
  rw [List.take_succ_cons]
  exact .stop c _ h2 (e2 47 h3) (e2 42 h4)
theorem LexTo.texts {p : List K} {r : List UInt8} {ts : List K} {f : List UInt8} (h : LexTo p r ts f) : f.length + (ts.map fun x => x.2.length).sum ≤ r.length := by
 induction h with
 | nil => simp
 | cons p r c t kind k ts f hs ho hr ih =>
  have h1 := skips_len hs
  have h2 := one_len _ _ _ _ ho
  rw [List.length_drop] at ih
  rw [List.map_cons, List.sum_cons, List.length_take]
  omega
theorem LexTo.one {p : List K} {x : K} (h : Tokk (opK p) x) {v : List UInt8} (hv : Bd v) : LexTo p (x.2 ++ v) [x] v := by
 obtain ⟨h1, h2, h3⟩ := h
 obtain ⟨kind, text⟩ := x
 simp only at h1 h2 h3
 cases text with
 | nil => exact absurd rfl h2
 | cons c t =>
  have h4 := one_agree (m := (c :: t).length) h1 (Nat.le_refl _) hv
  rw [List.take_length] at h4
  have e1 : (c :: (t ++ v)).take (c :: t).length = c :: t := by
   rw [← List.cons_append, List.take_append_of_le_length (Nat.le_refl _), List.take_length]
  have e2 : (c :: (t ++ v)).drop (c :: t).length = v := by
   rw [← List.cons_append, List.drop_append_of_le_length (Nat.le_refl _), List.drop_length, List.nil_append]
  have := LexTo.cons p (c :: t ++ v) c (t ++ v) kind (c :: t).length [] v (skips_app h3 (by simp) hv) h4 (by rw [e2]; exact .nil _ _)
  rw [e1] at this
  exact this
end Go.Proofs.Lx
set_option linter.unusedVariables false
set_option linter.unusedSimpArgs false
namespace Go.Proofs.Lx
open Go.Proofs.YtadgddipkbdnbaaGreatDoor
def Toks : List K → List K → Prop
 | _, [] => True
 | p, x :: ts => Tokk (opK p) x ∧ Toks (x :: p) ts
theorem LexTo.chain {p : List K} {r : List UInt8} {ts : List K} {f : List UInt8} (h : LexTo p r ts f) : Toks p ts := by
 induction h with
 | nil => trivial
 | cons p r c t kind k ts f hs ho hr ih => exact ⟨tokk_of hs ho, ih⟩
def joinK : List K → List UInt8
 | [] => []
 | [x] => x.2
 | x :: y :: ts => x.2 ++ 32 :: joinK (y :: ts)
theorem join_lex : ∀ {ts : List K} {p : List K}, Toks p ts → ts ≠ [] → LexTo p (joinK ts) ts []
 | [], _, _, h => absurd rfl h
 | [x], p, h, _ => by
  have := LexTo.one h.1 (v := []) (.inl rfl)
  rw [List.append_nil] at this
  exact this
 | x :: y :: ts, p, h, _ => by
  have h1 := LexTo.one h.1 (v := 32 :: joinK (y :: ts)) (.inr ⟨32, _, rfl, by decide⟩)
  have h2 := join_lex h.2 (by simp)
  obtain ⟨g, h3, -, h5⟩ := LexTo.blank (c := 32) (by decide) h2
  rw [h5 (by simp)] at h3
  exact h1.trans (us := y :: ts) h3
def ns (l : List UInt8) : Nat := l.countP (· != 32)
def nsK (ts : List K) : Nat := (ts.map fun x => ns x.2).sum
theorem ns_append (a b : List UInt8) : ns (a ++ b) = ns a + ns b := List.countP_append
theorem ns_zero {l : List UInt8} (h : ns l = 0) : ∀ c ∈ l, c = 32 := by
 intro c hc
 have := List.countP_eq_zero.1 h c hc
 simpa using this
theorem ns_suffix {r x : List UInt8} {i : Nat} (h : x = r.drop i) : ns x ≤ ns r := by
 have := ns_append (r.take i) (r.drop i)
 rw [List.take_append_drop, ← h] at this
 omega
theorem LexTo.ns {p : List K} {r : List UInt8} {ts : List K} {f : List UInt8} (h : LexTo p r ts f) : ns f + nsK ts ≤ Lx.ns r := by
 induction h with
 | nil => simp [nsK]
 | cons p r c t kind k ts f hs ho hr ih =>
  obtain ⟨i, hi, -⟩ := skip_ok_suffix (skip_of hs)
  have h1 := ns_suffix hi
  have h2 := ns_append ((c :: t).take k) ((c :: t).drop k)
  rw [List.take_append_drop] at h2
  have h3 : nsK ((kind, (c :: t).take k) :: ts) = Lx.ns ((c :: t).take k) + nsK ts := by simp [nsK]
  omega
theorem LexTo.blanks {p : List K} {ts : List K} {f : List UInt8} (hne : ts ≠ []) : ∀ {b r : List UInt8}, (∀ c ∈ b, c = 32) → LexTo p r ts f → LexTo p (b ++ r) ts f
 | [], r, _, h => h
 | c :: b, r, hb, h => by
  have h1 := LexTo.blanks hne (b := b) (fun c' hc => hb c' (by simp [hc])) h
  obtain ⟨g, h3, -, h5⟩ := LexTo.blank (c := c) (by rw [hb c (by simp)]; decide) h1
  rw [h5 hne] at h3
  exact h3
theorem skips_spaces : ∀ {b : List UInt8}, (∀ c ∈ b, c = 32) → Skips b []
 | [], _ => .nil
 | c :: b, hb => .blank c b [] (by rw [hb c (by simp)]; decide) (skips_spaces fun c' hc => hb c' (by simp [hc]))
def givesM (t : List UInt8) (ts : List K) : Bool := decide ((scan t).2.2 = 0 ∧ (scan t).1.map ktM = ts)
def Wr (done : List K) (out : List UInt8) : Prop := ns out = nsK done ∧ ∃ f, LexTo [] out done f
theorem Wr.spaces {done : List K} {out f : List UInt8} (h : ns out = nsK done) (hl : LexTo [] out done f) : ∀ c ∈ f, c = 32 := by
 have := hl.ns
 exact ns_zero (by omega)
theorem Wr.gives {done : List K} {out : List UInt8} (h : Wr done out) (h1 : out.length ≤ 20000) (h2 : done.length ≤ 4000) : (scan out).2.2 = 0 ∧ (scan out).1.map ktM = done := by
 obtain ⟨hn, f, hl⟩ := h
 exact to_scan h1 h2 hl (skips_spaces (Wr.spaces hn hl))
theorem nsK_snoc (done : List K) (x : K) : nsK (done ++ [x]) = nsK done + ns x.2 := by simp [nsK]
theorem Wr.direct {done : List K} {out : List UInt8} {x : K} (h : Wr done out) (hg : givesM (out ++ x.2) (done ++ [x]) = true) : Wr (done ++ [x]) (out ++ x.2) := by
 obtain ⟨hn, -⟩ := h
 obtain ⟨g1, g2⟩ := of_decide_eq_true hg
 obtain ⟨-, -, f, h3, h4⟩ := scan_to g1
 rw [g2] at h3
 exact ⟨by rw [ns_append, nsK_snoc, hn], f, h3⟩
theorem Wr.spaced {done : List K} {out : List UInt8} {x : K} (h : Wr done out) (hx : Tokk (opK (done.reverse)) x) : Wr (done ++ [x]) (out ++ 32 :: x.2) := by
 obtain ⟨hn, f, hl⟩ := h
 refine ⟨?_, [], ?_⟩
 ·rw [ns_append, nsK_snoc, hn]; simp [Lx.ns]
 ·have h1 := hl.ext (v := 32 :: x.2) (.inr ⟨32, _, rfl, by decide⟩)
  have h2 : LexTo (done.reverse ++ []) x.2 [x] [] := by
   have := LexTo.one (p := done.reverse) hx (v := []) (.inl rfl)
   rw [List.append_nil] at this
   rw [List.append_nil]
   exact this
  have h3 := LexTo.blanks (by simp) (b := f ++ [32]) (by
   intro c hc
   rcases List.mem_append.1 hc with hc | hc
   ·exact Wr.spaces hn hl c hc
   ·simpa using hc) h2
  rw [List.append_assoc, List.singleton_append] at h3
  exact h1.trans h3
def tightK : List K → List UInt8 → List K → List UInt8
 | _, out, [] => out
 | done, out, x :: ts => tightK (done ++ [x]) (if done ≠ [] ∧ givesM (out ++ x.2) (done ++ [x]) = false then out ++ 32 :: x.2 else out ++ x.2) ts
theorem tight_wr : ∀ {ts done : List K} {out : List UInt8}, Wr done out → (done = [] → out = []) → Toks done.reverse ts → Wr (done ++ ts) (tightK done out ts)
 | [], done, out, h, _, _ => by rw [List.append_nil]; exact h
 | x :: ts, done, out, h, h0, ht => by
  have e : done ++ x :: ts = done ++ [x] ++ ts := by simp
  rw [e, tightK]
  refine tight_wr ?_ (fun h => absurd h (by simp)) (by simpa using ht.2)
  split
  ·exact h.spaced ht.1
  ·rename_i hc
   by_cases hd : done = []
   ·subst hd
    rw [h0 rfl, List.nil_append]
    have := LexTo.one (p := []) ht.1 (v := []) (.inl rfl)
    rw [List.append_nil] at this
    exact ⟨by simp [nsK], [], this⟩
   ·refine h.direct ?_
    cases hg : givesM (out ++ x.2) (done ++ [x]) with
    | true => rfl
    | false => exact absurd ⟨hd, hg⟩ hc
theorem tight_len : ∀ {ts done : List K} {out : List UInt8}, (tightK done out ts).length ≤ out.length + (ts.map fun x => x.2.length + 1).sum
 | [], _, _ => by simp [tightK]
 | x :: ts, done, out => by
  rw [tightK]
  refine Nat.le_trans (tight_len (ts := ts)) ?_
  rw [List.map_cons, List.sum_cons]
  split
  ·rw [List.length_append, List.length_cons]; omega
  ·rw [List.length_append]; omega
theorem joinK_len : ∀ (ts : List K), (joinK ts).length ≤ (ts.map fun x => x.2.length + 1).sum
 | [] => by simp [joinK]
 | [x] => by simp [joinK]
 | x :: y :: ts => by
  have := joinK_len (y :: ts)
  rw [joinK, List.length_append, List.length_cons, List.map_cons, List.sum_cons]
  omega
theorem sum_succ (ts : List K) : (ts.map fun x => x.2.length + 1).sum = (ts.map fun x => x.2.length).sum + ts.length := by
 induction ts with
 | nil => rfl
 | cons x ts ih => simp only [List.map_cons, List.sum_cons, List.length_cons]; omega
theorem joinK_eq : ∀ (ts : List K), Lib.join (ts.map fun x => x.2) [32] = joinK ts
 | [] => rfl
 | [x] => by simp [joinK, Lib.join]
 | x :: y :: ts => by
  have := joinK_eq (y :: ts)
  rw [joinK, ← this]
  simp [Lib.join]
end Go.Proofs.Lx
set_option linter.unusedVariables false
set_option linter.unusedSimpArgs false
namespace Go.Proofs.Lx
open Go.Proofs.YtadgddipkbdnbaaGreatDoor
inductive LexAt (t : List UInt8) : List K → Nat → List Tok → Nat → Prop
 | nil (p : List K) (i : Nat) : LexAt t p i [] i
 | cons (p : List K) (i a k : Nat) (kind : Int) (ts : List Tok) (j : Nat) (hi : i ≤ a) (ha : a < t.length) (hs : Skips (t.drop i) (t.drop a)) (ho : one (opK p) (t.drop a) = .ok (kind, k))
   (hr : LexAt t ((kind, (t.drop a).take k) :: p) (a + k) ts j) : LexAt t p i (⟨kind, (t.drop a).take k, a⟩ :: ts) j
theorem skips_drop {r x : List UInt8} (h : Skips r x) : ∃ i, x = r.drop i ∧ i ≤ r.length := skip_ok_suffix (skip_of h)
theorem scan_at (t : List UInt8) : ∀ (n : Nat) {pre : List Tok} {i : Nat} {l : List Tok}, (t.drop i).length < n → i ≤ t.length → scanF t.length n pre (t.drop i) = .ok l → ∃ ts j, l = pre.reverse ++ ts ∧ LexAt t (pre.map ktM) i ts j ∧ Skips (t.drop j) [] ∧ j ≤ t.length
 | 0, _, _, _, hn, _, _ => absurd hn (by omega)
 | n + 1, pre, i, l, hn, hi, h => by
  rw [scanF] at h
  cases hs : skip (t.drop i) with
  | error c => rw [hs] at h; cases h
  | ok r' =>
   rw [hs] at h
   have hsk := skips_iff.2 hs
   have hl := skips_len hsk
   obtain ⟨d, hd, hdl⟩ := skips_drop hsk
   rw [List.drop_drop] at hd
   rw [List.length_drop] at hdl
   cases hr' : r' with
   | nil =>
    rw [hr'] at h hsk
    cases h
    exact ⟨[], i, by simp, .nil _ _, hsk, hi⟩
   | cons c u =>
    rw [hr'] at h
    simp only at h
    rw [← hr'] at h
    cases ho : one (opens pre) r' with
    | error e' => rw [ho] at h; cases h
    | ok p =>
     obtain ⟨kind, k⟩ := p
     rw [ho] at h
     simp only at h
     have hk := one_len _ _ _ _ ho
     have hlen : r'.length = t.length - (i + d) := by rw [hd, List.length_drop]
     have hpos : 0 < r'.length := by rw [hr']; simp
     split at h
     ·cases h
     ·have e1 : t.length - r'.length = i + d := by omega
      rw [e1, hd, List.drop_drop] at h
      obtain ⟨ts, j, e2, e3, e4, e5⟩ := scan_at t n (by rw [List.length_drop] at hn ⊢; omega) (by omega) h
      rw [hd, opK_eq] at ho
      rw [hd] at hsk
      refine ⟨⟨kind, (t.drop (i + d)).take k, i + d⟩ :: ts, j, ?_, .cons _ i (i + d) k kind ts j (by omega) (by omega) hsk ho e3, e4, e5⟩
      rw [e2]
      simp
theorem scan_ats {t : List UInt8} (h : (scan t).2.2 = 0) : ∃ j, LexAt t [] 0 (scan t).1 j ∧ Skips (t.drop j) [] ∧ j ≤ t.length := by
 obtain ⟨h1, h2, -⟩ := scan_ok h
 have h3 : scanF t.length (t.length + 1) [] (t.drop 0) = .ok (scan t).1 := h2
 obtain ⟨ts, j, e1, e2, e3, e4⟩ := scan_at t _ (by simp) (Nat.zero_le _) h3
 simp only [List.reverse_nil, List.nil_append] at e1
 rw [e1]
 exact ⟨j, e2, e3, e4⟩
theorem closed_split : ∀ {t u : List UInt8}, closed t = some u → ∃ w, t = w ++ u ∧ closed w = some []
 | [], _, h => by cases h
 | [_], _, h => by cases h
 | a :: b :: r, u, h => by
  rw [closed] at h
  split at h
  ·rename_i hc
   cases h
   obtain ⟨rfl, rfl⟩ := hc
   exact ⟨[42, 47], rfl, rfl⟩
  ·rename_i hc
   obtain ⟨w, h1, h2⟩ := closed_split h
   cases w with
   | nil => cases h2
   | cons b' w =>
    simp only [List.cons_append, List.cons.injEq] at h1
    obtain ⟨rfl, rfl⟩ := h1
    exact ⟨a :: b :: w, rfl, by rw [closed, if_neg hc]; exact h2⟩
theorem dw_split (t : List UInt8) : ∃ w, t = w ++ t.dropWhile (· != 10) ∧ (∀ c ∈ w, c ≠ 10) ∧ (t.dropWhile (· != 10) = [] ∨ ∃ u, t.dropWhile (· != 10) = 10 :: u) := by
 induction t with
 | nil => exact ⟨[], rfl, by simp, .inl rfl⟩
 | cons c t ih =>
  by_cases h : c = 10
  ·subst h
   exact ⟨[], by rw [List.dropWhile_cons, if_neg (by decide)]; rfl, by simp, .inr ⟨t, by rw [List.dropWhile_cons, if_neg (by decide)]⟩⟩
  ·obtain ⟨w, h1, h2, h3⟩ := ih
   refine ⟨c :: w, ?_, ?_, ?_⟩
   ·rw [List.dropWhile_cons, if_pos (by simpa using h), List.cons_append, ← h1]
   ·intro d hd
    rcases List.mem_cons.1 hd with e | e
    ·rw [e]; exact h
    ·exact h2 d e
   ·rw [List.dropWhile_cons, if_pos (by simpa using h)]
    exact h3
theorem skips_head {r x : List UInt8} (h : Skips r x) : ∀ {c u}, x = c :: u → isBlank c = false := by
 induction h with
 | nil => intro c u e; cases e
 | stop c t h h1 h2 => intro c' u e; cases e; exact h
 | blank c t x h hs ih => exact ih
 | line t x hs ih => exact ih
 | block t u x hc hs ih => exact ih
end Go.Proofs.Lx
set_option linter.unusedVariables false
set_option linter.unusedSimpArgs false
namespace Go.Proofs.Lx
open Go.Proofs.YtadgddipkbdnbaaGreatDoor
def flat : List Nat → List K → List UInt8
 | n :: ss, x :: ts => List.replicate n 32 ++ (x.2 ++ flat ss ts)
 | _, _ => []
def Solid (x : K) : Prop := ∃ c u, x.2 = c :: u ∧ c ≠ 32
theorem tokk_solid {d : Bool} {x : K} (h : Tokk d x) : Solid x := by
 obtain ⟨-, h2, h3⟩ := h
 rcases skips_stop h3 with h | ⟨c, t, e, hb, -, -⟩
 ·exact absurd h h2
 ·exact ⟨c, t, e, by intro h; rw [h] at hb; revert hb; decide⟩
theorem Toks.solid : ∀ {ts p : List K}, Toks p ts → ∀ x ∈ ts, Solid x
 | [], _, _, x, hx => by cases hx
 | y :: ts, p, h, x, hx => by
  rcases List.mem_cons.1 hx with e | e
  ·rw [e]; exact tokk_solid h.1
  ·exact Toks.solid h.2 x e
theorem rep_head : ∀ {n m : Nat} {c d : UInt8} {u v : List UInt8}, c ≠ 32 → d ≠ 32 → List.replicate n 32 ++ c :: u = List.replicate m 32 ++ d :: v → n = m ∧ c :: u = d :: v
 | 0, 0, c, d, u, v, _, _, h => ⟨rfl, h⟩
 | 0, m + 1, c, d, u, v, hc, _, h => by
  simp only [List.replicate_succ, List.replicate_zero, List.nil_append, List.cons_append, List.cons.injEq] at h
  exact absurd h.1 hc
 | n + 1, 0, c, d, u, v, _, hd, h => by
  simp only [List.replicate_succ, List.replicate_zero, List.nil_append, List.cons_append, List.cons.injEq] at h
  exact absurd h.1.symm hd
 | n + 1, m + 1, c, d, u, v, hc, hd, h => by
  simp only [List.replicate_succ, List.cons_append, List.cons.injEq, true_and] at h
  obtain ⟨e1, e2⟩ := rep_head hc hd h
  exact ⟨by omega, e2⟩
theorem flat_inj : ∀ {ts : List K} {ss ss' : List Nat} {e e' : List UInt8}, (∀ x ∈ ts, Solid x) → ss.length = ts.length → ss'.length = ts.length → flat ss ts ++ e = flat ss' ts ++ e' → ss = ss' ∧ e = e'
 | [], ss, ss', e, e', _, h1, h2, h => by
  obtain rfl : ss = [] := List.length_eq_zero_iff.1 h1
  obtain rfl : ss' = [] := List.length_eq_zero_iff.1 h2
  exact ⟨rfl, h⟩
 | x :: ts, [], _, _, _, _, h1, _, _ => by simp at h1
 | x :: ts, _ :: _, [], _, _, _, _, h2, _ => by simp at h2
 | x :: ts, n :: ss, m :: ss', e, e', hs, h1, h2, h => by
  obtain ⟨c, u, hx, hc⟩ := hs x (by simp)
  simp only [flat, hx, List.append_assoc, List.cons_append] at h
  obtain ⟨rfl, h3⟩ := rep_head hc hc h
  simp only [List.cons.injEq, true_and] at h3
  obtain ⟨rfl, h4⟩ := flat_inj (ts := ts) (fun y hy => hs y (by simp [hy])) (by simpa using h1) (by simpa using h2) (List.append_cancel_left h3)
  exact ⟨rfl, h4⟩
theorem flat_append : ∀ {ts us : List K} {ss ss' : List Nat}, ss.length = ts.length → flat (ss ++ ss') (ts ++ us) = flat ss ts ++ flat ss' us
 | [], us, ss, ss', h => by
  obtain rfl : ss = [] := List.length_eq_zero_iff.1 h
  rfl
 | x :: ts, us, [], ss', h => by simp at h
 | x :: ts, us, n :: ss, ss', h => by
  simp only [List.cons_append, flat, List.append_assoc]
  rw [flat_append (by simpa using h)]
theorem LexTo.flat {p : List K} {r : List UInt8} {ts : List K} {f : List UInt8} (h : LexTo p r ts f) (hn : Lx.ns r = nsK ts) : ∃ ss, ss.length = ts.length ∧ r = Lx.flat ss ts ++ f := by
 induction h with
 | nil p r => exact ⟨[], rfl, rfl⟩
 | cons p r c t kind k ts f hs ho hr ih =>
  obtain ⟨i, hi, hil⟩ := skips_drop hs
  have h2 := ns_append ((c :: t).take k) ((c :: t).drop k)
  rw [List.take_append_drop] at h2
  have h3 : nsK ((kind, (c :: t).take k) :: ts) = Lx.ns ((c :: t).take k) + nsK ts := by simp [nsK]
  have h4 := ns_append (r.take i) (r.drop i)
  rw [List.take_append_drop, ← hi] at h4
  have h5 := hr.ns
  have h6 := ns_zero (l := r.take i) (by omega)
  obtain ⟨ss, e1, e2⟩ := ih (by omega)
  refine ⟨(r.take i).length :: ss, by simpa using e1, ?_⟩
  have h7 : r.take i = List.replicate (r.take i).length 32 := List.eq_replicate_iff.2 ⟨rfl, h6⟩
  rw [Lx.flat, ← h7, List.append_assoc, List.append_assoc, ← e2, List.take_append_drop, hi, List.take_append_drop]
theorem ns_rep (n : Nat) : ns (List.replicate n 32) = 0 := by
 unfold ns
 rw [List.countP_eq_zero]
 intro c hc
 rw [(List.mem_replicate.1 hc).2]; decide
theorem flat_ns : ∀ {ts : List K} {ss : List Nat}, ss.length = ts.length → ns (Lx.flat ss ts) = nsK ts
 | [], ss, h => by
  obtain rfl : ss = [] := List.length_eq_zero_iff.1 h
  rfl
 | x :: ts, [], h => by simp at h
 | x :: ts, n :: ss, h => by
  rw [Lx.flat, ns_append, ns_append, ns_rep, flat_ns (by simpa using h)]
  simp [nsK]
theorem skips_ns {r x : List UInt8} (h : Skips r x) : ns x ≤ ns r := by
 obtain ⟨i, hi, -⟩ := skips_drop h
 exact ns_suffix hi
theorem ns_dw (t : List UInt8) : ns (t.dropWhile (· != 10)) ≤ ns t := by
 obtain ⟨w, h, -⟩ := dw_split t
 have := ns_append w (t.dropWhile (· != 10))
 rw [← h] at this
 omega
theorem ns_closed {t u : List UInt8} (h : closed t = some u) : ns u ≤ ns t := by
 obtain ⟨w, h, -⟩ := closed_split h
 have := ns_append w u
 rw [← h] at this
 omega
theorem lex_take : ∀ {ts : List K} {p : List K} {ss : List Nat} {f : List UInt8}, LexTo p (Lx.flat ss ts ++ f) ts f → ss.length = ts.length → ns f = 0 → ∀ n, LexTo p (Lx.flat (ss.take n) (ts.take n)) (ts.take n) []
 | [], p, ss, f, h, hl, _, n => by
  obtain rfl : ss = [] := List.length_eq_zero_iff.1 hl
  simp only [List.take_nil, Lx.flat]
  exact .nil _ _
 | x :: ts, p, [], f, h, hl, _, n => by simp at hl
 | x :: ts, p, m :: ss, f, h, hl, hf, 0 => by
  simp only [List.take_zero, Lx.flat]
  exact .nil _ _
 | x :: ts, p, m :: ss, f, h, hl, hf, n + 1 => by
  have hch := h.chain
  have hsol := hch.solid
  obtain ⟨c0, u0, hx0, hc0⟩ := hsol x (by simp)
  simp only [List.take_succ_cons, Lx.flat]
  generalize hr : Lx.flat (m :: ss) (x :: ts) ++ f = r at h
  cases h with
  | cons _ _ c t kind k _ _ hs ho hr2 =>
   have hb : ∀ c ∈ List.replicate m (32 : UInt8), isBlank c = true := by
    intro c hc
    rw [(List.mem_replicate.1 hc).2]; decide
   have hsk : ∀ {b : List UInt8} {y z : List UInt8}, (∀ c ∈ b, isBlank c = true) → Skips (b ++ y) z → Skips y z := by
    intro b
    induction b with
    | nil => intro y z _ h; exact h
    | cons d b ih =>
     intro y z hb h
     have hd := hb d (by simp)
     rw [skips_iff, List.cons_append, skip_bl _ _ hd] at h
     exact ih (fun c hc => hb c (by simp [hc])) (skips_iff.2 h)
   have hfirst : r = List.replicate m 32 ++ ((c :: t).take k ++ (Lx.flat ss ts ++ f)) := by
    rw [← hr]; simp only [Lx.flat, List.append_assoc]
   rw [hfirst] at hs
   have hs1 := hsk hb hs
   have hk := one_len _ _ _ _ ho
   obtain ⟨k', rfl⟩ : ∃ z, k = z + 1 := ⟨k - 1, by omega⟩
   have hstop : ∀ v, ns v = nsK ts → Skips ((c :: t).take (k' + 1) ++ v) (c :: t) → (c :: t).take (k' + 1) ++ v = c :: t := by
    intro v hnv hv
    have n1 := hr2.ns
    have n2 := ns_append ((c :: t).take (k' + 1)) ((c :: t).drop (k' + 1))
    rw [List.take_append_drop] at n2
    have n3 := ns_append ((c :: t).take (k' + 1)) v
    have hcb := skips_head hs rfl
    rw [List.take_succ_cons, List.cons_append] at hv n3 ⊢
    rw [List.take_succ_cons] at n2
    have hT := (tokk_of hs ho).2.2
    rw [List.take_succ_cons] at hT
    rcases skips_stop hv with h | ⟨c', t', e, -, h3, h4⟩
    ·cases h
    ·cases e
     have hlen := skips_len hv
     generalize hy : t.take k' ++ v = y at hv hlen n3 ⊢
     cases hv with
     | stop _ _ _ _ _ => rfl
     | blank _ _ _ h _ => rw [hcb] at h; cases h
     | line t2 _ hs2 =>
      exfalso
      have h5 := skips_ns hs2
      have h6 := ns_dw t2
      have h7 : ns (47 :: 47 :: t2) = ns t2 + 2 := by simp [ns]
      omega
     | block t2 u _ hc2 hs2 =>
      exfalso
      have h5 := skips_ns hs2
      have h6 := ns_closed hc2
      have h7 : ns (47 :: 42 :: t2) = ns t2 + 2 := by simp [ns]
      omega
   have heq := hstop _ (by rw [ns_append, flat_ns (by simpa using hl), hf, Nat.add_zero]) hs1
   have hrest : (c :: t).drop (k' + 1) = Lx.flat ss ts ++ f := by
    have := congrArg (List.drop (k' + 1)) heq
    rw [List.drop_append_of_le_length (by rw [List.length_take]; omega), List.drop_of_length_le (by rw [List.length_take]; omega), List.nil_append] at this
    exact this.symm
   rw [hrest] at hr2
   have ih := lex_take hr2 (by simpa using hl) hf n
   have hx : Tokk (opK p) (kind, (c :: t).take (k' + 1)) := tokk_of hs ho
   have h8 := one_agree (m := k' + 1 + (Lx.flat (ss.take n) (ts.take n)).length) (v := []) ho (by omega) (.inl rfl)
   have hpre : (c :: t).take (k' + 1 + (Lx.flat (ss.take n) (ts.take n)).length) = (c :: t).take (k' + 1) ++ Lx.flat (ss.take n) (ts.take n) := by
    rw [List.take_add, hrest]
    congr 1
    have h9 : Lx.flat ss ts = Lx.flat (ss.take n) (ts.take n) ++ Lx.flat (ss.drop n) (ts.drop n) := by
     have hle : ss.length = ts.length := by simpa using hl
     rw [← flat_append (by simp only [List.length_take]; omega), List.take_append_drop, List.take_append_drop]
    rw [h9, List.append_assoc, List.take_append_of_le_length (Nat.le_refl _), List.take_length]
   rw [List.append_nil, hpre] at h8
   have h10 : (c :: t).take (k' + 1) ++ Lx.flat (ss.take n) (ts.take n) = c :: (t.take k' ++ Lx.flat (ss.take n) (ts.take n)) := by rw [List.take_succ_cons, List.cons_append]
   have h11 : Skips (List.replicate m 32 ++ ((c :: t).take (k' + 1) ++ Lx.flat (ss.take n) (ts.take n))) (c :: (t.take k' ++ Lx.flat (ss.take n) (ts.take n))) := by
    rw [← h10]
    have hst : Skips ((c :: t).take (k' + 1) ++ Lx.flat (ss.take n) (ts.take n)) ((c :: t).take (k' + 1) ++ Lx.flat (ss.take n) (ts.take n)) := by
     rcases skips_stop hs with h | ⟨c', t', e, g2, g3, g4⟩
     ·cases h
     ·cases e
      have e2 : ∀ b : UInt8, (c :: t).take 2 ≠ [47, b] → ((c :: t).take (k' + 1 + (Lx.flat (ss.take n) (ts.take n)).length)).take 2 ≠ [47, b] := by
       intro b hb e
       apply hb
       rw [List.take_take] at e
       have hl2 := congrArg List.length e
       rw [List.length_take] at hl2
       simp only [List.length_cons, List.length_nil] at hl2
       have : min 2 (k' + 1 + (Lx.flat (ss.take n) (ts.take n)).length) = 2 := by omega
       rw [this] at e
       exact e
      have e3 := e2 47 g3
      have e4 := e2 42 g4
      rw [hpre, h10] at e3 e4
      rw [h10]
      exact .stop c _ g2 e3 e4
    have : ∀ m, Skips (List.replicate m 32 ++ ((c :: t).take (k' + 1) ++ Lx.flat (ss.take n) (ts.take n))) ((c :: t).take (k' + 1) ++ Lx.flat (ss.take n) (ts.take n)) := by
     intro m
     induction m with
     | zero => exact hst
     | succ m ih2 => exact .blank 32 _ _ (by decide) ih2
    exact this m
   rw [h10] at h8
   have e5 : (c :: (t.take k' ++ Lx.flat (ss.take n) (ts.take n))).take (k' + 1) = (c :: t).take (k' + 1) := by
    rw [← h10, List.take_append_of_le_length (by rw [List.length_take]; omega), List.take_of_length_le (by rw [List.length_take]; omega)]
   have e6 : (c :: (t.take k' ++ Lx.flat (ss.take n) (ts.take n))).drop (k' + 1) = Lx.flat (ss.take n) (ts.take n) := by
    rw [← h10, List.drop_append_of_le_length (by rw [List.length_take]; omega), List.drop_of_length_le (by rw [List.length_take]; omega), List.nil_append]
   have := LexTo.cons p _ c (t.take k' ++ Lx.flat (ss.take n) (ts.take n)) kind (k' + 1) (ts.take n) [] h11 h8 (by rw [e5, e6]; exact ih)
   rw [e5] at this
   exact this
end Go.Proofs.Lx
set_option linter.unusedVariables false
set_option linter.unusedSimpArgs false
namespace Go.Proofs.YtadgddipkbdnbaaGreatDoor.Q
open Go.RowKit Go.Proofs.YtadgddipkbdnbaaGreatDoor YtadgddipkbdnbaaGreatDoorW.PrintWords YtadgddipkbdnbaaGreatDoorW.PrintLast
theorem wrapn {i : Int} (h0 : 0 ≤ i) (h : i < 9223372036854775808) : wrap64 i = i := by unfold wrap64; omega
theorem kt_tokS (l : List Lx.Tok) : (l.map tokS).map kt = l.map Lx.ktM := by rw [List.map_map]; rfl
theorem ba_len (s : ByteArray) : s.data.toList.length = s.size := by rw [Array.length_toList]; rfl
theorem strS_list (l : List UInt8) : (strS l).toList = l := by
 rw [ByteArray.toList_eq]; rfl
end Go.Proofs.YtadgddipkbdnbaaGreatDoor.Q
set_option linter.unusedVariables false
set_option linter.unusedSimpArgs false
namespace Go.Proofs.YtadgddipkbdnbaaGreatDoor.Q
open Go.RowKit Go.Proofs.YtadgddipkbdnbaaGreatDoor YtadgddipkbdnbaaGreatDoorW.PrintWords YtadgddipkbdnbaaGreatDoorW.PrintLast
theorem gives_f (t : ByteArray) (l : List S38) : lex_gives.f t l = some (Lx.givesM t.data.toList (l.map kt)) := by
 unfold lex_gives.f lex_Scan.f lex_Same.f Lx.givesM
 simp only [Option.bind_some]
 by_cases h : (Lx.scan t.data.toList).2.2 = 0
 ·rw [if_pos h, kt_tokS]
  by_cases h2 : (Lx.scan t.data.toList).1.map Lx.ktM = l.map kt
  ·rw [decide_eq_true h2, decide_eq_true ⟨h, h2⟩]
  ·rw [decide_eq_false h2, decide_eq_false (fun hh => h2 hh.2)]
 ·rw [if_neg h, decide_eq_false (fun hh => h hh.1)]
def lenS (l : List S38) : Nat := (l.map fun x => x.f1.size + 1).sum
theorem lenS_take (l : List S38) (i : Nat) (h : i < l.length) : lenS (l.take (i + 1)) = lenS (l.take i) + (l[i].f1.size + 1) := by
 unfold lenS
 rw [List.take_add_one, List.getElem?_eq_getElem h, List.map_append, List.sum_append]
 simp only [Option.toList_some, List.map_cons, List.map_nil, List.sum_cons, List.sum_nil, Nat.add_zero]
theorem lenS_mono (l : List S38) (i : Nat) : lenS (l.take i) ≤ lenS l := by
 unfold lenS
 conv => rhs; rw [← List.take_append_drop i l]
 rw [List.map_append, List.sum_append]
 omega
theorem lenS_kt (l : List S38) : lenS l = ((l.map kt).map fun x => x.2.length + 1).sum := by
 unfold lenS
 rw [List.map_map]
 congr 1
theorem rd38 (l : List S38) (i : Nat) (h : i < l.length) : rd_T38 l (i : Int) = l[i] := by
 unfold rd_T38
 rw [Int.toNat_natCast, List.getD_eq_getElem?_getD, List.getElem?_eq_getElem h]
 rfl
theorem join_l0 (l : List S38) (hl : l.length ≤ 4000) (hs : lenS l ≤ 20001) (k : Nat) : ∀ d i, i ≤ l.length → l.length - i = d → lex_Join.l0 (k + d + 1) l (lenS (l.take i)) l (l.length : Int) (i : Int) = lex_Join.l1 k l [] l (l.length : Int) 0 := by
 intro d
 induction d with
 | zero =>
  intro i hi hd
  rw [lex_Join.l0, if_neg (by omega)]
 | succ d ih =>
  intro i hi hd
  have hlt : i < l.length := by omega
  have h1 := lenS_take l i hlt
  have h2 := lenS_mono l (i + 1)
  have e1 : wrap64 ((lenS (l.take i) : Nat) + (wrap64 ((l[i].f1.size : Int) + 1))) = ((lenS (l.take (i + 1)) : Nat) : Int) := by
   rw [wrapn (i := (l[i].f1.size : Int) + 1) (by omega) (by omega), wrapn (by omega) (by omega)]
   omega
  rw [show k + (d + 1) + 1 = (k + d + 1) + 1 by omega, lex_Join.l0, if_pos (by omega), if_pos (by omega), if_pos (by omega), rd38 l i hlt, e1, if_neg (by omega), wrapn (by omega) (by omega)]
  exact ih (i + 1) (by omega) (by omega)
theorem join_l1 (l : List S38) (hl : l.length ≤ 4000) (k : Nat) : ∀ d i, i ≤ l.length → l.length - i = d → lex_Join.l1 (k + d + 1) l ((l.take i).map (·.f1)) l (l.length : Int) (i : Int) =
  (strings_Join.f (l.map (·.f1)) (⟨#[32]⟩ : ByteArray)).bind fun t241 => ((lex_gives.f t241 l).bind fun t242 => (if t242 = true then (some t241) else (some (⟨#[]⟩ : ByteArray)))) := by
 intro d
 induction d with
 | zero =>
  intro i hi hd
  rw [lex_Join.l1, if_neg (by omega), List.take_of_length_le (by omega)]
 | succ d ih =>
  intro i hi hd
  have hlt : i < l.length := by omega
  rw [show k + (d + 1) + 1 = (k + d + 1) + 1 by omega, lex_Join.l1, if_pos (by omega), if_pos (by omega), if_pos (by omega), rd38 l i hlt, if_pos (by rw [List.length_map, List.length_take]; omega), wrapn (by omega) (by omega)]
  rw [← ih (i + 1) (by omega) (by omega)]
  rw [show (l.take i).map (·.f1) ++ [l[i].f1] = (l.take (i + 1)).map (·.f1) by rw [List.take_add_one, List.getElem?_eq_getElem hlt, List.map_append]; rfl]
  rfl
def joinM (l : List Lx.K) : List UInt8 := if Lx.givesM (Lx.joinK l) l = true then Lx.joinK l else []
theorem join_f (l : List S38) (hl : l.length ≤ 4000) (hs : lenS l ≤ 20001) (k : Nat) (hk : 2 * l.length + 2 ≤ k) : lex_Join.f k l = some (strS (joinM (l.map kt))) := by
 unfold lex_Join.f
 rw [if_neg (by omega)]
 have h0 := join_l0 l hl hs (k - l.length - 1) l.length 0 (by omega) (by omega)
 have h1 := join_l1 l hl (k - l.length - 1 - l.length - 1) l.length 0 (by omega) (by omega)
 rw [show k - l.length - 1 + l.length + 1 = k by omega] at h0
 rw [show k - l.length - 1 - l.length - 1 + l.length + 1 = k - l.length - 1 by omega] at h1
 simp only [List.take_zero, List.map_nil] at h0 h1
 have e0 : ((lenS [] : Nat) : Int) = 0 := rfl
 rw [e0] at h0
 rw [show ((0 : Nat) : Int) = 0 from rfl] at h0 h1
 rw [h0, h1]
 unfold strings_Join.f
 have e1 : Lib.join ((l.map (·.f1)).map (·.data.toList)) (⟨#[32]⟩ : ByteArray).data.toList = Lx.joinK (l.map kt) := by
  rw [← Lx.joinK_eq, List.map_map, List.map_map]
  rfl
 have e2 := Lx.joinK_len (l.map kt)
 rw [← lenS_kt] at e2
 rw [e1, if_pos ⟨by rw [List.length_map]; omega, by omega⟩]
 simp only [Option.bind_some]
 rw [gives_f]
 simp only [Option.bind_some]
 show (if Lx.givesM (Lx.joinK (l.map kt)) (l.map kt) = true then _ else _) = _
 unfold joinM
 split <;> rfl
theorem kt_take (l : List S38) (i : Nat) : (l.take i).map kt = (l.map kt).take i := by rw [List.map_take]
theorem tight_l0 (l : List S38) (hl : l.length ≤ 4000) (k : Nat) : ∀ d i (out : List UInt8), i ≤ l.length → l.length - i = d → out.length ≤ lenS (l.take i) → lenS l ≤ 1000000 → lex_Tight.l0 (k + d + 1) l (strS out) l (l.length : Int) (i : Int) = some (strS (Lx.tightK ((l.map kt).take i) out ((l.map kt).drop i))) := by
 intro d
 induction d with
 | zero =>
  intro i out hi hd ho hs
  rw [lex_Tight.l0, if_neg (by omega), List.drop_of_length_le (by rw [List.length_map]; omega), Lx.tightK]
 | succ d ih =>
  intro i out hi hd ho hs
  have hlt : i < l.length := by omega
  have h1 := lenS_take l i hlt
  have h2 := lenS_mono l (i + 1)
  have hsz : (strS out).size = out.length := rfl
  have ed : (l.map kt).drop i = kt l[i] :: (l.map kt).drop (i + 1) := by rw [List.drop_eq_getElem_cons (by simpa using hlt), List.getElem_map]
  have et : (l.map kt).take (i + 1) = (l.map kt).take i ++ [kt l[i]] := by rw [List.take_add_one, List.getElem?_eq_getElem (by simpa using hlt), List.getElem_map]; rfl
  have ea : ∀ o : List UInt8, strS o ++ l[i].f1 = strS (o ++ (kt l[i]).2) := by
   intro o
   unfold strS kt
   apply ByteArray.ext
   apply Array.ext'
   rw [ByteArray.data_append, Array.toList_append]
  have eb : strS out ++ (⟨#[32]⟩ : ByteArray) = strS (out ++ [32]) := by
   unfold strS
   apply ByteArray.ext
   apply Array.ext'
   rw [ByteArray.data_append, Array.toList_append]
  have el : (kt l[i]).2.length = l[i].f1.size := by unfold kt; exact ba_len _
  rw [show k + (d + 1) + 1 = (k + d + 1) + 1 by omega, lex_Tight.l0, if_pos (by omega), if_pos (by omega), if_pos (by omega), rd38 l i hlt, wrapn (i := (i : Int) + 1) (by omega) (by omega), ed, Lx.tightK, ← et]
  by_cases h0 : i = 0
  ·subst h0
   rw [if_neg (by omega), if_pos (by omega), if_neg (by simp), ea]
   have h1' : lenS (l.take 1) = lenS (l.take 0) + (l[0].f1.size + 1) := h1
   exact ih 1 (out ++ (kt l[0]).2) (by omega) (by omega) (by rw [List.length_append]; omega) hs
  ·rw [if_pos (by omega), if_pos (by omega), if_pos (by omega), if_pos (by omega), gives_f, ea, kt_take]
   have hne : (l.map kt).take i ≠ [] := by
    intro h
    have := congrArg List.length h
    rw [List.length_take, List.length_map, List.length_nil] at this
    omega
   rw [show (((i : Int) + 1).toNat) = i + 1 by omega]
   simp only [Option.bind_some]
   have es : (strS (out ++ (kt l[i]).2)).data.toList = out ++ (kt l[i]).2 := rfl
   rw [es]
   have ei : ((i : Int) + 1) = ((i + 1 : Nat) : Int) := by omega
   cases hg : Lx.givesM (out ++ (kt l[i]).2) ((l.map kt).take (i + 1)) with
   | true =>
    rw [if_pos rfl, if_neg (by simp), ei]
    exact ih (i + 1) _ (by omega) (by omega) (by rw [List.length_append]; omega) hs
   | false =>
    have hz2 : (strS (out ++ [32])).size = out.length + 1 := by show (out ++ [32]).length = _; simp
    rw [if_neg (by decide), if_pos (by omega), eb, if_pos (by omega), ea, if_pos ⟨hne, rfl⟩, ei, List.append_assoc, List.singleton_append]
    exact ih (i + 1) _ (by omega) (by omega) (by rw [List.length_append, List.length_cons]; omega) hs
def tightM (l : List Lx.K) : List UInt8 := if joinM l = [] then [] else Lx.tightK [] [] l
theorem tight_f (l : List S38) (hl : l.length ≤ 4000) (hs : lenS l ≤ 20001) (k : Nat) (hk : 2 * l.length + 2 ≤ k) : lex_Tight.f k l = some (strS (tightM (l.map kt))) := by
 unfold lex_Tight.f
 rw [join_f l hl hs k hk]
 simp only [Option.bind_some]
 have h0 := tight_l0 l hl (k - l.length - 1) l.length 0 [] (by omega) (by omega) (by simp) (by omega)
 rw [show k - l.length - 1 + l.length + 1 = k by omega] at h0
 simp only [List.take_zero, List.drop_zero] at h0
 rw [strS_list]
 unfold tightM
 split
 ·rfl
 ·exact h0
end Go.Proofs.YtadgddipkbdnbaaGreatDoor.Q
set_option linter.unusedVariables false
set_option linter.unusedSimpArgs false
namespace Go.Proofs.Lx
open Go.Proofs.YtadgddipkbdnbaaGreatDoor
theorem join_back {ts : List K} (hc : Toks [] ts) (hne : ts ≠ []) (h1 : (joinK ts).length ≤ 20000) (h2 : ts.length ≤ 4000) : (scan (joinK ts)).2.2 = 0 ∧ (scan (joinK ts)).1.map ktM = ts :=
 to_scan h1 h2 (join_lex hc hne) .nil
theorem joinK_ne {ts : List K} (hc : Toks [] ts) (hne : ts ≠ []) : joinK ts ≠ [] := by
 match ts with
 | [] => exact absurd rfl hne
 | [x] => exact hc.1.2.1
 | x :: y :: ts =>
  intro h
  have := congrArg List.length h
  simp [joinK] at this
theorem tight_back {ts : List K} (hc : Toks [] ts) (h1 : (tightK [] [] ts).length ≤ 20000) (h2 : ts.length ≤ 4000) : Wr ts (tightK [] [] ts) ∧ (scan (tightK [] [] ts)).2.2 = 0 ∧ (scan (tightK [] [] ts)).1.map ktM = ts := by
 have h := tight_wr (ts := ts) (done := []) (out := []) ⟨rfl, [], .nil _ _⟩ (fun _ => rfl) (by simpa using hc)
 rw [List.nil_append] at h
 exact ⟨h, h.gives h1 h2⟩
end Go.Proofs.Lx
namespace Go.Proofs.YtadgddipkbdnbaaGreatDoor.Q
open Go.RowKit Go.Proofs.YtadgddipkbdnbaaGreatDoor YtadgddipkbdnbaaGreatDoorW.PrintWords YtadgddipkbdnbaaGreatDoorW.PrintLast
theorem scanned {t : List UInt8} (h : (Lx.scan t).2.2 = 0) : t.length ≤ 20000 ∧ (Lx.scan t).1.length ≤ 4000 ∧ Lx.Toks [] ((Lx.scan t).1.map Lx.ktM) ∧ lenS ((Lx.scan t).1.map tokS) ≤ t.length + (Lx.scan t).1.length := by
 obtain ⟨h1, h2, f, h3, h4⟩ := Lx.scan_to h
 refine ⟨h1, h2, h3.chain, ?_⟩
 have := h3.texts
 rw [lenS_kt, kt_tokS, Lx.sum_succ, List.length_map]
 omega
theorem gives_of {t : List UInt8} {ts : List Lx.K} (h : (Lx.scan t).2.2 = 0 ∧ (Lx.scan t).1.map Lx.ktM = ts) : Lx.givesM t ts = true := decide_eq_true h
end Go.Proofs.YtadgddipkbdnbaaGreatDoor.Q
