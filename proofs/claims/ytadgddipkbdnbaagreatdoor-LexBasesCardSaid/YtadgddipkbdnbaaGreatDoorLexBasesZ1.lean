/- Parts of the proof: For every unsigned integer of 64 bits, its decimal, octal and hexadecimal digits are read as the same value, without a suffix only below 2 to the 63; the inputs read as they did; the package-level variables hold what the program's text lays in them: the tied card. -/
import Derived.Test.YtadgddipkbdnbaaGreatDoorLexP1
import Derived.Test.YtadgddipkbdnbaaGreatDoorLexP2
import Derived.Test.YtadgddipkbdnbaaGreatDoorLexP3
import Derived.Test.YtadgddipkbdnbaaGreatDoorLexP4
import Derived.Test.YtadgddipkbdnbaaGreatDoorLexP7
import Derived.Test.YtadgddipkbdnbaaGreatDoorLexP8
import Derived.Test.YtadgddipkbdnbaaGreatDoorLexP10
set_option linter.unusedVariables false
set_option linter.unusedSimpArgs false
namespace Go.Proofs.Lx
open Go.Proofs.YtadgddipkbdnbaaGreatDoor
def kindM (t : List UInt8) : Int := match scan t with
 | ([x], _, e) => if e = 0 ∧ x.text = t then x.kind else 0
 | _ => 0
theorem scan_of_ok {t : List UInt8} {l : List Tok} (h : t.length ≤ 20000) (hr : scanR t.length [] t = .ok l) : scan t = (l, 0, 0) := by
 rw [scan_eq, if_neg (by omega), hr]
theorem kindM_err {t : List UInt8} (h : (scan t).2.2 ≠ 0) : kindM t = 0 := by
 unfold kindM
 split
 ·rename_i he; rw [he] at h; rw [if_neg (fun hc => h hc.1)]
 ·rfl
theorem kindM_eq (t : List UInt8) : kindM t = if (scan t).2.2 = 0 then (if (scan t).1.length = 1 then (match (scan t).1.head? with | some x => if x.text = t then x.kind else 0 | none => 0) else 0) else 0 := by
 unfold kindM
 rcases hs : scan t with ⟨l, a, e⟩
 match l with
 | [] => simp
 | [x] => by_cases h : e = 0 <;> simp [h]
 | x :: y :: l => simp
end Go.Proofs.Lx
set_option linter.unusedVariables false
set_option linter.unusedSimpArgs false
namespace Go.Proofs.Lx
open Go.Proofs.YtadgddipkbdnbaaGreatDoor
def Bd (v : List UInt8) : Prop := v = [] ∨ ∃ c u, v = c :: u ∧ isBlank c = true
theorem blank_cases {c : UInt8} (h : isBlank c = true) : c = 32 ∨ c = 9 ∨ c = 13 ∨ c = 10 := by
 simp only [isBlank, Bool.or_eq_true, beq_iff_eq] at h
 rcases h with ((h | h) | h) | h <;> simp [h]
theorem blank_desc {c : UInt8} (h : isBlank c = true) : isDescB c = false := by
 rcases blank_cases h with h | h | h | h <;> subst h <;> decide
theorem blank_word {c : UInt8} (h : isBlank c = true) : isWord c = false := by
 rcases blank_cases h with h | h | h | h <;> subst h <;> decide
theorem tw_agree (p : UInt8 → Bool) (hp : ∀ c, isBlank c = true → p c = false) {v : List UInt8} (hv : Bd v) : ∀ (r : List UInt8) (m : Nat), (r.takeWhile p).length ≤ m → (r.take m ++ v).takeWhile p = r.takeWhile p
 | [], m, _ => by
  rw [List.take_nil, List.nil_append]
  rcases hv with h | ⟨c, u, h, hb⟩
  ·rw [h]
  ·rw [h, List.takeWhile_cons, if_neg (by rw [hp c hb]; decide)]; rfl
 | c :: r, m, h => by
  by_cases hc : p c = true
  ·rw [List.takeWhile_cons, if_pos hc, List.length_cons] at h
   obtain ⟨m', rfl⟩ : ∃ x, m = x + 1 := ⟨m - 1, by omega⟩
   rw [List.take_succ_cons, List.cons_append, List.takeWhile_cons, if_pos hc, List.takeWhile_cons, if_pos hc, tw_agree p hp hv r m' (by omega)]
  ·rw [List.takeWhile_cons, if_neg hc]
   cases m with
   | zero =>
    rw [List.take_zero, List.nil_append]
    rcases hv with h | ⟨c, u, h, hb⟩
    ·rw [h]; rfl
    ·rw [h, List.takeWhile_cons, if_neg (by rw [hp c hb]; decide)]
   | succ m => rw [List.take_succ_cons, List.cons_append, List.takeWhile_cons, if_neg hc]
theorem take_agree {r : List UInt8} {k m : Nat} (v : List UInt8) (hk : k ≤ m) (hr : k ≤ r.length) : (r.take m ++ v).take k = r.take k := by
 rw [List.take_append_of_le_length (by rw [List.length_take]; omega), List.take_take, Nat.min_eq_left hk]
theorem hexes_agree {t t' : List UInt8} {v : UInt8} {k : Nat} (h : hexes t = some (v, k)) (e : t'.take 2 = t.take 2) : hexes t' = some (v, k) := by
 match t with
 | [] => cases h
 | [x] => cases h
 | x :: y :: r =>
  match t' with
  | [] => cases e
  | [x'] => cases e
  | x' :: y' :: r' =>
   simp only [List.take_succ_cons, List.take_zero, List.cons.injEq] at e
   obtain ⟨rfl, rfl, -⟩ := e
   exact h
theorem hexes_four {t : List UInt8} {v : UInt8} {k : Nat} (h : hexes t = some (v, k)) : k = 4 := by
 unfold hexes at h
 split at h
 ·split at h
  ·simp at h; exact h.2.symm
  ·cases h
 ·cases h
theorem char_agree {t t' : List UInt8} {v : UInt8} {k : Nat} (h : char t = some (v, k)) (e : t'.take k = t.take k) : char t' = some (v, k) := by
 have hk := char_len _ _ _ h
 cases t with
 | nil => cases h
 | cons c t =>
  obtain ⟨k', rfl⟩ : ∃ x, k = x + 1 := ⟨k - 1, by omega⟩
  cases t' with
  | nil => rw [List.take_nil, List.take_succ_cons] at e; cases e
  | cons c' t' =>
   simp only [List.take_succ_cons, List.cons.injEq] at e
   obtain ⟨rfl, e⟩ := e
   simp only [char, charC] at h ⊢
   split
   ·rename_i h0; rw [if_pos h0] at h; cases h
   ·rename_i h0
    rw [if_neg h0] at h
    split
    ·rename_i h1; rw [if_pos h1] at h; exact h
    ·rename_i h1
     rw [if_neg h1] at h
     cases t with
     | nil => cases h
     | cons d u =>
      simp only [escT, esc] at h
      have hk1 : 1 ≤ k' := by
       rcases Nat.eq_zero_or_pos k' with h0 | h0
       ·exfalso
        rw [h0] at h
        repeat' (first | (split at h) | (simp at h; done))
        all_goals first | (have := hexes_four h; omega) | (simp at h; done)
       ·exact h0
      obtain ⟨k2, rfl⟩ : ∃ x, k' = x + 1 := ⟨k' - 1, by omega⟩
      cases t' with
      | nil => rw [List.take_nil, List.take_succ_cons] at e; cases e
      | cons d' u' =>
       simp only [List.take_succ_cons, List.cons.injEq] at e
       obtain ⟨rfl, e⟩ := e
       simp only [escT, esc]
       split
       ·rename_i hh; rw [if_pos hh] at h; exact h
       ·rename_i hh
        rw [if_neg hh] at h
        split
        ·rename_i hh; rw [if_pos hh] at h; exact h
        ·rename_i hh
         rw [if_neg hh] at h
         split
         ·rename_i hh; rw [if_pos hh] at h; exact h
         ·rename_i hh
          rw [if_neg hh] at h
          split
          ·rename_i hh; rw [if_pos hh] at h; exact h
          ·rename_i hh
           rw [if_neg hh] at h
           split
           ·rename_i hh; rw [if_pos hh] at h; cases h
           ·rename_i hh
            rw [if_neg hh] at h
            have := hexes_four h
            have : k2 = 2 := by omega
            subst this
            exact hexes_agree h e
theorem strF_agree : ∀ (n : Nat) {t t' vs : List UInt8} {m : Nat}, strF n t = some (vs, m) → t'.take m = t.take m → ∀ n', m ≤ n' → strF n' t' = some (vs, m)
 | 0, _, _, _, _, h, _, _, _ => by cases h
 | _ + 1, [], _, _, _, h, _, _, _ => by cases h
 | n + 1, c :: t, t', vs, m, h, e, n', hn => by
  have hm := strF_len _ _ _ _ h
  obtain ⟨m', rfl⟩ : ∃ x, m = x + 1 := ⟨m - 1, by omega⟩
  obtain ⟨n'', rfl⟩ : ∃ x, n' = x + 1 := ⟨n' - 1, by omega⟩
  rw [strF] at h
  cases t' with
  | nil => rw [List.take_nil, List.take_succ_cons] at e; cases e
  | cons c' t' =>
   have e0 := e
   simp only [List.take_succ_cons, List.cons.injEq] at e
   obtain ⟨rfl, e⟩ := e
   rw [strF]
   split
   ·rename_i h34; rw [if_pos h34] at h; exact h
   ·rename_i h34
    rw [if_neg h34] at h
    cases hc : char (c' :: t) with
    | none => rw [hc] at h; cases h
    | some p =>
     obtain ⟨v, k⟩ := p
     rw [hc] at h
     simp only at h
     cases hs : strF n ((c' :: t).drop k) with
     | none => rw [hs] at h; cases h
     | some q =>
      obtain ⟨ws, j⟩ := q
      rw [hs] at h
      simp only [Option.some.injEq, Prod.mk.injEq] at h
      obtain ⟨h1, h2⟩ := h
      have hk := char_len _ _ _ hc
      have e1 : (c' :: t').take k = (c' :: t).take k := by
       have := congrArg (List.take k) e0
       rw [List.take_take, List.take_take, Nat.min_eq_left (by omega)] at this
       exact this
      have e2 : ((c' :: t').drop k).take j = ((c' :: t).drop k).take j := by
       have := congrArg (List.drop k) e0
       rw [List.drop_take, List.drop_take, show m' + 1 - k = j by omega] at this
       exact this
      rw [char_agree hc e1]
      simp only
      rw [strF_agree n hs e2 n'' (by omega), ← h1, ← h2]
theorem sign_noblank : ∀ y ∈ signs, ∀ c ∈ y, isBlank c = false := by decide
theorem sign_back {y : List UInt8} (hy : y ∈ signs) {r v : List UInt8} {m : Nat} (hv : Bd v) (h : y <+: r.take m ++ v) : y <+: r := by
 rcases List.prefix_or_prefix_of_prefix h (List.prefix_append (r.take m) v) with h1 | ⟨z, hz⟩
 ·exact h1.trans (List.take_prefix m r)
 ·rw [← hz] at h
  have h2 := (List.prefix_append_right_inj _).1 h
  cases z with
  | nil => rw [List.append_nil] at hz; rw [← hz]; exact List.take_prefix m r
  | cons c z =>
   exfalso
   have hc := sign_noblank y hy c (by rw [← hz]; simp)
   obtain ⟨w, hw⟩ := h2
   rcases hv with h3 | ⟨c', u, h3, hb⟩
   ·rw [h3] at hw; cases hw
   ·rw [h3] at hw
    cases hw
    rw [hb] at hc; cases hc
theorem sign_agree {r v : List UInt8} {m : Nat} (hv : Bd v) (h0 : signLen r ≠ 0) (hm : signLen r ≤ m) : signLen (r.take m ++ v) = signLen r := by
 unfold signLen at h0 hm ⊢
 cases h : signs.find? fun x => x.isPrefixOf r with
 | none => rw [h] at h0; exact absurd rfl h0
 | some x =>
  rw [h] at hm h0
  simp only [Option.map_some, Option.getD_some] at hm h0 ⊢
  have hx := List.find?_eq_some_iff_append.1 h
  obtain ⟨hp, l1, l2, hl, hno⟩ := hx
  have hxr : x <+: r := List.isPrefixOf_iff_prefix.1 hp
  have hxt : x = r.take x.length := List.prefix_iff_eq_take.1 hxr
  have : signs.find? (fun x => x.isPrefixOf (r.take m ++ v)) = some x := by
   refine List.find?_eq_some_iff_append.2 ⟨?_, l1, l2, hl, fun a ha => ?_⟩
   ·refine List.isPrefixOf_iff_prefix.2 ?_
    refine List.IsPrefix.trans ?_ (List.prefix_append _ _)
    rw [hxt]
    refine ⟨(r.take m).drop x.length, ?_⟩
    have : r.take x.length = (r.take m).take x.length := by rw [List.take_take, Nat.min_eq_left hm]
    rw [this, List.take_append_drop]
   ·have := hno a ha
    cases hq : a.isPrefixOf (r.take m ++ v) with
    | false => rfl
    | true =>
     have h1 := sign_back (by rw [hl]; simp [ha]) hv (List.isPrefixOf_iff_prefix.1 hq)
     rw [List.isPrefixOf_iff_prefix.2 h1] at this
     cases this
  rw [this]
  rfl
theorem one_agree {d : Bool} {r v : List UInt8} {kind : Int} {k m : Nat} (h : one d r = .ok (kind, k)) (hk : k ≤ m) (hv : Bd v) : one d (r.take m ++ v) = .ok (kind, k) := by
 have hl := one_len _ _ _ _ h
 cases r with
 | nil => cases h
 | cons c t =>
  have ht : ∀ j, j ≤ k → ((c :: t).take m ++ v).take j = (c :: t).take j := fun j hj => take_agree v (by omega) (by omega)
  have tw : ∀ p : UInt8 → Bool, (∀ c, isBlank c = true → p c = false) → ((c :: t).takeWhile p).length ≤ m → ((c :: t).take m ++ v).takeWhile p = (c :: t).takeWhile p := fun p hp hm => tw_agree p hp hv _ _ hm
  have sg : signLen (c :: t) ≠ 0 → signLen (c :: t) ≤ m → signLen ((c :: t).take m ++ v) = signLen (c :: t) := fun h0 hm => sign_agree hv h0 hm
  obtain ⟨m', rfl⟩ : ∃ x, m = x + 1 := ⟨m - 1, by omega⟩
  rw [List.take_succ_cons, List.cons_append] at ht tw sg ⊢
  rw [one] at h ⊢
  split
  ·rename_i h1
   rw [if_pos h1] at h
   simp only at h ⊢
   split at h
   ·cases h
   ·rename_i h2
    obtain ⟨e1, e2⟩ := Prod.mk.inj (Except.ok.inj h)
    rw [tw isDescB (fun _ hb => blank_desc hb) (by omega), if_neg h2]
    exact h
  ·rename_i h1
   rw [if_neg h1] at h
   split
   ·rename_i h2
    rw [if_pos h2] at h
    simp only at h ⊢
    split at h
    ·cases h
    ·rename_i h3
     obtain ⟨e1, e2⟩ := Prod.mk.inj (Except.ok.inj h)
     rw [tw isWord (fun _ hb => blank_word hb) (by omega), if_neg h3, ht _ (by omega)]
     exact h
   ·rename_i h2
    rw [if_neg h2] at h
    split
    ·rename_i h3
     rw [if_pos h3] at h
     simp only at h ⊢
     split at h
     ·cases h
     ·rename_i h4
      obtain ⟨e1, e2⟩ := Prod.mk.inj (Except.ok.inj h)
      rw [tw isWord (fun _ hb => blank_word hb) (by omega), ht _ (by omega), if_neg h4]
      exact h
    ·rename_i h3
     rw [if_neg h3] at h
     have httail : ∀ j, j + 1 ≤ k → (t.take m' ++ v).take j = t.take j := fun j hj => by
      have := ht (j + 1) hj
      simp only [List.take_succ_cons, List.cons.injEq, true_and] at this
      exact this
     split
     ·rename_i h4
      rw [if_pos h4] at h
      cases hc : char t with
      | none => rw [hc] at h; cases h
      | some p =>
       obtain ⟨x, j⟩ := p
       rw [hc] at h
       simp only at h
       split at h
       ·cases h
       ·rename_i h5
        obtain ⟨e1, e2⟩ := Prod.mk.inj (Except.ok.inj h)
        rw [char_agree hc (httail j (by omega))]
        simp only
        have hj := char_len _ _ _ hc
        have g1 : (t.take m' ++ v).head? = t.head? := by
         have := httail 1 (by omega)
         have h' := congrArg List.head? this
         rw [List.head?_take, List.head?_take] at h'
         simpa using h'
        have g2 : ((t.take m' ++ v).drop j).head? = (t.drop j).head? := by
         have := congrArg (List.drop j) (httail (j + 1) (by omega))
         have h' := congrArg List.head? this
         rw [List.drop_take, List.drop_take, List.head?_take, List.head?_take] at h'
         simpa using h'
        rw [g1, g2, if_neg h5]
        exact h
     ·rename_i h4
      rw [if_neg h4] at h
      split
      ·rename_i h5
       rw [if_pos h5] at h
       cases hc : strF (t.length + 1) t with
       | none => rw [hc] at h; cases h
       | some p =>
        obtain ⟨x, j⟩ := p
        rw [hc] at h
        simp only at h
        obtain ⟨e1, e2⟩ := Prod.mk.inj (Except.ok.inj h)
        have hj := strF_len _ _ _ _ hc
        have hlen : j ≤ (t.take m' ++ v).length := by rw [List.length_append, List.length_take]; omega
        rw [strF_agree _ hc (httail j (by omega)) _ (by omega)]
        exact h
      ·rename_i h5
       rw [if_neg h5] at h
       split at h
       ·cases h
       ·rename_i h6
        obtain ⟨e1, e2⟩ := Prod.mk.inj (Except.ok.inj h)
        rw [sg h6 (by omega), if_neg h6]
        exact h
end Go.Proofs.Lx
set_option linter.unusedVariables false
set_option linter.unusedSimpArgs false
namespace Go.Proofs.Lx
open Go.Proofs.YtadgddipkbdnbaaGreatDoor
inductive Skips : List UInt8 → List UInt8 → Prop
 | nil : Skips [] []
 | stop (c : UInt8) (t : List UInt8) (h : isBlank c = false) (h1 : (c :: t).take 2 ≠ [47, 47]) (h2 : (c :: t).take 2 ≠ [47, 42]) : Skips (c :: t) (c :: t)
 | blank (c : UInt8) (t x : List UInt8) (h : isBlank c = true) (hs : Skips t x) : Skips (c :: t) x
 | line (t x : List UInt8) (hs : Skips (t.dropWhile (· != 10)) x) : Skips (47 :: 47 :: t) x
 | block (t u x : List UInt8) (hc : closed t = some u) (hs : Skips u x) : Skips (47 :: 42 :: t) x
theorem skip_bl (c : UInt8) (t : List UInt8) (h : isBlank c = true) : skip (c :: t) = skip t := by
 rw [skip_eq, skip_eq, List.dropWhile_cons, if_pos h]
theorem skip_li (t : List UInt8) : skip (47 :: 47 :: t) = skip (t.dropWhile (· != 10)) := by
 rw [skip_eq, List.dropWhile_cons, if_neg (by decide)]
 rfl
theorem skip_bo (t : List UInt8) : skip (47 :: 42 :: t) = match closed t with | none => .error (47 :: 42 :: t) | some u => skip u := by
 rw [skip_eq, List.dropWhile_cons, if_neg (by decide)]
 rfl
theorem skip_st (c : UInt8) (t : List UInt8) (h : isBlank c = false) (h1 : (c :: t).take 2 ≠ [47, 47]) (h2 : (c :: t).take 2 ≠ [47, 42]) : skip (c :: t) = .ok (c :: t) := by
 rw [skip_eq, List.dropWhile_cons, if_neg (by rw [h]; decide)]
 split
 ·rename_i e; rw [e] at h1; exact absurd rfl h1
 ·rename_i e; rw [e] at h2; exact absurd rfl h2
 ·rfl
theorem skip_of {r x : List UInt8} (h : Skips r x) : skip r = .ok x := by
 induction h with
 | nil => rfl
 | stop c t h h1 h2 => exact skip_st c t h h1 h2
 | blank c t x h hs ih => rw [skip_bl c t h, ih]
 | line t x hs ih => rw [skip_li, ih]
 | block t u x hc hs ih => rw [skip_bo, hc]; exact ih
theorem dw_append {p : UInt8 → Bool} {v : List UInt8} : ∀ {l : List UInt8}, l.dropWhile p ≠ [] → (l ++ v).dropWhile p = l.dropWhile p ++ v
 | [], h => absurd rfl h
 | c :: l, h => by
  rw [List.cons_append, List.dropWhile_cons, List.dropWhile_cons]
  split
  ·rename_i hc; rw [List.dropWhile_cons, if_pos hc] at h; exact dw_append h
  ·rfl
theorem closed_append (v : List UInt8) : ∀ (t u : List UInt8), closed t = some u → closed (t ++ v) = some (u ++ v)
 | [], u, h => by cases h
 | [_], u, h => by cases h
 | a :: b :: r, u, h => by
  rw [closed] at h
  show closed (a :: b :: (r ++ v)) = _
  rw [closed]
  split
  ·rename_i hc; rw [if_pos hc] at h; cases h; rfl
  ·rename_i hc; rw [if_neg hc] at h; exact closed_append v (b :: r) u h
theorem skips_app {r x : List UInt8} (h : Skips r x) (hx : x ≠ []) {v : List UInt8} (hv : Bd v) : Skips (r ++ v) (x ++ v) := by
 induction h with
 | nil => exact absurd rfl hx
 | stop c t h h1 h2 =>
  have tk : (c :: t ++ v).take 2 = (c :: t).take 2 ∨ ∃ b, (c :: t ++ v).take 2 = [c, b] ∧ isBlank b = true := by
   cases t with
   | cons d t => exact .inl rfl
   | nil =>
    rcases hv with hv | ⟨b, u, hv, hb⟩
    ·exact .inl (by rw [hv]; rfl)
    ·exact .inr ⟨b, by rw [hv]; rfl, hb⟩
  refine .stop c (t ++ v) h ?_ ?_
  ·rcases tk with tk | ⟨b, tk, hb⟩
   ·rw [← List.cons_append, tk]; exact h1
   ·rw [← List.cons_append, tk]
    intro e
    simp only [List.cons.injEq, and_true] at e
    rw [e.2] at hb; revert hb; decide
  ·rcases tk with tk | ⟨b, tk, hb⟩
   ·rw [← List.cons_append, tk]; exact h2
   ·rw [← List.cons_append, tk]
    intro e
    simp only [List.cons.injEq, and_true] at e
    rw [e.2] at hb; revert hb; decide
 | blank c t x h hs ih => exact .blank c (t ++ v) _ h (ih hx)
 | line t x hs ih =>
  refine .line (t ++ v) _ ?_
  have hne : t.dropWhile (· != 10) ≠ [] := by
   intro e
   rw [e] at hs
   cases hs
   exact hx rfl
  rw [dw_append hne]
  exact ih hx
 | block t u x hc hs ih => exact .block (t ++ v) (u ++ v) _ (closed_append v t u hc) (ih hx)
theorem skips_len {r x : List UInt8} (h : Skips r x) : x.length ≤ r.length := by
 obtain ⟨i, hi, -⟩ := skip_ok_suffix (skip_of h)
 rw [hi, List.length_drop]; omega
abbrev K := Int × List UInt8
def ktM (t : Tok) : K := (t.kind, t.text)
def opK : List K → Bool
 | [] => false
 | t :: l => (t.1 == 2 && t.2 == probeW) || (t.1 == 5 && t.2 == [44] && match l with | [] => false | u :: _ => u.1 == 6)
theorem opK_eq (pre : List Tok) : opens pre = opK (pre.map ktM) := by
 match pre with
 | [] => rfl
 | [_] => rfl
 | _ :: _ :: _ => rfl
inductive LexTo : List K → List UInt8 → List K → List UInt8 → Prop
 | nil (p : List K) (r : List UInt8) : LexTo p r [] r
 | cons (p : List K) (r : List UInt8) (c : UInt8) (t : List UInt8) (kind : Int) (k : Nat) (ts : List K) (f : List UInt8) (hs : Skips r (c :: t)) (ho : one (opK p) (c :: t) = .ok (kind, k))
   (hr : LexTo ((kind, (c :: t).take k) :: p) ((c :: t).drop k) ts f) : LexTo p r ((kind, (c :: t).take k) :: ts) f
theorem LexTo.len {p ts : List K} {r f : List UInt8} (h : LexTo p r ts f) : f.length + ts.length ≤ r.length := by
 induction h with
 | nil => simp
 | cons p r c t kind k ts f hs ho hr ih =>
  have h1 := skips_len hs
  have h2 := one_len _ _ _ _ ho
  rw [List.length_drop] at ih
  simp only [List.length_cons] at ih h1 h2 ⊢
  omega
theorem lex_scan {p : List K} {r : List UInt8} {ts : List K} {f : List UInt8} (h : LexTo p r ts f) (hf : Skips f []) : ∀ (n len : Nat) (pre : List Tok), pre.map ktM = p → r.length < n → pre.length + ts.length ≤ 4000 → ∃ l, scanF len n pre r = .ok l ∧ l.map ktM = p.reverse ++ ts := by
 induction h with
 | nil p r =>
  intro n len pre hp hn h4
  obtain ⟨n, rfl⟩ : ∃ x, n = x + 1 := ⟨n - 1, by omega⟩
  rw [scanF, skip_of hf]
  exact ⟨pre.reverse, rfl, by rw [← hp]; simp⟩
 | cons p r c t kind k ts f hs ho hr ih =>
  intro n len pre hp hn h4
  obtain ⟨n, rfl⟩ : ∃ x, n = x + 1 := ⟨n - 1, by omega⟩
  have hl := skips_len hs
  have hk := one_len _ _ _ _ ho
  rw [← hp, ← opK_eq] at ho
  simp only [List.length_cons] at h4
  obtain ⟨l, h1, h2⟩ := ih hf n len (⟨kind, (c :: t).take k, len - (c :: t).length⟩ :: pre) (by rw [List.map_cons, hp]; rfl) (by rw [List.length_drop]; omega) (by simp only [List.length_cons]; omega)
  refine ⟨l, ?_, by rw [h2]; simp⟩
  rw [scanF, skip_of hs]
  simp only [ho]
  rw [if_neg (by omega)]
  exact h1
theorem to_scan {t : List UInt8} {ts : List K} {f : List UInt8} (h1 : t.length ≤ 20000) (h2 : ts.length ≤ 4000) (h : LexTo [] t ts f) (hf : Skips f []) : (scan t).2.2 = 0 ∧ (scan t).1.map ktM = ts := by
 obtain ⟨l, e1, e2⟩ := lex_scan h hf (t.length + 1) t.length [] rfl (by omega) (by simpa using h2)
 rw [scan_of_ok h1 e1]
 exact ⟨rfl, by rw [e2]; rfl⟩
theorem LexTo.trans {p : List K} {r : List UInt8} {ts : List K} {f : List UInt8} (h : LexTo p r ts f) : ∀ {us : List K} {g : List UInt8}, LexTo (ts.reverse ++ p) f us g → LexTo p r (ts ++ us) g := by
 induction h with
 | nil p r => intro us g h2; exact h2
 | cons p r c t kind k ts f hs ho hr ih =>
  intro us g h2
  exact .cons _ r c t kind k _ _ hs ho (ih (by simpa using h2))
theorem LexTo.blank {p : List K} {c : UInt8} {r : List UInt8} {ts : List K} {f : List UInt8} (hb : isBlank c = true) (h : LexTo p r ts f) : ∃ g, LexTo p (c :: r) ts g ∧ (Skips f [] → Skips g []) ∧ (ts ≠ [] → g = f) := by
 cases h with
 | nil => exact ⟨c :: r, .nil _ _, fun h => .blank c r [] hb h, fun h => absurd rfl h⟩
 | cons _ _ d t kind k ts f hs ho hr => exact ⟨f, .cons p (c :: r) d t kind k ts f (.blank c r _ hb hs) ho hr, id, fun _ => rfl⟩
end Go.Proofs.Lx
set_option linter.unusedVariables false
set_option linter.unusedSimpArgs false
namespace Go.Proofs.YtadgddipkbdnbaaGreatDoor.Q
open Go.RowKit Go.Proofs.YtadgddipkbdnbaaGreatDoor YtadgddipkbdnbaaGreatDoorW.PrintWords YtadgddipkbdnbaaGreatDoorW.PrintLast
theorem wrapn {i : Int} (h0 : 0 ≤ i) (h : i < 9223372036854775808) : wrap64 i = i := by unfold wrap64; omega
theorem ba_len (s : ByteArray) : s.data.toList.length = s.size := by rw [Array.length_toList]; rfl
theorem strS_list (l : List UInt8) : (strS l).toList = l := by
 rw [ByteArray.toList_eq]; rfl
theorem kind_tail (t : ByteArray) : (if (Lx.scan t.data.toList).2.2 = 0 then (if ((((Lx.scan t.data.toList).1.map tokS).length : Nat) : Int) = 1 then (if (0 : Int) < ((((Lx.scan t.data.toList).1.map tokS).length : Nat) : Int) then (if ((rd_T38 ((Lx.scan t.data.toList).1.map tokS) 0).f1).toList = t.toList then (some ((rd_T38 ((Lx.scan t.data.toList).1.map tokS) 0).f0)) else (some 0)) else (none)) else (some 0)) else (some 0)) = some (Lx.kindM t.data.toList) := by
 rw [Lx.kindM_eq, ByteArray.toList_eq t]
 rcases Lx.scan t.data.toList with ⟨l, a, e⟩
 simp only
 by_cases he : e = 0
 ·rw [if_pos he, if_pos he]
  match l with
  | [] => rfl
  | [x] =>
   have e0 : rd_T38 ([x].map tokS) 0 = tokS x := rfl
   have e1 : ((tokS x).f1).toList = x.text := strS_list _
   have e2 : (tokS x).f0 = x.kind := rfl
   rw [e0, e1, e2, if_pos (show ((([x].map tokS).length : Nat) : Int) = 1 from rfl), if_pos (show (0 : Int) < ((([x].map tokS).length : Nat) : Int) by simp), if_pos (show [x].length = 1 from rfl)]
   simp only [List.head?_cons]
   split <;> rfl
  | x :: y :: l =>
   rw [if_neg (by simp; omega), if_neg (by simp)]
 ·rw [if_neg he, if_neg he]
theorem kind_f (t : ByteArray) : lex_Kind.f t = some (Lx.kindM t.data.toList) := by
 unfold lex_Kind.f lex_Scan.f
 exact kind_tail t
end Go.Proofs.YtadgddipkbdnbaaGreatDoor.Q
set_option linter.unusedVariables false
set_option linter.unusedSimpArgs false
namespace Go.Proofs.Lx
open Go.Proofs.YtadgddipkbdnbaaGreatDoor
def Tokk (d : Bool) (x : K) : Prop := one d x.2 = .ok (x.1, x.2.length) ∧ x.2 ≠ [] ∧ Skips x.2 x.2
theorem LexTo.one {p : List K} {x : K} (h : Tokk (opK p) x) {v : List UInt8} (hv : Bd v) : LexTo p (x.2 ++ v) [x] v := by
 obtain ⟨h1, h2, h3⟩ := h
 obtain ⟨kind, text⟩ := x
 simp only at h1 h2 h3
 cases text with
 | nil => exact absurd rfl h2
 | cons c t =>
  have h4 := one_agree (m := (c :: t).length) h1 (Nat.le_refl _) hv
  rw [List.take_length] at h4
  have e1 : (c :: (t ++ v)).take (c :: t).length = c :: t := by
   rw [← List.cons_append, List.take_append_of_le_length (Nat.le_refl _), List.take_length]
  have e2 : (c :: (t ++ v)).drop (c :: t).length = v := by
   rw [← List.cons_append, List.drop_append_of_le_length (Nat.le_refl _), List.drop_length, List.nil_append]
  have := LexTo.cons p (c :: t ++ v) c (t ++ v) kind (c :: t).length [] v (skips_app h3 (by simp) hv) h4 (by rw [e2]; exact .nil _ _)
  rw [e1] at this
  exact this
theorem kindM_of {x : K} (h : Tokk false x) (hl : x.2.length ≤ 20000) : kindM x.2 = x.1 := by
 have h1 := LexTo.one (p := []) h (.inl rfl)
 rw [List.append_nil] at h1
 obtain ⟨h2, h3⟩ := to_scan hl (by simp) h1 .nil
 rw [kindM_eq, if_pos h2]
 obtain ⟨a, e⟩ : ∃ a, (scan x.2).1 = [a] := by
  cases hs : (scan x.2).1 with
  | nil => rw [hs] at h3; cases h3
  | cons a l =>
   cases l with
   | nil => exact ⟨a, rfl⟩
   | cons b l => rw [hs] at h3; simp at h3
 rw [e] at h3 ⊢
 simp only [List.map_cons, List.map_nil, List.cons.injEq, and_true] at h3
 rw [if_pos (show [a].length = 1 from rfl)]
 simp only [List.head?_cons]
 rw [← h3]
 simp [ktM]
end Go.Proofs.Lx
namespace Go.Proofs.YtadgddipkbdnbaaGreatDoor.Q
open Go.Proofs.YtadgddipkbdnbaaGreatDoor Go.RowKit Go.Proofs.YtadgddipkbdnbaaGreatDoorW.PrintWords Go.Proofs.YtadgddipkbdnbaaGreatDoorW.PrintLast Go.Proofs.YtadgddipkbdnbaaGreatDoorW.PrintMore
attribute [local go_sem] max2_int min2_int max_two min_two max_three min_three max_four min_four   
set_option linter.unusedVariables false
set_option linter.unusedSimpArgs false
def taplinelaw11_digits.f : Nat → Int → Int → Option (ByteArray)
 | 0, _, _ => none
 | k + 1, a0, a1 => if a1 = 0 then (none) else (if 0 ≤ (Int.tmod a0 a1) then (if (Int.tmod a0 a1) ≤ (IntKind.u64.wrap ((Int.tmod a0 a1) + 1)) then (if (IntKind.u64.wrap ((Int.tmod a0 a1) + 1)) ≤ 16 then (if a0 < a1 then (some ((⟨#[48, 49, 50, 51, 52, 53, 54, 55, 56, 57, 97, 98, 99, 100, 101, 102]⟩ : ByteArray).extract ((Int.tmod a0 a1) : Int).toNat ((IntKind.u64.wrap ((Int.tmod a0 a1) + 1)) : Int).toNat)) else ((taplinelaw11_digits.f k (IntKind.u64.wrap (Int.tdiv a0 a1)) a1).bind fun t360 => (if t360.size + ((⟨#[48, 49, 50, 51, 52, 53, 54, 55, 56, 57, 97, 98, 99, 100, 101, 102]⟩ : ByteArray).extract ((Int.tmod a0 a1) : Int).toNat ((IntKind.u64.wrap ((Int.tmod a0 a1) + 1)) : Int).toNat).size ≤ 9223372036854775807 then (some (t360 ++ ((⟨#[48, 49, 50, 51, 52, 53, 54, 55, 56, 57, 97, 98, 99, 100, 101, 102]⟩ : ByteArray).extract ((Int.tmod a0 a1) : Int).toNat ((IntKind.u64.wrap ((Int.tmod a0 a1) + 1)) : Int).toNat))) else (none)))) else (none)) else (none)) else (none))
theorem taplinelaw11_digits.mono_l : ∀ k, (∀ y0 y1, LeO (taplinelaw11_digits.f k y0 y1) (taplinelaw11_digits.f (k + 1) y0 y1))
 | 0 => fun _ _ r h => by simp [taplinelaw11_digits.f] at h
 | k + 1 => by
  have ih0 := taplinelaw11_digits.mono_l k
  ·intro y0 y1
   unfold taplinelaw11_digits.f
   repeat' first
   | (with_reducible exact ih0 _ _)
   | (with_reducible exact LeO.refl _)
   | (with_reducible exact LeO.none _)
   | (with_reducible refine LeO.ite ?_ ?_)
   | (with_reducible refine LeO.bind ?_ (fun _ => ?_))
   | exact LeO.none _
   | refine LeO.ite ?_ ?_
   | refine LeO.bind ?_ (fun _ => ?_)
theorem taplinelaw11_digits.mono : ∀ a0 a1 k, LeO (taplinelaw11_digits.f k a0 a1) (taplinelaw11_digits.f (k + 1) a0 a1) := by
 intro a0 a1 k
 have ih0 := taplinelaw11_digits.mono_l k
 exact ih0 a0 a1
set_option maxHeartbeats 8000000 in
set_option maxRecDepth 100000 in
theorem taplinelaw11_digits.calls (k : Nat) : ∀ (a0 : Int) (a1 : Int) (r : ByteArray) (w : World) (h : taplinelaw11_digits.f k a0 a1 = some r),
  Calls Tryz.prog 30 #[.int .u64 a0, .int .u64 a1] w fun e w' => e = .returned (.string r) ∧ Drawn0 w w' := by
 induction k using Nat.strongRecOn with
 | _ k ih =>
 intro a0 a1 r w h
 cases k with
 | zero => exact absurd h (by simp [taplinelaw11_digits.f])
 | succ k =>
 simp only [taplinelaw11_digits.f] at h
 have H : (if a1 = 0 then (none) else (if 0 ≤ (Int.tmod a0 a1) then (if (Int.tmod a0 a1) ≤ (IntKind.u64.wrap ((Int.tmod a0 a1) + 1)) then (if (IntKind.u64.wrap ((Int.tmod a0 a1) + 1)) ≤ 16 then (if a0 < a1 then (some ((⟨#[48, 49, 50, 51, 52, 53, 54, 55, 56, 57, 97, 98, 99, 100, 101, 102]⟩ : ByteArray).extract ((Int.tmod a0 a1) : Int).toNat ((IntKind.u64.wrap ((Int.tmod a0 a1) + 1)) : Int).toNat)) else ((taplinelaw11_digits.f k (IntKind.u64.wrap (Int.tdiv a0 a1)) a1).bind fun t360 => (if t360.size + ((⟨#[48, 49, 50, 51, 52, 53, 54, 55, 56, 57, 97, 98, 99, 100, 101, 102]⟩ : ByteArray).extract ((Int.tmod a0 a1) : Int).toNat ((IntKind.u64.wrap ((Int.tmod a0 a1) + 1)) : Int).toNat).size ≤ 9223372036854775807 then (some (t360 ++ ((⟨#[48, 49, 50, 51, 52, 53, 54, 55, 56, 57, 97, 98, 99, 100, 101, 102]⟩ : ByteArray).extract ((Int.tmod a0 a1) : Int).toNat ((IntKind.u64.wrap ((Int.tmod a0 a1) + 1)) : Int).toNat))) else (none)))) else (none)) else (none)) else (none))) = some r := h
 clear h
 by_cases c3 : a1 = 0
 ·rw [if_pos c3] at H
  exact absurd H (by simp)
 ·rw [if_neg c3] at H
  have c3b0 : (a1 == 0) = false := beq_eq_false_iff_ne.mpr c3
  have c3b1 : (a1 != 0) = true := bne_iff_ne.mpr c3
  obtain ⟨ji4, hji4⟩ : ∃ j_ : Int, (Int.tmod a0 a1) = j_ := ⟨_, rfl⟩
  replace H : (if 0 ≤ (ji4) then (if (ji4) ≤ (IntKind.u64.wrap ((ji4) + 1)) then (if (IntKind.u64.wrap ((ji4) + 1)) ≤ 16 then (if a0 < a1 then (some ((⟨#[48, 49, 50, 51, 52, 53, 54, 55, 56, 57, 97, 98, 99, 100, 101, 102]⟩ : ByteArray).extract ((ji4) : Int).toNat ((IntKind.u64.wrap ((ji4) + 1)) : Int).toNat)) else ((taplinelaw11_digits.f k (IntKind.u64.wrap (Int.tdiv a0 a1)) a1).bind fun t360 => (if t360.size + ((⟨#[48, 49, 50, 51, 52, 53, 54, 55, 56, 57, 97, 98, 99, 100, 101, 102]⟩ : ByteArray).extract ((ji4) : Int).toNat ((IntKind.u64.wrap ((ji4) + 1)) : Int).toNat).size ≤ 9223372036854775807 then (some (t360 ++ ((⟨#[48, 49, 50, 51, 52, 53, 54, 55, 56, 57, 97, 98, 99, 100, 101, 102]⟩ : ByteArray).extract ((ji4) : Int).toNat ((IntKind.u64.wrap ((ji4) + 1)) : Int).toNat))) else (none)))) else (none)) else (none)) else (none)) = some r := by first | (rw [hji4] at H; exact H) | (simp only [hji4] at H ⊢; exact H)
  by_cases c5 : 0 ≤ (ji4)
  ·rw [if_pos c5] at H
   have c5b0 := eq_true c5
   have c5b1 : decide (0 ≤ (ji4)) = true := decide_eq_true c5
   clear c5
   by_cases c6 : (ji4) ≤ (IntKind.u64.wrap ((ji4) + 1))
   ·rw [if_pos c6] at H
    have c6b0 := eq_true c6
    have c6b1 : decide ((ji4) ≤ (IntKind.u64.wrap ((ji4) + 1))) = true := decide_eq_true c6
    by_cases c7 : (IntKind.u64.wrap ((ji4) + 1)) ≤ 16
    ·rw [if_pos c7] at H
     have c7b0 := eq_true c7
     have c7b1 : decide ((IntKind.u64.wrap ((ji4) + 1)) ≤ 16) = true := decide_eq_true c7
     by_cases c8 : a0 < a1
     ·rw [if_pos c8] at H
      have c8b0 : decide (a0 < a1) = true := decide_eq_true c8
      clear c8
      obtain rfl := Option.some.inj H
      go_enter Tryz.func30, Tryz.ntmps30
      go_wp2
      repeat (go_quiet (fail); try go_wp2)
      go_ret
      exact ⟨by first | rfl | (simp; done) | (simp only [← hji4] <;> (first | rfl | simp)) | (simp [*]; done), by repeat (first | exact Drawn0.refl _ | apply Drawn0.step)⟩
     ·rw [if_neg c8] at H
      have c8b0 : decide (a0 < a1) = false := decide_eq_false c8
      clear c8
      replace H := Option.bind_eq_some_iff.mp H
      obtain ⟨t360, A90, H⟩ := H
      replace H : (if t360.size + ((⟨#[48, 49, 50, 51, 52, 53, 54, 55, 56, 57, 97, 98, 99, 100, 101, 102]⟩ : ByteArray).extract ((ji4) : Int).toNat ((IntKind.u64.wrap ((ji4) + 1)) : Int).toNat).size ≤ 9223372036854775807 then (some (t360 ++ ((⟨#[48, 49, 50, 51, 52, 53, 54, 55, 56, 57, 97, 98, 99, 100, 101, 102]⟩ : ByteArray).extract ((ji4) : Int).toNat ((IntKind.u64.wrap ((ji4) + 1)) : Int).toNat))) else (none)) = some r := H
      have A9 := Aside0.mk A90
      clear A90
      by_cases c10 : t360.size + ((⟨#[48, 49, 50, 51, 52, 53, 54, 55, 56, 57, 97, 98, 99, 100, 101, 102]⟩ : ByteArray).extract ((ji4) : Int).toNat ((IntKind.u64.wrap ((ji4) + 1)) : Int).toNat).size ≤ 9223372036854775807
      ·rw [if_pos c10] at H
       have c10b0 := eq_true c10
       have c10b1 : decide (t360.size + ((⟨#[48, 49, 50, 51, 52, 53, 54, 55, 56, 57, 97, 98, 99, 100, 101, 102]⟩ : ByteArray).extract ((ji4) : Int).toNat ((IntKind.u64.wrap ((ji4) + 1)) : Int).toNat).size ≤ 9223372036854775807) = true := decide_eq_true c10
       try have c10b2 : (9223372036854775807 < t360.size + ((⟨#[48, 49, 50, 51, 52, 53, 54, 55, 56, 57, 97, 98, 99, 100, 101, 102]⟩ : ByteArray).extract ((ji4) : Int).toNat ((IntKind.u64.wrap ((ji4) + 1)) : Int).toNat).size) = False := eq_false (Nat.not_lt.2 c10)
       obtain rfl := Option.some.inj H
       go_enter Tryz.func30, Tryz.ntmps30
       go_wp2_with (first | (go_at_call 30; (with_reducible refine (ih k (by omega) (IntKind.u64.wrap (Int.tdiv a0 a1)) a1 t360 _ A9.out).mono ?_); rintro e w' ⟨rfl, ⟨nd, rfl⟩⟩; (try first | exact ⟨rfl, _, World.drewN_drewN _ _ _⟩ | exact ⟨rfl, _, Eq.trans (World.drewN_drewN _ _ _) (congrArg (World.drewN _) (Nat.add_assoc _ _ _))⟩)))
       repeat (go_quiet (first | (go_at_call 30; (with_reducible refine (ih k (by omega) (IntKind.u64.wrap (Int.tdiv a0 a1)) a1 t360 _ A9.out).mono ?_); rintro e w' ⟨rfl, ⟨nd, rfl⟩⟩; (try first | exact ⟨rfl, _, World.drewN_drewN _ _ _⟩ | exact ⟨rfl, _, Eq.trans (World.drewN_drewN _ _ _) (congrArg (World.drewN _) (Nat.add_assoc _ _ _))⟩))); try go_wp2_with (first | (go_at_call 30; (with_reducible refine (ih k (by omega) (IntKind.u64.wrap (Int.tdiv a0 a1)) a1 t360 _ A9.out).mono ?_); rintro e w' ⟨rfl, ⟨nd, rfl⟩⟩; (try first | exact ⟨rfl, _, World.drewN_drewN _ _ _⟩ | exact ⟨rfl, _, Eq.trans (World.drewN_drewN _ _ _) (congrArg (World.drewN _) (Nat.add_assoc _ _ _))⟩))))
       go_ret
       exact ⟨by first | rfl | (simp; done) | (simp only [← hji4] <;> (first | rfl | simp)) | (simp [*]; done), by repeat (first | exact Drawn0.refl _ | apply Drawn0.step)⟩
      ·rw [if_neg c10] at H
       exact absurd H (by simp)
    ·rw [if_neg c7] at H
     exact absurd H (by simp)
   ·rw [if_neg c6] at H
    exact absurd H (by simp)
  ·rw [if_neg c5] at H
   exact absurd H (by simp)
end Go.Proofs.YtadgddipkbdnbaaGreatDoor.Q
