/- Parts of the proof: For every string, Quote and Unquote of the program return what the specification's return; the inputs read as they did; the package-level variables hold what the program's text lays in them: the tied card. -/
import Derived.Test.YtadgddipkbdnbaaGreatDoorLexP1
import Derived.Test.YtadgddipkbdnbaaGreatDoorLexP2
import Derived.Test.YtadgddipkbdnbaaGreatDoorLexP3
import Derived.Test.YtadgddipkbdnbaaGreatDoorLexP4
import Derived.Test.YtadgddipkbdnbaaGreatDoorLexP7
import Derived.Test.YtadgddipkbdnbaaGreatDoorLexP8
import Derived.Test.YtadgddipkbdnbaaGreatDoorLexP10
import Derived.Test.YtadgddipkbdnbaaGreatDoorLexR1
import Derived.Test.YtadgddipkbdnbaaGreatDoorLexR8
import Derived.Test.YtadgddipkbdnbaaGreatDoorLexR9
import Derived.Test.YtadgddipkbdnbaaGreatDoorLexQuotesZ1
import Derived.Test.YtadgddipkbdnbaaGreatDoorProg
import Derived.WalkKit
import Derived.Lib.Hide
import Derived.Lib.LaidTab
import Derived.Shelf.Strings.SplitShaped
import Derived.WalkSpells
import Derived.WalkLawsBesides
import Derived.Deep.LoopGhost
import Derived.BigQuiet
import Derived.Deep.QuietTactic
import Derived.Below
import Derived.Deep.Draws
import Derived.Deep.AppendLies
import Derived.Maps.AppendAt
import Derived.OwnWalk
import Derived.Laws.BytesArg
import Derived.Laws.MakeOwn
import Derived.Laws.OwnMore
import Derived.Deep.OwnRows
import Derived.Tactics
import Derived.Lib.ConvBytes
import Derived.Laws.Slices
import Derived.KernelRfl
import Derived.RowKit3
import Derived.WideLaws
import Derived.Deep.DeepCutAuto
import Derived.Deep.CutBlock
import Derived.Deep.RegionHeld3
import Derived.Laws.Rows
import Derived.Lib.AppendStr
import Derived.ArgAppend
import Derived.Laws.IdiomCopy
import Derived.OrdersHeld
import Derived.Laws.BitsLemmas
import Derived.RowKit
set_option linter.unusedVariables false
set_option linter.unusedSimpArgs false
namespace Go.Proofs.YtadgddipkbdnbaaGreatDoor
open Go.RowKit
theorem ret_str {a b : ByteArray} (h : a = b) : Ending.returned (.string a) = .returned (.string b) := by rw [h]
end Go.Proofs.YtadgddipkbdnbaaGreatDoor
namespace Go.Proofs.YtadgddipkbdnbaaGreatDoor.Q
open Go.Proofs.YtadgddipkbdnbaaGreatDoor Go.RowKit Go.Proofs.YtadgddipkbdnbaaGreatDoorW.PrintWords Go.Proofs.YtadgddipkbdnbaaGreatDoorW.PrintLast Go.Proofs.YtadgddipkbdnbaaGreatDoorW.PrintMore
attribute [local go_sem] max2_int min2_int max_two min_two max_three min_three max_four min_four   
set_option linter.unusedVariables false
set_option linter.unusedSimpArgs false
theorem info5 : (Tryz.prog.info? 5).map (fun i => (i.zero, i.size, i.bytes)) = some (some (.int .u8 0), 1, 1) := by kernel_rfl
end Go.Proofs.YtadgddipkbdnbaaGreatDoor.Q
set_option linter.unusedVariables false
set_option linter.unusedSimpArgs false
namespace Go.Proofs.Lx
open Go.Proofs.YtadgddipkbdnbaaGreatDoor
theorem scanF_ext : ∀ (n : Nat) {len : Nat} {pre : List Tok} {r : List UInt8} {l : List Tok}, scanF len n pre r = .ok l → ∃ m, l = pre.reverse ++ m
 | 0, _, _, _, _, h => by cases h; exact ⟨[], by simp⟩
 | n + 1, len, pre, r, l, h => by
  rw [scanF] at h
  cases hs : skip r with
  | error c => rw [hs] at h; cases h
  | ok r' =>
   rw [hs] at h
   cases r' with
   | nil => cases h; exact ⟨[], by simp⟩
   | cons c t =>
    simp only at h
    cases ho : one (opens pre) (c :: t) with
    | error e' => rw [ho] at h; cases h
    | ok p =>
     obtain ⟨kind, k⟩ := p
     rw [ho] at h
     simp only at h
     split at h
     ·cases h
     ·obtain ⟨m, hm⟩ := scanF_ext n h
      exact ⟨⟨kind, (c :: t).take k, len - (c :: t).length⟩ :: m, by rw [hm]; simp⟩
def kindM (t : List UInt8) : Int := match scan t with
 | ([x], _, e) => if e = 0 ∧ x.text = t then x.kind else 0
 | _ => 0
theorem scan_ok {t : List UInt8} (h : (scan t).2.2 = 0) : t.length ≤ 20000 ∧ scanR t.length [] t = .ok (scan t).1 ∧ (scan t).2.1 = 0 := by
 rw [scan_eq] at h ⊢
 split
 ·rename_i h2; rw [if_pos h2] at h; cases h
 ·rename_i h2
  rw [if_neg h2] at h
  cases hr : scanR t.length [] t with
  | ok l => exact ⟨by omega, rfl, rfl⟩
  | error p => rw [hr] at h; exact absurd h (scanR_err (x := p.1) (e := p.2) hr)
theorem kindM_one {t : List UInt8} (h : kindM t ≠ 0) : t.length ≤ 20000 ∧ one false t = .ok (kindM t, t.length) ∧ skip t = .ok t ∧ t ≠ [] := by
 unfold kindM at h ⊢
 split at h
 ·rename_i x at_ e he
  split at h
  ·rename_i hc
   rw [if_pos hc]
   obtain ⟨h0, hx⟩ := hc
   have hz : (scan t).2.2 = 0 := by rw [he]; exact h0
   obtain ⟨hl, hr, -⟩ := scan_ok hz
   rw [he, scanR_eq] at hr
   simp only at hr
   refine ⟨hl, ?_⟩
   cases hs : skip t with
   | error c => rw [hs] at hr; cases hr
   | ok r' =>
    rw [hs] at hr
    obtain ⟨i, hi, hil⟩ := skip_ok_suffix hs
    cases r' with
    | nil => cases hr
    | cons c u =>
     simp only [scanT] at hr
     cases ho : one (opens []) (c :: u) with
     | error e' => rw [ho] at hr; cases hr
     | ok p =>
      obtain ⟨kind, k⟩ := p
      rw [ho] at hr
      simp only at hr
      rw [if_neg (by simp)] at hr
      obtain ⟨m, hm⟩ := scanF_ext _ hr
      simp only [List.reverse_cons, List.reverse_nil, List.nil_append, List.singleton_append, List.cons.injEq] at hm
      obtain ⟨rfl, -⟩ := hm
      have hk := one_len _ _ _ _ ho
      simp only at hx
      have e1 : (c :: u).length = t.length := by
       have e2 := congrArg List.length hx
       rw [List.length_take] at e2
       have e3 := congrArg List.length hi
       rw [List.length_drop] at e3
       omega
      have e4 : c :: u = t := by
       have e3 := congrArg List.length hi
       rw [List.length_drop] at e3
       have : i = 0 := by omega
       rw [this] at hi
       exact hi
      have e5 : k = t.length := by
       have e2 := congrArg List.length hx
       rw [List.length_take] at e2
       omega
      rw [e4] at ho
      refine ⟨?_, by rw [e4], by rw [← e4]; simp⟩
      rw [← e5]
      exact ho
  ·exact absurd rfl h
 ·exact absurd rfl h
theorem kindM_eq (t : List UInt8) : kindM t = if (scan t).2.2 = 0 then (if (scan t).1.length = 1 then (match (scan t).1.head? with | some x => if x.text = t then x.kind else 0 | none => 0) else 0) else 0 := by
 unfold kindM
 rcases hs : scan t with ⟨l, a, e⟩
 match l with
 | [] => simp
 | [x] => by_cases h : e = 0 <;> simp [h]
 | x :: y :: l => simp
end Go.Proofs.Lx
set_option linter.unusedVariables false
set_option linter.unusedSimpArgs false
namespace Go.Proofs.Lx
open Go.Proofs.YtadgddipkbdnbaaGreatDoor
def Bd (v : List UInt8) : Prop := v = [] ∨ ∃ c u, v = c :: u ∧ isBlank c = true
theorem blank_cases {c : UInt8} (h : isBlank c = true) : c = 32 ∨ c = 9 ∨ c = 13 ∨ c = 10 := by
 simp only [isBlank, Bool.or_eq_true, beq_iff_eq] at h
 rcases h with ((h | h) | h) | h <;> simp [h]
theorem blank_desc {c : UInt8} (h : isBlank c = true) : isDescB c = false := by
 rcases blank_cases h with h | h | h | h <;> subst h <;> decide
theorem blank_word {c : UInt8} (h : isBlank c = true) : isWord c = false := by
 rcases blank_cases h with h | h | h | h <;> subst h <;> decide
theorem tw_agree (p : UInt8 → Bool) (hp : ∀ c, isBlank c = true → p c = false) {v : List UInt8} (hv : Bd v) : ∀ (r : List UInt8) (m : Nat), (r.takeWhile p).length ≤ m → (r.take m ++ v).takeWhile p = r.takeWhile p
 | [], m, _ => by
  rw [List.take_nil, List.nil_append]
  rcases hv with h | ⟨c, u, h, hb⟩
  ·rw [h]
  ·rw [h, List.takeWhile_cons, if_neg (by rw [hp c hb]; decide)]; rfl
 | c :: r, m, h => by
  by_cases hc : p c = true
  ·rw [List.takeWhile_cons, if_pos hc, List.length_cons] at h
   obtain ⟨m', rfl⟩ : ∃ x, m = x + 1 := ⟨m - 1, by omega⟩
   rw [List.take_succ_cons, List.cons_append, List.takeWhile_cons, if_pos hc, List.takeWhile_cons, if_pos hc, tw_agree p hp hv r m' (by omega)]
  ·rw [List.takeWhile_cons, if_neg hc]
   cases m with
   | zero =>
    rw [List.take_zero, List.nil_append]
    rcases hv with h | ⟨c, u, h, hb⟩
    ·rw [h]; rfl
    ·rw [h, List.takeWhile_cons, if_neg (by rw [hp c hb]; decide)]
   | succ m => rw [List.take_succ_cons, List.cons_append, List.takeWhile_cons, if_neg hc]
theorem take_agree {r : List UInt8} {k m : Nat} (v : List UInt8) (hk : k ≤ m) (hr : k ≤ r.length) : (r.take m ++ v).take k = r.take k := by
 rw [List.take_append_of_le_length (by rw [List.length_take]; omega), List.take_take, Nat.min_eq_left hk]
theorem hexes_agree {t t' : List UInt8} {v : UInt8} {k : Nat} (h : hexes t = some (v, k)) (e : t'.take 2 = t.take 2) : hexes t' = some (v, k) := by
 match t with
 | [] => cases h
 | [x] => cases h
 | x :: y :: r =>
  match t' with
  | [] => cases e
  | [x'] => cases e
  | x' :: y' :: r' =>
   simp only [List.take_succ_cons, List.take_zero, List.cons.injEq] at e
   obtain ⟨rfl, rfl, -⟩ := e
   exact h
theorem hexes_four {t : List UInt8} {v : UInt8} {k : Nat} (h : hexes t = some (v, k)) : k = 4 := by
 unfold hexes at h
 split at h
 ·split at h
  ·simp at h; exact h.2.symm
  ·cases h
 ·cases h
theorem char_agree {t t' : List UInt8} {v : UInt8} {k : Nat} (h : char t = some (v, k)) (e : t'.take k = t.take k) : char t' = some (v, k) := by
 have hk := char_len _ _ _ h
 cases t with
 | nil => cases h
 | cons c t =>
  obtain ⟨k', rfl⟩ : ∃ x, k = x + 1 := ⟨k - 1, by omega⟩
  cases t' with
  | nil => rw [List.take_nil, List.take_succ_cons] at e; cases e
  | cons c' t' =>
   simp only [List.take_succ_cons, List.cons.injEq] at e
   obtain ⟨rfl, e⟩ := e
   simp only [char, charC] at h ⊢
   split
   ·rename_i h0; rw [if_pos h0] at h; cases h
   ·rename_i h0
    rw [if_neg h0] at h
    split
    ·rename_i h1; rw [if_pos h1] at h; exact h
    ·rename_i h1
     rw [if_neg h1] at h
     cases t with
     | nil => cases h
     | cons d u =>
      simp only [escT, esc] at h
      have hk1 : 1 ≤ k' := by
       rcases Nat.eq_zero_or_pos k' with h0 | h0
       ·exfalso
        rw [h0] at h
        repeat' (first | (split at h) | (simp at h; done))
        all_goals first | (have := hexes_four h; omega) | (simp at h; done)
       ·exact h0
      obtain ⟨k2, rfl⟩ : ∃ x, k' = x + 1 := ⟨k' - 1, by omega⟩
      cases t' with
      | nil => rw [List.take_nil, List.take_succ_cons] at e; cases e
      | cons d' u' =>
       simp only [List.take_succ_cons, List.cons.injEq] at e
       obtain ⟨rfl, e⟩ := e
       simp only [escT, esc]
       split
       ·rename_i hh; rw [if_pos hh] at h; exact h
       ·rename_i hh
        rw [if_neg hh] at h
        split
        ·rename_i hh; rw [if_pos hh] at h; exact h
        ·rename_i hh
         rw [if_neg hh] at h
         split
         ·rename_i hh; rw [if_pos hh] at h; exact h
         ·rename_i hh
          rw [if_neg hh] at h
          split
          ·rename_i hh; rw [if_pos hh] at h; exact h
          ·rename_i hh
           rw [if_neg hh] at h
           split
           ·rename_i hh; rw [if_pos hh] at h; cases h
           ·rename_i hh
            rw [if_neg hh] at h
            have := hexes_four h
            have : k2 = 2 := by omega
            subst this
            exact hexes_agree h e
theorem strF_agree : ∀ (n : Nat) {t t' vs : List UInt8} {m : Nat}, strF n t = some (vs, m) → t'.take m = t.take m → ∀ n', m ≤ n' → strF n' t' = some (vs, m)
 | 0, _, _, _, _, h, _, _, _ => by cases h
 | _ + 1, [], _, _, _, h, _, _, _ => by cases h
 | n + 1, c :: t, t', vs, m, h, e, n', hn => by
  have hm := strF_len _ _ _ _ h
  obtain ⟨m', rfl⟩ : ∃ x, m = x + 1 := ⟨m - 1, by omega⟩
  obtain ⟨n'', rfl⟩ : ∃ x, n' = x + 1 := ⟨n' - 1, by omega⟩
  rw [strF] at h
  cases t' with
  | nil => rw [List.take_nil, List.take_succ_cons] at e; cases e
  | cons c' t' =>
   have e0 := e
   simp only [List.take_succ_cons, List.cons.injEq] at e
   obtain ⟨rfl, e⟩ := e
   rw [strF]
   split
   ·rename_i h34; rw [if_pos h34] at h; exact h
   ·rename_i h34
    rw [if_neg h34] at h
    cases hc : char (c' :: t) with
    | none => rw [hc] at h; cases h
    | some p =>
     obtain ⟨v, k⟩ := p
     rw [hc] at h
     simp only at h
     cases hs : strF n ((c' :: t).drop k) with
     | none => rw [hs] at h; cases h
     | some q =>
      obtain ⟨ws, j⟩ := q
      rw [hs] at h
      simp only [Option.some.injEq, Prod.mk.injEq] at h
      obtain ⟨h1, h2⟩ := h
      have hk := char_len _ _ _ hc
      have e1 : (c' :: t').take k = (c' :: t).take k := by
       have := congrArg (List.take k) e0
       rw [List.take_take, List.take_take, Nat.min_eq_left (by omega)] at this
       exact this
      have e2 : ((c' :: t').drop k).take j = ((c' :: t).drop k).take j := by
       have := congrArg (List.drop k) e0
       rw [List.drop_take, List.drop_take, show m' + 1 - k = j by omega] at this
       exact this
      rw [char_agree hc e1]
      simp only
      rw [strF_agree n hs e2 n'' (by omega), ← h1, ← h2]
theorem sign_noblank : ∀ y ∈ signs, ∀ c ∈ y, isBlank c = false := by decide
theorem sign_back {y : List UInt8} (hy : y ∈ signs) {r v : List UInt8} {m : Nat} (hv : Bd v) (h : y <+: r.take m ++ v) : y <+: r := by
 rcases List.prefix_or_prefix_of_prefix h (List.prefix_append (r.take m) v) with h1 | ⟨z, hz⟩
 ·exact h1.trans (List.take_prefix m r)
 ·rw [← hz] at h
  have h2 := (List.prefix_append_right_inj _).1 h
  cases z with
  | nil => rw [List.append_nil] at hz; rw [← hz]; exact List.take_prefix m r
  | cons c z =>
   exfalso
   have hc := sign_noblank y hy c (by rw [← hz]; simp)
   obtain ⟨w, hw⟩ := h2
   rcases hv with h3 | ⟨c', u, h3, hb⟩
   ·rw [h3] at hw; cases hw
   ·rw [h3] at hw
    cases hw
    rw [hb] at hc; cases hc
theorem sign_agree {r v : List UInt8} {m : Nat} (hv : Bd v) (h0 : signLen r ≠ 0) (hm : signLen r ≤ m) : signLen (r.take m ++ v) = signLen r := by
 unfold signLen at h0 hm ⊢
 cases h : signs.find? fun x => x.isPrefixOf r with
 | none => rw [h] at h0; exact absurd rfl h0
 | some x =>
  rw [h] at hm h0
  simp only [Option.map_some, Option.getD_some] at hm h0 ⊢
  have hx := List.find?_eq_some_iff_append.1 h
  obtain ⟨hp, l1, l2, hl, hno⟩ := hx
  have hxr : x <+: r := List.isPrefixOf_iff_prefix.1 hp
  have hxt : x = r.take x.length := List.prefix_iff_eq_take.1 hxr
  have : signs.find? (fun x => x.isPrefixOf (r.take m ++ v)) = some x := by
   refine List.find?_eq_some_iff_append.2 ⟨?_, l1, l2, hl, fun a ha => ?_⟩
   ·refine List.isPrefixOf_iff_prefix.2 ?_
    refine List.IsPrefix.trans ?_ (List.prefix_append _ _)
    rw [hxt]
    refine ⟨(r.take m).drop x.length, ?_⟩
    have : r.take x.length = (r.take m).take x.length := by rw [List.take_take, Nat.min_eq_left hm]
    rw [this, List.take_append_drop]
   ·have := hno a ha
    cases hq : a.isPrefixOf (r.take m ++ v) with
    | false => rfl
    | true =>
     have h1 := sign_back (by rw [hl]; simp [ha]) hv (List.isPrefixOf_iff_prefix.1 hq)
     rw [List.isPrefixOf_iff_prefix.2 h1] at this
     cases this
  rw [this]
  rfl
theorem one_agree {d : Bool} {r v : List UInt8} {kind : Int} {k m : Nat} (h : one d r = .ok (kind, k)) (hk : k ≤ m) (hv : Bd v) : one d (r.take m ++ v) = .ok (kind, k) := by
 have hl := one_len _ _ _ _ h
 cases r with
 | nil => cases h
 | cons c t =>
  have ht : ∀ j, j ≤ k → ((c :: t).take m ++ v).take j = (c :: t).take j := fun j hj => take_agree v (by omega) (by omega)
  have tw : ∀ p : UInt8 → Bool, (∀ c, isBlank c = true → p c = false) → ((c :: t).takeWhile p).length ≤ m → ((c :: t).take m ++ v).takeWhile p = (c :: t).takeWhile p := fun p hp hm => tw_agree p hp hv _ _ hm
  have sg : signLen (c :: t) ≠ 0 → signLen (c :: t) ≤ m → signLen ((c :: t).take m ++ v) = signLen (c :: t) := fun h0 hm => sign_agree hv h0 hm
  obtain ⟨m', rfl⟩ : ∃ x, m = x + 1 := ⟨m - 1, by omega⟩
  rw [List.take_succ_cons, List.cons_append] at ht tw sg ⊢
  rw [one] at h ⊢
  split
  ·rename_i h1
   rw [if_pos h1] at h
   simp only at h ⊢
   split at h
   ·cases h
   ·rename_i h2
    obtain ⟨e1, e2⟩ := Prod.mk.inj (Except.ok.inj h)
    rw [tw isDescB (fun _ hb => blank_desc hb) (by omega), if_neg h2]
    exact h
  ·rename_i h1
   rw [if_neg h1] at h
   split
   ·rename_i h2
    rw [if_pos h2] at h
    simp only at h ⊢
    split at h
    ·cases h
    ·rename_i h3
     obtain ⟨e1, e2⟩ := Prod.mk.inj (Except.ok.inj h)
     rw [tw isWord (fun _ hb => blank_word hb) (by omega), if_neg h3, ht _ (by omega)]
     exact h
   ·rename_i h2
    rw [if_neg h2] at h
    split
    ·rename_i h3
     rw [if_pos h3] at h
     simp only at h ⊢
     split at h
     ·cases h
     ·rename_i h4
      obtain ⟨e1, e2⟩ := Prod.mk.inj (Except.ok.inj h)
      rw [tw isWord (fun _ hb => blank_word hb) (by omega), ht _ (by omega), if_neg h4]
      exact h
    ·rename_i h3
     rw [if_neg h3] at h
     have httail : ∀ j, j + 1 ≤ k → (t.take m' ++ v).take j = t.take j := fun j hj => by
      have := ht (j + 1) hj
      simp only [List.take_succ_cons, List.cons.injEq, true_and] at this
      exact this
     split
     ·rename_i h4
      rw [if_pos h4] at h
      cases hc : char t with
      | none => rw [hc] at h; cases h
      | some p =>
       obtain ⟨x, j⟩ := p
       rw [hc] at h
       simp only at h
       split at h
       ·cases h
       ·rename_i h5
        obtain ⟨e1, e2⟩ := Prod.mk.inj (Except.ok.inj h)
        rw [char_agree hc (httail j (by omega))]
        simp only
        have hj := char_len _ _ _ hc
        have g1 : (t.take m' ++ v).head? = t.head? := by
         have := httail 1 (by omega)
         have h' := congrArg List.head? this
         rw [List.head?_take, List.head?_take] at h'
         simpa using h'
        have g2 : ((t.take m' ++ v).drop j).head? = (t.drop j).head? := by
         have := congrArg (List.drop j) (httail (j + 1) (by omega))
         have h' := congrArg List.head? this
         rw [List.drop_take, List.drop_take, List.head?_take, List.head?_take] at h'
         simpa using h'
        rw [g1, g2, if_neg h5]
        exact h
     ·rename_i h4
      rw [if_neg h4] at h
      split
      ·rename_i h5
       rw [if_pos h5] at h
       cases hc : strF (t.length + 1) t with
       | none => rw [hc] at h; cases h
       | some p =>
        obtain ⟨x, j⟩ := p
        rw [hc] at h
        simp only at h
        obtain ⟨e1, e2⟩ := Prod.mk.inj (Except.ok.inj h)
        have hj := strF_len _ _ _ _ hc
        have hlen : j ≤ (t.take m' ++ v).length := by rw [List.length_append, List.length_take]; omega
        rw [strF_agree _ hc (httail j (by omega)) _ (by omega)]
        exact h
      ·rename_i h5
       rw [if_neg h5] at h
       split at h
       ·cases h
       ·rename_i h6
        obtain ⟨e1, e2⟩ := Prod.mk.inj (Except.ok.inj h)
        rw [sg h6 (by omega), if_neg h6]
        exact h
end Go.Proofs.Lx
set_option linter.unusedVariables false
set_option linter.unusedSimpArgs false
namespace Go.Proofs.Lx
open Go.Proofs.YtadgddipkbdnbaaGreatDoor
inductive Skips : List UInt8 → List UInt8 → Prop
 | nil : Skips [] []
 | stop (c : UInt8) (t : List UInt8) (h : isBlank c = false) (h1 : (c :: t).take 2 ≠ [47, 47]) (h2 : (c :: t).take 2 ≠ [47, 42]) : Skips (c :: t) (c :: t)
 | blank (c : UInt8) (t x : List UInt8) (h : isBlank c = true) (hs : Skips t x) : Skips (c :: t) x
 | line (t x : List UInt8) (hs : Skips (t.dropWhile (· != 10)) x) : Skips (47 :: 47 :: t) x
 | block (t u x : List UInt8) (hc : closed t = some u) (hs : Skips u x) : Skips (47 :: 42 :: t) x
theorem skip_bl (c : UInt8) (t : List UInt8) (h : isBlank c = true) : skip (c :: t) = skip t := by
 rw [skip_eq, skip_eq, List.dropWhile_cons, if_pos h]
theorem skip_li (t : List UInt8) : skip (47 :: 47 :: t) = skip (t.dropWhile (· != 10)) := by
 rw [skip_eq, List.dropWhile_cons, if_neg (by decide)]
 rfl
theorem skip_bo (t : List UInt8) : skip (47 :: 42 :: t) = match closed t with | none => .error (47 :: 42 :: t) | some u => skip u := by
 rw [skip_eq, List.dropWhile_cons, if_neg (by decide)]
 rfl
theorem skip_st (c : UInt8) (t : List UInt8) (h : isBlank c = false) (h1 : (c :: t).take 2 ≠ [47, 47]) (h2 : (c :: t).take 2 ≠ [47, 42]) : skip (c :: t) = .ok (c :: t) := by
 rw [skip_eq, List.dropWhile_cons, if_neg (by rw [h]; decide)]
 split
 ·rename_i e; rw [e] at h1; exact absurd rfl h1
 ·rename_i e; rw [e] at h2; exact absurd rfl h2
 ·rfl
theorem skip_of {r x : List UInt8} (h : Skips r x) : skip r = .ok x := by
 induction h with
 | nil => rfl
 | stop c t h h1 h2 => exact skip_st c t h h1 h2
 | blank c t x h hs ih => rw [skip_bl c t h, ih]
 | line t x hs ih => rw [skip_li, ih]
 | block t u x hc hs ih => rw [skip_bo, hc]; exact ih
theorem dw_append {p : UInt8 → Bool} {v : List UInt8} : ∀ {l : List UInt8}, l.dropWhile p ≠ [] → (l ++ v).dropWhile p = l.dropWhile p ++ v
 | [], h => absurd rfl h
 | c :: l, h => by
  rw [List.cons_append, List.dropWhile_cons, List.dropWhile_cons]
  split
  ·rename_i hc; rw [List.dropWhile_cons, if_pos hc] at h; exact dw_append h
  ·rfl
theorem closed_append (v : List UInt8) : ∀ (t u : List UInt8), closed t = some u → closed (t ++ v) = some (u ++ v)
 | [], u, h => by cases h
 | [_], u, h => by cases h
 | a :: b :: r, u, h => by
  rw [closed] at h
  show closed (a :: b :: (r ++ v)) = _
  rw [closed]
  split
  ·rename_i hc; rw [if_pos hc] at h; cases h; rfl
  ·rename_i hc; rw [if_neg hc] at h; exact closed_append v (b :: r) u h
theorem skips_app {r x : List UInt8} (h : Skips r x) (hx : x ≠ []) {v : List UInt8} (hv : Bd v) : Skips (r ++ v) (x ++ v) := by
 induction h with
 | nil => exact absurd rfl hx
 | stop c t h h1 h2 =>
  have tk : (c :: t ++ v).take 2 = (c :: t).take 2 ∨ ∃ b, (c :: t ++ v).take 2 = [c, b] ∧ isBlank b = true := by
   cases t with
   | cons d t => exact .inl rfl
   | nil =>
    rcases hv with hv | ⟨b, u, hv, hb⟩
    ·exact .inl (by rw [hv]; rfl)
    ·exact .inr ⟨b, by rw [hv]; rfl, hb⟩
  refine .stop c (t ++ v) h ?_ ?_
  ·rcases tk with tk | ⟨b, tk, hb⟩
   ·rw [← List.cons_append, tk]; exact h1
   ·rw [← List.cons_append, tk]
    intro e
    simp only [List.cons.injEq, and_true] at e
    rw [e.2] at hb; revert hb; decide
  ·rcases tk with tk | ⟨b, tk, hb⟩
   ·rw [← List.cons_append, tk]; exact h2
   ·rw [← List.cons_append, tk]
    intro e
    simp only [List.cons.injEq, and_true] at e
    rw [e.2] at hb; revert hb; decide
 | blank c t x h hs ih => exact .blank c (t ++ v) _ h (ih hx)
 | line t x hs ih =>
  refine .line (t ++ v) _ ?_
  have hne : t.dropWhile (· != 10) ≠ [] := by
   intro e
   rw [e] at hs
   cases hs
   exact hx rfl
  rw [dw_append hne]
  exact ih hx
 | block t u x hc hs ih => exact .block (t ++ v) (u ++ v) _ (closed_append v t u hc) (ih hx)
theorem skips_len {r x : List UInt8} (h : Skips r x) : x.length ≤ r.length := by
 obtain ⟨i, hi, -⟩ := skip_ok_suffix (skip_of h)
 rw [hi, List.length_drop]; omega
abbrev K := Int × List UInt8
def opK : List K → Bool
 | [] => false
 | t :: l => (t.1 == 2 && t.2 == probeW) || (t.1 == 5 && t.2 == [44] && match l with | [] => false | u :: _ => u.1 == 6)
inductive LexTo : List K → List UInt8 → List K → List UInt8 → Prop
 | nil (p : List K) (r : List UInt8) : LexTo p r [] r
 | cons (p : List K) (r : List UInt8) (c : UInt8) (t : List UInt8) (kind : Int) (k : Nat) (ts : List K) (f : List UInt8) (hs : Skips r (c :: t)) (ho : one (opK p) (c :: t) = .ok (kind, k))
   (hr : LexTo ((kind, (c :: t).take k) :: p) ((c :: t).drop k) ts f) : LexTo p r ((kind, (c :: t).take k) :: ts) f
theorem LexTo.len {p ts : List K} {r f : List UInt8} (h : LexTo p r ts f) : f.length + ts.length ≤ r.length := by
 induction h with
 | nil => simp
 | cons p r c t kind k ts f hs ho hr ih =>
  have h1 := skips_len hs
  have h2 := one_len _ _ _ _ ho
  rw [List.length_drop] at ih
  simp only [List.length_cons] at ih h1 h2 ⊢
  omega
theorem LexTo.ext {p : List K} {r : List UInt8} {ts : List K} {f : List UInt8} (h : LexTo p r ts f) {v : List UInt8} (hv : Bd v) : LexTo p (r ++ v) ts (f ++ v) := by
 induction h with
 | nil p r => exact .nil _ _
 | cons p r c t kind k ts f hs ho hr ih =>
  have hk := one_len _ _ _ _ ho
  have h1 := skips_app hs (by simp) hv
  have h2 := one_agree (m := (c :: t).length) ho hk.2 hv
  rw [List.take_length] at h2
  have e1 : (c :: (t ++ v)).take k = (c :: t).take k := by rw [← List.cons_append, List.take_append_of_le_length hk.2]
  have e2 : (c :: (t ++ v)).drop k = (c :: t).drop k ++ v := by rw [← List.cons_append, List.drop_append_of_le_length hk.2]
  have := LexTo.cons p (r ++ v) c (t ++ v) kind k ts (f ++ v) h1 h2 (by rw [e1, e2]; exact ih)
  rw [e1] at this
  exact this
theorem LexTo.trans {p : List K} {r : List UInt8} {ts : List K} {f : List UInt8} (h : LexTo p r ts f) : ∀ {us : List K} {g : List UInt8}, LexTo (ts.reverse ++ p) f us g → LexTo p r (ts ++ us) g := by
 induction h with
 | nil p r => intro us g h2; exact h2
 | cons p r c t kind k ts f hs ho hr ih =>
  intro us g h2
  exact .cons _ r c t kind k _ _ hs ho (ih (by simpa using h2))
theorem LexTo.blank {p : List K} {c : UInt8} {r : List UInt8} {ts : List K} {f : List UInt8} (hb : isBlank c = true) (h : LexTo p r ts f) : ∃ g, LexTo p (c :: r) ts g ∧ (Skips f [] → Skips g []) ∧ (ts ≠ [] → g = f) := by
 cases h with
 | nil => exact ⟨c :: r, .nil _ _, fun h => .blank c r [] hb h, fun h => absurd rfl h⟩
 | cons _ _ d t kind k ts f hs ho hr => exact ⟨f, .cons p (c :: r) d t kind k ts f (.blank c r _ hb hs) ho hr, id, fun _ => rfl⟩
end Go.Proofs.Lx
set_option linter.unusedVariables false
set_option linter.unusedSimpArgs false
namespace Go.Proofs.YtadgddipkbdnbaaGreatDoor.Q
open Go.RowKit Go.Proofs.YtadgddipkbdnbaaGreatDoor YtadgddipkbdnbaaGreatDoorW.PrintWords YtadgddipkbdnbaaGreatDoorW.PrintLast
theorem wrapn {i : Int} (h0 : 0 ≤ i) (h : i < 9223372036854775808) : wrap64 i = i := by unfold wrap64; omega
theorem ba_len (s : ByteArray) : s.data.toList.length = s.size := by rw [Array.length_toList]; rfl
theorem strS_list (l : List UInt8) : (strS l).toList = l := by
 rw [ByteArray.toList_eq]; rfl
theorem ev_bind {α β : Type} {x : Nat → Option α} {a : α} {f : Nat → α → Option β} {r : β} (hx : Ev x a) (hf : Ev (fun k => f k a) r) : Ev (fun k => (x k).bind (f k)) r := by
 obtain ⟨K, hK⟩ := hf
 obtain ⟨K2, hK2⟩ := hx
 exact ⟨K + K2, fun k hk => by
  show (x k).bind (f k) = some r
  rw [hK2 k (by omega)]; exact hK k (by omega)⟩
theorem kind_tail (t : ByteArray) : (if (Lx.scan t.data.toList).2.2 = 0 then (if ((((Lx.scan t.data.toList).1.map tokS).length : Nat) : Int) = 1 then (if (0 : Int) < ((((Lx.scan t.data.toList).1.map tokS).length : Nat) : Int) then (if ((rd_T38 ((Lx.scan t.data.toList).1.map tokS) 0).f1).toList = t.toList then (some ((rd_T38 ((Lx.scan t.data.toList).1.map tokS) 0).f0)) else (some 0)) else (none)) else (some 0)) else (some 0)) = some (Lx.kindM t.data.toList) := by
 rw [Lx.kindM_eq, ByteArray.toList_eq t]
 rcases Lx.scan t.data.toList with ⟨l, a, e⟩
 simp only
 by_cases he : e = 0
 ·rw [if_pos he, if_pos he]
  match l with
  | [] => rfl
  | [x] =>
   have e0 : rd_T38 ([x].map tokS) 0 = tokS x := rfl
   have e1 : ((tokS x).f1).toList = x.text := strS_list _
   have e2 : (tokS x).f0 = x.kind := rfl
   rw [e0, e1, e2, if_pos (show ((([x].map tokS).length : Nat) : Int) = 1 from rfl), if_pos (show (0 : Int) < ((([x].map tokS).length : Nat) : Int) by simp), if_pos (show [x].length = 1 from rfl)]
   simp only [List.head?_cons]
   split <;> rfl
  | x :: y :: l =>
   rw [if_neg (by simp; omega), if_neg (by simp)]
 ·rw [if_neg he, if_neg he]
theorem kind_f (t : ByteArray) : lex_Kind.f t = some (Lx.kindM t.data.toList) := by
 unfold lex_Kind.f lex_Scan.f
 exact kind_tail t
end Go.Proofs.YtadgddipkbdnbaaGreatDoor.Q
namespace Go.Proofs.YtadgddipkbdnbaaGreatDoor.Q
open Go.Proofs.YtadgddipkbdnbaaGreatDoor Go.RowKit Go.Proofs.YtadgddipkbdnbaaGreatDoorW.PrintWords Go.Proofs.YtadgddipkbdnbaaGreatDoorW.PrintLast Go.Proofs.YtadgddipkbdnbaaGreatDoorW.PrintMore
attribute [local go_sem] max2_int min2_int max_two min_two max_three min_three max_four min_four   
set_option linter.unusedVariables false
set_option linter.unusedSimpArgs false
def taplineref11_Kind.f (k : Nat) (a0 : ByteArray) : Option (Int) := (taplineref11_Scan.f k a0).bind fun bt205 => (if bt205.2.2 = 0 then (if (bt205.1.length : Int) = 1 then (if 0 < (bt205.1.length : Int) then (if ((rd_T38 bt205.1 0).f1).toList = a0.toList then (some ((rd_T38 bt205.1 0).f0)) else (some 0)) else (none)) else (some 0)) else (some 0))
theorem taplineref11_Kind.mono : ∀ a0 k, LeO (taplineref11_Kind.f k a0) (taplineref11_Kind.f (k + 1) a0) := by
 intro a0 k
 unfold taplineref11_Kind.f
 repeat' first
   | (with_reducible exact taplineref11_Scan.mono _ _)
   | (with_reducible exact LeO.refl _)
   | (with_reducible exact LeO.none _)
   | (with_reducible refine LeO.ite ?_ ?_)
   | (with_reducible refine LeO.bind ?_ (fun _ => ?_))
   | exact LeO.none _
   | refine LeO.ite ?_ ?_
   | refine LeO.bind ?_ (fun _ => ?_)
set_option maxHeartbeats 8000000 in
set_option maxRecDepth 100000 in
theorem taplineref11_Kind.calls (k : Nat) (a0 : ByteArray) (r : Int) (w : World) (h : taplineref11_Kind.f k a0 = some r) :
  Calls Tryz.prog 38 #[.string a0] w fun e w' => e = .returned (.int .i64 r) ∧ Below w.heap.size w w' := by
 have hu28 := Tryz.underlying28
 have HB := Aside0.mk (Below.refl w.heap.size w)
 have H : ((taplineref11_Scan.f k a0).bind fun bt205 => (if bt205.2.2 = 0 then (if (bt205.1.length : Int) = 1 then (if 0 < (bt205.1.length : Int) then (if ((rd_T38 bt205.1 0).f1).toList = a0.toList then (some ((rd_T38 bt205.1 0).f0)) else (some 0)) else (none)) else (some 0)) else (some 0))) = some r := h
 clear h
 replace H := Option.bind_eq_some_iff.mp H
 obtain ⟨⟨t205, t208, t209⟩, A20, H⟩ := H
 replace H : (if t209 = 0 then (if (t205.length : Int) = 1 then (if 0 < (t205.length : Int) then (if ((rd_T38 t205 0).f1).toList = a0.toList then (some ((rd_T38 t205 0).f0)) else (some 0)) else (none)) else (some 0)) else (some 0)) = some r := H
 have A2 := Aside0.mk A20
 clear A20
 by_cases c3 : t209 = 0
 ·rw [if_pos c3] at H
  have c3b0 : (t209 == 0) = true := beq_iff_eq.mpr c3
  have c3b1 : (t209 != 0) = false := bne_eq_false_iff_eq.mpr c3
  clear c3
  by_cases c4 : (t205.length : Int) = 1
  ·rw [if_pos c4] at H
   have c4b0 : ((t205.length : Int) == 1) = true := beq_iff_eq.mpr c4
   have c4b1 : ((t205.length : Int) != 1) = false := bne_eq_false_iff_eq.mpr c4
   clear c4
   by_cases c5 : 0 < (t205.length : Int)
   ·rw [if_pos c5] at H
    have c5b0 : decide (0 < (t205.length : Int)) = true := decide_eq_true c5
    have c5b1 : decide (0 < t205.length) = true := decide_eq_true (by omega)
    clear c5
    by_cases c6 : ((rd_T38 t205 0).f1).toList = a0.toList
    ·rw [if_pos c6] at H
     have c6b0 : (((rd_T38 t205 0).f1).toList == a0.toList) = true := beq_iff_eq.mpr c6
     have c6b1 : (((rd_T38 t205 0).f1).toList != a0.toList) = false := bne_eq_false_iff_eq.mpr c6
     clear c6
     obtain rfl := Option.some.inj H
     go_enter Tryz.func38, Tryz.ntmps38
     go_wp2_with (first | ((with_reducible refine gate_callee (f := 18) rfl ?_); refine goesL_ (some 5) rfl rfl Tryz.func18 (by kernel_rfl) rfl #[.string a0] rfl fq ?_; (with_reducible refine (taplineref11_Scan.calls k a0 t205 t208 t209 _ A2.out).mono ?_); rintro e w7 ⟨v206, rfl, ho0, hb⟩; refine ⟨_, rfl, ?_⟩; have n0_ := Aside0.mk (Kd.R_lower ho0 (below_size blw)); have n1_ := Aside0.mk (below_step blw hb); clear HB; have HO207 := n0_; have HB := n1_; clear n0_ n1_; (try clear hb); (try clear hb2); (try clear hk); (try clear hi); (try clear ho0)) | ((with_reducible refine gate_dst (N := 3) rfl ?_); (try (refine gate_guard (by rfl) ?_; dsimp only)); refine box_event ?hg (N := 3) ?hd (cs := #[.slice none 0 0, .int .i64 0, .int .i64 0]) (t := 28) ?hr ?_; (case hd => rfl); (case hg => rfl); (case hr => first | (go_simp; done) | (go_simp; rfl)); intro gb210 hg w8 hbox hb; have n0_ := Aside0.mk (Kd.R_below (by (with_reducible repeat (first | apply Kd.R_alloc | apply Kd.R_drewN | apply Kd.R_drew)); exact HO207.out) hb); have n1_ := Aside0.mk (below_step blw hb); have n2_ := Aside0.mk (hbox); have n3_ := Aside0.mk ((by rw [hg]; exact (below_size blw) : w.heap.size ≤ gb210)); have n4_ := Aside0.mk ((by rw [hg]; exact (below_size blw) : w.heap.size ≤ gb210)); clear HO207; clear HB; have HO207 := n0_; have HB := n1_; have BK210 := n2_; have GW210 := n3_; have GE210 := n4_; clear n0_ n1_ n2_ n3_ n4_; clear hb hbox hg; obtain ⟨Ao9, co9, eo9⟩ := Kd.R_slice HO207.out; subst eo9; have hcz10_0 : w8.cell? ⟨gb210, 0, none⟩ = some (.slice none 0 0) := (blk_cell BK210.out 0).trans rfl; have hcz10_1 : w8.cell? ⟨gb210, 1, none⟩ = some (.int .i64 0) := (blk_cell BK210.out 1).trans rfl; have hcz10_2 : w8.cell? ⟨gb210, 2, none⟩ = some (.int .i64 0) := (blk_cell BK210.out 2).trans rfl; have hfz10_0 := blk_frozen BK210.out 0; have hfz10_1 := blk_frozen BK210.out 1; have hfz10_2 := blk_frozen BK210.out 2; have p211 : 0 ≤ (0 : Int) := (by omega); have q211 : 0 < (t205.length : Int) := of_decide_eq_true asm; obtain ⟨ad211, e211, hx211_0, hx211_1, hx211_2⟩ := at_T38 (Kd.R_reads' HO207.out).2.2 0 p211 q211; cases e211; have qi211 : (0 < t205.length) = True := eq_true (by omega); (try rw [show ((0 : Int)).toNat = 0 from rfl] at hx211_0); (try rw [show 0 * 3 = 0 from rfl] at hx211_0); (try rw [Addr.add_zero'] at hx211_0); (try rw [show ((0 : Int)).toNat = 0 from rfl] at hx211_1); (try rw [show 0 * 3 = 0 from rfl] at hx211_1); (try rw [Addr.add_zero'] at hx211_1); (try rw [show ((0 : Int)).toNat = 0 from rfl] at hx211_2); (try rw [show 0 * 3 = 0 from rfl] at hx211_2); (try rw [Addr.add_zero'] at hx211_2); have hn211_0 : ad211.block ≠ gb210 := Kd.own_blk (Kd.R_ne HO207.out BK210.out (by decide)); have hn211_1 : ad211.block ≠ gb210 := Kd.own_blk (Kd.R_ne HO207.out BK210.out (by decide)); have hn211_2 : ad211.block ≠ gb210 := Kd.own_blk (Kd.R_ne HO207.out BK210.out (by decide)); replace hx211_0 := (cell_far (p := ⟨gb210, 0, none⟩) (by first | (rw [add_block]; exact hn211_0) | (show (Addr.add _ _).block ≠ _; rw [add_block]; exact hn211_0) | exact hn211_0) (.slice (some ad211) t205.length co9)).trans hx211_0; replace hx211_1 := (cell_far (p := ⟨gb210, 0, none⟩) (by first | (rw [add_block]; exact hn211_0) | (show (Addr.add _ _).block ≠ _; rw [add_block]; exact hn211_0) | exact hn211_0) (.slice (some ad211) t205.length co9)).trans hx211_1; replace hx211_2 := (cell_far (p := ⟨gb210, 0, none⟩) (by first | (rw [add_block]; exact hn211_0) | (show (Addr.add _ _).block ≠ _; rw [add_block]; exact hn211_0) | exact hn211_0) (.slice (some ad211) t205.length co9)).trans hx211_2; replace hx211_0 := (cell_far (p := ⟨gb210, 1, none⟩) (by first | (rw [add_block]; exact hn211_1) | (show (Addr.add _ _).block ≠ _; rw [add_block]; exact hn211_1) | exact hn211_1) (.int .i64 t208)).trans hx211_0; replace hx211_1 := (cell_far (p := ⟨gb210, 1, none⟩) (by first | (rw [add_block]; exact hn211_1) | (show (Addr.add _ _).block ≠ _; rw [add_block]; exact hn211_1) | exact hn211_1) (.int .i64 t208)).trans hx211_1; replace hx211_2 := (cell_far (p := ⟨gb210, 1, none⟩) (by first | (rw [add_block]; exact hn211_1) | (show (Addr.add _ _).block ≠ _; rw [add_block]; exact hn211_1) | exact hn211_1) (.int .i64 t208)).trans hx211_2; replace hx211_0 := (cell_far (p := ⟨gb210, 2, none⟩) (by first | (rw [add_block]; exact hn211_2) | (show (Addr.add _ _).block ≠ _; rw [add_block]; exact hn211_2) | exact hn211_2) (.int .i64 t209)).trans hx211_0; replace hx211_1 := (cell_far (p := ⟨gb210, 2, none⟩) (by first | (rw [add_block]; exact hn211_2) | (show (Addr.add _ _).block ≠ _; rw [add_block]; exact hn211_2) | exact hn211_2) (.int .i64 t209)).trans hx211_1; replace hx211_2 := (cell_far (p := ⟨gb210, 2, none⟩) (by first | (rw [add_block]; exact hn211_2) | (show (Addr.add _ _).block ≠ _; rw [add_block]; exact hn211_2) | exact hn211_2) (.int .i64 t209)).trans hx211_2; clear hn211_0; clear hn211_1; clear hn211_2; replace p211 := eq_true p211; replace q211 := eq_true q211; have p212 : 0 ≤ (0 : Int) := (by omega); have q212 : 0 < (t205.length : Int) := of_decide_eq_true asm; obtain ⟨ad212, e212, hx212_0, hx212_1, hx212_2⟩ := at_T38 (Kd.R_reads' HO207.out).2.2 0 p212 q212; obtain rfl : ad211 = ad212 := (by injection e212); have qi212 : (0 < t205.length) = True := eq_true (by omega); (try rw [show ((0 : Int)).toNat = 0 from rfl] at hx212_0); (try rw [show 0 * 3 = 0 from rfl] at hx212_0); (try rw [Addr.add_zero'] at hx212_0); (try rw [show ((0 : Int)).toNat = 0 from rfl] at hx212_1); (try rw [show 0 * 3 = 0 from rfl] at hx212_1); (try rw [Addr.add_zero'] at hx212_1); (try rw [show ((0 : Int)).toNat = 0 from rfl] at hx212_2); (try rw [show 0 * 3 = 0 from rfl] at hx212_2); (try rw [Addr.add_zero'] at hx212_2); have hn212_0 : ad211.block ≠ gb210 := Kd.own_blk (Kd.R_ne HO207.out BK210.out (by decide)); have hn212_1 : ad211.block ≠ gb210 := Kd.own_blk (Kd.R_ne HO207.out BK210.out (by decide)); have hn212_2 : ad211.block ≠ gb210 := Kd.own_blk (Kd.R_ne HO207.out BK210.out (by decide)); replace hx212_0 := (cell_far (p := ⟨gb210, 0, none⟩) (by first | (rw [add_block]; exact hn212_0) | (show (Addr.add _ _).block ≠ _; rw [add_block]; exact hn212_0) | exact hn212_0) (.slice (some ad211) t205.length co9)).trans hx212_0; replace hx212_1 := (cell_far (p := ⟨gb210, 0, none⟩) (by first | (rw [add_block]; exact hn212_0) | (show (Addr.add _ _).block ≠ _; rw [add_block]; exact hn212_0) | exact hn212_0) (.slice (some ad211) t205.length co9)).trans hx212_1; replace hx212_2 := (cell_far (p := ⟨gb210, 0, none⟩) (by first | (rw [add_block]; exact hn212_0) | (show (Addr.add _ _).block ≠ _; rw [add_block]; exact hn212_0) | exact hn212_0) (.slice (some ad211) t205.length co9)).trans hx212_2; replace hx212_0 := (cell_far (p := ⟨gb210, 1, none⟩) (by first | (rw [add_block]; exact hn212_1) | (show (Addr.add _ _).block ≠ _; rw [add_block]; exact hn212_1) | exact hn212_1) (.int .i64 t208)).trans hx212_0; replace hx212_1 := (cell_far (p := ⟨gb210, 1, none⟩) (by first | (rw [add_block]; exact hn212_1) | (show (Addr.add _ _).block ≠ _; rw [add_block]; exact hn212_1) | exact hn212_1) (.int .i64 t208)).trans hx212_1; replace hx212_2 := (cell_far (p := ⟨gb210, 1, none⟩) (by first | (rw [add_block]; exact hn212_1) | (show (Addr.add _ _).block ≠ _; rw [add_block]; exact hn212_1) | exact hn212_1) (.int .i64 t208)).trans hx212_2; replace hx212_0 := (cell_far (p := ⟨gb210, 2, none⟩) (by first | (rw [add_block]; exact hn212_2) | (show (Addr.add _ _).block ≠ _; rw [add_block]; exact hn212_2) | exact hn212_2) (.int .i64 t209)).trans hx212_0; replace hx212_1 := (cell_far (p := ⟨gb210, 2, none⟩) (by first | (rw [add_block]; exact hn212_2) | (show (Addr.add _ _).block ≠ _; rw [add_block]; exact hn212_2) | exact hn212_2) (.int .i64 t209)).trans hx212_1; replace hx212_2 := (cell_far (p := ⟨gb210, 2, none⟩) (by first | (rw [add_block]; exact hn212_2) | (show (Addr.add _ _).block ≠ _; rw [add_block]; exact hn212_2) | exact hn212_2) (.int .i64 t209)).trans hx212_2; clear hn212_0; clear hn212_1; clear hn212_2; replace p212 := eq_true p212; replace q212 := eq_true q212))
     go_ret
     exact ⟨rew, blw⟩
    ·rw [if_neg c6] at H
     have c6b0 : (((rd_T38 t205 0).f1).toList == a0.toList) = false := beq_eq_false_iff_ne.mpr c6
     have c6b1 : (((rd_T38 t205 0).f1).toList != a0.toList) = true := bne_iff_ne.mpr c6
     obtain rfl := Option.some.inj H
     go_enter Tryz.func38, Tryz.ntmps38
     go_wp2_with (first | ((with_reducible refine gate_callee (f := 18) rfl ?_); refine goesL_ (some 5) rfl rfl Tryz.func18 (by kernel_rfl) rfl #[.string a0] rfl fq ?_; (with_reducible refine (taplineref11_Scan.calls k a0 t205 t208 t209 _ A2.out).mono ?_); rintro e w11 ⟨v206, rfl, ho0, hb⟩; refine ⟨_, rfl, ?_⟩; have n0_ := Aside0.mk (Kd.R_lower ho0 (below_size blw)); have n1_ := Aside0.mk (below_step blw hb); clear HB; have HO207 := n0_; have HB := n1_; clear n0_ n1_; (try clear hb); (try clear hb2); (try clear hk); (try clear hi); (try clear ho0)) | ((with_reducible refine gate_dst (N := 3) rfl ?_); (try (refine gate_guard (by rfl) ?_; dsimp only)); refine box_event ?hg (N := 3) ?hd (cs := #[.slice none 0 0, .int .i64 0, .int .i64 0]) (t := 28) ?hr ?_; (case hd => rfl); (case hg => rfl); (case hr => first | (go_simp; done) | (go_simp; rfl)); intro gb210 hg w12 hbox hb; have n0_ := Aside0.mk (Kd.R_below (by (with_reducible repeat (first | apply Kd.R_alloc | apply Kd.R_drewN | apply Kd.R_drew)); exact HO207.out) hb); have n1_ := Aside0.mk (below_step blw hb); have n2_ := Aside0.mk (hbox); have n3_ := Aside0.mk ((by rw [hg]; exact (below_size blw) : w.heap.size ≤ gb210)); have n4_ := Aside0.mk ((by rw [hg]; exact (below_size blw) : w.heap.size ≤ gb210)); clear HO207; clear HB; have HO207 := n0_; have HB := n1_; have BK210 := n2_; have GW210 := n3_; have GE210 := n4_; clear n0_ n1_ n2_ n3_ n4_; clear hb hbox hg; obtain ⟨Ao13, co13, eo13⟩ := Kd.R_slice HO207.out; subst eo13; have hcz14_0 : w12.cell? ⟨gb210, 0, none⟩ = some (.slice none 0 0) := (blk_cell BK210.out 0).trans rfl; have hcz14_1 : w12.cell? ⟨gb210, 1, none⟩ = some (.int .i64 0) := (blk_cell BK210.out 1).trans rfl; have hcz14_2 : w12.cell? ⟨gb210, 2, none⟩ = some (.int .i64 0) := (blk_cell BK210.out 2).trans rfl; have hfz14_0 := blk_frozen BK210.out 0; have hfz14_1 := blk_frozen BK210.out 1; have hfz14_2 := blk_frozen BK210.out 2; have p211 : 0 ≤ (0 : Int) := (by omega); have q211 : 0 < (t205.length : Int) := of_decide_eq_true asm; obtain ⟨ad211, e211, hx211_0, hx211_1, hx211_2⟩ := at_T38 (Kd.R_reads' HO207.out).2.2 0 p211 q211; cases e211; have qi211 : (0 < t205.length) = True := eq_true (by omega); (try rw [show ((0 : Int)).toNat = 0 from rfl] at hx211_0); (try rw [show 0 * 3 = 0 from rfl] at hx211_0); (try rw [Addr.add_zero'] at hx211_0); (try rw [show ((0 : Int)).toNat = 0 from rfl] at hx211_1); (try rw [show 0 * 3 = 0 from rfl] at hx211_1); (try rw [Addr.add_zero'] at hx211_1); (try rw [show ((0 : Int)).toNat = 0 from rfl] at hx211_2); (try rw [show 0 * 3 = 0 from rfl] at hx211_2); (try rw [Addr.add_zero'] at hx211_2); have hn211_0 : ad211.block ≠ gb210 := Kd.own_blk (Kd.R_ne HO207.out BK210.out (by decide)); have hn211_1 : ad211.block ≠ gb210 := Kd.own_blk (Kd.R_ne HO207.out BK210.out (by decide)); have hn211_2 : ad211.block ≠ gb210 := Kd.own_blk (Kd.R_ne HO207.out BK210.out (by decide)); replace hx211_0 := (cell_far (p := ⟨gb210, 0, none⟩) (by first | (rw [add_block]; exact hn211_0) | (show (Addr.add _ _).block ≠ _; rw [add_block]; exact hn211_0) | exact hn211_0) (.slice (some ad211) t205.length co13)).trans hx211_0; replace hx211_1 := (cell_far (p := ⟨gb210, 0, none⟩) (by first | (rw [add_block]; exact hn211_0) | (show (Addr.add _ _).block ≠ _; rw [add_block]; exact hn211_0) | exact hn211_0) (.slice (some ad211) t205.length co13)).trans hx211_1; replace hx211_2 := (cell_far (p := ⟨gb210, 0, none⟩) (by first | (rw [add_block]; exact hn211_0) | (show (Addr.add _ _).block ≠ _; rw [add_block]; exact hn211_0) | exact hn211_0) (.slice (some ad211) t205.length co13)).trans hx211_2; replace hx211_0 := (cell_far (p := ⟨gb210, 1, none⟩) (by first | (rw [add_block]; exact hn211_1) | (show (Addr.add _ _).block ≠ _; rw [add_block]; exact hn211_1) | exact hn211_1) (.int .i64 t208)).trans hx211_0; replace hx211_1 := (cell_far (p := ⟨gb210, 1, none⟩) (by first | (rw [add_block]; exact hn211_1) | (show (Addr.add _ _).block ≠ _; rw [add_block]; exact hn211_1) | exact hn211_1) (.int .i64 t208)).trans hx211_1; replace hx211_2 := (cell_far (p := ⟨gb210, 1, none⟩) (by first | (rw [add_block]; exact hn211_1) | (show (Addr.add _ _).block ≠ _; rw [add_block]; exact hn211_1) | exact hn211_1) (.int .i64 t208)).trans hx211_2; replace hx211_0 := (cell_far (p := ⟨gb210, 2, none⟩) (by first | (rw [add_block]; exact hn211_2) | (show (Addr.add _ _).block ≠ _; rw [add_block]; exact hn211_2) | exact hn211_2) (.int .i64 t209)).trans hx211_0; replace hx211_1 := (cell_far (p := ⟨gb210, 2, none⟩) (by first | (rw [add_block]; exact hn211_2) | (show (Addr.add _ _).block ≠ _; rw [add_block]; exact hn211_2) | exact hn211_2) (.int .i64 t209)).trans hx211_1; replace hx211_2 := (cell_far (p := ⟨gb210, 2, none⟩) (by first | (rw [add_block]; exact hn211_2) | (show (Addr.add _ _).block ≠ _; rw [add_block]; exact hn211_2) | exact hn211_2) (.int .i64 t209)).trans hx211_2; clear hn211_0; clear hn211_1; clear hn211_2; replace p211 := eq_true p211; replace q211 := eq_true q211))
     go_ret
     exact ⟨rew, blw⟩
   ·rw [if_neg c5] at H
    exact absurd H (by simp)
  ·rw [if_neg c4] at H
   have c4b0 : ((t205.length : Int) == 1) = false := beq_eq_false_iff_ne.mpr c4
   have c4b1 : ((t205.length : Int) != 1) = true := bne_iff_ne.mpr c4
   obtain rfl := Option.some.inj H
   go_enter Tryz.func38, Tryz.ntmps38
   go_wp2_with (first | ((with_reducible refine gate_callee (f := 18) rfl ?_); refine goesL_ (some 5) rfl rfl Tryz.func18 (by kernel_rfl) rfl #[.string a0] rfl fq ?_; (with_reducible refine (taplineref11_Scan.calls k a0 t205 t208 t209 _ A2.out).mono ?_); rintro e w15 ⟨v206, rfl, ho0, hb⟩; refine ⟨_, rfl, ?_⟩; have n0_ := Aside0.mk (Kd.R_lower ho0 (below_size blw)); have n1_ := Aside0.mk (below_step blw hb); clear HB; have HO207 := n0_; have HB := n1_; clear n0_ n1_; (try clear hb); (try clear hb2); (try clear hk); (try clear hi); (try clear ho0)) | ((with_reducible refine gate_dst (N := 3) rfl ?_); (try (refine gate_guard (by rfl) ?_; dsimp only)); refine box_event ?hg (N := 3) ?hd (cs := #[.slice none 0 0, .int .i64 0, .int .i64 0]) (t := 28) ?hr ?_; (case hd => rfl); (case hg => rfl); (case hr => first | (go_simp; done) | (go_simp; rfl)); intro gb210 hg w16 hbox hb; have n0_ := Aside0.mk (Kd.R_below (by (with_reducible repeat (first | apply Kd.R_alloc | apply Kd.R_drewN | apply Kd.R_drew)); exact HO207.out) hb); have n1_ := Aside0.mk (below_step blw hb); have n2_ := Aside0.mk (hbox); have n3_ := Aside0.mk ((by rw [hg]; exact (below_size blw) : w.heap.size ≤ gb210)); have n4_ := Aside0.mk ((by rw [hg]; exact (below_size blw) : w.heap.size ≤ gb210)); clear HO207; clear HB; have HO207 := n0_; have HB := n1_; have BK210 := n2_; have GW210 := n3_; have GE210 := n4_; clear n0_ n1_ n2_ n3_ n4_; clear hb hbox hg; obtain ⟨Ao17, co17, eo17⟩ := Kd.R_slice HO207.out; subst eo17; have hcz18_0 : w16.cell? ⟨gb210, 0, none⟩ = some (.slice none 0 0) := (blk_cell BK210.out 0).trans rfl; have hcz18_1 : w16.cell? ⟨gb210, 1, none⟩ = some (.int .i64 0) := (blk_cell BK210.out 1).trans rfl; have hcz18_2 : w16.cell? ⟨gb210, 2, none⟩ = some (.int .i64 0) := (blk_cell BK210.out 2).trans rfl; have hfz18_0 := blk_frozen BK210.out 0; have hfz18_1 := blk_frozen BK210.out 1; have hfz18_2 := blk_frozen BK210.out 2))
   go_ret
   exact ⟨rew, blw⟩
 ·rw [if_neg c3] at H
  have c3b0 : (t209 == 0) = false := beq_eq_false_iff_ne.mpr c3
  have c3b1 : (t209 != 0) = true := bne_iff_ne.mpr c3
  obtain rfl := Option.some.inj H
  go_enter Tryz.func38, Tryz.ntmps38
  go_wp2_with (first | ((with_reducible refine gate_callee (f := 18) rfl ?_); refine goesL_ (some 5) rfl rfl Tryz.func18 (by kernel_rfl) rfl #[.string a0] rfl fq ?_; (with_reducible refine (taplineref11_Scan.calls k a0 t205 t208 t209 _ A2.out).mono ?_); rintro e w19 ⟨v206, rfl, ho0, hb⟩; refine ⟨_, rfl, ?_⟩; have n0_ := Aside0.mk (Kd.R_lower ho0 (below_size blw)); have n1_ := Aside0.mk (below_step blw hb); clear HB; have HO207 := n0_; have HB := n1_; clear n0_ n1_; (try clear hb); (try clear hb2); (try clear hk); (try clear hi); (try clear ho0)) | ((with_reducible refine gate_dst (N := 3) rfl ?_); (try (refine gate_guard (by rfl) ?_; dsimp only)); refine box_event ?hg (N := 3) ?hd (cs := #[.slice none 0 0, .int .i64 0, .int .i64 0]) (t := 28) ?hr ?_; (case hd => rfl); (case hg => rfl); (case hr => first | (go_simp; done) | (go_simp; rfl)); intro gb210 hg w20 hbox hb; have n0_ := Aside0.mk (Kd.R_below (by (with_reducible repeat (first | apply Kd.R_alloc | apply Kd.R_drewN | apply Kd.R_drew)); exact HO207.out) hb); have n1_ := Aside0.mk (below_step blw hb); have n2_ := Aside0.mk (hbox); have n3_ := Aside0.mk ((by rw [hg]; exact (below_size blw) : w.heap.size ≤ gb210)); have n4_ := Aside0.mk ((by rw [hg]; exact (below_size blw) : w.heap.size ≤ gb210)); clear HO207; clear HB; have HO207 := n0_; have HB := n1_; have BK210 := n2_; have GW210 := n3_; have GE210 := n4_; clear n0_ n1_ n2_ n3_ n4_; clear hb hbox hg; obtain ⟨Ao21, co21, eo21⟩ := Kd.R_slice HO207.out; subst eo21; have hcz22_0 : w20.cell? ⟨gb210, 0, none⟩ = some (.slice none 0 0) := (blk_cell BK210.out 0).trans rfl; have hcz22_1 : w20.cell? ⟨gb210, 1, none⟩ = some (.int .i64 0) := (blk_cell BK210.out 1).trans rfl; have hcz22_2 : w20.cell? ⟨gb210, 2, none⟩ = some (.int .i64 0) := (blk_cell BK210.out 2).trans rfl; have hfz22_0 := blk_frozen BK210.out 0; have hfz22_1 := blk_frozen BK210.out 1; have hfz22_2 := blk_frozen BK210.out 2))
  go_ret
  exact ⟨rew, blw⟩
end Go.Proofs.YtadgddipkbdnbaaGreatDoor.Q
set_option linter.unusedVariables false
set_option linter.unusedSimpArgs false
namespace Go.Proofs.YtadgddipkbdnbaaGreatDoor.Q
open Go.RowKit Go.Proofs.YtadgddipkbdnbaaGreatDoor YtadgddipkbdnbaaGreatDoorW.PrintWords YtadgddipkbdnbaaGreatDoorW.PrintLast
theorem refKind_e (t : ByteArray) : Ev (fun k => taplineref11_Kind.f k t) (Lx.kindM t.data.toList) := by
 unfold taplineref11_Kind.f
 refine ev_bind (refScan_ev t) ⟨0, fun k _ => ?_⟩
 exact kind_tail t
end Go.Proofs.YtadgddipkbdnbaaGreatDoor.Q
set_option linter.unusedVariables false
set_option linter.unusedSimpArgs false
namespace Go.Proofs.Lx
open Go.Proofs.YtadgddipkbdnbaaGreatDoor
def Tokk (d : Bool) (x : K) : Prop := one d x.2 = .ok (x.1, x.2.length) ∧ x.2 ≠ [] ∧ Skips x.2 x.2
theorem LexTo.one {p : List K} {x : K} (h : Tokk (opK p) x) {v : List UInt8} (hv : Bd v) : LexTo p (x.2 ++ v) [x] v := by
 obtain ⟨h1, h2, h3⟩ := h
 obtain ⟨kind, text⟩ := x
 simp only at h1 h2 h3
 cases text with
 | nil => exact absurd rfl h2
 | cons c t =>
  have h4 := one_agree (m := (c :: t).length) h1 (Nat.le_refl _) hv
  rw [List.take_length] at h4
  have e1 : (c :: (t ++ v)).take (c :: t).length = c :: t := by
   rw [← List.cons_append, List.take_append_of_le_length (Nat.le_refl _), List.take_length]
  have e2 : (c :: (t ++ v)).drop (c :: t).length = v := by
   rw [← List.cons_append, List.drop_append_of_le_length (Nat.le_refl _), List.drop_length, List.nil_append]
  have := LexTo.cons p (c :: t ++ v) c (t ++ v) kind (c :: t).length [] v (skips_app h3 (by simp) hv) h4 (by rw [e2]; exact .nil _ _)
  rw [e1] at this
  exact this
end Go.Proofs.Lx
set_option linter.unusedVariables false
set_option linter.unusedSimpArgs false
namespace Go.Proofs.Lx
open Go.Proofs.YtadgddipkbdnbaaGreatDoor Go.Proofs.YtadgddipkbdnbaaGreatDoor.Q
def valS (t : List UInt8) : Option (List UInt8) := if kindM t = 4 then (strF (t.tail.length + 1) t.tail).map (·.1) else none
theorem one4 {t : List UInt8} (h : kindM t = 4) : ∃ u vs, t = 34 :: u ∧ t.length ≤ 20000 ∧ strF (u.length + 1) u = some (vs, u.length) := by
 obtain ⟨hl, ho, -, hne⟩ := kindM_one (t := t) (by rw [h]; decide)
 rw [h] at ho
 cases t with
 | nil => exact absurd rfl hne
 | cons c u =>
  rw [one] at ho
  simp only [Bool.false_and, Bool.false_eq_true, if_false] at ho
  split at ho
  ·split at ho
   ·cases ho
   ·obtain ⟨h1, -⟩ := Prod.mk.inj (Except.ok.inj ho)
    split at h1 <;> cases h1
  ·split at ho
   ·split at ho
    ·cases ho
    ·obtain ⟨h1, -⟩ := Prod.mk.inj (Except.ok.inj ho); cases h1
   ·split at ho
    ·cases hc : char u with
     | none => rw [hc] at ho; cases ho
     | some p =>
      rw [hc] at ho
      simp only at ho
      split at ho
      ·cases ho
      ·obtain ⟨h1, -⟩ := Prod.mk.inj (Except.ok.inj ho); cases h1
    ·split at ho
     ·rename_i h34
      cases hs : strF (u.length + 1) u with
      | none => rw [hs] at ho; cases ho
      | some p =>
       obtain ⟨vs, m⟩ := p
       rw [hs] at ho
       simp only at ho
       obtain ⟨-, h2⟩ := Prod.mk.inj (Except.ok.inj ho)
       simp only [List.length_cons] at h2
       have : m = u.length := by omega
       subst this; exact ⟨u, vs, by rw [h34], hl, hs⟩
     ·split at ho
      ·cases ho
      ·obtain ⟨h1, -⟩ := Prod.mk.inj (Except.ok.inj ho); cases h1
end Go.Proofs.Lx
namespace Go.Proofs.YtadgddipkbdnbaaGreatDoor.Q
open Go.Proofs.YtadgddipkbdnbaaGreatDoor Go.RowKit Go.Proofs.YtadgddipkbdnbaaGreatDoorW.PrintWords Go.Proofs.YtadgddipkbdnbaaGreatDoorW.PrintLast Go.Proofs.YtadgddipkbdnbaaGreatDoorW.PrintMore
attribute [local go_sem] max2_int min2_int max_two min_two max_three min_three max_four min_four   
set_option linter.unusedVariables false
set_option linter.unusedSimpArgs false
def lex_Unquote.l0 : Nat → ByteArray → List Int → Int → Option (ByteArray × Int)
 | 0, _, _, _ => none
 | k + 1, x0, x4, x5 => if x5 < (wrap64 ((x0.size : Int) - 1)) then ((lex_character.f x0 x5).bind fun bt379 => (if x4.length < 140737488355328 then (lex_Unquote.l0 k x0 (x4 ++ [bt379.1]) bt379.2.1) else (none))) else (some (strOfNums x4, 0))
def lex_Unquote.f (k : Nat) (a0 : ByteArray) : Option (ByteArray × Int) := (lex_Kind.f a0).bind fun t378 => (if t378 = 4 then (lex_Unquote.l0 k a0 ([] : List Int) 1) else (some ((⟨#[]⟩ : ByteArray), 114)))
theorem lex_Unquote.mono_l : ∀ k, (∀ y0 y1 y2, LeO (lex_Unquote.l0 k y0 y1 y2) (lex_Unquote.l0 (k + 1) y0 y1 y2))
 | 0 => fun _ _ _ r h => by simp [lex_Unquote.l0] at h
 | k + 1 => by
  have ih0 := lex_Unquote.mono_l k
  ·intro y0 y1 y2
   unfold lex_Unquote.l0
   repeat' first
   | (with_reducible exact ih0 _ _ _)
   | (with_reducible exact LeO.refl _)
   | (with_reducible exact LeO.none _)
   | (with_reducible refine LeO.ite ?_ ?_)
   | (with_reducible refine LeO.bind ?_ (fun _ => ?_))
   | exact LeO.none _
   | refine LeO.ite ?_ ?_
   | refine LeO.bind ?_ (fun _ => ?_)
theorem lex_Unquote.mono : ∀ a0 k, LeO (lex_Unquote.f k a0) (lex_Unquote.f (k + 1) a0) := by
 intro a0 k
 have ih0 := lex_Unquote.mono_l k
 unfold lex_Unquote.f
 repeat' first
   | (with_reducible exact ih0 _ _ _)
   | (with_reducible exact LeO.refl _)
   | (with_reducible exact LeO.none _)
   | (with_reducible refine LeO.ite ?_ ?_)
   | (with_reducible refine LeO.bind ?_ (fun _ => ?_))
   | exact LeO.none _
   | refine LeO.ite ?_ ?_
   | refine LeO.bind ?_ (fun _ => ?_)
set_option maxHeartbeats 8000000 in
set_option maxRecDepth 100000 in
theorem lex_Unquote.calls (k : Nat) (a0 : ByteArray) (r1 : ByteArray) (r2 : Int) (w : World) (h : lex_Unquote.f k a0 = some (r1, r2)) (hgw : GW w) :
  Calls Tryz.prog 33 #[.string a0] w fun e w' => e = .returned (.tuple #[.string r1, .int .i64 r2]) ∧ Below w.heap.size w w' := by
 have HB := Aside0.mk (Below.refl w.heap.size w)
 have H : ((lex_Kind.f a0).bind fun t378 => (if t378 = 4 then (lex_Unquote.l0 k a0 ([] : List Int) 1) else (some ((⟨#[]⟩ : ByteArray), 114)))) = some (r1, r2) := h
 clear h
 replace H := Option.bind_eq_some_iff.mp H
 obtain ⟨t378, A20, H⟩ := H
 replace H : (if t378 = 4 then (lex_Unquote.l0 k a0 ([] : List Int) 1) else (some ((⟨#[]⟩ : ByteArray), 114))) = some (r1, r2) := H
 have A2 := Aside0.mk A20
 clear A20
 by_cases c3 : t378 = 4
 ·rw [if_pos c3] at H
  have c3b0 : (t378 == 4) = true := beq_iff_eq.mpr c3
  have c3b1 : (t378 != 4) = false := bne_eq_false_iff_eq.mpr c3
  clear c3
  have H' := Aside0.mk H
  clear H
  go_enter Tryz.func33, Tryz.ntmps33
  go_wp2_with (first | ((with_reducible refine gate_callee (f := 35) rfl ?_); refine goesL_ (some 10) rfl rfl Tryz.func35 (by kernel_rfl) rfl #[.string a0] rfl fq ?_; (with_reducible refine (lex_Kind.calls a0 t378 _ A2.out gwx).mono ?_); rintro e w4 ⟨rfl, hb⟩; refine ⟨_, rfl, ?_⟩; have n0_ := Aside0.mk (below_step blw hb); clear HB; have HB := n0_; clear n0_; (try clear hb); (try clear hb2); (try clear hk); (try clear hi)))
  try simp only [Act.put, List.setIfInBounds_toArray, List.set_cons_zero, List.set_cons_succ]
  go_loopg [4, 5] k (fun kq v4 v5 w' => ∃ (x4_1 : List Int) (x5_1 : Int), v5 = .int .i64 x5_1 ∧ Aside0 (lex_Unquote.l0 kq a0 x4_1 x5_1 = some (r1, r2)) ∧ Aside0 (kq ≤ k) ∧ Aside0 (Kd.R (Kd.int .u8) 5 w' w.heap.size (fun _ => True) v4 x4_1) ∧ Aside0 (Below w.heap.size w w'))
  case atStart => exact ⟨(([] : List Int)), (1), rsd, H', ⟨Nat.le_refl _⟩, ⟨by first | exact Kd.R_nil _ _ _ _ _ | exact Kd.N_nil _ _ _ _ _ | exact Kd.V_nil _ _ _ _ _ | exact Kd.Q_nil _ _ _ _ _ | exact Kd.S_nil _ _ _ _ _⟩, ⟨blw⟩⟩
  case round =>
   clear H'
   try clear p2
   try clear c3
   try clear c3b0
   try clear c3b1
   obtain ⟨x4_1, x5_1, rfl, HA, HK1, HO_4, HB⟩ := hrel
   cases gk with
   | zero => exact absurd HA.out (by simp [lex_Unquote.l0])
   | succ k1 =>
    have H := HA.out
    clear HA
    simp only [lex_Unquote.l0] at H
    by_cases c5 : x5_1 < (wrap64 ((a0.size : Int) - 1))
    ·rw [if_pos c5] at H
     have c5b0 : decide (x5_1 < (wrap64 ((a0.size : Int) - 1))) = true := decide_eq_true c5
     clear c5
     replace H := Option.bind_eq_some_iff.mp H
     obtain ⟨⟨t379, t380, t381⟩, A60, H⟩ := H
     replace H : (if x4_1.length < 140737488355328 then (lex_Unquote.l0 k1 a0 (x4_1 ++ [t379]) t380) else (none)) = some (r1, r2) := H
     have A6 := Aside0.mk A60
     clear A60
     by_cases c7 : x4_1.length < 140737488355328
     ·rw [if_pos c7] at H
      have LMc7 := Aside0.mk c7
      clear c7
      obtain ⟨y382, hy382⟩ : ∃ y_ : List Int, y_ = (x4_1 ++ [t379]) := ⟨_, rfl⟩
      replace H : (lex_Unquote.l0 k1 a0 y382 t380) = some (r1, r2) := by first | (rw [hy382]; with_reducible exact H) | (have H2_ := (Option.bind_some _ _).symm.trans H; rw [hy382]; with_reducible exact H2_) | (have H2_ := (Option.bind_some _ _).symm.trans H; with_reducible exact H2_) | with_reducible exact H | (rw [hy382]; exact H) | exact H
      have Ny382 := Aside0.mk hy382
      clear hy382
      have H' := Aside0.mk H
      clear H
      go_wp2_with (first | ((with_reducible refine gate_callee (f := 53) rfl ?_); refine goesL_ (some 20) rfl rfl Tryz.func53 (by kernel_rfl) rfl #[.string a0, .int .i64 x5_1] rfl fq ?_; (with_reducible refine (lex_character.calls a0 x5_1 t379 t380 t381 _ A6.out gwx).mono ?_); rintro e w8 ⟨rfl, hb⟩; refine ⟨_, rfl, ?_⟩; have n0_ := Aside0.mk (Kd.R_below (by (with_reducible repeat (first | apply Kd.R_alloc | apply Kd.R_drewN | apply Kd.R_drew)); exact HO_4.out) hb); have n1_ := Aside0.mk (below_step blw hb); clear HO_4; clear HB; have HO_4 := n0_; have HB := n1_; clear n0_ n1_; (try clear hb); (try clear hb2); (try clear hk); (try clear hi)) | ((with_reducible refine gate_builtin (b := .append) (xs := #[.tmp 24, .tmp 26]) rfl ?_); at_builtin; refine Kd.R_append (Kd.int .u8) (w0 := w) w.heap.size rfl (.tmp 24) (.tmp 26) 83 5 (.int .u8 0) 1 rfl Tryz.underlying83 info5 rfl (by decide) (by omega) u4 x4_1 t379 [.int .u8 t379] (fun _ => True) (fun _ => False) rfl rfl ?aP (fun _ hk => hk.elim) ?aF ?aO ?aB ?aS ?aL ?_; (case aP => exact rfl); (case aB => exact blw); (case aF => exact (fun _ _ => trivial)); (case aO => exact (by (with_reducible repeat (first | apply Kd.R_alloc | apply Kd.R_drewN | apply Kd.R_drew)); exact HO_4.out)); (case aS => exact (below_size blw)); (case aL => have := LMc7.out; omega); intro v383 w9 ho hb hg hat; rw [← Ny382.out] at ho; have n0_ := Aside0.mk (hb); have n1_ := Aside0.mk (ho); clear HB; clear HO_4; have HB := n0_; have HO384 := n1_; clear n0_ n1_; clear ho hb hg hat))
      go_roundg k1
      case measure => have := HK1.out; omega
      case rel => exact ⟨(y382), (t380), rsd, H', ⟨by have := HK1.out; omega⟩, ⟨by (with_reducible repeat (first | apply Kd.R_alloc | apply Kd.R_drewN | apply Kd.R_drew)); exact HO384.out⟩, ⟨blw⟩⟩
     ·rw [if_neg c7] at H
      exact absurd H (by simp)
    ·rw [if_neg c5] at H
     have c5b0 : decide (x5_1 < (wrap64 ((a0.size : Int) - 1))) = false := decide_eq_false c5
     clear c5
     simp only [Option.some.injEq, Prod.mk.injEq] at H
     obtain ⟨rfl, rfl⟩ := H
     have hcv10 := own_string (P := Tryz.prog) Tryz.underlying83 Tryz.underlying5 Tryz.underlying9 (Kd.own_of_R HO_4.out)
     go_wp2
     go_ret2
     exact ⟨rew, blw⟩
 ·rw [if_neg c3] at H
  have c3b0 : (t378 == 4) = false := beq_eq_false_iff_ne.mpr c3
  have c3b1 : (t378 != 4) = true := bne_iff_ne.mpr c3
  simp only [Option.some.injEq, Prod.mk.injEq] at H
  obtain ⟨rfl, rfl⟩ := H
  go_enter Tryz.func33, Tryz.ntmps33
  go_wp2_with (first | ((with_reducible refine gate_callee (f := 35) rfl ?_); refine goesL_ (some 10) rfl rfl Tryz.func35 (by kernel_rfl) rfl #[.string a0] rfl fq ?_; (with_reducible refine (lex_Kind.calls a0 t378 _ A2.out gwx).mono ?_); rintro e w11 ⟨rfl, hb⟩; refine ⟨_, rfl, ?_⟩; have n0_ := Aside0.mk (below_step blw hb); clear HB; have HB := n0_; clear n0_; (try clear hb); (try clear hb2); (try clear hk); (try clear hi)))
  go_ret2
  exact ⟨rew, blw⟩
end Go.Proofs.YtadgddipkbdnbaaGreatDoor.Q
set_option linter.unusedVariables false
set_option linter.unusedSimpArgs false
namespace Go.Proofs.YtadgddipkbdnbaaGreatDoor.Q
open Go.RowKit Go.Proofs.YtadgddipkbdnbaaGreatDoor YtadgddipkbdnbaaGreatDoorW.PrintWords YtadgddipkbdnbaaGreatDoorW.PrintLast
theorem unq_l0 (t : ByteArray) (ht : t.size ≤ 20000) : ∀ (n : Nat) (a m : Nat) (vs : List UInt8) (acc : List Int), 1 ≤ a → a + m = t.size → acc.length ≤ a → Lx.strF n (t.data.toList.drop a) = some (vs, m) → ∀ k, m < k →
  lex_Unquote.l0 k t acc (a : Int) = some (strOfNums (acc ++ vs.map fun c => (c.toNat : Int)), 0)
 | 0, _, _, _, _, _, _, _, h, _, _ => by cases h
 | n + 1, a, m, vs, acc, h1, ha, hacc, h, k, hk => by
  obtain ⟨k, rfl⟩ : ∃ j, k = j + 1 := ⟨k - 1, by omega⟩
  have hm := Lx.strF_len _ _ _ _ h
  have e1 : wrap64 ((t.size : Int) - 1) = ((t.size - 1 : Nat) : Int) := by rw [wrapn (by omega) (by omega)]; omega
  cases hd : t.data.toList.drop a with
  | nil => rw [hd] at h; cases h
  | cons c u =>
   rw [hd, Lx.strF] at h
   rw [lex_Unquote.l0, e1]
   split at h
   ·rename_i h34
    simp only [Option.some.injEq, Prod.mk.injEq] at h
    obtain ⟨h2, h3⟩ := h
    rw [if_neg (by omega), ← h2, List.map_nil, List.append_nil]
   ·cases hc : Lx.char (c :: u) with
    | none => rw [hc] at h; cases h
    | some p =>
     obtain ⟨v, j⟩ := p
     rw [hc] at h
     simp only at h
     cases hs : Lx.strF n ((c :: u).drop j) with
     | none => rw [hs] at h; cases h
     | some q =>
      obtain ⟨ws, m'⟩ := q
      rw [hs] at h
      simp only [Option.some.injEq, Prod.mk.injEq] at h
      obtain ⟨h2, h3⟩ := h
      have hj := char_len _ _ _ hc
      have hm' := Lx.strF_len _ _ _ _ hs
      rw [if_pos (by omega)]
      unfold lex_character.f
      rw [if_pos ⟨by omega, by omega, by omega⟩, Int.toNat_natCast, hd, hc]
      simp only [Option.map_some, Option.bind_some]
      rw [if_pos (by omega), show (a : Int) + (j : Int) = ((a + j : Nat) : Int) by omega]
      rw [← hd, List.drop_drop] at hs
      rw [unq_l0 t ht n (a + j) m' ws (acc ++ [(v.toNat : Int)]) (by omega) (by omega) (by rw [List.length_append, List.length_cons, List.length_nil]; omega) hs k (by omega), ← h2]
      simp
theorem nums_str (vs : List UInt8) : strOfNums (vs.map fun c => (c.toNat : Int)) = strS vs := by
 unfold strOfNums strS
 congr 2
 rw [List.map_map]
 conv => rhs; rw [← List.map_id vs]
 refine List.map_congr_left fun c _ => ?_
 simp
def unqM (t : List UInt8) : ByteArray × Int := match Lx.valS t with | some v => (strS v, 0) | none => (⟨#[]⟩, 114)
theorem unq_f (t : ByteArray) (k : Nat) (hk : 20000 < k) : lex_Unquote.f k t = some (unqM t.data.toList) := by
 unfold lex_Unquote.f unqM Lx.valS
 rw [kind_f]
 simp only [Option.bind_some]
 by_cases h : Lx.kindM t.data.toList = 4
 ·rw [if_pos h, if_pos h]
  obtain ⟨u, vs, e, hl, hs⟩ := Lx.one4 h
  rw [ba_len] at hl
  have hu : u.length + 1 = t.size := by rw [← ba_len, e]; rfl
  have e1 : t.data.toList.drop 1 = u := by rw [e]; rfl
  have hs1 : Lx.strF (u.length + 1) (t.data.toList.drop 1) = some (vs, u.length) := by rw [e1]; exact hs
  rw [e, List.tail_cons, hs]
  exact (unq_l0 t hl _ 1 u.length vs [] (Nat.le_refl _) (by omega) (by simp) hs1 k (by omega)).trans (by rw [List.nil_append, nums_str]; rfl)
 ·rw [if_neg h, if_neg h]
end Go.Proofs.YtadgddipkbdnbaaGreatDoor.Q
