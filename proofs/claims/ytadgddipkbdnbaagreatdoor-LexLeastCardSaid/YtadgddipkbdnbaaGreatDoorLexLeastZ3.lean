/- For every text that is scanned without an error (at most 60 tokens and 2000 bytes), the text that Tight writes is, without any one of its spaces between tokens, scanned as other tokens or not at all; the inputs read as they did; the package-level variables hold what the program's text lays in them: the tied card. -/
import Derived.Test.YtadgddipkbdnbaaGreatDoorLexP1
import Derived.Test.YtadgddipkbdnbaaGreatDoorLexP2
import Derived.Test.YtadgddipkbdnbaaGreatDoorLexP3
import Derived.Test.YtadgddipkbdnbaaGreatDoorLexP4
import Derived.Test.YtadgddipkbdnbaaGreatDoorLexP7
import Derived.Test.YtadgddipkbdnbaaGreatDoorLexP8
import Derived.Test.YtadgddipkbdnbaaGreatDoorLexP14
import Derived.Test.YtadgddipkbdnbaaGreatDoorLexP15
import Derived.Test.YtadgddipkbdnbaaGreatDoorLexLeastZ1
import Derived.Test.YtadgddipkbdnbaaGreatDoorLexLeastZ2
import Derived.Test.YtadgddipkbdnbaaGreatDoorTie
import Derived.Test.YtadgddipkbdnbaaGreatDoorCards
import Derived.WalkKit
import Derived.ProofKit
import Derived.OpenShut
import Derived.ShutString
import Derived.ChangeOld
import Derived.Below
import Derived.SizedLaws
import Derived.SevenTiedAt
set_option linter.unusedVariables false
set_option linter.unusedSimpArgs false
namespace Go.Proofs.Lx
open Go.Proofs.YtadgddipkbdnbaaGreatDoor
theorem flat_snoc {ts : List K} {ss : List Nat} (h : ss.length = ts.length) (n : Nat) (x : K) : flat (ss ++ [n]) (ts ++ [x]) = flat ss ts ++ (List.replicate n 32 ++ x.2) := by
 rw [flat_append h]
 simp [flat]
theorem tight_flat : ∀ (ts done : List K) (ss0 : List Nat), ss0.length = done.length → ∃ ss, ss.length = ts.length ∧ tightK done (flat ss0 done) ts = flat (ss0 ++ ss) (done ++ ts) ∧
  ∀ A s B U x V, ss = A ++ s :: B → ts = U ++ x :: V → A.length = U.length → s = 0 ∨ (s = 1 ∧ givesM (flat (ss0 ++ A) (done ++ U) ++ x.2) (done ++ U ++ [x]) = false)
 | [], done, ss0, h => ⟨[], rfl, by simp [tightK], fun A s B U x V h1 => by simp at h1⟩
 | y :: ts, done, ss0, h => by
  have key : ∀ s0, tightK done (flat ss0 done) (y :: ts) = tightK (done ++ [y]) (flat (ss0 ++ [s0]) (done ++ [y])) ts → (s0 = 0 ∨ (s0 = 1 ∧ givesM (flat ss0 done ++ y.2) (done ++ [y]) = false)) → ∃ ss, ss.length = (y :: ts).length ∧ tightK done (flat ss0 done) (y :: ts) = flat (ss0 ++ ss) (done ++ y :: ts) ∧
    ∀ A s B U x V, ss = A ++ s :: B → y :: ts = U ++ x :: V → A.length = U.length → s = 0 ∨ (s = 1 ∧ givesM (flat (ss0 ++ A) (done ++ U) ++ x.2) (done ++ U ++ [x]) = false) := by
   intro s0 he hs0
   obtain ⟨ss, e1, e2, e3⟩ := tight_flat ts (done ++ [y]) (ss0 ++ [s0]) (by simp [h])
   refine ⟨s0 :: ss, by simp [e1], ?_, ?_⟩
   ·rw [he, e2]; simp
   ·intro A s B U x V h1 h2 h3
    cases A with
    | nil =>
     cases U with
     | nil =>
      simp only [List.nil_append, List.cons.injEq] at h1 h2
      rw [← h1.1, ← h2.1]
      simpa using hs0
     | cons _ _ => simp at h3
    | cons a A =>
     cases U with
     | nil => simp at h3
     | cons u U =>
      simp only [List.cons_append, List.cons.injEq] at h1 h2
      have := e3 A s B U x V h1.2 h2.2 (by simpa using h3)
      rw [← h1.1, ← h2.1]
      simpa using this
  by_cases hc : done ≠ [] ∧ givesM (flat ss0 done ++ y.2) (done ++ [y]) = false
  ·refine key 1 ?_ (.inr ⟨rfl, hc.2⟩)
   rw [tightK, if_pos hc, flat_snoc h]
   rfl
  ·refine key 0 ?_ (.inl rfl)
   rw [tightK, if_neg hc, flat_snoc h]
   rfl
theorem at_ns {t : List UInt8} {p : List K} {i : Nat} {l : List Tok} {j : Nat} (h : LexAt t p i l j) : nsK (l.map ktM) ≤ ns (t.drop i) := by
 induction h with
 | nil => simp [nsK]
 | cons p i a k kind ts j hi ha hs ho hr ih =>
  have h1 : t.drop a = (t.drop i).drop (a - i) := by rw [List.drop_drop]; congr 1; omega
  have h2 := ns_append ((t.drop i).take (a - i)) ((t.drop i).drop (a - i))
  rw [List.take_append_drop, ← h1] at h2
  have h3 := ns_append ((t.drop a).take k) ((t.drop a).drop k)
  rw [List.take_append_drop, List.drop_drop] at h3
  have h4 : nsK ((⟨kind, (t.drop a).take k, a⟩ :: ts : List Tok).map ktM) = ns ((t.drop a).take k) + nsK (ts.map ktM) := by simp [nsK, ktM]
  omega
theorem at_flat {t : List UInt8} {p : List K} {i : Nat} {l : List Tok} {j : Nat} (h : LexAt t p i l j) : j ≤ t.length → ns (t.drop i) = nsK (l.map ktM) → ∃ ss, ss.length = l.length ∧ t.drop i = flat ss (l.map ktM) ++ t.drop j ∧
  ∀ A s B U (x : Tok) V, ss = A ++ s :: B → l = U ++ x :: V → A.length = U.length → x.at_ = i + (flat A (U.map ktM)).length + s := by
 induction h with
 | nil p i => intro hj hn; exact ⟨[], rfl, by simp [flat], fun A s B U x V h1 => by simp at h1⟩
 | cons p i a k kind ts j hi ha hs ho hr ih =>
  intro hj hn
  have hk := one_len _ _ _ _ ho
  have h1 : t.drop a = (t.drop i).drop (a - i) := by rw [List.drop_drop]; congr 1; omega
  have h2 := ns_append ((t.drop i).take (a - i)) ((t.drop i).drop (a - i))
  rw [List.take_append_drop, ← h1] at h2
  have h3 := ns_append ((t.drop a).take k) ((t.drop a).drop k)
  rw [List.take_append_drop, List.drop_drop] at h3
  have h4 : nsK ((⟨kind, (t.drop a).take k, a⟩ :: ts : List Tok).map ktM) = ns ((t.drop a).take k) + nsK (ts.map ktM) := by simp [nsK, ktM]
  have h5 := at_ns hr
  have h6 := ns_zero (l := (t.drop i).take (a - i)) (by omega)
  have h7 : (t.drop i).take (a - i) = List.replicate (a - i) 32 := by
   refine List.eq_replicate_iff.2 ⟨?_, h6⟩
   rw [List.length_take, List.length_drop]; omega
  obtain ⟨ss, e1, e2, e3⟩ := ih hj (by omega)
  refine ⟨(a - i) :: ss, by simp [e1], ?_, ?_⟩
  ·rw [List.map_cons, flat, ← h7, List.append_assoc, List.append_assoc, ← e2]
   show _ = _ ++ ((t.drop a).take k ++ _)
   rw [← List.drop_drop, List.take_append_drop, h1, List.take_append_drop]
  ·intro A s B U x V g1 g2 g3
   cases A with
   | nil =>
    cases U with
    | nil =>
     simp only [List.nil_append, List.cons.injEq] at g1 g2
     rw [← g1.1, ← g2.1]
     simp [flat]; omega
    | cons _ _ => simp at g3
   | cons b A =>
    cases U with
    | nil => simp at g3
    | cons u U =>
     simp only [List.cons_append, List.cons.injEq] at g1 g2
     rw [e3 A s B U x V g1.2 g2.2 (by simpa using g3), ← g1.1, ← g2.1]
     simp only [List.map_cons, flat, List.length_append, List.length_replicate]
     have : (ktM ⟨kind, (t.drop a).take k, a⟩).2.length = k := by
      show ((t.drop a).take k).length = k
      rw [List.length_take]; omega
     omega
theorem least {ts : List K} (hc : Toks [] ts) {T : List UInt8} (hT : T = tightK [] [] ts) (h1 : T.length ≤ 20000) (h2 : ts.length ≤ 4000) :
  (scan T).2.2 = 0 ∧ (scan T).1.map ktM = ts ∧ ∀ U (y : Tok) (x : Tok) V, (scan T).1 = U ++ y :: x :: V →
   y.at_ + y.text.length ≤ x.at_ ∧ x.at_ + 1 ≤ T.length ∧ (y.at_ + y.text.length = x.at_ ∨ (y.at_ + y.text.length + 1 = x.at_ ∧ T.drop (x.at_ - 1) = 32 :: T.drop x.at_ ∧ givesM (T.take (x.at_ - 1) ++ T.drop x.at_) ts = false)) := by
 obtain ⟨hw, g1, g2⟩ := tight_back hc (by rw [← hT]; exact h1) h2
 rw [← hT] at hw g1 g2
 refine ⟨g1, g2, ?_⟩
 obtain ⟨S, s1, s2, s3⟩ := tight_flat ts [] [] rfl
 simp only [List.nil_append] at s2 s3
 have s4 : T = flat S ts := hT.trans s2
 obtain ⟨j, a1, a2, a3⟩ := scan_ats g1
 obtain ⟨hn, -⟩ := hw
 obtain ⟨ss, b1, b2, b3⟩ := at_flat a1 a3 (by rw [List.drop_zero, g2]; exact hn)
 rw [List.drop_zero, g2] at b2
 have hl : (scan T).1.length = ts.length := by rw [← g2, List.length_map]
 obtain ⟨rfl, hj⟩ := flat_inj (e := []) hc.solid s1 (by rw [b1, hl]) (by rw [List.append_nil, ← s4]; exact b2)
 intro U y x V hU
 rw [hU] at b3 g2 hl
 have hUl : U.length + 1 < S.length := by rw [s1, ← hl]; simp
 obtain ⟨A, s, s', B, hS, hA⟩ : ∃ A s s' B, S = A ++ s :: s' :: B ∧ A.length = U.length := by
  refine ⟨S.take U.length, S[U.length], S[U.length + 1], S.drop (U.length + 2), ?_, by rw [List.length_take]; omega⟩
  rw [← List.drop_eq_getElem_cons hUl, ← List.drop_eq_getElem_cons (by omega), List.take_append_drop]
 have p1 := b3 A s (s' :: B) U y (x :: V) hS (by simp) hA
 have p2 := b3 (A ++ [s]) s' B (U ++ [y]) x V (by simp [hS]) (by simp) (by simp [hA])
 have hflat : flat (A ++ [s]) ((U ++ [y]).map ktM) = flat A (U.map ktM) ++ (List.replicate s 32 ++ y.text) := by
  rw [List.map_append, List.map_cons, List.map_nil, flat_snoc (by rw [hA, List.length_map])]
  rfl
 rw [hflat, List.length_append, List.length_append, List.length_replicate] at p2
 have hts : ts = U.map ktM ++ ktM y :: ktM x :: V.map ktM := by rw [← g2]; simp
 have q := s3 (A ++ [s]) s' B (U.map ktM ++ [ktM y]) (ktM x) (V.map ktM) (by simp [hS]) (by rw [hts]; simp) (by simp [hA])
 have hTx : T = flat (A ++ [s]) ((U ++ [y]).map ktM) ++ (List.replicate s' 32 ++ (x.text ++ flat B (V.map ktM))) := by
  rw [s4, hS, hts, show A ++ s :: s' :: B = (A ++ [s]) ++ s' :: B by simp, show U.map ktM ++ ktM y :: ktM x :: V.map ktM = (U ++ [y]).map ktM ++ ktM x :: V.map ktM by simp, flat_append (by simp [hA])]
  rfl
 have hxs : 1 ≤ x.text.length := by
  obtain ⟨c, u, e, -⟩ := hc.solid (ktM x) (by rw [hts]; simp)
  have e' : x.text = c :: u := e
  rw [e']; simp
 have hlen := congrArg List.length hTx
 rw [hflat] at hlen
 simp only [List.length_append, List.length_replicate] at hlen
 refine ⟨by omega, by omega, ?_⟩
 rcases q with q | ⟨q, hg⟩
 ·exact .inl (by omega)
 ·refine .inr ⟨by omega, ?_, ?_⟩
  ·have hx1 : x.at_ - 1 = (flat (A ++ [s]) ((U ++ [y]).map ktM)).length := by rw [hflat, List.length_append, List.length_append, List.length_replicate]; omega
   have e1 : T.drop (x.at_ - 1) = List.replicate s' 32 ++ (x.text ++ flat B (V.map ktM)) := by
    rw [hTx, hx1, List.drop_append_of_le_length (Nat.le_refl _), List.drop_length, List.nil_append]
   rw [q] at e1
   have e2 : T.drop x.at_ = (T.drop (x.at_ - 1)).drop 1 := by rw [List.drop_drop]; congr 1; omega
   rw [e2, e1]
   rfl
  ·
   have hx1 : x.at_ - 1 = (flat (A ++ [s]) ((U ++ [y]).map ktM)).length := by rw [hflat, List.length_append, List.length_append, List.length_replicate]; omega
   have e1 : T.drop (x.at_ - 1) = List.replicate s' 32 ++ (x.text ++ flat B (V.map ktM)) := by
    rw [hTx, hx1, List.drop_append_of_le_length (Nat.le_refl _), List.drop_length, List.nil_append]
   rw [q] at e1
   have e2 : T.drop x.at_ = x.text ++ flat B (V.map ktM) := by
    have : T.drop x.at_ = (T.drop (x.at_ - 1)).drop 1 := by rw [List.drop_drop]; congr 1; omega
    rw [this, e1]; rfl
   have e3 : T.take (x.at_ - 1) = flat (A ++ [s]) ((U ++ [y]).map ktM) := by
    conv => lhs; rw [hTx]
    rw [hx1, List.take_append_of_le_length (Nat.le_refl _), List.take_length]
   have e4 : T.take (x.at_ - 1) ++ T.drop x.at_ = flat ((A ++ [s]) ++ 0 :: B) ts := by
    rw [e2, e3, hts, show U.map ktM ++ ktM y :: ktM x :: V.map ktM = (U ++ [y]).map ktM ++ ktM x :: V.map ktM by simp, flat_append (by simp [hA])]
    rfl
   rw [e4]
   cases hgv : givesM (flat ((A ++ [s]) ++ 0 :: B) ts) ts with
   | false => rfl
   | true =>
    exfalso
    obtain ⟨v1, v2⟩ := of_decide_eq_true hgv
    obtain ⟨v3, -, f, v4, v5⟩ := scan_to v1
    rw [v2] at v4
    have hlS : ((A ++ [s]) ++ 0 :: B).length = ts.length := by rw [← s1, hS]; simp
    have hns : ns (flat ((A ++ [s]) ++ 0 :: B) ts) = nsK ts := flat_ns hlS
    have hf := v4.ns
    obtain ⟨ss', w1, w2⟩ := v4.flat hns
    obtain ⟨w3, w4⟩ := flat_inj (e := []) hc.solid hlS w1 (by rw [List.append_nil]; exact w2)
    rw [w2, ← w3] at v4
    have := lex_take v4 (by rw [hlS]) (by omega) (U.length + 2)
    have t1 : ((A ++ [s]) ++ 0 :: B).take (U.length + 2) = (A ++ [s]) ++ [0] := by
     rw [show (A ++ [s]) ++ 0 :: B = ((A ++ [s]) ++ [0]) ++ B by simp, List.take_append_of_le_length (by simp; omega), List.take_of_length_le (by simp; omega)]
    have t2 : ts.take (U.length + 2) = (U.map ktM ++ [ktM y]) ++ [ktM x] := by
     rw [hts, show U.map ktM ++ ktM y :: ktM x :: V.map ktM = ((U.map ktM ++ [ktM y]) ++ [ktM x]) ++ V.map ktM by simp, List.take_append_of_le_length (by simp), List.take_of_length_le (by simp)]
    rw [t1, t2, flat_snoc (by simp [hA])] at this
    have t3 : flat (A ++ [s]) (U.map ktM ++ [ktM y]) ++ (List.replicate 0 32 ++ (ktM x).2) = flat (A ++ [s]) (U.map ktM ++ [ktM y]) ++ (ktM x).2 := by simp
    rw [t3] at this
    have hlast := to_scan (by
     have l1 := congrArg List.length hTx
     have l2 : flat (A ++ [s]) ((U ++ [y]).map ktM) = flat (A ++ [s]) (U.map ktM ++ [ktM y]) := by simp
     rw [l2] at l1
     simp only [List.length_append, List.length_replicate] at l1
     rw [List.length_append]
     show _ + x.text.length ≤ _
     omega) (by
     have := congrArg List.length hts
     simp only [List.length_append, List.length_cons, List.length_map, List.length_nil] at this ⊢
     omega) this .nil
    have hg2 : givesM (flat (A ++ [s]) (U.map ktM ++ [ktM y]) ++ (ktM x).2) ((U.map ktM ++ [ktM y]) ++ [ktM x]) = true := decide_eq_true hlast
    rw [hg2] at hg
    cases hg
end Go.Proofs.Lx
namespace Go.Proofs.YtadgddipkbdnbaaGreatDoor.Q
open Go.RowKit Go.Proofs.YtadgddipkbdnbaaGreatDoor YtadgddipkbdnbaaGreatDoorW.PrintWords YtadgddipkbdnbaaGreatDoorW.PrintLast
theorem lext (s : ByteArray) (a b : Nat) : (s.extract a b).data.toList = (s.data.toList.drop a).take (b - a) := by
 simp only [ByteArray.data_extract, Array.toList_extract, List.extract_eq_take_drop]
theorem least_l0 (L : List S38) (ts : List Lx.K) (hL : L.map kt = ts) (T : ByteArray) (hT : T.size ≤ 20000) (m : List Lx.Tok) (hm : m.length ≤ 4000)
  (H : ∀ U (y : Lx.Tok) (x : Lx.Tok) V, m = U ++ y :: x :: V → y.at_ + y.text.length ≤ x.at_ ∧ x.at_ + 1 ≤ T.data.toList.length ∧ (y.at_ + y.text.length = x.at_ ∨ (y.at_ + y.text.length + 1 = x.at_ ∧ T.data.toList.drop (x.at_ - 1) = 32 :: T.data.toList.drop x.at_ ∧ Lx.givesM (T.data.toList.take (x.at_ - 1) ++ T.data.toList.drop x.at_) ts = false)))
  (H0 : ∀ U (x : Lx.Tok) V, m = U ++ x :: V → U ≠ [] → 1 ≤ x.at_) (K : Nat) : ∀ d n, 1 ≤ n → n ≤ m.length + 1 → m.length + 1 - n = d → taplinelaw11_LexLeast.l0 (K + 2 * d + 1) true L T (m.map tokS) (n : Int) = some true := by
 intro d
 induction d with
 | zero =>
  intro n h1 hn hd
  rw [taplinelaw11_LexLeast.l0, if_neg (by rw [List.length_map]; omega)]
 | succ d ih =>
  intro n h1 hn hd
  by_cases hlt : n < m.length
  ·have hz : T.data.toList.length = T.size := ba_len T
   obtain ⟨U, y, x, V, hU, hUl⟩ : ∃ U y x V, m = U ++ y :: x :: V ∧ U.length + 1 = n := by
    refine ⟨m.take (n - 1), m[n - 1], m[n], m.drop (n + 1), ?_, by rw [List.length_take]; omega⟩
    have e := List.drop_eq_getElem_cons (i := n) (l := m) hlt
    have e2 := List.drop_eq_getElem_cons (i := n - 1) (l := m) (by omega)
    rw [← e]
    have e3 : n - 1 + 1 = n := by omega
    rw [e3] at e2
    rw [← e2, List.take_append_drop]
   obtain ⟨g1, g2, g3⟩ := H U y x V hU
   have g0 := H0 (U ++ [y]) x V (by simp [hU]) (by simp)
   have rx : rd_T38 (m.map tokS) (n : Int) = tokS x := by
    unfold rd_T38
    rw [Int.toNat_natCast, List.getD_eq_getElem?_getD, List.getElem?_map, hU, List.getElem?_append_right (by omega), show n - U.length = 1 by omega]
    rfl
   have ry : rd_T38 (m.map tokS) ((n : Int) - 1) = tokS y := by
    unfold rd_T38
    rw [show ((n : Int) - 1).toNat = n - 1 by omega, List.getD_eq_getElem?_getD, List.getElem?_map, hU, List.getElem?_append_right (by omega), show n - 1 - U.length = 0 by omega]
    rfl
   have fx : Unit → (tokS x).f2 = (x.at_ : Int) := fun _ => rfl
   have fy : Unit → (tokS y).f2 = (y.at_ : Int) := fun _ => rfl
   have fyz : Unit → (((tokS y).f1).size : Int) = (y.text.length : Int) := fun _ => rfl
   have w1 : Unit → wrap64 ((n : Int) - 1) = (n : Int) - 1 := fun _ => wrapn (by omega) (by omega)
   have w2 : Unit → wrap64 ((y.at_ : Int) + (y.text.length : Int)) = (y.at_ : Int) + (y.text.length : Int) := fun _ => wrapn (by omega) (by omega)
   have w3 : Unit → wrap64 ((n : Int) + 1) = ((n + 1 : Nat) : Int) := fun _ => by rw [wrapn (by omega) (by omega)]; rfl
   have w4 : Unit → wrap64 ((x.at_ : Int) - 1) = ((x.at_ - 1 : Nat) : Int) := fun _ => by rw [wrapn (by omega) (by omega)]; omega
   rw [show K + 2 * (d + 1) + 1 = ((K + 2 * d + 1) + 1) + 1 by omega, taplinelaw11_LexLeast.l0, if_pos (by rw [List.length_map]; omega), if_pos (by omega), w1 (), if_pos (by omega), if_pos (by rw [List.length_map]; omega), rx, ry, fx (), fy (), fyz (), w2 (), if_neg (by omega), if_neg (by omega),
    decide_eq_false (by omega), taplinelaw11_LexLeast.j3, if_neg (by decide), w3 ()]
   have ih' := ih (n + 1) (by omega) (by omega) (by omega)
   rcases g3 with g3 | ⟨g3, g4, g5⟩
   ·rw [if_pos (by omega)]
    exact ih'
   ·have w5 : Unit → wrap64 ((x.at_ : Int) - ((y.at_ : Int) + (y.text.length : Int))) = 1 := fun _ => by rw [wrapn (by omega) (by omega)]; omega
    have hb : bt T ((x.at_ - 1 : Nat) : Int) = 32 := by
     have hlt2 : x.at_ - 1 < T.size := by omega
     unfold bt
     rw [Int.toNat_natCast, dif_pos hlt2]
     have : T.data.toList.drop (x.at_ - 1) = T[x.at_ - 1] :: T.data.toList.drop (x.at_ - 1 + 1) := by
      rw [List.drop_eq_getElem_cons (by omega)]; rfl
     rw [this] at g4
     rw [(List.cons.inj g4).1]; rfl
    have hE : (T.extract 0 (x.at_ - 1) ++ T.extract x.at_ T.size).data.toList = T.data.toList.take (x.at_ - 1) ++ T.data.toList.drop x.at_ := by
     rw [ByteArray.data_append, Array.toList_append, lext, lext, List.drop_zero, Nat.sub_zero, List.take_of_length_le (l := T.data.toList.drop x.at_) (by rw [List.length_drop]; omega)]
    rw [if_neg (by omega), w4 (), if_pos (by omega), if_pos (by omega), if_pos (by omega), if_pos (by omega), Int.toNat_natCast, Int.toNat_natCast, if_pos (by rw [ByteArray.size_extract, ByteArray.size_extract]; omega), w5 ()]
    simp only [lex_Scan.f, Option.bind_some]
    rw [if_pos trivial, if_pos (by omega), hb, if_pos (show (32 : Int) = 32 from rfl), hE]
    by_cases hs : (Lx.scan (T.data.toList.take (x.at_ - 1) ++ T.data.toList.drop x.at_)).2.2 = 0
    ·rw [if_pos hs]
     simp only [lex_Same.f, Option.bind_some]
     rw [kt_tokS, hL]
     have : ¬ ((Lx.scan (T.data.toList.take (x.at_ - 1) ++ T.data.toList.drop x.at_)).1.map Lx.ktM = ts) := fun h => by
      have g6 : Lx.givesM (T.data.toList.take (x.at_ - 1) ++ T.data.toList.drop x.at_) ts = true := decide_eq_true ⟨hs, h⟩
      rw [g6] at g5
      cases g5
     rw [decide_eq_false this, if_neg (by decide)]
     exact ih'
    ·rw [if_neg hs]
     exact ih'
  ·rw [taplinelaw11_LexLeast.l0, if_neg (by rw [List.length_map]; omega)]
theorem LexLeast_pure : taplinelaw11_LexLeast.Pure := by
 intro s hs
 refine ⟨20000, ?_⟩
 simp only [taplinelaw11_LexLeast.f, sane_t.f, lex_Scan.f, Option.bind_some]
 have hsl : s.data.toList.length = s.size := ba_len s
 have hj : ∀ L, taplinelaw11_LexLeast.j0 20000 true L true = some true := fun L => by
  show taplinelaw11_LexLeast.j0 (19999 + 1) _ _ _ = _
  rw [taplinelaw11_LexLeast.j0, if_pos rfl]
 by_cases es : (Lx.scan s.data.toList).2.2 = 0
 ·rw [if_pos es]
  obtain ⟨h1, h2, h3, h4⟩ := scanned es
  generalize Lx.scan s.data.toList = sc at es h2 h3 h4
  obtain ⟨l, at_, e⟩ := sc
  simp only at es h2 h3 h4 ⊢
  rw [List.length_map]
  by_cases h60 : (l.length : Int) > 60
  ·rw [if_pos h60]
   exact hj _
  ·rw [if_neg h60]
   by_cases hbig : (s.size : Int) > 2000
   ·rw [decide_eq_true hbig]
    exact hj _
   ·rw [decide_eq_false hbig]
    show taplinelaw11_LexLeast.j0 (19999 + 1) _ _ _ = _
    have hlen : (l.map tokS).length ≤ 4000 := by rw [List.length_map]; omega
    rw [taplinelaw11_LexLeast.j0, if_neg (by decide), tight_f _ hlen (by omega) 19999 (by rw [List.length_map]; omega), kt_tokS]
    have j1 := Lx.joinK_len (l.map Lx.ktM)
    rw [← kt_tokS, ← lenS_kt, kt_tokS] at j1
    have t1 := Lx.tight_len (ts := l.map Lx.ktM) (done := []) (out := [])
    rw [← kt_tokS, ← lenS_kt, kt_tokS, List.length_nil] at t1
    have t3 : tightM (l.map Lx.ktM) = Lx.tightK [] [] (l.map Lx.ktM) := by
     by_cases hne : l.map Lx.ktM = []
     ·rw [hne]; rfl
     ·have j2 := Lx.join_back h3 hne (by omega) (by rw [List.length_map]; omega)
      have j3 : joinM (l.map Lx.ktM) = Lx.joinK (l.map Lx.ktM) := by unfold joinM; rw [if_pos (gives_of j2)]
      unfold tightM; rw [j3, if_neg (Lx.joinK_ne h3 hne)]
    rw [t3]
    obtain ⟨g1, g2, g3⟩ := Lx.least h3 rfl (by omega) (by rw [List.length_map]; omega)
    generalize hT : Lx.tightK [] [] (l.map Lx.ktM) = T at *
    simp only [Option.bind_some, lex_Scan.f]
    have eT : (strS T).data.toList = T := rfl
    rw [eT, if_pos g1]
    have hml : (Lx.scan T).1.length = l.length := by
     have := congrArg List.length g2
     rw [List.length_map, List.length_map] at this
     exact this
    show taplinelaw11_LexLeast.j1 (19998 + 1) _ _ _ _ _ = _
    rw [taplinelaw11_LexLeast.j1, if_neg (by rw [List.length_map, List.length_map, hml]; simp)]
    have := least_l0 (l.map tokS) (l.map Lx.ktM) (kt_tokS l) (strS T) (by show T.length ≤ _; omega) (Lx.scan T).1 (by omega) g3 (by
     intro U x V hU hne
     obtain ⟨U', y, rfl⟩ : ∃ U' y, U = U' ++ [y] := ⟨U.dropLast, U.getLast hne, (List.dropLast_concat_getLast hne).symm⟩
     obtain ⟨k1, -, -⟩ := g3 U' y x V (by rw [hU]; simp)
     have hy : (Lx.scan T).1.map Lx.ktM = l.map Lx.ktM := g2
     have : Lx.ktM y ∈ l.map Lx.ktM := by rw [← hy, hU]; simp
     obtain ⟨c, u, e, -⟩ := h3.solid _ this
     have e' : y.text = c :: u := e
     rw [e', List.length_cons] at k1
     omega) (19997 - 2 * (Lx.scan T).1.length) (Lx.scan T).1.length 1 (by omega) (by omega) (by omega)
    rw [show 19997 - 2 * (Lx.scan T).1.length + 2 * (Lx.scan T).1.length + 1 = 19998 by omega] at this
    exact this
 ·rw [if_neg es]
  exact hj _
end Go.Proofs.YtadgddipkbdnbaaGreatDoor.Q
set_option linter.unusedVariables false
set_option linter.unusedSimpArgs false
namespace Go.Proofs.YtadgddipkbdnbaaGreatDoor.lexLeast
open Go.ChangeShapes Go.WideShapes Go.ChangeAt Go.RowKit
open Go.ChangeMaps (open_string shut_string)
set_option maxRecDepth 100000 in
theorem lifted (os : Os) (started : os.Started) (H : Type) (enc : TypeId × Value → H) :
  ReturnsInHanded {} Tryz.checked os 8 .any (fun w args => (Rows.lexLeastSpec.pre enc Tryz.prog Tryz.f8 [] false w args ∧ laidMetH Tryz.prog lexLaid w) ∧ sizedMet enc Tryz.prog Tryz.f8 (OpenSpec.ofChange Rows.lexLeastSpec) false w args)
   (Rows.lexLeastSpec.post enc Tryz.prog Tryz.f8 false true false false) := by
 refine handed_and_shaped (C := Tryz.checked) (X := fun w _ => laidMetH Tryz.prog lexLaid w) (fun _ _ _ hh h => h.of_heap hh) own started (by kernel_rfl) Tryz.func8
  (ChangeSpec.witness_shaped (enc := enc) (C := Tryz.checked) (os := os) (X := fun w _ => laidMetH Tryz.prog lexLaid w) false (World.doorLaid Tryz.prog 400 os) #[.string ByteArray.empty] 8 rfl (World.shaped_of_RefB (by kernel_rfl) (by kernel_rfl)) (by kernel_rfl) (by kernel_rfl) (by kernel_rfl) (door_met os _)) ?_
 intro W base args ds gs before hval0 hW hcnd hsz0 hL hsh _
 have hgw := of_laid hL hsh
 clear hL hsh
 have hsz : (DataW.weightsEach Tryz.prog (Tryz.f8.params.toList ++ Rows.lexLeastSpec.plain.varTypes Tryz.prog) (ds ++ gs)).all (· ≤ reachBytes) = true := hsz0
 have hval : ∀ (j : Nat) t v, Tryz.f8.params[j]? = some t → args[j]? = some v → Value.okWide Tryz.prog W .any base t v := hval0
 have hW' := hW
 obtain ⟨p, q, hA0, hV, rfl, hfz, hnd⟩ := hW
 have hA : DataW.TrodAll enc Tryz.prog W 0 (fun _ => true) true Tryz.f8.params.toList args.toList ds p := hA0
 rw [Tryz.params8] at hA hval hsz
 obtain ⟨v0, vs0, d0, ds0, p0, q0, hargs, rfl, rfl, h0, r0⟩ := trodAll_cons hA
 obtain ⟨rfl, rfl, rfl⟩ := trodAll_nil r0
 obtain rfl : args = #[v0] := by cases args; simp_all
 obtain ⟨rfl, rfl⟩ := trodVars_none hV
 obtain ⟨a0, rfl, rfl, rfl, y0⟩ := open_string Tryz.underlying9 (hval 0 9 v0 rfl rfl) h0
 have w0 : a0.size ≤ 140737488351232 := by
  have z := sized_string hsz (j := 0) (t := 9) rfl rfl
  rw [Array.length_toList] at z
  exact z
 clear hA0 hval0 hsz0 hsz
 refine (Q.taplinelaw11_LexLeast.walk Q.LexLeast_pure a0 W w0 hgw).mono fun e W' ⟨he, bel⟩ => ?_
 subst he
 exact ⟨_, rfl, _, _, _, [], _, [], hW', trodAll_mk1 (shut_bool Tryz.underlying4 _), (trodAll_cons_mk (shut_string Tryz.underlying9 y0) trodAll_mk0), rfl, bel.frame _, fun h => by cases h⟩
theorem over : Rows.LexLeastSaid :=
 OpenClaim.holds_of_wide 8 Tryz.f8 rfl rfl rfl rfl rfl rfl rfl ⟨rfl, rfl, rfl, rfl, rfl⟩ rfl rfl rfl rfl rfl (by kernel_rfl) Tryz.func8 (by kernel_rfl)
  (of_decide_eq_true (by kernel_rfl)) (by unfold Func.isWrapper; first | (rw [if_pos (by decide +kernel)]; kernel_rfl) | (rw [if_neg (by decide +kernel)]; exact ⟨rfl, rfl⟩))
  (fun os started H enc _ => lifted os started H enc)
end Go.Proofs.YtadgddipkbdnbaaGreatDoor.lexLeast
namespace Go.Proofs.YtadgddipkbdnbaaGreatDoor
theorem lexLeast_card : Rows.LexLeastCardSaid :=
 Claim7.holds_tied_plain_at .later [] [.data, .data, .data, .sentinel, .sentinel, .listed, .data, .data] true (true, "85ed3a9bdcdf405d5b0a35b2759147de3913577c107b7173cad54d4ee995d561") true
  lexLeast.over (fun _ h => by cases h) (by kernel_rfl) (fun _ h => by cases h) lexLeast_row_tie rfl ⟨rfl, rfl⟩ (by kernel_rfl) rfl
  (fun f fn hf hfn => by
   obtain rfl : f = 8 := Option.some.inj ((show Tryz.prog.funcNamed "tapline/taplinelaw11.LexLeast" = some 8 by kernel_rfl).symm.trans hf) |>.symm
   obtain rfl : fn = Tryz.f8 := (Option.some.inj (Tryz.func8.symm.trans hfn)).symm
   exact ⟨by kernel_rfl, fun j t ht => by
    rw [Tryz.params8] at ht
    have hm : t ∈ [9] := by simpa using Array.mem_of_getElem? ht
    have hall : ([9].all fun u => !Tryz.prog.wantsStandIn u) = true := by kernel_rfl
    exact (show Tryz.prog.wantsStandIn t = false by simpa using List.all_eq_true.1 hall t hm)⟩)
  (by kernel_rfl)
#print axioms lexLeast_card
end Go.Proofs.YtadgddipkbdnbaaGreatDoor
