/- For every list of tokens (at most 200, or more than 4000, and 3000 bytes), Join and Tight of the program return what the specification's return; the inputs read as they did; the package-level variables hold what the program's text lays in them: the tied card. -/
import Derived.Test.YtadgddipkbdnbaaGreatDoorLexP1
import Derived.Test.YtadgddipkbdnbaaGreatDoorLexP2
import Derived.Test.YtadgddipkbdnbaaGreatDoorLexP3
import Derived.Test.YtadgddipkbdnbaaGreatDoorLexP4
import Derived.Test.YtadgddipkbdnbaaGreatDoorLexP7
import Derived.Test.YtadgddipkbdnbaaGreatDoorLexP8
import Derived.Test.YtadgddipkbdnbaaGreatDoorLexP14
import Derived.Test.YtadgddipkbdnbaaGreatDoorLexP15
import Derived.Test.YtadgddipkbdnbaaGreatDoorLexR9
import Derived.Test.YtadgddipkbdnbaaGreatDoorLexWritesZ1
import Derived.Test.YtadgddipkbdnbaaGreatDoorLexWritesZ2
import Derived.Test.YtadgddipkbdnbaaGreatDoorLexWritesZ3
import Derived.Test.YtadgddipkbdnbaaGreatDoorTie
import Derived.Test.YtadgddipkbdnbaaGreatDoorCards
import Derived.WalkKit
import Derived.ProofKit
import Derived.OpenShut
import Derived.ShutString
import Derived.ChangeOld
import Derived.Below
import Derived.SizedLaws
import Derived.SevenTiedAt
set_option linter.unusedVariables false
set_option linter.unusedSimpArgs false
namespace Go.Proofs.Lx
open Go.Proofs.YtadgddipkbdnbaaGreatDoor
theorem joinK_snoc : ∀ (l : List K) (x : K), l ≠ [] → joinK (l ++ [x]) = joinK l ++ 32 :: x.2
 | [], _, h => absurd rfl h
 | [y], x, _ => by simp [joinK]
 | y :: z :: l, x, _ => by
  have := joinK_snoc (z :: l) x (by simp)
  simp only [List.cons_append] at this ⊢
  rw [joinK, this, joinK]
  simp
end Go.Proofs.Lx
namespace Go.Proofs.YtadgddipkbdnbaaGreatDoor.Q
open Go.RowKit Go.Proofs.YtadgddipkbdnbaaGreatDoor YtadgddipkbdnbaaGreatDoorW.PrintWords YtadgddipkbdnbaaGreatDoorW.PrintLast
theorem wSame_l0 (l m : List S38) (hlm : l.length = m.length) (hb : l.length < 9223372036854775807) (K : Nat) : ∀ d i, i ≤ l.length → l.length - i = d → (l.map kt).take i = (m.map kt).take i →
  taplineref11_Same.l0 (K + d + 1) l m (i : Int) = some (decide (l.map kt = m.map kt)) := by
 intro d
 induction d with
 | zero =>
  intro i hi hd h0
  rw [List.take_of_length_le (by rw [List.length_map]; omega), List.take_of_length_le (by rw [List.length_map]; omega)] at h0
  rw [taplineref11_Same.l0, if_neg (by omega), decide_eq_true h0]
 | succ d ih =>
  intro i hi hd h0
  have hlt : i < l.length := by omega
  have k1 := kt_rd l i hlt
  have k2 := kt_rd m i (by omega)
  have hiff := kt_eq (rd_T38 l (i : Int)) (rd_T38 m (i : Int))
  rw [show K + (d + 1) + 1 = (K + d + 1) + 1 by omega, taplineref11_Same.l0, if_pos (by omega), if_pos (by omega), if_pos (by omega)]
  have key : ¬ (kt (rd_T38 l (i : Int)) = kt (rd_T38 m (i : Int))) → ¬ (l.map kt = m.map kt) := by
   intro h e
   apply h
   rw [k1, k2]
   simp only [e]
  by_cases hf0 : (rd_T38 l (i : Int)).f0 = (rd_T38 m (i : Int)).f0
  ·rw [if_pos hf0]
   by_cases hf1 : (rd_T38 l (i : Int)).f1.toList = (rd_T38 m (i : Int)).f1.toList
   ·rw [if_pos hf1, wrapn (by omega) (by omega)]
    refine ih (i + 1) (by omega) (by omega) ?_
    rw [List.take_add_one, List.take_add_one, h0, List.getElem?_eq_getElem (by simpa using hlt), List.getElem?_eq_getElem (by rw [List.length_map]; omega), ← k1, ← k2, hiff.2 ⟨hf0, hf1⟩]
   ·rw [if_neg hf1, decide_eq_false (key fun h => hf1 (hiff.1 h).2)]
  ·rw [if_neg hf0, decide_eq_false (key fun h => hf0 (hiff.1 h).1)]
theorem wSame_ev (l m : List S38) (hb : l.length < 9223372036854775807) : Ev (fun k => taplineref11_Same.f k l m) (decide (l.map kt = m.map kt)) := by
 unfold taplineref11_Same.f
 by_cases h : (l.length : Int) = (m.length : Int)
 ·simp only [if_pos h]
  refine ⟨l.length + 1, fun k hk => ?_⟩
  have := wSame_l0 l m (by omega) hb (k - l.length - 1) l.length 0 (by omega) (by omega) rfl
  rw [show k - l.length - 1 + l.length + 1 = k by omega] at this
  exact this
 ·simp only [if_neg h]
  rw [decide_eq_false (fun e => h (by have := congrArg List.length e; simp at this; omega))]
  exact Ev.now _
theorem refGives_ev (t : ByteArray) (l : List S38) : Ev (fun k => taplineref11_gives.f k t l) (Lx.givesM t.data.toList (l.map kt)) := by
 unfold taplineref11_gives.f
 refine ev_bind (refScan_ev t) ?_
 simp only
 unfold Lx.givesM
 by_cases h : (Lx.scan t.data.toList).2.2 = 0
 ·simp only [if_pos h]
  have hs := wSame_ev ((Lx.scan t.data.toList).1.map tokS) l (by rw [List.length_map]; have := scan_count t.data.toList; omega)
  rw [kt_tokS] at hs
  have e : decide ((Lx.scan t.data.toList).2.2 = 0 ∧ (Lx.scan t.data.toList).1.map Lx.ktM = l.map kt) = decide ((Lx.scan t.data.toList).1.map Lx.ktM = l.map kt) := by
   by_cases h2 : (Lx.scan t.data.toList).1.map Lx.ktM = l.map kt
   ·rw [decide_eq_true ⟨h, h2⟩, decide_eq_true h2]
   ·rw [decide_eq_false (fun hh => h2 hh.2), decide_eq_false h2]
  rw [e]
  exact ev_bind hs (Ev.now _)
 ·simp only [if_neg h]
  rw [decide_eq_false (fun hh => h hh.1)]
  exact Ev.now _
theorem joinK_lenS (l : List S38) (h : l ≠ []) : (Lx.joinK (l.map kt)).length + 1 ≤ lenS l := by
 have key : ∀ ts : List Lx.K, ts ≠ [] → (Lx.joinK ts).length + 1 ≤ (ts.map fun x => x.2.length + 1).sum := by
  intro ts
  induction ts with
  | nil => intro h; exact absurd rfl h
  | cons x ts ih =>
   intro _
   cases ts with
   | nil => simp [Lx.joinK]
   | cons y ts =>
    have := ih (by simp)
    rw [Lx.joinK, List.length_append, List.length_cons, List.map_cons, List.sum_cons]
    omega
 rw [lenS_kt]
 exact key _ (by simpa using h)
theorem app32 (out : List UInt8) : strS out ++ (⟨#[32]⟩ : ByteArray) = strS (out ++ [32]) := by
 unfold strS
 apply ByteArray.ext
 apply Array.ext'
 rw [ByteArray.data_append, Array.toList_append]
theorem appT (o : List UInt8) (x : S38) : strS o ++ x.f1 = strS (o ++ (kt x).2) := by
 unfold strS kt
 apply ByteArray.ext
 apply Array.ext'
 rw [ByteArray.data_append, Array.toList_append]
theorem refJoin_l0 (l : List S38) (hl : l.length ≤ 4000) (hs : lenS l ≤ 20001) : ∀ d i, i ≤ l.length → l.length - i = d → Ev (fun k => taplineref11_Join.l0 k l (strS (Lx.joinK ((l.map kt).take i))) (i : Int)) (strS (joinM (l.map kt))) := by
 intro d
 induction d with
 | zero =>
  intro i hi hd
  have e : (l.map kt).take i = l.map kt := List.take_of_length_le (by rw [List.length_map]; omega)
  rw [e]
  refine Ev.step (f := fun k => (taplineref11_gives.f k (strS (Lx.joinK (l.map kt))) l).bind fun t254 => (if t254 = true then (some (strS (Lx.joinK (l.map kt)))) else (some (⟨#[]⟩ : ByteArray)))) (fun k => ?_) (ev_bind (refGives_ev _ _) ⟨0, fun k _ => ?_⟩)
  ·simp only [taplineref11_Join.l0]; rw [if_neg (by omega)]
  ·show (if Lx.givesM (Lx.joinK (l.map kt)) (l.map kt) = true then _ else _) = _
   unfold joinM
   split <;> rfl
 | succ d ih =>
  intro i hi hd
  have hlt : i < l.length := by omega
  have h1 := lenS_take l i hlt
  have h2 := lenS_mono l (i + 1)
  have h3 := joinK_lenS (l.take (i + 1)) (by intro h; have := congrArg List.length h; rw [List.length_take, List.length_nil] at this; omega)
  rw [kt_take] at h3
  have et : (l.map kt).take (i + 1) = (l.map kt).take i ++ [kt l[i]] := by rw [List.take_add_one, List.getElem?_eq_getElem (by simpa using hlt), List.getElem_map]; rfl
  have el : (kt l[i]).2.length = l[i].f1.size := by unfold kt; exact ba_len _
  have ih' := ih (i + 1) (by omega) (by omega)
  have wi : Unit → wrap64 ((i : Int) + 1) = ((i + 1 : Nat) : Int) := fun _ => by rw [wrapn (by omega) (by omega)]; rfl
  refine Ev.step (f := fun k => taplineref11_Join.l0 k l (strS (Lx.joinK ((l.map kt).take (i + 1)))) ((i + 1 : Nat) : Int)) (fun k => ?_) ih'
  simp only [taplineref11_Join.l0]
  rw [if_pos (by omega), rd38 l i hlt, wi (), app32, appT, appT]
  by_cases h0 : i = 0
  ·subst h0
   have e1 : (l.map kt).take 0 = [] := List.take_zero
   rw [e1, List.nil_append] at et
   rw [et] at h3 ⊢
   have z0 : Unit → (strS (Lx.joinK ((l.map kt).take 0))).size = 0 := fun _ => by rw [e1]; rfl
   have e2 : Lx.joinK ((l.map kt).take 0) ++ (kt l[0]).2 = (kt l[0]).2 := by rw [e1]; rfl
   have e3 : Lx.joinK [kt l[0]] = (kt l[0]).2 := rfl
   rw [e3] at h3 ⊢
   rw [e2]
   have z1 : Unit → (strS (kt l[0]).2).size = (kt l[0]).2.length := fun _ => rfl
   rw [if_neg (by omega), if_pos (by omega), z0 (), if_pos (by omega), z1 (), if_neg (by omega)]
  ·have hne : (l.map kt).take i ≠ [] := by
    intro h
    have := congrArg List.length h
    rw [List.length_take, List.length_map, List.length_nil] at this
    omega
   have ej := Lx.joinK_snoc _ (kt l[i]) hne
   rw [← et] at ej
   have e4 : Lx.joinK ((l.map kt).take i) ++ [32] ++ (kt l[i]).2 = Lx.joinK ((l.map kt).take (i + 1)) := by rw [ej]; simp
   rw [e4]
   have hlen := congrArg List.length ej
   rw [List.length_append, List.length_cons] at hlen
   have z0 : Unit → (strS (Lx.joinK ((l.map kt).take i))).size = (Lx.joinK ((l.map kt).take i)).length := fun _ => rfl
   have z1 : Unit → (strS (Lx.joinK ((l.map kt).take i) ++ [32])).size = (Lx.joinK ((l.map kt).take i)).length + 1 := fun _ => by show (_ ++ [32] : List UInt8).length = _; simp
   have z2 : Unit → (strS (Lx.joinK ((l.map kt).take (i + 1)))).size = (Lx.joinK ((l.map kt).take (i + 1))).length := fun _ => rfl
   rw [if_pos (by omega), z0 (), if_pos (by omega), if_pos (by omega), z1 (), if_pos (by omega), z2 (), if_neg (by omega)]
theorem refJoin_many (l : List S38) (hl : 4000 < l.length) (k : Nat) : taplineref11_Join.f k l = some ⟨#[]⟩ := by
 unfold taplineref11_Join.f
 rw [if_pos (by omega)]
theorem refJoin_ev (l : List S38) (hl : l.length ≤ 4000) (hs : lenS l ≤ 20001) : Ev (fun k => taplineref11_Join.f k l) (strS (joinM (l.map kt))) := by
 have := refJoin_l0 l hl hs l.length 0 (by omega) (by omega)
 refine Ev.congr (fun k => ?_) this
 unfold taplineref11_Join.f
 rw [if_neg (by omega)]
 rfl
theorem refTight_l0 (l : List S38) (hl : l.length ≤ 4000) (hs : lenS l ≤ 20001) (hc : Lx.Toks [] (l.map kt)) : ∀ d i (out : List UInt8), i ≤ l.length → l.length - i = d → out.length ≤ lenS (l.take i) → (i = 0 → out = []) →
  Ev (fun k => taplineref11_Tight.l0 k l (strS out) (i : Int)) (strS (Lx.tightK ((l.map kt).take i) out ((l.map kt).drop i))) := by
 intro d
 induction d with
 | zero =>
  intro i out hi hd ho h0
  rw [List.drop_of_length_le (by rw [List.length_map]; omega), Lx.tightK]
  exact ⟨1, fun k hk => by
   obtain ⟨k, rfl⟩ : ∃ m, k = m + 1 := ⟨k - 1, by omega⟩
   simp only [taplineref11_Tight.l0]; rw [if_neg (by omega)]⟩
 | succ d ih =>
  intro i out hi hd ho h0
  have hlt : i < l.length := by omega
  have h1 := lenS_take l i hlt
  have h2 := lenS_mono l (i + 1)
  have ed : (l.map kt).drop i = kt l[i] :: (l.map kt).drop (i + 1) := by rw [List.drop_eq_getElem_cons (by simpa using hlt), List.getElem_map]
  have et : (l.map kt).take (i + 1) = (l.map kt).take i ++ [kt l[i]] := by rw [List.take_add_one, List.getElem?_eq_getElem (by simpa using hlt), List.getElem_map]; rfl
  have el : (kt l[i]).2.length = l[i].f1.size := by unfold kt; exact ba_len _
  have wi : Unit → wrap64 ((i : Int) + 1) = ((i + 1 : Nat) : Int) := fun _ => by rw [wrapn (by omega) (by omega)]; rfl
  have z0 : Unit → (strS out).size = out.length := fun _ => rfl
  have z1 : Unit → (strS (out ++ [32])).size = out.length + 1 := fun _ => by show (out ++ [32]).length = _; simp
  rw [ed, Lx.tightK, ← et]
  have hgE := refGives_ev (strS (out ++ (kt l[i]).2)) (l.take (i + 1))
  rw [kt_take] at hgE
  have es : (strS (out ++ (kt l[i]).2)).data.toList = out ++ (kt l[i]).2 := rfl
  rw [es] at hgE
  have hstep : ∀ k, taplineref11_Tight.l0 (k + 1) l (strS out) (i : Int) = (taplineref11_gives.f k (strS (out ++ (kt l[i]).2)) (l.take (i + 1))).bind fun t271 => (if t271 = true then (taplineref11_Tight.l0 k l (strS (out ++ (kt l[i]).2)) ((i + 1 : Nat) : Int)) else (taplineref11_Tight.l0 k l (strS (out ++ [32] ++ (kt l[i]).2)) ((i + 1 : Nat) : Int))) := by
   intro k
   simp only [taplineref11_Tight.l0]
   rw [if_pos (by omega), if_pos (by omega), rd38 l i hlt, wi (), app32, appT, appT, z0 (), z1 (), if_pos (by omega), if_pos (by omega), if_pos (by omega), if_pos (by omega), if_pos (by omega), Int.toNat_natCast]
  refine Ev.step hstep (ev_bind hgE ?_)
  cases hg : Lx.givesM (out ++ (kt l[i]).2) ((l.map kt).take (i + 1)) with
  | true =>
   simp only [if_true]
   rw [if_neg (by simp)]
   exact ih (i + 1) _ (by omega) (by omega) (by rw [List.length_append]; omega) (by omega)
  | false =>
   simp only [Bool.false_eq_true, if_false]
   have hi0 : i ≠ 0 := by
    intro h
    subst h
    rw [h0 rfl] at hg
    have e1 : (l.map kt).take (0 + 1) = [kt l[0]] := by rw [et]; simp
    rw [e1] at hg
    have hk : Lx.Tokk (Lx.opK []) (kt l[0]) := by
     have e3 := List.drop_eq_getElem_cons (i := 0) (l := l.map kt) (by simpa using hlt)
     rw [List.drop_zero, List.getElem_map] at e3
     rw [e3] at hc
     exact hc.1
    have hone := Lx.LexTo.one (p := []) hk (v := []) (.inl rfl)
    rw [List.append_nil] at hone
    have h3 := lenS_take l 0 hlt
    have := Lx.to_scan (t := (kt l[0]).2) (by omega) (by simp) hone .nil
    have hgt : Lx.givesM ([] ++ (kt l[0]).2) [kt l[0]] = true := decide_eq_true this
    rw [hgt] at hg; cases hg
   have hne : (l.map kt).take i ≠ [] := by
    intro h
    have := congrArg List.length h
    rw [List.length_take, List.length_map, List.length_nil] at this
    omega
   rw [if_pos ⟨hne, trivial⟩, show out ++ 32 :: (kt l[i]).2 = out ++ [32] ++ (kt l[i]).2 by simp]
   exact ih (i + 1) _ (by omega) (by omega) (by rw [List.length_append, List.length_append, List.length_cons, List.length_nil]; omega) (by omega)
theorem refTight_many (l : List S38) (hl : 4000 < l.length) (k : Nat) : taplineref11_Tight.f k l = some ⟨#[]⟩ := by
 unfold taplineref11_Tight.f
 rw [refJoin_many l hl]
 simp only [Option.bind_some]
 rw [if_pos (by rw [ByteArray.toList_eq])]
theorem refTight_ev (l : List S38) (hl : l.length ≤ 4000) (hs : lenS l ≤ 20001) : Ev (fun k => taplineref11_Tight.f k l) (strS (tightM (l.map kt))) := by
 unfold taplineref11_Tight.f
 refine ev_bind (refJoin_ev l hl hs) ?_
 rw [strS_list]
 unfold tightM
 by_cases h : joinM (l.map kt) = []
 ·simp only [if_pos h]
  exact Ev.now _
 ·simp only [if_neg h]
  have hc : Lx.Toks [] (l.map kt) := by
   unfold joinM at h
   split at h
   ·rename_i hg
    obtain ⟨g1, g2⟩ := of_decide_eq_true hg
    obtain ⟨-, -, f, g3, -⟩ := Lx.scan_to g1
    rw [g2] at g3
    exact g3.chain
   ·exact absurd rfl h
  have := refTight_l0 l hl hs hc l.length 0 [] (by omega) (by omega) (by simp) (fun _ => rfl)
  rw [List.take_zero, List.drop_zero] at this
  exact this
def sumW : List S38 → Int → Int
 | [], x => x
 | a :: l, x => sumW l (wrap64 (x + (a.f1.size : Int)))
theorem sumW_small : ∀ (l : List S38) (x : Nat), x + lenS l ≤ 9223372036854775807 → sumW l (x : Int) + l.length = x + (lenS l : Nat)
 | [], x, _ => by simp [sumW, lenS]
 | a :: l, x, h => by
  have e : lenS (a :: l) = a.f1.size + 1 + lenS l := by simp [lenS]
  rw [e] at h ⊢
  have w : wrap64 ((x : Int) + (a.f1.size : Int)) = ((x + a.f1.size : Nat) : Int) := by rw [wrapn (by omega) (by omega)]; rfl
  rw [sumW, w]
  have := sumW_small l (x + a.f1.size) (by omega)
  clear w
  rw [List.length_cons]
  omega
def wTail (k : Nat) (l : List S38) (x4 : Int) : Option Bool := if (l.length : Int) > 200 then (if (l.length : Int) ≤ 4000 then (taplinelaw11_LexWrites.j1 k l true true) else (taplinelaw11_LexWrites.j1 k l true (decide (x4 > 3000)))) else (taplinelaw11_LexWrites.j1 k l true (decide (x4 > 3000)))
theorem writes_l0 (l : List S38) (hb : l.length < 9223372036854775807) (K : Nat) : ∀ d i (x : Int), i ≤ l.length → l.length - i = d → taplinelaw11_LexWrites.l0 (K + d + 1) l true x (i : Int) = wTail K l (sumW (l.drop i) x) := by
 intro d
 induction d with
 | zero =>
  intro i x hi hd
  rw [taplinelaw11_LexWrites.l0, if_neg (by omega), List.drop_of_length_le (by omega)]
  rfl
 | succ d ih =>
  intro i x hi hd
  have hlt : i < l.length := by omega
  have wi : Unit → wrap64 ((i : Int) + 1) = ((i + 1 : Nat) : Int) := fun _ => by rw [wrapn (by omega) (by omega)]; rfl
  rw [show K + (d + 1) + 1 = (K + d + 1) + 1 by omega, taplinelaw11_LexWrites.l0, if_pos (by omega), if_pos (by omega), rd38 l i hlt, wi (), List.drop_eq_getElem_cons hlt, sumW]
  exact ih (i + 1) _ (by omega) (by omega)
theorem LexWrites_pure (l : List S38) (hb : l.length ≤ 140737488351232) (hs : ∀ x ∈ l, x.f1.size ≤ 140737488351232) : ∃ k, taplinelaw11_LexWrites.f k l = some true := by
 have hyes : ∀ k, taplinelaw11_LexWrites.j1 (k + 1) l true true = some true := fun k => by rw [taplinelaw11_LexWrites.j1, if_pos rfl]
 have hbound : l.length ≤ 200 → lenS l ≤ 30000000000000000 := by
  intro h
  obtain ⟨C, hC⟩ : ∃ C : Nat, C = 140737488351233 := ⟨_, rfl⟩
  have key : ∀ m : List S38, (∀ x ∈ m, x.f1.size ≤ 140737488351232) → lenS m ≤ m.length * C := by
   intro m
   induction m with
   | nil => intro _; simp [lenS]
   | cons a m ih =>
    intro hm
    have h1 := hm a (by simp)
    have h2 := ih fun x hx => hm x (by simp [hx])
    have e : lenS (a :: m) = a.f1.size + 1 + lenS m := by simp [lenS]
    rw [e, List.length_cons, Nat.add_mul]
    omega
  have h1 := key l hs
  have h2 : l.length * C ≤ 200 * C := Nat.mul_le_mul_right C h
  omega
 have hno : ∃ K, ∀ k, K ≤ k → ((4000 < l.length) ∨ (l.length ≤ 200 ∧ lenS l ≤ 20001)) → taplinelaw11_LexWrites.j1 (k + 1) l true false = some true := by
  by_cases hbig : 4000 < l.length
  ·refine ⟨0, fun k _ _ => ?_⟩
   rw [taplinelaw11_LexWrites.j1, if_neg (by decide), if_pos rfl, join_many l hbig, refJoin_many l hbig]
   simp only [Option.bind_some, if_true]
   rw [tight_many l hbig, refTight_many l hbig]
   simp
  ·by_cases hsm : l.length ≤ 200 ∧ lenS l ≤ 20001
   ·obtain ⟨K1, e1⟩ := refJoin_ev l (by omega) hsm.2
    obtain ⟨K2, e2⟩ := refTight_ev l (by omega) hsm.2
    refine ⟨K1 + K2 + 2 * l.length + 2, fun k hk _ => ?_⟩
    have c1 : taplineref11_Join.f k l = _ := e1 k (by omega)
    have c2 : taplineref11_Tight.f k l = _ := e2 k (by omega)
    rw [taplinelaw11_LexWrites.j1, if_neg (by decide), if_pos rfl, join_f l (by omega) hsm.2 k (by omega), c1]
    simp only [Option.bind_some, if_true]
    rw [tight_f l (by omega) hsm.2 k (by omega), c2]
    simp
   ·exact ⟨0, fun k _ h => h.elim (fun h => absurd h hbig) (fun h => absurd h hsm)⟩
 obtain ⟨K, hK⟩ := hno
 refine ⟨(K + 1) + l.length + 1, ?_⟩
 unfold taplinelaw11_LexWrites.f
 simp only [sane_t.f, Option.bind_some]
 have h0 := writes_l0 l (by omega) (K + 1) l.length 0 0 (by omega) (by omega)
 rw [List.drop_zero] at h0
 have e0 : ((0 : Nat) : Int) = 0 := rfl
 rw [e0] at h0
 rw [h0]
 unfold wTail
 by_cases h200 : (l.length : Int) > 200
 ·rw [if_pos h200]
  by_cases h4 : (l.length : Int) ≤ 4000
  ·rw [if_pos h4]; exact hyes K
  ·rw [if_neg h4]
   cases hd : decide (sumW l 0 > 3000) with
   | true => exact hyes K
   | false => exact hK K (Nat.le_refl _) (.inl (by omega))
 ·rw [if_neg h200]
  by_cases hd : sumW l 0 > 3000
  ·rw [decide_eq_true hd]; exact hyes K
  ·rw [decide_eq_false hd]
   refine hK K (Nat.le_refl _) (.inr ⟨by omega, ?_⟩)
   have hb2 := hbound (by omega)
   have := sumW_small l 0 (by omega)
   rw [e0] at this
   omega
end Go.Proofs.YtadgddipkbdnbaaGreatDoor.Q
set_option linter.unusedVariables false
namespace Go.Proofs.YtadgddipkbdnbaaGreatDoor.Q
open Go.RowKit Go.Proofs.YtadgddipkbdnbaaGreatDoor YtadgddipkbdnbaaGreatDoorW.PrintWords YtadgddipkbdnbaaGreatDoorW.PrintLast
theorem writes_any (A : Option Addr) (c : Nat) (l : List S38) (w : World) (hr : Kd.C k38 w A l.length l) (hc : l.length ≤ c) (hb : l.length ≤ 140737488351232) (hs : ∀ x ∈ l, x.f1.size ≤ 140737488351232) (hgw : GW w) :
  Calls Tryz.prog 5 #[.slice A l.length c] w fun e w' => e = .returned (.bool true) ∧ Below w.heap.size w w' := by
 obtain ⟨k, hk⟩ := LexWrites_pure l hb hs
 exact taplinelaw11_LexWrites.calls k A c l true w hr hc hk hgw
end Go.Proofs.YtadgddipkbdnbaaGreatDoor.Q
set_option linter.unusedVariables false
set_option linter.unusedSimpArgs false
namespace Go.Proofs.YtadgddipkbdnbaaGreatDoor.lexWrites
open Go.ChangeShapes Go.WideShapes Go.ChangeAt Go.RowKit
open Go.ChangeMaps (open_string shut_string)
set_option maxRecDepth 100000 in
theorem lifted (os : Os) (started : os.Started) (H : Type) (enc : TypeId × Value → H) :
  ReturnsInHanded {} Tryz.checked os 5 .any (fun w args => (Rows.lexWritesSpec.pre enc Tryz.prog Tryz.f5 [] false w args ∧ laidMetH Tryz.prog lexLaid w) ∧ sizedMet enc Tryz.prog Tryz.f5 (OpenSpec.ofChange Rows.lexWritesSpec) false w args)
   (Rows.lexWritesSpec.post enc Tryz.prog Tryz.f5 false true false false) := by
 refine handed_and_shaped (C := Tryz.checked) (X := fun w _ => laidMetH Tryz.prog lexLaid w) (fun _ _ _ hh h => h.of_heap hh) own started (by kernel_rfl) Tryz.func5
  (ChangeSpec.witness_shaped (enc := enc) (C := Tryz.checked) (os := os) (X := fun w _ => laidMetH Tryz.prog lexLaid w) false (World.doorLaid Tryz.prog 400 os) #[.slice none 0 0] 8 rfl (World.shaped_of_RefB (by kernel_rfl) (by kernel_rfl)) (by kernel_rfl) (by kernel_rfl) (by kernel_rfl) (door_met os _)) ?_
 intro W base args ds gs before hval0 hW hcnd hsz0 hL hsh _
 have hgw := of_laid hL hsh
 clear hL hsh
 have hsz : (DataW.weightsEach Tryz.prog (Tryz.f5.params.toList ++ Rows.lexWritesSpec.plain.varTypes Tryz.prog) (ds ++ gs)).all (· ≤ reachBytes) = true := hsz0
 have hval : ∀ (j : Nat) t v, Tryz.f5.params[j]? = some t → args[j]? = some v → Value.okWide Tryz.prog W .any base t v := hval0
 have hW' := hW
 obtain ⟨p, q, hA0, hV, rfl, hfz, hnd⟩ := hW
 have hA : DataW.TrodAll enc Tryz.prog W 0 (fun _ => true) true Tryz.f5.params.toList args.toList ds p := hA0
 rw [Tryz.params5] at hA hval hsz
 obtain ⟨v0, vs0, d0, ds0, p0, q0, hargs, rfl, rfl, h0, r0⟩ := trodAll_cons hA
 obtain ⟨rfl, rfl, rfl⟩ := trodAll_nil r0
 obtain rfl : args = #[v0] := by cases args; simp_all
 obtain ⟨rfl, rfl⟩ := trodVars_none hV
 have k0 := h0
 have lt0 : ∀ x ∈ p0, x.block < W.heap.size := by obtain ⟨m, hm⟩ := k0; exact DataW.trod_lt m _ _ _ hm
 obtain ⟨a0, cap0, l0, rfl, le0, z0, w0, y0⟩ := Q.open_toks (hval 0 23 v0 rfl rfl) h0 hsz (j := 0) rfl rfl
 clear hA0 hval0 hsz0 hsz
 refine (Q.writes_any a0 cap0 l0 W z0 le0 w0 y0 hgw).mono fun e W' ⟨he, bel⟩ => ?_
 subst he
 exact ⟨_, rfl, _, _, _, [], _, [], hW', trodAll_mk1 (shut_bool Tryz.underlying4 _), (trodAll_cons_mk (Below.trod Q.laidOut (by kernel_rfl) (of_decide_eq_true (by kernel_rfl)) k0 bel lt0) trodAll_mk0), rfl, bel.frame _, fun h => by cases h⟩
theorem over : Rows.LexWritesSaid :=
 OpenClaim.holds_of_wide 5 Tryz.f5 rfl rfl rfl rfl rfl rfl rfl ⟨rfl, rfl, rfl, rfl, rfl⟩ rfl rfl rfl rfl rfl (by kernel_rfl) Tryz.func5 (by kernel_rfl)
  (of_decide_eq_true (by kernel_rfl)) (by unfold Func.isWrapper; first | (rw [if_pos (by decide +kernel)]; kernel_rfl) | (rw [if_neg (by decide +kernel)]; exact ⟨rfl, rfl⟩))
  (fun os started H enc _ => lifted os started H enc)
end Go.Proofs.YtadgddipkbdnbaaGreatDoor.lexWrites
namespace Go.Proofs.YtadgddipkbdnbaaGreatDoor
theorem lexWrites_card : Rows.LexWritesCardSaid :=
 Claim7.holds_tied_plain_at .later [] [.data, .data, .data, .sentinel, .sentinel, .listed, .data, .data] true (true, "85ed3a9bdcdf405d5b0a35b2759147de3913577c107b7173cad54d4ee995d561") true
  lexWrites.over (fun _ h => by cases h) (by kernel_rfl) (fun _ h => by cases h) lexWrites_row_tie rfl ⟨rfl, rfl⟩ (by kernel_rfl) rfl
  (fun f fn hf hfn => by
   obtain rfl : f = 5 := Option.some.inj ((show Tryz.prog.funcNamed "tapline/taplinelaw11.LexWrites" = some 5 by kernel_rfl).symm.trans hf) |>.symm
   obtain rfl : fn = Tryz.f5 := (Option.some.inj (Tryz.func5.symm.trans hfn)).symm
   exact ⟨by kernel_rfl, fun j t ht => by
    rw [Tryz.params5] at ht
    have hm : t ∈ [23] := by simpa using Array.mem_of_getElem? ht
    have hall : ([23].all fun u => !Tryz.prog.wantsStandIn u) = true := by kernel_rfl
    exact (show Tryz.prog.wantsStandIn t = false by simpa using List.all_eq_true.1 hall t hm)⟩)
  (by kernel_rfl)
#print axioms lexWrites_card
end Go.Proofs.YtadgddipkbdnbaaGreatDoor
