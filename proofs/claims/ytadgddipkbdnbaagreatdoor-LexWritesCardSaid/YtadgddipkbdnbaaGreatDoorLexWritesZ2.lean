/- Parts of the proof: For every list of tokens (at most 200, or more than 4000, and 3000 bytes), Join and Tight of the program return what the specification's return; the inputs read as they did; the package-level variables hold what the program's text lays in them: the tied card. -/
import Derived.Test.YtadgddipkbdnbaaGreatDoorLexP1
import Derived.Test.YtadgddipkbdnbaaGreatDoorLexP2
import Derived.Test.YtadgddipkbdnbaaGreatDoorLexP3
import Derived.Test.YtadgddipkbdnbaaGreatDoorLexP4
import Derived.Test.YtadgddipkbdnbaaGreatDoorLexP7
import Derived.Test.YtadgddipkbdnbaaGreatDoorLexP8
import Derived.Test.YtadgddipkbdnbaaGreatDoorLexP10
import Derived.Test.YtadgddipkbdnbaaGreatDoorLexP11
import Derived.Test.YtadgddipkbdnbaaGreatDoorLexP12
import Derived.Test.YtadgddipkbdnbaaGreatDoorLexR8
import Derived.Test.YtadgddipkbdnbaaGreatDoorLexWritesZ1
import Derived.Test.YtadgddipkbdnbaaGreatDoorProg
import Derived.Below
import Derived.Deep.Draws
import Derived.Deep.AppendLies
import Derived.Maps.AppendAt
import Derived.OwnWalk
import Derived.Laws.BytesArg
import Derived.Laws.MakeOwn
import Derived.Laws.OwnMore
import Derived.Deep.OwnRows
import Derived.Tactics
import Derived.Lib.ConvBytes
import Derived.Laws.Slices
import Derived.WalkKit
import Derived.KernelRfl
import Derived.RowKit3
import Derived.Deep.LoopGhost
import Derived.Deep.QuietTactic
import Derived.BigQuiet
import Derived.WideLaws
import Derived.Deep.DeepCutAuto
import Derived.Deep.CutBlock
import Derived.Deep.RegionHeld3
import Derived.Laws.Rows
import Derived.Lib.AppendStr
import Derived.ArgAppend
import Derived.Laws.IdiomCopy
import Derived.OrdersHeld
import Derived.Laws.BitsLemmas
import Derived.RowKit
import Derived.Deep.Slices
import Derived.Deep.Fields
import Derived.ChangeSame
import Derived.Lib.SmallJoins
namespace Go.Proofs.YtadgddipkbdnbaaGreatDoor.Q
open Go.Proofs.YtadgddipkbdnbaaGreatDoor Go.RowKit Go.Proofs.YtadgddipkbdnbaaGreatDoorW.PrintWords Go.Proofs.YtadgddipkbdnbaaGreatDoorW.PrintLast Go.Proofs.YtadgddipkbdnbaaGreatDoorW.PrintMore
attribute [local go_sem] max2_int min2_int max_two min_two max_three min_three max_four min_four   
set_option linter.unusedVariables false
set_option linter.unusedSimpArgs false
theorem k38_mk (w : World) (x : S38)  : k38.K w x [.int .i64 x.f0, .string x.f1, .int .i64 x.f2] := ⟨[.int .i64 x.f0], [.string x.f1, .int .i64 x.f2], rfl, rfl, ⟨[.string x.f1], [.int .i64 x.f2], rfl, rfl, rfl⟩⟩
end Go.Proofs.YtadgddipkbdnbaaGreatDoor.Q
set_option linter.unusedVariables false
set_option linter.unusedSimpArgs false
namespace Go.Proofs.YtadgddipkbdnbaaGreatDoor.Q
open Go.Joins Go.ChangeShapes Go.WideShapes Go.RowKit Go.Deep Go.Proofs.YtadgddipkbdnbaaGreatDoor YtadgddipkbdnbaaGreatDoorW.PrintWords YtadgddipkbdnbaaGreatDoorW.PrintLast
theorem laidOut : laidOutB Tryz.prog = true := by kernel_rfl
section
variable {H : Type} {enc : TypeId × Value → H} {P : Program} {w : World} {base : Nat} {spare : Nat → Bool} {held : Bool}
theorem open_fields {t e : TypeId} {fs : Array Field} {fuel : Nat} {cs : List Value} {x : DataW H × List MemPlace} (ht : P.underlying t = some (.slice e)) (he : P.underlying e = some (.struct fs))
  (hone : oneCellFields P fs = true) (hC : P.cellsOf e = fs.size) (h : DataW.trod enc P w base spare held fuel t cs = some x) :
  (cs = [.slice none 0 0] ∧ x = (.nil, [])) ∨
  ∃ (a : Addr) (len cap m : Nat) (D : Nat → DataW H) (Pl : Nat → List MemPlace), cs = [.slice (some a) len cap] ∧ base ≤ a.block ∧ len ≤ cap ∧ cap ≤ maxLen ∧ m = (if spare a.block then cap else len) ∧
   x = (.slice ((List.range len).map D) ((List.range (m - len)).map fun j => D (len + j)), MemPlace.row a (m * fs.size) ++ (List.range m).flatMap Pl) ∧
   ∀ i, i < m → ∃ (ys : List (DataW H × List MemPlace)) (n : Nat), D i = .agg (ys.map (·.1)) ∧ ys.length = fs.size ∧
    ∀ (j : Nat) (f : Field), fs[j]? = some f → ∃ (v : Value) (y : DataW H × List MemPlace), w.cell? (a.add (i * fs.size + j)) = some v ∧ ys[j]? = some y ∧ DataW.trod enc P w base spare held n f.type [v] = some y := by
 rcases open_slice ht h with h0 | ⟨a, len, cap, m, n, D, Pl, hcs, hb, hl, hm, hmm, hx, hi⟩
 ·exact .inl h0
 ·refine .inr ⟨a, len, cap, m, D, Pl, hcs, hb, hl, hm, hmm, by rw [hC] at hx; exact hx, fun i him => ?_⟩
  obtain ⟨cs', hc, ht'⟩ := hi i him
  rw [hC] at hc
  obtain ⟨ys, n', hn', hy, hlen, hyl, hf⟩ := DataW.trod_struct he ht'
  obtain ⟨_, hcl, hat⟩ := World.cells?_some hc
  simp only [Prod.mk.injEq] at hy
  refine ⟨ys, n', hy.1, hyl, fun j f hj => ?_⟩
  obtain ⟨ho, hk⟩ := hone_of hone j f hj
  have hjl : j < fs.size := (Array.getElem?_eq_some_iff.1 hj).1
  have hcell := hat j hjl
  have hv : cs'[j]? = some (cs'[j]'(by omega)) := List.getElem?_eq_getElem (by omega)
  have h1 := hf j f hj
  rw [ho, hk] at h1
  have hone' : (cs'.drop j).take 1 = [cs'[j]'(by omega)] := by
   rw [List.drop_eq_getElem_cons (by omega)]
   rfl
  rw [hone'] at h1
  have hys : ys[j]? = some (ys[j]'(by omega)) := List.getElem?_eq_getElem (by omega)
  refine ⟨_, _, ?_, hys, h1.trans hys⟩
  rw [← Go.Deep.add_add, hcell, hv]
theorem weights_all {P : Program} {e : TypeId} : ∀ {l : List (DataW H)} {d : DataW H}, d ∈ l → ∀ n ∈ d.weights P e, n ∈ DataW.weightsAll P e l
 | a :: l, d, hd, n, hn => by
  simp only [DataW.weightsAll, List.mem_append]
  rcases List.mem_cons.1 hd with h | h
  ·rw [h] at hn; exact .inl hn
  ·exact .inr (weights_all h n hn)
end
section
variable {H : Type} {enc : TypeId × Value → H} {W : World}
set_option maxRecDepth 100000 in
theorem tokFields : ∃ f0 f1 f2 : Field, Tryz.prog.underlying 38 = some (.struct #[f0, f1, f2]) ∧ f0.type = 3 ∧ f1.type = 9 ∧ f2.type = 3 ∧ oneCellFields Tryz.prog #[f0, f1, f2] = true :=
 ⟨_, _, _, Tryz.underlying38, rfl, rfl, rfl, by kernel_rfl⟩
set_option maxRecDepth 100000 in
theorem tokCells : Tryz.prog.cellsOf 38 = 3 := by kernel_rfl
set_option maxRecDepth 100000 in
theorem open_toks {r : Reach} {b0 : Nat} {v : Value} {d : DataW H} {p : List MemPlace} {ts : List TypeId} {ds : List (DataW H)} {j : Nat} (hv : Value.okWide Tryz.prog W r b0 23 v) (h : DataW.Trod enc Tryz.prog W 0 (fun _ => true) true 23 v d p)
  (hsz : (DataW.weightsEach Tryz.prog ts ds).all (· ≤ reachBytes) = true) (ht : ts[j]? = some 23) (hd : ds[j]? = some d) :
  ∃ (a : Option Addr) (cap : Nat) (l : List S38), v = .slice a l.length cap ∧ l.length ≤ cap ∧ Kd.C k38 W a l.length l ∧ l.length ≤ 140737488351232 ∧ ∀ x ∈ l, x.f1.size ≤ 140737488351232 := by
 obtain ⟨f0, f1, f2, hs, e0, e1, e2, hone⟩ := tokFields
 obtain ⟨a, len, cap, rfl⟩ := okWide_slice Tryz.underlying23 hv
 obtain ⟨fuel, hf⟩ := h
 rcases open_fields Tryz.underlying23 hs hone tokCells hf with ⟨hcs, _⟩ | ⟨x, l, c, m, D, Pl, hcs, _, hl, hm, hmm, hx, hi⟩
 ·simp [Value.cells] at hcs
  obtain ⟨rfl, rfl, rfl⟩ := hcs
  exact ⟨none, 0, [], rfl, Nat.le_refl _, ⟨rfl, by simp, fun h => absurd h (by simp)⟩, by simp, by simp⟩
 ·simp [Value.cells] at hcs
  obtain ⟨rfl, rfl, rfl⟩ := hcs
  simp only [if_true] at hmm
  subst hmm
  simp only [Prod.mk.injEq] at hx
  obtain ⟨rfl, -⟩ := hx
  have hbytes : (len + (m - len)) * Tryz.prog.bytesOf 38 ≤ reachBytes := by
   have := sized_slice hsz ht hd Tryz.underlying23
   simpa using this
  have hb38 : Tryz.prog.bytesOf 38 = 32 := by kernel_rfl
  rw [hb38] at hbytes
  have hreach : reachBytes = 140737488351232 := rfl
  have key : ∀ i, ∃ y : S38, i < len → (W.cell? (x.add (i * 3 + 0)) = some (.int .i64 y.f0) ∧ W.cell? (x.add (i * 3 + 1)) = some (.string y.f1) ∧ W.cell? (x.add (i * 3 + 2)) = some (.int .i64 y.f2) ∧ y.f1.size ≤ 140737488351232) := by
   intro i
   by_cases hil : i < len
   ·obtain ⟨ys, n, hD, hyl, hff⟩ := hi i (by omega)
    obtain ⟨v0, y0, c0, i0, g0⟩ := hff 0 f0 rfl
    obtain ⟨v1, y1, c1, i1, g1⟩ := hff 1 f1 rfl
    obtain ⟨v2, y2, c2, i2, g2⟩ := hff 2 f2 rfl
    rw [e0] at g0
    rw [e1] at g1
    rw [e2] at g2
    obtain ⟨t0, h0, -, -⟩ := DataW.trod_int Tryz.underlying3 g0
    obtain ⟨t1, h1, hy1, -⟩ := DataW.trod_string Tryz.underlying9 g1
    obtain ⟨t2, h2, -, -⟩ := DataW.trod_int Tryz.underlying3 g2
    simp only [List.cons.injEq, and_true] at h0 h1 h2
    refine ⟨⟨t0, t1, t2⟩, fun _ => ⟨by rw [← h0]; exact c0, by rw [← h1]; exact c1, by rw [← h2]; exact c2, ?_⟩⟩
    have hmem : t1.data.toList.length ∈ DataW.weightsEach Tryz.prog ts ds := DataW.weights_mem_each ht hd _ (by
     simp only [DataW.weights, Tryz.underlying23, List.mem_cons, List.mem_append]
     refine .inr (.inl (weights_all (d := D i) (List.mem_map_of_mem (List.mem_range.2 hil)) _ ?_))
     rw [hD]
     match ys, hyl with
     | [z0, z1, z2], _ =>
      simp only [List.getElem?_cons_succ, List.getElem?_cons_zero, Option.some.injEq] at i1
      simp only [DataW.weights, hs, List.map_cons, List.map_nil, DataW.weightsEach, List.mem_append, Array.toList]
      refine .inr (.inl ?_)
      rw [i1, hy1]
      simp [DataW.weights])
    have := List.all_eq_true.1 hsz _ hmem
    rw [hreach] at this
    have hz : t1.data.toList.length = t1.size := by rw [Array.length_toList]; rfl
    rw [hz] at this
    simpa using this
   ·exact ⟨z38, fun h => absurd h hil⟩
  obtain ⟨f, hfs⟩ : ∃ f : Nat → S38, ∀ i, i < len → (W.cell? (x.add (i * 3 + 0)) = some (.int .i64 (f i).f0) ∧ W.cell? (x.add (i * 3 + 1)) = some (.string (f i).f1) ∧ W.cell? (x.add (i * 3 + 2)) = some (.int .i64 (f i).f2) ∧ (f i).f1.size ≤ 140737488351232) :=
   ⟨fun i => Classical.choose (key i), fun i => Classical.choose_spec (key i)⟩
  have hlen : ((List.range len).map f).length = len := by simp
  refine ⟨some x, m, (List.range len).map f, by rw [hlen], by rw [hlen]; exact hl, ⟨rfl, by rw [hlen]; unfold maxLen at hm; omega, fun _ => ⟨x, rfl, fun j y hj => ?_⟩⟩, by rw [hlen]; omega, fun y hy => ?_⟩
  ·have hjl : j < len := by
    have := (List.getElem?_eq_some_iff.1 hj).1
    simpa using this
   have hy : y = f j := by
    rw [List.getElem?_map, List.getElem?_range hjl] at hj
    simpa using hj.symm
   obtain ⟨q0, q1, q2, -⟩ := hfs j hjl
   refine ⟨_, rfl, k38_mk W y, fun i u hu => ?_⟩
   rw [hy] at hu
   match i, hu with
   | 0, hu => simp only [List.getElem?_cons_zero, Option.some.injEq] at hu; rw [← hu]; exact q0
   | 1, hu => simp only [List.getElem?_cons_succ, List.getElem?_cons_zero, Option.some.injEq] at hu; rw [← hu]; exact q1
   | 2, hu => simp only [List.getElem?_cons_succ, List.getElem?_cons_zero, Option.some.injEq] at hu; rw [← hu]; exact q2
  ·obtain ⟨i, hi2, rfl⟩ := List.mem_map.1 hy
   exact (hfs i (List.mem_range.1 hi2)).2.2.2
end
end Go.Proofs.YtadgddipkbdnbaaGreatDoor.Q
set_option linter.unusedVariables false
set_option linter.unusedSimpArgs false
namespace Go.Proofs.Lx
open Go.Proofs.YtadgddipkbdnbaaGreatDoor
theorem scan_err0 {t : List UInt8} (h : (scan t).2.2 ≠ 0) : (scan t).1 = [] := by
 rw [scan_eq] at h ⊢
 split
 ·rfl
 ·rename_i h2
  rw [if_neg h2] at h
  cases hr : scanR t.length [] t with
  | ok l => rw [hr] at h; exact absurd rfl h
  | error p => rfl
theorem scan_ok {t : List UInt8} (h : (scan t).2.2 = 0) : t.length ≤ 20000 ∧ scanR t.length [] t = .ok (scan t).1 ∧ (scan t).2.1 = 0 := by
 rw [scan_eq] at h ⊢
 split
 ·rename_i h2; rw [if_pos h2] at h; cases h
 ·rename_i h2
  rw [if_neg h2] at h
  cases hr : scanR t.length [] t with
  | ok l => exact ⟨by omega, rfl, rfl⟩
  | error p => rw [hr] at h; exact absurd h (scanR_err (x := p.1) (e := p.2) hr)
theorem scan_of_ok {t : List UInt8} {l : List Tok} (h : t.length ≤ 20000) (hr : scanR t.length [] t = .ok l) : scan t = (l, 0, 0) := by
 rw [scan_eq, if_neg (by omega), hr]
end Go.Proofs.Lx
set_option linter.unusedVariables false
set_option linter.unusedSimpArgs false
namespace Go.Proofs.Lx
open Go.Proofs.YtadgddipkbdnbaaGreatDoor
def Bd (v : List UInt8) : Prop := v = [] ∨ ∃ c u, v = c :: u ∧ isBlank c = true
theorem blank_cases {c : UInt8} (h : isBlank c = true) : c = 32 ∨ c = 9 ∨ c = 13 ∨ c = 10 := by
 simp only [isBlank, Bool.or_eq_true, beq_iff_eq] at h
 rcases h with ((h | h) | h) | h <;> simp [h]
theorem blank_desc {c : UInt8} (h : isBlank c = true) : isDescB c = false := by
 rcases blank_cases h with h | h | h | h <;> subst h <;> decide
theorem blank_word {c : UInt8} (h : isBlank c = true) : isWord c = false := by
 rcases blank_cases h with h | h | h | h <;> subst h <;> decide
theorem tw_agree (p : UInt8 → Bool) (hp : ∀ c, isBlank c = true → p c = false) {v : List UInt8} (hv : Bd v) : ∀ (r : List UInt8) (m : Nat), (r.takeWhile p).length ≤ m → (r.take m ++ v).takeWhile p = r.takeWhile p
 | [], m, _ => by
  rw [List.take_nil, List.nil_append]
  rcases hv with h | ⟨c, u, h, hb⟩
  ·rw [h]
  ·rw [h, List.takeWhile_cons, if_neg (by rw [hp c hb]; decide)]; rfl
 | c :: r, m, h => by
  by_cases hc : p c = true
  ·rw [List.takeWhile_cons, if_pos hc, List.length_cons] at h
   obtain ⟨m', rfl⟩ : ∃ x, m = x + 1 := ⟨m - 1, by omega⟩
   rw [List.take_succ_cons, List.cons_append, List.takeWhile_cons, if_pos hc, List.takeWhile_cons, if_pos hc, tw_agree p hp hv r m' (by omega)]
  ·rw [List.takeWhile_cons, if_neg hc]
   cases m with
   | zero =>
    rw [List.take_zero, List.nil_append]
    rcases hv with h | ⟨c, u, h, hb⟩
    ·rw [h]; rfl
    ·rw [h, List.takeWhile_cons, if_neg (by rw [hp c hb]; decide)]
   | succ m => rw [List.take_succ_cons, List.cons_append, List.takeWhile_cons, if_neg hc]
theorem take_agree {r : List UInt8} {k m : Nat} (v : List UInt8) (hk : k ≤ m) (hr : k ≤ r.length) : (r.take m ++ v).take k = r.take k := by
 rw [List.take_append_of_le_length (by rw [List.length_take]; omega), List.take_take, Nat.min_eq_left hk]
theorem hexes_agree {t t' : List UInt8} {v : UInt8} {k : Nat} (h : hexes t = some (v, k)) (e : t'.take 2 = t.take 2) : hexes t' = some (v, k) := by
 match t with
 | [] => cases h
 | [x] => cases h
 | x :: y :: r =>
  match t' with
  | [] => cases e
  | [x'] => cases e
  | x' :: y' :: r' =>
   simp only [List.take_succ_cons, List.take_zero, List.cons.injEq] at e
   obtain ⟨rfl, rfl, -⟩ := e
   exact h
theorem hexes_four {t : List UInt8} {v : UInt8} {k : Nat} (h : hexes t = some (v, k)) : k = 4 := by
 unfold hexes at h
 split at h
 ·split at h
  ·simp at h; exact h.2.symm
  ·cases h
 ·cases h
theorem char_agree {t t' : List UInt8} {v : UInt8} {k : Nat} (h : char t = some (v, k)) (e : t'.take k = t.take k) : char t' = some (v, k) := by
 have hk := char_len _ _ _ h
 cases t with
 | nil => cases h
 | cons c t =>
  obtain ⟨k', rfl⟩ : ∃ x, k = x + 1 := ⟨k - 1, by omega⟩
  cases t' with
  | nil => rw [List.take_nil, List.take_succ_cons] at e; cases e
  | cons c' t' =>
   simp only [List.take_succ_cons, List.cons.injEq] at e
   obtain ⟨rfl, e⟩ := e
   simp only [char, charC] at h ⊢
   split
   ·rename_i h0; rw [if_pos h0] at h; cases h
   ·rename_i h0
    rw [if_neg h0] at h
    split
    ·rename_i h1; rw [if_pos h1] at h; exact h
    ·rename_i h1
     rw [if_neg h1] at h
     cases t with
     | nil => cases h
     | cons d u =>
      simp only [escT, esc] at h
      have hk1 : 1 ≤ k' := by
       rcases Nat.eq_zero_or_pos k' with h0 | h0
       ·exfalso
        rw [h0] at h
        repeat' (first | (split at h) | (simp at h; done))
        all_goals first | (have := hexes_four h; omega) | (simp at h; done)
       ·exact h0
      obtain ⟨k2, rfl⟩ : ∃ x, k' = x + 1 := ⟨k' - 1, by omega⟩
      cases t' with
      | nil => rw [List.take_nil, List.take_succ_cons] at e; cases e
      | cons d' u' =>
       simp only [List.take_succ_cons, List.cons.injEq] at e
       obtain ⟨rfl, e⟩ := e
       simp only [escT, esc]
       split
       ·rename_i hh; rw [if_pos hh] at h; exact h
       ·rename_i hh
        rw [if_neg hh] at h
        split
        ·rename_i hh; rw [if_pos hh] at h; exact h
        ·rename_i hh
         rw [if_neg hh] at h
         split
         ·rename_i hh; rw [if_pos hh] at h; exact h
         ·rename_i hh
          rw [if_neg hh] at h
          split
          ·rename_i hh; rw [if_pos hh] at h; exact h
          ·rename_i hh
           rw [if_neg hh] at h
           split
           ·rename_i hh; rw [if_pos hh] at h; cases h
           ·rename_i hh
            rw [if_neg hh] at h
            have := hexes_four h
            have : k2 = 2 := by omega
            subst this
            exact hexes_agree h e
theorem strF_agree : ∀ (n : Nat) {t t' vs : List UInt8} {m : Nat}, strF n t = some (vs, m) → t'.take m = t.take m → ∀ n', m ≤ n' → strF n' t' = some (vs, m)
 | 0, _, _, _, _, h, _, _, _ => by cases h
 | _ + 1, [], _, _, _, h, _, _, _ => by cases h
 | n + 1, c :: t, t', vs, m, h, e, n', hn => by
  have hm := strF_len _ _ _ _ h
  obtain ⟨m', rfl⟩ : ∃ x, m = x + 1 := ⟨m - 1, by omega⟩
  obtain ⟨n'', rfl⟩ : ∃ x, n' = x + 1 := ⟨n' - 1, by omega⟩
  rw [strF] at h
  cases t' with
  | nil => rw [List.take_nil, List.take_succ_cons] at e; cases e
  | cons c' t' =>
   have e0 := e
   simp only [List.take_succ_cons, List.cons.injEq] at e
   obtain ⟨rfl, e⟩ := e
   rw [strF]
   split
   ·rename_i h34; rw [if_pos h34] at h; exact h
   ·rename_i h34
    rw [if_neg h34] at h
    cases hc : char (c' :: t) with
    | none => rw [hc] at h; cases h
    | some p =>
     obtain ⟨v, k⟩ := p
     rw [hc] at h
     simp only at h
     cases hs : strF n ((c' :: t).drop k) with
     | none => rw [hs] at h; cases h
     | some q =>
      obtain ⟨ws, j⟩ := q
      rw [hs] at h
      simp only [Option.some.injEq, Prod.mk.injEq] at h
      obtain ⟨h1, h2⟩ := h
      have hk := char_len _ _ _ hc
      have e1 : (c' :: t').take k = (c' :: t).take k := by
       have := congrArg (List.take k) e0
       rw [List.take_take, List.take_take, Nat.min_eq_left (by omega)] at this
       exact this
      have e2 : ((c' :: t').drop k).take j = ((c' :: t).drop k).take j := by
       have := congrArg (List.drop k) e0
       rw [List.drop_take, List.drop_take, show m' + 1 - k = j by omega] at this
       exact this
      rw [char_agree hc e1]
      simp only
      rw [strF_agree n hs e2 n'' (by omega), ← h1, ← h2]
theorem sign_noblank : ∀ y ∈ signs, ∀ c ∈ y, isBlank c = false := by decide
theorem sign_back {y : List UInt8} (hy : y ∈ signs) {r v : List UInt8} {m : Nat} (hv : Bd v) (h : y <+: r.take m ++ v) : y <+: r := by
 rcases List.prefix_or_prefix_of_prefix h (List.prefix_append (r.take m) v) with h1 | ⟨z, hz⟩
 ·exact h1.trans (List.take_prefix m r)
 ·rw [← hz] at h
  have h2 := (List.prefix_append_right_inj _).1 h
  cases z with
  | nil => rw [List.append_nil] at hz; rw [← hz]; exact List.take_prefix m r
  | cons c z =>
   exfalso
   have hc := sign_noblank y hy c (by rw [← hz]; simp)
   obtain ⟨w, hw⟩ := h2
   rcases hv with h3 | ⟨c', u, h3, hb⟩
   ·rw [h3] at hw; cases hw
   ·rw [h3] at hw
    cases hw
    rw [hb] at hc; cases hc
theorem sign_agree {r v : List UInt8} {m : Nat} (hv : Bd v) (h0 : signLen r ≠ 0) (hm : signLen r ≤ m) : signLen (r.take m ++ v) = signLen r := by
 unfold signLen at h0 hm ⊢
 cases h : signs.find? fun x => x.isPrefixOf r with
 | none => rw [h] at h0; exact absurd rfl h0
 | some x =>
  rw [h] at hm h0
  simp only [Option.map_some, Option.getD_some] at hm h0 ⊢
  have hx := List.find?_eq_some_iff_append.1 h
  obtain ⟨hp, l1, l2, hl, hno⟩ := hx
  have hxr : x <+: r := List.isPrefixOf_iff_prefix.1 hp
  have hxt : x = r.take x.length := List.prefix_iff_eq_take.1 hxr
  have : signs.find? (fun x => x.isPrefixOf (r.take m ++ v)) = some x := by
   refine List.find?_eq_some_iff_append.2 ⟨?_, l1, l2, hl, fun a ha => ?_⟩
   ·refine List.isPrefixOf_iff_prefix.2 ?_
    refine List.IsPrefix.trans ?_ (List.prefix_append _ _)
    rw [hxt]
    refine ⟨(r.take m).drop x.length, ?_⟩
    have : r.take x.length = (r.take m).take x.length := by rw [List.take_take, Nat.min_eq_left hm]
    rw [this, List.take_append_drop]
   ·have := hno a ha
    cases hq : a.isPrefixOf (r.take m ++ v) with
    | false => rfl
    | true =>
     have h1 := sign_back (by rw [hl]; simp [ha]) hv (List.isPrefixOf_iff_prefix.1 hq)
     rw [List.isPrefixOf_iff_prefix.2 h1] at this
     cases this
  rw [this]
  rfl
theorem one_agree {d : Bool} {r v : List UInt8} {kind : Int} {k m : Nat} (h : one d r = .ok (kind, k)) (hk : k ≤ m) (hv : Bd v) : one d (r.take m ++ v) = .ok (kind, k) := by
 have hl := one_len _ _ _ _ h
 cases r with
 | nil => cases h
 | cons c t =>
  have ht : ∀ j, j ≤ k → ((c :: t).take m ++ v).take j = (c :: t).take j := fun j hj => take_agree v (by omega) (by omega)
  have tw : ∀ p : UInt8 → Bool, (∀ c, isBlank c = true → p c = false) → ((c :: t).takeWhile p).length ≤ m → ((c :: t).take m ++ v).takeWhile p = (c :: t).takeWhile p := fun p hp hm => tw_agree p hp hv _ _ hm
  have sg : signLen (c :: t) ≠ 0 → signLen (c :: t) ≤ m → signLen ((c :: t).take m ++ v) = signLen (c :: t) := fun h0 hm => sign_agree hv h0 hm
  obtain ⟨m', rfl⟩ : ∃ x, m = x + 1 := ⟨m - 1, by omega⟩
  rw [List.take_succ_cons, List.cons_append] at ht tw sg ⊢
  rw [one] at h ⊢
  split
  ·rename_i h1
   rw [if_pos h1] at h
   simp only at h ⊢
   split at h
   ·cases h
   ·rename_i h2
    obtain ⟨e1, e2⟩ := Prod.mk.inj (Except.ok.inj h)
    rw [tw isDescB (fun _ hb => blank_desc hb) (by omega), if_neg h2]
    exact h
  ·rename_i h1
   rw [if_neg h1] at h
   split
   ·rename_i h2
    rw [if_pos h2] at h
    simp only at h ⊢
    split at h
    ·cases h
    ·rename_i h3
     obtain ⟨e1, e2⟩ := Prod.mk.inj (Except.ok.inj h)
     rw [tw isWord (fun _ hb => blank_word hb) (by omega), if_neg h3, ht _ (by omega)]
     exact h
   ·rename_i h2
    rw [if_neg h2] at h
    split
    ·rename_i h3
     rw [if_pos h3] at h
     simp only at h ⊢
     split at h
     ·cases h
     ·rename_i h4
      obtain ⟨e1, e2⟩ := Prod.mk.inj (Except.ok.inj h)
      rw [tw isWord (fun _ hb => blank_word hb) (by omega), ht _ (by omega), if_neg h4]
      exact h
    ·rename_i h3
     rw [if_neg h3] at h
     have httail : ∀ j, j + 1 ≤ k → (t.take m' ++ v).take j = t.take j := fun j hj => by
      have := ht (j + 1) hj
      simp only [List.take_succ_cons, List.cons.injEq, true_and] at this
      exact this
     split
     ·rename_i h4
      rw [if_pos h4] at h
      cases hc : char t with
      | none => rw [hc] at h; cases h
      | some p =>
       obtain ⟨x, j⟩ := p
       rw [hc] at h
       simp only at h
       split at h
       ·cases h
       ·rename_i h5
        obtain ⟨e1, e2⟩ := Prod.mk.inj (Except.ok.inj h)
        rw [char_agree hc (httail j (by omega))]
        simp only
        have hj := char_len _ _ _ hc
        have g1 : (t.take m' ++ v).head? = t.head? := by
         have := httail 1 (by omega)
         have h' := congrArg List.head? this
         rw [List.head?_take, List.head?_take] at h'
         simpa using h'
        have g2 : ((t.take m' ++ v).drop j).head? = (t.drop j).head? := by
         have := congrArg (List.drop j) (httail (j + 1) (by omega))
         have h' := congrArg List.head? this
         rw [List.drop_take, List.drop_take, List.head?_take, List.head?_take] at h'
         simpa using h'
        rw [g1, g2, if_neg h5]
        exact h
     ·rename_i h4
      rw [if_neg h4] at h
      split
      ·rename_i h5
       rw [if_pos h5] at h
       cases hc : strF (t.length + 1) t with
       | none => rw [hc] at h; cases h
       | some p =>
        obtain ⟨x, j⟩ := p
        rw [hc] at h
        simp only at h
        obtain ⟨e1, e2⟩ := Prod.mk.inj (Except.ok.inj h)
        have hj := strF_len _ _ _ _ hc
        have hlen : j ≤ (t.take m' ++ v).length := by rw [List.length_append, List.length_take]; omega
        rw [strF_agree _ hc (httail j (by omega)) _ (by omega)]
        exact h
      ·rename_i h5
       rw [if_neg h5] at h
       split at h
       ·cases h
       ·rename_i h6
        obtain ⟨e1, e2⟩ := Prod.mk.inj (Except.ok.inj h)
        rw [sg h6 (by omega), if_neg h6]
        exact h
end Go.Proofs.Lx
set_option linter.unusedVariables false
set_option linter.unusedSimpArgs false
namespace Go.Proofs.Lx
open Go.Proofs.YtadgddipkbdnbaaGreatDoor
inductive Skips : List UInt8 → List UInt8 → Prop
 | nil : Skips [] []
 | stop (c : UInt8) (t : List UInt8) (h : isBlank c = false) (h1 : (c :: t).take 2 ≠ [47, 47]) (h2 : (c :: t).take 2 ≠ [47, 42]) : Skips (c :: t) (c :: t)
 | blank (c : UInt8) (t x : List UInt8) (h : isBlank c = true) (hs : Skips t x) : Skips (c :: t) x
 | line (t x : List UInt8) (hs : Skips (t.dropWhile (· != 10)) x) : Skips (47 :: 47 :: t) x
 | block (t u x : List UInt8) (hc : closed t = some u) (hs : Skips u x) : Skips (47 :: 42 :: t) x
theorem skip_bl (c : UInt8) (t : List UInt8) (h : isBlank c = true) : skip (c :: t) = skip t := by
 rw [skip_eq, skip_eq, List.dropWhile_cons, if_pos h]
theorem skip_li (t : List UInt8) : skip (47 :: 47 :: t) = skip (t.dropWhile (· != 10)) := by
 rw [skip_eq, List.dropWhile_cons, if_neg (by decide)]
 rfl
theorem skip_bo (t : List UInt8) : skip (47 :: 42 :: t) = match closed t with | none => .error (47 :: 42 :: t) | some u => skip u := by
 rw [skip_eq, List.dropWhile_cons, if_neg (by decide)]
 rfl
theorem skip_st (c : UInt8) (t : List UInt8) (h : isBlank c = false) (h1 : (c :: t).take 2 ≠ [47, 47]) (h2 : (c :: t).take 2 ≠ [47, 42]) : skip (c :: t) = .ok (c :: t) := by
 rw [skip_eq, List.dropWhile_cons, if_neg (by rw [h]; decide)]
 split
 ·rename_i e; rw [e] at h1; exact absurd rfl h1
 ·rename_i e; rw [e] at h2; exact absurd rfl h2
 ·rfl
theorem skip_of {r x : List UInt8} (h : Skips r x) : skip r = .ok x := by
 induction h with
 | nil => rfl
 | stop c t h h1 h2 => exact skip_st c t h h1 h2
 | blank c t x h hs ih => rw [skip_bl c t h, ih]
 | line t x hs ih => rw [skip_li, ih]
 | block t u x hc hs ih => rw [skip_bo, hc]; exact ih
theorem skips_of : ∀ (n : Nat) {r x : List UInt8}, r.length = n → skip r = .ok x → Skips r x := by
 intro n
 induction n using Nat.strongRecOn with
 | _ n ih =>
  intro r x hn h
  cases r with
  | nil => cases h; exact .nil
  | cons c t =>
   by_cases hb : isBlank c = true
   ·rw [skip_bl c t hb] at h
    exact .blank c t x hb (ih t.length (by rw [← hn]; simp) rfl h)
   ·have hb' : isBlank c = false := by simpa using hb
    by_cases h1 : (c :: t).take 2 = [47, 47]
    ·match t with
     | [] => cases h1
     | d :: t =>
      simp only [List.take_succ_cons, List.take_zero, List.cons.injEq, and_true] at h1
      obtain ⟨rfl, rfl⟩ := h1
      rw [skip_li] at h
      have := dropWhile_len (· != 10) t
      exact .line t x (ih _ (by rw [← hn]; simp only [List.length_cons]; omega) rfl h)
    ·by_cases h2 : (c :: t).take 2 = [47, 42]
     ·match t with
      | [] => cases h2
      | d :: t =>
       simp only [List.take_succ_cons, List.take_zero, List.cons.injEq, and_true] at h2
       obtain ⟨rfl, rfl⟩ := h2
       rw [skip_bo] at h
       cases hc : closed t with
       | none => rw [hc] at h; cases h
       | some u =>
        rw [hc] at h
        have := closed_len t u hc
        exact .block t u x hc (ih _ (by rw [← hn]; simp only [List.length_cons]; omega) rfl h)
     ·rw [skip_st c t hb' h1 h2] at h
      cases h
      exact .stop c t hb' h1 h2
theorem skips_iff {r x : List UInt8} : Skips r x ↔ skip r = .ok x := ⟨skip_of, fun h => skips_of _ rfl h⟩
theorem dw_append {p : UInt8 → Bool} {v : List UInt8} : ∀ {l : List UInt8}, l.dropWhile p ≠ [] → (l ++ v).dropWhile p = l.dropWhile p ++ v
 | [], h => absurd rfl h
 | c :: l, h => by
  rw [List.cons_append, List.dropWhile_cons, List.dropWhile_cons]
  split
  ·rename_i hc; rw [List.dropWhile_cons, if_pos hc] at h; exact dw_append h
  ·rfl
theorem closed_append (v : List UInt8) : ∀ (t u : List UInt8), closed t = some u → closed (t ++ v) = some (u ++ v)
 | [], u, h => by cases h
 | [_], u, h => by cases h
 | a :: b :: r, u, h => by
  rw [closed] at h
  show closed (a :: b :: (r ++ v)) = _
  rw [closed]
  split
  ·rename_i hc; rw [if_pos hc] at h; cases h; rfl
  ·rename_i hc; rw [if_neg hc] at h; exact closed_append v (b :: r) u h
theorem skips_app {r x : List UInt8} (h : Skips r x) (hx : x ≠ []) {v : List UInt8} (hv : Bd v) : Skips (r ++ v) (x ++ v) := by
 induction h with
 | nil => exact absurd rfl hx
 | stop c t h h1 h2 =>
  have tk : (c :: t ++ v).take 2 = (c :: t).take 2 ∨ ∃ b, (c :: t ++ v).take 2 = [c, b] ∧ isBlank b = true := by
   cases t with
   | cons d t => exact .inl rfl
   | nil =>
    rcases hv with hv | ⟨b, u, hv, hb⟩
    ·exact .inl (by rw [hv]; rfl)
    ·exact .inr ⟨b, by rw [hv]; rfl, hb⟩
  refine .stop c (t ++ v) h ?_ ?_
  ·rcases tk with tk | ⟨b, tk, hb⟩
   ·rw [← List.cons_append, tk]; exact h1
   ·rw [← List.cons_append, tk]
    intro e
    simp only [List.cons.injEq, and_true] at e
    rw [e.2] at hb; revert hb; decide
  ·rcases tk with tk | ⟨b, tk, hb⟩
   ·rw [← List.cons_append, tk]; exact h2
   ·rw [← List.cons_append, tk]
    intro e
    simp only [List.cons.injEq, and_true] at e
    rw [e.2] at hb; revert hb; decide
 | blank c t x h hs ih => exact .blank c (t ++ v) _ h (ih hx)
 | line t x hs ih =>
  refine .line (t ++ v) _ ?_
  have hne : t.dropWhile (· != 10) ≠ [] := by
   intro e
   rw [e] at hs
   cases hs
   exact hx rfl
  rw [dw_append hne]
  exact ih hx
 | block t u x hc hs ih => exact .block (t ++ v) (u ++ v) _ (closed_append v t u hc) (ih hx)
theorem skips_len {r x : List UInt8} (h : Skips r x) : x.length ≤ r.length := by
 obtain ⟨i, hi, -⟩ := skip_ok_suffix (skip_of h)
 rw [hi, List.length_drop]; omega
abbrev K := Int × List UInt8
def ktM (t : Tok) : K := (t.kind, t.text)
def opK : List K → Bool
 | [] => false
 | t :: l => (t.1 == 2 && t.2 == probeW) || (t.1 == 5 && t.2 == [44] && match l with | [] => false | u :: _ => u.1 == 6)
theorem opK_eq (pre : List Tok) : opens pre = opK (pre.map ktM) := by
 match pre with
 | [] => rfl
 | [_] => rfl
 | _ :: _ :: _ => rfl
inductive LexTo : List K → List UInt8 → List K → List UInt8 → Prop
 | nil (p : List K) (r : List UInt8) : LexTo p r [] r
 | cons (p : List K) (r : List UInt8) (c : UInt8) (t : List UInt8) (kind : Int) (k : Nat) (ts : List K) (f : List UInt8) (hs : Skips r (c :: t)) (ho : one (opK p) (c :: t) = .ok (kind, k))
   (hr : LexTo ((kind, (c :: t).take k) :: p) ((c :: t).drop k) ts f) : LexTo p r ((kind, (c :: t).take k) :: ts) f
theorem LexTo.len {p ts : List K} {r f : List UInt8} (h : LexTo p r ts f) : f.length + ts.length ≤ r.length := by
 induction h with
 | nil => simp
 | cons p r c t kind k ts f hs ho hr ih =>
  have h1 := skips_len hs
  have h2 := one_len _ _ _ _ ho
  rw [List.length_drop] at ih
  simp only [List.length_cons] at ih h1 h2 ⊢
  omega
theorem scan_lex : ∀ (n : Nat) {len : Nat} {pre : List Tok} {r : List UInt8} {l : List Tok}, r.length < n → scanF len n pre r = .ok l → ∃ ts f, l.map ktM = (pre.map ktM).reverse ++ ts ∧ LexTo (pre.map ktM) r ts f ∧ Skips f [] ∧ (pre.length ≤ 4000 → l.length ≤ 4000)
 | 0, _, _, _, _, hn, _ => absurd hn (by omega)
 | n + 1, len, pre, r, l, hn, h => by
  rw [scanF] at h
  cases hs : skip r with
  | error c => rw [hs] at h; cases h
  | ok r' =>
   rw [hs] at h
   have hsk := skips_iff.2 hs
   have hl := skips_len hsk
   cases r' with
   | nil =>
    cases h
    exact ⟨[], r, by simp, .nil _ _, hsk, fun h => by rw [List.length_reverse]; exact h⟩
   | cons c t =>
    simp only at h
    cases ho : one (opens pre) (c :: t) with
    | error e' => rw [ho] at h; cases h
    | ok p =>
     obtain ⟨kind, k⟩ := p
     rw [ho] at h
     simp only at h
     have hk := one_len _ _ _ _ ho
     split at h
     ·cases h
     ·rename_i h4
      obtain ⟨ts, f, e1, e2, e3, e4⟩ := scan_lex n (by rw [List.length_drop]; omega) h
      rw [opK_eq] at ho
      refine ⟨(kind, (c :: t).take k) :: ts, f, ?_, .cons _ _ c t kind k ts f hsk ho e2, e3, fun h5 => e4 (by simp only [List.length_cons]; omega)⟩
      rw [e1]
      simp [ktM]
theorem lex_scan {p : List K} {r : List UInt8} {ts : List K} {f : List UInt8} (h : LexTo p r ts f) (hf : Skips f []) : ∀ (n len : Nat) (pre : List Tok), pre.map ktM = p → r.length < n → pre.length + ts.length ≤ 4000 → ∃ l, scanF len n pre r = .ok l ∧ l.map ktM = p.reverse ++ ts := by
 induction h with
 | nil p r =>
  intro n len pre hp hn h4
  obtain ⟨n, rfl⟩ : ∃ x, n = x + 1 := ⟨n - 1, by omega⟩
  rw [scanF, skip_of hf]
  exact ⟨pre.reverse, rfl, by rw [← hp]; simp⟩
 | cons p r c t kind k ts f hs ho hr ih =>
  intro n len pre hp hn h4
  obtain ⟨n, rfl⟩ : ∃ x, n = x + 1 := ⟨n - 1, by omega⟩
  have hl := skips_len hs
  have hk := one_len _ _ _ _ ho
  rw [← hp, ← opK_eq] at ho
  simp only [List.length_cons] at h4
  obtain ⟨l, h1, h2⟩ := ih hf n len (⟨kind, (c :: t).take k, len - (c :: t).length⟩ :: pre) (by rw [List.map_cons, hp]; rfl) (by rw [List.length_drop]; omega) (by simp only [List.length_cons]; omega)
  refine ⟨l, ?_, by rw [h2]; simp⟩
  rw [scanF, skip_of hs]
  simp only [ho]
  rw [if_neg (by omega)]
  exact h1
theorem scan_to {t : List UInt8} (h : (scan t).2.2 = 0) : t.length ≤ 20000 ∧ (scan t).1.length ≤ 4000 ∧ ∃ f, LexTo [] t ((scan t).1.map ktM) f ∧ Skips f [] := by
 obtain ⟨h1, h2, -⟩ := scan_ok h
 obtain ⟨ts, f, e1, e2, e3, e4⟩ := scan_lex _ (Nat.lt_succ_self _) h2
 simp only [List.map_nil, List.reverse_nil, List.nil_append] at e1
 exact ⟨h1, e4 (by simp), f, by rw [e1]; exact e2, e3⟩
theorem to_scan {t : List UInt8} {ts : List K} {f : List UInt8} (h1 : t.length ≤ 20000) (h2 : ts.length ≤ 4000) (h : LexTo [] t ts f) (hf : Skips f []) : (scan t).2.2 = 0 ∧ (scan t).1.map ktM = ts := by
 obtain ⟨l, e1, e2⟩ := lex_scan h hf (t.length + 1) t.length [] rfl (by omega) (by simpa using h2)
 rw [scan_of_ok h1 e1]
 exact ⟨rfl, by rw [e2]; rfl⟩
theorem LexTo.ext {p : List K} {r : List UInt8} {ts : List K} {f : List UInt8} (h : LexTo p r ts f) {v : List UInt8} (hv : Bd v) : LexTo p (r ++ v) ts (f ++ v) := by
 induction h with
 | nil p r => exact .nil _ _
 | cons p r c t kind k ts f hs ho hr ih =>
  have hk := one_len _ _ _ _ ho
  have h1 := skips_app hs (by simp) hv
  have h2 := one_agree (m := (c :: t).length) ho hk.2 hv
  rw [List.take_length] at h2
  have e1 : (c :: (t ++ v)).take k = (c :: t).take k := by rw [← List.cons_append, List.take_append_of_le_length hk.2]
  have e2 : (c :: (t ++ v)).drop k = (c :: t).drop k ++ v := by rw [← List.cons_append, List.drop_append_of_le_length hk.2]
  have := LexTo.cons p (r ++ v) c (t ++ v) kind k ts (f ++ v) h1 h2 (by rw [e1, e2]; exact ih)
  rw [e1] at this
  exact this
theorem LexTo.trans {p : List K} {r : List UInt8} {ts : List K} {f : List UInt8} (h : LexTo p r ts f) : ∀ {us : List K} {g : List UInt8}, LexTo (ts.reverse ++ p) f us g → LexTo p r (ts ++ us) g := by
 induction h with
 | nil p r => intro us g h2; exact h2
 | cons p r c t kind k ts f hs ho hr ih =>
  intro us g h2
  exact .cons _ r c t kind k _ _ hs ho (ih (by simpa using h2))
theorem LexTo.blank {p : List K} {c : UInt8} {r : List UInt8} {ts : List K} {f : List UInt8} (hb : isBlank c = true) (h : LexTo p r ts f) : ∃ g, LexTo p (c :: r) ts g ∧ (Skips f [] → Skips g []) ∧ (ts ≠ [] → g = f) := by
 cases h with
 | nil => exact ⟨c :: r, .nil _ _, fun h => .blank c r [] hb h, fun h => absurd rfl h⟩
 | cons _ _ d t kind k ts f hs ho hr => exact ⟨f, .cons p (c :: r) d t kind k ts f (.blank c r _ hb hs) ho hr, id, fun _ => rfl⟩
end Go.Proofs.Lx
set_option linter.unusedVariables false
set_option linter.unusedSimpArgs false
namespace Go.Proofs.YtadgddipkbdnbaaGreatDoor.Q
open Go.RowKit Go.Proofs.YtadgddipkbdnbaaGreatDoor YtadgddipkbdnbaaGreatDoorW.PrintWords YtadgddipkbdnbaaGreatDoorW.PrintLast
theorem wrapn {i : Int} (h0 : 0 ≤ i) (h : i < 9223372036854775808) : wrap64 i = i := by unfold wrap64; omega
theorem kt_tokS (l : List Lx.Tok) : (l.map tokS).map kt = l.map Lx.ktM := by rw [List.map_map]; rfl
theorem scan_count (t : List UInt8) : (Lx.scan t).1.length ≤ 4000 := by
 by_cases h : (Lx.scan t).2.2 = 0
 ·exact (Lx.scan_to h).2.1
 ·rw [Lx.scan_err0 h]; simp
theorem ba_len (s : ByteArray) : s.data.toList.length = s.size := by rw [Array.length_toList]; rfl
theorem strS_list (l : List UInt8) : (strS l).toList = l := by
 rw [ByteArray.toList_eq]; rfl
theorem ev_bind {α β : Type} {x : Nat → Option α} {a : α} {f : Nat → α → Option β} {r : β} (hx : Ev x a) (hf : Ev (fun k => f k a) r) : Ev (fun k => (x k).bind (f k)) r := by
 obtain ⟨K, hK⟩ := hf
 obtain ⟨K2, hK2⟩ := hx
 exact ⟨K + K2, fun k hk => by
  show (x k).bind (f k) = some r
  rw [hK2 k (by omega)]; exact hK k (by omega)⟩
end Go.Proofs.YtadgddipkbdnbaaGreatDoor.Q
set_option linter.unusedVariables false
set_option linter.unusedSimpArgs false
namespace Go.Proofs.YtadgddipkbdnbaaGreatDoor.Q
open Go.RowKit Go.Proofs.YtadgddipkbdnbaaGreatDoor YtadgddipkbdnbaaGreatDoorW.PrintWords YtadgddipkbdnbaaGreatDoorW.PrintLast
theorem kt_rd (l : List S38) (i : Nat) (h : i < l.length) : kt (rd_T38 l (i : Int)) = (l.map kt)[i]'(by simpa using h) := by
 unfold rd_T38
 rw [Int.toNat_natCast, List.getD_eq_getElem?_getD, List.getElem?_eq_getElem h, List.getElem_map]
 rfl
end Go.Proofs.YtadgddipkbdnbaaGreatDoor.Q
set_option linter.unusedVariables false
set_option linter.unusedSimpArgs false
namespace Go.Proofs.Lx
open Go.Proofs.YtadgddipkbdnbaaGreatDoor
def Tokk (d : Bool) (x : K) : Prop := one d x.2 = .ok (x.1, x.2.length) ∧ x.2 ≠ [] ∧ Skips x.2 x.2
theorem skips_stop {r x : List UInt8} (h : Skips r x) : x = [] ∨ ∃ c t, x = c :: t ∧ isBlank c = false ∧ (c :: t).take 2 ≠ [47, 47] ∧ (c :: t).take 2 ≠ [47, 42] := by
 induction h with
 | nil => exact .inl rfl
 | stop c t h h1 h2 => exact .inr ⟨c, t, rfl, h, h1, h2⟩
 | blank c t x h hs ih => exact ih
 | line t x hs ih => exact ih
 | block t u x hc hs ih => exact ih
theorem tokk_of {p : List K} {r : List UInt8} {c : UInt8} {t : List UInt8} {kind : Int} {k : Nat} (hs : Skips r (c :: t)) (ho : one (opK p) (c :: t) = .ok (kind, k)) : Tokk (opK p) (kind, (c :: t).take k) := by
 have hk := one_len _ _ _ _ ho
 have h1 := one_agree (m := k) (v := []) ho (Nat.le_refl _) (.inl rfl)
 rw [List.append_nil] at h1
 have hl : ((c :: t).take k).length = k := by rw [List.length_take]; omega
 obtain ⟨k', rfl⟩ : ∃ x, k = x + 1 := ⟨k - 1, by omega⟩
 refine ⟨by rw [hl]; exact h1, by rw [List.take_succ_cons]; simp, ?_⟩
 rcases skips_stop hs with h | ⟨c', t', e, h2, h3, h4⟩
 ·cases h
 ·cases e
  have e2 : ∀ b : UInt8, (c :: t).take 2 ≠ [47, b] → (c :: t.take k').take 2 ≠ [47, b] := by
   intro b hb e
   cases k' with
   | zero => simp at e
   | succ k' =>
    apply hb
    rw [← e]
    cases t <;> simp
  rw [List.take_succ_cons]
  exact .stop c _ h2 (e2 47 h3) (e2 42 h4)
theorem LexTo.one {p : List K} {x : K} (h : Tokk (opK p) x) {v : List UInt8} (hv : Bd v) : LexTo p (x.2 ++ v) [x] v := by
 obtain ⟨h1, h2, h3⟩ := h
 obtain ⟨kind, text⟩ := x
 simp only at h1 h2 h3
 cases text with
 | nil => exact absurd rfl h2
 | cons c t =>
  have h4 := one_agree (m := (c :: t).length) h1 (Nat.le_refl _) hv
  rw [List.take_length] at h4
  have e1 : (c :: (t ++ v)).take (c :: t).length = c :: t := by
   rw [← List.cons_append, List.take_append_of_le_length (Nat.le_refl _), List.take_length]
  have e2 : (c :: (t ++ v)).drop (c :: t).length = v := by
   rw [← List.cons_append, List.drop_append_of_le_length (Nat.le_refl _), List.drop_length, List.nil_append]
  have := LexTo.cons p (c :: t ++ v) c (t ++ v) kind (c :: t).length [] v (skips_app h3 (by simp) hv) h4 (by rw [e2]; exact .nil _ _)
  rw [e1] at this
  exact this
end Go.Proofs.Lx
set_option linter.unusedVariables false
set_option linter.unusedSimpArgs false
namespace Go.Proofs.Lx
open Go.Proofs.YtadgddipkbdnbaaGreatDoor
def Toks : List K → List K → Prop
 | _, [] => True
 | p, x :: ts => Tokk (opK p) x ∧ Toks (x :: p) ts
theorem LexTo.chain {p : List K} {r : List UInt8} {ts : List K} {f : List UInt8} (h : LexTo p r ts f) : Toks p ts := by
 induction h with
 | nil => trivial
 | cons p r c t kind k ts f hs ho hr ih => exact ⟨tokk_of hs ho, ih⟩
def joinK : List K → List UInt8
 | [] => []
 | [x] => x.2
 | x :: y :: ts => x.2 ++ 32 :: joinK (y :: ts)
def givesM (t : List UInt8) (ts : List K) : Bool := decide ((scan t).2.2 = 0 ∧ (scan t).1.map ktM = ts)
def tightK : List K → List UInt8 → List K → List UInt8
 | _, out, [] => out
 | done, out, x :: ts => tightK (done ++ [x]) (if done ≠ [] ∧ givesM (out ++ x.2) (done ++ [x]) = false then out ++ 32 :: x.2 else out ++ x.2) ts
theorem joinK_len : ∀ (ts : List K), (joinK ts).length ≤ (ts.map fun x => x.2.length + 1).sum
 | [] => by simp [joinK]
 | [x] => by simp [joinK]
 | x :: y :: ts => by
  have := joinK_len (y :: ts)
  rw [joinK, List.length_append, List.length_cons, List.map_cons, List.sum_cons]
  omega
theorem joinK_eq : ∀ (ts : List K), Lib.join (ts.map fun x => x.2) [32] = joinK ts
 | [] => rfl
 | [x] => by simp [joinK, Lib.join]
 | x :: y :: ts => by
  have := joinK_eq (y :: ts)
  rw [joinK, ← this]
  simp [Lib.join]
end Go.Proofs.Lx
set_option linter.unusedVariables false
set_option linter.unusedSimpArgs false
namespace Go.Proofs.YtadgddipkbdnbaaGreatDoor.Q
open Go.RowKit Go.Proofs.YtadgddipkbdnbaaGreatDoor YtadgddipkbdnbaaGreatDoorW.PrintWords YtadgddipkbdnbaaGreatDoorW.PrintLast
theorem gives_f (t : ByteArray) (l : List S38) : lex_gives.f t l = some (Lx.givesM t.data.toList (l.map kt)) := by
 unfold lex_gives.f lex_Scan.f lex_Same.f Lx.givesM
 simp only [Option.bind_some]
 by_cases h : (Lx.scan t.data.toList).2.2 = 0
 ·rw [if_pos h, kt_tokS]
  by_cases h2 : (Lx.scan t.data.toList).1.map Lx.ktM = l.map kt
  ·rw [decide_eq_true h2, decide_eq_true ⟨h, h2⟩]
  ·rw [decide_eq_false h2, decide_eq_false (fun hh => h2 hh.2)]
 ·rw [if_neg h, decide_eq_false (fun hh => h hh.1)]
def lenS (l : List S38) : Nat := (l.map fun x => x.f1.size + 1).sum
theorem lenS_take (l : List S38) (i : Nat) (h : i < l.length) : lenS (l.take (i + 1)) = lenS (l.take i) + (l[i].f1.size + 1) := by
 unfold lenS
 rw [List.take_add_one, List.getElem?_eq_getElem h, List.map_append, List.sum_append]
 simp only [Option.toList_some, List.map_cons, List.map_nil, List.sum_cons, List.sum_nil, Nat.add_zero]
theorem lenS_mono (l : List S38) (i : Nat) : lenS (l.take i) ≤ lenS l := by
 unfold lenS
 conv => rhs; rw [← List.take_append_drop i l]
 rw [List.map_append, List.sum_append]
 omega
theorem lenS_kt (l : List S38) : lenS l = ((l.map kt).map fun x => x.2.length + 1).sum := by
 unfold lenS
 rw [List.map_map]
 congr 1
theorem rd38 (l : List S38) (i : Nat) (h : i < l.length) : rd_T38 l (i : Int) = l[i] := by
 unfold rd_T38
 rw [Int.toNat_natCast, List.getD_eq_getElem?_getD, List.getElem?_eq_getElem h]
 rfl
theorem join_l0 (l : List S38) (hl : l.length ≤ 4000) (hs : lenS l ≤ 20001) (k : Nat) : ∀ d i, i ≤ l.length → l.length - i = d → lex_Join.l0 (k + d + 1) l (lenS (l.take i)) l (l.length : Int) (i : Int) = lex_Join.l1 k l [] l (l.length : Int) 0 := by
 intro d
 induction d with
 | zero =>
  intro i hi hd
  rw [lex_Join.l0, if_neg (by omega)]
 | succ d ih =>
  intro i hi hd
  have hlt : i < l.length := by omega
  have h1 := lenS_take l i hlt
  have h2 := lenS_mono l (i + 1)
  have e1 : wrap64 ((lenS (l.take i) : Nat) + (wrap64 ((l[i].f1.size : Int) + 1))) = ((lenS (l.take (i + 1)) : Nat) : Int) := by
   rw [wrapn (i := (l[i].f1.size : Int) + 1) (by omega) (by omega), wrapn (by omega) (by omega)]
   omega
  rw [show k + (d + 1) + 1 = (k + d + 1) + 1 by omega, lex_Join.l0, if_pos (by omega), if_pos (by omega), if_pos (by omega), rd38 l i hlt, e1, if_neg (by omega), wrapn (by omega) (by omega)]
  exact ih (i + 1) (by omega) (by omega)
theorem join_l1 (l : List S38) (hl : l.length ≤ 4000) (k : Nat) : ∀ d i, i ≤ l.length → l.length - i = d → lex_Join.l1 (k + d + 1) l ((l.take i).map (·.f1)) l (l.length : Int) (i : Int) =
  (strings_Join.f (l.map (·.f1)) (⟨#[32]⟩ : ByteArray)).bind fun t241 => ((lex_gives.f t241 l).bind fun t242 => (if t242 = true then (some t241) else (some (⟨#[]⟩ : ByteArray)))) := by
 intro d
 induction d with
 | zero =>
  intro i hi hd
  rw [lex_Join.l1, if_neg (by omega), List.take_of_length_le (by omega)]
 | succ d ih =>
  intro i hi hd
  have hlt : i < l.length := by omega
  rw [show k + (d + 1) + 1 = (k + d + 1) + 1 by omega, lex_Join.l1, if_pos (by omega), if_pos (by omega), if_pos (by omega), rd38 l i hlt, if_pos (by rw [List.length_map, List.length_take]; omega), wrapn (by omega) (by omega)]
  rw [← ih (i + 1) (by omega) (by omega)]
  rw [show (l.take i).map (·.f1) ++ [l[i].f1] = (l.take (i + 1)).map (·.f1) by rw [List.take_add_one, List.getElem?_eq_getElem hlt, List.map_append]; rfl]
  rfl
def joinM (l : List Lx.K) : List UInt8 := if Lx.givesM (Lx.joinK l) l = true then Lx.joinK l else []
theorem join_many (l : List S38) (hl : 4000 < l.length) (k : Nat) : lex_Join.f k l = some ⟨#[]⟩ := by
 unfold lex_Join.f
 rw [if_pos (by omega)]
theorem join_f (l : List S38) (hl : l.length ≤ 4000) (hs : lenS l ≤ 20001) (k : Nat) (hk : 2 * l.length + 2 ≤ k) : lex_Join.f k l = some (strS (joinM (l.map kt))) := by
 unfold lex_Join.f
 rw [if_neg (by omega)]
 have h0 := join_l0 l hl hs (k - l.length - 1) l.length 0 (by omega) (by omega)
 have h1 := join_l1 l hl (k - l.length - 1 - l.length - 1) l.length 0 (by omega) (by omega)
 rw [show k - l.length - 1 + l.length + 1 = k by omega] at h0
 rw [show k - l.length - 1 - l.length - 1 + l.length + 1 = k - l.length - 1 by omega] at h1
 simp only [List.take_zero, List.map_nil] at h0 h1
 have e0 : ((lenS [] : Nat) : Int) = 0 := rfl
 rw [e0] at h0
 rw [show ((0 : Nat) : Int) = 0 from rfl] at h0 h1
 rw [h0, h1]
 unfold strings_Join.f
 have e1 : Lib.join ((l.map (·.f1)).map (·.data.toList)) (⟨#[32]⟩ : ByteArray).data.toList = Lx.joinK (l.map kt) := by
  rw [← Lx.joinK_eq, List.map_map, List.map_map]
  rfl
 have e2 := Lx.joinK_len (l.map kt)
 rw [← lenS_kt] at e2
 rw [e1, if_pos ⟨by rw [List.length_map]; omega, by omega⟩]
 simp only [Option.bind_some]
 rw [gives_f]
 simp only [Option.bind_some]
 show (if Lx.givesM (Lx.joinK (l.map kt)) (l.map kt) = true then _ else _) = _
 unfold joinM
 split <;> rfl
theorem kt_take (l : List S38) (i : Nat) : (l.take i).map kt = (l.map kt).take i := by rw [List.map_take]
theorem tight_l0 (l : List S38) (hl : l.length ≤ 4000) (k : Nat) : ∀ d i (out : List UInt8), i ≤ l.length → l.length - i = d → out.length ≤ lenS (l.take i) → lenS l ≤ 1000000 → lex_Tight.l0 (k + d + 1) l (strS out) l (l.length : Int) (i : Int) = some (strS (Lx.tightK ((l.map kt).take i) out ((l.map kt).drop i))) := by
 intro d
 induction d with
 | zero =>
  intro i out hi hd ho hs
  rw [lex_Tight.l0, if_neg (by omega), List.drop_of_length_le (by rw [List.length_map]; omega), Lx.tightK]
 | succ d ih =>
  intro i out hi hd ho hs
  have hlt : i < l.length := by omega
  have h1 := lenS_take l i hlt
  have h2 := lenS_mono l (i + 1)
  have hsz : (strS out).size = out.length := rfl
  have ed : (l.map kt).drop i = kt l[i] :: (l.map kt).drop (i + 1) := by rw [List.drop_eq_getElem_cons (by simpa using hlt), List.getElem_map]
  have et : (l.map kt).take (i + 1) = (l.map kt).take i ++ [kt l[i]] := by rw [List.take_add_one, List.getElem?_eq_getElem (by simpa using hlt), List.getElem_map]; rfl
  have ea : ∀ o : List UInt8, strS o ++ l[i].f1 = strS (o ++ (kt l[i]).2) := by
   intro o
   unfold strS kt
   apply ByteArray.ext
   apply Array.ext'
   rw [ByteArray.data_append, Array.toList_append]
  have eb : strS out ++ (⟨#[32]⟩ : ByteArray) = strS (out ++ [32]) := by
   unfold strS
   apply ByteArray.ext
   apply Array.ext'
   rw [ByteArray.data_append, Array.toList_append]
  have el : (kt l[i]).2.length = l[i].f1.size := by unfold kt; exact ba_len _
  rw [show k + (d + 1) + 1 = (k + d + 1) + 1 by omega, lex_Tight.l0, if_pos (by omega), if_pos (by omega), if_pos (by omega), rd38 l i hlt, wrapn (i := (i : Int) + 1) (by omega) (by omega), ed, Lx.tightK, ← et]
  by_cases h0 : i = 0
  ·subst h0
   rw [if_neg (by omega), if_pos (by omega), if_neg (by simp), ea]
   have h1' : lenS (l.take 1) = lenS (l.take 0) + (l[0].f1.size + 1) := h1
   exact ih 1 (out ++ (kt l[0]).2) (by omega) (by omega) (by rw [List.length_append]; omega) hs
  ·rw [if_pos (by omega), if_pos (by omega), if_pos (by omega), if_pos (by omega), gives_f, ea, kt_take]
   have hne : (l.map kt).take i ≠ [] := by
    intro h
    have := congrArg List.length h
    rw [List.length_take, List.length_map, List.length_nil] at this
    omega
   rw [show (((i : Int) + 1).toNat) = i + 1 by omega]
   simp only [Option.bind_some]
   have es : (strS (out ++ (kt l[i]).2)).data.toList = out ++ (kt l[i]).2 := rfl
   rw [es]
   have ei : ((i : Int) + 1) = ((i + 1 : Nat) : Int) := by omega
   cases hg : Lx.givesM (out ++ (kt l[i]).2) ((l.map kt).take (i + 1)) with
   | true =>
    rw [if_pos rfl, if_neg (by simp), ei]
    exact ih (i + 1) _ (by omega) (by omega) (by rw [List.length_append]; omega) hs
   | false =>
    have hz2 : (strS (out ++ [32])).size = out.length + 1 := by show (out ++ [32]).length = _; simp
    rw [if_neg (by decide), if_pos (by omega), eb, if_pos (by omega), ea, if_pos ⟨hne, rfl⟩, ei, List.append_assoc, List.singleton_append]
    exact ih (i + 1) _ (by omega) (by omega) (by rw [List.length_append, List.length_cons]; omega) hs
def tightM (l : List Lx.K) : List UInt8 := if joinM l = [] then [] else Lx.tightK [] [] l
theorem tight_many (l : List S38) (hl : 4000 < l.length) (k : Nat) : lex_Tight.f k l = some ⟨#[]⟩ := by
 unfold lex_Tight.f
 rw [join_many l hl]
 simp only [Option.bind_some]
 rw [if_pos (by rw [ByteArray.toList_eq])]
theorem tight_f (l : List S38) (hl : l.length ≤ 4000) (hs : lenS l ≤ 20001) (k : Nat) (hk : 2 * l.length + 2 ≤ k) : lex_Tight.f k l = some (strS (tightM (l.map kt))) := by
 unfold lex_Tight.f
 rw [join_f l hl hs k hk]
 simp only [Option.bind_some]
 have h0 := tight_l0 l hl (k - l.length - 1) l.length 0 [] (by omega) (by omega) (by simp) (by omega)
 rw [show k - l.length - 1 + l.length + 1 = k by omega] at h0
 simp only [List.take_zero, List.drop_zero] at h0
 rw [strS_list]
 unfold tightM
 split
 ·rfl
 ·exact h0
end Go.Proofs.YtadgddipkbdnbaaGreatDoor.Q
namespace Go.Proofs.YtadgddipkbdnbaaGreatDoor.Q
open Go.Proofs.YtadgddipkbdnbaaGreatDoor Go.RowKit Go.Proofs.YtadgddipkbdnbaaGreatDoorW.PrintWords Go.Proofs.YtadgddipkbdnbaaGreatDoorW.PrintLast Go.Proofs.YtadgddipkbdnbaaGreatDoorW.PrintMore
attribute [local go_sem] max2_int min2_int max_two min_two max_three min_three max_four min_four   
set_option linter.unusedVariables false
set_option linter.unusedSimpArgs false
def taplineref11_Same.l0 : Nat → List (S38) → List (S38) → Int → Option (Bool)
 | 0, _, _, _ => none
 | k + 1, x0, x1, x5 => if x5 < (x0.length : Int) then (if 0 ≤ x5 then (if x5 < (x1.length : Int) then (if ((rd_T38 x0 x5).f0) = ((rd_T38 x1 x5).f0) then (if ((rd_T38 x0 x5).f1).toList = ((rd_T38 x1 x5).f1).toList then (taplineref11_Same.l0 k x0 x1 (wrap64 (x5 + 1))) else (some false)) else (some false)) else (none)) else (none)) else (some true)
def taplineref11_Same.f (k : Nat) (l0 : List (S38)) (l1 : List (S38)) : Option (Bool) := if (l0.length : Int) = (l1.length : Int) then (taplineref11_Same.l0 k l0 l1 0) else (some false)
theorem taplineref11_Same.mono_l : ∀ k, (∀ y0 y1 y2, LeO (taplineref11_Same.l0 k y0 y1 y2) (taplineref11_Same.l0 (k + 1) y0 y1 y2))
 | 0 => fun _ _ _ r h => by simp [taplineref11_Same.l0] at h
 | k + 1 => by
  have ih0 := taplineref11_Same.mono_l k
  ·intro y0 y1 y2
   unfold taplineref11_Same.l0
   repeat' first
   | (with_reducible exact ih0 _ _ _)
   | (with_reducible exact LeO.refl _)
   | (with_reducible exact LeO.none _)
   | (with_reducible refine LeO.ite ?_ ?_)
   | (with_reducible refine LeO.bind ?_ (fun _ => ?_))
   | exact LeO.none _
   | refine LeO.ite ?_ ?_
   | refine LeO.bind ?_ (fun _ => ?_)
theorem taplineref11_Same.mono : ∀ a0 a1 k, LeO (taplineref11_Same.f k a0 a1) (taplineref11_Same.f (k + 1) a0 a1) := by
 intro a0 a1 k
 have ih0 := taplineref11_Same.mono_l k
 unfold taplineref11_Same.f
 repeat' first
   | (with_reducible exact ih0 _ _ _)
   | (with_reducible exact LeO.refl _)
   | (with_reducible exact LeO.none _)
   | (with_reducible refine LeO.ite ?_ ?_)
   | (with_reducible refine LeO.bind ?_ (fun _ => ?_))
   | exact LeO.none _
   | refine LeO.ite ?_ ?_
   | refine LeO.bind ?_ (fun _ => ?_)
set_option maxHeartbeats 8000000 in
set_option maxRecDepth 100000 in
theorem taplineref11_Same.calls (k : Nat) (A0 : Option Addr) (c0 : Nat) (l0 : List (S38)) (A1 : Option Addr) (c1 : Nat) (l1 : List (S38)) (r : Bool) (w : World) (hr0 : Kd.C k38 w A0 l0.length l0) (hc0 : l0.length ≤ c0) (hr1 : Kd.C k38 w A1 l1.length l1) (hc1 : l1.length ≤ c1) (h : taplineref11_Same.f k l0 l1 = some r) :
  Calls Tryz.prog 41 #[.slice A0 l0.length c0, .slice A1 l1.length c1] w fun e w' => e = .returned (.bool r) ∧ Drawn0 w w' := by
 have HR0 := Aside0.mk hr0
 have HC0 := Aside0.mk hc0
 clear hr0 hc0
 have HR1 := Aside0.mk hr1
 have HC1 := Aside0.mk hc1
 clear hr1 hc1
 have H : (if (l0.length : Int) = (l1.length : Int) then (taplineref11_Same.l0 k l0 l1 0) else (some false)) = some r := h
 clear h
 by_cases c3 : (l0.length : Int) = (l1.length : Int)
 ·rw [if_pos c3] at H
  have c3b0 : ((l0.length : Int) == (l1.length : Int)) = true := beq_iff_eq.mpr c3
  have c3b1 : ((l0.length : Int) != (l1.length : Int)) = false := bne_eq_false_iff_eq.mpr c3
  have c3b2 : (l0.length == l1.length) = true := by first | simpa using c3 | (simp at c3 ⊢; omega)
  clear c3
  have H' := Aside0.mk H
  clear H
  go_enter Tryz.func41, Tryz.ntmps41
  go_wp2
  repeat (go_quiet (fail); try go_wp2)
  try simp only [Act.put, List.setIfInBounds_toArray, List.set_cons_zero, List.set_cons_succ]
  go_loopg [5] k (fun kq v5 w' => ∃ (x5_1 : Int), v5 = .int .i64 x5_1 ∧ Aside0 (taplineref11_Same.l0 kq l0 l1 x5_1 = some r) ∧ Aside0 (kq ≤ k) ∧ Drawn0 w w')
  case atStart => exact ⟨(0), rsd, H', ⟨Nat.le_refl _⟩, by repeat (first | exact Drawn0.refl _ | apply Drawn0.step)⟩
  case round =>
   clear H'
   try clear c1
   try clear p2
   try clear c3
   try clear c3b0
   try clear c3b1
   try clear c3b2
   obtain ⟨x5_1, rfl, HA, HK1, ⟨m1, rfl⟩⟩ := hrel
   cases gk with
   | zero => exact absurd HA.out (by simp [taplineref11_Same.l0])
   | succ k1 =>
    have H := HA.out
    clear HA
    simp only [taplineref11_Same.l0] at H
    by_cases c4 : x5_1 < (l0.length : Int)
    ·rw [if_pos c4] at H
     have c4b0 : decide (x5_1 < (l0.length : Int)) = true := decide_eq_true c4
     clear c4
     by_cases c5 : 0 ≤ x5_1
     ·rw [if_pos c5] at H
      have c5b0 : decide (0 ≤ x5_1) = true := decide_eq_true c5
      clear c5
      by_cases c6 : x5_1 < (l1.length : Int)
      ·rw [if_pos c6] at H
       have c6b0 : decide (x5_1 < (l1.length : Int)) = true := decide_eq_true c6
       clear c6
       by_cases c7 : ((rd_T38 l0 x5_1).f0) = ((rd_T38 l1 x5_1).f0)
       ·rw [if_pos c7] at H
        have c7b0 : (((rd_T38 l0 x5_1).f0) == ((rd_T38 l1 x5_1).f0)) = true := beq_iff_eq.mpr c7
        have c7b1 : (((rd_T38 l0 x5_1).f0) != ((rd_T38 l1 x5_1).f0)) = false := bne_eq_false_iff_eq.mpr c7
        clear c7
        by_cases c8 : ((rd_T38 l0 x5_1).f1).toList = ((rd_T38 l1 x5_1).f1).toList
        ·rw [if_pos c8] at H
         have c8b0 : (((rd_T38 l0 x5_1).f1).toList == ((rd_T38 l1 x5_1).f1).toList) = true := beq_iff_eq.mpr c8
         have c8b1 : (((rd_T38 l0 x5_1).f1).toList != ((rd_T38 l1 x5_1).f1).toList) = false := bne_eq_false_iff_eq.mpr c8
         clear c8
         have H' := Aside0.mk H
         clear H
         have p243 : 0 ≤ (x5_1 : Int) := of_decide_eq_true asm
         have q243 : x5_1 < (l0.length : Int) := of_decide_eq_true asm
         obtain ⟨ad243, e243, hx243_0, hx243_1, hx243_2⟩ := at_T38 HR0.out x5_1 p243 q243
         cases e243
         replace p243 := eq_true p243
         replace q243 := eq_true q243
         have p244 : 0 ≤ (x5_1 : Int) := of_decide_eq_true asm
         have q244 : x5_1 < (l1.length : Int) := of_decide_eq_true asm
         obtain ⟨ad244, e244, hx244_0, hx244_1, hx244_2⟩ := at_T38 HR1.out x5_1 p244 q244
         cases e244
         replace p244 := eq_true p244
         replace q244 := eq_true q244
         have p245 : 0 ≤ (x5_1 : Int) := of_decide_eq_true asm
         have q245 : x5_1 < (l0.length : Int) := of_decide_eq_true asm
         obtain ⟨ad245, e245, hx245_0, hx245_1, hx245_2⟩ := at_T38 HR0.out x5_1 p245 q245
         obtain rfl : ad243 = ad245 := (by injection e245)
         replace p245 := eq_true p245
         replace q245 := eq_true q245
         have p246 : 0 ≤ (x5_1 : Int) := of_decide_eq_true asm
         have q246 : x5_1 < (l1.length : Int) := of_decide_eq_true asm
         obtain ⟨ad246, e246, hx246_0, hx246_1, hx246_2⟩ := at_T38 HR1.out x5_1 p246 q246
         obtain rfl : ad244 = ad246 := (by injection e246)
         replace p246 := eq_true p246
         replace q246 := eq_true q246
         go_wp2
         repeat (go_quiet (fail); try go_wp2)
         go_roundg k1
         case measure => have := HK1.out; omega
         case rel => exact ⟨(wrap64 (x5_1 + 1)), rsd, H', ⟨by have := HK1.out; omega⟩, by repeat (first | exact Drawn0.refl _ | apply Drawn0.step)⟩
        ·rw [if_neg c8] at H
         have c8b0 : (((rd_T38 l0 x5_1).f1).toList == ((rd_T38 l1 x5_1).f1).toList) = false := beq_eq_false_iff_ne.mpr c8
         have c8b1 : (((rd_T38 l0 x5_1).f1).toList != ((rd_T38 l1 x5_1).f1).toList) = true := bne_iff_ne.mpr c8
         obtain rfl := Option.some.inj H
         have p243 : 0 ≤ (x5_1 : Int) := of_decide_eq_true asm
         have q243 : x5_1 < (l0.length : Int) := of_decide_eq_true asm
         obtain ⟨ad243, e243, hx243_0, hx243_1, hx243_2⟩ := at_T38 HR0.out x5_1 p243 q243
         cases e243
         replace p243 := eq_true p243
         replace q243 := eq_true q243
         have p244 : 0 ≤ (x5_1 : Int) := of_decide_eq_true asm
         have q244 : x5_1 < (l1.length : Int) := of_decide_eq_true asm
         obtain ⟨ad244, e244, hx244_0, hx244_1, hx244_2⟩ := at_T38 HR1.out x5_1 p244 q244
         cases e244
         replace p244 := eq_true p244
         replace q244 := eq_true q244
         have p245 : 0 ≤ (x5_1 : Int) := of_decide_eq_true asm
         have q245 : x5_1 < (l0.length : Int) := of_decide_eq_true asm
         obtain ⟨ad245, e245, hx245_0, hx245_1, hx245_2⟩ := at_T38 HR0.out x5_1 p245 q245
         obtain rfl : ad243 = ad245 := (by injection e245)
         replace p245 := eq_true p245
         replace q245 := eq_true q245
         have p246 : 0 ≤ (x5_1 : Int) := of_decide_eq_true asm
         have q246 : x5_1 < (l1.length : Int) := of_decide_eq_true asm
         obtain ⟨ad246, e246, hx246_0, hx246_1, hx246_2⟩ := at_T38 HR1.out x5_1 p246 q246
         obtain rfl : ad244 = ad246 := (by injection e246)
         replace p246 := eq_true p246
         replace q246 := eq_true q246
         go_wp2
         repeat (go_quiet (fail); try go_wp2)
         go_ret
         exact ⟨by first | rfl | (simp; done) | (simp [*]; done), by repeat (first | exact Drawn0.refl _ | apply Drawn0.step)⟩
       ·rw [if_neg c7] at H
        have c7b0 : (((rd_T38 l0 x5_1).f0) == ((rd_T38 l1 x5_1).f0)) = false := beq_eq_false_iff_ne.mpr c7
        have c7b1 : (((rd_T38 l0 x5_1).f0) != ((rd_T38 l1 x5_1).f0)) = true := bne_iff_ne.mpr c7
        obtain rfl := Option.some.inj H
        have p243 : 0 ≤ (x5_1 : Int) := of_decide_eq_true asm
        have q243 : x5_1 < (l0.length : Int) := of_decide_eq_true asm
        obtain ⟨ad243, e243, hx243_0, hx243_1, hx243_2⟩ := at_T38 HR0.out x5_1 p243 q243
        cases e243
        replace p243 := eq_true p243
        replace q243 := eq_true q243
        have p244 : 0 ≤ (x5_1 : Int) := of_decide_eq_true asm
        have q244 : x5_1 < (l1.length : Int) := of_decide_eq_true asm
        obtain ⟨ad244, e244, hx244_0, hx244_1, hx244_2⟩ := at_T38 HR1.out x5_1 p244 q244
        cases e244
        replace p244 := eq_true p244
        replace q244 := eq_true q244
        go_wp2
        repeat (go_quiet (fail); try go_wp2)
        go_ret
        exact ⟨by first | rfl | (simp; done) | (simp [*]; done), by repeat (first | exact Drawn0.refl _ | apply Drawn0.step)⟩
      ·rw [if_neg c6] at H
       exact absurd H (by simp)
     ·rw [if_neg c5] at H
      exact absurd H (by simp)
    ·rw [if_neg c4] at H
     have c4b0 : decide (x5_1 < (l0.length : Int)) = false := decide_eq_false c4
     clear c4
     obtain rfl := Option.some.inj H
     go_wp2
     repeat (go_quiet (fail); try go_wp2)
     go_ret
     exact ⟨by first | rfl | (simp; done) | (simp [*]; done), by repeat (first | exact Drawn0.refl _ | apply Drawn0.step)⟩
 ·rw [if_neg c3] at H
  have c3b0 : ((l0.length : Int) == (l1.length : Int)) = false := beq_eq_false_iff_ne.mpr c3
  have c3b1 : ((l0.length : Int) != (l1.length : Int)) = true := bne_iff_ne.mpr c3
  have c3b2 : (l0.length == l1.length) = false := by first | simpa using c3 | (simp at c3 ⊢; omega)
  obtain rfl := Option.some.inj H
  go_enter Tryz.func41, Tryz.ntmps41
  go_wp2
  repeat (go_quiet (fail); try go_wp2)
  go_ret
  exact ⟨by first | rfl | (simp; done) | (simp [*]; done), by repeat (first | exact Drawn0.refl _ | apply Drawn0.step)⟩
end Go.Proofs.YtadgddipkbdnbaaGreatDoor.Q
namespace Go.Proofs.YtadgddipkbdnbaaGreatDoor.Q
open Go.Proofs.YtadgddipkbdnbaaGreatDoor Go.RowKit Go.Proofs.YtadgddipkbdnbaaGreatDoorW.PrintWords Go.Proofs.YtadgddipkbdnbaaGreatDoorW.PrintLast Go.Proofs.YtadgddipkbdnbaaGreatDoorW.PrintMore
attribute [local go_sem] max2_int min2_int max_two min_two max_three min_three max_four min_four   
set_option linter.unusedVariables false
set_option linter.unusedSimpArgs false
def taplineref11_gives.f (k : Nat) (a0 : ByteArray) (l1 : List (S38)) : Option (Bool) := (taplineref11_Scan.f k a0).bind fun bt247 => (if bt247.2.2 = 0 then ((taplineref11_Same.f k bt247.1 l1).bind fun t253 => (some t253)) else (some false))
theorem taplineref11_gives.mono : ∀ a0 a1 k, LeO (taplineref11_gives.f k a0 a1) (taplineref11_gives.f (k + 1) a0 a1) := by
 intro a0 a1 k
 unfold taplineref11_gives.f
 repeat' first
   | (with_reducible exact taplineref11_Same.mono _ _ _)
   | (with_reducible exact taplineref11_Scan.mono _ _)
   | (with_reducible exact LeO.refl _)
   | (with_reducible exact LeO.none _)
   | (with_reducible refine LeO.ite ?_ ?_)
   | (with_reducible refine LeO.bind ?_ (fun _ => ?_))
   | exact LeO.none _
   | refine LeO.ite ?_ ?_
   | refine LeO.bind ?_ (fun _ => ?_)
set_option maxHeartbeats 8000000 in
set_option maxRecDepth 100000 in
theorem taplineref11_gives.calls (k : Nat) (a0 : ByteArray) (A1 : Option Addr) (c1 : Nat) (l1 : List (S38)) (r : Bool) (w : World) (hr1 : Kd.C k38 w A1 l1.length l1) (hc1 : l1.length ≤ c1) (h : taplineref11_gives.f k a0 l1 = some r) :
  Calls Tryz.prog 59 #[.string a0, .slice A1 l1.length c1] w fun e w' => e = .returned (.bool r) ∧ Below w.heap.size w w' := by
 have hu28 := Tryz.underlying28
 have HR1 := Aside0.mk hr1
 have HC1 := Aside0.mk hc1
 clear hr1 hc1
 have HB := Aside0.mk (Below.refl w.heap.size w)
 have H : ((taplineref11_Scan.f k a0).bind fun bt247 => (if bt247.2.2 = 0 then ((taplineref11_Same.f k bt247.1 l1).bind fun t253 => (some t253)) else (some false))) = some r := h
 clear h
 replace H := Option.bind_eq_some_iff.mp H
 obtain ⟨⟨t247, t250, t251⟩, A30, H⟩ := H
 replace H : (if t251 = 0 then ((taplineref11_Same.f k t247 l1).bind fun t253 => (some t253)) else (some false)) = some r := H
 have A3 := Aside0.mk A30
 clear A30
 by_cases c4 : t251 = 0
 ·rw [if_pos c4] at H
  have c4b0 : (t251 == 0) = true := beq_iff_eq.mpr c4
  have c4b1 : (t251 != 0) = false := bne_eq_false_iff_eq.mpr c4
  clear c4
  replace H := Option.bind_eq_some_iff.mp H
  obtain ⟨t253, A50, H⟩ := H
  replace H : (some t253) = some r := H
  have A5 := Aside0.mk A50
  clear A50
  obtain rfl := Option.some.inj H
  go_enter Tryz.func59, Tryz.ntmps59
  go_wp2_with (first | ((with_reducible refine gate_callee (f := 18) rfl ?_); refine goesL_ (some 7) rfl rfl Tryz.func18 (by kernel_rfl) rfl #[.string a0] rfl fq ?_; (with_reducible refine (taplineref11_Scan.calls k a0 t247 t250 t251 _ A3.out).mono ?_); rintro e w6 ⟨v248, rfl, ho0, hb⟩; refine ⟨_, rfl, ?_⟩; have n0_ := Aside0.mk (Kd.R_lower ho0 (below_size blw)); have n1_ := Aside0.mk (below_step blw hb); clear HB; have HO249 := n0_; have HB := n1_; clear n0_ n1_; (try clear hb); (try clear hb2); (try clear hk); (try clear hi); (try clear ho0)) | ((with_reducible refine gate_dst (N := 5) rfl ?_); refine box_event ?hg (N := 5) ?hd (cs := #[.slice none 0 0, .int .i64 0, .int .i64 0]) (t := 28) ?hr ?_; (case hd => rfl); (case hg => rfl); (case hr => first | (go_simp; done) | (go_simp; rfl)); intro gb252 hg w7 hbox hb; have n0_ := Aside0.mk (Kd.R_below (by (with_reducible repeat (first | apply Kd.R_alloc | apply Kd.R_drewN | apply Kd.R_drew)); exact HO249.out) hb); have n1_ := Aside0.mk (below_step blw hb); have n2_ := Aside0.mk (hbox); have n3_ := Aside0.mk ((by rw [hg]; exact (below_size blw) : w.heap.size ≤ gb252)); have n4_ := Aside0.mk ((by rw [hg]; exact (below_size blw) : w.heap.size ≤ gb252)); clear HO249; clear HB; have HO249 := n0_; have HB := n1_; have BK252 := n2_; have GW252 := n3_; have GE252 := n4_; clear n0_ n1_ n2_ n3_ n4_; clear hb hbox hg; obtain ⟨Ao8, co8, eo8⟩ := Kd.R_slice HO249.out; subst eo8; have hcz9_0 : w7.cell? ⟨gb252, 0, none⟩ = some (.slice none 0 0) := (blk_cell BK252.out 0).trans rfl; have hcz9_1 : w7.cell? ⟨gb252, 1, none⟩ = some (.int .i64 0) := (blk_cell BK252.out 1).trans rfl; have hcz9_2 : w7.cell? ⟨gb252, 2, none⟩ = some (.int .i64 0) := (blk_cell BK252.out 2).trans rfl; have hfz9_0 := blk_frozen BK252.out 0; have hfz9_1 := blk_frozen BK252.out 1; have hfz9_2 := blk_frozen BK252.out 2) | (go_at_call 41; (with_reducible refine (taplineref11_Same.calls k _ _ t247 _ _ l1 t253 _ ?side1 ?side2 ?side3 ?side4 A5.out).mono ?_); (case side1 => refine (Kd.R_reads' (e := 38) (base := w.heap.size) (ok := fun k_ => True) (n := t247.length) (c := co8) ?_).2.2; exact (by (with_reducible repeat (first | apply Kd.R_alloc | apply Kd.R_drewN | apply Kd.R_drew)); exact (Kd.R_mono (Kd.R_far (p := ⟨gb252, 2, none⟩) (Kd.R_far (p := ⟨gb252, 1, none⟩) (Kd.R_far (p := ⟨gb252, 0, none⟩) (Kd.R_types HO249.out BK252.out (by decide)) (fun _ hk => hk.2) (.slice Ao8 t247.length co8)) (fun _ hk => hk.2) (.int .i64 t250)) (fun _ hk => hk.2) (.int .i64 t251)) (fun _ h_ => h_.1)))); (case side2 => exact (Kd.R_reads' HO249.out).2.1); (case side3 => exact Kd.C_below HR1.out blw); (case side4 => exact HC1.out); rintro e w' ⟨rfl, ⟨nd, rfl⟩⟩))
  go_ret
  exact ⟨rew, blw⟩
 ·rw [if_neg c4] at H
  have c4b0 : (t251 == 0) = false := beq_eq_false_iff_ne.mpr c4
  have c4b1 : (t251 != 0) = true := bne_iff_ne.mpr c4
  obtain rfl := Option.some.inj H
  go_enter Tryz.func59, Tryz.ntmps59
  go_wp2_with (first | ((with_reducible refine gate_callee (f := 18) rfl ?_); refine goesL_ (some 7) rfl rfl Tryz.func18 (by kernel_rfl) rfl #[.string a0] rfl fq ?_; (with_reducible refine (taplineref11_Scan.calls k a0 t247 t250 t251 _ A3.out).mono ?_); rintro e w10 ⟨v248, rfl, ho0, hb⟩; refine ⟨_, rfl, ?_⟩; have n0_ := Aside0.mk (Kd.R_lower ho0 (below_size blw)); have n1_ := Aside0.mk (below_step blw hb); clear HB; have HO249 := n0_; have HB := n1_; clear n0_ n1_; (try clear hb); (try clear hb2); (try clear hk); (try clear hi); (try clear ho0)) | ((with_reducible refine gate_dst (N := 5) rfl ?_); refine box_event ?hg (N := 5) ?hd (cs := #[.slice none 0 0, .int .i64 0, .int .i64 0]) (t := 28) ?hr ?_; (case hd => rfl); (case hg => rfl); (case hr => first | (go_simp; done) | (go_simp; rfl)); intro gb252 hg w11 hbox hb; have n0_ := Aside0.mk (Kd.R_below (by (with_reducible repeat (first | apply Kd.R_alloc | apply Kd.R_drewN | apply Kd.R_drew)); exact HO249.out) hb); have n1_ := Aside0.mk (below_step blw hb); have n2_ := Aside0.mk (hbox); have n3_ := Aside0.mk ((by rw [hg]; exact (below_size blw) : w.heap.size ≤ gb252)); have n4_ := Aside0.mk ((by rw [hg]; exact (below_size blw) : w.heap.size ≤ gb252)); clear HO249; clear HB; have HO249 := n0_; have HB := n1_; have BK252 := n2_; have GW252 := n3_; have GE252 := n4_; clear n0_ n1_ n2_ n3_ n4_; clear hb hbox hg; obtain ⟨Ao12, co12, eo12⟩ := Kd.R_slice HO249.out; subst eo12; have hcz13_0 : w11.cell? ⟨gb252, 0, none⟩ = some (.slice none 0 0) := (blk_cell BK252.out 0).trans rfl; have hcz13_1 : w11.cell? ⟨gb252, 1, none⟩ = some (.int .i64 0) := (blk_cell BK252.out 1).trans rfl; have hcz13_2 : w11.cell? ⟨gb252, 2, none⟩ = some (.int .i64 0) := (blk_cell BK252.out 2).trans rfl; have hfz13_0 := blk_frozen BK252.out 0; have hfz13_1 := blk_frozen BK252.out 1; have hfz13_2 := blk_frozen BK252.out 2))
  go_ret
  exact ⟨rew, blw⟩
end Go.Proofs.YtadgddipkbdnbaaGreatDoor.Q
