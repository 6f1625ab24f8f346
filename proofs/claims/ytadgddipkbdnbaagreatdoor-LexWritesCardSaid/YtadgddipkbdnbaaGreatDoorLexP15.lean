/- Parts of the proof: see the last text -/
import Derived.Test.YtadgddipkbdnbaaGreatDoorLexP1
import Derived.Test.YtadgddipkbdnbaaGreatDoorLexP2
import Derived.Test.YtadgddipkbdnbaaGreatDoorLexP3
import Derived.Test.YtadgddipkbdnbaaGreatDoorLexP4
import Derived.Test.YtadgddipkbdnbaaGreatDoorLexP5
import Derived.Test.YtadgddipkbdnbaaGreatDoorLexP6
import Derived.Test.YtadgddipkbdnbaaGreatDoorLexP7
import Derived.Test.YtadgddipkbdnbaaGreatDoorLexP8
import Derived.Test.YtadgddipkbdnbaaGreatDoorLexP10
import Derived.Test.YtadgddipkbdnbaaGreatDoorRows
import Derived.ProofKit
import Derived.LaidMore
import Derived.LaidLaws
import Derived.OpenShut
import Derived.ChangeArms
import Derived.Stop.Joined
import Derived.HandedShaped
import Derived.Shelf.Vars
import Derived.Lib.LaidTab
set_option linter.unusedVariables false
set_option linter.unusedSimpArgs false
namespace Go.Proofs.YtadgddipkbdnbaaGreatDoor
open Go.ChangeShapes Go.WideShapes Go.ChangeAt Go.WideMaps Go.WideElems Go.RowKit
section
variable {H : Type} {enc : TypeId × Value → H}
theorem handed_and_shaped {a : Assume} {C : Checked} {os : Os} {f : FuncId} {fn : Func} {s : ChangeSpec} {conds : List PathCond} {apart fresh handsOn again : Bool} {X : World → Array Value → Prop}
  (hX : ∀ (w w' : World) (args : Array Value), w.heap = w'.heap → X w args → X w' args)
  (own : ownKnob C.prog.godebug = none) (started : os.Started) (noInit : C.prog.inits.idxOf? f = none) (hfn : C.prog.funcs[f]? = some fn)
  (witness : ∃ (w : World) (tape : Tape) (i : Input), w.os = os ∧ (w.forCall tape i).Shaped C.prog ∧ i.vars = [] ∧ Input.okWide C.prog (w.forCall tape i) .any w.heap.size f i ∧
   ((s.pre enc C.prog fn conds apart (w.forCall tape i).memory i.args ∧ X (w.forCall tape i).memory i.args) ∧ sizedMet enc C.prog fn (OpenSpec.ofChange s) apart (w.forCall tape i).memory i.args) ∧ a.holds C.prog (lone (Frame.enter C.prog f i.args .normal) [] (w.forCall tape i)))
  (contract : ∀ (W : World) (base : Nat) (args : Array Value) (ds gs : List (DataW H)) (before : List MemPlace),
   (∀ (j : Nat) t v, fn.params[j]? = some t → args[j]? = some v → Value.okWide C.prog W .any base t v) →
   DataW.Whole enc C.prog fn.params.toList s.vars apart W args.toList ds gs before →
   conds.all (PathCond.test C.prog ⟨fn.params.toList, ds, s.plain.varTypes C.prog, gs⟩) = true →
   (DataW.weightsEach C.prog (fn.params.toList ++ s.plain.varTypes C.prog) (ds ++ gs)).all (· ≤ reachBytes) = true → X W args → W.ShapedOpen C.prog →
   a.holds C.prog (lone (Frame.enter C.prog f args .normal) [] W) →
   Calls C.prog f args W fun e W' => ∃ v, e = .returned v ∧ s.post enc C.prog fn apart fresh handsOn again W args v W') :
  ReturnsInHanded a C os f .any (fun w args => (s.pre enc C.prog fn conds apart w args ∧ X w args) ∧ sizedMet enc C.prog fn (OpenSpec.ofChange s) apart w args) (s.post enc C.prog fn apart fresh handsOn again) := by
 refine returnsInHanded_of_calls own started noInit witness ?_
 intro w tape i _ hsh _ hok hpre hholds
 obtain ⟨_, _, _, fn', hfn', _, _, _, _, hval⟩ := hok
 have e : fn' = fn := Option.some.inj (hfn'.symm.trans hfn)
 subst e
 obtain ⟨⟨⟨ds, gs, before, hw, hc⟩, hx⟩, hz⟩ := hpre
 have hw' := DataW.Whole.of_heap (w' := w.forCall tape i) (by rfl) hw
 refine (contract (w.forCall tape i) w.heap.size i.args ds gs before hval hw' hc (hz.weights hw) (hX _ _ _ (by rfl) hx) hsh hholds).mono fun e W' ⟨v, he, hp⟩ => ?_
 subst he
 exact ChangeSpec.post_blind hp
end
def lexLaid : List (String × DataW Unit) := Rows.lexScansRow.laid
theorem laid_at {P : Program} {w : World} : ∀ {l : List (String × DataW Unit)} {ps : List MemPlace}, DataW.LaidVars P w l ps → ∀ n d, (n, d) ∈ l →
  ∃ g t cs fuel p, P.globalNamed n = some g ∧ (P.globals[g]?).map (·.type) = some t ∧ w.var? P n = some cs ∧ DataW.trod (fun _ => ()) P w 0 (fun _ => true) false fuel t cs.toList = some (d, p)
 | [], _, _, n, d, h => by cases h
 | (n0, d0) :: l, ps, h, n, d, hm => by
  obtain ⟨g, t, cs, fuel, p, q, h1, h2, h3, h4, h5, _⟩ := h
  rcases List.mem_cons.1 hm with e | hm
  ·cases e; exact ⟨g, t, cs, fuel, p, h1, h2, h3, h4⟩
  ·exact laid_at h5 n d hm
theorem gSpans : Tryz.prog.globalNamed "tapline/lex.spans" = some 3 := by kernel_rfl
theorem gTab : Tryz.prog.globalNamed "strings.asciiSpace" = some 0 := by kernel_rfl
theorem gSyn : Tryz.prog.globalNamed "strconv.ErrSyntax" = some 4 := by kernel_rfl
theorem gRng : Tryz.prog.globalNamed "strconv.ErrRange" = some 5 := by kernel_rfl
theorem tSpans : (Tryz.prog.globals[3]?).map (·.type) = some 147 := by kernel_rfl
theorem tTab : (Tryz.prog.globals[0]?).map (·.type) = some 118 := by kernel_rfl
theorem uTab : Tryz.prog.underlying 118 = some (.array 256 5) := Tryz.underlying118
theorem tSyn : (Tryz.prog.globals[4]?).map (·.type) = some 87 := by kernel_rfl
theorem tRng : (Tryz.prog.globals[5]?).map (·.type) = some 87 := by kernel_rfl
set_option maxRecDepth 100000 in
theorem span_cells {W : World} {fuel : Nat} {cs : List Value} {a b c : Int} {p : List MemPlace}
  (h : DataW.trod (fun _ => ()) Tryz.prog W 0 (fun _ => true) false fuel 146 cs = some (.agg [.lit (.int .u8 a), .lit (.int .u8 b), .lit (.int .i64 c)], p)) : cs = [.int .u8 a, .int .u8 b, .int .i64 c] := by
 obtain ⟨xs, m, rfl, hx, hlen, hn, hel⟩ := DataW.trod_struct Tryz.underlying146 h
 have c146 : Tryz.prog.cellsOf 146 = 3 := by kernel_rfl
 have c5 : Tryz.prog.cellsOf 5 = 1 := by kernel_rfl
 have c3 : Tryz.prog.cellsOf 3 = 1 := by kernel_rfl
 rw [c146] at hlen
 have h0 := hel 0 _ rfl
 have h1 := hel 1 _ rfl
 have h2 := hel 2 _ rfl
 simp only [Prod.mk.injEq, DataW.agg.injEq] at hx
 match xs, hn, hx, h0, h1, h2 with
 | [x0, x1, x2], _, hx, h0, h1, h2 =>
  simp only [List.map_cons, List.map_nil, List.cons.injEq] at hx
  obtain ⟨k0, e0, f0, _⟩ := DataW.trod_int Tryz.underlying5 (show DataW.trod _ Tryz.prog W 0 _ false m 5 ((cs.drop 0).take (Tryz.prog.cellsOf 5)) = some x0 from h0)
  obtain ⟨k1, e1, f1, _⟩ := DataW.trod_int Tryz.underlying5 (show DataW.trod _ Tryz.prog W 0 _ false m 5 ((cs.drop 1).take (Tryz.prog.cellsOf 5)) = some x1 from h1)
  obtain ⟨k2, e2, f2, _⟩ := DataW.trod_int Tryz.underlying3 (show DataW.trod _ Tryz.prog W 0 _ false m 3 ((cs.drop 2).take (Tryz.prog.cellsOf 3)) = some x2 from h2)
  rw [f0, f1, f2] at hx
  simp only [DataW.lit.injEq, Lit.int.injEq, true_and] at hx
  obtain ⟨⟨rfl, rfl, rfl, _⟩, _⟩ := hx
  rw [c5] at e0 e1
  rw [c3] at e2
  match cs, hlen with
  | [v0, v1, v2], _ =>
   simp at e0 e1 e2
   rw [e0, e1, e2]
set_option maxRecDepth 100000 in
theorem spans_cells {W : World} {fuel : Nat} {cs : List Value} {p : List MemPlace}
  (h : DataW.trod (fun _ => ()) Tryz.prog W 0 (fun _ => true) false fuel 147 cs = some (Rows.laid_tapline_lex_spans, p)) : cs = spansC.toList := by
 obtain ⟨xs, m, rfl, hx, hlen, hn, hel⟩ := DataW.trod_array Tryz.underlying147 h
 have c147 : Tryz.prog.cellsOf 147 = 48 := by kernel_rfl
 have c146 : Tryz.prog.cellsOf 146 = 3 := by kernel_rfl
 rw [c147] at hlen
 rw [c146] at hel
 simp only [Prod.mk.injEq] at hx
 have hx1 := hx.1
 unfold Rows.laid_tapline_lex_spans at hx1
 rw [DataW.agg.injEq] at hx1
 have key : ∀ i, i < 16 → (cs.drop (i * 3)).take 3 = (spansC.toList.drop (i * 3)).take 3 := by
  intro i hi
  have hel' := hel i hi
  obtain ⟨x, hxi⟩ : ∃ x, xs[i]? = some x := ⟨_, List.getElem?_eq_getElem (by omega)⟩
  rw [hxi] at hel'
  have hd : (xs.map (·.1))[i]? = some x.1 := by rw [List.getElem?_map, hxi]; rfl
  rw [← hx1] at hd
  obtain ⟨x1, x2⟩ := x
  rcases (by omega : i = 0 ∨ i = 1 ∨ i = 2 ∨ i = 3 ∨ i = 4 ∨ i = 5 ∨ i = 6 ∨ i = 7 ∨ i = 8 ∨ i = 9 ∨ i = 10 ∨ i = 11 ∨ i = 12 ∨ i = 13 ∨ i = 14 ∨ i = 15) with rfl | rfl | rfl | rfl | rfl | rfl | rfl | rfl | rfl | rfl | rfl | rfl | rfl | rfl | rfl | rfl <;>
   (obtain rfl := Option.some.inj hd; rw [span_cells hel']; rfl)
 apply List.ext_getElem?
 intro j
 by_cases hj : j < 48
 ·have := congrArg (·[j % 3]?) (key (j / 3) (by omega))
  simp only [List.getElem?_take, List.getElem?_drop] at this
  rw [if_pos (by omega), if_pos (by omega), show j / 3 * 3 + j % 3 = j by omega] at this
  exact this
 ·rw [List.getElem?_eq_none (by omega), List.getElem?_eq_none (by show 48 ≤ j; omega)]
theorem var_block {P : Program} {w : World} {n : String} {g : Nat} {cs : Array Value} (hg : P.globalNamed n = some g) (h : w.var? P n = some cs) : ∃ t fr, w.heap[g]? = some (.cells cs t fr) := by
 unfold World.var? at h
 rw [hg] at h
 simp only [Option.bind_some] at h
 cases ho : w.heap[g]? with
 | none => rw [ho] at h; cases h
 | some o =>
  rw [ho] at h
  cases o <;> simp at h
  subst h
  exact ⟨_, _, rfl⟩
set_option maxRecDepth 100000 in
theorem of_laid {W : World} (h : laidMetH Tryz.prog lexLaid W) (hs : W.ShapedOpen Tryz.prog) : GW W := by
 have e : laidMetH Tryz.prog lexLaid W ↔ laidMet Tryz.prog lexLaid W := by rw [MakeChecks.laidMetH_plain _ _ _ (by kernel_rfl)]
 obtain ⟨ps, hv, _, _⟩ := e.1 h
 have mem : ∀ n d, (n, d) ∈ lexLaid → _ := fun n d hm => laid_at hv n d hm
 refine ⟨?_, ?_, ?_, ?_, ?_⟩
 ·obtain ⟨g, t, cs, fuel, p, h1, h2, h3, h4⟩ := mem "tapline/lex.spans" Rows.laid_tapline_lex_spans (by simp [lexLaid, Rows.lexScansRow])
  obtain rfl := Option.some.inj (gSpans.symm.trans h1)
  obtain rfl := Option.some.inj (tSpans.symm.trans h2)
  have hc := spans_cells h4
  obtain ⟨t, fr, hb⟩ := var_block gSpans h3
  obtain ⟨l⟩ := cs
  have : (⟨l⟩ : Array Value) = spansC := by cases hc; rfl
  rw [this] at hb
  exact ⟨t, fr, hb⟩
 ·obtain ⟨g, t, cs, fuel, p, h1, h2, h3, h4⟩ := mem "strings.asciiSpace" Rows.laid_strings_asciiSpace (by simp [lexLaid, Rows.lexScansRow])
  obtain rfl := Option.some.inj (gTab.symm.trans h1)
  obtain rfl := Option.some.inj (tTab.symm.trans h2)
  have hd : (Rows.laid_strings_asciiSpace : DataW Unit) = Lib.tabData .u8 Lib.asciiSpaceTab := by rfl
  rw [hd] at h4
  unfold Lib.TabIs
  rw [h3, ← Lib.cells_of_tab uTab Tryz.underlying5 (by kernel_rfl) (by kernel_rfl) h4]
 ·exact cell_of_shapedOpen_int (t := 3) (zero := #[.int .i64 0]) hs (of_decide_eq_true (by kernel_rfl)) (by kernel_rfl) rfl (by kernel_rfl) (by kernel_rfl) Tryz.underlying3
 ·obtain ⟨g, t, cs, fuel, p, h1, h2, h3, h4⟩ := mem "strconv.ErrSyntax" Rows.laid_strconv_ErrSyntax (by simp [lexLaid, Rows.lexScansRow])
  obtain rfl := Option.some.inj (gSyn.symm.trans h1)
  obtain rfl := Option.some.inj (tSyn.symm.trans h2)
  obtain ⟨_, u, v, hc, _⟩ := iface_of_trod Tryz.underlying87 h4
  have := World.var?_cell gSyn h3 0
  rw [Array.eq_one_of_toList hc] at this
  exact ⟨u, v, by simpa using this⟩
 ·obtain ⟨g, t, cs, fuel, p, h1, h2, h3, h4⟩ := mem "strconv.ErrRange" Rows.laid_strconv_ErrRange (by simp [lexLaid, Rows.lexScansRow])
  obtain rfl := Option.some.inj (gRng.symm.trans h1)
  obtain rfl := Option.some.inj (tRng.symm.trans h2)
  obtain ⟨_, u, v, hc, _⟩ := iface_of_trod Tryz.underlying87 h4
  have := World.var?_cell gRng h3 0
  rw [Array.eq_one_of_toList hc] at this
  exact ⟨u, v, by simpa using this⟩
theorem own : ownKnob Tryz.prog.godebug = none := by kernel_rfl
theorem door_met (os : Os) (args : Array Value) : laidMetH Tryz.prog lexLaid ((World.doorLaid Tryz.prog 400 os).forCall (fun _ _ => 0) ⟨#[], args, []⟩).memory :=
 laidMetH_of_parts3 (fuel := 8) (laidMet_of_run' 8 (by kernel_rfl) (by kernel_rfl)) (by kernel_rfl) (by kernel_rfl)
end Go.Proofs.YtadgddipkbdnbaaGreatDoor
set_option linter.unusedVariables false
set_option linter.unusedSimpArgs false
namespace Go.Proofs.YtadgddipkbdnbaaGreatDoor.Q
open Go.RowKit Go.Proofs.YtadgddipkbdnbaaGreatDoor YtadgddipkbdnbaaGreatDoorW.PrintWords YtadgddipkbdnbaaGreatDoorW.PrintLast
theorem valF_ge : ∀ (base : Nat) (t : List UInt8) (a n : Nat), 1 ≤ base → Lx.valF base a t = some n → a ≤ n
 | base, [], a, n, hb, h => by cases h; exact Nat.le_refl _
 | base, c :: t, a, n, hb, h => by
  rw [Lx.valF] at h
  split at h
  ·have := valF_ge base t _ n hb h
   have : a ≤ base * a := Nat.le_mul_of_pos_left a hb
   omega
  ·cases h
end Go.Proofs.YtadgddipkbdnbaaGreatDoor.Q
