/- For every text that is scanned without an error as at most 500 tokens, the text of each token is a valid one of its kind; the input reads as it did; the package-level variables hold what the program's text lays in them: the tied card. -/
import Derived.Test.YtadgddipkbdnbaaGreatDoorLexP1
import Derived.Test.YtadgddipkbdnbaaGreatDoorLexP2
import Derived.Test.YtadgddipkbdnbaaGreatDoorLexP3
import Derived.Test.YtadgddipkbdnbaaGreatDoorLexP4
import Derived.Test.YtadgddipkbdnbaaGreatDoorLexP7
import Derived.Test.YtadgddipkbdnbaaGreatDoorLexP8
import Derived.Test.YtadgddipkbdnbaaGreatDoorLexP14
import Derived.Test.YtadgddipkbdnbaaGreatDoorLexP15
import Derived.Test.YtadgddipkbdnbaaGreatDoorLexKindsZ1
import Derived.Test.YtadgddipkbdnbaaGreatDoorLexKindsZ2
import Derived.Test.YtadgddipkbdnbaaGreatDoorLexKindsZ3
import Derived.Test.YtadgddipkbdnbaaGreatDoorLexKindsZ4
import Derived.Test.YtadgddipkbdnbaaGreatDoorLexKindsZ5
import Derived.Test.YtadgddipkbdnbaaGreatDoorTie
import Derived.Test.YtadgddipkbdnbaaGreatDoorCards
import Derived.WalkKit
import Derived.ProofKit
import Derived.OpenShut
import Derived.ShutString
import Derived.ChangeOld
import Derived.Below
import Derived.SizedLaws
import Derived.SevenTiedAt
set_option linter.unusedVariables false
set_option linter.unusedSimpArgs false
namespace Go.Proofs.YtadgddipkbdnbaaGreatDoor.Q
open Go.RowKit Go.Proofs.YtadgddipkbdnbaaGreatDoor YtadgddipkbdnbaaGreatDoorW.PrintWords YtadgddipkbdnbaaGreatDoorW.PrintLast
theorem pB_desc' : ∀ c, pB 16 c = Lx.isDescB c := u8_all _ (by decide +kernel)
theorem check_f (x : Lx.K) (d : Bool) (h : Lx.Tokk d x) (hl : x.2.length ≤ 20000) (a : Int) (k : Nat) : lex_Check.f (k + 1) x.1 (strS x.2) a = some 0 := by
 unfold lex_Check.f
 have hz : (strS x.2).size = x.2.length := rfl
 by_cases h6 : x.1 = 6
 ·rw [if_pos h6, if_pos (by omega)]
  obtain ⟨hd, h7, h8⟩ := Lx.tokk_desc h h6
  rw [hd] at h
  obtain ⟨p1, p2⟩ := Lx.probe_desc h h8
  have ed : ((⟨#[112, 114, 111, 98, 101, 32]⟩ : ByteArray) ++ strS x.2).data.toList = [112, 114, 111, 98, 101, 32] ++ x.2 := by
   rw [ByteArray.data_append, Array.toList_append]; rfl
  simp only [lex_Scan.f, Option.bind_some]
  rw [ed]
  generalize Lx.scan ([112, 114, 111, 98, 101, 32] ++ x.2) = sc at p1 p2
  obtain ⟨l, at_, e⟩ := sc
  simp only at p1 p2 ⊢
  match l with
  | [] => cases p2
  | [b] => simp at p2
  | b :: c :: u :: l => simp at p2
  | [b, c] =>
   simp only [List.map_cons, List.map_nil, List.cons.injEq, and_true] at p2
   obtain ⟨-, p3⟩ := p2
   have e0 : rd_T38 ([b, c].map tokS) 1 = tokS c := rfl
   have e1 : ((tokS c).f1).toList = c.text := strS_list _
   have e2 : (tokS c).f0 = c.kind := rfl
   have e3 : c.kind = 6 := by rw [← h6, ← p3]; rfl
   have e4 : c.text = x.2 := by rw [← p3]; rfl
   rw [if_pos p1, e0, e1, e2, if_pos (show ((([b, c].map tokS).length : Nat) : Int) = 2 from rfl), if_pos (show (1 : Int) < ((([b, c].map tokS).length : Nat) : Int) by simp), if_pos e3, e4, strS_list]
   simp only [beq_self_eq_true, lex_Check.j0, if_true]
 ·rw [if_neg h6, if_neg (Lx.kind_range h.1), kind_f]
  simp only [Option.bind_some]
  have : Lx.kindM (strS x.2).data.toList = x.1 := Lx.kindM_of (Lx.tokk_plain h h6) hl
  rw [this, if_pos rfl]
theorem isDesc_f (x : Lx.K) (d : Bool) (h : Lx.Tokk d x) (h6 : x.1 = 6) : lex_IsDesc.f (strS x.2) = some true := by
 obtain ⟨hd, h7, h8⟩ := Lx.tokk_desc h h6
 have hz : (strS x.2).size = x.2.length := rfl
 have hp : 0 < x.2.length := List.length_pos_iff.2 h.2.1
 unfold lex_IsDesc.f lex_run.f
 rw [if_pos (by omega), if_pos (by omega), if_pos (by refine ⟨by omega, by omega, by omega⟩)]
 simp only [Option.bind_some]
 have : runEnd (pB 16) (strS x.2).data.toList (0 : Int).toNat = x.2.length := by
  show 0 + (((strS x.2).data.toList.drop 0).takeWhile (pB 16)).length = _
  rw [List.drop_zero, show pB 16 = Lx.isDescB from funext pB_desc', Nat.zero_add]
  exact congrArg List.length h7
 rw [this, hz]
 simp
theorem kinds_l0 (l : List Lx.Tok) (hl : l.length ≤ 4000) (ht : ∀ x ∈ l.map Lx.ktM, (∃ d, Lx.Tokk d x) ∧ x.2.length ≤ 20000) : ∀ n i, i ≤ l.length → l.length - i = n → ∀ k, n + 1 < k → taplinelaw11_LexKinds.l0 k true (l.map tokS) (i : Int) = some true := by
 intro n
 induction n with
 | zero =>
  intro i hi hn k hk
  obtain ⟨k, rfl⟩ : ∃ m, k = m + 1 := ⟨k - 1, by omega⟩
  rw [taplinelaw11_LexKinds.l0, if_neg (by rw [List.length_map]; omega)]
 | succ n ih =>
  intro i hi hn k hk
  obtain ⟨k, rfl⟩ : ∃ m, k = m + 2 := ⟨k - 2, by omega⟩
  have hlt : i < l.length := by omega
  have e0 : rd_T38 (l.map tokS) (i : Int) = tokS l[i] := by
   unfold rd_T38
   rw [Int.toNat_natCast, List.getD_eq_getElem?_getD, List.getElem?_map, List.getElem?_eq_getElem hlt]
   rfl
  obtain ⟨⟨d, hd⟩, hsz⟩ := ht (Lx.ktM l[i]) (List.mem_map_of_mem (List.getElem_mem hlt))
  have e1 := check_f (Lx.ktM l[i]) d hd hsz (tokS l[i]).f2 k
  have e2 : ((i : Int) + 1) = ((i + 1 : Nat) : Int) := by omega
  have ih' := ih (i + 1) (by omega) (by omega) (k + 1) (by omega)
  rw [taplinelaw11_LexKinds.l0, if_pos (by rw [List.length_map]; omega), if_pos (by omega), e0]
  have e3 : lex_Check.f (k + 1) (tokS l[i]).f0 (tokS l[i]).f1 (tokS l[i]).f2 = some 0 := e1
  rw [e3]
  simp only [Option.bind_some, if_true]
  rw [wrapn (by omega) (by omega), e2]
  by_cases h6 : (tokS l[i]).f0 = 6
  ·rw [if_pos h6]
   have e4 : lex_IsDesc.f (tokS l[i]).f1 = some true := isDesc_f (Lx.ktM l[i]) d hd h6
   rw [e4]
   simp only [Option.bind_some, if_true]
   exact ih'
  ·rw [if_neg h6, kind_f]
   have e4 : Lx.kindM (tokS l[i]).f1.data.toList = (tokS l[i]).f0 := Lx.kindM_of (x := Lx.ktM l[i]) (Lx.tokk_plain hd h6) hsz
   rw [e4]
   simp only [Option.bind_some, if_true]
   exact ih'
theorem sum_ge {l : List Nat} {a : Nat} (h : a ∈ l) : a ≤ l.sum := by
 induction l with
 | nil => cases h
 | cons b l ih =>
  rw [List.sum_cons]
  rcases List.mem_cons.1 h with h | h
  ·omega
  ·have := ih h; omega
theorem LexKinds_pure : taplinelaw11_LexKinds.Pure := by
 intro s hs
 refine ⟨5000, ?_⟩
 simp only [taplinelaw11_LexKinds.f, sane_t.f, lex_Scan.f, Option.bind_some]
 by_cases es : (Lx.scan s.data.toList).2.2 = 0
 ·rw [if_pos es, List.length_map]
  obtain ⟨h1, h2, f, h3, h4⟩ := Lx.scan_to es
  by_cases hm : ((Lx.scan s.data.toList).1.length : Int) > 500
  ·rw [decide_eq_true hm]
   simp only [taplinelaw11_LexKinds.j0, if_true]
  ·rw [decide_eq_false hm]
   show taplinelaw11_LexKinds.j0 (4999 + 1) _ _ _ = _
   rw [taplinelaw11_LexKinds.j0, if_neg (by decide)]
   have ht := h3.texts
   refine kinds_l0 _ h2 (fun x hx => ⟨h3.toks x hx, ?_⟩) _ 0 (by omega) rfl 4999 (by omega)
   have := sum_ge (List.mem_map_of_mem (f := fun x : Lx.K => x.2.length) hx)
   omega
 ·rw [if_neg es]
  show taplinelaw11_LexKinds.j0 (4999 + 1) _ _ _ = _
  rw [taplinelaw11_LexKinds.j0, if_pos rfl]
end Go.Proofs.YtadgddipkbdnbaaGreatDoor.Q
set_option linter.unusedVariables false
set_option linter.unusedSimpArgs false
namespace Go.Proofs.YtadgddipkbdnbaaGreatDoor.lexKinds
open Go.ChangeShapes Go.WideShapes Go.ChangeAt Go.RowKit
open Go.ChangeMaps (open_string shut_string)
set_option maxRecDepth 100000 in
theorem lifted (os : Os) (started : os.Started) (H : Type) (enc : TypeId × Value → H) :
  ReturnsInHanded {} Tryz.checked os 15 .any (fun w args => (Rows.lexKindsSpec.pre enc Tryz.prog Tryz.f15 [] false w args ∧ laidMetH Tryz.prog lexLaid w) ∧ sizedMet enc Tryz.prog Tryz.f15 (OpenSpec.ofChange Rows.lexKindsSpec) false w args)
   (Rows.lexKindsSpec.post enc Tryz.prog Tryz.f15 false true false false) := by
 refine handed_and_shaped (C := Tryz.checked) (X := fun w _ => laidMetH Tryz.prog lexLaid w) (fun _ _ _ hh h => h.of_heap hh) own started (by kernel_rfl) Tryz.func15
  (ChangeSpec.witness_shaped (enc := enc) (C := Tryz.checked) (os := os) (X := fun w _ => laidMetH Tryz.prog lexLaid w) false (World.doorLaid Tryz.prog 400 os) #[.string ByteArray.empty] 8 rfl (World.shaped_of_RefB (by kernel_rfl) (by kernel_rfl)) (by kernel_rfl) (by kernel_rfl) (by kernel_rfl) (door_met os _)) ?_
 intro W base args ds gs before hval0 hW hcnd hsz0 hL hsh _
 have hgw := of_laid hL hsh
 clear hL hsh
 have hsz : (DataW.weightsEach Tryz.prog (Tryz.f15.params.toList ++ Rows.lexKindsSpec.plain.varTypes Tryz.prog) (ds ++ gs)).all (· ≤ reachBytes) = true := hsz0
 have hval : ∀ (j : Nat) t v, Tryz.f15.params[j]? = some t → args[j]? = some v → Value.okWide Tryz.prog W .any base t v := hval0
 have hW' := hW
 obtain ⟨p, q, hA0, hV, rfl, hfz, hnd⟩ := hW
 have hA : DataW.TrodAll enc Tryz.prog W 0 (fun _ => true) true Tryz.f15.params.toList args.toList ds p := hA0
 rw [Tryz.params15] at hA hval hsz
 obtain ⟨v0, vs0, d0, ds0, p0, q0, hargs, rfl, rfl, h0, r0⟩ := trodAll_cons hA
 obtain ⟨rfl, rfl, rfl⟩ := trodAll_nil r0
 obtain rfl : args = #[v0] := by cases args; simp_all
 obtain ⟨rfl, rfl⟩ := trodVars_none hV
 obtain ⟨a0, rfl, rfl, rfl, y0⟩ := open_string Tryz.underlying9 (hval 0 9 v0 rfl rfl) h0
 have w0 : a0.size ≤ 140737488351232 := by
  have z := sized_string hsz (j := 0) (t := 9) rfl rfl
  rw [Array.length_toList] at z
  exact z
 clear hA0 hval0 hsz0 hsz
 refine (Q.taplinelaw11_LexKinds.walk Q.LexKinds_pure a0 W w0 hgw).mono fun e W' ⟨he, bel⟩ => ?_
 subst he
 exact ⟨_, rfl, _, _, _, [], _, [], hW', trodAll_mk1 (shut_bool Tryz.underlying4 _), (trodAll_cons_mk (shut_string Tryz.underlying9 y0) trodAll_mk0), rfl, bel.frame _, fun h => by cases h⟩
theorem over : Rows.LexKindsSaid :=
 OpenClaim.holds_of_wide 15 Tryz.f15 rfl rfl rfl rfl rfl rfl rfl ⟨rfl, rfl, rfl, rfl, rfl⟩ rfl rfl rfl rfl rfl (by kernel_rfl) Tryz.func15 (by kernel_rfl)
  (of_decide_eq_true (by kernel_rfl)) (by unfold Func.isWrapper; first | (rw [if_pos (by decide +kernel)]; kernel_rfl) | (rw [if_neg (by decide +kernel)]; exact ⟨rfl, rfl⟩))
  (fun os started H enc _ => lifted os started H enc)
end Go.Proofs.YtadgddipkbdnbaaGreatDoor.lexKinds
namespace Go.Proofs.YtadgddipkbdnbaaGreatDoor
theorem lexKinds_card : Rows.LexKindsCardSaid :=
 Claim7.holds_tied_plain_at .later [] [.data, .data, .data, .sentinel, .sentinel, .listed, .data, .data] true (true, "85ed3a9bdcdf405d5b0a35b2759147de3913577c107b7173cad54d4ee995d561") true
  lexKinds.over (fun _ h => by cases h) (by kernel_rfl) (fun _ h => by cases h) lexKinds_row_tie rfl ⟨rfl, rfl⟩ (by kernel_rfl) rfl
  (fun f fn hf hfn => by
   obtain rfl : f = 15 := Option.some.inj ((show Tryz.prog.funcNamed "tapline/taplinelaw11.LexKinds" = some 15 by kernel_rfl).symm.trans hf) |>.symm
   obtain rfl : fn = Tryz.f15 := (Option.some.inj (Tryz.func15.symm.trans hfn)).symm
   exact ⟨by kernel_rfl, fun j t ht => by
    rw [Tryz.params15] at ht
    have hm : t ∈ [9] := by simpa using Array.mem_of_getElem? ht
    have hall : ([9].all fun u => !Tryz.prog.wantsStandIn u) = true := by kernel_rfl
    exact (show Tryz.prog.wantsStandIn t = false by simpa using List.all_eq_true.1 hall t hm)⟩)
  (by kernel_rfl)
#print axioms lexKinds_card
end Go.Proofs.YtadgddipkbdnbaaGreatDoor
