/- Parts of the proof: see the last text -/
import Derived.Test.YtadgddipkbdnbaaGreatDoorLexP1
import Derived.Test.YtadgddipkbdnbaaGreatDoorLexP2
import Derived.Test.YtadgddipkbdnbaaGreatDoorLexP3
set_option linter.unusedVariables false
set_option linter.unusedSimpArgs false
namespace Go.Proofs.YtadgddipkbdnbaaGreatDoor.Q
open Go.RowKit Go.Proofs.YtadgddipkbdnbaaGreatDoor YtadgddipkbdnbaaGreatDoorW.PrintWords YtadgddipkbdnbaaGreatDoorW.PrintLast
def kt (t : S38) : Int × List UInt8 := (t.f0, t.f1.data.toList)
theorem kt_eq (x y : S38) : (kt x = kt y) ↔ (x.f0 = y.f0 ∧ x.f1.toList = y.f1.toList) := by
 unfold kt
 rw [Prod.mk.injEq, ByteArray.toList_eq, ByteArray.toList_eq]
theorem same1_any (x y : S38) (w : World) :
  Calls Tryz.prog 63 #[.agg #[.int .i64 x.f0, .string x.f1, .int .i64 x.f2], .agg #[.int .i64 y.f0, .string y.f1, .int .i64 y.f2]] w fun e w' => e = .returned (.bool (decide (kt x = kt y))) ∧ Below w.heap.size w w' := by
 have HK := Lib.hid (kt_eq x y)
 have hB : ∀ a b : Obj, Below w.heap.size w ((w.alloc a).alloc b) := fun a b => ((Below.refl _ _).alloc (Nat.le_refl _) _).alloc (by simp) _
 by_cases h0 : x.f0 = y.f0
 ·by_cases h1 : x.f1.toList = y.f1.toList
  ·have H0 := Lib.hid h0
   have H1 := Lib.hid h1
   go_enter Tryz.func63, Tryz.ntmps63
   go_wp2
   go_ret
   exact ⟨ret_bool (decide_eq_true (HK.out.2 ⟨H0.out, H1.out⟩)).symm, hB _ _⟩
  ·have h1' : (x.f1.toList == y.f1.toList) = false := by simpa using h1
   have H1 := Lib.hid h1
   clear h1
   go_enter Tryz.func63, Tryz.ntmps63
   go_wp2
   go_ret
   exact ⟨ret_bool (decide_eq_false (fun h => H1.out (HK.out.1 h).2)).symm, hB _ _⟩
 ·have H0 := Lib.hid h0
  go_enter Tryz.func63, Tryz.ntmps63
  go_wp2
  go_ret
  exact ⟨ret_bool (decide_eq_false (fun h => H0.out (HK.out.1 h).1)).symm, hB _ _⟩
theorem kt_getD (l : List S38) (i : Nat) (h : i < l.length) : (l.map kt)[i]? = some (kt (l.getD i z38)) := by
 rw [List.getElem?_map, List.getD_eq_getElem?_getD, List.getElem?_eq_getElem h]
 rfl
theorem kt_drop (l : List S38) (i : Nat) (h : i < l.length) : (l.map kt).drop i = kt (l.getD i z38) :: (l.map kt).drop (i + 1) := by
 rw [List.drop_eq_getElem_cons (by simpa using h), List.getD_eq_getElem?_getD, List.getElem?_eq_getElem h, List.getElem_map]
 rfl
set_option maxHeartbeats 2000000 in
theorem eqf_any (A0 : Option Addr) (c0 : Nat) (l0 : List S38) (A1 : Option Addr) (c1 : Nat) (l1 : List S38) (w : World) (hr0 : Kd.C k38 w A0 l0.length l0) (hr1 : Kd.C k38 w A1 l1.length l1) :
  Calls Tryz.prog 62 #[.slice A0 l0.length c0, .slice A1 l1.length c1, .func (.func 63) #[] #[]] w fun e w' => e = .returned (.bool (decide (l0.map kt = l1.map kt))) ∧ Below w.heap.size w w' := by
 by_cases hl : l0.length = l1.length
 ·have hn := hr0.2.1
  obtain ⟨n, hn0⟩ : ∃ n, n = l0.length := ⟨_, rfl⟩
  have hn1 : n = l1.length := by omega
  rw [← hn0] at hn
  have at0 := fun (W : World) (hb : Below w.heap.size w W) (k : Nat) (hk : k < n) => at_T38 (Kd.C_below hr0 hb) (k : Int) (by omega) (by omega)
  have at1 := fun (W : World) (hb : Below w.heap.size w W) (k : Nat) (hk : k < n) => at_T38 (Kd.C_below hr1 hb) (k : Int) (by omega) (by omega)
  obtain ⟨hr0', hr1'⟩ : Aside0 (Kd.C k38 w A0 l0.length l0) ∧ Aside0 (Kd.C k38 w A1 l1.length l1) := ⟨⟨hr0⟩, ⟨hr1⟩⟩
  rw [← hn1, ← hn0]
  have HN0 := Lib.hid hn0
  have HN1 := Lib.hid hn1
  clear hn0 hn1 hl hr0 hr1
  go_enter Tryz.func62, Tryz.ntmps62
  go_wp2
  go_loopw [17] (fun i wr => ∃ k : Nat, k ≤ n ∧ i = .int .i64 k ∧ Hid ((l0.map kt).take k = (l1.map kt).take k) ∧ Below w.heap.size w wr) (fun i _ => n - (intOf i).toNat)
  case atStart => exact ⟨0, by omega, rfl, Lib.hid rfl, Below.refl _ _⟩
  case round =>
   obtain ⟨k, hk, rfl, HE, hb⟩ := hrel
   by_cases hlk : k < n
   ·obtain ⟨ad, rfl, p0, p1, p2⟩ := at0 wr hb k hlk
    obtain ⟨bd, rfl, q0, q1, q2⟩ := at1 wr hb k hlk
    clear at0 at1
    have hcmp : (rd_T38 l0 (k : Int)) = l0.getD k z38 ∧ (rd_T38 l1 (k : Int)) = l1.getD k z38 := ⟨rfl, rfl⟩
    rw [hcmp.1] at p0 p1 p2
    rw [hcmp.2] at q0 q1 q2
    clear hcmp
    obtain ⟨x, hx⟩ : ∃ x, x = l0.getD k z38 := ⟨_, rfl⟩
    obtain ⟨y, hy⟩ : ∃ y, y = l1.getD k z38 := ⟨_, rfl⟩
    rw [← hx] at p0 p1 p2
    rw [← hy] at q0 q1 q2
    have HX := Lib.hid hx
    have HY := Lib.hid hy
    clear hx hy
    simp only [Int.toNat_natCast] at p0 p1 p2 q0 q1 q2
    have adlt := World.block_lt_of_cell? _ _ p0
    have bdlt := World.block_lt_of_cell? _ _ q0
    have hs := same1_any x y
    have d0 := kt_drop l0 k (by rw [← HN0.out]; exact hlk)
    have d1 := kt_drop l1 k (by rw [← HN1.out]; exact hlk)
    rw [← HX.out] at d0
    rw [← HY.out] at d1
    by_cases hxy : kt x = kt y
    ·rw [decide_eq_true hxy] at hs
     have HT : Hid ((l0.map kt).take (k + 1) = (l1.map kt).take (k + 1)) := Lib.hid (by
      rw [List.take_add_one, List.take_add_one, HE.out, kt_getD l0 k (by rw [← HN0.out]; exact hlk), kt_getD l1 k (by rw [← HN1.out]; exact hlk), ← HX.out, ← HY.out, hxy])
     clear hxy d0 d1
     go_wp2_with (go_at_call 63; refine (hs _).mono ?_; rintro e w1 ⟨rfl, hb1⟩)
     go_roundw
     case rel => exact ⟨k + 1, by omega, by go_num, HT, hb.trans ((((Below.refl _ _).alloc (Nat.le_refl _) _).alloc (by simp) _).trans (hb1.mono (by simp; omega)) |>.mono hb.size)⟩
     case measure => simp [intOf]; omega
    ·rw [decide_eq_false hxy] at hs
     have HT : Hid (¬ l0.map kt = l1.map kt) := Lib.hid (fun e => by
      rw [e] at d0
      rw [d0] at d1
      exact hxy (List.cons.inj d1).1)
     clear hxy d0 d1
     go_wp2_with (go_at_call 63; refine (hs _).mono ?_; rintro e w1 ⟨rfl, hb1⟩)
     go_ret
     exact ⟨ret_bool (decide_eq_false HT.out).symm, hb.trans ((((Below.refl _ _).alloc (Nat.le_refl _) _).alloc (by simp) _).trans (hb1.mono (by simp; omega)) |>.mono hb.size)⟩
   ·obtain rfl : k = n := by omega
    have HT : Hid (l0.map kt = l1.map kt) := Lib.hid (by
     have e := HE.out
     rwa [List.take_of_length_le (by simp [← HN0.out]), List.take_of_length_le (by simp [← HN1.out])] at e)
    clear at0 at1
    go_wp2
    go_ret
    exact ⟨ret_bool (decide_eq_true HT.out).symm, hb⟩
 ·have HT : Hid (¬ l0.map kt = l1.map kt) := Lib.hid (fun e => hl (by simpa using congrArg List.length e))
  have hl' : ((l0.length : Int) == (l1.length : Int)) = false := by rw [beq_eq_false_iff_ne]; omega
  have HL := Lib.hid hl
  clear hl
  have hr0' := Lib.hid hr0
  have hr1' := Lib.hid hr1
  clear hr0 hr1
  go_enter Tryz.func62, Tryz.ntmps62
  go_wp2
  go_ret
  exact ⟨ret_bool (decide_eq_false HT.out).symm, Below.refl _ _⟩
theorem same_any (A0 : Option Addr) (c0 : Nat) (l0 : List S38) (A1 : Option Addr) (c1 : Nat) (l1 : List S38) (w : World) (hr0 : Kd.C k38 w A0 l0.length l0) (hr1 : Kd.C k38 w A1 l1.length l1) :
  Calls Tryz.prog 28 #[.slice A0 l0.length c0, .slice A1 l1.length c1] w fun e w' => e = .returned (.bool (decide (l0.map kt = l1.map kt))) ∧ Below w.heap.size w w' := by
 have h := eqf_any A0 c0 l0 A1 c1 l1 w hr0 hr1
 clear hr0 hr1
 go_enter Tryz.func28, Tryz.ntmps28
 go_wp2_with (go_at_call 62; refine h.mono ?_; rintro e w1 ⟨rfl, hb1⟩)
 go_ret
 exact ⟨rfl, hb1⟩
end Go.Proofs.YtadgddipkbdnbaaGreatDoor.Q
set_option linter.unusedVariables false
set_option linter.unusedSimpArgs false
namespace Go.Proofs.YtadgddipkbdnbaaGreatDoor.Q
open Go.RowKit Go.Proofs.YtadgddipkbdnbaaGreatDoor YtadgddipkbdnbaaGreatDoorW.PrintWords YtadgddipkbdnbaaGreatDoorW.PrintLast
def tokS (t : Lx.Tok) : S38 := ⟨t.kind, ⟨t.text.toArray⟩, (t.at_ : Int)⟩
def strS (l : List UInt8) : ByteArray := ⟨l.toArray⟩
def lex_Scan.f (a0 : ByteArray) : Option (List S38 × Int × Int) := some ((Lx.scan a0.data.toList).1.map tokS, ((Lx.scan a0.data.toList).2.1 : Int), (Lx.scan a0.data.toList).2.2)
def lex_character.f (a0 : ByteArray) (a1 : Int) : Option (Int × Int × Bool) :=
 if a0.size ≤ 140737488355328 ∧ 0 ≤ a1 ∧ a1 ≤ (a0.size : Int) then (Lx.char (a0.data.toList.drop a1.toNat)).map fun r => ((r.1.toNat : Int), a1 + r.2, true) else none
def lex_integer.f (a0 : ByteArray) : Option (Int × Bool × Bool) :=
 if a0.size ≤ 140737488355328 then (Lx.integer a0.data.toList).map fun r => (wrap64 r.1, r.2, true) else none
def strings_Join.f (l0 : List ByteArray) (a1 : ByteArray) : Option ByteArray :=
 if l0.length ≤ 140737488355328 ∧ (Lib.join (l0.map (·.data.toList)) a1.data.toList).length ≤ 140737488355328 then some ⟨(Lib.join (l0.map (·.data.toList)) a1.data.toList).toArray⟩ else none
def lex_Same.f (l0 l1 : List S38) : Option Bool := some (decide (l0.map kt = l1.map kt))
def colB (l : List UInt8) : Nat := (l.reverse.takeWhile (· != 10)).length + 1
def lex_Place.f (a0 : ByteArray) (a1 : Int) : Option (Int × Int × Int) :=
 if a0.size ≤ 140737488355328 then (if a1 < 0 ∨ (a0.size : Int) < a1 then some (0, 0, 1) else some (((a0.data.toList.take a1.toNat).count 10 : Nat) + 1, (colB (a0.data.toList.take a1.toNat) : Int), 0)) else none
def escB (c : UInt8) : List UInt8 :=
 if c = 10 then [92, 110] else if c = 9 then [92, 116] else if c = 13 then [92, 114] else if c = 92 ∨ c = 34 then [92, c]
 else if 32 ≤ c ∧ c ≤ 126 then [c] else [92, 120, if c / 16 < 10 then 48 + c / 16 else 87 + c / 16, if c % 16 < 10 then 48 + c % 16 else 87 + c % 16]
def quoteB (l : List UInt8) : List UInt8 := 34 :: (l.flatMap escB ++ [34])
def lex_Quote.f (a0 : ByteArray) : Option (ByteArray × Int) :=
 if a0.size > 64 then some (⟨#[]⟩, 2) else if 0 ∈ a0.data.toList then some (⟨#[]⟩, 1) else some (strS (quoteB a0.data.toList), 0)
end Go.Proofs.YtadgddipkbdnbaaGreatDoor.Q
set_option linter.unusedVariables false
set_option linter.unusedSimpArgs false
namespace Go.Proofs.YtadgddipkbdnbaaGreatDoor.Q
open Go.RowKit Go.Proofs.YtadgddipkbdnbaaGreatDoor YtadgddipkbdnbaaGreatDoorW.PrintWords YtadgddipkbdnbaaGreatDoorW.PrintLast
theorem reps_flat {α : Type} {R : α → List Value → Prop} {size : Nat} (f : α → List Value) (hl : ∀ p, (f p).length = size) (hR : ∀ p, R p (f p)) (ps : List α) : Reps R size ps (ps.flatMap f) := by
 have key : ∀ n, n ≤ ps.length → Reps R size (ps.take n) ((ps.take n).flatMap f) := by
  intro n
  induction n with
  | zero => intro _; exact Reps.none _ _
  | succ n ih =>
   intro hn
   rw [List.take_add_one, List.getElem?_eq_getElem (by omega)]
   simp only [Option.toList_some, List.flatMap_append, List.flatMap_cons, List.flatMap_nil, List.append_nil]
   exact (ih (by omega)).snoc (hR _) (hl _)
 simpa using key ps.length (Nat.le_refl _)
theorem strings_Join.calls (A0 : Option Addr) (c0 : Nat) (l0 : List ByteArray) (a1 : ByteArray) (r : ByteArray) (w : World) (hr0 : Kd.C Kd.string w A0 l0.length l0) (hc0 : l0.length ≤ c0) (h : strings_Join.f l0 a1 = some r) :
  Calls Tryz.prog 57 #[.slice A0 l0.length c0, .string a1] w fun e w' => e = .returned (.string r) ∧ Below w.heap.size w w' := by
 unfold strings_Join.f at h
 split at h
 ·rename_i hc
  obtain ⟨h1, h2⟩ := hc
  cases h
  cases l0 with
  | nil =>
   refine (Tryz.strings_Join_none A0 c0 a1 w).mono ?_
   rintro e w' ⟨rfl, rfl⟩
   exact ⟨rfl, Below.refl _ _⟩
  | cons x l =>
   obtain ⟨⟨bk, o, sp⟩, rfl, hcells⟩ := hr0.2.2 (by simp)
   have hcell : ∀ (j : Nat) y, (x :: l)[j]? = some y → w.cell? ((⟨bk, o, sp⟩ : Addr).add (j * 1 + 0)) = some (.string y) := fun j y hj => by
    obtain ⟨c, _, hK, hc⟩ := hcells j y hj
    obtain rfl : c = [Value.string y] := hK
    exact hc 0 _ rfl
   have h0 := hcell 0 x rfl
   have hsp : sp = none := by
    cases sp with
    | none => rfl
    | some q =>
     have : w.cell? ⟨bk, o, some q⟩ = none := by
      unfold World.cell?
      split <;> simp
     rw [show ((⟨bk, o, some q⟩ : Addr).add (0 * 1 + 0)) = ⟨bk, o, some q⟩ from rfl, this] at h0
     cases h0
   subst hsp
   refine Tryz.strings_Join bk o c0 (x :: l) a1 w (fun j y hj => ?_) (World.block_lt_of_cell? _ _ h0) h1 hc0 h2
   have := hcell j y hj
   rw [Nat.mul_one, Nat.add_zero] at this
   rw [← this]
   unfold Addr.add
   split
   ·rename_i e; rw [e]; rfl
   ·rfl
 ·cases h
theorem lex_Same.calls (A0 : Option Addr) (c0 : Nat) (l0 : List (S38)) (A1 : Option Addr) (c1 : Nat) (l1 : List (S38)) (r : Bool) (w : World) (hr0 : Kd.C k38 w A0 l0.length l0) (hc0 : l0.length ≤ c0) (hr1 : Kd.C k38 w A1 l1.length l1) (hc1 : l1.length ≤ c1) (h : lex_Same.f l0 l1 = some r) :
  Calls Tryz.prog 28 #[.slice A0 l0.length c0, .slice A1 l1.length c1] w fun e w' => e = .returned (.bool r) ∧ Below w.heap.size w w' := by
 cases h
 exact same_any A0 c0 l0 A1 c1 l1 w hr0 hr1
theorem colB_snoc (l : List UInt8) (c : UInt8) : colB (l ++ [c]) = if c = 10 then 1 else colB l + 1 := by
 unfold colB
 rw [List.reverse_append]
 simp only [List.reverse_cons, List.reverse_nil, List.nil_append, List.cons_append, List.takeWhile_cons]
 by_cases h : c = 10
 ·simp [h]
 ·simp [h]
theorem lastIdx_col (s : ByteArray) : ∀ k : Nat, k ≤ s.size → (k : Int) - Lib.lastIdx s 10 k = (colB (s.data.toList.take k) : Nat)
 | 0, _ => by simp [Lib.lastIdx, colB]
 | k + 1, hk => by
  have hk' : k < s.data.toList.length := by rw [← Lib.size_eq]; omega
  have e : s.data.toList.take (k + 1) = s.data.toList.take k ++ [s.data.toList[k]] := by rw [List.take_add_one, List.getElem?_eq_getElem hk']; rfl
  have e2 : s.data[k]! = s.data.toList[k] := by simp at hk' ⊢; rw [getElem!_pos s.data k hk']
  have ih := lastIdx_col s k (by omega)
  rw [e, colB_snoc, Lib.lastIdx, e2]
  by_cases h : s.data.toList[k] = 10
  ·rw [if_pos h, if_pos (by rw [h]; rfl)]; omega
  ·rw [if_neg h, if_neg (fun h' => h (UInt8.toNat_inj.1 (by have : (10 : UInt8).toNat = 10 := rfl; omega)))]
   omega
theorem ret_iii {a a' b b' c : Int} (h1 : a = a') (h2 : b = b') : Ending.returned (.tuple #[.int .i64 a, .int .i64 b, .int .i64 c]) = .returned (.tuple #[.int .i64 a', .int .i64 b', .int .i64 c]) := by rw [h1, h2]
set_option maxRecDepth 100000 in
set_option maxHeartbeats 1000000 in
theorem lex_Place.calls (a0 : ByteArray) (a1 : Int) (r1 r2 r3 : Int) (w : World) (h : lex_Place.f a0 a1 = some (r1, r2, r3)) (hgw : GW w) :
  Calls Tryz.prog 26 #[.string a0, .int .i64 a1] w fun e w' => e = .returned (.tuple #[.int .i64 r1, .int .i64 r2, .int .i64 r3]) ∧ Below w.heap.size w w' := by
 unfold lex_Place.f at h
 split at h
 ·rename_i hs
  split at h
  ·rename_i hb
   cases h
   have HS := Lib.hid hs
   clear hs
   by_cases h1 : a1 < 0
   ·clear hb
    go_enter Tryz.func26, Tryz.ntmps26
    go_wp2
    go_ret3
    exact ⟨rfl, Below.refl _ _⟩
   ·have h2 : (a0.size : Int) < a1 := by omega
    clear hb
    go_enter Tryz.func26, Tryz.ntmps26
    go_wp2
    go_ret3
    exact ⟨rfl, Below.refl _ _⟩
  ·rename_i hb
   cases h
   have h0 : 0 ≤ a1 := by omega
   obtain ⟨n, rfl⟩ := Int.eq_ofNat_of_zero_le h0
   have hn : (n : Int) ≤ a0.size := by omega
   have hn' : n ≤ a0.size := by omega
   have hcount := Tryz.strings_Count_one (a0.extract 0 n) 10
   have hlast := Tryz.strings_LastIndexByte (a0.extract 0 n) 10 (by rw [ByteArray.size_extract]; omega)
   obtain ⟨q, hq⟩ : ∃ q, q = a0.extract 0 n := ⟨_, rfl⟩
   have hql : q.data.toList = a0.data.toList.take n := by rw [hq]; simp
   have hqs : q.size = n := by rw [hq, ByteArray.size_extract]; omega
   have hcb : Lib.countByte q.data.toList 10 = ((q.data.toList.count 10 : Nat) : Int) := rfl
   have hcol := lastIdx_col q q.size (Nat.le_refl _)
   rw [← hq] at hcount hlast
   rw [show Lib.lastIndexByte q 10 = Lib.lastIdx q 10 q.size from rfl] at hlast
   rw [hcb] at hcount
   obtain ⟨li, hli⟩ : ∃ li, li = Lib.lastIdx q 10 q.size := ⟨_, rfl⟩
   obtain ⟨cn, hcn⟩ : ∃ cn, cn = q.data.toList.count 10 := ⟨_, rfl⟩
   rw [← hli] at hlast hcol
   rw [← hcn] at hcount
   have hcl : cn ≤ n := by rw [hcn, ← hqs, Lib.size_eq]; exact List.count_le_length
   have hli0 : -1 ≤ li ∧ li < n := by
    rcases Lib.lastIdx_spec q 10 q.size with ⟨e, _⟩ | ⟨i, hi, e, _⟩ <;> omega
   have HF : Hid ((((a0.data.toList.take (n : Int).toNat).count 10 : Nat) : Int) + 1 = (cn : Int) + 1 ∧ ((colB (a0.data.toList.take (n : Int).toNat) : Nat) : Int) = (n : Int) - li) := Lib.hid (by
    rw [Int.toNat_natCast, ← hql, hcn]
    refine ⟨rfl, ?_⟩
    rw [hqs] at hcol
    rw [hcol]
    rw [List.take_of_length_le (by rw [← Lib.size_eq]; omega)])
   have hcount' : ∀ (s : ByteArray) (w : World), s = a0.extract 0 n → Calls Tryz.prog 60 #[.string s, .string ⟨#[10]⟩] w fun e w' => e = .returned (.int .i64 cn) ∧ w' = w := fun s w e => by
    rw [e, ← hq]; exact hcount w
   have hlast' : ∀ (s : ByteArray) (w : World), s = a0.extract 0 n → Calls Tryz.prog 61 #[.string s, .int .u8 10] w fun e w' => e = .returned (.int .i64 li) ∧ w' = w := fun s w e => by
    rw [e, ← hq]; exact hlast w
   have hsz0 : (a0.extract 0 n).size = n := by rw [ByteArray.size_extract]; omega
   clear hcol hli hcn hcb hql hqs hb hq hcount hlast
   go_enter Tryz.func26, Tryz.ntmps26
   go_wp2_with (first | (go_at_call 60; refine (hcount' _ _ rfl).mono ?_; rintro e w1 ⟨rfl, rfl⟩) | (go_at_call 61; refine (hlast' _ _ rfl).mono ?_; rintro e w1 ⟨rfl, rfl⟩))
   go_ret3
   exact ⟨ret_iii HF.out.1.symm HF.out.2.symm, Below.refl _ _⟩
 ·cases h
end Go.Proofs.YtadgddipkbdnbaaGreatDoor.Q
set_option linter.unusedVariables false
set_option linter.unusedSimpArgs false
namespace Go.Proofs.YtadgddipkbdnbaaGreatDoor
open Go.RowKit
theorem contains_any (v : Value) (L : List (List UInt8)) (x : ByteArray) (w : World) (h : StrsAt w v L) (hL : L.length ≤ maxLen) :
  Calls Tryz.prog 140 #[v, .string x] w fun e w' => e = .returned (.bool (decide (x.data.toList ∈ L))) ∧ w = w' := by
 obtain ⟨g, c, rfl, hc⟩ := h
 unfold maxLen at hL
 refine (Tryz.slices_Contains_string g 0 L.length c (L.map fun l => (⟨l.toArray⟩ : ByteArray)) x w (by simp) (by omega) (fun j hj => ?_)).mono fun e w' ⟨h1, h2⟩ => ⟨?_, h2.symm⟩
 ·have hj' : j < L.length := by simpa using hj
  rw [Nat.zero_add, hc j hj']
  simp [List.getElem?_eq_getElem hj', List.getD_eq_getElem?_getD]
 ·rw [h1]
  refine ret_bool ?_
  rw [Bool.eq_iff_iff, Lib.containsS_iff, decide_eq_true_eq]
  rw [show (List.map (fun l => (⟨l.toArray⟩ : ByteArray)) L).take L.length = List.map (fun l => (⟨l.toArray⟩ : ByteArray)) L from List.take_of_length_le (by simp)]
  constructor
  ·intro hx
   obtain ⟨l, hl, rfl⟩ := List.mem_map.1 hx
   simpa using hl
  ·intro hx
   exact List.mem_map.2 ⟨_, hx, rfl⟩
def piece (s : ByteArray) (a e : Nat) : List UInt8 := (s.extract a e).data.toList
set_option maxHeartbeats 1000000 in
theorem name_bad (b a : Nat) (s : ByteArray) (w : World) (hg : GW w) (h : Scn w b s a) (ha : a ≤ s.size) (hs : s.size ≤ maxLen) (hr : ¬ (runE 6 s a : Int) - a ≤ 31) :
  Calls Tryz.prog 120 #[.pointer (some ⟨b, 0, none⟩)] w fun x w' => x = .panicked (thrown a 111) ∧ Below w.heap.size w w' := by
 have h0 := h.text
 have h1 := h.at_
 have hlt := h.lt
 have hs' := hs
 have hl := runE_le 6 s a ha
 unfold maxLen at hs
 go_enter Tryz.func120, Tryz.ntmps120
 go_wp2
 go_region_held3 (fun w' => w'.cell? ⟨b, 0, none⟩ = some (.string s) ∧ w'.cell? ⟨b, 1, none⟩ = some (.int .i64 (a : Int)) ∧ GW w' ∧ Below w.heap.size w w') (first | exact ⟨h0, h1, hg.drew, (Below.refl _ _).drew⟩ | exact ⟨(hb1.cell (World.block_lt_of_cell? _ _ k0)).trans k0, (hb1.cell (World.block_lt_of_cell? _ _ k1)).trans k1, kg.below hb1 (Nat.le_refl _), kb.trans (hb1.mono kb.size)⟩)
  (first | (go_at_call 69; obtain ⟨k0, k1, kg, kb⟩ := (by assumption : _ ∧ _ ∧ GW _ ∧ Below _ _ _); refine (run_E s a 6 _ kg hs' ha).mono ?_; rintro e w1 ⟨rfl, hb1⟩))
 obtain ⟨k0, k1, kg, kb⟩ := (by assumption : _ ∧ _ ∧ GW _ ∧ Below _ _ _)
 clear hb1
 go_wp2_with (go_at_call 74; refine (fail_any b a 111 s _ ⟨k0, k1, (kb.frozen (p := ⟨b, 1, none⟩) hlt).trans h.free⟩).mono ?_; rintro e w2 ⟨rfl, rfl⟩)
 exact ⟨rfl, rfl, kb⟩
set_option maxHeartbeats 1000000 in
theorem name_key (b a : Nat) (s : ByteArray) (w : World) (hg : GW w) (h : Scn w b s a) (ha : a ≤ s.size) (hs : s.size ≤ maxLen) (wv : Value) (hwv : w.cell? ⟨b, 3, none⟩ = some wv) (hsl : StrsAt w wv Lx.words) (hr : (runE 6 s a : Int) - a ≤ 31) (hm : decide (piece s a (runE 6 s a) ∈ Lx.words) = true) :
  Calls Tryz.prog 120 #[.pointer (some ⟨b, 0, none⟩)] w fun x w' => x = .returned (.tuple #[.int .i64 2, .int .i64 (runE 6 s a : Nat)]) ∧ Below w.heap.size w w' := by
 have HM := Lib.hid hm
 clear hm
 have h0 := h.text
 have h1 := h.at_
 have hlt := h.lt
 have hs' := hs
 have hl := runE_le 6 s a ha
 unfold maxLen at hs
 go_enter Tryz.func120, Tryz.ntmps120
 go_wp2
 go_region_held3 (fun w' => w'.cell? ⟨b, 0, none⟩ = some (.string s) ∧ w'.cell? ⟨b, 1, none⟩ = some (.int .i64 (a : Int)) ∧ GW w' ∧ Below w.heap.size w w') (first | exact ⟨h0, h1, hg.drew, (Below.refl _ _).drew⟩ | exact ⟨(hb1.cell (World.block_lt_of_cell? _ _ k0)).trans k0, (hb1.cell (World.block_lt_of_cell? _ _ k1)).trans k1, kg.below hb1 (Nat.le_refl _), kb.trans (hb1.mono kb.size)⟩)
  (first | (go_at_call 69; obtain ⟨k0, k1, kg, kb⟩ := (by assumption : _ ∧ _ ∧ GW _ ∧ Below _ _ _); refine (run_E s a 6 _ kg hs' ha).mono ?_; rintro e w1 ⟨rfl, hb1⟩))
 obtain ⟨k0, k1, kg, kb⟩ := (by assumption : _ ∧ _ ∧ GW _ ∧ Below _ _ _)
 clear hb1
 have k3 := (kb.cell (p := ⟨b, 3, none⟩) hlt).trans hwv
 have ksl := hsl.below kb (Nat.le_refl _)
 have hl1 : (a : Int) ≤ (runE 6 s a : Nat) := by omega
 have hl2 : (runE 6 s a : Int) ≤ (s.size : Nat) := by omega
 have hl3 : (0 : Int) ≤ (a : Int) := by omega
 go_wp2
 go_region_held3 (fun w' => w'.cell? ⟨b, 0, none⟩ = some (.string s) ∧ w'.cell? ⟨b, 1, none⟩ = some (.int .i64 (a : Int)) ∧ w'.cell? ⟨b, 3, none⟩ = some wv ∧ StrsAt w' wv Lx.words ∧ Below w.heap.size w w') (first | exact ⟨k0, k1, k3, ksl, kb.drew⟩ | exact ⟨n0, n1, n3, nsl, nb⟩)
  (first | (go_at_call 140; obtain ⟨n0, n1, n3, nsl, nb⟩ := (by assumption : _ ∧ _ ∧ _ ∧ StrsAt _ _ _ ∧ Below _ _ _); refine (contains_any wv Lx.words _ _ nsl (by decide)).mono ?_; rintro e w2 ⟨rfl, rfl⟩; try (rw [show decide ((s.extract a (runE 6 s a)).data.toList ∈ Lx.words) = true from HM.out])))
 obtain ⟨m0, m1, m3, msl, mb⟩ := (by assumption : _ ∧ _ ∧ _ ∧ StrsAt _ _ _ ∧ Below _ _ _)
 go_wp2
 go_ret2
 exact ⟨rfl, mb⟩
set_option maxHeartbeats 1000000 in
theorem name_ok (b a : Nat) (s : ByteArray) (w : World) (hg : GW w) (h : Scn w b s a) (ha : a ≤ s.size) (hs : s.size ≤ maxLen) (wv : Value) (hwv : w.cell? ⟨b, 3, none⟩ = some wv) (hsl : StrsAt w wv Lx.words) (hr : (runE 6 s a : Int) - a ≤ 31) (hm : decide (piece s a (runE 6 s a) ∈ Lx.words) = false) :
  Calls Tryz.prog 120 #[.pointer (some ⟨b, 0, none⟩)] w fun x w' => x = .returned (.tuple #[.int .i64 1, .int .i64 (runE 6 s a : Nat)]) ∧ Below w.heap.size w w' := by
 have HM := Lib.hid hm
 clear hm
 have h0 := h.text
 have h1 := h.at_
 have hlt := h.lt
 have hs' := hs
 have hl := runE_le 6 s a ha
 unfold maxLen at hs
 go_enter Tryz.func120, Tryz.ntmps120
 go_wp2
 go_region_held3 (fun w' => w'.cell? ⟨b, 0, none⟩ = some (.string s) ∧ w'.cell? ⟨b, 1, none⟩ = some (.int .i64 (a : Int)) ∧ GW w' ∧ Below w.heap.size w w') (first | exact ⟨h0, h1, hg.drew, (Below.refl _ _).drew⟩ | exact ⟨(hb1.cell (World.block_lt_of_cell? _ _ k0)).trans k0, (hb1.cell (World.block_lt_of_cell? _ _ k1)).trans k1, kg.below hb1 (Nat.le_refl _), kb.trans (hb1.mono kb.size)⟩)
  (first | (go_at_call 69; obtain ⟨k0, k1, kg, kb⟩ := (by assumption : _ ∧ _ ∧ GW _ ∧ Below _ _ _); refine (run_E s a 6 _ kg hs' ha).mono ?_; rintro e w1 ⟨rfl, hb1⟩))
 obtain ⟨k0, k1, kg, kb⟩ := (by assumption : _ ∧ _ ∧ GW _ ∧ Below _ _ _)
 clear hb1
 have k3 := (kb.cell (p := ⟨b, 3, none⟩) hlt).trans hwv
 have ksl := hsl.below kb (Nat.le_refl _)
 have hl1 : (a : Int) ≤ (runE 6 s a : Nat) := by omega
 have hl2 : (runE 6 s a : Int) ≤ (s.size : Nat) := by omega
 have hl3 : (0 : Int) ≤ (a : Int) := by omega
 go_wp2
 go_region_held3 (fun w' => w'.cell? ⟨b, 0, none⟩ = some (.string s) ∧ w'.cell? ⟨b, 1, none⟩ = some (.int .i64 (a : Int)) ∧ w'.cell? ⟨b, 3, none⟩ = some wv ∧ StrsAt w' wv Lx.words ∧ Below w.heap.size w w') (first | exact ⟨k0, k1, k3, ksl, kb.drew⟩ | exact ⟨n0, n1, n3, nsl, nb⟩)
  (first | (go_at_call 140; obtain ⟨n0, n1, n3, nsl, nb⟩ := (by assumption : _ ∧ _ ∧ _ ∧ StrsAt _ _ _ ∧ Below _ _ _); refine (contains_any wv Lx.words _ _ nsl (by decide)).mono ?_; rintro e w2 ⟨rfl, rfl⟩; try (rw [show decide ((s.extract a (runE 6 s a)).data.toList ∈ Lx.words) = false from HM.out])))
 obtain ⟨m0, m1, m3, msl, mb⟩ := (by assumption : _ ∧ _ ∧ _ ∧ StrsAt _ _ _ ∧ Below _ _ _)
 go_wp2
 go_ret2
 exact ⟨rfl, mb⟩
end Go.Proofs.YtadgddipkbdnbaaGreatDoor
set_option linter.unusedVariables false
set_option linter.unusedSimpArgs false
namespace Go.Proofs.YtadgddipkbdnbaaGreatDoor
open Go.RowKit
theorem int_eq {k : IntKind} {a b : Int} (h : a = b) : Value.int k a = .int k b := by rw [h]
def best (r : List UInt8) (m : Nat) (S : List (List UInt8)) : Nat := S.foldl (fun m x => if x.isPrefixOf r then max m x.length else m) m
theorem best_ge (r : List UInt8) (S : List (List UInt8)) : ∀ m, (∀ y ∈ S, y.isPrefixOf r = true → y.length ≤ m) → best r m S = m := by
 induction S with
 | nil => intro m _; rfl
 | cons x S ih =>
  intro m h
  simp only [best, List.foldl_cons]
  have hx := h x (by simp)
  by_cases hp : x.isPrefixOf r = true
  ·rw [if_pos hp, Nat.max_eq_left (hx hp)]
   exact ih m fun y hy => h y (by simp [hy])
  ·rw [if_neg hp]
   exact ih m fun y hy => h y (by simp [hy])
theorem best_find (r : List UInt8) (S : List (List UInt8)) (hS : S.Pairwise fun x y => x.isPrefixOf y = true → y.length ≤ x.length) (m : Nat) (h0 : m = 0) :
  best r m S = ((S.find? fun x => x.isPrefixOf r).map List.length).getD 0 := by
 subst h0
 induction S with
 | nil => rfl
 | cons x S ih =>
  rw [List.pairwise_cons] at hS
  by_cases hp : x.isPrefixOf r = true
  ·rw [List.find?_cons_of_pos (by simpa using hp)]
   simp only [best, List.foldl_cons, if_pos hp, Nat.zero_max]
   refine best_ge r S _ fun y hy hyp => ?_
   rcases Nat.lt_or_ge x.length y.length with hlt | hge
   ·refine hS.1 y hy ?_
    rw [List.isPrefixOf_iff_prefix] at hp hyp ⊢
    exact List.prefix_of_prefix_length_le hp hyp (by omega)
   ·exact hge
  ·rw [List.find?_cons_of_neg (by simpa using hp)]
   simp only [best, List.foldl_cons, if_neg hp]
   exact ih hS.2
theorem signs_order : Lx.signs.Pairwise fun x y => x.isPrefixOf y = true → y.length ≤ x.length := by decide +kernel
theorem best_signs (r : List UInt8) : best r 0 Lx.signs = Lx.signLen r := best_find r Lx.signs signs_order 0 rfl
theorem best_snoc (r : List UInt8) (m k : Nat) (S : List (List UInt8)) (h : k < S.length) :
  best r m (S.take (k + 1)) = if (S[k]).isPrefixOf r then max (best r m (S.take k)) S[k].length else best r m (S.take k) := by
 rw [List.take_succ_eq_append_getElem h, best, List.foldl_append]
 rfl
theorem best_le (r : List UInt8) (S : List (List UInt8)) : ∀ m, m ≤ r.length → best r m S ≤ r.length := by
 induction S with
 | nil => intro m h; exact h
 | cons x S ih =>
  intro m h
  simp only [best, List.foldl_cons]
  refine ih _ ?_
  split
  ·rename_i hp
   rw [List.isPrefixOf_iff_prefix] at hp
   exact Nat.max_le.2 ⟨h, hp.length_le⟩
  ·exact h
def tail (s : ByteArray) (a : Nat) : List UInt8 := s.data.toList.drop a
theorem tail_extract (s : ByteArray) (a : Nat) : (s.extract a s.size).data.toList = tail s a := by
 rw [Lib.extract_data]
 simp [tail, List.take_of_length_le]
theorem rest_as (b a : Nat) (s rst : ByteArray) (hr : rst = s.extract a s.size) (w : World) (h : Scn w b s a) (ha : a ≤ s.size) :
  Calls Tryz.prog 127 #[.pointer (some ⟨b, 0, none⟩)] w fun x w' => x = .returned (.string rst) ∧ Below w.heap.size w w' := by
 subst hr
 exact rest_any b a s w h ha
set_option maxHeartbeats 1000000 in
theorem sign_any (b a : Nat) (s : ByteArray) (w : World) (h : Scn w b s a) (ha : a ≤ s.size) (hs : s.size ≤ 4611686018427387904) (wv : Value) (hwv : w.cell? ⟨b, 4, none⟩ = some wv) (hsl : StrsAt w wv Lx.signs) :
  Calls Tryz.prog 125 #[.pointer (some ⟨b, 0, none⟩)] w fun x w' => x = .returned (.int .i64 (a + Lx.signLen (tail s a) : Nat)) ∧ Below w.heap.size w w' := by
 have h0 := h.text
 have h1 := h.at_
 have hlt := h.lt
 obtain ⟨g, c, rfl, hc⟩ := hsl
 have hglt := World.block_lt_of_cell? w _ (hc 0 (by decide))
 have hrl : (tail s a).length ≤ s.size := by simp [tail]
 go_enter Tryz.func125, Tryz.ntmps125
 go_wp2
 go_loopw [3, 15] (fun v i wr => ∃ k : Nat, k ≤ 47 ∧ i = .int .i64 k ∧ v = .int .i64 (a + best (tail s a) 0 (Lx.signs.take k) : Nat) ∧ Below w.heap.size w wr) (fun _ i _ => 47 - (intOf i).toNat)
 case atStart => exact ⟨0, by omega, rfl, rfl, Below.refl _ _⟩
 case round =>
  obtain ⟨k, hk, rfl, rfl, hb⟩ := hrel
  have hbl := best_le (tail s a) (Lx.signs.take k) 0 (by omega)
  by_cases hlk : k < 47
  ·have hkc : wr.cell? ⟨g, k, none⟩ = some (.string ⟨(Lx.signs.getD k []).toArray⟩) := (hb.cell (p := ⟨g, k, none⟩) hglt).trans (hc k hlk)
   have hsr := h.below hb hlt
   have r1 := hsr.at_
   obtain ⟨x, hx⟩ : ∃ x, Lx.signs.getD k [] = x := ⟨_, rfl⟩
   rw [hx] at hkc
   have hxl : x.length ≤ 3 := by rw [← hx]; exact (show ∀ y ∈ Lx.signs, y.length ≤ 3 by decide +kernel) _ (by rw [List.getD_eq_getElem?_getD, List.getElem?_eq_getElem (show k < Lx.signs.length from hlk)]; exact List.getElem_mem _)
   have hsn := best_snoc (tail s a) 0 k Lx.signs hlk
   have hgx : Lx.signs[k]'hlk = x := by rw [← hx, List.getD_eq_getElem?_getD, List.getElem?_eq_getElem (show k < Lx.signs.length from hlk)]; rfl
   rw [hgx] at hsn
   have HSN := Lib.hid hsn
   clear hsn hgx hx hc
   obtain ⟨rst, hrst⟩ : ∃ r, r = s.extract a s.size := ⟨_, rfl⟩
   have hrd : rst.data.toList = tail s a := by rw [hrst, tail_extract]
   have HR := Lib.hid hrst
   have HRD := Lib.hid hrd
   clear hrst hrd
   cases hp : Lib.hasPrefix rst.data.toList x with
   | true =>
    have HP := Lib.hid hp
    go_wp2_with (first | (go_at_call 127; refine (rest_as b a s rst HR.out _ hsr ha).mono ?_; rintro e w1 ⟨rfl, hb1⟩; have r2 := (hsr.below hb1 hsr.lt).at_) | (go_at_call 85; refine (hasPrefix_any _ _ _).mono ?_; rintro e w2 ⟨rfl, rfl⟩))
    go_roundw
    case rel => exact ⟨k + 1, by omega, by go_num, int_eq (by rw [HSN.out, if_pos (show List.isPrefixOf x (tail s a) = true from HRD.out ▸ HP.out)]; omega), hb.trans (hb1.mono hb.size)⟩
    case measure => simp [intOf]; omega
   | false =>
    have HP := Lib.hid hp
    go_wp2_with (first | (go_at_call 127; refine (rest_as b a s rst HR.out _ hsr ha).mono ?_; rintro e w1 ⟨rfl, hb1⟩; have r2 := (hsr.below hb1 hsr.lt).at_) | (go_at_call 85; refine (hasPrefix_any _ _ _).mono ?_; rintro e w2 ⟨rfl, rfl⟩))
    go_roundw
    case rel => exact ⟨k + 1, by omega, by go_num, int_eq (by rw [HSN.out, if_neg (by rw [show List.isPrefixOf x (tail s a) = false from HRD.out ▸ HP.out]; simp)]; omega), hb.trans (hb1.mono hb.size)⟩
    case measure => simp [intOf]; omega
  ·go_wp2
   go_ret
   exact ⟨ret_int (by rw [← best_signs, List.take_of_length_le (by show 47 ≤ k; omega)]), hb⟩
end Go.Proofs.YtadgddipkbdnbaaGreatDoor
