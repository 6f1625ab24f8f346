/- Parts of the proof of InsnLists. -/
import Derived.Test.YtffojmgmpfjlhaaGreatDoorInsS11
import Derived.Test.YtffojmgmpfjlhaaGreatDoorInsnListsY1
import Derived.Test.YtffojmgmpfjlhaaGreatDoorProg
import Derived.Below
import Derived.Deep.Draws
import Derived.Deep.AppendLies
import Derived.Maps.AppendAt
import Derived.OwnWalk
import Derived.Laws.BytesArg
import Derived.Laws.MakeOwn
import Derived.Laws.OwnMore
import Derived.Deep.OwnRows
import Derived.Tactics
import Derived.Lib.ConvBytes
import Derived.Laws.Slices
import Derived.WalkKit
import Derived.KernelRfl
import Derived.RowKit3
import Derived.Deep.LoopGhost
import Derived.Deep.QuietTactic
import Derived.BigQuiet
import Derived.WideLaws
import Derived.Deep.DeepCutAuto
import Derived.Deep.CutBlock
import Derived.Deep.RegionHeld3
import Derived.Laws.Rows
import Derived.Lib.AppendStr
import Derived.ArgAppend
import Derived.Laws.IdiomCopy
import Derived.OrdersHeld
import Derived.Laws.BitsLemmas
import Derived.RowKit
import Derived.Shelf.Strings.Builder1
import Derived.Shelf.Strings.Builder2
import Derived.Shelf.Strings.OnBuilder
import Derived.Shelf.Strings.BuilderF
import Derived.Shelf.Strings.BuilderK
import Derived.Shelf.Utf8.RuneCount
import Derived.Shelf.Strings.Builder2Cap
import Derived.Shelf.Strconv.Itoa0
import Derived.Shelf.Strconv.Itoa1
import Derived.Shelf.LaysM
import Derived.Shelf.Strconv.Itoa2
import Derived.Shelf.Strconv.Itoa3
import Derived.Shelf.Strconv.Itoa4
import Derived.Shelf.Strconv.ParseIntEmpty
import Derived.Shelf.Strconv.Clone
import Derived.Shelf.Strconv.SyntaxError
import Derived.Shelf.LaysC
import Derived.Shelf.Strconv.ToError
import Derived.Shelf.Strconv.Lower
import Derived.Shelf.Strconv.ParseUint10
import Derived.Shelf.Strconv.ParseUint10Empty
import Derived.Shelf.Strconv.ParseUint10Any
import Derived.Shelf.Strconv.ParseInt10
import Derived.Shelf.Strconv.RangeError
import Derived.Shelf.Strconv.ToErrorRange
import Derived.Shelf.Strconv.ParseUintEmpty
import Derived.Shelf.Strconv.ParseUint10b64
import Derived.Shelf.Strconv.ParseUint10b32
import Derived.Shelf.Strconv.ParseUint10b16
import Derived.Shelf.Strconv.ParseUint10b8
import Derived.Shelf.Strconv.ParseUint10At
import Derived.Shelf.Strconv.ParseInt10At64
import Derived.Shelf.Strconv.ParseInt10At32
import Derived.Shelf.Strconv.ParseInt10At16
import Derived.Shelf.Strconv.ParseInt10At8
import Derived.Shelf.Strconv.ParseInt10All
import Derived.Shelf.Strconv.ParseIntPublic10
import Derived.Shelf.Strconv.ErrVarParseInt
import Derived.Shelf.Strings.Search1
import Derived.Shelf.Strings.Search2
import Derived.Shelf.Strings.Search3
import Derived.Shelf.Strings.Cut
import Derived.Shelf.Strings.Count
import Derived.Shelf.Strings.Shaped
import Derived.Shelf.GgClosure.StringsIndexFunc
import Derived.Ground.GgwProg
import Derived.Shelf.GgClosure.StringsIndexFuncTop
import Derived.Shelf.GgClosure.StringsRunes
import Derived.Shelf.Strings.Prefix
import Derived.Shelf.Strings.Split
import Derived.Shelf.Strings.SplitShaped
import Derived.Shelf.Unicode.Decode
import Derived.Shelf.Strings.RuneCount
import Derived.Shelf.Strings.Explode
import Derived.Shelf.Unicode.DecodeSlow
import Derived.Shelf.Unicode.DecodeAny
import Derived.Shelf.Strings.FuncGrows
import Derived.Shelf.Strings.BuilderCap
import Derived.Lib.OthersKept
import Derived.Lib.FrozenHead
import Derived.Lib.Builder
set_option maxHeartbeats 8000000
set_option maxRecDepth 100000
set_option linter.unusedVariables false
set_option linter.unusedSimpArgs false
namespace Go.Proofs.YtffojmgmpfjlhaaGreatDoor
open Go.RowKit Go.Proofs.YtffojmgmpfjlhaaGreatDoorW.PrintWords
section
open Go.Proofs.YtffojmgmpfjlhaaGreatDoorW.PrintLast
def fb (n b:Nat):Array Bool:=((List.range n).map b.testBit).toArray
def fl (n k:Nat):Array Bool:=((List.range n).map (Nat.blt · k)).toArray
theorem hbc {w w':World} {a:Addr} {v:Value} (H:Below w.heap.size w w') (h:w.cell? a=some v):w'.cell? a=some v:=(H.cell (World.block_lt_of_cell? w _ h)).trans h
theorem hbd {w w' w'':World} {a:Addr} {v:Value} (H:Below w.heap.size w w') (h:w.cell? a=some v) (k:w'.cell? a=some v→w''.cell? a=some v:=by exact fun h=>h):w''.cell? a=some v:=k (hbc H h)
section
variable {P:Program} {ops:Array Oper} {Q:Exit→Act→World→Prop} {md:Region.Mode} {S:World→Prop} {ds:List Nat} {N:Tmp} {oi:Oper} {v:Value} {fuel:Nat} {l:Array Bool} {a:Act} {w:World} {a':Act}
theorem pbr (i n b:Nat) (h:wpAnyLast P md ops Q S ds fuel (fb n b) a' w)  (hi:ops[i]?=some oi:=by exact rfl) (hN:oi.dst=some N:=by exact rfl) (hc:anyB md ops l (fb n b) i=true:=by kernel_rfl) (hQ:∀ c a w,Q (.panic c) (a.put oi.dst v) w→Q (.panic c) a w:=by exact fun _ _ _ h=>h) (hy:Yields P ops oi v a:=by refine Or.inl ⟨by rfl,?_⟩;intro w';go_simp;with_reducible rfl) (ha:a.put (some N) v=a':=by simp only [Act.put,List.setIfInBounds_toArray,List.set_cons_zero,List.set_cons_succ,i64_w,i32_w];rfl):wpAnyLast P md ops Q S ds (fuel+1) l a w:=pure_ (fb n b) hi hN hc hQ hy ha h
theorem pbs {T} (i n b:Nat) (h:wpAnyLast P md ops Q S ds fuel (fb n b) a' w) (hT:rtab md ops=T:=by exact Aside0.out (by with_reducible assumption)) (hi:ops[i]?=some oi:=by exact rfl) (hN:oi.dst=some N:=by exact rfl) (hc:anyT T l.toList (fb n b).toList i=true:=by kernel_rfl) (hQ:∀ c a w,Q (.panic c) (a.put oi.dst v) w→Q (.panic c) a w:=by exact fun _ _ _ h=>h) (hy:Yields P ops oi v a:=by refine Or.inl ⟨by rfl,?_⟩;intro w';go_simp;with_reducible rfl) (ha:a.put (some N) v=a':=by simp only [Act.put,List.setIfInBounds_toArray,List.set_cons_zero,List.set_cons_succ,i64_w,i32_w];rfl):wpAnyLast P md ops Q S ds (fuel+1) l a w:=pure_ (fb n b) hi hN (any_of hT hc) hQ hy ha h
theorem pqr (i n:Nat) (h:wpAnyLast P md ops Q S ds fuel (fl n (i+1)) a' w)  (hi:ops[i]?=some oi:=by exact rfl) (hN:oi.dst=some N:=by exact rfl) (hc:anyB md ops l (fl n (i+1)) i=true:=by kernel_rfl) (hQ:∀ c a w,Q (.panic c) (a.put oi.dst v) w→Q (.panic c) a w:=by exact fun _ _ _ h=>h) (hy:Yields P ops oi v a:=by refine Or.inl ⟨by rfl,?_⟩;intro w';go_simp;with_reducible rfl) (ha:a.put (some N) v=a':=by simp only [Act.put,List.setIfInBounds_toArray,List.set_cons_zero,List.set_cons_succ,i64_w,i32_w];rfl):wpAnyLast P md ops Q S ds (fuel+1) l a w:=pure_ (fl n (i+1)) hi hN hc hQ hy ha h
theorem pqs {T} (i n:Nat) (h:wpAnyLast P md ops Q S ds fuel (fl n (i+1)) a' w) (hT:rtab md ops=T:=by exact Aside0.out (by with_reducible assumption)) (hi:ops[i]?=some oi:=by exact rfl) (hN:oi.dst=some N:=by exact rfl) (hc:anyT T l.toList (fl n (i+1)).toList i=true:=by kernel_rfl) (hQ:∀ c a w,Q (.panic c) (a.put oi.dst v) w→Q (.panic c) a w:=by exact fun _ _ _ h=>h) (hy:Yields P ops oi v a:=by refine Or.inl ⟨by rfl,?_⟩;intro w';go_simp;with_reducible rfl) (ha:a.put (some N) v=a':=by simp only [Act.put,List.setIfInBounds_toArray,List.set_cons_zero,List.set_cons_succ,i64_w,i32_w];rfl):wpAnyLast P md ops Q S ds (fuel+1) l a w:=pure_ (fl n (i+1)) hi hN (any_of hT hc) hQ hy ha h
theorem pqu (i n:Nat) (h:wpAnyLast P md ops Q S ds fuel (fl n (i+1)) a' w)  (hi:ops[i]?=some oi:=by exact rfl) (hN:oi.dst=some N:=by exact rfl) (hc:anyB md ops l (fl n (i+1)) i=true:=by kernel_rfl) (hQ:∀ c a w,Q (.panic c) (a.put oi.dst v) w→Q (.panic c) a w:=by exact fun _ _ _ h=>h) (hy:Yields P ops oi v a:=by exact Or.inr ⟨by rfl,rfl⟩) (ha:a.put (some N) v=a':=by simp only [Act.put,List.setIfInBounds_toArray,List.set_cons_zero,List.set_cons_succ,i64_w,i32_w];rfl):wpAnyLast P md ops Q S ds (fuel+1) l a w:=pure_ (fl n (i+1)) hi hN hc hQ hy ha h
theorem pqv {T} (i n:Nat) (h:wpAnyLast P md ops Q S ds fuel (fl n (i+1)) a' w) (hT:rtab md ops=T:=by exact Aside0.out (by with_reducible assumption)) (hi:ops[i]?=some oi:=by exact rfl) (hN:oi.dst=some N:=by exact rfl) (hc:anyT T l.toList (fl n (i+1)).toList i=true:=by kernel_rfl) (hQ:∀ c a w,Q (.panic c) (a.put oi.dst v) w→Q (.panic c) a w:=by exact fun _ _ _ h=>h) (hy:Yields P ops oi v a:=by exact Or.inr ⟨by rfl,rfl⟩) (ha:a.put (some N) v=a':=by simp only [Act.put,List.setIfInBounds_toArray,List.set_cons_zero,List.set_cons_succ,i64_w,i32_w];rfl):wpAnyLast P md ops Q S ds (fuel+1) l a w:=pure_ (fl n (i+1)) hi hN (any_of hT hc) hQ hy ha h
theorem tbr5 (i n b:Nat) (hS:S w) (h:wpAnyLast P md ops Q S ds fuel (fb n b) a' w)  (hi:ops[i]?=some oi:=by exact rfl) (hN:oi.dst=some N:=by exact rfl) (hc:takeB md ops ds l (fb n b) i=true:=by kernel_rfl) (hQ:∀ c a w,Q (.panic c) (a.put oi.dst v) w→Q (.panic c) a w:=by exact fun _ _ _ h=>h) (hy:YieldsIf P ops S oi v a:=by refine Or.inl ⟨by rfl,?_⟩;rintro w' ⟨s0,s1,s2,s3,s4⟩;go_simp;with_reducible rfl) (ha:a.put (some N) v=a':=by simp only [Act.put,List.setIfInBounds_toArray,List.set_cons_zero,List.set_cons_succ,i64_w,i32_w];rfl):wpAnyLast P md ops Q S ds (fuel+1) l a w:=take_ (fb n b) hi hN hc hQ hy hS ha h
theorem tbr6 (i n b:Nat) (hS:S w) (h:wpAnyLast P md ops Q S ds fuel (fb n b) a' w)  (hi:ops[i]?=some oi:=by exact rfl) (hN:oi.dst=some N:=by exact rfl) (hc:takeB md ops ds l (fb n b) i=true:=by kernel_rfl) (hQ:∀ c a w,Q (.panic c) (a.put oi.dst v) w→Q (.panic c) a w:=by exact fun _ _ _ h=>h) (hy:YieldsIf P ops S oi v a:=by refine Or.inl ⟨by rfl,?_⟩;rintro w' ⟨s0,s1,s2,s3,s4,s5⟩;go_simp;with_reducible rfl) (ha:a.put (some N) v=a':=by simp only [Act.put,List.setIfInBounds_toArray,List.set_cons_zero,List.set_cons_succ,i64_w,i32_w];rfl):wpAnyLast P md ops Q S ds (fuel+1) l a w:=take_ (fb n b) hi hN hc hQ hy hS ha h
theorem tbs4 {T} {B:List Nat} (i n b:Nat) (hS:S w) (h:wpAnyLast P md ops Q S ds fuel (fb n b) a' w) (hT:rtab md ops=T:=by exact Aside0.out (by with_reducible assumption)) (hB:waitsOk T.2 B=true:=by exact Aside0.out (by with_reducible assumption)) (hi:ops[i]?=some oi:=by exact rfl) (hN:oi.dst=some N:=by exact rfl) (hc:takeW T B ds l.toList (fb n b).toList i=true:=by kernel_rfl) (hQ:∀ c a w,Q (.panic c) (a.put oi.dst v) w→Q (.panic c) a w:=by exact fun _ _ _ h=>h) (hy:YieldsIf P ops S oi v a:=by refine Or.inl ⟨by rfl,?_⟩;rintro w' ⟨s0,s1,s2,s3⟩;go_simp;with_reducible rfl) (ha:a.put (some N) v=a':=by simp only [Act.put,List.setIfInBounds_toArray,List.set_cons_zero,List.set_cons_succ,i64_w,i32_w];rfl):wpAnyLast P md ops Q S ds (fuel+1) l a w:=take_ (fb n b) hi hN (take_ofW hT hB hc) hQ hy hS ha h
theorem tbs6 {T} {B:List Nat} (i n b:Nat) (hS:S w) (h:wpAnyLast P md ops Q S ds fuel (fb n b) a' w) (hT:rtab md ops=T:=by exact Aside0.out (by with_reducible assumption)) (hB:waitsOk T.2 B=true:=by exact Aside0.out (by with_reducible assumption)) (hi:ops[i]?=some oi:=by exact rfl) (hN:oi.dst=some N:=by exact rfl) (hc:takeW T B ds l.toList (fb n b).toList i=true:=by kernel_rfl) (hQ:∀ c a w,Q (.panic c) (a.put oi.dst v) w→Q (.panic c) a w:=by exact fun _ _ _ h=>h) (hy:YieldsIf P ops S oi v a:=by refine Or.inl ⟨by rfl,?_⟩;rintro w' ⟨s0,s1,s2,s3,s4,s5⟩;go_simp;with_reducible rfl) (ha:a.put (some N) v=a':=by simp only [Act.put,List.setIfInBounds_toArray,List.set_cons_zero,List.set_cons_succ,i64_w,i32_w];rfl):wpAnyLast P md ops Q S ds (fuel+1) l a w:=take_ (fb n b) hi hN (take_ofW hT hB hc) hQ hy hS ha h
theorem tbs9 {T} {B:List Nat} (i n b:Nat) (hS:S w) (h:wpAnyLast P md ops Q S ds fuel (fb n b) a' w) (hT:rtab md ops=T:=by exact Aside0.out (by with_reducible assumption)) (hB:waitsOk T.2 B=true:=by exact Aside0.out (by with_reducible assumption)) (hi:ops[i]?=some oi:=by exact rfl) (hN:oi.dst=some N:=by exact rfl) (hc:takeW T B ds l.toList (fb n b).toList i=true:=by kernel_rfl) (hQ:∀ c a w,Q (.panic c) (a.put oi.dst v) w→Q (.panic c) a w:=by exact fun _ _ _ h=>h) (hy:YieldsIf P ops S oi v a:=by refine Or.inl ⟨by rfl,?_⟩;rintro w' ⟨s0,s1,s2,s3,s4,s5,s6,s7,s8⟩;go_simp;with_reducible rfl) (ha:a.put (some N) v=a':=by simp only [Act.put,List.setIfInBounds_toArray,List.set_cons_zero,List.set_cons_succ,i64_w,i32_w];rfl):wpAnyLast P md ops Q S ds (fuel+1) l a w:=take_ (fb n b) hi hN (take_ofW hT hB hc) hQ hy hS ha h
theorem tqr3 (i n:Nat) (hS:S w) (h:wpAnyLast P md ops Q S ds fuel (fl n (i+1)) a' w)  (hi:ops[i]?=some oi:=by exact rfl) (hN:oi.dst=some N:=by exact rfl) (hc:takeB md ops ds l (fl n (i+1)) i=true:=by kernel_rfl) (hQ:∀ c a w,Q (.panic c) (a.put oi.dst v) w→Q (.panic c) a w:=by exact fun _ _ _ h=>h) (hy:YieldsIf P ops S oi v a:=by refine Or.inl ⟨by rfl,?_⟩;rintro w' ⟨s0,s1,s2⟩;go_simp;with_reducible rfl) (ha:a.put (some N) v=a':=by simp only [Act.put,List.setIfInBounds_toArray,List.set_cons_zero,List.set_cons_succ,i64_w,i32_w];rfl):wpAnyLast P md ops Q S ds (fuel+1) l a w:=take_ (fl n (i+1)) hi hN hc hQ hy hS ha h
theorem tqr4 (i n:Nat) (hS:S w) (h:wpAnyLast P md ops Q S ds fuel (fl n (i+1)) a' w)  (hi:ops[i]?=some oi:=by exact rfl) (hN:oi.dst=some N:=by exact rfl) (hc:takeB md ops ds l (fl n (i+1)) i=true:=by kernel_rfl) (hQ:∀ c a w,Q (.panic c) (a.put oi.dst v) w→Q (.panic c) a w:=by exact fun _ _ _ h=>h) (hy:YieldsIf P ops S oi v a:=by refine Or.inl ⟨by rfl,?_⟩;rintro w' ⟨s0,s1,s2,s3⟩;go_simp;with_reducible rfl) (ha:a.put (some N) v=a':=by simp only [Act.put,List.setIfInBounds_toArray,List.set_cons_zero,List.set_cons_succ,i64_w,i32_w];rfl):wpAnyLast P md ops Q S ds (fuel+1) l a w:=take_ (fl n (i+1)) hi hN hc hQ hy hS ha h
theorem tqr5 (i n:Nat) (hS:S w) (h:wpAnyLast P md ops Q S ds fuel (fl n (i+1)) a' w)  (hi:ops[i]?=some oi:=by exact rfl) (hN:oi.dst=some N:=by exact rfl) (hc:takeB md ops ds l (fl n (i+1)) i=true:=by kernel_rfl) (hQ:∀ c a w,Q (.panic c) (a.put oi.dst v) w→Q (.panic c) a w:=by exact fun _ _ _ h=>h) (hy:YieldsIf P ops S oi v a:=by refine Or.inl ⟨by rfl,?_⟩;rintro w' ⟨s0,s1,s2,s3,s4⟩;go_simp;with_reducible rfl) (ha:a.put (some N) v=a':=by simp only [Act.put,List.setIfInBounds_toArray,List.set_cons_zero,List.set_cons_succ,i64_w,i32_w];rfl):wpAnyLast P md ops Q S ds (fuel+1) l a w:=take_ (fl n (i+1)) hi hN hc hQ hy hS ha h
theorem tqr6 (i n:Nat) (hS:S w) (h:wpAnyLast P md ops Q S ds fuel (fl n (i+1)) a' w)  (hi:ops[i]?=some oi:=by exact rfl) (hN:oi.dst=some N:=by exact rfl) (hc:takeB md ops ds l (fl n (i+1)) i=true:=by kernel_rfl) (hQ:∀ c a w,Q (.panic c) (a.put oi.dst v) w→Q (.panic c) a w:=by exact fun _ _ _ h=>h) (hy:YieldsIf P ops S oi v a:=by refine Or.inl ⟨by rfl,?_⟩;rintro w' ⟨s0,s1,s2,s3,s4,s5⟩;go_simp;with_reducible rfl) (ha:a.put (some N) v=a':=by simp only [Act.put,List.setIfInBounds_toArray,List.set_cons_zero,List.set_cons_succ,i64_w,i32_w];rfl):wpAnyLast P md ops Q S ds (fuel+1) l a w:=take_ (fl n (i+1)) hi hN hc hQ hy hS ha h
theorem tqs3 {T} {B:List Nat} (i n:Nat) (hS:S w) (h:wpAnyLast P md ops Q S ds fuel (fl n (i+1)) a' w) (hT:rtab md ops=T:=by exact Aside0.out (by with_reducible assumption)) (hB:waitsOk T.2 B=true:=by exact Aside0.out (by with_reducible assumption)) (hi:ops[i]?=some oi:=by exact rfl) (hN:oi.dst=some N:=by exact rfl) (hc:takeW T B ds l.toList (fl n (i+1)).toList i=true:=by kernel_rfl) (hQ:∀ c a w,Q (.panic c) (a.put oi.dst v) w→Q (.panic c) a w:=by exact fun _ _ _ h=>h) (hy:YieldsIf P ops S oi v a:=by refine Or.inl ⟨by rfl,?_⟩;rintro w' ⟨s0,s1,s2⟩;go_simp;with_reducible rfl) (ha:a.put (some N) v=a':=by simp only [Act.put,List.setIfInBounds_toArray,List.set_cons_zero,List.set_cons_succ,i64_w,i32_w];rfl):wpAnyLast P md ops Q S ds (fuel+1) l a w:=take_ (fl n (i+1)) hi hN (take_ofW hT hB hc) hQ hy hS ha h
theorem tqs6 {T} {B:List Nat} (i n:Nat) (hS:S w) (h:wpAnyLast P md ops Q S ds fuel (fl n (i+1)) a' w) (hT:rtab md ops=T:=by exact Aside0.out (by with_reducible assumption)) (hB:waitsOk T.2 B=true:=by exact Aside0.out (by with_reducible assumption)) (hi:ops[i]?=some oi:=by exact rfl) (hN:oi.dst=some N:=by exact rfl) (hc:takeW T B ds l.toList (fl n (i+1)).toList i=true:=by kernel_rfl) (hQ:∀ c a w,Q (.panic c) (a.put oi.dst v) w→Q (.panic c) a w:=by exact fun _ _ _ h=>h) (hy:YieldsIf P ops S oi v a:=by refine Or.inl ⟨by rfl,?_⟩;rintro w' ⟨s0,s1,s2,s3,s4,s5⟩;go_simp;with_reducible rfl) (ha:a.put (some N) v=a':=by simp only [Act.put,List.setIfInBounds_toArray,List.set_cons_zero,List.set_cons_succ,i64_w,i32_w];rfl):wpAnyLast P md ops Q S ds (fuel+1) l a w:=take_ (fl n (i+1)) hi hN (take_ofW hT hB hc) hQ hy hS ha h
theorem tqs9 {T} {B:List Nat} (i n:Nat) (hS:S w) (h:wpAnyLast P md ops Q S ds fuel (fl n (i+1)) a' w) (hT:rtab md ops=T:=by exact Aside0.out (by with_reducible assumption)) (hB:waitsOk T.2 B=true:=by exact Aside0.out (by with_reducible assumption)) (hi:ops[i]?=some oi:=by exact rfl) (hN:oi.dst=some N:=by exact rfl) (hc:takeW T B ds l.toList (fl n (i+1)).toList i=true:=by kernel_rfl) (hQ:∀ c a w,Q (.panic c) (a.put oi.dst v) w→Q (.panic c) a w:=by exact fun _ _ _ h=>h) (hy:YieldsIf P ops S oi v a:=by refine Or.inl ⟨by rfl,?_⟩;rintro w' ⟨s0,s1,s2,s3,s4,s5,s6,s7,s8⟩;go_simp;with_reducible rfl) (ha:a.put (some N) v=a':=by simp only [Act.put,List.setIfInBounds_toArray,List.set_cons_zero,List.set_cons_succ,i64_w,i32_w];rfl):wpAnyLast P md ops Q S ds (fuel+1) l a w:=take_ (fl n (i+1)) hi hN (take_ofW hT hB hc) hQ hy hS ha h
end
theorem zs1 (x:UInt8):(⟨#[x]⟩:ByteArray).size=1:=rfl
theorem zs2 (x y:UInt8):(⟨#[x,y]⟩:ByteArray).size=2:=rfl
theorem zs3 (x y z:UInt8):(⟨#[x,y,z]⟩:ByteArray).size=3:=rfl
theorem kRd {α:Type} {d:Kd α} {e:Nat} {w w':World} {b:Nat} {ok:Nat→Prop} {v:Value} {xs:List α} (h:d.R e w b ok v xs) (t:d.R e w b ok v xs→d.R e w' b ok v xs:=by intro h;(with_reducible repeat (first | apply Kd.R_alloc | apply Kd.R_drewN | apply Kd.R_drew));exact h):d.R e w' b ok v xs:=t h
theorem a61 {w w':World} {A:Option Addr} {n:Nat} {xs:List Q.S61} (h:Kd.C Q.k61 w A n xs) (H:Below w.heap.size w w') (i:Int) (h0:0≤i) (h1:i < n):∃ ad,A=some ad∧w.cell? (ad.add (i.toNat * 3))=some (.string (Q.rd_T61 xs i).f0)∧w.cell? ⟨(ad.add (i.toNat * 3)).block,(ad.add (i.toNat * 3)).off+1,none⟩=some (.int .i64 (Q.rd_T61 xs i).f1)∧w.cell? ⟨(ad.add (i.toNat * 3)).block,(ad.add (i.toNat * 3)).off+2,none⟩=some (.int .i64 (Q.rd_T61 xs i).f2)∧w'.cell? (ad.add (i.toNat * 3))=some (.string (Q.rd_T61 xs i).f0)∧w'.cell? ⟨(ad.add (i.toNat * 3)).block,(ad.add (i.toNat * 3)).off+1,none⟩=some (.int .i64 (Q.rd_T61 xs i).f1)∧w'.cell? ⟨(ad.add (i.toNat * 3)).block,(ad.add (i.toNat * 3)).off+2,none⟩=some (.int .i64 (Q.rd_T61 xs i).f2)∧(0≤i)=True∧(i < (n:Int))=True:=by
 obtain ⟨ad,e,x0,x1,x2⟩:=Q.at_T61 h i h0 h1
 exact ⟨ad,e,x0,x1,x2,hbc H x0,hbc H x1,hbc H x2,eq_true h0,eq_true h1⟩
end
end Go.Proofs.YtffojmgmpfjlhaaGreatDoor
namespace Go.Proofs.YtffojmgmpfjlhaaGreatDoor.Q
open Go.Proofs.YtffojmgmpfjlhaaGreatDoor Go.RowKit Go.Proofs.YtffojmgmpfjlhaaGreatDoorW.PrintWords Go.Proofs.YtffojmgmpfjlhaaGreatDoorW.PrintLast Go.Proofs.YtffojmgmpfjlhaaGreatDoorW.PrintMore
attribute [local go_sem] max2_int min2_int max_two min_two max_three min_three max_four min_four
theorem info3:(Tryz.prog.info? 3).map (fun i=>(i.zero,i.size,i.bytes))=some (some (.int .i64 0),1,8):=by kernel_rfl
theorem info23:(Tryz.prog.info? 23).map (fun i=>(i.zero,i.size,i.bytes))=some (some (.agg #[(.int .i64 0),(.int .i64 0),(.int .i64 0),(.int .i64 0)]),4,32):=by kernel_rfl
theorem k61_mk (w:World) (x:S61)  : k61.K w x [.string x.f0,.int .i64 x.f1,.int .i64 x.f2]:=⟨[.string x.f0],[.int .i64 x.f1,.int .i64 x.f2],rfl,rfl,⟨[.int .i64 x.f1],[.int .i64 x.f2],rfl,rfl,rfl⟩⟩
def k23:Kd S23:=Kd.iso (Kd.pair (Kd.int .i64) (Kd.pair (Kd.int .i64) (Kd.pair (Kd.int .i64) (Kd.int .i64)))) (fun x:S23=>(x.f0,x.f1,x.f2,x.f3))
theorem k23_open {w:World} {x:S23} {cs:List Value} (h:k23.K w x cs):cs=[.int .i64 x.f0,.int .i64 x.f1,.int .i64 x.f2,.int .i64 x.f3]:=by
 obtain ⟨_,_,rfl,rfl,⟨_,_,rfl,rfl,⟨_,_,rfl,rfl,rfl⟩⟩⟩:=h;exact rfl
theorem k23_mkM (w:World) (base:Nat) (ok:Nat→Prop) (x:S23)  : k23.M w base ok x [.int .i64 x.f0,.int .i64 x.f1,.int .i64 x.f2,.int .i64 x.f3]:=⟨[.int .i64 x.f0],[.int .i64 x.f1,.int .i64 x.f2,.int .i64 x.f3],rfl,rfl,⟨[.int .i64 x.f1],[.int .i64 x.f2,.int .i64 x.f3],rfl,rfl,⟨[.int .i64 x.f2],[.int .i64 x.f3],rfl,rfl,rfl⟩⟩⟩
def rd_T23 (xs:List S23) (i:Int):S23:=xs.getD i.toNat z23
theorem at_T23 {w:World} {A:Option Addr} {n:Nat} {xs:List S23} (h:Kd.C k23 w A n xs) (i:Int) (h0:0≤i) (h1:i < n):∃ ad , A=some ad∧w.cell? (ad.add (i.toNat * 4))=some (.int .i64 (rd_T23 xs i).f0)∧w.cell? ⟨(ad.add (i.toNat * 4)).block,(ad.add (i.toNat * 4)).off+1,none⟩=some (.int .i64 (rd_T23 xs i).f1)∧w.cell? ⟨(ad.add (i.toNat * 4)).block,(ad.add (i.toNat * 4)).off+2,none⟩=some (.int .i64 (rd_T23 xs i).f2)∧w.cell? ⟨(ad.add (i.toNat * 4)).block,(ad.add (i.toNat * 4)).off+3,none⟩=some (.int .i64 (rd_T23 xs i).f3):=by
 obtain ⟨ad,c,e,_,hK,hc0⟩:=Kd.C_get h z23 i h0 h1;have hc:∀ j u,c[j]?=some u→w.cell? (ad.add (i.toNat * 4+j))=some u:=hc0;obtain rfl:=k23_open hK;exact ⟨ad,e,hc 0 _ rfl,by rw [← add_field _ _ 1 (by omega)];exact hc 1 _ rfl,by rw [← add_field _ _ 2 (by omega)];exact hc 2 _ rfl,by rw [← add_field _ _ 3 (by omega)];exact hc 3 _ rfl⟩
end Go.Proofs.YtffojmgmpfjlhaaGreatDoor.Q
namespace Go.Proofs
open Go.Shelf
def Tryz.lays169_ren:Go.Shelf.Ren:=⟨fun | 169=>85 | n=>n,fun | 70=>137 | 9=>9 | 0=>0 | 72=>139 | 37=>24 | 127=>178 | 3=>3 | 5=>5 | n=>n,fun | n=>n⟩
theorem Tryz.lays169:Go.Proofs.Lays.n169 Tryz.prog Tryz.lays169_ren:={
 mixed:=by kernel_rfl
 f169:=Tryz.func85.trans (congrArg some (by kernel_rfl))
 t0:=Tryz.underlying0
 a0:=Tryz.isAgg0
 z0:=Tryz.sizeOf0
 v0:=Tryz.zeroValue0
 t3:=Tryz.underlying3
 a3:=Tryz.isAgg3
 z3:=Tryz.sizeOf3
 v3:=Tryz.zeroValue3
 t9:=Tryz.underlying9
 a9:=Tryz.isAgg9
 z9:=Tryz.sizeOf9
 v9:=Tryz.zeroValue9
 t37:=Tryz.underlying24
 a37:=Tryz.isAgg24
 z37:=Tryz.sizeOf24
 v37:=Tryz.zeroValue24
 t70:=Tryz.underlying137
 a70:=Tryz.isAgg137
 z70:=Tryz.sizeOf137
 v70:=Tryz.zeroValue137
 t72:=Tryz.underlying139
 a72:=Tryz.isAgg139
 z72:=Tryz.sizeOf139
 v72:=Tryz.zeroValue139
 t127:=Tryz.underlying178
 a127:=Tryz.isAgg178
 z127:=Tryz.sizeOf178
 v127:=Tryz.zeroValue178 }
theorem Tryz.Builder_Extra_169:Builder.Extra Tryz.prog Tryz.lays169_ren:={
 sizeBuilder:=by kernel_rfl
 liesBuilder:=by kernel_rfl
 t5:=Tryz.underlying5
 a5:=Tryz.isAgg5
 z5:=Tryz.sizeOf5
 v5:=Tryz.zeroValue5
 infoByte:=by kernel_rfl
 cellsByte:=by kernel_rfl
 sizeByte:=by kernel_rfl
 neB5:=by decide }
open Go.RowKit in
theorem Tryz.Builder_String_any_f (B b:Nat) (l:List UInt8) (w:World) (h:Lib.IsBuilderF 139 5 B b (Lib.byteCells l) w) (hBw:B≤w.heap.size) :
  Calls Tryz.prog 85 #[.pointer (some ⟨b,0,none⟩)] w fun e w'=>e=.returned (.string ⟨l.toArray⟩)∧(Lib.IsBuilderF 139 5 B b (Lib.byteCells l) w'∧Below B w w'):=Any.Builder_String_any_f Tryz.lays169 Tryz.Builder_Extra_169 B b l w h hBw
end Go.Proofs
namespace Go.Proofs.YtffojmgmpfjlhaaGreatDoor.Q
open Go.RowKit Go.Proofs.YtffojmgmpfjlhaaGreatDoor YtffojmgmpfjlhaaGreatDoorW.PrintWords YtffojmgmpfjlhaaGreatDoorW.PrintLast
theorem bldInfo:(Tryz.prog.info? 139).map (·.size)=some 2:=by kernel_rfl
theorem bldLies:liesAt Tryz.prog Tryz.prog.depth 139 (2 / Tryz.prog.cellsOf 139) 0 139 1=true:=by kernel_rfl
theorem bldByte:(Tryz.prog.info? 5).map (fun i=>(i.zero,i.size,i.bytes))=some (some (.int .u8 0),1,1):=by kernel_rfl
theorem bcc_used (b:Nat) (w:World) (h0:w.cell? ⟨b,0,none⟩=some (.pointer (some ⟨b,0,none⟩))) :
  Calls Tryz.prog 119 #[.pointer (some ⟨b,0,none⟩)] w fun e w'=>e=.returned (.tuple #[])∧w'=w:=by
 obtain ⟨j,hj,_⟩:=Option.map_eq_some_iff.1 bldInfo
 go_enter Tryz.func119,Tryz.ntmps119
 go_wp2
 rw [Lib.run_neq_ptr_same w _ Tryz.underlying137 hj]
 go_wp2
 go_end0
 exact ⟨rfl,rfl⟩
theorem bcc_fresh (b:Nat) (w:World) (h0:w.cell? ⟨b,0,none⟩=some (.pointer none)) (hsh:w.shape? b=some (139,2)) (hfz:w.frozen? ⟨b,0,none⟩=false) :
  Calls Tryz.prog 119 #[.pointer (some ⟨b,0,none⟩)] w fun e w'=>e=.returned (.tuple #[])∧w'=w.setCell ⟨b,0,none⟩ (.pointer (some ⟨b,0,none⟩)):=by
 obtain ⟨j,hj,hjs⟩:=Option.map_eq_some_iff.1 bldInfo
 go_enter Tryz.func119,Tryz.ntmps119
 go_wp2
 rw [Lib.run_to_unsafe w ⟨b,0,none⟩ Tryz.underlying137 Tryz.underlying191 hj (by rw [hjs];decide) hsh (Nat.zero_lt_succ 1)]
 simp only [Result.andThen]
 rw [Oper.upon_value]
 go_wp2
 rw [run_callFunc_extern Tryz.func145 (by kernel_rfl) (by kernel_rfl) (by kernel_rfl) (e:=Extern.AbiNoEscape.same) (by kernel_rfl)]
 rw [Lib.run_noEscape]
 simp only [Result.andThen]
 rw [Oper.upon_value]
 go_wp2
 rw [Lib.run_from_unsafe w ⟨b,0,none⟩ Tryz.underlying191 Tryz.underlying137 hj hsh bldLies]
 simp only [Result.andThen]
 rw [Oper.upon_value]
 go_wp2
 go_end0
 exact ⟨rfl,rfl⟩
theorem bcc (B b:Nat) (bs:List Value) (w:World) (h:Lib.IsBuilderF 139 5 B b bs w) :
  Calls Tryz.prog 119 #[.pointer (some ⟨b,0,none⟩)] w fun e w'=>e=.returned (.tuple #[])∧Lib.BuilderAtF 139 5 B b (.pointer (some ⟨b,0,none⟩)) bs w'∧Below B w w'∧Lib.OthersKept 5 (some b) w w':=by
 rcases h with h | h
 ·refine (bcc_fresh b w h.cell0 h.shape h.frozen0).mono ?_
  rintro e w' ⟨rfl,rfl⟩
  exact ⟨rfl,h.used _,(Below.refl B w).setCell (p:=⟨b,0,none⟩) h.1 _,(Lib.OthersKept.refl _ _ w).setCell ⟨b,0,none⟩ rfl _⟩
 ·refine (bcc_used b w h.cell0).mono ?_
  rintro e w' ⟨rfl,rfl⟩
  exact ⟨rfl,h,Below.refl B _,Lib.OthersKept.refl _ _ _⟩
theorem bws (B b:Nat) (bs:List Value) (s:ByteArray) (w:World) (h:Lib.IsBuilderF 139 5 B b bs w) (hlen:bs.length+s.size≤140737488355328) (hBw:B≤w.heap.size) :
  Calls Tryz.prog 84 #[.pointer (some ⟨b,0,none⟩),.string s] w fun e w'=>e=.returned (.tuple #[.int .i64 s.size,.nilIface])∧Lib.BuilderAtF 139 5 B b (.pointer (some ⟨b,0,none⟩)) (bs ++ Lib.strCells s) w'∧Below B w w'∧Lib.OthersKept 5 (some b) w w':=by
 obtain ⟨i0,hi,hz0,hz1,hz2⟩:=info_parts bldByte
 go_enter Tryz.func84,Tryz.ntmps84
 go_wp2_with (go_at_call 119;refine (bcc B b bs _ h).mono ?_)
 rintro e w1 ⟨rfl,h1,hb1,hk1⟩
 obtain ⟨hB,v,hbk,hown,hne⟩:=h1
 have c0:w1.cell? ⟨b,0,none⟩=some (.pointer (some ⟨b,0,none⟩)):=by rw [Lib.cell_of_heap hbk];rfl
 have c1:w1.cell? ⟨b,1,none⟩=some v:=by rw [Lib.cell_of_heap hbk];rfl
 go_wp2_with (at_builtin;refine Lib.wpList_append_own_stringF _ rfl _ _ 24 9 rfl B 5 i0 Tryz.underlying24 Tryz.underlying9 hi hz0 hz1 hz2 _ _ _ rfl hown s rfl ?c3 ?c4 ?c5 ?_)
 case c3=>unfold maxLen;omega
 case c4=>omega
 case c5=>have:=hb1.size;omega
 intro v' w2 hown' hgrow _
 have hlt:b < w1.heap.size:=by
  rcases Nat.lt_or_ge b w1.heap.size with h' | h'
  ·exact h'
  ·simp [Array.getElem?_eq_none h'] at hbk
 have hb2:w2.heap[b]?=some (.cells #[.pointer (some ⟨b,0,none⟩),v] 139 (0,0)):=by
  rw [hgrow.block b hlt (fun e=>hne e.symm)]
  exact hbk
 have d0:w2.cell? ⟨b,0,none⟩=some (.pointer (some ⟨b,0,none⟩)):=by rw [Lib.cell_of_heap hb2];rfl
 have d1:w2.cell? ⟨b,1,none⟩=some v:=by rw [Lib.cell_of_heap hb2];rfl
 have f1:w2.frozen? ⟨b,1,none⟩=false:=Lib.frozen_of_heap hb2 1
 obtain ⟨ao,n',cap,rfl⟩:∃ ao n' cap,v'=.slice ao n' cap:=by
  rcases hown'.2 with ⟨hv,_⟩ | ⟨g,cap,cur,fz,hv,_⟩
  ·exact ⟨_,_,_,hv⟩
  ·exact ⟨_,_,_,hv⟩
 go_wp2
 go_ret2
 refine ⟨rfl,?_,?_,(hk1.grown hgrow (Lib.ownsRowF_kind hown)).setCell ⟨b,1,none⟩ rfl _⟩
 ·exact Lib.BuilderAtF.put (T:=139) (e:=5) hB hb2 (bs':=bs ++ Lib.strCells s) (by simpa [Lib.strCells_length] using hown') (by decide)
 ·exact (hb1.grown hgrow (by have:=hb1.size;omega) (fun k hk=>(hown.lt k hk).1)).setCell (p:=⟨b,1,none⟩) hB _
end Go.Proofs.YtffojmgmpfjlhaaGreatDoor.Q
namespace Go.Proofs.YtffojmgmpfjlhaaGreatDoor
open Go.RowKit Go.Proofs.Ix YtffojmgmpfjlhaaGreatDoorW.PrintWords Go.ChangeShapes Go.WideShapes Go.MapKept Go.Maps Go.ChangeMaps
structure Mk9 (T K:TypeId) (α:Type) (enc:α→Value) (ok:α→Prop):Prop where
 ty:Tryz.prog.underlying T=some (.map K 4)
 keyed:Keyed Tryz.prog K
 of:∀ x,ok x→∃ l,keyOf Tryz.prog K (enc x)=some l
 inj:∀ x y,enc x=enc y→x=y
def Sm {α:Type} (enc:α→Value) (ok:α→Prop) (w:World) (m:Nat) (S:List α):Prop :=
 ∃ es clock,w.heap[m]?=some (.map es clock)∧(∀ e∈es.toList,e.val=.bool true∧∃ x∈S,e.key=enc x)∧(∀ x∈S,ok x∧∃ e∈es.toList,e.key=enc x)
section
variable {T K:TypeId} {α:Type} {enc:α→Value} {ok:α→Prop}
theorem Sm.lt {w:World} {m:Nat} {S:List α} (h:Sm enc ok w m S):m < w.heap.size:=by
 obtain ⟨es,c,hb,_⟩:=h
 exact (Array.getElem?_eq_some_iff.1 hb).1
theorem Sm.keep {w w':World} {m:Nat} {S:List α} (h:Sm enc ok w m S) (e:w'.heap[m]?=w.heap[m]?):Sm enc ok w' m S:=by
 obtain ⟨es,c,hb,h2⟩:=h
 exact ⟨es,c,e.trans hb,h2⟩
theorem Sm.keys {S:List α} {es:List MapEntry} (M:Mk9 T K α enc ok) (h1:∀ e∈es,e.val=.bool true∧∃ x∈S,e.key=enc x) (h2:∀ x∈S,ok x∧∃ e∈es,e.key=enc x):∀ e∈es,∃ l,keyOf Tryz.prog K e.key=some l:=by
 intro e he
 obtain ⟨_,x,hx,hk⟩:=h1 e he
 rw [hk]
 exact M.of x (h2 x hx).1
theorem Sm.look [DecidableEq α] (M:Mk9 T K α enc ok) {w:World} {m:Nat} {S:List α} (h:Sm enc ok w m S) (x:α) (hx:ok x) :
  (Instr.lookup T (.map (some m)) (enc x) false).run Tryz.prog w=.ok (.bool (decide (x∈S))) w:=by
 obtain ⟨es,clock,hb,h1,h2⟩:=h
 obtain ⟨kl,hkey⟩:=M.of x hx
 have hz:(zeroValue 4).run Tryz.prog w=.ok (.bool false) w:=Tryz.zeroValue4 w
 rcases M.keyed.find w hkey es.toList (Sm.keys M h1 h2) with ⟨e1,e2⟩ | ⟨j,e0,e1,e2,e3⟩
 ·have hn:x ∉ S:=fun hm=>by
   obtain ⟨e,he,hk⟩:=(h2 x hm).2
   exact e2 e he hk
  rw [decide_eq_false hn]
  simp [Instr.lookup,run_underlying M.ty,MapKept.run_getObj_map hb,M.keyed.check w _ hkey,e1,hz,Result.andThen]
 ·obtain ⟨hv,y,hy,hk⟩:=h1 e0 (List.mem_of_getElem? e2)
  have hxy:x=y:=M.inj _ _ (e3.symm.trans hk)
  subst hxy
  rw [decide_eq_true hy]
  simp [Instr.lookup,run_underlying M.ty,MapKept.run_getObj_map hb,M.keyed.check w _ hkey,e1,hz,hv,Result.andThen]
theorem Sm.put (M:Mk9 T K α enc ok) {w:World} {m:Nat} {S:List α} (h:Sm enc ok w m S) (x:α) (hx:ok x) :
  ∃ w',(Instr.mapUpdate T (.map (some m)) (enc x) (.bool true)).run Tryz.prog w=.ok () w'∧Sm enc ok w' m (x :: S)∧Aft m w w'∧w'.heap.size=w.heap.size:=by
 obtain ⟨es,clock,hb,h1,h2⟩:=h
 obtain ⟨kl,hkey⟩:=M.of x hx
 rcases M.keyed.find w hkey es.toList (Sm.keys M h1 h2) with ⟨e1,e2⟩ | ⟨j,e0,e1,e2,e3⟩
 ·refine ⟨setBlock w m (.map (es.push ⟨enc x,.bool true,clock⟩) (clock+1)),?_,⟨_,_,heap_setBlock_same hb _,?_,?_⟩,⟨rfl,rfl,rfl,by simp [setBlock],fun k _ hk=>heap_setBlock_other hb _ hk⟩,by simp [setBlock]⟩
  ·simp [Instr.mapUpdate,run_underlying M.ty,MapKept.run_getObj_map hb,M.keyed.check w false hkey,e1,MapKept.run_setObj_map _ hb,Result.andThen,setBlock]
  ·intro e he
   rw [Array.toList_push,List.mem_append,List.mem_singleton] at he
   rcases he with he | rfl
   ·obtain ⟨hv,y,hy,hk⟩:=h1 e he
    exact ⟨hv,y,List.mem_cons_of_mem _ hy,hk⟩
   ·exact ⟨rfl,x,List.mem_cons_self,rfl⟩
  ·intro y hy
   rw [Array.toList_push]
   rcases List.mem_cons.1 hy with rfl | hy
   ·exact ⟨hx,_,List.mem_append_right _ (List.mem_singleton.2 rfl),rfl⟩
   ·obtain ⟨ho,e,he,hk⟩:=h2 y hy
    exact ⟨ho,e,List.mem_append_left _ he,hk⟩
 ·obtain ⟨hv,y,hy,hk⟩:=h1 e0 (List.mem_of_getElem? e2)
  have hxy:x=y:=M.inj _ _ (e3.symm.trans hk)
  subst hxy
  have hj:es[j]?=some e0:=by simpa using e2
  have hst:(Instr.keyThatStays (((es[j]?).map (·.key)).getD (enc x)) (enc x)).run Tryz.prog w=.ok (enc x) w:=by
   rw [hj]
   show (Instr.keyThatStays e0.key (enc x)).run Tryz.prog w=_
   rw [e3]
   exact M.keyed.stays w hkey
  refine ⟨setBlock w m (.map (es.modify j fun e=>{ e with key:=enc x,val:=.bool true }) clock),?_,⟨_,_,heap_setBlock_same hb _,?_,?_⟩,⟨rfl,rfl,rfl,by simp [setBlock],fun k _ hk=>heap_setBlock_other hb _ hk⟩,by simp [setBlock]⟩
  ·simp [Instr.mapUpdate,run_underlying M.ty,MapKept.run_getObj_map hb,M.keyed.check w false hkey,e1,hst,MapKept.run_setObj_map _ hb,Result.andThen,setBlock]
  ·intro e he
   obtain ⟨i,hi⟩:=List.mem_iff_getElem?.1 he
   rw [Array.getElem?_toList,Array.getElem?_modify] at hi
   split at hi
   ·rename_i hij
    subst hij
    rw [hj] at hi
    simp at hi
    subst hi
    exact ⟨rfl,x,List.mem_cons_self,rfl⟩
   ·have:e∈es.toList:=List.mem_iff_getElem?.2 ⟨i,by simpa using hi⟩
    obtain ⟨hv,y,hy,hk⟩:=h1 e this
    exact ⟨hv,y,List.mem_cons_of_mem _ hy,hk⟩
  ·intro z hz
   have hzS:z∈S:=by
    rcases List.mem_cons.1 hz with rfl | hz
    ·exact hy
    ·exact hz
   obtain ⟨ho,e,he,hk⟩:=h2 z hzS
   refine ⟨ho,?_⟩
   obtain ⟨i,hi⟩:=List.mem_iff_getElem?.1 he
   rw [Array.getElem?_toList] at hi
   by_cases hij:j=i
   ·subst hij
    rw [hj] at hi
    cases hi
    exact ⟨{ e0 with key:=enc x,val:=.bool true },List.mem_iff_getElem?.2 ⟨j,by rw [Array.getElem?_toList,Array.getElem?_modify,if_pos rfl,hj];rfl⟩,by show enc x=enc z;rw [← hk,e3]⟩
   ·exact ⟨e,List.mem_iff_getElem?.2 ⟨i,by rw [Array.getElem?_toList,Array.getElem?_modify,if_neg hij];exact hi⟩,hk⟩
end
def keyI (n:Int):Value:=.int .i64 n
def okI (n:Int):Prop:=(Lit.int .i64 n).wf=true
theorem okI_of {n:Int} (h1:-9223372036854775808≤n) (h2:n≤9223372036854775807):okI n:=by
 have e1:IntKind.i64.min=-9223372036854775808:=by decide
 have e2:IntKind.i64.max=9223372036854775807:=by decide
 simp only [okI,Lit.wf,e1,e2,Bool.and_eq_true,decide_eq_true_eq]
 exact ⟨h1,h2⟩
def keyS (s:ByteArray):Value:=.string s
def okS (s:ByteArray):Prop:=s.size≤1000000
theorem keyed2:Keyed Tryz.prog 2:=int_keyed Tryz.underlying2
theorem mI:Mk9 176 2 Int keyI okI:=by
 refine ⟨Tryz.underlying176,keyed2,fun x hx=>?_,fun x y h=>by injection h⟩
 refine ⟨.int .i64 x,?_⟩
 have hx2:(Lit.int .i64 x).wf=true:=hx
 simp [keyI,keyOf,mapKey,Tryz.underlying2,hx2]
theorem mS:Mk9 177 9 ByteArray keyS okS:=⟨Tryz.underlying177,keyed9,fun x hx=>keyOf9 x hx,fun x y h=>by injection h⟩
theorem Sm.made {α:Type} (enc:α→Value) (ok:α→Prop) (w:World):Sm enc ok (w.alloc (.map #[] 0)) w.heap.size ([]:List α) :=
 ⟨#[],0,heap_own _ _,fun e he=>by simp at he,fun x hx=>by simp at hx⟩
end Go.Proofs.YtffojmgmpfjlhaaGreatDoor
