/- Parts of the proof of InsnAssembles. -/
import Derived.Test.YtffojmgmpfjlhaaGreatDoorInsS17
import Derived.Test.YtffojmgmpfjlhaaGreatDoorInsnAssemblesY1
import Derived.Test.YtffojmgmpfjlhaaGreatDoorProg
import Derived.Below
import Derived.Deep.Draws
import Derived.Deep.AppendLies
import Derived.Maps.AppendAt
import Derived.OwnWalk
import Derived.Laws.BytesArg
import Derived.Laws.MakeOwn
import Derived.Laws.OwnMore
import Derived.Deep.OwnRows
import Derived.Tactics
import Derived.Lib.ConvBytes
import Derived.Laws.Slices
import Derived.WalkKit
import Derived.KernelRfl
import Derived.RowKit3
import Derived.Deep.LoopGhost
import Derived.Deep.QuietTactic
import Derived.BigQuiet
import Derived.WideLaws
import Derived.Deep.DeepCutAuto
import Derived.Deep.CutBlock
import Derived.Deep.RegionHeld3
import Derived.Laws.Rows
import Derived.Lib.AppendStr
import Derived.ArgAppend
import Derived.Laws.IdiomCopy
import Derived.OrdersHeld
import Derived.Laws.BitsLemmas
import Derived.RowKit
import Derived.Lib.ItoaLen
import Derived.Lib.ParseIntBCases
import Derived.Lib.Hide
set_option maxHeartbeats 16000000
set_option maxRecDepth 100000
set_option linter.unusedVariables false
set_option linter.unusedSimpArgs false
namespace Go.Proofs.YtffojmgmpfjlhaaGreatDoor
open Go.RowKit Go.Proofs.YtffojmgmpfjlhaaGreatDoorW.PrintWords
section
open Go.Proofs.YtffojmgmpfjlhaaGreatDoorW.PrintLast
def fb (n b:Nat):Array Bool:=((List.range n).map b.testBit).toArray
def fl (n k:Nat):Array Bool:=((List.range n).map (Nat.blt · k)).toArray
theorem hbc {w w':World} {a:Addr} {v:Value} (H:Below w.heap.size w w') (h:w.cell? a=some v):w'.cell? a=some v:=(H.cell (World.block_lt_of_cell? w _ h)).trans h
theorem hbd {w w' w'':World} {a:Addr} {v:Value} (H:Below w.heap.size w w') (h:w.cell? a=some v) (k:w'.cell? a=some v→w''.cell? a=some v:=by exact fun h=>h):w''.cell? a=some v:=k (hbc H h)
section
variable {P:Program} {ops:Array Oper} {Q:Exit→Act→World→Prop} {md:Region.Mode} {S:World→Prop} {ds:List Nat} {N:Tmp} {oi:Oper} {v:Value} {fuel:Nat} {l:Array Bool} {a:Act} {w:World} {a':Act}
theorem pbr (i n b:Nat) (h:wpAnyLast P md ops Q S ds fuel (fb n b) a' w)  (hi:ops[i]?=some oi:=by exact rfl) (hN:oi.dst=some N:=by exact rfl) (hc:anyB md ops l (fb n b) i=true:=by kernel_rfl) (hQ:∀ c a w,Q (.panic c) (a.put oi.dst v) w→Q (.panic c) a w:=by exact fun _ _ _ h=>h) (hy:Yields P ops oi v a:=by refine Or.inl ⟨by rfl,?_⟩;intro w';go_simp;with_reducible rfl) (ha:a.put (some N) v=a':=by simp only [Act.put,List.setIfInBounds_toArray,List.set_cons_zero,List.set_cons_succ,i64_w,i32_w];rfl):wpAnyLast P md ops Q S ds (fuel+1) l a w:=pure_ (fb n b) hi hN hc hQ hy ha h
theorem pqr (i n:Nat) (h:wpAnyLast P md ops Q S ds fuel (fl n (i+1)) a' w)  (hi:ops[i]?=some oi:=by exact rfl) (hN:oi.dst=some N:=by exact rfl) (hc:anyB md ops l (fl n (i+1)) i=true:=by kernel_rfl) (hQ:∀ c a w,Q (.panic c) (a.put oi.dst v) w→Q (.panic c) a w:=by exact fun _ _ _ h=>h) (hy:Yields P ops oi v a:=by refine Or.inl ⟨by rfl,?_⟩;intro w';go_simp;with_reducible rfl) (ha:a.put (some N) v=a':=by simp only [Act.put,List.setIfInBounds_toArray,List.set_cons_zero,List.set_cons_succ,i64_w,i32_w];rfl):wpAnyLast P md ops Q S ds (fuel+1) l a w:=pure_ (fl n (i+1)) hi hN hc hQ hy ha h
theorem pqu (i n:Nat) (h:wpAnyLast P md ops Q S ds fuel (fl n (i+1)) a' w)  (hi:ops[i]?=some oi:=by exact rfl) (hN:oi.dst=some N:=by exact rfl) (hc:anyB md ops l (fl n (i+1)) i=true:=by kernel_rfl) (hQ:∀ c a w,Q (.panic c) (a.put oi.dst v) w→Q (.panic c) a w:=by exact fun _ _ _ h=>h) (hy:Yields P ops oi v a:=by exact Or.inr ⟨by rfl,rfl⟩) (ha:a.put (some N) v=a':=by simp only [Act.put,List.setIfInBounds_toArray,List.set_cons_zero,List.set_cons_succ,i64_w,i32_w];rfl):wpAnyLast P md ops Q S ds (fuel+1) l a w:=pure_ (fl n (i+1)) hi hN hc hQ hy ha h
theorem tbr2 (i n b:Nat) (hS:S w) (h:wpAnyLast P md ops Q S ds fuel (fb n b) a' w)  (hi:ops[i]?=some oi:=by exact rfl) (hN:oi.dst=some N:=by exact rfl) (hc:takeB md ops ds l (fb n b) i=true:=by kernel_rfl) (hQ:∀ c a w,Q (.panic c) (a.put oi.dst v) w→Q (.panic c) a w:=by exact fun _ _ _ h=>h) (hy:YieldsIf P ops S oi v a:=by refine Or.inl ⟨by rfl,?_⟩;rintro w' ⟨s0,s1⟩;go_simp;with_reducible rfl) (ha:a.put (some N) v=a':=by simp only [Act.put,List.setIfInBounds_toArray,List.set_cons_zero,List.set_cons_succ,i64_w,i32_w];rfl):wpAnyLast P md ops Q S ds (fuel+1) l a w:=take_ (fb n b) hi hN hc hQ hy hS ha h
theorem tbr3 (i n b:Nat) (hS:S w) (h:wpAnyLast P md ops Q S ds fuel (fb n b) a' w)  (hi:ops[i]?=some oi:=by exact rfl) (hN:oi.dst=some N:=by exact rfl) (hc:takeB md ops ds l (fb n b) i=true:=by kernel_rfl) (hQ:∀ c a w,Q (.panic c) (a.put oi.dst v) w→Q (.panic c) a w:=by exact fun _ _ _ h=>h) (hy:YieldsIf P ops S oi v a:=by refine Or.inl ⟨by rfl,?_⟩;rintro w' ⟨s0,s1,s2⟩;go_simp;with_reducible rfl) (ha:a.put (some N) v=a':=by simp only [Act.put,List.setIfInBounds_toArray,List.set_cons_zero,List.set_cons_succ,i64_w,i32_w];rfl):wpAnyLast P md ops Q S ds (fuel+1) l a w:=take_ (fb n b) hi hN hc hQ hy hS ha h
theorem tbr4 (i n b:Nat) (hS:S w) (h:wpAnyLast P md ops Q S ds fuel (fb n b) a' w)  (hi:ops[i]?=some oi:=by exact rfl) (hN:oi.dst=some N:=by exact rfl) (hc:takeB md ops ds l (fb n b) i=true:=by kernel_rfl) (hQ:∀ c a w,Q (.panic c) (a.put oi.dst v) w→Q (.panic c) a w:=by exact fun _ _ _ h=>h) (hy:YieldsIf P ops S oi v a:=by refine Or.inl ⟨by rfl,?_⟩;rintro w' ⟨s0,s1,s2,s3⟩;go_simp;with_reducible rfl) (ha:a.put (some N) v=a':=by simp only [Act.put,List.setIfInBounds_toArray,List.set_cons_zero,List.set_cons_succ,i64_w,i32_w];rfl):wpAnyLast P md ops Q S ds (fuel+1) l a w:=take_ (fb n b) hi hN hc hQ hy hS ha h
theorem tbr6 (i n b:Nat) (hS:S w) (h:wpAnyLast P md ops Q S ds fuel (fb n b) a' w)  (hi:ops[i]?=some oi:=by exact rfl) (hN:oi.dst=some N:=by exact rfl) (hc:takeB md ops ds l (fb n b) i=true:=by kernel_rfl) (hQ:∀ c a w,Q (.panic c) (a.put oi.dst v) w→Q (.panic c) a w:=by exact fun _ _ _ h=>h) (hy:YieldsIf P ops S oi v a:=by refine Or.inl ⟨by rfl,?_⟩;rintro w' ⟨s0,s1,s2,s3,s4,s5⟩;go_simp;with_reducible rfl) (ha:a.put (some N) v=a':=by simp only [Act.put,List.setIfInBounds_toArray,List.set_cons_zero,List.set_cons_succ,i64_w,i32_w];rfl):wpAnyLast P md ops Q S ds (fuel+1) l a w:=take_ (fb n b) hi hN hc hQ hy hS ha h
theorem tqr2 (i n:Nat) (hS:S w) (h:wpAnyLast P md ops Q S ds fuel (fl n (i+1)) a' w)  (hi:ops[i]?=some oi:=by exact rfl) (hN:oi.dst=some N:=by exact rfl) (hc:takeB md ops ds l (fl n (i+1)) i=true:=by kernel_rfl) (hQ:∀ c a w,Q (.panic c) (a.put oi.dst v) w→Q (.panic c) a w:=by exact fun _ _ _ h=>h) (hy:YieldsIf P ops S oi v a:=by refine Or.inl ⟨by rfl,?_⟩;rintro w' ⟨s0,s1⟩;go_simp;with_reducible rfl) (ha:a.put (some N) v=a':=by simp only [Act.put,List.setIfInBounds_toArray,List.set_cons_zero,List.set_cons_succ,i64_w,i32_w];rfl):wpAnyLast P md ops Q S ds (fuel+1) l a w:=take_ (fl n (i+1)) hi hN hc hQ hy hS ha h
theorem tqr3 (i n:Nat) (hS:S w) (h:wpAnyLast P md ops Q S ds fuel (fl n (i+1)) a' w)  (hi:ops[i]?=some oi:=by exact rfl) (hN:oi.dst=some N:=by exact rfl) (hc:takeB md ops ds l (fl n (i+1)) i=true:=by kernel_rfl) (hQ:∀ c a w,Q (.panic c) (a.put oi.dst v) w→Q (.panic c) a w:=by exact fun _ _ _ h=>h) (hy:YieldsIf P ops S oi v a:=by refine Or.inl ⟨by rfl,?_⟩;rintro w' ⟨s0,s1,s2⟩;go_simp;with_reducible rfl) (ha:a.put (some N) v=a':=by simp only [Act.put,List.setIfInBounds_toArray,List.set_cons_zero,List.set_cons_succ,i64_w,i32_w];rfl):wpAnyLast P md ops Q S ds (fuel+1) l a w:=take_ (fl n (i+1)) hi hN hc hQ hy hS ha h
theorem tqr4 (i n:Nat) (hS:S w) (h:wpAnyLast P md ops Q S ds fuel (fl n (i+1)) a' w)  (hi:ops[i]?=some oi:=by exact rfl) (hN:oi.dst=some N:=by exact rfl) (hc:takeB md ops ds l (fl n (i+1)) i=true:=by kernel_rfl) (hQ:∀ c a w,Q (.panic c) (a.put oi.dst v) w→Q (.panic c) a w:=by exact fun _ _ _ h=>h) (hy:YieldsIf P ops S oi v a:=by refine Or.inl ⟨by rfl,?_⟩;rintro w' ⟨s0,s1,s2,s3⟩;go_simp;with_reducible rfl) (ha:a.put (some N) v=a':=by simp only [Act.put,List.setIfInBounds_toArray,List.set_cons_zero,List.set_cons_succ,i64_w,i32_w];rfl):wpAnyLast P md ops Q S ds (fuel+1) l a w:=take_ (fl n (i+1)) hi hN hc hQ hy hS ha h
theorem tqr5 (i n:Nat) (hS:S w) (h:wpAnyLast P md ops Q S ds fuel (fl n (i+1)) a' w)  (hi:ops[i]?=some oi:=by exact rfl) (hN:oi.dst=some N:=by exact rfl) (hc:takeB md ops ds l (fl n (i+1)) i=true:=by kernel_rfl) (hQ:∀ c a w,Q (.panic c) (a.put oi.dst v) w→Q (.panic c) a w:=by exact fun _ _ _ h=>h) (hy:YieldsIf P ops S oi v a:=by refine Or.inl ⟨by rfl,?_⟩;rintro w' ⟨s0,s1,s2,s3,s4⟩;go_simp;with_reducible rfl) (ha:a.put (some N) v=a':=by simp only [Act.put,List.setIfInBounds_toArray,List.set_cons_zero,List.set_cons_succ,i64_w,i32_w];rfl):wpAnyLast P md ops Q S ds (fuel+1) l a w:=take_ (fl n (i+1)) hi hN hc hQ hy hS ha h
theorem tqr6 (i n:Nat) (hS:S w) (h:wpAnyLast P md ops Q S ds fuel (fl n (i+1)) a' w)  (hi:ops[i]?=some oi:=by exact rfl) (hN:oi.dst=some N:=by exact rfl) (hc:takeB md ops ds l (fl n (i+1)) i=true:=by kernel_rfl) (hQ:∀ c a w,Q (.panic c) (a.put oi.dst v) w→Q (.panic c) a w:=by exact fun _ _ _ h=>h) (hy:YieldsIf P ops S oi v a:=by refine Or.inl ⟨by rfl,?_⟩;rintro w' ⟨s0,s1,s2,s3,s4,s5⟩;go_simp;with_reducible rfl) (ha:a.put (some N) v=a':=by simp only [Act.put,List.setIfInBounds_toArray,List.set_cons_zero,List.set_cons_succ,i64_w,i32_w];rfl):wpAnyLast P md ops Q S ds (fuel+1) l a w:=take_ (fl n (i+1)) hi hN hc hQ hy hS ha h
end
theorem zs1 (x:UInt8):(⟨#[x]⟩:ByteArray).size=1:=rfl
theorem zs2 (x y:UInt8):(⟨#[x,y]⟩:ByteArray).size=2:=rfl
theorem zs3 (x y z:UInt8):(⟨#[x,y,z]⟩:ByteArray).size=3:=rfl
theorem kRd {α:Type} {d:Kd α} {e:Nat} {w w':World} {b:Nat} {ok:Nat→Prop} {v:Value} {xs:List α} (h:d.R e w b ok v xs) (t:d.R e w b ok v xs→d.R e w' b ok v xs:=by intro h;(with_reducible repeat (first | apply Kd.R_alloc | apply Kd.R_drewN | apply Kd.R_drew));exact h):d.R e w' b ok v xs:=t h
theorem a61 {w w':World} {A:Option Addr} {n:Nat} {xs:List Q.S61} (h:Kd.C Q.k61 w A n xs) (H:Below w.heap.size w w') (i:Int) (h0:0≤i) (h1:i < n):∃ ad,A=some ad∧w.cell? (ad.add (i.toNat * 3))=some (.string (Q.rd_T61 xs i).f0)∧w.cell? ⟨(ad.add (i.toNat * 3)).block,(ad.add (i.toNat * 3)).off+1,none⟩=some (.int .i64 (Q.rd_T61 xs i).f1)∧w.cell? ⟨(ad.add (i.toNat * 3)).block,(ad.add (i.toNat * 3)).off+2,none⟩=some (.int .i64 (Q.rd_T61 xs i).f2)∧w'.cell? (ad.add (i.toNat * 3))=some (.string (Q.rd_T61 xs i).f0)∧w'.cell? ⟨(ad.add (i.toNat * 3)).block,(ad.add (i.toNat * 3)).off+1,none⟩=some (.int .i64 (Q.rd_T61 xs i).f1)∧w'.cell? ⟨(ad.add (i.toNat * 3)).block,(ad.add (i.toNat * 3)).off+2,none⟩=some (.int .i64 (Q.rd_T61 xs i).f2)∧(0≤i)=True∧(i < (n:Int))=True:=by
 obtain ⟨ad,e,x0,x1,x2⟩:=Q.at_T61 h i h0 h1
 exact ⟨ad,e,x0,x1,x2,hbc H x0,hbc H x1,hbc H x2,eq_true h0,eq_true h1⟩
end
end Go.Proofs.YtffojmgmpfjlhaaGreatDoor
namespace Go.Proofs.YtffojmgmpfjlhaaGreatDoor.Q
open Go.Proofs.YtffojmgmpfjlhaaGreatDoor Go.RowKit Go.Proofs.YtffojmgmpfjlhaaGreatDoorW.PrintWords Go.Proofs.YtffojmgmpfjlhaaGreatDoorW.PrintLast Go.Proofs.YtffojmgmpfjlhaaGreatDoorW.PrintMore
attribute [local go_sem] max2_int min2_int max_two min_two max_three min_three max_four min_four
theorem info2:(Tryz.prog.info? 2).map (fun i=>(i.zero,i.size,i.bytes))=some (some (.int .i64 0),1,8):=by kernel_rfl
theorem k61_openM {w:World} {base:Nat} {ok:Nat→Prop} {x:S61} {cs:List Value} (h:k61.M w base ok x cs):cs=[.string x.f0,.int .i64 x.f1,.int .i64 x.f2]:=by
 obtain ⟨_,_,rfl,rfl,⟨_,_,rfl,rfl,rfl⟩⟩:=h;exact rfl
def k23:Kd S23:=Kd.iso (Kd.pair (Kd.int .i64) (Kd.pair (Kd.int .i64) (Kd.pair (Kd.int .i64) (Kd.int .i64)))) (fun x:S23=>(x.f0,x.f1,x.f2,x.f3))
theorem k23_open {w:World} {x:S23} {cs:List Value} (h:k23.K w x cs):cs=[.int .i64 x.f0,.int .i64 x.f1,.int .i64 x.f2,.int .i64 x.f3]:=by
 obtain ⟨_,_,rfl,rfl,⟨_,_,rfl,rfl,⟨_,_,rfl,rfl,rfl⟩⟩⟩:=h;exact rfl
theorem k23_mkM (w:World) (base:Nat) (ok:Nat→Prop) (x:S23)  : k23.M w base ok x [.int .i64 x.f0,.int .i64 x.f1,.int .i64 x.f2,.int .i64 x.f3]:=⟨[.int .i64 x.f0],[.int .i64 x.f1,.int .i64 x.f2,.int .i64 x.f3],rfl,rfl,⟨[.int .i64 x.f1],[.int .i64 x.f2,.int .i64 x.f3],rfl,rfl,⟨[.int .i64 x.f2],[.int .i64 x.f3],rfl,rfl,rfl⟩⟩⟩
structure S132 where
 f0:ByteArray
 f1:Bool
 f2:Bool
 f3:S23
 f4:ByteArray
 f5:Bool
 f6:Bool
def z132:S132:=⟨(⟨#[]⟩:zB),false,false,z23,(⟨#[]⟩:zB),false,false⟩
def k132:Kd S132:=Kd.iso (Kd.pair Kd.string (Kd.pair Kd.bool (Kd.pair Kd.bool (Kd.pair k23 (Kd.pair Kd.string (Kd.pair Kd.bool Kd.bool)))))) (fun x:S132=>(x.f0,x.f1,x.f2,x.f3,x.f4,x.f5,x.f6))
theorem k132_open {w:World} {x:S132} {cs:List Value} (h:k132.K w x cs):cs=[.string x.f0,.bool x.f1,.bool x.f2,.int .i64 x.f3.f0,.int .i64 x.f3.f1,.int .i64 x.f3.f2,.int .i64 x.f3.f3,.string x.f4,.bool x.f5,.bool x.f6]:=by
 obtain ⟨_,_,rfl,rfl,⟨_,_,rfl,rfl,⟨_,_,rfl,rfl,⟨_,_,rfl,s3,⟨_,_,rfl,rfl,⟨_,_,rfl,rfl,rfl⟩⟩⟩⟩⟩⟩:=h;obtain rfl:=k23_open s3;exact rfl
theorem k132_mkM (w:World) (base:Nat) (ok:Nat→Prop) (x:S132)  : k132.M w base ok x [.string x.f0,.bool x.f1,.bool x.f2,.int .i64 x.f3.f0,.int .i64 x.f3.f1,.int .i64 x.f3.f2,.int .i64 x.f3.f3,.string x.f4,.bool x.f5,.bool x.f6]:=⟨[.string x.f0],[.bool x.f1,.bool x.f2,.int .i64 x.f3.f0,.int .i64 x.f3.f1,.int .i64 x.f3.f2,.int .i64 x.f3.f3,.string x.f4,.bool x.f5,.bool x.f6],rfl,rfl,⟨[.bool x.f1],[.bool x.f2,.int .i64 x.f3.f0,.int .i64 x.f3.f1,.int .i64 x.f3.f2,.int .i64 x.f3.f3,.string x.f4,.bool x.f5,.bool x.f6],rfl,rfl,⟨[.bool x.f2],[.int .i64 x.f3.f0,.int .i64 x.f3.f1,.int .i64 x.f3.f2,.int .i64 x.f3.f3,.string x.f4,.bool x.f5,.bool x.f6],rfl,rfl,⟨[.int .i64 x.f3.f0,.int .i64 x.f3.f1,.int .i64 x.f3.f2,.int .i64 x.f3.f3],[.string x.f4,.bool x.f5,.bool x.f6],rfl,(k23_mkM w base ok x.f3 ),⟨[.string x.f4],[.bool x.f5,.bool x.f6],rfl,rfl,⟨[.bool x.f5],[.bool x.f6],rfl,rfl,rfl⟩⟩⟩⟩⟩⟩
def rd_T132 (xs:List S132) (i:Int):S132:=xs.getD i.toNat z132
theorem at_T132 {w:World} {A:Option Addr} {n:Nat} {xs:List S132} (h:Kd.C k132 w A n xs) (i:Int) (h0:0≤i) (h1:i < n):∃ ad , A=some ad∧w.cell? (ad.add (i.toNat * 10))=some (.string (rd_T132 xs i).f0)∧w.cell? ⟨(ad.add (i.toNat * 10)).block,(ad.add (i.toNat * 10)).off+1,none⟩=some (.bool (rd_T132 xs i).f1)∧w.cell? ⟨(ad.add (i.toNat * 10)).block,(ad.add (i.toNat * 10)).off+2,none⟩=some (.bool (rd_T132 xs i).f2)∧w.cell? ⟨(ad.add (i.toNat * 10)).block,(ad.add (i.toNat * 10)).off+3,none⟩=some (.int .i64 (rd_T132 xs i).f3.f0)∧w.cell? ⟨(ad.add (i.toNat * 10)).block,(ad.add (i.toNat * 10)).off+4,none⟩=some (.int .i64 (rd_T132 xs i).f3.f1)∧w.cell? ⟨(ad.add (i.toNat * 10)).block,(ad.add (i.toNat * 10)).off+5,none⟩=some (.int .i64 (rd_T132 xs i).f3.f2)∧w.cell? ⟨(ad.add (i.toNat * 10)).block,(ad.add (i.toNat * 10)).off+6,none⟩=some (.int .i64 (rd_T132 xs i).f3.f3)∧w.cell? ⟨(ad.add (i.toNat * 10)).block,(ad.add (i.toNat * 10)).off+7,none⟩=some (.string (rd_T132 xs i).f4)∧w.cell? ⟨(ad.add (i.toNat * 10)).block,(ad.add (i.toNat * 10)).off+8,none⟩=some (.bool (rd_T132 xs i).f5)∧w.cell? ⟨(ad.add (i.toNat * 10)).block,(ad.add (i.toNat * 10)).off+9,none⟩=some (.bool (rd_T132 xs i).f6):=by
 obtain ⟨ad,c,e,_,hK,hc0⟩:=Kd.C_get h z132 i h0 h1;have hc:∀ j u,c[j]?=some u→w.cell? (ad.add (i.toNat * 10+j))=some u:=hc0;obtain rfl:=k132_open hK;exact ⟨ad,e,hc 0 _ rfl,by rw [← add_field _ _ 1 (by omega)];exact hc 1 _ rfl,by rw [← add_field _ _ 2 (by omega)];exact hc 2 _ rfl,by rw [← add_field _ _ 3 (by omega)];exact hc 3 _ rfl,by rw [← add_field _ _ 4 (by omega)];exact hc 4 _ rfl,by rw [← add_field _ _ 5 (by omega)];exact hc 5 _ rfl,by rw [← add_field _ _ 6 (by omega)];exact hc 6 _ rfl,by rw [← add_field _ _ 7 (by omega)];exact hc 7 _ rfl,by rw [← add_field _ _ 8 (by omega)];exact hc 8 _ rfl,by rw [← add_field _ _ 9 (by omega)];exact hc 9 _ rfl⟩
end Go.Proofs.YtffojmgmpfjlhaaGreatDoor.Q
namespace Go.Proofs.YtffojmgmpfjlhaaGreatDoor.Q
open Go.Proofs.Ix hiding rd
open Go Go.Proofs.YtffojmgmpfjlhaaGreatDoor Go.RowKit Go.Proofs.YtffojmgmpfjlhaaGreatDoorW.PrintWords
theorem toS (l:List UInt8):(bS l).data.toList=l:=by simp [bS]
theorem ext_toL (s:ByteArray) (a b:Nat):(s.extract a b).data.toList=(s.data.toList.drop a).take (b - a):=by
 simp [ByteArray.data_extract,Array.toList_extract,List.take_drop]
def Cur (l:L9) (t:List UInt8):Prop:=l.s.data.toList.drop l.at_=t∧l.at_≤l.s.size
theorem sz_list (s:ByteArray):s.data.toList.length=s.size:=by rw [Array.length_toList];rfl
theorem Cur.len {l:L9} {t:List UInt8} (h:Cur l t):l.at_+t.length=l.s.size:=by
 have:=h.2
 rw [← h.1,List.length_drop,sz_list]
 omega
theorem Cur.at0 {l:L9} {c:UInt8} {t:List UInt8} (h:Cur l (c :: t)):∃ hlt:l.at_ < l.s.size,l.s[l.at_]=c:=by
 have hl:=h.len
 rw [List.length_cons] at hl
 have hlt:l.at_ < l.s.size:=by omega
 refine ⟨hlt,?_⟩
 have h1:=h.1
 rw [List.drop_eq_getElem_cons (by rw [sz_list];exact hlt)] at h1
 have h2:=(List.cons.inj h1).1
 rw [Array.getElem_toList] at h2
 exact h2
theorem Cur.hit {l:L9} {c:UInt8} {t:List UInt8} (h:Cur l (c :: t)) (n:Nat):l.hit n=(c.toNat == n):=by
 obtain ⟨h1,h2⟩:=h.at0
 unfold L9.hit L9.peek
 rw [dif_pos h1,decide_eq_true h1,h2]
 rfl
theorem Cur.peek {l:L9} {c:UInt8} {t:List UInt8} (h:Cur l (c :: t)):l.peek=c.toNat:=by
 obtain ⟨h1,h2⟩:=h.at0
 unfold L9.peek
 rw [dif_pos h1,h2]
theorem Cur.run {l:L9} {x t:List UInt8} (h:Cur l (x ++ t)) (p:UInt8→Bool) (hx:∀ c∈x,p c=true) (ht:∀ c t',t=c :: t'→p c=false):runB p l.s l.at_=l.at_+x.length:=by
 unfold runB runEnd
 rw [h.1,List.takeWhile_append_of_pos hx]
 have:t.takeWhile p=[]:=by
  cases t with
  | nil=>rfl
  | cons c t'=>rw [List.takeWhile_cons,if_neg (by rw [ht c t' rfl];decide)]
 rw [this,List.append_nil]
theorem Cur.word {l:L9} {x t:List UInt8} (h:Cur l (x ++ t)):(l.s.extract l.at_ (l.at_+x.length)).data.toList=x:=by
 rw [ext_toL,h.1,Nat.add_sub_cancel_left,List.take_left]
def regW (x:Int):List UInt8:=[114,UInt8.ofNat (48+x.toNat)]
end Go.Proofs.YtffojmgmpfjlhaaGreatDoor.Q
namespace Go.Proofs.YtffojmgmpfjlhaaGreatDoor.Q
open Go.Proofs.YtffojmgmpfjlhaaGreatDoor Go.RowKit Go.Proofs.YtffojmgmpfjlhaaGreatDoorW.PrintWords Go.Proofs.YtffojmgmpfjlhaaGreatDoorW.PrintLast Go.Proofs.YtffojmgmpfjlhaaGreatDoorW.PrintMore
mutual
def rzForm.j0:Nat→Int→Bool→Option (Int)
 | 0,_,_=>none
 | k+1,x3,x4=>if x4=true then (some 1) else (if x3=2 then (rzForm.j1 k x3 (x3 == 2)) else (if x3=5 then (rzForm.j1 k x3 (x3 == 5)) else (if x3=6 then (rzForm.j1 k x3 (x3 == 6)) else (if x3=7 then (rzForm.j1 k x3 (x3 == 7)) else (if x3=8 then (rzForm.j1 k x3 (x3 == 8)) else (if x3=9 then (rzForm.j1 k x3 (x3 == 9)) else (if x3=10 then (rzForm.j1 k x3 (x3 == 10)) else (if x3=11 then (rzForm.j1 k x3 (x3 == 11)) else (if x3=12 then (rzForm.j1 k x3 (x3 == 12)) else (if x3=13 then (rzForm.j1 k x3 (x3 == 13)) else (if x3=14 then (rzForm.j1 k x3 (x3 == 14)) else (rzForm.j1 k x3 (x3 == 15)))))))))))))
def rzForm.j1:Nat→Int→Bool→Option (Int)
 | 0,_,_=>none
 | k+1,x3,x8=>if x8=true then (some 2) else (if x3=3 then (some 3) else (if x3=4 then (rzForm.j2 k x3 (x3 == 4)) else (rzForm.j2 k x3 (x3 == 16))))
def rzForm.j2:Nat→Int→Bool→Option (Int)
 | 0,_,_=>none
 | k+1,x3,x23=>if x23=true then (some 4) else (if x3=17 then (rzForm.j3 k x3 (x3 == 17)) else (if x3=18 then (rzForm.j3 k x3 (x3 == 18)) else (if x3=19 then (rzForm.j3 k x3 (x3 == 19)) else (rzForm.j3 k x3 (x3 == 20)))))
def rzForm.j3:Nat→Int→Bool→Option (Int)
 | 0,_,_=>none
 | k+1,x3,x26=>if x26=true then (some 5) else (if x3=21 then (rzForm.j4 k x3 (x3 == 21)) else (if x3=22 then (rzForm.j4 k x3 (x3 == 22)) else (if x3=23 then (rzForm.j4 k x3 (x3 == 23)) else (rzForm.j4 k x3 (x3 == 24)))))
def rzForm.j4:Nat→Int→Bool→Option (Int)
 | 0,_,_=>none
 | k+1,x3,x31=>if x31=true then (some 6) else (if x3=25 then (rzForm.j5 k x3 (x3 == 25)) else (rzForm.j5 k x3 (x3 == 27)))
def rzForm.j5:Nat→Int→Bool→Option (Int)
 | 0,_,_=>none
 | k+1,x3,x36=>if x36=true then (some 7) else (if x3=26 then (rzForm.j6 k x3 (x3 == 26)) else (if x3=28 then (rzForm.j6 k x3 (x3 == 28)) else (if x3=30 then (rzForm.j6 k x3 (x3 == 30)) else (rzForm.j6 k x3 (x3 == 31)))))
def rzForm.j6:Nat→Int→Bool→Option (Int)
 | 0,_,_=>none
 | k+1,x3,x39=>if x39=true then (some 8) else (if x3=32 then (some 9) else (if x3=33 then (some 10) else (if x3=34 then (some 11) else (some 0))))
end
def rzForm.f (k:Nat) (a0:Int):Option (Int):=if a0=1 then (rzForm.j0 k a0 (a0 == 1)) else (if a0=29 then (rzForm.j0 k a0 (a0 == 29)) else (rzForm.j0 k a0 (a0 == 76)))
theorem rzForm.mono_l:∀ k,(∀ y0 y1,LeO (rzForm.j0 k y0 y1) (rzForm.j0 (k+1) y0 y1))∧(∀ y0 y1,LeO (rzForm.j1 k y0 y1) (rzForm.j1 (k+1) y0 y1))∧(∀ y0 y1,LeO (rzForm.j2 k y0 y1) (rzForm.j2 (k+1) y0 y1))∧(∀ y0 y1,LeO (rzForm.j3 k y0 y1) (rzForm.j3 (k+1) y0 y1))∧(∀ y0 y1,LeO (rzForm.j4 k y0 y1) (rzForm.j4 (k+1) y0 y1))∧(∀ y0 y1,LeO (rzForm.j5 k y0 y1) (rzForm.j5 (k+1) y0 y1))∧(∀ y0 y1,LeO (rzForm.j6 k y0 y1) (rzForm.j6 (k+1) y0 y1))
 | 0=>⟨fun _ _ r h=>by simp [rzForm.j0] at h,fun _ _ r h=>by simp [rzForm.j1] at h,fun _ _ r h=>by simp [rzForm.j2] at h,fun _ _ r h=>by simp [rzForm.j3] at h,fun _ _ r h=>by simp [rzForm.j4] at h,fun _ _ r h=>by simp [rzForm.j5] at h,fun _ _ r h=>by simp [rzForm.j6] at h⟩
 | k+1=>by
  obtain ⟨ih0,ih1,ih2,ih3,ih4,ih5,ih6⟩:=rzForm.mono_l k
  refine ⟨?_,?_,?_,?_,?_,?_,?_⟩
  ·intro y0 y1
   unfold rzForm.j0
   repeat' first | (with_reducible first | exact ih0 _ _ | exact ih1 _ _ | exact ih2 _ _ | exact ih3 _ _ | exact ih4 _ _ | exact ih5 _ _ | exact ih6 _ _ | exact LeO.refl _ | exact LeO.none _ | refine LeO.ite ?_ ?_ | refine LeO.bind ?_ (fun _=>?_)) | exact ih0 _ _ | exact ih1 _ _ | exact ih2 _ _ | exact ih3 _ _ | exact ih4 _ _ | exact ih5 _ _ | exact ih6 _ _ | exact LeO.none _ | refine LeO.ite ?_ ?_ | refine LeO.bind ?_ (fun _=>?_)
  ·intro y0 y1
   unfold rzForm.j1
   repeat' first | (with_reducible first | exact ih0 _ _ | exact ih1 _ _ | exact ih2 _ _ | exact ih3 _ _ | exact ih4 _ _ | exact ih5 _ _ | exact ih6 _ _ | exact LeO.refl _ | exact LeO.none _ | refine LeO.ite ?_ ?_ | refine LeO.bind ?_ (fun _=>?_)) | exact ih0 _ _ | exact ih1 _ _ | exact ih2 _ _ | exact ih3 _ _ | exact ih4 _ _ | exact ih5 _ _ | exact ih6 _ _ | exact LeO.none _ | refine LeO.ite ?_ ?_ | refine LeO.bind ?_ (fun _=>?_)
  ·intro y0 y1
   unfold rzForm.j2
   repeat' first | (with_reducible first | exact ih0 _ _ | exact ih1 _ _ | exact ih2 _ _ | exact ih3 _ _ | exact ih4 _ _ | exact ih5 _ _ | exact ih6 _ _ | exact LeO.refl _ | exact LeO.none _ | refine LeO.ite ?_ ?_ | refine LeO.bind ?_ (fun _=>?_)) | exact ih0 _ _ | exact ih1 _ _ | exact ih2 _ _ | exact ih3 _ _ | exact ih4 _ _ | exact ih5 _ _ | exact ih6 _ _ | exact LeO.none _ | refine LeO.ite ?_ ?_ | refine LeO.bind ?_ (fun _=>?_)
  ·intro y0 y1
   unfold rzForm.j3
   repeat' first | (with_reducible first | exact ih0 _ _ | exact ih1 _ _ | exact ih2 _ _ | exact ih3 _ _ | exact ih4 _ _ | exact ih5 _ _ | exact ih6 _ _ | exact LeO.refl _ | exact LeO.none _ | refine LeO.ite ?_ ?_ | refine LeO.bind ?_ (fun _=>?_)) | exact ih0 _ _ | exact ih1 _ _ | exact ih2 _ _ | exact ih3 _ _ | exact ih4 _ _ | exact ih5 _ _ | exact ih6 _ _ | exact LeO.none _ | refine LeO.ite ?_ ?_ | refine LeO.bind ?_ (fun _=>?_)
  ·intro y0 y1
   unfold rzForm.j4
   repeat' first | (with_reducible first | exact ih0 _ _ | exact ih1 _ _ | exact ih2 _ _ | exact ih3 _ _ | exact ih4 _ _ | exact ih5 _ _ | exact ih6 _ _ | exact LeO.refl _ | exact LeO.none _ | refine LeO.ite ?_ ?_ | refine LeO.bind ?_ (fun _=>?_)) | exact ih0 _ _ | exact ih1 _ _ | exact ih2 _ _ | exact ih3 _ _ | exact ih4 _ _ | exact ih5 _ _ | exact ih6 _ _ | exact LeO.none _ | refine LeO.ite ?_ ?_ | refine LeO.bind ?_ (fun _=>?_)
  ·intro y0 y1
   unfold rzForm.j5
   repeat' first | (with_reducible first | exact ih0 _ _ | exact ih1 _ _ | exact ih2 _ _ | exact ih3 _ _ | exact ih4 _ _ | exact ih5 _ _ | exact ih6 _ _ | exact LeO.refl _ | exact LeO.none _ | refine LeO.ite ?_ ?_ | refine LeO.bind ?_ (fun _=>?_)) | exact ih0 _ _ | exact ih1 _ _ | exact ih2 _ _ | exact ih3 _ _ | exact ih4 _ _ | exact ih5 _ _ | exact ih6 _ _ | exact LeO.none _ | refine LeO.ite ?_ ?_ | refine LeO.bind ?_ (fun _=>?_)
  ·intro y0 y1
   unfold rzForm.j6
   repeat' first | (with_reducible first | exact ih0 _ _ | exact ih1 _ _ | exact ih2 _ _ | exact ih3 _ _ | exact ih4 _ _ | exact ih5 _ _ | exact ih6 _ _ | exact LeO.refl _ | exact LeO.none _ | refine LeO.ite ?_ ?_ | refine LeO.bind ?_ (fun _=>?_)) | exact ih0 _ _ | exact ih1 _ _ | exact ih2 _ _ | exact ih3 _ _ | exact ih4 _ _ | exact ih5 _ _ | exact ih6 _ _ | exact LeO.none _ | refine LeO.ite ?_ ?_ | refine LeO.bind ?_ (fun _=>?_)
theorem rzForm.mono:∀ a0 k,LeO (rzForm.f k a0) (rzForm.f (k+1) a0):=by
 intro a0 k
 obtain ⟨ih0,ih1,ih2,ih3,ih4,ih5,ih6⟩:=rzForm.mono_l k
 unfold rzForm.f
 repeat' first | (with_reducible first | exact ih0 _ _ | exact ih1 _ _ | exact ih2 _ _ | exact ih3 _ _ | exact ih4 _ _ | exact ih5 _ _ | exact ih6 _ _ | exact LeO.refl _ | exact LeO.none _ | refine LeO.ite ?_ ?_ | refine LeO.bind ?_ (fun _=>?_)) | exact ih0 _ _ | exact ih1 _ _ | exact ih2 _ _ | exact ih3 _ _ | exact ih4 _ _ | exact ih5 _ _ | exact ih6 _ _ | exact LeO.none _ | refine LeO.ite ?_ ?_ | refine LeO.bind ?_ (fun _=>?_)
theorem form_up (k:Nat) (op r:Int) (h:rzForm.f k op=some r):∀ j,rzForm.f (k+j) op=some r
 | 0=>h
 | j+1=>rzForm.mono op (k+j) r (form_up k op r h j)
theorem rzForm.calls (k:Nat) (a0:Int) (r:Int) (w:World) (h:rzForm.f k a0=some r) :
  Calls Tryz.prog 51 #[.int .i64 a0] w fun e w'=>e=.returned (.int .i64 r)∧Drawn0 w w':=by
 have hr:=form_up k a0 r h 12
 clear h
 have H:=Aside0.mk hr
 clear hr
 go_enter Tryz.func51,Tryz.ntmps51
 go_wp2
 all_goals first | (have hv:=‹(a0 == _)=true›;rw [beq_iff_eq] at hv;subst hv;have h:=H.out;simp only [rzForm.f,rzForm.j0,rzForm.j1,rzForm.j2,rzForm.j3,rzForm.j4,rzForm.j5,rzForm.j6] at h;cases h;go_ret;exact ⟨rfl,Drawn0.refl _⟩) | (simp only [beq_eq_false_iff_ne,ne_eq] at *;have h:=H.out;simp [*,rzForm.f,rzForm.j0,rzForm.j1,rzForm.j2,rzForm.j3,rzForm.j4,rzForm.j5,rzForm.j6] at h;subst h;go_ret;exact ⟨rfl,Drawn0.refl _⟩)
def mnL:List ByteArray:=[⟨#[]⟩,⟨#[110,111,112]⟩,⟨#[109,111,118,101]⟩,⟨#[115,101,116]⟩,⟨#[108,105,116]⟩,⟨#[97,100,100]⟩,⟨#[115,117,98]⟩,⟨#[109,117,108]⟩,⟨#[100,105,118]⟩,⟨#[109,111,100]⟩,⟨#[97,110,100]⟩,⟨#[111,114]⟩,⟨#[120,111,114]⟩,⟨#[115,104,108]⟩,⟨#[115,104,114]⟩,⟨#[115,97,114]⟩,⟨#[105,110,99]⟩,⟨#[108,111,97,100,49]⟩,⟨#[108,111,97,100,56]⟩,⟨#[115,116,111,114,101,49]⟩,⟨#[115,116,111,114,101,56]⟩,⟨#[98,101,113]⟩,⟨#[98,110,101]⟩,⟨#[98,108,116]⟩,⟨#[98,103,101]⟩,⟨#[106,117,109,112]⟩,⟨#[106,117,109,112,114]⟩,⟨#[99,97,108,108]⟩,⟨#[99,97,108,108,114]⟩,⟨#[114,101,116]⟩,⟨#[112,117,115,104]⟩,⟨#[112,111,112]⟩,⟨#[108,101,97]⟩,⟨#[115,121,115]⟩,⟨#[115,119,97,112]⟩]
def rzMnemonic.f (a0:Int):Option ByteArray:=if a0=76 then some ⟨#[98,114,101,97,107]⟩ else if a0 < 0 then some ⟨#[]⟩ else if a0 < 35 then some (mnL.getD a0.toNat ⟨#[]⟩) else some ⟨#[]⟩
theorem reps_strs (W:World) (b:Nat) (ok:Nat→Prop):∀ xs:List ByteArray,Reps (Kd.M Kd.string W b ok) 1 xs (xs.map Value.string)
 | []=>Reps.none _ _
 | x :: xs=>Reps.one (show Kd.M Kd.string W b ok x [.string x] from rfl) (reps_strs W b ok xs)
theorem str_at1 {W:World} {b g n c:Nat} {ok:Nat→Prop} {L:List ByteArray} (h:Kd.R Kd.string 9 W b ok (.slice (some ⟨g,0,none⟩) n c) L) (k:Nat) (hk:k < n) (s:ByteArray) (e:L[k]?=some s):W.cell? ⟨g,k,none⟩=some (.string s):=by
 obtain ⟨h1,_,hC⟩:=Kd.R_reads' h
 obtain ⟨ad,cs,ha,_,hK,hc⟩:=Kd.C_get hC ⟨#[]⟩ (k:Int) (by omega) (by omega)
 cases ha
 have hr2:L.getD ((k:Int)).toNat ⟨#[]⟩=s:=by
  rw [show ((k:Int)).toNat=k from rfl,List.getD_eq_getElem?_getD,e]
  rfl
 rw [hr2] at hK
 obtain rfl:cs=[.string s]:=hK
 have:=hc 0 _ rfl
 rw [add_plain] at this
 have e2:((k:Int)).toNat * Kd.string.sz+0=k:=by rw [show ((k:Int)).toNat=k from rfl,show Kd.string.sz=1 from rfl];omega
 rw [e2] at this
 exact this
theorem rzMnemonic.calls (a0:Int) (r:ByteArray) (w:World) (h:rzMnemonic.f a0=some r):Calls Tryz.prog 63 #[.int .i64 a0] w fun e w'=>e=.returned (.string r)∧Below w.heap.size w w':=by
 unfold rzMnemonic.f at h
 have H:=Aside0.mk h
 clear h
 go_enter Tryz.func63,Tryz.ntmps63
 go_upto_region 2 with ((with_reducible refine gate_dst (N:=4) rfl ?_);refine Kd.R_lit Kd.string _ 9 ?hg (N:=4) ?hd (xs:=mnL) (inner:=mnL.map Value.string) (ok:=fun _=>True) (okp:=fun _=>True) ?hr ?hp (fun _ hk=>hk) trivial (Below.refl _ _) (Nat.le_refl _) (Nat.le_of_ble_eq_true rfl) ?_;(case hd=>rfl);(case hg=>rfl);(case hr=>go_simp;exact ⟨rfl,rfl⟩);(case hp=>exact reps_strs _ _ _ _);intro v1 w1 ho1 hb1 hg1 hn1)
 obtain ⟨g,c,e,_⟩:=Kd.R_form ho1 (by decide)
 rw [show mnL.length=35 from rfl] at e
 subst e
 have h:=H.out
 have HO:=Aside0.mk ho1
 clear H ho1 hg1 hn1
 by_cases h76:a0=76
 ·rw [if_pos h76] at h
  subst h76
  cases h
  go_wp2
  go_ret
  exact ⟨rfl,hb1⟩
 rw [if_neg h76] at h
 have c1:(a0 == 76)=false:=beq_eq_false_iff_ne.2 h76
 by_cases hn:a0 < 0
 ·rw [if_pos hn] at h
  cases h
  go_wp2
  go_ret
  exact ⟨rfl,hb1⟩
 rw [if_neg hn] at h
 by_cases h35:a0 < 35
 ·rw [if_pos h35] at h
  obtain ⟨i,rfl⟩:∃ i:Nat,a0=i:=⟨a0.toNat,by omega⟩
  have hi:i < mnL.length:=by show i < 35;omega
  have hs:mnL[i]?=some r:=by
   rw [List.getD_eq_getElem?_getD,show ((i:Int)).toNat=i from rfl] at h
   rw [List.getElem?_eq_getElem hi] at h ⊢
   exact h
  have c0:=str_at1 HO.out i (by omega) r hs
  have h36:¬ (35:Int)≤(i:Int):=by omega
  clear h hs hi
  go_wp2
  go_ret
  exact ⟨rfl,hb1⟩
 ·rw [if_neg h35] at h
  cases h
  have h36:(35:Int)≤a0:=by omega
  go_wp2
  go_ret
  exact ⟨rfl,hb1⟩
end Go.Proofs.YtffojmgmpfjlhaaGreatDoor.Q
namespace Go.Proofs.YtffojmgmpfjlhaaGreatDoor.Q
open Go.Proofs.YtffojmgmpfjlhaaGreatDoor Go.RowKit Go.Proofs.YtffojmgmpfjlhaaGreatDoorW.PrintWords Go.Proofs.YtffojmgmpfjlhaaGreatDoorW.PrintLast Go.Proofs.YtffojmgmpfjlhaaGreatDoorW.PrintMore
attribute [local go_sem] max2_int min2_int max_two min_two max_three min_three max_four min_four
mutual
def rzOperands.j0:Nat→Int→Bool→Option (Bool × Bool × Int)
 | 0,_,_=>none
 | k+1,x5,x6=>if x6=true then (some (true,true,0)) else (if x5=3 then (some (true,false,10)) else (if x5=4 then (some (true,false,1)) else (if x5=5 then (rzOperands.j1 k x5 (x5 == 5)) else (rzOperands.j1 k x5 (x5 == 6)))))
def rzOperands.j1:Nat→Int→Bool→Option (Bool × Bool × Int)
 | 0,_,_=>none
 | k+1,x5,x13=>if x13=true then (some (true,true,1)) else (if x5=7 then (some (false,false,2)) else (if x5=8 then (some (true,false,0)) else (if x5=9 then (some (true,false,2)) else (if x5=10 then (some (false,false,1)) else (some (false,false,0))))))
end
def rzOperands.f (k:Nat) (a0:Int):Option (Bool × Bool × Int):=if a0=2 then (rzOperands.j0 k a0 (a0 == 2)) else (rzOperands.j0 k a0 (a0 == 11))
theorem rzOperands.mono_l:∀ k,(∀ y0 y1,LeO (rzOperands.j0 k y0 y1) (rzOperands.j0 (k+1) y0 y1))∧(∀ y0 y1,LeO (rzOperands.j1 k y0 y1) (rzOperands.j1 (k+1) y0 y1))
 | 0=>⟨fun _ _ r h=>by simp [rzOperands.j0] at h,fun _ _ r h=>by simp [rzOperands.j1] at h⟩
 | k+1=>by
  obtain ⟨ih0,ih1⟩:=rzOperands.mono_l k;refine ⟨?_,?_⟩
  ·intro y0 y1;unfold rzOperands.j0;repeat' first | (with_reducible first | exact ih0 _ _ | exact ih1 _ _ | exact LeO.refl _ | exact LeO.none _ | refine LeO.ite ?_ ?_ | refine LeO.bind ?_ (fun _=>?_)) | exact LeO.none _ | refine LeO.ite ?_ ?_ | refine LeO.bind ?_ (fun _=>?_)
  ·intro y0 y1;unfold rzOperands.j1;repeat' first | (with_reducible first | exact ih0 _ _ | exact ih1 _ _ | exact LeO.refl _ | exact LeO.none _ | refine LeO.ite ?_ ?_ | refine LeO.bind ?_ (fun _=>?_)) | exact LeO.none _ | refine LeO.ite ?_ ?_ | refine LeO.bind ?_ (fun _=>?_)
theorem rzOperands.mono:∀ a0 k,LeO (rzOperands.f k a0) (rzOperands.f (k+1) a0):=by
 intro a0 k;obtain ⟨ih0,ih1⟩:=rzOperands.mono_l k;unfold rzOperands.f;repeat' first | (with_reducible first | exact ih0 _ _ | exact ih1 _ _ | exact LeO.refl _ | exact LeO.none _ | refine LeO.ite ?_ ?_ | refine LeO.bind ?_ (fun _=>?_)) | exact LeO.none _ | refine LeO.ite ?_ ?_ | refine LeO.bind ?_ (fun _=>?_)
theorem rzOperands.calls (k:Nat) (a0:Int) (r1:Bool) (r2:Bool) (r3:Int) (w:World) (h:rzOperands.f k a0=some (r1,r2,r3)) :
  Calls Tryz.prog 53 #[.int .i64 a0] w fun e w'=>e=.returned (.tuple #[.bool r1,.bool r2,.int .i64 r3])∧Drawn0 w w':=by
 unfold rzOperands.f at h;have H:=h;clear h;have HC2:=Aside0.mk H;clear H;go_enter Tryz.func53,Tryz.ntmps53
 go_upto_if 6 with (fail)
 go_cut [6] (fun v6 wc=>∃ (kq:Nat) (x6_1:Bool),v6=.bool x6_1∧Aside0 (rzOperands.j0 kq a0 x6_1=some (r1,r2,r3))∧Aside0 (kq≤k)∧Drawn0 w wc)
 case first =>
  have H:=HC2.out;clear HC2;by_cases c3:a0=2
  ·rw [if_pos c3] at H;obtain ⟨c3b0,c3b1⟩:=bqt c3;clear c3;(first | rw [c3b0] | (simp only [i64_w,i32_w];rw [c3b0]) | skip);have H':=Aside0.mk H;clear H;go_wp2;go_meet
   case rel=>exact ⟨_,((a0 == 2)),rsd,H',⟨by first | omega | exact Nat.le_refl _⟩,by repeat (first | exact Drawn0.refl _ | apply Drawn0.step)⟩
  ·rw [if_neg c3] at H;obtain ⟨c3b0,c3b1⟩:=bqf c3;(first | rw [c3b0] | (simp only [i64_w,i32_w];rw [c3b0]) | skip);have H':=Aside0.mk H;clear H;go_wp2;go_meet
   case rel=>exact ⟨_,((a0 == 11)),rsd,H',⟨by first | omega | exact Nat.le_refl _⟩,by repeat (first | exact Drawn0.refl _ | apply Drawn0.step)⟩
 case rest =>
  clear HC2;obtain ⟨kq,x6_1,rfl,HA,HJ1,⟨mc1,rfl⟩⟩:=hcut;cases kq with
  | zero=>exact absurd HA.out (by simp [rzOperands.j0])
  | succ kj1 =>
   have H:=HA.out;clear HA;simp only [rzOperands.j0] at H;by_cases c4:x6_1=true
   ·subst c4;rw [if_pos rfl] at H;simp only [Option.some.injEq,Prod.mk.injEq] at H;obtain ⟨rfl,rfl,rfl⟩:=H;go_wp2;go_ret3;exact ⟨by first | rfl | (simp;done) | (simp [*];done),by repeat (first | exact Drawn0.refl _ | apply Drawn0.step)⟩
   ·replace c4:=Bool.eq_false_iff.mpr c4;subst c4;rw [if_neg (show ¬ (false=true) by decide)] at H;by_cases c5:a0=3
    ·rw [if_pos c5] at H;obtain ⟨c5b0,c5b1⟩:=bqt c5;clear c5;simp only [Option.some.injEq,Prod.mk.injEq] at H;obtain ⟨rfl,rfl,rfl⟩:=H;go_wp2;go_ret3;exact ⟨by first | rfl | (simp;done) | (simp [*];done),by repeat (first | exact Drawn0.refl _ | apply Drawn0.step)⟩
    ·rw [if_neg c5] at H;obtain ⟨c5b0,c5b1⟩:=bqf c5;by_cases c6:a0=4
     ·rw [if_pos c6] at H;obtain ⟨c6b0,c6b1⟩:=bqt c6;clear c6;simp only [Option.some.injEq,Prod.mk.injEq] at H;obtain ⟨rfl,rfl,rfl⟩:=H;go_wp2;go_ret3;exact ⟨by first | rfl | (simp;done) | (simp [*];done),by repeat (first | exact Drawn0.refl _ | apply Drawn0.step)⟩
     ·rw [if_neg c6] at H;obtain ⟨c6b0,c6b1⟩:=bqf c6;have HC7:=Aside0.mk H;clear H;go_upto_if 13 with (fail)
      go_cut [13] (fun v13 wc=>∃ (kq:Nat) (x13_6:Bool),v13=.bool x13_6∧Aside0 (rzOperands.j1 kq a0 x13_6=some (r1,r2,r3))∧Aside0 (kq≤kj1)∧Drawn0 w wc)
      case first =>
       have H:=HC7.out;clear HC7;by_cases c8:a0=5
       ·rw [if_pos c8] at H;obtain ⟨c8b0,c8b1⟩:=bqt c8;clear c8;(first | rw [c8b0] | (simp only [i64_w,i32_w];rw [c8b0]) | skip);have H':=Aside0.mk H;clear H;go_wp2;go_meet
        case rel=>exact ⟨_,((a0 == 5)),rsd,H',⟨by have:=HJ1.out;first | omega | exact Nat.le_refl _⟩,by repeat (first | exact Drawn0.refl _ | apply Drawn0.step)⟩
       ·rw [if_neg c8] at H;obtain ⟨c8b0,c8b1⟩:=bqf c8;(first | rw [c8b0] | (simp only [i64_w,i32_w];rw [c8b0]) | skip);have H':=Aside0.mk H;clear H;go_wp2;go_meet
        case rel=>exact ⟨_,((a0 == 6)),rsd,H',⟨by have:=HJ1.out;first | omega | exact Nat.le_refl _⟩,by repeat (first | exact Drawn0.refl _ | apply Drawn0.step)⟩
      case rest =>
       clear HC7;try clear c4
       try clear c5
       try clear c5b0
       try clear c5b1
       try clear c6
       try clear c6b0
       try clear c6b1
       obtain ⟨kq,x13_6,rfl,HA,HJ6,⟨mc6,rfl⟩⟩:=hcut;cases kq with
       | zero=>exact absurd HA.out (by simp [rzOperands.j1])
       | succ kj6 =>
        have H:=HA.out;clear HA;simp only [rzOperands.j1] at H;by_cases c9:x13_6=true
        ·subst c9;rw [if_pos rfl] at H;simp only [Option.some.injEq,Prod.mk.injEq] at H;obtain ⟨rfl,rfl,rfl⟩:=H;go_wp2;go_ret3;exact ⟨by first | rfl | (simp;done) | (simp [*];done),by repeat (first | exact Drawn0.refl _ | apply Drawn0.step)⟩
        ·replace c9:=Bool.eq_false_iff.mpr c9;subst c9;rw [if_neg (show ¬ (false=true) by decide)] at H;by_cases c10:a0=7
         ·rw [if_pos c10] at H;obtain ⟨c10b0,c10b1⟩:=bqt c10;clear c10;simp only [Option.some.injEq,Prod.mk.injEq] at H;obtain ⟨rfl,rfl,rfl⟩:=H;go_wp2;go_ret3;exact ⟨by first | rfl | (simp;done) | (simp [*];done),by repeat (first | exact Drawn0.refl _ | apply Drawn0.step)⟩
         ·rw [if_neg c10] at H;obtain ⟨c10b0,c10b1⟩:=bqf c10;by_cases c11:a0=8
          ·rw [if_pos c11] at H;obtain ⟨c11b0,c11b1⟩:=bqt c11;clear c11;simp only [Option.some.injEq,Prod.mk.injEq] at H;obtain ⟨rfl,rfl,rfl⟩:=H;go_wp2;go_ret3;exact ⟨by first | rfl | (simp;done) | (simp [*];done),by repeat (first | exact Drawn0.refl _ | apply Drawn0.step)⟩
          ·rw [if_neg c11] at H;obtain ⟨c11b0,c11b1⟩:=bqf c11;by_cases c12:a0=9
           ·rw [if_pos c12] at H;obtain ⟨c12b0,c12b1⟩:=bqt c12;clear c12;simp only [Option.some.injEq,Prod.mk.injEq] at H;obtain ⟨rfl,rfl,rfl⟩:=H;go_wp2;go_ret3;exact ⟨by first | rfl | (simp;done) | (simp [*];done),by repeat (first | exact Drawn0.refl _ | apply Drawn0.step)⟩
           ·rw [if_neg c12] at H;obtain ⟨c12b0,c12b1⟩:=bqf c12;by_cases c13:a0=10
            ·rw [if_pos c13] at H;obtain ⟨c13b0,c13b1⟩:=bqt c13;clear c13;simp only [Option.some.injEq,Prod.mk.injEq] at H;obtain ⟨rfl,rfl,rfl⟩:=H;go_wp2;go_ret3;exact ⟨by first | rfl | (simp;done) | (simp [*];done),by repeat (first | exact Drawn0.refl _ | apply Drawn0.step)⟩
            ·rw [if_neg c13] at H;obtain ⟨c13b0,c13b1⟩:=bqf c13;simp only [Option.some.injEq,Prod.mk.injEq] at H;obtain ⟨rfl,rfl,rfl⟩:=H;go_wp2;go_ret3;exact ⟨by first | rfl | (simp;done) | (simp [*];done),by repeat (first | exact Drawn0.refl _ | apply Drawn0.step)⟩
end Go.Proofs.YtffojmgmpfjlhaaGreatDoor.Q
namespace Go.Proofs.YtffojmgmpfjlhaaGreatDoor.Q
open Go.Proofs.Ix hiding rd
open Go.Proofs.YtffojmgmpfjlhaaGreatDoor Go.RowKit Go.Proofs.YtffojmgmpfjlhaaGreatDoorW.PrintWords
def FP:List (Int × Int):=[(0,1),(1,2),(1,11),(3,3),(4,4),(5,5),(5,6),(6,7),(2,8),(7,9),(8,10)]
def formB (n:Nat):Bool:=match rzForm.f 12 (n:Int) with | none=>false | some r=>if nameM (n:Int)=[] then decide (r=0) else decide (r≠0) && decide ((formM (n:Int),r)∈FP)
theorem forms_77:∀ n,n < 77→formB n=true:=by decide +kernel
theorem form_out (op:Int) (h:op < 0∨77≤op):rzForm.f 12 op=some 0:=by
 have n1:op≠1:=by omega
 have n29:op≠29:=by omega
 have n76:op≠76:=by omega
 have n2:op≠2:=by omega
 have n3:op≠3:=by omega
 have n4:op≠4:=by omega
 have n5:op≠5:=by omega
 have n6:op≠6:=by omega
 have n7:op≠7:=by omega
 have n8:op≠8:=by omega
 have n9:op≠9:=by omega
 have n10:op≠10:=by omega
 have n11:op≠11:=by omega
 have n12:op≠12:=by omega
 have n13:op≠13:=by omega
 have n14:op≠14:=by omega
 have n15:op≠15:=by omega
 have n16:op≠16:=by omega
 have n17:op≠17:=by omega
 have n18:op≠18:=by omega
 have n19:op≠19:=by omega
 have n20:op≠20:=by omega
 have n21:op≠21:=by omega
 have n22:op≠22:=by omega
 have n23:op≠23:=by omega
 have n24:op≠24:=by omega
 have n25:op≠25:=by omega
 have n26:op≠26:=by omega
 have n27:op≠27:=by omega
 have n28:op≠28:=by omega
 have n30:op≠30:=by omega
 have n31:op≠31:=by omega
 have n32:op≠32:=by omega
 have n33:op≠33:=by omega
 have n34:op≠34:=by omega
 simp [rzForm.f,rzForm.j0,rzForm.j1,rzForm.j2,rzForm.j3,rzForm.j4,rzForm.j5,rzForm.j6,n1,n29,n76,n2,n3,n4,n5,n6,n7,n8,n9,n10,n11,n12,n13,n14,n15,n16,n17,n18,n19,n20,n21,n22,n23,n24,n25,n26,n27,n28,n30,n31,n32,n33,n34]
theorem name_out (op:Int) (h:op < 0∨77≤op):nameM op=[]:=by
 unfold nameM kindM
 rw [if_neg (by omega),if_pos (by omega)]
theorem form_any (op:Int):∃ r,(∀ k,rzForm.f (k+12) op=some r)∧((nameM op=[]∧r=0)∨(nameM op≠[]∧r≠0∧(formM op,r)∈FP)):=by
 by_cases h:op < 0∨77≤op
 ·exact ⟨0,fun k=>leO_up (rzForm.mono op) (form_out op h) k,.inl ⟨name_out op h,rfl⟩⟩
 ·obtain ⟨n,rfl⟩:=Int.eq_ofNat_of_zero_le (show 0≤op by omega)
  have hb:=forms_77 n (by omega)
  unfold formB at hb
  cases hf:rzForm.f 12 (n:Int) with
  | none=>rw [hf] at hb;cases hb
  | some r =>
   rw [hf] at hb
   simp only at hb
   refine ⟨r,fun k=>leO_up (rzForm.mono _) hf k,?_⟩
   by_cases hn:nameM (n:Int)=[]
   ·rw [if_pos hn] at hb
    exact .inl ⟨hn,of_decide_eq_true hb⟩
   ·rw [if_neg hn,Bool.and_eq_true] at hb
    exact .inr ⟨hn,of_decide_eq_true hb.1,of_decide_eq_true hb.2⟩
theorem opnd_all:∀ q∈FP,rzOperands.f 12 q.2=some (hasA q.1,hasB q.1,(bytesM q.1:Int)):=by decide +kernel
theorem opnd_any {p r:Int} (h:(p,r)∈FP) (k:Nat):rzOperands.f (k+12) r=some (hasA p,hasB p,(bytesM p:Int)):=leO_up (rzOperands.mono r) (opnd_all _ h) k
theorem fp_ten:∀ q∈FP,(q.2=10↔q.1=8):=by decide +kernel
theorem bytes_ten {f:Int}:bytesM f≤10∧(bytesM f=10↔f=3):=by
 unfold bytesM
 by_cases h3:f=3
 ·simp [h3]
 ·simp only [h3,if_false,iff_false]
  split
  ·omega
  ·split <;> omega
end Go.Proofs.YtffojmgmpfjlhaaGreatDoor.Q
namespace Go.Proofs.YtffojmgmpfjlhaaGreatDoor.Q
open Go.Proofs.YtffojmgmpfjlhaaGreatDoor Go.RowKit Go.Proofs.YtffojmgmpfjlhaaGreatDoorW.PrintWords Go.Proofs.YtffojmgmpfjlhaaGreatDoorW.PrintLast Go.Proofs.YtffojmgmpfjlhaaGreatDoorW.PrintMore
attribute [local go_sem] max2_int min2_int max_two min_two max_three min_three max_four min_four
def rzfits.f (k:Nat) (a0:Int) (a1:Int):Option (Bool):=(rzOperands.f k a0).bind fun bt312=>(if a0=10 then (if a1≥0 then (some (decide (a1≤127))) else (some false)) else (if bt312.2.2=1 then (if a1≥(-64) then (some (decide (a1≤63))) else (some false)) else (if bt312.2.2=2 then (if a1≥(-8192) then (some (decide (a1≤8191))) else (some false)) else (if bt312.2.2=10 then (some true) else (some (a1 == 0))))))
theorem rzfits.q1 {p:Prop} (h:p:=by
 go_enter Tryz.func52,Tryz.ntmps52
 go_wp2_with (first | ((with_reducible refine gate_callee (f:=53) rfl ?_);refine gl (some 10) Tryz.func53 #[.int .i64 a0] ?_;(with_reducible refine (rzOperands.calls k a0 _ _ _ _ A3.out).mono ?_);rintro e w' ⟨rfl,⟨nd,rfl⟩⟩;refine ⟨_,rfl,?_⟩))
 go_ret;exact ⟨by first | rfl | (simp;done) | (simp [*];done),by repeat (first | exact Drawn0.refl _ | apply Drawn0.step)⟩):p:=h
theorem rzfits.calls (k:Nat) (a0:Int) (a1:Int) (r:Bool) (w:World) (h:rzfits.f k a0 a1=some r) :
  Calls Tryz.prog 52 #[.int .i64 a0,.int .i64 a1] w fun e w'=>e=.returned (.bool r)∧Drawn0 w w':=by
 unfold rzfits.f at h;have H:=h;clear h;obtain ⟨⟨t312,t313,t314⟩,A3,H⟩:=bas H;(try dsimp only at H);by_cases c4:a0=10
 ·rw [if_pos c4] at H;obtain ⟨c4b0,c4b1⟩:=bqt c4;clear c4;by_cases c5:a1≥0
  ·rw [if_pos c5] at H;have c5b0:decide (0≤a1)=true:=decide_eq_true c5;clear c5;obtain rfl:=Option.some.inj H;exact rzfits.q1
  ·rw [if_neg c5] at H;have c5b0:decide (0≤a1)=false:=decide_eq_false c5;clear c5;obtain rfl:=Option.some.inj H;exact rzfits.q1
 ·rw [if_neg c4] at H;obtain ⟨c4b0,c4b1⟩:=bqf c4;by_cases c6:t314=1
  ·rw [if_pos c6] at H;obtain ⟨c6b0,c6b1⟩:=bqt c6;clear c6;by_cases c7:a1≥(-64)
   ·rw [if_pos c7] at H;have c7b0:decide ((-64)≤a1)=true:=decide_eq_true c7;clear c7;obtain rfl:=Option.some.inj H;exact rzfits.q1
   ·rw [if_neg c7] at H;have c7b0:decide ((-64)≤a1)=false:=decide_eq_false c7;clear c7;obtain rfl:=Option.some.inj H;exact rzfits.q1
  ·rw [if_neg c6] at H;obtain ⟨c6b0,c6b1⟩:=bqf c6;by_cases c8:t314=2
   ·rw [if_pos c8] at H;obtain ⟨c8b0,c8b1⟩:=bqt c8;clear c8;by_cases c9:a1≥(-8192)
    ·rw [if_pos c9] at H;have c9b0:decide ((-8192)≤a1)=true:=decide_eq_true c9;clear c9;obtain rfl:=Option.some.inj H;exact rzfits.q1
    ·rw [if_neg c9] at H;have c9b0:decide ((-8192)≤a1)=false:=decide_eq_false c9;clear c9;obtain rfl:=Option.some.inj H;exact rzfits.q1
   ·rw [if_neg c8] at H;obtain ⟨c8b0,c8b1⟩:=bqf c8;by_cases c10:t314=10
    ·rw [if_pos c10] at H;obtain ⟨c10b0,c10b1⟩:=bqt c10;clear c10;obtain rfl:=Option.some.inj H;exact rzfits.q1
    ·rw [if_neg c10] at H;obtain ⟨c10b0,c10b1⟩:=bqf c10;obtain rfl:=Option.some.inj H;exact rzfits.q1
def rzgroups.l0:Nat→List Int→Int→Int→Int→Option (List Int)
 | 0,_,_,_,_=>none
 | k+1,x0,x1,x2,x7=>if x7 < x2 then (if x0.length < 140737488355328 then (rzgroups.l0 k (x0 ++ [(Go.bits .and .i64 x1 127) % 256]) (x1 / 128) x2 (wrap64 (x7+1))) else (none)) else (some x0)
def rzgroups.f (k:Nat) (l0:List Int) (a1:Int) (a2:Int):Option (List Int):=rzgroups.l0 k l0 a1 a2 0
theorem rzgroups.calls (k:Nat) (P0_:Nat→Prop) (u9000_:Value) (l0:List Int) (a1:Int) (a2:Int) (r:List Int) (w0 w:World) (hB:Below w0.heap.size w0 w) (ho0:Kd.R (Kd.int .u8) 5 w w0.heap.size P0_ u9000_ l0) (h:rzgroups.f k l0 a1 a2=some r) :
  Calls Tryz.prog 54 #[u9000_,.int .i64 a1,.int .i64 a2] w fun e w'=>∃ v0_:Value,e=.returned (v0_)∧Kd.R (Kd.int .u8) 5 w' w0.heap.size (fun k_=>(P0_ k_∨w.heap.size≤k_)) v0_ r∧Below w0.heap.size w0 w'∧Kept w w' (fun k_=>P0_ k_):=by
 have HO0:=Aside0.mk (show Kd.R (Kd.int .u8) 5 w w0.heap.size (fun k_=>(P0_ k_∨w.heap.size≤k_)) u9000_ l0 from Kd.R_mono ho0 (fun k_ hk=>(.inl hk)));have HK:=Aside0.mk (Kept.refl w (fun k_=>P0_ k_));have HW0:=Aside0.mk hB.size;have HB:=Aside0.mk hB;clear hB;unfold rzgroups.f at h;have H:=h;clear h;have H':=Aside0.mk H;clear H;go_enter Tryz.func54,Tryz.ntmps54
 go_wp2;try simp only [Act.put,List.setIfInBounds_toArray,List.set_cons_zero,List.set_cons_succ]
 go_loopg [0,1,7] k (fun kq v0 v1 v7 w'=>∃ (x0_1:List Int) (x1_1:Int) (x7_1:Int),v1=.int .i64 x1_1∧v7=.int .i64 x7_1∧Aside0 (rzgroups.l0 kq x0_1 x1_1 a2 x7_1=some r)∧Aside0 (kq≤k)∧Aside0 (Kd.R (Kd.int .u8) 5 w' w0.heap.size (fun k_=>(P0_ k_∨w.heap.size≤k_)) v0 x0_1)∧Aside0 (Kept w w' (fun k_=>P0_ k_))∧Aside0 (Below w0.heap.size w0 w'))
 case atStart=>exact ⟨(l0),(a1),(0),rsd,rsd,H',⟨Nat.le_refl _⟩,⟨kRd HO0.out⟩,⟨by repeat (first | (with_reducible first | exact HK.out | apply Kept.alloc | apply Kept.drewN | apply Kept.drew) | exact HK.out)⟩,⟨blw⟩⟩
 case round =>
  clear H';obtain ⟨x0_1,x1_1,x7_1,rfl,rfl,HA,HK1,HO_0,HK,HB⟩:=hrel;cases gk with
  | zero=>exact absurd HA.out (by simp [rzgroups.l0])
  | succ k1 =>
   have H:=HA.out;clear HA;simp only [rzgroups.l0] at H;by_cases c4:x7_1 < a2
   ·rw [if_pos c4] at H;have c4b0:=decide_eq_true c4;clear c4;by_cases c5:x0_1.length < 140737488355328
    ·rw [if_pos c5] at H;have LMc5:=Aside0.mk c5;clear c5;obtain ⟨y321,hy321⟩:∃ y_:List Int,y_=(x0_1 ++ [(Go.bits .and .i64 x1_1 127) % 256]):=⟨_,rfl⟩;replace H:(rzgroups.l0 k1 y321 (x1_1 / 128) a2 (wrap64 (x7_1+1)))=some r:=by first | (rw [hy321];with_reducible exact H) | (have H2_:=(Option.bind_some _ _).symm.trans H;rw [hy321];with_reducible exact H2_) | (have H2_:=(Option.bind_some _ _).symm.trans H;with_reducible exact H2_) | with_reducible exact H | (rw [hy321];exact H) | exact H
     have Ny321:=Aside0.mk hy321;clear hy321;have H':=Aside0.mk H;clear H;go_wp2_with (first | ((with_reducible refine gate_builtin (b:=.append) (xs:=#[.tmp 13,.tmp 17]) rfl ?_);at_builtin;refine Kd.R_append (Kd.int .u8) (w0:=w0) w0.heap.size rfl (.tmp 13) (.tmp 17) 24 5 (.int .u8 0) 1 rfl Tryz.underlying24 info5 rfl (by decide) (by omega) u0 x0_1 ((Go.bits .and .i64 x1_1 127) % 256) [.int .u8 ((Go.bits .and .i64 x1_1 127) % 256)] (fun k_=>(P0_ k_∨w.heap.size≤k_)) (fun _=>False) rfl rfl ?aP (fun _ hk=>hk.elim) ?aF ?aO ?aB ?aS ?aL ?_;(case aP=>exact rfl);(case aB=>exact blw);(case aF=>exact (fun k_ hk=>(.inr (Nat.le_trans (by first | exact HK.out.1 | exact (show Kept w _ (fun k_=>P0_ k_) from by repeat (first | (with_reducible first | exact HK.out | apply Kept.alloc | apply Kept.drewN | apply Kept.drew) | exact HK.out)).1) hk))));(case aO=>exact (kRd HO_0.out));(case aS=>exact (below_size blw));(case aL=>have:=LMc5.out;omega);intro v322 w6 ho hb hg hat;rw [← Ny321.out] at ho;replace HB:=Aside0.mk hb;replace HK:=Aside0.mk (Kept.of_grown (S:=(fun k_=>P0_ k_)) hg (by repeat (first | (with_reducible first | exact HK.out | apply Kept.alloc | apply Kept.drewN | apply Kept.drew) | exact HK.out)) (fun k_ e_=>(HO_0.out.1 k_ e_)));have HO323:=Aside0.mk ho;clear ho hb hg hat))
     go_roundg k1
     case measure=>have:=HK1.out;omega
     case rel=>exact ⟨(y321),(x1_1 / 128),(wrap64 (x7_1+1)),rsd,rsd,H',⟨by have:=HK1.out;omega⟩,⟨kRd HO323.out⟩,⟨by repeat (first | (with_reducible first | exact HK.out | apply Kept.alloc | apply Kept.drewN | apply Kept.drew) | exact HK.out)⟩,⟨blw⟩⟩
    ·rw [if_neg c5] at H;exact absurd H (by simp)
   ·rw [if_neg c4] at H;have c4b0:=decide_eq_false c4;clear c4;obtain rfl:=Option.some.inj H;go_wp2;go_ret;exact ⟨_,by first | rfl | (simp [errW_none,errW_some] <;> rfl) | (simp [*,errW_none,errW_some] <;> rfl),by (with_reducible repeat (first | apply Kd.R_alloc | apply Kd.R_drewN | apply Kd.R_drew));exact HO_0.out,by repeat (first | (with_reducible first | exact HB.out | apply below_alloc | apply pw_below_drewN | apply below_drew1) | exact HB.out),by repeat (first | (with_reducible first | exact HK.out | apply Kept.alloc | apply Kept.drewN | apply Kept.drew) | exact HK.out)⟩
end Go.Proofs.YtffojmgmpfjlhaaGreatDoor.Q
namespace Go.Proofs.YtffojmgmpfjlhaaGreatDoor.Q
open Go.Proofs.Ix hiding rd
open Go.Proofs.YtffojmgmpfjlhaaGreatDoor Go.RowKit Go.Proofs.YtffojmgmpfjlhaaGreatDoorW.PrintWords
theorem bytes_in (f:Int):bytesM f=0∨bytesM f=1∨bytesM f=2∨bytesM f=10:=by
 unfold bytesM
 (repeat' split) <;> simp
def chkD (op a b imm:Int):Int :=
 if nameM op=[] then 20
 else if 0≤a∧a≤7∧0≤b∧b≤7∧(hasA (formM op)=true∨a=0)∧(hasB (formM op)=true∨b=0)∧fitsM (formM op) imm=true then 0 else 20
theorem rfits_f {p r:Int} (h:(p,r)∈FP) (n:Int) (k:Nat) (hk:12≤k):rzfits.f k r n=some (fitsM p n):=by
 obtain ⟨k,rfl⟩:∃ m,k=m+12:=⟨k - 12,by omega⟩
 unfold rzfits.f fitsM
 rw [opnd_any h,Option.bind_some]
 have h10:=fp_ten _ h
 have hb:=bytes_ten (f:=p)
 simp only at h10
 by_cases h8:p=8
 ·have h3:¬ p=3:=by omega
  rw [if_pos (h10.2 h8),if_neg h3,if_pos h8]
  by_cases c:n≥0
  ·rw [if_pos c,Option.some.injEq,Bool.eq_iff_iff];simp;omega
  ·rw [if_neg c];simp;omega
 rw [if_neg (fun e=>h8 (h10.1 e)),if_neg (show ¬ p=8 from h8)]
 simp only
 rcases bytes_in p with e | e | e | e
 ·have h3:¬ p=3:=fun h=>by have:=hb.2.2 h;omega
  rw [e,if_neg h3];simp
 ·have h3:¬ p=3:=fun h=>by have:=hb.2.2 h;omega
  rw [e,if_neg h3]
  simp only [show ¬ (((1:Nat):Int)=0) by omega,show (((1:Nat):Int)=1) by omega,if_false,if_true,show ¬ ((1:Nat)=0) by omega]
  by_cases c:n≥-64
  ·rw [if_pos c,Option.some.injEq,Bool.eq_iff_iff];simp;omega
  ·rw [if_neg c];simp;omega
 ·have h3:¬ p=3:=fun h=>by have:=hb.2.2 h;omega
  rw [e,if_neg h3]
  simp only [show ¬ ((2:Int)=1) by omega,show ((2:Int)=2) from rfl,show ¬ (((2:Nat):Int)=0) by omega,show ¬ (((2:Nat):Int)=1) by omega,show (((2:Nat):Int)=2) by omega,if_false,if_true,show ¬ ((2:Nat)=0) by omega,show ¬ ((2:Nat)=1) by omega]
  by_cases c:n≥-8192
  ·rw [if_pos c,Option.some.injEq,Bool.eq_iff_iff];simp;omega
  ·rw [if_neg c];simp;omega
 ·have h3:=hb.2.1 e
  rw [e,if_pos h3]
  rfl
theorem groups_l0 (d:Nat):∀ (fuel i n:Nat) (x:List Int) (v:Int),i+d=n→n≤10→d < fuel→x.length+d < 1000000→rzgroups.l0 fuel x v (n:Int) (i:Int)=some (x ++ immI d v):=by
 induction d with
 | zero =>
  intro fuel i n x v h1 h2 h3 h4
  obtain ⟨k,rfl⟩:∃ k,fuel=k+1:=⟨fuel - 1,by omega⟩
  unfold rzgroups.l0
  rw [if_neg (by omega)]
  simp [immI]
 | succ d ih =>
  intro fuel i n x v h1 h2 h3 h4
  obtain ⟨k,rfl⟩:∃ k,fuel=k+1:=⟨fuel - 1,by omega⟩
  unfold rzgroups.l0
  rw [if_pos (by omega),if_pos (by omega),wrap_succ (by omega),ih k (i+1) n _ _ (by omega) h2 (by omega) (by simp;omega)]
  simp [immI]
theorem groups_f (x:List Int) (v:Int) (p:Int) (k:Nat) (hk:12≤k) (hx:x.length≤100):rzgroups.f k x v (bytesM p:Int)=some (x ++ immI (bytesM p) v):=by
 have:=(bytes_ten (f:=p)).1
 exact groups_l0 (bytesM p) k 0 (bytesM p) x v (by omega) this (by omega) (by omega)
end Go.Proofs.YtffojmgmpfjlhaaGreatDoor.Q
namespace Go.Proofs.YtffojmgmpfjlhaaGreatDoor.Q
open Go.Proofs.Ix hiding rd
open Go Go.Proofs.YtffojmgmpfjlhaaGreatDoor Go.RowKit Go.Proofs.YtffojmgmpfjlhaaGreatDoorW.PrintWords
def numW (v:Int):List UInt8:=Lib.itoa v
def distW (v:Int):List UInt8:=if v < 0 then 46 :: numW v else 46 :: 43 :: numW v
def addrW (b v:Int):List UInt8:=91 :: (regW b ++ ((if v > 0 then 43 :: numW v else if v < 0 then numW v else []) ++ [93]))
def memW (b:Int):List UInt8:=91 :: (regW b ++ [93])
def rdW (a b v:Int):Rd→List UInt8
 | .a=>regW a
 | .b=>regW b
 | .num=>numW v
 | .mem=>memW b
 | .addr=>addrW b v
 | .target=>distW v
theorem Cur.set {l l':L9} {t:List UInt8} (h:Cur l t) (hs:l'.s=l.s) (ha:l'.at_=l.at_):Cur l' t:=by
 unfold Cur at h ⊢
 rw [hs,ha]
 exact h
def tailW (a b v:Int) (ks:List Rd):List UInt8:=ks.flatMap fun k=>44 :: 32 :: rdW a b v k
end Go.Proofs.YtffojmgmpfjlhaaGreatDoor.Q
