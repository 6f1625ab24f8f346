/- Parts of the proof: InsnLabels: a text whose targets are labels has the code of the text whose targets are distances: the law returns true for every input; the inputs read as they did; the package-level variables hold what the program's text lays in them: the tied card. -/
import Derived.Test.YtffojmgmpfjlhaaGreatDoorInsnLabelsZ3
import Derived.Test.YtffojmgmpfjlhaaGreatDoorInsnLabelsZ4
set_option linter.unusedVariables false
set_option linter.unusedSimpArgs false
namespace Go.Proofs.YtffojmgmpfjlhaaGreatDoor.Q
open Go.Proofs.YtffojmgmpfjlhaaGreatDoor Go.RowKit Go.Proofs.YtffojmgmpfjlhaaGreatDoorW.PrintWords Go.Proofs.YtffojmgmpfjlhaaGreatDoorW.PrintLast Go.Proofs.YtffojmgmpfjlhaaGreatDoorW.PrintMore
attribute [local go_sem] max2_int min2_int max_two min_two max_three min_three max_four min_four
theorem la_ext {s:ByteArray} {j:Int} (h0:0≤j) (h1:j≤(s.size:Int)):(s.extract 0 (j:Int).toNat).size=j.toNat:=by
 rw [ByteArray.size_extract];omega
theorem la_s1 (x:UInt8):(⟨#[x]⟩:zB).size=1:=rfl
theorem la_s2 (x y:UInt8):(⟨#[x,y]⟩:zB).size=2:=rfl
mutual
def lzInsnLabels.l0:Nat→List (S78)→Bool→List Int→Int→Option (Bool)
 | 0,_,_,_,_=>none
 | k+1,x0,x3,x4,x5=>if x5 < (x0.length:Int) then (if 0≤x5 then ((insn_Len.f k ((rd_T78 x0 x5).f0.f0) ((rd_T78 x0 x5).f0.f1) ((rd_T78 x0 x5).f0.f2) ((rd_T78 x0 x5).f0.f3)).bind fun bt847=>(if bt847.2=0 then (if x5 < (x4.length:Int) then (if x4.length < 17592186044416 then (lzInsnLabels.l0 k x0 x3 (x4 ++ [wrap64 ((rd x4 x5)+bt847.1)]) (wrap64 (x5+1))) else (none)) else (none)) else (some x3))) else (none)) else (lzInsnLabels.l1 k x0 x3 x4 (⟨#[]⟩:zB) (⟨#[]⟩:zB) 0)
def lzInsnLabels.l1:Nat→List (S78)→Bool→List Int→ByteArray→ByteArray→Int→Option (Bool)
 | 0,_,_,_,_,_,_=>none
 | k+1,x0,x3,x4,x8,x9,x10=>if x10 < (x0.length:Int) then (if 0≤x10 then ((insn_Target.f k ((rd_T78 x0 x10).f0.f0) ((rd_T78 x0 x10).f0.f1) ((rd_T78 x0 x10).f0.f2) ((rd_T78 x0 x10).f0.f3) 0).bind fun bt872=>(if (x0.length:Int)=0 then (none) else (if 0≤(Int.tmod (wrap64 ((rd_T78 x0 x10).f1)) (x0.length:Int)) then (if (Int.tmod (wrap64 ((rd_T78 x0 x10).f1)) (x0.length:Int)) < (x4.length:Int) then (if 0≤(wrap64 (x10+1)) then (if (wrap64 (x10+1)) < (x4.length:Int) then (if bt872.2=true then (lzInsnLabels.j2 k x0 x3 x4 x8 x9 x10 bt872.2 (Int.tmod (wrap64 ((rd_T78 x0 x10).f1)) (x0.length:Int)) (wrap64 ((rd x4 (Int.tmod (wrap64 ((rd_T78 x0 x10).f1)) (x0.length:Int))) - (rd x4 (wrap64 (x10+1))))) ((rd_T78 x0 x10).f0.f0) ((rd_T78 x0 x10).f0.f1) ((rd_T78 x0 x10).f0.f2) 0) else (lzInsnLabels.j2 k x0 x3 x4 x8 x9 x10 bt872.2 (Int.tmod (wrap64 ((rd_T78 x0 x10).f1)) (x0.length:Int)) (wrap64 ((rd x4 (Int.tmod (wrap64 ((rd_T78 x0 x10).f1)) (x0.length:Int))) - (rd x4 (wrap64 (x10+1))))) ((rd_T78 x0 x10).f0.f0) ((rd_T78 x0 x10).f0.f1) ((rd_T78 x0 x10).f0.f2) ((rd_T78 x0 x10).f0.f3))) else (none)) else (none)) else (none)) else (none)))) else (none)) else ((insn_Assemble.f x8 7).bind fun bt853=>((insn_Assemble.f x9 7).bind fun bt861=>(if x3=true then (if bt853.2.2.2=bt861.2.2.2 then (if bt853.2.2.1=bt861.2.2.1 then ((lzsameBytes.f bt853.1 bt861.1).bind fun t869=>(if t869=true then (if bt853.2.2.2=0 then (some true) else (some (bt853.2.2.2 == 24))) else (some false))) else (some false)) else (some false)) else (some false))))
def lzInsnLabels.j2:Nat→List (S78)→Bool→List Int→ByteArray→ByteArray→Int→Bool→Int→Int→Int→Int→Int→Int→Option (Bool)
 | 0,_,_,_,_,_,_,_,_,_,_,_,_,_=>none
 | k+1,x0,x3,x4,x8,x9,x10,x13,x14,x15,x872000,x872001,x872002,x872003=>(insn_Print.f k x872000 x872001 x872002 x872003).bind fun bt877=>(if bt877.2=0 then (lzInsnLabels.j3 k x0 x3 x4 x8 x9 x10 x13 x14 x15 bt877.1 (decide ((bt877.1.size:Int) < 3))) else (lzInsnLabels.j3 k x0 x3 x4 x8 x9 x10 x13 x14 x15 bt877.1 true))
def lzInsnLabels.j3:Nat→List (S78)→Bool→List Int→ByteArray→ByteArray→Int→Bool→Int→Int→ByteArray→Bool→Option (Bool)
 | 0,_,_,_,_,_,_,_,_,_,_,_=>none
 | k+1,x0,x3,x4,x8,x9,x10,x13,x14,x15,x16,x108=>if x108=true then (some false) else (if x13=true then (lzInsnLabels.j4 k x0 x3 x4 x8 x9 x10 x13 x14 x15 x16 x16 (decide (x15 < 0))) else (lzInsnLabels.j4 k x0 x3 x4 x8 x9 x10 x13 x14 x15 x16 x16 false))
def lzInsnLabels.j4:Nat→List (S78)→Bool→List Int→ByteArray→ByteArray→Int→Bool→Int→Int→ByteArray→ByteArray→Bool→Option (Bool)
 | 0,_,_,_,_,_,_,_,_,_,_,_,_=>none
 | k+1,x0,x3,x4,x8,x9,x10,x13,x14,x15,x16,x18,x114=>if x114=true then (if 0≤(wrap64 ((x16.size:Int) - 3)) then (if (wrap64 ((x16.size:Int) - 3))≤(x16.size:Int) then (if (x16.extract 0 ((wrap64 ((x16.size:Int) - 3)):Int).toNat).size+2≤9223372036854775807 then ((rzDigits.f k (IntKind.u64.wrap (wrap64 (-x15)))).bind fun t879=>(if ((x16.extract 0 ((wrap64 ((x16.size:Int) - 3)):Int).toNat) ++ (⟨#[46,45]⟩:zB)).size+t879.size≤9223372036854775807 then ((lzlabel.f x14).bind fun t880=>(if (x16.extract 0 ((wrap64 ((x16.size:Int) - 3)):Int).toNat).size+t880.size≤9223372036854775807 then ((lzlabel.f x10).bind fun t881=>(if x8.size+t881.size≤9223372036854775807 then (if (x8 ++ t881).size+2≤9223372036854775807 then (if ((x8 ++ t881) ++ (⟨#[58,32]⟩:zB)).size+((x16.extract 0 ((wrap64 ((x16.size:Int) - 3)):Int).toNat) ++ t880).size≤9223372036854775807 then (if (((x8 ++ t881) ++ (⟨#[58,32]⟩:zB)) ++ ((x16.extract 0 ((wrap64 ((x16.size:Int) - 3)):Int).toNat) ++ t880)).size+1≤9223372036854775807 then (if x9.size+(((x16.extract 0 ((wrap64 ((x16.size:Int) - 3)):Int).toNat) ++ (⟨#[46,45]⟩:zB)) ++ t879).size≤9223372036854775807 then (if (x9 ++ (((x16.extract 0 ((wrap64 ((x16.size:Int) - 3)):Int).toNat) ++ (⟨#[46,45]⟩:zB)) ++ t879)).size+1≤9223372036854775807 then (lzInsnLabels.l1 k x0 x3 x4 ((((x8 ++ t881) ++ (⟨#[58,32]⟩:zB)) ++ ((x16.extract 0 ((wrap64 ((x16.size:Int) - 3)):Int).toNat) ++ t880)) ++ (⟨#[10]⟩:zB)) ((x9 ++ (((x16.extract 0 ((wrap64 ((x16.size:Int) - 3)):Int).toNat) ++ (⟨#[46,45]⟩:zB)) ++ t879)) ++ (⟨#[10]⟩:zB)) (wrap64 (x10+1))) else (none)) else (none)) else (none)) else (none)) else (none)) else (none))) else (none))) else (none))) else (none)) else (none)) else (none)) else (if x13=true then (if 0≤(wrap64 ((x16.size:Int) - 3)) then (if (wrap64 ((x16.size:Int) - 3))≤(x16.size:Int) then (if (x16.extract 0 ((wrap64 ((x16.size:Int) - 3)):Int).toNat).size+2≤9223372036854775807 then ((rzDigits.f k (IntKind.u64.wrap (x15))).bind fun t882=>(if ((x16.extract 0 ((wrap64 ((x16.size:Int) - 3)):Int).toNat) ++ (⟨#[46,43]⟩:zB)).size+t882.size≤9223372036854775807 then ((lzlabel.f x14).bind fun t883=>(if (x16.extract 0 ((wrap64 ((x16.size:Int) - 3)):Int).toNat).size+t883.size≤9223372036854775807 then ((lzlabel.f x10).bind fun t884=>(if x8.size+t884.size≤9223372036854775807 then (if (x8 ++ t884).size+2≤9223372036854775807 then (if ((x8 ++ t884) ++ (⟨#[58,32]⟩:zB)).size+((x16.extract 0 ((wrap64 ((x16.size:Int) - 3)):Int).toNat) ++ t883).size≤9223372036854775807 then (if (((x8 ++ t884) ++ (⟨#[58,32]⟩:zB)) ++ ((x16.extract 0 ((wrap64 ((x16.size:Int) - 3)):Int).toNat) ++ t883)).size+1≤9223372036854775807 then (if x9.size+(((x16.extract 0 ((wrap64 ((x16.size:Int) - 3)):Int).toNat) ++ (⟨#[46,43]⟩:zB)) ++ t882).size≤9223372036854775807 then (if (x9 ++ (((x16.extract 0 ((wrap64 ((x16.size:Int) - 3)):Int).toNat) ++ (⟨#[46,43]⟩:zB)) ++ t882)).size+1≤9223372036854775807 then (lzInsnLabels.l1 k x0 x3 x4 ((((x8 ++ t884) ++ (⟨#[58,32]⟩:zB)) ++ ((x16.extract 0 ((wrap64 ((x16.size:Int) - 3)):Int).toNat) ++ t883)) ++ (⟨#[10]⟩:zB)) ((x9 ++ (((x16.extract 0 ((wrap64 ((x16.size:Int) - 3)):Int).toNat) ++ (⟨#[46,43]⟩:zB)) ++ t882)) ++ (⟨#[10]⟩:zB)) (wrap64 (x10+1))) else (none)) else (none)) else (none)) else (none)) else (none)) else (none))) else (none))) else (none))) else (none)) else (none)) else (none)) else ((lzlabel.f x10).bind fun t885=>(if x8.size+t885.size≤9223372036854775807 then (if (x8 ++ t885).size+2≤9223372036854775807 then (if ((x8 ++ t885) ++ (⟨#[58,32]⟩:zB)).size+x16.size≤9223372036854775807 then (if (((x8 ++ t885) ++ (⟨#[58,32]⟩:zB)) ++ x16).size+1≤9223372036854775807 then (if x9.size+x18.size≤9223372036854775807 then (if (x9 ++ x18).size+1≤9223372036854775807 then (lzInsnLabels.l1 k x0 x3 x4 ((((x8 ++ t885) ++ (⟨#[58,32]⟩:zB)) ++ x16) ++ (⟨#[10]⟩:zB)) ((x9 ++ x18) ++ (⟨#[10]⟩:zB)) (wrap64 (x10+1))) else (none)) else (none)) else (none)) else (none)) else (none)) else (none))))
end
def lzInsnLabels.f (k:Nat) (l0:List (S78)):Option (Bool):=(lzsane.f k).bind fun t842=>(if (l0.length:Int) > 80 then (some t842) else (lzInsnLabels.l0 k l0 t842 (([0]:List Int)) 0))
theorem lzInsnLabels.mono_l:∀ k,(∀ y0 y1 y2 y3,LeO (lzInsnLabels.l0 k y0 y1 y2 y3) (lzInsnLabels.l0 (k+1) y0 y1 y2 y3))∧(∀ y0 y1 y2 y3 y4 y5,LeO (lzInsnLabels.l1 k y0 y1 y2 y3 y4 y5) (lzInsnLabels.l1 (k+1) y0 y1 y2 y3 y4 y5))∧(∀ y0 y1 y2 y3 y4 y5 y6 y7 y8 y9 y10 y11 y12,LeO (lzInsnLabels.j2 k y0 y1 y2 y3 y4 y5 y6 y7 y8 y9 y10 y11 y12) (lzInsnLabels.j2 (k+1) y0 y1 y2 y3 y4 y5 y6 y7 y8 y9 y10 y11 y12))∧(∀ y0 y1 y2 y3 y4 y5 y6 y7 y8 y9 y10,LeO (lzInsnLabels.j3 k y0 y1 y2 y3 y4 y5 y6 y7 y8 y9 y10) (lzInsnLabels.j3 (k+1) y0 y1 y2 y3 y4 y5 y6 y7 y8 y9 y10))∧(∀ y0 y1 y2 y3 y4 y5 y6 y7 y8 y9 y10 y11,LeO (lzInsnLabels.j4 k y0 y1 y2 y3 y4 y5 y6 y7 y8 y9 y10 y11) (lzInsnLabels.j4 (k+1) y0 y1 y2 y3 y4 y5 y6 y7 y8 y9 y10 y11))
 | 0=>⟨fun _ _ _ _ r h=>by simp [lzInsnLabels.l0] at h,fun _ _ _ _ _ _ r h=>by simp [lzInsnLabels.l1] at h,fun _ _ _ _ _ _ _ _ _ _ _ _ _ r h=>by simp [lzInsnLabels.j2] at h,fun _ _ _ _ _ _ _ _ _ _ _ r h=>by simp [lzInsnLabels.j3] at h,fun _ _ _ _ _ _ _ _ _ _ _ _ r h=>by simp [lzInsnLabels.j4] at h⟩
 | k+1=>by
  obtain ⟨ih0,ih1,ih2,ih3,ih4⟩:=lzInsnLabels.mono_l k;refine ⟨?_,?_,?_,?_,?_⟩
  ·intro y0 y1 y2 y3;unfold lzInsnLabels.l0;repeat' first
   | (with_reducible exact ih0 _ _ _ _)
   | (with_reducible exact ih1 _ _ _ _ _ _)
   | (with_reducible exact ih2 _ _ _ _ _ _ _ _ _ _ _ _ _)
   | (with_reducible exact ih3 _ _ _ _ _ _ _ _ _ _ _)
   | (with_reducible exact ih4 _ _ _ _ _ _ _ _ _ _ _ _)
   | (with_reducible exact insn_Len.mono _ _ _ _ _)
   | (with_reducible exact insn_Print.mono _ _ _ _ _)
   | (with_reducible exact insn_Target.mono _ _ _ _ _ _)
   | (with_reducible exact lzsane.mono _)
   | (with_reducible exact rzDigits.mono _ _)
   | (with_reducible exact LeO.refl _)
   | (with_reducible exact LeO.none _)
   | (with_reducible refine LeO.ite ?_ ?_)
   | (with_reducible refine LeO.bind ?_ (fun _=>?_))
   | exact LeO.none _
   | refine LeO.ite ?_ ?_
   | refine LeO.bind ?_ (fun _=>?_)
  ·intro y0 y1 y2 y3 y4 y5;unfold lzInsnLabels.l1;repeat' first
   | (with_reducible exact ih0 _ _ _ _)
   | (with_reducible exact ih1 _ _ _ _ _ _)
   | (with_reducible exact ih2 _ _ _ _ _ _ _ _ _ _ _ _ _)
   | (with_reducible exact ih3 _ _ _ _ _ _ _ _ _ _ _)
   | (with_reducible exact ih4 _ _ _ _ _ _ _ _ _ _ _ _)
   | (with_reducible exact insn_Len.mono _ _ _ _ _)
   | (with_reducible exact insn_Print.mono _ _ _ _ _)
   | (with_reducible exact insn_Target.mono _ _ _ _ _ _)
   | (with_reducible exact lzsane.mono _)
   | (with_reducible exact rzDigits.mono _ _)
   | (with_reducible exact LeO.refl _)
   | (with_reducible exact LeO.none _)
   | (with_reducible refine LeO.ite ?_ ?_)
   | (with_reducible refine LeO.bind ?_ (fun _=>?_))
   | exact LeO.none _
   | refine LeO.ite ?_ ?_
   | refine LeO.bind ?_ (fun _=>?_)
  ·intro y0 y1 y2 y3 y4 y5 y6 y7 y8 y9 y10 y11 y12;unfold lzInsnLabels.j2;repeat' first
   | (with_reducible exact ih0 _ _ _ _)
   | (with_reducible exact ih1 _ _ _ _ _ _)
   | (with_reducible exact ih2 _ _ _ _ _ _ _ _ _ _ _ _ _)
   | (with_reducible exact ih3 _ _ _ _ _ _ _ _ _ _ _)
   | (with_reducible exact ih4 _ _ _ _ _ _ _ _ _ _ _ _)
   | (with_reducible exact insn_Len.mono _ _ _ _ _)
   | (with_reducible exact insn_Print.mono _ _ _ _ _)
   | (with_reducible exact insn_Target.mono _ _ _ _ _ _)
   | (with_reducible exact lzsane.mono _)
   | (with_reducible exact rzDigits.mono _ _)
   | (with_reducible exact LeO.refl _)
   | (with_reducible exact LeO.none _)
   | (with_reducible refine LeO.ite ?_ ?_)
   | (with_reducible refine LeO.bind ?_ (fun _=>?_))
   | exact LeO.none _
   | refine LeO.ite ?_ ?_
   | refine LeO.bind ?_ (fun _=>?_)
  ·intro y0 y1 y2 y3 y4 y5 y6 y7 y8 y9 y10;unfold lzInsnLabels.j3;repeat' first
   | (with_reducible exact ih0 _ _ _ _)
   | (with_reducible exact ih1 _ _ _ _ _ _)
   | (with_reducible exact ih2 _ _ _ _ _ _ _ _ _ _ _ _ _)
   | (with_reducible exact ih3 _ _ _ _ _ _ _ _ _ _ _)
   | (with_reducible exact ih4 _ _ _ _ _ _ _ _ _ _ _ _)
   | (with_reducible exact insn_Len.mono _ _ _ _ _)
   | (with_reducible exact insn_Print.mono _ _ _ _ _)
   | (with_reducible exact insn_Target.mono _ _ _ _ _ _)
   | (with_reducible exact lzsane.mono _)
   | (with_reducible exact rzDigits.mono _ _)
   | (with_reducible exact LeO.refl _)
   | (with_reducible exact LeO.none _)
   | (with_reducible refine LeO.ite ?_ ?_)
   | (with_reducible refine LeO.bind ?_ (fun _=>?_))
   | exact LeO.none _
   | refine LeO.ite ?_ ?_
   | refine LeO.bind ?_ (fun _=>?_)
  ·intro y0 y1 y2 y3 y4 y5 y6 y7 y8 y9 y10 y11;unfold lzInsnLabels.j4;repeat' first
   | (with_reducible exact ih0 _ _ _ _)
   | (with_reducible exact ih1 _ _ _ _ _ _)
   | (with_reducible exact ih2 _ _ _ _ _ _ _ _ _ _ _ _ _)
   | (with_reducible exact ih3 _ _ _ _ _ _ _ _ _ _ _)
   | (with_reducible exact ih4 _ _ _ _ _ _ _ _ _ _ _ _)
   | (with_reducible exact insn_Len.mono _ _ _ _ _)
   | (with_reducible exact insn_Print.mono _ _ _ _ _)
   | (with_reducible exact insn_Target.mono _ _ _ _ _ _)
   | (with_reducible exact lzsane.mono _)
   | (with_reducible exact rzDigits.mono _ _)
   | (with_reducible exact LeO.refl _)
   | (with_reducible exact LeO.none _)
   | (with_reducible refine LeO.ite ?_ ?_)
   | (with_reducible refine LeO.bind ?_ (fun _=>?_))
   | exact LeO.none _
   | refine LeO.ite ?_ ?_
   | refine LeO.bind ?_ (fun _=>?_)
theorem lzInsnLabels.mono:∀ a0 k,LeO (lzInsnLabels.f k a0) (lzInsnLabels.f (k+1) a0):=by
 intro a0 k;obtain ⟨ih0,ih1,ih2,ih3,ih4⟩:=lzInsnLabels.mono_l k;unfold lzInsnLabels.f;repeat' first
   | (with_reducible exact ih0 _ _ _ _)
   | (with_reducible exact ih1 _ _ _ _ _ _)
   | (with_reducible exact ih2 _ _ _ _ _ _ _ _ _ _ _ _ _)
   | (with_reducible exact ih3 _ _ _ _ _ _ _ _ _ _ _)
   | (with_reducible exact ih4 _ _ _ _ _ _ _ _ _ _ _ _)
   | (with_reducible exact insn_Len.mono _ _ _ _ _)
   | (with_reducible exact insn_Print.mono _ _ _ _ _)
   | (with_reducible exact insn_Target.mono _ _ _ _ _ _)
   | (with_reducible exact lzsane.mono _)
   | (with_reducible exact rzDigits.mono _ _)
   | (with_reducible exact LeO.refl _)
   | (with_reducible exact LeO.none _)
   | (with_reducible refine LeO.ite ?_ ?_)
   | (with_reducible refine LeO.bind ?_ (fun _=>?_))
   | exact LeO.none _
   | refine LeO.ite ?_ ?_
   | refine LeO.bind ?_ (fun _=>?_)
def lzInsnLabels.T20:Bool × List (List Nat × List Nat):=(true,[([],[]),([],[]),([0,1],[0,1]),([2],[2]),([],[]),([],[]),([5],[5]),([4,6],[4,6]),([7],[7]),([3,8],[3,8]),([9,0,1,2,3,4,5,6,7,8,9],[9])])
def lzInsnLabels.B20:List Nat:=[0,0,3,7,0,0,32,112,240,511,1023]
theorem lzInsnLabels.tab20:rtab .any (opsOf Tryz.f13 20)=lzInsnLabels.T20:=by kernel_rfl
theorem lzInsnLabels.bits20:waitsOk lzInsnLabels.T20.2 lzInsnLabels.B20=true:=by kernel_rfl
def lzInsnLabels.T28:Bool × List (List Nat × List Nat):=(true,[([],[]),([],[]),([1],[1]),([2],[2]),([0,3],[0,3]),([4],[4]),([],[]),([6],[6]),([7],[7]),([8],[8]),([5,9],[5,9]),([10,9,0,1,2,3,4,5,6,7,8,9,10],[10])])
def lzInsnLabels.B28:List Nat:=[0,0,2,6,15,31,0,64,192,448,1023,2047]
theorem lzInsnLabels.tab28:rtab .any (opsOf Tryz.f13 28)=lzInsnLabels.T28:=by kernel_rfl
theorem lzInsnLabels.bits28:waitsOk lzInsnLabels.T28.2 lzInsnLabels.B28=true:=by kernel_rfl
def lzInsnLabels.T29:Bool × List (List Nat × List Nat):=(true,[([],[]),([],[]),([1],[1]),([2],[2]),([0,3],[0,3]),([],[]),([5],[5]),([4,6],[4,6]),([7,6,0,1,2,3,4,5,6,7],[0,1,7])])
def lzInsnLabels.B29:List Nat:=[0,0,2,6,15,0,32,127,255]
theorem lzInsnLabels.tab29:rtab .any (opsOf Tryz.f13 29)=lzInsnLabels.T29:=by kernel_rfl
theorem lzInsnLabels.bits29:waitsOk lzInsnLabels.T29.2 lzInsnLabels.B29=true:=by kernel_rfl
def lzInsnLabels.T31:Bool × List (List Nat × List Nat):=(true,[([],[]),([],[]),([1],[1]),([2],[2]),([0,3],[0,3]),([4],[4]),([],[]),([6],[6]),([7],[7]),([5,8],[5,8]),([9,8,0,1,2,3,4,5,6,7,8,9],[9])])
def lzInsnLabels.B31:List Nat:=[0,0,2,6,15,31,0,64,192,511,1023]
theorem lzInsnLabels.tab31:rtab .any (opsOf Tryz.f13 31)=lzInsnLabels.T31:=by kernel_rfl
theorem lzInsnLabels.bits31:waitsOk lzInsnLabels.T31.2 lzInsnLabels.B31=true:=by kernel_rfl
def lzInsnLabels.T32:Bool × List (List Nat × List Nat):=(true,[([],[]),([],[]),([1],[1]),([2],[2]),([0,3],[0,3]),([],[]),([5],[5]),([4,6],[4,6]),([7,6,0,1,2,3,4,5,6,7],[0,1,7])])
def lzInsnLabels.B32:List Nat:=[0,0,2,6,15,0,32,127,255]
theorem lzInsnLabels.tab32:rtab .any (opsOf Tryz.f13 32)=lzInsnLabels.T32:=by kernel_rfl
theorem lzInsnLabels.bits32:waitsOk lzInsnLabels.T32.2 lzInsnLabels.B32=true:=by kernel_rfl
set_option maxHeartbeats 8000000 in
set_option maxRecDepth 100000 in
theorem lzInsnLabels.calls (k:Nat) (A0:Option Addr) (c0:Nat) (l0:List (S78)) (r:Bool) (w:World) (hr0:Kd.C k78 w A0 l0.length l0) (hc0:l0.length≤c0) (h:lzInsnLabels.f k l0=some r) (hgw:GW w) (hrt:r=true:=by rfl) :
  Calls Tryz.prog 13 #[.slice A0 l0.length c0] w fun e w'=>e=.returned (.bool r)∧Below w.heap.size w w':=by
 have HRT:=Aside0.mk hrt;clear hrt;have hu23:=Tryz.underlying23;have HR0:=Aside0.mk hr0;have HC0:=Aside0.mk hc0;clear hr0 hc0;have HB:=Aside0.mk (Below.refl w.heap.size w);have H:((lzsane.f k).bind fun t842=>(if (l0.length:Int) > 80 then (some t842) else (lzInsnLabels.l0 k l0 t842 (([0]:List Int)) 0)))=some r:=h;clear h;replace H:=Option.bind_eq_some_iff.mp H;obtain ⟨t842,A20,H⟩:=H;replace H:(if (l0.length:Int) > 80 then (some t842) else (lzInsnLabels.l0 k l0 t842 (([0]:List Int)) 0))=some r:=H;have A2:=Aside0.mk A20;clear A20;by_cases c3:(l0.length:Int) > 80
 ·rw [if_pos c3] at H;have c3b0:decide (80 < (l0.length:Int))=true:=decide_eq_true c3;have c3b1:decide (80 < l0.length)=true:=decide_eq_true (by omega);clear c3;obtain rfl:=Option.some.inj H;go_enter Tryz.func13,Tryz.ntmps13
  go_wp2_with (first | ((with_reducible refine gate_callee (f:=17) rfl ?_);refine goesL_ (some 27) rfl rfl Tryz.func17 (by kernel_rfl) rfl #[] rfl fq ?_;(with_reducible refine (lzsane.calls k  t842 _ A2.out gwy).mono ?_);rintro e w4 ⟨rfl,hb⟩;refine ⟨_,rfl,?_⟩;have n0_:=Aside0.mk (below_step blw hb);clear HB;have HB:=n0_;clear n0_;(try clear hb);(try clear hb2);(try clear hk);(try clear hi)))
  go_ret;exact ⟨rew,blw⟩
 ·rw [if_neg c3] at H;have c3b0:decide (80 < (l0.length:Int))=false:=decide_eq_false c3;have c3b1:decide (80 < l0.length)=false:=decide_eq_false (by omega);clear c3;obtain ⟨y843,hy843⟩:∃ y_:List Int,y_=(([0]:List Int)):=⟨_,rfl⟩;replace H:(lzInsnLabels.l0 k l0 t842 y843 0)=some r:=by first | (rw [hy843];with_reducible exact H) | (have H2_:=(Option.bind_some _ _).symm.trans H;rw [hy843];with_reducible exact H2_) | (have H2_:=(Option.bind_some _ _).symm.trans H;with_reducible exact H2_) | with_reducible exact H | (rw [hy843];exact H) | exact H
  have Ny843:=Aside0.mk hy843;clear hy843;have H':=Aside0.mk H;clear H;go_enter Tryz.func13,Tryz.ntmps13
  go_wp2_with (first | ((with_reducible refine gate_callee (f:=17) rfl ?_);refine goesL_ (some 27) rfl rfl Tryz.func17 (by kernel_rfl) rfl #[] rfl fq ?_;(with_reducible refine (lzsane.calls k  t842 _ A2.out gwy).mono ?_);rintro e w5 ⟨rfl,hb⟩;refine ⟨_,rfl,?_⟩;have n0_:=Aside0.mk (below_step blw hb);clear HB;have HB:=n0_;clear n0_;(try clear hb);(try clear hb2);(try clear hk);(try clear hi)) | ((with_reducible refine gate_dst (N:=32) rfl ?_);(try (refine gate_guard (by rfl) ?_;dsimp only));refine Kd.R_lit (Kd.int .i64) _ 2 ?hg (N:=32) ?hd (xs:=([0]:List Int)) (inner:=[.int .i64 0]) (ok:=fun _=>True) (okp:=fun _=>True) ?hr ?hp (fun _ hk=>hk) trivial (Below.refl _ _) (Nat.le_refl _) (by simp) ?_;(case hd=>rfl);(case hg=>rfl);(case hr=>first | (go_simp;done) | (go_simp;rfl));(case hp=>exact (Reps.one (show Kd.M (Kd.int .i64) _ _ _ 0 [.int .i64 0] from rfl) (Reps.none _ _)));intro v844 w6 ho7 hb hg_ hnew_;clear hg_ hnew_;(first | rw [← Ny843.out] at ho7 | (simp only [Int.reduceToNat] at ho7;rw [← Ny843.out] at ho7));have n0_:=Aside0.mk (Kd.R_lower ho7 (below_size blw));have n1_:=Aside0.mk (below_step blw hb);clear HB;have HO845:=n0_;have HB:=n1_;clear n0_ n1_;clear hb ho7))
  try simp only [Act.put,List.setIfInBounds_toArray,List.set_cons_zero,List.set_cons_succ]
  go_loopg [4,5] k (fun kq v4 v5 w'=>∃ (x4_1:List Int) (x5_1:Int),v5=.int .i64 x5_1∧Aside0 (lzInsnLabels.l0 kq l0 t842 x4_1 x5_1=some r)∧Aside0 (kq≤k)∧Aside0 (Kd.R (Kd.int .i64) 2 w' w.heap.size (fun _=>True) v4 x4_1)∧Aside0 (Below w.heap.size w w'))
  case atStart=>exact ⟨(y843),(0),rsd,H',⟨Nat.le_refl _⟩,⟨by (with_reducible repeat (first | apply Kd.R_alloc | apply Kd.R_drewN | apply Kd.R_drew));exact HO845.out⟩,⟨blw⟩⟩
  case round =>
   clear H';try clear c3b0
   try clear c3b1
   obtain ⟨x4_1,x5_1,rfl,HA,HK1,HO_4,HB⟩:=hrel;cases gk with
   | zero=>exact absurd HA.out (by simp [lzInsnLabels.l0])
   | succ k1 =>
    have H:=HA.out;clear HA;simp only [lzInsnLabels.l0] at H;by_cases c8:x5_1 < (l0.length:Int)
    ·rw [if_pos c8] at H;have c8b0:=decide_eq_true c8;clear c8;by_cases c9:0≤x5_1
     ·rw [if_pos c9] at H;have c9b0:=decide_eq_true c9;clear c9;replace H:=Option.bind_eq_some_iff.mp H;obtain ⟨⟨t847,t848⟩,A100,H⟩:=H;replace H:(if t848=0 then (if x5_1 < (x4_1.length:Int) then (if x4_1.length < 17592186044416 then (lzInsnLabels.l0 k1 l0 t842 (x4_1 ++ [wrap64 ((rd x4_1 x5_1)+t847)]) (wrap64 (x5_1+1))) else (none)) else (none)) else (some t842))=some r:=H;have A10:=Aside0.mk A100;clear A100;by_cases c11:t848=0
      ·rw [if_pos c11] at H;obtain ⟨c11b0,c11b1⟩:=bqt c11;clear c11;by_cases c12:x5_1 < (x4_1.length:Int)
       ·rw [if_pos c12] at H;have c12b0:=decide_eq_true c12;clear c12;by_cases c13:x4_1.length < 17592186044416
        ·rw [if_pos c13] at H;have LMc13:=Aside0.mk c13;clear c13;obtain ⟨y850,hy850⟩:∃ y_:List Int,y_=(x4_1 ++ [wrap64 ((rd x4_1 x5_1)+t847)]):=⟨_,rfl⟩;replace H:(lzInsnLabels.l0 k1 l0 t842 y850 (wrap64 (x5_1+1)))=some r:=by first | (rw [hy850];with_reducible exact H) | (have H2_:=(Option.bind_some _ _).symm.trans H;rw [hy850];with_reducible exact H2_) | (have H2_:=(Option.bind_some _ _).symm.trans H;with_reducible exact H2_) | with_reducible exact H | (rw [hy850];exact H) | exact H
         have Ny850:=Aside0.mk hy850;clear hy850;have H':=Aside0.mk H;clear H;have p846:0≤(x5_1:Int):=of_decide_eq_true asm;have q846:x5_1 < (l0.length:Int):=of_decide_eq_true asm;obtain ⟨ad846,e846,hx846_0,hx846_1,hx846_2,hx846_3,hx846_4⟩:=at_T78 HR0.out x5_1 p846 q846;cases e846;replace hx846_0:=(HB.out.cell (World.block_lt_of_cell? w _ hx846_0)).trans hx846_0;replace hx846_1:=(HB.out.cell (World.block_lt_of_cell? w _ hx846_1)).trans hx846_1;replace hx846_2:=(HB.out.cell (World.block_lt_of_cell? w _ hx846_2)).trans hx846_2;replace hx846_3:=(HB.out.cell (World.block_lt_of_cell? w _ hx846_3)).trans hx846_3;replace hx846_4:=(HB.out.cell (World.block_lt_of_cell? w _ hx846_4)).trans hx846_4;replace p846:=eq_true p846;replace q846:=eq_true q846;go_wp2_with (first | ((with_reducible refine gate_callee (f:=36) rfl ?_);refine goesL_ (some 45) rfl rfl Tryz.func36 (by kernel_rfl) rfl #[.agg #[.int .i64 ((rd_T78 l0 x5_1).f0.f0),.int .i64 ((rd_T78 l0 x5_1).f0.f1),.int .i64 ((rd_T78 l0 x5_1).f0.f2),.int .i64 ((rd_T78 l0 x5_1).f0.f3)]] rfl fq ?_;(with_reducible refine (insn_Len.calls k1 ((rd_T78 l0 x5_1).f0.f0) ((rd_T78 l0 x5_1).f0.f1) ((rd_T78 l0 x5_1).f0.f2) ((rd_T78 l0 x5_1).f0.f3) t847 t848 _ A10.out gwy).mono ?_);rintro e w14 ⟨rfl,hb⟩;refine ⟨_,rfl,?_⟩;have n0_:=Aside0.mk (Kd.R_below (by (with_reducible repeat (first | apply Kd.R_alloc | apply Kd.R_drewN | apply Kd.R_drew));exact HO_4.out) hb);have n1_:=Aside0.mk (below_step blw hb);clear HO_4;clear HB;have HO_4:=n0_;have HB:=n1_;clear n0_ n1_;(try clear hb);(try clear hb2);(try clear hk);(try clear hi);obtain ⟨Ao15,co15,eo15⟩:=Kd.R_slice HO_4.out;subst eo15;have p849:0≤(x5_1:Int):=of_decide_eq_true asm;have q849:x5_1 < (x4_1.length:Int):=of_decide_eq_true asm;obtain ⟨ad849,e849,hx849_0⟩:=Kd.at_int (Kd.R_reads' HO_4.out).2.2 x5_1 p849 q849;cases e849;replace p849:=eq_true p849;replace q849:=eq_true q849) | ((with_reducible refine gate_builtin (b:=.append) (xs:=#[.tmp 51,.tmp 58]) rfl ?_);(try (refine gate_guard (by rfl) ?_;dsimp only));at_builtin;refine Kd.R_append (Kd.int .i64) (w0:=w) w.heap.size rfl (.tmp 51) (.tmp 58) 74 2 (.int .i64 0) 8 rfl Tryz.underlying74 info2 rfl (by decide) (by omega) (.slice (some ad849) x4_1.length co15) x4_1 (wrap64 ((rd x4_1 x5_1)+t847)) [.int .i64 (wrap64 ((rd x4_1 x5_1)+t847))] (fun _=>True) (fun _=>False) rfl rfl ?aP (fun _ hk=>hk.elim) ?aF ?aO ?aB ?aS ?aL ?_;(case aP=>exact rfl);(case aB=>exact blw);(case aF=>exact (fun _ _=>trivial));(case aO=>exact (by (with_reducible repeat (first | apply Kd.R_alloc | apply Kd.R_drewN | apply Kd.R_drew));exact HO_4.out));(case aS=>exact (below_size blw));(case aL=>have:=LMc13.out;omega);intro v851 w16 ho hb hg hat;rw [← Ny850.out] at ho;have n0_:=Aside0.mk (hb);have n1_:=Aside0.mk (ho);clear HB;clear HO_4;have HB:=n0_;have HO852:=n1_;clear n0_ n1_;clear ho hb hg hat))
         go_roundg k1
         case measure=>have:=HK1.out;omega
         case rel=>exact ⟨(y850),(wrap64 (x5_1+1)),rsd,H',⟨by have:=HK1.out;omega⟩,⟨by (with_reducible repeat (first | apply Kd.R_alloc | apply Kd.R_drewN | apply Kd.R_drew));exact HO852.out⟩,⟨blw⟩⟩
        ·rw [if_neg c13] at H;exact absurd H (by simp)
       ·rw [if_neg c12] at H;exact absurd H (by simp)
      ·rw [if_neg c11] at H;obtain ⟨c11b0,c11b1⟩:=bqf c11;obtain rfl:=Option.some.inj H;have p846:0≤(x5_1:Int):=of_decide_eq_true asm;have q846:x5_1 < (l0.length:Int):=of_decide_eq_true asm;obtain ⟨ad846,e846,hx846_0,hx846_1,hx846_2,hx846_3,hx846_4⟩:=at_T78 HR0.out x5_1 p846 q846;cases e846;replace hx846_0:=(HB.out.cell (World.block_lt_of_cell? w _ hx846_0)).trans hx846_0;replace hx846_1:=(HB.out.cell (World.block_lt_of_cell? w _ hx846_1)).trans hx846_1;replace hx846_2:=(HB.out.cell (World.block_lt_of_cell? w _ hx846_2)).trans hx846_2;replace hx846_3:=(HB.out.cell (World.block_lt_of_cell? w _ hx846_3)).trans hx846_3;replace hx846_4:=(HB.out.cell (World.block_lt_of_cell? w _ hx846_4)).trans hx846_4;replace p846:=eq_true p846;replace q846:=eq_true q846;go_wp2_with (first | ((with_reducible refine gate_callee (f:=36) rfl ?_);refine goesL_ (some 45) rfl rfl Tryz.func36 (by kernel_rfl) rfl #[.agg #[.int .i64 ((rd_T78 l0 x5_1).f0.f0),.int .i64 ((rd_T78 l0 x5_1).f0.f1),.int .i64 ((rd_T78 l0 x5_1).f0.f2),.int .i64 ((rd_T78 l0 x5_1).f0.f3)]] rfl fq ?_;(with_reducible refine (insn_Len.calls k1 ((rd_T78 l0 x5_1).f0.f0) ((rd_T78 l0 x5_1).f0.f1) ((rd_T78 l0 x5_1).f0.f2) ((rd_T78 l0 x5_1).f0.f3) t847 t848 _ A10.out gwy).mono ?_);rintro e w17 ⟨rfl,hb⟩;refine ⟨_,rfl,?_⟩;have n0_:=Aside0.mk (Kd.R_below (by (with_reducible repeat (first | apply Kd.R_alloc | apply Kd.R_drewN | apply Kd.R_drew));exact HO_4.out) hb);have n1_:=Aside0.mk (below_step blw hb);clear HO_4;clear HB;have HO_4:=n0_;have HB:=n1_;clear n0_ n1_;(try clear hb);(try clear hb2);(try clear hk);(try clear hi)))
       go_ret;exact ⟨rew,blw⟩
     ·rw [if_neg c9] at H;exact absurd H (by simp)
    ·rw [if_neg c8] at H;have c8b0:=decide_eq_false c8;clear c8;have H':=Aside0.mk H;clear H;go_wp2;try simp only [Act.put,List.setIfInBounds_toArray,List.set_cons_zero,List.set_cons_succ]
     go_loopg [8,9,10] k1 (fun kq v8 v9 v10 w'=>∃ (x8_2:ByteArray) (x9_2:ByteArray) (x10_2:Int),v8=.string x8_2∧v9=.string x9_2∧v10=.int .i64 x10_2∧Aside0 (lzInsnLabels.l1 kq l0 t842 x4_1 x8_2 x9_2 x10_2=some r)∧Aside0 (kq≤k1)∧Aside0 (Kd.R (Kd.int .i64) 2 w' w.heap.size (fun _=>True) u4 x4_1)∧Aside0 (Below w.heap.size w w'))
     case atStart=>exact ⟨((⟨#[]⟩:zB)),((⟨#[]⟩:zB)),(0),rsd,rsd,rsd,H',⟨Nat.le_refl _⟩,⟨by (with_reducible repeat (first | apply Kd.R_alloc | apply Kd.R_drewN | apply Kd.R_drew));exact HO_4.out⟩,⟨blw⟩⟩
     case round =>
      clear H';try clear c8b0
      obtain ⟨x8_2,x9_2,x10_2,rfl,rfl,rfl,HA,HK2,HO_4,HB⟩:=hrel;cases gk with
      | zero=>exact absurd HA.out (by simp [lzInsnLabels.l1])
      | succ k2 =>
       have H:=HA.out;clear HA;simp only [lzInsnLabels.l1] at H;by_cases c18:x10_2 < (l0.length:Int)
       ·rw [if_pos c18] at H;have c18b0:=decide_eq_true c18;clear c18;by_cases c19:0≤x10_2
        ·rw [if_pos c19] at H;have c19b0:=decide_eq_true c19;clear c19;replace H:=Option.bind_eq_some_iff.mp H;obtain ⟨⟨t872,t873⟩,A200,H⟩:=H;replace H:(if (l0.length:Int)=0 then (none) else (if 0≤(Int.tmod (wrap64 ((rd_T78 l0 x10_2).f1)) (l0.length:Int)) then (if (Int.tmod (wrap64 ((rd_T78 l0 x10_2).f1)) (l0.length:Int)) < (x4_1.length:Int) then (if 0≤(wrap64 (x10_2+1)) then (if (wrap64 (x10_2+1)) < (x4_1.length:Int) then (if t873=true then (lzInsnLabels.j2 k2 l0 t842 x4_1 x8_2 x9_2 x10_2 t873 (Int.tmod (wrap64 ((rd_T78 l0 x10_2).f1)) (l0.length:Int)) (wrap64 ((rd x4_1 (Int.tmod (wrap64 ((rd_T78 l0 x10_2).f1)) (l0.length:Int))) - (rd x4_1 (wrap64 (x10_2+1))))) ((rd_T78 l0 x10_2).f0.f0) ((rd_T78 l0 x10_2).f0.f1) ((rd_T78 l0 x10_2).f0.f2) 0) else (lzInsnLabels.j2 k2 l0 t842 x4_1 x8_2 x9_2 x10_2 t873 (Int.tmod (wrap64 ((rd_T78 l0 x10_2).f1)) (l0.length:Int)) (wrap64 ((rd x4_1 (Int.tmod (wrap64 ((rd_T78 l0 x10_2).f1)) (l0.length:Int))) - (rd x4_1 (wrap64 (x10_2+1))))) ((rd_T78 l0 x10_2).f0.f0) ((rd_T78 l0 x10_2).f0.f1) ((rd_T78 l0 x10_2).f0.f2) ((rd_T78 l0 x10_2).f0.f3))) else (none)) else (none)) else (none)) else (none)))=some r:=H;have A20:=Aside0.mk A200;clear A200;by_cases c21:(l0.length:Int)=0
         ·rw [if_pos c21] at H;exact absurd H (by simp)
         ·rw [if_neg c21] at H;obtain ⟨c21b0,c21b1⟩:=bqf c21;have c21b2:¬ (l0=[]):=fun h_=>c21 (by rw [h_];rfl)
          obtain ⟨ji22,hji22⟩:∃ j_:Int,(Int.tmod (wrap64 ((rd_T78 l0 x10_2).f1)) (l0.length:Int))=j_:=⟨_,rfl⟩;replace H:(if 0≤(ji22) then (if (ji22) < (x4_1.length:Int) then (if 0≤(wrap64 (x10_2+1)) then (if (wrap64 (x10_2+1)) < (x4_1.length:Int) then (if t873=true then (lzInsnLabels.j2 k2 l0 t842 x4_1 x8_2 x9_2 x10_2 t873 ji22 (wrap64 ((rd x4_1 (ji22)) - (rd x4_1 (wrap64 (x10_2+1))))) ((rd_T78 l0 x10_2).f0.f0) ((rd_T78 l0 x10_2).f0.f1) ((rd_T78 l0 x10_2).f0.f2) 0) else (lzInsnLabels.j2 k2 l0 t842 x4_1 x8_2 x9_2 x10_2 t873 ji22 (wrap64 ((rd x4_1 (ji22)) - (rd x4_1 (wrap64 (x10_2+1))))) ((rd_T78 l0 x10_2).f0.f0) ((rd_T78 l0 x10_2).f0.f1) ((rd_T78 l0 x10_2).f0.f2) ((rd_T78 l0 x10_2).f0.f3))) else (none)) else (none)) else (none)) else (none))=some r:=by first | (rw [hji22] at H;exact H) | (simp only [hji22] at H ⊢;exact H)
          (try rw [hji22] at A20);by_cases c23:0≤(ji22)
          ·rw [if_pos c23] at H;have c23b0:=decide_eq_true c23;clear c23;by_cases c24:(ji22) < (x4_1.length:Int)
           ·rw [if_pos c24] at H;have c24b0:=decide_eq_true c24;clear c24;obtain ⟨ji25,hji25⟩:∃ j_:Int,(wrap64 (x10_2+1))=j_:=⟨_,rfl⟩;replace H:(if 0≤(ji25) then (if (ji25) < (x4_1.length:Int) then (if t873=true then (lzInsnLabels.j2 k2 l0 t842 x4_1 x8_2 x9_2 x10_2 t873 ji22 (wrap64 ((rd x4_1 (ji22)) - (rd x4_1 (ji25)))) ((rd_T78 l0 x10_2).f0.f0) ((rd_T78 l0 x10_2).f0.f1) ((rd_T78 l0 x10_2).f0.f2) 0) else (lzInsnLabels.j2 k2 l0 t842 x4_1 x8_2 x9_2 x10_2 t873 ji22 (wrap64 ((rd x4_1 (ji22)) - (rd x4_1 (ji25)))) ((rd_T78 l0 x10_2).f0.f0) ((rd_T78 l0 x10_2).f0.f1) ((rd_T78 l0 x10_2).f0.f2) ((rd_T78 l0 x10_2).f0.f3))) else (none)) else (none))=some r:=by first | (rw [hji25] at H;exact H) | (simp only [hji25] at H ⊢;exact H)
            (try rw [hji25] at A20);have hji25w:(IntKind.i64.wrap (x10_2+1))=ji25:=(i64_w _).trans hji25;by_cases c26:0≤(ji25)
            ·rw [if_pos c26] at H;have c26b0:=decide_eq_true c26;clear c26;by_cases c27:(ji25) < (x4_1.length:Int)
             ·rw [if_pos c27] at H;have c27b0:=decide_eq_true c27;clear c27;have HC28:=Aside0.mk H;clear H;have p870:0≤(x10_2:Int):=of_decide_eq_true asm;have q870:x10_2 < (l0.length:Int):=of_decide_eq_true asm;obtain ⟨ad870,e870,hx870_0,hx870_1,hx870_2,hx870_3,hx870_4⟩:=at_T78 HR0.out x10_2 p870 q870;cases e870;replace hx870_0:=(HB.out.cell (World.block_lt_of_cell? w _ hx870_0)).trans hx870_0;replace hx870_1:=(HB.out.cell (World.block_lt_of_cell? w _ hx870_1)).trans hx870_1;replace hx870_2:=(HB.out.cell (World.block_lt_of_cell? w _ hx870_2)).trans hx870_2;replace hx870_3:=(HB.out.cell (World.block_lt_of_cell? w _ hx870_3)).trans hx870_3;replace hx870_4:=(HB.out.cell (World.block_lt_of_cell? w _ hx870_4)).trans hx870_4;replace p870:=eq_true p870;replace q870:=eq_true q870;try go_wp2_with (first | ((with_reducible refine gate_dst (N:=11) rfl ?_);(try (refine gate_guard (by rfl) ?_;dsimp only));refine box_event ?hg (N:=11) ?hd (cs:=#[.int .i64 0,.int .i64 0,.int .i64 0,.int .i64 0]) (t:=23) ?hr ?_;(case hd=>rfl);(case hg=>rfl);(case hr=>first | (go_simp;done) | (go_simp;rfl));intro gb871 hg w29 hbox hb;have n0_:=Aside0.mk (Kd.R_below (by (with_reducible repeat (first | apply Kd.R_alloc | apply Kd.R_drewN | apply Kd.R_drew));exact HO_4.out) hb);have n1_:=Aside0.mk (below_step blw hb);have n2_:=Aside0.mk (hbox);have n3_:=Aside0.mk ((by rw [hg];exact (below_size blw):w.heap.size≤gb871));have n4_:=Aside0.mk ((by rw [hg];exact (below_size blw):w.heap.size≤gb871));clear HO_4;clear HB;have HO_4:=n0_;have HB:=n1_;have BK871:=n2_;have GW871:=n3_;have GE871:=n4_;clear n0_ n1_ n2_ n3_ n4_;clear hb hbox hg;obtain ⟨hcz30_0,hcz30_1,hcz30_2,hcz30_3,hfz30_0,hfz30_1,hfz30_2,hfz30_3⟩:=bz4 BK871.out) | ((with_reducible refine gate_callee (f:=37) rfl ?_);refine goesL_ (some 73) rfl rfl Tryz.func37 (by kernel_rfl) rfl #[.agg #[.int .i64 ((rd_T78 l0 x10_2).f0.f0),.int .i64 ((rd_T78 l0 x10_2).f0.f1),.int .i64 ((rd_T78 l0 x10_2).f0.f2),.int .i64 ((rd_T78 l0 x10_2).f0.f3)],.int .i64 0] rfl fq ?_;(with_reducible refine (insn_Target.calls k2 ((rd_T78 l0 x10_2).f0.f0) ((rd_T78 l0 x10_2).f0.f1) ((rd_T78 l0 x10_2).f0.f2) ((rd_T78 l0 x10_2).f0.f3) 0 t872 t873 _ A20.out gwy).mono ?_);rintro e w31 ⟨rfl,hb⟩;refine ⟨_,rfl,?_⟩;have n0_:=Aside0.mk (Kd.R_below (by (with_reducible repeat (first | apply Kd.R_alloc | apply Kd.R_drewN | apply Kd.R_drew));exact (Kd.R_mono (Kd.R_far (p:=⟨gb871,3,none⟩) (Kd.R_far (p:=⟨gb871,2,none⟩) (Kd.R_far (p:=⟨gb871,1,none⟩) (Kd.R_far (p:=⟨gb871,0,none⟩) (Kd.R_types HO_4.out BK871.out (by decide)) (fun _ hk=>hk.2) (.int .i64 ((rd_T78 l0 x10_2).f0.f0))) (fun _ hk=>hk.2) (.int .i64 ((rd_T78 l0 x10_2).f0.f1))) (fun _ hk=>hk.2) (.int .i64 ((rd_T78 l0 x10_2).f0.f2))) (fun _ hk=>hk.2) (.int .i64 ((rd_T78 l0 x10_2).f0.f3))) (fun _ h_=>h_.1))) hb);have n1_:=Aside0.mk (blk_below (g:=gb871) (o:=.cells #[.int .i64 ((rd_T78 l0 x10_2).f0.f0),.int .i64 ((rd_T78 l0 x10_2).f0.f1),.int .i64 ((rd_T78 l0 x10_2).f0.f2),.int .i64 ((rd_T78 l0 x10_2).f0.f3)] 23 (0,0)) (by (with_reducible repeat (first | refine blk_drewN ?_ _ | refine blk_drew ?_ | refine blk_alloc ?_ _));refine blk_put (cs:=#[.int .i64 ((rd_T78 l0 x10_2).f0.f0),.int .i64 ((rd_T78 l0 x10_2).f0.f1),.int .i64 ((rd_T78 l0 x10_2).f0.f2),.int .i64 0]) ?_ 3 _ rfl;refine blk_put (cs:=#[.int .i64 ((rd_T78 l0 x10_2).f0.f0),.int .i64 ((rd_T78 l0 x10_2).f0.f1),.int .i64 0,.int .i64 0]) ?_ 2 _ rfl;refine blk_put (cs:=#[.int .i64 ((rd_T78 l0 x10_2).f0.f0),.int .i64 0,.int .i64 0,.int .i64 0]) ?_ 1 _ rfl;refine blk_put (cs:=#[.int .i64 0,.int .i64 0,.int .i64 0,.int .i64 0]) ?_ 0 _ rfl;(with_reducible repeat (first | refine blk_drewN ?_ _ | refine blk_drew ?_ | refine blk_alloc ?_ _));exact BK871.out) hb);have n2_:=Aside0.mk (below_step blw hb);clear HO_4;clear BK871;clear HB;have HO_4:=n0_;have BK871:=n1_;have HB:=n2_;clear n0_ n1_ n2_;(try clear hb);(try clear hb2);(try clear hk);(try clear hi);have p874:0≤(x10_2:Int):=of_decide_eq_true asm;have q874:x10_2 < (l0.length:Int):=of_decide_eq_true asm;obtain ⟨ad874,e874,hx874_0,hx874_1,hx874_2,hx874_3,hx874_4⟩:=at_T78 HR0.out x10_2 p874 q874;obtain rfl:ad870=ad874:=(by injection e874);replace hx874_0:=(HB.out.cell (World.block_lt_of_cell? w _ hx874_0)).trans hx874_0;replace hx874_1:=(HB.out.cell (World.block_lt_of_cell? w _ hx874_1)).trans hx874_1;replace hx874_2:=(HB.out.cell (World.block_lt_of_cell? w _ hx874_2)).trans hx874_2;replace hx874_3:=(HB.out.cell (World.block_lt_of_cell? w _ hx874_3)).trans hx874_3;replace hx874_4:=(HB.out.cell (World.block_lt_of_cell? w _ hx874_4)).trans hx874_4;replace p874:=eq_true p874;replace q874:=eq_true q874))
              have n0_:=Aside0.mk (Kd.R_drew HO_4.out);have n1_:=Aside0.mk (blk_drew BK871.out);have n2_:=Aside0.mk (below_drew1 HB.out);clear HO_4;clear BK871;clear HB;have HO_4:=n0_;have BK871:=n1_;have HB:=n2_;clear n0_ n1_ n2_;obtain ⟨Ao33,co33,eo33⟩:=Kd.R_slice HO_4.out;(first | subst eo33 | (injection eo33 with f1_ f2_ f3_;have f4_:=f1_.symm;have f5_:=f3_.symm;clear f1_ f2_ f3_;subst f4_;subst f5_));have p875:0≤((ji22):Int):=of_decide_eq_true asm;have q875:(ji22) < (x4_1.length:Int):=of_decide_eq_true asm;obtain ⟨ad875,e875,hx875_0⟩:=Kd.at_int (Kd.R_reads' HO_4.out).2.2 (ji22) p875 q875;cases e875;replace p875:=eq_true p875;replace q875:=eq_true q875;have p876:0≤((ji25):Int):=of_decide_eq_true asm;have q876:(ji25) < (x4_1.length:Int):=of_decide_eq_true asm;obtain ⟨ad876,e876,hx876_0⟩:=Kd.at_int (Kd.R_reads' HO_4.out).2.2 (ji25) p876 q876;obtain rfl:ad875=ad876:=(by injection e876);replace p876:=eq_true p876;replace q876:=eq_true q876;refine start_ (n:=11) (S:=fun w'=>w'.cell? (ad875.add ((ji22)).toNat)=some (.int .i64 (rd x4_1 (ji22)))∧w'.cell? (ad875.add ((ji25)).toNat)=some (.int .i64 (rd x4_1 (ji25)))) (ds:=[]) #[zF,zF,zF,zF,zF,zF,zF,zF,zF,zF,zF] (by kernel_rfl) rfl rfl ⟨hx875_0,hx876_0⟩ (fun hHeld=>?_);refine with_tabW lzInsnLabels.tab20 lzInsnLabels.bits20 (fun HT_ HW_=>?_);generalize w31.drew=w32 at HO_4 BK871 HB hx875_0 hx876_0 hHeld ⊢;refine pure_ (i:=0) (N:=some 85) (v:=?_) (a':=?_) #[zT,zF,zF,zF,zF,zF,zF,zF,zF,zF,zF] rfl rfl (any_of HT_.out (by kernel_rfl)) (fun _ _ _ h=>h) (Or.inl ⟨by rfl,?_⟩) ?_ ?_;rotate_left
              ·intro w';go_simp;with_reducible rfl
              rotate_left
              ·exact zp
              refine pure_ (i:=1) (N:=some 86) (v:=?_) (a':=?_) #[zT,zT,zF,zF,zF,zF,zF,zF,zF,zF,zF] rfl rfl (any_of HT_.out (by kernel_rfl)) (fun _ _ _ h=>h) (Or.inl ⟨by rfl,?_⟩) ?_ ?_;rotate_left
              ·intro w';go_simp;with_reducible rfl
              rotate_left
              ·exact zp
              refine pure_ (i:=2) (N:=some 87) (v:=?_) (a':=?_) #[zT,zT,zT,zF,zF,zF,zF,zF,zF,zF,zF] rfl rfl (any_of HT_.out (by kernel_rfl)) (fun _ _ _ h=>h) (Or.inl ⟨by rfl,?_⟩) ?_ ?_;rotate_left
              ·intro w';go_simp;with_reducible rfl
              rotate_left
              ·exact zp
              refine pure_ (i:=4) (N:=some 89) (v:=?_) (a':=?_) #[zT,zT,zT,zF,zT,zF,zF,zF,zF,zF,zF] rfl rfl (any_of HT_.out (by kernel_rfl)) (fun _ _ _ h=>h) (Or.inl ⟨by rfl,?_⟩) ?_ ?_;rotate_left
              ·intro w';go_simp;with_reducible rfl
              rotate_left
              ·exact zp
              refine pure_ (i:=5) (N:=some 90) (v:=?_) (a':=?_) #[zT,zT,zT,zF,zT,zT,zF,zF,zF,zF,zF] rfl rfl (any_of HT_.out (by kernel_rfl)) (fun _ _ _ h=>h) (Or.inl ⟨by rfl,?_⟩) ?_ ?_;rotate_left
              ·intro w';go_simp;with_reducible rfl
              rotate_left
              ·exact zp
              refine pure_ (i:=6) (N:=some 91) (v:=?_) (a':=?_) #[zT,zT,zT,zF,zT,zT,zT,zF,zF,zF,zF] rfl rfl (any_of HT_.out (by kernel_rfl)) (fun _ _ _ h=>h) (Or.inl ⟨by rfl,?_⟩) ?_ ?_;rotate_left
              ·intro w';go_simp;with_reducible rfl
              rotate_left
              ·exact zp
              refine pure_ (i:=7) (N:=some 92) (v:=?_) (a':=?_) #[zT,zT,zT,zF,zT,zT,zT,zT,zF,zF,zF] rfl rfl (any_of HT_.out (by kernel_rfl)) (fun _ _ _ h=>h) (Or.inl ⟨by rfl,?_⟩) ?_ ?_;rotate_left
              ·intro w';go_simp;with_reducible rfl
              rotate_left
              ·exact zp
              refine take_ (i:=3) (N:=some 88) (v:=?_) (a':=?_) #[zT,zT,zT,zT,zT,zT,zT,zT,zF,zF,zF] rfl rfl (take_ofW HT_.out HW_.out (by kernel_rfl)) (fun _ _ _ h=>h) (Or.inl ⟨by rfl,?_⟩) hHeld ?_ ?_;rotate_left
              ·rintro w' ⟨s0,s1⟩;go_simp;with_reducible rfl
              rotate_left
              ·exact zp
              refine take_ (i:=8) (N:=some 93) (v:=?_) (a':=?_) #[zT,zT,zT,zT,zT,zT,zT,zT,zT,zF,zF] rfl rfl (take_ofW HT_.out HW_.out (by kernel_rfl)) (fun _ _ _ h=>h) (Or.inl ⟨by rfl,?_⟩) hHeld ?_ ?_;rotate_left
              ·rintro w' ⟨s0,s1⟩;go_simp;with_reducible rfl
              rotate_left
              ·exact zp
              refine pure_ (i:=9) (N:=some 94) (v:=?_) (a':=?_) #[zT,zT,zT,zT,zT,zT,zT,zT,zT,zT,zF] rfl rfl (any_of HT_.out (by kernel_rfl)) (fun _ _ _ h=>h) (Or.inl ⟨by rfl,?_⟩) ?_ ?_;rotate_left
              ·intro w';go_simp;with_reducible rfl
              rotate_left
              ·exact zp
              refine pure_ (i:=10) (N:=some 15) (v:=?_) (a':=?_) #[zT,zT,zT,zT,zT,zT,zT,zT,zT,zT,zT] rfl rfl (any_of HT_.out (by kernel_rfl)) (fun _ _ _ h=>h) (Or.inl ⟨by rfl,?_⟩) ?_ ?_;rotate_left
              ·intro w';go_simp;with_reducible rfl
              rotate_left
              ·exact zp
              refine done_ (done_of HT_.out (by kernel_rfl)) ?_;go_upto_if 95 with (fail)
              go_cut [] (fun wc=>∃ (kq:Nat) (x872003_27:Int),Aside0 (lzInsnLabels.j2 kq l0 t842 x4_1 x8_2 x9_2 x10_2 t873 ji22 (wrap64 ((rd x4_1 (ji22)) - (rd x4_1 (ji25)))) ((rd_T78 l0 x10_2).f0.f0) ((rd_T78 l0 x10_2).f0.f1) ((rd_T78 l0 x10_2).f0.f2) x872003_27=some r)∧Aside0 (kq≤k2)∧Aside0 (Kd.R (Kd.int .i64) 2 wc w.heap.size (fun _=>True) (.slice (some ad875) x4_1.length co33) x4_1)∧Aside0 (wc.heap[gb871]?=some (.cells #[.int .i64 ((rd_T78 l0 x10_2).f0.f0),.int .i64 ((rd_T78 l0 x10_2).f0.f1),.int .i64 ((rd_T78 l0 x10_2).f0.f2),.int .i64 x872003_27] 23 (0,0)))∧Aside0 (Below w.heap.size w wc))
              case first =>
               have H:=HC28.out;clear HC28;by_cases c34:t873=true
               ·subst c34;have H1:(lzInsnLabels.j2 k2 l0 t842 x4_1 x8_2 x9_2 x10_2 true ji22 (wrap64 ((rd x4_1 (ji22)) - (rd x4_1 (ji25)))) ((rd_T78 l0 x10_2).f0.f0) ((rd_T78 l0 x10_2).f0.f1) ((rd_T78 l0 x10_2).f0.f2) 0)=some r:=by rw [if_pos rfl] at H;exact H
                clear H;have H:=H1;clear H1;have H':=Aside0.mk H;clear H;obtain ⟨hcz35_0,hcz35_1,hcz35_2,hcz35_3,hfz35_0,hfz35_1,hfz35_2,hfz35_3⟩:=bz4 BK871.out;go_wp2;go_meet
                case rel=>exact ⟨_,(0),H',⟨by have:=HK1.out;have:=HK2.out;first | omega | exact Nat.le_refl _⟩,⟨by (with_reducible repeat (first | apply Kd.R_alloc | apply Kd.R_drewN | apply Kd.R_drew));exact Kd.R_mono (Kd.R_far (p:=⟨gb871,3,none⟩) (Kd.R_types HO_4.out BK871.out (by decide)) (fun _ hk=>hk.2) (.int .i64 0)) (fun _ hk=>trivial)⟩,⟨by (with_reducible repeat (first | refine blk_drewN ?_ _ | refine blk_drew ?_ | refine blk_alloc ?_ _));refine blk_put (cs:=#[.int .i64 ((rd_T78 l0 x10_2).f0.f0),.int .i64 ((rd_T78 l0 x10_2).f0.f1),.int .i64 ((rd_T78 l0 x10_2).f0.f2),.int .i64 ((rd_T78 l0 x10_2).f0.f3)]) ?_ 3 _ rfl;(with_reducible repeat (first | refine blk_drewN ?_ _ | refine blk_drew ?_ | refine blk_alloc ?_ _));exact BK871.out⟩,⟨blw⟩⟩
               ·replace c34:=Bool.eq_false_iff.mpr c34;subst c34;have H1:(lzInsnLabels.j2 k2 l0 t842 x4_1 x8_2 x9_2 x10_2 false ji22 (wrap64 ((rd x4_1 (ji22)) - (rd x4_1 (ji25)))) ((rd_T78 l0 x10_2).f0.f0) ((rd_T78 l0 x10_2).f0.f1) ((rd_T78 l0 x10_2).f0.f2) ((rd_T78 l0 x10_2).f0.f3))=some r:=by rw [if_neg (show ¬ (false=true) by decide)] at H;exact H
                clear H;have H:=H1;clear H1;have H':=Aside0.mk H;clear H;go_wp2;go_meet
                case rel=>exact ⟨_,((rd_T78 l0 x10_2).f0.f3),H',⟨by have:=HK1.out;have:=HK2.out;first | omega | exact Nat.le_refl _⟩,⟨by (with_reducible repeat (first | apply Kd.R_alloc | apply Kd.R_drewN | apply Kd.R_drew));exact HO_4.out⟩,⟨bko⟩,⟨blw⟩⟩
              case rest =>
               clear HC28;try clear c18b0
               try clear c19b0
               try clear c21
               try clear c21b0
               try clear c21b1
               try clear c21b2
               try clear c23b0
               try clear c24b0
               try clear c26b0
               try clear c27b0
               try clear hcz30_0
               try clear hcz30_1
               try clear hcz30_2
               try clear hcz30_3
               try clear hfz30_0
               try clear hfz30_1
               try clear hfz30_2
               try clear hfz30_3
               try clear hx870_0
               try clear hx870_1
               try clear hx870_2
               try clear hx870_3
               try clear hx870_4
               try clear hx874_0
               try clear hx874_1
               try clear hx874_2
               try clear hx874_3
               try clear hx874_4
               try clear hx875_0
               try clear hx876_0
               try clear p870
               try clear p874
               try clear p875
               try clear p876
               try clear q870
               try clear q874
               try clear q875
               try clear q876
               obtain ⟨kq,x872003_27,HA,HJ27,HO_4,BK871,HB⟩:=hcut;cases kq with
               | zero=>exact absurd HA.out (by simp [lzInsnLabels.j2])
               | succ kj27 =>
                have H:=HA.out;clear HA;simp only [lzInsnLabels.j2] at H;replace H:=Option.bind_eq_some_iff.mp H;obtain ⟨⟨t877,t878⟩,A360,H⟩:=H;replace H:(if t878=0 then (lzInsnLabels.j3 kj27 l0 t842 x4_1 x8_2 x9_2 x10_2 t873 ji22 (wrap64 ((rd x4_1 (ji22)) - (rd x4_1 (ji25)))) t877 (decide ((t877.size:Int) < 3))) else (lzInsnLabels.j3 kj27 l0 t842 x4_1 x8_2 x9_2 x10_2 t873 ji22 (wrap64 ((rd x4_1 (ji22)) - (rd x4_1 (ji25)))) t877 true))=some r:=H;have A36:=Aside0.mk A360;clear A360;have HC37:=Aside0.mk H;clear H;obtain ⟨hcz38_0,hcz38_1,hcz38_2,hcz38_3,hfz38_0,hfz38_1,hfz38_2,hfz38_3⟩:=bz4 BK871.out;go_upto_region 24 with (first | ((with_reducible refine gate_callee (f:=24) rfl ?_);refine goesL_ (some 99) rfl rfl Tryz.func24 (by kernel_rfl) rfl #[.agg #[.int .i64 ((rd_T78 l0 x10_2).f0.f0),.int .i64 ((rd_T78 l0 x10_2).f0.f1),.int .i64 ((rd_T78 l0 x10_2).f0.f2),.int .i64 x872003_27]] rfl fq ?_;(with_reducible refine (insn_Print.calls kj27 ((rd_T78 l0 x10_2).f0.f0) ((rd_T78 l0 x10_2).f0.f1) ((rd_T78 l0 x10_2).f0.f2) x872003_27 t877 t878 _ A36.out gwy).mono ?_);rintro e w39 ⟨rfl,hb⟩;refine ⟨_,rfl,?_⟩;have n0_:=Aside0.mk (Kd.R_below (by (with_reducible repeat (first | apply Kd.R_alloc | apply Kd.R_drewN | apply Kd.R_drew));exact HO_4.out) hb);have n1_:=Aside0.mk (blk_below (g:=gb871) (o:=.cells #[.int .i64 ((rd_T78 l0 x10_2).f0.f0),.int .i64 ((rd_T78 l0 x10_2).f0.f1),.int .i64 ((rd_T78 l0 x10_2).f0.f2),.int .i64 x872003_27] 23 (0,0)) bko hb);have n2_:=Aside0.mk (below_step blw hb);clear HO_4;clear BK871;clear HB;have HO_4:=n0_;have BK871:=n1_;have HB:=n2_;clear n0_ n1_ n2_;(try clear hb);(try clear hb2);(try clear hk);(try clear hi)))
                (try simp only [Act.put,List.setIfInBounds_toArray,List.set_cons_zero,List.set_cons_succ]);go_cut [108] (fun v108 wc=>∃ (kq:Nat) (x108_36:Bool),v108=.bool x108_36∧Aside0 (lzInsnLabels.j3 kq l0 t842 x4_1 x8_2 x9_2 x10_2 t873 ji22 (wrap64 ((rd x4_1 (ji22)) - (rd x4_1 (ji25)))) t877 x108_36=some r)∧Aside0 (kq≤kj27)∧Aside0 (Kd.R (Kd.int .i64) 2 wc w.heap.size (fun _=>True) (.slice (some ad875) x4_1.length co33) x4_1)∧Aside0 (wc.heap[gb871]?=some (.cells #[.int .i64 ((rd_T78 l0 x10_2).f0.f0),.int .i64 ((rd_T78 l0 x10_2).f0.f1),.int .i64 ((rd_T78 l0 x10_2).f0.f2),.int .i64 x872003_27] 23 (0,0)))∧Aside0 (Below w.heap.size w wc))
                case first =>
                 have H:=HC37.out;clear HC37;by_cases c40:t878=0
                 ·rw [if_pos c40] at H;obtain ⟨c40b0,c40b1⟩:=bqt c40;clear c40;(first | rw [c40b0] | (simp only [i64_w,i32_w];rw [c40b0]) | skip);have H':=Aside0.mk H;clear H;go_wp2;go_meet
                  case rel=>exact ⟨_,(decide ((t877.size:Int) < 3)),rsd,H',⟨by have:=HK1.out;have:=HK2.out;have:=HJ27.out;first | omega | exact Nat.le_refl _⟩,⟨by (with_reducible repeat (first | apply Kd.R_alloc | apply Kd.R_drewN | apply Kd.R_drew));exact HO_4.out⟩,⟨bko⟩,⟨blw⟩⟩
                 ·rw [if_neg c40] at H;obtain ⟨c40b0,c40b1⟩:=bqf c40;(first | rw [c40b0] | (simp only [i64_w,i32_w];rw [c40b0]) | skip);exact absurd (H.trans (congrArg some HRT.out)) (by cases kj27 <;> simp [lzInsnLabels.j3])
                case rest =>
                 clear HC37;try clear hcz38_0
                 try clear hcz38_1
                 try clear hcz38_2
                 try clear hcz38_3
                 try clear hfz38_0
                 try clear hfz38_1
                 try clear hfz38_2
                 try clear hfz38_3
                 obtain ⟨kq,x108_36,rfl,HA,HJ36,HO_4,BK871,HB⟩:=hcut;cases kq with
                 | zero=>exact absurd HA.out (by simp [lzInsnLabels.j3])
                 | succ kj36 =>
                  have H:=HA.out;clear HA;simp only [lzInsnLabels.j3] at H;by_cases c41:x108_36=true
                  ·subst c41;have H1:(some false)=some r:=by rw [if_pos rfl] at H;exact H
                   clear H;have H:=H1;clear H1;exact absurd (H.trans (congrArg some HRT.out)) (by simp)
                  ·replace c41:=Bool.eq_false_iff.mpr c41;subst c41;have H1:(if t873=true then (lzInsnLabels.j4 kj36 l0 t842 x4_1 x8_2 x9_2 x10_2 t873 ji22 (wrap64 ((rd x4_1 (ji22)) - (rd x4_1 (ji25)))) t877 t877 (decide ((wrap64 ((rd x4_1 (ji22)) - (rd x4_1 (ji25)))) < 0))) else (lzInsnLabels.j4 kj36 l0 t842 x4_1 x8_2 x9_2 x10_2 t873 ji22 (wrap64 ((rd x4_1 (ji22)) - (rd x4_1 (ji25)))) t877 t877 false))=some r:=by rw [if_neg (show ¬ (false=true) by decide)] at H;exact H
                   clear H;have H:=H1;clear H1;have HC42:=Aside0.mk H;clear H;go_upto_region 27 with (fail)
                   go_cut [114] (fun v114 wc=>∃ (kq:Nat) (x114_41:Bool),v114=.bool x114_41∧Aside0 (lzInsnLabels.j4 kq l0 t842 x4_1 x8_2 x9_2 x10_2 t873 ji22 (wrap64 ((rd x4_1 (ji22)) - (rd x4_1 (ji25)))) t877 t877 x114_41=some r)∧Aside0 (kq≤kj36)∧Aside0 (Kd.R (Kd.int .i64) 2 wc w.heap.size (fun _=>True) (.slice (some ad875) x4_1.length co33) x4_1)∧Aside0 (wc.heap[gb871]?=some (.cells #[.int .i64 ((rd_T78 l0 x10_2).f0.f0),.int .i64 ((rd_T78 l0 x10_2).f0.f1),.int .i64 ((rd_T78 l0 x10_2).f0.f2),.int .i64 x872003_27] 23 (0,0)))∧Aside0 (Below w.heap.size w wc))
                   case first =>
                    have H:=HC42.out;clear HC42;by_cases c43:t873=true
                    ·subst c43;have H1:(lzInsnLabels.j4 kj36 l0 t842 x4_1 x8_2 x9_2 x10_2 true ji22 (wrap64 ((rd x4_1 (ji22)) - (rd x4_1 (ji25)))) t877 t877 (decide ((wrap64 ((rd x4_1 (ji22)) - (rd x4_1 (ji25)))) < 0)))=some r:=by rw [if_pos rfl] at H;exact H
                     clear H;have H:=H1;clear H1;have H':=Aside0.mk H;clear H;go_wp2;go_meet
                     case rel=>exact ⟨_,(decide ((wrap64 ((rd x4_1 (ji22)) - (rd x4_1 (ji25)))) < 0)),(by first | rfl | (simp;done) | (simp only [← hji22,← hji25] <;> (first | rfl | simp)) | (simp [*];done)),H',⟨by have:=HK1.out;have:=HK2.out;have:=HJ27.out;have:=HJ36.out;first | omega | exact Nat.le_refl _⟩,⟨by (with_reducible repeat (first | apply Kd.R_alloc | apply Kd.R_drewN | apply Kd.R_drew));exact HO_4.out⟩,⟨bko⟩,⟨blw⟩⟩
                    ·replace c43:=Bool.eq_false_iff.mpr c43;subst c43;have H1:(lzInsnLabels.j4 kj36 l0 t842 x4_1 x8_2 x9_2 x10_2 false ji22 (wrap64 ((rd x4_1 (ji22)) - (rd x4_1 (ji25)))) t877 t877 false)=some r:=by rw [if_neg (show ¬ (false=true) by decide)] at H;exact H
                     clear H;have H:=H1;clear H1;have H':=Aside0.mk H;clear H;go_wp2;go_meet
                     case rel=>exact ⟨_,(false),rsd,H',⟨by have:=HK1.out;have:=HK2.out;have:=HJ27.out;have:=HJ36.out;first | omega | exact Nat.le_refl _⟩,⟨by (with_reducible repeat (first | apply Kd.R_alloc | apply Kd.R_drewN | apply Kd.R_drew));exact HO_4.out⟩,⟨bko⟩,⟨blw⟩⟩
                   case rest =>
                    clear HC42;try clear c41
                    obtain ⟨kq,x114_41,rfl,HA,HJ41,HO_4,BK871,HB⟩:=hcut;cases kq with
                    | zero=>exact absurd HA.out (by simp [lzInsnLabels.j4])
                    | succ kj41 =>
                     have H:=HA.out;clear HA;simp only [lzInsnLabels.j4] at H;by_cases c44:x114_41=true
                     ·subst c44;have H1:(if 0≤(wrap64 ((t877.size:Int) - 3)) then (if (wrap64 ((t877.size:Int) - 3))≤(t877.size:Int) then (if (t877.extract 0 ((wrap64 ((t877.size:Int) - 3)):Int).toNat).size+2≤9223372036854775807 then ((rzDigits.f kj41 (IntKind.u64.wrap (wrap64 (-(wrap64 ((rd x4_1 (ji22)) - (rd x4_1 (ji25)))))))).bind fun t879=>(if ((t877.extract 0 ((wrap64 ((t877.size:Int) - 3)):Int).toNat) ++ (⟨#[46,45]⟩:zB)).size+t879.size≤9223372036854775807 then ((lzlabel.f ji22).bind fun t880=>(if (t877.extract 0 ((wrap64 ((t877.size:Int) - 3)):Int).toNat).size+t880.size≤9223372036854775807 then ((lzlabel.f x10_2).bind fun t881=>(if x8_2.size+t881.size≤9223372036854775807 then (if (x8_2 ++ t881).size+2≤9223372036854775807 then (if ((x8_2 ++ t881) ++ (⟨#[58,32]⟩:zB)).size+((t877.extract 0 ((wrap64 ((t877.size:Int) - 3)):Int).toNat) ++ t880).size≤9223372036854775807 then (if (((x8_2 ++ t881) ++ (⟨#[58,32]⟩:zB)) ++ ((t877.extract 0 ((wrap64 ((t877.size:Int) - 3)):Int).toNat) ++ t880)).size+1≤9223372036854775807 then (if x9_2.size+(((t877.extract 0 ((wrap64 ((t877.size:Int) - 3)):Int).toNat) ++ (⟨#[46,45]⟩:zB)) ++ t879).size≤9223372036854775807 then (if (x9_2 ++ (((t877.extract 0 ((wrap64 ((t877.size:Int) - 3)):Int).toNat) ++ (⟨#[46,45]⟩:zB)) ++ t879)).size+1≤9223372036854775807 then (lzInsnLabels.l1 kj41 l0 t842 x4_1 ((((x8_2 ++ t881) ++ (⟨#[58,32]⟩:zB)) ++ ((t877.extract 0 ((wrap64 ((t877.size:Int) - 3)):Int).toNat) ++ t880)) ++ (⟨#[10]⟩:zB)) ((x9_2 ++ (((t877.extract 0 ((wrap64 ((t877.size:Int) - 3)):Int).toNat) ++ (⟨#[46,45]⟩:zB)) ++ t879)) ++ (⟨#[10]⟩:zB)) (wrap64 (x10_2+1))) else (none)) else (none)) else (none)) else (none)) else (none)) else (none))) else (none))) else (none))) else (none)) else (none)) else (none))=some r:=by rw [if_pos rfl] at H;exact H
                      clear H;have H:=H1;clear H1;obtain ⟨ji45,hji45⟩:∃ j_:Int,(wrap64 ((t877.size:Int) - 3))=j_:=⟨_,rfl⟩;replace H:(if 0≤(ji45) then (if (ji45)≤(t877.size:Int) then (if (t877.extract 0 ((ji45):Int).toNat).size+2≤9223372036854775807 then ((rzDigits.f kj41 (IntKind.u64.wrap (wrap64 (-(wrap64 ((rd x4_1 (ji22)) - (rd x4_1 (ji25)))))))).bind fun t879=>(if ((t877.extract 0 ((ji45):Int).toNat) ++ (⟨#[46,45]⟩:zB)).size+t879.size≤9223372036854775807 then ((lzlabel.f ji22).bind fun t880=>(if (t877.extract 0 ((ji45):Int).toNat).size+t880.size≤9223372036854775807 then ((lzlabel.f x10_2).bind fun t881=>(if x8_2.size+t881.size≤9223372036854775807 then (if (x8_2 ++ t881).size+2≤9223372036854775807 then (if ((x8_2 ++ t881) ++ (⟨#[58,32]⟩:zB)).size+((t877.extract 0 ((ji45):Int).toNat) ++ t880).size≤9223372036854775807 then (if (((x8_2 ++ t881) ++ (⟨#[58,32]⟩:zB)) ++ ((t877.extract 0 ((ji45):Int).toNat) ++ t880)).size+1≤9223372036854775807 then (if x9_2.size+(((t877.extract 0 ((ji45):Int).toNat) ++ (⟨#[46,45]⟩:zB)) ++ t879).size≤9223372036854775807 then (if (x9_2 ++ (((t877.extract 0 ((ji45):Int).toNat) ++ (⟨#[46,45]⟩:zB)) ++ t879)).size+1≤9223372036854775807 then (lzInsnLabels.l1 kj41 l0 t842 x4_1 ((((x8_2 ++ t881) ++ (⟨#[58,32]⟩:zB)) ++ ((t877.extract 0 ((ji45):Int).toNat) ++ t880)) ++ (⟨#[10]⟩:zB)) ((x9_2 ++ (((t877.extract 0 ((ji45):Int).toNat) ++ (⟨#[46,45]⟩:zB)) ++ t879)) ++ (⟨#[10]⟩:zB)) (wrap64 (x10_2+1))) else (none)) else (none)) else (none)) else (none)) else (none)) else (none))) else (none))) else (none))) else (none)) else (none)) else (none))=some r:=by first | (rw [hji45] at H;exact H) | (simp only [hji45] at H ⊢;exact H)
                      have hji45w:(IntKind.i64.wrap ((t877.size:Int) - 3))=ji45:=(i64_w _).trans hji45;by_cases c46:0≤(ji45)
                      ·rw [if_pos c46] at H;have c46b0:=eq_true c46;have c46b1:=decide_eq_true c46;clear c46;by_cases c47:(ji45)≤(t877.size:Int)
                       ·rw [if_pos c47] at H;have c47b0:=eq_true c47;have c47b1:=decide_eq_true c47;clear c47;by_cases c48:(t877.extract 0 ((ji45):Int).toNat).size+2≤9223372036854775807
                        ·rw [if_pos c48] at H;have c48b0:=eq_true c48;have c48b1:=decide_eq_true c48;try have c48b2:(9223372036854775807 < (t877.extract 0 ((ji45):Int).toNat).size+2)=False:=eq_false (Nat.not_lt.2 c48)
                         try (have c48x:=c48b2;simp only [ByteArray.size_append,la_s1,la_s2,la_ext (of_eq_true c46b0) (of_eq_true c47b0)] at c48x)
                         replace H:=Option.bind_eq_some_iff.mp H;obtain ⟨t879,A490,H⟩:=H;replace H:(if ((t877.extract 0 ((ji45):Int).toNat) ++ (⟨#[46,45]⟩:zB)).size+t879.size≤9223372036854775807 then ((lzlabel.f ji22).bind fun t880=>(if (t877.extract 0 ((ji45):Int).toNat).size+t880.size≤9223372036854775807 then ((lzlabel.f x10_2).bind fun t881=>(if x8_2.size+t881.size≤9223372036854775807 then (if (x8_2 ++ t881).size+2≤9223372036854775807 then (if ((x8_2 ++ t881) ++ (⟨#[58,32]⟩:zB)).size+((t877.extract 0 ((ji45):Int).toNat) ++ t880).size≤9223372036854775807 then (if (((x8_2 ++ t881) ++ (⟨#[58,32]⟩:zB)) ++ ((t877.extract 0 ((ji45):Int).toNat) ++ t880)).size+1≤9223372036854775807 then (if x9_2.size+(((t877.extract 0 ((ji45):Int).toNat) ++ (⟨#[46,45]⟩:zB)) ++ t879).size≤9223372036854775807 then (if (x9_2 ++ (((t877.extract 0 ((ji45):Int).toNat) ++ (⟨#[46,45]⟩:zB)) ++ t879)).size+1≤9223372036854775807 then (lzInsnLabels.l1 kj41 l0 t842 x4_1 ((((x8_2 ++ t881) ++ (⟨#[58,32]⟩:zB)) ++ ((t877.extract 0 ((ji45):Int).toNat) ++ t880)) ++ (⟨#[10]⟩:zB)) ((x9_2 ++ (((t877.extract 0 ((ji45):Int).toNat) ++ (⟨#[46,45]⟩:zB)) ++ t879)) ++ (⟨#[10]⟩:zB)) (wrap64 (x10_2+1))) else (none)) else (none)) else (none)) else (none)) else (none)) else (none))) else (none))) else (none))=some r:=H;have A49:=Aside0.mk A490;clear A490;by_cases c50:((t877.extract 0 ((ji45):Int).toNat) ++ (⟨#[46,45]⟩:zB)).size+t879.size≤9223372036854775807
                         ·rw [if_pos c50] at H;have c50b0:=eq_true c50;have c50b1:=decide_eq_true c50;try have c50b2:(9223372036854775807 < ((t877.extract 0 ((ji45):Int).toNat) ++ (⟨#[46,45]⟩:zB)).size+t879.size)=False:=eq_false (Nat.not_lt.2 c50)
                          try (have c50x:=c50b2;simp only [ByteArray.size_append,la_s1,la_s2,la_ext (of_eq_true c46b0) (of_eq_true c47b0)] at c50x)
                          have c51b0:=eq_true (of_decide_eq_true asm:0≤(ji45));have c52b0:=eq_true (of_decide_eq_true asm:(ji45)≤(t877.size:Int));replace H:=Option.bind_eq_some_iff.mp H;obtain ⟨t880,A530,H⟩:=H;replace H:(if (t877.extract 0 ((ji45):Int).toNat).size+t880.size≤9223372036854775807 then ((lzlabel.f x10_2).bind fun t881=>(if x8_2.size+t881.size≤9223372036854775807 then (if (x8_2 ++ t881).size+2≤9223372036854775807 then (if ((x8_2 ++ t881) ++ (⟨#[58,32]⟩:zB)).size+((t877.extract 0 ((ji45):Int).toNat) ++ t880).size≤9223372036854775807 then (if (((x8_2 ++ t881) ++ (⟨#[58,32]⟩:zB)) ++ ((t877.extract 0 ((ji45):Int).toNat) ++ t880)).size+1≤9223372036854775807 then (if x9_2.size+(((t877.extract 0 ((ji45):Int).toNat) ++ (⟨#[46,45]⟩:zB)) ++ t879).size≤9223372036854775807 then (if (x9_2 ++ (((t877.extract 0 ((ji45):Int).toNat) ++ (⟨#[46,45]⟩:zB)) ++ t879)).size+1≤9223372036854775807 then (lzInsnLabels.l1 kj41 l0 t842 x4_1 ((((x8_2 ++ t881) ++ (⟨#[58,32]⟩:zB)) ++ ((t877.extract 0 ((ji45):Int).toNat) ++ t880)) ++ (⟨#[10]⟩:zB)) ((x9_2 ++ (((t877.extract 0 ((ji45):Int).toNat) ++ (⟨#[46,45]⟩:zB)) ++ t879)) ++ (⟨#[10]⟩:zB)) (wrap64 (x10_2+1))) else (none)) else (none)) else (none)) else (none)) else (none)) else (none))) else (none))=some r:=H;have A53:=Aside0.mk A530;clear A530;by_cases c54:(t877.extract 0 ((ji45):Int).toNat).size+t880.size≤9223372036854775807
                          ·rw [if_pos c54] at H;have c54b0:=eq_true c54;have c54b1:=decide_eq_true c54;try have c54b2:(9223372036854775807 < (t877.extract 0 ((ji45):Int).toNat).size+t880.size)=False:=eq_false (Nat.not_lt.2 c54)
                           try (have c54x:=c54b2;simp only [ByteArray.size_append,la_s1,la_s2,la_ext (of_eq_true c46b0) (of_eq_true c47b0)] at c54x)
                           replace H:=Option.bind_eq_some_iff.mp H;obtain ⟨t881,A550,H⟩:=H;replace H:(if x8_2.size+t881.size≤9223372036854775807 then (if (x8_2 ++ t881).size+2≤9223372036854775807 then (if ((x8_2 ++ t881) ++ (⟨#[58,32]⟩:zB)).size+((t877.extract 0 ((ji45):Int).toNat) ++ t880).size≤9223372036854775807 then (if (((x8_2 ++ t881) ++ (⟨#[58,32]⟩:zB)) ++ ((t877.extract 0 ((ji45):Int).toNat) ++ t880)).size+1≤9223372036854775807 then (if x9_2.size+(((t877.extract 0 ((ji45):Int).toNat) ++ (⟨#[46,45]⟩:zB)) ++ t879).size≤9223372036854775807 then (if (x9_2 ++ (((t877.extract 0 ((ji45):Int).toNat) ++ (⟨#[46,45]⟩:zB)) ++ t879)).size+1≤9223372036854775807 then (lzInsnLabels.l1 kj41 l0 t842 x4_1 ((((x8_2 ++ t881) ++ (⟨#[58,32]⟩:zB)) ++ ((t877.extract 0 ((ji45):Int).toNat) ++ t880)) ++ (⟨#[10]⟩:zB)) ((x9_2 ++ (((t877.extract 0 ((ji45):Int).toNat) ++ (⟨#[46,45]⟩:zB)) ++ t879)) ++ (⟨#[10]⟩:zB)) (wrap64 (x10_2+1))) else (none)) else (none)) else (none)) else (none)) else (none)) else (none))=some r:=H;have A55:=Aside0.mk A550;clear A550;by_cases c56:x8_2.size+t881.size≤9223372036854775807
                           ·rw [if_pos c56] at H;have c56b0:=eq_true c56;have c56b1:=decide_eq_true c56;try have c56b2:(9223372036854775807 < x8_2.size+t881.size)=False:=eq_false (Nat.not_lt.2 c56)
                            try (have c56x:=c56b2;simp only [ByteArray.size_append,la_s1,la_s2] at c56x)
                            by_cases c57:(x8_2 ++ t881).size+2≤9223372036854775807
                            ·rw [if_pos c57] at H;have c57b0:=eq_true c57;have c57b1:=decide_eq_true c57;try have c57b2:(9223372036854775807 < (x8_2 ++ t881).size+2)=False:=eq_false (Nat.not_lt.2 c57)
                             try (have c57x:=c57b2;simp only [ByteArray.size_append,la_s1,la_s2] at c57x)
                             by_cases c58:((x8_2 ++ t881) ++ (⟨#[58,32]⟩:zB)).size+((t877.extract 0 ((ji45):Int).toNat) ++ t880).size≤9223372036854775807
                             ·rw [if_pos c58] at H;have c58b0:=eq_true c58;have c58b1:=decide_eq_true c58;try have c58b2:(9223372036854775807 < ((x8_2 ++ t881) ++ (⟨#[58,32]⟩:zB)).size+((t877.extract 0 ((ji45):Int).toNat) ++ t880).size)=False:=eq_false (Nat.not_lt.2 c58)
                              try (have c58x:=c58b2;simp only [ByteArray.size_append,la_s1,la_s2,la_ext (of_eq_true c46b0) (of_eq_true c47b0)] at c58x)
                              by_cases c59:(((x8_2 ++ t881) ++ (⟨#[58,32]⟩:zB)) ++ ((t877.extract 0 ((ji45):Int).toNat) ++ t880)).size+1≤9223372036854775807
                              ·rw [if_pos c59] at H;have c59b0:=eq_true c59;have c59b1:=decide_eq_true c59;try have c59b2:(9223372036854775807 < (((x8_2 ++ t881) ++ (⟨#[58,32]⟩:zB)) ++ ((t877.extract 0 ((ji45):Int).toNat) ++ t880)).size+1)=False:=eq_false (Nat.not_lt.2 c59)
                               try (have c59x:=c59b2;simp only [ByteArray.size_append,la_s1,la_s2,la_ext (of_eq_true c46b0) (of_eq_true c47b0)] at c59x)
                               by_cases c60:x9_2.size+(((t877.extract 0 ((ji45):Int).toNat) ++ (⟨#[46,45]⟩:zB)) ++ t879).size≤9223372036854775807
                               ·rw [if_pos c60] at H;have c60b0:=eq_true c60;have c60b1:=decide_eq_true c60;try have c60b2:(9223372036854775807 < x9_2.size+(((t877.extract 0 ((ji45):Int).toNat) ++ (⟨#[46,45]⟩:zB)) ++ t879).size)=False:=eq_false (Nat.not_lt.2 c60)
                                try (have c60x:=c60b2;simp only [ByteArray.size_append,la_s1,la_s2,la_ext (of_eq_true c46b0) (of_eq_true c47b0)] at c60x)
                                by_cases c61:(x9_2 ++ (((t877.extract 0 ((ji45):Int).toNat) ++ (⟨#[46,45]⟩:zB)) ++ t879)).size+1≤9223372036854775807
                                ·rw [if_pos c61] at H;have c61b0:=eq_true c61;have c61b1:=decide_eq_true c61;try have c61b2:(9223372036854775807 < (x9_2 ++ (((t877.extract 0 ((ji45):Int).toNat) ++ (⟨#[46,45]⟩:zB)) ++ t879)).size+1)=False:=eq_false (Nat.not_lt.2 c61)
                                 try (have c61x:=c61b2;simp only [ByteArray.size_append,la_s1,la_s2,la_ext (of_eq_true c46b0) (of_eq_true c47b0)] at c61x)
                                 have H':=Aside0.mk H;clear H;try go_wp2
                                 have n0_:=Aside0.mk (Kd.R_drew HO_4.out);have n1_:=Aside0.mk (blk_drew BK871.out);have n2_:=Aside0.mk (below_drew1 HB.out);clear HO_4;clear BK871;clear HB;have HO_4:=n0_;have BK871:=n1_;have HB:=n2_;clear n0_ n1_ n2_;refine start_ (n:=12) (S:=fun w'=>True) (ds:=[]) #[zF,zF,zF,zF,zF,zF,zF,zF,zF,zF,zF,zF] (by kernel_rfl) rfl rfl trivial (fun hHeld=>?_);refine with_tabW lzInsnLabels.tab28 lzInsnLabels.bits28 (fun HT_ HW_=>?_);generalize wc.drew=w62 at HO_4 BK871 HB hHeld ⊢;refine pure_ (i:=0) (N:=some 115) (v:=?_) (a':=?_) #[zT,zF,zF,zF,zF,zF,zF,zF,zF,zF,zF,zF] rfl rfl (any_of HT_.out (by kernel_rfl)) (fun _ _ _ h=>h) (Or.inl ⟨by rfl,?_⟩) ?_ ?_;rotate_left
                                 ·intro w';go_simp;with_reducible rfl
                                 rotate_left
                                 ·exact zp
                                 refine pure_ (i:=1) (N:=some 116) (v:=?_) (a':=?_) #[zT,zT,zF,zF,zF,zF,zF,zF,zF,zF,zF,zF] rfl rfl (any_of HT_.out (by kernel_rfl)) (fun _ _ _ h=>h) (Or.inl ⟨by rfl,?_⟩) ?_ ?_;rotate_left
                                 ·intro w';go_simp;with_reducible rfl
                                 rotate_left
                                 ·exact zp
                                 refine pure_ (i:=2) (N:=some 117) (v:=?_) (a':=?_) #[zT,zT,zT,zF,zF,zF,zF,zF,zF,zF,zF,zF] rfl rfl (any_of HT_.out (by kernel_rfl)) (fun _ _ _ h=>h) (Or.inl ⟨by rfl,?_⟩) ?_ ?_;rotate_left
                                 ·intro w';go_simp;with_reducible rfl
                                 rotate_left
                                 ·exact zp
                                 refine pure_ (i:=3) (N:=some 118) (v:=?_) (a':=?_) #[zT,zT,zT,zT,zF,zF,zF,zF,zF,zF,zF,zF] rfl rfl (any_of HT_.out (by kernel_rfl)) (fun _ _ _ h=>h) (Or.inl ⟨by rfl,?_⟩) ?_ ?_;rotate_left
                                 ·intro w';go_simp;with_reducible rfl
                                 rotate_left
                                 ·exact zp
                                 refine pure_ (i:=4) (N:=some 119) (v:=?_) (a':=?_) #[zT,zT,zT,zT,zT,zF,zF,zF,zF,zF,zF,zF] rfl rfl (any_of HT_.out (by kernel_rfl)) (fun _ _ _ h=>h) (Or.inl ⟨by rfl,?_⟩) ?_ ?_;rotate_left
                                 ·intro w';go_simp;with_reducible rfl
                                 rotate_left
                                 ·exact zp
                                 refine pure_ (i:=5) (N:=some 120) (v:=?_) (a':=?_) #[zT,zT,zT,zT,zT,zT,zF,zF,zF,zF,zF,zF] rfl rfl (any_of HT_.out (by kernel_rfl)) (fun _ _ _ h=>h) (Or.inl ⟨by rfl,?_⟩) ?_ ?_;rotate_left
                                 ·intro w';go_simp;with_reducible rfl
                                 rotate_left
                                 ·exact zp
                                 refine pure_ (i:=6) (N:=some 121) (v:=?_) (a':=?_) #[zT,zT,zT,zT,zT,zT,zT,zF,zF,zF,zF,zF] rfl rfl (any_of HT_.out (by kernel_rfl)) (fun _ _ _ h=>h) (Or.inl ⟨by rfl,?_⟩) ?_ ?_;rotate_left
                                 ·intro w';go_simp;with_reducible rfl
                                 rotate_left
                                 ·exact zp
                                 refine pure_ (i:=7) (N:=some 122) (v:=?_) (a':=?_) #[zT,zT,zT,zT,zT,zT,zT,zT,zF,zF,zF,zF] rfl rfl (any_of HT_.out (by kernel_rfl)) (fun _ _ _ h=>h) (Or.inl ⟨by rfl,?_⟩) ?_ ?_;rotate_left
                                 ·intro w';go_simp;with_reducible rfl
                                 rotate_left
                                 ·exact zp
                                 refine pure_ (i:=8) (N:=some 123) (v:=?_) (a':=?_) #[zT,zT,zT,zT,zT,zT,zT,zT,zT,zF,zF,zF] rfl rfl (any_of HT_.out (by kernel_rfl)) (fun _ _ _ h=>h) (Or.inl ⟨by rfl,?_⟩) ?_ ?_;rotate_left
                                 ·intro w';go_simp;with_reducible rfl
                                 rotate_left
                                 ·exact zp
                                 refine one_ (i:=9) (N:=some 124) #[zT,zT,zT,zT,zT,zT,zT,zT,zT,zT,zF,zF] rfl rfl (one_of HT_.out (by kernel_rfl)) (by decide) (fun K hK=>?_);refine goes_ Tryz.func38 (by kernel_rfl) rfl #[.int .u64 (IntKind.u64.wrap (wrap64 (-(wrap64 ((rd x4_1 (ji22)) - (rd x4_1 (ji25)))))))] (by rfl) rfl rfl (by (try simp only [List.map_toArray,List.map_cons,List.map_nil]);first | done | (simp only [hji22,hji25];rfl) | rfl | (simp only [List.length_drop,List.length_take];rfl)) ?_;with_reducible refine (rzDigits.calls kj41 (IntKind.u64.wrap (wrap64 (-(wrap64 ((rd x4_1 (ji22)) - (rd x4_1 (ji25))))))) t879 _ A49.out).mono ?_
                                 rintro e w63 ⟨rfl,hb⟩;refine ⟨_,rfl,?_⟩;have n0_:=Aside0.mk (Kd.R_below (by (with_reducible repeat (first | apply Kd.R_alloc | apply Kd.R_drewN | apply Kd.R_drew));exact HO_4.out) hb);have n1_:=Aside0.mk (blk_below (g:=gb871) (o:=.cells #[.int .i64 ((rd_T78 l0 x10_2).f0.f0),.int .i64 ((rd_T78 l0 x10_2).f0.f1),.int .i64 ((rd_T78 l0 x10_2).f0.f2),.int .i64 x872003_27] 23 (0,0)) bko hb);have n2_:=Aside0.mk (below_step blw hb);clear HO_4;clear BK871;clear HB;have HO_4:=n0_;have BK871:=n1_;have HB:=n2_;clear n0_ n1_ n2_;(try clear hb);(try clear hb2);(try clear hk);(try clear hi);refine hK.out _ _ trivial (fun hHeld=>?_);clear hK K;refine norm_ (a':=?_) ?_ ?_;rotate_left
                                 ·show Act.put _ (some 124) _=_;simp only [Act.put,List.setIfInBounds_toArray,List.set_cons_zero,List.set_cons_succ,i64_w,i32_w];rfl
                                 refine pure_ (i:=10) (N:=some 125) (v:=?_) (a':=?_) #[zT,zT,zT,zT,zT,zT,zT,zT,zT,zT,zT,zF] rfl rfl (any_of HT_.out (by kernel_rfl)) (fun _ _ _ h=>h) (Or.inl ⟨by rfl,?_⟩) ?_ ?_;rotate_left
                                 ·intro w';go_simp;with_reducible rfl
                                 rotate_left
                                 ·exact zp
                                 refine pure_ (i:=11) (N:=some 18) (v:=?_) (a':=?_) #[zT,zT,zT,zT,zT,zT,zT,zT,zT,zT,zT,zT] rfl rfl (any_of HT_.out (by kernel_rfl)) (fun _ _ _ h=>h) (Or.inl ⟨by rfl,?_⟩) ?_ ?_;rotate_left
                                 ·intro w';go_simp;with_reducible rfl
                                 rotate_left
                                 ·exact zp
                                 refine done_ (done_of HT_.out (by kernel_rfl)) ?_;try go_wp2
                                 have n0_:=Aside0.mk (Kd.R_drew HO_4.out);have n1_:=Aside0.mk (blk_drew BK871.out);have n2_:=Aside0.mk (below_drew1 HB.out);clear HO_4;clear BK871;clear HB;have HO_4:=n0_;have BK871:=n1_;have HB:=n2_;clear n0_ n1_ n2_;refine start_ (n:=9) (S:=fun w'=>True) (ds:=[]) #[zF,zF,zF,zF,zF,zF,zF,zF,zF] (by kernel_rfl) rfl rfl trivial (fun hHeld=>?_);refine with_tabW lzInsnLabels.tab29 lzInsnLabels.bits29 (fun HT_ HW_=>?_);generalize w63.drew=w64 at HO_4 BK871 HB hHeld ⊢;refine pure_ (i:=0) (N:=some 126) (v:=?_) (a':=?_) #[zT,zF,zF,zF,zF,zF,zF,zF,zF] rfl rfl (any_of HT_.out (by kernel_rfl)) (fun _ _ _ h=>h) (Or.inl ⟨by rfl,?_⟩) ?_ ?_;rotate_left
                                 ·intro w';go_simp;with_reducible rfl
                                 rotate_left
                                 ·exact zp
                                 refine pure_ (i:=1) (N:=some 127) (v:=?_) (a':=?_) #[zT,zT,zF,zF,zF,zF,zF,zF,zF] rfl rfl (any_of HT_.out (by kernel_rfl)) (fun _ _ _ h=>h) (Or.inl ⟨by rfl,?_⟩) ?_ ?_;rotate_left
                                 ·intro w';go_simp;with_reducible rfl
                                 rotate_left
                                 ·exact zp
                                 refine pure_ (i:=2) (N:=some 128) (v:=?_) (a':=?_) #[zT,zT,zT,zF,zF,zF,zF,zF,zF] rfl rfl (any_of HT_.out (by kernel_rfl)) (fun _ _ _ h=>h) (Or.inl ⟨by rfl,?_⟩) ?_ ?_;rotate_left
                                 ·intro w';go_simp;with_reducible rfl
                                 rotate_left
                                 ·exact zp
                                 refine pure_ (i:=3) (N:=some 129) (v:=?_) (a':=?_) #[zT,zT,zT,zT,zF,zF,zF,zF,zF] rfl rfl (any_of HT_.out (by kernel_rfl)) (fun _ _ _ h=>h) (Or.inl ⟨by rfl,?_⟩) ?_ ?_;rotate_left
                                 ·intro w';go_simp;with_reducible rfl
                                 rotate_left
                                 ·exact zp
                                 refine pure_ (i:=4) (N:=some 130) (v:=?_) (a':=?_) #[zT,zT,zT,zT,zT,zF,zF,zF,zF] rfl rfl (any_of HT_.out (by kernel_rfl)) (fun _ _ _ h=>h) (Or.inl ⟨by rfl,?_⟩) ?_ ?_;rotate_left
                                 ·intro w';go_simp;with_reducible rfl
                                 rotate_left
                                 ·exact zp
                                 refine pure_ (i:=5) (N:=some 131) (v:=?_) (a':=?_) #[zT,zT,zT,zT,zT,zT,zF,zF,zF] rfl rfl (any_of HT_.out (by kernel_rfl)) (fun _ _ _ h=>h) (Or.inl ⟨by rfl,?_⟩) ?_ ?_;rotate_left
                                 ·intro w';go_simp;with_reducible rfl
                                 rotate_left
                                 ·exact zp
                                 refine one_ (i:=6) (N:=some 132) #[zT,zT,zT,zT,zT,zT,zT,zF,zF] rfl rfl (one_of HT_.out (by kernel_rfl)) (by decide) (fun K hK=>?_);refine goes_ Tryz.func39 (by kernel_rfl) rfl #[.int .i64 ji22] (by rfl) rfl rfl (by (try simp only [List.map_toArray,List.map_cons,List.map_nil]);first | done | (simp only [hji22];rfl) | rfl | (simp only [List.length_drop,List.length_take];rfl)) ?_;with_reducible refine (lzlabel.calls ji22 t880 _ A53.out).mono ?_
                                 rintro e w65 ⟨rfl,hb⟩;refine ⟨_,rfl,?_⟩;have n0_:=Aside0.mk (Kd.R_below (by (with_reducible repeat (first | apply Kd.R_alloc | apply Kd.R_drewN | apply Kd.R_drew));exact HO_4.out) hb);have n1_:=Aside0.mk (blk_below (g:=gb871) (o:=.cells #[.int .i64 ((rd_T78 l0 x10_2).f0.f0),.int .i64 ((rd_T78 l0 x10_2).f0.f1),.int .i64 ((rd_T78 l0 x10_2).f0.f2),.int .i64 x872003_27] 23 (0,0)) bko hb);have n2_:=Aside0.mk (below_step blw hb);clear HO_4;clear BK871;clear HB;have HO_4:=n0_;have BK871:=n1_;have HB:=n2_;clear n0_ n1_ n2_;(try clear hb);(try clear hb2);(try clear hk);(try clear hi);refine hK.out _ _ trivial (fun hHeld=>?_);clear hK K;refine norm_ (a':=?_) ?_ ?_;rotate_left
                                 ·show Act.put _ (some 132) _=_;simp only [Act.put,List.setIfInBounds_toArray,List.set_cons_zero,List.set_cons_succ,i64_w,i32_w];rfl
                                 refine pure_ (i:=7) (N:=some 133) (v:=?_) (a':=?_) #[zT,zT,zT,zT,zT,zT,zT,zT,zF] rfl rfl (any_of HT_.out (by kernel_rfl)) (fun _ _ _ h=>h) (Or.inl ⟨by rfl,?_⟩) ?_ ?_;rotate_left
                                 ·intro w';go_simp;with_reducible rfl
                                 rotate_left
                                 ·exact zp
                                 refine pure_ (i:=8) (N:=some 16) (v:=?_) (a':=?_) #[zT,zT,zT,zT,zT,zT,zT,zT,zT] rfl rfl (any_of HT_.out (by kernel_rfl)) (fun _ _ _ h=>h) (Or.inl ⟨by rfl,?_⟩) ?_ ?_;rotate_left
                                 ·intro w';go_simp;with_reducible rfl
                                 rotate_left
                                 ·exact zp
                                 refine done_ (done_of HT_.out (by kernel_rfl)) ?_;try go_wp2_with (first | ((with_reducible refine gate_callee (f:=39) rfl ?_);refine goesL_ (some 155) rfl rfl Tryz.func39 (by kernel_rfl) rfl #[.int .i64 x10_2] rfl fq ?_;(with_reducible refine (lzlabel.calls x10_2 t881 _ A55.out).mono ?_);rintro e w66 ⟨rfl,hb⟩;refine ⟨_,rfl,?_⟩;have n0_:=Aside0.mk (Kd.R_below (by (with_reducible repeat (first | apply Kd.R_alloc | apply Kd.R_drewN | apply Kd.R_drew));exact HO_4.out) hb);have n1_:=Aside0.mk (blk_below (g:=gb871) (o:=.cells #[.int .i64 ((rd_T78 l0 x10_2).f0.f0),.int .i64 ((rd_T78 l0 x10_2).f0.f1),.int .i64 ((rd_T78 l0 x10_2).f0.f2),.int .i64 x872003_27] 23 (0,0)) bko hb);have n2_:=Aside0.mk (below_step blw hb);clear HO_4;clear BK871;clear HB;have HO_4:=n0_;have BK871:=n1_;have HB:=n2_;clear n0_ n1_ n2_;(try clear hb);(try clear hb2);(try clear hk);(try clear hi)))
                                 go_roundg kj41
                                 case measure=>have:=HK1.out;have:=HK2.out;have:=HJ27.out;have:=HJ36.out;have:=HJ41.out;omega
                                 case rel=>exact ⟨((((x8_2 ++ t881) ++ (⟨#[58,32]⟩:zB)) ++ ((t877.extract 0 ((ji45):Int).toNat) ++ t880)) ++ (⟨#[10]⟩:zB)),((x9_2 ++ (((t877.extract 0 ((ji45):Int).toNat) ++ (⟨#[46,45]⟩:zB)) ++ t879)) ++ (⟨#[10]⟩:zB)),(wrap64 (x10_2+1)),(by first | rfl | (simp;done) | (simp only [← hji45] <;> (first | rfl | simp)) | (simp [*];done)),(by first | rfl | (simp;done) | (simp only [← hji45] <;> (first | rfl | simp)) | (simp [*];done)),rsd,H',⟨by have:=HK1.out;have:=HK2.out;have:=HJ27.out;have:=HJ36.out;have:=HJ41.out;omega⟩,⟨by (with_reducible repeat (first | apply Kd.R_alloc | apply Kd.R_drewN | apply Kd.R_drew));exact HO_4.out⟩,⟨blw⟩⟩
                                ·rw [if_neg c61] at H;exact absurd H (by simp)
                               ·rw [if_neg c60] at H;exact absurd H (by simp)
                              ·rw [if_neg c59] at H;exact absurd H (by simp)
                             ·rw [if_neg c58] at H;exact absurd H (by simp)
                            ·rw [if_neg c57] at H;exact absurd H (by simp)
                           ·rw [if_neg c56] at H;exact absurd H (by simp)
                          ·rw [if_neg c54] at H;exact absurd H (by simp)
                         ·rw [if_neg c50] at H;exact absurd H (by simp)
                        ·rw [if_neg c48] at H;exact absurd H (by simp)
                       ·rw [if_neg c47] at H;exact absurd H (by simp)
                      ·rw [if_neg c46] at H;exact absurd H (by simp)
                     ·replace c44:=Bool.eq_false_iff.mpr c44;subst c44;have H1:(if t873=true then (if 0≤(wrap64 ((t877.size:Int) - 3)) then (if (wrap64 ((t877.size:Int) - 3))≤(t877.size:Int) then (if (t877.extract 0 ((wrap64 ((t877.size:Int) - 3)):Int).toNat).size+2≤9223372036854775807 then ((rzDigits.f kj41 (IntKind.u64.wrap ((wrap64 ((rd x4_1 (ji22)) - (rd x4_1 (ji25))))))).bind fun t882=>(if ((t877.extract 0 ((wrap64 ((t877.size:Int) - 3)):Int).toNat) ++ (⟨#[46,43]⟩:zB)).size+t882.size≤9223372036854775807 then ((lzlabel.f ji22).bind fun t883=>(if (t877.extract 0 ((wrap64 ((t877.size:Int) - 3)):Int).toNat).size+t883.size≤9223372036854775807 then ((lzlabel.f x10_2).bind fun t884=>(if x8_2.size+t884.size≤9223372036854775807 then (if (x8_2 ++ t884).size+2≤9223372036854775807 then (if ((x8_2 ++ t884) ++ (⟨#[58,32]⟩:zB)).size+((t877.extract 0 ((wrap64 ((t877.size:Int) - 3)):Int).toNat) ++ t883).size≤9223372036854775807 then (if (((x8_2 ++ t884) ++ (⟨#[58,32]⟩:zB)) ++ ((t877.extract 0 ((wrap64 ((t877.size:Int) - 3)):Int).toNat) ++ t883)).size+1≤9223372036854775807 then (if x9_2.size+(((t877.extract 0 ((wrap64 ((t877.size:Int) - 3)):Int).toNat) ++ (⟨#[46,43]⟩:zB)) ++ t882).size≤9223372036854775807 then (if (x9_2 ++ (((t877.extract 0 ((wrap64 ((t877.size:Int) - 3)):Int).toNat) ++ (⟨#[46,43]⟩:zB)) ++ t882)).size+1≤9223372036854775807 then (lzInsnLabels.l1 kj41 l0 t842 x4_1 ((((x8_2 ++ t884) ++ (⟨#[58,32]⟩:zB)) ++ ((t877.extract 0 ((wrap64 ((t877.size:Int) - 3)):Int).toNat) ++ t883)) ++ (⟨#[10]⟩:zB)) ((x9_2 ++ (((t877.extract 0 ((wrap64 ((t877.size:Int) - 3)):Int).toNat) ++ (⟨#[46,43]⟩:zB)) ++ t882)) ++ (⟨#[10]⟩:zB)) (wrap64 (x10_2+1))) else (none)) else (none)) else (none)) else (none)) else (none)) else (none))) else (none))) else (none))) else (none)) else (none)) else (none)) else ((lzlabel.f x10_2).bind fun t885=>(if x8_2.size+t885.size≤9223372036854775807 then (if (x8_2 ++ t885).size+2≤9223372036854775807 then (if ((x8_2 ++ t885) ++ (⟨#[58,32]⟩:zB)).size+t877.size≤9223372036854775807 then (if (((x8_2 ++ t885) ++ (⟨#[58,32]⟩:zB)) ++ t877).size+1≤9223372036854775807 then (if x9_2.size+t877.size≤9223372036854775807 then (if (x9_2 ++ t877).size+1≤9223372036854775807 then (lzInsnLabels.l1 kj41 l0 t842 x4_1 ((((x8_2 ++ t885) ++ (⟨#[58,32]⟩:zB)) ++ t877) ++ (⟨#[10]⟩:zB)) ((x9_2 ++ t877) ++ (⟨#[10]⟩:zB)) (wrap64 (x10_2+1))) else (none)) else (none)) else (none)) else (none)) else (none)) else (none))))=some r:=by rw [if_neg (show ¬ (false=true) by decide)] at H;exact H
                      clear H;have H:=H1;clear H1;by_cases c67:t873=true
                      ·subst c67;have H1:(if 0≤(wrap64 ((t877.size:Int) - 3)) then (if (wrap64 ((t877.size:Int) - 3))≤(t877.size:Int) then (if (t877.extract 0 ((wrap64 ((t877.size:Int) - 3)):Int).toNat).size+2≤9223372036854775807 then ((rzDigits.f kj41 (IntKind.u64.wrap ((wrap64 ((rd x4_1 (ji22)) - (rd x4_1 (ji25))))))).bind fun t882=>(if ((t877.extract 0 ((wrap64 ((t877.size:Int) - 3)):Int).toNat) ++ (⟨#[46,43]⟩:zB)).size+t882.size≤9223372036854775807 then ((lzlabel.f ji22).bind fun t883=>(if (t877.extract 0 ((wrap64 ((t877.size:Int) - 3)):Int).toNat).size+t883.size≤9223372036854775807 then ((lzlabel.f x10_2).bind fun t884=>(if x8_2.size+t884.size≤9223372036854775807 then (if (x8_2 ++ t884).size+2≤9223372036854775807 then (if ((x8_2 ++ t884) ++ (⟨#[58,32]⟩:zB)).size+((t877.extract 0 ((wrap64 ((t877.size:Int) - 3)):Int).toNat) ++ t883).size≤9223372036854775807 then (if (((x8_2 ++ t884) ++ (⟨#[58,32]⟩:zB)) ++ ((t877.extract 0 ((wrap64 ((t877.size:Int) - 3)):Int).toNat) ++ t883)).size+1≤9223372036854775807 then (if x9_2.size+(((t877.extract 0 ((wrap64 ((t877.size:Int) - 3)):Int).toNat) ++ (⟨#[46,43]⟩:zB)) ++ t882).size≤9223372036854775807 then (if (x9_2 ++ (((t877.extract 0 ((wrap64 ((t877.size:Int) - 3)):Int).toNat) ++ (⟨#[46,43]⟩:zB)) ++ t882)).size+1≤9223372036854775807 then (lzInsnLabels.l1 kj41 l0 t842 x4_1 ((((x8_2 ++ t884) ++ (⟨#[58,32]⟩:zB)) ++ ((t877.extract 0 ((wrap64 ((t877.size:Int) - 3)):Int).toNat) ++ t883)) ++ (⟨#[10]⟩:zB)) ((x9_2 ++ (((t877.extract 0 ((wrap64 ((t877.size:Int) - 3)):Int).toNat) ++ (⟨#[46,43]⟩:zB)) ++ t882)) ++ (⟨#[10]⟩:zB)) (wrap64 (x10_2+1))) else (none)) else (none)) else (none)) else (none)) else (none)) else (none))) else (none))) else (none))) else (none)) else (none)) else (none))=some r:=by rw [if_pos rfl] at H;exact H
                       clear H;have H:=H1;clear H1;obtain ⟨ji68,hji68⟩:∃ j_:Int,(wrap64 ((t877.size:Int) - 3))=j_:=⟨_,rfl⟩;replace H:(if 0≤(ji68) then (if (ji68)≤(t877.size:Int) then (if (t877.extract 0 ((ji68):Int).toNat).size+2≤9223372036854775807 then ((rzDigits.f kj41 (IntKind.u64.wrap ((wrap64 ((rd x4_1 (ji22)) - (rd x4_1 (ji25))))))).bind fun t882=>(if ((t877.extract 0 ((ji68):Int).toNat) ++ (⟨#[46,43]⟩:zB)).size+t882.size≤9223372036854775807 then ((lzlabel.f ji22).bind fun t883=>(if (t877.extract 0 ((ji68):Int).toNat).size+t883.size≤9223372036854775807 then ((lzlabel.f x10_2).bind fun t884=>(if x8_2.size+t884.size≤9223372036854775807 then (if (x8_2 ++ t884).size+2≤9223372036854775807 then (if ((x8_2 ++ t884) ++ (⟨#[58,32]⟩:zB)).size+((t877.extract 0 ((ji68):Int).toNat) ++ t883).size≤9223372036854775807 then (if (((x8_2 ++ t884) ++ (⟨#[58,32]⟩:zB)) ++ ((t877.extract 0 ((ji68):Int).toNat) ++ t883)).size+1≤9223372036854775807 then (if x9_2.size+(((t877.extract 0 ((ji68):Int).toNat) ++ (⟨#[46,43]⟩:zB)) ++ t882).size≤9223372036854775807 then (if (x9_2 ++ (((t877.extract 0 ((ji68):Int).toNat) ++ (⟨#[46,43]⟩:zB)) ++ t882)).size+1≤9223372036854775807 then (lzInsnLabels.l1 kj41 l0 t842 x4_1 ((((x8_2 ++ t884) ++ (⟨#[58,32]⟩:zB)) ++ ((t877.extract 0 ((ji68):Int).toNat) ++ t883)) ++ (⟨#[10]⟩:zB)) ((x9_2 ++ (((t877.extract 0 ((ji68):Int).toNat) ++ (⟨#[46,43]⟩:zB)) ++ t882)) ++ (⟨#[10]⟩:zB)) (wrap64 (x10_2+1))) else (none)) else (none)) else (none)) else (none)) else (none)) else (none))) else (none))) else (none))) else (none)) else (none)) else (none))=some r:=by first | (rw [hji68] at H;exact H) | (simp only [hji68] at H ⊢;exact H)
                       have hji68w:(IntKind.i64.wrap ((t877.size:Int) - 3))=ji68:=(i64_w _).trans hji68;by_cases c69:0≤(ji68)
                       ·rw [if_pos c69] at H;have c69b0:=eq_true c69;have c69b1:=decide_eq_true c69;clear c69;by_cases c70:(ji68)≤(t877.size:Int)
                        ·rw [if_pos c70] at H;have c70b0:=eq_true c70;have c70b1:=decide_eq_true c70;clear c70;by_cases c71:(t877.extract 0 ((ji68):Int).toNat).size+2≤9223372036854775807
                         ·rw [if_pos c71] at H;have c71b0:=eq_true c71;have c71b1:=decide_eq_true c71;try have c71b2:(9223372036854775807 < (t877.extract 0 ((ji68):Int).toNat).size+2)=False:=eq_false (Nat.not_lt.2 c71)
                          try (have c71x:=c71b2;simp only [ByteArray.size_append,la_s1,la_s2,la_ext (of_eq_true c69b0) (of_eq_true c70b0)] at c71x)
                          replace H:=Option.bind_eq_some_iff.mp H;obtain ⟨t882,A720,H⟩:=H;replace H:(if ((t877.extract 0 ((ji68):Int).toNat) ++ (⟨#[46,43]⟩:zB)).size+t882.size≤9223372036854775807 then ((lzlabel.f ji22).bind fun t883=>(if (t877.extract 0 ((ji68):Int).toNat).size+t883.size≤9223372036854775807 then ((lzlabel.f x10_2).bind fun t884=>(if x8_2.size+t884.size≤9223372036854775807 then (if (x8_2 ++ t884).size+2≤9223372036854775807 then (if ((x8_2 ++ t884) ++ (⟨#[58,32]⟩:zB)).size+((t877.extract 0 ((ji68):Int).toNat) ++ t883).size≤9223372036854775807 then (if (((x8_2 ++ t884) ++ (⟨#[58,32]⟩:zB)) ++ ((t877.extract 0 ((ji68):Int).toNat) ++ t883)).size+1≤9223372036854775807 then (if x9_2.size+(((t877.extract 0 ((ji68):Int).toNat) ++ (⟨#[46,43]⟩:zB)) ++ t882).size≤9223372036854775807 then (if (x9_2 ++ (((t877.extract 0 ((ji68):Int).toNat) ++ (⟨#[46,43]⟩:zB)) ++ t882)).size+1≤9223372036854775807 then (lzInsnLabels.l1 kj41 l0 t842 x4_1 ((((x8_2 ++ t884) ++ (⟨#[58,32]⟩:zB)) ++ ((t877.extract 0 ((ji68):Int).toNat) ++ t883)) ++ (⟨#[10]⟩:zB)) ((x9_2 ++ (((t877.extract 0 ((ji68):Int).toNat) ++ (⟨#[46,43]⟩:zB)) ++ t882)) ++ (⟨#[10]⟩:zB)) (wrap64 (x10_2+1))) else (none)) else (none)) else (none)) else (none)) else (none)) else (none))) else (none))) else (none))=some r:=H;have A72:=Aside0.mk A720;clear A720;by_cases c73:((t877.extract 0 ((ji68):Int).toNat) ++ (⟨#[46,43]⟩:zB)).size+t882.size≤9223372036854775807
                          ·rw [if_pos c73] at H;have c73b0:=eq_true c73;have c73b1:=decide_eq_true c73;try have c73b2:(9223372036854775807 < ((t877.extract 0 ((ji68):Int).toNat) ++ (⟨#[46,43]⟩:zB)).size+t882.size)=False:=eq_false (Nat.not_lt.2 c73)
                           try (have c73x:=c73b2;simp only [ByteArray.size_append,la_s1,la_s2,la_ext (of_eq_true c69b0) (of_eq_true c70b0)] at c73x)
                           have c74b0:=eq_true (of_decide_eq_true asm:0≤(ji68));have c75b0:=eq_true (of_decide_eq_true asm:(ji68)≤(t877.size:Int));replace H:=Option.bind_eq_some_iff.mp H;obtain ⟨t883,A760,H⟩:=H;replace H:(if (t877.extract 0 ((ji68):Int).toNat).size+t883.size≤9223372036854775807 then ((lzlabel.f x10_2).bind fun t884=>(if x8_2.size+t884.size≤9223372036854775807 then (if (x8_2 ++ t884).size+2≤9223372036854775807 then (if ((x8_2 ++ t884) ++ (⟨#[58,32]⟩:zB)).size+((t877.extract 0 ((ji68):Int).toNat) ++ t883).size≤9223372036854775807 then (if (((x8_2 ++ t884) ++ (⟨#[58,32]⟩:zB)) ++ ((t877.extract 0 ((ji68):Int).toNat) ++ t883)).size+1≤9223372036854775807 then (if x9_2.size+(((t877.extract 0 ((ji68):Int).toNat) ++ (⟨#[46,43]⟩:zB)) ++ t882).size≤9223372036854775807 then (if (x9_2 ++ (((t877.extract 0 ((ji68):Int).toNat) ++ (⟨#[46,43]⟩:zB)) ++ t882)).size+1≤9223372036854775807 then (lzInsnLabels.l1 kj41 l0 t842 x4_1 ((((x8_2 ++ t884) ++ (⟨#[58,32]⟩:zB)) ++ ((t877.extract 0 ((ji68):Int).toNat) ++ t883)) ++ (⟨#[10]⟩:zB)) ((x9_2 ++ (((t877.extract 0 ((ji68):Int).toNat) ++ (⟨#[46,43]⟩:zB)) ++ t882)) ++ (⟨#[10]⟩:zB)) (wrap64 (x10_2+1))) else (none)) else (none)) else (none)) else (none)) else (none)) else (none))) else (none))=some r:=H;have A76:=Aside0.mk A760;clear A760;by_cases c77:(t877.extract 0 ((ji68):Int).toNat).size+t883.size≤9223372036854775807
                           ·rw [if_pos c77] at H;have c77b0:=eq_true c77;have c77b1:=decide_eq_true c77;try have c77b2:(9223372036854775807 < (t877.extract 0 ((ji68):Int).toNat).size+t883.size)=False:=eq_false (Nat.not_lt.2 c77)
                            try (have c77x:=c77b2;simp only [ByteArray.size_append,la_s1,la_s2,la_ext (of_eq_true c69b0) (of_eq_true c70b0)] at c77x)
                            replace H:=Option.bind_eq_some_iff.mp H;obtain ⟨t884,A780,H⟩:=H;replace H:(if x8_2.size+t884.size≤9223372036854775807 then (if (x8_2 ++ t884).size+2≤9223372036854775807 then (if ((x8_2 ++ t884) ++ (⟨#[58,32]⟩:zB)).size+((t877.extract 0 ((ji68):Int).toNat) ++ t883).size≤9223372036854775807 then (if (((x8_2 ++ t884) ++ (⟨#[58,32]⟩:zB)) ++ ((t877.extract 0 ((ji68):Int).toNat) ++ t883)).size+1≤9223372036854775807 then (if x9_2.size+(((t877.extract 0 ((ji68):Int).toNat) ++ (⟨#[46,43]⟩:zB)) ++ t882).size≤9223372036854775807 then (if (x9_2 ++ (((t877.extract 0 ((ji68):Int).toNat) ++ (⟨#[46,43]⟩:zB)) ++ t882)).size+1≤9223372036854775807 then (lzInsnLabels.l1 kj41 l0 t842 x4_1 ((((x8_2 ++ t884) ++ (⟨#[58,32]⟩:zB)) ++ ((t877.extract 0 ((ji68):Int).toNat) ++ t883)) ++ (⟨#[10]⟩:zB)) ((x9_2 ++ (((t877.extract 0 ((ji68):Int).toNat) ++ (⟨#[46,43]⟩:zB)) ++ t882)) ++ (⟨#[10]⟩:zB)) (wrap64 (x10_2+1))) else (none)) else (none)) else (none)) else (none)) else (none)) else (none))=some r:=H;have A78:=Aside0.mk A780;clear A780;by_cases c79:x8_2.size+t884.size≤9223372036854775807
                            ·rw [if_pos c79] at H;have c79b0:=eq_true c79;have c79b1:=decide_eq_true c79;try have c79b2:(9223372036854775807 < x8_2.size+t884.size)=False:=eq_false (Nat.not_lt.2 c79)
                             try (have c79x:=c79b2;simp only [ByteArray.size_append,la_s1,la_s2] at c79x)
                             by_cases c80:(x8_2 ++ t884).size+2≤9223372036854775807
                             ·rw [if_pos c80] at H;have c80b0:=eq_true c80;have c80b1:=decide_eq_true c80;try have c80b2:(9223372036854775807 < (x8_2 ++ t884).size+2)=False:=eq_false (Nat.not_lt.2 c80)
                              try (have c80x:=c80b2;simp only [ByteArray.size_append,la_s1,la_s2] at c80x)
                              by_cases c81:((x8_2 ++ t884) ++ (⟨#[58,32]⟩:zB)).size+((t877.extract 0 ((ji68):Int).toNat) ++ t883).size≤9223372036854775807
                              ·rw [if_pos c81] at H;have c81b0:=eq_true c81;have c81b1:=decide_eq_true c81;try have c81b2:(9223372036854775807 < ((x8_2 ++ t884) ++ (⟨#[58,32]⟩:zB)).size+((t877.extract 0 ((ji68):Int).toNat) ++ t883).size)=False:=eq_false (Nat.not_lt.2 c81)
                               try (have c81x:=c81b2;simp only [ByteArray.size_append,la_s1,la_s2,la_ext (of_eq_true c69b0) (of_eq_true c70b0)] at c81x)
                               by_cases c82:(((x8_2 ++ t884) ++ (⟨#[58,32]⟩:zB)) ++ ((t877.extract 0 ((ji68):Int).toNat) ++ t883)).size+1≤9223372036854775807
                               ·rw [if_pos c82] at H;have c82b0:=eq_true c82;have c82b1:=decide_eq_true c82;try have c82b2:(9223372036854775807 < (((x8_2 ++ t884) ++ (⟨#[58,32]⟩:zB)) ++ ((t877.extract 0 ((ji68):Int).toNat) ++ t883)).size+1)=False:=eq_false (Nat.not_lt.2 c82)
                                try (have c82x:=c82b2;simp only [ByteArray.size_append,la_s1,la_s2,la_ext (of_eq_true c69b0) (of_eq_true c70b0)] at c82x)
                                by_cases c83:x9_2.size+(((t877.extract 0 ((ji68):Int).toNat) ++ (⟨#[46,43]⟩:zB)) ++ t882).size≤9223372036854775807
                                ·rw [if_pos c83] at H;have c83b0:=eq_true c83;have c83b1:=decide_eq_true c83;try have c83b2:(9223372036854775807 < x9_2.size+(((t877.extract 0 ((ji68):Int).toNat) ++ (⟨#[46,43]⟩:zB)) ++ t882).size)=False:=eq_false (Nat.not_lt.2 c83)
                                 try (have c83x:=c83b2;simp only [ByteArray.size_append,la_s1,la_s2,la_ext (of_eq_true c69b0) (of_eq_true c70b0)] at c83x)
                                 by_cases c84:(x9_2 ++ (((t877.extract 0 ((ji68):Int).toNat) ++ (⟨#[46,43]⟩:zB)) ++ t882)).size+1≤9223372036854775807
                                 ·rw [if_pos c84] at H;have c84b0:=eq_true c84;have c84b1:=decide_eq_true c84;try have c84b2:(9223372036854775807 < (x9_2 ++ (((t877.extract 0 ((ji68):Int).toNat) ++ (⟨#[46,43]⟩:zB)) ++ t882)).size+1)=False:=eq_false (Nat.not_lt.2 c84)
                                  try (have c84x:=c84b2;simp only [ByteArray.size_append,la_s1,la_s2,la_ext (of_eq_true c69b0) (of_eq_true c70b0)] at c84x)
                                  have H':=Aside0.mk H;clear H;try go_wp2
                                  have n0_:=Aside0.mk (Kd.R_drew HO_4.out);have n1_:=Aside0.mk (blk_drew BK871.out);have n2_:=Aside0.mk (below_drew1 HB.out);clear HO_4;clear BK871;clear HB;have HO_4:=n0_;have BK871:=n1_;have HB:=n2_;clear n0_ n1_ n2_;refine start_ (n:=11) (S:=fun w'=>True) (ds:=[]) #[zF,zF,zF,zF,zF,zF,zF,zF,zF,zF,zF] (by kernel_rfl) rfl rfl trivial (fun hHeld=>?_);refine with_tabW lzInsnLabels.tab31 lzInsnLabels.bits31 (fun HT_ HW_=>?_);generalize wc.drew=w85 at HO_4 BK871 HB hHeld ⊢;refine pure_ (i:=0) (N:=some 135) (v:=?_) (a':=?_) #[zT,zF,zF,zF,zF,zF,zF,zF,zF,zF,zF] rfl rfl (any_of HT_.out (by kernel_rfl)) (fun _ _ _ h=>h) (Or.inl ⟨by rfl,?_⟩) ?_ ?_;rotate_left
                                  ·intro w';go_simp;with_reducible rfl
                                  rotate_left
                                  ·exact zp
                                  refine pure_ (i:=1) (N:=some 136) (v:=?_) (a':=?_) #[zT,zT,zF,zF,zF,zF,zF,zF,zF,zF,zF] rfl rfl (any_of HT_.out (by kernel_rfl)) (fun _ _ _ h=>h) (Or.inl ⟨by rfl,?_⟩) ?_ ?_;rotate_left
                                  ·intro w';go_simp;with_reducible rfl
                                  rotate_left
                                  ·exact zp
                                  refine pure_ (i:=2) (N:=some 137) (v:=?_) (a':=?_) #[zT,zT,zT,zF,zF,zF,zF,zF,zF,zF,zF] rfl rfl (any_of HT_.out (by kernel_rfl)) (fun _ _ _ h=>h) (Or.inl ⟨by rfl,?_⟩) ?_ ?_;rotate_left
                                  ·intro w';go_simp;with_reducible rfl
                                  rotate_left
                                  ·exact zp
                                  refine pure_ (i:=3) (N:=some 138) (v:=?_) (a':=?_) #[zT,zT,zT,zT,zF,zF,zF,zF,zF,zF,zF] rfl rfl (any_of HT_.out (by kernel_rfl)) (fun _ _ _ h=>h) (Or.inl ⟨by rfl,?_⟩) ?_ ?_;rotate_left
                                  ·intro w';go_simp;with_reducible rfl
                                  rotate_left
                                  ·exact zp
                                  refine pure_ (i:=4) (N:=some 139) (v:=?_) (a':=?_) #[zT,zT,zT,zT,zT,zF,zF,zF,zF,zF,zF] rfl rfl (any_of HT_.out (by kernel_rfl)) (fun _ _ _ h=>h) (Or.inl ⟨by rfl,?_⟩) ?_ ?_;rotate_left
                                  ·intro w';go_simp;with_reducible rfl
                                  rotate_left
                                  ·exact zp
                                  refine pure_ (i:=5) (N:=some 140) (v:=?_) (a':=?_) #[zT,zT,zT,zT,zT,zT,zF,zF,zF,zF,zF] rfl rfl (any_of HT_.out (by kernel_rfl)) (fun _ _ _ h=>h) (Or.inl ⟨by rfl,?_⟩) ?_ ?_;rotate_left
                                  ·intro w';go_simp;with_reducible rfl
                                  rotate_left
                                  ·exact zp
                                  refine pure_ (i:=6) (N:=some 141) (v:=?_) (a':=?_) #[zT,zT,zT,zT,zT,zT,zT,zF,zF,zF,zF] rfl rfl (any_of HT_.out (by kernel_rfl)) (fun _ _ _ h=>h) (Or.inl ⟨by rfl,?_⟩) ?_ ?_;rotate_left
                                  ·intro w';go_simp;with_reducible rfl
                                  rotate_left
                                  ·exact zp
                                  refine pure_ (i:=7) (N:=some 142) (v:=?_) (a':=?_) #[zT,zT,zT,zT,zT,zT,zT,zT,zF,zF,zF] rfl rfl (any_of HT_.out (by kernel_rfl)) (fun _ _ _ h=>h) (Or.inl ⟨by rfl,?_⟩) ?_ ?_;rotate_left
                                  ·intro w';go_simp;with_reducible rfl
                                  rotate_left
                                  ·exact zp
                                  refine one_ (i:=8) (N:=some 143) #[zT,zT,zT,zT,zT,zT,zT,zT,zT,zF,zF] rfl rfl (one_of HT_.out (by kernel_rfl)) (by decide) (fun K hK=>?_);refine goes_ Tryz.func38 (by kernel_rfl) rfl #[.int .u64 (IntKind.u64.wrap ((wrap64 ((rd x4_1 (ji22)) - (rd x4_1 (ji25))))))] (by rfl) rfl rfl (by (try simp only [List.map_toArray,List.map_cons,List.map_nil]);first | done | (simp only [hji22,hji25];rfl) | rfl | (simp only [List.length_drop,List.length_take];rfl)) ?_;with_reducible refine (rzDigits.calls kj41 (IntKind.u64.wrap ((wrap64 ((rd x4_1 (ji22)) - (rd x4_1 (ji25)))))) t882 _ A72.out).mono ?_
                                  rintro e w86 ⟨rfl,hb⟩;refine ⟨_,rfl,?_⟩;have n0_:=Aside0.mk (Kd.R_below (by (with_reducible repeat (first | apply Kd.R_alloc | apply Kd.R_drewN | apply Kd.R_drew));exact HO_4.out) hb);have n1_:=Aside0.mk (blk_below (g:=gb871) (o:=.cells #[.int .i64 ((rd_T78 l0 x10_2).f0.f0),.int .i64 ((rd_T78 l0 x10_2).f0.f1),.int .i64 ((rd_T78 l0 x10_2).f0.f2),.int .i64 x872003_27] 23 (0,0)) bko hb);have n2_:=Aside0.mk (below_step blw hb);clear HO_4;clear BK871;clear HB;have HO_4:=n0_;have BK871:=n1_;have HB:=n2_;clear n0_ n1_ n2_;(try clear hb);(try clear hb2);(try clear hk);(try clear hi);refine hK.out _ _ trivial (fun hHeld=>?_);clear hK K;refine norm_ (a':=?_) ?_ ?_;rotate_left
                                  ·show Act.put _ (some 143) _=_;simp only [Act.put,List.setIfInBounds_toArray,List.set_cons_zero,List.set_cons_succ,i64_w,i32_w];rfl
                                  refine pure_ (i:=9) (N:=some 144) (v:=?_) (a':=?_) #[zT,zT,zT,zT,zT,zT,zT,zT,zT,zT,zF] rfl rfl (any_of HT_.out (by kernel_rfl)) (fun _ _ _ h=>h) (Or.inl ⟨by rfl,?_⟩) ?_ ?_;rotate_left
                                  ·intro w';go_simp;with_reducible rfl
                                  rotate_left
                                  ·exact zp
                                  refine pure_ (i:=10) (N:=some 18) (v:=?_) (a':=?_) #[zT,zT,zT,zT,zT,zT,zT,zT,zT,zT,zT] rfl rfl (any_of HT_.out (by kernel_rfl)) (fun _ _ _ h=>h) (Or.inl ⟨by rfl,?_⟩) ?_ ?_;rotate_left
                                  ·intro w';go_simp;with_reducible rfl
                                  rotate_left
                                  ·exact zp
                                  refine done_ (done_of HT_.out (by kernel_rfl)) ?_;try go_wp2
                                  have n0_:=Aside0.mk (Kd.R_drew HO_4.out);have n1_:=Aside0.mk (blk_drew BK871.out);have n2_:=Aside0.mk (below_drew1 HB.out);clear HO_4;clear BK871;clear HB;have HO_4:=n0_;have BK871:=n1_;have HB:=n2_;clear n0_ n1_ n2_;refine start_ (n:=9) (S:=fun w'=>True) (ds:=[]) #[zF,zF,zF,zF,zF,zF,zF,zF,zF] (by kernel_rfl) rfl rfl trivial (fun hHeld=>?_);refine with_tabW lzInsnLabels.tab32 lzInsnLabels.bits32 (fun HT_ HW_=>?_);generalize w86.drew=w87 at HO_4 BK871 HB hHeld ⊢;refine pure_ (i:=0) (N:=some 145) (v:=?_) (a':=?_) #[zT,zF,zF,zF,zF,zF,zF,zF,zF] rfl rfl (any_of HT_.out (by kernel_rfl)) (fun _ _ _ h=>h) (Or.inl ⟨by rfl,?_⟩) ?_ ?_;rotate_left
                                  ·intro w';go_simp;with_reducible rfl
                                  rotate_left
                                  ·exact zp
                                  refine pure_ (i:=1) (N:=some 146) (v:=?_) (a':=?_) #[zT,zT,zF,zF,zF,zF,zF,zF,zF] rfl rfl (any_of HT_.out (by kernel_rfl)) (fun _ _ _ h=>h) (Or.inl ⟨by rfl,?_⟩) ?_ ?_;rotate_left
                                  ·intro w';go_simp;with_reducible rfl
                                  rotate_left
                                  ·exact zp
                                  refine pure_ (i:=2) (N:=some 147) (v:=?_) (a':=?_) #[zT,zT,zT,zF,zF,zF,zF,zF,zF] rfl rfl (any_of HT_.out (by kernel_rfl)) (fun _ _ _ h=>h) (Or.inl ⟨by rfl,?_⟩) ?_ ?_;rotate_left
                                  ·intro w';go_simp;with_reducible rfl
                                  rotate_left
                                  ·exact zp
                                  refine pure_ (i:=3) (N:=some 148) (v:=?_) (a':=?_) #[zT,zT,zT,zT,zF,zF,zF,zF,zF] rfl rfl (any_of HT_.out (by kernel_rfl)) (fun _ _ _ h=>h) (Or.inl ⟨by rfl,?_⟩) ?_ ?_;rotate_left
                                  ·intro w';go_simp;with_reducible rfl
                                  rotate_left
                                  ·exact zp
                                  refine pure_ (i:=4) (N:=some 149) (v:=?_) (a':=?_) #[zT,zT,zT,zT,zT,zF,zF,zF,zF] rfl rfl (any_of HT_.out (by kernel_rfl)) (fun _ _ _ h=>h) (Or.inl ⟨by rfl,?_⟩) ?_ ?_;rotate_left
                                  ·intro w';go_simp;with_reducible rfl
                                  rotate_left
                                  ·exact zp
                                  refine pure_ (i:=5) (N:=some 150) (v:=?_) (a':=?_) #[zT,zT,zT,zT,zT,zT,zF,zF,zF] rfl rfl (any_of HT_.out (by kernel_rfl)) (fun _ _ _ h=>h) (Or.inl ⟨by rfl,?_⟩) ?_ ?_;rotate_left
                                  ·intro w';go_simp;with_reducible rfl
                                  rotate_left
                                  ·exact zp
                                  refine one_ (i:=6) (N:=some 151) #[zT,zT,zT,zT,zT,zT,zT,zF,zF] rfl rfl (one_of HT_.out (by kernel_rfl)) (by decide) (fun K hK=>?_);refine goes_ Tryz.func39 (by kernel_rfl) rfl #[.int .i64 ji22] (by rfl) rfl rfl (by (try simp only [List.map_toArray,List.map_cons,List.map_nil]);first | done | (simp only [hji22];rfl) | rfl | (simp only [List.length_drop,List.length_take];rfl)) ?_;with_reducible refine (lzlabel.calls ji22 t883 _ A76.out).mono ?_
                                  rintro e w88 ⟨rfl,hb⟩;refine ⟨_,rfl,?_⟩;have n0_:=Aside0.mk (Kd.R_below (by (with_reducible repeat (first | apply Kd.R_alloc | apply Kd.R_drewN | apply Kd.R_drew));exact HO_4.out) hb);have n1_:=Aside0.mk (blk_below (g:=gb871) (o:=.cells #[.int .i64 ((rd_T78 l0 x10_2).f0.f0),.int .i64 ((rd_T78 l0 x10_2).f0.f1),.int .i64 ((rd_T78 l0 x10_2).f0.f2),.int .i64 x872003_27] 23 (0,0)) bko hb);have n2_:=Aside0.mk (below_step blw hb);clear HO_4;clear BK871;clear HB;have HO_4:=n0_;have BK871:=n1_;have HB:=n2_;clear n0_ n1_ n2_;(try clear hb);(try clear hb2);(try clear hk);(try clear hi);refine hK.out _ _ trivial (fun hHeld=>?_);clear hK K;refine norm_ (a':=?_) ?_ ?_;rotate_left
                                  ·show Act.put _ (some 151) _=_;simp only [Act.put,List.setIfInBounds_toArray,List.set_cons_zero,List.set_cons_succ,i64_w,i32_w];rfl
                                  refine pure_ (i:=7) (N:=some 152) (v:=?_) (a':=?_) #[zT,zT,zT,zT,zT,zT,zT,zT,zF] rfl rfl (any_of HT_.out (by kernel_rfl)) (fun _ _ _ h=>h) (Or.inl ⟨by rfl,?_⟩) ?_ ?_;rotate_left
                                  ·intro w';go_simp;with_reducible rfl
                                  rotate_left
                                  ·exact zp
                                  refine pure_ (i:=8) (N:=some 16) (v:=?_) (a':=?_) #[zT,zT,zT,zT,zT,zT,zT,zT,zT] rfl rfl (any_of HT_.out (by kernel_rfl)) (fun _ _ _ h=>h) (Or.inl ⟨by rfl,?_⟩) ?_ ?_;rotate_left
                                  ·intro w';go_simp;with_reducible rfl
                                  rotate_left
                                  ·exact zp
                                  refine done_ (done_of HT_.out (by kernel_rfl)) ?_;try go_wp2_with (first | ((with_reducible refine gate_callee (f:=39) rfl ?_);refine goesL_ (some 155) rfl rfl Tryz.func39 (by kernel_rfl) rfl #[.int .i64 x10_2] rfl fq ?_;(with_reducible refine (lzlabel.calls x10_2 t884 _ A78.out).mono ?_);rintro e w89 ⟨rfl,hb⟩;refine ⟨_,rfl,?_⟩;have n0_:=Aside0.mk (Kd.R_below (by (with_reducible repeat (first | apply Kd.R_alloc | apply Kd.R_drewN | apply Kd.R_drew));exact HO_4.out) hb);have n1_:=Aside0.mk (blk_below (g:=gb871) (o:=.cells #[.int .i64 ((rd_T78 l0 x10_2).f0.f0),.int .i64 ((rd_T78 l0 x10_2).f0.f1),.int .i64 ((rd_T78 l0 x10_2).f0.f2),.int .i64 x872003_27] 23 (0,0)) bko hb);have n2_:=Aside0.mk (below_step blw hb);clear HO_4;clear BK871;clear HB;have HO_4:=n0_;have BK871:=n1_;have HB:=n2_;clear n0_ n1_ n2_;(try clear hb);(try clear hb2);(try clear hk);(try clear hi)))
                                  go_roundg kj41
                                  case measure=>have:=HK1.out;have:=HK2.out;have:=HJ27.out;have:=HJ36.out;have:=HJ41.out;omega
                                  case rel=>exact ⟨((((x8_2 ++ t884) ++ (⟨#[58,32]⟩:zB)) ++ ((t877.extract 0 ((ji68):Int).toNat) ++ t883)) ++ (⟨#[10]⟩:zB)),((x9_2 ++ (((t877.extract 0 ((ji68):Int).toNat) ++ (⟨#[46,43]⟩:zB)) ++ t882)) ++ (⟨#[10]⟩:zB)),(wrap64 (x10_2+1)),(by first | rfl | (simp;done) | (simp only [← hji68] <;> (first | rfl | simp)) | (simp [*];done)),(by first | rfl | (simp;done) | (simp only [← hji68] <;> (first | rfl | simp)) | (simp [*];done)),rsd,H',⟨by have:=HK1.out;have:=HK2.out;have:=HJ27.out;have:=HJ36.out;have:=HJ41.out;omega⟩,⟨by (with_reducible repeat (first | apply Kd.R_alloc | apply Kd.R_drewN | apply Kd.R_drew));exact HO_4.out⟩,⟨blw⟩⟩
                                 ·rw [if_neg c84] at H;exact absurd H (by simp)
                                ·rw [if_neg c83] at H;exact absurd H (by simp)
                               ·rw [if_neg c82] at H;exact absurd H (by simp)
                              ·rw [if_neg c81] at H;exact absurd H (by simp)
                             ·rw [if_neg c80] at H;exact absurd H (by simp)
                            ·rw [if_neg c79] at H;exact absurd H (by simp)
                           ·rw [if_neg c77] at H;exact absurd H (by simp)
                          ·rw [if_neg c73] at H;exact absurd H (by simp)
                         ·rw [if_neg c71] at H;exact absurd H (by simp)
                        ·rw [if_neg c70] at H;exact absurd H (by simp)
                       ·rw [if_neg c69] at H;exact absurd H (by simp)
                      ·replace c67:=Bool.eq_false_iff.mpr c67;subst c67;have H1:((lzlabel.f x10_2).bind fun t885=>(if x8_2.size+t885.size≤9223372036854775807 then (if (x8_2 ++ t885).size+2≤9223372036854775807 then (if ((x8_2 ++ t885) ++ (⟨#[58,32]⟩:zB)).size+t877.size≤9223372036854775807 then (if (((x8_2 ++ t885) ++ (⟨#[58,32]⟩:zB)) ++ t877).size+1≤9223372036854775807 then (if x9_2.size+t877.size≤9223372036854775807 then (if (x9_2 ++ t877).size+1≤9223372036854775807 then (lzInsnLabels.l1 kj41 l0 t842 x4_1 ((((x8_2 ++ t885) ++ (⟨#[58,32]⟩:zB)) ++ t877) ++ (⟨#[10]⟩:zB)) ((x9_2 ++ t877) ++ (⟨#[10]⟩:zB)) (wrap64 (x10_2+1))) else (none)) else (none)) else (none)) else (none)) else (none)) else (none)))=some r:=by rw [if_neg (show ¬ (false=true) by decide)] at H;exact H
                       clear H;have H:=H1;clear H1;replace H:=Option.bind_eq_some_iff.mp H;obtain ⟨t885,A900,H⟩:=H;replace H:(if x8_2.size+t885.size≤9223372036854775807 then (if (x8_2 ++ t885).size+2≤9223372036854775807 then (if ((x8_2 ++ t885) ++ (⟨#[58,32]⟩:zB)).size+t877.size≤9223372036854775807 then (if (((x8_2 ++ t885) ++ (⟨#[58,32]⟩:zB)) ++ t877).size+1≤9223372036854775807 then (if x9_2.size+t877.size≤9223372036854775807 then (if (x9_2 ++ t877).size+1≤9223372036854775807 then (lzInsnLabels.l1 kj41 l0 t842 x4_1 ((((x8_2 ++ t885) ++ (⟨#[58,32]⟩:zB)) ++ t877) ++ (⟨#[10]⟩:zB)) ((x9_2 ++ t877) ++ (⟨#[10]⟩:zB)) (wrap64 (x10_2+1))) else (none)) else (none)) else (none)) else (none)) else (none)) else (none))=some r:=H;have A90:=Aside0.mk A900;clear A900;by_cases c91:x8_2.size+t885.size≤9223372036854775807
                       ·rw [if_pos c91] at H;have c91b0:=eq_true c91;have c91b1:=decide_eq_true c91;try have c91b2:(9223372036854775807 < x8_2.size+t885.size)=False:=eq_false (Nat.not_lt.2 c91)
                        try (have c91x:=c91b2;simp only [ByteArray.size_append,la_s1,la_s2] at c91x)
                        by_cases c92:(x8_2 ++ t885).size+2≤9223372036854775807
                        ·rw [if_pos c92] at H;have c92b0:=eq_true c92;have c92b1:=decide_eq_true c92;try have c92b2:(9223372036854775807 < (x8_2 ++ t885).size+2)=False:=eq_false (Nat.not_lt.2 c92)
                         try (have c92x:=c92b2;simp only [ByteArray.size_append,la_s1,la_s2] at c92x)
                         by_cases c93:((x8_2 ++ t885) ++ (⟨#[58,32]⟩:zB)).size+t877.size≤9223372036854775807
                         ·rw [if_pos c93] at H;have c93b0:=eq_true c93;have c93b1:=decide_eq_true c93;try have c93b2:(9223372036854775807 < ((x8_2 ++ t885) ++ (⟨#[58,32]⟩:zB)).size+t877.size)=False:=eq_false (Nat.not_lt.2 c93)
                          try (have c93x:=c93b2;simp only [ByteArray.size_append,la_s1,la_s2] at c93x)
                          by_cases c94:(((x8_2 ++ t885) ++ (⟨#[58,32]⟩:zB)) ++ t877).size+1≤9223372036854775807
                          ·rw [if_pos c94] at H;have c94b0:=eq_true c94;have c94b1:=decide_eq_true c94;try have c94b2:(9223372036854775807 < (((x8_2 ++ t885) ++ (⟨#[58,32]⟩:zB)) ++ t877).size+1)=False:=eq_false (Nat.not_lt.2 c94)
                           try (have c94x:=c94b2;simp only [ByteArray.size_append,la_s1,la_s2] at c94x)
                           by_cases c95:x9_2.size+t877.size≤9223372036854775807
                           ·rw [if_pos c95] at H;have c95b0:=eq_true c95;have c95b1:=decide_eq_true c95;try have c95b2:(9223372036854775807 < x9_2.size+t877.size)=False:=eq_false (Nat.not_lt.2 c95)
                            try (have c95x:=c95b2;simp only [ByteArray.size_append,la_s1,la_s2] at c95x)
                            by_cases c96:(x9_2 ++ t877).size+1≤9223372036854775807
                            ·rw [if_pos c96] at H;have c96b0:=eq_true c96;have c96b1:=decide_eq_true c96;try have c96b2:(9223372036854775807 < (x9_2 ++ t877).size+1)=False:=eq_false (Nat.not_lt.2 c96)
                             try (have c96x:=c96b2;simp only [ByteArray.size_append,la_s1,la_s2] at c96x)
                             have H':=Aside0.mk H;clear H;go_wp2_with (first | ((with_reducible refine gate_callee (f:=39) rfl ?_);refine goesL_ (some 155) rfl rfl Tryz.func39 (by kernel_rfl) rfl #[.int .i64 x10_2] rfl fq ?_;(with_reducible refine (lzlabel.calls x10_2 t885 _ A90.out).mono ?_);rintro e w97 ⟨rfl,hb⟩;refine ⟨_,rfl,?_⟩;have n0_:=Aside0.mk (Kd.R_below (by (with_reducible repeat (first | apply Kd.R_alloc | apply Kd.R_drewN | apply Kd.R_drew));exact HO_4.out) hb);have n1_:=Aside0.mk (blk_below (g:=gb871) (o:=.cells #[.int .i64 ((rd_T78 l0 x10_2).f0.f0),.int .i64 ((rd_T78 l0 x10_2).f0.f1),.int .i64 ((rd_T78 l0 x10_2).f0.f2),.int .i64 x872003_27] 23 (0,0)) bko hb);have n2_:=Aside0.mk (below_step blw hb);clear HO_4;clear BK871;clear HB;have HO_4:=n0_;have BK871:=n1_;have HB:=n2_;clear n0_ n1_ n2_;(try clear hb);(try clear hb2);(try clear hk);(try clear hi)))
                             go_roundg kj41
                             case measure=>have:=HK1.out;have:=HK2.out;have:=HJ27.out;have:=HJ36.out;have:=HJ41.out;omega
                             case rel=>exact ⟨((((x8_2 ++ t885) ++ (⟨#[58,32]⟩:zB)) ++ t877) ++ (⟨#[10]⟩:zB)),((x9_2 ++ t877) ++ (⟨#[10]⟩:zB)),(wrap64 (x10_2+1)),rsd,rsd,rsd,H',⟨by have:=HK1.out;have:=HK2.out;have:=HJ27.out;have:=HJ36.out;have:=HJ41.out;omega⟩,⟨by (with_reducible repeat (first | apply Kd.R_alloc | apply Kd.R_drewN | apply Kd.R_drew));exact HO_4.out⟩,⟨blw⟩⟩
                            ·rw [if_neg c96] at H;exact absurd H (by simp)
                           ·rw [if_neg c95] at H;exact absurd H (by simp)
                          ·rw [if_neg c94] at H;exact absurd H (by simp)
                         ·rw [if_neg c93] at H;exact absurd H (by simp)
                        ·rw [if_neg c92] at H;exact absurd H (by simp)
                       ·rw [if_neg c91] at H;exact absurd H (by simp)
             ·rw [if_neg c27] at H;exact absurd H (by simp)
            ·rw [if_neg c26] at H;exact absurd H (by simp)
           ·rw [if_neg c24] at H;exact absurd H (by simp)
          ·rw [if_neg c23] at H;exact absurd H (by simp)
        ·rw [if_neg c19] at H;exact absurd H (by simp)
       ·rw [if_neg c18] at H;have c18b0:=decide_eq_false c18;clear c18;replace H:=Option.bind_eq_some_iff.mp H;obtain ⟨⟨t853,t854,t855,t856⟩,A980,H⟩:=H;replace H:((insn_Assemble.f x9_2 7).bind fun bt861=>(if t842=true then (if t856=bt861.2.2.2 then (if t855=bt861.2.2.1 then ((lzsameBytes.f t853 bt861.1).bind fun t869=>(if t869=true then (if t856=0 then (some true) else (some (t856 == 24))) else (some false))) else (some false)) else (some false)) else (some false)))=some r:=H;have A98:=Aside0.mk A980;clear A980;replace H:=Option.bind_eq_some_iff.mp H;obtain ⟨⟨t861,t862,t863,t864⟩,A990,H⟩:=H;replace H:(if t842=true then (if t856=t864 then (if t855=t863 then ((lzsameBytes.f t853 t861).bind fun t869=>(if t869=true then (if t856=0 then (some true) else (some (t856 == 24))) else (some false))) else (some false)) else (some false)) else (some false))=some r:=H;have A99:=Aside0.mk A990;clear A990;by_cases c100:t842=true
        ·subst c100;have H1:(if t856=t864 then (if t855=t863 then ((lzsameBytes.f t853 t861).bind fun t869=>(if t869=true then (if t856=0 then (some true) else (some (t856 == 24))) else (some false))) else (some false)) else (some false))=some r:=by rw [if_pos rfl] at H;exact H
         clear H;have H:=H1;clear H1;by_cases c101:t856=t864
         ·rw [if_pos c101] at H;obtain ⟨c101b0,c101b1⟩:=bqt c101;clear c101;by_cases c102:t855=t863
          ·rw [if_pos c102] at H;obtain ⟨c102b0,c102b1⟩:=bqt c102;clear c102;replace H:=Option.bind_eq_some_iff.mp H;obtain ⟨t869,A1030,H⟩:=H;replace H:(if t869=true then (if t856=0 then (some true) else (some (t856 == 24))) else (some false))=some r:=H;have A103:=Aside0.mk A1030;clear A1030;by_cases c104:t869=true
           ·subst c104;have H1:(if t856=0 then (some true) else (some (t856 == 24)))=some r:=by rw [if_pos rfl] at H;exact H
            clear H;have H:=H1;clear H1;by_cases c105:t856=0
            ·rw [if_pos c105] at H;obtain ⟨c105b0,c105b1⟩:=bqt c105;clear c105;obtain rfl:=Option.some.inj H;go_wp2_with (first | ((with_reducible refine gate_callee (f:=28) rfl ?_);refine goesL_ (some 167) rfl rfl Tryz.func28 (by kernel_rfl) rfl #[.string x8_2,.int .i64 7] rfl fq ?_;(with_reducible refine (insn_Assemble.calls x8_2 7 t853 t854 t855 t856 _ A98.out gwy).mono ?_);rintro e w106 ⟨v857,v859,rfl,ho0,ho1,hb⟩;refine ⟨_,rfl,?_⟩;have n0_:=Aside0.mk (Kd.R_below (by (with_reducible repeat (first | apply Kd.R_alloc | apply Kd.R_drewN | apply Kd.R_drew));exact HO_4.out) hb);have n1_:=Aside0.mk (Kd.R_lower ho0 (below_size blw));have n2_:=Aside0.mk (Kd.R_lower ho1 (below_size blw));have n3_:=Aside0.mk (below_step blw hb);clear HO_4;clear HB;have HO_4:=n0_;have HO858:=n1_;have HO860:=n2_;have HB:=n3_;clear n0_ n1_ n2_ n3_;(try clear hb);(try clear hb2);(try clear hk);(try clear hi);(try clear ho0);(try clear ho1)) | ((with_reducible refine gate_callee (f:=28) rfl ?_);refine goesL_ (some 174) rfl rfl Tryz.func28 (by kernel_rfl) rfl #[.string x9_2,.int .i64 7] rfl fq ?_;(with_reducible refine (insn_Assemble.calls x9_2 7 t861 t862 t863 t864 _ A99.out gwy).mono ?_);rintro e w107 ⟨v865,v867,rfl,ho0,ho1,hb⟩;refine ⟨_,rfl,?_⟩;have n0_:=Aside0.mk (Kd.R_below (by (with_reducible repeat (first | apply Kd.R_alloc | apply Kd.R_drewN | apply Kd.R_drew));exact HO_4.out) hb);have n1_:=Aside0.mk (Kd.R_elder' (by (with_reducible repeat (first | apply Kd.R_alloc | apply Kd.R_drewN | apply Kd.R_drew));exact HO858.out) (Kd.R_base ho0) hb);have n2_:=Aside0.mk (Kd.R_elder' (by (with_reducible repeat (first | apply Kd.R_alloc | apply Kd.R_drewN | apply Kd.R_drew));exact HO860.out) (Kd.R_base ho1) hb);have n3_:=Aside0.mk (Kd.R_lower (Kd.R_new' ho0 (Kd.R_lt (by (with_reducible repeat (first | apply Kd.R_alloc | apply Kd.R_drewN | apply Kd.R_drew));exact HO858.out))) (below_size blw));have n4_:=Aside0.mk (Kd.R_lower (Kd.R_new' ho1 (Kd.R_lt (by (with_reducible repeat (first | apply Kd.R_alloc | apply Kd.R_drewN | apply Kd.R_drew));exact HO860.out))) (below_size blw));have n5_:=Aside0.mk (below_step blw hb);clear HO_4;clear HO858;clear HO860;clear HB;have HO_4:=n0_;have HO858:=n1_;have HO860:=n2_;have HO866:=n3_;have HO868:=n4_;have HB:=n5_;clear n0_ n1_ n2_ n3_ n4_ n5_;(try clear hb);(try clear hb2);(try clear hk);(try clear hi);(try clear ho0);(try clear ho1);obtain ⟨Ao108,co108,eo108⟩:=Kd.R_slice HO858.out;subst eo108;obtain ⟨Ao109,co109,eo109⟩:=Kd.R_slice HO866.out;subst eo109) | (go_at_call 20;(with_reducible refine (lzsameBytes.calls _ _ t853 _ _ t861 true _ ?side1 ?side2 ?side3 ?side4 A103.out).mono ?_);(case side1=>repeat (first | exact (Kd.R_reads' HO858.out).2.2 | (with_reducible refine Kd.C_alloc ?_ _) | (with_reducible refine Kd.C_drewN ?_ _) | (with_reducible refine Kd.C_drew ?_)));(case side2=>exact (Kd.R_reads' HO858.out).2.1);(case side3=>repeat (first | exact (Kd.R_reads' HO866.out).2.2 | (with_reducible refine Kd.C_alloc ?_ _) | (with_reducible refine Kd.C_drewN ?_ _) | (with_reducible refine Kd.C_drew ?_)));(case side4=>exact (Kd.R_reads' HO866.out).2.1);rintro e w' ⟨rfl,⟨nd,rfl⟩⟩))
             go_ret;exact ⟨rew,blw⟩
            ·rw [if_neg c105] at H;obtain ⟨c105b0,c105b1⟩:=bqf c105;obtain rfl:=Option.some.inj H;go_wp2_with (first | ((with_reducible refine gate_callee (f:=28) rfl ?_);refine goesL_ (some 167) rfl rfl Tryz.func28 (by kernel_rfl) rfl #[.string x8_2,.int .i64 7] rfl fq ?_;(with_reducible refine (insn_Assemble.calls x8_2 7 t853 t854 t855 t856 _ A98.out gwy).mono ?_);rintro e w110 ⟨v857,v859,rfl,ho0,ho1,hb⟩;refine ⟨_,rfl,?_⟩;have n0_:=Aside0.mk (Kd.R_below (by (with_reducible repeat (first | apply Kd.R_alloc | apply Kd.R_drewN | apply Kd.R_drew));exact HO_4.out) hb);have n1_:=Aside0.mk (Kd.R_lower ho0 (below_size blw));have n2_:=Aside0.mk (Kd.R_lower ho1 (below_size blw));have n3_:=Aside0.mk (below_step blw hb);clear HO_4;clear HB;have HO_4:=n0_;have HO858:=n1_;have HO860:=n2_;have HB:=n3_;clear n0_ n1_ n2_ n3_;(try clear hb);(try clear hb2);(try clear hk);(try clear hi);(try clear ho0);(try clear ho1)) | ((with_reducible refine gate_callee (f:=28) rfl ?_);refine goesL_ (some 174) rfl rfl Tryz.func28 (by kernel_rfl) rfl #[.string x9_2,.int .i64 7] rfl fq ?_;(with_reducible refine (insn_Assemble.calls x9_2 7 t861 t862 t863 t864 _ A99.out gwy).mono ?_);rintro e w111 ⟨v865,v867,rfl,ho0,ho1,hb⟩;refine ⟨_,rfl,?_⟩;have n0_:=Aside0.mk (Kd.R_below (by (with_reducible repeat (first | apply Kd.R_alloc | apply Kd.R_drewN | apply Kd.R_drew));exact HO_4.out) hb);have n1_:=Aside0.mk (Kd.R_elder' (by (with_reducible repeat (first | apply Kd.R_alloc | apply Kd.R_drewN | apply Kd.R_drew));exact HO858.out) (Kd.R_base ho0) hb);have n2_:=Aside0.mk (Kd.R_elder' (by (with_reducible repeat (first | apply Kd.R_alloc | apply Kd.R_drewN | apply Kd.R_drew));exact HO860.out) (Kd.R_base ho1) hb);have n3_:=Aside0.mk (Kd.R_lower (Kd.R_new' ho0 (Kd.R_lt (by (with_reducible repeat (first | apply Kd.R_alloc | apply Kd.R_drewN | apply Kd.R_drew));exact HO858.out))) (below_size blw));have n4_:=Aside0.mk (Kd.R_lower (Kd.R_new' ho1 (Kd.R_lt (by (with_reducible repeat (first | apply Kd.R_alloc | apply Kd.R_drewN | apply Kd.R_drew));exact HO860.out))) (below_size blw));have n5_:=Aside0.mk (below_step blw hb);clear HO_4;clear HO858;clear HO860;clear HB;have HO_4:=n0_;have HO858:=n1_;have HO860:=n2_;have HO866:=n3_;have HO868:=n4_;have HB:=n5_;clear n0_ n1_ n2_ n3_ n4_ n5_;(try clear hb);(try clear hb2);(try clear hk);(try clear hi);(try clear ho0);(try clear ho1);obtain ⟨Ao112,co112,eo112⟩:=Kd.R_slice HO858.out;subst eo112;obtain ⟨Ao113,co113,eo113⟩:=Kd.R_slice HO866.out;subst eo113) | (go_at_call 20;(with_reducible refine (lzsameBytes.calls _ _ t853 _ _ t861 true _ ?side1 ?side2 ?side3 ?side4 A103.out).mono ?_);(case side1=>repeat (first | exact (Kd.R_reads' HO858.out).2.2 | (with_reducible refine Kd.C_alloc ?_ _) | (with_reducible refine Kd.C_drewN ?_ _) | (with_reducible refine Kd.C_drew ?_)));(case side2=>exact (Kd.R_reads' HO858.out).2.1);(case side3=>repeat (first | exact (Kd.R_reads' HO866.out).2.2 | (with_reducible refine Kd.C_alloc ?_ _) | (with_reducible refine Kd.C_drewN ?_ _) | (with_reducible refine Kd.C_drew ?_)));(case side4=>exact (Kd.R_reads' HO866.out).2.1);rintro e w' ⟨rfl,⟨nd,rfl⟩⟩))
             go_ret;exact ⟨rew,blw⟩
           ·replace c104:=Bool.eq_false_iff.mpr c104;subst c104;have H1:(some false)=some r:=by rw [if_neg (show ¬ (false=true) by decide)] at H;exact H
            clear H;have H:=H1;clear H1;exact absurd (H.trans (congrArg some HRT.out)) (by simp)
          ·rw [if_neg c102] at H;obtain ⟨c102b0,c102b1⟩:=bqf c102;exact absurd (H.trans (congrArg some HRT.out)) (by simp)
         ·rw [if_neg c101] at H;obtain ⟨c101b0,c101b1⟩:=bqf c101;exact absurd (H.trans (congrArg some HRT.out)) (by simp)
        ·replace c100:=Bool.eq_false_iff.mpr c100;subst c100;have H1:(some false)=some r:=by rw [if_neg (show ¬ (false=true) by decide)] at H;exact H
         clear H;have H:=H1;clear H1;exact absurd (H.trans (congrArg some HRT.out)) (by simp)
end Go.Proofs.YtffojmgmpfjlhaaGreatDoor.Q
