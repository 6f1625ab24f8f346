/- Parts of the proof: InsnPrints: what Print and Parse answer is what the reference answers: the law returns true for every input; the inputs read as they did; the package-level variables hold what the program's text lays in them: the tied card. -/
import Derived.Test.YtffojmgmpfjlhaaGreatDoorInsnPrintsY6
import Derived.Test.YtffojmgmpfjlhaaGreatDoorInsnPrintsY8
set_option maxHeartbeats 8000000
set_option maxRecDepth 100000
set_option linter.unusedVariables false
set_option linter.unusedSimpArgs false
namespace Go.Proofs.YtffojmgmpfjlhaaGreatDoor.Q
open Go.Proofs.YtffojmgmpfjlhaaGreatDoor Go.RowKit Go.Proofs.YtffojmgmpfjlhaaGreatDoorW.PrintWords Go.Proofs.YtffojmgmpfjlhaaGreatDoorW.PrintLast Go.Proofs.YtffojmgmpfjlhaaGreatDoorW.PrintMore
attribute [local go_sem] max2_int min2_int max_two min_two max_three min_three max_four min_four
mutual
def rzreader_operands.j0:Nat→Int→Bool→ByteArray→Int→Bool→Bool→Bool→ByteArray→Int→Int→Int→Int→Option (Int × Int × Int × Int × ByteArray × Int × Bool × Bool × Bool × ByteArray)
 | 0,_,_,_,_,_,_,_,_,_,_,_,_=>none
 | k+1,x6,x7,x1000,x1001,x1002,x1003,x1004,x1005,x679000,x679001,x679002,x679003=>if x7=true then ((rzreader_address.f k x1000 x1001 x1002 x1003 x1004 x1005 false).bind fun bt680=>((rzreader_comma.f k bt680.2.2.1 bt680.2.2.2.1 bt680.2.2.2.2.1 bt680.2.2.2.2.2.1 bt680.2.2.2.2.2.2.1 bt680.2.2.2.2.2.2.2).bind fun bt688=>(rzreader_operands.j1 k x6 x7 bt688.1 bt688.2.1 bt688.2.2.1 bt688.2.2.2.1 bt688.2.2.2.2.1 bt688.2.2.2.2.2 x679000 x679001 bt680.1 bt680.2.1))) else (rzreader_operands.j1 k x6 x7 x1000 x1001 x1002 x1003 x1004 x1005 x679000 x679001 x679002 x679003)
def rzreader_operands.j1:Nat→Int→Bool→ByteArray→Int→Bool→Bool→Bool→ByteArray→Int→Int→Int→Int→Option (Int × Int × Int × Int × ByteArray × Int × Bool × Bool × Bool × ByteArray)
 | 0,_,_,_,_,_,_,_,_,_,_,_,_=>none
 | k+1,x6,x7,x1000,x1001,x1002,x1003,x1004,x1005,x679000,x679001,x679002,x679003=>(rzOperands.f k x6).bind fun bt694=>(if bt694.1=true then ((rzreader_register.f k x1000 x1001 x1002 x1003 x1004 x1005).bind fun bt697=>(rzreader_operands.j2 k x6 x7 bt694.1 bt697.2.1 bt697.2.2.1 bt697.2.2.2.1 bt697.2.2.2.2.1 bt697.2.2.2.2.2.1 bt697.2.2.2.2.2.2 x679000 bt697.1 x679002 x679003)) else (rzreader_operands.j2 k x6 x7 bt694.1 x1000 x1001 x1002 x1003 x1004 x1005 x679000 x679001 x679002 x679003))
def rzreader_operands.j2:Nat→Int→Bool→Bool→ByteArray→Int→Bool→Bool→Bool→ByteArray→Int→Int→Int→Int→Option (Int × Int × Int × Int × ByteArray × Int × Bool × Bool × Bool × ByteArray)
 | 0,_,_,_,_,_,_,_,_,_,_,_,_,_=>none
 | k+1,x6,x7,x8,x1000,x1001,x1002,x1003,x1004,x1005,x679000,x679001,x679002,x679003=>if x8=true then (if x6=8 then (rzreader_operands.j3 k x6 x7 false x1000 x1001 x1002 x1003 x1004 x1005 x679000 x679001 x679002 x679003) else (rzreader_operands.j3 k x6 x7 (!x7) x1000 x1001 x1002 x1003 x1004 x1005 x679000 x679001 x679002 x679003)) else (rzreader_operands.j3 k x6 x7 false x1000 x1001 x1002 x1003 x1004 x1005 x679000 x679001 x679002 x679003)
def rzreader_operands.j3:Nat→Int→Bool→Bool→ByteArray→Int→Bool→Bool→Bool→ByteArray→Int→Int→Int→Int→Option (Int × Int × Int × Int × ByteArray × Int × Bool × Bool × Bool × ByteArray)
 | 0,_,_,_,_,_,_,_,_,_,_,_,_,_=>none
 | k+1,x6,x7,x49,x1000,x1001,x1002,x1003,x1004,x1005,x679000,x679001,x679002,x679003=>if x49=true then ((rzreader_comma.f k x1000 x1001 x1002 x1003 x1004 x1005).bind fun bt704=>(rzreader_operands.j4 k x6 x7 bt704.1 bt704.2.1 bt704.2.2.1 bt704.2.2.2.1 bt704.2.2.2.2.1 bt704.2.2.2.2.2 x679000 x679001 x679002 x679003)) else (rzreader_operands.j4 k x6 x7 x1000 x1001 x1002 x1003 x1004 x1005 x679000 x679001 x679002 x679003)
def rzreader_operands.j4:Nat→Int→Bool→ByteArray→Int→Bool→Bool→Bool→ByteArray→Int→Int→Int→Int→Option (Int × Int × Int × Int × ByteArray × Int × Bool × Bool × Bool × ByteArray)
 | 0,_,_,_,_,_,_,_,_,_,_,_,_=>none
 | k+1,x6,x7,x1000,x1001,x1002,x1003,x1004,x1005,x679000,x679001,x679002,x679003=>if x6=2 then ((rzreader_register.f k x1000 x1001 x1002 x1003 x1004 x1005).bind fun bt710=>(rzreader_operands.j7 k x6 bt710.2.1 bt710.2.2.1 bt710.2.2.2.1 bt710.2.2.2.2.1 bt710.2.2.2.2.2.1 bt710.2.2.2.2.2.2 x679000 x679001 bt710.1 x679003)) else (if x6=3 then (rzreader_operands.j5 k x6 x7 x6 (x6 == 3) x1000 x1001 x1002 x1003 x1004 x1005 x679000 x679001 x679002 x679003) else (if x6=4 then (rzreader_operands.j5 k x6 x7 x6 (x6 == 4) x1000 x1001 x1002 x1003 x1004 x1005 x679000 x679001 x679002 x679003) else (rzreader_operands.j5 k x6 x7 x6 (x6 == 10) x1000 x1001 x1002 x1003 x1004 x1005 x679000 x679001 x679002 x679003)))
def rzreader_operands.j7:Nat→Int→ByteArray→Int→Bool→Bool→Bool→ByteArray→Int→Int→Int→Int→Option (Int × Int × Int × Int × ByteArray × Int × Bool × Bool × Bool × ByteArray)
 | 0,_,_,_,_,_,_,_,_,_,_,_=>none
 | k+1,x6,x1000,x1001,x1002,x1003,x1004,x1005,x679000,x679001,x679002,x679003=>if x6=6 then (rzreader_operands.j8 k x6 false x1000 x1001 x1002 x1003 x1004 x1005 x679000 x679001 x679002 x679003) else (if x6=7 then (rzreader_operands.j8 k x6 false x1000 x1001 x1002 x1003 x1004 x1005 x679000 x679001 x679002 x679003) else (rzreader_operands.j8 k x6 (x6 != 9) x1000 x1001 x1002 x1003 x1004 x1005 x679000 x679001 x679002 x679003))
def rzreader_operands.j8:Nat→Int→Bool→ByteArray→Int→Bool→Bool→Bool→ByteArray→Int→Int→Int→Int→Option (Int × Int × Int × Int × ByteArray × Int × Bool × Bool × Bool × ByteArray)
 | 0,_,_,_,_,_,_,_,_,_,_,_,_=>none
 | k+1,x6,x111,x1000,x1001,x1002,x1003,x1004,x1005,x679000,x679001,x679002,x679003=>if x111=true then ((rzfits.f k x6 x679003).bind fun t767=>((rzreader_must.f x1000 x1001 x1002 x1003 x1004 x1005 t767).bind fun bt768=>(some (x679000,x679001,x679002,x679003,bt768.1,bt768.2.1,bt768.2.2.1,bt768.2.2.2.1,bt768.2.2.2.2.1,bt768.2.2.2.2.2)))) else (some (x679000,x679001,x679002,x679003,x1000,x1001,x1002,x1003,x1004,x1005))
def rzreader_operands.j5:Nat→Int→Bool→Int→Bool→ByteArray→Int→Bool→Bool→Bool→ByteArray→Int→Int→Int→Int→Option (Int × Int × Int × Int × ByteArray × Int × Bool × Bool × Bool × ByteArray)
 | 0,_,_,_,_,_,_,_,_,_,_,_,_,_,_=>none
 | k+1,x6,x7,x52,x58,x1000,x1001,x1002,x1003,x1004,x1005,x679000,x679001,x679002,x679003=>if x58=true then ((rzreader_number.f k x1000 x1001 x1002 x1003 x1004 x1005).bind fun bt717=>(rzreader_operands.j7 k x6 bt717.2.1 bt717.2.2.1 bt717.2.2.2.1 bt717.2.2.2.2.1 bt717.2.2.2.2.2.1 bt717.2.2.2.2.2.2 x679000 x679001 x679002 bt717.1)) else (if x52=5 then (if x7=true then (rzreader_operands.j7 k x6 x1000 x1001 x1002 x1003 x1004 x1005 x679000 x679001 x679002 x679003) else ((rzreader_address.f k x1000 x1001 x1002 x1003 x1004 x1005 false).bind fun bt724=>(rzreader_operands.j7 k x6 bt724.2.2.1 bt724.2.2.2.1 bt724.2.2.2.2.1 bt724.2.2.2.2.2.1 bt724.2.2.2.2.2.2.1 bt724.2.2.2.2.2.2.2 x679000 x679001 bt724.1 bt724.2.1))) else (if x52=6 then ((rzreader_register.f k x1000 x1001 x1002 x1003 x1004 x1005).bind fun bt732=>((rzreader_comma.f k bt732.2.1 bt732.2.2.1 bt732.2.2.2.1 bt732.2.2.2.2.1 bt732.2.2.2.2.2.1 bt732.2.2.2.2.2.2).bind fun bt739=>((rzreader_target.f k bt739.1 bt739.2.1 bt739.2.2.1 bt739.2.2.2.1 bt739.2.2.2.2.1 bt739.2.2.2.2.2 x6).bind fun bt745=>(rzreader_operands.j7 k x6 bt745.2.1 bt745.2.2.1 bt745.2.2.2.1 bt745.2.2.2.2.1 bt745.2.2.2.2.2.1 bt745.2.2.2.2.2.2 x679000 x679001 bt732.1 bt745.1)))) else (if x52=7 then (rzreader_operands.j6 k x6 x52 (x52 == 7) x1000 x1001 x1002 x1003 x1004 x1005 x679000 x679001 x679002 x679003) else (rzreader_operands.j6 k x6 x52 (x52 == 9) x1000 x1001 x1002 x1003 x1004 x1005 x679000 x679001 x679002 x679003))))
def rzreader_operands.j6:Nat→Int→Int→Bool→ByteArray→Int→Bool→Bool→Bool→ByteArray→Int→Int→Int→Int→Option (Int × Int × Int × Int × ByteArray × Int × Bool × Bool × Bool × ByteArray)
 | 0,_,_,_,_,_,_,_,_,_,_,_,_,_=>none
 | k+1,x6,x52,x87,x1000,x1001,x1002,x1003,x1004,x1005,x679000,x679001,x679002,x679003=>if x87=true then ((rzreader_target.f k x1000 x1001 x1002 x1003 x1004 x1005 x6).bind fun bt752=>(rzreader_operands.j7 k x6 bt752.2.1 bt752.2.2.1 bt752.2.2.2.1 bt752.2.2.2.2.1 bt752.2.2.2.2.2.1 bt752.2.2.2.2.2.2 x679000 x679001 x679002 bt752.1)) else (if x52=11 then ((rzreader_address.f k x1000 x1001 x1002 x1003 x1004 x1005 true).bind fun bt759=>(rzreader_operands.j7 k x6 bt759.2.2.1 bt759.2.2.2.1 bt759.2.2.2.2.1 bt759.2.2.2.2.2.1 bt759.2.2.2.2.2.2.1 bt759.2.2.2.2.2.2.2 x679000 x679001 bt759.1 x679003)) else (rzreader_operands.j7 k x6 x1000 x1001 x1002 x1003 x1004 x1005 x679000 x679001 x679002 x679003))
end
def rzreader_operands.f (k:Nat) (s0_0:ByteArray) (s0_1:Int) (s0_2:Bool) (s0_3:Bool) (s0_4:Bool) (s0_5:ByteArray) (a1:Int):Option (Int × Int × Int × Int × ByteArray × Int × Bool × Bool × Bool × ByteArray):=(rzForm.f k a1).bind fun t679=>(if a1=19 then (rzreader_operands.j0 k t679 true s0_0 s0_1 s0_2 s0_3 s0_4 s0_5 a1 0 0 0) else (rzreader_operands.j0 k t679 (a1 == 20) s0_0 s0_1 s0_2 s0_3 s0_4 s0_5 a1 0 0 0))
theorem rzreader_operands.mono_l:∀ k,(∀ y0 y1 y2 y3 y4 y5 y6 y7 y8 y9 y10 y11,LeO (rzreader_operands.j0 k y0 y1 y2 y3 y4 y5 y6 y7 y8 y9 y10 y11) (rzreader_operands.j0 (k+1) y0 y1 y2 y3 y4 y5 y6 y7 y8 y9 y10 y11))∧(∀ y0 y1 y2 y3 y4 y5 y6 y7 y8 y9 y10 y11,LeO (rzreader_operands.j1 k y0 y1 y2 y3 y4 y5 y6 y7 y8 y9 y10 y11) (rzreader_operands.j1 (k+1) y0 y1 y2 y3 y4 y5 y6 y7 y8 y9 y10 y11))∧(∀ y0 y1 y2 y3 y4 y5 y6 y7 y8 y9 y10 y11 y12,LeO (rzreader_operands.j2 k y0 y1 y2 y3 y4 y5 y6 y7 y8 y9 y10 y11 y12) (rzreader_operands.j2 (k+1) y0 y1 y2 y3 y4 y5 y6 y7 y8 y9 y10 y11 y12))∧(∀ y0 y1 y2 y3 y4 y5 y6 y7 y8 y9 y10 y11 y12,LeO (rzreader_operands.j3 k y0 y1 y2 y3 y4 y5 y6 y7 y8 y9 y10 y11 y12) (rzreader_operands.j3 (k+1) y0 y1 y2 y3 y4 y5 y6 y7 y8 y9 y10 y11 y12))∧(∀ y0 y1 y2 y3 y4 y5 y6 y7 y8 y9 y10 y11,LeO (rzreader_operands.j4 k y0 y1 y2 y3 y4 y5 y6 y7 y8 y9 y10 y11) (rzreader_operands.j4 (k+1) y0 y1 y2 y3 y4 y5 y6 y7 y8 y9 y10 y11))∧(∀ y0 y1 y2 y3 y4 y5 y6 y7 y8 y9 y10,LeO (rzreader_operands.j7 k y0 y1 y2 y3 y4 y5 y6 y7 y8 y9 y10) (rzreader_operands.j7 (k+1) y0 y1 y2 y3 y4 y5 y6 y7 y8 y9 y10))∧(∀ y0 y1 y2 y3 y4 y5 y6 y7 y8 y9 y10 y11,LeO (rzreader_operands.j8 k y0 y1 y2 y3 y4 y5 y6 y7 y8 y9 y10 y11) (rzreader_operands.j8 (k+1) y0 y1 y2 y3 y4 y5 y6 y7 y8 y9 y10 y11))∧(∀ y0 y1 y2 y3 y4 y5 y6 y7 y8 y9 y10 y11 y12 y13,LeO (rzreader_operands.j5 k y0 y1 y2 y3 y4 y5 y6 y7 y8 y9 y10 y11 y12 y13) (rzreader_operands.j5 (k+1) y0 y1 y2 y3 y4 y5 y6 y7 y8 y9 y10 y11 y12 y13))∧(∀ y0 y1 y2 y3 y4 y5 y6 y7 y8 y9 y10 y11 y12,LeO (rzreader_operands.j6 k y0 y1 y2 y3 y4 y5 y6 y7 y8 y9 y10 y11 y12) (rzreader_operands.j6 (k+1) y0 y1 y2 y3 y4 y5 y6 y7 y8 y9 y10 y11 y12))
 | 0=>⟨fun _ _ _ _ _ _ _ _ _ _ _ _ r h=>by simp [rzreader_operands.j0] at h,fun _ _ _ _ _ _ _ _ _ _ _ _ r h=>by simp [rzreader_operands.j1] at h,fun _ _ _ _ _ _ _ _ _ _ _ _ _ r h=>by simp [rzreader_operands.j2] at h,fun _ _ _ _ _ _ _ _ _ _ _ _ _ r h=>by simp [rzreader_operands.j3] at h,fun _ _ _ _ _ _ _ _ _ _ _ _ r h=>by simp [rzreader_operands.j4] at h,fun _ _ _ _ _ _ _ _ _ _ _ r h=>by simp [rzreader_operands.j7] at h,fun _ _ _ _ _ _ _ _ _ _ _ _ r h=>by simp [rzreader_operands.j8] at h,fun _ _ _ _ _ _ _ _ _ _ _ _ _ _ r h=>by simp [rzreader_operands.j5] at h,fun _ _ _ _ _ _ _ _ _ _ _ _ _ r h=>by simp [rzreader_operands.j6] at h⟩
 | k+1=>by
  obtain ⟨ih0,ih1,ih2,ih3,ih4,ih5,ih6,ih7,ih8⟩:=rzreader_operands.mono_l k;refine ⟨?_,?_,?_,?_,?_,?_,?_,?_,?_⟩
  ·intro y0 y1 y2 y3 y4 y5 y6 y7 y8 y9 y10 y11;unfold rzreader_operands.j0;repeat' first
   | (with_reducible exact ih0 _ _ _ _ _ _ _ _ _ _ _ _)
   | (with_reducible exact ih1 _ _ _ _ _ _ _ _ _ _ _ _)
   | (with_reducible exact ih2 _ _ _ _ _ _ _ _ _ _ _ _ _)
   | (with_reducible exact ih3 _ _ _ _ _ _ _ _ _ _ _ _ _)
   | (with_reducible exact ih4 _ _ _ _ _ _ _ _ _ _ _ _)
   | (with_reducible exact ih5 _ _ _ _ _ _ _ _ _ _ _)
   | (with_reducible exact ih6 _ _ _ _ _ _ _ _ _ _ _ _)
   | (with_reducible exact ih7 _ _ _ _ _ _ _ _ _ _ _ _ _ _)
   | (with_reducible exact ih8 _ _ _ _ _ _ _ _ _ _ _ _ _)
   | (with_reducible exact rzForm.mono _ _)
   | (with_reducible exact rzOperands.mono _ _)
   | (with_reducible exact rzfits.mono _ _ _)
   | (with_reducible exact rzreader_address.mono _ _ _ _ _ _ _ _)
   | (with_reducible exact rzreader_comma.mono _ _ _ _ _ _ _)
   | (with_reducible exact rzreader_number.mono _ _ _ _ _ _ _)
   | (with_reducible exact rzreader_register.mono _ _ _ _ _ _ _)
   | (with_reducible exact rzreader_target.mono _ _ _ _ _ _ _ _)
   | (with_reducible exact LeO.refl _)
   | (with_reducible exact LeO.none _)
   | (with_reducible refine LeO.ite ?_ ?_)
   | (with_reducible refine LeO.bind ?_ (fun _=>?_))
   | exact LeO.none _
   | refine LeO.ite ?_ ?_
   | refine LeO.bind ?_ (fun _=>?_)
  ·intro y0 y1 y2 y3 y4 y5 y6 y7 y8 y9 y10 y11;unfold rzreader_operands.j1;repeat' first
   | (with_reducible exact ih0 _ _ _ _ _ _ _ _ _ _ _ _)
   | (with_reducible exact ih1 _ _ _ _ _ _ _ _ _ _ _ _)
   | (with_reducible exact ih2 _ _ _ _ _ _ _ _ _ _ _ _ _)
   | (with_reducible exact ih3 _ _ _ _ _ _ _ _ _ _ _ _ _)
   | (with_reducible exact ih4 _ _ _ _ _ _ _ _ _ _ _ _)
   | (with_reducible exact ih5 _ _ _ _ _ _ _ _ _ _ _)
   | (with_reducible exact ih6 _ _ _ _ _ _ _ _ _ _ _ _)
   | (with_reducible exact ih7 _ _ _ _ _ _ _ _ _ _ _ _ _ _)
   | (with_reducible exact ih8 _ _ _ _ _ _ _ _ _ _ _ _ _)
   | (with_reducible exact rzForm.mono _ _)
   | (with_reducible exact rzOperands.mono _ _)
   | (with_reducible exact rzfits.mono _ _ _)
   | (with_reducible exact rzreader_address.mono _ _ _ _ _ _ _ _)
   | (with_reducible exact rzreader_comma.mono _ _ _ _ _ _ _)
   | (with_reducible exact rzreader_number.mono _ _ _ _ _ _ _)
   | (with_reducible exact rzreader_register.mono _ _ _ _ _ _ _)
   | (with_reducible exact rzreader_target.mono _ _ _ _ _ _ _ _)
   | (with_reducible exact LeO.refl _)
   | (with_reducible exact LeO.none _)
   | (with_reducible refine LeO.ite ?_ ?_)
   | (with_reducible refine LeO.bind ?_ (fun _=>?_))
   | exact LeO.none _
   | refine LeO.ite ?_ ?_
   | refine LeO.bind ?_ (fun _=>?_)
  ·intro y0 y1 y2 y3 y4 y5 y6 y7 y8 y9 y10 y11 y12;unfold rzreader_operands.j2;repeat' first
   | (with_reducible exact ih0 _ _ _ _ _ _ _ _ _ _ _ _)
   | (with_reducible exact ih1 _ _ _ _ _ _ _ _ _ _ _ _)
   | (with_reducible exact ih2 _ _ _ _ _ _ _ _ _ _ _ _ _)
   | (with_reducible exact ih3 _ _ _ _ _ _ _ _ _ _ _ _ _)
   | (with_reducible exact ih4 _ _ _ _ _ _ _ _ _ _ _ _)
   | (with_reducible exact ih5 _ _ _ _ _ _ _ _ _ _ _)
   | (with_reducible exact ih6 _ _ _ _ _ _ _ _ _ _ _ _)
   | (with_reducible exact ih7 _ _ _ _ _ _ _ _ _ _ _ _ _ _)
   | (with_reducible exact ih8 _ _ _ _ _ _ _ _ _ _ _ _ _)
   | (with_reducible exact rzForm.mono _ _)
   | (with_reducible exact rzOperands.mono _ _)
   | (with_reducible exact rzfits.mono _ _ _)
   | (with_reducible exact rzreader_address.mono _ _ _ _ _ _ _ _)
   | (with_reducible exact rzreader_comma.mono _ _ _ _ _ _ _)
   | (with_reducible exact rzreader_number.mono _ _ _ _ _ _ _)
   | (with_reducible exact rzreader_register.mono _ _ _ _ _ _ _)
   | (with_reducible exact rzreader_target.mono _ _ _ _ _ _ _ _)
   | (with_reducible exact LeO.refl _)
   | (with_reducible exact LeO.none _)
   | (with_reducible refine LeO.ite ?_ ?_)
   | (with_reducible refine LeO.bind ?_ (fun _=>?_))
   | exact LeO.none _
   | refine LeO.ite ?_ ?_
   | refine LeO.bind ?_ (fun _=>?_)
  ·intro y0 y1 y2 y3 y4 y5 y6 y7 y8 y9 y10 y11 y12;unfold rzreader_operands.j3;repeat' first
   | (with_reducible exact ih0 _ _ _ _ _ _ _ _ _ _ _ _)
   | (with_reducible exact ih1 _ _ _ _ _ _ _ _ _ _ _ _)
   | (with_reducible exact ih2 _ _ _ _ _ _ _ _ _ _ _ _ _)
   | (with_reducible exact ih3 _ _ _ _ _ _ _ _ _ _ _ _ _)
   | (with_reducible exact ih4 _ _ _ _ _ _ _ _ _ _ _ _)
   | (with_reducible exact ih5 _ _ _ _ _ _ _ _ _ _ _)
   | (with_reducible exact ih6 _ _ _ _ _ _ _ _ _ _ _ _)
   | (with_reducible exact ih7 _ _ _ _ _ _ _ _ _ _ _ _ _ _)
   | (with_reducible exact ih8 _ _ _ _ _ _ _ _ _ _ _ _ _)
   | (with_reducible exact rzForm.mono _ _)
   | (with_reducible exact rzOperands.mono _ _)
   | (with_reducible exact rzfits.mono _ _ _)
   | (with_reducible exact rzreader_address.mono _ _ _ _ _ _ _ _)
   | (with_reducible exact rzreader_comma.mono _ _ _ _ _ _ _)
   | (with_reducible exact rzreader_number.mono _ _ _ _ _ _ _)
   | (with_reducible exact rzreader_register.mono _ _ _ _ _ _ _)
   | (with_reducible exact rzreader_target.mono _ _ _ _ _ _ _ _)
   | (with_reducible exact LeO.refl _)
   | (with_reducible exact LeO.none _)
   | (with_reducible refine LeO.ite ?_ ?_)
   | (with_reducible refine LeO.bind ?_ (fun _=>?_))
   | exact LeO.none _
   | refine LeO.ite ?_ ?_
   | refine LeO.bind ?_ (fun _=>?_)
  ·intro y0 y1 y2 y3 y4 y5 y6 y7 y8 y9 y10 y11;unfold rzreader_operands.j4;repeat' first
   | (with_reducible exact ih0 _ _ _ _ _ _ _ _ _ _ _ _)
   | (with_reducible exact ih1 _ _ _ _ _ _ _ _ _ _ _ _)
   | (with_reducible exact ih2 _ _ _ _ _ _ _ _ _ _ _ _ _)
   | (with_reducible exact ih3 _ _ _ _ _ _ _ _ _ _ _ _ _)
   | (with_reducible exact ih4 _ _ _ _ _ _ _ _ _ _ _ _)
   | (with_reducible exact ih5 _ _ _ _ _ _ _ _ _ _ _)
   | (with_reducible exact ih6 _ _ _ _ _ _ _ _ _ _ _ _)
   | (with_reducible exact ih7 _ _ _ _ _ _ _ _ _ _ _ _ _ _)
   | (with_reducible exact ih8 _ _ _ _ _ _ _ _ _ _ _ _ _)
   | (with_reducible exact rzForm.mono _ _)
   | (with_reducible exact rzOperands.mono _ _)
   | (with_reducible exact rzfits.mono _ _ _)
   | (with_reducible exact rzreader_address.mono _ _ _ _ _ _ _ _)
   | (with_reducible exact rzreader_comma.mono _ _ _ _ _ _ _)
   | (with_reducible exact rzreader_number.mono _ _ _ _ _ _ _)
   | (with_reducible exact rzreader_register.mono _ _ _ _ _ _ _)
   | (with_reducible exact rzreader_target.mono _ _ _ _ _ _ _ _)
   | (with_reducible exact LeO.refl _)
   | (with_reducible exact LeO.none _)
   | (with_reducible refine LeO.ite ?_ ?_)
   | (with_reducible refine LeO.bind ?_ (fun _=>?_))
   | exact LeO.none _
   | refine LeO.ite ?_ ?_
   | refine LeO.bind ?_ (fun _=>?_)
  ·intro y0 y1 y2 y3 y4 y5 y6 y7 y8 y9 y10;unfold rzreader_operands.j7;repeat' first
   | (with_reducible exact ih0 _ _ _ _ _ _ _ _ _ _ _ _)
   | (with_reducible exact ih1 _ _ _ _ _ _ _ _ _ _ _ _)
   | (with_reducible exact ih2 _ _ _ _ _ _ _ _ _ _ _ _ _)
   | (with_reducible exact ih3 _ _ _ _ _ _ _ _ _ _ _ _ _)
   | (with_reducible exact ih4 _ _ _ _ _ _ _ _ _ _ _ _)
   | (with_reducible exact ih5 _ _ _ _ _ _ _ _ _ _ _)
   | (with_reducible exact ih6 _ _ _ _ _ _ _ _ _ _ _ _)
   | (with_reducible exact ih7 _ _ _ _ _ _ _ _ _ _ _ _ _ _)
   | (with_reducible exact ih8 _ _ _ _ _ _ _ _ _ _ _ _ _)
   | (with_reducible exact rzForm.mono _ _)
   | (with_reducible exact rzOperands.mono _ _)
   | (with_reducible exact rzfits.mono _ _ _)
   | (with_reducible exact rzreader_address.mono _ _ _ _ _ _ _ _)
   | (with_reducible exact rzreader_comma.mono _ _ _ _ _ _ _)
   | (with_reducible exact rzreader_number.mono _ _ _ _ _ _ _)
   | (with_reducible exact rzreader_register.mono _ _ _ _ _ _ _)
   | (with_reducible exact rzreader_target.mono _ _ _ _ _ _ _ _)
   | (with_reducible exact LeO.refl _)
   | (with_reducible exact LeO.none _)
   | (with_reducible refine LeO.ite ?_ ?_)
   | (with_reducible refine LeO.bind ?_ (fun _=>?_))
   | exact LeO.none _
   | refine LeO.ite ?_ ?_
   | refine LeO.bind ?_ (fun _=>?_)
  ·intro y0 y1 y2 y3 y4 y5 y6 y7 y8 y9 y10 y11;unfold rzreader_operands.j8;repeat' first
   | (with_reducible exact ih0 _ _ _ _ _ _ _ _ _ _ _ _)
   | (with_reducible exact ih1 _ _ _ _ _ _ _ _ _ _ _ _)
   | (with_reducible exact ih2 _ _ _ _ _ _ _ _ _ _ _ _ _)
   | (with_reducible exact ih3 _ _ _ _ _ _ _ _ _ _ _ _ _)
   | (with_reducible exact ih4 _ _ _ _ _ _ _ _ _ _ _ _)
   | (with_reducible exact ih5 _ _ _ _ _ _ _ _ _ _ _)
   | (with_reducible exact ih6 _ _ _ _ _ _ _ _ _ _ _ _)
   | (with_reducible exact ih7 _ _ _ _ _ _ _ _ _ _ _ _ _ _)
   | (with_reducible exact ih8 _ _ _ _ _ _ _ _ _ _ _ _ _)
   | (with_reducible exact rzForm.mono _ _)
   | (with_reducible exact rzOperands.mono _ _)
   | (with_reducible exact rzfits.mono _ _ _)
   | (with_reducible exact rzreader_address.mono _ _ _ _ _ _ _ _)
   | (with_reducible exact rzreader_comma.mono _ _ _ _ _ _ _)
   | (with_reducible exact rzreader_number.mono _ _ _ _ _ _ _)
   | (with_reducible exact rzreader_register.mono _ _ _ _ _ _ _)
   | (with_reducible exact rzreader_target.mono _ _ _ _ _ _ _ _)
   | (with_reducible exact LeO.refl _)
   | (with_reducible exact LeO.none _)
   | (with_reducible refine LeO.ite ?_ ?_)
   | (with_reducible refine LeO.bind ?_ (fun _=>?_))
   | exact LeO.none _
   | refine LeO.ite ?_ ?_
   | refine LeO.bind ?_ (fun _=>?_)
  ·intro y0 y1 y2 y3 y4 y5 y6 y7 y8 y9 y10 y11 y12 y13;unfold rzreader_operands.j5;repeat' first
   | (with_reducible exact ih0 _ _ _ _ _ _ _ _ _ _ _ _)
   | (with_reducible exact ih1 _ _ _ _ _ _ _ _ _ _ _ _)
   | (with_reducible exact ih2 _ _ _ _ _ _ _ _ _ _ _ _ _)
   | (with_reducible exact ih3 _ _ _ _ _ _ _ _ _ _ _ _ _)
   | (with_reducible exact ih4 _ _ _ _ _ _ _ _ _ _ _ _)
   | (with_reducible exact ih5 _ _ _ _ _ _ _ _ _ _ _)
   | (with_reducible exact ih6 _ _ _ _ _ _ _ _ _ _ _ _)
   | (with_reducible exact ih7 _ _ _ _ _ _ _ _ _ _ _ _ _ _)
   | (with_reducible exact ih8 _ _ _ _ _ _ _ _ _ _ _ _ _)
   | (with_reducible exact rzForm.mono _ _)
   | (with_reducible exact rzOperands.mono _ _)
   | (with_reducible exact rzfits.mono _ _ _)
   | (with_reducible exact rzreader_address.mono _ _ _ _ _ _ _ _)
   | (with_reducible exact rzreader_comma.mono _ _ _ _ _ _ _)
   | (with_reducible exact rzreader_number.mono _ _ _ _ _ _ _)
   | (with_reducible exact rzreader_register.mono _ _ _ _ _ _ _)
   | (with_reducible exact rzreader_target.mono _ _ _ _ _ _ _ _)
   | (with_reducible exact LeO.refl _)
   | (with_reducible exact LeO.none _)
   | (with_reducible refine LeO.ite ?_ ?_)
   | (with_reducible refine LeO.bind ?_ (fun _=>?_))
   | exact LeO.none _
   | refine LeO.ite ?_ ?_
   | refine LeO.bind ?_ (fun _=>?_)
  ·intro y0 y1 y2 y3 y4 y5 y6 y7 y8 y9 y10 y11 y12;unfold rzreader_operands.j6;repeat' first
   | (with_reducible exact ih0 _ _ _ _ _ _ _ _ _ _ _ _)
   | (with_reducible exact ih1 _ _ _ _ _ _ _ _ _ _ _ _)
   | (with_reducible exact ih2 _ _ _ _ _ _ _ _ _ _ _ _ _)
   | (with_reducible exact ih3 _ _ _ _ _ _ _ _ _ _ _ _ _)
   | (with_reducible exact ih4 _ _ _ _ _ _ _ _ _ _ _ _)
   | (with_reducible exact ih5 _ _ _ _ _ _ _ _ _ _ _)
   | (with_reducible exact ih6 _ _ _ _ _ _ _ _ _ _ _ _)
   | (with_reducible exact ih7 _ _ _ _ _ _ _ _ _ _ _ _ _ _)
   | (with_reducible exact ih8 _ _ _ _ _ _ _ _ _ _ _ _ _)
   | (with_reducible exact rzForm.mono _ _)
   | (with_reducible exact rzOperands.mono _ _)
   | (with_reducible exact rzfits.mono _ _ _)
   | (with_reducible exact rzreader_address.mono _ _ _ _ _ _ _ _)
   | (with_reducible exact rzreader_comma.mono _ _ _ _ _ _ _)
   | (with_reducible exact rzreader_number.mono _ _ _ _ _ _ _)
   | (with_reducible exact rzreader_register.mono _ _ _ _ _ _ _)
   | (with_reducible exact rzreader_target.mono _ _ _ _ _ _ _ _)
   | (with_reducible exact LeO.refl _)
   | (with_reducible exact LeO.none _)
   | (with_reducible refine LeO.ite ?_ ?_)
   | (with_reducible refine LeO.bind ?_ (fun _=>?_))
   | exact LeO.none _
   | refine LeO.ite ?_ ?_
   | refine LeO.bind ?_ (fun _=>?_)
theorem rzreader_operands.mono:∀ a0 a1 a2 a3 a4 a5 a6 k,LeO (rzreader_operands.f k a0 a1 a2 a3 a4 a5 a6) (rzreader_operands.f (k+1) a0 a1 a2 a3 a4 a5 a6):=by
 intro a0 a1 a2 a3 a4 a5 a6 k;obtain ⟨ih0,ih1,ih2,ih3,ih4,ih5,ih6,ih7,ih8⟩:=rzreader_operands.mono_l k;unfold rzreader_operands.f;repeat' first
   | (with_reducible exact ih0 _ _ _ _ _ _ _ _ _ _ _ _)
   | (with_reducible exact ih1 _ _ _ _ _ _ _ _ _ _ _ _)
   | (with_reducible exact ih2 _ _ _ _ _ _ _ _ _ _ _ _ _)
   | (with_reducible exact ih3 _ _ _ _ _ _ _ _ _ _ _ _ _)
   | (with_reducible exact ih4 _ _ _ _ _ _ _ _ _ _ _ _)
   | (with_reducible exact ih5 _ _ _ _ _ _ _ _ _ _ _)
   | (with_reducible exact ih6 _ _ _ _ _ _ _ _ _ _ _ _)
   | (with_reducible exact ih7 _ _ _ _ _ _ _ _ _ _ _ _ _ _)
   | (with_reducible exact ih8 _ _ _ _ _ _ _ _ _ _ _ _ _)
   | (with_reducible exact rzForm.mono _ _)
   | (with_reducible exact rzOperands.mono _ _)
   | (with_reducible exact rzfits.mono _ _ _)
   | (with_reducible exact rzreader_address.mono _ _ _ _ _ _ _ _)
   | (with_reducible exact rzreader_comma.mono _ _ _ _ _ _ _)
   | (with_reducible exact rzreader_number.mono _ _ _ _ _ _ _)
   | (with_reducible exact rzreader_register.mono _ _ _ _ _ _ _)
   | (with_reducible exact rzreader_target.mono _ _ _ _ _ _ _ _)
   | (with_reducible exact LeO.refl _)
   | (with_reducible exact LeO.none _)
   | (with_reducible refine LeO.ite ?_ ?_)
   | (with_reducible refine LeO.bind ?_ (fun _=>?_))
   | exact LeO.none _
   | refine LeO.ite ?_ ?_
   | refine LeO.bind ?_ (fun _=>?_)
theorem rzreader_operands.calls (k:Nat) (g:Nat) (s0_0:ByteArray) (s0_1:Int) (s0_2:Bool) (s0_3:Bool) (s0_4:Bool) (s0_5:ByteArray) (a1:Int) (r1:Int) (r2:Int) (r3:Int) (r4:Int) (r5:ByteArray) (r6:Int) (r7:Bool) (r8:Bool) (r9:Bool) (r10:ByteArray) (w0 w:World) (hI:IsS117 w0 w g s0_0 s0_1 s0_2 s0_3 s0_4 s0_5) (hB:Below w0.heap.size w0 w) (h:rzreader_operands.f k s0_0 s0_1 s0_2 s0_3 s0_4 s0_5 a1=some (r1,r2,r3,r4,r5,r6,r7,r8,r9,r10)) :
  Calls Tryz.prog 108 #[.pointer (some ⟨g,0,none⟩),.int .i64 a1] w fun e w'=>e=.returned (.agg #[.int .i64 r1,.int .i64 r2,.int .i64 r3,.int .i64 r4])∧IsS117 w0 w' g r5 r6 r7 r8 r9 r10∧Below w0.heap.size w0 w'∧KeepBut w w' g none:=by
 have hu23:=Tryz.underlying23;have HI0:=Aside0.mk hI;have HK:=Aside0.mk (KeepBut.refl w g none);have HL:=Aside0.mk hB.size;clear hI;have HW0:=Aside0.mk hB.size;have HB:=Aside0.mk hB;clear hB;unfold rzreader_operands.f at h;have H:=h;clear h;obtain ⟨t679,A3,H⟩:=bas H;(try dsimp only at H);have HC4:=Aside0.mk H;clear H;go_enter Tryz.func108,Tryz.ntmps108
 go_upto_region 3 with (first | ((with_reducible refine gate_dst (N:=4) rfl ?_);refine bxe (N:=4) (cs:=#[.int .i64 0,.int .i64 0,.int .i64 0,.int .i64 0]) (t:=23) ?_;intro gb677 hg w5 hbox hb;replace HB:=Aside0.mk (below_step bx hb);have BK677:=Aside0.mk hbox;have GW677:Aside0 (w.heap.size≤gb677):=⟨gwk⟩;replace HK:=kob (w:=w) kx hb;have GE677:=Aside0.mk (Nat.le_trans HW0.out GW677.out);have NB0_677:Aside0 (g≠gb677):=⟨nix⟩;replace HI0:=Aside0.mk (IsS117.below ix hb);have NB677_0:=Aside0.mk NB0_677.out.symm;clear hb hbox hg) | ((with_reducible refine gate_dst (N:=5) rfl ?_);refine bxe (N:=5) (cs:=#[.int .i64 0,.int .i64 0,.int .i64 0,.int .i64 0]) (t:=23) ?_;intro gb678 hg w6 hbox hb;replace HB:=Aside0.mk (below_step bx hb);have BK678:=Aside0.mk hbox;have GW678:Aside0 (w.heap.size≤gb678):=⟨gwk⟩;replace HK:=kob (w:=w) kx hb;have GE678:=Aside0.mk (Nat.le_trans HW0.out GW678.out);have NB677_678:Aside0 (gb677≠gb678):=⟨nbk⟩;replace BK677:=Aside0.mk (blk_below (g:=gb677) bko hb);have NB678_677:=Aside0.mk NB677_678.out.symm;have NB0_678:Aside0 (g≠gb678):=⟨nix⟩;replace HI0:=Aside0.mk (IsS117.below ix hb);have NB678_0:=Aside0.mk NB0_678.out.symm;clear hb hbox hg;have:=NB678_677.out;have:=NB677_678.out;have:=NB678_0.out;have:=NB0_678.out;obtain ⟨hcz9_0,hcz9_1,hcz9_2,hcz9_3,hfz9_0,hfz9_1,hfz9_2,hfz9_3⟩:=bz4 BK678.out) | ((with_reducible refine gate_callee (f:=51) rfl ?_);refine gl (some 14) Tryz.func51 #[.int .i64 a1] ?_;(with_reducible refine (rzForm.calls k a1 _ _ A3.out).mono ?_);rintro e w' ⟨rfl,⟨nd,rfl⟩⟩;refine ⟨_,rfl,?_⟩))
 (try simp only [Act.put,List.setIfInBounds_toArray,List.set_cons_zero,List.set_cons_succ]);go_cut [7] (fun v7 wc=>∃ (kq:Nat) (x7_3:Bool),v7=.bool x7_3∧Aside0 (rzreader_operands.j0 kq t679 x7_3 s0_0 s0_1 s0_2 s0_3 s0_4 s0_5 a1 0 0 0=some (r1,r2,r3,r4,r5,r6,r7,r8,r9,r10))∧Aside0 (kq≤k)∧Aside0 (wc.heap[gb677]?=some (.cells #[.int .i64 0,.int .i64 0,.int .i64 0,.int .i64 0] 23 (0,0)))∧Aside0 (wc.heap[gb678]?=some (.cells #[.int .i64 a1,.int .i64 0,.int .i64 0,.int .i64 0] 23 (0,0)))∧Aside0 (IsS117 w0 wc g s0_0 s0_1 s0_2 s0_3 s0_4 s0_5)∧Aside0 (KeepBut w wc g none)∧Aside0 (Below w0.heap.size w0 wc))
 case first =>
  have H:=HC4.out;clear HC4;by_cases c10:a1=19
  ·rw [if_pos c10] at H;obtain ⟨c10b0,c10b1⟩:=bqt c10;clear c10;(first | rw [c10b0] | (simp only [i64_w,i32_w];rw [c10b0]) | skip);have H':=Aside0.mk H;clear H;go_wp2;go_meet
   case rel=>exact ⟨_,(true),rsd,H',⟨by first | omega | exact Nat.le_refl _⟩,⟨bkf⟩,⟨by (with_reducible repeat (first | refine blk_drewN ?_ _ | refine blk_drew ?_ | refine blk_alloc ?_ _));refine blk_put (cs:=#[.int .i64 a1,.int .i64 0,.int .i64 0,.int .i64 0]) ?_ 3 _ rfl;refine blk_put (cs:=#[.int .i64 a1,.int .i64 0,.int .i64 0,.int .i64 0]) ?_ 2 _ rfl;refine blk_put (cs:=#[.int .i64 a1,.int .i64 0,.int .i64 0,.int .i64 0]) ?_ 1 _ rfl;refine blk_put (cs:=#[.int .i64 0,.int .i64 0,.int .i64 0,.int .i64 0]) ?_ 0 _ rfl;exact bko⟩,⟨ix⟩,⟨kx⟩,⟨bx⟩⟩
  ·rw [if_neg c10] at H;obtain ⟨c10b0,c10b1⟩:=bqf c10;(first | rw [c10b0] | (simp only [i64_w,i32_w];rw [c10b0]) | skip);have H':=Aside0.mk H;clear H;go_wp2;go_meet
   case rel=>exact ⟨_,((a1 == 20)),rsd,H',⟨by first | omega | exact Nat.le_refl _⟩,⟨bkf⟩,⟨by (with_reducible repeat (first | refine blk_drewN ?_ _ | refine blk_drew ?_ | refine blk_alloc ?_ _));refine blk_put (cs:=#[.int .i64 a1,.int .i64 0,.int .i64 0,.int .i64 0]) ?_ 3 _ rfl;refine blk_put (cs:=#[.int .i64 a1,.int .i64 0,.int .i64 0,.int .i64 0]) ?_ 2 _ rfl;refine blk_put (cs:=#[.int .i64 a1,.int .i64 0,.int .i64 0,.int .i64 0]) ?_ 1 _ rfl;refine blk_put (cs:=#[.int .i64 0,.int .i64 0,.int .i64 0,.int .i64 0]) ?_ 0 _ rfl;exact bko⟩,⟨ix⟩,⟨kx⟩,⟨bx⟩⟩
 case rest =>
  clear HC4;try clear hcz9_0
  try clear hcz9_1
  try clear hcz9_2
  try clear hcz9_3
  try clear hfz9_0
  try clear hfz9_1
  try clear hfz9_2
  try clear hfz9_3
  obtain ⟨kq,x7_3,rfl,HA,HJ3,BK677,BK678,HI0,HK,HB⟩:=hcut;cases kq with
  | zero=>exact absurd HA.out (by simp [rzreader_operands.j0])
  | succ kj3 =>
   have H:=HA.out;clear HA;simp only [rzreader_operands.j0] at H;have HC11:=Aside0.mk H;clear H;go_upto_if 21 with (fail)
   go_cut [] (fun wc=>∃ (kq:Nat) (x1000_10:ByteArray) (x1001_10:Int) (x1002_10:Bool) (x1003_10:Bool) (x1004_10:Bool) (x1005_10:ByteArray) (x679002_10:Int) (x679003_10:Int),Aside0 (rzreader_operands.j1 kq t679 x7_3 x1000_10 x1001_10 x1002_10 x1003_10 x1004_10 x1005_10 a1 0 x679002_10 x679003_10=some (r1,r2,r3,r4,r5,r6,r7,r8,r9,r10))∧Aside0 (kq≤kj3)∧Aside0 (wc.heap[gb677]?=some (.cells #[.int .i64 0,.int .i64 0,.int .i64 0,.int .i64 0] 23 (0,0)))∧Aside0 (wc.heap[gb678]?=some (.cells #[.int .i64 a1,.int .i64 0,.int .i64 x679002_10,.int .i64 x679003_10] 23 (0,0)))∧Aside0 (IsS117 w0 wc g x1000_10 x1001_10 x1002_10 x1003_10 x1004_10 x1005_10)∧Aside0 (KeepBut w wc g none)∧Aside0 (Below w0.heap.size w0 wc))
   case first =>
    have H:=HC11.out;clear HC11;by_cases c12:x7_3=true
    ·subst c12;rw [if_pos rfl] at H;obtain ⟨⟨t680,t681,t682,t683,t684,t685,t686,t687⟩,A13,H⟩:=bas H;(try dsimp only at H);obtain ⟨⟨t688,t689,t690,t691,t692,t693⟩,A14,H⟩:=bas H;(try dsimp only at H);have H':=Aside0.mk H;clear H;go_wp2_with (first | ((with_reducible refine gate_callee (f:=135) rfl ?_);refine gl (some 24) Tryz.func135 #[.pointer (some ⟨g,0,none⟩),.bool false] ?_;(with_reducible refine (rzreader_address.calls kj3 g _ _ _ _ _ _ false _ _ _ _ _ _ _ _ w0 _ ?side1 ?side2 A13.out).mono ?_);(case side1=>exact ix);(case side2=>exact bx);rintro e w15 ⟨rfl,hi,hb,hk⟩;refine ⟨_,rfl,?_⟩;replace BK677:=kbk hk bko NB677_0.out;replace BK678:=kbk hk bko NB678_0.out;replace HK:=ktr (w:=w) kx hk;replace HB:=Aside0.mk hb;replace HI0:=Aside0.mk hi;clear hi hb hk;have:=NB678_677.out;have:=NB677_678.out;have:=NB678_0.out;have:=NB0_678.out;obtain ⟨_,_,_,_,_,_,_,_⟩:=bz4 BK678.out) | ((with_reducible refine gate_callee (f:=136) rfl ?_);refine gl (some 30) Tryz.func136 #[.pointer (some ⟨g,0,none⟩)] ?_;(with_reducible refine (rzreader_comma.calls kj3 g _ _ _ _ _ _ _ _ _ _ _ _ w0 _ ?side1 ?side2 A14.out).mono ?_);(case side1=>exact ix);(case side2=>exact bx);rintro e w19 ⟨rfl,hi,hb,hk⟩;refine ⟨_,rfl,?_⟩;replace BK677:=kbk hk (o:=.cells #[.int .i64 0,.int .i64 0,.int .i64 0,.int .i64 0] 23 (0,0)) bkf NB677_0.out;replace BK678:=kbk hk (o:=.cells #[.int .i64 a1,.int .i64 0,.int .i64 t680,.int .i64 t681] 23 (0,0)) (by (with_reducible repeat (first | refine blk_drewN ?_ _ | refine blk_drew ?_ | refine blk_alloc ?_ _));refine blk_put (cs:=#[.int .i64 a1,.int .i64 0,.int .i64 t680,.int .i64 0]) ?_ 3 _ rfl;refine blk_put (cs:=#[.int .i64 a1,.int .i64 0,.int .i64 0,.int .i64 0]) ?_ 2 _ rfl;exact bko) NB678_0.out;replace HK:=ktr (w:=w) kx hk;replace HB:=Aside0.mk hb;replace HI0:=Aside0.mk hi;clear hi hb hk))
     go_meet
     case rel=>exact ⟨_,(t688),(t689),(t690),(t691),(t692),(t693),(t680),(t681),H',⟨by have:=HJ3.out;first | omega | exact Nat.le_refl _⟩,⟨bko⟩,⟨bko⟩,⟨ix⟩,⟨kx⟩,⟨bx⟩⟩
    ·replace c12:=Bool.eq_false_iff.mpr c12;subst c12;rw [if_neg (show ¬ (false=true) by decide)] at H;have H':=Aside0.mk H;clear H;go_wp2;go_meet
     case rel=>exact ⟨_,(s0_0),(s0_1),(s0_2),(s0_3),(s0_4),(s0_5),(0),(0),H',⟨by have:=HJ3.out;first | omega | exact Nat.le_refl _⟩,⟨bko⟩,⟨bko⟩,⟨ix⟩,⟨kx⟩,⟨bx⟩⟩
   case rest =>
    clear HC11;obtain ⟨kq,x1000_10,x1001_10,x1002_10,x1003_10,x1004_10,x1005_10,x679002_10,x679003_10,HA,HJ10,BK677,BK678,HI0,HK,HB⟩:=hcut;cases kq with
    | zero=>exact absurd HA.out (by simp [rzreader_operands.j1])
    | succ kj10 =>
     have H:=HA.out;clear HA;simp only [rzreader_operands.j1] at H;obtain ⟨⟨t694,t695,t696⟩,A20,H⟩:=bas H;(try dsimp only at H);have HC21:=Aside0.mk H;clear H;go_upto_if 37 with (first | ((with_reducible refine gate_callee (f:=53) rfl ?_);refine gl (some 33) Tryz.func53 #[.int .i64 t679] ?_;(with_reducible refine (rzOperands.calls kj10 _ _ _ _ _ A20.out).mono ?_);rintro e w' ⟨rfl,⟨nd,rfl⟩⟩;refine ⟨_,rfl,?_⟩))
     (try simp only [Act.put,List.setIfInBounds_toArray,List.set_cons_zero,List.set_cons_succ]);go_cut [] (fun wc=>∃ (kq:Nat) (x1000_20:ByteArray) (x1001_20:Int) (x1002_20:Bool) (x1003_20:Bool) (x1004_20:Bool) (x1005_20:ByteArray) (x679001_20:Int),Aside0 (rzreader_operands.j2 kq t679 x7_3 t694 x1000_20 x1001_20 x1002_20 x1003_20 x1004_20 x1005_20 a1 x679001_20 x679002_10 x679003_10=some (r1,r2,r3,r4,r5,r6,r7,r8,r9,r10))∧Aside0 (kq≤kj10)∧Aside0 (wc.heap[gb677]?=some (.cells #[.int .i64 0,.int .i64 0,.int .i64 0,.int .i64 0] 23 (0,0)))∧Aside0 (wc.heap[gb678]?=some (.cells #[.int .i64 a1,.int .i64 x679001_20,.int .i64 x679002_10,.int .i64 x679003_10] 23 (0,0)))∧Aside0 (IsS117 w0 wc g x1000_20 x1001_20 x1002_20 x1003_20 x1004_20 x1005_20)∧Aside0 (KeepBut w wc g none)∧Aside0 (Below w0.heap.size w0 wc))
     case first =>
      have H:=HC21.out;clear HC21;by_cases c22:t694=true
      ·subst c22;rw [if_pos rfl] at H;obtain ⟨⟨t697,t698,t699,t700,t701,t702,t703⟩,A23,H⟩:=bas H;(try dsimp only at H);have H':=Aside0.mk H;clear H;go_wp2_with (first | ((with_reducible refine gate_callee (f:=137) rfl ?_);refine gl (some 39) Tryz.func137 #[.pointer (some ⟨g,0,none⟩)] ?_;(with_reducible refine (rzreader_register.calls kj10 g _ _ _ _ _ _ _ _ _ _ _ _ _ w0 _ ?side1 ?side2 A23.out).mono ?_);(case side1=>exact ix);(case side2=>exact bx);rintro e w24 ⟨rfl,hi,hb,hk⟩;refine ⟨_,rfl,?_⟩;replace BK677:=kbk hk bko NB677_0.out;replace BK678:=kbk hk bko NB678_0.out;replace HK:=ktr (w:=w) kx hk;replace HB:=Aside0.mk hb;replace HI0:=Aside0.mk hi;clear hi hb hk;have:=NB678_677.out;have:=NB677_678.out;have:=NB678_0.out;have:=NB0_678.out;obtain ⟨_,_,_,_,_,_,_,_⟩:=bz4 BK678.out))
       go_meet
       case rel=>exact ⟨_,(t698),(t699),(t700),(t701),(t702),(t703),(t697),H',⟨by have:=HJ3.out;have:=HJ10.out;first | omega | exact Nat.le_refl _⟩,⟨bkf⟩,⟨by (with_reducible repeat (first | refine blk_drewN ?_ _ | refine blk_drew ?_ | refine blk_alloc ?_ _));refine blk_put (cs:=#[.int .i64 a1,.int .i64 0,.int .i64 x679002_10,.int .i64 x679003_10]) ?_ 1 _ rfl;exact bko⟩,⟨ix⟩,⟨kx⟩,⟨bx⟩⟩
      ·replace c22:=Bool.eq_false_iff.mpr c22;subst c22;rw [if_neg (show ¬ (false=true) by decide)] at H;have H':=Aside0.mk H;clear H;go_wp2;go_meet
       case rel=>exact ⟨_,(x1000_10),(x1001_10),(x1002_10),(x1003_10),(x1004_10),(x1005_10),(0),H',⟨by have:=HJ3.out;have:=HJ10.out;first | omega | exact Nat.le_refl _⟩,⟨bko⟩,⟨bko⟩,⟨ix⟩,⟨kx⟩,⟨bx⟩⟩
     case rest =>
      clear HC21;obtain ⟨kq,x1000_20,x1001_20,x1002_20,x1003_20,x1004_20,x1005_20,x679001_20,HA,HJ20,BK677,BK678,HI0,HK,HB⟩:=hcut;cases kq with
      | zero=>exact absurd HA.out (by simp [rzreader_operands.j2])
      | succ kj20 =>
       have H:=HA.out;clear HA;simp only [rzreader_operands.j2] at H;have HC28:=Aside0.mk H;clear H;go_upto_region 10 with (fail)
       go_cut [49] (fun v49 wc=>∃ (kq:Nat) (x49_27:Bool),v49=.bool x49_27∧Aside0 (rzreader_operands.j3 kq t679 x7_3 x49_27 x1000_20 x1001_20 x1002_20 x1003_20 x1004_20 x1005_20 a1 x679001_20 x679002_10 x679003_10=some (r1,r2,r3,r4,r5,r6,r7,r8,r9,r10))∧Aside0 (kq≤kj20)∧Aside0 (wc.heap[gb677]?=some (.cells #[.int .i64 0,.int .i64 0,.int .i64 0,.int .i64 0] 23 (0,0)))∧Aside0 (wc.heap[gb678]?=some (.cells #[.int .i64 a1,.int .i64 x679001_20,.int .i64 x679002_10,.int .i64 x679003_10] 23 (0,0)))∧Aside0 (IsS117 w0 wc g x1000_20 x1001_20 x1002_20 x1003_20 x1004_20 x1005_20)∧Aside0 (KeepBut w wc g none)∧Aside0 (Below w0.heap.size w0 wc))
       case first =>
        have H:=HC28.out;clear HC28;by_cases c29:t694=true
        ·subst c29;rw [if_pos rfl] at H;by_cases c30:t679=8
         ·rw [if_pos c30] at H;obtain ⟨c30b0,c30b1⟩:=bqt c30;clear c30;(first | rw [c30b0] | (simp only [i64_w,i32_w];rw [c30b0]) | skip);have H':=Aside0.mk H;clear H;go_wp2;go_meet
          case rel=>exact ⟨_,(false),rsd,H',⟨by have:=HJ3.out;have:=HJ10.out;have:=HJ20.out;first | omega | exact Nat.le_refl _⟩,⟨bko⟩,⟨bko⟩,⟨ix⟩,⟨kx⟩,⟨bx⟩⟩
         ·rw [if_neg c30] at H;obtain ⟨c30b0,c30b1⟩:=bqf c30;(first | rw [c30b0] | (simp only [i64_w,i32_w];rw [c30b0]) | skip);have H':=Aside0.mk H;clear H;go_wp2;go_meet
          case rel=>exact ⟨_,(!x7_3),rsd,H',⟨by have:=HJ3.out;have:=HJ10.out;have:=HJ20.out;first | omega | exact Nat.le_refl _⟩,⟨bko⟩,⟨bko⟩,⟨ix⟩,⟨kx⟩,⟨bx⟩⟩
        ·replace c29:=Bool.eq_false_iff.mpr c29;subst c29;rw [if_neg (show ¬ (false=true) by decide)] at H;have H':=Aside0.mk H;clear H;go_wp2;go_meet
         case rel=>exact ⟨_,(false),rsd,H',⟨by have:=HJ3.out;have:=HJ10.out;have:=HJ20.out;first | omega | exact Nat.le_refl _⟩,⟨bko⟩,⟨bko⟩,⟨ix⟩,⟨kx⟩,⟨bx⟩⟩
       case rest =>
        clear HC28;obtain ⟨kq,x49_27,rfl,HA,HJ27,BK677,BK678,HI0,HK,HB⟩:=hcut;cases kq with
        | zero=>exact absurd HA.out (by simp [rzreader_operands.j3])
        | succ kj27 =>
         have H:=HA.out;clear HA;simp only [rzreader_operands.j3] at H;have HC31:=Aside0.mk H;clear H;go_upto_if 49 with (fail)
         go_cut [] (fun wc=>∃ (kq:Nat) (x1000_30:ByteArray) (x1001_30:Int) (x1002_30:Bool) (x1003_30:Bool) (x1004_30:Bool) (x1005_30:ByteArray),Aside0 (rzreader_operands.j4 kq t679 x7_3 x1000_30 x1001_30 x1002_30 x1003_30 x1004_30 x1005_30 a1 x679001_20 x679002_10 x679003_10=some (r1,r2,r3,r4,r5,r6,r7,r8,r9,r10))∧Aside0 (kq≤kj27)∧Aside0 (wc.heap[gb677]?=some (.cells #[.int .i64 0,.int .i64 0,.int .i64 0,.int .i64 0] 23 (0,0)))∧Aside0 (wc.heap[gb678]?=some (.cells #[.int .i64 a1,.int .i64 x679001_20,.int .i64 x679002_10,.int .i64 x679003_10] 23 (0,0)))∧Aside0 (IsS117 w0 wc g x1000_30 x1001_30 x1002_30 x1003_30 x1004_30 x1005_30)∧Aside0 (KeepBut w wc g none)∧Aside0 (Below w0.heap.size w0 wc))
         case first =>
          have H:=HC31.out;clear HC31;by_cases c32:x49_27=true
          ·subst c32;rw [if_pos rfl] at H;obtain ⟨⟨t704,t705,t706,t707,t708,t709⟩,A33,H⟩:=bas H;(try dsimp only at H);have H':=Aside0.mk H;clear H;go_wp2_with (first | ((with_reducible refine gate_callee (f:=136) rfl ?_);refine gl (some 51) Tryz.func136 #[.pointer (some ⟨g,0,none⟩)] ?_;(with_reducible refine (rzreader_comma.calls kj27 g _ _ _ _ _ _ _ _ _ _ _ _ w0 _ ?side1 ?side2 A33.out).mono ?_);(case side1=>exact ix);(case side2=>exact bx);rintro e w34 ⟨rfl,hi,hb,hk⟩;refine ⟨_,rfl,?_⟩;replace BK677:=kbk hk bko NB677_0.out;replace BK678:=kbk hk bko NB678_0.out;replace HK:=ktr (w:=w) kx hk;replace HB:=Aside0.mk hb;replace HI0:=Aside0.mk hi;clear hi hb hk))
           go_meet
           case rel=>exact ⟨_,(t704),(t705),(t706),(t707),(t708),(t709),H',⟨by have:=HJ3.out;have:=HJ10.out;have:=HJ20.out;have:=HJ27.out;first | omega | exact Nat.le_refl _⟩,⟨bko⟩,⟨bko⟩,⟨ix⟩,⟨kx⟩,⟨bx⟩⟩
          ·replace c32:=Bool.eq_false_iff.mpr c32;subst c32;rw [if_neg (show ¬ (false=true) by decide)] at H;have H':=Aside0.mk H;clear H;go_wp2;go_meet
           case rel=>exact ⟨_,(x1000_20),(x1001_20),(x1002_20),(x1003_20),(x1004_20),(x1005_20),H',⟨by have:=HJ3.out;have:=HJ10.out;have:=HJ20.out;have:=HJ27.out;first | omega | exact Nat.le_refl _⟩,⟨bko⟩,⟨bko⟩,⟨ix⟩,⟨kx⟩,⟨bx⟩⟩
         case rest =>
          clear HC31;obtain ⟨kq,x1000_30,x1001_30,x1002_30,x1003_30,x1004_30,x1005_30,HA,HJ30,BK677,BK678,HI0,HK,HB⟩:=hcut;cases kq with
          | zero=>exact absurd HA.out (by simp [rzreader_operands.j4])
          | succ kj30 =>
           have H:=HA.out;clear HA;simp only [rzreader_operands.j4] at H;have HC35:=Aside0.mk H;clear H;go_upto_block 0 with (fail)
           go_cut [] (fun wc=>∃ (kq:Nat) (x1000_34:ByteArray) (x1001_34:Int) (x1002_34:Bool) (x1003_34:Bool) (x1004_34:Bool) (x1005_34:ByteArray) (x679002_34:Int) (x679003_34:Int),Aside0 (rzreader_operands.j7 kq t679 x1000_34 x1001_34 x1002_34 x1003_34 x1004_34 x1005_34 a1 x679001_20 x679002_34 x679003_34=some (r1,r2,r3,r4,r5,r6,r7,r8,r9,r10))∧Aside0 (kq≤kj30)∧Aside0 (wc.heap[gb677]?=some (.cells #[.int .i64 0,.int .i64 0,.int .i64 0,.int .i64 0] 23 (0,0)))∧Aside0 (wc.heap[gb678]?=some (.cells #[.int .i64 a1,.int .i64 x679001_20,.int .i64 x679002_34,.int .i64 x679003_34] 23 (0,0)))∧Aside0 (IsS117 w0 wc g x1000_34 x1001_34 x1002_34 x1003_34 x1004_34 x1005_34)∧Aside0 (KeepBut w wc g none)∧Aside0 (Below w0.heap.size w0 wc))
           case first =>
            have H:=HC35.out;clear HC35;by_cases c36:t679=2
            ·rw [if_pos c36] at H;obtain ⟨c36b0,c36b1⟩:=bqt c36;clear c36;(first | rw [c36b0] | (simp only [i64_w,i32_w];rw [c36b0]) | skip);obtain ⟨⟨t710,t711,t712,t713,t714,t715,t716⟩,A37,H⟩:=bas H;(try dsimp only at H);have H':=Aside0.mk H;clear H;go_wp2_with (first | ((with_reducible refine gate_callee (f:=137) rfl ?_);refine gl (some 56) Tryz.func137 #[.pointer (some ⟨g,0,none⟩)] ?_;(with_reducible refine (rzreader_register.calls kj30 g _ _ _ _ _ _ _ _ _ _ _ _ _ w0 _ ?side1 ?side2 A37.out).mono ?_);(case side1=>exact ix);(case side2=>exact bx);rintro e w38 ⟨rfl,hi,hb,hk⟩;refine ⟨_,rfl,?_⟩;replace BK677:=kbk hk bko NB677_0.out;replace BK678:=kbk hk bko NB678_0.out;replace HK:=ktr (w:=w) kx hk;replace HB:=Aside0.mk hb;replace HI0:=Aside0.mk hi;clear hi hb hk;have:=NB678_677.out;have:=NB677_678.out;have:=NB678_0.out;have:=NB0_678.out;obtain ⟨_,_,_,_,_,_,_,_⟩:=bz4 BK678.out))
             go_meet
             case rel=>exact ⟨_,(t711),(t712),(t713),(t714),(t715),(t716),(t710),(x679003_10),H',⟨by have:=HJ3.out;have:=HJ10.out;have:=HJ20.out;have:=HJ27.out;have:=HJ30.out;first | omega | exact Nat.le_refl _⟩,⟨bkf⟩,⟨by (with_reducible repeat (first | refine blk_drewN ?_ _ | refine blk_drew ?_ | refine blk_alloc ?_ _));refine blk_put (cs:=#[.int .i64 a1,.int .i64 x679001_20,.int .i64 x679002_10,.int .i64 x679003_10]) ?_ 2 _ rfl;exact bko⟩,⟨ix⟩,⟨kx⟩,⟨bx⟩⟩
            ·rw [if_neg c36] at H;obtain ⟨c36b0,c36b1⟩:=bqf c36;(first | rw [c36b0] | (simp only [i64_w,i32_w];rw [c36b0]) | skip);have HC42:=Aside0.mk H;clear H;go_upto_if 58 with (fail)
             go_cut [58] (fun v58 wc=>∃ (kq:Nat) (x58_41:Bool),v58=.bool x58_41∧Aside0 (rzreader_operands.j5 kq t679 x7_3 t679 x58_41 x1000_30 x1001_30 x1002_30 x1003_30 x1004_30 x1005_30 a1 x679001_20 x679002_10 x679003_10=some (r1,r2,r3,r4,r5,r6,r7,r8,r9,r10))∧Aside0 (kq≤kj30)∧Aside0 (wc.heap[gb677]?=some (.cells #[.int .i64 0,.int .i64 0,.int .i64 0,.int .i64 0] 23 (0,0)))∧Aside0 (wc.heap[gb678]?=some (.cells #[.int .i64 a1,.int .i64 x679001_20,.int .i64 x679002_10,.int .i64 x679003_10] 23 (0,0)))∧Aside0 (IsS117 w0 wc g x1000_30 x1001_30 x1002_30 x1003_30 x1004_30 x1005_30)∧Aside0 (KeepBut w wc g none)∧Aside0 (Below w0.heap.size w0 wc))
             case first =>
              have H:=HC42.out;clear HC42;by_cases c43:t679=3
              ·rw [if_pos c43] at H;obtain ⟨c43b0,c43b1⟩:=bqt c43;clear c43;(first | rw [c43b0] | (simp only [i64_w,i32_w];rw [c43b0]) | skip);have H':=Aside0.mk H;clear H;go_wp2;go_meet
               case rel=>exact ⟨_,((t679 == 3)),rsd,H',⟨by have:=HJ3.out;have:=HJ10.out;have:=HJ20.out;have:=HJ27.out;have:=HJ30.out;first | omega | exact Nat.le_refl _⟩,⟨bko⟩,⟨bko⟩,⟨ix⟩,⟨kx⟩,⟨bx⟩⟩
              ·rw [if_neg c43] at H;obtain ⟨c43b0,c43b1⟩:=bqf c43;(first | rw [c43b0] | (simp only [i64_w,i32_w];rw [c43b0]) | skip);by_cases c44:t679=4
               ·rw [if_pos c44] at H;obtain ⟨c44b0,c44b1⟩:=bqt c44;clear c44;have H':=Aside0.mk H;clear H;go_wp2;go_meet
                case rel=>exact ⟨_,((t679 == 4)),rsd,H',⟨by have:=HJ3.out;have:=HJ10.out;have:=HJ20.out;have:=HJ27.out;have:=HJ30.out;first | omega | exact Nat.le_refl _⟩,⟨bko⟩,⟨bko⟩,⟨ix⟩,⟨kx⟩,⟨bx⟩⟩
               ·rw [if_neg c44] at H;obtain ⟨c44b0,c44b1⟩:=bqf c44;have H':=Aside0.mk H;clear H;go_wp2;go_meet
                case rel=>exact ⟨_,((t679 == 10)),rsd,H',⟨by have:=HJ3.out;have:=HJ10.out;have:=HJ20.out;have:=HJ27.out;have:=HJ30.out;first | omega | exact Nat.le_refl _⟩,⟨bko⟩,⟨bko⟩,⟨ix⟩,⟨kx⟩,⟨bx⟩⟩
             case rest =>
              clear HC42;try clear c36
              try clear c36b0
              try clear c36b1
              obtain ⟨kq,x58_41,rfl,HA,HJ41,BK677,BK678,HI0,HK,HB⟩:=hcut;cases kq with
              | zero=>exact absurd HA.out (by simp [rzreader_operands.j5])
              | succ kj41 =>
               have H:=HA.out;clear HA;simp only [rzreader_operands.j5] at H;by_cases c45:x58_41=true
               ·subst c45;rw [if_pos rfl] at H;obtain ⟨⟨t717,t718,t719,t720,t721,t722,t723⟩,A46,H⟩:=bas H;(try dsimp only at H);have H':=Aside0.mk H;clear H;go_wp2_with (first | ((with_reducible refine gate_callee (f:=138) rfl ?_);refine gl (some 63) Tryz.func138 #[.pointer (some ⟨g,0,none⟩)] ?_;(with_reducible refine (rzreader_number.calls kj41 g _ _ _ _ _ _ _ _ _ _ _ _ _ w0 _ ?side1 ?side2 A46.out).mono ?_);(case side1=>exact ix);(case side2=>exact bx);rintro e w47 ⟨rfl,hi,hb,hk⟩;refine ⟨_,rfl,?_⟩;replace BK677:=kbk hk bko NB677_0.out;replace BK678:=kbk hk bko NB678_0.out;replace HK:=ktr (w:=w) kx hk;replace HB:=Aside0.mk hb;replace HI0:=Aside0.mk hi;clear hi hb hk;have:=NB678_677.out;have:=NB677_678.out;have:=NB678_0.out;have:=NB0_678.out;obtain ⟨_,_,_,_,_,_,_,_⟩:=bz4 BK678.out))
                go_meet
                case rel=>exact ⟨_,(t718),(t719),(t720),(t721),(t722),(t723),(x679002_10),(t717),H',⟨by have:=HJ3.out;have:=HJ10.out;have:=HJ20.out;have:=HJ27.out;have:=HJ30.out;have:=HJ41.out;first | omega | exact Nat.le_refl _⟩,⟨bkf⟩,⟨by (with_reducible repeat (first | refine blk_drewN ?_ _ | refine blk_drew ?_ | refine blk_alloc ?_ _));refine blk_put (cs:=#[.int .i64 a1,.int .i64 x679001_20,.int .i64 x679002_10,.int .i64 x679003_10]) ?_ 3 _ rfl;exact bko⟩,⟨ix⟩,⟨kx⟩,⟨bx⟩⟩
               ·replace c45:=Bool.eq_false_iff.mpr c45;subst c45;rw [if_neg (show ¬ (false=true) by decide)] at H;by_cases c51:t679=5
                ·rw [if_pos c51] at H;obtain ⟨c51b0,c51b1⟩:=bqt c51;clear c51;by_cases c52:x7_3=true
                 ·subst c52;rw [if_pos rfl] at H;have H':=Aside0.mk H;clear H;go_wp2;go_meet
                  case rel=>exact ⟨_,(x1000_30),(x1001_30),(x1002_30),(x1003_30),(x1004_30),(x1005_30),(x679002_10),(x679003_10),H',⟨by have:=HJ3.out;have:=HJ10.out;have:=HJ20.out;have:=HJ27.out;have:=HJ30.out;have:=HJ41.out;first | omega | exact Nat.le_refl _⟩,⟨bko⟩,⟨bko⟩,⟨ix⟩,⟨kx⟩,⟨bx⟩⟩
                 ·replace c52:=Bool.eq_false_iff.mpr c52;subst c52;rw [if_neg (show ¬ (false=true) by decide)] at H;obtain ⟨⟨t724,t725,t726,t727,t728,t729,t730,t731⟩,A53,H⟩:=bas H;(try dsimp only at H);have H':=Aside0.mk H;clear H;go_wp2_with (first | ((with_reducible refine gate_callee (f:=135) rfl ?_);refine gl (some 71) Tryz.func135 #[.pointer (some ⟨g,0,none⟩),.bool false] ?_;(with_reducible refine (rzreader_address.calls kj41 g _ _ _ _ _ _ false _ _ _ _ _ _ _ _ w0 _ ?side1 ?side2 A53.out).mono ?_);(case side1=>exact ix);(case side2=>exact bx);rintro e w54 ⟨rfl,hi,hb,hk⟩;refine ⟨_,rfl,?_⟩;replace BK677:=kbk hk bko NB677_0.out;replace BK678:=kbk hk bko NB678_0.out;replace HK:=ktr (w:=w) kx hk;replace HB:=Aside0.mk hb;replace HI0:=Aside0.mk hi;clear hi hb hk;have:=NB678_677.out;have:=NB677_678.out;have:=NB678_0.out;have:=NB0_678.out;obtain ⟨_,_,_,_,_,_,_,_⟩:=bz4 BK678.out))
                  go_meet
                  case rel=>exact ⟨_,(t726),(t727),(t728),(t729),(t730),(t731),(t724),(t725),H',⟨by have:=HJ3.out;have:=HJ10.out;have:=HJ20.out;have:=HJ27.out;have:=HJ30.out;have:=HJ41.out;first | omega | exact Nat.le_refl _⟩,⟨bkf⟩,⟨by (with_reducible repeat (first | refine blk_drewN ?_ _ | refine blk_drew ?_ | refine blk_alloc ?_ _));refine blk_put (cs:=#[.int .i64 a1,.int .i64 x679001_20,.int .i64 t724,.int .i64 x679003_10]) ?_ 3 _ rfl;refine blk_put (cs:=#[.int .i64 a1,.int .i64 x679001_20,.int .i64 x679002_10,.int .i64 x679003_10]) ?_ 2 _ rfl;exact bko⟩,⟨ix⟩,⟨kx⟩,⟨bx⟩⟩
                ·rw [if_neg c51] at H;obtain ⟨c51b0,c51b1⟩:=bqf c51;by_cases c58:t679=6
                 ·rw [if_pos c58] at H;obtain ⟨c58b0,c58b1⟩:=bqt c58;clear c58;obtain ⟨⟨t732,t733,t734,t735,t736,t737,t738⟩,A59,H⟩:=bas H;(try dsimp only at H);obtain ⟨⟨t739,t740,t741,t742,t743,t744⟩,A60,H⟩:=bas H;(try dsimp only at H);obtain ⟨⟨t745,t746,t747,t748,t749,t750,t751⟩,A61,H⟩:=bas H;(try dsimp only at H);have H':=Aside0.mk H;clear H;go_wp2_with (first | ((with_reducible refine gate_callee (f:=137) rfl ?_);refine gl (some 79) Tryz.func137 #[.pointer (some ⟨g,0,none⟩)] ?_;(with_reducible refine (rzreader_register.calls kj41 g _ _ _ _ _ _ _ _ _ _ _ _ _ w0 _ ?side1 ?side2 A59.out).mono ?_);(case side1=>exact ix);(case side2=>exact bx);rintro e w62 ⟨rfl,hi,hb,hk⟩;refine ⟨_,rfl,?_⟩;replace BK677:=kbk hk bko NB677_0.out;replace BK678:=kbk hk bko NB678_0.out;replace HK:=ktr (w:=w) kx hk;replace HB:=Aside0.mk hb;replace HI0:=Aside0.mk hi;clear hi hb hk;have:=NB678_677.out;have:=NB677_678.out;have:=NB678_0.out;have:=NB0_678.out;obtain ⟨_,_,_,_,_,_,_,_⟩:=bz4 BK678.out) | ((with_reducible refine gate_callee (f:=136) rfl ?_);refine gl (some 82) Tryz.func136 #[.pointer (some ⟨g,0,none⟩)] ?_;(with_reducible refine (rzreader_comma.calls kj41 g _ _ _ _ _ _ _ _ _ _ _ _ w0 _ ?side1 ?side2 A60.out).mono ?_);(case side1=>exact ix);(case side2=>exact bx);rintro e w66 ⟨rfl,hi,hb,hk⟩;refine ⟨_,rfl,?_⟩;replace BK677:=kbk hk (o:=.cells #[.int .i64 0,.int .i64 0,.int .i64 0,.int .i64 0] 23 (0,0)) bkf NB677_0.out;replace BK678:=kbk hk (o:=.cells #[.int .i64 a1,.int .i64 x679001_20,.int .i64 t732,.int .i64 x679003_10] 23 (0,0)) (by (with_reducible repeat (first | refine blk_drewN ?_ _ | refine blk_drew ?_ | refine blk_alloc ?_ _));refine blk_put (cs:=#[.int .i64 a1,.int .i64 x679001_20,.int .i64 x679002_10,.int .i64 x679003_10]) ?_ 2 _ rfl;exact bko) NB678_0.out;replace HK:=ktr (w:=w) kx hk;replace HB:=Aside0.mk hb;replace HI0:=Aside0.mk hi;clear hi hb hk) | ((with_reducible refine gate_callee (f:=139) rfl ?_);refine gl (some 85) Tryz.func139 #[.pointer (some ⟨g,0,none⟩),.int .i64 t679] ?_;(with_reducible refine (rzreader_target.calls kj41 g _ _ _ _ _ _ _ _ _ _ _ _ _ _ w0 _ ?side1 ?side2 A61.out).mono ?_);(case side1=>exact ix);(case side2=>exact bx);rintro e w67 ⟨rfl,hi,hb,hk⟩;refine ⟨_,rfl,?_⟩;replace BK677:=kbk hk bko NB677_0.out;replace BK678:=kbk hk bko NB678_0.out;replace HK:=ktr (w:=w) kx hk;replace HB:=Aside0.mk hb;replace HI0:=Aside0.mk hi;clear hi hb hk;obtain ⟨_,_,_,_,_,_,_,_⟩:=bz4 BK678.out))
                  go_meet
                  case rel=>exact ⟨_,(t746),(t747),(t748),(t749),(t750),(t751),(t732),(t745),H',⟨by have:=HJ3.out;have:=HJ10.out;have:=HJ20.out;have:=HJ27.out;have:=HJ30.out;have:=HJ41.out;first | omega | exact Nat.le_refl _⟩,⟨bkf⟩,⟨by (with_reducible repeat (first | refine blk_drewN ?_ _ | refine blk_drew ?_ | refine blk_alloc ?_ _));refine blk_put (cs:=#[.int .i64 a1,.int .i64 x679001_20,.int .i64 t732,.int .i64 x679003_10]) ?_ 3 _ rfl;exact bko⟩,⟨ix⟩,⟨kx⟩,⟨bx⟩⟩
                 ·rw [if_neg c58] at H;obtain ⟨c58b0,c58b1⟩:=bqf c58;have HC69:=Aside0.mk H;clear H;go_upto_if 87 with (fail)
                  go_cut [87] (fun v87 wc=>∃ (kq:Nat) (x87_68:Bool),v87=.bool x87_68∧Aside0 (rzreader_operands.j6 kq t679 t679 x87_68 x1000_30 x1001_30 x1002_30 x1003_30 x1004_30 x1005_30 a1 x679001_20 x679002_10 x679003_10=some (r1,r2,r3,r4,r5,r6,r7,r8,r9,r10))∧Aside0 (kq≤kj41)∧Aside0 (wc.heap[gb677]?=some (.cells #[.int .i64 0,.int .i64 0,.int .i64 0,.int .i64 0] 23 (0,0)))∧Aside0 (wc.heap[gb678]?=some (.cells #[.int .i64 a1,.int .i64 x679001_20,.int .i64 x679002_10,.int .i64 x679003_10] 23 (0,0)))∧Aside0 (IsS117 w0 wc g x1000_30 x1001_30 x1002_30 x1003_30 x1004_30 x1005_30)∧Aside0 (KeepBut w wc g none)∧Aside0 (Below w0.heap.size w0 wc))
                  case first =>
                   have H:=HC69.out;clear HC69;by_cases c70:t679=7
                   ·rw [if_pos c70] at H;obtain ⟨c70b0,c70b1⟩:=bqt c70;clear c70;(first | rw [c70b0] | (simp only [i64_w,i32_w];rw [c70b0]) | skip);have H':=Aside0.mk H;clear H;go_wp2;go_meet
                    case rel=>exact ⟨_,((t679 == 7)),rsd,H',⟨by have:=HJ3.out;have:=HJ10.out;have:=HJ20.out;have:=HJ27.out;have:=HJ30.out;have:=HJ41.out;first | omega | exact Nat.le_refl _⟩,⟨bko⟩,⟨bko⟩,⟨ix⟩,⟨kx⟩,⟨bx⟩⟩
                   ·rw [if_neg c70] at H;obtain ⟨c70b0,c70b1⟩:=bqf c70;(first | rw [c70b0] | (simp only [i64_w,i32_w];rw [c70b0]) | skip);have H':=Aside0.mk H;clear H;go_wp2;go_meet
                    case rel=>exact ⟨_,((t679 == 9)),rsd,H',⟨by have:=HJ3.out;have:=HJ10.out;have:=HJ20.out;have:=HJ27.out;have:=HJ30.out;have:=HJ41.out;first | omega | exact Nat.le_refl _⟩,⟨bko⟩,⟨bko⟩,⟨ix⟩,⟨kx⟩,⟨bx⟩⟩
                  case rest =>
                   clear HC69;try clear c45
                   try clear c51
                   try clear c51b0
                   try clear c51b1
                   try clear c58
                   try clear c58b0
                   try clear c58b1
                   obtain ⟨kq,x87_68,rfl,HA,HJ68,BK677,BK678,HI0,HK,HB⟩:=hcut;cases kq with
                   | zero=>exact absurd HA.out (by simp [rzreader_operands.j6])
                   | succ kj68 =>
                    have H:=HA.out;clear HA;simp only [rzreader_operands.j6] at H;by_cases c71:x87_68=true
                    ·subst c71;rw [if_pos rfl] at H;obtain ⟨⟨t752,t753,t754,t755,t756,t757,t758⟩,A72,H⟩:=bas H;(try dsimp only at H);have H':=Aside0.mk H;clear H;go_wp2_with (first | ((with_reducible refine gate_callee (f:=139) rfl ?_);refine gl (some 92) Tryz.func139 #[.pointer (some ⟨g,0,none⟩),.int .i64 t679] ?_;(with_reducible refine (rzreader_target.calls kj68 g _ _ _ _ _ _ _ _ _ _ _ _ _ _ w0 _ ?side1 ?side2 A72.out).mono ?_);(case side1=>exact ix);(case side2=>exact bx);rintro e w73 ⟨rfl,hi,hb,hk⟩;refine ⟨_,rfl,?_⟩;replace BK677:=kbk hk bko NB677_0.out;replace BK678:=kbk hk bko NB678_0.out;replace HK:=ktr (w:=w) kx hk;replace HB:=Aside0.mk hb;replace HI0:=Aside0.mk hi;clear hi hb hk;have:=NB678_677.out;have:=NB677_678.out;have:=NB678_0.out;have:=NB0_678.out;obtain ⟨_,_,_,_,_,_,_,_⟩:=bz4 BK678.out))
                     go_meet
                     case rel=>exact ⟨_,(t753),(t754),(t755),(t756),(t757),(t758),(x679002_10),(t752),H',⟨by have:=HJ3.out;have:=HJ10.out;have:=HJ20.out;have:=HJ27.out;have:=HJ30.out;have:=HJ41.out;have:=HJ68.out;first | omega | exact Nat.le_refl _⟩,⟨bkf⟩,⟨by (with_reducible repeat (first | refine blk_drewN ?_ _ | refine blk_drew ?_ | refine blk_alloc ?_ _));refine blk_put (cs:=#[.int .i64 a1,.int .i64 x679001_20,.int .i64 x679002_10,.int .i64 x679003_10]) ?_ 3 _ rfl;exact bko⟩,⟨ix⟩,⟨kx⟩,⟨bx⟩⟩
                    ·replace c71:=Bool.eq_false_iff.mpr c71;subst c71;rw [if_neg (show ¬ (false=true) by decide)] at H;by_cases c77:t679=11
                     ·rw [if_pos c77] at H;obtain ⟨c77b0,c77b1⟩:=bqt c77;clear c77;obtain ⟨⟨t759,t760,t761,t762,t763,t764,t765,t766⟩,A78,H⟩:=bas H;(try dsimp only at H);have H':=Aside0.mk H;clear H;go_wp2_with (first | ((with_reducible refine gate_callee (f:=135) rfl ?_);refine gl (some 98) Tryz.func135 #[.pointer (some ⟨g,0,none⟩),.bool true] ?_;(with_reducible refine (rzreader_address.calls kj68 g _ _ _ _ _ _ true _ _ _ _ _ _ _ _ w0 _ ?side1 ?side2 A78.out).mono ?_);(case side1=>exact ix);(case side2=>exact bx);rintro e w79 ⟨rfl,hi,hb,hk⟩;refine ⟨_,rfl,?_⟩;replace BK677:=kbk hk bko NB677_0.out;replace BK678:=kbk hk bko NB678_0.out;replace HK:=ktr (w:=w) kx hk;replace HB:=Aside0.mk hb;replace HI0:=Aside0.mk hi;clear hi hb hk;have:=NB678_677.out;have:=NB677_678.out;have:=NB678_0.out;have:=NB0_678.out;obtain ⟨_,_,_,_,_,_,_,_⟩:=bz4 BK678.out))
                      go_meet
                      case rel=>exact ⟨_,(t761),(t762),(t763),(t764),(t765),(t766),(t759),(x679003_10),H',⟨by have:=HJ3.out;have:=HJ10.out;have:=HJ20.out;have:=HJ27.out;have:=HJ30.out;have:=HJ41.out;have:=HJ68.out;first | omega | exact Nat.le_refl _⟩,⟨bkf⟩,⟨by (with_reducible repeat (first | refine blk_drewN ?_ _ | refine blk_drew ?_ | refine blk_alloc ?_ _));refine blk_put (cs:=#[.int .i64 a1,.int .i64 x679001_20,.int .i64 x679002_10,.int .i64 x679003_10]) ?_ 2 _ rfl;exact bko⟩,⟨ix⟩,⟨kx⟩,⟨bx⟩⟩
                     ·rw [if_neg c77] at H;obtain ⟨c77b0,c77b1⟩:=bqf c77;have H':=Aside0.mk H;clear H;go_wp2;go_meet
                      case rel=>exact ⟨_,(x1000_30),(x1001_30),(x1002_30),(x1003_30),(x1004_30),(x1005_30),(x679002_10),(x679003_10),H',⟨by have:=HJ3.out;have:=HJ10.out;have:=HJ20.out;have:=HJ27.out;have:=HJ30.out;have:=HJ41.out;have:=HJ68.out;first | omega | exact Nat.le_refl _⟩,⟨bko⟩,⟨bko⟩,⟨ix⟩,⟨kx⟩,⟨bx⟩⟩
           case rest =>
            clear HC35;obtain ⟨kq,x1000_34,x1001_34,x1002_34,x1003_34,x1004_34,x1005_34,x679002_34,x679003_34,HA,HJ34,BK677,BK678,HI0,HK,HB⟩:=hcut;cases kq with
            | zero=>exact absurd HA.out (by simp [rzreader_operands.j7])
            | succ kj34 =>
             have H:=HA.out;clear HA;simp only [rzreader_operands.j7] at H;have HC83:=Aside0.mk H;clear H;go_upto_region 31 with (fail)
             go_cut [111] (fun v111 wc=>∃ (kq:Nat) (x111_82:Bool),v111=.bool x111_82∧Aside0 (rzreader_operands.j8 kq t679 x111_82 x1000_34 x1001_34 x1002_34 x1003_34 x1004_34 x1005_34 a1 x679001_20 x679002_34 x679003_34=some (r1,r2,r3,r4,r5,r6,r7,r8,r9,r10))∧Aside0 (kq≤kj34)∧Aside0 (wc.heap[gb677]?=some (.cells #[.int .i64 0,.int .i64 0,.int .i64 0,.int .i64 0] 23 (0,0)))∧Aside0 (wc.heap[gb678]?=some (.cells #[.int .i64 a1,.int .i64 x679001_20,.int .i64 x679002_34,.int .i64 x679003_34] 23 (0,0)))∧Aside0 (IsS117 w0 wc g x1000_34 x1001_34 x1002_34 x1003_34 x1004_34 x1005_34)∧Aside0 (KeepBut w wc g none)∧Aside0 (Below w0.heap.size w0 wc))
             case first =>
              have H:=HC83.out;clear HC83;by_cases c84:t679=6
              ·rw [if_pos c84] at H;obtain ⟨c84b0,c84b1⟩:=bqt c84;clear c84;(first | rw [c84b0] | (simp only [i64_w,i32_w];rw [c84b0]) | skip);have H':=Aside0.mk H;clear H;go_wp2;go_meet
               case rel=>exact ⟨_,(false),rsd,H',⟨by have:=HJ3.out;have:=HJ10.out;have:=HJ20.out;have:=HJ27.out;have:=HJ30.out;have:=HJ34.out;first | omega | exact Nat.le_refl _⟩,⟨bko⟩,⟨bko⟩,⟨ix⟩,⟨kx⟩,⟨bx⟩⟩
              ·rw [if_neg c84] at H;obtain ⟨c84b0,c84b1⟩:=bqf c84;(first | rw [c84b0] | (simp only [i64_w,i32_w];rw [c84b0]) | skip);by_cases c85:t679=7
               ·rw [if_pos c85] at H;obtain ⟨c85b0,c85b1⟩:=bqt c85;clear c85;have H':=Aside0.mk H;clear H;go_wp2;go_meet
                case rel=>exact ⟨_,(false),rsd,H',⟨by have:=HJ3.out;have:=HJ10.out;have:=HJ20.out;have:=HJ27.out;have:=HJ30.out;have:=HJ34.out;first | omega | exact Nat.le_refl _⟩,⟨bko⟩,⟨bko⟩,⟨ix⟩,⟨kx⟩,⟨bx⟩⟩
               ·rw [if_neg c85] at H;obtain ⟨c85b0,c85b1⟩:=bqf c85;have H':=Aside0.mk H;clear H;go_wp2;go_meet
                case rel=>exact ⟨_,((t679 != 9)),rsd,H',⟨by have:=HJ3.out;have:=HJ10.out;have:=HJ20.out;have:=HJ27.out;have:=HJ30.out;have:=HJ34.out;first | omega | exact Nat.le_refl _⟩,⟨bko⟩,⟨bko⟩,⟨ix⟩,⟨kx⟩,⟨bx⟩⟩
             case rest =>
              clear HC83;obtain ⟨kq,x111_82,rfl,HA,HJ82,BK677,BK678,HI0,HK,HB⟩:=hcut;cases kq with
              | zero=>exact absurd HA.out (by simp [rzreader_operands.j8])
              | succ kj82 =>
               have H:=HA.out;clear HA;simp only [rzreader_operands.j8] at H;by_cases c86:x111_82=true
               ·subst c86;rw [if_pos rfl] at H;obtain ⟨t767,A87,H⟩:=bas H;(try dsimp only at H);obtain ⟨⟨t768,t769,t770,t771,t772,t773⟩,A88,H⟩:=bas H;(try dsimp only at H);simp only [Option.some.injEq,Prod.mk.injEq] at H;obtain ⟨rfl,rfl,rfl,rfl,rfl,rfl,rfl,rfl,rfl,rfl⟩:=H;have:=NB678_677.out;have:=NB677_678.out;have:=NB678_0.out;have:=NB0_678.out;obtain ⟨_,_,_,_,_,_,_,_⟩:=bz4 BK678.out;go_wp2_with (first | ((with_reducible refine gate_callee (f:=52) rfl ?_);refine gl (some 116) Tryz.func52 #[.int .i64 t679,.int .i64 x679003_34] ?_;(with_reducible refine (rzfits.calls kj82 _ _ _ _ A87.out).mono ?_);rintro e w' ⟨rfl,⟨nd,rfl⟩⟩;refine ⟨_,rfl,?_⟩;(try (rw [drewN_self wc];generalize hq_:World.drewN wc _=wc;have n0_:Aside0 (wc.heap[gb677]?=some (.cells #[.int .i64 0,.int .i64 0,.int .i64 0,.int .i64 0] 23 (0,0))):=⟨by rw [← hq_];exact bko⟩;have n1_:Aside0 (wc.heap[gb678]?=some (.cells #[.int .i64 a1,.int .i64 x679001_20,.int .i64 x679002_34,.int .i64 x679003_34] 23 (0,0))):=⟨by rw [← hq_];exact bko⟩;have n2_:Aside0 (IsS117 w0 wc g x1000_34 x1001_34 x1002_34 x1003_34 x1004_34 x1005_34):=⟨by rw [← hq_];exact ix⟩;have n3_:Aside0 (KeepBut w wc g none):=⟨by rw [← hq_];exact kx⟩;have n4_:Aside0 (Below w0.heap.size w0 wc):=⟨by rw [← hq_];exact bx⟩;clear BK677 BK678 HI0 HK HB hq_;have BK677:=n0_;have BK678:=n1_;have HI0:=n2_;have HK:=n3_;have HB:=n4_;clear n0_ n1_ n2_ n3_ n4_))) | ((with_reducible refine gate_callee (f:=107) rfl ?_);refine gl (some 117) Tryz.func107 #[.pointer (some ⟨g,0,none⟩),.bool t767] ?_;(with_reducible refine (rzreader_must.calls g _ _ _ _ _ _ _ _ _ _ _ _ _ w0 _ ?side1 ?side2 A88.out).mono ?_);(case side1=>exact ix);(case side2=>exact bx);rintro e w92 ⟨rfl,hi,hb,hk⟩;refine ⟨_,rfl,?_⟩;replace BK677:=kbk hk bko NB677_0.out;replace BK678:=kbk hk bko NB678_0.out;replace HK:=ktr (w:=w) kx hk;replace HB:=Aside0.mk hb;replace HI0:=Aside0.mk hi;clear hi hb hk;obtain ⟨_,_,_,_,_,_,_,_⟩:=bz4 BK678.out;have:=NB677_0.out;have:=NB0_677.out;obtain ⟨_,_,_,_,_,_,_,_⟩:=bz4 BK677.out))
                refine bodyPost_ret (results_cell_row rfl _ _ gb677 23 #[.int .i64 a1,.int .i64 x679001_20,.int .i64 x679002_34,.int .i64 x679003_34] (0,0) _ rfl (by (with_reducible repeat (first | refine blk_drewN ?_ _ | refine blk_drew ?_ | refine blk_alloc ?_ _));refine blk_put (cs:=#[.int .i64 a1,.int .i64 x679001_20,.int .i64 x679002_34,.int .i64 0]) ?_ 3 _ rfl;refine blk_put (cs:=#[.int .i64 a1,.int .i64 x679001_20,.int .i64 0,.int .i64 0]) ?_ 2 _ rfl;refine blk_put (cs:=#[.int .i64 a1,.int .i64 0,.int .i64 0,.int .i64 0]) ?_ 1 _ rfl;refine blk_put (cs:=#[.int .i64 0,.int .i64 0,.int .i64 0,.int .i64 0]) ?_ 0 _ rfl;exact bko) Tryz.underlying23 rfl (by kernel_rfl)) rfl ?_;exact ⟨rew,ix,bx,kx⟩
               ·replace c86:=Bool.eq_false_iff.mpr c86;subst c86;rw [if_neg (show ¬ (false=true) by decide)] at H;simp only [Option.some.injEq,Prod.mk.injEq] at H;obtain ⟨rfl,rfl,rfl,rfl,rfl,rfl,rfl,rfl,rfl,rfl⟩:=H;have:=NB678_677.out;have:=NB677_678.out;have:=NB678_0.out;have:=NB0_678.out;obtain ⟨_,_,_,_,_,_,_,_⟩:=bz4 BK678.out;have:=NB677_0.out;have:=NB0_677.out;obtain ⟨_,_,_,_,_,_,_,_⟩:=bz4 BK677.out;go_wp2;refine bodyPost_ret (results_cell_row rfl _ _ gb677 23 #[.int .i64 a1,.int .i64 x679001_20,.int .i64 x679002_34,.int .i64 x679003_34] (0,0) _ rfl (by (with_reducible repeat (first | refine blk_drewN ?_ _ | refine blk_drew ?_ | refine blk_alloc ?_ _));refine blk_put (cs:=#[.int .i64 a1,.int .i64 x679001_20,.int .i64 x679002_34,.int .i64 0]) ?_ 3 _ rfl;refine blk_put (cs:=#[.int .i64 a1,.int .i64 x679001_20,.int .i64 0,.int .i64 0]) ?_ 2 _ rfl;refine blk_put (cs:=#[.int .i64 a1,.int .i64 0,.int .i64 0,.int .i64 0]) ?_ 1 _ rfl;refine blk_put (cs:=#[.int .i64 0,.int .i64 0,.int .i64 0,.int .i64 0]) ?_ 0 _ rfl;exact bko) Tryz.underlying23 rfl (by kernel_rfl)) rfl ?_;exact ⟨rew,ix,bx,kx⟩
end Go.Proofs.YtffojmgmpfjlhaaGreatDoor.Q
