/- Parts of the proof: InsnChecks: Check, Len, Target, Relative, Reads and Writes return what the specification returns: the law returns true for every input; the inputs read as they did; the package-level variables hold what the program's text lays in them: the tied card. -/
import Derived.Test.YtffojmgmpfjlhaaGreatDoorInsnChecksZ3
import Derived.Test.YtffojmgmpfjlhaaGreatDoorInsnChecksZ4
import Derived.Test.YtffojmgmpfjlhaaGreatDoorInsnChecksZ5
import Derived.Test.YtffojmgmpfjlhaaGreatDoorInsnChecksZ6
import Derived.Test.YtffojmgmpfjlhaaGreatDoorInsnChecksZ7
set_option linter.unusedVariables false
set_option linter.unusedSimpArgs false
namespace Go.Proofs.YtffojmgmpfjlhaaGreatDoor.Q
open Go.Proofs.YtffojmgmpfjlhaaGreatDoor Go.RowKit Go.Proofs.YtffojmgmpfjlhaaGreatDoorW.PrintWords Go.Proofs.YtffojmgmpfjlhaaGreatDoorW.PrintLast Go.Proofs.YtffojmgmpfjlhaaGreatDoorW.PrintMore
attribute [local go_sem] max2_int min2_int max_two min_two max_three min_three max_four min_four
mutual
def lzInsnChecks.j0:Nat→Bool→Int→Int→Bool→Int→Int→Int→Int→Option (Bool)
 | 0,_,_,_,_,_,_,_,_=>none
 | k+1,x5,x6,x7,x58,x1148000,x1148001,x1148002,x1148003=>if x58=true then (some false) else (if x6=0 then ((rzLen.f k x1148000 x1148001 x1148002 x1148003).bind fun t1159=>(if x7=t1159 then (if x7 < 1 then (lzInsnChecks.j1 k x5 true x1148000 x1148001 x1148002 x1148003) else (if x7 > 12 then (lzInsnChecks.j1 k x5 true x1148000 x1148001 x1148002 x1148003) else (lzInsnChecks.j1 k x5 false x1148000 x1148001 x1148002 x1148003))) else (lzInsnChecks.j1 k x5 true x1148000 x1148001 x1148002 x1148003))) else (lzInsnChecks.j1 k x5 (x7 != 0) x1148000 x1148001 x1148002 x1148003))
def lzInsnChecks.j1:Nat→Bool→Bool→Int→Int→Int→Int→Option (Bool)
 | 0,_,_,_,_,_,_=>none
 | k+1,x5,x82,x1148000,x1148001,x1148002,x1148003=>if x82=true then (some false) else (if x5=true then ((insn_Reads.f k x1148000 x1148001 x1148002 x1148003).bind fun t1160=>((rzReads.f k x1148000 x1148001 x1148002 x1148003).bind fun t1163=>((lzsameInts.f k t1160 t1163).bind fun t1166=>(if t1166=true then ((insn_Writes.f k x1148000 x1148001 x1148002 x1148003).bind fun t1167=>((rzWrites.f k x1148000 x1148001 x1148002 x1148003).bind fun t1170=>((lzsameInts.f k t1167 t1170).bind fun t1173=>(some t1173)))) else (some false))))) else (some false))
end
def lzInsnChecks.f (k:Nat) (a0_0:Int) (a0_1:Int) (a0_2:Int) (a0_3:Int) (a1:Int):Option (Bool):=(lzsane.f k).bind fun t1148=>((insn_Check.f k a0_0 a0_1 a0_2 a0_3).bind fun t1149=>((insn_Len.f k a0_0 a0_1 a0_2 a0_3).bind fun bt1150=>((insn_Target.f k a0_0 a0_1 a0_2 a0_3 a1).bind fun bt1152=>((rzTarget.f k a0_0 a0_1 a0_2 a0_3 a1).bind fun bt1154=>((rzCheck.f k a0_0 a0_1 a0_2 a0_3).bind fun t1156=>(if t1149=t1156 then (if bt1150.2=t1149 then (if bt1152.1=bt1154.1 then (if (bt1152.2 != bt1154.2)=true then (lzInsnChecks.j0 k t1148 t1149 bt1150.1 true a0_0 a0_1 a0_2 a0_3) else ((insn_Relative.f k a0_0 a0_1 a0_2 a0_3).bind fun t1157=>((rzRelative.f k a0_0 a0_1 a0_2 a0_3).bind fun t1158=>(lzInsnChecks.j0 k t1148 t1149 bt1150.1 (t1157 != t1158) a0_0 a0_1 a0_2 a0_3)))) else (lzInsnChecks.j0 k t1148 t1149 bt1150.1 true a0_0 a0_1 a0_2 a0_3)) else (lzInsnChecks.j0 k t1148 t1149 bt1150.1 true a0_0 a0_1 a0_2 a0_3)) else (lzInsnChecks.j0 k t1148 t1149 bt1150.1 true a0_0 a0_1 a0_2 a0_3)))))))
theorem lzInsnChecks.mono_l:∀ k,(∀ y0 y1 y2 y3 y4 y5 y6 y7,LeO (lzInsnChecks.j0 k y0 y1 y2 y3 y4 y5 y6 y7) (lzInsnChecks.j0 (k+1) y0 y1 y2 y3 y4 y5 y6 y7))∧(∀ y0 y1 y2 y3 y4 y5,LeO (lzInsnChecks.j1 k y0 y1 y2 y3 y4 y5) (lzInsnChecks.j1 (k+1) y0 y1 y2 y3 y4 y5))
 | 0=>⟨fun _ _ _ _ _ _ _ _ r h=>by simp [lzInsnChecks.j0] at h,fun _ _ _ _ _ _ r h=>by simp [lzInsnChecks.j1] at h⟩
 | k+1=>by
  obtain ⟨ih0,ih1⟩:=lzInsnChecks.mono_l k;refine ⟨?_,?_⟩
  ·intro y0 y1 y2 y3 y4 y5 y6 y7;unfold lzInsnChecks.j0;repeat' first
   | (with_reducible exact ih0 _ _ _ _ _ _ _ _)
   | (with_reducible exact ih1 _ _ _ _ _ _)
   | (with_reducible exact insn_Check.mono _ _ _ _ _)
   | (with_reducible exact insn_Len.mono _ _ _ _ _)
   | (with_reducible exact insn_Reads.mono _ _ _ _ _)
   | (with_reducible exact insn_Relative.mono _ _ _ _ _)
   | (with_reducible exact insn_Target.mono _ _ _ _ _ _)
   | (with_reducible exact insn_Writes.mono _ _ _ _ _)
   | (with_reducible exact lzsameInts.mono _ _ _)
   | (with_reducible exact lzsane.mono _)
   | (with_reducible exact rzCheck.mono _ _ _ _ _)
   | (with_reducible exact rzLen.mono _ _ _ _ _)
   | (with_reducible exact rzReads.mono _ _ _ _ _)
   | (with_reducible exact rzRelative.mono _ _ _ _ _)
   | (with_reducible exact rzTarget.mono _ _ _ _ _ _)
   | (with_reducible exact rzWrites.mono _ _ _ _ _)
   | (with_reducible exact LeO.refl _)
   | (with_reducible exact LeO.none _)
   | (with_reducible refine LeO.ite ?_ ?_)
   | (with_reducible refine LeO.bind ?_ (fun _=>?_))
   | exact LeO.none _
   | refine LeO.ite ?_ ?_
   | refine LeO.bind ?_ (fun _=>?_)
  ·intro y0 y1 y2 y3 y4 y5;unfold lzInsnChecks.j1;repeat' first
   | (with_reducible exact ih0 _ _ _ _ _ _ _ _)
   | (with_reducible exact ih1 _ _ _ _ _ _)
   | (with_reducible exact insn_Check.mono _ _ _ _ _)
   | (with_reducible exact insn_Len.mono _ _ _ _ _)
   | (with_reducible exact insn_Reads.mono _ _ _ _ _)
   | (with_reducible exact insn_Relative.mono _ _ _ _ _)
   | (with_reducible exact insn_Target.mono _ _ _ _ _ _)
   | (with_reducible exact insn_Writes.mono _ _ _ _ _)
   | (with_reducible exact lzsameInts.mono _ _ _)
   | (with_reducible exact lzsane.mono _)
   | (with_reducible exact rzCheck.mono _ _ _ _ _)
   | (with_reducible exact rzLen.mono _ _ _ _ _)
   | (with_reducible exact rzReads.mono _ _ _ _ _)
   | (with_reducible exact rzRelative.mono _ _ _ _ _)
   | (with_reducible exact rzTarget.mono _ _ _ _ _ _)
   | (with_reducible exact rzWrites.mono _ _ _ _ _)
   | (with_reducible exact LeO.refl _)
   | (with_reducible exact LeO.none _)
   | (with_reducible refine LeO.ite ?_ ?_)
   | (with_reducible refine LeO.bind ?_ (fun _=>?_))
   | exact LeO.none _
   | refine LeO.ite ?_ ?_
   | refine LeO.bind ?_ (fun _=>?_)
theorem lzInsnChecks.mono:∀ a0 a1 a2 a3 a4 k,LeO (lzInsnChecks.f k a0 a1 a2 a3 a4) (lzInsnChecks.f (k+1) a0 a1 a2 a3 a4):=by
 intro a0 a1 a2 a3 a4 k;obtain ⟨ih0,ih1⟩:=lzInsnChecks.mono_l k;unfold lzInsnChecks.f;repeat' first
   | (with_reducible exact ih0 _ _ _ _ _ _ _ _)
   | (with_reducible exact ih1 _ _ _ _ _ _)
   | (with_reducible exact insn_Check.mono _ _ _ _ _)
   | (with_reducible exact insn_Len.mono _ _ _ _ _)
   | (with_reducible exact insn_Reads.mono _ _ _ _ _)
   | (with_reducible exact insn_Relative.mono _ _ _ _ _)
   | (with_reducible exact insn_Target.mono _ _ _ _ _ _)
   | (with_reducible exact insn_Writes.mono _ _ _ _ _)
   | (with_reducible exact lzsameInts.mono _ _ _)
   | (with_reducible exact lzsane.mono _)
   | (with_reducible exact rzCheck.mono _ _ _ _ _)
   | (with_reducible exact rzLen.mono _ _ _ _ _)
   | (with_reducible exact rzReads.mono _ _ _ _ _)
   | (with_reducible exact rzRelative.mono _ _ _ _ _)
   | (with_reducible exact rzTarget.mono _ _ _ _ _ _)
   | (with_reducible exact rzWrites.mono _ _ _ _ _)
   | (with_reducible exact LeO.refl _)
   | (with_reducible exact LeO.none _)
   | (with_reducible refine LeO.ite ?_ ?_)
   | (with_reducible refine LeO.bind ?_ (fun _=>?_))
   | exact LeO.none _
   | refine LeO.ite ?_ ?_
   | refine LeO.bind ?_ (fun _=>?_)
def lzInsnChecks.T6:Bool × List (List Nat × List Nat):=(true,[([],[]),([],[]),([1],[1]),([0,2],[0,2]),([3,2],[3]),([4],[4]),([4],[4]),([5,6,4],[4,5,6]),([4,7],[4,7]),([8,4],[8]),([9],[9]),([9],[9]),([10,11,9],[9,10,11]),([9,12],[9,12]),([13,9],[13]),([14],[14]),([14],[14]),([15,16,14],[14,15,16]),([14,17],[14,17]),([18,14],[18]),([19],[19]),([20,19,19],[19,20]),([19],[19]),([22,21,19],[19,22]),([21,23,19],[19,21,23]),([19,24],[19,24])])
def lzInsnChecks.B6:List Nat:=[0,0,2,7,15,31,31,127,255,511,1023,1023,4095,8191,16383,32767,32767,131071,262143,524287,1048575,2097151,1048575,8388607,16777215,33554431]
theorem lzInsnChecks.tab6:rtab .any (opsOf Tryz.f16 6)=lzInsnChecks.T6:=by kernel_rfl
theorem lzInsnChecks.bits6:waitsOk lzInsnChecks.T6.2 lzInsnChecks.B6=true:=by kernel_rfl
def lzInsnChecks.T10:Bool × List (List Nat × List Nat):=(true,[([],[]),([0],[0]),([1],[1]),([2,1,1],[1,2]),([1],[1]),([4,3,1],[1,4]),([3,5,5,1],[1,3,5]),([1,6],[1,6]),([7,6],[7]),([8],[8]),([9,8,8],[8,9]),([8],[8]),([11,10,8],[8,11]),([10,12,12,8],[8,10,12]),([8,13],[8,13]),([14,13,0,1,2,3,4,5,6,7,8,9,10,11,12,13,14],[14])])
def lzInsnChecks.B10:List Nat:=[0,1,3,7,3,31,63,127,255,511,1023,511,4095,8191,16383,32767]
theorem lzInsnChecks.tab10:rtab .any (opsOf Tryz.f16 10)=lzInsnChecks.T10:=by kernel_rfl
theorem lzInsnChecks.bits10:waitsOk lzInsnChecks.T10.2 lzInsnChecks.B10=true:=by kernel_rfl
set_option maxHeartbeats 8000000 in
set_option maxRecDepth 100000 in
theorem lzInsnChecks.calls (k:Nat) (a0_0:Int) (a0_1:Int) (a0_2:Int) (a0_3:Int) (a1:Int) (r:Bool) (w:World) (h:lzInsnChecks.f k a0_0 a0_1 a0_2 a0_3 a1=some r) (hgw:GW w) (hrt:r=true:=by rfl) :
  Calls Tryz.prog 16 #[.agg #[.int .i64 a0_0,.int .i64 a0_1,.int .i64 a0_2,.int .i64 a0_3],.int .i64 a1] w fun e w'=>e=.returned (.bool r)∧Below w.heap.size w w':=by
 have hu23:=Tryz.underlying23;have HB:=Aside0.mk (Below.refl w.heap.size w);have H:((lzsane.f k).bind fun t1148=>((insn_Check.f k a0_0 a0_1 a0_2 a0_3).bind fun t1149=>((insn_Len.f k a0_0 a0_1 a0_2 a0_3).bind fun bt1150=>((insn_Target.f k a0_0 a0_1 a0_2 a0_3 a1).bind fun bt1152=>((rzTarget.f k a0_0 a0_1 a0_2 a0_3 a1).bind fun bt1154=>((rzCheck.f k a0_0 a0_1 a0_2 a0_3).bind fun t1156=>(if t1149=t1156 then (if bt1150.2=t1149 then (if bt1152.1=bt1154.1 then (if (bt1152.2 != bt1154.2)=true then (lzInsnChecks.j0 k t1148 t1149 bt1150.1 true a0_0 a0_1 a0_2 a0_3) else ((insn_Relative.f k a0_0 a0_1 a0_2 a0_3).bind fun t1157=>((rzRelative.f k a0_0 a0_1 a0_2 a0_3).bind fun t1158=>(lzInsnChecks.j0 k t1148 t1149 bt1150.1 (t1157 != t1158) a0_0 a0_1 a0_2 a0_3)))) else (lzInsnChecks.j0 k t1148 t1149 bt1150.1 true a0_0 a0_1 a0_2 a0_3)) else (lzInsnChecks.j0 k t1148 t1149 bt1150.1 true a0_0 a0_1 a0_2 a0_3)) else (lzInsnChecks.j0 k t1148 t1149 bt1150.1 true a0_0 a0_1 a0_2 a0_3))))))))=some r:=h;clear h;replace H:=Option.bind_eq_some_iff.mp H;obtain ⟨t1148,A30,H⟩:=H;replace H:((insn_Check.f k a0_0 a0_1 a0_2 a0_3).bind fun t1149=>((insn_Len.f k a0_0 a0_1 a0_2 a0_3).bind fun bt1150=>((insn_Target.f k a0_0 a0_1 a0_2 a0_3 a1).bind fun bt1152=>((rzTarget.f k a0_0 a0_1 a0_2 a0_3 a1).bind fun bt1154=>((rzCheck.f k a0_0 a0_1 a0_2 a0_3).bind fun t1156=>(if t1149=t1156 then (if bt1150.2=t1149 then (if bt1152.1=bt1154.1 then (if (bt1152.2 != bt1154.2)=true then (lzInsnChecks.j0 k t1148 t1149 bt1150.1 true a0_0 a0_1 a0_2 a0_3) else ((insn_Relative.f k a0_0 a0_1 a0_2 a0_3).bind fun t1157=>((rzRelative.f k a0_0 a0_1 a0_2 a0_3).bind fun t1158=>(lzInsnChecks.j0 k t1148 t1149 bt1150.1 (t1157 != t1158) a0_0 a0_1 a0_2 a0_3)))) else (lzInsnChecks.j0 k t1148 t1149 bt1150.1 true a0_0 a0_1 a0_2 a0_3)) else (lzInsnChecks.j0 k t1148 t1149 bt1150.1 true a0_0 a0_1 a0_2 a0_3)) else (lzInsnChecks.j0 k t1148 t1149 bt1150.1 true a0_0 a0_1 a0_2 a0_3)))))))=some r:=H;have A3:=Aside0.mk A30;clear A30;replace H:=Option.bind_eq_some_iff.mp H;obtain ⟨t1149,A40,H⟩:=H;replace H:((insn_Len.f k a0_0 a0_1 a0_2 a0_3).bind fun bt1150=>((insn_Target.f k a0_0 a0_1 a0_2 a0_3 a1).bind fun bt1152=>((rzTarget.f k a0_0 a0_1 a0_2 a0_3 a1).bind fun bt1154=>((rzCheck.f k a0_0 a0_1 a0_2 a0_3).bind fun t1156=>(if t1149=t1156 then (if bt1150.2=t1149 then (if bt1152.1=bt1154.1 then (if (bt1152.2 != bt1154.2)=true then (lzInsnChecks.j0 k t1148 t1149 bt1150.1 true a0_0 a0_1 a0_2 a0_3) else ((insn_Relative.f k a0_0 a0_1 a0_2 a0_3).bind fun t1157=>((rzRelative.f k a0_0 a0_1 a0_2 a0_3).bind fun t1158=>(lzInsnChecks.j0 k t1148 t1149 bt1150.1 (t1157 != t1158) a0_0 a0_1 a0_2 a0_3)))) else (lzInsnChecks.j0 k t1148 t1149 bt1150.1 true a0_0 a0_1 a0_2 a0_3)) else (lzInsnChecks.j0 k t1148 t1149 bt1150.1 true a0_0 a0_1 a0_2 a0_3)) else (lzInsnChecks.j0 k t1148 t1149 bt1150.1 true a0_0 a0_1 a0_2 a0_3))))))=some r:=H;have A4:=Aside0.mk A40;clear A40;replace H:=Option.bind_eq_some_iff.mp H;obtain ⟨⟨t1150,t1151⟩,A50,H⟩:=H;replace H:((insn_Target.f k a0_0 a0_1 a0_2 a0_3 a1).bind fun bt1152=>((rzTarget.f k a0_0 a0_1 a0_2 a0_3 a1).bind fun bt1154=>((rzCheck.f k a0_0 a0_1 a0_2 a0_3).bind fun t1156=>(if t1149=t1156 then (if t1151=t1149 then (if bt1152.1=bt1154.1 then (if (bt1152.2 != bt1154.2)=true then (lzInsnChecks.j0 k t1148 t1149 t1150 true a0_0 a0_1 a0_2 a0_3) else ((insn_Relative.f k a0_0 a0_1 a0_2 a0_3).bind fun t1157=>((rzRelative.f k a0_0 a0_1 a0_2 a0_3).bind fun t1158=>(lzInsnChecks.j0 k t1148 t1149 t1150 (t1157 != t1158) a0_0 a0_1 a0_2 a0_3)))) else (lzInsnChecks.j0 k t1148 t1149 t1150 true a0_0 a0_1 a0_2 a0_3)) else (lzInsnChecks.j0 k t1148 t1149 t1150 true a0_0 a0_1 a0_2 a0_3)) else (lzInsnChecks.j0 k t1148 t1149 t1150 true a0_0 a0_1 a0_2 a0_3)))))=some r:=H;have A5:=Aside0.mk A50;clear A50;replace H:=Option.bind_eq_some_iff.mp H;obtain ⟨⟨t1152,t1153⟩,A60,H⟩:=H;replace H:((rzTarget.f k a0_0 a0_1 a0_2 a0_3 a1).bind fun bt1154=>((rzCheck.f k a0_0 a0_1 a0_2 a0_3).bind fun t1156=>(if t1149=t1156 then (if t1151=t1149 then (if t1152=bt1154.1 then (if (t1153 != bt1154.2)=true then (lzInsnChecks.j0 k t1148 t1149 t1150 true a0_0 a0_1 a0_2 a0_3) else ((insn_Relative.f k a0_0 a0_1 a0_2 a0_3).bind fun t1157=>((rzRelative.f k a0_0 a0_1 a0_2 a0_3).bind fun t1158=>(lzInsnChecks.j0 k t1148 t1149 t1150 (t1157 != t1158) a0_0 a0_1 a0_2 a0_3)))) else (lzInsnChecks.j0 k t1148 t1149 t1150 true a0_0 a0_1 a0_2 a0_3)) else (lzInsnChecks.j0 k t1148 t1149 t1150 true a0_0 a0_1 a0_2 a0_3)) else (lzInsnChecks.j0 k t1148 t1149 t1150 true a0_0 a0_1 a0_2 a0_3))))=some r:=H;have A6:=Aside0.mk A60;clear A60;replace H:=Option.bind_eq_some_iff.mp H;obtain ⟨⟨t1154,t1155⟩,A70,H⟩:=H;replace H:((rzCheck.f k a0_0 a0_1 a0_2 a0_3).bind fun t1156=>(if t1149=t1156 then (if t1151=t1149 then (if t1152=t1154 then (if (t1153 != t1155)=true then (lzInsnChecks.j0 k t1148 t1149 t1150 true a0_0 a0_1 a0_2 a0_3) else ((insn_Relative.f k a0_0 a0_1 a0_2 a0_3).bind fun t1157=>((rzRelative.f k a0_0 a0_1 a0_2 a0_3).bind fun t1158=>(lzInsnChecks.j0 k t1148 t1149 t1150 (t1157 != t1158) a0_0 a0_1 a0_2 a0_3)))) else (lzInsnChecks.j0 k t1148 t1149 t1150 true a0_0 a0_1 a0_2 a0_3)) else (lzInsnChecks.j0 k t1148 t1149 t1150 true a0_0 a0_1 a0_2 a0_3)) else (lzInsnChecks.j0 k t1148 t1149 t1150 true a0_0 a0_1 a0_2 a0_3)))=some r:=H;have A7:=Aside0.mk A70;clear A70;have HC8:=Aside0.mk H;clear H;go_enter Tryz.func16,Tryz.ntmps16
 go_upto_region 6 with (first | ((with_reducible refine gate_dst (N:=2) rfl ?_);refine box_event ?hg (N:=2) ?hd (cs:=#[.int .i64 a0_0,.int .i64 a0_1,.int .i64 a0_2,.int .i64 a0_3]) (t:=23) ?hr ?_;(case hd=>rfl);(case hg=>rfl);(case hr=>first | (go_simp;done) | (go_simp;rfl));intro gb1147 hg w9 hbox hb;have n0_:=Aside0.mk (below_step blw hb);have n1_:=Aside0.mk (hbox);have n2_:=Aside0.mk ((by rw [hg];exact (below_size blw):w.heap.size≤gb1147));have n3_:=Aside0.mk ((by rw [hg];exact (below_size blw):w.heap.size≤gb1147));clear HB;have HB:=n0_;have BK1147:=n1_;have GW1147:=n2_;have GE1147:=n3_;clear n0_ n1_ n2_ n3_;clear hb hbox hg) | ((with_reducible refine gate_callee (f:=17) rfl ?_);refine goesL_ (some 13) rfl rfl Tryz.func17 (by kernel_rfl) rfl #[] rfl fq ?_;(with_reducible refine (lzsane.calls k  t1148 _ A3.out gwy).mono ?_);rintro e w10 ⟨rfl,hb⟩;refine ⟨_,rfl,?_⟩;have n0_:=Aside0.mk (blk_below (g:=gb1147) (o:=.cells #[.int .i64 a0_0,.int .i64 a0_1,.int .i64 a0_2,.int .i64 a0_3] 23 (0,0)) bko hb);have n1_:=Aside0.mk (below_step blw hb);clear BK1147;clear HB;have BK1147:=n0_;have HB:=n1_;clear n0_ n1_;(try clear hb);(try clear hb2);(try clear hk);(try clear hi);obtain ⟨hcz11_0,hcz11_1,hcz11_2,hcz11_3,hfz11_0,hfz11_1,hfz11_2,hfz11_3⟩:=bz4 BK1147.out) | ((with_reducible refine gate_callee (f:=31) rfl ?_);refine goesL_ (some 15) rfl rfl Tryz.func31 (by kernel_rfl) rfl #[.agg #[.int .i64 a0_0,.int .i64 a0_1,.int .i64 a0_2,.int .i64 a0_3]] rfl fq ?_;(with_reducible refine (insn_Check.calls k a0_0 a0_1 a0_2 a0_3 t1149 _ A4.out gwy).mono ?_);rintro e w12 ⟨rfl,hb⟩;refine ⟨_,rfl,?_⟩;have n0_:=Aside0.mk (blk_below (g:=gb1147) (o:=.cells #[.int .i64 a0_0,.int .i64 a0_1,.int .i64 a0_2,.int .i64 a0_3] 23 (0,0)) bko hb);have n1_:=Aside0.mk (below_step blw hb);clear BK1147;clear HB;have BK1147:=n0_;have HB:=n1_;clear n0_ n1_;(try clear hb);(try clear hb2);(try clear hk);(try clear hi);obtain ⟨hcz13_0,hcz13_1,hcz13_2,hcz13_3,hfz13_0,hfz13_1,hfz13_2,hfz13_3⟩:=bz4 BK1147.out) | ((with_reducible refine gate_callee (f:=36) rfl ?_);refine goesL_ (some 18) rfl rfl Tryz.func36 (by kernel_rfl) rfl #[.agg #[.int .i64 a0_0,.int .i64 a0_1,.int .i64 a0_2,.int .i64 a0_3]] rfl fq ?_;(with_reducible refine (insn_Len.calls k a0_0 a0_1 a0_2 a0_3 t1150 t1151 _ A5.out gwy).mono ?_);rintro e w14 ⟨rfl,hb⟩;refine ⟨_,rfl,?_⟩;have n0_:=Aside0.mk (blk_below (g:=gb1147) (o:=.cells #[.int .i64 a0_0,.int .i64 a0_1,.int .i64 a0_2,.int .i64 a0_3] 23 (0,0)) bko hb);have n1_:=Aside0.mk (below_step blw hb);clear BK1147;clear HB;have BK1147:=n0_;have HB:=n1_;clear n0_ n1_;(try clear hb);(try clear hb2);(try clear hk);(try clear hi);obtain ⟨hcz15_0,hcz15_1,hcz15_2,hcz15_3,hfz15_0,hfz15_1,hfz15_2,hfz15_3⟩:=bz4 BK1147.out) | ((with_reducible refine gate_callee (f:=37) rfl ?_);refine goesL_ (some 24) rfl rfl Tryz.func37 (by kernel_rfl) rfl #[.agg #[.int .i64 a0_0,.int .i64 a0_1,.int .i64 a0_2,.int .i64 a0_3],.int .i64 a1] rfl fq ?_;(with_reducible refine (insn_Target.calls k a0_0 a0_1 a0_2 a0_3 a1 t1152 t1153 _ A6.out gwy).mono ?_);rintro e w16 ⟨rfl,hb⟩;refine ⟨_,rfl,?_⟩;have n0_:=Aside0.mk (blk_below (g:=gb1147) (o:=.cells #[.int .i64 a0_0,.int .i64 a0_1,.int .i64 a0_2,.int .i64 a0_3] 23 (0,0)) bko hb);have n1_:=Aside0.mk (below_step blw hb);clear BK1147;clear HB;have BK1147:=n0_;have HB:=n1_;clear n0_ n1_;(try clear hb);(try clear hb2);(try clear hk);(try clear hi);obtain ⟨hcz17_0,hcz17_1,hcz17_2,hcz17_3,hfz17_0,hfz17_1,hfz17_2,hfz17_3⟩:=bz4 BK1147.out) | ((with_reducible refine gate_callee (f:=42) rfl ?_);refine goesL_ (some 30) rfl rfl Tryz.func42 (by kernel_rfl) rfl #[.agg #[.int .i64 a0_0,.int .i64 a0_1,.int .i64 a0_2,.int .i64 a0_3],.int .i64 a1] rfl fq ?_;(with_reducible refine (rzTarget.calls k a0_0 a0_1 a0_2 a0_3 a1 t1154 t1155 _ A7.out).mono ?_);rintro e w18 ⟨rfl,hb⟩;refine ⟨_,rfl,?_⟩;have n0_:=Aside0.mk (blk_below (g:=gb1147) (o:=.cells #[.int .i64 a0_0,.int .i64 a0_1,.int .i64 a0_2,.int .i64 a0_3] 23 (0,0)) bko hb);have n1_:=Aside0.mk (below_step blw hb);clear BK1147;clear HB;have BK1147:=n0_;have HB:=n1_;clear n0_ n1_;(try clear hb);(try clear hb2);(try clear hk);(try clear hi)))
 (try simp only [Act.put,List.setIfInBounds_toArray,List.set_cons_zero,List.set_cons_succ]);go_cut [58] (fun v58 wc=>∃ (kq:Nat) (x58_7:Bool),v58=.bool x58_7∧Aside0 (lzInsnChecks.j0 kq t1148 t1149 t1150 x58_7 a0_0 a0_1 a0_2 a0_3=some r)∧Aside0 (kq≤k)∧Aside0 (wc.heap[gb1147]?=some (.cells #[.int .i64 a0_0,.int .i64 a0_1,.int .i64 a0_2,.int .i64 a0_3] 23 (0,0)))∧Aside0 (Below w.heap.size w wc))
 case first =>
  have H:=HC8.out;clear HC8;replace H:=Option.bind_eq_some_iff.mp H;obtain ⟨t1156,A190,H⟩:=H;replace H:(if t1149=t1156 then (if t1151=t1149 then (if t1152=t1154 then (if (t1153 != t1155)=true then (lzInsnChecks.j0 k t1148 t1149 t1150 true a0_0 a0_1 a0_2 a0_3) else ((insn_Relative.f k a0_0 a0_1 a0_2 a0_3).bind fun t1157=>((rzRelative.f k a0_0 a0_1 a0_2 a0_3).bind fun t1158=>(lzInsnChecks.j0 k t1148 t1149 t1150 (t1157 != t1158) a0_0 a0_1 a0_2 a0_3)))) else (lzInsnChecks.j0 k t1148 t1149 t1150 true a0_0 a0_1 a0_2 a0_3)) else (lzInsnChecks.j0 k t1148 t1149 t1150 true a0_0 a0_1 a0_2 a0_3)) else (lzInsnChecks.j0 k t1148 t1149 t1150 true a0_0 a0_1 a0_2 a0_3))=some r:=H;have A19:=Aside0.mk A190;clear A190;by_cases c20:t1149=t1156
  ·rw [if_pos c20] at H;obtain ⟨c20b0,c20b1⟩:=bqt c20;clear c20;(first | rw [c20b0] | (simp only [i64_w,i32_w];rw [c20b0]) | skip);by_cases c21:t1151=t1149
   ·rw [if_pos c21] at H;obtain ⟨c21b0,c21b1⟩:=bqt c21;clear c21;by_cases c22:t1152=t1154
    ·rw [if_pos c22] at H;obtain ⟨c22b0,c22b1⟩:=bqt c22;clear c22;by_cases c23:(t1153 != t1155)=true
     ·rw [if_pos c23] at H;have c23b0:(t1153 != t1155)=true:=c23;(try (have c23b1:decide (t1153=t1155)=false:=by simpa using c23));(try (have c23b2:(t1153 == t1155)=false:=by simpa using c23));(try (have c23b3:¬ (t1153=t1155):=by simpa using c23));clear c23;exact absurd (H.trans (congrArg some hrt)) (by cases k <;> simp [lzInsnChecks.j0])
     ·rw [if_neg c23] at H;have c23b0:(t1153 != t1155)=false:=by simpa using c23
      (try (have c23b1:decide (t1153=t1155)=true:=by simpa using c23));(try (have c23b2:(t1153 == t1155)=true:=by simpa using c23));clear c23;replace H:=Option.bind_eq_some_iff.mp H;obtain ⟨t1157,A260,H⟩:=H;replace H:((rzRelative.f k a0_0 a0_1 a0_2 a0_3).bind fun t1158=>(lzInsnChecks.j0 k t1148 t1149 t1150 (t1157 != t1158) a0_0 a0_1 a0_2 a0_3))=some r:=H;have A26:=Aside0.mk A260;clear A260;replace H:=Option.bind_eq_some_iff.mp H;obtain ⟨t1158,A270,H⟩:=H;replace H:(lzInsnChecks.j0 k t1148 t1149 t1150 (t1157 != t1158) a0_0 a0_1 a0_2 a0_3)=some r:=H;have A27:=Aside0.mk A270;clear A270;have H':=Aside0.mk H;clear H;try go_wp2
      have n0_:=Aside0.mk (blk_drew BK1147.out);have n1_:=Aside0.mk (below_drew1 HB.out);clear BK1147;clear HB;have BK1147:=n0_;have HB:=n1_;clear n0_ n1_;refine start_ (n:=26) (S:=fun w'=>w'.cell? ⟨gb1147,0,none⟩=some (.int .i64 a0_0)∧w'.cell? ⟨gb1147,1,none⟩=some (.int .i64 a0_1)∧w'.cell? ⟨gb1147,2,none⟩=some (.int .i64 a0_2)∧w'.cell? ⟨gb1147,3,none⟩=some (.int .i64 a0_3)) (ds:=[]) #[zF,zF,zF,zF,zF,zF,zF,zF,zF,zF,zF,zF,zF,zF,zF,zF,zF,zF,zF,zF,zF,zF,zF,zF,zF,zF] (by kernel_rfl) rfl rfl ⟨(blk_cell BK1147.out 0).trans rfl,(blk_cell BK1147.out 1).trans rfl,(blk_cell BK1147.out 2).trans rfl,(blk_cell BK1147.out 3).trans rfl⟩ (fun hHeld=>?_);refine with_tabW lzInsnChecks.tab6 lzInsnChecks.bits6 (fun HT_ HW_=>?_);generalize w18.drew=w28 at BK1147 HB hHeld ⊢;refine pure_ (i:=0) (N:=some 33) (v:=?_) (a':=?_) #[zT,zF,zF,zF,zF,zF,zF,zF,zF,zF,zF,zF,zF,zF,zF,zF,zF,zF,zF,zF,zF,zF,zF,zF,zF,zF] rfl rfl (any_of HT_.out (by kernel_rfl)) (fun _ _ _ h=>h) (Or.inl ⟨by rfl,?_⟩) ?_ ?_;rotate_left
      ·intro w';go_simp;with_reducible rfl
      rotate_left
      ·exact zp
      refine take_ (i:=1) (N:=some 34) (v:=?_) (a':=?_) #[zT,zT,zF,zF,zF,zF,zF,zF,zF,zF,zF,zF,zF,zF,zF,zF,zF,zF,zF,zF,zF,zF,zF,zF,zF,zF] rfl rfl (take_ofW HT_.out HW_.out (by kernel_rfl)) (fun _ _ _ h=>h) (Or.inl ⟨by rfl,?_⟩) hHeld ?_ ?_;rotate_left
      ·rintro w' ⟨s0,s1,s2,s3⟩;go_simp;with_reducible rfl
      rotate_left
      ·exact zp
      refine one_ (i:=2) (N:=some 35) #[zT,zT,zT,zF,zF,zF,zF,zF,zF,zF,zF,zF,zF,zF,zF,zF,zF,zF,zF,zF,zF,zF,zF,zF,zF,zF] rfl rfl (one_of HT_.out (by kernel_rfl)) (by decide) (fun K hK=>?_);refine goes_ Tryz.func19 (by kernel_rfl) rfl #[.agg #[.int .i64 a0_0,.int .i64 a0_1,.int .i64 a0_2,.int .i64 a0_3]] (by rfl) rfl rfl fq ?_;with_reducible refine (rzCheck.calls k a0_0 a0_1 a0_2 a0_3 t1156 _ A19.out).mono ?_
      rintro e w29 ⟨rfl,hb⟩;refine ⟨_,rfl,?_⟩;have n0_:=Aside0.mk (blk_below (g:=gb1147) (o:=.cells #[.int .i64 a0_0,.int .i64 a0_1,.int .i64 a0_2,.int .i64 a0_3] 23 (0,0)) bko hb);have n1_:=Aside0.mk (below_step blw hb);clear BK1147;clear HB;have BK1147:=n0_;have HB:=n1_;clear n0_ n1_;(try clear hb);(try clear hb2);(try clear hk);(try clear hi);refine hK.out _ _ ⟨(blk_cell BK1147.out 0).trans rfl,(blk_cell BK1147.out 1).trans rfl,(blk_cell BK1147.out 2).trans rfl,(blk_cell BK1147.out 3).trans rfl⟩ (fun hHeld=>?_);clear hK K;refine norm_ (a':=?_) ?_ ?_;rotate_left
      ·show Act.put _ (some 35) _=_;simp only [Act.put,List.setIfInBounds_toArray,List.set_cons_zero,List.set_cons_succ,i64_w,i32_w];rfl
      refine pure_ (i:=3) (N:=some 36) (v:=?_) (a':=?_) #[zT,zT,zT,zT,zF,zF,zF,zF,zF,zF,zF,zF,zF,zF,zF,zF,zF,zF,zF,zF,zF,zF,zF,zF,zF,zF] rfl rfl (any_of HT_.out (by kernel_rfl)) (fun _ _ _ h=>h) (Or.inl ⟨by rfl,?_⟩) ?_ ?_;rotate_left
      ·intro w';go_simp;with_reducible rfl
      rotate_left
      ·exact zp
      refine pure_ (i:=4) (N:=some 37) (v:=?_) (a':=?_) #[zT,zT,zT,zT,zT,zF,zF,zF,zF,zF,zF,zF,zF,zF,zF,zF,zF,zF,zF,zF,zF,zF,zF,zF,zF,zF] rfl rfl (any_of HT_.out (by kernel_rfl)) (fun _ _ _ h=>h) (Or.inl ⟨by rfl,?_⟩) ?_ ?_;rotate_left
      ·intro w';go_simp;with_reducible rfl
      rotate_left
      ·exact zp
      refine pure_ (i:=5) (N:=some 38) (v:=?_) (a':=?_) #[zT,zT,zT,zT,zT,zT,zF,zF,zF,zF,zF,zF,zF,zF,zF,zF,zF,zF,zF,zF,zF,zF,zF,zF,zF,zF] rfl rfl (any_of HT_.out (by kernel_rfl)) (fun _ _ _ h=>h) (Or.inl ⟨by rfl,?_⟩) ?_ ?_;rotate_left
      ·intro w';go_simp;with_reducible rfl
      rotate_left
      ·exact zp
      refine pure_ (i:=6) (N:=some 39) (v:=?_) (a':=?_) #[zT,zT,zT,zT,zT,zT,zT,zF,zF,zF,zF,zF,zF,zF,zF,zF,zF,zF,zF,zF,zF,zF,zF,zF,zF,zF] rfl rfl (any_of HT_.out (by kernel_rfl)) (fun _ _ _ h=>h) (Or.inl ⟨by rfl,?_⟩) ?_ ?_;rotate_left
      ·intro w';go_simp;with_reducible rfl
      rotate_left
      ·exact zp
      refine pure_ (i:=7) (N:=some 40) (v:=?_) (a':=?_) #[zT,zT,zT,zT,zT,zT,zT,zT,zF,zF,zF,zF,zF,zF,zF,zF,zF,zF,zF,zF,zF,zF,zF,zF,zF,zF] rfl rfl (any_of HT_.out (by kernel_rfl)) (fun _ _ _ h=>h) (Or.inl ⟨by rfl,?_⟩) ?_ ?_;rotate_left
      ·intro w';go_simp;with_reducible rfl
      rotate_left
      ·exact zp
      refine pure_ (i:=8) (N:=some 41) (v:=?_) (a':=?_) #[zT,zT,zT,zT,zT,zT,zT,zT,zT,zF,zF,zF,zF,zF,zF,zF,zF,zF,zF,zF,zF,zF,zF,zF,zF,zF] rfl rfl (any_of HT_.out (by kernel_rfl)) (fun _ _ _ h=>h) (Or.inl ⟨by rfl,?_⟩) ?_ ?_;rotate_left
      ·intro w';go_simp;with_reducible rfl
      rotate_left
      ·exact zp
      refine pure_ (i:=9) (N:=some 42) (v:=?_) (a':=?_) #[zT,zT,zT,zT,zT,zT,zT,zT,zT,zT,zF,zF,zF,zF,zF,zF,zF,zF,zF,zF,zF,zF,zF,zF,zF,zF] rfl rfl (any_of HT_.out (by kernel_rfl)) (fun _ _ _ h=>h) (Or.inl ⟨by rfl,?_⟩) ?_ ?_;rotate_left
      ·intro w';go_simp;with_reducible rfl
      rotate_left
      ·exact zp
      refine pure_ (i:=10) (N:=some 43) (v:=?_) (a':=?_) #[zT,zT,zT,zT,zT,zT,zT,zT,zT,zT,zT,zF,zF,zF,zF,zF,zF,zF,zF,zF,zF,zF,zF,zF,zF,zF] rfl rfl (any_of HT_.out (by kernel_rfl)) (fun _ _ _ h=>h) (Or.inl ⟨by rfl,?_⟩) ?_ ?_;rotate_left
      ·intro w';go_simp;with_reducible rfl
      rotate_left
      ·exact zp
      refine pure_ (i:=11) (N:=some 44) (v:=?_) (a':=?_) #[zT,zT,zT,zT,zT,zT,zT,zT,zT,zT,zT,zT,zF,zF,zF,zF,zF,zF,zF,zF,zF,zF,zF,zF,zF,zF] rfl rfl (any_of HT_.out (by kernel_rfl)) (fun _ _ _ h=>h) (Or.inl ⟨by rfl,?_⟩) ?_ ?_;rotate_left
      ·intro w';go_simp;with_reducible rfl
      rotate_left
      ·exact zp
      refine pure_ (i:=12) (N:=some 45) (v:=?_) (a':=?_) #[zT,zT,zT,zT,zT,zT,zT,zT,zT,zT,zT,zT,zT,zF,zF,zF,zF,zF,zF,zF,zF,zF,zF,zF,zF,zF] rfl rfl (any_of HT_.out (by kernel_rfl)) (fun _ _ _ h=>h) (Or.inl ⟨by rfl,?_⟩) ?_ ?_;rotate_left
      ·intro w';go_simp;with_reducible rfl
      rotate_left
      ·exact zp
      refine pure_ (i:=13) (N:=some 46) (v:=?_) (a':=?_) #[zT,zT,zT,zT,zT,zT,zT,zT,zT,zT,zT,zT,zT,zT,zF,zF,zF,zF,zF,zF,zF,zF,zF,zF,zF,zF] rfl rfl (any_of HT_.out (by kernel_rfl)) (fun _ _ _ h=>h) (Or.inl ⟨by rfl,?_⟩) ?_ ?_;rotate_left
      ·intro w';go_simp;with_reducible rfl
      rotate_left
      ·exact zp
      refine pure_ (i:=14) (N:=some 47) (v:=?_) (a':=?_) #[zT,zT,zT,zT,zT,zT,zT,zT,zT,zT,zT,zT,zT,zT,zT,zF,zF,zF,zF,zF,zF,zF,zF,zF,zF,zF] rfl rfl (any_of HT_.out (by kernel_rfl)) (fun _ _ _ h=>h) (Or.inl ⟨by rfl,?_⟩) ?_ ?_;rotate_left
      ·intro w';go_simp;with_reducible rfl
      rotate_left
      ·exact zp
      refine pure_ (i:=15) (N:=some 48) (v:=?_) (a':=?_) #[zT,zT,zT,zT,zT,zT,zT,zT,zT,zT,zT,zT,zT,zT,zT,zT,zF,zF,zF,zF,zF,zF,zF,zF,zF,zF] rfl rfl (any_of HT_.out (by kernel_rfl)) (fun _ _ _ h=>h) (Or.inl ⟨by rfl,?_⟩) ?_ ?_;rotate_left
      ·intro w';go_simp;with_reducible rfl
      rotate_left
      ·exact zp
      refine pure_ (i:=16) (N:=some 49) (v:=?_) (a':=?_) #[zT,zT,zT,zT,zT,zT,zT,zT,zT,zT,zT,zT,zT,zT,zT,zT,zT,zF,zF,zF,zF,zF,zF,zF,zF,zF] rfl rfl (any_of HT_.out (by kernel_rfl)) (fun _ _ _ h=>h) (Or.inl ⟨by rfl,?_⟩) ?_ ?_;rotate_left
      ·intro w';go_simp;with_reducible rfl
      rotate_left
      ·exact zp
      refine pure_ (i:=17) (N:=some 50) (v:=?_) (a':=?_) #[zT,zT,zT,zT,zT,zT,zT,zT,zT,zT,zT,zT,zT,zT,zT,zT,zT,zT,zF,zF,zF,zF,zF,zF,zF,zF] rfl rfl (any_of HT_.out (by kernel_rfl)) (fun _ _ _ h=>h) (Or.inl ⟨by rfl,?_⟩) ?_ ?_;rotate_left
      ·intro w';go_simp;with_reducible rfl
      rotate_left
      ·exact zp
      refine pure_ (i:=18) (N:=some 51) (v:=?_) (a':=?_) #[zT,zT,zT,zT,zT,zT,zT,zT,zT,zT,zT,zT,zT,zT,zT,zT,zT,zT,zT,zF,zF,zF,zF,zF,zF,zF] rfl rfl (any_of HT_.out (by kernel_rfl)) (fun _ _ _ h=>h) (Or.inl ⟨by rfl,?_⟩) ?_ ?_;rotate_left
      ·intro w';go_simp;with_reducible rfl
      rotate_left
      ·exact zp
      refine pure_ (i:=19) (N:=some 52) (v:=?_) (a':=?_) #[zT,zT,zT,zT,zT,zT,zT,zT,zT,zT,zT,zT,zT,zT,zT,zT,zT,zT,zT,zT,zF,zF,zF,zF,zF,zF] rfl rfl (any_of HT_.out (by kernel_rfl)) (fun _ _ _ h=>h) (Or.inl ⟨by rfl,?_⟩) ?_ ?_;rotate_left
      ·intro w';go_simp;with_reducible rfl
      rotate_left
      ·exact zp
      refine take_ (i:=20) (N:=some 53) (v:=?_) (a':=?_) #[zT,zT,zT,zT,zT,zT,zT,zT,zT,zT,zT,zT,zT,zT,zT,zT,zT,zT,zT,zT,zT,zF,zF,zF,zF,zF] rfl rfl (take_ofW HT_.out HW_.out (by kernel_rfl)) (fun _ _ _ h=>h) (Or.inl ⟨by rfl,?_⟩) hHeld ?_ ?_;rotate_left
      ·rintro w' ⟨s0,s1,s2,s3⟩;go_simp;with_reducible rfl
      rotate_left
      ·exact zp
      refine take_ (i:=22) (N:=some 55) (v:=?_) (a':=?_) #[zT,zT,zT,zT,zT,zT,zT,zT,zT,zT,zT,zT,zT,zT,zT,zT,zT,zT,zT,zT,zT,zF,zT,zF,zF,zF] rfl rfl (take_ofW HT_.out HW_.out (by kernel_rfl)) (fun _ _ _ h=>h) (Or.inl ⟨by rfl,?_⟩) hHeld ?_ ?_;rotate_left
      ·rintro w' ⟨s0,s1,s2,s3⟩;go_simp;with_reducible rfl
      rotate_left
      ·exact zp
      refine one_ (i:=21) (N:=some 54) #[zT,zT,zT,zT,zT,zT,zT,zT,zT,zT,zT,zT,zT,zT,zT,zT,zT,zT,zT,zT,zT,zT,zT,zF,zF,zF] rfl rfl (one_of HT_.out (by kernel_rfl)) (by decide) (fun K hK=>?_);refine goes_ Tryz.func43 (by kernel_rfl) rfl #[.agg #[.int .i64 a0_0,.int .i64 a0_1,.int .i64 a0_2,.int .i64 a0_3]] (by rfl) rfl rfl fq ?_;with_reducible refine (insn_Relative.calls k a0_0 a0_1 a0_2 a0_3 t1157 _ A26.out gwy).mono ?_
      rintro e w30 ⟨rfl,hb⟩;refine ⟨_,rfl,?_⟩;have n0_:=Aside0.mk (blk_below (g:=gb1147) (o:=.cells #[.int .i64 a0_0,.int .i64 a0_1,.int .i64 a0_2,.int .i64 a0_3] 23 (0,0)) bko hb);have n1_:=Aside0.mk (below_step blw hb);clear BK1147;clear HB;have BK1147:=n0_;have HB:=n1_;clear n0_ n1_;(try clear hb);(try clear hb2);(try clear hk);(try clear hi);refine hK.out _ _ ⟨(blk_cell BK1147.out 0).trans rfl,(blk_cell BK1147.out 1).trans rfl,(blk_cell BK1147.out 2).trans rfl,(blk_cell BK1147.out 3).trans rfl⟩ (fun hHeld=>?_);clear hK K;refine norm_ (a':=?_) ?_ ?_;rotate_left
      ·show Act.put _ (some 54) _=_;simp only [Act.put,List.setIfInBounds_toArray,List.set_cons_zero,List.set_cons_succ,i64_w,i32_w];rfl
      refine one_ (i:=23) (N:=some 56) #[zT,zT,zT,zT,zT,zT,zT,zT,zT,zT,zT,zT,zT,zT,zT,zT,zT,zT,zT,zT,zT,zT,zT,zT,zF,zF] rfl rfl (one_of HT_.out (by kernel_rfl)) (by decide) (fun K hK=>?_);refine goes_ Tryz.func44 (by kernel_rfl) rfl #[.agg #[.int .i64 a0_0,.int .i64 a0_1,.int .i64 a0_2,.int .i64 a0_3]] (by rfl) rfl rfl fq ?_;with_reducible refine (rzRelative.calls k a0_0 a0_1 a0_2 a0_3 t1158 _ A27.out).mono ?_
      rintro e w31 ⟨rfl,hb⟩;refine ⟨_,rfl,?_⟩;have n0_:=Aside0.mk (blk_below (g:=gb1147) (o:=.cells #[.int .i64 a0_0,.int .i64 a0_1,.int .i64 a0_2,.int .i64 a0_3] 23 (0,0)) bko hb);have n1_:=Aside0.mk (below_step blw hb);clear BK1147;clear HB;have BK1147:=n0_;have HB:=n1_;clear n0_ n1_;(try clear hb);(try clear hb2);(try clear hk);(try clear hi);refine hK.out _ _ ⟨(blk_cell BK1147.out 0).trans rfl,(blk_cell BK1147.out 1).trans rfl,(blk_cell BK1147.out 2).trans rfl,(blk_cell BK1147.out 3).trans rfl⟩ (fun hHeld=>?_);clear hK K;refine norm_ (a':=?_) ?_ ?_;rotate_left
      ·show Act.put _ (some 56) _=_;simp only [Act.put,List.setIfInBounds_toArray,List.set_cons_zero,List.set_cons_succ,i64_w,i32_w];rfl
      refine pure_ (i:=24) (N:=some 57) (v:=?_) (a':=?_) #[zT,zT,zT,zT,zT,zT,zT,zT,zT,zT,zT,zT,zT,zT,zT,zT,zT,zT,zT,zT,zT,zT,zT,zT,zT,zF] rfl rfl (any_of HT_.out (by kernel_rfl)) (fun _ _ _ h=>h) (Or.inl ⟨by rfl,?_⟩) ?_ ?_;rotate_left
      ·intro w';go_simp;with_reducible rfl
      rotate_left
      ·exact zp
      refine pure_ (i:=25) (N:=some 58) (v:=?_) (a':=?_) #[zT,zT,zT,zT,zT,zT,zT,zT,zT,zT,zT,zT,zT,zT,zT,zT,zT,zT,zT,zT,zT,zT,zT,zT,zT,zT] rfl rfl (any_of HT_.out (by kernel_rfl)) (fun _ _ _ h=>h) (Or.inl ⟨by rfl,?_⟩) ?_ ?_;rotate_left
      ·intro w';go_simp;with_reducible rfl
      rotate_left
      ·exact zp
      refine done_ (done_of HT_.out (by kernel_rfl)) ?_;try go_wp2
      go_meet
      case rel=>exact ⟨_,((t1157 != t1158)),rsd,H',⟨by first | omega | exact Nat.le_refl _⟩,⟨bko⟩,⟨blw⟩⟩
    ·rw [if_neg c22] at H;obtain ⟨c22b0,c22b1⟩:=bqf c22;exact absurd (H.trans (congrArg some hrt)) (by cases k <;> simp [lzInsnChecks.j0])
   ·rw [if_neg c21] at H;obtain ⟨c21b0,c21b1⟩:=bqf c21;exact absurd (H.trans (congrArg some hrt)) (by cases k <;> simp [lzInsnChecks.j0])
  ·rw [if_neg c20] at H;obtain ⟨c20b0,c20b1⟩:=bqf c20;(first | rw [c20b0] | (simp only [i64_w,i32_w];rw [c20b0]) | skip);exact absurd (H.trans (congrArg some hrt)) (by cases k <;> simp [lzInsnChecks.j0])
 case rest =>
  clear HC8;obtain ⟨kq,x58_7,rfl,HA,HJ7,BK1147,HB⟩:=hcut;cases kq with
  | zero=>exact absurd HA.out (by simp [lzInsnChecks.j0])
  | succ kj7 =>
   have H:=HA.out;clear HA;simp only [lzInsnChecks.j0] at H;by_cases c38:x58_7=true
   ·subst c38;have H1:(some false)=some r:=by rw [if_pos rfl] at H;exact H
    clear H;have H:=H1;clear H1;exact absurd (H.trans (congrArg some hrt)) (by simp)
   ·replace c38:=Bool.eq_false_iff.mpr c38;subst c38;have H1:(if t1149=0 then ((rzLen.f kj7 a0_0 a0_1 a0_2 a0_3).bind fun t1159=>(if t1150=t1159 then (if t1150 < 1 then (lzInsnChecks.j1 kj7 t1148 true a0_0 a0_1 a0_2 a0_3) else (if t1150 > 12 then (lzInsnChecks.j1 kj7 t1148 true a0_0 a0_1 a0_2 a0_3) else (lzInsnChecks.j1 kj7 t1148 false a0_0 a0_1 a0_2 a0_3))) else (lzInsnChecks.j1 kj7 t1148 true a0_0 a0_1 a0_2 a0_3))) else (lzInsnChecks.j1 kj7 t1148 (t1150 != 0) a0_0 a0_1 a0_2 a0_3))=some r:=by rw [if_neg (show ¬ (false=true) by decide)] at H;exact H
    clear H;have H:=H1;clear H1;have HC39:=Aside0.mk H;clear H;go_upto_region 8 with (fail)
    go_cut [82] (fun v82 wc=>∃ (kq:Nat) (x82_38:Bool),v82=.bool x82_38∧Aside0 (lzInsnChecks.j1 kq t1148 x82_38 a0_0 a0_1 a0_2 a0_3=some r)∧Aside0 (kq≤kj7)∧Aside0 (wc.heap[gb1147]?=some (.cells #[.int .i64 a0_0,.int .i64 a0_1,.int .i64 a0_2,.int .i64 a0_3] 23 (0,0)))∧Aside0 (Below w.heap.size w wc))
    case first =>
     have H:=HC39.out;clear HC39;by_cases c40:t1149=0
     ·rw [if_pos c40] at H;obtain ⟨c40b0,c40b1⟩:=bqt c40;clear c40;(first | rw [c40b0] | (simp only [i64_w,i32_w];rw [c40b0]) | skip);replace H:=Option.bind_eq_some_iff.mp H;obtain ⟨t1159,A410,H⟩:=H;replace H:(if t1150=t1159 then (if t1150 < 1 then (lzInsnChecks.j1 kj7 t1148 true a0_0 a0_1 a0_2 a0_3) else (if t1150 > 12 then (lzInsnChecks.j1 kj7 t1148 true a0_0 a0_1 a0_2 a0_3) else (lzInsnChecks.j1 kj7 t1148 false a0_0 a0_1 a0_2 a0_3))) else (lzInsnChecks.j1 kj7 t1148 true a0_0 a0_1 a0_2 a0_3))=some r:=H;have A41:=Aside0.mk A410;clear A410;by_cases c42:t1150=t1159
      ·rw [if_pos c42] at H;obtain ⟨c42b0,c42b1⟩:=bqt c42;clear c42;by_cases c43:t1150 < 1
       ·rw [if_pos c43] at H;have c43b0:=decide_eq_true c43;clear c43;exact absurd (H.trans (congrArg some hrt)) (by cases kj7 <;> simp [lzInsnChecks.j1])
       ·rw [if_neg c43] at H;have c43b0:=decide_eq_false c43;clear c43;by_cases c46:t1150 > 12
        ·rw [if_pos c46] at H;have c46b0:decide (12 < t1150)=true:=decide_eq_true c46;clear c46;exact absurd (H.trans (congrArg some hrt)) (by cases kj7 <;> simp [lzInsnChecks.j1])
        ·rw [if_neg c46] at H;have c46b0:decide (12 < t1150)=false:=decide_eq_false c46;clear c46;have H':=Aside0.mk H;clear H;obtain ⟨hcz49_0,hcz49_1,hcz49_2,hcz49_3,hfz49_0,hfz49_1,hfz49_2,hfz49_3⟩:=bz4 BK1147.out;go_wp2_with (first | (go_at_call 45;(with_reducible refine (rzLen.calls kj7 a0_0 a0_1 a0_2 a0_3 t1159 _ A41.out).mono ?_);rintro e w50 ⟨rfl,hb⟩;have n0_:=Aside0.mk (blk_below (g:=gb1147) (o:=.cells #[.int .i64 a0_0,.int .i64 a0_1,.int .i64 a0_2,.int .i64 a0_3] 23 (0,0)) bko hb);have n1_:=Aside0.mk (below_step blw hb);clear BK1147;clear HB;have BK1147:=n0_;have HB:=n1_;clear n0_ n1_;(try clear hb);(try clear hb2);(try clear hk);(try clear hi)))
         go_meet
         case rel=>exact ⟨_,(false),rsd,H',⟨by have:=HJ7.out;first | omega | exact Nat.le_refl _⟩,⟨bko⟩,⟨blw⟩⟩
      ·rw [if_neg c42] at H;obtain ⟨c42b0,c42b1⟩:=bqf c42;exact absurd (H.trans (congrArg some hrt)) (by cases kj7 <;> simp [lzInsnChecks.j1])
     ·rw [if_neg c40] at H;obtain ⟨c40b0,c40b1⟩:=bqf c40;(first | rw [c40b0] | (simp only [i64_w,i32_w];rw [c40b0]) | skip);have H':=Aside0.mk H;clear H;go_wp2;go_meet
      case rel=>exact ⟨_,((t1150 != 0)),rsd,H',⟨by have:=HJ7.out;first | omega | exact Nat.le_refl _⟩,⟨bko⟩,⟨blw⟩⟩
    case rest =>
     clear HC39;try clear c38
     obtain ⟨kq,x82_38,rfl,HA,HJ38,BK1147,HB⟩:=hcut;cases kq with
     | zero=>exact absurd HA.out (by simp [lzInsnChecks.j1])
     | succ kj38 =>
      have H:=HA.out;clear HA;simp only [lzInsnChecks.j1] at H;by_cases c53:x82_38=true
      ·subst c53;have H1:(some false)=some r:=by rw [if_pos rfl] at H;exact H
       clear H;have H:=H1;clear H1;exact absurd (H.trans (congrArg some hrt)) (by simp)
      ·replace c53:=Bool.eq_false_iff.mpr c53;subst c53;have H1:(if t1148=true then ((insn_Reads.f kj38 a0_0 a0_1 a0_2 a0_3).bind fun t1160=>((rzReads.f kj38 a0_0 a0_1 a0_2 a0_3).bind fun t1163=>((lzsameInts.f kj38 t1160 t1163).bind fun t1166=>(if t1166=true then ((insn_Writes.f kj38 a0_0 a0_1 a0_2 a0_3).bind fun t1167=>((rzWrites.f kj38 a0_0 a0_1 a0_2 a0_3).bind fun t1170=>((lzsameInts.f kj38 t1167 t1170).bind fun t1173=>(some t1173)))) else (some false))))) else (some false))=some r:=by rw [if_neg (show ¬ (false=true) by decide)] at H;exact H
       clear H;have H:=H1;clear H1;by_cases c54:t1148=true
       ·subst c54;have H1:((insn_Reads.f kj38 a0_0 a0_1 a0_2 a0_3).bind fun t1160=>((rzReads.f kj38 a0_0 a0_1 a0_2 a0_3).bind fun t1163=>((lzsameInts.f kj38 t1160 t1163).bind fun t1166=>(if t1166=true then ((insn_Writes.f kj38 a0_0 a0_1 a0_2 a0_3).bind fun t1167=>((rzWrites.f kj38 a0_0 a0_1 a0_2 a0_3).bind fun t1170=>((lzsameInts.f kj38 t1167 t1170).bind fun t1173=>(some t1173)))) else (some false)))))=some r:=by rw [if_pos rfl] at H;exact H
        clear H;have H:=H1;clear H1;replace H:=Option.bind_eq_some_iff.mp H;obtain ⟨t1160,A550,H⟩:=H;replace H:((rzReads.f kj38 a0_0 a0_1 a0_2 a0_3).bind fun t1163=>((lzsameInts.f kj38 t1160 t1163).bind fun t1166=>(if t1166=true then ((insn_Writes.f kj38 a0_0 a0_1 a0_2 a0_3).bind fun t1167=>((rzWrites.f kj38 a0_0 a0_1 a0_2 a0_3).bind fun t1170=>((lzsameInts.f kj38 t1167 t1170).bind fun t1173=>(some t1173)))) else (some false))))=some r:=H;have A55:=Aside0.mk A550;clear A550;replace H:=Option.bind_eq_some_iff.mp H;obtain ⟨t1163,A560,H⟩:=H;replace H:((lzsameInts.f kj38 t1160 t1163).bind fun t1166=>(if t1166=true then ((insn_Writes.f kj38 a0_0 a0_1 a0_2 a0_3).bind fun t1167=>((rzWrites.f kj38 a0_0 a0_1 a0_2 a0_3).bind fun t1170=>((lzsameInts.f kj38 t1167 t1170).bind fun t1173=>(some t1173)))) else (some false)))=some r:=H;have A56:=Aside0.mk A560;clear A560;replace H:=Option.bind_eq_some_iff.mp H;obtain ⟨t1166,A570,H⟩:=H;replace H:(if t1166=true then ((insn_Writes.f kj38 a0_0 a0_1 a0_2 a0_3).bind fun t1167=>((rzWrites.f kj38 a0_0 a0_1 a0_2 a0_3).bind fun t1170=>((lzsameInts.f kj38 t1167 t1170).bind fun t1173=>(some t1173)))) else (some false))=some r:=H;have A57:=Aside0.mk A570;clear A570;by_cases c58:t1166=true
        ·subst c58;have H1:((insn_Writes.f kj38 a0_0 a0_1 a0_2 a0_3).bind fun t1167=>((rzWrites.f kj38 a0_0 a0_1 a0_2 a0_3).bind fun t1170=>((lzsameInts.f kj38 t1167 t1170).bind fun t1173=>(some t1173))))=some r:=by rw [if_pos rfl] at H;exact H
         clear H;have H:=H1;clear H1;replace H:=Option.bind_eq_some_iff.mp H;obtain ⟨t1167,A590,H⟩:=H;replace H:((rzWrites.f kj38 a0_0 a0_1 a0_2 a0_3).bind fun t1170=>((lzsameInts.f kj38 t1167 t1170).bind fun t1173=>(some t1173)))=some r:=H;have A59:=Aside0.mk A590;clear A590;replace H:=Option.bind_eq_some_iff.mp H;obtain ⟨t1170,A600,H⟩:=H;replace H:((lzsameInts.f kj38 t1167 t1170).bind fun t1173=>(some t1173))=some r:=H;have A60:=Aside0.mk A600;clear A600;replace H:=Option.bind_eq_some_iff.mp H;obtain ⟨t1173,A610,H⟩:=H;replace H:(some t1173)=some r:=H;have A61:=Aside0.mk A610;clear A610;obtain rfl:=Option.some.inj H;try go_wp2
         have n0_:=Aside0.mk (blk_drew BK1147.out);have n1_:=Aside0.mk (below_drew1 HB.out);clear BK1147;clear HB;have BK1147:=n0_;have HB:=n1_;clear n0_ n1_;refine start_ (n:=16) (S:=fun w'=>w'.cell? ⟨gb1147,0,none⟩=some (.int .i64 a0_0)∧w'.cell? ⟨gb1147,1,none⟩=some (.int .i64 a0_1)∧w'.cell? ⟨gb1147,2,none⟩=some (.int .i64 a0_2)∧w'.cell? ⟨gb1147,3,none⟩=some (.int .i64 a0_3)) (ds:=[]) #[zF,zF,zF,zF,zF,zF,zF,zF,zF,zF,zF,zF,zF,zF,zF,zF] (by kernel_rfl) rfl rfl ⟨(blk_cell BK1147.out 0).trans rfl,(blk_cell BK1147.out 1).trans rfl,(blk_cell BK1147.out 2).trans rfl,(blk_cell BK1147.out 3).trans rfl⟩ (fun hHeld=>?_);refine with_tabW lzInsnChecks.tab10 lzInsnChecks.bits10 (fun HT_ HW_=>?_);generalize wc.drew=w62 at BK1147 HB hHeld ⊢;refine pure_ (i:=0) (N:=some 83) (v:=?_) (a':=?_) #[zT,zF,zF,zF,zF,zF,zF,zF,zF,zF,zF,zF,zF,zF,zF,zF] rfl rfl (any_of HT_.out (by kernel_rfl)) (fun _ _ _ h=>h) (Or.inl ⟨by rfl,?_⟩) ?_ ?_;rotate_left
         ·intro w';go_simp;with_reducible rfl
         rotate_left
         ·exact zp
         refine pure_ (i:=1) (N:=some 84) (v:=?_) (a':=?_) #[zT,zT,zF,zF,zF,zF,zF,zF,zF,zF,zF,zF,zF,zF,zF,zF] rfl rfl (any_of HT_.out (by kernel_rfl)) (fun _ _ _ h=>h) (Or.inl ⟨by rfl,?_⟩) ?_ ?_;rotate_left
         ·intro w';go_simp;with_reducible rfl
         rotate_left
         ·exact zp
         refine take_ (i:=2) (N:=some 85) (v:=?_) (a':=?_) #[zT,zT,zT,zF,zF,zF,zF,zF,zF,zF,zF,zF,zF,zF,zF,zF] rfl rfl (take_ofW HT_.out HW_.out (by kernel_rfl)) (fun _ _ _ h=>h) (Or.inl ⟨by rfl,?_⟩) hHeld ?_ ?_;rotate_left
         ·rintro w' ⟨s0,s1,s2,s3⟩;go_simp;with_reducible rfl
         rotate_left
         ·exact zp
         refine take_ (i:=4) (N:=some 87) (v:=?_) (a':=?_) #[zT,zT,zT,zF,zT,zF,zF,zF,zF,zF,zF,zF,zF,zF,zF,zF] rfl rfl (take_ofW HT_.out HW_.out (by kernel_rfl)) (fun _ _ _ h=>h) (Or.inl ⟨by rfl,?_⟩) hHeld ?_ ?_;rotate_left
         ·rintro w' ⟨s0,s1,s2,s3⟩;go_simp;with_reducible rfl
         rotate_left
         ·exact zp
         refine one_ (i:=3) (N:=some 86) #[zT,zT,zT,zT,zT,zF,zF,zF,zF,zF,zF,zF,zF,zF,zF,zF] rfl rfl (one_of HT_.out (by kernel_rfl)) (by decide) (fun K hK=>?_);refine goes_ Tryz.func46 (by kernel_rfl) rfl #[.agg #[.int .i64 a0_0,.int .i64 a0_1,.int .i64 a0_2,.int .i64 a0_3]] (by rfl) rfl rfl fq ?_;with_reducible refine (insn_Reads.calls kj38 a0_0 a0_1 a0_2 a0_3 t1160 _ A55.out gwy).mono ?_
         rintro e w63 ⟨v1161,rfl,ho0,hb⟩;refine ⟨_,rfl,?_⟩;have n0_:=Aside0.mk (Kd.R_lower ho0 (below_size blw));have n1_:=Aside0.mk (blk_below (g:=gb1147) (o:=.cells #[.int .i64 a0_0,.int .i64 a0_1,.int .i64 a0_2,.int .i64 a0_3] 23 (0,0)) bko hb);have n2_:=Aside0.mk (below_step blw hb);clear BK1147;clear HB;have HO1162:=n0_;have BK1147:=n1_;have HB:=n2_;clear n0_ n1_ n2_;(try clear hb);(try clear hb2);(try clear hk);(try clear hi);(try clear ho0);refine hK.out _ _ ⟨(blk_cell BK1147.out 0).trans rfl,(blk_cell BK1147.out 1).trans rfl,(blk_cell BK1147.out 2).trans rfl,(blk_cell BK1147.out 3).trans rfl⟩ (fun hHeld=>?_);clear hK K;refine norm_ (a':=?_) ?_ ?_;rotate_left
         ·show Act.put _ (some 86) _=_;simp only [Act.put,List.setIfInBounds_toArray,List.set_cons_zero,List.set_cons_succ,i64_w,i32_w];rfl
         refine one_ (i:=5) (N:=some 88) #[zT,zT,zT,zT,zT,zT,zF,zF,zF,zF,zF,zF,zF,zF,zF,zF] rfl rfl (one_of HT_.out (by kernel_rfl)) (by decide) (fun K hK=>?_);refine goes_ Tryz.func47 (by kernel_rfl) rfl #[.agg #[.int .i64 a0_0,.int .i64 a0_1,.int .i64 a0_2,.int .i64 a0_3]] (by rfl) rfl rfl fq ?_;with_reducible refine (rzReads.calls kj38 a0_0 a0_1 a0_2 a0_3 t1163 _ A56.out).mono ?_
         rintro e w64 ⟨v1164,rfl,ho0,hb⟩;refine ⟨_,rfl,?_⟩;have n0_:=Aside0.mk (Kd.R_elder' (by (with_reducible repeat (first | apply Kd.R_alloc | apply Kd.R_drewN | apply Kd.R_drew));exact HO1162.out) (Kd.R_base ho0) hb);have n1_:=Aside0.mk (Kd.R_lower (Kd.R_new' ho0 (Kd.R_lt (by (with_reducible repeat (first | apply Kd.R_alloc | apply Kd.R_drewN | apply Kd.R_drew));exact HO1162.out))) (below_size blw));have n2_:=Aside0.mk (blk_below (g:=gb1147) (o:=.cells #[.int .i64 a0_0,.int .i64 a0_1,.int .i64 a0_2,.int .i64 a0_3] 23 (0,0)) bko hb);have n3_:=Aside0.mk (below_step blw hb);clear HO1162;clear BK1147;clear HB;have HO1162:=n0_;have HO1165:=n1_;have BK1147:=n2_;have HB:=n3_;clear n0_ n1_ n2_ n3_;(try clear hb);(try clear hb2);(try clear hk);(try clear hi);(try clear ho0);obtain ⟨Ao65,co65,eo65⟩:=Kd.R_slice HO1162.out;(first | subst eo65 | (injection eo65 with f1_ f2_ f3_;have f4_:=f1_.symm;have f5_:=f3_.symm;clear f1_ f2_ f3_;subst f4_;subst f5_));obtain ⟨Ao66,co66,eo66⟩:=Kd.R_slice HO1165.out;(first | subst eo66 | (injection eo66 with f1_ f2_ f3_;have f4_:=f1_.symm;have f5_:=f3_.symm;clear f1_ f2_ f3_;subst f4_;subst f5_));refine hK.out _ _ ⟨(blk_cell BK1147.out 0).trans rfl,(blk_cell BK1147.out 1).trans rfl,(blk_cell BK1147.out 2).trans rfl,(blk_cell BK1147.out 3).trans rfl⟩ (fun hHeld=>?_);clear hK K;refine norm_ (a':=?_) ?_ ?_;rotate_left
         ·show Act.put _ (some 88) _=_;simp only [Act.put,List.setIfInBounds_toArray,List.set_cons_zero,List.set_cons_succ,i64_w,i32_w];rfl
         refine one_ (i:=6) (N:=some 89) #[zT,zT,zT,zT,zT,zT,zT,zF,zF,zF,zF,zF,zF,zF,zF,zF] rfl rfl (one_of HT_.out (by kernel_rfl)) (by decide) (fun K hK=>?_);refine goes_ Tryz.func35 (by kernel_rfl) rfl #[.slice Ao65 t1160.length co65,.slice Ao66 t1163.length co66] (by rfl) rfl rfl fq ?_;with_reducible refine (lzsameInts.calls kj38 _ _ t1160 _ _ t1163 true _ ?side1 ?side2 ?side3 ?side4 A57.out).mono ?_
         (case side1=>repeat (first | exact (Kd.R_reads' HO1162.out).2.2 | (with_reducible refine Kd.C_alloc ?_ _) | (with_reducible refine Kd.C_drewN ?_ _) | (with_reducible refine Kd.C_drew ?_)));(case side2=>exact (Kd.R_reads' HO1162.out).2.1);(case side3=>repeat (first | exact (Kd.R_reads' HO1165.out).2.2 | (with_reducible refine Kd.C_alloc ?_ _) | (with_reducible refine Kd.C_drewN ?_ _) | (with_reducible refine Kd.C_drew ?_)));(case side4=>exact (Kd.R_reads' HO1165.out).2.1);rintro e w' ⟨rfl,⟨nd,rfl⟩⟩;refine ⟨_,rfl,?_⟩;refine hK.out _ _ ⟨(blk_cell BK1147.out 0).trans rfl,(blk_cell BK1147.out 1).trans rfl,(blk_cell BK1147.out 2).trans rfl,(blk_cell BK1147.out 3).trans rfl⟩ (fun hHeld=>?_);clear hK K;refine norm_ (a':=?_) ?_ ?_;rotate_left
         ·show Act.put _ (some 89) _=_;simp only [Act.put,List.setIfInBounds_toArray,List.set_cons_zero,List.set_cons_succ,i64_w,i32_w];rfl
         refine pure_ (i:=7) (N:=some 90) (v:=?_) (a':=?_) #[zT,zT,zT,zT,zT,zT,zT,zT,zF,zF,zF,zF,zF,zF,zF,zF] rfl rfl (any_of HT_.out (by kernel_rfl)) (fun _ _ _ h=>h) (Or.inl ⟨by rfl,?_⟩) ?_ ?_;rotate_left
         ·intro w';go_simp;with_reducible rfl
         rotate_left
         ·exact zp
         refine pure_ (i:=8) (N:=some 91) (v:=?_) (a':=?_) #[zT,zT,zT,zT,zT,zT,zT,zT,zT,zF,zF,zF,zF,zF,zF,zF] rfl rfl (any_of HT_.out (by kernel_rfl)) (fun _ _ _ h=>h) (Or.inl ⟨by rfl,?_⟩) ?_ ?_;rotate_left
         ·intro w';go_simp;with_reducible rfl
         rotate_left
         ·exact zp
         refine take_ (i:=9) (N:=some 92) (v:=?_) (a':=?_) #[zT,zT,zT,zT,zT,zT,zT,zT,zT,zT,zF,zF,zF,zF,zF,zF] rfl rfl (take_ofW HT_.out HW_.out (by kernel_rfl)) (fun _ _ _ h=>h) (Or.inl ⟨by rfl,?_⟩) hHeld ?_ ?_;rotate_left
         ·rintro w' ⟨s0,s1,s2,s3⟩;go_simp;with_reducible rfl
         rotate_left
         ·exact zp
         refine take_ (i:=11) (N:=some 94) (v:=?_) (a':=?_) #[zT,zT,zT,zT,zT,zT,zT,zT,zT,zT,zF,zT,zF,zF,zF,zF] rfl rfl (take_ofW HT_.out HW_.out (by kernel_rfl)) (fun _ _ _ h=>h) (Or.inl ⟨by rfl,?_⟩) hHeld ?_ ?_;rotate_left
         ·rintro w' ⟨s0,s1,s2,s3⟩;go_simp;with_reducible rfl
         rotate_left
         ·exact zp
         refine one_ (i:=10) (N:=some 93) #[zT,zT,zT,zT,zT,zT,zT,zT,zT,zT,zT,zT,zF,zF,zF,zF] rfl rfl (one_of HT_.out (by kernel_rfl)) (by decide) (fun K hK=>?_);refine goes_ Tryz.func48 (by kernel_rfl) rfl #[.agg #[.int .i64 a0_0,.int .i64 a0_1,.int .i64 a0_2,.int .i64 a0_3]] (by rfl) rfl rfl fq ?_;with_reducible refine (insn_Writes.calls kj38 a0_0 a0_1 a0_2 a0_3 t1167 _ A59.out gwy).mono ?_
         rintro e w67 ⟨v1168,rfl,ho0,hb⟩;refine ⟨_,rfl,?_⟩;have n0_:=Aside0.mk (Kd.R_elder' (by (with_reducible repeat (first | apply Kd.R_alloc | apply Kd.R_drewN | apply Kd.R_drew));exact HO1162.out) (Kd.R_base ho0) hb);have n1_:=Aside0.mk (Kd.R_elder' (by (with_reducible repeat (first | apply Kd.R_alloc | apply Kd.R_drewN | apply Kd.R_drew));exact HO1165.out) (Kd.R_base ho0) hb);have n2_:=Aside0.mk (Kd.R_lower (Kd.R_new' (Kd.R_new' ho0 (Kd.R_lt (by (with_reducible repeat (first | apply Kd.R_alloc | apply Kd.R_drewN | apply Kd.R_drew));exact HO1162.out))) (Kd.R_lt (by (with_reducible repeat (first | apply Kd.R_alloc | apply Kd.R_drewN | apply Kd.R_drew));exact HO1165.out))) (below_size blw));have n3_:=Aside0.mk (blk_below (g:=gb1147) (o:=.cells #[.int .i64 a0_0,.int .i64 a0_1,.int .i64 a0_2,.int .i64 a0_3] 23 (0,0)) bko hb);have n4_:=Aside0.mk (below_step blw hb);clear HO1162;clear HO1165;clear BK1147;clear HB;have HO1162:=n0_;have HO1165:=n1_;have HO1169:=n2_;have BK1147:=n3_;have HB:=n4_;clear n0_ n1_ n2_ n3_ n4_;(try clear hb);(try clear hb2);(try clear hk);(try clear hi);(try clear ho0);refine hK.out _ _ ⟨(blk_cell BK1147.out 0).trans rfl,(blk_cell BK1147.out 1).trans rfl,(blk_cell BK1147.out 2).trans rfl,(blk_cell BK1147.out 3).trans rfl⟩ (fun hHeld=>?_);clear hK K;refine norm_ (a':=?_) ?_ ?_;rotate_left
         ·show Act.put _ (some 93) _=_;simp only [Act.put,List.setIfInBounds_toArray,List.set_cons_zero,List.set_cons_succ,i64_w,i32_w];rfl
         refine one_ (i:=12) (N:=some 95) #[zT,zT,zT,zT,zT,zT,zT,zT,zT,zT,zT,zT,zT,zF,zF,zF] rfl rfl (one_of HT_.out (by kernel_rfl)) (by decide) (fun K hK=>?_);refine goes_ Tryz.func49 (by kernel_rfl) rfl #[.agg #[.int .i64 a0_0,.int .i64 a0_1,.int .i64 a0_2,.int .i64 a0_3]] (by rfl) rfl rfl fq ?_;with_reducible refine (rzWrites.calls kj38 a0_0 a0_1 a0_2 a0_3 t1170 _ A60.out).mono ?_
         rintro e w68 ⟨v1171,rfl,ho0,hb⟩;refine ⟨_,rfl,?_⟩;have n0_:=Aside0.mk (Kd.R_elder' (by (with_reducible repeat (first | apply Kd.R_alloc | apply Kd.R_drewN | apply Kd.R_drew));exact HO1162.out) (Kd.R_base ho0) hb);have n1_:=Aside0.mk (Kd.R_elder' (by (with_reducible repeat (first | apply Kd.R_alloc | apply Kd.R_drewN | apply Kd.R_drew));exact HO1165.out) (Kd.R_base ho0) hb);have n2_:=Aside0.mk (Kd.R_elder' (by (with_reducible repeat (first | apply Kd.R_alloc | apply Kd.R_drewN | apply Kd.R_drew));exact HO1169.out) (Kd.R_base ho0) hb);have n3_:=Aside0.mk (Kd.R_lower (Kd.R_new' (Kd.R_new' (Kd.R_new' ho0 (Kd.R_lt (by (with_reducible repeat (first | apply Kd.R_alloc | apply Kd.R_drewN | apply Kd.R_drew));exact HO1162.out))) (Kd.R_lt (by (with_reducible repeat (first | apply Kd.R_alloc | apply Kd.R_drewN | apply Kd.R_drew));exact HO1165.out))) (Kd.R_lt (by (with_reducible repeat (first | apply Kd.R_alloc | apply Kd.R_drewN | apply Kd.R_drew));exact HO1169.out))) (below_size blw));have n4_:=Aside0.mk (blk_below (g:=gb1147) (o:=.cells #[.int .i64 a0_0,.int .i64 a0_1,.int .i64 a0_2,.int .i64 a0_3] 23 (0,0)) bko hb);have n5_:=Aside0.mk (below_step blw hb);clear HO1162;clear HO1165;clear HO1169;clear BK1147;clear HB;have HO1162:=n0_;have HO1165:=n1_;have HO1169:=n2_;have HO1172:=n3_;have BK1147:=n4_;have HB:=n5_;clear n0_ n1_ n2_ n3_ n4_ n5_;(try clear hb);(try clear hb2);(try clear hk);(try clear hi);(try clear ho0);obtain ⟨Ao69,co69,eo69⟩:=Kd.R_slice HO1169.out;(first | subst eo69 | (injection eo69 with f1_ f2_ f3_;have f4_:=f1_.symm;have f5_:=f3_.symm;clear f1_ f2_ f3_;subst f4_;subst f5_));obtain ⟨Ao70,co70,eo70⟩:=Kd.R_slice HO1172.out;(first | subst eo70 | (injection eo70 with f1_ f2_ f3_;have f4_:=f1_.symm;have f5_:=f3_.symm;clear f1_ f2_ f3_;subst f4_;subst f5_));refine hK.out _ _ ⟨(blk_cell BK1147.out 0).trans rfl,(blk_cell BK1147.out 1).trans rfl,(blk_cell BK1147.out 2).trans rfl,(blk_cell BK1147.out 3).trans rfl⟩ (fun hHeld=>?_);clear hK K;refine norm_ (a':=?_) ?_ ?_;rotate_left
         ·show Act.put _ (some 95) _=_;simp only [Act.put,List.setIfInBounds_toArray,List.set_cons_zero,List.set_cons_succ,i64_w,i32_w];rfl
         refine one_ (i:=13) (N:=some 96) #[zT,zT,zT,zT,zT,zT,zT,zT,zT,zT,zT,zT,zT,zT,zF,zF] rfl rfl (one_of HT_.out (by kernel_rfl)) (by decide) (fun K hK=>?_);refine goes_ Tryz.func35 (by kernel_rfl) rfl #[.slice Ao69 t1167.length co69,.slice Ao70 t1170.length co70] (by rfl) rfl rfl fq ?_;with_reducible refine (lzsameInts.calls kj38 _ _ t1167 _ _ t1170 t1173 _ ?side1 ?side2 ?side3 ?side4 A61.out).mono ?_
         (case side1=>repeat (first | exact (Kd.R_reads' HO1169.out).2.2 | (with_reducible refine Kd.C_alloc ?_ _) | (with_reducible refine Kd.C_drewN ?_ _) | (with_reducible refine Kd.C_drew ?_)));(case side2=>exact (Kd.R_reads' HO1169.out).2.1);(case side3=>repeat (first | exact (Kd.R_reads' HO1172.out).2.2 | (with_reducible refine Kd.C_alloc ?_ _) | (with_reducible refine Kd.C_drewN ?_ _) | (with_reducible refine Kd.C_drew ?_)));(case side4=>exact (Kd.R_reads' HO1172.out).2.1);rintro e w' ⟨rfl,⟨nd,rfl⟩⟩;refine ⟨_,rfl,?_⟩;refine hK.out _ _ ⟨(blk_cell BK1147.out 0).trans rfl,(blk_cell BK1147.out 1).trans rfl,(blk_cell BK1147.out 2).trans rfl,(blk_cell BK1147.out 3).trans rfl⟩ (fun hHeld=>?_);clear hK K;refine norm_ (a':=?_) ?_ ?_;rotate_left
         ·show Act.put _ (some 96) _=_;simp only [Act.put,List.setIfInBounds_toArray,List.set_cons_zero,List.set_cons_succ,i64_w,i32_w];rfl
         refine pure_ (i:=14) (N:=some 97) (v:=?_) (a':=?_) #[zT,zT,zT,zT,zT,zT,zT,zT,zT,zT,zT,zT,zT,zT,zT,zF] rfl rfl (any_of HT_.out (by kernel_rfl)) (fun _ _ _ h=>h) (Or.inl ⟨by rfl,?_⟩) ?_ ?_;rotate_left
         ·intro w';go_simp;with_reducible rfl
         rotate_left
         ·exact zp
         refine pure_ (i:=15) (N:=some 4) (v:=?_) (a':=?_) #[zT,zT,zT,zT,zT,zT,zT,zT,zT,zT,zT,zT,zT,zT,zT,zT] rfl rfl (any_of HT_.out (by kernel_rfl)) (fun _ _ _ h=>h) (Or.inl ⟨by rfl,?_⟩) ?_ ?_;rotate_left
         ·intro w';go_simp;with_reducible rfl
         rotate_left
         ·exact zp
         refine done_ (done_of HT_.out (by kernel_rfl)) ?_;try go_wp2
         go_ret;exact ⟨rew,blw⟩
        ·replace c58:=Bool.eq_false_iff.mpr c58;subst c58;have H1:(some false)=some r:=by rw [if_neg (show ¬ (false=true) by decide)] at H;exact H
         clear H;have H:=H1;clear H1;exact absurd (H.trans (congrArg some hrt)) (by simp)
       ·replace c54:=Bool.eq_false_iff.mpr c54;subst c54;have H1:(some false)=some r:=by rw [if_neg (show ¬ (false=true) by decide)] at H;exact H
        clear H;have H:=H1;clear H1;exact absurd (H.trans (congrArg some hrt)) (by simp)
end Go.Proofs.YtffojmgmpfjlhaaGreatDoor.Q
