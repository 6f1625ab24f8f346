/- Parts of the proof: see the last text -/
import Derived.Test.YtffojmgmpfjlhaaGreatDoorInsQ1
import Derived.Test.YtffojmgmpfjlhaaGreatDoorInsQ2
import Derived.Test.YtffojmgmpfjlhaaGreatDoorInsQ3
import Derived.Test.YtffojmgmpfjlhaaGreatDoorInsQ5
set_option linter.unusedVariables false
set_option linter.unusedSimpArgs false
namespace Go.Proofs.YtffojmgmpfjlhaaGreatDoor.Q
open Go.Proofs.YtffojmgmpfjlhaaGreatDoor Go.RowKit Go.Proofs.YtffojmgmpfjlhaaGreatDoorW.PrintWords Go.Proofs.YtffojmgmpfjlhaaGreatDoorW.PrintLast Go.Proofs.YtffojmgmpfjlhaaGreatDoorW.PrintMore
attribute [local go_sem] max2_int min2_int max_two min_two max_three min_three max_four min_four
mutual
def insn_Decode.j1:Nat→List Int→Int→Int→Int→Int→Int→Int→ByteArray→Int→Option (Int × Int × Int × Int × Int × Int)
 | 0,_,_,_,_,_,_,_,_,_=>none
 | k+1,x0,x7,x8,x143000,x143001,x143002,x143003,x146000,x146001=>insn_Decode.l0 k x0 x7 x8 x8 x143000 x143001 x143002 x143003 x146000 x146001
def insn_Decode.l0:Nat→List Int→Int→Int→Int→Int→Int→Int→Int→ByteArray→Int→Option (Int × Int × Int × Int × Int × Int)
 | 0,_,_,_,_,_,_,_,_,_,_=>none
 | k+1,x0,x7,x8,x10,x143000,x143001,x143002,x143003,x146000,x146001=>if x10 < x7 then (if x10=(x0.length:Int) then (some (0,0,0,0,0,21)) else (if 0≤x10 then (if x10 < (x0.length:Int) then (if (rd x0 x10)≥128 then (some (0,0,0,0,0,20)) else (if x146001=3 then (if x10=(wrap64 (x7 - 1)) then (if (rd x0 x10)=0 then (insn_Decode.l0 k x0 x7 x8 (wrap64 (x10+1)) x143000 x143001 x143002 x143003 x146000 x146001) else (if (rd x0 x10)=127 then (insn_Decode.l0 k x0 x7 x8 (wrap64 (x10+1)) x143000 x143001 x143002 x143003 x146000 x146001) else (some (0,0,0,0,0,20)))) else (insn_Decode.l0 k x0 x7 x8 (wrap64 (x10+1)) x143000 x143001 x143002 x143003 x146000 x146001)) else (insn_Decode.l0 k x0 x7 x8 (wrap64 (x10+1)) x143000 x143001 x143002 x143003 x146000 x146001))) else (none)) else (none))) else (if 0≤x8 then (if x8≤x7 then (if x7≤(x0.length:Int) then ((insn_immOf.f k x146001 ((x0.take (x7:Int).toNat).drop (x8:Int).toNat)).bind fun t157=>(some (x143000,x143001,x143002,t157,x7,0))) else (none)) else (none)) else (none))
def insn_Decode.j0:Nat→List Int→Int→Int→Int→Int→Int→Int→Int→ByteArray→Int→Option (Int × Int × Int × Int × Int × Int)
 | 0,_,_,_,_,_,_,_,_,_,_=>none
 | k+1,x0,x7,x8,x9,x143000,x143001,x143002,x143003,x146000,x146001=>if 0≤x8 then (if x8 < (x0.length:Int) then (if (rd x0 x8)≥x9 then (some (0,0,0,0,0,20)) else ((insn_hasB.f x146001).bind fun t151=>(if t151=true then (insn_Decode.j1 k x0 x7 (wrap64 (x8+1)) x143000 (wrap64 (Int.tdiv (wrap64 (rd x0 x8)) 8)) (Int.tmod (wrap64 (rd x0 x8)) 8) x143003 x146000 x146001) else (insn_Decode.j1 k x0 x7 (wrap64 (x8+1)) x143000 (wrap64 (rd x0 x8)) x143002 x143003 x146000 x146001)))) else (none)) else (none)
end
def insn_Decode.f (k:Nat) (l0:List Int):Option (Int × Int × Int × Int × Int × Int):=if (l0.length:Int)=0 then (some (0,0,0,0,0,21)) else (if 0 < (l0.length:Int) then ((insn_kindOf.f (wrap64 ((wrap64 (rd l0 0)) - 128))).bind fun bt143=>(if bt143.1.toList=([]:List UInt8) then (some (0,0,0,0,0,20)) else ((insn_length.f k bt143.2).bind fun t146=>((insn_hasA.f bt143.2).bind fun t147=>(if t147=true then (if (l0.length:Int)=1 then (some (0,0,0,0,0,21)) else ((insn_hasB.f bt143.2).bind fun t148=>(if t148=true then (insn_Decode.j0 k l0 t146 1 64 (wrap64 ((wrap64 (rd l0 0)) - 128)) 0 0 0 bt143.1 bt143.2) else (insn_Decode.j0 k l0 t146 1 8 (wrap64 ((wrap64 (rd l0 0)) - 128)) 0 0 0 bt143.1 bt143.2)))) else (insn_Decode.j1 k l0 t146 1 (wrap64 ((wrap64 (rd l0 0)) - 128)) 0 0 0 bt143.1 bt143.2)))))) else (none))
theorem insn_Decode.mono_l:∀ k,(∀ y0 y1 y2 y3 y4 y5 y6 y7 y8,LeO (insn_Decode.j1 k y0 y1 y2 y3 y4 y5 y6 y7 y8) (insn_Decode.j1 (k+1) y0 y1 y2 y3 y4 y5 y6 y7 y8))∧(∀ y0 y1 y2 y3 y4 y5 y6 y7 y8 y9,LeO (insn_Decode.l0 k y0 y1 y2 y3 y4 y5 y6 y7 y8 y9) (insn_Decode.l0 (k+1) y0 y1 y2 y3 y4 y5 y6 y7 y8 y9))∧(∀ y0 y1 y2 y3 y4 y5 y6 y7 y8 y9,LeO (insn_Decode.j0 k y0 y1 y2 y3 y4 y5 y6 y7 y8 y9) (insn_Decode.j0 (k+1) y0 y1 y2 y3 y4 y5 y6 y7 y8 y9))
 | 0=>⟨fun _ _ _ _ _ _ _ _ _ r h=>by simp [insn_Decode.j1] at h,fun _ _ _ _ _ _ _ _ _ _ r h=>by simp [insn_Decode.l0] at h,fun _ _ _ _ _ _ _ _ _ _ r h=>by simp [insn_Decode.j0] at h⟩
 | k+1=>by
  obtain ⟨ih0,ih1,ih2⟩:=insn_Decode.mono_l k;refine ⟨?_,?_,?_⟩
  ·intro y0 y1 y2 y3 y4 y5 y6 y7 y8;unfold insn_Decode.j1;repeat' first
   | (with_reducible exact ih0 _ _ _ _ _ _ _ _ _)
   | (with_reducible exact ih1 _ _ _ _ _ _ _ _ _ _)
   | (with_reducible exact ih2 _ _ _ _ _ _ _ _ _ _)
   | (with_reducible exact insn_immOf.mono _ _ _)
   | (with_reducible exact insn_length.mono _ _)
   | (with_reducible exact LeO.refl _)
   | (with_reducible exact LeO.none _)
   | (with_reducible refine LeO.ite ?_ ?_)
   | (with_reducible refine LeO.bind ?_ (fun _=>?_))
   | exact LeO.none _
   | refine LeO.ite ?_ ?_
   | refine LeO.bind ?_ (fun _=>?_)
  ·intro y0 y1 y2 y3 y4 y5 y6 y7 y8 y9;unfold insn_Decode.l0;repeat' first
   | (with_reducible exact ih0 _ _ _ _ _ _ _ _ _)
   | (with_reducible exact ih1 _ _ _ _ _ _ _ _ _ _)
   | (with_reducible exact ih2 _ _ _ _ _ _ _ _ _ _)
   | (with_reducible exact insn_immOf.mono _ _ _)
   | (with_reducible exact insn_length.mono _ _)
   | (with_reducible exact LeO.refl _)
   | (with_reducible exact LeO.none _)
   | (with_reducible refine LeO.ite ?_ ?_)
   | (with_reducible refine LeO.bind ?_ (fun _=>?_))
   | exact LeO.none _
   | refine LeO.ite ?_ ?_
   | refine LeO.bind ?_ (fun _=>?_)
  ·intro y0 y1 y2 y3 y4 y5 y6 y7 y8 y9;unfold insn_Decode.j0;repeat' first
   | (with_reducible exact ih0 _ _ _ _ _ _ _ _ _)
   | (with_reducible exact ih1 _ _ _ _ _ _ _ _ _ _)
   | (with_reducible exact ih2 _ _ _ _ _ _ _ _ _ _)
   | (with_reducible exact insn_immOf.mono _ _ _)
   | (with_reducible exact insn_length.mono _ _)
   | (with_reducible exact LeO.refl _)
   | (with_reducible exact LeO.none _)
   | (with_reducible refine LeO.ite ?_ ?_)
   | (with_reducible refine LeO.bind ?_ (fun _=>?_))
   | exact LeO.none _
   | refine LeO.ite ?_ ?_
   | refine LeO.bind ?_ (fun _=>?_)
theorem insn_Decode.mono:∀ a0 k,LeO (insn_Decode.f k a0) (insn_Decode.f (k+1) a0):=by
 intro a0 k;obtain ⟨ih0,ih1,ih2⟩:=insn_Decode.mono_l k;unfold insn_Decode.f;repeat' first
   | (with_reducible exact ih0 _ _ _ _ _ _ _ _ _)
   | (with_reducible exact ih1 _ _ _ _ _ _ _ _ _ _)
   | (with_reducible exact ih2 _ _ _ _ _ _ _ _ _ _)
   | (with_reducible exact insn_immOf.mono _ _ _)
   | (with_reducible exact insn_length.mono _ _)
   | (with_reducible exact LeO.refl _)
   | (with_reducible exact LeO.none _)
   | (with_reducible refine LeO.ite ?_ ?_)
   | (with_reducible refine LeO.bind ?_ (fun _=>?_))
   | exact LeO.none _
   | refine LeO.ite ?_ ?_
   | refine LeO.bind ?_ (fun _=>?_)
def insn_Decode.T28:Bool × List (List Nat × List Nat):=(true,[([],[]),([0],[0]),([],[]),([],[]),([],[]),([2,3,4],[2,3,4]),([1,5],[1,5]),([0,1,2,3,4,5,6],[]),([7,6,6,0,1,2,3,4,5,6],[6,7])])
def insn_Decode.B28:List Nat:=[0,1,0,0,0,28,63,127,255]
theorem insn_Decode.tab28:rtab .any (opsOf Tryz.f22 28)=insn_Decode.T28:=by kernel_rfl
theorem insn_Decode.bits28:waitsOk insn_Decode.T28.2 insn_Decode.B28=true:=by kernel_rfl
set_option maxHeartbeats 8000000 in
set_option maxRecDepth 100000 in
theorem insn_Decode.calls (k:Nat) (P0_:Nat→Prop) (A0:Option Addr) (c0:Nat) (l0:List Int) (r1:Int) (r2:Int) (r3:Int) (r4:Int) (r5:Int) (r6:Int) (w:World) (hs0:Kd.V (Kd.int .u8) 5 w w.heap.size (fun k_=>P0_ k_) (.slice A0 l0.length c0) l0) (h:insn_Decode.f k l0=some (r1,r2,r3,r4,r5,r6)) (hgw:GW w) :
  Calls Tryz.prog 22 #[.slice A0 l0.length c0] w fun e w'=>e=.returned (.tuple #[.agg #[.int .i64 r1,.int .i64 r2,.int .i64 r3,.int .i64 r4],.int .i64 r5,.int .i64 r6])∧Below w.heap.size w w':=by
 have hu23:=Tryz.underlying23;have hu103:=Tryz.underlying103;have HO0:=Aside0.mk (show Kd.V (Kd.int .u8) 5 w w.heap.size (fun k_=>(P0_ k_∨w.heap.size≤k_)) (.slice A0 l0.length c0) l0 from Kd.V_mono hs0 (fun k_ hk=>.inl hk));have HB:=Aside0.mk (Below.refl w.heap.size w);have H:(if (l0.length:Int)=0 then (some (0,0,0,0,0,21)) else (if 0 < (l0.length:Int) then ((insn_kindOf.f (wrap64 ((wrap64 (rd l0 0)) - 128))).bind fun bt143=>(if bt143.1.toList=([]:List UInt8) then (some (0,0,0,0,0,20)) else ((insn_length.f k bt143.2).bind fun t146=>((insn_hasA.f bt143.2).bind fun t147=>(if t147=true then (if (l0.length:Int)=1 then (some (0,0,0,0,0,21)) else ((insn_hasB.f bt143.2).bind fun t148=>(if t148=true then (insn_Decode.j0 k l0 t146 1 64 (wrap64 ((wrap64 (rd l0 0)) - 128)) 0 0 0 bt143.1 bt143.2) else (insn_Decode.j0 k l0 t146 1 8 (wrap64 ((wrap64 (rd l0 0)) - 128)) 0 0 0 bt143.1 bt143.2)))) else (insn_Decode.j1 k l0 t146 1 (wrap64 ((wrap64 (rd l0 0)) - 128)) 0 0 0 bt143.1 bt143.2)))))) else (none)))=some (r1,r2,r3,r4,r5,r6):=h;clear h;by_cases c2:(l0.length:Int)=0
 ·rw [if_pos c2] at H;have c2b0:((l0.length:Int) == 0)=true:=beq_iff_eq.mpr c2;have c2b1:((l0.length:Int) != 0)=false:=bne_eq_false_iff_eq.mpr c2;clear c2;simp only [Option.some.injEq,Prod.mk.injEq] at H;obtain ⟨rfl,rfl,rfl,rfl,rfl,rfl⟩:=H;go_enter Tryz.func22,Tryz.ntmps22
  go_wp2_with (first | ((with_reducible refine gate_dst (N:=2) rfl ?_);refine box_event ?hg (N:=2) ?hd (cs:=#[.int .i64 0,.int .i64 0,.int .i64 0,.int .i64 0]) (t:=23) ?hr ?_;(case hd=>rfl);(case hg=>rfl);(case hr=>first | (go_simp;done) | (go_simp;rfl));intro gb140 hg w3 hbox hb;have n0_:=Aside0.mk (Kd.V_below (Kd.V_elderB (by (with_reducible repeat (first | apply Kd.V_alloc | apply Kd.V_drewN | apply Kd.V_drew));exact HO0.out) gb140 (Nat.le_of_eq hg.symm)) hb);have n1_:=Aside0.mk (below_step blw hb);have n2_:=Aside0.mk (hbox);have n3_:=Aside0.mk ((by rw [hg];exact (below_size blw):w.heap.size≤gb140));have n4_:=Aside0.mk ((by rw [hg];exact (below_size blw):w.heap.size≤gb140));clear HO0;clear HB;have HO0:=n0_;have HB:=n1_;have BK140:=n2_;have GW140:=n3_;have GE140:=n4_;clear n0_ n1_ n2_ n3_ n4_;clear hb hbox hg;have hcz4_0:w3.cell? ⟨gb140,0,none⟩=some (.int .i64 0):=(blk_cell BK140.out 0).trans rfl;have hcz4_1:w3.cell? ⟨gb140,1,none⟩=some (.int .i64 0):=(blk_cell BK140.out 1).trans rfl;have hcz4_2:w3.cell? ⟨gb140,2,none⟩=some (.int .i64 0):=(blk_cell BK140.out 2).trans rfl;have hcz4_3:w3.cell? ⟨gb140,3,none⟩=some (.int .i64 0):=(blk_cell BK140.out 3).trans rfl;have hfz4_0:=blk_frozen BK140.out 0;have hfz4_1:=blk_frozen BK140.out 1;have hfz4_2:=blk_frozen BK140.out 2;have hfz4_3:=blk_frozen BK140.out 3))
  refine bodyPost_ret (results_ctt rfl _ _ gb140 23 #[.int .i64 0,.int .i64 0,.int .i64 0,.int .i64 0] (0,0) _ rfl (by (with_reducible repeat (first | refine blk_drewN ?_ _ | refine blk_drew ?_ | refine blk_alloc ?_ _));refine blk_put (cs:=#[.int .i64 0,.int .i64 0,.int .i64 0,.int .i64 0]) ?_ 3 _ rfl;(with_reducible repeat (first | refine blk_drewN ?_ _ | refine blk_drew ?_ | refine blk_alloc ?_ _));refine blk_put (cs:=#[.int .i64 0,.int .i64 0,.int .i64 0,.int .i64 0]) ?_ 2 _ rfl;(with_reducible repeat (first | refine blk_drewN ?_ _ | refine blk_drew ?_ | refine blk_alloc ?_ _));refine blk_put (cs:=#[.int .i64 0,.int .i64 0,.int .i64 0,.int .i64 0]) ?_ 1 _ rfl;(with_reducible repeat (first | refine blk_drewN ?_ _ | refine blk_drew ?_ | refine blk_alloc ?_ _));refine blk_put (cs:=#[.int .i64 0,.int .i64 0,.int .i64 0,.int .i64 0]) ?_ 0 _ rfl;(with_reducible repeat (first | refine blk_drewN ?_ _ | refine blk_drew ?_ | refine blk_alloc ?_ _));exact BK140.out) Tryz.underlying23 rfl (by kernel_rfl)) rfl ?_;exact ⟨rew,blw⟩
 ·rw [if_neg c2] at H;have c2b0:((l0.length:Int) == 0)=false:=beq_eq_false_iff_ne.mpr c2;have c2b1:((l0.length:Int) != 0)=true:=bne_iff_ne.mpr c2;have c2b2:¬ (l0=[]):=fun h_=>c2 (by rw [h_];rfl)
  by_cases c5:0 < (l0.length:Int)
  ·rw [if_pos c5] at H;have c5b0:decide (0 < (l0.length:Int))=true:=decide_eq_true c5;have c5b1:decide (0 < l0.length)=true:=decide_eq_true (by omega);clear c5;replace H:=Option.bind_eq_some_iff.mp H;obtain ⟨⟨t143,t144⟩,A60,H⟩:=H;replace H:(if t143.toList=([]:List UInt8) then (some (0,0,0,0,0,20)) else ((insn_length.f k t144).bind fun t146=>((insn_hasA.f t144).bind fun t147=>(if t147=true then (if (l0.length:Int)=1 then (some (0,0,0,0,0,21)) else ((insn_hasB.f t144).bind fun t148=>(if t148=true then (insn_Decode.j0 k l0 t146 1 64 (wrap64 ((wrap64 (rd l0 0)) - 128)) 0 0 0 t143 t144) else (insn_Decode.j0 k l0 t146 1 8 (wrap64 ((wrap64 (rd l0 0)) - 128)) 0 0 0 t143 t144)))) else (insn_Decode.j1 k l0 t146 1 (wrap64 ((wrap64 (rd l0 0)) - 128)) 0 0 0 t143 t144)))))=some (r1,r2,r3,r4,r5,r6):=H;have A6:=Aside0.mk A60;clear A60;by_cases c7:t143.toList=([]:List UInt8)
   ·rw [if_pos c7] at H;have c7b0:(t143.toList == ([]:List UInt8))=true:=beq_iff_eq.mpr c7;have c7b1:(t143.toList != ([]:List UInt8))=false:=bne_eq_false_iff_eq.mpr c7;clear c7;simp only [Option.some.injEq,Prod.mk.injEq] at H;obtain ⟨rfl,rfl,rfl,rfl,rfl,rfl⟩:=H;go_enter Tryz.func22,Tryz.ntmps22
    go_wp2_with (first | ((with_reducible refine gate_dst (N:=2) rfl ?_);refine box_event ?hg (N:=2) ?hd (cs:=#[.int .i64 0,.int .i64 0,.int .i64 0,.int .i64 0]) (t:=23) ?hr ?_;(case hd=>rfl);(case hg=>rfl);(case hr=>first | (go_simp;done) | (go_simp;rfl));intro gb140 hg w8 hbox hb;have n0_:=Aside0.mk (Kd.V_below (Kd.V_elderB (by (with_reducible repeat (first | apply Kd.V_alloc | apply Kd.V_drewN | apply Kd.V_drew));exact HO0.out) gb140 (Nat.le_of_eq hg.symm)) hb);have n1_:=Aside0.mk (below_step blw hb);have n2_:=Aside0.mk (hbox);have n3_:=Aside0.mk ((by rw [hg];exact (below_size blw):w.heap.size≤gb140));have n4_:=Aside0.mk ((by rw [hg];exact (below_size blw):w.heap.size≤gb140));clear HO0;clear HB;have HO0:=n0_;have HB:=n1_;have BK140:=n2_;have GW140:=n3_;have GE140:=n4_;clear n0_ n1_ n2_ n3_ n4_;clear hb hbox hg;have p141:0≤(0:Int):=(by omega);have q141:0 < (l0.length:Int):=of_decide_eq_true asm;obtain ⟨ad141,e141,hx141_0⟩:=Kd.at_int (Kd.V_reads' HO0.out).2.2 0 p141 q141;cases e141;have qi141:(0 < l0.length)=True:=eq_true (by omega);(try rw [show ((0:Int)).toNat=0 from rfl] at hx141_0);(try rw [Addr.add_zero'] at hx141_0);replace p141:=eq_true p141;replace q141:=eq_true q141) | ((with_reducible refine gate_dst (N:=5) rfl ?_);refine box_event ?hg (N:=5) ?hd (cs:=#[.int .i64 0,.int .i64 0,.int .i64 0,.int .i64 0]) (t:=23) ?hr ?_;(case hd=>rfl);(case hg=>rfl);(case hr=>first | (go_simp;done) | (go_simp;rfl));intro gb142 hg w9 hbox hb;have n0_:=Aside0.mk (Kd.V_below (Kd.V_elderB (by (with_reducible repeat (first | apply Kd.V_alloc | apply Kd.V_drewN | apply Kd.V_drew));exact HO0.out) gb142 (Nat.le_of_eq hg.symm)) hb);have n1_:=Aside0.mk (blk_below (g:=gb140) (o:=.cells #[.int .i64 0,.int .i64 0,.int .i64 0,.int .i64 0] 23 (0,0)) bko hb);have n2_:=Aside0.mk (below_step blw hb);have n3_:=Aside0.mk (hbox);have n4_:=Aside0.mk ((by rw [hg];exact (below_size blw):w.heap.size≤gb142));have n5_:=Aside0.mk ((by rw [hg];exact (below_size blw):w.heap.size≤gb142));have n6_:=Aside0.mk ((by rw [hg];exact Nat.ne_of_lt (blk_lt (g:=gb140) (o:=.cells #[.int .i64 0,.int .i64 0,.int .i64 0,.int .i64 0] 23 (0,0)) bko):gb140≠gb142));have n7_:=Aside0.mk ((by rw [hg];exact Nat.ne_of_gt (blk_lt (g:=gb140) (o:=.cells #[.int .i64 0,.int .i64 0,.int .i64 0,.int .i64 0] 23 (0,0)) bko):gb142≠gb140));clear HO0;clear BK140;clear HB;have HO0:=n0_;have BK140:=n1_;have HB:=n2_;have BK142:=n3_;have GW142:=n4_;have GE142:=n5_;have NB140_142:=n6_;have NB142_140:=n7_;clear n0_ n1_ n2_ n3_ n4_ n5_ n6_ n7_;clear hb hbox hg;have hnb10:=NB142_140.out;have hnc10:=NB140_142.out;have hcz11_0:w9.cell? ⟨gb142,0,none⟩=some (.int .i64 0):=(blk_cell BK142.out 0).trans rfl;have hcz11_1:w9.cell? ⟨gb142,1,none⟩=some (.int .i64 0):=(blk_cell BK142.out 1).trans rfl;have hcz11_2:w9.cell? ⟨gb142,2,none⟩=some (.int .i64 0):=(blk_cell BK142.out 2).trans rfl;have hcz11_3:w9.cell? ⟨gb142,3,none⟩=some (.int .i64 0):=(blk_cell BK142.out 3).trans rfl;have hfz11_0:=blk_frozen BK142.out 0;have hfz11_1:=blk_frozen BK142.out 1;have hfz11_2:=blk_frozen BK142.out 2;have hfz11_3:=blk_frozen BK142.out 3) | ((with_reducible refine gate_callee (f:=55) rfl ?_);refine goesL_ (some 23) rfl rfl Tryz.func55 (by kernel_rfl) rfl #[.int .i64 (wrap64 ((wrap64 (rd l0 0)) - 128))] rfl fq ?_;(with_reducible refine (insn_kindOf.calls (wrap64 ((wrap64 (rd l0 0)) - 128)) t143 t144 _ A6.out (by (first | exact hgw | exact hgw.below (by repeat (first | (with_reducible first | exact HB.out | apply below_alloc | apply pw_below_drewN | apply below_drew1 | refine below_set ?_ (by first | assumption | exact Aside0.out (by assumption))) | exact HB.out)) (Nat.le_refl _)))).mono ?_);rintro e w12 ⟨rfl,hb⟩;refine ⟨_,rfl,?_⟩;have n0_:=Aside0.mk (Kd.V_below (by (with_reducible repeat (first | apply Kd.V_alloc | apply Kd.V_drewN | apply Kd.V_drew));exact (Kd.V_mono (Kd.V_far (p:=⟨gb142,3,none⟩) (Kd.V_far (p:=⟨gb142,2,none⟩) (Kd.V_far (p:=⟨gb142,1,none⟩) (Kd.V_far (p:=⟨gb142,0,none⟩) (Kd.V_mono HO0.out (fun k_ hk=>(⟨hk,hk.2⟩:_∧k_≠gb142))) (fun _ hk=>hk.2) (.int .i64 (wrap64 ((wrap64 (rd l0 0)) - 128)))) (fun _ hk=>hk.2) (.int .i64 0)) (fun _ hk=>hk.2) (.int .i64 0)) (fun _ hk=>hk.2) (.int .i64 0)) (fun _ h_=>h_.1))) hb);have n1_:=Aside0.mk (blk_below (g:=gb140) (o:=.cells #[.int .i64 0,.int .i64 0,.int .i64 0,.int .i64 0] 23 (0,0)) (by (with_reducible repeat (first | refine blk_drewN ?_ _ | refine blk_drew ?_ | refine blk_alloc ?_ _));refine blk_far ?_ NB140_142.out _;(with_reducible repeat (first | refine blk_drewN ?_ _ | refine blk_drew ?_ | refine blk_alloc ?_ _));refine blk_far ?_ NB140_142.out _;(with_reducible repeat (first | refine blk_drewN ?_ _ | refine blk_drew ?_ | refine blk_alloc ?_ _));refine blk_far ?_ NB140_142.out _;(with_reducible repeat (first | refine blk_drewN ?_ _ | refine blk_drew ?_ | refine blk_alloc ?_ _));refine blk_far ?_ NB140_142.out _;(with_reducible repeat (first | refine blk_drewN ?_ _ | refine blk_drew ?_ | refine blk_alloc ?_ _));exact BK140.out) hb);have n2_:=Aside0.mk (blk_below (g:=gb142) (o:=.cells #[.int .i64 (wrap64 ((wrap64 (rd l0 0)) - 128)),.int .i64 0,.int .i64 0,.int .i64 0] 23 (0,0)) (by (with_reducible repeat (first | refine blk_drewN ?_ _ | refine blk_drew ?_ | refine blk_alloc ?_ _));refine blk_put (cs:=#[.int .i64 (wrap64 ((wrap64 (rd l0 0)) - 128)),.int .i64 0,.int .i64 0,.int .i64 0]) ?_ 3 _ rfl;(with_reducible repeat (first | refine blk_drewN ?_ _ | refine blk_drew ?_ | refine blk_alloc ?_ _));refine blk_put (cs:=#[.int .i64 (wrap64 ((wrap64 (rd l0 0)) - 128)),.int .i64 0,.int .i64 0,.int .i64 0]) ?_ 2 _ rfl;(with_reducible repeat (first | refine blk_drewN ?_ _ | refine blk_drew ?_ | refine blk_alloc ?_ _));refine blk_put (cs:=#[.int .i64 (wrap64 ((wrap64 (rd l0 0)) - 128)),.int .i64 0,.int .i64 0,.int .i64 0]) ?_ 1 _ rfl;(with_reducible repeat (first | refine blk_drewN ?_ _ | refine blk_drew ?_ | refine blk_alloc ?_ _));refine blk_put (cs:=#[.int .i64 0,.int .i64 0,.int .i64 0,.int .i64 0]) ?_ 0 _ rfl;(with_reducible repeat (first | refine blk_drewN ?_ _ | refine blk_drew ?_ | refine blk_alloc ?_ _));exact BK142.out) hb);have n3_:=Aside0.mk (below_step blw hb);clear HO0;clear BK140;clear BK142;clear HB;have HO0:=n0_;have BK140:=n1_;have BK142:=n2_;have HB:=n3_;clear n0_ n1_ n2_ n3_;(try clear hb);(try clear hb2);(try clear hk);(try clear hi)) | ((with_reducible refine gate_dst (N:=6) rfl ?_);refine box_event ?hg (N:=6) ?hd (cs:=#[.string (⟨#[]⟩:zB),.int .i64 0]) (t:=103) ?hr ?_;(case hd=>rfl);(case hg=>rfl);(case hr=>first | (go_simp;done) | (go_simp;rfl));intro gb145 hg w13 hbox hb;have n0_:=Aside0.mk (Kd.V_below (Kd.V_elderB (by (with_reducible repeat (first | apply Kd.V_alloc | apply Kd.V_drewN | apply Kd.V_drew));exact HO0.out) gb145 (Nat.le_of_eq hg.symm)) hb);have n1_:=Aside0.mk (blk_below (g:=gb140) (o:=.cells #[.int .i64 0,.int .i64 0,.int .i64 0,.int .i64 0] 23 (0,0)) bko hb);have n2_:=Aside0.mk (blk_below (g:=gb142) (o:=.cells #[.int .i64 (wrap64 ((wrap64 (rd l0 0)) - 128)),.int .i64 0,.int .i64 0,.int .i64 0] 23 (0,0)) bko hb);have n3_:=Aside0.mk (below_step blw hb);have n4_:=Aside0.mk (hbox);have n5_:=Aside0.mk ((by rw [hg];exact (below_size blw):w.heap.size≤gb145));have n6_:=Aside0.mk ((by rw [hg];exact (below_size blw):w.heap.size≤gb145));have n7_:=Aside0.mk ((by rw [hg];exact Nat.ne_of_lt (blk_lt (g:=gb140) (o:=.cells #[.int .i64 0,.int .i64 0,.int .i64 0,.int .i64 0] 23 (0,0)) bko):gb140≠gb145));have n8_:=Aside0.mk ((by rw [hg];exact Nat.ne_of_gt (blk_lt (g:=gb140) (o:=.cells #[.int .i64 0,.int .i64 0,.int .i64 0,.int .i64 0] 23 (0,0)) bko):gb145≠gb140));have n9_:=Aside0.mk ((by rw [hg];exact Nat.ne_of_lt (blk_lt (g:=gb142) (o:=.cells #[.int .i64 (wrap64 ((wrap64 (rd l0 0)) - 128)),.int .i64 0,.int .i64 0,.int .i64 0] 23 (0,0)) bko):gb142≠gb145));have n10_:=Aside0.mk ((by rw [hg];exact Nat.ne_of_gt (blk_lt (g:=gb142) (o:=.cells #[.int .i64 (wrap64 ((wrap64 (rd l0 0)) - 128)),.int .i64 0,.int .i64 0,.int .i64 0] 23 (0,0)) bko):gb145≠gb142));clear HO0;clear BK140;clear BK142;clear HB;have HO0:=n0_;have BK140:=n1_;have BK142:=n2_;have HB:=n3_;have BK145:=n4_;have GW145:=n5_;have GE145:=n6_;have NB140_145:=n7_;have NB145_140:=n8_;have NB142_145:=n9_;have NB145_142:=n10_;clear n0_ n1_ n2_ n3_ n4_ n5_ n6_ n7_ n8_ n9_ n10_;clear hb hbox hg;have hnb14:=NB145_140.out;have hnc14:=NB140_145.out;have hnb15:=NB145_142.out;have hnc15:=NB142_145.out;have hcz16_0:w13.cell? ⟨gb145,0,none⟩=some (.string (⟨#[]⟩:zB)):=(blk_cell BK145.out 0).trans rfl;have hcz16_1:w13.cell? ⟨gb145,1,none⟩=some (.int .i64 0):=(blk_cell BK145.out 1).trans rfl;have hfz16_0:=blk_frozen BK145.out 0;have hfz16_1:=blk_frozen BK145.out 1;have hcz17_0:w13.cell? ⟨gb140,0,none⟩=some (.int .i64 0):=(blk_cell BK140.out 0).trans rfl;have hcz17_1:w13.cell? ⟨gb140,1,none⟩=some (.int .i64 0):=(blk_cell BK140.out 1).trans rfl;have hcz17_2:w13.cell? ⟨gb140,2,none⟩=some (.int .i64 0):=(blk_cell BK140.out 2).trans rfl;have hcz17_3:w13.cell? ⟨gb140,3,none⟩=some (.int .i64 0):=(blk_cell BK140.out 3).trans rfl;have hfz17_0:=blk_frozen BK140.out 0;have hfz17_1:=blk_frozen BK140.out 1;have hfz17_2:=blk_frozen BK140.out 2;have hfz17_3:=blk_frozen BK140.out 3))
    refine bodyPost_ret (results_ctt rfl _ _ gb140 23 #[.int .i64 0,.int .i64 0,.int .i64 0,.int .i64 0] (0,0) _ rfl (by (with_reducible repeat (first | refine blk_drewN ?_ _ | refine blk_drew ?_ | refine blk_alloc ?_ _));refine blk_put (cs:=#[.int .i64 0,.int .i64 0,.int .i64 0,.int .i64 0]) ?_ 3 _ rfl;(with_reducible repeat (first | refine blk_drewN ?_ _ | refine blk_drew ?_ | refine blk_alloc ?_ _));refine blk_put (cs:=#[.int .i64 0,.int .i64 0,.int .i64 0,.int .i64 0]) ?_ 2 _ rfl;(with_reducible repeat (first | refine blk_drewN ?_ _ | refine blk_drew ?_ | refine blk_alloc ?_ _));refine blk_put (cs:=#[.int .i64 0,.int .i64 0,.int .i64 0,.int .i64 0]) ?_ 1 _ rfl;(with_reducible repeat (first | refine blk_drewN ?_ _ | refine blk_drew ?_ | refine blk_alloc ?_ _));refine blk_put (cs:=#[.int .i64 0,.int .i64 0,.int .i64 0,.int .i64 0]) ?_ 0 _ rfl;(with_reducible repeat (first | refine blk_drewN ?_ _ | refine blk_drew ?_ | refine blk_alloc ?_ _));refine blk_far ?_ NB140_145.out _;(with_reducible repeat (first | refine blk_drewN ?_ _ | refine blk_drew ?_ | refine blk_alloc ?_ _));refine blk_far ?_ NB140_145.out _;(with_reducible repeat (first | refine blk_drewN ?_ _ | refine blk_drew ?_ | refine blk_alloc ?_ _));exact BK140.out) Tryz.underlying23 rfl (by kernel_rfl)) rfl ?_;exact ⟨rew,blw⟩
   ·rw [if_neg c7] at H;have c7b0:(t143.toList == ([]:List UInt8))=false:=beq_eq_false_iff_ne.mpr c7;have c7b1:(t143.toList != ([]:List UInt8))=true:=bne_iff_ne.mpr c7;replace H:=Option.bind_eq_some_iff.mp H;obtain ⟨t146,A180,H⟩:=H;replace H:((insn_hasA.f t144).bind fun t147=>(if t147=true then (if (l0.length:Int)=1 then (some (0,0,0,0,0,21)) else ((insn_hasB.f t144).bind fun t148=>(if t148=true then (insn_Decode.j0 k l0 t146 1 64 (wrap64 ((wrap64 (rd l0 0)) - 128)) 0 0 0 t143 t144) else (insn_Decode.j0 k l0 t146 1 8 (wrap64 ((wrap64 (rd l0 0)) - 128)) 0 0 0 t143 t144)))) else (insn_Decode.j1 k l0 t146 1 (wrap64 ((wrap64 (rd l0 0)) - 128)) 0 0 0 t143 t144)))=some (r1,r2,r3,r4,r5,r6):=H;have A18:=Aside0.mk A180;clear A180;replace H:=Option.bind_eq_some_iff.mp H;obtain ⟨t147,A190,H⟩:=H;replace H:(if t147=true then (if (l0.length:Int)=1 then (some (0,0,0,0,0,21)) else ((insn_hasB.f t144).bind fun t148=>(if t148=true then (insn_Decode.j0 k l0 t146 1 64 (wrap64 ((wrap64 (rd l0 0)) - 128)) 0 0 0 t143 t144) else (insn_Decode.j0 k l0 t146 1 8 (wrap64 ((wrap64 (rd l0 0)) - 128)) 0 0 0 t143 t144)))) else (insn_Decode.j1 k l0 t146 1 (wrap64 ((wrap64 (rd l0 0)) - 128)) 0 0 0 t143 t144))=some (r1,r2,r3,r4,r5,r6):=H;have A19:=Aside0.mk A190;clear A190;have HC20:=Aside0.mk H;clear H;go_enter Tryz.func22,Tryz.ntmps22
    go_upto_if 33 with (first | ((with_reducible refine gate_dst (N:=2) rfl ?_);refine box_event ?hg (N:=2) ?hd (cs:=#[.int .i64 0,.int .i64 0,.int .i64 0,.int .i64 0]) (t:=23) ?hr ?_;(case hd=>rfl);(case hg=>rfl);(case hr=>first | (go_simp;done) | (go_simp;rfl));intro gb140 hg w21 hbox hb;have n0_:=Aside0.mk (Kd.V_below (Kd.V_elderB (by (with_reducible repeat (first | apply Kd.V_alloc | apply Kd.V_drewN | apply Kd.V_drew));exact HO0.out) gb140 (Nat.le_of_eq hg.symm)) hb);have n1_:=Aside0.mk (below_step blw hb);have n2_:=Aside0.mk (hbox);have n3_:=Aside0.mk ((by rw [hg];exact (below_size blw):w.heap.size≤gb140));have n4_:=Aside0.mk ((by rw [hg];exact (below_size blw):w.heap.size≤gb140));clear HO0;clear HB;have HO0:=n0_;have HB:=n1_;have BK140:=n2_;have GW140:=n3_;have GE140:=n4_;clear n0_ n1_ n2_ n3_ n4_;clear hb hbox hg;have p141:0≤(0:Int):=(by omega);have q141:0 < (l0.length:Int):=of_decide_eq_true asm;obtain ⟨ad141,e141,hx141_0⟩:=Kd.at_int (Kd.V_reads' HO0.out).2.2 0 p141 q141;cases e141;have qi141:(0 < l0.length)=True:=eq_true (by omega);(try rw [show ((0:Int)).toNat=0 from rfl] at hx141_0);(try rw [Addr.add_zero'] at hx141_0);replace p141:=eq_true p141;replace q141:=eq_true q141) | ((with_reducible refine gate_dst (N:=5) rfl ?_);refine box_event ?hg (N:=5) ?hd (cs:=#[.int .i64 0,.int .i64 0,.int .i64 0,.int .i64 0]) (t:=23) ?hr ?_;(case hd=>rfl);(case hg=>rfl);(case hr=>first | (go_simp;done) | (go_simp;rfl));intro gb142 hg w22 hbox hb;have n0_:=Aside0.mk (Kd.V_below (Kd.V_elderB (by (with_reducible repeat (first | apply Kd.V_alloc | apply Kd.V_drewN | apply Kd.V_drew));exact HO0.out) gb142 (Nat.le_of_eq hg.symm)) hb);have n1_:=Aside0.mk (blk_below (g:=gb140) (o:=.cells #[.int .i64 0,.int .i64 0,.int .i64 0,.int .i64 0] 23 (0,0)) bko hb);have n2_:=Aside0.mk (below_step blw hb);have n3_:=Aside0.mk (hbox);have n4_:=Aside0.mk ((by rw [hg];exact (below_size blw):w.heap.size≤gb142));have n5_:=Aside0.mk ((by rw [hg];exact (below_size blw):w.heap.size≤gb142));have n6_:=Aside0.mk ((by rw [hg];exact Nat.ne_of_lt (blk_lt (g:=gb140) (o:=.cells #[.int .i64 0,.int .i64 0,.int .i64 0,.int .i64 0] 23 (0,0)) bko):gb140≠gb142));have n7_:=Aside0.mk ((by rw [hg];exact Nat.ne_of_gt (blk_lt (g:=gb140) (o:=.cells #[.int .i64 0,.int .i64 0,.int .i64 0,.int .i64 0] 23 (0,0)) bko):gb142≠gb140));clear HO0;clear BK140;clear HB;have HO0:=n0_;have BK140:=n1_;have HB:=n2_;have BK142:=n3_;have GW142:=n4_;have GE142:=n5_;have NB140_142:=n6_;have NB142_140:=n7_;clear n0_ n1_ n2_ n3_ n4_ n5_ n6_ n7_;clear hb hbox hg;have hnb23:=NB142_140.out;have hnc23:=NB140_142.out;have hcz24_0:w22.cell? ⟨gb142,0,none⟩=some (.int .i64 0):=(blk_cell BK142.out 0).trans rfl;have hcz24_1:w22.cell? ⟨gb142,1,none⟩=some (.int .i64 0):=(blk_cell BK142.out 1).trans rfl;have hcz24_2:w22.cell? ⟨gb142,2,none⟩=some (.int .i64 0):=(blk_cell BK142.out 2).trans rfl;have hcz24_3:w22.cell? ⟨gb142,3,none⟩=some (.int .i64 0):=(blk_cell BK142.out 3).trans rfl;have hfz24_0:=blk_frozen BK142.out 0;have hfz24_1:=blk_frozen BK142.out 1;have hfz24_2:=blk_frozen BK142.out 2;have hfz24_3:=blk_frozen BK142.out 3) | ((with_reducible refine gate_callee (f:=55) rfl ?_);refine goesL_ (some 23) rfl rfl Tryz.func55 (by kernel_rfl) rfl #[.int .i64 (wrap64 ((wrap64 (rd l0 0)) - 128))] rfl fq ?_;(with_reducible refine (insn_kindOf.calls (wrap64 ((wrap64 (rd l0 0)) - 128)) t143 t144 _ A6.out (by (first | exact hgw | exact hgw.below (by repeat (first | (with_reducible first | exact HB.out | apply below_alloc | apply pw_below_drewN | apply below_drew1 | refine below_set ?_ (by first | assumption | exact Aside0.out (by assumption))) | exact HB.out)) (Nat.le_refl _)))).mono ?_);rintro e w25 ⟨rfl,hb⟩;refine ⟨_,rfl,?_⟩;have n0_:=Aside0.mk (Kd.V_below (by (with_reducible repeat (first | apply Kd.V_alloc | apply Kd.V_drewN | apply Kd.V_drew));exact (Kd.V_mono (Kd.V_far (p:=⟨gb142,3,none⟩) (Kd.V_far (p:=⟨gb142,2,none⟩) (Kd.V_far (p:=⟨gb142,1,none⟩) (Kd.V_far (p:=⟨gb142,0,none⟩) (Kd.V_mono HO0.out (fun k_ hk=>(⟨hk,hk.2⟩:_∧k_≠gb142))) (fun _ hk=>hk.2) (.int .i64 (wrap64 ((wrap64 (rd l0 0)) - 128)))) (fun _ hk=>hk.2) (.int .i64 0)) (fun _ hk=>hk.2) (.int .i64 0)) (fun _ hk=>hk.2) (.int .i64 0)) (fun _ h_=>h_.1))) hb);have n1_:=Aside0.mk (blk_below (g:=gb140) (o:=.cells #[.int .i64 0,.int .i64 0,.int .i64 0,.int .i64 0] 23 (0,0)) (by (with_reducible repeat (first | refine blk_drewN ?_ _ | refine blk_drew ?_ | refine blk_alloc ?_ _));refine blk_far ?_ NB140_142.out _;(with_reducible repeat (first | refine blk_drewN ?_ _ | refine blk_drew ?_ | refine blk_alloc ?_ _));refine blk_far ?_ NB140_142.out _;(with_reducible repeat (first | refine blk_drewN ?_ _ | refine blk_drew ?_ | refine blk_alloc ?_ _));refine blk_far ?_ NB140_142.out _;(with_reducible repeat (first | refine blk_drewN ?_ _ | refine blk_drew ?_ | refine blk_alloc ?_ _));refine blk_far ?_ NB140_142.out _;(with_reducible repeat (first | refine blk_drewN ?_ _ | refine blk_drew ?_ | refine blk_alloc ?_ _));exact BK140.out) hb);have n2_:=Aside0.mk (blk_below (g:=gb142) (o:=.cells #[.int .i64 (wrap64 ((wrap64 (rd l0 0)) - 128)),.int .i64 0,.int .i64 0,.int .i64 0] 23 (0,0)) (by (with_reducible repeat (first | refine blk_drewN ?_ _ | refine blk_drew ?_ | refine blk_alloc ?_ _));refine blk_put (cs:=#[.int .i64 (wrap64 ((wrap64 (rd l0 0)) - 128)),.int .i64 0,.int .i64 0,.int .i64 0]) ?_ 3 _ rfl;(with_reducible repeat (first | refine blk_drewN ?_ _ | refine blk_drew ?_ | refine blk_alloc ?_ _));refine blk_put (cs:=#[.int .i64 (wrap64 ((wrap64 (rd l0 0)) - 128)),.int .i64 0,.int .i64 0,.int .i64 0]) ?_ 2 _ rfl;(with_reducible repeat (first | refine blk_drewN ?_ _ | refine blk_drew ?_ | refine blk_alloc ?_ _));refine blk_put (cs:=#[.int .i64 (wrap64 ((wrap64 (rd l0 0)) - 128)),.int .i64 0,.int .i64 0,.int .i64 0]) ?_ 1 _ rfl;(with_reducible repeat (first | refine blk_drewN ?_ _ | refine blk_drew ?_ | refine blk_alloc ?_ _));refine blk_put (cs:=#[.int .i64 0,.int .i64 0,.int .i64 0,.int .i64 0]) ?_ 0 _ rfl;(with_reducible repeat (first | refine blk_drewN ?_ _ | refine blk_drew ?_ | refine blk_alloc ?_ _));exact BK142.out) hb);have n3_:=Aside0.mk (below_step blw hb);clear HO0;clear BK140;clear BK142;clear HB;have HO0:=n0_;have BK140:=n1_;have BK142:=n2_;have HB:=n3_;clear n0_ n1_ n2_ n3_;(try clear hb);(try clear hb2);(try clear hk);(try clear hi)) | ((with_reducible refine gate_dst (N:=6) rfl ?_);refine box_event ?hg (N:=6) ?hd (cs:=#[.string (⟨#[]⟩:zB),.int .i64 0]) (t:=103) ?hr ?_;(case hd=>rfl);(case hg=>rfl);(case hr=>first | (go_simp;done) | (go_simp;rfl));intro gb145 hg w26 hbox hb;have n0_:=Aside0.mk (Kd.V_below (Kd.V_elderB (by (with_reducible repeat (first | apply Kd.V_alloc | apply Kd.V_drewN | apply Kd.V_drew));exact HO0.out) gb145 (Nat.le_of_eq hg.symm)) hb);have n1_:=Aside0.mk (blk_below (g:=gb140) (o:=.cells #[.int .i64 0,.int .i64 0,.int .i64 0,.int .i64 0] 23 (0,0)) bko hb);have n2_:=Aside0.mk (blk_below (g:=gb142) (o:=.cells #[.int .i64 (wrap64 ((wrap64 (rd l0 0)) - 128)),.int .i64 0,.int .i64 0,.int .i64 0] 23 (0,0)) bko hb);have n3_:=Aside0.mk (below_step blw hb);have n4_:=Aside0.mk (hbox);have n5_:=Aside0.mk ((by rw [hg];exact (below_size blw):w.heap.size≤gb145));have n6_:=Aside0.mk ((by rw [hg];exact (below_size blw):w.heap.size≤gb145));have n7_:=Aside0.mk ((by rw [hg];exact Nat.ne_of_lt (blk_lt (g:=gb140) (o:=.cells #[.int .i64 0,.int .i64 0,.int .i64 0,.int .i64 0] 23 (0,0)) bko):gb140≠gb145));have n8_:=Aside0.mk ((by rw [hg];exact Nat.ne_of_gt (blk_lt (g:=gb140) (o:=.cells #[.int .i64 0,.int .i64 0,.int .i64 0,.int .i64 0] 23 (0,0)) bko):gb145≠gb140));have n9_:=Aside0.mk ((by rw [hg];exact Nat.ne_of_lt (blk_lt (g:=gb142) (o:=.cells #[.int .i64 (wrap64 ((wrap64 (rd l0 0)) - 128)),.int .i64 0,.int .i64 0,.int .i64 0] 23 (0,0)) bko):gb142≠gb145));have n10_:=Aside0.mk ((by rw [hg];exact Nat.ne_of_gt (blk_lt (g:=gb142) (o:=.cells #[.int .i64 (wrap64 ((wrap64 (rd l0 0)) - 128)),.int .i64 0,.int .i64 0,.int .i64 0] 23 (0,0)) bko):gb145≠gb142));clear HO0;clear BK140;clear BK142;clear HB;have HO0:=n0_;have BK140:=n1_;have BK142:=n2_;have HB:=n3_;have BK145:=n4_;have GW145:=n5_;have GE145:=n6_;have NB140_145:=n7_;have NB145_140:=n8_;have NB142_145:=n9_;have NB145_142:=n10_;clear n0_ n1_ n2_ n3_ n4_ n5_ n6_ n7_ n8_ n9_ n10_;clear hb hbox hg;have hnb27:=NB145_140.out;have hnc27:=NB140_145.out;have hnb28:=NB145_142.out;have hnc28:=NB142_145.out;have hcz29_0:w26.cell? ⟨gb145,0,none⟩=some (.string (⟨#[]⟩:zB)):=(blk_cell BK145.out 0).trans rfl;have hcz29_1:w26.cell? ⟨gb145,1,none⟩=some (.int .i64 0):=(blk_cell BK145.out 1).trans rfl;have hfz29_0:=blk_frozen BK145.out 0;have hfz29_1:=blk_frozen BK145.out 1) | ((with_reducible refine gate_callee (f:=56) rfl ?_);refine goesL_ (some 30) rfl rfl Tryz.func56 (by kernel_rfl) rfl #[.int .i64 t144] rfl fq ?_;(with_reducible refine (insn_length.calls k t144 t146 _ A18.out).mono ?_);rintro e w' ⟨rfl,⟨nd,rfl⟩⟩;refine ⟨_,rfl,?_⟩) | ((with_reducible refine gate_callee (f:=57) rfl ?_);refine goesL_ (some 33) rfl rfl Tryz.func57 (by kernel_rfl) rfl #[.int .i64 t144] rfl fq ?_;(with_reducible refine (insn_hasA.calls t144 t147 _ A19.out).mono ?_);rintro e w' ⟨rfl,⟨nd,rfl⟩⟩;refine ⟨_,rfl,?_⟩))
    (try simp only [Act.put,List.setIfInBounds_toArray,List.set_cons_zero,List.set_cons_succ]);go_cut [8] (fun v8 wc=>∃ (kq:Nat) (x8_19:Int) (x141000_19:Int) (x141001_19:Int) (x141002_19:Int) (x141003_19:Int) (x143001_19:Int) (x143002_19:Int),v8=.int .i64 x8_19∧Aside0 (insn_Decode.j1 kq l0 t146 x8_19 (wrap64 ((wrap64 (rd l0 0)) - 128)) x143001_19 x143002_19 0 t143 t144=some (r1,r2,r3,r4,r5,r6))∧Aside0 (kq≤k)∧Aside0 (Kd.V (Kd.int .u8) 5 wc w.heap.size (fun k_=>(P0_ k_∨w.heap.size≤k_)∧k_≠gb140∧k_≠gb142∧k_≠gb145) (.slice (some ad141) l0.length c0) l0)∧Aside0 (wc.heap[gb140]?=some (.cells #[.int .i64 x141000_19,.int .i64 x141001_19,.int .i64 x141002_19,.int .i64 x141003_19] 23 (0,0)))∧Aside0 (wc.heap[gb142]?=some (.cells #[.int .i64 (wrap64 ((wrap64 (rd l0 0)) - 128)),.int .i64 x143001_19,.int .i64 x143002_19,.int .i64 0] 23 (0,0)))∧Aside0 (wc.heap[gb145]?=some (.cells #[.string t143,.int .i64 t144] 103 (0,0)))∧Aside0 (Below w.heap.size w wc))
    case first =>
     have H:=HC20.out;clear HC20;by_cases c30:t147=true
     ·subst c30;have H1:(if (l0.length:Int)=1 then (some (0,0,0,0,0,21)) else ((insn_hasB.f t144).bind fun t148=>(if t148=true then (insn_Decode.j0 k l0 t146 1 64 (wrap64 ((wrap64 (rd l0 0)) - 128)) 0 0 0 t143 t144) else (insn_Decode.j0 k l0 t146 1 8 (wrap64 ((wrap64 (rd l0 0)) - 128)) 0 0 0 t143 t144))))=some (r1,r2,r3,r4,r5,r6):=by rw [if_pos rfl] at H;exact H
      clear H;have H:=H1;clear H1;by_cases c31:(l0.length:Int)=1
      ·rw [if_pos c31] at H;have c31b0:((l0.length:Int) == 1)=true:=beq_iff_eq.mpr c31;have c31b1:((l0.length:Int) != 1)=false:=bne_eq_false_iff_eq.mpr c31;clear c31;(first | rw [c31b0] | (simp only [i64_w,i32_w];rw [c31b0]) | skip);simp only [Option.some.injEq,Prod.mk.injEq] at H;obtain ⟨rfl,rfl,rfl,rfl,rfl,rfl⟩:=H;have hnb32:=NB140_142.out;have hnc32:=NB142_140.out;have hnb33:=NB140_145.out;have hnc33:=NB145_140.out;have hcz34_0:w26.cell? ⟨gb140,0,none⟩=some (.int .i64 0):=(blk_cell BK140.out 0).trans rfl;have hcz34_1:w26.cell? ⟨gb140,1,none⟩=some (.int .i64 0):=(blk_cell BK140.out 1).trans rfl;have hcz34_2:w26.cell? ⟨gb140,2,none⟩=some (.int .i64 0):=(blk_cell BK140.out 2).trans rfl;have hcz34_3:w26.cell? ⟨gb140,3,none⟩=some (.int .i64 0):=(blk_cell BK140.out 3).trans rfl;have hfz34_0:=blk_frozen BK140.out 0;have hfz34_1:=blk_frozen BK140.out 1;have hfz34_2:=blk_frozen BK140.out 2;have hfz34_3:=blk_frozen BK140.out 3;go_wp2;refine bodyPost_ret (results_ctt rfl _ _ gb140 23 #[.int .i64 0,.int .i64 0,.int .i64 0,.int .i64 0] (0,0) _ rfl (by (with_reducible repeat (first | refine blk_drewN ?_ _ | refine blk_drew ?_ | refine blk_alloc ?_ _));refine blk_put (cs:=#[.int .i64 0,.int .i64 0,.int .i64 0,.int .i64 0]) ?_ 3 _ rfl;(with_reducible repeat (first | refine blk_drewN ?_ _ | refine blk_drew ?_ | refine blk_alloc ?_ _));refine blk_put (cs:=#[.int .i64 0,.int .i64 0,.int .i64 0,.int .i64 0]) ?_ 2 _ rfl;(with_reducible repeat (first | refine blk_drewN ?_ _ | refine blk_drew ?_ | refine blk_alloc ?_ _));refine blk_put (cs:=#[.int .i64 0,.int .i64 0,.int .i64 0,.int .i64 0]) ?_ 1 _ rfl;(with_reducible repeat (first | refine blk_drewN ?_ _ | refine blk_drew ?_ | refine blk_alloc ?_ _));refine blk_put (cs:=#[.int .i64 0,.int .i64 0,.int .i64 0,.int .i64 0]) ?_ 0 _ rfl;(with_reducible repeat (first | refine blk_drewN ?_ _ | refine blk_drew ?_ | refine blk_alloc ?_ _));refine blk_far ?_ NB140_145.out _;(with_reducible repeat (first | refine blk_drewN ?_ _ | refine blk_drew ?_ | refine blk_alloc ?_ _));refine blk_far ?_ NB140_145.out _;(with_reducible repeat (first | refine blk_drewN ?_ _ | refine blk_drew ?_ | refine blk_alloc ?_ _));exact BK140.out) Tryz.underlying23 rfl (by kernel_rfl)) rfl ?_;exact ⟨rew,blw⟩
      ·rw [if_neg c31] at H;have c31b0:((l0.length:Int) == 1)=false:=beq_eq_false_iff_ne.mpr c31;have c31b1:((l0.length:Int) != 1)=true:=bne_iff_ne.mpr c31;(first | rw [c31b0] | (simp only [i64_w,i32_w];rw [c31b0]) | skip);replace H:=Option.bind_eq_some_iff.mp H;obtain ⟨t148,A350,H⟩:=H;replace H:(if t148=true then (insn_Decode.j0 k l0 t146 1 64 (wrap64 ((wrap64 (rd l0 0)) - 128)) 0 0 0 t143 t144) else (insn_Decode.j0 k l0 t146 1 8 (wrap64 ((wrap64 (rd l0 0)) - 128)) 0 0 0 t143 t144))=some (r1,r2,r3,r4,r5,r6):=H;have A35:=Aside0.mk A350;clear A350;have HC36:=Aside0.mk H;clear H;have hnb37:=NB145_140.out;have hnc37:=NB140_145.out;have hnb38:=NB145_142.out;have hnc38:=NB142_145.out;have hcz39_0:w26.cell? ⟨gb145,0,none⟩=some (.string (⟨#[]⟩:zB)):=(blk_cell BK145.out 0).trans rfl;have hcz39_1:w26.cell? ⟨gb145,1,none⟩=some (.int .i64 0):=(blk_cell BK145.out 1).trans rfl;have hfz39_0:=blk_frozen BK145.out 0;have hfz39_1:=blk_frozen BK145.out 1;go_upto_if 41 with (first | ((with_reducible refine gate_callee (f:=58) rfl ?_);refine goesL_ (some 41) rfl rfl Tryz.func58 (by kernel_rfl) rfl #[.int .i64 t144] rfl fq ?_;(with_reducible refine (insn_hasB.calls t144 t148 _ A35.out).mono ?_);rintro e w' ⟨rfl,⟨nd,rfl⟩⟩;refine ⟨_,rfl,?_⟩))
       (try simp only [Act.put,List.setIfInBounds_toArray,List.set_cons_zero,List.set_cons_succ]);go_cut [9] (fun v9 wc=>∃ (kq:Nat) (x9_35:Int),v9=.int .u8 x9_35∧Aside0 (insn_Decode.j0 kq l0 t146 1 x9_35 (wrap64 ((wrap64 (rd l0 0)) - 128)) 0 0 0 t143 t144=some (r1,r2,r3,r4,r5,r6))∧Aside0 (kq≤k)∧Aside0 (Kd.V (Kd.int .u8) 5 wc w.heap.size (fun k_=>(P0_ k_∨w.heap.size≤k_)∧k_≠gb140∧k_≠gb142∧k_≠gb145) (.slice (some ad141) l0.length c0) l0)∧Aside0 (wc.heap[gb140]?=some (.cells #[.int .i64 0,.int .i64 0,.int .i64 0,.int .i64 0] 23 (0,0)))∧Aside0 (wc.heap[gb142]?=some (.cells #[.int .i64 (wrap64 ((wrap64 (rd l0 0)) - 128)),.int .i64 0,.int .i64 0,.int .i64 0] 23 (0,0)))∧Aside0 (wc.heap[gb145]?=some (.cells #[.string t143,.int .i64 t144] 103 (0,0)))∧Aside0 (Below w.heap.size w wc))
       case first =>
        have H:=HC36.out;clear HC36;by_cases c40:t148=true
        ·subst c40;have H1:(insn_Decode.j0 k l0 t146 1 64 (wrap64 ((wrap64 (rd l0 0)) - 128)) 0 0 0 t143 t144)=some (r1,r2,r3,r4,r5,r6):=by rw [if_pos rfl] at H;exact H
         clear H;have H:=H1;clear H1;have H':=Aside0.mk H;clear H;go_wp2;go_meet
         case rel=>exact ⟨_,(64),(by first | rfl | (simp;done) | (simp;decide +kernel) | (simp [*];done)),H',⟨by first | omega | exact Nat.le_refl _⟩,⟨by (with_reducible repeat (first | apply Kd.V_alloc | apply Kd.V_drewN | apply Kd.V_drew));exact Kd.V_mono (Kd.V_far (p:=⟨gb145,1,none⟩) (Kd.V_far (p:=⟨gb145,0,none⟩) (Kd.V_mono HO0.out (fun k_ hk=>(⟨hk,hk.2⟩:_∧k_≠gb145))) (fun _ hk=>hk.2) (.string t143)) (fun _ hk=>hk.2) (.int .i64 t144)) (fun _ hk=>⟨hk.1.1.1.1,⟨hk.1.1.1.2,⟨hk.1.1.2,hk.1.2⟩⟩⟩)⟩,⟨by (with_reducible repeat (first | refine blk_drewN ?_ _ | refine blk_drew ?_ | refine blk_alloc ?_ _));refine blk_far ?_ NB140_145.out _;(with_reducible repeat (first | refine blk_drewN ?_ _ | refine blk_drew ?_ | refine blk_alloc ?_ _));refine blk_far ?_ NB140_145.out _;(with_reducible repeat (first | refine blk_drewN ?_ _ | refine blk_drew ?_ | refine blk_alloc ?_ _));exact BK140.out⟩,⟨by (with_reducible repeat (first | refine blk_drewN ?_ _ | refine blk_drew ?_ | refine blk_alloc ?_ _));refine blk_far ?_ NB142_145.out _;(with_reducible repeat (first | refine blk_drewN ?_ _ | refine blk_drew ?_ | refine blk_alloc ?_ _));refine blk_far ?_ NB142_145.out _;(with_reducible repeat (first | refine blk_drewN ?_ _ | refine blk_drew ?_ | refine blk_alloc ?_ _));exact BK142.out⟩,⟨by (with_reducible repeat (first | refine blk_drewN ?_ _ | refine blk_drew ?_ | refine blk_alloc ?_ _));refine blk_put (cs:=#[.string t143,.int .i64 0]) ?_ 1 _ rfl;(with_reducible repeat (first | refine blk_drewN ?_ _ | refine blk_drew ?_ | refine blk_alloc ?_ _));refine blk_put (cs:=#[.string (⟨#[]⟩:zB),.int .i64 0]) ?_ 0 _ rfl;(with_reducible repeat (first | refine blk_drewN ?_ _ | refine blk_drew ?_ | refine blk_alloc ?_ _));exact BK145.out⟩,⟨blw⟩⟩
        ·replace c40:=Bool.eq_false_iff.mpr c40;subst c40;have H1:(insn_Decode.j0 k l0 t146 1 8 (wrap64 ((wrap64 (rd l0 0)) - 128)) 0 0 0 t143 t144)=some (r1,r2,r3,r4,r5,r6):=by rw [if_neg (show ¬ (false=true) by decide)] at H;exact H
         clear H;have H:=H1;clear H1;have H':=Aside0.mk H;clear H;go_wp2;go_meet
         case rel=>exact ⟨_,(8),(by first | rfl | (simp;done) | (simp;decide +kernel) | (simp [*];done)),H',⟨by first | omega | exact Nat.le_refl _⟩,⟨by (with_reducible repeat (first | apply Kd.V_alloc | apply Kd.V_drewN | apply Kd.V_drew));exact Kd.V_mono (Kd.V_far (p:=⟨gb145,1,none⟩) (Kd.V_far (p:=⟨gb145,0,none⟩) (Kd.V_mono HO0.out (fun k_ hk=>(⟨hk,hk.2⟩:_∧k_≠gb145))) (fun _ hk=>hk.2) (.string t143)) (fun _ hk=>hk.2) (.int .i64 t144)) (fun _ hk=>⟨hk.1.1.1.1,⟨hk.1.1.1.2,⟨hk.1.1.2,hk.1.2⟩⟩⟩)⟩,⟨by (with_reducible repeat (first | refine blk_drewN ?_ _ | refine blk_drew ?_ | refine blk_alloc ?_ _));refine blk_far ?_ NB140_145.out _;(with_reducible repeat (first | refine blk_drewN ?_ _ | refine blk_drew ?_ | refine blk_alloc ?_ _));refine blk_far ?_ NB140_145.out _;(with_reducible repeat (first | refine blk_drewN ?_ _ | refine blk_drew ?_ | refine blk_alloc ?_ _));exact BK140.out⟩,⟨by (with_reducible repeat (first | refine blk_drewN ?_ _ | refine blk_drew ?_ | refine blk_alloc ?_ _));refine blk_far ?_ NB142_145.out _;(with_reducible repeat (first | refine blk_drewN ?_ _ | refine blk_drew ?_ | refine blk_alloc ?_ _));refine blk_far ?_ NB142_145.out _;(with_reducible repeat (first | refine blk_drewN ?_ _ | refine blk_drew ?_ | refine blk_alloc ?_ _));exact BK142.out⟩,⟨by (with_reducible repeat (first | refine blk_drewN ?_ _ | refine blk_drew ?_ | refine blk_alloc ?_ _));refine blk_put (cs:=#[.string t143,.int .i64 0]) ?_ 1 _ rfl;(with_reducible repeat (first | refine blk_drewN ?_ _ | refine blk_drew ?_ | refine blk_alloc ?_ _));refine blk_put (cs:=#[.string (⟨#[]⟩:zB),.int .i64 0]) ?_ 0 _ rfl;(with_reducible repeat (first | refine blk_drewN ?_ _ | refine blk_drew ?_ | refine blk_alloc ?_ _));exact BK145.out⟩,⟨blw⟩⟩
       case rest =>
        clear HC36;try clear c1
        try clear p1
        try clear q1
        try clear hx1
        try clear qi1
        try clear c2
        try clear c2b0
        try clear c2b1
        try clear c2b2
        try clear p2
        try clear c3
        try clear c4
        try clear c5
        try clear c5b0
        try clear c5b1
        try clear p6
        try clear c7
        try clear c7b0
        try clear c7b1
        try clear c10
        try clear c14
        try clear p14
        try clear q14
        try clear hx14
        try clear qi14
        try clear c15
        try clear c22
        try clear c23
        try clear c27
        try clear c28
        try clear c30
        try clear c31
        try clear c31b0
        try clear c31b1
        try clear c32
        try clear c33
        try clear c37
        try clear c38
        try clear c40
        try clear hcz11_0
        try clear hcz11_1
        try clear hcz11_2
        try clear hcz11_3
        try clear hcz16_0
        try clear hcz16_1
        try clear hcz17_0
        try clear hcz17_1
        try clear hcz17_2
        try clear hcz17_3
        try clear hcz24_0
        try clear hcz24_1
        try clear hcz24_2
        try clear hcz24_3
        try clear hcz29_0
        try clear hcz29_1
        try clear hcz34_0
        try clear hcz34_1
        try clear hcz34_2
        try clear hcz34_3
        try clear hcz39_0
        try clear hcz39_1
        try clear hcz4_0
        try clear hcz4_1
        try clear hcz4_2
        try clear hcz4_3
        try clear hfz11_0
        try clear hfz11_1
        try clear hfz11_2
        try clear hfz11_3
        try clear hfz16_0
        try clear hfz16_1
        try clear hfz17_0
        try clear hfz17_1
        try clear hfz17_2
        try clear hfz17_3
        try clear hfz24_0
        try clear hfz24_1
        try clear hfz24_2
        try clear hfz24_3
        try clear hfz29_0
        try clear hfz29_1
        try clear hfz34_0
        try clear hfz34_1
        try clear hfz34_2
        try clear hfz34_3
        try clear hfz39_0
        try clear hfz39_1
        try clear hfz4_0
        try clear hfz4_1
        try clear hfz4_2
        try clear hfz4_3
        try clear hx141_0
        try clear p141
        try clear q141
        obtain ⟨kq,x9_35,rfl,HA,HJ35,HO_0,BK140,BK142,BK145,HB⟩:=hcut;cases kq with
        | zero=>exact absurd HA.out (by simp [insn_Decode.j0])
        | succ kj35 =>
         have H:=HA.out;clear HA;simp only [insn_Decode.j0] at H;by_cases c41:(0:Int)≤1
         ·rw [if_pos c41] at H;have c41b0:decide ((0:Int)≤1)=true:=decide_eq_true c41;clear c41;by_cases c42:1 < (l0.length:Int)
          ·rw [if_pos c42] at H;have c42b0:decide (1 < (l0.length:Int))=true:=decide_eq_true c42;have c42b1:decide (1 < l0.length)=true:=decide_eq_true (by omega);clear c42;by_cases c43:(rd l0 1)≥x9_35
           ·rw [if_pos c43] at H;have c43b0:decide (x9_35≤(rd l0 1))=true:=decide_eq_true c43;clear c43;simp only [Option.some.injEq,Prod.mk.injEq] at H;obtain ⟨rfl,rfl,rfl,rfl,rfl,rfl⟩:=H;have p149:0≤(1:Int):=(by omega);have q149:1 < (l0.length:Int):=of_decide_eq_true asm;obtain ⟨ad149,e149,hx149_0⟩:=Kd.at_int (Kd.V_reads' HO_0.out).2.2 1 p149 q149;obtain rfl:ad141=ad149:=(by injection e149);(try simp only [show (1:Int).toNat=1 from rfl,Nat.reduceMul,Nat.reduceEqDiff,Go.Addr.add,↓reduceIte] at hx149_0);have qi149:(1 < l0.length)=True:=eq_true (by omega);(try rw [show ((1:Int)).toNat=1 from rfl] at hx149_0);replace p149:=eq_true p149;replace q149:=eq_true q149;have hnb44:=NB140_142.out;have hnc44:=NB142_140.out;have hnb45:=NB140_145.out;have hnc45:=NB145_140.out;have hcz46_0:wc.cell? ⟨gb140,0,none⟩=some (.int .i64 0):=(blk_cell BK140.out 0).trans rfl;have hcz46_1:wc.cell? ⟨gb140,1,none⟩=some (.int .i64 0):=(blk_cell BK140.out 1).trans rfl;have hcz46_2:wc.cell? ⟨gb140,2,none⟩=some (.int .i64 0):=(blk_cell BK140.out 2).trans rfl;have hcz46_3:wc.cell? ⟨gb140,3,none⟩=some (.int .i64 0):=(blk_cell BK140.out 3).trans rfl;have hfz46_0:=blk_frozen BK140.out 0;have hfz46_1:=blk_frozen BK140.out 1;have hfz46_2:=blk_frozen BK140.out 2;have hfz46_3:=blk_frozen BK140.out 3;go_wp2;refine bodyPost_ret (results_ctt rfl _ _ gb140 23 #[.int .i64 0,.int .i64 0,.int .i64 0,.int .i64 0] (0,0) _ rfl (by (with_reducible repeat (first | refine blk_drewN ?_ _ | refine blk_drew ?_ | refine blk_alloc ?_ _));refine blk_put (cs:=#[.int .i64 0,.int .i64 0,.int .i64 0,.int .i64 0]) ?_ 3 _ rfl;(with_reducible repeat (first | refine blk_drewN ?_ _ | refine blk_drew ?_ | refine blk_alloc ?_ _));refine blk_put (cs:=#[.int .i64 0,.int .i64 0,.int .i64 0,.int .i64 0]) ?_ 2 _ rfl;(with_reducible repeat (first | refine blk_drewN ?_ _ | refine blk_drew ?_ | refine blk_alloc ?_ _));refine blk_put (cs:=#[.int .i64 0,.int .i64 0,.int .i64 0,.int .i64 0]) ?_ 1 _ rfl;(with_reducible repeat (first | refine blk_drewN ?_ _ | refine blk_drew ?_ | refine blk_alloc ?_ _));refine blk_put (cs:=#[.int .i64 0,.int .i64 0,.int .i64 0,.int .i64 0]) ?_ 0 _ rfl;(with_reducible repeat (first | refine blk_drewN ?_ _ | refine blk_drew ?_ | refine blk_alloc ?_ _));exact BK140.out) Tryz.underlying23 rfl (by kernel_rfl)) rfl ?_;exact ⟨rew,blw⟩
           ·rw [if_neg c43] at H;have c43b0:decide (x9_35≤(rd l0 1))=false:=decide_eq_false c43;clear c43;replace H:=Option.bind_eq_some_iff.mp H;obtain ⟨t151,A470,H⟩:=H;replace H:(if t151=true then (insn_Decode.j1 kj35 l0 t146 (wrap64 (1+1)) (wrap64 ((wrap64 (rd l0 0)) - 128)) (wrap64 (Int.tdiv (wrap64 (rd l0 1)) 8)) (Int.tmod (wrap64 (rd l0 1)) 8) 0 t143 t144) else (insn_Decode.j1 kj35 l0 t146 (wrap64 (1+1)) (wrap64 ((wrap64 (rd l0 0)) - 128)) (wrap64 (rd l0 1)) 0 0 t143 t144))=some (r1,r2,r3,r4,r5,r6):=H;have A47:=Aside0.mk A470;clear A470;by_cases c48:t151=true
            ·subst c48;have H1:(insn_Decode.j1 kj35 l0 t146 (wrap64 (1+1)) (wrap64 ((wrap64 (rd l0 0)) - 128)) (wrap64 (Int.tdiv (wrap64 (rd l0 1)) 8)) (Int.tmod (wrap64 (rd l0 1)) 8) 0 t143 t144)=some (r1,r2,r3,r4,r5,r6):=by rw [if_pos rfl] at H;exact H
             clear H;have H:=H1;clear H1;have H':=Aside0.mk H;clear H;have p149:0≤(1:Int):=(by omega);have q149:1 < (l0.length:Int):=of_decide_eq_true asm;obtain ⟨ad149,e149,hx149_0⟩:=Kd.at_int (Kd.V_reads' HO_0.out).2.2 1 p149 q149;obtain rfl:ad141=ad149:=(by injection e149);(try simp only [show (1:Int).toNat=1 from rfl,Nat.reduceMul,Nat.reduceEqDiff,Go.Addr.add,↓reduceIte] at hx149_0);have qi149:(1 < l0.length)=True:=eq_true (by omega);(try rw [show ((1:Int)).toNat=1 from rfl] at hx149_0);replace p149:=eq_true p149;replace q149:=eq_true q149;have p150:0≤(1:Int):=(by omega);have q150:1 < (l0.length:Int):=of_decide_eq_true asm;obtain ⟨ad150,e150,hx150_0⟩:=Kd.at_int (Kd.V_reads' HO_0.out).2.2 1 p150 q150;obtain rfl:ad141=ad150:=(by injection e150);(try simp only [show (1:Int).toNat=1 from rfl,Nat.reduceMul,Nat.reduceEqDiff,Go.Addr.add,↓reduceIte] at hx150_0);have qi150:(1 < l0.length)=True:=eq_true (by omega);(try rw [show ((1:Int)).toNat=1 from rfl] at hx150_0);replace p150:=eq_true p150;replace q150:=eq_true q150;have hnb49:=NB142_140.out;have hnc49:=NB140_142.out;have hnb50:=NB142_145.out;have hnc50:=NB145_142.out;have hcz51_0:wc.cell? ⟨gb142,0,none⟩=some (.int .i64 (wrap64 ((wrap64 (rd l0 0)) - 128))):=(blk_cell BK142.out 0).trans rfl;have hcz51_1:wc.cell? ⟨gb142,1,none⟩=some (.int .i64 0):=(blk_cell BK142.out 1).trans rfl;have hcz51_2:wc.cell? ⟨gb142,2,none⟩=some (.int .i64 0):=(blk_cell BK142.out 2).trans rfl;have hcz51_3:wc.cell? ⟨gb142,3,none⟩=some (.int .i64 0):=(blk_cell BK142.out 3).trans rfl;have hfz51_0:=blk_frozen BK142.out 0;have hfz51_1:=blk_frozen BK142.out 1;have hfz51_2:=blk_frozen BK142.out 2;have hfz51_3:=blk_frozen BK142.out 3;have hnb52:=NB145_140.out;have hnc52:=NB140_145.out;have hcz53_0:wc.cell? ⟨gb145,0,none⟩=some (.string t143):=(blk_cell BK145.out 0).trans rfl;have hcz53_1:wc.cell? ⟨gb145,1,none⟩=some (.int .i64 t144):=(blk_cell BK145.out 1).trans rfl;have hfz53_0:=blk_frozen BK145.out 0;have hfz53_1:=blk_frozen BK145.out 1;go_wp2_with (first | ((with_reducible refine gate_callee (f:=58) rfl ?_);refine goesL_ (some 57) rfl rfl Tryz.func58 (by kernel_rfl) rfl #[.int .i64 t144] rfl fq ?_;(with_reducible refine (insn_hasB.calls t144 true _ A47.out).mono ?_);rintro e w' ⟨rfl,⟨nd,rfl⟩⟩;refine ⟨_,rfl,?_⟩))
             go_meet
             case rel=>exact ⟨_,(wrap64 (1+1)),(0),(0),(0),(0),(wrap64 (Int.tdiv (wrap64 (rd l0 1)) 8)),(Int.tmod (wrap64 (rd l0 1)) 8),(by first | rfl | (simp;done) | (simp;decide +kernel) | (simp [*];done)),H',⟨by have:=HJ35.out;first | omega | exact Nat.le_refl _⟩,⟨by (with_reducible repeat (first | apply Kd.V_alloc | apply Kd.V_drewN | apply Kd.V_drew));exact Kd.V_mono (Kd.V_far (p:=⟨gb142,2,none⟩) (Kd.V_far (p:=⟨gb142,1,none⟩) (Kd.V_far (p:=⟨gb142,1,none⟩) (Kd.V_mono HO_0.out (fun k_ hk=>(⟨hk,hk.2.2.1⟩:_∧k_≠gb142))) (fun _ hk=>hk.2) (.int .i64 (wrap64 (rd l0 1)))) (fun _ hk=>hk.2) (.int .i64 (wrap64 (Int.tdiv (wrap64 (rd l0 1)) 8)))) (fun _ hk=>hk.2) (.int .i64 (Int.tmod (wrap64 (rd l0 1)) 8))) (fun _ hk=>⟨hk.1.1,⟨hk.1.2.1,⟨hk.1.2.2.1,hk.1.2.2.2⟩⟩⟩)⟩,⟨by (with_reducible repeat (first | refine blk_drewN ?_ _ | refine blk_drew ?_ | refine blk_alloc ?_ _));refine blk_far ?_ NB140_142.out _;(with_reducible repeat (first | refine blk_drewN ?_ _ | refine blk_drew ?_ | refine blk_alloc ?_ _));refine blk_far ?_ NB140_142.out _;(with_reducible repeat (first | refine blk_drewN ?_ _ | refine blk_drew ?_ | refine blk_alloc ?_ _));refine blk_far ?_ NB140_142.out _;(with_reducible repeat (first | refine blk_drewN ?_ _ | refine blk_drew ?_ | refine blk_alloc ?_ _));exact BK140.out⟩,⟨by (with_reducible repeat (first | refine blk_drewN ?_ _ | refine blk_drew ?_ | refine blk_alloc ?_ _));refine blk_put (cs:=#[.int .i64 (wrap64 ((wrap64 (rd l0 0)) - 128)),.int .i64 (wrap64 (Int.tdiv (wrap64 (rd l0 1)) 8)),.int .i64 0,.int .i64 0]) ?_ 2 _ rfl;(with_reducible repeat (first | refine blk_drewN ?_ _ | refine blk_drew ?_ | refine blk_alloc ?_ _));refine blk_put (cs:=#[.int .i64 (wrap64 ((wrap64 (rd l0 0)) - 128)),.int .i64 (wrap64 (rd l0 1)),.int .i64 0,.int .i64 0]) ?_ 1 _ rfl;(with_reducible repeat (first | refine blk_drewN ?_ _ | refine blk_drew ?_ | refine blk_alloc ?_ _));refine blk_put (cs:=#[.int .i64 (wrap64 ((wrap64 (rd l0 0)) - 128)),.int .i64 0,.int .i64 0,.int .i64 0]) ?_ 1 _ rfl;(with_reducible repeat (first | refine blk_drewN ?_ _ | refine blk_drew ?_ | refine blk_alloc ?_ _));exact BK142.out⟩,⟨by (with_reducible repeat (first | refine blk_drewN ?_ _ | refine blk_drew ?_ | refine blk_alloc ?_ _));refine blk_far ?_ NB145_142.out _;(with_reducible repeat (first | refine blk_drewN ?_ _ | refine blk_drew ?_ | refine blk_alloc ?_ _));refine blk_far ?_ NB145_142.out _;(with_reducible repeat (first | refine blk_drewN ?_ _ | refine blk_drew ?_ | refine blk_alloc ?_ _));refine blk_far ?_ NB145_142.out _;(with_reducible repeat (first | refine blk_drewN ?_ _ | refine blk_drew ?_ | refine blk_alloc ?_ _));exact BK145.out⟩,⟨blw⟩⟩
            ·replace c48:=Bool.eq_false_iff.mpr c48;subst c48;have H1:(insn_Decode.j1 kj35 l0 t146 (wrap64 (1+1)) (wrap64 ((wrap64 (rd l0 0)) - 128)) (wrap64 (rd l0 1)) 0 0 t143 t144)=some (r1,r2,r3,r4,r5,r6):=by rw [if_neg (show ¬ (false=true) by decide)] at H;exact H
             clear H;have H:=H1;clear H1;have H':=Aside0.mk H;clear H;have p149:0≤(1:Int):=(by omega);have q149:1 < (l0.length:Int):=of_decide_eq_true asm;obtain ⟨ad149,e149,hx149_0⟩:=Kd.at_int (Kd.V_reads' HO_0.out).2.2 1 p149 q149;obtain rfl:ad141=ad149:=(by injection e149);(try simp only [show (1:Int).toNat=1 from rfl,Nat.reduceMul,Nat.reduceEqDiff,Go.Addr.add,↓reduceIte] at hx149_0);have qi149:(1 < l0.length)=True:=eq_true (by omega);(try rw [show ((1:Int)).toNat=1 from rfl] at hx149_0);replace p149:=eq_true p149;replace q149:=eq_true q149;have p150:0≤(1:Int):=(by omega);have q150:1 < (l0.length:Int):=of_decide_eq_true asm;obtain ⟨ad150,e150,hx150_0⟩:=Kd.at_int (Kd.V_reads' HO_0.out).2.2 1 p150 q150;obtain rfl:ad141=ad150:=(by injection e150);(try simp only [show (1:Int).toNat=1 from rfl,Nat.reduceMul,Nat.reduceEqDiff,Go.Addr.add,↓reduceIte] at hx150_0);have qi150:(1 < l0.length)=True:=eq_true (by omega);(try rw [show ((1:Int)).toNat=1 from rfl] at hx150_0);replace p150:=eq_true p150;replace q150:=eq_true q150;have hnb54:=NB142_140.out;have hnc54:=NB140_142.out;have hnb55:=NB142_145.out;have hnc55:=NB145_142.out;have hcz56_0:wc.cell? ⟨gb142,0,none⟩=some (.int .i64 (wrap64 ((wrap64 (rd l0 0)) - 128))):=(blk_cell BK142.out 0).trans rfl;have hcz56_1:wc.cell? ⟨gb142,1,none⟩=some (.int .i64 0):=(blk_cell BK142.out 1).trans rfl;have hcz56_2:wc.cell? ⟨gb142,2,none⟩=some (.int .i64 0):=(blk_cell BK142.out 2).trans rfl;have hcz56_3:wc.cell? ⟨gb142,3,none⟩=some (.int .i64 0):=(blk_cell BK142.out 3).trans rfl;have hfz56_0:=blk_frozen BK142.out 0;have hfz56_1:=blk_frozen BK142.out 1;have hfz56_2:=blk_frozen BK142.out 2;have hfz56_3:=blk_frozen BK142.out 3;have hnb57:=NB145_140.out;have hnc57:=NB140_145.out;have hcz58_0:wc.cell? ⟨gb145,0,none⟩=some (.string t143):=(blk_cell BK145.out 0).trans rfl;have hcz58_1:wc.cell? ⟨gb145,1,none⟩=some (.int .i64 t144):=(blk_cell BK145.out 1).trans rfl;have hfz58_0:=blk_frozen BK145.out 0;have hfz58_1:=blk_frozen BK145.out 1;go_wp2_with (first | ((with_reducible refine gate_callee (f:=58) rfl ?_);refine goesL_ (some 57) rfl rfl Tryz.func58 (by kernel_rfl) rfl #[.int .i64 t144] rfl fq ?_;(with_reducible refine (insn_hasB.calls t144 false _ A47.out).mono ?_);rintro e w' ⟨rfl,⟨nd,rfl⟩⟩;refine ⟨_,rfl,?_⟩))
             go_meet
             case rel=>exact ⟨_,(wrap64 (1+1)),(0),(0),(0),(0),(wrap64 (rd l0 1)),(0),(by first | rfl | (simp;done) | (simp;decide +kernel) | (simp [*];done)),H',⟨by have:=HJ35.out;first | omega | exact Nat.le_refl _⟩,⟨by (with_reducible repeat (first | apply Kd.V_alloc | apply Kd.V_drewN | apply Kd.V_drew));exact Kd.V_mono (Kd.V_far (p:=⟨gb142,1,none⟩) (Kd.V_mono HO_0.out (fun k_ hk=>(⟨hk,hk.2.2.1⟩:_∧k_≠gb142))) (fun _ hk=>hk.2) (.int .i64 (wrap64 (rd l0 1)))) (fun _ hk=>⟨hk.1.1,⟨hk.1.2.1,⟨hk.1.2.2.1,hk.1.2.2.2⟩⟩⟩)⟩,⟨by (with_reducible repeat (first | refine blk_drewN ?_ _ | refine blk_drew ?_ | refine blk_alloc ?_ _));refine blk_far ?_ NB140_142.out _;(with_reducible repeat (first | refine blk_drewN ?_ _ | refine blk_drew ?_ | refine blk_alloc ?_ _));exact BK140.out⟩,⟨by (with_reducible repeat (first | refine blk_drewN ?_ _ | refine blk_drew ?_ | refine blk_alloc ?_ _));refine blk_put (cs:=#[.int .i64 (wrap64 ((wrap64 (rd l0 0)) - 128)),.int .i64 0,.int .i64 0,.int .i64 0]) ?_ 1 _ rfl;(with_reducible repeat (first | refine blk_drewN ?_ _ | refine blk_drew ?_ | refine blk_alloc ?_ _));exact BK142.out⟩,⟨by (with_reducible repeat (first | refine blk_drewN ?_ _ | refine blk_drew ?_ | refine blk_alloc ?_ _));refine blk_far ?_ NB145_142.out _;(with_reducible repeat (first | refine blk_drewN ?_ _ | refine blk_drew ?_ | refine blk_alloc ?_ _));exact BK145.out⟩,⟨blw⟩⟩
          ·rw [if_neg c42] at H;exact absurd H (by simp)
         ·rw [if_neg c41] at H;exact absurd H (by simp)
     ·replace c30:=Bool.eq_false_iff.mpr c30;subst c30;have H1:(insn_Decode.j1 k l0 t146 1 (wrap64 ((wrap64 (rd l0 0)) - 128)) 0 0 0 t143 t144)=some (r1,r2,r3,r4,r5,r6):=by rw [if_neg (show ¬ (false=true) by decide)] at H;exact H
      clear H;have H:=H1;clear H1;have H':=Aside0.mk H;clear H;go_wp2;go_meet
      case rel=>exact ⟨_,(1),(0),(0),(0),(0),(0),(0),(by first | rfl | (simp;done) | (simp;decide +kernel) | (simp [*];done)),H',⟨by first | omega | exact Nat.le_refl _⟩,⟨by (with_reducible repeat (first | apply Kd.V_alloc | apply Kd.V_drewN | apply Kd.V_drew));exact Kd.V_mono (Kd.V_far (p:=⟨gb145,1,none⟩) (Kd.V_far (p:=⟨gb145,0,none⟩) (Kd.V_mono HO0.out (fun k_ hk=>(⟨hk,hk.2⟩:_∧k_≠gb145))) (fun _ hk=>hk.2) (.string t143)) (fun _ hk=>hk.2) (.int .i64 t144)) (fun _ hk=>⟨hk.1.1.1.1,⟨hk.1.1.1.2,⟨hk.1.1.2,hk.1.2⟩⟩⟩)⟩,⟨by (with_reducible repeat (first | refine blk_drewN ?_ _ | refine blk_drew ?_ | refine blk_alloc ?_ _));refine blk_far ?_ NB140_145.out _;(with_reducible repeat (first | refine blk_drewN ?_ _ | refine blk_drew ?_ | refine blk_alloc ?_ _));refine blk_far ?_ NB140_145.out _;(with_reducible repeat (first | refine blk_drewN ?_ _ | refine blk_drew ?_ | refine blk_alloc ?_ _));exact BK140.out⟩,⟨by (with_reducible repeat (first | refine blk_drewN ?_ _ | refine blk_drew ?_ | refine blk_alloc ?_ _));refine blk_far ?_ NB142_145.out _;(with_reducible repeat (first | refine blk_drewN ?_ _ | refine blk_drew ?_ | refine blk_alloc ?_ _));refine blk_far ?_ NB142_145.out _;(with_reducible repeat (first | refine blk_drewN ?_ _ | refine blk_drew ?_ | refine blk_alloc ?_ _));exact BK142.out⟩,⟨by (with_reducible repeat (first | refine blk_drewN ?_ _ | refine blk_drew ?_ | refine blk_alloc ?_ _));refine blk_put (cs:=#[.string t143,.int .i64 0]) ?_ 1 _ rfl;(with_reducible repeat (first | refine blk_drewN ?_ _ | refine blk_drew ?_ | refine blk_alloc ?_ _));refine blk_put (cs:=#[.string (⟨#[]⟩:zB),.int .i64 0]) ?_ 0 _ rfl;(with_reducible repeat (first | refine blk_drewN ?_ _ | refine blk_drew ?_ | refine blk_alloc ?_ _));exact BK145.out⟩,⟨blw⟩⟩
    case rest =>
     clear HC20;try clear c1
     try clear p1
     try clear q1
     try clear hx1
     try clear qi1
     try clear c2
     try clear c2b0
     try clear c2b1
     try clear c2b2
     try clear p2
     try clear c3
     try clear c4
     try clear c5
     try clear c5b0
     try clear c5b1
     try clear p6
     try clear c7
     try clear c7b0
     try clear c7b1
     try clear c10
     try clear c14
     try clear p14
     try clear q14
     try clear hx14
     try clear qi14
     try clear c15
     try clear p15
     try clear q15
     try clear hx15
     try clear qi15
     try clear c22
     try clear c23
     try clear c27
     try clear c28
     try clear c30
     try clear c31
     try clear c31b0
     try clear c31b1
     try clear c32
     try clear c33
     try clear c37
     try clear c38
     try clear c40
     try clear c41
     try clear c41b0
     try clear c42
     try clear c42b0
     try clear c42b1
     try clear c43
     try clear c43b0
     try clear c44
     try clear c45
     try clear c48
     try clear c49
     try clear c50
     try clear c52
     try clear c54
     try clear c55
     try clear c56
     try clear c57
     try clear c58
     try clear hcz11_0
     try clear hcz11_1
     try clear hcz11_2
     try clear hcz11_3
     try clear hcz16_0
     try clear hcz16_1
     try clear hcz17_0
     try clear hcz17_1
     try clear hcz17_2
     try clear hcz17_3
     try clear hcz24_0
     try clear hcz24_1
     try clear hcz24_2
     try clear hcz24_3
     try clear hcz29_0
     try clear hcz29_1
     try clear hcz34_0
     try clear hcz34_1
     try clear hcz34_2
     try clear hcz34_3
     try clear hcz39_0
     try clear hcz39_1
     try clear hcz46_0
     try clear hcz46_1
     try clear hcz46_2
     try clear hcz46_3
     try clear hcz4_0
     try clear hcz4_1
     try clear hcz4_2
     try clear hcz4_3
     try clear hcz51_0
     try clear hcz51_1
     try clear hcz51_2
     try clear hcz51_3
     try clear hcz53_0
     try clear hcz53_1
     try clear hcz56_0
     try clear hcz56_1
     try clear hcz56_2
     try clear hcz56_3
     try clear hcz58_0
     try clear hcz58_1
     try clear hfz11_0
     try clear hfz11_1
     try clear hfz11_2
     try clear hfz11_3
     try clear hfz16_0
     try clear hfz16_1
     try clear hfz17_0
     try clear hfz17_1
     try clear hfz17_2
     try clear hfz17_3
     try clear hfz24_0
     try clear hfz24_1
     try clear hfz24_2
     try clear hfz24_3
     try clear hfz29_0
     try clear hfz29_1
     try clear hfz34_0
     try clear hfz34_1
     try clear hfz34_2
     try clear hfz34_3
     try clear hfz39_0
     try clear hfz39_1
     try clear hfz46_0
     try clear hfz46_1
     try clear hfz46_2
     try clear hfz46_3
     try clear hfz4_0
     try clear hfz4_1
     try clear hfz4_2
     try clear hfz4_3
     try clear hfz51_0
     try clear hfz51_1
     try clear hfz51_2
     try clear hfz51_3
     try clear hfz53_0
     try clear hfz53_1
     try clear hfz56_0
     try clear hfz56_1
     try clear hfz56_2
     try clear hfz56_3
     try clear hfz58_0
     try clear hfz58_1
     try clear hx141_0
     try clear hx149_0
     try clear hx150_0
     try clear p1
     try clear p14
     try clear p141
     try clear p149
     try clear p150
     try clear p2
     try clear p6
     try clear q1
     try clear q14
     try clear q141
     try clear q149
     try clear q150
     obtain ⟨kq,x8_19,x141000_19,x141001_19,x141002_19,x141003_19,x143001_19,x143002_19,rfl,HA,HJ19,HO_0,BK140,BK142,BK145,HB⟩:=hcut;cases kq with
     | zero=>exact absurd HA.out (by simp [insn_Decode.j1])
     | succ kj19 =>
      have H:=HA.out;clear HA;simp only [insn_Decode.j1] at H;have H':=Aside0.mk H;clear H;go_wp2;try simp only [Act.put,List.setIfInBounds_toArray,List.set_cons_zero,List.set_cons_succ]
      go_loopg [10] kj19 (fun kq v10 w'=>∃ (x10_2:Int) (x141000_2:Int) (x141001_2:Int) (x141002_2:Int) (x141003_2:Int),v10=.int .i64 x10_2∧Aside0 (insn_Decode.l0 kq l0 t146 x8_19 x10_2 (wrap64 ((wrap64 (rd l0 0)) - 128)) x143001_19 x143002_19 0 t143 t144=some (r1,r2,r3,r4,r5,r6))∧Aside0 (kq≤kj19)∧Aside0 (Kd.V (Kd.int .u8) 5 w' w.heap.size (fun k_=>(P0_ k_∨w.heap.size≤k_)∧k_≠gb140∧k_≠gb142∧k_≠gb145) (.slice (some ad141) l0.length c0) l0)∧Aside0 (w'.heap[gb140]?=some (.cells #[.int .i64 x141000_2,.int .i64 x141001_2,.int .i64 x141002_2,.int .i64 x141003_2] 23 (0,0)))∧Aside0 (w'.heap[gb142]?=some (.cells #[.int .i64 (wrap64 ((wrap64 (rd l0 0)) - 128)),.int .i64 x143001_19,.int .i64 x143002_19,.int .i64 0] 23 (0,0)))∧Aside0 (w'.heap[gb145]?=some (.cells #[.string t143,.int .i64 t144] 103 (0,0)))∧Aside0 (Below w.heap.size w w'))
      case atStart=>exact ⟨(x8_19),(x141000_19),(x141001_19),(x141002_19),(x141003_19),(by first | rfl | (simp;done) | (simp;decide +kernel) | (simp [*];done)),H',⟨Nat.le_refl _⟩,⟨by (with_reducible repeat (first | apply Kd.V_alloc | apply Kd.V_drewN | apply Kd.V_drew));exact HO_0.out⟩,⟨bko⟩,⟨bko⟩,⟨bko⟩,⟨blw⟩⟩
      case round =>
       clear H';try clear c1
       try clear p1
       try clear q1
       try clear hx1
       try clear qi1
       try clear c2
       try clear c2b0
       try clear c2b1
       try clear c2b2
       try clear p2
       try clear c3
       try clear c4
       try clear c5
       try clear c5b0
       try clear c5b1
       try clear p6
       try clear c7
       try clear c7b0
       try clear c7b1
       try clear c10
       try clear c14
       try clear p14
       try clear q14
       try clear hx14
       try clear qi14
       try clear c15
       try clear p15
       try clear q15
       try clear hx15
       try clear qi15
       try clear c22
       try clear c23
       try clear c27
       try clear c28
       try clear c30
       try clear c31
       try clear c31b0
       try clear c31b1
       try clear c32
       try clear c33
       try clear c37
       try clear c38
       try clear c40
       try clear c41
       try clear c41b0
       try clear c42
       try clear c42b0
       try clear c42b1
       try clear c43
       try clear c43b0
       try clear c44
       try clear c45
       try clear c48
       try clear c49
       try clear c50
       try clear c52
       try clear c54
       try clear c55
       try clear c56
       try clear c57
       try clear c58
       try clear hcz11_0
       try clear hcz11_1
       try clear hcz11_2
       try clear hcz11_3
       try clear hcz16_0
       try clear hcz16_1
       try clear hcz17_0
       try clear hcz17_1
       try clear hcz17_2
       try clear hcz17_3
       try clear hcz24_0
       try clear hcz24_1
       try clear hcz24_2
       try clear hcz24_3
       try clear hcz29_0
       try clear hcz29_1
       try clear hcz34_0
       try clear hcz34_1
       try clear hcz34_2
       try clear hcz34_3
       try clear hcz39_0
       try clear hcz39_1
       try clear hcz46_0
       try clear hcz46_1
       try clear hcz46_2
       try clear hcz46_3
       try clear hcz4_0
       try clear hcz4_1
       try clear hcz4_2
       try clear hcz4_3
       try clear hcz51_0
       try clear hcz51_1
       try clear hcz51_2
       try clear hcz51_3
       try clear hcz53_0
       try clear hcz53_1
       try clear hcz56_0
       try clear hcz56_1
       try clear hcz56_2
       try clear hcz56_3
       try clear hcz58_0
       try clear hcz58_1
       try clear hfz11_0
       try clear hfz11_1
       try clear hfz11_2
       try clear hfz11_3
       try clear hfz16_0
       try clear hfz16_1
       try clear hfz17_0
       try clear hfz17_1
       try clear hfz17_2
       try clear hfz17_3
       try clear hfz24_0
       try clear hfz24_1
       try clear hfz24_2
       try clear hfz24_3
       try clear hfz29_0
       try clear hfz29_1
       try clear hfz34_0
       try clear hfz34_1
       try clear hfz34_2
       try clear hfz34_3
       try clear hfz39_0
       try clear hfz39_1
       try clear hfz46_0
       try clear hfz46_1
       try clear hfz46_2
       try clear hfz46_3
       try clear hfz4_0
       try clear hfz4_1
       try clear hfz4_2
       try clear hfz4_3
       try clear hfz51_0
       try clear hfz51_1
       try clear hfz51_2
       try clear hfz51_3
       try clear hfz53_0
       try clear hfz53_1
       try clear hfz56_0
       try clear hfz56_1
       try clear hfz56_2
       try clear hfz56_3
       try clear hfz58_0
       try clear hfz58_1
       try clear hx141_0
       try clear hx149_0
       try clear hx150_0
       try clear p1
       try clear p14
       try clear p141
       try clear p149
       try clear p15
       try clear p150
       try clear p2
       try clear p6
       try clear q1
       try clear q14
       try clear q141
       try clear q149
       try clear q15
       try clear q150
       obtain ⟨x10_2,x141000_2,x141001_2,x141002_2,x141003_2,rfl,HA,HK2,HO_0,BK140,BK142,BK145,HB⟩:=hrel;cases gk with
       | zero=>exact absurd HA.out (by simp [insn_Decode.l0])
       | succ k2 =>
        have H:=HA.out;clear HA;simp only [insn_Decode.l0] at H;by_cases c59:x10_2 < t146
        ·rw [if_pos c59] at H;have c59b0:decide (x10_2 < t146)=true:=decide_eq_true c59;clear c59;by_cases c60:x10_2=(l0.length:Int)
         ·rw [if_pos c60] at H;have c60b0:(x10_2 == (l0.length:Int))=true:=beq_iff_eq.mpr c60;have c60b1:(x10_2 != (l0.length:Int))=false:=bne_eq_false_iff_eq.mpr c60;clear c60;simp only [Option.some.injEq,Prod.mk.injEq] at H;obtain ⟨rfl,rfl,rfl,rfl,rfl,rfl⟩:=H;have hnb61:=NB140_142.out;have hnc61:=NB142_140.out;have hnb62:=NB140_145.out;have hnc62:=NB145_140.out;have hcz63_0:wr.cell? ⟨gb140,0,none⟩=some (.int .i64 x141000_2):=(blk_cell BK140.out 0).trans rfl;have hcz63_1:wr.cell? ⟨gb140,1,none⟩=some (.int .i64 x141001_2):=(blk_cell BK140.out 1).trans rfl;have hcz63_2:wr.cell? ⟨gb140,2,none⟩=some (.int .i64 x141002_2):=(blk_cell BK140.out 2).trans rfl;have hcz63_3:wr.cell? ⟨gb140,3,none⟩=some (.int .i64 x141003_2):=(blk_cell BK140.out 3).trans rfl;have hfz63_0:=blk_frozen BK140.out 0;have hfz63_1:=blk_frozen BK140.out 1;have hfz63_2:=blk_frozen BK140.out 2;have hfz63_3:=blk_frozen BK140.out 3;go_wp2;refine bodyPost_ret (results_ctt rfl _ _ gb140 23 #[.int .i64 0,.int .i64 0,.int .i64 0,.int .i64 0] (0,0) _ rfl (by (with_reducible repeat (first | refine blk_drewN ?_ _ | refine blk_drew ?_ | refine blk_alloc ?_ _));refine blk_put (cs:=#[.int .i64 0,.int .i64 0,.int .i64 0,.int .i64 x141003_2]) ?_ 3 _ rfl;(with_reducible repeat (first | refine blk_drewN ?_ _ | refine blk_drew ?_ | refine blk_alloc ?_ _));refine blk_put (cs:=#[.int .i64 0,.int .i64 0,.int .i64 x141002_2,.int .i64 x141003_2]) ?_ 2 _ rfl;(with_reducible repeat (first | refine blk_drewN ?_ _ | refine blk_drew ?_ | refine blk_alloc ?_ _));refine blk_put (cs:=#[.int .i64 0,.int .i64 x141001_2,.int .i64 x141002_2,.int .i64 x141003_2]) ?_ 1 _ rfl;(with_reducible repeat (first | refine blk_drewN ?_ _ | refine blk_drew ?_ | refine blk_alloc ?_ _));refine blk_put (cs:=#[.int .i64 x141000_2,.int .i64 x141001_2,.int .i64 x141002_2,.int .i64 x141003_2]) ?_ 0 _ rfl;(with_reducible repeat (first | refine blk_drewN ?_ _ | refine blk_drew ?_ | refine blk_alloc ?_ _));exact BK140.out) Tryz.underlying23 rfl (by kernel_rfl)) rfl ?_;exact ⟨rew,blw⟩
         ·rw [if_neg c60] at H;have c60b0:(x10_2 == (l0.length:Int))=false:=beq_eq_false_iff_ne.mpr c60;have c60b1:(x10_2 != (l0.length:Int))=true:=bne_iff_ne.mpr c60;by_cases c64:0≤x10_2
          ·rw [if_pos c64] at H;have c64b0:decide (0≤x10_2)=true:=decide_eq_true c64;clear c64;by_cases c65:x10_2 < (l0.length:Int)
           ·rw [if_pos c65] at H;have c65b0:decide (x10_2 < (l0.length:Int))=true:=decide_eq_true c65;clear c65;by_cases c66:(rd l0 x10_2)≥128
            ·rw [if_pos c66] at H;have c66b0:decide (128≤(rd l0 x10_2))=true:=decide_eq_true c66;clear c66;simp only [Option.some.injEq,Prod.mk.injEq] at H;obtain ⟨rfl,rfl,rfl,rfl,rfl,rfl⟩:=H;have p158:0≤(x10_2:Int):=of_decide_eq_true asm;have q158:x10_2 < (l0.length:Int):=of_decide_eq_true asm;obtain ⟨ad158,e158,hx158_0⟩:=Kd.at_int (Kd.V_reads' HO_0.out).2.2 x10_2 p158 q158;obtain rfl:ad141=ad158:=(by injection e158);replace p158:=eq_true p158;replace q158:=eq_true q158;have hnb67:=NB140_142.out;have hnc67:=NB142_140.out;have hnb68:=NB140_145.out;have hnc68:=NB145_140.out;have hcz69_0:wr.cell? ⟨gb140,0,none⟩=some (.int .i64 x141000_2):=(blk_cell BK140.out 0).trans rfl;have hcz69_1:wr.cell? ⟨gb140,1,none⟩=some (.int .i64 x141001_2):=(blk_cell BK140.out 1).trans rfl;have hcz69_2:wr.cell? ⟨gb140,2,none⟩=some (.int .i64 x141002_2):=(blk_cell BK140.out 2).trans rfl;have hcz69_3:wr.cell? ⟨gb140,3,none⟩=some (.int .i64 x141003_2):=(blk_cell BK140.out 3).trans rfl;have hfz69_0:=blk_frozen BK140.out 0;have hfz69_1:=blk_frozen BK140.out 1;have hfz69_2:=blk_frozen BK140.out 2;have hfz69_3:=blk_frozen BK140.out 3;go_wp2;refine bodyPost_ret (results_ctt rfl _ _ gb140 23 #[.int .i64 0,.int .i64 0,.int .i64 0,.int .i64 0] (0,0) _ rfl (by (with_reducible repeat (first | refine blk_drewN ?_ _ | refine blk_drew ?_ | refine blk_alloc ?_ _));refine blk_put (cs:=#[.int .i64 0,.int .i64 0,.int .i64 0,.int .i64 x141003_2]) ?_ 3 _ rfl;(with_reducible repeat (first | refine blk_drewN ?_ _ | refine blk_drew ?_ | refine blk_alloc ?_ _));refine blk_put (cs:=#[.int .i64 0,.int .i64 0,.int .i64 x141002_2,.int .i64 x141003_2]) ?_ 2 _ rfl;(with_reducible repeat (first | refine blk_drewN ?_ _ | refine blk_drew ?_ | refine blk_alloc ?_ _));refine blk_put (cs:=#[.int .i64 0,.int .i64 x141001_2,.int .i64 x141002_2,.int .i64 x141003_2]) ?_ 1 _ rfl;(with_reducible repeat (first | refine blk_drewN ?_ _ | refine blk_drew ?_ | refine blk_alloc ?_ _));refine blk_put (cs:=#[.int .i64 x141000_2,.int .i64 x141001_2,.int .i64 x141002_2,.int .i64 x141003_2]) ?_ 0 _ rfl;(with_reducible repeat (first | refine blk_drewN ?_ _ | refine blk_drew ?_ | refine blk_alloc ?_ _));exact BK140.out) Tryz.underlying23 rfl (by kernel_rfl)) rfl ?_;exact ⟨rew,blw⟩
            ·rw [if_neg c66] at H;have c66b0:decide (128≤(rd l0 x10_2))=false:=decide_eq_false c66;clear c66;by_cases c70:t144=3
             ·rw [if_pos c70] at H;have c70b0:(t144 == 3)=true:=beq_iff_eq.mpr c70;have c70b1:(t144 != 3)=false:=bne_eq_false_iff_eq.mpr c70;clear c70;by_cases c71:x10_2=(wrap64 (t146 - 1))
              ·rw [if_pos c71] at H;have c71b0:(x10_2 == (wrap64 (t146 - 1)))=true:=beq_iff_eq.mpr c71;have c71b1:(x10_2 != (wrap64 (t146 - 1)))=false:=bne_eq_false_iff_eq.mpr c71;clear c71;by_cases c72:(rd l0 x10_2)=0
               ·rw [if_pos c72] at H;have c72b0:((rd l0 x10_2) == 0)=true:=beq_iff_eq.mpr c72;have c72b1:((rd l0 x10_2) != 0)=false:=bne_eq_false_iff_eq.mpr c72;clear c72;have H':=Aside0.mk H;clear H;have p158:0≤(x10_2:Int):=of_decide_eq_true asm;have q158:x10_2 < (l0.length:Int):=of_decide_eq_true asm;obtain ⟨ad158,e158,hx158_0⟩:=Kd.at_int (Kd.V_reads' HO_0.out).2.2 x10_2 p158 q158;obtain rfl:ad141=ad158:=(by injection e158);replace p158:=eq_true p158;replace q158:=eq_true q158;have hnb73:=NB145_140.out;have hnc73:=NB140_145.out;have hnb74:=NB145_142.out;have hnc74:=NB142_145.out;have hcz75_0:wr.cell? ⟨gb145,0,none⟩=some (.string t143):=(blk_cell BK145.out 0).trans rfl;have hcz75_1:wr.cell? ⟨gb145,1,none⟩=some (.int .i64 t144):=(blk_cell BK145.out 1).trans rfl;have hfz75_0:=blk_frozen BK145.out 0;have hfz75_1:=blk_frozen BK145.out 1;have p159:0≤(x10_2:Int):=of_decide_eq_true asm;have q159:x10_2 < (l0.length:Int):=of_decide_eq_true asm;obtain ⟨ad159,e159,hx159_0⟩:=Kd.at_int (Kd.V_reads' HO_0.out).2.2 x10_2 p159 q159;obtain rfl:ad141=ad159:=(by injection e159);replace p159:=eq_true p159;replace q159:=eq_true q159;go_wp2;go_roundg k2
                case measure=>have:=HJ19.out;have:=HK2.out;omega
                case rel=>exact ⟨(wrap64 (x10_2+1)),(x141000_2),(x141001_2),(x141002_2),(x141003_2),(by first | rfl | (simp;done) | (simp;decide +kernel) | (simp [*];done)),H',⟨by have:=HJ19.out;have:=HK2.out;omega⟩,⟨by (with_reducible repeat (first | apply Kd.V_alloc | apply Kd.V_drewN | apply Kd.V_drew));exact HO_0.out⟩,⟨bko⟩,⟨bko⟩,⟨bko⟩,⟨blw⟩⟩
               ·rw [if_neg c72] at H;have c72b0:((rd l0 x10_2) == 0)=false:=beq_eq_false_iff_ne.mpr c72;have c72b1:((rd l0 x10_2) != 0)=true:=bne_iff_ne.mpr c72;by_cases c76:(rd l0 x10_2)=127
                ·rw [if_pos c76] at H;have c76b0:((rd l0 x10_2) == 127)=true:=beq_iff_eq.mpr c76;have c76b1:((rd l0 x10_2) != 127)=false:=bne_eq_false_iff_eq.mpr c76;clear c76;have H':=Aside0.mk H;clear H;have p158:0≤(x10_2:Int):=of_decide_eq_true asm;have q158:x10_2 < (l0.length:Int):=of_decide_eq_true asm;obtain ⟨ad158,e158,hx158_0⟩:=Kd.at_int (Kd.V_reads' HO_0.out).2.2 x10_2 p158 q158;obtain rfl:ad141=ad158:=(by injection e158);replace p158:=eq_true p158;replace q158:=eq_true q158;have hnb77:=NB145_140.out;have hnc77:=NB140_145.out;have hnb78:=NB145_142.out;have hnc78:=NB142_145.out;have hcz79_0:wr.cell? ⟨gb145,0,none⟩=some (.string t143):=(blk_cell BK145.out 0).trans rfl;have hcz79_1:wr.cell? ⟨gb145,1,none⟩=some (.int .i64 t144):=(blk_cell BK145.out 1).trans rfl;have hfz79_0:=blk_frozen BK145.out 0;have hfz79_1:=blk_frozen BK145.out 1;have p159:0≤(x10_2:Int):=of_decide_eq_true asm;have q159:x10_2 < (l0.length:Int):=of_decide_eq_true asm;obtain ⟨ad159,e159,hx159_0⟩:=Kd.at_int (Kd.V_reads' HO_0.out).2.2 x10_2 p159 q159;obtain rfl:ad141=ad159:=(by injection e159);replace p159:=eq_true p159;replace q159:=eq_true q159;have p160:0≤(x10_2:Int):=of_decide_eq_true asm;have q160:x10_2 < (l0.length:Int):=of_decide_eq_true asm;obtain ⟨ad160,e160,hx160_0⟩:=Kd.at_int (Kd.V_reads' HO_0.out).2.2 x10_2 p160 q160;obtain rfl:ad141=ad160:=(by injection e160);replace p160:=eq_true p160;replace q160:=eq_true q160;go_wp2;go_roundg k2
                 case measure=>have:=HJ19.out;have:=HK2.out;omega
                 case rel=>exact ⟨(wrap64 (x10_2+1)),(x141000_2),(x141001_2),(x141002_2),(x141003_2),(by first | rfl | (simp;done) | (simp;decide +kernel) | (simp [*];done)),H',⟨by have:=HJ19.out;have:=HK2.out;omega⟩,⟨by (with_reducible repeat (first | apply Kd.V_alloc | apply Kd.V_drewN | apply Kd.V_drew));exact HO_0.out⟩,⟨bko⟩,⟨bko⟩,⟨bko⟩,⟨blw⟩⟩
                ·rw [if_neg c76] at H;have c76b0:((rd l0 x10_2) == 127)=false:=beq_eq_false_iff_ne.mpr c76;have c76b1:((rd l0 x10_2) != 127)=true:=bne_iff_ne.mpr c76;simp only [Option.some.injEq,Prod.mk.injEq] at H;obtain ⟨rfl,rfl,rfl,rfl,rfl,rfl⟩:=H;have p158:0≤(x10_2:Int):=of_decide_eq_true asm;have q158:x10_2 < (l0.length:Int):=of_decide_eq_true asm;obtain ⟨ad158,e158,hx158_0⟩:=Kd.at_int (Kd.V_reads' HO_0.out).2.2 x10_2 p158 q158;obtain rfl:ad141=ad158:=(by injection e158);replace p158:=eq_true p158;replace q158:=eq_true q158;have hnb80:=NB145_140.out;have hnc80:=NB140_145.out;have hnb81:=NB145_142.out;have hnc81:=NB142_145.out;have hcz82_0:wr.cell? ⟨gb145,0,none⟩=some (.string t143):=(blk_cell BK145.out 0).trans rfl;have hcz82_1:wr.cell? ⟨gb145,1,none⟩=some (.int .i64 t144):=(blk_cell BK145.out 1).trans rfl;have hfz82_0:=blk_frozen BK145.out 0;have hfz82_1:=blk_frozen BK145.out 1;have p159:0≤(x10_2:Int):=of_decide_eq_true asm;have q159:x10_2 < (l0.length:Int):=of_decide_eq_true asm;obtain ⟨ad159,e159,hx159_0⟩:=Kd.at_int (Kd.V_reads' HO_0.out).2.2 x10_2 p159 q159;obtain rfl:ad141=ad159:=(by injection e159);replace p159:=eq_true p159;replace q159:=eq_true q159;have p160:0≤(x10_2:Int):=of_decide_eq_true asm;have q160:x10_2 < (l0.length:Int):=of_decide_eq_true asm;obtain ⟨ad160,e160,hx160_0⟩:=Kd.at_int (Kd.V_reads' HO_0.out).2.2 x10_2 p160 q160;obtain rfl:ad141=ad160:=(by injection e160);replace p160:=eq_true p160;replace q160:=eq_true q160;have hnb83:=NB140_142.out;have hnc83:=NB142_140.out;have hcz84_0:wr.cell? ⟨gb140,0,none⟩=some (.int .i64 x141000_2):=(blk_cell BK140.out 0).trans rfl;have hcz84_1:wr.cell? ⟨gb140,1,none⟩=some (.int .i64 x141001_2):=(blk_cell BK140.out 1).trans rfl;have hcz84_2:wr.cell? ⟨gb140,2,none⟩=some (.int .i64 x141002_2):=(blk_cell BK140.out 2).trans rfl;have hcz84_3:wr.cell? ⟨gb140,3,none⟩=some (.int .i64 x141003_2):=(blk_cell BK140.out 3).trans rfl;have hfz84_0:=blk_frozen BK140.out 0;have hfz84_1:=blk_frozen BK140.out 1;have hfz84_2:=blk_frozen BK140.out 2;have hfz84_3:=blk_frozen BK140.out 3;go_wp2;refine bodyPost_ret (results_ctt rfl _ _ gb140 23 #[.int .i64 0,.int .i64 0,.int .i64 0,.int .i64 0] (0,0) _ rfl (by (with_reducible repeat (first | refine blk_drewN ?_ _ | refine blk_drew ?_ | refine blk_alloc ?_ _));refine blk_put (cs:=#[.int .i64 0,.int .i64 0,.int .i64 0,.int .i64 x141003_2]) ?_ 3 _ rfl;(with_reducible repeat (first | refine blk_drewN ?_ _ | refine blk_drew ?_ | refine blk_alloc ?_ _));refine blk_put (cs:=#[.int .i64 0,.int .i64 0,.int .i64 x141002_2,.int .i64 x141003_2]) ?_ 2 _ rfl;(with_reducible repeat (first | refine blk_drewN ?_ _ | refine blk_drew ?_ | refine blk_alloc ?_ _));refine blk_put (cs:=#[.int .i64 0,.int .i64 x141001_2,.int .i64 x141002_2,.int .i64 x141003_2]) ?_ 1 _ rfl;(with_reducible repeat (first | refine blk_drewN ?_ _ | refine blk_drew ?_ | refine blk_alloc ?_ _));refine blk_put (cs:=#[.int .i64 x141000_2,.int .i64 x141001_2,.int .i64 x141002_2,.int .i64 x141003_2]) ?_ 0 _ rfl;(with_reducible repeat (first | refine blk_drewN ?_ _ | refine blk_drew ?_ | refine blk_alloc ?_ _));exact BK140.out) Tryz.underlying23 rfl (by kernel_rfl)) rfl ?_;exact ⟨rew,blw⟩
              ·rw [if_neg c71] at H;have c71b0:(x10_2 == (wrap64 (t146 - 1)))=false:=beq_eq_false_iff_ne.mpr c71;have c71b1:(x10_2 != (wrap64 (t146 - 1)))=true:=bne_iff_ne.mpr c71;have H':=Aside0.mk H;clear H;have p158:0≤(x10_2:Int):=of_decide_eq_true asm;have q158:x10_2 < (l0.length:Int):=of_decide_eq_true asm;obtain ⟨ad158,e158,hx158_0⟩:=Kd.at_int (Kd.V_reads' HO_0.out).2.2 x10_2 p158 q158;obtain rfl:ad141=ad158:=(by injection e158);replace p158:=eq_true p158;replace q158:=eq_true q158;have hnb85:=NB145_140.out;have hnc85:=NB140_145.out;have hnb86:=NB145_142.out;have hnc86:=NB142_145.out;have hcz87_0:wr.cell? ⟨gb145,0,none⟩=some (.string t143):=(blk_cell BK145.out 0).trans rfl;have hcz87_1:wr.cell? ⟨gb145,1,none⟩=some (.int .i64 t144):=(blk_cell BK145.out 1).trans rfl;have hfz87_0:=blk_frozen BK145.out 0;have hfz87_1:=blk_frozen BK145.out 1;go_wp2;go_roundg k2
               case measure=>have:=HJ19.out;have:=HK2.out;omega
               case rel=>exact ⟨(wrap64 (x10_2+1)),(x141000_2),(x141001_2),(x141002_2),(x141003_2),(by first | rfl | (simp;done) | (simp;decide +kernel) | (simp [*];done)),H',⟨by have:=HJ19.out;have:=HK2.out;omega⟩,⟨by (with_reducible repeat (first | apply Kd.V_alloc | apply Kd.V_drewN | apply Kd.V_drew));exact HO_0.out⟩,⟨bko⟩,⟨bko⟩,⟨bko⟩,⟨blw⟩⟩
             ·rw [if_neg c70] at H;have c70b0:(t144 == 3)=false:=beq_eq_false_iff_ne.mpr c70;have c70b1:(t144 != 3)=true:=bne_iff_ne.mpr c70;have H':=Aside0.mk H;clear H;have p158:0≤(x10_2:Int):=of_decide_eq_true asm;have q158:x10_2 < (l0.length:Int):=of_decide_eq_true asm;obtain ⟨ad158,e158,hx158_0⟩:=Kd.at_int (Kd.V_reads' HO_0.out).2.2 x10_2 p158 q158;obtain rfl:ad141=ad158:=(by injection e158);replace p158:=eq_true p158;replace q158:=eq_true q158;have hnb88:=NB145_140.out;have hnc88:=NB140_145.out;have hnb89:=NB145_142.out;have hnc89:=NB142_145.out;have hcz90_0:wr.cell? ⟨gb145,0,none⟩=some (.string t143):=(blk_cell BK145.out 0).trans rfl;have hcz90_1:wr.cell? ⟨gb145,1,none⟩=some (.int .i64 t144):=(blk_cell BK145.out 1).trans rfl;have hfz90_0:=blk_frozen BK145.out 0;have hfz90_1:=blk_frozen BK145.out 1;go_wp2;go_roundg k2
              case measure=>have:=HJ19.out;have:=HK2.out;omega
              case rel=>exact ⟨(wrap64 (x10_2+1)),(x141000_2),(x141001_2),(x141002_2),(x141003_2),(by first | rfl | (simp;done) | (simp;decide +kernel) | (simp [*];done)),H',⟨by have:=HJ19.out;have:=HK2.out;omega⟩,⟨by (with_reducible repeat (first | apply Kd.V_alloc | apply Kd.V_drewN | apply Kd.V_drew));exact HO_0.out⟩,⟨bko⟩,⟨bko⟩,⟨bko⟩,⟨blw⟩⟩
           ·rw [if_neg c65] at H;exact absurd H (by simp)
          ·rw [if_neg c64] at H;exact absurd H (by simp)
        ·rw [if_neg c59] at H;have c59b0:decide (x10_2 < t146)=false:=decide_eq_false c59;clear c59;by_cases c91:0≤x8_19
         ·rw [if_pos c91] at H;have c91b0:=eq_true c91;have c91b1:decide (0≤x8_19)=true:=decide_eq_true c91;clear c91;by_cases c92:x8_19≤t146
          ·rw [if_pos c92] at H;have c92b0:=eq_true c92;have c92b1:decide (x8_19≤t146)=true:=decide_eq_true c92;clear c92;by_cases c93:t146≤(l0.length:Int)
           ·rw [if_pos c93] at H;have c93b0:=eq_true c93;have c93b1:decide (t146≤(l0.length:Int))=true:=decide_eq_true c93;clear c93;obtain ⟨y152,hy152⟩:∃ y_:List Int,y_=((l0.take (t146:Int).toNat).drop (x8_19:Int).toNat):=⟨_,rfl⟩;replace H:((insn_immOf.f k2 t144 y152).bind fun t157=>(some ((wrap64 ((wrap64 (rd l0 0)) - 128)),x143001_19,x143002_19,t157,t146,0)))=some (r1,r2,r3,r4,r5,r6):=by first | (rw [hy152];with_reducible exact H) | (have H2_:=(Option.bind_some _ _).symm.trans H;rw [hy152];with_reducible exact H2_) | (have H2_:=(Option.bind_some _ _).symm.trans H;with_reducible exact H2_) | with_reducible exact H | (rw [hy152];exact H) | exact H
            have Ny152:=Aside0.mk hy152;clear hy152;replace H:=Option.bind_eq_some_iff.mp H;obtain ⟨t157,A940,H⟩:=H;replace H:(some ((wrap64 ((wrap64 (rd l0 0)) - 128)),x143001_19,x143002_19,t157,t146,0))=some (r1,r2,r3,r4,r5,r6):=H;have A94:=Aside0.mk A940;clear A940;simp only [Option.some.injEq,Prod.mk.injEq] at H;obtain ⟨rfl,rfl,rfl,rfl,rfl,rfl⟩:=H;try go_wp2
            have n0_:=Aside0.mk (Kd.V_drew HO_0.out);have n1_:=Aside0.mk (blk_drew BK140.out);have n2_:=Aside0.mk (blk_drew BK142.out);have n3_:=Aside0.mk (blk_drew BK145.out);have n4_:=Aside0.mk (below_drew1 HB.out);clear HO_0;clear BK140;clear BK142;clear BK145;clear HB;have HO_0:=n0_;have BK140:=n1_;have BK142:=n2_;have BK145:=n3_;have HB:=n4_;clear n0_ n1_ n2_ n3_ n4_;have q96:(t146:Int)≤((l0.length:Int):Int):=of_decide_eq_true asm;obtain ⟨i096,hi096,_,hsz96,_⟩:=info_parts info5;have hroom96:l0.length≤c0:=(Kd.V_reads' HO_0.out).2.1;have hC96:Kd.F (Kd.int .u8) _ _ (some ad141) l0.length l0:=(Kd.V_at (base:=w.heap.size) HO_0.out).2.2;have ql96:(x8_19:Int)≤(t146:Int):=of_decide_eq_true asm;have q096:(0:Int)≤(x8_19:Int):=of_decide_eq_true asm;have hcut96:=cut_mid (P:=Tryz.prog) 24 5 .i64 .i64 Tryz.underlying24 hi096 1 hsz96 (some ad141) l0.length c0 x8_19 t146 q096 ql96 q96 hroom96;have hr96:=Kd.F_mid (lo:=(x8_19:Int).toNat) (hi:=(t146:Int).toNat) (c:=c0) hC96 (by omega) (by omega) hroom96;obtain ⟨A96,hA96⟩:∃ A1,A1=(if c0=(x8_19:Int).toNat then (some ad141) else ((some ad141):Option Addr).map (·.add ((x8_19:Int).toNat * 1))):=⟨_,rfl⟩;obtain ⟨c96,hc96⟩:∃ c1,c1=c0 - (x8_19:Int).toNat:=⟨_,rfl⟩;have hy96:y152.length=(t146:Int).toNat - (x8_19:Int).toNat:=(by rw [Ny152.out,List.length_drop,List.length_take] <;> omega);rw [show ((l0).take (t146:Int).toNat).drop (x8_19:Int).toNat=y152 from Ny152.out.symm] at hr96;replace hr96:Kd.F (Kd.int .u8) _ _ A96 y152.length y152:=(by rw [hA96];exact hr96);rw [← hy96,← hA96,← hc96] at hcut96;have HO156:=Aside0.mk (show Kd.V (Kd.int .u8) 5 _ w.heap.size _ (.slice A96 y152.length c96) y152 from Kd.V_mk (by rw [hy96,hc96];exact Nat.sub_le_sub_right (Nat.le_trans (by omega) hroom96) _) hr96);have HC156:=Aside0.mk (show y152.length≤c96 from by rw [hy96,hc96];exact Nat.sub_le_sub_right (Nat.le_trans (by omega) hroom96) _);clear hr96 hC96 hroom96 hi096 hsz96 hc96;have KY96:=Aside0.mk hy96;have KA96:=Aside0.mk hA96;clear hy96 hA96;replace q96:=eq_true q96;refine start_ (n:=9) (S:=fun w'=>w'.cell? ⟨gb145,0,none⟩=some (.string t143)∧w'.cell? ⟨gb145,1,none⟩=some (.int .i64 t144)) (ds:=[]) #[zF,zF,zF,zF,zF,zF,zF,zF,zF] (by kernel_rfl) rfl rfl ⟨(blk_cell BK145.out 0).trans rfl,(blk_cell BK145.out 1).trans rfl⟩ (fun hHeld=>?_);refine with_tabW insn_Decode.tab28 insn_Decode.bits28 (fun HT_ HW_=>?_);generalize wr.drew=w95 at HO_0 BK140 BK142 BK145 HB HO156 hHeld ⊢;refine pure_ (i:=0) (N:=some 110) (v:=?_) (a':=?_) #[zT,zF,zF,zF,zF,zF,zF,zF,zF] rfl rfl (any_of HT_.out (by kernel_rfl)) (fun _ _ _ h=>h) (Or.inl ⟨by rfl,?_⟩) ?_ ?_;rotate_left
            ·intro w';go_simp;with_reducible rfl
            rotate_left
            ·exact zp
            refine pure_ (i:=2) (N:=some 112) (v:=?_) (a':=?_) #[zT,zF,zT,zF,zF,zF,zF,zF,zF] rfl rfl (any_of HT_.out (by kernel_rfl)) (fun _ _ _ h=>h) (Or.inl ⟨by rfl,?_⟩) ?_ ?_;rotate_left
            ·intro w';go_simp;with_reducible rfl
            rotate_left
            ·exact zp
            refine pure_ (i:=3) (N:=some 113) (v:=?_) (a':=?_) #[zT,zF,zT,zT,zF,zF,zF,zF,zF] rfl rfl (any_of HT_.out (by kernel_rfl)) (fun _ _ _ h=>h) (Or.inl ⟨by rfl,?_⟩) ?_ ?_;rotate_left
            ·intro w';go_simp;with_reducible rfl
            rotate_left
            ·exact zp
            refine pure_ (i:=4) (N:=some 114) (v:=?_) (a':=?_) #[zT,zF,zT,zT,zT,zF,zF,zF,zF] rfl rfl (any_of HT_.out (by kernel_rfl)) (fun _ _ _ h=>h) (Or.inl ⟨by rfl,?_⟩) ?_ ?_;rotate_left
            ·intro w';go_simp;with_reducible rfl
            rotate_left
            ·exact zp
            refine pure_ (i:=5) (N:=some 115) (v:=?_) (a':=?_) #[zT,zF,zT,zT,zT,zT,zF,zF,zF] rfl rfl (any_of HT_.out (by kernel_rfl)) (fun _ _ _ h=>h) (Or.inl ⟨by rfl,?_⟩) ?_ ?_;rotate_left
            ·intro w';go_simp;with_reducible rfl
            rotate_left
            ·exact zp
            refine take_ (i:=1) (N:=some 111) (v:=?_) (a':=?_) #[zT,zT,zT,zT,zT,zT,zF,zF,zF] rfl rfl (take_ofW HT_.out HW_.out (by kernel_rfl)) (fun _ _ _ h=>h) (Or.inl ⟨by rfl,?_⟩) hHeld ?_ ?_;rotate_left
            ·rintro w' ⟨s0,s1⟩;go_simp;with_reducible rfl
            rotate_left
            ·exact zp
            refine one_ (i:=6) (N:=some 116) #[zT,zT,zT,zT,zT,zT,zT,zF,zF] rfl rfl (one_of HT_.out (by kernel_rfl)) (by decide) (fun K hK=>?_);refine goes_ Tryz.func59 (by kernel_rfl) rfl #[.int .i64 t144,.slice A96 y152.length c96] (by rfl) rfl rfl fq ?_;with_reducible refine (insn_immOf.calls k2 t144 _ _ y152 t157 _ ?side1 ?side2 A94.out).mono ?_
            (case side1=>repeat (first | exact (Kd.V_reads' HO156.out).2.2 | (with_reducible refine Kd.C_alloc ?_ _) | (with_reducible refine Kd.C_drewN ?_ _) | (with_reducible refine Kd.C_drew ?_)));(case side2=>exact (Kd.V_reads' HO156.out).2.1);rintro e w' ⟨rfl,⟨nd,rfl⟩⟩;refine ⟨_,rfl,?_⟩;refine hK.out _ _ ⟨(blk_cell BK145.out 0).trans rfl,(blk_cell BK145.out 1).trans rfl⟩ (fun hHeld=>?_);clear hK K;refine norm_ (a':=?_) ?_ ?_;rotate_left
            ·show Act.put _ (some 116) _=_;simp only [Act.put,List.setIfInBounds_toArray,List.set_cons_zero,List.set_cons_succ,i64_w,i32_w];rfl
            refine pure_ (i:=7) (N:=some 117) (v:=?_) (a':=?_) #[zT,zT,zT,zT,zT,zT,zT,zT,zF] rfl rfl (any_of HT_.out (by kernel_rfl)) (fun _ _ _ h=>h) (Or.inl ⟨by rfl,?_⟩) ?_ ?_;rotate_left
            ·intro w';go_simp;with_reducible rfl
            rotate_left
            ·exact zp
            refine one_ (i:=8) (N:=none) #[zT,zT,zT,zT,zT,zT,zT,zT,zT] rfl rfl (one_of HT_.out (by kernel_rfl)) (by decide) (fun K hK=>?_);have hs97:w95.cell? ⟨gb142,3,none⟩=some (.int .i64 0):=(blk_cell BK142.out 3).trans rfl;have hfs97:=blk_frozen BK142.out 3;have hns97_0:=NB140_142.out;have hns97_2:=NB145_142.out;have hms97_0:=NB142_140.out;have hms97_2:=NB142_145.out;refine skip_ (w1:=?_) (by rfl) rfl ?_ ?_;rotate_left
            ·go_simp;rfl
            refine hK.out _ _ ⟨((cell_far (p:=⟨gb142,_,none⟩) NB145_142.out _).trans (hHeld.1)),((cell_far (p:=⟨gb142,_,none⟩) NB145_142.out _).trans (hHeld.2))⟩ (fun hHeld=>?_);clear hK K;refine done_ (done_of HT_.out (by kernel_rfl)) ?_;have hnb98:=NB142_140.out;have hnc98:=NB140_142.out;have hnb99:=NB142_145.out;have hnc99:=NB145_142.out;have hcz100_0:w95.cell? ⟨gb142,0,none⟩=some (.int .i64 (wrap64 ((wrap64 (rd l0 0)) - 128))):=(blk_cell BK142.out 0).trans rfl;have hcz100_1:w95.cell? ⟨gb142,1,none⟩=some (.int .i64 x143001_19):=(blk_cell BK142.out 1).trans rfl;have hcz100_2:w95.cell? ⟨gb142,2,none⟩=some (.int .i64 x143002_19):=(blk_cell BK142.out 2).trans rfl;have hcz100_3:w95.cell? ⟨gb142,3,none⟩=some (.int .i64 0):=(blk_cell BK142.out 3).trans rfl;have hfz100_0:=blk_frozen BK142.out 0;have hfz100_1:=blk_frozen BK142.out 1;have hfz100_2:=blk_frozen BK142.out 2;have hfz100_3:=blk_frozen BK142.out 3;have hnb101:=NB140_145.out;have hnc101:=NB145_140.out;have hcz102_0:w95.cell? ⟨gb140,0,none⟩=some (.int .i64 x141000_2):=(blk_cell BK140.out 0).trans rfl;have hcz102_1:w95.cell? ⟨gb140,1,none⟩=some (.int .i64 x141001_2):=(blk_cell BK140.out 1).trans rfl;have hcz102_2:w95.cell? ⟨gb140,2,none⟩=some (.int .i64 x141002_2):=(blk_cell BK140.out 2).trans rfl;have hcz102_3:w95.cell? ⟨gb140,3,none⟩=some (.int .i64 x141003_2):=(blk_cell BK140.out 3).trans rfl;have hfz102_0:=blk_frozen BK140.out 0;have hfz102_1:=blk_frozen BK140.out 1;have hfz102_2:=blk_frozen BK140.out 2;have hfz102_3:=blk_frozen BK140.out 3;try go_wp2
            refine bodyPost_ret (results_ctt rfl _ _ gb140 23 #[.int .i64 (wrap64 ((wrap64 (rd l0 0)) - 128)),.int .i64 x143001_19,.int .i64 x143002_19,.int .i64 t157] (0,0) _ rfl (by (with_reducible repeat (first | refine blk_drewN ?_ _ | refine blk_drew ?_ | refine blk_alloc ?_ _));refine blk_put (cs:=#[.int .i64 (wrap64 ((wrap64 (rd l0 0)) - 128)),.int .i64 x143001_19,.int .i64 x143002_19,.int .i64 x141003_2]) ?_ 3 _ rfl;(with_reducible repeat (first | refine blk_drewN ?_ _ | refine blk_drew ?_ | refine blk_alloc ?_ _));refine blk_put (cs:=#[.int .i64 (wrap64 ((wrap64 (rd l0 0)) - 128)),.int .i64 x143001_19,.int .i64 x141002_2,.int .i64 x141003_2]) ?_ 2 _ rfl;(with_reducible repeat (first | refine blk_drewN ?_ _ | refine blk_drew ?_ | refine blk_alloc ?_ _));refine blk_put (cs:=#[.int .i64 (wrap64 ((wrap64 (rd l0 0)) - 128)),.int .i64 x141001_2,.int .i64 x141002_2,.int .i64 x141003_2]) ?_ 1 _ rfl;(with_reducible repeat (first | refine blk_drewN ?_ _ | refine blk_drew ?_ | refine blk_alloc ?_ _));refine blk_put (cs:=#[.int .i64 x141000_2,.int .i64 x141001_2,.int .i64 x141002_2,.int .i64 x141003_2]) ?_ 0 _ rfl;(with_reducible repeat (first | refine blk_drewN ?_ _ | refine blk_drew ?_ | refine blk_alloc ?_ _));refine blk_far ?_ NB140_142.out _;(with_reducible repeat (first | refine blk_drewN ?_ _ | refine blk_drew ?_ | refine blk_alloc ?_ _));exact BK140.out) Tryz.underlying23 rfl (by kernel_rfl)) rfl ?_;exact ⟨rew,blw⟩
           ·rw [if_neg c93] at H;exact absurd H (by simp)
          ·rw [if_neg c92] at H;exact absurd H (by simp)
         ·rw [if_neg c91] at H;exact absurd H (by simp)
  ·rw [if_neg c5] at H;exact absurd H (by simp)
end Go.Proofs.YtffojmgmpfjlhaaGreatDoor.Q
