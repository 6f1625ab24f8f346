/- Parts of the proof that the program's token functions return what the specification's return. -/
import Derived.Test.YtadgddipkbdnbaaGreatDoorLexTokensZ1
import Derived.Test.YtadgddipkbdnbaaGreatDoorLexTokensZ2
import Derived.Test.YtadgddipkbdnbaaGreatDoorLexTokensZ3
import Derived.Test.YtadgddipkbdnbaaGreatDoorLexTokensZ4
import Derived.Test.YtadgddipkbdnbaaGreatDoorLexTokensZ5
import Derived.Test.YtadgddipkbdnbaaGreatDoorLexTokensZ6
import Derived.Test.YtadgddipkbdnbaaGreatDoorLexTokensZ7
import Derived.Test.YtadgddipkbdnbaaGreatDoorLexTokensZ8
import Derived.Test.YtadgddipkbdnbaaGreatDoorLexTokensZ9
import Derived.Test.YtadgddipkbdnbaaGreatDoorLexTokensZ10
import Derived.Test.YtadgddipkbdnbaaGreatDoorLexTokensZ11
import Derived.Test.YtadgddipkbdnbaaGreatDoorLexTokensZ12
import Derived.Test.YtadgddipkbdnbaaGreatDoorLexTokensZ13
import Derived.Test.YtadgddipkbdnbaaGreatDoorLexTokensZ14
import Derived.Test.YtadgddipkbdnbaaGreatDoorLexTokensZ15
import Derived.Test.YtadgddipkbdnbaaGreatDoorLexTokensZ16
import Derived.Test.YtadgddipkbdnbaaGreatDoorLexTokensZ17
set_option linter.unusedVariables false
set_option linter.unusedSimpArgs false
namespace Go.Proofs.YtadgddipkbdnbaaGreatDoor.Q
open Go.Proofs.YtadgddipkbdnbaaGreatDoor Go.RowKit Go.Proofs.YtadgddipkbdnbaaGreatDoorW.PrintWords Go.Proofs.YtadgddipkbdnbaaGreatDoorW.PrintLast Go.Proofs.YtadgddipkbdnbaaGreatDoorW.PrintMore
attribute [local go_sem] max2_int min2_int max_two min_two max_three min_three max_four min_four
def rzKind.f (k:Nat) (a0:ByteArray):Option (Int):=(rzScan.f k a0).bind fun bt205=>(if bt205.2.2=0 then (if (bt205.1.length:Int)=1 then (if 0 < (bt205.1.length:Int) then (if ((rd_T38 bt205.1 0).f1).toList=a0.toList then (some ((rd_T38 bt205.1 0).f0)) else (some 0)) else (none)) else (some 0)) else (some 0))
theorem rzKind.mono:∀ a0 k,LeO (rzKind.f k a0) (rzKind.f (k+1) a0):=by
 intro a0 k;unfold rzKind.f;repeat' first
   | (with_reducible exact rzScan.mono _ _)
   | (with_reducible exact LeO.refl _)
   | (with_reducible exact LeO.none _)
   | (with_reducible refine LeO.ite ?_ ?_)
   | (with_reducible refine LeO.bind ?_ (fun _=>?_))
   | exact LeO.none _
   | refine LeO.ite ?_ ?_
   | refine LeO.bind ?_ (fun _=>?_)
set_option maxHeartbeats 8000000 in
set_option maxRecDepth 100000 in
theorem rzKind.calls (k:Nat) (a0:ByteArray) (r:Int) (w:World) (h:rzKind.f k a0=some r) :
  Calls Tryz.prog 38 #[.string a0] w fun e w'=>e=.returned (.int .i64 r)∧Below w.heap.size w w':=by
 have hu28:=Tryz.underlying28;have HB:=Aside0.mk (Below.refl w.heap.size w);have H:((rzScan.f k a0).bind fun bt205=>(if bt205.2.2=0 then (if (bt205.1.length:Int)=1 then (if 0 < (bt205.1.length:Int) then (if ((rd_T38 bt205.1 0).f1).toList=a0.toList then (some ((rd_T38 bt205.1 0).f0)) else (some 0)) else (none)) else (some 0)) else (some 0)))=some r:=h;clear h;replace H:=Option.bind_eq_some_iff.mp H;obtain ⟨⟨t205,t208,t209⟩,A20,H⟩:=H;replace H:(if t209=0 then (if (t205.length:Int)=1 then (if 0 < (t205.length:Int) then (if ((rd_T38 t205 0).f1).toList=a0.toList then (some ((rd_T38 t205 0).f0)) else (some 0)) else (none)) else (some 0)) else (some 0))=some r:=H;have A2:=Aside0.mk A20;clear A20;by_cases c3:t209=0
 ·rw [if_pos c3] at H;have c3b0:(t209 == 0)=true:=beq_iff_eq.mpr c3;have c3b1:(t209 != 0)=false:=bne_eq_false_iff_eq.mpr c3;clear c3;by_cases c4:(t205.length:Int)=1
  ·rw [if_pos c4] at H;have c4b0:((t205.length:Int) == 1)=true:=beq_iff_eq.mpr c4;have c4b1:((t205.length:Int) != 1)=false:=bne_eq_false_iff_eq.mpr c4;clear c4;by_cases c5:0 < (t205.length:Int)
   ·rw [if_pos c5] at H;have c5b0:decide (0 < (t205.length:Int))=true:=decide_eq_true c5;have c5b1:decide (0 < t205.length)=true:=decide_eq_true (by omega);clear c5;by_cases c6:((rd_T38 t205 0).f1).toList=a0.toList
    ·rw [if_pos c6] at H;have c6b0:(((rd_T38 t205 0).f1).toList == a0.toList)=true:=beq_iff_eq.mpr c6;have c6b1:(((rd_T38 t205 0).f1).toList != a0.toList)=false:=bne_eq_false_iff_eq.mpr c6;clear c6;obtain rfl:=Option.some.inj H;go_enter Tryz.func38,Tryz.ntmps38
     go_wp2_with (first | ((with_reducible refine gate_callee (f:=18) rfl ?_);refine goesL_ (some 5) rfl rfl Tryz.func18 (by kernel_rfl) rfl #[.string a0] rfl fq ?_;(with_reducible refine (rzScan.calls k a0 t205 t208 t209 _ A2.out).mono ?_);rintro e w7 ⟨v206,rfl,ho0,hb⟩;refine ⟨_,rfl,?_⟩;have n0_:=Aside0.mk (Kd.R_lower ho0 (below_size blw));have n1_:=Aside0.mk (below_step blw hb);clear HB;have HO207:=n0_;have HB:=n1_;clear n0_ n1_;(try clear hb);(try clear hb2);(try clear hk);(try clear hi);(try clear ho0)) | ((with_reducible refine gate_dst (N:=3) rfl ?_);(try (refine gate_guard (by rfl) ?_;dsimp only));refine box_event ?hg (N:=3) ?hd (cs:=#[.slice none 0 0,.int .i64 0,.int .i64 0]) (t:=28) ?hr ?_;(case hd=>rfl);(case hg=>rfl);(case hr=>first | (go_simp;done) | (go_simp;rfl));intro gb210 hg w8 hbox hb;have n0_:=Aside0.mk (Kd.R_below (by (with_reducible repeat (first | apply Kd.R_alloc | apply Kd.R_drewN | apply Kd.R_drew));exact HO207.out) hb);have n1_:=Aside0.mk (below_step blw hb);have n2_:=Aside0.mk (hbox);have n3_:=Aside0.mk ((by rw [hg];exact (below_size blw):w.heap.size≤gb210));have n4_:=Aside0.mk ((by rw [hg];exact (below_size blw):w.heap.size≤gb210));clear HO207;clear HB;have HO207:=n0_;have HB:=n1_;have BK210:=n2_;have GW210:=n3_;have GE210:=n4_;clear n0_ n1_ n2_ n3_ n4_;clear hb hbox hg;obtain ⟨Ao9,co9,eo9⟩:=Kd.R_slice HO207.out;subst eo9;have hcz10_0:w8.cell? ⟨gb210,0,none⟩=some (.slice none 0 0):=(blk_cell BK210.out 0).trans rfl;have hcz10_1:w8.cell? ⟨gb210,1,none⟩=some (.int .i64 0):=(blk_cell BK210.out 1).trans rfl;have hcz10_2:w8.cell? ⟨gb210,2,none⟩=some (.int .i64 0):=(blk_cell BK210.out 2).trans rfl;have hfz10_0:=blk_frozen BK210.out 0;have hfz10_1:=blk_frozen BK210.out 1;have hfz10_2:=blk_frozen BK210.out 2;have p211:0≤(0:Int):=(by omega);have q211:0 < (t205.length:Int):=of_decide_eq_true asm;obtain ⟨ad211,e211,hx211_0,hx211_1,hx211_2⟩:=at_T38 (Kd.R_reads' HO207.out).2.2 0 p211 q211;cases e211;have qi211:(0 < t205.length)=True:=eq_true (by omega);(try rw [show ((0:Int)).toNat=0 from rfl] at hx211_0);(try rw [show 0 * 3=0 from rfl] at hx211_0);(try rw [Addr.add_zero'] at hx211_0);(try rw [show ((0:Int)).toNat=0 from rfl] at hx211_1);(try rw [show 0 * 3=0 from rfl] at hx211_1);(try rw [Addr.add_zero'] at hx211_1);(try rw [show ((0:Int)).toNat=0 from rfl] at hx211_2);(try rw [show 0 * 3=0 from rfl] at hx211_2);(try rw [Addr.add_zero'] at hx211_2);have hn211_0:ad211.block≠gb210:=Kd.own_blk (Kd.R_ne HO207.out BK210.out (by decide));have hn211_1:ad211.block≠gb210:=Kd.own_blk (Kd.R_ne HO207.out BK210.out (by decide));have hn211_2:ad211.block≠gb210:=Kd.own_blk (Kd.R_ne HO207.out BK210.out (by decide));replace hx211_0:=(cell_far (p:=⟨gb210,0,none⟩) (by first | (rw [add_block];exact hn211_0) | (show (Addr.add _ _).block≠_;rw [add_block];exact hn211_0) | exact hn211_0) (.slice (some ad211) t205.length co9)).trans hx211_0;replace hx211_1:=(cell_far (p:=⟨gb210,0,none⟩) (by first | (rw [add_block];exact hn211_0) | (show (Addr.add _ _).block≠_;rw [add_block];exact hn211_0) | exact hn211_0) (.slice (some ad211) t205.length co9)).trans hx211_1;replace hx211_2:=(cell_far (p:=⟨gb210,0,none⟩) (by first | (rw [add_block];exact hn211_0) | (show (Addr.add _ _).block≠_;rw [add_block];exact hn211_0) | exact hn211_0) (.slice (some ad211) t205.length co9)).trans hx211_2;replace hx211_0:=(cell_far (p:=⟨gb210,1,none⟩) (by first | (rw [add_block];exact hn211_1) | (show (Addr.add _ _).block≠_;rw [add_block];exact hn211_1) | exact hn211_1) (.int .i64 t208)).trans hx211_0;replace hx211_1:=(cell_far (p:=⟨gb210,1,none⟩) (by first | (rw [add_block];exact hn211_1) | (show (Addr.add _ _).block≠_;rw [add_block];exact hn211_1) | exact hn211_1) (.int .i64 t208)).trans hx211_1;replace hx211_2:=(cell_far (p:=⟨gb210,1,none⟩) (by first | (rw [add_block];exact hn211_1) | (show (Addr.add _ _).block≠_;rw [add_block];exact hn211_1) | exact hn211_1) (.int .i64 t208)).trans hx211_2;replace hx211_0:=(cell_far (p:=⟨gb210,2,none⟩) (by first | (rw [add_block];exact hn211_2) | (show (Addr.add _ _).block≠_;rw [add_block];exact hn211_2) | exact hn211_2) (.int .i64 t209)).trans hx211_0;replace hx211_1:=(cell_far (p:=⟨gb210,2,none⟩) (by first | (rw [add_block];exact hn211_2) | (show (Addr.add _ _).block≠_;rw [add_block];exact hn211_2) | exact hn211_2) (.int .i64 t209)).trans hx211_1;replace hx211_2:=(cell_far (p:=⟨gb210,2,none⟩) (by first | (rw [add_block];exact hn211_2) | (show (Addr.add _ _).block≠_;rw [add_block];exact hn211_2) | exact hn211_2) (.int .i64 t209)).trans hx211_2;clear hn211_0;clear hn211_1;clear hn211_2;replace p211:=eq_true p211;replace q211:=eq_true q211;have p212:0≤(0:Int):=(by omega);have q212:0 < (t205.length:Int):=of_decide_eq_true asm;obtain ⟨ad212,e212,hx212_0,hx212_1,hx212_2⟩:=at_T38 (Kd.R_reads' HO207.out).2.2 0 p212 q212;obtain rfl:ad211=ad212:=(by injection e212);have qi212:(0 < t205.length)=True:=eq_true (by omega);(try rw [show ((0:Int)).toNat=0 from rfl] at hx212_0);(try rw [show 0 * 3=0 from rfl] at hx212_0);(try rw [Addr.add_zero'] at hx212_0);(try rw [show ((0:Int)).toNat=0 from rfl] at hx212_1);(try rw [show 0 * 3=0 from rfl] at hx212_1);(try rw [Addr.add_zero'] at hx212_1);(try rw [show ((0:Int)).toNat=0 from rfl] at hx212_2);(try rw [show 0 * 3=0 from rfl] at hx212_2);(try rw [Addr.add_zero'] at hx212_2);have hn212_0:ad211.block≠gb210:=Kd.own_blk (Kd.R_ne HO207.out BK210.out (by decide));have hn212_1:ad211.block≠gb210:=Kd.own_blk (Kd.R_ne HO207.out BK210.out (by decide));have hn212_2:ad211.block≠gb210:=Kd.own_blk (Kd.R_ne HO207.out BK210.out (by decide));replace hx212_0:=(cell_far (p:=⟨gb210,0,none⟩) (by first | (rw [add_block];exact hn212_0) | (show (Addr.add _ _).block≠_;rw [add_block];exact hn212_0) | exact hn212_0) (.slice (some ad211) t205.length co9)).trans hx212_0;replace hx212_1:=(cell_far (p:=⟨gb210,0,none⟩) (by first | (rw [add_block];exact hn212_0) | (show (Addr.add _ _).block≠_;rw [add_block];exact hn212_0) | exact hn212_0) (.slice (some ad211) t205.length co9)).trans hx212_1;replace hx212_2:=(cell_far (p:=⟨gb210,0,none⟩) (by first | (rw [add_block];exact hn212_0) | (show (Addr.add _ _).block≠_;rw [add_block];exact hn212_0) | exact hn212_0) (.slice (some ad211) t205.length co9)).trans hx212_2;replace hx212_0:=(cell_far (p:=⟨gb210,1,none⟩) (by first | (rw [add_block];exact hn212_1) | (show (Addr.add _ _).block≠_;rw [add_block];exact hn212_1) | exact hn212_1) (.int .i64 t208)).trans hx212_0;replace hx212_1:=(cell_far (p:=⟨gb210,1,none⟩) (by first | (rw [add_block];exact hn212_1) | (show (Addr.add _ _).block≠_;rw [add_block];exact hn212_1) | exact hn212_1) (.int .i64 t208)).trans hx212_1;replace hx212_2:=(cell_far (p:=⟨gb210,1,none⟩) (by first | (rw [add_block];exact hn212_1) | (show (Addr.add _ _).block≠_;rw [add_block];exact hn212_1) | exact hn212_1) (.int .i64 t208)).trans hx212_2;replace hx212_0:=(cell_far (p:=⟨gb210,2,none⟩) (by first | (rw [add_block];exact hn212_2) | (show (Addr.add _ _).block≠_;rw [add_block];exact hn212_2) | exact hn212_2) (.int .i64 t209)).trans hx212_0;replace hx212_1:=(cell_far (p:=⟨gb210,2,none⟩) (by first | (rw [add_block];exact hn212_2) | (show (Addr.add _ _).block≠_;rw [add_block];exact hn212_2) | exact hn212_2) (.int .i64 t209)).trans hx212_1;replace hx212_2:=(cell_far (p:=⟨gb210,2,none⟩) (by first | (rw [add_block];exact hn212_2) | (show (Addr.add _ _).block≠_;rw [add_block];exact hn212_2) | exact hn212_2) (.int .i64 t209)).trans hx212_2;clear hn212_0;clear hn212_1;clear hn212_2;replace p212:=eq_true p212;replace q212:=eq_true q212))
     go_ret;exact ⟨rew,blw⟩
    ·rw [if_neg c6] at H;have c6b0:(((rd_T38 t205 0).f1).toList == a0.toList)=false:=beq_eq_false_iff_ne.mpr c6;have c6b1:(((rd_T38 t205 0).f1).toList != a0.toList)=true:=bne_iff_ne.mpr c6;obtain rfl:=Option.some.inj H;go_enter Tryz.func38,Tryz.ntmps38
     go_wp2_with (first | ((with_reducible refine gate_callee (f:=18) rfl ?_);refine goesL_ (some 5) rfl rfl Tryz.func18 (by kernel_rfl) rfl #[.string a0] rfl fq ?_;(with_reducible refine (rzScan.calls k a0 t205 t208 t209 _ A2.out).mono ?_);rintro e w11 ⟨v206,rfl,ho0,hb⟩;refine ⟨_,rfl,?_⟩;have n0_:=Aside0.mk (Kd.R_lower ho0 (below_size blw));have n1_:=Aside0.mk (below_step blw hb);clear HB;have HO207:=n0_;have HB:=n1_;clear n0_ n1_;(try clear hb);(try clear hb2);(try clear hk);(try clear hi);(try clear ho0)) | ((with_reducible refine gate_dst (N:=3) rfl ?_);(try (refine gate_guard (by rfl) ?_;dsimp only));refine box_event ?hg (N:=3) ?hd (cs:=#[.slice none 0 0,.int .i64 0,.int .i64 0]) (t:=28) ?hr ?_;(case hd=>rfl);(case hg=>rfl);(case hr=>first | (go_simp;done) | (go_simp;rfl));intro gb210 hg w12 hbox hb;have n0_:=Aside0.mk (Kd.R_below (by (with_reducible repeat (first | apply Kd.R_alloc | apply Kd.R_drewN | apply Kd.R_drew));exact HO207.out) hb);have n1_:=Aside0.mk (below_step blw hb);have n2_:=Aside0.mk (hbox);have n3_:=Aside0.mk ((by rw [hg];exact (below_size blw):w.heap.size≤gb210));have n4_:=Aside0.mk ((by rw [hg];exact (below_size blw):w.heap.size≤gb210));clear HO207;clear HB;have HO207:=n0_;have HB:=n1_;have BK210:=n2_;have GW210:=n3_;have GE210:=n4_;clear n0_ n1_ n2_ n3_ n4_;clear hb hbox hg;obtain ⟨Ao13,co13,eo13⟩:=Kd.R_slice HO207.out;subst eo13;have hcz14_0:w12.cell? ⟨gb210,0,none⟩=some (.slice none 0 0):=(blk_cell BK210.out 0).trans rfl;have hcz14_1:w12.cell? ⟨gb210,1,none⟩=some (.int .i64 0):=(blk_cell BK210.out 1).trans rfl;have hcz14_2:w12.cell? ⟨gb210,2,none⟩=some (.int .i64 0):=(blk_cell BK210.out 2).trans rfl;have hfz14_0:=blk_frozen BK210.out 0;have hfz14_1:=blk_frozen BK210.out 1;have hfz14_2:=blk_frozen BK210.out 2;have p211:0≤(0:Int):=(by omega);have q211:0 < (t205.length:Int):=of_decide_eq_true asm;obtain ⟨ad211,e211,hx211_0,hx211_1,hx211_2⟩:=at_T38 (Kd.R_reads' HO207.out).2.2 0 p211 q211;cases e211;have qi211:(0 < t205.length)=True:=eq_true (by omega);(try rw [show ((0:Int)).toNat=0 from rfl] at hx211_0);(try rw [show 0 * 3=0 from rfl] at hx211_0);(try rw [Addr.add_zero'] at hx211_0);(try rw [show ((0:Int)).toNat=0 from rfl] at hx211_1);(try rw [show 0 * 3=0 from rfl] at hx211_1);(try rw [Addr.add_zero'] at hx211_1);(try rw [show ((0:Int)).toNat=0 from rfl] at hx211_2);(try rw [show 0 * 3=0 from rfl] at hx211_2);(try rw [Addr.add_zero'] at hx211_2);have hn211_0:ad211.block≠gb210:=Kd.own_blk (Kd.R_ne HO207.out BK210.out (by decide));have hn211_1:ad211.block≠gb210:=Kd.own_blk (Kd.R_ne HO207.out BK210.out (by decide));have hn211_2:ad211.block≠gb210:=Kd.own_blk (Kd.R_ne HO207.out BK210.out (by decide));replace hx211_0:=(cell_far (p:=⟨gb210,0,none⟩) (by first | (rw [add_block];exact hn211_0) | (show (Addr.add _ _).block≠_;rw [add_block];exact hn211_0) | exact hn211_0) (.slice (some ad211) t205.length co13)).trans hx211_0;replace hx211_1:=(cell_far (p:=⟨gb210,0,none⟩) (by first | (rw [add_block];exact hn211_0) | (show (Addr.add _ _).block≠_;rw [add_block];exact hn211_0) | exact hn211_0) (.slice (some ad211) t205.length co13)).trans hx211_1;replace hx211_2:=(cell_far (p:=⟨gb210,0,none⟩) (by first | (rw [add_block];exact hn211_0) | (show (Addr.add _ _).block≠_;rw [add_block];exact hn211_0) | exact hn211_0) (.slice (some ad211) t205.length co13)).trans hx211_2;replace hx211_0:=(cell_far (p:=⟨gb210,1,none⟩) (by first | (rw [add_block];exact hn211_1) | (show (Addr.add _ _).block≠_;rw [add_block];exact hn211_1) | exact hn211_1) (.int .i64 t208)).trans hx211_0;replace hx211_1:=(cell_far (p:=⟨gb210,1,none⟩) (by first | (rw [add_block];exact hn211_1) | (show (Addr.add _ _).block≠_;rw [add_block];exact hn211_1) | exact hn211_1) (.int .i64 t208)).trans hx211_1;replace hx211_2:=(cell_far (p:=⟨gb210,1,none⟩) (by first | (rw [add_block];exact hn211_1) | (show (Addr.add _ _).block≠_;rw [add_block];exact hn211_1) | exact hn211_1) (.int .i64 t208)).trans hx211_2;replace hx211_0:=(cell_far (p:=⟨gb210,2,none⟩) (by first | (rw [add_block];exact hn211_2) | (show (Addr.add _ _).block≠_;rw [add_block];exact hn211_2) | exact hn211_2) (.int .i64 t209)).trans hx211_0;replace hx211_1:=(cell_far (p:=⟨gb210,2,none⟩) (by first | (rw [add_block];exact hn211_2) | (show (Addr.add _ _).block≠_;rw [add_block];exact hn211_2) | exact hn211_2) (.int .i64 t209)).trans hx211_1;replace hx211_2:=(cell_far (p:=⟨gb210,2,none⟩) (by first | (rw [add_block];exact hn211_2) | (show (Addr.add _ _).block≠_;rw [add_block];exact hn211_2) | exact hn211_2) (.int .i64 t209)).trans hx211_2;clear hn211_0;clear hn211_1;clear hn211_2;replace p211:=eq_true p211;replace q211:=eq_true q211))
     go_ret;exact ⟨rew,blw⟩
   ·rw [if_neg c5] at H;exact absurd H (by simp)
  ·rw [if_neg c4] at H;have c4b0:((t205.length:Int) == 1)=false:=beq_eq_false_iff_ne.mpr c4;have c4b1:((t205.length:Int) != 1)=true:=bne_iff_ne.mpr c4;obtain rfl:=Option.some.inj H;go_enter Tryz.func38,Tryz.ntmps38
   go_wp2_with (first | ((with_reducible refine gate_callee (f:=18) rfl ?_);refine goesL_ (some 5) rfl rfl Tryz.func18 (by kernel_rfl) rfl #[.string a0] rfl fq ?_;(with_reducible refine (rzScan.calls k a0 t205 t208 t209 _ A2.out).mono ?_);rintro e w15 ⟨v206,rfl,ho0,hb⟩;refine ⟨_,rfl,?_⟩;have n0_:=Aside0.mk (Kd.R_lower ho0 (below_size blw));have n1_:=Aside0.mk (below_step blw hb);clear HB;have HO207:=n0_;have HB:=n1_;clear n0_ n1_;(try clear hb);(try clear hb2);(try clear hk);(try clear hi);(try clear ho0)) | ((with_reducible refine gate_dst (N:=3) rfl ?_);(try (refine gate_guard (by rfl) ?_;dsimp only));refine box_event ?hg (N:=3) ?hd (cs:=#[.slice none 0 0,.int .i64 0,.int .i64 0]) (t:=28) ?hr ?_;(case hd=>rfl);(case hg=>rfl);(case hr=>first | (go_simp;done) | (go_simp;rfl));intro gb210 hg w16 hbox hb;have n0_:=Aside0.mk (Kd.R_below (by (with_reducible repeat (first | apply Kd.R_alloc | apply Kd.R_drewN | apply Kd.R_drew));exact HO207.out) hb);have n1_:=Aside0.mk (below_step blw hb);have n2_:=Aside0.mk (hbox);have n3_:=Aside0.mk ((by rw [hg];exact (below_size blw):w.heap.size≤gb210));have n4_:=Aside0.mk ((by rw [hg];exact (below_size blw):w.heap.size≤gb210));clear HO207;clear HB;have HO207:=n0_;have HB:=n1_;have BK210:=n2_;have GW210:=n3_;have GE210:=n4_;clear n0_ n1_ n2_ n3_ n4_;clear hb hbox hg;obtain ⟨Ao17,co17,eo17⟩:=Kd.R_slice HO207.out;subst eo17;have hcz18_0:w16.cell? ⟨gb210,0,none⟩=some (.slice none 0 0):=(blk_cell BK210.out 0).trans rfl;have hcz18_1:w16.cell? ⟨gb210,1,none⟩=some (.int .i64 0):=(blk_cell BK210.out 1).trans rfl;have hcz18_2:w16.cell? ⟨gb210,2,none⟩=some (.int .i64 0):=(blk_cell BK210.out 2).trans rfl;have hfz18_0:=blk_frozen BK210.out 0;have hfz18_1:=blk_frozen BK210.out 1;have hfz18_2:=blk_frozen BK210.out 2))
   go_ret;exact ⟨rew,blw⟩
 ·rw [if_neg c3] at H;have c3b0:(t209 == 0)=false:=beq_eq_false_iff_ne.mpr c3;have c3b1:(t209 != 0)=true:=bne_iff_ne.mpr c3;obtain rfl:=Option.some.inj H;go_enter Tryz.func38,Tryz.ntmps38
  go_wp2_with (first | ((with_reducible refine gate_callee (f:=18) rfl ?_);refine goesL_ (some 5) rfl rfl Tryz.func18 (by kernel_rfl) rfl #[.string a0] rfl fq ?_;(with_reducible refine (rzScan.calls k a0 t205 t208 t209 _ A2.out).mono ?_);rintro e w19 ⟨v206,rfl,ho0,hb⟩;refine ⟨_,rfl,?_⟩;have n0_:=Aside0.mk (Kd.R_lower ho0 (below_size blw));have n1_:=Aside0.mk (below_step blw hb);clear HB;have HO207:=n0_;have HB:=n1_;clear n0_ n1_;(try clear hb);(try clear hb2);(try clear hk);(try clear hi);(try clear ho0)) | ((with_reducible refine gate_dst (N:=3) rfl ?_);(try (refine gate_guard (by rfl) ?_;dsimp only));refine box_event ?hg (N:=3) ?hd (cs:=#[.slice none 0 0,.int .i64 0,.int .i64 0]) (t:=28) ?hr ?_;(case hd=>rfl);(case hg=>rfl);(case hr=>first | (go_simp;done) | (go_simp;rfl));intro gb210 hg w20 hbox hb;have n0_:=Aside0.mk (Kd.R_below (by (with_reducible repeat (first | apply Kd.R_alloc | apply Kd.R_drewN | apply Kd.R_drew));exact HO207.out) hb);have n1_:=Aside0.mk (below_step blw hb);have n2_:=Aside0.mk (hbox);have n3_:=Aside0.mk ((by rw [hg];exact (below_size blw):w.heap.size≤gb210));have n4_:=Aside0.mk ((by rw [hg];exact (below_size blw):w.heap.size≤gb210));clear HO207;clear HB;have HO207:=n0_;have HB:=n1_;have BK210:=n2_;have GW210:=n3_;have GE210:=n4_;clear n0_ n1_ n2_ n3_ n4_;clear hb hbox hg;obtain ⟨Ao21,co21,eo21⟩:=Kd.R_slice HO207.out;subst eo21;have hcz22_0:w20.cell? ⟨gb210,0,none⟩=some (.slice none 0 0):=(blk_cell BK210.out 0).trans rfl;have hcz22_1:w20.cell? ⟨gb210,1,none⟩=some (.int .i64 0):=(blk_cell BK210.out 1).trans rfl;have hcz22_2:w20.cell? ⟨gb210,2,none⟩=some (.int .i64 0):=(blk_cell BK210.out 2).trans rfl;have hfz22_0:=blk_frozen BK210.out 0;have hfz22_1:=blk_frozen BK210.out 1;have hfz22_2:=blk_frozen BK210.out 2))
  go_ret;exact ⟨rew,blw⟩
end Go.Proofs.YtadgddipkbdnbaaGreatDoor.Q
namespace Go.Proofs.YtadgddipkbdnbaaGreatDoor.Q
open Go.RowKit Go.Proofs.YtadgddipkbdnbaaGreatDoor YtadgddipkbdnbaaGreatDoorW.PrintWords YtadgddipkbdnbaaGreatDoorW.PrintLast
theorem refKind_e (t:ByteArray):Ev (fun k=>rzKind.f k t) (Lx.kindM t.data.toList):=by
 unfold rzKind.f
 refine ev_bind (refScan_ev t) ⟨0,fun k _=>?_⟩
 exact kind_tail t
theorem kt_rd (l:List S38) (i:Nat) (h:i < l.length):kt (rd_T38 l (i:Int))=(l.map kt)[i]'(by simpa using h):=by
 unfold rd_T38
 rw [Int.toNat_natCast,List.getD_eq_getElem?_getD,List.getElem?_eq_getElem h,List.getElem_map]
 rfl
end Go.Proofs.YtadgddipkbdnbaaGreatDoor.Q
namespace Go.Proofs.Lx
open Go.Proofs.YtadgddipkbdnbaaGreatDoor
def Tokk (d:Bool) (x:K):Prop:=one d x.2=.ok (x.1,x.2.length)∧x.2≠[]∧Skips x.2 x.2
theorem skips_stop {r x:List UInt8} (h:Skips r x):x=[]∨∃ c t,x=c :: t∧isBlank c=false∧(c :: t).take 2≠[47,47]∧(c :: t).take 2≠[47,42]:=by
 induction h with
 | nil=>exact .inl rfl
 | stop c t h h1 h2=>exact .inr ⟨c,t,rfl,h,h1,h2⟩
 | blank c t x h hs ih=>exact ih
 | line t x hs ih=>exact ih
 | block t u x hc hs ih=>exact ih
theorem tokk_of {p:List K} {r:List UInt8} {c:UInt8} {t:List UInt8} {kind:Int} {k:Nat} (hs:Skips r (c :: t)) (ho:one (opK p) (c :: t)=.ok (kind,k)):Tokk (opK p) (kind,(c :: t).take k):=by
 have hk:=one_len _ _ _ _ ho
 have h1:=one_agree (m:=k) (v:=[]) ho (Nat.le_refl _) (.inl rfl)
 rw [List.append_nil] at h1
 have hl:((c :: t).take k).length=k:=by rw [List.length_take];omega
 obtain ⟨k',rfl⟩:∃ x,k=x+1:=⟨k - 1,by omega⟩
 refine ⟨by rw [hl];exact h1,by rw [List.take_succ_cons];simp,?_⟩
 rcases skips_stop hs with h | ⟨c',t',e,h2,h3,h4⟩
 ·cases h
 ·cases e
  have e2:∀ b:UInt8,(c :: t).take 2≠[47,b]→(c :: t.take k').take 2≠[47,b]:=by
   intro b hb e
   cases k' with
   | zero=>simp at e
   | succ k' =>
    apply hb
    rw [← e]
    cases t <;> simp
  rw [List.take_succ_cons]
  exact .stop c _ h2 (e2 47 h3) (e2 42 h4)
theorem tokk_desc {d:Bool} {x:K} (h:Tokk d x) (h6:x.1=6):d=true∧x.2.takeWhile isDescB=x.2∧x.2.length≤200:=by
 obtain ⟨h1,h2,h3⟩:=h
 rw [h6] at h1
 cases hx:x.2 with
 | nil=>exact absurd hx h2
 | cons c t =>
  rw [hx,one] at h1
  split at h1
  ·rename_i hd
   simp only at h1
   split at h1
   ·cases h1
   ·rename_i hn
    obtain ⟨e1,e2⟩:=Prod.mk.inj (Except.ok.inj h1)
    simp only [Bool.and_eq_true] at hd
    refine ⟨hd.1,?_,by omega⟩
    exact (List.takeWhile_prefix isDescB).eq_of_length e2
  ·exfalso
   repeat' (first | (split at h1) | (simp only at h1;split at h1))
   all_goals first | (cases h1;done) | (obtain ⟨e1,e2⟩:=Prod.mk.inj (Except.ok.inj h1);revert e1;first | decide | (split <;> decide))
theorem LexTo.one {p:List K} {x:K} (h:Tokk (opK p) x) {v:List UInt8} (hv:Bd v):LexTo p (x.2 ++ v) [x] v:=by
 obtain ⟨h1,h2,h3⟩:=h
 obtain ⟨kind,text⟩:=x
 simp only at h1 h2 h3
 cases text with
 | nil=>exact absurd rfl h2
 | cons c t =>
  have h4:=one_agree (m:=(c :: t).length) h1 (Nat.le_refl _) hv
  rw [List.take_length] at h4
  have e1:(c :: (t ++ v)).take (c :: t).length=c :: t:=by
   rw [← List.cons_append,List.take_append_of_le_length (Nat.le_refl _),List.take_length]
  have e2:(c :: (t ++ v)).drop (c :: t).length=v:=by
   rw [← List.cons_append,List.drop_append_of_le_length (Nat.le_refl _),List.drop_length,List.nil_append]
  have:=LexTo.cons p (c :: t ++ v) c (t ++ v) kind (c :: t).length [] v (skips_app h3 (by simp) hv) h4 (by rw [e2];exact .nil _ _)
  rw [e1] at this
  exact this
theorem probe_desc {x:K} (h:Tokk true x) (hl:x.2.length≤200):(scan ([112,114,111,98,101,32] ++ x.2)).2.2=0∧(scan ([112,114,111,98,101,32] ++ x.2)).1.map ktM=[(2,probeW),x]:=by
 have hp:Tokk (opK []) (2,probeW):=⟨by rfl,by decide,.stop _ _ (by decide) (by decide) (by decide)⟩
 have h1:=LexTo.one hp (v:=32 :: x.2) (.inr ⟨32,_,rfl,by decide⟩)
 have h2:=LexTo.one (p:=[(2,probeW)]) (x:=x) (show Tokk (opK [(2,probeW)]) x by rw [show opK [(2,probeW)]=true by rfl];exact h) (v:=[]) (.inl rfl)
 rw [List.append_nil] at h2
 obtain ⟨g,h3,h4,h5⟩:=LexTo.blank (c:=32) (by decide) h2
 have h6:=h1.trans (us:=[x]) (g:=g) h3
 refine to_scan (by simp only [List.length_append,List.length_cons,List.length_nil];omega) (by simp) h6 (h4 .nil)
def Toks:List K→List K→Prop
 | _,[]=>True
 | p,x :: ts=>Tokk (opK p) x∧Toks (x :: p) ts
theorem LexTo.chain {p:List K} {r:List UInt8} {ts:List K} {f:List UInt8} (h:LexTo p r ts f):Toks p ts:=by
 induction h with
 | nil=>trivial
 | cons p r c t kind k ts f hs ho hr ih=>exact ⟨tokk_of hs ho,ih⟩
theorem Toks.append:∀ {ts us:List K} {p:List K},Toks p (ts ++ us)↔Toks p ts∧Toks (ts.reverse ++ p) us
 | [],us,p=>by simp [Toks]
 | x :: ts,us,p=>by
  simp only [List.cons_append,Toks,Toks.append (ts:=ts),List.reverse_cons,List.append_assoc,List.singleton_append,and_assoc,List.nil_append]
def ns (l:List UInt8):Nat:=l.countP (· != 32)
def nsK (ts:List K):Nat:=(ts.map fun x=>ns x.2).sum
theorem ns_append (a b:List UInt8):ns (a ++ b)=ns a+ns b:=List.countP_append
theorem ns_suffix {r x:List UInt8} {i:Nat} (h:x=r.drop i):ns x≤ns r:=by
 have:=ns_append (r.take i) (r.drop i)
 rw [List.take_append_drop,← h] at this
 omega
theorem LexTo.ns {p:List K} {r:List UInt8} {ts:List K} {f:List UInt8} (h:LexTo p r ts f):ns f+nsK ts≤Lx.ns r:=by
 induction h with
 | nil=>simp [nsK]
 | cons p r c t kind k ts f hs ho hr ih =>
  obtain ⟨i,hi,-⟩:=skip_ok_suffix (skip_of hs)
  have h1:=ns_suffix hi
  have h2:=ns_append ((c :: t).take k) ((c :: t).drop k)
  rw [List.take_append_drop] at h2
  have h3:nsK ((kind,(c :: t).take k) :: ts)=Lx.ns ((c :: t).take k)+nsK ts:=by simp [nsK]
  omega
end Go.Proofs.Lx
namespace Go.Proofs.YtadgddipkbdnbaaGreatDoor.Q
open Go.Proofs.YtadgddipkbdnbaaGreatDoor Go.RowKit Go.Proofs.YtadgddipkbdnbaaGreatDoorW.PrintWords Go.Proofs.YtadgddipkbdnbaaGreatDoorW.PrintLast Go.Proofs.YtadgddipkbdnbaaGreatDoorW.PrintMore
attribute [local go_sem] max2_int min2_int max_two min_two max_three min_three max_four min_four
def rzSame.l0:Nat→List (S38)→List (S38)→Int→Option (Bool)
 | 0,_,_,_=>none
 | k+1,x0,x1,x5=>if x5 < (x0.length:Int) then (if 0≤x5 then (if x5 < (x1.length:Int) then (if ((rd_T38 x0 x5).f0)=((rd_T38 x1 x5).f0) then (if ((rd_T38 x0 x5).f1).toList=((rd_T38 x1 x5).f1).toList then (rzSame.l0 k x0 x1 (wrap64 (x5+1))) else (some false)) else (some false)) else (none)) else (none)) else (some true)
def rzSame.f (k:Nat) (l0:List (S38)) (l1:List (S38)):Option (Bool):=if (l0.length:Int)=(l1.length:Int) then (rzSame.l0 k l0 l1 0) else (some false)
theorem rzSame.mono_l:∀ k,(∀ y0 y1 y2,LeO (rzSame.l0 k y0 y1 y2) (rzSame.l0 (k+1) y0 y1 y2))
 | 0=>fun _ _ _ r h=>by simp [rzSame.l0] at h
 | k+1=>by
  have ih0:=rzSame.mono_l k
  ·intro y0 y1 y2;unfold rzSame.l0;repeat' first
   | (with_reducible exact ih0 _ _ _)
   | (with_reducible exact LeO.refl _)
   | (with_reducible exact LeO.none _)
   | (with_reducible refine LeO.ite ?_ ?_)
   | (with_reducible refine LeO.bind ?_ (fun _=>?_))
   | exact LeO.none _
   | refine LeO.ite ?_ ?_
   | refine LeO.bind ?_ (fun _=>?_)
theorem rzSame.mono:∀ a0 a1 k,LeO (rzSame.f k a0 a1) (rzSame.f (k+1) a0 a1):=by
 intro a0 a1 k;have ih0:=rzSame.mono_l k;unfold rzSame.f;repeat' first
   | (with_reducible exact ih0 _ _ _)
   | (with_reducible exact LeO.refl _)
   | (with_reducible exact LeO.none _)
   | (with_reducible refine LeO.ite ?_ ?_)
   | (with_reducible refine LeO.bind ?_ (fun _=>?_))
   | exact LeO.none _
   | refine LeO.ite ?_ ?_
   | refine LeO.bind ?_ (fun _=>?_)
set_option maxHeartbeats 8000000 in
set_option maxRecDepth 100000 in
theorem rzSame.calls (k:Nat) (A0:Option Addr) (c0:Nat) (l0:List (S38)) (A1:Option Addr) (c1:Nat) (l1:List (S38)) (r:Bool) (w:World) (hr0:Kd.C k38 w A0 l0.length l0) (hc0:l0.length≤c0) (hr1:Kd.C k38 w A1 l1.length l1) (hc1:l1.length≤c1) (h:rzSame.f k l0 l1=some r) :
  Calls Tryz.prog 41 #[.slice A0 l0.length c0,.slice A1 l1.length c1] w fun e w'=>e=.returned (.bool r)∧Drawn0 w w':=by
 have HR0:=Aside0.mk hr0;have HC0:=Aside0.mk hc0;clear hr0 hc0;have HR1:=Aside0.mk hr1;have HC1:=Aside0.mk hc1;clear hr1 hc1;have H:(if (l0.length:Int)=(l1.length:Int) then (rzSame.l0 k l0 l1 0) else (some false))=some r:=h;clear h;by_cases c3:(l0.length:Int)=(l1.length:Int)
 ·rw [if_pos c3] at H;have c3b0:((l0.length:Int) == (l1.length:Int))=true:=beq_iff_eq.mpr c3;have c3b1:((l0.length:Int) != (l1.length:Int))=false:=bne_eq_false_iff_eq.mpr c3;have c3b2:(l0.length == l1.length)=true:=by first | simpa using c3 | (simp at c3 ⊢;omega)
  clear c3;have H':=Aside0.mk H;clear H;go_enter Tryz.func41,Tryz.ntmps41
  go_wp2;repeat (go_quiet (fail);try go_wp2)
  try simp only [Act.put,List.setIfInBounds_toArray,List.set_cons_zero,List.set_cons_succ]
  go_loopg [5] k (fun kq v5 w'=>∃ (x5_1:Int),v5=.int .i64 x5_1∧Aside0 (rzSame.l0 kq l0 l1 x5_1=some r)∧Aside0 (kq≤k)∧Drawn0 w w')
  case atStart=>exact ⟨(0),rsd,H',⟨Nat.le_refl _⟩,by repeat (first | exact Drawn0.refl _ | apply Drawn0.step)⟩
  case round =>
   clear H';try clear c1
   try clear p2
   try clear c3
   try clear c3b0
   try clear c3b1
   try clear c3b2
   obtain ⟨x5_1,rfl,HA,HK1,⟨m1,rfl⟩⟩:=hrel;cases gk with
   | zero=>exact absurd HA.out (by simp [rzSame.l0])
   | succ k1 =>
    have H:=HA.out;clear HA;simp only [rzSame.l0] at H;by_cases c4:x5_1 < (l0.length:Int)
    ·rw [if_pos c4] at H;have c4b0:decide (x5_1 < (l0.length:Int))=true:=decide_eq_true c4;clear c4;by_cases c5:0≤x5_1
     ·rw [if_pos c5] at H;have c5b0:decide (0≤x5_1)=true:=decide_eq_true c5;clear c5;by_cases c6:x5_1 < (l1.length:Int)
      ·rw [if_pos c6] at H;have c6b0:decide (x5_1 < (l1.length:Int))=true:=decide_eq_true c6;clear c6;by_cases c7:((rd_T38 l0 x5_1).f0)=((rd_T38 l1 x5_1).f0)
       ·rw [if_pos c7] at H;have c7b0:(((rd_T38 l0 x5_1).f0) == ((rd_T38 l1 x5_1).f0))=true:=beq_iff_eq.mpr c7;have c7b1:(((rd_T38 l0 x5_1).f0) != ((rd_T38 l1 x5_1).f0))=false:=bne_eq_false_iff_eq.mpr c7;clear c7;by_cases c8:((rd_T38 l0 x5_1).f1).toList=((rd_T38 l1 x5_1).f1).toList
        ·rw [if_pos c8] at H;have c8b0:(((rd_T38 l0 x5_1).f1).toList == ((rd_T38 l1 x5_1).f1).toList)=true:=beq_iff_eq.mpr c8;have c8b1:(((rd_T38 l0 x5_1).f1).toList != ((rd_T38 l1 x5_1).f1).toList)=false:=bne_eq_false_iff_eq.mpr c8;clear c8;have H':=Aside0.mk H;clear H;have p243:0≤(x5_1:Int):=of_decide_eq_true asm;have q243:x5_1 < (l0.length:Int):=of_decide_eq_true asm;obtain ⟨ad243,e243,hx243_0,hx243_1,hx243_2⟩:=at_T38 HR0.out x5_1 p243 q243;cases e243;replace p243:=eq_true p243;replace q243:=eq_true q243;have p244:0≤(x5_1:Int):=of_decide_eq_true asm;have q244:x5_1 < (l1.length:Int):=of_decide_eq_true asm;obtain ⟨ad244,e244,hx244_0,hx244_1,hx244_2⟩:=at_T38 HR1.out x5_1 p244 q244;cases e244;replace p244:=eq_true p244;replace q244:=eq_true q244;have p245:0≤(x5_1:Int):=of_decide_eq_true asm;have q245:x5_1 < (l0.length:Int):=of_decide_eq_true asm;obtain ⟨ad245,e245,hx245_0,hx245_1,hx245_2⟩:=at_T38 HR0.out x5_1 p245 q245;obtain rfl:ad243=ad245:=(by injection e245);replace p245:=eq_true p245;replace q245:=eq_true q245;have p246:0≤(x5_1:Int):=of_decide_eq_true asm;have q246:x5_1 < (l1.length:Int):=of_decide_eq_true asm;obtain ⟨ad246,e246,hx246_0,hx246_1,hx246_2⟩:=at_T38 HR1.out x5_1 p246 q246;obtain rfl:ad244=ad246:=(by injection e246);replace p246:=eq_true p246;replace q246:=eq_true q246;go_wp2;repeat (go_quiet (fail);try go_wp2)
         go_roundg k1
         case measure=>have:=HK1.out;omega
         case rel=>exact ⟨(wrap64 (x5_1+1)),rsd,H',⟨by have:=HK1.out;omega⟩,by repeat (first | exact Drawn0.refl _ | apply Drawn0.step)⟩
        ·rw [if_neg c8] at H;have c8b0:(((rd_T38 l0 x5_1).f1).toList == ((rd_T38 l1 x5_1).f1).toList)=false:=beq_eq_false_iff_ne.mpr c8;have c8b1:(((rd_T38 l0 x5_1).f1).toList != ((rd_T38 l1 x5_1).f1).toList)=true:=bne_iff_ne.mpr c8;obtain rfl:=Option.some.inj H;have p243:0≤(x5_1:Int):=of_decide_eq_true asm;have q243:x5_1 < (l0.length:Int):=of_decide_eq_true asm;obtain ⟨ad243,e243,hx243_0,hx243_1,hx243_2⟩:=at_T38 HR0.out x5_1 p243 q243;cases e243;replace p243:=eq_true p243;replace q243:=eq_true q243;have p244:0≤(x5_1:Int):=of_decide_eq_true asm;have q244:x5_1 < (l1.length:Int):=of_decide_eq_true asm;obtain ⟨ad244,e244,hx244_0,hx244_1,hx244_2⟩:=at_T38 HR1.out x5_1 p244 q244;cases e244;replace p244:=eq_true p244;replace q244:=eq_true q244;have p245:0≤(x5_1:Int):=of_decide_eq_true asm;have q245:x5_1 < (l0.length:Int):=of_decide_eq_true asm;obtain ⟨ad245,e245,hx245_0,hx245_1,hx245_2⟩:=at_T38 HR0.out x5_1 p245 q245;obtain rfl:ad243=ad245:=(by injection e245);replace p245:=eq_true p245;replace q245:=eq_true q245;have p246:0≤(x5_1:Int):=of_decide_eq_true asm;have q246:x5_1 < (l1.length:Int):=of_decide_eq_true asm;obtain ⟨ad246,e246,hx246_0,hx246_1,hx246_2⟩:=at_T38 HR1.out x5_1 p246 q246;obtain rfl:ad244=ad246:=(by injection e246);replace p246:=eq_true p246;replace q246:=eq_true q246;go_wp2;repeat (go_quiet (fail);try go_wp2)
         go_ret;exact ⟨by first | rfl | (simp;done) | (simp [*];done),by repeat (first | exact Drawn0.refl _ | apply Drawn0.step)⟩
       ·rw [if_neg c7] at H;have c7b0:(((rd_T38 l0 x5_1).f0) == ((rd_T38 l1 x5_1).f0))=false:=beq_eq_false_iff_ne.mpr c7;have c7b1:(((rd_T38 l0 x5_1).f0) != ((rd_T38 l1 x5_1).f0))=true:=bne_iff_ne.mpr c7;obtain rfl:=Option.some.inj H;have p243:0≤(x5_1:Int):=of_decide_eq_true asm;have q243:x5_1 < (l0.length:Int):=of_decide_eq_true asm;obtain ⟨ad243,e243,hx243_0,hx243_1,hx243_2⟩:=at_T38 HR0.out x5_1 p243 q243;cases e243;replace p243:=eq_true p243;replace q243:=eq_true q243;have p244:0≤(x5_1:Int):=of_decide_eq_true asm;have q244:x5_1 < (l1.length:Int):=of_decide_eq_true asm;obtain ⟨ad244,e244,hx244_0,hx244_1,hx244_2⟩:=at_T38 HR1.out x5_1 p244 q244;cases e244;replace p244:=eq_true p244;replace q244:=eq_true q244;go_wp2;repeat (go_quiet (fail);try go_wp2)
        go_ret;exact ⟨by first | rfl | (simp;done) | (simp [*];done),by repeat (first | exact Drawn0.refl _ | apply Drawn0.step)⟩
      ·rw [if_neg c6] at H;exact absurd H (by simp)
     ·rw [if_neg c5] at H;exact absurd H (by simp)
    ·rw [if_neg c4] at H;have c4b0:decide (x5_1 < (l0.length:Int))=false:=decide_eq_false c4;clear c4;obtain rfl:=Option.some.inj H;go_wp2;repeat (go_quiet (fail);try go_wp2)
     go_ret;exact ⟨by first | rfl | (simp;done) | (simp [*];done),by repeat (first | exact Drawn0.refl _ | apply Drawn0.step)⟩
 ·rw [if_neg c3] at H;have c3b0:((l0.length:Int) == (l1.length:Int))=false:=beq_eq_false_iff_ne.mpr c3;have c3b1:((l0.length:Int) != (l1.length:Int))=true:=bne_iff_ne.mpr c3;have c3b2:(l0.length == l1.length)=false:=by first | simpa using c3 | (simp at c3 ⊢;omega)
  obtain rfl:=Option.some.inj H;go_enter Tryz.func41,Tryz.ntmps41
  go_wp2;repeat (go_quiet (fail);try go_wp2)
  go_ret;exact ⟨by first | rfl | (simp;done) | (simp [*];done),by repeat (first | exact Drawn0.refl _ | apply Drawn0.step)⟩
end Go.Proofs.YtadgddipkbdnbaaGreatDoor.Q
