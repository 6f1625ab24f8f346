/- Parts of the proof of InsnLists. -/
import Derived.Test.YtffojmgmpfjlhaaGreatDoorInsnListsY10
import Derived.Test.YtffojmgmpfjlhaaGreatDoorInsnListsY11
set_option maxHeartbeats 8000000
set_option maxRecDepth 100000
set_option linter.unusedVariables false
set_option linter.unusedSimpArgs false
namespace Go.Proofs.YtffojmgmpfjlhaaGreatDoor.Q
open Go.Proofs.YtffojmgmpfjlhaaGreatDoor Go.RowKit Go.Proofs.YtffojmgmpfjlhaaGreatDoorW.PrintWords Go.Proofs.YtffojmgmpfjlhaaGreatDoorW.PrintLast Go.Proofs.YtffojmgmpfjlhaaGreatDoorW.PrintMore
attribute [local go_sem] max2_int min2_int max_two min_two max_three min_three max_four min_four
mutual
def rzPrint.j0:Nat→ByteArray→ByteArray→ByteArray→Int→Bool→Int→Int→Int→Int→Option (ByteArray)
 | 0,_,_,_,_,_,_,_,_,_=>none
 | k+1,x3,x4,x5,x17,x27,x426000,x426001,x426002,x426003=>if x27=true then (if x3.size+1≤9223372036854775807 then (if (x3 ++ (⟨#[32]⟩:zB)).size+x4.size≤9223372036854775807 then (if ((x3 ++ (⟨#[32]⟩:zB)) ++ x4).size+2≤9223372036854775807 then ((rzNumber.f k x426003).bind fun t430=>(if (((x3 ++ (⟨#[32]⟩:zB)) ++ x4) ++ (⟨#[44,32]⟩:zB)).size+t430.size≤9223372036854775807 then (some ((((x3 ++ (⟨#[32]⟩:zB)) ++ x4) ++ (⟨#[44,32]⟩:zB)) ++ t430)) else (none))) else (none)) else (none)) else (none)) else (if x17=5 then (if x426000=19 then (rzPrint.j1 k x3 x4 true x426000 x426001 x426002 x426003) else (rzPrint.j1 k x3 x4 (x426000 == 20) x426000 x426001 x426002 x426003)) else (if x17=6 then (if x3.size+1≤9223372036854775807 then (if (x3 ++ (⟨#[32]⟩:zB)).size+x4.size≤9223372036854775807 then (if ((x3 ++ (⟨#[32]⟩:zB)) ++ x4).size+2≤9223372036854775807 then (if (((x3 ++ (⟨#[32]⟩:zB)) ++ x4) ++ (⟨#[44,32]⟩:zB)).size+x5.size≤9223372036854775807 then (if ((((x3 ++ (⟨#[32]⟩:zB)) ++ x4) ++ (⟨#[44,32]⟩:zB)) ++ x5).size+2≤9223372036854775807 then ((rztarget.f k x426003).bind fun t433=>(if (((((x3 ++ (⟨#[32]⟩:zB)) ++ x4) ++ (⟨#[44,32]⟩:zB)) ++ x5) ++ (⟨#[44,32]⟩:zB)).size+t433.size≤9223372036854775807 then (some ((((((x3 ++ (⟨#[32]⟩:zB)) ++ x4) ++ (⟨#[44,32]⟩:zB)) ++ x5) ++ (⟨#[44,32]⟩:zB)) ++ t433)) else (none))) else (none)) else (none)) else (none)) else (none)) else (none)) else (if x17=7 then (if x3.size+1≤9223372036854775807 then ((rztarget.f k x426003).bind fun t434=>(if (x3 ++ (⟨#[32]⟩:zB)).size+t434.size≤9223372036854775807 then (some ((x3 ++ (⟨#[32]⟩:zB)) ++ t434)) else (none))) else (none)) else (if x17=8 then (if x3.size+1≤9223372036854775807 then (if (x3 ++ (⟨#[32]⟩:zB)).size+x4.size≤9223372036854775807 then (some ((x3 ++ (⟨#[32]⟩:zB)) ++ x4)) else (none)) else (none)) else (if x17=9 then (if x3.size+1≤9223372036854775807 then (if (x3 ++ (⟨#[32]⟩:zB)).size+x4.size≤9223372036854775807 then (if ((x3 ++ (⟨#[32]⟩:zB)) ++ x4).size+2≤9223372036854775807 then ((rztarget.f k x426003).bind fun t435=>(if (((x3 ++ (⟨#[32]⟩:zB)) ++ x4) ++ (⟨#[44,32]⟩:zB)).size+t435.size≤9223372036854775807 then (some ((((x3 ++ (⟨#[32]⟩:zB)) ++ x4) ++ (⟨#[44,32]⟩:zB)) ++ t435)) else (none))) else (none)) else (none)) else (none)) else (if x17=10 then (if x3.size+1≤9223372036854775807 then ((rzNumber.f k x426003).bind fun t436=>(if (x3 ++ (⟨#[32]⟩:zB)).size+t436.size≤9223372036854775807 then (some ((x3 ++ (⟨#[32]⟩:zB)) ++ t436)) else (none))) else (none)) else (if x17=11 then (if x3.size+1≤9223372036854775807 then (if (x3 ++ (⟨#[32]⟩:zB)).size+x4.size≤9223372036854775807 then (if ((x3 ++ (⟨#[32]⟩:zB)) ++ x4).size+3≤9223372036854775807 then (if (((x3 ++ (⟨#[32]⟩:zB)) ++ x4) ++ (⟨#[44,32,91]⟩:zB)).size+x5.size≤9223372036854775807 then (if ((((x3 ++ (⟨#[32]⟩:zB)) ++ x4) ++ (⟨#[44,32,91]⟩:zB)) ++ x5).size+1≤9223372036854775807 then (some (((((x3 ++ (⟨#[32]⟩:zB)) ++ x4) ++ (⟨#[44,32,91]⟩:zB)) ++ x5) ++ (⟨#[93]⟩:zB))) else (none)) else (none)) else (none)) else (none)) else (none)) else (some x3))))))))
def rzPrint.j1:Nat→ByteArray→ByteArray→Bool→Int→Int→Int→Int→Option (ByteArray)
 | 0,_,_,_,_,_,_,_=>none
 | k+1,x3,x4,x48,x426000,x426001,x426002,x426003=>if x48=true then (if x3.size+1≤9223372036854775807 then ((rzaddress.f k x426000 x426001 x426002 x426003).bind fun t431=>(if (x3 ++ (⟨#[32]⟩:zB)).size+t431.size≤9223372036854775807 then (if ((x3 ++ (⟨#[32]⟩:zB)) ++ t431).size+2≤9223372036854775807 then (if (((x3 ++ (⟨#[32]⟩:zB)) ++ t431) ++ (⟨#[44,32]⟩:zB)).size+x4.size≤9223372036854775807 then (some ((((x3 ++ (⟨#[32]⟩:zB)) ++ t431) ++ (⟨#[44,32]⟩:zB)) ++ x4)) else (none)) else (none)) else (none))) else (none)) else (if x3.size+1≤9223372036854775807 then (if (x3 ++ (⟨#[32]⟩:zB)).size+x4.size≤9223372036854775807 then (if ((x3 ++ (⟨#[32]⟩:zB)) ++ x4).size+2≤9223372036854775807 then ((rzaddress.f k x426000 x426001 x426002 x426003).bind fun t432=>(if (((x3 ++ (⟨#[32]⟩:zB)) ++ x4) ++ (⟨#[44,32]⟩:zB)).size+t432.size≤9223372036854775807 then (some ((((x3 ++ (⟨#[32]⟩:zB)) ++ x4) ++ (⟨#[44,32]⟩:zB)) ++ t432)) else (none))) else (none)) else (none)) else (none))
end
def rzPrint.f (k:Nat) (a0_0:Int) (a0_1:Int) (a0_2:Int) (a0_3:Int):Option (ByteArray):=(rzMnemonic.f a0_0).bind fun t426=>((rzregister.f k a0_1).bind fun t427=>((rzregister.f k a0_2).bind fun t428=>((rzForm.f k a0_0).bind fun t429=>(if t429=2 then (if t426.size+1≤9223372036854775807 then (if (t426 ++ (⟨#[32]⟩:zB)).size+t427.size≤9223372036854775807 then (if ((t426 ++ (⟨#[32]⟩:zB)) ++ t427).size+2≤9223372036854775807 then (if (((t426 ++ (⟨#[32]⟩:zB)) ++ t427) ++ (⟨#[44,32]⟩:zB)).size+t428.size≤9223372036854775807 then (some ((((t426 ++ (⟨#[32]⟩:zB)) ++ t427) ++ (⟨#[44,32]⟩:zB)) ++ t428)) else (none)) else (none)) else (none)) else (none)) else (if t429=3 then (rzPrint.j0 k t426 t427 t428 t429 (t429 == 3) a0_0 a0_1 a0_2 a0_3) else (rzPrint.j0 k t426 t427 t428 t429 (t429 == 4) a0_0 a0_1 a0_2 a0_3))))))
theorem rzPrint.mono_l:∀ k,(∀ y0 y1 y2 y3 y4 y5 y6 y7 y8,LeO (rzPrint.j0 k y0 y1 y2 y3 y4 y5 y6 y7 y8) (rzPrint.j0 (k+1) y0 y1 y2 y3 y4 y5 y6 y7 y8))∧(∀ y0 y1 y2 y3 y4 y5 y6,LeO (rzPrint.j1 k y0 y1 y2 y3 y4 y5 y6) (rzPrint.j1 (k+1) y0 y1 y2 y3 y4 y5 y6))
 | 0=>⟨fun _ _ _ _ _ _ _ _ _ r h=>by simp [rzPrint.j0] at h,fun _ _ _ _ _ _ _ r h=>by simp [rzPrint.j1] at h⟩
 | k+1=>by
  obtain ⟨ih0,ih1⟩:=rzPrint.mono_l k;refine ⟨?_,?_⟩
  ·intro y0 y1 y2 y3 y4 y5 y6 y7 y8;unfold rzPrint.j0;repeat' first | (with_reducible first | exact ih0 _ _ _ _ _ _ _ _ _ | exact ih1 _ _ _ _ _ _ _ | exact rzForm.mono _ _ | exact rzNumber.mono _ _ | exact rzaddress.mono _ _ _ _ _ | exact rzregister.mono _ _ | exact rztarget.mono _ _ | exact LeO.refl _ | exact LeO.none _ | refine LeO.ite ?_ ?_ | refine LeO.bind ?_ (fun _=>?_)) | exact LeO.none _ | refine LeO.ite ?_ ?_ | refine LeO.bind ?_ (fun _=>?_)
  ·intro y0 y1 y2 y3 y4 y5 y6;unfold rzPrint.j1;repeat' first | (with_reducible first | exact ih0 _ _ _ _ _ _ _ _ _ | exact ih1 _ _ _ _ _ _ _ | exact rzForm.mono _ _ | exact rzNumber.mono _ _ | exact rzaddress.mono _ _ _ _ _ | exact rzregister.mono _ _ | exact rztarget.mono _ _ | exact LeO.refl _ | exact LeO.none _ | refine LeO.ite ?_ ?_ | refine LeO.bind ?_ (fun _=>?_)) | exact LeO.none _ | refine LeO.ite ?_ ?_ | refine LeO.bind ?_ (fun _=>?_)
theorem rzPrint.mono:∀ a0 a1 a2 a3 k,LeO (rzPrint.f k a0 a1 a2 a3) (rzPrint.f (k+1) a0 a1 a2 a3):=by
 intro a0 a1 a2 a3 k;obtain ⟨ih0,ih1⟩:=rzPrint.mono_l k;unfold rzPrint.f;repeat' first | (with_reducible first | exact ih0 _ _ _ _ _ _ _ _ _ | exact ih1 _ _ _ _ _ _ _ | exact rzForm.mono _ _ | exact rzNumber.mono _ _ | exact rzaddress.mono _ _ _ _ _ | exact rzregister.mono _ _ | exact rztarget.mono _ _ | exact LeO.refl _ | exact LeO.none _ | refine LeO.ite ?_ ?_ | refine LeO.bind ?_ (fun _=>?_)) | exact LeO.none _ | refine LeO.ite ?_ ?_ | refine LeO.bind ?_ (fun _=>?_)
theorem rzPrint.calls (k:Nat) (a0_0:Int) (a0_1:Int) (a0_2:Int) (a0_3:Int) (r:ByteArray) (w:World) (h:rzPrint.f k a0_0 a0_1 a0_2 a0_3=some r) :
  Calls Tryz.prog 25 #[.agg #[.int .i64 a0_0,.int .i64 a0_1,.int .i64 a0_2,.int .i64 a0_3]] w fun e w'=>e=.returned (.string r)∧Below w.heap.size w w':=by
 have hu23:=Tryz.underlying23;have HB:=Aside0.mk (Below.refl w.heap.size w);unfold rzPrint.f at h;have H:=h;clear h;obtain ⟨t426,A2,H⟩:=bas H;(try dsimp only at H);obtain ⟨t427,A3,H⟩:=bas H;(try dsimp only at H);obtain ⟨t428,A4,H⟩:=bas H;(try dsimp only at H);obtain ⟨t429,A5,H⟩:=bas H;(try dsimp only at H);by_cases c6:t429=2
 ·rw [if_pos c6] at H;obtain ⟨c6b0,c6b1⟩:=bqt c6;clear c6;by_cases c7:t426.size+1≤9223372036854775807
  ·rw [if_pos c7] at H;have c7b0:=eq_true c7;have c7b1:=decide_eq_true c7;try have c7b2:(9223372036854775807 < t426.size+1)=False:=eq_false (Nat.not_lt.2 c7)
   by_cases c8:(t426 ++ (⟨#[32]⟩:zB)).size+t427.size≤9223372036854775807
   ·rw [if_pos c8] at H;have c8b0:=eq_true c8;have c8b1:=decide_eq_true c8;try have c8b2:(9223372036854775807 < (t426 ++ (⟨#[32]⟩:zB)).size+t427.size)=False:=eq_false (Nat.not_lt.2 c8)
    try have c8x:(9223372036854775807 < t426.size+1+t427.size)=False:=eq_false (by have e1:=c8;simp only [ByteArray.size_append,zs1,zs2,zs3] at e1;omega)
    by_cases c9:((t426 ++ (⟨#[32]⟩:zB)) ++ t427).size+2≤9223372036854775807
    ·rw [if_pos c9] at H;have c9b0:=eq_true c9;have c9b1:=decide_eq_true c9;try have c9b2:(9223372036854775807 < ((t426 ++ (⟨#[32]⟩:zB)) ++ t427).size+2)=False:=eq_false (Nat.not_lt.2 c9)
     try have c9x:(9223372036854775807 < t426.size+1+t427.size+2)=False:=eq_false (by have e1:=c9;simp only [ByteArray.size_append,zs1,zs2,zs3] at e1;omega)
     by_cases c10:(((t426 ++ (⟨#[32]⟩:zB)) ++ t427) ++ (⟨#[44,32]⟩:zB)).size+t428.size≤9223372036854775807
     ·rw [if_pos c10] at H;have c10b0:=eq_true c10;have c10b1:=decide_eq_true c10;try have c10b2:(9223372036854775807 < (((t426 ++ (⟨#[32]⟩:zB)) ++ t427) ++ (⟨#[44,32]⟩:zB)).size+t428.size)=False:=eq_false (Nat.not_lt.2 c10)
      try have c10x:(9223372036854775807 < t426.size+1+t427.size+2+t428.size)=False:=eq_false (by have e1:=c10;simp only [ByteArray.size_append,zs1,zs2,zs3] at e1;omega)
      obtain rfl:=Option.some.inj H;go_enter Tryz.func25,Tryz.ntmps25
      go_wp2_with (first | ((with_reducible refine gate_dst (N:=1) rfl ?_);refine bxe (N:=1) (cs:=#[.int .i64 a0_0,.int .i64 a0_1,.int .i64 a0_2,.int .i64 a0_3]) (t:=23) ?_;intro gb425 hg w11 hbox hb;have BK425:=Aside0.mk hbox;have GW425:Aside0 (w.heap.size≤gb425):=⟨gwb⟩;have GE425:Aside0 (w.heap.size≤gb425):=⟨gwb⟩;replace HB:=Aside0.mk (below_step blw hb);clear hb hbox hg;obtain ⟨_,_,_,_,_,_,_,_⟩:=bz4 BK425.out) | ((with_reducible refine gate_callee (f:=63) rfl ?_);refine gl (some 8) Tryz.func63 #[.int .i64 a0_0] ?_;(with_reducible refine (rzMnemonic.calls a0_0 _ _ A2.out).mono ?_);rintro e w13 ⟨rfl,hb⟩;refine ⟨_,rfl,?_⟩;replace BK425:=Aside0.mk (blk_below (g:=gb425) bko hb);replace HB:=Aside0.mk (below_step blw hb);clear hb;obtain ⟨_,_,_,_,_,_,_,_⟩:=bz4 BK425.out) | ((with_reducible refine gate_callee (f:=64) rfl ?_);refine gl (some 11) Tryz.func64 #[.int .i64 a0_1] ?_;(with_reducible refine (rzregister.calls k a0_1 _ _ A3.out).mono ?_);rintro e w15 ⟨rfl,hb⟩;refine ⟨_,rfl,?_⟩;replace BK425:=Aside0.mk (blk_below (g:=gb425) bko hb);replace HB:=Aside0.mk (below_step blw hb);clear hb;obtain ⟨_,_,_,_,_,_,_,_⟩:=bz4 BK425.out) | ((with_reducible refine gate_callee (f:=64) rfl ?_);refine gl (some 14) Tryz.func64 #[.int .i64 a0_2] ?_;(with_reducible refine (rzregister.calls k a0_2 _ _ A4.out).mono ?_);rintro e w17 ⟨rfl,hb⟩;refine ⟨_,rfl,?_⟩;replace BK425:=Aside0.mk (blk_below (g:=gb425) bko hb);replace HB:=Aside0.mk (below_step blw hb);clear hb;obtain ⟨_,_,_,_,_,_,_,_⟩:=bz4 BK425.out) | ((with_reducible refine gate_callee (f:=51) rfl ?_);refine gl (some 17) Tryz.func51 #[.int .i64 a0_0] ?_;(with_reducible refine (rzForm.calls k a0_0 _ _ A5.out).mono ?_);rintro e w' ⟨rfl,⟨nd,rfl⟩⟩;refine ⟨_,rfl,?_⟩))
      go_ret;exact ⟨rew,blw⟩
     ·rw [if_neg c10] at H;exact absurd H (by simp)
    ·rw [if_neg c9] at H;exact absurd H (by simp)
   ·rw [if_neg c8] at H;exact absurd H (by simp)
  ·rw [if_neg c7] at H;exact absurd H (by simp)
 ·rw [if_neg c6] at H;obtain ⟨c6b0,c6b1⟩:=bqf c6;have HC19:=Aside0.mk H;clear H;go_enter Tryz.func25,Tryz.ntmps25
  go_upto_if 27 with (first | ((with_reducible refine gate_dst (N:=1) rfl ?_);refine bxe (N:=1) (cs:=#[.int .i64 a0_0,.int .i64 a0_1,.int .i64 a0_2,.int .i64 a0_3]) (t:=23) ?_;intro gb425 hg w20 hbox hb;have BK425:=Aside0.mk hbox;have GW425:Aside0 (w.heap.size≤gb425):=⟨gwb⟩;have GE425:Aside0 (w.heap.size≤gb425):=⟨gwb⟩;replace HB:=Aside0.mk (below_step blw hb);clear hb hbox hg;obtain ⟨hcz21_0,hcz21_1,hcz21_2,hcz21_3,hfz21_0,hfz21_1,hfz21_2,hfz21_3⟩:=bz4 BK425.out) | ((with_reducible refine gate_callee (f:=63) rfl ?_);refine gl (some 8) Tryz.func63 #[.int .i64 a0_0] ?_;(with_reducible refine (rzMnemonic.calls a0_0 _ _ A2.out).mono ?_);rintro e w22 ⟨rfl,hb⟩;refine ⟨_,rfl,?_⟩;replace BK425:=Aside0.mk (blk_below (g:=gb425) bko hb);replace HB:=Aside0.mk (below_step blw hb);clear hb;obtain ⟨hcz23_0,hcz23_1,hcz23_2,hcz23_3,hfz23_0,hfz23_1,hfz23_2,hfz23_3⟩:=bz4 BK425.out) | ((with_reducible refine gate_callee (f:=64) rfl ?_);refine gl (some 11) Tryz.func64 #[.int .i64 a0_1] ?_;(with_reducible refine (rzregister.calls k a0_1 _ _ A3.out).mono ?_);rintro e w24 ⟨rfl,hb⟩;refine ⟨_,rfl,?_⟩;replace BK425:=Aside0.mk (blk_below (g:=gb425) bko hb);replace HB:=Aside0.mk (below_step blw hb);clear hb;obtain ⟨hcz25_0,hcz25_1,hcz25_2,hcz25_3,hfz25_0,hfz25_1,hfz25_2,hfz25_3⟩:=bz4 BK425.out) | ((with_reducible refine gate_callee (f:=64) rfl ?_);refine gl (some 14) Tryz.func64 #[.int .i64 a0_2] ?_;(with_reducible refine (rzregister.calls k a0_2 _ _ A4.out).mono ?_);rintro e w26 ⟨rfl,hb⟩;refine ⟨_,rfl,?_⟩;replace BK425:=Aside0.mk (blk_below (g:=gb425) bko hb);replace HB:=Aside0.mk (below_step blw hb);clear hb;obtain ⟨hcz27_0,hcz27_1,hcz27_2,hcz27_3,hfz27_0,hfz27_1,hfz27_2,hfz27_3⟩:=bz4 BK425.out) | ((with_reducible refine gate_callee (f:=51) rfl ?_);refine gl (some 17) Tryz.func51 #[.int .i64 a0_0] ?_;(with_reducible refine (rzForm.calls k a0_0 _ _ A5.out).mono ?_);rintro e w' ⟨rfl,⟨nd,rfl⟩⟩;refine ⟨_,rfl,?_⟩))
  (try simp only [Act.put,List.setIfInBounds_toArray,List.set_cons_zero,List.set_cons_succ]);go_cut [27] (fun v27 wc=>∃ (kq:Nat) (x27_18:Bool),v27=.bool x27_18∧Aside0 (rzPrint.j0 kq t426 t427 t428 t429 x27_18 a0_0 a0_1 a0_2 a0_3=some r)∧Aside0 (kq≤k)∧Aside0 (wc.heap[gb425]?=some (.cells #[.int .i64 a0_0,.int .i64 a0_1,.int .i64 a0_2,.int .i64 a0_3] 23 (0,0)))∧Aside0 (Below w.heap.size w wc))
  case first =>
   have H:=HC19.out;clear HC19;by_cases c28:t429=3
   ·rw [if_pos c28] at H;obtain ⟨c28b0,c28b1⟩:=bqt c28;clear c28;(first | rw [c28b0] | (simp only [i64_w,i32_w];rw [c28b0]) | skip);have H':=Aside0.mk H;clear H;go_wp2;go_meet
    case rel=>exact ⟨_,((t429 == 3)),rsd,H',⟨by first | omega | exact Nat.le_refl _⟩,⟨bko⟩,⟨blw⟩⟩
   ·rw [if_neg c28] at H;obtain ⟨c28b0,c28b1⟩:=bqf c28;(first | rw [c28b0] | (simp only [i64_w,i32_w];rw [c28b0]) | skip);have H':=Aside0.mk H;clear H;go_wp2;go_meet
    case rel=>exact ⟨_,((t429 == 4)),rsd,H',⟨by first | omega | exact Nat.le_refl _⟩,⟨bko⟩,⟨blw⟩⟩
  case rest =>
   clear HC19;try clear c6
   try clear c6b0
   try clear c6b1
   try clear hcz21_0
   try clear hcz21_1
   try clear hcz21_2
   try clear hcz21_3
   try clear hcz23_0
   try clear hcz23_1
   try clear hcz23_2
   try clear hcz23_3
   try clear hcz25_0
   try clear hcz25_1
   try clear hcz25_2
   try clear hcz25_3
   try clear hcz27_0
   try clear hcz27_1
   try clear hcz27_2
   try clear hcz27_3
   try clear hfz21_0
   try clear hfz21_1
   try clear hfz21_2
   try clear hfz21_3
   try clear hfz23_0
   try clear hfz23_1
   try clear hfz23_2
   try clear hfz23_3
   try clear hfz25_0
   try clear hfz25_1
   try clear hfz25_2
   try clear hfz25_3
   try clear hfz27_0
   try clear hfz27_1
   try clear hfz27_2
   try clear hfz27_3
   obtain ⟨kq,x27_18,rfl,HA,HJ18,BK425,HB⟩:=hcut;cases kq with
   | zero=>exact absurd HA.out (by simp [rzPrint.j0])
   | succ kj18 =>
    have H:=HA.out;clear HA;simp only [rzPrint.j0] at H;by_cases c29:x27_18=true
    ·subst c29;rw [if_pos rfl] at H;by_cases c30:t426.size+1≤9223372036854775807
     ·rw [if_pos c30] at H;have c30b0:=eq_true c30;have c30b1:=decide_eq_true c30;try have c30b2:(9223372036854775807 < t426.size+1)=False:=eq_false (Nat.not_lt.2 c30)
      by_cases c31:(t426 ++ (⟨#[32]⟩:zB)).size+t427.size≤9223372036854775807
      ·rw [if_pos c31] at H;have c31b0:=eq_true c31;have c31b1:=decide_eq_true c31;try have c31b2:(9223372036854775807 < (t426 ++ (⟨#[32]⟩:zB)).size+t427.size)=False:=eq_false (Nat.not_lt.2 c31)
       try have c31x:(9223372036854775807 < t426.size+1+t427.size)=False:=eq_false (by have e1:=c31;simp only [ByteArray.size_append,zs1,zs2,zs3] at e1;omega)
       by_cases c32:((t426 ++ (⟨#[32]⟩:zB)) ++ t427).size+2≤9223372036854775807
       ·rw [if_pos c32] at H;have c32b0:=eq_true c32;have c32b1:=decide_eq_true c32;try have c32b2:(9223372036854775807 < ((t426 ++ (⟨#[32]⟩:zB)) ++ t427).size+2)=False:=eq_false (Nat.not_lt.2 c32)
        try have c32x:(9223372036854775807 < t426.size+1+t427.size+2)=False:=eq_false (by have e1:=c32;simp only [ByteArray.size_append,zs1,zs2,zs3] at e1;omega)
        obtain ⟨t430,A33,H⟩:=bas H;(try dsimp only at H);by_cases c34:(((t426 ++ (⟨#[32]⟩:zB)) ++ t427) ++ (⟨#[44,32]⟩:zB)).size+t430.size≤9223372036854775807
        ·rw [if_pos c34] at H;have c34b0:=eq_true c34;have c34b1:=decide_eq_true c34;try have c34b2:(9223372036854775807 < (((t426 ++ (⟨#[32]⟩:zB)) ++ t427) ++ (⟨#[44,32]⟩:zB)).size+t430.size)=False:=eq_false (Nat.not_lt.2 c34)
         try have c34x:(9223372036854775807 < t426.size+1+t427.size+2+t430.size)=False:=eq_false (by have e1:=c34;simp only [ByteArray.size_append,zs1,zs2,zs3] at e1;omega)
         obtain rfl:=Option.some.inj H;obtain ⟨_,_,_,_,_,_,_,_⟩:=bz4 BK425.out;go_wp2_with (first | ((with_reducible refine gate_callee (f:=65) rfl ?_);refine gl (some 37) Tryz.func65 #[.int .i64 a0_3] ?_;(with_reducible refine (rzNumber.calls kj18 a0_3 _ _ A33.out).mono ?_);rintro e w36 ⟨rfl,hb⟩;refine ⟨_,rfl,?_⟩;replace BK425:=Aside0.mk (blk_below (g:=gb425) bko hb);replace HB:=Aside0.mk (below_step blw hb);clear hb))
         go_ret;exact ⟨rew,blw⟩
        ·rw [if_neg c34] at H;exact absurd H (by simp)
       ·rw [if_neg c32] at H;exact absurd H (by simp)
      ·rw [if_neg c31] at H;exact absurd H (by simp)
     ·rw [if_neg c30] at H;exact absurd H (by simp)
    ·replace c29:=Bool.eq_false_iff.mpr c29;subst c29;rw [if_neg (show ¬ (false=true) by decide)] at H;by_cases c37:t429=5
     ·rw [if_pos c37] at H;obtain ⟨c37b0,c37b1⟩:=bqt c37;clear c37;have HC38:=Aside0.mk H;clear H;go_upto_region 11 with (fail)
      go_cut [48] (fun v48 wc=>∃ (kq:Nat) (x48_37:Bool),v48=.bool x48_37∧Aside0 (rzPrint.j1 kq t426 t427 x48_37 a0_0 a0_1 a0_2 a0_3=some r)∧Aside0 (kq≤kj18)∧Aside0 (wc.heap[gb425]?=some (.cells #[.int .i64 a0_0,.int .i64 a0_1,.int .i64 a0_2,.int .i64 a0_3] 23 (0,0)))∧Aside0 (Below w.heap.size w wc))
      case first =>
       have H:=HC38.out;clear HC38;by_cases c39:a0_0=19
       ·rw [if_pos c39] at H;obtain ⟨c39b0,c39b1⟩:=bqt c39;clear c39;(first | rw [c39b0] | (simp only [i64_w,i32_w];rw [c39b0]) | skip);have H':=Aside0.mk H;clear H;obtain ⟨_,_,_,_,_,_,_,_⟩:=bz4 BK425.out;go_wp2;go_meet
        case rel=>exact ⟨_,(true),rsd,H',⟨by have:=HJ18.out;first | omega | exact Nat.le_refl _⟩,⟨bko⟩,⟨blw⟩⟩
       ·rw [if_neg c39] at H;obtain ⟨c39b0,c39b1⟩:=bqf c39;(first | rw [c39b0] | (simp only [i64_w,i32_w];rw [c39b0]) | skip);have H':=Aside0.mk H;clear H;obtain ⟨_,_,_,_,_,_,_,_⟩:=bz4 BK425.out;go_wp2;go_meet
        case rel=>exact ⟨_,((a0_0 == 20)),rsd,H',⟨by have:=HJ18.out;first | omega | exact Nat.le_refl _⟩,⟨bko⟩,⟨blw⟩⟩
      case rest =>
       clear HC38;try clear c29
       try clear c37b0
       try clear c37b1
       obtain ⟨kq,x48_37,rfl,HA,HJ37,BK425,HB⟩:=hcut;cases kq with
       | zero=>exact absurd HA.out (by simp [rzPrint.j1])
       | succ kj37 =>
        have H:=HA.out;clear HA;simp only [rzPrint.j1] at H;by_cases c42:x48_37=true
        ·subst c42;rw [if_pos rfl] at H;by_cases c43:t426.size+1≤9223372036854775807
         ·rw [if_pos c43] at H;have c43b0:=eq_true c43;have c43b1:=decide_eq_true c43;try have c43b2:(9223372036854775807 < t426.size+1)=False:=eq_false (Nat.not_lt.2 c43)
          obtain ⟨t431,A44,H⟩:=bas H;(try dsimp only at H);by_cases c45:(t426 ++ (⟨#[32]⟩:zB)).size+t431.size≤9223372036854775807
          ·rw [if_pos c45] at H;have c45b0:=eq_true c45;have c45b1:=decide_eq_true c45;try have c45b2:(9223372036854775807 < (t426 ++ (⟨#[32]⟩:zB)).size+t431.size)=False:=eq_false (Nat.not_lt.2 c45)
           try have c45x:(9223372036854775807 < t426.size+1+t431.size)=False:=eq_false (by have e1:=c45;simp only [ByteArray.size_append,zs1,zs2,zs3] at e1;omega)
           by_cases c46:((t426 ++ (⟨#[32]⟩:zB)) ++ t431).size+2≤9223372036854775807
           ·rw [if_pos c46] at H;have c46b0:=eq_true c46;have c46b1:=decide_eq_true c46;try have c46b2:(9223372036854775807 < ((t426 ++ (⟨#[32]⟩:zB)) ++ t431).size+2)=False:=eq_false (Nat.not_lt.2 c46)
            try have c46x:(9223372036854775807 < t426.size+1+t431.size+2)=False:=eq_false (by have e1:=c46;simp only [ByteArray.size_append,zs1,zs2,zs3] at e1;omega)
            by_cases c47:(((t426 ++ (⟨#[32]⟩:zB)) ++ t431) ++ (⟨#[44,32]⟩:zB)).size+t427.size≤9223372036854775807
            ·rw [if_pos c47] at H;have c47b0:=eq_true c47;have c47b1:=decide_eq_true c47;try have c47b2:(9223372036854775807 < (((t426 ++ (⟨#[32]⟩:zB)) ++ t431) ++ (⟨#[44,32]⟩:zB)).size+t427.size)=False:=eq_false (Nat.not_lt.2 c47)
             try have c47x:(9223372036854775807 < t426.size+1+t431.size+2+t427.size)=False:=eq_false (by have e1:=c47;simp only [ByteArray.size_append,zs1,zs2,zs3] at e1;omega)
             obtain rfl:=Option.some.inj H;obtain ⟨_,_,_,_,_,_,_,_⟩:=bz4 BK425.out;go_wp2_with (first | ((with_reducible refine gate_callee (f:=66) rfl ?_);refine gl (some 52) Tryz.func66 #[.agg #[.int .i64 a0_0,.int .i64 a0_1,.int .i64 a0_2,.int .i64 a0_3]] ?_;(with_reducible refine (rzaddress.calls kj37 a0_0 a0_1 a0_2 a0_3 _ _ A44.out).mono ?_);rintro e w49 ⟨rfl,hb⟩;refine ⟨_,rfl,?_⟩;replace BK425:=Aside0.mk (blk_below (g:=gb425) bko hb);replace HB:=Aside0.mk (below_step blw hb);clear hb))
             go_ret;exact ⟨rew,blw⟩
            ·rw [if_neg c47] at H;exact absurd H (by simp)
           ·rw [if_neg c46] at H;exact absurd H (by simp)
          ·rw [if_neg c45] at H;exact absurd H (by simp)
         ·rw [if_neg c43] at H;exact absurd H (by simp)
        ·replace c42:=Bool.eq_false_iff.mpr c42;subst c42;rw [if_neg (show ¬ (false=true) by decide)] at H;by_cases c50:t426.size+1≤9223372036854775807
         ·rw [if_pos c50] at H;have c50b0:=eq_true c50;have c50b1:=decide_eq_true c50;try have c50b2:(9223372036854775807 < t426.size+1)=False:=eq_false (Nat.not_lt.2 c50)
          by_cases c51:(t426 ++ (⟨#[32]⟩:zB)).size+t427.size≤9223372036854775807
          ·rw [if_pos c51] at H;have c51b0:=eq_true c51;have c51b1:=decide_eq_true c51;try have c51b2:(9223372036854775807 < (t426 ++ (⟨#[32]⟩:zB)).size+t427.size)=False:=eq_false (Nat.not_lt.2 c51)
           try have c51x:(9223372036854775807 < t426.size+1+t427.size)=False:=eq_false (by have e1:=c51;simp only [ByteArray.size_append,zs1,zs2,zs3] at e1;omega)
           by_cases c52:((t426 ++ (⟨#[32]⟩:zB)) ++ t427).size+2≤9223372036854775807
           ·rw [if_pos c52] at H;have c52b0:=eq_true c52;have c52b1:=decide_eq_true c52;try have c52b2:(9223372036854775807 < ((t426 ++ (⟨#[32]⟩:zB)) ++ t427).size+2)=False:=eq_false (Nat.not_lt.2 c52)
            try have c52x:(9223372036854775807 < t426.size+1+t427.size+2)=False:=eq_false (by have e1:=c52;simp only [ByteArray.size_append,zs1,zs2,zs3] at e1;omega)
            obtain ⟨t432,A53,H⟩:=bas H;(try dsimp only at H);by_cases c54:(((t426 ++ (⟨#[32]⟩:zB)) ++ t427) ++ (⟨#[44,32]⟩:zB)).size+t432.size≤9223372036854775807
            ·rw [if_pos c54] at H;have c54b0:=eq_true c54;have c54b1:=decide_eq_true c54;try have c54b2:(9223372036854775807 < (((t426 ++ (⟨#[32]⟩:zB)) ++ t427) ++ (⟨#[44,32]⟩:zB)).size+t432.size)=False:=eq_false (Nat.not_lt.2 c54)
             try have c54x:(9223372036854775807 < t426.size+1+t427.size+2+t432.size)=False:=eq_false (by have e1:=c54;simp only [ByteArray.size_append,zs1,zs2,zs3] at e1;omega)
             obtain rfl:=Option.some.inj H;obtain ⟨_,_,_,_,_,_,_,_⟩:=bz4 BK425.out;go_wp2_with (first | ((with_reducible refine gate_callee (f:=66) rfl ?_);refine gl (some 63) Tryz.func66 #[.agg #[.int .i64 a0_0,.int .i64 a0_1,.int .i64 a0_2,.int .i64 a0_3]] ?_;(with_reducible refine (rzaddress.calls kj37 a0_0 a0_1 a0_2 a0_3 _ _ A53.out).mono ?_);rintro e w56 ⟨rfl,hb⟩;refine ⟨_,rfl,?_⟩;replace BK425:=Aside0.mk (blk_below (g:=gb425) bko hb);replace HB:=Aside0.mk (below_step blw hb);clear hb))
             go_ret;exact ⟨rew,blw⟩
            ·rw [if_neg c54] at H;exact absurd H (by simp)
           ·rw [if_neg c52] at H;exact absurd H (by simp)
          ·rw [if_neg c51] at H;exact absurd H (by simp)
         ·rw [if_neg c50] at H;exact absurd H (by simp)
     ·rw [if_neg c37] at H;obtain ⟨c37b0,c37b1⟩:=bqf c37;by_cases c57:t429=6
      ·rw [if_pos c57] at H;obtain ⟨c57b0,c57b1⟩:=bqt c57;clear c57;by_cases c58:t426.size+1≤9223372036854775807
       ·rw [if_pos c58] at H;have c58b0:=eq_true c58;have c58b1:=decide_eq_true c58;try have c58b2:(9223372036854775807 < t426.size+1)=False:=eq_false (Nat.not_lt.2 c58)
        by_cases c59:(t426 ++ (⟨#[32]⟩:zB)).size+t427.size≤9223372036854775807
        ·rw [if_pos c59] at H;have c59b0:=eq_true c59;have c59b1:=decide_eq_true c59;try have c59b2:(9223372036854775807 < (t426 ++ (⟨#[32]⟩:zB)).size+t427.size)=False:=eq_false (Nat.not_lt.2 c59)
         try have c59x:(9223372036854775807 < t426.size+1+t427.size)=False:=eq_false (by have e1:=c59;simp only [ByteArray.size_append,zs1,zs2,zs3] at e1;omega)
         by_cases c60:((t426 ++ (⟨#[32]⟩:zB)) ++ t427).size+2≤9223372036854775807
         ·rw [if_pos c60] at H;have c60b0:=eq_true c60;have c60b1:=decide_eq_true c60;try have c60b2:(9223372036854775807 < ((t426 ++ (⟨#[32]⟩:zB)) ++ t427).size+2)=False:=eq_false (Nat.not_lt.2 c60)
          try have c60x:(9223372036854775807 < t426.size+1+t427.size+2)=False:=eq_false (by have e1:=c60;simp only [ByteArray.size_append,zs1,zs2,zs3] at e1;omega)
          by_cases c61:(((t426 ++ (⟨#[32]⟩:zB)) ++ t427) ++ (⟨#[44,32]⟩:zB)).size+t428.size≤9223372036854775807
          ·rw [if_pos c61] at H;have c61b0:=eq_true c61;have c61b1:=decide_eq_true c61;try have c61b2:(9223372036854775807 < (((t426 ++ (⟨#[32]⟩:zB)) ++ t427) ++ (⟨#[44,32]⟩:zB)).size+t428.size)=False:=eq_false (Nat.not_lt.2 c61)
           try have c61x:(9223372036854775807 < t426.size+1+t427.size+2+t428.size)=False:=eq_false (by have e1:=c61;simp only [ByteArray.size_append,zs1,zs2,zs3] at e1;omega)
           by_cases c62:((((t426 ++ (⟨#[32]⟩:zB)) ++ t427) ++ (⟨#[44,32]⟩:zB)) ++ t428).size+2≤9223372036854775807
           ·rw [if_pos c62] at H;have c62b0:=eq_true c62;have c62b1:=decide_eq_true c62;try have c62b2:(9223372036854775807 < ((((t426 ++ (⟨#[32]⟩:zB)) ++ t427) ++ (⟨#[44,32]⟩:zB)) ++ t428).size+2)=False:=eq_false (Nat.not_lt.2 c62)
            try have c62x:(9223372036854775807 < t426.size+1+t427.size+2+t428.size+2)=False:=eq_false (by have e1:=c62;simp only [ByteArray.size_append,zs1,zs2,zs3] at e1;omega)
            obtain ⟨t433,A63,H⟩:=bas H;(try dsimp only at H);by_cases c64:(((((t426 ++ (⟨#[32]⟩:zB)) ++ t427) ++ (⟨#[44,32]⟩:zB)) ++ t428) ++ (⟨#[44,32]⟩:zB)).size+t433.size≤9223372036854775807
            ·rw [if_pos c64] at H;have c64b0:=eq_true c64;have c64b1:=decide_eq_true c64;try have c64b2:(9223372036854775807 < (((((t426 ++ (⟨#[32]⟩:zB)) ++ t427) ++ (⟨#[44,32]⟩:zB)) ++ t428) ++ (⟨#[44,32]⟩:zB)).size+t433.size)=False:=eq_false (Nat.not_lt.2 c64)
             try have c64x:(9223372036854775807 < t426.size+1+t427.size+2+t428.size+2+t433.size)=False:=eq_false (by have e1:=c64;simp only [ByteArray.size_append,zs1,zs2,zs3] at e1;omega)
             obtain rfl:=Option.some.inj H;obtain ⟨_,_,_,_,_,_,_,_⟩:=bz4 BK425.out;go_wp2_with (first | ((with_reducible refine gate_callee (f:=67) rfl ?_);refine gl (some 77) Tryz.func67 #[.int .i64 a0_3] ?_;(with_reducible refine (rztarget.calls kj18 a0_3 _ _ A63.out).mono ?_);rintro e w66 ⟨rfl,hb⟩;refine ⟨_,rfl,?_⟩;replace BK425:=Aside0.mk (blk_below (g:=gb425) bko hb);replace HB:=Aside0.mk (below_step blw hb);clear hb))
             go_ret;exact ⟨rew,blw⟩
            ·rw [if_neg c64] at H;exact absurd H (by simp)
           ·rw [if_neg c62] at H;exact absurd H (by simp)
          ·rw [if_neg c61] at H;exact absurd H (by simp)
         ·rw [if_neg c60] at H;exact absurd H (by simp)
        ·rw [if_neg c59] at H;exact absurd H (by simp)
       ·rw [if_neg c58] at H;exact absurd H (by simp)
      ·rw [if_neg c57] at H;obtain ⟨c57b0,c57b1⟩:=bqf c57;by_cases c67:t429=7
       ·rw [if_pos c67] at H;obtain ⟨c67b0,c67b1⟩:=bqt c67;clear c67;by_cases c68:t426.size+1≤9223372036854775807
        ·rw [if_pos c68] at H;have c68b0:=eq_true c68;have c68b1:=decide_eq_true c68;try have c68b2:(9223372036854775807 < t426.size+1)=False:=eq_false (Nat.not_lt.2 c68)
         obtain ⟨t434,A69,H⟩:=bas H;(try dsimp only at H);by_cases c70:(t426 ++ (⟨#[32]⟩:zB)).size+t434.size≤9223372036854775807
         ·rw [if_pos c70] at H;have c70b0:=eq_true c70;have c70b1:=decide_eq_true c70;try have c70b2:(9223372036854775807 < (t426 ++ (⟨#[32]⟩:zB)).size+t434.size)=False:=eq_false (Nat.not_lt.2 c70)
          try have c70x:(9223372036854775807 < t426.size+1+t434.size)=False:=eq_false (by have e1:=c70;simp only [ByteArray.size_append,zs1,zs2,zs3] at e1;omega)
          obtain rfl:=Option.some.inj H;obtain ⟨_,_,_,_,_,_,_,_⟩:=bz4 BK425.out;go_wp2_with (first | ((with_reducible refine gate_callee (f:=67) rfl ?_);refine gl (some 85) Tryz.func67 #[.int .i64 a0_3] ?_;(with_reducible refine (rztarget.calls kj18 a0_3 _ _ A69.out).mono ?_);rintro e w72 ⟨rfl,hb⟩;refine ⟨_,rfl,?_⟩;replace BK425:=Aside0.mk (blk_below (g:=gb425) bko hb);replace HB:=Aside0.mk (below_step blw hb);clear hb))
          go_ret;exact ⟨rew,blw⟩
         ·rw [if_neg c70] at H;exact absurd H (by simp)
        ·rw [if_neg c68] at H;exact absurd H (by simp)
       ·rw [if_neg c67] at H;obtain ⟨c67b0,c67b1⟩:=bqf c67;by_cases c73:t429=8
        ·rw [if_pos c73] at H;obtain ⟨c73b0,c73b1⟩:=bqt c73;clear c73;by_cases c74:t426.size+1≤9223372036854775807
         ·rw [if_pos c74] at H;have c74b0:=eq_true c74;have c74b1:=decide_eq_true c74;try have c74b2:(9223372036854775807 < t426.size+1)=False:=eq_false (Nat.not_lt.2 c74)
          by_cases c75:(t426 ++ (⟨#[32]⟩:zB)).size+t427.size≤9223372036854775807
          ·rw [if_pos c75] at H;have c75b0:=eq_true c75;have c75b1:=decide_eq_true c75;try have c75b2:(9223372036854775807 < (t426 ++ (⟨#[32]⟩:zB)).size+t427.size)=False:=eq_false (Nat.not_lt.2 c75)
           try have c75x:(9223372036854775807 < t426.size+1+t427.size)=False:=eq_false (by have e1:=c75;simp only [ByteArray.size_append,zs1,zs2,zs3] at e1;omega)
           obtain rfl:=Option.some.inj H;go_wp2;go_ret;exact ⟨rew,blw⟩
          ·rw [if_neg c75] at H;exact absurd H (by simp)
         ·rw [if_neg c74] at H;exact absurd H (by simp)
        ·rw [if_neg c73] at H;obtain ⟨c73b0,c73b1⟩:=bqf c73;by_cases c76:t429=9
         ·rw [if_pos c76] at H;obtain ⟨c76b0,c76b1⟩:=bqt c76;clear c76;by_cases c77:t426.size+1≤9223372036854775807
          ·rw [if_pos c77] at H;have c77b0:=eq_true c77;have c77b1:=decide_eq_true c77;try have c77b2:(9223372036854775807 < t426.size+1)=False:=eq_false (Nat.not_lt.2 c77)
           by_cases c78:(t426 ++ (⟨#[32]⟩:zB)).size+t427.size≤9223372036854775807
           ·rw [if_pos c78] at H;have c78b0:=eq_true c78;have c78b1:=decide_eq_true c78;try have c78b2:(9223372036854775807 < (t426 ++ (⟨#[32]⟩:zB)).size+t427.size)=False:=eq_false (Nat.not_lt.2 c78)
            try have c78x:(9223372036854775807 < t426.size+1+t427.size)=False:=eq_false (by have e1:=c78;simp only [ByteArray.size_append,zs1,zs2,zs3] at e1;omega)
            by_cases c79:((t426 ++ (⟨#[32]⟩:zB)) ++ t427).size+2≤9223372036854775807
            ·rw [if_pos c79] at H;have c79b0:=eq_true c79;have c79b1:=decide_eq_true c79;try have c79b2:(9223372036854775807 < ((t426 ++ (⟨#[32]⟩:zB)) ++ t427).size+2)=False:=eq_false (Nat.not_lt.2 c79)
             try have c79x:(9223372036854775807 < t426.size+1+t427.size+2)=False:=eq_false (by have e1:=c79;simp only [ByteArray.size_append,zs1,zs2,zs3] at e1;omega)
             obtain ⟨t435,A80,H⟩:=bas H;(try dsimp only at H);by_cases c81:(((t426 ++ (⟨#[32]⟩:zB)) ++ t427) ++ (⟨#[44,32]⟩:zB)).size+t435.size≤9223372036854775807
             ·rw [if_pos c81] at H;have c81b0:=eq_true c81;have c81b1:=decide_eq_true c81;try have c81b2:(9223372036854775807 < (((t426 ++ (⟨#[32]⟩:zB)) ++ t427) ++ (⟨#[44,32]⟩:zB)).size+t435.size)=False:=eq_false (Nat.not_lt.2 c81)
              try have c81x:(9223372036854775807 < t426.size+1+t427.size+2+t435.size)=False:=eq_false (by have e1:=c81;simp only [ByteArray.size_append,zs1,zs2,zs3] at e1;omega)
              obtain rfl:=Option.some.inj H;obtain ⟨_,_,_,_,_,_,_,_⟩:=bz4 BK425.out;go_wp2_with (first | ((with_reducible refine gate_callee (f:=67) rfl ?_);refine gl (some 102) Tryz.func67 #[.int .i64 a0_3] ?_;(with_reducible refine (rztarget.calls kj18 a0_3 _ _ A80.out).mono ?_);rintro e w83 ⟨rfl,hb⟩;refine ⟨_,rfl,?_⟩;replace BK425:=Aside0.mk (blk_below (g:=gb425) bko hb);replace HB:=Aside0.mk (below_step blw hb);clear hb))
              go_ret;exact ⟨rew,blw⟩
             ·rw [if_neg c81] at H;exact absurd H (by simp)
            ·rw [if_neg c79] at H;exact absurd H (by simp)
           ·rw [if_neg c78] at H;exact absurd H (by simp)
          ·rw [if_neg c77] at H;exact absurd H (by simp)
         ·rw [if_neg c76] at H;obtain ⟨c76b0,c76b1⟩:=bqf c76;by_cases c84:t429=10
          ·rw [if_pos c84] at H;obtain ⟨c84b0,c84b1⟩:=bqt c84;clear c84;by_cases c85:t426.size+1≤9223372036854775807
           ·rw [if_pos c85] at H;have c85b0:=eq_true c85;have c85b1:=decide_eq_true c85;try have c85b2:(9223372036854775807 < t426.size+1)=False:=eq_false (Nat.not_lt.2 c85)
            obtain ⟨t436,A86,H⟩:=bas H;(try dsimp only at H);by_cases c87:(t426 ++ (⟨#[32]⟩:zB)).size+t436.size≤9223372036854775807
            ·rw [if_pos c87] at H;have c87b0:=eq_true c87;have c87b1:=decide_eq_true c87;try have c87b2:(9223372036854775807 < (t426 ++ (⟨#[32]⟩:zB)).size+t436.size)=False:=eq_false (Nat.not_lt.2 c87)
             try have c87x:(9223372036854775807 < t426.size+1+t436.size)=False:=eq_false (by have e1:=c87;simp only [ByteArray.size_append,zs1,zs2,zs3] at e1;omega)
             obtain rfl:=Option.some.inj H;obtain ⟨_,_,_,_,_,_,_,_⟩:=bz4 BK425.out;go_wp2_with (first | ((with_reducible refine gate_callee (f:=65) rfl ?_);refine gl (some 110) Tryz.func65 #[.int .i64 a0_3] ?_;(with_reducible refine (rzNumber.calls kj18 a0_3 _ _ A86.out).mono ?_);rintro e w89 ⟨rfl,hb⟩;refine ⟨_,rfl,?_⟩;replace BK425:=Aside0.mk (blk_below (g:=gb425) bko hb);replace HB:=Aside0.mk (below_step blw hb);clear hb))
             go_ret;exact ⟨rew,blw⟩
            ·rw [if_neg c87] at H;exact absurd H (by simp)
           ·rw [if_neg c85] at H;exact absurd H (by simp)
          ·rw [if_neg c84] at H;obtain ⟨c84b0,c84b1⟩:=bqf c84;by_cases c90:t429=11
           ·rw [if_pos c90] at H;obtain ⟨c90b0,c90b1⟩:=bqt c90;clear c90;by_cases c91:t426.size+1≤9223372036854775807
            ·rw [if_pos c91] at H;have c91b0:=eq_true c91;have c91b1:=decide_eq_true c91;try have c91b2:(9223372036854775807 < t426.size+1)=False:=eq_false (Nat.not_lt.2 c91)
             by_cases c92:(t426 ++ (⟨#[32]⟩:zB)).size+t427.size≤9223372036854775807
             ·rw [if_pos c92] at H;have c92b0:=eq_true c92;have c92b1:=decide_eq_true c92;try have c92b2:(9223372036854775807 < (t426 ++ (⟨#[32]⟩:zB)).size+t427.size)=False:=eq_false (Nat.not_lt.2 c92)
              try have c92x:(9223372036854775807 < t426.size+1+t427.size)=False:=eq_false (by have e1:=c92;simp only [ByteArray.size_append,zs1,zs2,zs3] at e1;omega)
              by_cases c93:((t426 ++ (⟨#[32]⟩:zB)) ++ t427).size+3≤9223372036854775807
              ·rw [if_pos c93] at H;have c93b0:=eq_true c93;have c93b1:=decide_eq_true c93;try have c93b2:(9223372036854775807 < ((t426 ++ (⟨#[32]⟩:zB)) ++ t427).size+3)=False:=eq_false (Nat.not_lt.2 c93)
               try have c93x:(9223372036854775807 < t426.size+1+t427.size+3)=False:=eq_false (by have e1:=c93;simp only [ByteArray.size_append,zs1,zs2,zs3] at e1;omega)
               by_cases c94:(((t426 ++ (⟨#[32]⟩:zB)) ++ t427) ++ (⟨#[44,32,91]⟩:zB)).size+t428.size≤9223372036854775807
               ·rw [if_pos c94] at H;have c94b0:=eq_true c94;have c94b1:=decide_eq_true c94;try have c94b2:(9223372036854775807 < (((t426 ++ (⟨#[32]⟩:zB)) ++ t427) ++ (⟨#[44,32,91]⟩:zB)).size+t428.size)=False:=eq_false (Nat.not_lt.2 c94)
                try have c94x:(9223372036854775807 < t426.size+1+t427.size+3+t428.size)=False:=eq_false (by have e1:=c94;simp only [ByteArray.size_append,zs1,zs2,zs3] at e1;omega)
                by_cases c95:((((t426 ++ (⟨#[32]⟩:zB)) ++ t427) ++ (⟨#[44,32,91]⟩:zB)) ++ t428).size+1≤9223372036854775807
                ·rw [if_pos c95] at H;have c95b0:=eq_true c95;have c95b1:=decide_eq_true c95;try have c95b2:(9223372036854775807 < ((((t426 ++ (⟨#[32]⟩:zB)) ++ t427) ++ (⟨#[44,32,91]⟩:zB)) ++ t428).size+1)=False:=eq_false (Nat.not_lt.2 c95)
                 try have c95x:(9223372036854775807 < t426.size+1+t427.size+3+t428.size+1)=False:=eq_false (by have e1:=c95;simp only [ByteArray.size_append,zs1,zs2,zs3] at e1;omega)
                 obtain rfl:=Option.some.inj H;go_wp2;go_ret;exact ⟨rew,blw⟩
                ·rw [if_neg c95] at H;exact absurd H (by simp)
               ·rw [if_neg c94] at H;exact absurd H (by simp)
              ·rw [if_neg c93] at H;exact absurd H (by simp)
             ·rw [if_neg c92] at H;exact absurd H (by simp)
            ·rw [if_neg c91] at H;exact absurd H (by simp)
           ·rw [if_neg c90] at H;obtain ⟨c90b0,c90b1⟩:=bqf c90;obtain rfl:=Option.some.inj H;go_wp2;go_ret;exact ⟨rew,blw⟩
end Go.Proofs.YtffojmgmpfjlhaaGreatDoor.Q
