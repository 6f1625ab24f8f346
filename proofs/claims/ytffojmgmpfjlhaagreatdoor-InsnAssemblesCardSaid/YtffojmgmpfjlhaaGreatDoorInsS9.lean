/- Parts of the proof: see the last text -/
import Derived.Test.YtffojmgmpfjlhaaGreatDoorInsS4
import Derived.Test.YtffojmgmpfjlhaaGreatDoorInsS8
import Derived.Deep.RegionHeld3
import Derived.Laws.RangeAny
import Derived.WideShapes
import Derived.Maps.Own
set_option maxHeartbeats 8000000
set_option maxRecDepth 100000
set_option linter.unusedVariables false
set_option linter.unusedSimpArgs false
namespace Go.Proofs.YtffojmgmpfjlhaaGreatDoor.Q
open Go.Proofs.YtffojmgmpfjlhaaGreatDoor Go.RowKit Go.Proofs.YtffojmgmpfjlhaaGreatDoorW.PrintWords Go.Proofs.YtffojmgmpfjlhaaGreatDoorW.PrintLast Go.Proofs.YtffojmgmpfjlhaaGreatDoorW.PrintMore
attribute [local go_sem] max2_int min2_int max_two min_two max_three min_three max_four min_four
def insn_Print.f (k:Nat) (a0_0:Int) (a0_1:Int) (a0_2:Int) (a0_3:Int):Option (ByteArray × Int):=(insn_Check.f k a0_0 a0_1 a0_2 a0_3).bind fun t212=>(if t212=0 then ((insn_kindOf.f a0_0).bind fun bt213=>((insn_words.f k a0_0 a0_1 a0_2 a0_3).bind fun t215=>(if (t215.length:Int) > 0 then (if bt213.1.size+1≤9223372036854775807 then ((strings_Join.f t215 (⟨#[44,32]⟩:zB)).bind fun t218=>(if (bt213.1 ++ (⟨#[32]⟩:zB)).size+t218.size≤9223372036854775807 then (some ((bt213.1 ++ (⟨#[32]⟩:zB)) ++ t218,0)) else (none))) else (none)) else (some (bt213.1,0))))) else (some ((⟨#[]⟩:zB),t212)))
theorem insn_Print.mono:∀ a0 a1 a2 a3 k,LeO (insn_Print.f k a0 a1 a2 a3) (insn_Print.f (k+1) a0 a1 a2 a3):=by
 intro a0 a1 a2 a3 k;unfold insn_Print.f;repeat' first
   | (with_reducible exact insn_Check.mono _ _ _ _ _)
   | (with_reducible exact insn_words.mono _ _ _ _ _)
   | (with_reducible exact LeO.refl _)
   | (with_reducible exact LeO.none _)
   | (with_reducible refine LeO.ite ?_ ?_)
   | (with_reducible refine LeO.bind ?_ (fun _=>?_))
   | exact LeO.none _
   | refine LeO.ite ?_ ?_
   | refine LeO.bind ?_ (fun _=>?_)
theorem insn_Print.calls (k:Nat) (a0_0:Int) (a0_1:Int) (a0_2:Int) (a0_3:Int) (r1:ByteArray) (r2:Int) (w:World) (h:insn_Print.f k a0_0 a0_1 a0_2 a0_3=some (r1,r2)) (hgw:GW w) :
  Calls Tryz.prog 24 #[.agg #[.int .i64 a0_0,.int .i64 a0_1,.int .i64 a0_2,.int .i64 a0_3]] w fun e w'=>e=.returned (.tuple #[.string r1,.int .i64 r2])∧Below w.heap.size w w':=by
 have hu23:=Tryz.underlying23;have HB:=Aside0.mk (Below.refl w.heap.size w);unfold insn_Print.f at h;have H:=h;clear h;obtain ⟨t212,A2,H⟩:=bas H;(try dsimp only at H);by_cases c3:t212=0
 ·rw [if_pos c3] at H;obtain ⟨c3b0,c3b1⟩:=bqt c3;clear c3;obtain ⟨⟨t213,t214⟩,A4,H⟩:=bas H;(try dsimp only at H);obtain ⟨t215,A5,H⟩:=bas H;(try dsimp only at H);by_cases c6:(t215.length:Int) > 0
  ·rw [if_pos c6] at H;have c6b0:decide (0 < (t215.length:Int))=true:=decide_eq_true c6;have c6b1:decide (0 < t215.length)=true:=decide_eq_true (by omega);clear c6;by_cases c7:t213.size+1≤9223372036854775807
   ·rw [if_pos c7] at H;have c7b0:=eq_true c7;have c7b1:=decide_eq_true c7;try have c7b2:(9223372036854775807 < t213.size+1)=False:=eq_false (Nat.not_lt.2 c7)
    obtain ⟨t218,A8,H⟩:=bas H;(try dsimp only at H);by_cases c9:(t213 ++ (⟨#[32]⟩:zB)).size+t218.size≤9223372036854775807
    ·rw [if_pos c9] at H;have c9b0:=eq_true c9;have c9b1:=decide_eq_true c9;try have c9b2:(9223372036854775807 < (t213 ++ (⟨#[32]⟩:zB)).size+t218.size)=False:=eq_false (Nat.not_lt.2 c9)
     try have c9x:(9223372036854775807 < t213.size+1+t218.size)=False:=eq_false (by have e1:=c9;simp only [ByteArray.size_append,show ∀ x:UInt8,(⟨#[x]⟩:zB).size=1 from fun _=>rfl] at e1;omega)
     simp only [Option.some.injEq,Prod.mk.injEq] at H;obtain ⟨rfl,rfl⟩:=H;go_enter Tryz.func24,Tryz.ntmps24
     go_wp2_with (first | ((with_reducible refine gate_dst (N:=1) rfl ?_);refine bxe (N:=1) (cs:=#[.int .i64 a0_0,.int .i64 a0_1,.int .i64 a0_2,.int .i64 a0_3]) (t:=23) ?_;intro gb211 hg w10 hbox hb;have BK211:=Aside0.mk hbox;have GW211:Aside0 (w.heap.size≤gb211):=⟨gwb⟩;have GE211:Aside0 (w.heap.size≤gb211):=⟨gwb⟩;replace HB:=Aside0.mk (below_step blw hb);clear hb hbox hg;obtain ⟨_,_,_,_,_,_,_,_⟩:=bz4 BK211.out) | ((with_reducible refine gate_callee (f:=31) rfl ?_);refine gl (some 8) Tryz.func31 #[.agg #[.int .i64 a0_0,.int .i64 a0_1,.int .i64 a0_2,.int .i64 a0_3]] ?_;(with_reducible refine (insn_Check.calls k a0_0 a0_1 a0_2 a0_3 _ _ A2.out gwy).mono ?_);rintro e w12 ⟨rfl,hb⟩;refine ⟨_,rfl,?_⟩;replace BK211:=Aside0.mk (blk_below (g:=gb211) bko hb);replace HB:=Aside0.mk (below_step blw hb);clear hb;obtain ⟨_,_,_,_,_,_,_,_⟩:=bz4 BK211.out) | ((with_reducible refine gate_callee (f:=55) rfl ?_);refine gl (some 14) Tryz.func55 #[.int .i64 a0_0] ?_;(with_reducible refine (insn_kindOf.calls a0_0 _ _ _ A4.out gwy).mono ?_);rintro e w14 ⟨rfl,hb⟩;refine ⟨_,rfl,?_⟩;replace BK211:=Aside0.mk (blk_below (g:=gb211) bko hb);replace HB:=Aside0.mk (below_step blw hb);clear hb;obtain ⟨_,_,_,_,_,_,_,_⟩:=bz4 BK211.out) | ((with_reducible refine gate_callee (f:=61) rfl ?_);refine gl (some 17) Tryz.func61 #[.agg #[.int .i64 a0_0,.int .i64 a0_1,.int .i64 a0_2,.int .i64 a0_3]] ?_;(with_reducible refine (insn_words.calls k a0_0 a0_1 a0_2 a0_3 _ _ A5.out gwy).mono ?_);rintro e w16 ⟨v216,rfl,ho0,hb⟩;refine ⟨_,rfl,?_⟩;have HO217:=Aside0.mk (Kd.R_lower ho0 (below_size blw));replace BK211:=Aside0.mk (blk_below (g:=gb211) bko hb);replace HB:=Aside0.mk (below_step blw hb);clear hb;(try clear ho0);obtain ⟨Ao17,co17,eo17⟩:=Kd.R_slice HO217.out;subst eo17) | ((with_reducible refine gate_callee (f:=62) rfl ?_);refine gl (some 24) Tryz.func62 #[.slice Ao17 t215.length co17,.string (⟨#[44,32]⟩:zB)] ?_;(with_reducible refine (strings_Join.calls _ _ t215 (⟨#[44,32]⟩:zB) t218 _ ?side1 ?side2 A8.out).mono ?_);(case side1=>repeat (first | exact (Kd.R_reads' HO217.out).2.2 | (with_reducible refine Kd.C_alloc ?_ _) | (with_reducible refine Kd.C_drewN ?_ _) | (with_reducible refine Kd.C_drew ?_)));(case side2=>exact (Kd.R_reads' HO217.out).2.1);rintro e w18 ⟨rfl,hb⟩;refine ⟨_,rfl,?_⟩;replace HO217:=Aside0.mk (Kd.R_below (by (with_reducible repeat (first | apply Kd.R_alloc | apply Kd.R_drewN | apply Kd.R_drew));exact HO217.out) hb);replace BK211:=Aside0.mk (blk_below (g:=gb211) bko hb);replace HB:=Aside0.mk (below_step blw hb);clear hb))
     go_ret2;exact ⟨rew,blw⟩
    ·rw [if_neg c9] at H;exact absurd H (by simp)
   ·rw [if_neg c7] at H;exact absurd H (by simp)
  ·rw [if_neg c6] at H;have c6b0:decide (0 < (t215.length:Int))=false:=decide_eq_false c6;have c6b1:decide (0 < t215.length)=false:=decide_eq_false (by omega);clear c6;simp only [Option.some.injEq,Prod.mk.injEq] at H;obtain ⟨rfl,rfl⟩:=H;go_enter Tryz.func24,Tryz.ntmps24
   go_wp2_with (first | ((with_reducible refine gate_dst (N:=1) rfl ?_);refine bxe (N:=1) (cs:=#[.int .i64 a0_0,.int .i64 a0_1,.int .i64 a0_2,.int .i64 a0_3]) (t:=23) ?_;intro gb211 hg w19 hbox hb;have BK211:=Aside0.mk hbox;have GW211:Aside0 (w.heap.size≤gb211):=⟨gwb⟩;have GE211:Aside0 (w.heap.size≤gb211):=⟨gwb⟩;replace HB:=Aside0.mk (below_step blw hb);clear hb hbox hg;obtain ⟨_,_,_,_,_,_,_,_⟩:=bz4 BK211.out) | ((with_reducible refine gate_callee (f:=31) rfl ?_);refine gl (some 8) Tryz.func31 #[.agg #[.int .i64 a0_0,.int .i64 a0_1,.int .i64 a0_2,.int .i64 a0_3]] ?_;(with_reducible refine (insn_Check.calls k a0_0 a0_1 a0_2 a0_3 _ _ A2.out gwy).mono ?_);rintro e w21 ⟨rfl,hb⟩;refine ⟨_,rfl,?_⟩;replace BK211:=Aside0.mk (blk_below (g:=gb211) bko hb);replace HB:=Aside0.mk (below_step blw hb);clear hb;obtain ⟨_,_,_,_,_,_,_,_⟩:=bz4 BK211.out) | ((with_reducible refine gate_callee (f:=55) rfl ?_);refine gl (some 14) Tryz.func55 #[.int .i64 a0_0] ?_;(with_reducible refine (insn_kindOf.calls a0_0 _ _ _ A4.out gwy).mono ?_);rintro e w23 ⟨rfl,hb⟩;refine ⟨_,rfl,?_⟩;replace BK211:=Aside0.mk (blk_below (g:=gb211) bko hb);replace HB:=Aside0.mk (below_step blw hb);clear hb;obtain ⟨_,_,_,_,_,_,_,_⟩:=bz4 BK211.out) | ((with_reducible refine gate_callee (f:=61) rfl ?_);refine gl (some 17) Tryz.func61 #[.agg #[.int .i64 a0_0,.int .i64 a0_1,.int .i64 a0_2,.int .i64 a0_3]] ?_;(with_reducible refine (insn_words.calls k a0_0 a0_1 a0_2 a0_3 _ _ A5.out gwy).mono ?_);rintro e w25 ⟨v216,rfl,ho0,hb⟩;refine ⟨_,rfl,?_⟩;have HO217:=Aside0.mk (Kd.R_lower ho0 (below_size blw));replace BK211:=Aside0.mk (blk_below (g:=gb211) bko hb);replace HB:=Aside0.mk (below_step blw hb);clear hb;(try clear ho0);obtain ⟨Ao26,co26,eo26⟩:=Kd.R_slice HO217.out;subst eo26))
   go_ret2;exact ⟨rew,blw⟩
 ·rw [if_neg c3] at H;obtain ⟨c3b0,c3b1⟩:=bqf c3;simp only [Option.some.injEq,Prod.mk.injEq] at H;obtain ⟨rfl,rfl⟩:=H;go_enter Tryz.func24,Tryz.ntmps24
  go_wp2_with (first | ((with_reducible refine gate_dst (N:=1) rfl ?_);refine bxe (N:=1) (cs:=#[.int .i64 a0_0,.int .i64 a0_1,.int .i64 a0_2,.int .i64 a0_3]) (t:=23) ?_;intro gb211 hg w27 hbox hb;have BK211:=Aside0.mk hbox;have GW211:Aside0 (w.heap.size≤gb211):=⟨gwb⟩;have GE211:Aside0 (w.heap.size≤gb211):=⟨gwb⟩;replace HB:=Aside0.mk (below_step blw hb);clear hb hbox hg;obtain ⟨_,_,_,_,_,_,_,_⟩:=bz4 BK211.out) | ((with_reducible refine gate_callee (f:=31) rfl ?_);refine gl (some 8) Tryz.func31 #[.agg #[.int .i64 a0_0,.int .i64 a0_1,.int .i64 a0_2,.int .i64 a0_3]] ?_;(with_reducible refine (insn_Check.calls k a0_0 a0_1 a0_2 a0_3 _ _ A2.out gwy).mono ?_);rintro e w29 ⟨rfl,hb⟩;refine ⟨_,rfl,?_⟩;replace BK211:=Aside0.mk (blk_below (g:=gb211) bko hb);replace HB:=Aside0.mk (below_step blw hb);clear hb))
  go_ret2;exact ⟨rew,blw⟩
theorem eqA61 (d:Nat) (w:World) (x0 y0:ByteArray) (x1 y1:Int) (x2 y2:Int) :
  (Op.equalIn (d+2) 61 (.agg #[.string x0,.int .i64 x1,.int .i64 x2]) (.agg #[.string y0,.int .i64 y1,.int .i64 y2])).run Tryz.prog w=.ok (x0.toList == y0.toList && (x1 == y1 && (x2 == y2))) w:=by
 refine eqA_of Tryz.underlying61 (by kernel_rfl) ?_;refine eqf_cons (by rfl) (by go_simp;rfl) (by go_simp;rfl) (by go_simp) ?_;refine eqf_cons (by rfl) (by go_simp;rfl) (by go_simp;rfl) (by go_simp) ?_;exact eqf_last (by rfl) (by go_simp;rfl) (by go_simp;rfl) (by go_simp)
end Go.Proofs.YtffojmgmpfjlhaaGreatDoor.Q
namespace Go.Proofs.YtffojmgmpfjlhaaGreatDoor.Q
open Go.Proofs.YtffojmgmpfjlhaaGreatDoor Go.RowKit Go.Proofs.YtffojmgmpfjlhaaGreatDoorW.PrintWords Go.Proofs.YtffojmgmpfjlhaaGreatDoorW.PrintLast Go.Proofs.YtffojmgmpfjlhaaGreatDoorW.PrintMore
attribute [local go_sem] max2_int min2_int max_two min_two max_three min_three max_four min_four
attribute [local go_sem high] eqA61
def lzsameSyms.l0:Nat→List (S61)→List (S61)→Int→Option (Bool)
 | 0,_,_,_=>none
 | k+1,x0,x1,x5=>if x5 < (x0.length:Int) then (if 0≤x5 then (if x5 < (x1.length:Int) then (if (!((((rd_T61 x0 x5).f0).toList) == (((rd_T61 x1 x5).f0).toList)) || (!(((rd_T61 x0 x5).f1) == ((rd_T61 x1 x5).f1)) || (!(((rd_T61 x0 x5).f2) == ((rd_T61 x1 x5).f2)))))=true then (some false) else (lzsameSyms.l0 k x0 x1 (wrap64 (x5+1)))) else (none)) else (none)) else (some true)
def lzsameSyms.f (k:Nat) (l0:List (S61)) (l1:List (S61)):Option (Bool):=if (l0.length:Int)=(l1.length:Int) then (lzsameSyms.l0 k l0 l1 0) else (some false)
theorem lzsameSyms.mono_l:∀ k,(∀ y0 y1 y2,LeO (lzsameSyms.l0 k y0 y1 y2) (lzsameSyms.l0 (k+1) y0 y1 y2))
 | 0=>fun _ _ _ r h=>by simp [lzsameSyms.l0] at h
 | k+1=>by
  have ih0:=lzsameSyms.mono_l k
  ·intro y0 y1 y2;unfold lzsameSyms.l0;repeat' first
   | (with_reducible exact ih0 _ _ _)
   | (with_reducible exact LeO.refl _)
   | (with_reducible exact LeO.none _)
   | (with_reducible refine LeO.ite ?_ ?_)
   | (with_reducible refine LeO.bind ?_ (fun _=>?_))
   | exact LeO.none _
   | refine LeO.ite ?_ ?_
   | refine LeO.bind ?_ (fun _=>?_)
theorem lzsameSyms.mono:∀ a0 a1 k,LeO (lzsameSyms.f k a0 a1) (lzsameSyms.f (k+1) a0 a1):=by
 intro a0 a1 k;have ih0:=lzsameSyms.mono_l k;unfold lzsameSyms.f;repeat' first
   | (with_reducible exact ih0 _ _ _)
   | (with_reducible exact LeO.refl _)
   | (with_reducible exact LeO.none _)
   | (with_reducible refine LeO.ite ?_ ?_)
   | (with_reducible refine LeO.bind ?_ (fun _=>?_))
   | exact LeO.none _
   | refine LeO.ite ?_ ?_
   | refine LeO.bind ?_ (fun _=>?_)
theorem lzsameSyms.calls (k:Nat) (A0:Option Addr) (c0:Nat) (l0:List (S61)) (A1:Option Addr) (c1:Nat) (l1:List (S61)) (r:Bool) (w:World) (hr0:Kd.C k61 w A0 l0.length l0) (hc0:l0.length≤c0) (hr1:Kd.C k61 w A1 l1.length l1) (hc1:l1.length≤c1) (h:lzsameSyms.f k l0 l1=some r) :
  Calls Tryz.prog 30 #[.slice A0 l0.length c0,.slice A1 l1.length c1] w fun e w'=>e=.returned (.bool r)∧Drawn0 w w':=by
 have hu61:=Tryz.underlying61;have HR0:=Aside0.mk hr0;have HC0:=Aside0.mk hc0;clear hr0 hc0;have HR1:=Aside0.mk hr1;have HC1:=Aside0.mk hc1;clear hr1 hc1;unfold lzsameSyms.f at h;have H:=h;clear h;by_cases c3:(l0.length:Int)=(l1.length:Int)
 ·rw [if_pos c3] at H;obtain ⟨c3b0,c3b1⟩:=bqt c3;have c3b2:(l0.length == l1.length)=true:=by first | simpa using c3 | (simp at c3 ⊢;omega)
  clear c3;have H':=Aside0.mk H;clear H;go_enter Tryz.func30,Tryz.ntmps30
  go_wp2;repeat (go_quiet (fail);try go_wp2)
  try simp only [Act.put,List.setIfInBounds_toArray,List.set_cons_zero,List.set_cons_succ]
  go_loopg [5] k (fun kq v5 w'=>∃ (x5_1:Int),v5=.int .i64 x5_1∧Aside0 (lzsameSyms.l0 kq l0 l1 x5_1=some r)∧Aside0 (kq≤k)∧Drawn0 w w')
  case atStart=>exact ⟨(0),rsd,H',⟨Nat.le_refl _⟩,by repeat (first | exact Drawn0.refl _ | apply Drawn0.step)⟩
  case round =>
   clear H';try clear c3b0
   try clear c3b1
   try clear c3b2
   obtain ⟨x5_1,rfl,HA,HK1,⟨m1,rfl⟩⟩:=hrel;cases gk with
   | zero=>exact absurd HA.out (by simp [lzsameSyms.l0])
   | succ k1 =>
    have H:=HA.out;clear HA;simp only [lzsameSyms.l0] at H;by_cases c4:x5_1 < (l0.length:Int)
    ·rw [if_pos c4] at H;have c4b0:=decide_eq_true c4;clear c4;by_cases c5:0≤x5_1
     ·rw [if_pos c5] at H;have c5b0:=decide_eq_true c5;clear c5;by_cases c6:x5_1 < (l1.length:Int)
      ·rw [if_pos c6] at H;have c6b0:=decide_eq_true c6;clear c6;by_cases c7:(!((((rd_T61 l0 x5_1).f0).toList) == (((rd_T61 l1 x5_1).f0).toList)) || (!(((rd_T61 l0 x5_1).f1) == ((rd_T61 l1 x5_1).f1)) || (!(((rd_T61 l0 x5_1).f2) == ((rd_T61 l1 x5_1).f2)))))=true
       ·rw [if_pos c7] at H;have c7b0:(!((((rd_T61 l0 x5_1).f0).toList) == (((rd_T61 l1 x5_1).f0).toList)) || (!(((rd_T61 l0 x5_1).f1) == ((rd_T61 l1 x5_1).f1)) || (!(((rd_T61 l0 x5_1).f2) == ((rd_T61 l1 x5_1).f2)))))=true:=c7;clear c7;obtain rfl:=Option.some.inj H;have p219:0≤(x5_1:Int):=of_decide_eq_true asm;have q219:x5_1 < (l0.length:Int):=of_decide_eq_true asm;obtain ⟨ad219,e219,hx219_0,hx219_1,hx219_2⟩:=at_T61 HR0.out x5_1 p219 q219;cases e219;replace p219:=eq_true p219;replace q219:=eq_true q219;have p220:0≤(x5_1:Int):=of_decide_eq_true asm;have q220:x5_1 < (l1.length:Int):=of_decide_eq_true asm;obtain ⟨ad220,e220,hx220_0,hx220_1,hx220_2⟩:=at_T61 HR1.out x5_1 p220 q220;cases e220;replace p220:=eq_true p220;replace q220:=eq_true q220;go_wp2;repeat (go_quiet (fail);try go_wp2)
        go_ret;exact ⟨by first | rfl | (simp;done) | (simp [*];done),by repeat (first | exact Drawn0.refl _ | apply Drawn0.step)⟩
       ·rw [if_neg c7] at H;have c7b0:(!((((rd_T61 l0 x5_1).f0).toList) == (((rd_T61 l1 x5_1).f0).toList)) || (!(((rd_T61 l0 x5_1).f1) == ((rd_T61 l1 x5_1).f1)) || (!(((rd_T61 l0 x5_1).f2) == ((rd_T61 l1 x5_1).f2)))))=false:=by simpa using c7
        clear c7;have H':=Aside0.mk H;clear H;have p219:0≤(x5_1:Int):=of_decide_eq_true asm;have q219:x5_1 < (l0.length:Int):=of_decide_eq_true asm;obtain ⟨ad219,e219,hx219_0,hx219_1,hx219_2⟩:=at_T61 HR0.out x5_1 p219 q219;cases e219;replace p219:=eq_true p219;replace q219:=eq_true q219;have p220:0≤(x5_1:Int):=of_decide_eq_true asm;have q220:x5_1 < (l1.length:Int):=of_decide_eq_true asm;obtain ⟨ad220,e220,hx220_0,hx220_1,hx220_2⟩:=at_T61 HR1.out x5_1 p220 q220;cases e220;replace p220:=eq_true p220;replace q220:=eq_true q220;go_wp2;repeat (go_quiet (fail);try go_wp2)
        go_roundg k1
        case measure=>have:=HK1.out;omega
        case rel=>exact ⟨(wrap64 (x5_1+1)),rsd,H',⟨by have:=HK1.out;omega⟩,by repeat (first | exact Drawn0.refl _ | apply Drawn0.step)⟩
      ·rw [if_neg c6] at H;exact absurd H (by simp)
     ·rw [if_neg c5] at H;exact absurd H (by simp)
    ·rw [if_neg c4] at H;have c4b0:=decide_eq_false c4;clear c4;obtain rfl:=Option.some.inj H;go_wp2;repeat (go_quiet (fail);try go_wp2)
     go_ret;exact ⟨by first | rfl | (simp;done) | (simp [*];done),by repeat (first | exact Drawn0.refl _ | apply Drawn0.step)⟩
 ·rw [if_neg c3] at H;obtain ⟨c3b0,c3b1⟩:=bqf c3;have c3b2:(l0.length == l1.length)=false:=by first | simpa using c3 | (simp at c3 ⊢;omega)
  obtain rfl:=Option.some.inj H;go_enter Tryz.func30,Tryz.ntmps30
  go_wp2;repeat (go_quiet (fail);try go_wp2)
  go_ret;exact ⟨by first | rfl | (simp;done) | (simp [*];done),by repeat (first | exact Drawn0.refl _ | apply Drawn0.step)⟩
end Go.Proofs.YtffojmgmpfjlhaaGreatDoor.Q
namespace Go.Proofs.YtffojmgmpfjlhaaGreatDoor
open Go.RowKit Go.Proofs.Ix YtffojmgmpfjlhaaGreatDoorW.PrintWords
structure L9 where
 s:ByteArray
 at_:Nat
 labels:Bool
 op:Int
 a:Int
 b:Int
 imm:Int
 label:ByteArray
 far:Bool
def L9.cs (l:L9):Array Value:=#[.string l.s,.int .i64 (l.at_:Int),.bool l.labels,.int .i64 l.op,.int .i64 l.a,.int .i64 l.b,.int .i64 l.imm,.string l.label,.bool l.far]
def Ln (w:World) (b:Nat) (l:L9):Prop:=w.heap[b]?=some (.cells l.cs 113 (0,0))
theorem Ln.lt {w:World} {b:Nat} {l:L9} (h:Ln w b l):b < w.heap.size:=(Array.getElem?_eq_some_iff.1 h).1
theorem Ln.c0 {w:World} {b:Nat} {l:L9} (h:Ln w b l):w.cell? ⟨b,0,none⟩=some (.string l.s):=(blk_cell h 0).trans rfl
theorem Ln.c1 {w:World} {b:Nat} {l:L9} (h:Ln w b l):w.cell? ⟨b,1,none⟩=some (.int .i64 (l.at_:Int)):=(blk_cell h 1).trans rfl
theorem Ln.c2 {w:World} {b:Nat} {l:L9} (h:Ln w b l):w.cell? ⟨b,2,none⟩=some (.bool l.labels):=(blk_cell h 2).trans rfl
theorem Ln.c3 {w:World} {b:Nat} {l:L9} (h:Ln w b l):w.cell? ⟨b,3,none⟩=some (.int .i64 l.op):=(blk_cell h 3).trans rfl
theorem Ln.c4 {w:World} {b:Nat} {l:L9} (h:Ln w b l):w.cell? ⟨b,4,none⟩=some (.int .i64 l.a):=(blk_cell h 4).trans rfl
theorem Ln.c5 {w:World} {b:Nat} {l:L9} (h:Ln w b l):w.cell? ⟨b,5,none⟩=some (.int .i64 l.b):=(blk_cell h 5).trans rfl
theorem Ln.c6 {w:World} {b:Nat} {l:L9} (h:Ln w b l):w.cell? ⟨b,6,none⟩=some (.int .i64 l.imm):=(blk_cell h 6).trans rfl
theorem Ln.c7 {w:World} {b:Nat} {l:L9} (h:Ln w b l):w.cell? ⟨b,7,none⟩=some (.string l.label):=(blk_cell h 7).trans rfl
theorem Ln.c8 {w:World} {b:Nat} {l:L9} (h:Ln w b l):w.cell? ⟨b,8,none⟩=some (.bool l.far):=(blk_cell h 8).trans rfl
theorem Ln.fz {w:World} {b:Nat} {l:L9} (h:Ln w b l) (i:Nat):w.frozen? ⟨b,i,none⟩=false:=blk_frozen h i
theorem Ln.put {w:World} {b:Nat} {l:L9} (h:Ln w b l) (l':L9) (i:Nat) (u:Value) (e:l.cs.setIfInBounds i u=l'.cs):Ln (w.setCell ⟨b,i,none⟩ u) b l':=blk_put h i u e
theorem Ln.heap {w w':World} {b:Nat} {l:L9} (h:Ln w b l) (e:w'.heap=w.heap):Ln w' b l:=by unfold Ln;rw [e];exact h
theorem Ln.below {w w':World} {b B:Nat} {l:L9} (h:Ln w b l) (hb:Below B w w') (hB:b < B):Ln w' b l:=(hb.block b hB).trans h
structure Aft (b:Nat) (w w':World):Prop where
 os:w'.os=w.os
 tape:w'.tape=w.tape
 output:w'.output=w.output
 size:w.heap.size≤w'.heap.size
 block:∀ k,k < w.heap.size→k≠b→w'.heap[k]?=w.heap[k]?
theorem Aft.refl (b:Nat) (w:World):Aft b w w:=⟨rfl,rfl,rfl,Nat.le_refl _,fun _ _ _=>rfl⟩
theorem Aft.trans {b:Nat} {w w1 w2:World} (h:Aft b w w1) (h':Aft b w1 w2):Aft b w w2 :=
 ⟨h'.os.trans h.os,h'.tape.trans h.tape,h'.output.trans h.output,Nat.le_trans h.size h'.size,fun k hk hb=>(h'.block k (Nat.lt_of_lt_of_le hk h.size) hb).trans (h.block k hk hb)⟩
theorem Aft.drewN {b:Nat} {w w1:World} (h:Aft b w w1) (n:Nat):Aft b w (w1.drewN n):=⟨h.os,h.tape,h.output,h.size,h.block⟩
theorem Aft.drew {b:Nat} {w w1:World} (h:Aft b w w1):Aft b w w1.drew:=⟨h.os,h.tape,h.output,h.size,h.block⟩
theorem Aft.below {b:Nat} {w w1 w2:World} (h:Aft b w w1) (h':Below w1.heap.size w1 w2):Aft b w w2 :=
 h.trans ⟨h'.os,h'.tape,h'.output,h'.size,fun k hk _=>h'.block k hk⟩
theorem Aft.set {b:Nat} {w w1:World} (h:Aft b w w1) (i:Nat) (v:Value):Aft b w (w1.setCell ⟨b,i,none⟩ v) :=
 ⟨h.os,h.tape,h.output,by simpa [World.setCell] using h.size,fun k hk hb=>(Below.heap_setCell w1 ⟨b,i,none⟩ v k (by exact hb)).trans (h.block k hk hb)⟩
theorem Aft.gw {b:Nat} {w w':World} (h:Aft b w w') (hg:GW w) (hb:9≤b):GW w':=hg.of_low fun k hk=>h.block k (by have:=hg.size;omega) (by omega)
theorem Aft.toBelow {b B:Nat} {w w':World} (h:Aft b w w') (hB:B≤b) (hw:B≤w.heap.size):Below B w w':=⟨h.os,h.tape,h.output,h.size,fun k hk=>h.block k (by omega) (by omega)⟩
def thrown (e:Int):List PanicEntry:=[{ v:=.iface 155 (.agg #[.int .i64 e]),recovered:=false }]
abbrev pt (b:Nat):Value:=.pointer (some ⟨b,0,none⟩)
theorem fail_any (b:Nat) (w:World):Calls Tryz.prog 127 #[pt b] w fun x w'=>x=.panicked (thrown 22)∧w=w':=by
 go_enter Tryz.func127,Tryz.ntmps127
 go_wp2
 exact ⟨rfl,rfl,rfl⟩
theorem need_t (b:Nat) (w:World):Calls Tryz.prog 101 #[pt b,.bool true] w fun x w'=>x=.returned (.tuple #[])∧w=w':=by
 go_enter Tryz.func101,Tryz.ntmps101
 go_wp2
 exact ⟨rfl,.tuple #[],results_none rfl _ _ _,rfl,rfl⟩
theorem need_f (b:Nat) (w:World):Calls Tryz.prog 101 #[pt b,.bool false] w fun x w'=>x=.panicked (thrown 22)∧w=w':=by
 go_enter Tryz.func101,Tryz.ntmps101
 go_wp2_with (go_at_call 127;refine (fail_any b _).mono ?_;rintro e w' ⟨rfl,rfl⟩)
 exact ⟨rfl,rfl,rfl⟩
def L9.peek (l:L9):Nat:=if h:l.at_ < l.s.size then l.s[l.at_].toNat else 0
structure Qt (w w':World):Prop where
 heap:w'.heap=w.heap
 os:w'.os=w.os
 tape:w'.tape=w.tape
 output:w'.output=w.output
theorem Qt.aft {w w':World} (h:Qt w w') (b:Nat):Aft b w w':=⟨h.os,h.tape,h.output,by rw [h.heap];exact Nat.le_refl _,fun k _ _=>by rw [h.heap]⟩
theorem drewN_two (w:World) (a b:Nat):(w.drewN a).drewN b=w.drewN (a+b):=by simp [World.drewN,Nat.add_assoc]
theorem peek_any (b:Nat) (l:L9) (w:World) (h:Ln w b l) (hs:l.s.size≤1000000) :
  Calls Tryz.prog 124 #[pt b] w fun x w'=>x=.returned (.int .u8 (l.peek:Nat))∧∃ n,w'=w.drewN n:=by
 have h0:=h.c0
 have h1:=h.c1
 go_enter Tryz.func124,Tryz.ntmps124
 by_cases hlt:l.at_ < l.s.size
 ·have hp:l.peek=l.s[l.at_].toNat:=dif_pos hlt
  rw [hp]
  go_wp2
  go_quiet (fail)
  go_wp2
  go_quiet (fail)
  go_wp2
  go_ret
  exact ⟨rfl,_,drewN_two _ _ _⟩
 ·have hp:l.peek=0:=dif_neg hlt
  rw [hp]
  go_wp2
  go_quiet (fail)
  go_wp2
  go_ret
  exact ⟨rfl,_,rfl⟩
theorem peek_as (b:Nat) (l:L9) (c:Nat) (w:World) (h:Ln w b l) (hs:l.s.size≤1000000) (hc:l.peek=c) :
  Calls Tryz.prog 124 #[pt b] w fun x w'=>x=.returned (.int .u8 (c:Int))∧∃ n,w'=w.drewN n:=by
 subst hc
 exact peek_any b l w h hs
def L9.hit (l:L9) (c:Nat):Bool:=decide (l.at_ < l.s.size) && l.peek == c
theorem L9.hit_eq (l:L9) (c:Nat) (hc:c≠0):l.hit c=(l.peek == c):=by
 unfold L9.hit L9.peek
 by_cases h:l.at_ < l.s.size
 ·simp [h]
 ·simp [h,Ne.symm hc]
def L9.next (l:L9):L9:={ l with at_:=l.at_+1 }
theorem take_any (b:Nat) (c:Nat) (l:L9) (w:World) (h:Ln w b l) (hs:l.s.size≤1000000) :
  Calls Tryz.prog 103 #[pt b,.int .u8 (c:Int)] w fun x w'=>x=.returned (.bool (l.hit c))∧Ln w' b (if l.hit c then l.next else l)∧Aft b w w':=by
 have h0:=h.c0
 have h1:=h.c1
 have f1:=h.fz 1
 go_enter Tryz.func103,Tryz.ntmps103
 by_cases hlt:l.at_ < l.s.size
 ·have hp:l.peek=l.s[l.at_].toNat:=dif_pos hlt
  by_cases hc:l.s[l.at_].toNat=c
  ·have hh:l.hit c=true:=by unfold L9.hit;simp [hlt,hp,hc]
   rw [hh,if_pos rfl]
   subst hc
   go_wp2
   go_quiet (fail)
   go_wp2
   go_ret
   exact ⟨rfl,h.put _ 1 _ rfl,((Aft.refl b w).drewN _).set 1 _⟩
  ·have hh:l.hit c=false:=by unfold L9.hit;simp [hlt,hp,hc]
   rw [hh,if_neg (by decide)]
   have hc':¬ ((l.s[l.at_].toNat:Int)=(c:Int)):=by omega
   go_wp2
   go_quiet (fail)
   go_wp2
   go_ret
   exact ⟨rfl,h,(Aft.refl b w).drewN _⟩
 ·have hh:l.hit c=false:=by unfold L9.hit;simp [hlt]
  rw [hh,if_neg (by decide)]
  go_wp2
  go_quiet (fail)
  go_wp2
  go_ret
  exact ⟨rfl,h,(Aft.refl b w).drewN _⟩
def digI (c:Int):Bool:=decide (48≤c) && decide (c≤57)
def ltrI (c:Int):Bool:=(decide (97≤c) && decide (c≤122)) || (decide (65≤c) && decide (c≤90)) || decide (c=95)
def wdI (c:Int):Bool:=ltrI c || digI c
theorem isDigit_any (c:Int) (w:World):Calls Tryz.prog 126 #[.int .u8 c] w fun e w'=>e=.returned (.bool (digI c))∧w=w':=by
 go_enter Tryz.func126,Tryz.ntmps126
 by_cases h1:48≤c
 ·by_cases h2:c≤57
  ·have hd:digI c=true:=by simp [digI,h1,h2]
   rw [hd]
   go_wp2
   go_ret
   exact ⟨rfl,rfl⟩
  ·have hd:digI c=false:=by simp [digI,h2]
   rw [hd]
   go_wp2
   go_ret
   exact ⟨rfl,rfl⟩
 ·have hd:digI c=false:=by simp [digI,h1]
  rw [hd]
  go_wp2
  go_ret
  exact ⟨rfl,rfl⟩
theorem isLetter_any (c:Int) (w:World):Calls Tryz.prog 125 #[.int .u8 c] w fun e w'=>e=.returned (.bool (ltrI c))∧w=w':=by
 go_enter Tryz.func125,Tryz.ntmps125
 by_cases h1:97≤c
 ·by_cases h2:c≤122
  ·have hd:ltrI c=true:=by simp [ltrI,h1,h2]
   rw [hd]
   go_wp2
   go_ret
   exact ⟨rfl,rfl⟩
  ·have h3:65≤c:=by omega
   have h4:¬ c≤90:=by omega
   have h5:¬ c=95:=by omega
   have hd:ltrI c=false:=by simp [ltrI,h2,h4,h5]
   rw [hd]
   go_wp2
   go_ret
   exact ⟨ret_bool (beq_eq_false_iff_ne.2 h5),rfl⟩
 ·by_cases h3:65≤c
  ·by_cases h4:c≤90
   ·have hd:ltrI c=true:=by simp [ltrI,h3,h4]
    rw [hd]
    go_wp2
    go_ret
    exact ⟨rfl,rfl⟩
   ·by_cases h5:c=95
    ·subst h5
     go_wp2
     go_ret
     exact ⟨rfl,rfl⟩
    ·have hd:ltrI c=false:=by simp [ltrI,h1,h4,h5]
     rw [hd]
     go_wp2
     go_ret
     exact ⟨ret_bool (beq_eq_false_iff_ne.2 h5),rfl⟩
  ·have h5:¬ c=95:=by omega
   have hd:ltrI c=false:=by simp [ltrI,h1,h3,h5]
   rw [hd]
   go_wp2
   go_ret
   exact ⟨ret_bool (beq_eq_false_iff_ne.2 h5),rfl⟩
theorem isWord_any (c:Int) (w:World):Calls Tryz.prog 100 #[.int .u8 c] w fun e w'=>e=.returned (.bool (wdI c))∧w=w':=by
 go_enter Tryz.func100,Tryz.ntmps100
 cases h1:ltrI c with
 | true =>
  have hd:wdI c=true:=by simp [wdI,h1]
  rw [hd]
  go_wp2_with (go_at_call 125;refine (isLetter_any c _).mono ?_;rintro e w' ⟨rfl,rfl⟩;rw [h1])
  go_ret
  exact ⟨rfl,rfl⟩
 | false =>
  have hd:wdI c=digI c:=by simp [wdI,h1]
  rw [hd]
  go_wp2_with (first | (go_at_call 125;refine (isLetter_any c _).mono ?_;rintro e w' ⟨rfl,rfl⟩;rw [h1]) | (go_at_call 126;refine (isDigit_any c _).mono ?_;rintro e w' ⟨rfl,rfl⟩))
  go_ret
  exact ⟨rfl,rfl⟩
theorem u8_all (p:UInt8→Prop) [DecidablePred p] (h:∀ i:Fin 256,p (UInt8.ofNat i.1)) (c:UInt8):p c:=by
 have:=h ⟨c.toNat,c.toNat_lt⟩
 simpa using this
theorem digI_eq:∀ c:UInt8,digI (c.toNat:Int)=isDig c:=u8_all _ (by decide +kernel)
theorem ltrI_eq:∀ c:UInt8,ltrI (c.toNat:Int)=isLet c:=u8_all _ (by decide +kernel)
theorem wdI_eq:∀ c:UInt8,wdI (c.toNat:Int)=isWd c:=u8_all _ (by decide +kernel)
theorem isBl_eq:∀ c:UInt8,isBl c=(decide (c.toNat=32) || decide (c.toNat=9)):=u8_all _ (by decide +kernel)
def runEnd (p:UInt8→Bool) (l:List UInt8) (i:Nat):Nat:=i+((l.drop i).takeWhile p).length
theorem runEnd_le (p:UInt8→Bool) (l:List UInt8) (i:Nat) (h:i≤l.length):i≤runEnd p l i∧runEnd p l i≤l.length:=by
 unfold runEnd
 have:=List.takeWhile_prefix p (l:=l.drop i)
 have:=this.length_le
 simp at this
 omega
theorem runEnd_in (p:UInt8→Bool) (l:List UInt8) (i:Nat) (h:i < l.length) (hp:p l[i]=true):runEnd p l i=runEnd p l (i+1):=by
 unfold runEnd
 rw [List.drop_eq_getElem_cons h,List.takeWhile_cons,if_pos hp]
 simp;omega
theorem runEnd_out (p:UInt8→Bool) (l:List UInt8) (i:Nat) (h:i < l.length) (hp:p l[i]=false):runEnd p l i=i:=by
 unfold runEnd
 rw [List.drop_eq_getElem_cons h,List.takeWhile_cons,if_neg (by simp [hp])]
 simp
theorem runEnd_end (p:UInt8→Bool) (l:List UInt8) (i:Nat) (h:l.length≤i):runEnd p l i=i:=by
 unfold runEnd
 rw [List.drop_eq_nil_of_le h]
 simp
def runB (p:UInt8→Bool) (s:ByteArray) (a:Nat):Nat:=runEnd p s.data.toList a
theorem runB_le (p:UInt8→Bool) (s:ByteArray) (a:Nat) (h:a≤s.size):a≤runB p s a∧runB p s a≤s.size:=by
 have:=runEnd_le p s.data.toList a (by simpa using h)
 simpa [runB] using this
theorem runB_in (p:UInt8→Bool) (s:ByteArray) (a:Nat) (h:a < s.size) (hp:p s[a]=true):runB p s a=runB p s (a+1):=runEnd_in _ _ _ (by simpa using h) hp
theorem runB_out (p:UInt8→Bool) (s:ByteArray) (a:Nat) (h:a < s.size) (hp:p s[a]=false):runB p s a=a:=runEnd_out _ _ _ (by simpa using h) hp
theorem runB_end (p:UInt8→Bool) (s:ByteArray) (a:Nat) (h:s.size≤a):runB p s a=a:=runEnd_end _ _ _ (by simpa using h)
def L9.go (l:L9) (e:Nat):L9:={ l with at_:=e }
theorem peek_in (l:L9) (c:Nat) (hc:c≠0) (h:l.peek=c):∃ hlt:l.at_ < l.s.size,l.s[l.at_].toNat=c:=by
 unfold L9.peek at h
 split at h
 ·exact ⟨by assumption,h⟩
 ·exact absurd h.symm hc
theorem skip_step (l:L9) (h:l.peek=32∨l.peek=9):l.at_ < l.s.size∧runB isBl l.s l.at_=runB isBl l.s (l.at_+1):=by
 rcases h with h | h
 ·obtain ⟨hlt,h⟩:=peek_in l 32 (by decide) h
  exact ⟨hlt,runB_in _ _ _ hlt (by rw [isBl_eq,h];rfl)⟩
 ·obtain ⟨hlt,h⟩:=peek_in l 9 (by decide) h
  exact ⟨hlt,runB_in _ _ _ hlt (by rw [isBl_eq,h];rfl)⟩
theorem skip_stop (l:L9) (h1:l.peek≠32) (h2:l.peek≠9):runB isBl l.s l.at_=l.at_:=by
 unfold L9.peek at h1 h2
 by_cases hlt:l.at_ < l.s.size
 ·rw [dif_pos hlt] at h1 h2
  exact runB_out _ _ _ hlt (by rw [isBl_eq];simp [h1,h2])
 ·exact runB_end _ _ _ (by omega)
theorem blanks_any (b:Nat) (l:L9) (w:World) (h:Ln w b l) (hle:l.at_≤l.s.size) (hs:l.s.size≤1000000) :
  Calls Tryz.prog 97 #[pt b] w fun x w'=>x=.returned (.bool (decide (l.at_ < runB isBl l.s l.at_)))∧Ln w' b (l.go (runB isBl l.s l.at_))∧Aft b w w':=by
 have h1:=h.c1
 have f1:=h.fz 1
 obtain ⟨q1,q2⟩:=runB_le isBl l.s l.at_ hle
 go_enter Tryz.func97,Tryz.ntmps97
 go_upto_region 2 with fail
 go_loopg [] (l.s.size - l.at_) (fun n wr=>∃ e:Nat,e≤l.s.size∧n=l.s.size - e∧Hid (runB isBl l.s l.at_=runB isBl l.s e)∧Ln wr b (l.go e)∧Aft b w wr)
 case atStart=>exact ⟨l.at_,hle,rfl,Lib.hid rfl,h,Aft.refl b w⟩
 case round =>
  obtain ⟨e,he,rfl,HE,hl,ha⟩:=hrel
  have g1:wr.cell? ⟨b,1,none⟩=some (.int .i64 (e:Int)):=hl.c1
  have gf:=hl.fz 1
  by_cases h32:(l.go e).peek=32
  ·obtain ⟨k1,k2⟩:=skip_step (l.go e) (Or.inl h32)
   have k1':e < l.s.size:=k1
   have K2:=Lib.hid k2
   clear k2
   go_wp2_with (go_at_call 124;refine (peek_as b (l.go e) 32 _ (by exact hl) hs h32).mono ?_;rintro e1 w1 ⟨rfl,n1,rfl⟩)
   go_roundg (l.s.size - (e+1))
   case rel=>exact ⟨e+1,by omega,rfl,Lib.hid (HE.out.trans K2.out),hl.put (l.go (e+1)) 1 _ rfl,(ha.drewN _).set 1 _⟩
   case measure=>omega
  ·by_cases h9:(l.go e).peek=9
   ·obtain ⟨k1,k2⟩:=skip_step (l.go e) (Or.inr h9)
    have k1':e < l.s.size:=k1
    have K2:=Lib.hid k2
    clear k2
    go_wp2_with (go_at_call 124;refine (peek_as b (l.go e) 9 _ (by exact hl) hs h9).mono ?_;rintro e1 w1 ⟨rfl,n1,rfl⟩)
    go_roundg (l.s.size - (e+1))
    case rel=>exact ⟨e+1,by omega,rfl,Lib.hid (HE.out.trans K2.out),hl.put (l.go (e+1)) 1 _ rfl,(ha.drewN _).set 1 _⟩
    case measure=>omega
   ·have k2:=skip_stop (l.go e) h32 h9
    have HK:=Lib.hid (HE.out.trans k2)
    obtain ⟨c,hc⟩:∃ c,c=(l.go e).peek:=⟨_,rfl⟩
    have c1:((c:Int) == 32)=false:=beq_eq_false_iff_ne.2 (by omega)
    have c2:((c:Int) == 9)=false:=beq_eq_false_iff_ne.2 (by omega)
    have HC:=Lib.hid hc
    clear k2 h32 h9 hc
    rw [show (l.go e).at_=e from rfl] at HK
    go_wp2_with (go_at_call 124;refine (peek_as b (l.go e) c _ (by exact hl) hs HC.out.symm).mono ?_;rintro e1 w1 ⟨rfl,n1,rfl⟩)
    go_ret
    exact ⟨ret_bool (by rw [HK.out]),by rw [HK.out];exact hl,ha.drewN _⟩
structure Cls (g:Nat) (p:UInt8→Bool):Prop where
 enter:∀ args w,(callFunc g args).run Tryz.prog w=.ok (.enter g args) w
 calls:∀ (c:UInt8) (w:World),Calls Tryz.prog g #[.int .u8 (c.toNat:Int)] w fun e w'=>e=.returned (.bool (p c))∧w=w'
theorem cls_digit:Cls 126 isDig:=⟨enters_of Tryz.func126 (by kernel_rfl) rfl,fun c w=>(isDigit_any _ w).mono fun e w' ⟨h1,h2⟩=>⟨h1.trans (by rw [digI_eq]),h2⟩⟩
theorem cls_word:Cls 100 isWd:=⟨enters_of Tryz.func100 (by kernel_rfl) rfl,fun c w=>(isWord_any _ w).mono fun e w' ⟨h1,h2⟩=>⟨h1.trans (by rw [wdI_eq]),h2⟩⟩
theorem while_any (g:Nat) (p:UInt8→Bool) (hg:Cls g p) (b:Nat) (l:L9) (w:World) (h:Ln w b l) (hle:l.at_≤l.s.size) (hs:l.s.size≤1000000) :
  Calls Tryz.prog 99 #[pt b,.func (.func g) #[] #[]] w fun x w'=>x=.returned (.string (l.s.extract l.at_ (runB p l.s l.at_)))∧Ln w' b (l.go (runB p l.s l.at_))∧Aft b w w':=by
 have h1:=h.c1
 have f1:=h.fz 1
 have eg:=hg.enter
 obtain ⟨q1,q2⟩:=runB_le p l.s l.at_ hle
 go_enter Tryz.func99,Tryz.ntmps99
 go_upto_region 2 with fail
 go_loopg [] (l.s.size - l.at_) (fun n wr=>∃ e:Nat,l.at_≤e∧e≤l.s.size∧n=l.s.size - e∧Hid (runB p l.s l.at_=runB p l.s e)∧Ln wr b (l.go e)∧Aft b w wr)
 case atStart=>exact ⟨l.at_,Nat.le_refl _,hle,rfl,Lib.hid rfl,h,Aft.refl b w⟩
 case round =>
  obtain ⟨e,hae,he,rfl,HE,hl,ha⟩:=hrel
  have g0:wr.cell? ⟨b,0,none⟩=some (.string l.s):=hl.c0
  have g1:wr.cell? ⟨b,1,none⟩=some (.int .i64 (e:Int)):=hl.c1
  have gf:=hl.fz 1
  by_cases hlt:e < l.s.size
  ·cases hp:p l.s[e] with
   | true =>
    have HK:=Lib.hid (HE.out.trans (runB_in p l.s e hlt hp))
    have HQ:∀ n,Calls Tryz.prog g #[.int .u8 (l.s[e].toNat:Int)] (wr.drewN n) fun e1 w''=>e1=.returned (.bool true)∧∃ m,w''=wr.drewN m:=fun n =>
     Calls.quiet_of_same ((hg.calls _ _).mono fun e w' hh=>⟨hh.1.trans (ret_bool hp),hh.2.symm⟩)
    clear hp
    go_wp2
    go_quiet ((go_at_fn g;exact HQ _))
    go_wp2
    go_roundg (l.s.size - (e+1))
    case rel=>exact ⟨e+1,by omega,by omega,rfl,Lib.hid HK.out,hl.put (l.go (e+1)) 1 _ rfl,(ha.drewN _).set 1 _⟩
    case measure=>omega
   | false =>
    have HK:=Lib.hid (HE.out.trans (runB_out p l.s e hlt hp))
    have HQ:∀ n,Calls Tryz.prog g #[.int .u8 (l.s[e].toNat:Int)] (wr.drewN n) fun e1 w''=>e1=.returned (.bool false)∧∃ m,w''=wr.drewN m:=fun n =>
     Calls.quiet_of_same ((hg.calls _ _).mono fun e w' hh=>⟨hh.1.trans (ret_bool hp),hh.2.symm⟩)
    clear hp
    go_wp2
    go_quiet ((go_at_fn g;exact HQ _))
    go_wp2
    go_quiet (fail)
    go_wp2
    go_ret
    exact ⟨ret_str (by rw [HK.out]),by rw [HK.out];exact hl,(ha.drewN _).drewN _⟩
  ·have HK:=Lib.hid (HE.out.trans (runB_end p l.s e (by omega)))
   go_wp2
   go_quiet (fail)
   go_wp2
   go_quiet (fail)
   go_wp2
   go_ret
   exact ⟨ret_str (by rw [HK.out]),by rw [HK.out];exact hl,(ha.drewN _).drewN _⟩
def pN (x:Nat):Bool:=decide (127 < x) || !wdI (x:Int)
theorem isWd_low:∀ c:UInt8,isWd c=true→c.toNat < 128:=u8_all _ (by decide +kernel)
theorem idx_from (s:ByteArray):∀ f pos,s.size - pos≤f→(Lib.idxFuncFrom pN true s f pos=-1↔∀ j (h:j < s.size),pos≤j→isWd s[j]=true)
 | 0,pos,h=>by
  rw [Lib.idxFuncFrom_end _ _ _ _ _ (by omega)]
  exact ⟨fun _ j hj hp=>by omega,fun _=>rfl⟩
 | f+1,pos,h=>by
  unfold Lib.idxFuncFrom
  by_cases hlt:pos < s.size
  ·rw [if_pos hlt]
   by_cases hb:s[pos].toNat < 128
   ·rw [decode_ascii s pos hlt hb]
    have hp:pN s[pos].toNat=!isWd s[pos]:=by
     unfold pN
     rw [wdI_eq]
     simp;omega
    simp only [hp]
    cases hw:isWd s[pos] with
    | true =>
     rw [if_neg (by simp),idx_from s f (pos+1) (by omega)]
     constructor
     ·intro hh j hj hpj
      rcases Nat.lt_or_ge pos j with hlt' | hge
      ·exact hh j hj hlt'
      ·obtain rfl:pos=j:=by omega
       exact hw
     ·exact fun hh j hj hpj=>hh j hj (by omega)
    | false =>
     rw [if_pos (by simp)]
     constructor
     ·intro hh;omega
     ·intro hh
      have:=hh pos hlt (Nat.le_refl _)
      rw [hw] at this
      cases this
   ·have hd:=(decode_high s pos hlt (by omega)).1
    have hp:pN (Utf8.decode s pos).1=true:=by
     unfold pN
     simp;omega
    rw [if_pos hp]
    constructor
    ·intro hh;omega
    ·intro hh
     have:=isWd_low _ (hh pos hlt (Nat.le_refl _))
     omega
  ·rw [if_neg hlt]
   exact ⟨fun _ j hj hp=>by omega,fun _=>rfl⟩
theorem idx_name (s:ByteArray):decide (Lib.idxFunc pN true s < 0)=s.data.toList.all isWd:=by
 have h:=idx_from s s.size 0 (by omega)
 have hr:=Lib.idxFunc_range pN true s
 rw [Bool.eq_iff_iff,decide_eq_true_eq,List.all_eq_true]
 unfold Lib.idxFunc at hr ⊢
 constructor
 ·intro hlt x hx
  obtain ⟨j,hj,rfl⟩:=List.mem_iff_getElem.1 hx
  exact h.1 (by omega) j (by simpa using hj) (Nat.zero_le _)
 ·intro hh
  have:=h.2 fun j hj _=>hh _ (Array.mem_toList_iff.2 (Array.getElem_mem (xs:=s.data) hj))
  omega
theorem isName1_any (x:Nat) (w:World):Calls Tryz.prog 144 #[.int .i32 (x:Int)] w fun e w'=>e=.returned (.bool (pN x))∧w=w':=by
 go_enter Tryz.func144,Tryz.ntmps144
 by_cases h1:127 < x
 ·have hp:pN x=true:=by simp [pN,h1]
  rw [hp]
  go_wp2
  go_ret
  exact ⟨rfl,rfl⟩
 ·have hp:pN x=!wdI (x:Int):=by simp [pN,h1]
  rw [hp]
  have hc:((x:Int) % 256)=(x:Int):=by omega
  go_wp2_with (go_at_call 100;refine (isWord_any _ _).mono ?_;rintro e w' ⟨rfl,rfl⟩)
  go_ret
  exact ⟨ret_bool (by rw [show decide (127 < (x:Int))=false from decide_eq_false (by omega)];rfl),rfl⟩
theorem isName1_grows (w:World):PredGrows Tryz.prog 144 #[] pN w:=fun W x hx hb =>
 (isName1_any x W).mono fun e w' ⟨h1,h2⟩=>⟨h1,h2 ▸ Below.refl _ _⟩
def nameB (s:ByteArray):Bool:=isNameM s.data.toList
theorem nameB_eq (s:ByteArray):nameB s=(if h:0 < s.size then decide (s.size≤31) && isLet s[0] && decide (Lib.idxFunc pN true s < 0) else false):=by
 rw [idx_name]
 obtain ⟨⟨l⟩⟩:=s
 unfold nameB isNameM
 cases l with
 | nil=>rfl
 | cons c t=>rfl
theorem not_emp {s:ByteArray} (h:0 < s.size):s.toList.isEmpty=false:=by
 rw [ByteArray.toList_eq]
 cases hl:s.data.toList with
 | nil=>rw [Lib.size_eq,hl] at h;cases h
 | cons c t=>rfl
theorem isName_any (s:ByteArray) (w:World) (hs:s.size≤1000000):Calls Tryz.prog 118 #[.string s] w fun e w'=>e=.returned (.bool (nameB s))∧Below w.heap.size w w':=by
 have e144:∀ args w,(callFunc 144 args).run Tryz.prog w=.ok (.enter 144 args) w:=enters_of Tryz.func144 (by kernel_rfl) rfl
 rw [nameB_eq]
 go_enter Tryz.func118,Tryz.ntmps118
 by_cases h0:0 < s.size
 ·rw [dif_pos h0]
  have hne:=not_emp h0
  by_cases h1:s.size≤31
  ·have hd1:decide (s.size≤31)=true:=decide_eq_true h1
   rw [hd1]
   cases hl:isLet s[0] with
   | true =>
    have hL:=(ltrI_eq s[0]).trans hl
    have HL:=Lib.hid hL
    clear hL hl
    go_wp2_with (first | (go_at_call 125;refine (isLetter_any _ _).mono ?_;rw [HL.out];rintro e w' ⟨rfl,rfl⟩) | (go_at_call 143;refine (Tryz.strings_IndexFunc_grows 144 #[] e144 pN s _ (isName1_grows _)).mono ?_;rintro e w' ⟨rfl,hb⟩))
    go_ret
    exact ⟨rfl,by assumption⟩
   | false =>
    have hL:=(ltrI_eq s[0]).trans hl
    have HL:=Lib.hid hL
    clear hL hl
    go_wp2_with (first | (go_at_call 125;refine (isLetter_any _ _).mono ?_;rw [HL.out];rintro e w' ⟨rfl,rfl⟩))
    go_ret
    exact ⟨rfl,Below.refl _ _⟩
  ·have hd1:decide (s.size≤31)=false:=decide_eq_false h1
   rw [hd1]
   go_wp2
   go_ret
   exact ⟨rfl,Below.refl _ _⟩
 ·rw [dif_neg h0]
  obtain rfl:s=⟨#[]⟩:=by
   obtain ⟨⟨l⟩⟩:=s
   cases l with
   | nil=>rfl
   | cons c t=>exact absurd (show 0 < (⟨⟨c :: t⟩⟩:ByteArray).size from Nat.succ_pos _) h0
  go_wp2
  go_ret
  exact ⟨rfl,Below.refl _ _⟩
structure At (b:Nat) (w0 w:World) (l:L9):Prop where
 ln:Ln w b l
 aft:Aft b w0 w
 gw:GW w
 b9:9≤b
 sz:l.s.size≤1000000
 le:l.at_≤l.s.size
theorem At.step {b:Nat} {w0 w w':World} {l l':L9} (h:At b w0 w l) (hl:Ln w' b l') (ha:Aft b w w') (hs:l'.s.size≤1000000) (hle:l'.at_≤l'.s.size):At b w0 w' l' :=
 ⟨hl,h.aft.trans ha,ha.gw h.gw h.b9,h.b9,hs,hle⟩
theorem At.drewN {b:Nat} {w0 w:World} {l:L9} (h:At b w0 w l) (n:Nat):At b w0 (w.drewN n) l:=h.step h.ln ((Aft.refl b w).drewN n) h.sz h.le
theorem At.drew {b:Nat} {w0 w:World} {l:L9} (h:At b w0 w l):At b w0 w.drew l:=h.step h.ln (Aft.refl b w).drew h.sz h.le
theorem At.below {b:Nat} {w0 w w':World} {l:L9} (h:At b w0 w l) (hb:Below w.heap.size w w'):At b w0 w' l:=h.step (h.ln.below hb h.ln.lt) ((Aft.refl b w).below hb) h.sz h.le
theorem At.put {b:Nat} {w0 w:World} {l:L9} (h:At b w0 w l) (l':L9) (i:Nat) (u:Value) (e:l.cs.setIfInBounds i u=l'.cs) (hs:l'.s.size≤1000000) (hle:l'.at_≤l'.s.size):At b w0 (w.setCell ⟨b,i,none⟩ u) l' :=
 h.step (h.ln.put l' i u e) ((Aft.refl b w).set i u) hs hle
section
variable {b:Nat} {w0 w:World} {l:L9}
theorem peek_k (ha:At b w0 w l) (c:Nat) (hc:l.peek=c):Calls Tryz.prog 124 #[pt b] w fun x w'=>x=.returned (.int .u8 (c:Int))∧At b w0 w' l :=
 (peek_as b l c w ha.ln ha.sz hc).mono fun x w' ⟨h1,n,h2⟩=>⟨h1,h2 ▸ ha.drewN n⟩
theorem need_tk (ha:At b w0 w l):Calls Tryz.prog 101 #[pt b,.bool true] w fun x w'=>x=.returned (.tuple #[])∧At b w0 w' l :=
 (need_t b w).mono fun x w' ⟨h1,h2⟩=>⟨h1,h2 ▸ ha⟩
theorem need_fk (ha:At b w0 w l):Calls Tryz.prog 101 #[pt b,.bool false] w fun x w'=>x=.panicked (thrown 22)∧Aft b w0 w' :=
 (need_f b w).mono fun x w' ⟨h1,h2⟩=>⟨h1,h2 ▸ ha.aft⟩
theorem hit_lt {c:Nat} (h:l.hit c=true):l.at_ < l.s.size:=by unfold L9.hit at h;simp at h;exact h.1
theorem take_tk (ha:At b w0 w l) (c:Nat) (hh:l.hit c=true):Calls Tryz.prog 103 #[pt b,.int .u8 (c:Int)] w fun x w'=>x=.returned (.bool true)∧At b w0 w' l.next :=
 (take_any b c l w ha.ln ha.sz).mono fun x w' ⟨h1,h2,h3⟩=>by
  rw [hh] at h1
  rw [if_pos hh] at h2
  exact ⟨h1,ha.step h2 h3 ha.sz (hit_lt hh)⟩
theorem take_fk (ha:At b w0 w l) (c:Nat) (hh:l.hit c=false):Calls Tryz.prog 103 #[pt b,.int .u8 (c:Int)] w fun x w'=>x=.returned (.bool false)∧At b w0 w' l :=
 (take_any b c l w ha.ln ha.sz).mono fun x w' ⟨h1,h2,h3⟩=>by
  rw [hh] at h1
  rw [if_neg (by rw [hh];decide)] at h2
  exact ⟨h1,ha.step h2 h3 ha.sz ha.le⟩
def NeedP (b:Nat) (w0:World) (l:L9) (v:Bool) (x:Ending) (w':World):Prop :=
 match v with
 | true=>x=.returned (.tuple #[])∧At b w0 w' l
 | false=>x=.panicked (thrown 22)∧Aft b w0 w'
theorem need_k (ha:At b w0 w l) (v:Bool):Calls Tryz.prog 101 #[pt b,.bool v] w (NeedP b w0 l v):=by
 cases v
 ·exact need_fk ha
 ·exact need_tk ha
def L9.tk (l:L9) (v:Bool):L9:=match v with | true=>l.next | false=>l
theorem take_k (ha:At b w0 w l) (c:Nat) (v:Bool) (hh:l.hit c=v):Calls Tryz.prog 103 #[pt b,.int .u8 (c:Int)] w fun x w'=>x=.returned (.bool v)∧At b w0 w' (l.tk v):=by
 cases v
 ·exact take_fk ha c hh
 ·exact take_tk ha c hh
def L9.sk (l:L9):L9:=l.go (runB isBl l.s l.at_)
def L9.sp (l:L9):Bool:=decide (l.at_ < runB isBl l.s l.at_)
theorem blanks_k (ha:At b w0 w l):Calls Tryz.prog 97 #[pt b] w fun x w'=>x=.returned (.bool l.sp)∧At b w0 w' l.sk :=
 (blanks_any b l w ha.ln ha.le ha.sz).mono fun x w' ⟨h1,h2,h3⟩=>⟨h1,ha.step h2 h3 ha.sz (runB_le _ _ _ ha.le).2⟩
theorem while_k (ha:At b w0 w l) (g:Nat) (p:UInt8→Bool) (hg:Cls g p):Calls Tryz.prog 99 #[pt b,.func (.func g) #[] #[]] w fun x w'=>x=.returned (.string (l.s.extract l.at_ (runB p l.s l.at_)))∧At b w0 w' (l.go (runB p l.s l.at_)) :=
 (while_any g p hg b l w ha.ln ha.le ha.sz).mono fun x w' ⟨h1,h2,h3⟩=>⟨h1,ha.step h2 h3 ha.sz (runB_le _ _ _ ha.le).2⟩
theorem isWord_k (ha:At b w0 w l) (c:Int) (v:Bool) (hv:wdI c=v):Calls Tryz.prog 100 #[.int .u8 c] w fun x w'=>x=.returned (.bool v)∧At b w0 w' l :=
 (isWord_any c w).mono fun x w' ⟨h1,h2⟩=>⟨by rw [h1,hv],h2 ▸ ha⟩
theorem isName_k (ha:At b w0 w l) (s:ByteArray) (v:Bool) (hv:nameB s=v) (hs:s.size≤1000000):Calls Tryz.prog 118 #[.string s] w fun x w'=>x=.returned (.bool v)∧At b w0 w' l :=
 (isName_any s w hs).mono fun x w' ⟨h1,h2⟩=>⟨by rw [h1,hv],ha.below h2⟩
theorem kindOf_k (ha:At b w0 w l) (op:Int):Calls Tryz.prog 55 #[.int .i64 op] w fun x w'=>x=.returned (.agg #[.string (bS (nameM op)),.int .i64 (formM op)])∧At b w0 w' l :=
 (kindOf_any op w ha.gw).mono fun x w' ⟨h1,h2⟩=>⟨h1,ha.below h2⟩
end
def Out (b:Nat) (w0:World) (r:Option (Value × L9)) (x:Ending) (w':World):Prop :=
 match r with
 | none=>x=.panicked (thrown 22)∧Aft b w0 w'
 | some (v,l')=>x=.returned v∧At b w0 w' l'
def L9.rg (l:L9):Option (Int × L9) :=
 if l.hit 114 then (if 48≤l.next.peek∧l.next.peek≤55 then (if wdI (l.next.next.peek:Int) then none else some ((l.next.peek:Int) - 48,l.next.next)) else none) else none
theorem register_any (b:Nat) (w0 w:World) (l:L9) (ha:At b w0 w l) :
  Calls Tryz.prog 152 #[pt b] w (Out b w0 (l.rg.map fun p=>(.int .i64 p.1,p.2))):=by
 unfold L9.rg
 cases h1:l.hit 114 with
 | false =>
  go_enter Tryz.func152,Tryz.ntmps152
  go_wp2_with (first | (go_at_call 103;refine (take_k (by assumption) 114 _ (by assumption)).mono ?_;rintro e w1 ⟨rfl,ha1⟩) | (go_at_call 101;refine (need_k (by assumption) _).mono ?_;rintro e w2 ⟨rfl,ha2⟩))
  exact ⟨rfl,rfl,by assumption⟩
 | true =>
  simp only [if_true]
  obtain ⟨c,hc⟩:∃ c,l.next.peek=c:=⟨_,rfl⟩
  rw [hc]
  have HC:=Lib.hid hc
  have h1lt:=hit_lt h1
  clear hc
  by_cases h2:48≤c
  ·have i2:(48:Int)≤(c:Int):=by omega
   by_cases h3:c≤55
   ·have i3:(c:Int)≤55:=by omega
    rw [if_pos ⟨h2,h3⟩]
    have hat:l.next.at_ < l.next.s.size:=by
     obtain ⟨q,_⟩:=peek_in l.next c (by omega) HC.out
     exact q
    have hsz:l.next.at_≤1000000:=Nat.le_trans (Nat.le_of_lt hat) ha.sz
    obtain ⟨c2,hc2⟩:∃ c2,l.next.next.peek=c2:=⟨_,rfl⟩
    rw [hc2]
    cases h4:wdI (c2:Int) with
    | true =>
     rw [if_pos rfl]
     have H4:=Lib.hid h4
     have HC2:=Lib.hid hc2
     clear h4 hc2
     go_enter Tryz.func152,Tryz.ntmps152
     go_upto_region 4 with (first | (go_at_call 103;refine (take_k (by assumption) 114 _ (by assumption)).mono ?_;rintro e w1 ⟨rfl,ha1⟩) | (go_at_call 101;refine (need_k (by assumption) _).mono ?_;rintro e w2 ⟨rfl,ha2⟩) | (go_at_call 124;refine (peek_k (by assumption) c (by exact HC.out)).mono ?_;rintro e w3 ⟨rfl,ha3⟩))
     have ha5:At b w0 w2 l.next:=by assumption
     have g1:=ha5.ln.c1
     have gf:=ha5.ln.fz 1
     go_cut [] (fun wx=>At b w0 wx l.next.next)
     case first =>
      go_wp2
      go_meet
      exact ha5.put l.next.next 1 _ rfl ha.sz hat
     case rest =>
     go_wp2_with (first | (go_at_call 124;refine (peek_k (by assumption) c2 (by exact HC2.out)).mono ?_;rintro e w3 ⟨rfl,ha3⟩) | (go_at_call 100;refine (isWord_k (by assumption) _ _ (by exact H4.out)).mono ?_;rintro e w4 ⟨rfl,ha4⟩) | (go_at_call 101;refine (need_k (by assumption) _).mono ?_;rintro e w2 ⟨rfl,ha2⟩))
     exact ⟨rfl,rfl,by assumption⟩
    | false =>
     rw [if_neg (by decide)]
     have H4:=Lib.hid h4
     have HC2:=Lib.hid hc2
     clear h4 hc2
     go_enter Tryz.func152,Tryz.ntmps152
     go_upto_region 4 with (first | (go_at_call 103;refine (take_k (by assumption) 114 _ (by assumption)).mono ?_;rintro e w1 ⟨rfl,ha1⟩) | (go_at_call 101;refine (need_k (by assumption) _).mono ?_;rintro e w2 ⟨rfl,ha2⟩) | (go_at_call 124;refine (peek_k (by assumption) c (by exact HC.out)).mono ?_;rintro e w3 ⟨rfl,ha3⟩))
     have ha5:At b w0 w2 l.next:=by assumption
     have g1:=ha5.ln.c1
     have gf:=ha5.ln.fz 1
     go_cut [] (fun wx=>At b w0 wx l.next.next)
     case first =>
      go_wp2
      go_meet
      exact ha5.put l.next.next 1 _ rfl ha.sz hat
     case rest =>
     go_wp2_with (first | (go_at_call 124;refine (peek_k (by assumption) c2 (by exact HC2.out)).mono ?_;rintro e w3 ⟨rfl,ha3⟩) | (go_at_call 100;refine (isWord_k (by assumption) _ _ (by exact H4.out)).mono ?_;rintro e w4 ⟨rfl,ha4⟩) | (go_at_call 101;refine (need_k (by assumption) _).mono ?_;rintro e w2 ⟨rfl,ha2⟩))
     go_ret
     exact ⟨ret_int (by omega),by assumption⟩
   ·rw [if_neg (by omega)]
    have i3:decide ((c:Int)≤55)=false:=decide_eq_false (by omega)
    go_enter Tryz.func152,Tryz.ntmps152
    go_wp2_with (first | (go_at_call 103;refine (take_k (by assumption) 114 _ (by assumption)).mono ?_;rintro e w1 ⟨rfl,ha1⟩) | (go_at_call 101;refine (need_k (by assumption) _).mono ?_;rintro e w2 ⟨rfl,ha2⟩) | (go_at_call 124;refine (peek_k (by assumption) c (by exact HC.out)).mono ?_;rintro e w3 ⟨rfl,ha3⟩))
    exact ⟨rfl,rfl,by assumption⟩
  ·rw [if_neg (by omega)]
   have i2:¬ (48:Int)≤(c:Int):=by omega
   go_enter Tryz.func152,Tryz.ntmps152
   go_wp2_with (first | (go_at_call 103;refine (take_k (by assumption) 114 _ (by assumption)).mono ?_;rintro e w1 ⟨rfl,ha1⟩) | (go_at_call 101;refine (need_k (by assumption) _).mono ?_;rintro e w2 ⟨rfl,ha2⟩) | (go_at_call 124;refine (peek_k (by assumption) c (by exact HC.out)).mono ?_;rintro e w3 ⟨rfl,ha3⟩))
   exact ⟨rfl,rfl,by assumption⟩
def nameL (k:Nat):List UInt8:=(kindsL.getD k ([],0)).1
theorem nameL_eq (k:Nat) (h:k < 35) (h0:0 < k):nameM (k:Int)=nameL k:=by
 unfold nameM kindM nameL
 rw [if_neg (by omega),if_neg (by omega)]
 rfl
theorem bS_eq (l:List UInt8) (s:ByteArray):bS l=s↔l=s.data.toList:=by
 obtain ⟨⟨t⟩⟩:=s
 simp [bS]
theorem opOf_some (n:List UInt8) (k:Nat) (h:k < 35) (h0:0 < k) (hk:nameL k=n) (hno:∀ j,0 < j→j < k→nameL j≠n):opOf n=(k:Int):=by
 unfold opOf
 have:(List.range 35).find? (fun i:Nat=>decide (0 < i) && (nameM (i:Int) == n))=some k:=by
  rw [List.find?_range_eq_some]
  refine ⟨by rw [nameL_eq k h h0];simp [h0,hk],by simpa using h,?_⟩
  intro j hj
  by_cases hj0:0 < j
  ·rw [nameL_eq j (by omega) hj0]
   simp [hno j hj0 hj]
  ·simp [hj0]
 rw [this]
theorem opOf_none (n:List UInt8) (hno:∀ j,0 < j→j < 35→nameL j≠n):opOf n=if n=breakW then 76 else 0:=by
 unfold opOf
 have:(List.range 35).find? (fun i:Nat=>decide (0 < i) && (nameM (i:Int) == n))=none:=by
  rw [List.find?_eq_none]
  intro j hj
  have hj':j < 35:=by simpa using hj
  by_cases hj0:0 < j
  ·rw [nameL_eq j hj' hj0]
   simp [hno j hj0 hj']
  ·simp [hj0]
 rw [this]
theorem operation_any (s:ByteArray) (w:World) (hg:GW w):Calls Tryz.prog 98 #[.string s] w fun e w'=>e=.returned (.int .i64 (opOf s.data.toList))∧Below w.heap.size w w':=by
 go_enter Tryz.func98,Tryz.ntmps98
 go_wp2
 go_loopw [4] (fun i wr=>∃ k:Nat,k≤35∧i=.int .i64 k∧Hid (∀ j,0 < j→j < k→nameL j≠s.data.toList)∧Below w.heap.size w wr) (fun i _=>35 - (intOf i).toNat)
 case atStart=>exact ⟨0,by omega,rfl,Lib.hid (fun j h1 h2=>by omega),Below.refl _ _⟩
 case round =>
  obtain ⟨k,hk,rfl,HN,hb⟩:=hrel
  have hgr:=hg.below hb (Nat.le_refl _)
  by_cases hlt:k < 35
  ·by_cases h0:0 < k
   ·obtain ⟨c0,c1⟩:=kinds_at hgr k hlt
    by_cases he:nameL k=s.data.toList
    ·have hs:bS (kindsL.getD k ([],0)).1=s:=(bS_eq _ _).2 he
     rw [hs] at c0
     go_wp2
     go_ret
     exact ⟨ret_int (opOf_some _ k hlt h0 he HN.out).symm,hb⟩
    ·obtain ⟨x,hx⟩:∃ x,bS (kindsL.getD k ([],0)).1=x:=⟨_,rfl⟩
     rw [hx] at c0
     have hne:¬ x=s:=by rw [← hx];exact fun e=>he ((bS_eq _ _).1 e)
     have hbq:(x.toList == s.toList)=false:=beq_eq_false_iff_ne.2 fun e=>hne (by rw [ByteArray.toList_eq,ByteArray.toList_eq] at e;exact Go.WideShapes.bytes_inj e)
     have HE:=Lib.hid he
     clear he hx
     go_wp2
     go_roundw
     case rel =>
      refine ⟨k+1,by omega,by go_num,Lib.hid ?_,hb⟩
      intro j hj hjk
      rcases Nat.lt_succ_iff_lt_or_eq.1 hjk with h | rfl
      ·exact HN.out j hj h
      ·exact HE.out
     case measure=>simp [intOf];omega
   ·obtain rfl:k=0:=by omega
    go_wp2
    go_roundw
    case rel=>exact ⟨1,by omega,rfl,Lib.hid (fun j h1 h2=>by omega),hb⟩
    case measure=>simp [intOf]
  ·obtain rfl:k=35:=by omega
   have hno:∀ j,0 < j→j < 35→nameL j≠s.data.toList:=HN.out
   have hop:=opOf_none _ hno
   have HO:=Lib.hid hop
   clear hop hno
   have hnm:∀ (a:ByteArray) (n:Int) (W:World),(Instr.field 103 (.agg #[.string a,.int .i64 n]) 0).run Tryz.prog W=.ok (.string a) W:=fun a n W=>by kernel_rfl
   by_cases hbw:s.data.toList=breakW
   ·obtain rfl:bS breakW=s:=(bS_eq _ _).2 hbw.symm
    go_wp2_with (go_at_call 55;refine (kindOf_any 76 _ hgr).mono ?_;rintro e w1 ⟨rfl,hb1⟩;rw [show nameM 76=breakW from rfl])
    go_ret
    exact ⟨ret_int (by rw [HO.out,if_pos hbw]),hb.trans (hb1.mono hb.size)⟩
   ·obtain ⟨x,hx⟩:∃ x,bS (nameM 76)=x:=⟨_,rfl⟩
    have hne:¬ s=x:=by rw [← hx];exact fun e=>hbw ((bS_eq _ _).1 e.symm).symm
    have hbq:(s.toList == x.toList)=false:=beq_eq_false_iff_ne.2 fun e=>hne (by rw [ByteArray.toList_eq,ByteArray.toList_eq] at e;exact Go.WideShapes.bytes_inj e)
    have HX:=Lib.hid hx
    clear hx
    go_wp2_with (go_at_call 55;refine (kindOf_any 76 _ hgr).mono ?_;rw [HX.out];rintro e w1 ⟨rfl,hb1⟩)
    go_ret
    exact ⟨ret_int (by rw [HO.out,if_neg hbw]),hb.trans (hb1.mono hb.size)⟩
end Go.Proofs.YtffojmgmpfjlhaaGreatDoor
namespace Go.Proofs.YtffojmgmpfjlhaaGreatDoor
open Go.RowKit Go.Proofs.Ix YtffojmgmpfjlhaaGreatDoorW.PrintWords Go.ChangeShapes Go.WideShapes Go.MapKept Go.Maps Go.ChangeMaps
def intKeys (es:Array MapEntry):Prop:=∀ e∈es.toList,∃ k:Int,e.key=.int .i64 k∧(Lit.int .i64 k).wf=true
theorem keyed3:Keyed Tryz.prog 3:=int_keyed Tryz.underlying3
theorem keyOf3 (k:Int) (h:(Lit.int .i64 k).wf=true):keyOf Tryz.prog 3 (.int .i64 k)=some (.int .i64 k):=by
 simp [keyOf,mapKey,Tryz.underlying3,h]
theorem ins_raw (w:World) (b:Nat) (es:Array MapEntry) (clock:Nat) (hb:w.heap[b]?=some (.map es clock)) (k:Int) (v:Value) (hk:(Lit.int .i64 k).wf=true) (hi:intKeys es) (hno:∀ x∈es.toList,x.key≠.int .i64 k) :
  (Instr.mapUpdate 181 (.map (some b)) (.int .i64 k) v).run Tryz.prog w=.ok () (setBlock w b (.map (es.push ⟨.int .i64 k,v,clock⟩) (clock+1))):=by
 have hkey:=keyOf3 k hk
 rcases keyed3.find w hkey es.toList (fun e he=>by obtain ⟨j,hj,hw⟩:=hi e he;exact ⟨_,by rw [hj];exact keyOf3 j hw⟩) with ⟨h1,h2⟩ | ⟨j,e0,h1,h2,h3⟩
 ·simp [Instr.mapUpdate,run_underlying Tryz.underlying181,MapKept.run_getObj_map hb,keyed3.check w false hkey,h1,MapKept.run_setObj_map _ hb,Result.andThen,setBlock]
 ·exact absurd h3 (hno e0 (List.mem_of_getElem? h2))
theorem look_raw (w:World) (b:Nat) (es:Array MapEntry) (clock:Nat) (hb:w.heap[b]?=some (.map es clock)) (k:Int) (c:Bool) (hk:(Lit.int .i64 k).wf=true) (hi:intKeys es) :
  (∀ x∈es.toList,x.key≠.int .i64 k)∧(Instr.lookup 181 (.map (some b)) (.int .i64 k) c).run Tryz.prog w=.ok (if c then .tuple #[.slice none 0 0,.bool false] else .slice none 0 0) w ∨
  ∃ e0∈es.toList,e0.key=.int .i64 k∧(Instr.lookup 181 (.map (some b)) (.int .i64 k) c).run Tryz.prog w=.ok (if c then .tuple #[e0.val,.bool true] else e0.val) w:=by
 have hkey:=keyOf3 k hk
 have hz:(zeroValue 161).run Tryz.prog w=.ok (.slice none 0 0) w:=Tryz.zeroValue161 w
 rcases keyed3.find w hkey es.toList (fun e he=>by obtain ⟨j,hj,hw⟩:=hi e he;exact ⟨_,by rw [hj];exact keyOf3 j hw⟩) with ⟨h1,h2⟩ | ⟨j,e0,h1,h2,h3⟩
 ·exact Or.inl ⟨h2,by simp [Instr.lookup,run_underlying Tryz.underlying181,MapKept.run_getObj_map hb,keyed3.check w _ hkey,h1,hz,Result.andThen]⟩
 ·exact Or.inr ⟨e0,List.mem_of_getElem? h2,h3,by simp [Instr.lookup,run_underlying Tryz.underlying181,MapKept.run_getObj_map hb,keyed3.check w _ hkey,h1,hz,Result.andThen]⟩
end Go.Proofs.YtffojmgmpfjlhaaGreatDoor
