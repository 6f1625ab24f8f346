/- Parts of the proof: InsnChecks: Check, Len, Target, Relative, Reads and Writes return what the specification returns: the law returns true for every input; the inputs read as they did; the package-level variables hold what the program's text lays in them: the tied card. -/
import Derived.Test.YtffojmgmpfjlhaaGreatDoorInsnChecksZ1
set_option linter.unusedVariables false
set_option linter.unusedSimpArgs false
namespace Go.Proofs.YtffojmgmpfjlhaaGreatDoor.Q
open Go.Proofs.YtffojmgmpfjlhaaGreatDoor Go.RowKit Go.Proofs.YtffojmgmpfjlhaaGreatDoorW.PrintWords Go.Proofs.YtffojmgmpfjlhaaGreatDoorW.PrintLast Go.Proofs.YtffojmgmpfjlhaaGreatDoorW.PrintMore
attribute [local go_sem] max2_int min2_int max_two min_two max_three min_three max_four min_four
def rzCheck.j0:Nat→Int→Bool→Int→Int→Int→Int→Option (Int)
 | 0,_,_,_,_,_,_=>none
 | k+1,x3,x18,x316000,x316001,x316002,x316003=>if x18=true then (some 20) else ((rzOperands.f k x3).bind fun bt318=>(if bt318.1=true then (if x316001 < 0 then (some 20) else (if x316001 > 7 then (some 20) else (if bt318.2.1=true then (if x316002 < 0 then (some 20) else (if x316002 > 7 then (some 20) else (some 0))) else (if x316002=0 then (some 0) else (some 20))))) else (if x316001=0 then (if bt318.2.1=true then (if x316002 < 0 then (some 20) else (if x316002 > 7 then (some 20) else (some 0))) else (if x316002=0 then (some 0) else (some 20))) else (some 20))))
def rzCheck.f (k:Nat) (a0_0:Int) (a0_1:Int) (a0_2:Int) (a0_3:Int):Option (Int):=(rzForm.f k a0_0).bind fun t316=>(if t316=0 then (rzCheck.j0 k t316 true a0_0 a0_1 a0_2 a0_3) else ((rzfits.f k t316 a0_3).bind fun t317=>(rzCheck.j0 k t316 (!t317) a0_0 a0_1 a0_2 a0_3)))
theorem rzCheck.mono_l:∀ k,(∀ y0 y1 y2 y3 y4 y5,LeO (rzCheck.j0 k y0 y1 y2 y3 y4 y5) (rzCheck.j0 (k+1) y0 y1 y2 y3 y4 y5))
 | 0=>fun _ _ _ _ _ _ r h=>by simp [rzCheck.j0] at h
 | k+1=>by
  have ih0:=rzCheck.mono_l k
  ·intro y0 y1 y2 y3 y4 y5;unfold rzCheck.j0;repeat' first
   | (with_reducible exact ih0 _ _ _ _ _ _)
   | (with_reducible exact rzForm.mono _ _)
   | (with_reducible exact rzOperands.mono _ _)
   | (with_reducible exact rzfits.mono _ _ _)
   | (with_reducible exact LeO.refl _)
   | (with_reducible exact LeO.none _)
   | (with_reducible refine LeO.ite ?_ ?_)
   | (with_reducible refine LeO.bind ?_ (fun _=>?_))
   | exact LeO.none _
   | refine LeO.ite ?_ ?_
   | refine LeO.bind ?_ (fun _=>?_)
theorem rzCheck.mono:∀ a0 a1 a2 a3 k,LeO (rzCheck.f k a0 a1 a2 a3) (rzCheck.f (k+1) a0 a1 a2 a3):=by
 intro a0 a1 a2 a3 k;have ih0:=rzCheck.mono_l k;unfold rzCheck.f;repeat' first
   | (with_reducible exact ih0 _ _ _ _ _ _)
   | (with_reducible exact rzForm.mono _ _)
   | (with_reducible exact rzOperands.mono _ _)
   | (with_reducible exact rzfits.mono _ _ _)
   | (with_reducible exact LeO.refl _)
   | (with_reducible exact LeO.none _)
   | (with_reducible refine LeO.ite ?_ ?_)
   | (with_reducible refine LeO.bind ?_ (fun _=>?_))
   | exact LeO.none _
   | refine LeO.ite ?_ ?_
   | refine LeO.bind ?_ (fun _=>?_)
set_option maxHeartbeats 8000000 in
set_option maxRecDepth 100000 in
theorem rzCheck.calls (k:Nat) (a0_0:Int) (a0_1:Int) (a0_2:Int) (a0_3:Int) (r:Int) (w:World) (h:rzCheck.f k a0_0 a0_1 a0_2 a0_3=some r) :
  Calls Tryz.prog 19 #[.agg #[.int .i64 a0_0,.int .i64 a0_1,.int .i64 a0_2,.int .i64 a0_3]] w fun e w'=>e=.returned (.int .i64 r)∧Below w.heap.size w w':=by
 have hu23:=Tryz.underlying23;have HB:=Aside0.mk (Below.refl w.heap.size w);have H:((rzForm.f k a0_0).bind fun t316=>(if t316=0 then (rzCheck.j0 k t316 true a0_0 a0_1 a0_2 a0_3) else ((rzfits.f k t316 a0_3).bind fun t317=>(rzCheck.j0 k t316 (!t317) a0_0 a0_1 a0_2 a0_3))))=some r:=h;clear h;replace H:=Option.bind_eq_some_iff.mp H;obtain ⟨t316,A20,H⟩:=H;replace H:(if t316=0 then (rzCheck.j0 k t316 true a0_0 a0_1 a0_2 a0_3) else ((rzfits.f k t316 a0_3).bind fun t317=>(rzCheck.j0 k t316 (!t317) a0_0 a0_1 a0_2 a0_3)))=some r:=H;have A2:=Aside0.mk A20;clear A20;have HC3:=Aside0.mk H;clear H;go_enter Tryz.func19,Tryz.ntmps19
 go_upto_region 2 with (first | ((with_reducible refine gate_dst (N:=1) rfl ?_);refine box_event ?hg (N:=1) ?hd (cs:=#[.int .i64 a0_0,.int .i64 a0_1,.int .i64 a0_2,.int .i64 a0_3]) (t:=23) ?hr ?_;(case hd=>rfl);(case hg=>rfl);(case hr=>first | (go_simp;done) | (go_simp;rfl));intro gb315 hg w4 hbox hb;have n0_:=Aside0.mk (below_step blw hb);have n1_:=Aside0.mk (hbox);have n2_:=Aside0.mk ((by rw [hg];exact (below_size blw):w.heap.size≤gb315));have n3_:=Aside0.mk ((by rw [hg];exact (below_size blw):w.heap.size≤gb315));clear HB;have HB:=n0_;have BK315:=n1_;have GW315:=n2_;have GE315:=n3_;clear n0_ n1_ n2_ n3_;clear hb hbox hg;obtain ⟨hcz5_0,hcz5_1,hcz5_2,hcz5_3,hfz5_0,hfz5_1,hfz5_2,hfz5_3⟩:=bz4 BK315.out) | ((with_reducible refine gate_callee (f:=51) rfl ?_);refine goesL_ (some 9) rfl rfl Tryz.func51 (by kernel_rfl) rfl #[.int .i64 a0_0] rfl fq ?_;(with_reducible refine (rzForm.calls k a0_0 t316 _ A2.out).mono ?_);rintro e w' ⟨rfl,⟨nd,rfl⟩⟩;refine ⟨_,rfl,?_⟩))
 (try simp only [Act.put,List.setIfInBounds_toArray,List.set_cons_zero,List.set_cons_succ]);go_cut [18] (fun v18 wc=>∃ (kq:Nat) (x18_2:Bool),v18=.bool x18_2∧Aside0 (rzCheck.j0 kq t316 x18_2 a0_0 a0_1 a0_2 a0_3=some r)∧Aside0 (kq≤k)∧Aside0 (wc.heap[gb315]?=some (.cells #[.int .i64 a0_0,.int .i64 a0_1,.int .i64 a0_2,.int .i64 a0_3] 23 (0,0)))∧Aside0 (Below w.heap.size w wc))
 case first =>
  have H:=HC3.out;clear HC3;by_cases c6:t316=0
  ·rw [if_pos c6] at H;obtain ⟨c6b0,c6b1⟩:=bqt c6;clear c6;(first | rw [c6b0] | (simp only [i64_w,i32_w];rw [c6b0]) | skip);have H':=Aside0.mk H;clear H;go_wp2;go_meet
   case rel=>exact ⟨_,(true),rsd,H',⟨by first | omega | exact Nat.le_refl _⟩,⟨bko⟩,⟨blw⟩⟩
  ·rw [if_neg c6] at H;obtain ⟨c6b0,c6b1⟩:=bqf c6;(first | rw [c6b0] | (simp only [i64_w,i32_w];rw [c6b0]) | skip);replace H:=Option.bind_eq_some_iff.mp H;obtain ⟨t317,A70,H⟩:=H;replace H:(rzCheck.j0 k t316 (!t317) a0_0 a0_1 a0_2 a0_3)=some r:=H;have A7:=Aside0.mk A70;clear A70;have H':=Aside0.mk H;clear H;obtain ⟨hcz8_0,hcz8_1,hcz8_2,hcz8_3,hfz8_0,hfz8_1,hfz8_2,hfz8_3⟩:=bz4 BK315.out;go_wp2_with (first | (go_at_call 52;(with_reducible refine (rzfits.calls k t316 a0_3 t317 _ A7.out).mono ?_);rintro e w' ⟨rfl,⟨nd,rfl⟩⟩))
   go_meet
   case rel=>exact ⟨_,(!t317),rsd,H',⟨by first | omega | exact Nat.le_refl _⟩,⟨bko⟩,⟨blw⟩⟩
 case rest =>
  clear HC3;try clear hcz5_0
  try clear hcz5_1
  try clear hcz5_2
  try clear hcz5_3
  try clear hfz5_0
  try clear hfz5_1
  try clear hfz5_2
  try clear hfz5_3
  obtain ⟨kq,x18_2,rfl,HA,HJ2,BK315,HB⟩:=hcut;cases kq with
  | zero=>exact absurd HA.out (by simp [rzCheck.j0])
  | succ kj2 =>
   have H:=HA.out;clear HA;simp only [rzCheck.j0] at H;by_cases c9:x18_2=true
   ·subst c9;have H1:(some 20)=some r:=by rw [if_pos rfl] at H;exact H
    clear H;have H:=H1;clear H1;obtain rfl:=Option.some.inj H;go_wp2;go_ret;exact ⟨rew,blw⟩
   ·replace c9:=Bool.eq_false_iff.mpr c9;subst c9;have H1:((rzOperands.f kj2 t316).bind fun bt318=>(if bt318.1=true then (if a0_1 < 0 then (some 20) else (if a0_1 > 7 then (some 20) else (if bt318.2.1=true then (if a0_2 < 0 then (some 20) else (if a0_2 > 7 then (some 20) else (some 0))) else (if a0_2=0 then (some 0) else (some 20))))) else (if a0_1=0 then (if bt318.2.1=true then (if a0_2 < 0 then (some 20) else (if a0_2 > 7 then (some 20) else (some 0))) else (if a0_2=0 then (some 0) else (some 20))) else (some 20))))=some r:=by rw [if_neg (show ¬ (false=true) by decide)] at H;exact H
    clear H;have H:=H1;clear H1;replace H:=Option.bind_eq_some_iff.mp H;obtain ⟨⟨t318,t319,t320⟩,A100,H⟩:=H;replace H:(if t318=true then (if a0_1 < 0 then (some 20) else (if a0_1 > 7 then (some 20) else (if t319=true then (if a0_2 < 0 then (some 20) else (if a0_2 > 7 then (some 20) else (some 0))) else (if a0_2=0 then (some 0) else (some 20))))) else (if a0_1=0 then (if t319=true then (if a0_2 < 0 then (some 20) else (if a0_2 > 7 then (some 20) else (some 0))) else (if a0_2=0 then (some 0) else (some 20))) else (some 20)))=some r:=H;have A10:=Aside0.mk A100;clear A100;by_cases c11:t318=true
    ·subst c11;have H1:(if a0_1 < 0 then (some 20) else (if a0_1 > 7 then (some 20) else (if t319=true then (if a0_2 < 0 then (some 20) else (if a0_2 > 7 then (some 20) else (some 0))) else (if a0_2=0 then (some 0) else (some 20)))))=some r:=by rw [if_pos rfl] at H;exact H
     clear H;have H:=H1;clear H1;by_cases c12:a0_1 < 0
     ·rw [if_pos c12] at H;have c12b0:=decide_eq_true c12;clear c12;obtain rfl:=Option.some.inj H;go_wp2_with (first | ((with_reducible refine gate_callee (f:=53) rfl ?_);refine goesL_ (some 21) rfl rfl Tryz.func53 (by kernel_rfl) rfl #[.int .i64 t316] rfl fq ?_;(with_reducible refine (rzOperands.calls kj2 t316 true t319 t320 _ A10.out).mono ?_);rintro e w' ⟨rfl,⟨nd,rfl⟩⟩;refine ⟨_,rfl,?_⟩;obtain ⟨hcz13_0,hcz13_1,hcz13_2,hcz13_3,hfz13_0,hfz13_1,hfz13_2,hfz13_3⟩:=bz4 BK315.out))
      go_ret;exact ⟨rew,blw⟩
     ·rw [if_neg c12] at H;have c12b0:=decide_eq_false c12;clear c12;by_cases c14:a0_1 > 7
      ·rw [if_pos c14] at H;have c14b0:decide (7 < a0_1)=true:=decide_eq_true c14;clear c14;obtain rfl:=Option.some.inj H;go_wp2_with (first | ((with_reducible refine gate_callee (f:=53) rfl ?_);refine goesL_ (some 21) rfl rfl Tryz.func53 (by kernel_rfl) rfl #[.int .i64 t316] rfl fq ?_;(with_reducible refine (rzOperands.calls kj2 t316 true t319 t320 _ A10.out).mono ?_);rintro e w' ⟨rfl,⟨nd,rfl⟩⟩;refine ⟨_,rfl,?_⟩;obtain ⟨hcz15_0,hcz15_1,hcz15_2,hcz15_3,hfz15_0,hfz15_1,hfz15_2,hfz15_3⟩:=bz4 BK315.out))
       go_ret;exact ⟨rew,blw⟩
      ·rw [if_neg c14] at H;have c14b0:decide (7 < a0_1)=false:=decide_eq_false c14;clear c14;by_cases c16:t319=true
       ·subst c16;have H1:(if a0_2 < 0 then (some 20) else (if a0_2 > 7 then (some 20) else (some 0)))=some r:=by rw [if_pos rfl] at H;exact H
        clear H;have H:=H1;clear H1;by_cases c17:a0_2 < 0
        ·rw [if_pos c17] at H;have c17b0:=decide_eq_true c17;clear c17;obtain rfl:=Option.some.inj H;go_wp2_with (first | ((with_reducible refine gate_callee (f:=53) rfl ?_);refine goesL_ (some 21) rfl rfl Tryz.func53 (by kernel_rfl) rfl #[.int .i64 t316] rfl fq ?_;(with_reducible refine (rzOperands.calls kj2 t316 true true t320 _ A10.out).mono ?_);rintro e w' ⟨rfl,⟨nd,rfl⟩⟩;refine ⟨_,rfl,?_⟩;obtain ⟨hcz18_0,hcz18_1,hcz18_2,hcz18_3,hfz18_0,hfz18_1,hfz18_2,hfz18_3⟩:=bz4 BK315.out))
         go_ret;exact ⟨rew,blw⟩
        ·rw [if_neg c17] at H;have c17b0:=decide_eq_false c17;clear c17;by_cases c19:a0_2 > 7
         ·rw [if_pos c19] at H;have c19b0:decide (7 < a0_2)=true:=decide_eq_true c19;clear c19;obtain rfl:=Option.some.inj H;go_wp2_with (first | ((with_reducible refine gate_callee (f:=53) rfl ?_);refine goesL_ (some 21) rfl rfl Tryz.func53 (by kernel_rfl) rfl #[.int .i64 t316] rfl fq ?_;(with_reducible refine (rzOperands.calls kj2 t316 true true t320 _ A10.out).mono ?_);rintro e w' ⟨rfl,⟨nd,rfl⟩⟩;refine ⟨_,rfl,?_⟩;obtain ⟨hcz20_0,hcz20_1,hcz20_2,hcz20_3,hfz20_0,hfz20_1,hfz20_2,hfz20_3⟩:=bz4 BK315.out))
          go_ret;exact ⟨rew,blw⟩
         ·rw [if_neg c19] at H;have c19b0:decide (7 < a0_2)=false:=decide_eq_false c19;clear c19;obtain rfl:=Option.some.inj H;go_wp2_with (first | ((with_reducible refine gate_callee (f:=53) rfl ?_);refine goesL_ (some 21) rfl rfl Tryz.func53 (by kernel_rfl) rfl #[.int .i64 t316] rfl fq ?_;(with_reducible refine (rzOperands.calls kj2 t316 true true t320 _ A10.out).mono ?_);rintro e w' ⟨rfl,⟨nd,rfl⟩⟩;refine ⟨_,rfl,?_⟩;obtain ⟨hcz21_0,hcz21_1,hcz21_2,hcz21_3,hfz21_0,hfz21_1,hfz21_2,hfz21_3⟩:=bz4 BK315.out))
          go_ret;exact ⟨rew,blw⟩
       ·replace c16:=Bool.eq_false_iff.mpr c16;subst c16;have H1:(if a0_2=0 then (some 0) else (some 20))=some r:=by rw [if_neg (show ¬ (false=true) by decide)] at H;exact H
        clear H;have H:=H1;clear H1;by_cases c22:a0_2=0
        ·rw [if_pos c22] at H;obtain ⟨c22b0,c22b1⟩:=bqt c22;clear c22;obtain rfl:=Option.some.inj H;go_wp2_with (first | ((with_reducible refine gate_callee (f:=53) rfl ?_);refine goesL_ (some 21) rfl rfl Tryz.func53 (by kernel_rfl) rfl #[.int .i64 t316] rfl fq ?_;(with_reducible refine (rzOperands.calls kj2 t316 true false t320 _ A10.out).mono ?_);rintro e w' ⟨rfl,⟨nd,rfl⟩⟩;refine ⟨_,rfl,?_⟩;obtain ⟨hcz23_0,hcz23_1,hcz23_2,hcz23_3,hfz23_0,hfz23_1,hfz23_2,hfz23_3⟩:=bz4 BK315.out))
         go_ret;exact ⟨rew,blw⟩
        ·rw [if_neg c22] at H;obtain ⟨c22b0,c22b1⟩:=bqf c22;obtain rfl:=Option.some.inj H;go_wp2_with (first | ((with_reducible refine gate_callee (f:=53) rfl ?_);refine goesL_ (some 21) rfl rfl Tryz.func53 (by kernel_rfl) rfl #[.int .i64 t316] rfl fq ?_;(with_reducible refine (rzOperands.calls kj2 t316 true false t320 _ A10.out).mono ?_);rintro e w' ⟨rfl,⟨nd,rfl⟩⟩;refine ⟨_,rfl,?_⟩;obtain ⟨hcz24_0,hcz24_1,hcz24_2,hcz24_3,hfz24_0,hfz24_1,hfz24_2,hfz24_3⟩:=bz4 BK315.out))
         go_ret;exact ⟨rew,blw⟩
    ·replace c11:=Bool.eq_false_iff.mpr c11;subst c11;have H1:(if a0_1=0 then (if t319=true then (if a0_2 < 0 then (some 20) else (if a0_2 > 7 then (some 20) else (some 0))) else (if a0_2=0 then (some 0) else (some 20))) else (some 20))=some r:=by rw [if_neg (show ¬ (false=true) by decide)] at H;exact H
     clear H;have H:=H1;clear H1;by_cases c25:a0_1=0
     ·rw [if_pos c25] at H;obtain ⟨c25b0,c25b1⟩:=bqt c25;clear c25;by_cases c26:t319=true
      ·subst c26;have H1:(if a0_2 < 0 then (some 20) else (if a0_2 > 7 then (some 20) else (some 0)))=some r:=by rw [if_pos rfl] at H;exact H
       clear H;have H:=H1;clear H1;by_cases c27:a0_2 < 0
       ·rw [if_pos c27] at H;have c27b0:=decide_eq_true c27;clear c27;obtain rfl:=Option.some.inj H;go_wp2_with (first | ((with_reducible refine gate_callee (f:=53) rfl ?_);refine goesL_ (some 21) rfl rfl Tryz.func53 (by kernel_rfl) rfl #[.int .i64 t316] rfl fq ?_;(with_reducible refine (rzOperands.calls kj2 t316 false true t320 _ A10.out).mono ?_);rintro e w' ⟨rfl,⟨nd,rfl⟩⟩;refine ⟨_,rfl,?_⟩;obtain ⟨hcz28_0,hcz28_1,hcz28_2,hcz28_3,hfz28_0,hfz28_1,hfz28_2,hfz28_3⟩:=bz4 BK315.out))
        go_ret;exact ⟨rew,blw⟩
       ·rw [if_neg c27] at H;have c27b0:=decide_eq_false c27;clear c27;by_cases c29:a0_2 > 7
        ·rw [if_pos c29] at H;have c29b0:decide (7 < a0_2)=true:=decide_eq_true c29;clear c29;obtain rfl:=Option.some.inj H;go_wp2_with (first | ((with_reducible refine gate_callee (f:=53) rfl ?_);refine goesL_ (some 21) rfl rfl Tryz.func53 (by kernel_rfl) rfl #[.int .i64 t316] rfl fq ?_;(with_reducible refine (rzOperands.calls kj2 t316 false true t320 _ A10.out).mono ?_);rintro e w' ⟨rfl,⟨nd,rfl⟩⟩;refine ⟨_,rfl,?_⟩;obtain ⟨hcz30_0,hcz30_1,hcz30_2,hcz30_3,hfz30_0,hfz30_1,hfz30_2,hfz30_3⟩:=bz4 BK315.out))
         go_ret;exact ⟨rew,blw⟩
        ·rw [if_neg c29] at H;have c29b0:decide (7 < a0_2)=false:=decide_eq_false c29;clear c29;obtain rfl:=Option.some.inj H;go_wp2_with (first | ((with_reducible refine gate_callee (f:=53) rfl ?_);refine goesL_ (some 21) rfl rfl Tryz.func53 (by kernel_rfl) rfl #[.int .i64 t316] rfl fq ?_;(with_reducible refine (rzOperands.calls kj2 t316 false true t320 _ A10.out).mono ?_);rintro e w' ⟨rfl,⟨nd,rfl⟩⟩;refine ⟨_,rfl,?_⟩;obtain ⟨hcz31_0,hcz31_1,hcz31_2,hcz31_3,hfz31_0,hfz31_1,hfz31_2,hfz31_3⟩:=bz4 BK315.out))
         go_ret;exact ⟨rew,blw⟩
      ·replace c26:=Bool.eq_false_iff.mpr c26;subst c26;have H1:(if a0_2=0 then (some 0) else (some 20))=some r:=by rw [if_neg (show ¬ (false=true) by decide)] at H;exact H
       clear H;have H:=H1;clear H1;by_cases c32:a0_2=0
       ·rw [if_pos c32] at H;obtain ⟨c32b0,c32b1⟩:=bqt c32;clear c32;obtain rfl:=Option.some.inj H;go_wp2_with (first | ((with_reducible refine gate_callee (f:=53) rfl ?_);refine goesL_ (some 21) rfl rfl Tryz.func53 (by kernel_rfl) rfl #[.int .i64 t316] rfl fq ?_;(with_reducible refine (rzOperands.calls kj2 t316 false false t320 _ A10.out).mono ?_);rintro e w' ⟨rfl,⟨nd,rfl⟩⟩;refine ⟨_,rfl,?_⟩;obtain ⟨hcz33_0,hcz33_1,hcz33_2,hcz33_3,hfz33_0,hfz33_1,hfz33_2,hfz33_3⟩:=bz4 BK315.out))
        go_ret;exact ⟨rew,blw⟩
       ·rw [if_neg c32] at H;obtain ⟨c32b0,c32b1⟩:=bqf c32;obtain rfl:=Option.some.inj H;go_wp2_with (first | ((with_reducible refine gate_callee (f:=53) rfl ?_);refine goesL_ (some 21) rfl rfl Tryz.func53 (by kernel_rfl) rfl #[.int .i64 t316] rfl fq ?_;(with_reducible refine (rzOperands.calls kj2 t316 false false t320 _ A10.out).mono ?_);rintro e w' ⟨rfl,⟨nd,rfl⟩⟩;refine ⟨_,rfl,?_⟩;obtain ⟨hcz34_0,hcz34_1,hcz34_2,hcz34_3,hfz34_0,hfz34_1,hfz34_2,hfz34_3⟩:=bz4 BK315.out))
        go_ret;exact ⟨rew,blw⟩
     ·rw [if_neg c25] at H;obtain ⟨c25b0,c25b1⟩:=bqf c25;obtain rfl:=Option.some.inj H;go_wp2_with (first | ((with_reducible refine gate_callee (f:=53) rfl ?_);refine goesL_ (some 21) rfl rfl Tryz.func53 (by kernel_rfl) rfl #[.int .i64 t316] rfl fq ?_;(with_reducible refine (rzOperands.calls kj2 t316 false t319 t320 _ A10.out).mono ?_);rintro e w' ⟨rfl,⟨nd,rfl⟩⟩;refine ⟨_,rfl,?_⟩;obtain ⟨hcz35_0,hcz35_1,hcz35_2,hcz35_3,hfz35_0,hfz35_1,hfz35_2,hfz35_3⟩:=bz4 BK315.out))
      go_ret;exact ⟨rew,blw⟩
end Go.Proofs.YtffojmgmpfjlhaaGreatDoor.Q
namespace Go.Proofs.YtffojmgmpfjlhaaGreatDoor.Q
open Go.Proofs.Ix hiding rd
open Go.Proofs.YtffojmgmpfjlhaaGreatDoor Go.RowKit Go.Proofs.YtffojmgmpfjlhaaGreatDoorW.PrintWords
theorem bytesOf_g (k:Nat) (f:Int) (h:1≤k):insn_bytesOf.f k f=some (bytesM f:Int):=by
 obtain ⟨k,rfl⟩:∃ m,k=m+1:=⟨k - 1,by omega⟩
 exact bytesOf_f k f
theorem bytes_in (f:Int):bytesM f=0∨bytesM f=1∨bytesM f=2∨bytesM f=10:=by
 unfold bytesM
 (repeat' split) <;> simp
theorem fits_f (f n:Int) (k:Nat) (hk:1≤k):insn_fits.f k f n=some (fitsM f n):=by
 unfold insn_fits.f fitsM
 by_cases h3:f=3
 ·rw [if_pos h3,if_pos h3]
 rw [if_neg h3,if_neg h3]
 by_cases h8:f=8
 ·rw [if_pos h8,if_pos h8]
  by_cases c:n≥0
  ·rw [if_pos c];simp;omega
  ·rw [if_neg c];simp;omega
 rw [if_neg h8,if_neg h8,bytesOf_g k f hk,Option.bind_some]
 have h10:bytesM f≠10:=fun h=>h3 (bytes_ten.2.1 h)
 rcases bytes_in f with e | e | e | e
 ·rw [e];simp
 ·rw [e]
  simp only [show ¬ (((1:Nat):Int)=0) by omega,show (((1:Nat):Int)=1) by omega,if_false,if_true,show ¬ ((1:Nat)=0) by omega]
  by_cases c:n≥-64
  ·rw [if_pos c];simp;omega
  ·rw [if_neg c];simp;omega
 ·rw [e]
  simp only [show ¬ (((2:Nat):Int)=0) by omega,show ¬ (((2:Nat):Int)=1) by omega,show (((2:Nat):Int)=2) by omega,if_false,if_true,show ¬ ((2:Nat)=0) by omega,show ¬ ((2:Nat)=1) by omega]
  by_cases c:n≥-8192
  ·rw [if_pos c];simp;omega
  ·rw [if_neg c];simp;omega
 ·exact absurd e h10
def chkD (op a b imm:Int):Int :=
 if nameM op=[] then 20
 else if 0≤a∧a≤7∧0≤b∧b≤7∧(hasA (formM op)=true∨a=0)∧(hasB (formM op)=true∨b=0)∧fitsM (formM op) imm=true then 0 else 20
theorem check_f (op a b imm:Int) (k:Nat) (hk:1≤k):insn_Check.f k op a b imm=some (chkD op a b imm):=by
 unfold insn_Check.f chkD insn_kindOf.f
 rw [Option.bind_some]
 by_cases c1:nameM op=[]
 ·rw [if_pos ((bS_nil _).2 c1),if_pos c1]
 rw [if_neg (fun h=>c1 ((bS_nil _).1 h)),if_neg c1]
 simp only [hasA_f,hasB_f,fits_f _ _ k hk,Option.bind_some]
 generalize hasA (formM op)=A
 generalize hasB (formM op)=B
 generalize fitsM (formM op) imm=F
 cases A <;> cases B <;> cases F <;> simp only [Bool.false_eq_true,if_true,if_false,true_or,false_or,and_true,and_false,true_and] <;> (repeat' split) <;> first | rfl | (exfalso;omega)
theorem rfits_f {p r:Int} (h:(p,r)∈FP) (n:Int) (k:Nat) (hk:12≤k):rzfits.f k r n=some (fitsM p n):=by
 obtain ⟨k,rfl⟩:∃ m,k=m+12:=⟨k - 12,by omega⟩
 unfold rzfits.f fitsM
 rw [opnd_any h,Option.bind_some]
 have h10:=fp_ten _ h
 have hb:=bytes_ten (f:=p)
 simp only at h10
 by_cases h8:p=8
 ·have h3:¬ p=3:=by omega
  rw [if_pos (h10.2 h8),if_neg h3,if_pos h8]
  by_cases c:n≥0
  ·rw [if_pos c,Option.some.injEq,Bool.eq_iff_iff];simp;omega
  ·rw [if_neg c];simp;omega
 rw [if_neg (fun e=>h8 (h10.1 e)),if_neg (show ¬ p=8 from h8)]
 simp only
 rcases bytes_in p with e | e | e | e
 ·have h3:¬ p=3:=fun h=>by have:=hb.2.2 h;omega
  rw [e,if_neg h3];simp
 ·have h3:¬ p=3:=fun h=>by have:=hb.2.2 h;omega
  rw [e,if_neg h3]
  simp only [show ¬ (((1:Nat):Int)=0) by omega,show (((1:Nat):Int)=1) by omega,if_false,if_true,show ¬ ((1:Nat)=0) by omega]
  by_cases c:n≥-64
  ·rw [if_pos c,Option.some.injEq,Bool.eq_iff_iff];simp;omega
  ·rw [if_neg c];simp;omega
 ·have h3:¬ p=3:=fun h=>by have:=hb.2.2 h;omega
  rw [e,if_neg h3]
  simp only [show ¬ ((2:Int)=1) by omega,show ((2:Int)=2) from rfl,show ¬ (((2:Nat):Int)=0) by omega,show ¬ (((2:Nat):Int)=1) by omega,show (((2:Nat):Int)=2) by omega,if_false,if_true,show ¬ ((2:Nat)=0) by omega,show ¬ ((2:Nat)=1) by omega]
  by_cases c:n≥-8192
  ·rw [if_pos c,Option.some.injEq,Bool.eq_iff_iff];simp;omega
  ·rw [if_neg c];simp;omega
 ·have h3:=hb.2.1 e
  rw [e,if_pos h3]
  rfl
theorem rcheck_f (op a b imm:Int) (k:Nat) (hk:30≤k):rzCheck.f k op a b imm=some (chkD op a b imm):=by
 obtain ⟨k,rfl⟩:∃ m,k=m+12:=⟨k - 12,by omega⟩
 obtain ⟨r,hf,hr⟩:=form_any op
 unfold rzCheck.f chkD
 rw [hf,Option.bind_some]
 rcases hr with ⟨hn,hr⟩ | ⟨hn,hr,hp⟩
 ·rw [if_pos hr,if_pos hn]
  show rzCheck.j0 (k+11+1) _ _ _ _ _ _=_
  rw [rzCheck.j0,if_pos rfl]
 rw [if_neg hr,if_neg hn,rfits_f hp imm _ (by omega),Option.bind_some]
 show rzCheck.j0 (k+11+1) _ _ _ _ _ _=_
 rw [rzCheck.j0,show k+11=(k - 1)+12 by omega,opnd_any hp,Option.bind_some]
 generalize hasA (formM op)=A
 generalize hasB (formM op)=B
 generalize fitsM (formM op) imm=F
 cases A <;> cases B <;> cases F <;> simp only [Bool.false_eq_true,if_true,if_false,true_or,false_or,and_true,and_false,true_and,Bool.not_true,Bool.not_false] <;> (repeat' split) <;> first | rfl | (exfalso;omega)
theorem chk_name {op a b imm:Int} (h:chkD op a b imm=0):nameM op≠[]:=by
 intro hn
 unfold chkD at h
 rw [if_pos hn] at h
 exact absurd h (by decide)
end Go.Proofs.YtffojmgmpfjlhaaGreatDoor.Q
namespace Go.Proofs.YtffojmgmpfjlhaaGreatDoor.Q
open Go.Proofs.YtffojmgmpfjlhaaGreatDoor Go.RowKit Go.Proofs.YtffojmgmpfjlhaaGreatDoorW.PrintWords Go.Proofs.YtffojmgmpfjlhaaGreatDoorW.PrintLast Go.Proofs.YtffojmgmpfjlhaaGreatDoorW.PrintMore
attribute [local go_sem] max2_int min2_int max_two min_two max_three min_three max_four min_four
mutual
def insn_set.l0:Nat→List Int→List Int→Int→Option (List Int)
 | 0,_,_,_=>none
 | k+1,x0,x2,x6=>if x6 < 8 then (insn_set.l1 k x0 x2 x6 x6 x0 (x0.length:Int) 0) else (some x2)
def insn_set.l1:Nat→List Int→List Int→Int→Int→List Int→Int→Int→Option (List Int)
 | 0,_,_,_,_,_,_,_=>none
 | k+1,x0,x2,x3,x6,x9,x10,x11=>if x11 < x10 then (if 0≤x11 then (if x11 < (x9.length:Int) then (if (rd x9 x11)=x3 then (if x2.length < 17592186044416 then (insn_set.l0 k x0 (x2 ++ [x3]) (wrap64 (x6+1))) else (none)) else (insn_set.l1 k x0 x2 x3 x6 x9 x10 (wrap64 (x11+1)))) else (none)) else (none)) else (insn_set.l0 k x0 x2 (wrap64 (x6+1)))
end
def insn_set.f (k:Nat) (l0:List Int):Option (List Int):=insn_set.l0 k l0 ([]:List Int) 0
theorem insn_set.mono_l:∀ k,(∀ y0 y1 y2,LeO (insn_set.l0 k y0 y1 y2) (insn_set.l0 (k+1) y0 y1 y2))∧(∀ y0 y1 y2 y3 y4 y5 y6,LeO (insn_set.l1 k y0 y1 y2 y3 y4 y5 y6) (insn_set.l1 (k+1) y0 y1 y2 y3 y4 y5 y6))
 | 0=>⟨fun _ _ _ r h=>by simp [insn_set.l0] at h,fun _ _ _ _ _ _ _ r h=>by simp [insn_set.l1] at h⟩
 | k+1=>by
  obtain ⟨ih0,ih1⟩:=insn_set.mono_l k;refine ⟨?_,?_⟩
  ·intro y0 y1 y2;unfold insn_set.l0;repeat' first
   | (with_reducible exact ih0 _ _ _)
   | (with_reducible exact ih1 _ _ _ _ _ _ _)
   | (with_reducible exact LeO.refl _)
   | (with_reducible exact LeO.none _)
   | (with_reducible refine LeO.ite ?_ ?_)
   | (with_reducible refine LeO.bind ?_ (fun _=>?_))
   | exact LeO.none _
   | refine LeO.ite ?_ ?_
   | refine LeO.bind ?_ (fun _=>?_)
  ·intro y0 y1 y2 y3 y4 y5 y6;unfold insn_set.l1;repeat' first
   | (with_reducible exact ih0 _ _ _)
   | (with_reducible exact ih1 _ _ _ _ _ _ _)
   | (with_reducible exact LeO.refl _)
   | (with_reducible exact LeO.none _)
   | (with_reducible refine LeO.ite ?_ ?_)
   | (with_reducible refine LeO.bind ?_ (fun _=>?_))
   | exact LeO.none _
   | refine LeO.ite ?_ ?_
   | refine LeO.bind ?_ (fun _=>?_)
theorem insn_set.mono:∀ a0 k,LeO (insn_set.f k a0) (insn_set.f (k+1) a0):=by
 intro a0 k;obtain ⟨ih0,ih1⟩:=insn_set.mono_l k;unfold insn_set.f;repeat' first
   | (with_reducible exact ih0 _ _ _)
   | (with_reducible exact ih1 _ _ _ _ _ _ _)
   | (with_reducible exact LeO.refl _)
   | (with_reducible exact LeO.none _)
   | (with_reducible refine LeO.ite ?_ ?_)
   | (with_reducible refine LeO.bind ?_ (fun _=>?_))
   | exact LeO.none _
   | refine LeO.ite ?_ ?_
   | refine LeO.bind ?_ (fun _=>?_)
set_option maxHeartbeats 8000000 in
set_option maxRecDepth 100000 in
theorem insn_set.calls (k:Nat) (A0:Option Addr) (c0:Nat) (l0:List Int) (r:List Int) (w:World) (hr0:Kd.C (Kd.int .i64) w A0 l0.length l0) (hc0:l0.length≤c0) (h:insn_set.f k l0=some r) :
  Calls Tryz.prog 87 #[.slice A0 l0.length c0] w fun e w'=>∃ v0_:Value,e=.returned (v0_)∧Kd.R (Kd.int .i64) 3 w' w.heap.size (fun _=>True) v0_ r∧Below w.heap.size w w':=by
 have HR0:=Aside0.mk hr0;have HC0:=Aside0.mk hc0;clear hr0 hc0;have HB:=Aside0.mk (Below.refl w.heap.size w);have H:(insn_set.l0 k l0 ([]:List Int) 0)=some r:=h;clear h;have H':=Aside0.mk H;clear H;go_enter Tryz.func87,Tryz.ntmps87
 go_wp2;try simp only [Act.put,List.setIfInBounds_toArray,List.set_cons_zero,List.set_cons_succ]
 go_loopg [2,6] k (fun kq v2 v6 w'=>∃ (x2_1:List Int) (x6_1:Int),v6=.int .i64 x6_1∧Aside0 (insn_set.l0 kq l0 x2_1 x6_1=some r)∧Aside0 (kq≤k)∧Aside0 (Kd.R (Kd.int .i64) 3 w' w.heap.size (fun _=>True) v2 x2_1)∧Aside0 (Below w.heap.size w w'))
 case atStart=>exact ⟨(([]:List Int)),(0),rsd,H',⟨Nat.le_refl _⟩,⟨by first | exact Kd.R_nil _ _ _ _ _ | exact Kd.N_nil _ _ _ _ _ | exact Kd.V_nil _ _ _ _ _ | exact Kd.Q_nil _ _ _ _ _ | exact Kd.S_nil _ _ _ _ _⟩,⟨blw⟩⟩
 case round =>
  clear H';obtain ⟨x2_1,x6_1,rfl,HA,HK1,HO_2,HB⟩:=hrel;cases gk with
  | zero=>exact absurd HA.out (by simp [insn_set.l0])
  | succ k1 =>
   have H:=HA.out;clear HA;simp only [insn_set.l0] at H;by_cases c2:x6_1 < 8
   ·rw [if_pos c2] at H;have c2b0:=decide_eq_true c2;clear c2;have H':=Aside0.mk H;clear H;go_wp2;try simp only [Act.put,List.setIfInBounds_toArray,List.set_cons_zero,List.set_cons_succ]
    go_loopg [2,11] k1 (fun kq v2 v11 w'=>∃ (x2_2:List Int) (x11_2:Int),v11=.int .i64 x11_2∧Aside0 (insn_set.l1 kq l0 x2_2 x6_1 x6_1 l0 (l0.length:Int) x11_2=some r)∧Aside0 (kq≤k1)∧Aside0 (Kd.R (Kd.int .i64) 3 w' w.heap.size (fun _=>True) v2 x2_2)∧Aside0 (Below w.heap.size w w'))
    case atStart=>exact ⟨(x2_1),(0),rsd,H',⟨Nat.le_refl _⟩,⟨by (with_reducible repeat (first | apply Kd.R_alloc | apply Kd.R_drewN | apply Kd.R_drew));exact HO_2.out⟩,⟨blw⟩⟩
    case round =>
     clear H';try clear c2b0
     obtain ⟨x2_2,x11_2,rfl,HA,HK2,HO_2,HB⟩:=hrel;cases gk with
     | zero=>exact absurd HA.out (by simp [insn_set.l1])
     | succ k2 =>
      have H:=HA.out;clear HA;simp only [insn_set.l1] at H;by_cases c3:x11_2 < (l0.length:Int)
      ·rw [if_pos c3] at H;have c3b0:=decide_eq_true c3;clear c3;by_cases c4:0≤x11_2
       ·rw [if_pos c4] at H;have c4b0:=decide_eq_true c4;clear c4;by_cases c5:x11_2 < (l0.length:Int)
        ·rw [if_pos c5] at H;have c5b0:=decide_eq_true c5;clear c5;by_cases c6:(rd l0 x11_2)=x6_1
         ·rw [if_pos c6] at H;obtain ⟨c6b0,c6b1⟩:=bqt c6;clear c6;by_cases c7:x2_2.length < 17592186044416
          ·rw [if_pos c7] at H;have LMc7:=Aside0.mk c7;clear c7;obtain ⟨y956,hy956⟩:∃ y_:List Int,y_=(x2_2 ++ [x6_1]):=⟨_,rfl⟩;replace H:(insn_set.l0 k2 l0 y956 (wrap64 (x6_1+1)))=some r:=by first | (rw [hy956];with_reducible exact H) | (have H2_:=(Option.bind_some _ _).symm.trans H;rw [hy956];with_reducible exact H2_) | (have H2_:=(Option.bind_some _ _).symm.trans H;with_reducible exact H2_) | with_reducible exact H | (rw [hy956];exact H) | exact H
           have Ny956:=Aside0.mk hy956;clear hy956;have H':=Aside0.mk H;clear H;have p955:0≤(x11_2:Int):=of_decide_eq_true asm;have q955:x11_2 < (l0.length:Int):=of_decide_eq_true asm;obtain ⟨ad955,e955,hx955_0⟩:=Kd.at_int HR0.out x11_2 p955 q955;cases e955;replace hx955_0:=(HB.out.cell (World.block_lt_of_cell? w _ hx955_0)).trans hx955_0;replace p955:=eq_true p955;replace q955:=eq_true q955;go_wp2_with (first | ((with_reducible refine gate_builtin (b:=.append) (xs:=#[.tmp 18,.tmp 20]) rfl ?_);at_builtin;refine Kd.R_append (Kd.int .i64) (w0:=w) w.heap.size rfl (.tmp 18) (.tmp 20) 66 3 (.int .i64 0) 8 rfl Tryz.underlying66 info3 rfl (by decide) (by omega) u2 x2_2 x6_1 [.int .i64 x6_1] (fun _=>True) (fun _=>False) rfl rfl ?aP (fun _ hk=>hk.elim) ?aF ?aO ?aB ?aS ?aL ?_;(case aP=>exact rfl);(case aB=>exact blw);(case aF=>exact (fun _ _=>trivial));(case aO=>exact (by (with_reducible repeat (first | apply Kd.R_alloc | apply Kd.R_drewN | apply Kd.R_drew));exact HO_2.out));(case aS=>exact (below_size blw));(case aL=>have:=LMc7.out;omega);intro v957 w8 ho hb hg hat;rw [← Ny956.out] at ho;have n0_:=Aside0.mk (hb);have n1_:=Aside0.mk (ho);clear HB;clear HO_2;have HB:=n0_;have HO958:=n1_;clear n0_ n1_;clear ho hb hg hat))
           go_roundg k2
           case measure=>have:=HK1.out;have:=HK2.out;omega
           case rel=>exact ⟨(y956),(wrap64 (x6_1+1)),rsd,H',⟨by have:=HK1.out;have:=HK2.out;omega⟩,⟨by (with_reducible repeat (first | apply Kd.R_alloc | apply Kd.R_drewN | apply Kd.R_drew));exact HO958.out⟩,⟨blw⟩⟩
          ·rw [if_neg c7] at H;exact absurd H (by simp)
         ·rw [if_neg c6] at H;obtain ⟨c6b0,c6b1⟩:=bqf c6;have H':=Aside0.mk H;clear H;have p955:0≤(x11_2:Int):=of_decide_eq_true asm;have q955:x11_2 < (l0.length:Int):=of_decide_eq_true asm;obtain ⟨ad955,e955,hx955_0⟩:=Kd.at_int HR0.out x11_2 p955 q955;cases e955;replace hx955_0:=(HB.out.cell (World.block_lt_of_cell? w _ hx955_0)).trans hx955_0;replace p955:=eq_true p955;replace q955:=eq_true q955;go_wp2;go_roundg k2
          case measure=>have:=HK1.out;have:=HK2.out;omega
          case rel=>exact ⟨(x2_2),(wrap64 (x11_2+1)),rsd,H',⟨by have:=HK1.out;have:=HK2.out;omega⟩,⟨by (with_reducible repeat (first | apply Kd.R_alloc | apply Kd.R_drewN | apply Kd.R_drew));exact HO_2.out⟩,⟨blw⟩⟩
        ·rw [if_neg c5] at H;exact absurd H (by simp)
       ·rw [if_neg c4] at H;exact absurd H (by simp)
      ·rw [if_neg c3] at H;have c3b0:=decide_eq_false c3;clear c3;have H':=Aside0.mk H;clear H;go_wp2;go_roundg k2
       case measure=>have:=HK1.out;have:=HK2.out;omega
       case rel=>exact ⟨(x2_2),(wrap64 (x6_1+1)),rsd,H',⟨by have:=HK1.out;have:=HK2.out;omega⟩,⟨by (with_reducible repeat (first | apply Kd.R_alloc | apply Kd.R_drewN | apply Kd.R_drew));exact HO_2.out⟩,⟨blw⟩⟩
   ·rw [if_neg c2] at H;have c2b0:=decide_eq_false c2;clear c2;obtain rfl:=Option.some.inj H;go_wp2;go_ret;exact ⟨_,by first | rfl | (simp [errW_none,errW_some] <;> rfl) | (simp [*,errW_none,errW_some] <;> rfl),by (with_reducible repeat (first | apply Kd.R_alloc | apply Kd.R_drewN | apply Kd.R_drew));exact HO_2.out,blw⟩
mutual
def rzset.l0:Nat→List Int→List Int→Int→Option (List Int)
 | 0,_,_,_=>none
 | k+1,x0,x3,x4=>if x4 < 8 then (rzset.l1 k x0 x3 x4 false 0) else (some x3)
def rzset.l1:Nat→List Int→List Int→Int→Bool→Int→Option (List Int)
 | 0,_,_,_,_,_=>none
 | k+1,x0,x3,x4,x5,x6=>if x6 < (x0.length:Int) then (if x5=true then (rzset.l1 k x0 x3 x4 true (wrap64 (x6+1))) else (if 0≤x6 then (rzset.l1 k x0 x3 x4 ((rd x0 x6) == x4) (wrap64 (x6+1))) else (none))) else (if x5=true then (if x3.length < 17592186044416 then (rzset.l0 k x0 (x3 ++ [x4]) (wrap64 (x4+1))) else (none)) else (rzset.l0 k x0 x3 (wrap64 (x4+1))))
end
def rzset.f (k:Nat) (l0:List Int):Option (List Int):=rzset.l0 k l0 ([]:List Int) 0
theorem rzset.mono_l:∀ k,(∀ y0 y1 y2,LeO (rzset.l0 k y0 y1 y2) (rzset.l0 (k+1) y0 y1 y2))∧(∀ y0 y1 y2 y3 y4,LeO (rzset.l1 k y0 y1 y2 y3 y4) (rzset.l1 (k+1) y0 y1 y2 y3 y4))
 | 0=>⟨fun _ _ _ r h=>by simp [rzset.l0] at h,fun _ _ _ _ _ r h=>by simp [rzset.l1] at h⟩
 | k+1=>by
  obtain ⟨ih0,ih1⟩:=rzset.mono_l k;refine ⟨?_,?_⟩
  ·intro y0 y1 y2;unfold rzset.l0;repeat' first
   | (with_reducible exact ih0 _ _ _)
   | (with_reducible exact ih1 _ _ _ _ _)
   | (with_reducible exact LeO.refl _)
   | (with_reducible exact LeO.none _)
   | (with_reducible refine LeO.ite ?_ ?_)
   | (with_reducible refine LeO.bind ?_ (fun _=>?_))
   | exact LeO.none _
   | refine LeO.ite ?_ ?_
   | refine LeO.bind ?_ (fun _=>?_)
  ·intro y0 y1 y2 y3 y4;unfold rzset.l1;repeat' first
   | (with_reducible exact ih0 _ _ _)
   | (with_reducible exact ih1 _ _ _ _ _)
   | (with_reducible exact LeO.refl _)
   | (with_reducible exact LeO.none _)
   | (with_reducible refine LeO.ite ?_ ?_)
   | (with_reducible refine LeO.bind ?_ (fun _=>?_))
   | exact LeO.none _
   | refine LeO.ite ?_ ?_
   | refine LeO.bind ?_ (fun _=>?_)
theorem rzset.mono:∀ a0 k,LeO (rzset.f k a0) (rzset.f (k+1) a0):=by
 intro a0 k;obtain ⟨ih0,ih1⟩:=rzset.mono_l k;unfold rzset.f;repeat' first
   | (with_reducible exact ih0 _ _ _)
   | (with_reducible exact ih1 _ _ _ _ _)
   | (with_reducible exact LeO.refl _)
   | (with_reducible exact LeO.none _)
   | (with_reducible refine LeO.ite ?_ ?_)
   | (with_reducible refine LeO.bind ?_ (fun _=>?_))
   | exact LeO.none _
   | refine LeO.ite ?_ ?_
   | refine LeO.bind ?_ (fun _=>?_)
set_option maxHeartbeats 8000000 in
set_option maxRecDepth 100000 in
theorem rzset.calls (k:Nat) (A0:Option Addr) (c0:Nat) (l0:List Int) (r:List Int) (w:World) (hr0:Kd.C (Kd.int .i64) w A0 l0.length l0) (hc0:l0.length≤c0) (h:rzset.f k l0=some r) :
  Calls Tryz.prog 88 #[.slice A0 l0.length c0] w fun e w'=>∃ v0_:Value,e=.returned (v0_)∧Kd.R (Kd.int .i64) 3 w' w.heap.size (fun _=>True) v0_ r∧Below w.heap.size w w':=by
 have HR0:=Aside0.mk hr0;have HC0:=Aside0.mk hc0;clear hr0 hc0;have HB:=Aside0.mk (Below.refl w.heap.size w);have H:(rzset.l0 k l0 ([]:List Int) 0)=some r:=h;clear h;have H':=Aside0.mk H;clear H;go_enter Tryz.func88,Tryz.ntmps88
 go_wp2;try simp only [Act.put,List.setIfInBounds_toArray,List.set_cons_zero,List.set_cons_succ]
 go_loopg [3,4] k (fun kq v3 v4 w'=>∃ (x3_1:List Int) (x4_1:Int),v4=.int .i64 x4_1∧Aside0 (rzset.l0 kq l0 x3_1 x4_1=some r)∧Aside0 (kq≤k)∧Aside0 (Kd.R (Kd.int .i64) 3 w' w.heap.size (fun _=>True) v3 x3_1)∧Aside0 (Below w.heap.size w w'))
 case atStart=>exact ⟨(([]:List Int)),(0),rsd,H',⟨Nat.le_refl _⟩,⟨by first | exact Kd.R_nil _ _ _ _ _ | exact Kd.N_nil _ _ _ _ _ | exact Kd.V_nil _ _ _ _ _ | exact Kd.Q_nil _ _ _ _ _ | exact Kd.S_nil _ _ _ _ _⟩,⟨blw⟩⟩
 case round =>
  clear H';obtain ⟨x3_1,x4_1,rfl,HA,HK1,HO_3,HB⟩:=hrel;cases gk with
  | zero=>exact absurd HA.out (by simp [rzset.l0])
  | succ k1 =>
   have H:=HA.out;clear HA;simp only [rzset.l0] at H;by_cases c2:x4_1 < 8
   ·rw [if_pos c2] at H;have c2b0:=decide_eq_true c2;clear c2;have H':=Aside0.mk H;clear H;go_wp2;try simp only [Act.put,List.setIfInBounds_toArray,List.set_cons_zero,List.set_cons_succ]
    go_loopg [5,6] k1 (fun kq v5 v6 w'=>∃ (x5_2:Bool) (x6_2:Int),v5=.bool x5_2∧v6=.int .i64 x6_2∧Aside0 (rzset.l1 kq l0 x3_1 x4_1 x5_2 x6_2=some r)∧Aside0 (kq≤k1)∧Aside0 (Kd.R (Kd.int .i64) 3 w' w.heap.size (fun _=>True) u3 x3_1)∧Aside0 (Below w.heap.size w w'))
    case atStart=>exact ⟨(false),(0),rsd,rsd,H',⟨Nat.le_refl _⟩,⟨by (with_reducible repeat (first | apply Kd.R_alloc | apply Kd.R_drewN | apply Kd.R_drew));exact HO_3.out⟩,⟨blw⟩⟩
    case round =>
     clear H';try clear c2b0
     obtain ⟨x5_2,x6_2,rfl,rfl,HA,HK2,HO_3,HB⟩:=hrel;cases gk with
     | zero=>exact absurd HA.out (by simp [rzset.l1])
     | succ k2 =>
      have H:=HA.out;clear HA;simp only [rzset.l1] at H;by_cases c3:x6_2 < (l0.length:Int)
      ·rw [if_pos c3] at H;have c3b0:=decide_eq_true c3;clear c3;by_cases c4:x5_2=true
       ·subst c4;have H1:(rzset.l1 k2 l0 x3_1 x4_1 true (wrap64 (x6_2+1)))=some r:=by rw [if_pos rfl] at H;exact H
        clear H;have H:=H1;clear H1;have H':=Aside0.mk H;clear H;go_wp2;go_roundg k2
        case measure=>have:=HK1.out;have:=HK2.out;omega
        case rel=>exact ⟨(true),(wrap64 (x6_2+1)),rsd,rsd,H',⟨by have:=HK1.out;have:=HK2.out;omega⟩,⟨by (with_reducible repeat (first | apply Kd.R_alloc | apply Kd.R_drewN | apply Kd.R_drew));exact HO_3.out⟩,⟨blw⟩⟩
       ·replace c4:=Bool.eq_false_iff.mpr c4;subst c4;have H1:(if 0≤x6_2 then (rzset.l1 k2 l0 x3_1 x4_1 ((rd l0 x6_2) == x4_1) (wrap64 (x6_2+1))) else (none))=some r:=by rw [if_neg (show ¬ (false=true) by decide)] at H;exact H
        clear H;have H:=H1;clear H1;by_cases c5:0≤x6_2
        ·rw [if_pos c5] at H;have c5b0:=decide_eq_true c5;clear c5;have H':=Aside0.mk H;clear H;have p997:0≤(x6_2:Int):=of_decide_eq_true asm;have q997:x6_2 < (l0.length:Int):=of_decide_eq_true asm;obtain ⟨ad997,e997,hx997_0⟩:=Kd.at_int HR0.out x6_2 p997 q997;cases e997;replace hx997_0:=(HB.out.cell (World.block_lt_of_cell? w _ hx997_0)).trans hx997_0;replace p997:=eq_true p997;replace q997:=eq_true q997;go_wp2;go_roundg k2
         case measure=>have:=HK1.out;have:=HK2.out;omega
         case rel=>exact ⟨(((rd l0 x6_2) == x4_1)),(wrap64 (x6_2+1)),rsd,rsd,H',⟨by have:=HK1.out;have:=HK2.out;omega⟩,⟨by (with_reducible repeat (first | apply Kd.R_alloc | apply Kd.R_drewN | apply Kd.R_drew));exact HO_3.out⟩,⟨blw⟩⟩
        ·rw [if_neg c5] at H;exact absurd H (by simp)
      ·rw [if_neg c3] at H;have c3b0:=decide_eq_false c3;clear c3;by_cases c6:x5_2=true
       ·subst c6;have H1:(if x3_1.length < 17592186044416 then (rzset.l0 k2 l0 (x3_1 ++ [x4_1]) (wrap64 (x4_1+1))) else (none))=some r:=by rw [if_pos rfl] at H;exact H
        clear H;have H:=H1;clear H1;by_cases c7:x3_1.length < 17592186044416
        ·rw [if_pos c7] at H;have LMc7:=Aside0.mk c7;clear c7;obtain ⟨y998,hy998⟩:∃ y_:List Int,y_=(x3_1 ++ [x4_1]):=⟨_,rfl⟩;replace H:(rzset.l0 k2 l0 y998 (wrap64 (x4_1+1)))=some r:=by first | (rw [hy998];with_reducible exact H) | (have H2_:=(Option.bind_some _ _).symm.trans H;rw [hy998];with_reducible exact H2_) | (have H2_:=(Option.bind_some _ _).symm.trans H;with_reducible exact H2_) | with_reducible exact H | (rw [hy998];exact H) | exact H
         have Ny998:=Aside0.mk hy998;clear hy998;have H':=Aside0.mk H;clear H;go_wp2_with (first | ((with_reducible refine gate_builtin (b:=.append) (xs:=#[.tmp 27,.tmp 29]) rfl ?_);at_builtin;refine Kd.R_append (Kd.int .i64) (w0:=w) w.heap.size rfl (.tmp 27) (.tmp 29) 66 3 (.int .i64 0) 8 rfl Tryz.underlying66 info3 rfl (by decide) (by omega) u3 x3_1 x4_1 [.int .i64 x4_1] (fun _=>True) (fun _=>False) rfl rfl ?aP (fun _ hk=>hk.elim) ?aF ?aO ?aB ?aS ?aL ?_;(case aP=>exact rfl);(case aB=>exact blw);(case aF=>exact (fun _ _=>trivial));(case aO=>exact (by (with_reducible repeat (first | apply Kd.R_alloc | apply Kd.R_drewN | apply Kd.R_drew));exact HO_3.out));(case aS=>exact (below_size blw));(case aL=>have:=LMc7.out;omega);intro v999 w8 ho hb hg hat;rw [← Ny998.out] at ho;have n0_:=Aside0.mk (hb);have n1_:=Aside0.mk (ho);clear HB;clear HO_3;have HB:=n0_;have HO1000:=n1_;clear n0_ n1_;clear ho hb hg hat))
         go_roundg k2
         case measure=>have:=HK1.out;have:=HK2.out;omega
         case rel=>exact ⟨(y998),(wrap64 (x4_1+1)),rsd,H',⟨by have:=HK1.out;have:=HK2.out;omega⟩,⟨by (with_reducible repeat (first | apply Kd.R_alloc | apply Kd.R_drewN | apply Kd.R_drew));exact HO1000.out⟩,⟨blw⟩⟩
        ·rw [if_neg c7] at H;exact absurd H (by simp)
       ·replace c6:=Bool.eq_false_iff.mpr c6;subst c6;have H1:(rzset.l0 k2 l0 x3_1 (wrap64 (x4_1+1)))=some r:=by rw [if_neg (show ¬ (false=true) by decide)] at H;exact H
        clear H;have H:=H1;clear H1;have H':=Aside0.mk H;clear H;go_wp2;go_roundg k2
        case measure=>have:=HK1.out;have:=HK2.out;omega
        case rel=>exact ⟨(x3_1),(wrap64 (x4_1+1)),rsd,H',⟨by have:=HK1.out;have:=HK2.out;omega⟩,⟨by (with_reducible repeat (first | apply Kd.R_alloc | apply Kd.R_drewN | apply Kd.R_drew));exact HO_3.out⟩,⟨blw⟩⟩
   ·rw [if_neg c2] at H;have c2b0:=decide_eq_false c2;clear c2;obtain rfl:=Option.some.inj H;go_wp2;go_ret;exact ⟨_,by first | rfl | (simp [errW_none,errW_some] <;> rfl) | (simp [*,errW_none,errW_some] <;> rfl),by (with_reducible repeat (first | apply Kd.R_alloc | apply Kd.R_drewN | apply Kd.R_drew));exact HO_3.out,blw⟩
end Go.Proofs.YtffojmgmpfjlhaaGreatDoor.Q
namespace Go.Proofs.YtffojmgmpfjlhaaGreatDoor.Q
open Go.Proofs.Ix hiding rd
open Go.Proofs.YtffojmgmpfjlhaaGreatDoor Go.RowKit Go.Proofs.YtffojmgmpfjlhaaGreatDoorW.PrintWords
def hasF (l:List Int) (r:Int):Nat→Nat→Bool
 | _,0=>false
 | j,d+1=>(rd l (j:Int) == r) || hasF l r (j+1) d
def setF (l:List Int):Nat→Nat→List Int
 | _,0=>[]
 | r,m+1=>if hasF l (r:Int) 0 l.length=true then (r:Int) :: setF l (r+1) m else setF l (r+1) m
theorem setF_succ (l:List Int) (r m:Nat):setF l r (m+1)=if hasF l (r:Int) 0 l.length=true then (r:Int) :: setF l (r+1) m else setF l (r+1) m:=rfl
def setL (l:List Int):List Int:=setF l 0 8
theorem setF_len (l:List Int):∀ m r,(setF l r m).length≤m
 | 0,r=>by simp [setF]
 | m+1,r=>by
  unfold setF
  have:=setF_len l m (r+1)
  split <;> simp <;> omega
theorem pset_l1 (l acc t:List Int) (r:Nat) (hr8:r < 8) (K:Nat) (hl:l.length≤10) (ha:acc.length≤r) (h:∀ (acc:List Int) (k:Nat),acc.length≤r+1→K≤k→insn_set.l0 k l acc ((r+1:Nat):Int)=some (acc ++ t)) :
  ∀ (d j k:Nat),j+d=l.length→K+d+1≤k→insn_set.l1 k l acc (r:Int) (r:Int) l (l.length:Int) (j:Int)=some (if hasF l (r:Int) j d=true then acc ++ (r:Int) :: t else acc ++ t)
 | 0,j,k,h1,h2=>by
  obtain ⟨k,rfl⟩:∃ m,k=m+1:=⟨k - 1,by omega⟩
  rw [insn_set.l1,if_neg (by omega),wrap_succ (by omega),h acc k (by omega) (by omega)]
  rfl
 | d+1,j,k,h1,h2=>by
  obtain ⟨k,rfl⟩:∃ m,k=m+1:=⟨k - 1,by omega⟩
  have q1:(j:Int) < (l.length:Int):=by omega
  rw [insn_set.l1,if_pos q1,if_pos (by omega),if_pos q1]
  unfold hasF
  by_cases c:rd l (j:Int)=(r:Int)
  ·rw [if_pos c,if_pos (by omega),wrap_succ (by omega),h _ k (by simp;omega) (by omega),if_pos (by simp [c])]
   simp
  ·rw [if_neg c,wrap_succ (by omega),pset_l1 l acc t r hr8 K hl ha h d (j+1) k (by omega) (by omega)]
   simp [c]
theorem pset_l0 (l:List Int) (hl:l.length≤10):∀ (m r:Nat) (acc:List Int) (k:Nat),r+m=8→acc.length≤r→m * 20+1≤k→insn_set.l0 k l acc (r:Int)=some (acc ++ setF l r m)
 | 0,r,acc,k,h1,h2,h3=>by
  obtain ⟨k,rfl⟩:∃ m,k=m+1:=⟨k - 1,by omega⟩
  rw [insn_set.l0,if_neg (by omega)]
  simp [setF]
 | m+1,r,acc,k,h1,h2,h3=>by
  obtain ⟨k,rfl⟩:∃ m,k=m+1:=⟨k - 1,by omega⟩
  rw [insn_set.l0,if_pos (by omega)]
  refine (pset_l1 l acc (setF l (r+1) m) r (by omega) (m * 20+1) hl h2 (fun acc k h4 h5=>pset_l0 l hl m (r+1) acc k (by omega) h4 h5) l.length 0 k (by omega) (by omega)).trans ?_
  rw [setF_succ]
  by_cases c:hasF l (r:Int) 0 l.length=true
  ·rw [if_pos c,if_pos c]
  ·rw [if_neg c,if_neg c]
theorem pset_f (l:List Int) (hl:l.length≤10) (k:Nat) (hk:200≤k):insn_set.f k l=some (setL l):=by
 unfold insn_set.f setL
 exact (pset_l0 l hl 8 0 [] k (by omega) (by simp) (by omega)).trans (by simp)
theorem rset_l1 (l acc t:List Int) (r:Nat) (hr8:r < 8) (K:Nat) (hl:l.length≤10) (ha:acc.length≤r) (h:∀ (acc:List Int) (k:Nat),acc.length≤r+1→K≤k→rzset.l0 k l acc ((r+1:Nat):Int)=some (acc ++ t)) :
  ∀ (d j k:Nat) (b:Bool),j+d=l.length→K+d+1≤k→rzset.l1 k l acc (r:Int) b (j:Int)=some (if (b || hasF l (r:Int) j d)=true then acc ++ (r:Int) :: t else acc ++ t)
 | 0,j,k,b,h1,h2=>by
  obtain ⟨k,rfl⟩:∃ m,k=m+1:=⟨k - 1,by omega⟩
  rw [rzset.l1,if_neg (by omega)]
  cases b
  ·rw [if_neg (by decide),wrap_succ (by omega),h acc k (by omega) (by omega)]
   rfl
  ·rw [if_pos rfl,if_pos (by omega),wrap_succ (by omega),h _ k (by simp;omega) (by omega)]
   simp
 | d+1,j,k,b,h1,h2=>by
  obtain ⟨k,rfl⟩:∃ m,k=m+1:=⟨k - 1,by omega⟩
  rw [rzset.l1,if_pos (by omega)]
  unfold hasF
  cases b
  ·rw [if_neg (by decide),if_pos (by omega),wrap_succ (by omega),rset_l1 l acc t r hr8 K hl ha h d (j+1) k _ (by omega) (by omega)]
   simp
  ·rw [if_pos rfl,wrap_succ (by omega),rset_l1 l acc t r hr8 K hl ha h d (j+1) k true (by omega) (by omega)]
   simp
theorem rset_l0 (l:List Int) (hl:l.length≤10):∀ (m r:Nat) (acc:List Int) (k:Nat),r+m=8→acc.length≤r→m * 20+1≤k→rzset.l0 k l acc (r:Int)=some (acc ++ setF l r m)
 | 0,r,acc,k,h1,h2,h3=>by
  obtain ⟨k,rfl⟩:∃ m,k=m+1:=⟨k - 1,by omega⟩
  rw [rzset.l0,if_neg (by omega)]
  simp [setF]
 | m+1,r,acc,k,h1,h2,h3=>by
  obtain ⟨k,rfl⟩:∃ m,k=m+1:=⟨k - 1,by omega⟩
  rw [rzset.l0,if_pos (by omega)]
  refine (rset_l1 l acc (setF l (r+1) m) r (by omega) (m * 20+1) hl h2 (fun acc k h4 h5=>rset_l0 l hl m (r+1) acc k (by omega) h4 h5) l.length 0 k false (by omega) (by omega)).trans ?_
  rw [setF_succ,Bool.false_or]
  by_cases c:hasF l (r:Int) 0 l.length=true
  ·rw [if_pos c,if_pos c]
  ·rw [if_neg c,if_neg c]
theorem rset_f (l:List Int) (hl:l.length≤10) (k:Nat) (hk:200≤k):rzset.f k l=some (setL l):=by
 unfold rzset.f setL
 exact (rset_l0 l hl 8 0 [] k (by omega) (by simp) (by omega)).trans (by simp)
theorem setL_len (l:List Int):(setL l).length≤8:=setF_len l 8 0
end Go.Proofs.YtffojmgmpfjlhaaGreatDoor.Q
namespace Go.Proofs.YtffojmgmpfjlhaaGreatDoor.Q
open Go.Proofs.YtffojmgmpfjlhaaGreatDoor Go.RowKit Go.Proofs.YtffojmgmpfjlhaaGreatDoorW.PrintWords Go.Proofs.YtffojmgmpfjlhaaGreatDoorW.PrintLast Go.Proofs.YtffojmgmpfjlhaaGreatDoorW.PrintMore
attribute [local go_sem] max2_int min2_int max_two min_two max_three min_three max_four min_four
def lzsameInts.l0:Nat→List Int→List Int→Int→Option (Bool)
 | 0,_,_,_=>none
 | k+1,x0,x1,x5=>if x5 < (x0.length:Int) then (if 0≤x5 then (if x5 < (x1.length:Int) then (if (rd x0 x5)=(rd x1 x5) then (lzsameInts.l0 k x0 x1 (wrap64 (x5+1))) else (some false)) else (none)) else (none)) else (some true)
def lzsameInts.f (k:Nat) (l0:List Int) (l1:List Int):Option (Bool):=if (l0.length:Int)=(l1.length:Int) then (lzsameInts.l0 k l0 l1 0) else (some false)
theorem lzsameInts.mono_l:∀ k,(∀ y0 y1 y2,LeO (lzsameInts.l0 k y0 y1 y2) (lzsameInts.l0 (k+1) y0 y1 y2))
 | 0=>fun _ _ _ r h=>by simp [lzsameInts.l0] at h
 | k+1=>by
  have ih0:=lzsameInts.mono_l k
  ·intro y0 y1 y2;unfold lzsameInts.l0;repeat' first
   | (with_reducible exact ih0 _ _ _)
   | (with_reducible exact LeO.refl _)
   | (with_reducible exact LeO.none _)
   | (with_reducible refine LeO.ite ?_ ?_)
   | (with_reducible refine LeO.bind ?_ (fun _=>?_))
   | exact LeO.none _
   | refine LeO.ite ?_ ?_
   | refine LeO.bind ?_ (fun _=>?_)
theorem lzsameInts.mono:∀ a0 a1 k,LeO (lzsameInts.f k a0 a1) (lzsameInts.f (k+1) a0 a1):=by
 intro a0 a1 k;have ih0:=lzsameInts.mono_l k;unfold lzsameInts.f;repeat' first
   | (with_reducible exact ih0 _ _ _)
   | (with_reducible exact LeO.refl _)
   | (with_reducible exact LeO.none _)
   | (with_reducible refine LeO.ite ?_ ?_)
   | (with_reducible refine LeO.bind ?_ (fun _=>?_))
   | exact LeO.none _
   | refine LeO.ite ?_ ?_
   | refine LeO.bind ?_ (fun _=>?_)
set_option maxHeartbeats 8000000 in
set_option maxRecDepth 100000 in
theorem lzsameInts.calls (k:Nat) (A0:Option Addr) (c0:Nat) (l0:List Int) (A1:Option Addr) (c1:Nat) (l1:List Int) (r:Bool) (w:World) (hr0:Kd.C (Kd.int .i64) w A0 l0.length l0) (hc0:l0.length≤c0) (hr1:Kd.C (Kd.int .i64) w A1 l1.length l1) (hc1:l1.length≤c1) (h:lzsameInts.f k l0 l1=some r) :
  Calls Tryz.prog 35 #[.slice A0 l0.length c0,.slice A1 l1.length c1] w fun e w'=>e=.returned (.bool r)∧Drawn0 w w':=by
 have HR0:=Aside0.mk hr0;have HC0:=Aside0.mk hc0;clear hr0 hc0;have HR1:=Aside0.mk hr1;have HC1:=Aside0.mk hc1;clear hr1 hc1;have H:(if (l0.length:Int)=(l1.length:Int) then (lzsameInts.l0 k l0 l1 0) else (some false))=some r:=h;clear h;by_cases c3:(l0.length:Int)=(l1.length:Int)
 ·rw [if_pos c3] at H;obtain ⟨c3b0,c3b1⟩:=bqt c3;have c3b2:(l0.length == l1.length)=true:=by first | simpa using c3 | (simp at c3 ⊢;omega)
  clear c3;have H':=Aside0.mk H;clear H;go_enter Tryz.func35,Tryz.ntmps35
  go_wp2;repeat (go_quiet (fail);try go_wp2)
  try simp only [Act.put,List.setIfInBounds_toArray,List.set_cons_zero,List.set_cons_succ]
  go_loopg [5] k (fun kq v5 w'=>∃ (x5_1:Int),v5=.int .i64 x5_1∧Aside0 (lzsameInts.l0 kq l0 l1 x5_1=some r)∧Aside0 (kq≤k)∧Drawn0 w w')
  case atStart=>exact ⟨(0),rsd,H',⟨Nat.le_refl _⟩,by repeat (first | exact Drawn0.refl _ | apply Drawn0.step)⟩
  case round =>
   clear H';try clear c3b0
   try clear c3b1
   try clear c3b2
   obtain ⟨x5_1,rfl,HA,HK1,⟨m1,rfl⟩⟩:=hrel;cases gk with
   | zero=>exact absurd HA.out (by simp [lzsameInts.l0])
   | succ k1 =>
    have H:=HA.out;clear HA;simp only [lzsameInts.l0] at H;by_cases c4:x5_1 < (l0.length:Int)
    ·rw [if_pos c4] at H;have c4b0:=decide_eq_true c4;clear c4;by_cases c5:0≤x5_1
     ·rw [if_pos c5] at H;have c5b0:=decide_eq_true c5;clear c5;by_cases c6:x5_1 < (l1.length:Int)
      ·rw [if_pos c6] at H;have c6b0:=decide_eq_true c6;clear c6;by_cases c7:(rd l0 x5_1)=(rd l1 x5_1)
       ·rw [if_pos c7] at H;obtain ⟨c7b0,c7b1⟩:=bqt c7;clear c7;have H':=Aside0.mk H;clear H;have p806:0≤(x5_1:Int):=of_decide_eq_true asm;have q806:x5_1 < (l0.length:Int):=of_decide_eq_true asm;obtain ⟨ad806,e806,hx806_0⟩:=Kd.at_int HR0.out x5_1 p806 q806;cases e806;replace p806:=eq_true p806;replace q806:=eq_true q806;have p807:0≤(x5_1:Int):=of_decide_eq_true asm;have q807:x5_1 < (l1.length:Int):=of_decide_eq_true asm;obtain ⟨ad807,e807,hx807_0⟩:=Kd.at_int HR1.out x5_1 p807 q807;cases e807;replace p807:=eq_true p807;replace q807:=eq_true q807;go_wp2;repeat (go_quiet (fail);try go_wp2)
        go_roundg k1
        case measure=>have:=HK1.out;omega
        case rel=>exact ⟨(wrap64 (x5_1+1)),rsd,H',⟨by have:=HK1.out;omega⟩,by repeat (first | exact Drawn0.refl _ | apply Drawn0.step)⟩
       ·rw [if_neg c7] at H;obtain ⟨c7b0,c7b1⟩:=bqf c7;obtain rfl:=Option.some.inj H;have p806:0≤(x5_1:Int):=of_decide_eq_true asm;have q806:x5_1 < (l0.length:Int):=of_decide_eq_true asm;obtain ⟨ad806,e806,hx806_0⟩:=Kd.at_int HR0.out x5_1 p806 q806;cases e806;replace p806:=eq_true p806;replace q806:=eq_true q806;have p807:0≤(x5_1:Int):=of_decide_eq_true asm;have q807:x5_1 < (l1.length:Int):=of_decide_eq_true asm;obtain ⟨ad807,e807,hx807_0⟩:=Kd.at_int HR1.out x5_1 p807 q807;cases e807;replace p807:=eq_true p807;replace q807:=eq_true q807;go_wp2;repeat (go_quiet (fail);try go_wp2)
        go_ret;exact ⟨by first | rfl | (simp;done) | (simp [*];done),by repeat (first | exact Drawn0.refl _ | apply Drawn0.step)⟩
      ·rw [if_neg c6] at H;exact absurd H (by simp)
     ·rw [if_neg c5] at H;exact absurd H (by simp)
    ·rw [if_neg c4] at H;have c4b0:=decide_eq_false c4;clear c4;obtain rfl:=Option.some.inj H;go_wp2;repeat (go_quiet (fail);try go_wp2)
     go_ret;exact ⟨by first | rfl | (simp;done) | (simp [*];done),by repeat (first | exact Drawn0.refl _ | apply Drawn0.step)⟩
 ·rw [if_neg c3] at H;obtain ⟨c3b0,c3b1⟩:=bqf c3;have c3b2:(l0.length == l1.length)=false:=by first | simpa using c3 | (simp at c3 ⊢;omega)
  obtain rfl:=Option.some.inj H;go_enter Tryz.func35,Tryz.ntmps35
  go_wp2;repeat (go_quiet (fail);try go_wp2)
  go_ret;exact ⟨by first | rfl | (simp;done) | (simp [*];done),by repeat (first | exact Drawn0.refl _ | apply Drawn0.step)⟩
end Go.Proofs.YtffojmgmpfjlhaaGreatDoor.Q
namespace Go.Proofs.YtffojmgmpfjlhaaGreatDoor.Q
open Go.Proofs.Ix hiding rd
open Go.Proofs.YtffojmgmpfjlhaaGreatDoor Go.RowKit Go.Proofs.YtffojmgmpfjlhaaGreatDoorW.PrintWords
theorem ints_l0 (a:List Int) (h:a.length≤2048):∀ (d i k:Nat),i+d=a.length→d < k→lzsameInts.l0 k a a (i:Int)=some true
 | 0,i,k,h1,h2=>by
  obtain ⟨k,rfl⟩:∃ m,k=m+1:=⟨k - 1,by omega⟩
  rw [lzsameInts.l0,if_neg (by omega)]
 | d+1,i,k,h1,h2=>by
  obtain ⟨k,rfl⟩:∃ m,k=m+1:=⟨k - 1,by omega⟩
  rw [lzsameInts.l0,if_pos (by omega),if_pos (by omega),if_pos (by omega),if_pos rfl,wrap_succ (by omega)]
  exact ints_l0 a h d (i+1) k (by omega) (by omega)
end Go.Proofs.YtffojmgmpfjlhaaGreatDoor.Q
namespace Go.Proofs.YtffojmgmpfjlhaaGreatDoor.Q
open Go.Proofs.YtffojmgmpfjlhaaGreatDoor Go.RowKit Go.Proofs.YtffojmgmpfjlhaaGreatDoorW.PrintWords Go.Proofs.YtffojmgmpfjlhaaGreatDoorW.PrintLast Go.Proofs.YtffojmgmpfjlhaaGreatDoorW.PrintMore
attribute [local go_sem] max2_int min2_int max_two min_two max_three min_three max_four min_four
def rzLen.f (k:Nat) (a0_0:Int) (a0_1:Int) (a0_2:Int) (a0_3:Int):Option (Int):=(rzForm.f k a0_0).bind fun t550=>((rzOperands.f k t550).bind fun bt551=>(if bt551.1=true then (some (wrap64 ((wrap64 (1+bt551.2.2))+1))) else (some (wrap64 (1+bt551.2.2)))))
theorem rzLen.mono:∀ a0 a1 a2 a3 k,LeO (rzLen.f k a0 a1 a2 a3) (rzLen.f (k+1) a0 a1 a2 a3):=by
 intro a0 a1 a2 a3 k;unfold rzLen.f;repeat' first
   | (with_reducible exact rzForm.mono _ _)
   | (with_reducible exact rzOperands.mono _ _)
   | (with_reducible exact LeO.refl _)
   | (with_reducible exact LeO.none _)
   | (with_reducible refine LeO.ite ?_ ?_)
   | (with_reducible refine LeO.bind ?_ (fun _=>?_))
   | exact LeO.none _
   | refine LeO.ite ?_ ?_
   | refine LeO.bind ?_ (fun _=>?_)
set_option maxHeartbeats 8000000 in
set_option maxRecDepth 100000 in
theorem rzLen.calls (k:Nat) (a0_0:Int) (a0_1:Int) (a0_2:Int) (a0_3:Int) (r:Int) (w:World) (h:rzLen.f k a0_0 a0_1 a0_2 a0_3=some r) :
  Calls Tryz.prog 45 #[.agg #[.int .i64 a0_0,.int .i64 a0_1,.int .i64 a0_2,.int .i64 a0_3]] w fun e w'=>e=.returned (.int .i64 r)∧Below w.heap.size w w':=by
 have hu23:=Tryz.underlying23;have HB:=Aside0.mk (Below.refl w.heap.size w);have H:((rzForm.f k a0_0).bind fun t550=>((rzOperands.f k t550).bind fun bt551=>(if bt551.1=true then (some (wrap64 ((wrap64 (1+bt551.2.2))+1))) else (some (wrap64 (1+bt551.2.2))))))=some r:=h;clear h;replace H:=Option.bind_eq_some_iff.mp H;obtain ⟨t550,A20,H⟩:=H;replace H:((rzOperands.f k t550).bind fun bt551=>(if bt551.1=true then (some (wrap64 ((wrap64 (1+bt551.2.2))+1))) else (some (wrap64 (1+bt551.2.2)))))=some r:=H;have A2:=Aside0.mk A20;clear A20;replace H:=Option.bind_eq_some_iff.mp H;obtain ⟨⟨t551,t552,t553⟩,A30,H⟩:=H;replace H:(if t551=true then (some (wrap64 ((wrap64 (1+t553))+1))) else (some (wrap64 (1+t553))))=some r:=H;have A3:=Aside0.mk A30;clear A30;by_cases c4:t551=true
 ·subst c4;have H1:(some (wrap64 ((wrap64 (1+t553))+1)))=some r:=by rw [if_pos rfl] at H;exact H
  clear H;have H:=H1;clear H1;obtain rfl:=Option.some.inj H;go_enter Tryz.func45,Tryz.ntmps45
  go_wp2_with (first | ((with_reducible refine gate_dst (N:=1) rfl ?_);refine box_event ?hg (N:=1) ?hd (cs:=#[.int .i64 a0_0,.int .i64 a0_1,.int .i64 a0_2,.int .i64 a0_3]) (t:=23) ?hr ?_;(case hd=>rfl);(case hg=>rfl);(case hr=>first | (go_simp;done) | (go_simp;rfl));intro gb549 hg w5 hbox hb;have n0_:=Aside0.mk (below_step blw hb);have n1_:=Aside0.mk (hbox);have n2_:=Aside0.mk ((by rw [hg];exact (below_size blw):w.heap.size≤gb549));have n3_:=Aside0.mk ((by rw [hg];exact (below_size blw):w.heap.size≤gb549));clear HB;have HB:=n0_;have BK549:=n1_;have GW549:=n2_;have GE549:=n3_;clear n0_ n1_ n2_ n3_;clear hb hbox hg;obtain ⟨hcz6_0,hcz6_1,hcz6_2,hcz6_3,hfz6_0,hfz6_1,hfz6_2,hfz6_3⟩:=bz4 BK549.out) | ((with_reducible refine gate_callee (f:=51) rfl ?_);refine goesL_ (some 10) rfl rfl Tryz.func51 (by kernel_rfl) rfl #[.int .i64 a0_0] rfl fq ?_;(with_reducible refine (rzForm.calls k a0_0 t550 _ A2.out).mono ?_);rintro e w' ⟨rfl,⟨nd,rfl⟩⟩;refine ⟨_,rfl,?_⟩) | ((with_reducible refine gate_callee (f:=53) rfl ?_);refine goesL_ (some 11) rfl rfl Tryz.func53 (by kernel_rfl) rfl #[.int .i64 t550] rfl fq ?_;(with_reducible refine (rzOperands.calls k t550 true t552 t553 _ A3.out).mono ?_);rintro e w' ⟨rfl,⟨nd,rfl⟩⟩;refine ⟨_,rfl,?_⟩))
  go_ret;exact ⟨rew,blw⟩
 ·replace c4:=Bool.eq_false_iff.mpr c4;subst c4;have H1:(some (wrap64 (1+t553)))=some r:=by rw [if_neg (show ¬ (false=true) by decide)] at H;exact H
  clear H;have H:=H1;clear H1;obtain rfl:=Option.some.inj H;go_enter Tryz.func45,Tryz.ntmps45
  go_wp2_with (first | ((with_reducible refine gate_dst (N:=1) rfl ?_);refine box_event ?hg (N:=1) ?hd (cs:=#[.int .i64 a0_0,.int .i64 a0_1,.int .i64 a0_2,.int .i64 a0_3]) (t:=23) ?hr ?_;(case hd=>rfl);(case hg=>rfl);(case hr=>first | (go_simp;done) | (go_simp;rfl));intro gb549 hg w7 hbox hb;have n0_:=Aside0.mk (below_step blw hb);have n1_:=Aside0.mk (hbox);have n2_:=Aside0.mk ((by rw [hg];exact (below_size blw):w.heap.size≤gb549));have n3_:=Aside0.mk ((by rw [hg];exact (below_size blw):w.heap.size≤gb549));clear HB;have HB:=n0_;have BK549:=n1_;have GW549:=n2_;have GE549:=n3_;clear n0_ n1_ n2_ n3_;clear hb hbox hg;obtain ⟨hcz8_0,hcz8_1,hcz8_2,hcz8_3,hfz8_0,hfz8_1,hfz8_2,hfz8_3⟩:=bz4 BK549.out) | ((with_reducible refine gate_callee (f:=51) rfl ?_);refine goesL_ (some 10) rfl rfl Tryz.func51 (by kernel_rfl) rfl #[.int .i64 a0_0] rfl fq ?_;(with_reducible refine (rzForm.calls k a0_0 t550 _ A2.out).mono ?_);rintro e w' ⟨rfl,⟨nd,rfl⟩⟩;refine ⟨_,rfl,?_⟩) | ((with_reducible refine gate_callee (f:=53) rfl ?_);refine goesL_ (some 11) rfl rfl Tryz.func53 (by kernel_rfl) rfl #[.int .i64 t550] rfl fq ?_;(with_reducible refine (rzOperands.calls k t550 false t552 t553 _ A3.out).mono ?_);rintro e w' ⟨rfl,⟨nd,rfl⟩⟩;refine ⟨_,rfl,?_⟩))
  go_ret;exact ⟨rew,blw⟩
def insn_Len.f (k:Nat) (a0_0:Int) (a0_1:Int) (a0_2:Int) (a0_3:Int):Option (Int × Int):=(insn_Check.f k a0_0 a0_1 a0_2 a0_3).bind fun t828=>(if t828=0 then ((insn_kindOf.f a0_0).bind fun bt829=>((insn_length.f k bt829.2).bind fun t831=>(some (t831,0)))) else (some (0,t828)))
theorem insn_Len.mono:∀ a0 a1 a2 a3 k,LeO (insn_Len.f k a0 a1 a2 a3) (insn_Len.f (k+1) a0 a1 a2 a3):=by
 intro a0 a1 a2 a3 k;unfold insn_Len.f;repeat' first
   | (with_reducible exact insn_Check.mono _ _ _ _ _)
   | (with_reducible exact insn_length.mono _ _)
   | (with_reducible exact LeO.refl _)
   | (with_reducible exact LeO.none _)
   | (with_reducible refine LeO.ite ?_ ?_)
   | (with_reducible refine LeO.bind ?_ (fun _=>?_))
   | exact LeO.none _
   | refine LeO.ite ?_ ?_
   | refine LeO.bind ?_ (fun _=>?_)
set_option maxHeartbeats 8000000 in
set_option maxRecDepth 100000 in
theorem insn_Len.calls (k:Nat) (a0_0:Int) (a0_1:Int) (a0_2:Int) (a0_3:Int) (r1:Int) (r2:Int) (w:World) (h:insn_Len.f k a0_0 a0_1 a0_2 a0_3=some (r1,r2)) (hgw:GW w) :
  Calls Tryz.prog 36 #[.agg #[.int .i64 a0_0,.int .i64 a0_1,.int .i64 a0_2,.int .i64 a0_3]] w fun e w'=>e=.returned (.tuple #[.int .i64 r1,.int .i64 r2])∧Below w.heap.size w w':=by
 have hu23:=Tryz.underlying23;have HB:=Aside0.mk (Below.refl w.heap.size w);have H:((insn_Check.f k a0_0 a0_1 a0_2 a0_3).bind fun t828=>(if t828=0 then ((insn_kindOf.f a0_0).bind fun bt829=>((insn_length.f k bt829.2).bind fun t831=>(some (t831,0)))) else (some (0,t828))))=some (r1,r2):=h;clear h;replace H:=Option.bind_eq_some_iff.mp H;obtain ⟨t828,A20,H⟩:=H;replace H:(if t828=0 then ((insn_kindOf.f a0_0).bind fun bt829=>((insn_length.f k bt829.2).bind fun t831=>(some (t831,0)))) else (some (0,t828)))=some (r1,r2):=H;have A2:=Aside0.mk A20;clear A20;by_cases c3:t828=0
 ·rw [if_pos c3] at H;obtain ⟨c3b0,c3b1⟩:=bqt c3;clear c3;replace H:=Option.bind_eq_some_iff.mp H;obtain ⟨⟨t829,t830⟩,A40,H⟩:=H;replace H:((insn_length.f k t830).bind fun t831=>(some (t831,0)))=some (r1,r2):=H;have A4:=Aside0.mk A40;clear A40;replace H:=Option.bind_eq_some_iff.mp H;obtain ⟨t831,A50,H⟩:=H;replace H:(some (t831,0))=some (r1,r2):=H;have A5:=Aside0.mk A50;clear A50;simp only [Option.some.injEq,Prod.mk.injEq] at H;obtain ⟨rfl,rfl⟩:=H;go_enter Tryz.func36,Tryz.ntmps36
  go_wp2_with (first | ((with_reducible refine gate_dst (N:=1) rfl ?_);refine box_event ?hg (N:=1) ?hd (cs:=#[.int .i64 a0_0,.int .i64 a0_1,.int .i64 a0_2,.int .i64 a0_3]) (t:=23) ?hr ?_;(case hd=>rfl);(case hg=>rfl);(case hr=>first | (go_simp;done) | (go_simp;rfl));intro gb827 hg w6 hbox hb;have n0_:=Aside0.mk (below_step blw hb);have n1_:=Aside0.mk (hbox);have n2_:=Aside0.mk ((by rw [hg];exact (below_size blw):w.heap.size≤gb827));have n3_:=Aside0.mk ((by rw [hg];exact (below_size blw):w.heap.size≤gb827));clear HB;have HB:=n0_;have BK827:=n1_;have GW827:=n2_;have GE827:=n3_;clear n0_ n1_ n2_ n3_;clear hb hbox hg;obtain ⟨hcz7_0,hcz7_1,hcz7_2,hcz7_3,hfz7_0,hfz7_1,hfz7_2,hfz7_3⟩:=bz4 BK827.out) | ((with_reducible refine gate_callee (f:=31) rfl ?_);refine goesL_ (some 6) rfl rfl Tryz.func31 (by kernel_rfl) rfl #[.agg #[.int .i64 a0_0,.int .i64 a0_1,.int .i64 a0_2,.int .i64 a0_3]] rfl fq ?_;(with_reducible refine (insn_Check.calls k a0_0 a0_1 a0_2 a0_3 t828 _ A2.out gwy).mono ?_);rintro e w8 ⟨rfl,hb⟩;refine ⟨_,rfl,?_⟩;have n0_:=Aside0.mk (blk_below (g:=gb827) (o:=.cells #[.int .i64 a0_0,.int .i64 a0_1,.int .i64 a0_2,.int .i64 a0_3] 23 (0,0)) bko hb);have n1_:=Aside0.mk (below_step blw hb);clear BK827;clear HB;have BK827:=n0_;have HB:=n1_;clear n0_ n1_;(try clear hb);(try clear hb2);(try clear hk);(try clear hi);obtain ⟨hcz9_0,hcz9_1,hcz9_2,hcz9_3,hfz9_0,hfz9_1,hfz9_2,hfz9_3⟩:=bz4 BK827.out) | ((with_reducible refine gate_callee (f:=55) rfl ?_);refine goesL_ (some 12) rfl rfl Tryz.func55 (by kernel_rfl) rfl #[.int .i64 a0_0] rfl fq ?_;(with_reducible refine (insn_kindOf.calls a0_0 t829 t830 _ A4.out gwy).mono ?_);rintro e w10 ⟨rfl,hb⟩;refine ⟨_,rfl,?_⟩;have n0_:=Aside0.mk (blk_below (g:=gb827) (o:=.cells #[.int .i64 a0_0,.int .i64 a0_1,.int .i64 a0_2,.int .i64 a0_3] 23 (0,0)) bko hb);have n1_:=Aside0.mk (below_step blw hb);clear BK827;clear HB;have BK827:=n0_;have HB:=n1_;clear n0_ n1_;(try clear hb);(try clear hb2);(try clear hk);(try clear hi)) | ((with_reducible refine gate_callee (f:=56) rfl ?_);refine goesL_ (some 14) rfl rfl Tryz.func56 (by kernel_rfl) rfl #[.int .i64 t830] rfl fq ?_;(with_reducible refine (insn_length.calls k t830 t831 _ A5.out).mono ?_);rintro e w' ⟨rfl,⟨nd,rfl⟩⟩;refine ⟨_,rfl,?_⟩))
  go_ret2;exact ⟨rew,blw⟩
 ·rw [if_neg c3] at H;obtain ⟨c3b0,c3b1⟩:=bqf c3;simp only [Option.some.injEq,Prod.mk.injEq] at H;obtain ⟨rfl,rfl⟩:=H;go_enter Tryz.func36,Tryz.ntmps36
  go_wp2_with (first | ((with_reducible refine gate_dst (N:=1) rfl ?_);refine box_event ?hg (N:=1) ?hd (cs:=#[.int .i64 a0_0,.int .i64 a0_1,.int .i64 a0_2,.int .i64 a0_3]) (t:=23) ?hr ?_;(case hd=>rfl);(case hg=>rfl);(case hr=>first | (go_simp;done) | (go_simp;rfl));intro gb827 hg w11 hbox hb;have n0_:=Aside0.mk (below_step blw hb);have n1_:=Aside0.mk (hbox);have n2_:=Aside0.mk ((by rw [hg];exact (below_size blw):w.heap.size≤gb827));have n3_:=Aside0.mk ((by rw [hg];exact (below_size blw):w.heap.size≤gb827));clear HB;have HB:=n0_;have BK827:=n1_;have GW827:=n2_;have GE827:=n3_;clear n0_ n1_ n2_ n3_;clear hb hbox hg;obtain ⟨hcz12_0,hcz12_1,hcz12_2,hcz12_3,hfz12_0,hfz12_1,hfz12_2,hfz12_3⟩:=bz4 BK827.out) | ((with_reducible refine gate_callee (f:=31) rfl ?_);refine goesL_ (some 6) rfl rfl Tryz.func31 (by kernel_rfl) rfl #[.agg #[.int .i64 a0_0,.int .i64 a0_1,.int .i64 a0_2,.int .i64 a0_3]] rfl fq ?_;(with_reducible refine (insn_Check.calls k a0_0 a0_1 a0_2 a0_3 t828 _ A2.out gwy).mono ?_);rintro e w13 ⟨rfl,hb⟩;refine ⟨_,rfl,?_⟩;have n0_:=Aside0.mk (blk_below (g:=gb827) (o:=.cells #[.int .i64 a0_0,.int .i64 a0_1,.int .i64 a0_2,.int .i64 a0_3] 23 (0,0)) bko hb);have n1_:=Aside0.mk (below_step blw hb);clear BK827;clear HB;have BK827:=n0_;have HB:=n1_;clear n0_ n1_;(try clear hb);(try clear hb2);(try clear hk);(try clear hi)))
  go_ret2;exact ⟨rew,blw⟩
def insn_isBranch.f (a0:Int):Option (Bool):=if a0≥21 then (if a0≤25 then (some true) else (if a0=27 then (some true) else (some (a0 == 32)))) else (if a0=27 then (some true) else (some (a0 == 32)))
set_option maxHeartbeats 8000000 in
set_option maxRecDepth 100000 in
theorem insn_isBranch.calls (a0:Int) (r:Bool) (w:World) (h:insn_isBranch.f a0=some r) :
  Calls Tryz.prog 81 #[.int .i64 a0] w fun e w'=>e=.returned (.bool r)∧Drawn0 w w':=by
 have H:(if a0≥21 then (if a0≤25 then (some true) else (if a0=27 then (some true) else (some (a0 == 32)))) else (if a0=27 then (some true) else (some (a0 == 32))))=some r:=h;clear h;by_cases c2:a0≥21
 ·rw [if_pos c2] at H;have c2b0:decide (21≤a0)=true:=decide_eq_true c2;clear c2;by_cases c3:a0≤25
  ·rw [if_pos c3] at H;have c3b0:=decide_eq_true c3;clear c3;obtain rfl:=Option.some.inj H;go_enter Tryz.func81,Tryz.ntmps81
   go_wp2;go_ret;exact ⟨by first | rfl | (simp;done) | (simp [*];done),by repeat (first | exact Drawn0.refl _ | apply Drawn0.step)⟩
  ·rw [if_neg c3] at H;have c3b0:=decide_eq_false c3;clear c3;by_cases c4:a0=27
   ·rw [if_pos c4] at H;obtain ⟨c4b0,c4b1⟩:=bqt c4;clear c4;obtain rfl:=Option.some.inj H;go_enter Tryz.func81,Tryz.ntmps81
    go_wp2;go_ret;exact ⟨by first | rfl | (simp;done) | (simp [*];done),by repeat (first | exact Drawn0.refl _ | apply Drawn0.step)⟩
   ·rw [if_neg c4] at H;obtain ⟨c4b0,c4b1⟩:=bqf c4;obtain rfl:=Option.some.inj H;go_enter Tryz.func81,Tryz.ntmps81
    go_wp2;go_ret;exact ⟨by first | rfl | (simp;done) | (simp [*];done),by repeat (first | exact Drawn0.refl _ | apply Drawn0.step)⟩
 ·rw [if_neg c2] at H;have c2b0:decide (21≤a0)=false:=decide_eq_false c2;clear c2;by_cases c5:a0=27
  ·rw [if_pos c5] at H;obtain ⟨c5b0,c5b1⟩:=bqt c5;clear c5;obtain rfl:=Option.some.inj H;go_enter Tryz.func81,Tryz.ntmps81
   go_wp2;go_ret;exact ⟨by first | rfl | (simp;done) | (simp [*];done),by repeat (first | exact Drawn0.refl _ | apply Drawn0.step)⟩
  ·rw [if_neg c5] at H;obtain ⟨c5b0,c5b1⟩:=bqf c5;obtain rfl:=Option.some.inj H;go_enter Tryz.func81,Tryz.ntmps81
   go_wp2;go_ret;exact ⟨by first | rfl | (simp;done) | (simp [*];done),by repeat (first | exact Drawn0.refl _ | apply Drawn0.step)⟩
end Go.Proofs.YtffojmgmpfjlhaaGreatDoor.Q
