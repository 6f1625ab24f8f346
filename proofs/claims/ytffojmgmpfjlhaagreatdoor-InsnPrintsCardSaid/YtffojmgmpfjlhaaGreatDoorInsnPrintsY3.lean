/- Parts of the proof: InsnPrints: what Print and Parse answer is what the reference answers: the law returns true for every input; the inputs read as they did; the package-level variables hold what the program's text lays in them: the tied card. -/
import Derived.Test.YtffojmgmpfjlhaaGreatDoorInsnPrintsY2
set_option maxHeartbeats 8000000
set_option maxRecDepth 100000
set_option linter.unusedVariables false
set_option linter.unusedSimpArgs false
namespace Go.Proofs.YtffojmgmpfjlhaaGreatDoor.Q
open Go.Proofs.YtffojmgmpfjlhaaGreatDoor Go.RowKit Go.Proofs.YtffojmgmpfjlhaaGreatDoorW.PrintWords Go.Proofs.YtffojmgmpfjlhaaGreatDoorW.PrintLast Go.Proofs.YtffojmgmpfjlhaaGreatDoorW.PrintMore
attribute [local go_sem] max2_int min2_int max_two min_two max_three min_three max_four min_four
def rzCheck.j0:Nat→Int→Bool→Int→Int→Int→Int→Option (Int)
 | 0,_,_,_,_,_,_=>none
 | k+1,x3,x18,x316000,x316001,x316002,x316003=>if x18=true then (some 20) else ((rzOperands.f k x3).bind fun bt318=>(if bt318.1=true then (if x316001 < 0 then (some 20) else (if x316001 > 7 then (some 20) else (if bt318.2.1=true then (if x316002 < 0 then (some 20) else (if x316002 > 7 then (some 20) else (some 0))) else (if x316002=0 then (some 0) else (some 20))))) else (if x316001=0 then (if bt318.2.1=true then (if x316002 < 0 then (some 20) else (if x316002 > 7 then (some 20) else (some 0))) else (if x316002=0 then (some 0) else (some 20))) else (some 20))))
def rzCheck.f (k:Nat) (a0_0:Int) (a0_1:Int) (a0_2:Int) (a0_3:Int):Option (Int):=(rzForm.f k a0_0).bind fun t316=>(if t316=0 then (rzCheck.j0 k t316 true a0_0 a0_1 a0_2 a0_3) else ((rzfits.f k t316 a0_3).bind fun t317=>(rzCheck.j0 k t316 (!t317) a0_0 a0_1 a0_2 a0_3)))
theorem rzCheck.mono_l:∀ k,(∀ y0 y1 y2 y3 y4 y5,LeO (rzCheck.j0 k y0 y1 y2 y3 y4 y5) (rzCheck.j0 (k+1) y0 y1 y2 y3 y4 y5))
 | 0=>fun _ _ _ _ _ _ r h=>by simp [rzCheck.j0] at h
 | k+1=>by
  have ih0:=rzCheck.mono_l k
  ·intro y0 y1 y2 y3 y4 y5;unfold rzCheck.j0;repeat' first
   | (with_reducible exact ih0 _ _ _ _ _ _)
   | (with_reducible exact rzForm.mono _ _)
   | (with_reducible exact rzOperands.mono _ _)
   | (with_reducible exact rzfits.mono _ _ _)
   | (with_reducible exact LeO.refl _)
   | (with_reducible exact LeO.none _)
   | (with_reducible refine LeO.ite ?_ ?_)
   | (with_reducible refine LeO.bind ?_ (fun _=>?_))
   | exact LeO.none _
   | refine LeO.ite ?_ ?_
   | refine LeO.bind ?_ (fun _=>?_)
theorem rzCheck.mono:∀ a0 a1 a2 a3 k,LeO (rzCheck.f k a0 a1 a2 a3) (rzCheck.f (k+1) a0 a1 a2 a3):=by
 intro a0 a1 a2 a3 k;have ih0:=rzCheck.mono_l k;unfold rzCheck.f;repeat' first
   | (with_reducible exact ih0 _ _ _ _ _ _)
   | (with_reducible exact rzForm.mono _ _)
   | (with_reducible exact rzOperands.mono _ _)
   | (with_reducible exact rzfits.mono _ _ _)
   | (with_reducible exact LeO.refl _)
   | (with_reducible exact LeO.none _)
   | (with_reducible refine LeO.ite ?_ ?_)
   | (with_reducible refine LeO.bind ?_ (fun _=>?_))
   | exact LeO.none _
   | refine LeO.ite ?_ ?_
   | refine LeO.bind ?_ (fun _=>?_)
theorem rzCheck.calls (k:Nat) (a0_0:Int) (a0_1:Int) (a0_2:Int) (a0_3:Int) (r:Int) (w:World) (h:rzCheck.f k a0_0 a0_1 a0_2 a0_3=some r) :
  Calls Tryz.prog 19 #[.agg #[.int .i64 a0_0,.int .i64 a0_1,.int .i64 a0_2,.int .i64 a0_3]] w fun e w'=>e=.returned (.int .i64 r)∧Below w.heap.size w w':=by
 have hu23:=Tryz.underlying23;have HB:=Aside0.mk (Below.refl w.heap.size w);unfold rzCheck.f at h;have H:=h;clear h;obtain ⟨t316,A2,H⟩:=bas H;(try dsimp only at H);have HC3:=Aside0.mk H;clear H;go_enter Tryz.func19,Tryz.ntmps19
 go_upto_region 2 with (first | ((with_reducible refine gate_dst (N:=1) rfl ?_);refine bxe (N:=1) (cs:=#[.int .i64 a0_0,.int .i64 a0_1,.int .i64 a0_2,.int .i64 a0_3]) (t:=23) ?_;intro gb315 hg w4 hbox hb;have BK315:=Aside0.mk hbox;have GW315:Aside0 (w.heap.size≤gb315):=⟨gwb⟩;have GE315:Aside0 (w.heap.size≤gb315):=⟨gwb⟩;replace HB:=Aside0.mk (below_step blw hb);clear hb hbox hg;obtain ⟨hcz5_0,hcz5_1,hcz5_2,hcz5_3,hfz5_0,hfz5_1,hfz5_2,hfz5_3⟩:=bz4 BK315.out) | ((with_reducible refine gate_callee (f:=51) rfl ?_);refine gl (some 9) Tryz.func51 #[.int .i64 a0_0] ?_;(with_reducible refine (rzForm.calls k a0_0 _ _ A2.out).mono ?_);rintro e w' ⟨rfl,⟨nd,rfl⟩⟩;refine ⟨_,rfl,?_⟩))
 (try simp only [Act.put,List.setIfInBounds_toArray,List.set_cons_zero,List.set_cons_succ]);go_cut [18] (fun v18 wc=>∃ (kq:Nat) (x18_2:Bool),v18=.bool x18_2∧Aside0 (rzCheck.j0 kq t316 x18_2 a0_0 a0_1 a0_2 a0_3=some r)∧Aside0 (kq≤k)∧Aside0 (wc.heap[gb315]?=some (.cells #[.int .i64 a0_0,.int .i64 a0_1,.int .i64 a0_2,.int .i64 a0_3] 23 (0,0)))∧Aside0 (Below w.heap.size w wc))
 case first =>
  have H:=HC3.out;clear HC3;by_cases c6:t316=0
  ·rw [if_pos c6] at H;obtain ⟨c6b0,c6b1⟩:=bqt c6;clear c6;(first | rw [c6b0] | (simp only [i64_w,i32_w];rw [c6b0]) | skip);have H':=Aside0.mk H;clear H;go_wp2;go_meet
   case rel=>exact ⟨_,(true),rsd,H',⟨by first | omega | exact Nat.le_refl _⟩,⟨bko⟩,⟨blw⟩⟩
  ·rw [if_neg c6] at H;obtain ⟨c6b0,c6b1⟩:=bqf c6;(first | rw [c6b0] | (simp only [i64_w,i32_w];rw [c6b0]) | skip);obtain ⟨t317,A7,H⟩:=bas H;(try dsimp only at H);have H':=Aside0.mk H;clear H;obtain ⟨_,_,_,_,_,_,_,_⟩:=bz4 BK315.out;go_wp2_with (first | (go_at_call 52;(with_reducible refine (rzfits.calls k _ a0_3 _ _ A7.out).mono ?_);rintro e w' ⟨rfl,⟨nd,rfl⟩⟩))
   go_meet
   case rel=>exact ⟨_,(!t317),rsd,H',⟨by first | omega | exact Nat.le_refl _⟩,⟨bko⟩,⟨blw⟩⟩
 case rest =>
  clear HC3;try clear hcz5_0
  try clear hcz5_1
  try clear hcz5_2
  try clear hcz5_3
  try clear hfz5_0
  try clear hfz5_1
  try clear hfz5_2
  try clear hfz5_3
  obtain ⟨kq,x18_2,rfl,HA,HJ2,BK315,HB⟩:=hcut;cases kq with
  | zero=>exact absurd HA.out (by simp [rzCheck.j0])
  | succ kj2 =>
   have H:=HA.out;clear HA;simp only [rzCheck.j0] at H;by_cases c9:x18_2=true
   ·subst c9;rw [if_pos rfl] at H;obtain rfl:=Option.some.inj H;go_wp2;go_ret;exact ⟨rew,blw⟩
   ·replace c9:=Bool.eq_false_iff.mpr c9;subst c9;rw [if_neg (show ¬ (false=true) by decide)] at H;obtain ⟨⟨t318,t319,t320⟩,A10,H⟩:=bas H;(try dsimp only at H);by_cases c11:t318=true
    ·subst c11;rw [if_pos rfl] at H;by_cases c12:a0_1 < 0
     ·rw [if_pos c12] at H;have c12b0:=decide_eq_true c12;clear c12;obtain rfl:=Option.some.inj H;go_wp2_with (first | ((with_reducible refine gate_callee (f:=53) rfl ?_);refine gl (some 21) Tryz.func53 #[.int .i64 t316] ?_;(with_reducible refine (rzOperands.calls kj2 _ true _ _ _ A10.out).mono ?_);rintro e w' ⟨rfl,⟨nd,rfl⟩⟩;refine ⟨_,rfl,?_⟩;obtain ⟨_,_,_,_,_,_,_,_⟩:=bz4 BK315.out))
      go_ret;exact ⟨rew,blw⟩
     ·rw [if_neg c12] at H;have c12b0:=decide_eq_false c12;clear c12;by_cases c14:a0_1 > 7
      ·rw [if_pos c14] at H;have c14b0:decide (7 < a0_1)=true:=decide_eq_true c14;clear c14;obtain rfl:=Option.some.inj H;go_wp2_with (first | ((with_reducible refine gate_callee (f:=53) rfl ?_);refine gl (some 21) Tryz.func53 #[.int .i64 t316] ?_;(with_reducible refine (rzOperands.calls kj2 _ true _ _ _ A10.out).mono ?_);rintro e w' ⟨rfl,⟨nd,rfl⟩⟩;refine ⟨_,rfl,?_⟩;obtain ⟨_,_,_,_,_,_,_,_⟩:=bz4 BK315.out))
       go_ret;exact ⟨rew,blw⟩
      ·rw [if_neg c14] at H;have c14b0:decide (7 < a0_1)=false:=decide_eq_false c14;clear c14;by_cases c16:t319=true
       ·subst c16;rw [if_pos rfl] at H;by_cases c17:a0_2 < 0
        ·rw [if_pos c17] at H;have c17b0:=decide_eq_true c17;clear c17;obtain rfl:=Option.some.inj H;go_wp2_with (first | ((with_reducible refine gate_callee (f:=53) rfl ?_);refine gl (some 21) Tryz.func53 #[.int .i64 t316] ?_;(with_reducible refine (rzOperands.calls kj2 _ true true _ _ A10.out).mono ?_);rintro e w' ⟨rfl,⟨nd,rfl⟩⟩;refine ⟨_,rfl,?_⟩;obtain ⟨_,_,_,_,_,_,_,_⟩:=bz4 BK315.out))
         go_ret;exact ⟨rew,blw⟩
        ·rw [if_neg c17] at H;have c17b0:=decide_eq_false c17;clear c17;by_cases c19:a0_2 > 7
         ·rw [if_pos c19] at H;have c19b0:decide (7 < a0_2)=true:=decide_eq_true c19;clear c19;obtain rfl:=Option.some.inj H;go_wp2_with (first | ((with_reducible refine gate_callee (f:=53) rfl ?_);refine gl (some 21) Tryz.func53 #[.int .i64 t316] ?_;(with_reducible refine (rzOperands.calls kj2 _ true true _ _ A10.out).mono ?_);rintro e w' ⟨rfl,⟨nd,rfl⟩⟩;refine ⟨_,rfl,?_⟩;obtain ⟨_,_,_,_,_,_,_,_⟩:=bz4 BK315.out))
          go_ret;exact ⟨rew,blw⟩
         ·rw [if_neg c19] at H;have c19b0:decide (7 < a0_2)=false:=decide_eq_false c19;clear c19;obtain rfl:=Option.some.inj H;go_wp2_with (first | ((with_reducible refine gate_callee (f:=53) rfl ?_);refine gl (some 21) Tryz.func53 #[.int .i64 t316] ?_;(with_reducible refine (rzOperands.calls kj2 _ true true _ _ A10.out).mono ?_);rintro e w' ⟨rfl,⟨nd,rfl⟩⟩;refine ⟨_,rfl,?_⟩;obtain ⟨_,_,_,_,_,_,_,_⟩:=bz4 BK315.out))
          go_ret;exact ⟨rew,blw⟩
       ·replace c16:=Bool.eq_false_iff.mpr c16;subst c16;rw [if_neg (show ¬ (false=true) by decide)] at H;by_cases c22:a0_2=0
        ·rw [if_pos c22] at H;obtain ⟨c22b0,c22b1⟩:=bqt c22;clear c22;obtain rfl:=Option.some.inj H;go_wp2_with (first | ((with_reducible refine gate_callee (f:=53) rfl ?_);refine gl (some 21) Tryz.func53 #[.int .i64 t316] ?_;(with_reducible refine (rzOperands.calls kj2 _ true false _ _ A10.out).mono ?_);rintro e w' ⟨rfl,⟨nd,rfl⟩⟩;refine ⟨_,rfl,?_⟩;obtain ⟨_,_,_,_,_,_,_,_⟩:=bz4 BK315.out))
         go_ret;exact ⟨rew,blw⟩
        ·rw [if_neg c22] at H;obtain ⟨c22b0,c22b1⟩:=bqf c22;obtain rfl:=Option.some.inj H;go_wp2_with (first | ((with_reducible refine gate_callee (f:=53) rfl ?_);refine gl (some 21) Tryz.func53 #[.int .i64 t316] ?_;(with_reducible refine (rzOperands.calls kj2 _ true false _ _ A10.out).mono ?_);rintro e w' ⟨rfl,⟨nd,rfl⟩⟩;refine ⟨_,rfl,?_⟩;obtain ⟨_,_,_,_,_,_,_,_⟩:=bz4 BK315.out))
         go_ret;exact ⟨rew,blw⟩
    ·replace c11:=Bool.eq_false_iff.mpr c11;subst c11;rw [if_neg (show ¬ (false=true) by decide)] at H;by_cases c25:a0_1=0
     ·rw [if_pos c25] at H;obtain ⟨c25b0,c25b1⟩:=bqt c25;clear c25;by_cases c26:t319=true
      ·subst c26;rw [if_pos rfl] at H;by_cases c27:a0_2 < 0
       ·rw [if_pos c27] at H;have c27b0:=decide_eq_true c27;clear c27;obtain rfl:=Option.some.inj H;go_wp2_with (first | ((with_reducible refine gate_callee (f:=53) rfl ?_);refine gl (some 21) Tryz.func53 #[.int .i64 t316] ?_;(with_reducible refine (rzOperands.calls kj2 _ false true _ _ A10.out).mono ?_);rintro e w' ⟨rfl,⟨nd,rfl⟩⟩;refine ⟨_,rfl,?_⟩;obtain ⟨_,_,_,_,_,_,_,_⟩:=bz4 BK315.out))
        go_ret;exact ⟨rew,blw⟩
       ·rw [if_neg c27] at H;have c27b0:=decide_eq_false c27;clear c27;by_cases c29:a0_2 > 7
        ·rw [if_pos c29] at H;have c29b0:decide (7 < a0_2)=true:=decide_eq_true c29;clear c29;obtain rfl:=Option.some.inj H;go_wp2_with (first | ((with_reducible refine gate_callee (f:=53) rfl ?_);refine gl (some 21) Tryz.func53 #[.int .i64 t316] ?_;(with_reducible refine (rzOperands.calls kj2 _ false true _ _ A10.out).mono ?_);rintro e w' ⟨rfl,⟨nd,rfl⟩⟩;refine ⟨_,rfl,?_⟩;obtain ⟨_,_,_,_,_,_,_,_⟩:=bz4 BK315.out))
         go_ret;exact ⟨rew,blw⟩
        ·rw [if_neg c29] at H;have c29b0:decide (7 < a0_2)=false:=decide_eq_false c29;clear c29;obtain rfl:=Option.some.inj H;go_wp2_with (first | ((with_reducible refine gate_callee (f:=53) rfl ?_);refine gl (some 21) Tryz.func53 #[.int .i64 t316] ?_;(with_reducible refine (rzOperands.calls kj2 _ false true _ _ A10.out).mono ?_);rintro e w' ⟨rfl,⟨nd,rfl⟩⟩;refine ⟨_,rfl,?_⟩;obtain ⟨_,_,_,_,_,_,_,_⟩:=bz4 BK315.out))
         go_ret;exact ⟨rew,blw⟩
      ·replace c26:=Bool.eq_false_iff.mpr c26;subst c26;rw [if_neg (show ¬ (false=true) by decide)] at H;by_cases c32:a0_2=0
       ·rw [if_pos c32] at H;obtain ⟨c32b0,c32b1⟩:=bqt c32;clear c32;obtain rfl:=Option.some.inj H;go_wp2_with (first | ((with_reducible refine gate_callee (f:=53) rfl ?_);refine gl (some 21) Tryz.func53 #[.int .i64 t316] ?_;(with_reducible refine (rzOperands.calls kj2 _ false false _ _ A10.out).mono ?_);rintro e w' ⟨rfl,⟨nd,rfl⟩⟩;refine ⟨_,rfl,?_⟩;obtain ⟨_,_,_,_,_,_,_,_⟩:=bz4 BK315.out))
        go_ret;exact ⟨rew,blw⟩
       ·rw [if_neg c32] at H;obtain ⟨c32b0,c32b1⟩:=bqf c32;obtain rfl:=Option.some.inj H;go_wp2_with (first | ((with_reducible refine gate_callee (f:=53) rfl ?_);refine gl (some 21) Tryz.func53 #[.int .i64 t316] ?_;(with_reducible refine (rzOperands.calls kj2 _ false false _ _ A10.out).mono ?_);rintro e w' ⟨rfl,⟨nd,rfl⟩⟩;refine ⟨_,rfl,?_⟩;obtain ⟨_,_,_,_,_,_,_,_⟩:=bz4 BK315.out))
        go_ret;exact ⟨rew,blw⟩
     ·rw [if_neg c25] at H;obtain ⟨c25b0,c25b1⟩:=bqf c25;obtain rfl:=Option.some.inj H;go_wp2_with (first | ((with_reducible refine gate_callee (f:=53) rfl ?_);refine gl (some 21) Tryz.func53 #[.int .i64 t316] ?_;(with_reducible refine (rzOperands.calls kj2 _ false _ _ _ A10.out).mono ?_);rintro e w' ⟨rfl,⟨nd,rfl⟩⟩;refine ⟨_,rfl,?_⟩;obtain ⟨_,_,_,_,_,_,_,_⟩:=bz4 BK315.out))
      go_ret;exact ⟨rew,blw⟩
end Go.Proofs.YtffojmgmpfjlhaaGreatDoor.Q
namespace Go.Proofs.YtffojmgmpfjlhaaGreatDoor.Q
open Go.Proofs.Ix hiding rd
open Go.Proofs.YtffojmgmpfjlhaaGreatDoor Go.RowKit Go.Proofs.YtffojmgmpfjlhaaGreatDoorW.PrintWords
theorem bytesOf_g (k:Nat) (f:Int) (h:1≤k):insn_bytesOf.f k f=some (bytesM f:Int):=by
 obtain ⟨k,rfl⟩:∃ m,k=m+1:=⟨k - 1,by omega⟩
 exact bytesOf_f k f
theorem bytes_in (f:Int):bytesM f=0∨bytesM f=1∨bytesM f=2∨bytesM f=10:=by
 unfold bytesM
 (repeat' split) <;> simp
theorem fits_f (f n:Int) (k:Nat) (hk:1≤k):insn_fits.f k f n=some (fitsM f n):=by
 unfold insn_fits.f fitsM
 by_cases h3:f=3
 ·rw [if_pos h3,if_pos h3]
 rw [if_neg h3,if_neg h3]
 by_cases h8:f=8
 ·rw [if_pos h8,if_pos h8]
  by_cases c:n≥0
  ·rw [if_pos c];simp;omega
  ·rw [if_neg c];simp;omega
 rw [if_neg h8,if_neg h8,bytesOf_g k f hk,Option.bind_some]
 have h10:bytesM f≠10:=fun h=>h3 (bytes_ten.2.1 h)
 rcases bytes_in f with e | e | e | e
 ·rw [e];simp
 ·rw [e]
  simp only [show ¬ (((1:Nat):Int)=0) by omega,show (((1:Nat):Int)=1) by omega,if_false,if_true,show ¬ ((1:Nat)=0) by omega]
  by_cases c:n≥-64
  ·rw [if_pos c];simp;omega
  ·rw [if_neg c];simp;omega
 ·rw [e]
  simp only [show ¬ (((2:Nat):Int)=0) by omega,show ¬ (((2:Nat):Int)=1) by omega,show (((2:Nat):Int)=2) by omega,if_false,if_true,show ¬ ((2:Nat)=0) by omega,show ¬ ((2:Nat)=1) by omega]
  by_cases c:n≥-8192
  ·rw [if_pos c];simp;omega
  ·rw [if_neg c];simp;omega
 ·exact absurd e h10
def chkD (op a b imm:Int):Int :=
 if nameM op=[] then 20
 else if 0≤a∧a≤7∧0≤b∧b≤7∧(hasA (formM op)=true∨a=0)∧(hasB (formM op)=true∨b=0)∧fitsM (formM op) imm=true then 0 else 20
theorem check_f (op a b imm:Int) (k:Nat) (hk:1≤k):insn_Check.f k op a b imm=some (chkD op a b imm):=by
 unfold insn_Check.f chkD insn_kindOf.f
 rw [Option.bind_some]
 by_cases c1:nameM op=[]
 ·rw [if_pos ((bS_nil _).2 c1),if_pos c1]
 rw [if_neg (fun h=>c1 ((bS_nil _).1 h)),if_neg c1]
 simp only [hasA_f,hasB_f,fits_f _ _ k hk,Option.bind_some]
 generalize hasA (formM op)=A
 generalize hasB (formM op)=B
 generalize fitsM (formM op) imm=F
 cases A <;> cases B <;> cases F <;> simp only [Bool.false_eq_true,if_true,if_false,true_or,false_or,and_true,and_false,true_and] <;> (repeat' split) <;> first | rfl | (exfalso;omega)
theorem rfits_f {p r:Int} (h:(p,r)∈FP) (n:Int) (k:Nat) (hk:12≤k):rzfits.f k r n=some (fitsM p n):=by
 obtain ⟨k,rfl⟩:∃ m,k=m+12:=⟨k - 12,by omega⟩
 unfold rzfits.f fitsM
 rw [opnd_any h,Option.bind_some]
 have h10:=fp_ten _ h
 have hb:=bytes_ten (f:=p)
 simp only at h10
 by_cases h8:p=8
 ·have h3:¬ p=3:=by omega
  rw [if_pos (h10.2 h8),if_neg h3,if_pos h8]
  by_cases c:n≥0
  ·rw [if_pos c,Option.some.injEq,Bool.eq_iff_iff];simp;omega
  ·rw [if_neg c];simp;omega
 rw [if_neg (fun e=>h8 (h10.1 e)),if_neg (show ¬ p=8 from h8)]
 simp only
 rcases bytes_in p with e | e | e | e
 ·have h3:¬ p=3:=fun h=>by have:=hb.2.2 h;omega
  rw [e,if_neg h3];simp
 ·have h3:¬ p=3:=fun h=>by have:=hb.2.2 h;omega
  rw [e,if_neg h3]
  simp only [show ¬ (((1:Nat):Int)=0) by omega,show (((1:Nat):Int)=1) by omega,if_false,if_true,show ¬ ((1:Nat)=0) by omega]
  by_cases c:n≥-64
  ·rw [if_pos c,Option.some.injEq,Bool.eq_iff_iff];simp;omega
  ·rw [if_neg c];simp;omega
 ·have h3:¬ p=3:=fun h=>by have:=hb.2.2 h;omega
  rw [e,if_neg h3]
  simp only [show ¬ ((2:Int)=1) by omega,show ((2:Int)=2) from rfl,show ¬ (((2:Nat):Int)=0) by omega,show ¬ (((2:Nat):Int)=1) by omega,show (((2:Nat):Int)=2) by omega,if_false,if_true,show ¬ ((2:Nat)=0) by omega,show ¬ ((2:Nat)=1) by omega]
  by_cases c:n≥-8192
  ·rw [if_pos c,Option.some.injEq,Bool.eq_iff_iff];simp;omega
  ·rw [if_neg c];simp;omega
 ·have h3:=hb.2.1 e
  rw [e,if_pos h3]
  rfl
theorem rcheck_f (op a b imm:Int) (k:Nat) (hk:30≤k):rzCheck.f k op a b imm=some (chkD op a b imm):=by
 obtain ⟨k,rfl⟩:∃ m,k=m+12:=⟨k - 12,by omega⟩
 obtain ⟨r,hf,hr⟩:=form_any op
 unfold rzCheck.f chkD
 rw [hf,Option.bind_some]
 rcases hr with ⟨hn,hr⟩ | ⟨hn,hr,hp⟩
 ·rw [if_pos hr,if_pos hn]
  show rzCheck.j0 (k+11+1) _ _ _ _ _ _=_
  rw [rzCheck.j0,if_pos rfl]
 rw [if_neg hr,if_neg hn,rfits_f hp imm _ (by omega),Option.bind_some]
 show rzCheck.j0 (k+11+1) _ _ _ _ _ _=_
 rw [rzCheck.j0,show k+11=(k - 1)+12 by omega,opnd_any hp,Option.bind_some]
 generalize hasA (formM op)=A
 generalize hasB (formM op)=B
 generalize fitsM (formM op) imm=F
 cases A <;> cases B <;> cases F <;> simp only [Bool.false_eq_true,if_true,if_false,true_or,false_or,and_true,and_false,true_and,Bool.not_true,Bool.not_false] <;> (repeat' split) <;> first | rfl | (exfalso;omega)
end Go.Proofs.YtffojmgmpfjlhaaGreatDoor.Q
namespace Go.Proofs.YtffojmgmpfjlhaaGreatDoor.Q
open Go.Proofs.Ix hiding rd
open Go Go.Proofs.YtffojmgmpfjlhaaGreatDoor Go.RowKit Go.Proofs.YtffojmgmpfjlhaaGreatDoorW.PrintWords
def numW (v:Int):List UInt8:=Lib.itoa v
def distW (v:Int):List UInt8:=if v < 0 then 46 :: numW v else 46 :: 43 :: numW v
def addrW (b v:Int):List UInt8:=91 :: (regW b ++ ((if v > 0 then 43 :: numW v else if v < 0 then numW v else []) ++ [93]))
def memW (b:Int):List UInt8:=91 :: (regW b ++ [93])
def rdW (a b v:Int):Rd→List UInt8
 | .a=>regW a
 | .b=>regW b
 | .num=>numW v
 | .mem=>memW b
 | .addr=>addrW b v
 | .target=>distW v
theorem Cur.set {l l':L9} {t:List UInt8} (h:Cur l t) (hs:l'.s=l.s) (ha:l'.at_=l.at_):Cur l' t:=by
 unfold Cur at h ⊢
 rw [hs,ha]
 exact h
structure Ok1 (op a b v:Int):Prop where
 a0:0≤a
 a7:a≤7
 b0:0≤b
 b7:b≤7
 v0:-9223372036854775808≤v
 v1:v≤9223372036854775807
 fits:fitsM (formM op) v=true
def tailW (a b v:Int) (ks:List Rd):List UInt8:=ks.flatMap fun k=>44 :: 32 :: rdW a b v k
end Go.Proofs.YtffojmgmpfjlhaaGreatDoor.Q
namespace Go.Proofs.YtffojmgmpfjlhaaGreatDoor.Q
open Go.Proofs.YtffojmgmpfjlhaaGreatDoor Go.RowKit Go.Proofs.YtffojmgmpfjlhaaGreatDoorW.PrintWords Go.Proofs.YtffojmgmpfjlhaaGreatDoorW.PrintLast Go.Proofs.YtffojmgmpfjlhaaGreatDoorW.PrintMore
attribute [local go_sem] max2_int min2_int max_two min_two max_three min_three max_four min_four
def IsS117 (w0 W:World) (g:Nat) (f0:ByteArray) (f1:Int) (f2:Bool) (f3:Bool) (f4:Bool) (f5:ByteArray):Prop:=W.heap[g]?=some (.cells #[.string f0,.int .i64 f1,.bool f2,.bool f3,.bool f4,.string f5] 117 (0,0))∧w0.heap.size≤g
theorem IsS117.grown {w0 W:World} {g:Nat} {f0:ByteArray} {f1:Int} {f2:Bool} {f3:Bool} {f4:Bool} {f5:ByteArray} {W1:World} {row:Option Nat} (h:IsS117 w0 W g f0 f1 f2 f3 f4 f5) (hw:W.grownBy W1 row) (hne:some g≠row):IsS117 w0 W1 g f0 f1 f2 f3 f4 f5:=by
 obtain ⟨hb,hg⟩:=h;exact ⟨blk_grown hb hw hne,hg⟩
theorem IsS117.below {w0 W:World} {g:Nat} {f0:ByteArray} {f1:Int} {f2:Bool} {f3:Bool} {f4:Bool} {f5:ByteArray} {W1:World} (h:IsS117 w0 W g f0 f1 f2 f3 f4 f5) (hw:Below W.heap.size W W1):IsS117 w0 W1 g f0 f1 f2 f3 f4 f5:=h.grown (grown_of_below hw none) (by simp)
theorem IsS117.alloc {w0 W:World} {g:Nat} {f0:ByteArray} {f1:Int} {f2:Bool} {f3:Bool} {f4:Bool} {f5:ByteArray} (h:IsS117 w0 W g f0 f1 f2 f3 f4 f5) (o:Obj):IsS117 w0 (W.alloc o) g f0 f1 f2 f3 f4 f5:=h.below (below_alloc (Below.refl _ _) o)
theorem IsS117.drewN {w0 W:World} {g:Nat} {f0:ByteArray} {f1:Int} {f2:Bool} {f3:Bool} {f4:Bool} {f5:ByteArray} (h:IsS117 w0 W g f0 f1 f2 f3 f4 f5) (m:Nat):IsS117 w0 (W.drewN m) g f0 f1 f2 f3 f4 f5:=h
theorem IsS117.drew {w0 W:World} {g:Nat} {f0:ByteArray} {f1:Int} {f2:Bool} {f3:Bool} {f4:Bool} {f5:ByteArray} (h:IsS117 w0 W g f0 f1 f2 f3 f4 f5):IsS117 w0 W.drew g f0 f1 f2 f3 f4 f5:=h
theorem IsS117.at_ {w0 W:World} {g:Nat} {f0:ByteArray} {f1:Int} {f2:Bool} {f3:Bool} {f4:Bool} {f5:ByteArray} {w':World} {m:Nat} (hq:W.drewN m=w') (h:IsS117 w0 W g f0 f1 f2 f3 f4 f5):IsS117 w0 w' g f0 f1 f2 f3 f4 f5:=by subst hq;exact IsS117.drewN h m
theorem IsS117.own_ne {w0 W:World} {g:Nat} {f0:ByteArray} {f1:Int} {f2:Bool} {f3:Bool} {f4:Bool} {f5:ByteArray} {α:Type} {d:Kd α} {e:Nat} {base:Nat} {ok:Nat→Prop} {v:Value} {xs:List α} (h:IsS117 w0 W g f0 f1 f2 f3 f4 f5) (ho:d.R e W base ok v xs) (ht:e≠117):some g≠v.ownBlock:=by
 obtain ⟨hb,hg⟩:=h;exact Kd.R_ne ho hb ht
theorem IsS117.lt {w0 W:World} {g:Nat} {f0:ByteArray} {f1:Int} {f2:Bool} {f3:Bool} {f4:Bool} {f5:ByteArray} (h:IsS117 w0 W g f0 f1 f2 f3 f4 f5):g < W.heap.size:=by
 obtain ⟨hb,hg⟩:=h;exact blk_lt hb
theorem IsS117.ge {w0 W:World} {g:Nat} {f0:ByteArray} {f1:Int} {f2:Bool} {f3:Bool} {f4:Bool} {f5:ByteArray} (h:IsS117 w0 W g f0 f1 f2 f3 f4 f5):w0.heap.size≤g:=by
 obtain ⟨hb,hg⟩:=h;exact hg
theorem IsS117.far {w0 W:World} {g:Nat} {f0:ByteArray} {f1:Int} {f2:Bool} {f3:Bool} {f4:Bool} {f5:ByteArray} {p:Addr} (h:IsS117 w0 W g f0 f1 f2 f3 f4 f5) (hne:g≠p.block) (u:Value):IsS117 w0 (W.setCell p u) g f0 f1 f2 f3 f4 f5:=by
 obtain ⟨hb,hg⟩:=h;exact ⟨blk_far hb hne u,hg⟩
theorem cellS117_0 {W:World} {g:Nat} {f0:ByteArray} {f1:Int} {f2:Bool} {f3:Bool} {f4:Bool} {f5:ByteArray} (h:W.heap[g]?=some (.cells #[.string f0,.int .i64 f1,.bool f2,.bool f3,.bool f4,.string f5] 117 (0,0))):W.cell? ⟨g,0,none⟩=some (.string f0):=(blk_cell h 0).trans rfl
theorem IsS117.set_0 {w0 W:World} {g:Nat} {f0:ByteArray} {f1:Int} {f2:Bool} {f3:Bool} {f4:Bool} {f5:ByteArray} (h:IsS117 w0 W g f0 f1 f2 f3 f4 f5) (x:ByteArray):IsS117 w0 (W.setCell ⟨g,0,none⟩ (.string x)) g x f1 f2 f3 f4 f5:=by
 obtain ⟨hb,hg⟩:=h;exact ⟨by simpa using blk_set hb 0 (.string x),hg⟩
theorem cellS117_1 {W:World} {g:Nat} {f0:ByteArray} {f1:Int} {f2:Bool} {f3:Bool} {f4:Bool} {f5:ByteArray} (h:W.heap[g]?=some (.cells #[.string f0,.int .i64 f1,.bool f2,.bool f3,.bool f4,.string f5] 117 (0,0))):W.cell? ⟨g,1,none⟩=some (.int .i64 f1):=(blk_cell h 1).trans rfl
theorem IsS117.set_1 {w0 W:World} {g:Nat} {f0:ByteArray} {f1:Int} {f2:Bool} {f3:Bool} {f4:Bool} {f5:ByteArray} (h:IsS117 w0 W g f0 f1 f2 f3 f4 f5) (x:Int):IsS117 w0 (W.setCell ⟨g,1,none⟩ (.int .i64 x)) g f0 x f2 f3 f4 f5:=by
 obtain ⟨hb,hg⟩:=h;exact ⟨by simpa using blk_set hb 1 (.int .i64 x),hg⟩
theorem cellS117_2 {W:World} {g:Nat} {f0:ByteArray} {f1:Int} {f2:Bool} {f3:Bool} {f4:Bool} {f5:ByteArray} (h:W.heap[g]?=some (.cells #[.string f0,.int .i64 f1,.bool f2,.bool f3,.bool f4,.string f5] 117 (0,0))):W.cell? ⟨g,2,none⟩=some (.bool f2):=(blk_cell h 2).trans rfl
theorem IsS117.set_2 {w0 W:World} {g:Nat} {f0:ByteArray} {f1:Int} {f2:Bool} {f3:Bool} {f4:Bool} {f5:ByteArray} (h:IsS117 w0 W g f0 f1 f2 f3 f4 f5) (x:Bool):IsS117 w0 (W.setCell ⟨g,2,none⟩ (.bool x)) g f0 f1 x f3 f4 f5:=by
 obtain ⟨hb,hg⟩:=h;exact ⟨by simpa using blk_set hb 2 (.bool x),hg⟩
theorem cellS117_3 {W:World} {g:Nat} {f0:ByteArray} {f1:Int} {f2:Bool} {f3:Bool} {f4:Bool} {f5:ByteArray} (h:W.heap[g]?=some (.cells #[.string f0,.int .i64 f1,.bool f2,.bool f3,.bool f4,.string f5] 117 (0,0))):W.cell? ⟨g,3,none⟩=some (.bool f3):=(blk_cell h 3).trans rfl
theorem IsS117.set_3 {w0 W:World} {g:Nat} {f0:ByteArray} {f1:Int} {f2:Bool} {f3:Bool} {f4:Bool} {f5:ByteArray} (h:IsS117 w0 W g f0 f1 f2 f3 f4 f5) (x:Bool):IsS117 w0 (W.setCell ⟨g,3,none⟩ (.bool x)) g f0 f1 f2 x f4 f5:=by
 obtain ⟨hb,hg⟩:=h;exact ⟨by simpa using blk_set hb 3 (.bool x),hg⟩
theorem cellS117_4 {W:World} {g:Nat} {f0:ByteArray} {f1:Int} {f2:Bool} {f3:Bool} {f4:Bool} {f5:ByteArray} (h:W.heap[g]?=some (.cells #[.string f0,.int .i64 f1,.bool f2,.bool f3,.bool f4,.string f5] 117 (0,0))):W.cell? ⟨g,4,none⟩=some (.bool f4):=(blk_cell h 4).trans rfl
theorem IsS117.set_4 {w0 W:World} {g:Nat} {f0:ByteArray} {f1:Int} {f2:Bool} {f3:Bool} {f4:Bool} {f5:ByteArray} (h:IsS117 w0 W g f0 f1 f2 f3 f4 f5) (x:Bool):IsS117 w0 (W.setCell ⟨g,4,none⟩ (.bool x)) g f0 f1 f2 f3 x f5:=by
 obtain ⟨hb,hg⟩:=h;exact ⟨by simpa using blk_set hb 4 (.bool x),hg⟩
theorem cellS117_5 {W:World} {g:Nat} {f0:ByteArray} {f1:Int} {f2:Bool} {f3:Bool} {f4:Bool} {f5:ByteArray} (h:W.heap[g]?=some (.cells #[.string f0,.int .i64 f1,.bool f2,.bool f3,.bool f4,.string f5] 117 (0,0))):W.cell? ⟨g,5,none⟩=some (.string f5):=(blk_cell h 5).trans rfl
theorem IsS117.set_5 {w0 W:World} {g:Nat} {f0:ByteArray} {f1:Int} {f2:Bool} {f3:Bool} {f4:Bool} {f5:ByteArray} (h:IsS117 w0 W g f0 f1 f2 f3 f4 f5) (x:ByteArray):IsS117 w0 (W.setCell ⟨g,5,none⟩ (.string x)) g f0 f1 f2 f3 f4 x:=by
 obtain ⟨hb,hg⟩:=h;exact ⟨by simpa using blk_set hb 5 (.string x),hg⟩
theorem IsS117.new (w0 W:World) (f0:ByteArray) (f1:Int) (f2:Bool) (f3:Bool) (f4:Bool) (f5:ByteArray) (hB:Below w0.heap.size w0 W):IsS117 w0 (W.alloc (.cells #[.string f0,.int .i64 f1,.bool f2,.bool f3,.bool f4,.string f5] 117)) W.heap.size f0 f1 f2 f3 f4 f5:=⟨by simpa using heap_alloc_new W _,hB.size⟩
theorem IsS117.all {w0 W:World} {g:Nat} {f0:ByteArray} {f1:Int} {f2:Bool} {f3:Bool} {f4:Bool} {f5:ByteArray} (H:IsS117 w0 W g f0 f1 f2 f3 f4 f5):W.cell? ⟨g,0,none⟩=some (.string f0)∧W.cell? ⟨g,1,none⟩=some (.int .i64 f1)∧W.cell? ⟨g,2,none⟩=some (.bool f2)∧W.cell? ⟨g,3,none⟩=some (.bool f3)∧W.cell? ⟨g,4,none⟩=some (.bool f4)∧W.cell? ⟨g,5,none⟩=some (.string f5)∧W.frozen? ⟨g,0,none⟩=false∧W.frozen? ⟨g,1,none⟩=false∧W.frozen? ⟨g,2,none⟩=false∧W.frozen? ⟨g,3,none⟩=false∧W.frozen? ⟨g,4,none⟩=false∧W.frozen? ⟨g,5,none⟩=false:=by
 obtain ⟨h,_⟩:=H
 exact ⟨cellS117_0 h,cellS117_1 h,cellS117_2 h,cellS117_3 h,cellS117_4 h,cellS117_5 h,blk_frozen h 0,blk_frozen h 1,blk_frozen h 2,blk_frozen h 3,blk_frozen h 4,blk_frozen h 5⟩
theorem ix {p:Prop} (h:p:=by (repeat ((fail_if_success with_reducible exact HI0.out);with_reducible first | apply IsS117.alloc | apply IsS117.drewN | apply IsS117.drew | apply IsS117.set_0 | apply IsS117.set_1 | apply IsS117.set_2 | apply IsS117.set_3 | apply IsS117.set_4 | apply IsS117.set_5 | refine IsS117.far ?_ (Aside0.out (by first | (with_reducible assumption) | assumption)) _));exact HI0.out):p:=h
theorem kx {p:Prop} (h:p:=by (repeat ((fail_if_success with_reducible exact HK.out);with_reducible first | apply KeepBut.set_ | apply keep_drewN | apply keep_drew | apply keep_alloc | refine keep_far ?_ (Aside0.out (by first | (with_reducible assumption) | assumption)) _));first | exact HK.out | exact keep_drew HK.out):p:=h
theorem bx {p:Prop} (h:p:=by (repeat ((fail_if_success with_reducible exact HB.out);with_reducible first | apply below_alloc | apply pw_below_drewN | apply below_drew1 | refine below_set ?_ (IsS117.ge HI0.out) | refine below_set ?_ (Aside0.out (by first | (with_reducible assumption) | assumption))));exact HB.out):p:=h
theorem gwk {p:Prop} (h:p:=by rw [hg];exact (keep_size (w:=w) (g:=g) (row:=none) kx)):p:=h
theorem nix {p:Prop} (h:p:=by rw [hg];exact Nat.ne_of_lt (IsS117.lt (w0:=w0) ix)):p:=h
theorem ktr {w w1 w2:World} {g:Nat} (h:KeepBut w w1 g none) (k:KeepBut w1 w2 g none):Aside0 (KeepBut w w2 g none):=⟨h.trans k (.inl rfl)⟩
theorem kbk {w w1:World} {g g':Nat} {o:Obj} (h:KeepBut w w1 g none) (hb:w.heap[g']?=some o) (hg:g'≠g):Aside0 (w1.heap[g']?=some o):=⟨h.blk hb hg (by simp)⟩
theorem kob {w w1 w2:World} {g:Nat} (h:KeepBut w w1 g none) (k:Below w1.heap.size w1 w2):Aside0 (KeepBut w w2 g none):=⟨h.trans (KeepBut.of_below k g none) (.inl rfl)⟩
def rzreader_blanks.l0:Nat→ByteArray→Int→Bool→Bool→Bool→ByteArray→Option (ByteArray × Int × Bool × Bool × Bool × ByteArray)
 | 0,_,_,_,_,_,_=>none
 | k+1,x1000,x1001,x1002,x1003,x1004,x1005=>if x1001 < (x1000.size:Int) then (if 0≤x1001 then (if (bt x1000 x1001)=32 then (rzreader_blanks.l0 k x1000 (wrap64 (x1001+1)) x1002 x1003 x1004 x1005) else (if (bt x1000 x1001)=9 then (rzreader_blanks.l0 k x1000 (wrap64 (x1001+1)) x1002 x1003 x1004 x1005) else (some (x1000,x1001,x1002,x1003,x1004,x1005)))) else (none)) else (some (x1000,x1001,x1002,x1003,x1004,x1005))
def rzreader_blanks.f (k:Nat) (s0_0:ByteArray) (s0_1:Int) (s0_2:Bool) (s0_3:Bool) (s0_4:Bool) (s0_5:ByteArray):Option (ByteArray × Int × Bool × Bool × Bool × ByteArray):=rzreader_blanks.l0 k s0_0 s0_1 s0_2 s0_3 s0_4 s0_5
theorem rzreader_blanks.mono_l:∀ k,(∀ y0 y1 y2 y3 y4 y5,LeO (rzreader_blanks.l0 k y0 y1 y2 y3 y4 y5) (rzreader_blanks.l0 (k+1) y0 y1 y2 y3 y4 y5))
 | 0=>fun _ _ _ _ _ _ r h=>by simp [rzreader_blanks.l0] at h
 | k+1=>by
  have ih0:=rzreader_blanks.mono_l k
  ·intro y0 y1 y2 y3 y4 y5;unfold rzreader_blanks.l0;repeat' first
   | (with_reducible exact ih0 _ _ _ _ _ _)
   | (with_reducible exact LeO.refl _)
   | (with_reducible exact LeO.none _)
   | (with_reducible refine LeO.ite ?_ ?_)
   | (with_reducible refine LeO.bind ?_ (fun _=>?_))
   | exact LeO.none _
   | refine LeO.ite ?_ ?_
   | refine LeO.bind ?_ (fun _=>?_)
theorem rzreader_blanks.mono:∀ a0 a1 a2 a3 a4 a5 k,LeO (rzreader_blanks.f k a0 a1 a2 a3 a4 a5) (rzreader_blanks.f (k+1) a0 a1 a2 a3 a4 a5):=by
 intro a0 a1 a2 a3 a4 a5 k;have ih0:=rzreader_blanks.mono_l k;unfold rzreader_blanks.f;repeat' first
   | (with_reducible exact ih0 _ _ _ _ _ _)
   | (with_reducible exact LeO.refl _)
   | (with_reducible exact LeO.none _)
   | (with_reducible refine LeO.ite ?_ ?_)
   | (with_reducible refine LeO.bind ?_ (fun _=>?_))
   | exact LeO.none _
   | refine LeO.ite ?_ ?_
   | refine LeO.bind ?_ (fun _=>?_)
theorem rzreader_blanks.calls (k:Nat) (g:Nat) (s0_0:ByteArray) (s0_1:Int) (s0_2:Bool) (s0_3:Bool) (s0_4:Bool) (s0_5:ByteArray) (r1:ByteArray) (r2:Int) (r3:Bool) (r4:Bool) (r5:Bool) (r6:ByteArray) (w0 w:World) (hI:IsS117 w0 w g s0_0 s0_1 s0_2 s0_3 s0_4 s0_5) (hB:Below w0.heap.size w0 w) (h:rzreader_blanks.f k s0_0 s0_1 s0_2 s0_3 s0_4 s0_5=some (r1,r2,r3,r4,r5,r6)) :
  Calls Tryz.prog 104 #[.pointer (some ⟨g,0,none⟩)] w fun e w'=>e=.returned (.tuple #[])∧IsS117 w0 w' g r1 r2 r3 r4 r5 r6∧Below w0.heap.size w0 w'∧KeepBut w w' g none:=by
 have HI0:=Aside0.mk hI;have HK:=Aside0.mk (KeepBut.refl w g none);have HL:=Aside0.mk hB.size;clear hI;have HW0:=Aside0.mk hB.size;have HB:=Aside0.mk hB;clear hB;unfold rzreader_blanks.f at h;have H:=h;clear h;have H':=Aside0.mk H;clear H;go_enter Tryz.func104,Tryz.ntmps104
 go_wp2;repeat (go_quiet (fail);try go_wp2)
 try simp only [Act.put,List.setIfInBounds_toArray,List.set_cons_zero,List.set_cons_succ]
 go_loopg [] k (fun kq w'=>∃ (x1001_1:Int),Aside0 (rzreader_blanks.l0 kq s0_0 x1001_1 s0_2 s0_3 s0_4 s0_5=some (r1,r2,r3,r4,r5,r6))∧Aside0 (kq≤k)∧Aside0 (IsS117 w0 w' g s0_0 x1001_1 s0_2 s0_3 s0_4 s0_5)∧Aside0 (KeepBut w w' g none)∧Aside0 (Below w0.heap.size w0 w'))
 case atStart=>exact ⟨(s0_1),H',⟨Nat.le_refl _⟩,⟨ix⟩,⟨kx⟩,⟨bx⟩⟩
 case round =>
  clear H';obtain ⟨x1001_1,HA,HK1,HI0,HK,HB⟩:=hrel;cases gk with
  | zero=>exact absurd HA.out (by simp [rzreader_blanks.l0])
  | succ k1 =>
   have H:=HA.out;clear HA;simp only [rzreader_blanks.l0] at H;by_cases c2:x1001_1 < (s0_0.size:Int)
   ·rw [if_pos c2] at H;have c2b0:=decide_eq_true c2;clear c2;by_cases c3:0≤x1001_1
    ·rw [if_pos c3] at H;have c3b0:=decide_eq_true c3;clear c3;by_cases c5:(bt s0_0 x1001_1)=32
     ·rw [if_pos c5] at H;obtain ⟨c5b0,c5b1⟩:=bqt c5;clear c5;have H':=Aside0.mk H;clear H;obtain ⟨_,_,_,_,_,_,_,_,_,_,_,_⟩:=HI0.out.all;have p4:0≤(x1001_1:Int):=of_decide_eq_true asm;have q4:x1001_1 < (s0_0.size:Int):=of_decide_eq_true asm;have hx4:=bt_at s0_0 x1001_1;replace p4:=eq_true p4;replace q4:=eq_true q4;go_wp2;repeat (go_quiet (fail);try go_wp2)
      go_roundg k1
      case measure=>have:=HK1.out;omega
      case rel=>exact ⟨(wrap64 (x1001_1+1)),H',⟨by have:=HK1.out;omega⟩,⟨ix⟩,⟨kx⟩,⟨bx⟩⟩
     ·rw [if_neg c5] at H;obtain ⟨c5b0,c5b1⟩:=bqf c5;by_cases c8:(bt s0_0 x1001_1)=9
      ·rw [if_pos c8] at H;obtain ⟨c8b0,c8b1⟩:=bqt c8;clear c8;have H':=Aside0.mk H;clear H;obtain ⟨_,_,_,_,_,_,_,_,_,_,_,_⟩:=HI0.out.all;have p4:0≤(x1001_1:Int):=of_decide_eq_true asm;have q4:x1001_1 < (s0_0.size:Int):=of_decide_eq_true asm;have hx4:=bt_at s0_0 x1001_1;replace p4:=eq_true p4;replace q4:=eq_true q4;have p7:0≤(x1001_1:Int):=of_decide_eq_true asm;have q7:x1001_1 < (s0_0.size:Int):=of_decide_eq_true asm;have hx7:=bt_at s0_0 x1001_1;replace p7:=eq_true p7;replace q7:=eq_true q7;go_wp2;repeat (go_quiet (fail);try go_wp2)
       go_roundg k1
       case measure=>have:=HK1.out;omega
       case rel=>exact ⟨(wrap64 (x1001_1+1)),H',⟨by have:=HK1.out;omega⟩,⟨ix⟩,⟨kx⟩,⟨bx⟩⟩
      ·rw [if_neg c8] at H;obtain ⟨c8b0,c8b1⟩:=bqf c8;simp only [Option.some.injEq,Prod.mk.injEq] at H;obtain ⟨rfl,rfl,rfl,rfl,rfl,rfl⟩:=H;obtain ⟨_,_,_,_,_,_,_,_,_,_,_,_⟩:=HI0.out.all;have p4:0≤(x1001_1:Int):=of_decide_eq_true asm;have q4:x1001_1 < (s0_0.size:Int):=of_decide_eq_true asm;have hx4:=bt_at s0_0 x1001_1;replace p4:=eq_true p4;replace q4:=eq_true q4;have p7:0≤(x1001_1:Int):=of_decide_eq_true asm;have q7:x1001_1 < (s0_0.size:Int):=of_decide_eq_true asm;have hx7:=bt_at s0_0 x1001_1;replace p7:=eq_true p7;replace q7:=eq_true q7;go_wp2;repeat (go_quiet (fail);try go_wp2)
       first | go_end0 | ((try simp only [Exit.inBlock,Exit.then]);refine bodyPost_ret (results_none rfl _ _ _) rfl ?_)
       exact ⟨rew,ix,bx,kx⟩
    ·rw [if_neg c3] at H;exact absurd H (by simp)
   ·rw [if_neg c2] at H;have c2b0:=decide_eq_false c2;clear c2;simp only [Option.some.injEq,Prod.mk.injEq] at H;obtain ⟨rfl,rfl,rfl,rfl,rfl,rfl⟩:=H;obtain ⟨_,_,_,_,_,_,_,_,_,_,_,_⟩:=HI0.out.all;go_wp2;repeat (go_quiet (fail);try go_wp2)
    first | go_end0 | ((try simp only [Exit.inBlock,Exit.then]);refine bodyPost_ret (results_none rfl _ _ _) rfl ?_)
    exact ⟨rew,ix,bx,kx⟩
end Go.Proofs.YtffojmgmpfjlhaaGreatDoor.Q
