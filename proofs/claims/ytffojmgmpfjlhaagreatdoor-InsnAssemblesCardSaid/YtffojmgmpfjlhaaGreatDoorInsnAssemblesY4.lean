/- Parts of the proof of InsnAssembles. -/
import Derived.Test.YtffojmgmpfjlhaaGreatDoorInsnAssemblesY3
set_option maxHeartbeats 8000000
set_option maxRecDepth 100000
set_option linter.unusedVariables false
set_option linter.unusedSimpArgs false
namespace Go.Proofs.YtffojmgmpfjlhaaGreatDoor.Q
open Go.Proofs.YtffojmgmpfjlhaaGreatDoor Go.RowKit Go.Proofs.YtffojmgmpfjlhaaGreatDoorW.PrintWords Go.Proofs.YtffojmgmpfjlhaaGreatDoorW.PrintLast Go.Proofs.YtffojmgmpfjlhaaGreatDoorW.PrintMore
attribute [local go_sem] max2_int min2_int max_two min_two max_three min_three max_four min_four
def rzreader_register.f (k:Nat) (s0_0:ByteArray) (s0_1:Int) (s0_2:Bool) (s0_3:Bool) (s0_4:Bool) (s0_5:ByteArray):Option (Int × ByteArray × Int × Bool × Bool × Bool × ByteArray):=(rzreader_word.f k s0_0 s0_1 s0_2 s0_3 s0_4 s0_5).bind fun bt468=>(if (bt468.1.size:Int)=2 then (if 0 < (bt468.1.size:Int) then (if (bt bt468.1 0)=114 then (if 1 < (bt468.1.size:Int) then (if (bt bt468.1 1) < 48 then (some (0,bt468.2.1,bt468.2.2.1,true,bt468.2.2.2.2.1,bt468.2.2.2.2.2.1,bt468.2.2.2.2.2.2)) else (if (bt bt468.1 1) > 55 then (some (0,bt468.2.1,bt468.2.2.1,true,bt468.2.2.2.2.1,bt468.2.2.2.2.2.1,bt468.2.2.2.2.2.2)) else (some (((bt bt468.1 1) - 48) % 256,bt468.2.1,bt468.2.2.1,bt468.2.2.2.1,bt468.2.2.2.2.1,bt468.2.2.2.2.2.1,bt468.2.2.2.2.2.2)))) else (none)) else (some (0,bt468.2.1,bt468.2.2.1,true,bt468.2.2.2.2.1,bt468.2.2.2.2.2.1,bt468.2.2.2.2.2.2))) else (none)) else (some (0,bt468.2.1,bt468.2.2.1,true,bt468.2.2.2.2.1,bt468.2.2.2.2.2.1,bt468.2.2.2.2.2.2)))
theorem rzreader_register.calls (k:Nat) (g:Nat) (s0_0:ByteArray) (s0_1:Int) (s0_2:Bool) (s0_3:Bool) (s0_4:Bool) (s0_5:ByteArray) (r1:Int) (r2:ByteArray) (r3:Int) (r4:Bool) (r5:Bool) (r6:Bool) (r7:ByteArray) (w0 w:World) (hI:IsS117 w0 w g s0_0 s0_1 s0_2 s0_3 s0_4 s0_5) (hB:Below w0.heap.size w0 w) (h:rzreader_register.f k s0_0 s0_1 s0_2 s0_3 s0_4 s0_5=some (r1,r2,r3,r4,r5,r6,r7)) :
  Calls Tryz.prog 137 #[.pointer (some ⟨g,0,none⟩)] w fun e w'=>e=.returned (.int .i64 r1)∧IsS117 w0 w' g r2 r3 r4 r5 r6 r7∧Below w0.heap.size w0 w'∧KeepBut w w' g none:=by
 have HI0:=Aside0.mk hI;have HK:=Aside0.mk (KeepBut.refl w g none);have HL:=Aside0.mk hB.size;clear hI;have HW0:=Aside0.mk hB.size;have HB:=Aside0.mk hB;clear hB;unfold rzreader_register.f at h;have H:=h;clear h;obtain ⟨⟨t468,t469,t470,t471,t472,t473,t474⟩,A2,H⟩:=bas H;(try dsimp only at H);by_cases c3:(t468.size:Int)=2
 ·rw [if_pos c3] at H;obtain ⟨c3b0,c3b1⟩:=bqt c3;clear c3;by_cases c4:0 < (t468.size:Int)
  ·rw [if_pos c4] at H;have c4b0:=decide_eq_true c4;have c4b1:decide (0 < t468.size)=true:=decide_eq_true (by omega);clear c4;by_cases c6:(bt t468 0)=114
   ·rw [if_pos c6] at H;obtain ⟨c6b0,c6b1⟩:=bqt c6;clear c6;by_cases c7:1 < (t468.size:Int)
    ·rw [if_pos c7] at H;have c7b0:=decide_eq_true c7;have c7b1:decide (1 < t468.size)=true:=decide_eq_true (by omega);clear c7;by_cases c9:(bt t468 1) < 48
     ·rw [if_pos c9] at H;have c9b0:=decide_eq_true c9;clear c9;simp only [Option.some.injEq,Prod.mk.injEq] at H;obtain ⟨rfl,rfl,rfl,rfl,rfl,rfl,rfl⟩:=H;go_enter Tryz.func137,Tryz.ntmps137
      go_wp2_with (first | ((with_reducible refine gate_callee (f:=106) rfl ?_);refine gl (some 5) Tryz.func106 #[.pointer (some ⟨g,0,none⟩)] ?_;(with_reducible refine (rzreader_word.calls k g _ _ _ _ _ _ _ _ _ _ _ _ _ w0 _ ?side1 ?side2 A2.out).mono ?_);(case side1=>exact ix);(case side2=>exact bx);rintro e w10 ⟨rfl,hi,hb,hk⟩;refine ⟨_,rfl,?_⟩;replace HK:=ktr kx hk;replace HB:=Aside0.mk hb;replace HI0:=Aside0.mk hi;clear hi hb hk;have p5:0≤(0:Int):=(by omega);have q5:0 < t468.size:=(by have:(0:Int) < (t468.size:Int):=of_decide_eq_true asm;omega);have hx5:∀ h:0 < t468.size,((t468[0]'h).toNat:Int)=bt t468 0:=bt_at t468 0;clear p5;have qi5:(0 < (t468.size:Int))=True:=eq_true (of_decide_eq_true asm);replace q5:=eq_true q5;have p8:0≤(1:Int):=(by omega);have q8:1 < t468.size:=(by have:(1:Int) < (t468.size:Int):=of_decide_eq_true asm;omega);have hx8:∀ h:1 < t468.size,((t468[1]'h).toNat:Int)=bt t468 1:=bt_at t468 1;clear p8;have qi8:(1 < (t468.size:Int))=True:=eq_true (of_decide_eq_true asm);replace q8:=eq_true q8;obtain ⟨_,_,_,_,_,_,_,_,_,_,_,_⟩:=HI0.out.all))
      go_ret;exact ⟨rew,ix,bx,kx⟩
     ·rw [if_neg c9] at H;have c9b0:=decide_eq_false c9;clear c9;by_cases c13:(bt t468 1) > 55
      ·rw [if_pos c13] at H;have c13b0:decide (55 < (bt t468 1))=true:=decide_eq_true c13;clear c13;simp only [Option.some.injEq,Prod.mk.injEq] at H;obtain ⟨rfl,rfl,rfl,rfl,rfl,rfl,rfl⟩:=H;go_enter Tryz.func137,Tryz.ntmps137
       go_wp2_with (first | ((with_reducible refine gate_callee (f:=106) rfl ?_);refine gl (some 5) Tryz.func106 #[.pointer (some ⟨g,0,none⟩)] ?_;(with_reducible refine (rzreader_word.calls k g _ _ _ _ _ _ _ _ _ _ _ _ _ w0 _ ?side1 ?side2 A2.out).mono ?_);(case side1=>exact ix);(case side2=>exact bx);rintro e w14 ⟨rfl,hi,hb,hk⟩;refine ⟨_,rfl,?_⟩;replace HK:=ktr kx hk;replace HB:=Aside0.mk hb;replace HI0:=Aside0.mk hi;clear hi hb hk;have p5:0≤(0:Int):=(by omega);have q5:0 < t468.size:=(by have:(0:Int) < (t468.size:Int):=of_decide_eq_true asm;omega);have hx5:∀ h:0 < t468.size,((t468[0]'h).toNat:Int)=bt t468 0:=bt_at t468 0;clear p5;have qi5:(0 < (t468.size:Int))=True:=eq_true (of_decide_eq_true asm);replace q5:=eq_true q5;have p8:0≤(1:Int):=(by omega);have q8:1 < t468.size:=(by have:(1:Int) < (t468.size:Int):=of_decide_eq_true asm;omega);have hx8:∀ h:1 < t468.size,((t468[1]'h).toNat:Int)=bt t468 1:=bt_at t468 1;clear p8;have qi8:(1 < (t468.size:Int))=True:=eq_true (of_decide_eq_true asm);replace q8:=eq_true q8;have p12:0≤(1:Int):=(by omega);have q12:1 < t468.size:=(by have:(1:Int) < (t468.size:Int):=of_decide_eq_true asm;omega);have hx12:∀ h:1 < t468.size,((t468[1]'h).toNat:Int)=bt t468 1:=bt_at t468 1;clear p12;have qi12:(1 < (t468.size:Int))=True:=eq_true (of_decide_eq_true asm);replace q12:=eq_true q12;obtain ⟨_,_,_,_,_,_,_,_,_,_,_,_⟩:=HI0.out.all))
       go_ret;exact ⟨rew,ix,bx,kx⟩
      ·rw [if_neg c13] at H;have c13b0:decide (55 < (bt t468 1))=false:=decide_eq_false c13;clear c13;simp only [Option.some.injEq,Prod.mk.injEq] at H;obtain ⟨rfl,rfl,rfl,rfl,rfl,rfl,rfl⟩:=H;go_enter Tryz.func137,Tryz.ntmps137
       go_wp2_with (first | ((with_reducible refine gate_callee (f:=106) rfl ?_);refine gl (some 5) Tryz.func106 #[.pointer (some ⟨g,0,none⟩)] ?_;(with_reducible refine (rzreader_word.calls k g _ _ _ _ _ _ _ _ _ _ _ _ _ w0 _ ?side1 ?side2 A2.out).mono ?_);(case side1=>exact ix);(case side2=>exact bx);rintro e w17 ⟨rfl,hi,hb,hk⟩;refine ⟨_,rfl,?_⟩;replace HK:=ktr kx hk;replace HB:=Aside0.mk hb;replace HI0:=Aside0.mk hi;clear hi hb hk;have p5:0≤(0:Int):=(by omega);have q5:0 < t468.size:=(by have:(0:Int) < (t468.size:Int):=of_decide_eq_true asm;omega);have hx5:∀ h:0 < t468.size,((t468[0]'h).toNat:Int)=bt t468 0:=bt_at t468 0;clear p5;have qi5:(0 < (t468.size:Int))=True:=eq_true (of_decide_eq_true asm);replace q5:=eq_true q5;have p8:0≤(1:Int):=(by omega);have q8:1 < t468.size:=(by have:(1:Int) < (t468.size:Int):=of_decide_eq_true asm;omega);have hx8:∀ h:1 < t468.size,((t468[1]'h).toNat:Int)=bt t468 1:=bt_at t468 1;clear p8;have qi8:(1 < (t468.size:Int))=True:=eq_true (of_decide_eq_true asm);replace q8:=eq_true q8;have p12:0≤(1:Int):=(by omega);have q12:1 < t468.size:=(by have:(1:Int) < (t468.size:Int):=of_decide_eq_true asm;omega);have hx12:∀ h:1 < t468.size,((t468[1]'h).toNat:Int)=bt t468 1:=bt_at t468 1;clear p12;have qi12:(1 < (t468.size:Int))=True:=eq_true (of_decide_eq_true asm);replace q12:=eq_true q12;have p16:0≤(1:Int):=(by omega);have q16:1 < t468.size:=(by have:(1:Int) < (t468.size:Int):=of_decide_eq_true asm;omega);have hx16:∀ h:1 < t468.size,((t468[1]'h).toNat:Int)=bt t468 1:=bt_at t468 1;clear p16;have qi16:(1 < (t468.size:Int))=True:=eq_true (of_decide_eq_true asm);replace q16:=eq_true q16))
       go_ret;exact ⟨rew,ix,bx,kx⟩
    ·rw [if_neg c7] at H;exact absurd H (by simp)
   ·rw [if_neg c6] at H;obtain ⟨c6b0,c6b1⟩:=bqf c6;simp only [Option.some.injEq,Prod.mk.injEq] at H;obtain ⟨rfl,rfl,rfl,rfl,rfl,rfl,rfl⟩:=H;go_enter Tryz.func137,Tryz.ntmps137
    go_wp2_with (first | ((with_reducible refine gate_callee (f:=106) rfl ?_);refine gl (some 5) Tryz.func106 #[.pointer (some ⟨g,0,none⟩)] ?_;(with_reducible refine (rzreader_word.calls k g _ _ _ _ _ _ _ _ _ _ _ _ _ w0 _ ?side1 ?side2 A2.out).mono ?_);(case side1=>exact ix);(case side2=>exact bx);rintro e w18 ⟨rfl,hi,hb,hk⟩;refine ⟨_,rfl,?_⟩;replace HK:=ktr kx hk;replace HB:=Aside0.mk hb;replace HI0:=Aside0.mk hi;clear hi hb hk;have p5:0≤(0:Int):=(by omega);have q5:0 < t468.size:=(by have:(0:Int) < (t468.size:Int):=of_decide_eq_true asm;omega);have hx5:∀ h:0 < t468.size,((t468[0]'h).toNat:Int)=bt t468 0:=bt_at t468 0;clear p5;have qi5:(0 < (t468.size:Int))=True:=eq_true (of_decide_eq_true asm);replace q5:=eq_true q5;obtain ⟨_,_,_,_,_,_,_,_,_,_,_,_⟩:=HI0.out.all))
    go_ret;exact ⟨rew,ix,bx,kx⟩
  ·rw [if_neg c4] at H;exact absurd H (by simp)
 ·rw [if_neg c3] at H;obtain ⟨c3b0,c3b1⟩:=bqf c3;simp only [Option.some.injEq,Prod.mk.injEq] at H;obtain ⟨rfl,rfl,rfl,rfl,rfl,rfl,rfl⟩:=H;go_enter Tryz.func137,Tryz.ntmps137
  go_wp2_with (first | ((with_reducible refine gate_callee (f:=106) rfl ?_);refine gl (some 5) Tryz.func106 #[.pointer (some ⟨g,0,none⟩)] ?_;(with_reducible refine (rzreader_word.calls k g _ _ _ _ _ _ _ _ _ _ _ _ _ w0 _ ?side1 ?side2 A2.out).mono ?_);(case side1=>exact ix);(case side2=>exact bx);rintro e w20 ⟨rfl,hi,hb,hk⟩;refine ⟨_,rfl,?_⟩;replace HK:=ktr kx hk;replace HB:=Aside0.mk hb;replace HI0:=Aside0.mk hi;clear hi hb hk;obtain ⟨_,_,_,_,_,_,_,_,_,_,_,_⟩:=HI0.out.all))
  go_ret;exact ⟨rew,ix,bx,kx⟩
def rzreader_next.f (s0_0:ByteArray) (s0_1:Int) (s0_2:Bool) (s0_3:Bool) (s0_4:Bool) (s0_5:ByteArray) (a1:Int):Option (Bool × ByteArray × Int × Bool × Bool × Bool × ByteArray):=if s0_1 < (s0_0.size:Int) then (if 0≤s0_1 then (if (bt s0_0 s0_1)=a1 then (some (true,s0_0,wrap64 (s0_1+1),s0_2,s0_3,s0_4,s0_5)) else (some (false,s0_0,s0_1,s0_2,s0_3,s0_4,s0_5))) else (none)) else (some (false,s0_0,s0_1,s0_2,s0_3,s0_4,s0_5))
theorem rzreader_next.calls (g:Nat) (s0_0:ByteArray) (s0_1:Int) (s0_2:Bool) (s0_3:Bool) (s0_4:Bool) (s0_5:ByteArray) (a1:Int) (r1:Bool) (r2:ByteArray) (r3:Int) (r4:Bool) (r5:Bool) (r6:Bool) (r7:ByteArray) (w0 w:World) (hI:IsS117 w0 w g s0_0 s0_1 s0_2 s0_3 s0_4 s0_5) (hB:Below w0.heap.size w0 w) (h:rzreader_next.f s0_0 s0_1 s0_2 s0_3 s0_4 s0_5 a1=some (r1,r2,r3,r4,r5,r6,r7)) :
  Calls Tryz.prog 115 #[.pointer (some ⟨g,0,none⟩),.int .u8 a1] w fun e w'=>e=.returned (.bool r1)∧IsS117 w0 w' g r2 r3 r4 r5 r6 r7∧Below w0.heap.size w0 w'∧KeepBut w w' g none:=by
 have HI0:=Aside0.mk hI;have HK:=Aside0.mk (KeepBut.refl w g none);have HL:=Aside0.mk hB.size;clear hI;have HW0:=Aside0.mk hB.size;have HB:=Aside0.mk hB;clear hB;unfold rzreader_next.f at h;have H:=h;clear h;by_cases c3:s0_1 < (s0_0.size:Int)
 ·rw [if_pos c3] at H;have c3b0:=decide_eq_true c3;clear c3;by_cases c4:0≤s0_1
  ·rw [if_pos c4] at H;have c4b0:=decide_eq_true c4;clear c4;by_cases c6:(bt s0_0 s0_1)=a1
   ·rw [if_pos c6] at H;obtain ⟨c6b0,c6b1⟩:=bqt c6;clear c6;simp only [Option.some.injEq,Prod.mk.injEq] at H;obtain ⟨rfl,rfl,rfl,rfl,rfl,rfl,rfl⟩:=H;obtain ⟨_,_,_,_,_,_,_,_,_,_,_,_⟩:=HI0.out.all;have p5:0≤(s0_1:Int):=of_decide_eq_true asm;have q5:s0_1 < (s0_0.size:Int):=of_decide_eq_true asm;have hx5:=bt_at s0_0 s0_1;replace p5:=eq_true p5;replace q5:=eq_true q5;go_enter Tryz.func115,Tryz.ntmps115
    go_wp2;repeat (go_quiet (fail);try go_wp2)
    go_ret;exact ⟨rew,ix,bx,kx⟩
   ·rw [if_neg c6] at H;obtain ⟨c6b0,c6b1⟩:=bqf c6;simp only [Option.some.injEq,Prod.mk.injEq] at H;obtain ⟨rfl,rfl,rfl,rfl,rfl,rfl,rfl⟩:=H;obtain ⟨_,_,_,_,_,_,_,_,_,_,_,_⟩:=HI0.out.all;have p5:0≤(s0_1:Int):=of_decide_eq_true asm;have q5:s0_1 < (s0_0.size:Int):=of_decide_eq_true asm;have hx5:=bt_at s0_0 s0_1;replace p5:=eq_true p5;replace q5:=eq_true q5;go_enter Tryz.func115,Tryz.ntmps115
    go_wp2;repeat (go_quiet (fail);try go_wp2)
    go_ret;exact ⟨rew,ix,bx,kx⟩
  ·rw [if_neg c4] at H;exact absurd H (by simp)
 ·rw [if_neg c3] at H;have c3b0:=decide_eq_false c3;clear c3;simp only [Option.some.injEq,Prod.mk.injEq] at H;obtain ⟨rfl,rfl,rfl,rfl,rfl,rfl,rfl⟩:=H;obtain ⟨_,_,_,_,_,_,_,_,_,_,_,_⟩:=HI0.out.all;go_enter Tryz.func115,Tryz.ntmps115
  go_wp2;repeat (go_quiet (fail);try go_wp2)
  go_ret;exact ⟨rew,ix,bx,kx⟩
def rzsigned.f (a0:Int) (a1:Bool):Option (Int × Bool):=if a1=true then (some (wrap64 (-(wrap64 (a0))),decide (a0≤9223372036854775808))) else (some (wrap64 (a0),decide (a0 < 9223372036854775808)))
theorem rzsigned.calls (a0:Int) (a1:Bool) (r1:Int) (r2:Bool) (w:World) (h:rzsigned.f a0 a1=some (r1,r2)) :
  Calls Tryz.prog 154 #[.int .u64 a0,.bool a1] w fun e w'=>e=.returned (.tuple #[.int .i64 r1,.bool r2])∧Drawn0 w w':=by
 unfold rzsigned.f at h;have H:=h;clear h;by_cases c3:a1=true
 ·subst c3;rw [if_pos rfl] at H;simp only [Option.some.injEq,Prod.mk.injEq] at H;obtain ⟨rfl,rfl⟩:=H;go_enter Tryz.func154,Tryz.ntmps154
  go_wp2;go_ret2;exact ⟨by first | rfl | (simp;done) | (simp [*];done),by repeat (first | exact Drawn0.refl _ | apply Drawn0.step)⟩
 ·replace c3:=Bool.eq_false_iff.mpr c3;subst c3;rw [if_neg (show ¬ (false=true) by decide)] at H;simp only [Option.some.injEq,Prod.mk.injEq] at H;obtain ⟨rfl,rfl⟩:=H;go_enter Tryz.func154,Tryz.ntmps154
  go_wp2;go_ret2;exact ⟨by first | rfl | (simp;done) | (simp [*];done),by repeat (first | exact Drawn0.refl _ | apply Drawn0.step)⟩
mutual
def rzreader_digits.l0:Nat→Int→Int→ByteArray→Int→Bool→Bool→Bool→ByteArray→Option (Int × ByteArray × Int × Bool × Bool × Bool × ByteArray)
 | 0,_,_,_,_,_,_,_,_=>none
 | k+1,x3,x4,x1000,x1001,x1002,x1003,x1004,x1005=>if x1001 < (x1000.size:Int) then (if 0≤x1001 then (if (bt x1000 x1001)≥48 then (rzreader_digits.j1 k x3 x4 (decide ((bt x1000 x1001)≤57)) x1000 x1001 x1002 x1003 x1004 x1005) else (rzreader_digits.j1 k x3 x4 false x1000 x1001 x1002 x1003 x1004 x1005)) else (none)) else (rzreader_digits.j1 k x3 x4 false x1000 x1001 x1002 x1003 x1004 x1005)
def rzreader_digits.j1:Nat→Int→Int→Bool→ByteArray→Int→Bool→Bool→Bool→ByteArray→Option (Int × ByteArray × Int × Bool × Bool × Bool × ByteArray)
 | 0,_,_,_,_,_,_,_,_,_=>none
 | k+1,x3,x4,x42,x1000,x1001,x1002,x1003,x1004,x1005=>if x42=true then (if (wrap64 (x1001 - x3)) < 19 then (if 0≤x1001 then (if x1001 < (x1000.size:Int) then (rzreader_digits.l0 k x3 (IntKind.u64.wrap ((IntKind.u64.wrap (10 * x4))+(((bt x1000 x1001) - 48) % 256))) x1000 (wrap64 (x1001+1)) x1002 x1003 x1004 x1005) else (none)) else (none)) else (rzreader_digits.l0 k x3 x4 x1000 (wrap64 (x1001+1)) x1002 x1003 x1004 x1005)) else (if x1001 > x3 then ((rzreader_must.f x1000 x1001 x1002 x1003 x1004 x1005 (decide ((wrap64 (x1001 - x3))≤19))).bind fun bt468=>(some (x4,bt468.1,bt468.2.1,bt468.2.2.1,bt468.2.2.2.1,bt468.2.2.2.2.1,bt468.2.2.2.2.2))) else ((rzreader_must.f x1000 x1001 x1002 x1003 x1004 x1005 false).bind fun bt474=>(some (x4,bt474.1,bt474.2.1,bt474.2.2.1,bt474.2.2.2.1,bt474.2.2.2.2.1,bt474.2.2.2.2.2))))
end
def rzreader_digits.f (k:Nat) (s0_0:ByteArray) (s0_1:Int) (s0_2:Bool) (s0_3:Bool) (s0_4:Bool) (s0_5:ByteArray):Option (Int × ByteArray × Int × Bool × Bool × Bool × ByteArray):=rzreader_digits.l0 k s0_1 0 s0_0 s0_1 s0_2 s0_3 s0_4 s0_5
theorem rzreader_digits.calls (k:Nat) (g:Nat) (s0_0:ByteArray) (s0_1:Int) (s0_2:Bool) (s0_3:Bool) (s0_4:Bool) (s0_5:ByteArray) (r1:Int) (r2:ByteArray) (r3:Int) (r4:Bool) (r5:Bool) (r6:Bool) (r7:ByteArray) (w0 w:World) (hI:IsS117 w0 w g s0_0 s0_1 s0_2 s0_3 s0_4 s0_5) (hB:Below w0.heap.size w0 w) (h:rzreader_digits.f k s0_0 s0_1 s0_2 s0_3 s0_4 s0_5=some (r1,r2,r3,r4,r5,r6,r7)) :
  Calls Tryz.prog 155 #[.pointer (some ⟨g,0,none⟩)] w fun e w'=>e=.returned (.int .u64 r1)∧IsS117 w0 w' g r2 r3 r4 r5 r6 r7∧Below w0.heap.size w0 w'∧KeepBut w w' g none:=by
 have HI0:=Aside0.mk hI;have HK:=Aside0.mk (KeepBut.refl w g none);have HL:=Aside0.mk hB.size;clear hI;have HW0:=Aside0.mk hB.size;have HB:=Aside0.mk hB;clear hB;unfold rzreader_digits.f at h;have H:=h;clear h;have H':=Aside0.mk H;clear H;obtain ⟨hcz2_0,hcz2_1,hcz2_2,hcz2_3,hcz2_4,hcz2_5,hfz2_0,hfz2_1,hfz2_2,hfz2_3,hfz2_4,hfz2_5⟩:=HI0.out.all;go_enter Tryz.func155,Tryz.ntmps155
 go_wp2;repeat (go_quiet (fail);try go_wp2)
 try simp only [Act.put,List.setIfInBounds_toArray,List.set_cons_zero,List.set_cons_succ]
 go_loopg [4] k (fun kq v4 w'=>∃ (x4_1:Int) (x1001_1:Int),v4=.int .u64 x4_1∧Aside0 (rzreader_digits.l0 kq s0_1 x4_1 s0_0 x1001_1 s0_2 s0_3 s0_4 s0_5=some (r1,r2,r3,r4,r5,r6,r7))∧Aside0 (kq≤k)∧Aside0 (IsS117 w0 w' g s0_0 x1001_1 s0_2 s0_3 s0_4 s0_5)∧Aside0 (KeepBut w w' g none)∧Aside0 (Below w0.heap.size w0 w'))
 case atStart=>exact ⟨(0),(s0_1),rsd,H',⟨Nat.le_refl _⟩,⟨ix⟩,⟨kx⟩,⟨bx⟩⟩
 case round =>
  clear H';try clear hcz2_0
  try clear hcz2_1
  try clear hcz2_2
  try clear hcz2_3
  try clear hcz2_4
  try clear hcz2_5
  try clear hfz2_0
  try clear hfz2_1
  try clear hfz2_2
  try clear hfz2_3
  try clear hfz2_4
  try clear hfz2_5
  obtain ⟨x4_1,x1001_1,rfl,HA,HK1,HI0,HK,HB⟩:=hrel;cases gk with
  | zero=>exact absurd HA.out (by simp [rzreader_digits.l0])
  | succ k1 =>
   have H:=HA.out;clear HA;simp only [rzreader_digits.l0] at H;have HC3:=Aside0.mk H;clear H;go_upto_region 3 with (fail)
   repeat (go_quiet (fail);go_upto_region 3 with (fail))
   go_cut [42] (fun v42 wc=>∃ (kq:Nat) (x42_2:Bool),v42=.bool x42_2∧Aside0 (rzreader_digits.j1 kq s0_1 x4_1 x42_2 s0_0 x1001_1 s0_2 s0_3 s0_4 s0_5=some (r1,r2,r3,r4,r5,r6,r7))∧Aside0 (kq≤k1)∧Aside0 (IsS117 w0 wc g s0_0 x1001_1 s0_2 s0_3 s0_4 s0_5)∧Aside0 (KeepBut w wc g none)∧Aside0 (Below w0.heap.size w0 wc))
   case first =>
    have H:=HC3.out;clear HC3;by_cases c4:x1001_1 < (s0_0.size:Int)
    ·rw [if_pos c4] at H;have c4b0:=decide_eq_true c4;clear c4;(first | rw [c4b0] | (simp only [i64_w,i32_w];rw [c4b0]) | skip);by_cases c5:0≤x1001_1
     ·rw [if_pos c5] at H;have c5b0:=decide_eq_true c5;clear c5;by_cases c7:(bt s0_0 x1001_1)≥48
      ·rw [if_pos c7] at H;have c7b0:decide (48≤(bt s0_0 x1001_1))=true:=decide_eq_true c7;clear c7;have H':=Aside0.mk H;clear H;obtain ⟨_,_,_,_,_,_,_,_,_,_,_,_⟩:=HI0.out.all;have p6:0≤(x1001_1:Int):=of_decide_eq_true asm;have q6:x1001_1 < (s0_0.size:Int):=of_decide_eq_true asm;have hx6:=bt_at s0_0 x1001_1;replace p6:=eq_true p6;replace q6:=eq_true q6;have p8:0≤(x1001_1:Int):=of_decide_eq_true asm;have q8:x1001_1 < (s0_0.size:Int):=of_decide_eq_true asm;have hx8:=bt_at s0_0 x1001_1;replace p8:=eq_true p8;replace q8:=eq_true q8;go_wp2;repeat (go_quiet (fail);try go_wp2)
       go_meet
       case rel=>exact ⟨_,(decide ((bt s0_0 x1001_1)≤57)),rsd,H',⟨by have:=HK1.out;first | omega | exact Nat.le_refl _⟩,⟨ix⟩,⟨kx⟩,⟨bx⟩⟩
      ·rw [if_neg c7] at H;have c7b0:decide (48≤(bt s0_0 x1001_1))=false:=decide_eq_false c7;clear c7;have H':=Aside0.mk H;clear H;obtain ⟨_,_,_,_,_,_,_,_,_,_,_,_⟩:=HI0.out.all;have p6:0≤(x1001_1:Int):=of_decide_eq_true asm;have q6:x1001_1 < (s0_0.size:Int):=of_decide_eq_true asm;have hx6:=bt_at s0_0 x1001_1;replace p6:=eq_true p6;replace q6:=eq_true q6;go_wp2;repeat (go_quiet (fail);try go_wp2)
       go_meet
       case rel=>exact ⟨_,(false),rsd,H',⟨by have:=HK1.out;first | omega | exact Nat.le_refl _⟩,⟨ix⟩,⟨kx⟩,⟨bx⟩⟩
     ·rw [if_neg c5] at H;exact absurd H (by simp)
    ·rw [if_neg c4] at H;have c4b0:=decide_eq_false c4;clear c4;(first | rw [c4b0] | (simp only [i64_w,i32_w];rw [c4b0]) | skip);have H':=Aside0.mk H;clear H;obtain ⟨_,_,_,_,_,_,_,_,_,_,_,_⟩:=HI0.out.all;go_wp2;repeat (go_quiet (fail);try go_wp2)
     go_meet
     case rel=>exact ⟨_,(false),rsd,H',⟨by have:=HK1.out;first | omega | exact Nat.le_refl _⟩,⟨ix⟩,⟨kx⟩,⟨bx⟩⟩
   case rest =>
    clear HC3;obtain ⟨kq,x42_2,rfl,HA,HJ2,HI0,HK,HB⟩:=hcut;cases kq with
    | zero=>exact absurd HA.out (by simp [rzreader_digits.j1])
    | succ kj2 =>
     have H:=HA.out;clear HA;simp only [rzreader_digits.j1] at H;by_cases c12:x42_2=true
     ·subst c12;rw [if_pos rfl] at H;by_cases c13:(wrap64 (x1001_1 - s0_1)) < 19
      ·rw [if_pos c13] at H;have c13b0:=decide_eq_true c13;clear c13;by_cases c14:0≤x1001_1
       ·rw [if_pos c14] at H;have c14b0:=decide_eq_true c14;clear c14;by_cases c15:x1001_1 < (s0_0.size:Int)
        ·rw [if_pos c15] at H;have c15b0:=decide_eq_true c15;clear c15;have H':=Aside0.mk H;clear H;obtain ⟨_,_,_,_,_,_,_,_,_,_,_,_⟩:=HI0.out.all;have p16:0≤(x1001_1:Int):=of_decide_eq_true asm;have q16:x1001_1 < (s0_0.size:Int):=of_decide_eq_true asm;have hx16:=bt_at s0_0 x1001_1;replace p16:=eq_true p16;replace q16:=eq_true q16;go_wp2;repeat (go_quiet (fail);try go_wp2)
         go_roundg kj2
         case measure=>have:=HK1.out;have:=HJ2.out;omega
         case rel=>exact ⟨(IntKind.u64.wrap ((IntKind.u64.wrap (10 * x4_1))+(((bt s0_0 x1001_1) - 48) % 256))),(wrap64 (x1001_1+1)),rsd,H',⟨by have:=HK1.out;have:=HJ2.out;omega⟩,⟨ix⟩,⟨kx⟩,⟨bx⟩⟩
        ·rw [if_neg c15] at H;exact absurd H (by simp)
       ·rw [if_neg c14] at H;exact absurd H (by simp)
      ·rw [if_neg c13] at H;have c13b0:=decide_eq_false c13;clear c13;have H':=Aside0.mk H;clear H;obtain ⟨_,_,_,_,_,_,_,_,_,_,_,_⟩:=HI0.out.all;go_wp2;repeat (go_quiet (fail);try go_wp2)
       go_roundg kj2
       case measure=>have:=HK1.out;have:=HJ2.out;omega
       case rel=>exact ⟨(x4_1),(wrap64 (x1001_1+1)),rsd,H',⟨by have:=HK1.out;have:=HJ2.out;omega⟩,⟨ix⟩,⟨kx⟩,⟨bx⟩⟩
     ·replace c12:=Bool.eq_false_iff.mpr c12;subst c12;rw [if_neg (show ¬ (false=true) by decide)] at H;by_cases c19:x1001_1 > s0_1
      ·rw [if_pos c19] at H;have c19b0:decide (s0_1 < x1001_1)=true:=decide_eq_true c19;clear c19;obtain ⟨⟨t468,t469,t470,t471,t472,t473⟩,A20,H⟩:=bas H;(try dsimp only at H);simp only [Option.some.injEq,Prod.mk.injEq] at H;obtain ⟨rfl,rfl,rfl,rfl,rfl,rfl,rfl⟩:=H;obtain ⟨_,_,_,_,_,_,_,_,_,_,_,_⟩:=HI0.out.all;go_wp2_with (first | (go_at_call 107;(with_reducible refine (rzreader_must.calls g s0_0 x1001_1 s0_2 s0_3 s0_4 s0_5 (decide ((wrap64 (x1001_1 - s0_1))≤19)) t468 t469 t470 t471 t472 t473 w0 _ ?side1 ?side2 A20.out).mono ?_);(case side1=>exact ix);(case side2=>exact bx);rintro e w22 ⟨rfl,hi,hb,hk⟩;replace HK:=ktr kx hk;replace HB:=Aside0.mk hb;replace HI0:=Aside0.mk hi;clear hi hb hk))
       repeat (go_quiet (first | (go_at_call 107;(with_reducible refine (rzreader_must.calls g s0_0 x1001_1 s0_2 s0_3 s0_4 s0_5 (decide ((wrap64 (x1001_1 - s0_1))≤19)) t468 t469 t470 t471 t472 t473 w0 _ ?side1 ?side2 A20.out).mono ?_);(case side1=>exact ix);(case side2=>exact bx);rintro e w22 ⟨rfl,hi,hb,hk⟩;replace HK:=ktr kx hk;replace HB:=Aside0.mk hb;replace HI0:=Aside0.mk hi;clear hi hb hk));try go_wp2_with (first | (go_at_call 107;(with_reducible refine (rzreader_must.calls g s0_0 x1001_1 s0_2 s0_3 s0_4 s0_5 (decide ((wrap64 (x1001_1 - s0_1))≤19)) t468 t469 t470 t471 t472 t473 w0 _ ?side1 ?side2 A20.out).mono ?_);(case side1=>exact ix);(case side2=>exact bx);rintro e w22 ⟨rfl,hi,hb,hk⟩;replace HK:=ktr kx hk;replace HB:=Aside0.mk hb;replace HI0:=Aside0.mk hi;clear hi hb hk)))
       go_ret;exact ⟨rew,ix,bx,kx⟩
      ·rw [if_neg c19] at H;have c19b0:decide (s0_1 < x1001_1)=false:=decide_eq_false c19;clear c19;obtain ⟨⟨t474,t475,t476,t477,t478,t479⟩,A23,H⟩:=bas H;(try dsimp only at H);simp only [Option.some.injEq,Prod.mk.injEq] at H;obtain ⟨rfl,rfl,rfl,rfl,rfl,rfl,rfl⟩:=H;obtain ⟨_,_,_,_,_,_,_,_,_,_,_,_⟩:=HI0.out.all;go_wp2_with (first | (go_at_call 107;(with_reducible refine (rzreader_must.calls g _ _ _ _ _ _ false _ _ _ _ _ _ w0 _ ?side1 ?side2 A23.out).mono ?_);(case side1=>exact ix);(case side2=>exact bx);rintro e w25 ⟨rfl,hi,hb,hk⟩;replace HK:=ktr kx hk;replace HB:=Aside0.mk hb;replace HI0:=Aside0.mk hi;clear hi hb hk))
       repeat (go_quiet (first | (go_at_call 107;(with_reducible refine (rzreader_must.calls g _ _ _ _ _ _ false _ _ _ _ _ _ w0 _ ?side1 ?side2 A23.out).mono ?_);(case side1=>exact ix);(case side2=>exact bx);rintro e w25 ⟨rfl,hi,hb,hk⟩;replace HK:=ktr kx hk;replace HB:=Aside0.mk hb;replace HI0:=Aside0.mk hi;clear hi hb hk));try go_wp2_with (first | (go_at_call 107;(with_reducible refine (rzreader_must.calls g _ _ _ _ _ _ false _ _ _ _ _ _ w0 _ ?side1 ?side2 A23.out).mono ?_);(case side1=>exact ix);(case side2=>exact bx);rintro e w25 ⟨rfl,hi,hb,hk⟩;replace HK:=ktr kx hk;replace HB:=Aside0.mk hb;replace HI0:=Aside0.mk hi;clear hi hb hk)))
       go_ret;exact ⟨rew,ix,bx,kx⟩
end Go.Proofs.YtffojmgmpfjlhaaGreatDoor.Q
