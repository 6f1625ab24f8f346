/- Parts of the proof: InsnPrints: what Print and Parse answer is what the reference answers: the law returns true for every input; the inputs read as they did; the package-level variables hold what the program's text lays in them: the tied card. -/
import Derived.Test.YtffojmgmpfjlhaaGreatDoorInsnPrintsY5
set_option maxHeartbeats 8000000
set_option maxRecDepth 100000
set_option linter.unusedVariables false
set_option linter.unusedSimpArgs false
namespace Go.Proofs.YtffojmgmpfjlhaaGreatDoor.Q
open Go.Proofs.YtffojmgmpfjlhaaGreatDoor Go.RowKit Go.Proofs.YtffojmgmpfjlhaaGreatDoorW.PrintWords Go.Proofs.YtffojmgmpfjlhaaGreatDoorW.PrintLast Go.Proofs.YtffojmgmpfjlhaaGreatDoorW.PrintMore
attribute [local go_sem] max2_int min2_int max_two min_two max_three min_three max_four min_four
def rzreader_comma.f (k:Nat) (s0_0:ByteArray) (s0_1:Int) (s0_2:Bool) (s0_3:Bool) (s0_4:Bool) (s0_5:ByteArray):Option (ByteArray × Int × Bool × Bool × Bool × ByteArray):=(rzreader_blanks.f k s0_0 s0_1 s0_2 s0_3 s0_4 s0_5).bind fun bt499=>((rzreader_next.f bt499.1 bt499.2.1 bt499.2.2.1 bt499.2.2.2.1 bt499.2.2.2.2.1 bt499.2.2.2.2.2 44).bind fun bt505=>((rzreader_must.f bt505.2.1 bt505.2.2.1 bt505.2.2.2.1 bt505.2.2.2.2.1 bt505.2.2.2.2.2.1 bt505.2.2.2.2.2.2 bt505.1).bind fun bt512=>((rzreader_blanks.f k bt512.1 bt512.2.1 bt512.2.2.1 bt512.2.2.2.1 bt512.2.2.2.2.1 bt512.2.2.2.2.2).bind fun bt518=>(some (bt518.1,bt518.2.1,bt518.2.2.1,bt518.2.2.2.1,bt518.2.2.2.2.1,bt518.2.2.2.2.2)))))
theorem rzreader_comma.mono:∀ a0 a1 a2 a3 a4 a5 k,LeO (rzreader_comma.f k a0 a1 a2 a3 a4 a5) (rzreader_comma.f (k+1) a0 a1 a2 a3 a4 a5):=by
 intro a0 a1 a2 a3 a4 a5 k;unfold rzreader_comma.f;repeat' first
   | (with_reducible exact rzreader_blanks.mono _ _ _ _ _ _ _)
   | (with_reducible exact LeO.refl _)
   | (with_reducible exact LeO.none _)
   | (with_reducible refine LeO.ite ?_ ?_)
   | (with_reducible refine LeO.bind ?_ (fun _=>?_))
   | exact LeO.none _
   | refine LeO.ite ?_ ?_
   | refine LeO.bind ?_ (fun _=>?_)
theorem rzreader_comma.calls (k:Nat) (g:Nat) (s0_0:ByteArray) (s0_1:Int) (s0_2:Bool) (s0_3:Bool) (s0_4:Bool) (s0_5:ByteArray) (r1:ByteArray) (r2:Int) (r3:Bool) (r4:Bool) (r5:Bool) (r6:ByteArray) (w0 w:World) (hI:IsS117 w0 w g s0_0 s0_1 s0_2 s0_3 s0_4 s0_5) (hB:Below w0.heap.size w0 w) (h:rzreader_comma.f k s0_0 s0_1 s0_2 s0_3 s0_4 s0_5=some (r1,r2,r3,r4,r5,r6)) :
  Calls Tryz.prog 136 #[.pointer (some ⟨g,0,none⟩)] w fun e w'=>e=.returned (.tuple #[])∧IsS117 w0 w' g r1 r2 r3 r4 r5 r6∧Below w0.heap.size w0 w'∧KeepBut w w' g none:=by
 have HI0:=Aside0.mk hI;have HK:=Aside0.mk (KeepBut.refl w g none);have HL:=Aside0.mk hB.size;clear hI;have HW0:=Aside0.mk hB.size;have HB:=Aside0.mk hB;clear hB;unfold rzreader_comma.f at h;have H:=h;clear h;obtain ⟨⟨t499,t500,t501,t502,t503,t504⟩,A2,H⟩:=bas H;(try dsimp only at H);obtain ⟨⟨t505,t506,t507,t508,t509,t510,t511⟩,A3,H⟩:=bas H;(try dsimp only at H);obtain ⟨⟨t512,t513,t514,t515,t516,t517⟩,A4,H⟩:=bas H;(try dsimp only at H);obtain ⟨⟨t518,t519,t520,t521,t522,t523⟩,A5,H⟩:=bas H;(try dsimp only at H);simp only [Option.some.injEq,Prod.mk.injEq] at H;obtain ⟨rfl,rfl,rfl,rfl,rfl,rfl⟩:=H;go_enter Tryz.func136,Tryz.ntmps136
 go_wp2_with (first | ((with_reducible refine gate_callee (f:=104) rfl ?_);refine gl (some 3) Tryz.func104 #[.pointer (some ⟨g,0,none⟩)] ?_;(with_reducible refine (rzreader_blanks.calls k g _ _ _ _ _ _ _ _ _ _ _ _ w0 _ ?side1 ?side2 A2.out).mono ?_);(case side1=>exact ix);(case side2=>exact bx);rintro e w6 ⟨rfl,hi,hb,hk⟩;refine ⟨_,rfl,?_⟩;replace HK:=ktr kx hk;replace HB:=Aside0.mk hb;replace HI0:=Aside0.mk hi;clear hi hb hk) | ((with_reducible refine gate_callee (f:=115) rfl ?_);refine gl (some 6) Tryz.func115 #[.pointer (some ⟨g,0,none⟩),.int .u8 44] ?_;(with_reducible refine (rzreader_next.calls g _ _ _ _ _ _ 44 _ _ _ _ _ _ _ w0 _ ?side1 ?side2 A3.out).mono ?_);(case side1=>exact ix);(case side2=>exact bx);rintro e w7 ⟨rfl,hi,hb,hk⟩;refine ⟨_,rfl,?_⟩;replace HK:=ktr kx hk;replace HB:=Aside0.mk hb;replace HI0:=Aside0.mk hi;clear hi hb hk) | ((with_reducible refine gate_callee (f:=107) rfl ?_);refine gl (some 7) Tryz.func107 #[.pointer (some ⟨g,0,none⟩),.bool t505] ?_;(with_reducible refine (rzreader_must.calls g _ _ _ _ _ _ _ _ _ _ _ _ _ w0 _ ?side1 ?side2 A4.out).mono ?_);(case side1=>exact ix);(case side2=>exact bx);rintro e w8 ⟨rfl,hi,hb,hk⟩;refine ⟨_,rfl,?_⟩;replace HK:=ktr kx hk;replace HB:=Aside0.mk hb;replace HI0:=Aside0.mk hi;clear hi hb hk) | ((with_reducible refine gate_callee (f:=104) rfl ?_);refine gl (some 9) Tryz.func104 #[.pointer (some ⟨g,0,none⟩)] ?_;(with_reducible refine (rzreader_blanks.calls k g _ _ _ _ _ _ _ _ _ _ _ _ w0 _ ?side1 ?side2 A5.out).mono ?_);(case side1=>exact ix);(case side2=>exact bx);rintro e w9 ⟨rfl,hi,hb,hk⟩;refine ⟨_,rfl,?_⟩;replace HK:=ktr kx hk;replace HB:=Aside0.mk hb;replace HI0:=Aside0.mk hi;clear hi hb hk))
 first | go_end0 | ((try simp only [Exit.inBlock,Exit.then]);refine bodyPost_ret (results_none rfl _ _ _) rfl ?_)
 exact ⟨rew,ix,bx,kx⟩
def rzreader_number.f (k:Nat) (s0_0:ByteArray) (s0_1:Int) (s0_2:Bool) (s0_3:Bool) (s0_4:Bool) (s0_5:ByteArray):Option (Int × ByteArray × Int × Bool × Bool × Bool × ByteArray):=(rzreader_next.f s0_0 s0_1 s0_2 s0_3 s0_4 s0_5 45).bind fun bt524=>((rzreader_digits.f k bt524.2.1 bt524.2.2.1 bt524.2.2.2.1 bt524.2.2.2.2.1 bt524.2.2.2.2.2.1 bt524.2.2.2.2.2.2).bind fun bt531=>((rzsigned.f bt531.1 bt524.1).bind fun bt538=>((rzreader_must.f bt531.2.1 bt531.2.2.1 bt531.2.2.2.1 bt531.2.2.2.2.1 bt531.2.2.2.2.2.1 bt531.2.2.2.2.2.2 bt538.2).bind fun bt540=>(some (bt538.1,bt540.1,bt540.2.1,bt540.2.2.1,bt540.2.2.2.1,bt540.2.2.2.2.1,bt540.2.2.2.2.2)))))
theorem rzreader_number.mono:∀ a0 a1 a2 a3 a4 a5 k,LeO (rzreader_number.f k a0 a1 a2 a3 a4 a5) (rzreader_number.f (k+1) a0 a1 a2 a3 a4 a5):=by
 intro a0 a1 a2 a3 a4 a5 k;unfold rzreader_number.f;repeat' first
   | (with_reducible exact rzreader_digits.mono _ _ _ _ _ _ _)
   | (with_reducible exact LeO.refl _)
   | (with_reducible exact LeO.none _)
   | (with_reducible refine LeO.ite ?_ ?_)
   | (with_reducible refine LeO.bind ?_ (fun _=>?_))
   | exact LeO.none _
   | refine LeO.ite ?_ ?_
   | refine LeO.bind ?_ (fun _=>?_)
theorem rzreader_number.calls (k:Nat) (g:Nat) (s0_0:ByteArray) (s0_1:Int) (s0_2:Bool) (s0_3:Bool) (s0_4:Bool) (s0_5:ByteArray) (r1:Int) (r2:ByteArray) (r3:Int) (r4:Bool) (r5:Bool) (r6:Bool) (r7:ByteArray) (w0 w:World) (hI:IsS117 w0 w g s0_0 s0_1 s0_2 s0_3 s0_4 s0_5) (hB:Below w0.heap.size w0 w) (h:rzreader_number.f k s0_0 s0_1 s0_2 s0_3 s0_4 s0_5=some (r1,r2,r3,r4,r5,r6,r7)) :
  Calls Tryz.prog 138 #[.pointer (some ⟨g,0,none⟩)] w fun e w'=>e=.returned (.int .i64 r1)∧IsS117 w0 w' g r2 r3 r4 r5 r6 r7∧Below w0.heap.size w0 w'∧KeepBut w w' g none:=by
 have HI0:=Aside0.mk hI;have HK:=Aside0.mk (KeepBut.refl w g none);have HL:=Aside0.mk hB.size;clear hI;have HW0:=Aside0.mk hB.size;have HB:=Aside0.mk hB;clear hB;unfold rzreader_number.f at h;have H:=h;clear h;obtain ⟨⟨t524,t525,t526,t527,t528,t529,t530⟩,A2,H⟩:=bas H;(try dsimp only at H);obtain ⟨⟨t531,t532,t533,t534,t535,t536,t537⟩,A3,H⟩:=bas H;(try dsimp only at H);obtain ⟨⟨t538,t539⟩,A4,H⟩:=bas H;(try dsimp only at H);obtain ⟨⟨t540,t541,t542,t543,t544,t545⟩,A5,H⟩:=bas H;(try dsimp only at H);simp only [Option.some.injEq,Prod.mk.injEq] at H;obtain ⟨rfl,rfl,rfl,rfl,rfl,rfl,rfl⟩:=H;go_enter Tryz.func138,Tryz.ntmps138
 go_wp2_with (first | ((with_reducible refine gate_callee (f:=115) rfl ?_);refine gl (some 7) Tryz.func115 #[.pointer (some ⟨g,0,none⟩),.int .u8 45] ?_;(with_reducible refine (rzreader_next.calls g _ _ _ _ _ _ 45 _ _ _ _ _ _ _ w0 _ ?side1 ?side2 A2.out).mono ?_);(case side1=>exact ix);(case side2=>exact bx);rintro e w6 ⟨rfl,hi,hb,hk⟩;refine ⟨_,rfl,?_⟩;replace HK:=ktr kx hk;replace HB:=Aside0.mk hb;replace HI0:=Aside0.mk hi;clear hi hb hk) | ((with_reducible refine gate_callee (f:=155) rfl ?_);refine gl (some 10) Tryz.func155 #[.pointer (some ⟨g,0,none⟩)] ?_;(with_reducible refine (rzreader_digits.calls k g _ _ _ _ _ _ _ _ _ _ _ _ _ w0 _ ?side1 ?side2 A3.out).mono ?_);(case side1=>exact ix);(case side2=>exact bx);rintro e w7 ⟨rfl,hi,hb,hk⟩;refine ⟨_,rfl,?_⟩;replace HK:=ktr kx hk;replace HB:=Aside0.mk hb;replace HI0:=Aside0.mk hi;clear hi hb hk) | ((with_reducible refine gate_callee (f:=154) rfl ?_);refine gl (some 12) Tryz.func154 #[.int .u64 t531,.bool t524] ?_;(with_reducible refine (rzsigned.calls _ _ _ _ _ A4.out).mono ?_);rintro e w' ⟨rfl,⟨nd,rfl⟩⟩;refine ⟨_,rfl,?_⟩) | ((with_reducible refine gate_callee (f:=107) rfl ?_);refine gl (some 17) Tryz.func107 #[.pointer (some ⟨g,0,none⟩),.bool t539] ?_;(with_reducible refine (rzreader_must.calls g _ _ _ _ _ _ _ _ _ _ _ _ _ w0 _ ?side1 ?side2 A5.out).mono ?_);(case side1=>exact ix);(case side2=>exact bx);rintro e w8 ⟨rfl,hi,hb,hk⟩;refine ⟨_,rfl,?_⟩;replace HK:=ktr kx hk;replace HB:=Aside0.mk hb;replace HI0:=Aside0.mk hi;clear hi hb hk))
 go_ret;exact ⟨rew,ix,bx,kx⟩
mutual
def rzIsName.j0:Nat→ByteArray→Bool→Option (Bool)
 | 0,_,_=>none
 | k+1,x0,x11=>if x11=true then (some false) else (rzIsName.l0 k x0 0)
def rzIsName.l0:Nat→ByteArray→Int→Option (Bool)
 | 0,_,_=>none
 | k+1,x0,x3=>if x3 < (x0.size:Int) then (if 0≤x3 then ((rzisLetter.f (bt x0 x3)).bind fun t546=>(if t546=true then (rzIsName.l0 k x0 (wrap64 (x3+1))) else (if x3=0 then (some false) else (if (bt x0 x3) < 48 then (some false) else (if (bt x0 x3) > 57 then (some false) else (rzIsName.l0 k x0 (wrap64 (x3+1)))))))) else (none)) else (some true)
end
def rzIsName.f (k:Nat) (a0:ByteArray):Option (Bool):=if (a0.size:Int) < 1 then (rzIsName.j0 k a0 true) else (rzIsName.j0 k a0 (decide ((a0.size:Int) > 31)))
theorem rzIsName.mono_l:∀ k,(∀ y0 y1,LeO (rzIsName.j0 k y0 y1) (rzIsName.j0 (k+1) y0 y1))∧(∀ y0 y1,LeO (rzIsName.l0 k y0 y1) (rzIsName.l0 (k+1) y0 y1))
 | 0=>⟨fun _ _ r h=>by simp [rzIsName.j0] at h,fun _ _ r h=>by simp [rzIsName.l0] at h⟩
 | k+1=>by
  obtain ⟨ih0,ih1⟩:=rzIsName.mono_l k;refine ⟨?_,?_⟩
  ·intro y0 y1;unfold rzIsName.j0;repeat' first
   | (with_reducible exact ih0 _ _)
   | (with_reducible exact ih1 _ _)
   | (with_reducible exact LeO.refl _)
   | (with_reducible exact LeO.none _)
   | (with_reducible refine LeO.ite ?_ ?_)
   | (with_reducible refine LeO.bind ?_ (fun _=>?_))
   | exact LeO.none _
   | refine LeO.ite ?_ ?_
   | refine LeO.bind ?_ (fun _=>?_)
  ·intro y0 y1;unfold rzIsName.l0;repeat' first
   | (with_reducible exact ih0 _ _)
   | (with_reducible exact ih1 _ _)
   | (with_reducible exact LeO.refl _)
   | (with_reducible exact LeO.none _)
   | (with_reducible refine LeO.ite ?_ ?_)
   | (with_reducible refine LeO.bind ?_ (fun _=>?_))
   | exact LeO.none _
   | refine LeO.ite ?_ ?_
   | refine LeO.bind ?_ (fun _=>?_)
theorem rzIsName.mono:∀ a0 k,LeO (rzIsName.f k a0) (rzIsName.f (k+1) a0):=by
 intro a0 k;obtain ⟨ih0,ih1⟩:=rzIsName.mono_l k;unfold rzIsName.f;repeat' first
   | (with_reducible exact ih0 _ _)
   | (with_reducible exact ih1 _ _)
   | (with_reducible exact LeO.refl _)
   | (with_reducible exact LeO.none _)
   | (with_reducible refine LeO.ite ?_ ?_)
   | (with_reducible refine LeO.bind ?_ (fun _=>?_))
   | exact LeO.none _
   | refine LeO.ite ?_ ?_
   | refine LeO.bind ?_ (fun _=>?_)
theorem rzIsName.calls (k:Nat) (a0:ByteArray) (r:Bool) (w:World) (h:rzIsName.f k a0=some r) :
  Calls Tryz.prog 117 #[.string a0] w fun e w'=>e=.returned (.bool r)∧Drawn0 w w':=by
 unfold rzIsName.f at h;have H:=h;clear h;have HC2:=Aside0.mk H;clear H;go_enter Tryz.func117,Tryz.ntmps117
 go_upto_region 1 with (fail)
 go_cut [11] (fun v11 wc=>∃ (kq:Nat) (x11_1:Bool),v11=.bool x11_1∧Aside0 (rzIsName.j0 kq a0 x11_1=some r)∧Aside0 (kq≤k)∧Drawn0 w wc)
 case first =>
  have H:=HC2.out;clear HC2;by_cases c3:(a0.size:Int) < 1
  ·rw [if_pos c3] at H;have c3b0:=decide_eq_true c3;have c3b1:decide (a0.size < 1)=true:=decide_eq_true (by omega);clear c3;(first | rw [c3b0] | (simp only [i64_w,i32_w];rw [c3b0]) | skip);have H':=Aside0.mk H;clear H;go_wp2;go_meet
   case rel=>exact ⟨_,(true),rsd,H',⟨by first | omega | exact Nat.le_refl _⟩,by repeat (first | exact Drawn0.refl _ | apply Drawn0.step)⟩
  ·rw [if_neg c3] at H;have c3b0:=decide_eq_false c3;have c3b1:decide (a0.size < 1)=false:=decide_eq_false (by omega);clear c3;(first | rw [c3b0] | (simp only [i64_w,i32_w];rw [c3b0]) | skip);have H':=Aside0.mk H;clear H;go_wp2;go_meet
   case rel=>exact ⟨_,(decide ((a0.size:Int) > 31)),rsd,H',⟨by first | omega | exact Nat.le_refl _⟩,by repeat (first | exact Drawn0.refl _ | apply Drawn0.step)⟩
 case rest =>
  clear HC2;obtain ⟨kq,x11_1,rfl,HA,HJ1,⟨mc1,rfl⟩⟩:=hcut;cases kq with
  | zero=>exact absurd HA.out (by simp [rzIsName.j0])
  | succ kj1 =>
   have H:=HA.out;clear HA;simp only [rzIsName.j0] at H;by_cases c4:x11_1=true
   ·subst c4;rw [if_pos rfl] at H;obtain rfl:=Option.some.inj H;go_wp2;go_ret;exact ⟨by first | rfl | (simp;done) | (simp [*];done),by repeat (first | exact Drawn0.refl _ | apply Drawn0.step)⟩
   ·replace c4:=Bool.eq_false_iff.mpr c4;subst c4;rw [if_neg (show ¬ (false=true) by decide)] at H;have H':=Aside0.mk H;clear H;go_wp2;try simp only [Act.put,List.setIfInBounds_toArray,List.set_cons_zero,List.set_cons_succ]
    go_loopg [3] kj1 (fun kq v3 w'=>∃ (x3_2:Int),v3=.int .i64 x3_2∧Aside0 (rzIsName.l0 kq a0 x3_2=some r)∧Aside0 (kq≤kj1)∧Drawn0 w w')
    case atStart=>exact ⟨(0),rsd,H',⟨Nat.le_refl _⟩,by repeat (first | exact Drawn0.refl _ | apply Drawn0.step)⟩
    case round =>
     clear H';try clear c4
     obtain ⟨x3_2,rfl,HA,HK2,⟨m2,rfl⟩⟩:=hrel;cases gk with
     | zero=>exact absurd HA.out (by simp [rzIsName.l0])
     | succ k2 =>
      have H:=HA.out;clear HA;simp only [rzIsName.l0] at H;by_cases c5:x3_2 < (a0.size:Int)
      ·rw [if_pos c5] at H;have c5b0:=decide_eq_true c5;clear c5;by_cases c6:0≤x3_2
       ·rw [if_pos c6] at H;have c6b0:=decide_eq_true c6;clear c6;obtain ⟨t546,A8,H⟩:=bas H;(try dsimp only at H);by_cases c9:t546=true
        ·subst c9;rw [if_pos rfl] at H;have H':=Aside0.mk H;clear H;have p7:0≤(x3_2:Int):=of_decide_eq_true asm;have q7:x3_2 < (a0.size:Int):=of_decide_eq_true asm;have hx7:=bt_at a0 x3_2;replace p7:=eq_true p7;replace q7:=eq_true q7;go_wp2_with (first | ((with_reducible refine gate_callee (f:=134) rfl ?_);refine gl (some 21) Tryz.func134 #[.int .u8 (bt a0 x3_2)] ?_;(with_reducible refine (rzisLetter.calls (bt a0 x3_2) true _ A8.out).mono ?_);rintro e w' ⟨rfl,⟨nd,rfl⟩⟩;refine ⟨_,rfl,?_⟩))
         go_roundg k2
         case measure=>have:=HJ1.out;have:=HK2.out;omega
         case rel=>exact ⟨(wrap64 (x3_2+1)),rsd,H',⟨by have:=HJ1.out;have:=HK2.out;omega⟩,by repeat (first | exact Drawn0.refl _ | apply Drawn0.step)⟩
        ·replace c9:=Bool.eq_false_iff.mpr c9;subst c9;rw [if_neg (show ¬ (false=true) by decide)] at H;by_cases c10:x3_2=0
         ·rw [if_pos c10] at H;obtain ⟨c10b0,c10b1⟩:=bqt c10;clear c10;obtain rfl:=Option.some.inj H;have p7:0≤(x3_2:Int):=of_decide_eq_true asm;have q7:x3_2 < (a0.size:Int):=of_decide_eq_true asm;have hx7:=bt_at a0 x3_2;replace p7:=eq_true p7;replace q7:=eq_true q7;go_wp2_with (first | ((with_reducible refine gate_callee (f:=134) rfl ?_);refine gl (some 21) Tryz.func134 #[.int .u8 (bt a0 x3_2)] ?_;(with_reducible refine (rzisLetter.calls (bt a0 x3_2) false _ A8.out).mono ?_);rintro e w' ⟨rfl,⟨nd,rfl⟩⟩;refine ⟨_,rfl,?_⟩))
          go_ret;exact ⟨by first | rfl | (simp;done) | (simp [*];done),by repeat (first | exact Drawn0.refl _ | apply Drawn0.step)⟩
         ·rw [if_neg c10] at H;obtain ⟨c10b0,c10b1⟩:=bqf c10;by_cases c12:(bt a0 x3_2) < 48
          ·rw [if_pos c12] at H;have c12b0:=decide_eq_true c12;clear c12;obtain rfl:=Option.some.inj H;have p7:0≤(x3_2:Int):=of_decide_eq_true asm;have q7:x3_2 < (a0.size:Int):=of_decide_eq_true asm;have hx7:=bt_at a0 x3_2;replace p7:=eq_true p7;replace q7:=eq_true q7;go_wp2_with (first | ((with_reducible refine gate_callee (f:=134) rfl ?_);refine gl (some 21) Tryz.func134 #[.int .u8 (bt a0 x3_2)] ?_;(with_reducible refine (rzisLetter.calls (bt a0 x3_2) false _ A8.out).mono ?_);rintro e w' ⟨rfl,⟨nd,rfl⟩⟩;refine ⟨_,rfl,?_⟩;have p11:0≤(x3_2:Int):=of_decide_eq_true asm;have q11:x3_2 < (a0.size:Int):=of_decide_eq_true asm;have hx11:=bt_at a0 x3_2;replace p11:=eq_true p11;replace q11:=eq_true q11))
           go_ret;exact ⟨by first | rfl | (simp;done) | (simp [*];done),by repeat (first | exact Drawn0.refl _ | apply Drawn0.step)⟩
          ·rw [if_neg c12] at H;have c12b0:=decide_eq_false c12;clear c12;by_cases c14:(bt a0 x3_2) > 57
           ·rw [if_pos c14] at H;have c14b0:decide (57 < (bt a0 x3_2))=true:=decide_eq_true c14;clear c14;obtain rfl:=Option.some.inj H;have p7:0≤(x3_2:Int):=of_decide_eq_true asm;have q7:x3_2 < (a0.size:Int):=of_decide_eq_true asm;have hx7:=bt_at a0 x3_2;replace p7:=eq_true p7;replace q7:=eq_true q7;go_wp2_with (first | ((with_reducible refine gate_callee (f:=134) rfl ?_);refine gl (some 21) Tryz.func134 #[.int .u8 (bt a0 x3_2)] ?_;(with_reducible refine (rzisLetter.calls (bt a0 x3_2) false _ A8.out).mono ?_);rintro e w' ⟨rfl,⟨nd,rfl⟩⟩;refine ⟨_,rfl,?_⟩;have p11:0≤(x3_2:Int):=of_decide_eq_true asm;have q11:x3_2 < (a0.size:Int):=of_decide_eq_true asm;have hx11:=bt_at a0 x3_2;replace p11:=eq_true p11;replace q11:=eq_true q11;have p13:0≤(x3_2:Int):=of_decide_eq_true asm;have q13:x3_2 < (a0.size:Int):=of_decide_eq_true asm;have hx13:=bt_at a0 x3_2;replace p13:=eq_true p13;replace q13:=eq_true q13))
            go_ret;exact ⟨by first | rfl | (simp;done) | (simp [*];done),by repeat (first | exact Drawn0.refl _ | apply Drawn0.step)⟩
           ·rw [if_neg c14] at H;have c14b0:decide (57 < (bt a0 x3_2))=false:=decide_eq_false c14;clear c14;have H':=Aside0.mk H;clear H;have p7:0≤(x3_2:Int):=of_decide_eq_true asm;have q7:x3_2 < (a0.size:Int):=of_decide_eq_true asm;have hx7:=bt_at a0 x3_2;replace p7:=eq_true p7;replace q7:=eq_true q7;go_wp2_with (first | ((with_reducible refine gate_callee (f:=134) rfl ?_);refine gl (some 21) Tryz.func134 #[.int .u8 (bt a0 x3_2)] ?_;(with_reducible refine (rzisLetter.calls (bt a0 x3_2) false _ A8.out).mono ?_);rintro e w' ⟨rfl,⟨nd,rfl⟩⟩;refine ⟨_,rfl,?_⟩;have p11:0≤(x3_2:Int):=of_decide_eq_true asm;have q11:x3_2 < (a0.size:Int):=of_decide_eq_true asm;have hx11:=bt_at a0 x3_2;replace p11:=eq_true p11;replace q11:=eq_true q11;have p13:0≤(x3_2:Int):=of_decide_eq_true asm;have q13:x3_2 < (a0.size:Int):=of_decide_eq_true asm;have hx13:=bt_at a0 x3_2;replace p13:=eq_true p13;replace q13:=eq_true q13))
            go_roundg k2
            case measure=>have:=HJ1.out;have:=HK2.out;omega
            case rel=>exact ⟨(wrap64 (x3_2+1)),rsd,H',⟨by have:=HJ1.out;have:=HK2.out;omega⟩,by repeat (first | exact Drawn0.refl _ | apply Drawn0.step)⟩
       ·rw [if_neg c6] at H;exact absurd H (by simp)
      ·rw [if_neg c5] at H;have c5b0:=decide_eq_false c5;clear c5;obtain rfl:=Option.some.inj H;go_wp2;go_ret;exact ⟨by first | rfl | (simp;done) | (simp [*];done),by repeat (first | exact Drawn0.refl _ | apply Drawn0.step)⟩
end Go.Proofs.YtffojmgmpfjlhaaGreatDoor.Q
