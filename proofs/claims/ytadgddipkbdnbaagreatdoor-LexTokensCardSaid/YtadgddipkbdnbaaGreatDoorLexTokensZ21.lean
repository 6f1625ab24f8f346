/- Parts of the proof that the program's token functions return what the specification's return. -/
import Derived.Test.YtadgddipkbdnbaaGreatDoorLexTokensZ1
import Derived.Test.YtadgddipkbdnbaaGreatDoorLexTokensZ2
import Derived.Test.YtadgddipkbdnbaaGreatDoorLexTokensZ3
import Derived.Test.YtadgddipkbdnbaaGreatDoorLexTokensZ4
import Derived.Test.YtadgddipkbdnbaaGreatDoorLexTokensZ5
import Derived.Test.YtadgddipkbdnbaaGreatDoorLexTokensZ6
import Derived.Test.YtadgddipkbdnbaaGreatDoorLexTokensZ7
import Derived.Test.YtadgddipkbdnbaaGreatDoorLexTokensZ12
import Derived.Test.YtadgddipkbdnbaaGreatDoorLexTokensZ13
import Derived.Test.YtadgddipkbdnbaaGreatDoorLexTokensZ15
import Derived.Test.YtadgddipkbdnbaaGreatDoorLexTokensZ16
import Derived.Test.YtadgddipkbdnbaaGreatDoorLexTokensZ17
import Derived.Test.YtadgddipkbdnbaaGreatDoorLexTokensZ20
set_option linter.unusedVariables false
set_option linter.unusedSimpArgs false
namespace Go.Proofs.YtadgddipkbdnbaaGreatDoor.Q
open Go.Proofs.YtadgddipkbdnbaaGreatDoor Go.RowKit Go.Proofs.YtadgddipkbdnbaaGreatDoorW.PrintWords Go.Proofs.YtadgddipkbdnbaaGreatDoorW.PrintLast Go.Proofs.YtadgddipkbdnbaaGreatDoorW.PrintMore
attribute [local go_sem] max2_int min2_int max_two min_two max_three min_three max_four min_four
def lex_Number.f (a0:ByteArray):Option (Int × Bool × Int):=(lex_Kind.f a0).bind fun t198=>(if t198=3 then (if 0 < (a0.size:Int) then (if (bt a0 0)=39 then ((lex_character.f a0 1).bind fun bt199=>(some (wrap64 (bt199.1),false,0))) else ((lex_integer.f a0).bind fun bt202=>(some (bt202.1,bt202.2.1,0)))) else (none)) else (some (0,false,114)))
set_option maxHeartbeats 8000000 in
set_option maxRecDepth 100000 in
theorem lex_Number.calls (a0:ByteArray) (r1:Int) (r2:Bool) (r3:Int) (w:World) (h:lex_Number.f a0=some (r1,r2,r3)) (hgw:GW w) :
  Calls Tryz.prog 20 #[.string a0] w fun e w'=>e=.returned (.tuple #[.int .i64 r1,.bool r2,.int .i64 r3])∧Below w.heap.size w w':=by
 have HB:=Aside0.mk (Below.refl w.heap.size w);have H:((lex_Kind.f a0).bind fun t198=>(if t198=3 then (if 0 < (a0.size:Int) then (if (bt a0 0)=39 then ((lex_character.f a0 1).bind fun bt199=>(some (wrap64 (bt199.1),false,0))) else ((lex_integer.f a0).bind fun bt202=>(some (bt202.1,bt202.2.1,0)))) else (none)) else (some (0,false,114))))=some (r1,r2,r3):=h;clear h;replace H:=Option.bind_eq_some_iff.mp H;obtain ⟨t198,A20,H⟩:=H;replace H:(if t198=3 then (if 0 < (a0.size:Int) then (if (bt a0 0)=39 then ((lex_character.f a0 1).bind fun bt199=>(some (wrap64 (bt199.1),false,0))) else ((lex_integer.f a0).bind fun bt202=>(some (bt202.1,bt202.2.1,0)))) else (none)) else (some (0,false,114)))=some (r1,r2,r3):=H;have A2:=Aside0.mk A20;clear A20;by_cases c3:t198=3
 ·rw [if_pos c3] at H;have c3b0:(t198 == 3)=true:=beq_iff_eq.mpr c3;have c3b1:(t198 != 3)=false:=bne_eq_false_iff_eq.mpr c3;clear c3;by_cases c4:0 < (a0.size:Int)
  ·rw [if_pos c4] at H;have c4b0:decide (0 < (a0.size:Int))=true:=decide_eq_true c4;have c4b1:decide (0 < a0.size)=true:=decide_eq_true (by omega);clear c4;by_cases c6:(bt a0 0)=39
   ·rw [if_pos c6] at H;have c6b0:((bt a0 0) == 39)=true:=beq_iff_eq.mpr c6;have c6b1:((bt a0 0) != 39)=false:=bne_eq_false_iff_eq.mpr c6;clear c6;replace H:=Option.bind_eq_some_iff.mp H;obtain ⟨⟨t199,t200,t201⟩,A70,H⟩:=H;replace H:(some (wrap64 (t199),false,0))=some (r1,r2,r3):=H;have A7:=Aside0.mk A70;clear A70;simp only [Option.some.injEq,Prod.mk.injEq] at H;obtain ⟨rfl,rfl,rfl⟩:=H;go_enter Tryz.func20,Tryz.ntmps20
    go_wp2_with (first | ((with_reducible refine gate_callee (f:=35) rfl ?_);refine goesL_ (some 12) rfl rfl Tryz.func35 (by kernel_rfl) rfl #[.string a0] rfl fq ?_;(with_reducible refine (lex_Kind.calls a0 t198 _ A2.out gwx).mono ?_);rintro e w8 ⟨rfl,hb⟩;refine ⟨_,rfl,?_⟩;have n0_:=Aside0.mk (below_step blw hb);clear HB;have HB:=n0_;clear n0_;(try clear hb);(try clear hb2);(try clear hk);(try clear hi);have p5:0≤(0:Int):=(by omega);have q5:0 < a0.size:=(by have:(0:Int) < (a0.size:Int):=of_decide_eq_true asm;omega);have hx5:∀ h:0 < a0.size,((a0[0]'h).toNat:Int)=bt a0 0:=bt_at a0 0;clear p5;have qi5:(0 < (a0.size:Int))=True:=eq_true (of_decide_eq_true asm);replace q5:=eq_true q5) | ((with_reducible refine gate_callee (f:=53) rfl ?_);refine goesL_ (some 19) rfl rfl Tryz.func53 (by kernel_rfl) rfl #[.string a0,.int .i64 1] rfl fq ?_;(with_reducible refine (lex_character.calls a0 1 t199 t200 t201 _ A7.out gwx).mono ?_);rintro e w9 ⟨rfl,hb⟩;refine ⟨_,rfl,?_⟩;have n0_:=Aside0.mk (below_step blw hb);clear HB;have HB:=n0_;clear n0_;(try clear hb);(try clear hb2);(try clear hk);(try clear hi)))
    go_ret3;exact ⟨rew,blw⟩
   ·rw [if_neg c6] at H;have c6b0:((bt a0 0) == 39)=false:=beq_eq_false_iff_ne.mpr c6;have c6b1:((bt a0 0) != 39)=true:=bne_iff_ne.mpr c6;replace H:=Option.bind_eq_some_iff.mp H;obtain ⟨⟨t202,t203,t204⟩,A100,H⟩:=H;replace H:(some (t202,t203,0))=some (r1,r2,r3):=H;have A10:=Aside0.mk A100;clear A100;simp only [Option.some.injEq,Prod.mk.injEq] at H;obtain ⟨rfl,rfl,rfl⟩:=H;go_enter Tryz.func20,Tryz.ntmps20
    go_wp2_with (first | ((with_reducible refine gate_callee (f:=35) rfl ?_);refine goesL_ (some 12) rfl rfl Tryz.func35 (by kernel_rfl) rfl #[.string a0] rfl fq ?_;(with_reducible refine (lex_Kind.calls a0 t198 _ A2.out gwx).mono ?_);rintro e w11 ⟨rfl,hb⟩;refine ⟨_,rfl,?_⟩;have n0_:=Aside0.mk (below_step blw hb);clear HB;have HB:=n0_;clear n0_;(try clear hb);(try clear hb2);(try clear hk);(try clear hi);have p5:0≤(0:Int):=(by omega);have q5:0 < a0.size:=(by have:(0:Int) < (a0.size:Int):=of_decide_eq_true asm;omega);have hx5:∀ h:0 < a0.size,((a0[0]'h).toNat:Int)=bt a0 0:=bt_at a0 0;clear p5;have qi5:(0 < (a0.size:Int))=True:=eq_true (of_decide_eq_true asm);replace q5:=eq_true q5) | ((with_reducible refine gate_callee (f:=54) rfl ?_);refine goesL_ (some 27) rfl rfl Tryz.func54 (by kernel_rfl) rfl #[.string a0] rfl fq ?_;(with_reducible refine (lex_integer.calls a0 t202 t203 t204 _ A10.out gwx).mono ?_);rintro e w12 ⟨rfl,hb⟩;refine ⟨_,rfl,?_⟩;have n0_:=Aside0.mk (below_step blw hb);clear HB;have HB:=n0_;clear n0_;(try clear hb);(try clear hb2);(try clear hk);(try clear hi)))
    go_ret3;exact ⟨rew,blw⟩
  ·rw [if_neg c4] at H;exact absurd H (by simp)
 ·rw [if_neg c3] at H;have c3b0:(t198 == 3)=false:=beq_eq_false_iff_ne.mpr c3;have c3b1:(t198 != 3)=true:=bne_iff_ne.mpr c3;simp only [Option.some.injEq,Prod.mk.injEq] at H;obtain ⟨rfl,rfl,rfl⟩:=H;go_enter Tryz.func20,Tryz.ntmps20
  go_wp2_with (first | ((with_reducible refine gate_callee (f:=35) rfl ?_);refine goesL_ (some 12) rfl rfl Tryz.func35 (by kernel_rfl) rfl #[.string a0] rfl fq ?_;(with_reducible refine (lex_Kind.calls a0 t198 _ A2.out gwx).mono ?_);rintro e w13 ⟨rfl,hb⟩;refine ⟨_,rfl,?_⟩;have n0_:=Aside0.mk (below_step blw hb);clear HB;have HB:=n0_;clear n0_;(try clear hb);(try clear hb2);(try clear hk);(try clear hi)))
  go_ret3;exact ⟨rew,blw⟩
def lex_gives.f (a0:ByteArray) (l1:List (S38)):Option (Bool):=(lex_Scan.f a0).bind fun bt228=>(if bt228.2.2=0 then ((lex_Same.f bt228.1 l1).bind fun t233=>(some t233)) else (some false))
set_option maxHeartbeats 8000000 in
set_option maxRecDepth 100000 in
theorem lex_gives.calls (a0:ByteArray) (A1:Option Addr) (c1:Nat) (l1:List (S38)) (r:Bool) (w:World) (hr1:Kd.C k38 w A1 l1.length l1) (hc1:l1.length≤c1) (h:lex_gives.f a0 l1=some r) (hgw:GW w) :
  Calls Tryz.prog 58 #[.string a0,.slice A1 l1.length c1] w fun e w'=>e=.returned (.bool r)∧Below w.heap.size w w':=by
 have HR1:=Aside0.mk hr1;have HC1:=Aside0.mk hc1;clear hr1 hc1;have HB:=Aside0.mk (Below.refl w.heap.size w);have H:((lex_Scan.f a0).bind fun bt228=>(if bt228.2.2=0 then ((lex_Same.f bt228.1 l1).bind fun t233=>(some t233)) else (some false)))=some r:=h;clear h;replace H:=Option.bind_eq_some_iff.mp H;obtain ⟨⟨t228,t229,t230⟩,A30,H⟩:=H;replace H:(if t230=0 then ((lex_Same.f t228 l1).bind fun t233=>(some t233)) else (some false))=some r:=H;have A3:=Aside0.mk A30;clear A30;by_cases c4:t230=0
 ·rw [if_pos c4] at H;have c4b0:(t230 == 0)=true:=beq_iff_eq.mpr c4;have c4b1:(t230 != 0)=false:=bne_eq_false_iff_eq.mpr c4;clear c4;replace H:=Option.bind_eq_some_iff.mp H;obtain ⟨t233,A50,H⟩:=H;replace H:(some t233)=some r:=H;have A5:=Aside0.mk A50;clear A50;obtain rfl:=Option.some.inj H;go_enter Tryz.func58,Tryz.ntmps58
  go_wp2_with (first | ((with_reducible refine gate_callee (f:=17) rfl ?_);refine goesL_ (some 10) rfl rfl Tryz.func17 (by kernel_rfl) rfl #[.string a0] rfl fq ?_;(with_reducible refine (lex_Scan.calls a0 t228 t229 t230 _ A3.out gwx).mono ?_);rintro e w6 ⟨v231,rfl,ho0,hb⟩;refine ⟨_,rfl,?_⟩;have n0_:=Aside0.mk (Kd.R_lower ho0 (below_size blw));have n1_:=Aside0.mk (below_step blw hb);clear HB;have HO232:=n0_;have HB:=n1_;clear n0_ n1_;(try clear hb);(try clear hb2);(try clear hk);(try clear hi);(try clear ho0);obtain ⟨Ao7,co7,eo7⟩:=Kd.R_slice HO232.out;subst eo7) | (go_at_call 28;(with_reducible refine (lex_Same.calls _ _ t228 _ _ l1 t233 _ ?side1 ?side2 ?side3 ?side4 A5.out).mono ?_);(case side1=>repeat (first | exact (Kd.R_reads' HO232.out).2.2 | (with_reducible refine Kd.C_alloc ?_ _) | (with_reducible refine Kd.C_drewN ?_ _) | (with_reducible refine Kd.C_drew ?_)));(case side2=>exact (Kd.R_reads' HO232.out).2.1);(case side3=>repeat (first | exact (Kd.C_below HR1.out HB.out) | (with_reducible refine Kd.C_alloc ?_ _) | (with_reducible refine Kd.C_drewN ?_ _) | (with_reducible refine Kd.C_drew ?_)));(case side4=>exact HC1.out);rintro e w8 ⟨rfl,hb⟩;have n0_:=Aside0.mk (Kd.R_below (by (with_reducible repeat (first | apply Kd.R_alloc | apply Kd.R_drewN | apply Kd.R_drew));exact HO232.out) hb);have n1_:=Aside0.mk (below_step blw hb);clear HO232;clear HB;have HO232:=n0_;have HB:=n1_;clear n0_ n1_;(try clear hb);(try clear hb2);(try clear hk);(try clear hi)))
  go_ret;exact ⟨rew,blw⟩
 ·rw [if_neg c4] at H;have c4b0:(t230 == 0)=false:=beq_eq_false_iff_ne.mpr c4;have c4b1:(t230 != 0)=true:=bne_iff_ne.mpr c4;obtain rfl:=Option.some.inj H;go_enter Tryz.func58,Tryz.ntmps58
  go_wp2_with (first | ((with_reducible refine gate_callee (f:=17) rfl ?_);refine goesL_ (some 10) rfl rfl Tryz.func17 (by kernel_rfl) rfl #[.string a0] rfl fq ?_;(with_reducible refine (lex_Scan.calls a0 t228 t229 t230 _ A3.out gwx).mono ?_);rintro e w9 ⟨v231,rfl,ho0,hb⟩;refine ⟨_,rfl,?_⟩;have n0_:=Aside0.mk (Kd.R_lower ho0 (below_size blw));have n1_:=Aside0.mk (below_step blw hb);clear HB;have HO232:=n0_;have HB:=n1_;clear n0_ n1_;(try clear hb);(try clear hb2);(try clear hk);(try clear hi);(try clear ho0)))
  go_ret;exact ⟨rew,blw⟩
mutual
def lex_Join.l0:Nat→List (S38)→Int→List (S38)→Int→Int→Option (ByteArray)
 | 0,_,_,_,_,_=>none
 | k+1,x0,x3,x13,x14,x15=>if x15 < x14 then (if 0≤x15 then (if x15 < (x13.length:Int) then (if (wrap64 (x3+(wrap64 ((((rd_T38 x13 x15).f1).size:Int)+1)))) > 20001 then (some (⟨#[]⟩:zB)) else (lex_Join.l0 k x0 (wrap64 (x3+(wrap64 ((((rd_T38 x13 x15).f1).size:Int)+1)))) x13 x14 (wrap64 (x15+1)))) else (none)) else (none)) else (lex_Join.l1 k x0 ([]:List ByteArray) x0 (x0.length:Int) 0)
def lex_Join.l1:Nat→List (S38)→List ByteArray→List (S38)→Int→Int→Option (ByteArray)
 | 0,_,_,_,_,_=>none
 | k+1,x0,x6,x28,x29,x30=>if x30 < x29 then (if 0≤x30 then (if x30 < (x28.length:Int) then (if x6.length < 8796093022208 then (lex_Join.l1 k x0 (x6 ++ [(rd_T38 x28 x30).f1]) x28 x29 (wrap64 (x30+1))) else (none)) else (none)) else (none)) else ((strings_Join.f x6 (⟨#[32]⟩:zB)).bind fun t241=>((lex_gives.f t241 x0).bind fun t242=>(if t242=true then (some t241) else (some (⟨#[]⟩:zB)))))
end
def lex_Join.f (k:Nat) (l0:List (S38)):Option (ByteArray):=if (l0.length:Int) > 4000 then (some (⟨#[]⟩:zB)) else (lex_Join.l0 k l0 0 l0 (l0.length:Int) 0)
theorem lex_Join.mono_l:∀ k,(∀ y0 y1 y2 y3 y4,LeO (lex_Join.l0 k y0 y1 y2 y3 y4) (lex_Join.l0 (k+1) y0 y1 y2 y3 y4))∧(∀ y0 y1 y2 y3 y4,LeO (lex_Join.l1 k y0 y1 y2 y3 y4) (lex_Join.l1 (k+1) y0 y1 y2 y3 y4))
 | 0=>⟨fun _ _ _ _ _ r h=>by simp [lex_Join.l0] at h,fun _ _ _ _ _ r h=>by simp [lex_Join.l1] at h⟩
 | k+1=>by
  obtain ⟨ih0,ih1⟩:=lex_Join.mono_l k;refine ⟨?_,?_⟩
  ·intro y0 y1 y2 y3 y4;unfold lex_Join.l0;repeat' first
   | (with_reducible exact ih0 _ _ _ _ _)
   | (with_reducible exact ih1 _ _ _ _ _)
   | (with_reducible exact LeO.refl _)
   | (with_reducible exact LeO.none _)
   | (with_reducible refine LeO.ite ?_ ?_)
   | (with_reducible refine LeO.bind ?_ (fun _=>?_))
   | exact LeO.none _
   | refine LeO.ite ?_ ?_
   | refine LeO.bind ?_ (fun _=>?_)
  ·intro y0 y1 y2 y3 y4;unfold lex_Join.l1;repeat' first
   | (with_reducible exact ih0 _ _ _ _ _)
   | (with_reducible exact ih1 _ _ _ _ _)
   | (with_reducible exact LeO.refl _)
   | (with_reducible exact LeO.none _)
   | (with_reducible refine LeO.ite ?_ ?_)
   | (with_reducible refine LeO.bind ?_ (fun _=>?_))
   | exact LeO.none _
   | refine LeO.ite ?_ ?_
   | refine LeO.bind ?_ (fun _=>?_)
theorem lex_Join.mono:∀ a0 k,LeO (lex_Join.f k a0) (lex_Join.f (k+1) a0):=by
 intro a0 k;obtain ⟨ih0,ih1⟩:=lex_Join.mono_l k;unfold lex_Join.f;repeat' first
   | (with_reducible exact ih0 _ _ _ _ _)
   | (with_reducible exact ih1 _ _ _ _ _)
   | (with_reducible exact LeO.refl _)
   | (with_reducible exact LeO.none _)
   | (with_reducible refine LeO.ite ?_ ?_)
   | (with_reducible refine LeO.bind ?_ (fun _=>?_))
   | exact LeO.none _
   | refine LeO.ite ?_ ?_
   | refine LeO.bind ?_ (fun _=>?_)
set_option maxHeartbeats 8000000 in
set_option maxRecDepth 100000 in
theorem lex_Join.calls (k:Nat) (A0:Option Addr) (c0:Nat) (l0:List (S38)) (r:ByteArray) (w:World) (hr0:Kd.C k38 w A0 l0.length l0) (hc0:l0.length≤c0) (h:lex_Join.f k l0=some r) (hgw:GW w) :
  Calls Tryz.prog 22 #[.slice A0 l0.length c0] w fun e w'=>e=.returned (.string r)∧Below w.heap.size w w':=by
 have hu38:=Tryz.underlying38;have HR0:=Aside0.mk hr0;have HC0:=Aside0.mk hc0;clear hr0 hc0;have HB:=Aside0.mk (Below.refl w.heap.size w);have H:(if (l0.length:Int) > 4000 then (some (⟨#[]⟩:zB)) else (lex_Join.l0 k l0 0 l0 (l0.length:Int) 0))=some r:=h;clear h;by_cases c2:(l0.length:Int) > 4000
 ·rw [if_pos c2] at H;have c2b0:decide (4000 < (l0.length:Int))=true:=decide_eq_true c2;have c2b1:decide (4000 < l0.length)=true:=decide_eq_true (by omega);clear c2;obtain rfl:=Option.some.inj H;go_enter Tryz.func22,Tryz.ntmps22
  go_wp2;go_ret;exact ⟨rew,blw⟩
 ·rw [if_neg c2] at H;have c2b0:decide (4000 < (l0.length:Int))=false:=decide_eq_false c2;have c2b1:decide (4000 < l0.length)=false:=decide_eq_false (by omega);clear c2;have H':=Aside0.mk H;clear H;go_enter Tryz.func22,Tryz.ntmps22
  go_wp2;try simp only [Act.put,List.setIfInBounds_toArray,List.set_cons_zero,List.set_cons_succ]
  go_loopg [3,15] k (fun kq v3 v15 w'=>∃ (x3_1:Int) (x15_1:Int),v3=.int .i64 x3_1∧v15=.int .i64 x15_1∧Aside0 (lex_Join.l0 kq l0 x3_1 l0 (l0.length:Int) x15_1=some r)∧Aside0 (kq≤k)∧Aside0 (Below w.heap.size w w'))
  case atStart=>exact ⟨(0),(0),rsd,rsd,H',⟨Nat.le_refl _⟩,⟨blw⟩⟩
  case round =>
   clear H';try clear c2
   try clear c2b0
   try clear c2b1
   try clear p2
   obtain ⟨x3_1,x15_1,rfl,rfl,HA,HK1,HB⟩:=hrel;cases gk with
   | zero=>exact absurd HA.out (by simp [lex_Join.l0])
   | succ k1 =>
    have H:=HA.out;clear HA;simp only [lex_Join.l0] at H;by_cases c3:x15_1 < (l0.length:Int)
    ·rw [if_pos c3] at H;have c3b0:decide (x15_1 < (l0.length:Int))=true:=decide_eq_true c3;clear c3;by_cases c4:0≤x15_1
     ·rw [if_pos c4] at H;have c4b0:decide (0≤x15_1)=true:=decide_eq_true c4;clear c4;by_cases c5:x15_1 < (l0.length:Int)
      ·rw [if_pos c5] at H;have c5b0:decide (x15_1 < (l0.length:Int))=true:=decide_eq_true c5;clear c5;by_cases c6:(wrap64 (x3_1+(wrap64 ((((rd_T38 l0 x15_1).f1).size:Int)+1)))) > 20001
       ·rw [if_pos c6] at H;have c6b0:decide (20001 < (wrap64 (x3_1+(wrap64 ((((rd_T38 l0 x15_1).f1).size:Int)+1)))))=true:=decide_eq_true c6;clear c6;obtain rfl:=Option.some.inj H;have p234:0≤(x15_1:Int):=of_decide_eq_true asm;have q234:x15_1 < (l0.length:Int):=of_decide_eq_true asm;obtain ⟨ad234,e234,hx234_0,hx234_1,hx234_2⟩:=at_T38 HR0.out x15_1 p234 q234;cases e234;replace hx234_0:=(HB.out.cell (World.block_lt_of_cell? w _ hx234_0)).trans hx234_0;replace hx234_1:=(HB.out.cell (World.block_lt_of_cell? w _ hx234_1)).trans hx234_1;replace hx234_2:=(HB.out.cell (World.block_lt_of_cell? w _ hx234_2)).trans hx234_2;replace p234:=eq_true p234;replace q234:=eq_true q234;go_wp2_with (first | ((with_reducible refine gate_dst (N:=5) rfl ?_);refine box_event ?hg (N:=5) ?hd (cs:=#[.int .i64 0,.string (⟨#[]⟩:zB),.int .i64 0]) (t:=38) ?hr ?_;(case hd=>rfl);(case hg=>rfl);(case hr=>first | (go_simp;done) | (go_simp;rfl));intro gb235 hg w7 hbox hb;have n0_:=Aside0.mk (below_step blw hb);have n1_:=Aside0.mk (hbox);have n2_:=Aside0.mk ((by rw [hg];exact (below_size blw):w.heap.size≤gb235));have n3_:=Aside0.mk ((by rw [hg];exact (below_size blw):w.heap.size≤gb235));clear HB;have HB:=n0_;have BK235:=n1_;have GW235:=n2_;have GE235:=n3_;clear n0_ n1_ n2_ n3_;clear hb hbox hg;have hcz8_0:w7.cell? ⟨gb235,0,none⟩=some (.int .i64 0):=(blk_cell BK235.out 0).trans rfl;have hcz8_1:w7.cell? ⟨gb235,1,none⟩=some (.string (⟨#[]⟩:zB)):=(blk_cell BK235.out 1).trans rfl;have hcz8_2:w7.cell? ⟨gb235,2,none⟩=some (.int .i64 0):=(blk_cell BK235.out 2).trans rfl;have hfz8_0:=blk_frozen BK235.out 0;have hfz8_1:=blk_frozen BK235.out 1;have hfz8_2:=blk_frozen BK235.out 2))
        go_ret;exact ⟨rew,blw⟩
       ·rw [if_neg c6] at H;have c6b0:decide (20001 < (wrap64 (x3_1+(wrap64 ((((rd_T38 l0 x15_1).f1).size:Int)+1)))))=false:=decide_eq_false c6;clear c6;have H':=Aside0.mk H;clear H;have p234:0≤(x15_1:Int):=of_decide_eq_true asm;have q234:x15_1 < (l0.length:Int):=of_decide_eq_true asm;obtain ⟨ad234,e234,hx234_0,hx234_1,hx234_2⟩:=at_T38 HR0.out x15_1 p234 q234;cases e234;replace hx234_0:=(HB.out.cell (World.block_lt_of_cell? w _ hx234_0)).trans hx234_0;replace hx234_1:=(HB.out.cell (World.block_lt_of_cell? w _ hx234_1)).trans hx234_1;replace hx234_2:=(HB.out.cell (World.block_lt_of_cell? w _ hx234_2)).trans hx234_2;replace p234:=eq_true p234;replace q234:=eq_true q234;go_wp2_with (first | ((with_reducible refine gate_dst (N:=5) rfl ?_);refine box_event ?hg (N:=5) ?hd (cs:=#[.int .i64 0,.string (⟨#[]⟩:zB),.int .i64 0]) (t:=38) ?hr ?_;(case hd=>rfl);(case hg=>rfl);(case hr=>first | (go_simp;done) | (go_simp;rfl));intro gb235 hg w9 hbox hb;have n0_:=Aside0.mk (below_step blw hb);have n1_:=Aside0.mk (hbox);have n2_:=Aside0.mk ((by rw [hg];exact (below_size blw):w.heap.size≤gb235));have n3_:=Aside0.mk ((by rw [hg];exact (below_size blw):w.heap.size≤gb235));clear HB;have HB:=n0_;have BK235:=n1_;have GW235:=n2_;have GE235:=n3_;clear n0_ n1_ n2_ n3_;clear hb hbox hg;have hcz10_0:w9.cell? ⟨gb235,0,none⟩=some (.int .i64 0):=(blk_cell BK235.out 0).trans rfl;have hcz10_1:w9.cell? ⟨gb235,1,none⟩=some (.string (⟨#[]⟩:zB)):=(blk_cell BK235.out 1).trans rfl;have hcz10_2:w9.cell? ⟨gb235,2,none⟩=some (.int .i64 0):=(blk_cell BK235.out 2).trans rfl;have hfz10_0:=blk_frozen BK235.out 0;have hfz10_1:=blk_frozen BK235.out 1;have hfz10_2:=blk_frozen BK235.out 2))
        go_roundg k1
        case measure=>have:=HK1.out;omega
        case rel=>exact ⟨(wrap64 (x3_1+(wrap64 ((((rd_T38 l0 x15_1).f1).size:Int)+1)))),(wrap64 (x15_1+1)),rsd,rsd,H',⟨by have:=HK1.out;omega⟩,⟨blw⟩⟩
      ·rw [if_neg c5] at H;exact absurd H (by simp)
     ·rw [if_neg c4] at H;exact absurd H (by simp)
    ·rw [if_neg c3] at H;have c3b0:decide (x15_1 < (l0.length:Int))=false:=decide_eq_false c3;clear c3;have H':=Aside0.mk H;clear H;go_wp2;try simp only [Act.put,List.setIfInBounds_toArray,List.set_cons_zero,List.set_cons_succ]
     go_loopg [6,30] k1 (fun kq v6 v30 w'=>∃ (x6_2:List ByteArray) (x30_2:Int),v30=.int .i64 x30_2∧Aside0 (lex_Join.l1 kq l0 x6_2 l0 (l0.length:Int) x30_2=some r)∧Aside0 (kq≤k1)∧Aside0 (Kd.R Kd.string 9 w' w.heap.size (fun _=>True) v6 x6_2)∧Aside0 (Below w.heap.size w w'))
     case atStart=>exact ⟨(([]:List ByteArray)),(0),rsd,H',⟨Nat.le_refl _⟩,⟨by first | exact Kd.R_nil _ _ _ _ _ | exact Kd.N_nil _ _ _ _ _ | exact Kd.V_nil _ _ _ _ _ | exact Kd.Q_nil _ _ _ _ _ | exact Kd.S_nil _ _ _ _ _⟩,⟨blw⟩⟩
     case round =>
      clear H';try clear c2
      try clear c2b0
      try clear c2b1
      try clear p2
      try clear q2
      try clear hx2
      try clear c3
      try clear c3b0
      try clear c4
      try clear c4b0
      try clear c5
      try clear c5b0
      try clear c6
      try clear c6b0
      try clear p6
      try clear hcz10_0
      try clear hcz10_1
      try clear hcz10_2
      try clear hcz8_0
      try clear hcz8_1
      try clear hcz8_2
      try clear hfz10_0
      try clear hfz10_1
      try clear hfz10_2
      try clear hfz8_0
      try clear hfz8_1
      try clear hfz8_2
      try clear hx234_0
      try clear hx234_1
      try clear hx234_2
      try clear p2
      try clear p234
      try clear q234
      obtain ⟨x6_2,x30_2,rfl,HA,HK2,HO_6,HB⟩:=hrel;cases gk with
      | zero=>exact absurd HA.out (by simp [lex_Join.l1])
      | succ k2 =>
       have H:=HA.out;clear HA;simp only [lex_Join.l1] at H;by_cases c11:x30_2 < (l0.length:Int)
       ·rw [if_pos c11] at H;have c11b0:decide (x30_2 < (l0.length:Int))=true:=decide_eq_true c11;clear c11;by_cases c12:0≤x30_2
        ·rw [if_pos c12] at H;have c12b0:decide (0≤x30_2)=true:=decide_eq_true c12;clear c12;by_cases c13:x30_2 < (l0.length:Int)
         ·rw [if_pos c13] at H;have c13b0:decide (x30_2 < (l0.length:Int))=true:=decide_eq_true c13;clear c13;by_cases c14:x6_2.length < 8796093022208
          ·rw [if_pos c14] at H;have LMc14:=Aside0.mk c14;clear c14;obtain ⟨y238,hy238⟩:∃ y_:List ByteArray,y_=(x6_2 ++ [(rd_T38 l0 x30_2).f1]):=⟨_,rfl⟩;replace H:(lex_Join.l1 k2 l0 y238 l0 (l0.length:Int) (wrap64 (x30_2+1)))=some r:=by first | (rw [hy238];with_reducible exact H) | (have H2_:=(Option.bind_some _ _).symm.trans H;rw [hy238];with_reducible exact H2_) | (have H2_:=(Option.bind_some _ _).symm.trans H;with_reducible exact H2_) | with_reducible exact H | (rw [hy238];exact H) | exact H
           have Ny238:=Aside0.mk hy238;clear hy238;have H':=Aside0.mk H;clear H;have p236:0≤(x30_2:Int):=of_decide_eq_true asm;have q236:x30_2 < (l0.length:Int):=of_decide_eq_true asm;obtain ⟨ad236,e236,hx236_0,hx236_1,hx236_2⟩:=at_T38 HR0.out x30_2 p236 q236;cases e236;replace hx236_0:=(HB.out.cell (World.block_lt_of_cell? w _ hx236_0)).trans hx236_0;replace hx236_1:=(HB.out.cell (World.block_lt_of_cell? w _ hx236_1)).trans hx236_1;replace hx236_2:=(HB.out.cell (World.block_lt_of_cell? w _ hx236_2)).trans hx236_2;replace p236:=eq_true p236;replace q236:=eq_true q236;go_wp2_with (first | ((with_reducible refine gate_dst (N:=8) rfl ?_);refine box_event ?hg (N:=8) ?hd (cs:=#[.int .i64 0,.string (⟨#[]⟩:zB),.int .i64 0]) (t:=38) ?hr ?_;(case hd=>rfl);(case hg=>rfl);(case hr=>first | (go_simp;done) | (go_simp;rfl));intro gb237 hg w15 hbox hb;have n0_:=Aside0.mk (Kd.R_below (by (with_reducible repeat (first | apply Kd.R_alloc | apply Kd.R_drewN | apply Kd.R_drew));exact HO_6.out) hb);have n1_:=Aside0.mk (below_step blw hb);have n2_:=Aside0.mk (hbox);have n3_:=Aside0.mk ((by rw [hg];exact (below_size blw):w.heap.size≤gb237));have n4_:=Aside0.mk ((by rw [hg];exact (below_size blw):w.heap.size≤gb237));clear HO_6;clear HB;have HO_6:=n0_;have HB:=n1_;have BK237:=n2_;have GW237:=n3_;have GE237:=n4_;clear n0_ n1_ n2_ n3_ n4_;clear hb hbox hg;have hcz16_0:w15.cell? ⟨gb237,0,none⟩=some (.int .i64 0):=(blk_cell BK237.out 0).trans rfl;have hcz16_1:w15.cell? ⟨gb237,1,none⟩=some (.string (⟨#[]⟩:zB)):=(blk_cell BK237.out 1).trans rfl;have hcz16_2:w15.cell? ⟨gb237,2,none⟩=some (.int .i64 0):=(blk_cell BK237.out 2).trans rfl;have hfz16_0:=blk_frozen BK237.out 0;have hfz16_1:=blk_frozen BK237.out 1;have hfz16_2:=blk_frozen BK237.out 2) | ((with_reducible refine gate_builtin (b:=.append) (xs:=#[.tmp 34,.tmp 37]) rfl ?_);at_builtin;refine Kd.R_append Kd.string (w0:=w) w.heap.size rfl (.tmp 34) (.tmp 37) 50 9 (.string ⟨#[]⟩) 16 rfl Tryz.underlying50 info9 rfl (by decide) (by omega) u6 x6_2 ((rd_T38 l0 x30_2).f1) [.string ((rd_T38 l0 x30_2).f1)] (fun _=>True) (fun _=>False) rfl (by first | (go_simp;done) | (go_simp;rfl)) ?aP (fun _ hk=>hk.elim) ?aF ?aO ?aB ?aS ?aL ?_;(case aP=>exact rfl);(case aB=>exact blw);(case aF=>exact (fun _ _=>trivial));(case aO=>exact (by (with_reducible repeat (first | apply Kd.R_alloc | apply Kd.R_drewN | apply Kd.R_drew));exact Kd.R_mono (Kd.R_far (p:=⟨gb237,2,none⟩) (Kd.R_far (p:=⟨gb237,1,none⟩) (Kd.R_far (p:=⟨gb237,0,none⟩) (Kd.R_types HO_6.out BK237.out (by decide)) (fun _ hk=>hk.2) (.int .i64 ((rd_T38 l0 x30_2).f0))) (fun _ hk=>hk.2) (.string ((rd_T38 l0 x30_2).f1))) (fun _ hk=>hk.2) (.int .i64 ((rd_T38 l0 x30_2).f2))) (fun _ hk=>trivial)));(case aS=>exact (below_size blw));(case aL=>have:=LMc14.out;omega);intro v239 w17 ho hb hg hat;rw [← Ny238.out] at ho;have n0_:=Aside0.mk (blk_grown (g:=gb237) (o:=.cells #[.int .i64 ((rd_T38 l0 x30_2).f0),.string ((rd_T38 l0 x30_2).f1),.int .i64 ((rd_T38 l0 x30_2).f2)] 38 (0,0)) (by (with_reducible repeat (first | refine blk_drewN ?_ _ | refine blk_drew ?_ | refine blk_alloc ?_ _));refine blk_put (cs:=#[.int .i64 ((rd_T38 l0 x30_2).f0),.string ((rd_T38 l0 x30_2).f1),.int .i64 0]) ?_ 2 _ rfl;(with_reducible repeat (first | refine blk_drewN ?_ _ | refine blk_drew ?_ | refine blk_alloc ?_ _));refine blk_put (cs:=#[.int .i64 ((rd_T38 l0 x30_2).f0),.string (⟨#[]⟩:zB),.int .i64 0]) ?_ 1 _ rfl;(with_reducible repeat (first | refine blk_drewN ?_ _ | refine blk_drew ?_ | refine blk_alloc ?_ _));refine blk_put (cs:=#[.int .i64 0,.string (⟨#[]⟩:zB),.int .i64 0]) ?_ 0 _ rfl;(with_reducible repeat (first | refine blk_drewN ?_ _ | refine blk_drew ?_ | refine blk_alloc ?_ _));exact BK237.out) hg (Kd.R_ne HO_6.out BK237.out (by decide)));have n1_:=Aside0.mk (hb);have n2_:=Aside0.mk (ho);clear BK237;clear HB;clear HO_6;have BK237:=n0_;have HB:=n1_;have HO240:=n2_;clear n0_ n1_ n2_;clear ho hb hg hat))
           go_roundg k2
           case measure=>have:=HK1.out;have:=HK2.out;omega
           case rel=>exact ⟨(y238),(wrap64 (x30_2+1)),rsd,H',⟨by have:=HK1.out;have:=HK2.out;omega⟩,⟨by (with_reducible repeat (first | apply Kd.R_alloc | apply Kd.R_drewN | apply Kd.R_drew));exact HO240.out⟩,⟨blw⟩⟩
          ·rw [if_neg c14] at H;exact absurd H (by simp)
         ·rw [if_neg c13] at H;exact absurd H (by simp)
        ·rw [if_neg c12] at H;exact absurd H (by simp)
       ·rw [if_neg c11] at H;have c11b0:decide (x30_2 < (l0.length:Int))=false:=decide_eq_false c11;clear c11;replace H:=Option.bind_eq_some_iff.mp H;obtain ⟨t241,A180,H⟩:=H;replace H:((lex_gives.f t241 l0).bind fun t242=>(if t242=true then (some t241) else (some (⟨#[]⟩:zB))))=some r:=H;have A18:=Aside0.mk A180;clear A180;replace H:=Option.bind_eq_some_iff.mp H;obtain ⟨t242,A190,H⟩:=H;replace H:(if t242=true then (some t241) else (some (⟨#[]⟩:zB)))=some r:=H;have A19:=Aside0.mk A190;clear A190;by_cases c20:t242=true
        ·subst c20;have H1:(some t241)=some r:=by rw [if_pos rfl] at H;exact H
         clear H;have H:=H1;clear H1;obtain rfl:=Option.some.inj H;obtain ⟨Ao21,co21,eo21⟩:=Kd.R_slice HO_6.out;subst eo21;go_wp2_with (first | ((with_reducible refine gate_callee (f:=57) rfl ?_);refine goesL_ (some 41) rfl rfl Tryz.func57 (by kernel_rfl) rfl #[.slice Ao21 x6_2.length co21,.string (⟨#[32]⟩:zB)] rfl fq ?_;(with_reducible refine (strings_Join.calls _ _ x6_2 (⟨#[32]⟩:zB) t241 _ ?side1 ?side2 A18.out).mono ?_);(case side1=>repeat (first | exact (Kd.R_reads' HO_6.out).2.2 | (with_reducible refine Kd.C_alloc ?_ _) | (with_reducible refine Kd.C_drewN ?_ _) | (with_reducible refine Kd.C_drew ?_)));(case side2=>exact (Kd.R_reads' HO_6.out).2.1);rintro e w22 ⟨rfl,hb⟩;refine ⟨_,rfl,?_⟩;have n0_:=Aside0.mk (Kd.R_below (by (with_reducible repeat (first | apply Kd.R_alloc | apply Kd.R_drewN | apply Kd.R_drew));exact HO_6.out) hb);have n1_:=Aside0.mk (below_step blw hb);clear HO_6;clear HB;have HO_6:=n0_;have HB:=n1_;clear n0_ n1_;(try clear hb);(try clear hb2);(try clear hk);(try clear hi)) | ((with_reducible refine gate_callee (f:=58) rfl ?_);refine goesL_ (some 44) rfl rfl Tryz.func58 (by kernel_rfl) rfl #[.string t241,.slice A0 l0.length c0] rfl fq ?_;(with_reducible refine (lex_gives.calls t241 _ _ l0 true _ ?side1 ?side2 A19.out gwx).mono ?_);(case side1=>repeat (first | exact (Kd.C_below HR0.out HB.out) | (with_reducible refine Kd.C_alloc ?_ _) | (with_reducible refine Kd.C_drewN ?_ _) | (with_reducible refine Kd.C_drew ?_)));(case side2=>exact HC0.out);rintro e w23 ⟨rfl,hb⟩;refine ⟨_,rfl,?_⟩;have n0_:=Aside0.mk (Kd.R_below (by (with_reducible repeat (first | apply Kd.R_alloc | apply Kd.R_drewN | apply Kd.R_drew));exact HO_6.out) hb);have n1_:=Aside0.mk (below_step blw hb);clear HO_6;clear HB;have HO_6:=n0_;have HB:=n1_;clear n0_ n1_;(try clear hb);(try clear hb2);(try clear hk);(try clear hi)))
         go_ret;exact ⟨rew,blw⟩
        ·replace c20:=Bool.eq_false_iff.mpr c20;subst c20;have H1:(some (⟨#[]⟩:zB))=some r:=by rw [if_neg (show ¬ (false=true) by decide)] at H;exact H
         clear H;have H:=H1;clear H1;obtain rfl:=Option.some.inj H;obtain ⟨Ao24,co24,eo24⟩:=Kd.R_slice HO_6.out;subst eo24;go_wp2_with (first | ((with_reducible refine gate_callee (f:=57) rfl ?_);refine goesL_ (some 41) rfl rfl Tryz.func57 (by kernel_rfl) rfl #[.slice Ao24 x6_2.length co24,.string (⟨#[32]⟩:zB)] rfl fq ?_;(with_reducible refine (strings_Join.calls _ _ x6_2 (⟨#[32]⟩:zB) t241 _ ?side1 ?side2 A18.out).mono ?_);(case side1=>repeat (first | exact (Kd.R_reads' HO_6.out).2.2 | (with_reducible refine Kd.C_alloc ?_ _) | (with_reducible refine Kd.C_drewN ?_ _) | (with_reducible refine Kd.C_drew ?_)));(case side2=>exact (Kd.R_reads' HO_6.out).2.1);rintro e w25 ⟨rfl,hb⟩;refine ⟨_,rfl,?_⟩;have n0_:=Aside0.mk (Kd.R_below (by (with_reducible repeat (first | apply Kd.R_alloc | apply Kd.R_drewN | apply Kd.R_drew));exact HO_6.out) hb);have n1_:=Aside0.mk (below_step blw hb);clear HO_6;clear HB;have HO_6:=n0_;have HB:=n1_;clear n0_ n1_;(try clear hb);(try clear hb2);(try clear hk);(try clear hi)) | ((with_reducible refine gate_callee (f:=58) rfl ?_);refine goesL_ (some 44) rfl rfl Tryz.func58 (by kernel_rfl) rfl #[.string t241,.slice A0 l0.length c0] rfl fq ?_;(with_reducible refine (lex_gives.calls t241 _ _ l0 false _ ?side1 ?side2 A19.out gwx).mono ?_);(case side1=>repeat (first | exact (Kd.C_below HR0.out HB.out) | (with_reducible refine Kd.C_alloc ?_ _) | (with_reducible refine Kd.C_drewN ?_ _) | (with_reducible refine Kd.C_drew ?_)));(case side2=>exact HC0.out);rintro e w26 ⟨rfl,hb⟩;refine ⟨_,rfl,?_⟩;have n0_:=Aside0.mk (Kd.R_below (by (with_reducible repeat (first | apply Kd.R_alloc | apply Kd.R_drewN | apply Kd.R_drew));exact HO_6.out) hb);have n1_:=Aside0.mk (below_step blw hb);clear HO_6;clear HB;have HO_6:=n0_;have HB:=n1_;clear n0_ n1_;(try clear hb);(try clear hb2);(try clear hk);(try clear hi)))
         go_ret;exact ⟨rew,blw⟩
end Go.Proofs.YtadgddipkbdnbaaGreatDoor.Q
