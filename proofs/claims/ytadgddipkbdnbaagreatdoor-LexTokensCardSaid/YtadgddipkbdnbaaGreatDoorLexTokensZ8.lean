/- Parts of the proof that the program's token functions return what the specification's return. -/
import Derived.Test.YtadgddipkbdnbaaGreatDoorLexTokensZ1
import Derived.Test.YtadgddipkbdnbaaGreatDoorLexTokensZ2
import Derived.Test.YtadgddipkbdnbaaGreatDoorLexTokensZ3
import Derived.Test.YtadgddipkbdnbaaGreatDoorLexTokensZ4
import Derived.Test.YtadgddipkbdnbaaGreatDoorLexTokensZ5
import Derived.Test.YtadgddipkbdnbaaGreatDoorLexTokensZ6
import Derived.Test.YtadgddipkbdnbaaGreatDoorLexTokensZ7
set_option linter.unusedVariables false
set_option linter.unusedSimpArgs false
namespace Go.Proofs.YtadgddipkbdnbaaGreatDoor.Q
open Go.Proofs.YtadgddipkbdnbaaGreatDoor Go.RowKit Go.Proofs.YtadgddipkbdnbaaGreatDoorW.PrintWords Go.Proofs.YtadgddipkbdnbaaGreatDoorW.PrintLast Go.Proofs.YtadgddipkbdnbaaGreatDoorW.PrintMore
attribute [local go_sem] max2_int min2_int max_two min_two max_three min_three max_four min_four
mutual
def rzquoted.l0:Nat→ByteArray→Int→Int→ByteArray→Int→Option (Int × ByteArray)
 | 0,_,_,_,_,_=>none
 | k+1,x0,x1,x6,x7,x8=>if x8 < (x0.size:Int) then (if 0≤x8 then (rzquoted.j1 k x0 x1 x6 x7 x8 ((bt x0 x8) != x6)) else (none)) else (rzquoted.j1 k x0 x1 x6 x7 x8 false)
def rzquoted.j1:Nat→ByteArray→Int→Int→ByteArray→Int→Bool→Option (Int × ByteArray)
 | 0,_,_,_,_,_,_=>none
 | k+1,x0,x1,x6,x7,x8,x25=>if x25=true then ((rzchar.f x0 x8).bind fun bt108=>(if bt108.2=0 then (some (0,(⟨#[]⟩:zB))) else ((some (([bt108.1]:List Int):List Int)).bind fun y111=>(if x7.size+(strOfNums y111).size≤9223372036854775807 then (rzquoted.l0 k x0 x1 x6 (x7 ++ (strOfNums y111)) (wrap64 (x8+bt108.2))) else (none))))) else (if x8≥(x0.size:Int) then (some (0,(⟨#[]⟩:zB))) else (if x6=39 then (if (x7.size:Int)=1 then (some (wrap64 ((wrap64 (x8+1)) - x1),x7)) else (some (0,(⟨#[]⟩:zB)))) else (some (wrap64 ((wrap64 (x8+1)) - x1),x7))))
end
def rzquoted.f (k:Nat) (a0:ByteArray) (a1:Int):Option (Int × ByteArray):=if 0≤a1 then (if a1 < (a0.size:Int) then (rzquoted.l0 k a0 a1 (bt a0 a1) (⟨#[]⟩:zB) (wrap64 (a1+1))) else (none)) else (none)
theorem rzquoted.mono_l:∀ k,(∀ y0 y1 y2 y3 y4,LeO (rzquoted.l0 k y0 y1 y2 y3 y4) (rzquoted.l0 (k+1) y0 y1 y2 y3 y4))∧(∀ y0 y1 y2 y3 y4 y5,LeO (rzquoted.j1 k y0 y1 y2 y3 y4 y5) (rzquoted.j1 (k+1) y0 y1 y2 y3 y4 y5))
 | 0=>⟨fun _ _ _ _ _ r h=>by simp [rzquoted.l0] at h,fun _ _ _ _ _ _ r h=>by simp [rzquoted.j1] at h⟩
 | k+1=>by
  obtain ⟨ih0,ih1⟩:=rzquoted.mono_l k;refine ⟨?_,?_⟩
  ·intro y0 y1 y2 y3 y4;unfold rzquoted.l0;repeat' first
   | (with_reducible exact ih0 _ _ _ _ _)
   | (with_reducible exact ih1 _ _ _ _ _ _)
   | (with_reducible exact LeO.refl _)
   | (with_reducible exact LeO.none _)
   | (with_reducible refine LeO.ite ?_ ?_)
   | (with_reducible refine LeO.bind ?_ (fun _=>?_))
   | exact LeO.none _
   | refine LeO.ite ?_ ?_
   | refine LeO.bind ?_ (fun _=>?_)
  ·intro y0 y1 y2 y3 y4 y5;unfold rzquoted.j1;repeat' first
   | (with_reducible exact ih0 _ _ _ _ _)
   | (with_reducible exact ih1 _ _ _ _ _ _)
   | (with_reducible exact LeO.refl _)
   | (with_reducible exact LeO.none _)
   | (with_reducible refine LeO.ite ?_ ?_)
   | (with_reducible refine LeO.bind ?_ (fun _=>?_))
   | exact LeO.none _
   | refine LeO.ite ?_ ?_
   | refine LeO.bind ?_ (fun _=>?_)
theorem rzquoted.mono:∀ a0 a1 k,LeO (rzquoted.f k a0 a1) (rzquoted.f (k+1) a0 a1):=by
 intro a0 a1 k;obtain ⟨ih0,ih1⟩:=rzquoted.mono_l k;unfold rzquoted.f;repeat' first
   | (with_reducible exact ih0 _ _ _ _ _)
   | (with_reducible exact ih1 _ _ _ _ _ _)
   | (with_reducible exact LeO.refl _)
   | (with_reducible exact LeO.none _)
   | (with_reducible refine LeO.ite ?_ ?_)
   | (with_reducible refine LeO.bind ?_ (fun _=>?_))
   | exact LeO.none _
   | refine LeO.ite ?_ ?_
   | refine LeO.bind ?_ (fun _=>?_)
set_option maxHeartbeats 8000000 in
set_option maxRecDepth 100000 in
theorem rzquoted.calls (k:Nat) (a0:ByteArray) (a1:Int) (r1:Int) (r2:ByteArray) (w:World) (h:rzquoted.f k a0 a1=some (r1,r2)) :
  Calls Tryz.prog 55 #[.string a0,.int .i64 a1] w fun e w'=>e=.returned (.tuple #[.int .i64 r1,.string r2])∧Below w.heap.size w w':=by
 have hu113:=Tryz.underlying113;have HB:=Aside0.mk (Below.refl w.heap.size w);have H:(if 0≤a1 then (if a1 < (a0.size:Int) then (rzquoted.l0 k a0 a1 (bt a0 a1) (⟨#[]⟩:zB) (wrap64 (a1+1))) else (none)) else (none))=some (r1,r2):=h;clear h;by_cases c3:0≤a1
 ·rw [if_pos c3] at H;have c3b0:decide (0≤a1)=true:=decide_eq_true c3;clear c3;by_cases c4:a1 < (a0.size:Int)
  ·rw [if_pos c4] at H;have c4b0:decide (a1 < (a0.size:Int))=true:=decide_eq_true c4;clear c4;have H':=Aside0.mk H;clear H;have p5:0≤(a1:Int):=of_decide_eq_true asm;have q5:a1 < (a0.size:Int):=of_decide_eq_true asm;have hx5:=bt_at a0 a1;replace p5:=eq_true p5;replace q5:=eq_true q5;go_enter Tryz.func55,Tryz.ntmps55
   go_wp2;try simp only [Act.put,List.setIfInBounds_toArray,List.set_cons_zero,List.set_cons_succ]
   go_loopg [7,8] k (fun kq v7 v8 w'=>∃ (x7_1:ByteArray) (x8_1:Int),v7=.string x7_1∧v8=.int .i64 x8_1∧Aside0 (rzquoted.l0 kq a0 a1 (bt a0 a1) x7_1 x8_1=some (r1,r2))∧Aside0 (kq≤k)∧Aside0 (Below w.heap.size w w'))
   case atStart=>exact ⟨((⟨#[]⟩:zB)),(wrap64 (a1+1)),rsd,rsd,H',⟨Nat.le_refl _⟩,⟨blw⟩⟩
   case round =>
    clear H';try clear p2
    try clear c3
    try clear c3b0
    try clear c4
    try clear c4b0
    try clear c5
    try clear p5
    try clear q5
    try clear hx5
    try clear p5
    try clear q5
    obtain ⟨x7_1,x8_1,rfl,rfl,HA,HK1,HB⟩:=hrel;cases gk with
    | zero=>exact absurd HA.out (by simp [rzquoted.l0])
    | succ k1 =>
     have H:=HA.out;clear HA;simp only [rzquoted.l0] at H;have HC6:=Aside0.mk H;clear H;go_upto_region 4 with (fail)
     go_cut [25] (fun v25 wc=>∃ (kq:Nat) (x25_5:Bool),v25=.bool x25_5∧Aside0 (rzquoted.j1 kq a0 a1 (bt a0 a1) x7_1 x8_1 x25_5=some (r1,r2))∧Aside0 (kq≤k1)∧Aside0 (Below w.heap.size w wc))
     case first =>
      have H:=HC6.out;clear HC6;by_cases c7:x8_1 < (a0.size:Int)
      ·rw [if_pos c7] at H;have c7b0:decide (x8_1 < (a0.size:Int))=true:=decide_eq_true c7;clear c7;(first | rw [c7b0] | (simp only [i64_w,i32_w];rw [c7b0]) | skip);by_cases c8:0≤x8_1
       ·rw [if_pos c8] at H;have c8b0:decide (0≤x8_1)=true:=decide_eq_true c8;clear c8;have H':=Aside0.mk H;clear H;have p9:0≤(x8_1:Int):=of_decide_eq_true asm;have q9:x8_1 < (a0.size:Int):=of_decide_eq_true asm;have hx9:=bt_at a0 x8_1;replace p9:=eq_true p9;replace q9:=eq_true q9;go_wp2;go_meet
        case rel=>exact ⟨_,(((bt a0 x8_1) != (bt a0 a1))),rsd,H',⟨by have:=HK1.out;first | omega | exact Nat.le_refl _⟩,⟨blw⟩⟩
       ·rw [if_neg c8] at H;exact absurd H (by simp)
      ·rw [if_neg c7] at H;have c7b0:decide (x8_1 < (a0.size:Int))=false:=decide_eq_false c7;clear c7;(first | rw [c7b0] | (simp only [i64_w,i32_w];rw [c7b0]) | skip);have H':=Aside0.mk H;clear H;go_wp2;go_meet
       case rel=>exact ⟨_,(false),rsd,H',⟨by have:=HK1.out;first | omega | exact Nat.le_refl _⟩,⟨blw⟩⟩
     case rest =>
      clear HC6;try clear p2
      try clear c3
      try clear c3b0
      try clear c4
      try clear c4b0
      try clear c5
      try clear p5
      try clear q5
      try clear hx5
      try clear p6
      try clear c7
      try clear c7b0
      try clear c8
      try clear c8b0
      try clear p9
      try clear q9
      try clear hx9
      try clear p2
      try clear p5
      try clear p9
      try clear q5
      try clear q9
      obtain ⟨kq,x25_5,rfl,HA,HJ5,HB⟩:=hcut;cases kq with
      | zero=>exact absurd HA.out (by simp [rzquoted.j1])
      | succ kj5 =>
       have H:=HA.out;clear HA;simp only [rzquoted.j1] at H;by_cases c10:x25_5=true
       ·subst c10;have H1:((rzchar.f a0 x8_1).bind fun bt108=>(if bt108.2=0 then (some (0,(⟨#[]⟩:zB))) else ((some (([bt108.1]:List Int):List Int)).bind fun y111=>(if x7_1.size+(strOfNums y111).size≤9223372036854775807 then (rzquoted.l0 kj5 a0 a1 (bt a0 a1) (x7_1 ++ (strOfNums y111)) (wrap64 (x8_1+bt108.2))) else (none)))))=some (r1,r2):=by rw [if_pos rfl] at H;exact H
        clear H;have H:=H1;clear H1;replace H:=Option.bind_eq_some_iff.mp H;obtain ⟨⟨t108,t109⟩,A110,H⟩:=H;replace H:(if t109=0 then (some (0,(⟨#[]⟩:zB))) else ((some (([t108]:List Int):List Int)).bind fun y111=>(if x7_1.size+(strOfNums y111).size≤9223372036854775807 then (rzquoted.l0 kj5 a0 a1 (bt a0 a1) (x7_1 ++ (strOfNums y111)) (wrap64 (x8_1+t109))) else (none))))=some (r1,r2):=H;have A11:=Aside0.mk A110;clear A110;by_cases c12:t109=0
        ·rw [if_pos c12] at H;have c12b0:(t109 == 0)=true:=beq_iff_eq.mpr c12;have c12b1:(t109 != 0)=false:=bne_eq_false_iff_eq.mpr c12;clear c12;simp only [Option.some.injEq,Prod.mk.injEq] at H;obtain ⟨rfl,rfl⟩:=H;go_wp2_with (first | ((with_reducible refine gate_callee (f:=86) rfl ?_);refine goesL_ (some 28) rfl rfl Tryz.func86 (by kernel_rfl) rfl #[.string a0,.int .i64 x8_1] rfl fq ?_;(with_reducible refine (rzchar.calls a0 x8_1 t108 t109 _ A11.out).mono ?_);rintro e w13 ⟨rfl,hb⟩;refine ⟨_,rfl,?_⟩;have n0_:=Aside0.mk (below_step blw hb);clear HB;have HB:=n0_;clear n0_;(try clear hb);(try clear hb2);(try clear hk);(try clear hi)) | ((with_reducible refine gate_dst (N:=9) rfl ?_);(try (refine gate_guard (by rfl) ?_;dsimp only));refine box_event ?hg (N:=9) ?hd (cs:=#[.int .u8 0,.int .i64 0]) (t:=113) ?hr ?_;(case hd=>rfl);(case hg=>rfl);(case hr=>first | (go_simp;done) | (go_simp;rfl));intro gb110 hg w14 hbox hb;have n0_:=Aside0.mk (below_step blw hb);have n1_:=Aside0.mk (hbox);have n2_:=Aside0.mk ((by rw [hg];exact (below_size blw):w.heap.size≤gb110));have n3_:=Aside0.mk ((by rw [hg];exact (below_size blw):w.heap.size≤gb110));clear HB;have HB:=n0_;have BK110:=n1_;have GW110:=n2_;have GE110:=n3_;clear n0_ n1_ n2_ n3_;clear hb hbox hg;have hcz15_0:w14.cell? ⟨gb110,0,none⟩=some (.int .u8 0):=(blk_cell BK110.out 0).trans rfl;have hcz15_1:w14.cell? ⟨gb110,1,none⟩=some (.int .i64 0):=(blk_cell BK110.out 1).trans rfl;have hfz15_0:=blk_frozen BK110.out 0;have hfz15_1:=blk_frozen BK110.out 1))
         go_ret2;exact ⟨rew,blw⟩
        ·rw [if_neg c12] at H;have c12b0:(t109 == 0)=false:=beq_eq_false_iff_ne.mpr c12;have c12b1:(t109 != 0)=true:=bne_iff_ne.mpr c12;obtain ⟨y111,hy111⟩:∃ y_:List Int,y_=(([t108]:List Int)):=⟨_,rfl⟩;replace H:(if x7_1.size+(strOfNums y111).size≤9223372036854775807 then (rzquoted.l0 kj5 a0 a1 (bt a0 a1) (x7_1 ++ (strOfNums y111)) (wrap64 (x8_1+t109))) else (none))=some (r1,r2):=by first | (rw [hy111];with_reducible exact H) | (have H2_:=(Option.bind_some _ _).symm.trans H;rw [hy111];with_reducible exact H2_) | (have H2_:=(Option.bind_some _ _).symm.trans H;with_reducible exact H2_) | with_reducible exact H | (rw [hy111];exact H) | exact H
         have Ny111:=Aside0.mk hy111;clear hy111;by_cases c16:x7_1.size+(strOfNums y111).size≤9223372036854775807
         ·rw [if_pos c16] at H;have c16b0:=eq_true c16;have c16b1:decide (x7_1.size+(strOfNums y111).size≤9223372036854775807)=true:=decide_eq_true c16;try have c16b2:(9223372036854775807 < x7_1.size+(strOfNums y111).size)=False:=eq_false (Nat.not_lt.2 c16)
          have H':=Aside0.mk H;clear H;go_wp2_with (first | ((with_reducible refine gate_callee (f:=86) rfl ?_);refine goesL_ (some 28) rfl rfl Tryz.func86 (by kernel_rfl) rfl #[.string a0,.int .i64 x8_1] rfl fq ?_;(with_reducible refine (rzchar.calls a0 x8_1 t108 t109 _ A11.out).mono ?_);rintro e w17 ⟨rfl,hb⟩;refine ⟨_,rfl,?_⟩;have n0_:=Aside0.mk (below_step blw hb);clear HB;have HB:=n0_;clear n0_;(try clear hb);(try clear hb2);(try clear hk);(try clear hi)) | ((with_reducible refine gate_dst (N:=9) rfl ?_);(try (refine gate_guard (by rfl) ?_;dsimp only));refine box_event ?hg (N:=9) ?hd (cs:=#[.int .u8 0,.int .i64 0]) (t:=113) ?hr ?_;(case hd=>rfl);(case hg=>rfl);(case hr=>first | (go_simp;done) | (go_simp;rfl));intro gb110 hg w18 hbox hb;have n0_:=Aside0.mk (below_step blw hb);have n1_:=Aside0.mk (hbox);have n2_:=Aside0.mk ((by rw [hg];exact (below_size blw):w.heap.size≤gb110));have n3_:=Aside0.mk ((by rw [hg];exact (below_size blw):w.heap.size≤gb110));clear HB;have HB:=n0_;have BK110:=n1_;have GW110:=n2_;have GE110:=n3_;clear n0_ n1_ n2_ n3_;clear hb hbox hg;have hcz19_0:w18.cell? ⟨gb110,0,none⟩=some (.int .u8 0):=(blk_cell BK110.out 0).trans rfl;have hcz19_1:w18.cell? ⟨gb110,1,none⟩=some (.int .i64 0):=(blk_cell BK110.out 1).trans rfl;have hfz19_0:=blk_frozen BK110.out 0;have hfz19_1:=blk_frozen BK110.out 1) | ((with_reducible refine gate_dst (N:=35) rfl ?_);(try (refine gate_guard (by rfl) ?_;dsimp only));refine Kd.R_lit (Kd.int .u8) _ 5 ?hg (N:=35) ?hd (xs:=([t108]:List Int)) (inner:=[.int .u8 t108]) (ok:=fun _=>True) (okp:=fun _=>True) ?hr ?hp (fun _ hk=>hk) trivial (Below.refl _ _) (Nat.le_refl _) (by simp) ?_;(case hd=>rfl);(case hg=>rfl);(case hr=>first | (go_simp;done) | (go_simp;rfl));(case hp=>exact (Reps.one (show Kd.M (Kd.int .u8) _ _ _ t108 [.int .u8 t108] from rfl) (Reps.none _ _)));intro v112 w20 ho21 hb hg_ hnew_;clear hg_ hnew_;(first | rw [← Ny111.out] at ho21 | (simp only [Int.reduceToNat] at ho21;rw [← Ny111.out] at ho21));have n0_:=Aside0.mk (Kd.R_lower ho21 (below_size blw));have n1_:=Aside0.mk (blk_below (g:=gb110) (o:=.cells #[.int .u8 t108,.int .i64 t109] 113 (0,0)) (by (with_reducible repeat (first | refine blk_drewN ?_ _ | refine blk_drew ?_ | refine blk_alloc ?_ _));refine blk_put (cs:=#[.int .u8 t108,.int .i64 0]) ?_ 1 _ rfl;(with_reducible repeat (first | refine blk_drewN ?_ _ | refine blk_drew ?_ | refine blk_alloc ?_ _));refine blk_put (cs:=#[.int .u8 0,.int .i64 0]) ?_ 0 _ rfl;(with_reducible repeat (first | refine blk_drewN ?_ _ | refine blk_drew ?_ | refine blk_alloc ?_ _));exact BK110.out) hb);have n2_:=Aside0.mk (below_step blw hb);clear BK110;clear HB;have HO113:=n0_;have BK110:=n1_;have HB:=n2_;clear n0_ n1_ n2_;clear hb ho21;have hcv22:=own_string (P:=Tryz.prog) Tryz.underlying83 Tryz.underlying5 Tryz.underlying9 (Kd.own_of_R HO113.out);have hcz23_0:w20.cell? ⟨gb110,0,none⟩=some (.int .u8 t108):=(blk_cell BK110.out 0).trans rfl;have hcz23_1:w20.cell? ⟨gb110,1,none⟩=some (.int .i64 t109):=(blk_cell BK110.out 1).trans rfl;have hfz23_0:=blk_frozen BK110.out 0;have hfz23_1:=blk_frozen BK110.out 1))
          go_roundg kj5
          case measure=>have:=HK1.out;have:=HJ5.out;omega
          case rel=>exact ⟨(x7_1 ++ (strOfNums y111)),(wrap64 (x8_1+t109)),rsd,rsd,H',⟨by have:=HK1.out;have:=HJ5.out;omega⟩,⟨blw⟩⟩
         ·rw [if_neg c16] at H;exact absurd H (by simp)
       ·replace c10:=Bool.eq_false_iff.mpr c10;subst c10;have H1:(if x8_1≥(a0.size:Int) then (some (0,(⟨#[]⟩:zB))) else (if (bt a0 a1)=39 then (if (x7_1.size:Int)=1 then (some (wrap64 ((wrap64 (x8_1+1)) - a1),x7_1)) else (some (0,(⟨#[]⟩:zB)))) else (some (wrap64 ((wrap64 (x8_1+1)) - a1),x7_1))))=some (r1,r2):=by rw [if_neg (show ¬ (false=true) by decide)] at H;exact H
        clear H;have H:=H1;clear H1;by_cases c24:x8_1≥(a0.size:Int)
        ·rw [if_pos c24] at H;have c24b0:decide ((a0.size:Int)≤x8_1)=true:=decide_eq_true c24;clear c24;simp only [Option.some.injEq,Prod.mk.injEq] at H;obtain ⟨rfl,rfl⟩:=H;go_wp2;go_ret2;exact ⟨rew,blw⟩
        ·rw [if_neg c24] at H;have c24b0:decide ((a0.size:Int)≤x8_1)=false:=decide_eq_false c24;clear c24;by_cases c25:(bt a0 a1)=39
         ·rw [if_pos c25] at H;have c25b0:((bt a0 a1) == 39)=true:=beq_iff_eq.mpr c25;have c25b1:((bt a0 a1) != 39)=false:=bne_eq_false_iff_eq.mpr c25;clear c25;by_cases c26:(x7_1.size:Int)=1
          ·rw [if_pos c26] at H;have c26b0:((x7_1.size:Int) == 1)=true:=beq_iff_eq.mpr c26;have c26b1:((x7_1.size:Int) != 1)=false:=bne_eq_false_iff_eq.mpr c26;clear c26;simp only [Option.some.injEq,Prod.mk.injEq] at H;obtain ⟨rfl,rfl⟩:=H;go_wp2;go_ret2;exact ⟨rew,blw⟩
          ·rw [if_neg c26] at H;have c26b0:((x7_1.size:Int) == 1)=false:=beq_eq_false_iff_ne.mpr c26;have c26b1:((x7_1.size:Int) != 1)=true:=bne_iff_ne.mpr c26;simp only [Option.some.injEq,Prod.mk.injEq] at H;obtain ⟨rfl,rfl⟩:=H;go_wp2;go_ret2;exact ⟨rew,blw⟩
         ·rw [if_neg c25] at H;have c25b0:((bt a0 a1) == 39)=false:=beq_eq_false_iff_ne.mpr c25;have c25b1:((bt a0 a1) != 39)=true:=bne_iff_ne.mpr c25;simp only [Option.some.injEq,Prod.mk.injEq] at H;obtain ⟨rfl,rfl⟩:=H;go_wp2;go_ret2;exact ⟨rew,blw⟩
  ·rw [if_neg c4] at H;exact absurd H (by simp)
 ·rw [if_neg c3] at H;exact absurd H (by simp)
mutual
def rzinteger.j0:Nat→ByteArray→Bool→Int→Bool→Bool→Option (Int × Bool × Bool)
 | 0,_,_,_,_,_=>none
 | k+1,x0,x26,x117000,x117001,x117002=>if x26=true then (if 0≤(wrap64 ((x0.size:Int) - 1)) then (if (wrap64 ((x0.size:Int) - 1))≤(x0.size:Int) then (rzinteger.j1 k (x0.extract 0 ((wrap64 ((x0.size:Int) - 1)):Int).toNat) x117000 true x117002) else (none)) else (none)) else (rzinteger.j1 k x0 x117000 x117001 x117002)
def rzinteger.j1:Nat→ByteArray→Int→Bool→Bool→Option (Int × Bool × Bool)
 | 0,_,_,_,_=>none
 | k+1,x0,x117000,x117001,x117002=>(rzbegins.f x0 0 (⟨#[48,120]⟩:zB)).bind fun t117=>(if t117=true then (rzinteger.j2 k x0 10 true x117000 x117001 x117002) else ((rzbegins.f x0 0 (⟨#[48,88]⟩:zB)).bind fun t118=>(rzinteger.j2 k x0 10 t118 x117000 x117001 x117002)))
def rzinteger.j2:Nat→ByteArray→Int→Bool→Int→Bool→Bool→Option (Int × Bool × Bool)
 | 0,_,_,_,_,_,_=>none
 | k+1,x0,x4,x38,x117000,x117001,x117002=>if x38=true then (if 2≤(x0.size:Int) then (rzinteger.j3 k (x0.extract 2 x0.size) 16 x117000 x117001 x117002) else (none)) else (if (x0.size:Int) > 1 then (if 0 < (x0.size:Int) then (if (bt x0 0)=48 then (rzinteger.j3 k x0 8 x117000 x117001 x117002) else (rzinteger.j3 k x0 x4 x117000 x117001 x117002)) else (none)) else (rzinteger.j3 k x0 x4 x117000 x117001 x117002))
def rzinteger.j3:Nat→ByteArray→Int→Int→Bool→Bool→Option (Int × Bool × Bool)
 | 0,_,_,_,_,_=>none
 | k+1,x0,x4,x117000,x117001,x117002=>rzinteger.l0 k x0 x4 0 0 x117000 x117001 x117002
def rzinteger.l0:Nat→ByteArray→Int→Int→Int→Int→Bool→Bool→Option (Int × Bool × Bool)
 | 0,_,_,_,_,_,_,_=>none
 | k+1,x0,x4,x5,x6,x117000,x117001,x117002=>if x6 < (x0.size:Int) then (if 0≤x6 then ((rzhex.f k (bt x0 x6)).bind fun t119=>(if t119 < 0 then (some (0,false,false)) else (if (IntKind.u64.wrap (t119))≥x4 then (some (0,false,false)) else (if x4=0 then (none) else (if x5 > (IntKind.u64.wrap (Int.tdiv (IntKind.u64.wrap (18446744073709551615 - (IntKind.u64.wrap (t119)))) x4)) then (some (0,false,false)) else (rzinteger.l0 k x0 x4 (IntKind.u64.wrap ((IntKind.u64.wrap (x4 * x5))+(IntKind.u64.wrap (t119)))) (wrap64 (x6+1)) x117000 x117001 x117002)))))) else (none)) else (if (x0.size:Int)=0 then (some (0,false,false)) else (if x117001=true then (some (wrap64 (x5),x117001,true)) else (if x5≥9223372036854775808 then (some (0,false,false)) else (some (wrap64 (x5),x117001,true)))))
end
def rzinteger.f (k:Nat) (a0:ByteArray):Option (Int × Bool × Bool):=if (a0.size:Int) > 1 then (if 0≤(wrap64 ((a0.size:Int) - 1)) then (if (wrap64 ((a0.size:Int) - 1)) < (a0.size:Int) then (if (bt a0 (wrap64 ((a0.size:Int) - 1)))=117 then (rzinteger.j0 k a0 true 0 false false) else (rzinteger.j0 k a0 ((bt a0 (wrap64 ((a0.size:Int) - 1))) == 85) 0 false false)) else (none)) else (none)) else (rzinteger.j0 k a0 false 0 false false)
theorem rzinteger.mono_l:∀ k,(∀ y0 y1 y2 y3 y4,LeO (rzinteger.j0 k y0 y1 y2 y3 y4) (rzinteger.j0 (k+1) y0 y1 y2 y3 y4))∧(∀ y0 y1 y2 y3,LeO (rzinteger.j1 k y0 y1 y2 y3) (rzinteger.j1 (k+1) y0 y1 y2 y3))∧(∀ y0 y1 y2 y3 y4 y5,LeO (rzinteger.j2 k y0 y1 y2 y3 y4 y5) (rzinteger.j2 (k+1) y0 y1 y2 y3 y4 y5))∧(∀ y0 y1 y2 y3 y4,LeO (rzinteger.j3 k y0 y1 y2 y3 y4) (rzinteger.j3 (k+1) y0 y1 y2 y3 y4))∧(∀ y0 y1 y2 y3 y4 y5 y6,LeO (rzinteger.l0 k y0 y1 y2 y3 y4 y5 y6) (rzinteger.l0 (k+1) y0 y1 y2 y3 y4 y5 y6))
 | 0=>⟨fun _ _ _ _ _ r h=>by simp [rzinteger.j0] at h,fun _ _ _ _ r h=>by simp [rzinteger.j1] at h,fun _ _ _ _ _ _ r h=>by simp [rzinteger.j2] at h,fun _ _ _ _ _ r h=>by simp [rzinteger.j3] at h,fun _ _ _ _ _ _ _ r h=>by simp [rzinteger.l0] at h⟩
 | k+1=>by
  obtain ⟨ih0,ih1,ih2,ih3,ih4⟩:=rzinteger.mono_l k;refine ⟨?_,?_,?_,?_,?_⟩
  ·intro y0 y1 y2 y3 y4;unfold rzinteger.j0;repeat' first
   | (with_reducible exact ih0 _ _ _ _ _)
   | (with_reducible exact ih1 _ _ _ _)
   | (with_reducible exact ih2 _ _ _ _ _ _)
   | (with_reducible exact ih3 _ _ _ _ _)
   | (with_reducible exact ih4 _ _ _ _ _ _ _)
   | (with_reducible exact rzhex.mono _ _)
   | (with_reducible exact LeO.refl _)
   | (with_reducible exact LeO.none _)
   | (with_reducible refine LeO.ite ?_ ?_)
   | (with_reducible refine LeO.bind ?_ (fun _=>?_))
   | exact LeO.none _
   | refine LeO.ite ?_ ?_
   | refine LeO.bind ?_ (fun _=>?_)
  ·intro y0 y1 y2 y3;unfold rzinteger.j1;repeat' first
   | (with_reducible exact ih0 _ _ _ _ _)
   | (with_reducible exact ih1 _ _ _ _)
   | (with_reducible exact ih2 _ _ _ _ _ _)
   | (with_reducible exact ih3 _ _ _ _ _)
   | (with_reducible exact ih4 _ _ _ _ _ _ _)
   | (with_reducible exact rzhex.mono _ _)
   | (with_reducible exact LeO.refl _)
   | (with_reducible exact LeO.none _)
   | (with_reducible refine LeO.ite ?_ ?_)
   | (with_reducible refine LeO.bind ?_ (fun _=>?_))
   | exact LeO.none _
   | refine LeO.ite ?_ ?_
   | refine LeO.bind ?_ (fun _=>?_)
  ·intro y0 y1 y2 y3 y4 y5;unfold rzinteger.j2;repeat' first
   | (with_reducible exact ih0 _ _ _ _ _)
   | (with_reducible exact ih1 _ _ _ _)
   | (with_reducible exact ih2 _ _ _ _ _ _)
   | (with_reducible exact ih3 _ _ _ _ _)
   | (with_reducible exact ih4 _ _ _ _ _ _ _)
   | (with_reducible exact rzhex.mono _ _)
   | (with_reducible exact LeO.refl _)
   | (with_reducible exact LeO.none _)
   | (with_reducible refine LeO.ite ?_ ?_)
   | (with_reducible refine LeO.bind ?_ (fun _=>?_))
   | exact LeO.none _
   | refine LeO.ite ?_ ?_
   | refine LeO.bind ?_ (fun _=>?_)
  ·intro y0 y1 y2 y3 y4;unfold rzinteger.j3;repeat' first
   | (with_reducible exact ih0 _ _ _ _ _)
   | (with_reducible exact ih1 _ _ _ _)
   | (with_reducible exact ih2 _ _ _ _ _ _)
   | (with_reducible exact ih3 _ _ _ _ _)
   | (with_reducible exact ih4 _ _ _ _ _ _ _)
   | (with_reducible exact rzhex.mono _ _)
   | (with_reducible exact LeO.refl _)
   | (with_reducible exact LeO.none _)
   | (with_reducible refine LeO.ite ?_ ?_)
   | (with_reducible refine LeO.bind ?_ (fun _=>?_))
   | exact LeO.none _
   | refine LeO.ite ?_ ?_
   | refine LeO.bind ?_ (fun _=>?_)
  ·intro y0 y1 y2 y3 y4 y5 y6;unfold rzinteger.l0;repeat' first
   | (with_reducible exact ih0 _ _ _ _ _)
   | (with_reducible exact ih1 _ _ _ _)
   | (with_reducible exact ih2 _ _ _ _ _ _)
   | (with_reducible exact ih3 _ _ _ _ _)
   | (with_reducible exact ih4 _ _ _ _ _ _ _)
   | (with_reducible exact rzhex.mono _ _)
   | (with_reducible exact LeO.refl _)
   | (with_reducible exact LeO.none _)
   | (with_reducible refine LeO.ite ?_ ?_)
   | (with_reducible refine LeO.bind ?_ (fun _=>?_))
   | exact LeO.none _
   | refine LeO.ite ?_ ?_
   | refine LeO.bind ?_ (fun _=>?_)
theorem rzinteger.mono:∀ a0 k,LeO (rzinteger.f k a0) (rzinteger.f (k+1) a0):=by
 intro a0 k;obtain ⟨ih0,ih1,ih2,ih3,ih4⟩:=rzinteger.mono_l k;unfold rzinteger.f;repeat' first
   | (with_reducible exact ih0 _ _ _ _ _)
   | (with_reducible exact ih1 _ _ _ _)
   | (with_reducible exact ih2 _ _ _ _ _ _)
   | (with_reducible exact ih3 _ _ _ _ _)
   | (with_reducible exact ih4 _ _ _ _ _ _ _)
   | (with_reducible exact rzhex.mono _ _)
   | (with_reducible exact LeO.refl _)
   | (with_reducible exact LeO.none _)
   | (with_reducible refine LeO.ite ?_ ?_)
   | (with_reducible refine LeO.bind ?_ (fun _=>?_))
   | exact LeO.none _
   | refine LeO.ite ?_ ?_
   | refine LeO.bind ?_ (fun _=>?_)
set_option maxHeartbeats 8000000 in
set_option maxRecDepth 100000 in
theorem rzinteger.calls (k:Nat) (a0:ByteArray) (r1:Int) (r2:Bool) (r3:Bool) (w:World) (h:rzinteger.f k a0=some (r1,r2,r3)) :
  Calls Tryz.prog 56 #[.string a0] w fun e w'=>e=.returned (.agg #[.int .i64 r1,.bool r2,.bool r3])∧Below w.heap.size w w':=by
 have hu35:=Tryz.underlying35;have HB:=Aside0.mk (Below.refl w.heap.size w);have H:(if (a0.size:Int) > 1 then (if 0≤(wrap64 ((a0.size:Int) - 1)) then (if (wrap64 ((a0.size:Int) - 1)) < (a0.size:Int) then (if (bt a0 (wrap64 ((a0.size:Int) - 1)))=117 then (rzinteger.j0 k a0 true 0 false false) else (rzinteger.j0 k a0 ((bt a0 (wrap64 ((a0.size:Int) - 1))) == 85) 0 false false)) else (none)) else (none)) else (rzinteger.j0 k a0 false 0 false false))=some (r1,r2,r3):=h;clear h;have HC2:=Aside0.mk H;clear H;go_enter Tryz.func56,Tryz.ntmps56
 go_upto_region 2 with (first | ((with_reducible refine gate_dst (N:=2) rfl ?_);(try (refine gate_guard (by rfl) ?_;dsimp only));refine box_event ?hg (N:=2) ?hd (cs:=#[.int .i64 0,.bool false,.bool false]) (t:=35) ?hr ?_;(case hd=>rfl);(case hg=>rfl);(case hr=>first | (go_simp;done) | (go_simp;rfl));intro gb115 hg w3 hbox hb;have n0_:=Aside0.mk (below_step blw hb);have n1_:=Aside0.mk (hbox);have n2_:=Aside0.mk ((by rw [hg];exact (below_size blw):w.heap.size≤gb115));have n3_:=Aside0.mk ((by rw [hg];exact (below_size blw):w.heap.size≤gb115));clear HB;have HB:=n0_;have BK115:=n1_;have GW115:=n2_;have GE115:=n3_;clear n0_ n1_ n2_ n3_;clear hb hbox hg) | ((with_reducible refine gate_dst (N:=3) rfl ?_);(try (refine gate_guard (by rfl) ?_;dsimp only));refine box_event ?hg (N:=3) ?hd (cs:=#[.int .i64 0,.bool false,.bool false]) (t:=35) ?hr ?_;(case hd=>rfl);(case hg=>rfl);(case hr=>first | (go_simp;done) | (go_simp;rfl));intro gb116 hg w4 hbox hb;have n0_:=Aside0.mk (blk_below (g:=gb115) (o:=.cells #[.int .i64 0,.bool false,.bool false] 35 (0,0)) bko hb);have n1_:=Aside0.mk (below_step blw hb);have n2_:=Aside0.mk (hbox);have n3_:=Aside0.mk ((by rw [hg];exact (below_size blw):w.heap.size≤gb116));have n4_:=Aside0.mk ((by rw [hg];exact (below_size blw):w.heap.size≤gb116));have n5_:=Aside0.mk ((by rw [hg];exact Nat.ne_of_lt (blk_lt (g:=gb115) (o:=.cells #[.int .i64 0,.bool false,.bool false] 35 (0,0)) bko):gb115≠gb116));have n6_:=Aside0.mk ((by rw [hg];exact Nat.ne_of_gt (blk_lt (g:=gb115) (o:=.cells #[.int .i64 0,.bool false,.bool false] 35 (0,0)) bko):gb116≠gb115));clear BK115;clear HB;have BK115:=n0_;have HB:=n1_;have BK116:=n2_;have GW116:=n3_;have GE116:=n4_;have NB115_116:=n5_;have NB116_115:=n6_;clear n0_ n1_ n2_ n3_ n4_ n5_ n6_;clear hb hbox hg))
 (try simp only [Act.put,List.setIfInBounds_toArray,List.set_cons_zero,List.set_cons_succ]);go_cut [26] (fun v26 wc=>∃ (kq:Nat) (x26_1:Bool),v26=.bool x26_1∧Aside0 (rzinteger.j0 kq a0 x26_1 0 false false=some (r1,r2,r3))∧Aside0 (kq≤k)∧Aside0 (wc.heap[gb115]?=some (.cells #[.int .i64 0,.bool false,.bool false] 35 (0,0)))∧Aside0 (wc.heap[gb116]?=some (.cells #[.int .i64 0,.bool false,.bool false] 35 (0,0)))∧Aside0 (Below w.heap.size w wc))
 case first =>
  have H:=HC2.out;clear HC2;by_cases c5:(a0.size:Int) > 1
  ·rw [if_pos c5] at H;have c5b0:decide (1 < (a0.size:Int))=true:=decide_eq_true c5;have c5b1:decide (1 < a0.size)=true:=decide_eq_true (by omega);clear c5;(first | rw [c5b0] | (simp only [i64_w,i32_w];rw [c5b0]) | skip);obtain ⟨ji6,hji6⟩:∃ j_:Int,(wrap64 ((a0.size:Int) - 1))=j_:=⟨_,rfl⟩;replace H:(if 0≤(ji6) then (if (ji6) < (a0.size:Int) then (if (bt a0 (ji6))=117 then (rzinteger.j0 k a0 true 0 false false) else (rzinteger.j0 k a0 ((bt a0 (ji6)) == 85) 0 false false)) else (none)) else (none))=some (r1,r2,r3):=by first | (rw [hji6] at H;exact H) | (simp only [hji6] at H ⊢;exact H)
   have hji6w:(IntKind.i64.wrap ((a0.size:Int) - 1))=ji6:=(i64_w _).trans hji6;by_cases c7:0≤(ji6)
   ·rw [if_pos c7] at H;have c7b0:decide (0≤(ji6))=true:=decide_eq_true c7;clear c7;by_cases c8:(ji6) < (a0.size:Int)
    ·rw [if_pos c8] at H;have c8b0:decide ((ji6) < (a0.size:Int))=true:=decide_eq_true c8;clear c8;by_cases c10:(bt a0 (ji6))=117
     ·rw [if_pos c10] at H;have c10b0:((bt a0 (ji6)) == 117)=true:=beq_iff_eq.mpr c10;have c10b1:((bt a0 (ji6)) != 117)=false:=bne_eq_false_iff_eq.mpr c10;clear c10;have H':=Aside0.mk H;clear H;have p9:0≤((ji6):Int):=of_decide_eq_true asm;have q9:(ji6) < (a0.size:Int):=of_decide_eq_true asm;have hx9:=bt_at a0 (ji6);replace p9:=eq_true p9;replace q9:=eq_true q9;go_wp2;go_meet
      case rel=>exact ⟨_,(true),rsd,H',⟨by first | omega | exact Nat.le_refl _⟩,⟨bko⟩,⟨bko⟩,⟨blw⟩⟩
     ·rw [if_neg c10] at H;have c10b0:((bt a0 (ji6)) == 117)=false:=beq_eq_false_iff_ne.mpr c10;have c10b1:((bt a0 (ji6)) != 117)=true:=bne_iff_ne.mpr c10;have H':=Aside0.mk H;clear H;have p9:0≤((ji6):Int):=of_decide_eq_true asm;have q9:(ji6) < (a0.size:Int):=of_decide_eq_true asm;have hx9:=bt_at a0 (ji6);replace p9:=eq_true p9;replace q9:=eq_true q9;have p11:0≤((ji6):Int):=of_decide_eq_true asm;have q11:(ji6) < (a0.size:Int):=of_decide_eq_true asm;have hx11:=bt_at a0 (ji6);replace p11:=eq_true p11;replace q11:=eq_true q11;go_wp2;go_meet
      case rel=>exact ⟨_,(((bt a0 (ji6)) == 85)),(by first | rfl | (simp;done) | (simp only [← hji6] <;> (first | rfl | simp)) | (simp [*];done)),H',⟨by first | omega | exact Nat.le_refl _⟩,⟨bko⟩,⟨bko⟩,⟨blw⟩⟩
    ·rw [if_neg c8] at H;exact absurd H (by simp)
   ·rw [if_neg c7] at H;exact absurd H (by simp)
  ·rw [if_neg c5] at H;have c5b0:decide (1 < (a0.size:Int))=false:=decide_eq_false c5;have c5b1:decide (1 < a0.size)=false:=decide_eq_false (by omega);clear c5;(first | rw [c5b0] | (simp only [i64_w,i32_w];rw [c5b0]) | skip);have H':=Aside0.mk H;clear H;go_wp2;go_meet
   case rel=>exact ⟨_,(false),rsd,H',⟨by first | omega | exact Nat.le_refl _⟩,⟨bko⟩,⟨bko⟩,⟨blw⟩⟩
 case rest =>
  clear HC2;try clear c1
  try clear p1
  try clear q1
  try clear hx1
  try clear p2
  try clear c5
  try clear c5b0
  try clear c5b1
  try clear p6
  try clear c7
  try clear c7b0
  try clear c8
  try clear c8b0
  try clear p9
  try clear q9
  try clear hx9
  try clear c10
  try clear c10b0
  try clear c10b1
  try clear p11
  try clear q11
  try clear hx11
  try clear p11
  try clear p9
  try clear q11
  try clear q9
  obtain ⟨kq,x26_1,rfl,HA,HJ1,BK115,BK116,HB⟩:=hcut;cases kq with
  | zero=>exact absurd HA.out (by simp [rzinteger.j0])
  | succ kj1 =>
   have H:=HA.out;clear HA;simp only [rzinteger.j0] at H;have HC12:=Aside0.mk H;clear H;go_upto_if 26 with (fail)
   go_cut [0] (fun v0 wc=>∃ (kq:Nat) (x0_11:ByteArray) (x117001_11:Bool),v0=.string x0_11∧Aside0 (rzinteger.j1 kq x0_11 0 x117001_11 false=some (r1,r2,r3))∧Aside0 (kq≤kj1)∧Aside0 (wc.heap[gb115]?=some (.cells #[.int .i64 0,.bool false,.bool false] 35 (0,0)))∧Aside0 (wc.heap[gb116]?=some (.cells #[.int .i64 0,.bool x117001_11,.bool false] 35 (0,0)))∧Aside0 (Below w.heap.size w wc))
   case first =>
    have H:=HC12.out;clear HC12;by_cases c13:x26_1=true
    ·subst c13;have H1:(if 0≤(wrap64 ((a0.size:Int) - 1)) then (if (wrap64 ((a0.size:Int) - 1))≤(a0.size:Int) then (rzinteger.j1 kj1 (a0.extract 0 ((wrap64 ((a0.size:Int) - 1)):Int).toNat) 0 true false) else (none)) else (none))=some (r1,r2,r3):=by rw [if_pos rfl] at H;exact H
     clear H;have H:=H1;clear H1;obtain ⟨ji14,hji14⟩:∃ j_:Int,(wrap64 ((a0.size:Int) - 1))=j_:=⟨_,rfl⟩;replace H:(if 0≤(ji14) then (if (ji14)≤(a0.size:Int) then (rzinteger.j1 kj1 (a0.extract 0 ((ji14):Int).toNat) 0 true false) else (none)) else (none))=some (r1,r2,r3):=by first | (rw [hji14] at H;exact H) | (simp only [hji14] at H ⊢;exact H)
     have hji14w:(IntKind.i64.wrap ((a0.size:Int) - 1))=ji14:=(i64_w _).trans hji14;by_cases c15:0≤(ji14)
     ·rw [if_pos c15] at H;have c15b0:=eq_true c15;have c15b1:decide (0≤(ji14))=true:=decide_eq_true c15;clear c15;by_cases c16:(ji14)≤(a0.size:Int)
      ·rw [if_pos c16] at H;have c16b0:=eq_true c16;have c16b1:decide ((ji14)≤(a0.size:Int))=true:=decide_eq_true c16;clear c16;have H':=Aside0.mk H;clear H;have hnb17:=NB116_115.out;have hnc17:=NB115_116.out;have hcz18_0:wc.cell? ⟨gb116,0,none⟩=some (.int .i64 0):=(blk_cell BK116.out 0).trans rfl;have hcz18_1:wc.cell? ⟨gb116,1,none⟩=some (.bool false):=(blk_cell BK116.out 1).trans rfl;have hcz18_2:wc.cell? ⟨gb116,2,none⟩=some (.bool false):=(blk_cell BK116.out 2).trans rfl;have hfz18_0:=blk_frozen BK116.out 0;have hfz18_1:=blk_frozen BK116.out 1;have hfz18_2:=blk_frozen BK116.out 2;go_wp2;go_meet
       case rel=>exact ⟨_,(a0.extract 0 ((ji14):Int).toNat),(true),(by first | rfl | (simp;done) | (simp only [← hji14] <;> (first | rfl | simp)) | (simp [*];done)),H',⟨by have:=HJ1.out;first | omega | exact Nat.le_refl _⟩,⟨by (with_reducible repeat (first | refine blk_drewN ?_ _ | refine blk_drew ?_ | refine blk_alloc ?_ _));refine blk_far ?_ NB115_116.out _;(with_reducible repeat (first | refine blk_drewN ?_ _ | refine blk_drew ?_ | refine blk_alloc ?_ _));exact BK115.out⟩,⟨by (with_reducible repeat (first | refine blk_drewN ?_ _ | refine blk_drew ?_ | refine blk_alloc ?_ _));refine blk_put (cs:=#[.int .i64 0,.bool false,.bool false]) ?_ 1 _ rfl;(with_reducible repeat (first | refine blk_drewN ?_ _ | refine blk_drew ?_ | refine blk_alloc ?_ _));exact BK116.out⟩,⟨blw⟩⟩
      ·rw [if_neg c16] at H;exact absurd H (by simp)
     ·rw [if_neg c15] at H;exact absurd H (by simp)
    ·replace c13:=Bool.eq_false_iff.mpr c13;subst c13;have H1:(rzinteger.j1 kj1 a0 0 false false)=some (r1,r2,r3):=by rw [if_neg (show ¬ (false=true) by decide)] at H;exact H
     clear H;have H:=H1;clear H1;have H':=Aside0.mk H;clear H;go_wp2;go_meet
     case rel=>exact ⟨_,(a0),(false),rsd,H',⟨by have:=HJ1.out;first | omega | exact Nat.le_refl _⟩,⟨bko⟩,⟨bko⟩,⟨blw⟩⟩
   case rest =>
    clear HC12;try clear c1
    try clear p1
    try clear q1
    try clear hx1
    try clear p2
    try clear c5
    try clear c5b0
    try clear c5b1
    try clear p6
    try clear c7
    try clear c7b0
    try clear c8
    try clear c8b0
    try clear p9
    try clear q9
    try clear hx9
    try clear c10
    try clear c10b0
    try clear c10b1
    try clear p11
    try clear q11
    try clear hx11
    try clear c13
    try clear c15
    try clear c15b0
    try clear c15b1
    try clear c16
    try clear c16b0
    try clear c16b1
    try clear c17
    try clear hcz18_0
    try clear hcz18_1
    try clear hcz18_2
    try clear hfz18_0
    try clear hfz18_1
    try clear hfz18_2
    try clear p1
    try clear p11
    try clear p2
    try clear p6
    try clear p9
    try clear q1
    try clear q11
    try clear q9
    obtain ⟨kq,x0_11,x117001_11,rfl,HA,HJ11,BK115,BK116,HB⟩:=hcut;cases kq with
    | zero=>exact absurd HA.out (by simp [rzinteger.j1])
    | succ kj11 =>
     have H:=HA.out;clear HA;simp only [rzinteger.j1] at H;have HC19:=Aside0.mk H;clear H;go_upto_region 6 with (fail)
     go_cut [38] (fun v38 wc=>∃ (kq:Nat) (x38_18:Bool),v38=.bool x38_18∧Aside0 (rzinteger.j2 kq x0_11 10 x38_18 0 x117001_11 false=some (r1,r2,r3))∧Aside0 (kq≤kj11)∧Aside0 (wc.heap[gb115]?=some (.cells #[.int .i64 0,.bool false,.bool false] 35 (0,0)))∧Aside0 (wc.heap[gb116]?=some (.cells #[.int .i64 0,.bool x117001_11,.bool false] 35 (0,0)))∧Aside0 (Below w.heap.size w wc))
     case first =>
      have H:=HC19.out;clear HC19;replace H:=Option.bind_eq_some_iff.mp H;obtain ⟨t117,A200,H⟩:=H;replace H:(if t117=true then (rzinteger.j2 kj11 x0_11 10 true 0 x117001_11 false) else ((rzbegins.f x0_11 0 (⟨#[48,88]⟩:zB)).bind fun t118=>(rzinteger.j2 kj11 x0_11 10 t118 0 x117001_11 false)))=some (r1,r2,r3):=H;have A20:=Aside0.mk A200;clear A200;by_cases c21:t117=true
      ·subst c21;have H1:(rzinteger.j2 kj11 x0_11 10 true 0 x117001_11 false)=some (r1,r2,r3):=by rw [if_pos rfl] at H;exact H
       clear H;have H:=H1;clear H1;have H':=Aside0.mk H;clear H;go_wp2_with (first | ((with_reducible refine gate_callee (f:=77) rfl ?_);refine goesL_ (some 34) rfl rfl Tryz.func77 (by kernel_rfl) rfl #[.string x0_11,.int .i64 0,.string (⟨#[48,120]⟩:zB)] rfl fq ?_;(with_reducible refine (rzbegins.calls x0_11 0 (⟨#[48,120]⟩:zB) true _ A20.out).mono ?_);rintro e w' ⟨rfl,⟨nd,rfl⟩⟩;refine ⟨_,rfl,?_⟩))
       go_meet
       case rel=>exact ⟨_,(true),rsd,H',⟨by have:=HJ1.out;have:=HJ11.out;first | omega | exact Nat.le_refl _⟩,⟨bko⟩,⟨bko⟩,⟨blw⟩⟩
      ·replace c21:=Bool.eq_false_iff.mpr c21;subst c21;have H1:((rzbegins.f x0_11 0 (⟨#[48,88]⟩:zB)).bind fun t118=>(rzinteger.j2 kj11 x0_11 10 t118 0 x117001_11 false))=some (r1,r2,r3):=by rw [if_neg (show ¬ (false=true) by decide)] at H;exact H
       clear H;have H:=H1;clear H1;replace H:=Option.bind_eq_some_iff.mp H;obtain ⟨t118,A220,H⟩:=H;replace H:(rzinteger.j2 kj11 x0_11 10 t118 0 x117001_11 false)=some (r1,r2,r3):=H;have A22:=Aside0.mk A220;clear A220;have H':=Aside0.mk H;clear H;go_wp2_with (first | ((with_reducible refine gate_callee (f:=77) rfl ?_);refine goesL_ (some 34) rfl rfl Tryz.func77 (by kernel_rfl) rfl #[.string x0_11,.int .i64 0,.string (⟨#[48,120]⟩:zB)] rfl fq ?_;(with_reducible refine (rzbegins.calls x0_11 0 (⟨#[48,120]⟩:zB) false _ A20.out).mono ?_);rintro e w' ⟨rfl,⟨nd,rfl⟩⟩;refine ⟨_,rfl,?_⟩) | (go_at_call 77;(with_reducible refine (rzbegins.calls x0_11 0 (⟨#[48,88]⟩:zB) t118 _ A22.out).mono ?_);rintro e w' ⟨rfl,⟨nd,rfl⟩⟩))
       go_meet
       case rel=>exact ⟨_,(t118),rsd,H',⟨by have:=HJ1.out;have:=HJ11.out;first | omega | exact Nat.le_refl _⟩,⟨bko⟩,⟨bko⟩,⟨blw⟩⟩
     case rest =>
      clear HC19;try clear c1
      try clear p1
      try clear q1
      try clear hx1
      try clear c2
      try clear p2
      try clear c5
      try clear c5b0
      try clear c5b1
      try clear p6
      try clear c7
      try clear c7b0
      try clear c8
      try clear c8b0
      try clear p9
      try clear q9
      try clear hx9
      try clear c10
      try clear c10b0
      try clear c10b1
      try clear p11
      try clear q11
      try clear hx11
      try clear c13
      try clear c15
      try clear c15b0
      try clear c15b1
      try clear c16
      try clear c16b0
      try clear c16b1
      try clear c17
      try clear c21
      try clear hcz18_0
      try clear hcz18_1
      try clear hcz18_2
      try clear hfz18_0
      try clear hfz18_1
      try clear hfz18_2
      try clear p1
      try clear p11
      try clear p2
      try clear p6
      try clear p9
      try clear q1
      try clear q11
      try clear q9
      obtain ⟨kq,x38_18,rfl,HA,HJ18,BK115,BK116,HB⟩:=hcut;cases kq with
      | zero=>exact absurd HA.out (by simp [rzinteger.j2])
      | succ kj18 =>
       have H:=HA.out;clear HA;simp only [rzinteger.j2] at H;have HC23:=Aside0.mk H;clear H;go_upto_if 38 with (fail)
       go_cut [0,4] (fun v0 v4 wc=>∃ (kq:Nat) (x0_22:ByteArray) (x4_22:Int),v0=.string x0_22∧v4=.int .u64 x4_22∧Aside0 (rzinteger.j3 kq x0_22 x4_22 0 x117001_11 false=some (r1,r2,r3))∧Aside0 (kq≤kj18)∧Aside0 (wc.heap[gb115]?=some (.cells #[.int .i64 0,.bool false,.bool false] 35 (0,0)))∧Aside0 (wc.heap[gb116]?=some (.cells #[.int .i64 0,.bool x117001_11,.bool false] 35 (0,0)))∧Aside0 (Below w.heap.size w wc))
       case first =>
        have H:=HC23.out;clear HC23;by_cases c24:x38_18=true
        ·subst c24;have H1:(if 2≤(x0_11.size:Int) then (rzinteger.j3 kj18 (x0_11.extract 2 x0_11.size) 16 0 x117001_11 false) else (none))=some (r1,r2,r3):=by rw [if_pos rfl] at H;exact H
         clear H;have H:=H1;clear H1;by_cases c25:2≤(x0_11.size:Int)
         ·rw [if_pos c25] at H;have c25b0:=eq_true c25;have c25b1:decide (2≤(x0_11.size:Int))=true:=decide_eq_true c25;clear c25;have H':=Aside0.mk H;clear H;go_wp2;go_meet
          case rel=>exact ⟨_,(x0_11.extract 2 x0_11.size),(16),rsd,rsd,H',⟨by have:=HJ1.out;have:=HJ11.out;have:=HJ18.out;first | omega | exact Nat.le_refl _⟩,⟨bko⟩,⟨bko⟩,⟨blw⟩⟩
         ·rw [if_neg c25] at H;exact absurd H (by simp)
        ·replace c24:=Bool.eq_false_iff.mpr c24;subst c24;have H1:(if (x0_11.size:Int) > 1 then (if 0 < (x0_11.size:Int) then (if (bt x0_11 0)=48 then (rzinteger.j3 kj18 x0_11 8 0 x117001_11 false) else (rzinteger.j3 kj18 x0_11 10 0 x117001_11 false)) else (none)) else (rzinteger.j3 kj18 x0_11 10 0 x117001_11 false))=some (r1,r2,r3):=by rw [if_neg (show ¬ (false=true) by decide)] at H;exact H
         clear H;have H:=H1;clear H1;by_cases c26:(x0_11.size:Int) > 1
         ·rw [if_pos c26] at H;have c26b0:decide (1 < (x0_11.size:Int))=true:=decide_eq_true c26;have c26b1:decide (1 < x0_11.size)=true:=decide_eq_true (by omega);clear c26;(first | rw [c26b0] | (simp only [i64_w,i32_w];rw [c26b0]) | skip);by_cases c27:0 < (x0_11.size:Int)
          ·rw [if_pos c27] at H;have c27b0:decide (0 < (x0_11.size:Int))=true:=decide_eq_true c27;have c27b1:decide (0 < x0_11.size)=true:=decide_eq_true (by omega);clear c27;by_cases c29:(bt x0_11 0)=48
           ·rw [if_pos c29] at H;have c29b0:((bt x0_11 0) == 48)=true:=beq_iff_eq.mpr c29;have c29b1:((bt x0_11 0) != 48)=false:=bne_eq_false_iff_eq.mpr c29;clear c29;have H':=Aside0.mk H;clear H;have p28:0≤(0:Int):=(by omega);have q28:0 < x0_11.size:=(by have:(0:Int) < (x0_11.size:Int):=of_decide_eq_true asm;omega);have hx28:∀ h:0 < x0_11.size,((x0_11[0]'h).toNat:Int)=bt x0_11 0:=bt_at x0_11 0;clear p28;have qi28:(0 < (x0_11.size:Int))=True:=eq_true (of_decide_eq_true asm);replace q28:=eq_true q28;go_wp2;go_meet
            case rel=>exact ⟨_,(x0_11),(8),rsd,rsd,H',⟨by have:=HJ1.out;have:=HJ11.out;have:=HJ18.out;first | omega | exact Nat.le_refl _⟩,⟨bko⟩,⟨bko⟩,⟨blw⟩⟩
           ·rw [if_neg c29] at H;have c29b0:((bt x0_11 0) == 48)=false:=beq_eq_false_iff_ne.mpr c29;have c29b1:((bt x0_11 0) != 48)=true:=bne_iff_ne.mpr c29;have H':=Aside0.mk H;clear H;have p28:0≤(0:Int):=(by omega);have q28:0 < x0_11.size:=(by have:(0:Int) < (x0_11.size:Int):=of_decide_eq_true asm;omega);have hx28:∀ h:0 < x0_11.size,((x0_11[0]'h).toNat:Int)=bt x0_11 0:=bt_at x0_11 0;clear p28;have qi28:(0 < (x0_11.size:Int))=True:=eq_true (of_decide_eq_true asm);replace q28:=eq_true q28;go_wp2;go_meet
            case rel=>exact ⟨_,(x0_11),(10),rsd,rsd,H',⟨by have:=HJ1.out;have:=HJ11.out;have:=HJ18.out;first | omega | exact Nat.le_refl _⟩,⟨bko⟩,⟨bko⟩,⟨blw⟩⟩
          ·rw [if_neg c27] at H;exact absurd H (by simp)
         ·rw [if_neg c26] at H;have c26b0:decide (1 < (x0_11.size:Int))=false:=decide_eq_false c26;have c26b1:decide (1 < x0_11.size)=false:=decide_eq_false (by omega);clear c26;(first | rw [c26b0] | (simp only [i64_w,i32_w];rw [c26b0]) | skip);have H':=Aside0.mk H;clear H;go_wp2;go_meet
          case rel=>exact ⟨_,(x0_11),(10),rsd,rsd,H',⟨by have:=HJ1.out;have:=HJ11.out;have:=HJ18.out;first | omega | exact Nat.le_refl _⟩,⟨bko⟩,⟨bko⟩,⟨blw⟩⟩
       case rest =>
        clear HC23;try clear c1
        try clear p1
        try clear q1
        try clear hx1
        try clear c2
        try clear p2
        try clear q2
        try clear hx2
        try clear qi2
        try clear c5
        try clear c5b0
        try clear c5b1
        try clear p6
        try clear c7
        try clear c7b0
        try clear c8
        try clear c8b0
        try clear p9
        try clear q9
        try clear hx9
        try clear c10
        try clear c10b0
        try clear c10b1
        try clear p11
        try clear q11
        try clear hx11
        try clear c13
        try clear c15
        try clear c15b0
        try clear c15b1
        try clear c16
        try clear c16b0
        try clear c16b1
        try clear c17
        try clear c21
        try clear c24
        try clear c25
        try clear c25b0
        try clear c25b1
        try clear c26
        try clear c26b0
        try clear c26b1
        try clear c27
        try clear c27b0
        try clear c27b1
        try clear p28
        try clear q28
        try clear hx28
        try clear qi28
        try clear c29
        try clear c29b0
        try clear c29b1
        try clear hcz18_0
        try clear hcz18_1
        try clear hcz18_2
        try clear hfz18_0
        try clear hfz18_1
        try clear hfz18_2
        try clear p1
        try clear p11
        try clear p2
        try clear p28
        try clear p6
        try clear p9
        try clear q1
        try clear q11
        try clear q28
        try clear q9
        obtain ⟨kq,x0_22,x4_22,rfl,rfl,HA,HJ22,BK115,BK116,HB⟩:=hcut;cases kq with
        | zero=>exact absurd HA.out (by simp [rzinteger.j3])
        | succ kj22 =>
         have H:=HA.out;clear HA;simp only [rzinteger.j3] at H;have H':=Aside0.mk H;clear H;go_wp2;try simp only [Act.put,List.setIfInBounds_toArray,List.set_cons_zero,List.set_cons_succ]
         go_loopg [5,6] kj22 (fun kq v5 v6 w'=>∃ (x5_5:Int) (x6_5:Int) (x116000_5:Int) (x116001_5:Bool) (x116002_5:Bool),v5=.int .u64 x5_5∧v6=.int .i64 x6_5∧Aside0 (rzinteger.l0 kq x0_22 x4_22 x5_5 x6_5 0 x117001_11 false=some (r1,r2,r3))∧Aside0 (kq≤kj22)∧Aside0 (w'.heap[gb115]?=some (.cells #[.int .i64 x116000_5,.bool x116001_5,.bool x116002_5] 35 (0,0)))∧Aside0 (w'.heap[gb116]?=some (.cells #[.int .i64 0,.bool x117001_11,.bool false] 35 (0,0)))∧Aside0 (Below w.heap.size w w'))
         case atStart=>exact ⟨(0),(0),(0),(false),(false),rsd,rsd,H',⟨Nat.le_refl _⟩,⟨bko⟩,⟨bko⟩,⟨blw⟩⟩
         case round =>
          clear H';try clear c1
          try clear p1
          try clear q1
          try clear hx1
          try clear c2
          try clear p2
          try clear q2
          try clear hx2
          try clear qi2
          try clear c5
          try clear c5b0
          try clear c5b1
          try clear p6
          try clear c7
          try clear c7b0
          try clear c8
          try clear c8b0
          try clear p9
          try clear q9
          try clear hx9
          try clear c10
          try clear c10b0
          try clear c10b1
          try clear p11
          try clear q11
          try clear hx11
          try clear c13
          try clear c15
          try clear c15b0
          try clear c15b1
          try clear c16
          try clear c16b0
          try clear c16b1
          try clear c17
          try clear c21
          try clear c24
          try clear c25
          try clear c25b0
          try clear c25b1
          try clear c26
          try clear c26b0
          try clear c26b1
          try clear c27
          try clear c27b0
          try clear c27b1
          try clear p28
          try clear q28
          try clear hx28
          try clear qi28
          try clear c29
          try clear c29b0
          try clear c29b1
          try clear hcz18_0
          try clear hcz18_1
          try clear hcz18_2
          try clear hfz18_0
          try clear hfz18_1
          try clear hfz18_2
          try clear p1
          try clear p11
          try clear p2
          try clear p28
          try clear p6
          try clear p9
          try clear q1
          try clear q11
          try clear q2
          try clear q28
          try clear q9
          obtain ⟨x5_5,x6_5,x116000_5,x116001_5,x116002_5,rfl,rfl,HA,HK5,BK115,BK116,HB⟩:=hrel;cases gk with
          | zero=>exact absurd HA.out (by simp [rzinteger.l0])
          | succ k5 =>
           have H:=HA.out;clear HA;simp only [rzinteger.l0] at H;by_cases c30:x6_5 < (x0_22.size:Int)
           ·rw [if_pos c30] at H;have c30b0:decide (x6_5 < (x0_22.size:Int))=true:=decide_eq_true c30;clear c30;by_cases c31:0≤x6_5
            ·rw [if_pos c31] at H;have c31b0:decide (0≤x6_5)=true:=decide_eq_true c31;clear c31;replace H:=Option.bind_eq_some_iff.mp H;obtain ⟨t119,A330,H⟩:=H;replace H:(if t119 < 0 then (some (0,false,false)) else (if (IntKind.u64.wrap (t119))≥x4_22 then (some (0,false,false)) else (if x4_22=0 then (none) else (if x5_5 > (IntKind.u64.wrap (Int.tdiv (IntKind.u64.wrap (18446744073709551615 - (IntKind.u64.wrap (t119)))) x4_22)) then (some (0,false,false)) else (rzinteger.l0 k5 x0_22 x4_22 (IntKind.u64.wrap ((IntKind.u64.wrap (x4_22 * x5_5))+(IntKind.u64.wrap (t119)))) (wrap64 (x6_5+1)) 0 x117001_11 false)))))=some (r1,r2,r3):=H;have A33:=Aside0.mk A330;clear A330;by_cases c34:t119 < 0
             ·rw [if_pos c34] at H;have c34b0:decide (t119 < 0)=true:=decide_eq_true c34;clear c34;simp only [Option.some.injEq,Prod.mk.injEq] at H;obtain ⟨rfl,rfl,rfl⟩:=H;have p32:0≤(x6_5:Int):=of_decide_eq_true asm;have q32:x6_5 < (x0_22.size:Int):=of_decide_eq_true asm;have hx32:=bt_at x0_22 x6_5;replace p32:=eq_true p32;replace q32:=eq_true q32;go_wp2_with (first | ((with_reducible refine gate_callee (f:=87) rfl ?_);refine goesL_ (some 58) rfl rfl Tryz.func87 (by kernel_rfl) rfl #[.int .u8 (bt x0_22 x6_5)] rfl fq ?_;(with_reducible refine (rzhex.calls k5 (bt x0_22 x6_5) t119 _ A33.out).mono ?_);rintro e w' ⟨rfl,⟨nd,rfl⟩⟩;refine ⟨_,rfl,?_⟩;(try (rw [drewN_self wr];generalize hq_:World.drewN wr _=wr;have n0_:Aside0 (wr.heap[gb115]?=some (.cells #[.int .i64 x116000_5,.bool x116001_5,.bool x116002_5] 35 (0,0))):=⟨by rw [← hq_];exact bko⟩;have n1_:Aside0 (wr.heap[gb116]?=some (.cells #[.int .i64 0,.bool x117001_11,.bool false] 35 (0,0))):=⟨by rw [← hq_];exact bko⟩;have n2_:Aside0 (Below w.heap.size w wr):=⟨by rw [← hq_];exact blw⟩;clear BK115 BK116 HB hq_;have BK115:=n0_;have BK116:=n1_;have HB:=n2_;clear n0_ n1_ n2_));have hnb35:=NB115_116.out;have hnc35:=NB116_115.out;have hcz36_0:wr.cell? ⟨gb115,0,none⟩=some (.int .i64 x116000_5):=(blk_cell BK115.out 0).trans rfl;have hcz36_1:wr.cell? ⟨gb115,1,none⟩=some (.bool x116001_5):=(blk_cell BK115.out 1).trans rfl;have hcz36_2:wr.cell? ⟨gb115,2,none⟩=some (.bool x116002_5):=(blk_cell BK115.out 2).trans rfl;have hfz36_0:=blk_frozen BK115.out 0;have hfz36_1:=blk_frozen BK115.out 1;have hfz36_2:=blk_frozen BK115.out 2))
              refine bodyPost_ret (results_cell_row rfl _ _ gb115 35 #[.int .i64 0,.bool false,.bool false] (0,0) _ rfl (by (with_reducible repeat (first | refine blk_drewN ?_ _ | refine blk_drew ?_ | refine blk_alloc ?_ _));refine blk_put (cs:=#[.int .i64 0,.bool false,.bool x116002_5]) ?_ 2 _ rfl;(with_reducible repeat (first | refine blk_drewN ?_ _ | refine blk_drew ?_ | refine blk_alloc ?_ _));refine blk_put (cs:=#[.int .i64 0,.bool x116001_5,.bool x116002_5]) ?_ 1 _ rfl;(with_reducible repeat (first | refine blk_drewN ?_ _ | refine blk_drew ?_ | refine blk_alloc ?_ _));refine blk_put (cs:=#[.int .i64 x116000_5,.bool x116001_5,.bool x116002_5]) ?_ 0 _ rfl;(with_reducible repeat (first | refine blk_drewN ?_ _ | refine blk_drew ?_ | refine blk_alloc ?_ _));exact BK115.out) Tryz.underlying35 rfl (by kernel_rfl)) rfl ?_;exact ⟨rew,blw⟩
             ·rw [if_neg c34] at H;have c34b0:decide (t119 < 0)=false:=decide_eq_false c34;clear c34;by_cases c37:(IntKind.u64.wrap (t119))≥x4_22
              ·rw [if_pos c37] at H;have c37b0:decide (x4_22≤(IntKind.u64.wrap (t119)))=true:=decide_eq_true c37;clear c37;simp only [Option.some.injEq,Prod.mk.injEq] at H;obtain ⟨rfl,rfl,rfl⟩:=H;have p32:0≤(x6_5:Int):=of_decide_eq_true asm;have q32:x6_5 < (x0_22.size:Int):=of_decide_eq_true asm;have hx32:=bt_at x0_22 x6_5;replace p32:=eq_true p32;replace q32:=eq_true q32;go_wp2_with (first | ((with_reducible refine gate_callee (f:=87) rfl ?_);refine goesL_ (some 58) rfl rfl Tryz.func87 (by kernel_rfl) rfl #[.int .u8 (bt x0_22 x6_5)] rfl fq ?_;(with_reducible refine (rzhex.calls k5 (bt x0_22 x6_5) t119 _ A33.out).mono ?_);rintro e w' ⟨rfl,⟨nd,rfl⟩⟩;refine ⟨_,rfl,?_⟩;(try (rw [drewN_self wr];generalize hq_:World.drewN wr _=wr;have n0_:Aside0 (wr.heap[gb115]?=some (.cells #[.int .i64 x116000_5,.bool x116001_5,.bool x116002_5] 35 (0,0))):=⟨by rw [← hq_];exact bko⟩;have n1_:Aside0 (wr.heap[gb116]?=some (.cells #[.int .i64 0,.bool x117001_11,.bool false] 35 (0,0))):=⟨by rw [← hq_];exact bko⟩;have n2_:Aside0 (Below w.heap.size w wr):=⟨by rw [← hq_];exact blw⟩;clear BK115 BK116 HB hq_;have BK115:=n0_;have BK116:=n1_;have HB:=n2_;clear n0_ n1_ n2_));have hnb38:=NB115_116.out;have hnc38:=NB116_115.out;have hcz39_0:wr.cell? ⟨gb115,0,none⟩=some (.int .i64 x116000_5):=(blk_cell BK115.out 0).trans rfl;have hcz39_1:wr.cell? ⟨gb115,1,none⟩=some (.bool x116001_5):=(blk_cell BK115.out 1).trans rfl;have hcz39_2:wr.cell? ⟨gb115,2,none⟩=some (.bool x116002_5):=(blk_cell BK115.out 2).trans rfl;have hfz39_0:=blk_frozen BK115.out 0;have hfz39_1:=blk_frozen BK115.out 1;have hfz39_2:=blk_frozen BK115.out 2))
               refine bodyPost_ret (results_cell_row rfl _ _ gb115 35 #[.int .i64 0,.bool false,.bool false] (0,0) _ rfl (by (with_reducible repeat (first | refine blk_drewN ?_ _ | refine blk_drew ?_ | refine blk_alloc ?_ _));refine blk_put (cs:=#[.int .i64 0,.bool false,.bool x116002_5]) ?_ 2 _ rfl;(with_reducible repeat (first | refine blk_drewN ?_ _ | refine blk_drew ?_ | refine blk_alloc ?_ _));refine blk_put (cs:=#[.int .i64 0,.bool x116001_5,.bool x116002_5]) ?_ 1 _ rfl;(with_reducible repeat (first | refine blk_drewN ?_ _ | refine blk_drew ?_ | refine blk_alloc ?_ _));refine blk_put (cs:=#[.int .i64 x116000_5,.bool x116001_5,.bool x116002_5]) ?_ 0 _ rfl;(with_reducible repeat (first | refine blk_drewN ?_ _ | refine blk_drew ?_ | refine blk_alloc ?_ _));exact BK115.out) Tryz.underlying35 rfl (by kernel_rfl)) rfl ?_;exact ⟨rew,blw⟩
              ·rw [if_neg c37] at H;have c37b0:decide (x4_22≤(IntKind.u64.wrap (t119)))=false:=decide_eq_false c37;clear c37;by_cases c40:x4_22=0
               ·rw [if_pos c40] at H;exact absurd H (by simp)
               ·rw [if_neg c40] at H;have c40b0:(x4_22 == 0)=false:=beq_eq_false_iff_ne.mpr c40;have c40b1:(x4_22 != 0)=true:=bne_iff_ne.mpr c40;by_cases c41:x5_5 > (IntKind.u64.wrap (Int.tdiv (IntKind.u64.wrap (18446744073709551615 - (IntKind.u64.wrap (t119)))) x4_22))
                ·rw [if_pos c41] at H;have c41b0:decide ((IntKind.u64.wrap (Int.tdiv (IntKind.u64.wrap (18446744073709551615 - (IntKind.u64.wrap (t119)))) x4_22)) < x5_5)=true:=decide_eq_true c41;clear c41;simp only [Option.some.injEq,Prod.mk.injEq] at H;obtain ⟨rfl,rfl,rfl⟩:=H;have p32:0≤(x6_5:Int):=of_decide_eq_true asm;have q32:x6_5 < (x0_22.size:Int):=of_decide_eq_true asm;have hx32:=bt_at x0_22 x6_5;replace p32:=eq_true p32;replace q32:=eq_true q32;go_wp2_with (first | ((with_reducible refine gate_callee (f:=87) rfl ?_);refine goesL_ (some 58) rfl rfl Tryz.func87 (by kernel_rfl) rfl #[.int .u8 (bt x0_22 x6_5)] rfl fq ?_;(with_reducible refine (rzhex.calls k5 (bt x0_22 x6_5) t119 _ A33.out).mono ?_);rintro e w' ⟨rfl,⟨nd,rfl⟩⟩;refine ⟨_,rfl,?_⟩;(try (rw [drewN_self wr];generalize hq_:World.drewN wr _=wr;have n0_:Aside0 (wr.heap[gb115]?=some (.cells #[.int .i64 x116000_5,.bool x116001_5,.bool x116002_5] 35 (0,0))):=⟨by rw [← hq_];exact bko⟩;have n1_:Aside0 (wr.heap[gb116]?=some (.cells #[.int .i64 0,.bool x117001_11,.bool false] 35 (0,0))):=⟨by rw [← hq_];exact bko⟩;have n2_:Aside0 (Below w.heap.size w wr):=⟨by rw [← hq_];exact blw⟩;clear BK115 BK116 HB hq_;have BK115:=n0_;have BK116:=n1_;have HB:=n2_;clear n0_ n1_ n2_));have hnb42:=NB115_116.out;have hnc42:=NB116_115.out;have hcz43_0:wr.cell? ⟨gb115,0,none⟩=some (.int .i64 x116000_5):=(blk_cell BK115.out 0).trans rfl;have hcz43_1:wr.cell? ⟨gb115,1,none⟩=some (.bool x116001_5):=(blk_cell BK115.out 1).trans rfl;have hcz43_2:wr.cell? ⟨gb115,2,none⟩=some (.bool x116002_5):=(blk_cell BK115.out 2).trans rfl;have hfz43_0:=blk_frozen BK115.out 0;have hfz43_1:=blk_frozen BK115.out 1;have hfz43_2:=blk_frozen BK115.out 2))
                 refine bodyPost_ret (results_cell_row rfl _ _ gb115 35 #[.int .i64 0,.bool false,.bool false] (0,0) _ rfl (by (with_reducible repeat (first | refine blk_drewN ?_ _ | refine blk_drew ?_ | refine blk_alloc ?_ _));refine blk_put (cs:=#[.int .i64 0,.bool false,.bool x116002_5]) ?_ 2 _ rfl;(with_reducible repeat (first | refine blk_drewN ?_ _ | refine blk_drew ?_ | refine blk_alloc ?_ _));refine blk_put (cs:=#[.int .i64 0,.bool x116001_5,.bool x116002_5]) ?_ 1 _ rfl;(with_reducible repeat (first | refine blk_drewN ?_ _ | refine blk_drew ?_ | refine blk_alloc ?_ _));refine blk_put (cs:=#[.int .i64 x116000_5,.bool x116001_5,.bool x116002_5]) ?_ 0 _ rfl;(with_reducible repeat (first | refine blk_drewN ?_ _ | refine blk_drew ?_ | refine blk_alloc ?_ _));exact BK115.out) Tryz.underlying35 rfl (by kernel_rfl)) rfl ?_;exact ⟨rew,blw⟩
                ·rw [if_neg c41] at H;have c41b0:decide ((IntKind.u64.wrap (Int.tdiv (IntKind.u64.wrap (18446744073709551615 - (IntKind.u64.wrap (t119)))) x4_22)) < x5_5)=false:=decide_eq_false c41;clear c41;have H':=Aside0.mk H;clear H;have p32:0≤(x6_5:Int):=of_decide_eq_true asm;have q32:x6_5 < (x0_22.size:Int):=of_decide_eq_true asm;have hx32:=bt_at x0_22 x6_5;replace p32:=eq_true p32;replace q32:=eq_true q32;go_wp2_with (first | ((with_reducible refine gate_callee (f:=87) rfl ?_);refine goesL_ (some 58) rfl rfl Tryz.func87 (by kernel_rfl) rfl #[.int .u8 (bt x0_22 x6_5)] rfl fq ?_;(with_reducible refine (rzhex.calls k5 (bt x0_22 x6_5) t119 _ A33.out).mono ?_);rintro e w' ⟨rfl,⟨nd,rfl⟩⟩;refine ⟨_,rfl,?_⟩))
                 go_roundg k5
                 case measure=>have:=HJ1.out;have:=HJ11.out;have:=HJ18.out;have:=HJ22.out;have:=HK5.out;omega
                 case rel=>exact ⟨(IntKind.u64.wrap ((IntKind.u64.wrap (x4_22 * x5_5))+(IntKind.u64.wrap (t119)))),(wrap64 (x6_5+1)),(x116000_5),(x116001_5),(x116002_5),rsd,rsd,H',⟨by have:=HJ1.out;have:=HJ11.out;have:=HJ18.out;have:=HJ22.out;have:=HK5.out;omega⟩,⟨bko⟩,⟨bko⟩,⟨blw⟩⟩
            ·rw [if_neg c31] at H;exact absurd H (by simp)
           ·rw [if_neg c30] at H;have c30b0:decide (x6_5 < (x0_22.size:Int))=false:=decide_eq_false c30;clear c30;by_cases c44:(x0_22.size:Int)=0
            ·rw [if_pos c44] at H;have c44b0:((x0_22.size:Int) == 0)=true:=beq_iff_eq.mpr c44;have c44b1:((x0_22.size:Int) != 0)=false:=bne_eq_false_iff_eq.mpr c44;clear c44;simp only [Option.some.injEq,Prod.mk.injEq] at H;obtain ⟨rfl,rfl,rfl⟩:=H;have hnb45:=NB115_116.out;have hnc45:=NB116_115.out;have hcz46_0:wr.cell? ⟨gb115,0,none⟩=some (.int .i64 x116000_5):=(blk_cell BK115.out 0).trans rfl;have hcz46_1:wr.cell? ⟨gb115,1,none⟩=some (.bool x116001_5):=(blk_cell BK115.out 1).trans rfl;have hcz46_2:wr.cell? ⟨gb115,2,none⟩=some (.bool x116002_5):=(blk_cell BK115.out 2).trans rfl;have hfz46_0:=blk_frozen BK115.out 0;have hfz46_1:=blk_frozen BK115.out 1;have hfz46_2:=blk_frozen BK115.out 2;go_wp2;refine bodyPost_ret (results_cell_row rfl _ _ gb115 35 #[.int .i64 0,.bool false,.bool false] (0,0) _ rfl (by (with_reducible repeat (first | refine blk_drewN ?_ _ | refine blk_drew ?_ | refine blk_alloc ?_ _));refine blk_put (cs:=#[.int .i64 0,.bool false,.bool x116002_5]) ?_ 2 _ rfl;(with_reducible repeat (first | refine blk_drewN ?_ _ | refine blk_drew ?_ | refine blk_alloc ?_ _));refine blk_put (cs:=#[.int .i64 0,.bool x116001_5,.bool x116002_5]) ?_ 1 _ rfl;(with_reducible repeat (first | refine blk_drewN ?_ _ | refine blk_drew ?_ | refine blk_alloc ?_ _));refine blk_put (cs:=#[.int .i64 x116000_5,.bool x116001_5,.bool x116002_5]) ?_ 0 _ rfl;(with_reducible repeat (first | refine blk_drewN ?_ _ | refine blk_drew ?_ | refine blk_alloc ?_ _));exact BK115.out) Tryz.underlying35 rfl (by kernel_rfl)) rfl ?_;exact ⟨rew,blw⟩
            ·rw [if_neg c44] at H;have c44b0:((x0_22.size:Int) == 0)=false:=beq_eq_false_iff_ne.mpr c44;have c44b1:((x0_22.size:Int) != 0)=true:=bne_iff_ne.mpr c44;by_cases c47:x117001_11=true
             ·subst c47;have H1:(some (wrap64 (x5_5),true,true))=some (r1,r2,r3):=by rw [if_pos rfl] at H;exact H
              clear H;have H:=H1;clear H1;simp only [Option.some.injEq,Prod.mk.injEq] at H;obtain ⟨rfl,rfl,rfl⟩:=H;have hnb48:=NB116_115.out;have hnc48:=NB115_116.out;have hcz49_0:wr.cell? ⟨gb116,0,none⟩=some (.int .i64 0):=(blk_cell BK116.out 0).trans rfl;have hcz49_1:wr.cell? ⟨gb116,1,none⟩=some (.bool true):=(blk_cell BK116.out 1).trans rfl;have hcz49_2:wr.cell? ⟨gb116,2,none⟩=some (.bool false):=(blk_cell BK116.out 2).trans rfl;have hfz49_0:=blk_frozen BK116.out 0;have hfz49_1:=blk_frozen BK116.out 1;have hfz49_2:=blk_frozen BK116.out 2;have hcz50_0:wr.cell? ⟨gb115,0,none⟩=some (.int .i64 x116000_5):=(blk_cell BK115.out 0).trans rfl;have hcz50_1:wr.cell? ⟨gb115,1,none⟩=some (.bool x116001_5):=(blk_cell BK115.out 1).trans rfl;have hcz50_2:wr.cell? ⟨gb115,2,none⟩=some (.bool x116002_5):=(blk_cell BK115.out 2).trans rfl;have hfz50_0:=blk_frozen BK115.out 0;have hfz50_1:=blk_frozen BK115.out 1;have hfz50_2:=blk_frozen BK115.out 2;go_wp2;refine bodyPost_ret (results_cell_row rfl _ _ gb115 35 #[.int .i64 (wrap64 (x5_5)),.bool true,.bool true] (0,0) _ rfl (by (with_reducible repeat (first | refine blk_drewN ?_ _ | refine blk_drew ?_ | refine blk_alloc ?_ _));refine blk_put (cs:=#[.int .i64 (wrap64 (x5_5)),.bool true,.bool x116002_5]) ?_ 2 _ rfl;(with_reducible repeat (first | refine blk_drewN ?_ _ | refine blk_drew ?_ | refine blk_alloc ?_ _));refine blk_put (cs:=#[.int .i64 (wrap64 (x5_5)),.bool x116001_5,.bool x116002_5]) ?_ 1 _ rfl;(with_reducible repeat (first | refine blk_drewN ?_ _ | refine blk_drew ?_ | refine blk_alloc ?_ _));refine blk_put (cs:=#[.int .i64 x116000_5,.bool x116001_5,.bool x116002_5]) ?_ 0 _ rfl;(with_reducible repeat (first | refine blk_drewN ?_ _ | refine blk_drew ?_ | refine blk_alloc ?_ _));refine blk_far ?_ NB115_116.out _;(with_reducible repeat (first | refine blk_drewN ?_ _ | refine blk_drew ?_ | refine blk_alloc ?_ _));refine blk_far ?_ NB115_116.out _;(with_reducible repeat (first | refine blk_drewN ?_ _ | refine blk_drew ?_ | refine blk_alloc ?_ _));exact BK115.out) Tryz.underlying35 rfl (by kernel_rfl)) rfl ?_;exact ⟨rew,blw⟩
             ·replace c47:=Bool.eq_false_iff.mpr c47;subst c47;have H1:(if x5_5≥9223372036854775808 then (some (0,false,false)) else (some (wrap64 (x5_5),false,true)))=some (r1,r2,r3):=by rw [if_neg (show ¬ (false=true) by decide)] at H;exact H
              clear H;have H:=H1;clear H1;by_cases c51:x5_5≥9223372036854775808
              ·rw [if_pos c51] at H;have c51b0:decide (9223372036854775808≤x5_5)=true:=decide_eq_true c51;clear c51;simp only [Option.some.injEq,Prod.mk.injEq] at H;obtain ⟨rfl,rfl,rfl⟩:=H;have hnb52:=NB116_115.out;have hnc52:=NB115_116.out;have hcz53_0:wr.cell? ⟨gb116,0,none⟩=some (.int .i64 0):=(blk_cell BK116.out 0).trans rfl;have hcz53_1:wr.cell? ⟨gb116,1,none⟩=some (.bool false):=(blk_cell BK116.out 1).trans rfl;have hcz53_2:wr.cell? ⟨gb116,2,none⟩=some (.bool false):=(blk_cell BK116.out 2).trans rfl;have hfz53_0:=blk_frozen BK116.out 0;have hfz53_1:=blk_frozen BK116.out 1;have hfz53_2:=blk_frozen BK116.out 2;have hcz54_0:wr.cell? ⟨gb115,0,none⟩=some (.int .i64 x116000_5):=(blk_cell BK115.out 0).trans rfl;have hcz54_1:wr.cell? ⟨gb115,1,none⟩=some (.bool x116001_5):=(blk_cell BK115.out 1).trans rfl;have hcz54_2:wr.cell? ⟨gb115,2,none⟩=some (.bool x116002_5):=(blk_cell BK115.out 2).trans rfl;have hfz54_0:=blk_frozen BK115.out 0;have hfz54_1:=blk_frozen BK115.out 1;have hfz54_2:=blk_frozen BK115.out 2;go_wp2;refine bodyPost_ret (results_cell_row rfl _ _ gb115 35 #[.int .i64 0,.bool false,.bool false] (0,0) _ rfl (by (with_reducible repeat (first | refine blk_drewN ?_ _ | refine blk_drew ?_ | refine blk_alloc ?_ _));refine blk_put (cs:=#[.int .i64 0,.bool false,.bool x116002_5]) ?_ 2 _ rfl;(with_reducible repeat (first | refine blk_drewN ?_ _ | refine blk_drew ?_ | refine blk_alloc ?_ _));refine blk_put (cs:=#[.int .i64 0,.bool x116001_5,.bool x116002_5]) ?_ 1 _ rfl;(with_reducible repeat (first | refine blk_drewN ?_ _ | refine blk_drew ?_ | refine blk_alloc ?_ _));refine blk_put (cs:=#[.int .i64 x116000_5,.bool x116001_5,.bool x116002_5]) ?_ 0 _ rfl;(with_reducible repeat (first | refine blk_drewN ?_ _ | refine blk_drew ?_ | refine blk_alloc ?_ _));exact BK115.out) Tryz.underlying35 rfl (by kernel_rfl)) rfl ?_;exact ⟨rew,blw⟩
              ·rw [if_neg c51] at H;have c51b0:decide (9223372036854775808≤x5_5)=false:=decide_eq_false c51;clear c51;simp only [Option.some.injEq,Prod.mk.injEq] at H;obtain ⟨rfl,rfl,rfl⟩:=H;have hnb55:=NB116_115.out;have hnc55:=NB115_116.out;have hcz56_0:wr.cell? ⟨gb116,0,none⟩=some (.int .i64 0):=(blk_cell BK116.out 0).trans rfl;have hcz56_1:wr.cell? ⟨gb116,1,none⟩=some (.bool false):=(blk_cell BK116.out 1).trans rfl;have hcz56_2:wr.cell? ⟨gb116,2,none⟩=some (.bool false):=(blk_cell BK116.out 2).trans rfl;have hfz56_0:=blk_frozen BK116.out 0;have hfz56_1:=blk_frozen BK116.out 1;have hfz56_2:=blk_frozen BK116.out 2;have hcz57_0:wr.cell? ⟨gb115,0,none⟩=some (.int .i64 x116000_5):=(blk_cell BK115.out 0).trans rfl;have hcz57_1:wr.cell? ⟨gb115,1,none⟩=some (.bool x116001_5):=(blk_cell BK115.out 1).trans rfl;have hcz57_2:wr.cell? ⟨gb115,2,none⟩=some (.bool x116002_5):=(blk_cell BK115.out 2).trans rfl;have hfz57_0:=blk_frozen BK115.out 0;have hfz57_1:=blk_frozen BK115.out 1;have hfz57_2:=blk_frozen BK115.out 2;go_wp2;refine bodyPost_ret (results_cell_row rfl _ _ gb115 35 #[.int .i64 (wrap64 (x5_5)),.bool false,.bool true] (0,0) _ rfl (by (with_reducible repeat (first | refine blk_drewN ?_ _ | refine blk_drew ?_ | refine blk_alloc ?_ _));refine blk_put (cs:=#[.int .i64 (wrap64 (x5_5)),.bool false,.bool x116002_5]) ?_ 2 _ rfl;(with_reducible repeat (first | refine blk_drewN ?_ _ | refine blk_drew ?_ | refine blk_alloc ?_ _));refine blk_put (cs:=#[.int .i64 (wrap64 (x5_5)),.bool x116001_5,.bool x116002_5]) ?_ 1 _ rfl;(with_reducible repeat (first | refine blk_drewN ?_ _ | refine blk_drew ?_ | refine blk_alloc ?_ _));refine blk_put (cs:=#[.int .i64 x116000_5,.bool x116001_5,.bool x116002_5]) ?_ 0 _ rfl;(with_reducible repeat (first | refine blk_drewN ?_ _ | refine blk_drew ?_ | refine blk_alloc ?_ _));refine blk_far ?_ NB115_116.out _;(with_reducible repeat (first | refine blk_drewN ?_ _ | refine blk_drew ?_ | refine blk_alloc ?_ _));refine blk_far ?_ NB115_116.out _;(with_reducible repeat (first | refine blk_drewN ?_ _ | refine blk_drew ?_ | refine blk_alloc ?_ _));exact BK115.out) Tryz.underlying35 rfl (by kernel_rfl)) rfl ?_;exact ⟨rew,blw⟩
end Go.Proofs.YtadgddipkbdnbaaGreatDoor.Q
