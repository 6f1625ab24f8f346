/- Parts of the proof: InsnChecks: Check, Len, Target, Relative, Reads and Writes return what the specification returns: the law returns true for every input; the inputs read as they did; the package-level variables hold what the program's text lays in them: the tied card. -/
import Derived.Test.YtffojmgmpfjlhaaGreatDoorInsnChecksZ2
set_option linter.unusedVariables false
set_option linter.unusedSimpArgs false
namespace Go.Proofs.YtffojmgmpfjlhaaGreatDoor.Q
open Go.Proofs.YtffojmgmpfjlhaaGreatDoor Go.RowKit Go.Proofs.YtffojmgmpfjlhaaGreatDoorW.PrintWords Go.Proofs.YtffojmgmpfjlhaaGreatDoorW.PrintLast Go.Proofs.YtffojmgmpfjlhaaGreatDoorW.PrintMore
attribute [local go_sem] max2_int min2_int max_two min_two max_three min_three max_four min_four
mutual
def insn_Writes.j0:Nat→Int→Bool→Int→Int→Int→Int→Option (List Int)
 | 0,_,_,_,_,_,_=>none
 | k+1,x7,x8,x1059000,x1059001,x1059002,x1059003=>if x8=true then ((insn_set.f k (([x1059001]:List Int))).bind fun t1063=>(some t1063)) else (if x7=27 then (insn_Writes.j1 k x7 (x7 == 27) x1059000 x1059001 x1059002 x1059003) else (if x7=28 then (insn_Writes.j1 k x7 (x7 == 28) x1059000 x1059001 x1059002 x1059003) else (if x7=30 then (insn_Writes.j1 k x7 (x7 == 30) x1059000 x1059001 x1059002 x1059003) else (insn_Writes.j1 k x7 (x7 == 29) x1059000 x1059001 x1059002 x1059003))))
def insn_Writes.j1:Nat→Int→Bool→Int→Int→Int→Int→Option (List Int)
 | 0,_,_,_,_,_,_=>none
 | k+1,x7,x21,x1059000,x1059001,x1059002,x1059003=>if x21=true then ((insn_set.f k (([7]:List Int))).bind fun t1069=>(some t1069)) else (if x7=31 then ((insn_set.f k (([x1059001,7]:List Int))).bind fun t1075=>(some t1075)) else (if x1059000≥5 then (if x1059000≤15 then ((insn_set.f k (([x1059001]:List Int))).bind fun t1081=>(some t1081)) else (some ([]:List Int))) else (some ([]:List Int))))
end
def insn_Writes.f (k:Nat) (a0_0:Int) (a0_1:Int) (a0_2:Int) (a0_3:Int):Option (List Int):=(insn_Check.f k a0_0 a0_1 a0_2 a0_3).bind fun t1059=>(if t1059=0 then (if a0_0=2 then (insn_Writes.j0 k a0_0 (a0_0 == 2) a0_0 a0_1 a0_2 a0_3) else (if a0_0=3 then (insn_Writes.j0 k a0_0 (a0_0 == 3) a0_0 a0_1 a0_2 a0_3) else (if a0_0=4 then (insn_Writes.j0 k a0_0 (a0_0 == 4) a0_0 a0_1 a0_2 a0_3) else (if a0_0=32 then (insn_Writes.j0 k a0_0 (a0_0 == 32) a0_0 a0_1 a0_2 a0_3) else (if a0_0=16 then (insn_Writes.j0 k a0_0 (a0_0 == 16) a0_0 a0_1 a0_2 a0_3) else (if a0_0=17 then (insn_Writes.j0 k a0_0 (a0_0 == 17) a0_0 a0_1 a0_2 a0_3) else (if a0_0=18 then (insn_Writes.j0 k a0_0 (a0_0 == 18) a0_0 a0_1 a0_2 a0_3) else (insn_Writes.j0 k a0_0 (a0_0 == 34) a0_0 a0_1 a0_2 a0_3)))))))) else (some ([]:List Int)))
theorem insn_Writes.mono_l:∀ k,(∀ y0 y1 y2 y3 y4 y5,LeO (insn_Writes.j0 k y0 y1 y2 y3 y4 y5) (insn_Writes.j0 (k+1) y0 y1 y2 y3 y4 y5))∧(∀ y0 y1 y2 y3 y4 y5,LeO (insn_Writes.j1 k y0 y1 y2 y3 y4 y5) (insn_Writes.j1 (k+1) y0 y1 y2 y3 y4 y5))
 | 0=>⟨fun _ _ _ _ _ _ r h=>by simp [insn_Writes.j0] at h,fun _ _ _ _ _ _ r h=>by simp [insn_Writes.j1] at h⟩
 | k+1=>by
  obtain ⟨ih0,ih1⟩:=insn_Writes.mono_l k;refine ⟨?_,?_⟩
  ·intro y0 y1 y2 y3 y4 y5;unfold insn_Writes.j0;repeat' first
   | (with_reducible exact ih0 _ _ _ _ _ _)
   | (with_reducible exact ih1 _ _ _ _ _ _)
   | (with_reducible exact insn_Check.mono _ _ _ _ _)
   | (with_reducible exact insn_set.mono _ _)
   | (with_reducible exact LeO.refl _)
   | (with_reducible exact LeO.none _)
   | (with_reducible refine LeO.ite ?_ ?_)
   | (with_reducible refine LeO.bind ?_ (fun _=>?_))
   | exact LeO.none _
   | refine LeO.ite ?_ ?_
   | refine LeO.bind ?_ (fun _=>?_)
  ·intro y0 y1 y2 y3 y4 y5;unfold insn_Writes.j1;repeat' first
   | (with_reducible exact ih0 _ _ _ _ _ _)
   | (with_reducible exact ih1 _ _ _ _ _ _)
   | (with_reducible exact insn_Check.mono _ _ _ _ _)
   | (with_reducible exact insn_set.mono _ _)
   | (with_reducible exact LeO.refl _)
   | (with_reducible exact LeO.none _)
   | (with_reducible refine LeO.ite ?_ ?_)
   | (with_reducible refine LeO.bind ?_ (fun _=>?_))
   | exact LeO.none _
   | refine LeO.ite ?_ ?_
   | refine LeO.bind ?_ (fun _=>?_)
theorem insn_Writes.mono:∀ a0 a1 a2 a3 k,LeO (insn_Writes.f k a0 a1 a2 a3) (insn_Writes.f (k+1) a0 a1 a2 a3):=by
 intro a0 a1 a2 a3 k;obtain ⟨ih0,ih1⟩:=insn_Writes.mono_l k;unfold insn_Writes.f;repeat' first
   | (with_reducible exact ih0 _ _ _ _ _ _)
   | (with_reducible exact ih1 _ _ _ _ _ _)
   | (with_reducible exact insn_Check.mono _ _ _ _ _)
   | (with_reducible exact insn_set.mono _ _)
   | (with_reducible exact LeO.refl _)
   | (with_reducible exact LeO.none _)
   | (with_reducible refine LeO.ite ?_ ?_)
   | (with_reducible refine LeO.bind ?_ (fun _=>?_))
   | exact LeO.none _
   | refine LeO.ite ?_ ?_
   | refine LeO.bind ?_ (fun _=>?_)
set_option maxHeartbeats 8000000 in
set_option maxRecDepth 100000 in
theorem insn_Writes.calls (k:Nat) (a0_0:Int) (a0_1:Int) (a0_2:Int) (a0_3:Int) (r:List Int) (w:World) (h:insn_Writes.f k a0_0 a0_1 a0_2 a0_3=some r) (hgw:GW w) :
  Calls Tryz.prog 48 #[.agg #[.int .i64 a0_0,.int .i64 a0_1,.int .i64 a0_2,.int .i64 a0_3]] w fun e w'=>∃ v0_:Value,e=.returned (v0_)∧Kd.R (Kd.int .i64) 3 w' w.heap.size (fun _=>True) v0_ r∧Below w.heap.size w w':=by
 have hu23:=Tryz.underlying23;have HB:=Aside0.mk (Below.refl w.heap.size w);have H:((insn_Check.f k a0_0 a0_1 a0_2 a0_3).bind fun t1059=>(if t1059=0 then (if a0_0=2 then (insn_Writes.j0 k a0_0 (a0_0 == 2) a0_0 a0_1 a0_2 a0_3) else (if a0_0=3 then (insn_Writes.j0 k a0_0 (a0_0 == 3) a0_0 a0_1 a0_2 a0_3) else (if a0_0=4 then (insn_Writes.j0 k a0_0 (a0_0 == 4) a0_0 a0_1 a0_2 a0_3) else (if a0_0=32 then (insn_Writes.j0 k a0_0 (a0_0 == 32) a0_0 a0_1 a0_2 a0_3) else (if a0_0=16 then (insn_Writes.j0 k a0_0 (a0_0 == 16) a0_0 a0_1 a0_2 a0_3) else (if a0_0=17 then (insn_Writes.j0 k a0_0 (a0_0 == 17) a0_0 a0_1 a0_2 a0_3) else (if a0_0=18 then (insn_Writes.j0 k a0_0 (a0_0 == 18) a0_0 a0_1 a0_2 a0_3) else (insn_Writes.j0 k a0_0 (a0_0 == 34) a0_0 a0_1 a0_2 a0_3)))))))) else (some ([]:List Int))))=some r:=h;clear h;replace H:=Option.bind_eq_some_iff.mp H;obtain ⟨t1059,A20,H⟩:=H;replace H:(if t1059=0 then (if a0_0=2 then (insn_Writes.j0 k a0_0 (a0_0 == 2) a0_0 a0_1 a0_2 a0_3) else (if a0_0=3 then (insn_Writes.j0 k a0_0 (a0_0 == 3) a0_0 a0_1 a0_2 a0_3) else (if a0_0=4 then (insn_Writes.j0 k a0_0 (a0_0 == 4) a0_0 a0_1 a0_2 a0_3) else (if a0_0=32 then (insn_Writes.j0 k a0_0 (a0_0 == 32) a0_0 a0_1 a0_2 a0_3) else (if a0_0=16 then (insn_Writes.j0 k a0_0 (a0_0 == 16) a0_0 a0_1 a0_2 a0_3) else (if a0_0=17 then (insn_Writes.j0 k a0_0 (a0_0 == 17) a0_0 a0_1 a0_2 a0_3) else (if a0_0=18 then (insn_Writes.j0 k a0_0 (a0_0 == 18) a0_0 a0_1 a0_2 a0_3) else (insn_Writes.j0 k a0_0 (a0_0 == 34) a0_0 a0_1 a0_2 a0_3)))))))) else (some ([]:List Int)))=some r:=H;have A2:=Aside0.mk A20;clear A20;by_cases c3:t1059=0
 ·rw [if_pos c3] at H;obtain ⟨c3b0,c3b1⟩:=bqt c3;clear c3;have HC4:=Aside0.mk H;clear H;go_enter Tryz.func48,Tryz.ntmps48
  go_upto_if 8 with (first | ((with_reducible refine gate_dst (N:=1) rfl ?_);refine box_event ?hg (N:=1) ?hd (cs:=#[.int .i64 a0_0,.int .i64 a0_1,.int .i64 a0_2,.int .i64 a0_3]) (t:=23) ?hr ?_;(case hd=>rfl);(case hg=>rfl);(case hr=>first | (go_simp;done) | (go_simp;rfl));intro gb1058 hg w5 hbox hb;have n0_:=Aside0.mk (below_step blw hb);have n1_:=Aside0.mk (hbox);have n2_:=Aside0.mk ((by rw [hg];exact (below_size blw):w.heap.size≤gb1058));have n3_:=Aside0.mk ((by rw [hg];exact (below_size blw):w.heap.size≤gb1058));clear HB;have HB:=n0_;have BK1058:=n1_;have GW1058:=n2_;have GE1058:=n3_;clear n0_ n1_ n2_ n3_;clear hb hbox hg;obtain ⟨hcz6_0,hcz6_1,hcz6_2,hcz6_3,hfz6_0,hfz6_1,hfz6_2,hfz6_3⟩:=bz4 BK1058.out) | ((with_reducible refine gate_callee (f:=31) rfl ?_);refine goesL_ (some 4) rfl rfl Tryz.func31 (by kernel_rfl) rfl #[.agg #[.int .i64 a0_0,.int .i64 a0_1,.int .i64 a0_2,.int .i64 a0_3]] rfl fq ?_;(with_reducible refine (insn_Check.calls k a0_0 a0_1 a0_2 a0_3 t1059 _ A2.out gwy).mono ?_);rintro e w7 ⟨rfl,hb⟩;refine ⟨_,rfl,?_⟩;have n0_:=Aside0.mk (blk_below (g:=gb1058) (o:=.cells #[.int .i64 a0_0,.int .i64 a0_1,.int .i64 a0_2,.int .i64 a0_3] 23 (0,0)) bko hb);have n1_:=Aside0.mk (below_step blw hb);clear BK1058;clear HB;have BK1058:=n0_;have HB:=n1_;clear n0_ n1_;(try clear hb);(try clear hb2);(try clear hk);(try clear hi);obtain ⟨hcz8_0,hcz8_1,hcz8_2,hcz8_3,hfz8_0,hfz8_1,hfz8_2,hfz8_3⟩:=bz4 BK1058.out))
  (try simp only [Act.put,List.setIfInBounds_toArray,List.set_cons_zero,List.set_cons_succ]);go_cut [8] (fun v8 wc=>∃ (kq:Nat) (x8_3:Bool),v8=.bool x8_3∧Aside0 (insn_Writes.j0 kq a0_0 x8_3 a0_0 a0_1 a0_2 a0_3=some r)∧Aside0 (kq≤k)∧Aside0 (wc.heap[gb1058]?=some (.cells #[.int .i64 a0_0,.int .i64 a0_1,.int .i64 a0_2,.int .i64 a0_3] 23 (0,0)))∧Aside0 (Below w.heap.size w wc))
  case first =>
   have H:=HC4.out;clear HC4;by_cases c9:a0_0=2
   ·rw [if_pos c9] at H;obtain ⟨c9b0,c9b1⟩:=bqt c9;clear c9;(first | rw [c9b0] | (simp only [i64_w,i32_w];rw [c9b0]) | skip);have H':=Aside0.mk H;clear H;go_wp2;go_meet
    case rel=>exact ⟨_,((a0_0 == 2)),rsd,H',⟨by first | omega | exact Nat.le_refl _⟩,⟨bko⟩,⟨blw⟩⟩
   ·rw [if_neg c9] at H;obtain ⟨c9b0,c9b1⟩:=bqf c9;(first | rw [c9b0] | (simp only [i64_w,i32_w];rw [c9b0]) | skip);by_cases c10:a0_0=3
    ·rw [if_pos c10] at H;obtain ⟨c10b0,c10b1⟩:=bqt c10;clear c10;have H':=Aside0.mk H;clear H;go_wp2;go_meet
     case rel=>exact ⟨_,((a0_0 == 3)),rsd,H',⟨by first | omega | exact Nat.le_refl _⟩,⟨bko⟩,⟨blw⟩⟩
    ·rw [if_neg c10] at H;obtain ⟨c10b0,c10b1⟩:=bqf c10;by_cases c11:a0_0=4
     ·rw [if_pos c11] at H;obtain ⟨c11b0,c11b1⟩:=bqt c11;clear c11;have H':=Aside0.mk H;clear H;go_wp2;go_meet
      case rel=>exact ⟨_,((a0_0 == 4)),rsd,H',⟨by first | omega | exact Nat.le_refl _⟩,⟨bko⟩,⟨blw⟩⟩
     ·rw [if_neg c11] at H;obtain ⟨c11b0,c11b1⟩:=bqf c11;by_cases c12:a0_0=32
      ·rw [if_pos c12] at H;obtain ⟨c12b0,c12b1⟩:=bqt c12;clear c12;have H':=Aside0.mk H;clear H;go_wp2;go_meet
       case rel=>exact ⟨_,((a0_0 == 32)),rsd,H',⟨by first | omega | exact Nat.le_refl _⟩,⟨bko⟩,⟨blw⟩⟩
      ·rw [if_neg c12] at H;obtain ⟨c12b0,c12b1⟩:=bqf c12;by_cases c13:a0_0=16
       ·rw [if_pos c13] at H;obtain ⟨c13b0,c13b1⟩:=bqt c13;clear c13;have H':=Aside0.mk H;clear H;go_wp2;go_meet
        case rel=>exact ⟨_,((a0_0 == 16)),rsd,H',⟨by first | omega | exact Nat.le_refl _⟩,⟨bko⟩,⟨blw⟩⟩
       ·rw [if_neg c13] at H;obtain ⟨c13b0,c13b1⟩:=bqf c13;by_cases c14:a0_0=17
        ·rw [if_pos c14] at H;obtain ⟨c14b0,c14b1⟩:=bqt c14;clear c14;have H':=Aside0.mk H;clear H;go_wp2;go_meet
         case rel=>exact ⟨_,((a0_0 == 17)),rsd,H',⟨by first | omega | exact Nat.le_refl _⟩,⟨bko⟩,⟨blw⟩⟩
        ·rw [if_neg c14] at H;obtain ⟨c14b0,c14b1⟩:=bqf c14;by_cases c15:a0_0=18
         ·rw [if_pos c15] at H;obtain ⟨c15b0,c15b1⟩:=bqt c15;clear c15;have H':=Aside0.mk H;clear H;go_wp2;go_meet
          case rel=>exact ⟨_,((a0_0 == 18)),rsd,H',⟨by first | omega | exact Nat.le_refl _⟩,⟨bko⟩,⟨blw⟩⟩
         ·rw [if_neg c15] at H;obtain ⟨c15b0,c15b1⟩:=bqf c15;have H':=Aside0.mk H;clear H;go_wp2;go_meet
          case rel=>exact ⟨_,((a0_0 == 34)),rsd,H',⟨by first | omega | exact Nat.le_refl _⟩,⟨bko⟩,⟨blw⟩⟩
  case rest =>
   clear HC4;try clear c3b0
   try clear c3b1
   try clear hcz6_0
   try clear hcz6_1
   try clear hcz6_2
   try clear hcz6_3
   try clear hcz8_0
   try clear hcz8_1
   try clear hcz8_2
   try clear hcz8_3
   try clear hfz6_0
   try clear hfz6_1
   try clear hfz6_2
   try clear hfz6_3
   try clear hfz8_0
   try clear hfz8_1
   try clear hfz8_2
   try clear hfz8_3
   obtain ⟨kq,x8_3,rfl,HA,HJ3,BK1058,HB⟩:=hcut;cases kq with
   | zero=>exact absurd HA.out (by simp [insn_Writes.j0])
   | succ kj3 =>
    have H:=HA.out;clear HA;simp only [insn_Writes.j0] at H;by_cases c16:x8_3=true
    ·subst c16;have H1:((insn_set.f kj3 (([a0_1]:List Int))).bind fun t1063=>(some t1063))=some r:=by rw [if_pos rfl] at H;exact H
     clear H;have H:=H1;clear H1;obtain ⟨y1060,hy1060⟩:∃ y_:List Int,y_=(([a0_1]:List Int)):=⟨_,rfl⟩;replace H:((insn_set.f kj3 y1060).bind fun t1063=>(some t1063))=some r:=by first | (rw [hy1060];with_reducible exact H) | (have H2_:=(Option.bind_some _ _).symm.trans H;rw [hy1060];with_reducible exact H2_) | (have H2_:=(Option.bind_some _ _).symm.trans H;with_reducible exact H2_) | with_reducible exact H | (rw [hy1060];exact H) | exact H
     have Ny1060:=Aside0.mk hy1060;clear hy1060;replace H:=Option.bind_eq_some_iff.mp H;obtain ⟨t1063,A170,H⟩:=H;replace H:(some t1063)=some r:=H;have A17:=Aside0.mk A170;clear A170;obtain rfl:=Option.some.inj H;obtain ⟨hcz18_0,hcz18_1,hcz18_2,hcz18_3,hfz18_0,hfz18_1,hfz18_2,hfz18_3⟩:=bz4 BK1058.out;go_wp2_with (first | ((with_reducible refine gate_dst (N:=19) rfl ?_);refine Kd.R_lit (Kd.int .i64) _ 3 ?hg (N:=19) ?hd (xs:=([a0_1]:List Int)) (inner:=[.int .i64 a0_1]) (ok:=fun _=>True) (okp:=fun _=>True) ?hr ?hp (fun _ hk=>hk) trivial (Below.refl _ _) (Nat.le_refl _) (by simp) ?_;(case hd=>rfl);(case hg=>rfl);(case hr=>first | (go_simp;done) | (go_simp;rfl));(case hp=>exact (Reps.one (show Kd.M (Kd.int .i64) _ _ _ a0_1 [.int .i64 a0_1] from rfl) (Reps.none _ _)));intro v1061 w19 ho20 hb hg_ hnew_;clear hg_ hnew_;(first | rw [← Ny1060.out] at ho20 | (simp only [Int.reduceToNat] at ho20;rw [← Ny1060.out] at ho20));have n0_:=Aside0.mk (Kd.R_lower ho20 (below_size blw));have n1_:=Aside0.mk (blk_below (g:=gb1058) (o:=.cells #[.int .i64 a0_0,.int .i64 a0_1,.int .i64 a0_2,.int .i64 a0_3] 23 (0,0)) bko hb);have n2_:=Aside0.mk (below_step blw hb);clear BK1058;clear HB;have HO1062:=n0_;have BK1058:=n1_;have HB:=n2_;clear n0_ n1_ n2_;clear hb ho20;obtain ⟨Ao21,co21,eo21⟩:=Kd.R_slice HO1062.out;subst eo21) | ((with_reducible refine gate_callee (f:=87) rfl ?_);refine goesL_ (some 20) rfl rfl Tryz.func87 (by kernel_rfl) rfl #[.slice Ao21 y1060.length co21] rfl fq ?_;(with_reducible refine (insn_set.calls kj3 _ _ y1060 t1063 _ ?side1 ?side2 A17.out).mono ?_);(case side1=>repeat (first | exact (Kd.R_reads' HO1062.out).2.2 | (with_reducible refine Kd.C_alloc ?_ _) | (with_reducible refine Kd.C_drewN ?_ _) | (with_reducible refine Kd.C_drew ?_)));(case side2=>exact (Kd.R_reads' HO1062.out).2.1);rintro e w22 ⟨v1064,rfl,ho0,hb⟩;refine ⟨_,rfl,?_⟩;have n0_:=Aside0.mk (Kd.R_elder' (by (with_reducible repeat (first | apply Kd.R_alloc | apply Kd.R_drewN | apply Kd.R_drew));exact HO1062.out) (Kd.R_base ho0) hb);have n1_:=Aside0.mk (Kd.R_lower (Kd.R_new' ho0 (Kd.R_lt (by (with_reducible repeat (first | apply Kd.R_alloc | apply Kd.R_drewN | apply Kd.R_drew));exact HO1062.out))) (below_size blw));have n2_:=Aside0.mk (blk_below (g:=gb1058) (o:=.cells #[.int .i64 a0_0,.int .i64 a0_1,.int .i64 a0_2,.int .i64 a0_3] 23 (0,0)) bko hb);have n3_:=Aside0.mk (below_step blw hb);clear HO1062;clear BK1058;clear HB;have HO1062:=n0_;have HO1065:=n1_;have BK1058:=n2_;have HB:=n3_;clear n0_ n1_ n2_ n3_;(try clear hb);(try clear hb2);(try clear hk);(try clear hi);(try clear ho0)))
     go_ret;exact ⟨_,by first | rfl | (simp [errW_none,errW_some] <;> rfl) | (simp [*,errW_none,errW_some] <;> rfl),by (with_reducible repeat (first | apply Kd.R_alloc | apply Kd.R_drewN | apply Kd.R_drew));exact Kd.R_mono HO1065.out (fun _ hk=>trivial),blw⟩
    ·replace c16:=Bool.eq_false_iff.mpr c16;subst c16;have H1:(if a0_0=27 then (insn_Writes.j1 kj3 a0_0 (a0_0 == 27) a0_0 a0_1 a0_2 a0_3) else (if a0_0=28 then (insn_Writes.j1 kj3 a0_0 (a0_0 == 28) a0_0 a0_1 a0_2 a0_3) else (if a0_0=30 then (insn_Writes.j1 kj3 a0_0 (a0_0 == 30) a0_0 a0_1 a0_2 a0_3) else (insn_Writes.j1 kj3 a0_0 (a0_0 == 29) a0_0 a0_1 a0_2 a0_3))))=some r:=by rw [if_neg (show ¬ (false=true) by decide)] at H;exact H
     clear H;have H:=H1;clear H1;have HC23:=Aside0.mk H;clear H;go_upto_if 21 with (fail)
     go_cut [21] (fun v21 wc=>∃ (kq:Nat) (x21_22:Bool),v21=.bool x21_22∧Aside0 (insn_Writes.j1 kq a0_0 x21_22 a0_0 a0_1 a0_2 a0_3=some r)∧Aside0 (kq≤kj3)∧Aside0 (wc.heap[gb1058]?=some (.cells #[.int .i64 a0_0,.int .i64 a0_1,.int .i64 a0_2,.int .i64 a0_3] 23 (0,0)))∧Aside0 (Below w.heap.size w wc))
     case first =>
      have H:=HC23.out;clear HC23;by_cases c24:a0_0=27
      ·rw [if_pos c24] at H;obtain ⟨c24b0,c24b1⟩:=bqt c24;clear c24;(first | rw [c24b0] | (simp only [i64_w,i32_w];rw [c24b0]) | skip);have H':=Aside0.mk H;clear H;go_wp2;go_meet
       case rel=>exact ⟨_,((a0_0 == 27)),rsd,H',⟨by have:=HJ3.out;first | omega | exact Nat.le_refl _⟩,⟨bko⟩,⟨blw⟩⟩
      ·rw [if_neg c24] at H;obtain ⟨c24b0,c24b1⟩:=bqf c24;(first | rw [c24b0] | (simp only [i64_w,i32_w];rw [c24b0]) | skip);by_cases c25:a0_0=28
       ·rw [if_pos c25] at H;obtain ⟨c25b0,c25b1⟩:=bqt c25;clear c25;have H':=Aside0.mk H;clear H;go_wp2;go_meet
        case rel=>exact ⟨_,((a0_0 == 28)),rsd,H',⟨by have:=HJ3.out;first | omega | exact Nat.le_refl _⟩,⟨bko⟩,⟨blw⟩⟩
       ·rw [if_neg c25] at H;obtain ⟨c25b0,c25b1⟩:=bqf c25;by_cases c26:a0_0=30
        ·rw [if_pos c26] at H;obtain ⟨c26b0,c26b1⟩:=bqt c26;clear c26;have H':=Aside0.mk H;clear H;go_wp2;go_meet
         case rel=>exact ⟨_,((a0_0 == 30)),rsd,H',⟨by have:=HJ3.out;first | omega | exact Nat.le_refl _⟩,⟨bko⟩,⟨blw⟩⟩
        ·rw [if_neg c26] at H;obtain ⟨c26b0,c26b1⟩:=bqf c26;have H':=Aside0.mk H;clear H;go_wp2;go_meet
         case rel=>exact ⟨_,((a0_0 == 29)),rsd,H',⟨by have:=HJ3.out;first | omega | exact Nat.le_refl _⟩,⟨bko⟩,⟨blw⟩⟩
     case rest =>
      clear HC23;try clear c16
      obtain ⟨kq,x21_22,rfl,HA,HJ22,BK1058,HB⟩:=hcut;cases kq with
      | zero=>exact absurd HA.out (by simp [insn_Writes.j1])
      | succ kj22 =>
       have H:=HA.out;clear HA;simp only [insn_Writes.j1] at H;by_cases c27:x21_22=true
       ·subst c27;have H1:((insn_set.f kj22 (([7]:List Int))).bind fun t1069=>(some t1069))=some r:=by rw [if_pos rfl] at H;exact H
        clear H;have H:=H1;clear H1;obtain ⟨y1066,hy1066⟩:∃ y_:List Int,y_=(([7]:List Int)):=⟨_,rfl⟩;replace H:((insn_set.f kj22 y1066).bind fun t1069=>(some t1069))=some r:=by first | (rw [hy1066];with_reducible exact H) | (have H2_:=(Option.bind_some _ _).symm.trans H;rw [hy1066];with_reducible exact H2_) | (have H2_:=(Option.bind_some _ _).symm.trans H;with_reducible exact H2_) | with_reducible exact H | (rw [hy1066];exact H) | exact H
        have Ny1066:=Aside0.mk hy1066;clear hy1066;replace H:=Option.bind_eq_some_iff.mp H;obtain ⟨t1069,A280,H⟩:=H;replace H:(some t1069)=some r:=H;have A28:=Aside0.mk A280;clear A280;obtain rfl:=Option.some.inj H;go_wp2_with (first | ((with_reducible refine gate_dst (N:=26) rfl ?_);refine Kd.R_lit (Kd.int .i64) _ 3 ?hg (N:=26) ?hd (xs:=([7]:List Int)) (inner:=[.int .i64 7]) (ok:=fun _=>True) (okp:=fun _=>True) ?hr ?hp (fun _ hk=>hk) trivial (Below.refl _ _) (Nat.le_refl _) (by simp) ?_;(case hd=>rfl);(case hg=>rfl);(case hr=>first | (go_simp;done) | (go_simp;rfl));(case hp=>exact (Reps.one (show Kd.M (Kd.int .i64) _ _ _ 7 [.int .i64 7] from rfl) (Reps.none _ _)));intro v1067 w29 ho30 hb hg_ hnew_;clear hg_ hnew_;(first | rw [← Ny1066.out] at ho30 | (simp only [Int.reduceToNat] at ho30;rw [← Ny1066.out] at ho30));have n0_:=Aside0.mk (Kd.R_lower ho30 (below_size blw));have n1_:=Aside0.mk (blk_below (g:=gb1058) (o:=.cells #[.int .i64 a0_0,.int .i64 a0_1,.int .i64 a0_2,.int .i64 a0_3] 23 (0,0)) bko hb);have n2_:=Aside0.mk (below_step blw hb);clear BK1058;clear HB;have HO1068:=n0_;have BK1058:=n1_;have HB:=n2_;clear n0_ n1_ n2_;clear hb ho30;obtain ⟨Ao31,co31,eo31⟩:=Kd.R_slice HO1068.out;subst eo31) | ((with_reducible refine gate_callee (f:=87) rfl ?_);refine goesL_ (some 27) rfl rfl Tryz.func87 (by kernel_rfl) rfl #[.slice Ao31 y1066.length co31] rfl fq ?_;(with_reducible refine (insn_set.calls kj22 _ _ y1066 t1069 _ ?side1 ?side2 A28.out).mono ?_);(case side1=>repeat (first | exact (Kd.R_reads' HO1068.out).2.2 | (with_reducible refine Kd.C_alloc ?_ _) | (with_reducible refine Kd.C_drewN ?_ _) | (with_reducible refine Kd.C_drew ?_)));(case side2=>exact (Kd.R_reads' HO1068.out).2.1);rintro e w32 ⟨v1070,rfl,ho0,hb⟩;refine ⟨_,rfl,?_⟩;have n0_:=Aside0.mk (Kd.R_elder' (by (with_reducible repeat (first | apply Kd.R_alloc | apply Kd.R_drewN | apply Kd.R_drew));exact HO1068.out) (Kd.R_base ho0) hb);have n1_:=Aside0.mk (Kd.R_lower (Kd.R_new' ho0 (Kd.R_lt (by (with_reducible repeat (first | apply Kd.R_alloc | apply Kd.R_drewN | apply Kd.R_drew));exact HO1068.out))) (below_size blw));have n2_:=Aside0.mk (blk_below (g:=gb1058) (o:=.cells #[.int .i64 a0_0,.int .i64 a0_1,.int .i64 a0_2,.int .i64 a0_3] 23 (0,0)) bko hb);have n3_:=Aside0.mk (below_step blw hb);clear HO1068;clear BK1058;clear HB;have HO1068:=n0_;have HO1071:=n1_;have BK1058:=n2_;have HB:=n3_;clear n0_ n1_ n2_ n3_;(try clear hb);(try clear hb2);(try clear hk);(try clear hi);(try clear ho0)))
        go_ret;exact ⟨_,by first | rfl | (simp [errW_none,errW_some] <;> rfl) | (simp [*,errW_none,errW_some] <;> rfl),by (with_reducible repeat (first | apply Kd.R_alloc | apply Kd.R_drewN | apply Kd.R_drew));exact Kd.R_mono HO1071.out (fun _ hk=>trivial),blw⟩
       ·replace c27:=Bool.eq_false_iff.mpr c27;subst c27;have H1:(if a0_0=31 then ((insn_set.f kj22 (([a0_1,7]:List Int))).bind fun t1075=>(some t1075)) else (if a0_0≥5 then (if a0_0≤15 then ((insn_set.f kj22 (([a0_1]:List Int))).bind fun t1081=>(some t1081)) else (some ([]:List Int))) else (some ([]:List Int))))=some r:=by rw [if_neg (show ¬ (false=true) by decide)] at H;exact H
        clear H;have H:=H1;clear H1;by_cases c33:a0_0=31
        ·rw [if_pos c33] at H;obtain ⟨c33b0,c33b1⟩:=bqt c33;clear c33;obtain ⟨y1072,hy1072⟩:∃ y_:List Int,y_=(([a0_1,7]:List Int)):=⟨_,rfl⟩;replace H:((insn_set.f kj22 y1072).bind fun t1075=>(some t1075))=some r:=by first | (rw [hy1072];with_reducible exact H) | (have H2_:=(Option.bind_some _ _).symm.trans H;rw [hy1072];with_reducible exact H2_) | (have H2_:=(Option.bind_some _ _).symm.trans H;with_reducible exact H2_) | with_reducible exact H | (rw [hy1072];exact H) | exact H
         have Ny1072:=Aside0.mk hy1072;clear hy1072;replace H:=Option.bind_eq_some_iff.mp H;obtain ⟨t1075,A340,H⟩:=H;replace H:(some t1075)=some r:=H;have A34:=Aside0.mk A340;clear A340;obtain rfl:=Option.some.inj H;obtain ⟨hcz35_0,hcz35_1,hcz35_2,hcz35_3,hfz35_0,hfz35_1,hfz35_2,hfz35_3⟩:=bz4 BK1058.out;go_wp2_with (first | ((with_reducible refine gate_dst (N:=32) rfl ?_);refine Kd.R_lit (Kd.int .i64) _ 3 ?hg (N:=32) ?hd (xs:=([a0_1,7]:List Int)) (inner:=[.int .i64 a0_1,.int .i64 7]) (ok:=fun _=>True) (okp:=fun _=>True) ?hr ?hp (fun _ hk=>hk) trivial (Below.refl _ _) (Nat.le_refl _) (by simp) ?_;(case hd=>rfl);(case hg=>rfl);(case hr=>first | (go_simp;done) | (go_simp;rfl));(case hp=>exact (Reps.one (show Kd.M (Kd.int .i64) _ _ _ a0_1 [.int .i64 a0_1] from rfl) (Reps.one (show Kd.M (Kd.int .i64) _ _ _ 7 [.int .i64 7] from rfl) (Reps.none _ _))));intro v1073 w36 ho37 hb hg_ hnew_;clear hg_ hnew_;(first | rw [← Ny1072.out] at ho37 | (simp only [Int.reduceToNat] at ho37;rw [← Ny1072.out] at ho37));have n0_:=Aside0.mk (Kd.R_lower ho37 (below_size blw));have n1_:=Aside0.mk (blk_below (g:=gb1058) (o:=.cells #[.int .i64 a0_0,.int .i64 a0_1,.int .i64 a0_2,.int .i64 a0_3] 23 (0,0)) bko hb);have n2_:=Aside0.mk (below_step blw hb);clear BK1058;clear HB;have HO1074:=n0_;have BK1058:=n1_;have HB:=n2_;clear n0_ n1_ n2_;clear hb ho37;obtain ⟨Ao38,co38,eo38⟩:=Kd.R_slice HO1074.out;subst eo38) | ((with_reducible refine gate_callee (f:=87) rfl ?_);refine goesL_ (some 33) rfl rfl Tryz.func87 (by kernel_rfl) rfl #[.slice Ao38 y1072.length co38] rfl fq ?_;(with_reducible refine (insn_set.calls kj22 _ _ y1072 t1075 _ ?side1 ?side2 A34.out).mono ?_);(case side1=>repeat (first | exact (Kd.R_reads' HO1074.out).2.2 | (with_reducible refine Kd.C_alloc ?_ _) | (with_reducible refine Kd.C_drewN ?_ _) | (with_reducible refine Kd.C_drew ?_)));(case side2=>exact (Kd.R_reads' HO1074.out).2.1);rintro e w39 ⟨v1076,rfl,ho0,hb⟩;refine ⟨_,rfl,?_⟩;have n0_:=Aside0.mk (Kd.R_elder' (by (with_reducible repeat (first | apply Kd.R_alloc | apply Kd.R_drewN | apply Kd.R_drew));exact HO1074.out) (Kd.R_base ho0) hb);have n1_:=Aside0.mk (Kd.R_lower (Kd.R_new' ho0 (Kd.R_lt (by (with_reducible repeat (first | apply Kd.R_alloc | apply Kd.R_drewN | apply Kd.R_drew));exact HO1074.out))) (below_size blw));have n2_:=Aside0.mk (blk_below (g:=gb1058) (o:=.cells #[.int .i64 a0_0,.int .i64 a0_1,.int .i64 a0_2,.int .i64 a0_3] 23 (0,0)) bko hb);have n3_:=Aside0.mk (below_step blw hb);clear HO1074;clear BK1058;clear HB;have HO1074:=n0_;have HO1077:=n1_;have BK1058:=n2_;have HB:=n3_;clear n0_ n1_ n2_ n3_;(try clear hb);(try clear hb2);(try clear hk);(try clear hi);(try clear ho0)))
         go_ret;exact ⟨_,by first | rfl | (simp [errW_none,errW_some] <;> rfl) | (simp [*,errW_none,errW_some] <;> rfl),by (with_reducible repeat (first | apply Kd.R_alloc | apply Kd.R_drewN | apply Kd.R_drew));exact Kd.R_mono HO1077.out (fun _ hk=>trivial),blw⟩
        ·rw [if_neg c33] at H;obtain ⟨c33b0,c33b1⟩:=bqf c33;by_cases c40:a0_0≥5
         ·rw [if_pos c40] at H;have c40b0:decide (5≤a0_0)=true:=decide_eq_true c40;clear c40;by_cases c41:a0_0≤15
          ·rw [if_pos c41] at H;have c41b0:=decide_eq_true c41;clear c41;obtain ⟨y1078,hy1078⟩:∃ y_:List Int,y_=(([a0_1]:List Int)):=⟨_,rfl⟩;replace H:((insn_set.f kj22 y1078).bind fun t1081=>(some t1081))=some r:=by first | (rw [hy1078];with_reducible exact H) | (have H2_:=(Option.bind_some _ _).symm.trans H;rw [hy1078];with_reducible exact H2_) | (have H2_:=(Option.bind_some _ _).symm.trans H;with_reducible exact H2_) | with_reducible exact H | (rw [hy1078];exact H) | exact H
           have Ny1078:=Aside0.mk hy1078;clear hy1078;replace H:=Option.bind_eq_some_iff.mp H;obtain ⟨t1081,A420,H⟩:=H;replace H:(some t1081)=some r:=H;have A42:=Aside0.mk A420;clear A420;obtain rfl:=Option.some.inj H;obtain ⟨hcz43_0,hcz43_1,hcz43_2,hcz43_3,hfz43_0,hfz43_1,hfz43_2,hfz43_3⟩:=bz4 BK1058.out;go_wp2_with (first | ((with_reducible refine gate_dst (N:=44) rfl ?_);refine Kd.R_lit (Kd.int .i64) _ 3 ?hg (N:=44) ?hd (xs:=([a0_1]:List Int)) (inner:=[.int .i64 a0_1]) (ok:=fun _=>True) (okp:=fun _=>True) ?hr ?hp (fun _ hk=>hk) trivial (Below.refl _ _) (Nat.le_refl _) (by simp) ?_;(case hd=>rfl);(case hg=>rfl);(case hr=>first | (go_simp;done) | (go_simp;rfl));(case hp=>exact (Reps.one (show Kd.M (Kd.int .i64) _ _ _ a0_1 [.int .i64 a0_1] from rfl) (Reps.none _ _)));intro v1079 w44 ho45 hb hg_ hnew_;clear hg_ hnew_;(first | rw [← Ny1078.out] at ho45 | (simp only [Int.reduceToNat] at ho45;rw [← Ny1078.out] at ho45));have n0_:=Aside0.mk (Kd.R_lower ho45 (below_size blw));have n1_:=Aside0.mk (blk_below (g:=gb1058) (o:=.cells #[.int .i64 a0_0,.int .i64 a0_1,.int .i64 a0_2,.int .i64 a0_3] 23 (0,0)) bko hb);have n2_:=Aside0.mk (below_step blw hb);clear BK1058;clear HB;have HO1080:=n0_;have BK1058:=n1_;have HB:=n2_;clear n0_ n1_ n2_;clear hb ho45;obtain ⟨Ao46,co46,eo46⟩:=Kd.R_slice HO1080.out;subst eo46) | ((with_reducible refine gate_callee (f:=87) rfl ?_);refine goesL_ (some 45) rfl rfl Tryz.func87 (by kernel_rfl) rfl #[.slice Ao46 y1078.length co46] rfl fq ?_;(with_reducible refine (insn_set.calls kj22 _ _ y1078 t1081 _ ?side1 ?side2 A42.out).mono ?_);(case side1=>repeat (first | exact (Kd.R_reads' HO1080.out).2.2 | (with_reducible refine Kd.C_alloc ?_ _) | (with_reducible refine Kd.C_drewN ?_ _) | (with_reducible refine Kd.C_drew ?_)));(case side2=>exact (Kd.R_reads' HO1080.out).2.1);rintro e w47 ⟨v1082,rfl,ho0,hb⟩;refine ⟨_,rfl,?_⟩;have n0_:=Aside0.mk (Kd.R_elder' (by (with_reducible repeat (first | apply Kd.R_alloc | apply Kd.R_drewN | apply Kd.R_drew));exact HO1080.out) (Kd.R_base ho0) hb);have n1_:=Aside0.mk (Kd.R_lower (Kd.R_new' ho0 (Kd.R_lt (by (with_reducible repeat (first | apply Kd.R_alloc | apply Kd.R_drewN | apply Kd.R_drew));exact HO1080.out))) (below_size blw));have n2_:=Aside0.mk (blk_below (g:=gb1058) (o:=.cells #[.int .i64 a0_0,.int .i64 a0_1,.int .i64 a0_2,.int .i64 a0_3] 23 (0,0)) bko hb);have n3_:=Aside0.mk (below_step blw hb);clear HO1080;clear BK1058;clear HB;have HO1080:=n0_;have HO1083:=n1_;have BK1058:=n2_;have HB:=n3_;clear n0_ n1_ n2_ n3_;(try clear hb);(try clear hb2);(try clear hk);(try clear hi);(try clear ho0)))
           go_ret;exact ⟨_,by first | rfl | (simp [errW_none,errW_some] <;> rfl) | (simp [*,errW_none,errW_some] <;> rfl),by (with_reducible repeat (first | apply Kd.R_alloc | apply Kd.R_drewN | apply Kd.R_drew));exact Kd.R_mono HO1083.out (fun _ hk=>trivial),blw⟩
          ·rw [if_neg c41] at H;have c41b0:=decide_eq_false c41;clear c41;obtain rfl:=Option.some.inj H;obtain ⟨hcz48_0,hcz48_1,hcz48_2,hcz48_3,hfz48_0,hfz48_1,hfz48_2,hfz48_3⟩:=bz4 BK1058.out;go_wp2;go_ret;exact ⟨_,by first | rfl | (simp [errW_none,errW_some] <;> rfl) | (simp [*,errW_none,errW_some] <;> rfl),by first | exact Kd.R_nil _ _ _ _ _ | exact Kd.N_nil _ _ _ _ _ | exact Kd.V_nil _ _ _ _ _ | exact Kd.Q_nil _ _ _ _ _ | exact Kd.S_nil _ _ _ _ _,blw⟩
         ·rw [if_neg c40] at H;have c40b0:decide (5≤a0_0)=false:=decide_eq_false c40;clear c40;obtain rfl:=Option.some.inj H;obtain ⟨hcz49_0,hcz49_1,hcz49_2,hcz49_3,hfz49_0,hfz49_1,hfz49_2,hfz49_3⟩:=bz4 BK1058.out;go_wp2;go_ret;exact ⟨_,by first | rfl | (simp [errW_none,errW_some] <;> rfl) | (simp [*,errW_none,errW_some] <;> rfl),by first | exact Kd.R_nil _ _ _ _ _ | exact Kd.N_nil _ _ _ _ _ | exact Kd.V_nil _ _ _ _ _ | exact Kd.Q_nil _ _ _ _ _ | exact Kd.S_nil _ _ _ _ _,blw⟩
 ·rw [if_neg c3] at H;obtain ⟨c3b0,c3b1⟩:=bqf c3;obtain rfl:=Option.some.inj H;go_enter Tryz.func48,Tryz.ntmps48
  go_wp2_with (first | ((with_reducible refine gate_dst (N:=1) rfl ?_);refine box_event ?hg (N:=1) ?hd (cs:=#[.int .i64 a0_0,.int .i64 a0_1,.int .i64 a0_2,.int .i64 a0_3]) (t:=23) ?hr ?_;(case hd=>rfl);(case hg=>rfl);(case hr=>first | (go_simp;done) | (go_simp;rfl));intro gb1058 hg w50 hbox hb;have n0_:=Aside0.mk (below_step blw hb);have n1_:=Aside0.mk (hbox);have n2_:=Aside0.mk ((by rw [hg];exact (below_size blw):w.heap.size≤gb1058));have n3_:=Aside0.mk ((by rw [hg];exact (below_size blw):w.heap.size≤gb1058));clear HB;have HB:=n0_;have BK1058:=n1_;have GW1058:=n2_;have GE1058:=n3_;clear n0_ n1_ n2_ n3_;clear hb hbox hg;obtain ⟨hcz51_0,hcz51_1,hcz51_2,hcz51_3,hfz51_0,hfz51_1,hfz51_2,hfz51_3⟩:=bz4 BK1058.out) | ((with_reducible refine gate_callee (f:=31) rfl ?_);refine goesL_ (some 4) rfl rfl Tryz.func31 (by kernel_rfl) rfl #[.agg #[.int .i64 a0_0,.int .i64 a0_1,.int .i64 a0_2,.int .i64 a0_3]] rfl fq ?_;(with_reducible refine (insn_Check.calls k a0_0 a0_1 a0_2 a0_3 t1059 _ A2.out gwy).mono ?_);rintro e w52 ⟨rfl,hb⟩;refine ⟨_,rfl,?_⟩;have n0_:=Aside0.mk (blk_below (g:=gb1058) (o:=.cells #[.int .i64 a0_0,.int .i64 a0_1,.int .i64 a0_2,.int .i64 a0_3] 23 (0,0)) bko hb);have n1_:=Aside0.mk (below_step blw hb);clear BK1058;clear HB;have BK1058:=n0_;have HB:=n1_;clear n0_ n1_;(try clear hb);(try clear hb2);(try clear hk);(try clear hi)))
  go_ret;exact ⟨_,by first | rfl | (simp [errW_none,errW_some] <;> rfl) | (simp [*,errW_none,errW_some] <;> rfl),by first | exact Kd.R_nil _ _ _ _ _ | exact Kd.N_nil _ _ _ _ _ | exact Kd.V_nil _ _ _ _ _ | exact Kd.Q_nil _ _ _ _ _ | exact Kd.S_nil _ _ _ _ _,blw⟩
end Go.Proofs.YtffojmgmpfjlhaaGreatDoor.Q
