/- Parts of the proof: InsnChecks: Check, Len, Target, Relative, Reads and Writes return what the specification returns: the law returns true for every input; the inputs read as they did; the package-level variables hold what the program's text lays in them: the tied card. -/
import Derived.Test.YtffojmgmpfjlhaaGreatDoorInsnChecksZ2
set_option linter.unusedVariables false
set_option linter.unusedSimpArgs false
namespace Go.Proofs.YtffojmgmpfjlhaaGreatDoor.Q
open Go.Proofs.YtffojmgmpfjlhaaGreatDoor Go.RowKit Go.Proofs.YtffojmgmpfjlhaaGreatDoorW.PrintWords Go.Proofs.YtffojmgmpfjlhaaGreatDoorW.PrintLast Go.Proofs.YtffojmgmpfjlhaaGreatDoorW.PrintMore
attribute [local go_sem] max2_int min2_int max_two min_two max_three min_three max_four min_four
mutual
def insn_Reads.j0:Nat→Int→Bool→Int→Int→Int→Int→Option (List Int)
 | 0,_,_,_,_,_,_=>none
 | k+1,x7,x8,x960000,x960001,x960002,x960003=>if x8=true then ((insn_set.f k (([x960002]:List Int))).bind fun t964=>(some t964)) else (if x7=16 then (insn_Reads.j1 k x7 (x7 == 16) x960000 x960001 x960002 x960003) else (insn_Reads.j1 k x7 (x7 == 26) x960000 x960001 x960002 x960003))
def insn_Reads.j1:Nat→Int→Bool→Int→Int→Int→Int→Option (List Int)
 | 0,_,_,_,_,_,_=>none
 | k+1,x7,x16,x960000,x960001,x960002,x960003=>if x16=true then ((insn_set.f k (([x960001]:List Int))).bind fun t970=>(some t970)) else (if x7=27 then (insn_Reads.j2 k x7 (x7 == 27) x960000 x960001 x960002 x960003) else (if x7=29 then (insn_Reads.j2 k x7 (x7 == 29) x960000 x960001 x960002 x960003) else (insn_Reads.j2 k x7 (x7 == 31) x960000 x960001 x960002 x960003)))
def insn_Reads.j2:Nat→Int→Bool→Int→Int→Int→Int→Option (List Int)
 | 0,_,_,_,_,_,_=>none
 | k+1,x7,x23,x960000,x960001,x960002,x960003=>if x23=true then ((insn_set.f k (([7]:List Int))).bind fun t976=>(some t976)) else (if x7=28 then (insn_Reads.j3 k x7 (x7 == 28) x960000 x960001 x960002 x960003) else (insn_Reads.j3 k x7 (x7 == 30) x960000 x960001 x960002 x960003))
def insn_Reads.j3:Nat→Int→Bool→Int→Int→Int→Int→Option (List Int)
 | 0,_,_,_,_,_,_=>none
 | k+1,x7,x29,x960000,x960001,x960002,x960003=>if x29=true then ((insn_set.f k (([x960001,7]:List Int))).bind fun t982=>(some t982)) else (if x7=19 then (insn_Reads.j4 k (x7 == 19) x960000 x960001 x960002 x960003) else (if x7=20 then (insn_Reads.j4 k (x7 == 20) x960000 x960001 x960002 x960003) else (if x7=21 then (insn_Reads.j4 k (x7 == 21) x960000 x960001 x960002 x960003) else (if x7=22 then (insn_Reads.j4 k (x7 == 22) x960000 x960001 x960002 x960003) else (if x7=23 then (insn_Reads.j4 k (x7 == 23) x960000 x960001 x960002 x960003) else (if x7=24 then (insn_Reads.j4 k (x7 == 24) x960000 x960001 x960002 x960003) else (insn_Reads.j4 k (x7 == 34) x960000 x960001 x960002 x960003)))))))
def insn_Reads.j4:Nat→Bool→Int→Int→Int→Int→Option (List Int)
 | 0,_,_,_,_,_=>none
 | k+1,x36,x960000,x960001,x960002,x960003=>if x36=true then ((insn_set.f k (([x960001,x960002]:List Int))).bind fun t988=>(some t988)) else (if x960000≥5 then (if x960000≤15 then ((insn_set.f k (([x960001,x960002]:List Int))).bind fun t994=>(some t994)) else (some ([]:List Int))) else (some ([]:List Int)))
end
def insn_Reads.f (k:Nat) (a0_0:Int) (a0_1:Int) (a0_2:Int) (a0_3:Int):Option (List Int):=(insn_Check.f k a0_0 a0_1 a0_2 a0_3).bind fun t960=>(if t960=0 then (if a0_0=2 then (insn_Reads.j0 k a0_0 (a0_0 == 2) a0_0 a0_1 a0_2 a0_3) else (if a0_0=17 then (insn_Reads.j0 k a0_0 (a0_0 == 17) a0_0 a0_1 a0_2 a0_3) else (insn_Reads.j0 k a0_0 (a0_0 == 18) a0_0 a0_1 a0_2 a0_3))) else (some ([]:List Int)))
theorem insn_Reads.mono_l:∀ k,(∀ y0 y1 y2 y3 y4 y5,LeO (insn_Reads.j0 k y0 y1 y2 y3 y4 y5) (insn_Reads.j0 (k+1) y0 y1 y2 y3 y4 y5))∧(∀ y0 y1 y2 y3 y4 y5,LeO (insn_Reads.j1 k y0 y1 y2 y3 y4 y5) (insn_Reads.j1 (k+1) y0 y1 y2 y3 y4 y5))∧(∀ y0 y1 y2 y3 y4 y5,LeO (insn_Reads.j2 k y0 y1 y2 y3 y4 y5) (insn_Reads.j2 (k+1) y0 y1 y2 y3 y4 y5))∧(∀ y0 y1 y2 y3 y4 y5,LeO (insn_Reads.j3 k y0 y1 y2 y3 y4 y5) (insn_Reads.j3 (k+1) y0 y1 y2 y3 y4 y5))∧(∀ y0 y1 y2 y3 y4,LeO (insn_Reads.j4 k y0 y1 y2 y3 y4) (insn_Reads.j4 (k+1) y0 y1 y2 y3 y4))
 | 0=>⟨fun _ _ _ _ _ _ r h=>by simp [insn_Reads.j0] at h,fun _ _ _ _ _ _ r h=>by simp [insn_Reads.j1] at h,fun _ _ _ _ _ _ r h=>by simp [insn_Reads.j2] at h,fun _ _ _ _ _ _ r h=>by simp [insn_Reads.j3] at h,fun _ _ _ _ _ r h=>by simp [insn_Reads.j4] at h⟩
 | k+1=>by
  obtain ⟨ih0,ih1,ih2,ih3,ih4⟩:=insn_Reads.mono_l k;refine ⟨?_,?_,?_,?_,?_⟩
  ·intro y0 y1 y2 y3 y4 y5;unfold insn_Reads.j0;repeat' first
   | (with_reducible exact ih0 _ _ _ _ _ _)
   | (with_reducible exact ih1 _ _ _ _ _ _)
   | (with_reducible exact ih2 _ _ _ _ _ _)
   | (with_reducible exact ih3 _ _ _ _ _ _)
   | (with_reducible exact ih4 _ _ _ _ _)
   | (with_reducible exact insn_Check.mono _ _ _ _ _)
   | (with_reducible exact insn_set.mono _ _)
   | (with_reducible exact LeO.refl _)
   | (with_reducible exact LeO.none _)
   | (with_reducible refine LeO.ite ?_ ?_)
   | (with_reducible refine LeO.bind ?_ (fun _=>?_))
   | exact LeO.none _
   | refine LeO.ite ?_ ?_
   | refine LeO.bind ?_ (fun _=>?_)
  ·intro y0 y1 y2 y3 y4 y5;unfold insn_Reads.j1;repeat' first
   | (with_reducible exact ih0 _ _ _ _ _ _)
   | (with_reducible exact ih1 _ _ _ _ _ _)
   | (with_reducible exact ih2 _ _ _ _ _ _)
   | (with_reducible exact ih3 _ _ _ _ _ _)
   | (with_reducible exact ih4 _ _ _ _ _)
   | (with_reducible exact insn_Check.mono _ _ _ _ _)
   | (with_reducible exact insn_set.mono _ _)
   | (with_reducible exact LeO.refl _)
   | (with_reducible exact LeO.none _)
   | (with_reducible refine LeO.ite ?_ ?_)
   | (with_reducible refine LeO.bind ?_ (fun _=>?_))
   | exact LeO.none _
   | refine LeO.ite ?_ ?_
   | refine LeO.bind ?_ (fun _=>?_)
  ·intro y0 y1 y2 y3 y4 y5;unfold insn_Reads.j2;repeat' first
   | (with_reducible exact ih0 _ _ _ _ _ _)
   | (with_reducible exact ih1 _ _ _ _ _ _)
   | (with_reducible exact ih2 _ _ _ _ _ _)
   | (with_reducible exact ih3 _ _ _ _ _ _)
   | (with_reducible exact ih4 _ _ _ _ _)
   | (with_reducible exact insn_Check.mono _ _ _ _ _)
   | (with_reducible exact insn_set.mono _ _)
   | (with_reducible exact LeO.refl _)
   | (with_reducible exact LeO.none _)
   | (with_reducible refine LeO.ite ?_ ?_)
   | (with_reducible refine LeO.bind ?_ (fun _=>?_))
   | exact LeO.none _
   | refine LeO.ite ?_ ?_
   | refine LeO.bind ?_ (fun _=>?_)
  ·intro y0 y1 y2 y3 y4 y5;unfold insn_Reads.j3;repeat' first
   | (with_reducible exact ih0 _ _ _ _ _ _)
   | (with_reducible exact ih1 _ _ _ _ _ _)
   | (with_reducible exact ih2 _ _ _ _ _ _)
   | (with_reducible exact ih3 _ _ _ _ _ _)
   | (with_reducible exact ih4 _ _ _ _ _)
   | (with_reducible exact insn_Check.mono _ _ _ _ _)
   | (with_reducible exact insn_set.mono _ _)
   | (with_reducible exact LeO.refl _)
   | (with_reducible exact LeO.none _)
   | (with_reducible refine LeO.ite ?_ ?_)
   | (with_reducible refine LeO.bind ?_ (fun _=>?_))
   | exact LeO.none _
   | refine LeO.ite ?_ ?_
   | refine LeO.bind ?_ (fun _=>?_)
  ·intro y0 y1 y2 y3 y4;unfold insn_Reads.j4;repeat' first
   | (with_reducible exact ih0 _ _ _ _ _ _)
   | (with_reducible exact ih1 _ _ _ _ _ _)
   | (with_reducible exact ih2 _ _ _ _ _ _)
   | (with_reducible exact ih3 _ _ _ _ _ _)
   | (with_reducible exact ih4 _ _ _ _ _)
   | (with_reducible exact insn_Check.mono _ _ _ _ _)
   | (with_reducible exact insn_set.mono _ _)
   | (with_reducible exact LeO.refl _)
   | (with_reducible exact LeO.none _)
   | (with_reducible refine LeO.ite ?_ ?_)
   | (with_reducible refine LeO.bind ?_ (fun _=>?_))
   | exact LeO.none _
   | refine LeO.ite ?_ ?_
   | refine LeO.bind ?_ (fun _=>?_)
theorem insn_Reads.mono:∀ a0 a1 a2 a3 k,LeO (insn_Reads.f k a0 a1 a2 a3) (insn_Reads.f (k+1) a0 a1 a2 a3):=by
 intro a0 a1 a2 a3 k;obtain ⟨ih0,ih1,ih2,ih3,ih4⟩:=insn_Reads.mono_l k;unfold insn_Reads.f;repeat' first
   | (with_reducible exact ih0 _ _ _ _ _ _)
   | (with_reducible exact ih1 _ _ _ _ _ _)
   | (with_reducible exact ih2 _ _ _ _ _ _)
   | (with_reducible exact ih3 _ _ _ _ _ _)
   | (with_reducible exact ih4 _ _ _ _ _)
   | (with_reducible exact insn_Check.mono _ _ _ _ _)
   | (with_reducible exact insn_set.mono _ _)
   | (with_reducible exact LeO.refl _)
   | (with_reducible exact LeO.none _)
   | (with_reducible refine LeO.ite ?_ ?_)
   | (with_reducible refine LeO.bind ?_ (fun _=>?_))
   | exact LeO.none _
   | refine LeO.ite ?_ ?_
   | refine LeO.bind ?_ (fun _=>?_)
set_option maxHeartbeats 8000000 in
set_option maxRecDepth 100000 in
theorem insn_Reads.calls (k:Nat) (a0_0:Int) (a0_1:Int) (a0_2:Int) (a0_3:Int) (r:List Int) (w:World) (h:insn_Reads.f k a0_0 a0_1 a0_2 a0_3=some r) (hgw:GW w) :
  Calls Tryz.prog 46 #[.agg #[.int .i64 a0_0,.int .i64 a0_1,.int .i64 a0_2,.int .i64 a0_3]] w fun e w'=>∃ v0_:Value,e=.returned (v0_)∧Kd.R (Kd.int .i64) 3 w' w.heap.size (fun _=>True) v0_ r∧Below w.heap.size w w':=by
 have hu23:=Tryz.underlying23;have HB:=Aside0.mk (Below.refl w.heap.size w);have H:((insn_Check.f k a0_0 a0_1 a0_2 a0_3).bind fun t960=>(if t960=0 then (if a0_0=2 then (insn_Reads.j0 k a0_0 (a0_0 == 2) a0_0 a0_1 a0_2 a0_3) else (if a0_0=17 then (insn_Reads.j0 k a0_0 (a0_0 == 17) a0_0 a0_1 a0_2 a0_3) else (insn_Reads.j0 k a0_0 (a0_0 == 18) a0_0 a0_1 a0_2 a0_3))) else (some ([]:List Int))))=some r:=h;clear h;replace H:=Option.bind_eq_some_iff.mp H;obtain ⟨t960,A20,H⟩:=H;replace H:(if t960=0 then (if a0_0=2 then (insn_Reads.j0 k a0_0 (a0_0 == 2) a0_0 a0_1 a0_2 a0_3) else (if a0_0=17 then (insn_Reads.j0 k a0_0 (a0_0 == 17) a0_0 a0_1 a0_2 a0_3) else (insn_Reads.j0 k a0_0 (a0_0 == 18) a0_0 a0_1 a0_2 a0_3))) else (some ([]:List Int)))=some r:=H;have A2:=Aside0.mk A20;clear A20;by_cases c3:t960=0
 ·rw [if_pos c3] at H;obtain ⟨c3b0,c3b1⟩:=bqt c3;clear c3;have HC4:=Aside0.mk H;clear H;go_enter Tryz.func46,Tryz.ntmps46
  go_upto_if 8 with (first | ((with_reducible refine gate_dst (N:=1) rfl ?_);refine box_event ?hg (N:=1) ?hd (cs:=#[.int .i64 a0_0,.int .i64 a0_1,.int .i64 a0_2,.int .i64 a0_3]) (t:=23) ?hr ?_;(case hd=>rfl);(case hg=>rfl);(case hr=>first | (go_simp;done) | (go_simp;rfl));intro gb959 hg w5 hbox hb;have n0_:=Aside0.mk (below_step blw hb);have n1_:=Aside0.mk (hbox);have n2_:=Aside0.mk ((by rw [hg];exact (below_size blw):w.heap.size≤gb959));have n3_:=Aside0.mk ((by rw [hg];exact (below_size blw):w.heap.size≤gb959));clear HB;have HB:=n0_;have BK959:=n1_;have GW959:=n2_;have GE959:=n3_;clear n0_ n1_ n2_ n3_;clear hb hbox hg;obtain ⟨hcz6_0,hcz6_1,hcz6_2,hcz6_3,hfz6_0,hfz6_1,hfz6_2,hfz6_3⟩:=bz4 BK959.out) | ((with_reducible refine gate_callee (f:=31) rfl ?_);refine goesL_ (some 4) rfl rfl Tryz.func31 (by kernel_rfl) rfl #[.agg #[.int .i64 a0_0,.int .i64 a0_1,.int .i64 a0_2,.int .i64 a0_3]] rfl fq ?_;(with_reducible refine (insn_Check.calls k a0_0 a0_1 a0_2 a0_3 t960 _ A2.out gwy).mono ?_);rintro e w7 ⟨rfl,hb⟩;refine ⟨_,rfl,?_⟩;have n0_:=Aside0.mk (blk_below (g:=gb959) (o:=.cells #[.int .i64 a0_0,.int .i64 a0_1,.int .i64 a0_2,.int .i64 a0_3] 23 (0,0)) bko hb);have n1_:=Aside0.mk (below_step blw hb);clear BK959;clear HB;have BK959:=n0_;have HB:=n1_;clear n0_ n1_;(try clear hb);(try clear hb2);(try clear hk);(try clear hi);obtain ⟨hcz8_0,hcz8_1,hcz8_2,hcz8_3,hfz8_0,hfz8_1,hfz8_2,hfz8_3⟩:=bz4 BK959.out))
  (try simp only [Act.put,List.setIfInBounds_toArray,List.set_cons_zero,List.set_cons_succ]);go_cut [8] (fun v8 wc=>∃ (kq:Nat) (x8_3:Bool),v8=.bool x8_3∧Aside0 (insn_Reads.j0 kq a0_0 x8_3 a0_0 a0_1 a0_2 a0_3=some r)∧Aside0 (kq≤k)∧Aside0 (wc.heap[gb959]?=some (.cells #[.int .i64 a0_0,.int .i64 a0_1,.int .i64 a0_2,.int .i64 a0_3] 23 (0,0)))∧Aside0 (Below w.heap.size w wc))
  case first =>
   have H:=HC4.out;clear HC4;by_cases c9:a0_0=2
   ·rw [if_pos c9] at H;obtain ⟨c9b0,c9b1⟩:=bqt c9;clear c9;(first | rw [c9b0] | (simp only [i64_w,i32_w];rw [c9b0]) | skip);have H':=Aside0.mk H;clear H;go_wp2;go_meet
    case rel=>exact ⟨_,((a0_0 == 2)),rsd,H',⟨by first | omega | exact Nat.le_refl _⟩,⟨bko⟩,⟨blw⟩⟩
   ·rw [if_neg c9] at H;obtain ⟨c9b0,c9b1⟩:=bqf c9;(first | rw [c9b0] | (simp only [i64_w,i32_w];rw [c9b0]) | skip);by_cases c10:a0_0=17
    ·rw [if_pos c10] at H;obtain ⟨c10b0,c10b1⟩:=bqt c10;clear c10;have H':=Aside0.mk H;clear H;go_wp2;go_meet
     case rel=>exact ⟨_,((a0_0 == 17)),rsd,H',⟨by first | omega | exact Nat.le_refl _⟩,⟨bko⟩,⟨blw⟩⟩
    ·rw [if_neg c10] at H;obtain ⟨c10b0,c10b1⟩:=bqf c10;have H':=Aside0.mk H;clear H;go_wp2;go_meet
     case rel=>exact ⟨_,((a0_0 == 18)),rsd,H',⟨by first | omega | exact Nat.le_refl _⟩,⟨bko⟩,⟨blw⟩⟩
  case rest =>
   clear HC4;try clear c3b0
   try clear c3b1
   try clear hcz6_0
   try clear hcz6_1
   try clear hcz6_2
   try clear hcz6_3
   try clear hcz8_0
   try clear hcz8_1
   try clear hcz8_2
   try clear hcz8_3
   try clear hfz6_0
   try clear hfz6_1
   try clear hfz6_2
   try clear hfz6_3
   try clear hfz8_0
   try clear hfz8_1
   try clear hfz8_2
   try clear hfz8_3
   obtain ⟨kq,x8_3,rfl,HA,HJ3,BK959,HB⟩:=hcut;cases kq with
   | zero=>exact absurd HA.out (by simp [insn_Reads.j0])
   | succ kj3 =>
    have H:=HA.out;clear HA;simp only [insn_Reads.j0] at H;by_cases c11:x8_3=true
    ·subst c11;have H1:((insn_set.f kj3 (([a0_2]:List Int))).bind fun t964=>(some t964))=some r:=by rw [if_pos rfl] at H;exact H
     clear H;have H:=H1;clear H1;obtain ⟨y961,hy961⟩:∃ y_:List Int,y_=(([a0_2]:List Int)):=⟨_,rfl⟩;replace H:((insn_set.f kj3 y961).bind fun t964=>(some t964))=some r:=by first | (rw [hy961];with_reducible exact H) | (have H2_:=(Option.bind_some _ _).symm.trans H;rw [hy961];with_reducible exact H2_) | (have H2_:=(Option.bind_some _ _).symm.trans H;with_reducible exact H2_) | with_reducible exact H | (rw [hy961];exact H) | exact H
     have Ny961:=Aside0.mk hy961;clear hy961;replace H:=Option.bind_eq_some_iff.mp H;obtain ⟨t964,A120,H⟩:=H;replace H:(some t964)=some r:=H;have A12:=Aside0.mk A120;clear A120;obtain rfl:=Option.some.inj H;obtain ⟨hcz13_0,hcz13_1,hcz13_2,hcz13_3,hfz13_0,hfz13_1,hfz13_2,hfz13_3⟩:=bz4 BK959.out;go_wp2_with (first | ((with_reducible refine gate_dst (N:=14) rfl ?_);refine Kd.R_lit (Kd.int .i64) _ 3 ?hg (N:=14) ?hd (xs:=([a0_2]:List Int)) (inner:=[.int .i64 a0_2]) (ok:=fun _=>True) (okp:=fun _=>True) ?hr ?hp (fun _ hk=>hk) trivial (Below.refl _ _) (Nat.le_refl _) (by simp) ?_;(case hd=>rfl);(case hg=>rfl);(case hr=>first | (go_simp;done) | (go_simp;rfl));(case hp=>exact (Reps.one (show Kd.M (Kd.int .i64) _ _ _ a0_2 [.int .i64 a0_2] from rfl) (Reps.none _ _)));intro v962 w14 ho15 hb hg_ hnew_;clear hg_ hnew_;(first | rw [← Ny961.out] at ho15 | (simp only [Int.reduceToNat] at ho15;rw [← Ny961.out] at ho15));have n0_:=Aside0.mk (Kd.R_lower ho15 (below_size blw));have n1_:=Aside0.mk (blk_below (g:=gb959) (o:=.cells #[.int .i64 a0_0,.int .i64 a0_1,.int .i64 a0_2,.int .i64 a0_3] 23 (0,0)) bko hb);have n2_:=Aside0.mk (below_step blw hb);clear BK959;clear HB;have HO963:=n0_;have BK959:=n1_;have HB:=n2_;clear n0_ n1_ n2_;clear hb ho15;obtain ⟨Ao16,co16,eo16⟩:=Kd.R_slice HO963.out;subst eo16) | ((with_reducible refine gate_callee (f:=87) rfl ?_);refine goesL_ (some 15) rfl rfl Tryz.func87 (by kernel_rfl) rfl #[.slice Ao16 y961.length co16] rfl fq ?_;(with_reducible refine (insn_set.calls kj3 _ _ y961 t964 _ ?side1 ?side2 A12.out).mono ?_);(case side1=>repeat (first | exact (Kd.R_reads' HO963.out).2.2 | (with_reducible refine Kd.C_alloc ?_ _) | (with_reducible refine Kd.C_drewN ?_ _) | (with_reducible refine Kd.C_drew ?_)));(case side2=>exact (Kd.R_reads' HO963.out).2.1);rintro e w17 ⟨v965,rfl,ho0,hb⟩;refine ⟨_,rfl,?_⟩;have n0_:=Aside0.mk (Kd.R_elder' (by (with_reducible repeat (first | apply Kd.R_alloc | apply Kd.R_drewN | apply Kd.R_drew));exact HO963.out) (Kd.R_base ho0) hb);have n1_:=Aside0.mk (Kd.R_lower (Kd.R_new' ho0 (Kd.R_lt (by (with_reducible repeat (first | apply Kd.R_alloc | apply Kd.R_drewN | apply Kd.R_drew));exact HO963.out))) (below_size blw));have n2_:=Aside0.mk (blk_below (g:=gb959) (o:=.cells #[.int .i64 a0_0,.int .i64 a0_1,.int .i64 a0_2,.int .i64 a0_3] 23 (0,0)) bko hb);have n3_:=Aside0.mk (below_step blw hb);clear HO963;clear BK959;clear HB;have HO963:=n0_;have HO966:=n1_;have BK959:=n2_;have HB:=n3_;clear n0_ n1_ n2_ n3_;(try clear hb);(try clear hb2);(try clear hk);(try clear hi);(try clear ho0)))
     go_ret;exact ⟨_,by first | rfl | (simp [errW_none,errW_some] <;> rfl) | (simp [*,errW_none,errW_some] <;> rfl),by (with_reducible repeat (first | apply Kd.R_alloc | apply Kd.R_drewN | apply Kd.R_drew));exact Kd.R_mono HO966.out (fun _ hk=>trivial),blw⟩
    ·replace c11:=Bool.eq_false_iff.mpr c11;subst c11;have H1:(if a0_0=16 then (insn_Reads.j1 kj3 a0_0 (a0_0 == 16) a0_0 a0_1 a0_2 a0_3) else (insn_Reads.j1 kj3 a0_0 (a0_0 == 26) a0_0 a0_1 a0_2 a0_3))=some r:=by rw [if_neg (show ¬ (false=true) by decide)] at H;exact H
     clear H;have H:=H1;clear H1;have HC18:=Aside0.mk H;clear H;go_upto_if 16 with (fail)
     go_cut [16] (fun v16 wc=>∃ (kq:Nat) (x16_17:Bool),v16=.bool x16_17∧Aside0 (insn_Reads.j1 kq a0_0 x16_17 a0_0 a0_1 a0_2 a0_3=some r)∧Aside0 (kq≤kj3)∧Aside0 (wc.heap[gb959]?=some (.cells #[.int .i64 a0_0,.int .i64 a0_1,.int .i64 a0_2,.int .i64 a0_3] 23 (0,0)))∧Aside0 (Below w.heap.size w wc))
     case first =>
      have H:=HC18.out;clear HC18;by_cases c19:a0_0=16
      ·rw [if_pos c19] at H;obtain ⟨c19b0,c19b1⟩:=bqt c19;clear c19;(first | rw [c19b0] | (simp only [i64_w,i32_w];rw [c19b0]) | skip);have H':=Aside0.mk H;clear H;go_wp2;go_meet
       case rel=>exact ⟨_,((a0_0 == 16)),rsd,H',⟨by have:=HJ3.out;first | omega | exact Nat.le_refl _⟩,⟨bko⟩,⟨blw⟩⟩
      ·rw [if_neg c19] at H;obtain ⟨c19b0,c19b1⟩:=bqf c19;(first | rw [c19b0] | (simp only [i64_w,i32_w];rw [c19b0]) | skip);have H':=Aside0.mk H;clear H;go_wp2;go_meet
       case rel=>exact ⟨_,((a0_0 == 26)),rsd,H',⟨by have:=HJ3.out;first | omega | exact Nat.le_refl _⟩,⟨bko⟩,⟨blw⟩⟩
     case rest =>
      clear HC18;try clear c11
      obtain ⟨kq,x16_17,rfl,HA,HJ17,BK959,HB⟩:=hcut;cases kq with
      | zero=>exact absurd HA.out (by simp [insn_Reads.j1])
      | succ kj17 =>
       have H:=HA.out;clear HA;simp only [insn_Reads.j1] at H;by_cases c20:x16_17=true
       ·subst c20;have H1:((insn_set.f kj17 (([a0_1]:List Int))).bind fun t970=>(some t970))=some r:=by rw [if_pos rfl] at H;exact H
        clear H;have H:=H1;clear H1;obtain ⟨y967,hy967⟩:∃ y_:List Int,y_=(([a0_1]:List Int)):=⟨_,rfl⟩;replace H:((insn_set.f kj17 y967).bind fun t970=>(some t970))=some r:=by first | (rw [hy967];with_reducible exact H) | (have H2_:=(Option.bind_some _ _).symm.trans H;rw [hy967];with_reducible exact H2_) | (have H2_:=(Option.bind_some _ _).symm.trans H;with_reducible exact H2_) | with_reducible exact H | (rw [hy967];exact H) | exact H
        have Ny967:=Aside0.mk hy967;clear hy967;replace H:=Option.bind_eq_some_iff.mp H;obtain ⟨t970,A210,H⟩:=H;replace H:(some t970)=some r:=H;have A21:=Aside0.mk A210;clear A210;obtain rfl:=Option.some.inj H;obtain ⟨hcz22_0,hcz22_1,hcz22_2,hcz22_3,hfz22_0,hfz22_1,hfz22_2,hfz22_3⟩:=bz4 BK959.out;go_wp2_with (first | ((with_reducible refine gate_dst (N:=21) rfl ?_);refine Kd.R_lit (Kd.int .i64) _ 3 ?hg (N:=21) ?hd (xs:=([a0_1]:List Int)) (inner:=[.int .i64 a0_1]) (ok:=fun _=>True) (okp:=fun _=>True) ?hr ?hp (fun _ hk=>hk) trivial (Below.refl _ _) (Nat.le_refl _) (by simp) ?_;(case hd=>rfl);(case hg=>rfl);(case hr=>first | (go_simp;done) | (go_simp;rfl));(case hp=>exact (Reps.one (show Kd.M (Kd.int .i64) _ _ _ a0_1 [.int .i64 a0_1] from rfl) (Reps.none _ _)));intro v968 w23 ho24 hb hg_ hnew_;clear hg_ hnew_;(first | rw [← Ny967.out] at ho24 | (simp only [Int.reduceToNat] at ho24;rw [← Ny967.out] at ho24));have n0_:=Aside0.mk (Kd.R_lower ho24 (below_size blw));have n1_:=Aside0.mk (blk_below (g:=gb959) (o:=.cells #[.int .i64 a0_0,.int .i64 a0_1,.int .i64 a0_2,.int .i64 a0_3] 23 (0,0)) bko hb);have n2_:=Aside0.mk (below_step blw hb);clear BK959;clear HB;have HO969:=n0_;have BK959:=n1_;have HB:=n2_;clear n0_ n1_ n2_;clear hb ho24;obtain ⟨Ao25,co25,eo25⟩:=Kd.R_slice HO969.out;subst eo25) | ((with_reducible refine gate_callee (f:=87) rfl ?_);refine goesL_ (some 22) rfl rfl Tryz.func87 (by kernel_rfl) rfl #[.slice Ao25 y967.length co25] rfl fq ?_;(with_reducible refine (insn_set.calls kj17 _ _ y967 t970 _ ?side1 ?side2 A21.out).mono ?_);(case side1=>repeat (first | exact (Kd.R_reads' HO969.out).2.2 | (with_reducible refine Kd.C_alloc ?_ _) | (with_reducible refine Kd.C_drewN ?_ _) | (with_reducible refine Kd.C_drew ?_)));(case side2=>exact (Kd.R_reads' HO969.out).2.1);rintro e w26 ⟨v971,rfl,ho0,hb⟩;refine ⟨_,rfl,?_⟩;have n0_:=Aside0.mk (Kd.R_elder' (by (with_reducible repeat (first | apply Kd.R_alloc | apply Kd.R_drewN | apply Kd.R_drew));exact HO969.out) (Kd.R_base ho0) hb);have n1_:=Aside0.mk (Kd.R_lower (Kd.R_new' ho0 (Kd.R_lt (by (with_reducible repeat (first | apply Kd.R_alloc | apply Kd.R_drewN | apply Kd.R_drew));exact HO969.out))) (below_size blw));have n2_:=Aside0.mk (blk_below (g:=gb959) (o:=.cells #[.int .i64 a0_0,.int .i64 a0_1,.int .i64 a0_2,.int .i64 a0_3] 23 (0,0)) bko hb);have n3_:=Aside0.mk (below_step blw hb);clear HO969;clear BK959;clear HB;have HO969:=n0_;have HO972:=n1_;have BK959:=n2_;have HB:=n3_;clear n0_ n1_ n2_ n3_;(try clear hb);(try clear hb2);(try clear hk);(try clear hi);(try clear ho0)))
        go_ret;exact ⟨_,by first | rfl | (simp [errW_none,errW_some] <;> rfl) | (simp [*,errW_none,errW_some] <;> rfl),by (with_reducible repeat (first | apply Kd.R_alloc | apply Kd.R_drewN | apply Kd.R_drew));exact Kd.R_mono HO972.out (fun _ hk=>trivial),blw⟩
       ·replace c20:=Bool.eq_false_iff.mpr c20;subst c20;have H1:(if a0_0=27 then (insn_Reads.j2 kj17 a0_0 (a0_0 == 27) a0_0 a0_1 a0_2 a0_3) else (if a0_0=29 then (insn_Reads.j2 kj17 a0_0 (a0_0 == 29) a0_0 a0_1 a0_2 a0_3) else (insn_Reads.j2 kj17 a0_0 (a0_0 == 31) a0_0 a0_1 a0_2 a0_3)))=some r:=by rw [if_neg (show ¬ (false=true) by decide)] at H;exact H
        clear H;have H:=H1;clear H1;have HC27:=Aside0.mk H;clear H;go_upto_if 23 with (fail)
        go_cut [23] (fun v23 wc=>∃ (kq:Nat) (x23_26:Bool),v23=.bool x23_26∧Aside0 (insn_Reads.j2 kq a0_0 x23_26 a0_0 a0_1 a0_2 a0_3=some r)∧Aside0 (kq≤kj17)∧Aside0 (wc.heap[gb959]?=some (.cells #[.int .i64 a0_0,.int .i64 a0_1,.int .i64 a0_2,.int .i64 a0_3] 23 (0,0)))∧Aside0 (Below w.heap.size w wc))
        case first =>
         have H:=HC27.out;clear HC27;by_cases c28:a0_0=27
         ·rw [if_pos c28] at H;obtain ⟨c28b0,c28b1⟩:=bqt c28;clear c28;(first | rw [c28b0] | (simp only [i64_w,i32_w];rw [c28b0]) | skip);have H':=Aside0.mk H;clear H;go_wp2;go_meet
          case rel=>exact ⟨_,((a0_0 == 27)),rsd,H',⟨by have:=HJ3.out;have:=HJ17.out;first | omega | exact Nat.le_refl _⟩,⟨bko⟩,⟨blw⟩⟩
         ·rw [if_neg c28] at H;obtain ⟨c28b0,c28b1⟩:=bqf c28;(first | rw [c28b0] | (simp only [i64_w,i32_w];rw [c28b0]) | skip);by_cases c29:a0_0=29
          ·rw [if_pos c29] at H;obtain ⟨c29b0,c29b1⟩:=bqt c29;clear c29;have H':=Aside0.mk H;clear H;go_wp2;go_meet
           case rel=>exact ⟨_,((a0_0 == 29)),rsd,H',⟨by have:=HJ3.out;have:=HJ17.out;first | omega | exact Nat.le_refl _⟩,⟨bko⟩,⟨blw⟩⟩
          ·rw [if_neg c29] at H;obtain ⟨c29b0,c29b1⟩:=bqf c29;have H':=Aside0.mk H;clear H;go_wp2;go_meet
           case rel=>exact ⟨_,((a0_0 == 31)),rsd,H',⟨by have:=HJ3.out;have:=HJ17.out;first | omega | exact Nat.le_refl _⟩,⟨bko⟩,⟨blw⟩⟩
        case rest =>
         clear HC27;try clear c20
         obtain ⟨kq,x23_26,rfl,HA,HJ26,BK959,HB⟩:=hcut;cases kq with
         | zero=>exact absurd HA.out (by simp [insn_Reads.j2])
         | succ kj26 =>
          have H:=HA.out;clear HA;simp only [insn_Reads.j2] at H;by_cases c30:x23_26=true
          ·subst c30;have H1:((insn_set.f kj26 (([7]:List Int))).bind fun t976=>(some t976))=some r:=by rw [if_pos rfl] at H;exact H
           clear H;have H:=H1;clear H1;obtain ⟨y973,hy973⟩:∃ y_:List Int,y_=(([7]:List Int)):=⟨_,rfl⟩;replace H:((insn_set.f kj26 y973).bind fun t976=>(some t976))=some r:=by first | (rw [hy973];with_reducible exact H) | (have H2_:=(Option.bind_some _ _).symm.trans H;rw [hy973];with_reducible exact H2_) | (have H2_:=(Option.bind_some _ _).symm.trans H;with_reducible exact H2_) | with_reducible exact H | (rw [hy973];exact H) | exact H
           have Ny973:=Aside0.mk hy973;clear hy973;replace H:=Option.bind_eq_some_iff.mp H;obtain ⟨t976,A310,H⟩:=H;replace H:(some t976)=some r:=H;have A31:=Aside0.mk A310;clear A310;obtain rfl:=Option.some.inj H;go_wp2_with (first | ((with_reducible refine gate_dst (N:=27) rfl ?_);refine Kd.R_lit (Kd.int .i64) _ 3 ?hg (N:=27) ?hd (xs:=([7]:List Int)) (inner:=[.int .i64 7]) (ok:=fun _=>True) (okp:=fun _=>True) ?hr ?hp (fun _ hk=>hk) trivial (Below.refl _ _) (Nat.le_refl _) (by simp) ?_;(case hd=>rfl);(case hg=>rfl);(case hr=>first | (go_simp;done) | (go_simp;rfl));(case hp=>exact (Reps.one (show Kd.M (Kd.int .i64) _ _ _ 7 [.int .i64 7] from rfl) (Reps.none _ _)));intro v974 w32 ho33 hb hg_ hnew_;clear hg_ hnew_;(first | rw [← Ny973.out] at ho33 | (simp only [Int.reduceToNat] at ho33;rw [← Ny973.out] at ho33));have n0_:=Aside0.mk (Kd.R_lower ho33 (below_size blw));have n1_:=Aside0.mk (blk_below (g:=gb959) (o:=.cells #[.int .i64 a0_0,.int .i64 a0_1,.int .i64 a0_2,.int .i64 a0_3] 23 (0,0)) bko hb);have n2_:=Aside0.mk (below_step blw hb);clear BK959;clear HB;have HO975:=n0_;have BK959:=n1_;have HB:=n2_;clear n0_ n1_ n2_;clear hb ho33;obtain ⟨Ao34,co34,eo34⟩:=Kd.R_slice HO975.out;subst eo34) | ((with_reducible refine gate_callee (f:=87) rfl ?_);refine goesL_ (some 28) rfl rfl Tryz.func87 (by kernel_rfl) rfl #[.slice Ao34 y973.length co34] rfl fq ?_;(with_reducible refine (insn_set.calls kj26 _ _ y973 t976 _ ?side1 ?side2 A31.out).mono ?_);(case side1=>repeat (first | exact (Kd.R_reads' HO975.out).2.2 | (with_reducible refine Kd.C_alloc ?_ _) | (with_reducible refine Kd.C_drewN ?_ _) | (with_reducible refine Kd.C_drew ?_)));(case side2=>exact (Kd.R_reads' HO975.out).2.1);rintro e w35 ⟨v977,rfl,ho0,hb⟩;refine ⟨_,rfl,?_⟩;have n0_:=Aside0.mk (Kd.R_elder' (by (with_reducible repeat (first | apply Kd.R_alloc | apply Kd.R_drewN | apply Kd.R_drew));exact HO975.out) (Kd.R_base ho0) hb);have n1_:=Aside0.mk (Kd.R_lower (Kd.R_new' ho0 (Kd.R_lt (by (with_reducible repeat (first | apply Kd.R_alloc | apply Kd.R_drewN | apply Kd.R_drew));exact HO975.out))) (below_size blw));have n2_:=Aside0.mk (blk_below (g:=gb959) (o:=.cells #[.int .i64 a0_0,.int .i64 a0_1,.int .i64 a0_2,.int .i64 a0_3] 23 (0,0)) bko hb);have n3_:=Aside0.mk (below_step blw hb);clear HO975;clear BK959;clear HB;have HO975:=n0_;have HO978:=n1_;have BK959:=n2_;have HB:=n3_;clear n0_ n1_ n2_ n3_;(try clear hb);(try clear hb2);(try clear hk);(try clear hi);(try clear ho0)))
           go_ret;exact ⟨_,by first | rfl | (simp [errW_none,errW_some] <;> rfl) | (simp [*,errW_none,errW_some] <;> rfl),by (with_reducible repeat (first | apply Kd.R_alloc | apply Kd.R_drewN | apply Kd.R_drew));exact Kd.R_mono HO978.out (fun _ hk=>trivial),blw⟩
          ·replace c30:=Bool.eq_false_iff.mpr c30;subst c30;have H1:(if a0_0=28 then (insn_Reads.j3 kj26 a0_0 (a0_0 == 28) a0_0 a0_1 a0_2 a0_3) else (insn_Reads.j3 kj26 a0_0 (a0_0 == 30) a0_0 a0_1 a0_2 a0_3))=some r:=by rw [if_neg (show ¬ (false=true) by decide)] at H;exact H
           clear H;have H:=H1;clear H1;have HC36:=Aside0.mk H;clear H;go_upto_if 29 with (fail)
           go_cut [29] (fun v29 wc=>∃ (kq:Nat) (x29_35:Bool),v29=.bool x29_35∧Aside0 (insn_Reads.j3 kq a0_0 x29_35 a0_0 a0_1 a0_2 a0_3=some r)∧Aside0 (kq≤kj26)∧Aside0 (wc.heap[gb959]?=some (.cells #[.int .i64 a0_0,.int .i64 a0_1,.int .i64 a0_2,.int .i64 a0_3] 23 (0,0)))∧Aside0 (Below w.heap.size w wc))
           case first =>
            have H:=HC36.out;clear HC36;by_cases c37:a0_0=28
            ·rw [if_pos c37] at H;obtain ⟨c37b0,c37b1⟩:=bqt c37;clear c37;(first | rw [c37b0] | (simp only [i64_w,i32_w];rw [c37b0]) | skip);have H':=Aside0.mk H;clear H;go_wp2;go_meet
             case rel=>exact ⟨_,((a0_0 == 28)),rsd,H',⟨by have:=HJ3.out;have:=HJ17.out;have:=HJ26.out;first | omega | exact Nat.le_refl _⟩,⟨bko⟩,⟨blw⟩⟩
            ·rw [if_neg c37] at H;obtain ⟨c37b0,c37b1⟩:=bqf c37;(first | rw [c37b0] | (simp only [i64_w,i32_w];rw [c37b0]) | skip);have H':=Aside0.mk H;clear H;go_wp2;go_meet
             case rel=>exact ⟨_,((a0_0 == 30)),rsd,H',⟨by have:=HJ3.out;have:=HJ17.out;have:=HJ26.out;first | omega | exact Nat.le_refl _⟩,⟨bko⟩,⟨blw⟩⟩
           case rest =>
            clear HC36;try clear c30
            obtain ⟨kq,x29_35,rfl,HA,HJ35,BK959,HB⟩:=hcut;cases kq with
            | zero=>exact absurd HA.out (by simp [insn_Reads.j3])
            | succ kj35 =>
             have H:=HA.out;clear HA;simp only [insn_Reads.j3] at H;by_cases c38:x29_35=true
             ·subst c38;have H1:((insn_set.f kj35 (([a0_1,7]:List Int))).bind fun t982=>(some t982))=some r:=by rw [if_pos rfl] at H;exact H
              clear H;have H:=H1;clear H1;obtain ⟨y979,hy979⟩:∃ y_:List Int,y_=(([a0_1,7]:List Int)):=⟨_,rfl⟩;replace H:((insn_set.f kj35 y979).bind fun t982=>(some t982))=some r:=by first | (rw [hy979];with_reducible exact H) | (have H2_:=(Option.bind_some _ _).symm.trans H;rw [hy979];with_reducible exact H2_) | (have H2_:=(Option.bind_some _ _).symm.trans H;with_reducible exact H2_) | with_reducible exact H | (rw [hy979];exact H) | exact H
              have Ny979:=Aside0.mk hy979;clear hy979;replace H:=Option.bind_eq_some_iff.mp H;obtain ⟨t982,A390,H⟩:=H;replace H:(some t982)=some r:=H;have A39:=Aside0.mk A390;clear A390;obtain rfl:=Option.some.inj H;obtain ⟨hcz40_0,hcz40_1,hcz40_2,hcz40_3,hfz40_0,hfz40_1,hfz40_2,hfz40_3⟩:=bz4 BK959.out;go_wp2_with (first | ((with_reducible refine gate_dst (N:=34) rfl ?_);refine Kd.R_lit (Kd.int .i64) _ 3 ?hg (N:=34) ?hd (xs:=([a0_1,7]:List Int)) (inner:=[.int .i64 a0_1,.int .i64 7]) (ok:=fun _=>True) (okp:=fun _=>True) ?hr ?hp (fun _ hk=>hk) trivial (Below.refl _ _) (Nat.le_refl _) (by simp) ?_;(case hd=>rfl);(case hg=>rfl);(case hr=>first | (go_simp;done) | (go_simp;rfl));(case hp=>exact (Reps.one (show Kd.M (Kd.int .i64) _ _ _ a0_1 [.int .i64 a0_1] from rfl) (Reps.one (show Kd.M (Kd.int .i64) _ _ _ 7 [.int .i64 7] from rfl) (Reps.none _ _))));intro v980 w41 ho42 hb hg_ hnew_;clear hg_ hnew_;(first | rw [← Ny979.out] at ho42 | (simp only [Int.reduceToNat] at ho42;rw [← Ny979.out] at ho42));have n0_:=Aside0.mk (Kd.R_lower ho42 (below_size blw));have n1_:=Aside0.mk (blk_below (g:=gb959) (o:=.cells #[.int .i64 a0_0,.int .i64 a0_1,.int .i64 a0_2,.int .i64 a0_3] 23 (0,0)) bko hb);have n2_:=Aside0.mk (below_step blw hb);clear BK959;clear HB;have HO981:=n0_;have BK959:=n1_;have HB:=n2_;clear n0_ n1_ n2_;clear hb ho42;obtain ⟨Ao43,co43,eo43⟩:=Kd.R_slice HO981.out;subst eo43) | ((with_reducible refine gate_callee (f:=87) rfl ?_);refine goesL_ (some 35) rfl rfl Tryz.func87 (by kernel_rfl) rfl #[.slice Ao43 y979.length co43] rfl fq ?_;(with_reducible refine (insn_set.calls kj35 _ _ y979 t982 _ ?side1 ?side2 A39.out).mono ?_);(case side1=>repeat (first | exact (Kd.R_reads' HO981.out).2.2 | (with_reducible refine Kd.C_alloc ?_ _) | (with_reducible refine Kd.C_drewN ?_ _) | (with_reducible refine Kd.C_drew ?_)));(case side2=>exact (Kd.R_reads' HO981.out).2.1);rintro e w44 ⟨v983,rfl,ho0,hb⟩;refine ⟨_,rfl,?_⟩;have n0_:=Aside0.mk (Kd.R_elder' (by (with_reducible repeat (first | apply Kd.R_alloc | apply Kd.R_drewN | apply Kd.R_drew));exact HO981.out) (Kd.R_base ho0) hb);have n1_:=Aside0.mk (Kd.R_lower (Kd.R_new' ho0 (Kd.R_lt (by (with_reducible repeat (first | apply Kd.R_alloc | apply Kd.R_drewN | apply Kd.R_drew));exact HO981.out))) (below_size blw));have n2_:=Aside0.mk (blk_below (g:=gb959) (o:=.cells #[.int .i64 a0_0,.int .i64 a0_1,.int .i64 a0_2,.int .i64 a0_3] 23 (0,0)) bko hb);have n3_:=Aside0.mk (below_step blw hb);clear HO981;clear BK959;clear HB;have HO981:=n0_;have HO984:=n1_;have BK959:=n2_;have HB:=n3_;clear n0_ n1_ n2_ n3_;(try clear hb);(try clear hb2);(try clear hk);(try clear hi);(try clear ho0)))
              go_ret;exact ⟨_,by first | rfl | (simp [errW_none,errW_some] <;> rfl) | (simp [*,errW_none,errW_some] <;> rfl),by (with_reducible repeat (first | apply Kd.R_alloc | apply Kd.R_drewN | apply Kd.R_drew));exact Kd.R_mono HO984.out (fun _ hk=>trivial),blw⟩
             ·replace c38:=Bool.eq_false_iff.mpr c38;subst c38;have H1:(if a0_0=19 then (insn_Reads.j4 kj35 (a0_0 == 19) a0_0 a0_1 a0_2 a0_3) else (if a0_0=20 then (insn_Reads.j4 kj35 (a0_0 == 20) a0_0 a0_1 a0_2 a0_3) else (if a0_0=21 then (insn_Reads.j4 kj35 (a0_0 == 21) a0_0 a0_1 a0_2 a0_3) else (if a0_0=22 then (insn_Reads.j4 kj35 (a0_0 == 22) a0_0 a0_1 a0_2 a0_3) else (if a0_0=23 then (insn_Reads.j4 kj35 (a0_0 == 23) a0_0 a0_1 a0_2 a0_3) else (if a0_0=24 then (insn_Reads.j4 kj35 (a0_0 == 24) a0_0 a0_1 a0_2 a0_3) else (insn_Reads.j4 kj35 (a0_0 == 34) a0_0 a0_1 a0_2 a0_3)))))))=some r:=by rw [if_neg (show ¬ (false=true) by decide)] at H;exact H
              clear H;have H:=H1;clear H1;have HC45:=Aside0.mk H;clear H;go_upto_if 36 with (fail)
              go_cut [36] (fun v36 wc=>∃ (kq:Nat) (x36_44:Bool),v36=.bool x36_44∧Aside0 (insn_Reads.j4 kq x36_44 a0_0 a0_1 a0_2 a0_3=some r)∧Aside0 (kq≤kj35)∧Aside0 (wc.heap[gb959]?=some (.cells #[.int .i64 a0_0,.int .i64 a0_1,.int .i64 a0_2,.int .i64 a0_3] 23 (0,0)))∧Aside0 (Below w.heap.size w wc))
              case first =>
               have H:=HC45.out;clear HC45;by_cases c46:a0_0=19
               ·rw [if_pos c46] at H;obtain ⟨c46b0,c46b1⟩:=bqt c46;clear c46;(first | rw [c46b0] | (simp only [i64_w,i32_w];rw [c46b0]) | skip);have H':=Aside0.mk H;clear H;go_wp2;go_meet
                case rel=>exact ⟨_,((a0_0 == 19)),rsd,H',⟨by have:=HJ3.out;have:=HJ17.out;have:=HJ26.out;have:=HJ35.out;first | omega | exact Nat.le_refl _⟩,⟨bko⟩,⟨blw⟩⟩
               ·rw [if_neg c46] at H;obtain ⟨c46b0,c46b1⟩:=bqf c46;(first | rw [c46b0] | (simp only [i64_w,i32_w];rw [c46b0]) | skip);by_cases c47:a0_0=20
                ·rw [if_pos c47] at H;obtain ⟨c47b0,c47b1⟩:=bqt c47;clear c47;have H':=Aside0.mk H;clear H;go_wp2;go_meet
                 case rel=>exact ⟨_,((a0_0 == 20)),rsd,H',⟨by have:=HJ3.out;have:=HJ17.out;have:=HJ26.out;have:=HJ35.out;first | omega | exact Nat.le_refl _⟩,⟨bko⟩,⟨blw⟩⟩
                ·rw [if_neg c47] at H;obtain ⟨c47b0,c47b1⟩:=bqf c47;by_cases c48:a0_0=21
                 ·rw [if_pos c48] at H;obtain ⟨c48b0,c48b1⟩:=bqt c48;clear c48;have H':=Aside0.mk H;clear H;go_wp2;go_meet
                  case rel=>exact ⟨_,((a0_0 == 21)),rsd,H',⟨by have:=HJ3.out;have:=HJ17.out;have:=HJ26.out;have:=HJ35.out;first | omega | exact Nat.le_refl _⟩,⟨bko⟩,⟨blw⟩⟩
                 ·rw [if_neg c48] at H;obtain ⟨c48b0,c48b1⟩:=bqf c48;by_cases c49:a0_0=22
                  ·rw [if_pos c49] at H;obtain ⟨c49b0,c49b1⟩:=bqt c49;clear c49;have H':=Aside0.mk H;clear H;go_wp2;go_meet
                   case rel=>exact ⟨_,((a0_0 == 22)),rsd,H',⟨by have:=HJ3.out;have:=HJ17.out;have:=HJ26.out;have:=HJ35.out;first | omega | exact Nat.le_refl _⟩,⟨bko⟩,⟨blw⟩⟩
                  ·rw [if_neg c49] at H;obtain ⟨c49b0,c49b1⟩:=bqf c49;by_cases c50:a0_0=23
                   ·rw [if_pos c50] at H;obtain ⟨c50b0,c50b1⟩:=bqt c50;clear c50;have H':=Aside0.mk H;clear H;go_wp2;go_meet
                    case rel=>exact ⟨_,((a0_0 == 23)),rsd,H',⟨by have:=HJ3.out;have:=HJ17.out;have:=HJ26.out;have:=HJ35.out;first | omega | exact Nat.le_refl _⟩,⟨bko⟩,⟨blw⟩⟩
                   ·rw [if_neg c50] at H;obtain ⟨c50b0,c50b1⟩:=bqf c50;by_cases c51:a0_0=24
                    ·rw [if_pos c51] at H;obtain ⟨c51b0,c51b1⟩:=bqt c51;clear c51;have H':=Aside0.mk H;clear H;go_wp2;go_meet
                     case rel=>exact ⟨_,((a0_0 == 24)),rsd,H',⟨by have:=HJ3.out;have:=HJ17.out;have:=HJ26.out;have:=HJ35.out;first | omega | exact Nat.le_refl _⟩,⟨bko⟩,⟨blw⟩⟩
                    ·rw [if_neg c51] at H;obtain ⟨c51b0,c51b1⟩:=bqf c51;have H':=Aside0.mk H;clear H;go_wp2;go_meet
                     case rel=>exact ⟨_,((a0_0 == 34)),rsd,H',⟨by have:=HJ3.out;have:=HJ17.out;have:=HJ26.out;have:=HJ35.out;first | omega | exact Nat.le_refl _⟩,⟨bko⟩,⟨blw⟩⟩
              case rest =>
               clear HC45;try clear c38
               obtain ⟨kq,x36_44,rfl,HA,HJ44,BK959,HB⟩:=hcut;cases kq with
               | zero=>exact absurd HA.out (by simp [insn_Reads.j4])
               | succ kj44 =>
                have H:=HA.out;clear HA;simp only [insn_Reads.j4] at H;by_cases c52:x36_44=true
                ·subst c52;have H1:((insn_set.f kj44 (([a0_1,a0_2]:List Int))).bind fun t988=>(some t988))=some r:=by rw [if_pos rfl] at H;exact H
                 clear H;have H:=H1;clear H1;obtain ⟨y985,hy985⟩:∃ y_:List Int,y_=(([a0_1,a0_2]:List Int)):=⟨_,rfl⟩;replace H:((insn_set.f kj44 y985).bind fun t988=>(some t988))=some r:=by first | (rw [hy985];with_reducible exact H) | (have H2_:=(Option.bind_some _ _).symm.trans H;rw [hy985];with_reducible exact H2_) | (have H2_:=(Option.bind_some _ _).symm.trans H;with_reducible exact H2_) | with_reducible exact H | (rw [hy985];exact H) | exact H
                 have Ny985:=Aside0.mk hy985;clear hy985;replace H:=Option.bind_eq_some_iff.mp H;obtain ⟨t988,A530,H⟩:=H;replace H:(some t988)=some r:=H;have A53:=Aside0.mk A530;clear A530;obtain rfl:=Option.some.inj H;obtain ⟨hcz54_0,hcz54_1,hcz54_2,hcz54_3,hfz54_0,hfz54_1,hfz54_2,hfz54_3⟩:=bz4 BK959.out;go_wp2_with (first | ((with_reducible refine gate_dst (N:=48) rfl ?_);refine Kd.R_lit (Kd.int .i64) _ 3 ?hg (N:=48) ?hd (xs:=([a0_1,a0_2]:List Int)) (inner:=[.int .i64 a0_1,.int .i64 a0_2]) (ok:=fun _=>True) (okp:=fun _=>True) ?hr ?hp (fun _ hk=>hk) trivial (Below.refl _ _) (Nat.le_refl _) (by simp) ?_;(case hd=>rfl);(case hg=>rfl);(case hr=>first | (go_simp;done) | (go_simp;rfl));(case hp=>exact (Reps.one (show Kd.M (Kd.int .i64) _ _ _ a0_1 [.int .i64 a0_1] from rfl) (Reps.one (show Kd.M (Kd.int .i64) _ _ _ a0_2 [.int .i64 a0_2] from rfl) (Reps.none _ _))));intro v986 w55 ho56 hb hg_ hnew_;clear hg_ hnew_;(first | rw [← Ny985.out] at ho56 | (simp only [Int.reduceToNat] at ho56;rw [← Ny985.out] at ho56));have n0_:=Aside0.mk (Kd.R_lower ho56 (below_size blw));have n1_:=Aside0.mk (blk_below (g:=gb959) (o:=.cells #[.int .i64 a0_0,.int .i64 a0_1,.int .i64 a0_2,.int .i64 a0_3] 23 (0,0)) bko hb);have n2_:=Aside0.mk (below_step blw hb);clear BK959;clear HB;have HO987:=n0_;have BK959:=n1_;have HB:=n2_;clear n0_ n1_ n2_;clear hb ho56;obtain ⟨Ao57,co57,eo57⟩:=Kd.R_slice HO987.out;subst eo57) | ((with_reducible refine gate_callee (f:=87) rfl ?_);refine goesL_ (some 49) rfl rfl Tryz.func87 (by kernel_rfl) rfl #[.slice Ao57 y985.length co57] rfl fq ?_;(with_reducible refine (insn_set.calls kj44 _ _ y985 t988 _ ?side1 ?side2 A53.out).mono ?_);(case side1=>repeat (first | exact (Kd.R_reads' HO987.out).2.2 | (with_reducible refine Kd.C_alloc ?_ _) | (with_reducible refine Kd.C_drewN ?_ _) | (with_reducible refine Kd.C_drew ?_)));(case side2=>exact (Kd.R_reads' HO987.out).2.1);rintro e w58 ⟨v989,rfl,ho0,hb⟩;refine ⟨_,rfl,?_⟩;have n0_:=Aside0.mk (Kd.R_elder' (by (with_reducible repeat (first | apply Kd.R_alloc | apply Kd.R_drewN | apply Kd.R_drew));exact HO987.out) (Kd.R_base ho0) hb);have n1_:=Aside0.mk (Kd.R_lower (Kd.R_new' ho0 (Kd.R_lt (by (with_reducible repeat (first | apply Kd.R_alloc | apply Kd.R_drewN | apply Kd.R_drew));exact HO987.out))) (below_size blw));have n2_:=Aside0.mk (blk_below (g:=gb959) (o:=.cells #[.int .i64 a0_0,.int .i64 a0_1,.int .i64 a0_2,.int .i64 a0_3] 23 (0,0)) bko hb);have n3_:=Aside0.mk (below_step blw hb);clear HO987;clear BK959;clear HB;have HO987:=n0_;have HO990:=n1_;have BK959:=n2_;have HB:=n3_;clear n0_ n1_ n2_ n3_;(try clear hb);(try clear hb2);(try clear hk);(try clear hi);(try clear ho0)))
                 go_ret;exact ⟨_,by first | rfl | (simp [errW_none,errW_some] <;> rfl) | (simp [*,errW_none,errW_some] <;> rfl),by (with_reducible repeat (first | apply Kd.R_alloc | apply Kd.R_drewN | apply Kd.R_drew));exact Kd.R_mono HO990.out (fun _ hk=>trivial),blw⟩
                ·replace c52:=Bool.eq_false_iff.mpr c52;subst c52;have H1:(if a0_0≥5 then (if a0_0≤15 then ((insn_set.f kj44 (([a0_1,a0_2]:List Int))).bind fun t994=>(some t994)) else (some ([]:List Int))) else (some ([]:List Int)))=some r:=by rw [if_neg (show ¬ (false=true) by decide)] at H;exact H
                 clear H;have H:=H1;clear H1;by_cases c59:a0_0≥5
                 ·rw [if_pos c59] at H;have c59b0:decide (5≤a0_0)=true:=decide_eq_true c59;clear c59;by_cases c60:a0_0≤15
                  ·rw [if_pos c60] at H;have c60b0:=decide_eq_true c60;clear c60;obtain ⟨y991,hy991⟩:∃ y_:List Int,y_=(([a0_1,a0_2]:List Int)):=⟨_,rfl⟩;replace H:((insn_set.f kj44 y991).bind fun t994=>(some t994))=some r:=by first | (rw [hy991];with_reducible exact H) | (have H2_:=(Option.bind_some _ _).symm.trans H;rw [hy991];with_reducible exact H2_) | (have H2_:=(Option.bind_some _ _).symm.trans H;with_reducible exact H2_) | with_reducible exact H | (rw [hy991];exact H) | exact H
                   have Ny991:=Aside0.mk hy991;clear hy991;replace H:=Option.bind_eq_some_iff.mp H;obtain ⟨t994,A610,H⟩:=H;replace H:(some t994)=some r:=H;have A61:=Aside0.mk A610;clear A610;obtain rfl:=Option.some.inj H;obtain ⟨hcz62_0,hcz62_1,hcz62_2,hcz62_3,hfz62_0,hfz62_1,hfz62_2,hfz62_3⟩:=bz4 BK959.out;go_wp2_with (first | ((with_reducible refine gate_dst (N:=62) rfl ?_);refine Kd.R_lit (Kd.int .i64) _ 3 ?hg (N:=62) ?hd (xs:=([a0_1,a0_2]:List Int)) (inner:=[.int .i64 a0_1,.int .i64 a0_2]) (ok:=fun _=>True) (okp:=fun _=>True) ?hr ?hp (fun _ hk=>hk) trivial (Below.refl _ _) (Nat.le_refl _) (by simp) ?_;(case hd=>rfl);(case hg=>rfl);(case hr=>first | (go_simp;done) | (go_simp;rfl));(case hp=>exact (Reps.one (show Kd.M (Kd.int .i64) _ _ _ a0_1 [.int .i64 a0_1] from rfl) (Reps.one (show Kd.M (Kd.int .i64) _ _ _ a0_2 [.int .i64 a0_2] from rfl) (Reps.none _ _))));intro v992 w63 ho64 hb hg_ hnew_;clear hg_ hnew_;(first | rw [← Ny991.out] at ho64 | (simp only [Int.reduceToNat] at ho64;rw [← Ny991.out] at ho64));have n0_:=Aside0.mk (Kd.R_lower ho64 (below_size blw));have n1_:=Aside0.mk (blk_below (g:=gb959) (o:=.cells #[.int .i64 a0_0,.int .i64 a0_1,.int .i64 a0_2,.int .i64 a0_3] 23 (0,0)) bko hb);have n2_:=Aside0.mk (below_step blw hb);clear BK959;clear HB;have HO993:=n0_;have BK959:=n1_;have HB:=n2_;clear n0_ n1_ n2_;clear hb ho64;obtain ⟨Ao65,co65,eo65⟩:=Kd.R_slice HO993.out;subst eo65) | ((with_reducible refine gate_callee (f:=87) rfl ?_);refine goesL_ (some 63) rfl rfl Tryz.func87 (by kernel_rfl) rfl #[.slice Ao65 y991.length co65] rfl fq ?_;(with_reducible refine (insn_set.calls kj44 _ _ y991 t994 _ ?side1 ?side2 A61.out).mono ?_);(case side1=>repeat (first | exact (Kd.R_reads' HO993.out).2.2 | (with_reducible refine Kd.C_alloc ?_ _) | (with_reducible refine Kd.C_drewN ?_ _) | (with_reducible refine Kd.C_drew ?_)));(case side2=>exact (Kd.R_reads' HO993.out).2.1);rintro e w66 ⟨v995,rfl,ho0,hb⟩;refine ⟨_,rfl,?_⟩;have n0_:=Aside0.mk (Kd.R_elder' (by (with_reducible repeat (first | apply Kd.R_alloc | apply Kd.R_drewN | apply Kd.R_drew));exact HO993.out) (Kd.R_base ho0) hb);have n1_:=Aside0.mk (Kd.R_lower (Kd.R_new' ho0 (Kd.R_lt (by (with_reducible repeat (first | apply Kd.R_alloc | apply Kd.R_drewN | apply Kd.R_drew));exact HO993.out))) (below_size blw));have n2_:=Aside0.mk (blk_below (g:=gb959) (o:=.cells #[.int .i64 a0_0,.int .i64 a0_1,.int .i64 a0_2,.int .i64 a0_3] 23 (0,0)) bko hb);have n3_:=Aside0.mk (below_step blw hb);clear HO993;clear BK959;clear HB;have HO993:=n0_;have HO996:=n1_;have BK959:=n2_;have HB:=n3_;clear n0_ n1_ n2_ n3_;(try clear hb);(try clear hb2);(try clear hk);(try clear hi);(try clear ho0)))
                   go_ret;exact ⟨_,by first | rfl | (simp [errW_none,errW_some] <;> rfl) | (simp [*,errW_none,errW_some] <;> rfl),by (with_reducible repeat (first | apply Kd.R_alloc | apply Kd.R_drewN | apply Kd.R_drew));exact Kd.R_mono HO996.out (fun _ hk=>trivial),blw⟩
                  ·rw [if_neg c60] at H;have c60b0:=decide_eq_false c60;clear c60;obtain rfl:=Option.some.inj H;obtain ⟨hcz67_0,hcz67_1,hcz67_2,hcz67_3,hfz67_0,hfz67_1,hfz67_2,hfz67_3⟩:=bz4 BK959.out;go_wp2;go_ret;exact ⟨_,by first | rfl | (simp [errW_none,errW_some] <;> rfl) | (simp [*,errW_none,errW_some] <;> rfl),by first | exact Kd.R_nil _ _ _ _ _ | exact Kd.N_nil _ _ _ _ _ | exact Kd.V_nil _ _ _ _ _ | exact Kd.Q_nil _ _ _ _ _ | exact Kd.S_nil _ _ _ _ _,blw⟩
                 ·rw [if_neg c59] at H;have c59b0:decide (5≤a0_0)=false:=decide_eq_false c59;clear c59;obtain rfl:=Option.some.inj H;obtain ⟨hcz68_0,hcz68_1,hcz68_2,hcz68_3,hfz68_0,hfz68_1,hfz68_2,hfz68_3⟩:=bz4 BK959.out;go_wp2;go_ret;exact ⟨_,by first | rfl | (simp [errW_none,errW_some] <;> rfl) | (simp [*,errW_none,errW_some] <;> rfl),by first | exact Kd.R_nil _ _ _ _ _ | exact Kd.N_nil _ _ _ _ _ | exact Kd.V_nil _ _ _ _ _ | exact Kd.Q_nil _ _ _ _ _ | exact Kd.S_nil _ _ _ _ _,blw⟩
 ·rw [if_neg c3] at H;obtain ⟨c3b0,c3b1⟩:=bqf c3;obtain rfl:=Option.some.inj H;go_enter Tryz.func46,Tryz.ntmps46
  go_wp2_with (first | ((with_reducible refine gate_dst (N:=1) rfl ?_);refine box_event ?hg (N:=1) ?hd (cs:=#[.int .i64 a0_0,.int .i64 a0_1,.int .i64 a0_2,.int .i64 a0_3]) (t:=23) ?hr ?_;(case hd=>rfl);(case hg=>rfl);(case hr=>first | (go_simp;done) | (go_simp;rfl));intro gb959 hg w69 hbox hb;have n0_:=Aside0.mk (below_step blw hb);have n1_:=Aside0.mk (hbox);have n2_:=Aside0.mk ((by rw [hg];exact (below_size blw):w.heap.size≤gb959));have n3_:=Aside0.mk ((by rw [hg];exact (below_size blw):w.heap.size≤gb959));clear HB;have HB:=n0_;have BK959:=n1_;have GW959:=n2_;have GE959:=n3_;clear n0_ n1_ n2_ n3_;clear hb hbox hg;obtain ⟨hcz70_0,hcz70_1,hcz70_2,hcz70_3,hfz70_0,hfz70_1,hfz70_2,hfz70_3⟩:=bz4 BK959.out) | ((with_reducible refine gate_callee (f:=31) rfl ?_);refine goesL_ (some 4) rfl rfl Tryz.func31 (by kernel_rfl) rfl #[.agg #[.int .i64 a0_0,.int .i64 a0_1,.int .i64 a0_2,.int .i64 a0_3]] rfl fq ?_;(with_reducible refine (insn_Check.calls k a0_0 a0_1 a0_2 a0_3 t960 _ A2.out gwy).mono ?_);rintro e w71 ⟨rfl,hb⟩;refine ⟨_,rfl,?_⟩;have n0_:=Aside0.mk (blk_below (g:=gb959) (o:=.cells #[.int .i64 a0_0,.int .i64 a0_1,.int .i64 a0_2,.int .i64 a0_3] 23 (0,0)) bko hb);have n1_:=Aside0.mk (below_step blw hb);clear BK959;clear HB;have BK959:=n0_;have HB:=n1_;clear n0_ n1_;(try clear hb);(try clear hb2);(try clear hk);(try clear hi)))
  go_ret;exact ⟨_,by first | rfl | (simp [errW_none,errW_some] <;> rfl) | (simp [*,errW_none,errW_some] <;> rfl),by first | exact Kd.R_nil _ _ _ _ _ | exact Kd.N_nil _ _ _ _ _ | exact Kd.V_nil _ _ _ _ _ | exact Kd.Q_nil _ _ _ _ _ | exact Kd.S_nil _ _ _ _ _,blw⟩
end Go.Proofs.YtffojmgmpfjlhaaGreatDoor.Q
