/- Parts of the proof: see the last text -/
import Derived.Test.YtffojmgmpfjlhaaGreatDoorInsS7
set_option maxHeartbeats 8000000
set_option maxRecDepth 100000
set_option linter.unusedVariables false
set_option linter.unusedSimpArgs false
namespace Go.Proofs.YtffojmgmpfjlhaaGreatDoor.Q
open Go.Proofs.YtffojmgmpfjlhaaGreatDoor Go.RowKit Go.Proofs.YtffojmgmpfjlhaaGreatDoorW.PrintWords Go.Proofs.YtffojmgmpfjlhaaGreatDoorW.PrintLast Go.Proofs.YtffojmgmpfjlhaaGreatDoorW.PrintMore
attribute [local go_sem] max2_int min2_int max_two min_two max_three min_three max_four min_four
mutual
def insn_words.j0:Nat→ByteArray→ByteArray→ByteArray→Int→Bool→Int→Int→Int→Int→Option (List ByteArray)
 | 0,_,_,_,_,_,_,_,_,_=>none
 | k+1,x3,x4,x5,x16,x17,x171000,x171001,x171002,x171003=>if x17=true then (some (([x3,x5]:List ByteArray))) else (if x16=17 then (insn_words.j1 k x3 x4 x5 x16 (x16 == 17) x171000 x171001 x171002 x171003) else (insn_words.j1 k x3 x4 x5 x16 (x16 == 18) x171000 x171001 x171002 x171003))
def insn_words.j1:Nat→ByteArray→ByteArray→ByteArray→Int→Bool→Int→Int→Int→Int→Option (List ByteArray)
 | 0,_,_,_,_,_,_,_,_,_=>none
 | k+1,x3,x4,x5,x16,x24,x171000,x171001,x171002,x171003=>if x24=true then ((insn_address.f x171000 x171001 x171002 x171003).bind fun t177=>(some (([x3,t177]:List ByteArray)))) else (if x16=19 then (insn_words.j2 k x3 x4 x5 x16 (x16 == 19) x171000 x171001 x171002 x171003) else (insn_words.j2 k x3 x4 x5 x16 (x16 == 20) x171000 x171001 x171002 x171003))
def insn_words.j2:Nat→ByteArray→ByteArray→ByteArray→Int→Bool→Int→Int→Int→Int→Option (List ByteArray)
 | 0,_,_,_,_,_,_,_,_,_=>none
 | k+1,x3,x4,x5,x16,x31,x171000,x171001,x171002,x171003=>if x31=true then ((insn_address.f x171000 x171001 x171002 x171003).bind fun t181=>(some (([t181,x3]:List ByteArray)))) else (if x16=21 then (insn_words.j3 k x3 x4 x5 x16 (x16 == 21) x171000 x171001 x171002 x171003) else (if x16=22 then (insn_words.j3 k x3 x4 x5 x16 (x16 == 22) x171000 x171001 x171002 x171003) else (if x16=23 then (insn_words.j3 k x3 x4 x5 x16 (x16 == 23) x171000 x171001 x171002 x171003) else (insn_words.j3 k x3 x4 x5 x16 (x16 == 24) x171000 x171001 x171002 x171003))))
def insn_words.j3:Nat→ByteArray→ByteArray→ByteArray→Int→Bool→Int→Int→Int→Int→Option (List ByteArray)
 | 0,_,_,_,_,_,_,_,_,_=>none
 | k+1,x3,x4,x5,x16,x38,x171000,x171001,x171002,x171003=>if x38=true then ((insn_distance.f x171003).bind fun t185=>(some (([x3,x4,t185]:List ByteArray)))) else (if x16=25 then (insn_words.j4 k x3 x4 x5 x16 (x16 == 25) x171000 x171001 x171002 x171003) else (insn_words.j4 k x3 x4 x5 x16 (x16 == 27) x171000 x171001 x171002 x171003))
def insn_words.j4:Nat→ByteArray→ByteArray→ByteArray→Int→Bool→Int→Int→Int→Int→Option (List ByteArray)
 | 0,_,_,_,_,_,_,_,_,_=>none
 | k+1,x3,x4,x5,x16,x49,x171000,x171001,x171002,x171003=>if x49=true then ((insn_distance.f x171003).bind fun t189=>(some (([t189]:List ByteArray)))) else (if x16=32 then ((insn_distance.f x171003).bind fun t193=>(some (([x3,t193]:List ByteArray)))) else (if x16=33 then (some (([x5]:List ByteArray))) else (if x16=34 then (if 1+x4.size≤9223372036854775807 then (if ((⟨#[91]⟩:zB) ++ x4).size+1≤9223372036854775807 then (some (([x3,((⟨#[91]⟩:zB) ++ x4) ++ (⟨#[93]⟩:zB)]:List ByteArray))) else (none)) else (none)) else ((insn_kindOf.f x171000).bind fun bt203=>(if bt203.2=1 then (some (([x3,x4]:List ByteArray))) else (if bt203.2=2 then (some (([x3]:List ByteArray))) else (some ([]:List ByteArray))))))))
end
def insn_words.f (k:Nat) (a0_0:Int) (a0_1:Int) (a0_2:Int) (a0_3:Int):Option (List ByteArray):=(insn_register.f a0_1).bind fun t171=>((insn_register.f a0_2).bind fun t172=>((strconv_FormatInt.f a0_3 10).bind fun t173=>(if a0_0=3 then (insn_words.j0 k t171 t172 t173 a0_0 (a0_0 == 3) a0_0 a0_1 a0_2 a0_3) else (if a0_0=4 then (insn_words.j0 k t171 t172 t173 a0_0 (a0_0 == 4) a0_0 a0_1 a0_2 a0_3) else (insn_words.j0 k t171 t172 t173 a0_0 (a0_0 == 16) a0_0 a0_1 a0_2 a0_3)))))
theorem insn_words.mono_l:∀ k,(∀ y0 y1 y2 y3 y4 y5 y6 y7 y8,LeO (insn_words.j0 k y0 y1 y2 y3 y4 y5 y6 y7 y8) (insn_words.j0 (k+1) y0 y1 y2 y3 y4 y5 y6 y7 y8))∧(∀ y0 y1 y2 y3 y4 y5 y6 y7 y8,LeO (insn_words.j1 k y0 y1 y2 y3 y4 y5 y6 y7 y8) (insn_words.j1 (k+1) y0 y1 y2 y3 y4 y5 y6 y7 y8))∧(∀ y0 y1 y2 y3 y4 y5 y6 y7 y8,LeO (insn_words.j2 k y0 y1 y2 y3 y4 y5 y6 y7 y8) (insn_words.j2 (k+1) y0 y1 y2 y3 y4 y5 y6 y7 y8))∧(∀ y0 y1 y2 y3 y4 y5 y6 y7 y8,LeO (insn_words.j3 k y0 y1 y2 y3 y4 y5 y6 y7 y8) (insn_words.j3 (k+1) y0 y1 y2 y3 y4 y5 y6 y7 y8))∧(∀ y0 y1 y2 y3 y4 y5 y6 y7 y8,LeO (insn_words.j4 k y0 y1 y2 y3 y4 y5 y6 y7 y8) (insn_words.j4 (k+1) y0 y1 y2 y3 y4 y5 y6 y7 y8))
 | 0=>⟨fun _ _ _ _ _ _ _ _ _ r h=>by simp [insn_words.j0] at h,fun _ _ _ _ _ _ _ _ _ r h=>by simp [insn_words.j1] at h,fun _ _ _ _ _ _ _ _ _ r h=>by simp [insn_words.j2] at h,fun _ _ _ _ _ _ _ _ _ r h=>by simp [insn_words.j3] at h,fun _ _ _ _ _ _ _ _ _ r h=>by simp [insn_words.j4] at h⟩
 | k+1=>by
  obtain ⟨ih0,ih1,ih2,ih3,ih4⟩:=insn_words.mono_l k;refine ⟨?_,?_,?_,?_,?_⟩
  ·intro y0 y1 y2 y3 y4 y5 y6 y7 y8;unfold insn_words.j0;repeat' first
   | (with_reducible exact ih0 _ _ _ _ _ _ _ _ _)
   | (with_reducible exact ih1 _ _ _ _ _ _ _ _ _)
   | (with_reducible exact ih2 _ _ _ _ _ _ _ _ _)
   | (with_reducible exact ih3 _ _ _ _ _ _ _ _ _)
   | (with_reducible exact ih4 _ _ _ _ _ _ _ _ _)
   | (with_reducible exact LeO.refl _)
   | (with_reducible exact LeO.none _)
   | (with_reducible refine LeO.ite ?_ ?_)
   | (with_reducible refine LeO.bind ?_ (fun _=>?_))
   | exact LeO.none _
   | refine LeO.ite ?_ ?_
   | refine LeO.bind ?_ (fun _=>?_)
  ·intro y0 y1 y2 y3 y4 y5 y6 y7 y8;unfold insn_words.j1;repeat' first
   | (with_reducible exact ih0 _ _ _ _ _ _ _ _ _)
   | (with_reducible exact ih1 _ _ _ _ _ _ _ _ _)
   | (with_reducible exact ih2 _ _ _ _ _ _ _ _ _)
   | (with_reducible exact ih3 _ _ _ _ _ _ _ _ _)
   | (with_reducible exact ih4 _ _ _ _ _ _ _ _ _)
   | (with_reducible exact LeO.refl _)
   | (with_reducible exact LeO.none _)
   | (with_reducible refine LeO.ite ?_ ?_)
   | (with_reducible refine LeO.bind ?_ (fun _=>?_))
   | exact LeO.none _
   | refine LeO.ite ?_ ?_
   | refine LeO.bind ?_ (fun _=>?_)
  ·intro y0 y1 y2 y3 y4 y5 y6 y7 y8;unfold insn_words.j2;repeat' first
   | (with_reducible exact ih0 _ _ _ _ _ _ _ _ _)
   | (with_reducible exact ih1 _ _ _ _ _ _ _ _ _)
   | (with_reducible exact ih2 _ _ _ _ _ _ _ _ _)
   | (with_reducible exact ih3 _ _ _ _ _ _ _ _ _)
   | (with_reducible exact ih4 _ _ _ _ _ _ _ _ _)
   | (with_reducible exact LeO.refl _)
   | (with_reducible exact LeO.none _)
   | (with_reducible refine LeO.ite ?_ ?_)
   | (with_reducible refine LeO.bind ?_ (fun _=>?_))
   | exact LeO.none _
   | refine LeO.ite ?_ ?_
   | refine LeO.bind ?_ (fun _=>?_)
  ·intro y0 y1 y2 y3 y4 y5 y6 y7 y8;unfold insn_words.j3;repeat' first
   | (with_reducible exact ih0 _ _ _ _ _ _ _ _ _)
   | (with_reducible exact ih1 _ _ _ _ _ _ _ _ _)
   | (with_reducible exact ih2 _ _ _ _ _ _ _ _ _)
   | (with_reducible exact ih3 _ _ _ _ _ _ _ _ _)
   | (with_reducible exact ih4 _ _ _ _ _ _ _ _ _)
   | (with_reducible exact LeO.refl _)
   | (with_reducible exact LeO.none _)
   | (with_reducible refine LeO.ite ?_ ?_)
   | (with_reducible refine LeO.bind ?_ (fun _=>?_))
   | exact LeO.none _
   | refine LeO.ite ?_ ?_
   | refine LeO.bind ?_ (fun _=>?_)
  ·intro y0 y1 y2 y3 y4 y5 y6 y7 y8;unfold insn_words.j4;repeat' first
   | (with_reducible exact ih0 _ _ _ _ _ _ _ _ _)
   | (with_reducible exact ih1 _ _ _ _ _ _ _ _ _)
   | (with_reducible exact ih2 _ _ _ _ _ _ _ _ _)
   | (with_reducible exact ih3 _ _ _ _ _ _ _ _ _)
   | (with_reducible exact ih4 _ _ _ _ _ _ _ _ _)
   | (with_reducible exact LeO.refl _)
   | (with_reducible exact LeO.none _)
   | (with_reducible refine LeO.ite ?_ ?_)
   | (with_reducible refine LeO.bind ?_ (fun _=>?_))
   | exact LeO.none _
   | refine LeO.ite ?_ ?_
   | refine LeO.bind ?_ (fun _=>?_)
theorem insn_words.mono:∀ a0 a1 a2 a3 k,LeO (insn_words.f k a0 a1 a2 a3) (insn_words.f (k+1) a0 a1 a2 a3):=by
 intro a0 a1 a2 a3 k;obtain ⟨ih0,ih1,ih2,ih3,ih4⟩:=insn_words.mono_l k;unfold insn_words.f;repeat' first
   | (with_reducible exact ih0 _ _ _ _ _ _ _ _ _)
   | (with_reducible exact ih1 _ _ _ _ _ _ _ _ _)
   | (with_reducible exact ih2 _ _ _ _ _ _ _ _ _)
   | (with_reducible exact ih3 _ _ _ _ _ _ _ _ _)
   | (with_reducible exact ih4 _ _ _ _ _ _ _ _ _)
   | (with_reducible exact LeO.refl _)
   | (with_reducible exact LeO.none _)
   | (with_reducible refine LeO.ite ?_ ?_)
   | (with_reducible refine LeO.bind ?_ (fun _=>?_))
   | exact LeO.none _
   | refine LeO.ite ?_ ?_
   | refine LeO.bind ?_ (fun _=>?_)
def insn_words.T1:Bool × List (List Nat × List Nat):=(true,[([],[]),([0],[0]),([1],[1]),([],[]),([3],[3]),([4,2],[4]),([],[]),([6],[6]),([7,5],[7]),([2,8,0,1,2],[2]),([5,9,0,1,2,3,4,5,9],[5]),([8,10,0,1,2,3,4,5,6,7,8,9,10],[8])])
def insn_words.B1:List Nat:=[0,1,3,0,8,31,0,64,255,511,1023,2047]
theorem insn_words.tab1:rtab .any (opsOf Tryz.f61 1)=insn_words.T1:=by kernel_rfl
theorem insn_words.bits1:waitsOk insn_words.T1.2 insn_words.B1=true:=by kernel_rfl
theorem insn_words.calls (k:Nat) (a0_0:Int) (a0_1:Int) (a0_2:Int) (a0_3:Int) (r:List ByteArray) (w:World) (h:insn_words.f k a0_0 a0_1 a0_2 a0_3=some r) (hgw:GW w) :
  Calls Tryz.prog 61 #[.agg #[.int .i64 a0_0,.int .i64 a0_1,.int .i64 a0_2,.int .i64 a0_3]] w fun e w'=>∃ v0_:Value,e=.returned (v0_)∧Kd.R Kd.string 9 w' w.heap.size (fun _=>True) v0_ r∧Below w.heap.size w w':=by
 have hu23:=Tryz.underlying23;have HB:=Aside0.mk (Below.refl w.heap.size w);unfold insn_words.f at h;have H:=h;clear h;obtain ⟨t171,A2,H⟩:=bas H;(try dsimp only at H);obtain ⟨t172,A3,H⟩:=bas H;(try dsimp only at H);obtain ⟨t173,A4,H⟩:=bas H;(try dsimp only at H);have HC5:=Aside0.mk H;clear H;go_enter Tryz.func61,Tryz.ntmps61
 try go_wp2_with (first | ((with_reducible refine gate_dst (N:=1) rfl ?_);refine bxe (N:=1) (cs:=#[.int .i64 a0_0,.int .i64 a0_1,.int .i64 a0_2,.int .i64 a0_3]) (t:=23) ?_;intro gb170 hg w6 hbox hb;have BK170:=Aside0.mk hbox;have GW170:Aside0 (w.heap.size≤gb170):=⟨gwb⟩;have GE170:Aside0 (w.heap.size≤gb170):=⟨gwb⟩;replace HB:=Aside0.mk (below_step blw hb);clear hb hbox hg))
 replace BK170:=Aside0.mk (blk_drew BK170.out);replace HB:=Aside0.mk (below_drew1 HB.out);refine start_ (n:=12) (S:=fun w'=>w'.cell? ⟨gb170,0,none⟩=some (.int .i64 a0_0)∧w'.cell? ⟨gb170,1,none⟩=some (.int .i64 a0_1)∧w'.cell? ⟨gb170,2,none⟩=some (.int .i64 a0_2)∧w'.cell? ⟨gb170,3,none⟩=some (.int .i64 a0_3)) (ds:=[]) #[zF,zF,zF,zF,zF,zF,zF,zF,zF,zF,zF,zF] (by kernel_rfl) rfl rfl ⟨(blk_cell BK170.out 0).trans rfl,(blk_cell BK170.out 1).trans rfl,(blk_cell BK170.out 2).trans rfl,(blk_cell BK170.out 3).trans rfl⟩ (fun hHeld=>?_);refine with_tabW insn_words.tab1 insn_words.bits1 (fun HT_ HW_=>?_);generalize w6.drew=w7 at BK170 HB hHeld ⊢;refine pz (i:=0) (N:=some 6) #[zT,zF,zF,zF,zF,zF,zF,zF,zF,zF,zF,zF] rfl rfl HT_.out ?_
 refine pz (i:=3) (N:=some 9) #[zT,zF,zF,zT,zF,zF,zF,zF,zF,zF,zF,zF] rfl rfl HT_.out ?_
 refine pz (i:=6) (N:=some 12) #[zT,zF,zF,zT,zF,zF,zT,zF,zF,zF,zF,zF] rfl rfl HT_.out ?_
 refine tz4 (i:=1) (N:=some 7) #[zT,zT,zF,zT,zF,zF,zT,zF,zF,zF,zF,zF] rfl rfl HT_.out HW_.out hHeld ?_
 refine tz4 (i:=4) (N:=some 10) #[zT,zT,zF,zT,zT,zF,zT,zF,zF,zF,zF,zF] rfl rfl HT_.out HW_.out hHeld ?_
 refine tz4 (i:=7) (N:=some 13) #[zT,zT,zF,zT,zT,zF,zT,zT,zF,zF,zF,zF] rfl rfl HT_.out HW_.out hHeld ?_
 refine one_ (i:=2) (N:=some 8) #[zT,zT,zT,zT,zT,zF,zT,zT,zF,zF,zF,zF] rfl rfl (one_of HT_.out (by kernel_rfl)) (by decide) (fun K hK=>?_);refine goes_ Tryz.func90 (by kernel_rfl) rfl #[.int .i64 a0_1] (by rfl) rfl rfl fq ?_;with_reducible refine (insn_register.calls a0_1 _ _ A2.out gwy).mono ?_
 rintro e w8 ⟨rfl,hb⟩;refine ⟨_,rfl,?_⟩;replace BK170:=Aside0.mk (blk_below (g:=gb170) bko hb);replace HB:=Aside0.mk (below_step blw hb);clear hb;refine hK.out _ _ ⟨(blk_cell BK170.out 0).trans rfl,(blk_cell BK170.out 1).trans rfl,(blk_cell BK170.out 2).trans rfl,(blk_cell BK170.out 3).trans rfl⟩ (fun hHeld=>?_);clear hK K;refine nrmq ?_
 refine one_ (i:=5) (N:=some 11) #[zT,zT,zT,zT,zT,zT,zT,zT,zF,zF,zF,zF] rfl rfl (one_of HT_.out (by kernel_rfl)) (by decide) (fun K hK=>?_);refine goes_ Tryz.func90 (by kernel_rfl) rfl #[.int .i64 a0_2] (by rfl) rfl rfl fq ?_;with_reducible refine (insn_register.calls a0_2 _ _ A3.out gwy).mono ?_
 rintro e w9 ⟨rfl,hb⟩;refine ⟨_,rfl,?_⟩;replace BK170:=Aside0.mk (blk_below (g:=gb170) bko hb);replace HB:=Aside0.mk (below_step blw hb);clear hb;refine hK.out _ _ ⟨(blk_cell BK170.out 0).trans rfl,(blk_cell BK170.out 1).trans rfl,(blk_cell BK170.out 2).trans rfl,(blk_cell BK170.out 3).trans rfl⟩ (fun hHeld=>?_);clear hK K;refine nrmq ?_
 refine one_ (i:=8) (N:=some 14) #[zT,zT,zT,zT,zT,zT,zT,zT,zT,zF,zF,zF] rfl rfl (one_of HT_.out (by kernel_rfl)) (by decide) (fun K hK=>?_);refine goes_ Tryz.func91 (by kernel_rfl) rfl #[.int .i64 a0_3,.int .i64 10] (by rfl) rfl rfl fq ?_;with_reducible refine (strconv_FormatInt.calls a0_3 10 _ _ A4.out gwy).mono ?_
 rintro e w10 ⟨rfl,hb⟩;refine ⟨_,rfl,?_⟩;replace BK170:=Aside0.mk (blk_below (g:=gb170) bko hb);replace HB:=Aside0.mk (below_step blw hb);clear hb;refine hK.out _ _ ⟨(blk_cell BK170.out 0).trans rfl,(blk_cell BK170.out 1).trans rfl,(blk_cell BK170.out 2).trans rfl,(blk_cell BK170.out 3).trans rfl⟩ (fun hHeld=>?_);clear hK K;refine nrmq ?_
 refine pz (i:=9) (N:=some 3) #[zT,zT,zT,zT,zT,zT,zT,zT,zT,zT,zF,zF] rfl rfl HT_.out ?_
 refine pz (i:=10) (N:=some 4) #[zT,zT,zT,zT,zT,zT,zT,zT,zT,zT,zT,zF] rfl rfl HT_.out ?_
 refine pz (i:=11) (N:=some 5) #[zT,zT,zT,zT,zT,zT,zT,zT,zT,zT,zT,zT] rfl rfl HT_.out ?_
 refine done_ (done_of HT_.out (by kernel_rfl)) ?_;obtain ⟨hcz11_0,hcz11_1,hcz11_2,hcz11_3,hfz11_0,hfz11_1,hfz11_2,hfz11_3⟩:=bz4 BK170.out;go_upto_if 17 with (fail)
 go_cut [17] (fun v17 wc=>∃ (kq:Nat) (x17_4:Bool),v17=.bool x17_4∧Aside0 (insn_words.j0 kq t171 t172 t173 a0_0 x17_4 a0_0 a0_1 a0_2 a0_3=some r)∧Aside0 (kq≤k)∧Aside0 (wc.heap[gb170]?=some (.cells #[.int .i64 a0_0,.int .i64 a0_1,.int .i64 a0_2,.int .i64 a0_3] 23 (0,0)))∧Aside0 (Below w.heap.size w wc))
 case first =>
  have H:=HC5.out;clear HC5;by_cases c12:a0_0=3
  ·rw [if_pos c12] at H;obtain ⟨c12b0,c12b1⟩:=bqt c12;clear c12;(first | rw [c12b0] | (simp only [i64_w,i32_w];rw [c12b0]) | skip);have H':=Aside0.mk H;clear H;go_wp2;go_meet
   case rel=>exact ⟨_,((a0_0 == 3)),rsd,H',⟨by first | omega | exact Nat.le_refl _⟩,⟨bko⟩,⟨blw⟩⟩
  ·rw [if_neg c12] at H;obtain ⟨c12b0,c12b1⟩:=bqf c12;(first | rw [c12b0] | (simp only [i64_w,i32_w];rw [c12b0]) | skip);by_cases c13:a0_0=4
   ·rw [if_pos c13] at H;obtain ⟨c13b0,c13b1⟩:=bqt c13;clear c13;have H':=Aside0.mk H;clear H;go_wp2;go_meet
    case rel=>exact ⟨_,((a0_0 == 4)),rsd,H',⟨by first | omega | exact Nat.le_refl _⟩,⟨bko⟩,⟨blw⟩⟩
   ·rw [if_neg c13] at H;obtain ⟨c13b0,c13b1⟩:=bqf c13;have H':=Aside0.mk H;clear H;go_wp2;go_meet
    case rel=>exact ⟨_,((a0_0 == 16)),rsd,H',⟨by first | omega | exact Nat.le_refl _⟩,⟨bko⟩,⟨blw⟩⟩
 case rest =>
  clear HC5;try clear hcz11_0
  try clear hcz11_1
  try clear hcz11_2
  try clear hcz11_3
  try clear hfz11_0
  try clear hfz11_1
  try clear hfz11_2
  try clear hfz11_3
  obtain ⟨kq,x17_4,rfl,HA,HJ4,BK170,HB⟩:=hcut;cases kq with
  | zero=>exact absurd HA.out (by simp [insn_words.j0])
  | succ kj4 =>
   have H:=HA.out;clear HA;simp only [insn_words.j0] at H;by_cases c14:x17_4=true
   ·subst c14;rw [if_pos rfl] at H;obtain ⟨y174,hy174⟩:∃ y_:List ByteArray,y_=(([t171,t173]:List ByteArray)):=⟨_,rfl⟩;replace H:(some y174)=some r:=by first | (rw [hy174];with_reducible exact H) | (have H2_:=(Option.bind_some _ _).symm.trans H;rw [hy174];with_reducible exact H2_) | (have H2_:=(Option.bind_some _ _).symm.trans H;with_reducible exact H2_) | with_reducible exact H | (rw [hy174];exact H) | exact H
    have Ny174:=Aside0.mk hy174;clear hy174;obtain rfl:=Option.some.inj H;go_wp2_with (first | ((with_reducible refine gate_dst (N:=23) rfl ?_);refine Kd.R_lit Kd.string _ 9 ?hg (N:=23) ?hd (xs:=([t171,t173]:List ByteArray)) (inner:=[.string t171,.string t173]) (ok:=fun _=>True) (okp:=fun _=>True) ?hr ?hp (fun _ hk=>hk) trivial (Below.refl _ _) (Nat.le_refl _) (by simp) ?_;(case hd=>rfl);(case hg=>rfl);(case hr=>first | (go_simp;done) | (go_simp;rfl));(case hp=>exact (Reps.one (show Kd.M Kd.string _ _ _ t171 [.string t171] from rfl) (Reps.one (show Kd.M Kd.string _ _ _ t173 [.string t173] from rfl) (Reps.none _ _))));intro v175 w15 ho16 hb hg_ hnew_;clear hg_ hnew_;(first | rw [← Ny174.out] at ho16 | (simp only [Int.reduceToNat] at ho16;rw [← Ny174.out] at ho16));have HO176:=Aside0.mk (Kd.R_lower ho16 (below_size blw));replace BK170:=Aside0.mk (blk_below (g:=gb170) bko hb);replace HB:=Aside0.mk (below_step blw hb);clear hb ho16))
    go_ret;exact ⟨_,by first | rfl | (simp [errW_none,errW_some] <;> rfl) | (simp [*,errW_none,errW_some] <;> rfl),by (with_reducible repeat (first | apply Kd.R_alloc | apply Kd.R_drewN | apply Kd.R_drew));exact HO176.out,blw⟩
   ·replace c14:=Bool.eq_false_iff.mpr c14;subst c14;rw [if_neg (show ¬ (false=true) by decide)] at H;have HC17:=Aside0.mk H;clear H;go_upto_if 24 with (fail)
    go_cut [24] (fun v24 wc=>∃ (kq:Nat) (x24_16:Bool),v24=.bool x24_16∧Aside0 (insn_words.j1 kq t171 t172 t173 a0_0 x24_16 a0_0 a0_1 a0_2 a0_3=some r)∧Aside0 (kq≤kj4)∧Aside0 (wc.heap[gb170]?=some (.cells #[.int .i64 a0_0,.int .i64 a0_1,.int .i64 a0_2,.int .i64 a0_3] 23 (0,0)))∧Aside0 (Below w.heap.size w wc))
    case first =>
     have H:=HC17.out;clear HC17;by_cases c18:a0_0=17
     ·rw [if_pos c18] at H;obtain ⟨c18b0,c18b1⟩:=bqt c18;clear c18;(first | rw [c18b0] | (simp only [i64_w,i32_w];rw [c18b0]) | skip);have H':=Aside0.mk H;clear H;go_wp2;go_meet
      case rel=>exact ⟨_,((a0_0 == 17)),rsd,H',⟨by have:=HJ4.out;first | omega | exact Nat.le_refl _⟩,⟨bko⟩,⟨blw⟩⟩
     ·rw [if_neg c18] at H;obtain ⟨c18b0,c18b1⟩:=bqf c18;(first | rw [c18b0] | (simp only [i64_w,i32_w];rw [c18b0]) | skip);have H':=Aside0.mk H;clear H;go_wp2;go_meet
      case rel=>exact ⟨_,((a0_0 == 18)),rsd,H',⟨by have:=HJ4.out;first | omega | exact Nat.le_refl _⟩,⟨bko⟩,⟨blw⟩⟩
    case rest =>
     clear HC17;try clear c14
     obtain ⟨kq,x24_16,rfl,HA,HJ16,BK170,HB⟩:=hcut;cases kq with
     | zero=>exact absurd HA.out (by simp [insn_words.j1])
     | succ kj16 =>
      have H:=HA.out;clear HA;simp only [insn_words.j1] at H;by_cases c19:x24_16=true
      ·subst c19;rw [if_pos rfl] at H;obtain ⟨t177,A20,H⟩:=bas H;(try dsimp only at H);obtain ⟨y178,hy178⟩:∃ y_:List ByteArray,y_=(([t171,t177]:List ByteArray)):=⟨_,rfl⟩;replace H:(some y178)=some r:=by first | (rw [hy178];with_reducible exact H) | (have H2_:=(Option.bind_some _ _).symm.trans H;rw [hy178];with_reducible exact H2_) | (have H2_:=(Option.bind_some _ _).symm.trans H;with_reducible exact H2_) | with_reducible exact H | (rw [hy178];exact H) | exact H
       have Ny178:=Aside0.mk hy178;clear hy178;obtain rfl:=Option.some.inj H;obtain ⟨_,_,_,_,_,_,_,_⟩:=bz4 BK170.out;go_wp2_with (first | ((with_reducible refine gate_callee (f:=92) rfl ?_);refine gl (some 29) Tryz.func92 #[.agg #[.int .i64 a0_0,.int .i64 a0_1,.int .i64 a0_2,.int .i64 a0_3]] ?_;(with_reducible refine (insn_address.calls a0_0 a0_1 a0_2 a0_3 _ _ A20.out gwy).mono ?_);rintro e w22 ⟨rfl,hb⟩;refine ⟨_,rfl,?_⟩;replace BK170:=Aside0.mk (blk_below (g:=gb170) bko hb);replace HB:=Aside0.mk (below_step blw hb);clear hb) | ((with_reducible refine gate_dst (N:=30) rfl ?_);refine Kd.R_lit Kd.string _ 9 ?hg (N:=30) ?hd (xs:=([t171,t177]:List ByteArray)) (inner:=[.string t171,.string t177]) (ok:=fun _=>True) (okp:=fun _=>True) ?hr ?hp (fun _ hk=>hk) trivial (Below.refl _ _) (Nat.le_refl _) (by simp) ?_;(case hd=>rfl);(case hg=>rfl);(case hr=>first | (go_simp;done) | (go_simp;rfl));(case hp=>exact (Reps.one (show Kd.M Kd.string _ _ _ t171 [.string t171] from rfl) (Reps.one (show Kd.M Kd.string _ _ _ t177 [.string t177] from rfl) (Reps.none _ _))));intro v179 w23 ho24 hb hg_ hnew_;clear hg_ hnew_;(first | rw [← Ny178.out] at ho24 | (simp only [Int.reduceToNat] at ho24;rw [← Ny178.out] at ho24));have HO180:=Aside0.mk (Kd.R_lower ho24 (below_size blw));replace BK170:=Aside0.mk (blk_below (g:=gb170) bko hb);replace HB:=Aside0.mk (below_step blw hb);clear hb ho24))
       go_ret;exact ⟨_,by first | rfl | (simp [errW_none,errW_some] <;> rfl) | (simp [*,errW_none,errW_some] <;> rfl),by (with_reducible repeat (first | apply Kd.R_alloc | apply Kd.R_drewN | apply Kd.R_drew));exact HO180.out,blw⟩
      ·replace c19:=Bool.eq_false_iff.mpr c19;subst c19;rw [if_neg (show ¬ (false=true) by decide)] at H;have HC25:=Aside0.mk H;clear H;go_upto_if 31 with (fail)
       go_cut [31] (fun v31 wc=>∃ (kq:Nat) (x31_24:Bool),v31=.bool x31_24∧Aside0 (insn_words.j2 kq t171 t172 t173 a0_0 x31_24 a0_0 a0_1 a0_2 a0_3=some r)∧Aside0 (kq≤kj16)∧Aside0 (wc.heap[gb170]?=some (.cells #[.int .i64 a0_0,.int .i64 a0_1,.int .i64 a0_2,.int .i64 a0_3] 23 (0,0)))∧Aside0 (Below w.heap.size w wc))
       case first =>
        have H:=HC25.out;clear HC25;by_cases c26:a0_0=19
        ·rw [if_pos c26] at H;obtain ⟨c26b0,c26b1⟩:=bqt c26;clear c26;(first | rw [c26b0] | (simp only [i64_w,i32_w];rw [c26b0]) | skip);have H':=Aside0.mk H;clear H;go_wp2;go_meet
         case rel=>exact ⟨_,((a0_0 == 19)),rsd,H',⟨by have:=HJ4.out;have:=HJ16.out;first | omega | exact Nat.le_refl _⟩,⟨bko⟩,⟨blw⟩⟩
        ·rw [if_neg c26] at H;obtain ⟨c26b0,c26b1⟩:=bqf c26;(first | rw [c26b0] | (simp only [i64_w,i32_w];rw [c26b0]) | skip);have H':=Aside0.mk H;clear H;go_wp2;go_meet
         case rel=>exact ⟨_,((a0_0 == 20)),rsd,H',⟨by have:=HJ4.out;have:=HJ16.out;first | omega | exact Nat.le_refl _⟩,⟨bko⟩,⟨blw⟩⟩
       case rest =>
        clear HC25;try clear c19
        obtain ⟨kq,x31_24,rfl,HA,HJ24,BK170,HB⟩:=hcut;cases kq with
        | zero=>exact absurd HA.out (by simp [insn_words.j2])
        | succ kj24 =>
         have H:=HA.out;clear HA;simp only [insn_words.j2] at H;by_cases c27:x31_24=true
         ·subst c27;rw [if_pos rfl] at H;obtain ⟨t181,A28,H⟩:=bas H;(try dsimp only at H);obtain ⟨y182,hy182⟩:∃ y_:List ByteArray,y_=(([t181,t171]:List ByteArray)):=⟨_,rfl⟩;replace H:(some y182)=some r:=by first | (rw [hy182];with_reducible exact H) | (have H2_:=(Option.bind_some _ _).symm.trans H;rw [hy182];with_reducible exact H2_) | (have H2_:=(Option.bind_some _ _).symm.trans H;with_reducible exact H2_) | with_reducible exact H | (rw [hy182];exact H) | exact H
          have Ny182:=Aside0.mk hy182;clear hy182;obtain rfl:=Option.some.inj H;obtain ⟨_,_,_,_,_,_,_,_⟩:=bz4 BK170.out;go_wp2_with (first | ((with_reducible refine gate_callee (f:=92) rfl ?_);refine gl (some 35) Tryz.func92 #[.agg #[.int .i64 a0_0,.int .i64 a0_1,.int .i64 a0_2,.int .i64 a0_3]] ?_;(with_reducible refine (insn_address.calls a0_0 a0_1 a0_2 a0_3 _ _ A28.out gwy).mono ?_);rintro e w30 ⟨rfl,hb⟩;refine ⟨_,rfl,?_⟩;replace BK170:=Aside0.mk (blk_below (g:=gb170) bko hb);replace HB:=Aside0.mk (below_step blw hb);clear hb) | ((with_reducible refine gate_dst (N:=37) rfl ?_);refine Kd.R_lit Kd.string _ 9 ?hg (N:=37) ?hd (xs:=([t181,t171]:List ByteArray)) (inner:=[.string t181,.string t171]) (ok:=fun _=>True) (okp:=fun _=>True) ?hr ?hp (fun _ hk=>hk) trivial (Below.refl _ _) (Nat.le_refl _) (by simp) ?_;(case hd=>rfl);(case hg=>rfl);(case hr=>first | (go_simp;done) | (go_simp;rfl));(case hp=>exact (Reps.one (show Kd.M Kd.string _ _ _ t181 [.string t181] from rfl) (Reps.one (show Kd.M Kd.string _ _ _ t171 [.string t171] from rfl) (Reps.none _ _))));intro v183 w31 ho32 hb hg_ hnew_;clear hg_ hnew_;(first | rw [← Ny182.out] at ho32 | (simp only [Int.reduceToNat] at ho32;rw [← Ny182.out] at ho32));have HO184:=Aside0.mk (Kd.R_lower ho32 (below_size blw));replace BK170:=Aside0.mk (blk_below (g:=gb170) bko hb);replace HB:=Aside0.mk (below_step blw hb);clear hb ho32))
          go_ret;exact ⟨_,by first | rfl | (simp [errW_none,errW_some] <;> rfl) | (simp [*,errW_none,errW_some] <;> rfl),by (with_reducible repeat (first | apply Kd.R_alloc | apply Kd.R_drewN | apply Kd.R_drew));exact HO184.out,blw⟩
         ·replace c27:=Bool.eq_false_iff.mpr c27;subst c27;rw [if_neg (show ¬ (false=true) by decide)] at H;have HC33:=Aside0.mk H;clear H;go_upto_if 38 with (fail)
          go_cut [38] (fun v38 wc=>∃ (kq:Nat) (x38_32:Bool),v38=.bool x38_32∧Aside0 (insn_words.j3 kq t171 t172 t173 a0_0 x38_32 a0_0 a0_1 a0_2 a0_3=some r)∧Aside0 (kq≤kj24)∧Aside0 (wc.heap[gb170]?=some (.cells #[.int .i64 a0_0,.int .i64 a0_1,.int .i64 a0_2,.int .i64 a0_3] 23 (0,0)))∧Aside0 (Below w.heap.size w wc))
          case first =>
           have H:=HC33.out;clear HC33;by_cases c34:a0_0=21
           ·rw [if_pos c34] at H;obtain ⟨c34b0,c34b1⟩:=bqt c34;clear c34;(first | rw [c34b0] | (simp only [i64_w,i32_w];rw [c34b0]) | skip);have H':=Aside0.mk H;clear H;go_wp2;go_meet
            case rel=>exact ⟨_,((a0_0 == 21)),rsd,H',⟨by have:=HJ4.out;have:=HJ16.out;have:=HJ24.out;first | omega | exact Nat.le_refl _⟩,⟨bko⟩,⟨blw⟩⟩
           ·rw [if_neg c34] at H;obtain ⟨c34b0,c34b1⟩:=bqf c34;(first | rw [c34b0] | (simp only [i64_w,i32_w];rw [c34b0]) | skip);by_cases c35:a0_0=22
            ·rw [if_pos c35] at H;obtain ⟨c35b0,c35b1⟩:=bqt c35;clear c35;have H':=Aside0.mk H;clear H;go_wp2;go_meet
             case rel=>exact ⟨_,((a0_0 == 22)),rsd,H',⟨by have:=HJ4.out;have:=HJ16.out;have:=HJ24.out;first | omega | exact Nat.le_refl _⟩,⟨bko⟩,⟨blw⟩⟩
            ·rw [if_neg c35] at H;obtain ⟨c35b0,c35b1⟩:=bqf c35;by_cases c36:a0_0=23
             ·rw [if_pos c36] at H;obtain ⟨c36b0,c36b1⟩:=bqt c36;clear c36;have H':=Aside0.mk H;clear H;go_wp2;go_meet
              case rel=>exact ⟨_,((a0_0 == 23)),rsd,H',⟨by have:=HJ4.out;have:=HJ16.out;have:=HJ24.out;first | omega | exact Nat.le_refl _⟩,⟨bko⟩,⟨blw⟩⟩
             ·rw [if_neg c36] at H;obtain ⟨c36b0,c36b1⟩:=bqf c36;have H':=Aside0.mk H;clear H;go_wp2;go_meet
              case rel=>exact ⟨_,((a0_0 == 24)),rsd,H',⟨by have:=HJ4.out;have:=HJ16.out;have:=HJ24.out;first | omega | exact Nat.le_refl _⟩,⟨bko⟩,⟨blw⟩⟩
          case rest =>
           clear HC33;try clear c27
           obtain ⟨kq,x38_32,rfl,HA,HJ32,BK170,HB⟩:=hcut;cases kq with
           | zero=>exact absurd HA.out (by simp [insn_words.j3])
           | succ kj32 =>
            have H:=HA.out;clear HA;simp only [insn_words.j3] at H;by_cases c37:x38_32=true
            ·subst c37;rw [if_pos rfl] at H;obtain ⟨t185,A38,H⟩:=bas H;(try dsimp only at H);obtain ⟨y186,hy186⟩:∃ y_:List ByteArray,y_=(([t171,t172,t185]:List ByteArray)):=⟨_,rfl⟩;replace H:(some y186)=some r:=by first | (rw [hy186];with_reducible exact H) | (have H2_:=(Option.bind_some _ _).symm.trans H;rw [hy186];with_reducible exact H2_) | (have H2_:=(Option.bind_some _ _).symm.trans H;with_reducible exact H2_) | with_reducible exact H | (rw [hy186];exact H) | exact H
             have Ny186:=Aside0.mk hy186;clear hy186;obtain rfl:=Option.some.inj H;obtain ⟨_,_,_,_,_,_,_,_⟩:=bz4 BK170.out;go_wp2_with (first | ((with_reducible refine gate_callee (f:=93) rfl ?_);refine gl (some 47) Tryz.func93 #[.int .i64 a0_3] ?_;(with_reducible refine (insn_distance.calls a0_3 _ _ A38.out gwy).mono ?_);rintro e w40 ⟨rfl,hb⟩;refine ⟨_,rfl,?_⟩;replace BK170:=Aside0.mk (blk_below (g:=gb170) bko hb);replace HB:=Aside0.mk (below_step blw hb);clear hb) | ((with_reducible refine gate_dst (N:=48) rfl ?_);refine Kd.R_lit Kd.string _ 9 ?hg (N:=48) ?hd (xs:=([t171,t172,t185]:List ByteArray)) (inner:=[.string t171,.string t172,.string t185]) (ok:=fun _=>True) (okp:=fun _=>True) ?hr ?hp (fun _ hk=>hk) trivial (Below.refl _ _) (Nat.le_refl _) (by simp) ?_;(case hd=>rfl);(case hg=>rfl);(case hr=>first | (go_simp;done) | (go_simp;rfl));(case hp=>exact (Reps.one (show Kd.M Kd.string _ _ _ t171 [.string t171] from rfl) (Reps.one (show Kd.M Kd.string _ _ _ t172 [.string t172] from rfl) (Reps.one (show Kd.M Kd.string _ _ _ t185 [.string t185] from rfl) (Reps.none _ _)))));intro v187 w41 ho42 hb hg_ hnew_;clear hg_ hnew_;(first | rw [← Ny186.out] at ho42 | (simp only [Int.reduceToNat] at ho42;rw [← Ny186.out] at ho42));have HO188:=Aside0.mk (Kd.R_lower ho42 (below_size blw));replace BK170:=Aside0.mk (blk_below (g:=gb170) bko hb);replace HB:=Aside0.mk (below_step blw hb);clear hb ho42))
             go_ret;exact ⟨_,by first | rfl | (simp [errW_none,errW_some] <;> rfl) | (simp [*,errW_none,errW_some] <;> rfl),by (with_reducible repeat (first | apply Kd.R_alloc | apply Kd.R_drewN | apply Kd.R_drew));exact HO188.out,blw⟩
            ·replace c37:=Bool.eq_false_iff.mpr c37;subst c37;rw [if_neg (show ¬ (false=true) by decide)] at H;have HC43:=Aside0.mk H;clear H;go_upto_if 49 with (fail)
             go_cut [49] (fun v49 wc=>∃ (kq:Nat) (x49_42:Bool),v49=.bool x49_42∧Aside0 (insn_words.j4 kq t171 t172 t173 a0_0 x49_42 a0_0 a0_1 a0_2 a0_3=some r)∧Aside0 (kq≤kj32)∧Aside0 (wc.heap[gb170]?=some (.cells #[.int .i64 a0_0,.int .i64 a0_1,.int .i64 a0_2,.int .i64 a0_3] 23 (0,0)))∧Aside0 (Below w.heap.size w wc))
             case first =>
              have H:=HC43.out;clear HC43;by_cases c44:a0_0=25
              ·rw [if_pos c44] at H;obtain ⟨c44b0,c44b1⟩:=bqt c44;clear c44;(first | rw [c44b0] | (simp only [i64_w,i32_w];rw [c44b0]) | skip);have H':=Aside0.mk H;clear H;go_wp2;go_meet
               case rel=>exact ⟨_,((a0_0 == 25)),rsd,H',⟨by have:=HJ4.out;have:=HJ16.out;have:=HJ24.out;have:=HJ32.out;first | omega | exact Nat.le_refl _⟩,⟨bko⟩,⟨blw⟩⟩
              ·rw [if_neg c44] at H;obtain ⟨c44b0,c44b1⟩:=bqf c44;(first | rw [c44b0] | (simp only [i64_w,i32_w];rw [c44b0]) | skip);have H':=Aside0.mk H;clear H;go_wp2;go_meet
               case rel=>exact ⟨_,((a0_0 == 27)),rsd,H',⟨by have:=HJ4.out;have:=HJ16.out;have:=HJ24.out;have:=HJ32.out;first | omega | exact Nat.le_refl _⟩,⟨bko⟩,⟨blw⟩⟩
             case rest =>
              clear HC43;try clear c37
              obtain ⟨kq,x49_42,rfl,HA,HJ42,BK170,HB⟩:=hcut;cases kq with
              | zero=>exact absurd HA.out (by simp [insn_words.j4])
              | succ kj42 =>
               have H:=HA.out;clear HA;simp only [insn_words.j4] at H;by_cases c45:x49_42=true
               ·subst c45;rw [if_pos rfl] at H;obtain ⟨t189,A46,H⟩:=bas H;(try dsimp only at H);obtain ⟨y190,hy190⟩:∃ y_:List ByteArray,y_=(([t189]:List ByteArray)):=⟨_,rfl⟩;replace H:(some y190)=some r:=by first | (rw [hy190];with_reducible exact H) | (have H2_:=(Option.bind_some _ _).symm.trans H;rw [hy190];with_reducible exact H2_) | (have H2_:=(Option.bind_some _ _).symm.trans H;with_reducible exact H2_) | with_reducible exact H | (rw [hy190];exact H) | exact H
                have Ny190:=Aside0.mk hy190;clear hy190;obtain rfl:=Option.some.inj H;obtain ⟨_,_,_,_,_,_,_,_⟩:=bz4 BK170.out;go_wp2_with (first | ((with_reducible refine gate_callee (f:=93) rfl ?_);refine gl (some 54) Tryz.func93 #[.int .i64 a0_3] ?_;(with_reducible refine (insn_distance.calls a0_3 _ _ A46.out gwy).mono ?_);rintro e w48 ⟨rfl,hb⟩;refine ⟨_,rfl,?_⟩;replace BK170:=Aside0.mk (blk_below (g:=gb170) bko hb);replace HB:=Aside0.mk (below_step blw hb);clear hb) | ((with_reducible refine gate_dst (N:=55) rfl ?_);refine Kd.R_lit Kd.string _ 9 ?hg (N:=55) ?hd (xs:=([t189]:List ByteArray)) (inner:=[.string t189]) (ok:=fun _=>True) (okp:=fun _=>True) ?hr ?hp (fun _ hk=>hk) trivial (Below.refl _ _) (Nat.le_refl _) (by simp) ?_;(case hd=>rfl);(case hg=>rfl);(case hr=>first | (go_simp;done) | (go_simp;rfl));(case hp=>exact (Reps.one (show Kd.M Kd.string _ _ _ t189 [.string t189] from rfl) (Reps.none _ _)));intro v191 w49 ho50 hb hg_ hnew_;clear hg_ hnew_;(first | rw [← Ny190.out] at ho50 | (simp only [Int.reduceToNat] at ho50;rw [← Ny190.out] at ho50));have HO192:=Aside0.mk (Kd.R_lower ho50 (below_size blw));replace BK170:=Aside0.mk (blk_below (g:=gb170) bko hb);replace HB:=Aside0.mk (below_step blw hb);clear hb ho50))
                go_ret;exact ⟨_,by first | rfl | (simp [errW_none,errW_some] <;> rfl) | (simp [*,errW_none,errW_some] <;> rfl),by (with_reducible repeat (first | apply Kd.R_alloc | apply Kd.R_drewN | apply Kd.R_drew));exact HO192.out,blw⟩
               ·replace c45:=Bool.eq_false_iff.mpr c45;subst c45;rw [if_neg (show ¬ (false=true) by decide)] at H;by_cases c51:a0_0=32
                ·rw [if_pos c51] at H;obtain ⟨c51b0,c51b1⟩:=bqt c51;clear c51;obtain ⟨t193,A52,H⟩:=bas H;(try dsimp only at H);obtain ⟨y194,hy194⟩:∃ y_:List ByteArray,y_=(([t171,t193]:List ByteArray)):=⟨_,rfl⟩;replace H:(some y194)=some r:=by first | (rw [hy194];with_reducible exact H) | (have H2_:=(Option.bind_some _ _).symm.trans H;rw [hy194];with_reducible exact H2_) | (have H2_:=(Option.bind_some _ _).symm.trans H;with_reducible exact H2_) | with_reducible exact H | (rw [hy194];exact H) | exact H
                 have Ny194:=Aside0.mk hy194;clear hy194;obtain rfl:=Option.some.inj H;obtain ⟨_,_,_,_,_,_,_,_⟩:=bz4 BK170.out;go_wp2_with (first | ((with_reducible refine gate_callee (f:=93) rfl ?_);refine gl (some 61) Tryz.func93 #[.int .i64 a0_3] ?_;(with_reducible refine (insn_distance.calls a0_3 _ _ A52.out gwy).mono ?_);rintro e w54 ⟨rfl,hb⟩;refine ⟨_,rfl,?_⟩;replace BK170:=Aside0.mk (blk_below (g:=gb170) bko hb);replace HB:=Aside0.mk (below_step blw hb);clear hb) | ((with_reducible refine gate_dst (N:=62) rfl ?_);refine Kd.R_lit Kd.string _ 9 ?hg (N:=62) ?hd (xs:=([t171,t193]:List ByteArray)) (inner:=[.string t171,.string t193]) (ok:=fun _=>True) (okp:=fun _=>True) ?hr ?hp (fun _ hk=>hk) trivial (Below.refl _ _) (Nat.le_refl _) (by simp) ?_;(case hd=>rfl);(case hg=>rfl);(case hr=>first | (go_simp;done) | (go_simp;rfl));(case hp=>exact (Reps.one (show Kd.M Kd.string _ _ _ t171 [.string t171] from rfl) (Reps.one (show Kd.M Kd.string _ _ _ t193 [.string t193] from rfl) (Reps.none _ _))));intro v195 w55 ho56 hb hg_ hnew_;clear hg_ hnew_;(first | rw [← Ny194.out] at ho56 | (simp only [Int.reduceToNat] at ho56;rw [← Ny194.out] at ho56));have HO196:=Aside0.mk (Kd.R_lower ho56 (below_size blw));replace BK170:=Aside0.mk (blk_below (g:=gb170) bko hb);replace HB:=Aside0.mk (below_step blw hb);clear hb ho56))
                 go_ret;exact ⟨_,by first | rfl | (simp [errW_none,errW_some] <;> rfl) | (simp [*,errW_none,errW_some] <;> rfl),by (with_reducible repeat (first | apply Kd.R_alloc | apply Kd.R_drewN | apply Kd.R_drew));exact HO196.out,blw⟩
                ·rw [if_neg c51] at H;obtain ⟨c51b0,c51b1⟩:=bqf c51;by_cases c57:a0_0=33
                 ·rw [if_pos c57] at H;obtain ⟨c57b0,c57b1⟩:=bqt c57;clear c57;obtain ⟨y197,hy197⟩:∃ y_:List ByteArray,y_=(([t173]:List ByteArray)):=⟨_,rfl⟩;replace H:(some y197)=some r:=by first | (rw [hy197];with_reducible exact H) | (have H2_:=(Option.bind_some _ _).symm.trans H;rw [hy197];with_reducible exact H2_) | (have H2_:=(Option.bind_some _ _).symm.trans H;with_reducible exact H2_) | with_reducible exact H | (rw [hy197];exact H) | exact H
                  have Ny197:=Aside0.mk hy197;clear hy197;obtain rfl:=Option.some.inj H;go_wp2_with (first | ((with_reducible refine gate_dst (N:=66) rfl ?_);refine Kd.R_lit Kd.string _ 9 ?hg (N:=66) ?hd (xs:=([t173]:List ByteArray)) (inner:=[.string t173]) (ok:=fun _=>True) (okp:=fun _=>True) ?hr ?hp (fun _ hk=>hk) trivial (Below.refl _ _) (Nat.le_refl _) (by simp) ?_;(case hd=>rfl);(case hg=>rfl);(case hr=>first | (go_simp;done) | (go_simp;rfl));(case hp=>exact (Reps.one (show Kd.M Kd.string _ _ _ t173 [.string t173] from rfl) (Reps.none _ _)));intro v198 w58 ho59 hb hg_ hnew_;clear hg_ hnew_;(first | rw [← Ny197.out] at ho59 | (simp only [Int.reduceToNat] at ho59;rw [← Ny197.out] at ho59));have HO199:=Aside0.mk (Kd.R_lower ho59 (below_size blw));replace BK170:=Aside0.mk (blk_below (g:=gb170) bko hb);replace HB:=Aside0.mk (below_step blw hb);clear hb ho59))
                  go_ret;exact ⟨_,by first | rfl | (simp [errW_none,errW_some] <;> rfl) | (simp [*,errW_none,errW_some] <;> rfl),by (with_reducible repeat (first | apply Kd.R_alloc | apply Kd.R_drewN | apply Kd.R_drew));exact HO199.out,blw⟩
                 ·rw [if_neg c57] at H;obtain ⟨c57b0,c57b1⟩:=bqf c57;by_cases c60:a0_0=34
                  ·rw [if_pos c60] at H;obtain ⟨c60b0,c60b1⟩:=bqt c60;clear c60;by_cases c61:1+t172.size≤9223372036854775807
                   ·rw [if_pos c61] at H;have c61b0:=eq_true c61;have c61b1:=decide_eq_true c61;try have c61b2:(9223372036854775807 < 1+t172.size)=False:=eq_false (Nat.not_lt.2 c61)
                    by_cases c62:((⟨#[91]⟩:zB) ++ t172).size+1≤9223372036854775807
                    ·rw [if_pos c62] at H;have c62b0:=eq_true c62;have c62b1:=decide_eq_true c62;try have c62b2:(9223372036854775807 < ((⟨#[91]⟩:zB) ++ t172).size+1)=False:=eq_false (Nat.not_lt.2 c62)
                     try have c62x:(9223372036854775807 < 1+t172.size+1)=False:=eq_false (by have e1:=c62;simp only [ByteArray.size_append,show ∀ x:UInt8,(⟨#[x]⟩:zB).size=1 from fun _=>rfl] at e1;omega)
                     obtain ⟨y200,hy200⟩:∃ y_:List ByteArray,y_=(([t171,((⟨#[91]⟩:zB) ++ t172) ++ (⟨#[93]⟩:zB)]:List ByteArray)):=⟨_,rfl⟩;replace H:(some y200)=some r:=by first | (rw [hy200];with_reducible exact H) | (have H2_:=(Option.bind_some _ _).symm.trans H;rw [hy200];with_reducible exact H2_) | (have H2_:=(Option.bind_some _ _).symm.trans H;with_reducible exact H2_) | with_reducible exact H | (rw [hy200];exact H) | exact H
                     have Ny200:=Aside0.mk hy200;clear hy200;obtain rfl:=Option.some.inj H;go_wp2_with (first | ((with_reducible refine gate_dst (N:=73) rfl ?_);refine Kd.R_lit Kd.string _ 9 ?hg (N:=73) ?hd (xs:=([t171,((⟨#[91]⟩:zB) ++ t172) ++ (⟨#[93]⟩:zB)]:List ByteArray)) (inner:=[.string t171,.string (((⟨#[91]⟩:zB) ++ t172) ++ (⟨#[93]⟩:zB))]) (ok:=fun _=>True) (okp:=fun _=>True) ?hr ?hp (fun _ hk=>hk) trivial (Below.refl _ _) (Nat.le_refl _) (by simp) ?_;(case hd=>rfl);(case hg=>rfl);(case hr=>first | (go_simp;done) | (go_simp;rfl));(case hp=>exact (Reps.one (show Kd.M Kd.string _ _ _ t171 [.string t171] from rfl) (Reps.one (show Kd.M Kd.string _ _ _ (((⟨#[91]⟩:zB) ++ t172) ++ (⟨#[93]⟩:zB)) [.string (((⟨#[91]⟩:zB) ++ t172) ++ (⟨#[93]⟩:zB))] from rfl) (Reps.none _ _))));intro v201 w63 ho64 hb hg_ hnew_;clear hg_ hnew_;(first | rw [← Ny200.out] at ho64 | (simp only [Int.reduceToNat] at ho64;rw [← Ny200.out] at ho64));have HO202:=Aside0.mk (Kd.R_lower ho64 (below_size blw));replace BK170:=Aside0.mk (blk_below (g:=gb170) bko hb);replace HB:=Aside0.mk (below_step blw hb);clear hb ho64))
                     go_ret;exact ⟨_,by first | rfl | (simp [errW_none,errW_some] <;> rfl) | (simp [*,errW_none,errW_some] <;> rfl),by (with_reducible repeat (first | apply Kd.R_alloc | apply Kd.R_drewN | apply Kd.R_drew));exact HO202.out,blw⟩
                    ·rw [if_neg c62] at H;exact absurd H (by simp)
                   ·rw [if_neg c61] at H;exact absurd H (by simp)
                  ·rw [if_neg c60] at H;obtain ⟨c60b0,c60b1⟩:=bqf c60;obtain ⟨⟨t203,t204⟩,A65,H⟩:=bas H;(try dsimp only at H);by_cases c66:t204=1
                   ·rw [if_pos c66] at H;obtain ⟨c66b0,c66b1⟩:=bqt c66;clear c66;obtain ⟨y205,hy205⟩:∃ y_:List ByteArray,y_=(([t171,t172]:List ByteArray)):=⟨_,rfl⟩;replace H:(some y205)=some r:=by first | (rw [hy205];with_reducible exact H) | (have H2_:=(Option.bind_some _ _).symm.trans H;rw [hy205];with_reducible exact H2_) | (have H2_:=(Option.bind_some _ _).symm.trans H;with_reducible exact H2_) | with_reducible exact H | (rw [hy205];exact H) | exact H
                    have Ny205:=Aside0.mk hy205;clear hy205;obtain rfl:=Option.some.inj H;obtain ⟨_,_,_,_,_,_,_,_⟩:=bz4 BK170.out;go_wp2_with (first | ((with_reducible refine gate_callee (f:=55) rfl ?_);refine gl (some 76) Tryz.func55 #[.int .i64 a0_0] ?_;(with_reducible refine (insn_kindOf.calls a0_0 _ _ _ A65.out gwy).mono ?_);rintro e w68 ⟨rfl,hb⟩;refine ⟨_,rfl,?_⟩;replace BK170:=Aside0.mk (blk_below (g:=gb170) bko hb);replace HB:=Aside0.mk (below_step blw hb);clear hb) | ((with_reducible refine gate_dst (N:=82) rfl ?_);refine Kd.R_lit Kd.string _ 9 ?hg (N:=82) ?hd (xs:=([t171,t172]:List ByteArray)) (inner:=[.string t171,.string t172]) (ok:=fun _=>True) (okp:=fun _=>True) ?hr ?hp (fun _ hk=>hk) trivial (Below.refl _ _) (Nat.le_refl _) (by simp) ?_;(case hd=>rfl);(case hg=>rfl);(case hr=>first | (go_simp;done) | (go_simp;rfl));(case hp=>exact (Reps.one (show Kd.M Kd.string _ _ _ t171 [.string t171] from rfl) (Reps.one (show Kd.M Kd.string _ _ _ t172 [.string t172] from rfl) (Reps.none _ _))));intro v206 w69 ho70 hb hg_ hnew_;clear hg_ hnew_;(first | rw [← Ny205.out] at ho70 | (simp only [Int.reduceToNat] at ho70;rw [← Ny205.out] at ho70));have HO207:=Aside0.mk (Kd.R_lower ho70 (below_size blw));replace BK170:=Aside0.mk (blk_below (g:=gb170) bko hb);replace HB:=Aside0.mk (below_step blw hb);clear hb ho70))
                    go_ret;exact ⟨_,by first | rfl | (simp [errW_none,errW_some] <;> rfl) | (simp [*,errW_none,errW_some] <;> rfl),by (with_reducible repeat (first | apply Kd.R_alloc | apply Kd.R_drewN | apply Kd.R_drew));exact HO207.out,blw⟩
                   ·rw [if_neg c66] at H;obtain ⟨c66b0,c66b1⟩:=bqf c66;by_cases c71:t204=2
                    ·rw [if_pos c71] at H;obtain ⟨c71b0,c71b1⟩:=bqt c71;clear c71;obtain ⟨y208,hy208⟩:∃ y_:List ByteArray,y_=(([t171]:List ByteArray)):=⟨_,rfl⟩;replace H:(some y208)=some r:=by first | (rw [hy208];with_reducible exact H) | (have H2_:=(Option.bind_some _ _).symm.trans H;rw [hy208];with_reducible exact H2_) | (have H2_:=(Option.bind_some _ _).symm.trans H;with_reducible exact H2_) | with_reducible exact H | (rw [hy208];exact H) | exact H
                     have Ny208:=Aside0.mk hy208;clear hy208;obtain rfl:=Option.some.inj H;obtain ⟨_,_,_,_,_,_,_,_⟩:=bz4 BK170.out;go_wp2_with (first | ((with_reducible refine gate_callee (f:=55) rfl ?_);refine gl (some 76) Tryz.func55 #[.int .i64 a0_0] ?_;(with_reducible refine (insn_kindOf.calls a0_0 _ _ _ A65.out gwy).mono ?_);rintro e w73 ⟨rfl,hb⟩;refine ⟨_,rfl,?_⟩;replace BK170:=Aside0.mk (blk_below (g:=gb170) bko hb);replace HB:=Aside0.mk (below_step blw hb);clear hb) | ((with_reducible refine gate_dst (N:=86) rfl ?_);refine Kd.R_lit Kd.string _ 9 ?hg (N:=86) ?hd (xs:=([t171]:List ByteArray)) (inner:=[.string t171]) (ok:=fun _=>True) (okp:=fun _=>True) ?hr ?hp (fun _ hk=>hk) trivial (Below.refl _ _) (Nat.le_refl _) (by simp) ?_;(case hd=>rfl);(case hg=>rfl);(case hr=>first | (go_simp;done) | (go_simp;rfl));(case hp=>exact (Reps.one (show Kd.M Kd.string _ _ _ t171 [.string t171] from rfl) (Reps.none _ _)));intro v209 w74 ho75 hb hg_ hnew_;clear hg_ hnew_;(first | rw [← Ny208.out] at ho75 | (simp only [Int.reduceToNat] at ho75;rw [← Ny208.out] at ho75));have HO210:=Aside0.mk (Kd.R_lower ho75 (below_size blw));replace BK170:=Aside0.mk (blk_below (g:=gb170) bko hb);replace HB:=Aside0.mk (below_step blw hb);clear hb ho75))
                     go_ret;exact ⟨_,by first | rfl | (simp [errW_none,errW_some] <;> rfl) | (simp [*,errW_none,errW_some] <;> rfl),by (with_reducible repeat (first | apply Kd.R_alloc | apply Kd.R_drewN | apply Kd.R_drew));exact HO210.out,blw⟩
                    ·rw [if_neg c71] at H;obtain ⟨c71b0,c71b1⟩:=bqf c71;obtain rfl:=Option.some.inj H;obtain ⟨_,_,_,_,_,_,_,_⟩:=bz4 BK170.out;go_wp2_with (first | ((with_reducible refine gate_callee (f:=55) rfl ?_);refine gl (some 76) Tryz.func55 #[.int .i64 a0_0] ?_;(with_reducible refine (insn_kindOf.calls a0_0 _ _ _ A65.out gwy).mono ?_);rintro e w77 ⟨rfl,hb⟩;refine ⟨_,rfl,?_⟩;replace BK170:=Aside0.mk (blk_below (g:=gb170) bko hb);replace HB:=Aside0.mk (below_step blw hb);clear hb))
                     go_ret;exact ⟨_,by first | rfl | (simp [errW_none,errW_some] <;> rfl) | (simp [*,errW_none,errW_some] <;> rfl),by first | exact Kd.R_nil _ _ _ _ _ | exact Kd.N_nil _ _ _ _ _ | exact Kd.V_nil _ _ _ _ _ | exact Kd.Q_nil _ _ _ _ _ | exact Kd.S_nil _ _ _ _ _,blw⟩
end Go.Proofs.YtffojmgmpfjlhaaGreatDoor.Q
namespace Go.Proofs.YtffojmgmpfjlhaaGreatDoor.Q
open Go.RowKit Go.Proofs.YtffojmgmpfjlhaaGreatDoor YtffojmgmpfjlhaaGreatDoorW.PrintWords YtffojmgmpfjlhaaGreatDoorW.PrintLast
def strings_Join.f (l0:List ByteArray) (a1:ByteArray):Option ByteArray :=
 if l0.length≤140737488355328∧(Lib.join (l0.map (·.data.toList)) a1.data.toList).length≤140737488355328 then some ⟨(Lib.join (l0.map (·.data.toList)) a1.data.toList).toArray⟩ else none
theorem strings_Join.calls (A0:Option Addr) (c0:Nat) (l0:List ByteArray) (a1:ByteArray) (r:ByteArray) (w:World) (hr0:Kd.C Kd.string w A0 l0.length l0) (hc0:l0.length≤c0) (h:strings_Join.f l0 a1=some r) :
  Calls Tryz.prog 62 #[.slice A0 l0.length c0,.string a1] w fun e w'=>e=.returned (.string r)∧Below w.heap.size w w':=by
 unfold strings_Join.f at h
 split at h
 ·rename_i hc
  obtain ⟨h1,h2⟩:=hc
  cases h
  cases l0 with
  | nil =>
   refine (Tryz.strings_Join_none A0 c0 a1 w).mono ?_
   rintro e w' ⟨rfl,rfl⟩
   exact ⟨rfl,Below.refl _ _⟩
  | cons x l =>
   obtain ⟨⟨bk,o,sp⟩,rfl,hcells⟩:=hr0.2.2 (by simp)
   have hcell:∀ (j:Nat) y,(x :: l)[j]?=some y→w.cell? ((⟨bk,o,sp⟩:Addr).add (j * 1+0))=some (.string y):=fun j y hj=>by
    obtain ⟨c,_,hK,hc⟩:=hcells j y hj
    obtain rfl:c=[Value.string y]:=hK
    exact hc 0 _ rfl
   have h0:=hcell 0 x rfl
   have hsp:sp=none:=by
    cases sp with
    | none=>rfl
    | some q =>
     have:w.cell? ⟨bk,o,some q⟩=none:=by
      unfold World.cell?
      split <;> simp
     rw [show ((⟨bk,o,some q⟩:Addr).add (0 * 1+0))=⟨bk,o,some q⟩ from rfl,this] at h0
     cases h0
   subst hsp
   refine Tryz.strings_Join bk o c0 (x :: l) a1 w (fun j y hj=>?_) (World.block_lt_of_cell? _ _ h0) h1 hc0 h2
   have:=hcell j y hj
   rw [Nat.mul_one,Nat.add_zero] at this
   rw [← this]
   unfold Addr.add
   split
   ·rename_i e;rw [e];rfl
   ·rfl
 ·cases h
end Go.Proofs.YtffojmgmpfjlhaaGreatDoor.Q
