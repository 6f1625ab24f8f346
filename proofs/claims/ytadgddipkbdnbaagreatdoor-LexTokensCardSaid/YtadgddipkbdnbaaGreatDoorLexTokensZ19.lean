/- Parts of the proof that the program's token functions return what the specification's return. -/
import Derived.Test.YtadgddipkbdnbaaGreatDoorLexTokensZ1
import Derived.Test.YtadgddipkbdnbaaGreatDoorLexTokensZ2
import Derived.Test.YtadgddipkbdnbaaGreatDoorLexTokensZ3
import Derived.Test.YtadgddipkbdnbaaGreatDoorLexTokensZ4
import Derived.Test.YtadgddipkbdnbaaGreatDoorLexTokensZ5
import Derived.Test.YtadgddipkbdnbaaGreatDoorLexTokensZ6
import Derived.Test.YtadgddipkbdnbaaGreatDoorLexTokensZ7
import Derived.Test.YtadgddipkbdnbaaGreatDoorLexTokensZ9
import Derived.Test.YtadgddipkbdnbaaGreatDoorLexTokensZ12
import Derived.Test.YtadgddipkbdnbaaGreatDoorLexTokensZ13
import Derived.Test.YtadgddipkbdnbaaGreatDoorLexTokensZ15
import Derived.Test.YtadgddipkbdnbaaGreatDoorLexTokensZ16
import Derived.Test.YtadgddipkbdnbaaGreatDoorLexTokensZ17
set_option linter.unusedVariables false
set_option linter.unusedSimpArgs false
namespace Go.Proofs.YtadgddipkbdnbaaGreatDoor.Q
open Go.Proofs.YtadgddipkbdnbaaGreatDoor Go.RowKit Go.Proofs.YtadgddipkbdnbaaGreatDoorW.PrintWords Go.Proofs.YtadgddipkbdnbaaGreatDoorW.PrintLast Go.Proofs.YtadgddipkbdnbaaGreatDoorW.PrintMore
attribute [local go_sem] max2_int min2_int max_two min_two max_three min_three max_four min_four
def lex_Check.j0:Nat→Bool→Option (Int)
 | 0,_=>none
 | k+1,x39=>if x39=true then (some 0) else (some 114)
def lex_Check.f (k:Nat) (a0_0:Int) (a0_1:ByteArray) (a0_2:Int):Option (Int):=if a0_0=6 then (if 6+a0_1.size≤9223372036854775807 then ((lex_Scan.f ((⟨#[112,114,111,98,101,32]⟩:zB) ++ a0_1)).bind fun bt414=>(if bt414.2.2=0 then (if (bt414.1.length:Int)=2 then (if 1 < (bt414.1.length:Int) then (if ((rd_T38 bt414.1 1).f0)=6 then (lex_Check.j0 k (((rd_T38 bt414.1 1).f1).toList == a0_1.toList)) else (lex_Check.j0 k false)) else (none)) else (lex_Check.j0 k false)) else (lex_Check.j0 k false))) else (none)) else (if a0_0=0 then (some 114) else ((lex_Kind.f a0_1).bind fun t421=>(if t421=a0_0 then (some 0) else (some 114))))
theorem lex_Check.mono_l:∀ k,(∀ y0,LeO (lex_Check.j0 k y0) (lex_Check.j0 (k+1) y0))
 | 0=>fun _ r h=>by simp [lex_Check.j0] at h
 | k+1=>by
  have ih0:=lex_Check.mono_l k
  ·intro y0;unfold lex_Check.j0;repeat' first
   | (with_reducible exact ih0 _)
   | (with_reducible exact LeO.refl _)
   | (with_reducible exact LeO.none _)
   | (with_reducible refine LeO.ite ?_ ?_)
   | (with_reducible refine LeO.bind ?_ (fun _=>?_))
   | exact LeO.none _
   | refine LeO.ite ?_ ?_
   | refine LeO.bind ?_ (fun _=>?_)
theorem lex_Check.mono:∀ a0 a1 a2 k,LeO (lex_Check.f k a0 a1 a2) (lex_Check.f (k+1) a0 a1 a2):=by
 intro a0 a1 a2 k;have ih0:=lex_Check.mono_l k;unfold lex_Check.f;repeat' first
   | (with_reducible exact ih0 _)
   | (with_reducible exact LeO.refl _)
   | (with_reducible exact LeO.none _)
   | (with_reducible refine LeO.ite ?_ ?_)
   | (with_reducible refine LeO.bind ?_ (fun _=>?_))
   | exact LeO.none _
   | refine LeO.ite ?_ ?_
   | refine LeO.bind ?_ (fun _=>?_)
def lex_Check.T3:Bool × List (List Nat × List Nat):=(true,[([],[]),([0],[0]),([1],[1]),([2],[2]),([3,2],[2,3]),([4,2],[2,4]),([2,5],[2,5]),([6,2],[6]),([7],[7]),([8,7],[7,8]),([9,7],[7,9]),([10,7],[7,10]),([11,7],[7,11]),([7,12],[7,12]),([13,7],[13]),([14],[14]),([15,14],[14,15]),([16,14],[14,16]),([17,14],[14,17]),([14],[14]),([19,14],[14,19]),([18,20,14],[14,18,20]),([14,21],[14,21])])
def lex_Check.B3:List Nat:=[0,1,3,7,15,31,63,127,255,511,1023,2047,4095,8191,16383,32767,65535,131071,262143,32767,557055,2097151,4194303]
theorem lex_Check.tab3:rtab .any (opsOf Tryz.f36 3)=lex_Check.T3:=by kernel_rfl
theorem lex_Check.bits3:waitsOk lex_Check.T3.2 lex_Check.B3=true:=by kernel_rfl
def lex_Check.T6:Bool × List (List Nat × List Nat):=(true,[([],[]),([0],[0]),([1],[1]),([2],[2]),([3],[3]),([4,3],[3,4]),([5,3,3],[3,5]),([3],[3]),([7,3],[3,7]),([6,8,3],[3,6,8]),([3,9],[3,9])])
def lex_Check.B6:List Nat:=[0,1,3,7,15,31,63,15,143,511,1023]
theorem lex_Check.tab6:rtab .any (opsOf Tryz.f36 6)=lex_Check.T6:=by kernel_rfl
theorem lex_Check.bits6:waitsOk lex_Check.T6.2 lex_Check.B6=true:=by kernel_rfl
set_option maxHeartbeats 8000000 in
set_option maxRecDepth 100000 in
theorem lex_Check.calls (k:Nat) (a0_0:Int) (a0_1:ByteArray) (a0_2:Int) (r:Int) (w:World) (h:lex_Check.f k a0_0 a0_1 a0_2=some r) (hgw:GW w) :
  Calls Tryz.prog 36 #[.agg #[.int .i64 a0_0,.string a0_1,.int .i64 a0_2]] w fun e w'=>e=.returned (.int .i64 r)∧Below w.heap.size w w':=by
 have hu38:=Tryz.underlying38;have HB:=Aside0.mk (Below.refl w.heap.size w);have H:(if a0_0=6 then (if 6+a0_1.size≤9223372036854775807 then ((lex_Scan.f ((⟨#[112,114,111,98,101,32]⟩:zB) ++ a0_1)).bind fun bt414=>(if bt414.2.2=0 then (if (bt414.1.length:Int)=2 then (if 1 < (bt414.1.length:Int) then (if ((rd_T38 bt414.1 1).f0)=6 then (lex_Check.j0 k (((rd_T38 bt414.1 1).f1).toList == a0_1.toList)) else (lex_Check.j0 k false)) else (none)) else (lex_Check.j0 k false)) else (lex_Check.j0 k false))) else (none)) else (if a0_0=0 then (some 114) else ((lex_Kind.f a0_1).bind fun t421=>(if t421=a0_0 then (some 0) else (some 114)))))=some r:=h;clear h;by_cases c2:a0_0=6
 ·rw [if_pos c2] at H;have c2b0:(a0_0 == 6)=true:=beq_iff_eq.mpr c2;have c2b1:(a0_0 != 6)=false:=bne_eq_false_iff_eq.mpr c2;clear c2;by_cases c3:6+a0_1.size≤9223372036854775807
  ·rw [if_pos c3] at H;have c3b0:=eq_true c3;have c3b1:decide (6+a0_1.size≤9223372036854775807)=true:=decide_eq_true c3;try have c3b2:(9223372036854775807 < 6+a0_1.size)=False:=eq_false (Nat.not_lt.2 c3)
   replace H:=Option.bind_eq_some_iff.mp H;obtain ⟨⟨t414,t415,t416⟩,A40,H⟩:=H;replace H:(if t416=0 then (if (t414.length:Int)=2 then (if 1 < (t414.length:Int) then (if ((rd_T38 t414 1).f0)=6 then (lex_Check.j0 k (((rd_T38 t414 1).f1).toList == a0_1.toList)) else (lex_Check.j0 k false)) else (none)) else (lex_Check.j0 k false)) else (lex_Check.j0 k false))=some r:=H;have A4:=Aside0.mk A40;clear A40;have HC5:=Aside0.mk H;clear H;go_enter Tryz.func36,Tryz.ntmps36
   go_upto_region 3 with (first | ((with_reducible refine gate_dst (N:=1) rfl ?_);(try (refine gate_guard (by rfl) ?_;dsimp only));refine box_event ?hg (N:=1) ?hd (cs:=#[.int .i64 a0_0,.string a0_1,.int .i64 a0_2]) (t:=38) ?hr ?_;(case hd=>rfl);(case hg=>rfl);(case hr=>first | (go_simp;done) | (go_simp;rfl));intro gb413 hg w6 hbox hb;have n0_:=Aside0.mk (below_step blw hb);have n1_:=Aside0.mk (hbox);have n2_:=Aside0.mk ((by rw [hg];exact (below_size blw):w.heap.size≤gb413));have n3_:=Aside0.mk ((by rw [hg];exact (below_size blw):w.heap.size≤gb413));clear HB;have HB:=n0_;have BK413:=n1_;have GW413:=n2_;have GE413:=n3_;clear n0_ n1_ n2_ n3_;clear hb hbox hg;have hcz7_0:w6.cell? ⟨gb413,0,none⟩=some (.int .i64 a0_0):=(blk_cell BK413.out 0).trans rfl;have hcz7_1:w6.cell? ⟨gb413,1,none⟩=some (.string a0_1):=(blk_cell BK413.out 1).trans rfl;have hcz7_2:w6.cell? ⟨gb413,2,none⟩=some (.int .i64 a0_2):=(blk_cell BK413.out 2).trans rfl;have hfz7_0:=blk_frozen BK413.out 0;have hfz7_1:=blk_frozen BK413.out 1;have hfz7_2:=blk_frozen BK413.out 2) | ((with_reducible refine gate_callee (f:=17) rfl ?_);refine goesL_ (some 13) rfl rfl Tryz.func17 (by kernel_rfl) rfl #[.string ((⟨#[112,114,111,98,101,32]⟩:zB) ++ a0_1)] rfl fq ?_;(with_reducible refine (lex_Scan.calls ((⟨#[112,114,111,98,101,32]⟩:zB) ++ a0_1) t414 t415 t416 _ A4.out gwx).mono ?_);rintro e w8 ⟨v417,rfl,ho0,hb⟩;refine ⟨_,rfl,?_⟩;have n0_:=Aside0.mk (Kd.R_lower (Kd.R_newB ho0 (g:=gb413) (o:=.cells #[.int .i64 a0_0,.string a0_1,.int .i64 a0_2] 38 (0,0)) bko) (below_size blw));have n1_:=Aside0.mk (blk_below (g:=gb413) (o:=.cells #[.int .i64 a0_0,.string a0_1,.int .i64 a0_2] 38 (0,0)) bko hb);have n2_:=Aside0.mk (below_step blw hb);clear BK413;clear HB;have HO418:=n0_;have BK413:=n1_;have HB:=n2_;clear n0_ n1_ n2_;(try clear hb);(try clear hb2);(try clear hk);(try clear hi);(try clear ho0)))
   (try simp only [Act.put,List.setIfInBounds_toArray,List.set_cons_zero,List.set_cons_succ]);go_cut [39] (fun v39 wc=>∃ (kq:Nat) (x39_4:Bool),v39=.bool x39_4∧Aside0 (lex_Check.j0 kq x39_4=some r)∧Aside0 (kq≤k)∧Aside0 (wc.heap[gb413]?=some (.cells #[.int .i64 a0_0,.string a0_1,.int .i64 a0_2] 38 (0,0)))∧Aside0 (Below w.heap.size w wc))
   case first =>
    have H:=HC5.out;clear HC5;by_cases c9:t416=0
    ·rw [if_pos c9] at H;have c9b0:(t416 == 0)=true:=beq_iff_eq.mpr c9;have c9b1:(t416 != 0)=false:=bne_eq_false_iff_eq.mpr c9;clear c9;(first | rw [c9b0] | (simp only [i64_w,i32_w];rw [c9b0]) | skip);by_cases c10:(t414.length:Int)=2
     ·rw [if_pos c10] at H;have c10b0:((t414.length:Int) == 2)=true:=beq_iff_eq.mpr c10;have c10b1:((t414.length:Int) != 2)=false:=bne_eq_false_iff_eq.mpr c10;clear c10;by_cases c11:1 < (t414.length:Int)
      ·rw [if_pos c11] at H;have c11b0:decide (1 < (t414.length:Int))=true:=decide_eq_true c11;have c11b1:decide (1 < t414.length)=true:=decide_eq_true (by omega);clear c11;by_cases c12:((rd_T38 t414 1).f0)=6
       ·rw [if_pos c12] at H;have c12b0:(((rd_T38 t414 1).f0) == 6)=true:=beq_iff_eq.mpr c12;have c12b1:(((rd_T38 t414 1).f0) != 6)=false:=bne_eq_false_iff_eq.mpr c12;clear c12;have H':=Aside0.mk H;clear H;try go_wp2
        have n0_:=Aside0.mk (Kd.R_drew HO418.out);have n1_:=Aside0.mk (blk_drew BK413.out);have n2_:=Aside0.mk (below_drew1 HB.out);clear HO418;clear BK413;clear HB;have HO418:=n0_;have BK413:=n1_;have HB:=n2_;clear n0_ n1_ n2_;obtain ⟨Ao14,co14,eo14⟩:=Kd.R_slice HO418.out;(first | subst eo14 | (injection eo14 with f1_ f2_ f3_;have f4_:=f1_.symm;have f5_:=f3_.symm;clear f1_ f2_ f3_;subst f4_;subst f5_));have p419:0≤(1:Int):=(by omega);have q419:1 < (t414.length:Int):=of_decide_eq_true asm;obtain ⟨ad419,e419,hx419_0,hx419_1,hx419_2⟩:=at_T38 (Kd.R_reads' HO418.out).2.2 1 p419 q419;cases e419;(try simp only [show (1:Int).toNat=1 from rfl,Nat.reduceMul,Nat.reduceEqDiff,Go.Addr.add,↓reduceIte] at hx419_0);(try simp only [show (1:Int).toNat=1 from rfl,Nat.reduceMul,Nat.reduceEqDiff,Go.Addr.add,↓reduceIte] at hx419_1);(try simp only [show (1:Int).toNat=1 from rfl,Nat.reduceMul,Nat.reduceEqDiff,Go.Addr.add,↓reduceIte] at hx419_2);have qi419:(1 < t414.length)=True:=eq_true (by omega);(try rw [show ((1:Int)).toNat=1 from rfl] at hx419_0);(try rw [show 1 * 3=3 from rfl] at hx419_0);(try rw [show ((1:Int)).toNat=1 from rfl] at hx419_1);(try rw [show 1 * 3=3 from rfl] at hx419_1);(try rw [show ((1:Int)).toNat=1 from rfl] at hx419_2);(try rw [show 1 * 3=3 from rfl] at hx419_2);replace p419:=eq_true p419;replace q419:=eq_true q419;have p420:0≤(1:Int):=(by omega);have q420:1 < (t414.length:Int):=of_decide_eq_true asm;obtain ⟨ad420,e420,hx420_0,hx420_1,hx420_2⟩:=at_T38 (Kd.R_reads' HO418.out).2.2 1 p420 q420;obtain rfl:ad419=ad420:=(by injection e420);(try simp only [show (1:Int).toNat=1 from rfl,Nat.reduceMul,Nat.reduceEqDiff,Go.Addr.add,↓reduceIte] at hx420_0);(try simp only [show (1:Int).toNat=1 from rfl,Nat.reduceMul,Nat.reduceEqDiff,Go.Addr.add,↓reduceIte] at hx420_1);(try simp only [show (1:Int).toNat=1 from rfl,Nat.reduceMul,Nat.reduceEqDiff,Go.Addr.add,↓reduceIte] at hx420_2);have qi420:(1 < t414.length)=True:=eq_true (by omega);(try rw [show ((1:Int)).toNat=1 from rfl] at hx420_0);(try rw [show 1 * 3=3 from rfl] at hx420_0);(try rw [show ((1:Int)).toNat=1 from rfl] at hx420_1);(try rw [show 1 * 3=3 from rfl] at hx420_1);(try rw [show ((1:Int)).toNat=1 from rfl] at hx420_2);(try rw [show 1 * 3=3 from rfl] at hx420_2);replace p420:=eq_true p420;replace q420:=eq_true q420;refine start_ (n:=23) (S:=fun w'=>w'.cell? ⟨gb413,0,none⟩=some (.int .i64 a0_0)∧w'.cell? ⟨gb413,1,none⟩=some (.string a0_1)∧w'.cell? ⟨gb413,2,none⟩=some (.int .i64 a0_2)∧w'.cell? ⟨ad419.block,ad419.off+3,none⟩=some (.int .i64 ((rd_T38 t414 1).f0))∧w'.cell? ⟨ad419.block,ad419.off+3+1,none⟩=some (.string ((rd_T38 t414 1).f1))∧w'.cell? ⟨ad419.block,ad419.off+3+2,none⟩=some (.int .i64 ((rd_T38 t414 1).f2))∧w'.cell? ⟨ad419.block,ad419.off+3,none⟩=some (.int .i64 ((rd_T38 t414 1).f0))∧w'.cell? ⟨ad419.block,ad419.off+3+1,none⟩=some (.string ((rd_T38 t414 1).f1))∧w'.cell? ⟨ad419.block,ad419.off+3+2,none⟩=some (.int .i64 ((rd_T38 t414 1).f2))) (ds:=[]) #[zF,zF,zF,zF,zF,zF,zF,zF,zF,zF,zF,zF,zF,zF,zF,zF,zF,zF,zF,zF,zF,zF,zF] (by kernel_rfl) rfl rfl ⟨(blk_cell BK413.out 0).trans rfl,(blk_cell BK413.out 1).trans rfl,(blk_cell BK413.out 2).trans rfl,hx419_0,hx419_1,hx419_2,hx420_0,hx420_1,hx420_2⟩ (fun hHeld=>?_);refine with_tabW lex_Check.tab3 lex_Check.bits3 (fun HT_ HW_=>?_);generalize w8.drew=w13 at HO418 BK413 HB hx419_0 hx419_1 hx419_2 hx420_0 hx420_1 hx420_2 hHeld ⊢;refine pure_ (i:=0) (N:=some 17) (v:=?_) (a':=?_) #[zT,zF,zF,zF,zF,zF,zF,zF,zF,zF,zF,zF,zF,zF,zF,zF,zF,zF,zF,zF,zF,zF,zF] rfl rfl (any_of HT_.out (by kernel_rfl)) (fun _ _ _ h=>h) (Or.inl ⟨by rfl,?_⟩) ?_ ?_;rotate_left
        ·intro w';go_simp;with_reducible rfl
        rotate_left
        ·exact zp
        refine pure_ (i:=1) (N:=some 18) (v:=?_) (a':=?_) #[zT,zT,zF,zF,zF,zF,zF,zF,zF,zF,zF,zF,zF,zF,zF,zF,zF,zF,zF,zF,zF,zF,zF] rfl rfl (any_of HT_.out (by kernel_rfl)) (fun _ _ _ h=>h) (Or.inl ⟨by rfl,?_⟩) ?_ ?_;rotate_left
        ·intro w';go_simp;with_reducible rfl
        rotate_left
        ·exact zp
        refine pure_ (i:=2) (N:=some 19) (v:=?_) (a':=?_) #[zT,zT,zT,zF,zF,zF,zF,zF,zF,zF,zF,zF,zF,zF,zF,zF,zF,zF,zF,zF,zF,zF,zF] rfl rfl (any_of HT_.out (by kernel_rfl)) (fun _ _ _ h=>h) (Or.inl ⟨by rfl,?_⟩) ?_ ?_;rotate_left
        ·intro w';go_simp;with_reducible rfl
        rotate_left
        ·exact zp
        refine pure_ (i:=3) (N:=some 20) (v:=?_) (a':=?_) #[zT,zT,zT,zT,zF,zF,zF,zF,zF,zF,zF,zF,zF,zF,zF,zF,zF,zF,zF,zF,zF,zF,zF] rfl rfl (any_of HT_.out (by kernel_rfl)) (fun _ _ _ h=>h) (Or.inl ⟨by rfl,?_⟩) ?_ ?_;rotate_left
        ·intro w';go_simp;with_reducible rfl
        rotate_left
        ·exact zp
        refine pure_ (i:=4) (N:=some 21) (v:=?_) (a':=?_) #[zT,zT,zT,zT,zT,zF,zF,zF,zF,zF,zF,zF,zF,zF,zF,zF,zF,zF,zF,zF,zF,zF,zF] rfl rfl (any_of HT_.out (by kernel_rfl)) (fun _ _ _ h=>h) (Or.inl ⟨by rfl,?_⟩) ?_ ?_;rotate_left
        ·intro w';go_simp;with_reducible rfl
        rotate_left
        ·exact zp
        refine pure_ (i:=5) (N:=some 22) (v:=?_) (a':=?_) #[zT,zT,zT,zT,zT,zT,zF,zF,zF,zF,zF,zF,zF,zF,zF,zF,zF,zF,zF,zF,zF,zF,zF] rfl rfl (any_of HT_.out (by kernel_rfl)) (fun _ _ _ h=>h) (Or.inl ⟨by rfl,?_⟩) ?_ ?_;rotate_left
        ·intro w';go_simp;with_reducible rfl
        rotate_left
        ·exact zp
        refine pure_ (i:=6) (N:=some 23) (v:=?_) (a':=?_) #[zT,zT,zT,zT,zT,zT,zT,zF,zF,zF,zF,zF,zF,zF,zF,zF,zF,zF,zF,zF,zF,zF,zF] rfl rfl (any_of HT_.out (by kernel_rfl)) (fun _ _ _ h=>h) (Or.inl ⟨by rfl,?_⟩) ?_ ?_;rotate_left
        ·intro w';go_simp;with_reducible rfl
        rotate_left
        ·exact zp
        refine pure_ (i:=7) (N:=some 24) (v:=?_) (a':=?_) #[zT,zT,zT,zT,zT,zT,zT,zT,zF,zF,zF,zF,zF,zF,zF,zF,zF,zF,zF,zF,zF,zF,zF] rfl rfl (any_of HT_.out (by kernel_rfl)) (fun _ _ _ h=>h) (Or.inl ⟨by rfl,?_⟩) ?_ ?_;rotate_left
        ·intro w';go_simp;with_reducible rfl
        rotate_left
        ·exact zp
        refine pure_ (i:=8) (N:=some 25) (v:=?_) (a':=?_) #[zT,zT,zT,zT,zT,zT,zT,zT,zT,zF,zF,zF,zF,zF,zF,zF,zF,zF,zF,zF,zF,zF,zF] rfl rfl (any_of HT_.out (by kernel_rfl)) (fun _ _ _ h=>h) (Or.inl ⟨by rfl,?_⟩) ?_ ?_;rotate_left
        ·intro w';go_simp;with_reducible rfl
        rotate_left
        ·exact zp
        refine pure_ (i:=9) (N:=some 26) (v:=?_) (a':=?_) #[zT,zT,zT,zT,zT,zT,zT,zT,zT,zT,zF,zF,zF,zF,zF,zF,zF,zF,zF,zF,zF,zF,zF] rfl rfl (any_of HT_.out (by kernel_rfl)) (fun _ _ _ h=>h) (Or.inl ⟨by rfl,?_⟩) ?_ ?_;rotate_left
        ·intro w';go_simp;with_reducible rfl
        rotate_left
        ·exact zp
        refine pure_ (i:=10) (N:=some 27) (v:=?_) (a':=?_) #[zT,zT,zT,zT,zT,zT,zT,zT,zT,zT,zT,zF,zF,zF,zF,zF,zF,zF,zF,zF,zF,zF,zF] rfl rfl (any_of HT_.out (by kernel_rfl)) (fun _ _ _ h=>h) (Or.inl ⟨by rfl,?_⟩) ?_ ?_;rotate_left
        ·intro w';go_simp;with_reducible rfl
        rotate_left
        ·exact zp
        refine take_ (i:=11) (N:=some 28) (v:=?_) (a':=?_) #[zT,zT,zT,zT,zT,zT,zT,zT,zT,zT,zT,zT,zF,zF,zF,zF,zF,zF,zF,zF,zF,zF,zF] rfl rfl (take_ofW HT_.out HW_.out (by kernel_rfl)) (fun _ _ _ h=>h) (Or.inl ⟨by rfl,?_⟩) hHeld ?_ ?_;rotate_left
        ·rintro w' ⟨s0,s1,s2,s3,s4,s5,s6,s7,s8⟩;go_simp;with_reducible rfl
        rotate_left
        ·exact zp
        refine pure_ (i:=12) (N:=some 29) (v:=?_) (a':=?_) #[zT,zT,zT,zT,zT,zT,zT,zT,zT,zT,zT,zT,zT,zF,zF,zF,zF,zF,zF,zF,zF,zF,zF] rfl rfl (any_of HT_.out (by kernel_rfl)) (fun _ _ _ h=>h) (Or.inl ⟨by rfl,?_⟩) ?_ ?_;rotate_left
        ·intro w';go_simp;with_reducible rfl
        rotate_left
        ·exact zp
        refine pure_ (i:=13) (N:=some 30) (v:=?_) (a':=?_) #[zT,zT,zT,zT,zT,zT,zT,zT,zT,zT,zT,zT,zT,zT,zF,zF,zF,zF,zF,zF,zF,zF,zF] rfl rfl (any_of HT_.out (by kernel_rfl)) (fun _ _ _ h=>h) (Or.inl ⟨by rfl,?_⟩) ?_ ?_;rotate_left
        ·intro w';go_simp;with_reducible rfl
        rotate_left
        ·exact zp
        refine pure_ (i:=14) (N:=some 31) (v:=?_) (a':=?_) #[zT,zT,zT,zT,zT,zT,zT,zT,zT,zT,zT,zT,zT,zT,zT,zF,zF,zF,zF,zF,zF,zF,zF] rfl rfl (any_of HT_.out (by kernel_rfl)) (fun _ _ _ h=>h) (Or.inl ⟨by rfl,?_⟩) ?_ ?_;rotate_left
        ·intro w';go_simp;with_reducible rfl
        rotate_left
        ·exact zp
        refine pure_ (i:=15) (N:=some 32) (v:=?_) (a':=?_) #[zT,zT,zT,zT,zT,zT,zT,zT,zT,zT,zT,zT,zT,zT,zT,zT,zF,zF,zF,zF,zF,zF,zF] rfl rfl (any_of HT_.out (by kernel_rfl)) (fun _ _ _ h=>h) (Or.inl ⟨by rfl,?_⟩) ?_ ?_;rotate_left
        ·intro w';go_simp;with_reducible rfl
        rotate_left
        ·exact zp
        refine pure_ (i:=16) (N:=some 33) (v:=?_) (a':=?_) #[zT,zT,zT,zT,zT,zT,zT,zT,zT,zT,zT,zT,zT,zT,zT,zT,zT,zF,zF,zF,zF,zF,zF] rfl rfl (any_of HT_.out (by kernel_rfl)) (fun _ _ _ h=>h) (Or.inl ⟨by rfl,?_⟩) ?_ ?_;rotate_left
        ·intro w';go_simp;with_reducible rfl
        rotate_left
        ·exact zp
        refine pure_ (i:=17) (N:=some 34) (v:=?_) (a':=?_) #[zT,zT,zT,zT,zT,zT,zT,zT,zT,zT,zT,zT,zT,zT,zT,zT,zT,zT,zF,zF,zF,zF,zF] rfl rfl (any_of HT_.out (by kernel_rfl)) (fun _ _ _ h=>h) (Or.inl ⟨by rfl,?_⟩) ?_ ?_;rotate_left
        ·intro w';go_simp;with_reducible rfl
        rotate_left
        ·exact zp
        refine pure_ (i:=19) (N:=some 36) (v:=?_) (a':=?_) #[zT,zT,zT,zT,zT,zT,zT,zT,zT,zT,zT,zT,zT,zT,zT,zT,zT,zT,zF,zT,zF,zF,zF] rfl rfl (any_of HT_.out (by kernel_rfl)) (fun _ _ _ h=>h) (Or.inl ⟨by rfl,?_⟩) ?_ ?_;rotate_left
        ·intro w';go_simp;with_reducible rfl
        rotate_left
        ·exact zp
        refine take_ (i:=18) (N:=some 35) (v:=?_) (a':=?_) #[zT,zT,zT,zT,zT,zT,zT,zT,zT,zT,zT,zT,zT,zT,zT,zT,zT,zT,zT,zT,zF,zF,zF] rfl rfl (take_ofW HT_.out HW_.out (by kernel_rfl)) (fun _ _ _ h=>h) (Or.inl ⟨by rfl,?_⟩) hHeld ?_ ?_;rotate_left
        ·rintro w' ⟨s0,s1,s2,s3,s4,s5,s6,s7,s8⟩;go_simp;with_reducible rfl
        rotate_left
        ·exact zp
        refine take_ (i:=20) (N:=some 37) (v:=?_) (a':=?_) #[zT,zT,zT,zT,zT,zT,zT,zT,zT,zT,zT,zT,zT,zT,zT,zT,zT,zT,zT,zT,zT,zF,zF] rfl rfl (take_ofW HT_.out HW_.out (by kernel_rfl)) (fun _ _ _ h=>h) (Or.inl ⟨by rfl,?_⟩) hHeld ?_ ?_;rotate_left
        ·rintro w' ⟨s0,s1,s2,s3,s4,s5,s6,s7,s8⟩;go_simp;with_reducible rfl
        rotate_left
        ·exact zp
        refine pure_ (i:=21) (N:=some 38) (v:=?_) (a':=?_) #[zT,zT,zT,zT,zT,zT,zT,zT,zT,zT,zT,zT,zT,zT,zT,zT,zT,zT,zT,zT,zT,zT,zF] rfl rfl (any_of HT_.out (by kernel_rfl)) (fun _ _ _ h=>h) (Or.inl ⟨by rfl,?_⟩) ?_ ?_;rotate_left
        ·intro w';go_simp;with_reducible rfl
        rotate_left
        ·exact zp
        refine pure_ (i:=22) (N:=some 39) (v:=?_) (a':=?_) #[zT,zT,zT,zT,zT,zT,zT,zT,zT,zT,zT,zT,zT,zT,zT,zT,zT,zT,zT,zT,zT,zT,zT] rfl rfl (any_of HT_.out (by kernel_rfl)) (fun _ _ _ h=>h) (Or.inl ⟨by rfl,?_⟩) ?_ ?_;rotate_left
        ·intro w';go_simp;with_reducible rfl
        rotate_left
        ·exact zp
        refine done_ (done_of HT_.out (by kernel_rfl)) ?_;try go_wp2
        go_meet
        case rel=>exact ⟨_,((((rd_T38 t414 1).f1).toList == a0_1.toList)),rsd,H',⟨by first | omega | exact Nat.le_refl _⟩,⟨bko⟩,⟨blw⟩⟩
       ·rw [if_neg c12] at H;have c12b0:(((rd_T38 t414 1).f0) == 6)=false:=beq_eq_false_iff_ne.mpr c12;have c12b1:(((rd_T38 t414 1).f0) != 6)=true:=bne_iff_ne.mpr c12;have H':=Aside0.mk H;clear H;try go_wp2
        have n0_:=Aside0.mk (Kd.R_drew HO418.out);have n1_:=Aside0.mk (blk_drew BK413.out);have n2_:=Aside0.mk (below_drew1 HB.out);clear HO418;clear BK413;clear HB;have HO418:=n0_;have BK413:=n1_;have HB:=n2_;clear n0_ n1_ n2_;obtain ⟨Ao16,co16,eo16⟩:=Kd.R_slice HO418.out;(first | subst eo16 | (injection eo16 with f1_ f2_ f3_;have f4_:=f1_.symm;have f5_:=f3_.symm;clear f1_ f2_ f3_;subst f4_;subst f5_));have p419:0≤(1:Int):=(by omega);have q419:1 < (t414.length:Int):=of_decide_eq_true asm;obtain ⟨ad419,e419,hx419_0,hx419_1,hx419_2⟩:=at_T38 (Kd.R_reads' HO418.out).2.2 1 p419 q419;cases e419;(try simp only [show (1:Int).toNat=1 from rfl,Nat.reduceMul,Nat.reduceEqDiff,Go.Addr.add,↓reduceIte] at hx419_0);(try simp only [show (1:Int).toNat=1 from rfl,Nat.reduceMul,Nat.reduceEqDiff,Go.Addr.add,↓reduceIte] at hx419_1);(try simp only [show (1:Int).toNat=1 from rfl,Nat.reduceMul,Nat.reduceEqDiff,Go.Addr.add,↓reduceIte] at hx419_2);have qi419:(1 < t414.length)=True:=eq_true (by omega);(try rw [show ((1:Int)).toNat=1 from rfl] at hx419_0);(try rw [show 1 * 3=3 from rfl] at hx419_0);(try rw [show ((1:Int)).toNat=1 from rfl] at hx419_1);(try rw [show 1 * 3=3 from rfl] at hx419_1);(try rw [show ((1:Int)).toNat=1 from rfl] at hx419_2);(try rw [show 1 * 3=3 from rfl] at hx419_2);replace p419:=eq_true p419;replace q419:=eq_true q419;refine start_ (n:=23) (S:=fun w'=>w'.cell? ⟨ad419.block,ad419.off+3,none⟩=some (.int .i64 ((rd_T38 t414 1).f0))∧w'.cell? ⟨ad419.block,ad419.off+3+1,none⟩=some (.string ((rd_T38 t414 1).f1))∧w'.cell? ⟨ad419.block,ad419.off+3+2,none⟩=some (.int .i64 ((rd_T38 t414 1).f2))) (ds:=[]) #[zF,zF,zF,zF,zF,zF,zF,zF,zF,zF,zF,zF,zF,zF,zF,zF,zF,zF,zF,zF,zF,zF,zF] (by kernel_rfl) rfl rfl ⟨hx419_0,hx419_1,hx419_2⟩ (fun hHeld=>?_);refine with_tabW lex_Check.tab3 lex_Check.bits3 (fun HT_ HW_=>?_);generalize w8.drew=w15 at HO418 BK413 HB hx419_0 hx419_1 hx419_2 hHeld ⊢;refine pure_ (i:=0) (N:=some 17) (v:=?_) (a':=?_) #[zT,zF,zF,zF,zF,zF,zF,zF,zF,zF,zF,zF,zF,zF,zF,zF,zF,zF,zF,zF,zF,zF,zF] rfl rfl (any_of HT_.out (by kernel_rfl)) (fun _ _ _ h=>h) (Or.inl ⟨by rfl,?_⟩) ?_ ?_;rotate_left
        ·intro w';go_simp;with_reducible rfl
        rotate_left
        ·exact zp
        refine pure_ (i:=1) (N:=some 18) (v:=?_) (a':=?_) #[zT,zT,zF,zF,zF,zF,zF,zF,zF,zF,zF,zF,zF,zF,zF,zF,zF,zF,zF,zF,zF,zF,zF] rfl rfl (any_of HT_.out (by kernel_rfl)) (fun _ _ _ h=>h) (Or.inl ⟨by rfl,?_⟩) ?_ ?_;rotate_left
        ·intro w';go_simp;with_reducible rfl
        rotate_left
        ·exact zp
        refine pure_ (i:=2) (N:=some 19) (v:=?_) (a':=?_) #[zT,zT,zT,zF,zF,zF,zF,zF,zF,zF,zF,zF,zF,zF,zF,zF,zF,zF,zF,zF,zF,zF,zF] rfl rfl (any_of HT_.out (by kernel_rfl)) (fun _ _ _ h=>h) (Or.inl ⟨by rfl,?_⟩) ?_ ?_;rotate_left
        ·intro w';go_simp;with_reducible rfl
        rotate_left
        ·exact zp
        refine pure_ (i:=3) (N:=some 20) (v:=?_) (a':=?_) #[zT,zT,zT,zT,zF,zF,zF,zF,zF,zF,zF,zF,zF,zF,zF,zF,zF,zF,zF,zF,zF,zF,zF] rfl rfl (any_of HT_.out (by kernel_rfl)) (fun _ _ _ h=>h) (Or.inl ⟨by rfl,?_⟩) ?_ ?_;rotate_left
        ·intro w';go_simp;with_reducible rfl
        rotate_left
        ·exact zp
        refine pure_ (i:=4) (N:=some 21) (v:=?_) (a':=?_) #[zT,zT,zT,zT,zT,zF,zF,zF,zF,zF,zF,zF,zF,zF,zF,zF,zF,zF,zF,zF,zF,zF,zF] rfl rfl (any_of HT_.out (by kernel_rfl)) (fun _ _ _ h=>h) (Or.inl ⟨by rfl,?_⟩) ?_ ?_;rotate_left
        ·intro w';go_simp;with_reducible rfl
        rotate_left
        ·exact zp
        refine pure_ (i:=5) (N:=some 22) (v:=?_) (a':=?_) #[zT,zT,zT,zT,zT,zT,zF,zF,zF,zF,zF,zF,zF,zF,zF,zF,zF,zF,zF,zF,zF,zF,zF] rfl rfl (any_of HT_.out (by kernel_rfl)) (fun _ _ _ h=>h) (Or.inl ⟨by rfl,?_⟩) ?_ ?_;rotate_left
        ·intro w';go_simp;with_reducible rfl
        rotate_left
        ·exact zp
        refine pure_ (i:=6) (N:=some 23) (v:=?_) (a':=?_) #[zT,zT,zT,zT,zT,zT,zT,zF,zF,zF,zF,zF,zF,zF,zF,zF,zF,zF,zF,zF,zF,zF,zF] rfl rfl (any_of HT_.out (by kernel_rfl)) (fun _ _ _ h=>h) (Or.inl ⟨by rfl,?_⟩) ?_ ?_;rotate_left
        ·intro w';go_simp;with_reducible rfl
        rotate_left
        ·exact zp
        refine pure_ (i:=7) (N:=some 24) (v:=?_) (a':=?_) #[zT,zT,zT,zT,zT,zT,zT,zT,zF,zF,zF,zF,zF,zF,zF,zF,zF,zF,zF,zF,zF,zF,zF] rfl rfl (any_of HT_.out (by kernel_rfl)) (fun _ _ _ h=>h) (Or.inl ⟨by rfl,?_⟩) ?_ ?_;rotate_left
        ·intro w';go_simp;with_reducible rfl
        rotate_left
        ·exact zp
        refine pure_ (i:=8) (N:=some 25) (v:=?_) (a':=?_) #[zT,zT,zT,zT,zT,zT,zT,zT,zT,zF,zF,zF,zF,zF,zF,zF,zF,zF,zF,zF,zF,zF,zF] rfl rfl (any_of HT_.out (by kernel_rfl)) (fun _ _ _ h=>h) (Or.inl ⟨by rfl,?_⟩) ?_ ?_;rotate_left
        ·intro w';go_simp;with_reducible rfl
        rotate_left
        ·exact zp
        refine pure_ (i:=9) (N:=some 26) (v:=?_) (a':=?_) #[zT,zT,zT,zT,zT,zT,zT,zT,zT,zT,zF,zF,zF,zF,zF,zF,zF,zF,zF,zF,zF,zF,zF] rfl rfl (any_of HT_.out (by kernel_rfl)) (fun _ _ _ h=>h) (Or.inl ⟨by rfl,?_⟩) ?_ ?_;rotate_left
        ·intro w';go_simp;with_reducible rfl
        rotate_left
        ·exact zp
        refine pure_ (i:=10) (N:=some 27) (v:=?_) (a':=?_) #[zT,zT,zT,zT,zT,zT,zT,zT,zT,zT,zT,zF,zF,zF,zF,zF,zF,zF,zF,zF,zF,zF,zF] rfl rfl (any_of HT_.out (by kernel_rfl)) (fun _ _ _ h=>h) (Or.inl ⟨by rfl,?_⟩) ?_ ?_;rotate_left
        ·intro w';go_simp;with_reducible rfl
        rotate_left
        ·exact zp
        refine take_ (i:=11) (N:=some 28) (v:=?_) (a':=?_) #[zT,zT,zT,zT,zT,zT,zT,zT,zT,zT,zT,zT,zF,zF,zF,zF,zF,zF,zF,zF,zF,zF,zF] rfl rfl (take_ofW HT_.out HW_.out (by kernel_rfl)) (fun _ _ _ h=>h) (Or.inl ⟨by rfl,?_⟩) hHeld ?_ ?_;rotate_left
        ·rintro w' ⟨s0,s1,s2⟩;go_simp;with_reducible rfl
        rotate_left
        ·exact zp
        refine pure_ (i:=12) (N:=some 29) (v:=?_) (a':=?_) #[zT,zT,zT,zT,zT,zT,zT,zT,zT,zT,zT,zT,zT,zF,zF,zF,zF,zF,zF,zF,zF,zF,zF] rfl rfl (any_of HT_.out (by kernel_rfl)) (fun _ _ _ h=>h) (Or.inl ⟨by rfl,?_⟩) ?_ ?_;rotate_left
        ·intro w';go_simp;with_reducible rfl
        rotate_left
        ·exact zp
        refine pure_ (i:=13) (N:=some 30) (v:=?_) (a':=?_) #[zT,zT,zT,zT,zT,zT,zT,zT,zT,zT,zT,zT,zT,zT,zF,zF,zF,zF,zF,zF,zF,zF,zF] rfl rfl (any_of HT_.out (by kernel_rfl)) (fun _ _ _ h=>h) (Or.inl ⟨by rfl,?_⟩) ?_ ?_;rotate_left
        ·intro w';go_simp;with_reducible rfl
        rotate_left
        ·exact zp
        refine pure_ (i:=14) (N:=some 31) (v:=?_) (a':=?_) #[zT,zT,zT,zT,zT,zT,zT,zT,zT,zT,zT,zT,zT,zT,zT,zF,zF,zF,zF,zF,zF,zF,zF] rfl rfl (any_of HT_.out (by kernel_rfl)) (fun _ _ _ h=>h) (Or.inl ⟨by rfl,?_⟩) ?_ ?_;rotate_left
        ·intro w';go_simp;with_reducible rfl
        rotate_left
        ·exact zp
        refine pure_ (i:=15) (N:=some 32) (v:=undef) (a':=?_) #[zT,zT,zT,zT,zT,zT,zT,zT,zT,zT,zT,zT,zT,zT,zT,zT,zF,zF,zF,zF,zF,zF,zF] rfl rfl (any_of HT_.out (by kernel_rfl)) (fun _ _ _ h=>h) (Or.inr ⟨by rfl,rfl⟩) ?_ ?_;rotate_left
        ·exact zp
        refine pure_ (i:=16) (N:=some 33) (v:=undef) (a':=?_) #[zT,zT,zT,zT,zT,zT,zT,zT,zT,zT,zT,zT,zT,zT,zT,zT,zT,zF,zF,zF,zF,zF,zF] rfl rfl (any_of HT_.out (by kernel_rfl)) (fun _ _ _ h=>h) (Or.inr ⟨by rfl,rfl⟩) ?_ ?_;rotate_left
        ·exact zp
        refine pure_ (i:=17) (N:=some 34) (v:=undef) (a':=?_) #[zT,zT,zT,zT,zT,zT,zT,zT,zT,zT,zT,zT,zT,zT,zT,zT,zT,zT,zF,zF,zF,zF,zF] rfl rfl (any_of HT_.out (by kernel_rfl)) (fun _ _ _ h=>h) (Or.inr ⟨by rfl,rfl⟩) ?_ ?_;rotate_left
        ·exact zp
        refine pure_ (i:=18) (N:=some 35) (v:=undef) (a':=?_) #[zT,zT,zT,zT,zT,zT,zT,zT,zT,zT,zT,zT,zT,zT,zT,zT,zT,zT,zT,zF,zF,zF,zF] rfl rfl (any_of HT_.out (by kernel_rfl)) (fun _ _ _ h=>h) (Or.inr ⟨by rfl,rfl⟩) ?_ ?_;rotate_left
        ·exact zp
        refine pure_ (i:=19) (N:=some 36) (v:=undef) (a':=?_) #[zT,zT,zT,zT,zT,zT,zT,zT,zT,zT,zT,zT,zT,zT,zT,zT,zT,zT,zT,zT,zF,zF,zF] rfl rfl (any_of HT_.out (by kernel_rfl)) (fun _ _ _ h=>h) (Or.inr ⟨by rfl,rfl⟩) ?_ ?_;rotate_left
        ·exact zp
        refine pure_ (i:=20) (N:=some 37) (v:=undef) (a':=?_) #[zT,zT,zT,zT,zT,zT,zT,zT,zT,zT,zT,zT,zT,zT,zT,zT,zT,zT,zT,zT,zT,zF,zF] rfl rfl (any_of HT_.out (by kernel_rfl)) (fun _ _ _ h=>h) (Or.inr ⟨by rfl,rfl⟩) ?_ ?_;rotate_left
        ·exact zp
        refine pure_ (i:=21) (N:=some 38) (v:=undef) (a':=?_) #[zT,zT,zT,zT,zT,zT,zT,zT,zT,zT,zT,zT,zT,zT,zT,zT,zT,zT,zT,zT,zT,zT,zF] rfl rfl (any_of HT_.out (by kernel_rfl)) (fun _ _ _ h=>h) (Or.inr ⟨by rfl,rfl⟩) ?_ ?_;rotate_left
        ·exact zp
        refine pure_ (i:=22) (N:=some 39) (v:=?_) (a':=?_) #[zT,zT,zT,zT,zT,zT,zT,zT,zT,zT,zT,zT,zT,zT,zT,zT,zT,zT,zT,zT,zT,zT,zT] rfl rfl (any_of HT_.out (by kernel_rfl)) (fun _ _ _ h=>h) (Or.inl ⟨by rfl,?_⟩) ?_ ?_;rotate_left
        ·intro w';go_simp;with_reducible rfl
        rotate_left
        ·exact zp
        refine done_ (done_of HT_.out (by kernel_rfl)) ?_;try go_wp2
        go_meet
        case rel=>exact ⟨_,(false),rsd,H',⟨by first | omega | exact Nat.le_refl _⟩,⟨bko⟩,⟨blw⟩⟩
      ·rw [if_neg c11] at H;exact absurd H (by simp)
     ·rw [if_neg c10] at H;have c10b0:((t414.length:Int) == 2)=false:=beq_eq_false_iff_ne.mpr c10;have c10b1:((t414.length:Int) != 2)=true:=bne_iff_ne.mpr c10;have H':=Aside0.mk H;clear H;try go_wp2
      have n0_:=Aside0.mk (Kd.R_drew HO418.out);have n1_:=Aside0.mk (blk_drew BK413.out);have n2_:=Aside0.mk (below_drew1 HB.out);clear HO418;clear BK413;clear HB;have HO418:=n0_;have BK413:=n1_;have HB:=n2_;clear n0_ n1_ n2_;obtain ⟨Ao18,co18,eo18⟩:=Kd.R_slice HO418.out;(first | subst eo18 | (injection eo18 with f1_ f2_ f3_;have f4_:=f1_.symm;have f5_:=f3_.symm;clear f1_ f2_ f3_;subst f4_;subst f5_));refine start_ (n:=23) (S:=fun w'=>True) (ds:=[]) #[zF,zF,zF,zF,zF,zF,zF,zF,zF,zF,zF,zF,zF,zF,zF,zF,zF,zF,zF,zF,zF,zF,zF] (by kernel_rfl) rfl rfl trivial (fun hHeld=>?_);refine with_tabW lex_Check.tab3 lex_Check.bits3 (fun HT_ HW_=>?_);generalize w8.drew=w17 at HO418 BK413 HB hHeld ⊢;refine pure_ (i:=0) (N:=some 17) (v:=?_) (a':=?_) #[zT,zF,zF,zF,zF,zF,zF,zF,zF,zF,zF,zF,zF,zF,zF,zF,zF,zF,zF,zF,zF,zF,zF] rfl rfl (any_of HT_.out (by kernel_rfl)) (fun _ _ _ h=>h) (Or.inl ⟨by rfl,?_⟩) ?_ ?_;rotate_left
      ·intro w';go_simp;with_reducible rfl
      rotate_left
      ·exact zp
      refine pure_ (i:=1) (N:=some 18) (v:=?_) (a':=?_) #[zT,zT,zF,zF,zF,zF,zF,zF,zF,zF,zF,zF,zF,zF,zF,zF,zF,zF,zF,zF,zF,zF,zF] rfl rfl (any_of HT_.out (by kernel_rfl)) (fun _ _ _ h=>h) (Or.inl ⟨by rfl,?_⟩) ?_ ?_;rotate_left
      ·intro w';go_simp;with_reducible rfl
      rotate_left
      ·exact zp
      refine pure_ (i:=2) (N:=some 19) (v:=?_) (a':=?_) #[zT,zT,zT,zF,zF,zF,zF,zF,zF,zF,zF,zF,zF,zF,zF,zF,zF,zF,zF,zF,zF,zF,zF] rfl rfl (any_of HT_.out (by kernel_rfl)) (fun _ _ _ h=>h) (Or.inl ⟨by rfl,?_⟩) ?_ ?_;rotate_left
      ·intro w';go_simp;with_reducible rfl
      rotate_left
      ·exact zp
      refine pure_ (i:=3) (N:=some 20) (v:=?_) (a':=?_) #[zT,zT,zT,zT,zF,zF,zF,zF,zF,zF,zF,zF,zF,zF,zF,zF,zF,zF,zF,zF,zF,zF,zF] rfl rfl (any_of HT_.out (by kernel_rfl)) (fun _ _ _ h=>h) (Or.inl ⟨by rfl,?_⟩) ?_ ?_;rotate_left
      ·intro w';go_simp;with_reducible rfl
      rotate_left
      ·exact zp
      refine pure_ (i:=4) (N:=some 21) (v:=?_) (a':=?_) #[zT,zT,zT,zT,zT,zF,zF,zF,zF,zF,zF,zF,zF,zF,zF,zF,zF,zF,zF,zF,zF,zF,zF] rfl rfl (any_of HT_.out (by kernel_rfl)) (fun _ _ _ h=>h) (Or.inl ⟨by rfl,?_⟩) ?_ ?_;rotate_left
      ·intro w';go_simp;with_reducible rfl
      rotate_left
      ·exact zp
      refine pure_ (i:=5) (N:=some 22) (v:=?_) (a':=?_) #[zT,zT,zT,zT,zT,zT,zF,zF,zF,zF,zF,zF,zF,zF,zF,zF,zF,zF,zF,zF,zF,zF,zF] rfl rfl (any_of HT_.out (by kernel_rfl)) (fun _ _ _ h=>h) (Or.inl ⟨by rfl,?_⟩) ?_ ?_;rotate_left
      ·intro w';go_simp;with_reducible rfl
      rotate_left
      ·exact zp
      refine pure_ (i:=6) (N:=some 23) (v:=?_) (a':=?_) #[zT,zT,zT,zT,zT,zT,zT,zF,zF,zF,zF,zF,zF,zF,zF,zF,zF,zF,zF,zF,zF,zF,zF] rfl rfl (any_of HT_.out (by kernel_rfl)) (fun _ _ _ h=>h) (Or.inl ⟨by rfl,?_⟩) ?_ ?_;rotate_left
      ·intro w';go_simp;with_reducible rfl
      rotate_left
      ·exact zp
      refine pure_ (i:=7) (N:=some 24) (v:=?_) (a':=?_) #[zT,zT,zT,zT,zT,zT,zT,zT,zF,zF,zF,zF,zF,zF,zF,zF,zF,zF,zF,zF,zF,zF,zF] rfl rfl (any_of HT_.out (by kernel_rfl)) (fun _ _ _ h=>h) (Or.inl ⟨by rfl,?_⟩) ?_ ?_;rotate_left
      ·intro w';go_simp;with_reducible rfl
      rotate_left
      ·exact zp
      refine pure_ (i:=8) (N:=some 25) (v:=undef) (a':=?_) #[zT,zT,zT,zT,zT,zT,zT,zT,zT,zF,zF,zF,zF,zF,zF,zF,zF,zF,zF,zF,zF,zF,zF] rfl rfl (any_of HT_.out (by kernel_rfl)) (fun _ _ _ h=>h) (Or.inr ⟨by rfl,rfl⟩) ?_ ?_;rotate_left
      ·exact zp
      refine pure_ (i:=9) (N:=some 26) (v:=undef) (a':=?_) #[zT,zT,zT,zT,zT,zT,zT,zT,zT,zT,zF,zF,zF,zF,zF,zF,zF,zF,zF,zF,zF,zF,zF] rfl rfl (any_of HT_.out (by kernel_rfl)) (fun _ _ _ h=>h) (Or.inr ⟨by rfl,rfl⟩) ?_ ?_;rotate_left
      ·exact zp
      refine pure_ (i:=10) (N:=some 27) (v:=undef) (a':=?_) #[zT,zT,zT,zT,zT,zT,zT,zT,zT,zT,zT,zF,zF,zF,zF,zF,zF,zF,zF,zF,zF,zF,zF] rfl rfl (any_of HT_.out (by kernel_rfl)) (fun _ _ _ h=>h) (Or.inr ⟨by rfl,rfl⟩) ?_ ?_;rotate_left
      ·exact zp
      refine pure_ (i:=11) (N:=some 28) (v:=undef) (a':=?_) #[zT,zT,zT,zT,zT,zT,zT,zT,zT,zT,zT,zT,zF,zF,zF,zF,zF,zF,zF,zF,zF,zF,zF] rfl rfl (any_of HT_.out (by kernel_rfl)) (fun _ _ _ h=>h) (Or.inr ⟨by rfl,rfl⟩) ?_ ?_;rotate_left
      ·exact zp
      refine pure_ (i:=12) (N:=some 29) (v:=undef) (a':=?_) #[zT,zT,zT,zT,zT,zT,zT,zT,zT,zT,zT,zT,zT,zF,zF,zF,zF,zF,zF,zF,zF,zF,zF] rfl rfl (any_of HT_.out (by kernel_rfl)) (fun _ _ _ h=>h) (Or.inr ⟨by rfl,rfl⟩) ?_ ?_;rotate_left
      ·exact zp
      refine pure_ (i:=13) (N:=some 30) (v:=?_) (a':=?_) #[zT,zT,zT,zT,zT,zT,zT,zT,zT,zT,zT,zT,zT,zT,zF,zF,zF,zF,zF,zF,zF,zF,zF] rfl rfl (any_of HT_.out (by kernel_rfl)) (fun _ _ _ h=>h) (Or.inl ⟨by rfl,?_⟩) ?_ ?_;rotate_left
      ·intro w';go_simp;with_reducible rfl
      rotate_left
      ·exact zp
      refine pure_ (i:=14) (N:=some 31) (v:=?_) (a':=?_) #[zT,zT,zT,zT,zT,zT,zT,zT,zT,zT,zT,zT,zT,zT,zT,zF,zF,zF,zF,zF,zF,zF,zF] rfl rfl (any_of HT_.out (by kernel_rfl)) (fun _ _ _ h=>h) (Or.inl ⟨by rfl,?_⟩) ?_ ?_;rotate_left
      ·intro w';go_simp;with_reducible rfl
      rotate_left
      ·exact zp
      refine pure_ (i:=15) (N:=some 32) (v:=undef) (a':=?_) #[zT,zT,zT,zT,zT,zT,zT,zT,zT,zT,zT,zT,zT,zT,zT,zT,zF,zF,zF,zF,zF,zF,zF] rfl rfl (any_of HT_.out (by kernel_rfl)) (fun _ _ _ h=>h) (Or.inr ⟨by rfl,rfl⟩) ?_ ?_;rotate_left
      ·exact zp
      refine pure_ (i:=16) (N:=some 33) (v:=undef) (a':=?_) #[zT,zT,zT,zT,zT,zT,zT,zT,zT,zT,zT,zT,zT,zT,zT,zT,zT,zF,zF,zF,zF,zF,zF] rfl rfl (any_of HT_.out (by kernel_rfl)) (fun _ _ _ h=>h) (Or.inr ⟨by rfl,rfl⟩) ?_ ?_;rotate_left
      ·exact zp
      refine pure_ (i:=17) (N:=some 34) (v:=undef) (a':=?_) #[zT,zT,zT,zT,zT,zT,zT,zT,zT,zT,zT,zT,zT,zT,zT,zT,zT,zT,zF,zF,zF,zF,zF] rfl rfl (any_of HT_.out (by kernel_rfl)) (fun _ _ _ h=>h) (Or.inr ⟨by rfl,rfl⟩) ?_ ?_;rotate_left
      ·exact zp
      refine pure_ (i:=18) (N:=some 35) (v:=undef) (a':=?_) #[zT,zT,zT,zT,zT,zT,zT,zT,zT,zT,zT,zT,zT,zT,zT,zT,zT,zT,zT,zF,zF,zF,zF] rfl rfl (any_of HT_.out (by kernel_rfl)) (fun _ _ _ h=>h) (Or.inr ⟨by rfl,rfl⟩) ?_ ?_;rotate_left
      ·exact zp
      refine pure_ (i:=19) (N:=some 36) (v:=undef) (a':=?_) #[zT,zT,zT,zT,zT,zT,zT,zT,zT,zT,zT,zT,zT,zT,zT,zT,zT,zT,zT,zT,zF,zF,zF] rfl rfl (any_of HT_.out (by kernel_rfl)) (fun _ _ _ h=>h) (Or.inr ⟨by rfl,rfl⟩) ?_ ?_;rotate_left
      ·exact zp
      refine pure_ (i:=20) (N:=some 37) (v:=undef) (a':=?_) #[zT,zT,zT,zT,zT,zT,zT,zT,zT,zT,zT,zT,zT,zT,zT,zT,zT,zT,zT,zT,zT,zF,zF] rfl rfl (any_of HT_.out (by kernel_rfl)) (fun _ _ _ h=>h) (Or.inr ⟨by rfl,rfl⟩) ?_ ?_;rotate_left
      ·exact zp
      refine pure_ (i:=21) (N:=some 38) (v:=undef) (a':=?_) #[zT,zT,zT,zT,zT,zT,zT,zT,zT,zT,zT,zT,zT,zT,zT,zT,zT,zT,zT,zT,zT,zT,zF] rfl rfl (any_of HT_.out (by kernel_rfl)) (fun _ _ _ h=>h) (Or.inr ⟨by rfl,rfl⟩) ?_ ?_;rotate_left
      ·exact zp
      refine pure_ (i:=22) (N:=some 39) (v:=?_) (a':=?_) #[zT,zT,zT,zT,zT,zT,zT,zT,zT,zT,zT,zT,zT,zT,zT,zT,zT,zT,zT,zT,zT,zT,zT] rfl rfl (any_of HT_.out (by kernel_rfl)) (fun _ _ _ h=>h) (Or.inl ⟨by rfl,?_⟩) ?_ ?_;rotate_left
      ·intro w';go_simp;with_reducible rfl
      rotate_left
      ·exact zp
      refine done_ (done_of HT_.out (by kernel_rfl)) ?_;try go_wp2
      go_meet
      case rel=>exact ⟨_,(false),rsd,H',⟨by first | omega | exact Nat.le_refl _⟩,⟨bko⟩,⟨blw⟩⟩
    ·rw [if_neg c9] at H;have c9b0:(t416 == 0)=false:=beq_eq_false_iff_ne.mpr c9;have c9b1:(t416 != 0)=true:=bne_iff_ne.mpr c9;(first | rw [c9b0] | (simp only [i64_w,i32_w];rw [c9b0]) | skip);have H':=Aside0.mk H;clear H;try go_wp2
     have n0_:=Aside0.mk (Kd.R_drew HO418.out);have n1_:=Aside0.mk (blk_drew BK413.out);have n2_:=Aside0.mk (below_drew1 HB.out);clear HO418;clear BK413;clear HB;have HO418:=n0_;have BK413:=n1_;have HB:=n2_;clear n0_ n1_ n2_;refine start_ (n:=23) (S:=fun w'=>True) (ds:=[]) #[zF,zF,zF,zF,zF,zF,zF,zF,zF,zF,zF,zF,zF,zF,zF,zF,zF,zF,zF,zF,zF,zF,zF] (by kernel_rfl) rfl rfl trivial (fun hHeld=>?_);refine with_tabW lex_Check.tab3 lex_Check.bits3 (fun HT_ HW_=>?_);generalize w8.drew=w19 at HO418 BK413 HB hHeld ⊢;refine pure_ (i:=0) (N:=some 17) (v:=?_) (a':=?_) #[zT,zF,zF,zF,zF,zF,zF,zF,zF,zF,zF,zF,zF,zF,zF,zF,zF,zF,zF,zF,zF,zF,zF] rfl rfl (any_of HT_.out (by kernel_rfl)) (fun _ _ _ h=>h) (Or.inl ⟨by rfl,?_⟩) ?_ ?_;rotate_left
     ·intro w';go_simp;with_reducible rfl
     rotate_left
     ·exact zp
     refine pure_ (i:=1) (N:=some 18) (v:=?_) (a':=?_) #[zT,zT,zF,zF,zF,zF,zF,zF,zF,zF,zF,zF,zF,zF,zF,zF,zF,zF,zF,zF,zF,zF,zF] rfl rfl (any_of HT_.out (by kernel_rfl)) (fun _ _ _ h=>h) (Or.inl ⟨by rfl,?_⟩) ?_ ?_;rotate_left
     ·intro w';go_simp;with_reducible rfl
     rotate_left
     ·exact zp
     refine pure_ (i:=2) (N:=some 19) (v:=?_) (a':=?_) #[zT,zT,zT,zF,zF,zF,zF,zF,zF,zF,zF,zF,zF,zF,zF,zF,zF,zF,zF,zF,zF,zF,zF] rfl rfl (any_of HT_.out (by kernel_rfl)) (fun _ _ _ h=>h) (Or.inl ⟨by rfl,?_⟩) ?_ ?_;rotate_left
     ·intro w';go_simp;with_reducible rfl
     rotate_left
     ·exact zp
     refine pure_ (i:=3) (N:=some 20) (v:=undef) (a':=?_) #[zT,zT,zT,zT,zF,zF,zF,zF,zF,zF,zF,zF,zF,zF,zF,zF,zF,zF,zF,zF,zF,zF,zF] rfl rfl (any_of HT_.out (by kernel_rfl)) (fun _ _ _ h=>h) (Or.inr ⟨by rfl,rfl⟩) ?_ ?_;rotate_left
     ·exact zp
     refine pure_ (i:=4) (N:=some 21) (v:=undef) (a':=?_) #[zT,zT,zT,zT,zT,zF,zF,zF,zF,zF,zF,zF,zF,zF,zF,zF,zF,zF,zF,zF,zF,zF,zF] rfl rfl (any_of HT_.out (by kernel_rfl)) (fun _ _ _ h=>h) (Or.inr ⟨by rfl,rfl⟩) ?_ ?_;rotate_left
     ·exact zp
     refine pure_ (i:=5) (N:=some 22) (v:=undef) (a':=?_) #[zT,zT,zT,zT,zT,zT,zF,zF,zF,zF,zF,zF,zF,zF,zF,zF,zF,zF,zF,zF,zF,zF,zF] rfl rfl (any_of HT_.out (by kernel_rfl)) (fun _ _ _ h=>h) (Or.inr ⟨by rfl,rfl⟩) ?_ ?_;rotate_left
     ·exact zp
     refine pure_ (i:=6) (N:=some 23) (v:=?_) (a':=?_) #[zT,zT,zT,zT,zT,zT,zT,zF,zF,zF,zF,zF,zF,zF,zF,zF,zF,zF,zF,zF,zF,zF,zF] rfl rfl (any_of HT_.out (by kernel_rfl)) (fun _ _ _ h=>h) (Or.inl ⟨by rfl,?_⟩) ?_ ?_;rotate_left
     ·intro w';go_simp;with_reducible rfl
     rotate_left
     ·exact zp
     refine pure_ (i:=7) (N:=some 24) (v:=?_) (a':=?_) #[zT,zT,zT,zT,zT,zT,zT,zT,zF,zF,zF,zF,zF,zF,zF,zF,zF,zF,zF,zF,zF,zF,zF] rfl rfl (any_of HT_.out (by kernel_rfl)) (fun _ _ _ h=>h) (Or.inl ⟨by rfl,?_⟩) ?_ ?_;rotate_left
     ·intro w';go_simp;with_reducible rfl
     rotate_left
     ·exact zp
     refine pure_ (i:=8) (N:=some 25) (v:=undef) (a':=?_) #[zT,zT,zT,zT,zT,zT,zT,zT,zT,zF,zF,zF,zF,zF,zF,zF,zF,zF,zF,zF,zF,zF,zF] rfl rfl (any_of HT_.out (by kernel_rfl)) (fun _ _ _ h=>h) (Or.inr ⟨by rfl,rfl⟩) ?_ ?_;rotate_left
     ·exact zp
     refine pure_ (i:=9) (N:=some 26) (v:=undef) (a':=?_) #[zT,zT,zT,zT,zT,zT,zT,zT,zT,zT,zF,zF,zF,zF,zF,zF,zF,zF,zF,zF,zF,zF,zF] rfl rfl (any_of HT_.out (by kernel_rfl)) (fun _ _ _ h=>h) (Or.inr ⟨by rfl,rfl⟩) ?_ ?_;rotate_left
     ·exact zp
     refine pure_ (i:=10) (N:=some 27) (v:=undef) (a':=?_) #[zT,zT,zT,zT,zT,zT,zT,zT,zT,zT,zT,zF,zF,zF,zF,zF,zF,zF,zF,zF,zF,zF,zF] rfl rfl (any_of HT_.out (by kernel_rfl)) (fun _ _ _ h=>h) (Or.inr ⟨by rfl,rfl⟩) ?_ ?_;rotate_left
     ·exact zp
     refine pure_ (i:=11) (N:=some 28) (v:=undef) (a':=?_) #[zT,zT,zT,zT,zT,zT,zT,zT,zT,zT,zT,zT,zF,zF,zF,zF,zF,zF,zF,zF,zF,zF,zF] rfl rfl (any_of HT_.out (by kernel_rfl)) (fun _ _ _ h=>h) (Or.inr ⟨by rfl,rfl⟩) ?_ ?_;rotate_left
     ·exact zp
     refine pure_ (i:=12) (N:=some 29) (v:=undef) (a':=?_) #[zT,zT,zT,zT,zT,zT,zT,zT,zT,zT,zT,zT,zT,zF,zF,zF,zF,zF,zF,zF,zF,zF,zF] rfl rfl (any_of HT_.out (by kernel_rfl)) (fun _ _ _ h=>h) (Or.inr ⟨by rfl,rfl⟩) ?_ ?_;rotate_left
     ·exact zp
     refine pure_ (i:=13) (N:=some 30) (v:=?_) (a':=?_) #[zT,zT,zT,zT,zT,zT,zT,zT,zT,zT,zT,zT,zT,zT,zF,zF,zF,zF,zF,zF,zF,zF,zF] rfl rfl (any_of HT_.out (by kernel_rfl)) (fun _ _ _ h=>h) (Or.inl ⟨by rfl,?_⟩) ?_ ?_;rotate_left
     ·intro w';go_simp;with_reducible rfl
     rotate_left
     ·exact zp
     refine pure_ (i:=14) (N:=some 31) (v:=?_) (a':=?_) #[zT,zT,zT,zT,zT,zT,zT,zT,zT,zT,zT,zT,zT,zT,zT,zF,zF,zF,zF,zF,zF,zF,zF] rfl rfl (any_of HT_.out (by kernel_rfl)) (fun _ _ _ h=>h) (Or.inl ⟨by rfl,?_⟩) ?_ ?_;rotate_left
     ·intro w';go_simp;with_reducible rfl
     rotate_left
     ·exact zp
     refine pure_ (i:=15) (N:=some 32) (v:=undef) (a':=?_) #[zT,zT,zT,zT,zT,zT,zT,zT,zT,zT,zT,zT,zT,zT,zT,zT,zF,zF,zF,zF,zF,zF,zF] rfl rfl (any_of HT_.out (by kernel_rfl)) (fun _ _ _ h=>h) (Or.inr ⟨by rfl,rfl⟩) ?_ ?_;rotate_left
     ·exact zp
     refine pure_ (i:=16) (N:=some 33) (v:=undef) (a':=?_) #[zT,zT,zT,zT,zT,zT,zT,zT,zT,zT,zT,zT,zT,zT,zT,zT,zT,zF,zF,zF,zF,zF,zF] rfl rfl (any_of HT_.out (by kernel_rfl)) (fun _ _ _ h=>h) (Or.inr ⟨by rfl,rfl⟩) ?_ ?_;rotate_left
     ·exact zp
     refine pure_ (i:=17) (N:=some 34) (v:=undef) (a':=?_) #[zT,zT,zT,zT,zT,zT,zT,zT,zT,zT,zT,zT,zT,zT,zT,zT,zT,zT,zF,zF,zF,zF,zF] rfl rfl (any_of HT_.out (by kernel_rfl)) (fun _ _ _ h=>h) (Or.inr ⟨by rfl,rfl⟩) ?_ ?_;rotate_left
     ·exact zp
     refine pure_ (i:=18) (N:=some 35) (v:=undef) (a':=?_) #[zT,zT,zT,zT,zT,zT,zT,zT,zT,zT,zT,zT,zT,zT,zT,zT,zT,zT,zT,zF,zF,zF,zF] rfl rfl (any_of HT_.out (by kernel_rfl)) (fun _ _ _ h=>h) (Or.inr ⟨by rfl,rfl⟩) ?_ ?_;rotate_left
     ·exact zp
     refine pure_ (i:=19) (N:=some 36) (v:=undef) (a':=?_) #[zT,zT,zT,zT,zT,zT,zT,zT,zT,zT,zT,zT,zT,zT,zT,zT,zT,zT,zT,zT,zF,zF,zF] rfl rfl (any_of HT_.out (by kernel_rfl)) (fun _ _ _ h=>h) (Or.inr ⟨by rfl,rfl⟩) ?_ ?_;rotate_left
     ·exact zp
     refine pure_ (i:=20) (N:=some 37) (v:=undef) (a':=?_) #[zT,zT,zT,zT,zT,zT,zT,zT,zT,zT,zT,zT,zT,zT,zT,zT,zT,zT,zT,zT,zT,zF,zF] rfl rfl (any_of HT_.out (by kernel_rfl)) (fun _ _ _ h=>h) (Or.inr ⟨by rfl,rfl⟩) ?_ ?_;rotate_left
     ·exact zp
     refine pure_ (i:=21) (N:=some 38) (v:=undef) (a':=?_) #[zT,zT,zT,zT,zT,zT,zT,zT,zT,zT,zT,zT,zT,zT,zT,zT,zT,zT,zT,zT,zT,zT,zF] rfl rfl (any_of HT_.out (by kernel_rfl)) (fun _ _ _ h=>h) (Or.inr ⟨by rfl,rfl⟩) ?_ ?_;rotate_left
     ·exact zp
     refine pure_ (i:=22) (N:=some 39) (v:=?_) (a':=?_) #[zT,zT,zT,zT,zT,zT,zT,zT,zT,zT,zT,zT,zT,zT,zT,zT,zT,zT,zT,zT,zT,zT,zT] rfl rfl (any_of HT_.out (by kernel_rfl)) (fun _ _ _ h=>h) (Or.inl ⟨by rfl,?_⟩) ?_ ?_;rotate_left
     ·intro w';go_simp;with_reducible rfl
     rotate_left
     ·exact zp
     refine done_ (done_of HT_.out (by kernel_rfl)) ?_;try go_wp2
     go_meet
     case rel=>exact ⟨_,(false),rsd,H',⟨by first | omega | exact Nat.le_refl _⟩,⟨bko⟩,⟨blw⟩⟩
   case rest =>
    clear HC5;try clear c1
    try clear p2
    try clear p4
    try clear q4
    try clear hx4
    try clear qi4
    try clear c9
    try clear c9b0
    try clear c9b1
    try clear c10
    try clear c10b0
    try clear c10b1
    try clear c11
    try clear c12
    try clear c12b0
    try clear c12b1
    try clear hx419_0
    try clear hx419_1
    try clear hx419_2
    try clear p419
    try clear q419
    obtain ⟨kq,x39_4,rfl,HA,HJ4,BK413,HB⟩:=hcut;cases kq with
    | zero=>exact absurd HA.out (by simp [lex_Check.j0])
    | succ kj4 =>
     have H:=HA.out;clear HA;simp only [lex_Check.j0] at H;by_cases c20:x39_4=true
     ·subst c20;have H1:(some 0)=some r:=by rw [if_pos rfl] at H;exact H
      clear H;have H:=H1;clear H1;obtain rfl:=Option.some.inj H;go_wp2;go_ret;exact ⟨rew,blw⟩
     ·replace c20:=Bool.eq_false_iff.mpr c20;subst c20;have H1:(some 114)=some r:=by rw [if_neg (show ¬ (false=true) by decide)] at H;exact H
      clear H;have H:=H1;clear H1;obtain rfl:=Option.some.inj H;go_wp2;go_ret;exact ⟨rew,blw⟩
  ·rw [if_neg c3] at H;exact absurd H (by simp)
 ·rw [if_neg c2] at H;have c2b0:(a0_0 == 6)=false:=beq_eq_false_iff_ne.mpr c2;have c2b1:(a0_0 != 6)=true:=bne_iff_ne.mpr c2;by_cases c21:a0_0=0
  ·rw [if_pos c21] at H;have c21b0:(a0_0 == 0)=true:=beq_iff_eq.mpr c21;have c21b1:(a0_0 != 0)=false:=bne_eq_false_iff_eq.mpr c21;clear c21;obtain rfl:=Option.some.inj H;go_enter Tryz.func36,Tryz.ntmps36
   try go_wp2_with (first | ((with_reducible refine gate_dst (N:=1) rfl ?_);(try (refine gate_guard (by rfl) ?_;dsimp only));refine box_event ?hg (N:=1) ?hd (cs:=#[.int .i64 a0_0,.string a0_1,.int .i64 a0_2]) (t:=38) ?hr ?_;(case hd=>rfl);(case hg=>rfl);(case hr=>first | (go_simp;done) | (go_simp;rfl));intro gb413 hg w22 hbox hb;have n0_:=Aside0.mk (below_step blw hb);have n1_:=Aside0.mk (hbox);have n2_:=Aside0.mk ((by rw [hg];exact (below_size blw):w.heap.size≤gb413));have n3_:=Aside0.mk ((by rw [hg];exact (below_size blw):w.heap.size≤gb413));clear HB;have HB:=n0_;have BK413:=n1_;have GW413:=n2_;have GE413:=n3_;clear n0_ n1_ n2_ n3_;clear hb hbox hg;have hcz23_0:w22.cell? ⟨gb413,0,none⟩=some (.int .i64 a0_0):=(blk_cell BK413.out 0).trans rfl;have hcz23_1:w22.cell? ⟨gb413,1,none⟩=some (.string a0_1):=(blk_cell BK413.out 1).trans rfl;have hcz23_2:w22.cell? ⟨gb413,2,none⟩=some (.int .i64 a0_2):=(blk_cell BK413.out 2).trans rfl;have hfz23_0:=blk_frozen BK413.out 0;have hfz23_1:=blk_frozen BK413.out 1;have hfz23_2:=blk_frozen BK413.out 2))
   have n0_:=Aside0.mk (blk_drew BK413.out);have n1_:=Aside0.mk (below_drew1 HB.out);clear BK413;clear HB;have BK413:=n0_;have HB:=n1_;clear n0_ n1_;refine start_ (n:=11) (S:=fun w'=>w'.cell? ⟨gb413,0,none⟩=some (.int .i64 a0_0)∧w'.cell? ⟨gb413,1,none⟩=some (.string a0_1)∧w'.cell? ⟨gb413,2,none⟩=some (.int .i64 a0_2)) (ds:=[]) #[zF,zF,zF,zF,zF,zF,zF,zF,zF,zF,zF] (by kernel_rfl) rfl rfl ⟨(blk_cell BK413.out 0).trans rfl,(blk_cell BK413.out 1).trans rfl,(blk_cell BK413.out 2).trans rfl⟩ (fun hHeld=>?_);refine with_tabW lex_Check.tab6 lex_Check.bits6 (fun HT_ HW_=>?_);generalize w22.drew=w24 at BK413 HB hHeld ⊢;refine pure_ (i:=0) (N:=some 40) (v:=?_) (a':=?_) #[zT,zF,zF,zF,zF,zF,zF,zF,zF,zF,zF] rfl rfl (any_of HT_.out (by kernel_rfl)) (fun _ _ _ h=>h) (Or.inl ⟨by rfl,?_⟩) ?_ ?_;rotate_left
   ·intro w';go_simp;with_reducible rfl
   rotate_left
   ·exact zp
   refine take_ (i:=1) (N:=some 41) (v:=?_) (a':=?_) #[zT,zT,zF,zF,zF,zF,zF,zF,zF,zF,zF] rfl rfl (take_ofW HT_.out HW_.out (by kernel_rfl)) (fun _ _ _ h=>h) (Or.inl ⟨by rfl,?_⟩) hHeld ?_ ?_;rotate_left
   ·rintro w' ⟨s0,s1,s2⟩;go_simp;with_reducible rfl
   rotate_left
   ·exact zp
   refine pure_ (i:=2) (N:=some 42) (v:=?_) (a':=?_) #[zT,zT,zT,zF,zF,zF,zF,zF,zF,zF,zF] rfl rfl (any_of HT_.out (by kernel_rfl)) (fun _ _ _ h=>h) (Or.inl ⟨by rfl,?_⟩) ?_ ?_;rotate_left
   ·intro w';go_simp;with_reducible rfl
   rotate_left
   ·exact zp
   refine pure_ (i:=3) (N:=some 43) (v:=?_) (a':=?_) #[zT,zT,zT,zT,zF,zF,zF,zF,zF,zF,zF] rfl rfl (any_of HT_.out (by kernel_rfl)) (fun _ _ _ h=>h) (Or.inl ⟨by rfl,?_⟩) ?_ ?_;rotate_left
   ·intro w';go_simp;with_reducible rfl
   rotate_left
   ·exact zp
   refine pure_ (i:=4) (N:=some 44) (v:=undef) (a':=?_) #[zT,zT,zT,zT,zT,zF,zF,zF,zF,zF,zF] rfl rfl (any_of HT_.out (by kernel_rfl)) (fun _ _ _ h=>h) (Or.inr ⟨by rfl,rfl⟩) ?_ ?_;rotate_left
   ·exact zp
   refine pure_ (i:=5) (N:=some 45) (v:=undef) (a':=?_) #[zT,zT,zT,zT,zT,zT,zF,zF,zF,zF,zF] rfl rfl (any_of HT_.out (by kernel_rfl)) (fun _ _ _ h=>h) (Or.inr ⟨by rfl,rfl⟩) ?_ ?_;rotate_left
   ·exact zp
   refine pure_ (i:=6) (N:=some 46) (v:=undef) (a':=?_) #[zT,zT,zT,zT,zT,zT,zT,zF,zF,zF,zF] rfl rfl (any_of HT_.out (by kernel_rfl)) (fun _ _ _ h=>h) (Or.inr ⟨by rfl,rfl⟩) ?_ ?_;rotate_left
   ·exact zp
   refine pure_ (i:=7) (N:=some 47) (v:=undef) (a':=?_) #[zT,zT,zT,zT,zT,zT,zT,zT,zF,zF,zF] rfl rfl (any_of HT_.out (by kernel_rfl)) (fun _ _ _ h=>h) (Or.inr ⟨by rfl,rfl⟩) ?_ ?_;rotate_left
   ·exact zp
   refine pure_ (i:=8) (N:=some 48) (v:=undef) (a':=?_) #[zT,zT,zT,zT,zT,zT,zT,zT,zT,zF,zF] rfl rfl (any_of HT_.out (by kernel_rfl)) (fun _ _ _ h=>h) (Or.inr ⟨by rfl,rfl⟩) ?_ ?_;rotate_left
   ·exact zp
   refine pure_ (i:=9) (N:=some 49) (v:=undef) (a':=?_) #[zT,zT,zT,zT,zT,zT,zT,zT,zT,zT,zF] rfl rfl (any_of HT_.out (by kernel_rfl)) (fun _ _ _ h=>h) (Or.inr ⟨by rfl,rfl⟩) ?_ ?_;rotate_left
   ·exact zp
   refine pure_ (i:=10) (N:=some 50) (v:=?_) (a':=?_) #[zT,zT,zT,zT,zT,zT,zT,zT,zT,zT,zT] rfl rfl (any_of HT_.out (by kernel_rfl)) (fun _ _ _ h=>h) (Or.inl ⟨by rfl,?_⟩) ?_ ?_;rotate_left
   ·intro w';go_simp;with_reducible rfl
   rotate_left
   ·exact zp
   refine done_ (done_of HT_.out (by kernel_rfl)) ?_;try go_wp2
   go_ret;exact ⟨rew,blw⟩
  ·rw [if_neg c21] at H;have c21b0:(a0_0 == 0)=false:=beq_eq_false_iff_ne.mpr c21;have c21b1:(a0_0 != 0)=true:=bne_iff_ne.mpr c21;replace H:=Option.bind_eq_some_iff.mp H;obtain ⟨t421,A250,H⟩:=H;replace H:(if t421=a0_0 then (some 0) else (some 114))=some r:=H;have A25:=Aside0.mk A250;clear A250;by_cases c26:t421=a0_0
   ·rw [if_pos c26] at H;have c26b0:(t421 == a0_0)=true:=beq_iff_eq.mpr c26;have c26b1:(t421 != a0_0)=false:=bne_eq_false_iff_eq.mpr c26;clear c26;obtain rfl:=Option.some.inj H;go_enter Tryz.func36,Tryz.ntmps36
    try go_wp2_with (first | ((with_reducible refine gate_dst (N:=1) rfl ?_);(try (refine gate_guard (by rfl) ?_;dsimp only));refine box_event ?hg (N:=1) ?hd (cs:=#[.int .i64 a0_0,.string a0_1,.int .i64 a0_2]) (t:=38) ?hr ?_;(case hd=>rfl);(case hg=>rfl);(case hr=>first | (go_simp;done) | (go_simp;rfl));intro gb413 hg w27 hbox hb;have n0_:=Aside0.mk (below_step blw hb);have n1_:=Aside0.mk (hbox);have n2_:=Aside0.mk ((by rw [hg];exact (below_size blw):w.heap.size≤gb413));have n3_:=Aside0.mk ((by rw [hg];exact (below_size blw):w.heap.size≤gb413));clear HB;have HB:=n0_;have BK413:=n1_;have GW413:=n2_;have GE413:=n3_;clear n0_ n1_ n2_ n3_;clear hb hbox hg;have hcz28_0:w27.cell? ⟨gb413,0,none⟩=some (.int .i64 a0_0):=(blk_cell BK413.out 0).trans rfl;have hcz28_1:w27.cell? ⟨gb413,1,none⟩=some (.string a0_1):=(blk_cell BK413.out 1).trans rfl;have hcz28_2:w27.cell? ⟨gb413,2,none⟩=some (.int .i64 a0_2):=(blk_cell BK413.out 2).trans rfl;have hfz28_0:=blk_frozen BK413.out 0;have hfz28_1:=blk_frozen BK413.out 1;have hfz28_2:=blk_frozen BK413.out 2))
    have n0_:=Aside0.mk (blk_drew BK413.out);have n1_:=Aside0.mk (below_drew1 HB.out);clear BK413;clear HB;have BK413:=n0_;have HB:=n1_;clear n0_ n1_;refine start_ (n:=11) (S:=fun w'=>w'.cell? ⟨gb413,0,none⟩=some (.int .i64 a0_0)∧w'.cell? ⟨gb413,1,none⟩=some (.string a0_1)∧w'.cell? ⟨gb413,2,none⟩=some (.int .i64 a0_2)) (ds:=[]) #[zF,zF,zF,zF,zF,zF,zF,zF,zF,zF,zF] (by kernel_rfl) rfl rfl ⟨(blk_cell BK413.out 0).trans rfl,(blk_cell BK413.out 1).trans rfl,(blk_cell BK413.out 2).trans rfl⟩ (fun hHeld=>?_);refine with_tabW lex_Check.tab6 lex_Check.bits6 (fun HT_ HW_=>?_);generalize w27.drew=w29 at BK413 HB hHeld ⊢;refine pure_ (i:=0) (N:=some 40) (v:=?_) (a':=?_) #[zT,zF,zF,zF,zF,zF,zF,zF,zF,zF,zF] rfl rfl (any_of HT_.out (by kernel_rfl)) (fun _ _ _ h=>h) (Or.inl ⟨by rfl,?_⟩) ?_ ?_;rotate_left
    ·intro w';go_simp;with_reducible rfl
    rotate_left
    ·exact zp
    refine take_ (i:=1) (N:=some 41) (v:=?_) (a':=?_) #[zT,zT,zF,zF,zF,zF,zF,zF,zF,zF,zF] rfl rfl (take_ofW HT_.out HW_.out (by kernel_rfl)) (fun _ _ _ h=>h) (Or.inl ⟨by rfl,?_⟩) hHeld ?_ ?_;rotate_left
    ·rintro w' ⟨s0,s1,s2⟩;go_simp;with_reducible rfl
    rotate_left
    ·exact zp
    refine pure_ (i:=2) (N:=some 42) (v:=?_) (a':=?_) #[zT,zT,zT,zF,zF,zF,zF,zF,zF,zF,zF] rfl rfl (any_of HT_.out (by kernel_rfl)) (fun _ _ _ h=>h) (Or.inl ⟨by rfl,?_⟩) ?_ ?_;rotate_left
    ·intro w';go_simp;with_reducible rfl
    rotate_left
    ·exact zp
    refine pure_ (i:=3) (N:=some 43) (v:=?_) (a':=?_) #[zT,zT,zT,zT,zF,zF,zF,zF,zF,zF,zF] rfl rfl (any_of HT_.out (by kernel_rfl)) (fun _ _ _ h=>h) (Or.inl ⟨by rfl,?_⟩) ?_ ?_;rotate_left
    ·intro w';go_simp;with_reducible rfl
    rotate_left
    ·exact zp
    refine pure_ (i:=4) (N:=some 44) (v:=?_) (a':=?_) #[zT,zT,zT,zT,zT,zF,zF,zF,zF,zF,zF] rfl rfl (any_of HT_.out (by kernel_rfl)) (fun _ _ _ h=>h) (Or.inl ⟨by rfl,?_⟩) ?_ ?_;rotate_left
    ·intro w';go_simp;with_reducible rfl
    rotate_left
    ·exact zp
    refine pure_ (i:=7) (N:=some 47) (v:=?_) (a':=?_) #[zT,zT,zT,zT,zT,zF,zF,zT,zF,zF,zF] rfl rfl (any_of HT_.out (by kernel_rfl)) (fun _ _ _ h=>h) (Or.inl ⟨by rfl,?_⟩) ?_ ?_;rotate_left
    ·intro w';go_simp;with_reducible rfl
    rotate_left
    ·exact zp
    refine take_ (i:=5) (N:=some 45) (v:=?_) (a':=?_) #[zT,zT,zT,zT,zT,zT,zF,zT,zF,zF,zF] rfl rfl (take_ofW HT_.out HW_.out (by kernel_rfl)) (fun _ _ _ h=>h) (Or.inl ⟨by rfl,?_⟩) hHeld ?_ ?_;rotate_left
    ·rintro w' ⟨s0,s1,s2⟩;go_simp;with_reducible rfl
    rotate_left
    ·exact zp
    refine take_ (i:=8) (N:=some 48) (v:=?_) (a':=?_) #[zT,zT,zT,zT,zT,zT,zF,zT,zT,zF,zF] rfl rfl (take_ofW HT_.out HW_.out (by kernel_rfl)) (fun _ _ _ h=>h) (Or.inl ⟨by rfl,?_⟩) hHeld ?_ ?_;rotate_left
    ·rintro w' ⟨s0,s1,s2⟩;go_simp;with_reducible rfl
    rotate_left
    ·exact zp
    refine one_ (i:=6) (N:=some 46) #[zT,zT,zT,zT,zT,zT,zT,zT,zT,zF,zF] rfl rfl (one_of HT_.out (by kernel_rfl)) (by decide) (fun K hK=>?_);refine goes_ Tryz.func35 (by kernel_rfl) rfl #[.string a0_1] (by rfl) rfl rfl fq ?_;with_reducible refine (lex_Kind.calls a0_1 t421 _ A25.out gwx).mono ?_
    rintro e w30 ⟨rfl,hb⟩;refine ⟨_,rfl,?_⟩;have n0_:=Aside0.mk (blk_below (g:=gb413) (o:=.cells #[.int .i64 a0_0,.string a0_1,.int .i64 a0_2] 38 (0,0)) bko hb);have n1_:=Aside0.mk (below_step blw hb);clear BK413;clear HB;have BK413:=n0_;have HB:=n1_;clear n0_ n1_;(try clear hb);(try clear hb2);(try clear hk);(try clear hi);refine hK.out _ _ ⟨(blk_cell BK413.out 0).trans rfl,(blk_cell BK413.out 1).trans rfl,(blk_cell BK413.out 2).trans rfl⟩ (fun hHeld=>?_);clear hK K;refine norm_ (a':=?_) ?_ ?_;rotate_left
    ·show Act.put _ (some 46) _=_;simp only [Act.put,List.setIfInBounds_toArray,List.set_cons_zero,List.set_cons_succ,i64_w,i32_w];rfl
    refine pure_ (i:=9) (N:=some 49) (v:=?_) (a':=?_) #[zT,zT,zT,zT,zT,zT,zT,zT,zT,zT,zF] rfl rfl (any_of HT_.out (by kernel_rfl)) (fun _ _ _ h=>h) (Or.inl ⟨by rfl,?_⟩) ?_ ?_;rotate_left
    ·intro w';go_simp;with_reducible rfl
    rotate_left
    ·exact zp
    refine pure_ (i:=10) (N:=some 50) (v:=?_) (a':=?_) #[zT,zT,zT,zT,zT,zT,zT,zT,zT,zT,zT] rfl rfl (any_of HT_.out (by kernel_rfl)) (fun _ _ _ h=>h) (Or.inl ⟨by rfl,?_⟩) ?_ ?_;rotate_left
    ·intro w';go_simp;with_reducible rfl
    rotate_left
    ·exact zp
    refine done_ (done_of HT_.out (by kernel_rfl)) ?_;try go_wp2
    go_ret;exact ⟨rew,blw⟩
   ·rw [if_neg c26] at H;have c26b0:(t421 == a0_0)=false:=beq_eq_false_iff_ne.mpr c26;have c26b1:(t421 != a0_0)=true:=bne_iff_ne.mpr c26;obtain rfl:=Option.some.inj H;go_enter Tryz.func36,Tryz.ntmps36
    try go_wp2_with (first | ((with_reducible refine gate_dst (N:=1) rfl ?_);(try (refine gate_guard (by rfl) ?_;dsimp only));refine box_event ?hg (N:=1) ?hd (cs:=#[.int .i64 a0_0,.string a0_1,.int .i64 a0_2]) (t:=38) ?hr ?_;(case hd=>rfl);(case hg=>rfl);(case hr=>first | (go_simp;done) | (go_simp;rfl));intro gb413 hg w31 hbox hb;have n0_:=Aside0.mk (below_step blw hb);have n1_:=Aside0.mk (hbox);have n2_:=Aside0.mk ((by rw [hg];exact (below_size blw):w.heap.size≤gb413));have n3_:=Aside0.mk ((by rw [hg];exact (below_size blw):w.heap.size≤gb413));clear HB;have HB:=n0_;have BK413:=n1_;have GW413:=n2_;have GE413:=n3_;clear n0_ n1_ n2_ n3_;clear hb hbox hg;have hcz32_0:w31.cell? ⟨gb413,0,none⟩=some (.int .i64 a0_0):=(blk_cell BK413.out 0).trans rfl;have hcz32_1:w31.cell? ⟨gb413,1,none⟩=some (.string a0_1):=(blk_cell BK413.out 1).trans rfl;have hcz32_2:w31.cell? ⟨gb413,2,none⟩=some (.int .i64 a0_2):=(blk_cell BK413.out 2).trans rfl;have hfz32_0:=blk_frozen BK413.out 0;have hfz32_1:=blk_frozen BK413.out 1;have hfz32_2:=blk_frozen BK413.out 2))
    have n0_:=Aside0.mk (blk_drew BK413.out);have n1_:=Aside0.mk (below_drew1 HB.out);clear BK413;clear HB;have BK413:=n0_;have HB:=n1_;clear n0_ n1_;refine start_ (n:=11) (S:=fun w'=>w'.cell? ⟨gb413,0,none⟩=some (.int .i64 a0_0)∧w'.cell? ⟨gb413,1,none⟩=some (.string a0_1)∧w'.cell? ⟨gb413,2,none⟩=some (.int .i64 a0_2)) (ds:=[]) #[zF,zF,zF,zF,zF,zF,zF,zF,zF,zF,zF] (by kernel_rfl) rfl rfl ⟨(blk_cell BK413.out 0).trans rfl,(blk_cell BK413.out 1).trans rfl,(blk_cell BK413.out 2).trans rfl⟩ (fun hHeld=>?_);refine with_tabW lex_Check.tab6 lex_Check.bits6 (fun HT_ HW_=>?_);generalize w31.drew=w33 at BK413 HB hHeld ⊢;refine pure_ (i:=0) (N:=some 40) (v:=?_) (a':=?_) #[zT,zF,zF,zF,zF,zF,zF,zF,zF,zF,zF] rfl rfl (any_of HT_.out (by kernel_rfl)) (fun _ _ _ h=>h) (Or.inl ⟨by rfl,?_⟩) ?_ ?_;rotate_left
    ·intro w';go_simp;with_reducible rfl
    rotate_left
    ·exact zp
    refine take_ (i:=1) (N:=some 41) (v:=?_) (a':=?_) #[zT,zT,zF,zF,zF,zF,zF,zF,zF,zF,zF] rfl rfl (take_ofW HT_.out HW_.out (by kernel_rfl)) (fun _ _ _ h=>h) (Or.inl ⟨by rfl,?_⟩) hHeld ?_ ?_;rotate_left
    ·rintro w' ⟨s0,s1,s2⟩;go_simp;with_reducible rfl
    rotate_left
    ·exact zp
    refine pure_ (i:=2) (N:=some 42) (v:=?_) (a':=?_) #[zT,zT,zT,zF,zF,zF,zF,zF,zF,zF,zF] rfl rfl (any_of HT_.out (by kernel_rfl)) (fun _ _ _ h=>h) (Or.inl ⟨by rfl,?_⟩) ?_ ?_;rotate_left
    ·intro w';go_simp;with_reducible rfl
    rotate_left
    ·exact zp
    refine pure_ (i:=3) (N:=some 43) (v:=?_) (a':=?_) #[zT,zT,zT,zT,zF,zF,zF,zF,zF,zF,zF] rfl rfl (any_of HT_.out (by kernel_rfl)) (fun _ _ _ h=>h) (Or.inl ⟨by rfl,?_⟩) ?_ ?_;rotate_left
    ·intro w';go_simp;with_reducible rfl
    rotate_left
    ·exact zp
    refine pure_ (i:=4) (N:=some 44) (v:=?_) (a':=?_) #[zT,zT,zT,zT,zT,zF,zF,zF,zF,zF,zF] rfl rfl (any_of HT_.out (by kernel_rfl)) (fun _ _ _ h=>h) (Or.inl ⟨by rfl,?_⟩) ?_ ?_;rotate_left
    ·intro w';go_simp;with_reducible rfl
    rotate_left
    ·exact zp
    refine pure_ (i:=7) (N:=some 47) (v:=?_) (a':=?_) #[zT,zT,zT,zT,zT,zF,zF,zT,zF,zF,zF] rfl rfl (any_of HT_.out (by kernel_rfl)) (fun _ _ _ h=>h) (Or.inl ⟨by rfl,?_⟩) ?_ ?_;rotate_left
    ·intro w';go_simp;with_reducible rfl
    rotate_left
    ·exact zp
    refine take_ (i:=5) (N:=some 45) (v:=?_) (a':=?_) #[zT,zT,zT,zT,zT,zT,zF,zT,zF,zF,zF] rfl rfl (take_ofW HT_.out HW_.out (by kernel_rfl)) (fun _ _ _ h=>h) (Or.inl ⟨by rfl,?_⟩) hHeld ?_ ?_;rotate_left
    ·rintro w' ⟨s0,s1,s2⟩;go_simp;with_reducible rfl
    rotate_left
    ·exact zp
    refine take_ (i:=8) (N:=some 48) (v:=?_) (a':=?_) #[zT,zT,zT,zT,zT,zT,zF,zT,zT,zF,zF] rfl rfl (take_ofW HT_.out HW_.out (by kernel_rfl)) (fun _ _ _ h=>h) (Or.inl ⟨by rfl,?_⟩) hHeld ?_ ?_;rotate_left
    ·rintro w' ⟨s0,s1,s2⟩;go_simp;with_reducible rfl
    rotate_left
    ·exact zp
    refine one_ (i:=6) (N:=some 46) #[zT,zT,zT,zT,zT,zT,zT,zT,zT,zF,zF] rfl rfl (one_of HT_.out (by kernel_rfl)) (by decide) (fun K hK=>?_);refine goes_ Tryz.func35 (by kernel_rfl) rfl #[.string a0_1] (by rfl) rfl rfl fq ?_;with_reducible refine (lex_Kind.calls a0_1 t421 _ A25.out gwx).mono ?_
    rintro e w34 ⟨rfl,hb⟩;refine ⟨_,rfl,?_⟩;have n0_:=Aside0.mk (blk_below (g:=gb413) (o:=.cells #[.int .i64 a0_0,.string a0_1,.int .i64 a0_2] 38 (0,0)) bko hb);have n1_:=Aside0.mk (below_step blw hb);clear BK413;clear HB;have BK413:=n0_;have HB:=n1_;clear n0_ n1_;(try clear hb);(try clear hb2);(try clear hk);(try clear hi);refine hK.out _ _ ⟨(blk_cell BK413.out 0).trans rfl,(blk_cell BK413.out 1).trans rfl,(blk_cell BK413.out 2).trans rfl⟩ (fun hHeld=>?_);clear hK K;refine norm_ (a':=?_) ?_ ?_;rotate_left
    ·show Act.put _ (some 46) _=_;simp only [Act.put,List.setIfInBounds_toArray,List.set_cons_zero,List.set_cons_succ,i64_w,i32_w];rfl
    refine pure_ (i:=9) (N:=some 49) (v:=?_) (a':=?_) #[zT,zT,zT,zT,zT,zT,zT,zT,zT,zT,zF] rfl rfl (any_of HT_.out (by kernel_rfl)) (fun _ _ _ h=>h) (Or.inl ⟨by rfl,?_⟩) ?_ ?_;rotate_left
    ·intro w';go_simp;with_reducible rfl
    rotate_left
    ·exact zp
    refine pure_ (i:=10) (N:=some 50) (v:=?_) (a':=?_) #[zT,zT,zT,zT,zT,zT,zT,zT,zT,zT,zT] rfl rfl (any_of HT_.out (by kernel_rfl)) (fun _ _ _ h=>h) (Or.inl ⟨by rfl,?_⟩) ?_ ?_;rotate_left
    ·intro w';go_simp;with_reducible rfl
    rotate_left
    ·exact zp
    refine done_ (done_of HT_.out (by kernel_rfl)) ?_;try go_wp2
    go_ret;exact ⟨rew,blw⟩
def rzIsDesc.l0:Nat→ByteArray→Int→Option (Bool)
 | 0,_,_=>none
 | k+1,x0,x3=>if x3 < (x0.size:Int) then (if 0≤x3 then ((rzisDescByte.f k (bt x0 x3)).bind fun t422=>(if t422=true then (rzIsDesc.l0 k x0 (wrap64 (x3+1))) else (some false))) else (none)) else (if (x0.size:Int)≥1 then (some (decide ((x0.size:Int)≤200))) else (some false))
def rzIsDesc.f (k:Nat) (a0:ByteArray):Option (Bool):=rzIsDesc.l0 k a0 0
theorem rzIsDesc.mono_l:∀ k,(∀ y0 y1,LeO (rzIsDesc.l0 k y0 y1) (rzIsDesc.l0 (k+1) y0 y1))
 | 0=>fun _ _ r h=>by simp [rzIsDesc.l0] at h
 | k+1=>by
  have ih0:=rzIsDesc.mono_l k
  ·intro y0 y1;unfold rzIsDesc.l0;repeat' first
   | (with_reducible exact ih0 _ _)
   | (with_reducible exact rzisDescByte.mono _ _)
   | (with_reducible exact LeO.refl _)
   | (with_reducible exact LeO.none _)
   | (with_reducible refine LeO.ite ?_ ?_)
   | (with_reducible refine LeO.bind ?_ (fun _=>?_))
   | exact LeO.none _
   | refine LeO.ite ?_ ?_
   | refine LeO.bind ?_ (fun _=>?_)
theorem rzIsDesc.mono:∀ a0 k,LeO (rzIsDesc.f k a0) (rzIsDesc.f (k+1) a0):=by
 intro a0 k;have ih0:=rzIsDesc.mono_l k;unfold rzIsDesc.f;repeat' first
   | (with_reducible exact ih0 _ _)
   | (with_reducible exact rzisDescByte.mono _ _)
   | (with_reducible exact LeO.refl _)
   | (with_reducible exact LeO.none _)
   | (with_reducible refine LeO.ite ?_ ?_)
   | (with_reducible refine LeO.bind ?_ (fun _=>?_))
   | exact LeO.none _
   | refine LeO.ite ?_ ?_
   | refine LeO.bind ?_ (fun _=>?_)
set_option maxHeartbeats 8000000 in
set_option maxRecDepth 100000 in
theorem rzIsDesc.calls (k:Nat) (a0:ByteArray) (r:Bool) (w:World) (h:rzIsDesc.f k a0=some r) :
  Calls Tryz.prog 40 #[.string a0] w fun e w'=>e=.returned (.bool r)∧Drawn0 w w':=by
 have H:(rzIsDesc.l0 k a0 0)=some r:=h;clear h;have H':=Aside0.mk H;clear H;go_enter Tryz.func40,Tryz.ntmps40
 go_wp2;try simp only [Act.put,List.setIfInBounds_toArray,List.set_cons_zero,List.set_cons_succ]
 go_loopg [3] k (fun kq v3 w'=>∃ (x3_1:Int),v3=.int .i64 x3_1∧Aside0 (rzIsDesc.l0 kq a0 x3_1=some r)∧Aside0 (kq≤k)∧Drawn0 w w')
 case atStart=>exact ⟨(0),rsd,H',⟨Nat.le_refl _⟩,by repeat (first | exact Drawn0.refl _ | apply Drawn0.step)⟩
 case round =>
  clear H';obtain ⟨x3_1,rfl,HA,HK1,⟨m1,rfl⟩⟩:=hrel;cases gk with
  | zero=>exact absurd HA.out (by simp [rzIsDesc.l0])
  | succ k1 =>
   have H:=HA.out;clear HA;simp only [rzIsDesc.l0] at H;by_cases c2:x3_1 < (a0.size:Int)
   ·rw [if_pos c2] at H;have c2b0:decide (x3_1 < (a0.size:Int))=true:=decide_eq_true c2;clear c2;by_cases c3:0≤x3_1
    ·rw [if_pos c3] at H;have c3b0:decide (0≤x3_1)=true:=decide_eq_true c3;clear c3;replace H:=Option.bind_eq_some_iff.mp H;obtain ⟨t422,A50,H⟩:=H;replace H:(if t422=true then (rzIsDesc.l0 k1 a0 (wrap64 (x3_1+1))) else (some false))=some r:=H;have A5:=Aside0.mk A50;clear A50;by_cases c6:t422=true
     ·subst c6;have H1:(rzIsDesc.l0 k1 a0 (wrap64 (x3_1+1)))=some r:=by rw [if_pos rfl] at H;exact H
      clear H;have H:=H1;clear H1;have H':=Aside0.mk H;clear H;have p4:0≤(x3_1:Int):=of_decide_eq_true asm;have q4:x3_1 < (a0.size:Int):=of_decide_eq_true asm;have hx4:=bt_at a0 x3_1;replace p4:=eq_true p4;replace q4:=eq_true q4;go_wp2_with (first | ((with_reducible refine gate_callee (f:=70) rfl ?_);refine goesL_ (some 13) rfl rfl Tryz.func70 (by kernel_rfl) rfl #[.int .u8 (bt a0 x3_1)] rfl fq ?_;(with_reducible refine (rzisDescByte.calls k1 (bt a0 x3_1) true _ A5.out).mono ?_);rintro e w' ⟨rfl,⟨nd,rfl⟩⟩;refine ⟨_,rfl,?_⟩))
      go_roundg k1
      case measure=>have:=HK1.out;omega
      case rel=>exact ⟨(wrap64 (x3_1+1)),rsd,H',⟨by have:=HK1.out;omega⟩,by repeat (first | exact Drawn0.refl _ | apply Drawn0.step)⟩
     ·replace c6:=Bool.eq_false_iff.mpr c6;subst c6;have H1:(some false)=some r:=by rw [if_neg (show ¬ (false=true) by decide)] at H;exact H
      clear H;have H:=H1;clear H1;obtain rfl:=Option.some.inj H;have p4:0≤(x3_1:Int):=of_decide_eq_true asm;have q4:x3_1 < (a0.size:Int):=of_decide_eq_true asm;have hx4:=bt_at a0 x3_1;replace p4:=eq_true p4;replace q4:=eq_true q4;go_wp2_with (first | ((with_reducible refine gate_callee (f:=70) rfl ?_);refine goesL_ (some 13) rfl rfl Tryz.func70 (by kernel_rfl) rfl #[.int .u8 (bt a0 x3_1)] rfl fq ?_;(with_reducible refine (rzisDescByte.calls k1 (bt a0 x3_1) false _ A5.out).mono ?_);rintro e w' ⟨rfl,⟨nd,rfl⟩⟩;refine ⟨_,rfl,?_⟩))
      go_ret;exact ⟨by first | rfl | (simp;done) | (simp [*];done),by repeat (first | exact Drawn0.refl _ | apply Drawn0.step)⟩
    ·rw [if_neg c3] at H;exact absurd H (by simp)
   ·rw [if_neg c2] at H;have c2b0:decide (x3_1 < (a0.size:Int))=false:=decide_eq_false c2;clear c2;by_cases c7:(a0.size:Int)≥1
    ·rw [if_pos c7] at H;have c7b0:decide (1≤(a0.size:Int))=true:=decide_eq_true c7;have c7b1:decide (1≤a0.size)=true:=decide_eq_true (by omega);clear c7;obtain rfl:=Option.some.inj H;go_wp2;go_ret;exact ⟨by first | rfl | (simp;done) | (simp [*];done),by repeat (first | exact Drawn0.refl _ | apply Drawn0.step)⟩
    ·rw [if_neg c7] at H;have c7b0:decide (1≤(a0.size:Int))=false:=decide_eq_false c7;have c7b1:decide (1≤a0.size)=false:=decide_eq_false (by omega);clear c7;obtain rfl:=Option.some.inj H;go_wp2;go_ret;exact ⟨by first | rfl | (simp;done) | (simp [*];done),by repeat (first | exact Drawn0.refl _ | apply Drawn0.step)⟩
end Go.Proofs.YtadgddipkbdnbaaGreatDoor.Q
