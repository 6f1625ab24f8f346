/- Parts of the proof that the program's token functions return what the specification's return. -/
import Derived.Test.YtadgddipkbdnbaaGreatDoorLexTokensZ1
import Derived.Test.YtadgddipkbdnbaaGreatDoorLexTokensZ2
import Derived.Test.YtadgddipkbdnbaaGreatDoorLexTokensZ3
import Derived.Test.YtadgddipkbdnbaaGreatDoorLexTokensZ4
import Derived.Test.YtadgddipkbdnbaaGreatDoorLexTokensZ5
import Derived.Test.YtadgddipkbdnbaaGreatDoorLexTokensZ6
import Derived.Test.YtadgddipkbdnbaaGreatDoorLexTokensZ7
import Derived.Test.YtadgddipkbdnbaaGreatDoorLexTokensZ8
import Derived.Test.YtadgddipkbdnbaaGreatDoorLexTokensZ9
import Derived.Test.YtadgddipkbdnbaaGreatDoorLexTokensZ10
import Derived.Test.YtadgddipkbdnbaaGreatDoorLexTokensZ11
import Derived.Test.YtadgddipkbdnbaaGreatDoorLexTokensZ12
import Derived.Test.YtadgddipkbdnbaaGreatDoorLexTokensZ13
import Derived.Test.YtadgddipkbdnbaaGreatDoorLexTokensZ15
import Derived.Test.YtadgddipkbdnbaaGreatDoorLexTokensZ16
import Derived.Test.YtadgddipkbdnbaaGreatDoorLexTokensZ17
import Derived.Test.YtadgddipkbdnbaaGreatDoorLexTokensZ18
import Derived.Test.YtadgddipkbdnbaaGreatDoorLexTokensZ19
import Derived.Test.YtadgddipkbdnbaaGreatDoorLexTokensZ20
import Derived.Test.YtadgddipkbdnbaaGreatDoorLexTokensZ21
import Derived.Test.YtadgddipkbdnbaaGreatDoorLexTokensZ22
import Derived.Test.YtadgddipkbdnbaaGreatDoorLexTokensZ23
import Derived.Test.YtadgddipkbdnbaaGreatDoorLexTokensZ24
set_option linter.unusedVariables false
set_option linter.unusedSimpArgs false
namespace Go.Proofs.YtadgddipkbdnbaaGreatDoor.Q
open Go.Proofs.YtadgddipkbdnbaaGreatDoor Go.RowKit Go.Proofs.YtadgddipkbdnbaaGreatDoorW.PrintWords Go.Proofs.YtadgddipkbdnbaaGreatDoorW.PrintLast Go.Proofs.YtadgddipkbdnbaaGreatDoorW.PrintMore
attribute [local go_sem] max2_int min2_int max_two min_two max_three min_three max_four min_four
def lzLexTokens.j0:Nat→List (S38)→List (S38)→Bool→Bool→Option (Bool)
 | 0,_,_,_,_=>none
 | k+1,x1,x2,x7,x31=>if x31=true then (some false) else (if x7=true then ((lex_Same.f x1 x2).bind fun t437=>((rzSame.f k x1 x2).bind fun t438=>(if (t437 == t438)=true then ((lex_Same.f x1 x1).bind fun t439=>(if t439=true then ((lex_Words.f).bind fun t440=>((rzWords.f).bind fun t443=>((lzsameWords.f k t440 t443).bind fun t446=>(if t446=true then ((lex_Signs.f).bind fun t447=>((rzSigns.f).bind fun t450=>((lzsameWords.f k t447 t450).bind fun t453=>(some t453)))) else (some false))))) else (some false))) else (some false)))) else (some false))
def lzLexTokens.f (k:Nat) (a0_0:Int) (a0_1:ByteArray) (a0_2:Int) (l1:List (S38)) (l2:List (S38)):Option (Bool):=(sane_t.f).bind fun t430=>((lex_Check.f k a0_0 a0_1 a0_2).bind fun t431=>((rzCheck.f k a0_0 a0_1 a0_2).bind fun t432=>(if t431=t432 then ((lex_Kind.f a0_1).bind fun t433=>((rzKind.f k a0_1).bind fun t434=>(if t433=t434 then ((lex_IsDesc.f a0_1).bind fun t435=>((rzIsDesc.f k a0_1).bind fun t436=>(lzLexTokens.j0 k l1 l2 t430 (t435 != t436)))) else (lzLexTokens.j0 k l1 l2 t430 true)))) else (lzLexTokens.j0 k l1 l2 t430 true))))
theorem lzLexTokens.mono_l:∀ k,(∀ y0 y1 y2 y3,LeO (lzLexTokens.j0 k y0 y1 y2 y3) (lzLexTokens.j0 (k+1) y0 y1 y2 y3))
 | 0=>fun _ _ _ _ r h=>by simp [lzLexTokens.j0] at h
 | k+1=>by
  have ih0:=lzLexTokens.mono_l k
  ·intro y0 y1 y2 y3;unfold lzLexTokens.j0;repeat' first
   | (with_reducible exact ih0 _ _ _ _)
   | (with_reducible exact lex_Check.mono _ _ _ _)
   | (with_reducible exact lzsameWords.mono _ _ _)
   | (with_reducible exact rzCheck.mono _ _ _ _)
   | (with_reducible exact rzIsDesc.mono _ _)
   | (with_reducible exact rzKind.mono _ _)
   | (with_reducible exact rzSame.mono _ _ _)
   | (with_reducible exact LeO.refl _)
   | (with_reducible exact LeO.none _)
   | (with_reducible refine LeO.ite ?_ ?_)
   | (with_reducible refine LeO.bind ?_ (fun _=>?_))
   | exact LeO.none _
   | refine LeO.ite ?_ ?_
   | refine LeO.bind ?_ (fun _=>?_)
theorem lzLexTokens.mono:∀ a0 a1 a2 a3 a4 k,LeO (lzLexTokens.f k a0 a1 a2 a3 a4) (lzLexTokens.f (k+1) a0 a1 a2 a3 a4):=by
 intro a0 a1 a2 a3 a4 k;have ih0:=lzLexTokens.mono_l k;unfold lzLexTokens.f;repeat' first
   | (with_reducible exact ih0 _ _ _ _)
   | (with_reducible exact lex_Check.mono _ _ _ _)
   | (with_reducible exact lzsameWords.mono _ _ _)
   | (with_reducible exact rzCheck.mono _ _ _ _)
   | (with_reducible exact rzIsDesc.mono _ _)
   | (with_reducible exact rzKind.mono _ _)
   | (with_reducible exact rzSame.mono _ _ _)
   | (with_reducible exact LeO.refl _)
   | (with_reducible exact LeO.none _)
   | (with_reducible refine LeO.ite ?_ ?_)
   | (with_reducible refine LeO.bind ?_ (fun _=>?_))
   | exact LeO.none _
   | refine LeO.ite ?_ ?_
   | refine LeO.bind ?_ (fun _=>?_)
def lzLexTokens.T2:Bool × List (List Nat × List Nat):=(true,[([],[]),([0],[0]),([],[]),([2,1],[2]),([1,3],[1,3]),([4,3],[4]),([5],[5]),([6,5],[5,6]),([7,5,5],[5,7]),([5],[5]),([9,5],[5,9]),([10,8,5],[5,10]),([8,11,5],[5,8,11]),([5,12],[5,12]),([13,11],[13]),([14],[14]),([15,14],[14,15]),([16,14,14],[14,16]),([14],[14]),([18,14],[14,18]),([19,17,14],[14,19]),([17,20,14],[14,17,20]),([14,21],[14,21])])
def lzLexTokens.B2:List Nat:=[0,1,0,7,15,31,63,127,255,63,575,2047,4095,8191,16383,32767,65535,131071,32767,294911,1048575,2097151,4194303]
theorem lzLexTokens.tab2:rtab .any (opsOf Tryz.f14 2)=lzLexTokens.T2:=by kernel_rfl
theorem lzLexTokens.bits2:waitsOk lzLexTokens.T2.2 lzLexTokens.B2=true:=by kernel_rfl
set_option maxHeartbeats 8000000 in
set_option maxRecDepth 100000 in
theorem lzLexTokens.calls (k:Nat) (a0_0:Int) (a0_1:ByteArray) (a0_2:Int) (A1:Option Addr) (c1:Nat) (l1:List (S38)) (A2:Option Addr) (c2:Nat) (l2:List (S38)) (r:Bool) (w:World) (hr1:Kd.C k38 w A1 l1.length l1) (hc1:l1.length≤c1) (hr2:Kd.C k38 w A2 l2.length l2) (hc2:l2.length≤c2) (h:lzLexTokens.f k a0_0 a0_1 a0_2 l1 l2=some r) (hgw:GW w) :
  Calls Tryz.prog 14 #[.agg #[.int .i64 a0_0,.string a0_1,.int .i64 a0_2],.slice A1 l1.length c1,.slice A2 l2.length c2] w fun e w'=>e=.returned (.bool r)∧Below w.heap.size w w':=by
 have hu38:=Tryz.underlying38;have HR1:=Aside0.mk hr1;have HC1:=Aside0.mk hc1;clear hr1 hc1;have HR2:=Aside0.mk hr2;have HC2:=Aside0.mk hc2;clear hr2 hc2;have HB:=Aside0.mk (Below.refl w.heap.size w);have H:((sane_t.f).bind fun t430=>((lex_Check.f k a0_0 a0_1 a0_2).bind fun t431=>((rzCheck.f k a0_0 a0_1 a0_2).bind fun t432=>(if t431=t432 then ((lex_Kind.f a0_1).bind fun t433=>((rzKind.f k a0_1).bind fun t434=>(if t433=t434 then ((lex_IsDesc.f a0_1).bind fun t435=>((rzIsDesc.f k a0_1).bind fun t436=>(lzLexTokens.j0 k l1 l2 t430 (t435 != t436)))) else (lzLexTokens.j0 k l1 l2 t430 true)))) else (lzLexTokens.j0 k l1 l2 t430 true)))))=some r:=h;clear h;replace H:=Option.bind_eq_some_iff.mp H;obtain ⟨t430,A40,H⟩:=H;replace H:((lex_Check.f k a0_0 a0_1 a0_2).bind fun t431=>((rzCheck.f k a0_0 a0_1 a0_2).bind fun t432=>(if t431=t432 then ((lex_Kind.f a0_1).bind fun t433=>((rzKind.f k a0_1).bind fun t434=>(if t433=t434 then ((lex_IsDesc.f a0_1).bind fun t435=>((rzIsDesc.f k a0_1).bind fun t436=>(lzLexTokens.j0 k l1 l2 t430 (t435 != t436)))) else (lzLexTokens.j0 k l1 l2 t430 true)))) else (lzLexTokens.j0 k l1 l2 t430 true))))=some r:=H;have A4:=Aside0.mk A40;clear A40;have HC5:=Aside0.mk H;clear H;go_enter Tryz.func14,Tryz.ntmps14
 go_upto_region 2 with (first | ((with_reducible refine gate_dst (N:=3) rfl ?_);refine box_event ?hg (N:=3) ?hd (cs:=#[.int .i64 a0_0,.string a0_1,.int .i64 a0_2]) (t:=38) ?hr ?_;(case hd=>rfl);(case hg=>rfl);(case hr=>first | (go_simp;done) | (go_simp;rfl));intro gb429 hg w6 hbox hb;have n0_:=Aside0.mk (below_step blw hb);have n1_:=Aside0.mk (hbox);have n2_:=Aside0.mk ((by rw [hg];exact (below_size blw):w.heap.size≤gb429));have n3_:=Aside0.mk ((by rw [hg];exact (below_size blw):w.heap.size≤gb429));clear HB;have HB:=n0_;have BK429:=n1_;have GW429:=n2_;have GE429:=n3_;clear n0_ n1_ n2_ n3_;clear hb hbox hg) | ((with_reducible refine gate_callee (f:=16) rfl ?_);refine goesL_ (some 8) rfl rfl Tryz.func16 (by kernel_rfl) rfl #[] rfl fq ?_;(with_reducible refine (sane_t.calls  t430 _ A4.out gwx).mono ?_);rintro e w7 ⟨rfl,hb⟩;refine ⟨_,rfl,?_⟩;have n0_:=Aside0.mk (blk_below (g:=gb429) (o:=.cells #[.int .i64 a0_0,.string a0_1,.int .i64 a0_2] 38 (0,0)) bko hb);have n1_:=Aside0.mk (below_step blw hb);clear BK429;clear HB;have BK429:=n0_;have HB:=n1_;clear n0_ n1_;(try clear hb);(try clear hb2);(try clear hk);(try clear hi)))
 (try simp only [Act.put,List.setIfInBounds_toArray,List.set_cons_zero,List.set_cons_succ]);go_cut [31] (fun v31 wc=>∃ (kq:Nat) (x31_4:Bool),v31=.bool x31_4∧Aside0 (lzLexTokens.j0 kq l1 l2 t430 x31_4=some r)∧Aside0 (kq≤k)∧Aside0 (wc.heap[gb429]?=some (.cells #[.int .i64 a0_0,.string a0_1,.int .i64 a0_2] 38 (0,0)))∧Aside0 (Below w.heap.size w wc))
 case first =>
  have H:=HC5.out;clear HC5;replace H:=Option.bind_eq_some_iff.mp H;obtain ⟨t431,A80,H⟩:=H;replace H:((rzCheck.f k a0_0 a0_1 a0_2).bind fun t432=>(if t431=t432 then ((lex_Kind.f a0_1).bind fun t433=>((rzKind.f k a0_1).bind fun t434=>(if t433=t434 then ((lex_IsDesc.f a0_1).bind fun t435=>((rzIsDesc.f k a0_1).bind fun t436=>(lzLexTokens.j0 k l1 l2 t430 (t435 != t436)))) else (lzLexTokens.j0 k l1 l2 t430 true)))) else (lzLexTokens.j0 k l1 l2 t430 true)))=some r:=H;have A8:=Aside0.mk A80;clear A80;replace H:=Option.bind_eq_some_iff.mp H;obtain ⟨t432,A90,H⟩:=H;replace H:(if t431=t432 then ((lex_Kind.f a0_1).bind fun t433=>((rzKind.f k a0_1).bind fun t434=>(if t433=t434 then ((lex_IsDesc.f a0_1).bind fun t435=>((rzIsDesc.f k a0_1).bind fun t436=>(lzLexTokens.j0 k l1 l2 t430 (t435 != t436)))) else (lzLexTokens.j0 k l1 l2 t430 true)))) else (lzLexTokens.j0 k l1 l2 t430 true))=some r:=H;have A9:=Aside0.mk A90;clear A90;by_cases c10:t431=t432
  ·rw [if_pos c10] at H;have c10b0:(t431 == t432)=true:=beq_iff_eq.mpr c10;have c10b1:(t431 != t432)=false:=bne_eq_false_iff_eq.mpr c10;clear c10;(first | rw [c10b0] | (simp only [i64_w,i32_w];rw [c10b0]) | skip);replace H:=Option.bind_eq_some_iff.mp H;obtain ⟨t433,A110,H⟩:=H;replace H:((rzKind.f k a0_1).bind fun t434=>(if t433=t434 then ((lex_IsDesc.f a0_1).bind fun t435=>((rzIsDesc.f k a0_1).bind fun t436=>(lzLexTokens.j0 k l1 l2 t430 (t435 != t436)))) else (lzLexTokens.j0 k l1 l2 t430 true)))=some r:=H;have A11:=Aside0.mk A110;clear A110;replace H:=Option.bind_eq_some_iff.mp H;obtain ⟨t434,A120,H⟩:=H;replace H:(if t433=t434 then ((lex_IsDesc.f a0_1).bind fun t435=>((rzIsDesc.f k a0_1).bind fun t436=>(lzLexTokens.j0 k l1 l2 t430 (t435 != t436)))) else (lzLexTokens.j0 k l1 l2 t430 true))=some r:=H;have A12:=Aside0.mk A120;clear A120;by_cases c13:t433=t434
   ·rw [if_pos c13] at H;have c13b0:(t433 == t434)=true:=beq_iff_eq.mpr c13;have c13b1:(t433 != t434)=false:=bne_eq_false_iff_eq.mpr c13;clear c13;replace H:=Option.bind_eq_some_iff.mp H;obtain ⟨t435,A140,H⟩:=H;replace H:((rzIsDesc.f k a0_1).bind fun t436=>(lzLexTokens.j0 k l1 l2 t430 (t435 != t436)))=some r:=H;have A14:=Aside0.mk A140;clear A140;replace H:=Option.bind_eq_some_iff.mp H;obtain ⟨t436,A150,H⟩:=H;replace H:(lzLexTokens.j0 k l1 l2 t430 (t435 != t436))=some r:=H;have A15:=Aside0.mk A150;clear A150;have H':=Aside0.mk H;clear H;try go_wp2
    have n0_:=Aside0.mk (blk_drew BK429.out);have n1_:=Aside0.mk (below_drew1 HB.out);clear BK429;clear HB;have BK429:=n0_;have HB:=n1_;clear n0_ n1_;refine start_ (n:=23) (S:=fun w'=>w'.cell? ⟨gb429,0,none⟩=some (.int .i64 a0_0)∧w'.cell? ⟨gb429,1,none⟩=some (.string a0_1)∧w'.cell? ⟨gb429,2,none⟩=some (.int .i64 a0_2)) (ds:=[]) #[zF,zF,zF,zF,zF,zF,zF,zF,zF,zF,zF,zF,zF,zF,zF,zF,zF,zF,zF,zF,zF,zF,zF] (by kernel_rfl) rfl rfl ⟨(blk_cell BK429.out 0).trans rfl,(blk_cell BK429.out 1).trans rfl,(blk_cell BK429.out 2).trans rfl⟩ (fun hHeld=>?_);refine with_tabW lzLexTokens.tab2 lzLexTokens.bits2 (fun HT_ HW_=>?_);generalize w7.drew=w16 at BK429 HB hHeld ⊢;refine take_ (i:=0) (N:=some 9) (v:=?_) (a':=?_) #[zT,zF,zF,zF,zF,zF,zF,zF,zF,zF,zF,zF,zF,zF,zF,zF,zF,zF,zF,zF,zF,zF,zF] rfl rfl (take_ofW HT_.out HW_.out (by kernel_rfl)) (fun _ _ _ h=>h) (Or.inl ⟨by rfl,?_⟩) hHeld ?_ ?_;rotate_left
    ·rintro w' ⟨s0,s1,s2⟩;go_simp;with_reducible rfl
    rotate_left
    ·exact zp
    refine take_ (i:=2) (N:=some 11) (v:=?_) (a':=?_) #[zT,zF,zT,zF,zF,zF,zF,zF,zF,zF,zF,zF,zF,zF,zF,zF,zF,zF,zF,zF,zF,zF,zF] rfl rfl (take_ofW HT_.out HW_.out (by kernel_rfl)) (fun _ _ _ h=>h) (Or.inl ⟨by rfl,?_⟩) hHeld ?_ ?_;rotate_left
    ·rintro w' ⟨s0,s1,s2⟩;go_simp;with_reducible rfl
    rotate_left
    ·exact zp
    refine one_ (i:=1) (N:=some 10) #[zT,zT,zT,zF,zF,zF,zF,zF,zF,zF,zF,zF,zF,zF,zF,zF,zF,zF,zF,zF,zF,zF,zF] rfl rfl (one_of HT_.out (by kernel_rfl)) (by decide) (fun K hK=>?_);refine goes_ Tryz.func36 (by kernel_rfl) rfl #[.agg #[.int .i64 a0_0,.string a0_1,.int .i64 a0_2]] (by rfl) rfl rfl fq ?_;with_reducible refine (lex_Check.calls k a0_0 a0_1 a0_2 t431 _ A8.out gwx).mono ?_
    rintro e w17 ⟨rfl,hb⟩;refine ⟨_,rfl,?_⟩;have n0_:=Aside0.mk (blk_below (g:=gb429) (o:=.cells #[.int .i64 a0_0,.string a0_1,.int .i64 a0_2] 38 (0,0)) bko hb);have n1_:=Aside0.mk (below_step blw hb);clear BK429;clear HB;have BK429:=n0_;have HB:=n1_;clear n0_ n1_;(try clear hb);(try clear hb2);(try clear hk);(try clear hi);refine hK.out _ _ ⟨(blk_cell BK429.out 0).trans rfl,(blk_cell BK429.out 1).trans rfl,(blk_cell BK429.out 2).trans rfl⟩ (fun hHeld=>?_);clear hK K;refine norm_ (a':=?_) ?_ ?_;rotate_left
    ·show Act.put _ (some 10) _=_;simp only [Act.put,List.setIfInBounds_toArray,List.set_cons_zero,List.set_cons_succ,i64_w,i32_w];rfl
    refine one_ (i:=3) (N:=some 12) #[zT,zT,zT,zT,zF,zF,zF,zF,zF,zF,zF,zF,zF,zF,zF,zF,zF,zF,zF,zF,zF,zF,zF] rfl rfl (one_of HT_.out (by kernel_rfl)) (by decide) (fun K hK=>?_);refine goes_ Tryz.func37 (by kernel_rfl) rfl #[.agg #[.int .i64 a0_0,.string a0_1,.int .i64 a0_2]] (by rfl) rfl rfl fq ?_;with_reducible refine (rzCheck.calls k a0_0 a0_1 a0_2 t432 _ A9.out).mono ?_
    rintro e w18 ⟨rfl,hb⟩;refine ⟨_,rfl,?_⟩;have n0_:=Aside0.mk (blk_below (g:=gb429) (o:=.cells #[.int .i64 a0_0,.string a0_1,.int .i64 a0_2] 38 (0,0)) bko hb);have n1_:=Aside0.mk (below_step blw hb);clear BK429;clear HB;have BK429:=n0_;have HB:=n1_;clear n0_ n1_;(try clear hb);(try clear hb2);(try clear hk);(try clear hi);refine hK.out _ _ ⟨(blk_cell BK429.out 0).trans rfl,(blk_cell BK429.out 1).trans rfl,(blk_cell BK429.out 2).trans rfl⟩ (fun hHeld=>?_);clear hK K;refine norm_ (a':=?_) ?_ ?_;rotate_left
    ·show Act.put _ (some 12) _=_;simp only [Act.put,List.setIfInBounds_toArray,List.set_cons_zero,List.set_cons_succ,i64_w,i32_w];rfl
    refine pure_ (i:=4) (N:=some 13) (v:=?_) (a':=?_) #[zT,zT,zT,zT,zT,zF,zF,zF,zF,zF,zF,zF,zF,zF,zF,zF,zF,zF,zF,zF,zF,zF,zF] rfl rfl (any_of HT_.out (by kernel_rfl)) (fun _ _ _ h=>h) (Or.inl ⟨by rfl,?_⟩) ?_ ?_;rotate_left
    ·intro w';go_simp;with_reducible rfl
    rotate_left
    ·exact zp
    refine pure_ (i:=5) (N:=some 14) (v:=?_) (a':=?_) #[zT,zT,zT,zT,zT,zT,zF,zF,zF,zF,zF,zF,zF,zF,zF,zF,zF,zF,zF,zF,zF,zF,zF] rfl rfl (any_of HT_.out (by kernel_rfl)) (fun _ _ _ h=>h) (Or.inl ⟨by rfl,?_⟩) ?_ ?_;rotate_left
    ·intro w';go_simp;with_reducible rfl
    rotate_left
    ·exact zp
    refine pure_ (i:=6) (N:=some 15) (v:=?_) (a':=?_) #[zT,zT,zT,zT,zT,zT,zT,zF,zF,zF,zF,zF,zF,zF,zF,zF,zF,zF,zF,zF,zF,zF,zF] rfl rfl (any_of HT_.out (by kernel_rfl)) (fun _ _ _ h=>h) (Or.inl ⟨by rfl,?_⟩) ?_ ?_;rotate_left
    ·intro w';go_simp;with_reducible rfl
    rotate_left
    ·exact zp
    refine pure_ (i:=9) (N:=some 18) (v:=?_) (a':=?_) #[zT,zT,zT,zT,zT,zT,zT,zF,zF,zT,zF,zF,zF,zF,zF,zF,zF,zF,zF,zF,zF,zF,zF] rfl rfl (any_of HT_.out (by kernel_rfl)) (fun _ _ _ h=>h) (Or.inl ⟨by rfl,?_⟩) ?_ ?_;rotate_left
    ·intro w';go_simp;with_reducible rfl
    rotate_left
    ·exact zp
    refine take_ (i:=7) (N:=some 16) (v:=?_) (a':=?_) #[zT,zT,zT,zT,zT,zT,zT,zT,zF,zT,zF,zF,zF,zF,zF,zF,zF,zF,zF,zF,zF,zF,zF] rfl rfl (take_ofW HT_.out HW_.out (by kernel_rfl)) (fun _ _ _ h=>h) (Or.inl ⟨by rfl,?_⟩) hHeld ?_ ?_;rotate_left
    ·rintro w' ⟨s0,s1,s2⟩;go_simp;with_reducible rfl
    rotate_left
    ·exact zp
    refine take_ (i:=10) (N:=some 19) (v:=?_) (a':=?_) #[zT,zT,zT,zT,zT,zT,zT,zT,zF,zT,zT,zF,zF,zF,zF,zF,zF,zF,zF,zF,zF,zF,zF] rfl rfl (take_ofW HT_.out HW_.out (by kernel_rfl)) (fun _ _ _ h=>h) (Or.inl ⟨by rfl,?_⟩) hHeld ?_ ?_;rotate_left
    ·rintro w' ⟨s0,s1,s2⟩;go_simp;with_reducible rfl
    rotate_left
    ·exact zp
    refine one_ (i:=8) (N:=some 17) #[zT,zT,zT,zT,zT,zT,zT,zT,zT,zT,zT,zF,zF,zF,zF,zF,zF,zF,zF,zF,zF,zF,zF] rfl rfl (one_of HT_.out (by kernel_rfl)) (by decide) (fun K hK=>?_);refine goes_ Tryz.func35 (by kernel_rfl) rfl #[.string a0_1] (by rfl) rfl rfl fq ?_;with_reducible refine (lex_Kind.calls a0_1 t433 _ A11.out gwx).mono ?_
    rintro e w19 ⟨rfl,hb⟩;refine ⟨_,rfl,?_⟩;have n0_:=Aside0.mk (blk_below (g:=gb429) (o:=.cells #[.int .i64 a0_0,.string a0_1,.int .i64 a0_2] 38 (0,0)) bko hb);have n1_:=Aside0.mk (below_step blw hb);clear BK429;clear HB;have BK429:=n0_;have HB:=n1_;clear n0_ n1_;(try clear hb);(try clear hb2);(try clear hk);(try clear hi);refine hK.out _ _ ⟨(blk_cell BK429.out 0).trans rfl,(blk_cell BK429.out 1).trans rfl,(blk_cell BK429.out 2).trans rfl⟩ (fun hHeld=>?_);clear hK K;refine norm_ (a':=?_) ?_ ?_;rotate_left
    ·show Act.put _ (some 17) _=_;simp only [Act.put,List.setIfInBounds_toArray,List.set_cons_zero,List.set_cons_succ,i64_w,i32_w];rfl
    refine one_ (i:=11) (N:=some 20) #[zT,zT,zT,zT,zT,zT,zT,zT,zT,zT,zT,zT,zF,zF,zF,zF,zF,zF,zF,zF,zF,zF,zF] rfl rfl (one_of HT_.out (by kernel_rfl)) (by decide) (fun K hK=>?_);refine goes_ Tryz.func38 (by kernel_rfl) rfl #[.string a0_1] (by rfl) rfl rfl fq ?_;with_reducible refine (rzKind.calls k a0_1 t434 _ A12.out).mono ?_
    rintro e w20 ⟨rfl,hb⟩;refine ⟨_,rfl,?_⟩;have n0_:=Aside0.mk (blk_below (g:=gb429) (o:=.cells #[.int .i64 a0_0,.string a0_1,.int .i64 a0_2] 38 (0,0)) bko hb);have n1_:=Aside0.mk (below_step blw hb);clear BK429;clear HB;have BK429:=n0_;have HB:=n1_;clear n0_ n1_;(try clear hb);(try clear hb2);(try clear hk);(try clear hi);refine hK.out _ _ ⟨(blk_cell BK429.out 0).trans rfl,(blk_cell BK429.out 1).trans rfl,(blk_cell BK429.out 2).trans rfl⟩ (fun hHeld=>?_);clear hK K;refine norm_ (a':=?_) ?_ ?_;rotate_left
    ·show Act.put _ (some 20) _=_;simp only [Act.put,List.setIfInBounds_toArray,List.set_cons_zero,List.set_cons_succ,i64_w,i32_w];rfl
    refine pure_ (i:=12) (N:=some 21) (v:=?_) (a':=?_) #[zT,zT,zT,zT,zT,zT,zT,zT,zT,zT,zT,zT,zT,zF,zF,zF,zF,zF,zF,zF,zF,zF,zF] rfl rfl (any_of HT_.out (by kernel_rfl)) (fun _ _ _ h=>h) (Or.inl ⟨by rfl,?_⟩) ?_ ?_;rotate_left
    ·intro w';go_simp;with_reducible rfl
    rotate_left
    ·exact zp
    refine pure_ (i:=13) (N:=some 22) (v:=?_) (a':=?_) #[zT,zT,zT,zT,zT,zT,zT,zT,zT,zT,zT,zT,zT,zT,zF,zF,zF,zF,zF,zF,zF,zF,zF] rfl rfl (any_of HT_.out (by kernel_rfl)) (fun _ _ _ h=>h) (Or.inl ⟨by rfl,?_⟩) ?_ ?_;rotate_left
    ·intro w';go_simp;with_reducible rfl
    rotate_left
    ·exact zp
    refine pure_ (i:=14) (N:=some 23) (v:=?_) (a':=?_) #[zT,zT,zT,zT,zT,zT,zT,zT,zT,zT,zT,zT,zT,zT,zT,zF,zF,zF,zF,zF,zF,zF,zF] rfl rfl (any_of HT_.out (by kernel_rfl)) (fun _ _ _ h=>h) (Or.inl ⟨by rfl,?_⟩) ?_ ?_;rotate_left
    ·intro w';go_simp;with_reducible rfl
    rotate_left
    ·exact zp
    refine pure_ (i:=15) (N:=some 24) (v:=?_) (a':=?_) #[zT,zT,zT,zT,zT,zT,zT,zT,zT,zT,zT,zT,zT,zT,zT,zT,zF,zF,zF,zF,zF,zF,zF] rfl rfl (any_of HT_.out (by kernel_rfl)) (fun _ _ _ h=>h) (Or.inl ⟨by rfl,?_⟩) ?_ ?_;rotate_left
    ·intro w';go_simp;with_reducible rfl
    rotate_left
    ·exact zp
    refine pure_ (i:=18) (N:=some 27) (v:=?_) (a':=?_) #[zT,zT,zT,zT,zT,zT,zT,zT,zT,zT,zT,zT,zT,zT,zT,zT,zF,zF,zT,zF,zF,zF,zF] rfl rfl (any_of HT_.out (by kernel_rfl)) (fun _ _ _ h=>h) (Or.inl ⟨by rfl,?_⟩) ?_ ?_;rotate_left
    ·intro w';go_simp;with_reducible rfl
    rotate_left
    ·exact zp
    refine take_ (i:=16) (N:=some 25) (v:=?_) (a':=?_) #[zT,zT,zT,zT,zT,zT,zT,zT,zT,zT,zT,zT,zT,zT,zT,zT,zT,zF,zT,zF,zF,zF,zF] rfl rfl (take_ofW HT_.out HW_.out (by kernel_rfl)) (fun _ _ _ h=>h) (Or.inl ⟨by rfl,?_⟩) hHeld ?_ ?_;rotate_left
    ·rintro w' ⟨s0,s1,s2⟩;go_simp;with_reducible rfl
    rotate_left
    ·exact zp
    refine take_ (i:=19) (N:=some 28) (v:=?_) (a':=?_) #[zT,zT,zT,zT,zT,zT,zT,zT,zT,zT,zT,zT,zT,zT,zT,zT,zT,zF,zT,zT,zF,zF,zF] rfl rfl (take_ofW HT_.out HW_.out (by kernel_rfl)) (fun _ _ _ h=>h) (Or.inl ⟨by rfl,?_⟩) hHeld ?_ ?_;rotate_left
    ·rintro w' ⟨s0,s1,s2⟩;go_simp;with_reducible rfl
    rotate_left
    ·exact zp
    refine one_ (i:=17) (N:=some 26) #[zT,zT,zT,zT,zT,zT,zT,zT,zT,zT,zT,zT,zT,zT,zT,zT,zT,zT,zT,zT,zF,zF,zF] rfl rfl (one_of HT_.out (by kernel_rfl)) (by decide) (fun K hK=>?_);refine goes_ Tryz.func39 (by kernel_rfl) rfl #[.string a0_1] (by rfl) rfl rfl fq ?_;with_reducible refine (lex_IsDesc.calls a0_1 t435 _ A14.out gwx).mono ?_
    rintro e w21 ⟨rfl,hb⟩;refine ⟨_,rfl,?_⟩;have n0_:=Aside0.mk (blk_below (g:=gb429) (o:=.cells #[.int .i64 a0_0,.string a0_1,.int .i64 a0_2] 38 (0,0)) bko hb);have n1_:=Aside0.mk (below_step blw hb);clear BK429;clear HB;have BK429:=n0_;have HB:=n1_;clear n0_ n1_;(try clear hb);(try clear hb2);(try clear hk);(try clear hi);refine hK.out _ _ ⟨(blk_cell BK429.out 0).trans rfl,(blk_cell BK429.out 1).trans rfl,(blk_cell BK429.out 2).trans rfl⟩ (fun hHeld=>?_);clear hK K;refine norm_ (a':=?_) ?_ ?_;rotate_left
    ·show Act.put _ (some 26) _=_;simp only [Act.put,List.setIfInBounds_toArray,List.set_cons_zero,List.set_cons_succ,i64_w,i32_w];rfl
    refine one_ (i:=20) (N:=some 29) #[zT,zT,zT,zT,zT,zT,zT,zT,zT,zT,zT,zT,zT,zT,zT,zT,zT,zT,zT,zT,zT,zF,zF] rfl rfl (one_of HT_.out (by kernel_rfl)) (by decide) (fun K hK=>?_);refine goes_ Tryz.func40 (by kernel_rfl) rfl #[.string a0_1] (by rfl) rfl rfl fq ?_;with_reducible refine (rzIsDesc.calls k a0_1 t436 _ A15.out).mono ?_
    rintro e w' ⟨rfl,⟨nd,rfl⟩⟩;refine ⟨_,rfl,?_⟩;refine hK.out _ _ ⟨(blk_cell BK429.out 0).trans rfl,(blk_cell BK429.out 1).trans rfl,(blk_cell BK429.out 2).trans rfl⟩ (fun hHeld=>?_);clear hK K;refine norm_ (a':=?_) ?_ ?_;rotate_left
    ·show Act.put _ (some 29) _=_;simp only [Act.put,List.setIfInBounds_toArray,List.set_cons_zero,List.set_cons_succ,i64_w,i32_w];rfl
    refine pure_ (i:=21) (N:=some 30) (v:=?_) (a':=?_) #[zT,zT,zT,zT,zT,zT,zT,zT,zT,zT,zT,zT,zT,zT,zT,zT,zT,zT,zT,zT,zT,zT,zF] rfl rfl (any_of HT_.out (by kernel_rfl)) (fun _ _ _ h=>h) (Or.inl ⟨by rfl,?_⟩) ?_ ?_;rotate_left
    ·intro w';go_simp;with_reducible rfl
    rotate_left
    ·exact zp
    refine pure_ (i:=22) (N:=some 31) (v:=?_) (a':=?_) #[zT,zT,zT,zT,zT,zT,zT,zT,zT,zT,zT,zT,zT,zT,zT,zT,zT,zT,zT,zT,zT,zT,zT] rfl rfl (any_of HT_.out (by kernel_rfl)) (fun _ _ _ h=>h) (Or.inl ⟨by rfl,?_⟩) ?_ ?_;rotate_left
    ·intro w';go_simp;with_reducible rfl
    rotate_left
    ·exact zp
    refine done_ (done_of HT_.out (by kernel_rfl)) ?_;try go_wp2
    go_meet
    case rel=>exact ⟨_,((t435 != t436)),rsd,H',⟨by first | omega | exact Nat.le_refl _⟩,⟨bko⟩,⟨blw⟩⟩
   ·rw [if_neg c13] at H;have c13b0:(t433 == t434)=false:=beq_eq_false_iff_ne.mpr c13;have c13b1:(t433 != t434)=true:=bne_iff_ne.mpr c13;have H':=Aside0.mk H;clear H;try go_wp2
    have n0_:=Aside0.mk (blk_drew BK429.out);have n1_:=Aside0.mk (below_drew1 HB.out);clear BK429;clear HB;have BK429:=n0_;have HB:=n1_;clear n0_ n1_;refine start_ (n:=23) (S:=fun w'=>w'.cell? ⟨gb429,0,none⟩=some (.int .i64 a0_0)∧w'.cell? ⟨gb429,1,none⟩=some (.string a0_1)∧w'.cell? ⟨gb429,2,none⟩=some (.int .i64 a0_2)) (ds:=[]) #[zF,zF,zF,zF,zF,zF,zF,zF,zF,zF,zF,zF,zF,zF,zF,zF,zF,zF,zF,zF,zF,zF,zF] (by kernel_rfl) rfl rfl ⟨(blk_cell BK429.out 0).trans rfl,(blk_cell BK429.out 1).trans rfl,(blk_cell BK429.out 2).trans rfl⟩ (fun hHeld=>?_);refine with_tabW lzLexTokens.tab2 lzLexTokens.bits2 (fun HT_ HW_=>?_);generalize w7.drew=w22 at BK429 HB hHeld ⊢;refine take_ (i:=0) (N:=some 9) (v:=?_) (a':=?_) #[zT,zF,zF,zF,zF,zF,zF,zF,zF,zF,zF,zF,zF,zF,zF,zF,zF,zF,zF,zF,zF,zF,zF] rfl rfl (take_ofW HT_.out HW_.out (by kernel_rfl)) (fun _ _ _ h=>h) (Or.inl ⟨by rfl,?_⟩) hHeld ?_ ?_;rotate_left
    ·rintro w' ⟨s0,s1,s2⟩;go_simp;with_reducible rfl
    rotate_left
    ·exact zp
    refine take_ (i:=2) (N:=some 11) (v:=?_) (a':=?_) #[zT,zF,zT,zF,zF,zF,zF,zF,zF,zF,zF,zF,zF,zF,zF,zF,zF,zF,zF,zF,zF,zF,zF] rfl rfl (take_ofW HT_.out HW_.out (by kernel_rfl)) (fun _ _ _ h=>h) (Or.inl ⟨by rfl,?_⟩) hHeld ?_ ?_;rotate_left
    ·rintro w' ⟨s0,s1,s2⟩;go_simp;with_reducible rfl
    rotate_left
    ·exact zp
    refine one_ (i:=1) (N:=some 10) #[zT,zT,zT,zF,zF,zF,zF,zF,zF,zF,zF,zF,zF,zF,zF,zF,zF,zF,zF,zF,zF,zF,zF] rfl rfl (one_of HT_.out (by kernel_rfl)) (by decide) (fun K hK=>?_);refine goes_ Tryz.func36 (by kernel_rfl) rfl #[.agg #[.int .i64 a0_0,.string a0_1,.int .i64 a0_2]] (by rfl) rfl rfl fq ?_;with_reducible refine (lex_Check.calls k a0_0 a0_1 a0_2 t431 _ A8.out gwx).mono ?_
    rintro e w23 ⟨rfl,hb⟩;refine ⟨_,rfl,?_⟩;have n0_:=Aside0.mk (blk_below (g:=gb429) (o:=.cells #[.int .i64 a0_0,.string a0_1,.int .i64 a0_2] 38 (0,0)) bko hb);have n1_:=Aside0.mk (below_step blw hb);clear BK429;clear HB;have BK429:=n0_;have HB:=n1_;clear n0_ n1_;(try clear hb);(try clear hb2);(try clear hk);(try clear hi);refine hK.out _ _ ⟨(blk_cell BK429.out 0).trans rfl,(blk_cell BK429.out 1).trans rfl,(blk_cell BK429.out 2).trans rfl⟩ (fun hHeld=>?_);clear hK K;refine norm_ (a':=?_) ?_ ?_;rotate_left
    ·show Act.put _ (some 10) _=_;simp only [Act.put,List.setIfInBounds_toArray,List.set_cons_zero,List.set_cons_succ,i64_w,i32_w];rfl
    refine one_ (i:=3) (N:=some 12) #[zT,zT,zT,zT,zF,zF,zF,zF,zF,zF,zF,zF,zF,zF,zF,zF,zF,zF,zF,zF,zF,zF,zF] rfl rfl (one_of HT_.out (by kernel_rfl)) (by decide) (fun K hK=>?_);refine goes_ Tryz.func37 (by kernel_rfl) rfl #[.agg #[.int .i64 a0_0,.string a0_1,.int .i64 a0_2]] (by rfl) rfl rfl fq ?_;with_reducible refine (rzCheck.calls k a0_0 a0_1 a0_2 t432 _ A9.out).mono ?_
    rintro e w24 ⟨rfl,hb⟩;refine ⟨_,rfl,?_⟩;have n0_:=Aside0.mk (blk_below (g:=gb429) (o:=.cells #[.int .i64 a0_0,.string a0_1,.int .i64 a0_2] 38 (0,0)) bko hb);have n1_:=Aside0.mk (below_step blw hb);clear BK429;clear HB;have BK429:=n0_;have HB:=n1_;clear n0_ n1_;(try clear hb);(try clear hb2);(try clear hk);(try clear hi);refine hK.out _ _ ⟨(blk_cell BK429.out 0).trans rfl,(blk_cell BK429.out 1).trans rfl,(blk_cell BK429.out 2).trans rfl⟩ (fun hHeld=>?_);clear hK K;refine norm_ (a':=?_) ?_ ?_;rotate_left
    ·show Act.put _ (some 12) _=_;simp only [Act.put,List.setIfInBounds_toArray,List.set_cons_zero,List.set_cons_succ,i64_w,i32_w];rfl
    refine pure_ (i:=4) (N:=some 13) (v:=?_) (a':=?_) #[zT,zT,zT,zT,zT,zF,zF,zF,zF,zF,zF,zF,zF,zF,zF,zF,zF,zF,zF,zF,zF,zF,zF] rfl rfl (any_of HT_.out (by kernel_rfl)) (fun _ _ _ h=>h) (Or.inl ⟨by rfl,?_⟩) ?_ ?_;rotate_left
    ·intro w';go_simp;with_reducible rfl
    rotate_left
    ·exact zp
    refine pure_ (i:=5) (N:=some 14) (v:=?_) (a':=?_) #[zT,zT,zT,zT,zT,zT,zF,zF,zF,zF,zF,zF,zF,zF,zF,zF,zF,zF,zF,zF,zF,zF,zF] rfl rfl (any_of HT_.out (by kernel_rfl)) (fun _ _ _ h=>h) (Or.inl ⟨by rfl,?_⟩) ?_ ?_;rotate_left
    ·intro w';go_simp;with_reducible rfl
    rotate_left
    ·exact zp
    refine pure_ (i:=6) (N:=some 15) (v:=?_) (a':=?_) #[zT,zT,zT,zT,zT,zT,zT,zF,zF,zF,zF,zF,zF,zF,zF,zF,zF,zF,zF,zF,zF,zF,zF] rfl rfl (any_of HT_.out (by kernel_rfl)) (fun _ _ _ h=>h) (Or.inl ⟨by rfl,?_⟩) ?_ ?_;rotate_left
    ·intro w';go_simp;with_reducible rfl
    rotate_left
    ·exact zp
    refine pure_ (i:=9) (N:=some 18) (v:=?_) (a':=?_) #[zT,zT,zT,zT,zT,zT,zT,zF,zF,zT,zF,zF,zF,zF,zF,zF,zF,zF,zF,zF,zF,zF,zF] rfl rfl (any_of HT_.out (by kernel_rfl)) (fun _ _ _ h=>h) (Or.inl ⟨by rfl,?_⟩) ?_ ?_;rotate_left
    ·intro w';go_simp;with_reducible rfl
    rotate_left
    ·exact zp
    refine take_ (i:=7) (N:=some 16) (v:=?_) (a':=?_) #[zT,zT,zT,zT,zT,zT,zT,zT,zF,zT,zF,zF,zF,zF,zF,zF,zF,zF,zF,zF,zF,zF,zF] rfl rfl (take_ofW HT_.out HW_.out (by kernel_rfl)) (fun _ _ _ h=>h) (Or.inl ⟨by rfl,?_⟩) hHeld ?_ ?_;rotate_left
    ·rintro w' ⟨s0,s1,s2⟩;go_simp;with_reducible rfl
    rotate_left
    ·exact zp
    refine take_ (i:=10) (N:=some 19) (v:=?_) (a':=?_) #[zT,zT,zT,zT,zT,zT,zT,zT,zF,zT,zT,zF,zF,zF,zF,zF,zF,zF,zF,zF,zF,zF,zF] rfl rfl (take_ofW HT_.out HW_.out (by kernel_rfl)) (fun _ _ _ h=>h) (Or.inl ⟨by rfl,?_⟩) hHeld ?_ ?_;rotate_left
    ·rintro w' ⟨s0,s1,s2⟩;go_simp;with_reducible rfl
    rotate_left
    ·exact zp
    refine one_ (i:=8) (N:=some 17) #[zT,zT,zT,zT,zT,zT,zT,zT,zT,zT,zT,zF,zF,zF,zF,zF,zF,zF,zF,zF,zF,zF,zF] rfl rfl (one_of HT_.out (by kernel_rfl)) (by decide) (fun K hK=>?_);refine goes_ Tryz.func35 (by kernel_rfl) rfl #[.string a0_1] (by rfl) rfl rfl fq ?_;with_reducible refine (lex_Kind.calls a0_1 t433 _ A11.out gwx).mono ?_
    rintro e w25 ⟨rfl,hb⟩;refine ⟨_,rfl,?_⟩;have n0_:=Aside0.mk (blk_below (g:=gb429) (o:=.cells #[.int .i64 a0_0,.string a0_1,.int .i64 a0_2] 38 (0,0)) bko hb);have n1_:=Aside0.mk (below_step blw hb);clear BK429;clear HB;have BK429:=n0_;have HB:=n1_;clear n0_ n1_;(try clear hb);(try clear hb2);(try clear hk);(try clear hi);refine hK.out _ _ ⟨(blk_cell BK429.out 0).trans rfl,(blk_cell BK429.out 1).trans rfl,(blk_cell BK429.out 2).trans rfl⟩ (fun hHeld=>?_);clear hK K;refine norm_ (a':=?_) ?_ ?_;rotate_left
    ·show Act.put _ (some 17) _=_;simp only [Act.put,List.setIfInBounds_toArray,List.set_cons_zero,List.set_cons_succ,i64_w,i32_w];rfl
    refine one_ (i:=11) (N:=some 20) #[zT,zT,zT,zT,zT,zT,zT,zT,zT,zT,zT,zT,zF,zF,zF,zF,zF,zF,zF,zF,zF,zF,zF] rfl rfl (one_of HT_.out (by kernel_rfl)) (by decide) (fun K hK=>?_);refine goes_ Tryz.func38 (by kernel_rfl) rfl #[.string a0_1] (by rfl) rfl rfl fq ?_;with_reducible refine (rzKind.calls k a0_1 t434 _ A12.out).mono ?_
    rintro e w26 ⟨rfl,hb⟩;refine ⟨_,rfl,?_⟩;have n0_:=Aside0.mk (blk_below (g:=gb429) (o:=.cells #[.int .i64 a0_0,.string a0_1,.int .i64 a0_2] 38 (0,0)) bko hb);have n1_:=Aside0.mk (below_step blw hb);clear BK429;clear HB;have BK429:=n0_;have HB:=n1_;clear n0_ n1_;(try clear hb);(try clear hb2);(try clear hk);(try clear hi);refine hK.out _ _ ⟨(blk_cell BK429.out 0).trans rfl,(blk_cell BK429.out 1).trans rfl,(blk_cell BK429.out 2).trans rfl⟩ (fun hHeld=>?_);clear hK K;refine norm_ (a':=?_) ?_ ?_;rotate_left
    ·show Act.put _ (some 20) _=_;simp only [Act.put,List.setIfInBounds_toArray,List.set_cons_zero,List.set_cons_succ,i64_w,i32_w];rfl
    refine pure_ (i:=12) (N:=some 21) (v:=?_) (a':=?_) #[zT,zT,zT,zT,zT,zT,zT,zT,zT,zT,zT,zT,zT,zF,zF,zF,zF,zF,zF,zF,zF,zF,zF] rfl rfl (any_of HT_.out (by kernel_rfl)) (fun _ _ _ h=>h) (Or.inl ⟨by rfl,?_⟩) ?_ ?_;rotate_left
    ·intro w';go_simp;with_reducible rfl
    rotate_left
    ·exact zp
    refine pure_ (i:=13) (N:=some 22) (v:=?_) (a':=?_) #[zT,zT,zT,zT,zT,zT,zT,zT,zT,zT,zT,zT,zT,zT,zF,zF,zF,zF,zF,zF,zF,zF,zF] rfl rfl (any_of HT_.out (by kernel_rfl)) (fun _ _ _ h=>h) (Or.inl ⟨by rfl,?_⟩) ?_ ?_;rotate_left
    ·intro w';go_simp;with_reducible rfl
    rotate_left
    ·exact zp
    refine pure_ (i:=14) (N:=some 23) (v:=?_) (a':=?_) #[zT,zT,zT,zT,zT,zT,zT,zT,zT,zT,zT,zT,zT,zT,zT,zF,zF,zF,zF,zF,zF,zF,zF] rfl rfl (any_of HT_.out (by kernel_rfl)) (fun _ _ _ h=>h) (Or.inl ⟨by rfl,?_⟩) ?_ ?_;rotate_left
    ·intro w';go_simp;with_reducible rfl
    rotate_left
    ·exact zp
    refine pure_ (i:=15) (N:=some 24) (v:=undef) (a':=?_) #[zT,zT,zT,zT,zT,zT,zT,zT,zT,zT,zT,zT,zT,zT,zT,zT,zF,zF,zF,zF,zF,zF,zF] rfl rfl (any_of HT_.out (by kernel_rfl)) (fun _ _ _ h=>h) (Or.inr ⟨by rfl,rfl⟩) ?_ ?_;rotate_left
    ·exact zp
    refine pure_ (i:=16) (N:=some 25) (v:=undef) (a':=?_) #[zT,zT,zT,zT,zT,zT,zT,zT,zT,zT,zT,zT,zT,zT,zT,zT,zT,zF,zF,zF,zF,zF,zF] rfl rfl (any_of HT_.out (by kernel_rfl)) (fun _ _ _ h=>h) (Or.inr ⟨by rfl,rfl⟩) ?_ ?_;rotate_left
    ·exact zp
    refine pure_ (i:=17) (N:=some 26) (v:=undef) (a':=?_) #[zT,zT,zT,zT,zT,zT,zT,zT,zT,zT,zT,zT,zT,zT,zT,zT,zT,zT,zF,zF,zF,zF,zF] rfl rfl (any_of HT_.out (by kernel_rfl)) (fun _ _ _ h=>h) (Or.inr ⟨by rfl,rfl⟩) ?_ ?_;rotate_left
    ·exact zp
    refine pure_ (i:=18) (N:=some 27) (v:=undef) (a':=?_) #[zT,zT,zT,zT,zT,zT,zT,zT,zT,zT,zT,zT,zT,zT,zT,zT,zT,zT,zT,zF,zF,zF,zF] rfl rfl (any_of HT_.out (by kernel_rfl)) (fun _ _ _ h=>h) (Or.inr ⟨by rfl,rfl⟩) ?_ ?_;rotate_left
    ·exact zp
    refine pure_ (i:=19) (N:=some 28) (v:=undef) (a':=?_) #[zT,zT,zT,zT,zT,zT,zT,zT,zT,zT,zT,zT,zT,zT,zT,zT,zT,zT,zT,zT,zF,zF,zF] rfl rfl (any_of HT_.out (by kernel_rfl)) (fun _ _ _ h=>h) (Or.inr ⟨by rfl,rfl⟩) ?_ ?_;rotate_left
    ·exact zp
    refine pure_ (i:=20) (N:=some 29) (v:=undef) (a':=?_) #[zT,zT,zT,zT,zT,zT,zT,zT,zT,zT,zT,zT,zT,zT,zT,zT,zT,zT,zT,zT,zT,zF,zF] rfl rfl (any_of HT_.out (by kernel_rfl)) (fun _ _ _ h=>h) (Or.inr ⟨by rfl,rfl⟩) ?_ ?_;rotate_left
    ·exact zp
    refine pure_ (i:=21) (N:=some 30) (v:=undef) (a':=?_) #[zT,zT,zT,zT,zT,zT,zT,zT,zT,zT,zT,zT,zT,zT,zT,zT,zT,zT,zT,zT,zT,zT,zF] rfl rfl (any_of HT_.out (by kernel_rfl)) (fun _ _ _ h=>h) (Or.inr ⟨by rfl,rfl⟩) ?_ ?_;rotate_left
    ·exact zp
    refine pure_ (i:=22) (N:=some 31) (v:=?_) (a':=?_) #[zT,zT,zT,zT,zT,zT,zT,zT,zT,zT,zT,zT,zT,zT,zT,zT,zT,zT,zT,zT,zT,zT,zT] rfl rfl (any_of HT_.out (by kernel_rfl)) (fun _ _ _ h=>h) (Or.inl ⟨by rfl,?_⟩) ?_ ?_;rotate_left
    ·intro w';go_simp;with_reducible rfl
    rotate_left
    ·exact zp
    refine done_ (done_of HT_.out (by kernel_rfl)) ?_;try go_wp2
    go_meet
    case rel=>exact ⟨_,(true),rsd,H',⟨by first | omega | exact Nat.le_refl _⟩,⟨bko⟩,⟨blw⟩⟩
  ·rw [if_neg c10] at H;have c10b0:(t431 == t432)=false:=beq_eq_false_iff_ne.mpr c10;have c10b1:(t431 != t432)=true:=bne_iff_ne.mpr c10;(first | rw [c10b0] | (simp only [i64_w,i32_w];rw [c10b0]) | skip);have H':=Aside0.mk H;clear H;try go_wp2
   have n0_:=Aside0.mk (blk_drew BK429.out);have n1_:=Aside0.mk (below_drew1 HB.out);clear BK429;clear HB;have BK429:=n0_;have HB:=n1_;clear n0_ n1_;refine start_ (n:=23) (S:=fun w'=>w'.cell? ⟨gb429,0,none⟩=some (.int .i64 a0_0)∧w'.cell? ⟨gb429,1,none⟩=some (.string a0_1)∧w'.cell? ⟨gb429,2,none⟩=some (.int .i64 a0_2)) (ds:=[]) #[zF,zF,zF,zF,zF,zF,zF,zF,zF,zF,zF,zF,zF,zF,zF,zF,zF,zF,zF,zF,zF,zF,zF] (by kernel_rfl) rfl rfl ⟨(blk_cell BK429.out 0).trans rfl,(blk_cell BK429.out 1).trans rfl,(blk_cell BK429.out 2).trans rfl⟩ (fun hHeld=>?_);refine with_tabW lzLexTokens.tab2 lzLexTokens.bits2 (fun HT_ HW_=>?_);generalize w7.drew=w27 at BK429 HB hHeld ⊢;refine take_ (i:=0) (N:=some 9) (v:=?_) (a':=?_) #[zT,zF,zF,zF,zF,zF,zF,zF,zF,zF,zF,zF,zF,zF,zF,zF,zF,zF,zF,zF,zF,zF,zF] rfl rfl (take_ofW HT_.out HW_.out (by kernel_rfl)) (fun _ _ _ h=>h) (Or.inl ⟨by rfl,?_⟩) hHeld ?_ ?_;rotate_left
   ·rintro w' ⟨s0,s1,s2⟩;go_simp;with_reducible rfl
   rotate_left
   ·exact zp
   refine take_ (i:=2) (N:=some 11) (v:=?_) (a':=?_) #[zT,zF,zT,zF,zF,zF,zF,zF,zF,zF,zF,zF,zF,zF,zF,zF,zF,zF,zF,zF,zF,zF,zF] rfl rfl (take_ofW HT_.out HW_.out (by kernel_rfl)) (fun _ _ _ h=>h) (Or.inl ⟨by rfl,?_⟩) hHeld ?_ ?_;rotate_left
   ·rintro w' ⟨s0,s1,s2⟩;go_simp;with_reducible rfl
   rotate_left
   ·exact zp
   refine one_ (i:=1) (N:=some 10) #[zT,zT,zT,zF,zF,zF,zF,zF,zF,zF,zF,zF,zF,zF,zF,zF,zF,zF,zF,zF,zF,zF,zF] rfl rfl (one_of HT_.out (by kernel_rfl)) (by decide) (fun K hK=>?_);refine goes_ Tryz.func36 (by kernel_rfl) rfl #[.agg #[.int .i64 a0_0,.string a0_1,.int .i64 a0_2]] (by rfl) rfl rfl fq ?_;with_reducible refine (lex_Check.calls k a0_0 a0_1 a0_2 t431 _ A8.out gwx).mono ?_
   rintro e w28 ⟨rfl,hb⟩;refine ⟨_,rfl,?_⟩;have n0_:=Aside0.mk (blk_below (g:=gb429) (o:=.cells #[.int .i64 a0_0,.string a0_1,.int .i64 a0_2] 38 (0,0)) bko hb);have n1_:=Aside0.mk (below_step blw hb);clear BK429;clear HB;have BK429:=n0_;have HB:=n1_;clear n0_ n1_;(try clear hb);(try clear hb2);(try clear hk);(try clear hi);refine hK.out _ _ ⟨(blk_cell BK429.out 0).trans rfl,(blk_cell BK429.out 1).trans rfl,(blk_cell BK429.out 2).trans rfl⟩ (fun hHeld=>?_);clear hK K;refine norm_ (a':=?_) ?_ ?_;rotate_left
   ·show Act.put _ (some 10) _=_;simp only [Act.put,List.setIfInBounds_toArray,List.set_cons_zero,List.set_cons_succ,i64_w,i32_w];rfl
   refine one_ (i:=3) (N:=some 12) #[zT,zT,zT,zT,zF,zF,zF,zF,zF,zF,zF,zF,zF,zF,zF,zF,zF,zF,zF,zF,zF,zF,zF] rfl rfl (one_of HT_.out (by kernel_rfl)) (by decide) (fun K hK=>?_);refine goes_ Tryz.func37 (by kernel_rfl) rfl #[.agg #[.int .i64 a0_0,.string a0_1,.int .i64 a0_2]] (by rfl) rfl rfl fq ?_;with_reducible refine (rzCheck.calls k a0_0 a0_1 a0_2 t432 _ A9.out).mono ?_
   rintro e w29 ⟨rfl,hb⟩;refine ⟨_,rfl,?_⟩;have n0_:=Aside0.mk (blk_below (g:=gb429) (o:=.cells #[.int .i64 a0_0,.string a0_1,.int .i64 a0_2] 38 (0,0)) bko hb);have n1_:=Aside0.mk (below_step blw hb);clear BK429;clear HB;have BK429:=n0_;have HB:=n1_;clear n0_ n1_;(try clear hb);(try clear hb2);(try clear hk);(try clear hi);refine hK.out _ _ ⟨(blk_cell BK429.out 0).trans rfl,(blk_cell BK429.out 1).trans rfl,(blk_cell BK429.out 2).trans rfl⟩ (fun hHeld=>?_);clear hK K;refine norm_ (a':=?_) ?_ ?_;rotate_left
   ·show Act.put _ (some 12) _=_;simp only [Act.put,List.setIfInBounds_toArray,List.set_cons_zero,List.set_cons_succ,i64_w,i32_w];rfl
   refine pure_ (i:=4) (N:=some 13) (v:=?_) (a':=?_) #[zT,zT,zT,zT,zT,zF,zF,zF,zF,zF,zF,zF,zF,zF,zF,zF,zF,zF,zF,zF,zF,zF,zF] rfl rfl (any_of HT_.out (by kernel_rfl)) (fun _ _ _ h=>h) (Or.inl ⟨by rfl,?_⟩) ?_ ?_;rotate_left
   ·intro w';go_simp;with_reducible rfl
   rotate_left
   ·exact zp
   refine pure_ (i:=5) (N:=some 14) (v:=?_) (a':=?_) #[zT,zT,zT,zT,zT,zT,zF,zF,zF,zF,zF,zF,zF,zF,zF,zF,zF,zF,zF,zF,zF,zF,zF] rfl rfl (any_of HT_.out (by kernel_rfl)) (fun _ _ _ h=>h) (Or.inl ⟨by rfl,?_⟩) ?_ ?_;rotate_left
   ·intro w';go_simp;with_reducible rfl
   rotate_left
   ·exact zp
   refine pure_ (i:=6) (N:=some 15) (v:=undef) (a':=?_) #[zT,zT,zT,zT,zT,zT,zT,zF,zF,zF,zF,zF,zF,zF,zF,zF,zF,zF,zF,zF,zF,zF,zF] rfl rfl (any_of HT_.out (by kernel_rfl)) (fun _ _ _ h=>h) (Or.inr ⟨by rfl,rfl⟩) ?_ ?_;rotate_left
   ·exact zp
   refine pure_ (i:=7) (N:=some 16) (v:=undef) (a':=?_) #[zT,zT,zT,zT,zT,zT,zT,zT,zF,zF,zF,zF,zF,zF,zF,zF,zF,zF,zF,zF,zF,zF,zF] rfl rfl (any_of HT_.out (by kernel_rfl)) (fun _ _ _ h=>h) (Or.inr ⟨by rfl,rfl⟩) ?_ ?_;rotate_left
   ·exact zp
   refine pure_ (i:=8) (N:=some 17) (v:=undef) (a':=?_) #[zT,zT,zT,zT,zT,zT,zT,zT,zT,zF,zF,zF,zF,zF,zF,zF,zF,zF,zF,zF,zF,zF,zF] rfl rfl (any_of HT_.out (by kernel_rfl)) (fun _ _ _ h=>h) (Or.inr ⟨by rfl,rfl⟩) ?_ ?_;rotate_left
   ·exact zp
   refine pure_ (i:=9) (N:=some 18) (v:=undef) (a':=?_) #[zT,zT,zT,zT,zT,zT,zT,zT,zT,zT,zF,zF,zF,zF,zF,zF,zF,zF,zF,zF,zF,zF,zF] rfl rfl (any_of HT_.out (by kernel_rfl)) (fun _ _ _ h=>h) (Or.inr ⟨by rfl,rfl⟩) ?_ ?_;rotate_left
   ·exact zp
   refine pure_ (i:=10) (N:=some 19) (v:=undef) (a':=?_) #[zT,zT,zT,zT,zT,zT,zT,zT,zT,zT,zT,zF,zF,zF,zF,zF,zF,zF,zF,zF,zF,zF,zF] rfl rfl (any_of HT_.out (by kernel_rfl)) (fun _ _ _ h=>h) (Or.inr ⟨by rfl,rfl⟩) ?_ ?_;rotate_left
   ·exact zp
   refine pure_ (i:=11) (N:=some 20) (v:=undef) (a':=?_) #[zT,zT,zT,zT,zT,zT,zT,zT,zT,zT,zT,zT,zF,zF,zF,zF,zF,zF,zF,zF,zF,zF,zF] rfl rfl (any_of HT_.out (by kernel_rfl)) (fun _ _ _ h=>h) (Or.inr ⟨by rfl,rfl⟩) ?_ ?_;rotate_left
   ·exact zp
   refine pure_ (i:=12) (N:=some 21) (v:=undef) (a':=?_) #[zT,zT,zT,zT,zT,zT,zT,zT,zT,zT,zT,zT,zT,zF,zF,zF,zF,zF,zF,zF,zF,zF,zF] rfl rfl (any_of HT_.out (by kernel_rfl)) (fun _ _ _ h=>h) (Or.inr ⟨by rfl,rfl⟩) ?_ ?_;rotate_left
   ·exact zp
   refine pure_ (i:=13) (N:=some 22) (v:=?_) (a':=?_) #[zT,zT,zT,zT,zT,zT,zT,zT,zT,zT,zT,zT,zT,zT,zF,zF,zF,zF,zF,zF,zF,zF,zF] rfl rfl (any_of HT_.out (by kernel_rfl)) (fun _ _ _ h=>h) (Or.inl ⟨by rfl,?_⟩) ?_ ?_;rotate_left
   ·intro w';go_simp;with_reducible rfl
   rotate_left
   ·exact zp
   refine pure_ (i:=14) (N:=some 23) (v:=?_) (a':=?_) #[zT,zT,zT,zT,zT,zT,zT,zT,zT,zT,zT,zT,zT,zT,zT,zF,zF,zF,zF,zF,zF,zF,zF] rfl rfl (any_of HT_.out (by kernel_rfl)) (fun _ _ _ h=>h) (Or.inl ⟨by rfl,?_⟩) ?_ ?_;rotate_left
   ·intro w';go_simp;with_reducible rfl
   rotate_left
   ·exact zp
   refine pure_ (i:=15) (N:=some 24) (v:=undef) (a':=?_) #[zT,zT,zT,zT,zT,zT,zT,zT,zT,zT,zT,zT,zT,zT,zT,zT,zF,zF,zF,zF,zF,zF,zF] rfl rfl (any_of HT_.out (by kernel_rfl)) (fun _ _ _ h=>h) (Or.inr ⟨by rfl,rfl⟩) ?_ ?_;rotate_left
   ·exact zp
   refine pure_ (i:=16) (N:=some 25) (v:=undef) (a':=?_) #[zT,zT,zT,zT,zT,zT,zT,zT,zT,zT,zT,zT,zT,zT,zT,zT,zT,zF,zF,zF,zF,zF,zF] rfl rfl (any_of HT_.out (by kernel_rfl)) (fun _ _ _ h=>h) (Or.inr ⟨by rfl,rfl⟩) ?_ ?_;rotate_left
   ·exact zp
   refine pure_ (i:=17) (N:=some 26) (v:=undef) (a':=?_) #[zT,zT,zT,zT,zT,zT,zT,zT,zT,zT,zT,zT,zT,zT,zT,zT,zT,zT,zF,zF,zF,zF,zF] rfl rfl (any_of HT_.out (by kernel_rfl)) (fun _ _ _ h=>h) (Or.inr ⟨by rfl,rfl⟩) ?_ ?_;rotate_left
   ·exact zp
   refine pure_ (i:=18) (N:=some 27) (v:=undef) (a':=?_) #[zT,zT,zT,zT,zT,zT,zT,zT,zT,zT,zT,zT,zT,zT,zT,zT,zT,zT,zT,zF,zF,zF,zF] rfl rfl (any_of HT_.out (by kernel_rfl)) (fun _ _ _ h=>h) (Or.inr ⟨by rfl,rfl⟩) ?_ ?_;rotate_left
   ·exact zp
   refine pure_ (i:=19) (N:=some 28) (v:=undef) (a':=?_) #[zT,zT,zT,zT,zT,zT,zT,zT,zT,zT,zT,zT,zT,zT,zT,zT,zT,zT,zT,zT,zF,zF,zF] rfl rfl (any_of HT_.out (by kernel_rfl)) (fun _ _ _ h=>h) (Or.inr ⟨by rfl,rfl⟩) ?_ ?_;rotate_left
   ·exact zp
   refine pure_ (i:=20) (N:=some 29) (v:=undef) (a':=?_) #[zT,zT,zT,zT,zT,zT,zT,zT,zT,zT,zT,zT,zT,zT,zT,zT,zT,zT,zT,zT,zT,zF,zF] rfl rfl (any_of HT_.out (by kernel_rfl)) (fun _ _ _ h=>h) (Or.inr ⟨by rfl,rfl⟩) ?_ ?_;rotate_left
   ·exact zp
   refine pure_ (i:=21) (N:=some 30) (v:=undef) (a':=?_) #[zT,zT,zT,zT,zT,zT,zT,zT,zT,zT,zT,zT,zT,zT,zT,zT,zT,zT,zT,zT,zT,zT,zF] rfl rfl (any_of HT_.out (by kernel_rfl)) (fun _ _ _ h=>h) (Or.inr ⟨by rfl,rfl⟩) ?_ ?_;rotate_left
   ·exact zp
   refine pure_ (i:=22) (N:=some 31) (v:=?_) (a':=?_) #[zT,zT,zT,zT,zT,zT,zT,zT,zT,zT,zT,zT,zT,zT,zT,zT,zT,zT,zT,zT,zT,zT,zT] rfl rfl (any_of HT_.out (by kernel_rfl)) (fun _ _ _ h=>h) (Or.inl ⟨by rfl,?_⟩) ?_ ?_;rotate_left
   ·intro w';go_simp;with_reducible rfl
   rotate_left
   ·exact zp
   refine done_ (done_of HT_.out (by kernel_rfl)) ?_;try go_wp2
   go_meet
   case rel=>exact ⟨_,(true),rsd,H',⟨by first | omega | exact Nat.le_refl _⟩,⟨bko⟩,⟨blw⟩⟩
 case rest =>
  clear HC5;try clear c1
  try clear p2
  try clear c3
  try clear c4
  try clear c10
  try clear c10b0
  try clear c10b1
  try clear c13
  try clear c13b0
  try clear c13b1
  obtain ⟨kq,x31_4,rfl,HA,HJ4,BK429,HB⟩:=hcut;cases kq with
  | zero=>exact absurd HA.out (by simp [lzLexTokens.j0])
  | succ kj4 =>
   have H:=HA.out;clear HA;simp only [lzLexTokens.j0] at H;by_cases c30:x31_4=true
   ·subst c30;have H1:(some false)=some r:=by rw [if_pos rfl] at H;exact H
    clear H;have H:=H1;clear H1;obtain rfl:=Option.some.inj H;go_wp2;go_ret;exact ⟨rew,blw⟩
   ·replace c30:=Bool.eq_false_iff.mpr c30;subst c30;have H1:(if t430=true then ((lex_Same.f l1 l2).bind fun t437=>((rzSame.f kj4 l1 l2).bind fun t438=>(if (t437 == t438)=true then ((lex_Same.f l1 l1).bind fun t439=>(if t439=true then ((lex_Words.f).bind fun t440=>((rzWords.f).bind fun t443=>((lzsameWords.f kj4 t440 t443).bind fun t446=>(if t446=true then ((lex_Signs.f).bind fun t447=>((rzSigns.f).bind fun t450=>((lzsameWords.f kj4 t447 t450).bind fun t453=>(some t453)))) else (some false))))) else (some false))) else (some false)))) else (some false))=some r:=by rw [if_neg (show ¬ (false=true) by decide)] at H;exact H
    clear H;have H:=H1;clear H1;by_cases c31:t430=true
    ·subst c31;have H1:((lex_Same.f l1 l2).bind fun t437=>((rzSame.f kj4 l1 l2).bind fun t438=>(if (t437 == t438)=true then ((lex_Same.f l1 l1).bind fun t439=>(if t439=true then ((lex_Words.f).bind fun t440=>((rzWords.f).bind fun t443=>((lzsameWords.f kj4 t440 t443).bind fun t446=>(if t446=true then ((lex_Signs.f).bind fun t447=>((rzSigns.f).bind fun t450=>((lzsameWords.f kj4 t447 t450).bind fun t453=>(some t453)))) else (some false))))) else (some false))) else (some false))))=some r:=by rw [if_pos rfl] at H;exact H
     clear H;have H:=H1;clear H1;replace H:=Option.bind_eq_some_iff.mp H;obtain ⟨t437,A320,H⟩:=H;replace H:((rzSame.f kj4 l1 l2).bind fun t438=>(if (t437 == t438)=true then ((lex_Same.f l1 l1).bind fun t439=>(if t439=true then ((lex_Words.f).bind fun t440=>((rzWords.f).bind fun t443=>((lzsameWords.f kj4 t440 t443).bind fun t446=>(if t446=true then ((lex_Signs.f).bind fun t447=>((rzSigns.f).bind fun t450=>((lzsameWords.f kj4 t447 t450).bind fun t453=>(some t453)))) else (some false))))) else (some false))) else (some false)))=some r:=H;have A32:=Aside0.mk A320;clear A320;replace H:=Option.bind_eq_some_iff.mp H;obtain ⟨t438,A330,H⟩:=H;replace H:(if (t437 == t438)=true then ((lex_Same.f l1 l1).bind fun t439=>(if t439=true then ((lex_Words.f).bind fun t440=>((rzWords.f).bind fun t443=>((lzsameWords.f kj4 t440 t443).bind fun t446=>(if t446=true then ((lex_Signs.f).bind fun t447=>((rzSigns.f).bind fun t450=>((lzsameWords.f kj4 t447 t450).bind fun t453=>(some t453)))) else (some false))))) else (some false))) else (some false))=some r:=H;have A33:=Aside0.mk A330;clear A330;by_cases c34:(t437 == t438)=true
     ·rw [if_pos c34] at H;have c34b0:(t437 == t438)=true:=c34;(try (have c34b1:decide (t437=t438)=true:=by simpa using c34));(try (have c34b2:(t437 == t438)=true:=by simpa using c34));clear c34;replace H:=Option.bind_eq_some_iff.mp H;obtain ⟨t439,A350,H⟩:=H;replace H:(if t439=true then ((lex_Words.f).bind fun t440=>((rzWords.f).bind fun t443=>((lzsameWords.f kj4 t440 t443).bind fun t446=>(if t446=true then ((lex_Signs.f).bind fun t447=>((rzSigns.f).bind fun t450=>((lzsameWords.f kj4 t447 t450).bind fun t453=>(some t453)))) else (some false))))) else (some false))=some r:=H;have A35:=Aside0.mk A350;clear A350;by_cases c36:t439=true
      ·subst c36;have H1:((lex_Words.f).bind fun t440=>((rzWords.f).bind fun t443=>((lzsameWords.f kj4 t440 t443).bind fun t446=>(if t446=true then ((lex_Signs.f).bind fun t447=>((rzSigns.f).bind fun t450=>((lzsameWords.f kj4 t447 t450).bind fun t453=>(some t453)))) else (some false)))))=some r:=by rw [if_pos rfl] at H;exact H
       clear H;have H:=H1;clear H1;replace H:=Option.bind_eq_some_iff.mp H;obtain ⟨t440,A370,H⟩:=H;replace H:((rzWords.f).bind fun t443=>((lzsameWords.f kj4 t440 t443).bind fun t446=>(if t446=true then ((lex_Signs.f).bind fun t447=>((rzSigns.f).bind fun t450=>((lzsameWords.f kj4 t447 t450).bind fun t453=>(some t453)))) else (some false))))=some r:=H;have A37:=Aside0.mk A370;clear A370;replace H:=Option.bind_eq_some_iff.mp H;obtain ⟨t443,A380,H⟩:=H;replace H:((lzsameWords.f kj4 t440 t443).bind fun t446=>(if t446=true then ((lex_Signs.f).bind fun t447=>((rzSigns.f).bind fun t450=>((lzsameWords.f kj4 t447 t450).bind fun t453=>(some t453)))) else (some false)))=some r:=H;have A38:=Aside0.mk A380;clear A380;replace H:=Option.bind_eq_some_iff.mp H;obtain ⟨t446,A390,H⟩:=H;replace H:(if t446=true then ((lex_Signs.f).bind fun t447=>((rzSigns.f).bind fun t450=>((lzsameWords.f kj4 t447 t450).bind fun t453=>(some t453)))) else (some false))=some r:=H;have A39:=Aside0.mk A390;clear A390;by_cases c40:t446=true
       ·subst c40;have H1:((lex_Signs.f).bind fun t447=>((rzSigns.f).bind fun t450=>((lzsameWords.f kj4 t447 t450).bind fun t453=>(some t453))))=some r:=by rw [if_pos rfl] at H;exact H
        clear H;have H:=H1;clear H1;replace H:=Option.bind_eq_some_iff.mp H;obtain ⟨t447,A410,H⟩:=H;replace H:((rzSigns.f).bind fun t450=>((lzsameWords.f kj4 t447 t450).bind fun t453=>(some t453)))=some r:=H;have A41:=Aside0.mk A410;clear A410;replace H:=Option.bind_eq_some_iff.mp H;obtain ⟨t450,A420,H⟩:=H;replace H:((lzsameWords.f kj4 t447 t450).bind fun t453=>(some t453))=some r:=H;have A42:=Aside0.mk A420;clear A420;replace H:=Option.bind_eq_some_iff.mp H;obtain ⟨t453,A430,H⟩:=H;replace H:(some t453)=some r:=H;have A43:=Aside0.mk A430;clear A430;obtain rfl:=Option.some.inj H;go_wp2_with (first | (go_at_call 28;(with_reducible refine (lex_Same.calls _ _ l1 _ _ l2 t437 _ ?side1 ?side2 ?side3 ?side4 A32.out).mono ?_);(case side1=>repeat (first | exact (Kd.C_below HR1.out HB.out) | (with_reducible refine Kd.C_alloc ?_ _) | (with_reducible refine Kd.C_drewN ?_ _) | (with_reducible refine Kd.C_drew ?_)));(case side2=>exact HC1.out);(case side3=>repeat (first | exact (Kd.C_below HR2.out HB.out) | (with_reducible refine Kd.C_alloc ?_ _) | (with_reducible refine Kd.C_drewN ?_ _) | (with_reducible refine Kd.C_drew ?_)));(case side4=>exact HC2.out);rintro e w44 ⟨rfl,hb⟩;have n0_:=Aside0.mk (blk_below (g:=gb429) (o:=.cells #[.int .i64 a0_0,.string a0_1,.int .i64 a0_2] 38 (0,0)) bko hb);have n1_:=Aside0.mk (below_step blw hb);clear BK429;clear HB;have BK429:=n0_;have HB:=n1_;clear n0_ n1_;(try clear hb);(try clear hb2);(try clear hk);(try clear hi)) | (go_at_call 41;(with_reducible refine (rzSame.calls kj4 _ _ l1 _ _ l2 t438 _ ?side1 ?side2 ?side3 ?side4 A33.out).mono ?_);(case side1=>repeat (first | exact (Kd.C_below HR1.out HB.out) | (with_reducible refine Kd.C_alloc ?_ _) | (with_reducible refine Kd.C_drewN ?_ _) | (with_reducible refine Kd.C_drew ?_)));(case side2=>exact HC1.out);(case side3=>repeat (first | exact (Kd.C_below HR2.out HB.out) | (with_reducible refine Kd.C_alloc ?_ _) | (with_reducible refine Kd.C_drewN ?_ _) | (with_reducible refine Kd.C_drew ?_)));(case side4=>exact HC2.out);rintro e w' ⟨rfl,⟨nd,rfl⟩⟩) | (go_at_call 28;(with_reducible refine (lex_Same.calls _ _ l1 _ _ l1 true _ ?side1 ?side2 ?side3 ?side4 A35.out).mono ?_);(case side1=>repeat (first | exact (Kd.C_below HR1.out blw) | (with_reducible refine Kd.C_alloc ?_ _) | (with_reducible refine Kd.C_drewN ?_ _) | (with_reducible refine Kd.C_drew ?_)));(case side2=>exact HC1.out);(case side3=>repeat (first | exact (Kd.C_below HR1.out blw) | (with_reducible refine Kd.C_alloc ?_ _) | (with_reducible refine Kd.C_drewN ?_ _) | (with_reducible refine Kd.C_drew ?_)));(case side4=>exact HC1.out);rintro e w45 ⟨rfl,hb⟩;have n0_:=Aside0.mk (blk_below (g:=gb429) (o:=.cells #[.int .i64 a0_0,.string a0_1,.int .i64 a0_2] 38 (0,0)) bko hb);have n1_:=Aside0.mk (below_step blw hb);clear BK429;clear HB;have BK429:=n0_;have HB:=n1_;clear n0_ n1_;(try clear hb);(try clear hb2);(try clear hk);(try clear hi)) | (go_at_call 43;(with_reducible refine (lex_Words.calls  t440 _ A37.out gwx).mono ?_);rintro e w46 ⟨v441,rfl,ho0,hb⟩;have n0_:=Aside0.mk (Kd.R_lower ho0 (below_size blw));have n1_:=Aside0.mk (blk_below (g:=gb429) (o:=.cells #[.int .i64 a0_0,.string a0_1,.int .i64 a0_2] 38 (0,0)) bko hb);have n2_:=Aside0.mk (below_step blw hb);clear BK429;clear HB;have HO442:=n0_;have BK429:=n1_;have HB:=n2_;clear n0_ n1_ n2_;(try clear hb);(try clear hb2);(try clear hk);(try clear hi);(try clear ho0)) | (go_at_call 44;(with_reducible refine (rzWords.calls  t443 _ A38.out).mono ?_);rintro e w47 ⟨v444,rfl,ho0,hb⟩;have n0_:=Aside0.mk (Kd.R_elder' (by (with_reducible repeat (first | apply Kd.R_alloc | apply Kd.R_drewN | apply Kd.R_drew));exact HO442.out) (Kd.R_base ho0) hb);have n1_:=Aside0.mk (Kd.R_lower (Kd.R_new' ho0 (Kd.R_lt (by (with_reducible repeat (first | apply Kd.R_alloc | apply Kd.R_drewN | apply Kd.R_drew));exact HO442.out))) (below_size blw));have n2_:=Aside0.mk (blk_below (g:=gb429) (o:=.cells #[.int .i64 a0_0,.string a0_1,.int .i64 a0_2] 38 (0,0)) bko hb);have n3_:=Aside0.mk (below_step blw hb);clear HO442;clear BK429;clear HB;have HO442:=n0_;have HO445:=n1_;have BK429:=n2_;have HB:=n3_;clear n0_ n1_ n2_ n3_;(try clear hb);(try clear hb2);(try clear hk);(try clear hi);(try clear ho0);obtain ⟨Ao48,co48,eo48⟩:=Kd.R_slice HO442.out;subst eo48;obtain ⟨Ao49,co49,eo49⟩:=Kd.R_slice HO445.out;subst eo49) | (go_at_call 42;(with_reducible refine (lzsameWords.calls kj4 _ _ t440 _ _ t443 true _ ?side1 ?side2 ?side3 ?side4 A39.out).mono ?_);(case side1=>repeat (first | exact (Kd.R_reads' HO442.out).2.2 | (with_reducible refine Kd.C_alloc ?_ _) | (with_reducible refine Kd.C_drewN ?_ _) | (with_reducible refine Kd.C_drew ?_)));(case side2=>exact (Kd.R_reads' HO442.out).2.1);(case side3=>repeat (first | exact (Kd.R_reads' HO445.out).2.2 | (with_reducible refine Kd.C_alloc ?_ _) | (with_reducible refine Kd.C_drewN ?_ _) | (with_reducible refine Kd.C_drew ?_)));(case side4=>exact (Kd.R_reads' HO445.out).2.1);rintro e w' ⟨rfl,⟨nd,rfl⟩⟩) | (go_at_call 45;(with_reducible refine (lex_Signs.calls  t447 _ A41.out gwx).mono ?_);rintro e w50 ⟨v448,rfl,ho0,hb⟩;have n0_:=Aside0.mk (Kd.R_elder' (by (with_reducible repeat (first | apply Kd.R_alloc | apply Kd.R_drewN | apply Kd.R_drew));exact HO442.out) (Kd.R_base ho0) hb);have n1_:=Aside0.mk (Kd.R_elder' (by (with_reducible repeat (first | apply Kd.R_alloc | apply Kd.R_drewN | apply Kd.R_drew));exact HO445.out) (Kd.R_base ho0) hb);have n2_:=Aside0.mk (Kd.R_lower (Kd.R_new' (Kd.R_new' ho0 (Kd.R_lt (by (with_reducible repeat (first | apply Kd.R_alloc | apply Kd.R_drewN | apply Kd.R_drew));exact HO442.out))) (Kd.R_lt (by (with_reducible repeat (first | apply Kd.R_alloc | apply Kd.R_drewN | apply Kd.R_drew));exact HO445.out))) (below_size blw));have n3_:=Aside0.mk (blk_below (g:=gb429) (o:=.cells #[.int .i64 a0_0,.string a0_1,.int .i64 a0_2] 38 (0,0)) bko hb);have n4_:=Aside0.mk (below_step blw hb);clear HO442;clear HO445;clear BK429;clear HB;have HO442:=n0_;have HO445:=n1_;have HO449:=n2_;have BK429:=n3_;have HB:=n4_;clear n0_ n1_ n2_ n3_ n4_;(try clear hb);(try clear hb2);(try clear hk);(try clear hi);(try clear ho0)) | (go_at_call 46;(with_reducible refine (rzSigns.calls  t450 _ A42.out).mono ?_);rintro e w51 ⟨v451,rfl,ho0,hb⟩;have n0_:=Aside0.mk (Kd.R_elder' (by (with_reducible repeat (first | apply Kd.R_alloc | apply Kd.R_drewN | apply Kd.R_drew));exact HO442.out) (Kd.R_base ho0) hb);have n1_:=Aside0.mk (Kd.R_elder' (by (with_reducible repeat (first | apply Kd.R_alloc | apply Kd.R_drewN | apply Kd.R_drew));exact HO445.out) (Kd.R_base ho0) hb);have n2_:=Aside0.mk (Kd.R_elder' (by (with_reducible repeat (first | apply Kd.R_alloc | apply Kd.R_drewN | apply Kd.R_drew));exact HO449.out) (Kd.R_base ho0) hb);have n3_:=Aside0.mk (Kd.R_lower (Kd.R_new' (Kd.R_new' (Kd.R_new' ho0 (Kd.R_lt (by (with_reducible repeat (first | apply Kd.R_alloc | apply Kd.R_drewN | apply Kd.R_drew));exact HO442.out))) (Kd.R_lt (by (with_reducible repeat (first | apply Kd.R_alloc | apply Kd.R_drewN | apply Kd.R_drew));exact HO445.out))) (Kd.R_lt (by (with_reducible repeat (first | apply Kd.R_alloc | apply Kd.R_drewN | apply Kd.R_drew));exact HO449.out))) (below_size blw));have n4_:=Aside0.mk (blk_below (g:=gb429) (o:=.cells #[.int .i64 a0_0,.string a0_1,.int .i64 a0_2] 38 (0,0)) bko hb);have n5_:=Aside0.mk (below_step blw hb);clear HO442;clear HO445;clear HO449;clear BK429;clear HB;have HO442:=n0_;have HO445:=n1_;have HO449:=n2_;have HO452:=n3_;have BK429:=n4_;have HB:=n5_;clear n0_ n1_ n2_ n3_ n4_ n5_;(try clear hb);(try clear hb2);(try clear hk);(try clear hi);(try clear ho0);obtain ⟨Ao52,co52,eo52⟩:=Kd.R_slice HO449.out;subst eo52;obtain ⟨Ao53,co53,eo53⟩:=Kd.R_slice HO452.out;subst eo53) | (go_at_call 42;(with_reducible refine (lzsameWords.calls kj4 _ _ t447 _ _ t450 t453 _ ?side1 ?side2 ?side3 ?side4 A43.out).mono ?_);(case side1=>repeat (first | exact (Kd.R_reads' HO449.out).2.2 | (with_reducible refine Kd.C_alloc ?_ _) | (with_reducible refine Kd.C_drewN ?_ _) | (with_reducible refine Kd.C_drew ?_)));(case side2=>exact (Kd.R_reads' HO449.out).2.1);(case side3=>repeat (first | exact (Kd.R_reads' HO452.out).2.2 | (with_reducible refine Kd.C_alloc ?_ _) | (with_reducible refine Kd.C_drewN ?_ _) | (with_reducible refine Kd.C_drew ?_)));(case side4=>exact (Kd.R_reads' HO452.out).2.1);rintro e w' ⟨rfl,⟨nd,rfl⟩⟩))
        go_ret;exact ⟨rew,blw⟩
       ·replace c40:=Bool.eq_false_iff.mpr c40;subst c40;have H1:(some false)=some r:=by rw [if_neg (show ¬ (false=true) by decide)] at H;exact H
        clear H;have H:=H1;clear H1;obtain rfl:=Option.some.inj H;go_wp2_with (first | (go_at_call 28;(with_reducible refine (lex_Same.calls _ _ l1 _ _ l2 t437 _ ?side1 ?side2 ?side3 ?side4 A32.out).mono ?_);(case side1=>repeat (first | exact (Kd.C_below HR1.out HB.out) | (with_reducible refine Kd.C_alloc ?_ _) | (with_reducible refine Kd.C_drewN ?_ _) | (with_reducible refine Kd.C_drew ?_)));(case side2=>exact HC1.out);(case side3=>repeat (first | exact (Kd.C_below HR2.out HB.out) | (with_reducible refine Kd.C_alloc ?_ _) | (with_reducible refine Kd.C_drewN ?_ _) | (with_reducible refine Kd.C_drew ?_)));(case side4=>exact HC2.out);rintro e w54 ⟨rfl,hb⟩;have n0_:=Aside0.mk (blk_below (g:=gb429) (o:=.cells #[.int .i64 a0_0,.string a0_1,.int .i64 a0_2] 38 (0,0)) bko hb);have n1_:=Aside0.mk (below_step blw hb);clear BK429;clear HB;have BK429:=n0_;have HB:=n1_;clear n0_ n1_;(try clear hb);(try clear hb2);(try clear hk);(try clear hi)) | (go_at_call 41;(with_reducible refine (rzSame.calls kj4 _ _ l1 _ _ l2 t438 _ ?side1 ?side2 ?side3 ?side4 A33.out).mono ?_);(case side1=>repeat (first | exact (Kd.C_below HR1.out HB.out) | (with_reducible refine Kd.C_alloc ?_ _) | (with_reducible refine Kd.C_drewN ?_ _) | (with_reducible refine Kd.C_drew ?_)));(case side2=>exact HC1.out);(case side3=>repeat (first | exact (Kd.C_below HR2.out HB.out) | (with_reducible refine Kd.C_alloc ?_ _) | (with_reducible refine Kd.C_drewN ?_ _) | (with_reducible refine Kd.C_drew ?_)));(case side4=>exact HC2.out);rintro e w' ⟨rfl,⟨nd,rfl⟩⟩) | (go_at_call 28;(with_reducible refine (lex_Same.calls _ _ l1 _ _ l1 true _ ?side1 ?side2 ?side3 ?side4 A35.out).mono ?_);(case side1=>repeat (first | exact (Kd.C_below HR1.out blw) | (with_reducible refine Kd.C_alloc ?_ _) | (with_reducible refine Kd.C_drewN ?_ _) | (with_reducible refine Kd.C_drew ?_)));(case side2=>exact HC1.out);(case side3=>repeat (first | exact (Kd.C_below HR1.out blw) | (with_reducible refine Kd.C_alloc ?_ _) | (with_reducible refine Kd.C_drewN ?_ _) | (with_reducible refine Kd.C_drew ?_)));(case side4=>exact HC1.out);rintro e w55 ⟨rfl,hb⟩;have n0_:=Aside0.mk (blk_below (g:=gb429) (o:=.cells #[.int .i64 a0_0,.string a0_1,.int .i64 a0_2] 38 (0,0)) bko hb);have n1_:=Aside0.mk (below_step blw hb);clear BK429;clear HB;have BK429:=n0_;have HB:=n1_;clear n0_ n1_;(try clear hb);(try clear hb2);(try clear hk);(try clear hi)) | (go_at_call 43;(with_reducible refine (lex_Words.calls  t440 _ A37.out gwx).mono ?_);rintro e w56 ⟨v441,rfl,ho0,hb⟩;have n0_:=Aside0.mk (Kd.R_lower ho0 (below_size blw));have n1_:=Aside0.mk (blk_below (g:=gb429) (o:=.cells #[.int .i64 a0_0,.string a0_1,.int .i64 a0_2] 38 (0,0)) bko hb);have n2_:=Aside0.mk (below_step blw hb);clear BK429;clear HB;have HO442:=n0_;have BK429:=n1_;have HB:=n2_;clear n0_ n1_ n2_;(try clear hb);(try clear hb2);(try clear hk);(try clear hi);(try clear ho0)) | (go_at_call 44;(with_reducible refine (rzWords.calls  t443 _ A38.out).mono ?_);rintro e w57 ⟨v444,rfl,ho0,hb⟩;have n0_:=Aside0.mk (Kd.R_elder' (by (with_reducible repeat (first | apply Kd.R_alloc | apply Kd.R_drewN | apply Kd.R_drew));exact HO442.out) (Kd.R_base ho0) hb);have n1_:=Aside0.mk (Kd.R_lower (Kd.R_new' ho0 (Kd.R_lt (by (with_reducible repeat (first | apply Kd.R_alloc | apply Kd.R_drewN | apply Kd.R_drew));exact HO442.out))) (below_size blw));have n2_:=Aside0.mk (blk_below (g:=gb429) (o:=.cells #[.int .i64 a0_0,.string a0_1,.int .i64 a0_2] 38 (0,0)) bko hb);have n3_:=Aside0.mk (below_step blw hb);clear HO442;clear BK429;clear HB;have HO442:=n0_;have HO445:=n1_;have BK429:=n2_;have HB:=n3_;clear n0_ n1_ n2_ n3_;(try clear hb);(try clear hb2);(try clear hk);(try clear hi);(try clear ho0);obtain ⟨Ao58,co58,eo58⟩:=Kd.R_slice HO442.out;subst eo58;obtain ⟨Ao59,co59,eo59⟩:=Kd.R_slice HO445.out;subst eo59) | (go_at_call 42;(with_reducible refine (lzsameWords.calls kj4 _ _ t440 _ _ t443 false _ ?side1 ?side2 ?side3 ?side4 A39.out).mono ?_);(case side1=>repeat (first | exact (Kd.R_reads' HO442.out).2.2 | (with_reducible refine Kd.C_alloc ?_ _) | (with_reducible refine Kd.C_drewN ?_ _) | (with_reducible refine Kd.C_drew ?_)));(case side2=>exact (Kd.R_reads' HO442.out).2.1);(case side3=>repeat (first | exact (Kd.R_reads' HO445.out).2.2 | (with_reducible refine Kd.C_alloc ?_ _) | (with_reducible refine Kd.C_drewN ?_ _) | (with_reducible refine Kd.C_drew ?_)));(case side4=>exact (Kd.R_reads' HO445.out).2.1);rintro e w' ⟨rfl,⟨nd,rfl⟩⟩))
        go_ret;exact ⟨rew,blw⟩
      ·replace c36:=Bool.eq_false_iff.mpr c36;subst c36;have H1:(some false)=some r:=by rw [if_neg (show ¬ (false=true) by decide)] at H;exact H
       clear H;have H:=H1;clear H1;obtain rfl:=Option.some.inj H;go_wp2_with (first | (go_at_call 28;(with_reducible refine (lex_Same.calls _ _ l1 _ _ l2 t437 _ ?side1 ?side2 ?side3 ?side4 A32.out).mono ?_);(case side1=>repeat (first | exact (Kd.C_below HR1.out HB.out) | (with_reducible refine Kd.C_alloc ?_ _) | (with_reducible refine Kd.C_drewN ?_ _) | (with_reducible refine Kd.C_drew ?_)));(case side2=>exact HC1.out);(case side3=>repeat (first | exact (Kd.C_below HR2.out HB.out) | (with_reducible refine Kd.C_alloc ?_ _) | (with_reducible refine Kd.C_drewN ?_ _) | (with_reducible refine Kd.C_drew ?_)));(case side4=>exact HC2.out);rintro e w60 ⟨rfl,hb⟩;have n0_:=Aside0.mk (blk_below (g:=gb429) (o:=.cells #[.int .i64 a0_0,.string a0_1,.int .i64 a0_2] 38 (0,0)) bko hb);have n1_:=Aside0.mk (below_step blw hb);clear BK429;clear HB;have BK429:=n0_;have HB:=n1_;clear n0_ n1_;(try clear hb);(try clear hb2);(try clear hk);(try clear hi)) | (go_at_call 41;(with_reducible refine (rzSame.calls kj4 _ _ l1 _ _ l2 t438 _ ?side1 ?side2 ?side3 ?side4 A33.out).mono ?_);(case side1=>repeat (first | exact (Kd.C_below HR1.out HB.out) | (with_reducible refine Kd.C_alloc ?_ _) | (with_reducible refine Kd.C_drewN ?_ _) | (with_reducible refine Kd.C_drew ?_)));(case side2=>exact HC1.out);(case side3=>repeat (first | exact (Kd.C_below HR2.out HB.out) | (with_reducible refine Kd.C_alloc ?_ _) | (with_reducible refine Kd.C_drewN ?_ _) | (with_reducible refine Kd.C_drew ?_)));(case side4=>exact HC2.out);rintro e w' ⟨rfl,⟨nd,rfl⟩⟩) | (go_at_call 28;(with_reducible refine (lex_Same.calls _ _ l1 _ _ l1 false _ ?side1 ?side2 ?side3 ?side4 A35.out).mono ?_);(case side1=>repeat (first | exact (Kd.C_below HR1.out blw) | (with_reducible refine Kd.C_alloc ?_ _) | (with_reducible refine Kd.C_drewN ?_ _) | (with_reducible refine Kd.C_drew ?_)));(case side2=>exact HC1.out);(case side3=>repeat (first | exact (Kd.C_below HR1.out blw) | (with_reducible refine Kd.C_alloc ?_ _) | (with_reducible refine Kd.C_drewN ?_ _) | (with_reducible refine Kd.C_drew ?_)));(case side4=>exact HC1.out);rintro e w61 ⟨rfl,hb⟩;have n0_:=Aside0.mk (blk_below (g:=gb429) (o:=.cells #[.int .i64 a0_0,.string a0_1,.int .i64 a0_2] 38 (0,0)) bko hb);have n1_:=Aside0.mk (below_step blw hb);clear BK429;clear HB;have BK429:=n0_;have HB:=n1_;clear n0_ n1_;(try clear hb);(try clear hb2);(try clear hk);(try clear hi)))
       go_ret;exact ⟨rew,blw⟩
     ·rw [if_neg c34] at H;have c34b0:(t437 == t438)=false:=by simpa using c34
      (try (have c34b1:decide (t437=t438)=false:=by simpa using c34));(try (have c34b2:(t437 == t438)=false:=by simpa using c34));(try (have c34b3:¬ (t437=t438):=by simpa using c34));clear c34;obtain rfl:=Option.some.inj H;go_wp2_with (first | (go_at_call 28;(with_reducible refine (lex_Same.calls _ _ l1 _ _ l2 t437 _ ?side1 ?side2 ?side3 ?side4 A32.out).mono ?_);(case side1=>repeat (first | exact (Kd.C_below HR1.out HB.out) | (with_reducible refine Kd.C_alloc ?_ _) | (with_reducible refine Kd.C_drewN ?_ _) | (with_reducible refine Kd.C_drew ?_)));(case side2=>exact HC1.out);(case side3=>repeat (first | exact (Kd.C_below HR2.out HB.out) | (with_reducible refine Kd.C_alloc ?_ _) | (with_reducible refine Kd.C_drewN ?_ _) | (with_reducible refine Kd.C_drew ?_)));(case side4=>exact HC2.out);rintro e w62 ⟨rfl,hb⟩;have n0_:=Aside0.mk (blk_below (g:=gb429) (o:=.cells #[.int .i64 a0_0,.string a0_1,.int .i64 a0_2] 38 (0,0)) bko hb);have n1_:=Aside0.mk (below_step blw hb);clear BK429;clear HB;have BK429:=n0_;have HB:=n1_;clear n0_ n1_;(try clear hb);(try clear hb2);(try clear hk);(try clear hi)) | (go_at_call 41;(with_reducible refine (rzSame.calls kj4 _ _ l1 _ _ l2 t438 _ ?side1 ?side2 ?side3 ?side4 A33.out).mono ?_);(case side1=>repeat (first | exact (Kd.C_below HR1.out HB.out) | (with_reducible refine Kd.C_alloc ?_ _) | (with_reducible refine Kd.C_drewN ?_ _) | (with_reducible refine Kd.C_drew ?_)));(case side2=>exact HC1.out);(case side3=>repeat (first | exact (Kd.C_below HR2.out HB.out) | (with_reducible refine Kd.C_alloc ?_ _) | (with_reducible refine Kd.C_drewN ?_ _) | (with_reducible refine Kd.C_drew ?_)));(case side4=>exact HC2.out);rintro e w' ⟨rfl,⟨nd,rfl⟩⟩))
      go_ret;exact ⟨rew,blw⟩
    ·replace c31:=Bool.eq_false_iff.mpr c31;subst c31;have H1:(some false)=some r:=by rw [if_neg (show ¬ (false=true) by decide)] at H;exact H
     clear H;have H:=H1;clear H1;obtain rfl:=Option.some.inj H;go_wp2;go_ret;exact ⟨rew,blw⟩
end Go.Proofs.YtadgddipkbdnbaaGreatDoor.Q
