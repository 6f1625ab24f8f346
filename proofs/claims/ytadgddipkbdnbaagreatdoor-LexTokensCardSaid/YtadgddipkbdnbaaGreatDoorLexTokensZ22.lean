/- Parts of the proof that the program's token functions return what the specification's return. -/
import Derived.Test.YtadgddipkbdnbaaGreatDoorLexTokensZ1
import Derived.Test.YtadgddipkbdnbaaGreatDoorLexTokensZ2
import Derived.Test.YtadgddipkbdnbaaGreatDoorLexTokensZ3
import Derived.Test.YtadgddipkbdnbaaGreatDoorLexTokensZ4
import Derived.Test.YtadgddipkbdnbaaGreatDoorLexTokensZ5
import Derived.Test.YtadgddipkbdnbaaGreatDoorLexTokensZ6
import Derived.Test.YtadgddipkbdnbaaGreatDoorLexTokensZ7
import Derived.Test.YtadgddipkbdnbaaGreatDoorLexTokensZ12
import Derived.Test.YtadgddipkbdnbaaGreatDoorLexTokensZ13
import Derived.Test.YtadgddipkbdnbaaGreatDoorLexTokensZ15
import Derived.Test.YtadgddipkbdnbaaGreatDoorLexTokensZ16
import Derived.Test.YtadgddipkbdnbaaGreatDoorLexTokensZ17
import Derived.Test.YtadgddipkbdnbaaGreatDoorLexTokensZ21
set_option linter.unusedVariables false
set_option linter.unusedSimpArgs false
namespace Go.Proofs.YtadgddipkbdnbaaGreatDoor.Q
open Go.Proofs.YtadgddipkbdnbaaGreatDoor Go.RowKit Go.Proofs.YtadgddipkbdnbaaGreatDoorW.PrintWords Go.Proofs.YtadgddipkbdnbaaGreatDoorW.PrintLast Go.Proofs.YtadgddipkbdnbaaGreatDoorW.PrintMore
attribute [local go_sem] max2_int min2_int max_two min_two max_three min_three max_four min_four
def lex_Tight.l0:Nat→List (S38)→ByteArray→List (S38)→Int→Int→Option (ByteArray)
 | 0,_,_,_,_,_=>none
 | k+1,x0,x3,x9,x10,x11=>if x11 < x10 then (if 0≤x11 then (if x11 < (x9.length:Int) then (if x11 > 0 then (if x3.size+((rd_T38 x9 x11).f1).size≤9223372036854775807 then (if 0≤(wrap64 (x11+1)) then (if (wrap64 (x11+1))≤(x0.length:Int) then ((lex_gives.f (x3 ++ ((rd_T38 x9 x11).f1)) (x0.take ((wrap64 (x11+1)):Int).toNat)).bind fun t264=>(if t264=true then (lex_Tight.l0 k x0 (x3 ++ ((rd_T38 x9 x11).f1)) x9 x10 (wrap64 (x11+1))) else (if x3.size+1≤9223372036854775807 then (if (x3 ++ (⟨#[32]⟩:zB)).size+((rd_T38 x9 x11).f1).size≤9223372036854775807 then (lex_Tight.l0 k x0 ((x3 ++ (⟨#[32]⟩:zB)) ++ ((rd_T38 x9 x11).f1)) x9 x10 (wrap64 (x11+1))) else (none)) else (none)))) else (none)) else (none)) else (none)) else (if x3.size+((rd_T38 x9 x11).f1).size≤9223372036854775807 then (lex_Tight.l0 k x0 (x3 ++ ((rd_T38 x9 x11).f1)) x9 x10 (wrap64 (x11+1))) else (none))) else (none)) else (none)) else (some x3)
def lex_Tight.f (k:Nat) (l0:List (S38)):Option (ByteArray):=(lex_Join.f k l0).bind fun t257=>(if t257.toList=([]:List UInt8) then (some (⟨#[]⟩:zB)) else (lex_Tight.l0 k l0 (⟨#[]⟩:zB) l0 (l0.length:Int) 0))
theorem lex_Tight.mono_l:∀ k,(∀ y0 y1 y2 y3 y4,LeO (lex_Tight.l0 k y0 y1 y2 y3 y4) (lex_Tight.l0 (k+1) y0 y1 y2 y3 y4))
 | 0=>fun _ _ _ _ _ r h=>by simp [lex_Tight.l0] at h
 | k+1=>by
  have ih0:=lex_Tight.mono_l k
  ·intro y0 y1 y2 y3 y4;unfold lex_Tight.l0;repeat' first
   | (with_reducible exact ih0 _ _ _ _ _)
   | (with_reducible exact lex_Join.mono _ _)
   | (with_reducible exact LeO.refl _)
   | (with_reducible exact LeO.none _)
   | (with_reducible refine LeO.ite ?_ ?_)
   | (with_reducible refine LeO.bind ?_ (fun _=>?_))
   | exact LeO.none _
   | refine LeO.ite ?_ ?_
   | refine LeO.bind ?_ (fun _=>?_)
theorem lex_Tight.mono:∀ a0 k,LeO (lex_Tight.f k a0) (lex_Tight.f (k+1) a0):=by
 intro a0 k;have ih0:=lex_Tight.mono_l k;unfold lex_Tight.f;repeat' first
   | (with_reducible exact ih0 _ _ _ _ _)
   | (with_reducible exact lex_Join.mono _ _)
   | (with_reducible exact LeO.refl _)
   | (with_reducible exact LeO.none _)
   | (with_reducible refine LeO.ite ?_ ?_)
   | (with_reducible refine LeO.bind ?_ (fun _=>?_))
   | exact LeO.none _
   | refine LeO.ite ?_ ?_
   | refine LeO.bind ?_ (fun _=>?_)
def lex_Tight.T7:Bool × List (List Nat × List Nat):=(true,[([],[]),([0],[0]),([1],[1]),([2],[2]),([2],[2]),([4,2],[2,4]),([3,5,2],[2,3,5]),([2],[2]),([2],[2]),([8,2],[2,8]),([7,9,2],[2,7,9]),([6,10,2,2],[2,6,10]),([11,2],[2,11]),([2,12],[2,12])])
def lex_Tight.B7:List Nat:=[0,1,3,7,7,23,63,7,7,263,903,2047,4095,8191]
theorem lex_Tight.tab7:rtab .any (opsOf Tryz.f24 7)=lex_Tight.T7:=by kernel_rfl
theorem lex_Tight.bits7:waitsOk lex_Tight.T7.2 lex_Tight.B7=true:=by kernel_rfl
set_option maxHeartbeats 8000000 in
set_option maxRecDepth 100000 in
theorem lex_Tight.calls (k:Nat) (A0:Option Addr) (c0:Nat) (l0:List (S38)) (r:ByteArray) (w:World) (hr0:Kd.C k38 w A0 l0.length l0) (hc0:l0.length≤c0) (h:lex_Tight.f k l0=some r) (hgw:GW w) :
  Calls Tryz.prog 24 #[.slice A0 l0.length c0] w fun e w'=>e=.returned (.string r)∧Below w.heap.size w w':=by
 have hu38:=Tryz.underlying38;have HR0:=Aside0.mk hr0;have HC0:=Aside0.mk hc0;clear hr0 hc0;have HB:=Aside0.mk (Below.refl w.heap.size w);have H:((lex_Join.f k l0).bind fun t257=>(if t257.toList=([]:List UInt8) then (some (⟨#[]⟩:zB)) else (lex_Tight.l0 k l0 (⟨#[]⟩:zB) l0 (l0.length:Int) 0)))=some r:=h;clear h;replace H:=Option.bind_eq_some_iff.mp H;obtain ⟨t257,A20,H⟩:=H;replace H:(if t257.toList=([]:List UInt8) then (some (⟨#[]⟩:zB)) else (lex_Tight.l0 k l0 (⟨#[]⟩:zB) l0 (l0.length:Int) 0))=some r:=H;have A2:=Aside0.mk A20;clear A20;by_cases c3:t257.toList=([]:List UInt8)
 ·rw [if_pos c3] at H;have c3b0:(t257.toList == ([]:List UInt8))=true:=beq_iff_eq.mpr c3;have c3b1:(t257.toList != ([]:List UInt8))=false:=bne_eq_false_iff_eq.mpr c3;clear c3;obtain rfl:=Option.some.inj H;go_enter Tryz.func24,Tryz.ntmps24
  go_wp2_with (first | ((with_reducible refine gate_callee (f:=22) rfl ?_);refine goesL_ (some 7) rfl rfl Tryz.func22 (by kernel_rfl) rfl #[.slice A0 l0.length c0] rfl fq ?_;(with_reducible refine (lex_Join.calls k _ _ l0 t257 _ ?side1 ?side2 A2.out gwx).mono ?_);(case side1=>repeat (first | exact HR0.out | (with_reducible refine Kd.C_alloc ?_ _) | (with_reducible refine Kd.C_drewN ?_ _) | (with_reducible refine Kd.C_drew ?_)));(case side2=>exact HC0.out);rintro e w4 ⟨rfl,hb⟩;refine ⟨_,rfl,?_⟩;have n0_:=Aside0.mk (below_step blw hb);clear HB;have HB:=n0_;clear n0_;(try clear hb);(try clear hb2);(try clear hk);(try clear hi)))
  go_ret;exact ⟨rew,blw⟩
 ·rw [if_neg c3] at H;have c3b0:(t257.toList == ([]:List UInt8))=false:=beq_eq_false_iff_ne.mpr c3;have c3b1:(t257.toList != ([]:List UInt8))=true:=bne_iff_ne.mpr c3;have H':=Aside0.mk H;clear H;go_enter Tryz.func24,Tryz.ntmps24
  go_wp2_with (first | ((with_reducible refine gate_callee (f:=22) rfl ?_);refine goesL_ (some 7) rfl rfl Tryz.func22 (by kernel_rfl) rfl #[.slice A0 l0.length c0] rfl fq ?_;(with_reducible refine (lex_Join.calls k _ _ l0 t257 _ ?side1 ?side2 A2.out gwx).mono ?_);(case side1=>repeat (first | exact HR0.out | (with_reducible refine Kd.C_alloc ?_ _) | (with_reducible refine Kd.C_drewN ?_ _) | (with_reducible refine Kd.C_drew ?_)));(case side2=>exact HC0.out);rintro e w5 ⟨rfl,hb⟩;refine ⟨_,rfl,?_⟩;have n0_:=Aside0.mk (below_step blw hb);clear HB;have HB:=n0_;clear n0_;(try clear hb);(try clear hb2);(try clear hk);(try clear hi)))
  try simp only [Act.put,List.setIfInBounds_toArray,List.set_cons_zero,List.set_cons_succ]
  go_loopg [3,11] k (fun kq v3 v11 w'=>∃ (x3_1:ByteArray) (x11_1:Int),v3=.string x3_1∧v11=.int .i64 x11_1∧Aside0 (lex_Tight.l0 kq l0 x3_1 l0 (l0.length:Int) x11_1=some r)∧Aside0 (kq≤k)∧Aside0 (Below w.heap.size w w'))
  case atStart=>exact ⟨((⟨#[]⟩:zB)),(0),rsd,rsd,H',⟨Nat.le_refl _⟩,⟨blw⟩⟩
  case round =>
   clear H';try clear c2
   try clear p2
   try clear c3
   try clear c3b0
   try clear c3b1
   obtain ⟨x3_1,x11_1,rfl,rfl,HA,HK1,HB⟩:=hrel;cases gk with
   | zero=>exact absurd HA.out (by simp [lex_Tight.l0])
   | succ k1 =>
    have H:=HA.out;clear HA;simp only [lex_Tight.l0] at H;by_cases c6:x11_1 < (l0.length:Int)
    ·rw [if_pos c6] at H;have c6b0:decide (x11_1 < (l0.length:Int))=true:=decide_eq_true c6;clear c6;by_cases c7:0≤x11_1
     ·rw [if_pos c7] at H;have c7b0:decide (0≤x11_1)=true:=decide_eq_true c7;clear c7;by_cases c8:x11_1 < (l0.length:Int)
      ·rw [if_pos c8] at H;have c8b0:decide (x11_1 < (l0.length:Int))=true:=decide_eq_true c8;clear c8;by_cases c9:x11_1 > 0
       ·rw [if_pos c9] at H;have c9b0:decide (0 < x11_1)=true:=decide_eq_true c9;clear c9;by_cases c10:x3_1.size+((rd_T38 l0 x11_1).f1).size≤9223372036854775807
        ·rw [if_pos c10] at H;have c10b0:=eq_true c10;have c10b1:decide (x3_1.size+((rd_T38 l0 x11_1).f1).size≤9223372036854775807)=true:=decide_eq_true c10;try have c10b2:(9223372036854775807 < x3_1.size+((rd_T38 l0 x11_1).f1).size)=False:=eq_false (Nat.not_lt.2 c10)
         obtain ⟨ji11,hji11⟩:∃ j_:Int,(wrap64 (x11_1+1))=j_:=⟨_,rfl⟩;replace H:(if 0≤(ji11) then (if (ji11)≤(l0.length:Int) then ((lex_gives.f (x3_1 ++ ((rd_T38 l0 x11_1).f1)) (l0.take ((ji11):Int).toNat)).bind fun t264=>(if t264=true then (lex_Tight.l0 k1 l0 (x3_1 ++ ((rd_T38 l0 x11_1).f1)) l0 (l0.length:Int) ji11) else (if x3_1.size+1≤9223372036854775807 then (if (x3_1 ++ (⟨#[32]⟩:zB)).size+((rd_T38 l0 x11_1).f1).size≤9223372036854775807 then (lex_Tight.l0 k1 l0 ((x3_1 ++ (⟨#[32]⟩:zB)) ++ ((rd_T38 l0 x11_1).f1)) l0 (l0.length:Int) ji11) else (none)) else (none)))) else (none)) else (none))=some r:=by first | (rw [hji11] at H;exact H) | (simp only [hji11] at H ⊢;exact H)
         have hji11w:(IntKind.i64.wrap (x11_1+1))=ji11:=(i64_w _).trans hji11;by_cases c12:0≤(ji11)
         ·rw [if_pos c12] at H;have c12b0:=eq_true c12;have c12b1:decide (0≤(ji11))=true:=decide_eq_true c12;clear c12;by_cases c13:(ji11)≤(l0.length:Int)
          ·rw [if_pos c13] at H;have c13b0:=eq_true c13;have c13b1:decide ((ji11)≤(l0.length:Int))=true:=decide_eq_true c13;clear c13;obtain ⟨y260,hy260⟩:∃ y_:List (S38),y_=(l0.take ((ji11):Int).toNat):=⟨_,rfl⟩;replace H:((lex_gives.f (x3_1 ++ ((rd_T38 l0 x11_1).f1)) y260).bind fun t264=>(if t264=true then (lex_Tight.l0 k1 l0 (x3_1 ++ ((rd_T38 l0 x11_1).f1)) l0 (l0.length:Int) ji11) else (if x3_1.size+1≤9223372036854775807 then (if (x3_1 ++ (⟨#[32]⟩:zB)).size+((rd_T38 l0 x11_1).f1).size≤9223372036854775807 then (lex_Tight.l0 k1 l0 ((x3_1 ++ (⟨#[32]⟩:zB)) ++ ((rd_T38 l0 x11_1).f1)) l0 (l0.length:Int) ji11) else (none)) else (none))))=some r:=by first | (rw [hy260];with_reducible exact H) | (have H2_:=(Option.bind_some _ _).symm.trans H;rw [hy260];with_reducible exact H2_) | (have H2_:=(Option.bind_some _ _).symm.trans H;with_reducible exact H2_) | with_reducible exact H | (rw [hy260];exact H) | exact H
           have Ny260:=Aside0.mk hy260;clear hy260;replace H:=Option.bind_eq_some_iff.mp H;obtain ⟨t264,A140,H⟩:=H;replace H:(if t264=true then (lex_Tight.l0 k1 l0 (x3_1 ++ ((rd_T38 l0 x11_1).f1)) l0 (l0.length:Int) ji11) else (if x3_1.size+1≤9223372036854775807 then (if (x3_1 ++ (⟨#[32]⟩:zB)).size+((rd_T38 l0 x11_1).f1).size≤9223372036854775807 then (lex_Tight.l0 k1 l0 ((x3_1 ++ (⟨#[32]⟩:zB)) ++ ((rd_T38 l0 x11_1).f1)) l0 (l0.length:Int) ji11) else (none)) else (none)))=some r:=H;have A14:=Aside0.mk A140;clear A140;by_cases c15:t264=true
           ·subst c15;have H1:(lex_Tight.l0 k1 l0 (x3_1 ++ ((rd_T38 l0 x11_1).f1)) l0 (l0.length:Int) ji11)=some r:=by rw [if_pos rfl] at H;exact H
            clear H;have H:=H1;clear H1;have H':=Aside0.mk H;clear H;have p258:0≤(x11_1:Int):=of_decide_eq_true asm;have q258:x11_1 < (l0.length:Int):=of_decide_eq_true asm;obtain ⟨ad258,e258,hx258_0,hx258_1,hx258_2⟩:=at_T38 HR0.out x11_1 p258 q258;cases e258;replace hx258_0:=(HB.out.cell (World.block_lt_of_cell? w _ hx258_0)).trans hx258_0;replace hx258_1:=(HB.out.cell (World.block_lt_of_cell? w _ hx258_1)).trans hx258_1;replace hx258_2:=(HB.out.cell (World.block_lt_of_cell? w _ hx258_2)).trans hx258_2;replace p258:=eq_true p258;replace q258:=eq_true q258;try go_wp2_with (first | ((with_reducible refine gate_dst (N:=5) rfl ?_);refine box_event ?hg (N:=5) ?hd (cs:=#[.int .i64 0,.string (⟨#[]⟩:zB),.int .i64 0]) (t:=38) ?hr ?_;(case hd=>rfl);(case hg=>rfl);(case hr=>first | (go_simp;done) | (go_simp;rfl));intro gb259 hg w16 hbox hb;have n0_:=Aside0.mk (below_step blw hb);have n1_:=Aside0.mk (hbox);have n2_:=Aside0.mk ((by rw [hg];exact (below_size blw):w.heap.size≤gb259));have n3_:=Aside0.mk ((by rw [hg];exact (below_size blw):w.heap.size≤gb259));clear HB;have HB:=n0_;have BK259:=n1_;have GW259:=n2_;have GE259:=n3_;clear n0_ n1_ n2_ n3_;clear hb hbox hg;have hcz17_0:w16.cell? ⟨gb259,0,none⟩=some (.int .i64 0):=(blk_cell BK259.out 0).trans rfl;have hcz17_1:w16.cell? ⟨gb259,1,none⟩=some (.string (⟨#[]⟩:zB)):=(blk_cell BK259.out 1).trans rfl;have hcz17_2:w16.cell? ⟨gb259,2,none⟩=some (.int .i64 0):=(blk_cell BK259.out 2).trans rfl;have hfz17_0:=blk_frozen BK259.out 0;have hfz17_1:=blk_frozen BK259.out 1;have hfz17_2:=blk_frozen BK259.out 2))
            have n0_:Aside0 ((((w16.setCell ⟨gb259,0,none⟩ (.int .i64 ((rd_T38 l0 x11_1).f0))).setCell ⟨gb259,1,none⟩ (.string ((rd_T38 l0 x11_1).f1))).setCell ⟨gb259,2,none⟩ (.int .i64 ((rd_T38 l0 x11_1).f2))).heap[gb259]?=some (.cells #[.int .i64 ((rd_T38 l0 x11_1).f0),.string ((rd_T38 l0 x11_1).f1),.int .i64 ((rd_T38 l0 x11_1).f2)] 38 (0,0))):=⟨by (with_reducible repeat (first | refine blk_drewN ?_ _ | refine blk_drew ?_ | refine blk_alloc ?_ _));refine blk_put (cs:=#[.int .i64 ((rd_T38 l0 x11_1).f0),.string ((rd_T38 l0 x11_1).f1),.int .i64 0]) ?_ 2 _ rfl;(with_reducible repeat (first | refine blk_drewN ?_ _ | refine blk_drew ?_ | refine blk_alloc ?_ _));refine blk_put (cs:=#[.int .i64 ((rd_T38 l0 x11_1).f0),.string (⟨#[]⟩:zB),.int .i64 0]) ?_ 1 _ rfl;(with_reducible repeat (first | refine blk_drewN ?_ _ | refine blk_drew ?_ | refine blk_alloc ?_ _));refine blk_put (cs:=#[.int .i64 0,.string (⟨#[]⟩:zB),.int .i64 0]) ?_ 0 _ rfl;(with_reducible repeat (first | refine blk_drewN ?_ _ | refine blk_drew ?_ | refine blk_alloc ?_ _));exact BK259.out⟩;have n1_:Aside0 (Below w.heap.size w (((w16.setCell ⟨gb259,0,none⟩ (.int .i64 ((rd_T38 l0 x11_1).f0))).setCell ⟨gb259,1,none⟩ (.string ((rd_T38 l0 x11_1).f1))).setCell ⟨gb259,2,none⟩ (.int .i64 ((rd_T38 l0 x11_1).f2)))):=⟨blw⟩;(try clear BK259);(try clear HB);generalize (((w16.setCell ⟨gb259,0,none⟩ (.int .i64 ((rd_T38 l0 x11_1).f0))).setCell ⟨gb259,1,none⟩ (.string ((rd_T38 l0 x11_1).f1))).setCell ⟨gb259,2,none⟩ (.int .i64 ((rd_T38 l0 x11_1).f2)))=w18 at n0_ n1_ ⊢;have BK259:=n0_;have HB:=n1_;clear n0_ n1_;have n0_:=Aside0.mk (blk_drew BK259.out);have n1_:=Aside0.mk (below_drew1 HB.out);clear BK259;clear HB;have BK259:=n0_;have HB:=n1_;clear n0_ n1_;have q20:((ji11):Int)≤((l0.length:Int):Int):=of_decide_eq_true asm;obtain ⟨i020,hi020,_,hsz20,_⟩:=info_parts info38;have hroom20:l0.length≤c0:=HC0.out;have hC20:Kd.C k38 _ (some ad258) l0.length l0:=HR0.out;have hcut20:=cut_to (P:=Tryz.prog) 23 38 .i64 Tryz.underlying23 hi020 (some ad258) l0.length c0 (ji11) (of_decide_eq_true asm) q20 hroom20;have hr20:=Kd.C_take (m:=((ji11):Int).toNat) hC20 (by omega);have hy20:y260.length=((ji11):Int).toNat:=(by rw [Ny260.out,List.length_take];omega);rw [← Ny260.out] at hr20;rw [← hy20] at hcut20;have HR263:=Aside0.mk hr20;have HC263:=Aside0.mk (show y260.length≤c0 from by omega);clear hr20 hC20 hroom20 hi020 hsz20;have KY20:=Aside0.mk hy20;clear hy20;replace q20:=eq_true q20;refine start_ (n:=14) (S:=fun w'=>w'.cell? ⟨gb259,0,none⟩=some (.int .i64 ((rd_T38 l0 x11_1).f0))∧w'.cell? ⟨gb259,1,none⟩=some (.string ((rd_T38 l0 x11_1).f1))∧w'.cell? ⟨gb259,2,none⟩=some (.int .i64 ((rd_T38 l0 x11_1).f2))) (ds:=[]) #[zF,zF,zF,zF,zF,zF,zF,zF,zF,zF,zF,zF,zF,zF] (by kernel_rfl) rfl rfl ⟨(blk_cell BK259.out 0).trans rfl,(blk_cell BK259.out 1).trans rfl,(blk_cell BK259.out 2).trans rfl⟩ (fun hHeld=>?_);refine with_tabW lex_Tight.tab7 lex_Tight.bits7 (fun HT_ HW_=>?_);generalize w18.drew=w19 at BK259 HB HR263 hHeld ⊢;refine pure_ (i:=0) (N:=some 16) (v:=?_) (a':=?_) #[zT,zF,zF,zF,zF,zF,zF,zF,zF,zF,zF,zF,zF,zF] rfl rfl (any_of HT_.out (by kernel_rfl)) (fun _ _ _ h=>h) (Or.inl ⟨by rfl,?_⟩) ?_ ?_;rotate_left
            ·intro w';go_simp;with_reducible rfl
            rotate_left
            ·exact zp
            refine pure_ (i:=1) (N:=some 17) (v:=?_) (a':=?_) #[zT,zT,zF,zF,zF,zF,zF,zF,zF,zF,zF,zF,zF,zF] rfl rfl (any_of HT_.out (by kernel_rfl)) (fun _ _ _ h=>h) (Or.inl ⟨by rfl,?_⟩) ?_ ?_;rotate_left
            ·intro w';go_simp;with_reducible rfl
            rotate_left
            ·exact zp
            refine pure_ (i:=2) (N:=some 18) (v:=?_) (a':=?_) #[zT,zT,zT,zF,zF,zF,zF,zF,zF,zF,zF,zF,zF,zF] rfl rfl (any_of HT_.out (by kernel_rfl)) (fun _ _ _ h=>h) (Or.inl ⟨by rfl,?_⟩) ?_ ?_;rotate_left
            ·intro w';go_simp;with_reducible rfl
            rotate_left
            ·exact zp
            refine pure_ (i:=3) (N:=some 19) (v:=?_) (a':=?_) #[zT,zT,zT,zT,zF,zF,zF,zF,zF,zF,zF,zF,zF,zF] rfl rfl (any_of HT_.out (by kernel_rfl)) (fun _ _ _ h=>h) (Or.inl ⟨by rfl,?_⟩) ?_ ?_;rotate_left
            ·intro w';go_simp;with_reducible rfl
            rotate_left
            ·exact zp
            refine pure_ (i:=4) (N:=some 20) (v:=?_) (a':=?_) #[zT,zT,zT,zT,zT,zF,zF,zF,zF,zF,zF,zF,zF,zF] rfl rfl (any_of HT_.out (by kernel_rfl)) (fun _ _ _ h=>h) (Or.inl ⟨by rfl,?_⟩) ?_ ?_;rotate_left
            ·intro w';go_simp;with_reducible rfl
            rotate_left
            ·exact zp
            refine pure_ (i:=7) (N:=some 23) (v:=?_) (a':=?_) #[zT,zT,zT,zT,zT,zF,zF,zT,zF,zF,zF,zF,zF,zF] rfl rfl (any_of HT_.out (by kernel_rfl)) (fun _ _ _ h=>h) (Or.inl ⟨by rfl,?_⟩) ?_ ?_;rotate_left
            ·intro w';go_simp;with_reducible rfl
            rotate_left
            ·exact zp
            refine pure_ (i:=8) (N:=some 24) (v:=?_) (a':=?_) #[zT,zT,zT,zT,zT,zF,zF,zT,zT,zF,zF,zF,zF,zF] rfl rfl (any_of HT_.out (by kernel_rfl)) (fun _ _ _ h=>h) (Or.inl ⟨by rfl,?_⟩) ?_ ?_;rotate_left
            ·intro w';go_simp;with_reducible rfl
            rotate_left
            ·exact zp
            refine pure_ (i:=9) (N:=some 25) (v:=?_) (a':=?_) #[zT,zT,zT,zT,zT,zF,zF,zT,zT,zT,zF,zF,zF,zF] rfl rfl (any_of HT_.out (by kernel_rfl)) (fun _ _ _ h=>h) (Or.inl ⟨by rfl,?_⟩) ?_ ?_;rotate_left
            ·intro w';go_simp;with_reducible rfl
            rotate_left
            ·exact zp
            refine pure_ (i:=10) (N:=some 26) (v:=?_) (a':=?_) #[zT,zT,zT,zT,zT,zF,zF,zT,zT,zT,zT,zF,zF,zF] rfl rfl (any_of HT_.out (by kernel_rfl)) (fun _ _ _ h=>h) (Or.inl ⟨by rfl,?_⟩) ?_ ?_;rotate_left
            ·intro w';go_simp;with_reducible rfl
            rotate_left
            ·exact zp
            refine take_ (i:=5) (N:=some 21) (v:=?_) (a':=?_) #[zT,zT,zT,zT,zT,zT,zF,zT,zT,zT,zT,zF,zF,zF] rfl rfl (take_ofW HT_.out HW_.out (by kernel_rfl)) (fun _ _ _ h=>h) (Or.inl ⟨by rfl,?_⟩) hHeld ?_ ?_;rotate_left
            ·rintro w' ⟨s0,s1,s2⟩;go_simp;with_reducible rfl
            rotate_left
            ·exact zp
            refine pure_ (i:=6) (N:=some 22) (v:=?_) (a':=?_) #[zT,zT,zT,zT,zT,zT,zT,zT,zT,zT,zT,zF,zF,zF] rfl rfl (any_of HT_.out (by kernel_rfl)) (fun _ _ _ h=>h) (Or.inl ⟨by rfl,?_⟩) ?_ ?_;rotate_left
            ·intro w';go_simp;with_reducible rfl
            rotate_left
            ·exact zp
            refine one_ (i:=11) (N:=some 27) #[zT,zT,zT,zT,zT,zT,zT,zT,zT,zT,zT,zT,zF,zF] rfl rfl (one_of HT_.out (by kernel_rfl)) (by decide) (fun K hK=>?_);refine goes_ Tryz.func58 (by kernel_rfl) rfl #[.string (x3_1 ++ ((rd_T38 l0 x11_1).f1)),.slice (some ad258) y260.length c0] (by rfl) rfl rfl fq ?_;with_reducible refine (lex_gives.calls (x3_1 ++ ((rd_T38 l0 x11_1).f1)) _ _ y260 true _ ?side1 ?side2 A14.out gwx).mono ?_
            (case side1=>repeat (first | exact (Kd.C_below HR263.out HB.out) | (with_reducible refine Kd.C_alloc ?_ _) | (with_reducible refine Kd.C_drewN ?_ _) | (with_reducible refine Kd.C_drew ?_)));(case side2=>exact HC263.out);rintro e w21 ⟨rfl,hb⟩;refine ⟨_,rfl,?_⟩;have n0_:=Aside0.mk (blk_below (g:=gb259) (o:=.cells #[.int .i64 ((rd_T38 l0 x11_1).f0),.string ((rd_T38 l0 x11_1).f1),.int .i64 ((rd_T38 l0 x11_1).f2)] 38 (0,0)) bko hb);have n1_:=Aside0.mk (below_step blw hb);clear BK259;clear HB;have BK259:=n0_;have HB:=n1_;clear n0_ n1_;(try clear hb);(try clear hb2);(try clear hk);(try clear hi);refine hK.out _ _ ⟨(blk_cell BK259.out 0).trans rfl,(blk_cell BK259.out 1).trans rfl,(blk_cell BK259.out 2).trans rfl⟩ (fun hHeld=>?_);clear hK K;refine norm_ (a':=?_) ?_ ?_;rotate_left
            ·show Act.put _ (some 27) _=_;simp only [Act.put,List.setIfInBounds_toArray,List.set_cons_zero,List.set_cons_succ,i64_w,i32_w];rfl
            refine pure_ (i:=12) (N:=some 28) (v:=?_) (a':=?_) #[zT,zT,zT,zT,zT,zT,zT,zT,zT,zT,zT,zT,zT,zF] rfl rfl (any_of HT_.out (by kernel_rfl)) (fun _ _ _ h=>h) (Or.inl ⟨by rfl,?_⟩) ?_ ?_;rotate_left
            ·intro w';go_simp;with_reducible rfl
            rotate_left
            ·exact zp
            refine pure_ (i:=13) (N:=some 29) (v:=?_) (a':=?_) #[zT,zT,zT,zT,zT,zT,zT,zT,zT,zT,zT,zT,zT,zT] rfl rfl (any_of HT_.out (by kernel_rfl)) (fun _ _ _ h=>h) (Or.inl ⟨by rfl,?_⟩) ?_ ?_;rotate_left
            ·intro w';go_simp;with_reducible rfl
            rotate_left
            ·exact zp
            refine done_ (done_of HT_.out (by kernel_rfl)) ?_;have hcz22_0:w21.cell? ⟨gb259,0,none⟩=some (.int .i64 ((rd_T38 l0 x11_1).f0)):=(blk_cell BK259.out 0).trans rfl;have hcz22_1:w21.cell? ⟨gb259,1,none⟩=some (.string ((rd_T38 l0 x11_1).f1)):=(blk_cell BK259.out 1).trans rfl;have hcz22_2:w21.cell? ⟨gb259,2,none⟩=some (.int .i64 ((rd_T38 l0 x11_1).f2)):=(blk_cell BK259.out 2).trans rfl;have hfz22_0:=blk_frozen BK259.out 0;have hfz22_1:=blk_frozen BK259.out 1;have hfz22_2:=blk_frozen BK259.out 2;try go_wp2
            go_roundg k1
            case measure=>have:=HK1.out;omega
            case rel=>exact ⟨(x3_1 ++ ((rd_T38 l0 x11_1).f1)),(ji11),rsd,(by first | rfl | (simp;done) | (simp only [← hji11] <;> (first | rfl | simp)) | (simp [*];done)),H',⟨by have:=HK1.out;omega⟩,⟨blw⟩⟩
           ·replace c15:=Bool.eq_false_iff.mpr c15;subst c15;have H1:(if x3_1.size+1≤9223372036854775807 then (if (x3_1 ++ (⟨#[32]⟩:zB)).size+((rd_T38 l0 x11_1).f1).size≤9223372036854775807 then (lex_Tight.l0 k1 l0 ((x3_1 ++ (⟨#[32]⟩:zB)) ++ ((rd_T38 l0 x11_1).f1)) l0 (l0.length:Int) ji11) else (none)) else (none))=some r:=by rw [if_neg (show ¬ (false=true) by decide)] at H;exact H
            clear H;have H:=H1;clear H1;by_cases c23:x3_1.size+1≤9223372036854775807
            ·rw [if_pos c23] at H;have c23b0:=eq_true c23;have c23b1:decide (x3_1.size+1≤9223372036854775807)=true:=decide_eq_true c23;try have c23b2:(9223372036854775807 < x3_1.size+1)=False:=eq_false (Nat.not_lt.2 c23)
             by_cases c24:(x3_1 ++ (⟨#[32]⟩:zB)).size+((rd_T38 l0 x11_1).f1).size≤9223372036854775807
             ·rw [if_pos c24] at H;have c24b0:=eq_true c24;have c24b1:decide ((x3_1 ++ (⟨#[32]⟩:zB)).size+((rd_T38 l0 x11_1).f1).size≤9223372036854775807)=true:=decide_eq_true c24;try have c24b2:(9223372036854775807 < (x3_1 ++ (⟨#[32]⟩:zB)).size+((rd_T38 l0 x11_1).f1).size)=False:=eq_false (Nat.not_lt.2 c24)
              have H':=Aside0.mk H;clear H;have p258:0≤(x11_1:Int):=of_decide_eq_true asm;have q258:x11_1 < (l0.length:Int):=of_decide_eq_true asm;obtain ⟨ad258,e258,hx258_0,hx258_1,hx258_2⟩:=at_T38 HR0.out x11_1 p258 q258;cases e258;replace hx258_0:=(HB.out.cell (World.block_lt_of_cell? w _ hx258_0)).trans hx258_0;replace hx258_1:=(HB.out.cell (World.block_lt_of_cell? w _ hx258_1)).trans hx258_1;replace hx258_2:=(HB.out.cell (World.block_lt_of_cell? w _ hx258_2)).trans hx258_2;replace p258:=eq_true p258;replace q258:=eq_true q258;try go_wp2_with (first | ((with_reducible refine gate_dst (N:=5) rfl ?_);refine box_event ?hg (N:=5) ?hd (cs:=#[.int .i64 0,.string (⟨#[]⟩:zB),.int .i64 0]) (t:=38) ?hr ?_;(case hd=>rfl);(case hg=>rfl);(case hr=>first | (go_simp;done) | (go_simp;rfl));intro gb259 hg w25 hbox hb;have n0_:=Aside0.mk (below_step blw hb);have n1_:=Aside0.mk (hbox);have n2_:=Aside0.mk ((by rw [hg];exact (below_size blw):w.heap.size≤gb259));have n3_:=Aside0.mk ((by rw [hg];exact (below_size blw):w.heap.size≤gb259));clear HB;have HB:=n0_;have BK259:=n1_;have GW259:=n2_;have GE259:=n3_;clear n0_ n1_ n2_ n3_;clear hb hbox hg;have hcz26_0:w25.cell? ⟨gb259,0,none⟩=some (.int .i64 0):=(blk_cell BK259.out 0).trans rfl;have hcz26_1:w25.cell? ⟨gb259,1,none⟩=some (.string (⟨#[]⟩:zB)):=(blk_cell BK259.out 1).trans rfl;have hcz26_2:w25.cell? ⟨gb259,2,none⟩=some (.int .i64 0):=(blk_cell BK259.out 2).trans rfl;have hfz26_0:=blk_frozen BK259.out 0;have hfz26_1:=blk_frozen BK259.out 1;have hfz26_2:=blk_frozen BK259.out 2))
              have n0_:Aside0 ((((w25.setCell ⟨gb259,0,none⟩ (.int .i64 ((rd_T38 l0 x11_1).f0))).setCell ⟨gb259,1,none⟩ (.string ((rd_T38 l0 x11_1).f1))).setCell ⟨gb259,2,none⟩ (.int .i64 ((rd_T38 l0 x11_1).f2))).heap[gb259]?=some (.cells #[.int .i64 ((rd_T38 l0 x11_1).f0),.string ((rd_T38 l0 x11_1).f1),.int .i64 ((rd_T38 l0 x11_1).f2)] 38 (0,0))):=⟨by (with_reducible repeat (first | refine blk_drewN ?_ _ | refine blk_drew ?_ | refine blk_alloc ?_ _));refine blk_put (cs:=#[.int .i64 ((rd_T38 l0 x11_1).f0),.string ((rd_T38 l0 x11_1).f1),.int .i64 0]) ?_ 2 _ rfl;(with_reducible repeat (first | refine blk_drewN ?_ _ | refine blk_drew ?_ | refine blk_alloc ?_ _));refine blk_put (cs:=#[.int .i64 ((rd_T38 l0 x11_1).f0),.string (⟨#[]⟩:zB),.int .i64 0]) ?_ 1 _ rfl;(with_reducible repeat (first | refine blk_drewN ?_ _ | refine blk_drew ?_ | refine blk_alloc ?_ _));refine blk_put (cs:=#[.int .i64 0,.string (⟨#[]⟩:zB),.int .i64 0]) ?_ 0 _ rfl;(with_reducible repeat (first | refine blk_drewN ?_ _ | refine blk_drew ?_ | refine blk_alloc ?_ _));exact BK259.out⟩;have n1_:Aside0 (Below w.heap.size w (((w25.setCell ⟨gb259,0,none⟩ (.int .i64 ((rd_T38 l0 x11_1).f0))).setCell ⟨gb259,1,none⟩ (.string ((rd_T38 l0 x11_1).f1))).setCell ⟨gb259,2,none⟩ (.int .i64 ((rd_T38 l0 x11_1).f2)))):=⟨blw⟩;(try clear BK259);(try clear HB);generalize (((w25.setCell ⟨gb259,0,none⟩ (.int .i64 ((rd_T38 l0 x11_1).f0))).setCell ⟨gb259,1,none⟩ (.string ((rd_T38 l0 x11_1).f1))).setCell ⟨gb259,2,none⟩ (.int .i64 ((rd_T38 l0 x11_1).f2)))=w27 at n0_ n1_ ⊢;have BK259:=n0_;have HB:=n1_;clear n0_ n1_;have n0_:=Aside0.mk (blk_drew BK259.out);have n1_:=Aside0.mk (below_drew1 HB.out);clear BK259;clear HB;have BK259:=n0_;have HB:=n1_;clear n0_ n1_;have q29:((ji11):Int)≤((l0.length:Int):Int):=of_decide_eq_true asm;obtain ⟨i029,hi029,_,hsz29,_⟩:=info_parts info38;have hroom29:l0.length≤c0:=HC0.out;have hC29:Kd.C k38 _ (some ad258) l0.length l0:=HR0.out;have hcut29:=cut_to (P:=Tryz.prog) 23 38 .i64 Tryz.underlying23 hi029 (some ad258) l0.length c0 (ji11) (of_decide_eq_true asm) q29 hroom29;have hr29:=Kd.C_take (m:=((ji11):Int).toNat) hC29 (by omega);have hy29:y260.length=((ji11):Int).toNat:=(by rw [Ny260.out,List.length_take];omega);rw [← Ny260.out] at hr29;rw [← hy29] at hcut29;have HR263:=Aside0.mk hr29;have HC263:=Aside0.mk (show y260.length≤c0 from by omega);clear hr29 hC29 hroom29 hi029 hsz29;have KY29:=Aside0.mk hy29;clear hy29;replace q29:=eq_true q29;refine start_ (n:=14) (S:=fun w'=>w'.cell? ⟨gb259,0,none⟩=some (.int .i64 ((rd_T38 l0 x11_1).f0))∧w'.cell? ⟨gb259,1,none⟩=some (.string ((rd_T38 l0 x11_1).f1))∧w'.cell? ⟨gb259,2,none⟩=some (.int .i64 ((rd_T38 l0 x11_1).f2))) (ds:=[]) #[zF,zF,zF,zF,zF,zF,zF,zF,zF,zF,zF,zF,zF,zF] (by kernel_rfl) rfl rfl ⟨(blk_cell BK259.out 0).trans rfl,(blk_cell BK259.out 1).trans rfl,(blk_cell BK259.out 2).trans rfl⟩ (fun hHeld=>?_);refine with_tabW lex_Tight.tab7 lex_Tight.bits7 (fun HT_ HW_=>?_);generalize w27.drew=w28 at BK259 HB HR263 hHeld ⊢;refine pure_ (i:=0) (N:=some 16) (v:=?_) (a':=?_) #[zT,zF,zF,zF,zF,zF,zF,zF,zF,zF,zF,zF,zF,zF] rfl rfl (any_of HT_.out (by kernel_rfl)) (fun _ _ _ h=>h) (Or.inl ⟨by rfl,?_⟩) ?_ ?_;rotate_left
              ·intro w';go_simp;with_reducible rfl
              rotate_left
              ·exact zp
              refine pure_ (i:=1) (N:=some 17) (v:=?_) (a':=?_) #[zT,zT,zF,zF,zF,zF,zF,zF,zF,zF,zF,zF,zF,zF] rfl rfl (any_of HT_.out (by kernel_rfl)) (fun _ _ _ h=>h) (Or.inl ⟨by rfl,?_⟩) ?_ ?_;rotate_left
              ·intro w';go_simp;with_reducible rfl
              rotate_left
              ·exact zp
              refine pure_ (i:=2) (N:=some 18) (v:=?_) (a':=?_) #[zT,zT,zT,zF,zF,zF,zF,zF,zF,zF,zF,zF,zF,zF] rfl rfl (any_of HT_.out (by kernel_rfl)) (fun _ _ _ h=>h) (Or.inl ⟨by rfl,?_⟩) ?_ ?_;rotate_left
              ·intro w';go_simp;with_reducible rfl
              rotate_left
              ·exact zp
              refine pure_ (i:=3) (N:=some 19) (v:=?_) (a':=?_) #[zT,zT,zT,zT,zF,zF,zF,zF,zF,zF,zF,zF,zF,zF] rfl rfl (any_of HT_.out (by kernel_rfl)) (fun _ _ _ h=>h) (Or.inl ⟨by rfl,?_⟩) ?_ ?_;rotate_left
              ·intro w';go_simp;with_reducible rfl
              rotate_left
              ·exact zp
              refine pure_ (i:=4) (N:=some 20) (v:=?_) (a':=?_) #[zT,zT,zT,zT,zT,zF,zF,zF,zF,zF,zF,zF,zF,zF] rfl rfl (any_of HT_.out (by kernel_rfl)) (fun _ _ _ h=>h) (Or.inl ⟨by rfl,?_⟩) ?_ ?_;rotate_left
              ·intro w';go_simp;with_reducible rfl
              rotate_left
              ·exact zp
              refine pure_ (i:=7) (N:=some 23) (v:=?_) (a':=?_) #[zT,zT,zT,zT,zT,zF,zF,zT,zF,zF,zF,zF,zF,zF] rfl rfl (any_of HT_.out (by kernel_rfl)) (fun _ _ _ h=>h) (Or.inl ⟨by rfl,?_⟩) ?_ ?_;rotate_left
              ·intro w';go_simp;with_reducible rfl
              rotate_left
              ·exact zp
              refine pure_ (i:=8) (N:=some 24) (v:=?_) (a':=?_) #[zT,zT,zT,zT,zT,zF,zF,zT,zT,zF,zF,zF,zF,zF] rfl rfl (any_of HT_.out (by kernel_rfl)) (fun _ _ _ h=>h) (Or.inl ⟨by rfl,?_⟩) ?_ ?_;rotate_left
              ·intro w';go_simp;with_reducible rfl
              rotate_left
              ·exact zp
              refine pure_ (i:=9) (N:=some 25) (v:=?_) (a':=?_) #[zT,zT,zT,zT,zT,zF,zF,zT,zT,zT,zF,zF,zF,zF] rfl rfl (any_of HT_.out (by kernel_rfl)) (fun _ _ _ h=>h) (Or.inl ⟨by rfl,?_⟩) ?_ ?_;rotate_left
              ·intro w';go_simp;with_reducible rfl
              rotate_left
              ·exact zp
              refine pure_ (i:=10) (N:=some 26) (v:=?_) (a':=?_) #[zT,zT,zT,zT,zT,zF,zF,zT,zT,zT,zT,zF,zF,zF] rfl rfl (any_of HT_.out (by kernel_rfl)) (fun _ _ _ h=>h) (Or.inl ⟨by rfl,?_⟩) ?_ ?_;rotate_left
              ·intro w';go_simp;with_reducible rfl
              rotate_left
              ·exact zp
              refine take_ (i:=5) (N:=some 21) (v:=?_) (a':=?_) #[zT,zT,zT,zT,zT,zT,zF,zT,zT,zT,zT,zF,zF,zF] rfl rfl (take_ofW HT_.out HW_.out (by kernel_rfl)) (fun _ _ _ h=>h) (Or.inl ⟨by rfl,?_⟩) hHeld ?_ ?_;rotate_left
              ·rintro w' ⟨s0,s1,s2⟩;go_simp;with_reducible rfl
              rotate_left
              ·exact zp
              refine pure_ (i:=6) (N:=some 22) (v:=?_) (a':=?_) #[zT,zT,zT,zT,zT,zT,zT,zT,zT,zT,zT,zF,zF,zF] rfl rfl (any_of HT_.out (by kernel_rfl)) (fun _ _ _ h=>h) (Or.inl ⟨by rfl,?_⟩) ?_ ?_;rotate_left
              ·intro w';go_simp;with_reducible rfl
              rotate_left
              ·exact zp
              refine one_ (i:=11) (N:=some 27) #[zT,zT,zT,zT,zT,zT,zT,zT,zT,zT,zT,zT,zF,zF] rfl rfl (one_of HT_.out (by kernel_rfl)) (by decide) (fun K hK=>?_);refine goes_ Tryz.func58 (by kernel_rfl) rfl #[.string (x3_1 ++ ((rd_T38 l0 x11_1).f1)),.slice (some ad258) y260.length c0] (by rfl) rfl rfl fq ?_;with_reducible refine (lex_gives.calls (x3_1 ++ ((rd_T38 l0 x11_1).f1)) _ _ y260 false _ ?side1 ?side2 A14.out gwx).mono ?_
              (case side1=>repeat (first | exact (Kd.C_below HR263.out HB.out) | (with_reducible refine Kd.C_alloc ?_ _) | (with_reducible refine Kd.C_drewN ?_ _) | (with_reducible refine Kd.C_drew ?_)));(case side2=>exact HC263.out);rintro e w30 ⟨rfl,hb⟩;refine ⟨_,rfl,?_⟩;have n0_:=Aside0.mk (blk_below (g:=gb259) (o:=.cells #[.int .i64 ((rd_T38 l0 x11_1).f0),.string ((rd_T38 l0 x11_1).f1),.int .i64 ((rd_T38 l0 x11_1).f2)] 38 (0,0)) bko hb);have n1_:=Aside0.mk (below_step blw hb);clear BK259;clear HB;have BK259:=n0_;have HB:=n1_;clear n0_ n1_;(try clear hb);(try clear hb2);(try clear hk);(try clear hi);refine hK.out _ _ ⟨(blk_cell BK259.out 0).trans rfl,(blk_cell BK259.out 1).trans rfl,(blk_cell BK259.out 2).trans rfl⟩ (fun hHeld=>?_);clear hK K;refine norm_ (a':=?_) ?_ ?_;rotate_left
              ·show Act.put _ (some 27) _=_;simp only [Act.put,List.setIfInBounds_toArray,List.set_cons_zero,List.set_cons_succ,i64_w,i32_w];rfl
              refine pure_ (i:=12) (N:=some 28) (v:=?_) (a':=?_) #[zT,zT,zT,zT,zT,zT,zT,zT,zT,zT,zT,zT,zT,zF] rfl rfl (any_of HT_.out (by kernel_rfl)) (fun _ _ _ h=>h) (Or.inl ⟨by rfl,?_⟩) ?_ ?_;rotate_left
              ·intro w';go_simp;with_reducible rfl
              rotate_left
              ·exact zp
              refine pure_ (i:=13) (N:=some 29) (v:=?_) (a':=?_) #[zT,zT,zT,zT,zT,zT,zT,zT,zT,zT,zT,zT,zT,zT] rfl rfl (any_of HT_.out (by kernel_rfl)) (fun _ _ _ h=>h) (Or.inl ⟨by rfl,?_⟩) ?_ ?_;rotate_left
              ·intro w';go_simp;with_reducible rfl
              rotate_left
              ·exact zp
              refine done_ (done_of HT_.out (by kernel_rfl)) ?_;have hcz31_0:w30.cell? ⟨gb259,0,none⟩=some (.int .i64 ((rd_T38 l0 x11_1).f0)):=(blk_cell BK259.out 0).trans rfl;have hcz31_1:w30.cell? ⟨gb259,1,none⟩=some (.string ((rd_T38 l0 x11_1).f1)):=(blk_cell BK259.out 1).trans rfl;have hcz31_2:w30.cell? ⟨gb259,2,none⟩=some (.int .i64 ((rd_T38 l0 x11_1).f2)):=(blk_cell BK259.out 2).trans rfl;have hfz31_0:=blk_frozen BK259.out 0;have hfz31_1:=blk_frozen BK259.out 1;have hfz31_2:=blk_frozen BK259.out 2;try go_wp2
              go_roundg k1
              case measure=>have:=HK1.out;omega
              case rel=>exact ⟨((x3_1 ++ (⟨#[32]⟩:zB)) ++ ((rd_T38 l0 x11_1).f1)),(ji11),rsd,(by first | rfl | (simp;done) | (simp only [← hji11] <;> (first | rfl | simp)) | (simp [*];done)),H',⟨by have:=HK1.out;omega⟩,⟨blw⟩⟩
             ·rw [if_neg c24] at H;exact absurd H (by simp)
            ·rw [if_neg c23] at H;exact absurd H (by simp)
          ·rw [if_neg c13] at H;exact absurd H (by simp)
         ·rw [if_neg c12] at H;exact absurd H (by simp)
        ·rw [if_neg c10] at H;exact absurd H (by simp)
       ·rw [if_neg c9] at H;have c9b0:decide (0 < x11_1)=false:=decide_eq_false c9;clear c9;by_cases c32:x3_1.size+((rd_T38 l0 x11_1).f1).size≤9223372036854775807
        ·rw [if_pos c32] at H;have c32b0:=eq_true c32;have c32b1:decide (x3_1.size+((rd_T38 l0 x11_1).f1).size≤9223372036854775807)=true:=decide_eq_true c32;try have c32b2:(9223372036854775807 < x3_1.size+((rd_T38 l0 x11_1).f1).size)=False:=eq_false (Nat.not_lt.2 c32)
         have H':=Aside0.mk H;clear H;have p258:0≤(x11_1:Int):=of_decide_eq_true asm;have q258:x11_1 < (l0.length:Int):=of_decide_eq_true asm;obtain ⟨ad258,e258,hx258_0,hx258_1,hx258_2⟩:=at_T38 HR0.out x11_1 p258 q258;cases e258;replace hx258_0:=(HB.out.cell (World.block_lt_of_cell? w _ hx258_0)).trans hx258_0;replace hx258_1:=(HB.out.cell (World.block_lt_of_cell? w _ hx258_1)).trans hx258_1;replace hx258_2:=(HB.out.cell (World.block_lt_of_cell? w _ hx258_2)).trans hx258_2;replace p258:=eq_true p258;replace q258:=eq_true q258;try go_wp2_with (first | ((with_reducible refine gate_dst (N:=5) rfl ?_);refine box_event ?hg (N:=5) ?hd (cs:=#[.int .i64 0,.string (⟨#[]⟩:zB),.int .i64 0]) (t:=38) ?hr ?_;(case hd=>rfl);(case hg=>rfl);(case hr=>first | (go_simp;done) | (go_simp;rfl));intro gb259 hg w33 hbox hb;have n0_:=Aside0.mk (below_step blw hb);have n1_:=Aside0.mk (hbox);have n2_:=Aside0.mk ((by rw [hg];exact (below_size blw):w.heap.size≤gb259));have n3_:=Aside0.mk ((by rw [hg];exact (below_size blw):w.heap.size≤gb259));clear HB;have HB:=n0_;have BK259:=n1_;have GW259:=n2_;have GE259:=n3_;clear n0_ n1_ n2_ n3_;clear hb hbox hg;have hcz34_0:w33.cell? ⟨gb259,0,none⟩=some (.int .i64 0):=(blk_cell BK259.out 0).trans rfl;have hcz34_1:w33.cell? ⟨gb259,1,none⟩=some (.string (⟨#[]⟩:zB)):=(blk_cell BK259.out 1).trans rfl;have hcz34_2:w33.cell? ⟨gb259,2,none⟩=some (.int .i64 0):=(blk_cell BK259.out 2).trans rfl;have hfz34_0:=blk_frozen BK259.out 0;have hfz34_1:=blk_frozen BK259.out 1;have hfz34_2:=blk_frozen BK259.out 2))
         have n0_:Aside0 ((((w33.setCell ⟨gb259,0,none⟩ (.int .i64 ((rd_T38 l0 x11_1).f0))).setCell ⟨gb259,1,none⟩ (.string ((rd_T38 l0 x11_1).f1))).setCell ⟨gb259,2,none⟩ (.int .i64 ((rd_T38 l0 x11_1).f2))).heap[gb259]?=some (.cells #[.int .i64 ((rd_T38 l0 x11_1).f0),.string ((rd_T38 l0 x11_1).f1),.int .i64 ((rd_T38 l0 x11_1).f2)] 38 (0,0))):=⟨by (with_reducible repeat (first | refine blk_drewN ?_ _ | refine blk_drew ?_ | refine blk_alloc ?_ _));refine blk_put (cs:=#[.int .i64 ((rd_T38 l0 x11_1).f0),.string ((rd_T38 l0 x11_1).f1),.int .i64 0]) ?_ 2 _ rfl;(with_reducible repeat (first | refine blk_drewN ?_ _ | refine blk_drew ?_ | refine blk_alloc ?_ _));refine blk_put (cs:=#[.int .i64 ((rd_T38 l0 x11_1).f0),.string (⟨#[]⟩:zB),.int .i64 0]) ?_ 1 _ rfl;(with_reducible repeat (first | refine blk_drewN ?_ _ | refine blk_drew ?_ | refine blk_alloc ?_ _));refine blk_put (cs:=#[.int .i64 0,.string (⟨#[]⟩:zB),.int .i64 0]) ?_ 0 _ rfl;(with_reducible repeat (first | refine blk_drewN ?_ _ | refine blk_drew ?_ | refine blk_alloc ?_ _));exact BK259.out⟩;have n1_:Aside0 (Below w.heap.size w (((w33.setCell ⟨gb259,0,none⟩ (.int .i64 ((rd_T38 l0 x11_1).f0))).setCell ⟨gb259,1,none⟩ (.string ((rd_T38 l0 x11_1).f1))).setCell ⟨gb259,2,none⟩ (.int .i64 ((rd_T38 l0 x11_1).f2)))):=⟨blw⟩;(try clear BK259);(try clear HB);generalize (((w33.setCell ⟨gb259,0,none⟩ (.int .i64 ((rd_T38 l0 x11_1).f0))).setCell ⟨gb259,1,none⟩ (.string ((rd_T38 l0 x11_1).f1))).setCell ⟨gb259,2,none⟩ (.int .i64 ((rd_T38 l0 x11_1).f2)))=w35 at n0_ n1_ ⊢;have BK259:=n0_;have HB:=n1_;clear n0_ n1_;have n0_:=Aside0.mk (blk_drew BK259.out);have n1_:=Aside0.mk (below_drew1 HB.out);clear BK259;clear HB;have BK259:=n0_;have HB:=n1_;clear n0_ n1_;refine start_ (n:=14) (S:=fun w'=>True) (ds:=[]) #[zF,zF,zF,zF,zF,zF,zF,zF,zF,zF,zF,zF,zF,zF] (by kernel_rfl) rfl rfl trivial (fun hHeld=>?_);refine with_tabW lex_Tight.tab7 lex_Tight.bits7 (fun HT_ HW_=>?_);generalize w35.drew=w36 at BK259 HB hHeld ⊢;refine pure_ (i:=0) (N:=some 16) (v:=?_) (a':=?_) #[zT,zF,zF,zF,zF,zF,zF,zF,zF,zF,zF,zF,zF,zF] rfl rfl (any_of HT_.out (by kernel_rfl)) (fun _ _ _ h=>h) (Or.inl ⟨by rfl,?_⟩) ?_ ?_;rotate_left
         ·intro w';go_simp;with_reducible rfl
         rotate_left
         ·exact zp
         refine pure_ (i:=1) (N:=some 17) (v:=?_) (a':=?_) #[zT,zT,zF,zF,zF,zF,zF,zF,zF,zF,zF,zF,zF,zF] rfl rfl (any_of HT_.out (by kernel_rfl)) (fun _ _ _ h=>h) (Or.inl ⟨by rfl,?_⟩) ?_ ?_;rotate_left
         ·intro w';go_simp;with_reducible rfl
         rotate_left
         ·exact zp
         refine pure_ (i:=2) (N:=some 18) (v:=?_) (a':=?_) #[zT,zT,zT,zF,zF,zF,zF,zF,zF,zF,zF,zF,zF,zF] rfl rfl (any_of HT_.out (by kernel_rfl)) (fun _ _ _ h=>h) (Or.inl ⟨by rfl,?_⟩) ?_ ?_;rotate_left
         ·intro w';go_simp;with_reducible rfl
         rotate_left
         ·exact zp
         refine pure_ (i:=3) (N:=some 19) (v:=undef) (a':=?_) #[zT,zT,zT,zT,zF,zF,zF,zF,zF,zF,zF,zF,zF,zF] rfl rfl (any_of HT_.out (by kernel_rfl)) (fun _ _ _ h=>h) (Or.inr ⟨by rfl,rfl⟩) ?_ ?_;rotate_left
         ·exact zp
         refine pure_ (i:=4) (N:=some 20) (v:=undef) (a':=?_) #[zT,zT,zT,zT,zT,zF,zF,zF,zF,zF,zF,zF,zF,zF] rfl rfl (any_of HT_.out (by kernel_rfl)) (fun _ _ _ h=>h) (Or.inr ⟨by rfl,rfl⟩) ?_ ?_;rotate_left
         ·exact zp
         refine pure_ (i:=5) (N:=some 21) (v:=undef) (a':=?_) #[zT,zT,zT,zT,zT,zT,zF,zF,zF,zF,zF,zF,zF,zF] rfl rfl (any_of HT_.out (by kernel_rfl)) (fun _ _ _ h=>h) (Or.inr ⟨by rfl,rfl⟩) ?_ ?_;rotate_left
         ·exact zp
         refine pure_ (i:=6) (N:=some 22) (v:=undef) (a':=?_) #[zT,zT,zT,zT,zT,zT,zT,zF,zF,zF,zF,zF,zF,zF] rfl rfl (any_of HT_.out (by kernel_rfl)) (fun _ _ _ h=>h) (Or.inr ⟨by rfl,rfl⟩) ?_ ?_;rotate_left
         ·exact zp
         refine pure_ (i:=7) (N:=some 23) (v:=undef) (a':=?_) #[zT,zT,zT,zT,zT,zT,zT,zT,zF,zF,zF,zF,zF,zF] rfl rfl (any_of HT_.out (by kernel_rfl)) (fun _ _ _ h=>h) (Or.inr ⟨by rfl,rfl⟩) ?_ ?_;rotate_left
         ·exact zp
         refine pure_ (i:=8) (N:=some 24) (v:=undef) (a':=?_) #[zT,zT,zT,zT,zT,zT,zT,zT,zT,zF,zF,zF,zF,zF] rfl rfl (any_of HT_.out (by kernel_rfl)) (fun _ _ _ h=>h) (Or.inr ⟨by rfl,rfl⟩) ?_ ?_;rotate_left
         ·exact zp
         refine pure_ (i:=9) (N:=some 25) (v:=undef) (a':=?_) #[zT,zT,zT,zT,zT,zT,zT,zT,zT,zT,zF,zF,zF,zF] rfl rfl (any_of HT_.out (by kernel_rfl)) (fun _ _ _ h=>h) (Or.inr ⟨by rfl,rfl⟩) ?_ ?_;rotate_left
         ·exact zp
         refine pure_ (i:=10) (N:=some 26) (v:=undef) (a':=?_) #[zT,zT,zT,zT,zT,zT,zT,zT,zT,zT,zT,zF,zF,zF] rfl rfl (any_of HT_.out (by kernel_rfl)) (fun _ _ _ h=>h) (Or.inr ⟨by rfl,rfl⟩) ?_ ?_;rotate_left
         ·exact zp
         refine pure_ (i:=11) (N:=some 27) (v:=undef) (a':=?_) #[zT,zT,zT,zT,zT,zT,zT,zT,zT,zT,zT,zT,zF,zF] rfl rfl (any_of HT_.out (by kernel_rfl)) (fun _ _ _ h=>h) (Or.inr ⟨by rfl,rfl⟩) ?_ ?_;rotate_left
         ·exact zp
         refine pure_ (i:=12) (N:=some 28) (v:=undef) (a':=?_) #[zT,zT,zT,zT,zT,zT,zT,zT,zT,zT,zT,zT,zT,zF] rfl rfl (any_of HT_.out (by kernel_rfl)) (fun _ _ _ h=>h) (Or.inr ⟨by rfl,rfl⟩) ?_ ?_;rotate_left
         ·exact zp
         refine pure_ (i:=13) (N:=some 29) (v:=?_) (a':=?_) #[zT,zT,zT,zT,zT,zT,zT,zT,zT,zT,zT,zT,zT,zT] rfl rfl (any_of HT_.out (by kernel_rfl)) (fun _ _ _ h=>h) (Or.inl ⟨by rfl,?_⟩) ?_ ?_;rotate_left
         ·intro w';go_simp;with_reducible rfl
         rotate_left
         ·exact zp
         refine done_ (done_of HT_.out (by kernel_rfl)) ?_;have hcz37_0:w36.cell? ⟨gb259,0,none⟩=some (.int .i64 ((rd_T38 l0 x11_1).f0)):=(blk_cell BK259.out 0).trans rfl;have hcz37_1:w36.cell? ⟨gb259,1,none⟩=some (.string ((rd_T38 l0 x11_1).f1)):=(blk_cell BK259.out 1).trans rfl;have hcz37_2:w36.cell? ⟨gb259,2,none⟩=some (.int .i64 ((rd_T38 l0 x11_1).f2)):=(blk_cell BK259.out 2).trans rfl;have hfz37_0:=blk_frozen BK259.out 0;have hfz37_1:=blk_frozen BK259.out 1;have hfz37_2:=blk_frozen BK259.out 2;try go_wp2
         go_roundg k1
         case measure=>have:=HK1.out;omega
         case rel=>exact ⟨(x3_1 ++ ((rd_T38 l0 x11_1).f1)),(wrap64 (x11_1+1)),rsd,rsd,H',⟨by have:=HK1.out;omega⟩,⟨blw⟩⟩
        ·rw [if_neg c32] at H;exact absurd H (by simp)
      ·rw [if_neg c8] at H;exact absurd H (by simp)
     ·rw [if_neg c7] at H;exact absurd H (by simp)
    ·rw [if_neg c6] at H;have c6b0:decide (x11_1 < (l0.length:Int))=false:=decide_eq_false c6;clear c6;obtain rfl:=Option.some.inj H;go_wp2;go_ret;exact ⟨rew,blw⟩
mutual
def lzkinds.j0:Nat→List Int→List ByteArray→List (S38)→Bool→Option (Bool)
 | 0,_,_,_,_=>none
 | k+1,x1,x2,x7,x29=>if x29=true then (some false) else (lzkinds.l0 k x1 x2 x7 0)
def lzkinds.l0:Nat→List Int→List ByteArray→List (S38)→Int→Option (Bool)
 | 0,_,_,_,_=>none
 | k+1,x1,x2,x7,x10=>if x10 < (x2.length:Int) then (if 0≤x10 then (if x10 < (x7.length:Int) then (if x10 < (x1.length:Int) then (if ((rd_T38 x7 x10).f0)=(rd x1 x10) then (if ((rd_T38 x7 x10).f1).toList=(rdOf ByteArray.empty x2 x10).toList then (lzkinds.l0 k x1 x2 x7 (wrap64 (x10+1))) else (some false)) else (some false)) else (none)) else (none)) else (none)) else (some true)
end
def lzkinds.f (k:Nat) (a0:ByteArray) (l1:List Int) (l2:List ByteArray):Option (Bool):=(lex_Scan.f a0).bind fun bt138=>(if bt138.2.2=0 then (if bt138.2.1=0 then (lzkinds.j0 k l1 l2 bt138.1 ((bt138.1.length:Int) != (l2.length:Int))) else (lzkinds.j0 k l1 l2 bt138.1 true)) else (lzkinds.j0 k l1 l2 bt138.1 true))
theorem lzkinds.mono_l:∀ k,(∀ y0 y1 y2 y3,LeO (lzkinds.j0 k y0 y1 y2 y3) (lzkinds.j0 (k+1) y0 y1 y2 y3))∧(∀ y0 y1 y2 y3,LeO (lzkinds.l0 k y0 y1 y2 y3) (lzkinds.l0 (k+1) y0 y1 y2 y3))
 | 0=>⟨fun _ _ _ _ r h=>by simp [lzkinds.j0] at h,fun _ _ _ _ r h=>by simp [lzkinds.l0] at h⟩
 | k+1=>by
  obtain ⟨ih0,ih1⟩:=lzkinds.mono_l k;refine ⟨?_,?_⟩
  ·intro y0 y1 y2 y3;unfold lzkinds.j0;repeat' first
   | (with_reducible exact ih0 _ _ _ _)
   | (with_reducible exact ih1 _ _ _ _)
   | (with_reducible exact LeO.refl _)
   | (with_reducible exact LeO.none _)
   | (with_reducible refine LeO.ite ?_ ?_)
   | (with_reducible refine LeO.bind ?_ (fun _=>?_))
   | exact LeO.none _
   | refine LeO.ite ?_ ?_
   | refine LeO.bind ?_ (fun _=>?_)
  ·intro y0 y1 y2 y3;unfold lzkinds.l0;repeat' first
   | (with_reducible exact ih0 _ _ _ _)
   | (with_reducible exact ih1 _ _ _ _)
   | (with_reducible exact LeO.refl _)
   | (with_reducible exact LeO.none _)
   | (with_reducible refine LeO.ite ?_ ?_)
   | (with_reducible refine LeO.bind ?_ (fun _=>?_))
   | exact LeO.none _
   | refine LeO.ite ?_ ?_
   | refine LeO.bind ?_ (fun _=>?_)
theorem lzkinds.mono:∀ a0 a1 a2 k,LeO (lzkinds.f k a0 a1 a2) (lzkinds.f (k+1) a0 a1 a2):=by
 intro a0 a1 a2 k;obtain ⟨ih0,ih1⟩:=lzkinds.mono_l k;unfold lzkinds.f;repeat' first
   | (with_reducible exact ih0 _ _ _ _)
   | (with_reducible exact ih1 _ _ _ _)
   | (with_reducible exact LeO.refl _)
   | (with_reducible exact LeO.none _)
   | (with_reducible refine LeO.ite ?_ ?_)
   | (with_reducible refine LeO.bind ?_ (fun _=>?_))
   | exact LeO.none _
   | refine LeO.ite ?_ ?_
   | refine LeO.bind ?_ (fun _=>?_)
set_option maxHeartbeats 8000000 in
set_option maxRecDepth 100000 in
theorem lzkinds.calls (k:Nat) (a0:ByteArray) (A1:Option Addr) (c1:Nat) (l1:List Int) (A2:Option Addr) (c2:Nat) (l2:List ByteArray) (r:Bool) (w:World) (hr1:Kd.C (Kd.int .i64) w A1 l1.length l1) (hc1:l1.length≤c1) (hr2:Kd.C Kd.string w A2 l2.length l2) (hc2:l2.length≤c2) (h:lzkinds.f k a0 l1 l2=some r) (hgw:GW w) :
  Calls Tryz.prog 47 #[.string a0,.slice A1 l1.length c1,.slice A2 l2.length c2] w fun e w'=>e=.returned (.bool r)∧Below w.heap.size w w':=by
 have HR1:=Aside0.mk hr1;have HC1:=Aside0.mk hc1;clear hr1 hc1;have HR2:=Aside0.mk hr2;have HC2:=Aside0.mk hc2;clear hr2 hc2;have HB:=Aside0.mk (Below.refl w.heap.size w);have H:((lex_Scan.f a0).bind fun bt138=>(if bt138.2.2=0 then (if bt138.2.1=0 then (lzkinds.j0 k l1 l2 bt138.1 ((bt138.1.length:Int) != (l2.length:Int))) else (lzkinds.j0 k l1 l2 bt138.1 true)) else (lzkinds.j0 k l1 l2 bt138.1 true)))=some r:=h;clear h;replace H:=Option.bind_eq_some_iff.mp H;obtain ⟨⟨t138,t139,t140⟩,A40,H⟩:=H;replace H:(if t140=0 then (if t139=0 then (lzkinds.j0 k l1 l2 t138 ((t138.length:Int) != (l2.length:Int))) else (lzkinds.j0 k l1 l2 t138 true)) else (lzkinds.j0 k l1 l2 t138 true))=some r:=H;have A4:=Aside0.mk A40;clear A40;have HC5:=Aside0.mk H;clear H;go_enter Tryz.func47,Tryz.ntmps47
 go_upto_region 2 with (first | (go_at_call 17;(with_reducible refine (lex_Scan.calls a0 t138 t139 t140 _ A4.out gwx).mono ?_);rintro e w6 ⟨v141,rfl,ho0,hb⟩;have n0_:=Aside0.mk (Kd.R_lower ho0 (below_size blw));have n1_:=Aside0.mk (below_step blw hb);clear HB;have HO142:=n0_;have HB:=n1_;clear n0_ n1_;(try clear hb);(try clear hb2);(try clear hk);(try clear hi);(try clear ho0)))
 repeat (go_quiet (first | (go_at_call 17;(with_reducible refine (lex_Scan.calls a0 t138 t139 t140 _ A4.out gwx).mono ?_);rintro e w6 ⟨v141,rfl,ho0,hb⟩;have n0_:=Aside0.mk (Kd.R_lower ho0 (below_size blw));have n1_:=Aside0.mk (below_step blw hb);clear HB;have HO142:=n0_;have HB:=n1_;clear n0_ n1_;(try clear hb);(try clear hb2);(try clear hk);(try clear hi);(try clear ho0)));go_upto_region 2 with (first | (go_at_call 17;(with_reducible refine (lex_Scan.calls a0 t138 t139 t140 _ A4.out gwx).mono ?_);rintro e w6 ⟨v141,rfl,ho0,hb⟩;have n0_:=Aside0.mk (Kd.R_lower ho0 (below_size blw));have n1_:=Aside0.mk (below_step blw hb);clear HB;have HO142:=n0_;have HB:=n1_;clear n0_ n1_;(try clear hb);(try clear hb2);(try clear hk);(try clear hi);(try clear ho0))))
 (try simp only [Act.put,List.setIfInBounds_toArray,List.set_cons_zero,List.set_cons_succ]);go_cut [29] (fun v29 wc=>∃ (kq:Nat) (x29_4:Bool),v29=.bool x29_4∧Aside0 (lzkinds.j0 kq l1 l2 t138 x29_4=some r)∧Aside0 (kq≤k)∧Aside0 (Kd.R k38 38 wc w.heap.size (fun _=>True) v141 t138)∧Aside0 (Below w.heap.size w wc))
 case first =>
  have H:=HC5.out;clear HC5;by_cases c7:t140=0
  ·rw [if_pos c7] at H;have c7b0:(t140 == 0)=true:=beq_iff_eq.mpr c7;have c7b1:(t140 != 0)=false:=bne_eq_false_iff_eq.mpr c7;clear c7;(first | rw [c7b0] | (simp only [i64_w,i32_w];rw [c7b0]) | skip);by_cases c8:t139=0
   ·rw [if_pos c8] at H;have c8b0:(t139 == 0)=true:=beq_iff_eq.mpr c8;have c8b1:(t139 != 0)=false:=bne_eq_false_iff_eq.mpr c8;clear c8;have H':=Aside0.mk H;clear H;obtain ⟨Ao9,co9,eo9⟩:=Kd.R_slice HO142.out;subst eo9;go_wp2;repeat (go_quiet (fail);try go_wp2)
    go_meet
    case rel=>exact ⟨_,(((t138.length:Int) != (l2.length:Int))),rsd,H',⟨by first | omega | exact Nat.le_refl _⟩,⟨by (with_reducible repeat (first | apply Kd.R_alloc | apply Kd.R_drewN | apply Kd.R_drew));exact HO142.out⟩,⟨blw⟩⟩
   ·rw [if_neg c8] at H;have c8b0:(t139 == 0)=false:=beq_eq_false_iff_ne.mpr c8;have c8b1:(t139 != 0)=true:=bne_iff_ne.mpr c8;have H':=Aside0.mk H;clear H;go_wp2;repeat (go_quiet (fail);try go_wp2)
    go_meet
    case rel=>exact ⟨_,(true),rsd,H',⟨by first | omega | exact Nat.le_refl _⟩,⟨by (with_reducible repeat (first | apply Kd.R_alloc | apply Kd.R_drewN | apply Kd.R_drew));exact HO142.out⟩,⟨blw⟩⟩
  ·rw [if_neg c7] at H;have c7b0:(t140 == 0)=false:=beq_eq_false_iff_ne.mpr c7;have c7b1:(t140 != 0)=true:=bne_iff_ne.mpr c7;(first | rw [c7b0] | (simp only [i64_w,i32_w];rw [c7b0]) | skip);have H':=Aside0.mk H;clear H;go_wp2;repeat (go_quiet (fail);try go_wp2)
   go_meet
   case rel=>exact ⟨_,(true),rsd,H',⟨by first | omega | exact Nat.le_refl _⟩,⟨by (with_reducible repeat (first | apply Kd.R_alloc | apply Kd.R_drewN | apply Kd.R_drew));exact HO142.out⟩,⟨blw⟩⟩
 case rest =>
  clear HC5;try clear c1
  try clear c2
  try clear p2
  try clear c4
  try clear c7
  try clear c7b0
  try clear c7b1
  try clear c8
  try clear c8b0
  try clear c8b1
  obtain ⟨kq,x29_4,rfl,HA,HJ4,HO_7,HB⟩:=hcut;cases kq with
  | zero=>exact absurd HA.out (by simp [lzkinds.j0])
  | succ kj4 =>
   have H:=HA.out;clear HA;simp only [lzkinds.j0] at H;by_cases c10:x29_4=true
   ·subst c10;have H1:(some false)=some r:=by rw [if_pos rfl] at H;exact H
    clear H;have H:=H1;clear H1;obtain rfl:=Option.some.inj H;go_wp2;repeat (go_quiet (fail);try go_wp2)
    go_ret;exact ⟨rew,blw⟩
   ·replace c10:=Bool.eq_false_iff.mpr c10;subst c10;have H1:(lzkinds.l0 kj4 l1 l2 t138 0)=some r:=by rw [if_neg (show ¬ (false=true) by decide)] at H;exact H
    clear H;have H:=H1;clear H1;have H':=Aside0.mk H;clear H;go_wp2;repeat (go_quiet (fail);try go_wp2)
    try simp only [Act.put,List.setIfInBounds_toArray,List.set_cons_zero,List.set_cons_succ]
    go_loopg [10] kj4 (fun kq v10 w'=>∃ (x10_2:Int),v10=.int .i64 x10_2∧Aside0 (lzkinds.l0 kq l1 l2 t138 x10_2=some r)∧Aside0 (kq≤kj4)∧Aside0 (Kd.R k38 38 w' w.heap.size (fun _=>True) v141 t138)∧Aside0 (Below w.heap.size w w'))
    case atStart=>exact ⟨(0),rsd,H',⟨Nat.le_refl _⟩,⟨by (with_reducible repeat (first | apply Kd.R_alloc | apply Kd.R_drewN | apply Kd.R_drew));exact HO_7.out⟩,⟨blw⟩⟩
    case round =>
     clear H';try clear c1
     try clear c2
     try clear p2
     try clear c4
     try clear c7
     try clear c7b0
     try clear c7b1
     try clear c8
     try clear c8b0
     try clear c8b1
     try clear c10
     try clear p2
     obtain ⟨x10_2,rfl,HA,HK2,HO_7,HB⟩:=hrel;cases gk with
     | zero=>exact absurd HA.out (by simp [lzkinds.l0])
     | succ k2 =>
      have H:=HA.out;clear HA;simp only [lzkinds.l0] at H;by_cases c11:x10_2 < (l2.length:Int)
      ·rw [if_pos c11] at H;have c11b0:decide (x10_2 < (l2.length:Int))=true:=decide_eq_true c11;clear c11;by_cases c12:0≤x10_2
       ·rw [if_pos c12] at H;have c12b0:decide (0≤x10_2)=true:=decide_eq_true c12;clear c12;by_cases c13:x10_2 < (t138.length:Int)
        ·rw [if_pos c13] at H;have c13b0:decide (x10_2 < (t138.length:Int))=true:=decide_eq_true c13;clear c13;by_cases c14:x10_2 < (l1.length:Int)
         ·rw [if_pos c14] at H;have c14b0:decide (x10_2 < (l1.length:Int))=true:=decide_eq_true c14;clear c14;by_cases c15:((rd_T38 t138 x10_2).f0)=(rd l1 x10_2)
          ·rw [if_pos c15] at H;have c15b0:(((rd_T38 t138 x10_2).f0) == (rd l1 x10_2))=true:=beq_iff_eq.mpr c15;have c15b1:(((rd_T38 t138 x10_2).f0) != (rd l1 x10_2))=false:=bne_eq_false_iff_eq.mpr c15;clear c15;by_cases c16:((rd_T38 t138 x10_2).f1).toList=(rdOf ByteArray.empty l2 x10_2).toList
           ·rw [if_pos c16] at H;have c16b0:(((rd_T38 t138 x10_2).f1).toList == (rdOf ByteArray.empty l2 x10_2).toList)=true:=beq_iff_eq.mpr c16;have c16b1:(((rd_T38 t138 x10_2).f1).toList != (rdOf ByteArray.empty l2 x10_2).toList)=false:=bne_eq_false_iff_eq.mpr c16;clear c16;have H':=Aside0.mk H;clear H;obtain ⟨Ao17,co17,eo17⟩:=Kd.R_slice HO_7.out;subst eo17;have p143:0≤(x10_2:Int):=of_decide_eq_true asm;have q143:x10_2 < (t138.length:Int):=of_decide_eq_true asm;obtain ⟨ad143,e143,hx143_0,hx143_1,hx143_2⟩:=at_T38 (Kd.R_reads' HO_7.out).2.2 x10_2 p143 q143;cases e143;replace p143:=eq_true p143;replace q143:=eq_true q143;have p144:0≤(x10_2:Int):=of_decide_eq_true asm;have q144:x10_2 < (l1.length:Int):=of_decide_eq_true asm;obtain ⟨ad144,e144,hx144_0⟩:=Kd.at_int HR1.out x10_2 p144 q144;cases e144;replace hx144_0:=(HB.out.cell (World.block_lt_of_cell? w _ hx144_0)).trans hx144_0;replace p144:=eq_true p144;replace q144:=eq_true q144;have p145:0≤(x10_2:Int):=of_decide_eq_true asm;have q145:x10_2 < (t138.length:Int):=of_decide_eq_true asm;obtain ⟨ad145,e145,hx145_0,hx145_1,hx145_2⟩:=at_T38 (Kd.R_reads' HO_7.out).2.2 x10_2 p145 q145;obtain rfl:ad143=ad145:=(by injection e145);replace p145:=eq_true p145;replace q145:=eq_true q145;have p146:0≤(x10_2:Int):=of_decide_eq_true asm;have q146:x10_2 < (l2.length:Int):=of_decide_eq_true asm;obtain ⟨ad146,e146,hx146_0⟩:=Kd.at_string HR2.out x10_2 p146 q146;cases e146;replace hx146_0:=(HB.out.cell (World.block_lt_of_cell? w _ hx146_0)).trans hx146_0;replace p146:=eq_true p146;replace q146:=eq_true q146;go_wp2;repeat (go_quiet (fail);try go_wp2)
            go_roundg k2
            case measure=>have:=HJ4.out;have:=HK2.out;omega
            case rel=>exact ⟨(wrap64 (x10_2+1)),rsd,H',⟨by have:=HJ4.out;have:=HK2.out;omega⟩,⟨by (with_reducible repeat (first | apply Kd.R_alloc | apply Kd.R_drewN | apply Kd.R_drew));exact HO_7.out⟩,⟨blw⟩⟩
           ·rw [if_neg c16] at H;have c16b0:(((rd_T38 t138 x10_2).f1).toList == (rdOf ByteArray.empty l2 x10_2).toList)=false:=beq_eq_false_iff_ne.mpr c16;have c16b1:(((rd_T38 t138 x10_2).f1).toList != (rdOf ByteArray.empty l2 x10_2).toList)=true:=bne_iff_ne.mpr c16;obtain rfl:=Option.some.inj H;obtain ⟨Ao18,co18,eo18⟩:=Kd.R_slice HO_7.out;subst eo18;have p143:0≤(x10_2:Int):=of_decide_eq_true asm;have q143:x10_2 < (t138.length:Int):=of_decide_eq_true asm;obtain ⟨ad143,e143,hx143_0,hx143_1,hx143_2⟩:=at_T38 (Kd.R_reads' HO_7.out).2.2 x10_2 p143 q143;cases e143;replace p143:=eq_true p143;replace q143:=eq_true q143;have p144:0≤(x10_2:Int):=of_decide_eq_true asm;have q144:x10_2 < (l1.length:Int):=of_decide_eq_true asm;obtain ⟨ad144,e144,hx144_0⟩:=Kd.at_int HR1.out x10_2 p144 q144;cases e144;replace hx144_0:=(HB.out.cell (World.block_lt_of_cell? w _ hx144_0)).trans hx144_0;replace p144:=eq_true p144;replace q144:=eq_true q144;have p145:0≤(x10_2:Int):=of_decide_eq_true asm;have q145:x10_2 < (t138.length:Int):=of_decide_eq_true asm;obtain ⟨ad145,e145,hx145_0,hx145_1,hx145_2⟩:=at_T38 (Kd.R_reads' HO_7.out).2.2 x10_2 p145 q145;obtain rfl:ad143=ad145:=(by injection e145);replace p145:=eq_true p145;replace q145:=eq_true q145;have p146:0≤(x10_2:Int):=of_decide_eq_true asm;have q146:x10_2 < (l2.length:Int):=of_decide_eq_true asm;obtain ⟨ad146,e146,hx146_0⟩:=Kd.at_string HR2.out x10_2 p146 q146;cases e146;replace hx146_0:=(HB.out.cell (World.block_lt_of_cell? w _ hx146_0)).trans hx146_0;replace p146:=eq_true p146;replace q146:=eq_true q146;go_wp2;repeat (go_quiet (fail);try go_wp2)
            go_ret;exact ⟨rew,blw⟩
          ·rw [if_neg c15] at H;have c15b0:(((rd_T38 t138 x10_2).f0) == (rd l1 x10_2))=false:=beq_eq_false_iff_ne.mpr c15;have c15b1:(((rd_T38 t138 x10_2).f0) != (rd l1 x10_2))=true:=bne_iff_ne.mpr c15;obtain rfl:=Option.some.inj H;obtain ⟨Ao19,co19,eo19⟩:=Kd.R_slice HO_7.out;subst eo19;have p143:0≤(x10_2:Int):=of_decide_eq_true asm;have q143:x10_2 < (t138.length:Int):=of_decide_eq_true asm;obtain ⟨ad143,e143,hx143_0,hx143_1,hx143_2⟩:=at_T38 (Kd.R_reads' HO_7.out).2.2 x10_2 p143 q143;cases e143;replace p143:=eq_true p143;replace q143:=eq_true q143;have p144:0≤(x10_2:Int):=of_decide_eq_true asm;have q144:x10_2 < (l1.length:Int):=of_decide_eq_true asm;obtain ⟨ad144,e144,hx144_0⟩:=Kd.at_int HR1.out x10_2 p144 q144;cases e144;replace hx144_0:=(HB.out.cell (World.block_lt_of_cell? w _ hx144_0)).trans hx144_0;replace p144:=eq_true p144;replace q144:=eq_true q144;go_wp2;repeat (go_quiet (fail);try go_wp2)
           go_ret;exact ⟨rew,blw⟩
         ·rw [if_neg c14] at H;exact absurd H (by simp)
        ·rw [if_neg c13] at H;exact absurd H (by simp)
       ·rw [if_neg c12] at H;exact absurd H (by simp)
      ·rw [if_neg c11] at H;have c11b0:decide (x10_2 < (l2.length:Int))=false:=decide_eq_false c11;clear c11;obtain rfl:=Option.some.inj H;go_wp2;repeat (go_quiet (fail);try go_wp2)
       go_ret;exact ⟨rew,blw⟩
def lzfails.f (a0:ByteArray) (a1:Int):Option (Bool):=(lex_Scan.f a0).bind fun bt147=>(if bt147.2.2=a1 then (some (bt147.2.1 == 0)) else (some false))
set_option maxHeartbeats 8000000 in
set_option maxRecDepth 100000 in
theorem lzfails.calls (a0:ByteArray) (a1:Int) (r:Bool) (w:World) (h:lzfails.f a0 a1=some r) (hgw:GW w) :
  Calls Tryz.prog 48 #[.string a0,.int .i64 a1] w fun e w'=>e=.returned (.bool r)∧Below w.heap.size w w':=by
 have HB:=Aside0.mk (Below.refl w.heap.size w);have H:((lex_Scan.f a0).bind fun bt147=>(if bt147.2.2=a1 then (some (bt147.2.1 == 0)) else (some false)))=some r:=h;clear h;replace H:=Option.bind_eq_some_iff.mp H;obtain ⟨⟨t147,t148,t149⟩,A30,H⟩:=H;replace H:(if t149=a1 then (some (t148 == 0)) else (some false))=some r:=H;have A3:=Aside0.mk A30;clear A30;by_cases c4:t149=a1
 ·rw [if_pos c4] at H;have c4b0:(t149 == a1)=true:=beq_iff_eq.mpr c4;have c4b1:(t149 != a1)=false:=bne_eq_false_iff_eq.mpr c4;clear c4;obtain rfl:=Option.some.inj H;go_enter Tryz.func48,Tryz.ntmps48
  go_wp2_with (first | ((with_reducible refine gate_callee (f:=17) rfl ?_);refine goesL_ (some 10) rfl rfl Tryz.func17 (by kernel_rfl) rfl #[.string a0] rfl fq ?_;(with_reducible refine (lex_Scan.calls a0 t147 t148 t149 _ A3.out gwx).mono ?_);rintro e w5 ⟨v150,rfl,ho0,hb⟩;refine ⟨_,rfl,?_⟩;have n0_:=Aside0.mk (Kd.R_lower ho0 (below_size blw));have n1_:=Aside0.mk (below_step blw hb);clear HB;have HO151:=n0_;have HB:=n1_;clear n0_ n1_;(try clear hb);(try clear hb2);(try clear hk);(try clear hi);(try clear ho0)))
  go_ret;exact ⟨rew,blw⟩
 ·rw [if_neg c4] at H;have c4b0:(t149 == a1)=false:=beq_eq_false_iff_ne.mpr c4;have c4b1:(t149 != a1)=true:=bne_iff_ne.mpr c4;obtain rfl:=Option.some.inj H;go_enter Tryz.func48,Tryz.ntmps48
  go_wp2_with (first | ((with_reducible refine gate_callee (f:=17) rfl ?_);refine goesL_ (some 10) rfl rfl Tryz.func17 (by kernel_rfl) rfl #[.string a0] rfl fq ?_;(with_reducible refine (lex_Scan.calls a0 t147 t148 t149 _ A3.out gwx).mono ?_);rintro e w6 ⟨v150,rfl,ho0,hb⟩;refine ⟨_,rfl,?_⟩;have n0_:=Aside0.mk (Kd.R_lower ho0 (below_size blw));have n1_:=Aside0.mk (below_step blw hb);clear HB;have HO151:=n0_;have HB:=n1_;clear n0_ n1_;(try clear hb);(try clear hb2);(try clear hk);(try clear hi);(try clear ho0)))
  go_ret;exact ⟨rew,blw⟩
end Go.Proofs.YtadgddipkbdnbaaGreatDoor.Q
