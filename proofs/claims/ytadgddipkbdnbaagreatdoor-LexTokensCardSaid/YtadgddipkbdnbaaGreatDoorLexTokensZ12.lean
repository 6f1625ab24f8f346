/- Parts of the proof that the program's token functions return what the specification's return. -/
import Derived.Test.YtadgddipkbdnbaaGreatDoorLexTokensZ1
import Derived.Test.YtadgddipkbdnbaaGreatDoorLexTokensZ2
import Derived.Test.YtadgddipkbdnbaaGreatDoorLexTokensZ3
import Derived.Test.YtadgddipkbdnbaaGreatDoorLexTokensZ4
import Derived.Test.YtadgddipkbdnbaaGreatDoorLexTokensZ5
import Derived.Test.YtadgddipkbdnbaaGreatDoorLexTokensZ6
import Derived.Test.YtadgddipkbdnbaaGreatDoorLexTokensZ7
import Derived.Test.YtadgddipkbdnbaaGreatDoorLexTokensZ8
import Derived.Test.YtadgddipkbdnbaaGreatDoorLexTokensZ9
import Derived.Test.YtadgddipkbdnbaaGreatDoorLexTokensZ10
import Derived.Test.YtadgddipkbdnbaaGreatDoorLexTokensZ11
import Derived.IntWalk
set_option linter.unusedVariables false
set_option linter.unusedSimpArgs false
namespace Go.Proofs.YtadgddipkbdnbaaGreatDoor.Q
open Go.Proofs.YtadgddipkbdnbaaGreatDoor Go.RowKit Go.Proofs.YtadgddipkbdnbaaGreatDoorW.PrintWords Go.Proofs.YtadgddipkbdnbaaGreatDoorW.PrintLast Go.Proofs.YtadgddipkbdnbaaGreatDoorW.PrintMore
attribute [local go_sem] max2_int min2_int max_two min_two max_three min_three max_four min_four
def rzScan.l0:Nat→ByteArray→Int→List (S38)→Int→Int→Option ((List (S38)) × Int × Int)
 | 0,_,_,_,_,_=>none
 | k+1,x0,x4,x165000,x165001,x165002=>(rzskipped.f k x0 x4).bind fun bt165=>(if bt165.2=true then (if bt165.1≥(x0.size:Int) then (some (x165000,x165001,x165002)) else ((rzopens.f x165000).bind fun t167=>((rzone.f k x0 bt165.1 t167).bind fun bt168=>(if bt168.2.2.2=0 then (if (x165000.length:Int)≥4000 then (some (([]:List (S38)),bt165.1,2)) else (if x165000.length < 4398046511104 then (rzScan.l0 k x0 (wrap64 (bt165.1+(bt168.2.1.size:Int))) (x165000 ++ [(⟨bt168.1,bt168.2.1,bt168.2.2.1⟩:S38)]) x165001 x165002) else (none))) else (some (([]:List (S38)),bt165.1,bt168.2.2.2)))))) else (some (([]:List (S38)),bt165.1,113)))
def rzScan.f (k:Nat) (a0:ByteArray):Option ((List (S38)) × Int × Int):=if (a0.size:Int) > 20000 then (some (([]:List (S38)),0,2)) else (rzScan.l0 k a0 0 ([]:List (S38)) 0 0)
theorem rzScan.mono_l:∀ k,(∀ y0 y1 y2 y3 y4,LeO (rzScan.l0 k y0 y1 y2 y3 y4) (rzScan.l0 (k+1) y0 y1 y2 y3 y4))
 | 0=>fun _ _ _ _ _ r h=>by simp [rzScan.l0] at h
 | k+1=>by
  have ih0:=rzScan.mono_l k
  ·intro y0 y1 y2 y3 y4;unfold rzScan.l0;repeat' first
   | (with_reducible exact ih0 _ _ _ _ _)
   | (with_reducible exact rzone.mono _ _ _ _)
   | (with_reducible exact rzskipped.mono _ _ _)
   | (with_reducible exact LeO.refl _)
   | (with_reducible exact LeO.none _)
   | (with_reducible refine LeO.ite ?_ ?_)
   | (with_reducible refine LeO.bind ?_ (fun _=>?_))
   | exact LeO.none _
   | refine LeO.ite ?_ ?_
   | refine LeO.bind ?_ (fun _=>?_)
theorem rzScan.mono:∀ a0 k,LeO (rzScan.f k a0) (rzScan.f (k+1) a0):=by
 intro a0 k;have ih0:=rzScan.mono_l k;unfold rzScan.f;repeat' first
   | (with_reducible exact ih0 _ _ _ _ _)
   | (with_reducible exact rzone.mono _ _ _ _)
   | (with_reducible exact rzskipped.mono _ _ _)
   | (with_reducible exact LeO.refl _)
   | (with_reducible exact LeO.none _)
   | (with_reducible refine LeO.ite ?_ ?_)
   | (with_reducible refine LeO.bind ?_ (fun _=>?_))
   | exact LeO.none _
   | refine LeO.ite ?_ ?_
   | refine LeO.bind ?_ (fun _=>?_)
set_option maxHeartbeats 8000000 in
set_option maxRecDepth 100000 in
theorem rzScan.calls (k:Nat) (a0:ByteArray) (r1:List (S38)) (r2:Int) (r3:Int) (w:World) (h:rzScan.f k a0=some (r1,r2,r3)) :
  Calls Tryz.prog 18 #[.string a0] w fun e w'=>∃ v0_:Value,e=.returned (.agg #[v0_,.int .i64 r2,.int .i64 r3])∧Kd.R k38 38 w' w.heap.size (fun _=>True) v0_ r1∧Below w.heap.size w w':=by
 have hu28:=Tryz.underlying28;have hu68:=Tryz.underlying68;have hu38:=Tryz.underlying38;have HB:=Aside0.mk (Below.refl w.heap.size w);have H:(if (a0.size:Int) > 20000 then (some (([]:List (S38)),0,2)) else (rzScan.l0 k a0 0 ([]:List (S38)) 0 0))=some (r1,r2,r3):=h;clear h;by_cases c2:(a0.size:Int) > 20000
 ·rw [if_pos c2] at H;have c2b0:decide (20000 < (a0.size:Int))=true:=decide_eq_true c2;have c2b1:decide (20000 < a0.size)=true:=decide_eq_true (by omega);clear c2;simp only [Option.some.injEq,Prod.mk.injEq] at H;obtain ⟨rfl,rfl,rfl⟩:=H;go_enter Tryz.func18,Tryz.ntmps18
  go_wp2_with (first | ((with_reducible refine gate_dst (N:=2) rfl ?_);refine box_event ?hg (N:=2) ?hd (cs:=#[.slice none 0 0,.int .i64 0,.int .i64 0]) (t:=28) ?hr ?_;(case hd=>rfl);(case hg=>rfl);(case hr=>first | (go_simp;done) | (go_simp;rfl));intro gb163 hg w3 hbox hb;have n0_:=Aside0.mk (below_step blw hb);have n1_:=Aside0.mk (hbox);have n2_:=Aside0.mk ((by rw [hg];exact (below_size blw):w.heap.size≤gb163));have n3_:=Aside0.mk ((by rw [hg];exact (below_size blw):w.heap.size≤gb163));clear HB;have HB:=n0_;have BK163:=n1_;have GW163:=n2_;have GE163:=n3_;clear n0_ n1_ n2_ n3_;clear hb hbox hg;have hcz4_0:w3.cell? ⟨gb163,0,none⟩=some (.slice none 0 0):=(blk_cell BK163.out 0).trans rfl;have hcz4_1:w3.cell? ⟨gb163,1,none⟩=some (.int .i64 0):=(blk_cell BK163.out 1).trans rfl;have hcz4_2:w3.cell? ⟨gb163,2,none⟩=some (.int .i64 0):=(blk_cell BK163.out 2).trans rfl;have hfz4_0:=blk_frozen BK163.out 0;have hfz4_1:=blk_frozen BK163.out 1;have hfz4_2:=blk_frozen BK163.out 2))
  refine bodyPost_ret (results_cell_row rfl _ _ gb163 28 #[.slice none 0 0,.int .i64 0,.int .i64 2] (0,0) _ rfl (by (with_reducible repeat (first | refine blk_drewN ?_ _ | refine blk_drew ?_ | refine blk_alloc ?_ _));refine blk_put (cs:=#[.slice none 0 0,.int .i64 0,.int .i64 0]) ?_ 2 _ rfl;(with_reducible repeat (first | refine blk_drewN ?_ _ | refine blk_drew ?_ | refine blk_alloc ?_ _));refine blk_put (cs:=#[.slice none 0 0,.int .i64 0,.int .i64 0]) ?_ 1 _ rfl;(with_reducible repeat (first | refine blk_drewN ?_ _ | refine blk_drew ?_ | refine blk_alloc ?_ _));refine blk_put (cs:=#[.slice none 0 0,.int .i64 0,.int .i64 0]) ?_ 0 _ rfl;(with_reducible repeat (first | refine blk_drewN ?_ _ | refine blk_drew ?_ | refine blk_alloc ?_ _));exact BK163.out) Tryz.underlying28 rfl (by kernel_rfl)) rfl ?_;exact ⟨_,by first | rfl | (simp [errW_none,errW_some] <;> rfl) | (simp [*,errW_none,errW_some] <;> rfl),by first | exact Kd.R_nil _ _ _ _ _ | exact Kd.N_nil _ _ _ _ _ | exact Kd.V_nil _ _ _ _ _ | exact Kd.Q_nil _ _ _ _ _ | exact Kd.S_nil _ _ _ _ _,blw⟩
 ·rw [if_neg c2] at H;have c2b0:decide (20000 < (a0.size:Int))=false:=decide_eq_false c2;have c2b1:decide (20000 < a0.size)=false:=decide_eq_false (by omega);clear c2;have H':=Aside0.mk H;clear H;go_enter Tryz.func18,Tryz.ntmps18
  go_wp2_with (first | ((with_reducible refine gate_dst (N:=2) rfl ?_);refine box_event ?hg (N:=2) ?hd (cs:=#[.slice none 0 0,.int .i64 0,.int .i64 0]) (t:=28) ?hr ?_;(case hd=>rfl);(case hg=>rfl);(case hr=>first | (go_simp;done) | (go_simp;rfl));intro gb163 hg w5 hbox hb;have n0_:=Aside0.mk (below_step blw hb);have n1_:=Aside0.mk (hbox);have n2_:=Aside0.mk ((by rw [hg];exact (below_size blw):w.heap.size≤gb163));have n3_:=Aside0.mk ((by rw [hg];exact (below_size blw):w.heap.size≤gb163));clear HB;have HB:=n0_;have BK163:=n1_;have GW163:=n2_;have GE163:=n3_;clear n0_ n1_ n2_ n3_;clear hb hbox hg) | ((with_reducible refine gate_dst (N:=3) rfl ?_);refine box_event ?hg (N:=3) ?hd (cs:=#[.slice none 0 0,.int .i64 0,.int .i64 0]) (t:=28) ?hr ?_;(case hd=>rfl);(case hg=>rfl);(case hr=>first | (go_simp;done) | (go_simp;rfl));intro gb164 hg w6 hbox hb;have n0_:=Aside0.mk (blk_below (g:=gb163) (o:=.cells #[.slice none 0 0,.int .i64 0,.int .i64 0] 28 (0,0)) bko hb);have n1_:=Aside0.mk (below_step blw hb);have n2_:=Aside0.mk (hbox);have n3_:=Aside0.mk ((by rw [hg];exact (below_size blw):w.heap.size≤gb164));have n4_:=Aside0.mk ((by rw [hg];exact (below_size blw):w.heap.size≤gb164));have n5_:=Aside0.mk ((by rw [hg];exact Nat.ne_of_lt (blk_lt (g:=gb163) (o:=.cells #[.slice none 0 0,.int .i64 0,.int .i64 0] 28 (0,0)) bko):gb163≠gb164));have n6_:=Aside0.mk ((by rw [hg];exact Nat.ne_of_gt (blk_lt (g:=gb163) (o:=.cells #[.slice none 0 0,.int .i64 0,.int .i64 0] 28 (0,0)) bko):gb164≠gb163));clear BK163;clear HB;have BK163:=n0_;have HB:=n1_;have BK164:=n2_;have GW164:=n3_;have GE164:=n4_;have NB163_164:=n5_;have NB164_163:=n6_;clear n0_ n1_ n2_ n3_ n4_ n5_ n6_;clear hb hbox hg))
  try simp only [Act.put,List.setIfInBounds_toArray,List.set_cons_zero,List.set_cons_succ]
  go_loopg [4] k (fun kq v4 w'=>∃ (x4_1:Int) (x164001_1:Int) (x164002_1:Int) (x165000_1:List (S38)) (u165000:Value),v4=.int .i64 x4_1∧Aside0 (rzScan.l0 kq a0 x4_1 x165000_1 0 0=some (r1,r2,r3))∧Aside0 (kq≤k)∧Aside0 (Kd.R k38 38 w' w.heap.size (fun _=>True) u165000 x165000_1)∧Aside0 (w'.heap[gb163]?=some (.cells #[(.slice none 0 0),.int .i64 x164001_1,.int .i64 x164002_1] 28 (0,0)))∧Aside0 (w'.heap[gb164]?=some (.cells #[u165000,.int .i64 0,.int .i64 0] 28 (0,0)))∧Aside0 (Below w.heap.size w w'))
  case atStart=>exact ⟨(0),(0),(0),(([]:List (S38))),(.slice none 0 0),rsd,H',⟨Nat.le_refl _⟩,⟨by first | exact Kd.R_nil _ _ _ _ _ | exact Kd.N_nil _ _ _ _ _ | exact Kd.V_nil _ _ _ _ _ | exact Kd.Q_nil _ _ _ _ _ | exact Kd.S_nil _ _ _ _ _⟩,⟨bko⟩,⟨bko⟩,⟨blw⟩⟩
  case round =>
   clear H';try clear c1
   try clear c2
   try clear c2b0
   try clear c2b1
   try clear p2
   try clear hcz4_0
   try clear hcz4_1
   try clear hcz4_2
   try clear hfz4_0
   try clear hfz4_1
   try clear hfz4_2
   obtain ⟨x4_1,x164001_1,x164002_1,x165000_1,u165000,rfl,HA,HK1,HO_165000,BK163,BK164,HB⟩:=hrel;cases gk with
   | zero=>exact absurd HA.out (by simp [rzScan.l0])
   | succ k1 =>
    have H:=HA.out;clear HA;simp only [rzScan.l0] at H;replace H:=Option.bind_eq_some_iff.mp H;obtain ⟨⟨t165,t166⟩,A70,H⟩:=H;replace H:(if t166=true then (if t165≥(a0.size:Int) then (some (x165000_1,0,0)) else ((rzopens.f x165000_1).bind fun t167=>((rzone.f k1 a0 t165 t167).bind fun bt168=>(if bt168.2.2.2=0 then (if (x165000_1.length:Int)≥4000 then (some (([]:List (S38)),t165,2)) else (if x165000_1.length < 4398046511104 then (rzScan.l0 k1 a0 (wrap64 (t165+(bt168.2.1.size:Int))) (x165000_1 ++ [(⟨bt168.1,bt168.2.1,bt168.2.2.1⟩:S38)]) 0 0) else (none))) else (some (([]:List (S38)),t165,bt168.2.2.2)))))) else (some (([]:List (S38)),t165,113)))=some (r1,r2,r3):=H;have A7:=Aside0.mk A70;clear A70;by_cases c8:t166=true
    ·subst c8;have H1:(if t165≥(a0.size:Int) then (some (x165000_1,0,0)) else ((rzopens.f x165000_1).bind fun t167=>((rzone.f k1 a0 t165 t167).bind fun bt168=>(if bt168.2.2.2=0 then (if (x165000_1.length:Int)≥4000 then (some (([]:List (S38)),t165,2)) else (if x165000_1.length < 4398046511104 then (rzScan.l0 k1 a0 (wrap64 (t165+(bt168.2.1.size:Int))) (x165000_1 ++ [(⟨bt168.1,bt168.2.1,bt168.2.2.1⟩:S38)]) 0 0) else (none))) else (some (([]:List (S38)),t165,bt168.2.2.2))))))=some (r1,r2,r3):=by rw [if_pos rfl] at H;exact H
     clear H;have H:=H1;clear H1;by_cases c9:t165≥(a0.size:Int)
     ·rw [if_pos c9] at H;have c9b0:decide ((a0.size:Int)≤t165)=true:=decide_eq_true c9;clear c9;simp only [Option.some.injEq,Prod.mk.injEq] at H;obtain ⟨rfl,rfl,rfl⟩:=H;go_wp2_with (first | ((with_reducible refine gate_callee (f:=50) rfl ?_);refine goesL_ (some 15) rfl rfl Tryz.func50 (by kernel_rfl) rfl #[.string a0,.int .i64 x4_1] rfl fq ?_;(with_reducible refine (rzskipped.calls k1 a0 x4_1 t165 true _ A7.out).mono ?_);rintro e w' ⟨rfl,⟨nd,rfl⟩⟩;refine ⟨_,rfl,?_⟩;(try (rw [drewN_self wr];generalize hq_:World.drewN wr _=wr;have n0_:Aside0 (Kd.R k38 38 wr w.heap.size (fun _=>True) u165000 x165000_1):=⟨by rw [← hq_];exact (by (with_reducible repeat (first | apply Kd.R_alloc | apply Kd.R_drewN | apply Kd.R_drew));exact HO_165000.out)⟩;have n1_:Aside0 (wr.heap[gb163]?=some (.cells #[.slice none 0 0,.int .i64 x164001_1,.int .i64 x164002_1] 28 (0,0))):=⟨by rw [← hq_];exact bko⟩;have n2_:Aside0 (wr.heap[gb164]?=some (.cells #[u165000,.int .i64 0,.int .i64 0] 28 (0,0))):=⟨by rw [← hq_];exact bko⟩;have n3_:Aside0 (Below w.heap.size w wr):=⟨by rw [← hq_];exact blw⟩;clear HO_165000 BK163 BK164 HB hq_;have HO_165000:=n0_;have BK163:=n1_;have BK164:=n2_;have HB:=n3_;clear n0_ n1_ n2_ n3_));have hnb10:=NB164_163.out;have hnc10:=NB163_164.out;have hcz11_0:wr.cell? ⟨gb164,0,none⟩=some (u165000):=(blk_cell BK164.out 0).trans rfl;have hcz11_1:wr.cell? ⟨gb164,1,none⟩=some (.int .i64 0):=(blk_cell BK164.out 1).trans rfl;have hcz11_2:wr.cell? ⟨gb164,2,none⟩=some (.int .i64 0):=(blk_cell BK164.out 2).trans rfl;have hfz11_0:=blk_frozen BK164.out 0;have hfz11_1:=blk_frozen BK164.out 1;have hfz11_2:=blk_frozen BK164.out 2;obtain ⟨Ao12,co12,eo12⟩:=Kd.R_slice HO_165000.out;subst eo12;have hcz13_0:wr.cell? ⟨gb163,0,none⟩=some (.slice none 0 0):=(blk_cell BK163.out 0).trans rfl;have hcz13_1:wr.cell? ⟨gb163,1,none⟩=some (.int .i64 x164001_1):=(blk_cell BK163.out 1).trans rfl;have hcz13_2:wr.cell? ⟨gb163,2,none⟩=some (.int .i64 x164002_1):=(blk_cell BK163.out 2).trans rfl;have hfz13_0:=blk_frozen BK163.out 0;have hfz13_1:=blk_frozen BK163.out 1;have hfz13_2:=blk_frozen BK163.out 2))
      refine bodyPost_ret (results_cell_row rfl _ _ gb163 28 #[.slice Ao12 x165000_1.length co12,.int .i64 0,.int .i64 0] (0,0) _ rfl (by (with_reducible repeat (first | refine blk_drewN ?_ _ | refine blk_drew ?_ | refine blk_alloc ?_ _));refine blk_put (cs:=#[.slice Ao12 x165000_1.length co12,.int .i64 0,.int .i64 x164002_1]) ?_ 2 _ rfl;(with_reducible repeat (first | refine blk_drewN ?_ _ | refine blk_drew ?_ | refine blk_alloc ?_ _));refine blk_put (cs:=#[.slice Ao12 x165000_1.length co12,.int .i64 x164001_1,.int .i64 x164002_1]) ?_ 1 _ rfl;(with_reducible repeat (first | refine blk_drewN ?_ _ | refine blk_drew ?_ | refine blk_alloc ?_ _));refine blk_put (cs:=#[.slice none 0 0,.int .i64 x164001_1,.int .i64 x164002_1]) ?_ 0 _ rfl;(with_reducible repeat (first | refine blk_drewN ?_ _ | refine blk_drew ?_ | refine blk_alloc ?_ _));exact BK163.out) Tryz.underlying28 rfl (by kernel_rfl)) rfl ?_;exact ⟨_,by first | rfl | (simp [errW_none,errW_some] <;> rfl) | (simp [*,errW_none,errW_some] <;> rfl),by (with_reducible repeat (first | apply Kd.R_alloc | apply Kd.R_drewN | apply Kd.R_drew));exact Kd.R_mono (Kd.R_far (p:=⟨gb163,2,none⟩) (Kd.R_far (p:=⟨gb163,1,none⟩) (Kd.R_far (p:=⟨gb163,0,none⟩) (Kd.R_types HO_165000.out BK163.out (by decide)) (fun _ hk=>hk.2) (.slice Ao12 x165000_1.length co12)) (fun _ hk=>hk.2) (.int .i64 0)) (fun _ hk=>hk.2) (.int .i64 0)) (fun _ hk=>trivial),blw⟩
     ·rw [if_neg c9] at H;have c9b0:decide ((a0.size:Int)≤t165)=false:=decide_eq_false c9;clear c9;replace H:=Option.bind_eq_some_iff.mp H;obtain ⟨t167,A140,H⟩:=H;replace H:((rzone.f k1 a0 t165 t167).bind fun bt168=>(if bt168.2.2.2=0 then (if (x165000_1.length:Int)≥4000 then (some (([]:List (S38)),t165,2)) else (if x165000_1.length < 4398046511104 then (rzScan.l0 k1 a0 (wrap64 (t165+(bt168.2.1.size:Int))) (x165000_1 ++ [(⟨bt168.1,bt168.2.1,bt168.2.2.1⟩:S38)]) 0 0) else (none))) else (some (([]:List (S38)),t165,bt168.2.2.2))))=some (r1,r2,r3):=H;have A14:=Aside0.mk A140;clear A140;replace H:=Option.bind_eq_some_iff.mp H;obtain ⟨⟨t168,t169,t170,t171⟩,A150,H⟩:=H;replace H:(if t171=0 then (if (x165000_1.length:Int)≥4000 then (some (([]:List (S38)),t165,2)) else (if x165000_1.length < 4398046511104 then (rzScan.l0 k1 a0 (wrap64 (t165+(t169.size:Int))) (x165000_1 ++ [(⟨t168,t169,t170⟩:S38)]) 0 0) else (none))) else (some (([]:List (S38)),t165,t171)))=some (r1,r2,r3):=H;have A15:=Aside0.mk A150;clear A150;by_cases c16:t171=0
      ·rw [if_pos c16] at H;have c16b0:(t171 == 0)=true:=beq_iff_eq.mpr c16;have c16b1:(t171 != 0)=false:=bne_eq_false_iff_eq.mpr c16;clear c16;by_cases c17:(x165000_1.length:Int)≥4000
       ·rw [if_pos c17] at H;have c17b0:decide (4000≤(x165000_1.length:Int))=true:=decide_eq_true c17;have c17b1:decide (4000≤x165000_1.length)=true:=decide_eq_true (by omega);clear c17;simp only [Option.some.injEq,Prod.mk.injEq] at H;obtain ⟨rfl,rfl,rfl⟩:=H;go_wp2_with (first | ((with_reducible refine gate_callee (f:=50) rfl ?_);refine goesL_ (some 15) rfl rfl Tryz.func50 (by kernel_rfl) rfl #[.string a0,.int .i64 x4_1] rfl fq ?_;(with_reducible refine (rzskipped.calls k1 a0 x4_1 t165 true _ A7.out).mono ?_);rintro e w' ⟨rfl,⟨nd,rfl⟩⟩;refine ⟨_,rfl,?_⟩;(try (rw [drewN_self wr];generalize hq_:World.drewN wr _=wr;have n0_:Aside0 (Kd.R k38 38 wr w.heap.size (fun _=>True) u165000 x165000_1):=⟨by rw [← hq_];exact (by (with_reducible repeat (first | apply Kd.R_alloc | apply Kd.R_drewN | apply Kd.R_drew));exact HO_165000.out)⟩;have n1_:Aside0 (wr.heap[gb163]?=some (.cells #[.slice none 0 0,.int .i64 x164001_1,.int .i64 x164002_1] 28 (0,0))):=⟨by rw [← hq_];exact bko⟩;have n2_:Aside0 (wr.heap[gb164]?=some (.cells #[u165000,.int .i64 0,.int .i64 0] 28 (0,0))):=⟨by rw [← hq_];exact bko⟩;have n3_:Aside0 (Below w.heap.size w wr):=⟨by rw [← hq_];exact blw⟩;clear HO_165000 BK163 BK164 HB hq_;have HO_165000:=n0_;have BK163:=n1_;have BK164:=n2_;have HB:=n3_;clear n0_ n1_ n2_ n3_));have hnb18:=NB164_163.out;have hnc18:=NB163_164.out;have hcz19_0:wr.cell? ⟨gb164,0,none⟩=some (u165000):=(blk_cell BK164.out 0).trans rfl;have hcz19_1:wr.cell? ⟨gb164,1,none⟩=some (.int .i64 0):=(blk_cell BK164.out 1).trans rfl;have hcz19_2:wr.cell? ⟨gb164,2,none⟩=some (.int .i64 0):=(blk_cell BK164.out 2).trans rfl;have hfz19_0:=blk_frozen BK164.out 0;have hfz19_1:=blk_frozen BK164.out 1;have hfz19_2:=blk_frozen BK164.out 2;obtain ⟨Ao20,co20,eo20⟩:=Kd.R_slice HO_165000.out;subst eo20) | ((with_reducible refine gate_callee (f:=52) rfl ?_);refine goesL_ (some 31) rfl rfl Tryz.func52 (by kernel_rfl) rfl #[.slice Ao20 x165000_1.length co20] rfl fq ?_;(with_reducible refine (rzopens.calls _ _ x165000_1 t167 _ ?side1 ?side2 A14.out).mono ?_);(case side1=>repeat (first | exact (Kd.R_reads' HO_165000.out).2.2 | (with_reducible refine Kd.C_alloc ?_ _) | (with_reducible refine Kd.C_drewN ?_ _) | (with_reducible refine Kd.C_drew ?_)));(case side2=>exact (Kd.R_reads' HO_165000.out).2.1);rintro e w' ⟨rfl,⟨nd,rfl⟩⟩;refine ⟨_,rfl,?_⟩;(try (rw [drewN_self wr];generalize hq_:World.drewN wr _=wr;have n0_:Aside0 (Kd.R k38 38 wr w.heap.size (fun _=>True) (.slice Ao20 x165000_1.length co20) x165000_1):=⟨by rw [← hq_];exact (by (with_reducible repeat (first | apply Kd.R_alloc | apply Kd.R_drewN | apply Kd.R_drew));exact HO_165000.out)⟩;have n1_:Aside0 (wr.heap[gb163]?=some (.cells #[.slice none 0 0,.int .i64 x164001_1,.int .i64 x164002_1] 28 (0,0))):=⟨by rw [← hq_];exact bko⟩;have n2_:Aside0 (wr.heap[gb164]?=some (.cells #[.slice Ao20 x165000_1.length co20,.int .i64 0,.int .i64 0] 28 (0,0))):=⟨by rw [← hq_];exact bko⟩;have n3_:Aside0 (Below w.heap.size w wr):=⟨by rw [← hq_];exact blw⟩;clear HO_165000 BK163 BK164 HB hq_;have HO_165000:=n0_;have BK163:=n1_;have BK164:=n2_;have HB:=n3_;clear n0_ n1_ n2_ n3_))) | ((with_reducible refine gate_callee (f:=51) rfl ?_);refine goesL_ (some 32) rfl rfl Tryz.func51 (by kernel_rfl) rfl #[.string a0,.int .i64 t165,.bool t167] rfl fq ?_;(with_reducible refine (rzone.calls k1 a0 t165 t167 t168 t169 t170 t171 _ A15.out).mono ?_);rintro e w21 ⟨rfl,hb⟩;refine ⟨_,rfl,?_⟩;have n0_:=Aside0.mk (Kd.R_below (by (with_reducible repeat (first | apply Kd.R_alloc | apply Kd.R_drewN | apply Kd.R_drew));exact HO_165000.out) hb);have n1_:=Aside0.mk (blk_below (g:=gb163) (o:=.cells #[.slice none 0 0,.int .i64 x164001_1,.int .i64 x164002_1] 28 (0,0)) bko hb);have n2_:=Aside0.mk (blk_below (g:=gb164) (o:=.cells #[.slice Ao20 x165000_1.length co20,.int .i64 0,.int .i64 0] 28 (0,0)) bko hb);have n3_:=Aside0.mk (below_step blw hb);clear HO_165000;clear BK163;clear BK164;clear HB;have HO_165000:=n0_;have BK163:=n1_;have BK164:=n2_;have HB:=n3_;clear n0_ n1_ n2_ n3_;(try clear hb);(try clear hb2);(try clear hk);(try clear hi)) | ((with_reducible refine gate_dst (N:=7) rfl ?_);refine box_event ?hg (N:=7) ?hd (cs:=#[.int .i64 0,.string (⟨#[]⟩:zB),.int .i64 0,.int .i64 0]) (t:=68) ?hr ?_;(case hd=>rfl);(case hg=>rfl);(case hr=>first | (go_simp;done) | (go_simp;rfl));intro gb172 hg w22 hbox hb;have n0_:=Aside0.mk (Kd.R_below (by (with_reducible repeat (first | apply Kd.R_alloc | apply Kd.R_drewN | apply Kd.R_drew));exact HO_165000.out) hb);have n1_:=Aside0.mk (blk_below (g:=gb163) (o:=.cells #[.slice none 0 0,.int .i64 x164001_1,.int .i64 x164002_1] 28 (0,0)) bko hb);have n2_:=Aside0.mk (blk_below (g:=gb164) (o:=.cells #[.slice Ao20 x165000_1.length co20,.int .i64 0,.int .i64 0] 28 (0,0)) bko hb);have n3_:=Aside0.mk (below_step blw hb);have n4_:=Aside0.mk (hbox);have n5_:=Aside0.mk ((by rw [hg];exact (below_size blw):w.heap.size≤gb172));have n6_:=Aside0.mk ((by rw [hg];exact (below_size blw):w.heap.size≤gb172));have n7_:=Aside0.mk ((by rw [hg];exact Nat.ne_of_lt (blk_lt (g:=gb163) (o:=.cells #[.slice none 0 0,.int .i64 x164001_1,.int .i64 x164002_1] 28 (0,0)) bko):gb163≠gb172));have n8_:=Aside0.mk ((by rw [hg];exact Nat.ne_of_gt (blk_lt (g:=gb163) (o:=.cells #[.slice none 0 0,.int .i64 x164001_1,.int .i64 x164002_1] 28 (0,0)) bko):gb172≠gb163));have n9_:=Aside0.mk ((by rw [hg];exact Nat.ne_of_lt (blk_lt (g:=gb164) (o:=.cells #[.slice Ao20 x165000_1.length co20,.int .i64 0,.int .i64 0] 28 (0,0)) bko):gb164≠gb172));have n10_:=Aside0.mk ((by rw [hg];exact Nat.ne_of_gt (blk_lt (g:=gb164) (o:=.cells #[.slice Ao20 x165000_1.length co20,.int .i64 0,.int .i64 0] 28 (0,0)) bko):gb172≠gb164));clear HO_165000;clear BK163;clear BK164;clear HB;have HO_165000:=n0_;have BK163:=n1_;have BK164:=n2_;have HB:=n3_;have BK172:=n4_;have GW172:=n5_;have GE172:=n6_;have NB163_172:=n7_;have NB172_163:=n8_;have NB164_172:=n9_;have NB172_164:=n10_;clear n0_ n1_ n2_ n3_ n4_ n5_ n6_ n7_ n8_ n9_ n10_;clear hb hbox hg;have hnb23:=NB172_163.out;have hnc23:=NB163_172.out;have hnb24:=NB172_164.out;have hnc24:=NB164_172.out;have hcz25_0:w22.cell? ⟨gb172,0,none⟩=some (.int .i64 0):=(blk_cell BK172.out 0).trans rfl;have hcz25_1:w22.cell? ⟨gb172,1,none⟩=some (.string (⟨#[]⟩:zB)):=(blk_cell BK172.out 1).trans rfl;have hcz25_2:w22.cell? ⟨gb172,2,none⟩=some (.int .i64 0):=(blk_cell BK172.out 2).trans rfl;have hcz25_3:w22.cell? ⟨gb172,3,none⟩=some (.int .i64 0):=(blk_cell BK172.out 3).trans rfl;have hfz25_0:=blk_frozen BK172.out 0;have hfz25_1:=blk_frozen BK172.out 1;have hfz25_2:=blk_frozen BK172.out 2;have hfz25_3:=blk_frozen BK172.out 3;have hcz26_0:w22.cell? ⟨gb164,0,none⟩=some (.slice Ao20 x165000_1.length co20):=(blk_cell BK164.out 0).trans rfl;have hcz26_1:w22.cell? ⟨gb164,1,none⟩=some (.int .i64 0):=(blk_cell BK164.out 1).trans rfl;have hcz26_2:w22.cell? ⟨gb164,2,none⟩=some (.int .i64 0):=(blk_cell BK164.out 2).trans rfl;have hfz26_0:=blk_frozen BK164.out 0;have hfz26_1:=blk_frozen BK164.out 1;have hfz26_2:=blk_frozen BK164.out 2;have hcz27_0:w22.cell? ⟨gb163,0,none⟩=some (.slice none 0 0):=(blk_cell BK163.out 0).trans rfl;have hcz27_1:w22.cell? ⟨gb163,1,none⟩=some (.int .i64 x164001_1):=(blk_cell BK163.out 1).trans rfl;have hcz27_2:w22.cell? ⟨gb163,2,none⟩=some (.int .i64 x164002_1):=(blk_cell BK163.out 2).trans rfl;have hfz27_0:=blk_frozen BK163.out 0;have hfz27_1:=blk_frozen BK163.out 1;have hfz27_2:=blk_frozen BK163.out 2))
        refine bodyPost_ret (results_cell_row rfl _ _ gb163 28 #[.slice none 0 0,.int .i64 t165,.int .i64 2] (0,0) _ rfl (by (with_reducible repeat (first | refine blk_drewN ?_ _ | refine blk_drew ?_ | refine blk_alloc ?_ _));refine blk_put (cs:=#[.slice none 0 0,.int .i64 t165,.int .i64 x164002_1]) ?_ 2 _ rfl;(with_reducible repeat (first | refine blk_drewN ?_ _ | refine blk_drew ?_ | refine blk_alloc ?_ _));refine blk_put (cs:=#[.slice none 0 0,.int .i64 x164001_1,.int .i64 x164002_1]) ?_ 1 _ rfl;(with_reducible repeat (first | refine blk_drewN ?_ _ | refine blk_drew ?_ | refine blk_alloc ?_ _));refine blk_put (cs:=#[.slice none 0 0,.int .i64 x164001_1,.int .i64 x164002_1]) ?_ 0 _ rfl;(with_reducible repeat (first | refine blk_drewN ?_ _ | refine blk_drew ?_ | refine blk_alloc ?_ _));refine blk_far ?_ NB163_172.out _;(with_reducible repeat (first | refine blk_drewN ?_ _ | refine blk_drew ?_ | refine blk_alloc ?_ _));refine blk_far ?_ NB163_172.out _;(with_reducible repeat (first | refine blk_drewN ?_ _ | refine blk_drew ?_ | refine blk_alloc ?_ _));refine blk_far ?_ NB163_172.out _;(with_reducible repeat (first | refine blk_drewN ?_ _ | refine blk_drew ?_ | refine blk_alloc ?_ _));refine blk_far ?_ NB163_172.out _;(with_reducible repeat (first | refine blk_drewN ?_ _ | refine blk_drew ?_ | refine blk_alloc ?_ _));exact BK163.out) Tryz.underlying28 rfl (by kernel_rfl)) rfl ?_;exact ⟨_,by first | rfl | (simp [errW_none,errW_some] <;> rfl) | (simp [*,errW_none,errW_some] <;> rfl),by first | exact Kd.R_nil _ _ _ _ _ | exact Kd.N_nil _ _ _ _ _ | exact Kd.V_nil _ _ _ _ _ | exact Kd.Q_nil _ _ _ _ _ | exact Kd.S_nil _ _ _ _ _,blw⟩
       ·rw [if_neg c17] at H;have c17b0:decide (4000≤(x165000_1.length:Int))=false:=decide_eq_false c17;have c17b1:decide (4000≤x165000_1.length)=false:=decide_eq_false (by omega);clear c17;by_cases c28:x165000_1.length < 4398046511104
        ·rw [if_pos c28] at H;have LMc28:=Aside0.mk c28;clear c28;obtain ⟨y173,hy173⟩:∃ y_:List (S38),y_=(x165000_1 ++ [(⟨t168,t169,t170⟩:S38)]):=⟨_,rfl⟩;replace H:(rzScan.l0 k1 a0 (wrap64 (t165+(t169.size:Int))) y173 0 0)=some (r1,r2,r3):=by first | (rw [hy173];with_reducible exact H) | (have H2_:=(Option.bind_some _ _).symm.trans H;rw [hy173];with_reducible exact H2_) | (have H2_:=(Option.bind_some _ _).symm.trans H;with_reducible exact H2_) | with_reducible exact H | (rw [hy173];exact H) | exact H
         have Ny173:=Aside0.mk hy173;clear hy173;have H':=Aside0.mk H;clear H;go_wp2_with (first | ((with_reducible refine gate_callee (f:=50) rfl ?_);refine goesL_ (some 15) rfl rfl Tryz.func50 (by kernel_rfl) rfl #[.string a0,.int .i64 x4_1] rfl fq ?_;(with_reducible refine (rzskipped.calls k1 a0 x4_1 t165 true _ A7.out).mono ?_);rintro e w' ⟨rfl,⟨nd,rfl⟩⟩;refine ⟨_,rfl,?_⟩;(try (rw [drewN_self wr];generalize hq_:World.drewN wr _=wr;have n0_:Aside0 (Kd.R k38 38 wr w.heap.size (fun _=>True) u165000 x165000_1):=⟨by rw [← hq_];exact (by (with_reducible repeat (first | apply Kd.R_alloc | apply Kd.R_drewN | apply Kd.R_drew));exact HO_165000.out)⟩;have n1_:Aside0 (wr.heap[gb163]?=some (.cells #[.slice none 0 0,.int .i64 x164001_1,.int .i64 x164002_1] 28 (0,0))):=⟨by rw [← hq_];exact bko⟩;have n2_:Aside0 (wr.heap[gb164]?=some (.cells #[u165000,.int .i64 0,.int .i64 0] 28 (0,0))):=⟨by rw [← hq_];exact bko⟩;have n3_:Aside0 (Below w.heap.size w wr):=⟨by rw [← hq_];exact blw⟩;clear HO_165000 BK163 BK164 HB hq_;have HO_165000:=n0_;have BK163:=n1_;have BK164:=n2_;have HB:=n3_;clear n0_ n1_ n2_ n3_));have hnb29:=NB164_163.out;have hnc29:=NB163_164.out;have hcz30_0:wr.cell? ⟨gb164,0,none⟩=some (u165000):=(blk_cell BK164.out 0).trans rfl;have hcz30_1:wr.cell? ⟨gb164,1,none⟩=some (.int .i64 0):=(blk_cell BK164.out 1).trans rfl;have hcz30_2:wr.cell? ⟨gb164,2,none⟩=some (.int .i64 0):=(blk_cell BK164.out 2).trans rfl;have hfz30_0:=blk_frozen BK164.out 0;have hfz30_1:=blk_frozen BK164.out 1;have hfz30_2:=blk_frozen BK164.out 2;obtain ⟨Ao31,co31,eo31⟩:=Kd.R_slice HO_165000.out;subst eo31) | ((with_reducible refine gate_callee (f:=52) rfl ?_);refine goesL_ (some 31) rfl rfl Tryz.func52 (by kernel_rfl) rfl #[.slice Ao31 x165000_1.length co31] rfl fq ?_;(with_reducible refine (rzopens.calls _ _ x165000_1 t167 _ ?side1 ?side2 A14.out).mono ?_);(case side1=>repeat (first | exact (Kd.R_reads' HO_165000.out).2.2 | (with_reducible refine Kd.C_alloc ?_ _) | (with_reducible refine Kd.C_drewN ?_ _) | (with_reducible refine Kd.C_drew ?_)));(case side2=>exact (Kd.R_reads' HO_165000.out).2.1);rintro e w' ⟨rfl,⟨nd,rfl⟩⟩;refine ⟨_,rfl,?_⟩;(try (rw [drewN_self wr];generalize hq_:World.drewN wr _=wr;have n0_:Aside0 (Kd.R k38 38 wr w.heap.size (fun _=>True) (.slice Ao31 x165000_1.length co31) x165000_1):=⟨by rw [← hq_];exact (by (with_reducible repeat (first | apply Kd.R_alloc | apply Kd.R_drewN | apply Kd.R_drew));exact HO_165000.out)⟩;have n1_:Aside0 (wr.heap[gb163]?=some (.cells #[.slice none 0 0,.int .i64 x164001_1,.int .i64 x164002_1] 28 (0,0))):=⟨by rw [← hq_];exact bko⟩;have n2_:Aside0 (wr.heap[gb164]?=some (.cells #[.slice Ao31 x165000_1.length co31,.int .i64 0,.int .i64 0] 28 (0,0))):=⟨by rw [← hq_];exact bko⟩;have n3_:Aside0 (Below w.heap.size w wr):=⟨by rw [← hq_];exact blw⟩;clear HO_165000 BK163 BK164 HB hq_;have HO_165000:=n0_;have BK163:=n1_;have BK164:=n2_;have HB:=n3_;clear n0_ n1_ n2_ n3_))) | ((with_reducible refine gate_callee (f:=51) rfl ?_);refine goesL_ (some 32) rfl rfl Tryz.func51 (by kernel_rfl) rfl #[.string a0,.int .i64 t165,.bool t167] rfl fq ?_;(with_reducible refine (rzone.calls k1 a0 t165 t167 t168 t169 t170 t171 _ A15.out).mono ?_);rintro e w32 ⟨rfl,hb⟩;refine ⟨_,rfl,?_⟩;have n0_:=Aside0.mk (Kd.R_below (by (with_reducible repeat (first | apply Kd.R_alloc | apply Kd.R_drewN | apply Kd.R_drew));exact HO_165000.out) hb);have n1_:=Aside0.mk (blk_below (g:=gb163) (o:=.cells #[.slice none 0 0,.int .i64 x164001_1,.int .i64 x164002_1] 28 (0,0)) bko hb);have n2_:=Aside0.mk (blk_below (g:=gb164) (o:=.cells #[.slice Ao31 x165000_1.length co31,.int .i64 0,.int .i64 0] 28 (0,0)) bko hb);have n3_:=Aside0.mk (below_step blw hb);clear HO_165000;clear BK163;clear BK164;clear HB;have HO_165000:=n0_;have BK163:=n1_;have BK164:=n2_;have HB:=n3_;clear n0_ n1_ n2_ n3_;(try clear hb);(try clear hb2);(try clear hk);(try clear hi)) | ((with_reducible refine gate_dst (N:=7) rfl ?_);refine box_event ?hg (N:=7) ?hd (cs:=#[.int .i64 0,.string (⟨#[]⟩:zB),.int .i64 0,.int .i64 0]) (t:=68) ?hr ?_;(case hd=>rfl);(case hg=>rfl);(case hr=>first | (go_simp;done) | (go_simp;rfl));intro gb172 hg w33 hbox hb;have n0_:=Aside0.mk (Kd.R_below (by (with_reducible repeat (first | apply Kd.R_alloc | apply Kd.R_drewN | apply Kd.R_drew));exact HO_165000.out) hb);have n1_:=Aside0.mk (blk_below (g:=gb163) (o:=.cells #[.slice none 0 0,.int .i64 x164001_1,.int .i64 x164002_1] 28 (0,0)) bko hb);have n2_:=Aside0.mk (blk_below (g:=gb164) (o:=.cells #[.slice Ao31 x165000_1.length co31,.int .i64 0,.int .i64 0] 28 (0,0)) bko hb);have n3_:=Aside0.mk (below_step blw hb);have n4_:=Aside0.mk (hbox);have n5_:=Aside0.mk ((by rw [hg];exact (below_size blw):w.heap.size≤gb172));have n6_:=Aside0.mk ((by rw [hg];exact (below_size blw):w.heap.size≤gb172));have n7_:=Aside0.mk ((by rw [hg];exact Nat.ne_of_lt (blk_lt (g:=gb163) (o:=.cells #[.slice none 0 0,.int .i64 x164001_1,.int .i64 x164002_1] 28 (0,0)) bko):gb163≠gb172));have n8_:=Aside0.mk ((by rw [hg];exact Nat.ne_of_gt (blk_lt (g:=gb163) (o:=.cells #[.slice none 0 0,.int .i64 x164001_1,.int .i64 x164002_1] 28 (0,0)) bko):gb172≠gb163));have n9_:=Aside0.mk ((by rw [hg];exact Nat.ne_of_lt (blk_lt (g:=gb164) (o:=.cells #[.slice Ao31 x165000_1.length co31,.int .i64 0,.int .i64 0] 28 (0,0)) bko):gb164≠gb172));have n10_:=Aside0.mk ((by rw [hg];exact Nat.ne_of_gt (blk_lt (g:=gb164) (o:=.cells #[.slice Ao31 x165000_1.length co31,.int .i64 0,.int .i64 0] 28 (0,0)) bko):gb172≠gb164));clear HO_165000;clear BK163;clear BK164;clear HB;have HO_165000:=n0_;have BK163:=n1_;have BK164:=n2_;have HB:=n3_;have BK172:=n4_;have GW172:=n5_;have GE172:=n6_;have NB163_172:=n7_;have NB172_163:=n8_;have NB164_172:=n9_;have NB172_164:=n10_;clear n0_ n1_ n2_ n3_ n4_ n5_ n6_ n7_ n8_ n9_ n10_;clear hb hbox hg;have hnb34:=NB172_163.out;have hnc34:=NB163_172.out;have hnb35:=NB172_164.out;have hnc35:=NB164_172.out;have hcz36_0:w33.cell? ⟨gb172,0,none⟩=some (.int .i64 0):=(blk_cell BK172.out 0).trans rfl;have hcz36_1:w33.cell? ⟨gb172,1,none⟩=some (.string (⟨#[]⟩:zB)):=(blk_cell BK172.out 1).trans rfl;have hcz36_2:w33.cell? ⟨gb172,2,none⟩=some (.int .i64 0):=(blk_cell BK172.out 2).trans rfl;have hcz36_3:w33.cell? ⟨gb172,3,none⟩=some (.int .i64 0):=(blk_cell BK172.out 3).trans rfl;have hfz36_0:=blk_frozen BK172.out 0;have hfz36_1:=blk_frozen BK172.out 1;have hfz36_2:=blk_frozen BK172.out 2;have hfz36_3:=blk_frozen BK172.out 3;have hcz37_0:w33.cell? ⟨gb164,0,none⟩=some (.slice Ao31 x165000_1.length co31):=(blk_cell BK164.out 0).trans rfl;have hcz37_1:w33.cell? ⟨gb164,1,none⟩=some (.int .i64 0):=(blk_cell BK164.out 1).trans rfl;have hcz37_2:w33.cell? ⟨gb164,2,none⟩=some (.int .i64 0):=(blk_cell BK164.out 2).trans rfl;have hfz37_0:=blk_frozen BK164.out 0;have hfz37_1:=blk_frozen BK164.out 1;have hfz37_2:=blk_frozen BK164.out 2) | ((with_reducible refine gate_builtin (b:=.append) (xs:=#[.tmp 47,.tmp 50]) rfl ?_);at_builtin;refine Kd.R_append k38 (w0:=w) w.heap.size rfl (.tmp 47) (.tmp 50) 23 38 (.agg #[(.int .i64 0),(.string ⟨#[]⟩),(.int .i64 0)]) 32 rfl Tryz.underlying23 info38 rfl (by decide) (by omega) (.slice Ao31 x165000_1.length co31) x165000_1 (⟨t168,t169,t170⟩:S38) [.int .i64 t168,.string t169,.int .i64 t170] (fun _=>True) (fun _=>False) rfl (by first | (go_simp;done) | (go_simp;rfl)) ?aP (fun _ hk=>hk.elim) ?aF ?aO ?aB ?aS ?aL ?_;(case aP=>exact k38_mkM _ _ _ (⟨t168,t169,t170⟩:S38));(case aB=>exact blw);(case aF=>exact (fun _ _=>trivial));(case aO=>exact (by (with_reducible repeat (first | apply Kd.R_alloc | apply Kd.R_drewN | apply Kd.R_drew));exact Kd.R_mono (Kd.R_far (p:=⟨gb172,3,none⟩) (Kd.R_far (p:=⟨gb172,2,none⟩) (Kd.R_far (p:=⟨gb172,1,none⟩) (Kd.R_far (p:=⟨gb172,0,none⟩) (Kd.R_types HO_165000.out BK172.out (by decide)) (fun _ hk=>hk.2) (.int .i64 t168)) (fun _ hk=>hk.2) (.string t169)) (fun _ hk=>hk.2) (.int .i64 t170)) (fun _ hk=>hk.2) (.int .i64 t171)) (fun _ hk=>trivial)));(case aS=>exact (below_size blw));(case aL=>have:=LMc28.out;omega);intro v174 w38 ho hb hg hat;rw [← Ny173.out] at ho;have n0_:=Aside0.mk (blk_grown (g:=gb163) (o:=.cells #[.slice none 0 0,.int .i64 x164001_1,.int .i64 x164002_1] 28 (0,0)) (by (with_reducible repeat (first | refine blk_drewN ?_ _ | refine blk_drew ?_ | refine blk_alloc ?_ _));refine blk_far ?_ NB163_172.out _;(with_reducible repeat (first | refine blk_drewN ?_ _ | refine blk_drew ?_ | refine blk_alloc ?_ _));refine blk_far ?_ NB163_172.out _;(with_reducible repeat (first | refine blk_drewN ?_ _ | refine blk_drew ?_ | refine blk_alloc ?_ _));refine blk_far ?_ NB163_172.out _;(with_reducible repeat (first | refine blk_drewN ?_ _ | refine blk_drew ?_ | refine blk_alloc ?_ _));refine blk_far ?_ NB163_172.out _;(with_reducible repeat (first | refine blk_drewN ?_ _ | refine blk_drew ?_ | refine blk_alloc ?_ _));exact BK163.out) hg (Kd.R_ne HO_165000.out BK163.out (by decide)));have n1_:=Aside0.mk (blk_grown (g:=gb164) (o:=.cells #[.slice Ao31 x165000_1.length co31,.int .i64 0,.int .i64 0] 28 (0,0)) (by (with_reducible repeat (first | refine blk_drewN ?_ _ | refine blk_drew ?_ | refine blk_alloc ?_ _));refine blk_far ?_ NB164_172.out _;(with_reducible repeat (first | refine blk_drewN ?_ _ | refine blk_drew ?_ | refine blk_alloc ?_ _));refine blk_far ?_ NB164_172.out _;(with_reducible repeat (first | refine blk_drewN ?_ _ | refine blk_drew ?_ | refine blk_alloc ?_ _));refine blk_far ?_ NB164_172.out _;(with_reducible repeat (first | refine blk_drewN ?_ _ | refine blk_drew ?_ | refine blk_alloc ?_ _));refine blk_far ?_ NB164_172.out _;(with_reducible repeat (first | refine blk_drewN ?_ _ | refine blk_drew ?_ | refine blk_alloc ?_ _));exact BK164.out) hg (Kd.R_ne HO_165000.out BK164.out (by decide)));have n2_:=Aside0.mk (blk_grown (g:=gb172) (o:=.cells #[.int .i64 t168,.string t169,.int .i64 t170,.int .i64 t171] 68 (0,0)) (by (with_reducible repeat (first | refine blk_drewN ?_ _ | refine blk_drew ?_ | refine blk_alloc ?_ _));refine blk_put (cs:=#[.int .i64 t168,.string t169,.int .i64 t170,.int .i64 0]) ?_ 3 _ rfl;(with_reducible repeat (first | refine blk_drewN ?_ _ | refine blk_drew ?_ | refine blk_alloc ?_ _));refine blk_put (cs:=#[.int .i64 t168,.string t169,.int .i64 0,.int .i64 0]) ?_ 2 _ rfl;(with_reducible repeat (first | refine blk_drewN ?_ _ | refine blk_drew ?_ | refine blk_alloc ?_ _));refine blk_put (cs:=#[.int .i64 t168,.string (⟨#[]⟩:zB),.int .i64 0,.int .i64 0]) ?_ 1 _ rfl;(with_reducible repeat (first | refine blk_drewN ?_ _ | refine blk_drew ?_ | refine blk_alloc ?_ _));refine blk_put (cs:=#[.int .i64 0,.string (⟨#[]⟩:zB),.int .i64 0,.int .i64 0]) ?_ 0 _ rfl;(with_reducible repeat (first | refine blk_drewN ?_ _ | refine blk_drew ?_ | refine blk_alloc ?_ _));exact BK172.out) hg (Kd.R_ne HO_165000.out BK172.out (by decide)));have n3_:=Aside0.mk (hb);have n4_:=Aside0.mk (ho);clear BK163;clear BK164;clear BK172;clear HB;clear HO_165000;have BK163:=n0_;have BK164:=n1_;have BK172:=n2_;have HB:=n3_;have HO175:=n4_;clear n0_ n1_ n2_ n3_ n4_;clear ho hb hg hat;obtain ⟨Ao39,co39,eo39⟩:=Kd.R_slice HO175.out;subst eo39;have hcz40_0:w38.cell? ⟨gb164,0,none⟩=some (.slice Ao31 x165000_1.length co31):=(blk_cell BK164.out 0).trans rfl;have hcz40_1:w38.cell? ⟨gb164,1,none⟩=some (.int .i64 0):=(blk_cell BK164.out 1).trans rfl;have hcz40_2:w38.cell? ⟨gb164,2,none⟩=some (.int .i64 0):=(blk_cell BK164.out 2).trans rfl;have hfz40_0:=blk_frozen BK164.out 0;have hfz40_1:=blk_frozen BK164.out 1;have hfz40_2:=blk_frozen BK164.out 2;have hcz41_0:w38.cell? ⟨gb172,0,none⟩=some (.int .i64 t168):=(blk_cell BK172.out 0).trans rfl;have hcz41_1:w38.cell? ⟨gb172,1,none⟩=some (.string t169):=(blk_cell BK172.out 1).trans rfl;have hcz41_2:w38.cell? ⟨gb172,2,none⟩=some (.int .i64 t170):=(blk_cell BK172.out 2).trans rfl;have hcz41_3:w38.cell? ⟨gb172,3,none⟩=some (.int .i64 t171):=(blk_cell BK172.out 3).trans rfl;have hfz41_0:=blk_frozen BK172.out 0;have hfz41_1:=blk_frozen BK172.out 1;have hfz41_2:=blk_frozen BK172.out 2;have hfz41_3:=blk_frozen BK172.out 3))
         go_roundg k1
         case measure=>have:=HK1.out;omega
         case rel=>exact ⟨(wrap64 (t165+(t169.size:Int))),(x164001_1),(x164002_1),(y173),(.slice Ao39 y173.length co39),rsd,H',⟨by have:=HK1.out;omega⟩,⟨by (with_reducible repeat (first | apply Kd.R_alloc | apply Kd.R_drewN | apply Kd.R_drew));exact Kd.R_mono (Kd.R_far (p:=⟨gb164,0,none⟩) (Kd.R_types HO175.out BK164.out (by decide)) (fun _ hk=>hk.2) (.slice Ao39 y173.length co39)) (fun _ hk=>trivial)⟩,⟨by (with_reducible repeat (first | refine blk_drewN ?_ _ | refine blk_drew ?_ | refine blk_alloc ?_ _));refine blk_far ?_ NB163_164.out _;(with_reducible repeat (first | refine blk_drewN ?_ _ | refine blk_drew ?_ | refine blk_alloc ?_ _));exact BK163.out⟩,⟨by (with_reducible repeat (first | refine blk_drewN ?_ _ | refine blk_drew ?_ | refine blk_alloc ?_ _));refine blk_put (cs:=#[.slice Ao31 x165000_1.length co31,.int .i64 0,.int .i64 0]) ?_ 0 _ rfl;(with_reducible repeat (first | refine blk_drewN ?_ _ | refine blk_drew ?_ | refine blk_alloc ?_ _));exact BK164.out⟩,⟨blw⟩⟩
        ·rw [if_neg c28] at H;exact absurd H (by simp)
      ·rw [if_neg c16] at H;have c16b0:(t171 == 0)=false:=beq_eq_false_iff_ne.mpr c16;have c16b1:(t171 != 0)=true:=bne_iff_ne.mpr c16;simp only [Option.some.injEq,Prod.mk.injEq] at H;obtain ⟨rfl,rfl,rfl⟩:=H;go_wp2_with (first | ((with_reducible refine gate_callee (f:=50) rfl ?_);refine goesL_ (some 15) rfl rfl Tryz.func50 (by kernel_rfl) rfl #[.string a0,.int .i64 x4_1] rfl fq ?_;(with_reducible refine (rzskipped.calls k1 a0 x4_1 t165 true _ A7.out).mono ?_);rintro e w' ⟨rfl,⟨nd,rfl⟩⟩;refine ⟨_,rfl,?_⟩;(try (rw [drewN_self wr];generalize hq_:World.drewN wr _=wr;have n0_:Aside0 (Kd.R k38 38 wr w.heap.size (fun _=>True) u165000 x165000_1):=⟨by rw [← hq_];exact (by (with_reducible repeat (first | apply Kd.R_alloc | apply Kd.R_drewN | apply Kd.R_drew));exact HO_165000.out)⟩;have n1_:Aside0 (wr.heap[gb163]?=some (.cells #[.slice none 0 0,.int .i64 x164001_1,.int .i64 x164002_1] 28 (0,0))):=⟨by rw [← hq_];exact bko⟩;have n2_:Aside0 (wr.heap[gb164]?=some (.cells #[u165000,.int .i64 0,.int .i64 0] 28 (0,0))):=⟨by rw [← hq_];exact bko⟩;have n3_:Aside0 (Below w.heap.size w wr):=⟨by rw [← hq_];exact blw⟩;clear HO_165000 BK163 BK164 HB hq_;have HO_165000:=n0_;have BK163:=n1_;have BK164:=n2_;have HB:=n3_;clear n0_ n1_ n2_ n3_));have hnb42:=NB164_163.out;have hnc42:=NB163_164.out;have hcz43_0:wr.cell? ⟨gb164,0,none⟩=some (u165000):=(blk_cell BK164.out 0).trans rfl;have hcz43_1:wr.cell? ⟨gb164,1,none⟩=some (.int .i64 0):=(blk_cell BK164.out 1).trans rfl;have hcz43_2:wr.cell? ⟨gb164,2,none⟩=some (.int .i64 0):=(blk_cell BK164.out 2).trans rfl;have hfz43_0:=blk_frozen BK164.out 0;have hfz43_1:=blk_frozen BK164.out 1;have hfz43_2:=blk_frozen BK164.out 2;obtain ⟨Ao44,co44,eo44⟩:=Kd.R_slice HO_165000.out;subst eo44) | ((with_reducible refine gate_callee (f:=52) rfl ?_);refine goesL_ (some 31) rfl rfl Tryz.func52 (by kernel_rfl) rfl #[.slice Ao44 x165000_1.length co44] rfl fq ?_;(with_reducible refine (rzopens.calls _ _ x165000_1 t167 _ ?side1 ?side2 A14.out).mono ?_);(case side1=>repeat (first | exact (Kd.R_reads' HO_165000.out).2.2 | (with_reducible refine Kd.C_alloc ?_ _) | (with_reducible refine Kd.C_drewN ?_ _) | (with_reducible refine Kd.C_drew ?_)));(case side2=>exact (Kd.R_reads' HO_165000.out).2.1);rintro e w' ⟨rfl,⟨nd,rfl⟩⟩;refine ⟨_,rfl,?_⟩;(try (rw [drewN_self wr];generalize hq_:World.drewN wr _=wr;have n0_:Aside0 (Kd.R k38 38 wr w.heap.size (fun _=>True) (.slice Ao44 x165000_1.length co44) x165000_1):=⟨by rw [← hq_];exact (by (with_reducible repeat (first | apply Kd.R_alloc | apply Kd.R_drewN | apply Kd.R_drew));exact HO_165000.out)⟩;have n1_:Aside0 (wr.heap[gb163]?=some (.cells #[.slice none 0 0,.int .i64 x164001_1,.int .i64 x164002_1] 28 (0,0))):=⟨by rw [← hq_];exact bko⟩;have n2_:Aside0 (wr.heap[gb164]?=some (.cells #[.slice Ao44 x165000_1.length co44,.int .i64 0,.int .i64 0] 28 (0,0))):=⟨by rw [← hq_];exact bko⟩;have n3_:Aside0 (Below w.heap.size w wr):=⟨by rw [← hq_];exact blw⟩;clear HO_165000 BK163 BK164 HB hq_;have HO_165000:=n0_;have BK163:=n1_;have BK164:=n2_;have HB:=n3_;clear n0_ n1_ n2_ n3_))) | ((with_reducible refine gate_callee (f:=51) rfl ?_);refine goesL_ (some 32) rfl rfl Tryz.func51 (by kernel_rfl) rfl #[.string a0,.int .i64 t165,.bool t167] rfl fq ?_;(with_reducible refine (rzone.calls k1 a0 t165 t167 t168 t169 t170 t171 _ A15.out).mono ?_);rintro e w45 ⟨rfl,hb⟩;refine ⟨_,rfl,?_⟩;have n0_:=Aside0.mk (Kd.R_below (by (with_reducible repeat (first | apply Kd.R_alloc | apply Kd.R_drewN | apply Kd.R_drew));exact HO_165000.out) hb);have n1_:=Aside0.mk (blk_below (g:=gb163) (o:=.cells #[.slice none 0 0,.int .i64 x164001_1,.int .i64 x164002_1] 28 (0,0)) bko hb);have n2_:=Aside0.mk (blk_below (g:=gb164) (o:=.cells #[.slice Ao44 x165000_1.length co44,.int .i64 0,.int .i64 0] 28 (0,0)) bko hb);have n3_:=Aside0.mk (below_step blw hb);clear HO_165000;clear BK163;clear BK164;clear HB;have HO_165000:=n0_;have BK163:=n1_;have BK164:=n2_;have HB:=n3_;clear n0_ n1_ n2_ n3_;(try clear hb);(try clear hb2);(try clear hk);(try clear hi)) | ((with_reducible refine gate_dst (N:=7) rfl ?_);refine box_event ?hg (N:=7) ?hd (cs:=#[.int .i64 0,.string (⟨#[]⟩:zB),.int .i64 0,.int .i64 0]) (t:=68) ?hr ?_;(case hd=>rfl);(case hg=>rfl);(case hr=>first | (go_simp;done) | (go_simp;rfl));intro gb172 hg w46 hbox hb;have n0_:=Aside0.mk (Kd.R_below (by (with_reducible repeat (first | apply Kd.R_alloc | apply Kd.R_drewN | apply Kd.R_drew));exact HO_165000.out) hb);have n1_:=Aside0.mk (blk_below (g:=gb163) (o:=.cells #[.slice none 0 0,.int .i64 x164001_1,.int .i64 x164002_1] 28 (0,0)) bko hb);have n2_:=Aside0.mk (blk_below (g:=gb164) (o:=.cells #[.slice Ao44 x165000_1.length co44,.int .i64 0,.int .i64 0] 28 (0,0)) bko hb);have n3_:=Aside0.mk (below_step blw hb);have n4_:=Aside0.mk (hbox);have n5_:=Aside0.mk ((by rw [hg];exact (below_size blw):w.heap.size≤gb172));have n6_:=Aside0.mk ((by rw [hg];exact (below_size blw):w.heap.size≤gb172));have n7_:=Aside0.mk ((by rw [hg];exact Nat.ne_of_lt (blk_lt (g:=gb163) (o:=.cells #[.slice none 0 0,.int .i64 x164001_1,.int .i64 x164002_1] 28 (0,0)) bko):gb163≠gb172));have n8_:=Aside0.mk ((by rw [hg];exact Nat.ne_of_gt (blk_lt (g:=gb163) (o:=.cells #[.slice none 0 0,.int .i64 x164001_1,.int .i64 x164002_1] 28 (0,0)) bko):gb172≠gb163));have n9_:=Aside0.mk ((by rw [hg];exact Nat.ne_of_lt (blk_lt (g:=gb164) (o:=.cells #[.slice Ao44 x165000_1.length co44,.int .i64 0,.int .i64 0] 28 (0,0)) bko):gb164≠gb172));have n10_:=Aside0.mk ((by rw [hg];exact Nat.ne_of_gt (blk_lt (g:=gb164) (o:=.cells #[.slice Ao44 x165000_1.length co44,.int .i64 0,.int .i64 0] 28 (0,0)) bko):gb172≠gb164));clear HO_165000;clear BK163;clear BK164;clear HB;have HO_165000:=n0_;have BK163:=n1_;have BK164:=n2_;have HB:=n3_;have BK172:=n4_;have GW172:=n5_;have GE172:=n6_;have NB163_172:=n7_;have NB172_163:=n8_;have NB164_172:=n9_;have NB172_164:=n10_;clear n0_ n1_ n2_ n3_ n4_ n5_ n6_ n7_ n8_ n9_ n10_;clear hb hbox hg;have hnb47:=NB172_163.out;have hnc47:=NB163_172.out;have hnb48:=NB172_164.out;have hnc48:=NB164_172.out;have hcz49_0:w46.cell? ⟨gb172,0,none⟩=some (.int .i64 0):=(blk_cell BK172.out 0).trans rfl;have hcz49_1:w46.cell? ⟨gb172,1,none⟩=some (.string (⟨#[]⟩:zB)):=(blk_cell BK172.out 1).trans rfl;have hcz49_2:w46.cell? ⟨gb172,2,none⟩=some (.int .i64 0):=(blk_cell BK172.out 2).trans rfl;have hcz49_3:w46.cell? ⟨gb172,3,none⟩=some (.int .i64 0):=(blk_cell BK172.out 3).trans rfl;have hfz49_0:=blk_frozen BK172.out 0;have hfz49_1:=blk_frozen BK172.out 1;have hfz49_2:=blk_frozen BK172.out 2;have hfz49_3:=blk_frozen BK172.out 3;have hcz50_0:w46.cell? ⟨gb163,0,none⟩=some (.slice none 0 0):=(blk_cell BK163.out 0).trans rfl;have hcz50_1:w46.cell? ⟨gb163,1,none⟩=some (.int .i64 x164001_1):=(blk_cell BK163.out 1).trans rfl;have hcz50_2:w46.cell? ⟨gb163,2,none⟩=some (.int .i64 x164002_1):=(blk_cell BK163.out 2).trans rfl;have hfz50_0:=blk_frozen BK163.out 0;have hfz50_1:=blk_frozen BK163.out 1;have hfz50_2:=blk_frozen BK163.out 2))
       refine bodyPost_ret (results_cell_row rfl _ _ gb163 28 #[.slice none 0 0,.int .i64 t165,.int .i64 t171] (0,0) _ rfl (by (with_reducible repeat (first | refine blk_drewN ?_ _ | refine blk_drew ?_ | refine blk_alloc ?_ _));refine blk_put (cs:=#[.slice none 0 0,.int .i64 t165,.int .i64 x164002_1]) ?_ 2 _ rfl;(with_reducible repeat (first | refine blk_drewN ?_ _ | refine blk_drew ?_ | refine blk_alloc ?_ _));refine blk_put (cs:=#[.slice none 0 0,.int .i64 x164001_1,.int .i64 x164002_1]) ?_ 1 _ rfl;(with_reducible repeat (first | refine blk_drewN ?_ _ | refine blk_drew ?_ | refine blk_alloc ?_ _));refine blk_put (cs:=#[.slice none 0 0,.int .i64 x164001_1,.int .i64 x164002_1]) ?_ 0 _ rfl;(with_reducible repeat (first | refine blk_drewN ?_ _ | refine blk_drew ?_ | refine blk_alloc ?_ _));refine blk_far ?_ NB163_172.out _;(with_reducible repeat (first | refine blk_drewN ?_ _ | refine blk_drew ?_ | refine blk_alloc ?_ _));refine blk_far ?_ NB163_172.out _;(with_reducible repeat (first | refine blk_drewN ?_ _ | refine blk_drew ?_ | refine blk_alloc ?_ _));refine blk_far ?_ NB163_172.out _;(with_reducible repeat (first | refine blk_drewN ?_ _ | refine blk_drew ?_ | refine blk_alloc ?_ _));refine blk_far ?_ NB163_172.out _;(with_reducible repeat (first | refine blk_drewN ?_ _ | refine blk_drew ?_ | refine blk_alloc ?_ _));exact BK163.out) Tryz.underlying28 rfl (by kernel_rfl)) rfl ?_;exact ⟨_,by first | rfl | (simp [errW_none,errW_some] <;> rfl) | (simp [*,errW_none,errW_some] <;> rfl),by first | exact Kd.R_nil _ _ _ _ _ | exact Kd.N_nil _ _ _ _ _ | exact Kd.V_nil _ _ _ _ _ | exact Kd.Q_nil _ _ _ _ _ | exact Kd.S_nil _ _ _ _ _,blw⟩
    ·replace c8:=Bool.eq_false_iff.mpr c8;subst c8;have H1:(some (([]:List (S38)),t165,113))=some (r1,r2,r3):=by rw [if_neg (show ¬ (false=true) by decide)] at H;exact H
     clear H;have H:=H1;clear H1;simp only [Option.some.injEq,Prod.mk.injEq] at H;obtain ⟨rfl,rfl,rfl⟩:=H;go_wp2_with (first | ((with_reducible refine gate_callee (f:=50) rfl ?_);refine goesL_ (some 15) rfl rfl Tryz.func50 (by kernel_rfl) rfl #[.string a0,.int .i64 x4_1] rfl fq ?_;(with_reducible refine (rzskipped.calls k1 a0 x4_1 t165 false _ A7.out).mono ?_);rintro e w' ⟨rfl,⟨nd,rfl⟩⟩;refine ⟨_,rfl,?_⟩;(try (rw [drewN_self wr];generalize hq_:World.drewN wr _=wr;have n0_:Aside0 (Kd.R k38 38 wr w.heap.size (fun _=>True) u165000 x165000_1):=⟨by rw [← hq_];exact (by (with_reducible repeat (first | apply Kd.R_alloc | apply Kd.R_drewN | apply Kd.R_drew));exact HO_165000.out)⟩;have n1_:Aside0 (wr.heap[gb163]?=some (.cells #[.slice none 0 0,.int .i64 x164001_1,.int .i64 x164002_1] 28 (0,0))):=⟨by rw [← hq_];exact bko⟩;have n2_:Aside0 (wr.heap[gb164]?=some (.cells #[u165000,.int .i64 0,.int .i64 0] 28 (0,0))):=⟨by rw [← hq_];exact bko⟩;have n3_:Aside0 (Below w.heap.size w wr):=⟨by rw [← hq_];exact blw⟩;clear HO_165000 BK163 BK164 HB hq_;have HO_165000:=n0_;have BK163:=n1_;have BK164:=n2_;have HB:=n3_;clear n0_ n1_ n2_ n3_));have hnb51:=NB163_164.out;have hnc51:=NB164_163.out;have hcz52_0:wr.cell? ⟨gb163,0,none⟩=some (.slice none 0 0):=(blk_cell BK163.out 0).trans rfl;have hcz52_1:wr.cell? ⟨gb163,1,none⟩=some (.int .i64 x164001_1):=(blk_cell BK163.out 1).trans rfl;have hcz52_2:wr.cell? ⟨gb163,2,none⟩=some (.int .i64 x164002_1):=(blk_cell BK163.out 2).trans rfl;have hfz52_0:=blk_frozen BK163.out 0;have hfz52_1:=blk_frozen BK163.out 1;have hfz52_2:=blk_frozen BK163.out 2))
     refine bodyPost_ret (results_cell_row rfl _ _ gb163 28 #[.slice none 0 0,.int .i64 t165,.int .i64 113] (0,0) _ rfl (by (with_reducible repeat (first | refine blk_drewN ?_ _ | refine blk_drew ?_ | refine blk_alloc ?_ _));refine blk_put (cs:=#[.slice none 0 0,.int .i64 t165,.int .i64 x164002_1]) ?_ 2 _ rfl;(with_reducible repeat (first | refine blk_drewN ?_ _ | refine blk_drew ?_ | refine blk_alloc ?_ _));refine blk_put (cs:=#[.slice none 0 0,.int .i64 x164001_1,.int .i64 x164002_1]) ?_ 1 _ rfl;(with_reducible repeat (first | refine blk_drewN ?_ _ | refine blk_drew ?_ | refine blk_alloc ?_ _));refine blk_put (cs:=#[.slice none 0 0,.int .i64 x164001_1,.int .i64 x164002_1]) ?_ 0 _ rfl;(with_reducible repeat (first | refine blk_drewN ?_ _ | refine blk_drew ?_ | refine blk_alloc ?_ _));exact BK163.out) Tryz.underlying28 rfl (by kernel_rfl)) rfl ?_;exact ⟨_,by first | rfl | (simp [errW_none,errW_some] <;> rfl) | (simp [*,errW_none,errW_some] <;> rfl),by first | exact Kd.R_nil _ _ _ _ _ | exact Kd.N_nil _ _ _ _ _ | exact Kd.V_nil _ _ _ _ _ | exact Kd.Q_nil _ _ _ _ _ | exact Kd.S_nil _ _ _ _ _,blw⟩
end Go.Proofs.YtadgddipkbdnbaaGreatDoor.Q
namespace Go.Proofs.YtadgddipkbdnbaaGreatDoor
open Go.RowKit
theorem intOk (x:ByteArray) (n:Nat) (u:Bool) (h:Lx.integer x.data.toList=some (n,u)) (w:World) (hg:GW w) (hx:x.size≤140737488355328) :
  Calls Tryz.prog 54 #[.string x] w fun e w'=>e=.returned (.tuple #[.int .i64 (wrap64 n),.bool u,.bool true])∧Below w.heap.size w w' :=
 (integer_any x hx w hg).mono fun e w' hh=>⟨by have:=hh.1;unfold IntPost at this;rw [h] at this;exact this,hh.2⟩
theorem intBad (x:ByteArray) (h:Lx.integer x.data.toList=none) (w:World) (hg:GW w) (hx:x.size≤140737488355328) :
  Calls Tryz.prog 54 #[.string x] w fun e w'=>(∃ (v:Int) (u:Bool),e=.returned (.tuple #[.int .i64 v,.bool u,.bool false]))∧Below w.heap.size w w' :=
 (integer_any x hx w hg).mono fun e w' hh=>⟨by have:=hh.1;unfold IntPost at this;rw [h] at this;exact this,hh.2⟩
theorem chOk (s:ByteArray) (a:Nat) (v:UInt8) (k:Nat) (h:Lx.char (s.data.toList.drop a)=some (v,k)) (w:World) (hg:GW w) (hx:s.size≤140737488355328) (ha:a≤s.size) :
  Calls Tryz.prog 53 #[.string s,.int .i64 (a:Int)] w fun e w'=>e=.returned (.tuple #[.int .u8 (v.toNat:Int),.int .i64 ((a+k:Nat):Int),.bool true])∧Below w.heap.size w w' :=
 (character_any s a hx ha w hg).mono fun e w' hh=>⟨by have:=hh.1;unfold CharPost at this;rw [h] at this;exact this,hh.2⟩
theorem chBad (s:ByteArray) (a:Nat) (h:Lx.char (s.data.toList.drop a)=none) (w:World) (hg:GW w) (hx:s.size≤140737488355328) (ha:a≤s.size) :
  Calls Tryz.prog 53 #[.string s,.int .i64 (a:Int)] w fun e w'=>(∃ (v n:Int),e=.returned (.tuple #[.int .u8 v,.int .i64 n,.bool false]))∧Below w.heap.size w w' :=
 (character_any s a hx ha w hg).mono fun e w' hh=>⟨by have:=hh.1;unfold CharPost at this;rw [h] at this;exact this,hh.2⟩
set_option maxHeartbeats 1000000 in
theorem number_ok (b a:Nat) (s:ByteArray) (w:World) (hg:GW w) (h:Scn w b s a) (ha:a≤s.size) (hs:s.size≤140737488355328) (n:Nat) (u:Bool) (hr:Lx.integer (piece s a (runE 6 s a))=some (n,u)) :
  Calls Tryz.prog 121 #[.pointer (some ⟨b,0,none⟩)] w fun x w'=>x=.returned (.tuple #[.int .i64 3,.int .i64 (runE 6 s a:Nat)])∧Below w.heap.size w w':=by
 have HRR:=Lib.hid hr
 clear hr
 have h0:=h.text
 have h1:=h.at_
 have hlt:=h.lt
 have hs':s.size≤maxLen:=by unfold maxLen;omega
 have hl:=runE_le 6 s a ha
 go_enter Tryz.func121,Tryz.ntmps121
 go_wp2
 go_region_held3 (fun w'=>w'.cell? ⟨b,0,none⟩=some (.string s)∧w'.cell? ⟨b,1,none⟩=some (.int .i64 (a:Int))∧GW w'∧Below w.heap.size w w') (first | exact ⟨h0,h1,hg.drew,(Below.refl _ _).drew⟩ | exact ⟨(hb1.cell (World.block_lt_of_cell? _ _ k0)).trans k0,(hb1.cell (World.block_lt_of_cell? _ _ k1)).trans k1,kg.below hb1 (Nat.le_refl _),kb.trans (hb1.mono kb.size)⟩)
  (first | (go_at_call 69;obtain ⟨k0,k1,kg,kb⟩:=(by assumption:_∧_∧GW _∧Below _ _ _);refine (run_E s a 6 _ kg hs' ha).mono ?_;rintro e w1 ⟨rfl,hb1⟩))
 obtain ⟨k0,k1,kg,kb⟩:=(by assumption:_∧_∧GW _∧Below _ _ _)
 clear hb1
 have hl1:(a:Int)≤(runE 6 s a:Nat):=by omega
 have hl2:(runE 6 s a:Int)≤(s.size:Nat):=by omega
 have hl3:(0:Int)≤(a:Int):=by omega
 obtain ⟨pc,hpc⟩:∃ pc,pc=s.extract a (runE 6 s a):=⟨_,rfl⟩
 have hpl:pc.size≤140737488355328:=by rw [hpc];simp;omega
 have HPC:=Lib.hid hpc
 clear hpc
 go_wp2
 go_region_held3 (fun w'=>w'.cell? ⟨b,0,none⟩=some (.string s)∧w'.cell? ⟨b,1,none⟩=some (.int .i64 (a:Int))∧GW w'∧Below w.heap.size w w') (first | exact ⟨k0,k1,kg.drew,kb.drew⟩ | exact ⟨(hb1.cell (World.block_lt_of_cell? _ _ k0)).trans k0,(hb1.cell (World.block_lt_of_cell? _ _ k1)).trans k1,kg.below hb1 (Nat.le_refl _),kb.trans (hb1.mono kb.size)⟩)
  (first | (go_at_call 54;obtain ⟨k0,k1,kg,kb⟩:=(by assumption:_∧_∧GW _∧Below _ _ _);rw [← HPC.out];refine (intOk pc n u (by rw [HPC.out];exact HRR.out) _ kg hpl).mono ?_;rintro e w1 ⟨rfl,hb1⟩))
 obtain ⟨m0,m1,mg,mb⟩:=(by assumption:_∧_∧GW _∧Below _ _ _)
 clear hb1
 go_wp2
 go_ret2
 exact ⟨rfl,mb⟩
set_option maxHeartbeats 1000000 in
theorem number_bad (b a:Nat) (s:ByteArray) (w:World) (hg:GW w) (h:Scn w b s a) (ha:a≤s.size) (hs:s.size≤140737488355328) (hr:Lx.integer (piece s a (runE 6 s a))=none) :
  Calls Tryz.prog 121 #[.pointer (some ⟨b,0,none⟩)] w fun x w'=>x=.panicked (thrown a 112)∧Below w.heap.size w w':=by
 have HRR:=Lib.hid hr
 clear hr
 have h0:=h.text
 have h1:=h.at_
 have hlt:=h.lt
 have hs':s.size≤maxLen:=by unfold maxLen;omega
 have hl:=runE_le 6 s a ha
 go_enter Tryz.func121,Tryz.ntmps121
 go_wp2
 go_region_held3 (fun w'=>w'.cell? ⟨b,0,none⟩=some (.string s)∧w'.cell? ⟨b,1,none⟩=some (.int .i64 (a:Int))∧GW w'∧Below w.heap.size w w') (first | exact ⟨h0,h1,hg.drew,(Below.refl _ _).drew⟩ | exact ⟨(hb1.cell (World.block_lt_of_cell? _ _ k0)).trans k0,(hb1.cell (World.block_lt_of_cell? _ _ k1)).trans k1,kg.below hb1 (Nat.le_refl _),kb.trans (hb1.mono kb.size)⟩)
  (first | (go_at_call 69;obtain ⟨k0,k1,kg,kb⟩:=(by assumption:_∧_∧GW _∧Below _ _ _);refine (run_E s a 6 _ kg hs' ha).mono ?_;rintro e w1 ⟨rfl,hb1⟩))
 obtain ⟨k0,k1,kg,kb⟩:=(by assumption:_∧_∧GW _∧Below _ _ _)
 clear hb1
 have hl1:(a:Int)≤(runE 6 s a:Nat):=by omega
 have hl2:(runE 6 s a:Int)≤(s.size:Nat):=by omega
 have hl3:(0:Int)≤(a:Int):=by omega
 obtain ⟨pc,hpc⟩:∃ pc,pc=s.extract a (runE 6 s a):=⟨_,rfl⟩
 have hpl:pc.size≤140737488355328:=by rw [hpc];simp;omega
 have HPC:=Lib.hid hpc
 clear hpc
 go_wp2
 go_region_held3 (fun w'=>w'.cell? ⟨b,0,none⟩=some (.string s)∧w'.cell? ⟨b,1,none⟩=some (.int .i64 (a:Int))∧GW w'∧Below w.heap.size w w') (first | exact ⟨k0,k1,kg.drew,kb.drew⟩ | exact ⟨(hb1.cell (World.block_lt_of_cell? _ _ k0)).trans k0,(hb1.cell (World.block_lt_of_cell? _ _ k1)).trans k1,kg.below hb1 (Nat.le_refl _),kb.trans (hb1.mono kb.size)⟩)
  (first | (go_at_call 54;obtain ⟨k0,k1,kg,kb⟩:=(by assumption:_∧_∧GW _∧Below _ _ _);rw [← HPC.out];refine (intBad pc (by rw [HPC.out];exact HRR.out) _ kg hpl).mono ?_;rintro e w1 ⟨⟨v,u,rfl⟩,hb1⟩))
 obtain ⟨m0,m1,mg,mb⟩:=(by assumption:_∧_∧GW _∧Below _ _ _)
 clear hb1
 go_wp2_with (go_at_call 74;refine (fail_any b a 112 s _ ⟨m0,m1,(mb.frozen (p:=⟨b,1,none⟩) hlt).trans h.free⟩).mono ?_;rintro e w2 ⟨rfl,rfl⟩)
 exact ⟨rfl,rfl,mb⟩
theorem char_len (r:List UInt8) (v:UInt8) (k:Nat) (h:Lx.char r=some (v,k)):1≤k∧k≤r.length:=by
 cases r with
 | nil=>simp [Lx.char] at h
 | cons c t =>
  rw [Lx.char,Lx.charC] at h
  split at h
  ·cases h
  ·split at h
   ·simp at h;simp;omega
   ·cases t with
    | nil=>simp [Lx.escT] at h
    | cons d u =>
     rw [Lx.escT,Lx.esc] at h
     have h2:∀ {x:UInt8},some (x,2)=some (v,k)→1≤k∧k≤(c :: d :: u).length:=fun e=>by simp at e;simp;omega
     split at h
     ·exact h2 h
     ·split at h
      ·exact h2 h
      ·split at h
       ·exact h2 h
       ·split at h
        ·exact h2 h
        ·split at h
         ·cases h
         ·rw [Lx.hexes.eq_def] at h
          split at h
          ·split at h
           ·simp at h;simp;omega
           ·cases h
          ·cases h
theorem chOkI (s:ByteArray) (a:Nat) (i:Int) (hi:i=(a:Int)) (v:UInt8) (k:Nat) (h:Lx.char (s.data.toList.drop a)=some (v,k)) (w:World) (hg:GW w) (hx:s.size≤140737488355328) (ha:a≤s.size) :
  Calls Tryz.prog 53 #[.string s,.int .i64 i] w fun e w'=>e=.returned (.tuple #[.int .u8 (v.toNat:Int),.int .i64 ((a+k:Nat):Int),.bool true])∧Below w.heap.size w w':=by
 subst hi
 exact chOk s a v k h w hg hx ha
theorem chBadI (s:ByteArray) (a:Nat) (i:Int) (hi:i=(a:Int)) (h:Lx.char (s.data.toList.drop a)=none) (w:World) (hg:GW w) (hx:s.size≤140737488355328) (ha:a≤s.size) :
  Calls Tryz.prog 53 #[.string s,.int .i64 i] w fun e w'=>(∃ (v n:Int),e=.returned (.tuple #[.int .u8 v,.int .i64 n,.bool false]))∧Below w.heap.size w w':=by
 subst hi
 exact chBad s a h w hg hx ha
set_option maxHeartbeats 1000000 in
theorem constant_bad (b a:Nat) (s:ByteArray) (w:World) (hg:GW w) (h:Scn w b s a) (ha:a≤s.size) (hs:s.size≤140737488355328) (ha1:a < s.size) (hr:Lx.char (s.data.toList.drop (a+1))=none) :
  Calls Tryz.prog 122 #[.pointer (some ⟨b,0,none⟩)] w fun x w'=>x=.panicked (thrown a 113)∧Below w.heap.size w w':=by
 have h0:=h.text
 have h1:=h.at_
 have hlt:=h.lt
 have HR:=Lib.hid hr
 clear hr
 have hw1:IntKind.i64.wrap ((a:Int)+1)=(a:Int)+1:=IntWalk.i64_in _ (by omega)
 go_enter Tryz.func122,Tryz.ntmps122
 go_wp2
 go_region_held3 (fun w'=>w'.cell? ⟨b,0,none⟩=some (.string s)∧w'.cell? ⟨b,1,none⟩=some (.int .i64 (a:Int))∧GW w'∧Below w.heap.size w w') (first | exact ⟨h0,h1,hg.drew,(Below.refl _ _).drew⟩ | exact ⟨(hb1.cell (World.block_lt_of_cell? _ _ k0)).trans k0,(hb1.cell (World.block_lt_of_cell? _ _ k1)).trans k1,kg.below hb1 (Nat.le_refl _),kb.trans (hb1.mono kb.size)⟩)
  (first | (go_at_call 53;obtain ⟨k0,k1,kg,kb⟩:=(by assumption:_∧_∧GW _∧Below _ _ _);refine (chBadI s (a+1) _ (by omega) HR.out _ kg hs (by omega)).mono ?_;rintro e w1 ⟨⟨v,n,rfl⟩,hb1⟩))
 obtain ⟨k0,k1,kg,kb⟩:=(by assumption:_∧_∧GW _∧Below _ _ _)
 clear hb1
 go_wp2
 go_quiet (fail)
 have q0:=(below_drewN kb nq).cell (p:=⟨b,0,none⟩) hlt |>.trans h0
 have q1:=(below_drewN kb nq).cell (p:=⟨b,1,none⟩) hlt |>.trans h1
 have qb:=below_drewN kb nq
 go_wp2_with (go_at_call 74;refine (fail_any b a 113 s _ ⟨q0,q1,(qb.frozen (p:=⟨b,1,none⟩) hlt).trans h.free⟩).mono ?_;rintro e w2 ⟨rfl,rfl⟩)
 exact ⟨rfl,rfl,qb⟩
set_option maxHeartbeats 1000000 in
theorem constant_quote (b a:Nat) (s:ByteArray) (w:World) (hg:GW w) (h:Scn w b s a) (ha:a≤s.size) (hs:s.size≤140737488355328) (ha1:a < s.size) (v:UInt8) (k:Nat) (hr:Lx.char (s.data.toList.drop (a+1))=some (v,k)) (hq:∀ h:a+1 < s.size,(s[a+1].toNat:Int)=39) :
  Calls Tryz.prog 122 #[.pointer (some ⟨b,0,none⟩)] w fun x w'=>x=.panicked (thrown a 113)∧Below w.heap.size w w':=by
 have h0:=h.text
 have h1:=h.at_
 have hlt:=h.lt
 have HR:=Lib.hid hr
 have hkl:=char_len _ _ _ hr
 rw [List.length_drop,← Lib.size_eq] at hkl
 clear hr
 have j1:(0:Int)≤(a:Int)+1:=by omega
 have j2:(a:Int)+1 < (s.size:Int):=by omega
 have j3:a+1 < s.size:=by omega
 have hw1:IntKind.i64.wrap ((a:Int)+1)=(a:Int)+1:=IntWalk.i64_in _ (by omega)
 have ht1:((a:Int)+1).toNat=a+1:=by omega
 have hq1:=beq_iff_eq.2 (hq j3)
 clear hq
 go_enter Tryz.func122,Tryz.ntmps122
 go_wp2
 go_region_held3 (fun w'=>w'.cell? ⟨b,0,none⟩=some (.string s)∧w'.cell? ⟨b,1,none⟩=some (.int .i64 (a:Int))∧GW w'∧Below w.heap.size w w') (first | exact ⟨h0,h1,hg.drew,(Below.refl _ _).drew⟩ | exact ⟨(hb1.cell (World.block_lt_of_cell? _ _ k0)).trans k0,(hb1.cell (World.block_lt_of_cell? _ _ k1)).trans k1,kg.below hb1 (Nat.le_refl _),kb.trans (hb1.mono kb.size)⟩)
  (first | (go_at_call 53;obtain ⟨k0,k1,kg,kb⟩:=(by assumption:_∧_∧GW _∧Below _ _ _);refine (chOkI s (a+1) _ (by omega) v k HR.out _ kg hs (by omega)).mono ?_;rintro e w1 ⟨rfl,hb1⟩))
 obtain ⟨k0,k1,kg,kb⟩:=(by assumption:_∧_∧GW _∧Below _ _ _)
 clear hb1
 go_wp2
 go_quiet (fail)
 have q0:=(below_drewN kb nq).cell (p:=⟨b,0,none⟩) hlt |>.trans h0
 have q1:=(below_drewN kb nq).cell (p:=⟨b,1,none⟩) hlt |>.trans h1
 have qb:=below_drewN kb nq
 go_wp2_with (go_at_call 74;refine (fail_any b a 113 s _ ⟨q0,q1,(qb.frozen (p:=⟨b,1,none⟩) hlt).trans h.free⟩).mono ?_;rintro e w2 ⟨rfl,rfl⟩)
 exact ⟨rfl,rfl,qb⟩
set_option maxHeartbeats 1000000 in
theorem constant_end (b a:Nat) (s:ByteArray) (w:World) (hg:GW w) (h:Scn w b s a) (ha:a≤s.size) (hs:s.size≤140737488355328) (ha1:a < s.size) (v:UInt8) (k:Nat) (hr:Lx.char (s.data.toList.drop (a+1))=some (v,k)) (hq:∀ h:a+1 < s.size,(s[a+1].toNat:Int)≠39) (hk:s.size≤a+1+k) :
  Calls Tryz.prog 122 #[.pointer (some ⟨b,0,none⟩)] w fun x w'=>x=.panicked (thrown a 113)∧Below w.heap.size w w':=by
 have h0:=h.text
 have h1:=h.at_
 have hlt:=h.lt
 have HR:=Lib.hid hr
 have hkl:=char_len _ _ _ hr
 rw [List.length_drop,← Lib.size_eq] at hkl
 clear hr
 have j1:(0:Int)≤(a:Int)+1:=by omega
 have j2:(a:Int)+1 < (s.size:Int):=by omega
 have j3:a+1 < s.size:=by omega
 have hw1:IntKind.i64.wrap ((a:Int)+1)=(a:Int)+1:=IntWalk.i64_in _ (by omega)
 have ht1:((a:Int)+1).toNat=a+1:=by omega
 have hq1:=beq_eq_false_iff_ne.2 (hq j3)
 clear hq
 have hk':(s.size:Int)≤((a+1+k:Nat):Int):=by omega
 have hkn:decide ((s.size:Int)≤(a:Int)+1+(k:Int))=true:=decide_eq_true (by omega)
 go_enter Tryz.func122,Tryz.ntmps122
 go_wp2
 go_region_held3 (fun w'=>w'.cell? ⟨b,0,none⟩=some (.string s)∧w'.cell? ⟨b,1,none⟩=some (.int .i64 (a:Int))∧GW w'∧Below w.heap.size w w') (first | exact ⟨h0,h1,hg.drew,(Below.refl _ _).drew⟩ | exact ⟨(hb1.cell (World.block_lt_of_cell? _ _ k0)).trans k0,(hb1.cell (World.block_lt_of_cell? _ _ k1)).trans k1,kg.below hb1 (Nat.le_refl _),kb.trans (hb1.mono kb.size)⟩)
  (first | (go_at_call 53;obtain ⟨k0,k1,kg,kb⟩:=(by assumption:_∧_∧GW _∧Below _ _ _);refine (chOkI s (a+1) _ (by omega) v k HR.out _ kg hs (by omega)).mono ?_;rintro e w1 ⟨rfl,hb1⟩))
 obtain ⟨k0,k1,kg,kb⟩:=(by assumption:_∧_∧GW _∧Below _ _ _)
 clear hb1
 go_wp2
 go_quiet (fail)
 have q0:=(below_drewN kb nq).cell (p:=⟨b,0,none⟩) hlt |>.trans h0
 have q1:=(below_drewN kb nq).cell (p:=⟨b,1,none⟩) hlt |>.trans h1
 have qb:=below_drewN kb nq
 go_wp2_with (go_at_call 74;refine (fail_any b a 113 s _ ⟨q0,q1,(qb.frozen (p:=⟨b,1,none⟩) hlt).trans h.free⟩).mono ?_;rintro e w2 ⟨rfl,rfl⟩)
 exact ⟨rfl,rfl,qb⟩
set_option maxHeartbeats 1000000 in
theorem constant_open (b a:Nat) (s:ByteArray) (w:World) (hg:GW w) (h:Scn w b s a) (ha:a≤s.size) (hs:s.size≤140737488355328) (ha1:a < s.size) (v:UInt8) (k:Nat) (hr:Lx.char (s.data.toList.drop (a+1))=some (v,k)) (hq:∀ h:a+1 < s.size,(s[a+1].toNat:Int)≠39) (hk:a+1+k < s.size) (hz:(s[a+1+k].toNat:Int)≠39) :
  Calls Tryz.prog 122 #[.pointer (some ⟨b,0,none⟩)] w fun x w'=>x=.panicked (thrown a 113)∧Below w.heap.size w w':=by
 have h0:=h.text
 have h1:=h.at_
 have hlt:=h.lt
 have HR:=Lib.hid hr
 have hkl:=char_len _ _ _ hr
 rw [List.length_drop,← Lib.size_eq] at hkl
 clear hr
 have j1:(0:Int)≤(a:Int)+1:=by omega
 have j2:(a:Int)+1 < (s.size:Int):=by omega
 have j3:a+1 < s.size:=by omega
 have hw1:IntKind.i64.wrap ((a:Int)+1)=(a:Int)+1:=IntWalk.i64_in _ (by omega)
 have ht1:((a:Int)+1).toNat=a+1:=by omega
 have hq1:=beq_eq_false_iff_ne.2 (hq j3)
 have hz1:=bne_iff_ne.2 hz
 clear hq hz
 have hk':((a+1+k:Nat):Int) < (s.size:Int):=by omega
 have hkn:decide ((s.size:Int)≤(a:Int)+1+(k:Int))=false:=decide_eq_false (by omega)
 have hkp:(a:Int)+1+(k:Int) < (s.size:Int):=by omega
 have hk0:(0:Int)≤(a:Int)+1+(k:Int):=by omega
 have htk:((a:Int)+1+(k:Int)).toNat=a+1+k:=by omega
 go_enter Tryz.func122,Tryz.ntmps122
 go_wp2
 go_region_held3 (fun w'=>w'.cell? ⟨b,0,none⟩=some (.string s)∧w'.cell? ⟨b,1,none⟩=some (.int .i64 (a:Int))∧GW w'∧Below w.heap.size w w') (first | exact ⟨h0,h1,hg.drew,(Below.refl _ _).drew⟩ | exact ⟨(hb1.cell (World.block_lt_of_cell? _ _ k0)).trans k0,(hb1.cell (World.block_lt_of_cell? _ _ k1)).trans k1,kg.below hb1 (Nat.le_refl _),kb.trans (hb1.mono kb.size)⟩)
  (first | (go_at_call 53;obtain ⟨k0,k1,kg,kb⟩:=(by assumption:_∧_∧GW _∧Below _ _ _);refine (chOkI s (a+1) _ (by omega) v k HR.out _ kg hs (by omega)).mono ?_;rintro e w1 ⟨rfl,hb1⟩))
 obtain ⟨k0,k1,kg,kb⟩:=(by assumption:_∧_∧GW _∧Below _ _ _)
 clear hb1
 go_wp2
 go_quiet (fail)
 have q0:=(below_drewN kb nq).cell (p:=⟨b,0,none⟩) hlt |>.trans h0
 have q1:=(below_drewN kb nq).cell (p:=⟨b,1,none⟩) hlt |>.trans h1
 have qb:=below_drewN kb nq
 go_wp2_with (go_at_call 74;refine (fail_any b a 113 s _ ⟨q0,q1,(qb.frozen (p:=⟨b,1,none⟩) hlt).trans h.free⟩).mono ?_;rintro e w2 ⟨rfl,rfl⟩)
 exact ⟨rfl,rfl,qb⟩
set_option maxHeartbeats 1000000 in
theorem constant_ok (b a:Nat) (s:ByteArray) (w:World) (hg:GW w) (h:Scn w b s a) (ha:a≤s.size) (hs:s.size≤140737488355328) (ha1:a < s.size) (v:UInt8) (k:Nat) (hr:Lx.char (s.data.toList.drop (a+1))=some (v,k)) (hq:∀ h:a+1 < s.size,(s[a+1].toNat:Int)≠39) (hk:a+1+k < s.size) (hz:(s[a+1+k].toNat:Int)=39) :
  Calls Tryz.prog 122 #[.pointer (some ⟨b,0,none⟩)] w fun x w'=>x=.returned (.tuple #[.int .i64 3,.int .i64 ((a+(k+2):Nat):Int)])∧Below w.heap.size w w':=by
 have h0:=h.text
 have h1:=h.at_
 have hlt:=h.lt
 have HR:=Lib.hid hr
 have hkl:=char_len _ _ _ hr
 rw [List.length_drop,← Lib.size_eq] at hkl
 clear hr
 have j1:(0:Int)≤(a:Int)+1:=by omega
 have j2:(a:Int)+1 < (s.size:Int):=by omega
 have j3:a+1 < s.size:=by omega
 have hw1:IntKind.i64.wrap ((a:Int)+1)=(a:Int)+1:=IntWalk.i64_in _ (by omega)
 have ht1:((a:Int)+1).toNat=a+1:=by omega
 have hq1:=beq_eq_false_iff_ne.2 (hq j3)
 have hz1:((s[a+1+k].toNat:Int) != 39)=false:=by rw [hz];rfl
 clear hq hz
 have hk':((a+1+k:Nat):Int) < (s.size:Int):=by omega
 have hkn:decide ((s.size:Int)≤(a:Int)+1+(k:Int))=false:=decide_eq_false (by omega)
 have hkp:(a:Int)+1+(k:Int) < (s.size:Int):=by omega
 have hk0:(0:Int)≤(a:Int)+1+(k:Int):=by omega
 have htk:((a:Int)+1+(k:Int)).toNat=a+1+k:=by omega
 go_enter Tryz.func122,Tryz.ntmps122
 go_wp2
 go_region_held3 (fun w'=>w'.cell? ⟨b,0,none⟩=some (.string s)∧w'.cell? ⟨b,1,none⟩=some (.int .i64 (a:Int))∧GW w'∧Below w.heap.size w w') (first | exact ⟨h0,h1,hg.drew,(Below.refl _ _).drew⟩ | exact ⟨(hb1.cell (World.block_lt_of_cell? _ _ k0)).trans k0,(hb1.cell (World.block_lt_of_cell? _ _ k1)).trans k1,kg.below hb1 (Nat.le_refl _),kb.trans (hb1.mono kb.size)⟩)
  (first | (go_at_call 53;obtain ⟨k0,k1,kg,kb⟩:=(by assumption:_∧_∧GW _∧Below _ _ _);refine (chOkI s (a+1) _ (by omega) v k HR.out _ kg hs (by omega)).mono ?_;rintro e w1 ⟨rfl,hb1⟩))
 obtain ⟨k0,k1,kg,kb⟩:=(by assumption:_∧_∧GW _∧Below _ _ _)
 clear hb1
 go_wp2
 go_quiet (fail)
 have q0:=(below_drewN kb nq).cell (p:=⟨b,0,none⟩) hlt |>.trans h0
 have q1:=(below_drewN kb nq).cell (p:=⟨b,1,none⟩) hlt |>.trans h1
 have qb:=below_drewN kb nq
 go_wp2
 go_ret2
 exact ⟨by simp;omega,qb⟩
end Go.Proofs.YtadgddipkbdnbaaGreatDoor
