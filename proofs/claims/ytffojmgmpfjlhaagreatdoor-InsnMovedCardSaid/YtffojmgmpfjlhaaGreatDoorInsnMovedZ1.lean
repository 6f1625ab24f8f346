/- Parts of the proof: InsnMoved: a text has the same code at every address, and the same symbols, moved: the law returns true for every input; the inputs read as they did; the package-level variables hold what the program's text lays in them: the tied card. -/
import Derived.Test.YtffojmgmpfjlhaaGreatDoorInsP17
import Derived.Deep.Slices
import Derived.Deep.Fields
import Derived.ChangeSame
import Derived.ChangeSlices
import Derived.Lib.SmallJoins
set_option linter.unusedVariables false
set_option linter.unusedSimpArgs false
namespace Go.Proofs.YtffojmgmpfjlhaaGreatDoor.Q
open Go.Joins Go.ChangeShapes Go.WideShapes Go.RowKit Go.Deep Go.Proofs.YtffojmgmpfjlhaaGreatDoor YtffojmgmpfjlhaaGreatDoorW.PrintWords YtffojmgmpfjlhaaGreatDoorW.PrintLast
section
variable {H:Type} {enc:TypeId × Value→H} {W:World}
set_option maxRecDepth 100000 in
theorem open_arr2 {r:Reach} {b0:Nat} {v:Value} {d:DataW H} {p:List MemPlace} (hv:Value.okWide Tryz.prog W r b0 59 v) (h:DataW.Trod enc Tryz.prog W 0 (fun _=>true) true 59 v d p) :
  ∃ a b:Int,v=.agg #[.int .u32 a,.int .u32 b]∧(Lit.int .u32 a).wf=true∧(Lit.int .u32 b).wf=true:=by
 have hu:Tryz.prog.underlying 59=some (.array 2 58):=Tryz.underlying59
 have hc:Tryz.prog.cellsOf 59=2:=by kernel_rfl
 have hc3:Tryz.prog.cellsOf 58=1:=by kernel_rfl
 obtain ⟨cs,rfl,hsz⟩:∃ cs,v=.agg cs∧cs.size=2:=by
  simp only [Value.okWide,hu] at hv
  obtain ⟨cs,h1,h2,_⟩:=hv
  exact ⟨cs,h1,h2.trans hc⟩
 obtain ⟨fuel,hf⟩:=h
 obtain ⟨xs,m,-,-,hl,hxl,hi⟩:=DataW.trod_array hu hf
 obtain ⟨l⟩:=cs
 match l,hsz with
 | [c0,c1],_ =>
  have g0:=hi 0 (by omega)
  have g1:=hi 1 (by omega)
  rw [hc3] at g0 g1
  rw [List.getElem?_eq_getElem (by omega)] at g0 g1
  obtain ⟨a,h0,-,w0⟩:=DataW.trod_int Tryz.underlying58 g0
  obtain ⟨b,h1,-,w1⟩:=DataW.trod_int Tryz.underlying58 g1
  simp [Value.cells] at h0 h1
  exact ⟨a,b,by rw [h0,h1],w0,w1⟩
end
end Go.Proofs.YtffojmgmpfjlhaaGreatDoor.Q
namespace Go.Proofs.YtffojmgmpfjlhaaGreatDoor.Q
open Go.Proofs.YtffojmgmpfjlhaaGreatDoor Go.RowKit Go.Proofs.YtffojmgmpfjlhaaGreatDoorW.PrintWords Go.Proofs.YtffojmgmpfjlhaaGreatDoorW.PrintLast Go.Proofs.YtffojmgmpfjlhaaGreatDoorW.PrintMore
attribute [local go_sem] max2_int min2_int max_two min_two max_three min_three max_four min_four
mutual
def lzInsnMoved.j0:Nat→Bool→List (S61)→List (S61)→Bool→Int→Int→Option (Bool)
 | 0,_,_,_,_,_,_=>none
 | k+1,x5,x7,x11,x56,x730000,x730001=>if x56=true then (some false) else (lzInsnMoved.l0 k x5 x7 x11 0 x730000 x730001)
def lzInsnMoved.l0:Nat→Bool→List (S61)→List (S61)→Int→Int→Int→Option (Bool)
 | 0,_,_,_,_,_,_=>none
 | k+1,x5,x7,x11,x14,x730000,x730001=>if x14 < (x7.length:Int) then (if 0≤x14 then (if x14 < (x11.length:Int) then (if ((rd_T61 x7 x14).f0).toList=((rd_T61 x11 x14).f0).toList then (if ((rd_T61 x7 x14).f2)=((rd_T61 x11 x14).f2) then (if (wrap64 (((rd_T61 x11 x14).f1) - ((rd_T61 x7 x14).f1)))=(wrap64 ((wrap64 (x730001)) - (wrap64 (x730000)))) then (lzInsnMoved.l0 k x5 x7 x11 (wrap64 (x14+1)) x730000 x730001) else (some false)) else (some false)) else (some false)) else (none)) else (none)) else (some x5)
end
def lzInsnMoved.f (k:Nat) (a0:ByteArray) (a1_0:Int) (a1_1:Int):Option (Bool):=(lzsane.f k).bind fun t730=>((insn_Assemble.f a0 (wrap64 (a1_0))).bind fun bt731=>((insn_Assemble.f a0 (wrap64 (a1_1))).bind fun bt739=>(if bt731.2.2.2=bt739.2.2.2 then (if bt731.2.2.1=bt739.2.2.1 then ((lzsameBytes.f bt731.1 bt739.1).bind fun t747=>(if t747=true then (lzInsnMoved.j0 k t730 bt731.2.1 bt739.2.1 ((bt731.2.1.length:Int) != (bt739.2.1.length:Int)) a1_0 a1_1) else (lzInsnMoved.j0 k t730 bt731.2.1 bt739.2.1 true a1_0 a1_1))) else (lzInsnMoved.j0 k t730 bt731.2.1 bt739.2.1 true a1_0 a1_1)) else (lzInsnMoved.j0 k t730 bt731.2.1 bt739.2.1 true a1_0 a1_1))))
theorem lzInsnMoved.mono_l:∀ k,(∀ y0 y1 y2 y3 y4 y5,LeO (lzInsnMoved.j0 k y0 y1 y2 y3 y4 y5) (lzInsnMoved.j0 (k+1) y0 y1 y2 y3 y4 y5))∧(∀ y0 y1 y2 y3 y4 y5,LeO (lzInsnMoved.l0 k y0 y1 y2 y3 y4 y5) (lzInsnMoved.l0 (k+1) y0 y1 y2 y3 y4 y5))
 | 0=>⟨fun _ _ _ _ _ _ r h=>by simp [lzInsnMoved.j0] at h,fun _ _ _ _ _ _ r h=>by simp [lzInsnMoved.l0] at h⟩
 | k+1=>by
  obtain ⟨ih0,ih1⟩:=lzInsnMoved.mono_l k;refine ⟨?_,?_⟩
  ·intro y0 y1 y2 y3 y4 y5;unfold lzInsnMoved.j0;repeat' first
   | (with_reducible exact ih0 _ _ _ _ _ _)
   | (with_reducible exact ih1 _ _ _ _ _ _)
   | (with_reducible exact lzsane.mono _)
   | (with_reducible exact LeO.refl _)
   | (with_reducible exact LeO.none _)
   | (with_reducible refine LeO.ite ?_ ?_)
   | (with_reducible refine LeO.bind ?_ (fun _=>?_))
   | exact LeO.none _
   | refine LeO.ite ?_ ?_
   | refine LeO.bind ?_ (fun _=>?_)
  ·intro y0 y1 y2 y3 y4 y5;unfold lzInsnMoved.l0;repeat' first
   | (with_reducible exact ih0 _ _ _ _ _ _)
   | (with_reducible exact ih1 _ _ _ _ _ _)
   | (with_reducible exact lzsane.mono _)
   | (with_reducible exact LeO.refl _)
   | (with_reducible exact LeO.none _)
   | (with_reducible refine LeO.ite ?_ ?_)
   | (with_reducible refine LeO.bind ?_ (fun _=>?_))
   | exact LeO.none _
   | refine LeO.ite ?_ ?_
   | refine LeO.bind ?_ (fun _=>?_)
theorem lzInsnMoved.mono:∀ a0 a1 a2 k,LeO (lzInsnMoved.f k a0 a1 a2) (lzInsnMoved.f (k+1) a0 a1 a2):=by
 intro a0 a1 a2 k;obtain ⟨ih0,ih1⟩:=lzInsnMoved.mono_l k;unfold lzInsnMoved.f;repeat' first
   | (with_reducible exact ih0 _ _ _ _ _ _)
   | (with_reducible exact ih1 _ _ _ _ _ _)
   | (with_reducible exact lzsane.mono _)
   | (with_reducible exact LeO.refl _)
   | (with_reducible exact LeO.none _)
   | (with_reducible refine LeO.ite ?_ ?_)
   | (with_reducible refine LeO.bind ?_ (fun _=>?_))
   | exact LeO.none _
   | refine LeO.ite ?_ ?_
   | refine LeO.bind ?_ (fun _=>?_)
set_option maxHeartbeats 8000000 in
set_option maxRecDepth 100000 in
theorem lzInsnMoved.calls (k:Nat) (a0:ByteArray) (a1_0:Int) (a1_1:Int) (r:Bool) (w:World) (h:lzInsnMoved.f k a0 a1_0 a1_1=some r) (hgw:GW w) (hrt:r=true:=by rfl) :
  Calls Tryz.prog 10 #[.string a0,.agg #[.int .u32 a1_0,.int .u32 a1_1]] w fun e w'=>e=.returned (.bool r)∧Below w.heap.size w w':=by
 have HRT:=Aside0.mk hrt;clear hrt;have hu59:=Tryz.underlying59;have HB:=Aside0.mk (Below.refl w.heap.size w);have H:((lzsane.f k).bind fun t730=>((insn_Assemble.f a0 (wrap64 (a1_0))).bind fun bt731=>((insn_Assemble.f a0 (wrap64 (a1_1))).bind fun bt739=>(if bt731.2.2.2=bt739.2.2.2 then (if bt731.2.2.1=bt739.2.2.1 then ((lzsameBytes.f bt731.1 bt739.1).bind fun t747=>(if t747=true then (lzInsnMoved.j0 k t730 bt731.2.1 bt739.2.1 ((bt731.2.1.length:Int) != (bt739.2.1.length:Int)) a1_0 a1_1) else (lzInsnMoved.j0 k t730 bt731.2.1 bt739.2.1 true a1_0 a1_1))) else (lzInsnMoved.j0 k t730 bt731.2.1 bt739.2.1 true a1_0 a1_1)) else (lzInsnMoved.j0 k t730 bt731.2.1 bt739.2.1 true a1_0 a1_1)))))=some r:=h;clear h;replace H:=Option.bind_eq_some_iff.mp H;obtain ⟨t730,A30,H⟩:=H;replace H:((insn_Assemble.f a0 (wrap64 (a1_0))).bind fun bt731=>((insn_Assemble.f a0 (wrap64 (a1_1))).bind fun bt739=>(if bt731.2.2.2=bt739.2.2.2 then (if bt731.2.2.1=bt739.2.2.1 then ((lzsameBytes.f bt731.1 bt739.1).bind fun t747=>(if t747=true then (lzInsnMoved.j0 k t730 bt731.2.1 bt739.2.1 ((bt731.2.1.length:Int) != (bt739.2.1.length:Int)) a1_0 a1_1) else (lzInsnMoved.j0 k t730 bt731.2.1 bt739.2.1 true a1_0 a1_1))) else (lzInsnMoved.j0 k t730 bt731.2.1 bt739.2.1 true a1_0 a1_1)) else (lzInsnMoved.j0 k t730 bt731.2.1 bt739.2.1 true a1_0 a1_1))))=some r:=H;have A3:=Aside0.mk A30;clear A30;replace H:=Option.bind_eq_some_iff.mp H;obtain ⟨⟨t731,t732,t733,t734⟩,A40,H⟩:=H;replace H:((insn_Assemble.f a0 (wrap64 (a1_1))).bind fun bt739=>(if t734=bt739.2.2.2 then (if t733=bt739.2.2.1 then ((lzsameBytes.f t731 bt739.1).bind fun t747=>(if t747=true then (lzInsnMoved.j0 k t730 t732 bt739.2.1 ((t732.length:Int) != (bt739.2.1.length:Int)) a1_0 a1_1) else (lzInsnMoved.j0 k t730 t732 bt739.2.1 true a1_0 a1_1))) else (lzInsnMoved.j0 k t730 t732 bt739.2.1 true a1_0 a1_1)) else (lzInsnMoved.j0 k t730 t732 bt739.2.1 true a1_0 a1_1)))=some r:=H;have A4:=Aside0.mk A40;clear A40;replace H:=Option.bind_eq_some_iff.mp H;obtain ⟨⟨t739,t740,t741,t742⟩,A50,H⟩:=H;replace H:(if t734=t742 then (if t733=t741 then ((lzsameBytes.f t731 t739).bind fun t747=>(if t747=true then (lzInsnMoved.j0 k t730 t732 t740 ((t732.length:Int) != (t740.length:Int)) a1_0 a1_1) else (lzInsnMoved.j0 k t730 t732 t740 true a1_0 a1_1))) else (lzInsnMoved.j0 k t730 t732 t740 true a1_0 a1_1)) else (lzInsnMoved.j0 k t730 t732 t740 true a1_0 a1_1))=some r:=H;have A5:=Aside0.mk A50;clear A50;have HC6:=Aside0.mk H;clear H;go_enter Tryz.func10,Tryz.ntmps10
 go_upto_region 4 with (first | ((with_reducible refine gate_dst (N:=3) rfl ?_);(try (refine gate_guard (by rfl) ?_;dsimp only));refine box_event ?hg (N:=3) ?hd (cs:=#[.int .u32 a1_0,.int .u32 a1_1]) (t:=59) ?hr ?_;(case hd=>rfl);(case hg=>rfl);(case hr=>first | (go_simp;done) | (go_simp;rfl));intro gb729 hg w7 hbox hb;have n0_:=Aside0.mk (below_step blw hb);have n1_:=Aside0.mk (hbox);have n2_:=Aside0.mk ((by rw [hg];exact (below_size blw):w.heap.size≤gb729));have n3_:=Aside0.mk ((by rw [hg];exact (below_size blw):w.heap.size≤gb729));clear HB;have HB:=n0_;have BK729:=n1_;have GW729:=n2_;have GE729:=n3_;clear n0_ n1_ n2_ n3_;clear hb hbox hg) | (go_at_call 17;(with_reducible refine (lzsane.calls k  t730 _ A3.out gwy).mono ?_);rintro e w8 ⟨rfl,hb⟩;have n0_:=Aside0.mk (blk_below (g:=gb729) (o:=.cells #[.int .u32 a1_0,.int .u32 a1_1] 59 (0,0)) bko hb);have n1_:=Aside0.mk (below_step blw hb);clear BK729;clear HB;have BK729:=n0_;have HB:=n1_;clear n0_ n1_;(try clear hb);(try clear hb2);(try clear hk);(try clear hi);obtain ⟨hcz9_0,hcz9_1,hfz9_0,hfz9_1⟩:=bz2 BK729.out) | (go_at_call 28;(with_reducible refine (insn_Assemble.calls a0 (wrap64 (a1_0)) t731 t732 t733 t734 _ A4.out gwy).mono ?_);rintro e w10 ⟨v735,v737,rfl,ho0,ho1,hb⟩;have n0_:=Aside0.mk (Kd.R_lower ho0 (below_size blw));have n1_:=Aside0.mk (Kd.R_lower ho1 (below_size blw));have n2_:=Aside0.mk (blk_below (g:=gb729) (o:=.cells #[.int .u32 a1_0,.int .u32 a1_1] 59 (0,0)) bko hb);have n3_:=Aside0.mk (below_step blw hb);clear BK729;clear HB;have HO736:=n0_;have HO738:=n1_;have BK729:=n2_;have HB:=n3_;clear n0_ n1_ n2_ n3_;(try clear hb);(try clear hb2);(try clear hk);(try clear hi);(try clear ho0);(try clear ho1);obtain ⟨hcz11_0,hcz11_1,hfz11_0,hfz11_1⟩:=bz2 BK729.out) | (go_at_call 28;(with_reducible refine (insn_Assemble.calls a0 (wrap64 (a1_1)) t739 t740 t741 t742 _ A5.out gwy).mono ?_);rintro e w12 ⟨v743,v745,rfl,ho0,ho1,hb⟩;have n0_:=Aside0.mk (Kd.R_elder' (by (with_reducible repeat (first | apply Kd.R_alloc | apply Kd.R_drewN | apply Kd.R_drew));exact HO736.out) (Kd.R_base ho0) hb);have n1_:=Aside0.mk (Kd.R_elder' (by (with_reducible repeat (first | apply Kd.R_alloc | apply Kd.R_drewN | apply Kd.R_drew));exact HO738.out) (Kd.R_base ho1) hb);have n2_:=Aside0.mk (Kd.R_lower (Kd.R_new' ho0 (Kd.R_lt (by (with_reducible repeat (first | apply Kd.R_alloc | apply Kd.R_drewN | apply Kd.R_drew));exact HO736.out))) (below_size blw));have n3_:=Aside0.mk (Kd.R_lower (Kd.R_new' ho1 (Kd.R_lt (by (with_reducible repeat (first | apply Kd.R_alloc | apply Kd.R_drewN | apply Kd.R_drew));exact HO738.out))) (below_size blw));have n4_:=Aside0.mk (blk_below (g:=gb729) (o:=.cells #[.int .u32 a1_0,.int .u32 a1_1] 59 (0,0)) bko hb);have n5_:=Aside0.mk (below_step blw hb);clear HO736;clear HO738;clear BK729;clear HB;have HO736:=n0_;have HO738:=n1_;have HO744:=n2_;have HO746:=n3_;have BK729:=n4_;have HB:=n5_;clear n0_ n1_ n2_ n3_ n4_ n5_;(try clear hb);(try clear hb2);(try clear hk);(try clear hi);(try clear ho0);(try clear ho1)))
 repeat (go_quiet (first | ((with_reducible refine gate_dst (N:=3) rfl ?_);(try (refine gate_guard (by rfl) ?_;dsimp only));refine box_event ?hg (N:=3) ?hd (cs:=#[.int .u32 a1_0,.int .u32 a1_1]) (t:=59) ?hr ?_;(case hd=>rfl);(case hg=>rfl);(case hr=>first | (go_simp;done) | (go_simp;rfl));intro gb729 hg w7 hbox hb;have n0_:=Aside0.mk (below_step blw hb);have n1_:=Aside0.mk (hbox);have n2_:=Aside0.mk ((by rw [hg];exact (below_size blw):w.heap.size≤gb729));have n3_:=Aside0.mk ((by rw [hg];exact (below_size blw):w.heap.size≤gb729));clear HB;have HB:=n0_;have BK729:=n1_;have GW729:=n2_;have GE729:=n3_;clear n0_ n1_ n2_ n3_;clear hb hbox hg) | (go_at_call 17;(with_reducible refine (lzsane.calls k  t730 _ A3.out gwy).mono ?_);rintro e w8 ⟨rfl,hb⟩;have n0_:=Aside0.mk (blk_below (g:=gb729) (o:=.cells #[.int .u32 a1_0,.int .u32 a1_1] 59 (0,0)) bko hb);have n1_:=Aside0.mk (below_step blw hb);clear BK729;clear HB;have BK729:=n0_;have HB:=n1_;clear n0_ n1_;(try clear hb);(try clear hb2);(try clear hk);(try clear hi);obtain ⟨hcz9_0,hcz9_1,hfz9_0,hfz9_1⟩:=bz2 BK729.out) | (go_at_call 28;(with_reducible refine (insn_Assemble.calls a0 (wrap64 (a1_0)) t731 t732 t733 t734 _ A4.out gwy).mono ?_);rintro e w10 ⟨v735,v737,rfl,ho0,ho1,hb⟩;have n0_:=Aside0.mk (Kd.R_lower ho0 (below_size blw));have n1_:=Aside0.mk (Kd.R_lower ho1 (below_size blw));have n2_:=Aside0.mk (blk_below (g:=gb729) (o:=.cells #[.int .u32 a1_0,.int .u32 a1_1] 59 (0,0)) bko hb);have n3_:=Aside0.mk (below_step blw hb);clear BK729;clear HB;have HO736:=n0_;have HO738:=n1_;have BK729:=n2_;have HB:=n3_;clear n0_ n1_ n2_ n3_;(try clear hb);(try clear hb2);(try clear hk);(try clear hi);(try clear ho0);(try clear ho1);obtain ⟨hcz11_0,hcz11_1,hfz11_0,hfz11_1⟩:=bz2 BK729.out) | (go_at_call 28;(with_reducible refine (insn_Assemble.calls a0 (wrap64 (a1_1)) t739 t740 t741 t742 _ A5.out gwy).mono ?_);rintro e w12 ⟨v743,v745,rfl,ho0,ho1,hb⟩;have n0_:=Aside0.mk (Kd.R_elder' (by (with_reducible repeat (first | apply Kd.R_alloc | apply Kd.R_drewN | apply Kd.R_drew));exact HO736.out) (Kd.R_base ho0) hb);have n1_:=Aside0.mk (Kd.R_elder' (by (with_reducible repeat (first | apply Kd.R_alloc | apply Kd.R_drewN | apply Kd.R_drew));exact HO738.out) (Kd.R_base ho1) hb);have n2_:=Aside0.mk (Kd.R_lower (Kd.R_new' ho0 (Kd.R_lt (by (with_reducible repeat (first | apply Kd.R_alloc | apply Kd.R_drewN | apply Kd.R_drew));exact HO736.out))) (below_size blw));have n3_:=Aside0.mk (Kd.R_lower (Kd.R_new' ho1 (Kd.R_lt (by (with_reducible repeat (first | apply Kd.R_alloc | apply Kd.R_drewN | apply Kd.R_drew));exact HO738.out))) (below_size blw));have n4_:=Aside0.mk (blk_below (g:=gb729) (o:=.cells #[.int .u32 a1_0,.int .u32 a1_1] 59 (0,0)) bko hb);have n5_:=Aside0.mk (below_step blw hb);clear HO736;clear HO738;clear BK729;clear HB;have HO736:=n0_;have HO738:=n1_;have HO744:=n2_;have HO746:=n3_;have BK729:=n4_;have HB:=n5_;clear n0_ n1_ n2_ n3_ n4_ n5_;(try clear hb);(try clear hb2);(try clear hk);(try clear hi);(try clear ho0);(try clear ho1)));go_upto_region 4 with (first | ((with_reducible refine gate_dst (N:=3) rfl ?_);(try (refine gate_guard (by rfl) ?_;dsimp only));refine box_event ?hg (N:=3) ?hd (cs:=#[.int .u32 a1_0,.int .u32 a1_1]) (t:=59) ?hr ?_;(case hd=>rfl);(case hg=>rfl);(case hr=>first | (go_simp;done) | (go_simp;rfl));intro gb729 hg w7 hbox hb;have n0_:=Aside0.mk (below_step blw hb);have n1_:=Aside0.mk (hbox);have n2_:=Aside0.mk ((by rw [hg];exact (below_size blw):w.heap.size≤gb729));have n3_:=Aside0.mk ((by rw [hg];exact (below_size blw):w.heap.size≤gb729));clear HB;have HB:=n0_;have BK729:=n1_;have GW729:=n2_;have GE729:=n3_;clear n0_ n1_ n2_ n3_;clear hb hbox hg) | (go_at_call 17;(with_reducible refine (lzsane.calls k  t730 _ A3.out gwy).mono ?_);rintro e w8 ⟨rfl,hb⟩;have n0_:=Aside0.mk (blk_below (g:=gb729) (o:=.cells #[.int .u32 a1_0,.int .u32 a1_1] 59 (0,0)) bko hb);have n1_:=Aside0.mk (below_step blw hb);clear BK729;clear HB;have BK729:=n0_;have HB:=n1_;clear n0_ n1_;(try clear hb);(try clear hb2);(try clear hk);(try clear hi);obtain ⟨hcz9_0,hcz9_1,hfz9_0,hfz9_1⟩:=bz2 BK729.out) | (go_at_call 28;(with_reducible refine (insn_Assemble.calls a0 (wrap64 (a1_0)) t731 t732 t733 t734 _ A4.out gwy).mono ?_);rintro e w10 ⟨v735,v737,rfl,ho0,ho1,hb⟩;have n0_:=Aside0.mk (Kd.R_lower ho0 (below_size blw));have n1_:=Aside0.mk (Kd.R_lower ho1 (below_size blw));have n2_:=Aside0.mk (blk_below (g:=gb729) (o:=.cells #[.int .u32 a1_0,.int .u32 a1_1] 59 (0,0)) bko hb);have n3_:=Aside0.mk (below_step blw hb);clear BK729;clear HB;have HO736:=n0_;have HO738:=n1_;have BK729:=n2_;have HB:=n3_;clear n0_ n1_ n2_ n3_;(try clear hb);(try clear hb2);(try clear hk);(try clear hi);(try clear ho0);(try clear ho1);obtain ⟨hcz11_0,hcz11_1,hfz11_0,hfz11_1⟩:=bz2 BK729.out) | (go_at_call 28;(with_reducible refine (insn_Assemble.calls a0 (wrap64 (a1_1)) t739 t740 t741 t742 _ A5.out gwy).mono ?_);rintro e w12 ⟨v743,v745,rfl,ho0,ho1,hb⟩;have n0_:=Aside0.mk (Kd.R_elder' (by (with_reducible repeat (first | apply Kd.R_alloc | apply Kd.R_drewN | apply Kd.R_drew));exact HO736.out) (Kd.R_base ho0) hb);have n1_:=Aside0.mk (Kd.R_elder' (by (with_reducible repeat (first | apply Kd.R_alloc | apply Kd.R_drewN | apply Kd.R_drew));exact HO738.out) (Kd.R_base ho1) hb);have n2_:=Aside0.mk (Kd.R_lower (Kd.R_new' ho0 (Kd.R_lt (by (with_reducible repeat (first | apply Kd.R_alloc | apply Kd.R_drewN | apply Kd.R_drew));exact HO736.out))) (below_size blw));have n3_:=Aside0.mk (Kd.R_lower (Kd.R_new' ho1 (Kd.R_lt (by (with_reducible repeat (first | apply Kd.R_alloc | apply Kd.R_drewN | apply Kd.R_drew));exact HO738.out))) (below_size blw));have n4_:=Aside0.mk (blk_below (g:=gb729) (o:=.cells #[.int .u32 a1_0,.int .u32 a1_1] 59 (0,0)) bko hb);have n5_:=Aside0.mk (below_step blw hb);clear HO736;clear HO738;clear BK729;clear HB;have HO736:=n0_;have HO738:=n1_;have HO744:=n2_;have HO746:=n3_;have BK729:=n4_;have HB:=n5_;clear n0_ n1_ n2_ n3_ n4_ n5_;(try clear hb);(try clear hb2);(try clear hk);(try clear hi);(try clear ho0);(try clear ho1))))
 (try simp only [Act.put,List.setIfInBounds_toArray,List.set_cons_zero,List.set_cons_succ]);go_cut [56] (fun v56 wc=>∃ (kq:Nat) (x56_5:Bool),v56=.bool x56_5∧Aside0 (lzInsnMoved.j0 kq t730 t732 t740 x56_5 a1_0 a1_1=some r)∧Aside0 (kq≤k)∧Aside0 (Kd.R k61 61 wc w.heap.size (fun k_=>some k_≠(v745:Value).ownBlock) v737 t732)∧Aside0 (Kd.R k61 61 wc w.heap.size (fun k_=>some k_≠(v737:Value).ownBlock) v745 t740)∧Aside0 (wc.heap[gb729]?=some (.cells #[.int .u32 a1_0,.int .u32 a1_1] 59 (0,0)))∧Aside0 (Below w.heap.size w wc))
 case first =>
  have H:=HC6.out;clear HC6;by_cases c13:t734=t742
  ·rw [if_pos c13] at H;obtain ⟨c13b0,c13b1⟩:=bqt c13;clear c13;(first | rw [c13b0] | (simp only [i64_w,i32_w];rw [c13b0]) | skip);by_cases c14:t733=t741
   ·rw [if_pos c14] at H;obtain ⟨c14b0,c14b1⟩:=bqt c14;clear c14;replace H:=Option.bind_eq_some_iff.mp H;obtain ⟨t747,A150,H⟩:=H;replace H:(if t747=true then (lzInsnMoved.j0 k t730 t732 t740 ((t732.length:Int) != (t740.length:Int)) a1_0 a1_1) else (lzInsnMoved.j0 k t730 t732 t740 true a1_0 a1_1))=some r:=H;have A15:=Aside0.mk A150;clear A150;by_cases c16:t747=true
    ·subst c16;have H1:(lzInsnMoved.j0 k t730 t732 t740 ((t732.length:Int) != (t740.length:Int)) a1_0 a1_1)=some r:=by rw [if_pos rfl] at H;exact H
     clear H;have H:=H1;clear H1;have H':=Aside0.mk H;clear H;obtain ⟨Ao17,co17,eo17⟩:=Kd.R_slice HO736.out;subst eo17;obtain ⟨Ao18,co18,eo18⟩:=Kd.R_slice HO744.out;subst eo18;go_wp2_with (first | (go_at_call 20;(with_reducible refine (lzsameBytes.calls _ _ t731 _ _ t739 true _ ?side1 ?side2 ?side3 ?side4 A15.out).mono ?_);(case side1=>repeat (first | exact (Kd.R_reads' HO736.out).2.2 | (with_reducible refine Kd.C_alloc ?_ _) | (with_reducible refine Kd.C_drewN ?_ _) | (with_reducible refine Kd.C_drew ?_)));(case side2=>exact (Kd.R_reads' HO736.out).2.1);(case side3=>repeat (first | exact (Kd.R_reads' HO744.out).2.2 | (with_reducible refine Kd.C_alloc ?_ _) | (with_reducible refine Kd.C_drewN ?_ _) | (with_reducible refine Kd.C_drew ?_)));(case side4=>exact (Kd.R_reads' HO744.out).2.1);rintro e w' ⟨rfl,⟨nd,rfl⟩⟩;(try first | exact ⟨rfl,_,World.drewN_drewN _ _ _⟩ | exact ⟨rfl,_,Eq.trans (World.drewN_drewN _ _ _) (congrArg (World.drewN _) (Nat.add_assoc _ _ _))⟩);obtain ⟨Ao19,co19,eo19⟩:=Kd.R_slice HO738.out;subst eo19;obtain ⟨Ao20,co20,eo20⟩:=Kd.R_slice HO746.out;subst eo20))
     repeat (go_quiet (first | (go_at_call 20;(with_reducible refine (lzsameBytes.calls _ _ t731 _ _ t739 true _ ?side1 ?side2 ?side3 ?side4 A15.out).mono ?_);(case side1=>repeat (first | exact (Kd.R_reads' HO736.out).2.2 | (with_reducible refine Kd.C_alloc ?_ _) | (with_reducible refine Kd.C_drewN ?_ _) | (with_reducible refine Kd.C_drew ?_)));(case side2=>exact (Kd.R_reads' HO736.out).2.1);(case side3=>repeat (first | exact (Kd.R_reads' HO744.out).2.2 | (with_reducible refine Kd.C_alloc ?_ _) | (with_reducible refine Kd.C_drewN ?_ _) | (with_reducible refine Kd.C_drew ?_)));(case side4=>exact (Kd.R_reads' HO744.out).2.1);rintro e w' ⟨rfl,⟨nd,rfl⟩⟩;(try first | exact ⟨rfl,_,World.drewN_drewN _ _ _⟩ | exact ⟨rfl,_,Eq.trans (World.drewN_drewN _ _ _) (congrArg (World.drewN _) (Nat.add_assoc _ _ _))⟩);obtain ⟨Ao19,co19,eo19⟩:=Kd.R_slice HO738.out;subst eo19;obtain ⟨Ao20,co20,eo20⟩:=Kd.R_slice HO746.out;subst eo20));try go_wp2_with (first | (go_at_call 20;(with_reducible refine (lzsameBytes.calls _ _ t731 _ _ t739 true _ ?side1 ?side2 ?side3 ?side4 A15.out).mono ?_);(case side1=>repeat (first | exact (Kd.R_reads' HO736.out).2.2 | (with_reducible refine Kd.C_alloc ?_ _) | (with_reducible refine Kd.C_drewN ?_ _) | (with_reducible refine Kd.C_drew ?_)));(case side2=>exact (Kd.R_reads' HO736.out).2.1);(case side3=>repeat (first | exact (Kd.R_reads' HO744.out).2.2 | (with_reducible refine Kd.C_alloc ?_ _) | (with_reducible refine Kd.C_drewN ?_ _) | (with_reducible refine Kd.C_drew ?_)));(case side4=>exact (Kd.R_reads' HO744.out).2.1);rintro e w' ⟨rfl,⟨nd,rfl⟩⟩;(try first | exact ⟨rfl,_,World.drewN_drewN _ _ _⟩ | exact ⟨rfl,_,Eq.trans (World.drewN_drewN _ _ _) (congrArg (World.drewN _) (Nat.add_assoc _ _ _))⟩);obtain ⟨Ao19,co19,eo19⟩:=Kd.R_slice HO738.out;subst eo19;obtain ⟨Ao20,co20,eo20⟩:=Kd.R_slice HO746.out;subst eo20)))
     go_meet
     case rel=>exact ⟨_,(((t732.length:Int) != (t740.length:Int))),rsd,H',⟨by first | omega | exact Nat.le_refl _⟩,⟨by (with_reducible repeat (first | apply Kd.R_alloc | apply Kd.R_drewN | apply Kd.R_drew));exact Kd.R_mono HO738.out (fun _ hk=>hk.2)⟩,⟨by (with_reducible repeat (first | apply Kd.R_alloc | apply Kd.R_drewN | apply Kd.R_drew));exact Kd.R_mono HO746.out (fun _ hk=>hk.2)⟩,⟨bko⟩,⟨blw⟩⟩
    ·replace c16:=Bool.eq_false_iff.mpr c16;subst c16;have H1:(lzInsnMoved.j0 k t730 t732 t740 true a1_0 a1_1)=some r:=by rw [if_neg (show ¬ (false=true) by decide)] at H;exact H
     clear H;have H:=H1;clear H1;exact absurd (H.trans (congrArg some HRT.out)) (by cases k <;> simp [lzInsnMoved.j0])
   ·rw [if_neg c14] at H;obtain ⟨c14b0,c14b1⟩:=bqf c14;exact absurd (H.trans (congrArg some HRT.out)) (by cases k <;> simp [lzInsnMoved.j0])
  ·rw [if_neg c13] at H;obtain ⟨c13b0,c13b1⟩:=bqf c13;(first | rw [c13b0] | (simp only [i64_w,i32_w];rw [c13b0]) | skip);exact absurd (H.trans (congrArg some HRT.out)) (by cases k <;> simp [lzInsnMoved.j0])
 case rest =>
  clear HC6;try clear hcz11_0
  try clear hcz11_1
  try clear hcz9_0
  try clear hcz9_1
  try clear hfz11_0
  try clear hfz11_1
  try clear hfz9_0
  try clear hfz9_1
  obtain ⟨kq,x56_5,rfl,HA,HJ5,HO_7,HO_11,BK729,HB⟩:=hcut;cases kq with
  | zero=>exact absurd HA.out (by simp [lzInsnMoved.j0])
  | succ kj5 =>
   have H:=HA.out;clear HA;simp only [lzInsnMoved.j0] at H;by_cases c23:x56_5=true
   ·subst c23;have H1:(some false)=some r:=by rw [if_pos rfl] at H;exact H
    clear H;have H:=H1;clear H1;exact absurd (H.trans (congrArg some HRT.out)) (by simp)
   ·replace c23:=Bool.eq_false_iff.mpr c23;subst c23;have H1:(lzInsnMoved.l0 kj5 t730 t732 t740 0 a1_0 a1_1)=some r:=by rw [if_neg (show ¬ (false=true) by decide)] at H;exact H
    clear H;have H:=H1;clear H1;have H':=Aside0.mk H;clear H;go_wp2;repeat (go_quiet (fail);try go_wp2)
    try simp only [Act.put,List.setIfInBounds_toArray,List.set_cons_zero,List.set_cons_succ]
    go_loopg [14] kj5 (fun kq v14 w'=>∃ (x14_2:Int),v14=.int .i64 x14_2∧Aside0 (lzInsnMoved.l0 kq t730 t732 t740 x14_2 a1_0 a1_1=some r)∧Aside0 (kq≤kj5)∧Aside0 (Kd.R k61 61 w' w.heap.size (fun k_=>some k_≠(v745:Value).ownBlock) v737 t732)∧Aside0 (Kd.R k61 61 w' w.heap.size (fun k_=>some k_≠(v737:Value).ownBlock) v745 t740)∧Aside0 (w'.heap[gb729]?=some (.cells #[.int .u32 a1_0,.int .u32 a1_1] 59 (0,0)))∧Aside0 (Below w.heap.size w w'))
    case atStart=>exact ⟨(0),rsd,H',⟨Nat.le_refl _⟩,⟨by (with_reducible repeat (first | apply Kd.R_alloc | apply Kd.R_drewN | apply Kd.R_drew));exact HO_7.out⟩,⟨by (with_reducible repeat (first | apply Kd.R_alloc | apply Kd.R_drewN | apply Kd.R_drew));exact HO_11.out⟩,⟨bko⟩,⟨blw⟩⟩
    case round =>
     clear H';try clear c23
     obtain ⟨x14_2,rfl,HA,HK2,HO_7,HO_11,BK729,HB⟩:=hrel;cases gk with
     | zero=>exact absurd HA.out (by simp [lzInsnMoved.l0])
     | succ k2 =>
      have H:=HA.out;clear HA;simp only [lzInsnMoved.l0] at H;by_cases c24:x14_2 < (t732.length:Int)
      ·rw [if_pos c24] at H;have c24b0:=decide_eq_true c24;clear c24;by_cases c25:0≤x14_2
       ·rw [if_pos c25] at H;have c25b0:=decide_eq_true c25;clear c25;by_cases c26:x14_2 < (t740.length:Int)
        ·rw [if_pos c26] at H;have c26b0:=decide_eq_true c26;clear c26;by_cases c27:((rd_T61 t732 x14_2).f0).toList=((rd_T61 t740 x14_2).f0).toList
         ·rw [if_pos c27] at H;obtain ⟨c27b0,c27b1⟩:=bqt c27;clear c27;by_cases c28:((rd_T61 t732 x14_2).f2)=((rd_T61 t740 x14_2).f2)
          ·rw [if_pos c28] at H;obtain ⟨c28b0,c28b1⟩:=bqt c28;clear c28;by_cases c29:(wrap64 (((rd_T61 t740 x14_2).f1) - ((rd_T61 t732 x14_2).f1)))=(wrap64 ((wrap64 (a1_1)) - (wrap64 (a1_0))))
           ·rw [if_pos c29] at H;obtain ⟨c29b0,c29b1⟩:=bqt c29;clear c29;have H':=Aside0.mk H;clear H;obtain ⟨Ao30,co30,eo30⟩:=Kd.R_slice HO_7.out;subst eo30;have p748:0≤(x14_2:Int):=of_decide_eq_true asm;have q748:x14_2 < (t732.length:Int):=of_decide_eq_true asm;obtain ⟨ad748,e748,hx748_0,hx748_1,hx748_2⟩:=at_T61 (Kd.R_reads' HO_7.out).2.2 x14_2 p748 q748;cases e748;replace p748:=eq_true p748;replace q748:=eq_true q748;obtain ⟨Ao31,co31,eo31⟩:=Kd.R_slice HO_11.out;subst eo31;have p749:0≤(x14_2:Int):=of_decide_eq_true asm;have q749:x14_2 < (t740.length:Int):=of_decide_eq_true asm;obtain ⟨ad749,e749,hx749_0,hx749_1,hx749_2⟩:=at_T61 (Kd.R_reads' HO_11.out).2.2 x14_2 p749 q749;cases e749;replace p749:=eq_true p749;replace q749:=eq_true q749;have p750:0≤(x14_2:Int):=of_decide_eq_true asm;have q750:x14_2 < (t732.length:Int):=of_decide_eq_true asm;obtain ⟨ad750,e750,hx750_0,hx750_1,hx750_2⟩:=at_T61 (Kd.R_reads' HO_7.out).2.2 x14_2 p750 q750;obtain rfl:ad748=ad750:=(by injection e750);replace p750:=eq_true p750;replace q750:=eq_true q750;have p751:0≤(x14_2:Int):=of_decide_eq_true asm;have q751:x14_2 < (t740.length:Int):=of_decide_eq_true asm;obtain ⟨ad751,e751,hx751_0,hx751_1,hx751_2⟩:=at_T61 (Kd.R_reads' HO_11.out).2.2 x14_2 p751 q751;obtain rfl:ad749=ad751:=(by injection e751);replace p751:=eq_true p751;replace q751:=eq_true q751;have p752:0≤(x14_2:Int):=of_decide_eq_true asm;have q752:x14_2 < (t740.length:Int):=of_decide_eq_true asm;obtain ⟨ad752,e752,hx752_0,hx752_1,hx752_2⟩:=at_T61 (Kd.R_reads' HO_11.out).2.2 x14_2 p752 q752;obtain rfl:ad749=ad752:=(by injection e752);replace p752:=eq_true p752;replace q752:=eq_true q752;have p753:0≤(x14_2:Int):=of_decide_eq_true asm;have q753:x14_2 < (t732.length:Int):=of_decide_eq_true asm;obtain ⟨ad753,e753,hx753_0,hx753_1,hx753_2⟩:=at_T61 (Kd.R_reads' HO_7.out).2.2 x14_2 p753 q753;obtain rfl:ad748=ad753:=(by injection e753);replace p753:=eq_true p753;replace q753:=eq_true q753;obtain ⟨hcz32_0,hcz32_1,hfz32_0,hfz32_1⟩:=bz2 BK729.out;go_wp2;repeat (go_quiet (fail);try go_wp2)
            go_roundg k2
            case measure=>have:=HJ5.out;have:=HK2.out;omega
            case rel=>exact ⟨(wrap64 (x14_2+1)),rsd,H',⟨by have:=HJ5.out;have:=HK2.out;omega⟩,⟨by (with_reducible repeat (first | apply Kd.R_alloc | apply Kd.R_drewN | apply Kd.R_drew));exact HO_7.out⟩,⟨by (with_reducible repeat (first | apply Kd.R_alloc | apply Kd.R_drewN | apply Kd.R_drew));exact HO_11.out⟩,⟨bko⟩,⟨blw⟩⟩
           ·rw [if_neg c29] at H;obtain ⟨c29b0,c29b1⟩:=bqf c29;exact absurd (H.trans (congrArg some HRT.out)) (by simp)
          ·rw [if_neg c28] at H;obtain ⟨c28b0,c28b1⟩:=bqf c28;exact absurd (H.trans (congrArg some HRT.out)) (by simp)
         ·rw [if_neg c27] at H;obtain ⟨c27b0,c27b1⟩:=bqf c27;exact absurd (H.trans (congrArg some HRT.out)) (by simp)
        ·rw [if_neg c26] at H;exact absurd H (by simp)
       ·rw [if_neg c25] at H;exact absurd H (by simp)
      ·rw [if_neg c24] at H;have c24b0:=decide_eq_false c24;clear c24;obtain rfl:=Option.some.inj H;obtain ⟨Ao40,co40,eo40⟩:=Kd.R_slice HO_7.out;subst eo40;go_wp2;repeat (go_quiet (fail);try go_wp2)
       go_ret;exact ⟨rew,blw⟩
end Go.Proofs.YtffojmgmpfjlhaaGreatDoor.Q
namespace Go.Proofs.YtffojmgmpfjlhaaGreatDoor.Q
open Go.Proofs.Ix hiding rd
open Go.Proofs.YtffojmgmpfjlhaaGreatDoor Go.RowKit Go.Proofs.YtffojmgmpfjlhaaGreatDoorW.PrintWords
theorem same_self (l:List Int):lzsameBytes.f l l=some true:=by
 unfold lzsameBytes.f
 simp
def mvS (d:Int) (s:S61):S61:=⟨s.f0,s.f1+d,s.f2⟩
theorem symsZ_len (L:List (ByteArray × Nat)) (size:Nat) (a:Int):∀ fs,(symsZ L size a fs).length=fs.length
 | []=>rfl
 | s :: t=>by simp [symsZ,symsZ_len L size a t]
theorem symsZ_mv (L:List (ByteArray × Nat)) (size:Nat) (a b:Int):∀ fs,symsZ L size b fs=(symsZ L size a fs).map (mvS (b - a))
 | []=>rfl
 | s :: t=>by
  simp only [symsZ,List.map_cons,symsZ_mv L size a b t,mvS]
  rw [show a+(lookD L s:Int)+(b - a)=b+lookD L s by omega]
theorem rd_mv (l:List S61) (d:Int) (i:Nat) (h:i < l.length):rd_T61 (l.map (mvS d)) (i:Int)=mvS d (rd_T61 l (i:Int)):=by
 unfold rd_T61
 simp [List.getD,h]
theorem wrap_sub2 (x a b:Int):wrap64 (x+(b - a) - x)=wrap64 (wrap64 b - wrap64 a):=by
 simp only [wrap64]
 omega
theorem moved_l0 (l:List S61) (a b:Int) (hl:l.length≤1000):∀ (d i k:Nat),i+d=l.length→d < k→lzInsnMoved.l0 k true l (l.map (mvS (b - a))) (i:Int) a b=some true
 | 0,i,k,h1,h2=>by
  obtain ⟨k,rfl⟩:∃ m,k=m+1:=⟨k - 1,by omega⟩
  rw [lzInsnMoved.l0,if_neg (by omega)]
 | d+1,i,k,h1,h2=>by
  obtain ⟨k,rfl⟩:∃ m,k=m+1:=⟨k - 1,by omega⟩
  rw [lzInsnMoved.l0,if_pos (by omega),if_pos (by omega),if_pos (by rw [List.length_map];omega),rd_mv l _ i (by omega),if_pos (show ((rd_T61 l (i:Int)).f0).toList=((mvS (b - a) (rd_T61 l (i:Int))).f0).toList from rfl),if_pos (show (rd_T61 l (i:Int)).f2=(mvS (b - a) (rd_T61 l (i:Int))).f2 from rfl),
   if_pos (show wrap64 ((mvS (b - a) (rd_T61 l (i:Int))).f1 - (rd_T61 l (i:Int)).f1)=wrap64 (wrap64 b - wrap64 a) from wrap_sub2 _ a b),wrap_succ (by omega)]
  exact moved_l0 l a b hl d (i+1) k (by omega) (by omega)
theorem moved_j0 (l:List S61) (a b:Int) (hl:l.length≤1000):lzInsnMoved.j0 2000 true l (l.map (mvS (b - a))) ((l.length:Int) != ((l.map (mvS (b - a))).length:Int)) a b=some true:=by
 rw [List.length_map,show ((l.length:Int) != (l.length:Int))=false from bne_self_eq_false _]
 show lzInsnMoved.j0 (1999+1) _ _ _ _ _ _=_
 rw [lzInsnMoved.j0,if_neg (by decide)]
 exact moved_l0 l a b hl l.length 0 1999 (by omega) (by omega)
theorem wf32 {n:Int} (h:(Lit.int .u32 n).wf=true):0≤n∧n < 4294967296:=by
 have m1:IntKind.u32.min=0:=by decide
 have m2:IntKind.u32.max=4294967295:=by decide
 simp [Lit.wf,m1,m2] at h
 omega
theorem wrap32_64 {n:Int} (h:(Lit.int .u32 n).wf=true):wrap64 n=n:=by
 have:=wf32 h
 simp only [wrap64]
 omega
theorem InsnMoved_pure (text:ByteArray) (a b:Int) (ha:(Lit.int .u32 a).wf=true) (hb:(Lit.int .u32 b).wf=true):lzInsnMoved.f 2000 text a b=some true:=by
 have ba:=wf32 ha
 have bb:=wf32 hb
 have h0:lzInsnMoved.j0 2000 true [] [] ((([]:List S61).length:Int) != (([]:List S61).length:Int)) a b=some true:=moved_j0 [] a b (by decide)
 have ho:∀ x:Int,0≤x→x < 4294967296→asmOut text x=if 20000 < text.size then ([],[],0,2) else asmFin x (asmZ text):=by
  intro x h1 h2
  unfold asmOut
  rw [if_neg (show ¬ (x < 0∨1099511627776 < x) by omega)]
 unfold lzInsnMoved.f insn_Assemble.f
 rw [sane_true 1900,Option.bind_some,Option.bind_some,Option.bind_some,wrap32_64 ha,wrap32_64 hb,ho a ba.1 ba.2,ho b bb.1 bb.2]
 by_cases hlong:20000 < text.size
 ·rw [if_pos hlong,if_pos hlong,if_pos rfl,if_pos rfl,same_self,Option.bind_some,if_pos rfl]
  exact h0
 ·rw [if_neg hlong,if_neg hlong]
  cases hz:asmZ text with
  | error p =>
   obtain ⟨no,e⟩:=p
   unfold asmFin
   simp only
   rw [if_pos trivial,if_pos trivial,same_self,Option.bind_some,if_pos rfl]
   exact h0
  | ok p =>
   obtain ⟨l,z⟩:=p
   have hn:z.funcs.length≤32:=(asm_ok hz (by omega)).funcs
   unfold asmFin
   simp only
   rw [if_pos trivial,if_pos trivial,same_self,Option.bind_some,if_pos rfl,symsZ_mv z.labels z.size a b z.funcs]
   exact moved_j0 _ a b (by rw [symsZ_len];omega)
end Go.Proofs.YtffojmgmpfjlhaaGreatDoor.Q
namespace Go.Proofs.YtffojmgmpfjlhaaGreatDoor.Q
open Go.Proofs.YtffojmgmpfjlhaaGreatDoor Go.RowKit Go.Proofs.YtffojmgmpfjlhaaGreatDoorW.PrintWords Go.Proofs.YtffojmgmpfjlhaaGreatDoorW.PrintLast Go.Proofs.YtffojmgmpfjlhaaGreatDoorW.PrintMore
theorem moved_any (text:ByteArray) (a b:Int) (ha:(Lit.int .u32 a).wf=true) (hb:(Lit.int .u32 b).wf=true) (w:World) (hgw:GW w) :
  Calls Tryz.prog 10 #[.string text,.agg #[.int .u32 a,.int .u32 b]] w fun e w'=>e=.returned (.bool true)∧Below w.heap.size w w' :=
 lzInsnMoved.calls 2000 text a b true w (InsnMoved_pure text a b ha hb) hgw
end Go.Proofs.YtffojmgmpfjlhaaGreatDoor.Q
