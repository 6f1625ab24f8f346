/- Parts of the proof: InsnEncodes: Encode and Decode return what the specification returns: the law returns true for every input; the inputs read as they did; the package-level variables hold what the program's text lays in them: the tied card. -/
import Derived.Test.YtffojmgmpfjlhaaGreatDoorInsQ1
import Derived.Test.YtffojmgmpfjlhaaGreatDoorInsQ2
import Derived.Test.YtffojmgmpfjlhaaGreatDoorInsQ3
import Derived.Test.YtffojmgmpfjlhaaGreatDoorInsQ4
import Derived.Test.YtffojmgmpfjlhaaGreatDoorInsQ5
import Derived.Test.YtffojmgmpfjlhaaGreatDoorInsQ6
import Derived.Test.YtffojmgmpfjlhaaGreatDoorInsQ9
import Derived.Test.YtffojmgmpfjlhaaGreatDoorInsQ10
import Derived.Test.YtffojmgmpfjlhaaGreatDoorInsQ11
import Derived.Test.YtffojmgmpfjlhaaGreatDoorInsQ13
import Derived.Test.YtffojmgmpfjlhaaGreatDoorInsQ14
import Derived.Test.YtffojmgmpfjlhaaGreatDoorInsQ15
import Derived.Test.YtffojmgmpfjlhaaGreatDoorInsQ16
import Derived.Test.YtffojmgmpfjlhaaGreatDoorInsQ17
import Derived.Test.YtffojmgmpfjlhaaGreatDoorInsR1
import Derived.Test.YtffojmgmpfjlhaaGreatDoorInsR3
import Derived.Test.YtffojmgmpfjlhaaGreatDoorInsR4
import Derived.Test.YtffojmgmpfjlhaaGreatDoorInsnEncodesZ1
import Derived.Test.YtffojmgmpfjlhaaGreatDoorInsnEncodesZ2
set_option linter.unusedVariables false
set_option linter.unusedSimpArgs false
namespace Go.Proofs.YtffojmgmpfjlhaaGreatDoor.Q
open Go.Proofs.Ix hiding rd
open Go.Proofs.YtffojmgmpfjlhaaGreatDoor Go.RowKit Go.Proofs.YtffojmgmpfjlhaaGreatDoorW.PrintWords
theorem bytesOf_g (k:Nat) (f:Int) (h:1≤k):insn_bytesOf.f k f=some (bytesM f:Int):=by
 obtain ⟨k,rfl⟩:∃ m,k=m+1:=⟨k - 1,by omega⟩
 exact bytesOf_f k f
theorem bytes_in (f:Int):bytesM f=0∨bytesM f=1∨bytesM f=2∨bytesM f=10:=by
 unfold bytesM
 (repeat' split) <;> simp
theorem fits_f (f n:Int) (k:Nat) (hk:1≤k):insn_fits.f k f n=some (fitsM f n):=by
 unfold insn_fits.f fitsM
 by_cases h3:f=3
 ·rw [if_pos h3,if_pos h3]
 rw [if_neg h3,if_neg h3]
 by_cases h8:f=8
 ·rw [if_pos h8,if_pos h8]
  by_cases c:n≥0
  ·rw [if_pos c];simp;omega
  ·rw [if_neg c];simp;omega
 rw [if_neg h8,if_neg h8,bytesOf_g k f hk,Option.bind_some]
 have h10:bytesM f≠10:=fun h=>h3 (bytes_ten.2.1 h)
 rcases bytes_in f with e | e | e | e
 ·rw [e];simp
 ·rw [e]
  simp only [show ¬ (((1:Nat):Int)=0) by omega,show (((1:Nat):Int)=1) by omega,if_false,if_true,show ¬ ((1:Nat)=0) by omega]
  by_cases c:n≥-64
  ·rw [if_pos c];simp;omega
  ·rw [if_neg c];simp;omega
 ·rw [e]
  simp only [show ¬ (((2:Nat):Int)=0) by omega,show ¬ (((2:Nat):Int)=1) by omega,show (((2:Nat):Int)=2) by omega,if_false,if_true,show ¬ ((2:Nat)=0) by omega,show ¬ ((2:Nat)=1) by omega]
  by_cases c:n≥-8192
  ·rw [if_pos c];simp;omega
  ·rw [if_neg c];simp;omega
 ·exact absurd e h10
def chkD (op a b imm:Int):Int :=
 if nameM op=[] then 20
 else if 0≤a∧a≤7∧0≤b∧b≤7∧(hasA (formM op)=true∨a=0)∧(hasB (formM op)=true∨b=0)∧fitsM (formM op) imm=true then 0 else 20
theorem check_f (op a b imm:Int) (k:Nat) (hk:1≤k):insn_Check.f k op a b imm=some (chkD op a b imm):=by
 unfold insn_Check.f chkD insn_kindOf.f
 rw [Option.bind_some]
 by_cases c1:nameM op=[]
 ·rw [if_pos ((bS_nil _).2 c1),if_pos c1]
 rw [if_neg (fun h=>c1 ((bS_nil _).1 h)),if_neg c1]
 simp only [hasA_f,hasB_f,fits_f _ _ k hk,Option.bind_some]
 generalize hasA (formM op)=A
 generalize hasB (formM op)=B
 generalize fitsM (formM op) imm=F
 cases A <;> cases B <;> cases F <;> simp only [Bool.false_eq_true,if_true,if_false,true_or,false_or,and_true,and_false,true_and] <;> (repeat' split) <;> first | rfl | (exfalso;omega)
theorem rfits_f {p r:Int} (h:(p,r)∈FP) (n:Int) (k:Nat) (hk:12≤k):rzfits.f k r n=some (fitsM p n):=by
 obtain ⟨k,rfl⟩:∃ m,k=m+12:=⟨k - 12,by omega⟩
 unfold rzfits.f fitsM
 rw [opnd_any h,Option.bind_some]
 have h10:=fp_ten _ h
 have hb:=bytes_ten (f:=p)
 simp only at h10
 by_cases h8:p=8
 ·have h3:¬ p=3:=by omega
  rw [if_pos (h10.2 h8),if_neg h3,if_pos h8]
  by_cases c:n≥0
  ·rw [if_pos c,Option.some.injEq,Bool.eq_iff_iff];simp;omega
  ·rw [if_neg c];simp;omega
 rw [if_neg (fun e=>h8 (h10.1 e)),if_neg (show ¬ p=8 from h8)]
 simp only
 rcases bytes_in p with e | e | e | e
 ·have h3:¬ p=3:=fun h=>by have:=hb.2.2 h;omega
  rw [e,if_neg h3];simp
 ·have h3:¬ p=3:=fun h=>by have:=hb.2.2 h;omega
  rw [e,if_neg h3]
  simp only [show ¬ (((1:Nat):Int)=0) by omega,show (((1:Nat):Int)=1) by omega,if_false,if_true,show ¬ ((1:Nat)=0) by omega]
  by_cases c:n≥-64
  ·rw [if_pos c,Option.some.injEq,Bool.eq_iff_iff];simp;omega
  ·rw [if_neg c];simp;omega
 ·have h3:¬ p=3:=fun h=>by have:=hb.2.2 h;omega
  rw [e,if_neg h3]
  simp only [show ¬ ((2:Int)=1) by omega,show ((2:Int)=2) from rfl,show ¬ (((2:Nat):Int)=0) by omega,show ¬ (((2:Nat):Int)=1) by omega,show (((2:Nat):Int)=2) by omega,if_false,if_true,show ¬ ((2:Nat)=0) by omega,show ¬ ((2:Nat)=1) by omega]
  by_cases c:n≥-8192
  ·rw [if_pos c,Option.some.injEq,Bool.eq_iff_iff];simp;omega
  ·rw [if_neg c];simp;omega
 ·have h3:=hb.2.1 e
  rw [e,if_pos h3]
  rfl
theorem rcheck_f (op a b imm:Int) (k:Nat) (hk:30≤k):rzCheck.f k op a b imm=some (chkD op a b imm):=by
 obtain ⟨k,rfl⟩:∃ m,k=m+12:=⟨k - 12,by omega⟩
 obtain ⟨r,hf,hr⟩:=form_any op
 unfold rzCheck.f chkD
 rw [hf,Option.bind_some]
 rcases hr with ⟨hn,hr⟩ | ⟨hn,hr,hp⟩
 ·rw [if_pos hr,if_pos hn]
  show rzCheck.j0 (k+11+1) _ _ _ _ _ _=_
  rw [rzCheck.j0,if_pos rfl]
 rw [if_neg hr,if_neg hn,rfits_f hp imm _ (by omega),Option.bind_some]
 show rzCheck.j0 (k+11+1) _ _ _ _ _ _=_
 rw [rzCheck.j0,show k+11=(k - 1)+12 by omega,opnd_any hp,Option.bind_some]
 generalize hasA (formM op)=A
 generalize hasB (formM op)=B
 generalize fitsM (formM op) imm=F
 cases A <;> cases B <;> cases F <;> simp only [Bool.false_eq_true,if_true,if_false,true_or,false_or,and_true,and_false,true_and,Bool.not_true,Bool.not_false] <;> (repeat' split) <;> first | rfl | (exfalso;omega)
theorem groups_l0 (d:Nat):∀ (fuel i n:Nat) (x:List Int) (v:Int),i+d=n→n≤10→d < fuel→x.length+d < 1000000→rzgroups.l0 fuel x v (n:Int) (i:Int)=some (x ++ immI d v):=by
 induction d with
 | zero =>
  intro fuel i n x v h1 h2 h3 h4
  obtain ⟨k,rfl⟩:∃ k,fuel=k+1:=⟨fuel - 1,by omega⟩
  unfold rzgroups.l0
  rw [if_neg (by omega)]
  simp [immI]
 | succ d ih =>
  intro fuel i n x v h1 h2 h3 h4
  obtain ⟨k,rfl⟩:∃ k,fuel=k+1:=⟨fuel - 1,by omega⟩
  unfold rzgroups.l0
  rw [if_pos (by omega),if_pos (by omega),wrap_succ (by omega),ih k (i+1) n _ _ (by omega) h2 (by omega) (by simp;omega)]
  simp [immI]
theorem groups_f (x:List Int) (v:Int) (p:Int) (k:Nat) (hk:12≤k) (hx:x.length≤100):rzgroups.f k x v (bytesM p:Int)=some (x ++ immI (bytesM p) v):=by
 have:=(bytes_ten (f:=p)).1
 exact groups_l0 (bytesM p) k 0 (bytesM p) x v (by omega) this (by omega) (by omega)
theorem rencode_f (op a b imm:Int) (hn:nameM op≠[]) (k:Nat) (hk:30≤k):rzEncode.f k op a b imm=some (encI op a b imm):=by
 obtain ⟨k,rfl⟩:∃ m,k=m+12:=⟨k - 12,by omega⟩
 obtain ⟨r,hf,hr⟩:=form_any op
 rcases hr with ⟨h0,_⟩ | ⟨_,hr,hp⟩
 ·exact absurd h0 hn
 unfold rzEncode.f encI
 rw [hf,Option.bind_some,opnd_any hp,Option.bind_some,Option.bind_some]
 simp only
 by_cases cB:hasB (formM op)=true
 ·rw [if_pos cB,if_pos cB,if_pos (by simp),groups_f _ _ _ _ (by omega) (by simp),Option.bind_some]
  simp
 ·rw [if_neg cB,if_neg cB]
  by_cases cA:hasA (formM op)=true
  ·rw [if_pos cA,if_pos cA,if_pos (by simp),groups_f _ _ _ _ (by omega) (by simp),Option.bind_some]
   simp
  ·rw [if_neg cA,if_neg cA,groups_f _ _ _ _ (by omega) (by simp),Option.bind_some]
   simp
theorem encode_f (op a b imm:Int) (k:Nat):insn_Encode.f (k+20) op a b imm=some (if chkD op a b imm=0 then (encI op a b imm,0) else ([],chkD op a b imm)):=by
 unfold insn_Encode.f
 rw [check_f _ _ _ _ _ (by omega),Option.bind_some]
 by_cases c:chkD op a b imm=0
 ·rw [if_pos c,if_pos c,leO_up (f:=fun k=>insn_appended.f k [] op a b imm) (insn_appended.mono _ _ _ _ _) (appended_f [] op a b imm (by simp)) k,Option.bind_some]
  rfl
 ·rw [if_neg c,if_neg c]
theorem chk_name {op a b imm:Int} (h:chkD op a b imm=0):nameM op≠[]:=by
 intro hn
 unfold chkD at h
 rw [if_pos hn] at h
 exact absurd h (by decide)
end Go.Proofs.YtffojmgmpfjlhaaGreatDoor.Q
namespace Go.Proofs.YtffojmgmpfjlhaaGreatDoor.Q
open Go.Proofs.YtffojmgmpfjlhaaGreatDoor Go.RowKit Go.Proofs.YtffojmgmpfjlhaaGreatDoorW.PrintWords Go.Proofs.YtffojmgmpfjlhaaGreatDoorW.PrintLast Go.Proofs.YtffojmgmpfjlhaaGreatDoorW.PrintMore
attribute [local go_sem] max2_int min2_int max_two min_two max_three min_three max_four min_four
attribute [local go_sem high] eqA23
def lzInsnEncodes.j0:Nat→List Int→Bool→Bool→Option (Bool)
 | 0,_,_,_=>none
 | k+1,x1,x5,x41=>if x41=true then (some false) else ((insn_Decode.f k x1).bind fun bt384=>((rzDecode.f k x1).bind fun bt391=>(if x5=true then (if bt384.2.2.2.2.2=bt391.2.2.2.2.2 then (if (bt384.1 == bt391.1 && (bt384.2.1 == bt391.2.1 && (bt384.2.2.1 == bt391.2.2.1 && (bt384.2.2.2.1 == bt391.2.2.2.1))))=true then (some (bt384.2.2.2.2.1 == bt391.2.2.2.2.1)) else (some false)) else (some false)) else (some false))))
def lzInsnEncodes.f (k:Nat) (a0_0:Int) (a0_1:Int) (a0_2:Int) (a0_3:Int) (l1:List Int):Option (Bool):=(lzsane.f k).bind fun t374=>((insn_Encode.f k a0_0 a0_1 a0_2 a0_3).bind fun bt375=>((rzCheck.f k a0_0 a0_1 a0_2 a0_3).bind fun t379=>(if bt375.2=t379 then (if bt375.2=0 then ((rzEncode.f k a0_0 a0_1 a0_2 a0_3).bind fun t380=>((lzsameBytes.f bt375.1 t380).bind fun t383=>(if t383=true then (lzInsnEncodes.j0 k l1 t374 false) else (lzInsnEncodes.j0 k l1 t374 true)))) else (lzInsnEncodes.j0 k l1 t374 (decide ((bt375.1.length:Int) > 0)))) else (lzInsnEncodes.j0 k l1 t374 true))))
theorem lzInsnEncodes.mono_l:∀ k,(∀ y0 y1 y2,LeO (lzInsnEncodes.j0 k y0 y1 y2) (lzInsnEncodes.j0 (k+1) y0 y1 y2))
 | 0=>fun _ _ _ r h=>by simp [lzInsnEncodes.j0] at h
 | k+1=>by
  have ih0:=lzInsnEncodes.mono_l k
  ·intro y0 y1 y2;unfold lzInsnEncodes.j0;repeat' first
   | (with_reducible exact ih0 _ _ _)
   | (with_reducible exact insn_Decode.mono _ _)
   | (with_reducible exact insn_Encode.mono _ _ _ _ _)
   | (with_reducible exact lzsane.mono _)
   | (with_reducible exact rzCheck.mono _ _ _ _ _)
   | (with_reducible exact rzDecode.mono _ _)
   | (with_reducible exact rzEncode.mono _ _ _ _ _)
   | (with_reducible exact LeO.refl _)
   | (with_reducible exact LeO.none _)
   | (with_reducible refine LeO.ite ?_ ?_)
   | (with_reducible refine LeO.bind ?_ (fun _=>?_))
   | exact LeO.none _
   | refine LeO.ite ?_ ?_
   | refine LeO.bind ?_ (fun _=>?_)
theorem lzInsnEncodes.mono:∀ a0 a1 a2 a3 a4 k,LeO (lzInsnEncodes.f k a0 a1 a2 a3 a4) (lzInsnEncodes.f (k+1) a0 a1 a2 a3 a4):=by
 intro a0 a1 a2 a3 a4 k;have ih0:=lzInsnEncodes.mono_l k;unfold lzInsnEncodes.f;repeat' first
   | (with_reducible exact ih0 _ _ _)
   | (with_reducible exact insn_Decode.mono _ _)
   | (with_reducible exact insn_Encode.mono _ _ _ _ _)
   | (with_reducible exact lzsane.mono _)
   | (with_reducible exact rzCheck.mono _ _ _ _ _)
   | (with_reducible exact rzDecode.mono _ _)
   | (with_reducible exact rzEncode.mono _ _ _ _ _)
   | (with_reducible exact LeO.refl _)
   | (with_reducible exact LeO.none _)
   | (with_reducible refine LeO.ite ?_ ?_)
   | (with_reducible refine LeO.bind ?_ (fun _=>?_))
   | exact LeO.none _
   | refine LeO.ite ?_ ?_
   | refine LeO.bind ?_ (fun _=>?_)
set_option maxHeartbeats 8000000 in
set_option maxRecDepth 100000 in
theorem lzInsnEncodes.calls (k:Nat) (a0_0:Int) (a0_1:Int) (a0_2:Int) (a0_3:Int) (A1:Option Addr) (c1:Nat) (l1:List Int) (r:Bool) (w:World) (hr1:Kd.C (Kd.int .u8) w A1 l1.length l1) (hc1:l1.length≤c1) (h:lzInsnEncodes.f k a0_0 a0_1 a0_2 a0_3 l1=some r) (hgw:GW w) :
  Calls Tryz.prog 3 #[.agg #[.int .i64 a0_0,.int .i64 a0_1,.int .i64 a0_2,.int .i64 a0_3],.slice A1 l1.length c1] w fun e w'=>e=.returned (.bool r)∧Below w.heap.size w w':=by
 have hu23:=Tryz.underlying23;have hu35:=Tryz.underlying35;have HR1:=Aside0.mk hr1;have HC1:=Aside0.mk hc1;clear hr1 hc1;have HB:=Aside0.mk (Below.refl w.heap.size w);have H:((lzsane.f k).bind fun t374=>((insn_Encode.f k a0_0 a0_1 a0_2 a0_3).bind fun bt375=>((rzCheck.f k a0_0 a0_1 a0_2 a0_3).bind fun t379=>(if bt375.2=t379 then (if bt375.2=0 then ((rzEncode.f k a0_0 a0_1 a0_2 a0_3).bind fun t380=>((lzsameBytes.f bt375.1 t380).bind fun t383=>(if t383=true then (lzInsnEncodes.j0 k l1 t374 false) else (lzInsnEncodes.j0 k l1 t374 true)))) else (lzInsnEncodes.j0 k l1 t374 (decide ((bt375.1.length:Int) > 0)))) else (lzInsnEncodes.j0 k l1 t374 true)))))=some r:=h;clear h;replace H:=Option.bind_eq_some_iff.mp H;obtain ⟨t374,A30,H⟩:=H;replace H:((insn_Encode.f k a0_0 a0_1 a0_2 a0_3).bind fun bt375=>((rzCheck.f k a0_0 a0_1 a0_2 a0_3).bind fun t379=>(if bt375.2=t379 then (if bt375.2=0 then ((rzEncode.f k a0_0 a0_1 a0_2 a0_3).bind fun t380=>((lzsameBytes.f bt375.1 t380).bind fun t383=>(if t383=true then (lzInsnEncodes.j0 k l1 t374 false) else (lzInsnEncodes.j0 k l1 t374 true)))) else (lzInsnEncodes.j0 k l1 t374 (decide ((bt375.1.length:Int) > 0)))) else (lzInsnEncodes.j0 k l1 t374 true))))=some r:=H;have A3:=Aside0.mk A30;clear A30;replace H:=Option.bind_eq_some_iff.mp H;obtain ⟨⟨t375,t378⟩,A40,H⟩:=H;replace H:((rzCheck.f k a0_0 a0_1 a0_2 a0_3).bind fun t379=>(if t378=t379 then (if t378=0 then ((rzEncode.f k a0_0 a0_1 a0_2 a0_3).bind fun t380=>((lzsameBytes.f t375 t380).bind fun t383=>(if t383=true then (lzInsnEncodes.j0 k l1 t374 false) else (lzInsnEncodes.j0 k l1 t374 true)))) else (lzInsnEncodes.j0 k l1 t374 (decide ((t375.length:Int) > 0)))) else (lzInsnEncodes.j0 k l1 t374 true)))=some r:=H;have A4:=Aside0.mk A40;clear A40;have HC5:=Aside0.mk H;clear H;go_enter Tryz.func3,Tryz.ntmps3
 go_upto_region 3 with (first | ((with_reducible refine gate_dst (N:=2) rfl ?_);(try (refine gate_guard (by rfl) ?_;dsimp only));refine box_event ?hg (N:=2) ?hd (cs:=#[.int .i64 a0_0,.int .i64 a0_1,.int .i64 a0_2,.int .i64 a0_3]) (t:=23) ?hr ?_;(case hd=>rfl);(case hg=>rfl);(case hr=>first | (go_simp;done) | (go_simp;rfl));intro gb373 hg w6 hbox hb;have n0_:=Aside0.mk (below_step blw hb);have n1_:=Aside0.mk (hbox);have n2_:=Aside0.mk ((by rw [hg];exact (below_size blw):w.heap.size≤gb373));have n3_:=Aside0.mk ((by rw [hg];exact (below_size blw):w.heap.size≤gb373));clear HB;have HB:=n0_;have BK373:=n1_;have GW373:=n2_;have GE373:=n3_;clear n0_ n1_ n2_ n3_;clear hb hbox hg) | ((with_reducible refine gate_callee (f:=17) rfl ?_);refine goesL_ (some 12) rfl rfl Tryz.func17 (by kernel_rfl) rfl #[] rfl fq ?_;(with_reducible refine (lzsane.calls k  t374 _ A3.out (by (first | exact hgw | exact hgw.below (by repeat (first | (with_reducible first | exact HB.out | apply below_alloc | apply pw_below_drewN | apply below_drew1 | refine below_set ?_ (by first | assumption | exact Aside0.out (by assumption))) | exact HB.out)) (Nat.le_refl _)))).mono ?_);rintro e w7 ⟨rfl,hb⟩;refine ⟨_,rfl,?_⟩;have n0_:=Aside0.mk (blk_below (g:=gb373) (o:=.cells #[.int .i64 a0_0,.int .i64 a0_1,.int .i64 a0_2,.int .i64 a0_3] 23 (0,0)) bko hb);have n1_:=Aside0.mk (below_step blw hb);clear BK373;clear HB;have BK373:=n0_;have HB:=n1_;clear n0_ n1_;(try clear hb);(try clear hb2);(try clear hk);(try clear hi);have hcz8_0:w7.cell? ⟨gb373,0,none⟩=some (.int .i64 a0_0):=(blk_cell BK373.out 0).trans rfl;have hcz8_1:w7.cell? ⟨gb373,1,none⟩=some (.int .i64 a0_1):=(blk_cell BK373.out 1).trans rfl;have hcz8_2:w7.cell? ⟨gb373,2,none⟩=some (.int .i64 a0_2):=(blk_cell BK373.out 2).trans rfl;have hcz8_3:w7.cell? ⟨gb373,3,none⟩=some (.int .i64 a0_3):=(blk_cell BK373.out 3).trans rfl;have hfz8_0:=blk_frozen BK373.out 0;have hfz8_1:=blk_frozen BK373.out 1;have hfz8_2:=blk_frozen BK373.out 2;have hfz8_3:=blk_frozen BK373.out 3) | ((with_reducible refine gate_callee (f:=18) rfl ?_);refine goesL_ (some 15) rfl rfl Tryz.func18 (by kernel_rfl) rfl #[.agg #[.int .i64 a0_0,.int .i64 a0_1,.int .i64 a0_2,.int .i64 a0_3]] rfl fq ?_;(with_reducible refine (insn_Encode.calls k a0_0 a0_1 a0_2 a0_3 t375 t378 _ A4.out (by (first | exact hgw | exact hgw.below (by repeat (first | (with_reducible first | exact HB.out | apply below_alloc | apply pw_below_drewN | apply below_drew1 | refine below_set ?_ (by first | assumption | exact Aside0.out (by assumption))) | exact HB.out)) (Nat.le_refl _)))).mono ?_);rintro e w9 ⟨v376,rfl,ho0,hb⟩;refine ⟨_,rfl,?_⟩;have n0_:=Aside0.mk (Kd.R_lower ho0 (below_size blw));have n1_:=Aside0.mk (blk_below (g:=gb373) (o:=.cells #[.int .i64 a0_0,.int .i64 a0_1,.int .i64 a0_2,.int .i64 a0_3] 23 (0,0)) bko hb);have n2_:=Aside0.mk (below_step blw hb);clear BK373;clear HB;have HO377:=n0_;have BK373:=n1_;have HB:=n2_;clear n0_ n1_ n2_;(try clear hb);(try clear hb2);(try clear hk);(try clear hi);(try clear ho0)))
 (try simp only [Act.put,List.setIfInBounds_toArray,List.set_cons_zero,List.set_cons_succ]);go_cut [41] (fun v41 wc=>∃ (kq:Nat) (x41_4:Bool),v41=.bool x41_4∧Aside0 (lzInsnEncodes.j0 kq l1 t374 x41_4=some r)∧Aside0 (kq≤k)∧Aside0 (wc.heap[gb373]?=some (.cells #[.int .i64 a0_0,.int .i64 a0_1,.int .i64 a0_2,.int .i64 a0_3] 23 (0,0)))∧Aside0 (Below w.heap.size w wc))
 case first =>
  have H:=HC5.out;clear HC5;replace H:=Option.bind_eq_some_iff.mp H;obtain ⟨t379,A100,H⟩:=H;replace H:(if t378=t379 then (if t378=0 then ((rzEncode.f k a0_0 a0_1 a0_2 a0_3).bind fun t380=>((lzsameBytes.f t375 t380).bind fun t383=>(if t383=true then (lzInsnEncodes.j0 k l1 t374 false) else (lzInsnEncodes.j0 k l1 t374 true)))) else (lzInsnEncodes.j0 k l1 t374 (decide ((t375.length:Int) > 0)))) else (lzInsnEncodes.j0 k l1 t374 true))=some r:=H;have A10:=Aside0.mk A100;clear A100;by_cases c11:t378=t379
  ·rw [if_pos c11] at H;have c11b0:(t378 == t379)=true:=beq_iff_eq.mpr c11;have c11b1:(t378 != t379)=false:=bne_eq_false_iff_eq.mpr c11;clear c11;(first | rw [c11b0] | (simp only [i64_w,i32_w];rw [c11b0]) | skip);by_cases c12:t378=0
   ·rw [if_pos c12] at H;have c12b0:(t378 == 0)=true:=beq_iff_eq.mpr c12;have c12b1:(t378 != 0)=false:=bne_eq_false_iff_eq.mpr c12;clear c12;replace H:=Option.bind_eq_some_iff.mp H;obtain ⟨t380,A130,H⟩:=H;replace H:((lzsameBytes.f t375 t380).bind fun t383=>(if t383=true then (lzInsnEncodes.j0 k l1 t374 false) else (lzInsnEncodes.j0 k l1 t374 true)))=some r:=H;have A13:=Aside0.mk A130;clear A130;replace H:=Option.bind_eq_some_iff.mp H;obtain ⟨t383,A140,H⟩:=H;replace H:(if t383=true then (lzInsnEncodes.j0 k l1 t374 false) else (lzInsnEncodes.j0 k l1 t374 true))=some r:=H;have A14:=Aside0.mk A140;clear A140;by_cases c15:t383=true
    ·subst c15;have H1:(lzInsnEncodes.j0 k l1 t374 false)=some r:=by rw [if_pos rfl] at H;exact H
     clear H;have H:=H1;clear H1;have H':=Aside0.mk H;clear H;have hcz16_0:w9.cell? ⟨gb373,0,none⟩=some (.int .i64 a0_0):=(blk_cell BK373.out 0).trans rfl;have hcz16_1:w9.cell? ⟨gb373,1,none⟩=some (.int .i64 a0_1):=(blk_cell BK373.out 1).trans rfl;have hcz16_2:w9.cell? ⟨gb373,2,none⟩=some (.int .i64 a0_2):=(blk_cell BK373.out 2).trans rfl;have hcz16_3:w9.cell? ⟨gb373,3,none⟩=some (.int .i64 a0_3):=(blk_cell BK373.out 3).trans rfl;have hfz16_0:=blk_frozen BK373.out 0;have hfz16_1:=blk_frozen BK373.out 1;have hfz16_2:=blk_frozen BK373.out 2;have hfz16_3:=blk_frozen BK373.out 3;go_wp2_with (first | ((with_reducible refine gate_callee (f:=19) rfl ?_);refine goesL_ (some 20) rfl rfl Tryz.func19 (by kernel_rfl) rfl #[.agg #[.int .i64 a0_0,.int .i64 a0_1,.int .i64 a0_2,.int .i64 a0_3]] rfl fq ?_;(with_reducible refine (rzCheck.calls k a0_0 a0_1 a0_2 a0_3 t379 _ A10.out).mono ?_);rintro e w17 ⟨rfl,hb⟩;refine ⟨_,rfl,?_⟩;have n0_:=Aside0.mk (Kd.R_below (by (with_reducible repeat (first | apply Kd.R_alloc | apply Kd.R_drewN | apply Kd.R_drew));exact HO377.out) hb);have n1_:=Aside0.mk (blk_below (g:=gb373) (o:=.cells #[.int .i64 a0_0,.int .i64 a0_1,.int .i64 a0_2,.int .i64 a0_3] 23 (0,0)) bko hb);have n2_:=Aside0.mk (below_step blw hb);clear HO377;clear BK373;clear HB;have HO377:=n0_;have BK373:=n1_;have HB:=n2_;clear n0_ n1_ n2_;(try clear hb);(try clear hb2);(try clear hk);(try clear hi);have hcz18_0:w17.cell? ⟨gb373,0,none⟩=some (.int .i64 a0_0):=(blk_cell BK373.out 0).trans rfl;have hcz18_1:w17.cell? ⟨gb373,1,none⟩=some (.int .i64 a0_1):=(blk_cell BK373.out 1).trans rfl;have hcz18_2:w17.cell? ⟨gb373,2,none⟩=some (.int .i64 a0_2):=(blk_cell BK373.out 2).trans rfl;have hcz18_3:w17.cell? ⟨gb373,3,none⟩=some (.int .i64 a0_3):=(blk_cell BK373.out 3).trans rfl;have hfz18_0:=blk_frozen BK373.out 0;have hfz18_1:=blk_frozen BK373.out 1;have hfz18_2:=blk_frozen BK373.out 2;have hfz18_3:=blk_frozen BK373.out 3) | (go_at_call 21;(with_reducible refine (rzEncode.calls k a0_0 a0_1 a0_2 a0_3 t380 _ A13.out).mono ?_);rintro e w19 ⟨v381,rfl,ho0,hb⟩;have n0_:=Aside0.mk (Kd.R_elder' (by (with_reducible repeat (first | apply Kd.R_alloc | apply Kd.R_drewN | apply Kd.R_drew));exact HO377.out) (Kd.R_base ho0) hb);have n1_:=Aside0.mk (Kd.R_lower (Kd.R_new' ho0 (Kd.R_lt (by (with_reducible repeat (first | apply Kd.R_alloc | apply Kd.R_drewN | apply Kd.R_drew));exact HO377.out))) (below_size blw));have n2_:=Aside0.mk (blk_below (g:=gb373) (o:=.cells #[.int .i64 a0_0,.int .i64 a0_1,.int .i64 a0_2,.int .i64 a0_3] 23 (0,0)) bko hb);have n3_:=Aside0.mk (below_step blw hb);clear HO377;clear BK373;clear HB;have HO377:=n0_;have HO382:=n1_;have BK373:=n2_;have HB:=n3_;clear n0_ n1_ n2_ n3_;(try clear hb);(try clear hb2);(try clear hk);(try clear hi);(try clear ho0);obtain ⟨Ao20,co20,eo20⟩:=Kd.R_slice HO377.out;subst eo20;obtain ⟨Ao21,co21,eo21⟩:=Kd.R_slice HO382.out;subst eo21) | (go_at_call 20;(with_reducible refine (lzsameBytes.calls _ _ t375 _ _ t380 true _ ?side1 ?side2 ?side3 ?side4 A14.out).mono ?_);(case side1=>repeat (first | exact (Kd.R_reads' HO377.out).2.2 | (with_reducible refine Kd.C_alloc ?_ _) | (with_reducible refine Kd.C_drewN ?_ _) | (with_reducible refine Kd.C_drew ?_)));(case side2=>exact (Kd.R_reads' HO377.out).2.1);(case side3=>repeat (first | exact (Kd.R_reads' HO382.out).2.2 | (with_reducible refine Kd.C_alloc ?_ _) | (with_reducible refine Kd.C_drewN ?_ _) | (with_reducible refine Kd.C_drew ?_)));(case side4=>exact (Kd.R_reads' HO382.out).2.1);rintro e w' ⟨rfl,⟨nd,rfl⟩⟩))
     go_meet
     case rel=>exact ⟨_,(false),rsd,H',⟨by first | omega | exact Nat.le_refl _⟩,⟨bko⟩,⟨blw⟩⟩
    ·replace c15:=Bool.eq_false_iff.mpr c15;subst c15;have H1:(lzInsnEncodes.j0 k l1 t374 true)=some r:=by rw [if_neg (show ¬ (false=true) by decide)] at H;exact H
     clear H;have H:=H1;clear H1;have H':=Aside0.mk H;clear H;have hcz22_0:w9.cell? ⟨gb373,0,none⟩=some (.int .i64 a0_0):=(blk_cell BK373.out 0).trans rfl;have hcz22_1:w9.cell? ⟨gb373,1,none⟩=some (.int .i64 a0_1):=(blk_cell BK373.out 1).trans rfl;have hcz22_2:w9.cell? ⟨gb373,2,none⟩=some (.int .i64 a0_2):=(blk_cell BK373.out 2).trans rfl;have hcz22_3:w9.cell? ⟨gb373,3,none⟩=some (.int .i64 a0_3):=(blk_cell BK373.out 3).trans rfl;have hfz22_0:=blk_frozen BK373.out 0;have hfz22_1:=blk_frozen BK373.out 1;have hfz22_2:=blk_frozen BK373.out 2;have hfz22_3:=blk_frozen BK373.out 3;go_wp2_with (first | ((with_reducible refine gate_callee (f:=19) rfl ?_);refine goesL_ (some 20) rfl rfl Tryz.func19 (by kernel_rfl) rfl #[.agg #[.int .i64 a0_0,.int .i64 a0_1,.int .i64 a0_2,.int .i64 a0_3]] rfl fq ?_;(with_reducible refine (rzCheck.calls k a0_0 a0_1 a0_2 a0_3 t379 _ A10.out).mono ?_);rintro e w23 ⟨rfl,hb⟩;refine ⟨_,rfl,?_⟩;have n0_:=Aside0.mk (Kd.R_below (by (with_reducible repeat (first | apply Kd.R_alloc | apply Kd.R_drewN | apply Kd.R_drew));exact HO377.out) hb);have n1_:=Aside0.mk (blk_below (g:=gb373) (o:=.cells #[.int .i64 a0_0,.int .i64 a0_1,.int .i64 a0_2,.int .i64 a0_3] 23 (0,0)) bko hb);have n2_:=Aside0.mk (below_step blw hb);clear HO377;clear BK373;clear HB;have HO377:=n0_;have BK373:=n1_;have HB:=n2_;clear n0_ n1_ n2_;(try clear hb);(try clear hb2);(try clear hk);(try clear hi);have hcz24_0:w23.cell? ⟨gb373,0,none⟩=some (.int .i64 a0_0):=(blk_cell BK373.out 0).trans rfl;have hcz24_1:w23.cell? ⟨gb373,1,none⟩=some (.int .i64 a0_1):=(blk_cell BK373.out 1).trans rfl;have hcz24_2:w23.cell? ⟨gb373,2,none⟩=some (.int .i64 a0_2):=(blk_cell BK373.out 2).trans rfl;have hcz24_3:w23.cell? ⟨gb373,3,none⟩=some (.int .i64 a0_3):=(blk_cell BK373.out 3).trans rfl;have hfz24_0:=blk_frozen BK373.out 0;have hfz24_1:=blk_frozen BK373.out 1;have hfz24_2:=blk_frozen BK373.out 2;have hfz24_3:=blk_frozen BK373.out 3) | (go_at_call 21;(with_reducible refine (rzEncode.calls k a0_0 a0_1 a0_2 a0_3 t380 _ A13.out).mono ?_);rintro e w25 ⟨v381,rfl,ho0,hb⟩;have n0_:=Aside0.mk (Kd.R_elder' (by (with_reducible repeat (first | apply Kd.R_alloc | apply Kd.R_drewN | apply Kd.R_drew));exact HO377.out) (Kd.R_base ho0) hb);have n1_:=Aside0.mk (Kd.R_lower (Kd.R_new' ho0 (Kd.R_lt (by (with_reducible repeat (first | apply Kd.R_alloc | apply Kd.R_drewN | apply Kd.R_drew));exact HO377.out))) (below_size blw));have n2_:=Aside0.mk (blk_below (g:=gb373) (o:=.cells #[.int .i64 a0_0,.int .i64 a0_1,.int .i64 a0_2,.int .i64 a0_3] 23 (0,0)) bko hb);have n3_:=Aside0.mk (below_step blw hb);clear HO377;clear BK373;clear HB;have HO377:=n0_;have HO382:=n1_;have BK373:=n2_;have HB:=n3_;clear n0_ n1_ n2_ n3_;(try clear hb);(try clear hb2);(try clear hk);(try clear hi);(try clear ho0);obtain ⟨Ao26,co26,eo26⟩:=Kd.R_slice HO377.out;subst eo26;obtain ⟨Ao27,co27,eo27⟩:=Kd.R_slice HO382.out;subst eo27) | (go_at_call 20;(with_reducible refine (lzsameBytes.calls _ _ t375 _ _ t380 false _ ?side1 ?side2 ?side3 ?side4 A14.out).mono ?_);(case side1=>repeat (first | exact (Kd.R_reads' HO377.out).2.2 | (with_reducible refine Kd.C_alloc ?_ _) | (with_reducible refine Kd.C_drewN ?_ _) | (with_reducible refine Kd.C_drew ?_)));(case side2=>exact (Kd.R_reads' HO377.out).2.1);(case side3=>repeat (first | exact (Kd.R_reads' HO382.out).2.2 | (with_reducible refine Kd.C_alloc ?_ _) | (with_reducible refine Kd.C_drewN ?_ _) | (with_reducible refine Kd.C_drew ?_)));(case side4=>exact (Kd.R_reads' HO382.out).2.1);rintro e w' ⟨rfl,⟨nd,rfl⟩⟩))
     go_meet
     case rel=>exact ⟨_,(true),rsd,H',⟨by first | omega | exact Nat.le_refl _⟩,⟨bko⟩,⟨blw⟩⟩
   ·rw [if_neg c12] at H;have c12b0:(t378 == 0)=false:=beq_eq_false_iff_ne.mpr c12;have c12b1:(t378 != 0)=true:=bne_iff_ne.mpr c12;have H':=Aside0.mk H;clear H;have hcz28_0:w9.cell? ⟨gb373,0,none⟩=some (.int .i64 a0_0):=(blk_cell BK373.out 0).trans rfl;have hcz28_1:w9.cell? ⟨gb373,1,none⟩=some (.int .i64 a0_1):=(blk_cell BK373.out 1).trans rfl;have hcz28_2:w9.cell? ⟨gb373,2,none⟩=some (.int .i64 a0_2):=(blk_cell BK373.out 2).trans rfl;have hcz28_3:w9.cell? ⟨gb373,3,none⟩=some (.int .i64 a0_3):=(blk_cell BK373.out 3).trans rfl;have hfz28_0:=blk_frozen BK373.out 0;have hfz28_1:=blk_frozen BK373.out 1;have hfz28_2:=blk_frozen BK373.out 2;have hfz28_3:=blk_frozen BK373.out 3;go_wp2_with (first | ((with_reducible refine gate_callee (f:=19) rfl ?_);refine goesL_ (some 20) rfl rfl Tryz.func19 (by kernel_rfl) rfl #[.agg #[.int .i64 a0_0,.int .i64 a0_1,.int .i64 a0_2,.int .i64 a0_3]] rfl fq ?_;(with_reducible refine (rzCheck.calls k a0_0 a0_1 a0_2 a0_3 t379 _ A10.out).mono ?_);rintro e w29 ⟨rfl,hb⟩;refine ⟨_,rfl,?_⟩;have n0_:=Aside0.mk (Kd.R_below (by (with_reducible repeat (first | apply Kd.R_alloc | apply Kd.R_drewN | apply Kd.R_drew));exact HO377.out) hb);have n1_:=Aside0.mk (blk_below (g:=gb373) (o:=.cells #[.int .i64 a0_0,.int .i64 a0_1,.int .i64 a0_2,.int .i64 a0_3] 23 (0,0)) bko hb);have n2_:=Aside0.mk (below_step blw hb);clear HO377;clear BK373;clear HB;have HO377:=n0_;have BK373:=n1_;have HB:=n2_;clear n0_ n1_ n2_;(try clear hb);(try clear hb2);(try clear hk);(try clear hi);obtain ⟨Ao30,co30,eo30⟩:=Kd.R_slice HO377.out;subst eo30))
    go_meet
    case rel=>exact ⟨_,(decide ((t375.length:Int) > 0)),rsd,H',⟨by first | omega | exact Nat.le_refl _⟩,⟨bko⟩,⟨blw⟩⟩
  ·rw [if_neg c11] at H;have c11b0:(t378 == t379)=false:=beq_eq_false_iff_ne.mpr c11;have c11b1:(t378 != t379)=true:=bne_iff_ne.mpr c11;(first | rw [c11b0] | (simp only [i64_w,i32_w];rw [c11b0]) | skip);have H':=Aside0.mk H;clear H;have hcz31_0:w9.cell? ⟨gb373,0,none⟩=some (.int .i64 a0_0):=(blk_cell BK373.out 0).trans rfl;have hcz31_1:w9.cell? ⟨gb373,1,none⟩=some (.int .i64 a0_1):=(blk_cell BK373.out 1).trans rfl;have hcz31_2:w9.cell? ⟨gb373,2,none⟩=some (.int .i64 a0_2):=(blk_cell BK373.out 2).trans rfl;have hcz31_3:w9.cell? ⟨gb373,3,none⟩=some (.int .i64 a0_3):=(blk_cell BK373.out 3).trans rfl;have hfz31_0:=blk_frozen BK373.out 0;have hfz31_1:=blk_frozen BK373.out 1;have hfz31_2:=blk_frozen BK373.out 2;have hfz31_3:=blk_frozen BK373.out 3;go_wp2_with (first | ((with_reducible refine gate_callee (f:=19) rfl ?_);refine goesL_ (some 20) rfl rfl Tryz.func19 (by kernel_rfl) rfl #[.agg #[.int .i64 a0_0,.int .i64 a0_1,.int .i64 a0_2,.int .i64 a0_3]] rfl fq ?_;(with_reducible refine (rzCheck.calls k a0_0 a0_1 a0_2 a0_3 t379 _ A10.out).mono ?_);rintro e w32 ⟨rfl,hb⟩;refine ⟨_,rfl,?_⟩;have n0_:=Aside0.mk (Kd.R_below (by (with_reducible repeat (first | apply Kd.R_alloc | apply Kd.R_drewN | apply Kd.R_drew));exact HO377.out) hb);have n1_:=Aside0.mk (blk_below (g:=gb373) (o:=.cells #[.int .i64 a0_0,.int .i64 a0_1,.int .i64 a0_2,.int .i64 a0_3] 23 (0,0)) bko hb);have n2_:=Aside0.mk (below_step blw hb);clear HO377;clear BK373;clear HB;have HO377:=n0_;have BK373:=n1_;have HB:=n2_;clear n0_ n1_ n2_;(try clear hb);(try clear hb2);(try clear hk);(try clear hi)))
   go_meet
   case rel=>exact ⟨_,(true),rsd,H',⟨by first | omega | exact Nat.le_refl _⟩,⟨bko⟩,⟨blw⟩⟩
 case rest =>
  clear HC5;try clear c1
  try clear p2
  try clear c3
  try clear c11
  try clear c11b0
  try clear c11b1
  try clear c12
  try clear c12b0
  try clear c12b1
  try clear c15
  try clear c17
  try clear c18
  try clear c19
  try clear hcz16_0
  try clear hcz16_1
  try clear hcz16_2
  try clear hcz16_3
  try clear hcz18_0
  try clear hcz18_1
  try clear hcz18_2
  try clear hcz18_3
  try clear hcz22_0
  try clear hcz22_1
  try clear hcz22_2
  try clear hcz22_3
  try clear hcz24_0
  try clear hcz24_1
  try clear hcz24_2
  try clear hcz24_3
  try clear hcz28_0
  try clear hcz28_1
  try clear hcz28_2
  try clear hcz28_3
  try clear hcz31_0
  try clear hcz31_1
  try clear hcz31_2
  try clear hcz31_3
  try clear hcz8_0
  try clear hcz8_1
  try clear hcz8_2
  try clear hcz8_3
  try clear hfz16_0
  try clear hfz16_1
  try clear hfz16_2
  try clear hfz16_3
  try clear hfz18_0
  try clear hfz18_1
  try clear hfz18_2
  try clear hfz18_3
  try clear hfz22_0
  try clear hfz22_1
  try clear hfz22_2
  try clear hfz22_3
  try clear hfz24_0
  try clear hfz24_1
  try clear hfz24_2
  try clear hfz24_3
  try clear hfz28_0
  try clear hfz28_1
  try clear hfz28_2
  try clear hfz28_3
  try clear hfz31_0
  try clear hfz31_1
  try clear hfz31_2
  try clear hfz31_3
  try clear hfz8_0
  try clear hfz8_1
  try clear hfz8_2
  try clear hfz8_3
  obtain ⟨kq,x41_4,rfl,HA,HJ4,BK373,HB⟩:=hcut;cases kq with
  | zero=>exact absurd HA.out (by simp [lzInsnEncodes.j0])
  | succ kj4 =>
   have H:=HA.out;clear HA;simp only [lzInsnEncodes.j0] at H;by_cases c33:x41_4=true
   ·subst c33;have H1:(some false)=some r:=by rw [if_pos rfl] at H;exact H
    clear H;have H:=H1;clear H1;obtain rfl:=Option.some.inj H;go_wp2;go_ret;exact ⟨rew,blw⟩
   ·replace c33:=Bool.eq_false_iff.mpr c33;subst c33;have H1:((insn_Decode.f kj4 l1).bind fun bt384=>((rzDecode.f kj4 l1).bind fun bt391=>(if t374=true then (if bt384.2.2.2.2.2=bt391.2.2.2.2.2 then (if (bt384.1 == bt391.1 && (bt384.2.1 == bt391.2.1 && (bt384.2.2.1 == bt391.2.2.1 && (bt384.2.2.2.1 == bt391.2.2.2.1))))=true then (some (bt384.2.2.2.2.1 == bt391.2.2.2.2.1)) else (some false)) else (some false)) else (some false))))=some r:=by rw [if_neg (show ¬ (false=true) by decide)] at H;exact H
    clear H;have H:=H1;clear H1;replace H:=Option.bind_eq_some_iff.mp H;obtain ⟨⟨t384,t385,t386,t387,t388,t389⟩,A340,H⟩:=H;replace H:((rzDecode.f kj4 l1).bind fun bt391=>(if t374=true then (if t389=bt391.2.2.2.2.2 then (if (t384 == bt391.1 && (t385 == bt391.2.1 && (t386 == bt391.2.2.1 && (t387 == bt391.2.2.2.1))))=true then (some (t388 == bt391.2.2.2.2.1)) else (some false)) else (some false)) else (some false)))=some r:=H;have A34:=Aside0.mk A340;clear A340;replace H:=Option.bind_eq_some_iff.mp H;obtain ⟨⟨t391,t392,t393,t394,t395,t396⟩,A350,H⟩:=H;replace H:(if t374=true then (if t389=t396 then (if (t384 == t391 && (t385 == t392 && (t386 == t393 && (t387 == t394))))=true then (some (t388 == t395)) else (some false)) else (some false)) else (some false))=some r:=H;have A35:=Aside0.mk A350;clear A350;by_cases c36:t374=true
    ·subst c36;have H1:(if t389=t396 then (if (t384 == t391 && (t385 == t392 && (t386 == t393 && (t387 == t394))))=true then (some (t388 == t395)) else (some false)) else (some false))=some r:=by rw [if_pos rfl] at H;exact H
     clear H;have H:=H1;clear H1;by_cases c37:t389=t396
     ·rw [if_pos c37] at H;have c37b0:(t389 == t396)=true:=beq_iff_eq.mpr c37;have c37b1:(t389 != t396)=false:=bne_eq_false_iff_eq.mpr c37;clear c37;by_cases c38:(t384 == t391 && (t385 == t392 && (t386 == t393 && (t387 == t394))))=true
      ·rw [if_pos c38] at H;have c38b0:(t384 == t391 && (t385 == t392 && (t386 == t393 && (t387 == t394))))=true:=c38;(try (have c38b1:decide (t384=t391 && (t385 == t392 && (t386 == t393 && (t387 == t394))))=true:=by simpa using c38));(try (have c38b2:(t384 == t391 && (t385 == t392 && (t386 == t393 && (t387 == t394))))=true:=by simpa using c38));clear c38;obtain rfl:=Option.some.inj H;go_wp2_with (first | ((with_reducible refine gate_callee (f:=22) rfl ?_);refine goesL_ (some 44) rfl rfl Tryz.func22 (by kernel_rfl) rfl #[.slice A1 l1.length c1] rfl fq ?_;(with_reducible refine (insn_Decode.calls kj4 (fun k_=>k_ < w.heap.size) _ _ l1 t384 t385 t386 t387 t388 t389 _ ?side1 A34.out (by (first | exact hgw | exact hgw.below (by repeat (first | (with_reducible first | exact HB.out | apply below_alloc | apply pw_below_drewN | apply below_drew1 | refine below_set ?_ (by first | assumption | exact Aside0.out (by assumption))) | exact HB.out)) (Nat.le_refl _)))).mono ?_);(case side1=>exact Kd.V_mk HC1.out (Kd.F_below (Kd.C_F (Kd.heap_int .u8) HR1.out) blw));rintro e w39 ⟨rfl,hb⟩;refine ⟨_,rfl,?_⟩;have n0_:=Aside0.mk (blk_below (g:=gb373) (o:=.cells #[.int .i64 a0_0,.int .i64 a0_1,.int .i64 a0_2,.int .i64 a0_3] 23 (0,0)) bko hb);have n1_:=Aside0.mk (below_step blw hb);clear BK373;clear HB;have BK373:=n0_;have HB:=n1_;clear n0_ n1_;(try clear hb);(try clear hb2);(try clear hk);(try clear hi)) | ((with_reducible refine gate_dst (N:=8) rfl ?_);(try (refine gate_guard (by rfl) ?_;dsimp only));refine box_event ?hg (N:=8) ?hd (cs:=#[.int .i64 0,.int .i64 0,.int .i64 0,.int .i64 0]) (t:=23) ?hr ?_;(case hd=>rfl);(case hg=>rfl);(case hr=>first | (go_simp;done) | (go_simp;rfl));intro gb390 hg w40 hbox hb;have n0_:=Aside0.mk (blk_below (g:=gb373) (o:=.cells #[.int .i64 a0_0,.int .i64 a0_1,.int .i64 a0_2,.int .i64 a0_3] 23 (0,0)) bko hb);have n1_:=Aside0.mk (below_step blw hb);have n2_:=Aside0.mk (hbox);have n3_:=Aside0.mk ((by rw [hg];exact (below_size blw):w.heap.size≤gb390));have n4_:=Aside0.mk ((by rw [hg];exact (below_size blw):w.heap.size≤gb390));have n5_:=Aside0.mk ((by rw [hg];exact Nat.ne_of_lt (blk_lt (g:=gb373) (o:=.cells #[.int .i64 a0_0,.int .i64 a0_1,.int .i64 a0_2,.int .i64 a0_3] 23 (0,0)) bko):gb373≠gb390));have n6_:=Aside0.mk ((by rw [hg];exact Nat.ne_of_gt (blk_lt (g:=gb373) (o:=.cells #[.int .i64 a0_0,.int .i64 a0_1,.int .i64 a0_2,.int .i64 a0_3] 23 (0,0)) bko):gb390≠gb373));clear BK373;clear HB;have BK373:=n0_;have HB:=n1_;have BK390:=n2_;have GW390:=n3_;have GE390:=n4_;have NB373_390:=n5_;have NB390_373:=n6_;clear n0_ n1_ n2_ n3_ n4_ n5_ n6_;clear hb hbox hg;have hnb41:=NB390_373.out;have hnc41:=NB373_390.out;have hcz42_0:w40.cell? ⟨gb390,0,none⟩=some (.int .i64 0):=(blk_cell BK390.out 0).trans rfl;have hcz42_1:w40.cell? ⟨gb390,1,none⟩=some (.int .i64 0):=(blk_cell BK390.out 1).trans rfl;have hcz42_2:w40.cell? ⟨gb390,2,none⟩=some (.int .i64 0):=(blk_cell BK390.out 2).trans rfl;have hcz42_3:w40.cell? ⟨gb390,3,none⟩=some (.int .i64 0):=(blk_cell BK390.out 3).trans rfl;have hfz42_0:=blk_frozen BK390.out 0;have hfz42_1:=blk_frozen BK390.out 1;have hfz42_2:=blk_frozen BK390.out 2;have hfz42_3:=blk_frozen BK390.out 3) | ((with_reducible refine gate_callee (f:=23) rfl ?_);refine goesL_ (some 49) rfl rfl Tryz.func23 (by kernel_rfl) rfl #[.slice A1 l1.length c1] rfl fq ?_;(with_reducible refine (rzDecode.calls kj4 _ _ l1 t391 t392 t393 t394 t395 t396 _ ?side1 ?side2 A35.out).mono ?_);(case side1=>exact Kd.C_below HR1.out blw);(case side2=>exact HC1.out);rintro e w43 ⟨rfl,hb⟩;refine ⟨_,rfl,?_⟩;have n0_:=Aside0.mk (blk_below (g:=gb373) (o:=.cells #[.int .i64 a0_0,.int .i64 a0_1,.int .i64 a0_2,.int .i64 a0_3] 23 (0,0)) (by (with_reducible repeat (first | refine blk_drewN ?_ _ | refine blk_drew ?_ | refine blk_alloc ?_ _));refine blk_far ?_ NB373_390.out _;(with_reducible repeat (first | refine blk_drewN ?_ _ | refine blk_drew ?_ | refine blk_alloc ?_ _));refine blk_far ?_ NB373_390.out _;(with_reducible repeat (first | refine blk_drewN ?_ _ | refine blk_drew ?_ | refine blk_alloc ?_ _));refine blk_far ?_ NB373_390.out _;(with_reducible repeat (first | refine blk_drewN ?_ _ | refine blk_drew ?_ | refine blk_alloc ?_ _));refine blk_far ?_ NB373_390.out _;(with_reducible repeat (first | refine blk_drewN ?_ _ | refine blk_drew ?_ | refine blk_alloc ?_ _));exact BK373.out) hb);have n1_:=Aside0.mk (blk_below (g:=gb390) (o:=.cells #[.int .i64 t384,.int .i64 t385,.int .i64 t386,.int .i64 t387] 23 (0,0)) (by (with_reducible repeat (first | refine blk_drewN ?_ _ | refine blk_drew ?_ | refine blk_alloc ?_ _));refine blk_put (cs:=#[.int .i64 t384,.int .i64 t385,.int .i64 t386,.int .i64 0]) ?_ 3 _ rfl;(with_reducible repeat (first | refine blk_drewN ?_ _ | refine blk_drew ?_ | refine blk_alloc ?_ _));refine blk_put (cs:=#[.int .i64 t384,.int .i64 t385,.int .i64 0,.int .i64 0]) ?_ 2 _ rfl;(with_reducible repeat (first | refine blk_drewN ?_ _ | refine blk_drew ?_ | refine blk_alloc ?_ _));refine blk_put (cs:=#[.int .i64 t384,.int .i64 0,.int .i64 0,.int .i64 0]) ?_ 1 _ rfl;(with_reducible repeat (first | refine blk_drewN ?_ _ | refine blk_drew ?_ | refine blk_alloc ?_ _));refine blk_put (cs:=#[.int .i64 0,.int .i64 0,.int .i64 0,.int .i64 0]) ?_ 0 _ rfl;(with_reducible repeat (first | refine blk_drewN ?_ _ | refine blk_drew ?_ | refine blk_alloc ?_ _));exact BK390.out) hb);have n2_:=Aside0.mk (below_step blw hb);clear BK373;clear BK390;clear HB;have BK373:=n0_;have BK390:=n1_;have HB:=n2_;clear n0_ n1_ n2_;(try clear hb);(try clear hb2);(try clear hk);(try clear hi)) | ((with_reducible refine gate_dst (N:=11) rfl ?_);(try (refine gate_guard (by rfl) ?_;dsimp only));refine box_event ?hg (N:=11) ?hd (cs:=#[.int .i64 0,.int .i64 0,.int .i64 0,.int .i64 0,.int .i64 0,.int .i64 0]) (t:=35) ?hr ?_;(case hd=>rfl);(case hg=>rfl);(case hr=>first | (go_simp;done) | (go_simp;rfl));intro gb397 hg w44 hbox hb;have n0_:=Aside0.mk (blk_below (g:=gb373) (o:=.cells #[.int .i64 a0_0,.int .i64 a0_1,.int .i64 a0_2,.int .i64 a0_3] 23 (0,0)) bko hb);have n1_:=Aside0.mk (blk_below (g:=gb390) (o:=.cells #[.int .i64 t384,.int .i64 t385,.int .i64 t386,.int .i64 t387] 23 (0,0)) bko hb);have n2_:=Aside0.mk (below_step blw hb);have n3_:=Aside0.mk (hbox);have n4_:=Aside0.mk ((by rw [hg];exact (below_size blw):w.heap.size≤gb397));have n5_:=Aside0.mk ((by rw [hg];exact (below_size blw):w.heap.size≤gb397));have n6_:=Aside0.mk ((by rw [hg];exact Nat.ne_of_lt (blk_lt (g:=gb373) (o:=.cells #[.int .i64 a0_0,.int .i64 a0_1,.int .i64 a0_2,.int .i64 a0_3] 23 (0,0)) bko):gb373≠gb397));have n7_:=Aside0.mk ((by rw [hg];exact Nat.ne_of_gt (blk_lt (g:=gb373) (o:=.cells #[.int .i64 a0_0,.int .i64 a0_1,.int .i64 a0_2,.int .i64 a0_3] 23 (0,0)) bko):gb397≠gb373));have n8_:=Aside0.mk ((by rw [hg];exact Nat.ne_of_lt (blk_lt (g:=gb390) (o:=.cells #[.int .i64 t384,.int .i64 t385,.int .i64 t386,.int .i64 t387] 23 (0,0)) bko):gb390≠gb397));have n9_:=Aside0.mk ((by rw [hg];exact Nat.ne_of_gt (blk_lt (g:=gb390) (o:=.cells #[.int .i64 t384,.int .i64 t385,.int .i64 t386,.int .i64 t387] 23 (0,0)) bko):gb397≠gb390));clear BK373;clear BK390;clear HB;have BK373:=n0_;have BK390:=n1_;have HB:=n2_;have BK397:=n3_;have GW397:=n4_;have GE397:=n5_;have NB373_397:=n6_;have NB397_373:=n7_;have NB390_397:=n8_;have NB397_390:=n9_;clear n0_ n1_ n2_ n3_ n4_ n5_ n6_ n7_ n8_ n9_;clear hb hbox hg;have hnb45:=NB397_373.out;have hnc45:=NB373_397.out;have hnb46:=NB397_390.out;have hnc46:=NB390_397.out;have hcz47_0:w44.cell? ⟨gb397,0,none⟩=some (.int .i64 0):=(blk_cell BK397.out 0).trans rfl;have hcz47_1:w44.cell? ⟨gb397,1,none⟩=some (.int .i64 0):=(blk_cell BK397.out 1).trans rfl;have hcz47_2:w44.cell? ⟨gb397,2,none⟩=some (.int .i64 0):=(blk_cell BK397.out 2).trans rfl;have hcz47_3:w44.cell? ⟨gb397,3,none⟩=some (.int .i64 0):=(blk_cell BK397.out 3).trans rfl;have hcz47_4:w44.cell? ⟨gb397,4,none⟩=some (.int .i64 0):=(blk_cell BK397.out 4).trans rfl;have hcz47_5:w44.cell? ⟨gb397,5,none⟩=some (.int .i64 0):=(blk_cell BK397.out 5).trans rfl;have hfz47_0:=blk_frozen BK397.out 0;have hfz47_1:=blk_frozen BK397.out 1;have hfz47_2:=blk_frozen BK397.out 2;have hfz47_3:=blk_frozen BK397.out 3;have hfz47_4:=blk_frozen BK397.out 4;have hfz47_5:=blk_frozen BK397.out 5;have hcz48_0:w44.cell? ⟨gb390,0,none⟩=some (.int .i64 t384):=(blk_cell BK390.out 0).trans rfl;have hcz48_1:w44.cell? ⟨gb390,1,none⟩=some (.int .i64 t385):=(blk_cell BK390.out 1).trans rfl;have hcz48_2:w44.cell? ⟨gb390,2,none⟩=some (.int .i64 t386):=(blk_cell BK390.out 2).trans rfl;have hcz48_3:w44.cell? ⟨gb390,3,none⟩=some (.int .i64 t387):=(blk_cell BK390.out 3).trans rfl;have hfz48_0:=blk_frozen BK390.out 0;have hfz48_1:=blk_frozen BK390.out 1;have hfz48_2:=blk_frozen BK390.out 2;have hfz48_3:=blk_frozen BK390.out 3))
       go_ret;exact ⟨rew,blw⟩
      ·rw [if_neg c38] at H;have c38b0:(t384 == t391 && (t385 == t392 && (t386 == t393 && (t387 == t394))))=false:=by simpa using c38
       (try (have c38b1:decide (t384=t391 && (t385 == t392 && (t386 == t393 && (t387 == t394))))=false:=by simpa using c38));(try (have c38b2:(t384 == t391 && (t385 == t392 && (t386 == t393 && (t387 == t394))))=false:=by simpa using c38));(try (have c38b3:¬ (t384=t391 && (t385 == t392 && (t386 == t393 && (t387 == t394)))):=by simpa using c38));clear c38;obtain rfl:=Option.some.inj H;go_wp2_with (first | ((with_reducible refine gate_callee (f:=22) rfl ?_);refine goesL_ (some 44) rfl rfl Tryz.func22 (by kernel_rfl) rfl #[.slice A1 l1.length c1] rfl fq ?_;(with_reducible refine (insn_Decode.calls kj4 (fun k_=>k_ < w.heap.size) _ _ l1 t384 t385 t386 t387 t388 t389 _ ?side1 A34.out (by (first | exact hgw | exact hgw.below (by repeat (first | (with_reducible first | exact HB.out | apply below_alloc | apply pw_below_drewN | apply below_drew1 | refine below_set ?_ (by first | assumption | exact Aside0.out (by assumption))) | exact HB.out)) (Nat.le_refl _)))).mono ?_);(case side1=>exact Kd.V_mk HC1.out (Kd.F_below (Kd.C_F (Kd.heap_int .u8) HR1.out) blw));rintro e w49 ⟨rfl,hb⟩;refine ⟨_,rfl,?_⟩;have n0_:=Aside0.mk (blk_below (g:=gb373) (o:=.cells #[.int .i64 a0_0,.int .i64 a0_1,.int .i64 a0_2,.int .i64 a0_3] 23 (0,0)) bko hb);have n1_:=Aside0.mk (below_step blw hb);clear BK373;clear HB;have BK373:=n0_;have HB:=n1_;clear n0_ n1_;(try clear hb);(try clear hb2);(try clear hk);(try clear hi)) | ((with_reducible refine gate_dst (N:=8) rfl ?_);(try (refine gate_guard (by rfl) ?_;dsimp only));refine box_event ?hg (N:=8) ?hd (cs:=#[.int .i64 0,.int .i64 0,.int .i64 0,.int .i64 0]) (t:=23) ?hr ?_;(case hd=>rfl);(case hg=>rfl);(case hr=>first | (go_simp;done) | (go_simp;rfl));intro gb390 hg w50 hbox hb;have n0_:=Aside0.mk (blk_below (g:=gb373) (o:=.cells #[.int .i64 a0_0,.int .i64 a0_1,.int .i64 a0_2,.int .i64 a0_3] 23 (0,0)) bko hb);have n1_:=Aside0.mk (below_step blw hb);have n2_:=Aside0.mk (hbox);have n3_:=Aside0.mk ((by rw [hg];exact (below_size blw):w.heap.size≤gb390));have n4_:=Aside0.mk ((by rw [hg];exact (below_size blw):w.heap.size≤gb390));have n5_:=Aside0.mk ((by rw [hg];exact Nat.ne_of_lt (blk_lt (g:=gb373) (o:=.cells #[.int .i64 a0_0,.int .i64 a0_1,.int .i64 a0_2,.int .i64 a0_3] 23 (0,0)) bko):gb373≠gb390));have n6_:=Aside0.mk ((by rw [hg];exact Nat.ne_of_gt (blk_lt (g:=gb373) (o:=.cells #[.int .i64 a0_0,.int .i64 a0_1,.int .i64 a0_2,.int .i64 a0_3] 23 (0,0)) bko):gb390≠gb373));clear BK373;clear HB;have BK373:=n0_;have HB:=n1_;have BK390:=n2_;have GW390:=n3_;have GE390:=n4_;have NB373_390:=n5_;have NB390_373:=n6_;clear n0_ n1_ n2_ n3_ n4_ n5_ n6_;clear hb hbox hg;have hnb51:=NB390_373.out;have hnc51:=NB373_390.out;have hcz52_0:w50.cell? ⟨gb390,0,none⟩=some (.int .i64 0):=(blk_cell BK390.out 0).trans rfl;have hcz52_1:w50.cell? ⟨gb390,1,none⟩=some (.int .i64 0):=(blk_cell BK390.out 1).trans rfl;have hcz52_2:w50.cell? ⟨gb390,2,none⟩=some (.int .i64 0):=(blk_cell BK390.out 2).trans rfl;have hcz52_3:w50.cell? ⟨gb390,3,none⟩=some (.int .i64 0):=(blk_cell BK390.out 3).trans rfl;have hfz52_0:=blk_frozen BK390.out 0;have hfz52_1:=blk_frozen BK390.out 1;have hfz52_2:=blk_frozen BK390.out 2;have hfz52_3:=blk_frozen BK390.out 3) | ((with_reducible refine gate_callee (f:=23) rfl ?_);refine goesL_ (some 49) rfl rfl Tryz.func23 (by kernel_rfl) rfl #[.slice A1 l1.length c1] rfl fq ?_;(with_reducible refine (rzDecode.calls kj4 _ _ l1 t391 t392 t393 t394 t395 t396 _ ?side1 ?side2 A35.out).mono ?_);(case side1=>exact Kd.C_below HR1.out blw);(case side2=>exact HC1.out);rintro e w53 ⟨rfl,hb⟩;refine ⟨_,rfl,?_⟩;have n0_:=Aside0.mk (blk_below (g:=gb373) (o:=.cells #[.int .i64 a0_0,.int .i64 a0_1,.int .i64 a0_2,.int .i64 a0_3] 23 (0,0)) (by (with_reducible repeat (first | refine blk_drewN ?_ _ | refine blk_drew ?_ | refine blk_alloc ?_ _));refine blk_far ?_ NB373_390.out _;(with_reducible repeat (first | refine blk_drewN ?_ _ | refine blk_drew ?_ | refine blk_alloc ?_ _));refine blk_far ?_ NB373_390.out _;(with_reducible repeat (first | refine blk_drewN ?_ _ | refine blk_drew ?_ | refine blk_alloc ?_ _));refine blk_far ?_ NB373_390.out _;(with_reducible repeat (first | refine blk_drewN ?_ _ | refine blk_drew ?_ | refine blk_alloc ?_ _));refine blk_far ?_ NB373_390.out _;(with_reducible repeat (first | refine blk_drewN ?_ _ | refine blk_drew ?_ | refine blk_alloc ?_ _));exact BK373.out) hb);have n1_:=Aside0.mk (blk_below (g:=gb390) (o:=.cells #[.int .i64 t384,.int .i64 t385,.int .i64 t386,.int .i64 t387] 23 (0,0)) (by (with_reducible repeat (first | refine blk_drewN ?_ _ | refine blk_drew ?_ | refine blk_alloc ?_ _));refine blk_put (cs:=#[.int .i64 t384,.int .i64 t385,.int .i64 t386,.int .i64 0]) ?_ 3 _ rfl;(with_reducible repeat (first | refine blk_drewN ?_ _ | refine blk_drew ?_ | refine blk_alloc ?_ _));refine blk_put (cs:=#[.int .i64 t384,.int .i64 t385,.int .i64 0,.int .i64 0]) ?_ 2 _ rfl;(with_reducible repeat (first | refine blk_drewN ?_ _ | refine blk_drew ?_ | refine blk_alloc ?_ _));refine blk_put (cs:=#[.int .i64 t384,.int .i64 0,.int .i64 0,.int .i64 0]) ?_ 1 _ rfl;(with_reducible repeat (first | refine blk_drewN ?_ _ | refine blk_drew ?_ | refine blk_alloc ?_ _));refine blk_put (cs:=#[.int .i64 0,.int .i64 0,.int .i64 0,.int .i64 0]) ?_ 0 _ rfl;(with_reducible repeat (first | refine blk_drewN ?_ _ | refine blk_drew ?_ | refine blk_alloc ?_ _));exact BK390.out) hb);have n2_:=Aside0.mk (below_step blw hb);clear BK373;clear BK390;clear HB;have BK373:=n0_;have BK390:=n1_;have HB:=n2_;clear n0_ n1_ n2_;(try clear hb);(try clear hb2);(try clear hk);(try clear hi)) | ((with_reducible refine gate_dst (N:=11) rfl ?_);(try (refine gate_guard (by rfl) ?_;dsimp only));refine box_event ?hg (N:=11) ?hd (cs:=#[.int .i64 0,.int .i64 0,.int .i64 0,.int .i64 0,.int .i64 0,.int .i64 0]) (t:=35) ?hr ?_;(case hd=>rfl);(case hg=>rfl);(case hr=>first | (go_simp;done) | (go_simp;rfl));intro gb397 hg w54 hbox hb;have n0_:=Aside0.mk (blk_below (g:=gb373) (o:=.cells #[.int .i64 a0_0,.int .i64 a0_1,.int .i64 a0_2,.int .i64 a0_3] 23 (0,0)) bko hb);have n1_:=Aside0.mk (blk_below (g:=gb390) (o:=.cells #[.int .i64 t384,.int .i64 t385,.int .i64 t386,.int .i64 t387] 23 (0,0)) bko hb);have n2_:=Aside0.mk (below_step blw hb);have n3_:=Aside0.mk (hbox);have n4_:=Aside0.mk ((by rw [hg];exact (below_size blw):w.heap.size≤gb397));have n5_:=Aside0.mk ((by rw [hg];exact (below_size blw):w.heap.size≤gb397));have n6_:=Aside0.mk ((by rw [hg];exact Nat.ne_of_lt (blk_lt (g:=gb373) (o:=.cells #[.int .i64 a0_0,.int .i64 a0_1,.int .i64 a0_2,.int .i64 a0_3] 23 (0,0)) bko):gb373≠gb397));have n7_:=Aside0.mk ((by rw [hg];exact Nat.ne_of_gt (blk_lt (g:=gb373) (o:=.cells #[.int .i64 a0_0,.int .i64 a0_1,.int .i64 a0_2,.int .i64 a0_3] 23 (0,0)) bko):gb397≠gb373));have n8_:=Aside0.mk ((by rw [hg];exact Nat.ne_of_lt (blk_lt (g:=gb390) (o:=.cells #[.int .i64 t384,.int .i64 t385,.int .i64 t386,.int .i64 t387] 23 (0,0)) bko):gb390≠gb397));have n9_:=Aside0.mk ((by rw [hg];exact Nat.ne_of_gt (blk_lt (g:=gb390) (o:=.cells #[.int .i64 t384,.int .i64 t385,.int .i64 t386,.int .i64 t387] 23 (0,0)) bko):gb397≠gb390));clear BK373;clear BK390;clear HB;have BK373:=n0_;have BK390:=n1_;have HB:=n2_;have BK397:=n3_;have GW397:=n4_;have GE397:=n5_;have NB373_397:=n6_;have NB397_373:=n7_;have NB390_397:=n8_;have NB397_390:=n9_;clear n0_ n1_ n2_ n3_ n4_ n5_ n6_ n7_ n8_ n9_;clear hb hbox hg;have hnb55:=NB397_373.out;have hnc55:=NB373_397.out;have hnb56:=NB397_390.out;have hnc56:=NB390_397.out;have hcz57_0:w54.cell? ⟨gb397,0,none⟩=some (.int .i64 0):=(blk_cell BK397.out 0).trans rfl;have hcz57_1:w54.cell? ⟨gb397,1,none⟩=some (.int .i64 0):=(blk_cell BK397.out 1).trans rfl;have hcz57_2:w54.cell? ⟨gb397,2,none⟩=some (.int .i64 0):=(blk_cell BK397.out 2).trans rfl;have hcz57_3:w54.cell? ⟨gb397,3,none⟩=some (.int .i64 0):=(blk_cell BK397.out 3).trans rfl;have hcz57_4:w54.cell? ⟨gb397,4,none⟩=some (.int .i64 0):=(blk_cell BK397.out 4).trans rfl;have hcz57_5:w54.cell? ⟨gb397,5,none⟩=some (.int .i64 0):=(blk_cell BK397.out 5).trans rfl;have hfz57_0:=blk_frozen BK397.out 0;have hfz57_1:=blk_frozen BK397.out 1;have hfz57_2:=blk_frozen BK397.out 2;have hfz57_3:=blk_frozen BK397.out 3;have hfz57_4:=blk_frozen BK397.out 4;have hfz57_5:=blk_frozen BK397.out 5;have hcz58_0:w54.cell? ⟨gb390,0,none⟩=some (.int .i64 t384):=(blk_cell BK390.out 0).trans rfl;have hcz58_1:w54.cell? ⟨gb390,1,none⟩=some (.int .i64 t385):=(blk_cell BK390.out 1).trans rfl;have hcz58_2:w54.cell? ⟨gb390,2,none⟩=some (.int .i64 t386):=(blk_cell BK390.out 2).trans rfl;have hcz58_3:w54.cell? ⟨gb390,3,none⟩=some (.int .i64 t387):=(blk_cell BK390.out 3).trans rfl;have hfz58_0:=blk_frozen BK390.out 0;have hfz58_1:=blk_frozen BK390.out 1;have hfz58_2:=blk_frozen BK390.out 2;have hfz58_3:=blk_frozen BK390.out 3))
       go_ret;exact ⟨rew,blw⟩
     ·rw [if_neg c37] at H;have c37b0:(t389 == t396)=false:=beq_eq_false_iff_ne.mpr c37;have c37b1:(t389 != t396)=true:=bne_iff_ne.mpr c37;obtain rfl:=Option.some.inj H;go_wp2_with (first | ((with_reducible refine gate_callee (f:=22) rfl ?_);refine goesL_ (some 44) rfl rfl Tryz.func22 (by kernel_rfl) rfl #[.slice A1 l1.length c1] rfl fq ?_;(with_reducible refine (insn_Decode.calls kj4 (fun k_=>k_ < w.heap.size) _ _ l1 t384 t385 t386 t387 t388 t389 _ ?side1 A34.out (by (first | exact hgw | exact hgw.below (by repeat (first | (with_reducible first | exact HB.out | apply below_alloc | apply pw_below_drewN | apply below_drew1 | refine below_set ?_ (by first | assumption | exact Aside0.out (by assumption))) | exact HB.out)) (Nat.le_refl _)))).mono ?_);(case side1=>exact Kd.V_mk HC1.out (Kd.F_below (Kd.C_F (Kd.heap_int .u8) HR1.out) blw));rintro e w59 ⟨rfl,hb⟩;refine ⟨_,rfl,?_⟩;have n0_:=Aside0.mk (blk_below (g:=gb373) (o:=.cells #[.int .i64 a0_0,.int .i64 a0_1,.int .i64 a0_2,.int .i64 a0_3] 23 (0,0)) bko hb);have n1_:=Aside0.mk (below_step blw hb);clear BK373;clear HB;have BK373:=n0_;have HB:=n1_;clear n0_ n1_;(try clear hb);(try clear hb2);(try clear hk);(try clear hi)) | ((with_reducible refine gate_dst (N:=8) rfl ?_);(try (refine gate_guard (by rfl) ?_;dsimp only));refine box_event ?hg (N:=8) ?hd (cs:=#[.int .i64 0,.int .i64 0,.int .i64 0,.int .i64 0]) (t:=23) ?hr ?_;(case hd=>rfl);(case hg=>rfl);(case hr=>first | (go_simp;done) | (go_simp;rfl));intro gb390 hg w60 hbox hb;have n0_:=Aside0.mk (blk_below (g:=gb373) (o:=.cells #[.int .i64 a0_0,.int .i64 a0_1,.int .i64 a0_2,.int .i64 a0_3] 23 (0,0)) bko hb);have n1_:=Aside0.mk (below_step blw hb);have n2_:=Aside0.mk (hbox);have n3_:=Aside0.mk ((by rw [hg];exact (below_size blw):w.heap.size≤gb390));have n4_:=Aside0.mk ((by rw [hg];exact (below_size blw):w.heap.size≤gb390));have n5_:=Aside0.mk ((by rw [hg];exact Nat.ne_of_lt (blk_lt (g:=gb373) (o:=.cells #[.int .i64 a0_0,.int .i64 a0_1,.int .i64 a0_2,.int .i64 a0_3] 23 (0,0)) bko):gb373≠gb390));have n6_:=Aside0.mk ((by rw [hg];exact Nat.ne_of_gt (blk_lt (g:=gb373) (o:=.cells #[.int .i64 a0_0,.int .i64 a0_1,.int .i64 a0_2,.int .i64 a0_3] 23 (0,0)) bko):gb390≠gb373));clear BK373;clear HB;have BK373:=n0_;have HB:=n1_;have BK390:=n2_;have GW390:=n3_;have GE390:=n4_;have NB373_390:=n5_;have NB390_373:=n6_;clear n0_ n1_ n2_ n3_ n4_ n5_ n6_;clear hb hbox hg;have hnb61:=NB390_373.out;have hnc61:=NB373_390.out;have hcz62_0:w60.cell? ⟨gb390,0,none⟩=some (.int .i64 0):=(blk_cell BK390.out 0).trans rfl;have hcz62_1:w60.cell? ⟨gb390,1,none⟩=some (.int .i64 0):=(blk_cell BK390.out 1).trans rfl;have hcz62_2:w60.cell? ⟨gb390,2,none⟩=some (.int .i64 0):=(blk_cell BK390.out 2).trans rfl;have hcz62_3:w60.cell? ⟨gb390,3,none⟩=some (.int .i64 0):=(blk_cell BK390.out 3).trans rfl;have hfz62_0:=blk_frozen BK390.out 0;have hfz62_1:=blk_frozen BK390.out 1;have hfz62_2:=blk_frozen BK390.out 2;have hfz62_3:=blk_frozen BK390.out 3) | ((with_reducible refine gate_callee (f:=23) rfl ?_);refine goesL_ (some 49) rfl rfl Tryz.func23 (by kernel_rfl) rfl #[.slice A1 l1.length c1] rfl fq ?_;(with_reducible refine (rzDecode.calls kj4 _ _ l1 t391 t392 t393 t394 t395 t396 _ ?side1 ?side2 A35.out).mono ?_);(case side1=>exact Kd.C_below HR1.out blw);(case side2=>exact HC1.out);rintro e w63 ⟨rfl,hb⟩;refine ⟨_,rfl,?_⟩;have n0_:=Aside0.mk (blk_below (g:=gb373) (o:=.cells #[.int .i64 a0_0,.int .i64 a0_1,.int .i64 a0_2,.int .i64 a0_3] 23 (0,0)) (by (with_reducible repeat (first | refine blk_drewN ?_ _ | refine blk_drew ?_ | refine blk_alloc ?_ _));refine blk_far ?_ NB373_390.out _;(with_reducible repeat (first | refine blk_drewN ?_ _ | refine blk_drew ?_ | refine blk_alloc ?_ _));refine blk_far ?_ NB373_390.out _;(with_reducible repeat (first | refine blk_drewN ?_ _ | refine blk_drew ?_ | refine blk_alloc ?_ _));refine blk_far ?_ NB373_390.out _;(with_reducible repeat (first | refine blk_drewN ?_ _ | refine blk_drew ?_ | refine blk_alloc ?_ _));refine blk_far ?_ NB373_390.out _;(with_reducible repeat (first | refine blk_drewN ?_ _ | refine blk_drew ?_ | refine blk_alloc ?_ _));exact BK373.out) hb);have n1_:=Aside0.mk (blk_below (g:=gb390) (o:=.cells #[.int .i64 t384,.int .i64 t385,.int .i64 t386,.int .i64 t387] 23 (0,0)) (by (with_reducible repeat (first | refine blk_drewN ?_ _ | refine blk_drew ?_ | refine blk_alloc ?_ _));refine blk_put (cs:=#[.int .i64 t384,.int .i64 t385,.int .i64 t386,.int .i64 0]) ?_ 3 _ rfl;(with_reducible repeat (first | refine blk_drewN ?_ _ | refine blk_drew ?_ | refine blk_alloc ?_ _));refine blk_put (cs:=#[.int .i64 t384,.int .i64 t385,.int .i64 0,.int .i64 0]) ?_ 2 _ rfl;(with_reducible repeat (first | refine blk_drewN ?_ _ | refine blk_drew ?_ | refine blk_alloc ?_ _));refine blk_put (cs:=#[.int .i64 t384,.int .i64 0,.int .i64 0,.int .i64 0]) ?_ 1 _ rfl;(with_reducible repeat (first | refine blk_drewN ?_ _ | refine blk_drew ?_ | refine blk_alloc ?_ _));refine blk_put (cs:=#[.int .i64 0,.int .i64 0,.int .i64 0,.int .i64 0]) ?_ 0 _ rfl;(with_reducible repeat (first | refine blk_drewN ?_ _ | refine blk_drew ?_ | refine blk_alloc ?_ _));exact BK390.out) hb);have n2_:=Aside0.mk (below_step blw hb);clear BK373;clear BK390;clear HB;have BK373:=n0_;have BK390:=n1_;have HB:=n2_;clear n0_ n1_ n2_;(try clear hb);(try clear hb2);(try clear hk);(try clear hi)) | ((with_reducible refine gate_dst (N:=11) rfl ?_);(try (refine gate_guard (by rfl) ?_;dsimp only));refine box_event ?hg (N:=11) ?hd (cs:=#[.int .i64 0,.int .i64 0,.int .i64 0,.int .i64 0,.int .i64 0,.int .i64 0]) (t:=35) ?hr ?_;(case hd=>rfl);(case hg=>rfl);(case hr=>first | (go_simp;done) | (go_simp;rfl));intro gb397 hg w64 hbox hb;have n0_:=Aside0.mk (blk_below (g:=gb373) (o:=.cells #[.int .i64 a0_0,.int .i64 a0_1,.int .i64 a0_2,.int .i64 a0_3] 23 (0,0)) bko hb);have n1_:=Aside0.mk (blk_below (g:=gb390) (o:=.cells #[.int .i64 t384,.int .i64 t385,.int .i64 t386,.int .i64 t387] 23 (0,0)) bko hb);have n2_:=Aside0.mk (below_step blw hb);have n3_:=Aside0.mk (hbox);have n4_:=Aside0.mk ((by rw [hg];exact (below_size blw):w.heap.size≤gb397));have n5_:=Aside0.mk ((by rw [hg];exact (below_size blw):w.heap.size≤gb397));have n6_:=Aside0.mk ((by rw [hg];exact Nat.ne_of_lt (blk_lt (g:=gb373) (o:=.cells #[.int .i64 a0_0,.int .i64 a0_1,.int .i64 a0_2,.int .i64 a0_3] 23 (0,0)) bko):gb373≠gb397));have n7_:=Aside0.mk ((by rw [hg];exact Nat.ne_of_gt (blk_lt (g:=gb373) (o:=.cells #[.int .i64 a0_0,.int .i64 a0_1,.int .i64 a0_2,.int .i64 a0_3] 23 (0,0)) bko):gb397≠gb373));have n8_:=Aside0.mk ((by rw [hg];exact Nat.ne_of_lt (blk_lt (g:=gb390) (o:=.cells #[.int .i64 t384,.int .i64 t385,.int .i64 t386,.int .i64 t387] 23 (0,0)) bko):gb390≠gb397));have n9_:=Aside0.mk ((by rw [hg];exact Nat.ne_of_gt (blk_lt (g:=gb390) (o:=.cells #[.int .i64 t384,.int .i64 t385,.int .i64 t386,.int .i64 t387] 23 (0,0)) bko):gb397≠gb390));clear BK373;clear BK390;clear HB;have BK373:=n0_;have BK390:=n1_;have HB:=n2_;have BK397:=n3_;have GW397:=n4_;have GE397:=n5_;have NB373_397:=n6_;have NB397_373:=n7_;have NB390_397:=n8_;have NB397_390:=n9_;clear n0_ n1_ n2_ n3_ n4_ n5_ n6_ n7_ n8_ n9_;clear hb hbox hg;have hnb65:=NB397_373.out;have hnc65:=NB373_397.out;have hnb66:=NB397_390.out;have hnc66:=NB390_397.out;have hcz67_0:w64.cell? ⟨gb397,0,none⟩=some (.int .i64 0):=(blk_cell BK397.out 0).trans rfl;have hcz67_1:w64.cell? ⟨gb397,1,none⟩=some (.int .i64 0):=(blk_cell BK397.out 1).trans rfl;have hcz67_2:w64.cell? ⟨gb397,2,none⟩=some (.int .i64 0):=(blk_cell BK397.out 2).trans rfl;have hcz67_3:w64.cell? ⟨gb397,3,none⟩=some (.int .i64 0):=(blk_cell BK397.out 3).trans rfl;have hcz67_4:w64.cell? ⟨gb397,4,none⟩=some (.int .i64 0):=(blk_cell BK397.out 4).trans rfl;have hcz67_5:w64.cell? ⟨gb397,5,none⟩=some (.int .i64 0):=(blk_cell BK397.out 5).trans rfl;have hfz67_0:=blk_frozen BK397.out 0;have hfz67_1:=blk_frozen BK397.out 1;have hfz67_2:=blk_frozen BK397.out 2;have hfz67_3:=blk_frozen BK397.out 3;have hfz67_4:=blk_frozen BK397.out 4;have hfz67_5:=blk_frozen BK397.out 5))
      go_ret;exact ⟨rew,blw⟩
    ·replace c36:=Bool.eq_false_iff.mpr c36;subst c36;have H1:(some false)=some r:=by rw [if_neg (show ¬ (false=true) by decide)] at H;exact H
     clear H;have H:=H1;clear H1;obtain rfl:=Option.some.inj H;go_wp2_with (first | ((with_reducible refine gate_callee (f:=22) rfl ?_);refine goesL_ (some 44) rfl rfl Tryz.func22 (by kernel_rfl) rfl #[.slice A1 l1.length c1] rfl fq ?_;(with_reducible refine (insn_Decode.calls kj4 (fun k_=>k_ < w.heap.size) _ _ l1 t384 t385 t386 t387 t388 t389 _ ?side1 A34.out (by (first | exact hgw | exact hgw.below (by repeat (first | (with_reducible first | exact HB.out | apply below_alloc | apply pw_below_drewN | apply below_drew1 | refine below_set ?_ (by first | assumption | exact Aside0.out (by assumption))) | exact HB.out)) (Nat.le_refl _)))).mono ?_);(case side1=>exact Kd.V_mk HC1.out (Kd.F_below (Kd.C_F (Kd.heap_int .u8) HR1.out) blw));rintro e w68 ⟨rfl,hb⟩;refine ⟨_,rfl,?_⟩;have n0_:=Aside0.mk (blk_below (g:=gb373) (o:=.cells #[.int .i64 a0_0,.int .i64 a0_1,.int .i64 a0_2,.int .i64 a0_3] 23 (0,0)) bko hb);have n1_:=Aside0.mk (below_step blw hb);clear BK373;clear HB;have BK373:=n0_;have HB:=n1_;clear n0_ n1_;(try clear hb);(try clear hb2);(try clear hk);(try clear hi)) | ((with_reducible refine gate_dst (N:=8) rfl ?_);(try (refine gate_guard (by rfl) ?_;dsimp only));refine box_event ?hg (N:=8) ?hd (cs:=#[.int .i64 0,.int .i64 0,.int .i64 0,.int .i64 0]) (t:=23) ?hr ?_;(case hd=>rfl);(case hg=>rfl);(case hr=>first | (go_simp;done) | (go_simp;rfl));intro gb390 hg w69 hbox hb;have n0_:=Aside0.mk (blk_below (g:=gb373) (o:=.cells #[.int .i64 a0_0,.int .i64 a0_1,.int .i64 a0_2,.int .i64 a0_3] 23 (0,0)) bko hb);have n1_:=Aside0.mk (below_step blw hb);have n2_:=Aside0.mk (hbox);have n3_:=Aside0.mk ((by rw [hg];exact (below_size blw):w.heap.size≤gb390));have n4_:=Aside0.mk ((by rw [hg];exact (below_size blw):w.heap.size≤gb390));have n5_:=Aside0.mk ((by rw [hg];exact Nat.ne_of_lt (blk_lt (g:=gb373) (o:=.cells #[.int .i64 a0_0,.int .i64 a0_1,.int .i64 a0_2,.int .i64 a0_3] 23 (0,0)) bko):gb373≠gb390));have n6_:=Aside0.mk ((by rw [hg];exact Nat.ne_of_gt (blk_lt (g:=gb373) (o:=.cells #[.int .i64 a0_0,.int .i64 a0_1,.int .i64 a0_2,.int .i64 a0_3] 23 (0,0)) bko):gb390≠gb373));clear BK373;clear HB;have BK373:=n0_;have HB:=n1_;have BK390:=n2_;have GW390:=n3_;have GE390:=n4_;have NB373_390:=n5_;have NB390_373:=n6_;clear n0_ n1_ n2_ n3_ n4_ n5_ n6_;clear hb hbox hg;have hnb70:=NB390_373.out;have hnc70:=NB373_390.out;have hcz71_0:w69.cell? ⟨gb390,0,none⟩=some (.int .i64 0):=(blk_cell BK390.out 0).trans rfl;have hcz71_1:w69.cell? ⟨gb390,1,none⟩=some (.int .i64 0):=(blk_cell BK390.out 1).trans rfl;have hcz71_2:w69.cell? ⟨gb390,2,none⟩=some (.int .i64 0):=(blk_cell BK390.out 2).trans rfl;have hcz71_3:w69.cell? ⟨gb390,3,none⟩=some (.int .i64 0):=(blk_cell BK390.out 3).trans rfl;have hfz71_0:=blk_frozen BK390.out 0;have hfz71_1:=blk_frozen BK390.out 1;have hfz71_2:=blk_frozen BK390.out 2;have hfz71_3:=blk_frozen BK390.out 3) | ((with_reducible refine gate_callee (f:=23) rfl ?_);refine goesL_ (some 49) rfl rfl Tryz.func23 (by kernel_rfl) rfl #[.slice A1 l1.length c1] rfl fq ?_;(with_reducible refine (rzDecode.calls kj4 _ _ l1 t391 t392 t393 t394 t395 t396 _ ?side1 ?side2 A35.out).mono ?_);(case side1=>exact Kd.C_below HR1.out blw);(case side2=>exact HC1.out);rintro e w72 ⟨rfl,hb⟩;refine ⟨_,rfl,?_⟩;have n0_:=Aside0.mk (blk_below (g:=gb373) (o:=.cells #[.int .i64 a0_0,.int .i64 a0_1,.int .i64 a0_2,.int .i64 a0_3] 23 (0,0)) (by (with_reducible repeat (first | refine blk_drewN ?_ _ | refine blk_drew ?_ | refine blk_alloc ?_ _));refine blk_far ?_ NB373_390.out _;(with_reducible repeat (first | refine blk_drewN ?_ _ | refine blk_drew ?_ | refine blk_alloc ?_ _));refine blk_far ?_ NB373_390.out _;(with_reducible repeat (first | refine blk_drewN ?_ _ | refine blk_drew ?_ | refine blk_alloc ?_ _));refine blk_far ?_ NB373_390.out _;(with_reducible repeat (first | refine blk_drewN ?_ _ | refine blk_drew ?_ | refine blk_alloc ?_ _));refine blk_far ?_ NB373_390.out _;(with_reducible repeat (first | refine blk_drewN ?_ _ | refine blk_drew ?_ | refine blk_alloc ?_ _));exact BK373.out) hb);have n1_:=Aside0.mk (blk_below (g:=gb390) (o:=.cells #[.int .i64 t384,.int .i64 t385,.int .i64 t386,.int .i64 t387] 23 (0,0)) (by (with_reducible repeat (first | refine blk_drewN ?_ _ | refine blk_drew ?_ | refine blk_alloc ?_ _));refine blk_put (cs:=#[.int .i64 t384,.int .i64 t385,.int .i64 t386,.int .i64 0]) ?_ 3 _ rfl;(with_reducible repeat (first | refine blk_drewN ?_ _ | refine blk_drew ?_ | refine blk_alloc ?_ _));refine blk_put (cs:=#[.int .i64 t384,.int .i64 t385,.int .i64 0,.int .i64 0]) ?_ 2 _ rfl;(with_reducible repeat (first | refine blk_drewN ?_ _ | refine blk_drew ?_ | refine blk_alloc ?_ _));refine blk_put (cs:=#[.int .i64 t384,.int .i64 0,.int .i64 0,.int .i64 0]) ?_ 1 _ rfl;(with_reducible repeat (first | refine blk_drewN ?_ _ | refine blk_drew ?_ | refine blk_alloc ?_ _));refine blk_put (cs:=#[.int .i64 0,.int .i64 0,.int .i64 0,.int .i64 0]) ?_ 0 _ rfl;(with_reducible repeat (first | refine blk_drewN ?_ _ | refine blk_drew ?_ | refine blk_alloc ?_ _));exact BK390.out) hb);have n2_:=Aside0.mk (below_step blw hb);clear BK373;clear BK390;clear HB;have BK373:=n0_;have BK390:=n1_;have HB:=n2_;clear n0_ n1_ n2_;(try clear hb);(try clear hb2);(try clear hk);(try clear hi)) | ((with_reducible refine gate_dst (N:=11) rfl ?_);(try (refine gate_guard (by rfl) ?_;dsimp only));refine box_event ?hg (N:=11) ?hd (cs:=#[.int .i64 0,.int .i64 0,.int .i64 0,.int .i64 0,.int .i64 0,.int .i64 0]) (t:=35) ?hr ?_;(case hd=>rfl);(case hg=>rfl);(case hr=>first | (go_simp;done) | (go_simp;rfl));intro gb397 hg w73 hbox hb;have n0_:=Aside0.mk (blk_below (g:=gb373) (o:=.cells #[.int .i64 a0_0,.int .i64 a0_1,.int .i64 a0_2,.int .i64 a0_3] 23 (0,0)) bko hb);have n1_:=Aside0.mk (blk_below (g:=gb390) (o:=.cells #[.int .i64 t384,.int .i64 t385,.int .i64 t386,.int .i64 t387] 23 (0,0)) bko hb);have n2_:=Aside0.mk (below_step blw hb);have n3_:=Aside0.mk (hbox);have n4_:=Aside0.mk ((by rw [hg];exact (below_size blw):w.heap.size≤gb397));have n5_:=Aside0.mk ((by rw [hg];exact (below_size blw):w.heap.size≤gb397));have n6_:=Aside0.mk ((by rw [hg];exact Nat.ne_of_lt (blk_lt (g:=gb373) (o:=.cells #[.int .i64 a0_0,.int .i64 a0_1,.int .i64 a0_2,.int .i64 a0_3] 23 (0,0)) bko):gb373≠gb397));have n7_:=Aside0.mk ((by rw [hg];exact Nat.ne_of_gt (blk_lt (g:=gb373) (o:=.cells #[.int .i64 a0_0,.int .i64 a0_1,.int .i64 a0_2,.int .i64 a0_3] 23 (0,0)) bko):gb397≠gb373));have n8_:=Aside0.mk ((by rw [hg];exact Nat.ne_of_lt (blk_lt (g:=gb390) (o:=.cells #[.int .i64 t384,.int .i64 t385,.int .i64 t386,.int .i64 t387] 23 (0,0)) bko):gb390≠gb397));have n9_:=Aside0.mk ((by rw [hg];exact Nat.ne_of_gt (blk_lt (g:=gb390) (o:=.cells #[.int .i64 t384,.int .i64 t385,.int .i64 t386,.int .i64 t387] 23 (0,0)) bko):gb397≠gb390));clear BK373;clear BK390;clear HB;have BK373:=n0_;have BK390:=n1_;have HB:=n2_;have BK397:=n3_;have GW397:=n4_;have GE397:=n5_;have NB373_397:=n6_;have NB397_373:=n7_;have NB390_397:=n8_;have NB397_390:=n9_;clear n0_ n1_ n2_ n3_ n4_ n5_ n6_ n7_ n8_ n9_;clear hb hbox hg;have hnb74:=NB397_373.out;have hnc74:=NB373_397.out;have hnb75:=NB397_390.out;have hnc75:=NB390_397.out;have hcz76_0:w73.cell? ⟨gb397,0,none⟩=some (.int .i64 0):=(blk_cell BK397.out 0).trans rfl;have hcz76_1:w73.cell? ⟨gb397,1,none⟩=some (.int .i64 0):=(blk_cell BK397.out 1).trans rfl;have hcz76_2:w73.cell? ⟨gb397,2,none⟩=some (.int .i64 0):=(blk_cell BK397.out 2).trans rfl;have hcz76_3:w73.cell? ⟨gb397,3,none⟩=some (.int .i64 0):=(blk_cell BK397.out 3).trans rfl;have hcz76_4:w73.cell? ⟨gb397,4,none⟩=some (.int .i64 0):=(blk_cell BK397.out 4).trans rfl;have hcz76_5:w73.cell? ⟨gb397,5,none⟩=some (.int .i64 0):=(blk_cell BK397.out 5).trans rfl;have hfz76_0:=blk_frozen BK397.out 0;have hfz76_1:=blk_frozen BK397.out 1;have hfz76_2:=blk_frozen BK397.out 2;have hfz76_3:=blk_frozen BK397.out 3;have hfz76_4:=blk_frozen BK397.out 4;have hfz76_5:=blk_frozen BK397.out 5))
     go_ret;exact ⟨rew,blw⟩
end Go.Proofs.YtffojmgmpfjlhaaGreatDoor.Q
namespace Go.Proofs.YtffojmgmpfjlhaaGreatDoor.Q
open Go.Proofs.Ix hiding rd
open Go.Proofs.YtffojmgmpfjlhaaGreatDoor Go.RowKit Go.Proofs.YtffojmgmpfjlhaaGreatDoorW.PrintWords Go.Proofs.YtffojmgmpfjlhaaGreatDoorW.PrintLast Go.Proofs.YtffojmgmpfjlhaaGreatDoorW.PrintMore
theorem same_refl (l:List Int):lzsameBytes.f l l=some true:=by
 unfold lzsameBytes.f
 simp
theorem InsnEncodes_pure (op a b imm:Int) (l:List Int) (hl:l.length≤140737488351232) (hb:Byt l):lzInsnEncodes.f 300 op a b imm l=some true:=by
 have hj:lzInsnEncodes.j0 300 l true false=some true:=by
  show lzInsnEncodes.j0 (299+1) l true false=_
  rw [lzInsnEncodes.j0,if_neg (by decide),decode_f l hl 239,rdecode_f l hb hl 199,Option.bind_some,Option.bind_some,if_pos rfl,if_pos rfl,if_pos (by simp)]
  simp
 unfold lzInsnEncodes.f
 rw [sane_true 200,Option.bind_some,encode_f op a b imm 280,Option.bind_some,rcheck_f _ _ _ _ _ (by decide),Option.bind_some]
 by_cases c:chkD op a b imm=0
 ·rw [if_pos c]
  simp only
  rw [if_pos c.symm,if_pos trivial,rencode_f _ _ _ _ (chk_name c) _ (by decide),Option.bind_some,same_refl,Option.bind_some,if_pos rfl]
  exact hj
 ·rw [if_neg c]
  simp only
  rw [if_pos trivial,if_neg c]
  exact hj
theorem encodes_any (a b c e:Int) (wa:(Lit.int .i64 a).wf=true) (wb:(Lit.int .i64 b).wf=true) (wc:(Lit.int .i64 c).wf=true) (we:(Lit.int .i64 e).wf=true) (A:Option Addr) (len cap:Nat) (z:List Int) (w:World)
  (w0:(A=none∧len=0∧cap=0∧z=[])∨∃ x,A=some x∧len≤cap∧cap≤maxLen∧z.length=cap∧(∀ i,i < z.length→w.cell? (x.add i)=some (.int .u8 (z.getD i 0)))∧∀ n∈z,(Lit.int .u8 n).wf=true) (y0:len * 1≤140737488351232) (hgw:GW w) :
  Calls Tryz.prog 3 #[.agg #[.int .i64 a,.int .i64 b,.int .i64 c,.int .i64 e],.slice A len cap] w fun e w'=>e=.returned (.bool true)∧Below w.heap.size w w':=by
 obtain ⟨l0,rfl,hr0,hm0,hw0,hc0⟩:=ReadsInt.ofRowC w0
 exact lzInsnEncodes.calls 300 a b c e _ _ l0 true w (Kd.C_of_reads (d:=(0:Int)) (h1:=fun _=>rfl) hr0) hc0 (InsnEncodes_pure a b c e l0 (by omega) hw0) hgw
end Go.Proofs.YtffojmgmpfjlhaaGreatDoor.Q
