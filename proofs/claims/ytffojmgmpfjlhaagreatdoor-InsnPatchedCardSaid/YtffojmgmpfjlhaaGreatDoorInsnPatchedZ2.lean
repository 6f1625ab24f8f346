/- Parts of the proof: InsnPatched: with a breakpoint put in, a breakpoint is decoded there, and at every other offset the same as before: the law returns true for every input; the inputs read as they did; the package-level variables hold what the program's text lays in them: the tied card. -/
import Derived.Test.YtffojmgmpfjlhaaGreatDoorInsP17
import Derived.Test.YtffojmgmpfjlhaaGreatDoorInsnPatchedZ1
set_option linter.unusedVariables false
set_option linter.unusedSimpArgs false
namespace Go.Proofs.YtffojmgmpfjlhaaGreatDoor.Q
open Go.Proofs.Ix hiding rd
open Go.Proofs.YtffojmgmpfjlhaaGreatDoor Go.RowKit Go.Proofs.YtffojmgmpfjlhaaGreatDoorW.PrintWords
theorem rd_drop (l:List Int) (n i:Nat):rd (l.drop n) (i:Int)=rd l ((n+i:Nat):Int):=by
 unfold rd
 rw [Int.toNat_natCast,Int.toNat_natCast]
 simp [List.getD,List.getElem?_drop]
theorem scan_low (l:List Int) (f:Int):∀ (d i:Nat),scanD l f i d=0→∀ j,i≤j→j < i+d→rd l (j:Int) < 128
 | 0,i,_,j,h1,h2=>by omega
 | d+1,i,hs,j,h1,h2=>by
  unfold scanD at hs
  by_cases c1:i=l.length
  ·rw [if_pos c1] at hs;omega
  ·rw [if_neg c1] at hs
   by_cases c2:rd l (i:Int)≥128
   ·rw [if_pos c2] at hs;omega
   ·rw [if_neg c2] at hs
    by_cases h3:f=3∧d=0∧rd l (i:Int)≠0∧rd l (i:Int)≠127
    ·rw [if_pos h3] at hs;omega
    ·rw [if_neg h3] at hs
     by_cases e:j=i
     ·subst e;omega
     ·exact scan_low l f d (i+1) hs j (by omega) (by omega)
theorem nameM_low {op:Int} (h:op < 1):nameM op=[]:=by
 unfold nameM kindM
 rw [if_neg (by omega),if_pos (Or.inl h)]
theorem dec_low {l:List Int} (hb:Byt l) (h0:0 < l.length) (h:rd l 0 < 128):decD l=errD 20:=by
 have hr:=hb.at (i:=0) h0
 have hr:0≤rd l 0∧rd l 0 < 256:=hr
 have:opD l < 1:=by unfold opD;simp only [wrap64];omega
 unfold decD
 rw [if_neg (by omega),if_pos (nameM_low this)]
theorem rd_set_ne (l:List Int) (m j:Nat) (v:Int) (h:j≠m):rd (l.set m v) (j:Int)=rd l (j:Int):=by
 unfold rd
 rw [Int.toNat_natCast]
 simp [List.getD,List.getElem?_set,Ne.symm h]
theorem rd_set_eq (l:List Int) (m:Nat) (v:Int) (h:m < l.length):rd (l.set m v) (m:Int)=v:=by
 unfold rd
 rw [Int.toNat_natCast]
 simp [List.getD,List.getElem?_set,h]
theorem scan_set (l:List Int) (f:Int) (m:Nat) (hm:m < l.length) (h:rd l (m:Int)≥128):∀ (d i:Nat),scanD (l.set m 204) f i d=scanD l f i d
 | 0,i=>rfl
 | d+1,i=>by
  unfold scanD
  rw [List.length_set]
  by_cases e:i=m
  ·subst e
   rw [rd_set_eq _ _ _ hm,if_neg (show ¬ i=l.length by omega),if_neg (show ¬ i=l.length by omega),if_pos (show (204:Int)≥128 by decide),if_pos h]
  ·rw [rd_set_ne _ _ _ _ e,scan_set l f m hm h d (i+1)]
theorem fin_set (l:List Int) (f op a b:Int) (m i n:Nat) (hm:m < l.length) (h:rd l (m:Int)≥128) (hi:¬ (m < i)):finD (l.set m 204) f op a b i n=finD l f op a b i n:=by
 unfold finD
 rw [scan_set l f m hm h]
 by_cases c:scanD l f i (n - i)=0
 ·have:¬ m < n:=fun hn=>by
   have h9:rd l (m:Int) < 128:=scan_low l f _ i c m (by omega) (by omega)
   omega
  have e:sliceD (l.set m 204) i n=sliceD l i n:=by
   unfold sliceD
   rw [List.take_set_of_le (by omega)]
  rw [e]
 ·rw [if_neg c,if_neg c]
theorem dec_set (l:List Int) (m:Nat) (h1:1≤m) (hm:m < l.length) (h:rd l (m:Int)≥128):decD (l.set m 204)=decD l:=by
 have h0:rd (l.set m 204) 0=rd l 0:=rd_set_ne l m 0 204 (by omega)
 have ho:opD (l.set m 204)=opD l:=by unfold opD;rw [h0]
 unfold decD
 rw [List.length_set,ho]
 by_cases e:m=1
 ·subst e
  have h2:rd (l.set 1 204) 1=204:=rd_set_eq l 1 204 hm
  have h:rd l 1≥128:=h
  rw [h2]
  have p1:(204:Int)≥(if hasB (formM (opD l))=true then 64 else 8):=by split <;> decide
  have p2:rd l 1≥(if hasB (formM (opD l))=true then 64 else 8):=by split <;> omega
  simp only [if_pos p1,if_pos p2]
  rw [fin_set l _ _ _ _ 1 1 _ hm h (by omega)]
 ·have h2:rd (l.set m 204) 1=rd l 1:=rd_set_ne l m 1 204 (fun hh=>e hh.symm)
  rw [h2,fin_set l _ _ _ _ m 2 _ hm h (by omega),fin_set l _ _ _ _ m 2 _ hm h (by omega),fin_set l _ _ _ _ m 1 _ hm h (by omega)]
theorem dec_break (l:List Int) (h0:0 < l.length) (h:rd l 0=204):decD l=(76,0,0,0,1,0):=by
 have ho:opD l=76:=by unfold opD;rw [h];simp only [wrap64];omega
 have k1:¬ nameM 76=[]:=by decide +kernel
 have k2:hasA (formM 76)=false:=by decide +kernel
 have k3:lenM (formM 76)=1:=by decide +kernel
 unfold decD
 rw [if_neg (by omega),ho,if_neg k1,k2,if_neg (by decide),k3]
 unfold finD
 rw [if_pos (show scanD l (formM 76) 1 (1 - 1)=0 from rfl)]
 have e:sliceD l 1 1=[]:=by unfold sliceD;simp
 rw [e]
 have e2:startD (formM 76) []=0:=by decide +kernel
 rw [e2]
 rfl
theorem patched (l:List Int) (hb:Byt l) (k:Nat) (hk:k < l.length) (h:(decD (l.drop k)).2.2.2.2.2=0) (i:Nat) (hi:i < l.length) :
  decD ((l.set k 204).drop i)=if i=k then (76,0,0,0,1,0) else decD (l.drop i):=by
 have hh:rd l (k:Int)≥128:=by
  refine Int.not_lt.1 fun hlt=>?_
  have e0:rd (l.drop k) 0=rd l (k:Int):=rd_drop l k 0
  rw [dec_low (hb.drop k) (by simp;omega) (by rw [e0];exact hlt)] at h
  exact absurd h (by decide)
 by_cases e:i=k
 ·subst e
  rw [if_pos rfl]
  refine dec_break _ (by simp;omega) ?_
  have e0:rd ((l.set i 204).drop i) 0=rd (l.set i 204) (i:Int):=rd_drop _ i 0
  rw [e0,rd_set_eq _ _ _ hk]
 ·rw [if_neg e]
  by_cases c:i < k
  ·have e1:(l.set k 204).drop i=(l.drop i).set (k - i) 204:=by
    rw [List.drop_set]
    rw [if_neg (by omega)]
   rw [e1]
   refine dec_set _ _ (by omega) (by simp;omega) ?_
   rw [rd_drop,show i+(k - i)=k from by omega]
   exact hh
  ·rw [List.drop_set,if_pos (by omega)]
end Go.Proofs.YtffojmgmpfjlhaaGreatDoor.Q
namespace Go.Proofs.YtffojmgmpfjlhaaGreatDoor.Q
open Go.Proofs.YtffojmgmpfjlhaaGreatDoor Go.RowKit Go.Proofs.YtffojmgmpfjlhaaGreatDoorW.PrintWords Go.Proofs.YtffojmgmpfjlhaaGreatDoorW.PrintLast Go.Proofs.YtffojmgmpfjlhaaGreatDoorW.PrintMore
attribute [local go_sem] max2_int min2_int max_two min_two max_three min_three max_four min_four
attribute [local go_sem high] eqA23
mutual
def lzInsnPatched.j0:Nat→List Int→List Int→Bool→Int→Bool→Option (Bool)
 | 0,_,_,_,_,_=>none
 | k+1,x0,x2,x5,x6,x29=>if x29=true then (some x5) else (if 0≤x6 then (if x6≤(x0.length:Int) then ((insn_Decode.f k (x0.drop (x6:Int).toNat)).bind fun bt682=>(if bt682.2.2.2.2.2=0 then (lzInsnPatched.l0 k x0 x5 x6 x2 0) else (some x5))) else (none)) else (none))
def lzInsnPatched.l0:Nat→List Int→Bool→Int→List Int→Int→Option (Bool)
 | 0,_,_,_,_,_=>none
 | k+1,x0,x5,x6,x10,x11=>if x11 < (x0.length:Int) then (if 0≤x11 then (if x11≤(x0.length:Int) then ((insn_Decode.f k (x0.drop (x11:Int).toNat)).bind fun bt690=>(if x11≤(x10.length:Int) then ((insn_Decode.f k (x10.drop (x11:Int).toNat)).bind fun bt698=>(if x11=x6 then (if bt698.2.2.2.2.2=0 then (if (!(bt698.1 == 76) || (!(bt698.2.1 == 0) || (!(bt698.2.2.1 == 0) || (!(bt698.2.2.2.1 == 0)))))=true then (some false) else (if bt698.2.2.2.2.1=1 then (lzInsnPatched.l0 k x0 x5 x6 x10 (wrap64 (x11+1))) else (some false))) else (some false)) else (if (!(bt690.1 == bt698.1) || (!(bt690.2.1 == bt698.2.1) || (!(bt690.2.2.1 == bt698.2.2.1) || (!(bt690.2.2.2.1 == bt698.2.2.2.1)))))=true then (some false) else (if bt690.2.2.2.2.1=bt698.2.2.2.2.1 then (if bt690.2.2.2.2.2=bt698.2.2.2.2.2 then (lzInsnPatched.l0 k x0 x5 x6 x10 (wrap64 (x11+1))) else (some false)) else (some false))))) else (none))) else (none)) else (none)) else (some x5)
end
def lzInsnPatched.f (k:Nat) (l0:List Int) (a1:Int) (l2:List Int):Option (Bool):=(lzsane.f k).bind fun t680=>(if (l0.length:Int) > 200 then (lzInsnPatched.j0 k l0 l2 t680 (wrap64 (a1)) true) else (lzInsnPatched.j0 k l0 l2 t680 (wrap64 (a1)) (decide ((wrap64 (a1))≥(l0.length:Int)))))
theorem lzInsnPatched.mono_l:∀ k,(∀ y0 y1 y2 y3 y4,LeO (lzInsnPatched.j0 k y0 y1 y2 y3 y4) (lzInsnPatched.j0 (k+1) y0 y1 y2 y3 y4))∧(∀ y0 y1 y2 y3 y4,LeO (lzInsnPatched.l0 k y0 y1 y2 y3 y4) (lzInsnPatched.l0 (k+1) y0 y1 y2 y3 y4))
 | 0=>⟨fun _ _ _ _ _ r h=>by simp [lzInsnPatched.j0] at h,fun _ _ _ _ _ r h=>by simp [lzInsnPatched.l0] at h⟩
 | k+1=>by
  obtain ⟨ih0,ih1⟩:=lzInsnPatched.mono_l k;refine ⟨?_,?_⟩
  ·intro y0 y1 y2 y3 y4;unfold lzInsnPatched.j0;repeat' first
   | (with_reducible exact ih0 _ _ _ _ _)
   | (with_reducible exact ih1 _ _ _ _ _)
   | (with_reducible exact insn_Decode.mono _ _)
   | (with_reducible exact lzsane.mono _)
   | (with_reducible exact LeO.refl _)
   | (with_reducible exact LeO.none _)
   | (with_reducible refine LeO.ite ?_ ?_)
   | (with_reducible refine LeO.bind ?_ (fun _=>?_))
   | exact LeO.none _
   | refine LeO.ite ?_ ?_
   | refine LeO.bind ?_ (fun _=>?_)
  ·intro y0 y1 y2 y3 y4;unfold lzInsnPatched.l0;repeat' first
   | (with_reducible exact ih0 _ _ _ _ _)
   | (with_reducible exact ih1 _ _ _ _ _)
   | (with_reducible exact insn_Decode.mono _ _)
   | (with_reducible exact lzsane.mono _)
   | (with_reducible exact LeO.refl _)
   | (with_reducible exact LeO.none _)
   | (with_reducible refine LeO.ite ?_ ?_)
   | (with_reducible refine LeO.bind ?_ (fun _=>?_))
   | exact LeO.none _
   | refine LeO.ite ?_ ?_
   | refine LeO.bind ?_ (fun _=>?_)
theorem lzInsnPatched.mono:∀ a0 a1 a2 k,LeO (lzInsnPatched.f k a0 a1 a2) (lzInsnPatched.f (k+1) a0 a1 a2):=by
 intro a0 a1 a2 k;obtain ⟨ih0,ih1⟩:=lzInsnPatched.mono_l k;unfold lzInsnPatched.f;repeat' first
   | (with_reducible exact ih0 _ _ _ _ _)
   | (with_reducible exact ih1 _ _ _ _ _)
   | (with_reducible exact insn_Decode.mono _ _)
   | (with_reducible exact lzsane.mono _)
   | (with_reducible exact LeO.refl _)
   | (with_reducible exact LeO.none _)
   | (with_reducible refine LeO.ite ?_ ?_)
   | (with_reducible refine LeO.bind ?_ (fun _=>?_))
   | exact LeO.none _
   | refine LeO.ite ?_ ?_
   | refine LeO.bind ?_ (fun _=>?_)
set_option maxHeartbeats 8000000 in
set_option maxRecDepth 100000 in
theorem lzInsnPatched.calls (k:Nat) (A0:Option Addr) (c0:Nat) (l0:List Int) (a1:Int) (l2:List Int) (hl2:l2=l0.set (wrap64 a1).toNat 204) (hlb:l0.length < 140737488355328) (r:Bool) (w:World) (hr0:Kd.C (Kd.int .u8) w A0 l0.length l0) (hc0:l0.length≤c0) (h:lzInsnPatched.f k l0 a1 l2=some r) (hgw:GW w) (hrt:r=true:=by rfl) :
  Calls Tryz.prog 8 #[.slice A0 l0.length c0,.int .u8 a1] w fun e w'=>e=.returned (.bool r)∧Below w.heap.size w w':=by
 have HRT:=Aside0.mk hrt;clear hrt;have HL2:=Aside0.mk hl2;have HLB:=Aside0.mk hlb;clear hl2 hlb;have hu23:=Tryz.underlying23;have HR0:=Aside0.mk hr0;have HC0:=Aside0.mk hc0;clear hr0 hc0;have HB:=Aside0.mk (Below.refl w.heap.size w);have H:((lzsane.f k).bind fun t680=>(if (l0.length:Int) > 200 then (lzInsnPatched.j0 k l0 l2 t680 (wrap64 (a1)) true) else (lzInsnPatched.j0 k l0 l2 t680 (wrap64 (a1)) (decide ((wrap64 (a1))≥(l0.length:Int))))))=some r:=h;clear h;replace H:=Option.bind_eq_some_iff.mp H;obtain ⟨t680,A40,H⟩:=H;replace H:(if (l0.length:Int) > 200 then (lzInsnPatched.j0 k l0 l2 t680 (wrap64 (a1)) true) else (lzInsnPatched.j0 k l0 l2 t680 (wrap64 (a1)) (decide ((wrap64 (a1))≥(l0.length:Int)))))=some r:=H;have A4:=Aside0.mk A40;clear A40;have HC5:=Aside0.mk H;clear H;go_enter Tryz.func8,Tryz.ntmps8
 go_upto_region 3 with (first | ((with_reducible refine gate_callee (f:=17) rfl ?_);refine goesL_ (some 18) rfl rfl Tryz.func17 (by kernel_rfl) rfl #[] rfl fq ?_;(with_reducible refine (lzsane.calls k  t680 _ A4.out gwy).mono ?_);rintro e w6 ⟨rfl,hb⟩;refine ⟨_,rfl,?_⟩;have n0_:=Aside0.mk (below_step blw hb);clear HB;have HB:=n0_;clear n0_;(try clear hb);(try clear hb2);(try clear hk);(try clear hi)))
 (try simp only [Act.put,List.setIfInBounds_toArray,List.set_cons_zero,List.set_cons_succ]);go_cut [29] (fun v29 wc=>∃ (kq:Nat) (x29_4:Bool),v29=.bool x29_4∧(x29_4=false→wrap64 a1 < (l0.length:Int))∧Aside0 (lzInsnPatched.j0 kq l0 l2 t680 (wrap64 (a1)) x29_4=some r)∧Aside0 (kq≤k)∧Aside0 (Below w.heap.size w wc))
 case first =>
  have H:=HC5.out;clear HC5;by_cases c7:(l0.length:Int) > 200
  ·rw [if_pos c7] at H;have c7b0:decide (200 < (l0.length:Int))=true:=decide_eq_true c7;have c7b1:decide (200 < l0.length)=true:=decide_eq_true (by omega);clear c7;(first | rw [c7b0] | (simp only [i64_w,i32_w];rw [c7b0]) | skip);have H':=Aside0.mk H;clear H;go_wp2;go_meet
   case rel=>exact ⟨_,(true),rsd,(fun h=>by cases h),H',⟨by first | omega | exact Nat.le_refl _⟩,⟨blw⟩⟩
  ·rw [if_neg c7] at H;have c7b0:decide (200 < (l0.length:Int))=false:=decide_eq_false c7;have c7b1:decide (200 < l0.length)=false:=decide_eq_false (by omega);clear c7;(first | rw [c7b0] | (simp only [i64_w,i32_w];rw [c7b0]) | skip);have H':=Aside0.mk H;clear H;go_wp2;go_meet
   case rel=>exact ⟨_,(decide ((wrap64 (a1))≥(l0.length:Int))),rsd,(fun h=>by simpa using h),H',⟨by first | omega | exact Nat.le_refl _⟩,⟨blw⟩⟩
 case rest =>
  clear HC5;obtain ⟨kq,x29_4,rfl,hx29,HA,HJ4,HB⟩:=hcut;cases kq with
  | zero=>exact absurd HA.out (by simp [lzInsnPatched.j0])
  | succ kj4 =>
   have H:=HA.out;clear HA;simp only [lzInsnPatched.j0] at H;by_cases c8:x29_4=true
   ·subst c8;have H1:(some t680)=some r:=by rw [if_pos rfl] at H;exact H
    clear H;have H:=H1;clear H1;obtain rfl:=Option.some.inj H;go_wp2;go_ret;exact ⟨rew,blw⟩
   ·replace c8:=Bool.eq_false_iff.mpr c8;have HX:=Aside0.mk (hx29 c8);clear hx29;subst c8;have H1:(if 0≤(wrap64 (a1)) then (if (wrap64 (a1))≤(l0.length:Int) then ((insn_Decode.f kj4 (l0.drop ((wrap64 (a1)):Int).toNat)).bind fun bt682=>(if bt682.2.2.2.2.2=0 then (lzInsnPatched.l0 kj4 l0 t680 (wrap64 (a1)) l2 0) else (some t680))) else (none)) else (none))=some r:=by rw [if_neg (show ¬ (false=true) by decide)] at H;exact H
    clear H;have H:=H1;clear H1;obtain ⟨ji9,hji9⟩:∃ j_:Int,(wrap64 (a1))=j_:=⟨_,rfl⟩;replace H:(if 0≤(ji9) then (if (ji9)≤(l0.length:Int) then ((insn_Decode.f kj4 (l0.drop ((ji9):Int).toNat)).bind fun bt682=>(if bt682.2.2.2.2.2=0 then (lzInsnPatched.l0 kj4 l0 t680 (ji9) l2 0) else (some t680))) else (none)) else (none))=some r:=by first | (rw [hji9] at H;exact H) | (simp only [hji9] at H ⊢;exact H)
    have hji9w:(IntKind.i64.wrap (a1))=ji9:=(i64_w _).trans hji9;by_cases c10:0≤(ji9)
    ·rw [if_pos c10] at H;have c10b0:=eq_true c10;have c10b1:=decide_eq_true c10;clear c10;by_cases c11:(ji9)≤(l0.length:Int)
     ·rw [if_pos c11] at H;have c11b0:=eq_true c11;have c11b1:=decide_eq_true c11;clear c11;replace H:=Option.bind_eq_some_iff.mp H;obtain ⟨⟨t682,t683,t684,t685,t686,t687⟩,A120,H⟩:=H;replace H:(if t687=0 then (lzInsnPatched.l0 kj4 l0 t680 (ji9) l2 0) else (some t680))=some r:=H;have A12:=Aside0.mk A120;clear A120;by_cases c13:t687=0
      ·rw [if_pos c13] at H;obtain ⟨c13b0,c13b1⟩:=bqt c13;clear c13;have H':=Aside0.mk H;clear H;obtain ⟨i014,hi014,_,hsz14,_⟩:=info_parts info5;obtain ⟨A14,hcut14,hA14,hC14⟩:=print_drop_of (P:=Tryz.prog) (Value.int .u8) 0 24 5 .i64 Tryz.underlying24 hi014 hsz14 A0 c0 l0 (ji9) (of_decide_eq_true asm) (of_decide_eq_true asm) HC0.out;have HR681:=Aside0.mk (Kd.C_of_reads (h1:=fun _=>rfl) (hA14 _ (Kd.reads_of_C HR0.out)));have HC681:=Aside0.mk hC14;clear hA14 hC14 hi014 hsz14;go_upto_region 8 with (first | ((with_reducible refine gate_callee (f:=22) rfl ?_);refine goesL_ (some 35) rfl rfl Tryz.func22 (by kernel_rfl) rfl #[.slice A14 (l0.drop ((ji9):Int).toNat).length (c0 - (ji9).toNat)] rfl (by (try simp only [List.map_toArray,List.map_cons,List.map_nil]);first | done | (rw [show (l0.drop ((ji9):Int).toNat).length=(l0.length - (ji9).toNat) from List.length_drop] <;> rfl) | (simp only [hji9];rfl) | rfl | (simp only [List.length_drop,List.length_take];rfl)) ?_;(with_reducible refine (insn_Decode.calls kj4 (fun k_=>k_ < w.heap.size) _ _ (l0.drop ((ji9):Int).toNat) t682 t683 t684 t685 t686 t687 _ ?side1 A12.out gwy).mono ?_);(case side1=>exact Kd.V_mk HC681.out (Kd.F_below (Kd.C_F (Kd.heap_int .u8) HR681.out) blw));rintro e w15 ⟨rfl,hb⟩;refine ⟨_,rfl,?_⟩;have n0_:=Aside0.mk (below_step blw hb);clear HB;have HB:=n0_;clear n0_;(try clear hb);(try clear hb2);(try clear hk);(try clear hi)) | ((with_reducible refine gate_dst (N:=7) rfl ?_);(try (refine gate_guard (by rfl) ?_;dsimp only));refine box_event ?hg (N:=7) ?hd (cs:=#[.int .i64 0,.int .i64 0,.int .i64 0,.int .i64 0]) (t:=23) ?hr ?_;(case hd=>rfl);(case hg=>rfl);(case hr=>first | (go_simp;done) | (go_simp;rfl));intro gb688 hg w16 hbox hb;have n0_:=Aside0.mk (below_step blw hb);have n1_:=Aside0.mk (hbox);have n2_:=Aside0.mk ((by rw [hg];exact (below_size blw):w.heap.size≤gb688));have n3_:=Aside0.mk ((by rw [hg];exact (below_size blw):w.heap.size≤gb688));clear HB;have HB:=n0_;have BK688:=n1_;have GW688:=n2_;have GE688:=n3_;clear n0_ n1_ n2_ n3_;clear hb hbox hg;obtain ⟨hcz17_0,hcz17_1,hcz17_2,hcz17_3,hfz17_0,hfz17_1,hfz17_2,hfz17_3⟩:=bz4 BK688.out))
       try simp only [Act.put,List.setIfInBounds_toArray,List.set_cons_zero,List.set_cons_succ]
       have BKx:((((w16.setCell ⟨gb688,0,none⟩ (.int .i64 t682)).setCell ⟨gb688,1,none⟩ (.int .i64 t683)).setCell ⟨gb688,2,none⟩ (.int .i64 t684)).setCell ⟨gb688,3,none⟩ (.int .i64 t685)).heap[gb688]?=some (.cells #[.int .i64 t682,.int .i64 t683,.int .i64 t684,.int .i64 t685] 23 (0,0)):=by
        refine blk_put (cs:=#[.int .i64 t682,.int .i64 t683,.int .i64 t684,.int .i64 0]) ?_ 3 _ rfl;refine blk_put (cs:=#[.int .i64 t682,.int .i64 t683,.int .i64 0,.int .i64 0]) ?_ 2 _ rfl;refine blk_put (cs:=#[.int .i64 t682,.int .i64 0,.int .i64 0,.int .i64 0]) ?_ 1 _ rfl;refine blk_put (cs:=#[.int .i64 0,.int .i64 0,.int .i64 0,.int .i64 0]) ?_ 0 _ rfl;exact BK688.out
       have HBx:Below w.heap.size w ((((w16.setCell ⟨gb688,0,none⟩ (.int .i64 t682)).setCell ⟨gb688,1,none⟩ (.int .i64 t683)).setCell ⟨gb688,2,none⟩ (.int .i64 t684)).setCell ⟨gb688,3,none⟩ (.int .i64 t685)):=below_set (below_set (below_set (below_set HB.out GE688.out) GE688.out) GE688.out) GE688.out;clear hcz17_0 hcz17_1 hcz17_2 hcz17_3 hfz17_0 hfz17_1 hfz17_2 hfz17_3;generalize ((((w16.setCell ⟨gb688,0,none⟩ (.int .i64 t682)).setCell ⟨gb688,1,none⟩ (.int .i64 t683)).setCell ⟨gb688,2,none⟩ (.int .i64 t684)).setCell ⟨gb688,3,none⟩ (.int .i64 t685))=w17 at BKx HBx ⊢;clear BK688 HB;have BK688:=Aside0.mk BKx;have HB:=Aside0.mk HBx;clear BKx HBx;obtain ⟨y1,hy1⟩:∃ y_:List Int,y_=([]:List Int):=⟨_,rfl⟩;have Ny1:=Aside0.mk hy1;obtain ⟨y2,hy2⟩:∃ y_:List Int,y_=y1 ++ l0:=⟨_,rfl⟩;have Ny2:=Aside0.mk hy2;have LM1:Aside0 (y1.length+l0.length < 140737488355328):=⟨by rw [hy1];simpa using HLB.out⟩;have e2:Aside0 (y2=l0):=⟨by rw [hy2,hy1];rfl⟩;clear hy1 hy2;go_upto_region 9 with (first | ((with_reducible refine gate_dst (N:=42) rfl ?_);(try (refine gate_guard (by rfl) ?_;dsimp only));refine Kd.R_lit (Kd.int .u8) _ 5 ?hg (N:=42) ?hd (xs:=([]:List Int)) (inner:=[]) (ok:=fun _=>True) (okp:=fun _=>True) ?hr ?hp (fun _ hk=>hk) trivial (Below.refl _ _) (Nat.le_refl _) (by simp) ?_;(case hd=>rfl);(case hg=>rfl);(case hr=>first | (go_simp;done) | (go_simp;rfl));(case hp=>exact (Reps.none _ _));intro v1 w18 ho17 hb hg_ hnew_;clear hg_ hnew_;rw [← Ny1.out] at ho17;have n1_:=Aside0.mk (Kd.R_lower ho17 (below_size HB.out));have n2_:=Aside0.mk (blk_below (g:=gb688) (o:=.cells #[.int .i64 t682,.int .i64 t683,.int .i64 t684,.int .i64 t685] 23 (0,0)) BK688.out hb);have n3_:=Aside0.mk (below_step HB.out hb);clear BK688;clear HB;have HO1:=n1_;have BK688:=n2_;have HB:=n3_;clear n1_ n2_ n3_;clear hb ho17) | ((with_reducible refine gate_builtin (b:=.append) (xs:=#[.tmp 42,.tmp 43]) rfl ?_);(try (refine gate_guard (by rfl) ?_;dsimp only));at_builtin;refine Kd.R_append_rows (Kd.int .u8) (w0:=w) w.heap.size rfl (.tmp 42) (.tmp 43) 24 5 (.int .u8 0) 1 rfl Tryz.underlying24 info5 rfl (by decide) (by omega) v1 y1 l0 _ _ _ (fun _=>True) (fun _=>False) rfl rfl ?aO ?aR (fun _ _ h=>h) (fun _ h=>h.elim) ?aF ?aB ?aS ?aL ?_;(case aR=>exact (Kd.C_below HR0.out HB.out));(case aB=>exact HB.out);(case aF=>exact (fun _ _=>trivial));(case aO=>exact HO1.out);(case aS=>exact (below_size HB.out));(case aL=>have:=LM1.out;omega);intro v2 w19 ho hb hg hat;rw [← Ny2.out] at ho;have n0_:=Aside0.mk (blk_grown (g:=gb688) (o:=.cells #[.int .i64 t682,.int .i64 t683,.int .i64 t684,.int .i64 t685] 23 (0,0)) BK688.out hg (Kd.R_ne HO1.out BK688.out (by decide)));have n2_:=Aside0.mk (hb);have n3_:=Aside0.mk (ho);clear BK688;clear HB;clear HO1;have BK688:=n0_;have HB:=n2_;have HO2:=n3_;clear n0_ n2_ n3_;clear ho hb hg hat))
       try simp only [Act.put,List.setIfInBounds_toArray,List.set_cons_zero,List.set_cons_succ]
       have j0:0≤ji9:=of_decide_eq_true c10b1;have j1:ji9 < (y2.length:Int):=by rw [e2.out,← hji9];exact HX.out
       obtain ⟨g2,c2,ev,hgb,hgl,cells,hcells⟩:=Kd.R_form HO2.out (by omega);subst ev;obtain ⟨hq1,hq2⟩:=Kd.R_cell (enc:=Value.int .u8) (h1:=fun _=>rfl) (0:Int) HO2.out ji9 j0 j1;have j2:decide (ji9 < (y2.length:Int))=true:=decide_eq_true j1;have hne:gb688≠g2:=by
        intro e;exact Kd.R_ne HO2.out BK688.out (by decide) (by rw [e];rfl)
       go_upto_region 10 with fail
       try simp only [Act.put,List.setIfInBounds_toArray,List.set_cons_zero,List.set_cons_succ]
       have hp:=(Kd.R_put (enc:=Value.int .u8) (h1:=fun _=>rfl) HO2.out ji9 (204:Int)).1;have hb2:Below w.heap.size w (w19.setCell ⟨g2,ji9.toNat,none⟩ (.int .u8 204)):=below_set HB.out hgb;have hk2:(w19.setCell ⟨g2,ji9.toNat,none⟩ (.int .u8 204)).heap[gb688]?=some (.cells #[.int .i64 t682,.int .i64 t683,.int .i64 t684,.int .i64 t685] 23 (0,0)):=blk_far BK688.out hne _;clear HO2 hcells hq1 hq2 hgl;generalize w19.setCell ⟨g2,ji9.toNat,none⟩ (.int .u8 204)=W2 at hp hb2 hk2 ⊢;clear BK688 HB;have e3:y2.set ji9.toNat 204=l2:=by rw [e2.out,HL2.out,hji9]
       rw [e3] at hp;have hlen:l2.length=y2.length:=by rw [← e3,List.length_set]
       rw [← hlen] at hp ⊢;obtain ⟨-,hc2,hr2⟩:=Kd.R_reads' hp;clear hp e3 hlen j1 j2;obtain ⟨A2,hA2⟩:∃ A_:Option Addr,some ⟨g2,0,none⟩=A_:=⟨_,rfl⟩;rw [hA2] at hr2 ⊢;clear hA2 hgb hne;have HR2:=Aside0.mk hr2;have HC2:=Aside0.mk hc2;have HR0:=Aside0.mk (Kd.C_below HR0.out hb2);have hgw:GW W2:=hgw.below hb2 (Nat.le_refl _);have HWW:=Aside0.mk hb2.size;have HB2:=Aside0.mk hb2;have BK688:=Aside0.mk hk2;have HB:=Aside0.mk (Below.refl W2.heap.size W2);clear hr2 hc2 hb2 hk2;go_wp2;try simp only [Act.put,List.setIfInBounds_toArray,List.set_cons_zero,List.set_cons_succ]
       go_loopg [11] kj4 (fun kq v11 w'=>∃ (x11_2:Int),v11=.int .i64 x11_2∧Aside0 (lzInsnPatched.l0 kq l0 t680 (ji9) l2 x11_2=some r)∧Aside0 (kq≤kj4)∧Aside0 (w'.heap[gb688]?=some (.cells #[.int .i64 t682,.int .i64 t683,.int .i64 t684,.int .i64 t685] 23 (0,0)))∧Aside0 (Below W2.heap.size W2 w'))
       case atStart=>exact ⟨(0),rsd,H',⟨Nat.le_refl _⟩,⟨BK688.out⟩,⟨blw⟩⟩
       case round =>
        clear H';try clear c2
        try clear c8
        try clear c10b0
        try clear c10b1
        try clear c11b0
        try clear c11b1
        try clear c13b0
        try clear c13b1
        obtain ⟨x11_2,rfl,HA,HK2,BK688,HB⟩:=hrel;cases gk with
        | zero=>exact absurd HA.out (by simp [lzInsnPatched.l0])
        | succ k2 =>
         have H:=HA.out;clear HA;simp only [lzInsnPatched.l0] at H;by_cases c18:x11_2 < (l0.length:Int)
         ·rw [if_pos c18] at H;have c18b0:=decide_eq_true c18;clear c18;by_cases c19:0≤x11_2
          ·rw [if_pos c19] at H;have c19b0:=eq_true c19;have c19b1:=decide_eq_true c19;clear c19;by_cases c20:x11_2≤(l0.length:Int)
           ·rw [if_pos c20] at H;have c20b0:=eq_true c20;have c20b1:=decide_eq_true c20;clear c20;replace H:=Option.bind_eq_some_iff.mp H;obtain ⟨⟨t690,t691,t692,t693,t694,t695⟩,A210,H⟩:=H;replace H:(if x11_2≤(l2.length:Int) then ((insn_Decode.f k2 (l2.drop (x11_2:Int).toNat)).bind fun bt698=>(if x11_2=(ji9) then (if bt698.2.2.2.2.2=0 then (if (!(bt698.1 == 76) || (!(bt698.2.1 == 0) || (!(bt698.2.2.1 == 0) || (!(bt698.2.2.2.1 == 0)))))=true then (some false) else (if bt698.2.2.2.2.1=1 then (lzInsnPatched.l0 k2 l0 t680 (ji9) l2 (wrap64 (x11_2+1))) else (some false))) else (some false)) else (if (!(t690 == bt698.1) || (!(t691 == bt698.2.1) || (!(t692 == bt698.2.2.1) || (!(t693 == bt698.2.2.2.1)))))=true then (some false) else (if t694=bt698.2.2.2.2.1 then (if t695=bt698.2.2.2.2.2 then (lzInsnPatched.l0 k2 l0 t680 (ji9) l2 (wrap64 (x11_2+1))) else (some false)) else (some false))))) else (none))=some r:=H;have A21:=Aside0.mk A210;clear A210;have c22b0:=eq_true (of_decide_eq_true asm:0≤x11_2);by_cases c23:x11_2≤(l2.length:Int)
            ·rw [if_pos c23] at H;have c23b0:=eq_true c23;have c23b1:=decide_eq_true c23;clear c23;replace H:=Option.bind_eq_some_iff.mp H;obtain ⟨⟨t698,t699,t700,t701,t702,t703⟩,A240,H⟩:=H;replace H:(if x11_2=(ji9) then (if t703=0 then (if (!(t698 == 76) || (!(t699 == 0) || (!(t700 == 0) || (!(t701 == 0)))))=true then (some false) else (if t702=1 then (lzInsnPatched.l0 k2 l0 t680 (ji9) l2 (wrap64 (x11_2+1))) else (some false))) else (some false)) else (if (!(t690 == t698) || (!(t691 == t699) || (!(t692 == t700) || (!(t693 == t701)))))=true then (some false) else (if t694=t702 then (if t695=t703 then (lzInsnPatched.l0 k2 l0 t680 (ji9) l2 (wrap64 (x11_2+1))) else (some false)) else (some false))))=some r:=H;have A24:=Aside0.mk A240;clear A240;by_cases c25:x11_2=(ji9)
             ·rw [if_pos c25] at H;obtain ⟨c25b0,c25b1⟩:=bqt c25;clear c25;by_cases c26:t703=0
              ·rw [if_pos c26] at H;obtain ⟨c26b0,c26b1⟩:=bqt c26;clear c26;by_cases c27:(!(t698 == 76) || (!(t699 == 0) || (!(t700 == 0) || (!(t701 == 0)))))=true
               ·rw [if_pos c27] at H;have c27b0:(!(t698 == 76) || (!(t699 == 0) || (!(t700 == 0) || (!(t701 == 0)))))=true:=c27;clear c27;exact absurd (H.trans (congrArg some HRT.out)) (by simp)
               ·rw [if_neg c27] at H;have c27b0:(!(t698 == 76) || (!(t699 == 0) || (!(t700 == 0) || (!(t701 == 0)))))=false:=by simpa using c27
                clear c27;by_cases c40:t702=1
                ·rw [if_pos c40] at H;obtain ⟨c40b0,c40b1⟩:=bqt c40;clear c40;have H':=Aside0.mk H;clear H;obtain ⟨i041,hi041,_,hsz41,_⟩:=info_parts info5;obtain ⟨A41,hcut41,hA41,hC41⟩:=print_drop_of (P:=Tryz.prog) (Value.int .u8) 0 24 5 .i64 Tryz.underlying24 hi041 hsz41 A0 c0 l0 x11_2 (of_decide_eq_true asm) (of_decide_eq_true asm) HC0.out;have HR689:=Aside0.mk (Kd.C_of_reads (h1:=fun _=>rfl) (hA41 _ (Kd.reads_of_C HR0.out)));have HC689:=Aside0.mk hC41;clear hA41 hC41 hi041 hsz41;go_wp2_with (first | ((with_reducible refine gate_callee (f:=22) rfl ?_);refine goesL_ (some 58) rfl rfl Tryz.func22 (by kernel_rfl) rfl #[.slice A41 (l0.drop (x11_2:Int).toNat).length (c0 - x11_2.toNat)] rfl (by (try simp only [List.map_toArray,List.map_cons,List.map_nil]);first | done | (rw [show (l0.drop (x11_2:Int).toNat).length=(l0.length - x11_2.toNat) from List.length_drop] <;> rfl) | rfl | (simp only [List.length_drop,List.length_take];rfl)) ?_;(with_reducible refine (insn_Decode.calls k2 (fun k_=>k_ < W2.heap.size) _ _ (l0.drop (x11_2:Int).toNat) t690 t691 t692 t693 t694 t695 _ ?side1 A21.out gwy).mono ?_);(case side1=>exact Kd.V_mk HC689.out (Kd.F_below (Kd.C_F (Kd.heap_int .u8) HR689.out) blw));rintro e w42 ⟨rfl,hb⟩;refine ⟨_,rfl,?_⟩;have n0_:=Aside0.mk (blk_below (g:=gb688) (o:=.cells #[.int .i64 t682,.int .i64 t683,.int .i64 t684,.int .i64 t685] 23 (0,0)) bko hb);have n1_:=Aside0.mk (below_step blw hb);clear BK688;clear HB;have BK688:=n0_;have HB:=n1_;clear n0_ n1_;(try clear hb);(try clear hb2);(try clear hk);(try clear hi)) | ((with_reducible refine gate_dst (N:=12) rfl ?_);(try (refine gate_guard (by rfl) ?_;dsimp only));refine box_event ?hg (N:=12) ?hd (cs:=#[.int .i64 0,.int .i64 0,.int .i64 0,.int .i64 0]) (t:=23) ?hr ?_;(case hd=>rfl);(case hg=>rfl);(case hr=>first | (go_simp;done) | (go_simp;rfl));intro gb696 hg w43 hbox hb;have n0_:=Aside0.mk (blk_below (g:=gb688) (o:=.cells #[.int .i64 t682,.int .i64 t683,.int .i64 t684,.int .i64 t685] 23 (0,0)) bko hb);have n1_:=Aside0.mk (below_step blw hb);have n2_:=Aside0.mk (hbox);have n3_:=Aside0.mk ((by rw [hg];exact (below_size blw):W2.heap.size≤gb696));have n4_:=Aside0.mk ((by rw [hg];exact (below_size blw):W2.heap.size≤gb696));have n5_:=Aside0.mk ((by rw [hg];exact Nat.ne_of_lt (blk_lt (g:=gb688) (o:=.cells #[.int .i64 t682,.int .i64 t683,.int .i64 t684,.int .i64 t685] 23 (0,0)) bko):gb688≠gb696));have n6_:=Aside0.mk ((by rw [hg];exact Nat.ne_of_gt (blk_lt (g:=gb688) (o:=.cells #[.int .i64 t682,.int .i64 t683,.int .i64 t684,.int .i64 t685] 23 (0,0)) bko):gb696≠gb688));clear BK688;clear HB;have BK688:=n0_;have HB:=n1_;have BK696:=n2_;have GW696:=n3_;have GE696:=n4_;have NB688_696:=n5_;have NB696_688:=n6_;clear n0_ n1_ n2_ n3_ n4_ n5_ n6_;clear hb hbox hg;have hnb44:=NB696_688.out;have hnc44:=NB688_696.out;obtain ⟨hcz45_0,hcz45_1,hcz45_2,hcz45_3,hfz45_0,hfz45_1,hfz45_2,hfz45_3⟩:=bz4 BK696.out) | ((with_reducible refine gate_store (t:=23) (p:=12) rfl ?_);refine store_event (t:=23) (p:=12) (v:=?vo_w46) (w1:=((((w43.setCell ⟨gb696,0,none⟩ (.int .i64 t690)).setCell ⟨gb696,1,none⟩ (.int .i64 t691)).setCell ⟨gb696,2,none⟩ (.int .i64 t692)).setCell ⟨gb696,3,none⟩ (.int .i64 t693))) ?hg ?ho ?hn ?hr ?_;(case ho=>rfl);(case hg=>rfl);(case hn=>rfl);(case hr=>first | (go_simp;done) | (go_simp;rfl));intro w46 hw;have n0_:Aside0 (w46.heap[gb688]?=some (.cells #[.int .i64 t682,.int .i64 t683,.int .i64 t684,.int .i64 t685] 23 (0,0))):=⟨(by rw [hw];exact (by (with_reducible repeat (first | refine blk_drewN ?_ _ | refine blk_drew ?_ | refine blk_alloc ?_ _));refine blk_far ?_ NB688_696.out _;(with_reducible repeat (first | refine blk_drewN ?_ _ | refine blk_drew ?_ | refine blk_alloc ?_ _));refine blk_far ?_ NB688_696.out _;(with_reducible repeat (first | refine blk_drewN ?_ _ | refine blk_drew ?_ | refine blk_alloc ?_ _));refine blk_far ?_ NB688_696.out _;(with_reducible repeat (first | refine blk_drewN ?_ _ | refine blk_drew ?_ | refine blk_alloc ?_ _));refine blk_far ?_ NB688_696.out _;(with_reducible repeat (first | refine blk_drewN ?_ _ | refine blk_drew ?_ | refine blk_alloc ?_ _));exact BK688.out))⟩;have n1_:Aside0 (w46.heap[gb696]?=some (.cells #[.int .i64 t690,.int .i64 t691,.int .i64 t692,.int .i64 t693] 23 (0,0))):=⟨(by rw [hw];exact (by (with_reducible repeat (first | refine blk_drewN ?_ _ | refine blk_drew ?_ | refine blk_alloc ?_ _));refine blk_put (cs:=#[.int .i64 t690,.int .i64 t691,.int .i64 t692,.int .i64 0]) ?_ 3 _ rfl;refine blk_put (cs:=#[.int .i64 t690,.int .i64 t691,.int .i64 0,.int .i64 0]) ?_ 2 _ rfl;refine blk_put (cs:=#[.int .i64 t690,.int .i64 0,.int .i64 0,.int .i64 0]) ?_ 1 _ rfl;refine blk_put (cs:=#[.int .i64 0,.int .i64 0,.int .i64 0,.int .i64 0]) ?_ 0 _ rfl;(with_reducible repeat (first | refine blk_drewN ?_ _ | refine blk_drew ?_ | refine blk_alloc ?_ _));exact BK696.out))⟩;have n2_:Aside0 (Below W2.heap.size W2 w46):=⟨(by rw [hw];exact blw)⟩;clear hw;clear BK688;clear BK696;clear HB;have BK688:=n0_;have BK696:=n1_;have HB:=n2_;clear n0_ n1_ n2_;obtain ⟨i047,hi047,_,hsz47,_⟩:=info_parts info5;obtain ⟨A47,hcut47,hA47,hC47⟩:=print_drop_of (P:=Tryz.prog) (Value.int .u8) 0 24 5 .i64 Tryz.underlying24 hi047 hsz47 A2 c2 l2 x11_2 (of_decide_eq_true asm) (of_decide_eq_true asm) HC2.out;have HR697:=Aside0.mk (Kd.C_of_reads (h1:=fun _=>rfl) (hA47 _ (Kd.reads_of_C HR2.out)));have HC697:=Aside0.mk hC47;clear hA47 hC47 hi047 hsz47) | ((with_reducible refine gate_callee (f:=22) rfl ?_);refine goesL_ (some 66) rfl rfl Tryz.func22 (by kernel_rfl) rfl #[.slice A47 (l2.drop (x11_2:Int).toNat).length (c2 - x11_2.toNat)] rfl (by (try simp only [List.map_toArray,List.map_cons,List.map_nil]);first | done | (rw [show (l2.drop (x11_2:Int).toNat).length=(l2.length - x11_2.toNat) from List.length_drop] <;> rfl) | rfl | (simp only [List.length_drop,List.length_take];rfl)) ?_;(with_reducible refine (insn_Decode.calls k2 (fun k_=>k_ < W2.heap.size) _ _ (l2.drop (x11_2:Int).toNat) t698 t699 t700 t701 t702 t703 _ ?side1 A24.out gwy).mono ?_);(case side1=>exact Kd.V_mk HC697.out (Kd.F_below (Kd.C_F (Kd.heap_int .u8) HR697.out) blw));rintro e w48 ⟨rfl,hb⟩;refine ⟨_,rfl,?_⟩;have n0_:=Aside0.mk (blk_below (g:=gb688) (o:=.cells #[.int .i64 t682,.int .i64 t683,.int .i64 t684,.int .i64 t685] 23 (0,0)) bko hb);have n1_:=Aside0.mk (blk_below (g:=gb696) (o:=.cells #[.int .i64 t690,.int .i64 t691,.int .i64 t692,.int .i64 t693] 23 (0,0)) bko hb);have n2_:=Aside0.mk (below_step blw hb);clear BK688;clear BK696;clear HB;have BK688:=n0_;have BK696:=n1_;have HB:=n2_;clear n0_ n1_ n2_;(try clear hb);(try clear hb2);(try clear hk);(try clear hi)) | ((with_reducible refine gate_dst (N:=15) rfl ?_);(try (refine gate_guard (by rfl) ?_;dsimp only));refine box_event ?hg (N:=15) ?hd (cs:=#[.int .i64 0,.int .i64 0,.int .i64 0,.int .i64 0]) (t:=23) ?hr ?_;(case hd=>rfl);(case hg=>rfl);(case hr=>first | (go_simp;done) | (go_simp;rfl));intro gb704 hg w49 hbox hb;have n0_:=Aside0.mk (blk_below (g:=gb688) (o:=.cells #[.int .i64 t682,.int .i64 t683,.int .i64 t684,.int .i64 t685] 23 (0,0)) bko hb);have n1_:=Aside0.mk (blk_below (g:=gb696) (o:=.cells #[.int .i64 t690,.int .i64 t691,.int .i64 t692,.int .i64 t693] 23 (0,0)) bko hb);have n2_:=Aside0.mk (below_step blw hb);have n3_:=Aside0.mk (hbox);have n4_:=Aside0.mk ((by rw [hg];exact (below_size blw):W2.heap.size≤gb704));have n5_:=Aside0.mk ((by rw [hg];exact (below_size blw):W2.heap.size≤gb704));have n6_:=Aside0.mk ((by rw [hg];exact Nat.ne_of_lt (blk_lt (g:=gb688) (o:=.cells #[.int .i64 t682,.int .i64 t683,.int .i64 t684,.int .i64 t685] 23 (0,0)) bko):gb688≠gb704));have n7_:=Aside0.mk ((by rw [hg];exact Nat.ne_of_gt (blk_lt (g:=gb688) (o:=.cells #[.int .i64 t682,.int .i64 t683,.int .i64 t684,.int .i64 t685] 23 (0,0)) bko):gb704≠gb688));have n8_:=Aside0.mk ((by rw [hg];exact Nat.ne_of_lt (blk_lt (g:=gb696) (o:=.cells #[.int .i64 t690,.int .i64 t691,.int .i64 t692,.int .i64 t693] 23 (0,0)) bko):gb696≠gb704));have n9_:=Aside0.mk ((by rw [hg];exact Nat.ne_of_gt (blk_lt (g:=gb696) (o:=.cells #[.int .i64 t690,.int .i64 t691,.int .i64 t692,.int .i64 t693] 23 (0,0)) bko):gb704≠gb696));clear BK688;clear BK696;clear HB;have BK688:=n0_;have BK696:=n1_;have HB:=n2_;have BK704:=n3_;have GW704:=n4_;have GE704:=n5_;have NB688_704:=n6_;have NB704_688:=n7_;have NB696_704:=n8_;have NB704_696:=n9_;clear n0_ n1_ n2_ n3_ n4_ n5_ n6_ n7_ n8_ n9_;clear hb hbox hg;have hnb50:=NB704_688.out;have hnc50:=NB688_704.out;have hnb51:=NB704_696.out;have hnc51:=NB696_704.out;obtain ⟨hcz52_0,hcz52_1,hcz52_2,hcz52_3,hfz52_0,hfz52_1,hfz52_2,hfz52_3⟩:=bz4 BK704.out))
                 go_roundg k2
                 case measure=>have:=HJ4.out;have:=HK2.out;omega
                 case rel=>exact ⟨(wrap64 (x11_2+1)),rsd,H',⟨by have:=HJ4.out;have:=HK2.out;omega⟩,⟨by (with_reducible repeat (first | refine blk_drewN ?_ _ | refine blk_drew ?_ | refine blk_alloc ?_ _));refine blk_far ?_ NB688_704.out _;(with_reducible repeat (first | refine blk_drewN ?_ _ | refine blk_drew ?_ | refine blk_alloc ?_ _));refine blk_far ?_ NB688_704.out _;(with_reducible repeat (first | refine blk_drewN ?_ _ | refine blk_drew ?_ | refine blk_alloc ?_ _));refine blk_far ?_ NB688_704.out _;(with_reducible repeat (first | refine blk_drewN ?_ _ | refine blk_drew ?_ | refine blk_alloc ?_ _));refine blk_far ?_ NB688_704.out _;(with_reducible repeat (first | refine blk_drewN ?_ _ | refine blk_drew ?_ | refine blk_alloc ?_ _));exact BK688.out⟩,⟨blw⟩⟩
                ·rw [if_neg c40] at H;obtain ⟨c40b0,c40b1⟩:=bqf c40;exact absurd (H.trans (congrArg some HRT.out)) (by simp)
              ·rw [if_neg c26] at H;obtain ⟨c26b0,c26b1⟩:=bqf c26;exact absurd (H.trans (congrArg some HRT.out)) (by simp)
             ·rw [if_neg c25] at H;obtain ⟨c25b0,c25b1⟩:=bqf c25;by_cases c77:(!(t690 == t698) || (!(t691 == t699) || (!(t692 == t700) || (!(t693 == t701)))))=true
              ·rw [if_pos c77] at H;have c77b0:(!(t690 == t698) || (!(t691 == t699) || (!(t692 == t700) || (!(t693 == t701)))))=true:=c77;clear c77;exact absurd (H.trans (congrArg some HRT.out)) (by simp)
              ·rw [if_neg c77] at H;have c77b0:(!(t690 == t698) || (!(t691 == t699) || (!(t692 == t700) || (!(t693 == t701)))))=false:=by simpa using c77
               clear c77;by_cases c91:t694=t702
               ·rw [if_pos c91] at H;obtain ⟨c91b0,c91b1⟩:=bqt c91;clear c91;by_cases c92:t695=t703
                ·rw [if_pos c92] at H;obtain ⟨c92b0,c92b1⟩:=bqt c92;clear c92;have H':=Aside0.mk H;clear H;obtain ⟨i093,hi093,_,hsz93,_⟩:=info_parts info5;obtain ⟨A93,hcut93,hA93,hC93⟩:=print_drop_of (P:=Tryz.prog) (Value.int .u8) 0 24 5 .i64 Tryz.underlying24 hi093 hsz93 A0 c0 l0 x11_2 (of_decide_eq_true asm) (of_decide_eq_true asm) HC0.out;have HR689:=Aside0.mk (Kd.C_of_reads (h1:=fun _=>rfl) (hA93 _ (Kd.reads_of_C HR0.out)));have HC689:=Aside0.mk hC93;clear hA93 hC93 hi093 hsz93;go_wp2_with (first | ((with_reducible refine gate_callee (f:=22) rfl ?_);refine goesL_ (some 58) rfl rfl Tryz.func22 (by kernel_rfl) rfl #[.slice A93 (l0.drop (x11_2:Int).toNat).length (c0 - x11_2.toNat)] rfl (by (try simp only [List.map_toArray,List.map_cons,List.map_nil]);first | done | (rw [show (l0.drop (x11_2:Int).toNat).length=(l0.length - x11_2.toNat) from List.length_drop] <;> rfl) | rfl | (simp only [List.length_drop,List.length_take];rfl)) ?_;(with_reducible refine (insn_Decode.calls k2 (fun k_=>k_ < W2.heap.size) _ _ (l0.drop (x11_2:Int).toNat) t690 t691 t692 t693 t694 t695 _ ?side1 A21.out gwy).mono ?_);(case side1=>exact Kd.V_mk HC689.out (Kd.F_below (Kd.C_F (Kd.heap_int .u8) HR689.out) blw));rintro e w94 ⟨rfl,hb⟩;refine ⟨_,rfl,?_⟩;have n0_:=Aside0.mk (blk_below (g:=gb688) (o:=.cells #[.int .i64 t682,.int .i64 t683,.int .i64 t684,.int .i64 t685] 23 (0,0)) bko hb);have n1_:=Aside0.mk (below_step blw hb);clear BK688;clear HB;have BK688:=n0_;have HB:=n1_;clear n0_ n1_;(try clear hb);(try clear hb2);(try clear hk);(try clear hi)) | ((with_reducible refine gate_dst (N:=12) rfl ?_);(try (refine gate_guard (by rfl) ?_;dsimp only));refine box_event ?hg (N:=12) ?hd (cs:=#[.int .i64 0,.int .i64 0,.int .i64 0,.int .i64 0]) (t:=23) ?hr ?_;(case hd=>rfl);(case hg=>rfl);(case hr=>first | (go_simp;done) | (go_simp;rfl));intro gb696 hg w95 hbox hb;have n0_:=Aside0.mk (blk_below (g:=gb688) (o:=.cells #[.int .i64 t682,.int .i64 t683,.int .i64 t684,.int .i64 t685] 23 (0,0)) bko hb);have n1_:=Aside0.mk (below_step blw hb);have n2_:=Aside0.mk (hbox);have n3_:=Aside0.mk ((by rw [hg];exact (below_size blw):W2.heap.size≤gb696));have n4_:=Aside0.mk ((by rw [hg];exact (below_size blw):W2.heap.size≤gb696));have n5_:=Aside0.mk ((by rw [hg];exact Nat.ne_of_lt (blk_lt (g:=gb688) (o:=.cells #[.int .i64 t682,.int .i64 t683,.int .i64 t684,.int .i64 t685] 23 (0,0)) bko):gb688≠gb696));have n6_:=Aside0.mk ((by rw [hg];exact Nat.ne_of_gt (blk_lt (g:=gb688) (o:=.cells #[.int .i64 t682,.int .i64 t683,.int .i64 t684,.int .i64 t685] 23 (0,0)) bko):gb696≠gb688));clear BK688;clear HB;have BK688:=n0_;have HB:=n1_;have BK696:=n2_;have GW696:=n3_;have GE696:=n4_;have NB688_696:=n5_;have NB696_688:=n6_;clear n0_ n1_ n2_ n3_ n4_ n5_ n6_;clear hb hbox hg;have hnb96:=NB696_688.out;have hnc96:=NB688_696.out;obtain ⟨hcz97_0,hcz97_1,hcz97_2,hcz97_3,hfz97_0,hfz97_1,hfz97_2,hfz97_3⟩:=bz4 BK696.out) | ((with_reducible refine gate_store (t:=23) (p:=12) rfl ?_);refine store_event (t:=23) (p:=12) (v:=?vo_w98) (w1:=((((w95.setCell ⟨gb696,0,none⟩ (.int .i64 t690)).setCell ⟨gb696,1,none⟩ (.int .i64 t691)).setCell ⟨gb696,2,none⟩ (.int .i64 t692)).setCell ⟨gb696,3,none⟩ (.int .i64 t693))) ?hg ?ho ?hn ?hr ?_;(case ho=>rfl);(case hg=>rfl);(case hn=>rfl);(case hr=>first | (go_simp;done) | (go_simp;rfl));intro w98 hw;have n0_:Aside0 (w98.heap[gb688]?=some (.cells #[.int .i64 t682,.int .i64 t683,.int .i64 t684,.int .i64 t685] 23 (0,0))):=⟨(by rw [hw];exact (by (with_reducible repeat (first | refine blk_drewN ?_ _ | refine blk_drew ?_ | refine blk_alloc ?_ _));refine blk_far ?_ NB688_696.out _;(with_reducible repeat (first | refine blk_drewN ?_ _ | refine blk_drew ?_ | refine blk_alloc ?_ _));refine blk_far ?_ NB688_696.out _;(with_reducible repeat (first | refine blk_drewN ?_ _ | refine blk_drew ?_ | refine blk_alloc ?_ _));refine blk_far ?_ NB688_696.out _;(with_reducible repeat (first | refine blk_drewN ?_ _ | refine blk_drew ?_ | refine blk_alloc ?_ _));refine blk_far ?_ NB688_696.out _;(with_reducible repeat (first | refine blk_drewN ?_ _ | refine blk_drew ?_ | refine blk_alloc ?_ _));exact BK688.out))⟩;have n1_:Aside0 (w98.heap[gb696]?=some (.cells #[.int .i64 t690,.int .i64 t691,.int .i64 t692,.int .i64 t693] 23 (0,0))):=⟨(by rw [hw];exact (by (with_reducible repeat (first | refine blk_drewN ?_ _ | refine blk_drew ?_ | refine blk_alloc ?_ _));refine blk_put (cs:=#[.int .i64 t690,.int .i64 t691,.int .i64 t692,.int .i64 0]) ?_ 3 _ rfl;refine blk_put (cs:=#[.int .i64 t690,.int .i64 t691,.int .i64 0,.int .i64 0]) ?_ 2 _ rfl;refine blk_put (cs:=#[.int .i64 t690,.int .i64 0,.int .i64 0,.int .i64 0]) ?_ 1 _ rfl;refine blk_put (cs:=#[.int .i64 0,.int .i64 0,.int .i64 0,.int .i64 0]) ?_ 0 _ rfl;(with_reducible repeat (first | refine blk_drewN ?_ _ | refine blk_drew ?_ | refine blk_alloc ?_ _));exact BK696.out))⟩;have n2_:Aside0 (Below W2.heap.size W2 w98):=⟨(by rw [hw];exact blw)⟩;clear hw;clear BK688;clear BK696;clear HB;have BK688:=n0_;have BK696:=n1_;have HB:=n2_;clear n0_ n1_ n2_;obtain ⟨i099,hi099,_,hsz99,_⟩:=info_parts info5;obtain ⟨A99,hcut99,hA99,hC99⟩:=print_drop_of (P:=Tryz.prog) (Value.int .u8) 0 24 5 .i64 Tryz.underlying24 hi099 hsz99 A2 c2 l2 x11_2 (of_decide_eq_true asm) (of_decide_eq_true asm) HC2.out;have HR697:=Aside0.mk (Kd.C_of_reads (h1:=fun _=>rfl) (hA99 _ (Kd.reads_of_C HR2.out)));have HC697:=Aside0.mk hC99;clear hA99 hC99 hi099 hsz99) | ((with_reducible refine gate_callee (f:=22) rfl ?_);refine goesL_ (some 66) rfl rfl Tryz.func22 (by kernel_rfl) rfl #[.slice A99 (l2.drop (x11_2:Int).toNat).length (c2 - x11_2.toNat)] rfl (by (try simp only [List.map_toArray,List.map_cons,List.map_nil]);first | done | (rw [show (l2.drop (x11_2:Int).toNat).length=(l2.length - x11_2.toNat) from List.length_drop] <;> rfl) | rfl | (simp only [List.length_drop,List.length_take];rfl)) ?_;(with_reducible refine (insn_Decode.calls k2 (fun k_=>k_ < W2.heap.size) _ _ (l2.drop (x11_2:Int).toNat) t698 t699 t700 t701 t702 t703 _ ?side1 A24.out gwy).mono ?_);(case side1=>exact Kd.V_mk HC697.out (Kd.F_below (Kd.C_F (Kd.heap_int .u8) HR697.out) blw));rintro e w100 ⟨rfl,hb⟩;refine ⟨_,rfl,?_⟩;have n0_:=Aside0.mk (blk_below (g:=gb688) (o:=.cells #[.int .i64 t682,.int .i64 t683,.int .i64 t684,.int .i64 t685] 23 (0,0)) bko hb);have n1_:=Aside0.mk (blk_below (g:=gb696) (o:=.cells #[.int .i64 t690,.int .i64 t691,.int .i64 t692,.int .i64 t693] 23 (0,0)) bko hb);have n2_:=Aside0.mk (below_step blw hb);clear BK688;clear BK696;clear HB;have BK688:=n0_;have BK696:=n1_;have HB:=n2_;clear n0_ n1_ n2_;(try clear hb);(try clear hb2);(try clear hk);(try clear hi)) | ((with_reducible refine gate_dst (N:=15) rfl ?_);(try (refine gate_guard (by rfl) ?_;dsimp only));refine box_event ?hg (N:=15) ?hd (cs:=#[.int .i64 0,.int .i64 0,.int .i64 0,.int .i64 0]) (t:=23) ?hr ?_;(case hd=>rfl);(case hg=>rfl);(case hr=>first | (go_simp;done) | (go_simp;rfl));intro gb704 hg w101 hbox hb;have n0_:=Aside0.mk (blk_below (g:=gb688) (o:=.cells #[.int .i64 t682,.int .i64 t683,.int .i64 t684,.int .i64 t685] 23 (0,0)) bko hb);have n1_:=Aside0.mk (blk_below (g:=gb696) (o:=.cells #[.int .i64 t690,.int .i64 t691,.int .i64 t692,.int .i64 t693] 23 (0,0)) bko hb);have n2_:=Aside0.mk (below_step blw hb);have n3_:=Aside0.mk (hbox);have n4_:=Aside0.mk ((by rw [hg];exact (below_size blw):W2.heap.size≤gb704));have n5_:=Aside0.mk ((by rw [hg];exact (below_size blw):W2.heap.size≤gb704));have n6_:=Aside0.mk ((by rw [hg];exact Nat.ne_of_lt (blk_lt (g:=gb688) (o:=.cells #[.int .i64 t682,.int .i64 t683,.int .i64 t684,.int .i64 t685] 23 (0,0)) bko):gb688≠gb704));have n7_:=Aside0.mk ((by rw [hg];exact Nat.ne_of_gt (blk_lt (g:=gb688) (o:=.cells #[.int .i64 t682,.int .i64 t683,.int .i64 t684,.int .i64 t685] 23 (0,0)) bko):gb704≠gb688));have n8_:=Aside0.mk ((by rw [hg];exact Nat.ne_of_lt (blk_lt (g:=gb696) (o:=.cells #[.int .i64 t690,.int .i64 t691,.int .i64 t692,.int .i64 t693] 23 (0,0)) bko):gb696≠gb704));have n9_:=Aside0.mk ((by rw [hg];exact Nat.ne_of_gt (blk_lt (g:=gb696) (o:=.cells #[.int .i64 t690,.int .i64 t691,.int .i64 t692,.int .i64 t693] 23 (0,0)) bko):gb704≠gb696));clear BK688;clear BK696;clear HB;have BK688:=n0_;have BK696:=n1_;have HB:=n2_;have BK704:=n3_;have GW704:=n4_;have GE704:=n5_;have NB688_704:=n6_;have NB704_688:=n7_;have NB696_704:=n8_;have NB704_696:=n9_;clear n0_ n1_ n2_ n3_ n4_ n5_ n6_ n7_ n8_ n9_;clear hb hbox hg;have hnb102:=NB704_688.out;have hnc102:=NB688_704.out;have hnb103:=NB704_696.out;have hnc103:=NB696_704.out;obtain ⟨hcz104_0,hcz104_1,hcz104_2,hcz104_3,hfz104_0,hfz104_1,hfz104_2,hfz104_3⟩:=bz4 BK704.out;obtain ⟨hcz105_0,hcz105_1,hcz105_2,hcz105_3,hfz105_0,hfz105_1,hfz105_2,hfz105_3⟩:=bz4 BK696.out))
                 go_roundg k2
                 case measure=>have:=HJ4.out;have:=HK2.out;omega
                 case rel=>exact ⟨(wrap64 (x11_2+1)),rsd,H',⟨by have:=HJ4.out;have:=HK2.out;omega⟩,⟨by (with_reducible repeat (first | refine blk_drewN ?_ _ | refine blk_drew ?_ | refine blk_alloc ?_ _));refine blk_far ?_ NB688_704.out _;(with_reducible repeat (first | refine blk_drewN ?_ _ | refine blk_drew ?_ | refine blk_alloc ?_ _));refine blk_far ?_ NB688_704.out _;(with_reducible repeat (first | refine blk_drewN ?_ _ | refine blk_drew ?_ | refine blk_alloc ?_ _));refine blk_far ?_ NB688_704.out _;(with_reducible repeat (first | refine blk_drewN ?_ _ | refine blk_drew ?_ | refine blk_alloc ?_ _));refine blk_far ?_ NB688_704.out _;(with_reducible repeat (first | refine blk_drewN ?_ _ | refine blk_drew ?_ | refine blk_alloc ?_ _));exact BK688.out⟩,⟨blw⟩⟩
                ·rw [if_neg c92] at H;obtain ⟨c92b0,c92b1⟩:=bqf c92;exact absurd (H.trans (congrArg some HRT.out)) (by simp)
               ·rw [if_neg c91] at H;obtain ⟨c91b0,c91b1⟩:=bqf c91;exact absurd (H.trans (congrArg some HRT.out)) (by simp)
            ·rw [if_neg c23] at H;exact absurd H (by simp)
           ·rw [if_neg c20] at H;exact absurd H (by simp)
          ·rw [if_neg c19] at H;exact absurd H (by simp)
         ·rw [if_neg c18] at H;have c18b0:=decide_eq_false c18;clear c18;obtain rfl:=Option.some.inj H;go_wp2;go_ret;exact ⟨by first | rfl | (simp [errW_none,errW_some] <;> rfl) | (simp only [← hji9];first | rfl | (simp [errW_none,errW_some] <;> rfl)) | (simp [*,errW_none,errW_some] <;> rfl),HB2.out.trans (Below.mono blw HWW.out)⟩
      ·rw [if_neg c13] at H;obtain ⟨c13b0,c13b1⟩:=bqf c13;obtain rfl:=Option.some.inj H;obtain ⟨i0132,hi0132,_,hsz132,_⟩:=info_parts info5;obtain ⟨A132,hcut132,hA132,hC132⟩:=print_drop_of (P:=Tryz.prog) (Value.int .u8) 0 24 5 .i64 Tryz.underlying24 hi0132 hsz132 A0 c0 l0 (ji9) (of_decide_eq_true asm) (of_decide_eq_true asm) HC0.out;have HR681:=Aside0.mk (Kd.C_of_reads (h1:=fun _=>rfl) (hA132 _ (Kd.reads_of_C HR0.out)));have HC681:=Aside0.mk hC132;clear hA132 hC132 hi0132 hsz132;go_wp2_with (first | ((with_reducible refine gate_callee (f:=22) rfl ?_);refine goesL_ (some 35) rfl rfl Tryz.func22 (by kernel_rfl) rfl #[.slice A132 (l0.drop ((ji9):Int).toNat).length (c0 - (ji9).toNat)] rfl (by (try simp only [List.map_toArray,List.map_cons,List.map_nil]);first | done | (rw [show (l0.drop ((ji9):Int).toNat).length=(l0.length - (ji9).toNat) from List.length_drop] <;> rfl) | (simp only [hji9];rfl) | rfl | (simp only [List.length_drop,List.length_take];rfl)) ?_;(with_reducible refine (insn_Decode.calls kj4 (fun k_=>k_ < w.heap.size) _ _ (l0.drop ((ji9):Int).toNat) t682 t683 t684 t685 t686 t687 _ ?side1 A12.out gwy).mono ?_);(case side1=>exact Kd.V_mk HC681.out (Kd.F_below (Kd.C_F (Kd.heap_int .u8) HR681.out) blw));rintro e w133 ⟨rfl,hb⟩;refine ⟨_,rfl,?_⟩;have n0_:=Aside0.mk (below_step blw hb);clear HB;have HB:=n0_;clear n0_;(try clear hb);(try clear hb2);(try clear hk);(try clear hi)) | ((with_reducible refine gate_dst (N:=7) rfl ?_);(try (refine gate_guard (by rfl) ?_;dsimp only));refine box_event ?hg (N:=7) ?hd (cs:=#[.int .i64 0,.int .i64 0,.int .i64 0,.int .i64 0]) (t:=23) ?hr ?_;(case hd=>rfl);(case hg=>rfl);(case hr=>first | (go_simp;done) | (go_simp;rfl));intro gb688 hg w134 hbox hb;have n0_:=Aside0.mk (below_step blw hb);have n1_:=Aside0.mk (hbox);have n2_:=Aside0.mk ((by rw [hg];exact (below_size blw):w.heap.size≤gb688));have n3_:=Aside0.mk ((by rw [hg];exact (below_size blw):w.heap.size≤gb688));clear HB;have HB:=n0_;have BK688:=n1_;have GW688:=n2_;have GE688:=n3_;clear n0_ n1_ n2_ n3_;clear hb hbox hg;obtain ⟨hcz135_0,hcz135_1,hcz135_2,hcz135_3,hfz135_0,hfz135_1,hfz135_2,hfz135_3⟩:=bz4 BK688.out))
       go_ret;exact ⟨by first | rfl | (simp [errW_none,errW_some] <;> rfl) | (simp only [← hji9];first | rfl | (simp [errW_none,errW_some] <;> rfl)) | (simp [*,errW_none,errW_some] <;> rfl),blw⟩
     ·rw [if_neg c11] at H;exact absurd H (by simp)
    ·rw [if_neg c10] at H;exact absurd H (by simp)
end Go.Proofs.YtffojmgmpfjlhaaGreatDoor.Q
namespace Go.Proofs.YtffojmgmpfjlhaaGreatDoor.Q
open Go.Proofs.Ix hiding rd
open Go.Proofs.YtffojmgmpfjlhaaGreatDoor Go.RowKit Go.Proofs.YtffojmgmpfjlhaaGreatDoorW.PrintWords Go.Proofs.YtffojmgmpfjlhaaGreatDoorW.PrintLast Go.Proofs.YtffojmgmpfjlhaaGreatDoorW.PrintMore
theorem patched_l0 (l:List Int) (hb:Byt l) (hl:l.length≤200) (K:Nat) (hK:K < l.length) (hd:(decD (l.drop K)).2.2.2.2.2=0) :
  ∀ (d i k:Nat),i+d=l.length→d+100 < k→lzInsnPatched.l0 k l true (K:Int) (l.set K 204) (i:Int)=some true
 | 0,i,k,h1,h2=>by
  obtain ⟨k,rfl⟩:∃ m,k=m+1:=⟨k - 1,by omega⟩
  rw [lzInsnPatched.l0,if_neg (by omega)]
 | d+1,i,k,h1,h2=>by
  obtain ⟨k,rfl⟩:∃ m,k=m+60+1:=⟨k - 61,by omega⟩
  have ih:=patched_l0 l hb hl K hK hd d (i+1) (k+60) (by omega) (by omega)
  rw [lzInsnPatched.l0,if_pos (by omega),if_pos (by omega),if_pos (by omega),Int.toNat_natCast,decode_g,Option.bind_some,if_pos (by rw [List.length_set];omega),decode_g,Option.bind_some,patched l hb K hK hd i (by omega),wrap_succ (by omega),ih]
  by_cases e:i=K
  ·rw [if_pos e,if_pos (by omega),if_pos (show ((76,0,0,0,1,0):Dec).2.2.2.2.2=0 from rfl),if_neg (by decide),if_pos (show ((76,0,0,0,1,0):Dec).2.2.2.2.1=1 from rfl)]
  ·rw [if_neg e,if_neg (by omega),if_neg (by simp),if_pos rfl,if_pos rfl]
theorem InsnPatched_pure (l:List Int) (hb:Byt l) (a:Int) (ha:0≤a∧a < 256):lzInsnPatched.f 600 l a (l.set (wrap64 a).toNat 204)=some true:=by
 have ew:wrap64 a=a:=by simp only [wrap64];omega
 have ht:lzInsnPatched.j0 600 l (l.set a.toNat 204) true a true=some true:=by
  show lzInsnPatched.j0 (599+1) _ _ _ _ _=_
  rw [lzInsnPatched.j0,if_pos rfl]
 unfold lzInsnPatched.f
 rw [sane_true 500,Option.bind_some,ew]
 by_cases h1:(l.length:Int) > 200
 ·rw [if_pos h1];exact ht
 ·rw [if_neg h1]
  by_cases h2:a≥(l.length:Int)
  ·rw [decide_eq_true h2];exact ht
  ·rw [decide_eq_false h2]
   show lzInsnPatched.j0 (599+1) _ _ _ _ _=_
   rw [lzInsnPatched.j0,if_neg (by decide),if_pos ha.1,if_pos (by omega),decode_g (l.drop a.toNat) 539,Option.bind_some]
   by_cases h3:(decD (l.drop a.toNat)).2.2.2.2.2=0
   ·rw [if_pos h3]
    obtain ⟨K,rfl⟩:∃ K:Nat,a=(K:Int):=⟨a.toNat,by omega⟩
    rw [Int.toNat_natCast] at h3 ⊢
    exact patched_l0 l hb (by omega) K (by omega) h3 l.length 0 599 (by omega) (by omega)
   ·rw [if_neg h3]
theorem wf8 {n:Int} (h:(Lit.int .u8 n).wf=true):0≤n∧n < 256:=by
 have m1:IntKind.u8.min=0:=by decide
 have m2:IntKind.u8.max=255:=by decide
 simp [Lit.wf,m1,m2] at h
 omega
theorem patched_any (A:Option Addr) (len cap:Nat) (z:List Int) (a:Int) (ha:(Lit.int .u8 a).wf=true) (w:World)
  (w0:(A=none∧len=0∧cap=0∧z=[])∨∃ x,A=some x∧len≤cap∧cap≤maxLen∧z.length=cap∧(∀ i,i < z.length→w.cell? (x.add i)=some (.int .u8 (z.getD i 0)))∧∀ n∈z,(Lit.int .u8 n).wf=true) (y0:len * 1≤140737488351232) (hgw:GW w) :
  Calls Tryz.prog 8 #[.slice A len cap,.int .u8 a] w fun e w'=>e=.returned (.bool true)∧Below w.heap.size w w':=by
 obtain ⟨l0,rfl,hr0,hm0,hw0,hc0⟩:=ReadsInt.ofRowC w0
 exact lzInsnPatched.calls 600 _ _ l0 a _ rfl (by omega) true w (Kd.C_of_reads (d:=(0:Int)) (h1:=fun _=>rfl) hr0) hc0 (InsnPatched_pure l0 hw0 a (wf8 ha)) hgw
end Go.Proofs.YtffojmgmpfjlhaaGreatDoor.Q
