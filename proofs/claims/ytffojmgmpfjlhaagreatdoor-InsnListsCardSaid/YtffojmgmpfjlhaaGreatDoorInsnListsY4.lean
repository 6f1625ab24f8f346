/- Parts of the proof of InsnLists. -/
import Derived.Test.YtffojmgmpfjlhaaGreatDoorInsS17
import Derived.Test.YtffojmgmpfjlhaaGreatDoorInsnListsY3
import Derived.Lib.SplitLaws
import Derived.Lib.ItoaLen
import Derived.Lib.ParseIntBCases
set_option maxHeartbeats 16000000
set_option maxRecDepth 100000
set_option linter.unusedVariables false
set_option linter.unusedSimpArgs false
namespace Go.Proofs.YtffojmgmpfjlhaaGreatDoor
open Go.Proofs.Ix hiding rd
open Go.RowKit YtffojmgmpfjlhaaGreatDoorW.PrintWords YtffojmgmpfjlhaaGreatDoorW.PrintLast
open Q (S61 rd_T61 k61 at_T61)
def fnLine (s:ByteArray):List UInt8:=[46,102,117,110,99,32] ++ s.data.toList ++ [10]
def fnL (here:Int):List S61→List UInt8
 | []=>[]
 | s :: L=>(if s.f1=here then fnLine s.f0 else []) ++ fnL here L
theorem fnL_append (here:Int):∀ (L M:List S61),fnL here (L ++ M)=fnL here L ++ fnL here M
 | [],M=>rfl
 | s :: L,M=>by simp [fnL,fnL_append here L M]
theorem fnL_len (here:Int):∀ (L:List S61),(∀ s∈L,s.f0.size≤31)→(fnL here L).length≤38 * L.length
 | [],_=>by simp [fnL]
 | s :: L,h=>by
  have h1:=fnL_len here L (fun x hx=>h x (List.mem_cons_of_mem _ hx))
  have h2:=h s List.mem_cons_self
  have h3:(if s.f1=here then fnLine s.f0 else []).length≤38:=by
   split
   ·simp [fnLine]
    exact h2
   ·simp
  simp only [fnL,List.length_append,List.length_cons]
  omega
theorem rd_T61_mem {L:List S61} {k:Nat} (hk:k < L.length):rd_T61 L (k:Int)=L[k]:=by simp [rd_T61,List.getD_eq_getElem?_getD,List.getElem?_eq_getElem hk]
def FnOut (B b:Nat) (bs:List UInt8) (w:World) (x:Ending) (w':World):Prop :=
 x=.returned (.tuple #[])∧Lib.IsBuilderF 139 5 B b (Lib.byteCells bs) w'∧Below B w w'∧Lib.OthersKept 5 (some b) w w'
theorem funcs_any (w0 w:World) (A:Option Addr) (c:Nat) (L:List S61) (here:Int) (q b:Nat) (bs:List UInt8) (hr:Kd.C k61 w0 A L.length L) (hc:L.length≤c) (h0:Below w0.heap.size w0 w)
  (hq:w.cell? ⟨q,0,none⟩=some (.slice A L.length c)) (hB:Lib.IsBuilderF 139 5 w0.heap.size b (Lib.byteCells bs) w) (hn:L.length≤1000) (hs:∀ s∈L,s.f0.size≤31) (hbs:bs.length≤10000000) :
  Calls Tryz.prog 83 #[.int .i64 here,.pointer (some ⟨q,0,none⟩),.pointer (some ⟨b,0,none⟩)] w (FnOut w0.heap.size b (bs ++ fnL here L) w):=by
 have HC:=Aside0.mk hr
 have HS:=Lib.hid hs
 clear hr hs
 obtain ⟨n,hne⟩:∃ n,L.length=n:=⟨_,rfl⟩
 rw [hne] at hc hq hn
 go_enter Tryz.func83,Tryz.ntmps83
 go_wp2
 go_loopw [8] (fun i wr=>∃ (k:Nat),k≤n∧i=.int .i64 k∧Lib.IsBuilderF 139 5 w0.heap.size b (Lib.byteCells (bs ++ fnL here (L.take k))) wr∧Below w0.heap.size w wr∧Lib.OthersKept 5 (some b) w wr) (fun i _=>n - (intOf i).toNat)
 case atStart=>exact ⟨0,by omega,rfl,by simpa [fnL] using hB,Below.refl _ _,Lib.OthersKept.refl _ _ _⟩
 case round =>
  obtain ⟨k,hk,rfl,hBk,hbk,hok⟩:=hrel
  by_cases hlt:k < n
  ·have hkL:k < L.length:=by omega
   obtain ⟨ad,rfl,x0,x1,x2⟩:=at_T61 (Kd.C_below HC.out (h0.trans hbk)) (k:Int) (by omega) (by omega)
   have hsz:(rd_T61 L (k:Int)).f0.size≤31:=HS.out _ (by rw [rd_T61_mem hkL];exact List.getElem_mem hkL)
   have hstep:fnL here (L.take (k+1))=fnL here (L.take k) ++ (if (rd_T61 L (k:Int)).f1=here then fnLine (rd_T61 L (k:Int)).f0 else []):=by
    rw [List.take_succ_eq_append_getElem hkL,fnL_append,rd_T61_mem hkL]
    simp [fnL]
   have hln:(fnL here (L.take k)).length≤38 * 1000:=by
    have:=fnL_len here (L.take k) (fun s hs=>HS.out s (List.mem_of_mem_take hs))
    rw [List.length_take] at this
    omega
   obtain ⟨s,hsv⟩:∃ s,rd_T61 L (k:Int)=s:=⟨_,rfl⟩
   rw [hsv] at x0 x1 x2 hsz hstep
   obtain ⟨sn,sa,sz⟩:=s
   dsimp only at x0 x1 x2 hsz hstep
   rw [Int.toNat_natCast] at x0 x1 x2
   have HB4:=hBk.alloc (.cells #[.string sn,.int .i64 sa,.int .i64 sz] 61)
   have hb4:Below w0.heap.size w (wr.alloc (.cells #[.string sn,.int .i64 sa,.int .i64 sz] 61)):=hbk.alloc (by have:=h0.size;have:=hbk.size;omega) _
   have hk4:=hok.alloc (.cells #[.string sn,.int .i64 sa,.int .i64 sz] 61)
   have hX4:(wr.alloc (.cells #[.string sn,.int .i64 sa,.int .i64 sz] 61)).heap[wr.heap.size]?=some (.cells #[.string sn,.int .i64 sa,.int .i64 sz] 61 (0,0)):=heap_own _ _
   have hle:w0.heap.size≤(wr.alloc (.cells #[.string sn,.int .i64 sa,.int .i64 sz] 61)).heap.size:=by have:=h0.size;have:=hb4.size;omega
   go_upto_region 3 with fail
   clear x0 x1 x2 hBk hbk hok
   generalize wr.heap.size=X at hX4 ⊢
   generalize wr.alloc (.cells #[.string sn,.int .i64 sa,.int .i64 sz] 61)=W1 at HB4 hb4 hk4 hX4 hle ⊢
   have z0:W1.cell? ⟨X,0,none⟩=some (.string sn):=(blk_cell hX4 0).trans rfl
   have z1:W1.cell? ⟨X,1,none⟩=some (.int .i64 sa):=(blk_cell hX4 1).trans rfl
   by_cases hh:sa=here
   ·subst hh
    rw [if_pos rfl] at hstep
    have hc1:6+sn.size≤9223372036854775807:=by omega
    have hc2:((⟨#[46,102,117,110,99,32]⟩:ByteArray) ++ sn).size+1≤9223372036854775807:=by
     rw [ByteArray.size_append]
     show 6+sn.size+1≤_
     omega
    have hc3:(Lib.byteCells (bs ++ fnL sa (L.take k))).length+(((⟨#[46,102,117,110,99,32]⟩:ByteArray) ++ sn) ++ ⟨#[10]⟩).size≤140737488355328:=by
     rw [Lib.byteCells_length,List.length_append,ByteArray.size_append,ByteArray.size_append]
     show bs.length+_+(6+sn.size+1)≤_
     omega
    have e1:Lib.strCells (((⟨#[46,102,117,110,99,32]⟩:ByteArray) ++ sn) ++ ⟨#[10]⟩)=Lib.byteCells (fnLine sn):=by
     rw [Lib.strCells_eq]
     simp [fnLine]
    go_wp2_with fail
    generalize (((⟨#[46,102,117,110,99,32]⟩:ByteArray) ++ sn) ++ ⟨#[10]⟩)=str at hc3 e1 ⊢
    refine (Q.bws _ b _ str W1 HB4 hc3 hle).mono ?_
    rintro e w5 ⟨rfl,hB5,hb5,hk5⟩
    clear hc1 hc2 hc3
    have hBn:Lib.IsBuilderF 139 5 w0.heap.size b (Lib.byteCells (bs ++ fnL sa (L.take (k+1)))) w5:=by
     rw [hstep,← List.append_assoc,Lib.byteCells_append,← e1]
     exact .inr hB5
    have hbn:=hb4.trans hb5
    have hkn:=hk4.trans hk5
    clear e1 hB5 hb5 hk5 HB4 hb4 hk4 z0 z1 hX4 hstep hln
    go_wp2
    go_roundw
    case rel=>exact ⟨k+1,by omega,by go_num,hBn,hbn,hkn⟩
    case measure=>simp [intOf];omega
   ·rw [if_neg hh,List.append_nil] at hstep
    have h2:(sa == here)=false:=beq_eq_false_iff_ne.2 hh
    go_wp2
    go_roundw
    case rel=>exact ⟨k+1,by omega,by go_num,by rw [hstep];exact HB4,hb4,hk4⟩
    case measure=>simp [intOf];omega
  ·obtain rfl:k=n:=by omega
   rw [List.take_of_length_le (by omega)] at hBk
   go_wp2
   go_end0
   exact ⟨rfl,hBk,hbk,hok⟩
end Go.Proofs.YtffojmgmpfjlhaaGreatDoor
namespace Go.Proofs.YtffojmgmpfjlhaaGreatDoor.Q
open Go.Proofs.YtffojmgmpfjlhaaGreatDoor Go.RowKit Go.Proofs.YtffojmgmpfjlhaaGreatDoorW.PrintWords Go.Proofs.YtffojmgmpfjlhaaGreatDoorW.PrintLast Go.Proofs.YtffojmgmpfjlhaaGreatDoorW.PrintMore
attribute [local go_sem] max2_int min2_int max_two min_two max_three min_three max_four min_four
def insn_Sweep.l0:Nat→List Int→List (S23)→List Int→Int→Option ((List (S23)) × List Int × Int)
 | 0,_,_,_,_=>none
 | k+1,x0,x2,x3,x5=>if x5 < (x0.length:Int) then (if 0≤x5 then (if x5≤(x0.length:Int) then ((insn_Decode.f k (x0.drop (x5:Int).toNat)).bind fun bt781=>(if bt781.2.2.2.2.2=0 then (if x2.length < 4398046511104 then (if x3.length < 17592186044416 then (insn_Sweep.l0 k x0 (x2 ++ [(⟨bt781.1,bt781.2.1,bt781.2.2.1,bt781.2.2.2.1⟩:S23)]) (x3 ++ [x5]) (wrap64 (x5+bt781.2.2.2.2.1))) else (none)) else (none)) else (some (([]:List (S23)),([]:List Int),bt781.2.2.2.2.2)))) else (none)) else (none)) else (some (x2,x3,0))
def insn_Sweep.f (k:Nat) (l0:List Int):Option ((List (S23)) × List Int × Int):=if (l0.length:Int) > 2048 then (some (([]:List (S23)),([]:List Int),2)) else (insn_Sweep.l0 k l0 ([]:List (S23)) ([]:List Int) 0)
theorem insn_Sweep.mono_l:∀ k,(∀ y0 y1 y2 y3,LeO (insn_Sweep.l0 k y0 y1 y2 y3) (insn_Sweep.l0 (k+1) y0 y1 y2 y3))
 | 0=>fun _ _ _ _ r h=>by simp [insn_Sweep.l0] at h
 | k+1=>by
  have ih0:=insn_Sweep.mono_l k
  ·intro y0 y1 y2 y3;unfold insn_Sweep.l0;repeat' first | (with_reducible first | exact ih0 _ _ _ _ | exact insn_Decode.mono _ _ | exact LeO.refl _ | exact LeO.none _ | refine LeO.ite ?_ ?_ | refine LeO.bind ?_ (fun _=>?_)) | exact LeO.none _ | refine LeO.ite ?_ ?_ | refine LeO.bind ?_ (fun _=>?_)
theorem insn_Sweep.mono:∀ a0 k,LeO (insn_Sweep.f k a0) (insn_Sweep.f (k+1) a0):=by
 intro a0 k;have ih0:=insn_Sweep.mono_l k;unfold insn_Sweep.f;repeat' first | (with_reducible first | exact ih0 _ _ _ _ | exact insn_Decode.mono _ _ | exact LeO.refl _ | exact LeO.none _ | refine LeO.ite ?_ ?_ | refine LeO.bind ?_ (fun _=>?_)) | exact LeO.none _ | refine LeO.ite ?_ ?_ | refine LeO.bind ?_ (fun _=>?_)
theorem insn_Sweep.calls (k:Nat) (A0:Option Addr) (c0:Nat) (l0:List Int) (r1:List (S23)) (r2:List Int) (r3:Int) (w:World) (hr0:Kd.C (Kd.int .u8) w A0 l0.length l0) (hc0:l0.length≤c0) (h:insn_Sweep.f k l0=some (r1,r2,r3)) (hgw:GW w) :
  Calls Tryz.prog 33 #[.slice A0 l0.length c0] w fun e w'=>∃ v0_ v1_:Value,e=.returned (.tuple #[v0_,v1_,.int .i64 r3])∧Kd.R k23 23 w' w.heap.size (fun _=>True) v0_ r1∧Kd.R (Kd.int .i64) 3 w' w.heap.size (fun _=>True) v1_ r2∧Below w.heap.size w w':=by
 have hu23:=Tryz.underlying23;have HR0:=Aside0.mk hr0;have HC0:=Aside0.mk hc0;clear hr0 hc0;have HB:=Aside0.mk (Below.refl w.heap.size w);unfold insn_Sweep.f at h;have H:=h;clear h;by_cases c2:(l0.length:Int) > 2048
 ·rw [if_pos c2] at H;have c2b0:decide (2048 < (l0.length:Int))=true:=decide_eq_true c2;have c2b1:decide (2048 < l0.length)=true:=decide_eq_true (by omega);clear c2;simp only [Option.some.injEq,Prod.mk.injEq] at H;obtain ⟨rfl,rfl,rfl⟩:=H;go_enter Tryz.func33,Tryz.ntmps33
  go_wp2;go_ret3;exact ⟨_,_,by first | rfl | (simp [errW_none,errW_some] <;> rfl) | (simp [*,errW_none,errW_some] <;> rfl),by first | exact Kd.R_nil _ _ _ _ _ | exact Kd.N_nil _ _ _ _ _ | exact Kd.V_nil _ _ _ _ _ | exact Kd.Q_nil _ _ _ _ _ | exact Kd.S_nil _ _ _ _ _,by first | exact Kd.R_nil _ _ _ _ _ | exact Kd.N_nil _ _ _ _ _ | exact Kd.V_nil _ _ _ _ _ | exact Kd.Q_nil _ _ _ _ _ | exact Kd.S_nil _ _ _ _ _,blw⟩
 ·rw [if_neg c2] at H;have c2b0:decide (2048 < (l0.length:Int))=false:=decide_eq_false c2;have c2b1:decide (2048 < l0.length)=false:=decide_eq_false (by omega);clear c2;have H':=Aside0.mk H;clear H;go_enter Tryz.func33,Tryz.ntmps33
  go_wp2;try simp only [Act.put,List.setIfInBounds_toArray,List.set_cons_zero,List.set_cons_succ]
  go_loopg [2,3,5] k (fun kq v2 v3 v5 w'=>∃ (x2_1:List (S23)) (x3_1:List Int) (x5_1:Int),v5=.int .i64 x5_1∧Aside0 (insn_Sweep.l0 kq l0 x2_1 x3_1 x5_1=some (r1,r2,r3))∧Aside0 (kq≤k)∧Aside0 (Kd.R k23 23 w' w.heap.size (fun _=>True) v2 x2_1)∧Aside0 (Kd.R (Kd.int .i64) 3 w' w.heap.size (fun _=>True) v3 x3_1)∧Aside0 (Below w.heap.size w w'))
  case atStart=>exact ⟨(([]:List (S23))),(([]:List Int)),(0),rsd,H',⟨Nat.le_refl _⟩,⟨by first | exact Kd.R_nil _ _ _ _ _ | exact Kd.N_nil _ _ _ _ _ | exact Kd.V_nil _ _ _ _ _ | exact Kd.Q_nil _ _ _ _ _ | exact Kd.S_nil _ _ _ _ _⟩,⟨by first | exact Kd.R_nil _ _ _ _ _ | exact Kd.N_nil _ _ _ _ _ | exact Kd.V_nil _ _ _ _ _ | exact Kd.Q_nil _ _ _ _ _ | exact Kd.S_nil _ _ _ _ _⟩,⟨blw⟩⟩
  case round =>
   clear H';try clear c2b0
   try clear c2b1
   obtain ⟨x2_1,x3_1,x5_1,rfl,HA,HK1,HO_2,HO_3,HB⟩:=hrel;cases gk with
   | zero=>exact absurd HA.out (by simp [insn_Sweep.l0])
   | succ k1 =>
    have H:=HA.out;clear HA;simp only [insn_Sweep.l0] at H;by_cases c3:x5_1 < (l0.length:Int)
    ·rw [if_pos c3] at H;have c3b0:=decide_eq_true c3;clear c3;by_cases c4:0≤x5_1
     ·rw [if_pos c4] at H;have c4b0:=eq_true c4;have c4b1:=decide_eq_true c4;clear c4;by_cases c5:x5_1≤(l0.length:Int)
      ·rw [if_pos c5] at H;have c5b0:=eq_true c5;have c5b1:=decide_eq_true c5;clear c5;obtain ⟨⟨t781,t782,t783,t784,t785,t786⟩,A6,H⟩:=bas H;(try dsimp only at H);by_cases c7:t786=0
       ·rw [if_pos c7] at H;obtain ⟨c7b0,c7b1⟩:=bqt c7;clear c7;by_cases c8:x2_1.length < 4398046511104
        ·rw [if_pos c8] at H;have LMc8:=Aside0.mk c8;clear c8;obtain ⟨y788,hy788⟩:∃ y_:List (S23),y_=(x2_1 ++ [(⟨t781,t782,t783,t784⟩:S23)]):=⟨_,rfl⟩;replace H:(if x3_1.length < 17592186044416 then (insn_Sweep.l0 k1 l0 y788 (x3_1 ++ [x5_1]) (wrap64 (x5_1+t785))) else (none))=some (r1,r2,r3):=by first | (rw [hy788];with_reducible exact H) | (have H2_:=(Option.bind_some _ _).symm.trans H;rw [hy788];with_reducible exact H2_) | (have H2_:=(Option.bind_some _ _).symm.trans H;with_reducible exact H2_) | with_reducible exact H | (rw [hy788];exact H) | exact H
         have Ny788:=Aside0.mk hy788;clear hy788;by_cases c9:x3_1.length < 17592186044416
         ·rw [if_pos c9] at H;have LMc9:=Aside0.mk c9;clear c9;obtain ⟨y791,hy791⟩:∃ y_:List Int,y_=(x3_1 ++ [x5_1]):=⟨_,rfl⟩;replace H:(insn_Sweep.l0 k1 l0 y788 y791 (wrap64 (x5_1+t785)))=some (r1,r2,r3):=by first | (rw [hy791];with_reducible exact H) | (have H2_:=(Option.bind_some _ _).symm.trans H;rw [hy791];with_reducible exact H2_) | (have H2_:=(Option.bind_some _ _).symm.trans H;with_reducible exact H2_) | with_reducible exact H | (rw [hy791];exact H) | exact H
          have Ny791:=Aside0.mk hy791;clear hy791;have H':=Aside0.mk H;clear H;obtain ⟨i010,hi010,_,hsz10,_⟩:=info_parts info5;obtain ⟨A10,hcut10,hA10,hC10⟩:=print_drop_of (P:=Tryz.prog) (Value.int .u8) 0 24 5 .i64 Tryz.underlying24 hi010 hsz10 A0 c0 l0 x5_1 (of_decide_eq_true asm) (of_decide_eq_true asm) HC0.out;have HR780:=Aside0.mk (Kd.C_of_reads (h1:=fun _=>rfl) (hA10 _ (Kd.reads_of_C HR0.out)));have HC780:=Aside0.mk hC10;clear hA10 hC10 hi010 hsz10;go_wp2_with (first | ((with_reducible refine gate_callee (f:=22) rfl ?_);refine goesL_ (some 20) rfl rfl Tryz.func22 (by kernel_rfl) rfl #[.slice A10 (l0.drop (x5_1:Int).toNat).length (c0 - x5_1.toNat)] rfl (by (try simp only [List.map_toArray,List.map_cons,List.map_nil]);first | done | (rw [show (l0.drop (x5_1:Int).toNat).length=(l0.length - x5_1.toNat) from List.length_drop] <;> rfl) | rfl | (simp only [List.length_drop,List.length_take];rfl)) ?_;(with_reducible refine (insn_Decode.calls k1 (fun k_=>k_ < w.heap.size) _ _ (l0.drop (x5_1:Int).toNat) t781 t782 t783 t784 t785 t786 _ ?side1 A6.out gwy).mono ?_);(case side1=>exact Kd.V_mk HC780.out (Kd.F_below (Kd.C_F (Kd.heap_int .u8) HR780.out) blw));rintro e w11 ⟨rfl,hb⟩;refine ⟨_,rfl,?_⟩;replace HO_2:=Aside0.mk (Kd.R_below (kRd HO_2.out) hb);replace HO_3:=Aside0.mk (Kd.R_below (kRd HO_3.out) hb);replace HB:=Aside0.mk (below_step blw hb);clear hb) | ((with_reducible refine gate_dst (N:=6) rfl ?_);refine bxe (N:=6) (cs:=#[.int .i64 0,.int .i64 0,.int .i64 0,.int .i64 0]) (t:=23) ?_;intro gb787 hg w12 hbox hb;replace HO_2:=Aside0.mk (Kd.R_below (Kd.R_elderB (kRd HO_2.out) gb787 (Nat.le_of_eq hg.symm)) hb);replace HO_3:=Aside0.mk (Kd.R_below (kRd HO_3.out) hb);have BK787:=Aside0.mk hbox;have GW787:Aside0 (w.heap.size≤gb787):=⟨gwb⟩;have GE787:Aside0 (w.heap.size≤gb787):=⟨gwb⟩;replace HB:=Aside0.mk (below_step blw hb);clear hb hbox hg;obtain ⟨_,_,_,_,_,_,_,_⟩:=bz4 BK787.out) | ((with_reducible refine gate_builtin (b:=.append) (xs:=#[.tmp 27,.tmp 29]) rfl ?_);at_builtin;refine Kd.R_append k23 (w0:=w) w.heap.size rfl (.tmp 27) (.tmp 29) 65 23 (.agg #[(.int .i64 0),(.int .i64 0),(.int .i64 0),(.int .i64 0)]) 32 rfl Tryz.underlying65 info23 rfl (by decide) (by omega) u2 x2_1 (⟨t781,t782,t783,t784⟩:S23) [.int .i64 t781,.int .i64 t782,.int .i64 t783,.int .i64 t784] (fun k_=>k_≠gb787) (fun _=>False) rfl (by first | (go_simp;done) | (go_simp;rfl)) ?aP (fun _ hk=>hk.elim) ?aF ?aO ?aB ?aS ?aL ?_;(case aP=>exact k23_mkM _ _ _ (⟨t781,t782,t783,t784⟩:S23));(case aB=>exact blw);(case aF=>exact (fun k_ hk=>Kd.freshB (g:=gb787) (o:=.cells #[.int .i64 t781,.int .i64 t782,.int .i64 t783,.int .i64 t784] 23 (0,0)) (by (with_reducible repeat (first | refine blk_drewN ?_ _ | refine blk_drew ?_ | refine blk_alloc ?_ _));refine blk_put (cs:=#[.int .i64 t781,.int .i64 t782,.int .i64 t783,.int .i64 0]) ?_ 3 _ rfl;refine blk_put (cs:=#[.int .i64 t781,.int .i64 t782,.int .i64 0,.int .i64 0]) ?_ 2 _ rfl;refine blk_put (cs:=#[.int .i64 t781,.int .i64 0,.int .i64 0,.int .i64 0]) ?_ 1 _ rfl;refine blk_put (cs:=#[.int .i64 0,.int .i64 0,.int .i64 0,.int .i64 0]) ?_ 0 _ rfl;exact bko) k_ hk));(case aO=>exact (by (with_reducible repeat (first | apply Kd.R_alloc | apply Kd.R_drewN | apply Kd.R_drew));exact Kd.R_mono (Kd.R_far (p:=⟨gb787,3,none⟩) (Kd.R_far (p:=⟨gb787,2,none⟩) (Kd.R_far (p:=⟨gb787,1,none⟩) (Kd.R_far (p:=⟨gb787,0,none⟩) (Kd.R_mono HO_2.out (fun k_ hk=>(⟨hk,hk.2⟩:_∧k_≠gb787))) (fun _ hk=>hk.2) (.int .i64 t781)) (fun _ hk=>hk.2) (.int .i64 t782)) (fun _ hk=>hk.2) (.int .i64 t783)) (fun _ hk=>hk.2) (.int .i64 t784)) (fun _ hk=>hk.1.2)));(case aS=>exact (below_size blw));(case aL=>have:=LMc8.out;omega);intro v789 w14 ho hb hg hat;rw [← Ny788.out] at ho;replace HO_3:=Aside0.mk (Kd.R_over' (by (with_reducible repeat (first | apply Kd.R_alloc | apply Kd.R_drewN | apply Kd.R_drew));exact (Kd.R_mono (Kd.R_far (p:=⟨gb787,3,none⟩) (Kd.R_far (p:=⟨gb787,2,none⟩) (Kd.R_far (p:=⟨gb787,1,none⟩) (Kd.R_far (p:=⟨gb787,0,none⟩) (Kd.R_types HO_3.out BK787.out (by decide)) (fun _ hk=>hk.2) (.int .i64 t781)) (fun _ hk=>hk.2) (.int .i64 t782)) (fun _ hk=>hk.2) (.int .i64 t783)) (fun _ hk=>hk.2) (.int .i64 t784)) (fun _ h_=>h_.1))) (Kd.R_typed (by (with_reducible repeat (first | apply Kd.R_alloc | apply Kd.R_drewN | apply Kd.R_drew));exact (Kd.R_mono (Kd.R_far (p:=⟨gb787,3,none⟩) (Kd.R_far (p:=⟨gb787,2,none⟩) (Kd.R_far (p:=⟨gb787,1,none⟩) (Kd.R_far (p:=⟨gb787,0,none⟩) (Kd.R_mono HO_2.out (fun k_ hk=>(⟨hk,hk.2⟩:_∧k_≠gb787))) (fun _ hk=>hk.2) (.int .i64 t781)) (fun _ hk=>hk.2) (.int .i64 t782)) (fun _ hk=>hk.2) (.int .i64 t783)) (fun _ hk=>hk.2) (.int .i64 t784)) (fun _ h_=>h_.1)))) (by decide) hg);replace BK787:=Aside0.mk (blk_grown (g:=gb787) (o:=.cells #[.int .i64 t781,.int .i64 t782,.int .i64 t783,.int .i64 t784] 23 (0,0)) (by (with_reducible repeat (first | refine blk_drewN ?_ _ | refine blk_drew ?_ | refine blk_alloc ?_ _));refine blk_put (cs:=#[.int .i64 t781,.int .i64 t782,.int .i64 t783,.int .i64 0]) ?_ 3 _ rfl;refine blk_put (cs:=#[.int .i64 t781,.int .i64 t782,.int .i64 0,.int .i64 0]) ?_ 2 _ rfl;refine blk_put (cs:=#[.int .i64 t781,.int .i64 0,.int .i64 0,.int .i64 0]) ?_ 1 _ rfl;refine blk_put (cs:=#[.int .i64 0,.int .i64 0,.int .i64 0,.int .i64 0]) ?_ 0 _ rfl;exact bko) hg (Kd.R_away HO_2.out (fun _ hk=>hk.2)));replace HB:=Aside0.mk hb;have HO790:=Aside0.mk ho;clear ho hb hg hat) | ((with_reducible refine gate_builtin (b:=.append) (xs:=#[.tmp 31,.tmp 33]) rfl ?_);at_builtin;refine Kd.R_append (Kd.int .i64) (w0:=w) w.heap.size rfl (.tmp 31) (.tmp 33) 66 3 (.int .i64 0) 8 rfl Tryz.underlying66 info3 rfl (by decide) (by omega) u3 x3_1 x5_1 [.int .i64 x5_1] (fun _=>True) (fun _=>False) rfl rfl ?aP (fun _ hk=>hk.elim) ?aF ?aO ?aB ?aS ?aL ?_;(case aP=>exact rfl);(case aB=>exact blw);(case aF=>exact (fun _ _=>trivial));(case aO=>exact (kRd HO_3.out));(case aS=>exact (below_size blw));(case aL=>have:=LMc9.out;omega);intro v792 w15 ho hb hg hat;rw [← Ny791.out] at ho;replace BK787:=Aside0.mk (blk_grown (g:=gb787) (o:=.cells #[.int .i64 t781,.int .i64 t782,.int .i64 t783,.int .i64 t784] 23 (0,0)) bko hg (Kd.R_ne HO_3.out BK787.out (by decide)));replace HO790:=Aside0.mk (Kd.R_over' (kRd HO790.out) (Kd.R_typed (kRd HO_3.out)) (by decide) hg);replace HB:=Aside0.mk hb;have HO793:=Aside0.mk ho;clear ho hb hg hat))
          go_roundg k1
          case measure=>have:=HK1.out;omega
          case rel=>exact ⟨(y788),(y791),(wrap64 (x5_1+t785)),rsd,H',⟨by have:=HK1.out;omega⟩,⟨by (with_reducible repeat (first | apply Kd.R_alloc | apply Kd.R_drewN | apply Kd.R_drew));exact Kd.R_mono HO790.out (fun _ hk=>trivial)⟩,⟨kRd HO793.out⟩,⟨blw⟩⟩
         ·rw [if_neg c9] at H;exact absurd H (by simp)
        ·rw [if_neg c8] at H;exact absurd H (by simp)
       ·rw [if_neg c7] at H;obtain ⟨c7b0,c7b1⟩:=bqf c7;simp only [Option.some.injEq,Prod.mk.injEq] at H;obtain ⟨rfl,rfl,rfl⟩:=H;obtain ⟨i016,hi016,_,hsz16,_⟩:=info_parts info5;obtain ⟨A16,hcut16,hA16,hC16⟩:=print_drop_of (P:=Tryz.prog) (Value.int .u8) 0 24 5 .i64 Tryz.underlying24 hi016 hsz16 A0 c0 l0 x5_1 (of_decide_eq_true asm) (of_decide_eq_true asm) HC0.out;have HR780:=Aside0.mk (Kd.C_of_reads (h1:=fun _=>rfl) (hA16 _ (Kd.reads_of_C HR0.out)));have HC780:=Aside0.mk hC16;clear hA16 hC16 hi016 hsz16;go_wp2_with (first | ((with_reducible refine gate_callee (f:=22) rfl ?_);refine goesL_ (some 20) rfl rfl Tryz.func22 (by kernel_rfl) rfl #[.slice A16 (l0.drop (x5_1:Int).toNat).length (c0 - x5_1.toNat)] rfl (by (try simp only [List.map_toArray,List.map_cons,List.map_nil]);first | done | (rw [show (l0.drop (x5_1:Int).toNat).length=(l0.length - x5_1.toNat) from List.length_drop] <;> rfl) | rfl | (simp only [List.length_drop,List.length_take];rfl)) ?_;(with_reducible refine (insn_Decode.calls k1 (fun k_=>k_ < w.heap.size) _ _ (l0.drop (x5_1:Int).toNat) t781 t782 t783 t784 t785 t786 _ ?side1 A6.out gwy).mono ?_);(case side1=>exact Kd.V_mk HC780.out (Kd.F_below (Kd.C_F (Kd.heap_int .u8) HR780.out) blw));rintro e w17 ⟨rfl,hb⟩;refine ⟨_,rfl,?_⟩;replace HO_2:=Aside0.mk (Kd.R_below (kRd HO_2.out) hb);replace HO_3:=Aside0.mk (Kd.R_below (kRd HO_3.out) hb);replace HB:=Aside0.mk (below_step blw hb);clear hb) | ((with_reducible refine gate_dst (N:=6) rfl ?_);refine bxe (N:=6) (cs:=#[.int .i64 0,.int .i64 0,.int .i64 0,.int .i64 0]) (t:=23) ?_;intro gb787 hg w18 hbox hb;replace HO_2:=Aside0.mk (Kd.R_below (Kd.R_elderB (kRd HO_2.out) gb787 (Nat.le_of_eq hg.symm)) hb);replace HO_3:=Aside0.mk (Kd.R_below (kRd HO_3.out) hb);have BK787:=Aside0.mk hbox;have GW787:Aside0 (w.heap.size≤gb787):=⟨gwb⟩;have GE787:Aside0 (w.heap.size≤gb787):=⟨gwb⟩;replace HB:=Aside0.mk (below_step blw hb);clear hb hbox hg;obtain ⟨_,_,_,_,_,_,_,_⟩:=bz4 BK787.out))
        go_ret3;exact ⟨_,_,by first | rfl | (simp [errW_none,errW_some] <;> rfl) | (simp [*,errW_none,errW_some] <;> rfl),by first | exact Kd.R_nil _ _ _ _ _ | exact Kd.N_nil _ _ _ _ _ | exact Kd.V_nil _ _ _ _ _ | exact Kd.Q_nil _ _ _ _ _ | exact Kd.S_nil _ _ _ _ _,by first | exact Kd.R_nil _ _ _ _ _ | exact Kd.N_nil _ _ _ _ _ | exact Kd.V_nil _ _ _ _ _ | exact Kd.Q_nil _ _ _ _ _ | exact Kd.S_nil _ _ _ _ _,blw⟩
      ·rw [if_neg c5] at H;exact absurd H (by simp)
     ·rw [if_neg c4] at H;exact absurd H (by simp)
    ·rw [if_neg c3] at H;have c3b0:=decide_eq_false c3;clear c3;simp only [Option.some.injEq,Prod.mk.injEq] at H;obtain ⟨rfl,rfl,rfl⟩:=H;go_wp2;go_ret3;exact ⟨_,_,by first | rfl | (simp [errW_none,errW_some] <;> rfl) | (simp [*,errW_none,errW_some] <;> rfl),by (with_reducible repeat (first | apply Kd.R_alloc | apply Kd.R_drewN | apply Kd.R_drew));exact HO_2.out,by (with_reducible repeat (first | apply Kd.R_alloc | apply Kd.R_drewN | apply Kd.R_drew));exact HO_3.out,blw⟩
end Go.Proofs.YtffojmgmpfjlhaaGreatDoor.Q
namespace Go.Proofs.YtffojmgmpfjlhaaGreatDoor
open Go.Proofs.Ix hiding rd
open Go.RowKit YtffojmgmpfjlhaaGreatDoorW.PrintWords YtffojmgmpfjlhaaGreatDoorW.PrintLast
open Q (S61 rd_T61 k61 at_T61 S23 rd_T23 k23 at_T23 insn_Sweep.f insn_Print.f)
def outL (pr:S23→ByteArray) (X:List S23) (O:List Int) (at_:Int) (L:List S61):Nat→List UInt8
 | 0=>[]
 | k+1=>outL pr X O at_ L k ++ fnL (wrap64 (at_+YtffojmgmpfjlhaaGreatDoorW.PrintWords.rd O (k:Int))) L ++ ((pr (rd_T23 X (k:Int))).data.toList ++ [10])
def DisOut (w:World) (t:ByteArray) (e:Int) (x:Ending) (w':World):Prop:=x=.returned (.tuple #[.string t,.int .i64 e])∧Below w.heap.size w w'
theorem outL_len (pr:S23→ByteArray) {X:List S23} {O:List Int} {at_:Int} {L:List S61} (hn:L.length≤32) (hs:∀ s∈L,s.f0.size≤31) (hp:∀ x∈X,(pr x).size≤1000):∀ k,k≤X.length→(outL pr X O at_ L k).length≤3000 * k
 | 0,_=>by simp [outL]
 | k+1,hk=>by
  have h1:=outL_len pr (O:=O) (at_:=at_) hn hs hp k (by omega)
  have h2:=fnL_len (wrap64 (at_+YtffojmgmpfjlhaaGreatDoorW.PrintWords.rd O (k:Int))) L hs
  have h3:=hp (rd_T23 X (k:Int)) (by
   rw [show rd_T23 X (k:Int)=X[k] from by simp [rd_T23,List.getD_eq_getElem?_getD,List.getElem?_eq_getElem (show k < X.length by omega)]]
   exact List.getElem_mem _)
  have h4:(pr (rd_T23 X (k:Int))).data.toList.length≤1000:=by simpa using h3
  simp only [outL,List.length_append,List.length_cons,List.length_nil]
  omega
theorem fit_names {L:List S61} {at_:Int} {O:List Int} {e:Int} (h:fitB L at_ O e=true):∀ s∈L,s.f0.size≤31:=by
 intro s hs
 obtain ⟨i,hi,rfl⟩:=List.getElem_of_mem hs
 unfold fitB at h
 rw [List.all_eq_true] at h
 have h1:=h i (List.mem_range.2 hi)
 unfold fitAt at h1
 rw [rd_T61_mem hi] at h1
 simp only [Bool.and_eq_true] at h1
 exact nameB_le h1.1.1.1.1
theorem bld_below {B b:Nat} {bs:List Value} {w w':World} (h:Lib.IsBuilderF 139 5 B b bs w) (hb:Below w.heap.size w w'):Lib.IsBuilderF 139 5 B b bs w':=by
 have key:∀ p,Lib.BuilderAtF 139 5 B b p bs w→Lib.BuilderAtF 139 5 B b p bs w':=by
  intro p h
  have hlt:=h.lt
  obtain ⟨hB,v,h1,hown,hne⟩:=h
  exact ⟨hB,v,(hb.block b hlt).trans h1,hown.kept (row:=none) ⟨hb.os,hb.tape,hb.output,hb.size,fun k hk _=>hb.block k hk⟩ (by cases hv:v.ownBlock <;> simp),hne⟩
 exact h.elim (fun h=>.inl (key _ h)) (fun h=>.inr (key _ h))
theorem rd_T23_mem {X:List S23} {k:Nat} (hk:k < X.length):rd_T23 X (k:Int)=X[k]:=by simp [rd_T23,List.getD_eq_getElem?_getD,List.getElem?_eq_getElem hk]
theorem dis_any (A0:Option Addr) (c0:Nat) (l0:List Int) (at_:Int) (A1:Option Addr) (c1:Nat) (L:List S61) (w:World) (hr0:Kd.C (Kd.int .u8) w A0 l0.length l0) (hc0:l0.length≤c0) (hr1:Kd.C k61 w A1 L.length L) (hc1:L.length≤c1) (hgw:GW w)
  (hL:∀ s∈L,okI s.f1) (K:Nat) (X:List S23) (O:List Int) (er:Int) (hsw:insn_Sweep.f K l0=some (X,O,er)) (pr:S23→ByteArray) (hp:er=0→∀ x∈X,insn_Print.f K x.f0 x.f1 x.f2 x.f3=some (pr x,0)∧(pr x).size≤1000)
  (hXO:er=0→X.length=O.length∧X.length≤2048∧l0.length≤2048) (T:ByteArray) (E:Int)
  (hT:(T,E)=if 32 < L.length then (⟨#[]⟩,2) else if at_ < 0∨1099511627776 < at_ then (⟨#[]⟩,1) else if er≠0 then (⟨#[]⟩,er) else if fitB L at_ O (at_+l0.length)=false then (⟨#[]⟩,5)
   else (⟨(outL pr X O at_ L X.length ++ fnL (at_+l0.length) L).toArray⟩,0)) :
  Calls Tryz.prog 40 #[.slice A0 l0.length c0,.int .i64 at_,.slice A1 L.length c1] w (DisOut w T E):=by
 obtain ⟨n,hne⟩:∃ n,L.length=n:=⟨_,rfl⟩
 obtain ⟨n0,hn0⟩:∃ n,l0.length=n:=⟨_,rfl⟩
 have HT:=Lib.hid hT
 clear hT
 rw [hne] at HT hc1 ⊢
 rw [hn0] at HT hc0 ⊢
 by_cases h32:32 < n
 ·have hT:=HT.out
  rw [if_pos h32] at hT
  cases hT
  clear HT
  go_enter Tryz.func40,Tryz.ntmps40
  go_wp2
  go_ret2
  exact ⟨rfl,(Below.refl _ w).alloc (Nat.le_refl _) _⟩
 ·by_cases hat:at_ < 0∨1099511627776 < at_
  ·have hT:=HT.out
   rw [if_neg h32,if_pos hat] at hT
   cases hT
   clear HT
   go_enter Tryz.func40,Tryz.ntmps40
   rcases hat with h | h
   ·go_wp2
    go_ret2
    exact ⟨rfl,(Below.refl _ w).alloc (Nat.le_refl _) _⟩
   ·have h':¬ at_ < 0:=by omega
    go_wp2
    go_ret2
    exact ⟨rfl,(Below.refl _ w).alloc (Nat.le_refl _) _⟩
  ·have hT:=HT.out
   rw [if_neg h32,if_neg hat] at hT
   have HT2:=Lib.hid hT
   clear hT HT
   have ha0:¬ at_ < 0:=fun h=>hat (Or.inl h)
   have ha1:¬ 1099511627776 < at_:=fun h=>hat (Or.inr h)
   have hB1:Below w.heap.size w (w.alloc (.cells #[.slice A1 n c1] 47)):=(Below.refl _ w).alloc (Nat.le_refl _) _
   have hq1:(w.alloc (.cells #[.slice A1 n c1] 47)).cell? ⟨w.heap.size,0,none⟩=some (.slice A1 n c1):=(blk_cell (heap_own w _) 0).trans rfl
   have hS1:=Q.insn_Sweep.calls K A0 c0 l0 X O er (w.alloc (.cells #[.slice A1 n c1] 47)) (Kd.C_alloc hr0 _) (by omega) hsw (hgw.alloc _)
   rw [hn0] at hS1
   go_enter Tryz.func40,Tryz.ntmps40
   go_upto_region 6 with (go_at_call 33;refine hS1.mono ?_;rintro e2 w2 ⟨v0,v1,rfl,hX,hO,hb2⟩)
   have hqb:w.heap.size < (w.alloc (.cells #[.slice A1 n c1] 47)).heap.size:=(Array.getElem?_eq_some_iff.1 (heap_own w (.cells #[.slice A1 n c1] 47))).1
   have hq2:w2.cell? ⟨w.heap.size,0,none⟩=some (.slice A1 n c1):=(hb2.cell (p:=⟨w.heap.size,0,none⟩) hqb).trans hq1
   have hB2:Below w.heap.size w w2:=below_then hB1 hB1.size hb2
   have hg2:GW w2:=(hgw.alloc _).below hb2 (Nat.le_refl _)
   clear hS1 hB1 hq1 hqb
   by_cases her:er=0
   ·subst her
    have hT:=HT2.out
    rw [if_neg (by simp)] at hT
    have HT3:=Lib.hid hT
    clear hT HT2
    obtain ⟨hXO1,hX2,hl2⟩:=hXO rfl
    rw [hn0] at hl2
    obtain ⟨A2,c2,rfl,hc2,hC2⟩:=Kd.R_reads hO
    obtain ⟨A3,c3,rfl,hc3,hC3⟩:=Kd.R_reads hX
    have i1:IntKind.i64.wrap (at_+(n0:Int))=at_+n0:=IntWalk.i64_in _ (by omega)
    have hF:=fitting_any A1 c1 L A2 c2 O at_ (at_+n0) w2 (Kd.C_below hr1 hB2) (by omega) hC2 hc2 (by omega) (by omega) (okI_of (by omega) (by omega)) hL
    rw [hne] at hF
    clear hO hX
    cases hfb:fitB L at_ O (at_+n0) with
    | false =>
     rw [hfb] at hF
     have hT:=HT3.out
     rw [if_pos hfb] at hT
     cases hT
     clear HT3
     go_wp2_with (go_at_call 82;refine hF.mono ?_;rintro e3 w3 ⟨rfl,hb3⟩)
     go_ret2
     exact ⟨rfl,below_step hB2 hb3⟩
    | true =>
     rw [hfb] at hF
     have hT:=HT3.out
     rw [if_neg (by rw [hfb];simp)] at hT
     cases hT
     clear HT3
     have hmf:∀ (fn:Fn) (first cap:Array Value) (w:World),(Instr.makeFunc fn first cap).run Tryz.prog w=.ok (.func fn first cap) w:=fun _ _ _ _=>rfl
     go_upto_region 14 with (go_at_call 82;refine hF.mono ?_;rintro e3 w3 ⟨rfl,hb3⟩)
     have hnm:=fit_names hfb
     have hB3:Below w.heap.size w w3:=below_step hB2 hb3
     have hC61:=Kd.C_below hr1 hB3
     have hCX:=Kd.C_below hC3 hb3
     have hCO:=Kd.C_below hC2 hb3
     have hq3:w3.cell? ⟨w.heap.size,0,none⟩=some (.slice A1 n c1):=(hb3.cell (p:=⟨w.heap.size,0,none⟩) (World.block_lt_of_cell? _ _ hq2)).trans hq2
     have hg3:GW w3:=hg2.below hb3 (Nat.le_refl _)
     have hBb:Lib.IsBuilderF 139 5 w3.heap.size w3.heap.size (Lib.byteCells (outL pr X O at_ L 0)) (w3.alloc (.cells #[.pointer none,.slice none 0 0] 139)):=Lib.IsBuilderF.of (Lib.fresh_isBuilder 139 5 w3)
     have hb4:Below w3.heap.size w3 (w3.alloc (.cells #[.pointer none,.slice none 0 0] 139)):=(Below.refl _ w3).alloc (Nat.le_refl _) _
     have e83:∀ args w,(callFunc 83 args).run Tryz.prog w=.ok (.enter 83 args) w:=enters_of Tryz.func83 (by kernel_rfl) rfl
     have HP:=Lib.hid (hp (by trivial))
     clear hp hC2 hC3 hF hmf hr1 hq2 hb2 hB2 hb3
     obtain ⟨m,hm⟩:∃ m,O.length=m:=⟨_,rfl⟩
     rw [hm] at hXO1
     simp only [hm]
     generalize w3.alloc (.cells #[.pointer none,.slice none 0 0] 139)=W4 at hBb hb4 ⊢
     go_loopw [49] (fun i wr=>∃ (k:Nat),k≤m∧i=.int .i64 k∧Lib.IsBuilderF 139 5 w3.heap.size w3.heap.size (Lib.byteCells (outL pr X O at_ L k)) wr∧Below w3.heap.size w3 wr) (fun i _=>m - (intOf i).toNat)
     case atStart=>exact ⟨0,by omega,rfl,hBb,hb4⟩
     case round =>
      obtain ⟨k,hk,rfl,hBk,hbk⟩:=hrel
      have hln:(outL pr X O at_ L k).length≤3000 * 2048:=by
       have:=outL_len pr (X:=X) (O:=O) (at_:=at_) (L:=L) (by omega) hnm (fun x hx=>(HP.out x hx).2) k (by omega)
       omega
      have hqk:wr.cell? ⟨w.heap.size,0,none⟩=some (.slice A1 L.length c1):=by rw [hne];exact (hbk.cell (p:=⟨w.heap.size,0,none⟩) (World.block_lt_of_cell? _ _ hq3)).trans hq3
      by_cases hlt:k < m
      ·have hkX:k < X.length:=by omega
       obtain ⟨ad,e3,x0,x1,x2,x3⟩:=at_T23 (Kd.C_below hCX hbk) (k:Int) (by omega) (by omega)
       cases e3
       obtain ⟨ad2,e2,y0⟩:=Kd.at_int (Kd.C_below hCO hbk) (k:Int) (by omega) (by omega)
       cases e2
       obtain ⟨hpr,hps⟩:=HP.out (rd_T23 X (k:Int)) (by rw [rd_T23_mem hkX];exact List.getElem_mem hkX)
       have hstep:outL pr X O at_ L (k+1)=outL pr X O at_ L k ++ fnL (wrap64 (at_+YtffojmgmpfjlhaaGreatDoorW.PrintWords.rd O (k:Int))) L ++ ((pr (rd_T23 X (k:Int))).data.toList ++ [10]):=rfl
       obtain ⟨y,hy⟩:∃ y,YtffojmgmpfjlhaaGreatDoorW.PrintWords.rd O (k:Int)=y:=⟨_,rfl⟩
       obtain ⟨x,hx⟩:∃ x,rd_T23 X (k:Int)=x:=⟨_,rfl⟩
       obtain ⟨s,hs⟩:∃ s,pr x=s:=⟨_,rfl⟩
       rw [hx] at x0 x1 x2 x3 hpr hps hstep
       rw [hs] at hpr hps hstep
       rw [hy] at y0 hstep
       obtain ⟨xo,xa,xb,xi⟩:=x
       dsimp only at x0 x1 x2 x3 hpr
       rw [Int.toNat_natCast] at x0 x1 x2 x3 y0
       have hB5:=hBk.alloc (.cells #[.int .i64 xo,.int .i64 xa,.int .i64 xb,.int .i64 xi] 23)
       have hb5:Below w3.heap.size w3 (wr.alloc (.cells #[.int .i64 xo,.int .i64 xa,.int .i64 xb,.int .i64 xi] 23)):=hbk.alloc hbk.size _
       have hX5:(wr.alloc (.cells #[.int .i64 xo,.int .i64 xa,.int .i64 xb,.int .i64 xi] 23)).heap[wr.heap.size]?=some (.cells #[.int .i64 xo,.int .i64 xa,.int .i64 xb,.int .i64 xi] 23 (0,0)):=heap_own _ _
       have hXb:wr.heap.size≠w3.heap.size:=by
        have:w3.heap.size < wr.heap.size:=by rcases hBk with h | h <;> exact h.lt
        omega
       have y5:∀ o,(wr.alloc o).cell? (ad2.add k)=some (.int .i64 y):=fun o=>(((Below.refl _ wr).alloc (Nat.le_refl _) o).cell (World.block_lt_of_cell? _ _ y0)).trans y0
       have y6:=y5 (.cells #[.int .i64 xo,.int .i64 xa,.int .i64 xb,.int .i64 xi] 23)
       have q5:(wr.alloc (.cells #[.int .i64 xo,.int .i64 xa,.int .i64 xb,.int .i64 xi] 23)).cell? ⟨w.heap.size,0,none⟩=some (.slice A1 L.length c1):=(((Below.refl _ wr).alloc (Nat.le_refl _) _).cell (p:=⟨w.heap.size,0,none⟩) (World.block_lt_of_cell? _ _ hqk)).trans hqk
       go_upto_region 16 with fail
       clear x0 x1 x2 x3 y0 y5 hBk hbk hqk
       generalize wr.heap.size=X5 at hX5 hXb ⊢
       generalize wr.alloc (.cells #[.int .i64 xo,.int .i64 xa,.int .i64 xb,.int .i64 xi] 23)=W5 at hB5 hb5 hX5 y6 q5 ⊢
       have hF3:=funcs_any w3 W5 A1 c1 L (wrap64 (at_+y)) w.heap.size w3.heap.size (outL pr X O at_ L k) hC61 (by omega) hb5 q5 hB5 (by omega) hnm (by omega)
       have hfl:(fnL (wrap64 (at_+y)) L).length≤38 * 32:=by
        have:=fnL_len (wrap64 (at_+y)) L hnm
        omega
       go_upto_region 17 with (go_at_fn 83;refine hF3.mono ?_;rintro e5 w6 ⟨rfl,hB6,hb6,hk6⟩)
       have hX6:w6.heap[X5]?=some (.cells #[.int .i64 xo,.int .i64 xa,.int .i64 xb,.int .i64 xi] 23 (0,0)):=hk6 X5 _ hX5 (fun h=>hXb (by injection h)) (fun c fz h=>by injection h with _ h _;cases h)
       have z0:w6.cell? ⟨X5,0,none⟩=some (.int .i64 xo):=(blk_cell hX6 0).trans rfl
       have z1:w6.cell? ⟨X5,1,none⟩=some (.int .i64 xa):=(blk_cell hX6 1).trans rfl
       have z2:w6.cell? ⟨X5,2,none⟩=some (.int .i64 xb):=(blk_cell hX6 2).trans rfl
       have z3:w6.cell? ⟨X5,3,none⟩=some (.int .i64 xi):=(blk_cell hX6 3).trans rfl
       have hb36:Below w3.heap.size w3 w6:=hb5.trans hb6
       have hPc:=Q.insn_Print.calls K xo xa xb xi s 0 w6 hpr (hg3.below hb36 (Nat.le_refl _))
       clear y6 hX5 hF3 q5 hB5
       go_upto_region 18 with (go_at_call 24;refine hPc.mono ?_;rintro e6 w7 ⟨rfl,hb7⟩)
       have hB7:=bld_below hB6 hb7
       have hb37:Below w3.heap.size w3 w7:=below_step hb36 hb7
       have hc1s:s.size+1≤9223372036854775807:=by omega
       have hc3:(Lib.byteCells (outL pr X O at_ L k ++ fnL (wrap64 (at_+y)) L)).length+(s ++ (⟨#[10]⟩:ByteArray)).size≤140737488355328:=by
        rw [Lib.byteCells_length,List.length_append,ByteArray.size_append]
        show _+(s.size+1)≤_
        omega
       have e1:Lib.strCells (s ++ (⟨#[10]⟩:ByteArray))=Lib.byteCells (s.data.toList ++ [10]):=by
        rw [Lib.strCells_eq]
        simp
       go_wp2_with fail
       generalize (s ++ (⟨#[10]⟩:ByteArray))=str at hc3 e1 ⊢
       refine (Q.bws _ _ _ str w7 hB7 hc3 hb37.size).mono ?_
       rintro e8 w8 ⟨rfl,hB8,hb8,hk8⟩
       have hBn:Lib.IsBuilderF 139 5 w3.heap.size w3.heap.size (Lib.byteCells (outL pr X O at_ L (k+1))) w8:=by
        rw [hstep,Lib.byteCells_append,← e1]
        exact .inr hB8
       have hbn:Below w3.heap.size w3 w8:=hb37.trans hb8
       clear e1 hB8 hb8 hk8 hB7 hc3 hc1s hB6 hb7 hb6 hk6 hX6 z0 z1 z2 z3 hPc
       go_wp2
       go_roundw
       case rel=>exact ⟨k+1,by omega,by go_num,hBn,hbn⟩
       case measure=>simp [intOf];omega
      ·obtain rfl:k=m:=by omega
       have hF2:=funcs_any w3 wr A1 c1 L (at_+n0) w.heap.size w3.heap.size (outL pr X O at_ L k) hC61 (by omega) hbk hqk hBk (by omega) hnm (by omega)
       go_upto_region 21 with (go_at_fn 83;refine hF2.mono ?_;rintro e5 w5 ⟨rfl,hB5,hb5,hk5⟩)
       have hb35:Below w3.heap.size w3 w5:=hbk.trans hb5
       have hS:=Tryz.Builder_String_any_f w3.heap.size w3.heap.size _ w5 hB5 hb35.size
       go_wp2_with (go_at_call 85;refine hS.mono ?_;rintro e6 w6 ⟨rfl,hB6,hb6⟩)
       go_ret2
       exact ⟨by rw [hXO1];rfl,below_step hB3 (hb35.trans hb6)⟩
   ·have hT:=HT2.out
    rw [if_pos her] at hT
    cases hT
    have h2:(er != 0)=true:=by simpa using her
    go_wp2
    go_ret2
    exact ⟨rfl,hB2⟩
end Go.Proofs.YtffojmgmpfjlhaaGreatDoor
namespace Go.Proofs.YtffojmgmpfjlhaaGreatDoor.Q
open Go.Proofs.Ix hiding rd
open Go.Proofs.YtffojmgmpfjlhaaGreatDoor Go.RowKit Go.Proofs.YtffojmgmpfjlhaaGreatDoorW.PrintWords
theorem rd_drop (l:List Int) (n i:Nat):rd (l.drop n) (i:Int)=rd l ((n+i:Nat):Int):=by
 unfold rd
 rw [Int.toNat_natCast,Int.toNat_natCast]
 simp [List.getD,List.getElem?_drop]
theorem scan_len (l:List Int) (f:Int):∀ (d i:Nat),scanD l f i d=0→i≤l.length→i+d≤l.length
 | 0,i,_,h=>h
 | d+1,i,hs,h=>by
  unfold scanD at hs
  by_cases h1:i=l.length
  ·rw [if_pos h1] at hs;omega
  ·rw [if_neg h1] at hs
   by_cases h2:rd l (i:Int)≥128
   ·rw [if_pos h2] at hs;omega
   ·rw [if_neg h2] at hs
    by_cases h3:f=3∧d=0∧rd l (i:Int)≠0∧rd l (i:Int)≠127
    ·rw [if_pos h3] at hs;omega
    ·rw [if_neg h3] at hs
     have:=scan_len l f d (i+1) hs (by omega)
     omega
end Go.Proofs.YtffojmgmpfjlhaaGreatDoor.Q
namespace Go.Proofs.YtffojmgmpfjlhaaGreatDoor.Q
open Go.Proofs.Ix hiding rd
open Go Go.Proofs.YtffojmgmpfjlhaaGreatDoor Go.RowKit Go.Proofs.YtffojmgmpfjlhaaGreatDoorW.PrintWords
def Pl (l:List UInt8):Prop:=∀ i:Nat,l[i]?≠some 58∧(l[i]?=some 46→∀ c,l[i+1]?=some c→c=43∨c=45)
theorem bt_nat (s:ByteArray) (i:Nat) (h:i < s.size):s.data.toList[i]?=some s[i]∧bt s (i:Int)=(s[i].toNat:Int):=by
 refine ⟨?_,?_⟩
 ·rw [List.getElem?_eq_getElem (by rw [Array.length_toList];exact h),Array.getElem_toList];rfl
 ·unfold bt
  rw [dif_pos (by simpa using h)]
  simp
theorem encI_eq (op a b imm:Int):(encI op a b imm).length=lenM (formM op):=by
 unfold encI lenM
 have hAB:hasB (formM op)=true→hasA (formM op)=true:=by
  unfold hasA hasB
  intro h
  simp at h ⊢
  omega
 simp only [List.length_cons,List.length_append,immI_len]
 by_cases h1:hasB (formM op)=true
 ·rw [if_pos h1,if_pos (hAB h1)];simp only [List.length_cons,List.length_nil] <;> omega
 ·rw [if_neg h1]
  by_cases h2:hasA (formM op)=true
  ·rw [if_pos h2,if_pos h2];simp only [List.length_cons,List.length_nil] <;> omega
  ·rw [if_neg h2,if_neg h2];simp only [List.length_nil] <;> omega
theorem toS (l:List UInt8):(bS l).data.toList=l:=by simp [bS]
def Cur (l:L9) (t:List UInt8):Prop:=l.s.data.toList.drop l.at_=t∧l.at_≤l.s.size
theorem sz_list (s:ByteArray):s.data.toList.length=s.size:=by rw [Array.length_toList];rfl
theorem Cur.len {l:L9} {t:List UInt8} (h:Cur l t):l.at_+t.length=l.s.size:=by
 have:=h.2
 rw [← h.1,List.length_drop,sz_list]
 omega
theorem Cur.at0 {l:L9} {c:UInt8} {t:List UInt8} (h:Cur l (c :: t)):∃ hlt:l.at_ < l.s.size,l.s[l.at_]=c:=by
 have hl:=h.len
 rw [List.length_cons] at hl
 have hlt:l.at_ < l.s.size:=by omega
 refine ⟨hlt,?_⟩
 have h1:=h.1
 rw [List.drop_eq_getElem_cons (by rw [sz_list];exact hlt)] at h1
 have h2:=(List.cons.inj h1).1
 rw [Array.getElem_toList] at h2
 exact h2
theorem Cur.run {l:L9} {x t:List UInt8} (h:Cur l (x ++ t)) (p:UInt8→Bool) (hx:∀ c∈x,p c=true) (ht:∀ c t',t=c :: t'→p c=false):runB p l.s l.at_=l.at_+x.length:=by
 unfold runB runEnd
 rw [h.1,List.takeWhile_append_of_pos hx]
 have:t.takeWhile p=[]:=by
  cases t with
  | nil=>rfl
  | cons c t'=>rw [List.takeWhile_cons,if_neg (by rw [ht c t' rfl];decide)]
 rw [this,List.append_nil]
def regW (x:Int):List UInt8:=[114,UInt8.ofNat (48+x.toNat)]
end Go.Proofs.YtffojmgmpfjlhaaGreatDoor.Q
