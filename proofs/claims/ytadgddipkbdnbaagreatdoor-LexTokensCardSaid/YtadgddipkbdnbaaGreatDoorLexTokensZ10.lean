/- Parts of the proof that the program's token functions return what the specification's return. -/
import Derived.Test.YtadgddipkbdnbaaGreatDoorLexTokensZ1
import Derived.Test.YtadgddipkbdnbaaGreatDoorLexTokensZ2
import Derived.Test.YtadgddipkbdnbaaGreatDoorLexTokensZ3
import Derived.Test.YtadgddipkbdnbaaGreatDoorLexTokensZ4
import Derived.Test.YtadgddipkbdnbaaGreatDoorLexTokensZ5
import Derived.Test.YtadgddipkbdnbaaGreatDoorLexTokensZ6
import Derived.Test.YtadgddipkbdnbaaGreatDoorLexTokensZ7
import Derived.Test.YtadgddipkbdnbaaGreatDoorLexTokensZ8
import Derived.Test.YtadgddipkbdnbaaGreatDoorLexTokensZ9
set_option linter.unusedVariables false
set_option linter.unusedSimpArgs false
namespace Go.Proofs.YtadgddipkbdnbaaGreatDoor.Q
open Go.Proofs.YtadgddipkbdnbaaGreatDoor Go.RowKit Go.Proofs.YtadgddipkbdnbaaGreatDoorW.PrintWords Go.Proofs.YtadgddipkbdnbaaGreatDoorW.PrintLast Go.Proofs.YtadgddipkbdnbaaGreatDoorW.PrintMore
attribute [local go_sem] max2_int min2_int max_two min_two max_three min_three max_four min_four
mutual
def rzone.j0:Nat→ByteArray→Int→Int→Bool→Option (Int × ByteArray × Int × Int)
 | 0,_,_,_,_=>none
 | k+1,x0,x1,x7,x22=>if x22=true then (rzone.l0 k x0 x1 x1) else ((rzisLetter.f x7).bind fun t137=>(if t137=true then ((rzword.f k x0 x1).bind fun bt138=>(some (bt138.1,bt138.2.1,bt138.2.2.1,bt138.2.2.2))) else ((rzisDigit.f x7).bind fun t142=>(if t142=true then ((rzrun.f k x0 x1).bind fun t143=>(if 0≤x1 then (if x1≤t143 then (if t143≤(x0.size:Int) then ((rzinteger.f k (x0.extract (x1:Int).toNat (t143:Int).toNat)).bind fun bt144=>(if bt144.2.2=true then (some (3,x0.extract (x1:Int).toNat (t143:Int).toNat,x1,0)) else (some (0,(⟨#[]⟩:zB),0,112)))) else (none)) else (none)) else (none))) else (if x7=34 then (rzone.j2 k x0 x1 x7 true) else (rzone.j2 k x0 x1 x7 (x7 == 39)))))))
def rzone.l0:Nat→ByteArray→Int→Int→Option (Int × ByteArray × Int × Int)
 | 0,_,_,_=>none
 | k+1,x0,x1,x8=>if x8 < (x0.size:Int) then (if 0≤x8 then ((rzisDescByte.f k (bt x0 x8)).bind fun t136=>(if t136=true then (rzone.l0 k x0 x1 (wrap64 (x8+1))) else (if (wrap64 (x8 - x1)) > 200 then (some (0,(⟨#[]⟩:zB),0,111)) else (if 0≤x1 then (if x1≤x8 then (if x8≤(x0.size:Int) then (some (6,x0.extract (x1:Int).toNat (x8:Int).toNat,x1,0)) else (none)) else (none)) else (none))))) else (none)) else (if (wrap64 (x8 - x1)) > 200 then (some (0,(⟨#[]⟩:zB),0,111)) else (if 0≤x1 then (if x1≤x8 then (if x8≤(x0.size:Int) then (some (6,x0.extract (x1:Int).toNat (x8:Int).toNat,x1,0)) else (none)) else (none)) else (none)))
def rzone.j2:Nat→ByteArray→Int→Int→Bool→Option (Int × ByteArray × Int × Int)
 | 0,_,_,_,_=>none
 | k+1,x0,x1,x7,x78=>if x78=true then ((rzquoted.f k x0 x1).bind fun bt147=>(if bt147.1=0 then (some (0,(⟨#[]⟩:zB),0,113)) else (if x7=39 then (if 0≤x1 then (if x1≤(wrap64 (x1+bt147.1)) then (if (wrap64 (x1+bt147.1))≤(x0.size:Int) then (some (3,x0.extract (x1:Int).toNat ((wrap64 (x1+bt147.1)):Int).toNat,x1,0)) else (none)) else (none)) else (none)) else (if 0≤x1 then (if x1≤(wrap64 (x1+bt147.1)) then (if (wrap64 (x1+bt147.1))≤(x0.size:Int) then (some (4,x0.extract (x1:Int).toNat ((wrap64 (x1+bt147.1)):Int).toNat,x1,0)) else (none)) else (none)) else (none))))) else ((rzSigns.f).bind fun t149=>(rzone.l1 k x0 x1 t149 0))
def rzone.l1:Nat→ByteArray→Int→List ByteArray→Int→Option (Int × ByteArray × Int × Int)
 | 0,_,_,_,_=>none
 | k+1,x0,x1,x13,x14=>if x14 < (x13.length:Int) then (if 0≤x14 then ((rzbegins.f x0 x1 (rdOf ByteArray.empty x13 x14)).bind fun t153=>(if t153=true then (some (5,rdOf ByteArray.empty x13 x14,x1,0)) else (rzone.l1 k x0 x1 x13 (wrap64 (x14+1))))) else (none)) else (some (0,(⟨#[]⟩:zB),0,110))
end
def rzone.f (k:Nat) (a0:ByteArray) (a1:Int) (a2:Bool):Option (Int × ByteArray × Int × Int):=if 0≤a1 then (if a1 < (a0.size:Int) then (if a2=true then ((rzisDescByte.f k (bt a0 a1)).bind fun t135=>(rzone.j0 k a0 a1 (bt a0 a1) t135)) else (rzone.j0 k a0 a1 (bt a0 a1) false)) else (none)) else (none)
theorem rzone.mono_l:∀ k,(∀ y0 y1 y2 y3,LeO (rzone.j0 k y0 y1 y2 y3) (rzone.j0 (k+1) y0 y1 y2 y3))∧(∀ y0 y1 y2,LeO (rzone.l0 k y0 y1 y2) (rzone.l0 (k+1) y0 y1 y2))∧(∀ y0 y1 y2 y3,LeO (rzone.j2 k y0 y1 y2 y3) (rzone.j2 (k+1) y0 y1 y2 y3))∧(∀ y0 y1 y2 y3,LeO (rzone.l1 k y0 y1 y2 y3) (rzone.l1 (k+1) y0 y1 y2 y3))
 | 0=>⟨fun _ _ _ _ r h=>by simp [rzone.j0] at h,fun _ _ _ r h=>by simp [rzone.l0] at h,fun _ _ _ _ r h=>by simp [rzone.j2] at h,fun _ _ _ _ r h=>by simp [rzone.l1] at h⟩
 | k+1=>by
  obtain ⟨ih0,ih1,ih2,ih3⟩:=rzone.mono_l k;refine ⟨?_,?_,?_,?_⟩
  ·intro y0 y1 y2 y3;unfold rzone.j0;repeat' first
   | (with_reducible exact ih0 _ _ _ _)
   | (with_reducible exact ih1 _ _ _)
   | (with_reducible exact ih2 _ _ _ _)
   | (with_reducible exact ih3 _ _ _ _)
   | (with_reducible exact rzinteger.mono _ _)
   | (with_reducible exact rzisDescByte.mono _ _)
   | (with_reducible exact rzquoted.mono _ _ _)
   | (with_reducible exact rzrun.mono _ _ _)
   | (with_reducible exact rzword.mono _ _ _)
   | (with_reducible exact LeO.refl _)
   | (with_reducible exact LeO.none _)
   | (with_reducible refine LeO.ite ?_ ?_)
   | (with_reducible refine LeO.bind ?_ (fun _=>?_))
   | exact LeO.none _
   | refine LeO.ite ?_ ?_
   | refine LeO.bind ?_ (fun _=>?_)
  ·intro y0 y1 y2;unfold rzone.l0;repeat' first
   | (with_reducible exact ih0 _ _ _ _)
   | (with_reducible exact ih1 _ _ _)
   | (with_reducible exact ih2 _ _ _ _)
   | (with_reducible exact ih3 _ _ _ _)
   | (with_reducible exact rzinteger.mono _ _)
   | (with_reducible exact rzisDescByte.mono _ _)
   | (with_reducible exact rzquoted.mono _ _ _)
   | (with_reducible exact rzrun.mono _ _ _)
   | (with_reducible exact rzword.mono _ _ _)
   | (with_reducible exact LeO.refl _)
   | (with_reducible exact LeO.none _)
   | (with_reducible refine LeO.ite ?_ ?_)
   | (with_reducible refine LeO.bind ?_ (fun _=>?_))
   | exact LeO.none _
   | refine LeO.ite ?_ ?_
   | refine LeO.bind ?_ (fun _=>?_)
  ·intro y0 y1 y2 y3;unfold rzone.j2;repeat' first
   | (with_reducible exact ih0 _ _ _ _)
   | (with_reducible exact ih1 _ _ _)
   | (with_reducible exact ih2 _ _ _ _)
   | (with_reducible exact ih3 _ _ _ _)
   | (with_reducible exact rzinteger.mono _ _)
   | (with_reducible exact rzisDescByte.mono _ _)
   | (with_reducible exact rzquoted.mono _ _ _)
   | (with_reducible exact rzrun.mono _ _ _)
   | (with_reducible exact rzword.mono _ _ _)
   | (with_reducible exact LeO.refl _)
   | (with_reducible exact LeO.none _)
   | (with_reducible refine LeO.ite ?_ ?_)
   | (with_reducible refine LeO.bind ?_ (fun _=>?_))
   | exact LeO.none _
   | refine LeO.ite ?_ ?_
   | refine LeO.bind ?_ (fun _=>?_)
  ·intro y0 y1 y2 y3;unfold rzone.l1;repeat' first
   | (with_reducible exact ih0 _ _ _ _)
   | (with_reducible exact ih1 _ _ _)
   | (with_reducible exact ih2 _ _ _ _)
   | (with_reducible exact ih3 _ _ _ _)
   | (with_reducible exact rzinteger.mono _ _)
   | (with_reducible exact rzisDescByte.mono _ _)
   | (with_reducible exact rzquoted.mono _ _ _)
   | (with_reducible exact rzrun.mono _ _ _)
   | (with_reducible exact rzword.mono _ _ _)
   | (with_reducible exact LeO.refl _)
   | (with_reducible exact LeO.none _)
   | (with_reducible refine LeO.ite ?_ ?_)
   | (with_reducible refine LeO.bind ?_ (fun _=>?_))
   | exact LeO.none _
   | refine LeO.ite ?_ ?_
   | refine LeO.bind ?_ (fun _=>?_)
theorem rzone.mono:∀ a0 a1 a2 k,LeO (rzone.f k a0 a1 a2) (rzone.f (k+1) a0 a1 a2):=by
 intro a0 a1 a2 k;obtain ⟨ih0,ih1,ih2,ih3⟩:=rzone.mono_l k;unfold rzone.f;repeat' first
   | (with_reducible exact ih0 _ _ _ _)
   | (with_reducible exact ih1 _ _ _)
   | (with_reducible exact ih2 _ _ _ _)
   | (with_reducible exact ih3 _ _ _ _)
   | (with_reducible exact rzinteger.mono _ _)
   | (with_reducible exact rzisDescByte.mono _ _)
   | (with_reducible exact rzquoted.mono _ _ _)
   | (with_reducible exact rzrun.mono _ _ _)
   | (with_reducible exact rzword.mono _ _ _)
   | (with_reducible exact LeO.refl _)
   | (with_reducible exact LeO.none _)
   | (with_reducible refine LeO.ite ?_ ?_)
   | (with_reducible refine LeO.bind ?_ (fun _=>?_))
   | exact LeO.none _
   | refine LeO.ite ?_ ?_
   | refine LeO.bind ?_ (fun _=>?_)
set_option maxHeartbeats 8000000 in
set_option maxRecDepth 100000 in
theorem rzone.calls (k:Nat) (a0:ByteArray) (a1:Int) (a2:Bool) (r1:Int) (r2:ByteArray) (r3:Int) (r4:Int) (w:World) (h:rzone.f k a0 a1 a2=some (r1,r2,r3,r4)) :
  Calls Tryz.prog 51 #[.string a0,.int .i64 a1,.bool a2] w fun e w'=>e=.returned (.agg #[.int .i64 r1,.string r2,.int .i64 r3,.int .i64 r4])∧Below w.heap.size w w':=by
 have hf35:∀ (a b c:Value) (w:World),(Instr.field 35 (.agg #[a,b,c]) 2).run Tryz.prog w=.ok c w:=fun _ _ _ _=>by kernel_rfl
 have hu68:=Tryz.underlying68;have hu38:=Tryz.underlying38;have HB:=Aside0.mk (Below.refl w.heap.size w);have H:(if 0≤a1 then (if a1 < (a0.size:Int) then (if a2=true then ((rzisDescByte.f k (bt a0 a1)).bind fun t135=>(rzone.j0 k a0 a1 (bt a0 a1) t135)) else (rzone.j0 k a0 a1 (bt a0 a1) false)) else (none)) else (none))=some (r1,r2,r3,r4):=h;clear h;by_cases c4:0≤a1
 ·rw [if_pos c4] at H;have c4b0:decide (0≤a1)=true:=decide_eq_true c4;clear c4;by_cases c5:a1 < (a0.size:Int)
  ·rw [if_pos c5] at H;have c5b0:decide (a1 < (a0.size:Int))=true:=decide_eq_true c5;clear c5;have HC7:=Aside0.mk H;clear H;go_enter Tryz.func51,Tryz.ntmps51
   go_upto_region 2 with (first | ((with_reducible refine gate_dst (N:=6) rfl ?_);refine box_event ?hg (N:=6) ?hd (cs:=#[.int .i64 0,.string (⟨#[]⟩:zB),.int .i64 0,.int .i64 0]) (t:=68) ?hr ?_;(case hd=>rfl);(case hg=>rfl);(case hr=>first | (go_simp;done) | (go_simp;rfl));intro gb134 hg w8 hbox hb;have n0_:=Aside0.mk (below_step blw hb);have n1_:=Aside0.mk (hbox);have n2_:=Aside0.mk ((by rw [hg];exact (below_size blw):w.heap.size≤gb134));have n3_:=Aside0.mk ((by rw [hg];exact (below_size blw):w.heap.size≤gb134));clear HB;have HB:=n0_;have BK134:=n1_;have GW134:=n2_;have GE134:=n3_;clear n0_ n1_ n2_ n3_;clear hb hbox hg;have p6:0≤(a1:Int):=of_decide_eq_true asm;have q6:a1 < (a0.size:Int):=of_decide_eq_true asm;have hx6:=bt_at a0 a1;replace p6:=eq_true p6;replace q6:=eq_true q6))
   (try simp only [Act.put,List.setIfInBounds_toArray,List.set_cons_zero,List.set_cons_succ]);go_cut [22] (fun v22 wc=>∃ (kq:Nat) (x22_6:Bool),v22=.bool x22_6∧Aside0 (rzone.j0 kq a0 a1 (bt a0 a1) x22_6=some (r1,r2,r3,r4))∧Aside0 (kq≤k)∧Aside0 (wc.heap[gb134]?=some (.cells #[.int .i64 0,.string (⟨#[]⟩:zB),.int .i64 0,.int .i64 0] 68 (0,0)))∧Aside0 (Below w.heap.size w wc))
   case first =>
    have H:=HC7.out;clear HC7;by_cases c9:a2=true
    ·subst c9;have H1:((rzisDescByte.f k (bt a0 a1)).bind fun t135=>(rzone.j0 k a0 a1 (bt a0 a1) t135))=some (r1,r2,r3,r4):=by rw [if_pos rfl] at H;exact H
     clear H;have H:=H1;clear H1;replace H:=Option.bind_eq_some_iff.mp H;obtain ⟨t135,A100,H⟩:=H;replace H:(rzone.j0 k a0 a1 (bt a0 a1) t135)=some (r1,r2,r3,r4):=H;have A10:=Aside0.mk A100;clear A100;have H':=Aside0.mk H;clear H;go_wp2_with (first | (go_at_call 70;(with_reducible refine (rzisDescByte.calls k (bt a0 a1) t135 _ A10.out).mono ?_);rintro e w' ⟨rfl,⟨nd,rfl⟩⟩))
     go_meet
     case rel=>exact ⟨_,(t135),rsd,H',⟨by first | omega | exact Nat.le_refl _⟩,⟨bko⟩,⟨blw⟩⟩
    ·replace c9:=Bool.eq_false_iff.mpr c9;subst c9;have H1:(rzone.j0 k a0 a1 (bt a0 a1) false)=some (r1,r2,r3,r4):=by rw [if_neg (show ¬ (false=true) by decide)] at H;exact H
     clear H;have H:=H1;clear H1;have H':=Aside0.mk H;clear H;go_wp2;go_meet
     case rel=>exact ⟨_,(false),rsd,H',⟨by first | omega | exact Nat.le_refl _⟩,⟨bko⟩,⟨blw⟩⟩
   case rest =>
    clear HC7;try clear p2
    try clear c4
    try clear c4b0
    try clear c5
    try clear c5b0
    try clear p6
    try clear q6
    try clear hx6
    try clear c9
    try clear p6
    try clear q6
    obtain ⟨kq,x22_6,rfl,HA,HJ6,BK134,HB⟩:=hcut;cases kq with
    | zero=>exact absurd HA.out (by simp [rzone.j0])
    | succ kj6 =>
     have H:=HA.out;clear HA;simp only [rzone.j0] at H;by_cases c11:x22_6=true
     ·subst c11;have H1:(rzone.l0 kj6 a0 a1 a1)=some (r1,r2,r3,r4):=by rw [if_pos rfl] at H;exact H
      clear H;have H:=H1;clear H1;have H':=Aside0.mk H;clear H;go_wp2;try simp only [Act.put,List.setIfInBounds_toArray,List.set_cons_zero,List.set_cons_succ]
      go_loopg [8] kj6 (fun kq v8 w'=>∃ (x8_2:Int),v8=.int .i64 x8_2∧Aside0 (rzone.l0 kq a0 a1 x8_2=some (r1,r2,r3,r4))∧Aside0 (kq≤kj6)∧Aside0 (w'.heap[gb134]?=some (.cells #[.int .i64 0,.string (⟨#[]⟩:zB),.int .i64 0,.int .i64 0] 68 (0,0)))∧Aside0 (Below w.heap.size w w'))
      case atStart=>exact ⟨(a1),rsd,H',⟨Nat.le_refl _⟩,⟨bko⟩,⟨blw⟩⟩
      case round =>
       clear H';try clear c1
       try clear p2
       try clear c4
       try clear c4b0
       try clear c5
       try clear c5b0
       try clear p6
       try clear q6
       try clear hx6
       try clear c9
       try clear c11
       try clear p2
       try clear p6
       try clear q6
       obtain ⟨x8_2,rfl,HA,HK2,BK134,HB⟩:=hrel;cases gk with
       | zero=>exact absurd HA.out (by simp [rzone.l0])
       | succ k2 =>
        have H:=HA.out;clear HA;simp only [rzone.l0] at H;by_cases c12:x8_2 < (a0.size:Int)
        ·rw [if_pos c12] at H;have c12b0:decide (x8_2 < (a0.size:Int))=true:=decide_eq_true c12;clear c12;by_cases c13:0≤x8_2
         ·rw [if_pos c13] at H;have c13b0:decide (0≤x8_2)=true:=decide_eq_true c13;clear c13;replace H:=Option.bind_eq_some_iff.mp H;obtain ⟨t136,A150,H⟩:=H;replace H:(if t136=true then (rzone.l0 k2 a0 a1 (wrap64 (x8_2+1))) else (if (wrap64 (x8_2 - a1)) > 200 then (some (0,(⟨#[]⟩:zB),0,111)) else (if 0≤a1 then (if a1≤x8_2 then (if x8_2≤(a0.size:Int) then (some (6,a0.extract (a1:Int).toNat (x8_2:Int).toNat,a1,0)) else (none)) else (none)) else (none))))=some (r1,r2,r3,r4):=H;have A15:=Aside0.mk A150;clear A150;by_cases c16:t136=true
          ·subst c16;have H1:(rzone.l0 k2 a0 a1 (wrap64 (x8_2+1)))=some (r1,r2,r3,r4):=by rw [if_pos rfl] at H;exact H
           clear H;have H:=H1;clear H1;have H':=Aside0.mk H;clear H;have p14:0≤(x8_2:Int):=of_decide_eq_true asm;have q14:x8_2 < (a0.size:Int):=of_decide_eq_true asm;have hx14:=bt_at a0 x8_2;replace p14:=eq_true p14;replace q14:=eq_true q14;go_wp2_with (first | (go_at_call 70;(with_reducible refine (rzisDescByte.calls k2 (bt a0 x8_2) true _ A15.out).mono ?_);rintro e w' ⟨rfl,⟨nd,rfl⟩⟩))
           go_roundg k2
           case measure=>have:=HJ6.out;have:=HK2.out;omega
           case rel=>exact ⟨(wrap64 (x8_2+1)),rsd,H',⟨by have:=HJ6.out;have:=HK2.out;omega⟩,⟨bko⟩,⟨blw⟩⟩
          ·replace c16:=Bool.eq_false_iff.mpr c16;subst c16;have H1:(if (wrap64 (x8_2 - a1)) > 200 then (some (0,(⟨#[]⟩:zB),0,111)) else (if 0≤a1 then (if a1≤x8_2 then (if x8_2≤(a0.size:Int) then (some (6,a0.extract (a1:Int).toNat (x8_2:Int).toNat,a1,0)) else (none)) else (none)) else (none)))=some (r1,r2,r3,r4):=by rw [if_neg (show ¬ (false=true) by decide)] at H;exact H
           clear H;have H:=H1;clear H1;by_cases c17:(wrap64 (x8_2 - a1)) > 200
           ·rw [if_pos c17] at H;have c17b0:decide (200 < (wrap64 (x8_2 - a1)))=true:=decide_eq_true c17;clear c17;simp only [Option.some.injEq,Prod.mk.injEq] at H;obtain ⟨rfl,rfl,rfl,rfl⟩:=H;have p14:0≤(x8_2:Int):=of_decide_eq_true asm;have q14:x8_2 < (a0.size:Int):=of_decide_eq_true asm;have hx14:=bt_at a0 x8_2;replace p14:=eq_true p14;replace q14:=eq_true q14;go_wp2_with (first | (go_at_call 70;(with_reducible refine (rzisDescByte.calls k2 (bt a0 x8_2) false _ A15.out).mono ?_);rintro e w' ⟨rfl,⟨nd,rfl⟩⟩;(try (rw [drewN_self wr];generalize hq_:World.drewN wr _=wr;have n0_:Aside0 (wr.heap[gb134]?=some (.cells #[.int .i64 0,.string (⟨#[]⟩:zB),.int .i64 0,.int .i64 0] 68 (0,0))):=⟨by rw [← hq_];exact bko⟩;have n1_:Aside0 (Below w.heap.size w wr):=⟨by rw [← hq_];exact blw⟩;clear BK134 HB hq_;have BK134:=n0_;have HB:=n1_;clear n0_ n1_));have hcz18_0:wr.cell? ⟨gb134,0,none⟩=some (.int .i64 0):=(blk_cell BK134.out 0).trans rfl;have hcz18_1:wr.cell? ⟨gb134,1,none⟩=some (.string (⟨#[]⟩:zB)):=(blk_cell BK134.out 1).trans rfl;have hcz18_2:wr.cell? ⟨gb134,2,none⟩=some (.int .i64 0):=(blk_cell BK134.out 2).trans rfl;have hcz18_3:wr.cell? ⟨gb134,3,none⟩=some (.int .i64 0):=(blk_cell BK134.out 3).trans rfl;have hfz18_0:=blk_frozen BK134.out 0;have hfz18_1:=blk_frozen BK134.out 1;have hfz18_2:=blk_frozen BK134.out 2;have hfz18_3:=blk_frozen BK134.out 3))
            refine bodyPost_ret (results_cell_row rfl _ _ gb134 68 #[.int .i64 0,.string (⟨#[]⟩:zB),.int .i64 0,.int .i64 111] (0,0) _ rfl (by (with_reducible repeat (first | refine blk_drewN ?_ _ | refine blk_drew ?_ | refine blk_alloc ?_ _));refine blk_put (cs:=#[.int .i64 0,.string (⟨#[]⟩:zB),.int .i64 0,.int .i64 0]) ?_ 3 _ rfl;(with_reducible repeat (first | refine blk_drewN ?_ _ | refine blk_drew ?_ | refine blk_alloc ?_ _));refine blk_put (cs:=#[.int .i64 0,.string (⟨#[]⟩:zB),.int .i64 0,.int .i64 0]) ?_ 2 _ rfl;(with_reducible repeat (first | refine blk_drewN ?_ _ | refine blk_drew ?_ | refine blk_alloc ?_ _));refine blk_put (cs:=#[.int .i64 0,.string (⟨#[]⟩:zB),.int .i64 0,.int .i64 0]) ?_ 1 _ rfl;(with_reducible repeat (first | refine blk_drewN ?_ _ | refine blk_drew ?_ | refine blk_alloc ?_ _));refine blk_put (cs:=#[.int .i64 0,.string (⟨#[]⟩:zB),.int .i64 0,.int .i64 0]) ?_ 0 _ rfl;(with_reducible repeat (first | refine blk_drewN ?_ _ | refine blk_drew ?_ | refine blk_alloc ?_ _));exact BK134.out) Tryz.underlying68 rfl (by kernel_rfl)) rfl ?_;exact ⟨rew,blw⟩
           ·rw [if_neg c17] at H;have c17b0:decide (200 < (wrap64 (x8_2 - a1)))=false:=decide_eq_false c17;clear c17;by_cases c19:0≤a1
            ·rw [if_pos c19] at H;have c19b0:=eq_true c19;have c19b1:decide (0≤a1)=true:=decide_eq_true c19;clear c19;by_cases c20:a1≤x8_2
             ·rw [if_pos c20] at H;have c20b0:=eq_true c20;have c20b1:decide (a1≤x8_2)=true:=decide_eq_true c20;clear c20;by_cases c21:x8_2≤(a0.size:Int)
              ·rw [if_pos c21] at H;have c21b0:=eq_true c21;have c21b1:decide (x8_2≤(a0.size:Int))=true:=decide_eq_true c21;clear c21;simp only [Option.some.injEq,Prod.mk.injEq] at H;obtain ⟨rfl,rfl,rfl,rfl⟩:=H;have p14:0≤(x8_2:Int):=of_decide_eq_true asm;have q14:x8_2 < (a0.size:Int):=of_decide_eq_true asm;have hx14:=bt_at a0 x8_2;replace p14:=eq_true p14;replace q14:=eq_true q14;go_wp2_with (first | (go_at_call 70;(with_reducible refine (rzisDescByte.calls k2 (bt a0 x8_2) false _ A15.out).mono ?_);rintro e w' ⟨rfl,⟨nd,rfl⟩⟩;(try (rw [drewN_self wr];generalize hq_:World.drewN wr _=wr;have n0_:Aside0 (wr.heap[gb134]?=some (.cells #[.int .i64 0,.string (⟨#[]⟩:zB),.int .i64 0,.int .i64 0] 68 (0,0))):=⟨by rw [← hq_];exact bko⟩;have n1_:Aside0 (Below w.heap.size w wr):=⟨by rw [← hq_];exact blw⟩;clear BK134 HB hq_;have BK134:=n0_;have HB:=n1_;clear n0_ n1_));have hcz22_0:wr.cell? ⟨gb134,0,none⟩=some (.int .i64 0):=(blk_cell BK134.out 0).trans rfl;have hcz22_1:wr.cell? ⟨gb134,1,none⟩=some (.string (⟨#[]⟩:zB)):=(blk_cell BK134.out 1).trans rfl;have hcz22_2:wr.cell? ⟨gb134,2,none⟩=some (.int .i64 0):=(blk_cell BK134.out 2).trans rfl;have hcz22_3:wr.cell? ⟨gb134,3,none⟩=some (.int .i64 0):=(blk_cell BK134.out 3).trans rfl;have hfz22_0:=blk_frozen BK134.out 0;have hfz22_1:=blk_frozen BK134.out 1;have hfz22_2:=blk_frozen BK134.out 2;have hfz22_3:=blk_frozen BK134.out 3))
               refine bodyPost_ret (results_cell_row rfl _ _ gb134 68 #[.int .i64 6,.string (a0.extract (a1:Int).toNat (x8_2:Int).toNat),.int .i64 a1,.int .i64 0] (0,0) _ rfl (by (with_reducible repeat (first | refine blk_drewN ?_ _ | refine blk_drew ?_ | refine blk_alloc ?_ _));refine blk_put (cs:=#[.int .i64 6,.string (a0.extract (a1:Int).toNat (x8_2:Int).toNat),.int .i64 a1,.int .i64 0]) ?_ 3 _ rfl;(with_reducible repeat (first | refine blk_drewN ?_ _ | refine blk_drew ?_ | refine blk_alloc ?_ _));refine blk_put (cs:=#[.int .i64 6,.string (a0.extract (a1:Int).toNat (x8_2:Int).toNat),.int .i64 0,.int .i64 0]) ?_ 2 _ rfl;(with_reducible repeat (first | refine blk_drewN ?_ _ | refine blk_drew ?_ | refine blk_alloc ?_ _));refine blk_put (cs:=#[.int .i64 6,.string (⟨#[]⟩:zB),.int .i64 0,.int .i64 0]) ?_ 1 _ rfl;(with_reducible repeat (first | refine blk_drewN ?_ _ | refine blk_drew ?_ | refine blk_alloc ?_ _));refine blk_put (cs:=#[.int .i64 0,.string (⟨#[]⟩:zB),.int .i64 0,.int .i64 0]) ?_ 0 _ rfl;(with_reducible repeat (first | refine blk_drewN ?_ _ | refine blk_drew ?_ | refine blk_alloc ?_ _));exact BK134.out) Tryz.underlying68 rfl (by kernel_rfl)) rfl ?_;exact ⟨rew,blw⟩
              ·rw [if_neg c21] at H;exact absurd H (by simp)
             ·rw [if_neg c20] at H;exact absurd H (by simp)
            ·rw [if_neg c19] at H;exact absurd H (by simp)
         ·rw [if_neg c13] at H;exact absurd H (by simp)
        ·rw [if_neg c12] at H;have c12b0:decide (x8_2 < (a0.size:Int))=false:=decide_eq_false c12;clear c12;by_cases c23:(wrap64 (x8_2 - a1)) > 200
         ·rw [if_pos c23] at H;have c23b0:decide (200 < (wrap64 (x8_2 - a1)))=true:=decide_eq_true c23;clear c23;simp only [Option.some.injEq,Prod.mk.injEq] at H;obtain ⟨rfl,rfl,rfl,rfl⟩:=H;have hcz24_0:wr.cell? ⟨gb134,0,none⟩=some (.int .i64 0):=(blk_cell BK134.out 0).trans rfl;have hcz24_1:wr.cell? ⟨gb134,1,none⟩=some (.string (⟨#[]⟩:zB)):=(blk_cell BK134.out 1).trans rfl;have hcz24_2:wr.cell? ⟨gb134,2,none⟩=some (.int .i64 0):=(blk_cell BK134.out 2).trans rfl;have hcz24_3:wr.cell? ⟨gb134,3,none⟩=some (.int .i64 0):=(blk_cell BK134.out 3).trans rfl;have hfz24_0:=blk_frozen BK134.out 0;have hfz24_1:=blk_frozen BK134.out 1;have hfz24_2:=blk_frozen BK134.out 2;have hfz24_3:=blk_frozen BK134.out 3;go_wp2;refine bodyPost_ret (results_cell_row rfl _ _ gb134 68 #[.int .i64 0,.string (⟨#[]⟩:zB),.int .i64 0,.int .i64 111] (0,0) _ rfl (by (with_reducible repeat (first | refine blk_drewN ?_ _ | refine blk_drew ?_ | refine blk_alloc ?_ _));refine blk_put (cs:=#[.int .i64 0,.string (⟨#[]⟩:zB),.int .i64 0,.int .i64 0]) ?_ 3 _ rfl;(with_reducible repeat (first | refine blk_drewN ?_ _ | refine blk_drew ?_ | refine blk_alloc ?_ _));refine blk_put (cs:=#[.int .i64 0,.string (⟨#[]⟩:zB),.int .i64 0,.int .i64 0]) ?_ 2 _ rfl;(with_reducible repeat (first | refine blk_drewN ?_ _ | refine blk_drew ?_ | refine blk_alloc ?_ _));refine blk_put (cs:=#[.int .i64 0,.string (⟨#[]⟩:zB),.int .i64 0,.int .i64 0]) ?_ 1 _ rfl;(with_reducible repeat (first | refine blk_drewN ?_ _ | refine blk_drew ?_ | refine blk_alloc ?_ _));refine blk_put (cs:=#[.int .i64 0,.string (⟨#[]⟩:zB),.int .i64 0,.int .i64 0]) ?_ 0 _ rfl;(with_reducible repeat (first | refine blk_drewN ?_ _ | refine blk_drew ?_ | refine blk_alloc ?_ _));exact BK134.out) Tryz.underlying68 rfl (by kernel_rfl)) rfl ?_;exact ⟨rew,blw⟩
         ·rw [if_neg c23] at H;have c23b0:decide (200 < (wrap64 (x8_2 - a1)))=false:=decide_eq_false c23;clear c23;by_cases c25:0≤a1
          ·rw [if_pos c25] at H;have c25b0:=eq_true c25;have c25b1:decide (0≤a1)=true:=decide_eq_true c25;clear c25;by_cases c26:a1≤x8_2
           ·rw [if_pos c26] at H;have c26b0:=eq_true c26;have c26b1:decide (a1≤x8_2)=true:=decide_eq_true c26;clear c26;by_cases c27:x8_2≤(a0.size:Int)
            ·rw [if_pos c27] at H;have c27b0:=eq_true c27;have c27b1:decide (x8_2≤(a0.size:Int))=true:=decide_eq_true c27;clear c27;simp only [Option.some.injEq,Prod.mk.injEq] at H;obtain ⟨rfl,rfl,rfl,rfl⟩:=H;have hcz28_0:wr.cell? ⟨gb134,0,none⟩=some (.int .i64 0):=(blk_cell BK134.out 0).trans rfl;have hcz28_1:wr.cell? ⟨gb134,1,none⟩=some (.string (⟨#[]⟩:zB)):=(blk_cell BK134.out 1).trans rfl;have hcz28_2:wr.cell? ⟨gb134,2,none⟩=some (.int .i64 0):=(blk_cell BK134.out 2).trans rfl;have hcz28_3:wr.cell? ⟨gb134,3,none⟩=some (.int .i64 0):=(blk_cell BK134.out 3).trans rfl;have hfz28_0:=blk_frozen BK134.out 0;have hfz28_1:=blk_frozen BK134.out 1;have hfz28_2:=blk_frozen BK134.out 2;have hfz28_3:=blk_frozen BK134.out 3;go_wp2;refine bodyPost_ret (results_cell_row rfl _ _ gb134 68 #[.int .i64 6,.string (a0.extract (a1:Int).toNat (x8_2:Int).toNat),.int .i64 a1,.int .i64 0] (0,0) _ rfl (by (with_reducible repeat (first | refine blk_drewN ?_ _ | refine blk_drew ?_ | refine blk_alloc ?_ _));refine blk_put (cs:=#[.int .i64 6,.string (a0.extract (a1:Int).toNat (x8_2:Int).toNat),.int .i64 a1,.int .i64 0]) ?_ 3 _ rfl;(with_reducible repeat (first | refine blk_drewN ?_ _ | refine blk_drew ?_ | refine blk_alloc ?_ _));refine blk_put (cs:=#[.int .i64 6,.string (a0.extract (a1:Int).toNat (x8_2:Int).toNat),.int .i64 0,.int .i64 0]) ?_ 2 _ rfl;(with_reducible repeat (first | refine blk_drewN ?_ _ | refine blk_drew ?_ | refine blk_alloc ?_ _));refine blk_put (cs:=#[.int .i64 6,.string (⟨#[]⟩:zB),.int .i64 0,.int .i64 0]) ?_ 1 _ rfl;(with_reducible repeat (first | refine blk_drewN ?_ _ | refine blk_drew ?_ | refine blk_alloc ?_ _));refine blk_put (cs:=#[.int .i64 0,.string (⟨#[]⟩:zB),.int .i64 0,.int .i64 0]) ?_ 0 _ rfl;(with_reducible repeat (first | refine blk_drewN ?_ _ | refine blk_drew ?_ | refine blk_alloc ?_ _));exact BK134.out) Tryz.underlying68 rfl (by kernel_rfl)) rfl ?_;exact ⟨rew,blw⟩
            ·rw [if_neg c27] at H;exact absurd H (by simp)
           ·rw [if_neg c26] at H;exact absurd H (by simp)
          ·rw [if_neg c25] at H;exact absurd H (by simp)
     ·replace c11:=Bool.eq_false_iff.mpr c11;subst c11;have H1:((rzisLetter.f (bt a0 a1)).bind fun t137=>(if t137=true then ((rzword.f kj6 a0 a1).bind fun bt138=>(some (bt138.1,bt138.2.1,bt138.2.2.1,bt138.2.2.2))) else ((rzisDigit.f (bt a0 a1)).bind fun t142=>(if t142=true then ((rzrun.f kj6 a0 a1).bind fun t143=>(if 0≤a1 then (if a1≤t143 then (if t143≤(a0.size:Int) then ((rzinteger.f kj6 (a0.extract (a1:Int).toNat (t143:Int).toNat)).bind fun bt144=>(if bt144.2.2=true then (some (3,a0.extract (a1:Int).toNat (t143:Int).toNat,a1,0)) else (some (0,(⟨#[]⟩:zB),0,112)))) else (none)) else (none)) else (none))) else (if (bt a0 a1)=34 then (rzone.j2 kj6 a0 a1 (bt a0 a1) true) else (rzone.j2 kj6 a0 a1 (bt a0 a1) ((bt a0 a1) == 39)))))))=some (r1,r2,r3,r4):=by rw [if_neg (show ¬ (false=true) by decide)] at H;exact H
      clear H;have H:=H1;clear H1;replace H:=Option.bind_eq_some_iff.mp H;obtain ⟨t137,A290,H⟩:=H;replace H:(if t137=true then ((rzword.f kj6 a0 a1).bind fun bt138=>(some (bt138.1,bt138.2.1,bt138.2.2.1,bt138.2.2.2))) else ((rzisDigit.f (bt a0 a1)).bind fun t142=>(if t142=true then ((rzrun.f kj6 a0 a1).bind fun t143=>(if 0≤a1 then (if a1≤t143 then (if t143≤(a0.size:Int) then ((rzinteger.f kj6 (a0.extract (a1:Int).toNat (t143:Int).toNat)).bind fun bt144=>(if bt144.2.2=true then (some (3,a0.extract (a1:Int).toNat (t143:Int).toNat,a1,0)) else (some (0,(⟨#[]⟩:zB),0,112)))) else (none)) else (none)) else (none))) else (if (bt a0 a1)=34 then (rzone.j2 kj6 a0 a1 (bt a0 a1) true) else (rzone.j2 kj6 a0 a1 (bt a0 a1) ((bt a0 a1) == 39))))))=some (r1,r2,r3,r4):=H;have A29:=Aside0.mk A290;clear A290;by_cases c30:t137=true
      ·subst c30;have H1:((rzword.f kj6 a0 a1).bind fun bt138=>(some (bt138.1,bt138.2.1,bt138.2.2.1,bt138.2.2.2)))=some (r1,r2,r3,r4):=by rw [if_pos rfl] at H;exact H
       clear H;have H:=H1;clear H1;replace H:=Option.bind_eq_some_iff.mp H;obtain ⟨⟨t138,t139,t140,t141⟩,A310,H⟩:=H;replace H:(some (t138,t139,t140,t141))=some (r1,r2,r3,r4):=H;have A31:=Aside0.mk A310;clear A310;simp only [Option.some.injEq,Prod.mk.injEq] at H;obtain ⟨rfl,rfl,rfl,rfl⟩:=H;go_wp2_with (first | ((with_reducible refine gate_callee (f:=78) rfl ?_);refine goesL_ (some 49) rfl rfl Tryz.func78 (by kernel_rfl) rfl #[.int .u8 (bt a0 a1)] rfl fq ?_;(with_reducible refine (rzisLetter.calls (bt a0 a1) true _ A29.out).mono ?_);rintro e w' ⟨rfl,⟨nd,rfl⟩⟩;refine ⟨_,rfl,?_⟩;(try (rw [drewN_self wc];generalize hq_:World.drewN wc _=wc;have n0_:Aside0 (wc.heap[gb134]?=some (.cells #[.int .i64 0,.string (⟨#[]⟩:zB),.int .i64 0,.int .i64 0] 68 (0,0))):=⟨by rw [← hq_];exact bko⟩;have n1_:Aside0 (Below w.heap.size w wc):=⟨by rw [← hq_];exact blw⟩;clear BK134 HB hq_;have BK134:=n0_;have HB:=n1_;clear n0_ n1_))) | ((with_reducible refine gate_callee (f:=79) rfl ?_);refine goesL_ (some 52) rfl rfl Tryz.func79 (by kernel_rfl) rfl #[.string a0,.int .i64 a1] rfl fq ?_;(with_reducible refine (rzword.calls kj6 a0 a1 t138 t139 t140 t141 _ A31.out).mono ?_);rintro e w32 ⟨rfl,hb⟩;refine ⟨_,rfl,?_⟩;have n0_:=Aside0.mk (blk_below (g:=gb134) (o:=.cells #[.int .i64 0,.string (⟨#[]⟩:zB),.int .i64 0,.int .i64 0] 68 (0,0)) bko hb);have n1_:=Aside0.mk (below_step blw hb);clear BK134;clear HB;have BK134:=n0_;have HB:=n1_;clear n0_ n1_;(try clear hb);(try clear hb2);(try clear hk);(try clear hi);have hcz33_0:w32.cell? ⟨gb134,0,none⟩=some (.int .i64 0):=(blk_cell BK134.out 0).trans rfl;have hcz33_1:w32.cell? ⟨gb134,1,none⟩=some (.string (⟨#[]⟩:zB)):=(blk_cell BK134.out 1).trans rfl;have hcz33_2:w32.cell? ⟨gb134,2,none⟩=some (.int .i64 0):=(blk_cell BK134.out 2).trans rfl;have hcz33_3:w32.cell? ⟨gb134,3,none⟩=some (.int .i64 0):=(blk_cell BK134.out 3).trans rfl;have hfz33_0:=blk_frozen BK134.out 0;have hfz33_1:=blk_frozen BK134.out 1;have hfz33_2:=blk_frozen BK134.out 2;have hfz33_3:=blk_frozen BK134.out 3))
       refine bodyPost_ret (results_cell_row rfl _ _ gb134 68 #[.int .i64 t138,.string t139,.int .i64 t140,.int .i64 t141] (0,0) _ rfl (by (with_reducible repeat (first | refine blk_drewN ?_ _ | refine blk_drew ?_ | refine blk_alloc ?_ _));refine blk_put (cs:=#[.int .i64 t138,.string t139,.int .i64 t140,.int .i64 0]) ?_ 3 _ rfl;(with_reducible repeat (first | refine blk_drewN ?_ _ | refine blk_drew ?_ | refine blk_alloc ?_ _));refine blk_put (cs:=#[.int .i64 t138,.string t139,.int .i64 0,.int .i64 0]) ?_ 2 _ rfl;(with_reducible repeat (first | refine blk_drewN ?_ _ | refine blk_drew ?_ | refine blk_alloc ?_ _));refine blk_put (cs:=#[.int .i64 t138,.string (⟨#[]⟩:zB),.int .i64 0,.int .i64 0]) ?_ 1 _ rfl;(with_reducible repeat (first | refine blk_drewN ?_ _ | refine blk_drew ?_ | refine blk_alloc ?_ _));refine blk_put (cs:=#[.int .i64 0,.string (⟨#[]⟩:zB),.int .i64 0,.int .i64 0]) ?_ 0 _ rfl;(with_reducible repeat (first | refine blk_drewN ?_ _ | refine blk_drew ?_ | refine blk_alloc ?_ _));exact BK134.out) Tryz.underlying68 rfl (by kernel_rfl)) rfl ?_;exact ⟨rew,blw⟩
      ·replace c30:=Bool.eq_false_iff.mpr c30;subst c30;have H1:((rzisDigit.f (bt a0 a1)).bind fun t142=>(if t142=true then ((rzrun.f kj6 a0 a1).bind fun t143=>(if 0≤a1 then (if a1≤t143 then (if t143≤(a0.size:Int) then ((rzinteger.f kj6 (a0.extract (a1:Int).toNat (t143:Int).toNat)).bind fun bt144=>(if bt144.2.2=true then (some (3,a0.extract (a1:Int).toNat (t143:Int).toNat,a1,0)) else (some (0,(⟨#[]⟩:zB),0,112)))) else (none)) else (none)) else (none))) else (if (bt a0 a1)=34 then (rzone.j2 kj6 a0 a1 (bt a0 a1) true) else (rzone.j2 kj6 a0 a1 (bt a0 a1) ((bt a0 a1) == 39)))))=some (r1,r2,r3,r4):=by rw [if_neg (show ¬ (false=true) by decide)] at H;exact H
       clear H;have H:=H1;clear H1;replace H:=Option.bind_eq_some_iff.mp H;obtain ⟨t142,A340,H⟩:=H;replace H:(if t142=true then ((rzrun.f kj6 a0 a1).bind fun t143=>(if 0≤a1 then (if a1≤t143 then (if t143≤(a0.size:Int) then ((rzinteger.f kj6 (a0.extract (a1:Int).toNat (t143:Int).toNat)).bind fun bt144=>(if bt144.2.2=true then (some (3,a0.extract (a1:Int).toNat (t143:Int).toNat,a1,0)) else (some (0,(⟨#[]⟩:zB),0,112)))) else (none)) else (none)) else (none))) else (if (bt a0 a1)=34 then (rzone.j2 kj6 a0 a1 (bt a0 a1) true) else (rzone.j2 kj6 a0 a1 (bt a0 a1) ((bt a0 a1) == 39))))=some (r1,r2,r3,r4):=H;have A34:=Aside0.mk A340;clear A340;by_cases c35:t142=true
       ·subst c35;have H1:((rzrun.f kj6 a0 a1).bind fun t143=>(if 0≤a1 then (if a1≤t143 then (if t143≤(a0.size:Int) then ((rzinteger.f kj6 (a0.extract (a1:Int).toNat (t143:Int).toNat)).bind fun bt144=>(if bt144.2.2=true then (some (3,a0.extract (a1:Int).toNat (t143:Int).toNat,a1,0)) else (some (0,(⟨#[]⟩:zB),0,112)))) else (none)) else (none)) else (none)))=some (r1,r2,r3,r4):=by rw [if_pos rfl] at H;exact H
        clear H;have H:=H1;clear H1;replace H:=Option.bind_eq_some_iff.mp H;obtain ⟨t143,A360,H⟩:=H;replace H:(if 0≤a1 then (if a1≤t143 then (if t143≤(a0.size:Int) then ((rzinteger.f kj6 (a0.extract (a1:Int).toNat (t143:Int).toNat)).bind fun bt144=>(if bt144.2.2=true then (some (3,a0.extract (a1:Int).toNat (t143:Int).toNat,a1,0)) else (some (0,(⟨#[]⟩:zB),0,112)))) else (none)) else (none)) else (none))=some (r1,r2,r3,r4):=H;have A36:=Aside0.mk A360;clear A360;by_cases c37:0≤a1
        ·rw [if_pos c37] at H;have c37b0:=eq_true c37;have c37b1:decide (0≤a1)=true:=decide_eq_true c37;clear c37;by_cases c38:a1≤t143
         ·rw [if_pos c38] at H;have c38b0:=eq_true c38;have c38b1:decide (a1≤t143)=true:=decide_eq_true c38;clear c38;by_cases c39:t143≤(a0.size:Int)
          ·rw [if_pos c39] at H;have c39b0:=eq_true c39;have c39b1:decide (t143≤(a0.size:Int))=true:=decide_eq_true c39;clear c39;replace H:=Option.bind_eq_some_iff.mp H;obtain ⟨⟨t144,t145,t146⟩,A400,H⟩:=H;replace H:(if t146=true then (some (3,a0.extract (a1:Int).toNat (t143:Int).toNat,a1,0)) else (some (0,(⟨#[]⟩:zB),0,112)))=some (r1,r2,r3,r4):=H;have A40:=Aside0.mk A400;clear A400;by_cases c41:t146=true
           ·subst c41;have H1:(some (3,a0.extract (a1:Int).toNat (t143:Int).toNat,a1,0))=some (r1,r2,r3,r4):=by rw [if_pos rfl] at H;exact H
            clear H;have H:=H1;clear H1;have c42b0:=eq_true (of_decide_eq_true asm:0≤a1);have c43b0:=eq_true (of_decide_eq_true asm:a1≤t143);have c44b0:=eq_true (of_decide_eq_true asm:t143≤(a0.size:Int));simp only [Option.some.injEq,Prod.mk.injEq] at H;obtain ⟨rfl,rfl,rfl,rfl⟩:=H;go_wp2_with (first | ((with_reducible refine gate_callee (f:=78) rfl ?_);refine goesL_ (some 49) rfl rfl Tryz.func78 (by kernel_rfl) rfl #[.int .u8 (bt a0 a1)] rfl fq ?_;(with_reducible refine (rzisLetter.calls (bt a0 a1) false _ A29.out).mono ?_);rintro e w' ⟨rfl,⟨nd,rfl⟩⟩;refine ⟨_,rfl,?_⟩;(try (rw [drewN_self wc];generalize hq_:World.drewN wc _=wc;have n0_:Aside0 (wc.heap[gb134]?=some (.cells #[.int .i64 0,.string (⟨#[]⟩:zB),.int .i64 0,.int .i64 0] 68 (0,0))):=⟨by rw [← hq_];exact bko⟩;have n1_:Aside0 (Below w.heap.size w wc):=⟨by rw [← hq_];exact blw⟩;clear BK134 HB hq_;have BK134:=n0_;have HB:=n1_;clear n0_ n1_))) | ((with_reducible refine gate_callee (f:=80) rfl ?_);refine goesL_ (some 54) rfl rfl Tryz.func80 (by kernel_rfl) rfl #[.int .u8 (bt a0 a1)] rfl fq ?_;(with_reducible refine (rzisDigit.calls (bt a0 a1) true _ A34.out).mono ?_);rintro e w' ⟨rfl,⟨nd,rfl⟩⟩;refine ⟨_,rfl,?_⟩;(try (rw [drewN_self wc];generalize hq_:World.drewN wc _=wc;have n0_:Aside0 (wc.heap[gb134]?=some (.cells #[.int .i64 0,.string (⟨#[]⟩:zB),.int .i64 0,.int .i64 0] 68 (0,0))):=⟨by rw [← hq_];exact bko⟩;have n1_:Aside0 (Below w.heap.size w wc):=⟨by rw [← hq_];exact blw⟩;clear BK134 HB hq_;have BK134:=n0_;have HB:=n1_;clear n0_ n1_))) | ((with_reducible refine gate_callee (f:=81) rfl ?_);refine goesL_ (some 57) rfl rfl Tryz.func81 (by kernel_rfl) rfl #[.string a0,.int .i64 a1] rfl fq ?_;(with_reducible refine (rzrun.calls kj6 a0 a1 t143 _ A36.out).mono ?_);rintro e w' ⟨rfl,⟨nd,rfl⟩⟩;refine ⟨_,rfl,?_⟩;(try (rw [drewN_self wc];generalize hq_:World.drewN wc _=wc;have n0_:Aside0 (wc.heap[gb134]?=some (.cells #[.int .i64 0,.string (⟨#[]⟩:zB),.int .i64 0,.int .i64 0] 68 (0,0))):=⟨by rw [← hq_];exact bko⟩;have n1_:Aside0 (Below w.heap.size w wc):=⟨by rw [← hq_];exact blw⟩;clear BK134 HB hq_;have BK134:=n0_;have HB:=n1_;clear n0_ n1_))) | ((with_reducible refine gate_callee (f:=56) rfl ?_);refine goesL_ (some 62) rfl rfl Tryz.func56 (by kernel_rfl) rfl #[.string (a0.extract (a1:Int).toNat (t143:Int).toNat)] rfl fq ?_;(with_reducible refine (rzinteger.calls kj6 (a0.extract (a1:Int).toNat (t143:Int).toNat) t144 t145 true _ A40.out).mono ?_);rintro e w45 ⟨rfl,hb⟩;refine ⟨_,rfl,?_⟩;have n0_:=Aside0.mk (blk_below (g:=gb134) (o:=.cells #[.int .i64 0,.string (⟨#[]⟩:zB),.int .i64 0,.int .i64 0] 68 (0,0)) bko hb);have n1_:=Aside0.mk (below_step blw hb);clear BK134;clear HB;have BK134:=n0_;have HB:=n1_;clear n0_ n1_;(try clear hb);(try clear hb2);(try clear hk);(try clear hi);have hcz46_0:w45.cell? ⟨gb134,0,none⟩=some (.int .i64 0):=(blk_cell BK134.out 0).trans rfl;have hcz46_1:w45.cell? ⟨gb134,1,none⟩=some (.string (⟨#[]⟩:zB)):=(blk_cell BK134.out 1).trans rfl;have hcz46_2:w45.cell? ⟨gb134,2,none⟩=some (.int .i64 0):=(blk_cell BK134.out 2).trans rfl;have hcz46_3:w45.cell? ⟨gb134,3,none⟩=some (.int .i64 0):=(blk_cell BK134.out 3).trans rfl;have hfz46_0:=blk_frozen BK134.out 0;have hfz46_1:=blk_frozen BK134.out 1;have hfz46_2:=blk_frozen BK134.out 2;have hfz46_3:=blk_frozen BK134.out 3))
            refine bodyPost_ret (results_cell_row rfl _ _ gb134 68 #[.int .i64 3,.string (a0.extract (a1:Int).toNat (t143:Int).toNat),.int .i64 a1,.int .i64 0] (0,0) _ rfl (by (with_reducible repeat (first | refine blk_drewN ?_ _ | refine blk_drew ?_ | refine blk_alloc ?_ _));refine blk_put (cs:=#[.int .i64 3,.string (a0.extract (a1:Int).toNat (t143:Int).toNat),.int .i64 a1,.int .i64 0]) ?_ 3 _ rfl;(with_reducible repeat (first | refine blk_drewN ?_ _ | refine blk_drew ?_ | refine blk_alloc ?_ _));refine blk_put (cs:=#[.int .i64 3,.string (a0.extract (a1:Int).toNat (t143:Int).toNat),.int .i64 0,.int .i64 0]) ?_ 2 _ rfl;(with_reducible repeat (first | refine blk_drewN ?_ _ | refine blk_drew ?_ | refine blk_alloc ?_ _));refine blk_put (cs:=#[.int .i64 3,.string (⟨#[]⟩:zB),.int .i64 0,.int .i64 0]) ?_ 1 _ rfl;(with_reducible repeat (first | refine blk_drewN ?_ _ | refine blk_drew ?_ | refine blk_alloc ?_ _));refine blk_put (cs:=#[.int .i64 0,.string (⟨#[]⟩:zB),.int .i64 0,.int .i64 0]) ?_ 0 _ rfl;(with_reducible repeat (first | refine blk_drewN ?_ _ | refine blk_drew ?_ | refine blk_alloc ?_ _));exact BK134.out) Tryz.underlying68 rfl (by kernel_rfl)) rfl ?_;exact ⟨rew,blw⟩
           ·replace c41:=Bool.eq_false_iff.mpr c41;subst c41;have H1:(some (0,(⟨#[]⟩:zB),0,112))=some (r1,r2,r3,r4):=by rw [if_neg (show ¬ (false=true) by decide)] at H;exact H
            clear H;have H:=H1;clear H1;simp only [Option.some.injEq,Prod.mk.injEq] at H;obtain ⟨rfl,rfl,rfl,rfl⟩:=H;go_wp2_with (first | ((with_reducible refine gate_callee (f:=78) rfl ?_);refine goesL_ (some 49) rfl rfl Tryz.func78 (by kernel_rfl) rfl #[.int .u8 (bt a0 a1)] rfl fq ?_;(with_reducible refine (rzisLetter.calls (bt a0 a1) false _ A29.out).mono ?_);rintro e w' ⟨rfl,⟨nd,rfl⟩⟩;refine ⟨_,rfl,?_⟩;(try (rw [drewN_self wc];generalize hq_:World.drewN wc _=wc;have n0_:Aside0 (wc.heap[gb134]?=some (.cells #[.int .i64 0,.string (⟨#[]⟩:zB),.int .i64 0,.int .i64 0] 68 (0,0))):=⟨by rw [← hq_];exact bko⟩;have n1_:Aside0 (Below w.heap.size w wc):=⟨by rw [← hq_];exact blw⟩;clear BK134 HB hq_;have BK134:=n0_;have HB:=n1_;clear n0_ n1_))) | ((with_reducible refine gate_callee (f:=80) rfl ?_);refine goesL_ (some 54) rfl rfl Tryz.func80 (by kernel_rfl) rfl #[.int .u8 (bt a0 a1)] rfl fq ?_;(with_reducible refine (rzisDigit.calls (bt a0 a1) true _ A34.out).mono ?_);rintro e w' ⟨rfl,⟨nd,rfl⟩⟩;refine ⟨_,rfl,?_⟩;(try (rw [drewN_self wc];generalize hq_:World.drewN wc _=wc;have n0_:Aside0 (wc.heap[gb134]?=some (.cells #[.int .i64 0,.string (⟨#[]⟩:zB),.int .i64 0,.int .i64 0] 68 (0,0))):=⟨by rw [← hq_];exact bko⟩;have n1_:Aside0 (Below w.heap.size w wc):=⟨by rw [← hq_];exact blw⟩;clear BK134 HB hq_;have BK134:=n0_;have HB:=n1_;clear n0_ n1_))) | ((with_reducible refine gate_callee (f:=81) rfl ?_);refine goesL_ (some 57) rfl rfl Tryz.func81 (by kernel_rfl) rfl #[.string a0,.int .i64 a1] rfl fq ?_;(with_reducible refine (rzrun.calls kj6 a0 a1 t143 _ A36.out).mono ?_);rintro e w' ⟨rfl,⟨nd,rfl⟩⟩;refine ⟨_,rfl,?_⟩;(try (rw [drewN_self wc];generalize hq_:World.drewN wc _=wc;have n0_:Aside0 (wc.heap[gb134]?=some (.cells #[.int .i64 0,.string (⟨#[]⟩:zB),.int .i64 0,.int .i64 0] 68 (0,0))):=⟨by rw [← hq_];exact bko⟩;have n1_:Aside0 (Below w.heap.size w wc):=⟨by rw [← hq_];exact blw⟩;clear BK134 HB hq_;have BK134:=n0_;have HB:=n1_;clear n0_ n1_))) | ((with_reducible refine gate_callee (f:=56) rfl ?_);refine goesL_ (some 62) rfl rfl Tryz.func56 (by kernel_rfl) rfl #[.string (a0.extract (a1:Int).toNat (t143:Int).toNat)] rfl fq ?_;(with_reducible refine (rzinteger.calls kj6 (a0.extract (a1:Int).toNat (t143:Int).toNat) t144 t145 false _ A40.out).mono ?_);rintro e w47 ⟨rfl,hb⟩;refine ⟨_,rfl,?_⟩;have n0_:=Aside0.mk (blk_below (g:=gb134) (o:=.cells #[.int .i64 0,.string (⟨#[]⟩:zB),.int .i64 0,.int .i64 0] 68 (0,0)) bko hb);have n1_:=Aside0.mk (below_step blw hb);clear BK134;clear HB;have BK134:=n0_;have HB:=n1_;clear n0_ n1_;(try clear hb);(try clear hb2);(try clear hk);(try clear hi);have hcz48_0:w47.cell? ⟨gb134,0,none⟩=some (.int .i64 0):=(blk_cell BK134.out 0).trans rfl;have hcz48_1:w47.cell? ⟨gb134,1,none⟩=some (.string (⟨#[]⟩:zB)):=(blk_cell BK134.out 1).trans rfl;have hcz48_2:w47.cell? ⟨gb134,2,none⟩=some (.int .i64 0):=(blk_cell BK134.out 2).trans rfl;have hcz48_3:w47.cell? ⟨gb134,3,none⟩=some (.int .i64 0):=(blk_cell BK134.out 3).trans rfl;have hfz48_0:=blk_frozen BK134.out 0;have hfz48_1:=blk_frozen BK134.out 1;have hfz48_2:=blk_frozen BK134.out 2;have hfz48_3:=blk_frozen BK134.out 3))
            refine bodyPost_ret (results_cell_row rfl _ _ gb134 68 #[.int .i64 0,.string (⟨#[]⟩:zB),.int .i64 0,.int .i64 112] (0,0) _ rfl (by (with_reducible repeat (first | refine blk_drewN ?_ _ | refine blk_drew ?_ | refine blk_alloc ?_ _));refine blk_put (cs:=#[.int .i64 0,.string (⟨#[]⟩:zB),.int .i64 0,.int .i64 0]) ?_ 3 _ rfl;(with_reducible repeat (first | refine blk_drewN ?_ _ | refine blk_drew ?_ | refine blk_alloc ?_ _));refine blk_put (cs:=#[.int .i64 0,.string (⟨#[]⟩:zB),.int .i64 0,.int .i64 0]) ?_ 2 _ rfl;(with_reducible repeat (first | refine blk_drewN ?_ _ | refine blk_drew ?_ | refine blk_alloc ?_ _));refine blk_put (cs:=#[.int .i64 0,.string (⟨#[]⟩:zB),.int .i64 0,.int .i64 0]) ?_ 1 _ rfl;(with_reducible repeat (first | refine blk_drewN ?_ _ | refine blk_drew ?_ | refine blk_alloc ?_ _));refine blk_put (cs:=#[.int .i64 0,.string (⟨#[]⟩:zB),.int .i64 0,.int .i64 0]) ?_ 0 _ rfl;(with_reducible repeat (first | refine blk_drewN ?_ _ | refine blk_drew ?_ | refine blk_alloc ?_ _));exact BK134.out) Tryz.underlying68 rfl (by kernel_rfl)) rfl ?_;exact ⟨rew,blw⟩
          ·rw [if_neg c39] at H;exact absurd H (by simp)
         ·rw [if_neg c38] at H;exact absurd H (by simp)
        ·rw [if_neg c37] at H;exact absurd H (by simp)
       ·replace c35:=Bool.eq_false_iff.mpr c35;subst c35;have H1:(if (bt a0 a1)=34 then (rzone.j2 kj6 a0 a1 (bt a0 a1) true) else (rzone.j2 kj6 a0 a1 (bt a0 a1) ((bt a0 a1) == 39)))=some (r1,r2,r3,r4):=by rw [if_neg (show ¬ (false=true) by decide)] at H;exact H
        clear H;have H:=H1;clear H1;have HC49:=Aside0.mk H;clear H;go_upto_region 16 with (first | ((with_reducible refine gate_callee (f:=78) rfl ?_);refine goesL_ (some 49) rfl rfl Tryz.func78 (by kernel_rfl) rfl #[.int .u8 (bt a0 a1)] rfl fq ?_;(with_reducible refine (rzisLetter.calls (bt a0 a1) false _ A29.out).mono ?_);rintro e w' ⟨rfl,⟨nd,rfl⟩⟩;refine ⟨_,rfl,?_⟩) | ((with_reducible refine gate_callee (f:=80) rfl ?_);refine goesL_ (some 54) rfl rfl Tryz.func80 (by kernel_rfl) rfl #[.int .u8 (bt a0 a1)] rfl fq ?_;(with_reducible refine (rzisDigit.calls (bt a0 a1) false _ A34.out).mono ?_);rintro e w' ⟨rfl,⟨nd,rfl⟩⟩;refine ⟨_,rfl,?_⟩))
        (try simp only [Act.put,List.setIfInBounds_toArray,List.set_cons_zero,List.set_cons_succ]);go_cut [78] (fun v78 wc=>∃ (kq:Nat) (x78_48:Bool),v78=.bool x78_48∧Aside0 (rzone.j2 kq a0 a1 (bt a0 a1) x78_48=some (r1,r2,r3,r4))∧Aside0 (kq≤kj6)∧Aside0 (wc.heap[gb134]?=some (.cells #[.int .i64 0,.string (⟨#[]⟩:zB),.int .i64 0,.int .i64 0] 68 (0,0)))∧Aside0 (Below w.heap.size w wc))
        case first =>
         have H:=HC49.out;clear HC49;by_cases c50:(bt a0 a1)=34
         ·rw [if_pos c50] at H;have c50b0:((bt a0 a1) == 34)=true:=beq_iff_eq.mpr c50;have c50b1:((bt a0 a1) != 34)=false:=bne_eq_false_iff_eq.mpr c50;clear c50;(first | rw [c50b0] | (simp only [i64_w,i32_w];rw [c50b0]) | skip);have H':=Aside0.mk H;clear H;go_wp2;go_meet
          case rel=>exact ⟨_,(true),rsd,H',⟨by have:=HJ6.out;first | omega | exact Nat.le_refl _⟩,⟨bko⟩,⟨blw⟩⟩
         ·rw [if_neg c50] at H;have c50b0:((bt a0 a1) == 34)=false:=beq_eq_false_iff_ne.mpr c50;have c50b1:((bt a0 a1) != 34)=true:=bne_iff_ne.mpr c50;(first | rw [c50b0] | (simp only [i64_w,i32_w];rw [c50b0]) | skip);have H':=Aside0.mk H;clear H;go_wp2;go_meet
          case rel=>exact ⟨_,(((bt a0 a1) == 39)),rsd,H',⟨by have:=HJ6.out;first | omega | exact Nat.le_refl _⟩,⟨bko⟩,⟨blw⟩⟩
        case rest =>
         clear HC49;try clear c1
         try clear p1
         try clear q1
         try clear hx1
         try clear c2
         try clear p2
         try clear c3
         try clear c4
         try clear c4b0
         try clear c5
         try clear c5b0
         try clear p6
         try clear q6
         try clear hx6
         try clear c7
         try clear c8
         try clear c9
         try clear c11
         try clear c12
         try clear c12b0
         try clear c13
         try clear c13b0
         try clear p14
         try clear q14
         try clear hx14
         try clear c16
         try clear c17
         try clear c17b0
         try clear c19
         try clear c19b0
         try clear c19b1
         try clear c20
         try clear c20b0
         try clear c20b1
         try clear c21
         try clear c21b0
         try clear c21b1
         try clear c23
         try clear c23b0
         try clear c25
         try clear c25b0
         try clear c25b1
         try clear c26
         try clear c26b0
         try clear c26b1
         try clear c27
         try clear c27b0
         try clear c27b1
         try clear c30
         try clear c35
         try clear c37
         try clear c37b0
         try clear c37b1
         try clear c38
         try clear c38b0
         try clear c38b1
         try clear c39
         try clear c39b0
         try clear c39b1
         try clear c41
         try clear c42
         try clear c42b0
         try clear c43
         try clear c43b0
         try clear c44
         try clear c44b0
         try clear c50
         try clear c50b0
         try clear c50b1
         try clear hcz18_0
         try clear hcz18_1
         try clear hcz18_2
         try clear hcz18_3
         try clear hcz22_0
         try clear hcz22_1
         try clear hcz22_2
         try clear hcz22_3
         try clear hcz24_0
         try clear hcz24_1
         try clear hcz24_2
         try clear hcz24_3
         try clear hcz28_0
         try clear hcz28_1
         try clear hcz28_2
         try clear hcz28_3
         try clear hcz33_0
         try clear hcz33_1
         try clear hcz33_2
         try clear hcz33_3
         try clear hcz46_0
         try clear hcz46_1
         try clear hcz46_2
         try clear hcz46_3
         try clear hcz48_0
         try clear hcz48_1
         try clear hcz48_2
         try clear hcz48_3
         try clear hfz18_0
         try clear hfz18_1
         try clear hfz18_2
         try clear hfz18_3
         try clear hfz22_0
         try clear hfz22_1
         try clear hfz22_2
         try clear hfz22_3
         try clear hfz24_0
         try clear hfz24_1
         try clear hfz24_2
         try clear hfz24_3
         try clear hfz28_0
         try clear hfz28_1
         try clear hfz28_2
         try clear hfz28_3
         try clear hfz33_0
         try clear hfz33_1
         try clear hfz33_2
         try clear hfz33_3
         try clear hfz46_0
         try clear hfz46_1
         try clear hfz46_2
         try clear hfz46_3
         try clear hfz48_0
         try clear hfz48_1
         try clear hfz48_2
         try clear hfz48_3
         try clear p14
         try clear p2
         try clear p6
         try clear q14
         try clear q6
         obtain ⟨kq,x78_48,rfl,HA,HJ48,BK134,HB⟩:=hcut;cases kq with
         | zero=>exact absurd HA.out (by simp [rzone.j2])
         | succ kj48 =>
          have H:=HA.out;clear HA;simp only [rzone.j2] at H;by_cases c51:x78_48=true
          ·subst c51;have H1:((rzquoted.f kj48 a0 a1).bind fun bt147=>(if bt147.1=0 then (some (0,(⟨#[]⟩:zB),0,113)) else (if (bt a0 a1)=39 then (if 0≤a1 then (if a1≤(wrap64 (a1+bt147.1)) then (if (wrap64 (a1+bt147.1))≤(a0.size:Int) then (some (3,a0.extract (a1:Int).toNat ((wrap64 (a1+bt147.1)):Int).toNat,a1,0)) else (none)) else (none)) else (none)) else (if 0≤a1 then (if a1≤(wrap64 (a1+bt147.1)) then (if (wrap64 (a1+bt147.1))≤(a0.size:Int) then (some (4,a0.extract (a1:Int).toNat ((wrap64 (a1+bt147.1)):Int).toNat,a1,0)) else (none)) else (none)) else (none)))))=some (r1,r2,r3,r4):=by rw [if_pos rfl] at H;exact H
           clear H;have H:=H1;clear H1;replace H:=Option.bind_eq_some_iff.mp H;obtain ⟨⟨t147,t148⟩,A520,H⟩:=H;replace H:(if t147=0 then (some (0,(⟨#[]⟩:zB),0,113)) else (if (bt a0 a1)=39 then (if 0≤a1 then (if a1≤(wrap64 (a1+t147)) then (if (wrap64 (a1+t147))≤(a0.size:Int) then (some (3,a0.extract (a1:Int).toNat ((wrap64 (a1+t147)):Int).toNat,a1,0)) else (none)) else (none)) else (none)) else (if 0≤a1 then (if a1≤(wrap64 (a1+t147)) then (if (wrap64 (a1+t147))≤(a0.size:Int) then (some (4,a0.extract (a1:Int).toNat ((wrap64 (a1+t147)):Int).toNat,a1,0)) else (none)) else (none)) else (none))))=some (r1,r2,r3,r4):=H;have A52:=Aside0.mk A520;clear A520;by_cases c53:t147=0
           ·rw [if_pos c53] at H;have c53b0:(t147 == 0)=true:=beq_iff_eq.mpr c53;have c53b1:(t147 != 0)=false:=bne_eq_false_iff_eq.mpr c53;clear c53;simp only [Option.some.injEq,Prod.mk.injEq] at H;obtain ⟨rfl,rfl,rfl,rfl⟩:=H;go_wp2_with (first | ((with_reducible refine gate_callee (f:=55) rfl ?_);refine goesL_ (some 82) rfl rfl Tryz.func55 (by kernel_rfl) rfl #[.string a0,.int .i64 a1] rfl fq ?_;(with_reducible refine (rzquoted.calls kj48 a0 a1 t147 t148 _ A52.out).mono ?_);rintro e w54 ⟨rfl,hb⟩;refine ⟨_,rfl,?_⟩;have n0_:=Aside0.mk (blk_below (g:=gb134) (o:=.cells #[.int .i64 0,.string (⟨#[]⟩:zB),.int .i64 0,.int .i64 0] 68 (0,0)) bko hb);have n1_:=Aside0.mk (below_step blw hb);clear BK134;clear HB;have BK134:=n0_;have HB:=n1_;clear n0_ n1_;(try clear hb);(try clear hb2);(try clear hk);(try clear hi);have hcz55_0:w54.cell? ⟨gb134,0,none⟩=some (.int .i64 0):=(blk_cell BK134.out 0).trans rfl;have hcz55_1:w54.cell? ⟨gb134,1,none⟩=some (.string (⟨#[]⟩:zB)):=(blk_cell BK134.out 1).trans rfl;have hcz55_2:w54.cell? ⟨gb134,2,none⟩=some (.int .i64 0):=(blk_cell BK134.out 2).trans rfl;have hcz55_3:w54.cell? ⟨gb134,3,none⟩=some (.int .i64 0):=(blk_cell BK134.out 3).trans rfl;have hfz55_0:=blk_frozen BK134.out 0;have hfz55_1:=blk_frozen BK134.out 1;have hfz55_2:=blk_frozen BK134.out 2;have hfz55_3:=blk_frozen BK134.out 3))
            refine bodyPost_ret (results_cell_row rfl _ _ gb134 68 #[.int .i64 0,.string (⟨#[]⟩:zB),.int .i64 0,.int .i64 113] (0,0) _ rfl (by (with_reducible repeat (first | refine blk_drewN ?_ _ | refine blk_drew ?_ | refine blk_alloc ?_ _));refine blk_put (cs:=#[.int .i64 0,.string (⟨#[]⟩:zB),.int .i64 0,.int .i64 0]) ?_ 3 _ rfl;(with_reducible repeat (first | refine blk_drewN ?_ _ | refine blk_drew ?_ | refine blk_alloc ?_ _));refine blk_put (cs:=#[.int .i64 0,.string (⟨#[]⟩:zB),.int .i64 0,.int .i64 0]) ?_ 2 _ rfl;(with_reducible repeat (first | refine blk_drewN ?_ _ | refine blk_drew ?_ | refine blk_alloc ?_ _));refine blk_put (cs:=#[.int .i64 0,.string (⟨#[]⟩:zB),.int .i64 0,.int .i64 0]) ?_ 1 _ rfl;(with_reducible repeat (first | refine blk_drewN ?_ _ | refine blk_drew ?_ | refine blk_alloc ?_ _));refine blk_put (cs:=#[.int .i64 0,.string (⟨#[]⟩:zB),.int .i64 0,.int .i64 0]) ?_ 0 _ rfl;(with_reducible repeat (first | refine blk_drewN ?_ _ | refine blk_drew ?_ | refine blk_alloc ?_ _));exact BK134.out) Tryz.underlying68 rfl (by kernel_rfl)) rfl ?_;exact ⟨rew,blw⟩
           ·rw [if_neg c53] at H;have c53b0:(t147 == 0)=false:=beq_eq_false_iff_ne.mpr c53;have c53b1:(t147 != 0)=true:=bne_iff_ne.mpr c53;by_cases c56:(bt a0 a1)=39
            ·rw [if_pos c56] at H;have c56b0:((bt a0 a1) == 39)=true:=beq_iff_eq.mpr c56;have c56b1:((bt a0 a1) != 39)=false:=bne_eq_false_iff_eq.mpr c56;clear c56;by_cases c57:0≤a1
             ·rw [if_pos c57] at H;have c57b0:=eq_true c57;have c57b1:decide (0≤a1)=true:=decide_eq_true c57;clear c57;by_cases c58:a1≤(wrap64 (a1+t147))
              ·rw [if_pos c58] at H;have c58b0:=eq_true c58;have c58b1:decide (a1≤(wrap64 (a1+t147)))=true:=decide_eq_true c58;by_cases c59:(wrap64 (a1+t147))≤(a0.size:Int)
               ·rw [if_pos c59] at H;have c59b0:=eq_true c59;have c59b1:decide ((wrap64 (a1+t147))≤(a0.size:Int))=true:=decide_eq_true c59;simp only [Option.some.injEq,Prod.mk.injEq] at H;obtain ⟨rfl,rfl,rfl,rfl⟩:=H;go_wp2_with (first | ((with_reducible refine gate_callee (f:=55) rfl ?_);refine goesL_ (some 82) rfl rfl Tryz.func55 (by kernel_rfl) rfl #[.string a0,.int .i64 a1] rfl fq ?_;(with_reducible refine (rzquoted.calls kj48 a0 a1 t147 t148 _ A52.out).mono ?_);rintro e w60 ⟨rfl,hb⟩;refine ⟨_,rfl,?_⟩;have n0_:=Aside0.mk (blk_below (g:=gb134) (o:=.cells #[.int .i64 0,.string (⟨#[]⟩:zB),.int .i64 0,.int .i64 0] 68 (0,0)) bko hb);have n1_:=Aside0.mk (below_step blw hb);clear BK134;clear HB;have BK134:=n0_;have HB:=n1_;clear n0_ n1_;(try clear hb);(try clear hb2);(try clear hk);(try clear hi);have hcz61_0:w60.cell? ⟨gb134,0,none⟩=some (.int .i64 0):=(blk_cell BK134.out 0).trans rfl;have hcz61_1:w60.cell? ⟨gb134,1,none⟩=some (.string (⟨#[]⟩:zB)):=(blk_cell BK134.out 1).trans rfl;have hcz61_2:w60.cell? ⟨gb134,2,none⟩=some (.int .i64 0):=(blk_cell BK134.out 2).trans rfl;have hcz61_3:w60.cell? ⟨gb134,3,none⟩=some (.int .i64 0):=(blk_cell BK134.out 3).trans rfl;have hfz61_0:=blk_frozen BK134.out 0;have hfz61_1:=blk_frozen BK134.out 1;have hfz61_2:=blk_frozen BK134.out 2;have hfz61_3:=blk_frozen BK134.out 3))
                refine bodyPost_ret (results_cell_row rfl _ _ gb134 68 #[.int .i64 3,.string (a0.extract (a1:Int).toNat ((wrap64 (a1+t147)):Int).toNat),.int .i64 a1,.int .i64 0] (0,0) _ rfl (by (with_reducible repeat (first | refine blk_drewN ?_ _ | refine blk_drew ?_ | refine blk_alloc ?_ _));refine blk_put (cs:=#[.int .i64 3,.string (a0.extract (a1:Int).toNat ((wrap64 (a1+t147)):Int).toNat),.int .i64 a1,.int .i64 0]) ?_ 3 _ rfl;(with_reducible repeat (first | refine blk_drewN ?_ _ | refine blk_drew ?_ | refine blk_alloc ?_ _));refine blk_put (cs:=#[.int .i64 3,.string (a0.extract (a1:Int).toNat ((wrap64 (a1+t147)):Int).toNat),.int .i64 0,.int .i64 0]) ?_ 2 _ rfl;(with_reducible repeat (first | refine blk_drewN ?_ _ | refine blk_drew ?_ | refine blk_alloc ?_ _));refine blk_put (cs:=#[.int .i64 3,.string (⟨#[]⟩:zB),.int .i64 0,.int .i64 0]) ?_ 1 _ rfl;(with_reducible repeat (first | refine blk_drewN ?_ _ | refine blk_drew ?_ | refine blk_alloc ?_ _));refine blk_put (cs:=#[.int .i64 0,.string (⟨#[]⟩:zB),.int .i64 0,.int .i64 0]) ?_ 0 _ rfl;(with_reducible repeat (first | refine blk_drewN ?_ _ | refine blk_drew ?_ | refine blk_alloc ?_ _));exact BK134.out) Tryz.underlying68 rfl (by kernel_rfl)) rfl ?_;exact ⟨rew,blw⟩
               ·rw [if_neg c59] at H;exact absurd H (by simp)
              ·rw [if_neg c58] at H;exact absurd H (by simp)
             ·rw [if_neg c57] at H;exact absurd H (by simp)
            ·rw [if_neg c56] at H;have c56b0:((bt a0 a1) == 39)=false:=beq_eq_false_iff_ne.mpr c56;have c56b1:((bt a0 a1) != 39)=true:=bne_iff_ne.mpr c56;by_cases c62:0≤a1
             ·rw [if_pos c62] at H;have c62b0:=eq_true c62;have c62b1:decide (0≤a1)=true:=decide_eq_true c62;clear c62;by_cases c63:a1≤(wrap64 (a1+t147))
              ·rw [if_pos c63] at H;have c63b0:=eq_true c63;have c63b1:decide (a1≤(wrap64 (a1+t147)))=true:=decide_eq_true c63;by_cases c64:(wrap64 (a1+t147))≤(a0.size:Int)
               ·rw [if_pos c64] at H;have c64b0:=eq_true c64;have c64b1:decide ((wrap64 (a1+t147))≤(a0.size:Int))=true:=decide_eq_true c64;simp only [Option.some.injEq,Prod.mk.injEq] at H;obtain ⟨rfl,rfl,rfl,rfl⟩:=H;go_wp2_with (first | ((with_reducible refine gate_callee (f:=55) rfl ?_);refine goesL_ (some 82) rfl rfl Tryz.func55 (by kernel_rfl) rfl #[.string a0,.int .i64 a1] rfl fq ?_;(with_reducible refine (rzquoted.calls kj48 a0 a1 t147 t148 _ A52.out).mono ?_);rintro e w65 ⟨rfl,hb⟩;refine ⟨_,rfl,?_⟩;have n0_:=Aside0.mk (blk_below (g:=gb134) (o:=.cells #[.int .i64 0,.string (⟨#[]⟩:zB),.int .i64 0,.int .i64 0] 68 (0,0)) bko hb);have n1_:=Aside0.mk (below_step blw hb);clear BK134;clear HB;have BK134:=n0_;have HB:=n1_;clear n0_ n1_;(try clear hb);(try clear hb2);(try clear hk);(try clear hi);have hcz66_0:w65.cell? ⟨gb134,0,none⟩=some (.int .i64 0):=(blk_cell BK134.out 0).trans rfl;have hcz66_1:w65.cell? ⟨gb134,1,none⟩=some (.string (⟨#[]⟩:zB)):=(blk_cell BK134.out 1).trans rfl;have hcz66_2:w65.cell? ⟨gb134,2,none⟩=some (.int .i64 0):=(blk_cell BK134.out 2).trans rfl;have hcz66_3:w65.cell? ⟨gb134,3,none⟩=some (.int .i64 0):=(blk_cell BK134.out 3).trans rfl;have hfz66_0:=blk_frozen BK134.out 0;have hfz66_1:=blk_frozen BK134.out 1;have hfz66_2:=blk_frozen BK134.out 2;have hfz66_3:=blk_frozen BK134.out 3))
                refine bodyPost_ret (results_cell_row rfl _ _ gb134 68 #[.int .i64 4,.string (a0.extract (a1:Int).toNat ((wrap64 (a1+t147)):Int).toNat),.int .i64 a1,.int .i64 0] (0,0) _ rfl (by (with_reducible repeat (first | refine blk_drewN ?_ _ | refine blk_drew ?_ | refine blk_alloc ?_ _));refine blk_put (cs:=#[.int .i64 4,.string (a0.extract (a1:Int).toNat ((wrap64 (a1+t147)):Int).toNat),.int .i64 a1,.int .i64 0]) ?_ 3 _ rfl;(with_reducible repeat (first | refine blk_drewN ?_ _ | refine blk_drew ?_ | refine blk_alloc ?_ _));refine blk_put (cs:=#[.int .i64 4,.string (a0.extract (a1:Int).toNat ((wrap64 (a1+t147)):Int).toNat),.int .i64 0,.int .i64 0]) ?_ 2 _ rfl;(with_reducible repeat (first | refine blk_drewN ?_ _ | refine blk_drew ?_ | refine blk_alloc ?_ _));refine blk_put (cs:=#[.int .i64 4,.string (⟨#[]⟩:zB),.int .i64 0,.int .i64 0]) ?_ 1 _ rfl;(with_reducible repeat (first | refine blk_drewN ?_ _ | refine blk_drew ?_ | refine blk_alloc ?_ _));refine blk_put (cs:=#[.int .i64 0,.string (⟨#[]⟩:zB),.int .i64 0,.int .i64 0]) ?_ 0 _ rfl;(with_reducible repeat (first | refine blk_drewN ?_ _ | refine blk_drew ?_ | refine blk_alloc ?_ _));exact BK134.out) Tryz.underlying68 rfl (by kernel_rfl)) rfl ?_;exact ⟨rew,blw⟩
               ·rw [if_neg c64] at H;exact absurd H (by simp)
              ·rw [if_neg c63] at H;exact absurd H (by simp)
             ·rw [if_neg c62] at H;exact absurd H (by simp)
          ·replace c51:=Bool.eq_false_iff.mpr c51;subst c51;have H1:((rzSigns.f).bind fun t149=>(rzone.l1 kj48 a0 a1 t149 0))=some (r1,r2,r3,r4):=by rw [if_neg (show ¬ (false=true) by decide)] at H;exact H
           clear H;have H:=H1;clear H1;replace H:=Option.bind_eq_some_iff.mp H;obtain ⟨t149,A670,H⟩:=H;replace H:(rzone.l1 kj48 a0 a1 t149 0)=some (r1,r2,r3,r4):=H;have A67:=Aside0.mk A670;clear A670;have H':=Aside0.mk H;clear H;go_wp2_with (first | ((with_reducible refine gate_callee (f:=46) rfl ?_);refine goesL_ (some 100) rfl rfl Tryz.func46 (by kernel_rfl) rfl #[] rfl fq ?_;(with_reducible refine (rzSigns.calls  t149 _ A67.out).mono ?_);rintro e w68 ⟨v150,rfl,ho0,hb⟩;refine ⟨_,rfl,?_⟩;have n0_:=Aside0.mk (Kd.R_lower ho0 (below_size blw));have n1_:=Aside0.mk (blk_below (g:=gb134) (o:=.cells #[.int .i64 0,.string (⟨#[]⟩:zB),.int .i64 0,.int .i64 0] 68 (0,0)) bko hb);have n2_:=Aside0.mk (below_step blw hb);clear BK134;clear HB;have HO151:=n0_;have BK134:=n1_;have HB:=n2_;clear n0_ n1_ n2_;(try clear hb);(try clear hb2);(try clear hk);(try clear hi);(try clear ho0)))
           try simp only [Act.put,List.setIfInBounds_toArray,List.set_cons_zero,List.set_cons_succ]
           go_loopg [14] kj48 (fun kq v14 w'=>∃ (x14_3:Int) (x135000_3:Int) (x135001_3:ByteArray) (x135002_3:Int) (x135003_3:Int),v14=.int .i64 x14_3∧Aside0 (rzone.l1 kq a0 a1 t149 x14_3=some (r1,r2,r3,r4))∧Aside0 (kq≤kj48)∧Aside0 (Kd.R Kd.string 9 w' w.heap.size (fun _=>True) v150 t149)∧Aside0 (w'.heap[gb134]?=some (.cells #[.int .i64 x135000_3,.string x135001_3,.int .i64 x135002_3,.int .i64 x135003_3] 68 (0,0)))∧Aside0 (Below w.heap.size w w'))
           case atStart=>exact ⟨(0),(0),((⟨#[]⟩:zB)),(0),(0),rsd,H',⟨Nat.le_refl _⟩,⟨by (with_reducible repeat (first | apply Kd.R_alloc | apply Kd.R_drewN | apply Kd.R_drew));exact HO151.out⟩,⟨bko⟩,⟨blw⟩⟩
           case round =>
            clear H';try clear c1
            try clear p1
            try clear q1
            try clear hx1
            try clear c2
            try clear p2
            try clear c3
            try clear c4
            try clear c4b0
            try clear c5
            try clear c5b0
            try clear c6
            try clear p6
            try clear q6
            try clear hx6
            try clear c7
            try clear c8
            try clear c9
            try clear c11
            try clear c12
            try clear c12b0
            try clear c13
            try clear c13b0
            try clear p14
            try clear q14
            try clear hx14
            try clear c16
            try clear c17
            try clear c17b0
            try clear c19
            try clear c19b0
            try clear c19b1
            try clear c20
            try clear c20b0
            try clear c20b1
            try clear c21
            try clear c21b0
            try clear c21b1
            try clear c23
            try clear c23b0
            try clear c25
            try clear c25b0
            try clear c25b1
            try clear c26
            try clear c26b0
            try clear c26b1
            try clear c27
            try clear c27b0
            try clear c27b1
            try clear c30
            try clear c35
            try clear c37
            try clear c37b0
            try clear c37b1
            try clear c38
            try clear c38b0
            try clear c38b1
            try clear c39
            try clear c39b0
            try clear c39b1
            try clear c41
            try clear c42
            try clear c42b0
            try clear c43
            try clear c43b0
            try clear c44
            try clear c44b0
            try clear c46
            try clear c50
            try clear c50b0
            try clear c50b1
            try clear c51
            try clear c53
            try clear c53b0
            try clear c53b1
            try clear c55
            try clear c56
            try clear c56b0
            try clear c56b1
            try clear c57
            try clear c57b0
            try clear c57b1
            try clear c58
            try clear c58b0
            try clear c58b1
            try clear c59
            try clear c59b0
            try clear c59b1
            try clear c62
            try clear c62b0
            try clear c62b1
            try clear c63
            try clear c63b0
            try clear c63b1
            try clear c64
            try clear c64b0
            try clear c64b1
            try clear p64
            try clear hcz18_0
            try clear hcz18_1
            try clear hcz18_2
            try clear hcz18_3
            try clear hcz22_0
            try clear hcz22_1
            try clear hcz22_2
            try clear hcz22_3
            try clear hcz24_0
            try clear hcz24_1
            try clear hcz24_2
            try clear hcz24_3
            try clear hcz28_0
            try clear hcz28_1
            try clear hcz28_2
            try clear hcz28_3
            try clear hcz33_0
            try clear hcz33_1
            try clear hcz33_2
            try clear hcz33_3
            try clear hcz46_0
            try clear hcz46_1
            try clear hcz46_2
            try clear hcz46_3
            try clear hcz48_0
            try clear hcz48_1
            try clear hcz48_2
            try clear hcz48_3
            try clear hcz55_0
            try clear hcz55_1
            try clear hcz55_2
            try clear hcz55_3
            try clear hcz61_0
            try clear hcz61_1
            try clear hcz61_2
            try clear hcz61_3
            try clear hcz66_0
            try clear hcz66_1
            try clear hcz66_2
            try clear hcz66_3
            try clear hfz18_0
            try clear hfz18_1
            try clear hfz18_2
            try clear hfz18_3
            try clear hfz22_0
            try clear hfz22_1
            try clear hfz22_2
            try clear hfz22_3
            try clear hfz24_0
            try clear hfz24_1
            try clear hfz24_2
            try clear hfz24_3
            try clear hfz28_0
            try clear hfz28_1
            try clear hfz28_2
            try clear hfz28_3
            try clear hfz33_0
            try clear hfz33_1
            try clear hfz33_2
            try clear hfz33_3
            try clear hfz46_0
            try clear hfz46_1
            try clear hfz46_2
            try clear hfz46_3
            try clear hfz48_0
            try clear hfz48_1
            try clear hfz48_2
            try clear hfz48_3
            try clear hfz55_0
            try clear hfz55_1
            try clear hfz55_2
            try clear hfz55_3
            try clear hfz61_0
            try clear hfz61_1
            try clear hfz61_2
            try clear hfz61_3
            try clear hfz66_0
            try clear hfz66_1
            try clear hfz66_2
            try clear hfz66_3
            try clear p1
            try clear p14
            try clear p2
            try clear p6
            try clear q1
            try clear q14
            try clear q6
            obtain ⟨x14_3,x135000_3,x135001_3,x135002_3,x135003_3,rfl,HA,HK3,HO_13,BK134,HB⟩:=hrel;cases gk with
            | zero=>exact absurd HA.out (by simp [rzone.l1])
            | succ k3 =>
             have H:=HA.out;clear HA;simp only [rzone.l1] at H;by_cases c69:x14_3 < (t149.length:Int)
             ·rw [if_pos c69] at H;have c69b0:decide (x14_3 < (t149.length:Int))=true:=decide_eq_true c69;clear c69;by_cases c70:0≤x14_3
              ·rw [if_pos c70] at H;have c70b0:decide (0≤x14_3)=true:=decide_eq_true c70;clear c70;replace H:=Option.bind_eq_some_iff.mp H;obtain ⟨t153,A710,H⟩:=H;replace H:(if t153=true then (some (5,rdOf ByteArray.empty t149 x14_3,a1,0)) else (rzone.l1 k3 a0 a1 t149 (wrap64 (x14_3+1))))=some (r1,r2,r3,r4):=H;have A71:=Aside0.mk A710;clear A710;by_cases c72:t153=true
               ·subst c72;have H1:(some (5,rdOf ByteArray.empty t149 x14_3,a1,0))=some (r1,r2,r3,r4):=by rw [if_pos rfl] at H;exact H
                clear H;have H:=H1;clear H1;simp only [Option.some.injEq,Prod.mk.injEq] at H;obtain ⟨rfl,rfl,rfl,rfl⟩:=H;obtain ⟨Ao73,co73,eo73⟩:=Kd.R_slice HO_13.out;subst eo73;have p152:0≤(x14_3:Int):=of_decide_eq_true asm;have q152:x14_3 < (t149.length:Int):=of_decide_eq_true asm;obtain ⟨ad152,e152,hx152_0⟩:=Kd.at_string (Kd.R_reads' HO_13.out).2.2 x14_3 p152 q152;cases e152;replace p152:=eq_true p152;replace q152:=eq_true q152;go_wp2_with (first | ((with_reducible refine gate_callee (f:=77) rfl ?_);refine goesL_ (some 113) rfl rfl Tryz.func77 (by kernel_rfl) rfl #[.string a0,.int .i64 a1,.string (rdOf ByteArray.empty t149 x14_3)] rfl fq ?_;(with_reducible refine (rzbegins.calls a0 a1 (rdOf ByteArray.empty t149 x14_3) true _ A71.out).mono ?_);rintro e w' ⟨rfl,⟨nd,rfl⟩⟩;refine ⟨_,rfl,?_⟩;(try (rw [drewN_self wr];generalize hq_:World.drewN wr _=wr;have n0_:Aside0 (Kd.R Kd.string 9 wr w.heap.size (fun _=>True) (.slice (some ad152) t149.length co73) t149):=⟨by rw [← hq_];exact (by (with_reducible repeat (first | apply Kd.R_alloc | apply Kd.R_drewN | apply Kd.R_drew));exact HO_13.out)⟩;have n1_:Aside0 (wr.heap[gb134]?=some (.cells #[.int .i64 x135000_3,.string x135001_3,.int .i64 x135002_3,.int .i64 x135003_3] 68 (0,0))):=⟨by rw [← hq_];exact bko⟩;have n2_:Aside0 (Below w.heap.size w wr):=⟨by rw [← hq_];exact blw⟩;clear HO_13 BK134 HB hq_;have HO_13:=n0_;have BK134:=n1_;have HB:=n2_;clear n0_ n1_ n2_));have p154:0≤(x14_3:Int):=of_decide_eq_true asm;have q154:x14_3 < (t149.length:Int):=of_decide_eq_true asm;obtain ⟨ad154,e154,hx154_0⟩:=Kd.at_string (Kd.R_reads' HO_13.out).2.2 x14_3 p154 q154;obtain rfl:ad152=ad154:=(by injection e154);replace p154:=eq_true p154;replace q154:=eq_true q154;have hcz74_0:wr.cell? ⟨gb134,0,none⟩=some (.int .i64 x135000_3):=(blk_cell BK134.out 0).trans rfl;have hcz74_1:wr.cell? ⟨gb134,1,none⟩=some (.string x135001_3):=(blk_cell BK134.out 1).trans rfl;have hcz74_2:wr.cell? ⟨gb134,2,none⟩=some (.int .i64 x135002_3):=(blk_cell BK134.out 2).trans rfl;have hcz74_3:wr.cell? ⟨gb134,3,none⟩=some (.int .i64 x135003_3):=(blk_cell BK134.out 3).trans rfl;have hfz74_0:=blk_frozen BK134.out 0;have hfz74_1:=blk_frozen BK134.out 1;have hfz74_2:=blk_frozen BK134.out 2;have hfz74_3:=blk_frozen BK134.out 3))
                refine bodyPost_ret (results_cell_row rfl _ _ gb134 68 #[.int .i64 5,.string (rdOf ByteArray.empty t149 x14_3),.int .i64 a1,.int .i64 0] (0,0) _ rfl (by (with_reducible repeat (first | refine blk_drewN ?_ _ | refine blk_drew ?_ | refine blk_alloc ?_ _));refine blk_put (cs:=#[.int .i64 5,.string (rdOf ByteArray.empty t149 x14_3),.int .i64 a1,.int .i64 x135003_3]) ?_ 3 _ rfl;(with_reducible repeat (first | refine blk_drewN ?_ _ | refine blk_drew ?_ | refine blk_alloc ?_ _));refine blk_put (cs:=#[.int .i64 5,.string (rdOf ByteArray.empty t149 x14_3),.int .i64 x135002_3,.int .i64 x135003_3]) ?_ 2 _ rfl;(with_reducible repeat (first | refine blk_drewN ?_ _ | refine blk_drew ?_ | refine blk_alloc ?_ _));refine blk_put (cs:=#[.int .i64 5,.string x135001_3,.int .i64 x135002_3,.int .i64 x135003_3]) ?_ 1 _ rfl;(with_reducible repeat (first | refine blk_drewN ?_ _ | refine blk_drew ?_ | refine blk_alloc ?_ _));refine blk_put (cs:=#[.int .i64 x135000_3,.string x135001_3,.int .i64 x135002_3,.int .i64 x135003_3]) ?_ 0 _ rfl;(with_reducible repeat (first | refine blk_drewN ?_ _ | refine blk_drew ?_ | refine blk_alloc ?_ _));exact BK134.out) Tryz.underlying68 rfl (by kernel_rfl)) rfl ?_;exact ⟨rew,blw⟩
               ·replace c72:=Bool.eq_false_iff.mpr c72;subst c72;have H1:(rzone.l1 k3 a0 a1 t149 (wrap64 (x14_3+1)))=some (r1,r2,r3,r4):=by rw [if_neg (show ¬ (false=true) by decide)] at H;exact H
                clear H;have H:=H1;clear H1;have H':=Aside0.mk H;clear H;obtain ⟨Ao75,co75,eo75⟩:=Kd.R_slice HO_13.out;subst eo75;have p152:0≤(x14_3:Int):=of_decide_eq_true asm;have q152:x14_3 < (t149.length:Int):=of_decide_eq_true asm;obtain ⟨ad152,e152,hx152_0⟩:=Kd.at_string (Kd.R_reads' HO_13.out).2.2 x14_3 p152 q152;cases e152;replace p152:=eq_true p152;replace q152:=eq_true q152;go_wp2_with (first | ((with_reducible refine gate_callee (f:=77) rfl ?_);refine goesL_ (some 113) rfl rfl Tryz.func77 (by kernel_rfl) rfl #[.string a0,.int .i64 a1,.string (rdOf ByteArray.empty t149 x14_3)] rfl fq ?_;(with_reducible refine (rzbegins.calls a0 a1 (rdOf ByteArray.empty t149 x14_3) false _ A71.out).mono ?_);rintro e w' ⟨rfl,⟨nd,rfl⟩⟩;refine ⟨_,rfl,?_⟩))
                go_roundg k3
                case measure=>have:=HJ6.out;have:=HJ48.out;have:=HK3.out;omega
                case rel=>exact ⟨(wrap64 (x14_3+1)),(x135000_3),(x135001_3),(x135002_3),(x135003_3),rsd,H',⟨by have:=HJ6.out;have:=HJ48.out;have:=HK3.out;omega⟩,⟨by (with_reducible repeat (first | apply Kd.R_alloc | apply Kd.R_drewN | apply Kd.R_drew));exact HO_13.out⟩,⟨bko⟩,⟨blw⟩⟩
              ·rw [if_neg c70] at H;exact absurd H (by simp)
             ·rw [if_neg c69] at H;have c69b0:decide (x14_3 < (t149.length:Int))=false:=decide_eq_false c69;clear c69;simp only [Option.some.injEq,Prod.mk.injEq] at H;obtain ⟨rfl,rfl,rfl,rfl⟩:=H;obtain ⟨Ao76,co76,eo76⟩:=Kd.R_slice HO_13.out;subst eo76;have hcz77_0:wr.cell? ⟨gb134,0,none⟩=some (.int .i64 x135000_3):=(blk_cell BK134.out 0).trans rfl;have hcz77_1:wr.cell? ⟨gb134,1,none⟩=some (.string x135001_3):=(blk_cell BK134.out 1).trans rfl;have hcz77_2:wr.cell? ⟨gb134,2,none⟩=some (.int .i64 x135002_3):=(blk_cell BK134.out 2).trans rfl;have hcz77_3:wr.cell? ⟨gb134,3,none⟩=some (.int .i64 x135003_3):=(blk_cell BK134.out 3).trans rfl;have hfz77_0:=blk_frozen BK134.out 0;have hfz77_1:=blk_frozen BK134.out 1;have hfz77_2:=blk_frozen BK134.out 2;have hfz77_3:=blk_frozen BK134.out 3;go_wp2;refine bodyPost_ret (results_cell_row rfl _ _ gb134 68 #[.int .i64 0,.string (⟨#[]⟩:zB),.int .i64 0,.int .i64 110] (0,0) _ rfl (by (with_reducible repeat (first | refine blk_drewN ?_ _ | refine blk_drew ?_ | refine blk_alloc ?_ _));refine blk_put (cs:=#[.int .i64 0,.string (⟨#[]⟩:zB),.int .i64 0,.int .i64 x135003_3]) ?_ 3 _ rfl;(with_reducible repeat (first | refine blk_drewN ?_ _ | refine blk_drew ?_ | refine blk_alloc ?_ _));refine blk_put (cs:=#[.int .i64 0,.string (⟨#[]⟩:zB),.int .i64 x135002_3,.int .i64 x135003_3]) ?_ 2 _ rfl;(with_reducible repeat (first | refine blk_drewN ?_ _ | refine blk_drew ?_ | refine blk_alloc ?_ _));refine blk_put (cs:=#[.int .i64 0,.string x135001_3,.int .i64 x135002_3,.int .i64 x135003_3]) ?_ 1 _ rfl;(with_reducible repeat (first | refine blk_drewN ?_ _ | refine blk_drew ?_ | refine blk_alloc ?_ _));refine blk_put (cs:=#[.int .i64 x135000_3,.string x135001_3,.int .i64 x135002_3,.int .i64 x135003_3]) ?_ 0 _ rfl;(with_reducible repeat (first | refine blk_drewN ?_ _ | refine blk_drew ?_ | refine blk_alloc ?_ _));exact BK134.out) Tryz.underlying68 rfl (by kernel_rfl)) rfl ?_;exact ⟨rew,blw⟩
  ·rw [if_neg c5] at H;exact absurd H (by simp)
 ·rw [if_neg c4] at H;exact absurd H (by simp)
end Go.Proofs.YtadgddipkbdnbaaGreatDoor.Q
