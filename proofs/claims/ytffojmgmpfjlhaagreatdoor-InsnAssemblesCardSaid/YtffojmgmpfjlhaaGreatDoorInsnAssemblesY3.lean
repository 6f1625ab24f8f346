/- Parts of the proof of InsnAssembles. -/
import Derived.Test.YtffojmgmpfjlhaaGreatDoorInsnAssemblesY2
set_option maxHeartbeats 8000000
set_option maxRecDepth 100000
set_option linter.unusedVariables false
set_option linter.unusedSimpArgs false
namespace Go.Proofs.YtffojmgmpfjlhaaGreatDoor.Q
open Go.Proofs.YtffojmgmpfjlhaaGreatDoor Go.RowKit Go.Proofs.YtffojmgmpfjlhaaGreatDoorW.PrintWords Go.Proofs.YtffojmgmpfjlhaaGreatDoorW.PrintLast Go.Proofs.YtffojmgmpfjlhaaGreatDoorW.PrintMore
attribute [local go_sem] max2_int min2_int max_two min_two max_three min_three max_four min_four
def IsS117 (w0 W:World) (g:Nat) (f0:ByteArray) (f1:Int) (f2:Bool) (f3:Bool) (f4:Bool) (f5:ByteArray):Prop:=W.heap[g]?=some (.cells #[.string f0,.int .i64 f1,.bool f2,.bool f3,.bool f4,.string f5] 117 (0,0))∧w0.heap.size≤g
theorem IsS117.grown {w0 W:World} {g:Nat} {f0:ByteArray} {f1:Int} {f2:Bool} {f3:Bool} {f4:Bool} {f5:ByteArray} {W1:World} {row:Option Nat} (h:IsS117 w0 W g f0 f1 f2 f3 f4 f5) (hw:W.grownBy W1 row) (hne:some g≠row):IsS117 w0 W1 g f0 f1 f2 f3 f4 f5:=by
 obtain ⟨hb,hg⟩:=h;exact ⟨blk_grown hb hw hne,hg⟩
theorem IsS117.below {w0 W:World} {g:Nat} {f0:ByteArray} {f1:Int} {f2:Bool} {f3:Bool} {f4:Bool} {f5:ByteArray} {W1:World} (h:IsS117 w0 W g f0 f1 f2 f3 f4 f5) (hw:Below W.heap.size W W1):IsS117 w0 W1 g f0 f1 f2 f3 f4 f5:=h.grown (grown_of_below hw none) (by simp)
theorem IsS117.alloc {w0 W:World} {g:Nat} {f0:ByteArray} {f1:Int} {f2:Bool} {f3:Bool} {f4:Bool} {f5:ByteArray} (h:IsS117 w0 W g f0 f1 f2 f3 f4 f5) (o:Obj):IsS117 w0 (W.alloc o) g f0 f1 f2 f3 f4 f5:=h.below (below_alloc (Below.refl _ _) o)
theorem IsS117.drewN {w0 W:World} {g:Nat} {f0:ByteArray} {f1:Int} {f2:Bool} {f3:Bool} {f4:Bool} {f5:ByteArray} (h:IsS117 w0 W g f0 f1 f2 f3 f4 f5) (m:Nat):IsS117 w0 (W.drewN m) g f0 f1 f2 f3 f4 f5:=h
theorem IsS117.drew {w0 W:World} {g:Nat} {f0:ByteArray} {f1:Int} {f2:Bool} {f3:Bool} {f4:Bool} {f5:ByteArray} (h:IsS117 w0 W g f0 f1 f2 f3 f4 f5):IsS117 w0 W.drew g f0 f1 f2 f3 f4 f5:=h
theorem IsS117.at_ {w0 W:World} {g:Nat} {f0:ByteArray} {f1:Int} {f2:Bool} {f3:Bool} {f4:Bool} {f5:ByteArray} {w':World} {m:Nat} (hq:W.drewN m=w') (h:IsS117 w0 W g f0 f1 f2 f3 f4 f5):IsS117 w0 w' g f0 f1 f2 f3 f4 f5:=by subst hq;exact IsS117.drewN h m
theorem IsS117.own_ne {w0 W:World} {g:Nat} {f0:ByteArray} {f1:Int} {f2:Bool} {f3:Bool} {f4:Bool} {f5:ByteArray} {α:Type} {d:Kd α} {e:Nat} {base:Nat} {ok:Nat→Prop} {v:Value} {xs:List α} (h:IsS117 w0 W g f0 f1 f2 f3 f4 f5) (ho:d.R e W base ok v xs) (ht:e≠117):some g≠v.ownBlock:=by
 obtain ⟨hb,hg⟩:=h;exact Kd.R_ne ho hb ht
theorem IsS117.lt {w0 W:World} {g:Nat} {f0:ByteArray} {f1:Int} {f2:Bool} {f3:Bool} {f4:Bool} {f5:ByteArray} (h:IsS117 w0 W g f0 f1 f2 f3 f4 f5):g < W.heap.size:=by
 obtain ⟨hb,hg⟩:=h;exact blk_lt hb
theorem IsS117.ge {w0 W:World} {g:Nat} {f0:ByteArray} {f1:Int} {f2:Bool} {f3:Bool} {f4:Bool} {f5:ByteArray} (h:IsS117 w0 W g f0 f1 f2 f3 f4 f5):w0.heap.size≤g:=by
 obtain ⟨hb,hg⟩:=h;exact hg
theorem IsS117.far {w0 W:World} {g:Nat} {f0:ByteArray} {f1:Int} {f2:Bool} {f3:Bool} {f4:Bool} {f5:ByteArray} {p:Addr} (h:IsS117 w0 W g f0 f1 f2 f3 f4 f5) (hne:g≠p.block) (u:Value):IsS117 w0 (W.setCell p u) g f0 f1 f2 f3 f4 f5:=by
 obtain ⟨hb,hg⟩:=h;exact ⟨blk_far hb hne u,hg⟩
theorem cellS117_0 {W:World} {g:Nat} {f0:ByteArray} {f1:Int} {f2:Bool} {f3:Bool} {f4:Bool} {f5:ByteArray} (h:W.heap[g]?=some (.cells #[.string f0,.int .i64 f1,.bool f2,.bool f3,.bool f4,.string f5] 117 (0,0))):W.cell? ⟨g,0,none⟩=some (.string f0):=(blk_cell h 0).trans rfl
theorem IsS117.set_0 {w0 W:World} {g:Nat} {f0:ByteArray} {f1:Int} {f2:Bool} {f3:Bool} {f4:Bool} {f5:ByteArray} (h:IsS117 w0 W g f0 f1 f2 f3 f4 f5) (x:ByteArray):IsS117 w0 (W.setCell ⟨g,0,none⟩ (.string x)) g x f1 f2 f3 f4 f5:=by
 obtain ⟨hb,hg⟩:=h;exact ⟨by simpa using blk_set hb 0 (.string x),hg⟩
theorem cellS117_1 {W:World} {g:Nat} {f0:ByteArray} {f1:Int} {f2:Bool} {f3:Bool} {f4:Bool} {f5:ByteArray} (h:W.heap[g]?=some (.cells #[.string f0,.int .i64 f1,.bool f2,.bool f3,.bool f4,.string f5] 117 (0,0))):W.cell? ⟨g,1,none⟩=some (.int .i64 f1):=(blk_cell h 1).trans rfl
theorem IsS117.set_1 {w0 W:World} {g:Nat} {f0:ByteArray} {f1:Int} {f2:Bool} {f3:Bool} {f4:Bool} {f5:ByteArray} (h:IsS117 w0 W g f0 f1 f2 f3 f4 f5) (x:Int):IsS117 w0 (W.setCell ⟨g,1,none⟩ (.int .i64 x)) g f0 x f2 f3 f4 f5:=by
 obtain ⟨hb,hg⟩:=h;exact ⟨by simpa using blk_set hb 1 (.int .i64 x),hg⟩
theorem cellS117_2 {W:World} {g:Nat} {f0:ByteArray} {f1:Int} {f2:Bool} {f3:Bool} {f4:Bool} {f5:ByteArray} (h:W.heap[g]?=some (.cells #[.string f0,.int .i64 f1,.bool f2,.bool f3,.bool f4,.string f5] 117 (0,0))):W.cell? ⟨g,2,none⟩=some (.bool f2):=(blk_cell h 2).trans rfl
theorem IsS117.set_2 {w0 W:World} {g:Nat} {f0:ByteArray} {f1:Int} {f2:Bool} {f3:Bool} {f4:Bool} {f5:ByteArray} (h:IsS117 w0 W g f0 f1 f2 f3 f4 f5) (x:Bool):IsS117 w0 (W.setCell ⟨g,2,none⟩ (.bool x)) g f0 f1 x f3 f4 f5:=by
 obtain ⟨hb,hg⟩:=h;exact ⟨by simpa using blk_set hb 2 (.bool x),hg⟩
theorem cellS117_3 {W:World} {g:Nat} {f0:ByteArray} {f1:Int} {f2:Bool} {f3:Bool} {f4:Bool} {f5:ByteArray} (h:W.heap[g]?=some (.cells #[.string f0,.int .i64 f1,.bool f2,.bool f3,.bool f4,.string f5] 117 (0,0))):W.cell? ⟨g,3,none⟩=some (.bool f3):=(blk_cell h 3).trans rfl
theorem IsS117.set_3 {w0 W:World} {g:Nat} {f0:ByteArray} {f1:Int} {f2:Bool} {f3:Bool} {f4:Bool} {f5:ByteArray} (h:IsS117 w0 W g f0 f1 f2 f3 f4 f5) (x:Bool):IsS117 w0 (W.setCell ⟨g,3,none⟩ (.bool x)) g f0 f1 f2 x f4 f5:=by
 obtain ⟨hb,hg⟩:=h;exact ⟨by simpa using blk_set hb 3 (.bool x),hg⟩
theorem cellS117_4 {W:World} {g:Nat} {f0:ByteArray} {f1:Int} {f2:Bool} {f3:Bool} {f4:Bool} {f5:ByteArray} (h:W.heap[g]?=some (.cells #[.string f0,.int .i64 f1,.bool f2,.bool f3,.bool f4,.string f5] 117 (0,0))):W.cell? ⟨g,4,none⟩=some (.bool f4):=(blk_cell h 4).trans rfl
theorem IsS117.set_4 {w0 W:World} {g:Nat} {f0:ByteArray} {f1:Int} {f2:Bool} {f3:Bool} {f4:Bool} {f5:ByteArray} (h:IsS117 w0 W g f0 f1 f2 f3 f4 f5) (x:Bool):IsS117 w0 (W.setCell ⟨g,4,none⟩ (.bool x)) g f0 f1 f2 f3 x f5:=by
 obtain ⟨hb,hg⟩:=h;exact ⟨by simpa using blk_set hb 4 (.bool x),hg⟩
theorem cellS117_5 {W:World} {g:Nat} {f0:ByteArray} {f1:Int} {f2:Bool} {f3:Bool} {f4:Bool} {f5:ByteArray} (h:W.heap[g]?=some (.cells #[.string f0,.int .i64 f1,.bool f2,.bool f3,.bool f4,.string f5] 117 (0,0))):W.cell? ⟨g,5,none⟩=some (.string f5):=(blk_cell h 5).trans rfl
theorem IsS117.set_5 {w0 W:World} {g:Nat} {f0:ByteArray} {f1:Int} {f2:Bool} {f3:Bool} {f4:Bool} {f5:ByteArray} (h:IsS117 w0 W g f0 f1 f2 f3 f4 f5) (x:ByteArray):IsS117 w0 (W.setCell ⟨g,5,none⟩ (.string x)) g f0 f1 f2 f3 f4 x:=by
 obtain ⟨hb,hg⟩:=h;exact ⟨by simpa using blk_set hb 5 (.string x),hg⟩
theorem IsS117.new (w0 W:World) (f0:ByteArray) (f1:Int) (f2:Bool) (f3:Bool) (f4:Bool) (f5:ByteArray) (hB:Below w0.heap.size w0 W):IsS117 w0 (W.alloc (.cells #[.string f0,.int .i64 f1,.bool f2,.bool f3,.bool f4,.string f5] 117)) W.heap.size f0 f1 f2 f3 f4 f5:=⟨by simpa using heap_alloc_new W _,hB.size⟩
theorem IsS117.all {w0 W:World} {g:Nat} {f0:ByteArray} {f1:Int} {f2:Bool} {f3:Bool} {f4:Bool} {f5:ByteArray} (H:IsS117 w0 W g f0 f1 f2 f3 f4 f5):W.cell? ⟨g,0,none⟩=some (.string f0)∧W.cell? ⟨g,1,none⟩=some (.int .i64 f1)∧W.cell? ⟨g,2,none⟩=some (.bool f2)∧W.cell? ⟨g,3,none⟩=some (.bool f3)∧W.cell? ⟨g,4,none⟩=some (.bool f4)∧W.cell? ⟨g,5,none⟩=some (.string f5)∧W.frozen? ⟨g,0,none⟩=false∧W.frozen? ⟨g,1,none⟩=false∧W.frozen? ⟨g,2,none⟩=false∧W.frozen? ⟨g,3,none⟩=false∧W.frozen? ⟨g,4,none⟩=false∧W.frozen? ⟨g,5,none⟩=false:=by
 obtain ⟨h,_⟩:=H
 exact ⟨cellS117_0 h,cellS117_1 h,cellS117_2 h,cellS117_3 h,cellS117_4 h,cellS117_5 h,blk_frozen h 0,blk_frozen h 1,blk_frozen h 2,blk_frozen h 3,blk_frozen h 4,blk_frozen h 5⟩
theorem ix {p:Prop} (h:p:=by (repeat ((fail_if_success with_reducible exact HI0.out);with_reducible first | apply IsS117.alloc | apply IsS117.drewN | apply IsS117.drew | apply IsS117.set_0 | apply IsS117.set_1 | apply IsS117.set_2 | apply IsS117.set_3 | apply IsS117.set_4 | apply IsS117.set_5 | refine IsS117.far ?_ (Aside0.out (by first | (with_reducible assumption) | assumption)) _));exact HI0.out):p:=h
theorem kx {p:Prop} (h:p:=by (repeat ((fail_if_success with_reducible exact HK.out);with_reducible first | apply KeepBut.set_ | apply keep_drewN | apply keep_drew | apply keep_alloc | refine keep_far ?_ (Aside0.out (by first | (with_reducible assumption) | assumption)) _));first | exact HK.out | exact keep_drew HK.out):p:=h
theorem bx {p:Prop} (h:p:=by (repeat ((fail_if_success with_reducible exact HB.out);with_reducible first | apply below_alloc | apply pw_below_drewN | apply below_drew1 | refine below_set ?_ (IsS117.ge HI0.out) | refine below_set ?_ (Aside0.out (by first | (with_reducible assumption) | assumption))));exact HB.out):p:=h
theorem gwk {p:Prop} (h:p:=by rw [hg];exact (keep_size (w:=w) (g:=g) (row:=none) kx)):p:=h
theorem nix {p:Prop} (h:p:=by rw [hg];exact Nat.ne_of_lt (IsS117.lt (w0:=w0) ix)):p:=h
theorem ktr {w w1 w2:World} {g:Nat} (h:KeepBut w w1 g none) (k:KeepBut w1 w2 g none):Aside0 (KeepBut w w2 g none):=⟨h.trans k (.inl rfl)⟩
theorem kbk {w w1:World} {g g':Nat} {o:Obj} (h:KeepBut w w1 g none) (hb:w.heap[g']?=some o) (hg:g'≠g):Aside0 (w1.heap[g']?=some o):=⟨h.blk hb hg (by simp)⟩
theorem kob {w w1 w2:World} {g:Nat} (h:KeepBut w w1 g none) (k:Below w1.heap.size w1 w2):Aside0 (KeepBut w w2 g none):=⟨h.trans (KeepBut.of_below k g none) (.inl rfl)⟩
def rzreader_blanks.l0:Nat→ByteArray→Int→Bool→Bool→Bool→ByteArray→Option (ByteArray × Int × Bool × Bool × Bool × ByteArray)
 | 0,_,_,_,_,_,_=>none
 | k+1,x1000,x1001,x1002,x1003,x1004,x1005=>if x1001 < (x1000.size:Int) then (if 0≤x1001 then (if (bt x1000 x1001)=32 then (rzreader_blanks.l0 k x1000 (wrap64 (x1001+1)) x1002 x1003 x1004 x1005) else (if (bt x1000 x1001)=9 then (rzreader_blanks.l0 k x1000 (wrap64 (x1001+1)) x1002 x1003 x1004 x1005) else (some (x1000,x1001,x1002,x1003,x1004,x1005)))) else (none)) else (some (x1000,x1001,x1002,x1003,x1004,x1005))
def rzreader_blanks.f (k:Nat) (s0_0:ByteArray) (s0_1:Int) (s0_2:Bool) (s0_3:Bool) (s0_4:Bool) (s0_5:ByteArray):Option (ByteArray × Int × Bool × Bool × Bool × ByteArray):=rzreader_blanks.l0 k s0_0 s0_1 s0_2 s0_3 s0_4 s0_5
theorem rzreader_blanks.calls (k:Nat) (g:Nat) (s0_0:ByteArray) (s0_1:Int) (s0_2:Bool) (s0_3:Bool) (s0_4:Bool) (s0_5:ByteArray) (r1:ByteArray) (r2:Int) (r3:Bool) (r4:Bool) (r5:Bool) (r6:ByteArray) (w0 w:World) (hI:IsS117 w0 w g s0_0 s0_1 s0_2 s0_3 s0_4 s0_5) (hB:Below w0.heap.size w0 w) (h:rzreader_blanks.f k s0_0 s0_1 s0_2 s0_3 s0_4 s0_5=some (r1,r2,r3,r4,r5,r6)) :
  Calls Tryz.prog 104 #[.pointer (some ⟨g,0,none⟩)] w fun e w'=>e=.returned (.tuple #[])∧IsS117 w0 w' g r1 r2 r3 r4 r5 r6∧Below w0.heap.size w0 w'∧KeepBut w w' g none:=by
 have HI0:=Aside0.mk hI;have HK:=Aside0.mk (KeepBut.refl w g none);have HL:=Aside0.mk hB.size;clear hI;have HW0:=Aside0.mk hB.size;have HB:=Aside0.mk hB;clear hB;unfold rzreader_blanks.f at h;have H:=h;clear h;have H':=Aside0.mk H;clear H;go_enter Tryz.func104,Tryz.ntmps104
 go_wp2;repeat (go_quiet (fail);try go_wp2)
 try simp only [Act.put,List.setIfInBounds_toArray,List.set_cons_zero,List.set_cons_succ]
 go_loopg [] k (fun kq w'=>∃ (x1001_1:Int),Aside0 (rzreader_blanks.l0 kq s0_0 x1001_1 s0_2 s0_3 s0_4 s0_5=some (r1,r2,r3,r4,r5,r6))∧Aside0 (kq≤k)∧Aside0 (IsS117 w0 w' g s0_0 x1001_1 s0_2 s0_3 s0_4 s0_5)∧Aside0 (KeepBut w w' g none)∧Aside0 (Below w0.heap.size w0 w'))
 case atStart=>exact ⟨(s0_1),H',⟨Nat.le_refl _⟩,⟨ix⟩,⟨kx⟩,⟨bx⟩⟩
 case round =>
  clear H';obtain ⟨x1001_1,HA,HK1,HI0,HK,HB⟩:=hrel;cases gk with
  | zero=>exact absurd HA.out (by simp [rzreader_blanks.l0])
  | succ k1 =>
   have H:=HA.out;clear HA;simp only [rzreader_blanks.l0] at H;by_cases c2:x1001_1 < (s0_0.size:Int)
   ·rw [if_pos c2] at H;have c2b0:=decide_eq_true c2;clear c2;by_cases c3:0≤x1001_1
    ·rw [if_pos c3] at H;have c3b0:=decide_eq_true c3;clear c3;by_cases c5:(bt s0_0 x1001_1)=32
     ·rw [if_pos c5] at H;obtain ⟨c5b0,c5b1⟩:=bqt c5;clear c5;have H':=Aside0.mk H;clear H;obtain ⟨_,_,_,_,_,_,_,_,_,_,_,_⟩:=HI0.out.all;have p4:0≤(x1001_1:Int):=of_decide_eq_true asm;have q4:x1001_1 < (s0_0.size:Int):=of_decide_eq_true asm;have hx4:=bt_at s0_0 x1001_1;replace p4:=eq_true p4;replace q4:=eq_true q4;go_wp2;repeat (go_quiet (fail);try go_wp2)
      go_roundg k1
      case measure=>have:=HK1.out;omega
      case rel=>exact ⟨(wrap64 (x1001_1+1)),H',⟨by have:=HK1.out;omega⟩,⟨ix⟩,⟨kx⟩,⟨bx⟩⟩
     ·rw [if_neg c5] at H;obtain ⟨c5b0,c5b1⟩:=bqf c5;by_cases c8:(bt s0_0 x1001_1)=9
      ·rw [if_pos c8] at H;obtain ⟨c8b0,c8b1⟩:=bqt c8;clear c8;have H':=Aside0.mk H;clear H;obtain ⟨_,_,_,_,_,_,_,_,_,_,_,_⟩:=HI0.out.all;have p4:0≤(x1001_1:Int):=of_decide_eq_true asm;have q4:x1001_1 < (s0_0.size:Int):=of_decide_eq_true asm;have hx4:=bt_at s0_0 x1001_1;replace p4:=eq_true p4;replace q4:=eq_true q4;have p7:0≤(x1001_1:Int):=of_decide_eq_true asm;have q7:x1001_1 < (s0_0.size:Int):=of_decide_eq_true asm;have hx7:=bt_at s0_0 x1001_1;replace p7:=eq_true p7;replace q7:=eq_true q7;go_wp2;repeat (go_quiet (fail);try go_wp2)
       go_roundg k1
       case measure=>have:=HK1.out;omega
       case rel=>exact ⟨(wrap64 (x1001_1+1)),H',⟨by have:=HK1.out;omega⟩,⟨ix⟩,⟨kx⟩,⟨bx⟩⟩
      ·rw [if_neg c8] at H;obtain ⟨c8b0,c8b1⟩:=bqf c8;simp only [Option.some.injEq,Prod.mk.injEq] at H;obtain ⟨rfl,rfl,rfl,rfl,rfl,rfl⟩:=H;obtain ⟨_,_,_,_,_,_,_,_,_,_,_,_⟩:=HI0.out.all;have p4:0≤(x1001_1:Int):=of_decide_eq_true asm;have q4:x1001_1 < (s0_0.size:Int):=of_decide_eq_true asm;have hx4:=bt_at s0_0 x1001_1;replace p4:=eq_true p4;replace q4:=eq_true q4;have p7:0≤(x1001_1:Int):=of_decide_eq_true asm;have q7:x1001_1 < (s0_0.size:Int):=of_decide_eq_true asm;have hx7:=bt_at s0_0 x1001_1;replace p7:=eq_true p7;replace q7:=eq_true q7;go_wp2;repeat (go_quiet (fail);try go_wp2)
       first | go_end0 | ((try simp only [Exit.inBlock,Exit.then]);refine bodyPost_ret (results_none rfl _ _ _) rfl ?_)
       exact ⟨rew,ix,bx,kx⟩
    ·rw [if_neg c3] at H;exact absurd H (by simp)
   ·rw [if_neg c2] at H;have c2b0:=decide_eq_false c2;clear c2;simp only [Option.some.injEq,Prod.mk.injEq] at H;obtain ⟨rfl,rfl,rfl,rfl,rfl,rfl⟩:=H;obtain ⟨_,_,_,_,_,_,_,_,_,_,_,_⟩:=HI0.out.all;go_wp2;repeat (go_quiet (fail);try go_wp2)
    first | go_end0 | ((try simp only [Exit.inBlock,Exit.then]);refine bodyPost_ret (results_none rfl _ _ _) rfl ?_)
    exact ⟨rew,ix,bx,kx⟩
mutual
def rzoperation.l0:Nat→ByteArray→Int→Option (Int)
 | 0,_,_=>none
 | k+1,x0,x3=>if x3≤76 then (rzoperation.j1 k x0 x3 (x0.toList != ([]:List UInt8))) else (rzoperation.j1 k x0 x3 false)
def rzoperation.j1:Nat→ByteArray→Int→Bool→Option (Int)
 | 0,_,_,_=>none
 | k+1,x0,x3,x9=>if x9=true then ((rzMnemonic.f x3).bind fun t466=>(if t466.toList=x0.toList then (some x3) else (rzoperation.l0 k x0 (wrap64 (x3+1))))) else (some 0)
end
def rzoperation.f (k:Nat) (a0:ByteArray):Option (Int):=rzoperation.l0 k a0 1
theorem rzoperation.calls (k:Nat) (a0:ByteArray) (r:Int) (w:World) (h:rzoperation.f k a0=some r) :
  Calls Tryz.prog 105 #[.string a0] w fun e w'=>e=.returned (.int .i64 r)∧Below w.heap.size w w':=by
 have HB:=Aside0.mk (Below.refl w.heap.size w);unfold rzoperation.f at h;have H:=h;clear h;have H':=Aside0.mk H;clear H;go_enter Tryz.func105,Tryz.ntmps105
 go_wp2;try simp only [Act.put,List.setIfInBounds_toArray,List.set_cons_zero,List.set_cons_succ]
 go_loopg [3] k (fun kq v3 w'=>∃ (x3_1:Int),v3=.int .i64 x3_1∧Aside0 (rzoperation.l0 kq a0 x3_1=some r)∧Aside0 (kq≤k)∧Aside0 (Below w.heap.size w w'))
 case atStart=>exact ⟨(1),rsd,H',⟨Nat.le_refl _⟩,⟨blw⟩⟩
 case round =>
  clear H';obtain ⟨x3_1,rfl,HA,HK1,HB⟩:=hrel;cases gk with
  | zero=>exact absurd HA.out (by simp [rzoperation.l0])
  | succ k1 =>
   have H:=HA.out;clear HA;simp only [rzoperation.l0] at H;have HC2:=Aside0.mk H;clear H;go_upto_region 2 with (fail)
   go_cut [9] (fun v9 wc=>∃ (kq:Nat) (x9_1:Bool),v9=.bool x9_1∧Aside0 (rzoperation.j1 kq a0 x3_1 x9_1=some r)∧Aside0 (kq≤k1)∧Aside0 (Below w.heap.size w wc))
   case first =>
    have H:=HC2.out;clear HC2;by_cases c3:x3_1≤76
    ·rw [if_pos c3] at H;have c3b0:=decide_eq_true c3;clear c3;(first | rw [c3b0] | (simp only [i64_w,i32_w];rw [c3b0]) | skip);have H':=Aside0.mk H;clear H;go_wp2;go_meet
     case rel=>exact ⟨_,((a0.toList != ([]:List UInt8))),(by first | rfl | (show Value.bool (!a0.toList.isEmpty)=Value.bool (a0.toList != []);cases a0.toList <;> rfl) | (simp;cases a0.toList <;> rfl) | (simp;done) | (simp [*];done)),H',⟨by have:=HK1.out;first | omega | exact Nat.le_refl _⟩,⟨blw⟩⟩
    ·rw [if_neg c3] at H;have c3b0:=decide_eq_false c3;clear c3;(first | rw [c3b0] | (simp only [i64_w,i32_w];rw [c3b0]) | skip);have H':=Aside0.mk H;clear H;go_wp2;go_meet
     case rel=>exact ⟨_,(false),rsd,H',⟨by have:=HK1.out;first | omega | exact Nat.le_refl _⟩,⟨blw⟩⟩
   case rest =>
    clear HC2;obtain ⟨kq,x9_1,rfl,HA,HJ1,HB⟩:=hcut;cases kq with
    | zero=>exact absurd HA.out (by simp [rzoperation.j1])
    | succ kj1 =>
     have H:=HA.out;clear HA;simp only [rzoperation.j1] at H;by_cases c4:x9_1=true
     ·subst c4;rw [if_pos rfl] at H;obtain ⟨t466,A5,H⟩:=bas H;(try dsimp only at H);by_cases c6:t466.toList=a0.toList
      ·rw [if_pos c6] at H;obtain ⟨c6b0,c6b1⟩:=bqt c6;clear c6;obtain rfl:=Option.some.inj H;go_wp2_with (first | ((with_reducible refine gate_callee (f:=63) rfl ?_);refine gl (some 13) Tryz.func63 #[.int .i64 x3_1] ?_;(with_reducible refine (rzMnemonic.calls _ _ _ A5.out).mono ?_);rintro e w7 ⟨rfl,hb⟩;refine ⟨_,rfl,?_⟩;replace HB:=Aside0.mk (below_step blw hb);clear hb))
       go_ret;exact ⟨rew,blw⟩
      ·rw [if_neg c6] at H;obtain ⟨c6b0,c6b1⟩:=bqf c6;have H':=Aside0.mk H;clear H;go_wp2_with (first | ((with_reducible refine gate_callee (f:=63) rfl ?_);refine gl (some 13) Tryz.func63 #[.int .i64 x3_1] ?_;(with_reducible refine (rzMnemonic.calls _ _ _ A5.out).mono ?_);rintro e w8 ⟨rfl,hb⟩;refine ⟨_,rfl,?_⟩;replace HB:=Aside0.mk (below_step blw hb);clear hb))
       go_roundg kj1
       case measure=>have:=HK1.out;have:=HJ1.out;omega
       case rel=>exact ⟨(wrap64 (x3_1+1)),rsd,H',⟨by have:=HK1.out;have:=HJ1.out;omega⟩,⟨blw⟩⟩
     ·replace c4:=Bool.eq_false_iff.mpr c4;subst c4;rw [if_neg (show ¬ (false=true) by decide)] at H;obtain rfl:=Option.some.inj H;go_wp2;go_ret;exact ⟨rew,blw⟩
def rzisLetter.f (a0:Int):Option (Bool):=if a0≥65 then (if a0≤90 then (some true) else (if a0≥97 then (if a0≤122 then (some true) else (some (a0 == 95))) else (some (a0 == 95)))) else (if a0≥97 then (if a0≤122 then (some true) else (some (a0 == 95))) else (some (a0 == 95)))
theorem rzisLetter.calls (a0:Int) (r:Bool) (w:World) (h:rzisLetter.f a0=some r) :
  Calls Tryz.prog 134 #[.int .u8 a0] w fun e w'=>e=.returned (.bool r)∧Drawn0 w w':=by
 unfold rzisLetter.f at h;have H:=h;clear h;by_cases c2:a0≥65
 ·rw [if_pos c2] at H;have c2b0:decide (65≤a0)=true:=decide_eq_true c2;clear c2;by_cases c3:a0≤90
  ·rw [if_pos c3] at H;have c3b0:=decide_eq_true c3;clear c3;obtain rfl:=Option.some.inj H;go_enter Tryz.func134,Tryz.ntmps134
   go_wp2;go_ret;exact ⟨by first | rfl | (simp;done) | (simp [*];done),by repeat (first | exact Drawn0.refl _ | apply Drawn0.step)⟩
  ·rw [if_neg c3] at H;have c3b0:=decide_eq_false c3;clear c3;by_cases c4:a0≥97
   ·rw [if_pos c4] at H;have c4b0:decide (97≤a0)=true:=decide_eq_true c4;clear c4;by_cases c5:a0≤122
    ·rw [if_pos c5] at H;have c5b0:=decide_eq_true c5;clear c5;obtain rfl:=Option.some.inj H;go_enter Tryz.func134,Tryz.ntmps134
     go_wp2;go_ret;exact ⟨by first | rfl | (simp;done) | (simp [*];done),by repeat (first | exact Drawn0.refl _ | apply Drawn0.step)⟩
    ·rw [if_neg c5] at H;have c5b0:=decide_eq_false c5;clear c5;obtain rfl:=Option.some.inj H;go_enter Tryz.func134,Tryz.ntmps134
     go_wp2;go_ret;exact ⟨by first | rfl | (simp;done) | (simp [*];done),by repeat (first | exact Drawn0.refl _ | apply Drawn0.step)⟩
   ·rw [if_neg c4] at H;have c4b0:decide (97≤a0)=false:=decide_eq_false c4;clear c4;obtain rfl:=Option.some.inj H;go_enter Tryz.func134,Tryz.ntmps134
    go_wp2;go_ret;exact ⟨by first | rfl | (simp;done) | (simp [*];done),by repeat (first | exact Drawn0.refl _ | apply Drawn0.step)⟩
 ·rw [if_neg c2] at H;have c2b0:decide (65≤a0)=false:=decide_eq_false c2;clear c2;by_cases c6:a0≥97
  ·rw [if_pos c6] at H;have c6b0:decide (97≤a0)=true:=decide_eq_true c6;clear c6;by_cases c7:a0≤122
   ·rw [if_pos c7] at H;have c7b0:=decide_eq_true c7;clear c7;obtain rfl:=Option.some.inj H;go_enter Tryz.func134,Tryz.ntmps134
    go_wp2;go_ret;exact ⟨by first | rfl | (simp;done) | (simp [*];done),by repeat (first | exact Drawn0.refl _ | apply Drawn0.step)⟩
   ·rw [if_neg c7] at H;have c7b0:=decide_eq_false c7;clear c7;obtain rfl:=Option.some.inj H;go_enter Tryz.func134,Tryz.ntmps134
    go_wp2;go_ret;exact ⟨by first | rfl | (simp;done) | (simp [*];done),by repeat (first | exact Drawn0.refl _ | apply Drawn0.step)⟩
  ·rw [if_neg c6] at H;have c6b0:decide (97≤a0)=false:=decide_eq_false c6;clear c6;obtain rfl:=Option.some.inj H;go_enter Tryz.func134,Tryz.ntmps134
   go_wp2;go_ret;exact ⟨by first | rfl | (simp;done) | (simp [*];done),by repeat (first | exact Drawn0.refl _ | apply Drawn0.step)⟩
def rzreader_word.l0:Nat→Int→ByteArray→Int→Bool→Bool→Bool→ByteArray→Option (ByteArray × ByteArray × Int × Bool × Bool × Bool × ByteArray)
 | 0,_,_,_,_,_,_,_=>none
 | k+1,x3,x1000,x1001,x1002,x1003,x1004,x1005=>if x1001 < (x1000.size:Int) then (if 0≤x1001 then ((rzisLetter.f (bt x1000 x1001)).bind fun t467=>(if t467=true then (rzreader_word.l0 k x3 x1000 (wrap64 (x1001+1)) x1002 x1003 x1004 x1005) else (if (bt x1000 x1001)≥48 then (if (bt x1000 x1001)≤57 then (rzreader_word.l0 k x3 x1000 (wrap64 (x1001+1)) x1002 x1003 x1004 x1005) else (if 0≤x3 then (if x3≤x1001 then (if x1001≤(x1000.size:Int) then (some (x1000.extract (x3:Int).toNat (x1001:Int).toNat,x1000,x1001,x1002,x1003,x1004,x1005)) else (none)) else (none)) else (none))) else (if 0≤x3 then (if x3≤x1001 then (if x1001≤(x1000.size:Int) then (some (x1000.extract (x3:Int).toNat (x1001:Int).toNat,x1000,x1001,x1002,x1003,x1004,x1005)) else (none)) else (none)) else (none))))) else (none)) else (if 0≤x3 then (if x3≤x1001 then (if x1001≤(x1000.size:Int) then (some (x1000.extract (x3:Int).toNat (x1001:Int).toNat,x1000,x1001,x1002,x1003,x1004,x1005)) else (none)) else (none)) else (none))
def rzreader_word.f (k:Nat) (s0_0:ByteArray) (s0_1:Int) (s0_2:Bool) (s0_3:Bool) (s0_4:Bool) (s0_5:ByteArray):Option (ByteArray × ByteArray × Int × Bool × Bool × Bool × ByteArray):=rzreader_word.l0 k s0_1 s0_0 s0_1 s0_2 s0_3 s0_4 s0_5
theorem rzreader_word.calls (k:Nat) (g:Nat) (s0_0:ByteArray) (s0_1:Int) (s0_2:Bool) (s0_3:Bool) (s0_4:Bool) (s0_5:ByteArray) (r1:ByteArray) (r2:ByteArray) (r3:Int) (r4:Bool) (r5:Bool) (r6:Bool) (r7:ByteArray) (w0 w:World) (hI:IsS117 w0 w g s0_0 s0_1 s0_2 s0_3 s0_4 s0_5) (hB:Below w0.heap.size w0 w) (h:rzreader_word.f k s0_0 s0_1 s0_2 s0_3 s0_4 s0_5=some (r1,r2,r3,r4,r5,r6,r7)) :
  Calls Tryz.prog 106 #[.pointer (some ⟨g,0,none⟩)] w fun e w'=>e=.returned (.string r1)∧IsS117 w0 w' g r2 r3 r4 r5 r6 r7∧Below w0.heap.size w0 w'∧KeepBut w w' g none:=by
 have HI0:=Aside0.mk hI;have HK:=Aside0.mk (KeepBut.refl w g none);have HL:=Aside0.mk hB.size;clear hI;have HW0:=Aside0.mk hB.size;have HB:=Aside0.mk hB;clear hB;unfold rzreader_word.f at h;have H:=h;clear h;have H':=Aside0.mk H;clear H;obtain ⟨hcz2_0,hcz2_1,hcz2_2,hcz2_3,hcz2_4,hcz2_5,hfz2_0,hfz2_1,hfz2_2,hfz2_3,hfz2_4,hfz2_5⟩:=HI0.out.all;go_enter Tryz.func106,Tryz.ntmps106
 go_wp2;repeat (go_quiet (fail);try go_wp2)
 try simp only [Act.put,List.setIfInBounds_toArray,List.set_cons_zero,List.set_cons_succ]
 go_loopg [] k (fun kq w'=>∃ (x1001_1:Int),Aside0 (rzreader_word.l0 kq s0_1 s0_0 x1001_1 s0_2 s0_3 s0_4 s0_5=some (r1,r2,r3,r4,r5,r6,r7))∧Aside0 (kq≤k)∧Aside0 (IsS117 w0 w' g s0_0 x1001_1 s0_2 s0_3 s0_4 s0_5)∧Aside0 (KeepBut w w' g none)∧Aside0 (Below w0.heap.size w0 w'))
 case atStart=>exact ⟨(s0_1),H',⟨Nat.le_refl _⟩,⟨ix⟩,⟨kx⟩,⟨bx⟩⟩
 case round =>
  clear H';try clear hcz2_0
  try clear hcz2_1
  try clear hcz2_2
  try clear hcz2_3
  try clear hcz2_4
  try clear hcz2_5
  try clear hfz2_0
  try clear hfz2_1
  try clear hfz2_2
  try clear hfz2_3
  try clear hfz2_4
  try clear hfz2_5
  obtain ⟨x1001_1,HA,HK1,HI0,HK,HB⟩:=hrel;cases gk with
  | zero=>exact absurd HA.out (by simp [rzreader_word.l0])
  | succ k1 =>
   have H:=HA.out;clear HA;simp only [rzreader_word.l0] at H;by_cases c3:x1001_1 < (s0_0.size:Int)
   ·rw [if_pos c3] at H;have c3b0:=decide_eq_true c3;clear c3;by_cases c4:0≤x1001_1
    ·rw [if_pos c4] at H;have c4b0:=decide_eq_true c4;clear c4;obtain ⟨t467,A6,H⟩:=bas H;(try dsimp only at H);by_cases c7:t467=true
     ·subst c7;rw [if_pos rfl] at H;have H':=Aside0.mk H;clear H;obtain ⟨_,_,_,_,_,_,_,_,_,_,_,_⟩:=HI0.out.all;have p5:0≤(x1001_1:Int):=of_decide_eq_true asm;have q5:x1001_1 < (s0_0.size:Int):=of_decide_eq_true asm;have hx5:=bt_at s0_0 x1001_1;replace p5:=eq_true p5;replace q5:=eq_true q5;go_wp2_with (first | (go_at_call 134;(with_reducible refine (rzisLetter.calls (bt s0_0 x1001_1) true _ A6.out).mono ?_);rintro e w' ⟨rfl,⟨nd,rfl⟩⟩;(try first | exact ⟨rfl,_,World.drewN_drewN _ _ _⟩ | exact ⟨rfl,_,Eq.trans (World.drewN_drewN _ _ _) (congrArg (World.drewN _) (Nat.add_assoc _ _ _))⟩)))
      repeat (go_quiet (first | (go_at_call 134;(with_reducible refine (rzisLetter.calls (bt s0_0 x1001_1) true _ A6.out).mono ?_);rintro e w' ⟨rfl,⟨nd,rfl⟩⟩;(try first | exact ⟨rfl,_,World.drewN_drewN _ _ _⟩ | exact ⟨rfl,_,Eq.trans (World.drewN_drewN _ _ _) (congrArg (World.drewN _) (Nat.add_assoc _ _ _))⟩)));try go_wp2_with (first | (go_at_call 134;(with_reducible refine (rzisLetter.calls (bt s0_0 x1001_1) true _ A6.out).mono ?_);rintro e w' ⟨rfl,⟨nd,rfl⟩⟩;(try first | exact ⟨rfl,_,World.drewN_drewN _ _ _⟩ | exact ⟨rfl,_,Eq.trans (World.drewN_drewN _ _ _) (congrArg (World.drewN _) (Nat.add_assoc _ _ _))⟩))))
      go_roundg k1
      case measure=>have:=HK1.out;omega
      case rel=>exact ⟨(wrap64 (x1001_1+1)),H',⟨by have:=HK1.out;omega⟩,⟨ix⟩,⟨kx⟩,⟨bx⟩⟩
     ·replace c7:=Bool.eq_false_iff.mpr c7;subst c7;rw [if_neg (show ¬ (false=true) by decide)] at H;by_cases c10:(bt s0_0 x1001_1)≥48
      ·rw [if_pos c10] at H;have c10b0:decide (48≤(bt s0_0 x1001_1))=true:=decide_eq_true c10;clear c10;by_cases c12:(bt s0_0 x1001_1)≤57
       ·rw [if_pos c12] at H;have c12b0:=decide_eq_true c12;clear c12;have H':=Aside0.mk H;clear H;obtain ⟨_,_,_,_,_,_,_,_,_,_,_,_⟩:=HI0.out.all;have p5:0≤(x1001_1:Int):=of_decide_eq_true asm;have q5:x1001_1 < (s0_0.size:Int):=of_decide_eq_true asm;have hx5:=bt_at s0_0 x1001_1;replace p5:=eq_true p5;replace q5:=eq_true q5;go_wp2_with (first | (go_at_call 134;(with_reducible refine (rzisLetter.calls (bt s0_0 x1001_1) false _ A6.out).mono ?_);rintro e w' ⟨rfl,⟨nd,rfl⟩⟩;(try first | exact ⟨rfl,_,World.drewN_drewN _ _ _⟩ | exact ⟨rfl,_,Eq.trans (World.drewN_drewN _ _ _) (congrArg (World.drewN _) (Nat.add_assoc _ _ _))⟩)))
        repeat (go_quiet (first | (go_at_call 134;(with_reducible refine (rzisLetter.calls (bt s0_0 x1001_1) false _ A6.out).mono ?_);rintro e w' ⟨rfl,⟨nd,rfl⟩⟩;(try first | exact ⟨rfl,_,World.drewN_drewN _ _ _⟩ | exact ⟨rfl,_,Eq.trans (World.drewN_drewN _ _ _) (congrArg (World.drewN _) (Nat.add_assoc _ _ _))⟩)));try go_wp2_with (first | (go_at_call 134;(with_reducible refine (rzisLetter.calls (bt s0_0 x1001_1) false _ A6.out).mono ?_);rintro e w' ⟨rfl,⟨nd,rfl⟩⟩;(try first | exact ⟨rfl,_,World.drewN_drewN _ _ _⟩ | exact ⟨rfl,_,Eq.trans (World.drewN_drewN _ _ _) (congrArg (World.drewN _) (Nat.add_assoc _ _ _))⟩))))
        go_roundg k1
        case measure=>have:=HK1.out;omega
        case rel=>exact ⟨(wrap64 (x1001_1+1)),H',⟨by have:=HK1.out;omega⟩,⟨ix⟩,⟨kx⟩,⟨bx⟩⟩
       ·rw [if_neg c12] at H;have c12b0:=decide_eq_false c12;clear c12;by_cases c14:0≤s0_1
        ·rw [if_pos c14] at H;have c14b0:=eq_true c14;have c14b1:=decide_eq_true c14;clear c14;by_cases c15:s0_1≤x1001_1
         ·rw [if_pos c15] at H;have c15b0:=eq_true c15;have c15b1:=decide_eq_true c15;clear c15;by_cases c16:x1001_1≤(s0_0.size:Int)
          ·rw [if_pos c16] at H;have c16b0:=eq_true c16;have c16b1:=decide_eq_true c16;clear c16;simp only [Option.some.injEq,Prod.mk.injEq] at H;obtain ⟨rfl,rfl,rfl,rfl,rfl,rfl,rfl⟩:=H;obtain ⟨_,_,_,_,_,_,_,_,_,_,_,_⟩:=HI0.out.all;have p5:0≤(x1001_1:Int):=of_decide_eq_true asm;have q5:x1001_1 < (s0_0.size:Int):=of_decide_eq_true asm;have hx5:=bt_at s0_0 x1001_1;replace p5:=eq_true p5;replace q5:=eq_true q5;go_wp2_with (first | (go_at_call 134;(with_reducible refine (rzisLetter.calls (bt s0_0 x1001_1) false _ A6.out).mono ?_);rintro e w' ⟨rfl,⟨nd,rfl⟩⟩;(try first | exact ⟨rfl,_,World.drewN_drewN _ _ _⟩ | exact ⟨rfl,_,Eq.trans (World.drewN_drewN _ _ _) (congrArg (World.drewN _) (Nat.add_assoc _ _ _))⟩)))
           repeat (go_quiet (first | (go_at_call 134;(with_reducible refine (rzisLetter.calls (bt s0_0 x1001_1) false _ A6.out).mono ?_);rintro e w' ⟨rfl,⟨nd,rfl⟩⟩;(try first | exact ⟨rfl,_,World.drewN_drewN _ _ _⟩ | exact ⟨rfl,_,Eq.trans (World.drewN_drewN _ _ _) (congrArg (World.drewN _) (Nat.add_assoc _ _ _))⟩)));try go_wp2_with (first | (go_at_call 134;(with_reducible refine (rzisLetter.calls (bt s0_0 x1001_1) false _ A6.out).mono ?_);rintro e w' ⟨rfl,⟨nd,rfl⟩⟩;(try first | exact ⟨rfl,_,World.drewN_drewN _ _ _⟩ | exact ⟨rfl,_,Eq.trans (World.drewN_drewN _ _ _) (congrArg (World.drewN _) (Nat.add_assoc _ _ _))⟩))))
           go_ret;exact ⟨rew,ix,bx,kx⟩
          ·rw [if_neg c16] at H;exact absurd H (by simp)
         ·rw [if_neg c15] at H;exact absurd H (by simp)
        ·rw [if_neg c14] at H;exact absurd H (by simp)
      ·rw [if_neg c10] at H;have c10b0:decide (48≤(bt s0_0 x1001_1))=false:=decide_eq_false c10;clear c10;by_cases c18:0≤s0_1
       ·rw [if_pos c18] at H;have c18b0:=eq_true c18;have c18b1:=decide_eq_true c18;clear c18;by_cases c19:s0_1≤x1001_1
        ·rw [if_pos c19] at H;have c19b0:=eq_true c19;have c19b1:=decide_eq_true c19;clear c19;by_cases c20:x1001_1≤(s0_0.size:Int)
         ·rw [if_pos c20] at H;have c20b0:=eq_true c20;have c20b1:=decide_eq_true c20;clear c20;simp only [Option.some.injEq,Prod.mk.injEq] at H;obtain ⟨rfl,rfl,rfl,rfl,rfl,rfl,rfl⟩:=H;obtain ⟨_,_,_,_,_,_,_,_,_,_,_,_⟩:=HI0.out.all;have p5:0≤(x1001_1:Int):=of_decide_eq_true asm;have q5:x1001_1 < (s0_0.size:Int):=of_decide_eq_true asm;have hx5:=bt_at s0_0 x1001_1;replace p5:=eq_true p5;replace q5:=eq_true q5;go_wp2_with (first | (go_at_call 134;(with_reducible refine (rzisLetter.calls (bt s0_0 x1001_1) false _ A6.out).mono ?_);rintro e w' ⟨rfl,⟨nd,rfl⟩⟩;(try first | exact ⟨rfl,_,World.drewN_drewN _ _ _⟩ | exact ⟨rfl,_,Eq.trans (World.drewN_drewN _ _ _) (congrArg (World.drewN _) (Nat.add_assoc _ _ _))⟩)))
          repeat (go_quiet (first | (go_at_call 134;(with_reducible refine (rzisLetter.calls (bt s0_0 x1001_1) false _ A6.out).mono ?_);rintro e w' ⟨rfl,⟨nd,rfl⟩⟩;(try first | exact ⟨rfl,_,World.drewN_drewN _ _ _⟩ | exact ⟨rfl,_,Eq.trans (World.drewN_drewN _ _ _) (congrArg (World.drewN _) (Nat.add_assoc _ _ _))⟩)));try go_wp2_with (first | (go_at_call 134;(with_reducible refine (rzisLetter.calls (bt s0_0 x1001_1) false _ A6.out).mono ?_);rintro e w' ⟨rfl,⟨nd,rfl⟩⟩;(try first | exact ⟨rfl,_,World.drewN_drewN _ _ _⟩ | exact ⟨rfl,_,Eq.trans (World.drewN_drewN _ _ _) (congrArg (World.drewN _) (Nat.add_assoc _ _ _))⟩))))
          go_ret;exact ⟨rew,ix,bx,kx⟩
         ·rw [if_neg c20] at H;exact absurd H (by simp)
        ·rw [if_neg c19] at H;exact absurd H (by simp)
       ·rw [if_neg c18] at H;exact absurd H (by simp)
    ·rw [if_neg c4] at H;exact absurd H (by simp)
   ·rw [if_neg c3] at H;have c3b0:=decide_eq_false c3;clear c3;by_cases c22:0≤s0_1
    ·rw [if_pos c22] at H;have c22b0:=eq_true c22;have c22b1:=decide_eq_true c22;clear c22;by_cases c23:s0_1≤x1001_1
     ·rw [if_pos c23] at H;have c23b0:=eq_true c23;have c23b1:=decide_eq_true c23;clear c23;by_cases c24:x1001_1≤(s0_0.size:Int)
      ·rw [if_pos c24] at H;have c24b0:=eq_true c24;have c24b1:=decide_eq_true c24;clear c24;simp only [Option.some.injEq,Prod.mk.injEq] at H;obtain ⟨rfl,rfl,rfl,rfl,rfl,rfl,rfl⟩:=H;obtain ⟨_,_,_,_,_,_,_,_,_,_,_,_⟩:=HI0.out.all;go_wp2;repeat (go_quiet (fail);try go_wp2)
       go_ret;exact ⟨rew,ix,bx,kx⟩
      ·rw [if_neg c24] at H;exact absurd H (by simp)
     ·rw [if_neg c23] at H;exact absurd H (by simp)
    ·rw [if_neg c22] at H;exact absurd H (by simp)
def rzreader_must.f (s0_0:ByteArray) (s0_1:Int) (s0_2:Bool) (s0_3:Bool) (s0_4:Bool) (s0_5:ByteArray) (a1:Bool):Option (ByteArray × Int × Bool × Bool × Bool × ByteArray):=if s0_2=true then (some (s0_0,s0_1,true,s0_3,s0_4,s0_5)) else (some (s0_0,s0_1,!a1,s0_3,s0_4,s0_5))
theorem rzreader_must.calls (g:Nat) (s0_0:ByteArray) (s0_1:Int) (s0_2:Bool) (s0_3:Bool) (s0_4:Bool) (s0_5:ByteArray) (a1:Bool) (r1:ByteArray) (r2:Int) (r3:Bool) (r4:Bool) (r5:Bool) (r6:ByteArray) (w0 w:World) (hI:IsS117 w0 w g s0_0 s0_1 s0_2 s0_3 s0_4 s0_5) (hB:Below w0.heap.size w0 w) (h:rzreader_must.f s0_0 s0_1 s0_2 s0_3 s0_4 s0_5 a1=some (r1,r2,r3,r4,r5,r6)) :
  Calls Tryz.prog 107 #[.pointer (some ⟨g,0,none⟩),.bool a1] w fun e w'=>e=.returned (.tuple #[])∧IsS117 w0 w' g r1 r2 r3 r4 r5 r6∧Below w0.heap.size w0 w'∧KeepBut w w' g none:=by
 have HI0:=Aside0.mk hI;have HK:=Aside0.mk (KeepBut.refl w g none);have HL:=Aside0.mk hB.size;clear hI;have HW0:=Aside0.mk hB.size;have HB:=Aside0.mk hB;clear hB;unfold rzreader_must.f at h;have H:=h;clear h;by_cases c3:s0_2=true
 ·subst c3;rw [if_pos rfl] at H;simp only [Option.some.injEq,Prod.mk.injEq] at H;obtain ⟨rfl,rfl,rfl,rfl,rfl,rfl⟩:=H;obtain ⟨_,_,_,_,_,_,_,_,_,_,_,_⟩:=HI0.out.all;go_enter Tryz.func107,Tryz.ntmps107
  go_wp2;first | go_end0 | ((try simp only [Exit.inBlock,Exit.then]);refine bodyPost_ret (results_none rfl _ _ _) rfl ?_)
  exact ⟨rew,ix,bx,kx⟩
 ·replace c3:=Bool.eq_false_iff.mpr c3;subst c3;rw [if_neg (show ¬ (false=true) by decide)] at H;simp only [Option.some.injEq,Prod.mk.injEq] at H;obtain ⟨rfl,rfl,rfl,rfl,rfl,rfl⟩:=H;obtain ⟨_,_,_,_,_,_,_,_,_,_,_,_⟩:=HI0.out.all;go_enter Tryz.func107,Tryz.ntmps107
  go_wp2;first | go_end0 | ((try simp only [Exit.inBlock,Exit.then]);refine bodyPost_ret (results_none rfl _ _ _) rfl ?_)
  exact ⟨rew,ix,bx,kx⟩
end Go.Proofs.YtffojmgmpfjlhaaGreatDoor.Q
