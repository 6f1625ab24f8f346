/- Parts of the proof: see the last text -/
import Derived.Test.YtffojmgmpfjlhaaGreatDoorInsS11
set_option maxHeartbeats 8000000
set_option maxRecDepth 100000
set_option linter.unusedVariables false
set_option linter.unusedSimpArgs false
namespace Go.Proofs.YtffojmgmpfjlhaaGreatDoor
open Go.RowKit Go.Proofs.Ix YtffojmgmpfjlhaaGreatDoorW.PrintWords
theorem enters69:∀ args w,(callFunc 69 args).run Tryz.prog w=.ok (.enter 69 args) w:=enters_of Tryz.func69 (by kernel_rfl) rfl
section
variable {b:Nat} {w:World} {l:L9}
theorem At.fresh (ha:At b w w l) (o:Obj):At b (w.alloc o) (w.alloc o) l :=
 ⟨ha.ln.below ((Below.refl _ _).alloc (Nat.le_refl _) _) ha.ln.lt,Aft.refl _ _,ha.gw.alloc _,ha.b9,ha.sz,ha.le⟩
theorem Aft.wrap {b:Nat} {w w1 w2:World} {o:Obj} (hb:b < w.heap.size) (h1:Aft b (w.alloc o) w1) (h2:Aft w.heap.size w1 w2):Aft b w w2∧w2.heap[b]?=w1.heap[b]?:=by
 have hz:(w.alloc o).heap.size=w.heap.size+1:=World.size_alloc ..
 have hs:=h1.size
 have hz2:=h2.size
 rw [hz] at hs
 refine ⟨⟨h2.os.trans h1.os,h2.tape.trans h1.tape,h2.output.trans h1.output,by omega,fun k hk hkb=>?_⟩,h2.block b (by omega) (by omega)⟩
 rw [h2.block k (by omega) (by omega),h1.block k (by rw [hz];omega) hkb,Below.heap_alloc _ _ _ hk]
theorem gparse_s (ha:At b w w l) (l':L9) (hr:l.instr=some l') :
  Calls Tryz.prog 68 #[.func (.func 69) #[pt b] #[]] w fun x w'=>x=.returned (.int .i64 0)∧At b w w' l':=by
 refine (guarded_any 69 #[pt b] #[] w (fun c w'=>c=0∧At b (w.alloc (.cells #[.int .i64 0] 26)) w' l') enters69 ?_).mono ?_
 ·refine (instruction_any b _ _ l (ha.fresh _)).mono ?_
  rw [hr]
  rintro x w' ⟨rfl,h⟩
  exact ⟨0,.inl ⟨rfl,rfl⟩,(h.aft.block _ (by simp) (by have:=ha.ln.lt;omega)).trans (heap_own _ _),rfl,h⟩
 ·rintro x w'' ⟨c,w',rfl,⟨rfl,h⟩,h2⟩
  obtain ⟨h3,h4⟩:=Aft.wrap ha.ln.lt h.aft h2
  exact ⟨rfl,h4.trans h.ln,h3,h3.gw ha.gw ha.b9,ha.b9,h.sz,h.le⟩
theorem gparse_n (ha:At b w w l) (hr:l.instr=none) :
  Calls Tryz.prog 68 #[.func (.func 69) #[pt b] #[]] w fun x w'=>x=.returned (.int .i64 22)∧Aft b w w':=by
 refine (guarded_any 69 #[pt b] #[] w (fun c w'=>c=22∧Aft b (w.alloc (.cells #[.int .i64 0] 26)) w') enters69 ?_).mono ?_
 ·refine (instruction_any b _ _ l (ha.fresh _)).mono ?_
  rw [hr]
  rintro x w' ⟨rfl,h⟩
  exact ⟨22,.inr rfl,(h.block _ (by simp) (by have:=ha.ln.lt;omega)).trans (heap_own _ _),rfl,h⟩
 ·rintro x w'' ⟨c,w',rfl,⟨rfl,h⟩,h2⟩
  exact ⟨rfl,(Aft.wrap ha.ln.lt h h2).1⟩
end
def L9.new (s:ByteArray) (labels:Bool):L9:=⟨s,0,labels,0,0,0,0,⟨#[]⟩,false⟩
def parseR (s:ByteArray):Int × Int × Int × Int × Int :=
 if 20000 < s.size then (0,0,0,0,2)
 else match (L9.new s false).instr with
  | none=>(0,0,0,0,22)
  | some l=>if l.far=true then (0,0,0,0,24) else (l.op,l.a,l.b,l.imm,0)
def ParseOut (w:World) (r:Int × Int × Int × Int × Int) (e:Ending) (w':World):Prop :=
 e=.returned (.tuple #[.agg #[.int .i64 r.1,.int .i64 r.2.1,.int .i64 r.2.2.1,.int .i64 r.2.2.2.1],.int .i64 r.2.2.2.2])∧Below w.heap.size w w'
abbrev z4:Array Value:=#[.int .i64 0,.int .i64 0,.int .i64 0,.int .i64 0]
theorem z4_cells {w:World} {g:Nat} (h:w.heap[g]?=some (Obj.cells #[.int .i64 0,.int .i64 0,.int .i64 0,.int .i64 0] 23 (0,0))) :
  w.cell? ⟨g,0,none⟩=some (.int .i64 0)∧w.cell? ⟨g,1,none⟩=some (.int .i64 0)∧w.cell? ⟨g,2,none⟩=some (.int .i64 0)∧w.cell? ⟨g,3,none⟩=some (.int .i64 0) ∧
  w.frozen? ⟨g,0,none⟩=false∧w.frozen? ⟨g,1,none⟩=false∧w.frozen? ⟨g,2,none⟩=false∧w.frozen? ⟨g,3,none⟩=false :=
 ⟨(blk_cell h 0).trans rfl,(blk_cell h 1).trans rfl,(blk_cell h 2).trans rfl,(blk_cell h 3).trans rfl,blk_frozen h 0,blk_frozen h 1,blk_frozen h 2,blk_frozen h 3⟩
theorem four_put {w:World} {g:Nat} (h:w.heap[g]?=some (Obj.cells #[.int .i64 0,.int .i64 0,.int .i64 0,.int .i64 0] 23 (0,0))) (a b c d:Value) :
  ((((w.setCell ⟨g,0,none⟩ a).setCell ⟨g,1,none⟩ b).setCell ⟨g,2,none⟩ c).setCell ⟨g,3,none⟩ d).heap[g]?=some (Obj.cells #[a,b,c,d] 23 (0,0)) :=
 blk_put (blk_put (blk_put (blk_put h 0 a rfl) 1 b rfl) 2 c rfl) 3 d rfl
theorem four_below {w w1:World} {B g:Nat} (h:Below B w w1) (hg:B≤g) (a b c d:Value) :
  Below B w ((((w1.setCell ⟨g,0,none⟩ a).setCell ⟨g,1,none⟩ b).setCell ⟨g,2,none⟩ c).setCell ⟨g,3,none⟩ d) :=
 (((h.setCell hg a).setCell hg b).setCell hg c).setCell hg d
theorem parse_any (s:ByteArray) (w:World) (hg:GW w):Calls Tryz.prog 26 #[.string s] w (ParseOut w (parseR s)):=by
 unfold parseR
 by_cases hlong:20000 < s.size
 ·rw [if_pos hlong]
  have h1:(20000:Int) < (s.size:Int):=by omega
  go_enter Tryz.func26,Tryz.ntmps26
  go_wp2
  refine bodyPost_ret (results_ct rfl _ _ w.heap.size 23 _ (0,0) _ rfl (heap_own w _) Tryz.underlying23 rfl (by kernel_rfl)) rfl ?_
  exact ⟨rfl,(Below.refl _ _).alloc (Nat.le_refl _) _⟩
 ·rw [if_neg hlong]
  have h1:¬ (20000:Int) < (s.size:Int):=by omega
  have hz:((w.alloc (.cells #[.int .i64 0,.int .i64 0,.int .i64 0,.int .i64 0] 23)).alloc (.cells (L9.new s false).cs 113)).heap.size=w.heap.size+1+1:=by simp
  have hat:At (w.heap.size+1) ((w.alloc (.cells #[.int .i64 0,.int .i64 0,.int .i64 0,.int .i64 0] 23)).alloc (.cells (L9.new s false).cs 113)) ((w.alloc (.cells #[.int .i64 0,.int .i64 0,.int .i64 0,.int .i64 0] 23)).alloc (.cells (L9.new s false).cs 113)) (L9.new s false):=by
   refine (⟨?_,Aft.refl _ _,(hg.alloc (.cells #[.int .i64 0,.int .i64 0,.int .i64 0,.int .i64 0] 23)).alloc (.cells (L9.new s false).cs 113),by have:=hg.size;omega,by show s.size≤_;omega,Nat.zero_le _⟩:At (w.heap.size+1) ((w.alloc (.cells #[.int .i64 0,.int .i64 0,.int .i64 0,.int .i64 0] 23)).alloc (.cells (L9.new s false).cs 113)) _ (L9.new s false))
   have:=heap_own (w.alloc (.cells #[.int .i64 0,.int .i64 0,.int .i64 0,.int .i64 0] 23)) (.cells (L9.new s false).cs 113)
   rw [World.size_alloc] at this
   exact this
  have hq0:((w.alloc (.cells #[.int .i64 0,.int .i64 0,.int .i64 0,.int .i64 0] 23)).alloc (.cells (L9.new s false).cs 113)).heap[w.heap.size]?=some (Obj.cells #[.int .i64 0,.int .i64 0,.int .i64 0,.int .i64 0] 23 (0,0)) :=
   (Below.heap_alloc _ _ _ (by simp)).trans (heap_own w _)
  have hbw:Below w.heap.size w ((w.alloc (.cells #[.int .i64 0,.int .i64 0,.int .i64 0,.int .i64 0] 23)).alloc (.cells (L9.new s false).cs 113)):=((Below.refl _ _).alloc (Nat.le_refl _) _).alloc (by simp) _
  cases hr:(L9.new s false).instr with
  | none =>
   have HR:=Lib.hid hr
   clear hr
   go_enter Tryz.func26,Tryz.ntmps26
   go_wp2_with (go_at_call 68;refine (gparse_n (by exact hat) HR.out).mono ?_;rintro e w3 ⟨rfl,ha3⟩;have hq:=(ha3.block w.heap.size (by simp;omega) (by omega)).trans hq0;obtain ⟨q0,q1,q2,q3,f0,f1,f2,f3⟩:=z4_cells hq)
   refine bodyPost_ret (results_ct rfl _ _ w.heap.size 23 _ (0,0) _ rfl (four_put hq _ _ _ _) Tryz.underlying23 rfl (by kernel_rfl)) rfl ?_
   exact ⟨rfl,four_below (hbw.trans (ha3.toBelow (by omega) (by simp;omega))) (Nat.le_refl _) _ _ _ _⟩
  | some l' =>
   have HR:=Lib.hid hr
   clear hr
   cases hf:l'.far with
   | true =>
    go_enter Tryz.func26,Tryz.ntmps26
    go_wp2_with (go_at_call 68;refine (gparse_s (by exact hat) l' HR.out).mono ?_;rintro e w3 ⟨rfl,ha3⟩;have g8:=ha3.ln.c8;rw [hf] at g8;have hq:=(ha3.aft.block w.heap.size (by simp;omega) (by omega)).trans hq0;obtain ⟨q0,q1,q2,q3,f0,f1,f2,f3⟩:=z4_cells hq)
    refine bodyPost_ret (results_ct rfl _ _ w.heap.size 23 _ (0,0) _ rfl (four_put hq _ _ _ _) Tryz.underlying23 rfl (by kernel_rfl)) rfl ?_
    exact ⟨rfl,four_below (hbw.trans (ha3.aft.toBelow (by omega) (by simp;omega))) (Nat.le_refl _) _ _ _ _⟩
   | false =>
    go_enter Tryz.func26,Tryz.ntmps26
    go_wp2_with (go_at_call 68;refine (gparse_s (by exact hat) l' HR.out).mono ?_;rintro e w3 ⟨rfl,ha3⟩;have g8:=ha3.ln.c8;rw [hf] at g8;have g3:=ha3.ln.c3;have g4:=ha3.ln.c4;have g5:=ha3.ln.c5;have g6:=ha3.ln.c6;have hq:=(ha3.aft.block w.heap.size (by simp;omega) (by omega)).trans hq0;obtain ⟨q0,q1,q2,q3,f0,f1,f2,f3⟩:=z4_cells hq)
    all_goals
     refine bodyPost_ret (results_ct rfl _ _ w.heap.size 23 _ (0,0) _ rfl (four_put hq _ _ _ _) Tryz.underlying23 rfl (by kernel_rfl)) rfl ?_
     exact ⟨rfl,four_below (hbw.trans (ha3.aft.toBelow (by omega) (by simp;omega))) (Nat.le_refl _) _ _ _ _⟩
end Go.Proofs.YtffojmgmpfjlhaaGreatDoor
namespace Go.Proofs.YtffojmgmpfjlhaaGreatDoor.Q
open Go.RowKit Go.Proofs.YtffojmgmpfjlhaaGreatDoor Go.Proofs.Ix
def insn_Parse.f (a0:ByteArray):Option (Int × Int × Int × Int × Int):=some (parseR a0)
theorem insn_Parse.calls (a0:ByteArray) (r1 r2 r3 r4 r5:Int) (w:World) (h:insn_Parse.f a0=some (r1,r2,r3,r4,r5)) (hgw:GW w) :
  Calls Tryz.prog 26 #[.string a0] w fun e w'=>e=.returned (.tuple #[.agg #[.int .i64 r1,.int .i64 r2,.int .i64 r3,.int .i64 r4],.int .i64 r5])∧Below w.heap.size w w':=by
 have h1:parseR a0=(r1,r2,r3,r4,r5):=Option.some.inj h
 refine (parse_any a0 w hgw).mono ?_
 rw [h1]
 rintro e w' ⟨h2,h3⟩
 exact ⟨h2,h3⟩
end Go.Proofs.YtffojmgmpfjlhaaGreatDoor.Q
