/- Parts of the proof that the program's token functions return what the specification's return. -/
import Derived.Test.YtadgddipkbdnbaaGreatDoorLexTokensZ1
import Derived.Test.YtadgddipkbdnbaaGreatDoorLexTokensZ2
import Derived.Test.YtadgddipkbdnbaaGreatDoorProg
import Derived.WalkKit
import Derived.Lib.Hide
import Derived.Lib.LaidTab
import Derived.Shelf.Strings.SplitShaped
import Derived.WalkSpells
import Derived.WalkLawsBesides
import Derived.Deep.LoopGhost
import Derived.BigQuiet
import Derived.Deep.QuietTactic
import Derived.Test.YtadgddipkbdnbaaGreatDoorRows
import Derived.ProofKit
import Derived.LaidMore
import Derived.LaidLaws
import Derived.OpenShut
import Derived.ChangeArms
import Derived.Stop.Joined
import Derived.HandedShaped
import Derived.Shelf.Vars
import Derived.Below
import Derived.Deep.Draws
import Derived.Deep.AppendLies
import Derived.Maps.AppendAt
import Derived.OwnWalk
import Derived.Laws.BytesArg
import Derived.Laws.MakeOwn
import Derived.Laws.OwnMore
import Derived.Deep.OwnRows
import Derived.Tactics
import Derived.Lib.ConvBytes
import Derived.Laws.Slices
import Derived.KernelRfl
import Derived.RowKit3
import Derived.WideLaws
import Derived.Deep.DeepCutAuto
import Derived.Deep.CutBlock
import Derived.Deep.RegionHeld3
import Derived.Laws.Rows
import Derived.Lib.AppendStr
import Derived.ArgAppend
import Derived.Laws.IdiomCopy
import Derived.OrdersHeld
import Derived.Laws.BitsLemmas
import Derived.RowKit
import Derived.Deep.Slices
import Derived.Deep.Fields
import Derived.ChangeSame
import Derived.Lib.SmallJoins
set_option linter.unusedVariables false
set_option linter.unusedSimpArgs false
namespace Go.Proofs.YtadgddipkbdnbaaGreatDoor
open Go.RowKit
def spansL:List (Int × Int × Int):=[(48,57,28),(97,102,26),(65,70,26),(103,122,18),(71,90,18),(95,95,18),(32,32,1),(9,10,1),(13,13,1),(58,58,16),(42,42,16),(63,63,16),(91,93,16),(94,94,16),(33,33,16),(45,46,16)]
def spansC:Array Value:=#[.int .u8 48,.int .u8 57,.int .i64 28,.int .u8 97,.int .u8 102,.int .i64 26,.int .u8 65,.int .u8 70,.int .i64 26,.int .u8 103,.int .u8 122,.int .i64 18,.int .u8 71,.int .u8 90,.int .i64 18,.int .u8 95,.int .u8 95,.int .i64 18,.int .u8 32,.int .u8 32,.int .i64 1,.int .u8 9,.int .u8 10,.int .i64 1,.int .u8 13,.int .u8 13,.int .i64 1,.int .u8 58,.int .u8 58,.int .i64 16,.int .u8 42,.int .u8 42,.int .i64 16,.int .u8 63,.int .u8 63,.int .i64 16,.int .u8 91,.int .u8 93,.int .i64 16,.int .u8 94,.int .u8 94,.int .i64 16,.int .u8 33,.int .u8 33,.int .i64 16,.int .u8 45,.int .u8 46,.int .i64 16]
structure GW (w:World):Prop where
 spans:∃ t fr,w.heap[3]?=some (.cells spansC t fr)
 tab:Lib.TabIs Tryz.prog w "strings.asciiSpace" .u8 Lib.asciiSpaceTab
 most:∃ m,w.cell? ⟨1,0,none⟩=some (.int .i64 m)
 syn:∃ te pe,w.cell? ⟨4,0,none⟩=some (.iface te pe)
 rng:∃ te pe,w.cell? ⟨5,0,none⟩=some (.iface te pe)
theorem glob0:Tryz.prog.globalNamed "strings.asciiSpace" = some 0:=by kernel_rfl
theorem GW.of_heap {w w':World} (h:GW w) (hb:∀ k,k < w.heap.size→w'.heap[k]?=w.heap[k]?):GW w':=by
 obtain ⟨⟨t,fr,e⟩,h0,⟨m,hm⟩,⟨t4,p4,h4⟩,⟨t5,p5,h5⟩⟩:=h
 have l3:3 < w.heap.size:=(Array.getElem?_eq_some_iff.1 e).1
 have l5:=World.block_lt_of_cell? w _ h5
 refine ⟨⟨t,fr,by rw [hb 3 (by omega)];exact e⟩,?_,⟨m,?_⟩,⟨t4,p4,?_⟩,⟨t5,p5,?_⟩⟩
 ·unfold Lib.TabIs World.var? at h0 ⊢
  rw [glob0] at h0 ⊢
  simp only [Option.bind_some] at h0 ⊢
  rw [hb 0 (by omega)];exact h0
 ·rw [← hm];exact World.cell?_of_block (w:=w) (hb 1 (by omega))
 ·rw [← h4];exact World.cell?_of_block (w:=w) (hb 4 (World.block_lt_of_cell? w _ h4))
 ·rw [← h5];exact World.cell?_of_block (w:=w) (hb 5 l5)
theorem GW.below {w w':World} {B:Nat} (h:GW w) (hb:Below B w w') (hB:w.heap.size≤B):GW w':=h.of_heap fun k hk=>hb.block k (by omega)
theorem GW.drew {w:World} (h:GW w):GW w.drew:=h.of_heap fun _ _=>rfl
theorem GW.drewN {w:World} (h:GW w) (n:Nat):GW (w.drewN n):=h.of_heap fun _ _=>rfl
theorem GW.alloc {w:World} (h:GW w) (o:Obj):GW (w.alloc o):=h.of_heap fun k hk=>Below.heap_alloc _ _ _ hk
theorem GW.setCell {w:World} (h:GW w) {a:Addr} (ha:10≤a.block) (v:Value):GW (w.setCell a v):=by
 obtain ⟨⟨t,fr,e⟩,h0,⟨m,hm⟩,⟨t4,p4,h4⟩,⟨t5,p5,h5⟩⟩:=h
 have hb:∀ k,k < 10→(w.setCell a v).heap[k]?=w.heap[k]?:=fun k hk=>Below.heap_setCell _ _ _ _ (by omega)
 refine ⟨⟨t,fr,by rw [hb 3 (by omega)];exact e⟩,?_,⟨m,?_⟩,⟨t4,p4,?_⟩,⟨t5,p5,?_⟩⟩
 ·unfold Lib.TabIs World.var? at h0 ⊢
  rw [glob0] at h0 ⊢
  simp only [Option.bind_some] at h0 ⊢
  rw [hb 0 (by omega)];exact h0
 ·rw [← hm];exact World.cell?_of_block (w:=w) (hb 1 (by omega))
 ·rw [← h4];exact World.cell?_of_block (w:=w) (hb 4 (by omega))
 ·rw [← h5];exact World.cell?_of_block (w:=w) (hb 5 (by omega))
theorem ret_int {k:IntKind} {a b:Int} (h:a=b):Ending.returned (.int k a)=.returned (.int k b):=by rw [h]
theorem ret_bool {a b:Bool} (h:a=b):Ending.returned (.bool a)=.returned (.bool b):=by rw [h]
def classIn (c:Int):List (Int × Int × Int)→Int
 | []=>0
 | x :: l=>if x.1≤c∧c≤x.2.1 then x.2.2 else classIn c l
def classB (c:Int):Int:=classIn c spansL
theorem spans_at0 (w:World):(Instr.index 147 (.agg spansC) (.int .i64 0)).run Tryz.prog w=.ok (.agg #[.int .u8 (spansL.getD 0 (0,0,0)).1,.int .u8 (spansL.getD 0 (0,0,0)).2.1,.int .i64 (spansL.getD 0 (0,0,0)).2.2]) w:=by kernel_rfl
theorem spans_at1 (w:World):(Instr.index 147 (.agg spansC) (.int .i64 1)).run Tryz.prog w=.ok (.agg #[.int .u8 (spansL.getD 1 (0,0,0)).1,.int .u8 (spansL.getD 1 (0,0,0)).2.1,.int .i64 (spansL.getD 1 (0,0,0)).2.2]) w:=by kernel_rfl
theorem spans_at2 (w:World):(Instr.index 147 (.agg spansC) (.int .i64 2)).run Tryz.prog w=.ok (.agg #[.int .u8 (spansL.getD 2 (0,0,0)).1,.int .u8 (spansL.getD 2 (0,0,0)).2.1,.int .i64 (spansL.getD 2 (0,0,0)).2.2]) w:=by kernel_rfl
theorem spans_at3 (w:World):(Instr.index 147 (.agg spansC) (.int .i64 3)).run Tryz.prog w=.ok (.agg #[.int .u8 (spansL.getD 3 (0,0,0)).1,.int .u8 (spansL.getD 3 (0,0,0)).2.1,.int .i64 (spansL.getD 3 (0,0,0)).2.2]) w:=by kernel_rfl
theorem spans_at4 (w:World):(Instr.index 147 (.agg spansC) (.int .i64 4)).run Tryz.prog w=.ok (.agg #[.int .u8 (spansL.getD 4 (0,0,0)).1,.int .u8 (spansL.getD 4 (0,0,0)).2.1,.int .i64 (spansL.getD 4 (0,0,0)).2.2]) w:=by kernel_rfl
theorem spans_at5 (w:World):(Instr.index 147 (.agg spansC) (.int .i64 5)).run Tryz.prog w=.ok (.agg #[.int .u8 (spansL.getD 5 (0,0,0)).1,.int .u8 (spansL.getD 5 (0,0,0)).2.1,.int .i64 (spansL.getD 5 (0,0,0)).2.2]) w:=by kernel_rfl
theorem spans_at6 (w:World):(Instr.index 147 (.agg spansC) (.int .i64 6)).run Tryz.prog w=.ok (.agg #[.int .u8 (spansL.getD 6 (0,0,0)).1,.int .u8 (spansL.getD 6 (0,0,0)).2.1,.int .i64 (spansL.getD 6 (0,0,0)).2.2]) w:=by kernel_rfl
theorem spans_at7 (w:World):(Instr.index 147 (.agg spansC) (.int .i64 7)).run Tryz.prog w=.ok (.agg #[.int .u8 (spansL.getD 7 (0,0,0)).1,.int .u8 (spansL.getD 7 (0,0,0)).2.1,.int .i64 (spansL.getD 7 (0,0,0)).2.2]) w:=by kernel_rfl
theorem spans_at8 (w:World):(Instr.index 147 (.agg spansC) (.int .i64 8)).run Tryz.prog w=.ok (.agg #[.int .u8 (spansL.getD 8 (0,0,0)).1,.int .u8 (spansL.getD 8 (0,0,0)).2.1,.int .i64 (spansL.getD 8 (0,0,0)).2.2]) w:=by kernel_rfl
theorem spans_at9 (w:World):(Instr.index 147 (.agg spansC) (.int .i64 9)).run Tryz.prog w=.ok (.agg #[.int .u8 (spansL.getD 9 (0,0,0)).1,.int .u8 (spansL.getD 9 (0,0,0)).2.1,.int .i64 (spansL.getD 9 (0,0,0)).2.2]) w:=by kernel_rfl
theorem spans_at10 (w:World):(Instr.index 147 (.agg spansC) (.int .i64 10)).run Tryz.prog w=.ok (.agg #[.int .u8 (spansL.getD 10 (0,0,0)).1,.int .u8 (spansL.getD 10 (0,0,0)).2.1,.int .i64 (spansL.getD 10 (0,0,0)).2.2]) w:=by kernel_rfl
theorem spans_at11 (w:World):(Instr.index 147 (.agg spansC) (.int .i64 11)).run Tryz.prog w=.ok (.agg #[.int .u8 (spansL.getD 11 (0,0,0)).1,.int .u8 (spansL.getD 11 (0,0,0)).2.1,.int .i64 (spansL.getD 11 (0,0,0)).2.2]) w:=by kernel_rfl
theorem spans_at12 (w:World):(Instr.index 147 (.agg spansC) (.int .i64 12)).run Tryz.prog w=.ok (.agg #[.int .u8 (spansL.getD 12 (0,0,0)).1,.int .u8 (spansL.getD 12 (0,0,0)).2.1,.int .i64 (spansL.getD 12 (0,0,0)).2.2]) w:=by kernel_rfl
theorem spans_at13 (w:World):(Instr.index 147 (.agg spansC) (.int .i64 13)).run Tryz.prog w=.ok (.agg #[.int .u8 (spansL.getD 13 (0,0,0)).1,.int .u8 (spansL.getD 13 (0,0,0)).2.1,.int .i64 (spansL.getD 13 (0,0,0)).2.2]) w:=by kernel_rfl
theorem spans_at14 (w:World):(Instr.index 147 (.agg spansC) (.int .i64 14)).run Tryz.prog w=.ok (.agg #[.int .u8 (spansL.getD 14 (0,0,0)).1,.int .u8 (spansL.getD 14 (0,0,0)).2.1,.int .i64 (spansL.getD 14 (0,0,0)).2.2]) w:=by kernel_rfl
theorem spans_at15 (w:World):(Instr.index 147 (.agg spansC) (.int .i64 15)).run Tryz.prog w=.ok (.agg #[.int .u8 (spansL.getD 15 (0,0,0)).1,.int .u8 (spansL.getD 15 (0,0,0)).2.1,.int .i64 (spansL.getD 15 (0,0,0)).2.2]) w:=by kernel_rfl
theorem spans_at (k:Nat) (h:k < 16) (w:World):(Instr.index 147 (.agg spansC) (.int .i64 (k:Int))).run Tryz.prog w=.ok (.agg #[.int .u8 (spansL.getD k (0,0,0)).1,.int .u8 (spansL.getD k (0,0,0)).2.1,.int .i64 (spansL.getD k (0,0,0)).2.2]) w:=by
 have hk:k=0∨k=1∨k=2∨k=3∨k=4∨k=5∨k=6∨k=7∨k=8∨k=9∨k=10∨k=11∨k=12∨k=13∨k=14∨k=15:=by omega
 rcases hk with rfl | rfl | rfl | rfl | rfl | rfl | rfl | rfl | rfl | rfl | rfl | rfl | rfl | rfl | rfl | rfl
 ·exact spans_at0 w
 ·exact spans_at1 w
 ·exact spans_at2 w
 ·exact spans_at3 w
 ·exact spans_at4 w
 ·exact spans_at5 w
 ·exact spans_at6 w
 ·exact spans_at7 w
 ·exact spans_at8 w
 ·exact spans_at9 w
 ·exact spans_at10 w
 ·exact spans_at11 w
 ·exact spans_at12 w
 ·exact spans_at13 w
 ·exact spans_at14 w
 ·exact spans_at15 w
theorem classIn_skip (c:Int) (l:List (Int × Int × Int)) (k:Nat) (h:∀ j,j < k→¬ ((l.getD j (0,0,0)).1≤c∧c≤(l.getD j (0,0,0)).2.1)) (hk:k≤l.length) :
  classIn c l=classIn c (l.drop k):=by
 induction l generalizing k with
 | nil=>simp
 | cons x l ih =>
  cases k with
  | zero=>simp
  | succ k =>
   have h0:=h 0 (by omega)
   simp only [List.getD_cons_zero] at h0
   simp only [classIn,h0,if_false,List.drop_succ_cons]
   exact ih k (fun j hj=>by have:=h (j+1) (by omega);simpa using this) (by simpa using hk)
set_option maxHeartbeats 1000000 in
theorem classOf_any (c:Int) (w:World) (hg:GW w) :
  Calls Tryz.prog 103 #[.int .u8 c] w fun e w'=>e=.returned (.int .i64 (classB c))∧Below w.heap.size w w':=by
 obtain ⟨t,fr,hs⟩:=hg.spans
 go_enter Tryz.func103,Tryz.ntmps103
 go_wp2_with (refine wpList_load_row rfl 147 _ rfl 3 rfl t spansC fr _ hs Tryz.underlying147 rfl (by kernel_rfl) ?_)
 have hix:=spans_at
 go_loopw [6] (fun i wr=>∃ k:Nat,k≤16∧i=.int .i64 k∧(∀ j,j < k→¬ ((spansL.getD j (0,0,0)).1≤c∧c≤(spansL.getD j (0,0,0)).2.1))∧Below w.heap.size w wr) (fun i _=>16 - (intOf i).toNat)
 case atStart=>exact ⟨0,by omega,rfl,by omega,Below.refl _ _⟩
 case round =>
  obtain ⟨k,hk,rfl,hno,hb⟩:=hrel
  by_cases hlt:k < 16
  ·have hix1:=fun W=>hix k hlt W
   clear hix
   obtain ⟨x,hx⟩:∃ x,x=spansL.getD k (0,0,0):=⟨_,rfl⟩
   rw [← hx] at hix1
   have hin:classIn c (spansL.drop k)=if x.1≤c∧c≤x.2.1 then x.2.2 else classIn c (spansL.drop (k+1)):=by
    rw [hx,List.drop_eq_getElem_cons (show k < spansL.length by simpa [spansL] using hlt),List.getD_eq_getElem?_getD,List.getElem?_eq_getElem (show k < spansL.length by simpa [spansL] using hlt)]
    rfl
   have hcl:classB c=classIn c (spansL.drop k):=classIn_skip c spansL k hno (by simp [spansL];omega)
   have HNO:=Lib.hid hno
   have HX:=Lib.hid hx
   have HC:=Lib.hid (hcl.trans hin)
   clear hx hno hin hcl
   by_cases h1:x.1≤c
   ·by_cases h2:c≤x.2.1
    ·go_wp2
     go_ret
     exact ⟨ret_int (by rw [HC.out,if_pos ⟨h1,h2⟩]),hb.alloc hb.size _⟩
    ·go_wp2
     go_roundw
     case rel=>exact ⟨k+1,by omega,by go_num,fun j hj=>by
      rcases Nat.lt_succ_iff_lt_or_eq.1 hj with h | rfl
      ·exact HNO.out j h
      ·rw [← HX.out];exact fun h=>h2 h.2,hb.alloc hb.size _⟩
     case measure=>simp [intOf];omega
   ·go_wp2
    go_roundw
    case rel=>exact ⟨k+1,by omega,by go_num,fun j hj=>by
     rcases Nat.lt_succ_iff_lt_or_eq.1 hj with h | rfl
     ·exact HNO.out j h
     ·rw [← HX.out];exact fun h=>h1 h.1,hb.alloc hb.size _⟩
    case measure=>simp [intOf];omega
  ·have HNO:=Lib.hid hno
   clear hno hix
   go_wp2
   go_ret
   refine ⟨ret_int ?_,hb⟩
   have:classB c=classIn c (spansL.drop k):=classIn_skip c spansL k HNO.out (by simp [spansL];omega)
   rw [this,show k=16 by omega]
   rfl
def isB (c q:Int):Bool:=Go.bits .and .i64 (classB c) q != 0
set_option maxHeartbeats 400000 in
theorem is_any (c q:Int) (w:World) (hg:GW w) :
  Calls Tryz.prog 82 #[.int .u8 c,.int .i64 q] w fun e w'=>e=.returned (.bool (isB c q))∧Below w.heap.size w w':=by
 go_enter Tryz.func82,Tryz.ntmps82
 go_wp2_with (go_at_call 103;refine (classOf_any _ _ hg).mono ?_;rintro e w' ⟨rfl,hb⟩)
 go_ret
 exact ⟨rfl,hb⟩
theorem gwx {w:World} (h:GW w:=by (first | exact hgw | exact hgw.below (by repeat (first | (with_reducible first | exact HB.out | apply below_alloc | apply pw_below_drewN | apply below_drew1 | refine below_set ?_ (by assumption)) | exact HB.out)) (Nat.le_refl _))):GW w:=h
theorem blw {B:Nat} {w w':World} (h:Below B w w':=by repeat (first | (with_reducible first | exact HB.out | apply below_alloc | apply pw_below_drewN | apply below_drew1 | refine below_set ?_ (Aside0.out (by assumption))) | exact HB.out)):Below B w w':=h
theorem fq {α:Sort _} {a b:α} (h:a=b:=by (try simp only [List.map_toArray,List.map_cons,List.map_nil]);first | done | rfl | (simp only [List.length_drop,List.length_take];rfl)):a=b:=h
theorem asm {p:Prop} (h:p:=by first | (with_reducible assumption) | assumption):p:=h
theorem rsd {α:Sort _} {a b:α} (h:a=b:=by first | rfl | (simp;done) | (simp [*];done)):a=b:=h
theorem rew {α:Sort _} {a b:α} (h:a=b:=by first | rfl | (simp [errW_none,errW_some] <;> rfl) | (simp [*,errW_none,errW_some] <;> rfl)):a=b:=h
theorem zp {α:Sort _} {a b:α} (h:a=b:=by simp only [Act.put,List.setIfInBounds_toArray,List.set_cons_zero,List.set_cons_succ,i64_w,i32_w];rfl):a=b:=h
abbrev zT:=true
abbrev zF:=false
abbrev zB:=ByteArray
theorem bko {p:Prop} (h:p:=by (with_reducible repeat (first | refine blk_drewN ?_ _ | refine blk_drew ?_ | refine blk_alloc ?_ _));exact Aside0.out (by first | (with_reducible assumption) | assumption)):p:=h
end Go.Proofs.YtadgddipkbdnbaaGreatDoor
namespace Go.Proofs.YtadgddipkbdnbaaGreatDoor
open Go.ChangeShapes Go.WideShapes Go.ChangeAt Go.WideMaps Go.WideElems Go.RowKit
section
variable {H:Type} {enc:TypeId × Value→H}
theorem handed_and_shaped {a:Assume} {C:Checked} {os:Os} {f:FuncId} {fn:Func} {s:ChangeSpec} {conds:List PathCond} {apart fresh handsOn again:Bool} {X:World→Array Value→Prop}
  (hX:∀ (w w':World) (args:Array Value),w.heap=w'.heap→X w args→X w' args)
  (own:ownKnob C.prog.godebug=none) (started:os.Started) (noInit:C.prog.inits.idxOf? f=none) (hfn:C.prog.funcs[f]?=some fn)
  (witness:∃ (w:World) (tape:Tape) (i:Input),w.os=os∧(w.forCall tape i).Shaped C.prog∧i.vars=[]∧Input.okWide C.prog (w.forCall tape i) .any w.heap.size f i ∧
   ((s.pre enc C.prog fn conds apart (w.forCall tape i).memory i.args∧X (w.forCall tape i).memory i.args)∧sizedMet enc C.prog fn (OpenSpec.ofChange s) apart (w.forCall tape i).memory i.args)∧a.holds C.prog (lone (Frame.enter C.prog f i.args .normal) [] (w.forCall tape i)))
  (contract:∀ (W:World) (base:Nat) (args:Array Value) (ds gs:List (DataW H)) (before:List MemPlace),
   (∀ (j:Nat) t v,fn.params[j]?=some t→args[j]?=some v→Value.okWide C.prog W .any base t v) →
   DataW.Whole enc C.prog fn.params.toList s.vars apart W args.toList ds gs before →
   conds.all (PathCond.test C.prog ⟨fn.params.toList,ds,s.plain.varTypes C.prog,gs⟩)=true →
   (DataW.weightsEach C.prog (fn.params.toList ++ s.plain.varTypes C.prog) (ds ++ gs)).all (·≤reachBytes)=true→X W args→W.ShapedOpen C.prog →
   a.holds C.prog (lone (Frame.enter C.prog f args .normal) [] W) →
   Calls C.prog f args W fun e W'=>∃ v,e=.returned v∧s.post enc C.prog fn apart fresh handsOn again W args v W') :
  ReturnsInHanded a C os f .any (fun w args=>(s.pre enc C.prog fn conds apart w args∧X w args)∧sizedMet enc C.prog fn (OpenSpec.ofChange s) apart w args) (s.post enc C.prog fn apart fresh handsOn again):=by
 refine returnsInHanded_of_calls own started noInit witness ?_
 intro w tape i _ hsh _ hok hpre hholds
 obtain ⟨_,_,_,fn',hfn',_,_,_,_,hval⟩:=hok
 have e:fn'=fn:=Option.some.inj (hfn'.symm.trans hfn)
 subst e
 obtain ⟨⟨⟨ds,gs,before,hw,hc⟩,hx⟩,hz⟩:=hpre
 have hw':=DataW.Whole.of_heap (w':=w.forCall tape i) (by rfl) hw
 refine (contract (w.forCall tape i) w.heap.size i.args ds gs before hval hw' hc (hz.weights hw) (hX _ _ _ (by rfl) hx) hsh hholds).mono fun e W' ⟨v,he,hp⟩=>?_
 subst he
 exact ChangeSpec.post_blind hp
end
def lexLaid:List (String × DataW Unit):=Rows.lexScansRow.laid
theorem laid_at {P:Program} {w:World}:∀ {l:List (String × DataW Unit)} {ps:List MemPlace},DataW.LaidVars P w l ps→∀ n d,(n,d)∈l →
  ∃ g t cs fuel p,P.globalNamed n=some g∧(P.globals[g]?).map (·.type)=some t∧w.var? P n=some cs∧DataW.trod (fun _=>()) P w 0 (fun _=>true) false fuel t cs.toList=some (d,p)
 | [],_,_,n,d,h=>by cases h
 | (n0,d0) :: l,ps,h,n,d,hm=>by
  obtain ⟨g,t,cs,fuel,p,q,h1,h2,h3,h4,h5,_⟩:=h
  rcases List.mem_cons.1 hm with e | hm
  ·cases e;exact ⟨g,t,cs,fuel,p,h1,h2,h3,h4⟩
  ·exact laid_at h5 n d hm
theorem gSpans:Tryz.prog.globalNamed "tapline/lex.spans" = some 3:=by kernel_rfl
theorem gTab:Tryz.prog.globalNamed "strings.asciiSpace" = some 0:=by kernel_rfl
theorem gSyn:Tryz.prog.globalNamed "strconv.ErrSyntax" = some 4:=by kernel_rfl
theorem gRng:Tryz.prog.globalNamed "strconv.ErrRange" = some 5:=by kernel_rfl
theorem tSpans:(Tryz.prog.globals[3]?).map (·.type)=some 147:=by kernel_rfl
theorem tTab:(Tryz.prog.globals[0]?).map (·.type)=some 118:=by kernel_rfl
theorem uTab:Tryz.prog.underlying 118=some (.array 256 5):=Tryz.underlying118
theorem tSyn:(Tryz.prog.globals[4]?).map (·.type)=some 87:=by kernel_rfl
theorem tRng:(Tryz.prog.globals[5]?).map (·.type)=some 87:=by kernel_rfl
set_option maxRecDepth 100000 in
theorem span_cells {W:World} {fuel:Nat} {cs:List Value} {a b c:Int} {p:List MemPlace}
  (h:DataW.trod (fun _=>()) Tryz.prog W 0 (fun _=>true) false fuel 146 cs=some (.agg [.lit (.int .u8 a),.lit (.int .u8 b),.lit (.int .i64 c)],p)):cs=[.int .u8 a,.int .u8 b,.int .i64 c]:=by
 obtain ⟨xs,m,rfl,hx,hlen,hn,hel⟩:=DataW.trod_struct Tryz.underlying146 h
 have c146:Tryz.prog.cellsOf 146=3:=by kernel_rfl
 have c5:Tryz.prog.cellsOf 5=1:=by kernel_rfl
 have c3:Tryz.prog.cellsOf 3=1:=by kernel_rfl
 rw [c146] at hlen
 have h0:=hel 0 _ rfl
 have h1:=hel 1 _ rfl
 have h2:=hel 2 _ rfl
 simp only [Prod.mk.injEq,DataW.agg.injEq] at hx
 match xs,hn,hx,h0,h1,h2 with
 | [x0,x1,x2],_,hx,h0,h1,h2 =>
  simp only [List.map_cons,List.map_nil,List.cons.injEq] at hx
  obtain ⟨k0,e0,f0,_⟩:=DataW.trod_int Tryz.underlying5 (show DataW.trod _ Tryz.prog W 0 _ false m 5 ((cs.drop 0).take (Tryz.prog.cellsOf 5))=some x0 from h0)
  obtain ⟨k1,e1,f1,_⟩:=DataW.trod_int Tryz.underlying5 (show DataW.trod _ Tryz.prog W 0 _ false m 5 ((cs.drop 1).take (Tryz.prog.cellsOf 5))=some x1 from h1)
  obtain ⟨k2,e2,f2,_⟩:=DataW.trod_int Tryz.underlying3 (show DataW.trod _ Tryz.prog W 0 _ false m 3 ((cs.drop 2).take (Tryz.prog.cellsOf 3))=some x2 from h2)
  rw [f0,f1,f2] at hx
  simp only [DataW.lit.injEq,Lit.int.injEq,true_and] at hx
  obtain ⟨⟨rfl,rfl,rfl,_⟩,_⟩:=hx
  rw [c5] at e0 e1
  rw [c3] at e2
  match cs,hlen with
  | [v0,v1,v2],_ =>
   simp at e0 e1 e2
   rw [e0,e1,e2]
set_option maxRecDepth 100000 in
theorem spans_cells {W:World} {fuel:Nat} {cs:List Value} {p:List MemPlace}
  (h:DataW.trod (fun _=>()) Tryz.prog W 0 (fun _=>true) false fuel 147 cs=some (Rows.laid_tapline_lex_spans,p)):cs=spansC.toList:=by
 obtain ⟨xs,m,rfl,hx,hlen,hn,hel⟩:=DataW.trod_array Tryz.underlying147 h
 have c147:Tryz.prog.cellsOf 147=48:=by kernel_rfl
 have c146:Tryz.prog.cellsOf 146=3:=by kernel_rfl
 rw [c147] at hlen
 rw [c146] at hel
 simp only [Prod.mk.injEq] at hx
 have hx1:=hx.1
 unfold Rows.laid_tapline_lex_spans at hx1
 rw [DataW.agg.injEq] at hx1
 have key:∀ i,i < 16→(cs.drop (i * 3)).take 3=(spansC.toList.drop (i * 3)).take 3:=by
  intro i hi
  have hel':=hel i hi
  obtain ⟨x,hxi⟩:∃ x,xs[i]?=some x:=⟨_,List.getElem?_eq_getElem (by omega)⟩
  rw [hxi] at hel'
  have hd:(xs.map (·.1))[i]?=some x.1:=by rw [List.getElem?_map,hxi];rfl
  rw [← hx1] at hd
  obtain ⟨x1,x2⟩:=x
  rcases (by omega:i=0∨i=1∨i=2∨i=3∨i=4∨i=5∨i=6∨i=7∨i=8∨i=9∨i=10∨i=11∨i=12∨i=13∨i=14∨i=15) with rfl | rfl | rfl | rfl | rfl | rfl | rfl | rfl | rfl | rfl | rfl | rfl | rfl | rfl | rfl | rfl <;>
   (obtain rfl:=Option.some.inj hd;rw [span_cells hel'];rfl)
 apply List.ext_getElem?
 intro j
 by_cases hj:j < 48
 ·have:=congrArg (·[j % 3]?) (key (j / 3) (by omega))
  simp only [List.getElem?_take,List.getElem?_drop] at this
  rw [if_pos (by omega),if_pos (by omega),show j / 3 * 3+j % 3=j by omega] at this
  exact this
 ·rw [List.getElem?_eq_none (by omega),List.getElem?_eq_none (by show 48≤j;omega)]
theorem var_block {P:Program} {w:World} {n:String} {g:Nat} {cs:Array Value} (hg:P.globalNamed n=some g) (h:w.var? P n=some cs):∃ t fr,w.heap[g]?=some (.cells cs t fr):=by
 unfold World.var? at h
 rw [hg] at h
 simp only [Option.bind_some] at h
 cases ho:w.heap[g]? with
 | none=>rw [ho] at h;cases h
 | some o =>
  rw [ho] at h
  cases o <;> simp at h
  subst h
  exact ⟨_,_,rfl⟩
set_option maxRecDepth 100000 in
theorem of_laid {W:World} (h:laidMetH Tryz.prog lexLaid W) (hs:W.ShapedOpen Tryz.prog):GW W:=by
 have e:laidMetH Tryz.prog lexLaid W↔laidMet Tryz.prog lexLaid W:=by rw [MakeChecks.laidMetH_plain _ _ _ (by kernel_rfl)]
 obtain ⟨ps,hv,_,_⟩:=e.1 h
 have mem:∀ n d,(n,d)∈lexLaid→_:=fun n d hm=>laid_at hv n d hm
 refine ⟨?_,?_,?_,?_,?_⟩
 ·obtain ⟨g,t,cs,fuel,p,h1,h2,h3,h4⟩:=mem "tapline/lex.spans" Rows.laid_tapline_lex_spans (by simp [lexLaid,Rows.lexScansRow])
  obtain rfl:=Option.some.inj (gSpans.symm.trans h1)
  obtain rfl:=Option.some.inj (tSpans.symm.trans h2)
  have hc:=spans_cells h4
  obtain ⟨t,fr,hb⟩:=var_block gSpans h3
  obtain ⟨l⟩:=cs
  have:(⟨l⟩:Array Value)=spansC:=by cases hc;rfl
  rw [this] at hb
  exact ⟨t,fr,hb⟩
 ·obtain ⟨g,t,cs,fuel,p,h1,h2,h3,h4⟩:=mem "strings.asciiSpace" Rows.laid_strings_asciiSpace (by simp [lexLaid,Rows.lexScansRow])
  obtain rfl:=Option.some.inj (gTab.symm.trans h1)
  obtain rfl:=Option.some.inj (tTab.symm.trans h2)
  have hd:(Rows.laid_strings_asciiSpace:DataW Unit)=Lib.tabData .u8 Lib.asciiSpaceTab:=by rfl
  rw [hd] at h4
  unfold Lib.TabIs
  rw [h3,← Lib.cells_of_tab uTab Tryz.underlying5 (by kernel_rfl) (by kernel_rfl) h4]
 ·exact cell_of_shapedOpen_int (t:=3) (zero:=#[.int .i64 0]) hs (of_decide_eq_true (by kernel_rfl)) (by kernel_rfl) rfl (by kernel_rfl) (by kernel_rfl) Tryz.underlying3
 ·obtain ⟨g,t,cs,fuel,p,h1,h2,h3,h4⟩:=mem "strconv.ErrSyntax" Rows.laid_strconv_ErrSyntax (by simp [lexLaid,Rows.lexScansRow])
  obtain rfl:=Option.some.inj (gSyn.symm.trans h1)
  obtain rfl:=Option.some.inj (tSyn.symm.trans h2)
  obtain ⟨_,u,v,hc,_⟩:=iface_of_trod Tryz.underlying87 h4
  have:=World.var?_cell gSyn h3 0
  rw [Array.eq_one_of_toList hc] at this
  exact ⟨u,v,by simpa using this⟩
 ·obtain ⟨g,t,cs,fuel,p,h1,h2,h3,h4⟩:=mem "strconv.ErrRange" Rows.laid_strconv_ErrRange (by simp [lexLaid,Rows.lexScansRow])
  obtain rfl:=Option.some.inj (gRng.symm.trans h1)
  obtain rfl:=Option.some.inj (tRng.symm.trans h2)
  obtain ⟨_,u,v,hc,_⟩:=iface_of_trod Tryz.underlying87 h4
  have:=World.var?_cell gRng h3 0
  rw [Array.eq_one_of_toList hc] at this
  exact ⟨u,v,by simpa using this⟩
theorem own:ownKnob Tryz.prog.godebug=none:=by kernel_rfl
theorem door_met (os:Os) (args:Array Value):laidMetH Tryz.prog lexLaid ((World.doorLaid Tryz.prog 400 os).forCall (fun _ _=>0) ⟨#[],args,[]⟩).memory :=
 laidMetH_of_parts3 (fuel:=8) (laidMet_of_run' 8 (by kernel_rfl) (by kernel_rfl)) (by kernel_rfl) (by kernel_rfl)
end Go.Proofs.YtadgddipkbdnbaaGreatDoor
namespace Go.Proofs.YtadgddipkbdnbaaGreatDoor.Q
open Go.Proofs.YtadgddipkbdnbaaGreatDoor Go.RowKit Go.Proofs.YtadgddipkbdnbaaGreatDoorW.PrintWords Go.Proofs.YtadgddipkbdnbaaGreatDoorW.PrintLast Go.Proofs.YtadgddipkbdnbaaGreatDoorW.PrintMore
attribute [local go_sem] max2_int min2_int max_two min_two max_three min_three max_four min_four
def errW:Option Int→Value
 | none=>.nilIface
 | some c=>.iface 0 (.int .i64 c)
theorem errW_none:errW none=.nilIface:=rfl
theorem errW_some (c:Int):errW (some c)=.iface 0 (.int .i64 c):=rfl
theorem info9:(Tryz.prog.info? 9).map (fun i=>(i.zero,i.size,i.bytes))=some (some (.string ⟨#[]⟩),1,16):=by kernel_rfl
theorem info38:(Tryz.prog.info? 38).map (fun i=>(i.zero,i.size,i.bytes))=some (some (.agg #[(.int .i64 0),(.string ⟨#[]⟩),(.int .i64 0)]),3,32):=by kernel_rfl
structure S38 where
 f0:Int
 f1:ByteArray
 f2:Int
def z38:S38:=⟨(0:Int),(⟨#[]⟩:zB),(0:Int)⟩
def k38:Kd S38:=Kd.iso (Kd.pair (Kd.int .i64) (Kd.pair Kd.string (Kd.int .i64))) (fun x:S38=>(x.f0,x.f1,x.f2))
theorem k38_open {w:World} {x:S38} {cs:List Value} (h:k38.K w x cs):cs=[.int .i64 x.f0,.string x.f1,.int .i64 x.f2]:=by
 obtain ⟨_,_,rfl,rfl,⟨_,_,rfl,rfl,rfl⟩⟩:=h;exact rfl
theorem k38_mk (w:World) (x:S38)  : k38.K w x [.int .i64 x.f0,.string x.f1,.int .i64 x.f2]:=⟨[.int .i64 x.f0],[.string x.f1,.int .i64 x.f2],rfl,rfl,⟨[.string x.f1],[.int .i64 x.f2],rfl,rfl,rfl⟩⟩
theorem k38_mkM (w:World) (base:Nat) (ok:Nat→Prop) (x:S38)  : k38.M w base ok x [.int .i64 x.f0,.string x.f1,.int .i64 x.f2]:=⟨[.int .i64 x.f0],[.string x.f1,.int .i64 x.f2],rfl,rfl,⟨[.string x.f1],[.int .i64 x.f2],rfl,rfl,rfl⟩⟩
def rd_T38 (xs:List S38) (i:Int):S38:=xs.getD i.toNat z38
theorem at_T38 {w:World} {A:Option Addr} {n:Nat} {xs:List S38} (h:Kd.C k38 w A n xs) (i:Int) (h0:0≤i) (h1:i < n):∃ ad , A=some ad∧w.cell? (ad.add (i.toNat * 3))=some (.int .i64 (rd_T38 xs i).f0)∧w.cell? ⟨(ad.add (i.toNat * 3)).block,(ad.add (i.toNat * 3)).off+1,none⟩=some (.string (rd_T38 xs i).f1)∧w.cell? ⟨(ad.add (i.toNat * 3)).block,(ad.add (i.toNat * 3)).off+2,none⟩=some (.int .i64 (rd_T38 xs i).f2):=by
 obtain ⟨ad,c,e,_,hK,hc0⟩:=Kd.C_get h z38 i h0 h1;have hc:∀ j u,c[j]?=some u→w.cell? (ad.add (i.toNat * 3+j))=some u:=hc0;obtain rfl:=k38_open hK;exact ⟨ad,e,hc 0 _ rfl,by rw [← add_field _ _ 1 (by omega)];exact hc 1 _ rfl,by rw [← add_field _ _ 2 (by omega)];exact hc 2 _ rfl⟩
end Go.Proofs.YtadgddipkbdnbaaGreatDoor.Q
namespace Go.Proofs.YtadgddipkbdnbaaGreatDoor.Q
open Go.Joins Go.ChangeShapes Go.WideShapes Go.RowKit Go.Deep Go.Proofs.YtadgddipkbdnbaaGreatDoor YtadgddipkbdnbaaGreatDoorW.PrintWords YtadgddipkbdnbaaGreatDoorW.PrintLast
theorem laidOut:laidOutB Tryz.prog=true:=by kernel_rfl
section
variable {H:Type} {enc:TypeId × Value→H} {P:Program} {w:World} {base:Nat} {spare:Nat→Bool} {held:Bool}
theorem open_fields {t e:TypeId} {fs:Array Field} {fuel:Nat} {cs:List Value} {x:DataW H × List MemPlace} (ht:P.underlying t=some (.slice e)) (he:P.underlying e=some (.struct fs))
  (hone:oneCellFields P fs=true) (hC:P.cellsOf e=fs.size) (h:DataW.trod enc P w base spare held fuel t cs=some x) :
  (cs=[.slice none 0 0]∧x=(.nil,[])) ∨
  ∃ (a:Addr) (len cap m:Nat) (D:Nat→DataW H) (Pl:Nat→List MemPlace),cs=[.slice (some a) len cap]∧base≤a.block∧len≤cap∧cap≤maxLen∧m=(if spare a.block then cap else len) ∧
   x=(.slice ((List.range len).map D) ((List.range (m - len)).map fun j=>D (len+j)),MemPlace.row a (m * fs.size) ++ (List.range m).flatMap Pl) ∧
   ∀ i,i < m→∃ (ys:List (DataW H × List MemPlace)) (n:Nat),D i=.agg (ys.map (·.1))∧ys.length=fs.size ∧
    ∀ (j:Nat) (f:Field),fs[j]?=some f→∃ (v:Value) (y:DataW H × List MemPlace),w.cell? (a.add (i * fs.size+j))=some v∧ys[j]?=some y∧DataW.trod enc P w base spare held n f.type [v]=some y:=by
 rcases open_slice ht h with h0 | ⟨a,len,cap,m,n,D,Pl,hcs,hb,hl,hm,hmm,hx,hi⟩
 ·exact .inl h0
 ·refine .inr ⟨a,len,cap,m,D,Pl,hcs,hb,hl,hm,hmm,by rw [hC] at hx;exact hx,fun i him=>?_⟩
  obtain ⟨cs',hc,ht'⟩:=hi i him
  rw [hC] at hc
  obtain ⟨ys,n',hn',hy,hlen,hyl,hf⟩:=DataW.trod_struct he ht'
  obtain ⟨_,hcl,hat⟩:=World.cells?_some hc
  simp only [Prod.mk.injEq] at hy
  refine ⟨ys,n',hy.1,hyl,fun j f hj=>?_⟩
  obtain ⟨ho,hk⟩:=hone_of hone j f hj
  have hjl:j < fs.size:=(Array.getElem?_eq_some_iff.1 hj).1
  have hcell:=hat j hjl
  have hv:cs'[j]?=some (cs'[j]'(by omega)):=List.getElem?_eq_getElem (by omega)
  have h1:=hf j f hj
  rw [ho,hk] at h1
  have hone':(cs'.drop j).take 1=[cs'[j]'(by omega)]:=by
   rw [List.drop_eq_getElem_cons (by omega)]
   rfl
  rw [hone'] at h1
  have hys:ys[j]?=some (ys[j]'(by omega)):=List.getElem?_eq_getElem (by omega)
  refine ⟨_,_,?_,hys,h1.trans hys⟩
  rw [← Go.Deep.add_add,hcell,hv]
theorem weights_all {P:Program} {e:TypeId}:∀ {l:List (DataW H)} {d:DataW H},d∈l→∀ n∈d.weights P e,n∈DataW.weightsAll P e l
 | a :: l,d,hd,n,hn=>by
  simp only [DataW.weightsAll,List.mem_append]
  rcases List.mem_cons.1 hd with h | h
  ·rw [h] at hn;exact .inl hn
  ·exact .inr (weights_all h n hn)
end
section
variable {H:Type} {enc:TypeId × Value→H} {W:World}
set_option maxRecDepth 100000 in
theorem tokFields:∃ f0 f1 f2:Field,Tryz.prog.underlying 38=some (.struct #[f0,f1,f2])∧f0.type=3∧f1.type=9∧f2.type=3∧oneCellFields Tryz.prog #[f0,f1,f2]=true :=
 ⟨_,_,_,Tryz.underlying38,rfl,rfl,rfl,by kernel_rfl⟩
set_option maxRecDepth 100000 in
theorem tokCells:Tryz.prog.cellsOf 38=3:=by kernel_rfl
set_option maxRecDepth 100000 in
theorem open_tok {r:Reach} {b0:Nat} {v:Value} {d:DataW H} {p:List MemPlace} {ts:List TypeId} {ds:List (DataW H)} {j:Nat} (hv:Value.okWide Tryz.prog W r b0 38 v) (h:DataW.Trod enc Tryz.prog W 0 (fun _=>true) true 38 v d p)
  (hsz:(DataW.weightsEach Tryz.prog ts ds).all (·≤reachBytes)=true) (ht:ts[j]?=some 38) (hd:ds[j]?=some d) :
  ∃ (t0:Int) (t1:ByteArray) (t2:Int),v=.agg #[.int .i64 t0,.string t1,.int .i64 t2]∧t1.size≤140737488351232:=by
 obtain ⟨f0,f1,f2,hs,e0,e1,e2,hone⟩:=tokFields
 obtain ⟨v0,v1,v2,y0,y1,y2,n,rfl,rfl,rfl,g0,g1,g2⟩:=open_agg3 hs hone tokCells hv h
 rw [e0] at g0
 rw [e1] at g1
 rw [e2] at g2
 obtain ⟨t0,h0,-,-⟩:=DataW.trod_int Tryz.underlying3 g0
 obtain ⟨t1,h1,hy1,-⟩:=DataW.trod_string Tryz.underlying9 g1
 obtain ⟨t2,h2,-,-⟩:=DataW.trod_int Tryz.underlying3 g2
 simp only [List.cons.injEq,and_true] at h0 h1 h2
 refine ⟨t0,t1,t2,by rw [h0,h1,h2],?_⟩
 have:=List.all_eq_true.1 hsz t1.data.toList.length (DataW.weights_mem_each ht hd _ (by
  rw [hy1]
  simp only [DataW.weights,hs,List.map_cons,List.map_nil,DataW.weightsEach,List.mem_append,Array.toList]
  exact .inr (.inl (by simp))))
 have hz:t1.data.toList.length=t1.size:=by rw [Array.length_toList];rfl
 rw [hz] at this
 exact of_decide_eq_true this
set_option maxRecDepth 100000 in
theorem open_toks {r:Reach} {b0:Nat} {v:Value} {d:DataW H} {p:List MemPlace} {ts:List TypeId} {ds:List (DataW H)} {j:Nat} (hv:Value.okWide Tryz.prog W r b0 23 v) (h:DataW.Trod enc Tryz.prog W 0 (fun _=>true) true 23 v d p)
  (hsz:(DataW.weightsEach Tryz.prog ts ds).all (·≤reachBytes)=true) (ht:ts[j]?=some 23) (hd:ds[j]?=some d) :
  ∃ (a:Option Addr) (cap:Nat) (l:List S38),v=.slice a l.length cap∧l.length≤cap∧Kd.C k38 W a l.length l∧l.length≤140737488351232∧∀ x∈l,x.f1.size≤140737488351232:=by
 obtain ⟨f0,f1,f2,hs,e0,e1,e2,hone⟩:=tokFields
 obtain ⟨a,len,cap,rfl⟩:=okWide_slice Tryz.underlying23 hv
 obtain ⟨fuel,hf⟩:=h
 rcases open_fields Tryz.underlying23 hs hone tokCells hf with ⟨hcs,_⟩ | ⟨x,l,c,m,D,Pl,hcs,_,hl,hm,hmm,hx,hi⟩
 ·simp [Value.cells] at hcs
  obtain ⟨rfl,rfl,rfl⟩:=hcs
  exact ⟨none,0,[],rfl,Nat.le_refl _,⟨rfl,by simp,fun h=>absurd h (by simp)⟩,by simp,by simp⟩
 ·simp [Value.cells] at hcs
  obtain ⟨rfl,rfl,rfl⟩:=hcs
  simp only [if_true] at hmm
  subst hmm
  simp only [Prod.mk.injEq] at hx
  obtain ⟨rfl,-⟩:=hx
  have hbytes:(len+(m - len)) * Tryz.prog.bytesOf 38≤reachBytes:=by
   have:=sized_slice hsz ht hd Tryz.underlying23
   simpa using this
  have hb38:Tryz.prog.bytesOf 38=32:=by kernel_rfl
  rw [hb38] at hbytes
  have hreach:reachBytes=140737488351232:=rfl
  have key:∀ i,∃ y:S38,i < len→(W.cell? (x.add (i * 3+0))=some (.int .i64 y.f0)∧W.cell? (x.add (i * 3+1))=some (.string y.f1)∧W.cell? (x.add (i * 3+2))=some (.int .i64 y.f2)∧y.f1.size≤140737488351232):=by
   intro i
   by_cases hil:i < len
   ·obtain ⟨ys,n,hD,hyl,hff⟩:=hi i (by omega)
    obtain ⟨v0,y0,c0,i0,g0⟩:=hff 0 f0 rfl
    obtain ⟨v1,y1,c1,i1,g1⟩:=hff 1 f1 rfl
    obtain ⟨v2,y2,c2,i2,g2⟩:=hff 2 f2 rfl
    rw [e0] at g0
    rw [e1] at g1
    rw [e2] at g2
    obtain ⟨t0,h0,-,-⟩:=DataW.trod_int Tryz.underlying3 g0
    obtain ⟨t1,h1,hy1,-⟩:=DataW.trod_string Tryz.underlying9 g1
    obtain ⟨t2,h2,-,-⟩:=DataW.trod_int Tryz.underlying3 g2
    simp only [List.cons.injEq,and_true] at h0 h1 h2
    refine ⟨⟨t0,t1,t2⟩,fun _=>⟨by rw [← h0];exact c0,by rw [← h1];exact c1,by rw [← h2];exact c2,?_⟩⟩
    have hmem:t1.data.toList.length∈DataW.weightsEach Tryz.prog ts ds:=DataW.weights_mem_each ht hd _ (by
     simp only [DataW.weights,Tryz.underlying23,List.mem_cons,List.mem_append]
     refine .inr (.inl (weights_all (d:=D i) (List.mem_map_of_mem (List.mem_range.2 hil)) _ ?_))
     rw [hD]
     match ys,hyl with
     | [z0,z1,z2],_ =>
      simp only [List.getElem?_cons_succ,List.getElem?_cons_zero,Option.some.injEq] at i1
      simp only [DataW.weights,hs,List.map_cons,List.map_nil,DataW.weightsEach,List.mem_append,Array.toList]
      refine .inr (.inl ?_)
      rw [i1,hy1]
      simp [DataW.weights])
    have:=List.all_eq_true.1 hsz _ hmem
    rw [hreach] at this
    have hz:t1.data.toList.length=t1.size:=by rw [Array.length_toList];rfl
    rw [hz] at this
    simpa using this
   ·exact ⟨z38,fun h=>absurd h hil⟩
  obtain ⟨f,hfs⟩:∃ f:Nat→S38,∀ i,i < len→(W.cell? (x.add (i * 3+0))=some (.int .i64 (f i).f0)∧W.cell? (x.add (i * 3+1))=some (.string (f i).f1)∧W.cell? (x.add (i * 3+2))=some (.int .i64 (f i).f2)∧(f i).f1.size≤140737488351232) :=
   ⟨fun i=>Classical.choose (key i),fun i=>Classical.choose_spec (key i)⟩
  have hlen:((List.range len).map f).length=len:=by simp
  refine ⟨some x,m,(List.range len).map f,by rw [hlen],by rw [hlen];exact hl,⟨rfl,by rw [hlen];unfold maxLen at hm;omega,fun _=>⟨x,rfl,fun j y hj=>?_⟩⟩,by rw [hlen];omega,fun y hy=>?_⟩
  ·have hjl:j < len:=by
    have:=(List.getElem?_eq_some_iff.1 hj).1
    simpa using this
   have hy:y=f j:=by
    rw [List.getElem?_map,List.getElem?_range hjl] at hj
    simpa using hj.symm
   obtain ⟨q0,q1,q2,-⟩:=hfs j hjl
   refine ⟨_,rfl,k38_mk W y,fun i u hu=>?_⟩
   rw [hy] at hu
   match i,hu with
   | 0,hu=>simp only [List.getElem?_cons_zero,Option.some.injEq] at hu;rw [← hu];exact q0
   | 1,hu=>simp only [List.getElem?_cons_succ,List.getElem?_cons_zero,Option.some.injEq] at hu;rw [← hu];exact q1
   | 2,hu=>simp only [List.getElem?_cons_succ,List.getElem?_cons_zero,Option.some.injEq] at hu;rw [← hu];exact q2
  ·obtain ⟨i,hi2,rfl⟩:=List.mem_map.1 hy
   exact (hfs i (List.mem_range.1 hi2)).2.2.2
end
end Go.Proofs.YtadgddipkbdnbaaGreatDoor.Q
namespace Go.Proofs.YtadgddipkbdnbaaGreatDoor.Q
open Go.Proofs.YtadgddipkbdnbaaGreatDoor Go.RowKit Go.Proofs.YtadgddipkbdnbaaGreatDoorW.PrintWords Go.Proofs.YtadgddipkbdnbaaGreatDoorW.PrintLast Go.Proofs.YtadgddipkbdnbaaGreatDoorW.PrintMore
attribute [local go_sem] max2_int min2_int max_two min_two max_three min_three max_four min_four
def rzisBlank.f (a0:Int):Option (Bool):=if a0=32 then (some true) else (if a0=9 then (some true) else (if a0=13 then (some true) else (some (a0 == 10))))
set_option maxHeartbeats 8000000 in
set_option maxRecDepth 100000 in
theorem rzisBlank.calls (a0:Int) (r:Bool) (w:World) (h:rzisBlank.f a0=some r) :
  Calls Tryz.prog 76 #[.int .u8 a0] w fun e w'=>e=.returned (.bool r)∧Drawn0 w w':=by
 have H:(if a0=32 then (some true) else (if a0=9 then (some true) else (if a0=13 then (some true) else (some (a0 == 10)))))=some r:=h;clear h;by_cases c2:a0=32
 ·rw [if_pos c2] at H;have c2b0:(a0 == 32)=true:=beq_iff_eq.mpr c2;have c2b1:(a0 != 32)=false:=bne_eq_false_iff_eq.mpr c2;clear c2;obtain rfl:=Option.some.inj H;go_enter Tryz.func76,Tryz.ntmps76
  go_wp2;go_ret;exact ⟨by first | rfl | (simp;done) | (simp [*];done),by repeat (first | exact Drawn0.refl _ | apply Drawn0.step)⟩
 ·rw [if_neg c2] at H;have c2b0:(a0 == 32)=false:=beq_eq_false_iff_ne.mpr c2;have c2b1:(a0 != 32)=true:=bne_iff_ne.mpr c2;by_cases c3:a0=9
  ·rw [if_pos c3] at H;have c3b0:(a0 == 9)=true:=beq_iff_eq.mpr c3;have c3b1:(a0 != 9)=false:=bne_eq_false_iff_eq.mpr c3;clear c3;obtain rfl:=Option.some.inj H;go_enter Tryz.func76,Tryz.ntmps76
   go_wp2;go_ret;exact ⟨by first | rfl | (simp;done) | (simp [*];done),by repeat (first | exact Drawn0.refl _ | apply Drawn0.step)⟩
  ·rw [if_neg c3] at H;have c3b0:(a0 == 9)=false:=beq_eq_false_iff_ne.mpr c3;have c3b1:(a0 != 9)=true:=bne_iff_ne.mpr c3;by_cases c4:a0=13
   ·rw [if_pos c4] at H;have c4b0:(a0 == 13)=true:=beq_iff_eq.mpr c4;have c4b1:(a0 != 13)=false:=bne_eq_false_iff_eq.mpr c4;clear c4;obtain rfl:=Option.some.inj H;go_enter Tryz.func76,Tryz.ntmps76
    go_wp2;go_ret;exact ⟨by first | rfl | (simp;done) | (simp [*];done),by repeat (first | exact Drawn0.refl _ | apply Drawn0.step)⟩
   ·rw [if_neg c4] at H;have c4b0:(a0 == 13)=false:=beq_eq_false_iff_ne.mpr c4;have c4b1:(a0 != 13)=true:=bne_iff_ne.mpr c4;obtain rfl:=Option.some.inj H;go_enter Tryz.func76,Tryz.ntmps76
    go_wp2;go_ret;exact ⟨by first | rfl | (simp;done) | (simp [*];done),by repeat (first | exact Drawn0.refl _ | apply Drawn0.step)⟩
def rzbegins.f (a0:ByteArray) (a1:Int) (a2:ByteArray):Option (Bool):=if (wrap64 (a1+(a2.size:Int)))≤(a0.size:Int) then (if 0≤a1 then (if a1≤(wrap64 (a1+(a2.size:Int))) then (some ((a0.extract (a1:Int).toNat ((wrap64 (a1+(a2.size:Int))):Int).toNat).toList == a2.toList)) else (none)) else (none)) else (some false)
set_option maxHeartbeats 8000000 in
set_option maxRecDepth 100000 in
theorem rzbegins.calls (a0:ByteArray) (a1:Int) (a2:ByteArray) (r:Bool) (w:World) (h:rzbegins.f a0 a1 a2=some r) :
  Calls Tryz.prog 77 #[.string a0,.int .i64 a1,.string a2] w fun e w'=>e=.returned (.bool r)∧Drawn0 w w':=by
 have H:(if (wrap64 (a1+(a2.size:Int)))≤(a0.size:Int) then (if 0≤a1 then (if a1≤(wrap64 (a1+(a2.size:Int))) then (some ((a0.extract (a1:Int).toNat ((wrap64 (a1+(a2.size:Int))):Int).toNat).toList == a2.toList)) else (none)) else (none)) else (some false))=some r:=h;clear h;by_cases c4:(wrap64 (a1+(a2.size:Int)))≤(a0.size:Int)
 ·rw [if_pos c4] at H;have c4b0:decide ((wrap64 (a1+(a2.size:Int)))≤(a0.size:Int))=true:=decide_eq_true c4;clear c4;by_cases c5:0≤a1
  ·rw [if_pos c5] at H;have c5b0:=eq_true c5;have c5b1:decide (0≤a1)=true:=decide_eq_true c5;clear c5;by_cases c6:a1≤(wrap64 (a1+(a2.size:Int)))
   ·rw [if_pos c6] at H;have c6b0:=eq_true c6;have c6b1:decide (a1≤(wrap64 (a1+(a2.size:Int))))=true:=decide_eq_true c6;have c7b0:=eq_true (of_decide_eq_true asm:(wrap64 (a1+(a2.size:Int)))≤(a0.size:Int));obtain rfl:=Option.some.inj H;go_enter Tryz.func77,Tryz.ntmps77
    go_wp2;go_ret;exact ⟨by first | rfl | (simp;done) | (simp [*];done),by repeat (first | exact Drawn0.refl _ | apply Drawn0.step)⟩
   ·rw [if_neg c6] at H;exact absurd H (by simp)
  ·rw [if_neg c5] at H;exact absurd H (by simp)
 ·rw [if_neg c4] at H;have c4b0:decide ((wrap64 (a1+(a2.size:Int)))≤(a0.size:Int))=false:=decide_eq_false c4;clear c4;obtain rfl:=Option.some.inj H;go_enter Tryz.func77,Tryz.ntmps77
  go_wp2;go_ret;exact ⟨by first | rfl | (simp;done) | (simp [*];done),by repeat (first | exact Drawn0.refl _ | apply Drawn0.step)⟩
mutual
def rzskipped.l0:Nat→ByteArray→Int→Option (Int × Bool)
 | 0,_,_=>none
 | k+1,x0,x1=>if x1 < (x0.size:Int) then (if 0≤x1 then ((rzisBlank.f (bt x0 x1)).bind fun t101=>(if t101=true then (rzskipped.l0 k x0 (wrap64 (x1+1))) else ((rzbegins.f x0 x1 (⟨#[47,47]⟩:zB)).bind fun t102=>(if t102=true then (rzskipped.l1 k x0 x1) else ((rzbegins.f x0 x1 (⟨#[47,42]⟩:zB)).bind fun t103=>(if t103=true then (rzskipped.l2 k x0 x1 (wrap64 (x1+2))) else (some (x1,true)))))))) else (none)) else (some (x1,true))
def rzskipped.l1:Nat→ByteArray→Int→Option (Int × Bool)
 | 0,_,_=>none
 | k+1,x0,x1=>if x1 < (x0.size:Int) then (if 0≤x1 then (if (bt x0 x1)=10 then (rzskipped.l0 k x0 x1) else (rzskipped.l1 k x0 (wrap64 (x1+1)))) else (none)) else (rzskipped.l0 k x0 x1)
def rzskipped.l2:Nat→ByteArray→Int→Int→Option (Int × Bool)
 | 0,_,_,_=>none
 | k+1,x0,x1,x6=>if x6 < (x0.size:Int) then ((rzbegins.f x0 x6 (⟨#[42,47]⟩:zB)).bind fun t104=>(if t104=true then (if x6≥(x0.size:Int) then (some (x1,false)) else (rzskipped.l0 k x0 (wrap64 (x6+2)))) else (rzskipped.l2 k x0 x1 (wrap64 (x6+1))))) else (if x6≥(x0.size:Int) then (some (x1,false)) else (rzskipped.l0 k x0 (wrap64 (x6+2))))
end
def rzskipped.f (k:Nat) (a0:ByteArray) (a1:Int):Option (Int × Bool):=rzskipped.l0 k a0 a1
theorem rzskipped.mono_l:∀ k,(∀ y0 y1,LeO (rzskipped.l0 k y0 y1) (rzskipped.l0 (k+1) y0 y1))∧(∀ y0 y1,LeO (rzskipped.l1 k y0 y1) (rzskipped.l1 (k+1) y0 y1))∧(∀ y0 y1 y2,LeO (rzskipped.l2 k y0 y1 y2) (rzskipped.l2 (k+1) y0 y1 y2))
 | 0=>⟨fun _ _ r h=>by simp [rzskipped.l0] at h,fun _ _ r h=>by simp [rzskipped.l1] at h,fun _ _ _ r h=>by simp [rzskipped.l2] at h⟩
 | k+1=>by
  obtain ⟨ih0,ih1,ih2⟩:=rzskipped.mono_l k;refine ⟨?_,?_,?_⟩
  ·intro y0 y1;unfold rzskipped.l0;repeat' first
   | (with_reducible exact ih0 _ _)
   | (with_reducible exact ih1 _ _)
   | (with_reducible exact ih2 _ _ _)
   | (with_reducible exact LeO.refl _)
   | (with_reducible exact LeO.none _)
   | (with_reducible refine LeO.ite ?_ ?_)
   | (with_reducible refine LeO.bind ?_ (fun _=>?_))
   | exact LeO.none _
   | refine LeO.ite ?_ ?_
   | refine LeO.bind ?_ (fun _=>?_)
  ·intro y0 y1;unfold rzskipped.l1;repeat' first
   | (with_reducible exact ih0 _ _)
   | (with_reducible exact ih1 _ _)
   | (with_reducible exact ih2 _ _ _)
   | (with_reducible exact LeO.refl _)
   | (with_reducible exact LeO.none _)
   | (with_reducible refine LeO.ite ?_ ?_)
   | (with_reducible refine LeO.bind ?_ (fun _=>?_))
   | exact LeO.none _
   | refine LeO.ite ?_ ?_
   | refine LeO.bind ?_ (fun _=>?_)
  ·intro y0 y1 y2;unfold rzskipped.l2;repeat' first
   | (with_reducible exact ih0 _ _)
   | (with_reducible exact ih1 _ _)
   | (with_reducible exact ih2 _ _ _)
   | (with_reducible exact LeO.refl _)
   | (with_reducible exact LeO.none _)
   | (with_reducible refine LeO.ite ?_ ?_)
   | (with_reducible refine LeO.bind ?_ (fun _=>?_))
   | exact LeO.none _
   | refine LeO.ite ?_ ?_
   | refine LeO.bind ?_ (fun _=>?_)
theorem rzskipped.mono:∀ a0 a1 k,LeO (rzskipped.f k a0 a1) (rzskipped.f (k+1) a0 a1):=by
 intro a0 a1 k;obtain ⟨ih0,ih1,ih2⟩:=rzskipped.mono_l k;unfold rzskipped.f;repeat' first
   | (with_reducible exact ih0 _ _)
   | (with_reducible exact ih1 _ _)
   | (with_reducible exact ih2 _ _ _)
   | (with_reducible exact LeO.refl _)
   | (with_reducible exact LeO.none _)
   | (with_reducible refine LeO.ite ?_ ?_)
   | (with_reducible refine LeO.bind ?_ (fun _=>?_))
   | exact LeO.none _
   | refine LeO.ite ?_ ?_
   | refine LeO.bind ?_ (fun _=>?_)
set_option maxHeartbeats 8000000 in
set_option maxRecDepth 100000 in
theorem rzskipped.calls (k:Nat) (a0:ByteArray) (a1:Int) (r1:Int) (r2:Bool) (w:World) (h:rzskipped.f k a0 a1=some (r1,r2)) :
  Calls Tryz.prog 50 #[.string a0,.int .i64 a1] w fun e w'=>e=.returned (.tuple #[.int .i64 r1,.bool r2])∧Drawn0 w w':=by
 have H:(rzskipped.l0 k a0 a1)=some (r1,r2):=h;clear h;have H':=Aside0.mk H;clear H;go_enter Tryz.func50,Tryz.ntmps50
 go_wp2;try simp only [Act.put,List.setIfInBounds_toArray,List.set_cons_zero,List.set_cons_succ]
 go_loopg [1] k (fun kq v1 w'=>∃ (x1_1:Int),v1=.int .i64 x1_1∧Aside0 (rzskipped.l0 kq a0 x1_1=some (r1,r2))∧Aside0 (kq≤k)∧Drawn0 w w')
 case atStart=>exact ⟨(a1),rsd,H',⟨Nat.le_refl _⟩,by repeat (first | exact Drawn0.refl _ | apply Drawn0.step)⟩
 case round =>
  clear H';try clear p2
  obtain ⟨x1_1,rfl,HA,HK1,⟨m1,rfl⟩⟩:=hrel;cases gk with
  | zero=>exact absurd HA.out (by simp [rzskipped.l0])
  | succ k1 =>
   have H:=HA.out;clear HA;simp only [rzskipped.l0] at H;by_cases c3:x1_1 < (a0.size:Int)
   ·rw [if_pos c3] at H;have c3b0:decide (x1_1 < (a0.size:Int))=true:=decide_eq_true c3;clear c3;by_cases c4:0≤x1_1
    ·rw [if_pos c4] at H;have c4b0:decide (0≤x1_1)=true:=decide_eq_true c4;clear c4;replace H:=Option.bind_eq_some_iff.mp H;obtain ⟨t101,A60,H⟩:=H;replace H:(if t101=true then (rzskipped.l0 k1 a0 (wrap64 (x1_1+1))) else ((rzbegins.f a0 x1_1 (⟨#[47,47]⟩:zB)).bind fun t102=>(if t102=true then (rzskipped.l1 k1 a0 x1_1) else ((rzbegins.f a0 x1_1 (⟨#[47,42]⟩:zB)).bind fun t103=>(if t103=true then (rzskipped.l2 k1 a0 x1_1 (wrap64 (x1_1+2))) else (some (x1_1,true)))))))=some (r1,r2):=H;have A6:=Aside0.mk A60;clear A60;by_cases c7:t101=true
     ·subst c7;have H1:(rzskipped.l0 k1 a0 (wrap64 (x1_1+1)))=some (r1,r2):=by rw [if_pos rfl] at H;exact H
      clear H;have H:=H1;clear H1;have H':=Aside0.mk H;clear H;have p5:0≤(x1_1:Int):=of_decide_eq_true asm;have q5:x1_1 < (a0.size:Int):=of_decide_eq_true asm;have hx5:=bt_at a0 x1_1;replace p5:=eq_true p5;replace q5:=eq_true q5;go_wp2_with (first | ((with_reducible refine gate_callee (f:=76) rfl ?_);refine goesL_ (some 14) rfl rfl Tryz.func76 (by kernel_rfl) rfl #[.int .u8 (bt a0 x1_1)] rfl fq ?_;(with_reducible refine (rzisBlank.calls (bt a0 x1_1) true _ A6.out).mono ?_);rintro e w' ⟨rfl,⟨nd,rfl⟩⟩;refine ⟨_,rfl,?_⟩))
      go_roundg k1
      case measure=>have:=HK1.out;omega
      case rel=>exact ⟨(wrap64 (x1_1+1)),rsd,H',⟨by have:=HK1.out;omega⟩,by repeat (first | exact Drawn0.refl _ | apply Drawn0.step)⟩
     ·replace c7:=Bool.eq_false_iff.mpr c7;subst c7;have H1:((rzbegins.f a0 x1_1 (⟨#[47,47]⟩:zB)).bind fun t102=>(if t102=true then (rzskipped.l1 k1 a0 x1_1) else ((rzbegins.f a0 x1_1 (⟨#[47,42]⟩:zB)).bind fun t103=>(if t103=true then (rzskipped.l2 k1 a0 x1_1 (wrap64 (x1_1+2))) else (some (x1_1,true))))))=some (r1,r2):=by rw [if_neg (show ¬ (false=true) by decide)] at H;exact H
      clear H;have H:=H1;clear H1;replace H:=Option.bind_eq_some_iff.mp H;obtain ⟨t102,A80,H⟩:=H;replace H:(if t102=true then (rzskipped.l1 k1 a0 x1_1) else ((rzbegins.f a0 x1_1 (⟨#[47,42]⟩:zB)).bind fun t103=>(if t103=true then (rzskipped.l2 k1 a0 x1_1 (wrap64 (x1_1+2))) else (some (x1_1,true)))))=some (r1,r2):=H;have A8:=Aside0.mk A80;clear A80;by_cases c9:t102=true
      ·subst c9;have H1:(rzskipped.l1 k1 a0 x1_1)=some (r1,r2):=by rw [if_pos rfl] at H;exact H
       clear H;have H:=H1;clear H1;have H':=Aside0.mk H;clear H;have p5:0≤(x1_1:Int):=of_decide_eq_true asm;have q5:x1_1 < (a0.size:Int):=of_decide_eq_true asm;have hx5:=bt_at a0 x1_1;replace p5:=eq_true p5;replace q5:=eq_true q5;go_wp2_with (first | ((with_reducible refine gate_callee (f:=76) rfl ?_);refine goesL_ (some 14) rfl rfl Tryz.func76 (by kernel_rfl) rfl #[.int .u8 (bt a0 x1_1)] rfl fq ?_;(with_reducible refine (rzisBlank.calls (bt a0 x1_1) false _ A6.out).mono ?_);rintro e w' ⟨rfl,⟨nd,rfl⟩⟩;refine ⟨_,rfl,?_⟩) | ((with_reducible refine gate_callee (f:=77) rfl ?_);refine goesL_ (some 19) rfl rfl Tryz.func77 (by kernel_rfl) rfl #[.string a0,.int .i64 x1_1,.string (⟨#[47,47]⟩:zB)] rfl fq ?_;(with_reducible refine (rzbegins.calls a0 x1_1 (⟨#[47,47]⟩:zB) true _ A8.out).mono ?_);rintro e w' ⟨rfl,⟨nd,rfl⟩⟩;refine ⟨_,rfl,?_⟩))
       try simp only [Act.put,List.setIfInBounds_toArray,List.set_cons_zero,List.set_cons_succ]
       go_loopg [1] k1 (fun kq v1 w'=>∃ (x1_2:Int),v1=.int .i64 x1_2∧Aside0 (rzskipped.l1 kq a0 x1_2=some (r1,r2))∧Aside0 (kq≤k1)∧Drawn0 w w')
       case atStart=>exact ⟨(x1_1),rsd,H',⟨Nat.le_refl _⟩,by repeat (first | exact Drawn0.refl _ | apply Drawn0.step)⟩
       case round =>
        clear H';try clear p2
        try clear c3
        try clear c3b0
        try clear c4
        try clear c4b0
        try clear c5
        try clear p5
        try clear q5
        try clear hx5
        try clear p6
        try clear c7
        try clear c9
        try clear p2
        try clear p5
        try clear q5
        obtain ⟨x1_2,rfl,HA,HK2,⟨m2,rfl⟩⟩:=hrel;cases gk with
        | zero=>exact absurd HA.out (by simp [rzskipped.l1])
        | succ k2 =>
         have H:=HA.out;clear HA;simp only [rzskipped.l1] at H;by_cases c10:x1_2 < (a0.size:Int)
         ·rw [if_pos c10] at H;have c10b0:decide (x1_2 < (a0.size:Int))=true:=decide_eq_true c10;clear c10;by_cases c11:0≤x1_2
          ·rw [if_pos c11] at H;have c11b0:decide (0≤x1_2)=true:=decide_eq_true c11;clear c11;by_cases c13:(bt a0 x1_2)=10
           ·rw [if_pos c13] at H;have c13b0:((bt a0 x1_2) == 10)=true:=beq_iff_eq.mpr c13;have c13b1:((bt a0 x1_2) != 10)=false:=bne_eq_false_iff_eq.mpr c13;clear c13;have H':=Aside0.mk H;clear H;have p12:0≤(x1_2:Int):=of_decide_eq_true asm;have q12:x1_2 < (a0.size:Int):=of_decide_eq_true asm;have hx12:=bt_at a0 x1_2;replace p12:=eq_true p12;replace q12:=eq_true q12;go_wp2;go_roundg k2
            case measure=>have:=HK1.out;have:=HK2.out;omega
            case rel=>exact ⟨(x1_2),rsd,H',⟨by have:=HK1.out;have:=HK2.out;omega⟩,by repeat (first | exact Drawn0.refl _ | apply Drawn0.step)⟩
           ·rw [if_neg c13] at H;have c13b0:((bt a0 x1_2) == 10)=false:=beq_eq_false_iff_ne.mpr c13;have c13b1:((bt a0 x1_2) != 10)=true:=bne_iff_ne.mpr c13;have H':=Aside0.mk H;clear H;have p12:0≤(x1_2:Int):=of_decide_eq_true asm;have q12:x1_2 < (a0.size:Int):=of_decide_eq_true asm;have hx12:=bt_at a0 x1_2;replace p12:=eq_true p12;replace q12:=eq_true q12;go_wp2;go_roundg k2
            case measure=>have:=HK1.out;have:=HK2.out;omega
            case rel=>exact ⟨(wrap64 (x1_2+1)),rsd,H',⟨by have:=HK1.out;have:=HK2.out;omega⟩,by repeat (first | exact Drawn0.refl _ | apply Drawn0.step)⟩
          ·rw [if_neg c11] at H;exact absurd H (by simp)
         ·rw [if_neg c10] at H;have c10b0:decide (x1_2 < (a0.size:Int))=false:=decide_eq_false c10;clear c10;have H':=Aside0.mk H;clear H;go_wp2;go_roundg k2
          case measure=>have:=HK1.out;have:=HK2.out;omega
          case rel=>exact ⟨(x1_2),rsd,H',⟨by have:=HK1.out;have:=HK2.out;omega⟩,by repeat (first | exact Drawn0.refl _ | apply Drawn0.step)⟩
      ·replace c9:=Bool.eq_false_iff.mpr c9;subst c9;have H1:((rzbegins.f a0 x1_1 (⟨#[47,42]⟩:zB)).bind fun t103=>(if t103=true then (rzskipped.l2 k1 a0 x1_1 (wrap64 (x1_1+2))) else (some (x1_1,true))))=some (r1,r2):=by rw [if_neg (show ¬ (false=true) by decide)] at H;exact H
       clear H;have H:=H1;clear H1;replace H:=Option.bind_eq_some_iff.mp H;obtain ⟨t103,A140,H⟩:=H;replace H:(if t103=true then (rzskipped.l2 k1 a0 x1_1 (wrap64 (x1_1+2))) else (some (x1_1,true)))=some (r1,r2):=H;have A14:=Aside0.mk A140;clear A140;by_cases c15:t103=true
       ·subst c15;have H1:(rzskipped.l2 k1 a0 x1_1 (wrap64 (x1_1+2)))=some (r1,r2):=by rw [if_pos rfl] at H;exact H
        clear H;have H:=H1;clear H1;have H':=Aside0.mk H;clear H;have p5:0≤(x1_1:Int):=of_decide_eq_true asm;have q5:x1_1 < (a0.size:Int):=of_decide_eq_true asm;have hx5:=bt_at a0 x1_1;replace p5:=eq_true p5;replace q5:=eq_true q5;go_wp2_with (first | ((with_reducible refine gate_callee (f:=76) rfl ?_);refine goesL_ (some 14) rfl rfl Tryz.func76 (by kernel_rfl) rfl #[.int .u8 (bt a0 x1_1)] rfl fq ?_;(with_reducible refine (rzisBlank.calls (bt a0 x1_1) false _ A6.out).mono ?_);rintro e w' ⟨rfl,⟨nd,rfl⟩⟩;refine ⟨_,rfl,?_⟩) | ((with_reducible refine gate_callee (f:=77) rfl ?_);refine goesL_ (some 19) rfl rfl Tryz.func77 (by kernel_rfl) rfl #[.string a0,.int .i64 x1_1,.string (⟨#[47,47]⟩:zB)] rfl fq ?_;(with_reducible refine (rzbegins.calls a0 x1_1 (⟨#[47,47]⟩:zB) false _ A8.out).mono ?_);rintro e w' ⟨rfl,⟨nd,rfl⟩⟩;refine ⟨_,rfl,?_⟩) | ((with_reducible refine gate_callee (f:=77) rfl ?_);refine goesL_ (some 34) rfl rfl Tryz.func77 (by kernel_rfl) rfl #[.string a0,.int .i64 x1_1,.string (⟨#[47,42]⟩:zB)] rfl fq ?_;(with_reducible refine (rzbegins.calls a0 x1_1 (⟨#[47,42]⟩:zB) true _ A14.out).mono ?_);rintro e w' ⟨rfl,⟨nd,rfl⟩⟩;refine ⟨_,rfl,?_⟩))
        try simp only [Act.put,List.setIfInBounds_toArray,List.set_cons_zero,List.set_cons_succ]
        go_loopg [6] k1 (fun kq v6 w'=>∃ (x6_2:Int),v6=.int .i64 x6_2∧Aside0 (rzskipped.l2 kq a0 x1_1 x6_2=some (r1,r2))∧Aside0 (kq≤k1)∧Drawn0 w w')
        case atStart=>exact ⟨(wrap64 (x1_1+2)),rsd,H',⟨Nat.le_refl _⟩,by repeat (first | exact Drawn0.refl _ | apply Drawn0.step)⟩
        case round =>
         clear H';try clear c1
         try clear p1
         try clear q1
         try clear hx1
         try clear p2
         try clear c3
         try clear c3b0
         try clear c4
         try clear c4b0
         try clear c5
         try clear p5
         try clear q5
         try clear hx5
         try clear p6
         try clear c7
         try clear c9
         try clear c10
         try clear c10b0
         try clear c11
         try clear c11b0
         try clear p12
         try clear q12
         try clear hx12
         try clear c13
         try clear c13b0
         try clear c13b1
         try clear c15
         try clear p12
         try clear p2
         try clear p5
         try clear p6
         try clear q12
         try clear q5
         obtain ⟨x6_2,rfl,HA,HK2,⟨m2,rfl⟩⟩:=hrel;cases gk with
         | zero=>exact absurd HA.out (by simp [rzskipped.l2])
         | succ k2 =>
          have H:=HA.out;clear HA;simp only [rzskipped.l2] at H;by_cases c16:x6_2 < (a0.size:Int)
          ·rw [if_pos c16] at H;have c16b0:decide (x6_2 < (a0.size:Int))=true:=decide_eq_true c16;clear c16;replace H:=Option.bind_eq_some_iff.mp H;obtain ⟨t104,A170,H⟩:=H;replace H:(if t104=true then (if x6_2≥(a0.size:Int) then (some (x1_1,false)) else (rzskipped.l0 k2 a0 (wrap64 (x6_2+2)))) else (rzskipped.l2 k2 a0 x1_1 (wrap64 (x6_2+1))))=some (r1,r2):=H;have A17:=Aside0.mk A170;clear A170;by_cases c18:t104=true
           ·subst c18;have H1:(if x6_2≥(a0.size:Int) then (some (x1_1,false)) else (rzskipped.l0 k2 a0 (wrap64 (x6_2+2))))=some (r1,r2):=by rw [if_pos rfl] at H;exact H
            clear H;have H:=H1;clear H1;by_cases c19:x6_2≥(a0.size:Int)
            ·rw [if_pos c19] at H;have c19b0:decide ((a0.size:Int)≤x6_2)=true:=decide_eq_true c19;clear c19;simp only [Option.some.injEq,Prod.mk.injEq] at H;obtain ⟨rfl,rfl⟩:=H;go_wp2_with (first | (go_at_call 77;(with_reducible refine (rzbegins.calls a0 x6_2 (⟨#[42,47]⟩:zB) true _ A17.out).mono ?_);rintro e w' ⟨rfl,⟨nd,rfl⟩⟩))
             go_ret2;exact ⟨by first | rfl | (simp;done) | (simp [*];done),by repeat (first | exact Drawn0.refl _ | apply Drawn0.step)⟩
            ·rw [if_neg c19] at H;have c19b0:decide ((a0.size:Int)≤x6_2)=false:=decide_eq_false c19;clear c19;have H':=Aside0.mk H;clear H;go_wp2_with (first | (go_at_call 77;(with_reducible refine (rzbegins.calls a0 x6_2 (⟨#[42,47]⟩:zB) true _ A17.out).mono ?_);rintro e w' ⟨rfl,⟨nd,rfl⟩⟩))
             go_roundg k2
             case measure=>have:=HK1.out;have:=HK2.out;omega
             case rel=>exact ⟨(wrap64 (x6_2+2)),rsd,H',⟨by have:=HK1.out;have:=HK2.out;omega⟩,by repeat (first | exact Drawn0.refl _ | apply Drawn0.step)⟩
           ·replace c18:=Bool.eq_false_iff.mpr c18;subst c18;have H1:(rzskipped.l2 k2 a0 x1_1 (wrap64 (x6_2+1)))=some (r1,r2):=by rw [if_neg (show ¬ (false=true) by decide)] at H;exact H
            clear H;have H:=H1;clear H1;have H':=Aside0.mk H;clear H;go_wp2_with (first | (go_at_call 77;(with_reducible refine (rzbegins.calls a0 x6_2 (⟨#[42,47]⟩:zB) false _ A17.out).mono ?_);rintro e w' ⟨rfl,⟨nd,rfl⟩⟩))
            go_roundg k2
            case measure=>have:=HK1.out;have:=HK2.out;omega
            case rel=>exact ⟨(wrap64 (x6_2+1)),rsd,H',⟨by have:=HK1.out;have:=HK2.out;omega⟩,by repeat (first | exact Drawn0.refl _ | apply Drawn0.step)⟩
          ·rw [if_neg c16] at H;have c16b0:decide (x6_2 < (a0.size:Int))=false:=decide_eq_false c16;clear c16;by_cases c20:x6_2≥(a0.size:Int)
           ·rw [if_pos c20] at H;have c20b0:decide ((a0.size:Int)≤x6_2)=true:=decide_eq_true c20;clear c20;simp only [Option.some.injEq,Prod.mk.injEq] at H;obtain ⟨rfl,rfl⟩:=H;go_wp2;go_ret2;exact ⟨by first | rfl | (simp;done) | (simp [*];done),by repeat (first | exact Drawn0.refl _ | apply Drawn0.step)⟩
           ·rw [if_neg c20] at H;have c20b0:decide ((a0.size:Int)≤x6_2)=false:=decide_eq_false c20;clear c20;have H':=Aside0.mk H;clear H;go_wp2;go_roundg k2
            case measure=>have:=HK1.out;have:=HK2.out;omega
            case rel=>exact ⟨(wrap64 (x6_2+2)),rsd,H',⟨by have:=HK1.out;have:=HK2.out;omega⟩,by repeat (first | exact Drawn0.refl _ | apply Drawn0.step)⟩
       ·replace c15:=Bool.eq_false_iff.mpr c15;subst c15;have H1:(some (x1_1,true))=some (r1,r2):=by rw [if_neg (show ¬ (false=true) by decide)] at H;exact H
        clear H;have H:=H1;clear H1;simp only [Option.some.injEq,Prod.mk.injEq] at H;obtain ⟨rfl,rfl⟩:=H;have p5:0≤(x1_1:Int):=of_decide_eq_true asm;have q5:x1_1 < (a0.size:Int):=of_decide_eq_true asm;have hx5:=bt_at a0 x1_1;replace p5:=eq_true p5;replace q5:=eq_true q5;go_wp2_with (first | ((with_reducible refine gate_callee (f:=76) rfl ?_);refine goesL_ (some 14) rfl rfl Tryz.func76 (by kernel_rfl) rfl #[.int .u8 (bt a0 x1_1)] rfl fq ?_;(with_reducible refine (rzisBlank.calls (bt a0 x1_1) false _ A6.out).mono ?_);rintro e w' ⟨rfl,⟨nd,rfl⟩⟩;refine ⟨_,rfl,?_⟩) | ((with_reducible refine gate_callee (f:=77) rfl ?_);refine goesL_ (some 19) rfl rfl Tryz.func77 (by kernel_rfl) rfl #[.string a0,.int .i64 x1_1,.string (⟨#[47,47]⟩:zB)] rfl fq ?_;(with_reducible refine (rzbegins.calls a0 x1_1 (⟨#[47,47]⟩:zB) false _ A8.out).mono ?_);rintro e w' ⟨rfl,⟨nd,rfl⟩⟩;refine ⟨_,rfl,?_⟩) | ((with_reducible refine gate_callee (f:=77) rfl ?_);refine goesL_ (some 34) rfl rfl Tryz.func77 (by kernel_rfl) rfl #[.string a0,.int .i64 x1_1,.string (⟨#[47,42]⟩:zB)] rfl fq ?_;(with_reducible refine (rzbegins.calls a0 x1_1 (⟨#[47,42]⟩:zB) false _ A14.out).mono ?_);rintro e w' ⟨rfl,⟨nd,rfl⟩⟩;refine ⟨_,rfl,?_⟩))
        go_ret2;exact ⟨by first | rfl | (simp;done) | (simp [*];done),by repeat (first | exact Drawn0.refl _ | apply Drawn0.step)⟩
    ·rw [if_neg c4] at H;exact absurd H (by simp)
   ·rw [if_neg c3] at H;have c3b0:decide (x1_1 < (a0.size:Int))=false:=decide_eq_false c3;clear c3;simp only [Option.some.injEq,Prod.mk.injEq] at H;obtain ⟨rfl,rfl⟩:=H;go_wp2;go_ret2;exact ⟨by first | rfl | (simp;done) | (simp [*];done),by repeat (first | exact Drawn0.refl _ | apply Drawn0.step)⟩
end Go.Proofs.YtadgddipkbdnbaaGreatDoor.Q
