/- Parts of the proof: see the last text -/
import Derived.Test.YtffojmgmpfjlhaaGreatDoorInsS2
import Derived.Test.YtffojmgmpfjlhaaGreatDoorProg
import Derived.WalkKit
import Derived.Lib.Hide
import Derived.Lib.LaidTab
import Derived.Shelf.Strings.SplitShaped
import Derived.Shelf.Strconv.Itoa4
import Derived.WalkSpells
import Derived.WalkLawsBesides
import Derived.Deep.LoopGhost
import Derived.BigQuiet
import Derived.Deep.QuietTactic
import Derived.Below
import Derived.Deep.Draws
import Derived.Deep.AppendLies
import Derived.Maps.AppendAt
import Derived.OwnWalk
import Derived.Laws.BytesArg
import Derived.Laws.MakeOwn
import Derived.Laws.OwnMore
import Derived.Deep.OwnRows
import Derived.Tactics
import Derived.Lib.ConvBytes
import Derived.Laws.Slices
import Derived.KernelRfl
import Derived.RowKit3
import Derived.WideLaws
import Derived.Deep.DeepCutAuto
import Derived.Deep.CutBlock
import Derived.Deep.RegionHeld3
import Derived.Laws.Rows
import Derived.Lib.AppendStr
import Derived.ArgAppend
import Derived.Laws.IdiomCopy
import Derived.OrdersHeld
import Derived.Laws.BitsLemmas
import Derived.RowKit
set_option maxHeartbeats 8000000
set_option maxRecDepth 100000
set_option linter.unusedVariables false
set_option linter.unusedSimpArgs false
namespace Go.Proofs.Ix
abbrev Bs:=List UInt8
structure Ins where
 op:Int
 a:Int
 b:Int
 imm:Int
 deriving DecidableEq
def kindsL:List (Bs × Int):=[([],0),([110,111,112],0),([109,111,118,101],1),([115,101,116],3),([108,105,116],4),([97,100,100],1),([115,117,98],1),([109,117,108],1),([100,105,118],1),([109,111,100],1),([97,110,100],1),([111,114],1),([120,111,114],1),([115,104,108],1),([115,104,114],1),([115,97,114],1),([105,110,99],4),([108,111,97,100,49],5),([108,111,97,100,56],5),([115,116,111,114,101,49],5),([115,116,111,114,101,56],5),([98,101,113],5),([98,110,101],5),([98,108,116],5),([98,103,101],5),([106,117,109,112],6),([106,117,109,112,114],2),([99,97,108,108],6),([99,97,108,108,114],2),([114,101,116],0),([112,117,115,104],2),([112,111,112],2),([108,101,97],7),([115,121,115],8),([115,119,97,112],1)]
def breakW:Bs:=[98,114,101,97,107]
def kindM (op:Int):Bs × Int:=if op=76 then (breakW,0) else if op < 1∨35≤op then ([],0) else kindsL.getD op.toNat ([],0)
def nameM (op:Int):Bs:=(kindM op).1
def formM (op:Int):Int:=(kindM op).2
def hasA (f:Int):Bool:=(1≤f && f≤5) || f == 7
def hasB (f:Int):Bool:=f == 1 || f == 5
def bytesM (f:Int):Nat:=if f=3 then 10 else if f=4∨f=5∨f=8 then 1 else if f=6∨f=7 then 2 else 0
def fitsM (f n:Int):Bool :=
 if f=3 then true else if f=8 then 0≤n && n≤127
 else if bytesM f=0 then n == 0 else if bytesM f=1 then -64≤n && n < 64 else -8192≤n && n < 8192
def lenM (f:Int):Nat:=1+bytesM f+(if hasA f then 1 else 0)
def isBl (c:UInt8):Bool:=c == 32 || c == 9
def isDig (c:UInt8):Bool:=48≤c && c≤57
def isLet (c:UInt8):Bool:=(97≤c && c≤122) || (65≤c && c≤90) || c == 95
def isWd (c:UInt8):Bool:=isLet c || isDig c
def isNameM (s:Bs):Bool:=match s with | []=>false | c :: _=>s.length≤31 && isLet c && s.all isWd
def decV:Nat→Bs→Nat
 | n,[]=>n
 | n,c :: t=>decV (10 * n+(c.toNat - 48)) t
structure St where
 r:Bs
 x:Ins
 label:Bs
 far:Bool
def skipB (r:Bs):Bs:=r.dropWhile isBl
def takeB (c:UInt8):Bs→Option Bs
 | d :: t=>if d=c then some t else none
 | []=>none
def digitsM (minus:Bool) (r:Bs):Option (Option Int × Bs) :=
 let d:=r.takeWhile isDig
 if d=[]∨19 < d.length then none
 else some (if minus then (if decV 0 d≤9223372036854775808 then some (-(decV 0 d:Int)) else none) else (if decV 0 d < 9223372036854775808 then some (decV 0 d:Int) else none),r.dropWhile isDig)
def regM (r:Bs):Option (Int × Bs) :=
 match r with
 | 114 :: c :: t=>if 48≤c∧c≤55 then (if (t.head?.map isWd).getD false then none else some ((c.toNat:Int) - 48,t)) else none
 | _=>none
def rdA (s:St):Option St:=(regM s.r).map fun p=>{ s with x:={ s.x with a:=p.1 },r:=p.2 }
def rdB (s:St):Option St:=(regM s.r).map fun p=>{ s with x:={ s.x with b:=p.1 },r:=p.2 }
def rdNum (s:St):Option St :=
 let (m,r1):=match takeB 45 s.r with | some t=>(true,t) | none=>(false,s.r)
 match digitsM m r1 with
 | some (some n,r2)=>if fitsM (formM s.x.op) n then some { s with x:={ s.x with imm:=n },r:=r2 } else none
 | _=>none
def need (c:UInt8) (s:St):Option St:=(takeB c s.r).map fun t=>{ s with r:=t }
def skipS (s:St):St:={ s with r:=skipB s.r }
def rdMem (s:St):Option St:=do
 let s ← need 91 s
 let s ← rdB (skipS s)
 need 93 (skipS s)
def rdAddr (s:St):Option St:=do
 let s ← need 91 s
 let s ← rdB (skipS s)
 let s:=skipS s
 let (plus,r1):=match takeB 43 s.r with | some t=>(true,t) | none=>(false,s.r)
 let (minus,r2):=match takeB 45 r1 with | some t=>(true,t) | none=>(false,r1)
 if plus && minus then none
 else if plus || minus then
  match digitsM minus (skipB r2) with
  | some (some n,r3)=>if fitsM (formM s.x.op) n then need 93 (skipS { s with x:={ s.x with imm:=n },r:=r3 }) else none
  | _=>none
 else need 93 { s with r:=r2 }
def rdTarget (labels:Bool) (s:St):Option St :=
 match takeB 46 s.r with
 | none=>let n:=s.r.takeWhile isWd
  if labels && isNameM n then some { s with label:=n,r:=s.r.dropWhile isWd } else none
 | some r1 =>
  let minus:=r1.head? == some 45
  match (match takeB 43 r1 with | some t=>some t | none=>takeB 45 r1) with
  | none=>none
  | some r2=>match digitsM minus r2 with
   | none=>none
   | some (v,r3)=>match v with
    | some n=>if fitsM (formM s.x.op) n then some { s with x:={ s.x with imm:=n },r:=r3,far:=false } else some { s with r:=r3,far:=true }
    | none=>some { s with r:=r3,far:=true }
inductive Rd | a | b | num | mem | addr | target
def rd (labels:Bool):Rd→St→Option St
 | .a=>rdA | .b=>rdB | .num=>rdNum | .mem=>rdMem | .addr=>rdAddr | .target=>rdTarget labels
def readsM (op:Int):List Rd :=
 if op=17∨op=18 then [.a,.addr] else if op=19∨op=20 then [.addr,.a] else if op=34 then [.a,.mem]
 else if formM op=1 then [.a,.b] else if formM op=2 then [.a] else if formM op=3 then [.a,.num] else if formM op=4 then [.a,.num]
 else if formM op=5 then [.a,.b,.target] else if formM op=6 then [.target] else if formM op=7 then [.a,.target] else if formM op=8 then [.num] else []
def opOf (n:Bs):Int :=
 match (List.range 35).find? fun i:Nat=>decide (0 < i) && (nameM (i:Int) == n) with
 | some i=>(i:Int)
 | none=>if n=breakW then 76 else 0
structure Sym where
 name:Bs
 at_:Int
 size:Int
 deriving DecidableEq
structure Out where
 code:Bs
 syms:List Sym
 no:Nat
 err:Int
end Go.Proofs.Ix
namespace Go.Proofs.YtffojmgmpfjlhaaGreatDoor
open Go.RowKit Go.Proofs.Ix
def bS (l:List UInt8):ByteArray:=⟨l.toArray⟩
def kindsC:Array Value:=(kindsL.flatMap fun p=>[.string (bS p.1),.int .i64 p.2]).toArray
structure GW (w:World):Prop where
 kinds:∃ t fr,w.heap[0]?=some (.cells kindsC t fr)
 pow:Lib.TabIs Tryz.prog w "internal/strconv.uint64pow10" .u64 Lib.pow10Tab
 most:∃ m,w.cell? ⟨2,0,none⟩=some (.int .i64 m)
 syn:∃ te pe,w.cell? ⟨7,0,none⟩=some (.iface te pe)
 rng:∃ te pe,w.cell? ⟨8,0,none⟩=some (.iface te pe)
theorem glob1:Tryz.prog.globalNamed "internal/strconv.uint64pow10" = some 1:=by kernel_rfl
theorem GW.of_low {w w':World} (h:GW w) (hb:∀ k,k < 9→w'.heap[k]?=w.heap[k]?):GW w':=by
 obtain ⟨⟨t,fr,e⟩,h0,⟨m,hm⟩,⟨t4,p4,h4⟩,⟨t5,p5,h5⟩⟩:=h
 refine ⟨⟨t,fr,by rw [hb 0 (by omega)];exact e⟩,?_,⟨m,?_⟩,⟨t4,p4,?_⟩,⟨t5,p5,?_⟩⟩
 ·unfold Lib.TabIs World.var? at h0 ⊢
  rw [glob1] at h0 ⊢
  simp only [Option.bind_some] at h0 ⊢
  rw [hb 1 (by omega)];exact h0
 ·rw [← hm];exact World.cell?_of_block (w:=w) (hb 2 (by omega))
 ·rw [← h4];exact World.cell?_of_block (w:=w) (hb 7 (by omega))
 ·rw [← h5];exact World.cell?_of_block (w:=w) (hb 8 (by omega))
theorem GW.size {w:World} (h:GW w):9≤w.heap.size:=by
 obtain ⟨_,_,_,_,⟨t5,p5,h5⟩⟩:=h
 exact World.block_lt_of_cell? w _ h5
theorem GW.of_heap {w w':World} (h:GW w) (hb:∀ k,k < w.heap.size→w'.heap[k]?=w.heap[k]?):GW w':=h.of_low fun k hk=>hb k (by have:=h.size;omega)
theorem GW.below {w w':World} {B:Nat} (h:GW w) (hb:Below B w w') (hB:w.heap.size≤B):GW w':=h.of_heap fun k hk=>hb.block k (by omega)
theorem GW.drew {w:World} (h:GW w):GW w.drew:=h.of_heap fun _ _=>rfl
theorem GW.drewN {w:World} (h:GW w) (n:Nat):GW (w.drewN n):=h.of_heap fun _ _=>rfl
theorem GW.alloc {w:World} (h:GW w) (o:Obj):GW (w.alloc o):=h.of_heap fun k hk=>Below.heap_alloc _ _ _ hk
theorem GW.setCell {w:World} (h:GW w) {a:Addr} (ha:9≤a.block) (v:Value):GW (w.setCell a v):=h.of_low fun k hk=>Below.heap_setCell _ _ _ _ (by omega)
theorem ret_int {k:IntKind} {a b:Int} (h:a=b):Ending.returned (.int k a)=.returned (.int k b):=by rw [h]
theorem ret_bool {a b:Bool} (h:a=b):Ending.returned (.bool a)=.returned (.bool b):=by rw [h]
theorem ret_str {a b:ByteArray} (h:a=b):Ending.returned (.string a)=.returned (.string b):=by rw [h]
theorem kindsC_at:∀ i,i < 35→kindsC[i * 2]?=some (.string (bS (kindsL.getD i ([],0)).1))∧kindsC[i * 2+1]?=some (.int .i64 (kindsL.getD i ([],0)).2):=by
 intro i hi
 rcases (by omega:i=0∨i=1∨i=2∨i=3∨i=4∨i=5∨i=6∨i=7∨i=8∨i=9∨i=10∨i=11∨i=12∨i=13∨i=14∨i=15∨i=16∨i=17∨i=18∨i=19∨i=20∨i=21∨i=22∨i=23∨i=24∨i=25∨i=26∨i=27∨i=28∨i=29∨i=30∨i=31∨i=32∨i=33∨i=34) with rfl | rfl | rfl | rfl | rfl | rfl | rfl | rfl | rfl | rfl | rfl | rfl | rfl | rfl | rfl | rfl | rfl | rfl | rfl | rfl | rfl | rfl | rfl | rfl | rfl | rfl | rfl | rfl | rfl | rfl | rfl | rfl | rfl | rfl | rfl <;> exact ⟨rfl,rfl⟩
theorem kinds_at {w:World} (h:GW w) (i:Nat) (hi:i < 35):w.cell? ⟨0,i * 2,none⟩=some (.string (bS (kindsL.getD i ([],0)).1))∧w.cell? ⟨0,i * 2+1,none⟩=some (.int .i64 (kindsL.getD i ([],0)).2):=by
 obtain ⟨t,fr,e⟩:=h.kinds
 have hk:=kindsC_at i hi
 refine ⟨?_,?_⟩
 ·unfold World.cell?
  rw [e]
  exact hk.1
 ·unfold World.cell?
  rw [e]
  exact hk.2
theorem heap_own (w:World) (o:Obj):(w.alloc o).heap[w.heap.size]?=some o:=by show (w.heap.push o)[w.heap.size]?=some o;simp
theorem kindOf_any (op:Int) (w:World) (hg:GW w) :
  Calls Tryz.prog 55 #[.int .i64 op] w fun e w'=>e=.returned (.agg #[.string (bS (nameM op)),.int .i64 (formM op)])∧Below w.heap.size w w':=by
 go_enter Tryz.func55,Tryz.ntmps55
 by_cases h1:op=76
 ·subst h1
  go_wp2
  refine bodyPost_ret (results_cell_row rfl _ _ w.heap.size 103 _ _ _ rfl (heap_own w _) Tryz.underlying103 rfl (by kernel_rfl)) rfl ?_
  exact ⟨rfl,(Below.refl _ _).alloc (Nat.le_refl _) _⟩
 ·have hh:nameM op=(kindM op).1∧formM op=(kindM op).2:=⟨rfl,rfl⟩
  by_cases h2:op < 1
  ·have hk:kindM op=([],0):=by unfold kindM;rw [if_neg h1,if_pos (Or.inl h2)]
   rw [hh.1,hh.2,hk]
   go_wp2
   refine bodyPost_ret (results_cell_row rfl _ _ w.heap.size 103 _ _ _ rfl (heap_own w _) Tryz.underlying103 rfl (by kernel_rfl)) rfl ?_
   exact ⟨rfl,(Below.refl _ _).alloc (Nat.le_refl _) _⟩
  ·by_cases h3:35≤op
   ·have hk:kindM op=([],0):=by unfold kindM;rw [if_neg h1,if_pos (Or.inr h3)]
    rw [hh.1,hh.2,hk]
    go_wp2
    refine bodyPost_ret (results_cell_row rfl _ _ w.heap.size 103 _ _ _ rfl (heap_own w _) Tryz.underlying103 rfl (by kernel_rfl)) rfl ?_
    exact ⟨rfl,(Below.refl _ _).alloc (Nat.le_refl _) _⟩
   ·have hk:kindM op=kindsL.getD op.toNat ([],0):=by unfold kindM;rw [if_neg h1,if_neg (by omega)]
    rw [hh.1,hh.2,hk]
    obtain ⟨i,rfl⟩:=Int.eq_ofNat_of_zero_le (show 0≤op by omega)
    have hi:i < 35:=by omega
    obtain ⟨c0,c1⟩:=kinds_at (hg.alloc (Obj.cells #[.string ⟨#[]⟩,.int .i64 0] 103)) i hi
    rw [Int.toNat_natCast]
    go_wp2
    refine bodyPost_ret (results_cell_row rfl _ _ w.heap.size 103 _ _ _ rfl (heap_own w _) Tryz.underlying103 rfl (by kernel_rfl)) rfl ?_
    exact ⟨rfl,(Below.refl _ _).alloc (Nat.le_refl _) _⟩
end Go.Proofs.YtffojmgmpfjlhaaGreatDoor
namespace Go.Proofs.YtffojmgmpfjlhaaGreatDoor.Q
open Go.RowKit Go.Proofs.YtffojmgmpfjlhaaGreatDoor Go.Proofs.Ix
@[go_sem] theorem kind_form (s:ByteArray) (n:Int) (w:World):(Instr.field 103 (.agg #[.string s,.int .i64 n]) 1).run Tryz.prog w=.ok (.int .i64 n) w:=by kernel_rfl
@[go_sem] theorem kind_name (s:ByteArray) (n:Int) (w:World):(Instr.field 103 (.agg #[.string s,.int .i64 n]) 0).run Tryz.prog w=.ok (.string s) w:=by kernel_rfl
def insn_kindOf.f (a0:Int):Option (ByteArray × Int):=some (bS (nameM a0),formM a0)
theorem insn_kindOf.calls (a0:Int) (r1:ByteArray) (r2:Int) (w:World) (h:insn_kindOf.f a0=some (r1,r2)) (hgw:GW w) :
  Calls Tryz.prog 55 #[.int .i64 a0] w fun e w'=>e=.returned (.agg #[.string r1,.int .i64 r2])∧Below w.heap.size w w':=by
 cases h
 exact kindOf_any a0 w hgw
end Go.Proofs.YtffojmgmpfjlhaaGreatDoor.Q
namespace Go.Proofs.YtffojmgmpfjlhaaGreatDoor
open Go.RowKit Go.Proofs.YtffojmgmpfjlhaaGreatDoorW.PrintWords
theorem gwx {w:World} (h:GW w:=by (first | exact hgw | exact hgw.below (by repeat (first | (with_reducible first | exact HB.out | apply below_alloc | apply pw_below_drewN | apply below_drew1 | refine below_set ?_ (by assumption)) | exact HB.out)) (Nat.le_refl _))):GW w:=h
theorem gwy {w:World} (h:GW w:=by (first | exact hgw | exact hgw.below (by repeat (first | (with_reducible first | exact HB.out | apply below_alloc | apply pw_below_drewN | apply below_drew1 | refine below_set ?_ (by first | assumption | exact Aside0.out (by assumption))) | exact HB.out)) (Nat.le_refl _))):GW w:=h
theorem blw {B:Nat} {w w':World} (h:Below B w w':=by repeat (first | (with_reducible first | exact HB.out | apply below_alloc | apply pw_below_drewN | apply below_drew1 | refine below_set ?_ (Aside0.out (by assumption))) | exact HB.out)):Below B w w':=h
theorem fq {α:Sort _} {a b:α} (h:a=b:=by (try simp only [List.map_toArray,List.map_cons,List.map_nil]);first | done | rfl | (simp only [List.length_drop,List.length_take];rfl)):a=b:=h
theorem asm {p:Prop} (h:p:=by first | (with_reducible assumption) | assumption):p:=h
theorem rsd {α:Sort _} {a b:α} (h:a=b:=by first | rfl | (simp;done) | (simp [*];done)):a=b:=h
theorem rew {α:Sort _} {a b:α} (h:a=b:=by first | rfl | (simp [errW_none,errW_some] <;> rfl) | (simp [*,errW_none,errW_some] <;> rfl)):a=b:=h
theorem zp {α:Sort _} {a b:α} (h:a=b:=by simp only [Act.put,List.setIfInBounds_toArray,List.set_cons_zero,List.set_cons_succ,i64_w,i32_w];rfl):a=b:=h
abbrev zT:=true
abbrev zF:=false
abbrev zB:=ByteArray
theorem bz2 {w:World} {g:Nat} {a0 a1:Value} {t:TypeId} (h:w.heap[g]?=some (.cells #[a0,a1] t (0,0))):w.cell? ⟨g,0,none⟩=some a0∧w.cell? ⟨g,1,none⟩=some a1∧w.frozen? ⟨g,0,none⟩=false∧w.frozen? ⟨g,1,none⟩=false:=⟨(blk_cell h 0).trans rfl,(blk_cell h 1).trans rfl,blk_frozen h 0,blk_frozen h 1⟩
theorem bz3 {w:World} {g:Nat} {a0 a1 a2:Value} {t:TypeId} (h:w.heap[g]?=some (.cells #[a0,a1,a2] t (0,0))):w.cell? ⟨g,0,none⟩=some a0∧w.cell? ⟨g,1,none⟩=some a1∧w.cell? ⟨g,2,none⟩=some a2∧w.frozen? ⟨g,0,none⟩=false∧w.frozen? ⟨g,1,none⟩=false∧w.frozen? ⟨g,2,none⟩=false:=⟨(blk_cell h 0).trans rfl,(blk_cell h 1).trans rfl,(blk_cell h 2).trans rfl,blk_frozen h 0,blk_frozen h 1,blk_frozen h 2⟩
theorem bz4 {w:World} {g:Nat} {a0 a1 a2 a3:Value} {t:TypeId} (h:w.heap[g]?=some (.cells #[a0,a1,a2,a3] t (0,0))):w.cell? ⟨g,0,none⟩=some a0∧w.cell? ⟨g,1,none⟩=some a1∧w.cell? ⟨g,2,none⟩=some a2∧w.cell? ⟨g,3,none⟩=some a3∧w.frozen? ⟨g,0,none⟩=false∧w.frozen? ⟨g,1,none⟩=false∧w.frozen? ⟨g,2,none⟩=false∧w.frozen? ⟨g,3,none⟩=false:=⟨(blk_cell h 0).trans rfl,(blk_cell h 1).trans rfl,(blk_cell h 2).trans rfl,(blk_cell h 3).trans rfl,blk_frozen h 0,blk_frozen h 1,blk_frozen h 2,blk_frozen h 3⟩
theorem bz6 {w:World} {g:Nat} {a0 a1 a2 a3 a4 a5:Value} {t:TypeId} (h:w.heap[g]?=some (.cells #[a0,a1,a2,a3,a4,a5] t (0,0))):w.cell? ⟨g,0,none⟩=some a0∧w.cell? ⟨g,1,none⟩=some a1∧w.cell? ⟨g,2,none⟩=some a2∧w.cell? ⟨g,3,none⟩=some a3∧w.cell? ⟨g,4,none⟩=some a4∧w.cell? ⟨g,5,none⟩=some a5∧w.frozen? ⟨g,0,none⟩=false∧w.frozen? ⟨g,1,none⟩=false∧w.frozen? ⟨g,2,none⟩=false∧w.frozen? ⟨g,3,none⟩=false∧w.frozen? ⟨g,4,none⟩=false∧w.frozen? ⟨g,5,none⟩=false:=⟨(blk_cell h 0).trans rfl,(blk_cell h 1).trans rfl,(blk_cell h 2).trans rfl,(blk_cell h 3).trans rfl,(blk_cell h 4).trans rfl,(blk_cell h 5).trans rfl,blk_frozen h 0,blk_frozen h 1,blk_frozen h 2,blk_frozen h 3,blk_frozen h 4,blk_frozen h 5⟩
theorem bqt {α:Type _} [BEq α] [LawfulBEq α] {a b:α} (h:a=b):(a==b)=true∧(a != b)=false:=⟨beq_iff_eq.mpr h,bne_eq_false_iff_eq.mpr h⟩
theorem bqf {α:Type _} [BEq α] [LawfulBEq α] {a b:α} (h:¬a=b):(a==b)=false∧(a != b)=true:=⟨beq_eq_false_iff_ne.mpr h,bne_iff_ne.mpr h⟩
theorem bko {p:Prop} (h:p:=by (with_reducible repeat (first | refine blk_drewN ?_ _ | refine blk_drew ?_ | refine blk_alloc ?_ _));exact Aside0.out (by first | (with_reducible assumption) | assumption)):p:=h
theorem gwb {p:Prop} (h:p:=by rw [hg];exact below_size blw):p:=h
theorem nbk {p:Prop} (h:p:=by rw [hg];exact Nat.ne_of_lt (blk_lt bko)):p:=h
theorem bas {α β:Type} {x:Option α} {f:α→Option β} {b:β} (h:x.bind f=some b):∃ a,Aside0 (x=some a)∧f a=some b:=by
 obtain ⟨a,e,k⟩:=Option.bind_eq_some_iff.mp h
 exact ⟨a,⟨e⟩,k⟩
theorem bkf {p:Prop} (h:p:=by (repeat (first | (with_reducible first | refine blk_drewN ?_ _ | refine blk_drew ?_ | refine blk_alloc ?_ _) | refine blk_far ?_ (Aside0.out (by first | (with_reducible assumption) | assumption)) _));exact Aside0.out (by first | (with_reducible assumption) | assumption)):p:=h
section
open Go.Proofs.YtffojmgmpfjlhaaGreatDoorW.PrintLast
theorem pq {P:Program} {ops:Array Oper} {Q:Exit→Act→World→Prop} {md:Region.Mode} {S:World→Prop} {ds:List Nat} {i:Nat} {N:Option Tmp} {oi:Oper} {v:Value} {fuel:Nat} {l:Array Bool} {a:Act} {w:World} {a':Act} (l':Array Bool) (hi:ops[i]?=some oi) (hN:oi.dst=N) (h:wpAnyLast P md ops Q S ds fuel l' a' w) (hc:anyB md ops l l' i=true:=by kernel_rfl) (hQ:∀ c a w,Q (.panic c) (a.put oi.dst v) w→Q (.panic c) a w:=by exact fun _ _ _ h=>h) (hy:Yields P ops oi v a:=by refine Or.inl ⟨by rfl,?_⟩;intro w';go_simp;with_reducible rfl) (ha:a.put N v=a':=by simp only [Act.put,List.setIfInBounds_toArray,List.set_cons_zero,List.set_cons_succ,i64_w,i32_w];rfl):wpAnyLast P md ops Q S ds (fuel+1) l a w:=pure_ l' hi hN hc hQ hy ha h
theorem pz {P:Program} {ops:Array Oper} {Q:Exit→Act→World→Prop} {md:Region.Mode} {S:World→Prop} {ds:List Nat} {i:Nat} {N:Option Tmp} {oi:Oper} {v:Value} {fuel:Nat} {l:Array Bool} {a:Act} {w:World} {a':Act} (l':Array Bool) (hi:ops[i]?=some oi) (hN:oi.dst=N) {T} (hT:rtab md ops=T) (h:wpAnyLast P md ops Q S ds fuel l' a' w) (hc:anyT T l.toList l'.toList i=true:=by kernel_rfl) (hQ:∀ c a w,Q (.panic c) (a.put oi.dst v) w→Q (.panic c) a w:=by exact fun _ _ _ h=>h) (hy:Yields P ops oi v a:=by refine Or.inl ⟨by rfl,?_⟩;intro w';go_simp;with_reducible rfl) (ha:a.put N v=a':=by simp only [Act.put,List.setIfInBounds_toArray,List.set_cons_zero,List.set_cons_succ,i64_w,i32_w];rfl):wpAnyLast P md ops Q S ds (fuel+1) l a w:=pure_ l' hi hN (any_of hT hc) hQ hy ha h
theorem tq2 {P:Program} {ops:Array Oper} {Q:Exit→Act→World→Prop} {md:Region.Mode} {S:World→Prop} {ds:List Nat} {i:Nat} {N:Option Tmp} {oi:Oper} {v:Value} {fuel:Nat} {l:Array Bool} {a:Act} {w:World} {a':Act} (l':Array Bool) (hi:ops[i]?=some oi) (hN:oi.dst=N) (hS:S w) (h:wpAnyLast P md ops Q S ds fuel l' a' w) (hc:takeB md ops ds l l' i=true:=by kernel_rfl) (hQ:∀ c a w,Q (.panic c) (a.put oi.dst v) w→Q (.panic c) a w:=by exact fun _ _ _ h=>h) (hy:YieldsIf P ops S oi v a:=by refine Or.inl ⟨by rfl,?_⟩;rintro w' ⟨s0,s1⟩;go_simp;with_reducible rfl) (ha:a.put N v=a':=by simp only [Act.put,List.setIfInBounds_toArray,List.set_cons_zero,List.set_cons_succ,i64_w,i32_w];rfl):wpAnyLast P md ops Q S ds (fuel+1) l a w:=take_ l' hi hN hc hQ hy hS ha h
theorem tq4 {P:Program} {ops:Array Oper} {Q:Exit→Act→World→Prop} {md:Region.Mode} {S:World→Prop} {ds:List Nat} {i:Nat} {N:Option Tmp} {oi:Oper} {v:Value} {fuel:Nat} {l:Array Bool} {a:Act} {w:World} {a':Act} (l':Array Bool) (hi:ops[i]?=some oi) (hN:oi.dst=N) (hS:S w) (h:wpAnyLast P md ops Q S ds fuel l' a' w) (hc:takeB md ops ds l l' i=true:=by kernel_rfl) (hQ:∀ c a w,Q (.panic c) (a.put oi.dst v) w→Q (.panic c) a w:=by exact fun _ _ _ h=>h) (hy:YieldsIf P ops S oi v a:=by refine Or.inl ⟨by rfl,?_⟩;rintro w' ⟨s0,s1,s2,s3⟩;go_simp;with_reducible rfl) (ha:a.put N v=a':=by simp only [Act.put,List.setIfInBounds_toArray,List.set_cons_zero,List.set_cons_succ,i64_w,i32_w];rfl):wpAnyLast P md ops Q S ds (fuel+1) l a w:=take_ l' hi hN hc hQ hy hS ha h
theorem tq11 {P:Program} {ops:Array Oper} {Q:Exit→Act→World→Prop} {md:Region.Mode} {S:World→Prop} {ds:List Nat} {i:Nat} {N:Option Tmp} {oi:Oper} {v:Value} {fuel:Nat} {l:Array Bool} {a:Act} {w:World} {a':Act} (l':Array Bool) (hi:ops[i]?=some oi) (hN:oi.dst=N) (hS:S w) (h:wpAnyLast P md ops Q S ds fuel l' a' w) (hc:takeB md ops ds l l' i=true:=by kernel_rfl) (hQ:∀ c a w,Q (.panic c) (a.put oi.dst v) w→Q (.panic c) a w:=by exact fun _ _ _ h=>h) (hy:YieldsIf P ops S oi v a:=by refine Or.inl ⟨by rfl,?_⟩;rintro w' ⟨s0,s1,s2,s3,s4,s5,s6,s7,s8,s9,s10⟩;go_simp;with_reducible rfl) (ha:a.put N v=a':=by simp only [Act.put,List.setIfInBounds_toArray,List.set_cons_zero,List.set_cons_succ,i64_w,i32_w];rfl):wpAnyLast P md ops Q S ds (fuel+1) l a w:=take_ l' hi hN hc hQ hy hS ha h
theorem tz2 {P:Program} {ops:Array Oper} {Q:Exit→Act→World→Prop} {md:Region.Mode} {S:World→Prop} {ds:List Nat} {i:Nat} {N:Option Tmp} {oi:Oper} {v:Value} {fuel:Nat} {l:Array Bool} {a:Act} {w:World} {a':Act} (l':Array Bool) (hi:ops[i]?=some oi) (hN:oi.dst=N) {T} {B:List Nat} (hT:rtab md ops=T) (hB:waitsOk T.2 B=true) (hS:S w) (h:wpAnyLast P md ops Q S ds fuel l' a' w) (hc:takeW T B ds l.toList l'.toList i=true:=by kernel_rfl) (hQ:∀ c a w,Q (.panic c) (a.put oi.dst v) w→Q (.panic c) a w:=by exact fun _ _ _ h=>h) (hy:YieldsIf P ops S oi v a:=by refine Or.inl ⟨by rfl,?_⟩;rintro w' ⟨s0,s1⟩;go_simp;with_reducible rfl) (ha:a.put N v=a':=by simp only [Act.put,List.setIfInBounds_toArray,List.set_cons_zero,List.set_cons_succ,i64_w,i32_w];rfl):wpAnyLast P md ops Q S ds (fuel+1) l a w:=take_ l' hi hN (take_ofW hT hB hc) hQ hy hS ha h
theorem tz4 {P:Program} {ops:Array Oper} {Q:Exit→Act→World→Prop} {md:Region.Mode} {S:World→Prop} {ds:List Nat} {i:Nat} {N:Option Tmp} {oi:Oper} {v:Value} {fuel:Nat} {l:Array Bool} {a:Act} {w:World} {a':Act} (l':Array Bool) (hi:ops[i]?=some oi) (hN:oi.dst=N) {T} {B:List Nat} (hT:rtab md ops=T) (hB:waitsOk T.2 B=true) (hS:S w) (h:wpAnyLast P md ops Q S ds fuel l' a' w) (hc:takeW T B ds l.toList l'.toList i=true:=by kernel_rfl) (hQ:∀ c a w,Q (.panic c) (a.put oi.dst v) w→Q (.panic c) a w:=by exact fun _ _ _ h=>h) (hy:YieldsIf P ops S oi v a:=by refine Or.inl ⟨by rfl,?_⟩;rintro w' ⟨s0,s1,s2,s3⟩;go_simp;with_reducible rfl) (ha:a.put N v=a':=by simp only [Act.put,List.setIfInBounds_toArray,List.set_cons_zero,List.set_cons_succ,i64_w,i32_w];rfl):wpAnyLast P md ops Q S ds (fuel+1) l a w:=take_ l' hi hN (take_ofW hT hB hc) hQ hy hS ha h
theorem tz11 {P:Program} {ops:Array Oper} {Q:Exit→Act→World→Prop} {md:Region.Mode} {S:World→Prop} {ds:List Nat} {i:Nat} {N:Option Tmp} {oi:Oper} {v:Value} {fuel:Nat} {l:Array Bool} {a:Act} {w:World} {a':Act} (l':Array Bool) (hi:ops[i]?=some oi) (hN:oi.dst=N) {T} {B:List Nat} (hT:rtab md ops=T) (hB:waitsOk T.2 B=true) (hS:S w) (h:wpAnyLast P md ops Q S ds fuel l' a' w) (hc:takeW T B ds l.toList l'.toList i=true:=by kernel_rfl) (hQ:∀ c a w,Q (.panic c) (a.put oi.dst v) w→Q (.panic c) a w:=by exact fun _ _ _ h=>h) (hy:YieldsIf P ops S oi v a:=by refine Or.inl ⟨by rfl,?_⟩;rintro w' ⟨s0,s1,s2,s3,s4,s5,s6,s7,s8,s9,s10⟩;go_simp;with_reducible rfl) (ha:a.put N v=a':=by simp only [Act.put,List.setIfInBounds_toArray,List.set_cons_zero,List.set_cons_succ,i64_w,i32_w];rfl):wpAnyLast P md ops Q S ds (fuel+1) l a w:=take_ l' hi hN (take_ofW hT hB hc) hQ hy hS ha h
theorem nrmq {P:Program} {ops:Array Oper} {Q:Exit→Act→World→Prop} {md:Region.Mode} {S:World→Prop} {ds:List Nat} {fuel:Nat} {l:Array Bool} {a:Act} {w:World} {a':Act} (h:wpAnyLast P md ops Q S ds fuel l a' w) (ha:a=a':=by show Act.put _ (some _) _=_;simp only [Act.put,List.setIfInBounds_toArray,List.set_cons_zero,List.set_cons_succ,i64_w,i32_w];rfl):wpAnyLast P md ops Q S ds fuel l a w:=norm_ ha h
theorem gl {P:Program} {ops:Array Oper} {Q:Exit→Act→World→Prop} {rest:List Oper} {oi:Oper} {a:Act} {w:World} (N:Option Tmp) {f:FuncId} {fn:Func} {ars:Array Operand} {ts:Array TypeId} (hf:P.funcs[f]?=some fn) (args:Array Value) (h:Calls P f args w fun e w'=>∃ v,e=.returned v∧wpList P ops Q rest (a.put N v) w') (hd:oi.dst=N:=by exact rfl) (hg:oi.guard=none:=by exact rfl) (hname:(fn.name == "runtime.NumGoroutine")=false:=by kernel_rfl) (hb:fn.body.isSome=true:=by exact rfl) (hop:oi.op=.call { callee:=.value (.func f),args:=ars,argTypes:=ts }:=by exact rfl) (hargs:ars.map a.eval=args:=by (try simp only [List.map_toArray,List.map_cons,List.map_nil]);first | done | rfl | (simp only [List.length_drop,List.length_take];rfl)):wpList P ops Q (oi :: rest) a w:=goesL_ N hd hg hf hname hb args hop hargs h
theorem bxe {P:Program} {ops:Array Oper} {rest:List Oper} {o:Oper} {a:Act} {Q:Exit→Act→World→Prop} {W:World} {N:Tmp} {cs:Array Value} {t:TypeId} (h:∀ g,g=W.heap.size→∀ w1,w1.heap[g]?=some (.cells cs t (0,0))→Below W.heap.size W w1→wpList P ops Q rest (a.put o.dst (.pointer (some ⟨g,0,none⟩))) w1) (hgd:o.guard=none:=by rfl) (hd:o.dst=some N:=by rfl) (hrun:(execOp a.eval o).run P W=.ok (.value (.pointer (some ⟨W.heap.size,0,none⟩))) (W.alloc (.cells cs t (0,0))):=by first | (go_simp;done) | (go_simp;rfl)):wpList P ops Q (o :: rest) a W:=box_event hgd hd hrun h
end
end Go.Proofs.YtffojmgmpfjlhaaGreatDoor
namespace Go.Proofs.YtffojmgmpfjlhaaGreatDoor.Q
open Go.Proofs.YtffojmgmpfjlhaaGreatDoor Go.RowKit Go.Proofs.YtffojmgmpfjlhaaGreatDoorW.PrintWords Go.Proofs.YtffojmgmpfjlhaaGreatDoorW.PrintLast Go.Proofs.YtffojmgmpfjlhaaGreatDoorW.PrintMore
attribute [local go_sem] max2_int min2_int max_two min_two max_three min_three max_four min_four
def errW:Option Int→Value
 | none=>.nilIface
 | some c=>.iface 0 (.int .i64 c)
theorem errW_none:errW none=.nilIface:=rfl
theorem errW_some (c:Int):errW (some c)=.iface 0 (.int .i64 c):=rfl
theorem info5:(Tryz.prog.info? 5).map (fun i=>(i.zero,i.size,i.bytes))=some (some (.int .u8 0),1,1):=by kernel_rfl
theorem info9:(Tryz.prog.info? 9).map (fun i=>(i.zero,i.size,i.bytes))=some (some (.string ⟨#[]⟩),1,16):=by kernel_rfl
theorem info61:(Tryz.prog.info? 61).map (fun i=>(i.zero,i.size,i.bytes))=some (some (.agg #[(.string ⟨#[]⟩),(.int .i64 0),(.int .i64 0)]),3,32):=by kernel_rfl
structure S61 where
 f0:ByteArray
 f1:Int
 f2:Int
def z61:S61:=⟨(⟨#[]⟩:zB),(0:Int),(0:Int)⟩
def k61:Kd S61:=Kd.iso (Kd.pair Kd.string (Kd.pair (Kd.int .i64) (Kd.int .i64))) (fun x:S61=>(x.f0,x.f1,x.f2))
theorem k61_open {w:World} {x:S61} {cs:List Value} (h:k61.K w x cs):cs=[.string x.f0,.int .i64 x.f1,.int .i64 x.f2]:=by
 obtain ⟨_,_,rfl,rfl,⟨_,_,rfl,rfl,rfl⟩⟩:=h;exact rfl
theorem k61_mkM (w:World) (base:Nat) (ok:Nat→Prop) (x:S61)  : k61.M w base ok x [.string x.f0,.int .i64 x.f1,.int .i64 x.f2]:=⟨[.string x.f0],[.int .i64 x.f1,.int .i64 x.f2],rfl,rfl,⟨[.int .i64 x.f1],[.int .i64 x.f2],rfl,rfl,rfl⟩⟩
def rd_T61 (xs:List S61) (i:Int):S61:=xs.getD i.toNat z61
theorem at_T61 {w:World} {A:Option Addr} {n:Nat} {xs:List S61} (h:Kd.C k61 w A n xs) (i:Int) (h0:0≤i) (h1:i < n):∃ ad , A=some ad∧w.cell? (ad.add (i.toNat * 3))=some (.string (rd_T61 xs i).f0)∧w.cell? ⟨(ad.add (i.toNat * 3)).block,(ad.add (i.toNat * 3)).off+1,none⟩=some (.int .i64 (rd_T61 xs i).f1)∧w.cell? ⟨(ad.add (i.toNat * 3)).block,(ad.add (i.toNat * 3)).off+2,none⟩=some (.int .i64 (rd_T61 xs i).f2):=by
 obtain ⟨ad,c,e,_,hK,hc0⟩:=Kd.C_get h z61 i h0 h1;have hc:∀ j u,c[j]?=some u→w.cell? (ad.add (i.toNat * 3+j))=some u:=hc0;obtain rfl:=k61_open hK;exact ⟨ad,e,hc 0 _ rfl,by rw [← add_field _ _ 1 (by omega)];exact hc 1 _ rfl,by rw [← add_field _ _ 2 (by omega)];exact hc 2 _ rfl⟩
structure S23 where
 f0:Int
 f1:Int
 f2:Int
 f3:Int
def z23:S23:=⟨(0:Int),(0:Int),(0:Int),(0:Int)⟩
theorem eqA23 (d:Nat) (w:World) (x0 y0:Int) (x1 y1:Int) (x2 y2:Int) (x3 y3:Int) :
  (Op.equalIn (d+2) 23 (.agg #[.int .i64 x0,.int .i64 x1,.int .i64 x2,.int .i64 x3]) (.agg #[.int .i64 y0,.int .i64 y1,.int .i64 y2,.int .i64 y3])).run Tryz.prog w=.ok (x0 == y0 && (x1 == y1 && (x2 == y2 && (x3 == y3)))) w:=by
 refine eqA_of Tryz.underlying23 (by kernel_rfl) ?_;refine eqf_cons (by rfl) (by go_simp;rfl) (by go_simp;rfl) (by go_simp) ?_;refine eqf_cons (by rfl) (by go_simp;rfl) (by go_simp;rfl) (by go_simp) ?_;refine eqf_cons (by rfl) (by go_simp;rfl) (by go_simp;rfl) (by go_simp) ?_;exact eqf_last (by rfl) (by go_simp;rfl) (by go_simp;rfl) (by go_simp)
def insn_hasA.f (a0:Int):Option (Bool):=if a0≥1 then (if a0≤5 then (some true) else (some (a0 == 7))) else (some (a0 == 7))
theorem insn_hasA.calls (a0:Int) (r:Bool) (w:World) (h:insn_hasA.f a0=some r) :
  Calls Tryz.prog 57 #[.int .i64 a0] w fun e w'=>e=.returned (.bool r)∧Drawn0 w w':=by
 unfold insn_hasA.f at h;have H:=h;clear h;by_cases c2:a0≥1
 ·rw [if_pos c2] at H;have c2b0:decide (1≤a0)=true:=decide_eq_true c2;clear c2;by_cases c3:a0≤5
  ·rw [if_pos c3] at H;have c3b0:=decide_eq_true c3;clear c3;obtain rfl:=Option.some.inj H;go_enter Tryz.func57,Tryz.ntmps57
   go_wp2;go_ret;exact ⟨by first | rfl | (simp;done) | (simp [*];done),by repeat (first | exact Drawn0.refl _ | apply Drawn0.step)⟩
  ·rw [if_neg c3] at H;have c3b0:=decide_eq_false c3;clear c3;obtain rfl:=Option.some.inj H;go_enter Tryz.func57,Tryz.ntmps57
   go_wp2;go_ret;exact ⟨by first | rfl | (simp;done) | (simp [*];done),by repeat (first | exact Drawn0.refl _ | apply Drawn0.step)⟩
 ·rw [if_neg c2] at H;have c2b0:decide (1≤a0)=false:=decide_eq_false c2;clear c2;obtain rfl:=Option.some.inj H;go_enter Tryz.func57,Tryz.ntmps57
  go_wp2;go_ret;exact ⟨by first | rfl | (simp;done) | (simp [*];done),by repeat (first | exact Drawn0.refl _ | apply Drawn0.step)⟩
def insn_hasB.f (a0:Int):Option (Bool):=if a0=1 then (some true) else (some (a0 == 5))
theorem insn_hasB.calls (a0:Int) (r:Bool) (w:World) (h:insn_hasB.f a0=some r) :
  Calls Tryz.prog 58 #[.int .i64 a0] w fun e w'=>e=.returned (.bool r)∧Drawn0 w w':=by
 unfold insn_hasB.f at h;have H:=h;clear h;by_cases c2:a0=1
 ·rw [if_pos c2] at H;obtain ⟨c2b0,c2b1⟩:=bqt c2;clear c2;obtain rfl:=Option.some.inj H;go_enter Tryz.func58,Tryz.ntmps58
  go_wp2;go_ret;exact ⟨by first | rfl | (simp;done) | (simp [*];done),by repeat (first | exact Drawn0.refl _ | apply Drawn0.step)⟩
 ·rw [if_neg c2] at H;obtain ⟨c2b0,c2b1⟩:=bqf c2;obtain rfl:=Option.some.inj H;go_enter Tryz.func58,Tryz.ntmps58
  go_wp2;go_ret;exact ⟨by first | rfl | (simp;done) | (simp [*];done),by repeat (first | exact Drawn0.refl _ | apply Drawn0.step)⟩
def insn_bytesOf.j0:Nat→Int→Bool→Option (Int)
 | 0,_,_=>none
 | k+1,x3,x6=>if x6=true then (some 1) else (if x3=6 then (some 2) else (if x3=7 then (some 2) else (some 0)))
def insn_bytesOf.f (k:Nat) (a0:Int):Option (Int):=if a0=3 then (some 10) else (if a0=4 then (insn_bytesOf.j0 k a0 (a0 == 4)) else (if a0=5 then (insn_bytesOf.j0 k a0 (a0 == 5)) else (insn_bytesOf.j0 k a0 (a0 == 8))))
theorem insn_bytesOf.mono_l:∀ k,(∀ y0 y1,LeO (insn_bytesOf.j0 k y0 y1) (insn_bytesOf.j0 (k+1) y0 y1))
 | 0=>fun _ _ r h=>by simp [insn_bytesOf.j0] at h
 | k+1=>by
  have ih0:=insn_bytesOf.mono_l k
  ·intro y0 y1;unfold insn_bytesOf.j0;repeat' first
   | (with_reducible exact ih0 _ _)
   | (with_reducible exact LeO.refl _)
   | (with_reducible exact LeO.none _)
   | (with_reducible refine LeO.ite ?_ ?_)
   | (with_reducible refine LeO.bind ?_ (fun _=>?_))
   | exact LeO.none _
   | refine LeO.ite ?_ ?_
   | refine LeO.bind ?_ (fun _=>?_)
theorem insn_bytesOf.mono:∀ a0 k,LeO (insn_bytesOf.f k a0) (insn_bytesOf.f (k+1) a0):=by
 intro a0 k;have ih0:=insn_bytesOf.mono_l k;unfold insn_bytesOf.f;repeat' first
   | (with_reducible exact ih0 _ _)
   | (with_reducible exact LeO.refl _)
   | (with_reducible exact LeO.none _)
   | (with_reducible refine LeO.ite ?_ ?_)
   | (with_reducible refine LeO.bind ?_ (fun _=>?_))
   | exact LeO.none _
   | refine LeO.ite ?_ ?_
   | refine LeO.bind ?_ (fun _=>?_)
theorem insn_bytesOf.calls (k:Nat) (a0:Int) (r:Int) (w:World) (h:insn_bytesOf.f k a0=some r) :
  Calls Tryz.prog 89 #[.int .i64 a0] w fun e w'=>e=.returned (.int .i64 r)∧Drawn0 w w':=by
 unfold insn_bytesOf.f at h;have H:=h;clear h;by_cases c2:a0=3
 ·rw [if_pos c2] at H;obtain ⟨c2b0,c2b1⟩:=bqt c2;clear c2;obtain rfl:=Option.some.inj H;go_enter Tryz.func89,Tryz.ntmps89
  go_wp2;go_ret;exact ⟨by first | rfl | (simp;done) | (simp [*];done),by repeat (first | exact Drawn0.refl _ | apply Drawn0.step)⟩
 ·rw [if_neg c2] at H;obtain ⟨c2b0,c2b1⟩:=bqf c2;have HC3:=Aside0.mk H;clear H;go_enter Tryz.func89,Tryz.ntmps89
  go_upto_if 6 with (fail)
  go_cut [6] (fun v6 wc=>∃ (kq:Nat) (x6_2:Bool),v6=.bool x6_2∧Aside0 (insn_bytesOf.j0 kq a0 x6_2=some r)∧Aside0 (kq≤k)∧Drawn0 w wc)
  case first =>
   have H:=HC3.out;clear HC3;by_cases c4:a0=4
   ·rw [if_pos c4] at H;obtain ⟨c4b0,c4b1⟩:=bqt c4;clear c4;(first | rw [c4b0] | (simp only [i64_w,i32_w];rw [c4b0]) | skip);have H':=Aside0.mk H;clear H;go_wp2;go_meet
    case rel=>exact ⟨_,((a0 == 4)),rsd,H',⟨by first | omega | exact Nat.le_refl _⟩,by repeat (first | exact Drawn0.refl _ | apply Drawn0.step)⟩
   ·rw [if_neg c4] at H;obtain ⟨c4b0,c4b1⟩:=bqf c4;(first | rw [c4b0] | (simp only [i64_w,i32_w];rw [c4b0]) | skip);by_cases c5:a0=5
    ·rw [if_pos c5] at H;obtain ⟨c5b0,c5b1⟩:=bqt c5;clear c5;have H':=Aside0.mk H;clear H;go_wp2;go_meet
     case rel=>exact ⟨_,((a0 == 5)),rsd,H',⟨by first | omega | exact Nat.le_refl _⟩,by repeat (first | exact Drawn0.refl _ | apply Drawn0.step)⟩
    ·rw [if_neg c5] at H;obtain ⟨c5b0,c5b1⟩:=bqf c5;have H':=Aside0.mk H;clear H;go_wp2;go_meet
     case rel=>exact ⟨_,((a0 == 8)),rsd,H',⟨by first | omega | exact Nat.le_refl _⟩,by repeat (first | exact Drawn0.refl _ | apply Drawn0.step)⟩
  case rest =>
   clear HC3;try clear c2
   try clear c2b0
   try clear c2b1
   obtain ⟨kq,x6_2,rfl,HA,HJ2,⟨mc2,rfl⟩⟩:=hcut;cases kq with
   | zero=>exact absurd HA.out (by simp [insn_bytesOf.j0])
   | succ kj2 =>
    have H:=HA.out;clear HA;simp only [insn_bytesOf.j0] at H;by_cases c6:x6_2=true
    ·subst c6;rw [if_pos rfl] at H;obtain rfl:=Option.some.inj H;go_wp2;go_ret;exact ⟨by first | rfl | (simp;done) | (simp [*];done),by repeat (first | exact Drawn0.refl _ | apply Drawn0.step)⟩
    ·replace c6:=Bool.eq_false_iff.mpr c6;subst c6;rw [if_neg (show ¬ (false=true) by decide)] at H;by_cases c7:a0=6
     ·rw [if_pos c7] at H;obtain ⟨c7b0,c7b1⟩:=bqt c7;clear c7;obtain rfl:=Option.some.inj H;go_wp2;go_ret;exact ⟨by first | rfl | (simp;done) | (simp [*];done),by repeat (first | exact Drawn0.refl _ | apply Drawn0.step)⟩
     ·rw [if_neg c7] at H;obtain ⟨c7b0,c7b1⟩:=bqf c7;by_cases c8:a0=7
      ·rw [if_pos c8] at H;obtain ⟨c8b0,c8b1⟩:=bqt c8;clear c8;obtain rfl:=Option.some.inj H;go_wp2;go_ret;exact ⟨by first | rfl | (simp;done) | (simp [*];done),by repeat (first | exact Drawn0.refl _ | apply Drawn0.step)⟩
      ·rw [if_neg c8] at H;obtain ⟨c8b0,c8b1⟩:=bqf c8;obtain rfl:=Option.some.inj H;go_wp2;go_ret;exact ⟨by first | rfl | (simp;done) | (simp [*];done),by repeat (first | exact Drawn0.refl _ | apply Drawn0.step)⟩
def insn_fits.f (k:Nat) (a0:Int) (a1:Int):Option (Bool):=if a0=3 then (some true) else (if a0=8 then (if a1≥0 then (some (decide (a1≤127))) else (some false)) else ((insn_bytesOf.f k a0).bind fun t101=>(if t101=0 then (some (a1 == 0)) else (if t101=1 then (if a1≥(-64) then (some (decide (a1 < 64))) else (some false)) else (if t101=2 then (if a1≥(-8192) then (some (decide (a1 < 8192))) else (some false)) else (if a1≥(-1) then (some (decide (a1 < 1))) else (some false)))))))
theorem insn_fits.mono:∀ a0 a1 k,LeO (insn_fits.f k a0 a1) (insn_fits.f (k+1) a0 a1):=by
 intro a0 a1 k;unfold insn_fits.f;repeat' first
   | (with_reducible exact insn_bytesOf.mono _ _)
   | (with_reducible exact LeO.refl _)
   | (with_reducible exact LeO.none _)
   | (with_reducible refine LeO.ite ?_ ?_)
   | (with_reducible refine LeO.bind ?_ (fun _=>?_))
   | exact LeO.none _
   | refine LeO.ite ?_ ?_
   | refine LeO.bind ?_ (fun _=>?_)
theorem insn_fits.q1 {p:Prop} (h:p:=by
 go_enter Tryz.func80,Tryz.ntmps80
 go_wp2_with (first | ((with_reducible refine gate_callee (f:=89) rfl ?_);refine gl (some 18) Tryz.func89 #[.int .i64 a0] ?_;(with_reducible refine (insn_bytesOf.calls k a0 _ _ A6.out).mono ?_);rintro e w' ⟨rfl,⟨nd,rfl⟩⟩;refine ⟨_,rfl,?_⟩))
 go_ret;exact ⟨by first | rfl | (simp;done) | (simp [*];done),by repeat (first | exact Drawn0.refl _ | apply Drawn0.step)⟩):p:=h
theorem insn_fits.calls (k:Nat) (a0:Int) (a1:Int) (r:Bool) (w:World) (h:insn_fits.f k a0 a1=some r) :
  Calls Tryz.prog 80 #[.int .i64 a0,.int .i64 a1] w fun e w'=>e=.returned (.bool r)∧Drawn0 w w':=by
 unfold insn_fits.f at h;have H:=h;clear h;by_cases c3:a0=3
 ·rw [if_pos c3] at H;obtain ⟨c3b0,c3b1⟩:=bqt c3;clear c3;obtain rfl:=Option.some.inj H;go_enter Tryz.func80,Tryz.ntmps80
  go_wp2;go_ret;exact ⟨by first | rfl | (simp;done) | (simp [*];done),by repeat (first | exact Drawn0.refl _ | apply Drawn0.step)⟩
 ·rw [if_neg c3] at H;obtain ⟨c3b0,c3b1⟩:=bqf c3;by_cases c4:a0=8
  ·rw [if_pos c4] at H;obtain ⟨c4b0,c4b1⟩:=bqt c4;clear c4;by_cases c5:a1≥0
   ·rw [if_pos c5] at H;have c5b0:decide (0≤a1)=true:=decide_eq_true c5;clear c5;obtain rfl:=Option.some.inj H;go_enter Tryz.func80,Tryz.ntmps80
    go_wp2;go_ret;exact ⟨by first | rfl | (simp;done) | (simp [*];done),by repeat (first | exact Drawn0.refl _ | apply Drawn0.step)⟩
   ·rw [if_neg c5] at H;have c5b0:decide (0≤a1)=false:=decide_eq_false c5;clear c5;obtain rfl:=Option.some.inj H;go_enter Tryz.func80,Tryz.ntmps80
    go_wp2;go_ret;exact ⟨by first | rfl | (simp;done) | (simp [*];done),by repeat (first | exact Drawn0.refl _ | apply Drawn0.step)⟩
  ·rw [if_neg c4] at H;obtain ⟨c4b0,c4b1⟩:=bqf c4;obtain ⟨t101,A6,H⟩:=bas H;(try dsimp only at H);by_cases c7:t101=0
   ·rw [if_pos c7] at H;obtain ⟨c7b0,c7b1⟩:=bqt c7;clear c7;obtain rfl:=Option.some.inj H;exact insn_fits.q1
   ·rw [if_neg c7] at H;obtain ⟨c7b0,c7b1⟩:=bqf c7;by_cases c8:t101=1
    ·rw [if_pos c8] at H;obtain ⟨c8b0,c8b1⟩:=bqt c8;clear c8;by_cases c9:a1≥(-64)
     ·rw [if_pos c9] at H;have c9b0:decide ((-64)≤a1)=true:=decide_eq_true c9;clear c9;obtain rfl:=Option.some.inj H;exact insn_fits.q1
     ·rw [if_neg c9] at H;have c9b0:decide ((-64)≤a1)=false:=decide_eq_false c9;clear c9;obtain rfl:=Option.some.inj H;exact insn_fits.q1
    ·rw [if_neg c8] at H;obtain ⟨c8b0,c8b1⟩:=bqf c8;by_cases c10:t101=2
     ·rw [if_pos c10] at H;obtain ⟨c10b0,c10b1⟩:=bqt c10;clear c10;by_cases c11:a1≥(-8192)
      ·rw [if_pos c11] at H;have c11b0:decide ((-8192)≤a1)=true:=decide_eq_true c11;clear c11;obtain rfl:=Option.some.inj H;exact insn_fits.q1
      ·rw [if_neg c11] at H;have c11b0:decide ((-8192)≤a1)=false:=decide_eq_false c11;clear c11;obtain rfl:=Option.some.inj H;exact insn_fits.q1
     ·rw [if_neg c10] at H;obtain ⟨c10b0,c10b1⟩:=bqf c10;by_cases c12:a1≥(-1)
      ·rw [if_pos c12] at H;have c12b0:decide ((-1)≤a1)=true:=decide_eq_true c12;clear c12;obtain rfl:=Option.some.inj H;exact insn_fits.q1
      ·rw [if_neg c12] at H;have c12b0:decide ((-1)≤a1)=false:=decide_eq_false c12;clear c12;obtain rfl:=Option.some.inj H;exact insn_fits.q1
end Go.Proofs.YtffojmgmpfjlhaaGreatDoor.Q
