/- Parts of the proof: see the last text -/
import Derived.Test.YtffojmgmpfjlhaaGreatDoorInsS9
import Derived.Carry
import Derived.Outline
set_option maxHeartbeats 8000000
set_option maxRecDepth 100000
set_option linter.unusedVariables false
set_option linter.unusedSimpArgs false
namespace Go.Proofs.YtffojmgmpfjlhaaGreatDoor
open Go.RowKit Go.Proofs.Ix YtffojmgmpfjlhaaGreatDoorW.PrintWords Go.ChangeShapes Go.WideShapes Go.MapKept Go.Maps Go.ChangeMaps
def fnCells (l:List Nat):Array Value:=(l.map fun f=>Value.func (.func f) #[] #[]).toArray
def Fs (B:Nat) (w:World) (v:Value) (l:List Nat):Prop:=∃ g,v=.slice (some ⟨g,0,none⟩) l.length l.length∧B≤g∧w.heap[g]?=some (Obj.cells (fnCells l) 163 (0,0))
structure Fm (w0 w:World) (b:Nat) (ks:List (Int × List Nat)):Prop where
 blk:∃ es clock,w.heap[b]?=some (.map es clock)∧es.toList.length=ks.length∧∀ (i:Nat) (p:Int × List Nat),ks[i]?=some p→∃ e:MapEntry,es.toList[i]?=some e∧e.key=.int .i64 p.1∧Fs w0.heap.size w e.val p.2
 wf:∀ p∈ks,(Lit.int .i64 p.1).wf=true
 bel:Below w0.heap.size w0 w
 le:w0.heap.size≤b
theorem Fm.made {w0 w:World} (h:Below w0.heap.size w0 w):Fm w0 (w.alloc (.map #[] 0)) w.heap.size [] :=
 ⟨⟨#[],0,heap_own _ _,rfl,fun i p hp=>by simp at hp⟩,fun p hp=>by simp at hp,h.alloc h.size _,h.size⟩
theorem Fs.ext {B:Nat} {w w':World} {v:Value} {l:List Nat} (h:Fs B w v l) (hb:∀ (g:Nat) (c:Array Value),w.heap[g]?=some (Obj.cells c 163 (0,0))→w'.heap[g]?=w.heap[g]?):Fs B w' v l:=by
 obtain ⟨g,h1,h2,h3⟩:=h
 exact ⟨g,h1,h2,(hb g _ h3).trans h3⟩
theorem Fm.keys {w0 w:World} {ks:List (Int × List Nat)} {es:Array MapEntry} (hl:es.toList.length=ks.length)
  (he:∀ (i:Nat) (p:Int × List Nat),ks[i]?=some p→∃ e:MapEntry,es.toList[i]?=some e∧e.key=.int .i64 p.1∧Fs w0.heap.size w e.val p.2):∀ x∈es.toList,∃ p∈ks,x.key=.int .i64 p.1∧Fs w0.heap.size w x.val p.2:=by
 intro x hx
 obtain ⟨i,hi⟩:=List.mem_iff_getElem?.1 hx
 have hlt:i < ks.length:=by rw [← hl];exact (List.getElem?_eq_some_iff.1 hi).1
 obtain ⟨e,h1,h2,h3⟩:=he i ks[i] (List.getElem?_eq_getElem hlt)
 rw [hi] at h1
 cases h1
 exact ⟨_,List.getElem_mem hlt,h2,h3⟩
theorem wpList_insert_own {ops:Array Oper} {rest:List Oper} {oo:Oper} {a:Act} {Q:Exit→Act→World→Prop} (w0 w:World)
  (hg:oo.guard=none) (m x v:Operand) (hop:oo.op=Op.insert 181 m x v) (k:Int) (b:Nat) (ks:List (Int × List Nat)) (fs:List Nat) (F:Fm w0 w b ks)
  (hm:a.eval m=.map (some b)) (hx:a.eval x=.int .i64 k) (n:Nat) (hv:a.eval v=.slice (some ⟨w.heap.size,0,none⟩) n n) (hn:n=fs.length) (o:Obj) (ho:o=.cells (fnCells fs) 163 (0,0))
  (hk:(Lit.int .i64 k).wf=true) (hno:∀ p∈ks,p.1≠k)
  (hK:∀ w',Fm w0 w' b (ks ++ [(k,fs)])→wpList Tryz.prog ops Q rest (a.put oo.dst undef) w') :
  wpList Tryz.prog ops Q (oo :: rest) a (w.alloc o):=by
 obtain ⟨⟨es,clock,hb,hl,he⟩,hwf,hbel,hle⟩:=F
 subst hn
 have hbl:b < w.heap.size:=(Array.getElem?_eq_some_iff.1 hb).1
 have hb1:(w.alloc o).heap[b]?=some (.map es clock):=(Below.heap_alloc _ _ _ hbl).trans hb
 have hkeys:=Fm.keys (w0:=w0) (w:=w) hl he
 have hrun:=ins_raw (w.alloc o) b es clock hb1 k (.slice (some ⟨w.heap.size,0,none⟩) fs.length fs.length) hk (fun x hx=>by
  obtain ⟨p,hp,h1,_⟩:=hkeys x hx
  exact ⟨p.1,h1,hwf p hp⟩) (fun x hx=>by
  obtain ⟨p,hp,h1,_⟩:=hkeys x hx
  rw [h1]
  intro e
  injection e with _ e
  exact hno p hp e)
 refine wpList_plain hg fun K hK'=>?_
 unfold Oper.wp
 simp [execOp,hop,hm,hx,hv,hrun,Result.andThen]
 generalize hw':setBlock (w.alloc o) b (.map (es.push ⟨.int .i64 k,.slice (some ⟨w.heap.size,0,none⟩) fs.length fs.length,clock⟩) (clock+1))=w'
 have hot:∀ {i:Nat},i≠b→w'.heap[i]?=(w.alloc o).heap[i]?:=fun {i} hi=>by rw [← hw'];exact heap_setBlock_other hb1 _ hi
 have hsame:w'.heap[b]?=some (.map (es.push ⟨.int .i64 k,.slice (some ⟨w.heap.size,0,none⟩) fs.length fs.length,clock⟩) (clock+1)):=by rw [← hw'];exact heap_setBlock_same hb1 _
 have hnew:w'.heap[w.heap.size]?=some (Obj.cells (fnCells fs) 163 (0,0)):=(hot (by omega)).trans ((heap_own w o).trans (by rw [ho]))
 refine hK' _ _ (hK _ ⟨⟨_,_,hsame,by simp [hl],?_⟩,?_,?_,hle⟩)
 ·intro i p hp
  have hext:∀ (g:Nat) (c:Array Value),w.heap[g]?=some (Obj.cells c 163 (0,0))→w'.heap[g]?=w.heap[g]?:=by
   intro g c hc
   have hgl:g < w.heap.size:=(Array.getElem?_eq_some_iff.1 hc).1
   rw [hot (by rintro rfl;rw [hb] at hc;cases hc),Below.heap_alloc _ _ _ hgl]
  rw [Array.toList_push]
  by_cases hi:i < ks.length
  ·rw [List.getElem?_append_left hi] at hp
   obtain ⟨e,h1,h2,h3⟩:=he i p hp
   exact ⟨e,by rw [List.getElem?_append_left (by rw [hl];exact hi)];exact h1,h2,h3.ext hext⟩
  ·have hi':i=ks.length:=by
    have:=(List.getElem?_eq_some_iff.1 hp).1
    simp at this
    omega
   subst hi'
   rw [List.getElem?_append_right (Nat.le_refl _),Nat.sub_self] at hp
   cases hp
   refine ⟨⟨.int .i64 k,.slice (some ⟨w.heap.size,0,none⟩) fs.length fs.length,clock⟩,?_,rfl,w.heap.size,rfl,hbel.size,hnew⟩
   rw [List.getElem?_append_right (by rw [hl];exact Nat.le_refl _),hl,Nat.sub_self]
   rfl
 ·intro p hp
  rcases List.mem_append.1 hp with h | h
  ·exact hwf p h
  ·rw [List.mem_singleton] at h
   subst h
   exact hk
 ·have h1:Below w0.heap.size w0 (w.alloc o):=hbel.alloc hbel.size _
  refine ⟨by rw [← hw'];exact h1.os,by rw [← hw'];exact h1.tape,by rw [← hw'];exact h1.output,?_,fun j hj=>(hot (by omega)).trans (h1.block j hj)⟩
  rw [← hw']
  simpa [setBlock] using h1.size
theorem Fm.look {w0 w:World} {b:Nat} {ks:List (Int × List Nat)} (F:Fm w0 w b ks) (k:Int) (c:Bool) (hk:(Lit.int .i64 k).wf=true) :
  (∀ p∈ks,p.1≠k)∧(Instr.lookup 181 (.map (some b)) (.int .i64 k) c).run Tryz.prog w=.ok (if c then .tuple #[.slice none 0 0,.bool false] else .slice none 0 0) w ∨
  ∃ p∈ks,p.1=k∧∃ v,Fs w0.heap.size w v p.2∧(Instr.lookup 181 (.map (some b)) (.int .i64 k) c).run Tryz.prog w=.ok (if c then .tuple #[v,.bool true] else v) w:=by
 obtain ⟨⟨es,clock,hb,hl,he⟩,hwf,hbel,hle⟩:=F
 have hkeys:=Fm.keys (w0:=w0) (w:=w) hl he
 rcases look_raw w b es clock hb k c hk (fun x hx=>by
  obtain ⟨p,hp,h1,_⟩:=hkeys x hx
  exact ⟨p.1,h1,hwf p hp⟩) with ⟨h1,h2⟩ | ⟨e0,h1,h2,h3⟩
 ·refine .inl ⟨fun p hp e=>?_,h2⟩
  obtain ⟨i,hi⟩:=List.mem_iff_getElem?.1 hp
  obtain ⟨x,hx,hx2,_⟩:=he i p hi
  exact h1 x (List.mem_of_getElem? hx) (by rw [hx2,e])
 ·obtain ⟨p,hp,hpk,hfs⟩:=hkeys e0 h1
  rw [h2] at hpk
  injection hpk with _ hpk
  exact .inr ⟨p,hp,hpk.symm,e0.val,hfs,h3⟩
theorem wpList_insert_lit {ops:Array Oper} {rest:List Oper} {a:Act} {Q:Exit→Act→World→Prop} {ty:TypeId} {ps:String} {af:Array Edge} (w0 w:World)
  {m x v:Operand} {b:Nat} (ks:List (Int × List Nat)) (o:Obj) (k:Int) (fs:List Nat) (n:Nat)
  (hm:a.eval m=.map (some b)) (hx:a.eval x=.int .i64 k) (hv:a.eval v=.slice (some ⟨w.heap.size,0,none⟩) n n) (ho:o=.cells (fnCells fs) 163 (0,0)) (hn:n=fs.length)
  (hk:(Lit.int .i64 k).wf=true) (hno:∀ p∈ks,p.1≠k) (F:Fm w0 w b ks)
  (hK:∀ w',Fm w0 w' b (ks ++ [(k,fs)])→wpList Tryz.prog ops Q rest a w') :
  wpList Tryz.prog ops Q ({ dst:=none,op:=Op.insert 181 m x v,type:=ty,pos:=ps,after:=af,guard:=none } :: rest) a (w.alloc o) :=
 wpList_insert_own w0 w rfl m x v rfl k b ks fs F hm hx n hv hn o ho hk hno hK
def rdF:Rd→Nat
 | .a=>128 | .addr=>129 | .mem=>130 | .b=>131 | .num=>132 | .target=>133
def spL:List (Int × List Nat):=[(17,[128,129]),(18,[128,129]),(19,[129,128]),(20,[129,128]),(34,[128,130])]
def fmL:List (Int × List Nat):=[(1,[128,131]),(2,[128]),(3,[128,132]),(4,[128,132]),(5,[128,131,133]),(6,[133]),(7,[128,133]),(8,[132])]
theorem Fm.below {w0 w w':World} {b:Nat} {ks:List (Int × List Nat)} (F:Fm w0 w b ks) (h:Below w.heap.size w w'):Fm w0 w' b ks:=by
 obtain ⟨⟨es,clock,hb,hl,he⟩,hwf,hbel,hle⟩:=F
 have hlt:∀ {g:Nat} {o:Obj},w.heap[g]?=some o→w'.heap[g]?=some o:=fun {g o} hg=>(h.block g (Array.getElem?_eq_some_iff.1 hg).1).trans hg
 refine ⟨⟨es,clock,hlt hb,hl,fun i p hp=>?_⟩,hwf,hbel.trans (h.mono hbel.size),hle⟩
 obtain ⟨e,h1,h2,h3⟩:=he i p hp
 exact ⟨e,h1,h2,h3.ext fun g c hc=>(hlt hc).trans hc.symm⟩
theorem wf_small {k:Int} (h1:0≤k) (h2:k≤100):(Lit.int .i64 k).wf=true:=by
 have m1:IntKind.i64.min=-9223372036854775808:=by decide
 have m2:IntKind.i64.max=9223372036854775807:=by decide
 simp only [Lit.wf,m1,m2,Bool.and_eq_true,decide_eq_true_eq]
 omega
theorem Fm.no {w0 w:World} {b:Nat} {ks:List (Int × List Nat)} (F:Fm w0 w b ks) (k:Int) (c:Bool) (h1:0≤k) (h2:k≤100) (hk:∀ p∈ks,p.1≠k) :
  (Instr.lookup 181 (.map (some b)) (.int .i64 k) c).run Tryz.prog w=.ok (if c then .tuple #[.slice none 0 0,.bool false] else .slice none 0 0) w:=by
 rcases F.look k c (wf_small h1 h2) with h | ⟨p,hp,e,_⟩
 ·exact h.2
 ·exact absurd e (hk p hp)
theorem Fm.yes {w0 w:World} {b:Nat} {ks:List (Int × List Nat)} (F:Fm w0 w b ks) (k:Int) (c:Bool) (h1:0≤k) (h2:k≤100) (l:List Nat) (hin:(k,l)∈ks) (hk:∀ p∈ks,p.1=k→p.2=l) :
  ∃ v,Fs w0.heap.size w v l∧(Instr.lookup 181 (.map (some b)) (.int .i64 k) c).run Tryz.prog w=.ok (if c then .tuple #[v,.bool true] else v) w:=by
 rcases F.look k c (wf_small h1 h2) with h | ⟨p,hp,e,v,hv,hr⟩
 ·exact absurd rfl (h.1 _ hin)
 ·rw [hk p hp e] at hv
  exact ⟨v,hv,hr⟩
theorem operands_1 (op:Int) (l:List Nat) (w:World) (h1:0≤op) (h2:op≤100) (hin:(op,l)∈spL) (hu:∀ q∈spL,q.1=op→q.2=l):Calls Tryz.prog 102 #[.int .i64 op] w fun e w'=>∃ v,e=.returned v∧Fs w.heap.size w' v l∧Below w.heap.size w w':=by
 go_enter Tryz.func102,Tryz.ntmps102
 have hmm:=@run_makeMap Tryz.prog
 go_wp2_with (first | (refine wpList_insert_lit w _ [] _ 17 [128,129] 2 rfl rfl ?xp0 rfl rfl (by decide) (by decide) ?fp0 ?kp0;(case xp0=>first | rfl | simp [go_sem] | (simp [Act.eval]));(case fp0=>exact Fm.made (Below.refl _ _));intro w1 F1;simp only [List.nil_append,List.cons_append] at F1) | (refine wpList_insert_lit w _ [(17,[128,129])] _ 18 [128,129] 2 rfl rfl ?xp1 rfl rfl (by decide) (by decide) ?fp1 ?kp1;(case xp1=>first | rfl | simp [go_sem] | (simp [Act.eval]));(case fp1=>assumption);intro w1 F1;simp only [List.nil_append,List.cons_append] at F1) | (refine wpList_insert_lit w _ [(17,[128,129]),(18,[128,129])] _ 19 [129,128] 2 rfl rfl ?xp2 rfl rfl (by decide) (by decide) ?fp2 ?kp2;(case xp2=>first | rfl | simp [go_sem] | (simp [Act.eval]));(case fp2=>assumption);intro w1 F1;simp only [List.nil_append,List.cons_append] at F1) | (refine wpList_insert_lit w _ [(17,[128,129]),(18,[128,129]),(19,[129,128])] _ 20 [129,128] 2 rfl rfl ?xp3 rfl rfl (by decide) (by decide) ?fp3 ?kp3;(case xp3=>first | rfl | simp [go_sem] | (simp [Act.eval]));(case fp3=>assumption);intro w1 F1;simp only [List.nil_append,List.cons_append] at F1) | (refine wpList_insert_lit w _ [(17,[128,129]),(18,[128,129]),(19,[129,128]),(20,[129,128])] _ 34 [128,130] 2 rfl rfl ?xp4 rfl rfl (by decide) (by decide) ?fp4 ?kp4;(case xp4=>first | rfl | simp [go_sem] | (simp [Act.eval]));(case fp4=>assumption);intro w1 F1;simp only [List.nil_append,List.cons_append] at F1;obtain ⟨v,hfs,hl⟩:=F1.yes op true h1 h2 l hin hu;simp only [if_true] at hl))
 go_ret
 exact ⟨v,rfl,hfs,F1.bel⟩
def fmR (f:Int):List Nat:=if f=1 then [128,131] else if f=2 then [128] else if f=3 then [128,132] else if f=4 then [128,132] else if f=5 then [128,131,133] else if f=6 then [133] else if f=7 then [128,133] else if f=8 then [132] else []
def Fs0 (B:Nat) (w:World) (v:Value) (l:List Nat):Prop:=Fs B w v l∨(l=[]∧v=.slice none 0 0)
theorem Fm.form {w0 w:World} {b:Nat} (F:Fm w0 w b fmL) (f:Int) (h1:0≤f) (h2:f≤100) :
  ∃ v,Fs0 w0.heap.size w v (fmR f)∧(Instr.lookup 181 (.map (some b)) (.int .i64 f) false).run Tryz.prog w=.ok v w:=by
 by_cases h:1≤f∧f≤8
 ·obtain ⟨v,hv,hr⟩:=F.yes f false h1 h2 (fmR f) (by
   rcases (by omega:f=1∨f=2∨f=3∨f=4∨f=5∨f=6∨f=7∨f=8) with rfl | rfl | rfl | rfl | rfl | rfl | rfl | rfl <;> decide) (by
   rcases (by omega:f=1∨f=2∨f=3∨f=4∨f=5∨f=6∨f=7∨f=8) with rfl | rfl | rfl | rfl | rfl | rfl | rfl | rfl <;> decide)
  exact ⟨v,.inl hv,hr⟩
 ·refine ⟨.slice none 0 0,.inr ⟨?_,rfl⟩,F.no f false h1 h2 ?_⟩
  ·unfold fmR
   rw [if_neg (by omega),if_neg (by omega),if_neg (by omega),if_neg (by omega),if_neg (by omega),if_neg (by omega),if_neg (by omega),if_neg (by omega)]
  ·intro p hp e
   simp only [fmL,List.mem_cons,List.not_mem_nil,or_false] at hp
   rcases hp with rfl | rfl | rfl | rfl | rfl | rfl | rfl | rfl <;> simp at e <;> omega
theorem operands_2 (op:Int) (w:World) (hg:GW w) (h1:0≤op) (h2:op≤100) (hno:∀ q∈spL,q.1≠op) (hf1:0≤formM op) (hf2:formM op≤100) :
  Calls Tryz.prog 102 #[.int .i64 op] w fun e w'=>∃ v,e=.returned v∧Fs0 w.heap.size w' v (fmR (formM op))∧Below w.heap.size w w':=by
 go_enter Tryz.func102,Tryz.ntmps102
 have hmm:=@run_makeMap Tryz.prog
 go_upto_region 5 with (first | (refine wpList_insert_lit w _ [] _ 17 [128,129] 2 rfl rfl ?xp0 rfl rfl (by decide) (by decide) ?fp0 ?kp0;(case xp0=>first | rfl | simp [go_sem] | (simp [Act.eval]));(case fp0=>exact Fm.made (Below.refl _ _));intro w1 F1;simp only [List.nil_append,List.cons_append] at F1) | (refine wpList_insert_lit w _ [(17,[128,129])] _ 18 [128,129] 2 rfl rfl ?xp1 rfl rfl (by decide) (by decide) ?fp1 ?kp1;(case xp1=>first | rfl | simp [go_sem] | (simp [Act.eval]));(case fp1=>assumption);intro w1 F1;simp only [List.nil_append,List.cons_append] at F1) | (refine wpList_insert_lit w _ [(17,[128,129]),(18,[128,129])] _ 19 [129,128] 2 rfl rfl ?xp2 rfl rfl (by decide) (by decide) ?fp2 ?kp2;(case xp2=>first | rfl | simp [go_sem] | (simp [Act.eval]));(case fp2=>assumption);intro w1 F1;simp only [List.nil_append,List.cons_append] at F1) | (refine wpList_insert_lit w _ [(17,[128,129]),(18,[128,129]),(19,[129,128])] _ 20 [129,128] 2 rfl rfl ?xp3 rfl rfl (by decide) (by decide) ?fp3 ?kp3;(case xp3=>first | rfl | simp [go_sem] | (simp [Act.eval]));(case fp3=>assumption);intro w1 F1;simp only [List.nil_append,List.cons_append] at F1) | (refine wpList_insert_lit w _ [(17,[128,129]),(18,[128,129]),(19,[129,128]),(20,[129,128])] _ 34 [128,130] 2 rfl rfl ?xp4 rfl rfl (by decide) (by decide) ?fp4 ?kp4;(case xp4=>first | rfl | simp [go_sem] | (simp [Act.eval]));(case fp4=>assumption);intro w1 F1;simp only [List.nil_append,List.cons_append] at F1;have hl:=F1.no op true h1 h2 hno;simp only [if_true] at hl;have hb1:=F1.bel))
 clear hl
 go_wp2_with (first | (refine wpList_insert_lit w _ [] _ 1 [128,131] 2 rfl rfl ?xq0 rfl rfl (by decide) (by decide) ?fq0 ?kq0;(case xq0=>first | rfl | simp [go_sem] | (simp [Act.eval]));(case fq0=>exact Fm.made hb1);intro w1 F1;simp only [List.nil_append,List.cons_append] at F1) | (refine wpList_insert_lit w _ [(1,[128,131])] _ 2 [128] 1 rfl rfl ?xq1 rfl rfl (by decide) (by decide) ?fq1 ?kq1;(case xq1=>first | rfl | simp [go_sem] | (simp [Act.eval]));(case fq1=>assumption);intro w1 F1;simp only [List.nil_append,List.cons_append] at F1) | (refine wpList_insert_lit w _ [(1,[128,131]),(2,[128])] _ 3 [128,132] 2 rfl rfl ?xq2 rfl rfl (by decide) (by decide) ?fq2 ?kq2;(case xq2=>first | rfl | simp [go_sem] | (simp [Act.eval]));(case fq2=>assumption);intro w1 F1;simp only [List.nil_append,List.cons_append] at F1) | (refine wpList_insert_lit w _ [(1,[128,131]),(2,[128]),(3,[128,132])] _ 4 [128,132] 2 rfl rfl ?xq3 rfl rfl (by decide) (by decide) ?fq3 ?kq3;(case xq3=>first | rfl | simp [go_sem] | (simp [Act.eval]));(case fq3=>assumption);intro w1 F1;simp only [List.nil_append,List.cons_append] at F1) | (refine wpList_insert_lit w _ [(1,[128,131]),(2,[128]),(3,[128,132]),(4,[128,132])] _ 5 [128,131,133] 3 rfl rfl ?xq4 rfl rfl (by decide) (by decide) ?fq4 ?kq4;(case xq4=>first | rfl | simp [go_sem] | (simp [Act.eval]));(case fq4=>assumption);intro w1 F1;simp only [List.nil_append,List.cons_append] at F1) | (refine wpList_insert_lit w _ [(1,[128,131]),(2,[128]),(3,[128,132]),(4,[128,132]),(5,[128,131,133])] _ 6 [133] 1 rfl rfl ?xq5 rfl rfl (by decide) (by decide) ?fq5 ?kq5;(case xq5=>first | rfl | simp [go_sem] | (simp [Act.eval]));(case fq5=>assumption);intro w1 F1;simp only [List.nil_append,List.cons_append] at F1) | (refine wpList_insert_lit w _ [(1,[128,131]),(2,[128]),(3,[128,132]),(4,[128,132]),(5,[128,131,133]),(6,[133])] _ 7 [128,133] 2 rfl rfl ?xq6 rfl rfl (by decide) (by decide) ?fq6 ?kq6;(case xq6=>first | rfl | simp [go_sem] | (simp [Act.eval]));(case fq6=>assumption);intro w1 F1;simp only [List.nil_append,List.cons_append] at F1) | (refine wpList_insert_lit w _ [(1,[128,131]),(2,[128]),(3,[128,132]),(4,[128,132]),(5,[128,131,133]),(6,[133]),(7,[128,133])] _ 8 [132] 1 rfl rfl ?xq7 rfl rfl (by decide) (by decide) ?fq7 ?kq7;(case xq7=>first | rfl | simp [go_sem] | (simp [Act.eval]));(case fq7=>assumption);intro w1 F1;simp only [List.nil_append,List.cons_append] at F1) | (go_at_call 55;refine (kindOf_any op _ (hg.below F1.bel (Nat.le_refl _))).mono ?_;rintro e w2 ⟨rfl,hb2⟩;have F2:=F1.below hb2;obtain ⟨v,hfs,hl2⟩:=F2.form (formM op) hf1 hf2;have hfld:=Q.kind_form (bS (nameM op)) (formM op)))
 go_ret
 exact ⟨v,rfl,hfs,F2.bel⟩
theorem form_bd (op:Int):0≤formM op∧formM op≤8:=by
 unfold formM kindM
 split
 ·decide
 ·split
  ·decide
  ·obtain ⟨i,rfl⟩:=Int.eq_ofNat_of_zero_le (show 0≤op by omega)
   have hi:i < 35:=by omega
   rw [Int.toNat_natCast]
   have:∀ j,j < 35→0≤(kindsL.getD j ([],0)).2∧(kindsL.getD j ([],0)).2≤8:=by decide
   exact this i hi
theorem fmR_reads (op:Int) (h:∀ q∈spL,q.1≠op):(readsM op).map rdF=fmR (formM op):=by
 have h17:¬ op=17:=fun e=>h _ (by decide:(17,[128,129])∈spL) e.symm
 have h18:¬ op=18:=fun e=>h _ (by decide:(18,[128,129])∈spL) e.symm
 have h19:¬ op=19:=fun e=>h _ (by decide:(19,[129,128])∈spL) e.symm
 have h20:¬ op=20:=fun e=>h _ (by decide:(20,[129,128])∈spL) e.symm
 have h34:¬ op=34:=fun e=>h _ (by decide:(34,[128,130])∈spL) e.symm
 unfold readsM fmR
 rw [if_neg (by omega),if_neg (by omega),if_neg h34]
 repeat' split
 all_goals rfl
theorem operands_any (op:Int) (w:World) (hg:GW w) (h1:0≤op) (h2:op≤100) :
  Calls Tryz.prog 102 #[.int .i64 op] w fun e w'=>∃ v,e=.returned v∧Fs0 w.heap.size w' v ((readsM op).map rdF)∧Below w.heap.size w w':=by
 have hb:=form_bd op
 by_cases h:∀ q∈spL,q.1≠op
 ·rw [fmR_reads op h]
  exact operands_2 op w hg h1 h2 h hb.1 (by omega)
 ·have hin:(op,(readsM op).map rdF)∈spL∧∀ q∈spL,q.1=op→q.2=(readsM op).map rdF:=by
   have:op=17∨op=18∨op=19∨op=20∨op=34:=by
    simp only [spL,List.mem_cons,List.not_mem_nil,or_false,forall_eq_or_imp,forall_eq] at h
    omega
   rcases this with rfl | rfl | rfl | rfl | rfl <;> decide
  refine (operands_1 op _ w h1 h2 hin.1 hin.2).mono ?_
  rintro e w' ⟨v,h3,h4,h5⟩
  exact ⟨v,h3,.inl h4,h5⟩
end Go.Proofs.YtffojmgmpfjlhaaGreatDoor
namespace Go.Proofs.YtffojmgmpfjlhaaGreatDoor
open Go.RowKit Go.Proofs.Ix YtffojmgmpfjlhaaGreatDoorW.PrintWords
section
variable {b:Nat} {w0 w:World} {l:L9}
theorem register_s (ha:At b w0 w l) (p:Int × L9) (hr:l.rg=some p):Calls Tryz.prog 152 #[pt b] w fun x w'=>x=.returned (.int .i64 p.1)∧At b w0 w' p.2:=by
 have h:=register_any b w0 w l ha
 rw [hr] at h
 exact h
theorem register_n (ha:At b w0 w l) (hr:l.rg=none):Calls Tryz.prog 152 #[pt b] w fun x w'=>x=.panicked (thrown 22)∧Aft b w0 w':=by
 have h:=register_any b w0 w l ha
 rw [hr] at h
 exact h
end
def OutV (b:Nat) (w0:World) (r:Option L9) (x:Ending) (w':World):Prop :=
 match r with
 | none=>x=.panicked (thrown 22)∧Aft b w0 w'
 | some l'=>x=.returned (.tuple #[])∧At b w0 w' l'
def L9.rA (l:L9):Option L9:=l.rg.map fun p=>{ p.2 with a:=p.1 }
def L9.rB (l:L9):Option L9:=l.rg.map fun p=>{ p.2 with b:=p.1 }
theorem regA_any (b:Nat) (w0 w:World) (l:L9) (ha:At b w0 w l):Calls Tryz.prog 128 #[pt b] w (OutV b w0 l.rA):=by
 unfold L9.rA
 cases hr:l.rg with
 | none =>
  go_enter Tryz.func128,Tryz.ntmps128
  go_wp2_with (first | (go_at_call 152;refine (register_n (by assumption) (by assumption)).mono ?_;rintro e w3 ⟨rfl,ha3⟩))
  exact ⟨rfl,rfl,by assumption⟩
 | some p =>
  go_enter Tryz.func128,Tryz.ntmps128
  go_wp2_with (first | (go_at_call 152;refine (register_s (by assumption) _ (by assumption)).mono ?_;rintro e w3 ⟨rfl,ha3⟩;have gf:=ha3.ln.fz 4;have g4:=ha3.ln.c4))
  exact ⟨rfl,.tuple #[],results_none rfl _ _ _,rfl,ha3.put { p.2 with a:=p.1 } 4 _ rfl ha3.sz ha3.le⟩
theorem regB_any (b:Nat) (w0 w:World) (l:L9) (ha:At b w0 w l):Calls Tryz.prog 131 #[pt b] w (OutV b w0 l.rB):=by
 unfold L9.rB
 cases hr:l.rg with
 | none =>
  go_enter Tryz.func131,Tryz.ntmps131
  go_wp2_with (first | (go_at_call 152;refine (register_n (by assumption) (by assumption)).mono ?_;rintro e w3 ⟨rfl,ha3⟩))
  exact ⟨rfl,rfl,by assumption⟩
 | some p =>
  go_enter Tryz.func131,Tryz.ntmps131
  go_wp2_with (first | (go_at_call 152;refine (register_s (by assumption) _ (by assumption)).mono ?_;rintro e w3 ⟨rfl,ha3⟩;have gf:=ha3.ln.fz 5;have g4:=ha3.ln.c5))
  exact ⟨rfl,.tuple #[],results_none rfl _ _ _,rfl,ha3.put { p.2 with b:=p.1 } 5 _ rfl ha3.sz ha3.le⟩
def pv (s:ByteArray):Option Int:=match Lib.parseIntB 64 s.data.toList with | .ok v=>some v | _=>none
section
variable {b:Nat} {w0 w:World} {l:L9}
theorem parse_s (ha:At b w0 w l) (s:ByteArray) (v:Int) (hv:pv s=some v) (hs:s.size≤1000000) :
  Calls Tryz.prog 167 #[.string s,.int .i64 10,.int .i64 64] w fun x w'=>x=.returned (.tuple #[.int .i64 v,.nilIface])∧At b w0 w' l:=by
 have h:Lib.parseIntB 64 s.data.toList=.ok v:=by
  unfold pv at hv
  split at hv
  ·rename_i u hu
   cases hv
   exact hu
  ·cases hv
 refine (Tryz.strconv_ParseInt_10_at64_ok s (by omega) v h w).mono ?_
 rintro x w' ⟨h1,h2⟩
 refine ⟨h1,?_⟩
 rcases h2 with rfl | ⟨t,rfl⟩
 ·exact ha
 ·exact ha.below (Lib.bytesWorld_below _ _ _)
theorem parse_n (ha:At b w0 w l) (s:ByteArray) (hv:pv s=none) (hs:s.size≤1000000) :
  Calls Tryz.prog 167 #[.string s,.int .i64 10,.int .i64 64] w fun x w'=>∃ n te pe,x=.returned (.tuple #[.int .i64 n,.iface te pe])∧At b w0 w' l:=by
 cases h:Lib.parseIntB 64 s.data.toList with
 | ok v =>
  unfold pv at hv
  rw [h] at hv
  cases hv
 | range =>
  obtain ⟨te,pe,hc⟩:=ha.gw.rng
  refine (Tryz.strconv_ParseInt_10_at64_range s (by omega) h _ w hc (Or.inr ⟨_,_,rfl⟩)).mono ?_
  rintro x w' ⟨n,h1,_,_,h2⟩
  exact ⟨_,_,_,h1,ha.below h2⟩
 | _ =>
  obtain ⟨te,pe,hc⟩:=ha.gw.syn
  refine (Tryz.strconv_ParseInt_10_at64_syntax s (by omega) (h.trans (by rfl)) _ w hc (Or.inr ⟨_,_,rfl⟩)).mono ?_
  rintro x w' ⟨n,h1,_,_,h2⟩
  exact ⟨_,_,_,h1,ha.below h2⟩
end
def L9.dgE (l:L9):Nat:=runB isDig l.s l.at_
def L9.dgS (l:L9):ByteArray:=l.s.extract l.at_ l.dgE
def L9.dg (l:L9) (minus:Bool):Option (Option Int × L9) :=
 if 0 < l.dgS.size then (if l.dgS.size≤19 then some (pv (if minus=true then (⟨#[45]⟩:ByteArray) ++ l.dgS else l.dgS),l.go l.dgE) else none) else none
def OutD (b:Nat) (w0:World) (r:Option (Option Int × L9)) (x:Ending) (w':World):Prop :=
 match r with
 | none=>x=.panicked (thrown 22)∧Aft b w0 w'
 | some (some v,l')=>x=.returned (.tuple #[.int .i64 v,.bool true])∧At b w0 w' l'
 | some (none,l')=>∃ n,x=.returned (.tuple #[.int .i64 n,.bool false])∧At b w0 w' l'
theorem digits_any (b:Nat) (w0 w:World) (l:L9) (minus:Bool) (ha:At b w0 w l):Calls Tryz.prog 153 #[pt b,.bool minus] w (OutD b w0 (l.dg minus)):=by
 unfold L9.dg
 obtain ⟨d,hd⟩:∃ d,l.dgS=d:=⟨_,rfl⟩
 rw [hd]
 have hd':l.s.extract l.at_ (runB isDig l.s l.at_)=d:=hd
 have HD:=Lib.hid hd'
 clear hd hd'
 by_cases h1:0 < d.size
 ·have hne:=not_emp h1
  rw [if_pos h1]
  by_cases h2:d.size≤19
  ·rw [if_pos h2]
   have d2:decide ((d.size:Int)≤19)=true:=decide_eq_true (by omega)
   obtain ⟨p,hp⟩:∃ p,pv (if minus=true then (⟨#[45]⟩:ByteArray) ++ d else d)=p:=⟨_,rfl⟩
   rw [hp]
   cases minus with
   | false =>
    rw [if_neg (by decide)] at hp
    have HP:=Lib.hid hp
    clear hp
    cases p with
    | some v =>
     go_enter Tryz.func153,Tryz.ntmps153
     go_wp2_with (first | (go_at_call 99;refine (while_k (by assumption) 126 _ cls_digit).mono ?_;rw [HD.out];rintro e w1 ⟨rfl,ha1⟩) | (go_at_call 101;refine (need_k (by assumption) _).mono ?_;rintro e w2 ⟨rfl,ha2⟩) | (go_at_call 167;refine (parse_s (by assumption) _ _ (by exact HP.out) (by omega)).mono ?_;rintro e w3 ⟨rfl,ha3⟩))
     go_quiet (fail)
     go_wp2
     go_ret2
     exact ⟨rfl,ha3.drewN _⟩
    | none =>
     go_enter Tryz.func153,Tryz.ntmps153
     go_wp2_with (first | (go_at_call 99;refine (while_k (by assumption) 126 _ cls_digit).mono ?_;rw [HD.out];rintro e w1 ⟨rfl,ha1⟩) | (go_at_call 101;refine (need_k (by assumption) _).mono ?_;rintro e w2 ⟨rfl,ha2⟩) | (go_at_call 167;refine (parse_n (by assumption) _ (by exact HP.out) (by omega)).mono ?_;rintro e w3 ⟨n,te,pe,rfl,ha3⟩))
     go_quiet (fail)
     go_wp2
     go_ret2
     exact ⟨_,rfl,ha3.drewN _⟩
   | true =>
    rw [if_pos rfl] at hp
    have hsz:((⟨#[45]⟩:ByteArray) ++ d).size=1+d.size:=by rw [ByteArray.size_append];rfl
    have HP:=Lib.hid hp
    clear hp
    cases p with
    | some v =>
     go_enter Tryz.func153,Tryz.ntmps153
     go_wp2_with (first | (go_at_call 99;refine (while_k (by assumption) 126 _ cls_digit).mono ?_;rw [HD.out];rintro e w1 ⟨rfl,ha1⟩) | (go_at_call 101;refine (need_k (by assumption) _).mono ?_;rintro e w2 ⟨rfl,ha2⟩) | (go_at_call 167;refine (parse_s (by assumption) _ _ (by exact HP.out) (by rw [hsz];omega)).mono ?_;rintro e w3 ⟨rfl,ha3⟩))
     go_quiet (fail)
     go_wp2
     go_ret2
     exact ⟨rfl,ha3.drewN _⟩
    | none =>
     go_enter Tryz.func153,Tryz.ntmps153
     go_wp2_with (first | (go_at_call 99;refine (while_k (by assumption) 126 _ cls_digit).mono ?_;rw [HD.out];rintro e w1 ⟨rfl,ha1⟩) | (go_at_call 101;refine (need_k (by assumption) _).mono ?_;rintro e w2 ⟨rfl,ha2⟩) | (go_at_call 167;refine (parse_n (by assumption) _ (by exact HP.out) (by rw [hsz];omega)).mono ?_;rintro e w3 ⟨n,te,pe,rfl,ha3⟩))
     go_quiet (fail)
     go_wp2
     go_ret2
     exact ⟨_,rfl,ha3.drewN _⟩
  ·rw [if_neg h2]
   have d2:decide ((d.size:Int)≤19)=false:=decide_eq_false (by omega)
   go_enter Tryz.func153,Tryz.ntmps153
   go_wp2_with (first | (go_at_call 99;refine (while_k (by assumption) 126 _ cls_digit).mono ?_;rw [HD.out];rintro e w1 ⟨rfl,ha1⟩) | (go_at_call 101;refine (need_k (by assumption) _).mono ?_;rintro e w2 ⟨rfl,ha2⟩))
   exact ⟨rfl,rfl,by assumption⟩
 ·rw [if_neg h1]
  obtain rfl:d=⟨#[]⟩:=by
   obtain ⟨⟨l⟩⟩:=d
   cases l with
   | nil=>rfl
   | cons c t=>exact absurd (show 0 < (⟨⟨c :: t⟩⟩:ByteArray).size from Nat.succ_pos _) h1
  go_enter Tryz.func153,Tryz.ntmps153
  go_wp2_with (first | (go_at_call 99;refine (while_k (by assumption) 126 _ cls_digit).mono ?_;rw [HD.out];rintro e w1 ⟨rfl,ha1⟩) | (go_at_call 101;refine (need_k (by assumption) _).mono ?_;rintro e w2 ⟨rfl,ha2⟩))
  exact ⟨rfl,rfl,by assumption⟩
theorem fits_f (f n:Int):Q.insn_fits.f 1 f n=some (fitsM f n):=by
 unfold Q.insn_fits.f fitsM
 by_cases h3:f=3
 ·simp [h3]
 ·by_cases h8:f=8
  ·simp only [h8,if_true]
   by_cases h:n≥0 <;> simp [h]
  ·rw [if_neg h3,if_neg h8,if_neg h3,if_neg h8]
   have hb:Q.insn_bytesOf.f 1 f=some (bytesM f:Int):=by
    unfold Q.insn_bytesOf.f bytesM
    by_cases h4:f=4
    ·subst h4;rfl
    ·by_cases h5:f=5
     ·subst h5;rfl
     ·by_cases h6:f=6
      ·subst h6;rfl
      ·by_cases h7:f=7
       ·subst h7;rfl
       ·simp [h3,h4,h5,h6,h7,h8,Q.insn_bytesOf.j0]
   rw [hb,Option.bind_some]
   have hc:bytesM f=0∨bytesM f=1∨bytesM f=2:=by
    unfold bytesM
    rw [if_neg h3]
    split
    ·simp
    ·split <;> simp
   rcases hc with h | h | h
   ·rw [h];simp
   ·rw [h]
    simp only [show ¬ ((1:Nat):Int)=0 by decide,if_false,if_true,show ((1:Nat):Int)=1 from rfl,show ¬ (1:Nat)=0 by decide]
    by_cases hn:n≥-64
    ·simp [hn]
    ·simp [hn]
   ·rw [h]
    simp only [show ¬ ((2:Nat):Int)=0 by decide,show ¬ ((2:Nat):Int)=1 by decide,if_false,if_true,show ((2:Nat):Int)=2 from rfl,show ¬ (2:Nat)=0 by decide,show ¬ (2:Nat)=1 by decide]
    by_cases hn:n≥-8192
    ·simp [hn]
    ·simp [hn]
section
variable {b:Nat} {w0 w:World} {l:L9}
theorem fits_k (ha:At b w0 w l) (f n:Int) (v:Bool) (hv:fitsM f n=v):Calls Tryz.prog 80 #[.int .i64 f,.int .i64 n] w fun x w'=>x=.returned (.bool v)∧At b w0 w' l :=
 (Q.insn_fits.calls 1 f n v w (by rw [fits_f,hv])).mono fun x w' ⟨h1,m,h2⟩=>⟨h1,h2 ▸ ha.drewN m⟩
theorem digits_s (ha:At b w0 w l) (m:Bool) (v:Int) (l':L9) (hd:l.dg m=some (some v,l')):Calls Tryz.prog 153 #[pt b,.bool m] w fun x w'=>x=.returned (.tuple #[.int .i64 v,.bool true])∧At b w0 w' l':=by
 have h:=digits_any b w0 w l m ha
 rw [hd] at h
 exact h
theorem digits_f (ha:At b w0 w l) (m:Bool) (l':L9) (hd:l.dg m=some (none,l')):Calls Tryz.prog 153 #[pt b,.bool m] w fun x w'=>∃ n,x=.returned (.tuple #[.int .i64 n,.bool false])∧At b w0 w' l':=by
 have h:=digits_any b w0 w l m ha
 rw [hd] at h
 exact h
theorem digits_n (ha:At b w0 w l) (m:Bool) (hd:l.dg m=none):Calls Tryz.prog 153 #[pt b,.bool m] w fun x w'=>x=.panicked (thrown 22)∧Aft b w0 w':=by
 have h:=digits_any b w0 w l m ha
 rw [hd] at h
 exact h
end
theorem dg_op {l l':L9} {m:Bool} {o:Option Int} (h:l.dg m=some (o,l')):l'.op=l.op:=by
 unfold L9.dg at h
 split at h
 ·split at h
  ·cases h;rfl
  ·cases h
 ·cases h
theorem field_form (s:ByteArray) (n:Int) (w:World):(Instr.field 103 (.agg #[.string s,.int .i64 n]) 1).run Tryz.prog w=.ok (.int .i64 n) w:=by kernel_rfl
def L9.setN (f:Int) (r:Option (Option Int × L9)):Option L9 :=
 match r with
 | some (some v,l')=>if fitsM f v=true then some { l' with imm:=v } else none
 | some (none,_)=>none
 | none=>none
def L9.num (l:L9):Option L9:=L9.setN (formM l.op) ((l.tk (l.hit 45)).dg (l.hit 45))
theorem number_any (b:Nat) (w0 w:World) (l:L9) (ha:At b w0 w l):Calls Tryz.prog 132 #[pt b] w (OutV b w0 l.num):=by
 unfold L9.num
 cases hm:l.hit 45 with
 | false =>
  cases hd:(l.tk false).dg false with
  | none =>
   go_enter Tryz.func132,Tryz.ntmps132
   go_wp2_with (first | (go_at_call 103;refine (take_k (by assumption) 45 _ (by assumption)).mono ?_;rintro e w1 ⟨rfl,ha1⟩) | (go_at_call 153;refine (digits_n (by assumption) _ (by assumption)).mono ?_;rintro e w3 ⟨rfl,ha3⟩))
   exact ⟨rfl,rfl,by assumption⟩
  | some p =>
   obtain ⟨o,l'⟩:=p
   have hop:l'.op=l.op:=(dg_op hd).trans rfl
   cases o with
   | none =>
    go_enter Tryz.func132,Tryz.ntmps132
    go_wp2_with (first | (go_at_call 103;refine (take_k (by assumption) 45 _ (by assumption)).mono ?_;rintro e w1 ⟨rfl,ha1⟩) | (go_at_call 153;refine (digits_f (by assumption) _ _ (by assumption)).mono ?_;rintro e w3 ⟨n,rfl,ha3⟩) | (go_at_call 101;refine (need_k (by assumption) _).mono ?_;rintro e w2 ⟨rfl,ha2⟩))
    exact ⟨rfl,rfl,by assumption⟩
   | some v =>
    have hfld:=field_form (bS (nameM l.op)) (formM l.op)
    cases hf:fitsM (formM l.op) v with
    | false =>
     have hr:L9.setN (formM l.op) (some (some v,l'))=none:=by simp [L9.setN,hf]
     rw [hr]
     go_enter Tryz.func132,Tryz.ntmps132
     go_wp2_with (first | (go_at_call 103;refine (take_k (by assumption) 45 _ (by assumption)).mono ?_;rintro e w1 ⟨rfl,ha1⟩) | (go_at_call 153;refine (digits_s (by assumption) _ _ _ (by assumption)).mono ?_;rintro e w3 ⟨rfl,ha3⟩;have g3:=ha3.ln.c3;rw [hop] at g3) | (go_at_call 55;refine (kindOf_k (by assumption) _).mono ?_;rintro e w4 ⟨rfl,ha4⟩) | (go_at_call 80;refine (fits_k (by assumption) _ _ _ (by assumption)).mono ?_;rintro e w5 ⟨rfl,ha5⟩) | (go_at_call 101;refine (need_k (by assumption) _).mono ?_;rintro e w2 ⟨rfl,ha2⟩))
     exact ⟨rfl,rfl,by assumption⟩
    | true =>
     have hr:L9.setN (formM l.op) (some (some v,l'))=some { l' with imm:=v }:=by simp [L9.setN,hf]
     rw [hr]
     go_enter Tryz.func132,Tryz.ntmps132
     go_wp2_with (first | (go_at_call 103;refine (take_k (by assumption) 45 _ (by assumption)).mono ?_;rintro e w1 ⟨rfl,ha1⟩) | (go_at_call 153;refine (digits_s (by assumption) _ _ _ (by assumption)).mono ?_;rintro e w3 ⟨rfl,ha3⟩;have g3:=ha3.ln.c3;rw [hop] at g3) | (go_at_call 55;refine (kindOf_k (by assumption) _).mono ?_;rintro e w4 ⟨rfl,ha4⟩) | (go_at_call 80;refine (fits_k (by assumption) _ _ _ (by assumption)).mono ?_;rintro e w5 ⟨rfl,ha5⟩) | (go_at_call 101;refine (need_k (by assumption) _).mono ?_;rintro e w2 ⟨rfl,ha2⟩;have gf6:=ha2.ln.fz 6;have g6:=ha2.ln.c6))
     exact ⟨rfl,.tuple #[],results_none rfl _ _ _,rfl,ha2.put { l' with imm:=v } 6 _ rfl ha2.sz ha2.le⟩
 | true =>
  cases hd:(l.tk true).dg true with
  | none =>
   go_enter Tryz.func132,Tryz.ntmps132
   go_wp2_with (first | (go_at_call 103;refine (take_k (by assumption) 45 _ (by assumption)).mono ?_;rintro e w1 ⟨rfl,ha1⟩) | (go_at_call 153;refine (digits_n (by assumption) _ (by assumption)).mono ?_;rintro e w3 ⟨rfl,ha3⟩))
   exact ⟨rfl,rfl,by assumption⟩
  | some p =>
   obtain ⟨o,l'⟩:=p
   have hop:l'.op=l.op:=(dg_op hd).trans rfl
   cases o with
   | none =>
    go_enter Tryz.func132,Tryz.ntmps132
    go_wp2_with (first | (go_at_call 103;refine (take_k (by assumption) 45 _ (by assumption)).mono ?_;rintro e w1 ⟨rfl,ha1⟩) | (go_at_call 153;refine (digits_f (by assumption) _ _ (by assumption)).mono ?_;rintro e w3 ⟨n,rfl,ha3⟩) | (go_at_call 101;refine (need_k (by assumption) _).mono ?_;rintro e w2 ⟨rfl,ha2⟩))
    exact ⟨rfl,rfl,by assumption⟩
   | some v =>
    have hfld:=field_form (bS (nameM l.op)) (formM l.op)
    cases hf:fitsM (formM l.op) v with
    | false =>
     have hr:L9.setN (formM l.op) (some (some v,l'))=none:=by simp [L9.setN,hf]
     rw [hr]
     go_enter Tryz.func132,Tryz.ntmps132
     go_wp2_with (first | (go_at_call 103;refine (take_k (by assumption) 45 _ (by assumption)).mono ?_;rintro e w1 ⟨rfl,ha1⟩) | (go_at_call 153;refine (digits_s (by assumption) _ _ _ (by assumption)).mono ?_;rintro e w3 ⟨rfl,ha3⟩;have g3:=ha3.ln.c3;rw [hop] at g3) | (go_at_call 55;refine (kindOf_k (by assumption) _).mono ?_;rintro e w4 ⟨rfl,ha4⟩) | (go_at_call 80;refine (fits_k (by assumption) _ _ _ (by assumption)).mono ?_;rintro e w5 ⟨rfl,ha5⟩) | (go_at_call 101;refine (need_k (by assumption) _).mono ?_;rintro e w2 ⟨rfl,ha2⟩))
     exact ⟨rfl,rfl,by assumption⟩
    | true =>
     have hr:L9.setN (formM l.op) (some (some v,l'))=some { l' with imm:=v }:=by simp [L9.setN,hf]
     rw [hr]
     go_enter Tryz.func132,Tryz.ntmps132
     go_wp2_with (first | (go_at_call 103;refine (take_k (by assumption) 45 _ (by assumption)).mono ?_;rintro e w1 ⟨rfl,ha1⟩) | (go_at_call 153;refine (digits_s (by assumption) _ _ _ (by assumption)).mono ?_;rintro e w3 ⟨rfl,ha3⟩;have g3:=ha3.ln.c3;rw [hop] at g3) | (go_at_call 55;refine (kindOf_k (by assumption) _).mono ?_;rintro e w4 ⟨rfl,ha4⟩) | (go_at_call 80;refine (fits_k (by assumption) _ _ _ (by assumption)).mono ?_;rintro e w5 ⟨rfl,ha5⟩) | (go_at_call 101;refine (need_k (by assumption) _).mono ?_;rintro e w2 ⟨rfl,ha2⟩;have gf6:=ha2.ln.fz 6;have g6:=ha2.ln.c6))
     exact ⟨rfl,.tuple #[],results_none rfl _ _ _,rfl,ha2.put { l' with imm:=v } 6 _ rfl ha2.sz ha2.le⟩
section
variable {b:Nat} {w0 w:World} {l:L9}
theorem take_z (ha:At b w0 w l) (c:Int) (h0:0≤c) (v:Bool) (hh:l.hit c.toNat=v):Calls Tryz.prog 103 #[pt b,.int .u8 c] w fun x w'=>x=.returned (.bool v)∧At b w0 w' (l.tk v):=by
 have h:=take_k ha c.toNat v hh
 rw [Int.toNat_of_nonneg h0] at h
 exact h
theorem regB_s (ha:At b w0 w l) (l':L9) (hr:l.rB=some l'):Calls Tryz.prog 131 #[pt b] w fun x w'=>x=.returned (.tuple #[])∧At b w0 w' l':=by
 have h:=regB_any b w0 w l ha
 rw [hr] at h
 exact h
theorem regB_n (ha:At b w0 w l) (hr:l.rB=none):Calls Tryz.prog 131 #[pt b] w fun x w'=>x=.panicked (thrown 22)∧Aft b w0 w':=by
 have h:=regB_any b w0 w l ha
 rw [hr] at h
 exact h
end
def L9.close (l:L9):Option L9:=if l.hit 93=true then some l.next else none
def L9.mem (l:L9):Option L9:=if l.hit 91=true then (match l.next.sk.rB with | none=>none | some l2=>l2.sk.close) else none
def L9.addr2 (l:L9):Option L9 :=
 if (l.hit 43 && (l.tk (l.hit 43)).hit 45)=true then none
 else if (l.hit 43 || (l.tk (l.hit 43)).hit 45)=true then
  (match L9.setN (formM ((l.tk (l.hit 43)).tk ((l.tk (l.hit 43)).hit 45)).op) (((l.tk (l.hit 43)).tk ((l.tk (l.hit 43)).hit 45)).sk.dg ((l.tk (l.hit 43)).hit 45)) with | none=>none | some l6=>l6.sk.close)
 else ((l.tk (l.hit 43)).tk ((l.tk (l.hit 43)).hit 45)).close
def L9.addr (l:L9):Option L9:=if l.hit 91=true then (match l.next.sk.rB with | none=>none | some l2=>l2.sk.addr2) else none
theorem memory_any (b:Nat) (w0 w:World) (l:L9) (ha:At b w0 w l):Calls Tryz.prog 130 #[pt b] w (OutV b w0 l.mem):=by
 unfold L9.mem
 cases h1:l.hit 91 with
 | false =>
  rw [if_neg (by decide)]
  go_enter Tryz.func130,Tryz.ntmps130
  go_wp2_with (first | (go_at_call 103;refine (take_z asm _ (by decide) _ asm).mono ?_;rintro e w1 ⟨rfl,ha1⟩) | (go_at_call 101;refine (need_k asm _).mono ?_;rintro e w2 ⟨rfl,ha2⟩))
  exact ⟨rfl,rfl,by first | (with_reducible assumption) | assumption⟩
 | true =>
  rw [if_pos rfl]
  have hb:(l.tk true).sk.rB=l.next.sk.rB:=rfl
  cases h2:l.next.sk.rB with
  | none =>
   rw [h2] at hb
   go_enter Tryz.func130,Tryz.ntmps130
   go_wp2_with (first | (go_at_call 103;refine (take_z asm _ (by decide) _ asm).mono ?_;rintro e w1 ⟨rfl,ha1⟩) | (go_at_call 101;refine (need_k asm _).mono ?_;rintro e w2 ⟨rfl,ha2⟩) | (go_at_call 97;refine (blanks_k asm).mono ?_;rintro e w7 ⟨rfl,ha7⟩) | (go_at_call 131;refine (regB_n asm asm).mono ?_;rintro e w8 ⟨rfl,ha8⟩))
   exact ⟨rfl,rfl,by first | (with_reducible assumption) | assumption⟩
  | some l2 =>
   rw [h2] at hb
   show Calls _ _ _ _ (OutV b w0 l2.sk.close)
   unfold L9.close
   cases h3:l2.sk.hit 93 with
   | false =>
    rw [if_neg (by decide)]
    go_enter Tryz.func130,Tryz.ntmps130
    go_wp2_with (first | (go_at_call 103;refine (take_z asm _ (by decide) _ asm).mono ?_;rintro e w1 ⟨rfl,ha1⟩) | (go_at_call 101;refine (need_k asm _).mono ?_;rintro e w2 ⟨rfl,ha2⟩) | (go_at_call 97;refine (blanks_k asm).mono ?_;rintro e w7 ⟨rfl,ha7⟩) | (go_at_call 131;refine (regB_s asm _ asm).mono ?_;rintro e w8 ⟨rfl,ha8⟩))
    exact ⟨rfl,rfl,by first | (with_reducible assumption) | assumption⟩
   | true =>
    rw [if_pos rfl]
    go_enter Tryz.func130,Tryz.ntmps130
    go_wp2_with (first | (go_at_call 103;refine (take_z asm _ (by decide) _ asm).mono ?_;rintro e w1 ⟨rfl,ha1⟩) | (go_at_call 101;refine (need_k asm _).mono ?_;rintro e w2 ⟨rfl,ha2⟩) | (go_at_call 97;refine (blanks_k asm).mono ?_;rintro e w7 ⟨rfl,ha7⟩) | (go_at_call 131;refine (regB_s asm _ asm).mono ?_;rintro e w8 ⟨rfl,ha8⟩))
    exact ⟨rfl,.tuple #[],results_none rfl _ _ _,rfl,by first | (with_reducible assumption) | assumption⟩
theorem addr_ffn (b:Nat) (w0 w:World) (l:L9) (ha:At b w0 w l) (h1:l.hit 91=true) (l2:L9) (hb:(l.tk true).sk.rB=some l2) (hp:l2.sk.hit 43=false) (hm:(l2.sk.tk false).hit 45=false) (h3:((l2.sk.tk false).tk false).hit 93=false) :
  Calls Tryz.prog 129 #[pt b] w (OutV b w0 none):=by
 go_enter Tryz.func129,Tryz.ntmps129
 go_wp2_with (first | (go_at_call 103;refine (take_z asm _ (by decide) _ asm).mono ?_;rintro e w1 ⟨rfl,ha1⟩) | (go_at_call 101;refine (need_k asm _).mono ?_;rintro e w2 ⟨rfl,ha2⟩) | (go_at_call 97;refine (blanks_k asm).mono ?_;rintro e w7 ⟨rfl,ha7⟩) | (go_at_call 131;refine (regB_s asm _ asm).mono ?_;rintro e w8 ⟨rfl,ha8⟩))
 exact ⟨rfl,rfl,by first | (with_reducible assumption) | assumption⟩
theorem addr_ffs (b:Nat) (w0 w:World) (l:L9) (ha:At b w0 w l) (h1:l.hit 91=true) (l2:L9) (hb:(l.tk true).sk.rB=some l2) (hp:l2.sk.hit 43=false) (hm:(l2.sk.tk false).hit 45=false) (h3:((l2.sk.tk false).tk false).hit 93=true) :
  Calls Tryz.prog 129 #[pt b] w (OutV b w0 (some (((l2.sk.tk false).tk false).tk true))):=by
 go_enter Tryz.func129,Tryz.ntmps129
 go_wp2_with (first | (go_at_call 103;refine (take_z asm _ (by decide) _ asm).mono ?_;rintro e w1 ⟨rfl,ha1⟩) | (go_at_call 101;refine (need_k asm _).mono ?_;rintro e w2 ⟨rfl,ha2⟩) | (go_at_call 97;refine (blanks_k asm).mono ?_;rintro e w7 ⟨rfl,ha7⟩) | (go_at_call 131;refine (regB_s asm _ asm).mono ?_;rintro e w8 ⟨rfl,ha8⟩))
 exact ⟨rfl,.tuple #[],results_none rfl _ _ _,rfl,by first | (with_reducible assumption) | assumption⟩
theorem addr_fta (b:Nat) (w0 w:World) (l:L9) (ha:At b w0 w l) (h1:l.hit 91=true) (l2:L9) (hb:(l.tk true).sk.rB=some l2) (hp:l2.sk.hit 43=false) (hm:(l2.sk.tk false).hit 45=true) (hd:((l2.sk.tk false).tk true).sk.dg true=none) :
  Calls Tryz.prog 129 #[pt b] w (OutV b w0 none):=by
 have HD:=fun (_:Unit)=>hd
 clear hd
 go_enter Tryz.func129,Tryz.ntmps129
 go_wp2_with (first | (go_at_call 153;refine (digits_n asm _ (by exact HD ())).mono ?_;rintro e w3 ⟨rfl,ha3⟩) | (go_at_call 103;refine (take_z asm _ (by decide) _ asm).mono ?_;rintro e w1 ⟨rfl,ha1⟩) | (go_at_call 101;refine (need_k asm _).mono ?_;rintro e w2 ⟨rfl,ha2⟩) | (go_at_call 97;refine (blanks_k asm).mono ?_;rintro e w7 ⟨rfl,ha7⟩) | (go_at_call 131;refine (regB_s asm _ asm).mono ?_;rintro e w8 ⟨rfl,ha8⟩))
 exact ⟨rfl,rfl,by first | (with_reducible assumption) | assumption⟩
theorem addr_ftb (b:Nat) (w0 w:World) (l:L9) (ha:At b w0 w l) (h1:l.hit 91=true) (l2:L9) (hb:(l.tk true).sk.rB=some l2) (hp:l2.sk.hit 43=false) (hm:(l2.sk.tk false).hit 45=true) (l':L9) (hd:((l2.sk.tk false).tk true).sk.dg true=some (none,l')) :
  Calls Tryz.prog 129 #[pt b] w (OutV b w0 none):=by
 have HD:=fun (_:Unit)=>hd
 clear hd
 go_enter Tryz.func129,Tryz.ntmps129
 go_wp2_with (first | (go_at_call 153;refine (digits_f asm _ _ (by exact HD ())).mono ?_;rintro e w3 ⟨n,rfl,ha3⟩) | (go_at_call 103;refine (take_z asm _ (by decide) _ asm).mono ?_;rintro e w1 ⟨rfl,ha1⟩) | (go_at_call 101;refine (need_k asm _).mono ?_;rintro e w2 ⟨rfl,ha2⟩) | (go_at_call 97;refine (blanks_k asm).mono ?_;rintro e w7 ⟨rfl,ha7⟩) | (go_at_call 131;refine (regB_s asm _ asm).mono ?_;rintro e w8 ⟨rfl,ha8⟩))
 exact ⟨rfl,rfl,by first | (with_reducible assumption) | assumption⟩
theorem addr_ftc (b:Nat) (w0 w:World) (l:L9) (ha:At b w0 w l) (h1:l.hit 91=true) (l2:L9) (hb:(l.tk true).sk.rB=some l2) (hp:l2.sk.hit 43=false) (hm:(l2.sk.tk false).hit 45=true) (l':L9) (v:Int) (hd:((l2.sk.tk false).tk true).sk.dg true=some (some v,l')) (hop:l'.op=l2.op) (hf:fitsM (formM l2.op) v=false) :
  Calls Tryz.prog 129 #[pt b] w (OutV b w0 none):=by
 have HD:=fun (_:Unit)=>hd
 clear hd
 have hfld:=field_form (bS (nameM l2.op)) (formM l2.op)
 go_enter Tryz.func129,Tryz.ntmps129
 go_wp2_with (first | (go_at_call 153;refine (digits_s asm _ _ _ (by exact HD ())).mono ?_;rintro e w3 ⟨rfl,ha3⟩;have g3:=ha3.ln.c3;rw [hop] at g3) | (go_at_call 55;refine (kindOf_k asm _).mono ?_;rintro e w4 ⟨rfl,ha4⟩) | (go_at_call 80;refine (fits_k asm _ _ _ asm).mono ?_;rintro e w5 ⟨rfl,ha5⟩) | (go_at_call 103;refine (take_z asm _ (by decide) _ asm).mono ?_;rintro e w1 ⟨rfl,ha1⟩) | (go_at_call 101;refine (need_k asm _).mono ?_;rintro e w2 ⟨rfl,ha2⟩) | (go_at_call 97;refine (blanks_k asm).mono ?_;rintro e w7 ⟨rfl,ha7⟩) | (go_at_call 131;refine (regB_s asm _ asm).mono ?_;rintro e w8 ⟨rfl,ha8⟩))
 exact ⟨rfl,rfl,by first | (with_reducible assumption) | assumption⟩
theorem addr_ftd (b:Nat) (w0 w:World) (l:L9) (ha:At b w0 w l) (h1:l.hit 91=true) (l2:L9) (hb:(l.tk true).sk.rB=some l2) (hp:l2.sk.hit 43=false) (hm:(l2.sk.tk false).hit 45=true) (l':L9) (v:Int) (hd:((l2.sk.tk false).tk true).sk.dg true=some (some v,l')) (hop:l'.op=l2.op) (hf:fitsM (formM l2.op) v=true) (h3:({ l' with imm:=v }:L9).sk.hit 93=false) :
  Calls Tryz.prog 129 #[pt b] w (OutV b w0 none):=by
 have HD:=fun (_:Unit)=>hd
 clear hd
 have hfld:=field_form (bS (nameM l2.op)) (formM l2.op)
 go_enter Tryz.func129,Tryz.ntmps129
 go_wp2_with (first | (go_at_call 153;refine (digits_s asm _ _ _ (by exact HD ())).mono ?_;rintro e w3 ⟨rfl,ha3⟩;have g3:=ha3.ln.c3;rw [hop] at g3) | (go_at_call 55;refine (kindOf_k asm _).mono ?_;rintro e w4 ⟨rfl,ha4⟩) | (go_at_call 80;refine (fits_k asm _ _ _ asm).mono ?_;rintro e w5 ⟨rfl,ha5⟩) | (go_at_call 103;refine (take_z asm _ (by decide) _ asm).mono ?_;rintro e w1 ⟨rfl,ha1⟩) | (go_at_call 101;refine (need_k (l:=l') (by with_reducible assumption) _).mono ?_;rintro e w2 ⟨rfl,ha2⟩;have gf6:=ha2.ln.fz 6;have g6:=ha2.ln.c6;have hput:=ha2.put { l' with imm:=v } 6 (.int .i64 v) rfl ha2.sz ha2.le) | (go_at_call 101;refine (need_k asm _).mono ?_;rintro e w2 ⟨rfl,ha2⟩) | (go_at_call 97;refine (blanks_k asm).mono ?_;rintro e w7 ⟨rfl,ha7⟩) | (go_at_call 131;refine (regB_s asm _ asm).mono ?_;rintro e w8 ⟨rfl,ha8⟩))
 exact ⟨rfl,rfl,by first | (with_reducible assumption) | assumption⟩
theorem addr_fte (b:Nat) (w0 w:World) (l:L9) (ha:At b w0 w l) (h1:l.hit 91=true) (l2:L9) (hb:(l.tk true).sk.rB=some l2) (hp:l2.sk.hit 43=false) (hm:(l2.sk.tk false).hit 45=true) (l':L9) (v:Int) (hd:((l2.sk.tk false).tk true).sk.dg true=some (some v,l')) (hop:l'.op=l2.op) (hf:fitsM (formM l2.op) v=true) (h3:({ l' with imm:=v }:L9).sk.hit 93=true) :
  Calls Tryz.prog 129 #[pt b] w (OutV b w0 (some (({ l' with imm:=v }:L9).sk.tk true))):=by
 have HD:=fun (_:Unit)=>hd
 clear hd
 have hfld:=field_form (bS (nameM l2.op)) (formM l2.op)
 go_enter Tryz.func129,Tryz.ntmps129
 go_wp2_with (first | (go_at_call 153;refine (digits_s asm _ _ _ (by exact HD ())).mono ?_;rintro e w3 ⟨rfl,ha3⟩;have g3:=ha3.ln.c3;rw [hop] at g3) | (go_at_call 55;refine (kindOf_k asm _).mono ?_;rintro e w4 ⟨rfl,ha4⟩) | (go_at_call 80;refine (fits_k asm _ _ _ asm).mono ?_;rintro e w5 ⟨rfl,ha5⟩) | (go_at_call 103;refine (take_z asm _ (by decide) _ asm).mono ?_;rintro e w1 ⟨rfl,ha1⟩) | (go_at_call 101;refine (need_k (l:=l') (by with_reducible assumption) _).mono ?_;rintro e w2 ⟨rfl,ha2⟩;have gf6:=ha2.ln.fz 6;have g6:=ha2.ln.c6;have hput:=ha2.put { l' with imm:=v } 6 (.int .i64 v) rfl ha2.sz ha2.le) | (go_at_call 101;refine (need_k asm _).mono ?_;rintro e w2 ⟨rfl,ha2⟩) | (go_at_call 97;refine (blanks_k asm).mono ?_;rintro e w7 ⟨rfl,ha7⟩) | (go_at_call 131;refine (regB_s asm _ asm).mono ?_;rintro e w8 ⟨rfl,ha8⟩))
 exact ⟨rfl,.tuple #[],results_none rfl _ _ _,rfl,by first | (with_reducible assumption) | assumption⟩
theorem addr_tfa (b:Nat) (w0 w:World) (l:L9) (ha:At b w0 w l) (h1:l.hit 91=true) (l2:L9) (hb:(l.tk true).sk.rB=some l2) (hp:l2.sk.hit 43=true) (hm:(l2.sk.tk true).hit 45=false) (hd:((l2.sk.tk true).tk false).sk.dg false=none) :
  Calls Tryz.prog 129 #[pt b] w (OutV b w0 none):=by
 have HD:=fun (_:Unit)=>hd
 clear hd
 go_enter Tryz.func129,Tryz.ntmps129
 go_wp2_with (first | (go_at_call 153;refine (digits_n asm _ (by exact HD ())).mono ?_;rintro e w3 ⟨rfl,ha3⟩) | (go_at_call 103;refine (take_z asm _ (by decide) _ asm).mono ?_;rintro e w1 ⟨rfl,ha1⟩) | (go_at_call 101;refine (need_k asm _).mono ?_;rintro e w2 ⟨rfl,ha2⟩) | (go_at_call 97;refine (blanks_k asm).mono ?_;rintro e w7 ⟨rfl,ha7⟩) | (go_at_call 131;refine (regB_s asm _ asm).mono ?_;rintro e w8 ⟨rfl,ha8⟩))
 exact ⟨rfl,rfl,by first | (with_reducible assumption) | assumption⟩
theorem addr_tfb (b:Nat) (w0 w:World) (l:L9) (ha:At b w0 w l) (h1:l.hit 91=true) (l2:L9) (hb:(l.tk true).sk.rB=some l2) (hp:l2.sk.hit 43=true) (hm:(l2.sk.tk true).hit 45=false) (l':L9) (hd:((l2.sk.tk true).tk false).sk.dg false=some (none,l')) :
  Calls Tryz.prog 129 #[pt b] w (OutV b w0 none):=by
 have HD:=fun (_:Unit)=>hd
 clear hd
 go_enter Tryz.func129,Tryz.ntmps129
 go_wp2_with (first | (go_at_call 153;refine (digits_f asm _ _ (by exact HD ())).mono ?_;rintro e w3 ⟨n,rfl,ha3⟩) | (go_at_call 103;refine (take_z asm _ (by decide) _ asm).mono ?_;rintro e w1 ⟨rfl,ha1⟩) | (go_at_call 101;refine (need_k asm _).mono ?_;rintro e w2 ⟨rfl,ha2⟩) | (go_at_call 97;refine (blanks_k asm).mono ?_;rintro e w7 ⟨rfl,ha7⟩) | (go_at_call 131;refine (regB_s asm _ asm).mono ?_;rintro e w8 ⟨rfl,ha8⟩))
 exact ⟨rfl,rfl,by first | (with_reducible assumption) | assumption⟩
theorem addr_tfc (b:Nat) (w0 w:World) (l:L9) (ha:At b w0 w l) (h1:l.hit 91=true) (l2:L9) (hb:(l.tk true).sk.rB=some l2) (hp:l2.sk.hit 43=true) (hm:(l2.sk.tk true).hit 45=false) (l':L9) (v:Int) (hd:((l2.sk.tk true).tk false).sk.dg false=some (some v,l')) (hop:l'.op=l2.op) (hf:fitsM (formM l2.op) v=false) :
  Calls Tryz.prog 129 #[pt b] w (OutV b w0 none):=by
 have HD:=fun (_:Unit)=>hd
 clear hd
 have hfld:=field_form (bS (nameM l2.op)) (formM l2.op)
 go_enter Tryz.func129,Tryz.ntmps129
 go_wp2_with (first | (go_at_call 153;refine (digits_s asm _ _ _ (by exact HD ())).mono ?_;rintro e w3 ⟨rfl,ha3⟩;have g3:=ha3.ln.c3;rw [hop] at g3) | (go_at_call 55;refine (kindOf_k asm _).mono ?_;rintro e w4 ⟨rfl,ha4⟩) | (go_at_call 80;refine (fits_k asm _ _ _ asm).mono ?_;rintro e w5 ⟨rfl,ha5⟩) | (go_at_call 103;refine (take_z asm _ (by decide) _ asm).mono ?_;rintro e w1 ⟨rfl,ha1⟩) | (go_at_call 101;refine (need_k asm _).mono ?_;rintro e w2 ⟨rfl,ha2⟩) | (go_at_call 97;refine (blanks_k asm).mono ?_;rintro e w7 ⟨rfl,ha7⟩) | (go_at_call 131;refine (regB_s asm _ asm).mono ?_;rintro e w8 ⟨rfl,ha8⟩))
 exact ⟨rfl,rfl,by first | (with_reducible assumption) | assumption⟩
theorem addr_tfd (b:Nat) (w0 w:World) (l:L9) (ha:At b w0 w l) (h1:l.hit 91=true) (l2:L9) (hb:(l.tk true).sk.rB=some l2) (hp:l2.sk.hit 43=true) (hm:(l2.sk.tk true).hit 45=false) (l':L9) (v:Int) (hd:((l2.sk.tk true).tk false).sk.dg false=some (some v,l')) (hop:l'.op=l2.op) (hf:fitsM (formM l2.op) v=true) (h3:({ l' with imm:=v }:L9).sk.hit 93=false) :
  Calls Tryz.prog 129 #[pt b] w (OutV b w0 none):=by
 have HD:=fun (_:Unit)=>hd
 clear hd
 have hfld:=field_form (bS (nameM l2.op)) (formM l2.op)
 go_enter Tryz.func129,Tryz.ntmps129
 go_wp2_with (first | (go_at_call 153;refine (digits_s asm _ _ _ (by exact HD ())).mono ?_;rintro e w3 ⟨rfl,ha3⟩;have g3:=ha3.ln.c3;rw [hop] at g3) | (go_at_call 55;refine (kindOf_k asm _).mono ?_;rintro e w4 ⟨rfl,ha4⟩) | (go_at_call 80;refine (fits_k asm _ _ _ asm).mono ?_;rintro e w5 ⟨rfl,ha5⟩) | (go_at_call 103;refine (take_z asm _ (by decide) _ asm).mono ?_;rintro e w1 ⟨rfl,ha1⟩) | (go_at_call 101;refine (need_k (l:=l') (by with_reducible assumption) _).mono ?_;rintro e w2 ⟨rfl,ha2⟩;have gf6:=ha2.ln.fz 6;have g6:=ha2.ln.c6;have hput:=ha2.put { l' with imm:=v } 6 (.int .i64 v) rfl ha2.sz ha2.le) | (go_at_call 101;refine (need_k asm _).mono ?_;rintro e w2 ⟨rfl,ha2⟩) | (go_at_call 97;refine (blanks_k asm).mono ?_;rintro e w7 ⟨rfl,ha7⟩) | (go_at_call 131;refine (regB_s asm _ asm).mono ?_;rintro e w8 ⟨rfl,ha8⟩))
 exact ⟨rfl,rfl,by first | (with_reducible assumption) | assumption⟩
theorem addr_tfe (b:Nat) (w0 w:World) (l:L9) (ha:At b w0 w l) (h1:l.hit 91=true) (l2:L9) (hb:(l.tk true).sk.rB=some l2) (hp:l2.sk.hit 43=true) (hm:(l2.sk.tk true).hit 45=false) (l':L9) (v:Int) (hd:((l2.sk.tk true).tk false).sk.dg false=some (some v,l')) (hop:l'.op=l2.op) (hf:fitsM (formM l2.op) v=true) (h3:({ l' with imm:=v }:L9).sk.hit 93=true) :
  Calls Tryz.prog 129 #[pt b] w (OutV b w0 (some (({ l' with imm:=v }:L9).sk.tk true))):=by
 have HD:=fun (_:Unit)=>hd
 clear hd
 have hfld:=field_form (bS (nameM l2.op)) (formM l2.op)
 go_enter Tryz.func129,Tryz.ntmps129
 go_wp2_with (first | (go_at_call 153;refine (digits_s asm _ _ _ (by exact HD ())).mono ?_;rintro e w3 ⟨rfl,ha3⟩;have g3:=ha3.ln.c3;rw [hop] at g3) | (go_at_call 55;refine (kindOf_k asm _).mono ?_;rintro e w4 ⟨rfl,ha4⟩) | (go_at_call 80;refine (fits_k asm _ _ _ asm).mono ?_;rintro e w5 ⟨rfl,ha5⟩) | (go_at_call 103;refine (take_z asm _ (by decide) _ asm).mono ?_;rintro e w1 ⟨rfl,ha1⟩) | (go_at_call 101;refine (need_k (l:=l') (by with_reducible assumption) _).mono ?_;rintro e w2 ⟨rfl,ha2⟩;have gf6:=ha2.ln.fz 6;have g6:=ha2.ln.c6;have hput:=ha2.put { l' with imm:=v } 6 (.int .i64 v) rfl ha2.sz ha2.le) | (go_at_call 101;refine (need_k asm _).mono ?_;rintro e w2 ⟨rfl,ha2⟩) | (go_at_call 97;refine (blanks_k asm).mono ?_;rintro e w7 ⟨rfl,ha7⟩) | (go_at_call 131;refine (regB_s asm _ asm).mono ?_;rintro e w8 ⟨rfl,ha8⟩))
 exact ⟨rfl,.tuple #[],results_none rfl _ _ _,rfl,by first | (with_reducible assumption) | assumption⟩
theorem addr_tt (b:Nat) (w0 w:World) (l:L9) (ha:At b w0 w l) (h1:l.hit 91=true) (l2:L9) (hb:(l.tk true).sk.rB=some l2) (hp:l2.sk.hit 43=true) (hm:(l2.sk.tk true).hit 45=true) :
  Calls Tryz.prog 129 #[pt b] w (OutV b w0 none):=by
 go_enter Tryz.func129,Tryz.ntmps129
 go_wp2_with (first | (go_at_call 103;refine (take_z asm _ (by decide) _ asm).mono ?_;rintro e w1 ⟨rfl,ha1⟩) | (go_at_call 101;refine (need_k asm _).mono ?_;rintro e w2 ⟨rfl,ha2⟩) | (go_at_call 97;refine (blanks_k asm).mono ?_;rintro e w7 ⟨rfl,ha7⟩) | (go_at_call 131;refine (regB_s asm _ asm).mono ?_;rintro e w8 ⟨rfl,ha8⟩))
 exact ⟨rfl,rfl,by first | (with_reducible assumption) | assumption⟩
theorem address_any (b:Nat) (w0 w:World) (l:L9) (ha:At b w0 w l):Calls Tryz.prog 129 #[pt b] w (OutV b w0 l.addr):=by
 unfold L9.addr
 cases h1:l.hit 91 with
 | false =>
  rw [if_neg (by decide)]
  go_enter Tryz.func129,Tryz.ntmps129
  go_wp2_with (first | (go_at_call 103;refine (take_z asm _ (by decide) _ asm).mono ?_;rintro e w1 ⟨rfl,ha1⟩) | (go_at_call 101;refine (need_k asm _).mono ?_;rintro e w2 ⟨rfl,ha2⟩))
  exact ⟨rfl,rfl,by first | (with_reducible assumption) | assumption⟩
 | true =>
  rw [if_pos rfl]
  have hb:(l.tk true).sk.rB=l.next.sk.rB:=rfl
  cases h2:l.next.sk.rB with
  | none =>
   rw [h2] at hb
   go_enter Tryz.func129,Tryz.ntmps129
   go_wp2_with (first | (go_at_call 103;refine (take_z asm _ (by decide) _ asm).mono ?_;rintro e w1 ⟨rfl,ha1⟩) | (go_at_call 101;refine (need_k asm _).mono ?_;rintro e w2 ⟨rfl,ha2⟩) | (go_at_call 97;refine (blanks_k asm).mono ?_;rintro e w7 ⟨rfl,ha7⟩) | (go_at_call 131;refine (regB_n asm asm).mono ?_;rintro e w8 ⟨rfl,ha8⟩))
   exact ⟨rfl,rfl,by first | (with_reducible assumption) | assumption⟩
  | some l2 =>
   rw [h2] at hb
   show Calls _ _ _ _ (OutV b w0 l2.sk.addr2)
   unfold L9.addr2
   cases hp:l2.sk.hit 43 with
   | false =>
    cases hm:(l2.sk.tk false).hit 45 with
    | false =>
     rw [if_neg (show ¬ (false && false)=true by decide)]
     rw [if_neg (show ¬ (false || false)=true by decide)]
     unfold L9.close
     cases h3:((l2.sk.tk false).tk false).hit 93 with
     | false =>
      rw [if_neg (by decide)]
      exact addr_ffn b w0 w l ha h1 l2 hb hp hm h3
     | true =>
      rw [if_pos rfl]
      exact addr_ffs b w0 w l ha h1 l2 hb hp hm h3
    | true =>
     rw [if_neg (show ¬ (false && true)=true by decide)]
     rw [if_pos (show (false || true)=true from rfl)]
     cases hd:((l2.sk.tk false).tk true).sk.dg true with
     | none=>exact addr_fta b w0 w l ha h1 l2 hb hp hm hd
     | some q =>
      obtain ⟨o,l'⟩:=q
      have hop:l'.op=l2.op:=(dg_op hd).trans rfl
      cases o with
      | none=>exact addr_ftb b w0 w l ha h1 l2 hb hp hm l' hd
      | some v =>
       cases hf:fitsM (formM l2.op) v with
       | false =>
        have hr:L9.setN (formM ((l2.sk.tk false).tk true).op) (some (some v,l'))=none:=by simp [L9.setN,show formM ((l2.sk.tk false).tk true).op=formM l2.op from rfl,hf]
        rw [hr]
        exact addr_ftc b w0 w l ha h1 l2 hb hp hm l' v hd hop hf
       | true =>
        have hr:L9.setN (formM ((l2.sk.tk false).tk true).op) (some (some v,l'))=some { l' with imm:=v }:=by simp [L9.setN,show formM ((l2.sk.tk false).tk true).op=formM l2.op from rfl,hf]
        rw [hr]
        show Calls _ _ _ _ (OutV b w0 (L9.close ({ l' with imm:=v }:L9).sk))
        unfold L9.close
        cases h3:({ l' with imm:=v }:L9).sk.hit 93 with
        | false =>
         rw [if_neg (by decide)]
         exact addr_ftd b w0 w l ha h1 l2 hb hp hm l' v hd hop hf h3
        | true =>
         rw [if_pos rfl]
         exact addr_fte b w0 w l ha h1 l2 hb hp hm l' v hd hop hf h3
   | true =>
    cases hm:(l2.sk.tk true).hit 45 with
    | false =>
     rw [if_neg (show ¬ (true && false)=true by decide)]
     rw [if_pos (show (true || false)=true from rfl)]
     cases hd:((l2.sk.tk true).tk false).sk.dg false with
     | none=>exact addr_tfa b w0 w l ha h1 l2 hb hp hm hd
     | some q =>
      obtain ⟨o,l'⟩:=q
      have hop:l'.op=l2.op:=(dg_op hd).trans rfl
      cases o with
      | none=>exact addr_tfb b w0 w l ha h1 l2 hb hp hm l' hd
      | some v =>
       cases hf:fitsM (formM l2.op) v with
       | false =>
        have hr:L9.setN (formM ((l2.sk.tk true).tk false).op) (some (some v,l'))=none:=by simp [L9.setN,show formM ((l2.sk.tk true).tk false).op=formM l2.op from rfl,hf]
        rw [hr]
        exact addr_tfc b w0 w l ha h1 l2 hb hp hm l' v hd hop hf
       | true =>
        have hr:L9.setN (formM ((l2.sk.tk true).tk false).op) (some (some v,l'))=some { l' with imm:=v }:=by simp [L9.setN,show formM ((l2.sk.tk true).tk false).op=formM l2.op from rfl,hf]
        rw [hr]
        show Calls _ _ _ _ (OutV b w0 (L9.close ({ l' with imm:=v }:L9).sk))
        unfold L9.close
        cases h3:({ l' with imm:=v }:L9).sk.hit 93 with
        | false =>
         rw [if_neg (by decide)]
         exact addr_tfd b w0 w l ha h1 l2 hb hp hm l' v hd hop hf h3
        | true =>
         rw [if_pos rfl]
         exact addr_tfe b w0 w l ha h1 l2 hb hp hm l' v hd hop hf h3
    | true =>
     rw [if_pos (show (true && true)=true from rfl)]
     exact addr_tt b w0 w l ha h1 l2 hb hp hm
end Go.Proofs.YtffojmgmpfjlhaaGreatDoor
