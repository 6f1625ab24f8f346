/- Parts of the proof that the program's token functions return what the specification's return. -/
import Derived.Test.YtadgddipkbdnbaaGreatDoorLexTokensZ1
import Derived.Test.YtadgddipkbdnbaaGreatDoorLexTokensZ2
import Derived.Test.YtadgddipkbdnbaaGreatDoorLexTokensZ3
import Derived.Test.YtadgddipkbdnbaaGreatDoorLexTokensZ4
import Derived.Test.YtadgddipkbdnbaaGreatDoorLexTokensZ5
import Derived.Test.YtadgddipkbdnbaaGreatDoorLexTokensZ6
import Derived.Test.YtadgddipkbdnbaaGreatDoorLexTokensZ7
import Derived.Test.YtadgddipkbdnbaaGreatDoorLexTokensZ12
import Derived.Test.YtadgddipkbdnbaaGreatDoorLexTokensZ13
import Derived.Test.YtadgddipkbdnbaaGreatDoorLexTokensZ14
import Derived.Test.YtadgddipkbdnbaaGreatDoorLexTokensZ15
import Derived.Test.YtadgddipkbdnbaaGreatDoorLexTokensZ16
import Derived.RangeFuncRecord
import Derived.RecoverIn
import Derived.Recover
import Derived.RangeFuncLeaves
import Derived.OwnWalkIn
import Derived.RangeFuncCalls
set_option linter.unusedVariables false
set_option linter.unusedSimpArgs false
namespace Go.Proofs.YtadgddipkbdnbaaGreatDoor
open Go.RowKit
variable {P:Program}
def WpF (f:FuncId) (P:Program) (c:Code) (Q:Exit→Act→World→Prop) (a:Act) (w:World):Prop :=
 ∀ (b:Frame) (k:List Item) (cs:List Frame),b.roundOf=none→b.fn=f →
  ∃ e a' w',Q e a' w'∧ArrivesIn (Machine.fenced P Fence.wide) P (lone (b.atR a (.code c :: k)) cs w) b k cs e a' w'
theorem wpF_of_wp {f:FuncId} {c:Code} {Q:Exit→Act→World→Prop} {a:Act} {w:World} (h:c.wp P Q a w):WpF f P c Q a w :=
 fun b k cs hro _=>((wpIn_wide (n:=0)).2 h) b k cs hro trivial (room_wide _)
theorem wpF_seq {f:FuncId} {x y:Code} {Q:Exit→Act→World→Prop} {a:Act} {w:World} (h:WpF f P x (Exit.then (WpF f P y Q) Q) a w):WpF f P (Code.seq x y) Q a w:=by
 intro b k cs hro hb
 have h0:(lone (b.atR a (.code (.seq x y) :: k)) cs w).fenced P Fence.wide:=fenced_calm (n:=0) trivial (room_wide _) rfl
 obtain ⟨e,a₁,w₁,hq,harr⟩:=h b (.code y :: k) cs hro hb
 cases e with
 | normal =>
  obtain ⟨e₂,a₂,w₂,hq₂,harr₂⟩:=hq b k cs hro hb
  exact ⟨e₂,a₂,w₂,hq₂,.of_steps (.head h0 stepR_seq harr) harr₂⟩
 | exit id=>exact ⟨_,a₁,w₁,hq,.of_steps (.one h0 stepR_seq) (.pass (x:=.code y) rfl (fun _ _=>.inl (by simp)) harr)⟩
 | goto l=>exact ⟨_,a₁,w₁,hq,.of_steps (.one h0 stepR_seq) (.pass (x:=.code y) rfl (fun _ _=>.inl (by simp)) harr)⟩
 | ret=>exact ⟨_,a₁,w₁,hq,.of_steps (.one h0 stepR_seq) (.pass (x:=.code y) rfl (fun _ _=>.inl (by simp)) harr)⟩
 | panic ch=>exact ⟨_,a₁,w₁,hq,.of_steps (.one h0 stepR_seq) (.pass (x:=.code y) rfl (fun _ _=>.inl (by simp)) harr)⟩
 | outgrown=>exact ⟨_,a₁,w₁,hq,.of_steps (.one h0 stepR_seq) (.pass (x:=.code y) rfl (fun _ _=>.inl (by simp)) harr)⟩
theorem wpF_block {f:FuncId} {id:Nat} {c:Code} {Q:Exit→Act→World→Prop} {a:Act} {w:World} (h:WpF f P c (Exit.inBlock id Q) a w):WpF f P (Code.block id c) Q a w:=by
 intro b k cs hro hb
 have h0:(lone (b.atR a (.code (.block id c) :: k)) cs w).fenced P Fence.wide:=fenced_calm (n:=0) trivial (room_wide _) rfl
 obtain ⟨e,a₁,w₁,hq,harr⟩:=h b (.inBlock id :: k) cs hro hb
 cases e with
 | normal=>exact ⟨.normal,a₁,w₁,hq,.head h0 stepR_block (StepsIn.trans harr (.one (fenced_calm (n:=0) trivial (room_wide _) rfl) stepR_inBlock))⟩
 | exit id' =>
  by_cases hid:id'=id
  ·simp only [Exit.inBlock,hid,if_true] at hq
   exact ⟨.normal,a₁,w₁,hq,.head h0 stepR_block (harr.1 k (by simp [exitTo,hid]))⟩
  ·simp only [Exit.inBlock,hid,if_false] at hq
   have this:(id == id')=false:=by simp;exact fun h=>hid h.symm
   have hx:exitTo id' (.inBlock id :: k)=exitTo id' k:=by simp [exitTo,this]
   exact ⟨.exit id',a₁,w₁,hq,fun k' hk=>.head h0 stepR_block (harr.1 k' (by rw [hx];exact hk)),
    fun hr' hk=>let ⟨k₁,h1,h2⟩:=harr.2 hr' (by rw [hx];exact hk);⟨k₁,h1,.head h0 stepR_block h2⟩⟩
 | goto l =>
  have hx:gotoIn l (.inBlock id :: k)=gotoIn l k:=by simp [gotoIn]
  exact ⟨_,a₁,w₁,hq,fun k' hk=>.head h0 stepR_block (harr.1 k' (by rw [hx];exact hk)),
   fun hr' hk=>let ⟨k₁,h1,h2⟩:=harr.2 hr' (by rw [hx];exact hk);⟨k₁,h1,.head h0 stepR_block h2⟩⟩
 | ret=>exact ⟨_,a₁,w₁,hq,.of_steps (.one h0 stepR_block) harr⟩
 | panic ch=>exact ⟨_,a₁,w₁,hq,.of_steps (.one h0 stepR_block) harr⟩
 | outgrown=>exact ⟨_,a₁,w₁,hq,.of_steps (.one h0 stepR_block) harr⟩
def RangeEnd (f:FuncId) (P:Program) (l:Nat) (Q:Exit→Act→World→Prop) (a':Act):Ending→World→Prop
 | .returned _,w₃=>∃ w₄,(Instr.endLoop l).run P w₃=.ok none w₄∧Q .normal a' w₄
 | .panicked chain,w₃=>Q (.panic chain) a' w₃
 | .outgrown,_=>False
theorem wpF_rangeFunc {f:FuncId} {g:Operand} {ps:Array Tmp} {assign body:Code} {Q:Exit→Act→World→Prop} {a:Act} {w:World}
  (h:∃ (l:Nat) (mark:List Deferred) (w₁:World) (d:Deferred) (w₁':World) (gf:FuncId) (args:Array Value) (w₂:World),
   (Instr.enterLoop f a.tmps ps assign body none).run P w=.ok (l,mark) w₁ ∧
   (resolve a.eval (rangeCall g l) 0).run P w₁=.ok d w₁' ∧
   (invoke d.target d.args).run P w₁'=.ok (.enter gf args) w₂ ∧
   Calls P gf args w₂ (RangeEnd f P l Q { a with defers:=mark ++ a.defers })) :
  WpF f P (Code.rangeFunc g ps assign body) Q a w:=by
 intro b k cs hro hb
 obtain ⟨l,mark,w₁,d,w₁',gf,args,w₂,he,hres,hinv,hcall⟩:=h
 subst hb
 rw [← hro] at he
 have h0:(lone (b.atR a (.code (.rangeFunc g ps assign body) :: k)) cs w).fenced P Fence.wide :=
  fenced_lone (.inl trivial) (fun f' hf'=>trivial) (room_wide _)
 have henter:=stepR_rangeFunc (P:=P) (b:=b) (a:=a) (k:=k) (cs:=cs) (w:=w) he hres hinv
 obtain ⟨e,w₃,fr,hR,hsteps,hfn,hleave⟩:=((callsIn_wide (n:=0)).2 hcall).2 (b.atR { a with defers:=mark ++ a.defers } (.inRangeFunc l :: k) :: cs) (room_wide _)
 cases e with
 | outgrown=>exact hR.elim
 | returned v =>
  have hl:(lone fr (b.atR { a with defers:=mark ++ a.defers } (.inRangeFunc l :: k) :: cs) w₃).fenced P Fence.wide:=fenced_leaving (n:=0) trivial (room_wide _) hleave
  obtain ⟨w₄,hend,hq⟩:=hR
  refine ⟨.normal,_,w₄,hq,.head h0 henter (StepsIn.trans hsteps (.head hl ?_ (.one (fenced_calm (n:=0) (fr:=b.atR { a with defers:=mark ++ a.defers } (.endRangeFunc l :: k)) trivial (room_wide _) rfl) (stepR_endRangeFunc hend))))⟩
  rw [← finish_atR_inRangeFunc l v];exact step_leave_returned hleave
 | panicked chain =>
  have hl:(lone fr (b.atR { a with defers:=mark ++ a.defers } (.inRangeFunc l :: k) :: cs) w₃).fenced P Fence.wide:=fenced_leaving (n:=0) trivial (room_wide _) hleave
  refine ⟨.panic chain,_,w₃,hR,.inRangeFunc l :: k,.head h0 henter (StepsIn.trans hsteps (.one hl ?_))⟩
  rw [← Frame.raise_atR];exact step_leave_panicked hleave
theorem calls_of_wpF {f:FuncId} {fn:Func} {c:Code} {args:Array Value} {w:World} {R:Ending→World→Prop}
  (hf:P.funcs[f]?=some fn) (hb:fn.body=some c)
  (h:WpF f P c (bodyPostM Fence.wide 0 P fn R) { tmps:=args ++ Array.replicate (fn.ntmps - args.size) undef,defers:=[] } w):Calls P f args w R:=by
 refine (callsIn_wide (n:=0)).1 ⟨trivial,fun cs hr=>?_⟩
 let b:Frame:={ (default:Frame) with fn:=f,kind:=.normal,roundOf:=none }
 have henter:Frame.enter P f args .normal =
   b.atR { tmps:=args ++ Array.replicate (fn.ntmps - args.size) undef,defers:=[] } [.code c]:=by
  simp [Frame.enter,Frame.atR,hf,hb,b]
 obtain ⟨e,a',w',hq,harr⟩:=h b [] cs rfl rfl
 rw [← henter] at harr
 cases e with
 | normal =>
  obtain ⟨e',w'',fr',hR,hs,hfn,hl⟩:=leaves_stepsInM a'.defers .returning w' { b.atR a' [] with mode:=.returning } cs rfl rfl rfl hf rfl trivial hr hq
  exact ⟨e',w'',fr',hR,ComesIn.of_steps (StepsIn.trans harr (.one (fenced_calm (n:=0) (fr:=b.atR a' []) trivial hr rfl) (stepR_end rfl))) hs,hfn,hl⟩
 | ret =>
  obtain ⟨todo,hs₀⟩:=harr.1 rfl
  obtain ⟨e',w'',fr',hR,hs,hfn,hl⟩:=leaves_stepsInM a'.defers .returning w' { b.atR a' todo with mode:=.returning } cs rfl rfl rfl hf rfl trivial hr hq
  exact ⟨e',w'',fr',hR,ComesIn.of_steps hs₀ hs,hfn,hl⟩
 | panic chain =>
  obtain ⟨todo,hs₀⟩:=harr
  obtain ⟨e',w'',fr',hR,hs,hfn,hl⟩:=leaves_stepsInM a'.defers (.panicking chain) w' { b.atR a' todo with mode:=.panicking chain } cs rfl rfl rfl hf rfl trivial hr hq
  exact ⟨e',w'',fr',hR,ComesIn.of_steps hs₀ hs,hfn,hl⟩
 | exit id=>exact hq.elim
 | goto l=>exact hq.elim
 | outgrown=>exact ⟨.outgrown,w',b,hq,harr.resolve_left (by simp [b]),rfl,trivial⟩
def RoundEnd (P:Program) (l:Nat) (R:Ending→World→Prop):Exit→Act→World→Prop
 | .normal,_,w=>∃ v w',(Instr.endRound l none).run P w=.ok v w'∧R (.returned v) w'
 | .panic chain,a,w=>a.defers=[]∧R (.panicked chain) w
 | _,_,_=>False
theorem roundIn_of_throws {l:Nat} {f:FuncId} {fn:Func} {tmps:Array Value} {assign body:Code} {w:World} {R:Ending→World→Prop} (hf:P.funcs[f]?=some fn)
  (h:assign.wpIn (Fence.wide.inRound l) 0 P (Exit.then (fun a₁ w₁=>∃ w₂,(Instr.beginRound l).run P w₁=.ok () w₂∧body.wpIn (Fence.wide.inRound l) 0 P (RoundEnd P l R) a₁ w₂) (fun _ _ _=>False))
   { tmps:=tmps,defers:=[] } w) :
  RoundIn Fence.wide 0 P l f tmps assign body w R:=by
 refine ⟨trivial,fun c cs hr=>?_⟩
 let b:Frame:={ (default:Frame) with fn:=f,kind:=.normal,roundOf:=some l }
 have hb0:Frame.round l f tmps assign body .normal=b.atR { tmps:=tmps,defers:=[] } [.code assign,.beginRound,.code body]:=by
  simp [Frame.round,Frame.atR,b]
 have hr':(Fence.wide.inRound l).room ((c :: cs).length+1+0):=hr
 have hF':(Fence.wide.inRound l).fn b.fn:=trivial
 obtain ⟨e,a₁,w₁,hq,harr⟩:=h b [.beginRound,.code body] (c :: cs) rfl hF' hr'
 rw [← hb0] at harr
 cases e with
 | normal =>
  obtain ⟨w₂,hbr,hbody⟩:=hq
  have s1:StepsIn (Machine.fenced P (Fence.wide.inRound l)) P (lone (b.atR a₁ [.beginRound,.code body]) (c :: cs) w₁) (lone (b.atR a₁ [.code body]) (c :: cs) w₂) :=
   .one (fenced_calm (n:=0) (fr:=b.atR a₁ [.beginRound,.code body]) hF' hr' rfl) (stepR_beginRound rfl hbr)
  obtain ⟨e₂,a₂,w₃,hq₂,harr₂⟩:=hbody b [] (c :: cs) rfl hF' hr'
  cases e₂ with
  | normal =>
   obtain ⟨v,w₄,hend,hR⟩:=hq₂
   exact ⟨.returned v,w₄,hR,(StepsIn.trans harr s1).trans (StepsIn.trans harr₂ (.one (fenced_calm (n:=0) (fr:=b.atR a₂ []) hF' hr' rfl) (stepR_round_end rfl rfl hend)))⟩
  | panic chain =>
   obtain ⟨hd,hR⟩:=hq₂
   obtain ⟨todo,hs⟩:=harr₂
   have hleave:({ b.atR a₂ todo with mode:=.panicking chain }:Frame).leaving P w₃ (.panicked chain):=⟨rfl,hd,fn,hf⟩
   exact ⟨.panicked chain,w₃,hR,(StepsIn.trans harr s1).trans (StepsIn.trans hs (.one (fenced_leaving (n:=0) hF' hr' hleave) (step_leave_panicked hleave)))⟩
  | ret=>exact hq₂.elim
  | exit id=>exact hq₂.elim
  | goto t=>exact hq₂.elim
  | outgrown=>exact hq₂.elim
 | exit id=>exact hq.elim
 | goto t=>exact hq.elim
 | ret=>exact hq.elim
 | panic chain=>exact hq.elim
 | outgrown=>exact hq.elim
section
variable {P:Program} {o:Oper} {a:Act} {cs cs':List Frame} {w:World} {Q:Exit→Act→List Frame→World→Prop} {v:Value}
theorem recover_run (hop:o.op=.call { callee:=.builtin .recover,args:=#[],argTypes:=#[] }) (a:Act) (w:World):(execOp a.eval o).run P w=.ok .recover w:=by
 unfold execOp
 simp [hop,resolve,invoke,builtin,Sem.run_bind,Sem.run_pure,Result.andThen]
theorem recover_none (hop:o.op=.call { callee:=.builtin .recover,args:=#[],argTypes:=#[] }) (hg:o.guard=none) (hr:recoverD cs=none) (hq:Q .normal (a.put o.dst .nilIface) cs w) :
  wpOpsSIn Fence.wide 0 P #[o] Q (List.range #[o].size) a cs w:=by
 show wpOpsSIn Fence.wide 0 P #[o] Q [0] a cs w
 have hw:Region.wanted o (yielded #[o] a.tmps)=true:=by simp [Region.wanted,hg]
 simp only [wpOpsSIn,List.getElem?_toArray,List.getElem?_cons_zero,hw,if_true,recover_run hop,hr]
 exact ⟨fun _ _=>trivial,hq⟩
theorem recover_some (hop:o.op=.call { callee:=.builtin .recover,args:=#[],argTypes:=#[] }) (hg:o.guard=none) (hr:recoverD cs=some (v,cs')) (hq:Q .normal (a.put o.dst v) cs' w) :
  wpOpsSIn Fence.wide 0 P #[o] Q (List.range #[o].size) a cs w:=by
 show wpOpsSIn Fence.wide 0 P #[o] Q [0] a cs w
 have hw:Region.wanted o (yielded #[o] a.tmps)=true:=by simp [Region.wanted,hg]
 simp only [wpOpsSIn,List.getElem?_toArray,List.getElem?_cons_zero,hw,if_true,recover_run hop,hr]
 exact ⟨fun _ _=>trivial,hq⟩
end
theorem caught_idle (p q:Addr) (w:World) :
  CallsDIn Fence.wide 0 Tryz.prog 72 #[.pointer (some p),.pointer (some q)] .returning w fun e u' w'=>e=.returned (.tuple #[])∧u'=.returning∧w'=w:=by
 refine callsDIn_of_wpSIn Tryz.func72 rfl trivial fun c₀ cs hu=>?_
 apply wpSIn_seq
 apply wpSIn_region
 refine recover_none rfl rfl (by simp only [recoverD,hu]) ?_
 refine wpSIn_of_wpIn rfl (wpIn_wide.2 ?_)
 simp only [Tryz.ntmps72,List.size_toArray,List.length_cons,List.length_nil,Nat.reduceAdd,Nat.reduceSub,Array.replicate_succ,Array.replicate_zero,List.push_toArray,List.append_toArray,List.nil_append,List.cons_append,Act.put,List.setIfInBounds_toArray,List.set_cons_zero,List.set_cons_succ]
 have hc:{ c₀ with mode:=.returning }=c₀:=by cases c₀;simp_all
 go_wp2
 exact ⟨rfl,.returning,by rw [hc],_,results_none rfl _ _ _,rfl,rfl,rfl⟩
set_option maxHeartbeats 1000000 in
set_option maxRecDepth 100000 in
theorem caught_throw (pa pe:Nat) (a e:Int) (w:World) (h1:w.cell? ⟨pa,0,none⟩=some (.int .i64 0)) (h2:w.frozen? ⟨pa,0,none⟩=false) (h3:w.cell? ⟨pe,0,none⟩=some (.int .i64 0)) (h4:w.frozen? ⟨pe,0,none⟩=false) (hne:pa≠pe) :
  CallsDIn Fence.wide 0 Tryz.prog 72 #[.pointer (some ⟨pa,0,none⟩),.pointer (some ⟨pe,0,none⟩)] (.panicking [{ v:=.iface 122 (.agg #[.int .i64 a,.int .i64 e]),recovered:=false }]) w fun x u' w' =>
   x=.returned (.tuple #[])∧u'=.panicking [{ v:=.iface 122 (.agg #[.int .i64 a,.int .i64 e]),recovered:=true }]∧w'=(((w.setCell ⟨pa,0,none⟩ (.int .i64 a)).setCell ⟨pe,0,none⟩ (.int .i64 e)).alloc (.cells #[.int .i64 a,.int .i64 e] 122)).drew:=by
 have l1:pa < w.heap.size:=World.block_lt_of_cell? _ _ h1
 have l3:pe < w.heap.size:=World.block_lt_of_cell? _ _ h3
 refine callsDIn_of_wpSIn Tryz.func72 rfl trivial fun c₀ cs hu=>?_
 apply wpSIn_seq
 apply wpSIn_region
 refine recover_some rfl rfl (by simp only [recoverD,hu];rfl) ?_
 refine wpSIn_of_wpIn rfl (wpIn_wide.2 ?_)
 simp only [Tryz.ntmps72,List.size_toArray,List.length_cons,List.length_nil,Nat.reduceAdd,Nat.reduceSub,Array.replicate_succ,Array.replicate_zero,List.push_toArray,List.append_toArray,List.nil_append,List.cons_append,Act.put,List.setIfInBounds_toArray,List.set_cons_zero,List.set_cons_succ]
 have hta:∀ w':World,(Instr.typeAssert (Value.iface 122 (.agg #[.int .i64 a,.int .i64 e])) 20 122 true).run Tryz.prog w'=.ok (.tuple #[.agg #[.int .i64 a,.int .i64 e],.bool true]) w':=fun w'=>by kernel_rfl
 go_wp2
 go_region
 exact ⟨rfl,_,rfl,_,results_none rfl _ _ _,rfl,rfl,rfl⟩
def scanDs (D pa pe:Nat):List Deferred:=[⟨.collected D,#[]⟩,⟨.fn (.func 72) #[],#[.pointer (some ⟨pa,0,none⟩),.pointer (some ⟨pe,0,none⟩)]⟩]
theorem invoke72 (args:Array Value) (w:World) (h:args.size=2):(invoke (.fn (.func 72) #[]) args).run Tryz.prog w=.ok (.enter 72 args) w:=by
 simp [invoke,go_sem,callFunc,Tryz.func72,Tryz.f72]
theorem results49_run (tmps:Array Value) (w:World) (o pa pe:Nat) (v:Value) (a e:Int) (h2:tmps.getD 2 undef=.pointer (some ⟨o,0,none⟩)) (h3:tmps.getD 3 undef=.pointer (some ⟨pa,0,none⟩)) (h4:tmps.getD 4 undef=.pointer (some ⟨pe,0,none⟩))
  (c2:w.cell? ⟨o,0,none⟩=some v) (c3:w.cell? ⟨pa,0,none⟩=some (.int .i64 a)) (c4:w.cell? ⟨pe,0,none⟩=some (.int .i64 e)) (hv:∃ A n c,v=.slice A n c) :
  (results Tryz.f49 tmps).run Tryz.prog w=.ok (.tuple #[v,.int .i64 a,.int .i64 e]) w:=by
 obtain ⟨A,n,c,rfl⟩:=hv
 have k2:tmps[2]?.getD undef=.pointer (some ⟨o,0,none⟩):=by simpa using h2
 have k3:tmps[3]?.getD undef=.pointer (some ⟨pa,0,none⟩):=by simpa using h3
 have k4:tmps[4]?.getD undef=.pointer (some ⟨pe,0,none⟩):=by simpa using h4
 simp [results,Tryz.results49,go_sem,k2,k3,k4,c2,c3,c4]
theorem leaves_ok {tmps:Array Value} {R:Ending→World→Prop} {W:World} {D pa pe:Nat} (hD:W.heap[D]?=some (.deferred (some [])))
  (h:∃ v,(results Tryz.f49 tmps).run Tryz.prog (W.putObj D (.deferred none))=.ok v (W.putObj D (.deferred none))∧R (.returned v) (W.putObj D (.deferred none))) :
  LeavesInM Fence.wide 0 Tryz.prog Tryz.f49 tmps R (scanDs D pa pe) .returning W:=by
 refine ⟨by simp,.inl ⟨_,_,rfl,run_takeDeferred hD,?_⟩⟩
 refine ⟨by simp,.inr ⟨(fun h=>nomatch h),.func 72,#[],72,_,rfl,invoke72 _ _ rfl,fun g _=>trivial,?_⟩⟩
 refine (caught_idle ⟨pa,0,none⟩ ⟨pe,0,none⟩ _).mono ?_
 rintro e u' w' ⟨rfl,rfl,rfl⟩
 exact h
theorem leaves_throw {tmps:Array Value} {R:Ending→World→Prop} {W:World} {D pa pe:Nat} (a:Nat) (e:Int) (hD:W.heap[D]?=some (.deferred (some [])))
  (h1:(W.putObj D (.deferred none)).cell? ⟨pa,0,none⟩=some (.int .i64 0)) (h2:(W.putObj D (.deferred none)).frozen? ⟨pa,0,none⟩=false) (h3:(W.putObj D (.deferred none)).cell? ⟨pe,0,none⟩=some (.int .i64 0)) (h4:(W.putObj D (.deferred none)).frozen? ⟨pe,0,none⟩=false) (hne:pa≠pe)
  (h:∀ w',w'=((((W.putObj D (.deferred none)).setCell ⟨pa,0,none⟩ (.int .i64 (a:Int))).setCell ⟨pe,0,none⟩ (.int .i64 e)).alloc (.cells #[.int .i64 (a:Int),.int .i64 e] 122)).drew→∃ v,(results Tryz.f49 tmps).run Tryz.prog w'=.ok v w'∧R (.returned v) w') :
  LeavesInM Fence.wide 0 Tryz.prog Tryz.f49 tmps R (scanDs D pa pe) (.panicking (thrown a e)) W:=by
 refine ⟨by simp,.inl ⟨_,_,rfl,run_takeDeferred hD,?_⟩⟩
 refine ⟨by simp,.inr ⟨(fun h=>nomatch h),.func 72,#[],72,_,rfl,invoke72 _ _ rfl,fun g _=>trivial,?_⟩⟩
 refine (caught_throw pa pe (a:Int) e _ h1 h2 h3 h4 hne).mono ?_
 rintro x u' w' ⟨rfl,rfl,hw⟩
 exact h w' hw
theorem clone_any (s:ByteArray) (w:World) (hs:s.size≤281474976710656) :
  Calls Tryz.prog 75 #[.string s] w fun e w'=>e=.returned (.string s)∧Below w.heap.size w w':=by
 go_enter Tryz.func75,Tryz.ntmps75
 go_wp2_with (go_at_call 102;refine (Tryz.stringslite_Clone s _ hs).mono ?_;rintro e w1 ⟨rfl,hb1⟩)
 go_ret
 exact ⟨rfl,hb1⟩
theorem maker_any (b:Nat) (w:World) :
  Calls Tryz.prog 73 #[.pointer (some ⟨b,0,none⟩)] w fun e w'=>∃ p1 p2 H:Nat,e=.returned (.func (.func 98) #[] #[.pointer (some ⟨p1,0,none⟩),.pointer (some ⟨p2,0,none⟩)]) ∧
   w'.cell? ⟨p1,0,none⟩=some (.pointer (some ⟨b,0,none⟩))∧w'.cell? ⟨p2,0,none⟩=some (.slice (some ⟨H+1+1+1+1,0,none⟩) 6 6)∧Recs w' H∧Below w.heap.size w w'∧w.heap.size≤p1∧w.heap.size≤p2∧w.heap.size≤H:=by
 go_enter Tryz.func73,Tryz.ntmps73
 go_wp2_with (go_at_call 97;refine (recs_any _).mono ?_;rintro e w1 ⟨rfl,hr,hb,hz⟩)
 go_ret
 have hw1:w1.heap.size=w.heap.size+1+5:=by rw [hz];simp
 refine ⟨w.heap.size,w.heap.size+1+5,w.heap.size+1,rfl,?_,?_,?_,?_,Nat.le_refl _,by omega,by omega⟩
 ·refine (World.cell?_of_block (w:=w1) (Below.heap_alloc _ _ _ (by show w.heap.size < _;omega))).trans ((hb.cell (p:=⟨w.heap.size,0,none⟩) (by show w.heap.size < _;simp)).trans ?_)
  exact cell_of_row _ w.heap.size 0 #[.pointer (some ⟨b,0,none⟩)] 99 (0,0) (heap_alloc_new w _)
 ·rw [← hw1]
  exact cell_of_row _ w1.heap.size 0 #[.slice (some ⟨w.heap.size+1+1+1+1+1,0,none⟩) 6 6] 123 (0,0) (heap_alloc_new w1 _)
 ·have hr':Recs w1 (w.heap.size+1):=by simpa using hr
  exact hr'.below ((Below.refl _ _).alloc (Nat.le_refl _) _) (Nat.le_refl _)
 ·exact (((Below.refl _ _).alloc (Nat.le_refl _) _).trans (hb.mono (by simp))).alloc (by omega) _
theorem chain7 (w:World) (a b c d e f g:Obj):(((((((w.alloc a).alloc b).alloc c).alloc d).alloc e).alloc f).alloc g).heap[w.heap.size]?=some a∧(((((((w.alloc a).alloc b).alloc c).alloc d).alloc e).alloc f).alloc g).heap[w.heap.size+1]?=some b∧(((((((w.alloc a).alloc b).alloc c).alloc d).alloc e).alloc f).alloc g).heap[w.heap.size+1+1]?=some c∧(((((((w.alloc a).alloc b).alloc c).alloc d).alloc e).alloc f).alloc g).heap[w.heap.size+1+1+1]?=some d∧(((((((w.alloc a).alloc b).alloc c).alloc d).alloc e).alloc f).alloc g).heap[w.heap.size+1+1+1+1]?=some e∧(((((((w.alloc a).alloc b).alloc c).alloc d).alloc e).alloc f).alloc g).heap[w.heap.size+1+1+1+1+1]?=some f∧(((((((w.alloc a).alloc b).alloc c).alloc d).alloc e).alloc f).alloc g).heap[w.heap.size+1+1+1+1+1+1]?=some g∧(((((((w.alloc a).alloc b).alloc c).alloc d).alloc e).alloc f).alloc g).heap.size=w.heap.size+7∧Below w.heap.size w (((((((w.alloc a).alloc b).alloc c).alloc d).alloc e).alloc f).alloc g):=by
 refine ⟨?_,?_,?_,?_,?_,?_,?_,?_,?_⟩
 ·show (((((((w.heap.push a).push b).push c).push d).push e).push f).push g)[w.heap.size]?=some a
  simp only [Array.getElem?_push,Array.size_push]
  rw [if_neg (by omega),if_neg (by omega),if_neg (by omega),if_neg (by omega),if_neg (by omega),if_neg (by omega),if_pos trivial]
 ·show (((((((w.heap.push a).push b).push c).push d).push e).push f).push g)[w.heap.size+1]?=some b
  simp only [Array.getElem?_push,Array.size_push]
  rw [if_neg (by omega),if_neg (by omega),if_neg (by omega),if_neg (by omega),if_neg (by omega),if_pos trivial]
 ·show (((((((w.heap.push a).push b).push c).push d).push e).push f).push g)[w.heap.size+1+1]?=some c
  simp only [Array.getElem?_push,Array.size_push]
  rw [if_neg (by omega),if_neg (by omega),if_neg (by omega),if_neg (by omega),if_pos trivial]
 ·show (((((((w.heap.push a).push b).push c).push d).push e).push f).push g)[w.heap.size+1+1+1]?=some d
  simp only [Array.getElem?_push,Array.size_push]
  rw [if_neg (by omega),if_neg (by omega),if_neg (by omega),if_pos trivial]
 ·show (((((((w.heap.push a).push b).push c).push d).push e).push f).push g)[w.heap.size+1+1+1+1]?=some e
  simp only [Array.getElem?_push,Array.size_push]
  rw [if_neg (by omega),if_neg (by omega),if_pos trivial]
 ·show (((((((w.heap.push a).push b).push c).push d).push e).push f).push g)[w.heap.size+1+1+1+1+1]?=some f
  simp only [Array.getElem?_push,Array.size_push]
  rw [if_neg (by omega),if_pos trivial]
 ·show (((((((w.heap.push a).push b).push c).push d).push e).push f).push g)[w.heap.size+1+1+1+1+1+1]?=some g
  simp only [Array.getElem?_push,Array.size_push]
  rw [if_pos trivial]
 ·show (((((((w.heap.push a).push b).push c).push d).push e).push f).push g).size=_
  simp
 ·exact (((((((Below.refl _ _).alloc (by simp) _).alloc (by simp) _).alloc (by simp;omega) _).alloc (by simp;omega) _).alloc (by simp;omega) _).alloc (by simp;omega) _).alloc (by simp;omega) _
theorem strsAt_block {w:World} {g c:Nat} {L:List (List UInt8)} (h:w.heap[g]?=some (strObj L)):StrsAt w (.slice (some ⟨g,0,none⟩) L.length c) L:=by
 refine ⟨g,c,rfl,fun j hj=>?_⟩
 rw [cell_of_row w g j _ 9 (0,0) h]
 simp [List.getElem?_eq_getElem hj,List.getD_eq_getElem?_getD]
theorem wpListIn_append_tok {F:Fence} {nn:Nat} (w:World) {ops:Array Oper} {rest:List Oper} {oo:Oper} {a:Act} {Q:Exit→Act→World→Prop}
  (hg:oo.guard=none) (sx x:Operand) (hop:oo.op=Op.call { callee:=Callee.builtin Builtin.append,args:=#[sx,x],argTypes:=#[23,23] })
  (base:Nat) (v:Value) (k:Nat) (xs:List Value) (hs:a.eval sx=v) (hown:w.ownsRow base 38 3 v k xs) (tok:Lx.Tok) (ad:Addr) (c:Nat) (hx:a.eval x=.slice (some ad) 1 c)
  (hc:∀ j u,(tc tok)[j]?=some u→w.cell? (ad.add j)=some u) (b1:k≤4000) (b3:base≤w.heap.size)
  (hK:∀ g cap w',w'.ownsRow base 38 3 (.slice (some ⟨g,0,none⟩) (k+1) cap) (k+1) (xs ++ tc tok)→w.grownBy w' v.ownBlock→(v.ownBlock=some g∨g=w.heap.size)→wpListIn F nn Tryz.prog ops Q rest (a.put oo.dst (.slice (some ⟨g,0,none⟩) (k+1) cap)) w') :
  wpListIn F nn Tryz.prog ops Q (oo :: rest) a w:=by
 refine wpListIn_plain hg fun K hK'=>?_
 obtain ⟨i,hi,hz,hsz,hby⟩:=infoT
 obtain ⟨g,cap,w',hrun,r1,r2,r3,_⟩:=run_append_lies (P:=Tryz.prog) w 23 oo.type base 38 i _ 3 32 Tryz.underlying23 hi hz hsz hby rfl (by decide) v k xs hown ad 1 c (tc tok) rfl hc (tc_one tok) (by decide) (by unfold maxLen;omega) (by omega) b3 w.heap.size rfl
 unfold Oper.wpIn
 refine ⟨?_,?_⟩
 ·simp [Oper.about,hop,resolve,Target.leads,Sem.run_pure]
 ·rw [Oper.semAt_plain F _ _ (by rw [hop];intro c hc';cases hc')]
  simp [execOp,hop,resolve,invoke,builtin,hs,hx,hrun,Result.andThen]
  exact hK' _ _ (hK g cap w' r1 r2 r3)
structure Stop (p:Prop):Prop where
 out:p
theorem stop_here {p:Prop} (h:Stop p):p:=h.out
theorem resolve_range {a:Act} {g:Operand} {l:Nat} {fv:Fn} {cap:Array Value} {w:World} (hg:a.eval g=.func fv #[] cap):(resolve a.eval (rangeCall g l) 0).run Tryz.prog w=.ok { target:=.fn fv cap,args:=#[.func (.yield l) #[] #[]] } w:=by
 simp only [resolve,hg]
 simp [go_sem]
theorem invoke_range {f:FuncId} {fn:Func} {l:Nat} {cap:Array Value} {w:World} (hf:Tryz.prog.funcs[f]?=some fn) (hname:(fn.name == "runtime.NumGoroutine")=false) (hb:fn.body.isSome=true) :
  (invoke (.fn (.func f) cap) #[.func (.yield l) #[] #[]]).run Tryz.prog w=.ok (.enter f (#[.func (.yield l) #[] #[]] ++ cap)) w:=by
 have h1:fn.name ≠ "runtime.NumGoroutine" := by simpa using hname
 obtain ⟨c,hc⟩:=Option.isSome_iff_exists.1 hb
 simp [invoke,go_sem,callFunc,hf,h1,hc]
def ScanPost (s:ByteArray) (w:World) (x:Ending) (w':World):Prop :=
 match Lx.scanR s.size [] s.data.toList with
 | .ok l=>∃ v,x=.returned (.tuple #[v,.int .i64 0,.int .i64 0])∧w'.ownsRow w.heap.size 38 3 v l.length (l.flatMap tc)∧Below w.heap.size w w'
 | .error (r,c)=>∃ v,x=.returned (.tuple #[v,.int .i64 ((s.size - r.length:Nat):Int),.int .i64 c])∧Below w.heap.size w w'
set_option maxHeartbeats 4000000 in
set_option maxRecDepth 100000 in
theorem scan_any (s:ByteArray) (w:World) (hg:GW w) (hs:s.size≤20000) :
  Calls Tryz.prog 49 #[.string s] w (ScanPost s w):=by
 refine calls_of_wpF Tryz.func49 rfl ?_
 simp only [Tryz.ntmps49,List.size_toArray,List.length_cons,List.length_nil,Nat.reduceAdd,Nat.reduceSub,Array.replicate_succ,Array.replicate_zero,List.push_toArray,List.append_toArray,List.nil_append,List.cons_append]
 refine wpF_seq (wpF_of_wp ?_)
 go_wp2
 refine wpF_seq (wpF_of_wp ?_)
 go_wp2
 have hgs:=hg.size6
 refine wpF_seq (wpF_of_wp ?_)
 go_wp2_with (first
  | (go_at_call 43;refine (words_any _ (hg.below (((((Below.refl _ _).alloc (by simp) _).alloc (by simp) _)).alloc (by simp;omega) _) (Nat.le_refl _))).mono ?_;rintro e w1 ⟨rfl,rfl⟩)
  | (go_at_call 45;refine (signs_any _ (hg.below ((((((Below.refl _ _).alloc (by simp) _).alloc (by simp) _)).alloc (by simp;omega) _).alloc (by simp;omega) _) (Nat.le_refl _))).mono ?_;rintro e w1 ⟨rfl,rfl⟩))
 obtain ⟨b0,b1,b2,b3,b4,b5,b6,bz,bb⟩:=chain7 w (.cells #[.slice none 0 0] 23) (.cells #[.int .i64 0] 3) (.cells #[.int .i64 0] 24) (strObj Lx.words) (strObj Lx.signs) (.cells #[.string s,.int .i64 0,.slice none 0 0,.slice (some ⟨w.heap.size+1+1+1,0,none⟩) 9 9,.slice (some ⟨w.heap.size+1+1+1+1,0,none⟩) 47 47] 101) (.cells #[.pointer (some ⟨w.heap.size+1+1+1+1+1,0,none⟩)] 99)
 generalize (((((((w.alloc (.cells #[.slice none 0 0] 23)).alloc (.cells #[.int .i64 0] 3)).alloc (.cells #[.int .i64 0] 24)).alloc (strObj Lx.words)).alloc (strObj Lx.signs)).alloc (.cells #[.string s,.int .i64 0,.slice none 0 0,.slice (some ⟨w.heap.size+1+1+1,0,none⟩) 9 9,.slice (some ⟨w.heap.size+1+1+1+1,0,none⟩) 47 47] 101)).alloc (.cells #[.pointer (some ⟨w.heap.size+1+1+1+1+1,0,none⟩)] 99))=W2 at b0 b1 b2 b3 b4 b5 b6 bz bb ⊢
 have c6:W2.cell? ⟨w.heap.size+1+1+1+1+1+1,0,none⟩=some (.pointer (some ⟨w.heap.size+1+1+1+1+1,0,none⟩)):=cell_of_row _ _ 0 _ _ _ b6
 refine wpF_seq (wpF_seq (wpF_of_wp ?_))
 go_wp2_with (go_at_call 73;refine (maker_any _ _).mono ?_;rintro e W3 ⟨p1,p2,H,rfl,m1,m2,mr,mb,l1,l2,l3⟩)
 refine wpF_block (wpF_rangeFunc ?_)
 apply Exists.intro;apply Exists.intro;apply Exists.intro;apply Exists.intro;apply Exists.intro;apply Exists.intro;apply Exists.intro;apply Exists.intro
 refine ⟨run_enterLoop_outer _ _ _ _ _,resolve_range (fv:=.func 98) (cap:=#[.pointer (some ⟨p1,0,none⟩),.pointer (some ⟨p2,0,none⟩)]) rfl,invoke_range (f:=98) Tryz.func98 (by kernel_rfl) rfl,?_⟩
 generalize hrec:(Loop.mk LoopState.ready none 49 _ #[14] _ _ W3.heap.size)=rec
 obtain ⟨wB,hwB⟩:∃ wB,wB=(W3.alloc (.deferred (some []))).alloc (.loop rec):=⟨_,rfl⟩
 rw [← hwB]
 have z4:wB.heap.size=W3.heap.size+1+1:=by rw [hwB];show ((W3.heap.push _).push _).size=_;simp
 have w4:Below W3.heap.size W3 wB:=by rw [hwB];exact ((Below.refl _ _).alloc (Nat.le_refl _) _).alloc (by simp) _
 have hL4:wB.heap[W3.heap.size+1]?=some (.loop rec):=by rw [hwB];have:=World.alloc_heap_new (W3.alloc (.deferred (some []))) (.loop rec);rwa [World.size_alloc] at this
 have hD4:wB.heap[W3.heap.size]?=some (.deferred (some [])):=by rw [hwB];show ((W3.heap.push _).push _)[W3.heap.size]?=_;simp [Array.getElem?_push]
 have z3:w.heap.size+7≤W3.heap.size:=by rw [← bz];exact mb.size
 have k4:∀ i:Nat,i < w.heap.size+7→wB.heap[i]?=W2.heap[i]?:=fun i hi=>(w4.block i (by omega)).trans (mb.block i (by omega))
 have bwB:Below w.heap.size w wB:=bb.trans ((mb.mono (by omega)).trans (w4.mono (by omega)))
 have st:Stat wB w.heap.size (w.heap.size+1+1+1+1+1) (W3.heap.size+1) p1 p2 H (.slice (some ⟨w.heap.size+1+1+1,0,none⟩) 9 9) (.slice (some ⟨w.heap.size+1+1+1+1,0,none⟩) 47 47):=by
  refine ⟨hg.below bwB (Nat.le_refl _),hgs,by omega,by omega,by omega,by omega,by omega,by omega,by omega,by omega,?_,?_,?_,?_,?_,⟨by omega,by omega,?_⟩,?_,⟨by omega,by omega,?_⟩,mr.below w4 (Nat.le_refl _),.inl (by omega),.inl (by omega),.inr ?_⟩
  ·exact strsAt_block (c:=9) ((k4 _ (by omega)).trans b3)
  ·intro g hg1;have h1:w.heap.size+1+1+1=g:=Option.some.inj hg1;omega
  ·exact strsAt_block (c:=47) ((k4 _ (by omega)).trans b4)
  ·intro g hg1;have h1:w.heap.size+1+1+1+1=g:=Option.some.inj hg1;omega
  ·exact (w4.cell (p:=⟨p1,0,none⟩) (World.block_lt_of_cell? _ _ m1)).trans m1
  ·have:=World.block_lt_of_cell? _ _ m1;show p1≠_;have h1:p1 < W3.heap.size:=this;omega
  ·exact (w4.cell (p:=⟨p2,0,none⟩) (World.block_lt_of_cell? _ _ m2)).trans m2
  ·have:=World.block_lt_of_cell? _ _ m2;have h1:p2 < W3.heap.size:=this;omega
  ·have:=mr.lt;omega
 have hinv:Inv wB w.heap.size (w.heap.size+1+1+1+1+1) (W3.heap.size+1) (.slice (some ⟨w.heap.size+1+1+1,0,none⟩) 9 9) (.slice (some ⟨w.heap.size+1+1+1+1,0,none⟩) 47 47) rec s 0 [] [] wB:=by
  have h0:=(k4 w.heap.size (by omega)).trans b0
  have h5:=(k4 (w.heap.size+1+1+1+1+1) (by omega)).trans b5
  have f5:∀ i,wB.frozen? ⟨w.heap.size+1+1+1+1+1,i,none⟩=false:=fun i=>by simp [World.frozen?,h5]
  have f0:wB.frozen? ⟨w.heap.size,0,none⟩=false:=by simp [World.frozen?,h0]
  exact ⟨⟨rfl,rfl,rfl,Nat.le_refl _,fun _ _ _ _ _=>rfl⟩,⟨cell_of_row _ _ 0 _ _ _ h5,cell_of_row _ _ 1 _ _ _ h5,f5 1⟩,cell_of_row _ _ 3 _ _ _ h5,cell_of_row _ _ 4 _ _ _ h5,f5 2,f0,
   ⟨_,_,cell_of_row _ _ 0 _ _ _ h0,cell_of_row _ _ 2 _ _ _ h5,World.ownsRow_nil _ _ _ _,.inl ⟨rfl,rfl⟩,fun g hg1=>by cases hg1⟩,hL4⟩
 have hst:rec.state=.ready:=by rw [← hrec]
 have hpn:rec.pending=none:=by rw [← hrec]
 have hpz:rec.params.size=1:=by rw [← hrec];rfl
 refine (tokens_any wB w.heap.size (w.heap.size+1+1+1+1+1) (W3.heap.size+1) p1 p2 H _ _ rec s st hs (by omega) hst hpz ?round wB hinv).mono ?_
 case round =>
  intro pre e W tok hI htl
  have d6:W.cell? ⟨w.heap.size+1+1+1+1+1+1,0,none⟩=some (.pointer (some ⟨w.heap.size+1+1+1+1+1,0,none⟩)):=hI.fr.cell (cell_of_row _ _ 0 _ _ _ ((k4 _ (by omega)).trans b6)) (by show w.heap.size+1+1+1+1+1+1≠w.heap.size;omega) (by show w.heap.size+1+1+1+1+1+1≠w.heap.size+1+1+1+1+1;omega) (by show w.heap.size+1+1+1+1+1+1≠W3.heap.size+1;omega)
  obtain ⟨vo,vl,hvo,hvl,hown,hlv,hap⟩:=hI.io
  have hfo:=hI.ofree
  obtain ⟨rb,hrb⟩:∃ rb,rb={ rec with state:=LoopState.busy }:=⟨_,rfl⟩
  obtain ⟨ao,co,hvs⟩:∃ ao co,vo=.slice ao pre.length co:=by
   rcases hown.2 with ⟨h,h0⟩ | ⟨g,cap,cur,h,_⟩
   ·exact ⟨none,0,by rw [h,h0]⟩
   ·exact ⟨_,_,h⟩
  subst hvs
  subst hrec
  refine ⟨fun hl=>roundIn_of_throws Tryz.func49 ?_,fun hl=>roundIn_of_throws Tryz.func49 ?_⟩
  ·dsimp only [tc]
   have hsem:=@Oper.semAt_some
   gi_wp2
   have hI1:=hI.below ((Below.refl _ _).alloc (Nat.le_refl _) (.cells #[.int .i64 tok.kind,.string ⟨tok.text.toArray⟩,.int .i64 (tok.at_:Int)] 38)) (Nat.le_refl _)
   refine ⟨World.putObj _ (W3.heap.size+1) (.loop rb),(run_beginRound hI1.loop rfl).trans (by rw [hrb]),?_⟩
   have hIa:=hI.setLoop st rb
   have hza:(W.putObj (W3.heap.size+1) (.loop rb)).heap.size=W.heap.size:=World.putObj_size
   have hLW:W3.heap.size+1 < W.heap.size:=(Array.getElem?_eq_some_iff.1 hI.loop).1
   have t5:(World.putObj (W.alloc (.cells #[.int .i64 tok.kind,.string ⟨tok.text.toArray⟩,.int .i64 (tok.at_:Int)] 38)) (W3.heap.size+1) (.loop rb)).heap[W.heap.size]?=_:=(World.putObj_heap_other (by omega)).trans (heap_alloc_new W _)
   have hb5:Below W.heap.size (W.putObj (W3.heap.size+1) (.loop rb)) (World.putObj (W.alloc (.cells #[.int .i64 tok.kind,.string ⟨tok.text.toArray⟩,.int .i64 (tok.at_:Int)] 38)) (W3.heap.size+1) (.loop rb)):=by
    refine ⟨rfl,rfl,rfl,by rw [World.putObj_size,World.putObj_size];simp,fun k hk=>?_⟩
    by_cases hkL:k=W3.heap.size+1
    ·subst hkL
     rw [World.putObj_heap_same (by simp;omega),World.putObj_heap_same hLW]
    ·rw [World.putObj_heap_other hkL,World.putObj_heap_other hkL]
     exact Below.heap_alloc _ _ _ hk
   have h5z:(World.putObj (W.alloc (.cells #[.int .i64 tok.kind,.string ⟨tok.text.toArray⟩,.int .i64 (tok.at_:Int)] 38)) (W3.heap.size+1) (.loop rb)).heap.size=W.heap.size+1:=by rw [World.putObj_size];simp
   generalize World.putObj (W.alloc (.cells #[.int .i64 tok.kind,.string ⟨tok.text.toArray⟩,.int .i64 (tok.at_:Int)] 38)) (W3.heap.size+1) (.loop rb)=W5 at t5 hb5 h5z ⊢
   have hI5:=hIa.below hb5 (by omega)
   have q0:W5.cell? ⟨w.heap.size,0,none⟩=some (.slice ao pre.length co):=(World.cell?_of_block (w:=W) ((hb5.block _ (World.block_lt_of_cell? _ _ hvo)).trans (World.putObj_heap_other (by show w.heap.size≠_;omega)))).trans hvo
   have q1:W5.cell? ⟨W.heap.size,1,none⟩=some (.string ⟨tok.text.toArray⟩):=cell_of_row _ _ 1 _ _ _ t5
   have hne4:((pre.length:Int) == 4000)=false:=by rw [beq_eq_false_iff_ne];omega
   have hzt:(⟨tok.text.toArray⟩:ByteArray).size≤281474976710656:=by rw [Lib.size_eq];simp;omega
   have hnW:w.heap.size < W.heap.size:=World.block_lt_of_cell? _ _ hvo
   have hnW1:¬ w.heap.size=W.heap.size:=by omega
   have hnW2:¬ W.heap.size=w.heap.size:=by omega
   gi_wp2
   refine ⟨trivial,rfl,(CallsIn.inRound _ (callsIn_wide.2 (clone_any _ _ hzt))).mono ?_⟩
   rintro e' W6 ⟨rfl,hb6⟩
   have t6:=(hb6.block W.heap.size (by omega)).trans t5
   have p0:=(hb6.cell (p:=⟨w.heap.size,0,none⟩) (by show w.heap.size < _;omega)).trans q0
   have p01:W6.cell? ⟨W.heap.size,1,none⟩=_:=cell_of_row _ _ 1 _ _ _ t6
   have pz1:W6.frozen? ⟨W.heap.size,1,none⟩=false:=by simp [World.frozen?,t6]
   have p00:W6.cell? ⟨W.heap.size,0,none⟩=some (.int .i64 tok.kind):=cell_of_row _ _ 0 _ _ _ t6
   have p02:W6.cell? ⟨W.heap.size,2,none⟩=some (.int .i64 (tok.at_:Int)):=cell_of_row _ _ 2 _ _ _ t6
   have hz8:(W6.setCell ⟨W.heap.size,1,none⟩ (.string ⟨tok.text.toArray⟩)).heap.size=W6.heap.size:=by simp [World.setCell]
   have hb8:Below W.heap.size (W.putObj (W3.heap.size+1) (.loop rb)) ((W6.setCell ⟨W.heap.size,1,none⟩ (.string ⟨tok.text.toArray⟩)).alloc (.cells #[.int .i64 tok.kind,.string ⟨tok.text.toArray⟩,.int .i64 (tok.at_:Int)] 38)) :=
    ((hb5.trans (hb6.mono (by omega))).setCell (Nat.le_refl _) _).alloc (by rw [hz8];have:=hb6.size;omega) _
   have hI8:=hIa.below hb8 (by omega)
   have c8:((W6.setCell ⟨W.heap.size,1,none⟩ (.string ⟨tok.text.toArray⟩)).alloc (.cells #[.int .i64 tok.kind,.string ⟨tok.text.toArray⟩,.int .i64 (tok.at_:Int)] 38)).cell? ⟨w.heap.size,0,none⟩=some (.slice ao pre.length co) :=
    (World.cell?_of_block (w:=W) ((hb8.block _ (World.block_lt_of_cell? _ _ hvo)).trans (World.putObj_heap_other (by show w.heap.size≠_;omega)))).trans hvo
   have hown8:((W6.setCell ⟨W.heap.size,1,none⟩ (.string ⟨tok.text.toArray⟩)).alloc (.cells #[.int .i64 tok.kind,.string ⟨tok.text.toArray⟩,.int .i64 (tok.at_:Int)] 38)).ownsRow wB.heap.size 38 3 (.slice ao pre.length co) pre.length (pre.reverse.flatMap tc):=by
    obtain ⟨vo8,vl8,e1,_,e3,_⟩:=hI8.io
    obtain rfl:vo8=_:=Option.some.inj (e1.symm.trans c8)
    exact e3
   have hnews:∀ j u,(tc tok)[j]?=some u→((W6.setCell ⟨W.heap.size,1,none⟩ (.string ⟨tok.text.toArray⟩)).alloc (.cells #[.int .i64 tok.kind,.string ⟨tok.text.toArray⟩,.int .i64 (tok.at_:Int)] 38)).cell? ((⟨W6.heap.size,0,none⟩:Addr).add j)=some u:=by
    rw [← hz8];exact World.news_of_block (cs:=#[.int .i64 tok.kind,.string ⟨tok.text.toArray⟩,.int .i64 (tok.at_:Int)]) (heap_alloc_new _ _)
   gi_wp2_with (gi_at_builtin;refine stop_here ?_)
   refine Stop.mk ?_
   refine wpListIn_append_tok _ rfl (.tmp 24) (.tmp 26) rfl wB.heap.size (.slice ao pre.length co) pre.length (pre.reverse.flatMap tc) rfl hown8 tok ⟨W6.heap.size,0,none⟩ 1 rfl hnews (by omega) hI8.fr.size ?_
   intro g8 cap8 W8 hO8 hG8 hA8
   have y0:W8.cell? ⟨w.heap.size,0,none⟩=some (.slice ao pre.length co):=hG8.cell c8 (by intro he;have h1:wB.heap.size≤w.heap.size:=(own_ge hown8 _ he.symm).1;have:=st.oB;omega)
   have y1:W8.frozen? ⟨w.heap.size,0,none⟩=false:=(World.frozen?_of_block (hG8.block w.heap.size (World.block_lt_of_cell? _ _ c8) (by intro he;have h1:wB.heap.size≤w.heap.size:=(own_ge hown8 _ he.symm).1;have:=st.oB;omega))).trans hI8.ofree
   gi_wp2
   have hI9:=hI8.setOut st (vo:=.slice ao pre.length co) (pre':=tok :: pre) c8 hG8 (by simpa using hO8) (by rcases hA8 with h | h;exact .inl h.symm;exact .inr (by rw [h];rfl))
   have hrb2:({ rb with state:=(if (none:Option Code).isNone then LoopState.ready else LoopState.done),pending:=none }:Loop)=Loop.mk LoopState.ready none 49 rb.tmps #[14] rb.assign rb.body W3.heap.size:=by rw [hrb];rfl
   refine ⟨_,_,run_endRound none hI9.loop,rfl,?_,?_⟩
   ·rw [← hwB,hrb]
    exact hI9.setLoop st _
   ·intro k hk h1 h2 h3
    have hk8:=hb8.size
    rw [World.putObj_heap_other h2,Below.heap_setCell _ _ _ _ h1,hG8.block k (by omega) (fun e=>h3 e.symm),hb8.block k hk,World.putObj_heap_other h2]
  ·dsimp only [tc]
   have hsem:=@Oper.semAt_some
   gi_wp2
   have hI1:=hI.below ((Below.refl _ _).alloc (Nat.le_refl _) (.cells #[.int .i64 tok.kind,.string ⟨tok.text.toArray⟩,.int .i64 (tok.at_:Int)] 38)) (Nat.le_refl _)
   refine ⟨World.putObj _ (W3.heap.size+1) (.loop rb),(run_beginRound hI1.loop rfl).trans (by rw [hrb]),?_⟩
   have hIa:=hI.setLoop st rb
   have hza:(W.putObj (W3.heap.size+1) (.loop rb)).heap.size=W.heap.size:=World.putObj_size
   have hLW:W3.heap.size+1 < W.heap.size:=(Array.getElem?_eq_some_iff.1 hI.loop).1
   have t5:(World.putObj (W.alloc (.cells #[.int .i64 tok.kind,.string ⟨tok.text.toArray⟩,.int .i64 (tok.at_:Int)] 38)) (W3.heap.size+1) (.loop rb)).heap[W.heap.size]?=_:=(World.putObj_heap_other (by omega)).trans (heap_alloc_new W _)
   have hb5:Below W.heap.size (W.putObj (W3.heap.size+1) (.loop rb)) (World.putObj (W.alloc (.cells #[.int .i64 tok.kind,.string ⟨tok.text.toArray⟩,.int .i64 (tok.at_:Int)] 38)) (W3.heap.size+1) (.loop rb)):=by
    refine ⟨rfl,rfl,rfl,by rw [World.putObj_size,World.putObj_size];simp,fun k hk=>?_⟩
    by_cases hkL:k=W3.heap.size+1
    ·subst hkL
     rw [World.putObj_heap_same (by simp;omega),World.putObj_heap_same hLW]
    ·rw [World.putObj_heap_other hkL,World.putObj_heap_other hkL]
     exact Below.heap_alloc _ _ _ hk
   have h5z:(World.putObj (W.alloc (.cells #[.int .i64 tok.kind,.string ⟨tok.text.toArray⟩,.int .i64 (tok.at_:Int)] 38)) (W3.heap.size+1) (.loop rb)).heap.size=W.heap.size+1:=by rw [World.putObj_size];simp
   generalize World.putObj (W.alloc (.cells #[.int .i64 tok.kind,.string ⟨tok.text.toArray⟩,.int .i64 (tok.at_:Int)] 38)) (W3.heap.size+1) (.loop rb)=W5 at t5 hb5 h5z ⊢
   have hI5:=hIa.below hb5 (by omega)
   have q0:W5.cell? ⟨w.heap.size,0,none⟩=some (.slice ao pre.length co):=(World.cell?_of_block (w:=W) ((hb5.block _ (World.block_lt_of_cell? _ _ hvo)).trans (World.putObj_heap_other (by show w.heap.size≠_;omega)))).trans hvo
   have q1:W5.cell? ⟨W.heap.size,1,none⟩=some (.string ⟨tok.text.toArray⟩):=cell_of_row _ _ 1 _ _ _ t5
   have hne4:((pre.length:Int) == 4000)=true:=by rw [beq_iff_eq];omega
   have q6:W5.cell? ⟨w.heap.size+1+1+1+1+1+1,0,none⟩=some (.pointer (some ⟨w.heap.size+1+1+1+1+1,0,none⟩)):=(World.cell?_of_block (w:=W) ((hb5.block _ (World.block_lt_of_cell? _ _ d6)).trans (World.putObj_heap_other (by show w.heap.size+1+1+1+1+1+1≠W3.heap.size+1;omega)))).trans d6
   gi_wp2
   refine ⟨trivial,rfl,(CallsIn.inRound _ (callsIn_wide.2 (fail_any _ e 2 s _ hI5.scn))).mono ?_⟩
   rintro e' W6 ⟨rfl,rfl⟩
   refine ⟨rfl,rfl,?_⟩
   rw [← hwB]
   exact hI5.frO
 rintro x w5 hx
 unfold TokPost at hx
 cases hsc:Lx.scanR s.size [] s.data.toList with
 | ok l =>
  rw [hsc] at hx
  obtain ⟨rfl,e,pre,hp,hI⟩:=hx
  have hel:=run_endLoop (P:=Tryz.prog) hI.loop (by rw [hst];simp)
  rw [hpn] at hel
  obtain ⟨rx,hrx⟩:∃ rx:Loop,rx={ rec with state:=.exhausted,pending:=none }:=⟨_,rfl⟩
  obtain ⟨W6,hW6⟩:∃ W6,W6=w5.putObj (W3.heap.size+1) (.loop rx):=⟨_,rfl⟩
  refine ⟨W6,by rw [hW6,hrx];exact hel,?_⟩
  have hz5:=hI.fr.size
  obtain ⟨vo,vl,hvo,hvl,hown,hlv,hap⟩:=hI.io
  have hIx:=hI.setLoop st rx
  rw [← hW6] at hIx
  obtain ⟨vo',vl',hvo',hvl',hown',hlv',hap'⟩:=hIx.io
  obtain ⟨ao,co,hvs⟩:∃ ao co,vo'=.slice ao pre.length co:=by
   rcases hown'.2 with ⟨h,h0⟩ | ⟨g,cap,cur,h,_⟩
   ·exact ⟨none,0,by rw [h,h0]⟩
   ·exact ⟨_,_,h⟩
  subst hvs
  have hof:=hIx.ofree
  have hfr:=hIx.fr
  have hB1:=(k4 (w.heap.size+1) (by omega)).trans b1
  have hB2:=(k4 (w.heap.size+1+1) (by omega)).trans b2
  have e1:=(hfr.block (w.heap.size+1) (by omega) (by omega) (by omega) (by omega)).trans hB1
  have e2:=(hfr.block (w.heap.size+1+1) (by omega) (by omega) (by omega) (by omega)).trans hB2
  have eD:=(hfr.block W3.heap.size (by omega) (by omega) (by omega) (by omega)).trans hD4
  have c1:W6.cell? ⟨w.heap.size+1,0,none⟩=some (.int .i64 0):=cell_of_row _ _ 0 _ _ _ e1
  have c2:W6.cell? ⟨w.heap.size+1+1,0,none⟩=some (.int .i64 0):=cell_of_row _ _ 0 _ _ _ e2
  have f1:W6.frozen? ⟨w.heap.size+1,0,none⟩=false:=by simp [World.frozen?,e1]
  have f2:W6.frozen? ⟨w.heap.size+1+1,0,none⟩=false:=by simp [World.frozen?,e2]
  have n1:¬ w.heap.size=w.heap.size+1:=by omega
  have n2:¬ w.heap.size=w.heap.size+1+1:=by omega
  have n3:¬ w.heap.size+1=w.heap.size:=by omega
  have n4:¬ w.heap.size+1+1=w.heap.size:=by omega
  have n5:¬ w.heap.size+1=w.heap.size+1+1:=by omega
  have n6:¬ w.heap.size+1+1=w.heap.size+1:=by omega
  clear hW6 hel
  show WpF _ _ _ _ _ _
  refine wpF_of_wp ?_
  go_wp2
  have oB:=st.oB
  obtain ⟨W7,hW7⟩:∃ W7,W7=((W6.setCell ⟨w.heap.size,0,none⟩ (.slice ao pre.length co)).setCell ⟨w.heap.size+1,0,none⟩ (.int .i64 0)).setCell ⟨w.heap.size+1+1,0,none⟩ (.int .i64 0):=⟨_,rfl⟩
  rw [← hW7]
  have b7:∀ i,i≠w.heap.size→i≠w.heap.size+1→i≠w.heap.size+1+1→W7.heap[i]?=W6.heap[i]?:=fun i i0 i1 i2=>by
   rw [hW7,Below.heap_setCell _ _ _ _ i2,Below.heap_setCell _ _ _ _ i1,Below.heap_setCell _ _ _ _ i0]
  have bD:=(b7 W3.heap.size (by omega) (by omega) (by omega)).trans eD
  have lt0:w.heap.size < W6.heap.size:=World.block_lt_of_cell? _ _ hvo'
  have z7:W7.heap.size=W6.heap.size:=by rw [hW7];simp
  have y0:W7.cell? ⟨w.heap.size,0,none⟩=some (.slice ao pre.length co):=by
   rw [hW7,World.cell?_setCell_far _ _ _ _ (by show w.heap.size+1+1≠w.heap.size;omega),World.cell?_setCell_far _ _ _ _ (by show w.heap.size+1≠w.heap.size;omega),World.cell?_setCell_same' _ _ _ (by rw [hvo'];rfl)]
  have y1:W7.cell? ⟨w.heap.size+1,0,none⟩=some (.int .i64 0):=by
   rw [hW7,World.cell?_setCell_far _ _ _ _ (by show w.heap.size+1+1≠w.heap.size+1;omega),World.cell?_setCell_same' _ _ _ (by rw [World.cell?_setCell_far _ _ _ _ (by show w.heap.size≠w.heap.size+1;omega),c1];rfl)]
  have y2:W7.cell? ⟨w.heap.size+1+1,0,none⟩=some (.int .i64 0):=by
   rw [hW7,World.cell?_setCell_same' _ _ _ (by rw [World.cell?_setCell_far _ _ _ _ (by show w.heap.size+1≠w.heap.size+1+1;omega),World.cell?_setCell_far _ _ _ _ (by show w.heap.size≠w.heap.size+1+1;omega),c2];rfl)]
  have hB6:Below w.heap.size w W6:=bwB.trans (hfr.below_of (Nat.le_refl _) (by omega) (by omega) (by omega))
  have hB7:Below w.heap.size w W7:=by
   rw [hW7]
   exact ((hB6.setCell (Nat.le_refl _) _).setCell (by show w.heap.size≤w.heap.size+1;omega) _).setCell (by show w.heap.size≤w.heap.size+1+1;omega) _
  refine leaves_ok (D:=W3.heap.size) (pa:=w.heap.size+1) (pe:=w.heap.size+1+1) bD ?_
  have p0:∀ i,i≠W3.heap.size→(W7.putObj W3.heap.size (.deferred none)).heap[i]?=W7.heap[i]?:=fun i hi=>World.putObj_heap_other hi
  refine ⟨_,results49_run _ _ w.heap.size (w.heap.size+1) (w.heap.size+1+1) (.slice ao pre.length co) 0 0 rfl rfl rfl ((World.cell?_of_block (p0 _ (by show w.heap.size≠_;omega))).trans y0) ((World.cell?_of_block (p0 _ (by show w.heap.size+1≠_;omega))).trans y1) ((World.cell?_of_block (p0 _ (by show w.heap.size+1+1≠_;omega))).trans y2) ⟨_,_,_,rfl⟩,?_⟩
  unfold ScanPost
  rw [hsc]
  have hpl:l.length=pre.length:=by rw [← hp,List.length_reverse]
  refine ⟨_,rfl,?_,?_⟩
  ·rw [hpl,← hp]
   have hw1:=YtadgddipkbdnbaaGreatDoorW.PrintWords.own_weaken hown' (show w.heap.size≤wB.heap.size by omega)
   refine YtadgddipkbdnbaaGreatDoorW.PrintWords.own_move hw1 (fun k hk=>?_)
   have hge:wB.heap.size≤k:=(own_ge hown' k hk).1
   rw [p0 k (by omega),b7 k (by omega) (by omega) (by omega)]
  ·exact ⟨hB7.os,hB7.tape,hB7.output,by rw [World.putObj_size];exact hB7.size,fun k hk=>(p0 k (by omega)).trans (hB7.block k hk)⟩
 | error p =>
  obtain ⟨r,c⟩:=p
  rw [hsc] at hx
  obtain ⟨rfl,hf,ho⟩:=hx
  obtain ⟨oA,oN,oC,ho⟩:=ho
  show LeavesInM Fence.wide 0 Tryz.prog Tryz.f49 _ (ScanPost s w) (scanDs W3.heap.size (w.heap.size+1) (w.heap.size+1+1)) (.panicking (thrown (s.size - r.length) c)) w5
  have oB:=st.oB
  have hB1:=(k4 (w.heap.size+1) (by omega)).trans b1
  have hB2:=(k4 (w.heap.size+1+1) (by omega)).trans b2
  have e1:=(hf.block (w.heap.size+1) (by omega) (by omega) (by omega) (by omega)).trans hB1
  have e2:=(hf.block (w.heap.size+1+1) (by omega) (by omega) (by omega) (by omega)).trans hB2
  have eD:=(hf.block W3.heap.size (by omega) (by omega) (by omega) (by omega)).trans hD4
  obtain ⟨W6,hW6⟩:∃ W6,W6=w5.putObj W3.heap.size (.deferred none):=⟨_,rfl⟩
  have p0:∀ i,i≠W3.heap.size→W6.heap[i]?=w5.heap[i]?:=fun i hi=>by rw [hW6];exact World.putObj_heap_other hi
  have g0:W6.cell? ⟨w.heap.size,0,none⟩=some (.slice oA oN oC):=(World.cell?_of_block (p0 _ (by show w.heap.size≠_;omega))).trans ho
  have g1:W6.cell? ⟨w.heap.size+1,0,none⟩=some (.int .i64 0):=cell_of_row _ _ 0 _ _ _ ((p0 _ (by omega)).trans e1)
  have g2:W6.cell? ⟨w.heap.size+1+1,0,none⟩=some (.int .i64 0):=cell_of_row _ _ 0 _ _ _ ((p0 _ (by omega)).trans e2)
  have f1:W6.frozen? ⟨w.heap.size+1,0,none⟩=false:=by simp [World.frozen?,(p0 _ (by omega)).trans e1]
  have f2:W6.frozen? ⟨w.heap.size+1+1,0,none⟩=false:=by simp [World.frozen?,(p0 _ (by omega)).trans e2]
  have hB5:Below w.heap.size w w5:=bwB.trans (hf.below_of (Nat.le_refl _) (by omega) (by omega) (by omega))
  have hB6:Below w.heap.size w W6:=⟨by rw [hW6];exact hB5.os,by rw [hW6];exact hB5.tape,by rw [hW6];exact hB5.output,by rw [hW6,World.putObj_size];exact hB5.size,fun k hk=>(p0 k (by omega)).trans (hB5.block k hk)⟩
  have lt2:w.heap.size+1+1 < W6.heap.size:=World.block_lt_of_cell? _ _ g2
  rw [hW6] at g1 f1 g2 f2
  refine leaves_throw (D:=W3.heap.size) (pa:=w.heap.size+1) (pe:=w.heap.size+1+1) _ _ eD g1 f1 g2 f2 (by omega) ?_
  rw [← hW6] at g1 f1 g2 f2 ⊢
  rintro w7 hw7
  obtain ⟨W8,hW8⟩:∃ W8,W8=(W6.setCell ⟨w.heap.size+1,0,none⟩ (.int .i64 ((s.size - r.length:Nat):Int))).setCell ⟨w.heap.size+1+1,0,none⟩ (.int .i64 c):=⟨_,rfl⟩
  rw [← hW8] at hw7
  have y0:W8.cell? ⟨w.heap.size,0,none⟩=some (.slice oA oN oC):=by
   rw [hW8,World.cell?_setCell_far _ _ _ _ (by show w.heap.size+1+1≠w.heap.size;omega),World.cell?_setCell_far _ _ _ _ (by show w.heap.size+1≠w.heap.size;omega),g0]
  have y1:W8.cell? ⟨w.heap.size+1,0,none⟩=some (.int .i64 ((s.size - r.length:Nat):Int)):=by
   rw [hW8,World.cell?_setCell_far _ _ _ _ (by show w.heap.size+1+1≠w.heap.size+1;omega),World.cell?_setCell_same' _ _ _ (by rw [g1];rfl)]
  have y2:W8.cell? ⟨w.heap.size+1+1,0,none⟩=some (.int .i64 c):=by
   rw [hW8,World.cell?_setCell_same' _ _ _ (by rw [World.cell?_setCell_far _ _ _ _ (by show w.heap.size+1≠w.heap.size+1+1;omega),g2];rfl)]
  have z8:W8.heap.size=W6.heap.size:=by rw [hW8];simp
  have hB8:Below w.heap.size w W8:=by
   rw [hW8]
   exact (hB6.setCell (by show w.heap.size≤w.heap.size+1;omega) _).setCell (by show w.heap.size≤w.heap.size+1+1;omega) _
  have a8:∀ i,i < W8.heap.size→w7.heap[i]?=W8.heap[i]?:=fun i hi=>by rw [hw7];exact Below.heap_alloc _ _ _ hi
  have hB7:Below w.heap.size w w7:=by rw [hw7];exact (hB8.alloc (by omega) _).drew
  refine ⟨_,results49_run _ _ w.heap.size (w.heap.size+1) (w.heap.size+1+1) (.slice oA oN oC) _ _ rfl rfl rfl ((World.cell?_of_block (a8 _ (by show w.heap.size < _;omega))).trans y0) ((World.cell?_of_block (a8 _ (by show w.heap.size+1 < _;omega))).trans y1) ((World.cell?_of_block (a8 _ (by show w.heap.size+1+1 < _;omega))).trans y2) ⟨_,_,_,rfl⟩,?_⟩
  unfold ScanPost
  rw [hsc]
  exact ⟨_,rfl,hB7⟩
end Go.Proofs.YtadgddipkbdnbaaGreatDoor
namespace Go.Proofs.YtadgddipkbdnbaaGreatDoor.Q
open Go.RowKit Go.Proofs.YtadgddipkbdnbaaGreatDoor YtadgddipkbdnbaaGreatDoorW.PrintWords YtadgddipkbdnbaaGreatDoorW.PrintLast
theorem toks_R {w:World} {base:Nat} {v:Value} (l:List Lx.Tok) (h:w.ownsRow base 38 3 v l.length (l.flatMap tc)):Kd.R k38 38 w base (fun _=>True) v (l.map tokS):=by
 refine ⟨fun _ _=>trivial,l.flatMap tc,by rw [List.length_map];exact h,?_⟩
 have hr:=reps_flat (R:=k38.M w base (fun k=>True∧some k≠v.ownBlock)) (size:=3) (fun t:S38=>[Value.int .i64 t.f0,Value.string t.f1,Value.int .i64 t.f2]) (fun _=>rfl) (fun t=>k38_mkM w base _ t) (l.map tokS)
 have e:(l.map tokS).flatMap (fun t:S38=>[Value.int .i64 t.f0,Value.string t.f1,Value.int .i64 t.f2])=l.flatMap tc:=by
  rw [List.flatMap_map]
  rfl
 rw [e] at hr
 exact hr
set_option maxHeartbeats 1000000 in
theorem lex_Scan.calls (a0:ByteArray) (r1:List (S38)) (r2:Int) (r3:Int) (w:World) (h:lex_Scan.f a0=some (r1,r2,r3)) (hgw:GW w) :
  Calls Tryz.prog 17 #[.string a0] w fun e w'=>∃ v0_:Value,e=.returned (.tuple #[v0_,.int .i64 r2,.int .i64 r3])∧Kd.R k38 38 w' w.heap.size (fun _=>True) v0_ r1∧Below w.heap.size w w':=by
 unfold lex_Scan.f at h
 rw [Lx.scan_eq] at h
 have hsz:a0.data.toList.length=a0.size:=(Lib.size_eq a0).symm
 by_cases hs:a0.size > 20000
 ·rw [if_pos (by omega)] at h
  cases h
  clear hsz
  go_enter Tryz.func17,Tryz.ntmps17
  go_wp2
  go_ret3
  exact ⟨_,rfl,Kd.R_nil _ _ _ _ _,Below.refl _ _⟩
 ·rw [if_neg (by omega)] at h
  have hsc:=scan_any a0 w hgw (by omega)
  unfold ScanPost at hsc
  rw [hsz] at h
  clear hsz
  cases hr:Lx.scanR a0.size [] a0.data.toList with
  | ok l =>
   rw [hr] at h hsc
   cases h
   have HR:=Lib.hid hr
   clear hr
   simp only at hsc
   go_enter Tryz.func17,Tryz.ntmps17
   go_wp2_with (go_at_call 49;refine hsc.mono ?_;rintro e w1 ⟨v,rfl,ho,hb⟩)
   go_ret3
   exact ⟨_,rfl,toks_R l ho,hb⟩
  | error p =>
   obtain ⟨r,c⟩:=p
   rw [hr] at h hsc
   cases h
   have HR:=Lib.hid hr
   have hc:=Lx.scanR_err hr
   clear hr
   simp only at hsc
   go_enter Tryz.func17,Tryz.ntmps17
   go_wp2_with (go_at_call 49;refine hsc.mono ?_;rintro e w1 ⟨v,rfl,hb⟩)
   go_ret3
   exact ⟨_,rfl,Kd.R_nil _ _ _ _ _,hb⟩
end Go.Proofs.YtadgddipkbdnbaaGreatDoor.Q
namespace Go.Proofs.YtadgddipkbdnbaaGreatDoor.Q
open Go.Proofs.YtadgddipkbdnbaaGreatDoor Go.RowKit Go.Proofs.YtadgddipkbdnbaaGreatDoorW.PrintWords Go.Proofs.YtadgddipkbdnbaaGreatDoorW.PrintLast Go.Proofs.YtadgddipkbdnbaaGreatDoorW.PrintMore
attribute [local go_sem] max2_int min2_int max_two min_two max_three min_three max_four min_four
def lex_Kind.f (a0:ByteArray):Option (Int):=(lex_Scan.f a0).bind fun bt191=>(if bt191.2.2=0 then (if (bt191.1.length:Int)=1 then (if 0 < (bt191.1.length:Int) then (if ((rd_T38 bt191.1 0).f1).toList=a0.toList then (some ((rd_T38 bt191.1 0).f0)) else (some 0)) else (none)) else (some 0)) else (some 0))
set_option maxHeartbeats 8000000 in
set_option maxRecDepth 100000 in
theorem lex_Kind.calls (a0:ByteArray) (r:Int) (w:World) (h:lex_Kind.f a0=some r) (hgw:GW w) :
  Calls Tryz.prog 35 #[.string a0] w fun e w'=>e=.returned (.int .i64 r)∧Below w.heap.size w w':=by
 have HB:=Aside0.mk (Below.refl w.heap.size w);have H:((lex_Scan.f a0).bind fun bt191=>(if bt191.2.2=0 then (if (bt191.1.length:Int)=1 then (if 0 < (bt191.1.length:Int) then (if ((rd_T38 bt191.1 0).f1).toList=a0.toList then (some ((rd_T38 bt191.1 0).f0)) else (some 0)) else (none)) else (some 0)) else (some 0)))=some r:=h;clear h;replace H:=Option.bind_eq_some_iff.mp H;obtain ⟨⟨t191,t192,t193⟩,A20,H⟩:=H;replace H:(if t193=0 then (if (t191.length:Int)=1 then (if 0 < (t191.length:Int) then (if ((rd_T38 t191 0).f1).toList=a0.toList then (some ((rd_T38 t191 0).f0)) else (some 0)) else (none)) else (some 0)) else (some 0))=some r:=H;have A2:=Aside0.mk A20;clear A20;by_cases c3:t193=0
 ·rw [if_pos c3] at H;have c3b0:(t193 == 0)=true:=beq_iff_eq.mpr c3;have c3b1:(t193 != 0)=false:=bne_eq_false_iff_eq.mpr c3;clear c3;by_cases c4:(t191.length:Int)=1
  ·rw [if_pos c4] at H;have c4b0:((t191.length:Int) == 1)=true:=beq_iff_eq.mpr c4;have c4b1:((t191.length:Int) != 1)=false:=bne_eq_false_iff_eq.mpr c4;clear c4;by_cases c5:0 < (t191.length:Int)
   ·rw [if_pos c5] at H;have c5b0:decide (0 < (t191.length:Int))=true:=decide_eq_true c5;have c5b1:decide (0 < t191.length)=true:=decide_eq_true (by omega);clear c5;by_cases c6:((rd_T38 t191 0).f1).toList=a0.toList
    ·rw [if_pos c6] at H;have c6b0:(((rd_T38 t191 0).f1).toList == a0.toList)=true:=beq_iff_eq.mpr c6;have c6b1:(((rd_T38 t191 0).f1).toList != a0.toList)=false:=bne_eq_false_iff_eq.mpr c6;clear c6;obtain rfl:=Option.some.inj H;go_enter Tryz.func35,Tryz.ntmps35
     go_wp2_with (first | ((with_reducible refine gate_callee (f:=17) rfl ?_);refine goesL_ (some 8) rfl rfl Tryz.func17 (by kernel_rfl) rfl #[.string a0] rfl fq ?_;(with_reducible refine (lex_Scan.calls a0 t191 t192 t193 _ A2.out gwx).mono ?_);rintro e w7 ⟨v194,rfl,ho0,hb⟩;refine ⟨_,rfl,?_⟩;have n0_:=Aside0.mk (Kd.R_lower ho0 (below_size blw));have n1_:=Aside0.mk (below_step blw hb);clear HB;have HO195:=n0_;have HB:=n1_;clear n0_ n1_;(try clear hb);(try clear hb2);(try clear hk);(try clear hi);(try clear ho0);obtain ⟨Ao8,co8,eo8⟩:=Kd.R_slice HO195.out;subst eo8;have p196:0≤(0:Int):=(by omega);have q196:0 < (t191.length:Int):=of_decide_eq_true asm;obtain ⟨ad196,e196,hx196_0,hx196_1,hx196_2⟩:=at_T38 (Kd.R_reads' HO195.out).2.2 0 p196 q196;cases e196;have qi196:(0 < t191.length)=True:=eq_true (by omega);(try rw [show ((0:Int)).toNat=0 from rfl] at hx196_0);(try rw [show 0 * 3=0 from rfl] at hx196_0);(try rw [Addr.add_zero'] at hx196_0);(try rw [show ((0:Int)).toNat=0 from rfl] at hx196_1);(try rw [show 0 * 3=0 from rfl] at hx196_1);(try rw [Addr.add_zero'] at hx196_1);(try rw [show ((0:Int)).toNat=0 from rfl] at hx196_2);(try rw [show 0 * 3=0 from rfl] at hx196_2);(try rw [Addr.add_zero'] at hx196_2);replace p196:=eq_true p196;replace q196:=eq_true q196;have p197:0≤(0:Int):=(by omega);have q197:0 < (t191.length:Int):=of_decide_eq_true asm;obtain ⟨ad197,e197,hx197_0,hx197_1,hx197_2⟩:=at_T38 (Kd.R_reads' HO195.out).2.2 0 p197 q197;obtain rfl:ad196=ad197:=(by injection e197);have qi197:(0 < t191.length)=True:=eq_true (by omega);(try rw [show ((0:Int)).toNat=0 from rfl] at hx197_0);(try rw [show 0 * 3=0 from rfl] at hx197_0);(try rw [Addr.add_zero'] at hx197_0);(try rw [show ((0:Int)).toNat=0 from rfl] at hx197_1);(try rw [show 0 * 3=0 from rfl] at hx197_1);(try rw [Addr.add_zero'] at hx197_1);(try rw [show ((0:Int)).toNat=0 from rfl] at hx197_2);(try rw [show 0 * 3=0 from rfl] at hx197_2);(try rw [Addr.add_zero'] at hx197_2);replace p197:=eq_true p197;replace q197:=eq_true q197))
     go_ret;exact ⟨rew,blw⟩
    ·rw [if_neg c6] at H;have c6b0:(((rd_T38 t191 0).f1).toList == a0.toList)=false:=beq_eq_false_iff_ne.mpr c6;have c6b1:(((rd_T38 t191 0).f1).toList != a0.toList)=true:=bne_iff_ne.mpr c6;obtain rfl:=Option.some.inj H;go_enter Tryz.func35,Tryz.ntmps35
     go_wp2_with (first | ((with_reducible refine gate_callee (f:=17) rfl ?_);refine goesL_ (some 8) rfl rfl Tryz.func17 (by kernel_rfl) rfl #[.string a0] rfl fq ?_;(with_reducible refine (lex_Scan.calls a0 t191 t192 t193 _ A2.out gwx).mono ?_);rintro e w9 ⟨v194,rfl,ho0,hb⟩;refine ⟨_,rfl,?_⟩;have n0_:=Aside0.mk (Kd.R_lower ho0 (below_size blw));have n1_:=Aside0.mk (below_step blw hb);clear HB;have HO195:=n0_;have HB:=n1_;clear n0_ n1_;(try clear hb);(try clear hb2);(try clear hk);(try clear hi);(try clear ho0);obtain ⟨Ao10,co10,eo10⟩:=Kd.R_slice HO195.out;subst eo10;have p196:0≤(0:Int):=(by omega);have q196:0 < (t191.length:Int):=of_decide_eq_true asm;obtain ⟨ad196,e196,hx196_0,hx196_1,hx196_2⟩:=at_T38 (Kd.R_reads' HO195.out).2.2 0 p196 q196;cases e196;have qi196:(0 < t191.length)=True:=eq_true (by omega);(try rw [show ((0:Int)).toNat=0 from rfl] at hx196_0);(try rw [show 0 * 3=0 from rfl] at hx196_0);(try rw [Addr.add_zero'] at hx196_0);(try rw [show ((0:Int)).toNat=0 from rfl] at hx196_1);(try rw [show 0 * 3=0 from rfl] at hx196_1);(try rw [Addr.add_zero'] at hx196_1);(try rw [show ((0:Int)).toNat=0 from rfl] at hx196_2);(try rw [show 0 * 3=0 from rfl] at hx196_2);(try rw [Addr.add_zero'] at hx196_2);replace p196:=eq_true p196;replace q196:=eq_true q196))
     go_ret;exact ⟨rew,blw⟩
   ·rw [if_neg c5] at H;exact absurd H (by simp)
  ·rw [if_neg c4] at H;have c4b0:((t191.length:Int) == 1)=false:=beq_eq_false_iff_ne.mpr c4;have c4b1:((t191.length:Int) != 1)=true:=bne_iff_ne.mpr c4;obtain rfl:=Option.some.inj H;go_enter Tryz.func35,Tryz.ntmps35
   go_wp2_with (first | ((with_reducible refine gate_callee (f:=17) rfl ?_);refine goesL_ (some 8) rfl rfl Tryz.func17 (by kernel_rfl) rfl #[.string a0] rfl fq ?_;(with_reducible refine (lex_Scan.calls a0 t191 t192 t193 _ A2.out gwx).mono ?_);rintro e w11 ⟨v194,rfl,ho0,hb⟩;refine ⟨_,rfl,?_⟩;have n0_:=Aside0.mk (Kd.R_lower ho0 (below_size blw));have n1_:=Aside0.mk (below_step blw hb);clear HB;have HO195:=n0_;have HB:=n1_;clear n0_ n1_;(try clear hb);(try clear hb2);(try clear hk);(try clear hi);(try clear ho0);obtain ⟨Ao12,co12,eo12⟩:=Kd.R_slice HO195.out;subst eo12))
   go_ret;exact ⟨rew,blw⟩
 ·rw [if_neg c3] at H;have c3b0:(t193 == 0)=false:=beq_eq_false_iff_ne.mpr c3;have c3b1:(t193 != 0)=true:=bne_iff_ne.mpr c3;obtain rfl:=Option.some.inj H;go_enter Tryz.func35,Tryz.ntmps35
  go_wp2_with (first | ((with_reducible refine gate_callee (f:=17) rfl ?_);refine goesL_ (some 8) rfl rfl Tryz.func17 (by kernel_rfl) rfl #[.string a0] rfl fq ?_;(with_reducible refine (lex_Scan.calls a0 t191 t192 t193 _ A2.out gwx).mono ?_);rintro e w13 ⟨v194,rfl,ho0,hb⟩;refine ⟨_,rfl,?_⟩;have n0_:=Aside0.mk (Kd.R_lower ho0 (below_size blw));have n1_:=Aside0.mk (below_step blw hb);clear HB;have HO195:=n0_;have HB:=n1_;clear n0_ n1_;(try clear hb);(try clear hb2);(try clear hk);(try clear hi);(try clear ho0)))
  go_ret;exact ⟨rew,blw⟩
end Go.Proofs.YtadgddipkbdnbaaGreatDoor.Q
namespace Go.Proofs.YtadgddipkbdnbaaGreatDoor.Q
open Go.RowKit Go.Proofs.YtadgddipkbdnbaaGreatDoor YtadgddipkbdnbaaGreatDoorW.PrintWords YtadgddipkbdnbaaGreatDoorW.PrintLast
theorem wrapn {i:Int} (h0:0≤i) (h:i < 9223372036854775808):wrap64 i=i:=by unfold wrap64;omega
theorem ba_len (s:ByteArray):s.data.toList.length=s.size:=by rw [Array.length_toList];rfl
theorem strS_list (l:List UInt8):(strS l).toList=l:=by
 rw [ByteArray.toList_eq];rfl
theorem ev_bind {α β:Type} {x:Nat→Option α} {a:α} {f:Nat→α→Option β} {r:β} (hx:Ev x a) (hf:Ev (fun k=>f k a) r):Ev (fun k=>(x k).bind (f k)) r:=by
 obtain ⟨K,hK⟩:=hf
 obtain ⟨K2,hK2⟩:=hx
 exact ⟨K+K2,fun k hk=>by
  show (x k).bind (f k)=some r
  rw [hK2 k (by omega)];exact hK k (by omega)⟩
theorem kind_tail (t:ByteArray):(if (Lx.scan t.data.toList).2.2=0 then (if ((((Lx.scan t.data.toList).1.map tokS).length:Nat):Int)=1 then (if (0:Int) < ((((Lx.scan t.data.toList).1.map tokS).length:Nat):Int) then (if ((rd_T38 ((Lx.scan t.data.toList).1.map tokS) 0).f1).toList=t.toList then (some ((rd_T38 ((Lx.scan t.data.toList).1.map tokS) 0).f0)) else (some 0)) else (none)) else (some 0)) else (some 0))=some (Lx.kindM t.data.toList):=by
 rw [Lx.kindM_eq,ByteArray.toList_eq t]
 rcases Lx.scan t.data.toList with ⟨l,a,e⟩
 simp only
 by_cases he:e=0
 ·rw [if_pos he,if_pos he]
  match l with
  | []=>rfl
  | [x] =>
   have e0:rd_T38 ([x].map tokS) 0=tokS x:=rfl
   have e1:((tokS x).f1).toList=x.text:=strS_list _
   have e2:(tokS x).f0=x.kind:=rfl
   rw [e0,e1,e2,if_pos (show ((([x].map tokS).length:Nat):Int)=1 from rfl),if_pos (show (0:Int) < ((([x].map tokS).length:Nat):Int) by simp),if_pos (show [x].length=1 from rfl)]
   simp only [List.head?_cons]
   split <;> rfl
  | x :: y :: l =>
   rw [if_neg (by simp;omega),if_neg (by simp)]
 ·rw [if_neg he,if_neg he]
theorem kind_f (t:ByteArray):lex_Kind.f t=some (Lx.kindM t.data.toList):=by
 unfold lex_Kind.f lex_Scan.f
 exact kind_tail t
end Go.Proofs.YtadgddipkbdnbaaGreatDoor.Q
