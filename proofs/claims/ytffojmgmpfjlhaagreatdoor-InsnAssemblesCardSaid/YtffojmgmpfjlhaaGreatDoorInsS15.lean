/- Parts of the proof: see the last text -/
import Derived.Test.YtffojmgmpfjlhaaGreatDoorInsS14
import Derived.RangeFuncRecord
import Derived.RecoverIn
import Derived.RangeFuncLeaves
set_option maxHeartbeats 8000000
set_option maxRecDepth 100000
set_option linter.unusedVariables false
set_option linter.unusedSimpArgs false
namespace Go.Proofs.YtffojmgmpfjlhaaGreatDoor
open Go.RowKit Go.Proofs.Ix YtffojmgmpfjlhaaGreatDoorW.PrintWords YtffojmgmpfjlhaaGreatDoorW.PrintLast
theorem AW.rebase {B B' A m:Nat} {w:World} {z:Az} (h:AW B w A m z (.slice none 0 0) (.slice none 0 0)) (h9:9≤B') (hB:B'≤w.heap.size):AW B' w A m z (.slice none 0 0) (.slice none 0 0):=by
 refine ⟨h.blk,?_,?_,h.map,h.dist,h.gw,h9,h.bA,h.bm,hB,h.s1,h.s2,h.s3⟩
 ·obtain ⟨h1,h2⟩:=h.list
  refine ⟨h1,?_⟩
  rcases h2 with h2 | ⟨g,cap,cur,e,_⟩
  ·exact .inl h2
  ·cases e
 ·obtain ⟨h1,h2⟩:=h.funcs
  refine ⟨h1,?_⟩
  rcases h2 with h2 | ⟨g,cap,cur,e,_⟩
  ·exact .inl h2
  ·cases e
theorem AW.lower {B B' A m:Nat} {w:World} {z:Az} {vl vf:Value} (h:AW B w A m z vl vf) (h9:9≤B') (hB:B'≤B):AW B' w A m z vl vf :=
 ⟨h.blk,own_weaken h.list hB,own_weaken h.funcs hB,h.map,h.dist,h.gw,h9,h.bA,h.bm,Nat.le_trans hB h.bB,h.s1,h.s2,h.s3⟩
theorem rowsZ_err {no:Nat} {z:Az} {s:ByteArray} {t:List ByteArray} {e:Int} (h:z.row no s=.error e):rowsZ no z (s :: t)=.error (no,e):=by rw [rowsZ,h]
theorem rowsZ_ok {no:Nat} {z z1:Az} {s:ByteArray} {t:List ByteArray} (h:z.row no s=.ok z1):rowsZ no z (s :: t)=rowsZ (no+1) z1 t:=by rw [rowsZ,h]
theorem iter_any (B0 A m Lk pp p1:Nat) (rec:Loop) (text:ByteArray) (z0:Az) (wR:World) (h:AW B0 wR A m z0 (.slice none 0 0) (.slice none 0 0)) (hz:z0.Ok) (hL:wR.heap[Lk]?=some (.loop rec))
  (hpp:wR.cell? ⟨pp,0,none⟩=some (pt A)) (hpne:pp≠A∧pp≠m∧pp≠Lk) (hp1:wR.cell? ⟨p1,0,none⟩=some (.string text)) (hsz:text.size≤20000) (hround:RndOk A m Lk pp rec) (hps:rec.params.size=2) :
  Calls Tryz.prog 109 #[.func (.yield Lk) #[] #[],.pointer (some ⟨p1,0,none⟩)] wR (RowsPost wR.heap.size wR A m Lk rec (rowsZ 1 z0 ((pieces text).map cutZ))):=by
 obtain ⟨R,hR⟩:∃ R,rowsZ 1 z0 ((pieces text).map cutZ)=R:=⟨_,rfl⟩
 rw [hR]
 have HR0:=Lib.hid (show rowsZ (0+1) z0 (((pieces text).map cutZ).drop 0)=R from hR)
 clear hR
 obtain ⟨mx,hmx⟩:=h.gw.most
 obtain ⟨W1,hW1⟩:∃ W1,W1=wR.alloc (.cells ((pieces text).map Value.string).toArray 9):=⟨_,rfl⟩
 obtain ⟨n,hn⟩:∃ n,(pieces text).length=n:=⟨_,rfl⟩
 have hnc:Lib.countB text nlB+1=n:=by rw [← hn,pieces_len]
 have hnle:n≤20001:=by rw [← hn];exact Nat.le_trans (pieces_le text) (by omega)
 have hsplit:Calls Tryz.prog 110 #[.string text,.string ⟨#[10]⟩] wR fun e w'=>e=.returned (.slice (some ⟨wR.heap.size,0,none⟩) n n)∧w'=W1:=by
  rw [hW1,← hnc]
  exact Tryz.strings_Split text nlB mx wR (by omega) hmx (by decide)
 have hg1:W1.heap[wR.heap.size]?=some (.cells ((pieces text).map Value.string).toArray 9 (0,0)):=by rw [hW1];exact heap_own _ _
 have hz1:W1.heap.size=wR.heap.size+1:=by rw [hW1];exact World.size_alloc ..
 have hbW:Below wR.heap.size wR W1:=by rw [hW1];exact (Below.refl _ _).alloc (Nat.le_refl _) _
 have hA1:AW W1.heap.size W1 A m z0 (.slice none 0 0) (.slice none 0 0):=(h.below hbW).rebase (by have:=h.gw.size;omega) (Nat.le_refl _)
 have hLl:Lk < wR.heap.size:=(Array.getElem?_eq_some_iff.1 hL).1
 have hL1:W1.heap[Lk]?=some (.loop rec):=(hbW.block Lk hLl).trans hL
 have hpl:pp < wR.heap.size:=World.block_lt_of_cell? _ _ hpp
 have hpp1:W1.cell? ⟨pp,0,none⟩=some (pt A):=(hbW.cell (p:=⟨pp,0,none⟩) hpl).trans hpp
 have hgA:wR.heap.size≠A:=by have:=h.ltA;omega
 have hgm:wR.heap.size≠m:=by have:=h.map.lt;omega
 have hgL:wR.heap.size≠Lk:=by omega
 have hfin:∀ {w':World},FrL A m Lk W1.heap.size W1 w'→FrL A m Lk wR.heap.size wR w':=fun {w'} hf =>
  ⟨hf.os.trans hbW.os,hf.tape.trans hbW.tape,hf.output.trans hbW.output,Nat.le_trans hbW.size hf.size,fun k hk _ hA hm hL=>(hf.block k (by omega) (by omega) hA hm hL).trans (hbW.block k hk)⟩
 clear hW1 hnc
 go_enter Tryz.func109,Tryz.ntmps109
 go_wp2_with (go_at_call 110;refine hsplit.mono ?_;rintro e w1 ⟨rfl,rfl⟩)
 go_loopw [8] (fun i wr=>∃ (k:Nat) (z:Az) (vl vf:Value),k≤n∧i=.int .i64 k∧AW w1.heap.size wr A m z vl vf∧z.Ok∧wr.heap[Lk]?=some (.loop rec)∧FrL A m Lk w1.heap.size w1 wr∧Hid (rowsZ (k+1) z (((pieces text).map cutZ).drop k)=R)) (fun i _=>n - (intOf i).toNat)
 case atStart=>exact ⟨0,z0,_,_,by omega,rfl,hA1,hz,hL1,FrL.refl _ _ _ _ _,HR0⟩
 case round =>
  obtain ⟨k,z,vl,vf,hk,rfl,hA,hzk,hLk,hF,HP⟩:=hrel
  by_cases hlt:k < n
  ·have hkl:k < (pieces text).length:=by rw [hn];exact hlt
   obtain ⟨s,hs⟩:∃ s,(pieces text)[k]=s:=⟨_,rfl⟩
   have hss:s.size≤20000:=by rw [← hs];exact Nat.le_trans (splitB_size nlB _ text _ (List.getElem_mem hkl)) hsz
   have hcell:wr.cell? ⟨wR.heap.size,k,none⟩=some (.string s):=by
    rw [World.cell?_of_block (w:=w1) (hF.block wR.heap.size (by omega) (by omega) hgA hgm hgL),blk_cell hg1]
    simp [hkl,hs]
   obtain ⟨m9,hm9⟩:=hA.gw.most
   have hstep:rowsZ (k+1) z (cutZ s :: ((pieces text).map cutZ).drop (k+1))=R:=by
    rw [← HP.out,List.drop_eq_getElem_cons (show k < ((pieces text).map cutZ).length by simpa using hkl)]
    simp [hs]
   have HS:=Lib.hid hstep
   clear hstep HP hs
   go_upto_region 4 with (go_at_call 111;refine (Tryz.strings_Cut s ⟨#[59]⟩ m9 _ (by omega) hm9).mono ?_;rintro e w2 ⟨rfl,⟨n2,rfl⟩⟩)
   have hA2:AW w1.heap.size (wr.drewN n2) A m z vl vf:=hA.drewN n2
   have hF2:FrL A m Lk w1.heap.size w1 (wr.drewN n2):=hF.blo ((Blo.refl A m w1.heap.size wr).drewN n2)
   have hL2:(wr.drewN n2).heap[Lk]?=some (.loop rec):=hLk
   generalize wr.drewN n2=W2 at hA2 hF2 hL2 ⊢
   have hpp2:W2.cell? ⟨pp,0,none⟩=some (pt A):=(World.cell?_of_block (w:=w1) (a:=⟨pp,0,none⟩) (hF2.block pp (by omega) (by omega) hpne.1 hpne.2.1 hpne.2.2)).trans hpp1
   have hrnd:=hround w1.heap.size (k+1) (cutZ s) z vl vf W2 hA2 hzk hL2 hpp2 (Nat.le_trans (cutZ_size s) (by omega)) (by omega)
   have hyl:=run_yield (P:=Tryz.prog) (args:=#[.int .i64 ((k+1:Nat):Int),.string (cutZ s)]) hL2 (by rw [hps];rfl)
   generalize (rec.params.zip #[Value.int .i64 ((k+1:Nat):Int),.string (cutZ s)]).foldl (fun tmps (x:Tmp × Value)=>tmps.setIfInBounds x.1 x.2) rec.tmps=tps at hyl hrnd
   have hyl2:(Instr.yield Lk #[.int .i64 ((k:Int)+1),.string ⟨(Lib.cut s.data.toList [59]).1.toArray⟩]).run Tryz.prog W2=_:=hyl
   clear hyl
   refine (wpIn_wide (n:=0)).1 ?_
   gi_wp2
   cases hrow:z.row (k+1) (cutZ s) with
   | error e =>
    rw [hrow] at hrnd
    have hr:R=.error (k+1,e):=by rw [← HS.out,rowsZ_err hrow]
    subst hr
    refine ⟨rfl,hrnd.mono ?_⟩
    rintro x w6 ⟨rfl,hc6,hf6⟩
    exact ⟨rfl,rfl,hc6,hfin (hF2.trans hf6)⟩
   | ok z1 =>
    rw [hrow] at hrnd
    have HR:=Lib.hid (show rowsZ (k+1+1) z1 _=R by rw [← HS.out,rowsZ_ok hrow])
    have hz1k:=row_ok hzk (Nat.le_trans (cutZ_size s) (by omega)) hrow
    refine ⟨rfl,hrnd.mono ?_⟩
    rintro x w6 ⟨rfl,⟨vl6,vf6,hA6⟩,hL6,hf6⟩
    clear hyl2
    gi_wp2
    go_wp2
    go_roundw
    case rel=>exact ⟨k+1,z1,vl6,vf6,by omega,by go_num,hA6,hz1k,hL6,hF2.trans hf6,HR⟩
    case measure=>simp [intOf];omega
  ·obtain rfl:k=n:=by omega
   have hr:R=.ok z:=by rw [← HP.out,List.drop_of_length_le (by simp [hn])];rfl
   subst hr
   go_wp2
   exact ⟨rfl,.tuple #[],results_none rfl _ _ _,rfl,⟨vl,vf,hA.lower (by have:=h.gw.size;omega) (by omega)⟩,hLk,hfin hF⟩
end Go.Proofs.YtffojmgmpfjlhaaGreatDoor
namespace Go.Proofs.YtffojmgmpfjlhaaGreatDoor
open Go.RowKit
variable {P:Program}
def WpF (f:FuncId) (P:Program) (c:Code) (Q:Exit→Act→World→Prop) (a:Act) (w:World):Prop :=
 ∀ (b:Frame) (k:List Item) (cs:List Frame),b.roundOf=none→b.fn=f →
  ∃ e a' w',Q e a' w'∧ArrivesIn (Machine.fenced P Fence.wide) P (lone (b.atR a (.code c :: k)) cs w) b k cs e a' w'
theorem wpF_of_wp {f:FuncId} {c:Code} {Q:Exit→Act→World→Prop} {a:Act} {w:World} (h:c.wp P Q a w):WpF f P c Q a w :=
 fun b k cs hro _=>((wpIn_wide (n:=0)).2 h) b k cs hro trivial (room_wide _)
theorem wpF_seq {f:FuncId} {x y:Code} {Q:Exit→Act→World→Prop} {a:Act} {w:World} (h:WpF f P x (Exit.then (WpF f P y Q) Q) a w):WpF f P (Code.seq x y) Q a w:=by
 intro b k cs hro hb
 have h0:(lone (b.atR a (.code (.seq x y) :: k)) cs w).fenced P Fence.wide:=fenced_calm (n:=0) trivial (room_wide _) rfl
 obtain ⟨e,a₁,w₁,hq,harr⟩:=h b (.code y :: k) cs hro hb
 cases e with
 | normal =>
  obtain ⟨e₂,a₂,w₂,hq₂,harr₂⟩:=hq b k cs hro hb
  exact ⟨e₂,a₂,w₂,hq₂,.of_steps (.head h0 stepR_seq harr) harr₂⟩
 | exit id=>exact ⟨_,a₁,w₁,hq,.of_steps (.one h0 stepR_seq) (.pass (x:=.code y) rfl (fun _ _=>.inl (by simp)) harr)⟩
 | goto l=>exact ⟨_,a₁,w₁,hq,.of_steps (.one h0 stepR_seq) (.pass (x:=.code y) rfl (fun _ _=>.inl (by simp)) harr)⟩
 | ret=>exact ⟨_,a₁,w₁,hq,.of_steps (.one h0 stepR_seq) (.pass (x:=.code y) rfl (fun _ _=>.inl (by simp)) harr)⟩
 | panic ch=>exact ⟨_,a₁,w₁,hq,.of_steps (.one h0 stepR_seq) (.pass (x:=.code y) rfl (fun _ _=>.inl (by simp)) harr)⟩
 | outgrown=>exact ⟨_,a₁,w₁,hq,.of_steps (.one h0 stepR_seq) (.pass (x:=.code y) rfl (fun _ _=>.inl (by simp)) harr)⟩
theorem wpF_block {f:FuncId} {id:Nat} {c:Code} {Q:Exit→Act→World→Prop} {a:Act} {w:World} (h:WpF f P c (Exit.inBlock id Q) a w):WpF f P (Code.block id c) Q a w:=by
 intro b k cs hro hb
 have h0:(lone (b.atR a (.code (.block id c) :: k)) cs w).fenced P Fence.wide:=fenced_calm (n:=0) trivial (room_wide _) rfl
 obtain ⟨e,a₁,w₁,hq,harr⟩:=h b (.inBlock id :: k) cs hro hb
 cases e with
 | normal=>exact ⟨.normal,a₁,w₁,hq,.head h0 stepR_block (StepsIn.trans harr (.one (fenced_calm (n:=0) trivial (room_wide _) rfl) stepR_inBlock))⟩
 | exit id' =>
  by_cases hid:id'=id
  ·simp only [Exit.inBlock,hid,if_true] at hq
   exact ⟨.normal,a₁,w₁,hq,.head h0 stepR_block (harr.1 k (by simp [exitTo,hid]))⟩
  ·simp only [Exit.inBlock,hid,if_false] at hq
   have this:(id == id')=false:=by simp;exact fun h=>hid h.symm
   have hx:exitTo id' (.inBlock id :: k)=exitTo id' k:=by simp [exitTo,this]
   exact ⟨.exit id',a₁,w₁,hq,fun k' hk=>.head h0 stepR_block (harr.1 k' (by rw [hx];exact hk)),
    fun hr' hk=>let ⟨k₁,h1,h2⟩:=harr.2 hr' (by rw [hx];exact hk);⟨k₁,h1,.head h0 stepR_block h2⟩⟩
 | goto l =>
  have hx:gotoIn l (.inBlock id :: k)=gotoIn l k:=by simp [gotoIn]
  exact ⟨_,a₁,w₁,hq,fun k' hk=>.head h0 stepR_block (harr.1 k' (by rw [hx];exact hk)),
   fun hr' hk=>let ⟨k₁,h1,h2⟩:=harr.2 hr' (by rw [hx];exact hk);⟨k₁,h1,.head h0 stepR_block h2⟩⟩
 | ret=>exact ⟨_,a₁,w₁,hq,.of_steps (.one h0 stepR_block) harr⟩
 | panic ch=>exact ⟨_,a₁,w₁,hq,.of_steps (.one h0 stepR_block) harr⟩
 | outgrown=>exact ⟨_,a₁,w₁,hq,.of_steps (.one h0 stepR_block) harr⟩
def RangeEnd (f:FuncId) (P:Program) (l:Nat) (Q:Exit→Act→World→Prop) (a':Act):Ending→World→Prop
 | .returned _,w₃=>∃ w₄,(Instr.endLoop l).run P w₃=.ok none w₄∧Q .normal a' w₄
 | .panicked chain,w₃=>Q (.panic chain) a' w₃
 | .outgrown,_=>False
theorem wpF_rangeFunc {f:FuncId} {g:Operand} {ps:Array Tmp} {assign body:Code} {Q:Exit→Act→World→Prop} {a:Act} {w:World}
  (h:∃ (l:Nat) (mark:List Deferred) (w₁:World) (d:Deferred) (w₁':World) (gf:FuncId) (args:Array Value) (w₂:World),
   (Instr.enterLoop f a.tmps ps assign body none).run P w=.ok (l,mark) w₁ ∧
   (resolve a.eval (rangeCall g l) 0).run P w₁=.ok d w₁' ∧
   (invoke d.target d.args).run P w₁'=.ok (.enter gf args) w₂ ∧
   Calls P gf args w₂ (RangeEnd f P l Q { a with defers:=mark ++ a.defers })) :
  WpF f P (Code.rangeFunc g ps assign body) Q a w:=by
 intro b k cs hro hb
 obtain ⟨l,mark,w₁,d,w₁',gf,args,w₂,he,hres,hinv,hcall⟩:=h
 subst hb
 rw [← hro] at he
 have h0:(lone (b.atR a (.code (.rangeFunc g ps assign body) :: k)) cs w).fenced P Fence.wide :=
  fenced_lone (.inl trivial) (fun f' hf'=>trivial) (room_wide _)
 have henter:=stepR_rangeFunc (P:=P) (b:=b) (a:=a) (k:=k) (cs:=cs) (w:=w) he hres hinv
 obtain ⟨e,w₃,fr,hR,hsteps,hfn,hleave⟩:=((callsIn_wide (n:=0)).2 hcall).2 (b.atR { a with defers:=mark ++ a.defers } (.inRangeFunc l :: k) :: cs) (room_wide _)
 cases e with
 | outgrown=>exact hR.elim
 | returned v =>
  have hl:(lone fr (b.atR { a with defers:=mark ++ a.defers } (.inRangeFunc l :: k) :: cs) w₃).fenced P Fence.wide:=fenced_leaving (n:=0) trivial (room_wide _) hleave
  obtain ⟨w₄,hend,hq⟩:=hR
  refine ⟨.normal,_,w₄,hq,.head h0 henter (StepsIn.trans hsteps (.head hl ?_ (.one (fenced_calm (n:=0) (fr:=b.atR { a with defers:=mark ++ a.defers } (.endRangeFunc l :: k)) trivial (room_wide _) rfl) (stepR_endRangeFunc hend))))⟩
  rw [← finish_atR_inRangeFunc l v];exact step_leave_returned hleave
 | panicked chain =>
  have hl:(lone fr (b.atR { a with defers:=mark ++ a.defers } (.inRangeFunc l :: k) :: cs) w₃).fenced P Fence.wide:=fenced_leaving (n:=0) trivial (room_wide _) hleave
  refine ⟨.panic chain,_,w₃,hR,.inRangeFunc l :: k,.head h0 henter (StepsIn.trans hsteps (.one hl ?_))⟩
  rw [← Frame.raise_atR];exact step_leave_panicked hleave
theorem calls_of_wpF {f:FuncId} {fn:Func} {c:Code} {args:Array Value} {w:World} {R:Ending→World→Prop}
  (hf:P.funcs[f]?=some fn) (hb:fn.body=some c)
  (h:WpF f P c (bodyPostM Fence.wide 0 P fn R) { tmps:=args ++ Array.replicate (fn.ntmps - args.size) undef,defers:=[] } w):Calls P f args w R:=by
 refine (callsIn_wide (n:=0)).1 ⟨trivial,fun cs hr=>?_⟩
 let b:Frame:={ (default:Frame) with fn:=f,kind:=.normal,roundOf:=none }
 have henter:Frame.enter P f args .normal =
   b.atR { tmps:=args ++ Array.replicate (fn.ntmps - args.size) undef,defers:=[] } [.code c]:=by
  simp [Frame.enter,Frame.atR,hf,hb,b]
 obtain ⟨e,a',w',hq,harr⟩:=h b [] cs rfl rfl
 rw [← henter] at harr
 cases e with
 | normal =>
  obtain ⟨e',w'',fr',hR,hs,hfn,hl⟩:=leaves_stepsInM a'.defers .returning w' { b.atR a' [] with mode:=.returning } cs rfl rfl rfl hf rfl trivial hr hq
  exact ⟨e',w'',fr',hR,ComesIn.of_steps (StepsIn.trans harr (.one (fenced_calm (n:=0) (fr:=b.atR a' []) trivial hr rfl) (stepR_end rfl))) hs,hfn,hl⟩
 | ret =>
  obtain ⟨todo,hs₀⟩:=harr.1 rfl
  obtain ⟨e',w'',fr',hR,hs,hfn,hl⟩:=leaves_stepsInM a'.defers .returning w' { b.atR a' todo with mode:=.returning } cs rfl rfl rfl hf rfl trivial hr hq
  exact ⟨e',w'',fr',hR,ComesIn.of_steps hs₀ hs,hfn,hl⟩
 | panic chain =>
  obtain ⟨todo,hs₀⟩:=harr
  obtain ⟨e',w'',fr',hR,hs,hfn,hl⟩:=leaves_stepsInM a'.defers (.panicking chain) w' { b.atR a' todo with mode:=.panicking chain } cs rfl rfl rfl hf rfl trivial hr hq
  exact ⟨e',w'',fr',hR,ComesIn.of_steps hs₀ hs,hfn,hl⟩
 | exit id=>exact hq.elim
 | goto l=>exact hq.elim
 | outgrown=>exact ⟨.outgrown,w',b,hq,harr.resolve_left (by simp [b]),rfl,trivial⟩
def RoundEnd (P:Program) (l:Nat) (R:Ending→World→Prop):Exit→Act→World→Prop
 | .normal,_,w=>∃ v w',(Instr.endRound l none).run P w=.ok v w'∧R (.returned v) w'
 | .panic chain,a,w=>a.defers=[]∧R (.panicked chain) w
 | _,_,_=>False
theorem roundIn_of_throws {l:Nat} {f:FuncId} {fn:Func} {tmps:Array Value} {assign body:Code} {w:World} {R:Ending→World→Prop} (hf:P.funcs[f]?=some fn)
  (h:assign.wpIn (Fence.wide.inRound l) 0 P (Exit.then (fun a₁ w₁=>∃ w₂,(Instr.beginRound l).run P w₁=.ok () w₂∧body.wpIn (Fence.wide.inRound l) 0 P (RoundEnd P l R) a₁ w₂) (fun _ _ _=>False))
   { tmps:=tmps,defers:=[] } w) :
  RoundIn Fence.wide 0 P l f tmps assign body w R:=by
 refine ⟨trivial,fun c cs hr=>?_⟩
 let b:Frame:={ (default:Frame) with fn:=f,kind:=.normal,roundOf:=some l }
 have hb0:Frame.round l f tmps assign body .normal=b.atR { tmps:=tmps,defers:=[] } [.code assign,.beginRound,.code body]:=by
  simp [Frame.round,Frame.atR,b]
 have hr':(Fence.wide.inRound l).room ((c :: cs).length+1+0):=hr
 have hF':(Fence.wide.inRound l).fn b.fn:=trivial
 obtain ⟨e,a₁,w₁,hq,harr⟩:=h b [.beginRound,.code body] (c :: cs) rfl hF' hr'
 rw [← hb0] at harr
 cases e with
 | normal =>
  obtain ⟨w₂,hbr,hbody⟩:=hq
  have s1:StepsIn (Machine.fenced P (Fence.wide.inRound l)) P (lone (b.atR a₁ [.beginRound,.code body]) (c :: cs) w₁) (lone (b.atR a₁ [.code body]) (c :: cs) w₂) :=
   .one (fenced_calm (n:=0) (fr:=b.atR a₁ [.beginRound,.code body]) hF' hr' rfl) (stepR_beginRound rfl hbr)
  obtain ⟨e₂,a₂,w₃,hq₂,harr₂⟩:=hbody b [] (c :: cs) rfl hF' hr'
  cases e₂ with
  | normal =>
   obtain ⟨v,w₄,hend,hR⟩:=hq₂
   exact ⟨.returned v,w₄,hR,(StepsIn.trans harr s1).trans (StepsIn.trans harr₂ (.one (fenced_calm (n:=0) (fr:=b.atR a₂ []) hF' hr' rfl) (stepR_round_end rfl rfl hend)))⟩
  | panic chain =>
   obtain ⟨hd,hR⟩:=hq₂
   obtain ⟨todo,hs⟩:=harr₂
   have hleave:({ b.atR a₂ todo with mode:=.panicking chain }:Frame).leaving P w₃ (.panicked chain):=⟨rfl,hd,fn,hf⟩
   exact ⟨.panicked chain,w₃,hR,(StepsIn.trans harr s1).trans (StepsIn.trans hs (.one (fenced_leaving (n:=0) hF' hr' hleave) (step_leave_panicked hleave)))⟩
  | ret=>exact hq₂.elim
  | exit id=>exact hq₂.elim
  | goto t=>exact hq₂.elim
  | outgrown=>exact hq₂.elim
 | exit id=>exact hq.elim
 | goto t=>exact hq.elim
 | ret=>exact hq.elim
 | panic chain=>exact hq.elim
 | outgrown=>exact hq.elim
end Go.Proofs.YtffojmgmpfjlhaaGreatDoor
namespace Go.Proofs.YtffojmgmpfjlhaaGreatDoor
open Go.RowKit Go.Proofs.Ix YtffojmgmpfjlhaaGreatDoorW.PrintWords YtffojmgmpfjlhaaGreatDoorW.PrintLast
theorem rows_any (text:ByteArray) (w:World):Calls Tryz.prog 72 #[.string text] w fun x w'=>x=.returned (.func (.func 109) #[] #[.pointer (some ⟨w.heap.size,0,none⟩)])∧w'=w.alloc (.cells #[.string text] 9):=by
 have hmf:∀ (fn:Fn) (first cap:Array Value) (w:World),(Instr.makeFunc fn first cap).run Tryz.prog w=.ok (.func fn first cap) w:=fun _ _ _ _=>rfl
 go_enter Tryz.func72,Tryz.ntmps72
 go_wp2
 go_ret
 exact ⟨rfl,rfl⟩
theorem resolve_range {a:Act} {g:Operand} {l:Nat} {fv:Fn} {cap:Array Value} {w:World} (hg:a.eval g=.func fv #[] cap):(resolve a.eval (rangeCall g l) 0).run Tryz.prog w=.ok { target:=.fn fv cap,args:=#[.func (.yield l) #[] #[]] } w:=by
 simp only [resolve,hg]
 simp [go_sem]
theorem invoke_range {f:FuncId} {fn:Func} {l:Nat} {cap:Array Value} {w:World} (hf:Tryz.prog.funcs[f]?=some fn) (hname:(fn.name == "runtime.NumGoroutine")=false) (hb:fn.body.isSome=true) :
  (invoke (.fn (.func f) cap) #[.func (.yield l) #[] #[]]).run Tryz.prog w=.ok (.enter f (#[.func (.yield l) #[] #[]] ++ cap)) w:=by
 have h1:fn.name ≠ "runtime.NumGoroutine" := by simpa using hname
 obtain ⟨c,hc⟩:=Option.isSome_iff_exists.1 hb
 simp [invoke,go_sem,callFunc,hf,h1,hc]
theorem AW.put {B A m Lk:Nat} {w:World} {z:Az} {vl vf:Value} {r:Loop} (h:AW B w A m z vl vf) (hL:w.heap[Lk]?=some (.loop r)) (r2:Loop) (h9:9≤Lk):AW B (w.putObj Lk (.loop r2)) A m z vl vf:=by
 have hk:∀ (g:Nat) (o:Obj),w.heap[g]?=some o→(∀ r,o≠.loop r)→(w.putObj Lk (.loop r2)).heap[g]?=w.heap[g]?:=by
  intro g o hg ho
  refine World.putObj_heap_other ?_
  rintro rfl
  rw [hL] at hg
  cases hg
  exact ho _ rfl
 obtain ⟨es,c,hm,_⟩:=h.map
 exact ⟨(hk A _ h.blk (fun r e=>by cases e)).trans h.blk,own_keep h.list fun g c e=>hk g _ e (fun r e=>by cases e),own_keep h.funcs fun g c e=>hk g _ e (fun r e=>by cases e),h.map.keep (hk m _ hm (fun r e=>by cases e)),h.dist,
  h.gw.of_low fun k hk9=>World.putObj_heap_other (by omega),h.b9,h.bA,h.bm,by rw [World.putObj_size];exact h.bB,h.s1,h.s2,h.s3⟩
theorem AW.putD {B A m D:Nat} {w:World} {z:Az} {vl vf:Value} {d:Option (List Deferred)} (h:AW B w A m z vl vf) (hL:w.heap[D]?=some (.deferred d)) (d2:Option (List Deferred)) (h9:9≤D):AW B (w.putObj D (.deferred d2)) A m z vl vf:=by
 have hk:∀ (g:Nat) (o:Obj),w.heap[g]?=some o→(∀ r,o≠.deferred r)→(w.putObj D (.deferred d2)).heap[g]?=w.heap[g]?:=by
  intro g o hg ho
  refine World.putObj_heap_other ?_
  rintro rfl
  rw [hL] at hg
  cases hg
  exact ho _ rfl
 obtain ⟨es,c,hm,_⟩:=h.map
 exact ⟨(hk A _ h.blk (fun r e=>by cases e)).trans h.blk,own_keep h.list fun g c e=>hk g _ e (fun r e=>by cases e),own_keep h.funcs fun g c e=>hk g _ e (fun r e=>by cases e),h.map.keep (hk m _ hm (fun r e=>by cases e)),h.dist,
  h.gw.of_low fun k hk9=>World.putObj_heap_other (by omega),h.b9,h.bA,h.bm,by rw [World.putObj_size];exact h.bB,h.s1,h.s2,h.s3⟩
theorem AW.aftA {B A m no:Nat} {w w':World} {z:Az} {vl vf:Value} (h:AW B w A m z vl vf) (ha:Aft A w w') (hb:w'.heap[A]?=some (.cells #[.int .i64 (no:Int),.int .i64 (z.size:Int),vl,.map (some m),vf] 123 (0,0))):AW B w' A m { z with no:=no } vl vf:=by
 have hk:∀ (g:Nat) (o:Obj),w.heap[g]?=some o→(∀ c,o≠Obj.cells c 123 (0,0))→w'.heap[g]?=w.heap[g]?:=by
  intro g o hg ho
  refine ha.block g (Array.getElem?_eq_some_iff.1 hg).1 ?_
  rintro rfl
  rw [h.blk] at hg
  cases hg
  exact ho _ rfl
 obtain ⟨es,c,hm,_⟩:=h.map
 exact ⟨hb,own_keep h.list fun g c e=>hk g _ e (fun r e=>by cases e),own_keep h.funcs fun g c e=>hk g _ e (fun r e=>by cases e),h.map.keep (hk m _ hm (fun r e=>by cases e)),h.dist,ha.gw h.gw h.bA,h.b9,h.bA,h.bm,Nat.le_trans h.bB ha.size,h.s1,h.s2,h.s3⟩
def z00:Az:=⟨0,0,[],[],[]⟩
theorem z00_ok:z00.Ok:=⟨by decide,by decide,by decide,(fun e he=>absurd he List.not_mem_nil),(fun p hp=>absurd hp List.not_mem_nil),(fun s hs=>absurd hs List.not_mem_nil)⟩
def asmR (r:Except (Nat × Int) Az):Except (Nat × Int) (List Int × Az) :=
 match r with
 | .error e=>.error e
 | .ok z=>match codeZ z.labels z.list [] with
  | .error e=>.error e
  | .ok l=>.ok (l,z)
def asmZ (text:ByteArray):Except (Nat × Int) (List Int × Az):=asmR (rowsZ 1 z00 ((pieces text).map cutZ))
structure FrC (A m cp:Nat) (w w':World):Prop where
 os:w'.os=w.os
 tape:w'.tape=w.tape
 output:w'.output=w.output
 size:w.heap.size≤w'.heap.size
 block:∀ k,k < w.heap.size→k≠A→k≠m→k≠cp→w'.heap[k]?=w.heap[k]?
def CloPost (A m cp:Nat) (w:World) (r:Except (Nat × Int) (List Int × Az)) (x:Ending) (w':World):Prop :=
 match r with
 | .error (no,e)=>x=.panicked (thrown e)∧w'.cell? ⟨A,0,none⟩=some (.int .i64 (no:Int))∧w'.heap[cp]?=w.heap[cp]?∧FrC A m cp w w'
 | .ok (l,z)=>x=.returned (.tuple #[])∧(∃ vl vf no,AW w.heap.size w' A m { z with no:=no } vl vf)∧(∃ v,w'.heap[cp]?=some (Obj.cells #[v] 24 (0,0))∧KR w' w.heap.size v l)∧FrC A m cp w w'
theorem rows_list {no:Nat} {z z':Az} {L:List ByteArray} (h:rowsZ no z L=.ok z') (hz:z.Ok) (hL:∀ s∈L,s.size≤1000000):z'.Ok:=by
 induction L generalizing no z with
 | nil=>cases h;exact hz
 | cons s t ih =>
  unfold rowsZ at h
  split at h
  ·cases h
  ·rename_i z1 h1
   exact ih h (row_ok hz (hL s (List.mem_cons_self)) h1) (fun x hx=>hL x (List.mem_cons_of_mem _ hx))
theorem clo_any (A m tp pp cp:Nat) (text:ByteArray) (w:World) (h:AW w.heap.size w A m z00 (.slice none 0 0) (.slice none 0 0)) (htp:w.cell? ⟨tp,0,none⟩=some (.string text)) (hpp:w.cell? ⟨pp,0,none⟩=some (pt A)) (hcp:w.heap[cp]?=some (Obj.cells #[.slice none 0 0] 24 (0,0)))
  (hpA:pp≠A) (hpm:pp≠m) (hcA:cp≠A) (hcm:cp≠m) (hpc:pp≠cp) (hc9:9≤cp) (hsz:text.size≤20000) :
  Calls Tryz.prog 71 #[.pointer (some ⟨tp,0,none⟩),.pointer (some ⟨pp,0,none⟩),.pointer (some ⟨cp,0,none⟩)] w (CloPost A m cp w (asmZ text)):=by
 refine calls_of_wpF Tryz.func71 rfl ?_
 simp only [Tryz.ntmps71,List.size_toArray,List.length_cons,List.length_nil,Nat.reduceAdd,Nat.reduceSub,Array.replicate_succ,Array.replicate_zero,List.push_toArray,List.append_toArray,List.nil_append,List.cons_append]
 refine wpF_seq (wpF_seq (wpF_of_wp ?_))
 go_wp2_with (go_at_call 72;refine (rows_any _ _).mono ?_;rintro e W1 ⟨rfl,rfl⟩)
 refine wpF_block (wpF_rangeFunc ?_)
 obtain ⟨W1,hW1⟩:∃ W1,W1=w.alloc (.cells #[.string text] 9):=⟨_,rfl⟩
 rw [← hW1]
 apply Exists.intro;apply Exists.intro;apply Exists.intro;apply Exists.intro;apply Exists.intro;apply Exists.intro;apply Exists.intro;apply Exists.intro
 refine ⟨run_enterLoop_outer _ _ _ _ _,resolve_range (fv:=.func 109) (cap:=#[.pointer (some ⟨w.heap.size,0,none⟩)]) rfl,invoke_range (f:=109) Tryz.func109 (by kernel_rfl) rfl,?_⟩
 generalize hrec:(Loop.mk LoopState.ready none 71 _ #[7,8] _ _ W1.heap.size)=rec
 obtain ⟨wB,hwB⟩:∃ wB,wB=(W1.alloc (.deferred (some []))).alloc (.loop rec):=⟨_,rfl⟩
 rw [← hwB]
 have z1:w.heap.size < W1.heap.size∧W1.heap.size≤w.heap.size+1:=by rw [hW1,World.size_alloc];exact ⟨Nat.lt_succ_self _,Nat.le_refl _⟩
 have zB:W1.heap.size+1 < wB.heap.size:=by rw [hwB];show _ < ((W1.heap.push _).push _).size;simp
 have wB1:Below W1.heap.size W1 wB:=by rw [hwB];exact ((Below.refl _ _).alloc (Nat.le_refl _) _).alloc (by simp) _
 have bW1:Below w.heap.size w W1:=by rw [hW1];exact (Below.refl _ _).alloc (Nat.le_refl _) _
 have bB:Below w.heap.size w wB:=bW1.trans (wB1.mono (by omega))
 have hLB:wB.heap[W1.heap.size+1]?=some (.loop rec):=by rw [hwB];have:=World.alloc_heap_new (W1.alloc (.deferred (some []))) (.loop rec);rwa [World.size_alloc] at this
 have hDB:wB.heap[W1.heap.size]?=some (.deferred (some [])):=by rw [hwB];show ((W1.heap.push _).push _)[W1.heap.size]?=_;simp [Array.getElem?_push]
 have hpB:wB.cell? ⟨w.heap.size,0,none⟩=some (.string text):=by
  have e1:W1.heap[w.heap.size]?=some (Obj.cells #[.string text] 9 (0,0)):=by rw [hW1];exact heap_own _ _
  exact (blk_cell ((wB1.block w.heap.size (by omega)).trans e1) 0).trans rfl
 have hAl:=h.ltA
 have hml:=h.map.lt
 have hppl:pp < w.heap.size:=World.block_lt_of_cell? _ _ hpp
 have hcpl:cp < w.heap.size:=(Array.getElem?_eq_some_iff.1 hcp).1
 have hgs:=h.gw.size
 have hAB:=h.below bB
 have hppB:wB.cell? ⟨pp,0,none⟩=some (pt A):=(bB.cell (p:=⟨pp,0,none⟩) hppl).trans hpp
 have hps:rec.params.size=2:=by rw [← hrec];rfl
 have hpn:rec.pending=none:=by rw [← hrec]
 have hst:rec.state=.ready:=by rw [← hrec]
 clear hW1 hwB
 have hround:RndOk A m (W1.heap.size+1) pp rec:=by
  intro B no s z vl vf W hA hz hL hppW hs hLk
  have hA9:=hA.b9
  obtain ⟨rb,hrb⟩:∃ rb,rb={ rec with state:=LoopState.busy }:=⟨_,rfl⟩
  have hpne:pp≠W1.heap.size+1:=by omega
  subst hrec
  refine roundIn_of_throws Tryz.func71 ?_
  have hsem:=@Oper.semAt_some
  gi_wp2
  refine ⟨World.putObj _ (W1.heap.size+1) (.loop rb),(run_beginRound hL rfl).trans (by rw [hrb]),?_⟩
  have hA2:=hA.put hL rb (by omega)
  have hL2:(W.putObj (W1.heap.size+1) (.loop rb)).heap[W1.heap.size+1]?=some (.loop rb):=World.putObj_heap_same (Array.getElem?_eq_some_iff.1 hL).1
  have hF2:FrL A m (W1.heap.size+1) B W (W.putObj (W1.heap.size+1) (.loop rb)):=(FrL.refl _ _ _ _ _).put _
  have hpp2:(W.putObj (W1.heap.size+1) (.loop rb)).cell? ⟨pp,0,none⟩=some (pt A):=(World.cell?_of_block (w:=W) (a:=⟨pp,0,none⟩) (World.putObj_heap_other hpne)).trans hppW
  generalize W.putObj (W1.heap.size+1) (.loop rb)=W2 at hA2 hL2 hF2 hpp2 ⊢
  gi_wp2
  refine ⟨trivial,rfl,(CallsIn.inRound _ (callsIn_wide.2 (row_any B W2 A m z vl vf no s hA2 hs hz.size hz.funcs (Nat.le_trans hz.list (Nat.le_trans hz.size (by omega)))))).mono ?_⟩
  cases hrow:z.row no s with
  | error e =>
   rintro x W3 ⟨rfl,hc3,hf3⟩
   exact ⟨rfl,rfl,hc3,hF2.blo hf3⟩
  | ok z1 =>
   rintro x W3 ⟨rfl,vl3,vf3,hA3,hf3⟩
   gi_wp2
   have hLA:W1.heap.size+1≠A:=by omega
   have hLm:W1.heap.size+1≠m:=by omega
   have hL3:W3.heap[W1.heap.size+1]?=some (.loop rb):=(hf3.block _ (Array.getElem?_eq_some_iff.1 hL2).1 hLk hLA hLm).trans hL2
   have hrb2:({ rb with state:=(if (none:Option Code).isNone then LoopState.ready else LoopState.done),pending:=none }:Loop)=Loop.mk LoopState.ready none 71 rb.tmps #[7,8] rb.assign rb.body W1.heap.size:=by rw [hrb];rfl
   refine ⟨_,_,run_endRound none hL3,?_⟩
   rw [hrow]
   refine ⟨rfl,?_,?_,(hF2.blo hf3).put _⟩
   ·exact ⟨_,_,hA3.put hL3 _ (by omega)⟩
   ·rw [hrb2,hrb]
    exact World.putObj_heap_same (Array.getElem?_eq_some_iff.1 hL3).1
 have hit:=iter_any w.heap.size A m (W1.heap.size+1) pp w.heap.size rec text z00 wB hAB z00_ok hLB hppB ⟨hpA,hpm,by omega⟩ hpB hsz hround hps
 obtain ⟨R,hR⟩:∃ R,rowsZ 1 z00 ((pieces text).map cutZ)=R:=⟨_,rfl⟩
 have hasm:asmZ text=asmR R:=by unfold asmZ;rw [hR]
 have hRok:∀ z,R=.ok z→z.Ok:=fun z hz=>rows_list (hR.trans hz) z00_ok (fun s hs=>by
  obtain ⟨x,hx,rfl⟩:=List.mem_map.1 hs
  exact Nat.le_trans (cutZ_size x) (Nat.le_trans (splitB_size nlB _ text x hx) (by omega)))
 rw [hR] at hit
 clear hR hround hrec
 have hfrB:∀ {w':World},FrL A m (W1.heap.size+1) wB.heap.size wB w'→FrC A m cp w w':=fun {w'} hf =>
  ⟨hf.os.trans bB.os,hf.tape.trans bB.tape,hf.output.trans bB.output,Nat.le_trans bB.size hf.size,fun k hk hkA hkm _=>(hf.block k (by omega) (by omega) hkA hkm (by omega)).trans (bB.block k hk)⟩
 refine hit.mono ?_
 rintro x w5 hx
 have hD5:∀ {w':World},FrL A m (W1.heap.size+1) wB.heap.size wB w'→w'.heap[W1.heap.size]?=some (.deferred (some [])):=fun {w'} hf =>
  (hf.block W1.heap.size (by omega) (by omega) (by omega) (by omega) (by omega)).trans hDB
 cases R with
 | error p =>
  obtain ⟨no,e⟩:=p
  obtain ⟨rfl,hc5,hf5⟩:=hx
  show LeavesInM Fence.wide 0 Tryz.prog Tryz.f71 _ (CloPost A m cp w (asmZ text)) [⟨.collected W1.heap.size,#[]⟩] (.panicking (thrown e)) w5
  rw [hasm]
  refine ⟨by simp,.inl ⟨_,_,rfl,run_takeDeferred (hD5 hf5),?_⟩⟩
  have hp0:∀ i,i≠W1.heap.size→(w5.putObj W1.heap.size (.deferred none)).heap[i]?=w5.heap[i]?:=fun i hi=>World.putObj_heap_other hi
  refine ⟨rfl,(World.cell?_of_block (w:=w5) (a:=⟨A,0,none⟩) (hp0 A (by omega))).trans hc5,(hp0 cp (by omega)).trans ((hf5.block cp (by omega) (by omega) hcA hcm (by omega)).trans (bB.block cp hcpl)),?_⟩
  have hf:=hfrB hf5
  exact ⟨hf.os,hf.tape,hf.output,by rw [World.putObj_size];exact hf.size,fun k hk hA hm hc=>(hp0 k (by omega)).trans (hf.block k hk hA hm hc)⟩
 | ok z =>
  obtain ⟨rfl,⟨vl5,vf5,hA5⟩,hL5,hf5⟩:=hx
  have hel:=run_endLoop (P:=Tryz.prog) hL5 (by rw [hst];simp)
  rw [hpn] at hel
  have hzok:=hRok z rfl
  obtain ⟨rx,hrx⟩:∃ rx:Loop,rx={ rec with state:=.exhausted,pending:=none }:=⟨_,rfl⟩
  obtain ⟨W6,hW6⟩:∃ W6,W6=w5.putObj (W1.heap.size+1) (.loop rx):=⟨_,rfl⟩
  refine ⟨W6,by rw [hW6,hrx];exact hel,?_⟩
  have hA6:AW wB.heap.size W6 A m z vl5 vf5:=by rw [hW6];exact hA5.put hL5 rx (by omega)
  have hf6:FrL A m (W1.heap.size+1) wB.heap.size wB W6:=by rw [hW6];exact hf5.put _
  have hpp6:W6.cell? ⟨pp,0,none⟩=some (pt A):=(World.cell?_of_block (w:=wB) (a:=⟨pp,0,none⟩) (hf6.block pp (by omega) (by omega) hpA hpm (by omega))).trans hppB
  have hcp6:W6.heap[cp]?=some (Obj.cells #[.slice none 0 0] 24 (0,0)):=(hf6.block cp (by omega) (by omega) hcA hcm (by omega)).trans ((bB.block cp hcpl).trans hcp)
  clear hel hW6 hL5 hA5
  have hcode:=code_any wB.heap.size W6 A m z vl5 vf5 hA6 (Nat.le_trans hzok.list (Nat.le_trans hzok.size (by omega))) hzok.at_ (fun p hp=>Nat.le_trans (hzok.labels p hp) (Nat.le_trans hzok.size (by omega)))
  show WpF _ _ _ _ _ _
  refine wpF_of_wp ?_
  have h6s:=hf6.size
  cases hcz:codeZ z.labels z.list [] with
  | error p =>
   obtain ⟨no,e⟩:=p
   rw [hcz] at hcode
   have hasm2:asmZ text=.error (no,e):=by rw [hasm];unfold asmR;dsimp only;rw [hcz]
   rw [hasm2]
   clear hcz hasm hasm2
   go_wp2_with (go_at_call 74;refine hcode.mono ?_;rintro e7 W7 ⟨rfl,hc7,haf7⟩)
   show LeavesInM Fence.wide 0 Tryz.prog Tryz.f71 _ (CloPost A m cp w (.error (no,e))) [⟨.collected W1.heap.size,#[]⟩] (.panicking (thrown e)) W7
   have hD7:W7.heap[W1.heap.size]?=some (.deferred (some [])):=(haf7.block _ (by omega) (by omega)).trans (hD5 hf6)
   refine ⟨by simp,.inl ⟨_,_,rfl,run_takeDeferred hD7,?_⟩⟩
   have hp0:∀ i,i≠W1.heap.size→(W7.putObj W1.heap.size (.deferred none)).heap[i]?=W7.heap[i]?:=fun i hi=>World.putObj_heap_other hi
   refine ⟨rfl,(World.cell?_of_block (w:=W7) (a:=⟨A,0,none⟩) (hp0 A (by omega))).trans hc7,(hp0 cp (by omega)).trans ((haf7.block cp (by omega) hcA).trans (hcp6.trans hcp.symm)),?_⟩
   have hf:=hfrB hf6
   exact ⟨haf7.os.trans hf.os,haf7.tape.trans hf.tape,haf7.output.trans hf.output,by rw [World.putObj_size];exact Nat.le_trans hf.size haf7.size,fun k hk hA hm hc=>((hp0 k (by omega)).trans (haf7.block k (by omega) hA)).trans (hf.block k hk hA hm hc)⟩
  | ok l =>
   rw [hcz] at hcode
   have hasm2:asmZ text=.ok (l,z):=by rw [hasm];unfold asmR;dsimp only;rw [hcz]
   rw [hasm2]
   clear hcz hasm hasm2
   go_wp2_with (go_at_call 74;refine hcode.mono ?_;rintro e7 W7 ⟨v7,no7,rfl,hr7,hb7,haf7⟩;obtain ⟨A7,n7,rfl⟩:=Kd.R_slice hr7;have hcp7:W7.heap[cp]?=some (Obj.cells #[.slice none 0 0] 24 (0,0)):=(haf7.block cp (by omega) hcA).trans hcp6;have c7:W7.cell? ⟨cp,0,none⟩=some (.slice none 0 0):=(blk_cell hcp7 0).trans rfl;have f7:W7.frozen? ⟨cp,0,none⟩=false:=blk_frozen hcp7 0)
   show LeavesInM Fence.wide 0 Tryz.prog Tryz.f71 _ (CloPost A m cp w (.ok (l,z))) [⟨.collected W1.heap.size,#[]⟩] .returning _
   have hA7:=hA6.aftA haf7 hb7
   obtain ⟨W8,hW8⟩:∃ W8,W8=W7.setCell ⟨cp,0,none⟩ (.slice A7 l.length n7):=⟨_,rfl⟩
   rw [← hW8]
   have s8:∀ k,k≠cp→W8.heap[k]?=W7.heap[k]?:=fun k hk=>by rw [hW8];exact Below.heap_setCell _ _ _ _ (by exact hk)
   have z8:W8.heap.size=W7.heap.size:=by rw [hW8];simp [World.setCell]
   have hcp8:W8.heap[cp]?=some (Obj.cells #[.slice A7 l.length n7] 24 (0,0)):=by rw [hW8];exact blk_put hcp7 0 _ rfl
   have hA8:AW wB.heap.size W8 A m { z with no:=no7 } vl5 vf5:=hA7.keep cp (fun c hc=>by rw [hcp7] at hc;cases hc;exact ⟨_,_,rfl,by decide,by decide,by decide⟩) hc9 (by rw [z8];exact Nat.le_refl _) (fun k hk hkc=>s8 k hkc)
   have hr8:KR W8 W6.heap.size (.slice A7 l.length n7) l:=Kd.R_step hr7 (fun k hk _=>s8 k (by omega))
   have hD8:W8.heap[W1.heap.size]?=some (.deferred (some [])):=(s8 _ (by omega)).trans ((haf7.block _ (by omega) (by omega)).trans (hD5 hf6))
   refine ⟨by simp,.inl ⟨_,_,rfl,run_takeDeferred hD8,?_⟩⟩
   have hp0:∀ i,i≠W1.heap.size→(W8.putObj W1.heap.size (.deferred none)).heap[i]?=W8.heap[i]?:=fun i hi=>World.putObj_heap_other hi
   refine ⟨_,results_none rfl _ _ _,rfl,⟨_,_,no7,(hA8.putD hD8 none (by omega)).lower (by omega) (by omega)⟩,⟨_,(hp0 cp (by omega)).trans hcp8,?_⟩,?_⟩
   ·exact Kd.R_mono (Kd.R_step hr8 (fun k hk _=>hp0 k (by omega))) (fun k hk=>by omega)
   ·have hf:=hfrB hf6
    exact ⟨by show W8.os=_;rw [hW8];exact haf7.os.trans hf.os,by show W8.tape=_;rw [hW8];exact haf7.tape.trans hf.tape,by show W8.output=_;rw [hW8];exact haf7.output.trans hf.output,by rw [World.putObj_size,z8];exact Nat.le_trans hf.size haf7.size,fun k hk hA hm hc=>(((hp0 k (by omega)).trans (s8 k hc)).trans (haf7.block k (by omega) hA)).trans (hf.block k hk hA hm hc)⟩
def asmFin (at_:Int) (r:Except (Nat × Int) (List Int × Az)):List Int × List Q.S61 × Int × Int :=
 match r with
 | .error (no,e)=>([],[],(no:Int),e)
 | .ok (l,z)=>(l,symsZ z.labels z.size at_ z.funcs,0,0)
def asmOut (text:ByteArray) (at_:Int):List Int × List Q.S61 × Int × Int :=
 if 20000 < text.size then ([],[],0,2)
 else if at_ < 0∨1099511627776 < at_ then ([],[],0,1)
 else asmFin at_ (asmZ text)
theorem def_err {z:Az} {s:ByteArray} {e:Int} (h:z.def_ s=.error e):e=23:=by
 unfold Az.def_ at h
 repeat' split at h
 all_goals cases h
 rfl
theorem push_err {z:Az} {l:L9} {e:Int} (h:z.push l=.error e):e=2:=by
 unfold Az.push at h
 split at h
 ·cases h;rfl
 ·cases h
theorem rest_err {z:Az} {s:ByteArray} {l:L9} {e:Int} (h:z.rest s l=.error e):e≠0:=by
 unfold Az.rest at h
 split at h
 ·rw [def_err h];decide
 ·split at h
  ·cases h;decide
  ·split at h
   ·rename_i e1 h1
    cases h
    rw [def_err h1];decide
   ·rw [push_err h];decide
theorem row_err {z:Az} {no:Nat} {s:ByteArray} {e:Int} (h:z.row no s=.error e):e≠0:=by
 unfold Az.row at h
 dsimp only at h
 split at h
 ·split at h
  ·cases h;decide
  ·unfold Az.dirRow at h
   repeat' split at h
   all_goals first | (cases h;done) | (cases h;decide)
  ·exact rest_err h
 ·exact rest_err h
theorem rows_err {no no':Nat} {z:Az} {L:List ByteArray} {e:Int} (h:rowsZ no z L=.error (no',e)):e≠0:=by
 induction L generalizing no z with
 | nil=>cases h
 | cons s t ih =>
  unfold rowsZ at h
  split at h
  ·rename_i e1 h1
   cases h
   exact row_err h1
  ·exact ih h
theorem code_err {L:List (ByteArray × Nat)} {es:List En} {out:List Int} {no:Nat} {e:Int} (h:codeZ L es out=.error (no,e)):e≠0:=by
 induction es generalizing out with
 | nil=>cases h
 | cons x es ih =>
  unfold codeZ at h
  split at h
  ·rename_i c hc
   cases h
   unfold En.fix at hc
   repeat' split at hc
   all_goals first | (cases hc;done) | (cases hc;decide)
  ·split at h
   ·cases h;decide
   ·exact ih h
theorem asm_err {text:ByteArray} {no:Nat} {e:Int} (h:asmZ text=.error (no,e)):e≠0:=by
 unfold asmZ asmR at h
 split at h
 ·rename_i e1 h1
  cases h
  exact rows_err h1
 ·split at h
  ·rename_i e1 h1
   cases h
   exact code_err h1
  ·cases h
theorem asm_ok {text:ByteArray} {l:List Int} {z:Az} (h:asmZ text=.ok (l,z)) (hsz:text.size≤20000):z.Ok:=by
 unfold asmZ asmR at h
 split at h
 ·cases h
 ·rename_i z1 h1
  split at h
  ·cases h
  ·cases h
   exact rows_list h1 z00_ok (fun s hs=>by
    obtain ⟨x,hx,rfl⟩:=List.mem_map.1 hs
    exact Nat.le_trans (cutZ_size x) (Nat.le_trans (splitB_size nlB _ text x hx) (by omega)))
theorem KR_up {w:World} {C:Nat} {v:Value} {l:List Int} (h:KR w C v l) {B:Nat} (hB:B≤C):Kd.R (Kd.int .u8) 5 w B (fun k=>C≤k) v l:=by
 obtain ⟨h0,inner,hown,hr⟩:=h
 refine ⟨h0,inner,?_,hr⟩
 obtain ⟨h1,h2⟩:=hown
 refine ⟨h1,?_⟩
 rcases h2 with h2 | ⟨g,cap,cur,rfl,hg,h3⟩
 ·exact .inl h2
 ·exact .inr ⟨g,cap,cur,rfl,Nat.le_trans hB (h0 g rfl),h3⟩
theorem enters71:∀ args w,(callFunc 71 args).run Tryz.prog w=.ok (.enter 71 args) w:=enters_of Tryz.func71 (by kernel_rfl) rfl
def AsmPost (w:World) (r:List Int × List Q.S61 × Int × Int) (x:Ending) (w':World):Prop :=
 ∃ v0 v1,x=.returned (.tuple #[v0,v1,.int .i64 r.2.2.1,.int .i64 r.2.2.2])∧Kd.R (Kd.int .u8) 5 w' w.heap.size (fun _=>True) v0 r.1∧Kd.R Q.k61 61 w' w.heap.size (fun _=>True) v1 r.2.1∧Below w.heap.size w w'
theorem results28_run (T:Array Value) (w:World) (cp:Nat) (v:Value) (no e:Int) (v1:Value) (h4:T.getD 4 undef=.pointer (some ⟨cp,0,none⟩)) (h5:T.getD 5 undef=v1) (h6:T.getD 6 undef=.int .i64 no) (h7:T.getD 7 undef=.int .i64 e)
  (hc:w.cell? ⟨cp,0,none⟩=some v) (hv:∃ A n c,v=.slice A n c):(results Tryz.f28 T).run Tryz.prog w=.ok (.tuple #[v,v1,.int .i64 no,.int .i64 e]) w:=by
 obtain ⟨A,n,c,rfl⟩:=hv
 have k4:T[4]?.getD undef=.pointer (some ⟨cp,0,none⟩):=by simpa using h4
 have k5:T[5]?.getD undef=v1:=by simpa using h5
 have k6:T[6]?.getD undef=.int .i64 no:=by simpa using h6
 have k7:T[7]?.getD undef=.int .i64 e:=by simpa using h7
 simp [results,Tryz.results28,go_sem,k4,k5,k6,k7,hc]
theorem cell_own2 (w:World) (o:Obj) (v:Value):((w.alloc o).alloc (.cells #[v] 24)).cell? ⟨w.heap.size+1,0,none⟩=some v:=by
 have h:=heap_own (w.alloc o) (.cells #[v] 24)
 rw [World.size_alloc] at h
 exact (blk_cell h 0).trans rfl
theorem chain5 (w:World) (a b c d e:Obj):(((((w.alloc a).alloc b).alloc c).alloc d).alloc e).heap[w.heap.size]?=some a∧(((((w.alloc a).alloc b).alloc c).alloc d).alloc e).heap[w.heap.size+1]?=some b∧(((((w.alloc a).alloc b).alloc c).alloc d).alloc e).heap[w.heap.size+1+1]?=some c∧(((((w.alloc a).alloc b).alloc c).alloc d).alloc e).heap[w.heap.size+1+1+1]?=some d ∧
  (((((w.alloc a).alloc b).alloc c).alloc d).alloc e).heap[w.heap.size+1+1+1+1]?=some e∧(((((w.alloc a).alloc b).alloc c).alloc d).alloc e).heap.size=w.heap.size+5∧Below w.heap.size w (((((w.alloc a).alloc b).alloc c).alloc d).alloc e):=by
 refine ⟨?_,?_,?_,?_,?_,?_,?_⟩
 ·show (((((w.heap.push a).push b).push c).push d).push e)[w.heap.size]?=some a
  simp only [Array.getElem?_push,Array.size_push]
  rw [if_neg (by omega),if_neg (by omega),if_neg (by omega),if_neg (by omega),if_pos trivial]
 ·show (((((w.heap.push a).push b).push c).push d).push e)[w.heap.size+1]?=some b
  simp only [Array.getElem?_push,Array.size_push]
  rw [if_neg (by omega),if_neg (by omega),if_neg (by omega),if_pos trivial]
 ·show (((((w.heap.push a).push b).push c).push d).push e)[w.heap.size+1+1]?=some c
  simp only [Array.getElem?_push,Array.size_push]
  rw [if_neg (by omega),if_neg (by omega),if_pos trivial]
 ·show (((((w.heap.push a).push b).push c).push d).push e)[w.heap.size+1+1+1]?=some d
  simp only [Array.getElem?_push,Array.size_push]
  rw [if_neg (by omega),if_pos trivial]
 ·show (((((w.heap.push a).push b).push c).push d).push e)[w.heap.size+1+1+1+1]?=some e
  simp only [Array.getElem?_push,Array.size_push]
  rw [if_pos trivial]
 ·show (((((w.heap.push a).push b).push c).push d).push e).size=_
  simp
 ·exact (((((Below.refl _ _).alloc (by simp) _).alloc (by simp) _).alloc (by simp;omega) _).alloc (by simp;omega) _).alloc (by simp;omega) _
theorem assemble_any (text:ByteArray) (at_:Int) (w:World) (hg:GW w):Calls Tryz.prog 28 #[.string text,.int .i64 at_] w (AsmPost w (asmOut text at_)):=by
 unfold asmOut
 by_cases hlong:20000 < text.size
 ·rw [if_pos hlong]
  have h1:(20000:Int) < (text.size:Int):=by omega
  go_enter Tryz.func28,Tryz.ntmps28
  go_wp2
  refine bodyPost_ret (results28_run _ _ (w.heap.size+1) (.slice none 0 0) 0 2 _ rfl rfl rfl rfl (cell_own2 w _ _) ⟨_,_,_,rfl⟩) rfl ?_
  exact ⟨_,_,rfl,Kd.R_nil _ _ _ _ _,Kd.R_nil _ _ _ _ _,((Below.refl _ _).alloc (Nat.le_refl _) _).alloc (by simp) _⟩
 ·rw [if_neg hlong]
  have h1:¬ (20000:Int) < (text.size:Int):=by omega
  by_cases ha:at_ < 0
  ·rw [if_pos (.inl ha)]
   go_enter Tryz.func28,Tryz.ntmps28
   go_wp2
   refine bodyPost_ret (results28_run _ _ (w.heap.size+1) (.slice none 0 0) 0 1 _ rfl rfl rfl rfl (cell_own2 w _ _) ⟨_,_,_,rfl⟩) rfl ?_
   exact ⟨_,_,rfl,Kd.R_nil _ _ _ _ _,Kd.R_nil _ _ _ _ _,((Below.refl _ _).alloc (Nat.le_refl _) _).alloc (by simp) _⟩
  ·by_cases hb:1099511627776 < at_
   ·rw [if_pos (.inr hb)]
    go_enter Tryz.func28,Tryz.ntmps28
    go_wp2
    refine bodyPost_ret (results28_run _ _ (w.heap.size+1) (.slice none 0 0) 0 1 _ rfl rfl rfl rfl (cell_own2 w _ _) ⟨_,_,_,rfl⟩) rfl ?_
    exact ⟨_,_,rfl,Kd.R_nil _ _ _ _ _,Kd.R_nil _ _ _ _ _,((Below.refl _ _).alloc (Nat.le_refl _) _).alloc (by simp) _⟩
   ·rw [if_neg (by omega)]
    go_enter Tryz.func28,Tryz.ntmps28
    have hmm:=@run_makeMap Tryz.prog
    have hmf:∀ (fn:Fn) (first cap:Array Value) (w:World),(Instr.makeFunc fn first cap).run Tryz.prog w=.ok (.func fn first cap) w:=fun _ _ _ _=>rfl
    go_wp2_with fail
    obtain ⟨W,hW⟩:∃ W,W=((((w.alloc (.cells #[.string text] 9)).alloc (.cells #[.slice none 0 0] 24)).alloc (.map #[] 0)).alloc (.cells #[.int .i64 0,.int .i64 0,.slice none 0 0,.map (some (w.heap.size+1+1)),.slice none 0 0] 123)).alloc (.cells #[.pointer (some ⟨w.heap.size+1+1+1,0,none⟩)] 119):=⟨_,rfl⟩
    obtain ⟨b0,b1,b2,b3,b4,bz,bb⟩:=chain5 w (.cells #[.string text] 9) (.cells #[.slice none 0 0] 24) (.map #[] 0) (.cells #[.int .i64 0,.int .i64 0,.slice none 0 0,.map (some (w.heap.size+1+1)),.slice none 0 0] 123) (.cells #[.pointer (some ⟨w.heap.size+1+1+1,0,none⟩)] 119)
    rw [← hW] at b0 b1 b2 b3 b4 bz bb ⊢
    obtain ⟨cp,hcp⟩:∃ cp,w.heap.size+1=cp:=⟨_,rfl⟩
    obtain ⟨m,hm⟩:∃ m,w.heap.size+1+1=m:=⟨_,rfl⟩
    obtain ⟨A,hA⟩:∃ A,w.heap.size+1+1+1=A:=⟨_,rfl⟩
    obtain ⟨pp,hpp⟩:∃ pp,w.heap.size+1+1+1+1=pp:=⟨_,rfl⟩
    have hord:w.heap.size < cp∧cp < m∧m < A∧A < pp∧pp < W.heap.size:=by omega
    simp only [hpp] at b4 ⊢
    simp only [hA] at b3 b4
    simp only [hm] at b2 b3
    simp only [hcp] at b1 ⊢
    have h9:=hg.size
    have hgW:GW W:=hg.below bb (Nat.le_refl _)
    clear hW hcp hm hA hpp bz
    obtain ⟨W2,hW2⟩:∃ W2,W2=W.alloc (.cells #[.int .i64 0] 26):=⟨_,rfl⟩
    have z2:W.heap.size < W2.heap.size:=by rw [hW2,World.size_alloc];exact Nat.lt_succ_self _
    have bW:Below W.heap.size W W2:=by rw [hW2];exact (Below.refl _ _).alloc (Nat.le_refl _) _
    have hge:W2.heap[W.heap.size]?=some (.cells #[.int .i64 0] 26 (0,0)):=by rw [hW2];exact heap_own _ _
    have k:∀ i,i < W.heap.size→W2.heap[i]?=W.heap[i]?:=fun i hi=>bW.block i hi
    have hAW:AW W2.heap.size W2 A m z00 (.slice none 0 0) (.slice none 0 0):=by
     refine ⟨(k A (by omega)).trans b3,⟨rfl,.inl ⟨rfl,rfl⟩⟩,⟨rfl,.inl ⟨rfl,rfl⟩⟩,⟨#[],0,(k m (by omega)).trans b2,rfl,fun p hp=>absurd hp List.not_mem_nil⟩,fun p hp=>absurd hp List.not_mem_nil,hgW.below bW (Nat.le_refl _),by omega,by omega,by omega,Nat.le_refl _,by decide,by decide,by decide⟩
    have hclo:=clo_any A m w.heap.size pp cp text W2 hAW ((blk_cell ((k w.heap.size (by omega)).trans b0) 0).trans rfl) ((blk_cell ((k pp (by omega)).trans b4) 0).trans rfl) ((k cp (by omega)).trans b1) (by omega) (by omega) (by omega) (by omega) (by omega) (by omega) (by omega)
    have hfrW:∀ {w' w'':World},FrC A m cp W2 w'→Aft W.heap.size w' w''→∀ i,i < W.heap.size→i≠A→i≠m→i≠cp→w''.heap[i]?=W.heap[i]?:=fun {w' w''} hf ha i hi hA hm hc=>(ha.block i (by have:=hf.size;omega) (by omega)).trans ((hf.block i (by omega) hA hm hc).trans (k i hi))
    have hbel:∀ {w' w'':World},FrC A m cp W2 w'→Aft W.heap.size w' w''→Below w.heap.size w w'':=fun {w' w''} hf ha =>
     ⟨ha.os.trans (hf.os.trans (bW.os.trans bb.os)),ha.tape.trans (hf.tape.trans (bW.tape.trans bb.tape)),ha.output.trans (hf.output.trans (bW.output.trans bb.output)),Nat.le_trans bb.size (Nat.le_trans bW.size (Nat.le_trans hf.size ha.size)),fun i hi=>(hfrW hf ha i (by omega) (by omega) (by omega) (by omega)).trans (bb.block i hi)⟩
    cases hz:asmZ text with
    | error p =>
     obtain ⟨no,e⟩:=p
     have hne:=asm_err hz
     rw [hz] at hclo
     have hgd:=guarded_any 71 #[] #[.pointer (some ⟨w.heap.size,0,none⟩),.pointer (some ⟨pp,0,none⟩),.pointer (some ⟨cp,0,none⟩)] W (fun c w'=>c=e∧w'.cell? ⟨A,0,none⟩=some (.int .i64 (no:Int))∧w'.heap[cp]?=W2.heap[cp]?∧FrC A m cp W2 w') enters71 (by
      rw [← hW2]
      refine hclo.mono ?_
      rintro x w' ⟨rfl,hc,hcq,hf⟩
      exact ⟨e,.inr rfl,(hf.block _ z2 (by omega) (by omega) (by omega)).trans hge,rfl,hc,hcq,hf⟩)
     refine hgd.mono ?_
     rintro x W9 ⟨c,w',rfl,⟨rfl,hc,hcq,hf⟩,haf⟩
     have s9:=hf.size
     have hb9:=hbel hf haf
     have p9:W9.cell? ⟨pp,0,none⟩=some (pt A):=(blk_cell ((hfrW hf haf pp (by omega) (by omega) (by omega) (by omega)).trans b4) 0).trans rfl
     have a9:W9.cell? ⟨A,0,none⟩=some (.int .i64 (no:Int)):=(World.cell?_of_block (w:=w') (a:=⟨A,0,none⟩) (haf.block A (by omega) (by omega))).trans hc
     have q9:W9.heap[cp]?=some (Obj.cells #[.slice none 0 0] 24 (0,0)):=(haf.block cp (by omega) (by omega)).trans (hcq.trans ((k cp (by omega)).trans b1))
     have c9:W9.cell? ⟨cp,0,none⟩=some (.slice none 0 0):=(blk_cell q9 0).trans rfl
     have f9:W9.frozen? ⟨cp,0,none⟩=false:=blk_frozen q9 0
     have hne1:cp≠pp:=by omega
     have hne2:cp≠A:=by omega
     have he1:(c != 0)=true:=bne_iff_ne.2 hne
     have he2:(c == 0)=false:=beq_eq_false_iff_ne.2 hne
     have hcw:w.heap.size≤cp:=by omega
     clear hclo hgd hfrW hbel hAW hge bW k hf haf hc hcq b0 b1 b2 b3 b4 hgW
     have HZ:=Lib.hid hz
     clear hz
     go_upto_region 8 with fail
     have d1:W9.drew.cell? ⟨pp,0,none⟩=some (pt A):=p9
     have d2:W9.drew.cell? ⟨A,0,none⟩=some (.int .i64 (no:Int)):=a9
     refine start_ (n:=9) (S:=fun w'=>w'.cell? ⟨pp,0,none⟩=some (pt A)∧w'.cell? ⟨A,0,none⟩=some (.int .i64 (no:Int))) (ds:=[]) #[zF,zF,zF,zF,zF,zF,zF,zF,zF] (by kernel_rfl) rfl rfl ⟨d1,d2⟩ (fun hHeld=>?_)
     refine pq (i:=4) (N:=some 29) #[zF,zF,zF,zF,zT,zF,zF,zF,zF] rfl rfl ?_
     refine tq2 (i:=0) (N:=some 25) #[zT,zF,zF,zF,zT,zF,zF,zF,zF] rfl rfl hHeld ?_
     refine pq (i:=1) (N:=some 26) #[zT,zT,zF,zF,zT,zF,zF,zF,zF] rfl rfl ?_
     refine pq (i:=2) (N:=some 27) #[zT,zT,zT,zF,zT,zF,zF,zF,zF] rfl rfl ?_
     refine tq2 (i:=3) (N:=some 28) #[zT,zT,zT,zT,zT,zF,zF,zF,zF] rfl rfl hHeld ?_
     refine one_ (i:=5) (N:=none) #[zT,zT,zT,zT,zT,zT,zF,zF,zF] rfl rfl (by kernel_rfl) (by decide) (fun K hK=>?_)
     refine skip_ (w1:=?_) (by rfl) rfl ?_ ?_
     rotate_left
     ·go_simp
      rfl
     refine hK.out _ _ ⟨(World.cell?_setCell_far W9.drew ⟨cp,0,none⟩ ⟨pp,0,none⟩ _ (by exact hne1)).trans d1,(World.cell?_setCell_far W9.drew ⟨cp,0,none⟩ ⟨A,0,none⟩ _ (by exact hne2)).trans d2⟩ (fun hHeld=>?_)
     clear hK K
     refine pq (i:=6) (N:=some 5) #[zT,zT,zT,zT,zT,zT,zT,zF,zF] rfl rfl ?_
     refine pq (i:=7) (N:=some 6) #[zT,zT,zT,zT,zT,zT,zT,zT,zF] rfl rfl ?_
     refine pq (i:=8) (N:=some 7) #[zT,zT,zT,zT,zT,zT,zT,zT,zT] rfl rfl ?_
     refine done_ (by kernel_rfl) ?_
     go_wp2
     have qz:(W9.drew.setCell ⟨cp,0,none⟩ (.slice none 0 0)).heap[cp]?=some (Obj.cells #[.slice none 0 0] 24 (0,0)):=blk_put (w:=W9.drew) q9 0 _ rfl
     refine bodyPost_ret (results28_run _ _ cp (.slice none 0 0) (no:Int) c _ rfl rfl rfl rfl ((blk_cell qz 0).trans rfl) ⟨_,_,_,rfl⟩) rfl ?_
     show AsmPost w (asmFin at_ (asmZ text)) _ _
     rw [HZ.out]
     exact ⟨_,_,rfl,Kd.R_nil _ _ _ _ _,Kd.R_nil _ _ _ _ _,hb9.drew.setCell hcw _⟩
    | ok q =>
     obtain ⟨l,z⟩:=q
     have hzok:=asm_ok hz (by omega)
     rw [hz] at hclo
     have hgd:=guarded_any 71 #[] #[.pointer (some ⟨w.heap.size,0,none⟩),.pointer (some ⟨pp,0,none⟩),.pointer (some ⟨cp,0,none⟩)] W (fun c w'=>c=0∧(∃ vl vf no,AW W2.heap.size w' A m { z with no:=no } vl vf)∧(∃ v,w'.heap[cp]?=some (Obj.cells #[v] 24 (0,0))∧KR w' W2.heap.size v l)∧FrC A m cp W2 w') enters71 (by
      rw [← hW2]
      refine hclo.mono ?_
      rintro x w' ⟨rfl,h2,h3,hf⟩
      exact ⟨0,.inl ⟨rfl,rfl⟩,(hf.block _ z2 (by omega) (by omega) (by omega)).trans hge,rfl,h2,h3,hf⟩)
     refine hgd.mono ?_
     rintro x W9 ⟨c,w',rfl,⟨rfl,⟨vl,vf,no,hA⟩,⟨v,hv,hkr⟩,hf⟩,haf⟩
     obtain ⟨Av,cv,rfl⟩:=Kd.R_slice hkr
     have s9:=hf.size
     have s9':=haf.size
     have hb9:=hbel hf haf
     have p9:W9.cell? ⟨pp,0,none⟩=some (pt A):=(blk_cell ((hfrW hf haf pp (by omega) (by omega) (by omega) (by omega)).trans b4) 0).trans rfl
     have q9:W9.heap[cp]?=some (Obj.cells #[.slice Av l.length cv] 24 (0,0)):=(haf.block cp (by omega) (by omega)).trans hv
     have hge9:w'.heap[W.heap.size]?=some (Obj.cells #[.int .i64 0] 26 (0,0)):=(hf.block _ z2 (by omega) (by omega) (by omega)).trans hge
     have hA9:AW W2.heap.size W9 A m { z with no:=no } vl vf:=hA.keep W.heap.size (fun c hc=>by rw [hge9] at hc;cases hc;exact ⟨_,_,rfl,by decide,by decide,by decide⟩) (by omega) haf.size haf.block
     have hkr9:KR W9 W2.heap.size (.slice Av l.length cv) l:=Kd.R_step hkr (fun k hk hkl=>haf.block k hkl (by omega))
     have hcl:cp < W9.heap.size:=by omega
     have hpl:pp < W9.heap.size:=by omega
     have hcw:w.heap.size≤cp:=by omega
     have hcp2:cp < W2.heap.size:=by omega
     have hwW2:w.heap.size≤W2.heap.size:=by omega
     have hww9:w.heap.size≤W9.heap.size:=by omega
     have hlb:∀ p∈z.labels,p.2≤2060:=fun p hp=>Nat.le_trans (hzok.labels p hp) (Nat.le_trans hzok.size (by omega))
     have hfs:=hzok.names
     clear hclo hgd hfrW hbel hAW hge bW k hf haf b0 b1 b2 b3 b4 hgW hge9 hA hkr hv
     have HZ:=Lib.hid hz
     clear hz
     go_upto_region 9 with fail
     have d1:W9.drew.cell? ⟨cp,0,none⟩=some (.slice Av l.length cv):=(blk_cell (w:=W9.drew) q9 0).trans rfl
     have d2:W9.drew.cell? ⟨pp,0,none⟩=some (pt A):=p9
     have d3:W9.drew.frozen? ⟨cp,0,none⟩=false:=blk_frozen (w:=W9.drew) q9 0
     refine start_ (n:=8) (S:=fun w'=>w'.cell? ⟨cp,0,none⟩=some (.slice Av l.length cv)∧w'.cell? ⟨pp,0,none⟩=some (pt A)) (ds:=[4]) #[zF,zF,zF,zF,zF,zF,zF,zF] (by kernel_rfl) rfl rfl ⟨d1,d2⟩ (fun hHeld=>?_)
     refine pq (i:=2) (N:=some 32) #[zF,zF,zT,zF,zF,zF,zF,zF] rfl rfl ?_
     refine tq2 (i:=0) (N:=some 30) #[zT,zF,zT,zF,zF,zF,zF,zF] rfl rfl hHeld ?_
     refine tq2 (i:=1) (N:=some 31) #[zT,zT,zT,zF,zF,zF,zF,zF] rfl rfl hHeld ?_
     refine one_ (i:=3) (N:=some 33) #[zT,zT,zT,zT,zF,zF,zF,zF] rfl rfl (by kernel_rfl) (by decide) (fun K hK=>?_)
     refine goes_ Tryz.func75 (by kernel_rfl) rfl #[pt A,.int .i64 at_] (by rfl) rfl rfl (by simp only [List.map_toArray,List.map_cons,List.map_nil];rfl) ?_
     with_reducible refine (symbols_any _ W9.drew A m _ vl vf at_ hA9.drew (by omega) (by omega) hlb hfs).mono ?_
     rintro e9 w9 ⟨v9,rfl,hr9,hbs⟩
     refine ⟨_,rfl,?_⟩
     obtain ⟨A9,c9,rfl⟩:=Kd.R_slice hr9
     have k1:=(hbs.cell (p:=⟨cp,0,none⟩) hcl).trans d1
     have k2:=(hbs.cell (p:=⟨pp,0,none⟩) hpl).trans d2
     have k3:w9.frozen? ⟨cp,0,none⟩=false:=(hbs.frozen (p:=⟨cp,0,none⟩) hcl).trans d3
     refine hK.out _ _ ⟨k1,k2⟩ (fun hHeld=>?_)
     clear hK K
     refine nrmq ?_
     refine last_ (i:=4) (N:=none) #[zT,zT,zT,zT,zT,zF,zF,zF] rfl rfl (by kernel_rfl) (by decide) (fun K hK=>?_)
     refine skip_ (w1:=?_) (by rfl) rfl ?_ ?_
     rotate_left
     ·go_simp
      rfl
     refine hK.out _ _ ?_
     clear hK K
     refine pq (i:=5) (N:=some 5) #[zT,zT,zT,zT,zT,zT,zF,zF] rfl rfl ?_
     refine pq (i:=6) (N:=some 6) #[zT,zT,zT,zT,zT,zT,zT,zF] rfl rfl ?_
     refine pq (i:=7) (N:=some 7) #[zT,zT,zT,zT,zT,zT,zT,zT] rfl rfl ?_
     refine done_ (by kernel_rfl) ?_
     go_wp2
     have q10:w9.heap[cp]?=some (Obj.cells #[.slice Av l.length cv] 24 (0,0)):=(hbs.block cp hcl).trans q9
     have qz:(w9.setCell ⟨cp,0,none⟩ (.slice Av l.length cv)).heap[cp]?=some (Obj.cells #[.slice Av l.length cv] 24 (0,0)):=blk_put q10 0 _ rfl
     refine bodyPost_ret (results28_run _ _ cp (.slice Av l.length cv) 0 0 _ rfl rfl rfl rfl ((blk_cell qz 0).trans rfl) ⟨_,_,_,rfl⟩) rfl ?_
     show AsmPost w (asmFin at_ (asmZ text)) _ _
     rw [HZ.out]
     have y1:KR w9 W2.heap.size (.slice Av l.length cv) l:=Kd.R_below (w:=W9.drew) hkr9 hbs
     have y2:=Kd.R_far y1 (p:=⟨cp,0,none⟩) (fun k hk=>by show k≠cp;omega) (.slice Av l.length cv)
     have y3:=Kd.R_far (Kd.R_bound hr9) (p:=⟨cp,0,none⟩) (fun k hk=>by have h1:W9.heap.size≤k:=hk.2.1;show k≠cp;omega) (.slice Av l.length cv)
     exact ⟨_,_,rfl,Kd.R_mono (KR_up y2 hwW2) (fun _ _=>trivial),Kd.R_mono (Kd.R_lower y3 hww9) (fun _ _=>trivial),(hb9.drew.trans (hbs.mono hww9)).setCell hcw _⟩
end Go.Proofs.YtffojmgmpfjlhaaGreatDoor
namespace Go.Proofs.YtffojmgmpfjlhaaGreatDoor.Q
open Go.RowKit Go.Proofs.YtffojmgmpfjlhaaGreatDoor Go.Proofs.Ix YtffojmgmpfjlhaaGreatDoorW.PrintWords
def insn_Assemble.f (a0:ByteArray) (a1:Int):Option (List Int × List S61 × Int × Int):=some (asmOut a0 a1)
theorem insn_Assemble.calls (a0:ByteArray) (a1:Int) (r1:List Int) (r2:List S61) (r3 r4:Int) (w:World) (h:insn_Assemble.f a0 a1=some (r1,r2,r3,r4)) (hgw:GW w) :
  Calls Tryz.prog 28 #[.string a0,.int .i64 a1] w fun e w'=>∃ v0_ v1_:Value,e=.returned (.tuple #[v0_,v1_,.int .i64 r3,.int .i64 r4])∧Kd.R (Kd.int .u8) 5 w' w.heap.size (fun _=>True) v0_ r1∧Kd.R k61 61 w' w.heap.size (fun _=>True) v1_ r2∧Below w.heap.size w w':=by
 have h1:asmOut a0 a1=(r1,r2,r3,r4):=Option.some.inj h
 refine (assemble_any a0 a1 w hgw).mono ?_
 rw [h1]
 rintro e w' h2
 exact h2
end Go.Proofs.YtffojmgmpfjlhaaGreatDoor.Q
