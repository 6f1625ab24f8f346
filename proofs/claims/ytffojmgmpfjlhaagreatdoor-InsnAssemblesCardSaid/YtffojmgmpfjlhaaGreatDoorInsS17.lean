/- Parts of the proof: see the last text -/
import Derived.Test.YtffojmgmpfjlhaaGreatDoorInsS16
import Derived.Test.YtffojmgmpfjlhaaGreatDoorRows
import Derived.ProofKit
import Derived.LaidMore
import Derived.LaidLaws
import Derived.OpenShut
import Derived.ChangeArms
import Derived.Stop.Joined
import Derived.HandedShaped
import Derived.Shelf.Vars
import Derived.Lib.LaidTab
import Derived.Lay
import Derived.Deep.Slices
import Derived.Deep.Fields
import Derived.ChangeSame
import Derived.ChangeSlices
import Derived.Lib.SmallJoins
set_option maxRecDepth 100000
set_option linter.unusedVariables false
set_option linter.unusedSimpArgs false
namespace Go.Proofs.YtffojmgmpfjlhaaGreatDoor
open Go.Proofs.Ix Go.ChangeShapes Go.WideShapes Go.ChangeAt Go.WideMaps Go.WideElems Go.RowKit
section
variable {H:Type} {enc:TypeId × Value→H}
theorem handed_and_shaped {a:Assume} {C:Checked} {os:Os} {f:FuncId} {fn:Func} {s:ChangeSpec} {conds:List PathCond} {apart fresh handsOn again:Bool} {X:World→Array Value→Prop}
  (hX:∀ (w w':World) (args:Array Value),w.heap=w'.heap→X w args→X w' args)
  (own:ownKnob C.prog.godebug=none) (started:os.Started) (noInit:C.prog.inits.idxOf? f=none) (hfn:C.prog.funcs[f]?=some fn)
  (witness:∃ (w:World) (tape:Tape) (i:Input),w.os=os∧(w.forCall tape i).Shaped C.prog∧i.vars=[]∧Input.okWide C.prog (w.forCall tape i) .any w.heap.size f i ∧
   ((s.pre enc C.prog fn conds apart (w.forCall tape i).memory i.args∧X (w.forCall tape i).memory i.args)∧sizedMet enc C.prog fn (OpenSpec.ofChange s) apart (w.forCall tape i).memory i.args)∧a.holds C.prog (lone (Frame.enter C.prog f i.args .normal) [] (w.forCall tape i)))
  (contract:∀ (W:World) (base:Nat) (args:Array Value) (ds gs:List (DataW H)) (before:List MemPlace),
   (∀ (j:Nat) t v,fn.params[j]?=some t→args[j]?=some v→Value.okWide C.prog W .any base t v) →
   DataW.Whole enc C.prog fn.params.toList s.vars apart W args.toList ds gs before →
   conds.all (PathCond.test C.prog ⟨fn.params.toList,ds,s.plain.varTypes C.prog,gs⟩)=true →
   (DataW.weightsEach C.prog (fn.params.toList ++ s.plain.varTypes C.prog) (ds ++ gs)).all (·≤reachBytes)=true→X W args→W.ShapedOpen C.prog →
   a.holds C.prog (lone (Frame.enter C.prog f args .normal) [] W) →
   Calls C.prog f args W fun e W'=>∃ v,e=.returned v∧s.post enc C.prog fn apart fresh handsOn again W args v W') :
  ReturnsInHanded a C os f .any (fun w args=>(s.pre enc C.prog fn conds apart w args∧X w args)∧sizedMet enc C.prog fn (OpenSpec.ofChange s) apart w args) (s.post enc C.prog fn apart fresh handsOn again):=by
 refine returnsInHanded_of_calls own started noInit witness ?_
 intro w tape i _ hsh _ hok hpre hholds
 obtain ⟨_,_,_,fn',hfn',_,_,_,_,hval⟩:=hok
 have e:fn'=fn:=Option.some.inj (hfn'.symm.trans hfn)
 subst e
 obtain ⟨⟨⟨ds,gs,before,hw,hc⟩,hx⟩,hz⟩:=hpre
 have hw':=DataW.Whole.of_heap (w':=w.forCall tape i) (by rfl) hw
 refine (contract (w.forCall tape i) w.heap.size i.args ds gs before hval hw' hc (hz.weights hw) (hX _ _ _ (by rfl) hx) hsh hholds).mono fun e W' ⟨v,he,hp⟩=>?_
 subst he
 exact ChangeSpec.post_blind hp
end
def insnLaid:List (String × DataW Unit):=Rows.insnEncodesRow.laid
theorem laid_at {P:Program} {w:World}:∀ {l:List (String × DataW Unit)} {ps:List MemPlace},DataW.LaidVars P w l ps→∀ n d,(n,d)∈l →
  ∃ g t cs fuel p,P.globalNamed n=some g∧(P.globals[g]?).map (·.type)=some t∧w.var? P n=some cs∧DataW.trod (fun _=>()) P w 0 (fun _=>true) false fuel t cs.toList=some (d,p)
 | [],_,_,n,d,h=>by cases h
 | (n0,d0) :: l,ps,h,n,d,hm=>by
  obtain ⟨g,t,cs,fuel,p,q,h1,h2,h3,h4,h5,_⟩:=h
  rcases List.mem_cons.1 hm with e | hm
  ·cases e;exact ⟨g,t,cs,fuel,p,h1,h2,h3,h4⟩
  ·exact laid_at h5 n d hm
theorem gKinds:Tryz.prog.globalNamed "tapline/insn.kinds" = some 0:=by kernel_rfl
theorem gTab:Tryz.prog.globalNamed "internal/strconv.uint64pow10" = some 1:=by kernel_rfl
theorem gSyn:Tryz.prog.globalNamed "strconv.ErrSyntax" = some 7:=by kernel_rfl
theorem gRng:Tryz.prog.globalNamed "strconv.ErrRange" = some 8:=by kernel_rfl
theorem tKinds:(Tryz.prog.globals[0]?).map (·.type)=some 150:=by kernel_rfl
theorem tTab:(Tryz.prog.globals[1]?).map (·.type)=some 206:=by kernel_rfl
theorem uTab:Tryz.prog.underlying 206=some (.array 20 82):=Tryz.underlying206
theorem tSyn:(Tryz.prog.globals[7]?).map (·.type)=some 141:=by kernel_rfl
theorem tRng:(Tryz.prog.globals[8]?).map (·.type)=some 141:=by kernel_rfl
theorem kind_cells {W:World} {fuel:Nat} {cs:List Value} {s:List UInt8} {c:Int} {p:List MemPlace}
  (h:DataW.trod (fun _=>()) Tryz.prog W 0 (fun _=>true) false fuel 103 cs=some (.agg [.lit (.string s),.lit (.int .i64 c)],p)):cs=[.string (bS s),.int .i64 c]:=by
 obtain ⟨xs,m,rfl,hx,hlen,hn,hel⟩:=DataW.trod_struct Tryz.underlying103 h
 have c103:Tryz.prog.cellsOf 103=2:=by kernel_rfl
 have c9:Tryz.prog.cellsOf 9=1:=by kernel_rfl
 have c3:Tryz.prog.cellsOf 3=1:=by kernel_rfl
 rw [c103] at hlen
 have h0:=hel 0 _ rfl
 have h1:=hel 1 _ rfl
 simp only [Prod.mk.injEq,DataW.agg.injEq] at hx
 match xs,hn,hx,h0,h1 with
 | [x0,x1],_,hx,h0,h1 =>
  simp only [List.map_cons,List.map_nil,List.cons.injEq] at hx
  obtain ⟨k0,e0,f0,_⟩:=DataW.trod_string Tryz.underlying9 (show DataW.trod _ Tryz.prog W 0 _ false m 9 ((cs.drop 0).take (Tryz.prog.cellsOf 9))=some x0 from h0)
  obtain ⟨k1,e1,f1,_⟩:=DataW.trod_int Tryz.underlying3 (show DataW.trod _ Tryz.prog W 0 _ false m 3 ((cs.drop 1).take (Tryz.prog.cellsOf 3))=some x1 from h1)
  rw [f0,f1] at hx
  simp only [DataW.lit.injEq,Lit.int.injEq,Lit.string.injEq,true_and] at hx
  obtain ⟨⟨rfl,rfl,_⟩,_⟩:=hx
  rw [c9] at e0
  rw [c3] at e1
  match cs,hlen with
  | [v0,v1],_ =>
   simp at e0 e1
   rw [e0,e1]
   rfl
theorem kinds_cells {W:World} {fuel:Nat} {cs:List Value} {p:List MemPlace}
  (h:DataW.trod (fun _=>()) Tryz.prog W 0 (fun _=>true) false fuel 150 cs=some (Rows.laid_tapline_insn_kinds,p)):cs=kindsC.toList:=by
 obtain ⟨xs,m,rfl,hx,hlen,hn,hel⟩:=DataW.trod_array Tryz.underlying150 h
 have c150:Tryz.prog.cellsOf 150=70:=by kernel_rfl
 have c103:Tryz.prog.cellsOf 103=2:=by kernel_rfl
 rw [c150] at hlen
 rw [c103] at hel
 simp only [Prod.mk.injEq] at hx
 have hx1:=hx.1
 unfold Rows.laid_tapline_insn_kinds at hx1
 rw [DataW.agg.injEq] at hx1
 have key:∀ i,i < 35→(cs.drop (i * 2)).take 2=(kindsC.toList.drop (i * 2)).take 2:=by
  intro i hi
  have hel':=hel i hi
  obtain ⟨x,hxi⟩:∃ x,xs[i]?=some x:=⟨_,List.getElem?_eq_getElem (by omega)⟩
  rw [hxi] at hel'
  have hd:(xs.map (·.1))[i]?=some x.1:=by rw [List.getElem?_map,hxi];rfl
  rw [← hx1] at hd
  obtain ⟨x1,x2⟩:=x
  rcases (by omega:i=0∨i=1∨i=2∨i=3∨i=4∨i=5∨i=6∨i=7∨i=8∨i=9∨i=10∨i=11∨i=12∨i=13∨i=14∨i=15∨i=16∨i=17∨i=18∨i=19∨i=20∨i=21∨i=22∨i=23∨i=24∨i=25∨i=26∨i=27∨i=28∨i=29∨i=30∨i=31∨i=32∨i=33∨i=34) with rfl | rfl | rfl | rfl | rfl | rfl | rfl | rfl | rfl | rfl | rfl | rfl | rfl | rfl | rfl | rfl | rfl | rfl | rfl | rfl | rfl | rfl | rfl | rfl | rfl | rfl | rfl | rfl | rfl | rfl | rfl | rfl | rfl | rfl | rfl <;>
   (obtain rfl:=Option.some.inj hd;rw [kind_cells hel'];rfl)
 apply List.ext_getElem?
 intro j
 by_cases hj:j < 70
 ·have:=congrArg (·[j % 2]?) (key (j / 2) (by omega))
  simp only [List.getElem?_take,List.getElem?_drop] at this
  rw [if_pos (by omega),if_pos (by omega),show j / 2 * 2+j % 2=j by omega] at this
  exact this
 ·rw [List.getElem?_eq_none (by omega),List.getElem?_eq_none (by show 70≤j;omega)]
theorem var_block {P:Program} {w:World} {n:String} {g:Nat} {cs:Array Value} (hg:P.globalNamed n=some g) (h:w.var? P n=some cs):∃ t fr,w.heap[g]?=some (.cells cs t fr):=by
 unfold World.var? at h
 rw [hg] at h
 simp only [Option.bind_some] at h
 cases ho:w.heap[g]? with
 | none=>rw [ho] at h;cases h
 | some o =>
  rw [ho] at h
  cases o <;> simp at h
  subst h
  exact ⟨_,_,rfl⟩
theorem of_laid {W:World} (h:laidMetH Tryz.prog insnLaid W) (hs:W.ShapedOpen Tryz.prog):GW W:=by
 have e:laidMetH Tryz.prog insnLaid W↔laidMet Tryz.prog insnLaid W:=by rw [MakeChecks.laidMetH_plain _ _ _ (by kernel_rfl)]
 obtain ⟨ps,hv,_,_⟩:=e.1 h
 have mem:∀ n d,(n,d)∈insnLaid→_:=fun n d hm=>laid_at hv n d hm
 refine ⟨?_,?_,?_,?_,?_⟩
 ·obtain ⟨g,t,cs,fuel,p,h1,h2,h3,h4⟩:=mem "tapline/insn.kinds" Rows.laid_tapline_insn_kinds (by simp [insnLaid,Rows.insnEncodesRow])
  obtain rfl:=Option.some.inj (gKinds.symm.trans h1)
  obtain rfl:=Option.some.inj (tKinds.symm.trans h2)
  have hc:=kinds_cells h4
  obtain ⟨t,fr,hb⟩:=var_block gKinds h3
  obtain ⟨l⟩:=cs
  have:(⟨l⟩:Array Value)=kindsC:=by cases hc;rfl
  rw [this] at hb
  exact ⟨t,fr,hb⟩
 ·obtain ⟨g,t,cs,fuel,p,h1,h2,h3,h4⟩:=mem "internal/strconv.uint64pow10" Rows.laid_internal_strconv_uint64pow10 (by simp [insnLaid,Rows.insnEncodesRow])
  obtain rfl:=Option.some.inj (gTab.symm.trans h1)
  obtain rfl:=Option.some.inj (tTab.symm.trans h2)
  have hd:(Rows.laid_internal_strconv_uint64pow10:DataW Unit)=Lib.tabData .u64 Lib.pow10Tab:=by rfl
  rw [hd] at h4
  unfold Lib.TabIs
  rw [h3,← Lib.cells_of_tab uTab Tryz.underlying82 (by kernel_rfl) (by kernel_rfl) h4]
 ·exact cell_of_shapedOpen_int (t:=3) (zero:=#[.int .i64 0]) hs (of_decide_eq_true (by kernel_rfl)) (by kernel_rfl) rfl (by kernel_rfl) (by kernel_rfl) Tryz.underlying3
 ·obtain ⟨g,t,cs,fuel,p,h1,h2,h3,h4⟩:=mem "strconv.ErrSyntax" Rows.laid_strconv_ErrSyntax (by simp [insnLaid,Rows.insnEncodesRow])
  obtain rfl:=Option.some.inj (gSyn.symm.trans h1)
  obtain rfl:=Option.some.inj (tSyn.symm.trans h2)
  obtain ⟨_,u,v,hc,_⟩:=iface_of_trod Tryz.underlying141 h4
  have:=World.var?_cell gSyn h3 0
  rw [Array.eq_one_of_toList hc] at this
  exact ⟨u,v,by simpa using this⟩
 ·obtain ⟨g,t,cs,fuel,p,h1,h2,h3,h4⟩:=mem "strconv.ErrRange" Rows.laid_strconv_ErrRange (by simp [insnLaid,Rows.insnEncodesRow])
  obtain rfl:=Option.some.inj (gRng.symm.trans h1)
  obtain rfl:=Option.some.inj (tRng.symm.trans h2)
  obtain ⟨_,u,v,hc,_⟩:=iface_of_trod Tryz.underlying141 h4
  have:=World.var?_cell gRng h3 0
  rw [Array.eq_one_of_toList hc] at this
  exact ⟨u,v,by simpa using this⟩
theorem own:ownKnob Tryz.prog.godebug=none:=by kernel_rfl
theorem laid_met (os:Os) (args:Array Value):laidMetH Tryz.prog insnLaid ((World.laidAll Tryz.prog os insnLaid).forCall (fun _ _=>0) ⟨#[],args,[]⟩).memory:=by
 rw [MakeChecks.laidMetH_plain _ _ _ (by kernel_rfl)]
 exact laidMet_laidAll _ (by kernel_rfl) (by kernel_rfl)
theorem laid_shaped (os:Os):(World.laidAll Tryz.prog os insnLaid).Shaped Tryz.prog:=World.shaped_of_ZipB (by kernel_rfl) (by kernel_rfl)
end Go.Proofs.YtffojmgmpfjlhaaGreatDoor
namespace Go.Proofs.YtffojmgmpfjlhaaGreatDoor.Q
open Go.Joins Go.ChangeShapes Go.WideShapes Go.RowKit Go.Deep Go.Proofs.YtffojmgmpfjlhaaGreatDoor YtffojmgmpfjlhaaGreatDoorW.PrintWords YtffojmgmpfjlhaaGreatDoorW.PrintLast
theorem laidOut:laidOutB Tryz.prog=true:=by kernel_rfl
section
variable {H:Type} {enc:TypeId × Value→H} {W:World}
theorem insFields:∃ f0 f1 f2 f3:Field,Tryz.prog.underlying 23=some (.struct #[f0,f1,f2,f3])∧f0.type=3∧f1.type=3∧f2.type=3∧f3.type=2∧oneCellFields Tryz.prog #[f0,f1,f2,f3]=true :=
 ⟨_,_,_,_,Tryz.underlying23,rfl,rfl,rfl,rfl,by kernel_rfl⟩
theorem insCells:Tryz.prog.cellsOf 23=4:=by kernel_rfl
theorem byteCells:Tryz.prog.cellsOf 5=1:=by kernel_rfl
theorem open_insn {r:Reach} {b0:Nat} {v:Value} {d:DataW H} {p:List MemPlace} (hv:Value.okWide Tryz.prog W r b0 23 v) (h:DataW.Trod enc Tryz.prog W 0 (fun _=>true) true 23 v d p) :
  ∃ t0 t1 t2 t3:Int,v=.agg #[.int .i64 t0,.int .i64 t1,.int .i64 t2,.int .i64 t3]∧(Lit.int .i64 t0).wf=true∧(Lit.int .i64 t1).wf=true∧(Lit.int .i64 t2).wf=true∧(Lit.int .i64 t3).wf=true:=by
 obtain ⟨f0,f1,f2,f3,hs,e0,e1,e2,e3,hone⟩:=insFields
 obtain ⟨v0,v1,v2,v3,y0,y1,y2,y3,n,rfl,rfl,rfl,g0,g1,g2,g3⟩:=open_agg4 hs hone insCells hv h
 rw [e0] at g0
 rw [e1] at g1
 rw [e2] at g2
 rw [e3] at g3
 obtain ⟨t0,h0,-,q0⟩:=DataW.trod_int Tryz.underlying3 g0
 obtain ⟨t1,h1,-,q1⟩:=DataW.trod_int Tryz.underlying3 g1
 obtain ⟨t2,h2,-,q2⟩:=DataW.trod_int Tryz.underlying3 g2
 obtain ⟨t3,h3,-,q3⟩:=DataW.trod_int Tryz.underlying2 g3
 simp only [List.cons.injEq,and_true] at h0 h1 h2 h3
 exact ⟨t0,t1,t2,t3,by rw [h0,h1,h2,h3],q0,q1,q2,q3⟩
theorem open_bytes {r:Reach} {b0:Nat} {v:Value} {d:DataW H} {p:List MemPlace} {ts:List TypeId} {ds:List (DataW H)} {j:Nat} (hv:Value.okWide Tryz.prog W r b0 24 v) (h:DataW.Trod enc Tryz.prog W 0 (fun _=>true) true 24 v d p)
  (hsz:(DataW.weightsEach Tryz.prog ts ds).all (·≤reachBytes)=true) (ht:ts[j]?=some 24) (hd:ds[j]?=some d) :
  ∃ (a:Option Addr) (len cap:Nat) (z:List Int),v=.slice a len cap∧((a=none∧len=0∧cap=0∧z=[])∨∃ x,a=some x∧len≤cap∧cap≤maxLen∧z.length=cap∧(∀ i,i < z.length→W.cell? (x.add i)=some (.int .u8 (z.getD i 0)))∧∀ n∈z,(Lit.int .u8 n).wf=true)∧len * 1≤140737488351232:=by
 obtain ⟨a,len,cap,rfl⟩:=okWide_slice Tryz.underlying24 hv
 obtain ⟨fuel,hf⟩:=h
 rcases open_ints Tryz.underlying24 Tryz.underlying5 byteCells hf with ⟨hcs,_⟩ | ⟨x,l,c,zs,hcs,_,hl,hm,hz,hx,hcell,hwz⟩
 ·simp [Value.cells] at hcs
  obtain ⟨rfl,rfl,rfl⟩:=hcs
  exact ⟨none,0,0,[],rfl,.inl ⟨rfl,rfl,rfl,rfl⟩,by omega⟩
 ·simp [Value.cells] at hcs
  obtain ⟨rfl,rfl,rfl⟩:=hcs
  simp only [if_true] at hz
  simp only [Prod.mk.injEq] at hx
  obtain ⟨rfl,-⟩:=hx
  have hbytes:len * Tryz.prog.bytesOf 5≤reachBytes:=by
   have:=sized_slice hsz ht hd Tryz.underlying24
   refine Nat.le_trans (Nat.mul_le_mul_right _ ?_) this
   simp [lits]
   omega
  have hb5:Tryz.prog.bytesOf 5=1:=by kernel_rfl
  rw [hb5] at hbytes
  have hreach:reachBytes=140737488351232:=rfl
  exact ⟨some x,len,cap,zs,rfl,.inr ⟨x,rfl,hl,hm,hz,hcell,hwz⟩,by omega⟩
end
end Go.Proofs.YtffojmgmpfjlhaaGreatDoor.Q
namespace Go.Proofs.YtffojmgmpfjlhaaGreatDoor.Q
open Go.Proofs.Ix hiding rd
open Go.Proofs.YtffojmgmpfjlhaaGreatDoor Go.RowKit Go.Proofs.YtffojmgmpfjlhaaGreatDoorW.PrintWords
theorem sane_true (k:Nat):lzsane.f (k+100)=some true:=leO_up lzsane.mono sane_60 k
def Byt (l:List Int):Prop:=∀ x∈l,(Lit.int .u8 x).wf=true
theorem Byt.at {l:List Int} (h:Byt l) {i:Nat} (hi:i < l.length):0≤rd l (i:Int)∧rd l (i:Int) < 256:=by
 have e:rd l (i:Int)=l[i]:=by
  unfold rd
  rw [Int.toNat_natCast]
  simp [List.getD,hi]
 rw [e]
 have:=h _ (List.getElem_mem hi)
 have m1:IntKind.u8.min=0:=by decide
 have m2:IntKind.u8.max=255:=by decide
 simp [Lit.wf,m1,m2] at this
 omega
theorem Byt.drop {l:List Int} (h:Byt l) (n:Nat):Byt (l.drop n):=fun x hx=>h x (List.mem_of_mem_drop hx)
def orF (bs:List Int) (v:Int):Nat→Int
 | 0=>v
 | i+1=>orF bs (Go.bits .or .i64 (wrap64 (v * 128)) (wrap64 (rd bs (i:Int)))) i
theorem wrap_pred {i:Nat} (h:i≤1000000):wrap64 ((i:Int) - 1)=(i:Int) - 1:=by
 simp only [wrap64]
 omega
theorem wrap_pred2 {i:Nat} (h:i≤1000000):wrap64 (((i+1:Nat):Int) - 1 - 1)=(i:Int) - 1:=by
 simp only [wrap64]
 omega
def startD (f:Int) (bs:List Int):Int:=if f=8 then 0 else if bs.length=0 then 0 else if rd bs ((bs.length:Int) - 1)≥64 then -1 else 0
theorem immOf_l0 (bs:List Int) (hb:bs.length≤1000):∀ (i:Nat) (v:Int) (k:Nat),i≤bs.length→i < k→insn_immOf.l0 k bs v ((i:Int) - 1)=some (orF bs v i)
 | 0,v,k,h1,h2=>by
  obtain ⟨k,rfl⟩:∃ m,k=m+1:=⟨k - 1,by omega⟩
  unfold insn_immOf.l0
  rw [if_neg (by omega)]
  rfl
 | i+1,v,k,h1,h2=>by
  obtain ⟨k,rfl⟩:∃ m,k=m+1:=⟨k - 1,by omega⟩
  unfold insn_immOf.l0
  have e:((i+1:Nat):Int) - 1=(i:Int):=by omega
  rw [if_pos (by omega),if_pos (by omega),if_pos (by omega),wrap_pred2 (by omega),immOf_l0 bs hb i _ k (by omega) (by omega),e]
  rfl
theorem immOf_f (f:Int) (bs:List Int) (hb:bs.length≤20) (k:Nat):insn_immOf.f (k+30) f bs=some (orF bs (startD f bs) bs.length):=by
 have hj1:∀ v,insn_immOf.j1 (k+29) bs v=some (orF bs v bs.length):=by
  intro v
  show insn_immOf.j1 (k+28+1) bs v=_
  rw [insn_immOf.j1,wrap_pred (by omega)]
  exact immOf_l0 bs (by omega) _ _ _ (Nat.le_refl _) (by omega)
 have hj0:∀ c,insn_immOf.j0 (k+30) bs 0 c=some (orF bs (if c=true then -1 else 0) bs.length):=by
  intro c
  show insn_immOf.j0 (k+29+1) bs 0 c=_
  rw [insn_immOf.j0]
  cases c
  ·rw [if_neg (by decide),hj1];rfl
  ·rw [if_pos rfl,hj1];rfl
 unfold insn_immOf.f startD
 by_cases h8:f=8
 ·rw [if_pos h8,if_pos h8,hj0];rfl
 ·rw [if_neg h8,if_neg h8]
  by_cases h0:bs.length=0
  ·rw [if_pos h0,if_neg (by omega),hj0];rfl
  ·rw [if_neg h0,if_pos (by omega),wrap_pred (by omega),if_pos (by omega),if_pos (by omega),hj0]
   by_cases h64:rd bs ((bs.length:Int) - 1)≥64
   ·rw [if_pos h64,if_pos (by simpa using h64)]
   ·rw [if_neg h64,if_neg (by simpa using h64)]
def scanD (l:List Int) (f:Int):Nat→Nat→Int
 | _,0=>0
 | i,d+1=>if i=l.length then 21 else if rd l (i:Int)≥128 then 20 else if f=3∧d=0∧rd l (i:Int)≠0∧rd l (i:Int)≠127 then 20 else scanD l f (i+1) d
abbrev Dec:=Int × Int × Int × Int × Int × Int
def errD (e:Int):Dec:=(0,0,0,0,0,e)
def sliceD (l:List Int) (a n:Nat):List Int:=(l.take n).drop a
def finD (l:List Int) (f op a b:Int) (i n:Nat):Dec :=
 if scanD l f i (n - i)=0 then (op,a,b,orF (sliceD l i n) (startD f (sliceD l i n)) (n - i),(n:Int),0) else errD (scanD l f i (n - i))
def opD (l:List Int):Int:=wrap64 (wrap64 (rd l 0) - 128)
def decD (l:List Int):Dec :=
 if l.length=0 then errD 21
 else if nameM (opD l)=[] then errD 20
 else if hasA (formM (opD l))=true then
  if l.length=1 then errD 21
  else if rd l 1≥(if hasB (formM (opD l))=true then 64 else 8) then errD 20
  else if hasB (formM (opD l))=true then finD l (formM (opD l)) (opD l) (wrap64 (Int.tdiv (wrap64 (rd l 1)) 8)) (Int.tmod (wrap64 (rd l 1)) 8) 2 (lenM (formM (opD l)))
  else finD l (formM (opD l)) (opD l) (wrap64 (rd l 1)) 0 2 (lenM (formM (opD l)))
 else finD l (formM (opD l)) (opD l) 0 0 1 (lenM (formM (opD l)))
theorem decode_l0 (l:List Int) (f op a b:Int) (nm:ByteArray) (i0 n:Nat) (hn:n≤12) (hi:i0≤n):∀ (d i k:Nat),i+d=n→i0≤i→i≤l.length→d+30 < k →
  insn_Decode.l0 k l (n:Int) (i0:Int) (i:Int) op a b 0 nm f=some (if scanD l f i d=0 then (op,a,b,orF (sliceD l i0 n) (startD f (sliceD l i0 n)) (n - i0),(n:Int),0) else errD (scanD l f i d))
 | 0,i,k,h1,h2,h3,h4=>by
  obtain ⟨k,rfl⟩:∃ m,k=m+30+1:=⟨k - 31,by omega⟩
  have hl:(sliceD l i0 n).length=n - i0:=by simp [sliceD];omega
  unfold insn_Decode.l0
  rw [if_neg (by omega),if_pos (by omega),if_pos (by omega),if_pos (by omega),Int.toNat_natCast,Int.toNat_natCast,show (l.take n).drop i0=sliceD l i0 n from rfl,immOf_f _ _ (by rw [hl];omega) k,hl]
  rfl
 | d+1,i,k,h1,h2,h3,h4=>by
  obtain ⟨k,rfl⟩:∃ m,k=m+1:=⟨k - 1,by omega⟩
  unfold insn_Decode.l0 scanD
  rw [if_pos (by omega)]
  by_cases c1:i=l.length
  ·rw [if_pos (by omega),if_pos c1];rfl
  ·rw [if_neg (by omega),if_neg c1,if_pos (by omega),if_pos (by omega)]
   by_cases c2:rd l (i:Int)≥128
   ·rw [if_pos c2,if_pos c2];rfl
   ·rw [if_neg c2,if_neg c2,wrap_succ (by omega),wrap_pred (by omega)]
    have ih:=decode_l0 l f op a b nm i0 n hn hi d (i+1) k (by omega) (by omega) (by omega) (by omega)
    rw [ih]
    by_cases c3:f=3
    ·rw [if_pos c3]
     by_cases c4:d=0
     ·rw [if_pos (by omega)]
      by_cases c5:rd l (i:Int)=0
      ·rw [if_pos c5,if_neg (show ¬ (f=3∧d=0∧rd l (i:Int)≠0∧rd l (i:Int)≠127) from fun h=>h.2.2.1 c5)]
      ·rw [if_neg c5]
       by_cases c6:rd l (i:Int)=127
       ·rw [if_pos c6,if_neg (show ¬ (f=3∧d=0∧rd l (i:Int)≠0∧rd l (i:Int)≠127) from fun h=>h.2.2.2 c6)]
       ·rw [if_neg c6,if_pos (show (f=3∧d=0∧rd l (i:Int)≠0∧rd l (i:Int)≠127) from ⟨c3,c4,c5,c6⟩)];rfl
     ·rw [if_neg (by omega),if_neg (show ¬ (f=3∧d=0∧rd l (i:Int)≠0∧rd l (i:Int)≠127) from fun h=>c4 h.2.1)]
    ·rw [if_neg c3,if_neg (show ¬ (f=3∧d=0∧rd l (i:Int)≠0∧rd l (i:Int)≠127) from fun h=>c3 h.1)]
theorem bS_nil (l:List UInt8):(bS l).toList=([]:List UInt8)↔l=[]:=by
 constructor
 ·intro h
  cases l with
  | nil=>rfl
  | cons c l =>
   have:=congrArg List.length h
   simp [bS] at this
 ·rintro rfl;decide +kernel
theorem lenM_A {f:Int} (h:hasA f=true):2≤lenM f:=by
 unfold lenM
 rw [if_pos h]
 omega
theorem decode_g (l:List Int) (k:Nat):insn_Decode.f (k+60) l=some (decD l):=by
 have hlen:∀ f,insn_length.f (k+60) f=some (lenM f:Int):=fun f=>leO_up (f:=fun k=>insn_length.f k f) (insn_length.mono f) (length_f f) (k+59)
 have hj1:∀ (i:Nat) (op a b:Int) (nm:ByteArray) (f:Int) (m:Nat),50≤m→i≤lenM f→i≤l.length→insn_Decode.j1 m l (lenM f:Int) (i:Int) op a b 0 nm f=some (finD l f op a b i (lenM f)):=by
  intro i op a b nm f m hm h1 h2
  obtain ⟨m,rfl⟩:∃ q,m=q+1:=⟨m - 1,by omega⟩
  have:=lenM_bd f
  rw [insn_Decode.j1]
  exact decode_l0 l f op a b nm i _ this.2 h1 _ i m (by omega) (Nat.le_refl _) h2 (by omega)
 unfold insn_Decode.f decD insn_kindOf.f
 rw [show wrap64 (wrap64 (rd l 0) - 128)=opD l from rfl]
 by_cases c0:l.length=0
 ·rw [if_pos (by omega),if_pos c0];rfl
 ·rw [if_neg (by omega),if_neg c0,if_pos (by omega),Option.bind_some]
  by_cases c1:nameM (opD l)=[]
  ·rw [if_pos ((bS_nil _).2 c1),if_pos c1];rfl
  ·rw [if_neg (fun h=>c1 ((bS_nil _).1 h)),if_neg c1]
   simp only [hlen,hasA_f,hasB_f,Option.bind_some]
   by_cases cA:hasA (formM (opD l))=true
   ·have h2:=lenM_A cA
    rw [if_pos cA,if_pos cA]
    by_cases c2:l.length=1
    ·rw [if_pos (by omega),if_pos c2];rfl
    ·rw [if_neg (by omega),if_neg c2]
     have hj0:∀ lim:Int,insn_Decode.j0 (k+60) l (lenM (formM (opD l)):Int) 1 lim (opD l) 0 0 0 (bS (nameM (opD l))) (formM (opD l)) =
       some (if rd l 1≥lim then errD 20 else if hasB (formM (opD l))=true then finD l (formM (opD l)) (opD l) (wrap64 (Int.tdiv (wrap64 (rd l 1)) 8)) (Int.tmod (wrap64 (rd l 1)) 8) 2 (lenM (formM (opD l)))
        else finD l (formM (opD l)) (opD l) (wrap64 (rd l 1)) 0 2 (lenM (formM (opD l)))):=by
      intro lim
      show insn_Decode.j0 (k+59+1) _ _ _ _ _ _ _ _ _ _=_
      rw [insn_Decode.j0,if_pos (by omega),if_pos (by omega),hasB_f,Option.bind_some,show wrap64 (1+1)=((2:Nat):Int) from by simp only [wrap64];omega]
      by_cases c3:rd l 1≥lim
      ·rw [if_pos c3,if_pos c3];rfl
      ·rw [if_neg c3,if_neg c3,hj1 2 _ _ _ _ _ _ (by omega) (by omega) (by omega),hj1 2 _ _ _ _ _ _ (by omega) (by omega) (by omega)]
       by_cases cB:hasB (formM (opD l))=true
       ·rw [if_pos cB,if_pos cB]
       ·rw [if_neg cB,if_neg cB]
     by_cases cB:hasB (formM (opD l))=true
     ·rw [if_pos cB,if_pos cB,if_pos cB]
      refine (hj0 64).trans ?_
      rw [if_pos cB]
     ·rw [if_neg cB,if_neg cB,if_neg cB]
      refine (hj0 8).trans ?_
      rw [if_neg cB]
   ·rw [if_neg cA,if_neg cA]
    exact hj1 1 _ _ _ _ _ _ (by omega) (lenM_bd _).1 (by omega)
theorem decode_f (l:List Int) (hl:l.length≤140737488351232) (k:Nat):insn_Decode.f (k+60) l=some (decD l):=decode_g l k
end Go.Proofs.YtffojmgmpfjlhaaGreatDoor.Q
