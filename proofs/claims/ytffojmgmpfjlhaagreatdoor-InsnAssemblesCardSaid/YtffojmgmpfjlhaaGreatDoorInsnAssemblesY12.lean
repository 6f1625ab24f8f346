/- Parts of the proof of InsnAssembles. -/
import Derived.Test.YtffojmgmpfjlhaaGreatDoorInsnAssemblesY11
set_option maxHeartbeats 8000000
set_option maxRecDepth 100000
set_option linter.unusedVariables false
set_option linter.unusedSimpArgs false
namespace Go.Proofs.YtffojmgmpfjlhaaGreatDoor.Q
open Go.Proofs.Ix hiding rd
open Go Go.Proofs.YtffojmgmpfjlhaaGreatDoor Go.RowKit Go.Proofs.YtffojmgmpfjlhaaGreatDoorW.PrintWords
theorem rops2 {s:ByteArray} {l:L9} {i:Nat} {tx:Bool} {lb:ByteArray} (hi:i≤76) (hn:nameM (i:Int)≠[]) (h:St2 s l (i:Int) tx lb) (bad:Bool) (k:Nat) (hk:2 * s.size+40 < k) :
  ∃ r,(∀ k,rzForm.f (k+12) (i:Int)=some r)∧((r=1∧readsM (i:Int)=[])∨(r≠1∧readsM (i:Int)≠[]∧∃ (a b v:Int) (bd fr:Bool) (lb':ByteArray) (e:Nat),rzreader_operands.f (k+20) s (l.at_:Int) bad false tx lb (i:Int)=some ((i:Int),a,b,v,s,(e:Int),bad || bd,fr,tx,lb')∧e≤s.size∧Agr2 (readB (readsM (i:Int)) l) l (i:Int) a b v bd fr (if tx=true then lb' else l.label) e)):=by
 have h1:=cl_fin ⟨i,by omega⟩ hn
 unfold clB at h1
 cases hr:rzForm.f 12 (i:Int) with
 | none=>rw [hr] at h1;cases h1
 | some r =>
  rw [hr] at h1
  simp only [Bool.and_eq_true,decide_eq_true_eq] at h1
  obtain ⟨⟨hz,hp⟩,hc⟩:=h1
  have hf:∀ k,rzForm.f (k+12) (i:Int)=some r:=fun k=>leO_up (rzForm.mono _) hr k
  refine ⟨r,hf,?_⟩
  rw [ops_f,show rzForm.f (k+20) (i:Int)=some r from hf (k+8),Option.bind_some]
  generalize hst:stB (i:Int)=st at hc
  simp only [clT,List.mem_cons,List.not_mem_nil,or_false,Prod.mk.injEq] at hc
  have NE:∀ (x:Rd) (y:List Rd),x :: y≠[]:=fun _ _ h=>by cases h
  rcases hc with ⟨rfl,rfl,hq⟩ | ⟨rfl,rfl,hq⟩ | ⟨rfl,rfl,hq⟩ | ⟨rfl,rfl,hq⟩ | ⟨rfl,rfl,hq⟩ | ⟨rfl,rfl,hq⟩ | ⟨rfl,rfl,hq⟩ | ⟨rfl,rfl,hq⟩ | ⟨rfl,rfl,hq⟩ | ⟨rfl,rfl,hq⟩ | ⟨rfl,rfl,hq⟩ | ⟨rfl,rfl,hq⟩
  ·exact .inl ⟨rfl,map_rdN (m:=[]) hq⟩
  ·rw [map_rdN (m:=[.a,.b]) hq]
   exact .inr ⟨by decide,NE _ _,p2AB h bad k hk hz hp⟩
  ·rw [map_rdN (m:=[.a,.num]) hq]
   exact .inr ⟨by decide,NE _ _,p2AN3 h bad k hk hz hp⟩
  ·rw [map_rdN (m:=[.a,.num]) hq]
   exact .inr ⟨by decide,NE _ _,p2AN4 h bad k hk hz hp⟩
  ·rw [map_rdN (m:=[.a,.addr]) hq]
   exact .inr ⟨by decide,NE _ _,p2AM h bad k hk hz hp⟩
  ·rw [map_rdN (m:=[.addr,.a]) hq]
   exact .inr ⟨by decide,NE _ _,p2MA h bad k hk hz hp⟩
  ·rw [map_rdN (m:=[.a,.b,.target]) hq]
   exact .inr ⟨by decide,NE _ _,p2ABT h bad k hk hz hp⟩
  ·rw [map_rdN (m:=[.target]) hq]
   exact .inr ⟨by decide,NE _ _,p2T h bad k hk hz hp⟩
  ·rw [map_rdN (m:=[.a]) hq]
   exact .inr ⟨by decide,NE _ _,p2A h bad k hk hz hp⟩
  ·rw [map_rdN (m:=[.a,.target]) hq]
   exact .inr ⟨by decide,NE _ _,p2AT h bad k hk hz hp⟩
  ·rw [map_rdN (m:=[.num]) hq]
   exact .inr ⟨by decide,NE _ _,p2N h bad k hk hz hp⟩
  ·rw [map_rdN (m:=[.a,.mem]) hq]
   exact .inr ⟨by decide,NE _ _,p2AP h bad k hk hz hp⟩
theorem rline2 (s:ByteArray) (hs:s.size≤1000000) (tx:Bool) (i0:Nat) (hi0:i0≤s.size) (k:Nat) (hk:2 * s.size+300 < k) :
  ∃ (op a b v:Int) (bd fr:Bool) (lb':ByteArray) (e:Int),rzreader_line.f (k+20) s (i0:Int) false false tx ⟨#[]⟩=some (op,a,b,v,s,e,bd,fr,tx,lb') ∧
   (bd=true→(⟨s,i0,tx,0,0,0,0,⟨#[]⟩,false⟩:L9).instr=none)∧(bd=false→∃ l,(⟨s,i0,tx,0,0,0,0,⟨#[]⟩,false⟩:L9).instr=some l∧l.far=fr∧l.label=(if tx=true then lb' else ⟨#[]⟩)∧l.op=op∧l.a=a∧l.b=b∧(fr=false→l.imm=v)∧nameM op≠[]):=by
 obtain ⟨b0,hb0⟩:∃ x,runB isBl s i0=x:=⟨_,rfl⟩
 have l0:b0≤s.size:=by rw [← hb0];exact (runB_le isBl s i0 hi0).2
 obtain ⟨e1,he1⟩:∃ x,runB isWd s b0=x:=⟨_,rfl⟩
 have l1:e1≤s.size:=by rw [← he1];exact (runB_le isWd s b0 l0).2
 obtain ⟨b2,hb2⟩:∃ x,runB isBl s e1=x:=⟨_,rfl⟩
 have l2:b2≤s.size:=by rw [← hb2];exact (runB_le isBl s e1 l1).2
 have g0:=rbl s hs false tx ⟨#[]⟩ false i0 (k+20) hi0 (by omega)
 have g1:=rwd s hs false tx ⟨#[]⟩ false b0 (k+20) l0 (by omega)
 have g2:=rop (s.extract b0 e1) (k+20) (by omega)
 have g3:=rbl s hs false tx ⟨#[]⟩ false e1 (k+20) l1 (by omega)
 rw [hb0] at g0
 rw [he1] at g1
 rw [hb2] at g3
 have q0:(⟨s,i0,tx,0,0,0,0,⟨#[]⟩,false⟩:L9).sk=⟨s,b0,tx,0,0,0,0,⟨#[]⟩,false⟩:=by rw [← hb0];rfl
 obtain ⟨op,hop⟩:∃ x,opOf (s.extract b0 e1).data.toList=x:=⟨_,rfl⟩
 have q1:(⟨s,i0,tx,0,0,0,0,⟨#[]⟩,false⟩:L9).sk.mn=⟨s,e1,tx,op,0,0,0,⟨#[]⟩,false⟩:=by
  rw [q0]
  unfold L9.mn L9.mnS L9.mnE L9.go
  simp only
  rw [he1,hop]
 have qs:(⟨s,e1,tx,op,0,0,0,⟨#[]⟩,false⟩:L9).sk=⟨s,b2,tx,op,0,0,0,⟨#[]⟩,false⟩:=by rw [← hb2];rfl
 have qf:∀ (e:Nat) (a b v:Int) (fr:Bool) (lab:ByteArray),(⟨s,e,tx,op,a,b,v,lab,fr⟩:L9).fin=if runB isBl s e=s.size then some ⟨s,runB isBl s e,tx,op,a,b,v,lab,fr⟩ else none:=fun e a b v fr lab=>rfl
 rw [hop] at g2
 unfold L9.instr
 rw [q1]
 show ∃ (op_ a b v:Int) (bd fr:Bool) (lb':ByteArray) (e:Int),_∧(bd=true→(if op=0 then none else (match L9.part 0 (readsM op) _ with | none=>none | some l2=>l2.fin))=none)∧(bd=false→∃ l,(if op=0 then none else (match L9.part 0 (readsM op) _ with | none=>none | some l2=>l2.fin))=some l∧_)
 unfold rzreader_line.f
 rw [show rzreader_blanks.f (k+20) s (i0:Int) false false tx ⟨#[]⟩=_ from g0,Option.bind_some]
 simp only
 rw [g1,Option.bind_some]
 simp only
 rw [g2,Option.bind_some]
 by_cases h0:op=0
 ·rw [if_pos h0,if_pos h0]
  exact ⟨_,_,_,_,_,_,_,_,rfl,fun _=>rfl,fun h=>by cases h⟩
 rw [if_neg h0,if_neg h0,g3,Option.bind_some]
 simp only
 obtain ⟨i,hi,hn,hoi⟩:=opOf_named _ (by rw [hop];exact h0)
 rw [hop] at hoi
 subst hoi
 have hst:St2 s ⟨s,b2,tx,(i:Int),0,0,0,⟨#[]⟩,false⟩ (i:Int) tx ⟨#[]⟩:=⟨hs,rfl,l2,rfl,rfl,rfl,rfl,rfl,rfl,fun _=>rfl⟩
 obtain ⟨r,hf,hr⟩:=rops2 hi hn hst (false || !decide ((b2:Int) > (e1:Int))) k (by omega)
 rw [show rzForm.f (k+20) (i:Int)=some r from hf (k+8),Option.bind_some]
 have hdec:((b2:Int) == (s.size:Int))=decide (b2=s.size):=by
  by_cases h:b2=s.size
  ·rw [decide_eq_true h,h];exact beq_self_eq_true _
  ·rw [decide_eq_false h];exact beq_eq_false_iff_ne.2 (by omega)
 rcases hr with ⟨rfl,hrd⟩ | ⟨hr1,hrd,a,b,v,bd,fr,lb',e,hop2,hle,hag⟩
 ·rw [if_pos rfl,rms s false tx ⟨#[]⟩,Option.bind_some,hrd,hdec]
  simp only
  refine ⟨_,_,_,_,_,_,_,_,rfl,fun h=>?_,fun h=>?_⟩
  ·show L9.fin _=none
   rw [qf,hb2,if_neg (by intro hh;rw [decide_eq_true hh] at h;cases h)]
  ·have hh:b2=s.size:=by
    by_cases hh:b2=s.size
    ·exact hh
    ·rw [decide_eq_false hh] at h;cases h
   refine ⟨⟨s,b2,tx,(i:Int),0,0,0,⟨#[]⟩,false⟩,?_,rfl,by cases tx <;> rfl,rfl,rfl,rfl,fun _=>rfl,hn⟩
   show L9.fin _=some _
   rw [qf,hb2,if_pos hh]
 ·rw [if_neg hr1,rms s false tx ⟨#[]⟩,Option.bind_some]
  simp only
  rw [show rzreader_operands.f (k+20) s (b2:Int) (false || !decide ((b2:Int) > (e1:Int))) false tx ⟨#[]⟩ (i:Int)=_ from hop2,Option.bind_some]
  simp only
  have g4:=rbl s hs fr tx lb' ((false || !decide ((b2:Int) > (e1:Int))) || bd) e (k+20) hle (by omega)
  rw [g4,Option.bind_some]
  simp only
  rw [rms s fr tx lb',Option.bind_some]
  have hdec2:(((runB isBl s e:Nat):Int) == (s.size:Int))=decide (runB isBl s e=s.size):=by
   by_cases h:runB isBl s e=s.size
   ·rw [decide_eq_true h,h];exact beq_self_eq_true _
   ·rw [decide_eq_false h];exact beq_eq_false_iff_ne.2 (by omega)
  have hsp:(⟨s,e1,tx,(i:Int),0,0,0,⟨#[]⟩,false⟩:L9).sp=decide (b2 > e1):=by
   show decide (e1 < runB isBl s e1)=_
   rw [hb2]
  have hsp2:decide ((b2:Int) > (e1:Int))=decide (b2 > e1):=decide_eq_decide.2 (by omega)
  rw [hdec2,hsp2]
  simp only
  have hpart:L9.part 0 (readsM (i:Int)) ⟨s,e1,tx,(i:Int),0,0,0,⟨#[]⟩,false⟩=if decide (b2 > e1)=true then readB (readsM (i:Int)) ⟨s,b2,tx,(i:Int),0,0,0,⟨#[]⟩,false⟩ else none:=by
   cases hq:readsM (i:Int) with
   | nil=>exact absurd hq hrd
   | cons x ys =>
    unfold L9.part readB
    simp only
    rw [hsp,qs]
    congr 1
    cases L9.run x ⟨s,b2,tx,(i:Int),0,0,0,⟨#[]⟩,false⟩ <;> rfl
  rw [hpart]
  refine ⟨_,_,_,_,_,_,_,_,rfl,fun h=>?_,fun h=>?_⟩
  ·rcases bool_di2 (decide (b2 > e1)) with c | c
   ·rw [c,if_neg (by decide)]
   ·rw [c,if_pos rfl]
    rw [c] at h
    rcases bool_di2 bd with d | d
    ·rw [hag.1 d]
     show L9.fin _=none
     rw [qf,if_neg]
     intro hh
     rw [decide_eq_true hh,d] at h
     cases h
    ·rw [hag.2 d]
  ·rcases bool_di2 (decide (b2 > e1)) with c | c
   ·rw [c] at h;simp at h
   ·rw [c,if_pos rfl]
    rw [c] at h
    rcases bool_di2 bd with d | d
    ·rw [d] at h
     rw [hag.1 d]
     have hh:runB isBl s e=s.size:=by
      by_cases hh:runB isBl s e=s.size
      ·exact hh
      ·rw [decide_eq_false hh] at h;cases h
     refine ⟨⟨s,runB isBl s e,tx,(i:Int),a,b,if fr=true then 0 else v,if tx=true then lb' else ⟨#[]⟩,fr⟩,?_,rfl,rfl,rfl,rfl,rfl,fun hfr=>?_,hn⟩
     ·show L9.fin _=some _
      rw [qf,if_pos hh]
     ·subst hfr;rfl
    ·rw [d] at h;simp at h
end Go.Proofs.YtffojmgmpfjlhaaGreatDoor.Q
namespace Go.Proofs.YtffojmgmpfjlhaaGreatDoor.Q
open Go.Proofs.Ix hiding rd
open Go Go.Proofs.YtffojmgmpfjlhaaGreatDoor Go.RowKit Go.Proofs.YtffojmgmpfjlhaaGreatDoorW.PrintWords Go.Proofs.YtffojmgmpfjlhaaGreatDoorW.PrintLast Go.Proofs.YtffojmgmpfjlhaaGreatDoorW.PrintMore
theorem bas_ {α β:Type} {x:Option α} {f:α→Option β} {b:β} (h:x.bind f=some b):∃ a,Aside0 (x=some a)∧f a=some b:=by
 obtain ⟨a,h1,h2⟩:=Option.bind_eq_some_iff.1 h
 exact ⟨a,⟨h1⟩,h2⟩
abbrev c10 (l:ByteArray) (f i:Bool) (op a b v:Int) (t:ByteArray) (far bad:Bool):Array Value:=#[.string l,.bool f,.bool i,.int .i64 op,.int .i64 a,.int .i64 b,.int .i64 v,.string t,.bool far,.bool bad]
structure RowSt (w0 u W:World) (o x g:Nat) (cs:Array Value) (s:ByteArray) (i:Int) (b f t:Bool) (l:ByteArray):Prop where
 hb:Below w0.heap.size w0 W
 hk:KeepBut u W g none
 bo:W.heap[o]?=some (.cells #[.string ⟨#[]⟩,.bool false,.bool false,.int .i64 0,.int .i64 0,.int .i64 0,.int .i64 0,.string ⟨#[]⟩,.bool false,.bool false] 132 (0,0))
 bx:W.heap[x]?=some (.cells cs 132 (0,0))
 hi:IsS117 w0 W g s i b f t l
 nx:o≠x
 no:o≠g
 ng:x≠g
 go:u.heap.size≤o
 gx:u.heap.size≤x
 le:w0.heap.size≤u.heap.size
section
variable {w0 u W W':World} {o x g:Nat} {cs cs':Array Value} {s s' l l':ByteArray} {i i':Int} {b f t b' f' t':Bool}
theorem RowSt.meth (h:RowSt w0 u W o x g cs s i b f t l) (hi:IsS117 w0 W' g s' i' b' f' t' l') (hb:Below w0.heap.size w0 W') (hk:KeepBut W W' g none):RowSt w0 u W' o x g cs s' i' b' f' t' l' :=
 ⟨hb,h.hk.trans hk (.inl rfl),hk.blk h.bo h.no (by simp),hk.blk h.bx h.ng (by simp),hi,h.nx,h.no,h.ng,h.go,h.gx,h.le⟩
theorem RowSt.put (h:RowSt w0 u W o x g cs s i b f t l) (j:Nat) (v:Value) (e:cs.setIfInBounds j v=cs'):RowSt w0 u (W.setCell ⟨x,j,none⟩ v) o x g cs' s i b f t l :=
 ⟨below_set h.hb (Nat.le_trans h.le h.gx),keep_far h.hk h.gx v,blk_far h.bo (by exact h.nx) v,blk_put h.bx j v e,IsS117.far h.hi (by exact h.ng.symm) v,h.nx,h.no,h.ng,h.go,h.gx,h.le⟩
theorem RowSt.drewN (h:RowSt w0 u W o x g cs s i b f t l) (n:Nat):RowSt w0 u (W.drewN n) o x g cs s i b f t l :=
 ⟨pw_below_drewN h.hb n,keep_drewN h.hk n,blk_drewN h.bo n,blk_drewN h.bx n,h.hi.drewN n,h.nx,h.no,h.ng,h.go,h.gx,h.le⟩
theorem RowSt.setAt (h:RowSt w0 u W o x g cs s i b f t l) (j:Int):RowSt w0 u (W.setCell ⟨g,1,none⟩ (.int .i64 j)) o x g cs s j b f t l :=
 ⟨below_set h.hb (IsS117.ge h.hi),KeepBut.set_ h.hk 1 _,blk_far h.bo (by exact h.no) _,blk_far h.bx (by exact h.ng) _,IsS117.set_1 h.hi j,h.nx,h.no,h.ng,h.go,h.gx,h.le⟩
theorem RowSt.fx (h:RowSt w0 u W o x g cs s i b f t l) (j:Nat):W.frozen? ⟨x,j,none⟩=false:=blk_frozen h.bx j
theorem RowSt.fo (h:RowSt w0 u W o x g cs s i b f t l) (j:Nat):W.frozen? ⟨o,j,none⟩=false:=blk_frozen h.bo j
theorem RowSt.cg (h:RowSt w0 u W o x g cs s i b f t l):W.cell? ⟨g,0,none⟩=some (.string s)∧W.cell? ⟨g,1,none⟩=some (.int .i64 i)∧W.cell? ⟨g,2,none⟩=some (.bool b)∧W.cell? ⟨g,3,none⟩=some (.bool f)∧W.cell? ⟨g,5,none⟩=some (.string l) :=
 ⟨(blk_cell h.hi.1 0).trans rfl,(blk_cell h.hi.1 1).trans rfl,(blk_cell h.hi.1 2).trans rfl,(blk_cell h.hi.1 3).trans rfl,(blk_cell h.hi.1 5).trans rfl⟩
theorem RowSt.drawn (h:RowSt w0 u W o x g cs s i b f t l) (hd:Drawn0 W W'):RowSt w0 u W' o x g cs s i b f t l:=by
 obtain ⟨n,rfl⟩:=hd
 exact h.drewN n
end
theorem c10_at {W:World} {x:Nat} {l t:ByteArray} {f i far bad:Bool} {op a b v:Int} (h:W.heap[x]?=some (.cells (c10 l f i op a b v t far bad) 132 (0,0))):W.cell? ⟨x,0,none⟩=some (.string l)∧W.cell? ⟨x,1,none⟩=some (.bool f)∧W.cell? ⟨x,2,none⟩=some (.bool i)∧W.cell? ⟨x,3,none⟩=some (.int .i64 op)∧W.cell? ⟨x,4,none⟩=some (.int .i64 a)∧W.cell? ⟨x,5,none⟩=some (.int .i64 b)∧W.cell? ⟨x,6,none⟩=some (.int .i64 v)∧W.cell? ⟨x,7,none⟩=some (.string t)∧W.cell? ⟨x,8,none⟩=some (.bool far)∧W.cell? ⟨x,9,none⟩=some (.bool bad) :=
 ⟨(blk_cell h 0).trans rfl,(blk_cell h 1).trans rfl,(blk_cell h 2).trans rfl,(blk_cell h 3).trans rfl,(blk_cell h 4).trans rfl,(blk_cell h 5).trans rfl,(blk_cell h 6).trans rfl,(blk_cell h 7).trans rfl,(blk_cell h 8).trans rfl,(blk_cell h 9).trans rfl⟩
theorem RowSt.fin {w0 u W:World} {o x g:Nat} {cs:Array Value} {s l:ByteArray} {i:Int} {b f t:Bool} (h:RowSt w0 u W o x g cs s i b f t l) (v0 v1 v2 v3 v4 v5 v6 v7 v8 v9:Value) :
  ((((((((((W.setCell ⟨o,0,none⟩ v0).setCell ⟨o,1,none⟩ v1).setCell ⟨o,2,none⟩ v2).setCell ⟨o,3,none⟩ v3).setCell ⟨o,4,none⟩ v4).setCell ⟨o,5,none⟩ v5).setCell ⟨o,6,none⟩ v6).setCell ⟨o,7,none⟩ v7).setCell ⟨o,8,none⟩ v8).setCell ⟨o,9,none⟩ v9).heap[o]?=some (Obj.cells #[v0,v1,v2,v3,v4,v5,v6,v7,v8,v9] 132 (0,0))∧Below w0.heap.size w0 ((((((((((W.setCell ⟨o,0,none⟩ v0).setCell ⟨o,1,none⟩ v1).setCell ⟨o,2,none⟩ v2).setCell ⟨o,3,none⟩ v3).setCell ⟨o,4,none⟩ v4).setCell ⟨o,5,none⟩ v5).setCell ⟨o,6,none⟩ v6).setCell ⟨o,7,none⟩ v7).setCell ⟨o,8,none⟩ v8).setCell ⟨o,9,none⟩ v9)∧KeepBut u ((((((((((W.setCell ⟨o,0,none⟩ v0).setCell ⟨o,1,none⟩ v1).setCell ⟨o,2,none⟩ v2).setCell ⟨o,3,none⟩ v3).setCell ⟨o,4,none⟩ v4).setCell ⟨o,5,none⟩ v5).setCell ⟨o,6,none⟩ v6).setCell ⟨o,7,none⟩ v7).setCell ⟨o,8,none⟩ v8).setCell ⟨o,9,none⟩ v9) g none∧IsS117 w0 ((((((((((W.setCell ⟨o,0,none⟩ v0).setCell ⟨o,1,none⟩ v1).setCell ⟨o,2,none⟩ v2).setCell ⟨o,3,none⟩ v3).setCell ⟨o,4,none⟩ v4).setCell ⟨o,5,none⟩ v5).setCell ⟨o,6,none⟩ v6).setCell ⟨o,7,none⟩ v7).setCell ⟨o,8,none⟩ v8).setCell ⟨o,9,none⟩ v9) g s i b f t l:=by
 refine ⟨?_,?_,?_,?_⟩
 ·have h1:=blk_set (blk_set (blk_set (blk_set (blk_set (blk_set (blk_set (blk_set (blk_set (blk_set h.bo 0 v0) 1 v1) 2 v2) 3 v3) 4 v4) 5 v5) 6 v6) 7 v7) 8 v8) 9 v9
  simp only [List.setIfInBounds_toArray,List.set_cons_zero,List.set_cons_succ] at h1
  exact h1
 ·have hg:=Nat.le_trans h.le h.go
  exact below_set (below_set (below_set (below_set (below_set (below_set (below_set (below_set (below_set (below_set h.hb hg) hg) hg) hg) hg) hg) hg) hg) hg) hg
 ·have hg:=h.go
  exact keep_far (keep_far (keep_far (keep_far (keep_far (keep_far (keep_far (keep_far (keep_far (keep_far h.hk hg _) hg _) hg _) hg _) hg _) hg _) hg _) hg _) hg _) hg _
 ·have hg:g≠o:=h.no.symm
  exact IsS117.far (IsS117.far (IsS117.far (IsS117.far (IsS117.far (IsS117.far (IsS117.far (IsS117.far (IsS117.far (IsS117.far h.hi hg _) hg _) hg _) hg _) hg _) hg _) hg _) hg _) hg _) hg _
def rzdirective.f (k:Nat) (s0_0:ByteArray) (s0_1:Int) (s0_2:Bool) (s0_3:Bool) (s0_4:Bool) (s0_5:ByteArray):Option (ByteArray × Bool × Bool × Int × Int × Int × Int × ByteArray × Bool × Bool × ByteArray × Int × Bool × Bool × Bool × ByteArray):=(rzreader_word.f k s0_0 s0_1 s0_2 s0_3 s0_4 s0_5).bind fun bt833=>((rzreader_must.f bt833.2.1 bt833.2.2.1 bt833.2.2.2.1 bt833.2.2.2.2.1 bt833.2.2.2.2.2.1 bt833.2.2.2.2.2.2 (bt833.1.toList == ([102,117,110,99]:List UInt8))).bind fun bt840=>((rzreader_blanks.f k bt840.1 bt840.2.1 bt840.2.2.1 bt840.2.2.2.1 bt840.2.2.2.2.1 bt840.2.2.2.2.2).bind fun bt846=>((rzreader_must.f bt846.1 bt846.2.1 bt846.2.2.1 bt846.2.2.2.1 bt846.2.2.2.2.1 bt846.2.2.2.2.2 (decide (bt846.2.1 > bt840.2.1))).bind fun bt852=>((rzreader_word.f k bt852.1 bt852.2.1 bt852.2.2.1 bt852.2.2.2.1 bt852.2.2.2.2.1 bt852.2.2.2.2.2).bind fun bt858=>((rzreader_blanks.f k bt858.2.1 bt858.2.2.1 bt858.2.2.2.1 bt858.2.2.2.2.1 bt858.2.2.2.2.2.1 bt858.2.2.2.2.2.2).bind fun bt865=>(if bt865.2.2.1=true then (some (bt858.1,true,false,0,0,0,0,(⟨#[]⟩:ByteArray),false,true,bt865.1,bt865.2.1,bt865.2.2.1,bt865.2.2.2.1,bt865.2.2.2.2.1,bt865.2.2.2.2.2)) else (if bt865.2.1 < (bt865.1.size:Int) then (some (bt858.1,true,false,0,0,0,0,(⟨#[]⟩:ByteArray),false,true,bt865.1,bt865.2.1,bt865.2.2.1,bt865.2.2.2.1,bt865.2.2.2.2.1,bt865.2.2.2.2.2)) else ((rzIsName.f k bt858.1).bind fun t871=>(some (bt858.1,true,false,0,0,0,0,(⟨#[]⟩:ByteArray),false,!t871,bt865.1,bt865.2.1,bt865.2.2.1,bt865.2.2.2.1,bt865.2.2.2.2.1,bt865.2.2.2.2.2))))))))))
abbrev RowT:=ByteArray × Bool × Bool × Int × Int × Int × Int × ByteArray × Bool × Bool
def rrest (k:Nat) (label:ByteArray) (bad:Bool) (s:ByteArray) (i:Int) (b f t:Bool) (lb:ByteArray):Option RowT :=
 if i=(s.size:Int) then some (label,false,false,0,0,0,0,⟨#[]⟩,false,bad)
 else (rzreader_line.f k s i b f t lb).bind fun x=>some (label,false,true,x.1,x.2.1,x.2.2.1,x.2.2.2.1,x.2.2.2.2.2.2.2.2.2,x.2.2.2.2.2.2.2.1,bad || x.2.2.2.2.2.2.1)
def rzrow.f (k:Nat) (s:ByteArray):Option RowT :=
 (rzreader_blanks.f k s 0 false false true ⟨#[]⟩).bind fun b1=>(rzreader_next.f b1.1 b1.2.1 b1.2.2.1 b1.2.2.2.1 b1.2.2.2.2.1 b1.2.2.2.2.2 46).bind fun n1 =>
  if n1.1=true then (rzdirective.f k n1.2.1 n1.2.2.1 n1.2.2.2.1 n1.2.2.2.2.1 n1.2.2.2.2.2.1 n1.2.2.2.2.2.2).bind fun d=>some (d.1,d.2.1,d.2.2.1,d.2.2.2.1,d.2.2.2.2.1,d.2.2.2.2.2.1,d.2.2.2.2.2.2.1,d.2.2.2.2.2.2.2.1,d.2.2.2.2.2.2.2.2.1,d.2.2.2.2.2.2.2.2.2.1)
  else (rzreader_word.f k n1.2.1 n1.2.2.1 n1.2.2.2.1 n1.2.2.2.2.1 n1.2.2.2.2.2.1 n1.2.2.2.2.2.2).bind fun w=>(rzreader_blanks.f k w.2.1 w.2.2.1 w.2.2.2.1 w.2.2.2.2.1 w.2.2.2.2.2.1 w.2.2.2.2.2.2).bind fun b2 =>
   (rzreader_next.f b2.1 b2.2.1 b2.2.2.1 b2.2.2.2.1 b2.2.2.2.2.1 b2.2.2.2.2.2 58).bind fun n2 =>
    if n2.1=true then (rzIsName.f k w.1).bind fun nm=>(rzreader_blanks.f k n2.2.1 n2.2.2.1 n2.2.2.2.1 n2.2.2.2.2.1 n2.2.2.2.2.2.1 n2.2.2.2.2.2.2).bind fun b3=>rrest k w.1 (!nm) b3.1 b3.2.1 b3.2.2.1 b3.2.2.2.1 b3.2.2.2.2.1 b3.2.2.2.2.2
    else rrest k ⟨#[]⟩ false n2.2.1 n1.2.2.1 n2.2.2.2.1 n2.2.2.2.2.1 n2.2.2.2.2.2.1 n2.2.2.2.2.2.2
theorem rzdirective.calls (k:Nat) (g:Nat) (s0_0:ByteArray) (s0_1:Int) (s0_2 s0_3 s0_4:Bool) (s0_5 r1:ByteArray) (r2 r3:Bool) (r4 r5 r6 r7:Int) (r8:ByteArray) (r9 r10:Bool) (r11:ByteArray) (r12:Int) (r13 r14 r15:Bool) (r16:ByteArray) (w0 w:World) (hI:IsS117 w0 w g s0_0 s0_1 s0_2 s0_3 s0_4 s0_5) (hB:Below w0.heap.size w0 w) (h:rzdirective.f k s0_0 s0_1 s0_2 s0_3 s0_4 s0_5=some (r1,r2,r3,r4,r5,r6,r7,r8,r9,r10,r11,r12,r13,r14,r15,r16)) :
  Calls Tryz.prog 116 #[.pointer (some ⟨g,0,none⟩)] w fun e w'=>e=.returned (.agg (c10 r1 r2 r3 r4 r5 r6 r7 r8 r9 r10))∧IsS117 w0 w' g r11 r12 r13 r14 r15 r16∧Below w0.heap.size w0 w'∧KeepBut w w' g none:=by
 have hu132:=Tryz.underlying132
 unfold rzdirective.f at h
 obtain ⟨⟨a0,a1,a2,a3,a4,a5,a6⟩,A1,h⟩:=bas_ h
 dsimp only at h
 obtain ⟨⟨b1,b2,b3,b4,b5,b6⟩,A2,h⟩:=bas_ h
 dsimp only at h
 obtain ⟨⟨c1,c2,c3,c4,c5,c6⟩,A3,h⟩:=bas_ h
 dsimp only at h
 obtain ⟨⟨d1,d2,d3,d4,d5,d6⟩,A4,h⟩:=bas_ h
 dsimp only at h
 obtain ⟨⟨e0,e1,e2,e3,e4,e5,e6⟩,A5,h⟩:=bas_ h
 dsimp only at h
 obtain ⟨⟨f1,f2,f3,f4,f5,f6⟩,A6,h⟩:=bas_ h
 dsimp only at h
 have H:=Aside0.mk h
 clear h
 go_enter Tryz.func116,Tryz.ntmps116
 go_upto_region 2 with fail
 obtain ⟨o,ho⟩:∃ o,w.heap.size=o:=⟨_,rfl⟩
 obtain ⟨x,hx⟩:∃ x,w.heap.size+1=x:=⟨_,rfl⟩
 obtain ⟨W,hW⟩:∃ W,(w.alloc (.cells #[.string ⟨#[]⟩,.bool false,.bool false,.int .i64 0,.int .i64 0,.int .i64 0,.int .i64 0,.string ⟨#[]⟩,.bool false,.bool false] 132)).alloc (.cells #[.string ⟨#[]⟩,.bool false,.bool false,.int .i64 0,.int .i64 0,.int .i64 0,.int .i64 0,.string ⟨#[]⟩,.bool false,.bool false] 132)=W:=⟨_,rfl⟩
 have HS:Aside0 (RowSt w0 w W o x g (c10 ⟨#[]⟩ false false 0 0 0 0 ⟨#[]⟩ false false) s0_0 s0_1 s0_2 s0_3 s0_4 s0_5):=by
  have e0:=blk_new w (.cells #[.string ⟨#[]⟩,.bool false,.bool false,.int .i64 0,.int .i64 0,.int .i64 0,.int .i64 0,.string ⟨#[]⟩,.bool false,.bool false] 132)
  have e1:=blk_new (w.alloc (.cells #[.string ⟨#[]⟩,.bool false,.bool false,.int .i64 0,.int .i64 0,.int .i64 0,.int .i64 0,.string ⟨#[]⟩,.bool false,.bool false] 132)) (.cells #[.string ⟨#[]⟩,.bool false,.bool false,.int .i64 0,.int .i64 0,.int .i64 0,.int .i64 0,.string ⟨#[]⟩,.bool false,.bool false] 132)
  have hgl:=IsS117.lt hI
  have hle:=hB.size
  rw [World.size_alloc,hx] at e1
  rw [ho] at e0
  refine ⟨by rw [← hW];exact below_alloc (below_alloc hB _) _,by rw [← hW];exact keep_alloc (keep_alloc (KeepBut.refl w g none) _) _,by rw [← hW];exact blk_alloc e0 _,by rw [← hW];exact e1,by rw [← hW];exact (hI.alloc _).alloc _,by omega,by omega,by omega,by omega,by omega,hle⟩
 try simp only [hx]
 try simp only [ho]
 rw [hW]
 clear hW
 go_upto_region 3 with (first | (go_at_call 106;refine (rzreader_word.calls (hI:=HS.out.hi) (hB:=HS.out.hb) (h:=A1.out)).mono ?_;rintro e w9 ⟨rfl,hi,hb,hk⟩;replace HS:=Aside0.mk (HS.out.meth hi hb hk);have hfx:=HS.out.fx;clear hi hb hk) | (go_at_call 107;refine (rzreader_must.calls (hI:=HS.out.hi) (hB:=HS.out.hb) (h:=A2.out)).mono ?_;rintro e w9 ⟨rfl,hi,hb,hk⟩;replace HS:=Aside0.mk (HS.out.meth hi hb hk);have hfx:=HS.out.fx;clear hi hb hk))
 have hcg:=HS.out.cg.2.1
 go_upto_region 5 with (first | (go_at_call 104;refine (rzreader_blanks.calls (hI:=HS.out.hi) (hB:=HS.out.hb) (h:=A3.out)).mono ?_;rintro e w9 ⟨rfl,hi,hb,hk⟩;replace HS:=Aside0.mk (HS.out.meth hi hb hk);have hfx:=HS.out.fx;clear hi hb hk))
 clear hcg
 have hcg:=HS.out.cg.2.1
 go_upto_region 6 with (first | (go_at_call 107;refine (rzreader_must.calls (hI:=HS.out.hi) (hB:=HS.out.hb) (h:=A4.out)).mono ?_;rintro e w9 ⟨rfl,hi,hb,hk⟩;replace HS:=Aside0.mk (HS.out.meth hi hb hk);have hfx:=HS.out.fx;clear hi hb hk))
 clear hcg
 go_upto_region 7 with (first | (go_at_call 106;refine (rzreader_word.calls (hI:=HS.out.hi) (hB:=HS.out.hb) (h:=A5.out)).mono ?_;rintro e w9 ⟨rfl,hi,hb,hk⟩;replace HS:=Aside0.mk (HS.out.meth hi hb hk);have hfx:=HS.out.fx;clear hi hb hk;have hx0:=(c10_at HS.out.bx).1;have hx1:=(c10_at HS.out.bx).2.1))
 have hS:=HS.out.put 0 (.string e0) (cs':=c10 e0 false false 0 0 0 0 ⟨#[]⟩ false false) rfl
 replace HS:=Aside0.mk hS
 clear hS
 generalize World.setCell _ _ _=W4 at HS ⊢
 have hfx:=HS.out.fx
 have hx1:=(c10_at HS.out.bx).2.1
 go_upto_region 8 with fail
 have hS:=HS.out.put 1 (.bool true) (cs':=c10 e0 true false 0 0 0 0 ⟨#[]⟩ false false) rfl
 replace HS:=Aside0.mk hS
 clear hS
 generalize World.setCell _ _ _=W5 at HS ⊢
 go_upto_region 9 with (first | (go_at_call 104;refine (rzreader_blanks.calls (hI:=HS.out.hi) (hB:=HS.out.hb) (h:=A6.out)).mono ?_;rintro e w9 ⟨rfl,hi,hb,hk⟩;replace HS:=Aside0.mk (HS.out.meth hi hb hk);have hfx:=HS.out.fx;clear hi hb hk))
 have h:=H.out
 clear H A1 A2 A3 A4 A5 A6
 obtain ⟨W6,hW6⟩:∃ W6,w9=W6:=⟨_,rfl⟩
 rw [hW6] at HS hfx ⊢
 clear hW6
 have hD:RowSt w0 w W6.drew o x g (c10 e0 true false 0 0 0 0 ⟨#[]⟩ false false) f1 f2 f3 f4 f5 f6:=HS.out.drewN 1
 obtain ⟨q0,q1,q2,q3,q5⟩:=hD.cg
 have p0:W6.drew.cell? ⟨x,0,none⟩=some (.string e0):=(c10_at hD.bx).1
 have p9:W6.drew.cell? ⟨x,9,none⟩=some (.bool false):=(c10_at hD.bx).2.2.2.2.2.2.2.2.2
 have hfx:=hD.fx
 have hD:=Aside0.mk hD
 rename_i hD'
 clear hD' HS
 have hfin:∀ (bad:Bool) (W':World),RowSt w0 w W' o x g (c10 e0 true false 0 0 0 0 ⟨#[]⟩ false false) f1 f2 f3 f4 f5 f6→RowSt w0 w (W'.setCell ⟨x,9,none⟩ (.bool bad)) o x g (c10 e0 true false 0 0 0 0 ⟨#[]⟩ false bad) f1 f2 f3 f4 f5 f6:=fun bad W' hr=>hr.put 9 _ rfl
 cases f3 with
 | true =>
  rw [if_pos rfl] at h
  simp only [Option.some.injEq,Prod.mk.injEq] at h
  obtain ⟨rfl,rfl,rfl,rfl,rfl,rfl,rfl,rfl,rfl,rfl,rfl,rfl,rfl,rfl,rfl,rfl⟩:=h
  refine start_ (n:=24) (S:=fun w'=>w'.cell? ⟨g,0,none⟩=some (.string f1)∧w'.cell? ⟨g,1,none⟩=some (.int .i64 f2)∧w'.cell? ⟨g,2,none⟩=some (.bool true)∧w'.cell? ⟨x,0,none⟩=some (.string e0)) (ds:=[23]) #[zF,zF,zF,zF,zF,zF,zF,zF,zF,zF,zF,zF,zF,zF,zF,zF,zF,zF,zF,zF,zF,zF,zF,zF] (by kernel_rfl) rfl rfl ⟨q0,q1,q2,p0⟩ (fun hHeld=>?_)
  generalize W6.drew=Wd at hD hfx q0 q1 q2 q3 q5 p0 p9 hHeld ⊢
  refine pqr 0 24 ?_;refine pqr 1 24 ?_;refine pqr 2 24 ?_;refine tqr4 3 24 hHeld ?_;refine pqr 4 24 ?_;refine pqu 5 24 ?_;refine pqu 6 24 ?_;refine pqu 7 24 ?_;refine pqu 8 24 ?_;refine pqu 9 24 ?_;refine pqu 10 24 ?_;refine pqu 11 24 ?_;refine pqu 12 24 ?_;refine pqu 13 24 ?_;refine pqu 14 24 ?_;refine pqr 15 24 ?_;refine pqr 16 24 ?_;refine pqu 17 24 ?_;refine pqu 18 24 ?_;refine pqu 19 24 ?_;refine pqu 20 24 ?_;refine pqr 21 24 ?_;refine pqr 22 24 ?_
  refine last_ (i:=23) (N:=none) (fl 24 24) rfl rfl (by kernel_rfl) (by decide) (fun K hK=>?_)
  refine skip_ (w1:=?_) (by rfl) rfl ?_ ?_
  rotate_left
  ·go_simp
   rfl
  refine hK.out _ _ ?_
  clear hK K
  refine done_ (by kernel_rfl) ?_
  have HS:=Aside0.mk (hfin (true) _ hD.out)
  generalize World.setCell _ _ _=W7 at HS ⊢
  have hfo:=HS.out.fo
  obtain ⟨z0,z1,z2,z3,z4,z5,z6,z7,z8,z9⟩:=c10_at HS.out.bo
  obtain ⟨p0,p1,p2,p3,p4,p5,p6,p7,p8,p9⟩:=c10_at HS.out.bx
  go_wp2
  obtain ⟨y1,y2,y3,y4⟩:=HS.out.fin (.string e0) (.bool true) (.bool false) (.int .i64 0) (.int .i64 0) (.int .i64 0) (.int .i64 0) (.string ⟨#[]⟩) (.bool false) (.bool (true))
  refine bodyPost_ret (results_cell_row rfl _ _ o 132 _ (0,0) _ rfl y1 Tryz.underlying132 rfl (by kernel_rfl)) rfl ?_
  exact ⟨rfl,y4,y2,y3⟩
 | false =>
  rw [if_neg (by decide)] at h
  by_cases c:f2 < (f1.size:Int)
  ·rw [if_pos c] at h
   simp only [Option.some.injEq,Prod.mk.injEq] at h
   obtain ⟨rfl,rfl,rfl,rfl,rfl,rfl,rfl,rfl,rfl,rfl,rfl,rfl,rfl,rfl,rfl,rfl⟩:=h
   have c0:decide (f2 < (f1.size:Int))=true:=decide_eq_true c
   refine start_ (n:=24) (S:=fun w'=>w'.cell? ⟨g,0,none⟩=some (.string f1)∧w'.cell? ⟨g,1,none⟩=some (.int .i64 f2)∧w'.cell? ⟨g,2,none⟩=some (.bool false)∧w'.cell? ⟨x,0,none⟩=some (.string e0)) (ds:=[23]) #[zF,zF,zF,zF,zF,zF,zF,zF,zF,zF,zF,zF,zF,zF,zF,zF,zF,zF,zF,zF,zF,zF,zF,zF] (by kernel_rfl) rfl rfl ⟨q0,q1,q2,p0⟩ (fun hHeld=>?_)
   generalize W6.drew=Wd at hD hfx q0 q1 q2 q3 q5 p0 p9 hHeld ⊢
   refine pqr 0 24 ?_;refine pqr 1 24 ?_;refine pqr 2 24 ?_;refine tqr4 3 24 hHeld ?_;refine pqr 4 24 ?_;refine pqr 5 24 ?_;refine pqr 6 24 ?_;refine pqr 7 24 ?_;refine pbr 9 24 767 ?_;refine pbr 10 24 1791 ?_;refine pbr 11 24 3839 ?_;refine tbr4 8 24 4095 hHeld ?_;refine tqr4 12 24 hHeld ?_;refine pqr 13 24 ?_;refine pqr 14 24 ?_;refine pqr 15 24 ?_;refine pqr 16 24 ?_;refine pqu 17 24 ?_;refine pqu 18 24 ?_;refine pqu 19 24 ?_;refine pqu 20 24 ?_;refine pqr 21 24 ?_;refine pqr 22 24 ?_
   refine last_ (i:=23) (N:=none) (fl 24 24) rfl rfl (by kernel_rfl) (by decide) (fun K hK=>?_)
   refine skip_ (w1:=?_) (by rfl) rfl ?_ ?_
   rotate_left
   ·go_simp
    rfl
   refine hK.out _ _ ?_
   clear hK K
   refine done_ (by kernel_rfl) ?_
   have HS:=Aside0.mk (hfin (true) _ hD.out)
   generalize World.setCell _ _ _=W7 at HS ⊢
   have hfo:=HS.out.fo
   obtain ⟨z0,z1,z2,z3,z4,z5,z6,z7,z8,z9⟩:=c10_at HS.out.bo
   obtain ⟨p0,p1,p2,p3,p4,p5,p6,p7,p8,p9⟩:=c10_at HS.out.bx
   go_wp2
   obtain ⟨y1,y2,y3,y4⟩:=HS.out.fin (.string e0) (.bool true) (.bool false) (.int .i64 0) (.int .i64 0) (.int .i64 0) (.int .i64 0) (.string ⟨#[]⟩) (.bool false) (.bool (true))
   refine bodyPost_ret (results_cell_row rfl _ _ o 132 _ (0,0) _ rfl y1 Tryz.underlying132 rfl (by kernel_rfl)) rfl ?_
   exact ⟨rfl,y4,y2,y3⟩
  ·rw [if_neg c] at h
   obtain ⟨nm,A7,h⟩:=bas_ h
   simp only [Option.some.injEq,Prod.mk.injEq] at h
   obtain ⟨rfl,rfl,rfl,rfl,rfl,rfl,rfl,rfl,rfl,rfl,rfl,rfl,rfl,rfl,rfl,rfl⟩:=h
   have c0:decide (f2 < (f1.size:Int))=false:=decide_eq_false c
   refine start_ (n:=24) (S:=fun w'=>w'.cell? ⟨g,0,none⟩=some (.string f1)∧w'.cell? ⟨g,1,none⟩=some (.int .i64 f2)∧w'.cell? ⟨g,2,none⟩=some (.bool false)∧w'.cell? ⟨x,0,none⟩=some (.string e0)) (ds:=[23]) #[zF,zF,zF,zF,zF,zF,zF,zF,zF,zF,zF,zF,zF,zF,zF,zF,zF,zF,zF,zF,zF,zF,zF,zF] (by kernel_rfl) rfl rfl ⟨q0,q1,q2,p0⟩ (fun hHeld=>?_)
   generalize W6.drew=Wd at hD hfx q0 q1 q2 q3 q5 p0 p9 hHeld ⊢
   refine pqr 0 24 ?_;refine pqr 1 24 ?_;refine pqr 2 24 ?_;refine tqr4 3 24 hHeld ?_;refine pqr 4 24 ?_;refine pqr 5 24 ?_;refine pqr 6 24 ?_;refine pqr 7 24 ?_;refine pbr 9 24 767 ?_;refine pbr 10 24 1791 ?_;refine pbr 11 24 3839 ?_;refine tbr4 8 24 4095 hHeld ?_;refine tqr4 12 24 hHeld ?_;refine pqr 13 24 ?_;refine pqr 14 24 ?_;refine pqr 15 24 ?_;refine pqr 16 24 ?_;refine pqr 17 24 ?_;refine tqr4 18 24 hHeld ?_
   refine one_ (i:=19) (N:=some 49) (fl 24 20) rfl rfl (by kernel_rfl) (by decide) (fun K hK=>?_)
   refine goes_ Tryz.func117 (by kernel_rfl) rfl #[.string e0] (by rfl) rfl rfl (by simp only [List.map_toArray,List.map_cons,List.map_nil];rfl) ?_
   with_reducible refine (rzIsName.calls k e0 nm _ A7.out).mono ?_
   rintro e w9 ⟨rfl,hd⟩
   refine ⟨_,rfl,?_⟩
   have hE:=hD.out.drawn hd
   obtain ⟨z0,z1,z2,z3,z5⟩:=hE.cg
   have y0:w9.cell? ⟨x,0,none⟩=some (.string e0):=(c10_at hE.bx).1
   have hfx:=hE.fx
   have y9:w9.cell? ⟨x,9,none⟩=some (.bool false):=(c10_at hE.bx).2.2.2.2.2.2.2.2.2
   have hE:=Aside0.mk hE
   clear hd
   refine hK.out _ _ ⟨z0,z1,z2,y0⟩ (fun hHeld=>?_)
   clear hK K
   refine nrmq ?_;refine pqr 20 24 ?_;refine pqr 21 24 ?_;refine pqr 22 24 ?_
   refine last_ (i:=23) (N:=none) (fl 24 24) rfl rfl (by kernel_rfl) (by decide) (fun K hK=>?_)
   refine skip_ (w1:=?_) (by rfl) rfl ?_ ?_
   rotate_left
   ·go_simp
    rfl
   refine hK.out _ _ ?_
   clear hK K
   refine done_ (by kernel_rfl) ?_
   have HS:=Aside0.mk (hfin (!nm) _ hE.out)
   generalize World.setCell _ _ _=W7 at HS ⊢
   have hfo:=HS.out.fo
   obtain ⟨z0,z1,z2,z3,z4,z5,z6,z7,z8,z9⟩:=c10_at HS.out.bo
   obtain ⟨p0,p1,p2,p3,p4,p5,p6,p7,p8,p9⟩:=c10_at HS.out.bx
   go_wp2
   obtain ⟨y1,y2,y3,y4⟩:=HS.out.fin (.string e0) (.bool true) (.bool false) (.int .i64 0) (.int .i64 0) (.int .i64 0) (.int .i64 0) (.string ⟨#[]⟩) (.bool false) (.bool (!nm))
   refine bodyPost_ret (results_cell_row rfl _ _ o 132 _ (0,0) _ rfl y1 Tryz.underlying132 rfl (by kernel_rfl)) rfl ?_
   exact ⟨rfl,y4,y2,y3⟩
end Go.Proofs.YtffojmgmpfjlhaaGreatDoor.Q
namespace Go.Proofs.YtffojmgmpfjlhaaGreatDoor.Q
open Go.Proofs.Ix hiding rd
open Go Go.Proofs.YtffojmgmpfjlhaaGreatDoor Go.RowKit Go.Proofs.YtffojmgmpfjlhaaGreatDoorW.PrintWords
theorem wd_list (s:ByteArray) (i:Nat):(s.extract i (runB isWd s i)).data.toList=(s.data.toList.drop i).takeWhile isWd:=by
 rw [ext_toL]
 unfold runB runEnd
 rw [Nat.add_sub_cancel_left]
 exact (List.prefix_iff_eq_take.1 (List.takeWhile_prefix isWd)).symm
def Bad22 (l:L9):Prop:=l.dir=none∨(∃ l',l.dir=some (none,l')∧l'.at_≠l'.s.size∧l'.instr=none)
theorem opOf_nil:opOf []=0:=by decide +kernel
theorem instr_no {l:L9} (h:l.at_ < l.s.size) (hb:isBl l.s[l.at_]=false) (hw:isWd l.s[l.at_]=false):l.instr=none:=by
 have h1:l.sk=l:=by
  unfold L9.sk
  rw [runB_out _ _ _ h hb]
  rfl
 have h2:l.mnS.data.toList=[]:=by
  unfold L9.mnS L9.mnE
  rw [wd_list,List.drop_eq_getElem_cons (by rw [sz_list];exact h),List.takeWhile_cons_of_neg]
  have e:l.s.data.toList[l.at_]'(by rw [sz_list];exact h)=l.s[l.at_]:=by rw [Array.getElem_toList];rfl
  rw [e,hw]
  decide
 unfold L9.instr
 rw [h1]
 have h3:l.mn.op=0:=by
  show opOf l.mnS.data.toList=0
  rw [h2,opOf_nil]
 rw [if_pos h3]
theorem dir_both (s:ByteArray) (hs:s.size≤1000000) (d:Nat) (hd:hitS s d 46=true) (k:Nat) (hk:2 * s.size+300 < k) :
  ∃ (name:ByteArray) (bad:Bool) (e:ByteArray × Int × Bool × Bool × Bool × ByteArray),rzdirective.f k s ((d+1:Nat):Int) false false true ⟨#[]⟩=some (name,true,false,0,0,0,0,⟨#[]⟩,false,bad,e) ∧
   (bad=false→nameB name=true∧∃ l',(⟨s,d,true,0,0,0,0,⟨#[]⟩,false⟩:L9).dir=some (some name,l'))∧(bad=true→Bad22 ⟨s,d,true,0,0,0,0,⟨#[]⟩,false⟩):=by
 have hdl:=hitS_lt hd
 obtain ⟨e1,he1⟩:∃ x,runB isWd s (d+1)=x:=⟨_,rfl⟩
 have l1:d+1≤e1∧e1≤s.size:=by rw [← he1];exact runB_le isWd s (d+1) hdl
 obtain ⟨b2,hb2⟩:∃ x,runB isBl s e1=x:=⟨_,rfl⟩
 have l2:e1≤b2∧b2≤s.size:=by rw [← hb2];exact runB_le isBl s e1 l1.2
 obtain ⟨e3,he3⟩:∃ x,runB isWd s b2=x:=⟨_,rfl⟩
 have l3:e3≤s.size:=by rw [← he3];exact (runB_le isWd s b2 l2.2).2
 obtain ⟨b4,hb4⟩:∃ x,runB isBl s e3=x:=⟨_,rfl⟩
 have l4:b4≤s.size:=by rw [← hb4];exact (runB_le isBl s e3 l3).2
 obtain ⟨ok,hok⟩:∃ x,((s.extract (d+1) e1).toList == ([102,117,110,99]:List UInt8))=x:=⟨_,rfl⟩
 have hbyte:s[d].toNat=46:=by
  unfold hitS at hd
  rw [dif_pos hdl] at hd
  simpa using hd
 have h46:s[d]=46:=UInt8.toNat_inj.1 hbyte
 have hD:s.data.toList.drop d=46 :: s.data.toList.drop (d+1):=by
  rw [List.drop_eq_getElem_cons (by rw [sz_list];exact hdl),Array.getElem_toList]
  congr 1
 have hpre:(⟨s,d,true,0,0,0,0,⟨#[]⟩,false⟩:L9).pre=([102,117,110,99]:List UInt8).isPrefixOf (s.data.toList.drop (d+1)):=by
  unfold L9.pre Lib.hasPrefix
  rw [ext_toL]
  show funcL.isPrefixOf ((s.data.toList.drop d).take (s.size - d))=_
  rw [List.take_of_length_le (by rw [List.length_drop,sz_list];exact Nat.le_refl _),hD]
  rfl
 have hok2:ok=true↔(s.data.toList.drop (d+1)).takeWhile isWd=[102,117,110,99]:=by
  rw [← hok,← he1,beq_iff_eq,toL_eq,wd_list]
 have hone:ok=true→e1=d+5:=fun h=>by
  have h1:=hok2.1 h
  rw [← he1]
  unfold runB runEnd
  rw [h1]
  rfl
 have hprk:ok=true→([102,117,110,99]:List UInt8).isPrefixOf (s.data.toList.drop (d+1))=true:=fun h=>by
  rw [List.isPrefixOf_iff_prefix,← hok2.1 h]
  exact List.takeWhile_prefix _
 have hback:([102,117,110,99]:List UInt8).isPrefixOf (s.data.toList.drop (d+1))=true→(⟨s,d+5,true,0,0,0,0,⟨#[]⟩,false⟩:L9).sp=true→ok=true:=fun h h5=>by
  rw [List.isPrefixOf_iff_prefix] at h
  obtain ⟨R,hR⟩:=h
  rw [hok2,← hR]
  have hR2:s.data.toList.drop (d+5)=R:=by
   have:=congrArg (List.drop 4) hR
   rw [List.drop_drop] at this
   rw [show d+5=d+1+4 from rfl,← this]
   rfl
  have h6:0 < ((s.data.toList.drop (d+5)).takeWhile isBl).length:=by
   have:=of_decide_eq_true h5
   have:d+5 < runB isBl s (d+5):=this
   unfold runB runEnd at this
   omega
  rw [hR2] at h6
  cases R with
  | nil=>simp at h6
  | cons c R =>
   have hc:isBl c=true:=by
    cases hh:isBl c with
    | true=>rfl
    | false=>rw [List.takeWhile_cons_of_neg (by rw [hh];decide)] at h6;simp at h6
   have hw:isWd c=false:=by
    have:c=32∨c=9:=by simpa [isBl] using hc
    rcases this with rfl | rfl <;> decide
   show ([102,117,110,99] ++ c :: R).takeWhile isWd=_
   have:∀ x∈([102,117,110,99]:List UInt8),isWd x=true:=by decide
   rw [List.takeWhile_append_of_pos this,List.takeWhile_cons_of_neg (by rw [hw];decide)]
   rfl
 refine ⟨s.extract b2 e3,((!ok || !decide (b2 > e1)) || decide (b4 < s.size)) || !nameB (s.extract b2 e3),?_⟩
 have f1:∃ e,rzdirective.f k s ((d+1:Nat):Int) false false true ⟨#[]⟩=some (s.extract b2 e3,true,false,0,0,0,0,⟨#[]⟩,false,((!ok || !decide (b2 > e1)) || decide (b4 < s.size)) || !nameB (s.extract b2 e3),e):=by
  unfold rzdirective.f
  rw [rwd s hs false true ⟨#[]⟩ false (d+1) k hdl (by omega),he1,Option.bind_some]
  simp only
  rw [rms s false true ⟨#[]⟩,hok,Option.bind_some]
  simp only
  rw [rbl s hs false true ⟨#[]⟩ _ e1 k l1.2 (by omega),hb2,Option.bind_some]
  simp only
  rw [rms s false true ⟨#[]⟩,Option.bind_some]
  simp only
  rw [rwd s hs false true ⟨#[]⟩ _ b2 k l2.2 (by omega),he3,Option.bind_some]
  simp only
  rw [rbl s hs false true ⟨#[]⟩ _ e3 k l3 (by omega),hb4,Option.bind_some]
  simp only
  have hg:decide ((b2:Int) > (e1:Int))=decide (b2 > e1):=decide_eq_decide.2 (by omega)
  rw [hg,Bool.false_or]
  cases hb:(!ok || !decide (b2 > e1)) with
  | true =>
   rw [if_pos rfl]
   exact ⟨_,rfl⟩
  | false =>
   rw [if_neg (by decide)]
   by_cases c:b4 < s.size
   ·rw [if_pos (by omega),decide_eq_true c]
    exact ⟨_,rfl⟩
   ·rw [if_neg (by omega),isn_f _ _ (by omega),Option.bind_some,decide_eq_false c]
    exact ⟨_,rfl⟩
 obtain ⟨e,he⟩:=f1
 refine ⟨e,he,fun hb=>?_,fun hb=>?_⟩
 ·simp only [Bool.or_eq_false_iff,Bool.not_eq_false',decide_eq_true_eq,decide_eq_false_iff_not] at hb
  obtain ⟨⟨⟨h1,h2⟩,h3⟩,h4⟩:=hb
  refine ⟨h4,?_⟩
  have h5:=hone h1
  unfold L9.dir
  rw [hpre,if_pos (hprk h1)]
  unfold L9.dir2
  have e5:(⟨s,d,true,0,0,0,0,⟨#[]⟩,false⟩:L9).five=⟨s,e1,true,0,0,0,0,⟨#[]⟩,false⟩:=by rw [h5];rfl
  rw [e5]
  have e6:(⟨s,e1,true,0,0,0,0,⟨#[]⟩,false⟩:L9).sp=true:=by
   show decide (e1 < runB isBl s e1)=true
   rw [hb2]
   exact decide_eq_true h2
  have e7:(⟨s,e1,true,0,0,0,0,⟨#[]⟩,false⟩:L9).sk.wdS=s.extract b2 e3:=by
   show s.extract (runB isBl s e1) (runB isWd s (runB isBl s e1))=_
   rw [hb2,he3]
  have e8:(⟨s,e1,true,0,0,0,0,⟨#[]⟩,false⟩:L9).sk.wdL.sk.at_=s.size:=by
   show runB isBl s (runB isWd s (runB isBl s e1))=_
   rw [hb2,he3,hb4]
   omega
  rw [if_pos e6,e7,if_pos h4,if_pos e8]
  exact ⟨_,rfl⟩
 ·by_cases hp:(⟨s,d,true,0,0,0,0,⟨#[]⟩,false⟩:L9).pre=true
  ·refine .inl ?_
   unfold L9.dir
   rw [if_pos hp]
   unfold L9.dir2
   have e5:(⟨s,d,true,0,0,0,0,⟨#[]⟩,false⟩:L9).five=⟨s,d+5,true,0,0,0,0,⟨#[]⟩,false⟩:=rfl
   rw [e5]
   by_cases c1:(⟨s,d+5,true,0,0,0,0,⟨#[]⟩,false⟩:L9).sp=true
   ·rw [hpre] at hp
    have h1:=hback hp c1
    have h5:=hone h1
    rw [← h5] at c1 ⊢
    rw [if_pos c1]
    have h2:e1 < b2:=by
     have:=of_decide_eq_true c1
     have:e1 < runB isBl s e1:=this
     omega
    have e7:(⟨s,e1,true,0,0,0,0,⟨#[]⟩,false⟩:L9).sk.wdS=s.extract b2 e3:=by
     show s.extract (runB isBl s e1) (runB isWd s (runB isBl s e1))=_
     rw [hb2,he3]
    rw [e7]
    by_cases c2:nameB (s.extract b2 e3)=true
    ·rw [if_pos c2]
     have e8:(⟨s,e1,true,0,0,0,0,⟨#[]⟩,false⟩:L9).sk.wdL.sk.at_=b4:=by
      show runB isBl s (runB isWd s (runB isBl s e1))=_
      rw [hb2,he3,hb4]
     rw [e8,if_neg]
     intro h
     rw [h1,c2,decide_eq_true h2,decide_eq_false (show ¬ b4 < s.size from by have h:b4=s.size:=h;omega)] at hb
     cases hb
    ·rw [if_neg c2]
   ·rw [if_neg c1]
  ·refine .inr ⟨⟨s,d,true,0,0,0,0,⟨#[]⟩,false⟩,?_,by show d≠s.size;omega,?_⟩
   ·unfold L9.dir
    rw [if_neg hp]
   ·refine instr_no hdl ?_ ?_
    ·show isBl s[d]=false
     rw [h46]
     decide
    ·show isWd s[d]=false
     rw [h46]
     decide
end Go.Proofs.YtffojmgmpfjlhaaGreatDoor.Q
