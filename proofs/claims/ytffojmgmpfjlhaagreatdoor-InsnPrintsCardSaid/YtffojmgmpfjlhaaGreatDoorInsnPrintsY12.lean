/- Parts of the proof: InsnPrints: what Print and Parse answer is what the reference answers: the law returns true for every input; the inputs read as they did; the package-level variables hold what the program's text lays in them: the tied card. -/
import Derived.Test.YtffojmgmpfjlhaaGreatDoorInsnPrintsY11
set_option linter.unusedVariables false
set_option linter.unusedSimpArgs false
namespace Go.Proofs.YtffojmgmpfjlhaaGreatDoor.Q
open Go.Proofs.Ix hiding rd
open Go Go.Proofs.YtffojmgmpfjlhaaGreatDoor Go.RowKit Go.Proofs.YtffojmgmpfjlhaaGreatDoorW.PrintWords
def readA (ks:List Rd) (l:L9):Option L9:=match ks with | []=>some l | k :: ks=>(L9.run k l).bind (L9.rest ks)
def Agr (R:Option L9) (l:L9) (op a b v:Int) (bd fr:Bool) (e:Nat):Prop :=
 (bd=false→R=some ⟨l.s,e,l.labels,op,a,b,if fr=true then 0 else v,l.label,fr⟩)∧(bd=true→R=none)
structure St0 (s:ByteArray) (l:L9) (op:Int):Prop where
 hs:s.size≤1000000
 s_:l.s=s
 at_:l.at_≤s.size
 op_:l.op=op
 a_:l.a=0
 b_:l.b=0
 v_:l.imm=0
 far:l.far=false
 lab:l.labels=false
theorem bool_dich (b:Bool):b=false∨b=true:=by cases b <;> simp
section
variable {s:ByteArray} {l:L9} {op:Int} (h:St0 s l op) (bad:Bool) (lb:ByteArray) (k:Nat) (hk:2 * s.size+40 < k)
include h hk
theorem oAB (hz:fitsM (formM op) 0=true) (hpr:(formM op,(2:Int))∈FP) :
  ∃ (a b v:Int) (bd fr:Bool) (lb':ByteArray) (e:Nat),rzreader_operands.j0 (k+20) 2 false s (l.at_:Int) bad false false lb op 0 0 0=some (op,a,b,v,s,(e:Int),bad || bd,fr,false,lb')∧e≤s.size∧Agr (readA [.a,.b] l) l op a b v bd fr e:=by
 obtain ⟨hs,hss,hi,hop,ha,hb,hv,hf,hl⟩:=h
 obtain ⟨n1,b1,e1,g1,q1,r1,t1⟩:=rg2 s hs false false lb bad l hss hi (k+18) (by omega)
 have g1:rzreader_register.f (k+18) s (l.at_:Int) bad false false lb=_:=g1
 obtain ⟨b2,e2,g2,q2,r2,t2⟩:=cm2 s hs false false lb (bad || b1) (⟨l.s,e1,l.labels,l.op,n1,l.b,l.imm,l.label,l.far⟩:L9) hss q1 (k+16) (by omega)
 have g2:rzreader_comma.f (k+16) s (e1:Int) (bad || b1) false false lb=_:=g2
 obtain ⟨n3,b3,e3,g3,q3,r3,t3⟩:=rg2 s hs false false lb ((bad || b1) || b2) (⟨l.s,e2,l.labels,l.op,n1,l.b,l.imm,l.label,l.far⟩:L9) hss q2 (k+15) (by omega)
 have g3:rzreader_register.f (k+15) s (e2:Int) ((bad || b1) || b2) false false lb=_:=g3
 refine ⟨n1,n3,0,b1 || b2 || b3,false,lb,e3,?_,q3,?_⟩
 ·show rzreader_operands.j0 (k+19+1) _ _ _ _ _ _ _ _ _ _ _ _=_
  rw [rzreader_operands.j0,if_neg (by decide)]
  show rzreader_operands.j1 (k+18+1) _ _ _ _ _ _ _ _ _ _ _ _=_
  rw [rzreader_operands.j1,show rzOperands.f (k+18) 2=some (hasA 1,hasB 1,(bytesM 1:Int)) from opnd_any (p:=1) (by decide) (k+6),Option.bind_some]
  simp only
  rw [show hasA 1=true from rfl,if_pos rfl]
  rw [g1,Option.bind_some]
  simp only
  show rzreader_operands.j2 (k+17+1) _ _ _ _ _ _ _ _ _ _ _ _ _=_
  rw [rzreader_operands.j2,if_pos rfl,if_neg (by decide)]
  show rzreader_operands.j3 (k+16+1) _ _ _ _ _ _ _ _ _ _ _ _ _=_
  rw [rzreader_operands.j3,if_pos (by rfl)]
  rw [g2,Option.bind_some]
  simp only
  show rzreader_operands.j4 (k+15+1) _ _ _ _ _ _ _ _ _ _ _ _=_
  rw [rzreader_operands.j4,if_pos rfl]
  rw [g3,Option.bind_some]
  simp only
  show rzreader_operands.j7 (k+14+1) _ _ _ _ _ _ _ _ _ _ _=_
  rw [rzreader_operands.j7,if_neg (by decide),if_neg (by decide)]
  show rzreader_operands.j8 (k+13+1) _ _ _ _ _ _ _ _ _ _ _ _=_
  rw [rzreader_operands.j8,if_pos (by rfl),rfits_f hpr 0 (k+13) (by omega),hz,Option.bind_some,rms,Option.bind_some]
  all_goals (try simp only [Bool.not_true,Bool.or_false,Bool.or_assoc])
 ·have e0:readA [.a,.b] l=((l.rg.map fun p=>({ p.2 with a:=p.1 }:L9))).bind fun x1=>(cmL x1).bind fun x2=>((x2.rg.map fun p=>({ p.2 with b:=p.1 }:L9))).bind fun x3=>some x3:=by
   unfold readA
   simp only
   congr 1
   funext x1
   rw [rest_cons]
   rfl
  rw [e0]
  rcases bool_dich b1 with c1 | c1
  ·have r1:L9.rg l=some (n1,(⟨l.s,e1,l.labels,l.op,l.a,l.b,l.imm,l.label,l.far⟩:L9)):=r1 c1
   rw [r1]
   show Agr ((cmL (⟨l.s,e1,l.labels,l.op,n1,l.b,l.imm,l.label,l.far⟩:L9)).bind fun x2=>((x2.rg.map fun p=>({ p.2 with b:=p.1 }:L9))).bind fun x3=>some x3) l op n1 n3 0 (b1 || b2 || b3) false e3
   rcases bool_dich b2 with c2 | c2
   ·have r2:cmL (⟨l.s,e1,l.labels,l.op,n1,l.b,l.imm,l.label,l.far⟩:L9)=some (⟨l.s,e2,l.labels,l.op,n1,l.b,l.imm,l.label,l.far⟩:L9):=r2 c2
    rw [r2]
    show Agr ((((⟨l.s,e2,l.labels,l.op,n1,l.b,l.imm,l.label,l.far⟩:L9).rg.map fun p=>({ p.2 with b:=p.1 }:L9))).bind fun x3=>some x3) l op n1 n3 0 (b1 || b2 || b3) false e3
    rcases bool_dich b3 with c3 | c3
    ·have r3:L9.rg (⟨l.s,e2,l.labels,l.op,n1,l.b,l.imm,l.label,l.far⟩:L9)=some (n3,(⟨l.s,e3,l.labels,l.op,n1,l.b,l.imm,l.label,l.far⟩:L9)):=r3 c3
     rw [r3]
     rw [c1,c2,c3]
     refine ⟨fun _=>?_,fun hh=>by simp at hh⟩
     show some (L9.mk l.s e3 l.labels l.op n1 n3 l.imm l.label l.far)=some (L9.mk l.s e3 l.labels op n1 n3 0 l.label false)
     rw [hop,hf,hv]
    ·have t3:L9.rg (⟨l.s,e2,l.labels,l.op,n1,l.b,l.imm,l.label,l.far⟩:L9)=none:=t3 c3
     rw [t3,c3]
     exact ⟨fun hh=>by simp at hh,fun _=>rfl⟩
   ·have t2:cmL (⟨l.s,e1,l.labels,l.op,n1,l.b,l.imm,l.label,l.far⟩:L9)=none:=t2 c2
    rw [t2,c2]
    exact ⟨fun hh=>by simp at hh,fun _=>rfl⟩
  ·have t1:L9.rg l=none:=t1 c1
   rw [t1,c1]
   exact ⟨fun hh=>by simp at hh,fun _=>rfl⟩
theorem oAN3 (hz:fitsM (formM op) 0=true) (hpr:(formM op,(3:Int))∈FP) :
  ∃ (a b v:Int) (bd fr:Bool) (lb':ByteArray) (e:Nat),rzreader_operands.j0 (k+20) 3 false s (l.at_:Int) bad false false lb op 0 0 0=some (op,a,b,v,s,(e:Int),bad || bd,fr,false,lb')∧e≤s.size∧Agr (readA [.a,.num] l) l op a b v bd fr e:=by
 obtain ⟨hs,hss,hi,hop,ha,hb,hv,hf,hl⟩:=h
 obtain ⟨n1,b1,e1,g1,q1,r1,t1⟩:=rg2 s hs false false lb bad l hss hi (k+18) (by omega)
 have g1:rzreader_register.f (k+18) s (l.at_:Int) bad false false lb=_:=g1
 obtain ⟨b2,e2,g2,q2,r2,t2⟩:=cm2 s hs false false lb (bad || b1) (⟨l.s,e1,l.labels,l.op,n1,l.b,l.imm,l.label,l.far⟩:L9) hss q1 (k+16) (by omega)
 have g2:rzreader_comma.f (k+16) s (e1:Int) (bad || b1) false false lb=_:=g2
 obtain ⟨n3,b3,e3,g3,q3,_,r3,t3⟩:=rnm s hs false false lb ((bad || b1) || b2) (⟨l.s,e2,l.labels,l.op,n1,l.b,l.imm,l.label,l.far⟩:L9) hss q2 (k+14) (by omega)
 have g3:rzreader_number.f (k+14) s (e2:Int) ((bad || b1) || b2) false false lb=_:=g3
 refine ⟨n1,0,n3,(b1 || b2 || b3) || !fitsM (formM op) n3,false,lb,e3,?_,q3,?_⟩
 ·show rzreader_operands.j0 (k+19+1) _ _ _ _ _ _ _ _ _ _ _ _=_
  rw [rzreader_operands.j0,if_neg (by decide)]
  show rzreader_operands.j1 (k+18+1) _ _ _ _ _ _ _ _ _ _ _ _=_
  rw [rzreader_operands.j1,show rzOperands.f (k+18) 3=some (hasA 3,hasB 3,(bytesM 3:Int)) from opnd_any (p:=3) (by decide) (k+6),Option.bind_some]
  simp only
  rw [show hasA 3=true from rfl,if_pos rfl]
  rw [g1,Option.bind_some]
  simp only
  show rzreader_operands.j2 (k+17+1) _ _ _ _ _ _ _ _ _ _ _ _ _=_
  rw [rzreader_operands.j2,if_pos rfl,if_neg (by decide)]
  show rzreader_operands.j3 (k+16+1) _ _ _ _ _ _ _ _ _ _ _ _ _=_
  rw [rzreader_operands.j3,if_pos (by rfl)]
  rw [g2,Option.bind_some]
  simp only
  show rzreader_operands.j4 (k+15+1) _ _ _ _ _ _ _ _ _ _ _ _=_
  rw [rzreader_operands.j4,if_neg (by decide),if_pos rfl]
  show rzreader_operands.j5 (k+14+1) _ _ _ _ _ _ _ _ _ _ _ _ _ _=_
  rw [rzreader_operands.j5,if_pos (by rfl)]
  rw [g3,Option.bind_some]
  simp only
  show rzreader_operands.j7 (k+13+1) _ _ _ _ _ _ _ _ _ _ _=_
  rw [rzreader_operands.j7,if_neg (by decide),if_neg (by decide)]
  show rzreader_operands.j8 (k+12+1) _ _ _ _ _ _ _ _ _ _ _ _=_
  rw [rzreader_operands.j8,if_pos (by rfl),rfits_f hpr n3 (k+12) (by omega),Option.bind_some,rms,Option.bind_some]
  all_goals (try simp only [Bool.not_true,Bool.or_false,Bool.or_assoc])
 ·have e0:readA [.a,.num] l=((l.rg.map fun p=>({ p.2 with a:=p.1 }:L9))).bind fun x1=>(cmL x1).bind fun x2=>(x2.num).bind fun x3=>some x3:=by
   unfold readA
   simp only
   congr 1
   funext x1
   rw [rest_cons]
   rfl
  rw [e0]
  rcases bool_dich b1 with c1 | c1
  ·have r1:L9.rg l=some (n1,(⟨l.s,e1,l.labels,l.op,l.a,l.b,l.imm,l.label,l.far⟩:L9)):=r1 c1
   rw [r1]
   show Agr ((cmL (⟨l.s,e1,l.labels,l.op,n1,l.b,l.imm,l.label,l.far⟩:L9)).bind fun x2=>(x2.num).bind fun x3=>some x3) l op n1 0 n3 ((b1 || b2 || b3) || !fitsM (formM op) n3) false e3
   rcases bool_dich b2 with c2 | c2
   ·have r2:cmL (⟨l.s,e1,l.labels,l.op,n1,l.b,l.imm,l.label,l.far⟩:L9)=some (⟨l.s,e2,l.labels,l.op,n1,l.b,l.imm,l.label,l.far⟩:L9):=r2 c2
    rw [r2]
    show Agr (((⟨l.s,e2,l.labels,l.op,n1,l.b,l.imm,l.label,l.far⟩:L9).num).bind fun x3=>some x3) l op n1 0 n3 ((b1 || b2 || b3) || !fitsM (formM op) n3) false e3
    rcases bool_dich b3 with c3 | c3
    ·have r3:L9.num (⟨l.s,e2,l.labels,l.op,n1,l.b,l.imm,l.label,l.far⟩:L9)=if fitsM (formM op) n3=true then some (⟨l.s,e3,l.labels,l.op,n1,l.b,n3,l.label,l.far⟩:L9) else none:=by rw [← hop];exact r3 c3
     rw [r3]
     rcases bool_dich (fitsM (formM op) n3) with d | d
     ·rw [d,if_neg (by decide)]
      exact ⟨fun hh=>by simp at hh,fun _=>rfl⟩
     ·rw [d,if_pos rfl]
      rw [c1,c2,c3]
      refine ⟨fun _=>?_,fun hh=>by simp at hh⟩
      show some (L9.mk l.s e3 l.labels l.op n1 l.b n3 l.label l.far)=some (L9.mk l.s e3 l.labels op n1 0 n3 l.label false)
      rw [hop,hf,hb]
    ·have t3:L9.num (⟨l.s,e2,l.labels,l.op,n1,l.b,l.imm,l.label,l.far⟩:L9)=none:=t3 c3
     rw [t3,c3]
     exact ⟨fun hh=>by simp at hh,fun _=>rfl⟩
   ·have t2:cmL (⟨l.s,e1,l.labels,l.op,n1,l.b,l.imm,l.label,l.far⟩:L9)=none:=t2 c2
    rw [t2,c2]
    exact ⟨fun hh=>by simp at hh,fun _=>rfl⟩
  ·have t1:L9.rg l=none:=t1 c1
   rw [t1,c1]
   exact ⟨fun hh=>by simp at hh,fun _=>rfl⟩
theorem oAN4 (hz:fitsM (formM op) 0=true) (hpr:(formM op,(4:Int))∈FP) :
  ∃ (a b v:Int) (bd fr:Bool) (lb':ByteArray) (e:Nat),rzreader_operands.j0 (k+20) 4 false s (l.at_:Int) bad false false lb op 0 0 0=some (op,a,b,v,s,(e:Int),bad || bd,fr,false,lb')∧e≤s.size∧Agr (readA [.a,.num] l) l op a b v bd fr e:=by
 obtain ⟨hs,hss,hi,hop,ha,hb,hv,hf,hl⟩:=h
 obtain ⟨n1,b1,e1,g1,q1,r1,t1⟩:=rg2 s hs false false lb bad l hss hi (k+18) (by omega)
 have g1:rzreader_register.f (k+18) s (l.at_:Int) bad false false lb=_:=g1
 obtain ⟨b2,e2,g2,q2,r2,t2⟩:=cm2 s hs false false lb (bad || b1) (⟨l.s,e1,l.labels,l.op,n1,l.b,l.imm,l.label,l.far⟩:L9) hss q1 (k+16) (by omega)
 have g2:rzreader_comma.f (k+16) s (e1:Int) (bad || b1) false false lb=_:=g2
 obtain ⟨n3,b3,e3,g3,q3,_,r3,t3⟩:=rnm s hs false false lb ((bad || b1) || b2) (⟨l.s,e2,l.labels,l.op,n1,l.b,l.imm,l.label,l.far⟩:L9) hss q2 (k+14) (by omega)
 have g3:rzreader_number.f (k+14) s (e2:Int) ((bad || b1) || b2) false false lb=_:=g3
 refine ⟨n1,0,n3,(b1 || b2 || b3) || !fitsM (formM op) n3,false,lb,e3,?_,q3,?_⟩
 ·show rzreader_operands.j0 (k+19+1) _ _ _ _ _ _ _ _ _ _ _ _=_
  rw [rzreader_operands.j0,if_neg (by decide)]
  show rzreader_operands.j1 (k+18+1) _ _ _ _ _ _ _ _ _ _ _ _=_
  rw [rzreader_operands.j1,show rzOperands.f (k+18) 4=some (hasA 4,hasB 4,(bytesM 4:Int)) from opnd_any (p:=4) (by decide) (k+6),Option.bind_some]
  simp only
  rw [show hasA 4=true from rfl,if_pos rfl]
  rw [g1,Option.bind_some]
  simp only
  show rzreader_operands.j2 (k+17+1) _ _ _ _ _ _ _ _ _ _ _ _ _=_
  rw [rzreader_operands.j2,if_pos rfl,if_neg (by decide)]
  show rzreader_operands.j3 (k+16+1) _ _ _ _ _ _ _ _ _ _ _ _ _=_
  rw [rzreader_operands.j3,if_pos (by rfl)]
  rw [g2,Option.bind_some]
  simp only
  show rzreader_operands.j4 (k+15+1) _ _ _ _ _ _ _ _ _ _ _ _=_
  rw [rzreader_operands.j4,if_neg (by decide),if_neg (by decide),if_pos rfl]
  show rzreader_operands.j5 (k+14+1) _ _ _ _ _ _ _ _ _ _ _ _ _ _=_
  rw [rzreader_operands.j5,if_pos (by rfl)]
  rw [g3,Option.bind_some]
  simp only
  show rzreader_operands.j7 (k+13+1) _ _ _ _ _ _ _ _ _ _ _=_
  rw [rzreader_operands.j7,if_neg (by decide),if_neg (by decide)]
  show rzreader_operands.j8 (k+12+1) _ _ _ _ _ _ _ _ _ _ _ _=_
  rw [rzreader_operands.j8,if_pos (by rfl),rfits_f hpr n3 (k+12) (by omega),Option.bind_some,rms,Option.bind_some]
  all_goals (try simp only [Bool.not_true,Bool.or_false,Bool.or_assoc])
 ·have e0:readA [.a,.num] l=((l.rg.map fun p=>({ p.2 with a:=p.1 }:L9))).bind fun x1=>(cmL x1).bind fun x2=>(x2.num).bind fun x3=>some x3:=by
   unfold readA
   simp only
   congr 1
   funext x1
   rw [rest_cons]
   rfl
  rw [e0]
  rcases bool_dich b1 with c1 | c1
  ·have r1:L9.rg l=some (n1,(⟨l.s,e1,l.labels,l.op,l.a,l.b,l.imm,l.label,l.far⟩:L9)):=r1 c1
   rw [r1]
   show Agr ((cmL (⟨l.s,e1,l.labels,l.op,n1,l.b,l.imm,l.label,l.far⟩:L9)).bind fun x2=>(x2.num).bind fun x3=>some x3) l op n1 0 n3 ((b1 || b2 || b3) || !fitsM (formM op) n3) false e3
   rcases bool_dich b2 with c2 | c2
   ·have r2:cmL (⟨l.s,e1,l.labels,l.op,n1,l.b,l.imm,l.label,l.far⟩:L9)=some (⟨l.s,e2,l.labels,l.op,n1,l.b,l.imm,l.label,l.far⟩:L9):=r2 c2
    rw [r2]
    show Agr (((⟨l.s,e2,l.labels,l.op,n1,l.b,l.imm,l.label,l.far⟩:L9).num).bind fun x3=>some x3) l op n1 0 n3 ((b1 || b2 || b3) || !fitsM (formM op) n3) false e3
    rcases bool_dich b3 with c3 | c3
    ·have r3:L9.num (⟨l.s,e2,l.labels,l.op,n1,l.b,l.imm,l.label,l.far⟩:L9)=if fitsM (formM op) n3=true then some (⟨l.s,e3,l.labels,l.op,n1,l.b,n3,l.label,l.far⟩:L9) else none:=by rw [← hop];exact r3 c3
     rw [r3]
     rcases bool_dich (fitsM (formM op) n3) with d | d
     ·rw [d,if_neg (by decide)]
      exact ⟨fun hh=>by simp at hh,fun _=>rfl⟩
     ·rw [d,if_pos rfl]
      rw [c1,c2,c3]
      refine ⟨fun _=>?_,fun hh=>by simp at hh⟩
      show some (L9.mk l.s e3 l.labels l.op n1 l.b n3 l.label l.far)=some (L9.mk l.s e3 l.labels op n1 0 n3 l.label false)
      rw [hop,hf,hb]
    ·have t3:L9.num (⟨l.s,e2,l.labels,l.op,n1,l.b,l.imm,l.label,l.far⟩:L9)=none:=t3 c3
     rw [t3,c3]
     exact ⟨fun hh=>by simp at hh,fun _=>rfl⟩
   ·have t2:cmL (⟨l.s,e1,l.labels,l.op,n1,l.b,l.imm,l.label,l.far⟩:L9)=none:=t2 c2
    rw [t2,c2]
    exact ⟨fun hh=>by simp at hh,fun _=>rfl⟩
  ·have t1:L9.rg l=none:=t1 c1
   rw [t1,c1]
   exact ⟨fun hh=>by simp at hh,fun _=>rfl⟩
theorem oN (hz:fitsM (formM op) 0=true) (hpr:(formM op,(10:Int))∈FP) :
  ∃ (a b v:Int) (bd fr:Bool) (lb':ByteArray) (e:Nat),rzreader_operands.j0 (k+20) 10 false s (l.at_:Int) bad false false lb op 0 0 0=some (op,a,b,v,s,(e:Int),bad || bd,fr,false,lb')∧e≤s.size∧Agr (readA [.num] l) l op a b v bd fr e:=by
 obtain ⟨hs,hss,hi,hop,ha,hb,hv,hf,hl⟩:=h
 obtain ⟨n1,b1,e1,g1,q1,_,r1,t1⟩:=rnm s hs false false lb bad l hss hi (k+14) (by omega)
 have g1:rzreader_number.f (k+14) s (l.at_:Int) bad false false lb=_:=g1
 refine ⟨0,0,n1,(b1) || !fitsM (formM op) n1,false,lb,e1,?_,q1,?_⟩
 ·show rzreader_operands.j0 (k+19+1) _ _ _ _ _ _ _ _ _ _ _ _=_
  rw [rzreader_operands.j0,if_neg (by decide)]
  show rzreader_operands.j1 (k+18+1) _ _ _ _ _ _ _ _ _ _ _ _=_
  rw [rzreader_operands.j1,show rzOperands.f (k+18) 10=some (hasA 8,hasB 8,(bytesM 8:Int)) from opnd_any (p:=8) (by decide) (k+6),Option.bind_some]
  simp only
  rw [show hasA 8=false from rfl,if_neg (by decide)]
  show rzreader_operands.j2 (k+17+1) _ _ _ _ _ _ _ _ _ _ _ _ _=_
  rw [rzreader_operands.j2,if_neg (by decide)]
  show rzreader_operands.j3 (k+16+1) _ _ _ _ _ _ _ _ _ _ _ _ _=_
  rw [rzreader_operands.j3,if_neg (by decide)]
  show rzreader_operands.j4 (k+15+1) _ _ _ _ _ _ _ _ _ _ _ _=_
  rw [rzreader_operands.j4,if_neg (by decide),if_neg (by decide),if_neg (by decide)]
  show rzreader_operands.j5 (k+14+1) _ _ _ _ _ _ _ _ _ _ _ _ _ _=_
  rw [rzreader_operands.j5,if_pos (by rfl)]
  rw [g1,Option.bind_some]
  simp only
  show rzreader_operands.j7 (k+13+1) _ _ _ _ _ _ _ _ _ _ _=_
  rw [rzreader_operands.j7,if_neg (by decide),if_neg (by decide)]
  show rzreader_operands.j8 (k+12+1) _ _ _ _ _ _ _ _ _ _ _ _=_
  rw [rzreader_operands.j8,if_pos (by rfl),rfits_f hpr n1 (k+12) (by omega),Option.bind_some,rms,Option.bind_some]
  all_goals (try simp only [Bool.not_true,Bool.or_false,Bool.or_assoc])
 ·have e0:readA [.num] l=(l.num).bind fun x1=>some x1:=by
   first | rfl | (unfold readA;simp only;congr 1)
  rw [e0]
  rcases bool_dich b1 with c1 | c1
  ·have r1:L9.num l=if fitsM (formM op) n1=true then some (⟨l.s,e1,l.labels,l.op,l.a,l.b,n1,l.label,l.far⟩:L9) else none:=by rw [← hop];exact r1 c1
   rw [r1]
   rcases bool_dich (fitsM (formM op) n1) with d | d
   ·rw [d,if_neg (by decide)]
    exact ⟨fun hh=>by simp at hh,fun _=>rfl⟩
   ·rw [d,if_pos rfl]
    rw [c1]
    refine ⟨fun _=>?_,fun hh=>by simp at hh⟩
    show some (L9.mk l.s e1 l.labels l.op l.a l.b n1 l.label l.far)=some (L9.mk l.s e1 l.labels op 0 0 n1 l.label false)
    rw [hop,hf,ha,hb]
  ·have t1:L9.num l=none:=t1 c1
   rw [t1,c1]
   exact ⟨fun hh=>by simp at hh,fun _=>rfl⟩
theorem oAM (hz:fitsM (formM op) 0=true) (hpr:(formM op,(5:Int))∈FP) :
  ∃ (a b v:Int) (bd fr:Bool) (lb':ByteArray) (e:Nat),rzreader_operands.j0 (k+20) 5 false s (l.at_:Int) bad false false lb op 0 0 0=some (op,a,b,v,s,(e:Int),bad || bd,fr,false,lb')∧e≤s.size∧Agr (readA [.a,.addr] l) l op a b v bd fr e:=by
 obtain ⟨hs,hss,hi,hop,ha,hb,hv,hf,hl⟩:=h
 obtain ⟨n1,b1,e1,g1,q1,r1,t1⟩:=rg2 s hs false false lb bad l hss hi (k+18) (by omega)
 have g1:rzreader_register.f (k+18) s (l.at_:Int) bad false false lb=_:=g1
 obtain ⟨b2,e2,g2,q2,r2,t2⟩:=cm2 s hs false false lb (bad || b1) (⟨l.s,e1,l.labels,l.op,n1,l.b,l.imm,l.label,l.far⟩:L9) hss q1 (k+16) (by omega)
 have g2:rzreader_comma.f (k+16) s (e1:Int) (bad || b1) false false lb=_:=g2
 obtain ⟨m3,n3,b3,e3,g3,q3,r3,t3⟩:=rad s hs false lb ((bad || b1) || b2) false (⟨l.s,e2,l.labels,l.op,n1,l.b,l.imm,l.label,l.far⟩:L9) hss q2 hv (by rw [show (⟨l.s,e2,l.labels,l.op,n1,l.b,l.imm,l.label,l.far⟩:L9).op=op from hop];exact hz) (k+13) (by omega)
 have g3:rzreader_address.f (k+14) s (e2:Int) ((bad || b1) || b2) false false lb false=_:=g3
 refine ⟨n1,m3,n3,(b1 || b2 || b3) || !fitsM (formM op) n3,false,lb,e3,?_,q3,?_⟩
 ·show rzreader_operands.j0 (k+19+1) _ _ _ _ _ _ _ _ _ _ _ _=_
  rw [rzreader_operands.j0,if_neg (by decide)]
  show rzreader_operands.j1 (k+18+1) _ _ _ _ _ _ _ _ _ _ _ _=_
  rw [rzreader_operands.j1,show rzOperands.f (k+18) 5=some (hasA 5,hasB 5,(bytesM 5:Int)) from opnd_any (p:=5) (by decide) (k+6),Option.bind_some]
  simp only
  rw [show hasA 5=true from rfl,if_pos rfl]
  rw [g1,Option.bind_some]
  simp only
  show rzreader_operands.j2 (k+17+1) _ _ _ _ _ _ _ _ _ _ _ _ _=_
  rw [rzreader_operands.j2,if_pos rfl,if_neg (by decide)]
  show rzreader_operands.j3 (k+16+1) _ _ _ _ _ _ _ _ _ _ _ _ _=_
  rw [rzreader_operands.j3,if_pos (by rfl)]
  rw [g2,Option.bind_some]
  simp only
  show rzreader_operands.j4 (k+15+1) _ _ _ _ _ _ _ _ _ _ _ _=_
  rw [rzreader_operands.j4,if_neg (by decide),if_neg (by decide),if_neg (by decide)]
  show rzreader_operands.j5 (k+14+1) _ _ _ _ _ _ _ _ _ _ _ _ _ _=_
  rw [rzreader_operands.j5,if_neg (by decide)]
  rw [if_pos rfl]
  rw [if_neg (by decide)]
  rw [g3,Option.bind_some]
  simp only
  show rzreader_operands.j7 (k+13+1) _ _ _ _ _ _ _ _ _ _ _=_
  rw [rzreader_operands.j7,if_neg (by decide),if_neg (by decide)]
  show rzreader_operands.j8 (k+12+1) _ _ _ _ _ _ _ _ _ _ _ _=_
  rw [rzreader_operands.j8,if_pos (by rfl),rfits_f hpr n3 (k+12) (by omega),Option.bind_some,rms,Option.bind_some]
  all_goals (try simp only [Bool.not_true,Bool.or_false,Bool.or_assoc])
 ·have e0:readA [.a,.addr] l=((l.rg.map fun p=>({ p.2 with a:=p.1 }:L9))).bind fun x1=>(cmL x1).bind fun x2=>(x2.addr).bind fun x3=>some x3:=by
   unfold readA
   simp only
   congr 1
   funext x1
   rw [rest_cons]
   rfl
  rw [e0]
  rcases bool_dich b1 with c1 | c1
  ·have r1:L9.rg l=some (n1,(⟨l.s,e1,l.labels,l.op,l.a,l.b,l.imm,l.label,l.far⟩:L9)):=r1 c1
   rw [r1]
   show Agr ((cmL (⟨l.s,e1,l.labels,l.op,n1,l.b,l.imm,l.label,l.far⟩:L9)).bind fun x2=>(x2.addr).bind fun x3=>some x3) l op n1 m3 n3 ((b1 || b2 || b3) || !fitsM (formM op) n3) false e3
   rcases bool_dich b2 with c2 | c2
   ·have r2:cmL (⟨l.s,e1,l.labels,l.op,n1,l.b,l.imm,l.label,l.far⟩:L9)=some (⟨l.s,e2,l.labels,l.op,n1,l.b,l.imm,l.label,l.far⟩:L9):=r2 c2
    rw [r2]
    show Agr (((⟨l.s,e2,l.labels,l.op,n1,l.b,l.imm,l.label,l.far⟩:L9).addr).bind fun x3=>some x3) l op n1 m3 n3 ((b1 || b2 || b3) || !fitsM (formM op) n3) false e3
    rcases bool_dich b3 with c3 | c3
    ·have r3:L9.addr (⟨l.s,e2,l.labels,l.op,n1,l.b,l.imm,l.label,l.far⟩:L9)=if fitsM (formM op) n3=true then some (⟨l.s,e3,l.labels,l.op,n1,m3,n3,l.label,l.far⟩:L9) else none:=by rw [← hop];exact r3 c3
     rw [r3]
     rcases bool_dich (fitsM (formM op) n3) with d | d
     ·rw [d,if_neg (by decide)]
      exact ⟨fun hh=>by simp at hh,fun _=>rfl⟩
     ·rw [d,if_pos rfl]
      rw [c1,c2,c3]
      refine ⟨fun _=>?_,fun hh=>by simp at hh⟩
      show some (L9.mk l.s e3 l.labels l.op n1 m3 n3 l.label l.far)=some (L9.mk l.s e3 l.labels op n1 m3 n3 l.label false)
      rw [hop,hf]
    ·have t3:L9.addr (⟨l.s,e2,l.labels,l.op,n1,l.b,l.imm,l.label,l.far⟩:L9)=none:=t3 c3
     rw [t3,c3]
     exact ⟨fun hh=>by simp at hh,fun _=>rfl⟩
   ·have t2:cmL (⟨l.s,e1,l.labels,l.op,n1,l.b,l.imm,l.label,l.far⟩:L9)=none:=t2 c2
    rw [t2,c2]
    exact ⟨fun hh=>by simp at hh,fun _=>rfl⟩
  ·have t1:L9.rg l=none:=t1 c1
   rw [t1,c1]
   exact ⟨fun hh=>by simp at hh,fun _=>rfl⟩
theorem oMA (hz:fitsM (formM op) 0=true) (hpr:(formM op,(5:Int))∈FP) :
  ∃ (a b v:Int) (bd fr:Bool) (lb':ByteArray) (e:Nat),rzreader_operands.j0 (k+20) 5 true s (l.at_:Int) bad false false lb op 0 0 0=some (op,a,b,v,s,(e:Int),bad || bd,fr,false,lb')∧e≤s.size∧Agr (readA [.addr,.a] l) l op a b v bd fr e:=by
 obtain ⟨hs,hss,hi,hop,ha,hb,hv,hf,hl⟩:=h
 obtain ⟨m1,n1,b1,e1,g1,q1,r1,t1⟩:=rad s hs false lb bad false l hss hi hv (by rw [show l.op=op from hop];exact hz) (k+18) (by omega)
 have g1:rzreader_address.f (k+19) s (l.at_:Int) bad false false lb false=_:=g1
 obtain ⟨b2,e2,g2,q2,r2,t2⟩:=cm2 s hs false false lb (bad || b1) (⟨l.s,e1,l.labels,l.op,l.a,m1,n1,l.label,l.far⟩:L9) hss q1 (k+19) (by omega)
 have g2:rzreader_comma.f (k+19) s (e1:Int) (bad || b1) false false lb=_:=g2
 obtain ⟨n3,b3,e3,g3,q3,r3,t3⟩:=rg2 s hs false false lb ((bad || b1) || b2) (⟨l.s,e2,l.labels,l.op,l.a,m1,n1,l.label,l.far⟩:L9) hss q2 (k+18) (by omega)
 have g3:rzreader_register.f (k+18) s (e2:Int) ((bad || b1) || b2) false false lb=_:=g3
 refine ⟨n3,m1,n1,(b1 || b2 || b3) || !fitsM (formM op) n1,false,lb,e3,?_,q3,?_⟩
 ·show rzreader_operands.j0 (k+19+1) _ _ _ _ _ _ _ _ _ _ _ _=_
  rw [rzreader_operands.j0,if_pos rfl]
  rw [g1,Option.bind_some]
  simp only
  rw [g2,Option.bind_some]
  simp only
  show rzreader_operands.j1 (k+18+1) _ _ _ _ _ _ _ _ _ _ _ _=_
  rw [rzreader_operands.j1,show rzOperands.f (k+18) 5=some (hasA 5,hasB 5,(bytesM 5:Int)) from opnd_any (p:=5) (by decide) (k+6),Option.bind_some]
  simp only
  rw [show hasA 5=true from rfl,if_pos rfl]
  rw [g3,Option.bind_some]
  simp only
  show rzreader_operands.j2 (k+17+1) _ _ _ _ _ _ _ _ _ _ _ _ _=_
  rw [rzreader_operands.j2,if_pos rfl,if_neg (by decide)]
  show rzreader_operands.j3 (k+16+1) _ _ _ _ _ _ _ _ _ _ _ _ _=_
  rw [rzreader_operands.j3,if_neg (by decide)]
  show rzreader_operands.j4 (k+15+1) _ _ _ _ _ _ _ _ _ _ _ _=_
  rw [rzreader_operands.j4,if_neg (by decide),if_neg (by decide),if_neg (by decide)]
  show rzreader_operands.j5 (k+14+1) _ _ _ _ _ _ _ _ _ _ _ _ _ _=_
  rw [rzreader_operands.j5,if_neg (by decide)]
  rw [if_pos rfl]
  rw [if_pos rfl]
  show rzreader_operands.j7 (k+13+1) _ _ _ _ _ _ _ _ _ _ _=_
  rw [rzreader_operands.j7,if_neg (by decide),if_neg (by decide)]
  show rzreader_operands.j8 (k+12+1) _ _ _ _ _ _ _ _ _ _ _ _=_
  rw [rzreader_operands.j8,if_pos (by rfl),rfits_f hpr n1 (k+12) (by omega),Option.bind_some,rms,Option.bind_some]
  all_goals (try simp only [Bool.not_true,Bool.or_false,Bool.or_assoc])
 ·have e0:readA [.addr,.a] l=(l.addr).bind fun x1=>(cmL x1).bind fun x2=>((x2.rg.map fun p=>({ p.2 with a:=p.1 }:L9))).bind fun x3=>some x3:=by
   unfold readA
   simp only
   congr 1
   funext x1
   rw [rest_cons]
   rfl
  rw [e0]
  rcases bool_dich b1 with c1 | c1
  ·have r1:L9.addr l=if fitsM (formM op) n1=true then some (⟨l.s,e1,l.labels,l.op,l.a,m1,n1,l.label,l.far⟩:L9) else none:=by rw [← hop];exact r1 c1
   rw [r1]
   rcases bool_dich (fitsM (formM op) n1) with d | d
   ·rw [d,if_neg (by decide)]
    exact ⟨fun hh=>by simp at hh,fun _=>rfl⟩
   ·rw [d,if_pos rfl]
    show Agr ((cmL (⟨l.s,e1,l.labels,l.op,l.a,m1,n1,l.label,l.far⟩:L9)).bind fun x2=>((x2.rg.map fun p=>({ p.2 with a:=p.1 }:L9))).bind fun x3=>some x3) l op n3 m1 n1 ((b1 || b2 || b3) || !true) false e3
    rcases bool_dich b2 with c2 | c2
    ·have r2:cmL (⟨l.s,e1,l.labels,l.op,l.a,m1,n1,l.label,l.far⟩:L9)=some (⟨l.s,e2,l.labels,l.op,l.a,m1,n1,l.label,l.far⟩:L9):=r2 c2
     rw [r2]
     show Agr ((((⟨l.s,e2,l.labels,l.op,l.a,m1,n1,l.label,l.far⟩:L9).rg.map fun p=>({ p.2 with a:=p.1 }:L9))).bind fun x3=>some x3) l op n3 m1 n1 ((b1 || b2 || b3) || !true) false e3
     rcases bool_dich b3 with c3 | c3
     ·have r3:L9.rg (⟨l.s,e2,l.labels,l.op,l.a,m1,n1,l.label,l.far⟩:L9)=some (n3,(⟨l.s,e3,l.labels,l.op,l.a,m1,n1,l.label,l.far⟩:L9)):=r3 c3
      rw [r3]
      rw [c1,c2,c3]
      refine ⟨fun _=>?_,fun hh=>by simp at hh⟩
      show some (L9.mk l.s e3 l.labels l.op n3 m1 n1 l.label l.far)=some (L9.mk l.s e3 l.labels op n3 m1 n1 l.label false)
      rw [hop,hf]
     ·have t3:L9.rg (⟨l.s,e2,l.labels,l.op,l.a,m1,n1,l.label,l.far⟩:L9)=none:=t3 c3
      rw [t3,c3]
      exact ⟨fun hh=>by simp at hh,fun _=>rfl⟩
    ·have t2:cmL (⟨l.s,e1,l.labels,l.op,l.a,m1,n1,l.label,l.far⟩:L9)=none:=t2 c2
     rw [t2,c2]
     exact ⟨fun hh=>by simp at hh,fun _=>rfl⟩
  ·have t1:L9.addr l=none:=t1 c1
   rw [t1,c1]
   exact ⟨fun hh=>by simp at hh,fun _=>rfl⟩
theorem oABT (hz:fitsM (formM op) 0=true) (hpr:(formM op,(6:Int))∈FP) :
  ∃ (a b v:Int) (bd fr:Bool) (lb':ByteArray) (e:Nat),rzreader_operands.j0 (k+20) 6 false s (l.at_:Int) bad false false lb op 0 0 0=some (op,a,b,v,s,(e:Int),bad || bd,fr,false,lb')∧e≤s.size∧Agr (readA [.a,.b,.target] l) l op a b v bd fr e:=by
 obtain ⟨hs,hss,hi,hop,ha,hb,hv,hf,hl⟩:=h
 obtain ⟨n1,b1,e1,g1,q1,r1,t1⟩:=rg2 s hs false false lb bad l hss hi (k+18) (by omega)
 have g1:rzreader_register.f (k+18) s (l.at_:Int) bad false false lb=_:=g1
 obtain ⟨b2,e2,g2,q2,r2,t2⟩:=cm2 s hs false false lb (bad || b1) (⟨l.s,e1,l.labels,l.op,n1,l.b,l.imm,l.label,l.far⟩:L9) hss q1 (k+16) (by omega)
 have g2:rzreader_comma.f (k+16) s (e1:Int) (bad || b1) false false lb=_:=g2
 obtain ⟨n3,b3,e3,g3,q3,r3,t3⟩:=rg2 s hs false false lb ((bad || b1) || b2) (⟨l.s,e2,l.labels,l.op,n1,l.b,l.imm,l.label,l.far⟩:L9) hss q2 (k+14) (by omega)
 have g3:rzreader_register.f (k+14) s (e2:Int) ((bad || b1) || b2) false false lb=_:=g3
 obtain ⟨b4,e4,g4,q4,r4,t4⟩:=cm2 s hs false false lb (((bad || b1) || b2) || b3) (⟨l.s,e3,l.labels,l.op,n1,n3,l.imm,l.label,l.far⟩:L9) hss q3 (k+14) (by omega)
 have g4:rzreader_comma.f (k+14) s (e3:Int) (((bad || b1) || b2) || b3) false false lb=_:=g4
 obtain ⟨n5,b5,fr,lb',e5,g5,q5,r5,t5⟩:=rtg s hs false lb ((((bad || b1) || b2) || b3) || b4) hpr (⟨l.s,e4,l.labels,l.op,n1,n3,l.imm,l.label,l.far⟩:L9) hss (by rw [show (⟨l.s,e4,l.labels,l.op,n1,n3,l.imm,l.label,l.far⟩:L9).op=op from hop]) hl q4 (k+12) (by omega)
 have g5:rzreader_target.f (k+14) s (e4:Int) ((((bad || b1) || b2) || b3) || b4) false false lb 6=_:=g5
 refine ⟨n1,n3,n5,b1 || b2 || b3 || b4 || b5,fr,lb',e5,?_,q5,?_⟩
 ·show rzreader_operands.j0 (k+19+1) _ _ _ _ _ _ _ _ _ _ _ _=_
  rw [rzreader_operands.j0,if_neg (by decide)]
  show rzreader_operands.j1 (k+18+1) _ _ _ _ _ _ _ _ _ _ _ _=_
  rw [rzreader_operands.j1,show rzOperands.f (k+18) 6=some (hasA 5,hasB 5,(bytesM 5:Int)) from opnd_any (p:=5) (by decide) (k+6),Option.bind_some]
  simp only
  rw [show hasA 5=true from rfl,if_pos rfl]
  rw [g1,Option.bind_some]
  simp only
  show rzreader_operands.j2 (k+17+1) _ _ _ _ _ _ _ _ _ _ _ _ _=_
  rw [rzreader_operands.j2,if_pos rfl,if_neg (by decide)]
  show rzreader_operands.j3 (k+16+1) _ _ _ _ _ _ _ _ _ _ _ _ _=_
  rw [rzreader_operands.j3,if_pos (by rfl)]
  rw [g2,Option.bind_some]
  simp only
  show rzreader_operands.j4 (k+15+1) _ _ _ _ _ _ _ _ _ _ _ _=_
  rw [rzreader_operands.j4,if_neg (by decide),if_neg (by decide),if_neg (by decide)]
  show rzreader_operands.j5 (k+14+1) _ _ _ _ _ _ _ _ _ _ _ _ _ _=_
  rw [rzreader_operands.j5,if_neg (by decide)]
  rw [if_neg (by decide),if_pos rfl]
  rw [g3,Option.bind_some]
  simp only
  rw [g4,Option.bind_some]
  simp only
  rw [g5,Option.bind_some]
  simp only
  show rzreader_operands.j7 (k+13+1) _ _ _ _ _ _ _ _ _ _ _=_
  rw [rzreader_operands.j7,if_pos rfl]
  show rzreader_operands.j8 (k+12+1) _ _ _ _ _ _ _ _ _ _ _ _=_
  rw [rzreader_operands.j8,if_neg (by decide)]
  all_goals (try simp only [Bool.or_assoc])
 ·have e0:readA [.a,.b,.target] l=((l.rg.map fun p=>({ p.2 with a:=p.1 }:L9))).bind fun x1=>(cmL x1).bind fun x2=>((x2.rg.map fun p=>({ p.2 with b:=p.1 }:L9))).bind fun x3=>(cmL x3).bind fun x4=>(x4.tgt).bind fun x5=>some x5:=by
   unfold readA
   simp only
   congr 1
   funext x1
   rw [rest_cons]
   congr 1
   funext x2
   show (L9.run .b x2).bind _=_
   congr 1
   funext x3
   rw [rest_cons]
   rfl
  rw [e0]
  rcases bool_dich b1 with c1 | c1
  ·have r1:L9.rg l=some (n1,(⟨l.s,e1,l.labels,l.op,l.a,l.b,l.imm,l.label,l.far⟩:L9)):=r1 c1
   rw [r1]
   show Agr ((cmL (⟨l.s,e1,l.labels,l.op,n1,l.b,l.imm,l.label,l.far⟩:L9)).bind fun x2=>((x2.rg.map fun p=>({ p.2 with b:=p.1 }:L9))).bind fun x3=>(cmL x3).bind fun x4=>(x4.tgt).bind fun x5=>some x5) l op n1 n3 n5 (b1 || b2 || b3 || b4 || b5) fr e5
   rcases bool_dich b2 with c2 | c2
   ·have r2:cmL (⟨l.s,e1,l.labels,l.op,n1,l.b,l.imm,l.label,l.far⟩:L9)=some (⟨l.s,e2,l.labels,l.op,n1,l.b,l.imm,l.label,l.far⟩:L9):=r2 c2
    rw [r2]
    show Agr ((((⟨l.s,e2,l.labels,l.op,n1,l.b,l.imm,l.label,l.far⟩:L9).rg.map fun p=>({ p.2 with b:=p.1 }:L9))).bind fun x3=>(cmL x3).bind fun x4=>(x4.tgt).bind fun x5=>some x5) l op n1 n3 n5 (b1 || b2 || b3 || b4 || b5) fr e5
    rcases bool_dich b3 with c3 | c3
    ·have r3:L9.rg (⟨l.s,e2,l.labels,l.op,n1,l.b,l.imm,l.label,l.far⟩:L9)=some (n3,(⟨l.s,e3,l.labels,l.op,n1,l.b,l.imm,l.label,l.far⟩:L9)):=r3 c3
     rw [r3]
     show Agr ((cmL (⟨l.s,e3,l.labels,l.op,n1,n3,l.imm,l.label,l.far⟩:L9)).bind fun x4=>(x4.tgt).bind fun x5=>some x5) l op n1 n3 n5 (b1 || b2 || b3 || b4 || b5) fr e5
     rcases bool_dich b4 with c4 | c4
     ·have r4:cmL (⟨l.s,e3,l.labels,l.op,n1,n3,l.imm,l.label,l.far⟩:L9)=some (⟨l.s,e4,l.labels,l.op,n1,n3,l.imm,l.label,l.far⟩:L9):=r4 c4
      rw [r4]
      show Agr (((⟨l.s,e4,l.labels,l.op,n1,n3,l.imm,l.label,l.far⟩:L9).tgt).bind fun x5=>some x5) l op n1 n3 n5 (b1 || b2 || b3 || b4 || b5) fr e5
      rcases bool_dich b5 with c5 | c5
      ·have r5:L9.tgt (⟨l.s,e4,l.labels,l.op,n1,n3,l.imm,l.label,l.far⟩:L9)=some (if fr=true then (⟨l.s,e5,l.labels,l.op,n1,n3,l.imm,l.label,true⟩:L9) else (⟨l.s,e5,l.labels,l.op,n1,n3,n5,l.label,false⟩:L9)):=r5 c5
       rw [r5]
       rw [c1,c2,c3,c4,c5]
       refine ⟨fun _=>?_,fun hh=>by simp at hh⟩
       cases fr with
       | true =>
        show some (L9.mk l.s e5 l.labels l.op n1 n3 l.imm l.label true)=some (L9.mk l.s e5 l.labels op n1 n3 0 l.label true)
        rw [hop,hv]
       | false =>
        show some (L9.mk l.s e5 l.labels l.op n1 n3 n5 l.label false)=some (L9.mk l.s e5 l.labels op n1 n3 n5 l.label false)
        rw [hop]
      ·have t5:L9.tgt (⟨l.s,e4,l.labels,l.op,n1,n3,l.imm,l.label,l.far⟩:L9)=none:=t5 c5
       rw [t5,c5]
       exact ⟨fun hh=>by simp at hh,fun _=>rfl⟩
     ·have t4:cmL (⟨l.s,e3,l.labels,l.op,n1,n3,l.imm,l.label,l.far⟩:L9)=none:=t4 c4
      rw [t4,c4]
      exact ⟨fun hh=>by simp at hh,fun _=>rfl⟩
    ·have t3:L9.rg (⟨l.s,e2,l.labels,l.op,n1,l.b,l.imm,l.label,l.far⟩:L9)=none:=t3 c3
     rw [t3,c3]
     exact ⟨fun hh=>by simp at hh,fun _=>rfl⟩
   ·have t2:cmL (⟨l.s,e1,l.labels,l.op,n1,l.b,l.imm,l.label,l.far⟩:L9)=none:=t2 c2
    rw [t2,c2]
    exact ⟨fun hh=>by simp at hh,fun _=>rfl⟩
  ·have t1:L9.rg l=none:=t1 c1
   rw [t1,c1]
   exact ⟨fun hh=>by simp at hh,fun _=>rfl⟩
theorem oT (hz:fitsM (formM op) 0=true) (hpr:(formM op,(7:Int))∈FP) :
  ∃ (a b v:Int) (bd fr:Bool) (lb':ByteArray) (e:Nat),rzreader_operands.j0 (k+20) 7 false s (l.at_:Int) bad false false lb op 0 0 0=some (op,a,b,v,s,(e:Int),bad || bd,fr,false,lb')∧e≤s.size∧Agr (readA [.target] l) l op a b v bd fr e:=by
 obtain ⟨hs,hss,hi,hop,ha,hb,hv,hf,hl⟩:=h
 obtain ⟨n1,b1,fr,lb',e1,g1,q1,r1,t1⟩:=rtg s hs false lb bad hpr l hss (by rw [show l.op=op from hop]) hl hi (k+11) (by omega)
 have g1:rzreader_target.f (k+13) s (l.at_:Int) bad false false lb 7=_:=g1
 refine ⟨0,0,n1,b1,fr,lb',e1,?_,q1,?_⟩
 ·show rzreader_operands.j0 (k+19+1) _ _ _ _ _ _ _ _ _ _ _ _=_
  rw [rzreader_operands.j0,if_neg (by decide)]
  show rzreader_operands.j1 (k+18+1) _ _ _ _ _ _ _ _ _ _ _ _=_
  rw [rzreader_operands.j1,show rzOperands.f (k+18) 7=some (hasA 6,hasB 6,(bytesM 6:Int)) from opnd_any (p:=6) (by decide) (k+6),Option.bind_some]
  simp only
  rw [show hasA 6=false from rfl,if_neg (by decide)]
  show rzreader_operands.j2 (k+17+1) _ _ _ _ _ _ _ _ _ _ _ _ _=_
  rw [rzreader_operands.j2,if_neg (by decide)]
  show rzreader_operands.j3 (k+16+1) _ _ _ _ _ _ _ _ _ _ _ _ _=_
  rw [rzreader_operands.j3,if_neg (by decide)]
  show rzreader_operands.j4 (k+15+1) _ _ _ _ _ _ _ _ _ _ _ _=_
  rw [rzreader_operands.j4,if_neg (by decide),if_neg (by decide),if_neg (by decide)]
  show rzreader_operands.j5 (k+14+1) _ _ _ _ _ _ _ _ _ _ _ _ _ _=_
  rw [rzreader_operands.j5,if_neg (by decide)]
  rw [if_neg (by decide),if_neg (by decide),if_pos rfl]
  show rzreader_operands.j6 (k+13+1) _ _ _ _ _ _ _ _ _ _ _ _ _=_
  rw [rzreader_operands.j6,if_pos (by rfl)]
  rw [g1,Option.bind_some]
  simp only
  show rzreader_operands.j7 (k+12+1) _ _ _ _ _ _ _ _ _ _ _=_
  rw [rzreader_operands.j7,if_neg (by decide),if_pos rfl]
  show rzreader_operands.j8 (k+11+1) _ _ _ _ _ _ _ _ _ _ _ _=_
  rw [rzreader_operands.j8,if_neg (by decide)]
  all_goals (try simp only [Bool.or_assoc])
 ·have e0:readA [.target] l=(l.tgt).bind fun x1=>some x1:=by
   first | rfl | (unfold readA;simp only;congr 1)
  rw [e0]
  rcases bool_dich b1 with c1 | c1
  ·have r1:L9.tgt l=some (if fr=true then (⟨l.s,e1,l.labels,l.op,l.a,l.b,l.imm,l.label,true⟩:L9) else (⟨l.s,e1,l.labels,l.op,l.a,l.b,n1,l.label,false⟩:L9)):=r1 c1
   rw [r1]
   rw [c1]
   refine ⟨fun _=>?_,fun hh=>by simp at hh⟩
   cases fr with
   | true =>
    show some (L9.mk l.s e1 l.labels l.op l.a l.b l.imm l.label true)=some (L9.mk l.s e1 l.labels op 0 0 0 l.label true)
    rw [hop,hv,ha,hb]
   | false =>
    show some (L9.mk l.s e1 l.labels l.op l.a l.b n1 l.label false)=some (L9.mk l.s e1 l.labels op 0 0 n1 l.label false)
    rw [hop,ha,hb]
  ·have t1:L9.tgt l=none:=t1 c1
   rw [t1,c1]
   exact ⟨fun hh=>by simp at hh,fun _=>rfl⟩
theorem oA (hz:fitsM (formM op) 0=true) (hpr:(formM op,(8:Int))∈FP) :
  ∃ (a b v:Int) (bd fr:Bool) (lb':ByteArray) (e:Nat),rzreader_operands.j0 (k+20) 8 false s (l.at_:Int) bad false false lb op 0 0 0=some (op,a,b,v,s,(e:Int),bad || bd,fr,false,lb')∧e≤s.size∧Agr (readA [.a] l) l op a b v bd fr e:=by
 obtain ⟨hs,hss,hi,hop,ha,hb,hv,hf,hl⟩:=h
 obtain ⟨n1,b1,e1,g1,q1,r1,t1⟩:=rg2 s hs false false lb bad l hss hi (k+18) (by omega)
 have g1:rzreader_register.f (k+18) s (l.at_:Int) bad false false lb=_:=g1
 refine ⟨n1,0,0,b1,false,lb,e1,?_,q1,?_⟩
 ·show rzreader_operands.j0 (k+19+1) _ _ _ _ _ _ _ _ _ _ _ _=_
  rw [rzreader_operands.j0,if_neg (by decide)]
  show rzreader_operands.j1 (k+18+1) _ _ _ _ _ _ _ _ _ _ _ _=_
  rw [rzreader_operands.j1,show rzOperands.f (k+18) 8=some (hasA 2,hasB 2,(bytesM 2:Int)) from opnd_any (p:=2) (by decide) (k+6),Option.bind_some]
  simp only
  rw [show hasA 2=true from rfl,if_pos rfl]
  rw [g1,Option.bind_some]
  simp only
  show rzreader_operands.j2 (k+17+1) _ _ _ _ _ _ _ _ _ _ _ _ _=_
  rw [rzreader_operands.j2,if_pos rfl,if_pos rfl]
  show rzreader_operands.j3 (k+16+1) _ _ _ _ _ _ _ _ _ _ _ _ _=_
  rw [rzreader_operands.j3,if_neg (by decide)]
  show rzreader_operands.j4 (k+15+1) _ _ _ _ _ _ _ _ _ _ _ _=_
  rw [rzreader_operands.j4,if_neg (by decide),if_neg (by decide),if_neg (by decide)]
  show rzreader_operands.j5 (k+14+1) _ _ _ _ _ _ _ _ _ _ _ _ _ _=_
  rw [rzreader_operands.j5,if_neg (by decide)]
  rw [if_neg (by decide),if_neg (by decide),if_neg (by decide)]
  show rzreader_operands.j6 (k+13+1) _ _ _ _ _ _ _ _ _ _ _ _ _=_
  rw [rzreader_operands.j6,if_neg (by decide),if_neg (by decide)]
  show rzreader_operands.j7 (k+12+1) _ _ _ _ _ _ _ _ _ _ _=_
  rw [rzreader_operands.j7,if_neg (by decide),if_neg (by decide)]
  show rzreader_operands.j8 (k+11+1) _ _ _ _ _ _ _ _ _ _ _ _=_
  rw [rzreader_operands.j8,if_pos (by rfl),rfits_f hpr 0 (k+11) (by omega),hz,Option.bind_some,rms,Option.bind_some]
  all_goals (try simp only [Bool.not_true,Bool.or_false,Bool.or_assoc])
 ·have e0:readA [.a] l=((l.rg.map fun p=>({ p.2 with a:=p.1 }:L9))).bind fun x1=>some x1:=by
   first | rfl | (unfold readA;simp only;congr 1)
  rw [e0]
  rcases bool_dich b1 with c1 | c1
  ·have r1:L9.rg l=some (n1,(⟨l.s,e1,l.labels,l.op,l.a,l.b,l.imm,l.label,l.far⟩:L9)):=r1 c1
   rw [r1]
   rw [c1]
   refine ⟨fun _=>?_,fun hh=>by simp at hh⟩
   show some (L9.mk l.s e1 l.labels l.op n1 l.b l.imm l.label l.far)=some (L9.mk l.s e1 l.labels op n1 0 0 l.label false)
   rw [hop,hf,hb,hv]
  ·have t1:L9.rg l=none:=t1 c1
   rw [t1,c1]
   exact ⟨fun hh=>by simp at hh,fun _=>rfl⟩
theorem oAT (hz:fitsM (formM op) 0=true) (hpr:(formM op,(9:Int))∈FP) :
  ∃ (a b v:Int) (bd fr:Bool) (lb':ByteArray) (e:Nat),rzreader_operands.j0 (k+20) 9 false s (l.at_:Int) bad false false lb op 0 0 0=some (op,a,b,v,s,(e:Int),bad || bd,fr,false,lb')∧e≤s.size∧Agr (readA [.a,.target] l) l op a b v bd fr e:=by
 obtain ⟨hs,hss,hi,hop,ha,hb,hv,hf,hl⟩:=h
 obtain ⟨n1,b1,e1,g1,q1,r1,t1⟩:=rg2 s hs false false lb bad l hss hi (k+18) (by omega)
 have g1:rzreader_register.f (k+18) s (l.at_:Int) bad false false lb=_:=g1
 obtain ⟨b2,e2,g2,q2,r2,t2⟩:=cm2 s hs false false lb (bad || b1) (⟨l.s,e1,l.labels,l.op,n1,l.b,l.imm,l.label,l.far⟩:L9) hss q1 (k+16) (by omega)
 have g2:rzreader_comma.f (k+16) s (e1:Int) (bad || b1) false false lb=_:=g2
 obtain ⟨n3,b3,fr,lb',e3,g3,q3,r3,t3⟩:=rtg s hs false lb ((bad || b1) || b2) hpr (⟨l.s,e2,l.labels,l.op,n1,l.b,l.imm,l.label,l.far⟩:L9) hss (by rw [show (⟨l.s,e2,l.labels,l.op,n1,l.b,l.imm,l.label,l.far⟩:L9).op=op from hop]) hl q2 (k+11) (by omega)
 have g3:rzreader_target.f (k+13) s (e2:Int) ((bad || b1) || b2) false false lb 9=_:=g3
 refine ⟨n1,0,n3,b1 || b2 || b3,fr,lb',e3,?_,q3,?_⟩
 ·show rzreader_operands.j0 (k+19+1) _ _ _ _ _ _ _ _ _ _ _ _=_
  rw [rzreader_operands.j0,if_neg (by decide)]
  show rzreader_operands.j1 (k+18+1) _ _ _ _ _ _ _ _ _ _ _ _=_
  rw [rzreader_operands.j1,show rzOperands.f (k+18) 9=some (hasA 7,hasB 7,(bytesM 7:Int)) from opnd_any (p:=7) (by decide) (k+6),Option.bind_some]
  simp only
  rw [show hasA 7=true from rfl,if_pos rfl]
  rw [g1,Option.bind_some]
  simp only
  show rzreader_operands.j2 (k+17+1) _ _ _ _ _ _ _ _ _ _ _ _ _=_
  rw [rzreader_operands.j2,if_pos rfl,if_neg (by decide)]
  show rzreader_operands.j3 (k+16+1) _ _ _ _ _ _ _ _ _ _ _ _ _=_
  rw [rzreader_operands.j3,if_pos (by rfl)]
  rw [g2,Option.bind_some]
  simp only
  show rzreader_operands.j4 (k+15+1) _ _ _ _ _ _ _ _ _ _ _ _=_
  rw [rzreader_operands.j4,if_neg (by decide),if_neg (by decide),if_neg (by decide)]
  show rzreader_operands.j5 (k+14+1) _ _ _ _ _ _ _ _ _ _ _ _ _ _=_
  rw [rzreader_operands.j5,if_neg (by decide)]
  rw [if_neg (by decide),if_neg (by decide),if_neg (by decide)]
  show rzreader_operands.j6 (k+13+1) _ _ _ _ _ _ _ _ _ _ _ _ _=_
  rw [rzreader_operands.j6,if_pos (by rfl)]
  rw [g3,Option.bind_some]
  simp only
  show rzreader_operands.j7 (k+12+1) _ _ _ _ _ _ _ _ _ _ _=_
  rw [rzreader_operands.j7,if_neg (by decide),if_neg (by decide)]
  show rzreader_operands.j8 (k+11+1) _ _ _ _ _ _ _ _ _ _ _ _=_
  rw [rzreader_operands.j8,if_neg (by decide)]
  all_goals (try simp only [Bool.or_assoc])
 ·have e0:readA [.a,.target] l=((l.rg.map fun p=>({ p.2 with a:=p.1 }:L9))).bind fun x1=>(cmL x1).bind fun x2=>(x2.tgt).bind fun x3=>some x3:=by
   unfold readA
   simp only
   congr 1
   funext x1
   rw [rest_cons]
   rfl
  rw [e0]
  rcases bool_dich b1 with c1 | c1
  ·have r1:L9.rg l=some (n1,(⟨l.s,e1,l.labels,l.op,l.a,l.b,l.imm,l.label,l.far⟩:L9)):=r1 c1
   rw [r1]
   show Agr ((cmL (⟨l.s,e1,l.labels,l.op,n1,l.b,l.imm,l.label,l.far⟩:L9)).bind fun x2=>(x2.tgt).bind fun x3=>some x3) l op n1 0 n3 (b1 || b2 || b3) fr e3
   rcases bool_dich b2 with c2 | c2
   ·have r2:cmL (⟨l.s,e1,l.labels,l.op,n1,l.b,l.imm,l.label,l.far⟩:L9)=some (⟨l.s,e2,l.labels,l.op,n1,l.b,l.imm,l.label,l.far⟩:L9):=r2 c2
    rw [r2]
    show Agr (((⟨l.s,e2,l.labels,l.op,n1,l.b,l.imm,l.label,l.far⟩:L9).tgt).bind fun x3=>some x3) l op n1 0 n3 (b1 || b2 || b3) fr e3
    rcases bool_dich b3 with c3 | c3
    ·have r3:L9.tgt (⟨l.s,e2,l.labels,l.op,n1,l.b,l.imm,l.label,l.far⟩:L9)=some (if fr=true then (⟨l.s,e3,l.labels,l.op,n1,l.b,l.imm,l.label,true⟩:L9) else (⟨l.s,e3,l.labels,l.op,n1,l.b,n3,l.label,false⟩:L9)):=r3 c3
     rw [r3]
     rw [c1,c2,c3]
     refine ⟨fun _=>?_,fun hh=>by simp at hh⟩
     cases fr with
     | true =>
      show some (L9.mk l.s e3 l.labels l.op n1 l.b l.imm l.label true)=some (L9.mk l.s e3 l.labels op n1 0 0 l.label true)
      rw [hop,hv,hb]
     | false =>
      show some (L9.mk l.s e3 l.labels l.op n1 l.b n3 l.label false)=some (L9.mk l.s e3 l.labels op n1 0 n3 l.label false)
      rw [hop,hb]
    ·have t3:L9.tgt (⟨l.s,e2,l.labels,l.op,n1,l.b,l.imm,l.label,l.far⟩:L9)=none:=t3 c3
     rw [t3,c3]
     exact ⟨fun hh=>by simp at hh,fun _=>rfl⟩
   ·have t2:cmL (⟨l.s,e1,l.labels,l.op,n1,l.b,l.imm,l.label,l.far⟩:L9)=none:=t2 c2
    rw [t2,c2]
    exact ⟨fun hh=>by simp at hh,fun _=>rfl⟩
  ·have t1:L9.rg l=none:=t1 c1
   rw [t1,c1]
   exact ⟨fun hh=>by simp at hh,fun _=>rfl⟩
theorem oAP (hz:fitsM (formM op) 0=true) (hpr:(formM op,(11:Int))∈FP) :
  ∃ (a b v:Int) (bd fr:Bool) (lb':ByteArray) (e:Nat),rzreader_operands.j0 (k+20) 11 false s (l.at_:Int) bad false false lb op 0 0 0=some (op,a,b,v,s,(e:Int),bad || bd,fr,false,lb')∧e≤s.size∧Agr (readA [.a,.mem] l) l op a b v bd fr e:=by
 obtain ⟨hs,hss,hi,hop,ha,hb,hv,hf,hl⟩:=h
 obtain ⟨n1,b1,e1,g1,q1,r1,t1⟩:=rg2 s hs false false lb bad l hss hi (k+18) (by omega)
 have g1:rzreader_register.f (k+18) s (l.at_:Int) bad false false lb=_:=g1
 obtain ⟨b2,e2,g2,q2,r2,t2⟩:=cm2 s hs false false lb (bad || b1) (⟨l.s,e1,l.labels,l.op,n1,l.b,l.imm,l.label,l.far⟩:L9) hss q1 (k+16) (by omega)
 have g2:rzreader_comma.f (k+16) s (e1:Int) (bad || b1) false false lb=_:=g2
 obtain ⟨m3,b3,e3,g3,q3,r3,t3⟩:=rmm s hs false lb ((bad || b1) || b2) false (⟨l.s,e2,l.labels,l.op,n1,l.b,l.imm,l.label,l.far⟩:L9) hss q2 (k+12) (by omega)
 have g3:rzreader_address.f (k+13) s (e2:Int) ((bad || b1) || b2) false false lb true=_:=g3
 refine ⟨n1,m3,0,b1 || b2 || b3,false,lb,e3,?_,q3,?_⟩
 ·show rzreader_operands.j0 (k+19+1) _ _ _ _ _ _ _ _ _ _ _ _=_
  rw [rzreader_operands.j0,if_neg (by decide)]
  show rzreader_operands.j1 (k+18+1) _ _ _ _ _ _ _ _ _ _ _ _=_
  rw [rzreader_operands.j1,show rzOperands.f (k+18) 11=some (hasA 1,hasB 1,(bytesM 1:Int)) from opnd_any (p:=1) (by decide) (k+6),Option.bind_some]
  simp only
  rw [show hasA 1=true from rfl,if_pos rfl]
  rw [g1,Option.bind_some]
  simp only
  show rzreader_operands.j2 (k+17+1) _ _ _ _ _ _ _ _ _ _ _ _ _=_
  rw [rzreader_operands.j2,if_pos rfl,if_neg (by decide)]
  show rzreader_operands.j3 (k+16+1) _ _ _ _ _ _ _ _ _ _ _ _ _=_
  rw [rzreader_operands.j3,if_pos (by rfl)]
  rw [g2,Option.bind_some]
  simp only
  show rzreader_operands.j4 (k+15+1) _ _ _ _ _ _ _ _ _ _ _ _=_
  rw [rzreader_operands.j4,if_neg (by decide),if_neg (by decide),if_neg (by decide)]
  show rzreader_operands.j5 (k+14+1) _ _ _ _ _ _ _ _ _ _ _ _ _ _=_
  rw [rzreader_operands.j5,if_neg (by decide)]
  rw [if_neg (by decide),if_neg (by decide),if_neg (by decide)]
  show rzreader_operands.j6 (k+13+1) _ _ _ _ _ _ _ _ _ _ _ _ _=_
  rw [rzreader_operands.j6,if_neg (by decide),if_pos rfl]
  rw [g3,Option.bind_some]
  simp only
  show rzreader_operands.j7 (k+12+1) _ _ _ _ _ _ _ _ _ _ _=_
  rw [rzreader_operands.j7,if_neg (by decide),if_neg (by decide)]
  show rzreader_operands.j8 (k+11+1) _ _ _ _ _ _ _ _ _ _ _ _=_
  rw [rzreader_operands.j8,if_pos (by rfl),rfits_f hpr 0 (k+11) (by omega),hz,Option.bind_some,rms,Option.bind_some]
  all_goals (try simp only [Bool.not_true,Bool.or_false,Bool.or_assoc])
 ·have e0:readA [.a,.mem] l=((l.rg.map fun p=>({ p.2 with a:=p.1 }:L9))).bind fun x1=>(cmL x1).bind fun x2=>(x2.mem).bind fun x3=>some x3:=by
   unfold readA
   simp only
   congr 1
   funext x1
   rw [rest_cons]
   rfl
  rw [e0]
  rcases bool_dich b1 with c1 | c1
  ·have r1:L9.rg l=some (n1,(⟨l.s,e1,l.labels,l.op,l.a,l.b,l.imm,l.label,l.far⟩:L9)):=r1 c1
   rw [r1]
   show Agr ((cmL (⟨l.s,e1,l.labels,l.op,n1,l.b,l.imm,l.label,l.far⟩:L9)).bind fun x2=>(x2.mem).bind fun x3=>some x3) l op n1 m3 0 (b1 || b2 || b3) false e3
   rcases bool_dich b2 with c2 | c2
   ·have r2:cmL (⟨l.s,e1,l.labels,l.op,n1,l.b,l.imm,l.label,l.far⟩:L9)=some (⟨l.s,e2,l.labels,l.op,n1,l.b,l.imm,l.label,l.far⟩:L9):=r2 c2
    rw [r2]
    show Agr (((⟨l.s,e2,l.labels,l.op,n1,l.b,l.imm,l.label,l.far⟩:L9).mem).bind fun x3=>some x3) l op n1 m3 0 (b1 || b2 || b3) false e3
    rcases bool_dich b3 with c3 | c3
    ·have r3:L9.mem (⟨l.s,e2,l.labels,l.op,n1,l.b,l.imm,l.label,l.far⟩:L9)=some (⟨l.s,e3,l.labels,l.op,n1,m3,l.imm,l.label,l.far⟩:L9):=r3 c3
     rw [r3]
     rw [c1,c2,c3]
     refine ⟨fun _=>?_,fun hh=>by simp at hh⟩
     show some (L9.mk l.s e3 l.labels l.op n1 m3 l.imm l.label l.far)=some (L9.mk l.s e3 l.labels op n1 m3 0 l.label false)
     rw [hop,hf,hv]
    ·have t3:L9.mem (⟨l.s,e2,l.labels,l.op,n1,l.b,l.imm,l.label,l.far⟩:L9)=none:=t3 c3
     rw [t3,c3]
     exact ⟨fun hh=>by simp at hh,fun _=>rfl⟩
   ·have t2:cmL (⟨l.s,e1,l.labels,l.op,n1,l.b,l.imm,l.label,l.far⟩:L9)=none:=t2 c2
    rw [t2,c2]
    exact ⟨fun hh=>by simp at hh,fun _=>rfl⟩
  ·have t1:L9.rg l=none:=t1 c1
   rw [t1,c1]
   exact ⟨fun hh=>by simp at hh,fun _=>rfl⟩
end
def rdN:Rd→Nat | .a=>0 | .b=>1 | .num=>2 | .mem=>3 | .addr=>4 | .target=>5
theorem rdN_inj {x y:Rd} (h:rdN x=rdN y):x=y:=by cases x <;> cases y <;> first | rfl | cases h
def clT:List (Int × Bool × List Nat):=[(1,false,[]),(2,false,[0,1]),(3,false,[0,2]),(4,false,[0,2]),(5,false,[0,4]),(5,true,[4,0]),(6,false,[0,1,5]),(7,false,[5]),(8,false,[0]),(9,false,[0,5]),(10,false,[2]),(11,false,[0,3])]
def stB (op:Int):Bool:=decide (op=19) || (op == 20)
def clB (n:Nat):Bool:=match rzForm.f 12 (n:Int) with | none=>false | some r=>fitsM (formM (n:Int)) 0 && decide ((formM (n:Int),r)∈FP) && decide ((r,stB (n:Int),(readsM (n:Int)).map rdN)∈clT)
theorem cl_fin:∀ i:Fin 77,nameM (i.val:Int)≠[]→clB i.val=true:=by decide +kernel
theorem map_rdN:∀ {l m:List Rd} (h:l.map rdN=m.map rdN),l=m
 | [],[],_=>rfl
 | [],_ :: _,h=>by simp at h
 | _ :: _,[],h=>by simp at h
 | x :: l,y :: m,h=>by
  simp only [List.map_cons,List.cons.injEq] at h
  rw [rdN_inj h.1,map_rdN h.2]
theorem opOf_named (n:List UInt8) (h:opOf n≠0):∃ i:Nat,i≤76∧nameM (i:Int)≠[]∧opOf n=(i:Int):=by
 by_cases hn:n=[]
 ·subst hn
  exact absurd (by decide +kernel) h
 ·by_cases hno:∀ i:Nat,i≤76→nameM (i:Int)≠n
  ·exact absurd (opOf_no n hn hno) h
  ·obtain ⟨i,hi⟩:=Classical.not_forall.1 hno
   obtain ⟨h1,h2⟩:=Classical.not_imp.1 hi
   have h2:nameM (i:Int)=n:=Classical.not_not.1 h2
   subst h2
   exact ⟨i,h1,hn,opOf_fin ⟨i,by omega⟩ hn⟩
theorem ops_f (k:Nat) (s:ByteArray) (i:Int) (b f x:Bool) (lb:ByteArray) (op:Int):rzreader_operands.f k s i b f x lb op=(rzForm.f k op).bind fun t=>rzreader_operands.j0 k t (stB op) s i b f x lb op 0 0 0:=by
 unfold rzreader_operands.f
 congr 1
 funext t
 unfold stB
 by_cases h:op=19
 ·rw [if_pos h,decide_eq_true h];rfl
 ·rw [if_neg h,decide_eq_false h];rfl
theorem rops {s:ByteArray} {l:L9} {i:Nat} (hi:i≤76) (hn:nameM (i:Int)≠[]) (h:St0 s l (i:Int)) (bad:Bool) (lb:ByteArray) (k:Nat) (hk:2 * s.size+40 < k) :
  ∃ r,(∀ k,rzForm.f (k+12) (i:Int)=some r)∧((r=1∧readsM (i:Int)=[])∨(r≠1∧readsM (i:Int)≠[]∧∃ (a b v:Int) (bd fr:Bool) (lb':ByteArray) (e:Nat),rzreader_operands.f (k+20) s (l.at_:Int) bad false false lb (i:Int)=some ((i:Int),a,b,v,s,(e:Int),bad || bd,fr,false,lb')∧e≤s.size∧Agr (readA (readsM (i:Int)) l) l (i:Int) a b v bd fr e)):=by
 have h1:=cl_fin ⟨i,by omega⟩ hn
 unfold clB at h1
 cases hr:rzForm.f 12 (i:Int) with
 | none=>rw [hr] at h1;cases h1
 | some r =>
  rw [hr] at h1
  simp only [Bool.and_eq_true,decide_eq_true_eq] at h1
  obtain ⟨⟨hz,hp⟩,hc⟩:=h1
  have hf:∀ k,rzForm.f (k+12) (i:Int)=some r:=fun k=>leO_up (rzForm.mono _) hr k
  refine ⟨r,hf,?_⟩
  rw [ops_f,show rzForm.f (k+20) (i:Int)=some r from hf (k+8),Option.bind_some]
  generalize hst:stB (i:Int)=st at hc
  simp only [clT,List.mem_cons,List.not_mem_nil,or_false,Prod.mk.injEq] at hc
  have NE:∀ (x:Rd) (y:List Rd),x :: y≠[]:=fun _ _ h=>by cases h
  rcases hc with ⟨rfl,rfl,hq⟩ | ⟨rfl,rfl,hq⟩ | ⟨rfl,rfl,hq⟩ | ⟨rfl,rfl,hq⟩ | ⟨rfl,rfl,hq⟩ | ⟨rfl,rfl,hq⟩ | ⟨rfl,rfl,hq⟩ | ⟨rfl,rfl,hq⟩ | ⟨rfl,rfl,hq⟩ | ⟨rfl,rfl,hq⟩ | ⟨rfl,rfl,hq⟩ | ⟨rfl,rfl,hq⟩
  ·exact .inl ⟨rfl,map_rdN (m:=[]) hq⟩
  ·rw [map_rdN (m:=[.a,.b]) hq]
   exact .inr ⟨by decide,NE _ _,oAB h bad lb k hk hz hp⟩
  ·rw [map_rdN (m:=[.a,.num]) hq]
   exact .inr ⟨by decide,NE _ _,oAN3 h bad lb k hk hz hp⟩
  ·rw [map_rdN (m:=[.a,.num]) hq]
   exact .inr ⟨by decide,NE _ _,oAN4 h bad lb k hk hz hp⟩
  ·rw [map_rdN (m:=[.a,.addr]) hq]
   exact .inr ⟨by decide,NE _ _,oAM h bad lb k hk hz hp⟩
  ·rw [map_rdN (m:=[.addr,.a]) hq]
   exact .inr ⟨by decide,NE _ _,oMA h bad lb k hk hz hp⟩
  ·rw [map_rdN (m:=[.a,.b,.target]) hq]
   exact .inr ⟨by decide,NE _ _,oABT h bad lb k hk hz hp⟩
  ·rw [map_rdN (m:=[.target]) hq]
   exact .inr ⟨by decide,NE _ _,oT h bad lb k hk hz hp⟩
  ·rw [map_rdN (m:=[.a]) hq]
   exact .inr ⟨by decide,NE _ _,oA h bad lb k hk hz hp⟩
  ·rw [map_rdN (m:=[.a,.target]) hq]
   exact .inr ⟨by decide,NE _ _,oAT h bad lb k hk hz hp⟩
  ·rw [map_rdN (m:=[.num]) hq]
   exact .inr ⟨by decide,NE _ _,oN h bad lb k hk hz hp⟩
  ·rw [map_rdN (m:=[.a,.mem]) hq]
   exact .inr ⟨by decide,NE _ _,oAP h bad lb k hk hz hp⟩
theorem rline (s:ByteArray) (hs:s.size≤1000000) (lb:ByteArray) (k:Nat) (hk:2 * s.size+300 < k) :
  ∃ (op a b v:Int) (bd fr:Bool) (lb':ByteArray) (e:Int),rzreader_line.f (k+20) s 0 false false false lb=some (op,a,b,v,s,e,bd,fr,false,lb') ∧
   (bd=true→(L9.new s false).instr=none)∧(bd=false→∃ l,(L9.new s false).instr=some l∧l.far=fr∧(fr=false→l.op=op∧l.a=a∧l.b=b∧l.imm=v)):=by
 obtain ⟨b0,hb0⟩:∃ x,runB isBl s 0=x:=⟨_,rfl⟩
 have l0:b0≤s.size:=by rw [← hb0];exact (runB_le isBl s 0 (Nat.zero_le _)).2
 obtain ⟨e1,he1⟩:∃ x,runB isWd s b0=x:=⟨_,rfl⟩
 have l1:e1≤s.size:=by rw [← he1];exact (runB_le isWd s b0 l0).2
 obtain ⟨b2,hb2⟩:∃ x,runB isBl s e1=x:=⟨_,rfl⟩
 have l2:b2≤s.size:=by rw [← hb2];exact (runB_le isBl s e1 l1).2
 have g0:=rbl s hs false false lb false 0 (k+20) (Nat.zero_le _) (by omega)
 have g1:=rwd s hs false false lb false b0 (k+20) l0 (by omega)
 have g2:=rop (s.extract b0 e1) (k+20) (by omega)
 have g3:=rbl s hs false false lb false e1 (k+20) l1 (by omega)
 rw [hb0] at g0
 rw [he1] at g1
 rw [hb2] at g3
 have q0:(L9.new s false).sk=⟨s,b0,false,0,0,0,0,⟨#[]⟩,false⟩:=by rw [← hb0];rfl
 obtain ⟨op,hop⟩:∃ x,opOf (s.extract b0 e1).data.toList=x:=⟨_,rfl⟩
 have q1:(L9.new s false).sk.mn=⟨s,e1,false,op,0,0,0,⟨#[]⟩,false⟩:=by
  rw [q0]
  unfold L9.mn L9.mnS L9.mnE L9.go
  simp only
  rw [he1,hop]
 have qs:(⟨s,e1,false,op,0,0,0,⟨#[]⟩,false⟩:L9).sk=⟨s,b2,false,op,0,0,0,⟨#[]⟩,false⟩:=by rw [← hb2];rfl
 have qf:∀ (e:Nat) (a b v:Int) (fr:Bool),(⟨s,e,false,op,a,b,v,⟨#[]⟩,fr⟩:L9).fin=if runB isBl s e=s.size then some ⟨s,runB isBl s e,false,op,a,b,v,⟨#[]⟩,fr⟩ else none:=fun e a b v fr=>rfl
 rw [hop] at g2
 unfold L9.instr
 rw [q1]
 show ∃ (op_ a b v:Int) (bd fr:Bool) (lb':ByteArray) (e:Int),_∧(bd=true→(if op=0 then none else (match L9.part 0 (readsM op) _ with | none=>none | some l2=>l2.fin))=none)∧(bd=false→∃ l,(if op=0 then none else (match L9.part 0 (readsM op) _ with | none=>none | some l2=>l2.fin))=some l∧_)
 unfold rzreader_line.f
 rw [show rzreader_blanks.f (k+20) s 0 false false false lb=_ from g0,Option.bind_some]
 simp only
 rw [g1,Option.bind_some]
 simp only
 rw [g2,Option.bind_some]
 by_cases h0:op=0
 ·rw [if_pos h0,if_pos h0]
  exact ⟨_,_,_,_,_,_,_,_,rfl,fun _=>rfl,fun h=>by cases h⟩
 rw [if_neg h0,if_neg h0,g3,Option.bind_some]
 simp only
 obtain ⟨i,hi,hn,hoi⟩:=opOf_named _ (by rw [hop];exact h0)
 rw [hop] at hoi
 subst hoi
 have hst:St0 s ⟨s,b2,false,(i:Int),0,0,0,⟨#[]⟩,false⟩ (i:Int):=⟨hs,rfl,l2,rfl,rfl,rfl,rfl,rfl,rfl⟩
 obtain ⟨r,hf,hr⟩:=rops hi hn hst (false || !decide ((b2:Int) > (e1:Int))) lb k (by omega)
 rw [show rzForm.f (k+20) (i:Int)=some r from hf (k+8),Option.bind_some]
 have hdec:((b2:Int) == (s.size:Int))=decide (b2=s.size):=by
  by_cases h:b2=s.size
  ·rw [decide_eq_true h,h];exact beq_self_eq_true _
  ·rw [decide_eq_false h];exact beq_eq_false_iff_ne.2 (by omega)
 rcases hr with ⟨rfl,hrd⟩ | ⟨hr1,hrd,a,b,v,bd,fr,lb',e,hop2,hle,hag⟩
 ·rw [if_pos rfl,rms s false false lb,Option.bind_some,hrd,hdec]
  simp only
  refine ⟨_,_,_,_,_,_,_,_,rfl,fun h=>?_,fun h=>?_⟩
  ·show L9.fin _=none
   rw [qf,hb2,if_neg (by intro hh;rw [decide_eq_true hh] at h;cases h)]
  ·have hh:b2=s.size:=by
    by_cases hh:b2=s.size
    ·exact hh
    ·rw [decide_eq_false hh] at h;cases h
   refine ⟨⟨s,b2,false,(i:Int),0,0,0,⟨#[]⟩,false⟩,?_,rfl,fun _=>⟨rfl,rfl,rfl,rfl⟩⟩
   show L9.fin _=some _
   rw [qf,hb2,if_pos hh]
 ·rw [if_neg hr1,rms s false false lb,Option.bind_some]
  simp only
  rw [show rzreader_operands.f (k+20) s (b2:Int) (false || !decide ((b2:Int) > (e1:Int))) false false lb (i:Int)=_ from hop2,Option.bind_some]
  simp only
  have g4:=rbl s hs fr false lb' ((false || !decide ((b2:Int) > (e1:Int))) || bd) e (k+20) hle (by omega)
  rw [g4,Option.bind_some]
  simp only
  rw [rms s fr false lb',Option.bind_some]
  have hdec2:(((runB isBl s e:Nat):Int) == (s.size:Int))=decide (runB isBl s e=s.size):=by
   by_cases h:runB isBl s e=s.size
   ·rw [decide_eq_true h,h];exact beq_self_eq_true _
   ·rw [decide_eq_false h];exact beq_eq_false_iff_ne.2 (by omega)
  have hsp:(⟨s,e1,false,(i:Int),0,0,0,⟨#[]⟩,false⟩:L9).sp=decide (b2 > e1):=by
   show decide (e1 < runB isBl s e1)=_
   rw [hb2]
  have hsp2:decide ((b2:Int) > (e1:Int))=decide (b2 > e1):=decide_eq_decide.2 (by omega)
  rw [hdec2,hsp2]
  simp only
  have hpart:L9.part 0 (readsM (i:Int)) ⟨s,e1,false,(i:Int),0,0,0,⟨#[]⟩,false⟩=if decide (b2 > e1)=true then readA (readsM (i:Int)) ⟨s,b2,false,(i:Int),0,0,0,⟨#[]⟩,false⟩ else none:=by
   cases hq:readsM (i:Int) with
   | nil=>exact absurd hq hrd
   | cons x ys =>
    unfold L9.part readA
    simp only
    rw [hsp,qs]
    congr 1
    cases L9.run x ⟨s,b2,false,(i:Int),0,0,0,⟨#[]⟩,false⟩ <;> rfl
  rw [hpart]
  refine ⟨_,_,_,_,_,_,_,_,rfl,fun h=>?_,fun h=>?_⟩
  ·rcases bool_dich (decide (b2 > e1)) with c | c
   ·rw [c,if_neg (by decide)]
   ·rw [c,if_pos rfl]
    rw [c] at h
    rcases bool_dich bd with d | d
    ·rw [hag.1 d]
     show L9.fin _=none
     rw [qf,if_neg]
     intro hh
     rw [decide_eq_true hh,d] at h
     cases h
    ·rw [hag.2 d]
  ·rcases bool_dich (decide (b2 > e1)) with c | c
   ·rw [c] at h;simp at h
   ·rw [c,if_pos rfl]
    rw [c] at h
    rcases bool_dich bd with d | d
    ·rw [d] at h
     rw [hag.1 d]
     have hh:runB isBl s e=s.size:=by
      by_cases hh:runB isBl s e=s.size
      ·exact hh
      ·rw [decide_eq_false hh] at h;cases h
     refine ⟨⟨s,runB isBl s e,false,(i:Int),a,b,if fr=true then 0 else v,⟨#[]⟩,fr⟩,?_,rfl,fun hfr=>?_⟩
     ·show L9.fin _=some _
      rw [qf,if_pos hh]
     ·subst hfr;exact ⟨rfl,rfl,rfl,rfl⟩
    ·rw [d] at h;simp at h
end Go.Proofs.YtffojmgmpfjlhaaGreatDoor.Q
