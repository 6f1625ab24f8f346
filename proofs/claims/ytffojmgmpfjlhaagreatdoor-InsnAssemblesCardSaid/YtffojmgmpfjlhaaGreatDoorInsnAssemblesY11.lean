/- Parts of the proof of InsnAssembles. -/
import Derived.Test.YtffojmgmpfjlhaaGreatDoorInsnAssemblesY10
set_option linter.unusedVariables false
set_option linter.unusedSimpArgs false
namespace Go.Proofs.YtffojmgmpfjlhaaGreatDoor.Q
open Go.Proofs.Ix hiding rd
open Go Go.Proofs.YtffojmgmpfjlhaaGreatDoor Go.RowKit Go.Proofs.YtffojmgmpfjlhaaGreatDoorW.PrintWords
theorem isl_f:∀ c:UInt8,rzisLetter.f (c.toNat:Int)=some (isLet c):=u8_all _ (by decide +kernel)
theorem dig_cmp:∀ c:UInt8,isLet c=false→isWd c=(!decide ((c.toNat:Int) < 48) && !decide ((c.toNat:Int) > 57)):=u8_all _ (by decide +kernel)
theorem isn_l0 (s:ByteArray) (hs:s.size≤31):∀ (d i k:Nat),i+d=s.size→d < k→1≤i→rzIsName.l0 k s (i:Int)=some ((s.data.toList.drop i).all isWd)
 | d,i,0,h1,h2,h3=>absurd h2 (Nat.not_lt_zero _)
 | 0,i,k+1,h1,h2,h3=>by
  have hlen:s.data.toList.length=s.size:=sz_list s
  rw [rzIsName.l0,if_neg (by omega),List.drop_of_length_le (by omega)]
  rfl
 | d+1,i,k+1,h1,h2,h3=>by
  have hlt:i < s.size:=by omega
  obtain ⟨e1,e2⟩:=bt_nat s i hlt
  have hl:i < s.data.toList.length:=(List.getElem?_eq_some_iff.1 e1).1
  have e3:s.data.toList[i]=s[i]:=(List.getElem?_eq_some_iff.1 e1).2
  have ih:=isn_l0 s hs d (i+1) k (by omega) (by omega) (by omega)
  rw [rzIsName.l0,if_pos (by omega),if_pos (by omega),e2,isl_f,Option.bind_some,List.drop_eq_getElem_cons hl,List.all_cons,e3,wrap_succ (by omega),ih]
  cases hL:isLet s[i] with
  | true =>
   rw [if_pos rfl]
   unfold isWd
   rw [hL]
   rfl
  | false =>
   rw [if_neg (by decide),if_neg (by omega),dig_cmp _ hL]
   by_cases c1:(s[i].toNat:Int) < 48
   ·rw [if_pos c1,decide_eq_true c1]
    rfl
   ·rw [if_neg c1,decide_eq_false c1]
    by_cases c2:(s[i].toNat:Int) > 57
    ·rw [if_pos c2,decide_eq_true c2]
     rfl
    ·rw [if_neg c2,decide_eq_false c2]
     rfl
theorem isn_f (s:ByteArray) (k:Nat) (hk:40≤k):rzIsName.f k s=some (nameB s):=by
 obtain ⟨k,rfl⟩:∃ m,k=m+1+1:=⟨k - 2,by omega⟩
 have hlen:s.data.toList.length=s.size:=sz_list s
 unfold rzIsName.f nameB isNameM
 by_cases c:(s.size:Int) < 1
 ·rw [if_pos c,rzIsName.j0,if_pos rfl]
  have:s.data.toList=[]:=List.eq_nil_of_length_eq_zero (by omega)
  rw [this]
 ·rw [if_neg c,rzIsName.j0]
  have hlt:0 < s.size:=by omega
  obtain ⟨e1,e2⟩:=bt_nat s 0 hlt
  cases hl:s.data.toList with
  | nil=>rw [hl] at hlen;simp at hlen;omega
  | cons c0 t =>
   have e3:s[0]=c0:=by
    rw [hl] at e1
    exact (Option.some.inj e1).symm
   by_cases c2:(s.size:Int) > 31
   ·rw [decide_eq_true c2,if_pos rfl]
    simp only
    rw [decide_eq_false (show ¬ (c0 :: t).length≤31 by rw [← hl];omega)]
    rfl
   ·have ih:=isn_l0 s (by omega) (s.size - 1) 1 k (by omega) (by omega) (by omega)
    have e4:bt s 0=(c0.toNat:Int):=by rw [← e3];exact e2
    rw [hl] at ih
    have w1:wrap64 (0+1)=((1:Nat):Int):=wrap_succ (i:=0) (by omega)
    have ih:rzIsName.l0 k s (wrap64 (0+1))=some (t.all isWd):=by
     rw [w1]
     exact ih
    rw [decide_eq_false c2,if_neg (by decide),rzIsName.l0,if_pos (by omega),if_pos (by omega),e4,isl_f,Option.bind_some,ih]
    simp only
    rw [decide_eq_true (show (c0 :: t).length≤31 by rw [← hl];omega)]
    cases hL:isLet c0 with
    | true =>
     rw [if_pos rfl,List.all_cons]
     unfold isWd
     rw [hL]
     rfl
    | false =>
     rw [if_neg (by decide),if_pos trivial]
     rfl
section
variable (s:ByteArray) (hs:s.size≤1000000) (lb:ByteArray)
include hs
theorem rtg2 (tx bad:Bool) {p r:Int} (hpr:(p,r)∈FP) (l:L9) (hl:l.s=s) (hop:formM l.op=p) (hlab:l.labels=tx) (hfl:l.far=false) (hzi:l.imm=0) (hlb:tx=true→lb=l.label) (hi:l.at_≤s.size) (k:Nat) (hk:2 * s.size+40 < k) :
  ∃ (n:Int) (bd fr:Bool) (lb':ByteArray) (e:Nat),rzreader_target.f (k+2) s (l.at_:Int) bad false tx lb r=some (n,s,(e:Int),bad || bd,fr,tx,lb')∧e≤s.size ∧
   (bd=false→l.tgt=some ⟨l.s,e,l.labels,l.op,l.a,l.b,if fr=true then 0 else n,if tx=true then lb' else l.label,fr⟩)∧(bd=true→l.tgt=none):=by
 subst hl
 obtain ⟨h0,eh0⟩:∃ h,hitS l.s l.at_ 46=h:=⟨_,rfl⟩
 unfold rzreader_target.f
 rw [show (46:Int)=((46:Nat):Int) from rfl,rnx l.s hs false tx lb bad l.at_ 46,Option.bind_some,eh0]
 simp only
 cases h0 with
 | false =>
  obtain ⟨e,he⟩:∃ e,runB isWd l.s l.at_=e:=⟨_,rfl⟩
  have hle:e≤l.s.size:=by rw [← he];exact (runB_le isWd l.s l.at_ hi).2
  rw [if_neg (by decide),if_neg (by decide),rwd l.s hs false tx lb bad l.at_ (k+2) hi (by omega),Option.bind_some,he]
  simp only
  cases tx with
  | false =>
   rw [if_neg (by decide),rms,Option.bind_some]
   refine ⟨0,true,false,_,_,rfl,hle,(fun h=>by cases h),fun _=>?_⟩
   unfold L9.tgt
   rw [hit_S,eh0,if_neg (by decide),hlab,if_neg (by decide)]
  | true =>
   rw [if_pos rfl,isn_f _ _ (by omega),Option.bind_some,rms,Option.bind_some]
   have hlabel:l.lab.label=l.s.extract l.at_ e:=by rw [← he];rfl
   refine ⟨0,!nameB (l.s.extract l.at_ e),false,l.s.extract l.at_ e,e,rfl,hle,fun hb=>?_,fun hb=>?_⟩
   ·unfold L9.tgt
    rw [hit_S,eh0,if_neg (by decide),hlab,if_pos rfl,hlabel,if_pos (by simpa using hb)]
    show some (L9.mk l.s (runB isWd l.s l.at_) l.labels l.op l.a l.b l.imm (l.s.extract l.at_ (runB isWd l.s l.at_)) l.far)=_
    rw [he,hzi,hfl,hlab]
    rfl
   ·unfold L9.tgt
    rw [hit_S,eh0,if_neg (by decide),hlab,if_pos rfl,hlabel,if_neg (by intro h;rw [h] at hb;cases hb)]
 | true =>
  have hlt:=hitS_lt eh0
  rw [if_pos rfl,if_pos rfl]
  obtain ⟨m,em⟩:∃ m,hitS l.s (l.at_+1) 45=m:=⟨_,rfl⟩
  obtain ⟨q,eq_⟩:∃ q,hitS l.s (l.at_+1) 43=q:=⟨_,rfl⟩
  have hj:(if (((l.at_+1:Nat)):Int) < (l.s.size:Int) then (if 0≤(((l.at_+1:Nat)):Int) then (rzreader_target.j0 (k+2) r (bt l.s (((l.at_+1:Nat)):Int) == 45) l.s (((l.at_+1:Nat)):Int) bad false tx lb) else none) else (rzreader_target.j0 (k+2) r false l.s (((l.at_+1:Nat)):Int) bad false tx lb))=rzreader_target.j0 (k+2) r m l.s (((l.at_+1:Nat)):Int) bad false tx lb:=by
   by_cases c:l.at_+1 < l.s.size
   ·rw [if_pos (by omega),if_pos (by omega),show (45:Int)=((45:Nat):Int) from rfl,bt_hit c 45,em]
   ·rw [if_neg (by omega)]
    have:m=false:=by rw [← em];unfold hitS;rw [dif_neg c]
    rw [this]
  rw [hj]
  obtain ⟨i1,ei1⟩:∃ i,(if (q || m)=true then l.at_+1+1 else l.at_+1)=i:=⟨_,rfl⟩
  have hi1:i1≤l.s.size:=by
   rw [← ei1]
   by_cases c:(q || m)=true
   ·rw [if_pos c]
    rw [Bool.or_eq_true] at c
    rcases c with c | c
    ·have:=hitS_lt (eq_.trans c);omega
    ·have:=hitS_lt (em.trans c);omega
   ·rw [if_neg c];omega
  have hnot:q=true→m=false:=by
   intro hq
   have h1:=eq_.trans hq
   have h3:=hitS_lt h1
   unfold hitS at h1 em
   rw [dif_pos h3] at h1 em
   rw [← em]
   have:l.s[l.at_+1].toNat=43:=by simpa using h1
   rw [this];decide
  have hj1:rzreader_target.j0 (k+2) r m l.s (((l.at_+1:Nat)):Int) bad false tx lb=rzreader_target.j1 (k+1) r m (q || m) l.s (i1:Int) bad false tx lb:=by
   show rzreader_target.j0 (k+1+1) _ _ _ _ _ _ _ _=_
   rw [rzreader_target.j0,show (43:Int)=((43:Nat):Int) from rfl,rnx l.s hs false tx lb bad (l.at_+1) 43,Option.bind_some,eq_]
   simp only
   cases q with
   | true =>
    rw [if_pos rfl,if_pos rfl]
    rw [show (true || m)=true from rfl,if_pos rfl] at ei1
    rw [ei1];rfl
   | false =>
    rw [if_neg (by decide),if_neg (by decide),show (45:Int)=((45:Nat):Int) from rfl,rnx l.s hs false tx lb bad (l.at_+1) 45,Option.bind_some,em]
    simp only
    rw [Bool.false_or] at ei1 ⊢
    rw [ei1]
  rw [hj1]
  obtain ⟨n',v,bd,ok,g1,g2,g3,g4⟩:=rsd_ l.s hs false tx lb (bad || !(q || m)) m i1 k hi1 (by omega)
  rw [rzreader_target.j1,rms,Option.bind_some]
  simp only
  rw [g1,Option.bind_some]
  simp only
  rw [g2,Option.bind_some]
  simp only
  obtain ⟨fr,efr⟩:∃ fr,(!(ok && fitsM p v))=fr:=⟨_,rfl⟩
  have hres:(if ok=true then ((rzfits.f k r v).bind fun t647=>(some (v,l.s,(runB isDig l.s i1:Int),(bad || !(q || m)) || bd,!t647,tx,lb))) else (some (v,l.s,(runB isDig l.s i1:Int),(bad || !(q || m)) || bd,true,tx,lb)))=some (v,l.s,(runB isDig l.s i1:Int),(bad || !(q || m)) || bd,fr,tx,lb):=by
   cases ok with
   | true=>rw [if_pos rfl,rfits_f hpr v k (by omega),Option.bind_some,← efr];rfl
   | false=>rw [if_neg (by decide),← efr];rfl
  rw [hres]
  have htgt:(q || m)=true→l.tgt=L9.setF p ((l.go i1).dg m):=by
   intro hqm
   rw [if_pos hqm] at ei1
   unfold L9.tgt
   rw [hit_S,eh0,if_pos rfl,hit_S,hit_S,hop]
   show (if hitS l.s (l.at_+1) 43=true then L9.setF p (l.next.next.dg false) else if hitS l.s (l.at_+1) 45=true then L9.setF p (l.next.next.dg true) else none)=_
   rw [eq_,em]
   have hnn:l.next.next=l.go i1:=by rw [← ei1];rfl
   rw [hnn]
   cases q with
   | true=>rw [if_pos rfl,hnot rfl]
   | false =>
    rw [Bool.false_or] at hqm
    rw [if_neg (by decide),if_pos hqm,hqm]
  have hdg:(l.go i1).dg m=if 0 < (dgs l.s i1).length then (if (dgs l.s i1).length≤19 then some (numR m (dgs l.s i1),(l.go i1).go (runB isDig l.s i1)) else none) else none:=dg_eq (l.go i1) hi1 m
  obtain ⟨d1,d2⟩:=bd_dec g3
  have hL:(if tx=true then lb else l.label)=l.label:=by
   cases tx with
   | false=>rfl
   | true=>exact hlb rfl
  refine ⟨v,(!(q || m)) || bd,fr,lb,_,by rw [Bool.or_assoc],(runB_le isDig l.s i1 hi1).2,?_,?_⟩
  ·intro hb
   rw [Bool.or_eq_false_iff] at hb
   have hqm:(q || m)=true:=by cases hq:(q || m) with | true=>rfl | false=>rw [hq] at hb;cases hb.1
   have hnd:=d1 hb.2
   obtain ⟨o1,o2⟩:=g4 hb.2
   rw [htgt hqm,hdg,if_pos hnd.1,if_pos hnd.2]
   unfold L9.setF
   cases hn:numR m (dgs l.s i1) with
   | none =>
    rw [hn] at o1
    have o1:ok=false:=o1
    rw [o1] at efr
    have efr:true=fr:=efr
    rw [← efr,hL]
    show some (L9.mk l.s _ l.labels l.op l.a l.b l.imm l.label true)=_
    rw [hzi]
    rfl
   | some x =>
    rw [hn] at o1
    have o1:ok=true:=o1
    have ex:=o2 x hn
    subst ex
    rw [o1] at efr
    have efr:(!fitsM p v)=fr:=efr
    simp only
    by_cases hfit:fitsM p v=true
    ·rw [hfit] at efr
     have efr:false=fr:=efr
     rw [if_pos hfit,← efr,hL]
     rfl
    ·rw [if_neg hfit]
     rw [Bool.eq_false_iff.2 hfit] at efr
     have efr:true=fr:=efr
     rw [← efr,hL]
     show some (L9.mk l.s _ l.labels l.op l.a l.b l.imm l.label true)=_
     rw [hzi]
     rfl
  ·intro hb
   by_cases hqm:(q || m)=true
   ·rw [htgt hqm,hdg]
    rw [hqm] at hb
    have hb:bd=true:=hb
    have hnd:=d2 hb
    by_cases c1:0 < (dgs l.s i1).length
    ·rw [if_pos c1,if_neg (fun c2=>hnd ⟨c1,c2⟩)];rfl
    ·rw [if_neg c1];rfl
   ·have hqm:=Bool.eq_false_iff.2 hqm
    rw [Bool.or_eq_false_iff] at hqm
    unfold L9.tgt
    rw [hit_S,eh0,if_pos rfl,hit_S,hit_S]
    show (if hitS l.s (l.at_+1) 43=true then _ else if hitS l.s (l.at_+1) 45=true then _ else none)=_
    rw [eq_,em,hqm.1,hqm.2,if_neg (by decide),if_neg (by decide)]
end
def readB (ks:List Rd) (l:L9):Option L9:=match ks with | []=>some l | k :: ks=>(L9.run k l).bind (L9.rest ks)
def Agr2 (R:Option L9) (l:L9) (op a b v:Int) (bd fr:Bool) (lab:ByteArray) (e:Nat):Prop :=
 (bd=false→R=some ⟨l.s,e,l.labels,op,a,b,if fr=true then 0 else v,lab,fr⟩)∧(bd=true→R=none)
structure St2 (s:ByteArray) (l:L9) (op:Int) (tx:Bool) (lb:ByteArray):Prop where
 hs:s.size≤1000000
 s_:l.s=s
 at_:l.at_≤s.size
 op_:l.op=op
 a_:l.a=0
 b_:l.b=0
 v_:l.imm=0
 far:l.far=false
 lab:l.labels=tx
 lbl:tx=true→lb=l.label
theorem bool_di2 (b:Bool):b=false∨b=true:=by cases b <;> simp
section
variable {s:ByteArray} {l:L9} {op:Int} {tx:Bool} {lb:ByteArray} (h:St2 s l op tx lb) (bad:Bool) (k:Nat) (hk:2 * s.size+40 < k)
include h hk
theorem p2AB (hz:fitsM (formM op) 0=true) (hpr:(formM op,(2:Int))∈FP) :
  ∃ (a b v:Int) (bd fr:Bool) (lb':ByteArray) (e:Nat),rzreader_operands.j0 (k+20) 2 false s (l.at_:Int) bad false tx lb op 0 0 0=some (op,a,b,v,s,(e:Int),bad || bd,fr,tx,lb')∧e≤s.size∧Agr2 (readB [.a,.b] l) l op a b v bd fr (if tx=true then lb' else l.label) e:=by
 obtain ⟨hs,hss,hi,hop,ha,hb,hv,hf,hl,hlb⟩:=h
 obtain ⟨n1,b1,e1,g1,q1,r1,t1⟩:=rg2 s hs false tx lb bad l hss hi (k+18) (by omega)
 have g1:rzreader_register.f (k+18) s (l.at_:Int) bad false tx lb=_:=g1
 obtain ⟨b2,e2,g2,q2,r2,t2⟩:=cm2 s hs false tx lb (bad || b1) (⟨l.s,e1,l.labels,l.op,n1,l.b,l.imm,l.label,l.far⟩:L9) hss q1 (k+16) (by omega)
 have g2:rzreader_comma.f (k+16) s (e1:Int) (bad || b1) false tx lb=_:=g2
 obtain ⟨n3,b3,e3,g3,q3,r3,t3⟩:=rg2 s hs false tx lb ((bad || b1) || b2) (⟨l.s,e2,l.labels,l.op,n1,l.b,l.imm,l.label,l.far⟩:L9) hss q2 (k+15) (by omega)
 have g3:rzreader_register.f (k+15) s (e2:Int) ((bad || b1) || b2) false tx lb=_:=g3
 refine ⟨n1,n3,0,b1 || b2 || b3,false,lb,e3,?_,q3,?_⟩
 ·show rzreader_operands.j0 (k+19+1) _ _ _ _ _ _ _ _ _ _ _ _=_
  rw [rzreader_operands.j0,if_neg (by decide)]
  show rzreader_operands.j1 (k+18+1) _ _ _ _ _ _ _ _ _ _ _ _=_
  rw [rzreader_operands.j1,show rzOperands.f (k+18) 2=some (hasA 1,hasB 1,(bytesM 1:Int)) from opnd_any (p:=1) (by decide) (k+6),Option.bind_some]
  simp only
  rw [show hasA 1=true from rfl,if_pos rfl]
  rw [g1,Option.bind_some]
  simp only
  show rzreader_operands.j2 (k+17+1) _ _ _ _ _ _ _ _ _ _ _ _ _=_
  rw [rzreader_operands.j2,if_pos rfl,if_neg (by decide)]
  show rzreader_operands.j3 (k+16+1) _ _ _ _ _ _ _ _ _ _ _ _ _=_
  rw [rzreader_operands.j3,if_pos (by rfl)]
  rw [g2,Option.bind_some]
  simp only
  show rzreader_operands.j4 (k+15+1) _ _ _ _ _ _ _ _ _ _ _ _=_
  rw [rzreader_operands.j4,if_pos rfl]
  rw [g3,Option.bind_some]
  simp only
  show rzreader_operands.j7 (k+14+1) _ _ _ _ _ _ _ _ _ _ _=_
  rw [rzreader_operands.j7,if_neg (by decide),if_neg (by decide)]
  show rzreader_operands.j8 (k+13+1) _ _ _ _ _ _ _ _ _ _ _ _=_
  rw [rzreader_operands.j8,if_pos (by rfl),rfits_f hpr 0 (k+13) (by omega),hz,Option.bind_some,rms,Option.bind_some]
  all_goals (try simp only [Bool.not_true,Bool.or_false,Bool.or_assoc])
 ·have e0:readB [.a,.b] l=((l.rg.map fun p=>({ p.2 with a:=p.1 }:L9))).bind fun x1=>(cmL x1).bind fun x2=>((x2.rg.map fun p=>({ p.2 with b:=p.1 }:L9))).bind fun x3=>some x3:=by
   unfold readB
   simp only
   congr 1
   funext x1
   rw [rest_cons]
   rfl
  rw [e0]
  rw [show (if tx=true then lb else l.label)=l.label from by cases tx with | false=>rfl | true=>exact hlb rfl]
  rcases bool_di2 b1 with c1 | c1
  ·have r1:L9.rg l=some (n1,(⟨l.s,e1,l.labels,l.op,l.a,l.b,l.imm,l.label,l.far⟩:L9)):=r1 c1
   rw [r1]
   show Agr2 ((cmL (⟨l.s,e1,l.labels,l.op,n1,l.b,l.imm,l.label,l.far⟩:L9)).bind fun x2=>((x2.rg.map fun p=>({ p.2 with b:=p.1 }:L9))).bind fun x3=>some x3) l op n1 n3 0 (b1 || b2 || b3) false l.label e3
   rcases bool_di2 b2 with c2 | c2
   ·have r2:cmL (⟨l.s,e1,l.labels,l.op,n1,l.b,l.imm,l.label,l.far⟩:L9)=some (⟨l.s,e2,l.labels,l.op,n1,l.b,l.imm,l.label,l.far⟩:L9):=r2 c2
    rw [r2]
    show Agr2 ((((⟨l.s,e2,l.labels,l.op,n1,l.b,l.imm,l.label,l.far⟩:L9).rg.map fun p=>({ p.2 with b:=p.1 }:L9))).bind fun x3=>some x3) l op n1 n3 0 (b1 || b2 || b3) false l.label e3
    rcases bool_di2 b3 with c3 | c3
    ·have r3:L9.rg (⟨l.s,e2,l.labels,l.op,n1,l.b,l.imm,l.label,l.far⟩:L9)=some (n3,(⟨l.s,e3,l.labels,l.op,n1,l.b,l.imm,l.label,l.far⟩:L9)):=r3 c3
     rw [r3]
     rw [c1,c2,c3]
     refine ⟨fun _=>?_,fun hh=>by simp at hh⟩
     show some (L9.mk l.s e3 l.labels l.op n1 n3 l.imm l.label l.far)=some (L9.mk l.s e3 l.labels op n1 n3 0 l.label false)
     rw [hop,hf,hv]
    ·have t3:L9.rg (⟨l.s,e2,l.labels,l.op,n1,l.b,l.imm,l.label,l.far⟩:L9)=none:=t3 c3
     rw [t3,c3]
     exact ⟨fun hh=>by simp at hh,fun _=>rfl⟩
   ·have t2:cmL (⟨l.s,e1,l.labels,l.op,n1,l.b,l.imm,l.label,l.far⟩:L9)=none:=t2 c2
    rw [t2,c2]
    exact ⟨fun hh=>by simp at hh,fun _=>rfl⟩
  ·have t1:L9.rg l=none:=t1 c1
   rw [t1,c1]
   exact ⟨fun hh=>by simp at hh,fun _=>rfl⟩
theorem p2AN3 (hz:fitsM (formM op) 0=true) (hpr:(formM op,(3:Int))∈FP) :
  ∃ (a b v:Int) (bd fr:Bool) (lb':ByteArray) (e:Nat),rzreader_operands.j0 (k+20) 3 false s (l.at_:Int) bad false tx lb op 0 0 0=some (op,a,b,v,s,(e:Int),bad || bd,fr,tx,lb')∧e≤s.size∧Agr2 (readB [.a,.num] l) l op a b v bd fr (if tx=true then lb' else l.label) e:=by
 obtain ⟨hs,hss,hi,hop,ha,hb,hv,hf,hl,hlb⟩:=h
 obtain ⟨n1,b1,e1,g1,q1,r1,t1⟩:=rg2 s hs false tx lb bad l hss hi (k+18) (by omega)
 have g1:rzreader_register.f (k+18) s (l.at_:Int) bad false tx lb=_:=g1
 obtain ⟨b2,e2,g2,q2,r2,t2⟩:=cm2 s hs false tx lb (bad || b1) (⟨l.s,e1,l.labels,l.op,n1,l.b,l.imm,l.label,l.far⟩:L9) hss q1 (k+16) (by omega)
 have g2:rzreader_comma.f (k+16) s (e1:Int) (bad || b1) false tx lb=_:=g2
 obtain ⟨n3,b3,e3,g3,q3,_,r3,t3⟩:=rnm s hs false tx lb ((bad || b1) || b2) (⟨l.s,e2,l.labels,l.op,n1,l.b,l.imm,l.label,l.far⟩:L9) hss q2 (k+14) (by omega)
 have g3:rzreader_number.f (k+14) s (e2:Int) ((bad || b1) || b2) false tx lb=_:=g3
 refine ⟨n1,0,n3,(b1 || b2 || b3) || !fitsM (formM op) n3,false,lb,e3,?_,q3,?_⟩
 ·show rzreader_operands.j0 (k+19+1) _ _ _ _ _ _ _ _ _ _ _ _=_
  rw [rzreader_operands.j0,if_neg (by decide)]
  show rzreader_operands.j1 (k+18+1) _ _ _ _ _ _ _ _ _ _ _ _=_
  rw [rzreader_operands.j1,show rzOperands.f (k+18) 3=some (hasA 3,hasB 3,(bytesM 3:Int)) from opnd_any (p:=3) (by decide) (k+6),Option.bind_some]
  simp only
  rw [show hasA 3=true from rfl,if_pos rfl]
  rw [g1,Option.bind_some]
  simp only
  show rzreader_operands.j2 (k+17+1) _ _ _ _ _ _ _ _ _ _ _ _ _=_
  rw [rzreader_operands.j2,if_pos rfl,if_neg (by decide)]
  show rzreader_operands.j3 (k+16+1) _ _ _ _ _ _ _ _ _ _ _ _ _=_
  rw [rzreader_operands.j3,if_pos (by rfl)]
  rw [g2,Option.bind_some]
  simp only
  show rzreader_operands.j4 (k+15+1) _ _ _ _ _ _ _ _ _ _ _ _=_
  rw [rzreader_operands.j4,if_neg (by decide),if_pos rfl]
  show rzreader_operands.j5 (k+14+1) _ _ _ _ _ _ _ _ _ _ _ _ _ _=_
  rw [rzreader_operands.j5,if_pos (by rfl)]
  rw [g3,Option.bind_some]
  simp only
  show rzreader_operands.j7 (k+13+1) _ _ _ _ _ _ _ _ _ _ _=_
  rw [rzreader_operands.j7,if_neg (by decide),if_neg (by decide)]
  show rzreader_operands.j8 (k+12+1) _ _ _ _ _ _ _ _ _ _ _ _=_
  rw [rzreader_operands.j8,if_pos (by rfl),rfits_f hpr n3 (k+12) (by omega),Option.bind_some,rms,Option.bind_some]
  all_goals (try simp only [Bool.not_true,Bool.or_false,Bool.or_assoc])
 ·have e0:readB [.a,.num] l=((l.rg.map fun p=>({ p.2 with a:=p.1 }:L9))).bind fun x1=>(cmL x1).bind fun x2=>(x2.num).bind fun x3=>some x3:=by
   unfold readB
   simp only
   congr 1
   funext x1
   rw [rest_cons]
   rfl
  rw [e0]
  rw [show (if tx=true then lb else l.label)=l.label from by cases tx with | false=>rfl | true=>exact hlb rfl]
  rcases bool_di2 b1 with c1 | c1
  ·have r1:L9.rg l=some (n1,(⟨l.s,e1,l.labels,l.op,l.a,l.b,l.imm,l.label,l.far⟩:L9)):=r1 c1
   rw [r1]
   show Agr2 ((cmL (⟨l.s,e1,l.labels,l.op,n1,l.b,l.imm,l.label,l.far⟩:L9)).bind fun x2=>(x2.num).bind fun x3=>some x3) l op n1 0 n3 ((b1 || b2 || b3) || !fitsM (formM op) n3) false l.label e3
   rcases bool_di2 b2 with c2 | c2
   ·have r2:cmL (⟨l.s,e1,l.labels,l.op,n1,l.b,l.imm,l.label,l.far⟩:L9)=some (⟨l.s,e2,l.labels,l.op,n1,l.b,l.imm,l.label,l.far⟩:L9):=r2 c2
    rw [r2]
    show Agr2 (((⟨l.s,e2,l.labels,l.op,n1,l.b,l.imm,l.label,l.far⟩:L9).num).bind fun x3=>some x3) l op n1 0 n3 ((b1 || b2 || b3) || !fitsM (formM op) n3) false l.label e3
    rcases bool_di2 b3 with c3 | c3
    ·have r3:L9.num (⟨l.s,e2,l.labels,l.op,n1,l.b,l.imm,l.label,l.far⟩:L9)=if fitsM (formM op) n3=true then some (⟨l.s,e3,l.labels,l.op,n1,l.b,n3,l.label,l.far⟩:L9) else none:=by rw [← hop];exact r3 c3
     rw [r3]
     rcases bool_di2 (fitsM (formM op) n3) with d | d
     ·rw [d,if_neg (by decide)]
      exact ⟨fun hh=>by simp at hh,fun _=>rfl⟩
     ·rw [d,if_pos rfl]
      rw [c1,c2,c3]
      refine ⟨fun _=>?_,fun hh=>by simp at hh⟩
      show some (L9.mk l.s e3 l.labels l.op n1 l.b n3 l.label l.far)=some (L9.mk l.s e3 l.labels op n1 0 n3 l.label false)
      rw [hop,hf,hb]
    ·have t3:L9.num (⟨l.s,e2,l.labels,l.op,n1,l.b,l.imm,l.label,l.far⟩:L9)=none:=t3 c3
     rw [t3,c3]
     exact ⟨fun hh=>by simp at hh,fun _=>rfl⟩
   ·have t2:cmL (⟨l.s,e1,l.labels,l.op,n1,l.b,l.imm,l.label,l.far⟩:L9)=none:=t2 c2
    rw [t2,c2]
    exact ⟨fun hh=>by simp at hh,fun _=>rfl⟩
  ·have t1:L9.rg l=none:=t1 c1
   rw [t1,c1]
   exact ⟨fun hh=>by simp at hh,fun _=>rfl⟩
theorem p2AN4 (hz:fitsM (formM op) 0=true) (hpr:(formM op,(4:Int))∈FP) :
  ∃ (a b v:Int) (bd fr:Bool) (lb':ByteArray) (e:Nat),rzreader_operands.j0 (k+20) 4 false s (l.at_:Int) bad false tx lb op 0 0 0=some (op,a,b,v,s,(e:Int),bad || bd,fr,tx,lb')∧e≤s.size∧Agr2 (readB [.a,.num] l) l op a b v bd fr (if tx=true then lb' else l.label) e:=by
 obtain ⟨hs,hss,hi,hop,ha,hb,hv,hf,hl,hlb⟩:=h
 obtain ⟨n1,b1,e1,g1,q1,r1,t1⟩:=rg2 s hs false tx lb bad l hss hi (k+18) (by omega)
 have g1:rzreader_register.f (k+18) s (l.at_:Int) bad false tx lb=_:=g1
 obtain ⟨b2,e2,g2,q2,r2,t2⟩:=cm2 s hs false tx lb (bad || b1) (⟨l.s,e1,l.labels,l.op,n1,l.b,l.imm,l.label,l.far⟩:L9) hss q1 (k+16) (by omega)
 have g2:rzreader_comma.f (k+16) s (e1:Int) (bad || b1) false tx lb=_:=g2
 obtain ⟨n3,b3,e3,g3,q3,_,r3,t3⟩:=rnm s hs false tx lb ((bad || b1) || b2) (⟨l.s,e2,l.labels,l.op,n1,l.b,l.imm,l.label,l.far⟩:L9) hss q2 (k+14) (by omega)
 have g3:rzreader_number.f (k+14) s (e2:Int) ((bad || b1) || b2) false tx lb=_:=g3
 refine ⟨n1,0,n3,(b1 || b2 || b3) || !fitsM (formM op) n3,false,lb,e3,?_,q3,?_⟩
 ·show rzreader_operands.j0 (k+19+1) _ _ _ _ _ _ _ _ _ _ _ _=_
  rw [rzreader_operands.j0,if_neg (by decide)]
  show rzreader_operands.j1 (k+18+1) _ _ _ _ _ _ _ _ _ _ _ _=_
  rw [rzreader_operands.j1,show rzOperands.f (k+18) 4=some (hasA 4,hasB 4,(bytesM 4:Int)) from opnd_any (p:=4) (by decide) (k+6),Option.bind_some]
  simp only
  rw [show hasA 4=true from rfl,if_pos rfl]
  rw [g1,Option.bind_some]
  simp only
  show rzreader_operands.j2 (k+17+1) _ _ _ _ _ _ _ _ _ _ _ _ _=_
  rw [rzreader_operands.j2,if_pos rfl,if_neg (by decide)]
  show rzreader_operands.j3 (k+16+1) _ _ _ _ _ _ _ _ _ _ _ _ _=_
  rw [rzreader_operands.j3,if_pos (by rfl)]
  rw [g2,Option.bind_some]
  simp only
  show rzreader_operands.j4 (k+15+1) _ _ _ _ _ _ _ _ _ _ _ _=_
  rw [rzreader_operands.j4,if_neg (by decide),if_neg (by decide),if_pos rfl]
  show rzreader_operands.j5 (k+14+1) _ _ _ _ _ _ _ _ _ _ _ _ _ _=_
  rw [rzreader_operands.j5,if_pos (by rfl)]
  rw [g3,Option.bind_some]
  simp only
  show rzreader_operands.j7 (k+13+1) _ _ _ _ _ _ _ _ _ _ _=_
  rw [rzreader_operands.j7,if_neg (by decide),if_neg (by decide)]
  show rzreader_operands.j8 (k+12+1) _ _ _ _ _ _ _ _ _ _ _ _=_
  rw [rzreader_operands.j8,if_pos (by rfl),rfits_f hpr n3 (k+12) (by omega),Option.bind_some,rms,Option.bind_some]
  all_goals (try simp only [Bool.not_true,Bool.or_false,Bool.or_assoc])
 ·have e0:readB [.a,.num] l=((l.rg.map fun p=>({ p.2 with a:=p.1 }:L9))).bind fun x1=>(cmL x1).bind fun x2=>(x2.num).bind fun x3=>some x3:=by
   unfold readB
   simp only
   congr 1
   funext x1
   rw [rest_cons]
   rfl
  rw [e0]
  rw [show (if tx=true then lb else l.label)=l.label from by cases tx with | false=>rfl | true=>exact hlb rfl]
  rcases bool_di2 b1 with c1 | c1
  ·have r1:L9.rg l=some (n1,(⟨l.s,e1,l.labels,l.op,l.a,l.b,l.imm,l.label,l.far⟩:L9)):=r1 c1
   rw [r1]
   show Agr2 ((cmL (⟨l.s,e1,l.labels,l.op,n1,l.b,l.imm,l.label,l.far⟩:L9)).bind fun x2=>(x2.num).bind fun x3=>some x3) l op n1 0 n3 ((b1 || b2 || b3) || !fitsM (formM op) n3) false l.label e3
   rcases bool_di2 b2 with c2 | c2
   ·have r2:cmL (⟨l.s,e1,l.labels,l.op,n1,l.b,l.imm,l.label,l.far⟩:L9)=some (⟨l.s,e2,l.labels,l.op,n1,l.b,l.imm,l.label,l.far⟩:L9):=r2 c2
    rw [r2]
    show Agr2 (((⟨l.s,e2,l.labels,l.op,n1,l.b,l.imm,l.label,l.far⟩:L9).num).bind fun x3=>some x3) l op n1 0 n3 ((b1 || b2 || b3) || !fitsM (formM op) n3) false l.label e3
    rcases bool_di2 b3 with c3 | c3
    ·have r3:L9.num (⟨l.s,e2,l.labels,l.op,n1,l.b,l.imm,l.label,l.far⟩:L9)=if fitsM (formM op) n3=true then some (⟨l.s,e3,l.labels,l.op,n1,l.b,n3,l.label,l.far⟩:L9) else none:=by rw [← hop];exact r3 c3
     rw [r3]
     rcases bool_di2 (fitsM (formM op) n3) with d | d
     ·rw [d,if_neg (by decide)]
      exact ⟨fun hh=>by simp at hh,fun _=>rfl⟩
     ·rw [d,if_pos rfl]
      rw [c1,c2,c3]
      refine ⟨fun _=>?_,fun hh=>by simp at hh⟩
      show some (L9.mk l.s e3 l.labels l.op n1 l.b n3 l.label l.far)=some (L9.mk l.s e3 l.labels op n1 0 n3 l.label false)
      rw [hop,hf,hb]
    ·have t3:L9.num (⟨l.s,e2,l.labels,l.op,n1,l.b,l.imm,l.label,l.far⟩:L9)=none:=t3 c3
     rw [t3,c3]
     exact ⟨fun hh=>by simp at hh,fun _=>rfl⟩
   ·have t2:cmL (⟨l.s,e1,l.labels,l.op,n1,l.b,l.imm,l.label,l.far⟩:L9)=none:=t2 c2
    rw [t2,c2]
    exact ⟨fun hh=>by simp at hh,fun _=>rfl⟩
  ·have t1:L9.rg l=none:=t1 c1
   rw [t1,c1]
   exact ⟨fun hh=>by simp at hh,fun _=>rfl⟩
theorem p2N (hz:fitsM (formM op) 0=true) (hpr:(formM op,(10:Int))∈FP) :
  ∃ (a b v:Int) (bd fr:Bool) (lb':ByteArray) (e:Nat),rzreader_operands.j0 (k+20) 10 false s (l.at_:Int) bad false tx lb op 0 0 0=some (op,a,b,v,s,(e:Int),bad || bd,fr,tx,lb')∧e≤s.size∧Agr2 (readB [.num] l) l op a b v bd fr (if tx=true then lb' else l.label) e:=by
 obtain ⟨hs,hss,hi,hop,ha,hb,hv,hf,hl,hlb⟩:=h
 obtain ⟨n1,b1,e1,g1,q1,_,r1,t1⟩:=rnm s hs false tx lb bad l hss hi (k+14) (by omega)
 have g1:rzreader_number.f (k+14) s (l.at_:Int) bad false tx lb=_:=g1
 refine ⟨0,0,n1,(b1) || !fitsM (formM op) n1,false,lb,e1,?_,q1,?_⟩
 ·show rzreader_operands.j0 (k+19+1) _ _ _ _ _ _ _ _ _ _ _ _=_
  rw [rzreader_operands.j0,if_neg (by decide)]
  show rzreader_operands.j1 (k+18+1) _ _ _ _ _ _ _ _ _ _ _ _=_
  rw [rzreader_operands.j1,show rzOperands.f (k+18) 10=some (hasA 8,hasB 8,(bytesM 8:Int)) from opnd_any (p:=8) (by decide) (k+6),Option.bind_some]
  simp only
  rw [show hasA 8=false from rfl,if_neg (by decide)]
  show rzreader_operands.j2 (k+17+1) _ _ _ _ _ _ _ _ _ _ _ _ _=_
  rw [rzreader_operands.j2,if_neg (by decide)]
  show rzreader_operands.j3 (k+16+1) _ _ _ _ _ _ _ _ _ _ _ _ _=_
  rw [rzreader_operands.j3,if_neg (by decide)]
  show rzreader_operands.j4 (k+15+1) _ _ _ _ _ _ _ _ _ _ _ _=_
  rw [rzreader_operands.j4,if_neg (by decide),if_neg (by decide),if_neg (by decide)]
  show rzreader_operands.j5 (k+14+1) _ _ _ _ _ _ _ _ _ _ _ _ _ _=_
  rw [rzreader_operands.j5,if_pos (by rfl)]
  rw [g1,Option.bind_some]
  simp only
  show rzreader_operands.j7 (k+13+1) _ _ _ _ _ _ _ _ _ _ _=_
  rw [rzreader_operands.j7,if_neg (by decide),if_neg (by decide)]
  show rzreader_operands.j8 (k+12+1) _ _ _ _ _ _ _ _ _ _ _ _=_
  rw [rzreader_operands.j8,if_pos (by rfl),rfits_f hpr n1 (k+12) (by omega),Option.bind_some,rms,Option.bind_some]
  all_goals (try simp only [Bool.not_true,Bool.or_false,Bool.or_assoc])
 ·have e0:readB [.num] l=(l.num).bind fun x1=>some x1:=by
   first | rfl | (unfold readB;simp only;congr 1)
  rw [e0]
  rw [show (if tx=true then lb else l.label)=l.label from by cases tx with | false=>rfl | true=>exact hlb rfl]
  rcases bool_di2 b1 with c1 | c1
  ·have r1:L9.num l=if fitsM (formM op) n1=true then some (⟨l.s,e1,l.labels,l.op,l.a,l.b,n1,l.label,l.far⟩:L9) else none:=by rw [← hop];exact r1 c1
   rw [r1]
   rcases bool_di2 (fitsM (formM op) n1) with d | d
   ·rw [d,if_neg (by decide)]
    exact ⟨fun hh=>by simp at hh,fun _=>rfl⟩
   ·rw [d,if_pos rfl]
    rw [c1]
    refine ⟨fun _=>?_,fun hh=>by simp at hh⟩
    show some (L9.mk l.s e1 l.labels l.op l.a l.b n1 l.label l.far)=some (L9.mk l.s e1 l.labels op 0 0 n1 l.label false)
    rw [hop,hf,ha,hb]
  ·have t1:L9.num l=none:=t1 c1
   rw [t1,c1]
   exact ⟨fun hh=>by simp at hh,fun _=>rfl⟩
theorem p2AM (hz:fitsM (formM op) 0=true) (hpr:(formM op,(5:Int))∈FP) :
  ∃ (a b v:Int) (bd fr:Bool) (lb':ByteArray) (e:Nat),rzreader_operands.j0 (k+20) 5 false s (l.at_:Int) bad false tx lb op 0 0 0=some (op,a,b,v,s,(e:Int),bad || bd,fr,tx,lb')∧e≤s.size∧Agr2 (readB [.a,.addr] l) l op a b v bd fr (if tx=true then lb' else l.label) e:=by
 obtain ⟨hs,hss,hi,hop,ha,hb,hv,hf,hl,hlb⟩:=h
 obtain ⟨n1,b1,e1,g1,q1,r1,t1⟩:=rg2 s hs false tx lb bad l hss hi (k+18) (by omega)
 have g1:rzreader_register.f (k+18) s (l.at_:Int) bad false tx lb=_:=g1
 obtain ⟨b2,e2,g2,q2,r2,t2⟩:=cm2 s hs false tx lb (bad || b1) (⟨l.s,e1,l.labels,l.op,n1,l.b,l.imm,l.label,l.far⟩:L9) hss q1 (k+16) (by omega)
 have g2:rzreader_comma.f (k+16) s (e1:Int) (bad || b1) false tx lb=_:=g2
 obtain ⟨m3,n3,b3,e3,g3,q3,r3,t3⟩:=rad s hs false lb ((bad || b1) || b2) tx (⟨l.s,e2,l.labels,l.op,n1,l.b,l.imm,l.label,l.far⟩:L9) hss q2 hv (by rw [show (⟨l.s,e2,l.labels,l.op,n1,l.b,l.imm,l.label,l.far⟩:L9).op=op from hop];exact hz) (k+13) (by omega)
 have g3:rzreader_address.f (k+14) s (e2:Int) ((bad || b1) || b2) false tx lb false=_:=g3
 refine ⟨n1,m3,n3,(b1 || b2 || b3) || !fitsM (formM op) n3,false,lb,e3,?_,q3,?_⟩
 ·show rzreader_operands.j0 (k+19+1) _ _ _ _ _ _ _ _ _ _ _ _=_
  rw [rzreader_operands.j0,if_neg (by decide)]
  show rzreader_operands.j1 (k+18+1) _ _ _ _ _ _ _ _ _ _ _ _=_
  rw [rzreader_operands.j1,show rzOperands.f (k+18) 5=some (hasA 5,hasB 5,(bytesM 5:Int)) from opnd_any (p:=5) (by decide) (k+6),Option.bind_some]
  simp only
  rw [show hasA 5=true from rfl,if_pos rfl]
  rw [g1,Option.bind_some]
  simp only
  show rzreader_operands.j2 (k+17+1) _ _ _ _ _ _ _ _ _ _ _ _ _=_
  rw [rzreader_operands.j2,if_pos rfl,if_neg (by decide)]
  show rzreader_operands.j3 (k+16+1) _ _ _ _ _ _ _ _ _ _ _ _ _=_
  rw [rzreader_operands.j3,if_pos (by rfl)]
  rw [g2,Option.bind_some]
  simp only
  show rzreader_operands.j4 (k+15+1) _ _ _ _ _ _ _ _ _ _ _ _=_
  rw [rzreader_operands.j4,if_neg (by decide),if_neg (by decide),if_neg (by decide)]
  show rzreader_operands.j5 (k+14+1) _ _ _ _ _ _ _ _ _ _ _ _ _ _=_
  rw [rzreader_operands.j5,if_neg (by decide)]
  rw [if_pos rfl]
  rw [if_neg (by decide)]
  rw [g3,Option.bind_some]
  simp only
  show rzreader_operands.j7 (k+13+1) _ _ _ _ _ _ _ _ _ _ _=_
  rw [rzreader_operands.j7,if_neg (by decide),if_neg (by decide)]
  show rzreader_operands.j8 (k+12+1) _ _ _ _ _ _ _ _ _ _ _ _=_
  rw [rzreader_operands.j8,if_pos (by rfl),rfits_f hpr n3 (k+12) (by omega),Option.bind_some,rms,Option.bind_some]
  all_goals (try simp only [Bool.not_true,Bool.or_false,Bool.or_assoc])
 ·have e0:readB [.a,.addr] l=((l.rg.map fun p=>({ p.2 with a:=p.1 }:L9))).bind fun x1=>(cmL x1).bind fun x2=>(x2.addr).bind fun x3=>some x3:=by
   unfold readB
   simp only
   congr 1
   funext x1
   rw [rest_cons]
   rfl
  rw [e0]
  rw [show (if tx=true then lb else l.label)=l.label from by cases tx with | false=>rfl | true=>exact hlb rfl]
  rcases bool_di2 b1 with c1 | c1
  ·have r1:L9.rg l=some (n1,(⟨l.s,e1,l.labels,l.op,l.a,l.b,l.imm,l.label,l.far⟩:L9)):=r1 c1
   rw [r1]
   show Agr2 ((cmL (⟨l.s,e1,l.labels,l.op,n1,l.b,l.imm,l.label,l.far⟩:L9)).bind fun x2=>(x2.addr).bind fun x3=>some x3) l op n1 m3 n3 ((b1 || b2 || b3) || !fitsM (formM op) n3) false l.label e3
   rcases bool_di2 b2 with c2 | c2
   ·have r2:cmL (⟨l.s,e1,l.labels,l.op,n1,l.b,l.imm,l.label,l.far⟩:L9)=some (⟨l.s,e2,l.labels,l.op,n1,l.b,l.imm,l.label,l.far⟩:L9):=r2 c2
    rw [r2]
    show Agr2 (((⟨l.s,e2,l.labels,l.op,n1,l.b,l.imm,l.label,l.far⟩:L9).addr).bind fun x3=>some x3) l op n1 m3 n3 ((b1 || b2 || b3) || !fitsM (formM op) n3) false l.label e3
    rcases bool_di2 b3 with c3 | c3
    ·have r3:L9.addr (⟨l.s,e2,l.labels,l.op,n1,l.b,l.imm,l.label,l.far⟩:L9)=if fitsM (formM op) n3=true then some (⟨l.s,e3,l.labels,l.op,n1,m3,n3,l.label,l.far⟩:L9) else none:=by rw [← hop];exact r3 c3
     rw [r3]
     rcases bool_di2 (fitsM (formM op) n3) with d | d
     ·rw [d,if_neg (by decide)]
      exact ⟨fun hh=>by simp at hh,fun _=>rfl⟩
     ·rw [d,if_pos rfl]
      rw [c1,c2,c3]
      refine ⟨fun _=>?_,fun hh=>by simp at hh⟩
      show some (L9.mk l.s e3 l.labels l.op n1 m3 n3 l.label l.far)=some (L9.mk l.s e3 l.labels op n1 m3 n3 l.label false)
      rw [hop,hf]
    ·have t3:L9.addr (⟨l.s,e2,l.labels,l.op,n1,l.b,l.imm,l.label,l.far⟩:L9)=none:=t3 c3
     rw [t3,c3]
     exact ⟨fun hh=>by simp at hh,fun _=>rfl⟩
   ·have t2:cmL (⟨l.s,e1,l.labels,l.op,n1,l.b,l.imm,l.label,l.far⟩:L9)=none:=t2 c2
    rw [t2,c2]
    exact ⟨fun hh=>by simp at hh,fun _=>rfl⟩
  ·have t1:L9.rg l=none:=t1 c1
   rw [t1,c1]
   exact ⟨fun hh=>by simp at hh,fun _=>rfl⟩
theorem p2MA (hz:fitsM (formM op) 0=true) (hpr:(formM op,(5:Int))∈FP) :
  ∃ (a b v:Int) (bd fr:Bool) (lb':ByteArray) (e:Nat),rzreader_operands.j0 (k+20) 5 true s (l.at_:Int) bad false tx lb op 0 0 0=some (op,a,b,v,s,(e:Int),bad || bd,fr,tx,lb')∧e≤s.size∧Agr2 (readB [.addr,.a] l) l op a b v bd fr (if tx=true then lb' else l.label) e:=by
 obtain ⟨hs,hss,hi,hop,ha,hb,hv,hf,hl,hlb⟩:=h
 obtain ⟨m1,n1,b1,e1,g1,q1,r1,t1⟩:=rad s hs false lb bad tx l hss hi hv (by rw [show l.op=op from hop];exact hz) (k+18) (by omega)
 have g1:rzreader_address.f (k+19) s (l.at_:Int) bad false tx lb false=_:=g1
 obtain ⟨b2,e2,g2,q2,r2,t2⟩:=cm2 s hs false tx lb (bad || b1) (⟨l.s,e1,l.labels,l.op,l.a,m1,n1,l.label,l.far⟩:L9) hss q1 (k+19) (by omega)
 have g2:rzreader_comma.f (k+19) s (e1:Int) (bad || b1) false tx lb=_:=g2
 obtain ⟨n3,b3,e3,g3,q3,r3,t3⟩:=rg2 s hs false tx lb ((bad || b1) || b2) (⟨l.s,e2,l.labels,l.op,l.a,m1,n1,l.label,l.far⟩:L9) hss q2 (k+18) (by omega)
 have g3:rzreader_register.f (k+18) s (e2:Int) ((bad || b1) || b2) false tx lb=_:=g3
 refine ⟨n3,m1,n1,(b1 || b2 || b3) || !fitsM (formM op) n1,false,lb,e3,?_,q3,?_⟩
 ·show rzreader_operands.j0 (k+19+1) _ _ _ _ _ _ _ _ _ _ _ _=_
  rw [rzreader_operands.j0,if_pos rfl]
  rw [g1,Option.bind_some]
  simp only
  rw [g2,Option.bind_some]
  simp only
  show rzreader_operands.j1 (k+18+1) _ _ _ _ _ _ _ _ _ _ _ _=_
  rw [rzreader_operands.j1,show rzOperands.f (k+18) 5=some (hasA 5,hasB 5,(bytesM 5:Int)) from opnd_any (p:=5) (by decide) (k+6),Option.bind_some]
  simp only
  rw [show hasA 5=true from rfl,if_pos rfl]
  rw [g3,Option.bind_some]
  simp only
  show rzreader_operands.j2 (k+17+1) _ _ _ _ _ _ _ _ _ _ _ _ _=_
  rw [rzreader_operands.j2,if_pos rfl,if_neg (by decide)]
  show rzreader_operands.j3 (k+16+1) _ _ _ _ _ _ _ _ _ _ _ _ _=_
  rw [rzreader_operands.j3,if_neg (by decide)]
  show rzreader_operands.j4 (k+15+1) _ _ _ _ _ _ _ _ _ _ _ _=_
  rw [rzreader_operands.j4,if_neg (by decide),if_neg (by decide),if_neg (by decide)]
  show rzreader_operands.j5 (k+14+1) _ _ _ _ _ _ _ _ _ _ _ _ _ _=_
  rw [rzreader_operands.j5,if_neg (by decide)]
  rw [if_pos rfl]
  rw [if_pos rfl]
  show rzreader_operands.j7 (k+13+1) _ _ _ _ _ _ _ _ _ _ _=_
  rw [rzreader_operands.j7,if_neg (by decide),if_neg (by decide)]
  show rzreader_operands.j8 (k+12+1) _ _ _ _ _ _ _ _ _ _ _ _=_
  rw [rzreader_operands.j8,if_pos (by rfl),rfits_f hpr n1 (k+12) (by omega),Option.bind_some,rms,Option.bind_some]
  all_goals (try simp only [Bool.not_true,Bool.or_false,Bool.or_assoc])
 ·have e0:readB [.addr,.a] l=(l.addr).bind fun x1=>(cmL x1).bind fun x2=>((x2.rg.map fun p=>({ p.2 with a:=p.1 }:L9))).bind fun x3=>some x3:=by
   unfold readB
   simp only
   congr 1
   funext x1
   rw [rest_cons]
   rfl
  rw [e0]
  rw [show (if tx=true then lb else l.label)=l.label from by cases tx with | false=>rfl | true=>exact hlb rfl]
  rcases bool_di2 b1 with c1 | c1
  ·have r1:L9.addr l=if fitsM (formM op) n1=true then some (⟨l.s,e1,l.labels,l.op,l.a,m1,n1,l.label,l.far⟩:L9) else none:=by rw [← hop];exact r1 c1
   rw [r1]
   rcases bool_di2 (fitsM (formM op) n1) with d | d
   ·rw [d,if_neg (by decide)]
    exact ⟨fun hh=>by simp at hh,fun _=>rfl⟩
   ·rw [d,if_pos rfl]
    show Agr2 ((cmL (⟨l.s,e1,l.labels,l.op,l.a,m1,n1,l.label,l.far⟩:L9)).bind fun x2=>((x2.rg.map fun p=>({ p.2 with a:=p.1 }:L9))).bind fun x3=>some x3) l op n3 m1 n1 ((b1 || b2 || b3) || !true) false l.label e3
    rcases bool_di2 b2 with c2 | c2
    ·have r2:cmL (⟨l.s,e1,l.labels,l.op,l.a,m1,n1,l.label,l.far⟩:L9)=some (⟨l.s,e2,l.labels,l.op,l.a,m1,n1,l.label,l.far⟩:L9):=r2 c2
     rw [r2]
     show Agr2 ((((⟨l.s,e2,l.labels,l.op,l.a,m1,n1,l.label,l.far⟩:L9).rg.map fun p=>({ p.2 with a:=p.1 }:L9))).bind fun x3=>some x3) l op n3 m1 n1 ((b1 || b2 || b3) || !true) false l.label e3
     rcases bool_di2 b3 with c3 | c3
     ·have r3:L9.rg (⟨l.s,e2,l.labels,l.op,l.a,m1,n1,l.label,l.far⟩:L9)=some (n3,(⟨l.s,e3,l.labels,l.op,l.a,m1,n1,l.label,l.far⟩:L9)):=r3 c3
      rw [r3]
      rw [c1,c2,c3]
      refine ⟨fun _=>?_,fun hh=>by simp at hh⟩
      show some (L9.mk l.s e3 l.labels l.op n3 m1 n1 l.label l.far)=some (L9.mk l.s e3 l.labels op n3 m1 n1 l.label false)
      rw [hop,hf]
     ·have t3:L9.rg (⟨l.s,e2,l.labels,l.op,l.a,m1,n1,l.label,l.far⟩:L9)=none:=t3 c3
      rw [t3,c3]
      exact ⟨fun hh=>by simp at hh,fun _=>rfl⟩
    ·have t2:cmL (⟨l.s,e1,l.labels,l.op,l.a,m1,n1,l.label,l.far⟩:L9)=none:=t2 c2
     rw [t2,c2]
     exact ⟨fun hh=>by simp at hh,fun _=>rfl⟩
  ·have t1:L9.addr l=none:=t1 c1
   rw [t1,c1]
   exact ⟨fun hh=>by simp at hh,fun _=>rfl⟩
theorem p2ABT (hz:fitsM (formM op) 0=true) (hpr:(formM op,(6:Int))∈FP) :
  ∃ (a b v:Int) (bd fr:Bool) (lb':ByteArray) (e:Nat),rzreader_operands.j0 (k+20) 6 false s (l.at_:Int) bad false tx lb op 0 0 0=some (op,a,b,v,s,(e:Int),bad || bd,fr,tx,lb')∧e≤s.size∧Agr2 (readB [.a,.b,.target] l) l op a b v bd fr (if tx=true then lb' else l.label) e:=by
 obtain ⟨hs,hss,hi,hop,ha,hb,hv,hf,hl,hlb⟩:=h
 obtain ⟨n1,b1,e1,g1,q1,r1,t1⟩:=rg2 s hs false tx lb bad l hss hi (k+18) (by omega)
 have g1:rzreader_register.f (k+18) s (l.at_:Int) bad false tx lb=_:=g1
 obtain ⟨b2,e2,g2,q2,r2,t2⟩:=cm2 s hs false tx lb (bad || b1) (⟨l.s,e1,l.labels,l.op,n1,l.b,l.imm,l.label,l.far⟩:L9) hss q1 (k+16) (by omega)
 have g2:rzreader_comma.f (k+16) s (e1:Int) (bad || b1) false tx lb=_:=g2
 obtain ⟨n3,b3,e3,g3,q3,r3,t3⟩:=rg2 s hs false tx lb ((bad || b1) || b2) (⟨l.s,e2,l.labels,l.op,n1,l.b,l.imm,l.label,l.far⟩:L9) hss q2 (k+14) (by omega)
 have g3:rzreader_register.f (k+14) s (e2:Int) ((bad || b1) || b2) false tx lb=_:=g3
 obtain ⟨b4,e4,g4,q4,r4,t4⟩:=cm2 s hs false tx lb (((bad || b1) || b2) || b3) (⟨l.s,e3,l.labels,l.op,n1,n3,l.imm,l.label,l.far⟩:L9) hss q3 (k+14) (by omega)
 have g4:rzreader_comma.f (k+14) s (e3:Int) (((bad || b1) || b2) || b3) false tx lb=_:=g4
 obtain ⟨n5,b5,fr,lb',e5,g5,q5,r5,t5⟩:=rtg2 s hs lb tx ((((bad || b1) || b2) || b3) || b4) hpr (⟨l.s,e4,l.labels,l.op,n1,n3,l.imm,l.label,l.far⟩:L9) hss (by rw [show (⟨l.s,e4,l.labels,l.op,n1,n3,l.imm,l.label,l.far⟩:L9).op=op from hop]) hl hf hv hlb q4 (k+12) (by omega)
 have g5:rzreader_target.f (k+14) s (e4:Int) ((((bad || b1) || b2) || b3) || b4) false tx lb 6=_:=g5
 refine ⟨n1,n3,n5,b1 || b2 || b3 || b4 || b5,fr,lb',e5,?_,q5,?_⟩
 ·show rzreader_operands.j0 (k+19+1) _ _ _ _ _ _ _ _ _ _ _ _=_
  rw [rzreader_operands.j0,if_neg (by decide)]
  show rzreader_operands.j1 (k+18+1) _ _ _ _ _ _ _ _ _ _ _ _=_
  rw [rzreader_operands.j1,show rzOperands.f (k+18) 6=some (hasA 5,hasB 5,(bytesM 5:Int)) from opnd_any (p:=5) (by decide) (k+6),Option.bind_some]
  simp only
  rw [show hasA 5=true from rfl,if_pos rfl]
  rw [g1,Option.bind_some]
  simp only
  show rzreader_operands.j2 (k+17+1) _ _ _ _ _ _ _ _ _ _ _ _ _=_
  rw [rzreader_operands.j2,if_pos rfl,if_neg (by decide)]
  show rzreader_operands.j3 (k+16+1) _ _ _ _ _ _ _ _ _ _ _ _ _=_
  rw [rzreader_operands.j3,if_pos (by rfl)]
  rw [g2,Option.bind_some]
  simp only
  show rzreader_operands.j4 (k+15+1) _ _ _ _ _ _ _ _ _ _ _ _=_
  rw [rzreader_operands.j4,if_neg (by decide),if_neg (by decide),if_neg (by decide)]
  show rzreader_operands.j5 (k+14+1) _ _ _ _ _ _ _ _ _ _ _ _ _ _=_
  rw [rzreader_operands.j5,if_neg (by decide)]
  rw [if_neg (by decide),if_pos rfl]
  rw [g3,Option.bind_some]
  simp only
  rw [g4,Option.bind_some]
  simp only
  rw [g5,Option.bind_some]
  simp only
  show rzreader_operands.j7 (k+13+1) _ _ _ _ _ _ _ _ _ _ _=_
  rw [rzreader_operands.j7,if_pos rfl]
  show rzreader_operands.j8 (k+12+1) _ _ _ _ _ _ _ _ _ _ _ _=_
  rw [rzreader_operands.j8,if_neg (by decide)]
  all_goals (try simp only [Bool.or_assoc])
 ·have e0:readB [.a,.b,.target] l=((l.rg.map fun p=>({ p.2 with a:=p.1 }:L9))).bind fun x1=>(cmL x1).bind fun x2=>((x2.rg.map fun p=>({ p.2 with b:=p.1 }:L9))).bind fun x3=>(cmL x3).bind fun x4=>(x4.tgt).bind fun x5=>some x5:=by
   unfold readB
   simp only
   congr 1
   funext x1
   rw [rest_cons]
   congr 1
   funext x2
   show (L9.run .b x2).bind _=_
   congr 1
   funext x3
   rw [rest_cons]
   rfl
  rw [e0]
  rcases bool_di2 b1 with c1 | c1
  ·have r1:L9.rg l=some (n1,(⟨l.s,e1,l.labels,l.op,l.a,l.b,l.imm,l.label,l.far⟩:L9)):=r1 c1
   rw [r1]
   show Agr2 ((cmL (⟨l.s,e1,l.labels,l.op,n1,l.b,l.imm,l.label,l.far⟩:L9)).bind fun x2=>((x2.rg.map fun p=>({ p.2 with b:=p.1 }:L9))).bind fun x3=>(cmL x3).bind fun x4=>(x4.tgt).bind fun x5=>some x5) l op n1 n3 n5 (b1 || b2 || b3 || b4 || b5) fr (if tx=true then lb' else l.label) e5
   rcases bool_di2 b2 with c2 | c2
   ·have r2:cmL (⟨l.s,e1,l.labels,l.op,n1,l.b,l.imm,l.label,l.far⟩:L9)=some (⟨l.s,e2,l.labels,l.op,n1,l.b,l.imm,l.label,l.far⟩:L9):=r2 c2
    rw [r2]
    show Agr2 ((((⟨l.s,e2,l.labels,l.op,n1,l.b,l.imm,l.label,l.far⟩:L9).rg.map fun p=>({ p.2 with b:=p.1 }:L9))).bind fun x3=>(cmL x3).bind fun x4=>(x4.tgt).bind fun x5=>some x5) l op n1 n3 n5 (b1 || b2 || b3 || b4 || b5) fr (if tx=true then lb' else l.label) e5
    rcases bool_di2 b3 with c3 | c3
    ·have r3:L9.rg (⟨l.s,e2,l.labels,l.op,n1,l.b,l.imm,l.label,l.far⟩:L9)=some (n3,(⟨l.s,e3,l.labels,l.op,n1,l.b,l.imm,l.label,l.far⟩:L9)):=r3 c3
     rw [r3]
     show Agr2 ((cmL (⟨l.s,e3,l.labels,l.op,n1,n3,l.imm,l.label,l.far⟩:L9)).bind fun x4=>(x4.tgt).bind fun x5=>some x5) l op n1 n3 n5 (b1 || b2 || b3 || b4 || b5) fr (if tx=true then lb' else l.label) e5
     rcases bool_di2 b4 with c4 | c4
     ·have r4:cmL (⟨l.s,e3,l.labels,l.op,n1,n3,l.imm,l.label,l.far⟩:L9)=some (⟨l.s,e4,l.labels,l.op,n1,n3,l.imm,l.label,l.far⟩:L9):=r4 c4
      rw [r4]
      show Agr2 (((⟨l.s,e4,l.labels,l.op,n1,n3,l.imm,l.label,l.far⟩:L9).tgt).bind fun x5=>some x5) l op n1 n3 n5 (b1 || b2 || b3 || b4 || b5) fr (if tx=true then lb' else l.label) e5
      rcases bool_di2 b5 with c5 | c5
      ·have r5:L9.tgt (⟨l.s,e4,l.labels,l.op,n1,n3,l.imm,l.label,l.far⟩:L9)=some (⟨l.s,e5,l.labels,l.op,n1,n3,if fr=true then 0 else n5,if tx=true then lb' else l.label,fr⟩:L9):=r5 c5
       rw [r5]
       rw [c1,c2,c3,c4,c5]
       refine ⟨fun _=>?_,fun hh=>by simp at hh⟩
       show some (L9.mk l.s e5 l.labels l.op n1 n3 (if fr=true then 0 else n5) (if tx=true then lb' else l.label) fr)=_
       rw [hop]
      ·have t5:L9.tgt (⟨l.s,e4,l.labels,l.op,n1,n3,l.imm,l.label,l.far⟩:L9)=none:=t5 c5
       rw [t5,c5]
       exact ⟨fun hh=>by simp at hh,fun _=>rfl⟩
     ·have t4:cmL (⟨l.s,e3,l.labels,l.op,n1,n3,l.imm,l.label,l.far⟩:L9)=none:=t4 c4
      rw [t4,c4]
      exact ⟨fun hh=>by simp at hh,fun _=>rfl⟩
    ·have t3:L9.rg (⟨l.s,e2,l.labels,l.op,n1,l.b,l.imm,l.label,l.far⟩:L9)=none:=t3 c3
     rw [t3,c3]
     exact ⟨fun hh=>by simp at hh,fun _=>rfl⟩
   ·have t2:cmL (⟨l.s,e1,l.labels,l.op,n1,l.b,l.imm,l.label,l.far⟩:L9)=none:=t2 c2
    rw [t2,c2]
    exact ⟨fun hh=>by simp at hh,fun _=>rfl⟩
  ·have t1:L9.rg l=none:=t1 c1
   rw [t1,c1]
   exact ⟨fun hh=>by simp at hh,fun _=>rfl⟩
theorem p2T (hz:fitsM (formM op) 0=true) (hpr:(formM op,(7:Int))∈FP) :
  ∃ (a b v:Int) (bd fr:Bool) (lb':ByteArray) (e:Nat),rzreader_operands.j0 (k+20) 7 false s (l.at_:Int) bad false tx lb op 0 0 0=some (op,a,b,v,s,(e:Int),bad || bd,fr,tx,lb')∧e≤s.size∧Agr2 (readB [.target] l) l op a b v bd fr (if tx=true then lb' else l.label) e:=by
 obtain ⟨hs,hss,hi,hop,ha,hb,hv,hf,hl,hlb⟩:=h
 obtain ⟨n1,b1,fr,lb',e1,g1,q1,r1,t1⟩:=rtg2 s hs lb tx bad hpr l hss (by rw [show l.op=op from hop]) hl hf hv hlb hi (k+11) (by omega)
 have g1:rzreader_target.f (k+13) s (l.at_:Int) bad false tx lb 7=_:=g1
 refine ⟨0,0,n1,b1,fr,lb',e1,?_,q1,?_⟩
 ·show rzreader_operands.j0 (k+19+1) _ _ _ _ _ _ _ _ _ _ _ _=_
  rw [rzreader_operands.j0,if_neg (by decide)]
  show rzreader_operands.j1 (k+18+1) _ _ _ _ _ _ _ _ _ _ _ _=_
  rw [rzreader_operands.j1,show rzOperands.f (k+18) 7=some (hasA 6,hasB 6,(bytesM 6:Int)) from opnd_any (p:=6) (by decide) (k+6),Option.bind_some]
  simp only
  rw [show hasA 6=false from rfl,if_neg (by decide)]
  show rzreader_operands.j2 (k+17+1) _ _ _ _ _ _ _ _ _ _ _ _ _=_
  rw [rzreader_operands.j2,if_neg (by decide)]
  show rzreader_operands.j3 (k+16+1) _ _ _ _ _ _ _ _ _ _ _ _ _=_
  rw [rzreader_operands.j3,if_neg (by decide)]
  show rzreader_operands.j4 (k+15+1) _ _ _ _ _ _ _ _ _ _ _ _=_
  rw [rzreader_operands.j4,if_neg (by decide),if_neg (by decide),if_neg (by decide)]
  show rzreader_operands.j5 (k+14+1) _ _ _ _ _ _ _ _ _ _ _ _ _ _=_
  rw [rzreader_operands.j5,if_neg (by decide)]
  rw [if_neg (by decide),if_neg (by decide),if_pos rfl]
  show rzreader_operands.j6 (k+13+1) _ _ _ _ _ _ _ _ _ _ _ _ _=_
  rw [rzreader_operands.j6,if_pos (by rfl)]
  rw [g1,Option.bind_some]
  simp only
  show rzreader_operands.j7 (k+12+1) _ _ _ _ _ _ _ _ _ _ _=_
  rw [rzreader_operands.j7,if_neg (by decide),if_pos rfl]
  show rzreader_operands.j8 (k+11+1) _ _ _ _ _ _ _ _ _ _ _ _=_
  rw [rzreader_operands.j8,if_neg (by decide)]
  all_goals (try simp only [Bool.or_assoc])
 ·have e0:readB [.target] l=(l.tgt).bind fun x1=>some x1:=by
   first | rfl | (unfold readB;simp only;congr 1)
  rw [e0]
  rcases bool_di2 b1 with c1 | c1
  ·have r1:L9.tgt l=some (⟨l.s,e1,l.labels,l.op,l.a,l.b,if fr=true then 0 else n1,if tx=true then lb' else l.label,fr⟩:L9):=r1 c1
   rw [r1]
   rw [c1]
   refine ⟨fun _=>?_,fun hh=>by simp at hh⟩
   show some (L9.mk l.s e1 l.labels l.op l.a l.b (if fr=true then 0 else n1) (if tx=true then lb' else l.label) fr)=_
   rw [hop,ha,hb]
  ·have t1:L9.tgt l=none:=t1 c1
   rw [t1,c1]
   exact ⟨fun hh=>by simp at hh,fun _=>rfl⟩
theorem p2A (hz:fitsM (formM op) 0=true) (hpr:(formM op,(8:Int))∈FP) :
  ∃ (a b v:Int) (bd fr:Bool) (lb':ByteArray) (e:Nat),rzreader_operands.j0 (k+20) 8 false s (l.at_:Int) bad false tx lb op 0 0 0=some (op,a,b,v,s,(e:Int),bad || bd,fr,tx,lb')∧e≤s.size∧Agr2 (readB [.a] l) l op a b v bd fr (if tx=true then lb' else l.label) e:=by
 obtain ⟨hs,hss,hi,hop,ha,hb,hv,hf,hl,hlb⟩:=h
 obtain ⟨n1,b1,e1,g1,q1,r1,t1⟩:=rg2 s hs false tx lb bad l hss hi (k+18) (by omega)
 have g1:rzreader_register.f (k+18) s (l.at_:Int) bad false tx lb=_:=g1
 refine ⟨n1,0,0,b1,false,lb,e1,?_,q1,?_⟩
 ·show rzreader_operands.j0 (k+19+1) _ _ _ _ _ _ _ _ _ _ _ _=_
  rw [rzreader_operands.j0,if_neg (by decide)]
  show rzreader_operands.j1 (k+18+1) _ _ _ _ _ _ _ _ _ _ _ _=_
  rw [rzreader_operands.j1,show rzOperands.f (k+18) 8=some (hasA 2,hasB 2,(bytesM 2:Int)) from opnd_any (p:=2) (by decide) (k+6),Option.bind_some]
  simp only
  rw [show hasA 2=true from rfl,if_pos rfl]
  rw [g1,Option.bind_some]
  simp only
  show rzreader_operands.j2 (k+17+1) _ _ _ _ _ _ _ _ _ _ _ _ _=_
  rw [rzreader_operands.j2,if_pos rfl,if_pos rfl]
  show rzreader_operands.j3 (k+16+1) _ _ _ _ _ _ _ _ _ _ _ _ _=_
  rw [rzreader_operands.j3,if_neg (by decide)]
  show rzreader_operands.j4 (k+15+1) _ _ _ _ _ _ _ _ _ _ _ _=_
  rw [rzreader_operands.j4,if_neg (by decide),if_neg (by decide),if_neg (by decide)]
  show rzreader_operands.j5 (k+14+1) _ _ _ _ _ _ _ _ _ _ _ _ _ _=_
  rw [rzreader_operands.j5,if_neg (by decide)]
  rw [if_neg (by decide),if_neg (by decide),if_neg (by decide)]
  show rzreader_operands.j6 (k+13+1) _ _ _ _ _ _ _ _ _ _ _ _ _=_
  rw [rzreader_operands.j6,if_neg (by decide),if_neg (by decide)]
  show rzreader_operands.j7 (k+12+1) _ _ _ _ _ _ _ _ _ _ _=_
  rw [rzreader_operands.j7,if_neg (by decide),if_neg (by decide)]
  show rzreader_operands.j8 (k+11+1) _ _ _ _ _ _ _ _ _ _ _ _=_
  rw [rzreader_operands.j8,if_pos (by rfl),rfits_f hpr 0 (k+11) (by omega),hz,Option.bind_some,rms,Option.bind_some]
  all_goals (try simp only [Bool.not_true,Bool.or_false,Bool.or_assoc])
 ·have e0:readB [.a] l=((l.rg.map fun p=>({ p.2 with a:=p.1 }:L9))).bind fun x1=>some x1:=by
   first | rfl | (unfold readB;simp only;congr 1)
  rw [e0]
  rw [show (if tx=true then lb else l.label)=l.label from by cases tx with | false=>rfl | true=>exact hlb rfl]
  rcases bool_di2 b1 with c1 | c1
  ·have r1:L9.rg l=some (n1,(⟨l.s,e1,l.labels,l.op,l.a,l.b,l.imm,l.label,l.far⟩:L9)):=r1 c1
   rw [r1]
   rw [c1]
   refine ⟨fun _=>?_,fun hh=>by simp at hh⟩
   show some (L9.mk l.s e1 l.labels l.op n1 l.b l.imm l.label l.far)=some (L9.mk l.s e1 l.labels op n1 0 0 l.label false)
   rw [hop,hf,hb,hv]
  ·have t1:L9.rg l=none:=t1 c1
   rw [t1,c1]
   exact ⟨fun hh=>by simp at hh,fun _=>rfl⟩
theorem p2AT (hz:fitsM (formM op) 0=true) (hpr:(formM op,(9:Int))∈FP) :
  ∃ (a b v:Int) (bd fr:Bool) (lb':ByteArray) (e:Nat),rzreader_operands.j0 (k+20) 9 false s (l.at_:Int) bad false tx lb op 0 0 0=some (op,a,b,v,s,(e:Int),bad || bd,fr,tx,lb')∧e≤s.size∧Agr2 (readB [.a,.target] l) l op a b v bd fr (if tx=true then lb' else l.label) e:=by
 obtain ⟨hs,hss,hi,hop,ha,hb,hv,hf,hl,hlb⟩:=h
 obtain ⟨n1,b1,e1,g1,q1,r1,t1⟩:=rg2 s hs false tx lb bad l hss hi (k+18) (by omega)
 have g1:rzreader_register.f (k+18) s (l.at_:Int) bad false tx lb=_:=g1
 obtain ⟨b2,e2,g2,q2,r2,t2⟩:=cm2 s hs false tx lb (bad || b1) (⟨l.s,e1,l.labels,l.op,n1,l.b,l.imm,l.label,l.far⟩:L9) hss q1 (k+16) (by omega)
 have g2:rzreader_comma.f (k+16) s (e1:Int) (bad || b1) false tx lb=_:=g2
 obtain ⟨n3,b3,fr,lb',e3,g3,q3,r3,t3⟩:=rtg2 s hs lb tx ((bad || b1) || b2) hpr (⟨l.s,e2,l.labels,l.op,n1,l.b,l.imm,l.label,l.far⟩:L9) hss (by rw [show (⟨l.s,e2,l.labels,l.op,n1,l.b,l.imm,l.label,l.far⟩:L9).op=op from hop]) hl hf hv hlb q2 (k+11) (by omega)
 have g3:rzreader_target.f (k+13) s (e2:Int) ((bad || b1) || b2) false tx lb 9=_:=g3
 refine ⟨n1,0,n3,b1 || b2 || b3,fr,lb',e3,?_,q3,?_⟩
 ·show rzreader_operands.j0 (k+19+1) _ _ _ _ _ _ _ _ _ _ _ _=_
  rw [rzreader_operands.j0,if_neg (by decide)]
  show rzreader_operands.j1 (k+18+1) _ _ _ _ _ _ _ _ _ _ _ _=_
  rw [rzreader_operands.j1,show rzOperands.f (k+18) 9=some (hasA 7,hasB 7,(bytesM 7:Int)) from opnd_any (p:=7) (by decide) (k+6),Option.bind_some]
  simp only
  rw [show hasA 7=true from rfl,if_pos rfl]
  rw [g1,Option.bind_some]
  simp only
  show rzreader_operands.j2 (k+17+1) _ _ _ _ _ _ _ _ _ _ _ _ _=_
  rw [rzreader_operands.j2,if_pos rfl,if_neg (by decide)]
  show rzreader_operands.j3 (k+16+1) _ _ _ _ _ _ _ _ _ _ _ _ _=_
  rw [rzreader_operands.j3,if_pos (by rfl)]
  rw [g2,Option.bind_some]
  simp only
  show rzreader_operands.j4 (k+15+1) _ _ _ _ _ _ _ _ _ _ _ _=_
  rw [rzreader_operands.j4,if_neg (by decide),if_neg (by decide),if_neg (by decide)]
  show rzreader_operands.j5 (k+14+1) _ _ _ _ _ _ _ _ _ _ _ _ _ _=_
  rw [rzreader_operands.j5,if_neg (by decide)]
  rw [if_neg (by decide),if_neg (by decide),if_neg (by decide)]
  show rzreader_operands.j6 (k+13+1) _ _ _ _ _ _ _ _ _ _ _ _ _=_
  rw [rzreader_operands.j6,if_pos (by rfl)]
  rw [g3,Option.bind_some]
  simp only
  show rzreader_operands.j7 (k+12+1) _ _ _ _ _ _ _ _ _ _ _=_
  rw [rzreader_operands.j7,if_neg (by decide),if_neg (by decide)]
  show rzreader_operands.j8 (k+11+1) _ _ _ _ _ _ _ _ _ _ _ _=_
  rw [rzreader_operands.j8,if_neg (by decide)]
  all_goals (try simp only [Bool.or_assoc])
 ·have e0:readB [.a,.target] l=((l.rg.map fun p=>({ p.2 with a:=p.1 }:L9))).bind fun x1=>(cmL x1).bind fun x2=>(x2.tgt).bind fun x3=>some x3:=by
   unfold readB
   simp only
   congr 1
   funext x1
   rw [rest_cons]
   rfl
  rw [e0]
  rcases bool_di2 b1 with c1 | c1
  ·have r1:L9.rg l=some (n1,(⟨l.s,e1,l.labels,l.op,l.a,l.b,l.imm,l.label,l.far⟩:L9)):=r1 c1
   rw [r1]
   show Agr2 ((cmL (⟨l.s,e1,l.labels,l.op,n1,l.b,l.imm,l.label,l.far⟩:L9)).bind fun x2=>(x2.tgt).bind fun x3=>some x3) l op n1 0 n3 (b1 || b2 || b3) fr (if tx=true then lb' else l.label) e3
   rcases bool_di2 b2 with c2 | c2
   ·have r2:cmL (⟨l.s,e1,l.labels,l.op,n1,l.b,l.imm,l.label,l.far⟩:L9)=some (⟨l.s,e2,l.labels,l.op,n1,l.b,l.imm,l.label,l.far⟩:L9):=r2 c2
    rw [r2]
    show Agr2 (((⟨l.s,e2,l.labels,l.op,n1,l.b,l.imm,l.label,l.far⟩:L9).tgt).bind fun x3=>some x3) l op n1 0 n3 (b1 || b2 || b3) fr (if tx=true then lb' else l.label) e3
    rcases bool_di2 b3 with c3 | c3
    ·have r3:L9.tgt (⟨l.s,e2,l.labels,l.op,n1,l.b,l.imm,l.label,l.far⟩:L9)=some (⟨l.s,e3,l.labels,l.op,n1,l.b,if fr=true then 0 else n3,if tx=true then lb' else l.label,fr⟩:L9):=r3 c3
     rw [r3]
     rw [c1,c2,c3]
     refine ⟨fun _=>?_,fun hh=>by simp at hh⟩
     show some (L9.mk l.s e3 l.labels l.op n1 l.b (if fr=true then 0 else n3) (if tx=true then lb' else l.label) fr)=_
     rw [hop,hb]
    ·have t3:L9.tgt (⟨l.s,e2,l.labels,l.op,n1,l.b,l.imm,l.label,l.far⟩:L9)=none:=t3 c3
     rw [t3,c3]
     exact ⟨fun hh=>by simp at hh,fun _=>rfl⟩
   ·have t2:cmL (⟨l.s,e1,l.labels,l.op,n1,l.b,l.imm,l.label,l.far⟩:L9)=none:=t2 c2
    rw [t2,c2]
    exact ⟨fun hh=>by simp at hh,fun _=>rfl⟩
  ·have t1:L9.rg l=none:=t1 c1
   rw [t1,c1]
   exact ⟨fun hh=>by simp at hh,fun _=>rfl⟩
theorem p2AP (hz:fitsM (formM op) 0=true) (hpr:(formM op,(11:Int))∈FP) :
  ∃ (a b v:Int) (bd fr:Bool) (lb':ByteArray) (e:Nat),rzreader_operands.j0 (k+20) 11 false s (l.at_:Int) bad false tx lb op 0 0 0=some (op,a,b,v,s,(e:Int),bad || bd,fr,tx,lb')∧e≤s.size∧Agr2 (readB [.a,.mem] l) l op a b v bd fr (if tx=true then lb' else l.label) e:=by
 obtain ⟨hs,hss,hi,hop,ha,hb,hv,hf,hl,hlb⟩:=h
 obtain ⟨n1,b1,e1,g1,q1,r1,t1⟩:=rg2 s hs false tx lb bad l hss hi (k+18) (by omega)
 have g1:rzreader_register.f (k+18) s (l.at_:Int) bad false tx lb=_:=g1
 obtain ⟨b2,e2,g2,q2,r2,t2⟩:=cm2 s hs false tx lb (bad || b1) (⟨l.s,e1,l.labels,l.op,n1,l.b,l.imm,l.label,l.far⟩:L9) hss q1 (k+16) (by omega)
 have g2:rzreader_comma.f (k+16) s (e1:Int) (bad || b1) false tx lb=_:=g2
 obtain ⟨m3,b3,e3,g3,q3,r3,t3⟩:=rmm s hs false lb ((bad || b1) || b2) tx (⟨l.s,e2,l.labels,l.op,n1,l.b,l.imm,l.label,l.far⟩:L9) hss q2 (k+12) (by omega)
 have g3:rzreader_address.f (k+13) s (e2:Int) ((bad || b1) || b2) false tx lb true=_:=g3
 refine ⟨n1,m3,0,b1 || b2 || b3,false,lb,e3,?_,q3,?_⟩
 ·show rzreader_operands.j0 (k+19+1) _ _ _ _ _ _ _ _ _ _ _ _=_
  rw [rzreader_operands.j0,if_neg (by decide)]
  show rzreader_operands.j1 (k+18+1) _ _ _ _ _ _ _ _ _ _ _ _=_
  rw [rzreader_operands.j1,show rzOperands.f (k+18) 11=some (hasA 1,hasB 1,(bytesM 1:Int)) from opnd_any (p:=1) (by decide) (k+6),Option.bind_some]
  simp only
  rw [show hasA 1=true from rfl,if_pos rfl]
  rw [g1,Option.bind_some]
  simp only
  show rzreader_operands.j2 (k+17+1) _ _ _ _ _ _ _ _ _ _ _ _ _=_
  rw [rzreader_operands.j2,if_pos rfl,if_neg (by decide)]
  show rzreader_operands.j3 (k+16+1) _ _ _ _ _ _ _ _ _ _ _ _ _=_
  rw [rzreader_operands.j3,if_pos (by rfl)]
  rw [g2,Option.bind_some]
  simp only
  show rzreader_operands.j4 (k+15+1) _ _ _ _ _ _ _ _ _ _ _ _=_
  rw [rzreader_operands.j4,if_neg (by decide),if_neg (by decide),if_neg (by decide)]
  show rzreader_operands.j5 (k+14+1) _ _ _ _ _ _ _ _ _ _ _ _ _ _=_
  rw [rzreader_operands.j5,if_neg (by decide)]
  rw [if_neg (by decide),if_neg (by decide),if_neg (by decide)]
  show rzreader_operands.j6 (k+13+1) _ _ _ _ _ _ _ _ _ _ _ _ _=_
  rw [rzreader_operands.j6,if_neg (by decide),if_pos rfl]
  rw [g3,Option.bind_some]
  simp only
  show rzreader_operands.j7 (k+12+1) _ _ _ _ _ _ _ _ _ _ _=_
  rw [rzreader_operands.j7,if_neg (by decide),if_neg (by decide)]
  show rzreader_operands.j8 (k+11+1) _ _ _ _ _ _ _ _ _ _ _ _=_
  rw [rzreader_operands.j8,if_pos (by rfl),rfits_f hpr 0 (k+11) (by omega),hz,Option.bind_some,rms,Option.bind_some]
  all_goals (try simp only [Bool.not_true,Bool.or_false,Bool.or_assoc])
 ·have e0:readB [.a,.mem] l=((l.rg.map fun p=>({ p.2 with a:=p.1 }:L9))).bind fun x1=>(cmL x1).bind fun x2=>(x2.mem).bind fun x3=>some x3:=by
   unfold readB
   simp only
   congr 1
   funext x1
   rw [rest_cons]
   rfl
  rw [e0]
  rw [show (if tx=true then lb else l.label)=l.label from by cases tx with | false=>rfl | true=>exact hlb rfl]
  rcases bool_di2 b1 with c1 | c1
  ·have r1:L9.rg l=some (n1,(⟨l.s,e1,l.labels,l.op,l.a,l.b,l.imm,l.label,l.far⟩:L9)):=r1 c1
   rw [r1]
   show Agr2 ((cmL (⟨l.s,e1,l.labels,l.op,n1,l.b,l.imm,l.label,l.far⟩:L9)).bind fun x2=>(x2.mem).bind fun x3=>some x3) l op n1 m3 0 (b1 || b2 || b3) false l.label e3
   rcases bool_di2 b2 with c2 | c2
   ·have r2:cmL (⟨l.s,e1,l.labels,l.op,n1,l.b,l.imm,l.label,l.far⟩:L9)=some (⟨l.s,e2,l.labels,l.op,n1,l.b,l.imm,l.label,l.far⟩:L9):=r2 c2
    rw [r2]
    show Agr2 (((⟨l.s,e2,l.labels,l.op,n1,l.b,l.imm,l.label,l.far⟩:L9).mem).bind fun x3=>some x3) l op n1 m3 0 (b1 || b2 || b3) false l.label e3
    rcases bool_di2 b3 with c3 | c3
    ·have r3:L9.mem (⟨l.s,e2,l.labels,l.op,n1,l.b,l.imm,l.label,l.far⟩:L9)=some (⟨l.s,e3,l.labels,l.op,n1,m3,l.imm,l.label,l.far⟩:L9):=r3 c3
     rw [r3]
     rw [c1,c2,c3]
     refine ⟨fun _=>?_,fun hh=>by simp at hh⟩
     show some (L9.mk l.s e3 l.labels l.op n1 m3 l.imm l.label l.far)=some (L9.mk l.s e3 l.labels op n1 m3 0 l.label false)
     rw [hop,hf,hv]
    ·have t3:L9.mem (⟨l.s,e2,l.labels,l.op,n1,l.b,l.imm,l.label,l.far⟩:L9)=none:=t3 c3
     rw [t3,c3]
     exact ⟨fun hh=>by simp at hh,fun _=>rfl⟩
   ·have t2:cmL (⟨l.s,e1,l.labels,l.op,n1,l.b,l.imm,l.label,l.far⟩:L9)=none:=t2 c2
    rw [t2,c2]
    exact ⟨fun hh=>by simp at hh,fun _=>rfl⟩
  ·have t1:L9.rg l=none:=t1 c1
   rw [t1,c1]
   exact ⟨fun hh=>by simp at hh,fun _=>rfl⟩
end
def rdN:Rd→Nat | .a=>0 | .b=>1 | .num=>2 | .mem=>3 | .addr=>4 | .target=>5
theorem rdN_inj {x y:Rd} (h:rdN x=rdN y):x=y:=by cases x <;> cases y <;> first | rfl | cases h
def clT:List (Int × Bool × List Nat):=[(1,false,[]),(2,false,[0,1]),(3,false,[0,2]),(4,false,[0,2]),(5,false,[0,4]),(5,true,[4,0]),(6,false,[0,1,5]),(7,false,[5]),(8,false,[0]),(9,false,[0,5]),(10,false,[2]),(11,false,[0,3])]
def stB (op:Int):Bool:=decide (op=19) || (op == 20)
def clB (n:Nat):Bool:=match rzForm.f 12 (n:Int) with | none=>false | some r=>fitsM (formM (n:Int)) 0 && decide ((formM (n:Int),r)∈FP) && decide ((r,stB (n:Int),(readsM (n:Int)).map rdN)∈clT)
theorem cl_fin:∀ i:Fin 77,nameM (i.val:Int)≠[]→clB i.val=true:=by decide +kernel
theorem map_rdN:∀ {l m:List Rd} (h:l.map rdN=m.map rdN),l=m
 | [],[],_=>rfl
 | [],_ :: _,h=>by simp at h
 | _ :: _,[],h=>by simp at h
 | x :: l,y :: m,h=>by
  simp only [List.map_cons,List.cons.injEq] at h
  rw [rdN_inj h.1,map_rdN h.2]
theorem opOf_named (n:List UInt8) (h:opOf n≠0):∃ i:Nat,i≤76∧nameM (i:Int)≠[]∧opOf n=(i:Int):=by
 by_cases hn:n=[]
 ·subst hn
  exact absurd (by decide +kernel) h
 ·by_cases hno:∀ i:Nat,i≤76→nameM (i:Int)≠n
  ·exact absurd (opOf_no n hn hno) h
  ·obtain ⟨i,hi⟩:=Classical.not_forall.1 hno
   obtain ⟨h1,h2⟩:=Classical.not_imp.1 hi
   have h2:nameM (i:Int)=n:=Classical.not_not.1 h2
   subst h2
   exact ⟨i,h1,hn,opOf_fin ⟨i,by omega⟩ hn⟩
theorem ops_f (k:Nat) (s:ByteArray) (i:Int) (b f x:Bool) (lb:ByteArray) (op:Int):rzreader_operands.f k s i b f x lb op=(rzForm.f k op).bind fun t=>rzreader_operands.j0 k t (stB op) s i b f x lb op 0 0 0:=by
 unfold rzreader_operands.f
 congr 1
 funext t
 unfold stB
 by_cases h:op=19
 ·rw [if_pos h,decide_eq_true h];rfl
 ·rw [if_neg h,decide_eq_false h];rfl
end Go.Proofs.YtffojmgmpfjlhaaGreatDoor.Q
