/- Parts of the proof of InsnAssembles. -/
import Derived.Test.YtffojmgmpfjlhaaGreatDoorInsnAssemblesY12
import Derived.Lib.ParseIntBTie
set_option maxHeartbeats 8000000
set_option maxRecDepth 100000
set_option linter.unusedVariables false
set_option linter.unusedSimpArgs false
namespace Go.Proofs.YtffojmgmpfjlhaaGreatDoor.Q
open Go.Proofs.Ix hiding rd
open Go Go.Proofs.YtffojmgmpfjlhaaGreatDoor Go.RowKit Go.Proofs.YtffojmgmpfjlhaaGreatDoorW.PrintWords
structure Inv1 (l:L9):Prop where
 a0:0≤l.a
 a7:l.a≤7
 b0:0≤l.b
 b7:l.b≤7
 fits:fitsM (formM l.op) l.imm=true
 rg:Rg l.imm
structure Stp (fa fb:Bool) (l l':L9):Prop where
 op:l'.op=l.op
 a:fa=false→l'.a=l.a
 b:fb=false→l'.b=l.b
 inv:Inv1 l→Inv1 l'
theorem Stp.same {l l':L9} (h1:l'.op=l.op) (h2:l'.a=l.a) (h3:l'.b=l.b) (h4:l'.imm=l.imm):Stp false false l l' :=
 ⟨h1,fun _=>h2,fun _=>h3,fun h=>⟨by rw [h2];exact h.a0,by rw [h2];exact h.a7,by rw [h3];exact h.b0,by rw [h3];exact h.b7,by rw [h1,h4];exact h.fits,by rw [h4];exact h.rg⟩⟩
theorem Stp.go (l:L9) (e:Nat):Stp false false l (l.go e):=Stp.same rfl rfl rfl rfl
theorem Stp.trans {fa fb ga gb:Bool} {l l1 l2:L9} (h:Stp fa fb l l1) (g:Stp ga gb l1 l2):Stp (fa || ga) (fb || gb) l l2 :=
 ⟨g.op.trans h.op,fun e=>by
  rw [Bool.or_eq_false_iff] at e
  exact (g.a e.2).trans (h.a e.1),fun e=>by
  rw [Bool.or_eq_false_iff] at e
  exact (g.b e.2).trans (h.b e.1),fun i=>g.inv (h.inv i)⟩
theorem Stp.pre {fa fb:Bool} {l l1 l2:L9} (h:Stp false false l l1) (g:Stp fa fb l1 l2):Stp fa fb l l2:=by
 have:=h.trans g
 rwa [Bool.false_or,Bool.false_or] at this
theorem Stp.post {fa fb:Bool} {l l1 l2:L9} (h:Stp fa fb l l1) (g:Stp false false l1 l2):Stp fa fb l l2:=by
 have:=h.trans g
 rwa [Bool.or_false,Bool.or_false] at this
theorem names_low:∀ i:Fin 35,0 < i.val→nameM (i.val:Int)≠[]:=by decide +kernel
def GoodL (l:L9):Prop:=chkD l.op l.a l.b l.imm=0∧Rg l.imm
theorem rest_both (s:ByteArray) (hs:s.size≤1000000) (i:Nat) (hi:i≤s.size) (k:Nat) (hk:2 * s.size+300 < k) (lab:ByteArray) (bad0:Bool) :
  ∃ (is:Bool) (op a b v:Int) (to_:ByteArray) (far bad:Bool),rrest (k+20) lab bad0 s (i:Int) false false true ⟨#[]⟩=some (lab,false,is,op,a,b,v,to_,far,bad)∧(bad0=true→bad=true)∧(is=false→to_=⟨#[]⟩∧far=false) ∧
   (bad0=false→∀ z:Az,(bad=true→z.rest lab ⟨s,i,true,0,0,0,0,⟨#[]⟩,false⟩=.error 22)∧(bad=false→is=false→z.rest lab ⟨s,i,true,0,0,0,0,⟨#[]⟩,false⟩=z.def_ lab) ∧
    (bad=false→is=true→∃ l:L9,l.op=op∧l.a=a∧l.b=b∧(far=false→l.imm=v)∧l.label=to_∧l.far=far∧nameM op≠[]∧z.rest lab ⟨s,i,true,0,0,0,0,⟨#[]⟩,false⟩=match z.def_ lab with | .error e=>.error e | .ok z1=>z1.push l)):=by
 unfold rrest
 by_cases c:i=s.size
 ·rw [if_pos (by omega)]
  refine ⟨false,0,0,0,0,⟨#[]⟩,false,bad0,rfl,fun h=>h,fun _=>⟨rfl,rfl⟩,fun h0 z=>⟨fun h=>(by rw [h0] at h;cases h),fun _ _=>?_,fun _ h=>(by cases h)⟩⟩
  unfold Az.rest
  exact if_pos c
 ·rw [if_neg (by omega)]
  obtain ⟨op,a,b,v,bd,fr,lb',e,h1,h2,h3⟩:=rline2 s hs true i hi k hk
  rw [h1,Option.bind_some]
  refine ⟨true,op,a,b,v,lb',fr,bad0 || bd,rfl,fun h=>by rw [h];rfl,fun h=>(by cases h),fun h0 z=>?_⟩
  subst h0
  rw [Bool.false_or]
  have hne:¬ (⟨s,i,true,0,0,0,0,⟨#[]⟩,false⟩:L9).at_=(⟨s,i,true,0,0,0,0,⟨#[]⟩,false⟩:L9).s.size:=c
  refine ⟨fun h=>?_,fun _ h=>(by cases h),fun h _=>?_⟩
  ·unfold Az.rest
   rw [if_neg hne,h2 h]
  ·obtain ⟨l,g1,g2,g3,g4,g5,g6,g7,g8⟩:=h3 h
   refine ⟨l,g4,g5,g6,g7,by rw [g3];rfl,g2,g8,?_⟩
   unfold Az.rest
   rw [if_neg hne,g1]
   cases z.def_ lab <;> rfl
theorem runB_idem (s:ByteArray) (i:Nat) (hi:i≤s.size):runB isBl s (runB isBl s i)=runB isBl s i:=by
 obtain ⟨e,he⟩:∃ e,runB isBl s i=e:=⟨_,rfl⟩
 rw [he]
 unfold runB runEnd at he ⊢
 have hd:s.data.toList.drop e=(s.data.toList.drop i).dropWhile isBl:=by
  rw [← he,← List.drop_drop]
  generalize s.data.toList.drop i=D
  induction D with
  | nil=>rfl
  | cons c D ih =>
   cases hc:isBl c with
   | true=>rw [List.takeWhile_cons_of_pos hc,List.dropWhile_cons_of_pos hc,List.length_cons,List.drop_succ_cons,ih]
   | false=>rw [List.takeWhile_cons_of_neg (by rw [hc];decide),List.dropWhile_cons_of_neg (by rw [hc];decide)];rfl
 rw [hd]
 have:((s.data.toList.drop i).dropWhile isBl).takeWhile isBl=[]:=by
  generalize s.data.toList.drop i=D
  induction D with
  | nil=>rfl
  | cons c D ih =>
   cases hc:isBl c with
   | true=>rw [List.dropWhile_cons_of_pos hc,ih]
   | false=>rw [List.dropWhile_cons_of_neg (by rw [hc];decide),List.takeWhile_cons_of_neg (by rw [hc];decide)]
 rw [this]
 rfl
theorem word_opOf {w:List UInt8} (h:opOf w≠0):isNameM w=true:=by
 have key:∀ i:Fin 77,nameM (i.val:Int)≠[]→isNameM (nameM (i.val:Int))=true:=by decide +kernel
 unfold opOf at h
 split at h
 ·rename_i i hi
  have h1:=List.find?_some hi
  have h2:=List.mem_of_find?_eq_some hi
  rw [List.mem_range] at h2
  simp only [Bool.and_eq_true,decide_eq_true_eq,beq_iff_eq] at h1
  rw [← h1.2]
  exact key ⟨i,by omega⟩ (names_low ⟨i,h2⟩ h1.1)
 ·split at h
  ·rename_i hb
   rw [hb]
   decide +kernel
  ·exact absurd rfl h
theorem row_both (s:ByteArray) (hs:s.size≤1000000) (k:Nat) (hk:2 * s.size+300 < k) :
  ∃ (lab:ByteArray) (fn is:Bool) (op a b v:Int) (to_:ByteArray) (far bad:Bool),rzrow.f (k+20) s=some (lab,fn,is,op,a,b,v,to_,far,bad)∧(is=false→to_=⟨#[]⟩∧far=false) ∧
   ∀ (z:Az) (no:Nat),(bad=true→z.row no s=.error 22)∧(bad=false→(lab.size=0∨nameB lab=true)∧(fn=true→is=false∧nameB lab=true∧z.row no s=Az.dirRow { z with no:=no } lab) ∧
    (fn=false→is=false→z.row no s=Az.def_ { z with no:=no } lab) ∧
    (fn=false→is=true→∃ l:L9,l.op=op∧l.a=a∧l.b=b∧(far=false→l.imm=v)∧l.label=to_∧l.far=far∧nameM op≠[]∧z.row no s=match Az.def_ { z with no:=no } lab with | .error e=>.error e | .ok z1=>z1.push l)):=by
 obtain ⟨b0,hb0⟩:∃ x,runB isBl s 0=x:=⟨_,rfl⟩
 have l0:b0≤s.size:=by rw [← hb0];exact (runB_le isBl s 0 (Nat.zero_le _)).2
 obtain ⟨e1,he1⟩:∃ x,runB isWd s b0=x:=⟨_,rfl⟩
 have l1:b0≤e1∧e1≤s.size:=by rw [← he1];exact runB_le isWd s b0 l0
 obtain ⟨b2,hb2⟩:∃ x,runB isBl s e1=x:=⟨_,rfl⟩
 have l2:e1≤b2∧b2≤s.size:=by rw [← hb2];exact runB_le isBl s e1 l1.2
 obtain ⟨L,hL⟩:∃ L:L9,(⟨s,b0,true,0,0,0,0,⟨#[]⟩,false⟩:L9)=L:=⟨_,rfl⟩
 have hsk:(L9.new s true).sk=L:=by rw [← hL,← hb0];rfl
 have hidem:runB isBl s b0=b0:=by
  rw [← hb0]
  exact runB_idem s 0 (Nat.zero_le _)
 have hsk2:L.sk=L:=by
  rw [← hL]
  show (L9.mk s (runB isBl s b0) true 0 0 0 0 ⟨#[]⟩ false)=_
  rw [hidem]
 have hwd:L.wdS=s.extract b0 e1:=by
  rw [← hL,← he1]
  rfl
 have hwl:L.wdL.sk=⟨s,b2,true,0,0,0,0,⟨#[]⟩,false⟩:=by
  rw [← hL,← hb2,← he1]
  rfl
 have hnm:(L9.new s true).nm=if nameB (s.extract b0 e1)=true then (if hitS s b2 58=true then (s.extract b0 e1,⟨s,b2+1,true,0,0,0,0,⟨#[]⟩,false⟩) else (⟨#[]⟩,L)) else (⟨#[]⟩,L):=by
  unfold L9.nm
  rw [hsk,hwd,hwl,hit_S]
  rfl
 have hrow:∀ (z:Az) (no:Nat),z.row no s=(let p:=(L9.new s true).nm;if p.1.size=0 then (match p.2.sk.dir with | none=>.error 22 | some (some n,_)=>Az.dirRow { z with no:=no } n | some (none,l)=>Az.rest { z with no:=no } ⟨#[]⟩ l) else Az.rest { z with no:=no } p.1 p.2.sk):=fun z no=>by
  unfold Az.row
  generalize (L9.new s true).nm=p
  simp only
  by_cases c:p.1.size=0
  ·rw [if_pos c,if_pos c]
   cases p.2.sk.dir with
   | none=>rfl
   | some q =>
    obtain ⟨o,l⟩:=q
    cases o <;> rfl
  ·rw [if_neg c,if_neg c]
 have hW:∀ x,hitS s b0 x=true→x=46→(s.extract b0 e1).data.toList=[]:=fun x hx h46=>by
  subst h46
  have hlt:=hitS_lt hx
  rw [← he1,wd_list,List.drop_eq_getElem_cons (by rw [sz_list];exact hlt),List.takeWhile_cons_of_neg]
  have e:s.data.toList[b0]'(by rw [sz_list];exact hlt)=s[b0]:=by rw [Array.getElem_toList];rfl
  have h1:s[b0].toNat=46:=by
   unfold hitS at hx
   rw [dif_pos hlt] at hx
   simpa using hx
  have h2:s[b0]=46:=UInt8.toNat_inj.1 h1
  rw [e,h2]
  decide
 unfold rzrow.f
 rw [show rzreader_blanks.f (k+20) s 0 false false true ⟨#[]⟩=_ from rbl s hs false true ⟨#[]⟩ false 0 (k+20) (Nat.zero_le _) (by omega),hb0,Option.bind_some]
 simp only
 rw [show (46:Int)=((46:Nat):Int) from rfl,rnx s hs false true ⟨#[]⟩ false b0 46,Option.bind_some]
 simp only
 cases h46:hitS s b0 46 with
 | true =>
  rw [if_pos rfl,if_pos rfl]
  obtain ⟨name,bad,e,d1,d2,d3⟩:=dir_both s hs b0 h46 (k+20) (by omega)
  rw [d1,Option.bind_some]
  refine ⟨name,true,false,0,0,0,0,⟨#[]⟩,false,bad,rfl,fun _=>⟨rfl,rfl⟩,fun z no=>?_⟩
  have hn:(L9.new s true).nm=(⟨#[]⟩,L):=by
   rw [hnm,if_neg]
   unfold nameB
   rw [hW 46 h46 rfl]
   decide
  have hr:z.row no s=(match L.dir with | none=>.error 22 | some (some n,_)=>Az.dirRow { z with no:=no } n | some (none,l)=>Az.rest { z with no:=no } ⟨#[]⟩ l):=by
   rw [hrow,hn]
   simp only
   rw [if_pos (show (⟨#[]⟩:ByteArray).size=0 from rfl),hsk2]
  rw [hr]
  rw [hL] at d2 d3
  refine ⟨fun hb=>?_,fun hb=>?_⟩
  ·rcases d3 hb with h | ⟨l',h,h1,h2⟩
   ·rw [h]
   ·rw [h]
    simp only
    unfold Az.rest
    rw [if_neg h1,h2]
  ·obtain ⟨g1,l',g2⟩:=d2 hb
   exact ⟨.inr g1,fun _=>⟨rfl,g1,by rw [g2]⟩,fun h=>(by cases h),fun h=>(by cases h)⟩
 | false =>
  rw [if_neg (by decide),if_neg (by decide),rwd s hs false true ⟨#[]⟩ false b0 (k+20) l0 (by omega),he1,Option.bind_some]
  simp only
  rw [rbl s hs false true ⟨#[]⟩ false e1 (k+20) l1.2 (by omega),hb2,Option.bind_some]
  simp only
  rw [show (58:Int)=((58:Nat):Int) from rfl,rnx s hs false true ⟨#[]⟩ false b2 58,Option.bind_some]
  simp only
  have hdir:L.dir=some (none,L):=by
   unfold L9.dir
   rw [if_neg]
   intro hp
   unfold L9.pre Lib.hasPrefix at hp
   rw [List.isPrefixOf_iff_prefix] at hp
   obtain ⟨R,hR⟩:=hp
   rw [ext_toL,← hL] at hR
   have hlt:b0 < s.size:=by
    by_cases c:b0 < s.size
    ·exact c
    ·have:((s.data.toList.drop b0).take (s.size - b0))=[]:=by rw [show s.size - b0=0 by omega];rfl
     rw [show ((⟨s,b0,true,0,0,0,0,⟨#[]⟩,false⟩:L9).s.data.toList.drop b0).take ((⟨s,b0,true,0,0,0,0,⟨#[]⟩,false⟩:L9).s.size - b0)=[] from this] at hR
     cases hR
   have h1:(funcL ++ R)[0]?=some 46:=rfl
   rw [hR] at h1
   have h2:((s.data.toList.drop b0).take (s.size - b0))[0]?=some 46:=h1
   rw [List.getElem?_take,if_pos (by omega),List.getElem?_drop,Nat.add_zero,(bt_nat s b0 hlt).1] at h2
   unfold hitS at h46
   rw [dif_pos hlt,Option.some.inj h2] at h46
   cases h46
  cases h58:hitS s b2 58 with
  | true =>
   rw [if_pos rfl,if_pos rfl,isn_f _ _ (by omega),Option.bind_some]
   have hlt:=hitS_lt h58
   obtain ⟨b3,hb3⟩:∃ x,runB isBl s (b2+1)=x:=⟨_,rfl⟩
   have l3:b3≤s.size:=by rw [← hb3];exact (runB_le isBl s (b2+1) hlt).2
   rw [rbl s hs false true ⟨#[]⟩ false (b2+1) (k+20) hlt (by omega),hb3,Option.bind_some]
   simp only
   obtain ⟨is,op,a,b,v,to_,far,bad,r1,r2,r0,r3⟩:=rest_both s hs b3 l3 k hk (s.extract b0 e1) (!nameB (s.extract b0 e1))
   refine ⟨s.extract b0 e1,false,is,op,a,b,v,to_,far,bad,r1,r0,fun z no=>?_⟩
   cases hn:nameB (s.extract b0 e1) with
   | false =>
    rw [hn] at r2
    have hb:=r2 rfl
    refine ⟨fun _=>?_,fun h=>(by rw [hb] at h;cases h)⟩
    have hq:(L9.new s true).nm=(⟨#[]⟩,L):=by rw [hnm,hn,if_neg (by decide)]
    rw [hrow,hq]
    simp only
    rw [if_pos (show (⟨#[]⟩:ByteArray).size=0 from rfl),hsk2,hdir]
    simp only
    unfold Az.rest
    have hne:¬ L.at_=L.s.size:=by rw [← hL];show ¬ b0=s.size;omega
    rw [if_neg hne]
    have hi:L.instr=none:=by
     unfold L9.instr
     have h0:L.sk.mn.op=0:=by
      rw [hsk2]
      show opOf L.mnS.data.toList=0
      by_cases c:opOf L.mnS.data.toList=0
      ·exact c
      ·have:=word_opOf c
       have e:L.mnS=s.extract b0 e1:=hwd
       rw [e] at this
       unfold nameB at hn
       rw [this] at hn
       cases hn
     rw [if_pos h0]
    rw [hi]
   | true =>
    rw [hn] at r3
    have r4:=r3 rfl { z with no:=no }
    have hsz:¬ (s.extract b0 e1).size=0:=fun h=>by
     unfold nameB at hn
     have:(s.extract b0 e1).data.toList=[]:=List.eq_nil_of_length_eq_zero (by rw [sz_list];exact h)
     rw [this] at hn
     cases hn
    have hq:z.row no s=Az.rest { z with no:=no } (s.extract b0 e1) ⟨s,b3,true,0,0,0,0,⟨#[]⟩,false⟩:=by
     rw [hrow,hnm,hn,if_pos rfl,h58,if_pos rfl]
     simp only
     rw [if_neg hsz]
     show Az.rest _ _ (L9.mk s (runB isBl s (b2+1)) true 0 0 0 0 ⟨#[]⟩ false)=_
     rw [hb3]
    rw [hq]
    exact ⟨r4.1,fun hb=>⟨.inr rfl,fun h=>(by cases h),fun _=>r4.2.1 hb,fun _=>r4.2.2 hb⟩⟩
  | false =>
   rw [if_neg (by decide)]
   obtain ⟨is,op,a,b,v,to_,far,bad,r1,r2,r0,r3⟩:=rest_both s hs b0 l0 k hk ⟨#[]⟩ false
   refine ⟨⟨#[]⟩,false,is,op,a,b,v,to_,far,bad,r1,r0,fun z no=>?_⟩
   have hq:z.row no s=Az.rest { z with no:=no } ⟨#[]⟩ ⟨s,b0,true,0,0,0,0,⟨#[]⟩,false⟩:=by
    have hn:(L9.new s true).nm=(⟨#[]⟩,L):=by
     rw [hnm,h58]
     split <;> rfl
    rw [hrow,hn]
    simp only
    rw [if_pos (show (⟨#[]⟩:ByteArray).size=0 from rfl),hsk2,hdir,hL]
   have r4:=r3 rfl { z with no:=no }
   rw [hq]
   exact ⟨r4.1,fun hb=>⟨.inl rfl,fun h=>(by cases h),fun _=>r4.2.1 hb,fun _=>r4.2.2 hb⟩⟩
end Go.Proofs.YtffojmgmpfjlhaaGreatDoor.Q
namespace Go.Proofs.YtffojmgmpfjlhaaGreatDoor.Q
open Go.Proofs.YtffojmgmpfjlhaaGreatDoor Go.RowKit Go.Proofs.YtffojmgmpfjlhaaGreatDoorW.PrintWords Go.Proofs.YtffojmgmpfjlhaaGreatDoorW.PrintLast Go.Proofs.YtffojmgmpfjlhaaGreatDoorW.PrintMore
attribute [local go_sem] max2_int min2_int max_two min_two max_three min_three max_four min_four
def rzLen.f (k:Nat) (a0_0:Int) (a0_1:Int) (a0_2:Int) (a0_3:Int):Option (Int):=(rzForm.f k a0_0).bind fun t456=>((rzOperands.f k t456).bind fun bt457=>(if bt457.1=true then (some (wrap64 ((wrap64 (1+bt457.2.2))+1))) else (some (wrap64 (1+bt457.2.2)))))
theorem rzLen.calls (k:Nat) (a0_0:Int) (a0_1:Int) (a0_2:Int) (a0_3:Int) (r:Int) (w:World) (h:rzLen.f k a0_0 a0_1 a0_2 a0_3=some r) :
  Calls Tryz.prog 45 #[.agg #[.int .i64 a0_0,.int .i64 a0_1,.int .i64 a0_2,.int .i64 a0_3]] w fun e w'=>e=.returned (.int .i64 r)∧Below w.heap.size w w':=by
 have hu23:=Tryz.underlying23;have HB:=Aside0.mk (Below.refl w.heap.size w);unfold rzLen.f at h;have H:=h;clear h;obtain ⟨t456,A2,H⟩:=bas H;(try dsimp only at H);obtain ⟨⟨t457,t458,t459⟩,A3,H⟩:=bas H;(try dsimp only at H);by_cases c4:t457=true
 ·subst c4;rw [if_pos rfl] at H;obtain rfl:=Option.some.inj H;go_enter Tryz.func45,Tryz.ntmps45
  go_wp2_with (first | ((with_reducible refine gate_dst (N:=1) rfl ?_);refine bxe (N:=1) (cs:=#[.int .i64 a0_0,.int .i64 a0_1,.int .i64 a0_2,.int .i64 a0_3]) (t:=23) ?_;intro gb455 hg w5 hbox hb;have BK455:=Aside0.mk hbox;have GW455:Aside0 (w.heap.size≤gb455):=⟨gwb⟩;have GE455:Aside0 (w.heap.size≤gb455):=⟨gwb⟩;replace HB:=Aside0.mk (below_step blw hb);clear hb hbox hg;obtain ⟨_,_,_,_,_,_,_,_⟩:=bz4 BK455.out) | ((with_reducible refine gate_callee (f:=51) rfl ?_);refine gl (some 10) Tryz.func51 #[.int .i64 a0_0] ?_;(with_reducible refine (rzForm.calls k a0_0 _ _ A2.out).mono ?_);rintro e w' ⟨rfl,⟨nd,rfl⟩⟩;refine ⟨_,rfl,?_⟩) | ((with_reducible refine gate_callee (f:=53) rfl ?_);refine gl (some 11) Tryz.func53 #[.int .i64 t456] ?_;(with_reducible refine (rzOperands.calls k _ true _ _ _ A3.out).mono ?_);rintro e w' ⟨rfl,⟨nd,rfl⟩⟩;refine ⟨_,rfl,?_⟩))
  go_ret;exact ⟨rew,blw⟩
 ·replace c4:=Bool.eq_false_iff.mpr c4;subst c4;rw [if_neg (show ¬ (false=true) by decide)] at H;obtain rfl:=Option.some.inj H;go_enter Tryz.func45,Tryz.ntmps45
  go_wp2_with (first | ((with_reducible refine gate_dst (N:=1) rfl ?_);refine bxe (N:=1) (cs:=#[.int .i64 a0_0,.int .i64 a0_1,.int .i64 a0_2,.int .i64 a0_3]) (t:=23) ?_;intro gb455 hg w7 hbox hb;have BK455:=Aside0.mk hbox;have GW455:Aside0 (w.heap.size≤gb455):=⟨gwb⟩;have GE455:Aside0 (w.heap.size≤gb455):=⟨gwb⟩;replace HB:=Aside0.mk (below_step blw hb);clear hb hbox hg;obtain ⟨_,_,_,_,_,_,_,_⟩:=bz4 BK455.out) | ((with_reducible refine gate_callee (f:=51) rfl ?_);refine gl (some 10) Tryz.func51 #[.int .i64 a0_0] ?_;(with_reducible refine (rzForm.calls k a0_0 _ _ A2.out).mono ?_);rintro e w' ⟨rfl,⟨nd,rfl⟩⟩;refine ⟨_,rfl,?_⟩) | ((with_reducible refine gate_callee (f:=53) rfl ?_);refine gl (some 11) Tryz.func53 #[.int .i64 t456] ?_;(with_reducible refine (rzOperands.calls k _ false _ _ _ A3.out).mono ?_);rintro e w' ⟨rfl,⟨nd,rfl⟩⟩;refine ⟨_,rfl,?_⟩))
  go_ret;exact ⟨rew,blw⟩
end Go.Proofs.YtffojmgmpfjlhaaGreatDoor.Q
namespace Go.Proofs.YtffojmgmpfjlhaaGreatDoor.Q
open Go.Proofs.Ix hiding rd
open Go Go.Proofs.YtffojmgmpfjlhaaGreatDoor Go.RowKit Go.Proofs.YtffojmgmpfjlhaaGreatDoorW.PrintWords
structure Rw where
 lab:ByteArray
 fn:Bool
 is:Bool
 op:Int
 a:Int
 b:Int
 v:Int
 to_:ByteArray
 far:Bool
 bad:Bool
def Rw.of (t:RowT):Rw:=⟨t.1,t.2.1,t.2.2.1,t.2.2.2.1,t.2.2.2.2.1,t.2.2.2.2.2.1,t.2.2.2.2.2.2.1,t.2.2.2.2.2.2.2.1,t.2.2.2.2.2.2.2.2.1,t.2.2.2.2.2.2.2.2.2⟩
def rowP (s:ByteArray):Rw:=Rw.of ((rzrow.f (2 * s.size+401+20) s).getD (⟨#[]⟩,false,false,0,0,0,0,⟨#[]⟩,false,false))
theorem rowP_any (s:ByteArray) (hs:s.size≤1000000):rzrow.f (2 * s.size+401+20) s=some ((rowP s).lab,(rowP s).fn,(rowP s).is,(rowP s).op,(rowP s).a,(rowP s).b,(rowP s).v,(rowP s).to_,(rowP s).far,(rowP s).bad)∧((rowP s).is=false→(rowP s).to_=⟨#[]⟩∧(rowP s).far=false) ∧
   ∀ (z:Az) (no:Nat),((rowP s).bad=true→z.row no s=.error 22)∧((rowP s).bad=false→((rowP s).lab.size=0∨nameB (rowP s).lab=true)∧((rowP s).fn=true→(rowP s).is=false∧nameB (rowP s).lab=true∧z.row no s=Az.dirRow { z with no:=no } (rowP s).lab) ∧
    ((rowP s).fn=false→(rowP s).is=false→z.row no s=Az.def_ { z with no:=no } (rowP s).lab) ∧
    ((rowP s).fn=false→(rowP s).is=true→∃ l:L9,l.op=(rowP s).op∧l.a=(rowP s).a∧l.b=(rowP s).b∧((rowP s).far=false→l.imm=(rowP s).v)∧l.label=(rowP s).to_∧l.far=(rowP s).far∧nameM (rowP s).op≠[]∧z.row no s=match Az.def_ { z with no:=no } (rowP s).lab with | .error e=>.error e | .ok z1=>z1.push l)):=by
 obtain ⟨lab,fn,is,op,a,b,v,to_,far,bad,h1,h2,h3⟩:=row_both s hs (2 * s.size+401) (by omega)
 have e:rowP s=⟨lab,fn,is,op,a,b,v,to_,far,bad⟩:=by unfold rowP;rw [h1];rfl
 rw [e]
 exact ⟨h1,h2,h3⟩
structure It where
 r:Rw
 off:Nat
 l:L9
def enL:Nat→List It→List En
 | _,[]=>[]
 | i,x :: t=>if x.r.is=true then ⟨x.l,i+1,x.off⟩ :: enL (i+1) t else enL (i+1) t
def labI:List It→List (ByteArray × Nat)
 | []=>[]
 | x :: t=>if x.r.lab.size=0 then labI t else (x.r.lab,x.off) :: labI t
def funI:List It→List ByteArray
 | []=>[]
 | x :: t=>if x.r.fn=true then x.r.lab :: funI t else funI t
def findR:List Rw→ByteArray→Option Nat
 | [],_=>none
 | r :: t,s=>if r.lab=s then some 0 else (findR t s).map (·+1)
structure It.Good (x:It):Prop where
 off:x.off≤2048
 is_:x.r.is=true→x.r.fn=false∧x.l.op=x.r.op∧x.l.a=x.r.a∧x.l.b=x.r.b∧(x.r.far=false→x.l.imm=x.r.v)∧x.l.label=x.r.to_∧x.l.far=x.r.far∧nameM x.r.op≠[]
 no_:x.r.is=false→x.r.to_.size=0∧x.r.far=false
 fn_:x.r.fn=true→x.r.lab.size≠0
structure Inv (X:List It) (z:Az):Prop where
 list:z.list=enL 0 X
 labels:z.labels=labI X
 funcs:z.funcs=funI X
 good:∀ x∈X,x.Good
 look:∀ x∈X,x.r.lab.size≠0→lookB (labI X) x.r.lab=some x.off
 size:z.size≤2048
 fs:z.funcs.length≤32
theorem enL_snoc (x:It):∀ (X:List It) (i:Nat),enL i (X ++ [x])=enL i X ++ (if x.r.is=true then [⟨x.l,i+X.length+1,x.off⟩] else [])
 | [],i=>by
  show (if x.r.is=true then [(⟨x.l,i+1,x.off⟩:En)] else [])=[] ++ _
  rfl
 | y :: X,i=>by
  show (if y.r.is=true then (⟨y.l,i+1,y.off⟩:En) :: enL (i+1) (X ++ [x]) else enL (i+1) (X ++ [x]))=(if y.r.is=true then (⟨y.l,i+1,y.off⟩:En) :: enL (i+1) X else enL (i+1) X) ++ _
  rw [enL_snoc x X (i+1),show i+1+X.length+1=i+(y :: X).length+1 by simp;omega]
  split <;> simp
theorem labI_snoc (x:It):∀ X:List It,labI (X ++ [x])=labI X ++ (if x.r.lab.size=0 then [] else [(x.r.lab,x.off)])
 | []=>rfl
 | y :: X=>by
  show (if y.r.lab.size=0 then labI (X ++ [x]) else (y.r.lab,y.off) :: labI (X ++ [x]))=(if y.r.lab.size=0 then labI X else (y.r.lab,y.off) :: labI X) ++ _
  rw [labI_snoc x X]
  by_cases c:y.r.lab.size=0
  ·rw [if_pos c,if_pos c]
  ·rw [if_neg c,if_neg c];rfl
theorem funI_snoc (x:It):∀ X:List It,funI (X ++ [x])=funI X ++ (if x.r.fn=true then [x.r.lab] else [])
 | []=>rfl
 | y :: X=>by
  show (if y.r.fn=true then y.r.lab :: funI (X ++ [x]) else funI (X ++ [x]))=(if y.r.fn=true then y.r.lab :: funI X else funI X) ++ _
  rw [funI_snoc x X]
  by_cases c:y.r.fn=true
  ·rw [if_pos c,if_pos c];rfl
  ·rw [if_neg c,if_neg c]
theorem look_cons (a:ByteArray) (n:Nat) (L:List (ByteArray × Nat)) (s:ByteArray):lookB ((a,n) :: L) s=if a=s then some n else lookB L s:=by
 unfold lookB
 by_cases c:a=s
 ·rw [List.find?_cons_of_pos (by simpa using c),if_pos c];rfl
 ·rw [List.find?_cons_of_neg (by simpa using c),if_neg c]
theorem look_app (L M:List (ByteArray × Nat)) (s:ByteArray):lookB (L ++ M) s=match lookB L s with | some v=>some v | none=>lookB M s:=by
 induction L with
 | nil=>rfl
 | cons p L ih =>
  obtain ⟨a,n⟩:=p
  rw [List.cons_append,look_cons,look_cons,ih]
  by_cases c:a=s
  ·rw [if_pos c,if_pos c]
  ·rw [if_neg c,if_neg c]
theorem find_none {s:ByteArray} (hs:s.size≠0):∀ X:List It,findR (X.map It.r) s=none→lookB (labI X) s=none
 | [],_=>rfl
 | x :: X,h=>by
  have h:(if x.r.lab=s then some 0 else (findR (X.map It.r) s).map (·+1))=none:=h
  by_cases c:x.r.lab=s
  ·rw [if_pos c] at h;cases h
  ·rw [if_neg c,Option.map_eq_none_iff] at h
   have ih:=find_none hs X h
   show lookB (if x.r.lab.size=0 then labI X else (x.r.lab,x.off) :: labI X) s=none
   split
   ·exact ih
   ·rw [look_cons,if_neg c,ih]
theorem find_some {s:ByteArray} (hs:s.size≠0):∀ (X:List It) (k:Nat),findR (X.map It.r) s=some k→∃ h:k < X.length,lookB (labI X) s=some X[k].off
 | [],_,h=>by cases h
 | x :: X,k,h=>by
  have h:(if x.r.lab=s then some 0 else (findR (X.map It.r) s).map (·+1))=some k:=h
  by_cases c:x.r.lab=s
  ·rw [if_pos c] at h
   cases h
   refine ⟨Nat.zero_lt_succ _,?_⟩
   show lookB (if x.r.lab.size=0 then labI X else (x.r.lab,x.off) :: labI X) s=some x.off
   rw [if_neg (by rw [c];exact hs),look_cons,if_pos c]
  ·rw [if_neg c,Option.map_eq_some_iff] at h
   obtain ⟨j,hj,rfl⟩:=h
   obtain ⟨h1,h2⟩:=find_some hs X j hj
   refine ⟨Nat.succ_lt_succ h1,?_⟩
   show lookB (if x.r.lab.size=0 then labI X else (x.r.lab,x.off) :: labI X) s=some (X[j]).off
   split
   ·exact h2
   ·rw [look_cons,if_neg c,h2]
theorem Inv.snoc {X:List It} {z z':Az} (h:Inv X z) (x:It) (hx:x.Good) (hnew:x.r.lab.size≠0→lookB (labI X) x.r.lab=none)
  (e1:z'.list=z.list ++ (if x.r.is=true then [⟨x.l,X.length+1,x.off⟩] else [])) (e2:z'.labels=z.labels ++ (if x.r.lab.size=0 then [] else [(x.r.lab,x.off)])) (e3:z'.funcs=z.funcs ++ (if x.r.fn=true then [x.r.lab] else []))
  (hs:z'.size≤2048) (hf:z'.funcs.length≤32):Inv (X ++ [x]) z':=by
 refine ⟨?_,?_,?_,fun y hy=>?_,fun y hy hl=>?_,hs,hf⟩
 ·rw [e1,h.list,enL_snoc,Nat.zero_add]
 ·rw [e2,h.labels,labI_snoc]
 ·rw [e3,h.funcs,funI_snoc]
 ·rcases List.mem_append.1 hy with hy | hy
  ·exact h.good y hy
  ·rw [List.mem_singleton] at hy;rw [hy];exact hx
 ·rw [labI_snoc,look_app]
  rcases List.mem_append.1 hy with hy | hy
  ·rw [h.look y hy hl]
  ·rw [List.mem_singleton] at hy
   subst hy
   rw [hnew hl,if_neg hl]
   simp only
   rw [look_cons,if_pos rfl]
def nxN (z:Az) (r:Rw):Nat:=if r.is=true then z.size+lenM (formM r.op) else z.size
def nxF (z:Az) (r:Rw):Nat:=if r.fn=true then z.funcs.length+1 else z.funcs.length
theorem name_ne {s:ByteArray} (h:nameB s=true):s.size≠0:=fun e=>by
 unfold nameB at h
 have:s.data.toList=[]:=List.eq_nil_of_length_eq_zero (by rw [sz_list];exact e)
 rw [this] at h
 cases h
theorem row_step (s:ByteArray) (hs:s.size≤1000000) {X:List It} {z:Az} (h:Inv X z) (no:Nat) (hno:no=X.length+1) :
  ((rowP s).bad=true→z.row no s=.error 22) ∧
  ((rowP s).bad=false→(rowP s).lab.size≠0→findR (X.map It.r) (rowP s).lab≠none→z.row no s=.error 23) ∧
  ((rowP s).bad=false→((rowP s).lab.size=0∨findR (X.map It.r) (rowP s).lab=none) →
   ((2048 < nxN z (rowP s)∨32 < nxF z (rowP s))→z.row no s=.error 2) ∧
   (¬ (2048 < nxN z (rowP s)∨32 < nxF z (rowP s))→∃ l z',z.row no s=.ok z'∧Inv (X ++ [⟨rowP s,z.size,l⟩]) z'∧z'.size=nxN z (rowP s)∧z'.funcs.length=nxF z (rowP s))):=by
 obtain ⟨_,hn,hz⟩:=rowP_any s hs
 obtain ⟨h22,hok⟩:=hz z no
 obtain ⟨r,hr⟩:∃ r,rowP s=r:=⟨_,rfl⟩
 rw [hr] at hn h22 hok ⊢
 subst hno
 have hsz:=h.size
 have hfs:=h.fs
 refine ⟨h22,fun hb hl hf=>?_,fun hb hl=>?_⟩
 ·obtain ⟨hnm,hfn,hdf,his⟩:=hok hb
  obtain ⟨k,hk⟩:=Option.ne_none_iff_exists'.1 hf
  obtain ⟨_,hlk⟩:=find_some hl X k hk
  rw [← h.labels] at hlk
  have hd:Az.def_ { z with no:=X.length+1 } r.lab=.error 23:=by
   unfold Az.def_
   rw [if_neg hl]
   simp only [hlk]
  cases cf:r.fn with
  | true =>
   rw [(hfn cf).2.2]
   unfold Az.dirRow
   simp only [hlk]
  | false =>
   cases ci:r.is with
   | false=>rw [hdf cf ci,hd]
   | true =>
    obtain ⟨l,_,_,_,_,_,_,_,e⟩:=his cf ci
    rw [e,hd]
 ·obtain ⟨hnm,hfn,hdf,his⟩:=hok hb
  have hlk:r.lab.size≠0→lookB z.labels r.lab=none:=fun hl0=>by
   rcases hl with hl | hl
   ·exact absurd hl hl0
   ·rw [h.labels];exact find_none hl0 X hl
  have hlk2:r.lab.size≠0→lookB (labI X) r.lab=none:=fun hl0=>by rw [← h.labels];exact hlk hl0
  have hd:Az.def_ { z with no:=X.length+1 } r.lab=.ok { z with no:=X.length+1,labels:=z.labels ++ (if r.lab.size=0 then [] else [(r.lab,z.size)]) }:=by
   unfold Az.def_
   by_cases c:r.lab.size=0
   ·rw [if_pos c,if_pos c,List.append_nil]
   ·rw [if_neg c,if_neg c]
    simp only [hlk c]
  unfold nxN nxF
  cases cf:r.fn with
  | true =>
   obtain ⟨ci,hnB,e⟩:=hfn cf
   have hne:=name_ne hnB
   have hl2:=hlk hne
   rw [e,ci,if_neg (by decide),if_pos rfl]
   have e1:Az.dirRow { z with no:=X.length+1 } r.lab=if 32 < z.funcs.length+1 then .error 2 else .ok { z with no:=X.length+1,labels:=z.labels ++ [(r.lab,z.size)],funcs:=z.funcs ++ [r.lab] }:=by
    unfold Az.dirRow
    simp only [hl2]
   rw [e1]
   refine ⟨fun hh=>?_,fun hh=>?_⟩
   ·rw [if_pos (by omega)]
   ·rw [if_neg (by omega)]
    have hlen:(z.funcs ++ [r.lab]).length=z.funcs.length+1:=by simp
    refine ⟨(L9.new ⟨#[]⟩ true),_,rfl,h.snoc ⟨r,z.size,(L9.new ⟨#[]⟩ true)⟩ ⟨hsz,fun hh=>?_,fun hh=>?_,fun _=>hne⟩ hlk2 ?_ ?_ ?_ hsz ?_,rfl,hlen⟩
    ·rw [ci] at hh;cases hh
    ·obtain ⟨q1,q2⟩:=hn ci
     exact ⟨by rw [show (⟨r,z.size,(L9.new ⟨#[]⟩ true)⟩:It).r.to_=⟨#[]⟩ from q1];rfl,q2⟩
    ·show z.list=z.list ++ (if r.is=true then _ else _)
     rw [ci,if_neg (by decide),List.append_nil]
    ·show z.labels ++ [(r.lab,z.size)]=z.labels ++ (if r.lab.size=0 then _ else _)
     rw [if_neg hne]
    ·show z.funcs ++ [r.lab]=z.funcs ++ (if r.fn=true then _ else _)
     rw [cf,if_pos rfl]
    ·show (z.funcs ++ [r.lab]).length≤32
     omega
  | false =>
   rw [if_neg (show ¬ (false=true) by decide)]
   cases ci:r.is with
   | false =>
    rw [hdf cf ci,hd,if_neg (by decide)]
    refine ⟨fun hh=>by omega,fun _=>?_⟩
    refine ⟨(L9.new ⟨#[]⟩ true),_,rfl,h.snoc ⟨r,z.size,(L9.new ⟨#[]⟩ true)⟩ ⟨hsz,fun hh=>?_,fun hh=>?_,fun hh=>?_⟩ hlk2 ?_ rfl ?_ hsz hfs,rfl,rfl⟩
    ·have hh:r.is=true:=hh
     rw [ci] at hh;cases hh
    ·obtain ⟨q1,q2⟩:=hn ci
     exact ⟨by rw [show (⟨r,z.size,(L9.new ⟨#[]⟩ true)⟩:It).r.to_=⟨#[]⟩ from q1];rfl,q2⟩
    ·have hh:r.fn=true:=hh
     rw [cf] at hh;cases hh
    ·show z.list=z.list ++ (if r.is=true then _ else _)
     rw [ci,if_neg (by decide),List.append_nil]
    ·show z.funcs=z.funcs ++ (if r.fn=true then _ else _)
     rw [cf,if_neg (by decide),List.append_nil]
   | true =>
    obtain ⟨l,g1,g2,g3,g4,g5,g6,g7,e⟩:=his cf ci
    rw [e,hd,if_pos rfl]
    simp only
    unfold Az.push
    rw [g1]
    refine ⟨fun hh=>?_,fun hh=>?_⟩
    ·rw [if_pos (by show 2048 < z.size+_;omega)]
    ·rw [if_neg (by show ¬ 2048 < z.size+_;omega)]
     refine ⟨l,_,rfl,h.snoc ⟨r,z.size,l⟩ ⟨hsz,fun _=>⟨cf,g1,g2,g3,g4,g5,g6,g7⟩,fun hh=>?_,fun hh=>?_⟩ hlk2 ?_ rfl ?_ (by show z.size+_≤2048;omega) hfs,rfl,rfl⟩
     ·have hh:r.is=false:=hh
      rw [ci] at hh;cases hh
     ·have hh:r.fn=true:=hh
      rw [cf] at hh;cases hh
     ·show z.list ++ [_]=z.list ++ (if r.is=true then _ else _)
      rw [ci,if_pos rfl]
     ·show z.funcs=z.funcs ++ (if r.fn=true then _ else _)
      rw [cf,if_neg (by decide),List.append_nil]
theorem rlen_f (op a b v:Int) (hn:nameM op≠[]) (k:Nat) (hk:12≤k):rzLen.f k op a b v=some (lenM (formM op):Int):=by
 obtain ⟨k,rfl⟩:∃ m,k=m+12:=⟨k - 12,by omega⟩
 obtain ⟨r,hf,hr⟩:=form_any op
 rcases hr with ⟨h0,_⟩ | ⟨_,hr,hp⟩
 ·exact absurd h0 hn
 have hb:=(bytes_ten (f:=formM op)).1
 unfold rzLen.f lenM
 rw [hf,Option.bind_some,opnd_any hp,Option.bind_some]
 simp only
 have e1:wrap64 (1+(bytesM (formM op):Int))=((1+bytesM (formM op):Nat):Int):=by simp only [wrap64];omega
 rw [e1]
 by_cases c:hasA (formM op)=true
 ·rw [if_pos c,if_pos c,wrap_succ (by omega)]
 ·rw [if_neg c,if_neg c];rfl
theorem emit_no {L:List (ByteArray × Nat)} {x:It} {t:List It} {i:Nat} {B:List Int} {R:Except (Nat × Int) (List Int)} (hR:codeZ L (enL i (x :: t)) B=R) (c:x.r.is=false):codeZ L (enL (i+1) t) B=R:=by
 unfold enL at hR
 rw [c,if_neg (by decide)] at hR
 exact hR
theorem emit_is {L:List (ByteArray × Nat)} {x:It} {t:List It} {i:Nat} {B:List Int} {R:Except (Nat × Int) (List Int)} (hR:codeZ L (enL i (x :: t)) B=R) (c:x.r.is=true) (hx:x.Good) :
  (x.r.to_.size=0→(x.r.far=true→R=.error (i+1,24))∧(x.r.far=false→codeZ L (enL (i+1) t) (B ++ encI x.r.op x.r.a x.r.b x.r.v)=R)) ∧
  (x.r.to_.size≠0→(lookB L x.r.to_=none→R=.error (i+1,23))∧(∀ v,lookB L x.r.to_=some v →
   (fitsM (formM x.r.op) ((v:Int) - x.off - lenM (formM x.r.op))=false→R=.error (i+1,24)) ∧
   (fitsM (formM x.r.op) ((v:Int) - x.off - lenM (formM x.r.op))=true→codeZ L (enL (i+1) t) (B ++ encI x.r.op x.r.a x.r.b ((v:Int) - x.off - lenM (formM x.r.op)))=R))):=by
 obtain ⟨g0,g1,g2,g3,g4,g5,g6,g7⟩:=hx.is_ c
 unfold enL at hR
 rw [c,if_pos rfl] at hR
 refine ⟨fun h0=>?_,fun h0=>⟨fun hl=>?_,fun v hl=>?_⟩⟩
 ·have hf:=fix_plain (L:=L) (e:=⟨x.l,i+1,x.off⟩) (by rw [show (⟨x.l,i+1,x.off⟩:En).l.label=x.r.to_ from g5];exact h0)
  rw [codeZ_ok hf] at hR
  refine ⟨fun hfar=>?_,fun hfar=>?_⟩
  ·rw [if_pos (g6.trans hfar)] at hR
   exact hR.symm
  ·rw [if_neg (by rw [show (⟨x.l,i+1,x.off⟩:En).l.far=x.r.far from g6,hfar];decide)] at hR
   rw [← g1,← g2,← g3,← g4 hfar]
   exact hR
 ·have h1:¬ (⟨x.l,i+1,x.off⟩:En).l.label.size=0:=by rw [show (⟨x.l,i+1,x.off⟩:En).l.label=x.r.to_ from g5];exact h0
  rw [codeZ_err (fix_none h1 (by rw [show (⟨x.l,i+1,x.off⟩:En).l.label=x.r.to_ from g5];exact hl))] at hR
  exact hR.symm
 ·have h1:¬ (⟨x.l,i+1,x.off⟩:En).l.label.size=0:=by rw [show (⟨x.l,i+1,x.off⟩:En).l.label=x.r.to_ from g5];exact h0
  have hf:=fix_some (L:=L) (e:=⟨x.l,i+1,x.off⟩) h1 v (by rw [show (⟨x.l,i+1,x.off⟩:En).l.label=x.r.to_ from g5];exact hl)
  rw [codeZ_ok hf] at hR
  have hR:(if (!fitsM (formM x.l.op) ((v:Int) - x.off - lenM (formM x.l.op)))=true then Except.error (i+1,(24:Int)) else codeZ L (enL (i+1) t) (B ++ encI x.l.op x.l.a x.l.b ((v:Int) - x.off - lenM (formM x.l.op))))=R:=hR
  rw [g1,g2,g3] at hR
  refine ⟨fun hfit=>?_,fun hfit=>?_⟩
  ·rw [hfit,if_pos (show (!false)=true from rfl)] at hR
   exact hR.symm
  ·rw [hfit,if_neg (show ¬ (!true)=true by decide)] at hR
   exact hR
def symI (at_:Int):List It→List S61
 | []=>[]
 | x :: t=>if x.r.fn=true then ⟨x.r.lab,at_+x.off,0⟩ :: symI at_ t else symI at_ t
def nextA (end_:Int):List S61→Int
 | []=>end_
 | u :: _=>u.f1
def sizR (end_:Int):List S61→List S61
 | []=>[]
 | s :: t=>⟨s.f0,s.f1,nextA end_ t - s.f1⟩ :: sizR end_ t
theorem symI_snoc (at_:Int) (x:It):∀ X:List It,symI at_ (X ++ [x])=symI at_ X ++ (if x.r.fn=true then [⟨x.r.lab,at_+x.off,0⟩] else [])
 | []=>rfl
 | y :: X=>by
  show (if y.r.fn=true then (⟨y.r.lab,at_+y.off,0⟩:S61) :: symI at_ (X ++ [x]) else symI at_ (X ++ [x]))=(if y.r.fn=true then (⟨y.r.lab,at_+y.off,0⟩:S61) :: symI at_ X else symI at_ X) ++ _
  rw [symI_snoc at_ x X]
  by_cases c:y.r.fn=true
  ·rw [if_pos c,if_pos c];rfl
  ·rw [if_neg c,if_neg c]
theorem symI_eq (L:List (ByteArray × Nat)) (size:Nat) (at_:Int):∀ X:List It,(∀ x∈X,x.Good)→(∀ x∈X,x.r.lab.size≠0→lookB L x.r.lab=some x.off) →
  symsZ L size at_ (funI X)=sizR (at_+size) (symI at_ X)∧nextA (at_+size) (symI at_ X)=at_+(endZ L size (funI X):Int)
 | [],_,_=>⟨rfl,rfl⟩
 | x :: X,hg,hl=>by
  obtain ⟨i1,i2⟩:=symI_eq L size at_ X (fun y hy=>hg y (List.mem_cons_of_mem _ hy)) (fun y hy=>hl y (List.mem_cons_of_mem _ hy))
  show symsZ L size at_ (if x.r.fn=true then x.r.lab :: funI X else funI X)=sizR (at_+size) (if x.r.fn=true then (⟨x.r.lab,at_+x.off,0⟩:S61) :: symI at_ X else symI at_ X)∧nextA (at_+size) (if x.r.fn=true then (⟨x.r.lab,at_+x.off,0⟩:S61) :: symI at_ X else symI at_ X)=at_+(endZ L size (if x.r.fn=true then x.r.lab :: funI X else funI X):Int)
  by_cases c:x.r.fn=true
  ·rw [if_pos c,if_pos c]
   have h1:lookD L x.r.lab=x.off:=by
    unfold lookD
    rw [hl x List.mem_cons_self ((hg x List.mem_cons_self).fn_ c)]
    rfl
   refine ⟨?_,?_⟩
   ·show (⟨x.r.lab,at_+(lookD L x.r.lab:Int),(endZ L size (funI X):Int) - lookD L x.r.lab⟩:S61) :: symsZ L size at_ (funI X)=(⟨x.r.lab,at_+x.off,nextA (at_+size) (symI at_ X) - (at_+x.off)⟩:S61) :: sizR (at_+size) (symI at_ X)
    rw [i1,i2,h1]
    congr 2
    omega
   ·show at_+(x.off:Int)=at_+(lookD L x.r.lab:Int)
    rw [h1]
  ·rw [if_neg c,if_neg c]
   exact ⟨i1,i2⟩
end Go.Proofs.YtffojmgmpfjlhaaGreatDoor.Q
namespace Go.Proofs.YtffojmgmpfjlhaaGreatDoor.Q
open Go.Proofs.YtffojmgmpfjlhaaGreatDoor Go.RowKit Go.Proofs.YtffojmgmpfjlhaaGreatDoorW.PrintWords Go.Proofs.YtffojmgmpfjlhaaGreatDoorW.PrintLast Go.Proofs.YtffojmgmpfjlhaaGreatDoorW.PrintMore
attribute [local go_sem] max2_int min2_int max_two min_two max_three min_three max_four min_four
def rzfind.l0:Nat→List (S132)→Int→ByteArray→Int→Option (Int)
 | 0,_,_,_,_=>none
 | k+1,x0,x1,x2,x7=>if x7 < x1 then (if 0≤x7 then (if x7 < (x0.length:Int) then (if ((rd_T132 x0 x7).f0).toList=x2.toList then (some x7) else (rzfind.l0 k x0 x1 x2 (wrap64 (x7+1)))) else (none)) else (none)) else (some (-1))
def rzfind.f (k:Nat) (l0:List (S132)) (a1:Int) (a2:ByteArray):Option (Int):=rzfind.l0 k l0 a1 a2 0
theorem rzfind.calls (k:Nat) (A0:Option Addr) (c0:Nat) (l0:List (S132)) (a1:Int) (a2:ByteArray) (r:Int) (w:World) (hr0:Kd.C k132 w A0 l0.length l0) (hc0:l0.length≤c0) (h:rzfind.f k l0 a1 a2=some r) :
  Calls Tryz.prog 78 #[.slice A0 l0.length c0,.int .i64 a1,.string a2] w fun e w'=>e=.returned (.int .i64 r)∧Drawn0 w w':=by
 have HR0:=Aside0.mk hr0;have HC0:=Aside0.mk hc0;clear hr0 hc0;unfold rzfind.f at h;have H:=h;clear h;have H':=Aside0.mk H;clear H;go_enter Tryz.func78,Tryz.ntmps78
 go_wp2;try simp only [Act.put,List.setIfInBounds_toArray,List.set_cons_zero,List.set_cons_succ]
 go_loopg [7] k (fun kq v7 w'=>∃ (x7_1:Int),v7=.int .i64 x7_1∧Aside0 (rzfind.l0 kq l0 a1 a2 x7_1=some r)∧Aside0 (kq≤k)∧Drawn0 w w')
 case atStart=>exact ⟨(0),rsd,H',⟨Nat.le_refl _⟩,by repeat (first | exact Drawn0.refl _ | apply Drawn0.step)⟩
 case round =>
  clear H';obtain ⟨x7_1,rfl,HA,HK1,⟨m1,rfl⟩⟩:=hrel;cases gk with
  | zero=>exact absurd HA.out (by simp [rzfind.l0])
  | succ k1 =>
   have H:=HA.out;clear HA;simp only [rzfind.l0] at H;by_cases c4:x7_1 < a1
   ·rw [if_pos c4] at H;have c4b0:=decide_eq_true c4;clear c4;by_cases c5:0≤x7_1
    ·rw [if_pos c5] at H;have c5b0:=decide_eq_true c5;clear c5;by_cases c6:x7_1 < (l0.length:Int)
     ·rw [if_pos c6] at H;have c6b0:=decide_eq_true c6;clear c6;by_cases c7:((rd_T132 l0 x7_1).f0).toList=a2.toList
      ·rw [if_pos c7] at H;obtain ⟨c7b0,c7b1⟩:=bqt c7;clear c7;obtain rfl:=Option.some.inj H;have p582:0≤(x7_1:Int):=of_decide_eq_true asm;have q582:x7_1 < (l0.length:Int):=of_decide_eq_true asm;obtain ⟨ad582,e582,hx582_0,hx582_1,hx582_2,hx582_3,hx582_4,hx582_5,hx582_6,hx582_7,hx582_8,hx582_9⟩:=at_T132 HR0.out x7_1 p582 q582;cases e582;replace p582:=eq_true p582;replace q582:=eq_true q582;go_wp2;go_ret;exact ⟨by first | rfl | (simp;done) | (simp [*];done),by repeat (first | exact Drawn0.refl _ | apply Drawn0.step)⟩
      ·rw [if_neg c7] at H;obtain ⟨c7b0,c7b1⟩:=bqf c7;have H':=Aside0.mk H;clear H;have p582:0≤(x7_1:Int):=of_decide_eq_true asm;have q582:x7_1 < (l0.length:Int):=of_decide_eq_true asm;obtain ⟨ad582,e582,hx582_0,hx582_1,hx582_2,hx582_3,hx582_4,hx582_5,hx582_6,hx582_7,hx582_8,hx582_9⟩:=at_T132 HR0.out x7_1 p582 q582;cases e582;replace p582:=eq_true p582;replace q582:=eq_true q582;go_wp2;go_roundg k1
       case measure=>have:=HK1.out;omega
       case rel=>exact ⟨(wrap64 (x7_1+1)),rsd,H',⟨by have:=HK1.out;omega⟩,by repeat (first | exact Drawn0.refl _ | apply Drawn0.step)⟩
     ·rw [if_neg c6] at H;exact absurd H (by simp)
    ·rw [if_neg c5] at H;exact absurd H (by simp)
   ·rw [if_neg c4] at H;have c4b0:=decide_eq_false c4;clear c4;obtain rfl:=Option.some.inj H;go_wp2;go_ret;exact ⟨by first | rfl | (simp;done) | (simp [*];done),by repeat (first | exact Drawn0.refl _ | apply Drawn0.step)⟩
end Go.Proofs.YtffojmgmpfjlhaaGreatDoor.Q
namespace Go.Proofs.YtffojmgmpfjlhaaGreatDoor.Q
open Go.Proofs.Ix hiding rd
open Go Go.Proofs.YtffojmgmpfjlhaaGreatDoor Go.RowKit Go.Proofs.YtffojmgmpfjlhaaGreatDoorW.PrintWords Go.Proofs.YtffojmgmpfjlhaaGreatDoorW.PrintLast Go.Proofs.YtffojmgmpfjlhaaGreatDoorW.PrintMore
theorem R_sl2 {α:Type} {d:Kd α} {e b:Nat} {ok:Nat→Prop} {W:World} {v:Value} {xs:List α} (h:d.R e W b ok v xs):∃ A m c,v=.slice A m c:=by
 obtain ⟨A,c,e⟩:=Kd.R_slice h
 exact ⟨A,_,c,e⟩
theorem four_at {W:World} {g:Nat} {a b c d:Value} {t:TypeId} (h:W.heap[g]?=some (.cells #[a,b,c,d] t (0,0))):W.cell? ⟨g,0,none⟩=some a∧W.cell? ⟨g,1,none⟩=some b∧W.cell? ⟨g,2,none⟩=some c∧W.cell? ⟨g,3,none⟩=some d :=
 ⟨(blk_cell h 0).trans rfl,(blk_cell h 1).trans rfl,(blk_cell h 2).trans rfl,(blk_cell h 3).trans rfl⟩
theorem rencode_any (op a b imm:Int) (hn:nameM op≠[]) (w:World):Calls Tryz.prog 21 #[.agg #[.int .i64 op,.int .i64 a,.int .i64 b,.int .i64 imm]] w fun e w'=>∃ v0:Value,e=.returned v0∧Kd.R (Kd.int .u8) 5 w' w.heap.size (fun _=>True) v0 (encI op a b imm)∧Below w.heap.size w w':=by
 have hu23:=Tryz.underlying23
 obtain ⟨r,hf,hr⟩:=form_any op
 rcases hr with ⟨h0,_⟩ | ⟨_,hr0,hp⟩
 ·exact absurd h0 hn
 have A2:Aside0 (rzForm.f 12 op=some r):=⟨hf 0⟩
 have A3:Aside0 (rzOperands.f 12 r=some (hasA (formM op),hasB (formM op),(bytesM (formM op):Int))):=⟨opnd_any hp 0⟩
 obtain ⟨L2,hL2⟩:∃ L2,[(wrap64 (128+op)) % 256] ++ (if hasB (formM op)=true then [(wrap64 ((wrap64 (8 * a))+b)) % 256] else if hasA (formM op)=true then [a % 256] else [])=L2:=⟨_,rfl⟩
 have hlen:L2.length≤100:=by
  rw [← hL2]
  split
  ·simp
  ·split <;> simp
 have A6:Aside0 (rzgroups.f 12 L2 imm (bytesM (formM op):Int)=some (L2 ++ immI (bytesM (formM op)) imm)):=⟨groups_f L2 imm (formM op) 12 (Nat.le_refl _) hlen⟩
 have hres:encI op a b imm=L2 ++ immI (bytesM (formM op)) imm:=by
  rw [← hL2]
  unfold encI
  simp
 rw [hres]
 obtain ⟨bA,hbA⟩:∃ x,hasA (formM op)=x:=⟨_,rfl⟩
 obtain ⟨bB,hbB⟩:∃ x,hasB (formM op)=x:=⟨_,rfl⟩
 rw [hbA,hbB] at A3 hL2
 have HL:=Aside0.mk hL2
 clear hL2 hres hlen hbA hbB hf hr0 hp
 go_enter Tryz.func21,Tryz.ntmps21
 go_upto_region 1 with fail
 obtain ⟨X,hX⟩:∃ X,w.heap.size=X:=⟨_,rfl⟩
 obtain ⟨W,hW⟩:∃ W,w.alloc (.cells #[.int .i64 op,.int .i64 a,.int .i64 b,.int .i64 imm] 23)=W:=⟨_,rfl⟩
 have HB:Aside0 (Below w.heap.size w W):=⟨by rw [← hW];exact below_alloc (Below.refl _ _) _⟩
 have BX:Aside0 (W.heap[X]?=some (.cells #[.int .i64 op,.int .i64 a,.int .i64 b,.int .i64 imm] 23 (0,0))):=⟨by rw [← hW,← hX];exact blk_new w _⟩
 try rw [hW]
 try simp only [hX]
 clear hW
 obtain ⟨p0,p1,p2,p3⟩:=four_at BX.out
 go_upto_region 2 with (first | (go_at_call 51;refine (rzForm.calls 12 _ _ _ A2.out).mono ?_;rintro e w9 ⟨rfl,hd⟩;replace BX:=Aside0.mk (blk_below BX.out hd.below);replace HB:=Aside0.mk (below_step HB.out hd.below);clear hd) | (go_at_call 53;refine (rzOperands.calls 12 _ _ _ _ _ A3.out).mono ?_;rintro e w9 ⟨rfl,hd⟩;replace BX:=Aside0.mk (blk_below BX.out hd.below);replace HB:=Aside0.mk (below_step HB.out hd.below);clear hd))
 clear p0 p1 p2 p3
 obtain ⟨p0,p1,p2,p3⟩:=four_at BX.out
 have hs9:=HB.out.size
 go_upto_region 3 with ((with_reducible refine gate_dst (N:=19) rfl ?_);refine Kd.R_lit (Kd.int .u8) _ 5 ?hg (N:=19) ?hd (xs:=[((wrap64 (128+op)) % 256)]) (inner:=[.int .u8 ((wrap64 (128+op)) % 256)]) (ok:=fun _=>True) (okp:=fun _=>True) ?hr ?hp (fun _ hk=>hk) trivial (Below.refl _ _) (Nat.le_refl _) (by simp) ?_;(case hd=>rfl);(case hg=>rfl);(case hr=>first | (go_simp;done) | (go_simp;rfl));(case hp=>exact (Reps.one (show Kd.M (Kd.int .u8) _ _ _ ((wrap64 (128+op)) % 256) [.int .u8 ((wrap64 (128+op)) % 256)] from rfl) (Reps.none _ _)));intro v1 w1 ho1 hb1 hg1 hn1;obtain ⟨A1,m1,cp1,rfl⟩:=R_sl2 ho1;have HO:=Aside0.mk (Kd.R_lower ho1 hs9);replace BX:=Aside0.mk (blk_below BX.out hb1);replace HB:=Aside0.mk (below_step HB.out hb1);clear hb1 ho1 hg1 hn1)
 clear p0 p1 p2 p3
 obtain ⟨p0,p1,p2,p3⟩:=four_at BX.out
 go_upto_if 20 with fail
 go_cut [6] (fun v wc=>∃ A m c,v=.slice A m c∧Aside0 (Kd.R (Kd.int .u8) 5 wc w.heap.size (fun _=>True) v L2)∧Aside0 (Below w.heap.size w wc)∧Aside0 (wc.heap[X]?=some (.cells #[.int .i64 op,.int .i64 a,.int .i64 b,.int .i64 imm] 23 (0,0))))
 case first =>
  have hL:=HL.out
  cases bB with
  | true =>
   rw [if_pos rfl] at hL
   go_wp2_with ((with_reducible refine gate_builtin (b:=.append) (xs:=#[.tmp 21,.tmp 29]) rfl ?_);at_builtin;refine Kd.R_append (Kd.int .u8) (w0:=w) w.heap.size rfl (.tmp 21) (.tmp 29) 24 5 (.int .u8 0) 1 rfl Tryz.underlying24 info5 rfl (by decide) (by omega) (.slice A1 m1 cp1) [(wrap64 (128+op)) % 256] ((wrap64 ((wrap64 (8 * a))+b)) % 256) [.int .u8 ((wrap64 ((wrap64 (8 * a))+b)) % 256)] (fun _=>True) (fun _=>False) rfl rfl rfl (fun _ hk=>hk.elim) (fun _ _=>trivial) HO.out HB.out HB.out.size (by simp) ?_;intro v2 w2 ho2 hb2 hg2 hat2;obtain ⟨A2,m2,cp2,rfl⟩:=R_sl2 ho2;have bx2:=blk_grown BX.out hg2 (Kd.R_ne HO.out BX.out (by decide));replace HB:=Aside0.mk hb2;replace HO:=Aside0.mk ho2;replace BX:=Aside0.mk bx2;clear ho2 hb2 hg2 hat2 bx2)
   go_meet
   case rel=>exact ⟨_,_,_,rfl,⟨by rw [← hL];exact HO.out⟩,HB,BX⟩
  | false =>
   rw [if_neg (by decide)] at hL
   cases bA with
   | true =>
    rw [if_pos rfl] at hL
    go_wp2_with ((with_reducible refine gate_builtin (b:=.append) (xs:=#[.tmp 32,.tmp 36]) rfl ?_);at_builtin;refine Kd.R_append (Kd.int .u8) (w0:=w) w.heap.size rfl (.tmp 32) (.tmp 36) 24 5 (.int .u8 0) 1 rfl Tryz.underlying24 info5 rfl (by decide) (by omega) (.slice A1 m1 cp1) [(wrap64 (128+op)) % 256] (a % 256) [.int .u8 (a % 256)] (fun _=>True) (fun _=>False) rfl rfl rfl (fun _ hk=>hk.elim) (fun _ _=>trivial) HO.out HB.out HB.out.size (by simp) ?_;intro v2 w2 ho2 hb2 hg2 hat2;obtain ⟨A2,m2,cp2,rfl⟩:=R_sl2 ho2;have bx2:=blk_grown BX.out hg2 (Kd.R_ne HO.out BX.out (by decide));replace HB:=Aside0.mk hb2;replace HO:=Aside0.mk ho2;replace BX:=Aside0.mk bx2;clear ho2 hb2 hg2 hat2 bx2)
    go_meet
    case rel=>exact ⟨_,_,_,rfl,⟨by rw [← hL];exact HO.out⟩,HB,BX⟩
   | false =>
    rw [if_neg (by decide),List.append_nil] at hL
    go_wp2
    go_meet
    case rel=>exact ⟨_,_,_,rfl,⟨by rw [← hL];exact HO.out⟩,HB,BX⟩
 case rest =>
  clear p0 p1 p2 p3 HO
  obtain ⟨A4,m4,c4,rfl,HO,HB,BX⟩:=hcut
  obtain ⟨p0,p1,p2,p3⟩:=four_at BX.out
  go_wp2_with (go_at_call 54;refine (rzgroups.calls 12 (fun _=>True) _ L2 imm (bytesM (formM op):Int) _ w _ HB.out HO.out A6.out).mono ?_;rintro e w5 ⟨v5,rfl,hr5,hb5,_⟩)
  go_ret
  exact ⟨_,rfl,Kd.R_mono hr5 (fun _ _=>trivial),hb5⟩
end Go.Proofs.YtffojmgmpfjlhaaGreatDoor.Q
