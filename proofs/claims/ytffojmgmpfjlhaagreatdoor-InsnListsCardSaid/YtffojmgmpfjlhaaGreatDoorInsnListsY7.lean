/- Parts of the proof of InsnLists. -/
import Derived.Test.YtffojmgmpfjlhaaGreatDoorInsnListsY4
import Derived.Test.YtffojmgmpfjlhaaGreatDoorInsnListsY6
import Derived.Laws.BitsLemmas
set_option maxHeartbeats 8000000
set_option maxRecDepth 100000
set_option linter.unusedVariables false
set_option linter.unusedSimpArgs false
namespace Go.Proofs.YtffojmgmpfjlhaaGreatDoor.Q
open Go.Proofs.Ix hiding rd
open Go.Proofs.YtffojmgmpfjlhaaGreatDoor Go.RowKit Go.Proofs.YtffojmgmpfjlhaaGreatDoorW.PrintWords
def FP:List (Int × Int):=[(0,1),(1,2),(1,11),(3,3),(4,4),(5,5),(5,6),(6,7),(2,8),(7,9),(8,10)]
def formB (n:Nat):Bool:=match rzForm.f 12 (n:Int) with | none=>false | some r=>if nameM (n:Int)=[] then decide (r=0) else decide (r≠0) && decide ((formM (n:Int),r)∈FP)
theorem forms_77:∀ n,n < 77→formB n=true:=by decide +kernel
theorem form_out (op:Int) (h:op < 0∨77≤op):rzForm.f 12 op=some 0:=by
 have n1:op≠1:=by omega
 have n29:op≠29:=by omega
 have n76:op≠76:=by omega
 have n2:op≠2:=by omega
 have n3:op≠3:=by omega
 have n4:op≠4:=by omega
 have n5:op≠5:=by omega
 have n6:op≠6:=by omega
 have n7:op≠7:=by omega
 have n8:op≠8:=by omega
 have n9:op≠9:=by omega
 have n10:op≠10:=by omega
 have n11:op≠11:=by omega
 have n12:op≠12:=by omega
 have n13:op≠13:=by omega
 have n14:op≠14:=by omega
 have n15:op≠15:=by omega
 have n16:op≠16:=by omega
 have n17:op≠17:=by omega
 have n18:op≠18:=by omega
 have n19:op≠19:=by omega
 have n20:op≠20:=by omega
 have n21:op≠21:=by omega
 have n22:op≠22:=by omega
 have n23:op≠23:=by omega
 have n24:op≠24:=by omega
 have n25:op≠25:=by omega
 have n26:op≠26:=by omega
 have n27:op≠27:=by omega
 have n28:op≠28:=by omega
 have n30:op≠30:=by omega
 have n31:op≠31:=by omega
 have n32:op≠32:=by omega
 have n33:op≠33:=by omega
 have n34:op≠34:=by omega
 simp [rzForm.f,rzForm.j0,rzForm.j1,rzForm.j2,rzForm.j3,rzForm.j4,rzForm.j5,rzForm.j6,n1,n29,n76,n2,n3,n4,n5,n6,n7,n8,n9,n10,n11,n12,n13,n14,n15,n16,n17,n18,n19,n20,n21,n22,n23,n24,n25,n26,n27,n28,n30,n31,n32,n33,n34]
theorem name_out (op:Int) (h:op < 0∨77≤op):nameM op=[]:=by
 unfold nameM kindM
 rw [if_neg (by omega),if_pos (by omega)]
theorem form_any (op:Int):∃ r,(∀ k,rzForm.f (k+12) op=some r)∧((nameM op=[]∧r=0)∨(nameM op≠[]∧r≠0∧(formM op,r)∈FP)):=by
 by_cases h:op < 0∨77≤op
 ·exact ⟨0,fun k=>leO_up (rzForm.mono op) (form_out op h) k,.inl ⟨name_out op h,rfl⟩⟩
 ·obtain ⟨n,rfl⟩:=Int.eq_ofNat_of_zero_le (show 0≤op by omega)
  have hb:=forms_77 n (by omega)
  unfold formB at hb
  cases hf:rzForm.f 12 (n:Int) with
  | none=>rw [hf] at hb;cases hb
  | some r =>
   rw [hf] at hb
   simp only at hb
   refine ⟨r,fun k=>leO_up (rzForm.mono _) hf k,?_⟩
   by_cases hn:nameM (n:Int)=[]
   ·rw [if_pos hn] at hb
    exact .inl ⟨hn,of_decide_eq_true hb⟩
   ·rw [if_neg hn,Bool.and_eq_true] at hb
    exact .inr ⟨hn,of_decide_eq_true hb.1,of_decide_eq_true hb.2⟩
theorem opnd_all:∀ q∈FP,rzOperands.f 12 q.2=some (hasA q.1,hasB q.1,(bytesM q.1:Int)):=by decide +kernel
theorem opnd_any {p r:Int} (h:(p,r)∈FP) (k:Nat):rzOperands.f (k+12) r=some (hasA p,hasB p,(bytesM p:Int)):=leO_up (rzOperands.mono r) (opnd_all _ h) k
theorem fp_ten:∀ q∈FP,(q.2=10↔q.1=8):=by decide +kernel
theorem bytes_ten {f:Int}:bytesM f≤10∧(bytesM f=10↔f=3):=by
 unfold bytesM
 by_cases h3:f=3
 ·simp [h3]
 ·simp only [h3,if_false,iff_false]
  split
  ·omega
  ·split <;> omega
theorem number_l0 (bs:List Int) (hb:bs.length≤1000):∀ (i:Nat) (v:Int) (k:Nat),i≤bs.length→i < k→rznumber.l0 k bs v ((i:Int) - 1)=some (orF bs v i)
 | 0,v,k,h1,h2=>by
  obtain ⟨k,rfl⟩:∃ m,k=m+1:=⟨k - 1,by omega⟩
  unfold rznumber.l0
  rw [if_neg (by omega)]
  rfl
 | i+1,v,k,h1,h2=>by
  obtain ⟨k,rfl⟩:∃ m,k=m+1:=⟨k - 1,by omega⟩
  unfold rznumber.l0
  have e:((i+1:Nat):Int) - 1=(i:Int):=by omega
  rw [if_pos (by omega),if_pos (by omega),if_pos (by omega),wrap_pred2 (by omega),number_l0 bs hb i _ k (by omega) (by omega),e]
  rfl
theorem number_f (bs:List Int) (h0:0 < bs.length) (hb:bs.length≤20) (k:Nat):rznumber.f (k+30) bs=some (orF bs (if rd bs ((bs.length:Int) - 1)≥64 then -1 else 0) bs.length):=by
 have hj0:∀ v,rznumber.j0 (k+30) bs v=some (orF bs v bs.length):=by
  intro v
  show rznumber.j0 (k+29+1) bs v=_
  rw [rznumber.j0,wrap_pred (by omega)]
  exact number_l0 bs (by omega) _ _ _ (Nat.le_refl _) (by omega)
 unfold rznumber.f
 rw [wrap_pred (by omega),if_pos (by omega),if_pos (by omega),hj0,hj0]
 by_cases h:rd bs ((bs.length:Int) - 1)≥64
 ·rw [if_pos h,if_pos h]
 ·rw [if_neg h,if_neg h]
theorem or_zero:∀ n,n < 256→Go.bits .or .i64 (wrap64 (0 * 128)) (wrap64 ((n:Nat):Int))=wrap64 (n:Int):=by decide +kernel
theorem wrap_add {i j:Nat} (h:i+j≤1000000):wrap64 ((i:Int)+(j:Int))=((i+j:Nat):Int):=by
 simp only [wrap64]
 omega
theorem rdecode_l0 (l:List Int) (hb:Byt l) (p r op a b:Int) (hp:(p,r)∈FP) (i0:Nat) (hi:i0≤2) (h0:0 < l.length):∀ (d j k:Nat),j+d=bytesM p→i0+j≤l.length→d+40 < k →
  rzDecode.l0 k l r (bytesM p:Int) (i0:Int) (j:Int) op a b 0=some (if scanD l p (i0+j) d=0 then (op,a,b,orF (sliceD l i0 (i0+bytesM p)) (startD p (sliceD l i0 (i0+bytesM p))) (bytesM p),((i0+bytesM p:Nat):Int),0) else errD (scanD l p (i0+j) d))
 | 0,j,k,h1,h2,h3=>by
  obtain ⟨k,rfl⟩:∃ m,k=m+40+1:=⟨k - 41,by omega⟩
  have hbt:=(bytes_ten (f:=p)).1
  have hl:(sliceD l i0 (i0+bytesM p)).length=bytesM p:=by simp [sliceD];omega
  have hr:=fp_ten _ hp
  simp only at hr
  unfold rzDecode.l0
  rw [if_neg (by omega),wrap_add (by omega),show scanD l p (i0+j) 0=0 from by unfold scanD;rfl,if_pos rfl]
  by_cases hz:bytesM p=0
  ·have hr10:¬ r=10:=by
    intro h
    have:=hr.1 h
    subst this
    exact absurd hz (by decide)
   have hst:startD p (sliceD l i0 (i0+bytesM p))=0:=by
    unfold startD
    rw [if_pos (show (sliceD l i0 (i0+bytesM p)).length=0 by omega)]
    split <;> rfl
   rw [if_neg (by omega),if_neg hr10,hst,hz]
   rfl
  ·rw [if_pos (by omega),if_pos (by omega),if_pos (by omega),if_pos (by omega),Int.toNat_natCast,Int.toNat_natCast,show (l.take (i0+bytesM p)).drop i0=sliceD l i0 (i0+bytesM p) from rfl,
    show k+40=(k+10)+30 from rfl,number_f _ (by omega) (by omega),hl,Option.bind_some]
   by_cases h10:r=10
   ·have h8:=hr.1 h10
    have hone:bytesM p=1:=by rw [h8];decide
    rw [if_pos h10,if_pos (by omega)]
    have hbi:=hb.at (i:=i0) (by omega)
    have hst:startD p (sliceD l i0 (i0+bytesM p))=0:=by
     unfold startD
     rw [if_pos h8]
    have hrs:rd (sliceD l i0 (i0+1)) ((0:Nat):Int)=rd l (i0:Int):=by
     unfold sliceD
     rw [rd_drop]
     unfold rd
     rw [Int.toNat_natCast,Int.toNat_natCast]
     simp [List.getD,List.getElem?_take]
    rw [hst,hone]
    have hor:orF (sliceD l i0 (i0+1)) 0 1=wrap64 (rd l (i0:Int)):=by
     show Go.bits .or .i64 (wrap64 (0 * 128)) (wrap64 (rd (sliceD l i0 (i0+1)) ((0:Nat):Int)))=_
     rw [hrs]
     obtain ⟨n,hn⟩:=Int.eq_ofNat_of_zero_le hbi.1
     rw [hn]
     exact or_zero n (by omega)
    rw [hor]
   ·have h8:¬ p=8:=fun h=>h10 (hr.2 h)
    have hst:startD p (sliceD l i0 (i0+bytesM p))=if rd (sliceD l i0 (i0+bytesM p)) (((bytesM p:Nat):Int) - 1)≥64 then -1 else 0:=by
     unfold startD
     rw [if_neg h8,hl,if_neg hz]
    rw [if_neg h10,hst]
 | d+1,j,k,h1,h2,h3=>by
  obtain ⟨k,rfl⟩:∃ m,k=m+1:=⟨k - 1,by omega⟩
  have hbt:=bytes_ten (f:=p)
  unfold rzDecode.l0 scanD
  rw [if_pos (by omega),wrap_add (by omega),wrap_succ (by omega)]
  by_cases c1:i0+j=l.length
  ·rw [if_pos (by omega),if_pos c1];rfl
  ·rw [if_neg (by omega),if_neg c1]
   have ih:=rdecode_l0 l hb p r op a b hp i0 hi h0 d (j+1) k (by omega) (by omega) (by omega)
   rw [show i0+(j+1)=i0+j+1 from rfl] at ih
   have q1:(0:Int)≤((i0+j:Nat):Int):=by omega
   have q2:((i0+j:Nat):Int) < (l.length:Int):=by omega
   have e3:d+40 < k:=by omega
   rw [ih,if_pos q1,if_pos q1,if_pos q2,if_pos q2]
   by_cases c2:rd l ((i0+j:Nat):Int)≥128
   ·have g2:rd l ((i0+j:Nat):Int) > 127:=by omega
    have n0:¬ rd l ((i0+j:Nat):Int)=0:=by omega
    by_cases c9:(j:Int)=9
    ·rw [if_pos c9,if_neg n0,if_pos g2,if_pos c2];rfl
    ·rw [if_neg c9,if_pos g2,if_pos c2];rfl
   ·have g2:¬ rd l ((i0+j:Nat):Int) > 127:=by omega
    by_cases c9:(j:Int)=9
    ·have hp3:p=3∧d=0:=by
      have:bytesM p=10:=by omega
      exact ⟨hbt.2.1 this,by omega⟩
     by_cases n0:rd l ((i0+j:Nat):Int)=0
     ·rw [if_pos c9,if_pos n0,if_neg g2,if_neg c2,if_neg (show ¬ (p=3∧d=0∧rd l ((i0+j:Nat):Int)≠0∧rd l ((i0+j:Nat):Int)≠127) from fun h=>h.2.2.1 n0)]
     ·by_cases n7:rd l ((i0+j:Nat):Int)=127
      ·rw [if_pos c9,if_neg n0,if_neg g2,if_pos n7,if_neg c2,if_neg (show ¬ (p=3∧d=0∧rd l ((i0+j:Nat):Int)≠0∧rd l ((i0+j:Nat):Int)≠127) from fun h=>h.2.2.2 n7)]
      ·rw [if_pos c9,if_neg n0,if_neg g2,if_neg n7,if_neg c2,if_pos (show (p=3∧d=0∧rd l ((i0+j:Nat):Int)≠0∧rd l ((i0+j:Nat):Int)≠127) from ⟨hp3.1,hp3.2,n0,n7⟩)];rfl
    ·rw [if_neg c9,if_neg g2,if_neg c2,if_neg (show ¬ (p=3∧d=0∧rd l ((i0+j:Nat):Int)≠0∧rd l ((i0+j:Nat):Int)≠127) from fun h=>c9 (by have:=hbt.2.2 h.1;have:=h.2.1;omega))]
theorem lenM_eq (f:Int):lenM f=1+bytesM f+(if hasA f=true then 1 else 0):=rfl
theorem rdecode_f (l:List Int) (hb:Byt l) (hl:l.length≤140737488351232) (k:Nat):rzDecode.f (k+100) l=some (decD l):=by
 have hj2:∀ (p r op a b:Int) (i0 m:Nat),(p,r)∈FP→i0≤2→0 < l.length→i0≤l.length→70≤m→i0+bytesM p=lenM p →
   rzDecode.j2 m l r (bytesM p:Int) (i0:Int) op a b 0=some (finD l p op a b i0 (lenM p)):=by
  intro p r op a b i0 m hp hi h0 hil hm hlen
  obtain ⟨m,rfl⟩:∃ q,m=q+1:=⟨m - 1,by omega⟩
  have hbt:=bytes_ten (f:=p)
  rw [rzDecode.j2]
  refine (rdecode_l0 l hb p r op a b hp i0 hi h0 (bytesM p) 0 m (by omega) (by omega) (by omega)).trans ?_
  unfold finD
  rw [← hlen,Nat.add_zero,show i0+bytesM p - i0=bytesM p by omega]
 unfold rzDecode.f decD
 by_cases c0:l.length=0
 ·rw [if_pos (by omega),if_pos c0];rfl
 rw [if_neg (by omega),if_neg c0,if_pos (by omega)]
 have hr0:0≤rd l 0∧rd l 0 < 256:=hb.at (i:=0) (by omega)
 rw [show wrap64 (wrap64 (rd l 0) - 128)=opD l from rfl]
 by_cases clow:rd l 0 < 128
 ·have:opD l < 0:=by unfold opD;simp only [wrap64];omega
  rw [if_pos clow,if_pos (name_out _ (.inl this))]
  show rzDecode.j0 (k+99+1) l true=_
  rw [rzDecode.j0,if_pos rfl];rfl
 rw [if_neg clow]
 obtain ⟨r,hf,hr⟩:=form_any (opD l)
 rw [show k+100=k+88+12 from rfl,hf,Option.bind_some]
 show rzDecode.j0 (k+99+1) l (r == 0)=_
 rw [rzDecode.j0]
 rcases hr with ⟨hn,hr⟩ | ⟨hn,hr,hp⟩
 ·rw [if_pos (by simp [hr]),if_pos hn];rfl
 rw [if_neg (by simp [hr]),if_neg hn,if_pos (by omega),show wrap64 (wrap64 (rd l 0) - 128)=opD l from rfl,show k+99=k+87+12 from rfl,hf,Option.bind_some,opnd_any hp,Option.bind_some]
 have hA1:hasA (formM (opD l))=true→2+bytesM (formM (opD l))=lenM (formM (opD l)):=fun h=>by rw [lenM_eq,if_pos h];omega
 by_cases cA:hasA (formM (opD l))=true
 ·rw [if_pos cA,if_pos cA]
  by_cases c2:l.length=1
  ·rw [if_pos (by omega),if_pos c2];rfl
  rw [if_neg (by omega),if_neg c2,if_pos (by omega)]
  have hr1:0≤rd l 1∧rd l 1 < 256:=hb.at (i:=1) (by omega)
  have hj1:∀ c:Bool,rzDecode.j1 (k+99) l r (hasB (formM (opD l))) (bytesM (formM (opD l)):Int) c (opD l) 0 0 0 =
    some (if c=true then errD 20 else if hasB (formM (opD l))=true then finD l (formM (opD l)) (opD l) (wrap64 (Int.tdiv (wrap64 (rd l 1)) 8)) (Int.tmod (wrap64 (rd l 1)) 8) 2 (lenM (formM (opD l)))
     else finD l (formM (opD l)) (opD l) (wrap64 (rd l 1)) 0 2 (lenM (formM (opD l)))):=by
   intro c
   show rzDecode.j1 (k+98+1) l _ _ _ c _ _ _ _=_
   rw [rzDecode.j1]
   by_cases cc:c=true
   ·rw [if_pos cc,if_pos cc];rfl
   rw [if_neg cc,if_neg cc,if_pos (by omega)]
   by_cases cB:hasB (formM (opD l))=true
   ·rw [if_pos cB,if_pos cB]
    exact hj2 _ _ _ _ _ 2 _ hp (Nat.le_refl _) (by omega) (by omega) (by omega) (hA1 cA)
   ·rw [if_neg cB,if_neg cB]
    exact hj2 _ _ _ _ _ 2 _ hp (Nat.le_refl _) (by omega) (by omega) (by omega) (hA1 cA)
  by_cases c63:rd l 1 > 63
  ·rw [if_pos c63]
   refine (hj1 true).trans ?_
   rw [if_pos rfl,if_pos (show rd l 1≥(if hasB (formM (opD l))=true then 64 else 8) by split <;> omega)]
  rw [if_neg c63]
  by_cases cB:hasB (formM (opD l))=true
  ·rw [if_pos cB]
   refine (hj1 false).trans ?_
   rw [if_neg (by decide),if_pos cB,if_pos cB,if_neg (show ¬ rd l 1≥64 by omega)]
  ·rw [if_neg cB]
   refine (hj1 _).trans ?_
   rw [if_neg cB,if_neg cB]
   by_cases c7:rd l 1 > 7
   ·rw [if_pos (decide_eq_true c7),if_pos (show rd l 1≥8 by omega)]
   ·rw [if_neg (by simpa using c7),if_neg (show ¬ rd l 1≥8 by omega)]
 ·rw [if_neg cA,if_neg cA]
  exact hj2 _ _ _ _ _ 1 _ hp (by omega) (by omega) (by omega) (by omega) (by rw [lenM_eq,if_neg cA];omega)
theorem bytesOf_g (k:Nat) (f:Int) (h:1≤k):insn_bytesOf.f k f=some (bytesM f:Int):=by
 obtain ⟨k,rfl⟩:∃ m,k=m+1:=⟨k - 1,by omega⟩
 exact bytesOf_f k f
theorem bytes_in (f:Int):bytesM f=0∨bytesM f=1∨bytesM f=2∨bytesM f=10:=by
 unfold bytesM
 (repeat' split) <;> simp
theorem fits_f (f n:Int) (k:Nat) (hk:1≤k):insn_fits.f k f n=some (fitsM f n):=by
 unfold insn_fits.f fitsM
 by_cases h3:f=3
 ·rw [if_pos h3,if_pos h3]
 rw [if_neg h3,if_neg h3]
 by_cases h8:f=8
 ·rw [if_pos h8,if_pos h8]
  by_cases c:n≥0
  ·rw [if_pos c];simp;omega
  ·rw [if_neg c];simp;omega
 rw [if_neg h8,if_neg h8,bytesOf_g k f hk,Option.bind_some]
 have h10:bytesM f≠10:=fun h=>h3 (bytes_ten.2.1 h)
 rcases bytes_in f with e | e | e | e
 ·rw [e];simp
 ·rw [e]
  simp only [show ¬ (((1:Nat):Int)=0) by omega,show (((1:Nat):Int)=1) by omega,if_false,if_true,show ¬ ((1:Nat)=0) by omega]
  by_cases c:n≥-64
  ·rw [if_pos c];simp;omega
  ·rw [if_neg c];simp;omega
 ·rw [e]
  simp only [show ¬ (((2:Nat):Int)=0) by omega,show ¬ (((2:Nat):Int)=1) by omega,show (((2:Nat):Int)=2) by omega,if_false,if_true,show ¬ ((2:Nat)=0) by omega,show ¬ ((2:Nat)=1) by omega]
  by_cases c:n≥-8192
  ·rw [if_pos c];simp;omega
  ·rw [if_neg c];simp;omega
 ·exact absurd e h10
def chkD (op a b imm:Int):Int :=
 if nameM op=[] then 20
 else if 0≤a∧a≤7∧0≤b∧b≤7∧(hasA (formM op)=true∨a=0)∧(hasB (formM op)=true∨b=0)∧fitsM (formM op) imm=true then 0 else 20
theorem check_f (op a b imm:Int) (k:Nat) (hk:1≤k):insn_Check.f k op a b imm=some (chkD op a b imm):=by
 unfold insn_Check.f chkD insn_kindOf.f
 rw [Option.bind_some]
 by_cases c1:nameM op=[]
 ·rw [if_pos ((bS_nil _).2 c1),if_pos c1]
 rw [if_neg (fun h=>c1 ((bS_nil _).1 h)),if_neg c1]
 simp only [hasA_f,hasB_f,fits_f _ _ k hk,Option.bind_some]
 generalize hasA (formM op)=A
 generalize hasB (formM op)=B
 generalize fitsM (formM op) imm=F
 cases A <;> cases B <;> cases F <;> simp only [Bool.false_eq_true,if_true,if_false,true_or,false_or,and_true,and_false,true_and] <;> (repeat' split) <;> first | rfl | (exfalso;omega)
end Go.Proofs.YtffojmgmpfjlhaaGreatDoor.Q
namespace Go.Proofs.YtffojmgmpfjlhaaGreatDoor.Q
open Go.Proofs.Ix hiding rd
open Go Go.Proofs.YtffojmgmpfjlhaaGreatDoor Go.RowKit Go.Proofs.YtffojmgmpfjlhaaGreatDoorW.PrintWords
def numW (v:Int):List UInt8:=Lib.itoa v
def distW (v:Int):List UInt8:=if v < 0 then 46 :: numW v else 46 :: 43 :: numW v
def addrW (b v:Int):List UInt8:=91 :: (regW b ++ ((if v > 0 then 43 :: numW v else if v < 0 then numW v else []) ++ [93]))
def memW (b:Int):List UInt8:=91 :: (regW b ++ [93])
def rdW (a b v:Int):Rd→List UInt8
 | .a=>regW a
 | .b=>regW b
 | .num=>numW v
 | .mem=>memW b
 | .addr=>addrW b v
 | .target=>distW v
theorem num_neg {v:Int} (h:v < 0):numW v=45 :: Lib.decDigits v.natAbs:=by unfold numW Lib.itoa;rw [if_pos h]
theorem num_pos {v:Int} (h:¬ v < 0):numW v=Lib.decDigits v.toNat:=by unfold numW Lib.itoa;rw [if_neg h]
theorem Cur.set {l l':L9} {t:List UInt8} (h:Cur l t) (hs:l'.s=l.s) (ha:l'.at_=l.at_):Cur l' t:=by
 unfold Cur at h ⊢
 rw [hs,ha]
 exact h
structure Ok1 (op a b v:Int):Prop where
 a0:0≤a
 a7:a≤7
 b0:0≤b
 b7:b≤7
 v0:-9223372036854775808≤v
 v1:v≤9223372036854775807
 fits:fitsM (formM op) v=true
def tailW (a b v:Int) (ks:List Rd):List UInt8:=ks.flatMap fun k=>44 :: 32 :: rdW a b v k
theorem bS_app (x y:List UInt8):bS x ++ bS y=bS (x ++ y):=by
 unfold bS
 have h:∀ a b:ByteArray,a.data=b.data→a=b:=fun ⟨_⟩ ⟨_⟩ h=>by cases h;rfl
 refine h _ _ ?_
 simp [ByteArray.data_append]
theorem bS_len (x:List UInt8):(bS x).size=x.length:=by rw [← sz_list,toS]
theorem num_len {v:Int} (h0:-9223372036854775808≤v) (h1:v≤9223372036854775807):(numW v).length≤21:=Lib.itoa_length_le v h0 h1
theorem reg_f {x:Int} (h0:0≤x) (h7:x≤7):insn_register.f x=some (bS (regW x)):=by
 unfold insn_register.f strconv_Itoa.f
 have e:Lib.itoa x=[UInt8.ofNat (48+x.toNat)]:=by
  unfold Lib.itoa
  rw [if_neg (by omega),Lib.decDigits_one (by omega)]
 rw [if_pos (by omega),Option.bind_some,bS_len,e,if_pos (by simp)]
 exact congrArg some (bS_app [114] _)
theorem fmt_f {v:Int} (h0:-9223372036854775808≤v) (h1:v≤9223372036854775807):strconv_FormatInt.f v 10=some (bS (numW v)):=by
 unfold strconv_FormatInt.f
 rw [if_pos ⟨rfl,h0,h1⟩]
 rfl
theorem dist_f {v:Int} (h0:-9223372036854775808≤v) (h1:v≤9223372036854775807):insn_distance.f v=some (bS (distW v)):=by
 have hl:=num_len h0 h1
 unfold insn_distance.f distW
 by_cases hn:v < 0
 ·rw [if_pos hn,if_pos hn,fmt_f h0 h1,Option.bind_some,if_pos (by rw [bS_len];omega)]
  exact congrArg some (bS_app [46] _)
 ·rw [if_neg hn,if_neg hn,fmt_f h0 h1,Option.bind_some,if_pos (by rw [bS_len];omega)]
  exact congrArg some (bS_app [46,43] _)
theorem b1 (c:UInt8):(⟨#[c]⟩:ByteArray)=bS [c]:=rfl
theorem addr_f {op a b v:Int} (hb0:0≤b) (hb7:b≤7) (h0:-9223372036854775808≤v) (h1:v≤9223372036854775807):insn_address.f op a b v=some (bS (addrW b v)):=by
 have hl:=num_len h0 h1
 unfold insn_address.f addrW
 simp only [b1,reg_f hb0 hb7,fmt_f h0 h1,Option.bind_some,bS_app,bS_len,List.length_append,List.length_cons,List.length_nil,show (regW b).length=2 from rfl]
 by_cases hp:v > 0
 ·rw [if_pos hp,if_pos hp,if_pos (by omega),if_pos (by omega),if_pos (by omega),if_pos (by omega)]
  simp
 ·rw [if_neg hp,if_neg hp]
  by_cases hn:v < 0
  ·rw [if_pos hn,if_pos hn,if_pos (by omega),if_pos (by omega),if_pos (by omega)]
   simp
  ·rw [if_neg hn,if_neg hn]
   simp
theorem op_valid {op:Int} (h:nameM op≠[]):op=1∨op=2∨op=3∨op=4∨op=5∨op=6∨op=7∨op=8∨op=9∨op=10∨op=11∨op=12∨op=13∨op=14∨op=15∨op=16∨op=17∨op=18∨op=19∨op=20∨op=21∨op=22∨op=23∨op=24∨op=25∨op=26∨op=27∨op=28∨op=29∨op=30∨op=31∨op=32∨op=33∨op=34∨op=76:=by
 by_cases h76:op=76
 ·omega
 ·by_cases hr:op < 1∨35≤op
  ·refine absurd ?_ h
   unfold nameM kindM
   rw [if_neg h76,if_pos hr]
  ·omega
theorem words_f {op a b v:Int} (hv:nameM op≠[]) (o:Ok1 op a b v) (k:Nat):insn_words.f (k+10) op a b v=some ((readsM op).map fun r=>bS (rdW a b v r)):=by
 have ha:insn_address.f op a b v=some (bS (addrW b v)):=addr_f o.b0 o.b7 o.v0 o.v1
 have hd:=dist_f o.v0 o.v1
 have hmem:bS [91] ++ bS (regW b) ++ bS [93]=bS (memW b):=by rw [bS_app,bS_app];rfl
 have hmem:((⟨#[91]⟩:ByteArray) ++ bS (regW b)) ++ (⟨#[93]⟩:ByteArray)=bS (memW b):=hmem
 have hs1:(1:Nat)+(bS (regW b)).size≤9223372036854775807:=by rw [bS_len,show (regW b).length=2 from rfl];omega
 have hs2:((⟨#[91]⟩:ByteArray) ++ bS (regW b)).size+1≤9223372036854775807:=by rw [b1,bS_app,bS_len,List.length_append,show (regW b).length=2 from rfl];simp
 unfold insn_words.f
 rw [reg_f o.a0 o.a7,reg_f o.b0 o.b7,fmt_f o.v0 o.v1,Option.bind_some,Option.bind_some,Option.bind_some]
 rcases op_valid hv with rfl | rfl | rfl | rfl | rfl | rfl | rfl | rfl | rfl | rfl | rfl | rfl | rfl | rfl | rfl | rfl | rfl | rfl | rfl | rfl | rfl | rfl | rfl | rfl | rfl | rfl | rfl | rfl | rfl | rfl | rfl | rfl | rfl | rfl | rfl
 ·rw [show readsM 1=[] from rfl]
  simp [insn_words.j0,insn_words.j1,insn_words.j2,insn_words.j3,insn_words.j4,insn_kindOf.f,formM,kindM,kindsL,ha,hd,hmem,rdW]
 ·rw [show readsM 2=[Rd.a,Rd.b] from rfl]
  simp [insn_words.j0,insn_words.j1,insn_words.j2,insn_words.j3,insn_words.j4,insn_kindOf.f,formM,kindM,kindsL,ha,hd,hmem,rdW]
 ·rw [show readsM 3=[Rd.a,Rd.num] from rfl]
  simp [insn_words.j0,insn_words.j1,insn_words.j2,insn_words.j3,insn_words.j4,insn_kindOf.f,formM,kindM,kindsL,ha,hd,hmem,rdW]
 ·rw [show readsM 4=[Rd.a,Rd.num] from rfl]
  simp [insn_words.j0,insn_words.j1,insn_words.j2,insn_words.j3,insn_words.j4,insn_kindOf.f,formM,kindM,kindsL,ha,hd,hmem,rdW]
 ·rw [show readsM 5=[Rd.a,Rd.b] from rfl]
  simp [insn_words.j0,insn_words.j1,insn_words.j2,insn_words.j3,insn_words.j4,insn_kindOf.f,formM,kindM,kindsL,ha,hd,hmem,rdW]
 ·rw [show readsM 6=[Rd.a,Rd.b] from rfl]
  simp [insn_words.j0,insn_words.j1,insn_words.j2,insn_words.j3,insn_words.j4,insn_kindOf.f,formM,kindM,kindsL,ha,hd,hmem,rdW]
 ·rw [show readsM 7=[Rd.a,Rd.b] from rfl]
  simp [insn_words.j0,insn_words.j1,insn_words.j2,insn_words.j3,insn_words.j4,insn_kindOf.f,formM,kindM,kindsL,ha,hd,hmem,rdW]
 ·rw [show readsM 8=[Rd.a,Rd.b] from rfl]
  simp [insn_words.j0,insn_words.j1,insn_words.j2,insn_words.j3,insn_words.j4,insn_kindOf.f,formM,kindM,kindsL,ha,hd,hmem,rdW]
 ·rw [show readsM 9=[Rd.a,Rd.b] from rfl]
  simp [insn_words.j0,insn_words.j1,insn_words.j2,insn_words.j3,insn_words.j4,insn_kindOf.f,formM,kindM,kindsL,ha,hd,hmem,rdW]
 ·rw [show readsM 10=[Rd.a,Rd.b] from rfl]
  simp [insn_words.j0,insn_words.j1,insn_words.j2,insn_words.j3,insn_words.j4,insn_kindOf.f,formM,kindM,kindsL,ha,hd,hmem,rdW]
 ·rw [show readsM 11=[Rd.a,Rd.b] from rfl]
  simp [insn_words.j0,insn_words.j1,insn_words.j2,insn_words.j3,insn_words.j4,insn_kindOf.f,formM,kindM,kindsL,ha,hd,hmem,rdW]
 ·rw [show readsM 12=[Rd.a,Rd.b] from rfl]
  simp [insn_words.j0,insn_words.j1,insn_words.j2,insn_words.j3,insn_words.j4,insn_kindOf.f,formM,kindM,kindsL,ha,hd,hmem,rdW]
 ·rw [show readsM 13=[Rd.a,Rd.b] from rfl]
  simp [insn_words.j0,insn_words.j1,insn_words.j2,insn_words.j3,insn_words.j4,insn_kindOf.f,formM,kindM,kindsL,ha,hd,hmem,rdW]
 ·rw [show readsM 14=[Rd.a,Rd.b] from rfl]
  simp [insn_words.j0,insn_words.j1,insn_words.j2,insn_words.j3,insn_words.j4,insn_kindOf.f,formM,kindM,kindsL,ha,hd,hmem,rdW]
 ·rw [show readsM 15=[Rd.a,Rd.b] from rfl]
  simp [insn_words.j0,insn_words.j1,insn_words.j2,insn_words.j3,insn_words.j4,insn_kindOf.f,formM,kindM,kindsL,ha,hd,hmem,rdW]
 ·rw [show readsM 16=[Rd.a,Rd.num] from rfl]
  simp [insn_words.j0,insn_words.j1,insn_words.j2,insn_words.j3,insn_words.j4,insn_kindOf.f,formM,kindM,kindsL,ha,hd,hmem,rdW]
 ·rw [show readsM 17=[Rd.a,Rd.addr] from rfl]
  simp [insn_words.j0,insn_words.j1,insn_words.j2,insn_words.j3,insn_words.j4,insn_kindOf.f,formM,kindM,kindsL,ha,hd,hmem,rdW]
 ·rw [show readsM 18=[Rd.a,Rd.addr] from rfl]
  simp [insn_words.j0,insn_words.j1,insn_words.j2,insn_words.j3,insn_words.j4,insn_kindOf.f,formM,kindM,kindsL,ha,hd,hmem,rdW]
 ·rw [show readsM 19=[Rd.addr,Rd.a] from rfl]
  simp [insn_words.j0,insn_words.j1,insn_words.j2,insn_words.j3,insn_words.j4,insn_kindOf.f,formM,kindM,kindsL,ha,hd,hmem,rdW]
 ·rw [show readsM 20=[Rd.addr,Rd.a] from rfl]
  simp [insn_words.j0,insn_words.j1,insn_words.j2,insn_words.j3,insn_words.j4,insn_kindOf.f,formM,kindM,kindsL,ha,hd,hmem,rdW]
 ·rw [show readsM 21=[Rd.a,Rd.b,Rd.target] from rfl]
  simp [insn_words.j0,insn_words.j1,insn_words.j2,insn_words.j3,insn_words.j4,insn_kindOf.f,formM,kindM,kindsL,ha,hd,hmem,rdW]
 ·rw [show readsM 22=[Rd.a,Rd.b,Rd.target] from rfl]
  simp [insn_words.j0,insn_words.j1,insn_words.j2,insn_words.j3,insn_words.j4,insn_kindOf.f,formM,kindM,kindsL,ha,hd,hmem,rdW]
 ·rw [show readsM 23=[Rd.a,Rd.b,Rd.target] from rfl]
  simp [insn_words.j0,insn_words.j1,insn_words.j2,insn_words.j3,insn_words.j4,insn_kindOf.f,formM,kindM,kindsL,ha,hd,hmem,rdW]
 ·rw [show readsM 24=[Rd.a,Rd.b,Rd.target] from rfl]
  simp [insn_words.j0,insn_words.j1,insn_words.j2,insn_words.j3,insn_words.j4,insn_kindOf.f,formM,kindM,kindsL,ha,hd,hmem,rdW]
 ·rw [show readsM 25=[Rd.target] from rfl]
  simp [insn_words.j0,insn_words.j1,insn_words.j2,insn_words.j3,insn_words.j4,insn_kindOf.f,formM,kindM,kindsL,ha,hd,hmem,rdW]
 ·rw [show readsM 26=[Rd.a] from rfl]
  simp [insn_words.j0,insn_words.j1,insn_words.j2,insn_words.j3,insn_words.j4,insn_kindOf.f,formM,kindM,kindsL,ha,hd,hmem,rdW]
 ·rw [show readsM 27=[Rd.target] from rfl]
  simp [insn_words.j0,insn_words.j1,insn_words.j2,insn_words.j3,insn_words.j4,insn_kindOf.f,formM,kindM,kindsL,ha,hd,hmem,rdW]
 ·rw [show readsM 28=[Rd.a] from rfl]
  simp [insn_words.j0,insn_words.j1,insn_words.j2,insn_words.j3,insn_words.j4,insn_kindOf.f,formM,kindM,kindsL,ha,hd,hmem,rdW]
 ·rw [show readsM 29=[] from rfl]
  simp [insn_words.j0,insn_words.j1,insn_words.j2,insn_words.j3,insn_words.j4,insn_kindOf.f,formM,kindM,kindsL,ha,hd,hmem,rdW]
 ·rw [show readsM 30=[Rd.a] from rfl]
  simp [insn_words.j0,insn_words.j1,insn_words.j2,insn_words.j3,insn_words.j4,insn_kindOf.f,formM,kindM,kindsL,ha,hd,hmem,rdW]
 ·rw [show readsM 31=[Rd.a] from rfl]
  simp [insn_words.j0,insn_words.j1,insn_words.j2,insn_words.j3,insn_words.j4,insn_kindOf.f,formM,kindM,kindsL,ha,hd,hmem,rdW]
 ·rw [show readsM 32=[Rd.a,Rd.target] from rfl]
  simp [insn_words.j0,insn_words.j1,insn_words.j2,insn_words.j3,insn_words.j4,insn_kindOf.f,formM,kindM,kindsL,ha,hd,hmem,rdW]
 ·rw [show readsM 33=[Rd.num] from rfl]
  simp [insn_words.j0,insn_words.j1,insn_words.j2,insn_words.j3,insn_words.j4,insn_kindOf.f,formM,kindM,kindsL,ha,hd,hmem,rdW]
 ·rw [show readsM 34=[Rd.a,Rd.mem] from rfl]
  simp [insn_words.j0,insn_words.j1,insn_words.j2,insn_words.j3,insn_words.j4,insn_kindOf.f,formM,kindM,kindsL,ha,hd,hmem,rdW]
  exact ⟨hs1,by rw [bS_len,show (regW b).length=2 from rfl];decide⟩
 ·rw [show readsM 76=[] from rfl]
  simp [insn_words.j0,insn_words.j1,insn_words.j2,insn_words.j3,insn_words.j4,insn_kindOf.f,formM,kindM,kindsL,ha,hd,hmem,rdW]
def opW (a b v:Int):List Rd→List UInt8
 | []=>[]
 | k :: ks=>32 :: (rdW a b v k ++ tailW a b v ks)
def printW (op a b v:Int):List UInt8:=nameM op ++ opW a b v (readsM op)
theorem join_w (a b v:Int) (k:Rd) (ks:List Rd):Lib.join (((k :: ks).map fun r=>bS (rdW a b v r)).map (fun x:ByteArray=>x.data.toList)) [44,32]=rdW a b v k ++ tailW a b v ks:=by
 rw [List.map_cons,List.map_cons,Lib.join_cons,toS]
 congr 1
 unfold Lib.joinTail tailW
 rw [List.map_map,List.map_map,List.flatMap_def]
 congr 1
theorem rdW_len {op a b v:Int} (o:Ok1 op a b v) (k:Rd):(rdW a b v k).length≤40:=by
 have hl:=num_len o.v0 o.v1
 cases k with
 | a=>exact (show 2≤40 by omega)
 | b=>exact (show 2≤40 by omega)
 | num=>show (numW v).length≤40;omega
 | mem=>exact (show 4≤40 by omega)
 | addr =>
  show (addrW b v).length≤40
  unfold addrW
  simp only [List.length_cons,List.length_append,List.length_nil,show (regW b).length=2 from rfl]
  by_cases hp:v > 0
  ·rw [if_pos hp,List.length_cons];omega
  ·rw [if_neg hp]
   by_cases hn:v < 0
   ·rw [if_pos hn];omega
   ·rw [if_neg hn,List.length_nil];omega
 | target =>
  show (distW v).length≤40
  unfold distW
  by_cases hn:v < 0
  ·rw [if_pos hn,List.length_cons];omega
  ·rw [if_neg hn,List.length_cons,List.length_cons];omega
theorem tailW_len {op a b v:Int} (o:Ok1 op a b v):∀ ks:List Rd,(tailW a b v ks).length≤42 * ks.length
 | []=>Nat.le_refl _
 | k :: ks=>by
  have:=tailW_len o ks
  have:=rdW_len o k
  unfold tailW at *
  rw [List.flatMap_cons]
  simp only [List.length_append,List.length_cons]
  omega
theorem reads_len (op:Int):(readsM op).length≤3:=by
 unfold readsM
 repeat' split
 all_goals simp
theorem name_len (op:Int):(nameM op).length≤10:=by
 by_cases h:nameM op=[]
 ·rw [h];decide
 ·have key:∀ i:Fin 77,(nameM (i.val:Int)).length≤10:=by decide +kernel
  have:0≤op∧op≤76:=by have:=op_valid h;omega
  have:=key ⟨op.toNat,by omega⟩
  rw [show ((op.toNat:Nat):Int)=op from by omega] at this
  exact this
theorem opW_len {op a b v:Int} (o:Ok1 op a b v):(opW a b v (readsM op)).length≤130:=by
 have h3:=reads_len op
 cases h:readsM op with
 | nil=>exact Nat.zero_le _
 | cons k ks =>
  rw [h,List.length_cons] at h3
  have:=tailW_len o ks
  have:=rdW_len o k
  show (32 :: (rdW a b v k ++ tailW a b v ks)).length≤130
  simp only [List.length_append,List.length_cons]
  omega
theorem print_f {op a b v:Int} (hv:nameM op≠[]) (o:Ok1 op a b v) (hc:chkD op a b v=0) (k:Nat):insn_Print.f (k+10) op a b v=some (bS (printW op a b v),0):=by
 unfold insn_Print.f insn_kindOf.f
 rw [check_f _ _ _ _ _ (by omega),Option.bind_some,if_pos hc,Option.bind_some,words_f hv o,Option.bind_some]
 have hn:=name_len op
 have ho:=opW_len o
 unfold printW
 cases h:readsM op with
 | nil =>
  rw [if_neg (by simp)]
  simp [opW]
 | cons k ks =>
  rw [h] at ho
  have ho:(32 :: (rdW a b v k ++ tailW a b v ks)).length≤130:=ho
  rw [List.length_cons] at ho
  rw [if_pos (by simp),if_pos (by simp only [bS_len];omega)]
  unfold strings_Join.f
  have hj:=join_w a b v k ks
  rw [show (⟨#[44,32]⟩:ByteArray).data.toList=[44,32] from rfl,hj]
  have h3:=reads_len op
  rw [h] at h3
  rw [if_pos ⟨by rw [List.length_map];omega,by omega⟩,Option.bind_some]
  have e:(bS (nameM op) ++ (⟨#[32]⟩:ByteArray)) ++ (⟨(rdW a b v k ++ tailW a b v ks).toArray⟩:ByteArray)=bS (nameM op ++ opW a b v (k :: ks)):=by
   show (bS (nameM op) ++ bS [32]) ++ bS (rdW a b v k ++ tailW a b v ks)=_
   rw [bS_app,bS_app]
   simp [opW]
  have hsz:(bS (nameM op) ++ (⟨#[32]⟩:ByteArray)).size=(nameM op).length+1:=by
   rw [b1,bS_app,bS_len,List.length_append];rfl
  simp only
  rw [hsz,if_pos (by rw [show (⟨(rdW a b v k ++ tailW a b v ks).toArray⟩:ByteArray)=bS (rdW a b v k ++ tailW a b v ks) from rfl,bS_len];omega),e]
theorem chk_parts {op a b v:Int} (hc:chkD op a b v=0):nameM op≠[]∧0≤a∧a≤7∧0≤b∧b≤7∧(hasA (formM op)=true∨a=0)∧(hasB (formM op)=true∨b=0)∧fitsM (formM op) v=true:=by
 unfold chkD at hc
 by_cases h:nameM op=[]
 ·rw [if_pos h] at hc;exact absurd hc (by decide)
 ·rw [if_neg h] at hc
  split at hc
  ·exact ⟨h,by assumption⟩
  ·exact absurd hc (by decide)
theorem ok1_of {op a b v:Int} (hc:chkD op a b v=0) (h0:-9223372036854775808≤v) (h1:v≤9223372036854775807):Ok1 op a b v:=by
 obtain ⟨_,h2,h3,h4,h5,_,_,h6⟩:=chk_parts hc
 exact ⟨h2,h3,h4,h5,h0,h1,h6⟩
end Go.Proofs.YtffojmgmpfjlhaaGreatDoor.Q
namespace Go.Proofs.YtffojmgmpfjlhaaGreatDoor.Q
open Go.Proofs.Ix hiding rd
open Go.Proofs.YtffojmgmpfjlhaaGreatDoor Go.RowKit Go.Proofs.YtffojmgmpfjlhaaGreatDoorW.PrintWords
theorem ofInt_nat (v:Int):((BitVec.ofInt 64 v).toNat:Int)=v % 18446744073709551616:=by
 rw [BitVec.toNat_ofInt]
 omega
theorem and7 (v:Int):Go.bits .and .i64 v 127=v % 128:=by
 show IntKind.i64.wrap ((BitVec.ofInt 64 v &&& BitVec.ofInt 64 127).toNat:Int)=_
 have e:(BitVec.ofInt 64 127).toNat=2 ^ 7 - 1:=by decide
 rw [BitVec.toNat_and,e,Nat.and_two_pow_sub_one_eq_mod,Go.Proofs.YtffojmgmpfjlhaaGreatDoorW.PrintLast.i64_w]
 have:=ofInt_nat v
 simp only [wrap64]
 omega
theorem or7 (x b:Int) (hx:x % 128=0) (hb0:0≤b) (hb:b < 128) (h1:-9223372036854775808≤x) (h2:x < 9223372036854775808):Go.bits .or .i64 x b=x+b:=by
 show IntKind.i64.wrap ((BitVec.ofInt 64 x ||| BitVec.ofInt 64 b).toNat:Int)=_
 have ex:=ofInt_nat x
 have eb:=ofInt_nat b
 rw [BitVec.toNat_or,Go.Proofs.YtffojmgmpfjlhaaGreatDoorW.PrintLast.i64_w]
 generalize (BitVec.ofInt 64 x).toNat=X at ex ⊢
 generalize (BitVec.ofInt 64 b).toNat=B at eb ⊢
 have hB:B < 2 ^ 7:=by omega
 obtain ⟨a,rfl⟩:∃ a,X=2 ^ 7 * a:=⟨X / 128,by omega⟩
 rw [← Nat.two_pow_add_eq_or_of_lt hB]
 simp only [wrap64]
 omega
def sh (v:Int):Nat→Int
 | 0=>v
 | i+1=>sh v i / 128
theorem sh_left (v:Int):∀ i,sh (v / 128) i=sh v (i+1)
 | 0=>rfl
 | i+1=>by
  show sh (v / 128) i / 128=sh v (i+1) / 128
  rw [sh_left v i]
theorem immI_rd:∀ (k:Nat) (v:Int) (j:Nat),j < k→rd (immI k v) (j:Int)=sh v j % 128
 | 0,v,j,h=>by omega
 | k+1,v,0,h=>by
  show rd (((Go.bits .and .i64 v 127) % 256) :: immI k (v / 128)) ((0:Nat):Int)=v % 128
  rw [and7]
  show v % 128 % 256=v % 128
  omega
 | k+1,v,j+1,h=>by
  have:=immI_rd k (v / 128) j (by omega)
  rw [← sh_left,← this]
  unfold rd
  rw [Int.toNat_natCast,Int.toNat_natCast]
  rfl
theorem orF_back (bs:List Int):∀ (k:Nat) (s:Int),(∀ j:Nat,j < k→0≤rd bs (j:Int)∧rd bs (j:Int) < 128)→-9223372036854775808≤s * 128 ^ k→(s+1) * 128 ^ k≤9223372036854775808 →
  sh (orF bs s k) k=s∧(∀ j:Nat,j < k→sh (orF bs s k) j % 128=rd bs (j:Int))∧-9223372036854775808≤orF bs s k∧orF bs s k < 9223372036854775808
 | 0,s,_,h1,h2=>by
  have h3:s+1≤9223372036854775808:=by simpa using h2
  have h4:-9223372036854775808≤s:=by simpa using h1
  exact ⟨rfl,fun j hj=>by omega,h4,show s < 9223372036854775808 by omega⟩
 | k+1,s,hb,h1,h2=>by
  have hk:=hb k (by omega)
  have hp:(1:Int)≤128 ^ k:=by
   have:=Int.pow_pos (n:=128) (m:=k) (by omega)
   omega
  rw [Int.pow_succ] at h1 h2
  have hs1:s * (128 ^ k * 128)=(s * 128) * 128 ^ k:=by rw [Int.mul_comm (128 ^ k) 128,Int.mul_assoc]
  have hs2:(s+1) * (128 ^ k * 128)=(s * 128+128) * 128 ^ k:=by rw [Int.mul_comm (128 ^ k) 128,← Int.mul_assoc,Int.add_mul,Int.one_mul]
  rw [hs1] at h1
  rw [hs2] at h2
  have b1:(s * 128) * 128 ^ k≤(s * 128+rd bs (k:Int)) * 128 ^ k:=Int.mul_le_mul_of_nonneg_right (by omega) (by omega)
  have b2:(s * 128+rd bs (k:Int)+1) * 128 ^ k≤(s * 128+128) * 128 ^ k:=Int.mul_le_mul_of_nonneg_right (by omega) (by omega)
  have l1:-9223372036854775808≤s * 128:=by
   by_cases c:s * 128 < -9223372036854775808
   ·have:(s * 128) * 128 ^ k≤(s * 128) * 1:=Int.mul_le_mul_of_nonpos_left (by omega) hp
    omega
   ·omega
  have l2:s * 128+128≤9223372036854775808:=by
   by_cases c:s * 128+128 > 9223372036854775808
   ·have:(s * 128+128) * 1≤(s * 128+128) * 128 ^ k:=Int.mul_le_mul_of_nonneg_left hp (by omega)
    omega
   ·omega
  have e:orF bs s (k+1)=orF bs (s * 128+rd bs (k:Int)) k:=by
   show orF bs (Go.bits .or .i64 (wrap64 (s * 128)) (wrap64 (rd bs (k:Int)))) k=_
   rw [show wrap64 (s * 128)=s * 128 from by simp only [wrap64];omega,show wrap64 (rd bs (k:Int))=rd bs (k:Int) from by simp only [wrap64];omega,or7 _ _ (by omega) hk.1 hk.2 (by omega) (by omega)]
  obtain ⟨g1,g2,g3,g4⟩:=orF_back bs k (s * 128+rd bs (k:Int)) (fun j hj=>hb j (by omega)) (by omega) (by omega)
  rw [e]
  refine ⟨?_,fun j hj=>?_,g3,g4⟩
  ·show sh _ k / 128=s
   rw [g1];omega
  ·by_cases c:j=k
   ·subst c;rw [g1];omega
   ·exact g2 j (by omega)
theorem scan_low (l:List Int) (f:Int):∀ (d i:Nat),scanD l f i d=0→∀ j,i≤j→j < i+d→rd l (j:Int) < 128
 | 0,i,_,j,h1,h2=>by omega
 | d+1,i,hs,j,h1,h2=>by
  unfold scanD at hs
  by_cases c1:i=l.length
  ·rw [if_pos c1] at hs;omega
  ·rw [if_neg c1] at hs
   by_cases c2:rd l (i:Int)≥128
   ·rw [if_pos c2] at hs;omega
   ·rw [if_neg c2] at hs
    by_cases h3:f=3∧d=0∧rd l (i:Int)≠0∧rd l (i:Int)≠127
    ·rw [if_pos h3] at hs;omega
    ·rw [if_neg h3] at hs
     by_cases e:j=i
     ·subst e;omega
     ·exact scan_low l f d (i+1) hs j (by omega) (by omega)
theorem fin_ok {l:List Int} {f op a b:Int} {i n:Nat} (h:(finD l f op a b i n).2.2.2.2.2=0):scanD l f i (n - i)=0∧(finD l f op a b i n).2.2.2.2.1=(n:Int):=by
 unfold finD at h ⊢
 by_cases c:scanD l f i (n - i)=0
 ·rw [if_pos c];exact ⟨c,rfl⟩
 ·rw [if_neg c] at h;exact absurd h c
theorem dec_ok {l:List Int} (h:(decD l).2.2.2.2.2=0):∃ n:Nat,(decD l).2.2.2.2.1=(n:Int)∧1≤n∧n≤12∧n≤l.length∧∀ j:Nat,1≤j→j < n→rd l (j:Int) < 128:=by
 unfold decD at h ⊢
 by_cases c0:l.length=0
 ·rw [if_pos c0] at h;exact absurd h (by decide)
 rw [if_neg c0] at h ⊢
 by_cases c1:nameM (opD l)=[]
 ·rw [if_pos c1] at h;exact absurd h (by decide)
 rw [if_neg c1] at h ⊢
 have hb:=lenM_bd (formM (opD l))
 by_cases cA:hasA (formM (opD l))=true
 ·rw [if_pos cA] at h ⊢
  have h2:=lenM_A cA
  by_cases c2:l.length=1
  ·rw [if_pos c2] at h;exact absurd h (by decide)
  rw [if_neg c2] at h ⊢
  by_cases cB:hasB (formM (opD l))=true
  ·rw [if_pos cB,if_pos cB] at h ⊢
   by_cases c3:rd l 1≥64
   ·rw [if_pos c3] at h;exact absurd h (by decide)
   rw [if_neg c3] at h ⊢
   obtain ⟨hs,hn⟩:=fin_ok h
   refine ⟨_,hn,hb.1,hb.2,by have:=scan_len _ _ _ _ hs (by omega);omega,fun j h1 hj=>?_⟩
   by_cases e:j=1
   ·subst e;show rd l 1 < 128;omega
   ·exact scan_low _ _ _ _ hs j (by omega) (by omega)
  ·rw [if_neg cB,if_neg cB] at h ⊢
   by_cases c3:rd l 1≥8
   ·rw [if_pos c3] at h;exact absurd h (by decide)
   rw [if_neg c3] at h ⊢
   obtain ⟨hs,hn⟩:=fin_ok h
   refine ⟨_,hn,hb.1,hb.2,by have:=scan_len _ _ _ _ hs (by omega);omega,fun j h1 hj=>?_⟩
   by_cases e:j=1
   ·subst e;show rd l 1 < 128;omega
   ·exact scan_low _ _ _ _ hs j (by omega) (by omega)
 ·rw [if_neg cA] at h ⊢
  obtain ⟨hs,hn⟩:=fin_ok h
  exact ⟨_,hn,hb.1,hb.2,by have:=scan_len _ _ _ _ hs (by omega);omega,fun j h1 hj=>scan_low _ _ _ _ hs j (by omega) (by omega)⟩
theorem scan_last (l:List Int):∀ (d i:Nat),scanD l 3 i (d+1)=0→rd l ((i+d:Nat):Int)=0∨rd l ((i+d:Nat):Int)=127
 | 0,i,h=>by
  unfold scanD at h
  by_cases c1:i=l.length
  ·rw [if_pos c1] at h;omega
  rw [if_neg c1] at h
  by_cases c2:rd l (i:Int)≥128
  ·rw [if_pos c2] at h;omega
  rw [if_neg c2] at h
  by_cases c3:(3:Int)=3∧0=0∧rd l (i:Int)≠0∧rd l (i:Int)≠127
  ·rw [if_pos c3] at h;omega
  ·show rd l (i:Int)=0∨rd l (i:Int)=127
   omega
 | d+1,i,h=>by
  unfold scanD at h
  by_cases c1:i=l.length
  ·rw [if_pos c1] at h;omega
  rw [if_neg c1] at h
  by_cases c2:rd l (i:Int)≥128
  ·rw [if_pos c2] at h;omega
  rw [if_neg c2,if_neg (by omega)] at h
  have:=scan_last l d (i+1) h
  rw [show i+(d+1)=i+1+d by omega]
  exact this
theorem ext_rd (a b:List Int) (h:a.length=b.length) (hr:∀ j:Nat,j < a.length→rd a (j:Int)=rd b (j:Int)):a=b:=by
 apply List.ext_getElem h
 intro j h1 h2
 have:=hr j h1
 unfold rd at this
 rw [Int.toNat_natCast] at this
 simpa [List.getD,h1,h2] using this
theorem imm_back (l:List Int) (hb:Byt l) (f:Int) (i0:Nat) (hs:scanD l f i0 (bytesM f)=0) (hl:i0+bytesM f≤l.length) :
  ∃ v,orF (sliceD l i0 (i0+bytesM f)) (startD f (sliceD l i0 (i0+bytesM f))) (bytesM f)=v∧fitsM f v=true∧immI (bytesM f) v=sliceD l i0 (i0+bytesM f):=by
 have hlen:(sliceD l i0 (i0+bytesM f)).length=bytesM f:=by simp [sliceD];omega
 have hrd:∀ j:Nat,j < bytesM f→rd (sliceD l i0 (i0+bytesM f)) (j:Int)=rd l ((i0+j:Nat):Int):=by
  intro j hj
  unfold sliceD
  rw [rd_drop]
  unfold rd
  rw [Int.toNat_natCast]
  simp [List.getD,List.getElem?_take,hj]
 have hlow:∀ j:Nat,j < bytesM f→0≤rd (sliceD l i0 (i0+bytesM f)) (j:Int)∧rd (sliceD l i0 (i0+bytesM f)) (j:Int) < 128:=by
  intro j hj
  rw [hrd j hj]
  exact ⟨(hb.at (by omega)).1,scan_low l f _ _ hs _ (by omega) (by omega)⟩
 have hlast:f=3→rd (sliceD l i0 (i0+bytesM f)) ((9:Nat):Int)=0∨rd (sliceD l i0 (i0+bytesM f)) ((9:Nat):Int)=127:=by
  intro h3
  subst h3
  rw [hrd 9 (by decide)]
  exact scan_last l 9 i0 hs
 generalize sliceD l i0 (i0+bytesM f)=bs at *
 refine ⟨_,rfl,?_⟩
 have fin:∀ v,(∀ j:Nat,j < bytesM f→sh v j % 128=rd bs (j:Int))→immI (bytesM f) v=bs:=by
  intro v h
  refine ext_rd _ _ (by rw [immI_len,hlen]) fun j hj=>?_
  rw [immI_len] at hj
  rw [immI_rd _ _ _ hj,h j hj]
 unfold fitsM startD
 rw [hlen]
 by_cases h3:f=3
 ·subst h3
  rw [if_pos rfl,if_neg (by decide),if_neg (by decide)]
  refine ⟨rfl,?_⟩
  have h9:=hlow 9 (by decide)
  have e9:(((bytesM 3:Nat):Int) - 1)=((9:Nat):Int):=by decide
  rw [e9]
  have key:∀ s:Int,s * 128+rd bs ((9:Nat):Int)=s→-1≤s→s≤0→immI (bytesM 3) (orF bs s (bytesM 3))=bs:=by
   intro s he hs1 hs0
   have eo:orF bs s (bytesM 3)=orF bs s 9:=by
    show orF bs (Go.bits .or .i64 (wrap64 (s * 128)) (wrap64 (rd bs ((9:Nat):Int)))) 9=_
    rw [show wrap64 (s * 128)=s * 128 from by simp only [wrap64];omega,show wrap64 (rd bs ((9:Nat):Int))=rd bs ((9:Nat):Int) from by simp only [wrap64];omega,or7 _ _ (by omega) h9.1 h9.2 (by omega) (by omega),he]
   have hb310:bytesM 3=10:=by decide
   obtain ⟨g1,g2,_,_⟩:=orF_back bs 9 s (fun j hj=>hlow j (by omega)) (by omega) (by omega)
   rw [eo]
   refine fin _ fun j hj=>?_
   have hj:j < 10:=hj
   by_cases c:j=9
   ·subst c;rw [g1];omega
   ·exact g2 j (by omega)
  rcases hlast rfl with h | h
  ·rw [if_neg (by omega)]
   exact key 0 (by omega) (by omega) (by omega)
  ·rw [if_pos (by omega)]
   exact key (-1) (by omega) (by omega) (by omega)
 rw [if_neg h3]
 have hk:bytesM f≤2:=by
  have:=bytes_in f
  have h10:bytesM f≠10:=fun h=>h3 (bytes_ten.2.1 h)
  omega
 have back:∀ s:Int,-1≤s→s≤0→_:=fun s h1 h2=>orF_back bs (bytesM f) s hlow (by
  have:bytesM f=0∨bytesM f=1∨bytesM f=2:=by omega
  rcases this with e | e | e <;> rw [e] <;> omega) (by
  have:bytesM f=0∨bytesM f=1∨bytesM f=2:=by omega
  rcases this with e | e | e <;> rw [e] <;> omega)
 by_cases h8:f=8
 ·subst h8
  rw [if_pos rfl,if_pos rfl]
  obtain ⟨g1,g2,_,_⟩:=back 0 (by omega) (by omega)
  refine ⟨?_,fin _ g2⟩
  have g1:orF bs 0 (bytesM 8) / 128=0:=g1
  simp
  omega
 rw [if_neg h8,if_neg h8]
 have h012:bytesM f=0∨bytesM f=1∨bytesM f=2:=by omega
 rcases h012 with e | e | e
 ·rw [e,if_pos rfl,if_pos rfl]
  exact ⟨rfl,by rw [e] at fin;exact fin _ fun j hj=>by omega⟩
 ·rw [e] at fin back hlow ⊢
  rw [if_neg (show ¬ ((1:Nat)=0) by decide),if_neg (show ¬ ((1:Nat)=0) by decide),if_pos rfl]
  have e1:(((1:Nat):Int) - 1)=((0:Nat):Int):=by decide
  rw [e1]
  by_cases c:rd bs ((0:Nat):Int)≥64
  ·rw [if_pos c]
   obtain ⟨g1,g2,_,_⟩:=back (-1) (by omega) (by omega)
   have q1:orF bs (-1) 1 / 128=-1:=g1
   have q2:orF bs (-1) 1 % 128=rd bs ((0:Nat):Int):=g2 0 (by omega)
   refine ⟨?_,fin _ g2⟩
   simp
   omega
  ·rw [if_neg c]
   obtain ⟨g1,g2,_,_⟩:=back 0 (by omega) (by omega)
   have q1:orF bs 0 1 / 128=0:=g1
   have q2:orF bs 0 1 % 128=rd bs ((0:Nat):Int):=g2 0 (by omega)
   refine ⟨?_,fin _ g2⟩
   simp
   omega
 ·rw [e] at fin back hlow ⊢
  rw [if_neg (show ¬ ((2:Nat)=0) by decide),if_neg (show ¬ ((2:Nat)=0) by decide),if_neg (show ¬ ((2:Nat)=1) by decide)]
  have e1:(((2:Nat):Int) - 1)=((1:Nat):Int):=by decide
  rw [e1]
  by_cases c:rd bs ((1:Nat):Int)≥64
  ·rw [if_pos c]
   obtain ⟨g1,g2,_,_⟩:=back (-1) (by omega) (by omega)
   have q1:orF bs (-1) 2 / 128 / 128=-1:=g1
   have q2:orF bs (-1) 2 / 128 % 128=rd bs ((1:Nat):Int):=g2 1 (by omega)
   refine ⟨?_,fin _ g2⟩
   simp
   omega
  ·rw [if_neg c]
   obtain ⟨g1,g2,_,_⟩:=back 0 (by omega) (by omega)
   have q1:orF bs 0 2 / 128 / 128=0:=g1
   have q2:orF bs 0 2 / 128 % 128=rd bs ((1:Nat):Int):=g2 1 (by omega)
   refine ⟨?_,fin _ g2⟩
   simp
   omega
theorem take_cat (l:List Int) (i k:Nat):l.take (i+k)=l.take i ++ sliceD l i (i+k):=by
 have h:l.take (i+k)=l.take i ++ (l.drop i).take k:=List.take_add ..
 unfold sliceD
 rw [List.drop_take,Nat.add_sub_cancel_left]
 exact h
theorem take_one (l:List Int) (h:0 < l.length):l.take 1=[rd l 0]:=by
 cases l with
 | nil=>simp at h
 | cons x t=>rfl
theorem take_two (l:List Int) (h:1 < l.length):l.take 2=[rd l 0,rd l 1]:=by
 match l,h with
 | x :: y :: t,_=>rfl
theorem dec_back {l:List Int} (hb:Byt l) (h:(decD l).2.2.2.2.2=0):∃ (op a b v:Int) (n:Nat),decD l=(op,a,b,v,(n:Int),0)∧chkD op a b v=0∧encI op a b v=l.take n∧1≤n∧n≤l.length:=by
 unfold decD at h ⊢
 by_cases c0:l.length=0
 ·rw [if_pos c0] at h;exact absurd h (by decide)
 rw [if_neg c0] at h ⊢
 have hr0:0≤rd l 0∧rd l 0 < 256:=hb.at (i:=0) (by omega)
 by_cases c1:nameM (opD l)=[]
 ·rw [if_pos c1] at h;exact absurd h (by decide)
 rw [if_neg c1] at h ⊢
 have hop:opD l=rd l 0 - 128:=by unfold opD;simp only [wrap64];omega
 have hlow:0≤opD l:=by
  by_cases c:opD l < 0
  ·exact absurd (name_out _ (.inl c)) c1
  ·omega
 have e0:wrap64 (128+opD l) % 256=rd l 0:=by simp only [wrap64];omega
 have hl:=lenM_eq (formM (opD l))
 generalize opD l=op at *
 by_cases cA:hasA (formM op)=true
 ·rw [if_pos cA] at h ⊢
  rw [if_pos cA] at hl
  by_cases c2:l.length=1
  ·rw [if_pos c2] at h;exact absurd h (by decide)
  rw [if_neg c2] at h ⊢
  have hr1:0≤rd l 1∧rd l 1 < 256:=hb.at (i:=1) (by omega)
  by_cases cB:hasB (formM op)=true
  ·rw [if_pos cB,if_pos cB] at h ⊢
   by_cases c3:rd l 1≥64
   ·rw [if_pos c3] at h;exact absurd h (by decide)
   rw [if_neg c3] at h ⊢
   obtain ⟨hs,hn⟩:=fin_ok h
   have hsl:=scan_len _ _ _ _ hs (by omega)
   rw [show lenM (formM op) - 2=bytesM (formM op) by omega] at hs
   obtain ⟨v,hv,hf,hi⟩:=imm_back l hb (formM op) 2 hs (by omega)
   have hn2:lenM (formM op)=2+bytesM (formM op):=by omega
   unfold finD
   rw [hn2,Nat.add_sub_cancel_left,if_pos hs,hv]
   have q1:wrap64 (Int.tdiv (wrap64 (rd l 1)) 8)=rd l 1 / 8:=by
    rw [show wrap64 (rd l 1)=rd l 1 from by simp only [wrap64];omega,Int.tdiv_eq_ediv_of_nonneg (by omega)]
    simp only [wrap64];omega
   have q2:Int.tmod (wrap64 (rd l 1)) 8=rd l 1 % 8:=by
    rw [show wrap64 (rd l 1)=rd l 1 from by simp only [wrap64];omega,Int.tmod_eq_emod_of_nonneg (by omega)]
   rw [q1,q2]
   refine ⟨_,_,_,_,_,rfl,?_,?_,by omega,by omega⟩
   ·unfold chkD
    rw [if_neg c1,if_pos ⟨by omega,by omega,by omega,by omega,.inl cA,.inl cB,hf⟩]
   ·unfold encI
    rw [if_pos cB,e0,hi,take_cat,take_two l (by omega),show wrap64 (wrap64 (8 * (rd l 1 / 8))+rd l 1 % 8) % 256=rd l 1 from by simp only [wrap64];omega]
    rfl
  ·rw [if_neg cB,if_neg cB] at h ⊢
   by_cases c3:rd l 1≥8
   ·rw [if_pos c3] at h;exact absurd h (by decide)
   rw [if_neg c3] at h ⊢
   obtain ⟨hs,hn⟩:=fin_ok h
   have hsl:=scan_len _ _ _ _ hs (by omega)
   rw [show lenM (formM op) - 2=bytesM (formM op) by omega] at hs
   obtain ⟨v,hv,hf,hi⟩:=imm_back l hb (formM op) 2 hs (by omega)
   have hn2:lenM (formM op)=2+bytesM (formM op):=by omega
   unfold finD
   rw [hn2,Nat.add_sub_cancel_left,if_pos hs,hv,show wrap64 (rd l 1)=rd l 1 from by simp only [wrap64];omega]
   refine ⟨_,_,_,_,_,rfl,?_,?_,by omega,by omega⟩
   ·unfold chkD
    rw [if_neg c1,if_pos ⟨by omega,by omega,by omega,by omega,.inl cA,.inr rfl,hf⟩]
   ·unfold encI
    rw [if_neg cB,if_pos cA,e0,hi,take_cat,take_two l (by omega),show rd l 1 % 256=rd l 1 by omega]
    rfl
 ·rw [if_neg cA] at h ⊢
  rw [if_neg cA] at hl
  have cB:¬ hasB (formM op)=true:=by
   intro cB
   apply cA
   unfold hasA hasB at *
   simp at cB ⊢
   omega
  obtain ⟨hs,hn⟩:=fin_ok h
  have hsl:=scan_len _ _ _ _ hs (by omega)
  rw [show lenM (formM op) - 1=bytesM (formM op) by omega] at hs
  obtain ⟨v,hv,hf,hi⟩:=imm_back l hb (formM op) 1 hs (by omega)
  have hn2:lenM (formM op)=1+bytesM (formM op):=by omega
  unfold finD
  rw [hn2,Nat.add_sub_cancel_left,if_pos hs,hv]
  refine ⟨_,_,_,_,_,rfl,?_,?_,by omega,by omega⟩
  ·unfold chkD
   rw [if_neg c1,if_pos ⟨by omega,by omega,by omega,by omega,.inr rfl,.inr rfl,hf⟩]
  ·unfold encI
   rw [if_neg cB,if_neg cA,e0,hi,take_cat,take_one l (by omega)]
   rfl
end Go.Proofs.YtffojmgmpfjlhaaGreatDoor.Q
namespace Go.Proofs.YtffojmgmpfjlhaaGreatDoor.Q
open Go.Proofs.Ix hiding rd
open Go Go.Proofs.YtffojmgmpfjlhaaGreatDoor Go.RowKit Go.Proofs.YtffojmgmpfjlhaaGreatDoorW.PrintWords
theorem wrap_addq {i j:Nat} (h:i+j≤1000000):wrap64 ((i:Int)+((j:Nat):Int))=((i+j:Nat):Int):=by
 simp only [wrap64]
 omega
def swZ (l:List Int):Nat→Nat→List S23→List Int→List S23 × List Int × Int
 | 0,_,X,A=>(X,A,0)
 | m+1,i,X,A =>
  if i < l.length then
   (if (decD (l.drop i)).2.2.2.2.2=0 then swZ l m (i+(decD (l.drop i)).2.2.2.2.1.toNat) (X ++ [⟨(decD (l.drop i)).1,(decD (l.drop i)).2.1,(decD (l.drop i)).2.2.1,(decD (l.drop i)).2.2.2.1⟩]) (A ++ [(i:Int)])
    else ([],[],(decD (l.drop i)).2.2.2.2.2))
  else (X,A,0)
def swp (l:List Int):List S23 × List Int × Int:=if 2048 < l.length then ([],[],2) else swZ l (l.length+1) 0 [] []
theorem swZ_f (l:List Int) (hl:l.length≤2048):∀ (m i:Nat) (X:List S23) (A:List Int) (k:Nat),l.length - i < m→i≤l.length→X.length≤i→A.length≤i→m+200≤k →
  insn_Sweep.l0 k l X A (i:Int)=some (swZ l m i X A)
 | 0,i,X,A,k,h1,h2,h3,h4,h5=>by omega
 | m+1,i,X,A,k,h1,h2,h3,h4,h5=>by
  obtain ⟨k,rfl⟩:∃ q,k=q+100+1:=⟨k - 101,by omega⟩
  unfold insn_Sweep.l0 swZ
  by_cases c:i=l.length
  ·rw [if_neg (by omega),if_neg (by omega)]
  ·rw [if_pos (by omega),if_pos (by omega),if_pos (by omega),if_pos (by omega),Int.toNat_natCast,show k+100=(k+40)+60 from rfl,decode_g,show k+40+60=k+100 from rfl,Option.bind_some]
   by_cases he:(decD (l.drop i)).2.2.2.2.2=0
   ·obtain ⟨n,hn,hn1,_,hnl,_⟩:=dec_ok he
    rw [List.length_drop] at hnl
    rw [if_pos he,if_pos he,if_pos (by omega),if_pos (by omega),hn,wrap_addq (by omega),Int.toNat_natCast]
    exact swZ_f l hl m (i+n) _ _ (k+100) (by omega) (by omega) (by simp;omega) (by simp;omega) (by omega)
   ·rw [if_neg he,if_neg he]
theorem swp_f (l:List Int):insn_Sweep.f 2500 l=some (swp l):=by
 unfold insn_Sweep.f swp
 by_cases h:2048 < l.length
 ·rw [if_pos (by omega),if_pos h]
 ·rw [if_neg (by omega),if_neg h]
  exact swZ_f l (by omega) (l.length+1) 0 [] [] 2500 (by omega) (Nat.zero_le _) (Nat.le_refl _) (Nat.le_refl _) (by omega)
def InIt (l:List Int) (x:S23):Prop:=∃ i,(decD (l.drop i)).2.2.2.2.2=0∧x=⟨(decD (l.drop i)).1,(decD (l.drop i)).2.1,(decD (l.drop i)).2.2.1,(decD (l.drop i)).2.2.2.1⟩
theorem swZ_ok (l:List Int):∀ (m i:Nat) (X:List S23) (A:List Int),l.length - i < m→i≤l.length→X.length=A.length→X.length≤i→(∀ x∈X,InIt l x) →
  (swZ l m i X A).2.2=0→(swZ l m i X A).1.length=(swZ l m i X A).2.1.length∧(swZ l m i X A).1.length≤l.length∧∀ x∈(swZ l m i X A).1,InIt l x
 | 0,i,X,A,h1,h2,h3,h4,h5,h6=>by omega
 | m+1,i,X,A,h1,h2,h3,h4,h5,h6=>by
  unfold swZ at h6 ⊢
  by_cases c:i < l.length
  ·rw [if_pos c] at h6 ⊢
   by_cases he:(decD (l.drop i)).2.2.2.2.2=0
   ·rw [if_pos he] at h6 ⊢
    obtain ⟨n,hn,hn1,_,hnl,_⟩:=dec_ok he
    rw [List.length_drop] at hnl
    refine swZ_ok l m _ _ _ (by rw [hn,Int.toNat_natCast];omega) (by rw [hn,Int.toNat_natCast];omega) (by simp [h3]) (by rw [hn,Int.toNat_natCast];simp;omega) (fun x hx=>?_) h6
    rw [List.mem_append,List.mem_singleton] at hx
    rcases hx with hx | rfl
    ·exact h5 x hx
    ·exact ⟨i,he,rfl⟩
   ·rw [if_neg he] at h6
    exact absurd h6 he
  ·rw [if_neg c] at h6 ⊢
   exact ⟨h3,by show X.length≤_;omega,h5⟩
theorem swp_ok (l:List Int) (h:(swp l).2.2=0):(swp l).1.length=(swp l).2.1.length∧(swp l).1.length≤2048∧l.length≤2048∧∀ x∈(swp l).1,InIt l x:=by
 unfold swp at h ⊢
 by_cases c:2048 < l.length
 ·rw [if_pos c] at h
  cases h
 ·rw [if_neg c] at h ⊢
  obtain ⟨h1,h2,h3⟩:=swZ_ok l (l.length+1) 0 [] [] (by omega) (Nat.zero_le _) rfl (Nat.le_refl _) (fun x hx=>by simp at hx) h
  exact ⟨h1,by omega,by omega,h3⟩
def Rg (v:Int):Prop:=-9223372036854775808≤v∧v≤9223372036854775807
theorem bits_rg (x y:Int):Rg (Go.bits .or .i64 x y):=by
 unfold Go.bits
 simp only [YtffojmgmpfjlhaaGreatDoorW.PrintLast.i64_w,Rg,wrap64]
 omega
theorem orF_rg (bs:List Int):∀ (i:Nat) (v:Int),Rg v→Rg (orF bs v i)
 | 0,v,h=>h
 | i+1,v,h=>orF_rg bs i _ (bits_rg _ _)
theorem start_rg (f:Int) (bs:List Int):Rg (startD f bs):=by
 unfold startD Rg
 repeat' split
 all_goals omega
theorem err_rg (e:Int):Rg (errD e).2.2.2.1:=⟨by show _≤(0:Int);decide,by show (0:Int)≤_;decide⟩
theorem fin_rg (l:List Int) (f op a b:Int) (i n:Nat):Rg (finD l f op a b i n).2.2.2.1:=by
 unfold finD
 split
 ·exact orF_rg _ _ _ (start_rg _ _)
 ·exact err_rg _
theorem dec_rg (l:List Int):Rg (decD l).2.2.2.1:=by
 unfold decD
 repeat' split
 all_goals first | exact fin_rg _ _ _ _ _ _ _ | exact err_rg _
def prX (x:S23):ByteArray:=bS (printW x.f0 x.f1 x.f2 x.f3)
theorem prX_f {l:List Int} (hb:Byt l) {x:S23} (h:InIt l x):insn_Print.f 2500 x.f0 x.f1 x.f2 x.f3=some (prX x,0)∧(prX x).size≤1000:=by
 obtain ⟨i,he,rfl⟩:=h
 obtain ⟨op,a,b,v,n,hd,hc,_,_,_⟩:=dec_back (hb.drop i) he
 rw [hd]
 obtain ⟨hv,_,_,_,_,_,_,hf⟩:=chk_parts hc
 have hr:-9223372036854775808≤v∧v≤9223372036854775807:=by
  have:=dec_rg (l.drop i)
  rw [hd] at this
  exact this
 have o:=ok1_of hc hr.1 hr.2
 refine ⟨print_f hv o hc 2490,?_⟩
 show (bS (printW op a b v)).size≤1000
 rw [bS_len]
 unfold printW
 rw [List.length_append]
 have:=name_len op
 have:=opW_len o
 omega
def disZ (l:List Int) (at_:Int) (L:List S61):ByteArray × Int :=
 if 32 < L.length then (⟨#[]⟩,2) else if at_ < 0∨1099511627776 < at_ then (⟨#[]⟩,1) else if (swp l).2.2≠0 then (⟨#[]⟩,(swp l).2.2) else if fitB L at_ (swp l).2.1 (at_+l.length)=false then (⟨#[]⟩,5)
 else (⟨(outL prX (swp l).1 (swp l).2.1 at_ L (swp l).1.length ++ fnL (at_+l.length) L).toArray⟩,0)
def insn_Disassemble.f (l0:List Int) (a1:Int) (l2:List S61):Option (ByteArray × Int):=if (l0.all fun x=>(Lit.int .u8 x).wf)=true∧(l2.all fun s=>(Lit.int .i64 s.f1).wf)=true then some (disZ l0 a1 l2) else none
theorem dis_f {l0:List Int} {a1:Int} {l2:List S61} (h0:Byt l0) (h2:∀ s∈l2,okI s.f1):insn_Disassemble.f l0 a1 l2=some (disZ l0 a1 l2):=by
 unfold insn_Disassemble.f
 rw [if_pos ⟨List.all_eq_true.2 h0,List.all_eq_true.2 h2⟩]
theorem insn_Disassemble.calls (A0:Option Addr) (c0:Nat) (l0:List Int) (a1:Int) (A2:Option Addr) (c2:Nat) (l2:List S61) (r1:ByteArray) (r2:Int) (w:World) (hr0:Kd.C (Kd.int .u8) w A0 l0.length l0) (hc0:l0.length≤c0) (hr2:Kd.C k61 w A2 l2.length l2) (hc2:l2.length≤c2)
  (h:insn_Disassemble.f l0 a1 l2=some (r1,r2)) (hgw:GW w) :
  Calls Tryz.prog 40 #[.slice A0 l0.length c0,.int .i64 a1,.slice A2 l2.length c2] w fun e w'=>e=.returned (.tuple #[.string r1,.int .i64 r2])∧Below w.heap.size w w':=by
 unfold insn_Disassemble.f at h
 split at h
 ·rename_i hg0
  have hg:Byt l0∧∀ s∈l2,okI s.f1:=⟨fun x hx=>List.all_eq_true.1 hg0.1 x hx,fun s hs=>List.all_eq_true.1 hg0.2 s hs⟩
  have h1:=Option.some.inj h
  exact dis_any A0 c0 l0 a1 A2 c2 l2 w hr0 hc0 hr2 hc2 hgw hg.2 2500 (swp l0).1 (swp l0).2.1 (swp l0).2.2 (swp_f l0) prX (fun he x hx=>prX_f hg.1 ((swp_ok l0 he).2.2.2 x hx)) (fun he=>⟨(swp_ok l0 he).1,(swp_ok l0 he).2.1,(swp_ok l0 he).2.2.1⟩) r1 r2 h1.symm
 ·cases h
def encX (x:S23):List Int:=encI x.f0 x.f1 x.f2 x.f3
def offsL:List S23→Nat→List Int
 | [],_=>[]
 | x :: X,i=>(i:Int) :: offsL X (i+(encX x).length)
theorem swZ_enc (l:List Int) (hb:Byt l):∀ (m i:Nat) (X:List S23) (A:List Int),l.length - i < m→i≤l.length→(swZ l m i X A).2.2=0 →
  ∃ Y:List S23,(swZ l m i X A).1=X ++ Y∧(swZ l m i X A).2.1=A ++ offsL Y i∧Y.flatMap encX=l.drop i∧∀ y∈Y,chkD y.f0 y.f1 y.f2 y.f3=0∧Rg y.f3
 | 0,i,X,A,h1,h2,h6=>by omega
 | m+1,i,X,A,h1,h2,h6=>by
  unfold swZ at h6 ⊢
  by_cases c:i < l.length
  ·rw [if_pos c] at h6 ⊢
   by_cases he:(decD (l.drop i)).2.2.2.2.2=0
   ·rw [if_pos he] at h6 ⊢
    have hrg:=dec_rg (l.drop i)
    obtain ⟨op,a,b,v,n,hd,hc,hen,hn1,hnl⟩:=dec_back (hb.drop i) he
    rw [List.length_drop] at hnl
    rw [hd] at h6 hrg ⊢
    simp only [Int.toNat_natCast] at h6 ⊢
    obtain ⟨Y,e1,e2,e3,e4⟩:=swZ_enc l hb m (i+n) _ _ (by omega) (by omega) h6
    have hlen:(encX ⟨op,a,b,v⟩).length=n:=by
     show (encI op a b v).length=n
     rw [hen,List.length_take,List.length_drop]
     omega
    refine ⟨⟨op,a,b,v⟩ :: Y,by rw [e1];simp,?_,?_,?_⟩
    ·rw [e2]
     show _=A ++ ((i:Int) :: offsL Y (i+(encX ⟨op,a,b,v⟩).length))
     rw [hlen]
     simp
    ·rw [List.flatMap_cons,e3]
     show encI op a b v ++ _=_
     rw [hen,← List.drop_drop,List.take_append_drop]
    ·intro y hy
     rcases List.mem_cons.1 hy with rfl | hy
     ·exact ⟨hc,hrg⟩
     ·exact e4 y hy
   ·rw [if_neg he] at h6
    exact absurd h6 he
  ·rw [if_neg c] at h6 ⊢
   exact ⟨[],by simp,by simp [offsL],by rw [List.drop_of_length_le (by omega)];rfl,fun y hy=>by simp at hy⟩
theorem swp_enc {l:List Int} (hb:Byt l) (h:(swp l).2.2=0):(swp l).2.1=offsL (swp l).1 0∧(swp l).1.flatMap encX=l∧l.length≤2048∧∀ y∈(swp l).1,chkD y.f0 y.f1 y.f2 y.f3=0∧Rg y.f3:=by
 unfold swp at h ⊢
 by_cases c:2048 < l.length
 ·rw [if_pos c] at h
  cases h
 ·rw [if_neg c] at h ⊢
  obtain ⟨Y,e1,e2,e3,e4⟩:=swZ_enc l hb (l.length+1) 0 [] [] (by omega) (Nat.zero_le _) h
  rw [List.nil_append] at e1 e2
  rw [e1,e2]
  exact ⟨rfl,e3,by omega,e4⟩
theorem encX_pos {x:S23} (h:chkD x.f0 x.f1 x.f2 x.f3=0):1≤(encX x).length:=by
 unfold encX encI
 simp only [List.length_append,List.length_cons]
 omega
inductive Ll where
 | fn (s:ByteArray)
 | ins (x:S23)
def Ll.text:Ll→List UInt8
 | .fn s=>[46,102,117,110,99,32] ++ s.data.toList
 | .ins x=>(prX x).data.toList
def Ll.bytes (y:Ll):List UInt8:=y.text ++ [10]
def fnsAt (L:List S61) (here:Int):List Ll:=(L.filter fun s=>decide (s.f1=here)).map fun s=>.fn s.f0
def lstL (L:List S61) (at_:Int):List S23→Nat→List Ll
 | [],i=>fnsAt L (at_+i)
 | y :: Y,i=>fnsAt L (at_+i) ++ .ins y :: lstL L at_ Y (i+(encX y).length)
theorem fns_eq (here:Int):∀ L:List S61,fnL here L=(fnsAt L here).flatMap Ll.bytes
 | []=>rfl
 | s :: L=>by
  have h:=fns_eq here L
  unfold fnsAt at h ⊢
  by_cases c:s.f1=here
  ·simp [fnL,c,h,fnLine,Ll.bytes,Ll.text]
  ·simp [fnL,c,h]
def lens (X:List S23):Nat:=(X.map fun x=>(encX x).length).sum
theorem lens_flat:∀ X:List S23,lens X=(X.flatMap encX).length
 | []=>rfl
 | x :: X=>by
  have:=lens_flat X
  simp only [lens,List.map_cons,List.sum_cons,List.flatMap_cons,List.length_append] at this ⊢
  omega
theorem offs_at:∀ (X:List S23) (i k:Nat),k < X.length→(offsL X i).getD k 0=((i+lens (X.take k):Nat):Int)
 | [],i,k,h=>by simp at h
 | x :: X,i,0,h=>by simp [offsL,lens]
 | x :: X,i,k+1,h=>by
  have:=offs_at X (i+(encX x).length) k (by simpa using h)
  simp only [offsL,List.getD_cons_succ,List.take_succ_cons,lens,List.map_cons,List.sum_cons] at this ⊢
  rw [this]
  congr 1
  omega
theorem lens_take (X:List S23) (k:Nat) (h:k < X.length):lens (X.take (k+1))=lens (X.take k)+(encX X[k]).length:=by
 rw [List.take_succ_eq_append_getElem h]
 simp only [lens,List.map_append,List.sum_append,List.map_cons,List.map_nil,List.sum_cons,List.sum_nil,Nat.add_zero]
theorem out_step (L:List S61) (at_:Int) (X:List S23) (h0:0≤at_) (h1:at_≤1099511627776) (hl:lens X≤2048):∀ k,k≤X.length →
  outL prX X (offsL X 0) at_ L k ++ (lstL L at_ (X.drop k) (lens (X.take k))).flatMap Ll.bytes=(lstL L at_ X 0).flatMap Ll.bytes
 | 0,_=>by simp [outL,lens]
 | k+1,hk=>by
  have ih:=out_step L at_ X h0 h1 hl k (by omega)
  have hk':k < X.length:=by omega
  have hle:lens (X.take k)≤lens X:=by
   rw [lens_flat,lens_flat]
   conv=>rhs;rw [← List.take_append_drop k X,List.flatMap_append,List.length_append]
   omega
  rw [← ih,List.drop_eq_getElem_cons hk',lens_take X k hk']
  have e1:wrap64 (at_+YtffojmgmpfjlhaaGreatDoorW.PrintWords.rd (offsL X 0) (k:Int))=at_+(lens (X.take k):Nat):=by
   rw [rd_nat,offs_at X 0 k hk',Nat.zero_add]
   simp only [wrap64]
   omega
  simp only [outL,lstL]
  rw [e1,fns_eq,rd_T23_mem hk']
  simp [Ll.bytes,Ll.text]
theorem out_eq (L:List S61) (at_:Int) (X:List S23) (h0:0≤at_) (h1:at_≤1099511627776) (hl:lens X≤2048) :
  outL prX X (offsL X 0) at_ L X.length ++ fnL (at_+(lens X:Nat)) L=(lstL L at_ X 0).flatMap Ll.bytes:=by
 rw [← out_step L at_ X h0 h1 hl X.length (Nat.le_refl _),List.drop_length,List.take_length,fns_eq]
 rfl
theorem ba_eq {a b:ByteArray} (h:a.data.toList=b.data.toList):a=b:=by
 obtain ⟨⟨a⟩⟩:=a
 obtain ⟨⟨b⟩⟩:=b
 simp at h
 rw [h]
theorem name_parts {s:ByteArray} (h:nameB s=true):(∀ c∈s.data.toList,isWd c=true)∧(∃ c t,s.data.toList=c :: t∧isLet c=true)∧s.data.toList.length≤31:=by
 unfold nameB isNameM at h
 cases hs:s.data.toList with
 | nil=>rw [hs] at h;cases h
 | cons c t =>
  rw [hs] at h
  simp only [Bool.and_eq_true,decide_eq_true_eq] at h
  obtain ⟨⟨h1,h2⟩,h3⟩:=h
  exact ⟨fun x hx=>List.all_eq_true.1 h3 x hx,⟨c,t,rfl,h2⟩,h1⟩
def lenL:List Ll→Nat
 | []=>0
 | .fn _ :: r=>lenL r
 | .ins x :: r=>(encX x).length+lenL r
def labL:List Ll→Nat→List (ByteArray × Nat)
 | [],_=>[]
 | .fn s :: r,i=>(s,i) :: labL r i
 | .ins x :: r,i=>labL r (i+(encX x).length)
def namL:List Ll→List ByteArray
 | []=>[]
 | .fn s :: r=>s :: namL r
 | .ins _ :: r=>namL r
def insL:List Ll→List S23
 | []=>[]
 | .fn _ :: r=>insL r
 | .ins x :: r=>x :: insL r
def OkL:Ll→Prop
 | .fn s=>nameB s=true
 | .ins x=>chkD x.f0 x.f1 x.f2 x.f3=0∧Rg x.f3
theorem len_app:∀ a b:List Ll,lenL (a ++ b)=lenL a+lenL b
 | [],b=>by simp [lenL]
 | .fn s :: a,b=>by simp [lenL,len_app a b]
 | .ins x :: a,b=>by simp only [List.cons_append,lenL,len_app a b];omega
theorem lab_app:∀ (a b:List Ll) (i:Nat),labL (a ++ b) i=labL a i ++ labL b (i+lenL a)
 | [],b,i=>by simp [labL,lenL]
 | .fn s :: a,b,i=>by simp [labL,lenL,lab_app a b i]
 | .ins x :: a,b,i=>by simp only [List.cons_append,labL,lenL,lab_app a b _,Nat.add_assoc]
theorem fns_alone (L:List S61) (h:Int):insL (fnsAt L h)=[]∧lenL (fnsAt L h)=0∧namL (fnsAt L h)=(L.filter fun s=>decide (s.f1=h)).map (·.f0)∧∀ i,labL (fnsAt L h) i=(L.filter fun s=>decide (s.f1=h)).map fun s=>(s.f0,i):=by
 unfold fnsAt
 generalize (L.filter fun s=>decide (s.f1=h))=M
 induction M with
 | nil=>exact ⟨rfl,rfl,rfl,fun _=>rfl⟩
 | cons s M ih =>
  obtain ⟨a,b,c,d⟩:=ih
  exact ⟨by simpa [insL] using a,by simpa [lenL] using b,by simpa [namL] using c,fun i=>by simpa [labL] using d i⟩
theorem len_lst (L:List S61) (at_:Int):∀ (X:List S23) (i:Nat),lenL (lstL L at_ X i)=lens X
 | [],i=>(fns_alone L _).2.1
 | x :: X,i=>by
  simp only [lstL]
  rw [len_app,(fns_alone L _).2.1]
  have:=len_lst L at_ X (i+(encX x).length)
  simp only [lenL,this,lens,List.map_cons,List.sum_cons]
  omega
theorem ok_lst (L:List S61) (at_:Int) (hL:∀ s∈L,nameB s.f0=true):∀ (X:List S23) (i:Nat),(∀ x∈X,chkD x.f0 x.f1 x.f2 x.f3=0∧Rg x.f3)→∀ y∈lstL L at_ X i,OkL y
 | [],i,h,y,hy=>by
  obtain ⟨s,hs,rfl⟩:=List.mem_map.1 hy
  exact hL s (List.mem_filter.1 hs).1
 | x :: X,i,h,y,hy=>by
  simp only [lstL] at hy
  rcases List.mem_append.1 hy with hy | hy
  ·obtain ⟨s,hs,rfl⟩:=List.mem_map.1 hy
   exact hL s (List.mem_filter.1 hs).1
  ·rcases List.mem_cons.1 hy with rfl | hy
   ·exact h x List.mem_cons_self
   ·exact ok_lst L at_ hL X _ (fun z hz=>h z (List.mem_cons_of_mem _ hz)) y hy
end Go.Proofs.YtffojmgmpfjlhaaGreatDoor.Q
