/- Parts of the proof: see the last text -/
import Derived.Test.YtffojmgmpfjlhaaGreatDoorInsQ1
import Derived.Test.YtffojmgmpfjlhaaGreatDoorInsQ2
import Derived.Test.YtffojmgmpfjlhaaGreatDoorInsQ3
import Derived.Test.YtffojmgmpfjlhaaGreatDoorInsQ4
import Derived.Test.YtffojmgmpfjlhaaGreatDoorInsQ5
import Derived.Test.YtffojmgmpfjlhaaGreatDoorInsQ6
import Derived.Test.YtffojmgmpfjlhaaGreatDoorInsQ7
import Derived.Test.YtffojmgmpfjlhaaGreatDoorInsQ8
import Derived.Test.YtffojmgmpfjlhaaGreatDoorInsQ9
import Derived.Test.YtffojmgmpfjlhaaGreatDoorInsQ10
import Derived.Test.YtffojmgmpfjlhaaGreatDoorInsQ11
import Derived.Test.YtffojmgmpfjlhaaGreatDoorInsQ12
import Derived.Test.YtffojmgmpfjlhaaGreatDoorInsQ13
import Derived.Test.YtffojmgmpfjlhaaGreatDoorInsQ14
import Derived.Test.YtffojmgmpfjlhaaGreatDoorInsQ15
import Derived.Test.YtffojmgmpfjlhaaGreatDoorInsQ16
import Derived.Test.YtffojmgmpfjlhaaGreatDoorInsQ17
import Derived.Test.YtffojmgmpfjlhaaGreatDoorInsR1
import Derived.Test.YtffojmgmpfjlhaaGreatDoorInsR2
import Derived.Test.YtffojmgmpfjlhaaGreatDoorInsR3
set_option linter.unusedVariables false
set_option linter.unusedSimpArgs false
namespace Go.Proofs.YtffojmgmpfjlhaaGreatDoor.Q
open Go.Proofs.Ix hiding rd
open Go.Proofs.YtffojmgmpfjlhaaGreatDoor Go.RowKit Go.Proofs.YtffojmgmpfjlhaaGreatDoorW.PrintWords
def FP:List (Int × Int):=[(0,1),(1,2),(1,11),(3,3),(4,4),(5,5),(5,6),(6,7),(2,8),(7,9),(8,10)]
def formB (n:Nat):Bool:=match rzForm.f 12 (n:Int) with | none=>false | some r=>if nameM (n:Int)=[] then decide (r=0) else decide (r≠0) && decide ((formM (n:Int),r)∈FP)
set_option maxRecDepth 100000 in
theorem forms_77:∀ n,n < 77→formB n=true:=by decide +kernel
theorem form_out (op:Int) (h:op < 0∨77≤op):rzForm.f 12 op=some 0:=by
 have n1:op≠1:=by omega
 have n29:op≠29:=by omega
 have n76:op≠76:=by omega
 have n2:op≠2:=by omega
 have n3:op≠3:=by omega
 have n4:op≠4:=by omega
 have n5:op≠5:=by omega
 have n6:op≠6:=by omega
 have n7:op≠7:=by omega
 have n8:op≠8:=by omega
 have n9:op≠9:=by omega
 have n10:op≠10:=by omega
 have n11:op≠11:=by omega
 have n12:op≠12:=by omega
 have n13:op≠13:=by omega
 have n14:op≠14:=by omega
 have n15:op≠15:=by omega
 have n16:op≠16:=by omega
 have n17:op≠17:=by omega
 have n18:op≠18:=by omega
 have n19:op≠19:=by omega
 have n20:op≠20:=by omega
 have n21:op≠21:=by omega
 have n22:op≠22:=by omega
 have n23:op≠23:=by omega
 have n24:op≠24:=by omega
 have n25:op≠25:=by omega
 have n26:op≠26:=by omega
 have n27:op≠27:=by omega
 have n28:op≠28:=by omega
 have n30:op≠30:=by omega
 have n31:op≠31:=by omega
 have n32:op≠32:=by omega
 have n33:op≠33:=by omega
 have n34:op≠34:=by omega
 simp [rzForm.f,rzForm.j0,rzForm.j1,rzForm.j2,rzForm.j3,rzForm.j4,rzForm.j5,rzForm.j6,n1,n29,n76,n2,n3,n4,n5,n6,n7,n8,n9,n10,n11,n12,n13,n14,n15,n16,n17,n18,n19,n20,n21,n22,n23,n24,n25,n26,n27,n28,n30,n31,n32,n33,n34]
theorem name_out (op:Int) (h:op < 0∨77≤op):nameM op=[]:=by
 unfold nameM kindM
 rw [if_neg (by omega),if_pos (by omega)]
theorem form_any (op:Int):∃ r,(∀ k,rzForm.f (k+12) op=some r)∧((nameM op=[]∧r=0)∨(nameM op≠[]∧r≠0∧(formM op,r)∈FP)):=by
 by_cases h:op < 0∨77≤op
 ·exact ⟨0,fun k=>leO_up (rzForm.mono op) (form_out op h) k,.inl ⟨name_out op h,rfl⟩⟩
 ·obtain ⟨n,rfl⟩:=Int.eq_ofNat_of_zero_le (show 0≤op by omega)
  have hb:=forms_77 n (by omega)
  unfold formB at hb
  cases hf:rzForm.f 12 (n:Int) with
  | none=>rw [hf] at hb;cases hb
  | some r =>
   rw [hf] at hb
   simp only at hb
   refine ⟨r,fun k=>leO_up (rzForm.mono _) hf k,?_⟩
   by_cases hn:nameM (n:Int)=[]
   ·rw [if_pos hn] at hb
    exact .inl ⟨hn,of_decide_eq_true hb⟩
   ·rw [if_neg hn,Bool.and_eq_true] at hb
    exact .inr ⟨hn,of_decide_eq_true hb.1,of_decide_eq_true hb.2⟩
theorem opnd_all:∀ q∈FP,rzOperands.f 12 q.2=some (hasA q.1,hasB q.1,(bytesM q.1:Int)):=by decide +kernel
theorem opnd_any {p r:Int} (h:(p,r)∈FP) (k:Nat):rzOperands.f (k+12) r=some (hasA p,hasB p,(bytesM p:Int)):=leO_up (rzOperands.mono r) (opnd_all _ h) k
theorem fp_ten:∀ q∈FP,(q.2=10↔q.1=8):=by decide +kernel
theorem bytes_ten {f:Int}:bytesM f≤10∧(bytesM f=10↔f=3):=by
 unfold bytesM
 by_cases h3:f=3
 ·simp [h3]
 ·simp only [h3,if_false,iff_false]
  split
  ·omega
  ·split <;> omega
theorem number_l0 (bs:List Int) (hb:bs.length≤1000):∀ (i:Nat) (v:Int) (k:Nat),i≤bs.length→i < k→rznumber.l0 k bs v ((i:Int) - 1)=some (orF bs v i)
 | 0,v,k,h1,h2=>by
  obtain ⟨k,rfl⟩:∃ m,k=m+1:=⟨k - 1,by omega⟩
  unfold rznumber.l0
  rw [if_neg (by omega)]
  rfl
 | i+1,v,k,h1,h2=>by
  obtain ⟨k,rfl⟩:∃ m,k=m+1:=⟨k - 1,by omega⟩
  unfold rznumber.l0
  have e:((i+1:Nat):Int) - 1=(i:Int):=by omega
  rw [if_pos (by omega),if_pos (by omega),if_pos (by omega),wrap_pred2 (by omega),number_l0 bs hb i _ k (by omega) (by omega),e]
  rfl
theorem number_f (bs:List Int) (h0:0 < bs.length) (hb:bs.length≤20) (k:Nat):rznumber.f (k+30) bs=some (orF bs (if rd bs ((bs.length:Int) - 1)≥64 then -1 else 0) bs.length):=by
 have hj0:∀ v,rznumber.j0 (k+30) bs v=some (orF bs v bs.length):=by
  intro v
  show rznumber.j0 (k+29+1) bs v=_
  rw [rznumber.j0,wrap_pred (by omega)]
  exact number_l0 bs (by omega) _ _ _ (Nat.le_refl _) (by omega)
 unfold rznumber.f
 rw [wrap_pred (by omega),if_pos (by omega),if_pos (by omega),hj0,hj0]
 by_cases h:rd bs ((bs.length:Int) - 1)≥64
 ·rw [if_pos h,if_pos h]
 ·rw [if_neg h,if_neg h]
theorem or_zero:∀ n,n < 256→Go.bits .or .i64 (wrap64 (0 * 128)) (wrap64 ((n:Nat):Int))=wrap64 (n:Int):=by decide +kernel
theorem wrap_add {i j:Nat} (h:i+j≤1000000):wrap64 ((i:Int)+(j:Int))=((i+j:Nat):Int):=by
 simp only [wrap64]
 omega
theorem rdecode_l0 (l:List Int) (hb:Byt l) (p r op a b:Int) (hp:(p,r)∈FP) (i0:Nat) (hi:i0≤2) (h0:0 < l.length):∀ (d j k:Nat),j+d=bytesM p→i0+j≤l.length→d+40 < k →
  rzDecode.l0 k l r (bytesM p:Int) (i0:Int) (j:Int) op a b 0=some (if scanD l p (i0+j) d=0 then (op,a,b,orF (sliceD l i0 (i0+bytesM p)) (startD p (sliceD l i0 (i0+bytesM p))) (bytesM p),((i0+bytesM p:Nat):Int),0) else errD (scanD l p (i0+j) d))
 | 0,j,k,h1,h2,h3=>by
  obtain ⟨k,rfl⟩:∃ m,k=m+40+1:=⟨k - 41,by omega⟩
  have hbt:=(bytes_ten (f:=p)).1
  have hl:(sliceD l i0 (i0+bytesM p)).length=bytesM p:=by simp [sliceD];omega
  have hr:=fp_ten _ hp
  simp only at hr
  unfold rzDecode.l0
  rw [if_neg (by omega),wrap_add (by omega),show scanD l p (i0+j) 0=0 from by unfold scanD;rfl,if_pos rfl]
  by_cases hz:bytesM p=0
  ·have hr10:¬ r=10:=by
    intro h
    have:=hr.1 h
    subst this
    exact absurd hz (by decide)
   have hst:startD p (sliceD l i0 (i0+bytesM p))=0:=by
    unfold startD
    rw [if_pos (show (sliceD l i0 (i0+bytesM p)).length=0 by omega)]
    split <;> rfl
   rw [if_neg (by omega),if_neg hr10,hst,hz]
   rfl
  ·rw [if_pos (by omega),if_pos (by omega),if_pos (by omega),if_pos (by omega),Int.toNat_natCast,Int.toNat_natCast,show (l.take (i0+bytesM p)).drop i0=sliceD l i0 (i0+bytesM p) from rfl,
    show k+40=(k+10)+30 from rfl,number_f _ (by omega) (by omega),hl,Option.bind_some]
   by_cases h10:r=10
   ·have h8:=hr.1 h10
    have hone:bytesM p=1:=by rw [h8];decide
    rw [if_pos h10,if_pos (by omega)]
    have hbi:=hb.at (i:=i0) (by omega)
    have hst:startD p (sliceD l i0 (i0+bytesM p))=0:=by
     unfold startD
     rw [if_pos h8]
    have hrs:rd (sliceD l i0 (i0+1)) ((0:Nat):Int)=rd l (i0:Int):=by
     unfold sliceD
     rw [rd_drop]
     unfold rd
     rw [Int.toNat_natCast,Int.toNat_natCast]
     simp [List.getD,List.getElem?_take]
    rw [hst,hone]
    have hor:orF (sliceD l i0 (i0+1)) 0 1=wrap64 (rd l (i0:Int)):=by
     show Go.bits .or .i64 (wrap64 (0 * 128)) (wrap64 (rd (sliceD l i0 (i0+1)) ((0:Nat):Int)))=_
     rw [hrs]
     obtain ⟨n,hn⟩:=Int.eq_ofNat_of_zero_le hbi.1
     rw [hn]
     exact or_zero n (by omega)
    rw [hor]
   ·have h8:¬ p=8:=fun h=>h10 (hr.2 h)
    have hst:startD p (sliceD l i0 (i0+bytesM p))=if rd (sliceD l i0 (i0+bytesM p)) (((bytesM p:Nat):Int) - 1)≥64 then -1 else 0:=by
     unfold startD
     rw [if_neg h8,hl,if_neg hz]
    rw [if_neg h10,hst]
 | d+1,j,k,h1,h2,h3=>by
  obtain ⟨k,rfl⟩:∃ m,k=m+1:=⟨k - 1,by omega⟩
  have hbt:=bytes_ten (f:=p)
  unfold rzDecode.l0 scanD
  rw [if_pos (by omega),wrap_add (by omega),wrap_succ (by omega)]
  by_cases c1:i0+j=l.length
  ·rw [if_pos (by omega),if_pos c1];rfl
  ·rw [if_neg (by omega),if_neg c1]
   have ih:=rdecode_l0 l hb p r op a b hp i0 hi h0 d (j+1) k (by omega) (by omega) (by omega)
   rw [show i0+(j+1)=i0+j+1 from rfl] at ih
   have q1:(0:Int)≤((i0+j:Nat):Int):=by omega
   have q2:((i0+j:Nat):Int) < (l.length:Int):=by omega
   have e3:d+40 < k:=by omega
   rw [ih,if_pos q1,if_pos q1,if_pos q2,if_pos q2]
   by_cases c2:rd l ((i0+j:Nat):Int)≥128
   ·have g2:rd l ((i0+j:Nat):Int) > 127:=by omega
    have n0:¬ rd l ((i0+j:Nat):Int)=0:=by omega
    by_cases c9:(j:Int)=9
    ·rw [if_pos c9,if_neg n0,if_pos g2,if_pos c2];rfl
    ·rw [if_neg c9,if_pos g2,if_pos c2];rfl
   ·have g2:¬ rd l ((i0+j:Nat):Int) > 127:=by omega
    by_cases c9:(j:Int)=9
    ·have hp3:p=3∧d=0:=by
      have:bytesM p=10:=by omega
      exact ⟨hbt.2.1 this,by omega⟩
     by_cases n0:rd l ((i0+j:Nat):Int)=0
     ·rw [if_pos c9,if_pos n0,if_neg g2,if_neg c2,if_neg (show ¬ (p=3∧d=0∧rd l ((i0+j:Nat):Int)≠0∧rd l ((i0+j:Nat):Int)≠127) from fun h=>h.2.2.1 n0)]
     ·by_cases n7:rd l ((i0+j:Nat):Int)=127
      ·rw [if_pos c9,if_neg n0,if_neg g2,if_pos n7,if_neg c2,if_neg (show ¬ (p=3∧d=0∧rd l ((i0+j:Nat):Int)≠0∧rd l ((i0+j:Nat):Int)≠127) from fun h=>h.2.2.2 n7)]
      ·rw [if_pos c9,if_neg n0,if_neg g2,if_neg n7,if_neg c2,if_pos (show (p=3∧d=0∧rd l ((i0+j:Nat):Int)≠0∧rd l ((i0+j:Nat):Int)≠127) from ⟨hp3.1,hp3.2,n0,n7⟩)];rfl
    ·rw [if_neg c9,if_neg g2,if_neg c2,if_neg (show ¬ (p=3∧d=0∧rd l ((i0+j:Nat):Int)≠0∧rd l ((i0+j:Nat):Int)≠127) from fun h=>c9 (by have:=hbt.2.2 h.1;have:=h.2.1;omega))]
theorem lenM_eq (f:Int):lenM f=1+bytesM f+(if hasA f=true then 1 else 0):=rfl
set_option maxHeartbeats 1000000 in
theorem rdecode_f (l:List Int) (hb:Byt l) (hl:l.length≤140737488351232) (k:Nat):rzDecode.f (k+100) l=some (decD l):=by
 have hj2:∀ (p r op a b:Int) (i0 m:Nat),(p,r)∈FP→i0≤2→0 < l.length→i0≤l.length→70≤m→i0+bytesM p=lenM p →
   rzDecode.j2 m l r (bytesM p:Int) (i0:Int) op a b 0=some (finD l p op a b i0 (lenM p)):=by
  intro p r op a b i0 m hp hi h0 hil hm hlen
  obtain ⟨m,rfl⟩:∃ q,m=q+1:=⟨m - 1,by omega⟩
  have hbt:=bytes_ten (f:=p)
  rw [rzDecode.j2]
  refine (rdecode_l0 l hb p r op a b hp i0 hi h0 (bytesM p) 0 m (by omega) (by omega) (by omega)).trans ?_
  unfold finD
  rw [← hlen,Nat.add_zero,show i0+bytesM p - i0=bytesM p by omega]
 unfold rzDecode.f decD
 by_cases c0:l.length=0
 ·rw [if_pos (by omega),if_pos c0];rfl
 rw [if_neg (by omega),if_neg c0,if_pos (by omega)]
 have hr0:0≤rd l 0∧rd l 0 < 256:=hb.at (i:=0) (by omega)
 rw [show wrap64 (wrap64 (rd l 0) - 128)=opD l from rfl]
 by_cases clow:rd l 0 < 128
 ·have:opD l < 0:=by unfold opD;simp only [wrap64];omega
  rw [if_pos clow,if_pos (name_out _ (.inl this))]
  show rzDecode.j0 (k+99+1) l true=_
  rw [rzDecode.j0,if_pos rfl];rfl
 rw [if_neg clow]
 obtain ⟨r,hf,hr⟩:=form_any (opD l)
 rw [show k+100=k+88+12 from rfl,hf,Option.bind_some]
 show rzDecode.j0 (k+99+1) l (r == 0)=_
 rw [rzDecode.j0]
 rcases hr with ⟨hn,hr⟩ | ⟨hn,hr,hp⟩
 ·rw [if_pos (by simp [hr]),if_pos hn];rfl
 rw [if_neg (by simp [hr]),if_neg hn,if_pos (by omega),show wrap64 (wrap64 (rd l 0) - 128)=opD l from rfl,show k+99=k+87+12 from rfl,hf,Option.bind_some,opnd_any hp,Option.bind_some]
 have hA1:hasA (formM (opD l))=true→2+bytesM (formM (opD l))=lenM (formM (opD l)):=fun h=>by rw [lenM_eq,if_pos h];omega
 by_cases cA:hasA (formM (opD l))=true
 ·rw [if_pos cA,if_pos cA]
  by_cases c2:l.length=1
  ·rw [if_pos (by omega),if_pos c2];rfl
  rw [if_neg (by omega),if_neg c2,if_pos (by omega)]
  have hr1:0≤rd l 1∧rd l 1 < 256:=hb.at (i:=1) (by omega)
  have hj1:∀ c:Bool,rzDecode.j1 (k+99) l r (hasB (formM (opD l))) (bytesM (formM (opD l)):Int) c (opD l) 0 0 0 =
    some (if c=true then errD 20 else if hasB (formM (opD l))=true then finD l (formM (opD l)) (opD l) (wrap64 (Int.tdiv (wrap64 (rd l 1)) 8)) (Int.tmod (wrap64 (rd l 1)) 8) 2 (lenM (formM (opD l)))
     else finD l (formM (opD l)) (opD l) (wrap64 (rd l 1)) 0 2 (lenM (formM (opD l)))):=by
   intro c
   show rzDecode.j1 (k+98+1) l _ _ _ c _ _ _ _=_
   rw [rzDecode.j1]
   by_cases cc:c=true
   ·rw [if_pos cc,if_pos cc];rfl
   rw [if_neg cc,if_neg cc,if_pos (by omega)]
   by_cases cB:hasB (formM (opD l))=true
   ·rw [if_pos cB,if_pos cB]
    exact hj2 _ _ _ _ _ 2 _ hp (Nat.le_refl _) (by omega) (by omega) (by omega) (hA1 cA)
   ·rw [if_neg cB,if_neg cB]
    exact hj2 _ _ _ _ _ 2 _ hp (Nat.le_refl _) (by omega) (by omega) (by omega) (hA1 cA)
  by_cases c63:rd l 1 > 63
  ·rw [if_pos c63]
   refine (hj1 true).trans ?_
   rw [if_pos rfl,if_pos (show rd l 1≥(if hasB (formM (opD l))=true then 64 else 8) by split <;> omega)]
  rw [if_neg c63]
  by_cases cB:hasB (formM (opD l))=true
  ·rw [if_pos cB]
   refine (hj1 false).trans ?_
   rw [if_neg (by decide),if_pos cB,if_pos cB,if_neg (show ¬ rd l 1≥64 by omega)]
  ·rw [if_neg cB]
   refine (hj1 _).trans ?_
   rw [if_neg cB,if_neg cB]
   by_cases c7:rd l 1 > 7
   ·rw [if_pos (decide_eq_true c7),if_pos (show rd l 1≥8 by omega)]
   ·rw [if_neg (by simpa using c7),if_neg (show ¬ rd l 1≥8 by omega)]
 ·rw [if_neg cA,if_neg cA]
  exact hj2 _ _ _ _ _ 1 _ hp (by omega) (by omega) (by omega) (by omega) (by rw [lenM_eq,if_neg cA];omega)
theorem scan_low (l:List Int) (f:Int):∀ (d i:Nat),scanD l f i d=0→∀ j,i≤j→j < i+d→rd l (j:Int) < 128
 | 0,i,_,j,h1,h2=>by omega
 | d+1,i,hs,j,h1,h2=>by
  unfold scanD at hs
  by_cases c1:i=l.length
  ·rw [if_pos c1] at hs;omega
  ·rw [if_neg c1] at hs
   by_cases c2:rd l (i:Int)≥128
   ·rw [if_pos c2] at hs;omega
   ·rw [if_neg c2] at hs
    by_cases h3:f=3∧d=0∧rd l (i:Int)≠0∧rd l (i:Int)≠127
    ·rw [if_pos h3] at hs;omega
    ·rw [if_neg h3] at hs
     by_cases e:j=i
     ·subst e;omega
     ·exact scan_low l f d (i+1) hs j (by omega) (by omega)
theorem fin_ok {l:List Int} {f op a b:Int} {i n:Nat} (h:(finD l f op a b i n).2.2.2.2.2=0):scanD l f i (n - i)=0∧(finD l f op a b i n).2.2.2.2.1=(n:Int):=by
 unfold finD at h ⊢
 by_cases c:scanD l f i (n - i)=0
 ·rw [if_pos c];exact ⟨c,rfl⟩
 ·rw [if_neg c] at h;exact absurd h c
theorem dec_ok {l:List Int} (h:(decD l).2.2.2.2.2=0):∃ n:Nat,(decD l).2.2.2.2.1=(n:Int)∧1≤n∧n≤12∧n≤l.length∧∀ j:Nat,1≤j→j < n→rd l (j:Int) < 128:=by
 unfold decD at h ⊢
 by_cases c0:l.length=0
 ·rw [if_pos c0] at h;exact absurd h (by decide)
 rw [if_neg c0] at h ⊢
 by_cases c1:nameM (opD l)=[]
 ·rw [if_pos c1] at h;exact absurd h (by decide)
 rw [if_neg c1] at h ⊢
 have hb:=lenM_bd (formM (opD l))
 by_cases cA:hasA (formM (opD l))=true
 ·rw [if_pos cA] at h ⊢
  have h2:=lenM_A cA
  by_cases c2:l.length=1
  ·rw [if_pos c2] at h;exact absurd h (by decide)
  rw [if_neg c2] at h ⊢
  by_cases cB:hasB (formM (opD l))=true
  ·rw [if_pos cB,if_pos cB] at h ⊢
   by_cases c3:rd l 1≥64
   ·rw [if_pos c3] at h;exact absurd h (by decide)
   rw [if_neg c3] at h ⊢
   obtain ⟨hs,hn⟩:=fin_ok h
   refine ⟨_,hn,hb.1,hb.2,by have:=scan_len _ _ _ _ hs (by omega);omega,fun j h1 hj=>?_⟩
   by_cases e:j=1
   ·subst e;show rd l 1 < 128;omega
   ·exact scan_low _ _ _ _ hs j (by omega) (by omega)
  ·rw [if_neg cB,if_neg cB] at h ⊢
   by_cases c3:rd l 1≥8
   ·rw [if_pos c3] at h;exact absurd h (by decide)
   rw [if_neg c3] at h ⊢
   obtain ⟨hs,hn⟩:=fin_ok h
   refine ⟨_,hn,hb.1,hb.2,by have:=scan_len _ _ _ _ hs (by omega);omega,fun j h1 hj=>?_⟩
   by_cases e:j=1
   ·subst e;show rd l 1 < 128;omega
   ·exact scan_low _ _ _ _ hs j (by omega) (by omega)
 ·rw [if_neg cA] at h ⊢
  obtain ⟨hs,hn⟩:=fin_ok h
  exact ⟨_,hn,hb.1,hb.2,by have:=scan_len _ _ _ _ hs (by omega);omega,fun j h1 hj=>scan_low _ _ _ _ hs j (by omega) (by omega)⟩
end Go.Proofs.YtffojmgmpfjlhaaGreatDoor.Q
