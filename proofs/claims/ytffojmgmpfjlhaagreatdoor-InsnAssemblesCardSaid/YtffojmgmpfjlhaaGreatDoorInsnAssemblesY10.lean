/- Parts of the proof of InsnAssembles. -/
import Derived.Test.YtffojmgmpfjlhaaGreatDoorInsnAssemblesY9
import Derived.Deep.RegionHeld3
import Derived.Deep.QuietTactic
import Derived.BigQuiet
import Derived.IntWalk
import Derived.Lib.SplitLaws
set_option linter.unusedVariables false
set_option linter.unusedSimpArgs false
namespace Go.Proofs.YtffojmgmpfjlhaaGreatDoor.Q
open Go.Proofs.Ix hiding rd
open Go Go.Proofs.YtffojmgmpfjlhaaGreatDoor Go.RowKit Go.Proofs.YtffojmgmpfjlhaaGreatDoorW.PrintWords
theorem btn (s:ByteArray) (i:Nat) (h:i < s.size):bt s (i:Int)=(s[i].toNat:Int):=by
 unfold bt
 rw [dif_pos (by simpa using h)]
 simp
section
variable (s:ByteArray) (far tx:Bool) (lb:ByteArray)
theorem let_f:∀ c:UInt8,rzisLetter.f (c.toNat:Int)=some (isLet c):=u8_all _ (by decide +kernel)
theorem rms (bad ok:Bool) (i:Int):rzreader_must.f s i bad far tx lb ok=some (s,i,bad || !ok,far,tx,lb):=by
 unfold rzreader_must.f
 cases bad <;> rfl
theorem u64f_ {n:Int} (h0:0≤n) (h1:n < 18446744073709551616):IntKind.u64.wrap n=n:=IntWalk.u64_in n ⟨h0,by omega⟩
end
section
variable (s:ByteArray) (hs:s.size≤1000000) (far tx:Bool) (lb:ByteArray)
include hs
theorem rbl_l (bad:Bool):∀ (d i k:Nat),i+d=s.size→d < k→rzreader_blanks.l0 k s (i:Int) bad far tx lb=some (s,(runB isBl s i:Int),bad,far,tx,lb)
 | 0,i,k,h1,h2=>by
  obtain ⟨k,rfl⟩:∃ m,k=m+1:=⟨k - 1,by omega⟩
  rw [rzreader_blanks.l0,if_neg (by omega),runB_end _ _ _ (by omega)]
 | d+1,i,k,h1,h2=>by
  obtain ⟨k,rfl⟩:∃ m,k=m+1:=⟨k - 1,by omega⟩
  have hi:i < s.size:=by omega
  have ih:=rbl_l bad d (i+1) k (by omega) (by omega)
  rw [rzreader_blanks.l0,if_pos (by omega),if_pos (by omega),btn s i hi,wrap_succ (by omega),ih]
  have hb:=isBl_eq s[i]
  cases hc:isBl s[i] with
  | true =>
   rw [runB_in _ _ _ hi hc]
   rw [hc] at hb
   by_cases c1:(s[i].toNat:Int)=32
   ·rw [if_pos c1]
   ·rw [if_neg c1]
    by_cases c2:(s[i].toNat:Int)=9
    ·rw [if_pos c2]
    ·exfalso
     rw [decide_eq_false (by omega),decide_eq_false (by omega)] at hb
     cases hb
  | false =>
   rw [runB_out _ _ _ hi hc]
   rw [hc] at hb
   have hb:=hb.symm
   rw [Bool.or_eq_false_iff] at hb
   have c1:=of_decide_eq_false hb.1
   have c2:=of_decide_eq_false hb.2
   rw [if_neg (by omega),if_neg (by omega)]
theorem rbl (bad:Bool) (i k:Nat) (hi:i≤s.size) (hk:s.size < k):rzreader_blanks.f k s (i:Int) bad far tx lb=some (s,(runB isBl s i:Int),bad,far,tx,lb) :=
 rbl_l s hs far tx lb bad (s.size - i) i k (by omega) (by omega)
theorem rwd_l (bad:Bool) (a:Nat):∀ (d i k:Nat),i+d=s.size→d < k→a≤i→rzreader_word.l0 k (a:Int) s (i:Int) bad far tx lb=some (s.extract a (runB isWd s i),s,(runB isWd s i:Int),bad,far,tx,lb)
 | 0,i,k,h1,h2,h3=>by
  obtain ⟨k,rfl⟩:∃ m,k=m+1:=⟨k - 1,by omega⟩
  rw [rzreader_word.l0,if_neg (by omega),if_pos (by omega),if_pos (by omega),if_pos (by omega),runB_end _ _ _ (by omega),Int.toNat_natCast,Int.toNat_natCast]
 | d+1,i,k,h1,h2,h3=>by
  obtain ⟨k,rfl⟩:∃ m,k=m+1:=⟨k - 1,by omega⟩
  have hi:i < s.size:=by omega
  have ih:=rwd_l bad a d (i+1) k (by omega) (by omega) (by omega)
  rw [rzreader_word.l0,if_pos (by omega),if_pos (by omega),btn s i hi,wrap_succ (by omega),ih,let_f,Option.bind_some,if_pos (show (0:Int)≤(a:Int) by omega),if_pos (show (a:Int)≤(i:Int) by omega),if_pos (show (i:Int)≤(s.size:Int) by omega),Int.toNat_natCast,Int.toNat_natCast]
  have hd:=digI_eq s[i]
  unfold digI at hd
  cases hl:isLet s[i] with
  | true =>
   rw [if_pos rfl,runB_in _ _ _ hi (by unfold isWd;rw [hl];rfl)]
  | false =>
   rw [if_neg (by decide)]
   cases hg:isDig s[i] with
   | true =>
    rw [hg,Bool.and_eq_true] at hd
    rw [if_pos (of_decide_eq_true hd.1),if_pos (of_decide_eq_true hd.2),runB_in _ _ _ hi (by unfold isWd;rw [hl,hg];rfl)]
   | false =>
    rw [hg] at hd
    rw [runB_out _ _ _ hi (by unfold isWd;rw [hl,hg];rfl)]
    by_cases c1:(s[i].toNat:Int)≥48
    ·rw [if_pos c1,if_neg (fun c2=>by rw [decide_eq_true c1,decide_eq_true c2] at hd;cases hd)]
    ·rw [if_neg c1]
theorem rwd (bad:Bool) (i k:Nat) (hi:i≤s.size) (hk:s.size < k):rzreader_word.f k s (i:Int) bad far tx lb=some (s.extract i (runB isWd s i),s,(runB isWd s i:Int),bad,far,tx,lb) :=
 rwd_l s hs far tx lb bad i (s.size - i) i k (by omega) (by omega) (Nat.le_refl _)
def hitS (s:ByteArray) (i c:Nat):Bool:=if h:i < s.size then s[i].toNat == c else false
theorem rnx (bad:Bool) (i c:Nat):rzreader_next.f s (i:Int) bad far tx lb (c:Int)=some (hitS s i c,s,((if hitS s i c=true then i+1 else i:Nat):Int),bad,far,tx,lb):=by
 unfold rzreader_next.f hitS
 by_cases h:i < s.size
 ·rw [if_pos (by omega),if_pos (by omega),btn s i h,dif_pos h]
  by_cases e:s[i].toNat=c
  ·rw [if_pos (by omega),wrap_succ (by omega),beq_iff_eq.2 e,if_pos rfl]
  ·rw [if_neg (by omega),beq_eq_false_iff_ne.2 e,if_neg (by decide)]
 ·rw [if_neg (by omega),dif_neg h,if_neg (by decide)]
theorem rcm (bad:Bool) (i k:Nat) (hi:i≤s.size) (hk:s.size < k):rzreader_comma.f k s (i:Int) bad far tx lb =
  some (s,(runB isBl s (if hitS s (runB isBl s i) 44=true then runB isBl s i+1 else runB isBl s i):Int),bad || !hitS s (runB isBl s i) 44,far,tx,lb):=by
 have hr:=runB_le isBl s i hi
 have h2:(if hitS s (runB isBl s i) 44=true then runB isBl s i+1 else runB isBl s i)≤s.size:=by
  by_cases h:hitS s (runB isBl s i) 44=true
  ·rw [if_pos h]
   unfold hitS at h
   split at h
   ·omega
   ·cases h
  ·rw [if_neg h];exact hr.2
 unfold rzreader_comma.f
 rw [rbl s hs far tx lb bad i k hi hk,Option.bind_some]
 simp only
 rw [show (44:Int)=((44:Nat):Int) from rfl,rnx s hs far tx lb bad,Option.bind_some]
 simp only
 rw [rms,Option.bind_some]
 simp only
 rw [rbl s hs far tx lb _ _ k h2 hk,Option.bind_some]
def valD (n:Nat) (ds:List UInt8):Nat:=ds.foldl (fun a c=>10 * a+(c.toNat - 48)) n
end
def dgs (s:ByteArray) (i:Nat):List UInt8:=(s.data.toList.drop i).takeWhile isDig
theorem dgs_len (s:ByteArray) (i:Nat):runB isDig s i=i+(dgs s i).length:=rfl
theorem dgs_dig (s:ByteArray) (i:Nat):∀ c∈dgs s i,isDig c=true:=fun c hc=>by
 have:=List.all_takeWhile (p:=isDig) (l:=s.data.toList.drop i)
 exact List.all_eq_true.1 this c hc
theorem drop_at (s:ByteArray) (i:Nat) (h:i < s.size):s.data.toList.drop i=s[i] :: s.data.toList.drop (i+1):=by
 rw [List.drop_eq_getElem_cons (by rw [sz_list];exact h),Array.getElem_toList]
 rfl
theorem dgs_in (s:ByteArray) (i:Nat) (h:i < s.size) (hd:isDig s[i]=true):dgs s i=s[i] :: dgs s (i+1):=by
 unfold dgs
 rw [drop_at s i h,List.takeWhile_cons,if_pos hd]
theorem dgs_out (s:ByteArray) (i:Nat) (h:i < s.size) (hd:isDig s[i]=false):dgs s i=[]:=by
 unfold dgs
 rw [drop_at s i h,List.takeWhile_cons,if_neg (by rw [hd];decide)]
theorem dgs_end (s:ByteArray) (i:Nat) (h:s.size≤i):dgs s i=[]:=by
 unfold dgs
 rw [List.drop_eq_nil_of_le (by rw [sz_list];exact h)]
 rfl
theorem dig_val {c:UInt8} (h:isDig c=true):48≤c.toNat∧c.toNat≤57:=by
 simp only [isDig,Bool.and_eq_true,decide_eq_true_eq] at h
 exact ⟨UInt8.le_iff_toNat_le.1 h.1,UInt8.le_iff_toNat_le.1 h.2⟩
theorem pow_le19 {j:Nat} (h:j≤19):10 ^ j≤10000000000000000000:=Nat.pow_le_pow_right (by decide) h
section
variable (s:ByteArray) (hs:s.size≤1000000) (far tx:Bool) (lb:ByteArray)
include hs
theorem rdg_l (bad:Bool) (a:Nat):∀ (d i k n:Nat),i+d=s.size→a≤i→2 * d+2 < k→(i - a≤19→n < 10 ^ (i - a))→n < 10000000000000000000 →
  ∃ n':Nat,rzreader_digits.l0 k (a:Int) (n:Int) s (i:Int) bad far tx lb=some ((n':Int),s,(runB isDig s i:Int),bad || !(decide (a < runB isDig s i) && decide (runB isDig s i - a≤19)),far,tx,lb)∧(runB isDig s i - a≤19→n'=valD n (dgs s i))∧n' < 10000000000000000000:=by
 intro d
 have stop:∀ (i k n:Nat),a≤i→i≤s.size→n < 10000000000000000000→runB isDig s i=i→dgs s i=[] →
   ∃ n':Nat,rzreader_digits.j1 (k+1) (a:Int) (n:Int) false s (i:Int) bad far tx lb=some ((n':Int),s,(runB isDig s i:Int),bad || !(decide (a < runB isDig s i) && decide (runB isDig s i - a≤19)),far,tx,lb)∧(runB isDig s i - a≤19→n'=valD n (dgs s i))∧n' < 10000000000000000000:=by
  intro i k n h1 h2 h3 h4 h5
  refine ⟨n,?_,fun _=>by rw [h5];rfl,h3⟩
  rw [rzreader_digits.j1,if_neg (by decide),h4]
  by_cases c:(i:Int) > (a:Int)
  ·rw [if_pos c,rms,Option.bind_some]
   simp only
   have e:decide (wrap64 ((i:Int) - (a:Int))≤19)=decide (i - a≤19):=by
    rw [decide_eq_decide]
    simp only [wrap64]
    omega
   rw [e,decide_eq_true (show a < i by omega),Bool.true_and]
  ·rw [if_neg c,rms,Option.bind_some]
   simp only
   rw [decide_eq_false (show ¬ a < i by omega),Bool.false_and]
 induction d with
 | zero =>
  intro i k n h1 h2 h3 h4 h5
  obtain ⟨k,rfl⟩:∃ m,k=m+1+1:=⟨k - 2,by omega⟩
  rw [rzreader_digits.l0,if_neg (by omega)]
  exact stop i k n h2 (by omega) h5 (runB_end _ _ _ (by omega)) (dgs_end s i (by omega))
 | succ d ih =>
  intro i k n h1 h2 h3 h4 h5
  obtain ⟨k,rfl⟩:∃ m,k=m+1+1:=⟨k - 2,by omega⟩
  have hi:i < s.size:=by omega
  have hd:=digI_eq s[i]
  unfold digI at hd
  rw [rzreader_digits.l0,if_pos (by omega),if_pos (by omega),btn s i hi]
  cases hg:isDig s[i] with
  | false =>
   rw [hg] at hd
   have st:=stop i k n h2 (by omega) h5 (runB_out _ _ _ hi hg) (dgs_out s i hi hg)
   by_cases c1:(s[i].toNat:Int)≥48
   ·rw [if_pos c1]
    have c2:¬ (s[i].toNat:Int)≤57:=fun c2=>by rw [decide_eq_true c1,decide_eq_true c2] at hd;cases hd
    rw [decide_eq_false c2]
    exact st
   ·rw [if_neg c1]
    exact st
  | true =>
   obtain ⟨v1,v2⟩:=dig_val hg
   rw [if_pos (by omega),decide_eq_true (by omega),rzreader_digits.j1,if_pos rfl,runB_in _ _ _ hi hg,dgs_in s i hi hg,wrap_succ (by omega),btn s i hi]
   have hle:=(runB_le isDig s (i+1) (by omega)).1
   by_cases c:i - a < 19
   ·have hp:=pow_le19 (show i - a+1≤19 by omega)
    have hn:=h4 (by omega)
    rw [Nat.pow_succ] at hp
    rw [if_pos (by simp only [wrap64];omega),if_pos (by omega),if_pos (by omega)]
    have e:IntKind.u64.wrap (IntKind.u64.wrap (10 * (n:Int))+((s[i].toNat:Int) - 48) % 256)=((10 * n+(s[i].toNat - 48):Nat):Int):=by
     rw [u64f_ (n:=10 * (n:Int)) (by omega) (by omega),u64f_ (by omega) (by omega)]
     omega
    rw [e]
    exact ih (i+1) k (10 * n+(s[i].toNat - 48)) (by omega) (by omega) (by omega) (fun _=>by
     rw [show i+1 - a=(i - a)+1 by omega,Nat.pow_succ];omega) (by omega)
   ·rw [if_neg (by simp only [wrap64];omega)]
    obtain ⟨n',g1,g2,g3⟩:=ih (i+1) k n (by omega) (by omega) (by omega) (fun h=>by omega) h5
    exact ⟨n',g1,fun h=>by omega,g3⟩
theorem rdg (bad:Bool) (i k:Nat) (hi:i≤s.size) (hk:2 * s.size+2 < k) :
  ∃ n':Nat,rzreader_digits.f k s (i:Int) bad far tx lb=some ((n':Int),s,(runB isDig s i:Int),bad || !(decide (0 < (dgs s i).length) && decide ((dgs s i).length≤19)),far,tx,lb)∧((dgs s i).length≤19→n'=valD 0 (dgs s i))∧n' < 10000000000000000000:=by
 obtain ⟨n',g1,g2,g3⟩:=rdg_l s hs far tx lb bad i (s.size - i) i k 0 (by omega) (Nat.le_refl _) (by omega) (fun _=>by simp) (by decide)
 have e:=dgs_len s i
 refine ⟨n',?_,fun h=>g2 (by omega),g3⟩
 unfold rzreader_digits.f
 have g1:rzreader_digits.l0 k (i:Int) 0 s (i:Int) bad far tx lb=_:=g1
 rw [g1]
 have e1:decide (i < runB isDig s i)=decide (0 < (dgs s i).length):=by rw [decide_eq_decide];omega
 have e2:decide (runB isDig s i - i≤19)=decide ((dgs s i).length≤19):=by rw [decide_eq_decide];omega
 rw [e1,e2]
end
theorem pM_val:∀ (ds:List UInt8) (acc j:Nat),(∀ c∈ds,isDig c=true)→acc < 10 ^ j→ds.length+j≤19→Lib.parseUintM 18446744073709551615 acc ds=.ok (valD acc ds)∧valD acc ds < 10 ^ (ds.length+j)
 | [],acc,j,_,h,_=>⟨rfl,by simpa [valD] using h⟩
 | c :: ds,acc,j,hd,h,hl=>by
  obtain ⟨v1,v2⟩:=dig_val (hd c List.mem_cons_self)
  have hp:=pow_le19 (show j+1≤19 by rw [List.length_cons] at hl;omega)
  rw [Nat.pow_succ] at hp
  obtain ⟨g1,g2⟩:=pM_val ds (acc * 10+(c.toNat - 48)) (j+1) (fun x hx=>hd x (List.mem_cons_of_mem _ hx)) (by rw [Nat.pow_succ];omega) (by rw [List.length_cons] at hl;omega)
  have e:valD acc (c :: ds)=valD (acc * 10+(c.toNat - 48)) ds:=by
   show valD (10 * acc+(c.toNat - 48)) ds=_
   rw [Nat.mul_comm]
  rw [e]
  refine ⟨?_,by rw [List.length_cons,show ds.length+1+j=ds.length+(j+1) by omega];exact g2⟩
  simp only [Lib.parseUintM]
  rw [if_pos ⟨v1,v2⟩,if_neg (by omega),if_neg (by omega),g1]
def numR (m:Bool) (ds:List UInt8):Option Int :=
 if m=true then (if valD 0 ds≤9223372036854775808 then some (-(valD 0 ds:Int)) else none) else (if valD 0 ds < 9223372036854775808 then some (valD 0 ds:Int) else none)
theorem pv_ds {ds:List UInt8} (h:∀ c∈ds,isDig c=true) (h0:0 < ds.length) (h19:ds.length≤19) (m:Bool) (b:ByteArray) (hb:b.data.toList=ds) :
  pv (if m=true then (⟨#[45]⟩:ByteArray) ++ b else b)=numR m ds:=by
 obtain ⟨g1,g2⟩:=pM_val ds 0 0 h (by decide) (by omega)
 have hu:Lib.parseUintB 64 ds=.ok (valD 0 ds):=by
  unfold Lib.parseUintB
  rw [if_neg (by intro e;rw [e] at h0;cases h0)]
  exact g1
 unfold numR pv
 cases m with
 | true =>
  rw [if_pos rfl,if_pos rfl]
  have e:((⟨#[45]⟩:ByteArray) ++ b).data.toList=45 :: ds:=by rw [← hb];simp [ByteArray.data_append]
  rw [e,Lib.parseIntB_minus,hu]
  simp only [Lib.signedC]
  by_cases c:valD 0 ds≤9223372036854775808
  ·rw [if_neg (by omega),if_pos c]
  ·rw [if_pos (by omega),if_neg c]
 | false =>
  rw [if_neg (by decide),if_neg (by decide),hb]
  cases ds with
  | nil=>cases h0
  | cons c r =>
   have hc:=dig_val (h c List.mem_cons_self)
   rw [Lib.parseIntB_plain 64 c r (by omega) (by omega),hu]
   simp only [Lib.signlessC]
   by_cases c2:valD 0 (c :: r) < 9223372036854775808
   ·rw [if_neg (by omega),if_pos c2]
   ·rw [if_pos (by omega),if_neg c2]
theorem dg_eq (l:L9) (hl:l.at_≤l.s.size) (m:Bool):l.dg m=if 0 < (dgs l.s l.at_).length then (if (dgs l.s l.at_).length≤19 then some (numR m (dgs l.s l.at_),l.go (runB isDig l.s l.at_)) else none) else none:=by
 have he:=dgs_len l.s l.at_
 have hr:=runB_le isDig l.s l.at_ hl
 have hS:l.dgS.data.toList=dgs l.s l.at_:=by
  have h:Cur l (dgs l.s l.at_ ++ (l.s.data.toList.drop l.at_).dropWhile isDig):=⟨(List.takeWhile_append_dropWhile).symm,hl⟩
  have:=h.word
  unfold L9.dgS L9.dgE
  rw [he]
  exact this
 have hsz:l.dgS.size=(dgs l.s l.at_).length:=by rw [← sz_list,hS]
 unfold L9.dg
 rw [hsz]
 by_cases c1:0 < (dgs l.s l.at_).length
 ·rw [if_pos c1,if_pos c1]
  by_cases c2:(dgs l.s l.at_).length≤19
  ·rw [if_pos c2,if_pos c2,pv_ds (dgs_dig _ _) c1 c2 m _ hS]
   rfl
  ·rw [if_neg c2,if_neg c2]
 ·rw [if_neg c1,if_neg c1]
def okS (m:Bool) (n:Nat):Bool:=match m with | true=>decide (n≤9223372036854775808) | false=>decide (n < 9223372036854775808)
theorem rsg (n:Nat) (hn:n < 10000000000000000000) (m:Bool):∃ v:Int,rzsigned.f (n:Int) m=some (v,okS m n)∧(okS m n=true→v=match m with | true=>-(n:Int) | false=>(n:Int)):=by
 unfold rzsigned.f okS
 cases m with
 | true =>
  rw [if_pos rfl]
  refine ⟨_,by rw [show decide ((n:Int)≤9223372036854775808)=decide (n≤9223372036854775808) by rw [decide_eq_decide];omega],fun h=>?_⟩
  have h:=of_decide_eq_true h
  simp only [wrap64]
  omega
 | false =>
  rw [if_neg (by decide)]
  refine ⟨_,by rw [show decide ((n:Int) < 9223372036854775808)=decide (n < 9223372036854775808) by rw [decide_eq_decide];omega],fun h=>?_⟩
  have h:=of_decide_eq_true h
  simp only [wrap64]
  omega
theorem hit_S (l:L9) (c:Nat):l.hit c=hitS l.s l.at_ c:=by
 unfold L9.hit L9.peek hitS
 by_cases h:l.at_ < l.s.size
 ·rw [dif_pos h,dif_pos h,decide_eq_true h];rfl
 ·rw [dif_neg h,dif_neg h,decide_eq_false h];rfl
theorem hitS_lt {s:ByteArray} {i c:Nat} (h:hitS s i c=true):i < s.size:=by
 unfold hitS at h
 split at h
 ·assumption
 ·cases h
section
variable (s:ByteArray) (hs:s.size≤1000000) (far tx:Bool) (lb:ByteArray)
include hs
theorem rsd_ (bad m:Bool) (i k:Nat) (hi:i≤s.size) (hk:2 * s.size+2 < k) :
  ∃ (n':Nat) (v:Int) (bd ok:Bool),rzreader_digits.f k s (i:Int) bad far tx lb=some ((n':Int),s,(runB isDig s i:Int),bad || bd,far,tx,lb)∧rzsigned.f (n':Int) m=some (v,ok) ∧
   (bd=!(decide (0 < (dgs s i).length∧(dgs s i).length≤19)))∧(bd=false→ok=(numR m (dgs s i)).isSome∧∀ x,numR m (dgs s i)=some x→v=x):=by
 obtain ⟨n',g1,g2,g3⟩:=rdg s hs far tx lb bad i k hi hk
 obtain ⟨v,e1,e2⟩:=rsg n' g3 m
 refine ⟨n',v,_,_,g1,e1,?_,fun hb=>?_⟩
 ·rw [Bool.decide_and]
 ·have hb:(decide (0 < (dgs s i).length) && decide ((dgs s i).length≤19))=true:=by
   revert hb
   cases (decide (0 < (dgs s i).length) && decide ((dgs s i).length≤19)) <;> intro h <;> first | rfl | cases h
  rw [Bool.and_eq_true] at hb
  have h19:=of_decide_eq_true hb.2
  have hn:=g2 h19
  subst hn
  unfold numR
  cases m with
  | true =>
   rw [if_pos rfl]
   by_cases c:valD 0 (dgs s i)≤9223372036854775808
   ·have ec:okS true (valD 0 (dgs s i))=true:=decide_eq_true c
    rw [if_pos c,ec]
    exact ⟨rfl,fun x hx=>by rw [e2 ec];exact Option.some.inj hx⟩
   ·have ec:okS true (valD 0 (dgs s i))=false:=decide_eq_false c
    rw [if_neg c,ec]
    exact ⟨rfl,fun x hx=>by cases hx⟩
  | false =>
   rw [if_neg (by decide)]
   by_cases c:valD 0 (dgs s i) < 9223372036854775808
   ·have ec:okS false (valD 0 (dgs s i))=true:=decide_eq_true c
    rw [if_pos c,ec]
    exact ⟨rfl,fun x hx=>by rw [e2 ec];exact Option.some.inj hx⟩
   ·have ec:okS false (valD 0 (dgs s i))=false:=decide_eq_false c
    rw [if_neg c,ec]
    exact ⟨rfl,fun x hx=>by cases hx⟩
end
theorem size_ext (s:ByteArray) (i e:Nat) (h:e≤s.size):(s.extract i e).size=e - i:=by
 rw [ByteArray.size_extract];omega
theorem bt_ext (s:ByteArray) (i e j:Nat) (h:i+j < e) (he:e≤s.size) (h2:i+j < s.size):bt (s.extract i e) (j:Int)=(s[i+j].toNat:Int):=by
 have hj:j < (s.extract i e).size:=by rw [size_ext s i e he];omega
 rw [btn _ j hj]
 congr 2
 rw [ByteArray.getElem_extract]
theorem peek_S (l:L9) (h:l.at_ < l.s.size):l.peek=l.s[l.at_].toNat:=by
 unfold L9.peek
 rw [dif_pos h]
theorem peek_E (l:L9) (h:l.s.size≤l.at_):l.peek=0:=by
 unfold L9.peek
 rw [dif_neg (by omega)]
section
variable (s:ByteArray) (hs:s.size≤1000000) (far tx:Bool) (lb:ByteArray)
include hs
theorem rrg (bad:Bool) (l:L9) (hl:l.s=s) (hi:l.at_≤s.size) (k:Nat) (hk:s.size < k) :
  ∃ (n:Int) (b:Bool),rzreader_register.f k s (l.at_:Int) bad far tx lb=some (n,s,(runB isWd s l.at_:Int),bad || b,far,tx,lb)∧(match l.rg with | some p=>b=false∧n=p.1∧p.2=l.go (runB isWd s l.at_) | none=>b=true):=by
 subst hl
 obtain ⟨i,ei⟩:∃ i,l.at_=i:=⟨_,rfl⟩
 have hr:=runB_le isWd l.s i (by omega)
 have hw:rzreader_word.f k l.s (i:Int) bad far tx lb=_:=rwd l.s hs far tx lb bad i k (by omega) hk
 have hsz:=size_ext l.s i (runB isWd l.s i) hr.2
 have hbad:∀ (n:Int),(match (none:Option (Int × L9)) with | some p=>true=false∧n=p.1∧p.2=l.go (runB isWd l.s i) | none=>true=true):=fun _=>rfl
 unfold rzreader_register.f
 rw [ei,hw,Option.bind_some]
 simp only
 rw [hsz]
 by_cases h1:l.hit 114=true
 ·have g1:=h1
  rw [hit_S,ei] at g1
  have i1:=hitS_lt g1
  have v1:l.s[i].toNat=114:=by
   unfold hitS at g1
   rw [dif_pos i1] at g1
   simpa using g1
  have w1:isWd l.s[i]=true:=by
   have key:∀ c:UInt8,c.toNat=114→isWd c=true:=by
    intro c hc
    have e:c=UInt8.ofNat 114:=by rw [← hc];simp
    rw [e];decide
   exact key _ v1
  have r1:=runB_in isWd l.s i i1 w1
  have q1:l.next.at_=i+1:=by show l.at_+1=i+1;omega
  by_cases h2:48≤l.next.peek∧l.next.peek≤55
  ·have i2:i+1 < l.s.size:=by
    refine Nat.lt_of_not_le fun h=>?_
    rw [peek_E l.next (by rw [q1];exact h)] at h2
    omega
   have v2:l.next.peek=l.s[i+1].toNat:=by
    have:=peek_S l.next (by rw [q1];exact i2)
    rw [this]
    show l.s[l.at_+1].toNat=_
    simp only [ei]
   rw [v2] at h2
   have w2:isWd l.s[i+1]=true:=by
    have hd:=digI_eq l.s[i+1]
    unfold digI at hd
    rw [decide_eq_true (by omega),decide_eq_true (by omega)] at hd
    unfold isWd
    rw [← hd];simp
   have r2:=runB_in isWd l.s (i+1) i2 w2
   have q2:l.next.next.at_=i+2:=by show l.at_+1+1=i+2;omega
   by_cases h3:wdI (l.next.next.peek:Int)=true
   ·have i3:i+2 < l.s.size:=by
     refine Nat.lt_of_not_le fun h=>?_
     rw [peek_E l.next.next (by rw [q2];exact h)] at h3
     exact absurd h3 (by decide)
    have v3:l.next.next.peek=l.s[i+2].toNat:=by
     have:=peek_S l.next.next (by rw [q2];exact i3)
     rw [this]
     show l.s[l.at_+1+1].toNat=_
     simp only [ei]
    rw [v3,wdI_eq] at h3
    have r3:=runB_in isWd l.s (i+2) i3 h3
    have hr3:=runB_le isWd l.s (i+2+1) (by omega)
    have hrg:l.rg=none:=by
     unfold L9.rg
     rw [if_pos h1,v2,if_pos h2,v3,wdI_eq,if_pos h3]
    have hE:runB isWd l.s i=runB isWd l.s (i+2+1):=by rw [r1,r2];exact r3
    rw [hrg,if_neg (by omega)]
    exact ⟨0,true,by rw [Bool.or_true],rfl⟩
   ·have r3:runB isWd l.s (i+2)=i+2:=by
     by_cases i3:i+2 < l.s.size
     ·have v3:l.next.next.peek=l.s[i+2].toNat:=by
       have:=peek_S l.next.next (by rw [q2];exact i3)
       rw [this]
       show l.s[l.at_+1+1].toNat=_
       simp only [ei]
      rw [v3,wdI_eq] at h3
      exact runB_out isWd l.s (i+2) i3 (Bool.eq_false_iff.2 h3)
     ·exact runB_end isWd l.s (i+2) (by omega)
    have he:runB isWd l.s i=i+2:=by rw [r1,r2,r3]
    have hrg:l.rg=some ((l.next.peek:Int) - 48,l.next.next):=by
     unfold L9.rg
     rw [if_pos h1,v2,if_pos h2,if_neg h3]
    have b0:bt (l.s.extract i (i+2)) 0=114:=by
     have:=bt_ext l.s i (i+2) 0 (by omega) (by omega) (by omega)
     rw [show ((0:Nat):Int)=0 from rfl] at this
     rw [this]
     simp only [Nat.add_zero]
     omega
    have b1:bt (l.s.extract i (i+2)) 1=(l.s[i+1].toNat:Int):=bt_ext l.s i (i+2) 1 (by omega) (by omega) (by omega)
    rw [hrg,he,if_pos (by omega),if_pos (by omega),b0,if_pos rfl,if_pos (by omega),b1,if_neg (by omega),if_neg (by omega)]
    refine ⟨_,false,by rw [Bool.or_false],rfl,?_,?_⟩
    ·simp only
     rw [v2]
     omega
    ·show l.next.next=l.go (i+2)
     show l.go (l.at_+1+1)=l.go (i+2)
     rw [ei]
  ·have hrg:l.rg=none:=by
    unfold L9.rg
    rw [if_pos h1,if_neg h2]
   rw [hrg]
   by_cases c:((runB isWd l.s i - i:Nat):Int)=2
   ·have i2:i+1 < l.s.size:=by omega
    have b0:bt (l.s.extract i (runB isWd l.s i)) 0=114:=by
     have:=bt_ext l.s i (runB isWd l.s i) 0 (by omega) hr.2 (by omega)
     rw [show ((0:Nat):Int)=0 from rfl] at this
     rw [this]
     simp only [Nat.add_zero]
     omega
    have b1:bt (l.s.extract i (runB isWd l.s i)) 1=(l.s[i+1].toNat:Int):=bt_ext l.s i (runB isWd l.s i) 1 (by omega) hr.2 (by omega)
    have v2:l.next.peek=l.s[i+1].toNat:=by
     have:=peek_S l.next (by rw [q1];exact i2)
     rw [this]
     show l.s[l.at_+1].toNat=_
     simp only [ei]
    rw [v2] at h2
    rw [if_pos c,if_pos (by omega),b0,if_pos rfl,if_pos (by omega),b1]
    by_cases c2:(l.s[i+1].toNat:Int) < 48
    ·rw [if_pos c2]
     exact ⟨0,true,by rw [Bool.or_true],rfl⟩
    ·rw [if_neg c2,if_pos (by omega)]
     exact ⟨0,true,by rw [Bool.or_true],rfl⟩
   ·rw [if_neg c]
    exact ⟨0,true,by rw [Bool.or_true],rfl⟩
 ·have hrg:l.rg=none:=by
   unfold L9.rg
   rw [if_neg h1]
  rw [hrg]
  by_cases c:((runB isWd l.s i - i:Nat):Int)=2
  ·have i1:i < l.s.size:=by omega
   have b0:bt (l.s.extract i (runB isWd l.s i)) 0=(l.s[i].toNat:Int):=by
    have:=bt_ext l.s i (runB isWd l.s i) 0 (by omega) hr.2 (by omega)
    rw [show ((0:Nat):Int)=0 from rfl] at this
    rw [this]
    simp only [Nat.add_zero]
   have v1:l.s[i].toNat≠114:=by
    intro e
    refine h1 ?_
    rw [hit_S,ei]
    unfold hitS
    rw [dif_pos i1,e]
    rfl
   rw [if_pos c,if_pos (by omega),b0,if_neg (by omega)]
   exact ⟨0,true,by rw [Bool.or_true],rfl⟩
  ·rw [if_neg c]
   exact ⟨0,true,by rw [Bool.or_true],rfl⟩
omit hs in
theorem tk_at (l:L9) (v:Bool):(l.tk v).at_=if v=true then l.at_+1 else l.at_:=by cases v <;> rfl
omit hs in
theorem tk_s (l:L9) (v:Bool):(l.tk v).s=l.s:=by cases v <;> rfl
theorem rnm (bad:Bool) (l:L9) (hl:l.s=s) (hi:l.at_≤s.size) (k:Nat) (hk:2 * s.size+2 < k) :
  ∃ (n:Int) (b:Bool) (e:Nat),rzreader_number.f k s (l.at_:Int) bad far tx lb=some (n,s,(e:Int),bad || b,far,tx,lb)∧e≤s.size∧l.at_≤e ∧
   (b=false→l.num=if fitsM (formM l.op) n=true then some { l.go e with imm:=n } else none)∧(b=true→l.num=none):=by
 subst hl
 have hx:=rnx l.s hs far tx lb bad l.at_ 45
 unfold rzreader_number.f
 rw [show (45:Int)=((45:Nat):Int) from rfl,hx,Option.bind_some]
 simp only
 obtain ⟨m,em⟩:∃ m,hitS l.s l.at_ 45=m:=⟨_,rfl⟩
 have hit:l.hit 45=m:=by rw [hit_S];exact em
 rw [em]
 have h1:(if m=true then l.at_+1 else l.at_)≤l.s.size:=by
  by_cases c:m=true
  ·rw [if_pos c];have:=hitS_lt (em.trans c);omega
  ·rw [if_neg c];exact hi
 obtain ⟨n',v,bd,ok,g1,g2,g3,g4⟩:=rsd_ l.s hs far tx lb bad m (if m=true then l.at_+1 else l.at_) k h1 hk
 rw [g1,Option.bind_some]
 simp only
 rw [g2,Option.bind_some]
 simp only
 rw [rms,Option.bind_some]
 have hr:=runB_le isDig l.s _ h1
 have hge:l.at_≤(if m=true then l.at_+1 else l.at_):=by split <;> omega
 have hat:=tk_at l m
 have hss:=tk_s l m
 have hdg:=dg_eq (l.tk m) (by rw [hat,hss];exact h1) m
 rw [hat,hss] at hdg
 have hnum:l.num=L9.setN (formM l.op) ((l.tk m).dg m):=by unfold L9.num;rw [hit]
 refine ⟨v,bd || !ok,runB isDig l.s (if m=true then l.at_+1 else l.at_),by rw [Bool.or_assoc],hr.2,Nat.le_trans hge hr.1,?_,?_⟩
 ·intro hb
  rw [Bool.or_eq_false_iff] at hb
  obtain ⟨hb1,hb2⟩:=hb
  obtain ⟨o1,o2⟩:=g4 hb1
  rw [hb1] at g3
  have hb3:decide (0 < (dgs l.s (if m=true then l.at_+1 else l.at_)).length∧(dgs l.s (if m=true then l.at_+1 else l.at_)).length≤19)=true:=by
   cases hq:decide (0 < (dgs l.s (if m=true then l.at_+1 else l.at_)).length∧(dgs l.s (if m=true then l.at_+1 else l.at_)).length≤19) with
   | true=>rfl
   | false=>rw [hq] at g3;cases g3
  have hb3:=of_decide_eq_true hb3
  have ok1:ok=true:=by cases ok with | true=>rfl | false=>cases hb2
  rw [ok1] at o1
  cases hn:numR m (dgs l.s (if m=true then l.at_+1 else l.at_)) with
  | none=>rw [hn] at o1;cases o1
  | some x =>
   have ex:=o2 x hn
   subst ex
   rw [hnum,hdg,if_pos hb3.1,if_pos hb3.2,hn]
   unfold L9.setN
   simp only
   have:∀ e:Nat,(l.tk m).go e=l.go e:=fun e=>by cases m <;> rfl
   rw [this]
 ·intro hb
  rw [hnum,hdg]
  by_cases c1:0 < (dgs l.s (if m=true then l.at_+1 else l.at_)).length
  ·rw [if_pos c1]
   by_cases c2:(dgs l.s (if m=true then l.at_+1 else l.at_)).length≤19
   ·rw [if_pos c2]
    rw [decide_eq_true (⟨c1,c2⟩:_∧_)] at g3
    have g3:bd=false:=g3
    obtain ⟨o1,o2⟩:=g4 g3
    rw [g3,Bool.false_or] at hb
    have ok0:ok=false:=by cases ok with | false=>rfl | true=>cases hb
    rw [ok0] at o1
    cases hn:numR m (dgs l.s (if m=true then l.at_+1 else l.at_)) with
    | none=>rfl
    | some x=>rw [hn] at o1;cases o1
   ·rw [if_neg c2];rfl
  ·rw [if_neg c1];rfl
end
theorem bt_hit {s:ByteArray} {i:Nat} (h:i < s.size) (c:Nat):(bt s (i:Int) == (c:Int))=hitS s i c:=by
 unfold hitS
 rw [btn s i h,dif_pos h]
 by_cases e:s[i].toNat=c
 ·rw [beq_iff_eq.2 e,beq_iff_eq.2 (by omega)]
 ·rw [beq_eq_false_iff_ne.2 e,beq_eq_false_iff_ne.2 (by omega)]
theorem hit_lt' {s:ByteArray} {i c:Nat} (h:hitS s i c=true):(if hitS s i c=true then i+1 else i)≤s.size:=by
 rw [if_pos h];exact hitS_lt h
theorem hit_le {s:ByteArray} {i:Nat} (hi:i≤s.size) (c:Nat):(if hitS s i c=true then i+1 else i)≤s.size:=by
 by_cases h:hitS s i c=true
 ·exact hit_lt' h
 ·rw [if_neg h];exact hi
theorem blank_not {s:ByteArray} {i:Nat} {c:Nat} (h:hitS s i c=true) (hc:c≠32∧c≠9):runB isBl s i=i:=by
 have hi:=hitS_lt h
 unfold hitS at h
 rw [dif_pos hi] at h
 have e:s[i].toNat=c:=by simpa using h
 refine runB_out _ _ _ hi ?_
 rw [isBl_eq,e,decide_eq_false hc.1,decide_eq_false hc.2];rfl
theorem dig_not {s:ByteArray} {i:Nat} {c:Nat} (h:hitS s i c=true) (hc:c < 48∨57 < c):dgs s i=[]:=by
 have hi:=hitS_lt h
 unfold hitS at h
 rw [dif_pos hi] at h
 have e:s[i].toNat=c:=by simpa using h
 refine dgs_out s i hi ?_
 have hd:=digI_eq s[i]
 unfold digI at hd
 rw [← hd,e]
 rcases hc with hc | hc
 ·rw [decide_eq_false (by omega)];rfl
 ·rw [decide_eq_false (show ¬ (c:Int)≤57 by omega),Bool.and_false]
theorem bd_dec {bd:Bool} {p:Prop} [Decidable p] (h:bd=!decide p):(bd=false→p)∧(bd=true→¬ p):=by
 subst h
 refine ⟨fun h=>?_,fun h=>?_⟩
 ·by_cases c:p
  ·exact c
  ·rw [decide_eq_false c] at h;cases h
 ·intro c
  rw [decide_eq_true c] at h;cases h
section
variable (s:ByteArray) (hs:s.size≤1000000) (far tx:Bool) (lb:ByteArray)
include hs
theorem rad2 (bad:Bool) (l:L9) (hl:l.s=s) (hi:l.at_≤s.size) (hz:l.imm=0) (hf0:fitsM (formM l.op) 0=true) (b:Int) (k:Nat) (hk:2 * s.size+2 < k) :
  ∃ (n:Int) (bd:Bool) (e:Nat),(if ((l.at_:Nat):Int) < (s.size:Int) then (if 0≤((l.at_:Nat):Int) then (if bt s ((l.at_:Nat):Int)=43 then (rzreader_address.j0 (k+1) b 0 true s ((l.at_:Nat):Int) bad far tx lb) else (rzreader_address.j0 (k+1) b 0 (bt s ((l.at_:Nat):Int) == 45) s ((l.at_:Nat):Int) bad far tx lb)) else none) else (rzreader_address.j0 (k+1) b 0 false s ((l.at_:Nat):Int) bad far tx lb))=some (b,n,s,(e:Int),bad || bd,far,tx,lb)∧e≤s.size ∧
   (bd=false→l.addr2=if fitsM (formM l.op) n=true then some { l.go e with imm:=n } else none)∧(bd=true→l.addr2=none):=by
 subst hl
 obtain ⟨p,ep⟩:∃ p,hitS l.s l.at_ 43=p:=⟨_,rfl⟩
 obtain ⟨m,em⟩:∃ m,hitS l.s l.at_ 45=m:=⟨_,rfl⟩
 have hp:l.hit 43=p:=by rw [hit_S];exact ep
 have hm:l.hit 45=m:=by rw [hit_S];exact em
 have none_:p=false→m=false→∃ (n:Int) (bd:Bool) (e:Nat),rzreader_address.j0 (k+1) b 0 false l.s (l.at_:Int) bad far tx lb=some (b,n,l.s,(e:Int),bad || bd,far,tx,lb)∧e≤l.s.size ∧
   (bd=false→l.addr2=if fitsM (formM l.op) n=true then some { l.go e with imm:=n } else none)∧(bd=true→l.addr2=none):=by
  intro h1 h2
  have ha:l.addr2=l.close:=by
   unfold L9.addr2
   rw [hp,h1,show l.tk false=l from rfl,hm,h2,if_neg (by decide),if_neg (by decide)]
   rfl
  rw [rzreader_address.j0,if_neg (by decide),show (93:Int)=((93:Nat):Int) from rfl,rnx l.s hs far tx lb bad l.at_ 93,Option.bind_some]
  simp only
  rw [rms,Option.bind_some]
  refine ⟨0,!hitS l.s l.at_ 93,_,rfl,hit_le hi 93,fun hb=>?_,fun hb=>?_⟩
  ·have hh:hitS l.s l.at_ 93=true:=by cases hq:hitS l.s l.at_ 93 with | true=>rfl | false=>rw [hq] at hb;cases hb
   rw [ha,if_pos hf0,hh,if_pos rfl]
   unfold L9.close
   rw [hit_S,hh,if_pos rfl]
   congr 1
   show L9.mk _ _ _ _ _ _ _ _ _=L9.mk _ _ _ _ _ _ _ _ _
   rw [hz]
   rfl
  ·have hh:hitS l.s l.at_ 93=false:=by cases hq:hitS l.s l.at_ 93 with | false=>rfl | true=>rw [hq] at hb;cases hb
   rw [ha]
   unfold L9.close
   rw [hit_S,hh,if_neg (by decide)]
 have sign_:∀ (m0:Bool),(l.hit 43 || (l.tk (l.hit 43)).hit 45)=true→(m0=(l.tk (l.hit 43)).hit 45∨((l.hit 43 && (l.tk (l.hit 43)).hit 45)=true∧m0=false∧hitS l.s (l.at_+1) 45=true))→l.at_ < l.s.size→(bt l.s (l.at_:Int) == 45)=m0→(m0=true∨p=true)→((l.hit 43 && (l.tk (l.hit 43)).hit 45)=false→((l.tk (l.hit 43)).tk m0).at_=l.at_+1) →
   ∃ (n:Int) (bd:Bool) (e:Nat),rzreader_address.j0 (k+1) b 0 true l.s (l.at_:Int) bad far tx lb=some (b,n,l.s,(e:Int),bad || bd,far,tx,lb)∧e≤l.s.size ∧
   (bd=false→l.addr2=if fitsM (formM l.op) n=true then some { l.go e with imm:=n } else none)∧(bd=true→l.addr2=none):=by
  intro m0 hsg hm0 hlt hb0 hor hat
  have hr1:=runB_le isBl l.s (l.at_+1) (by omega)
  obtain ⟨i1,ei1⟩:∃ i1,runB isBl l.s (l.at_+1)=i1:=⟨_,rfl⟩
  rw [ei1] at hr1
  have hr2:=runB_le isDig l.s i1 hr1.2
  obtain ⟨i2,ei2⟩:∃ i2,runB isDig l.s i1=i2:=⟨_,rfl⟩
  rw [ei2] at hr2
  have hr3:=runB_le isBl l.s i2 hr2.2
  obtain ⟨i3,ei3⟩:∃ i3,runB isBl l.s i2=i3:=⟨_,rfl⟩
  rw [ei3] at hr3
  obtain ⟨n',v,bd,ok,g1,g2,g3,g4⟩:=rsd_ l.s hs far tx lb bad m0 i1 k hr1.2 hk
  rw [rzreader_address.j0,if_pos rfl,if_pos (by omega),if_pos (by omega),wrap_succ (by omega),rbl l.s hs far tx lb bad (l.at_+1) k (by omega) (by omega),Option.bind_some]
  simp only
  rw [ei1,g1,Option.bind_some]
  simp only
  rw [hb0,g2,Option.bind_some]
  simp only
  rw [rms,Option.bind_some]
  simp only
  rw [ei2,rbl l.s hs far tx lb _ i2 k hr2.2 (by omega),Option.bind_some]
  simp only
  rw [ei3,show (93:Int)=((93:Nat):Int) from rfl,rnx l.s hs far tx lb _ i3 93,Option.bind_some]
  simp only
  rw [rms,Option.bind_some]
  refine ⟨v,(bd || !ok) || !hitS l.s i3 93,_,by rw [Bool.or_assoc,Bool.or_assoc,Bool.or_assoc],hit_le hr3.2 93,?_,?_⟩
  all_goals obtain ⟨d1,d2⟩:=bd_dec g3
  all_goals by_cases hpm:(l.hit 43 && (l.tk (l.hit 43)).hit 45)=true
  ·intro hb
   exfalso
   rw [Bool.or_eq_false_iff,Bool.or_eq_false_iff] at hb
   have hnd:=d1 hb.1.1
   have h45:hitS l.s (l.at_+1) 45=true:=by
    rw [Bool.and_eq_true] at hpm
    have h2:=hpm.2
    rw [hpm.1,hit_S] at h2
    exact h2
   rw [blank_not h45 (by decide)] at ei1
   rw [← ei1,dig_not h45 (by decide)] at hnd
   exact absurd hnd.1 (by decide)
  ·intro hb
   have hpm:=Bool.eq_false_iff.2 hpm
   rw [Bool.or_eq_false_iff,Bool.or_eq_false_iff] at hb
   obtain ⟨⟨hb1,hb2⟩,hb3⟩:=hb
   have hnd:=d1 hb1
   obtain ⟨o1,o2⟩:=g4 hb1
   have ok1:ok=true:=by cases ok with | true=>rfl | false=>cases hb2
   have h93:hitS l.s i3 93=true:=by cases hq:hitS l.s i3 93 with | true=>rfl | false=>rw [hq] at hb3;cases hb3
   have hmm:m0=(l.tk (l.hit 43)).hit 45:=by
    rcases hm0 with h | ⟨h,_⟩
    ·exact h
    ·rw [hpm] at h;cases h
   have hat:=hat hpm
   have hss:((l.tk (l.hit 43)).tk m0).s=l.s:=by rw [tk_s,tk_s]
   have hops:((l.tk (l.hit 43)).tk m0).op=l.op:=by cases l.hit 43 <;> cases m0 <;> rfl
   have hgo:∀ e:Nat,((l.tk (l.hit 43)).tk m0).go e=l.go e:=fun e=>by cases l.hit 43 <;> cases m0 <;> rfl
   have hsk:((l.tk (l.hit 43)).tk m0).sk=l.go i1:=by
    unfold L9.sk
    rw [hss,hat,ei1,hgo]
   have hdg:=dg_eq (l.go i1) hr1.2 m0
   have hdg:(l.go i1).dg m0=some (numR m0 (dgs l.s i1),(l.go i1).go i2):=by
    rw [hdg]
    show (if 0 < (dgs l.s i1).length then (if (dgs l.s i1).length≤19 then some (numR m0 (dgs l.s i1),(l.go i1).go (runB isDig l.s i1)) else none) else none)=_
    rw [if_pos hnd.1,if_pos hnd.2,ei2]
   have hA:l.addr2=(match L9.setN (formM l.op) (some (numR m0 (dgs l.s i1),(l.go i1).go i2)) with | none=>none | some l6=>l6.sk.close):=by
    unfold L9.addr2
    rw [hpm,if_neg (by decide),hsg,if_pos rfl,← hmm,hops,hsk,hdg]
    rfl
   rw [ok1] at o1
   cases hn:numR m0 (dgs l.s i1) with
   | none=>rw [hn] at o1;cases o1
   | some x =>
    have ex:=o2 x hn
    subst ex
    rw [hA,hn]
    unfold L9.setN
    simp only
    by_cases hfit:fitsM (formM l.op) v=true
    ·rw [if_pos hfit,if_pos hfit]
     simp only
     have hsk2:({ (l.go i1).go i2 with imm:=v }:L9).sk={ l.go i3 with imm:=v }:=by
      unfold L9.sk
      show L9.go _ (runB isBl l.s i2)=_
      rw [ei3];rfl
     have hc:({ l.go i3 with imm:=v }:L9).close=some { l.go (i3+1) with imm:=v }:=by
      unfold L9.close
      rw [hit_S]
      show (if hitS l.s i3 93=true then _ else none)=_
      rw [if_pos h93];rfl
     rw [hsk2,hc,h93,if_pos rfl]
    ·rw [if_neg hfit,if_neg hfit]
  ·intro _
   unfold L9.addr2
   rw [if_pos hpm]
  ·intro hb
   have hpm:=Bool.eq_false_iff.2 hpm
   have hmm:m0=(l.tk (l.hit 43)).hit 45:=by
    rcases hm0 with h | ⟨h,_⟩
    ·exact h
    ·rw [hpm] at h;cases h
   have hat:=hat hpm
   have hss:((l.tk (l.hit 43)).tk m0).s=l.s:=by rw [tk_s,tk_s]
   have hops:((l.tk (l.hit 43)).tk m0).op=l.op:=by cases l.hit 43 <;> cases m0 <;> rfl
   have hgo:∀ e:Nat,((l.tk (l.hit 43)).tk m0).go e=l.go e:=fun e=>by cases l.hit 43 <;> cases m0 <;> rfl
   have hsk:((l.tk (l.hit 43)).tk m0).sk=l.go i1:=by
    unfold L9.sk
    rw [hss,hat,ei1,hgo]
   have hdg:=dg_eq (l.go i1) hr1.2 m0
   have hdg:(l.go i1).dg m0=if 0 < (dgs l.s i1).length then (if (dgs l.s i1).length≤19 then some (numR m0 (dgs l.s i1),(l.go i1).go i2) else none) else none:=by
    rw [hdg,← ei2];rfl
   have hA:l.addr2=(match L9.setN (formM l.op) ((l.go i1).dg m0) with | none=>none | some l6=>l6.sk.close):=by
    unfold L9.addr2
    rw [hpm,if_neg (by decide),hsg,if_pos rfl,← hmm,hops,hsk]
    rfl
   rw [hA,hdg]
   by_cases hnd:0 < (dgs l.s i1).length∧(dgs l.s i1).length≤19
   ·rw [if_pos hnd.1,if_pos hnd.2]
    have hb1:bd=false:=by cases bd with | false=>rfl | true=>exact absurd hnd (d2 rfl)
    obtain ⟨o1,o2⟩:=g4 hb1
    rw [hb1,Bool.false_or] at hb
    unfold L9.setN
    cases hn:numR m0 (dgs l.s i1) with
    | none=>rfl
    | some x =>
     rw [hn] at o1
     have o1:ok=true:=o1
     rw [o1] at hb
     have h93:hitS l.s i3 93=false:=by cases hq:hitS l.s i3 93 with | false=>rfl | true=>rw [hq] at hb;cases hb
     simp only
     by_cases hfit:fitsM (formM l.op) x=true
     ·rw [if_pos hfit]
      simp only
      have hsk2:({ (l.go i1).go i2 with imm:=x }:L9).sk={ l.go i3 with imm:=x }:=by
       unfold L9.sk
       show L9.go _ (runB isBl l.s i2)=_
       rw [ei3];rfl
      rw [hsk2]
      unfold L9.close
      rw [hit_S]
      show (if hitS l.s i3 93=true then _ else none)=_
      rw [if_neg (by rw [h93];decide)]
     ·rw [if_neg hfit]
   ·by_cases c1:0 < (dgs l.s i1).length
    ·rw [if_pos c1,if_neg (fun c2=>hnd ⟨c1,c2⟩)];rfl
    ·rw [if_neg c1];rfl
 by_cases hlt:l.at_ < l.s.size
 ·rw [if_pos (by omega),if_pos (by omega)]
  by_cases c43:bt l.s (l.at_:Int)=43
  ·have p1:p=true:=by rw [← ep,← bt_hit hlt 43];exact beq_iff_eq.2 c43
   have hb0:(bt l.s (l.at_:Int) == 45)=false:=by rw [c43];decide
   rw [if_pos c43]
   have hp1:l.hit 43=true:=hp.trans p1
   refine sign_ false (by rw [hp1];rfl) ?_ hlt hb0 (.inr p1) (fun h=>by rw [hp1];rfl)
   cases hq:(l.tk (l.hit 43)).hit 45 with
   | false=>exact .inl rfl
   | true =>
    refine .inr ⟨by rw [hp1];rfl,rfl,?_⟩
    rw [hp1,hit_S] at hq
    exact hq
  ·have p0:p=false:=by rw [← ep,← bt_hit hlt 43];exact beq_eq_false_iff_ne.2 c43
   have hp0:l.hit 43=false:=hp.trans p0
   have eb:(bt l.s (l.at_:Int) == 45)=m:=by rw [← em];exact bt_hit hlt 45
   rw [if_neg c43,eb]
   cases m with
   | false=>exact none_ p0 rfl
   | true =>
    have ht:(l.tk (l.hit 43)).hit 45=true:=by rw [hp0];exact hm
    exact sign_ true (by rw [ht,Bool.or_true]) (.inl ht.symm) hlt eb (.inl rfl) (fun h=>by rw [hp0];rfl)
 ·rw [if_neg (by omega)]
  have p0:p=false:=by rw [← ep];unfold hitS;rw [dif_neg hlt]
  have m0:m=false:=by rw [← em];unfold hitS;rw [dif_neg hlt]
  exact none_ p0 m0
end
section
variable (s:ByteArray) (hs:s.size≤1000000) (far:Bool) (lb:ByteArray)
include hs
theorem rad (bad tx:Bool) (l:L9) (hl:l.s=s) (hi:l.at_≤s.size) (hz:l.imm=0) (hf0:fitsM (formM l.op) 0=true) (k:Nat) (hk:2 * s.size+2 < k) :
  ∃ (b n:Int) (bd:Bool) (e:Nat),rzreader_address.f (k+1) s (l.at_:Int) bad far tx lb false=some (b,n,s,(e:Int),bad || bd,far,tx,lb)∧e≤s.size ∧
   (bd=false→l.addr=if fitsM (formM l.op) n=true then some { l.go e with b:=b,imm:=n } else none)∧(bd=true→l.addr=none):=by
 subst hl
 obtain ⟨h1,eh1⟩:∃ h,hitS l.s l.at_ 91=h:=⟨_,rfl⟩
 obtain ⟨i1,ei1⟩:∃ i,(if h1=true then l.at_+1 else l.at_)=i:=⟨_,rfl⟩
 have hi1:i1≤l.s.size:=by rw [← ei1,← eh1];exact hit_le hi 91
 obtain ⟨i2,ei2⟩:∃ i,runB isBl l.s i1=i:=⟨_,rfl⟩
 have hi2:i2≤l.s.size:=by rw [← ei2];exact (runB_le isBl l.s i1 hi1).2
 obtain ⟨n1,b1,g1,g2⟩:=rrg l.s hs far tx lb (bad || !h1) (l.go i2) rfl hi2 (k+1) (by omega)
 have g1:rzreader_register.f (k+1) l.s (i2:Int) (bad || !h1) far tx lb=some (n1,l.s,(runB isWd l.s i2:Int),(bad || !h1) || b1,far,tx,lb):=g1
 obtain ⟨i3,ei3⟩:∃ i,runB isWd l.s i2=i:=⟨_,rfl⟩
 have hi3:i3≤l.s.size:=by rw [← ei3];exact (runB_le isWd l.s i2 hi2).2
 obtain ⟨i4,ei4⟩:∃ i,runB isBl l.s i3=i:=⟨_,rfl⟩
 have hi4:i4≤l.s.size:=by rw [← ei4];exact (runB_le isBl l.s i3 hi3).2
 obtain ⟨n,bd,e,g3,g4,g5,g6⟩:=rad2 l.s hs far tx lb ((bad || !h1) || b1) { l.go i4 with b:=n1 } rfl hi4 hz hf0 n1 k hk
 have g3:(if ((i4:Nat):Int) < (l.s.size:Int) then (if 0≤((i4:Nat):Int) then (if bt l.s ((i4:Nat):Int)=43 then (rzreader_address.j0 (k+1) n1 0 true l.s ((i4:Nat):Int) ((bad || !h1) || b1) far tx lb) else (rzreader_address.j0 (k+1) n1 0 (bt l.s ((i4:Nat):Int) == 45) l.s ((i4:Nat):Int) ((bad || !h1) || b1) far tx lb)) else none) else (rzreader_address.j0 (k+1) n1 0 false l.s ((i4:Nat):Int) ((bad || !h1) || b1) far tx lb))=_:=g3
 have hf:rzreader_address.f (k+1) l.s (l.at_:Int) bad far tx lb false=some (n1,n,l.s,(e:Int),((bad || !h1) || b1) || bd,far,tx,lb):=by
  unfold rzreader_address.f
  rw [show (91:Int)=((91:Nat):Int) from rfl,rnx l.s hs far tx lb bad l.at_ 91,Option.bind_some]
  simp only
  rw [rms,Option.bind_some]
  simp only
  rw [eh1,ei1,rbl l.s hs far tx lb _ i1 (k+1) hi1 (by omega),Option.bind_some]
  simp only
  rw [ei2,g1,Option.bind_some]
  simp only
  rw [ei3,rbl l.s hs far tx lb _ i3 (k+1) hi3 (by omega),Option.bind_some]
  simp only
  rw [ei4,if_neg (by decide)]
  exact g3
 refine ⟨n1,n,((!h1) || b1) || bd,e,by rw [hf,Bool.or_assoc bad,Bool.or_assoc bad],g4,?_,?_⟩
 ·intro hb
  rw [Bool.or_eq_false_iff,Bool.or_eq_false_iff] at hb
  obtain ⟨⟨q1,q2⟩,q3⟩:=hb
  have h1t:h1=true:=by cases h1 with | true=>rfl | false=>cases q1
  rw [h1t,if_pos rfl] at ei1
  have hsk:l.next.sk=l.go i2:=by
   unfold L9.sk
   show (l.go (l.at_+1)).go (runB isBl l.s (l.at_+1))=_
   rw [ei1,ei2];rfl
  cases hrg:(l.go i2).rg with
  | none=>rw [hrg] at g2;rw [g2] at q2;cases q2
  | some p =>
   rw [hrg] at g2
   obtain ⟨-,r1,r2⟩:=g2
   have hrB:(l.go i2).rB=some { l.go i3 with b:=n1 }:=by
    unfold L9.rB
    rw [hrg]
    show some { p.2 with b:=p.1 }=_
    rw [r2,← r1]
    show some { (l.go i2).go (runB isWd l.s i2) with b:=n1 }=_
    rw [ei3];rfl
   unfold L9.addr
   rw [hit_S,eh1,if_pos h1t,hsk,hrB]
   have hsk2:({ l.go i3 with b:=n1 }:L9).sk={ l.go i4 with b:=n1 }:=by
    unfold L9.sk
    show L9.go _ (runB isBl l.s i3)=_
    rw [ei4];rfl
   simp only
   rw [hsk2,g5 q3]
   rfl
 ·intro hb
  unfold L9.addr
  rw [hit_S,eh1]
  cases h1 with
  | false=>rw [if_neg (by decide)]
  | true =>
   rw [if_pos rfl] at ei1 ⊢
   rw [Bool.not_true,Bool.false_or] at hb
   have hsk:l.next.sk=l.go i2:=by
    unfold L9.sk
    show (l.go (l.at_+1)).go (runB isBl l.s (l.at_+1))=_
    rw [ei1,ei2];rfl
   rw [hsk]
   unfold L9.rB
   cases hrg:(l.go i2).rg with
   | none=>rfl
   | some p =>
    rw [hrg] at g2
    obtain ⟨r0,r1,r2⟩:=g2
    rw [r0,Bool.false_or] at hb
    simp only [Option.map_some]
    rw [r2,← r1]
    have hsk2:({ (l.go i2).go (runB isWd (l.go i2).s (l.go i2).at_) with b:=n1 }:L9).sk={ l.go i4 with b:=n1 }:=by
     unfold L9.sk
     show L9.go _ (runB isBl l.s (runB isWd l.s i2))=_
     rw [ei3,ei4];rfl
    have hsk3:({ (l.go i2).go (runB isWd l.s i2) with b:=n1 }:L9).sk={ l.go i4 with b:=n1 }:=hsk2
    exact (congrArg L9.addr2 hsk3).trans (g6 hb)
theorem rmm (bad tx:Bool) (l:L9) (hl:l.s=s) (hi:l.at_≤s.size) (k:Nat) (hk:2 * s.size+2 < k) :
  ∃ (b:Int) (bd:Bool) (e:Nat),rzreader_address.f (k+1) s (l.at_:Int) bad far tx lb true=some (b,0,s,(e:Int),bad || bd,far,tx,lb)∧e≤s.size ∧
   (bd=false→l.mem=some { l.go e with b:=b })∧(bd=true→l.mem=none):=by
 subst hl
 obtain ⟨h1,eh1⟩:∃ h,hitS l.s l.at_ 91=h:=⟨_,rfl⟩
 obtain ⟨i1,ei1⟩:∃ i,(if h1=true then l.at_+1 else l.at_)=i:=⟨_,rfl⟩
 have hi1:i1≤l.s.size:=by rw [← ei1,← eh1];exact hit_le hi 91
 obtain ⟨i2,ei2⟩:∃ i,runB isBl l.s i1=i:=⟨_,rfl⟩
 have hi2:i2≤l.s.size:=by rw [← ei2];exact (runB_le isBl l.s i1 hi1).2
 obtain ⟨n1,b1,g1,g2⟩:=rrg l.s hs far tx lb (bad || !h1) (l.go i2) rfl hi2 (k+1) (by omega)
 have g1:rzreader_register.f (k+1) l.s (i2:Int) (bad || !h1) far tx lb=some (n1,l.s,(runB isWd l.s i2:Int),(bad || !h1) || b1,far,tx,lb):=g1
 obtain ⟨i3,ei3⟩:∃ i,runB isWd l.s i2=i:=⟨_,rfl⟩
 have hi3:i3≤l.s.size:=by rw [← ei3];exact (runB_le isWd l.s i2 hi2).2
 obtain ⟨i4,ei4⟩:∃ i,runB isBl l.s i3=i:=⟨_,rfl⟩
 have hi4:i4≤l.s.size:=by rw [← ei4];exact (runB_le isBl l.s i3 hi3).2
 obtain ⟨h4,eh4⟩:∃ h,hitS l.s i4 93=h:=⟨_,rfl⟩
 have hf:rzreader_address.f (k+1) l.s (l.at_:Int) bad far tx lb true=some (n1,0,l.s,((if h4=true then i4+1 else i4:Nat):Int),(((bad || !h1) || b1) || !h4),far,tx,lb):=by
  unfold rzreader_address.f
  rw [show (91:Int)=((91:Nat):Int) from rfl,rnx l.s hs far tx lb bad l.at_ 91,Option.bind_some]
  simp only
  rw [rms,Option.bind_some]
  simp only
  rw [eh1,ei1,rbl l.s hs far tx lb _ i1 (k+1) hi1 (by omega),Option.bind_some]
  simp only
  rw [ei2,g1,Option.bind_some]
  simp only
  rw [ei3,rbl l.s hs far tx lb _ i3 (k+1) hi3 (by omega),Option.bind_some]
  simp only
  rw [ei4,if_pos trivial,rzreader_address.j0,if_neg (by decide),show (93:Int)=((93:Nat):Int) from rfl,rnx l.s hs far tx lb _ i4 93,Option.bind_some]
  simp only
  rw [rms,Option.bind_some,eh4]
 refine ⟨n1,((!h1) || b1) || !h4,_,by rw [hf,Bool.or_assoc bad,Bool.or_assoc bad],by rw [← eh4];exact hit_le hi4 93,?_,?_⟩
 all_goals intro hb
 ·rw [Bool.or_eq_false_iff,Bool.or_eq_false_iff] at hb
  obtain ⟨⟨q1,q2⟩,q3⟩:=hb
  have h1t:h1=true:=by cases h1 with | true=>rfl | false=>cases q1
  have h4t:h4=true:=by cases h4 with | true=>rfl | false=>cases q3
  rw [h1t,if_pos rfl] at ei1
  have hsk:l.next.sk=l.go i2:=by
   unfold L9.sk
   show (l.go (l.at_+1)).go (runB isBl l.s (l.at_+1))=_
   rw [ei1,ei2];rfl
  cases hrg:(l.go i2).rg with
  | none=>rw [hrg] at g2;rw [g2] at q2;cases q2
  | some p =>
   rw [hrg] at g2
   obtain ⟨-,r1,r2⟩:=g2
   have hrB:(l.go i2).rB=some { l.go i3 with b:=n1 }:=by
    unfold L9.rB
    rw [hrg]
    show some { p.2 with b:=p.1 }=_
    rw [r2,← r1]
    show some { (l.go i2).go (runB isWd l.s i2) with b:=n1 }=_
    rw [ei3];rfl
   unfold L9.mem
   rw [hit_S,eh1,if_pos h1t,hsk,hrB]
   have hsk2:({ l.go i3 with b:=n1 }:L9).sk={ l.go i4 with b:=n1 }:=by
    unfold L9.sk
    show L9.go _ (runB isBl l.s i3)=_
    rw [ei4];rfl
   simp only
   rw [hsk2,h4t,if_pos rfl]
   unfold L9.close
   rw [hit_S]
   show (if hitS l.s i4 93=true then _ else none)=_
   rw [if_pos (eh4.trans h4t)]
   rfl
 ·unfold L9.mem
  rw [hit_S,eh1]
  cases h1 with
  | false=>rw [if_neg (by decide)]
  | true =>
   rw [if_pos rfl] at ei1 ⊢
   rw [Bool.not_true,Bool.false_or] at hb
   have hsk:l.next.sk=l.go i2:=by
    unfold L9.sk
    show (l.go (l.at_+1)).go (runB isBl l.s (l.at_+1))=_
    rw [ei1,ei2];rfl
   rw [hsk]
   unfold L9.rB
   cases hrg:(l.go i2).rg with
   | none=>rfl
   | some p =>
    rw [hrg] at g2
    obtain ⟨r0,r1,r2⟩:=g2
    rw [r0,Bool.false_or] at hb
    simp only [Option.map_some]
    rw [r2,← r1]
    have hsk3:({ (l.go i2).go (runB isWd l.s i2) with b:=n1 }:L9).sk={ l.go i4 with b:=n1 }:=by
     unfold L9.sk
     show L9.go _ (runB isBl l.s (runB isWd l.s i2))=_
     rw [ei3,ei4];rfl
    refine (congrArg L9.close hsk3).trans ?_
    unfold L9.close
    rw [hit_S]
    show (if hitS l.s i4 93=true then _ else none)=_
    rw [if_neg (by rw [eh4];cases h4 <;> first | decide | cases hb)]
end
theorem mn_fin:∀ i:Fin 77,rzMnemonic.f (i.val:Int)=some (bS (nameM (i.val:Int))):=by decide +kernel
theorem mn_f {j:Nat} (h:j≤76):rzMnemonic.f (j:Int)=some (bS (nameM (j:Int))):=mn_fin ⟨j,by omega⟩
theorem toL_eq (w:ByteArray):w.toList=w.data.toList:=ByteArray.toList_eq w
theorem op_none (w:ByteArray) (hw:w.data.toList≠[]) (hno:∀ i:Nat,i≤76→nameM (i:Int)≠w.data.toList):∀ (d j k:Nat),j+d=77→2 * d+2 < k→1≤j→rzoperation.l0 k w (j:Int)=some 0
 | 0,j,k,h1,h2,h3=>by
  obtain ⟨k,rfl⟩:∃ m,k=m+1+1:=⟨k - 2,by omega⟩
  rw [rzoperation.l0,if_neg (by omega),rzoperation.j1,if_neg (by decide)]
 | d+1,j,k,h1,h2,h3=>by
  obtain ⟨k,rfl⟩:∃ m,k=m+1+1:=⟨k - 2,by omega⟩
  have e:(w.toList != ([]:List UInt8))=true:=by rw [toL_eq];exact bne_iff_ne.2 hw
  rw [rzoperation.l0,if_pos (by omega),e,rzoperation.j1,if_pos rfl,mn_f (by omega),Option.bind_some,if_neg (by rw [toL_eq,toL_eq,toS];exact hno j (by omega)),wrap_succ (by omega)]
  exact op_none w hw hno d (j+1) k (by omega) (by omega) (by omega)
theorem op_some (i:Nat) (hi:i≤76) (hne:nameM (i:Int)≠[]) (hfirst:∀ j:Nat,1≤j→j < i→nameM (j:Int)≠nameM (i:Int)):∀ (d j k:Nat),j+d=i→2 * d+4 < k→1≤j→rzoperation.l0 k (bS (nameM (i:Int))) (j:Int)=some (i:Int)
 | 0,j,k,h1,h2,h3=>by
  obtain rfl:j=i:=by omega
  obtain ⟨k,rfl⟩:∃ m,k=m+1+1:=⟨k - 2,by omega⟩
  have e:((bS (nameM (j:Int))).toList != ([]:List UInt8))=true:=by rw [toL_eq,toS];exact bne_iff_ne.2 hne
  rw [rzoperation.l0,if_pos (by omega),e,rzoperation.j1,if_pos rfl,mn_f hi,Option.bind_some,if_pos rfl]
 | d+1,j,k,h1,h2,h3=>by
  obtain ⟨k,rfl⟩:∃ m,k=m+1+1:=⟨k - 2,by omega⟩
  have e:((bS (nameM (i:Int))).toList != ([]:List UInt8))=true:=by rw [toL_eq,toS];exact bne_iff_ne.2 hne
  rw [rzoperation.l0,if_pos (by omega),e,rzoperation.j1,if_pos rfl,mn_f (by omega),Option.bind_some,if_neg (by rw [toL_eq,toL_eq,toS,toS];exact hfirst j h3 (by omega)),wrap_succ (by omega)]
  exact op_some i hi hne hfirst d (j+1) k (by omega) (by omega) (by omega)
theorem first_fin:∀ i:Fin 77,nameM (i.val:Int)≠[]→∀ j:Fin 77,1≤j.val→j.val < i.val→nameM (j.val:Int)≠nameM (i.val:Int):=by decide +kernel
theorem opOf_fin:∀ i:Fin 77,nameM (i.val:Int)≠[]→opOf (nameM (i.val:Int))=(i.val:Int):=by decide +kernel
theorem opOf_no (n:List UInt8) (hn:n≠[]) (hno:∀ i:Nat,i≤76→nameM (i:Int)≠n):opOf n=0:=by
 unfold opOf
 have h1:((List.range 35).find? fun i:Nat=>decide (0 < i) && (nameM (i:Int) == n))=none:=by
  rw [List.find?_eq_none]
  intro i hi
  have hi:=List.mem_range.1 hi
  simp only [Bool.and_eq_true,beq_iff_eq,decide_eq_true_eq,not_and]
  exact fun _=>hno i (by omega)
 rw [h1]
 have h2:breakW=nameM ((76:Nat):Int):=by decide +kernel
 show (if n=breakW then (76:Int) else 0)=0
 rw [if_neg (fun e=>hno 76 (Nat.le_refl _) (by rw [← h2,e]))]
theorem ba_ext {a b:ByteArray} (h:a.data.toList=b.data.toList):a=b:=by
 have:a=bS a.data.toList:=by unfold bS;rw [Array.toArray_toList]
 rw [this,h]
 unfold bS
 rw [Array.toArray_toList]
theorem rop (w:ByteArray) (k:Nat) (hk:200 < k):rzoperation.f k w=some (opOf w.data.toList):=by
 unfold rzoperation.f
 by_cases hw:w.data.toList=[]
 ·obtain ⟨k,rfl⟩:∃ m,k=m+1+1:=⟨k - 2,by omega⟩
  have e:(w.toList != ([]:List UInt8))=false:=by rw [toL_eq,hw];rfl
  rw [rzoperation.l0,if_pos (by decide),e,rzoperation.j1,if_neg (by decide),hw]
  rfl
 ·by_cases h:∃ i:Nat,i≤76∧nameM (i:Int)=w.data.toList
  ·obtain ⟨i,hi,he⟩:=h
   have hne:nameM (i:Int)≠[]:=by rw [he];exact hw
   have h1:1≤i:=by
    refine Nat.lt_of_not_le fun h0=>?_
    obtain rfl:i=0:=by omega
    exact hne (by decide +kernel)
   have ew:w=bS (nameM (i:Int)):=ba_ext (by rw [toS,he])
   rw [ew,toS,opOf_fin ⟨i,by omega⟩ hne]
   exact op_some i hi hne (fun j hj1 hj2=>first_fin ⟨i,by omega⟩ hne ⟨j,by omega⟩ hj1 hj2) (i - 1) 1 k (by omega) (by omega) (Nat.le_refl _)
  ·rw [opOf_no _ hw (fun i hi e=>h ⟨i,hi,e⟩)]
   exact op_none w hw (fun i hi e=>h ⟨i,hi,e⟩) 76 1 k (by omega) (by omega) (Nat.le_refl _)
def cmL (l:L9):Option L9:=if l.sk.hit 44=true then some l.sk.next.sk else none
theorem rest_cons (k:Rd) (ks:List Rd) (l:L9):L9.rest (k :: ks) l=(cmL l).bind fun l1=>(L9.run k l1).bind fun l2=>L9.rest ks l2:=by
 unfold cmL
 rw [L9.rest]
 by_cases h:l.sk.hit 44=true
 ·rw [if_pos h,if_pos h,Option.bind_some]
  cases L9.run k l.sk.next.sk <;> rfl
 ·rw [if_neg h,if_neg h];rfl
section
variable (s:ByteArray) (hs:s.size≤1000000)
include hs
theorem rg2 (far tx:Bool) (lb:ByteArray) (bad:Bool) (l:L9) (hl:l.s=s) (hi:l.at_≤s.size) (k:Nat) (hk:s.size < k) :
  ∃ (n:Int) (b:Bool) (e:Nat),rzreader_register.f k s (l.at_:Int) bad far tx lb=some (n,s,(e:Int),bad || b,far,tx,lb)∧e≤s.size∧(b=false→l.rg=some (n,l.go e))∧(b=true→l.rg=none):=by
 obtain ⟨n,b,g1,g2⟩:=rrg s hs far tx lb bad l hl hi k hk
 refine ⟨n,b,_,g1,(runB_le isWd s l.at_ hi).2,fun hb=>?_,fun hb=>?_⟩
 ·cases h:l.rg with
  | none=>rw [h] at g2;rw [g2] at hb;cases hb
  | some p =>
   rw [h] at g2
   obtain ⟨_,e1,e2⟩:=g2
   obtain ⟨x,y⟩:=p
   have e1:n=x:=e1
   have e2:y=_:=e2
   rw [e1,e2]
 ·cases h:l.rg with
  | none=>rfl
  | some p=>rw [h] at g2;rw [g2.1] at hb;cases hb
theorem cm2 (far tx:Bool) (lb:ByteArray) (bad:Bool) (l:L9) (hl:l.s=s) (hi:l.at_≤s.size) (k:Nat) (hk:s.size < k) :
  ∃ (b:Bool) (e:Nat),rzreader_comma.f k s (l.at_:Int) bad far tx lb=some (s,(e:Int),bad || b,far,tx,lb)∧e≤s.size∧(b=false→cmL l=some (l.go e))∧(b=true→cmL l=none):=by
 subst hl
 have h1:=rcm l.s hs far tx lb bad l.at_ k hi hk
 have hr:=runB_le isBl l.s l.at_ hi
 have hh:l.sk.hit 44=hitS l.s (runB isBl l.s l.at_) 44:=hit_S _ _
 refine ⟨_,_,h1,(runB_le isBl l.s _ (hit_le hr.2 44)).2,fun hb=>?_,fun hb=>?_⟩
 ·have hq:hitS l.s (runB isBl l.s l.at_) 44=true:=by cases h:hitS l.s (runB isBl l.s l.at_) 44 with | true=>rfl | false=>rw [h] at hb;cases hb
  unfold cmL
  rw [hh,hq,if_pos rfl,if_pos rfl]
  rfl
 ·have hq:hitS l.s (runB isBl l.s l.at_) 44=false:=by cases h:hitS l.s (runB isBl l.s l.at_) 44 with | false=>rfl | true=>rw [h] at hb;cases hb
  unfold cmL
  rw [hh,hq,if_neg (by decide)]
end
end Go.Proofs.YtffojmgmpfjlhaaGreatDoor.Q
namespace Go.Proofs.YtffojmgmpfjlhaaGreatDoor
open Go.RowKit Go.Proofs.Ix YtffojmgmpfjlhaaGreatDoorW.PrintWords Go.ChangeShapes Go.WideShapes Go.MapKept Go.Maps Go.ChangeMaps
structure Mk9 (T K:TypeId) (α:Type) (enc:α→Value) (ok:α→Prop):Prop where
 ty:Tryz.prog.underlying T=some (.map K 4)
 keyed:Keyed Tryz.prog K
 of:∀ x,ok x→∃ l,keyOf Tryz.prog K (enc x)=some l
 inj:∀ x y,enc x=enc y→x=y
def Sm {α:Type} (enc:α→Value) (ok:α→Prop) (w:World) (m:Nat) (S:List α):Prop :=
 ∃ es clock,w.heap[m]?=some (.map es clock)∧(∀ e∈es.toList,e.val=.bool true∧∃ x∈S,e.key=enc x)∧(∀ x∈S,ok x∧∃ e∈es.toList,e.key=enc x)
section
variable {T K:TypeId} {α:Type} {enc:α→Value} {ok:α→Prop}
theorem Sm.lt {w:World} {m:Nat} {S:List α} (h:Sm enc ok w m S):m < w.heap.size:=by
 obtain ⟨es,c,hb,_⟩:=h
 exact (Array.getElem?_eq_some_iff.1 hb).1
theorem Sm.keys {S:List α} {es:List MapEntry} (M:Mk9 T K α enc ok) (h1:∀ e∈es,e.val=.bool true∧∃ x∈S,e.key=enc x) (h2:∀ x∈S,ok x∧∃ e∈es,e.key=enc x):∀ e∈es,∃ l,keyOf Tryz.prog K e.key=some l:=by
 intro e he
 obtain ⟨_,x,hx,hk⟩:=h1 e he
 rw [hk]
 exact M.of x (h2 x hx).1
theorem Sm.look [DecidableEq α] (M:Mk9 T K α enc ok) {w:World} {m:Nat} {S:List α} (h:Sm enc ok w m S) (x:α) (hx:ok x) :
  (Instr.lookup T (.map (some m)) (enc x) false).run Tryz.prog w=.ok (.bool (decide (x∈S))) w:=by
 obtain ⟨es,clock,hb,h1,h2⟩:=h
 obtain ⟨kl,hkey⟩:=M.of x hx
 have hz:(zeroValue 4).run Tryz.prog w=.ok (.bool false) w:=Tryz.zeroValue4 w
 rcases M.keyed.find w hkey es.toList (Sm.keys M h1 h2) with ⟨e1,e2⟩ | ⟨j,e0,e1,e2,e3⟩
 ·have hn:x ∉ S:=fun hm=>by
   obtain ⟨e,he,hk⟩:=(h2 x hm).2
   exact e2 e he hk
  rw [decide_eq_false hn]
  simp [Instr.lookup,run_underlying M.ty,MapKept.run_getObj_map hb,M.keyed.check w _ hkey,e1,hz,Result.andThen]
 ·obtain ⟨hv,y,hy,hk⟩:=h1 e0 (List.mem_of_getElem? e2)
  have hxy:x=y:=M.inj _ _ (e3.symm.trans hk)
  subst hxy
  rw [decide_eq_true hy]
  simp [Instr.lookup,run_underlying M.ty,MapKept.run_getObj_map hb,M.keyed.check w _ hkey,e1,hz,hv,Result.andThen]
theorem Sm.put (M:Mk9 T K α enc ok) {w:World} {m:Nat} {S:List α} (h:Sm enc ok w m S) (x:α) (hx:ok x) :
  ∃ w',(Instr.mapUpdate T (.map (some m)) (enc x) (.bool true)).run Tryz.prog w=.ok () w'∧Sm enc ok w' m (x :: S)∧Aft m w w'∧w'.heap.size=w.heap.size:=by
 obtain ⟨es,clock,hb,h1,h2⟩:=h
 obtain ⟨kl,hkey⟩:=M.of x hx
 rcases M.keyed.find w hkey es.toList (Sm.keys M h1 h2) with ⟨e1,e2⟩ | ⟨j,e0,e1,e2,e3⟩
 ·refine ⟨setBlock w m (.map (es.push ⟨enc x,.bool true,clock⟩) (clock+1)),?_,⟨_,_,heap_setBlock_same hb _,?_,?_⟩,⟨rfl,rfl,rfl,by simp [setBlock],fun k _ hk=>heap_setBlock_other hb _ hk⟩,by simp [setBlock]⟩
  ·simp [Instr.mapUpdate,run_underlying M.ty,MapKept.run_getObj_map hb,M.keyed.check w false hkey,e1,MapKept.run_setObj_map _ hb,Result.andThen,setBlock]
  ·intro e he
   rw [Array.toList_push,List.mem_append,List.mem_singleton] at he
   rcases he with he | rfl
   ·obtain ⟨hv,y,hy,hk⟩:=h1 e he
    exact ⟨hv,y,List.mem_cons_of_mem _ hy,hk⟩
   ·exact ⟨rfl,x,List.mem_cons_self,rfl⟩
  ·intro y hy
   rw [Array.toList_push]
   rcases List.mem_cons.1 hy with rfl | hy
   ·exact ⟨hx,_,List.mem_append_right _ (List.mem_singleton.2 rfl),rfl⟩
   ·obtain ⟨ho,e,he,hk⟩:=h2 y hy
    exact ⟨ho,e,List.mem_append_left _ he,hk⟩
 ·obtain ⟨hv,y,hy,hk⟩:=h1 e0 (List.mem_of_getElem? e2)
  have hxy:x=y:=M.inj _ _ (e3.symm.trans hk)
  subst hxy
  have hj:es[j]?=some e0:=by simpa using e2
  have hst:(Instr.keyThatStays (((es[j]?).map (·.key)).getD (enc x)) (enc x)).run Tryz.prog w=.ok (enc x) w:=by
   rw [hj]
   show (Instr.keyThatStays e0.key (enc x)).run Tryz.prog w=_
   rw [e3]
   exact M.keyed.stays w hkey
  refine ⟨setBlock w m (.map (es.modify j fun e=>{ e with key:=enc x,val:=.bool true }) clock),?_,⟨_,_,heap_setBlock_same hb _,?_,?_⟩,⟨rfl,rfl,rfl,by simp [setBlock],fun k _ hk=>heap_setBlock_other hb _ hk⟩,by simp [setBlock]⟩
  ·simp [Instr.mapUpdate,run_underlying M.ty,MapKept.run_getObj_map hb,M.keyed.check w false hkey,e1,hst,MapKept.run_setObj_map _ hb,Result.andThen,setBlock]
  ·intro e he
   obtain ⟨i,hi⟩:=List.mem_iff_getElem?.1 he
   rw [Array.getElem?_toList,Array.getElem?_modify] at hi
   split at hi
   ·rename_i hij
    subst hij
    rw [hj] at hi
    simp at hi
    subst hi
    exact ⟨rfl,x,List.mem_cons_self,rfl⟩
   ·have:e∈es.toList:=List.mem_iff_getElem?.2 ⟨i,by simpa using hi⟩
    obtain ⟨hv,y,hy,hk⟩:=h1 e this
    exact ⟨hv,y,List.mem_cons_of_mem _ hy,hk⟩
  ·intro z hz
   have hzS:z∈S:=by
    rcases List.mem_cons.1 hz with rfl | hz
    ·exact hy
    ·exact hz
   obtain ⟨ho,e,he,hk⟩:=h2 z hzS
   refine ⟨ho,?_⟩
   obtain ⟨i,hi⟩:=List.mem_iff_getElem?.1 he
   rw [Array.getElem?_toList] at hi
   by_cases hij:j=i
   ·subst hij
    rw [hj] at hi
    cases hi
    exact ⟨{ e0 with key:=enc x,val:=.bool true },List.mem_iff_getElem?.2 ⟨j,by rw [Array.getElem?_toList,Array.getElem?_modify,if_pos rfl,hj];rfl⟩,by show enc x=enc z;rw [← hk,e3]⟩
   ·exact ⟨e,List.mem_iff_getElem?.2 ⟨i,by rw [Array.getElem?_toList,Array.getElem?_modify,if_neg hij];exact hi⟩,hk⟩
end
def okS (s:ByteArray):Prop:=s.size≤1000000
end Go.Proofs.YtffojmgmpfjlhaaGreatDoor
namespace Go.Proofs.YtffojmgmpfjlhaaGreatDoor
open Go.Proofs.Ix hiding rd
open Go.RowKit YtffojmgmpfjlhaaGreatDoorW.PrintWords YtffojmgmpfjlhaaGreatDoorW.PrintLast Go.ChangeShapes Go.WideShapes Go.MapKept Go.Maps Go.ChangeMaps
open Q (S61 rd_T61 k61 at_T61)
theorem Sm.lookB {T K:TypeId} {α:Type} [DecidableEq α] {enc:α→Value} {ok:α→Prop} (M:Mk9 T K α enc ok) {m:Nat} (S:List α) (x:α) (hx:ok x) :
  ∃ b:Bool,(b=true↔x∈S)∧∀ w,Sm enc ok w m S→(Instr.lookup T (.map (some m)) (enc x) false).run Tryz.prog w=.ok (.bool b) w :=
 ⟨_,decide_eq_true_iff,fun w h=>Sm.look M h x hx⟩
end Go.Proofs.YtffojmgmpfjlhaaGreatDoor
namespace Go.Proofs.YtffojmgmpfjlhaaGreatDoor.Q
open Go.Proofs.Ix hiding rd
open Go Go.Proofs.YtffojmgmpfjlhaaGreatDoor Go.RowKit Go.Proofs.YtffojmgmpfjlhaaGreatDoorW.PrintWords
def spl:List UInt8→List (List UInt8)
 | []=>[[]]
 | c :: l=>if c=10 then [] :: spl l else (match spl l with | h :: t=>(c :: h) :: t | []=>[[c]])
theorem spl_ne (l:List UInt8):spl l≠[]:=by
 cases l with
 | nil=>simp [spl]
 | cons c l =>
  unfold spl
  split
  ·simp
  ·split <;> simp
theorem spl_miss:∀ l:List UInt8,(∀ k:Nat,l[k]?≠some 10)→spl l=[l]
 | [],_=>rfl
 | c :: l,h=>by
  have h0:c≠10:=fun e=>h 0 (by simp [e])
  simp only [spl,if_neg h0,spl_miss l (fun k=>by have:=h (k+1);simpa using this)]
theorem spl_hit:∀ (l:List UInt8) (i:Nat),l[i]?=some 10→(∀ k:Nat,k < i→l[k]?≠some 10)→spl l=l.take i :: spl (l.drop (i+1))
 | [],i,h,_=>by simp at h
 | c :: l,0,h,_=>by
  have:c=10:=by simpa using h
  simp only [spl,if_pos this]
  rfl
 | c :: l,i+1,h,hn=>by
  have h0:c≠10:=fun e=>hn 0 (by omega) (by simp [e])
  simp only [spl,if_neg h0,spl_hit l i (by simpa using h) (fun k hk=>by have:=hn (k+1) (by omega);simpa using this)]
  rfl
theorem nl_one (s:ByteArray):Lib.indexB s nlB=Lib.indexByte s.data.toList 10:=by
 rw [Lib.one s nlB rfl]
 rfl
theorem ext_toList (s:ByteArray) (a b:Nat):(s.extract a b).data.toList=(s.data.toList.drop a).take (b - a):=by
 simp [ByteArray.data_extract,Array.toList_extract,List.take_drop]
theorem pieces_spl:∀ (n:Nat) (s:ByteArray),s.size≤n→(pieces s).map (fun x:ByteArray=>x.data.toList)=spl s.data.toList:=by
 intro n
 induction n with
 | zero =>
  intro s hs
  have h0:s.data.toList=[]:=by
   have:s.data.size=0:=by have h:s.data.size=s.size:=rfl;omega
   have h2:s.data=#[]:=Array.eq_empty_of_size_eq_zero this
   rw [h2]
  unfold pieces
  have hm:Lib.indexB s nlB=-1:=by rw [nl_one,h0];rfl
  rw [Lib.splitB_miss _ _ _ _ hm,h0]
  simp [spl,h0]
 | succ n ih =>
  intro s hs
  unfold pieces
  rcases Lib.indexB_cases s nlB with hm | ⟨i,hi,hle⟩
  ·rw [Lib.splitB_miss _ _ _ _ hm]
   rw [nl_one] at hm
   rw [spl_miss _ (Lib.indexByte_none hm)]
   rfl
  ·have hle:i+1≤s.size:=hle
   have hsz:s.data.toList.length=s.size:=by rw [Array.length_toList];rfl
   rw [Lib.countB_hit s nlB i (by decide) hi,Nat.add_comm,Lib.splitB_hit _ _ _ _ i hi]
   have h9:=hi
   rw [nl_one] at h9
   obtain ⟨g1,g2⟩:=Lib.indexByte_some h9
   rw [spl_hit _ i g1 g2]
   have hr:=ih (s.extract (i+nlB.size) s.size) (by rw [ByteArray.size_extract];have:nlB.size=1:=rfl;omega)
   unfold pieces at hr
   have hn1:nlB.size=1:=rfl
   rw [List.map_cons,hr,ext_toList,ext_toList,hn1,List.take_of_length_le (l:=s.data.toList.drop (i+1)) (by rw [List.length_drop,hsz];exact Nat.le_refl _),List.drop_zero]
   rfl
theorem bt_nat (s:ByteArray) (i:Nat) (h:i < s.size):s.data.toList[i]?=some s[i]∧bt s (i:Int)=(s[i].toNat:Int):=by
 refine ⟨?_,?_⟩
 ·rw [List.getElem?_eq_getElem (by rw [Array.length_toList];exact h),Array.getElem_toList];rfl
 ·unfold bt
  rw [dif_pos (by simpa using h)]
  simp
def sumL (es:List En):Nat:=(es.map fun e=>lenM (formM e.l.op)).sum
theorem same_self2 (l:List Int):lzsameBytes.f l l=some true:=by
 unfold lzsameBytes.f
 simp
theorem b1 (c:UInt8):(⟨#[c]⟩:ByteArray)=bS [c]:=rfl
def opW (a b v:Int):List Rd→List UInt8
 | []=>[]
 | k :: ks=>32 :: (rdW a b v k ++ tailW a b v ks)
def printW (op a b v:Int):List UInt8:=nameM op ++ opW a b v (readsM op)
def Rg (v:Int):Prop:=-9223372036854775808≤v∧v≤9223372036854775807
def prX (x:S23):ByteArray:=bS (printW x.f0 x.f1 x.f2 x.f3)
inductive Ll where
 | fn (s:ByteArray)
 | ins (x:S23)
def Ll.text:Ll→List UInt8
 | .fn s=>[46,102,117,110,99,32] ++ s.data.toList
 | .ins x=>(prX x).data.toList
def Ll.bytes (y:Ll):List UInt8:=y.text ++ [10]
end Go.Proofs.YtffojmgmpfjlhaaGreatDoor.Q
