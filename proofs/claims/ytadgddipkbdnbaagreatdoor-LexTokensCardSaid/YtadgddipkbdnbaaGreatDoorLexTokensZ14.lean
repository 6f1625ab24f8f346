/- Parts of the proof that the program's token functions return what the specification's return. -/
import Derived.Test.YtadgddipkbdnbaaGreatDoorLexTokensZ1
import Derived.Test.YtadgddipkbdnbaaGreatDoorLexTokensZ2
import Derived.Test.YtadgddipkbdnbaaGreatDoorLexTokensZ3
import Derived.Test.YtadgddipkbdnbaaGreatDoorLexTokensZ4
import Derived.Test.YtadgddipkbdnbaaGreatDoorLexTokensZ5
import Derived.Test.YtadgddipkbdnbaaGreatDoorLexTokensZ6
import Derived.Test.YtadgddipkbdnbaaGreatDoorLexTokensZ7
import Derived.Test.YtadgddipkbdnbaaGreatDoorLexTokensZ8
import Derived.Test.YtadgddipkbdnbaaGreatDoorLexTokensZ9
import Derived.Test.YtadgddipkbdnbaaGreatDoorLexTokensZ10
import Derived.Test.YtadgddipkbdnbaaGreatDoorLexTokensZ11
import Derived.Test.YtadgddipkbdnbaaGreatDoorLexTokensZ12
import Derived.Test.YtadgddipkbdnbaaGreatDoorLexTokensZ13
set_option linter.unusedVariables false
set_option linter.unusedSimpArgs false
namespace Go.Proofs.YtadgddipkbdnbaaGreatDoor.Q
open Go.RowKit Go.Proofs.YtadgddipkbdnbaaGreatDoor YtadgddipkbdnbaaGreatDoorW.PrintWords YtadgddipkbdnbaaGreatDoorW.PrintLast
theorem isLetter_f:∀ c:UInt8,rzisLetter.f (c.toNat:Int)=some (Lx.isLetter c):=u8_all _ (by decide +kernel)
theorem isDigit_f:∀ c:UInt8,rzisDigit.f (c.toNat:Int)=some (Lx.isDigit c):=u8_all _ (by decide +kernel)
theorem isDescByte_f1:∀ c:UInt8,rzisDescByte.f 1 (c.toNat:Int)=some (Lx.isDescB c):=u8_all _ (by decide +kernel)
theorem isDescByte_f (c:UInt8) (k:Nat) (hk:1≤k):rzisDescByte.f k (c.toNat:Int)=some (Lx.isDescB c):=at_rounds (rzisDescByte.mono _) hk (isDescByte_f1 c)
theorem ext_take (s:ByteArray) (a n:Nat) (h:a+n≤s.size):s.extract a (a+n)=strS ((s.data.toList.drop a).take n):=by
 have e:(s.extract a (a+n)).data.toList=(strS ((s.data.toList.drop a).take n)).data.toList:=by
  simp only [ByteArray.data_extract,Array.toList_extract,List.extract_eq_take_drop,strS]
  rw [show a+n - a=n by omega]
 cases h1:s.extract a (a+n) with
 | mk d=>cases h2:strS ((s.data.toList.drop a).take n) with
  | mk d' =>
   rw [h1,h2] at e
   congr 1
   exact Array.toList_inj.1 e
section
variable (s:ByteArray)
theorem run_ev (hs:s.size≤140737488355328):∀ n a,a≤s.size→s.size - a=n→Ev (fun k=>rzrun.l0 k s (a:Int)) (((a+((s.data.toList.drop a).takeWhile Lx.isWord).length:Nat)):Int):=by
 intro n
 induction n with
 | zero =>
  intro a ha hn
  have e:s.data.toList.drop a=[]:=List.drop_eq_nil_of_le (by rw [sl];omega)
  rw [e]
  exact ⟨1,fun k hk=>by
   obtain ⟨k,rfl⟩:∃ m,k=m+1:=⟨k - 1,by omega⟩
   simp only [rzrun.l0];rw [if_neg (by omega)];rfl⟩
 | succ n ih =>
  intro a ha hn
  have hlt:a < s.size:=by omega
  rw [sat s a hlt,List.takeWhile_cons]
  cases hw:Lx.isWord s[a] with
  | true =>
   refine Ev.step (f:=fun k=>rzrun.l0 k s ((a+1:Nat):Int)) (fun k=>?_) ?_
   ·simp only [rzrun.l0]
    rw [if_pos (by omega),if_pos (by omega),bt_nat s a hlt]
    simp only [isLetter_f,isDigit_f,Option.bind_some]
    rw [wrap_nat (by omega) (by omega),cast1]
    unfold Lx.isWord at hw
    cases hl:Lx.isLetter s[a] with
    | true=>simp only [if_true]
    | false =>
     rw [hl,Bool.false_or] at hw
     simp only [hw,if_true,Bool.false_eq_true,if_false]
   ·have:=ih (a+1) (by omega) (by omega)
    rw [if_pos rfl,List.length_cons]
    rw [show a+(((s.data.toList.drop (a+1)).takeWhile Lx.isWord).length+1)=a+1+((s.data.toList.drop (a+1)).takeWhile Lx.isWord).length by omega]
    exact this
  | false =>
   refine ⟨1,fun k hk=>?_⟩
   obtain ⟨k,rfl⟩:∃ m,k=m+1:=⟨k - 1,by omega⟩
   simp only [rzrun.l0]
   rw [if_pos (by omega),if_pos (by omega),bt_nat s a hlt]
   unfold Lx.isWord at hw
   rw [Bool.or_eq_false_iff] at hw
   simp only [isLetter_f,isDigit_f,Option.bind_some,hw.1,hw.2,Bool.false_eq_true,if_false]
   rfl
theorem word_l0 (x:ByteArray) (at_:Int):∀ (n i:Nat) (kd:Int) (L:List ByteArray),i≤L.length→L.length - i=n→L.length < 1000 →
  Ev (fun k=>rzword.l0 k L (i:Int) kd x at_) (if x.toList∈(L.drop i).map ByteArray.toList then 2 else kd,x,at_,0):=by
 intro n
 induction n with
 | zero =>
  intro i kd L hi hn hL
  have e:L.drop i=[]:=List.drop_eq_nil_of_le (by omega)
  rw [e]
  exact ⟨1,fun k hk=>by
   obtain ⟨k,rfl⟩:∃ m,k=m+1:=⟨k - 1,by omega⟩
   simp only [rzword.l0];rw [if_neg (by omega)];simp⟩
 | succ n ih =>
  intro i kd L hi hn hL
  have hlt:i < L.length:=by omega
  have hg:rdOf ByteArray.empty L (i:Int)=L[i]:=by
   unfold rdOf
   rw [Int.toNat_natCast,List.getD_eq_getElem?_getD,List.getElem?_eq_getElem hlt]
   rfl
  have hd:L.drop i=L[i] :: L.drop (i+1):=List.drop_eq_getElem_cons hlt
  rw [hd,List.map_cons]
  by_cases h:L[i].toList=x.toList
  ·refine Ev.step (f:=fun k=>rzword.l0 k L ((i+1:Nat):Int) 2 x at_) (fun k=>?_) ?_
   ·simp only [rzword.l0]
    rw [if_pos (by omega),if_pos (by omega),hg,if_pos h,wrap_nat (by omega) (by omega),cast1]
   ·have:=ih (i+1) 2 L (by omega) (by omega) hL
    rw [if_pos (List.mem_cons.2 (.inl h.symm))]
    rw [show (if x.toList∈(L.drop (i+1)).map ByteArray.toList then (2:Int) else 2)=2 by split <;> rfl] at this
    exact this
  ·refine Ev.step (f:=fun k=>rzword.l0 k L ((i+1:Nat):Int) kd x at_) (fun k=>?_) ?_
   ·simp only [rzword.l0]
    rw [if_pos (by omega),if_pos (by omega),hg,if_neg h,wrap_nat (by omega) (by omega),cast1]
   ·have:=ih (i+1) kd L (by omega) (by omega) hL
    have e:(x.toList∈L[i].toList :: (L.drop (i+1)).map ByteArray.toList)↔(x.toList∈(L.drop (i+1)).map ByteArray.toList):=by
     rw [List.mem_cons]
     exact ⟨fun h'=>h'.resolve_left (fun e=>h e.symm),.inr⟩
    simp only [e]
    exact this
theorem word_ev (hs:s.size≤140737488355328) (a:Nat) (ha:a≤s.size) :
  Ev (fun k=>rzword.f k s (a:Int)) (if ((s.data.toList.drop a).takeWhile Lx.isWord).length > 31 then (0,⟨#[]⟩,0,111)
   else (if (s.data.toList.drop a).take ((s.data.toList.drop a).takeWhile Lx.isWord).length∈Lx.words then 2 else 1,strS ((s.data.toList.drop a).take ((s.data.toList.drop a).takeWhile Lx.isWord).length),(a:Int),0)):=by
 obtain ⟨K,hK⟩:=run_ev s hs _ a ha rfl
 have hle:((s.data.toList.drop a).takeWhile Lx.isWord).length≤s.size - a:=by
  have:=Lx.takeWhile_le Lx.isWord (s.data.toList.drop a)
  rwa [List.length_drop,sl] at this
 generalize ((s.data.toList.drop a).takeWhile Lx.isWord).length=n at hK hle ⊢
 have hK':∀ k,K≤k→rzrun.f k s (a:Int)=some ((a+n:Nat):Int):=hK
 by_cases h31:n > 31
 ·rw [if_pos h31]
  exact ⟨K,fun k hk=>by
   simp only [rzword.f]
   rw [hK' k hk]
   simp only [Option.bind_some]
   rw [wrap_nat (by omega) (by omega),if_pos (by omega)]⟩
 ·rw [if_neg h31]
  have hW:rzWords.f=some (Lx.words.map strS):=by decide +kernel
  obtain ⟨K2,hK2⟩:=word_l0 (strS ((s.data.toList.drop a).take n)) (a:Int) _ 0 1 (Lx.words.map strS) (by simp) rfl (by simp [Lx.words])
  refine ⟨K+K2,fun k hk=>?_⟩
  have h2:rzword.l0 k _ ((0:Nat):Int) 1 _ _=_:=hK2 k (by omega)
  simp only [rzword.f]
  rw [hK' k (by omega)]
  simp only [Option.bind_some]
  rw [wrap_nat (by omega) (by omega),if_neg (by omega),if_pos (by omega),if_pos (by omega),if_pos (by omega),hW]
  simp only [Option.bind_some]
  rw [Int.toNat_natCast,Int.toNat_natCast,ext_take s a n (by omega)]
  refine h2.trans ?_
  have hm:(strS ((s.data.toList.drop a).take n)).toList∈((Lx.words.map strS).drop 0).map ByteArray.toList↔(s.data.toList.drop a).take n∈Lx.words:=by
   rw [List.drop_zero,List.map_map]
   have e1:(strS ((s.data.toList.drop a).take n)).toList=(s.data.toList.drop a).take n:=by rw [ByteArray.toList_eq];rfl
   rw [e1]
   have e2:Lx.words.map (ByteArray.toList ∘ strS)=Lx.words:=by
    conv=>rhs;rw [← List.map_id Lx.words]
    apply List.map_congr_left
    intro x _
    show (strS x).toList=x
    rw [ByteArray.toList_eq];rfl
   rw [e2]
  simp only [hm]
theorem desc_ev (hs:s.size≤140737488355328) (a:Nat):∀ n b,a≤b→b≤s.size→s.size - b=n →
  Ev (fun k=>rzone.l0 k s (a:Int) (b:Int)) (if b+((s.data.toList.drop b).takeWhile Lx.isDescB).length - a > 200 then (0,⟨#[]⟩,0,111)
   else (6,strS ((s.data.toList.drop a).take (b+((s.data.toList.drop b).takeWhile Lx.isDescB).length - a)),(a:Int),0)):=by
 have stop:∀ b:Nat,a≤b→b≤s.size→(if (wrap64 ((b:Int) - (a:Int))) > 200 then (some ((0:Int),(⟨#[]⟩:ByteArray),(0:Int),(111:Int))) else (if 0≤(a:Int) then (if (a:Int)≤(b:Int) then (if (b:Int)≤(s.size:Int) then (some (6,s.extract (a:Int).toNat (b:Int).toNat,(a:Int),0)) else (none)) else (none)) else (none)))
   = some (if b - a > 200 then (0,⟨#[]⟩,0,111) else (6,strS ((s.data.toList.drop a).take (b - a)),(a:Int),0)):=by
  intro b hab hb
  rw [wrap_nat (by omega) (by omega)]
  by_cases h:b - a > 200
  ·rw [if_pos h,if_pos (by omega)]
  ·rw [if_neg h,if_neg (by omega),if_pos (by omega),if_pos (by omega),if_pos (by omega),Int.toNat_natCast,Int.toNat_natCast]
   have:=ext_take s a (b - a) (by omega)
   rw [show a+(b - a)=b by omega] at this
   rw [this]
 intro n
 induction n with
 | zero =>
  intro b hab hb hn
  have e:s.data.toList.drop b=[]:=List.drop_eq_nil_of_le (by rw [sl];omega)
  rw [e]
  refine ⟨1,fun k hk=>?_⟩
  obtain ⟨k,rfl⟩:∃ m,k=m+1:=⟨k - 1,by omega⟩
  simp only [rzone.l0]
  rw [if_neg (by omega),stop b hab hb]
  rfl
 | succ n ih =>
  intro b hab hb hn
  have hlt:b < s.size:=by omega
  rw [sat s b hlt,List.takeWhile_cons]
  cases hd:Lx.isDescB s[b] with
  | true =>
   have hi:=ih (b+1) (by omega) (by omega) (by omega)
   obtain ⟨K,hK⟩:=hi
   refine ⟨K+2,fun k hk=>?_⟩
   obtain ⟨k,rfl⟩:∃ m,k=m+1:=⟨k - 1,by omega⟩
   have h:rzone.l0 k s (a:Int) ((b+1:Nat):Int)=_:=hK k (by omega)
   simp only [rzone.l0]
   rw [if_pos (by omega),if_pos (by omega),bt_nat s b hlt,isDescByte_f _ k (by omega),hd]
   simp only [Option.bind_some,if_true]
   rw [wrap_nat (by omega) (by omega),← cast1,h,List.length_cons]
   rw [show b+(((s.data.toList.drop (b+1)).takeWhile Lx.isDescB).length+1)=b+1+((s.data.toList.drop (b+1)).takeWhile Lx.isDescB).length by omega]
  | false =>
   refine ⟨2,fun k hk=>?_⟩
   obtain ⟨k,rfl⟩:∃ m,k=m+1:=⟨k - 1,by omega⟩
   simp only [rzone.l0]
   rw [if_pos (by omega),if_pos (by omega),bt_nat s b hlt,isDescByte_f _ k (by omega),hd]
   simp only [Option.bind_some,Bool.false_eq_true,if_false]
   rw [stop b hab hb]
   rfl
end
theorem hexf_k (c:UInt8) (k:Nat) (hk:2≤k):rzhex.f k (c.toNat:Int)=some (hexI c):=at_rounds (rzhex.mono _) hk (hex_f c)
theorem u64_in {i:Int} (h0:0≤i) (h:i < 18446744073709551616):IntKind.u64.wrap i=i:=by
 show i % 18446744073709551616=i
 omega
theorem valF_ge:∀ (base:Nat) (t:List UInt8) (a n:Nat),1≤base→Lx.valF base a t=some n→a≤n
 | base,[],a,n,hb,h=>by cases h;exact Nat.le_refl _
 | base,c :: t,a,n,hb,h=>by
  rw [Lx.valF] at h
  split at h
  ·have:=valF_ge base t _ n hb h
   have:a≤base * a:=Nat.le_mul_of_pos_left a hb
   omega
  ·cases h
def bad3:Int × Bool × Bool:=(0,false,false)
def valR (z:Bool) (u:Bool):Option Nat→Int × Bool × Bool
 | none=>bad3
 | some n=>if z then bad3 else if n < Lx.limit u then (wrap64 n,u,true) else bad3
theorem valR_big (z u:Bool) (base:Nat) (t:List UInt8) (a:Nat) (hb:1≤base) (ha:18446744073709551616≤a):valR z u (Lx.valF base a t)=bad3:=by
 cases h:Lx.valF base a t with
 | none=>rfl
 | some n =>
  have:=valF_ge base t a n hb h
  have hl:¬ n < Lx.limit u:=by cases u <;> simp [Lx.limit] <;> omega
  simp only [valR,hl,if_false]
  split <;> rfl
theorem int_l0 (x:ByteArray) (hs:x.size≤140737488355328) (base:Nat) (hb:base=8∨base=10∨base=16) (u:Bool):∀ (n i a:Nat),i≤x.size→x.size - i=n→a < 18446744073709551616 →
  Ev (fun k=>rzinteger.l0 k x (base:Int) (a:Int) (i:Int) 0 u false) (valR (x.size == 0) u (Lx.valF base a (x.data.toList.drop i))):=by
 intro n
 induction n with
 | zero =>
  intro i a hi hn ha
  have e:x.data.toList.drop i=[]:=List.drop_eq_nil_of_le (by rw [sl];omega)
  rw [e,Lx.valF]
  refine ⟨1,fun k hk=>?_⟩
  obtain ⟨k,rfl⟩:∃ m,k=m+1:=⟨k - 1,by omega⟩
  simp only [rzinteger.l0,valR]
  rw [if_neg (by omega)]
  by_cases h0:x.size=0
  ·rw [if_pos (by omega),h0];rfl
  ·have hz:(x.size == 0)=false:=by simpa using h0
   rw [if_neg (by omega),hz]
   simp only [Bool.false_eq_true,if_false]
   cases u with
   | true =>
    have:a < Lx.limit true:=by simp [Lx.limit];omega
    simp only [if_true,this]
   | false =>
    by_cases h:a < 9223372036854775808
    ·have:a < Lx.limit false:=by simp [Lx.limit];omega
     rw [if_neg (by decide),if_neg (by omega),if_pos this]
    ·have:¬ a < Lx.limit false:=by simp [Lx.limit];omega
     rw [if_neg (by decide),if_pos (by omega),if_neg this]
     rfl
 | succ n ih =>
  intro i a hi hn ha
  have hlt:i < x.size:=by omega
  rw [sat x i hlt,Lx.valF]
  obtain ⟨r1,r2,r3,r4⟩:=hexI_ge x[i]
  have body:∀ k,2≤k→rzinteger.l0 (k+1) x (base:Int) (a:Int) (i:Int) 0 u false=if hexI x[i] < 0 then some bad3 else if (IntKind.u64.wrap (hexI x[i]))≥(base:Int) then some bad3 else if (base:Int)=0 then none else if (a:Int) > (IntKind.u64.wrap (Int.tdiv (IntKind.u64.wrap (18446744073709551615 - (IntKind.u64.wrap (hexI x[i])))) (base:Int))) then some bad3 else rzinteger.l0 k x (base:Int) (IntKind.u64.wrap ((IntKind.u64.wrap ((base:Int) * (a:Int)))+(IntKind.u64.wrap (hexI x[i])))) ((i+1:Nat):Int) 0 u false:=by
   intro k hk
   simp only [rzinteger.l0]
   rw [if_pos (by omega),if_pos (by omega),bt_nat x i hlt,hexf_k _ k hk]
   simp only [Option.bind_some]
   rw [wrap_nat (by omega) (by omega),cast1]
   rfl
  by_cases hx:Lx.isHex x[i]=true
  ·have h0:=r3.2 hx
   have hv:=r4 h0
   by_cases hd:Lx.hexVal x[i] < base
   ·rw [if_pos ⟨hx,hd⟩]
    have hd16:Lx.hexVal x[i] < 16:=by omega
    generalize Lx.hexVal x[i]=d at hv hd hd16 ⊢
    by_cases hov:base * a+d < 18446744073709551616
    ·obtain ⟨K,hK⟩:=ih (i+1) (base * a+d) (by omega) (by omega) hov
     refine ⟨K+3,fun k hk=>?_⟩
     obtain ⟨k,rfl⟩:∃ m,k=m+1:=⟨k - 1,by omega⟩
     have h:rzinteger.l0 k x (base:Int) ((base * a+d:Nat):Int) ((i+1:Nat):Int) 0 u false=_:=hK k (by omega)
     show rzinteger.l0 (k+1) x (base:Int) (a:Int) (i:Int) 0 u false=_
     have hba:((base * a:Nat):Int)=(base:Int) * (a:Int):=Int.natCast_mul _ _
     have hdiv:¬ (a:Int) > Int.tdiv (18446744073709551615 - (d:Int)) (base:Int):=by
      rw [Int.tdiv_eq_ediv_of_nonneg (by omega)]
      have e:(18446744073709551615 - (d:Int))=((18446744073709551615 - d:Nat):Int):=by omega
      rw [e,← Int.natCast_ediv]
      have:a≤(18446744073709551615 - d) / base:=(Nat.le_div_iff_mul_le (by omega)).2 (by rw [Nat.mul_comm];omega)
      exact Int.not_lt.2 (Int.ofNat_le.2 this)
     have hle:0≤Int.tdiv (18446744073709551615 - (d:Int)) (base:Int)∧Int.tdiv (18446744073709551615 - (d:Int)) (base:Int) < 18446744073709551616:=by
      rw [Int.tdiv_eq_ediv_of_nonneg (by omega)]
      have e:(18446744073709551615 - (d:Int))=((18446744073709551615 - d:Nat):Int):=by omega
      rw [e,← Int.natCast_ediv]
      have:=Nat.div_le_self (18446744073709551615 - d) base
      generalize (18446744073709551615 - d) / base=q at this ⊢
      omega
     rw [body k (by omega),hv,if_neg (by omega),u64_in (i:=(d:Int)) (by omega) (by omega),if_neg (by omega),if_neg (by omega),u64_in (i:=18446744073709551615 - (d:Int)) (by omega) (by omega),u64_in hle.1 hle.2,if_neg hdiv,u64_in (i:=(base:Int) * (a:Int)) (by omega) (by omega),u64_in (by omega) (by omega)]
     have ec:((base * a+d:Nat):Int)=(base:Int) * (a:Int)+(d:Int):=by rw [Int.natCast_add,hba]
     rw [← h,ec]
    ·have hbig:=valR_big (x.size == 0) u base (x.data.toList.drop (i+1)) (base * a+d) (by omega) (by omega)
     rw [hbig]
     refine ⟨3,fun k hk=>?_⟩
     obtain ⟨k,rfl⟩:∃ m,k=m+1:=⟨k - 1,by omega⟩
     show rzinteger.l0 (k+1) x (base:Int) (a:Int) (i:Int) 0 u false=_
     have hdiv:(a:Int) > Int.tdiv (18446744073709551615 - (d:Int)) (base:Int)∧0≤Int.tdiv (18446744073709551615 - (d:Int)) (base:Int):=by
      rw [Int.tdiv_eq_ediv_of_nonneg (by omega)]
      have e:(18446744073709551615 - (d:Int))=((18446744073709551615 - d:Nat):Int):=by omega
      rw [e,← Int.natCast_ediv]
      have:(18446744073709551615 - d) / base < a:=(Nat.div_lt_iff_lt_mul (by omega)).2 (by rw [Nat.mul_comm];omega)
      exact ⟨Int.ofNat_lt.2 this,Int.natCast_nonneg _⟩
     rw [body k (by omega),hv,if_neg (by omega),u64_in (i:=(d:Int)) (by omega) (by omega),if_neg (by omega),if_neg (by omega),u64_in (i:=18446744073709551615 - (d:Int)) (by omega) (by omega),u64_in hdiv.2 (by omega),if_pos hdiv.1]
   ·rw [if_neg (fun h=>hd h.2)]
    refine ⟨3,fun k hk=>?_⟩
    obtain ⟨k,rfl⟩:∃ m,k=m+1:=⟨k - 1,by omega⟩
    show rzinteger.l0 (k+1) x (base:Int) (a:Int) (i:Int) 0 u false=_
    rw [body k (by omega),hv,if_neg (by omega),u64_in (by omega) (by omega),if_pos (by omega)]
    rfl
  ·rw [if_neg (fun h=>hx h.1)]
   refine ⟨3,fun k hk=>?_⟩
   obtain ⟨k,rfl⟩:∃ m,k=m+1:=⟨k - 1,by omega⟩
   show rzinteger.l0 (k+1) x (base:Int) (a:Int) (i:Int) 0 u false=_
   have:hexI x[i] < 0:=by
    by_cases h:0≤hexI x[i]
    ·exact absurd (r3.1 h) hx
    ·omega
   rw [body k (by omega),if_pos this]
   rfl
def intR:Option (Nat × Bool)→Int × Bool × Bool
 | none=>bad3
 | some (n,u)=>(wrap64 n,u,true)
theorem valR_int (z u:Bool) (base:Nat) (l:List UInt8) (hz:z=true↔l=[]):valR z u (Lx.valF base 0 l)=intR (if l=[] then none else (Lx.okVal base (Lx.limit u) l).map fun n=>(n,u)):=by
 by_cases h:l=[]
 ·rw [if_pos h,hz.2 h,h];rfl
 ·have hz':z=false:=by cases z <;> simp_all
  rw [if_neg h,hz']
  unfold Lx.okVal
  cases hv:Lx.valF base 0 l with
  | none=>rfl
  | some n =>
   simp only [valR,Bool.false_eq_true,if_false,Option.bind_some]
   split
   ·rfl
   ·rfl
theorem ba_eq {x y:ByteArray} (h:x.data.toList=y.data.toList):x=y:=by
 cases x with
 | mk d=>cases y with
  | mk d'=>congr 1;exact Array.toList_inj.1 h
theorem begins2_0 (x:ByteArray) (p q:UInt8) (hs:x.size≤140737488355328):rzbegins.f x 0 ⟨#[p,q]⟩=some (x.data.toList.take 2 == [p,q]):=by
 have:=begins_two x 0 p q (by omega) hs
 simpa using this
theorem int_j1 (x:ByteArray) (hs:x.size≤140737488355328) (u:Bool) :
  Ev (fun k=>rzinteger.j1 k x 0 u false) (intR (if (Lx.radix x.data.toList).2=[] then none else (Lx.okVal (Lx.radix x.data.toList).1 (Lx.limit u) (Lx.radix x.data.toList).2).map fun n=>(n,u))):=by
 have hlen:x.data.toList.length=x.size:=sl x
 have hex16:∀ (p:UInt8) (d:List UInt8),x.data.toList=48 :: p :: d→Ev (fun k=>rzinteger.j2 k x 10 true 0 u false) (intR (if d=[] then none else (Lx.okVal 16 (Lx.limit u) d).map fun n=>(n,u))):=by
  intro p d hd
  have h2:2≤x.size:=by rw [← hlen,hd];simp
  have he:x.extract 2 x.size=strS d:=ba_eq (by
   simp only [ByteArray.data_extract,Array.toList_extract,List.extract_eq_take_drop,strS]
   rw [hd]
   simp only [List.drop_succ_cons,List.drop_zero]
   rw [List.take_of_length_le]
   rw [← hlen,hd];simp)
  have hds:(strS d).size=d.length:=rfl
  obtain ⟨K,hK⟩:=int_l0 (strS d) (by rw [hds];rw [hd] at hlen;simp at hlen;omega) 16 (by omega) u _ 0 0 (by omega) rfl (by omega)
  refine ⟨K+2,fun k hk=>?_⟩
  obtain ⟨k,rfl⟩:∃ m,k=m+2:=⟨k - 2,by omega⟩
  have h:rzinteger.l0 k (strS d) ((16:Nat):Int) ((0:Nat):Int) ((0:Nat):Int) 0 u false=_:=hK k (by omega)
  show rzinteger.j2 (k+1+1) x 10 true 0 u false=_
  simp only [rzinteger.j2,if_true]
  rw [if_pos (by omega)]
  simp only [rzinteger.j3]
  rw [he]
  refine h.trans ?_
  rw [valR_int]
  ·rfl
  ·rw [hds,beq_iff_eq,List.length_eq_zero_iff];exact Iff.rfl
 have plain:∀ (base:Nat),(base=8∨base=10∨base=16)→Ev (fun k=>rzinteger.j3 k x (base:Int) 0 u false) (intR (if x.data.toList=[] then none else (Lx.okVal base (Lx.limit u) x.data.toList).map fun n=>(n,u))):=by
  intro base hb
  obtain ⟨K,hK⟩:=int_l0 x hs base hb u _ 0 0 (by omega) rfl (by omega)
  refine ⟨K+1,fun k hk=>?_⟩
  obtain ⟨k,rfl⟩:∃ m,k=m+1:=⟨k - 1,by omega⟩
  have h:rzinteger.l0 k x (base:Int) ((0:Nat):Int) ((0:Nat):Int) 0 u false=_:=hK k (by omega)
  simp only [rzinteger.j3]
  refine h.trans ?_
  rw [List.drop_zero,valR_int]
  rw [← hlen,beq_iff_eq,List.length_eq_zero_iff]
 have hB1:=begins2_0 x 48 120 hs
 have hB2:=begins2_0 x 48 88 hs
 by_cases h1:x.data.toList.take 2=[48,120]
 ·obtain ⟨d,hd⟩:∃ d,x.data.toList=48 :: 120 :: d:=by
   refine ⟨x.data.toList.drop 2,?_⟩
   conv=>lhs;rw [← List.take_append_drop 2 x.data.toList]
   rw [h1];rfl
  have:=hex16 120 d hd
  refine Ev.step (f:=fun k=>rzinteger.j2 k x 10 true 0 u false) (fun k=>?_) ?_
  ·simp only [rzinteger.j1]
   rw [hB1,h1,beq_self_eq_true]
   simp only [Option.bind_some,if_true]
  ·rw [hd];exact this
 ·have hb1:(x.data.toList.take 2 == [48,120])=false:=beq_eq_false_iff_ne.2 h1
  by_cases h2:x.data.toList.take 2=[48,88]
  ·obtain ⟨d,hd⟩:∃ d,x.data.toList=48 :: 88 :: d:=by
    refine ⟨x.data.toList.drop 2,?_⟩
    conv=>lhs;rw [← List.take_append_drop 2 x.data.toList]
    rw [h2];rfl
   have:=hex16 88 d hd
   refine Ev.step (f:=fun k=>rzinteger.j2 k x 10 true 0 u false) (fun k=>?_) ?_
   ·simp only [rzinteger.j1]
    rw [hB1,hb1]
    simp only [Option.bind_some,Bool.false_eq_true,if_false]
    rw [hB2,h2,beq_self_eq_true]
    simp only [Option.bind_some]
   ·rw [hd];exact this
  ·have hb2:(x.data.toList.take 2 == [48,88])=false:=beq_eq_false_iff_ne.2 h2
   refine Ev.step (f:=fun k=>rzinteger.j2 k x 10 false 0 u false) (fun k=>?_) ?_
   ·simp only [rzinteger.j1]
    rw [hB1,hb1]
    simp only [Option.bind_some,Bool.false_eq_true,if_false]
    rw [hB2,hb2]
    simp only [Option.bind_some]
   ·by_cases h3:1 < x.size∧x.data.toList.head?=some 48
    ·obtain ⟨hs1,hh⟩:=h3
     have hr:Lx.radix x.data.toList=(8,x.data.toList.drop 1):=by
      refine radix_o _ ?_ ?_ (by omega) hh
      ·cases hp:Lib.hasPrefix x.data.toList [48,120] with
       | false=>rfl
       | true =>
        unfold Lib.hasPrefix at hp
        rw [List.isPrefixOf_iff_prefix] at hp
        obtain ⟨r,hr⟩:=hp
        exact absurd (by rw [← hr];rfl) h1
      ·cases hp:Lib.hasPrefix x.data.toList [48,88] with
       | false=>rfl
       | true =>
        unfold Lib.hasPrefix at hp
        rw [List.isPrefixOf_iff_prefix] at hp
        obtain ⟨r,hr⟩:=hp
        exact absurd (by rw [← hr];rfl) h2
     have hd:=plain 8 (by omega)
     obtain ⟨y,hy⟩:∃ y,x.data.toList=48 :: y:=by
      cases he:x.data.toList with
      | nil=>rw [he] at hh;cases hh
      | cons a y=>rw [he] at hh;exact ⟨y,by rw [Option.some.inj hh]⟩
     have hy0:y≠[]:=by rintro rfl;rw [hy] at hlen;simp at hlen;omega
     have hv:∀ lim,Lx.okVal 8 lim x.data.toList=Lx.okVal 8 lim y:=by
      intro lim
      unfold Lx.okVal
      rw [hy,Lx.valF,if_pos (by decide)]
      rfl
     refine Ev.step (f:=fun k=>rzinteger.j3 k x ((8:Nat):Int) 0 u false) (fun k=>?_) ?_
     ·simp only [rzinteger.j2]
      have hb0:bt x 0=48:=by
       have:=bt_nat x 0 (by omega)
       rw [show ((0:Nat):Int)=0 from rfl] at this
       rw [this]
       have e:=sat x 0 (by omega)
       rw [List.drop_zero,hy] at e
       rw [← (List.cons.inj e).1];rfl
      rw [if_neg (by decide),if_pos (by omega),if_pos (by omega),if_pos hb0]
      rfl
     ·rw [hr]
      simp only
      rw [hy] at hd ⊢
      rw [if_neg (by simp)] at hd
      simp only [List.drop_succ_cons,List.drop_zero]
      rw [if_neg hy0,← hv,hy]
      exact hd
    ·have hr:Lx.radix x.data.toList=(10,x.data.toList):=radix_d _ (by rw [hlen];exact h3)
     refine Ev.step (f:=fun k=>rzinteger.j3 k x ((10:Nat):Int) 0 u false) (fun k=>?_) ?_
     ·simp only [rzinteger.j2]
      rw [if_neg (by decide)]
      by_cases hs1:1 < x.size
      ·have hb0:¬ bt x 0=48:=by
        have:=bt_nat x 0 (by omega)
        rw [show ((0:Nat):Int)=0 from rfl] at this
        rw [this]
        intro e
        have e0:=sat x 0 (by omega)
        rw [List.drop_zero] at e0
        have e48:x[0]=48:=UInt8.toNat_inj.1 (by have:(48:UInt8).toNat=48:=rfl;omega)
        exact h3 ⟨hs1,by rw [e0,e48];rfl⟩
       rw [if_pos (by omega),if_pos (by omega),if_neg hb0]
       rfl
      ·rw [if_neg (by omega)]
       rfl
     ·rw [hr]
      exact plain 10 (by omega)
theorem last_get (x:ByteArray) (h:0 < x.size):x.data.toList.getLast?=some x[x.size - 1]:=by
 have hl:x.data.toList.length=x.size:=sl x
 rw [List.getLast?_eq_getElem?,hl,List.getElem?_eq_getElem (by omega)]
 rfl
theorem integer_ev (x:ByteArray) (hs:x.size≤140737488355328):Ev (fun k=>rzinteger.f k x) (intR (Lx.integer x.data.toList)):=by
 have hl:x.data.toList.length=x.size:=sl x
 by_cases h1:1 < x.size
 ·have hlast:=last_get x (by omega)
  have hbt:bt x ((x.size:Int) - 1)=(x[x.size - 1].toNat:Int):=by
   have:=bt_nat x (x.size - 1) (by omega)
   rwa [show ((x.size - 1:Nat):Int)=(x.size:Int) - 1 by omega] at this
  have hw:wrap64 ((x.size:Int) - 1)=(x.size:Int) - 1:=wrap_nat (by omega) (by omega)
  have head:∀ k,rzinteger.f k x=rzinteger.j0 k x (Lx.suffixed x.data.toList) 0 false false:=by
   intro k
   simp only [rzinteger.f]
   rw [if_pos (by omega),hw,if_pos (by omega),if_pos (by omega),hbt]
   unfold Lx.suffixed
   rw [hlast]
   by_cases hu:x[x.size - 1]=117
   ·rw [if_pos (by rw [hu];rfl),hu];rfl
   ·have hu':¬ (x[x.size - 1].toNat:Int)=117:=fun e=>hu (UInt8.toNat_inj.1 (by have:(117:UInt8).toNat=117:=rfl;omega))
    rw [if_neg hu']
    congr 1
    by_cases hU:x[x.size - 1]=85
    ·rw [hU];rfl
    ·have e1:((x[x.size - 1].toNat:Int) == 85)=false:=beq_eq_false_iff_ne.2 (fun e=>hU (UInt8.toNat_inj.1 (by have:(85:UInt8).toNat=85:=rfl;omega)))
     rw [e1]
     have e2:((some x[x.size - 1]:Option UInt8) == some 117)=false:=by simpa using hu
     have e3:((some x[x.size - 1]:Option UInt8) == some 85)=false:=by simpa using hU
     rw [e2,e3];rfl
  refine Ev.congr head ?_
  cases hsu:Lx.suffixed x.data.toList with
  | true =>
   have he:x.extract 0 (x.size - 1)=strS (x.data.toList.dropLast):=ba_eq (by
    simp only [ByteArray.data_extract,Array.toList_extract,List.extract_eq_take_drop,strS,List.drop_zero]
    rw [List.dropLast_eq_take,hl];rfl)
   have hb:Lx.body x.data.toList=x.data.toList.dropLast:=by unfold Lx.body;rw [hsu];rfl
   have hj:=int_j1 (strS (x.data.toList.dropLast)) (by show x.data.toList.dropLast.length≤_;rw [List.length_dropLast];omega) true
   refine Ev.step (f:=fun k=>rzinteger.j1 k (strS (x.data.toList.dropLast)) 0 true false) (fun k=>?_) ?_
   ·simp only [rzinteger.j0,if_true]
    rw [hw,if_pos (by omega),if_pos (by omega)]
    rw [show ((x.size:Int) - 1).toNat=x.size - 1 by omega,he]
   ·unfold Lx.integer
    rw [hb,hsu]
    exact hj
  | false =>
   have hb:Lx.body x.data.toList=x.data.toList:=by unfold Lx.body;rw [hsu];rfl
   refine Ev.step (f:=fun k=>rzinteger.j1 k x 0 false false) (fun k=>?_) ?_
   ·simp only [rzinteger.j0,Bool.false_eq_true,if_false]
   ·unfold Lx.integer
    rw [hb,hsu]
    exact int_j1 x hs false
 ·have head:∀ k,rzinteger.f k x=rzinteger.j0 k x false 0 false false:=by
   intro k
   simp only [rzinteger.f]
   rw [if_neg (by omega)]
  refine Ev.congr head ?_
  refine Ev.step (f:=fun k=>rzinteger.j1 k x 0 false false) (fun k=>?_) ?_
  ·simp only [rzinteger.j0,Bool.false_eq_true,if_false]
  ·have hj:=int_j1 x hs false
   cases hx:x.data.toList with
   | nil=>rw [hx] at hj;exact hj
   | cons c t =>
    have ht:t=[]:=by
     rw [hx] at hl
     cases t with
     | nil=>rfl
     | cons d t=>simp at hl;omega
    subst ht
    rw [hx] at hj
    have r1:Lx.radix [c]=(10,[c]):=radix_d _ (by simp)
    unfold Lx.integer
    cases hsu:Lx.suffixed [c] with
    | false =>
     have hb:Lx.body [c]=[c]:=by unfold Lx.body;rw [hsu];rfl
     rw [hb]
     exact hj
    | true =>
     have hb:Lx.body [c]=[]:=by unfold Lx.body;rw [hsu];rfl
     rw [hb]
     have r0:Lx.radix []=(10,[]):=rfl
     rw [r0]
     simp only [if_true]
     rw [r1] at hj
     have hc:c=117∨c=85:=by
      unfold Lx.suffixed at hsu
      simpa using hsu
     have hnone:Lx.okVal 10 (Lx.limit false) [c]=none:=by
      rcases hc with rfl | rfl <;> decide
     simp only [List.cons_ne_nil,if_false] at hj
     rw [hnone] at hj
     exact hj
def strQ (q:UInt8):Nat→List UInt8→Option (List UInt8 × Nat)
 | 0,_=>none
 | _+1,[]=>none
 | n+1,c :: t=>if c=q then some ([],1) else match Lx.char (c :: t) with
  | none=>none
  | some (v,k)=>match strQ q n ((c :: t).drop k) with
   | none=>none
   | some (vs,m)=>some (v :: vs,k+m)
theorem strQ_F:∀ n t,strQ 34 n t=Lx.strF n t
 | 0,_=>rfl
 | _+1,[]=>rfl
 | n+1,c :: t=>by
  rw [strQ,Lx.strF]
  split
  ·rfl
  ·cases h:Lx.char (c :: t) with
   | none=>rfl
   | some p =>
    obtain ⟨v,k⟩:=p
    simp only
    rw [strQ_F n]
    cases Lx.strF n ((c :: t).drop k) with
    | none=>rfl
    | some r=>rfl
theorem strQ_more (q:UInt8):∀ (n m:Nat) (t:List UInt8),t.length < n→t.length < m→strQ q n t=strQ q m t
 | 0,_,t,h,_=>by omega
 | _+1,0,t,_,h=>by omega
 | n+1,m+1,[],_,_=>rfl
 | n+1,m+1,c :: t,h,h'=>by
  rw [strQ,strQ]
  split
  ·rfl
  ·cases hc:Lx.char (c :: t) with
   | none=>rfl
   | some p =>
    obtain ⟨v,k⟩:=p
    have hk:=char_len _ _ _ hc
    simp only
    rw [strQ_more q n m ((c :: t).drop k) (by rw [List.length_drop];omega) (by rw [List.length_drop];omega)]
def quR (q:UInt8) (v:List UInt8) (d:Nat):Option (List UInt8 × Nat)→Int × ByteArray
 | none=>(0,⟨#[]⟩)
 | some (vs,m)=>if q=39 then (if (v ++ vs).length=1 then (((d+m:Nat):Int),strS (v ++ vs)) else (0,⟨#[]⟩)) else (((d+m:Nat):Int),strS (v ++ vs))
theorem strS_snoc (v:List UInt8) (c:UInt8):strS v ++ strOfNums [(c.toNat:Int)]=strS (v ++ [c]):=by
 apply ba_eq
 rw [ByteArray.data_append,Array.toList_append]
 have:∀ c:UInt8,(strOfNums [(c.toNat:Int)]).data.toList=[c]:=u8_all _ (by decide +kernel)
 rw [this]
 rfl
section
variable (s:ByteArray)
theorem char_f (a:Nat) (hs:s.size≤140737488355328) (ha:a≤s.size):rzchar.f s (a:Int)=some (match Lx.char (s.data.toList.drop a) with | some (c,k)=>((c.toNat:Int),(k:Int)) | none=>(0,0)):=by
 unfold rzchar.f
 rw [if_pos ⟨hs,by omega,by omega⟩,Int.toNat_natCast]
 cases Lx.char (s.data.toList.drop a) with
 | none=>rfl
 | some p=>rfl
theorem quoted_l0 (hs:s.size≤140737488355328) (a:Nat) (q:UInt8):∀ (n b:Nat) (v:List UInt8),a < b→b≤s.size→s.size - b=n→v.length≤b →
  Ev (fun k=>rzquoted.l0 k s (a:Int) (q.toNat:Int) (strS v) (b:Int)) (quR q v (b - a) (strQ q (n+1) (s.data.toList.drop b))):=by
 have stop:∀ (b:Nat) (v:List UInt8) (k:Nat),a < b→b < s.size→rzquoted.j1 (k+1) s (a:Int) (q.toNat:Int) (strS v) (b:Int) false=some (quR q v (b - a) (some ([],1))):=by
  intro b v k hab hb
  simp only [rzquoted.j1]
  rw [if_neg (by decide),if_neg (by omega),wrap_nat (i:=(b:Int)+1) (by omega) (by omega),wrap_nat (by omega) (by omega)]
  have e:((b - a+1:Nat):Int)=(b:Int)+1 - (a:Int):=by omega
  show _=some (if q=39 then (if (v ++ []).length=1 then (((b - a+1:Nat):Int),strS (v ++ [])) else (0,⟨#[]⟩)) else (((b - a+1:Nat):Int),strS (v ++ [])))
  rw [List.append_nil,e]
  by_cases h39:q=39
  ·rw [if_pos (by rw [h39];rfl),if_pos h39]
   have hsz:((strS v).size:Int)=(v.length:Int):=rfl
   rw [hsz]
   by_cases h1:v.length=1
   ·rw [if_pos (by omega),if_pos h1]
   ·rw [if_neg (by omega),if_neg h1]
  ·rw [if_neg (fun e=>h39 (UInt8.toNat_inj.1 (by have:(39:UInt8).toNat=39:=rfl;omega))),if_neg h39]
 intro n
 induction n using Nat.strongRecOn with
 | _ n ih =>
  intro b v hab hb hn hv
  by_cases hlt:b < s.size
  ·have hd:=sat s b hlt
   rw [hd,strQ]
   by_cases hq:s[b]=q
   ·rw [if_pos hq]
    refine ⟨2,fun k hk=>?_⟩
    obtain ⟨k,rfl⟩:∃ m,k=m+1+1:=⟨k - 2,by omega⟩
    show rzquoted.l0 (k+1+1) s (a:Int) (q.toNat:Int) (strS v) (b:Int)=_
    rw [rzquoted.l0,if_pos (by omega),if_pos (by omega),bt_nat s b hlt,hq]
    rw [show (((q.toNat:Int)) != ((q.toNat:Int)))=false by simp]
    exact stop b v k hab hlt
   ·rw [if_neg hq]
    have hne:((s[b].toNat:Int) != (q.toNat:Int))=true:=by
     simp only [bne_iff_ne,ne_eq]
     exact fun e=>hq (UInt8.toNat_inj.1 (by omega))
    have hcf:=char_f s b hs (by omega)
    rw [hd] at hcf
    cases hc:Lx.char (s[b] :: s.data.toList.drop (b+1)) with
    | none =>
     rw [hc] at hcf
     refine ⟨2,fun k hk=>?_⟩
     obtain ⟨k,rfl⟩:∃ m,k=m+1+1:=⟨k - 2,by omega⟩
     show rzquoted.l0 (k+1+1) s (a:Int) (q.toNat:Int) (strS v) (b:Int)=_
     rw [rzquoted.l0,if_pos (by omega),if_pos (by omega),bt_nat s b hlt,hne]
     simp only [rzquoted.j1,if_true]
     rw [hcf]
     simp only [Option.bind_some,if_true]
     rfl
    | some p =>
     obtain ⟨c,j⟩:=p
     rw [hc] at hcf
     have hj:=char_len _ _ _ hc
     have hlen:(s[b] :: s.data.toList.drop (b+1)).length=s.size - b:=by rw [← hd,List.length_drop,sl]
     rw [hlen] at hj
     have hdj:(s[b] :: s.data.toList.drop (b+1)).drop j=s.data.toList.drop (b+j):=by rw [← hd,List.drop_drop]
     simp only
     rw [hdj]
     obtain ⟨K,hK⟩:=ih (s.size - (b+j)) (by omega) (b+j) (v ++ [c]) (by omega) (by omega) rfl (by simp;omega)
     have hfuel:strQ q n (s.data.toList.drop (b+j))=strQ q (s.size - (b+j)+1) (s.data.toList.drop (b+j)) :=
      strQ_more q _ _ _ (by rw [List.length_drop,sl];omega) (by rw [List.length_drop,sl];omega)
     rw [hfuel]
     refine ⟨K+2,fun k hk=>?_⟩
     obtain ⟨k,rfl⟩:∃ m,k=m+1+1:=⟨k - 2,by omega⟩
     have h:rzquoted.l0 k s (a:Int) (q.toNat:Int) (strS (v ++ [c])) ((b+j:Nat):Int)=_:=hK k (by omega)
     show rzquoted.l0 (k+1+1) s (a:Int) (q.toNat:Int) (strS v) (b:Int)=_
     rw [rzquoted.l0,if_pos (by omega),if_pos (by omega),bt_nat s b hlt,hne]
     simp only [rzquoted.j1,if_true]
     rw [hcf]
     simp only [Option.bind_some]
     rw [if_neg (by omega),strS_snoc]
     have hsz:(strS v).size+(strOfNums [(c.toNat:Int)]).size≤9223372036854775807:=by
      have e:=congrArg ByteArray.size (strS_snoc v c)
      rw [ByteArray.size_append] at e
      rw [e]
      show (v ++ [c]).length≤_
      simp;omega
     rw [if_pos hsz,wrap_nat (by omega) (by omega)]
     rw [show (b:Int)+(j:Int)=((b+j:Nat):Int) by omega,h]
     congr 1
     cases hsq:strQ q (s.size - (b+j)+1) (s.data.toList.drop (b+j)) with
     | none=>rfl
     | some r =>
      obtain ⟨vs,m⟩:=r
      simp only [quR,List.append_assoc,List.singleton_append]
      rw [show b+j - a+m=b - a+(j+m) by omega]
  ·have e:s.data.toList.drop b=[]:=List.drop_eq_nil_of_le (by rw [sl];omega)
   rw [e]
   refine ⟨2,fun k hk=>?_⟩
   obtain ⟨k,rfl⟩:∃ m,k=m+1+1:=⟨k - 2,by omega⟩
   show rzquoted.l0 (k+1+1) s (a:Int) (q.toNat:Int) (strS v) (b:Int)=_
   rw [rzquoted.l0,if_neg (by omega)]
   simp only [rzquoted.j1,Bool.false_eq_true,if_false]
   rw [if_pos (by omega)]
   rfl
end
section
variable (s:ByteArray)
theorem begins_any (x:List UInt8) (hx:x.length≤100) (a:Nat) (ha:a≤s.size) (hs:s.size≤140737488355328):rzbegins.f s (a:Int) (strS x)=some (x.isPrefixOf (s.data.toList.drop a)):=by
 have e2:((strS x).size:Int)=(x.length:Int):=rfl
 unfold rzbegins.f
 rw [e2,wrap_nat (by omega) (by omega)]
 by_cases h:(a:Int)+x.length≤s.size
 ·rw [if_pos h,if_pos (by omega),if_pos (by omega)]
  have e:(a:Int)+(x.length:Int)=((a+x.length:Nat):Int):=by omega
  rw [e,Int.toNat_natCast,Int.toNat_natCast,ext_take s a x.length (by omega),ByteArray.toList_eq,ByteArray.toList_eq]
  show some ((s.data.toList.drop a).take x.length == x)=_
  congr 1
  rw [Bool.eq_iff_iff,beq_iff_eq,List.isPrefixOf_iff_prefix,List.prefix_iff_eq_take]
  exact eq_comm
 ·rw [if_neg h]
  congr 1
  symm
  rw [Bool.eq_false_iff]
  intro hp
  rw [List.isPrefixOf_iff_prefix] at hp
  have:=hp.length_le
  rw [List.length_drop,sl] at this
  omega
theorem signs_l1 (hs:s.size≤140737488355328) (a:Nat) (ha:a≤s.size):∀ (n i:Nat) (L:List (List UInt8)),i≤L.length→L.length - i=n→L.length < 1000→(∀ x∈L,x.length≤100) →
  Ev (fun k=>rzone.l1 k s (a:Int) (L.map strS) (i:Int)) (match (L.drop i).find? (fun x=>x.isPrefixOf (s.data.toList.drop a)) with | some x=>(5,strS x,(a:Int),0) | none=>(0,⟨#[]⟩,0,110)):=by
 intro n
 induction n with
 | zero =>
  intro i L hi hn hL hx
  have e:L.drop i=[]:=List.drop_eq_nil_of_le (by omega)
  rw [e]
  refine ⟨1,fun k hk=>?_⟩
  obtain ⟨k,rfl⟩:∃ m,k=m+1:=⟨k - 1,by omega⟩
  show rzone.l1 (k+1) s (a:Int) (L.map strS) (i:Int)=_
  rw [rzone.l1,if_neg (by simp;omega)]
  rfl
 | succ n ih =>
  intro i L hi hn hL hx
  have hlt:i < L.length:=by omega
  have hg:rdOf ByteArray.empty (L.map strS) (i:Int)=strS L[i]:=by
   unfold rdOf
   rw [Int.toNat_natCast,List.getD_eq_getElem?_getD,List.getElem?_map,List.getElem?_eq_getElem hlt]
   rfl
  have hd:L.drop i=L[i] :: L.drop (i+1):=List.drop_eq_getElem_cons hlt
  have hb:=begins_any s L[i] (hx _ (List.getElem_mem hlt)) a ha hs
  rw [hd,List.find?_cons]
  cases hp:L[i].isPrefixOf (s.data.toList.drop a) with
  | true =>
   refine ⟨1,fun k hk=>?_⟩
   obtain ⟨k,rfl⟩:∃ m,k=m+1:=⟨k - 1,by omega⟩
   show rzone.l1 (k+1) s (a:Int) (L.map strS) (i:Int)=_
   rw [rzone.l1,if_pos (by simp;omega),if_pos (by omega),hg,hb,hp]
   simp only [Option.bind_some,if_true]
  | false =>
   refine Ev.step (f:=fun k=>rzone.l1 k s (a:Int) (L.map strS) ((i+1:Nat):Int)) (fun k=>?_) ?_
   ·show rzone.l1 (k+1) s (a:Int) (L.map strS) (i:Int)=_
    rw [rzone.l1,if_pos (by simp;omega),if_pos (by omega),hg,hb,hp]
    simp only [Option.bind_some,Bool.false_eq_true,if_false]
    rw [wrap_nat (by omega) (by omega),cast1]
   ·exact ih (i+1) L (by omega) (by omega) hL hx
theorem ref_signs:rzSigns.f=some (Lx.signs.map strS):=by decide +kernel
theorem q39 (t:List UInt8):(∀ v k,Lx.char t=some (v,k)→(quR 39 [] 1 (strQ 39 (t.length+1) t)).1=if t.head?=some 39∨(t.drop k).head?≠some 39 then 0 else ((k+2:Nat):Int))∧(Lx.char t=none→(quR 39 [] 1 (strQ 39 (t.length+1) t)).1=0):=by
 cases t with
 | nil=>exact ⟨(fun v k h=>nomatch h),fun _=>rfl⟩
 | cons c t =>
  rw [strQ]
  by_cases hc:c=39
  ·subst hc
   rw [if_pos rfl]
   exact ⟨fun v k h=>by rw [if_pos (.inl rfl)];rfl,fun _=>rfl⟩
  ·rw [if_neg hc]
   constructor
   ·intro v k h
    have hk:=char_len _ _ _ h
    have hh:¬ (c :: t).head?=some 39:=by simpa using hc
    rw [h]
    simp only
    cases hd:(c :: t).drop k with
    | nil =>
     rw [if_pos (.inr (by simp))]
     rfl
    | cons e r =>
     rw [show (c :: t).length=t.length+1 from rfl,strQ]
     by_cases he:e=39
     ·subst he
      rw [if_pos rfl,if_neg (by simpa using hc)]
      show (if ([] ++ [v]).length=1 then (((1+(k+1):Nat):Int),strS ([] ++ [v])) else (0,⟨#[]⟩)).1=_
      have e1:([] ++ [v]).length=1:=rfl
      rw [if_pos e1]
      show ((1+(k+1):Nat):Int)=((k+2:Nat):Int)
      omega
     ·rw [if_neg he,if_pos (.inr (by simpa using he))]
      cases hch:Lx.char (e :: r) with
      | none=>rfl
      | some p =>
       obtain ⟨v2,k2⟩:=p
       simp only
       cases hs2:strQ 39 t.length ((e :: r).drop k2) with
       | none=>rfl
       | some q =>
        obtain ⟨vs,m⟩:=q
        show (if ([] ++ (v :: v2 :: vs)).length=1 then (((1+(k+(k2+m)):Nat):Int),strS ([] ++ (v :: v2 :: vs))) else ((0:Int),(⟨#[]⟩:ByteArray))).1=0
        rw [if_neg (by simp)]
   ·intro h
    rw [h]
    rfl
theorem one_ev (hs:s.size≤140737488355328) (a:Nat) (ha:a < s.size) (d:Bool):Ev (fun k=>rzone.f k s (a:Int) d) (oneR (a:Int) (s.data.toList.drop a) (Lx.one d (s.data.toList.drop a))):=by
 have hd:=sat s a ha
 have hdl:(s.data.toList.drop a).length=s.size - a:=by rw [List.length_drop,sl]
 have head:Ev (fun k=>rzone.j0 k s (a:Int) (s[a].toNat:Int) (d && Lx.isDescB s[a])) (oneR (a:Int) (s.data.toList.drop a) (Lx.one d (s.data.toList.drop a)))→Ev (fun k=>rzone.f k s (a:Int) d) (oneR (a:Int) (s.data.toList.drop a) (Lx.one d (s.data.toList.drop a))):=by
  rintro ⟨K,hK⟩
  refine ⟨K+1,fun k hk=>?_⟩
  have h:rzone.j0 k s (a:Int) (s[a].toNat:Int) (d && Lx.isDescB s[a])=_:=hK k (by omega)
  show rzone.f k s (a:Int) d=_
  rw [rzone.f,if_pos (by omega),if_pos (by omega),bt_nat s a ha]
  cases d with
  | true =>
   rw [if_pos rfl,isDescByte_f _ k (by omega)]
   simp only [Option.bind_some]
   rw [Bool.true_and] at h
   exact h
  | false =>
   rw [if_neg (by decide)]
   rw [Bool.false_and] at h
   exact h
 refine head ?_
 clear head
 obtain ⟨c,hc⟩:∃ c,c=s[a]:=⟨_,rfl⟩
 obtain ⟨t,ht⟩:∃ t,t=s.data.toList.drop (a+1):=⟨_,rfl⟩
 rw [← hc,← ht] at hd
 rw [← hc]
 cases hb:(d && Lx.isDescB c) with
 | true =>
  have hde:=desc_ev s hs a _ a (Nat.le_refl _) (by omega) rfl
  refine Ev.step (f:=fun k=>rzone.l0 k s (a:Int) (a:Int)) (fun k=>?_) ?_
  ·show rzone.j0 (k+1) s (a:Int) (c.toNat:Int) true=_
   rw [rzone.j0,if_pos rfl]
  ·rw [Nat.add_sub_cancel_left] at hde
   have e:oneR (a:Int) (s.data.toList.drop a) (Lx.one d (s.data.toList.drop a))=if ((s.data.toList.drop a).takeWhile Lx.isDescB).length > 200 then (0,⟨#[]⟩,0,111) else (6,strS ((s.data.toList.drop a).take ((s.data.toList.drop a).takeWhile Lx.isDescB).length),(a:Int),0):=by
    rw [hd,Lx.one,if_pos hb]
    simp only
    split <;> rfl
   rw [e]
   exact hde
 | false =>
  have hwn:(c :: t)=s.data.toList.drop a:=hd.symm
  obtain ⟨n,hn⟩:∃ n,n=((c :: t).takeWhile Lx.isWord).length:=⟨_,rfl⟩
  have hnl:n≤s.size - a:=by
   rw [hn,hwn]
   have:=Lx.takeWhile_le Lx.isWord (s.data.toList.drop a)
   rwa [hdl] at this
  cases hl:Lx.isLetter c with
  | true =>
   have hone:Lx.one d (c :: t)=if n > 31 then .error 111 else .ok (if (c :: t).take n∈Lx.words then 2 else 1,n):=by
    simp only [Lx.one,hb,hl,if_true,Bool.false_eq_true,if_false,hn]
   have hw:=word_ev s hs a (by omega)
   rw [← hwn,← hn] at hw
   refine Ev.step (f:=fun k=>rzword.f k s (a:Int)) (fun k=>?_) ?_
   ·show rzone.j0 (k+1) s (a:Int) (c.toNat:Int) false=_
    rw [rzone.j0,if_neg (by decide),isLetter_f,hl]
    simp only [Option.bind_some,if_true]
    cases rzword.f k s (a:Int) <;> rfl
   ·rw [← hwn,hone]
    by_cases h31:n > 31
    ·rw [if_pos h31] at hw ⊢;exact hw
    ·rw [if_neg h31] at hw ⊢;exact hw
  | false =>
   cases hdg:Lx.isDigit c with
   | true =>
    have hone:Lx.one d (c :: t)=if (Lx.integer ((c :: t).take n)).isNone then .error 112 else .ok (3,n):=by
     simp only [Lx.one,hb,hl,hdg,if_true,Bool.false_eq_true,if_false,hn]
    obtain ⟨K1,h1⟩:=run_ev s hs _ a (by omega) rfl
    rw [← hwn,← hn] at h1
    have h1':∀ k,K1≤k→rzrun.f k s (a:Int)=some ((a+n:Nat):Int):=h1
    obtain ⟨K2,h2⟩:=integer_ev (strS ((c :: t).take n)) (by
     show ((c :: t).take n).length≤_
     rw [List.length_take];omega)
    have h2':∀ k,K2≤k→rzinteger.f k (strS ((c :: t).take n))=some (intR (Lx.integer ((c :: t).take n))):=h2
    refine ⟨K1+K2+1,fun k hk=>?_⟩
    obtain ⟨k,rfl⟩:∃ m,k=m+1:=⟨k - 1,by omega⟩
    show rzone.j0 (k+1) s (a:Int) (c.toNat:Int) false=_
    rw [rzone.j0,if_neg (by decide),isLetter_f,hl]
    simp only [Option.bind_some,Bool.false_eq_true,if_false]
    rw [isDigit_f,hdg]
    simp only [Option.bind_some,if_true]
    rw [h1' k (by omega)]
    simp only [Option.bind_some]
    rw [if_pos (by omega),if_pos (by omega),if_pos (by omega),Int.toNat_natCast,Int.toNat_natCast,ext_take s a n (by omega),← hwn,h2' k (by omega),hone]
    simp only [Option.bind_some]
    cases hi:Lx.integer ((c :: t).take n) with
    | none=>rfl
    | some p =>
     obtain ⟨m,u⟩:=p
     rfl
   | false =>
    have step0:∀ (b:Bool) (r:Int × ByteArray × Int × Int),(if (c.toNat:Int)=34 then true else ((c.toNat:Int) == 39))=b→Ev (fun k=>rzone.j2 k s (a:Int) (c.toNat:Int) b) r→Ev (fun k=>rzone.j0 k s (a:Int) (c.toNat:Int) false) r:=by
     intro b r hb2 he
     refine Ev.step (fun k=>?_) he
     show rzone.j0 (k+1) s (a:Int) (c.toNat:Int) false=_
     rw [rzone.j0,if_neg (by decide),isLetter_f,hl]
     simp only [Option.bind_some,Bool.false_eq_true,if_false]
     rw [isDigit_f,hdg]
     simp only [Option.bind_some,Bool.false_eq_true,if_false]
     by_cases h34:(c.toNat:Int)=34
     ·rw [if_pos h34] at hb2 ⊢;rw [hb2]
     ·rw [if_neg h34] at hb2 ⊢;rw [hb2]
    have htl:t.length=s.size - (a+1):=by rw [ht,List.length_drop,sl]
    have quo:∀ q:UInt8,c=q→Ev (fun k=>rzquoted.f k s (a:Int)) (quR q [] 1 (strQ q (t.length+1) t)):=by
     intro q hq
     have h:=quoted_l0 s hs a q _ (a+1) [] (by omega) (by omega) rfl (by simp)
     rw [← htl,← ht,show a+1 - a=1 by omega] at h
     refine Ev.congr (fun k=>?_) h
     rw [rzquoted.f,if_pos (by omega),if_pos (by omega),bt_nat s a ha,← hc,hq,wrap_nat (by omega) (by omega),cast1]
     rfl
    have j2t:∀ (k:Nat) (n v),rzquoted.f k s (a:Int)=some (n,v)→rzone.j2 (k+1) s (a:Int) (c.toNat:Int) true=if n=0 then some (0,⟨#[]⟩,0,113) else if (c.toNat:Int)=39 then (if 0≤(a:Int) then (if (a:Int)≤(wrap64 ((a:Int)+n)) then (if (wrap64 ((a:Int)+n))≤(s.size:Int) then (some (3,s.extract (a:Int).toNat ((wrap64 ((a:Int)+n)):Int).toNat,(a:Int),0)) else (none)) else (none)) else (none)) else (if 0≤(a:Int) then (if (a:Int)≤(wrap64 ((a:Int)+n)) then (if (wrap64 ((a:Int)+n))≤(s.size:Int) then (some (4,s.extract (a:Int).toNat ((wrap64 ((a:Int)+n)):Int).toNat,(a:Int),0)) else (none)) else (none)) else (none)):=by
     intro k n v h
     rw [rzone.j2,if_pos rfl,h]
     simp only [Option.bind_some]
    have cut:∀ (n:Nat) (kd:Int),a+n≤s.size→(if 0≤(a:Int) then (if (a:Int)≤(wrap64 ((a:Int)+(n:Int))) then (if (wrap64 ((a:Int)+(n:Int)))≤(s.size:Int) then (some (kd,s.extract (a:Int).toNat ((wrap64 ((a:Int)+(n:Int))):Int).toNat,(a:Int),(0:Int))) else (none)) else (none)) else (none))=some (kd,strS ((s.data.toList.drop a).take n),(a:Int),0):=by
     intro n kd h
     rw [wrap_nat (by omega) (by omega),if_pos (by omega),if_pos (by omega),if_pos (by omega)]
     rw [show (a:Int)+(n:Int)=((a+n:Nat):Int) by omega,Int.toNat_natCast,Int.toNat_natCast,ext_take s a n h]
    by_cases h39:c=39
    ·have hi39:(c.toNat:Int)=39:=by rw [h39];rfl
     refine step0 true _ (by rw [if_neg (by omega),hi39];rfl) ?_
     obtain ⟨K,hK⟩:=quo 39 h39
     have hK':∀ k,K≤k→rzquoted.f k s (a:Int)=some (quR 39 [] 1 (strQ 39 (t.length+1) t)):=hK
     clear hK
     obtain ⟨q1,q2⟩:=q39 t
     generalize quR 39 [] 1 (strQ 39 (t.length+1) t)=nv at hK' q1 q2
     obtain ⟨nq,vq⟩:=nv
     simp only at q1 q2
     refine ⟨K+1,fun k hk=>?_⟩
     obtain ⟨k,rfl⟩:∃ m,k=m+1:=⟨k - 1,by omega⟩
     show rzone.j2 (k+1) s (a:Int) (c.toNat:Int) true=_
     rw [j2t k _ _ (hK' k (by omega)),← hwn]
     cases hch:Lx.char t with
     | none =>
      have hone:Lx.one d (c :: t)=.error 113:=by
       simp only [Lx.one,hb,hl,hdg,Bool.false_eq_true,if_false,if_pos h39,hch]
      rw [if_pos (q2 hch),hone]
      rfl
     | some p =>
      obtain ⟨v,j⟩:=p
      have hj:=char_len _ _ _ hch
      have hq:=q1 v j hch
      by_cases hbad:t.head?=some 39∨(t.drop j).head?≠some 39
      ·have hone:Lx.one d (c :: t)=.error 113:=by
        simp only [Lx.one,hb,hl,hdg,Bool.false_eq_true,if_false,if_pos h39,hch]
        rw [if_pos hbad]
       rw [if_pos hbad] at hq
       rw [if_pos hq,hone]
       rfl
      ·have hone:Lx.one d (c :: t)=.ok (3,j+2):=by
        simp only [Lx.one,hb,hl,hdg,Bool.false_eq_true,if_false,if_pos h39,hch]
        rw [if_neg hbad]
       have hjl:j < t.length:=by
        rcases Nat.lt_or_ge j t.length with h | h
        ·exact h
        ·exact absurd (.inr (by rw [List.drop_eq_nil_of_le h];simp)) hbad
       rw [if_neg hbad] at hq
       rw [hq,if_neg (by omega),if_pos hi39,cut (j+2) 3 (by omega),hone,hwn]
       rfl
    ·by_cases h34:c=34
     ·have hi34:(c.toNat:Int)=34:=by rw [h34];rfl
      refine step0 true _ (by rw [if_pos hi34]) ?_
      obtain ⟨K,hK⟩:=quo 34 h34
      have hK':∀ k,K≤k→rzquoted.f k s (a:Int)=some (quR 34 [] 1 (strQ 34 (t.length+1) t)):=hK
      refine ⟨K+1,fun k hk=>?_⟩
      obtain ⟨k,rfl⟩:∃ m,k=m+1:=⟨k - 1,by omega⟩
      have h:=hK' k (by omega)
      rw [strQ_F] at h
      show rzone.j2 (k+1) s (a:Int) (c.toNat:Int) true=_
      cases hs2:Lx.strF (t.length+1) t with
      | none =>
       have hone:Lx.one d (c :: t)=.error 113:=by
        simp only [Lx.one,hb,hl,hdg,Bool.false_eq_true,if_false,if_neg h39,if_pos h34,hs2]
       rw [hs2] at h
       rw [j2t k _ _ h,← hwn,if_pos rfl,hone]
       rfl
      | some p =>
       obtain ⟨vs,m⟩:=p
       have hone:Lx.one d (c :: t)=.ok (4,m+1):=by
        simp only [Lx.one,hb,hl,hdg,Bool.false_eq_true,if_false,if_neg h39,if_pos h34,hs2]
       have hm:=Lx.strF_len _ _ _ _ hs2
       rw [hs2] at h
       have hqr:quR 34 [] 1 (some (vs,m))=(((m+1:Nat):Int),strS vs):=by
        show (if (34:UInt8)=39 then (if ([] ++ vs).length=1 then (((1+m:Nat):Int),strS ([] ++ vs)) else ((0:Int),(⟨#[]⟩:ByteArray))) else (((1+m:Nat):Int),strS ([] ++ vs)))=_
        rw [if_neg (by decide),List.nil_append,Nat.add_comm]
       rw [hqr] at h
       rw [j2t k _ _ h,if_neg (by omega),if_neg (by omega),cut (m+1) 4 (by omega),← hwn,hone]
       rfl
     ·have hone:Lx.one d (c :: t)=if Lx.signLen (c :: t)=0 then .error 110 else .ok (5,Lx.signLen (c :: t)):=by
       simp only [Lx.one,hb,hl,hdg,Bool.false_eq_true,if_false,if_neg h39,if_neg h34]
      have hn34:¬ (c.toNat:Int)=34:=fun e=>h34 (UInt8.toNat_inj.1 (by have:(34:UInt8).toNat=34:=rfl;omega))
      have hn39:((c.toNat:Int) == 39)=false:=beq_eq_false_iff_ne.2 (fun e=>h39 (UInt8.toNat_inj.1 (by have:(39:UInt8).toNat=39:=rfl;omega)))
      refine step0 false _ (by rw [if_neg hn34,hn39]) ?_
      have hs1:=signs_l1 s hs a (by omega) _ 0 Lx.signs (by simp) rfl (by decide) (by decide)
      refine Ev.step (f:=fun k=>rzone.l1 k s (a:Int) (Lx.signs.map strS) ((0:Nat):Int)) (fun k=>?_) ?_
      ·show rzone.j2 (k+1) s (a:Int) (c.toNat:Int) false=_
       rw [rzone.j2,if_neg (by decide),ref_signs]
       rfl
      ·rw [List.drop_zero,← hwn] at hs1
       rw [← hwn,hone]
       unfold Lx.signLen
       cases hf:Lx.signs.find? (fun x=>x.isPrefixOf (c :: t)) with
       | none =>
        rw [hf] at hs1
        exact hs1
       | some x =>
        rw [hf] at hs1
        have hp:=List.find?_some hf
        rw [List.isPrefixOf_iff_prefix] at hp
        have hx:x∈Lx.signs:=List.mem_of_find?_eq_some hf
        have hx0:x.length≠0:=by
         have:∀ y∈Lx.signs,y.length≠0:=by decide
         exact this x hx
        simp only [Option.map_some,Option.getD_some]
        rw [if_neg hx0]
        have e:(c :: t).take x.length=x:=(List.prefix_iff_eq_take.1 hp).symm
        show Ev _ ((5:Int),strS ((c :: t).take x.length),(a:Int),(0:Int))
        rw [e]
        exact hs1
end
end Go.Proofs.YtadgddipkbdnbaaGreatDoor.Q
namespace Go.Proofs.YtadgddipkbdnbaaGreatDoor.Q
open Go.Proofs.YtadgddipkbdnbaaGreatDoor Go.RowKit Go.Proofs.YtadgddipkbdnbaaGreatDoorW.PrintWords Go.Proofs.YtadgddipkbdnbaaGreatDoorW.PrintLast Go.Proofs.YtadgddipkbdnbaaGreatDoorW.PrintMore
attribute [local go_sem] max2_int min2_int max_two min_two max_three min_three max_four min_four
theorem eqA38 (d:Nat) (w:World) (x0 y0:Int) (x1 y1:ByteArray) (x2 y2:Int) :
  (Op.equalIn (d+2) 38 (.agg #[.int .i64 x0,.string x1,.int .i64 x2]) (.agg #[.int .i64 y0,.string y1,.int .i64 y2])).run Tryz.prog w=.ok (x0 == y0 && (x1.toList == y1.toList && (x2 == y2))) w:=by
 refine eqA_of Tryz.underlying38 (by kernel_rfl) ?_;refine eqf_cons (by rfl) (by go_simp;rfl) (by go_simp;rfl) (by go_simp) ?_;refine eqf_cons (by rfl) (by go_simp;rfl) (by go_simp;rfl) (by go_simp) ?_;exact eqf_last (by rfl) (by go_simp;rfl) (by go_simp;rfl) (by go_simp)
end Go.Proofs.YtadgddipkbdnbaaGreatDoor.Q
namespace Go.Proofs.YtadgddipkbdnbaaGreatDoor.Q
open Go.RowKit Go.Proofs.YtadgddipkbdnbaaGreatDoor YtadgddipkbdnbaaGreatDoorW.PrintWords YtadgddipkbdnbaaGreatDoorW.PrintLast
theorem strS_toList (l:List UInt8):(strS l).toList=l:=by
 rw [ByteArray.toList_eq];rfl
theorem strS_size (l:List UInt8):(strS l).size=l.length:=rfl
def open2:List Lx.Tok→Bool
 | []=>false
 | u :: _=>u.kind == 6
theorem opens_cons (t:Lx.Tok) (l:List Lx.Tok):Lx.opens (t :: l)=((t.kind == 2 && t.text == Lx.probeW) || (t.kind == 5 && t.text == [44] && open2 l)):=by
 cases l <;> rfl
theorem opens_f (pre:List Lx.Tok) (hl:pre.length≤5000):rzopens.f (pre.reverse.map tokS)=some (Lx.opens pre):=by
 unfold rzopens.f
 cases pre with
 | nil=>rfl
 | cons t l =>
  have hlen:((t :: l).reverse.map tokS).length=l.length+1:=by simp
  have hlast:rd_T38 ((t :: l).reverse.map tokS) (l.length:Int)=tokS t:=by
   unfold rd_T38
   rw [Int.toNat_natCast,List.getD_eq_getElem?_getD]
   simp
  have e1:wrap64 (((l.length+1:Nat):Int) - 1)=(l.length:Int):=by
   rw [wrap_nat (by omega) (by simp at hl;omega)];omega
  rw [hlen,if_neg (by omega),e1,if_pos (by omega),if_pos (by omega),hlast]
  have ht:((tokS t).f1).toList=t.text:=strS_toList _
  rw [ht]
  have hk:(tokS t).f0=t.kind:=rfl
  rw [hk]
  have second:(if ((l.length+1:Nat):Int)≥2 then (if t.kind=5 then (if t.text=([44]:List UInt8) then (if 0≤(wrap64 (((l.length+1:Nat):Int) - 2)) then (if (wrap64 (((l.length+1:Nat):Int) - 2)) < ((l.length+1:Nat):Int) then (some (((rd_T38 ((t :: l).reverse.map tokS) (wrap64 (((l.length+1:Nat):Int) - 2))).f0) == 6)) else (none)) else (none)) else (some false)) else (some false)) else (some false))
    = some (t.kind == 5 && t.text == [44] && open2 l):=by
   cases l with
   | nil=>simp [open2]
   | cons u l' =>
    have e2:wrap64 ((((u :: l').length+1:Nat):Int) - 2)=(l'.length:Int):=by
     simp at hl
     rw [wrap_nat (by simp;omega) (by simp;omega)];simp;omega
    have hsec:rd_T38 ((t :: u :: l').reverse.map tokS) (l'.length:Int)=tokS u:=by
     unfold rd_T38
     rw [Int.toNat_natCast,List.getD_eq_getElem?_getD]
     simp
    rw [e2,hsec,if_pos (by simp;omega)]
    by_cases h5:t.kind=5
    ·rw [if_pos h5]
     by_cases h44:t.text=[44]
     ·rw [if_pos h44,if_pos (by omega),if_pos (by simp;omega)]
      have:(tokS u).f0=u.kind:=rfl
      rw [this]
      simp [h5,h44,open2]
     ·rw [if_neg h44];simp [h5,h44,open2]
    ·rw [if_neg h5];simp [h5]
  by_cases h2:t.kind=2
  ·rw [if_pos h2]
   by_cases hp:t.text=[112,114,111,98,101]
   ·rw [if_pos hp]
    simp [opens_cons,h2,hp,Lx.probeW]
   ·rw [if_neg hp,second]
    congr 1
    simp [opens_cons,h2,hp,Lx.probeW]
  ·rw [if_neg h2,second]
   congr 1
   simp [opens_cons,h2]
def scR (sz:Nat):Except (List UInt8 × Int) (List Lx.Tok)→List S38 × Int × Int
 | .ok l=>(l.map tokS,0,0)
 | .error (r,e)=>([],((sz - r.length:Nat):Int),e)
section
variable (s:ByteArray)
theorem scan_ev (hs:s.size≤20000):∀ n a (pre:List Lx.Tok),a≤s.size→s.size - a=n→pre.length≤4000→Ev (fun k=>rzScan.l0 k s (a:Int) (pre.reverse.map tokS) 0 0) (scR s.size (Lx.scanR s.size pre (s.data.toList.drop a))):=by
 intro n
 induction n using Nat.strongRecOn with
 | _ n ih =>
  intro a pre ha hn hpre
  obtain ⟨K,hK⟩:=skipped_ev s (by omega) _ a ha rfl
  have hdl:(s.data.toList.drop a).length=s.size - a:=by rw [List.length_drop,sl]
  rw [Lx.scanR_eq]
  cases hsk:Lx.skip (s.data.toList.drop a) with
  | error c =>
   rw [hsk] at hK
   have hK':∀ k,K≤k→rzskipped.l0 k s (a:Int)=some (skR s.size (.error c)):=hK
   refine ⟨K+1,fun k hk=>?_⟩
   obtain ⟨k,rfl⟩:∃ m,k=m+1:=⟨k - 1,by omega⟩
   have h:=hK' k (by omega)
   simp only [rzScan.l0,rzskipped.f]
   rw [h]
   simp only [skR,Option.bind_some,Bool.false_eq_true,if_false]
   rfl
  | ok r =>
   rw [hsk] at hK
   have hK':∀ k,K≤k→rzskipped.l0 k s (a:Int)=some (skR s.size (.ok r)):=hK
   obtain ⟨i,hi,hil⟩:=Lx.skip_ok_suffix hsk
   have hrl:r.length=s.size - (a+i):=by rw [hi,List.length_drop,hdl];omega
   have hrd:r=s.data.toList.drop (a+i):=by rw [hi,List.drop_drop]
   have hb:s.size - r.length=a+i:=by omega
   cases r with
   | nil =>
    refine ⟨K+1,fun k hk=>?_⟩
    obtain ⟨k,rfl⟩:∃ m,k=m+1:=⟨k - 1,by omega⟩
    have h:=hK' k (by omega)
    simp only [rzScan.l0,rzskipped.f]
    rw [h]
    simp only [skR,Option.bind_some,if_true]
    rw [if_pos (by simp)]
    rfl
   | cons c t =>
    have hlt:a+i < s.size:=by simp at hrl;omega
    simp only [Lx.scanT]
    obtain ⟨K3,hK3⟩:=one_ev s (by omega) (a+i) hlt (Lx.opens pre)
    have hone:∀ k,K3≤k→rzone.f k s ((a+i:Nat):Int) (Lx.opens pre)=some (oneR ((a+i:Nat):Int) (c :: t) (Lx.one (Lx.opens pre) (c :: t))):=fun k hk=>by
     have:=hK3 k hk
     rw [← hrd] at this
     exact this
    have hb':((s.size - (c :: t).length:Nat):Int)=((a+i:Nat):Int):=by rw [hb]
    cases ho:Lx.one (Lx.opens pre) (c :: t) with
    | error e =>
     simp only [ho,oneR] at hone
     have he:e≠0:=by rcases Lx.one_err ho with h | h | h | h <;> omega
     refine ⟨K+K3+1,fun k hk=>?_⟩
     obtain ⟨k,rfl⟩:∃ m,k=m+1:=⟨k - 1,by omega⟩
     have h:=hK' k (by omega)
     simp only [rzScan.l0,rzskipped.f]
     rw [h]
     simp only [skR,Option.bind_some,if_true]
     rw [hb',if_neg (by omega),opens_f pre (by omega)]
     simp only [Option.bind_some]
     rw [hone k (by omega)]
     simp only [Option.bind_some]
     rw [if_neg he]
     show _=some (([]:List S38),((s.size - (c :: t).length:Nat):Int),e)
     rw [hb']
    | ok p =>
     obtain ⟨kind,m⟩:=p
     simp only [ho,oneR] at hone
     have hm:=Lx.one_len _ _ _ _ ho
     simp only
     by_cases h4:pre.length=4000
     ·rw [if_pos h4]
      refine ⟨K+K3+1,fun k hk=>?_⟩
      obtain ⟨k,rfl⟩:∃ m,k=m+1:=⟨k - 1,by omega⟩
      have h:=hK' k (by omega)
      simp only [rzScan.l0,rzskipped.f]
      rw [h]
      simp only [skR,Option.bind_some,if_true]
      rw [hb',if_neg (by omega),opens_f pre (by omega)]
      simp only [Option.bind_some]
      rw [hone k (by omega)]
      simp only [Option.bind_some,if_true]
      rw [if_pos (by simp;omega)]
      show _=some (([]:List S38),((s.size - (c :: t).length:Nat):Int),2)
      rw [hb']
     ·rw [if_neg h4]
      have hml:m≤s.size - (a+i):=by rw [← hrl];exact hm.2
      have hih:=ih (s.size - (a+i+m)) (by omega) (a+i+m) (⟨kind,(c :: t).take m,s.size - (c :: t).length⟩ :: pre) (by omega) rfl (by simp;omega)
      have hdrop:(c :: t).drop m=s.data.toList.drop (a+i+m):=by rw [hrd,List.drop_drop]
      rw [hdrop]
      obtain ⟨K2,hK2⟩:=hih
      refine ⟨K+K2+K3+1,fun k hk=>?_⟩
      obtain ⟨k,rfl⟩:∃ m,k=m+1:=⟨k - 1,by omega⟩
      have h:=hK' k (by omega)
      have h2:rzScan.l0 k s ((a+i+m:Nat):Int) _ 0 0=_:=hK2 k (by omega)
      simp only [rzScan.l0,rzskipped.f]
      rw [h]
      simp only [skR,Option.bind_some,if_true]
      rw [hb',if_neg (by omega),opens_f pre (by omega)]
      simp only [Option.bind_some]
      rw [hone k (by omega)]
      simp only [Option.bind_some,if_true]
      rw [if_neg (by simp;omega),if_pos (by simp;omega),strS_size,List.length_take,Nat.min_eq_left hm.2,wrap_nat (by omega) (by omega)]
      rw [show ((a+i:Nat):Int)+(m:Int)=((a+i+m:Nat):Int) by omega]
      rw [← h2]
      congr 1
      simp only [List.reverse_cons,List.map_append,List.map_cons,List.map_nil]
      congr 2
      show (⟨kind,strS ((c :: t).take m),((a+i:Nat):Int)⟩:S38)=⟨kind,_,((s.size - (c :: t).length:Nat):Int)⟩
      rw [hb']
      rfl
end
theorem refScan_ev (s:ByteArray):Ev (fun k=>rzScan.f k s) ((Lx.scan s.data.toList).1.map tokS,((Lx.scan s.data.toList).2.1:Int),(Lx.scan s.data.toList).2.2):=by
 rw [Lx.scan_eq]
 have hsz:s.data.toList.length=s.size:=sl s
 by_cases hs:s.size > 20000
 ·rw [if_pos (by omega)]
  refine ⟨0,fun k _=>?_⟩
  simp only [rzScan.f]
  rw [if_pos (by omega)]
  rfl
 ·rw [if_neg (by omega),hsz]
  obtain ⟨K,hK⟩:=scan_ev s (by omega) _ 0 [] (by omega) rfl (by simp)
  refine ⟨K,fun k hk=>?_⟩
  have h:rzScan.l0 k s ((0:Nat):Int) _ 0 0=_:=hK k hk
  simp only [rzScan.f]
  rw [if_neg (by omega)]
  simp only [List.drop_zero] at h
  rw [show ((0:Nat):Int)=0 from rfl] at h
  refine h.trans ?_
  cases hr:Lx.scanR s.size [] s.data.toList with
  | ok l=>rfl
  | error p=>obtain ⟨r,e⟩:=p;rfl
end Go.Proofs.YtadgddipkbdnbaaGreatDoor.Q
namespace Go.Proofs.Lx
open Go.Proofs.YtadgddipkbdnbaaGreatDoor
def kindM (t:List UInt8):Int:=match scan t with
 | ([x],_,e)=>if e=0∧x.text=t then x.kind else 0
 | _=>0
theorem scan_ok {t:List UInt8} (h:(scan t).2.2=0):t.length≤20000∧scanR t.length [] t=.ok (scan t).1∧(scan t).2.1=0:=by
 rw [scan_eq] at h ⊢
 split
 ·rename_i h2;rw [if_pos h2] at h;cases h
 ·rename_i h2
  rw [if_neg h2] at h
  cases hr:scanR t.length [] t with
  | ok l=>exact ⟨by omega,rfl,rfl⟩
  | error p=>rw [hr] at h;exact absurd h (scanR_err (x:=p.1) (e:=p.2) hr)
theorem scan_of_ok {t:List UInt8} {l:List Tok} (h:t.length≤20000) (hr:scanR t.length [] t=.ok l):scan t=(l,0,0):=by
 rw [scan_eq,if_neg (by omega),hr]
theorem kindM_eq (t:List UInt8):kindM t=if (scan t).2.2=0 then (if (scan t).1.length=1 then (match (scan t).1.head? with | some x=>if x.text=t then x.kind else 0 | none=>0) else 0) else 0:=by
 unfold kindM
 rcases hs:scan t with ⟨l,a,e⟩
 match l with
 | []=>simp
 | [x]=>by_cases h:e=0 <;> simp [h]
 | x :: y :: l=>simp
end Go.Proofs.Lx
