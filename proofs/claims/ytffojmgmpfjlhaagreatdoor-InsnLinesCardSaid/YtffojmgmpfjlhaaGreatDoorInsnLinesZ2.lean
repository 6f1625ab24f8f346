/- Parts of the proof: InsnLines: what an instruction is printed as is parsed as it, and assembled to its encoding: the law returns true for every input; the inputs read as they did; the package-level variables hold what the program's text lays in them: the tied card. -/
import Derived.Test.YtffojmgmpfjlhaaGreatDoorInsP17
import Derived.Test.YtffojmgmpfjlhaaGreatDoorInsnLinesZ1
import Derived.Lib.SplitLaws
import Derived.Lib.ItoaLen
import Derived.Lib.ParseIntBCases
set_option linter.unusedVariables false
set_option linter.unusedSimpArgs false
namespace Go.Proofs.YtffojmgmpfjlhaaGreatDoor.Q
open Go.Proofs.Ix hiding rd
open Go Go.Proofs.YtffojmgmpfjlhaaGreatDoor Go.RowKit Go.Proofs.YtffojmgmpfjlhaaGreatDoorW.PrintWords
def spl:List UInt8→List (List UInt8)
 | []=>[[]]
 | c :: l=>if c=10 then [] :: spl l else (match spl l with | h :: t=>(c :: h) :: t | []=>[[c]])
theorem spl_miss:∀ l:List UInt8,(∀ k:Nat,l[k]?≠some 10)→spl l=[l]
 | [],_=>rfl
 | c :: l,h=>by
  have h0:c≠10:=fun e=>h 0 (by simp [e])
  simp only [spl,if_neg h0,spl_miss l (fun k=>by have:=h (k+1);simpa using this)]
theorem spl_hit:∀ (l:List UInt8) (i:Nat),l[i]?=some 10→(∀ k:Nat,k < i→l[k]?≠some 10)→spl l=l.take i :: spl (l.drop (i+1))
 | [],i,h,_=>by simp at h
 | c :: l,0,h,_=>by
  have:c=10:=by simpa using h
  simp only [spl,if_pos this]
  rfl
 | c :: l,i+1,h,hn=>by
  have h0:c≠10:=fun e=>hn 0 (by omega) (by simp [e])
  simp only [spl,if_neg h0,spl_hit l i (by simpa using h) (fun k hk=>by have:=hn (k+1) (by omega);simpa using this)]
  rfl
theorem nl_one (s:ByteArray):Lib.indexB s nlB=Lib.indexByte s.data.toList 10:=by
 rw [Lib.one s nlB rfl]
 rfl
theorem ext_toList (s:ByteArray) (a b:Nat):(s.extract a b).data.toList=(s.data.toList.drop a).take (b - a):=by
 simp [ByteArray.data_extract,Array.toList_extract,List.take_drop]
theorem pieces_spl:∀ (n:Nat) (s:ByteArray),s.size≤n→(pieces s).map (fun x:ByteArray=>x.data.toList)=spl s.data.toList:=by
 intro n
 induction n with
 | zero =>
  intro s hs
  have h0:s.data.toList=[]:=by
   have:s.data.size=0:=by have h:s.data.size=s.size:=rfl;omega
   have h2:s.data=#[]:=Array.eq_empty_of_size_eq_zero this
   rw [h2]
  unfold pieces
  have hm:Lib.indexB s nlB=-1:=by rw [nl_one,h0];rfl
  rw [Lib.splitB_miss _ _ _ _ hm,h0]
  simp [spl,h0]
 | succ n ih =>
  intro s hs
  unfold pieces
  rcases Lib.indexB_cases s nlB with hm | ⟨i,hi,hle⟩
  ·rw [Lib.splitB_miss _ _ _ _ hm]
   rw [nl_one] at hm
   rw [spl_miss _ (Lib.indexByte_none hm)]
   rfl
  ·have hle:i+1≤s.size:=hle
   have hsz:s.data.toList.length=s.size:=by rw [Array.length_toList];rfl
   rw [Lib.countB_hit s nlB i (by decide) hi,Nat.add_comm,Lib.splitB_hit _ _ _ _ i hi]
   have h9:=hi
   rw [nl_one] at h9
   obtain ⟨g1,g2⟩:=Lib.indexByte_some h9
   rw [spl_hit _ i g1 g2]
   have hr:=ih (s.extract (i+nlB.size) s.size) (by rw [ByteArray.size_extract];have:nlB.size=1:=rfl;omega)
   unfold pieces at hr
   have hn1:nlB.size=1:=rfl
   rw [List.map_cons,hr,ext_toList,ext_toList,hn1,List.take_of_length_le (l:=s.data.toList.drop (i+1)) (by rw [List.length_drop,hsz];exact Nat.le_refl _),List.drop_zero]
   rfl
theorem ba_inj:∀ {a b:List ByteArray},a.map (fun x:ByteArray=>x.data.toList)=b.map (fun x:ByteArray=>x.data.toList)→a=b
 | [],[],_=>rfl
 | [],_ :: _,h=>by simp at h
 | _ :: _,[],h=>by simp at h
 | ⟨⟨x⟩⟩ :: a,⟨⟨y⟩⟩ :: b,h=>by
  simp only [List.map_cons,List.cons.injEq] at h
  rw [ba_inj h.2]
  have:x=y:=h.1
  rw [this]
theorem bt_nat (s:ByteArray) (i:Nat) (h:i < s.size):s.data.toList[i]?=some s[i]∧bt s (i:Int)=(s[i].toNat:Int):=by
 refine ⟨?_,?_⟩
 ·rw [List.getElem?_eq_getElem (by rw [Array.length_toList];exact h),Array.getElem_toList];rfl
 ·unfold bt
  rw [dif_pos (by simpa using h)]
  simp
theorem hit_at {l:L9} {c:Nat} (h:l.hit c=true):∃ hlt:l.at_ < l.s.size,l.s[l.at_].toNat=c:=by
 unfold L9.hit L9.peek at h
 rw [Bool.and_eq_true] at h
 obtain ⟨h1,h2⟩:=h
 have h1:=of_decide_eq_true h1
 rw [dif_pos h1] at h2
 exact ⟨h1,by simpa using h2⟩
theorem hit_get {l:L9} {c:Nat} (hc:c < 256) (h:l.hit c=true):l.s.data.toList[l.at_]?=some (UInt8.ofNat c):=by
 obtain ⟨h1,h2⟩:=hit_at h
 rw [(bt_nat l.s l.at_ h1).1,← h2]
 simp
def encE (l:L9):List Int:=encI l.op l.a l.b l.imm
theorem code_all:∀ (es:List En) (out:List Int),(∀ x∈es.map En.l,x.label.size=0∧x.far=false)→codeZ [] es out=.ok (out ++ (es.map En.l).flatMap encE)
 | [],out,h=>by simp [codeZ]
 | e :: es,out,h=>by
  obtain ⟨h1,h2⟩:=h e.l (by simp)
  rw [codeZ]
  unfold En.fix
  rw [if_pos h1]
  simp only
  rw [if_neg (by rw [h2];decide),code_all es _ (fun x hx=>h x (by simp at hx ⊢;exact .inr hx))]
  simp [encE]
theorem same_self2 (l:List Int):lzsameBytes.f l l=some true:=by
 unfold lzsameBytes.f
 simp
theorem asmOut_at (s:ByteArray):asmOut s 0=if 20000 < s.size then ([],[],0,2) else asmFin 0 (asmZ s):=by
 unfold asmOut
 rw [if_neg (show ¬ ((0:Int) < 0∨(1099511627776:Int) < 0) by decide)]
theorem pM_snoc (M:Nat) (c:UInt8):∀ (l:List UInt8) (acc u:Nat),Lib.parseUintM M acc l=.ok u→48≤c.toNat∧c.toNat≤57→u < 1844674407370955162→u * 10+(c.toNat - 48)≤M→Lib.parseUintM M acc (l ++ [c])=.ok (u * 10+(c.toNat - 48))
 | [],acc,u,h,hc,h1,h2=>by
  cases h
  simp only [List.nil_append,Lib.parseUintM]
  rw [if_pos hc,if_neg (by omega),if_neg (by omega)]
 | d :: l,acc,u,h,hc,h1,h2=>by
  rw [List.cons_append]
  unfold Lib.parseUintM at h ⊢
  by_cases g1:48≤d.toNat∧d.toNat≤57
  ·rw [if_pos g1] at h ⊢
   by_cases g2:1844674407370955162≤acc
   ·rw [if_pos g2] at h;cases h
   ·rw [if_neg g2] at h ⊢
    by_cases g3:M < acc * 10+(d.toNat - 48)
    ·rw [if_pos g3] at h;cases h
    ·rw [if_neg g3] at h ⊢
     exact pM_snoc M c l _ u h hc h1 h2
  ·rw [if_neg g1] at h;cases h
theorem dig_nat {d:Nat} (h:d < 10):(UInt8.ofNat (48+d)).toNat=48+d:=by
 simp;omega
theorem pM_dec:∀ (n u:Nat),u≤n→u≤18446744073709551615→Lib.parseUintM 18446744073709551615 0 (Lib.decDigits u)=.ok u
 | 0,u,h,hm=>by
  obtain rfl:u=0:=by omega
  rw [Lib.decDigits_one (by omega)]
  rfl
 | n+1,u,h,hm=>by
  by_cases h10:u < 10
  ·rw [Lib.decDigits_one h10]
   simp only [Lib.parseUintM]
   rw [dig_nat h10,if_pos (by omega),if_neg (by omega),if_neg (by omega)]
   simp
  ·rw [Lib.decDigits,dif_neg h10]
   have ih:=pM_dec n (u / 10) (by omega) (by omega)
   have hd:=dig_nat (d:=u % 10) (by omega)
   rw [pM_snoc _ _ _ _ _ ih (by rw [hd];omega) (by omega) (by rw [hd];omega),hd]
   congr 1
   omega
theorem dec_ne (u:Nat):Lib.decDigits u≠[]:=by
 rw [Lib.decDigits]
 split <;> simp
theorem dec_dig:∀ (n u:Nat),u≤n→∀ c∈Lib.decDigits u,isDig c=true
 | 0,u,h,c,hc=>by
  obtain rfl:u=0:=by omega
  rw [Lib.decDigits_one (by omega)] at hc
  simp at hc;rw [hc];decide
 | n+1,u,h,c,hc=>by
  have hk:∀ d:Fin 10,isDig (UInt8.ofNat (48+d.val))=true:=by decide
  by_cases h10:u < 10
  ·rw [Lib.decDigits_one h10] at hc
   simp only [List.mem_singleton] at hc
   rw [hc];exact hk ⟨u,h10⟩
  ·rw [Lib.decDigits,dif_neg h10,List.mem_append] at hc
   rcases hc with hc | hc
   ·exact dec_dig n (u / 10) (by omega) c hc
   ·simp only [List.mem_singleton] at hc
    rw [hc];exact hk ⟨u % 10,by omega⟩
theorem nD_le:∀ (k u:Nat),u < 10 ^ (k+1)→Lib.nDigits u≤k+1
 | 0,u,h=>by rw [Lib.nDigits_small (by omega)];omega
 | k+1,u,h=>by
  by_cases h10:u < 10
  ·rw [Lib.nDigits_small h10];omega
  ·rw [Lib.nDigits_big h10]
   have:=nD_le k (u / 10) (by rw [Nat.pow_succ] at h;omega)
   omega
theorem dec_len {u:Nat} (h:u≤9223372036854775808):(Lib.decDigits u).length≤19:=by
 rw [Lib.decDigits_length]
 exact nD_le 18 u (by omega)
theorem toS (l:List UInt8):(bS l).data.toList=l:=by simp [bS]
theorem pv_dec {u:Nat} (h:u≤9223372036854775807):pv (bS (Lib.decDigits u))=some (u:Int):=by
 unfold pv
 rw [toS]
 cases hd:Lib.decDigits u with
 | nil=>exact absurd hd (dec_ne u)
 | cons c r =>
  have hc:=dec_dig u u (Nat.le_refl _) c (by rw [hd];exact List.mem_cons_self)
  have hc2:48≤c.toNat∧c.toNat≤57:=by
   simp only [isDig,Bool.and_eq_true,decide_eq_true_eq] at hc
   exact ⟨UInt8.le_iff_toNat_le.1 hc.1,UInt8.le_iff_toNat_le.1 hc.2⟩
  rw [Lib.parseIntB_plain 64 c r (by omega) (by omega),← hd]
  unfold Lib.parseUintB
  rw [if_neg (dec_ne u),show 2 ^ 64 - 1=18446744073709551615 from rfl,pM_dec u u (Nat.le_refl _) (by omega)]
  simp only [Lib.signlessC]
  rw [if_neg (by omega)]
theorem pv_neg {u:Nat} (h:u≤9223372036854775808) (s:ByteArray) (hs:s.data.toList=Lib.decDigits u):pv ((⟨#[45]⟩:ByteArray) ++ s)=some (-(u:Int)):=by
 unfold pv
 have e:((⟨#[45]⟩:ByteArray) ++ s).data.toList=45 :: Lib.decDigits u:=by rw [← hs];simp [ByteArray.data_append]
 rw [e,Lib.parseIntB_minus]
 unfold Lib.parseUintB
 rw [if_neg (dec_ne u),show 2 ^ 64 - 1=18446744073709551615 from rfl,pM_dec u u (Nat.le_refl _) (by omega)]
 simp only [Lib.signedC]
 rw [if_neg (by omega)]
theorem ext_toL (s:ByteArray) (a b:Nat):(s.extract a b).data.toList=(s.data.toList.drop a).take (b - a):=by
 simp [ByteArray.data_extract,Array.toList_extract,List.take_drop]
def Cur (l:L9) (t:List UInt8):Prop:=l.s.data.toList.drop l.at_=t∧l.at_≤l.s.size
def mv (l:L9) (n:Nat):L9:=l.go (l.at_+n)
theorem sz_list (s:ByteArray):s.data.toList.length=s.size:=by rw [Array.length_toList];rfl
theorem Cur.len {l:L9} {t:List UInt8} (h:Cur l t):l.at_+t.length=l.s.size:=by
 have:=h.2
 rw [← h.1,List.length_drop,sz_list]
 omega
theorem Cur.adv {l:L9} {x t:List UInt8} (h:Cur l (x ++ t)):Cur (Q.mv l x.length) t:=by
 have hl:=h.len
 rw [List.length_append] at hl
 refine ⟨?_,by show l.at_+x.length≤l.s.size;omega⟩
 show l.s.data.toList.drop (l.at_+x.length)=t
 rw [← List.drop_drop,h.1,List.drop_left]
theorem Cur.mv1 {l:L9} {c:UInt8} {t:List UInt8} (h:Cur l (c :: t)):Cur (Q.mv l 1) t:=Cur.adv (x:=[c]) h
theorem Cur.at0 {l:L9} {c:UInt8} {t:List UInt8} (h:Cur l (c :: t)):∃ hlt:l.at_ < l.s.size,l.s[l.at_]=c:=by
 have hl:=h.len
 rw [List.length_cons] at hl
 have hlt:l.at_ < l.s.size:=by omega
 refine ⟨hlt,?_⟩
 have h1:=h.1
 rw [List.drop_eq_getElem_cons (by rw [sz_list];exact hlt)] at h1
 have h2:=(List.cons.inj h1).1
 rw [Array.getElem_toList] at h2
 exact h2
theorem Cur.hit {l:L9} {c:UInt8} {t:List UInt8} (h:Cur l (c :: t)) (n:Nat):l.hit n=(c.toNat == n):=by
 obtain ⟨h1,h2⟩:=h.at0
 unfold L9.hit L9.peek
 rw [dif_pos h1,decide_eq_true h1,h2]
 rfl
theorem Cur.peek {l:L9} {c:UInt8} {t:List UInt8} (h:Cur l (c :: t)):l.peek=c.toNat:=by
 obtain ⟨h1,h2⟩:=h.at0
 unfold L9.peek
 rw [dif_pos h1,h2]
theorem Cur.peek0 {l:L9} (h:Cur l []):l.peek=0:=by
 have hl:=h.len
 rw [List.length_nil] at hl
 unfold L9.peek
 rw [dif_neg (by omega)]
theorem Cur.run {l:L9} {x t:List UInt8} (h:Cur l (x ++ t)) (p:UInt8→Bool) (hx:∀ c∈x,p c=true) (ht:∀ c t',t=c :: t'→p c=false):runB p l.s l.at_=l.at_+x.length:=by
 unfold runB runEnd
 rw [h.1,List.takeWhile_append_of_pos hx]
 have:t.takeWhile p=[]:=by
  cases t with
  | nil=>rfl
  | cons c t'=>rw [List.takeWhile_cons,if_neg (by rw [ht c t' rfl];decide)]
 rw [this,List.append_nil]
theorem Cur.word {l:L9} {x t:List UInt8} (h:Cur l (x ++ t)):(l.s.extract l.at_ (l.at_+x.length)).data.toList=x:=by
 rw [ext_toL,h.1,Nat.add_sub_cancel_left,List.take_left]
def Tl (t:List UInt8):Prop:=∀ c t',t=c :: t'→isWd c=false∧isBl c=false
theorem wd_dig:∀ c:UInt8,isWd c=false→isDig c=false:=by
 intro c h
 unfold isWd at h
 rw [Bool.or_eq_false_iff] at h
 exact h.2
theorem Cur.sk0 {l:L9} {t:List UInt8} (h:Cur l t) (ht:∀ c t',t=c :: t'→isBl c=false):l.sk=l:=by
 unfold L9.sk
 rw [Cur.run (x:=[]) (t:=t) h isBl (fun c hc=>absurd hc List.not_mem_nil) ht]
 rfl
theorem Cur.sk1 {l:L9} {t:List UInt8} (h:Cur l (32 :: t)) (ht:∀ c t',t=c :: t'→isBl c=false):l.sk=Q.mv l 1∧l.sp=true:=by
 have hr:=Cur.run (x:=[32]) (t:=t) h isBl (fun c hc=>by simp at hc;rw [hc];decide) ht
 unfold L9.sk L9.sp
 rw [hr]
 refine ⟨rfl,?_⟩
 exact decide_eq_true (by simp)
def regW (x:Int):List UInt8:=[114,UInt8.ofNat (48+x.toNat)]
theorem reg_fin:∀ x:Fin 8,(UInt8.ofNat (48+x.val)).toNat=48+x.val:=by decide
theorem rg_ok {l:L9} {x:Int} {t:List UInt8} (h0:0≤x) (h7:x≤7) (h:Cur l (regW x ++ t)) (ht:Tl t):l.rg=some (x,mv l 2):=by
 have hx:=reg_fin ⟨x.toNat,by omega⟩
 have h1:Cur l (114 :: UInt8.ofNat (48+x.toNat) :: t):=h
 have h2:Cur (mv l 1) (UInt8.ofNat (48+x.toNat) :: t):=h1.mv1
 have h3:Cur (mv (mv l 1) 1) t:=h2.mv1
 have e1:l.next=mv l 1:=rfl
 have e2:l.next.next=mv (mv l 1) 1:=rfl
 have hp:(mv l 1).peek=48+x.toNat:=h2.peek.trans hx
 have hw:wdI ((mv (mv l 1) 1).peek:Int)=false:=by
  cases t with
  | nil=>rw [h3.peek0];decide
  | cons c t'=>rw [h3.peek,wdI_eq];exact (ht c t' rfl).1
 unfold L9.rg
 rw [h1.hit,if_pos (by decide),e2,e1,hp,if_pos (by omega),if_neg (by rw [hw];decide)]
 congr 2
 omega
theorem dg_ok {l:L9} {u:Nat} {t:List UInt8} (hu:u≤9223372036854775808) (h:Cur l (Lib.decDigits u ++ t)) (ht:Tl t) (minus:Bool) (hm:minus=false→u≤9223372036854775807) :
  l.dg minus=some (some (if minus=true then -(u:Int) else (u:Int)),mv l (Lib.decDigits u).length):=by
 have hr:=h.run isDig (dec_dig u u (Nat.le_refl _)) (fun c t' e=>wd_dig c (ht c t' e).1)
 have hw:=h.word
 have hE:l.dgE=l.at_+(Lib.decDigits u).length:=hr
 have hS:l.dgS.data.toList=Lib.decDigits u:=by unfold L9.dgS;rw [hE];exact hw
 have hsz:l.dgS.size=(Lib.decDigits u).length:=by rw [← sz_list,hS]
 have h1:0 < (Lib.decDigits u).length:=List.length_pos_iff.2 (dec_ne u)
 unfold L9.dg
 rw [hsz,if_pos h1,if_pos (dec_len hu),hE]
 cases minus with
 | true=>rw [if_pos rfl,if_pos rfl,pv_neg hu _ hS];rfl
 | false =>
  have e:l.dgS=bS (Lib.decDigits u):=by
   rw [← hS];unfold bS;rw [Array.toArray_toList]
  rw [if_neg (by decide),if_neg (by decide),e,pv_dec (hm rfl)];rfl
end Go.Proofs.YtffojmgmpfjlhaaGreatDoor.Q
namespace Go.Proofs.YtffojmgmpfjlhaaGreatDoor.Q
open Go.Proofs.Ix hiding rd
open Go.Proofs.YtffojmgmpfjlhaaGreatDoor Go.RowKit Go.Proofs.YtffojmgmpfjlhaaGreatDoorW.PrintWords
theorem bytes_ten {f:Int}:bytesM f≤10∧(bytesM f=10↔f=3):=by
 unfold bytesM
 by_cases h3:f=3
 ·simp [h3]
 ·simp only [h3,if_false,iff_false]
  split
  ·omega
  ·split <;> omega
theorem bytesOf_g (k:Nat) (f:Int) (h:1≤k):insn_bytesOf.f k f=some (bytesM f:Int):=by
 obtain ⟨k,rfl⟩:∃ m,k=m+1:=⟨k - 1,by omega⟩
 exact bytesOf_f k f
theorem bytes_in (f:Int):bytesM f=0∨bytesM f=1∨bytesM f=2∨bytesM f=10:=by
 unfold bytesM
 (repeat' split) <;> simp
theorem fits_f (f n:Int) (k:Nat) (hk:1≤k):insn_fits.f k f n=some (fitsM f n):=by
 unfold insn_fits.f fitsM
 by_cases h3:f=3
 ·rw [if_pos h3,if_pos h3]
 rw [if_neg h3,if_neg h3]
 by_cases h8:f=8
 ·rw [if_pos h8,if_pos h8]
  by_cases c:n≥0
  ·rw [if_pos c];simp;omega
  ·rw [if_neg c];simp;omega
 rw [if_neg h8,if_neg h8,bytesOf_g k f hk,Option.bind_some]
 have h10:bytesM f≠10:=fun h=>h3 (bytes_ten.2.1 h)
 rcases bytes_in f with e | e | e | e
 ·rw [e];simp
 ·rw [e]
  simp only [show ¬ (((1:Nat):Int)=0) by omega,show (((1:Nat):Int)=1) by omega,if_false,if_true,show ¬ ((1:Nat)=0) by omega]
  by_cases c:n≥-64
  ·rw [if_pos c];simp;omega
  ·rw [if_neg c];simp;omega
 ·rw [e]
  simp only [show ¬ (((2:Nat):Int)=0) by omega,show ¬ (((2:Nat):Int)=1) by omega,show (((2:Nat):Int)=2) by omega,if_false,if_true,show ¬ ((2:Nat)=0) by omega,show ¬ ((2:Nat)=1) by omega]
  by_cases c:n≥-8192
  ·rw [if_pos c];simp;omega
  ·rw [if_neg c];simp;omega
 ·exact absurd e h10
def chkD (op a b imm:Int):Int :=
 if nameM op=[] then 20
 else if 0≤a∧a≤7∧0≤b∧b≤7∧(hasA (formM op)=true∨a=0)∧(hasB (formM op)=true∨b=0)∧fitsM (formM op) imm=true then 0 else 20
theorem check_f (op a b imm:Int) (k:Nat) (hk:1≤k):insn_Check.f k op a b imm=some (chkD op a b imm):=by
 unfold insn_Check.f chkD insn_kindOf.f
 rw [Option.bind_some]
 by_cases c1:nameM op=[]
 ·rw [if_pos ((bS_nil _).2 c1),if_pos c1]
 rw [if_neg (fun h=>c1 ((bS_nil _).1 h)),if_neg c1]
 simp only [hasA_f,hasB_f,fits_f _ _ k hk,Option.bind_some]
 generalize hasA (formM op)=A
 generalize hasB (formM op)=B
 generalize fitsM (formM op) imm=F
 cases A <;> cases B <;> cases F <;> simp only [Bool.false_eq_true,if_true,if_false,true_or,false_or,and_true,and_false,true_and] <;> (repeat' split) <;> first | rfl | (exfalso;omega)
theorem encode_f (op a b imm:Int) (k:Nat):insn_Encode.f (k+20) op a b imm=some (if chkD op a b imm=0 then (encI op a b imm,0) else ([],chkD op a b imm)):=by
 unfold insn_Encode.f
 rw [check_f _ _ _ _ _ (by omega),Option.bind_some]
 by_cases c:chkD op a b imm=0
 ·rw [if_pos c,if_pos c,leO_up (f:=fun k=>insn_appended.f k [] op a b imm) (insn_appended.mono _ _ _ _ _) (appended_f [] op a b imm (by simp)) k,Option.bind_some]
  rfl
 ·rw [if_neg c,if_neg c]
end Go.Proofs.YtffojmgmpfjlhaaGreatDoor.Q
namespace Go.Proofs.YtffojmgmpfjlhaaGreatDoor.Q
open Go.Proofs.Ix hiding rd
open Go Go.Proofs.YtffojmgmpfjlhaaGreatDoor Go.RowKit Go.Proofs.YtffojmgmpfjlhaaGreatDoorW.PrintWords
def numW (v:Int):List UInt8:=Lib.itoa v
def distW (v:Int):List UInt8:=if v < 0 then 46 :: numW v else 46 :: 43 :: numW v
def addrW (b v:Int):List UInt8:=91 :: (regW b ++ ((if v > 0 then 43 :: numW v else if v < 0 then numW v else []) ++ [93]))
def memW (b:Int):List UInt8:=91 :: (regW b ++ [93])
def rdW (a b v:Int):Rd→List UInt8
 | .a=>regW a
 | .b=>regW b
 | .num=>numW v
 | .mem=>memW b
 | .addr=>addrW b v
 | .target=>distW v
def upd (a b v:Int):Rd→L9→L9
 | .a,l=>{ l with a:=a }
 | .b,l=>{ l with b:=b }
 | .num,l=>{ l with imm:=v }
 | .mem,l=>{ l with b:=b }
 | .addr,l=>{ l with b:=b,imm:=v }
 | .target,l=>{ l with far:=false,imm:=v }
theorem num_neg {v:Int} (h:v < 0):numW v=45 :: Lib.decDigits v.natAbs:=by unfold numW Lib.itoa;rw [if_pos h]
theorem num_pos {v:Int} (h:¬ v < 0):numW v=Lib.decDigits v.toNat:=by unfold numW Lib.itoa;rw [if_neg h]
theorem dec_head (u:Nat):∃ c r,Lib.decDigits u=c :: r∧isDig c=true:=by
 cases h:Lib.decDigits u with
 | nil=>exact absurd h (dec_ne u)
 | cons c r=>exact ⟨c,r,rfl,dec_dig u u (Nat.le_refl _) c (by rw [h];exact List.mem_cons_self)⟩
theorem dig_no {c:UInt8} (h:isDig c=true):c.toNat≠45∧c.toNat≠43∧isBl c=false:=by
 have key:∀ c:UInt8,isDig c=true→c.toNat≠45∧c.toNat≠43∧isBl c=false:=u8_all _ (by decide +kernel)
 exact key c h
theorem head_append {x t:List UInt8} {c:UInt8} {r:List UInt8} (h:x=c :: r):∀ d t',x ++ t=d :: t'→d=c:=by
 intro d t' e
 rw [h,List.cons_append] at e
 exact (List.cons.inj e).1.symm
theorem Cur.set {l l':L9} {t:List UInt8} (h:Cur l t) (hs:l'.s=l.s) (ha:l'.at_=l.at_):Cur l' t:=by
 unfold Cur at h ⊢
 rw [hs,ha]
 exact h
theorem num_ok {l:L9} {v:Int} {t:List UInt8} (h0:-9223372036854775808≤v) (h1:v≤9223372036854775807) (hf:fitsM (formM l.op) v=true) (h:Cur l (numW v ++ t)) (ht:Tl t):l.num=some { mv l (numW v).length with imm:=v }:=by
 unfold L9.num
 by_cases hn:v < 0
 ·have e:=num_neg hn
  rw [e] at h ⊢
  have h2:Cur (mv l 1) (Lib.decDigits v.natAbs ++ t):=h.mv1
  have hh:l.hit 45=true:=by rw [Cur.hit (t:=Lib.decDigits v.natAbs ++ t) h];rfl
  rw [hh]
  show L9.setN (formM l.op) ((mv l 1).dg true)=_
  rw [dg_ok (by omega) h2 ht true (fun e=>by cases e),if_pos rfl]
  unfold L9.setN
  have ev:-((v.natAbs:Nat):Int)=v:=by omega
  simp only
  rw [ev,if_pos hf]
  congr 1
  show L9.mk _ _ _ _ _ _ _ _ _=L9.mk _ _ _ _ _ _ _ _ _
  congr 1
  show l.at_+1+_=l.at_+(_+1)
  omega
 ·have e:=num_pos hn
  rw [e] at h ⊢
  obtain ⟨c,r,e2,hc⟩:=dec_head v.toNat
  have hh:l.hit 45=false:=by
   have h3:=h
   rw [e2] at h3
   rw [Cur.hit (t:=r ++ t) h3]
   exact beq_eq_false_iff_ne.2 (dig_no hc).1
  rw [hh]
  show L9.setN (formM l.op) (l.dg false)=_
  rw [dg_ok (by omega) h ht false (fun _=>by omega),if_neg (by decide)]
  unfold L9.setN
  have ev:((v.toNat:Nat):Int)=v:=by omega
  simp only
  rw [ev,if_pos hf]
theorem tl93 (t:List UInt8):Tl (93 :: t):=by
 intro c t' e
 rw [← (List.cons.inj e).1]
 decide
theorem bl_of {c:UInt8} (h:isDig c=true):isBl c=false:=(dig_no h).2.2
theorem close_ok {l:L9} {t:List UInt8} (h:Cur l (93 :: t)):l.close=some (mv l 1):=by
 unfold L9.close
 rw [h.hit,if_pos (by decide)]
 rfl
theorem addr2_ok {l:L9} {v:Int} {t:List UInt8} (h0:-9223372036854775808≤v) (h1:v≤9223372036854775807) (hf:fitsM (formM l.op) v=true) (hi:v=0→l.imm=0)
  (h:Cur l ((if v > 0 then 43 :: numW v else if v < 0 then numW v else []) ++ 93 :: t)) :
  l.addr2=some { mv l ((if v > 0 then 43 :: numW v else if v < 0 then numW v else []).length+1) with imm:=v }:=by
 by_cases hp:v > 0
 ·rw [if_pos hp] at h ⊢
  have hn:¬ v < 0:=by omega
  rw [num_pos hn] at h ⊢
  have h2:Cur (mv l 1) (Lib.decDigits v.toNat ++ 93 :: t):=h.mv1
  obtain ⟨c,r,e2,hc⟩:=dec_head v.toNat
  have g1:l.hit 43=true:=by rw [Cur.hit (t:=Lib.decDigits v.toNat ++ 93 :: t) h];rfl
  have g2:(mv l 1).hit 45=false:=by
   have h3:=h2
   rw [e2] at h3
   rw [Cur.hit (t:=r ++ 93 :: t) h3]
   exact beq_eq_false_iff_ne.2 (dig_no hc).1
  have g3:(mv l 1).sk=mv l 1:=h2.sk0 (fun d t' e=>by rw [head_append e2 d t' e];exact bl_of hc)
  have h4:=h2.adv
  have g4:(mv (mv l 1) (Lib.decDigits v.toNat).length).sk=mv (mv l 1) (Lib.decDigits v.toNat).length:=h4.sk0 (fun c t' e=>(tl93 t c t' e).2)
  unfold L9.addr2
  rw [g1]
  rw [show l.tk true=mv l 1 from rfl,g2,if_neg (by decide),if_pos (by decide),show (mv l 1).tk false=mv l 1 from rfl,show (mv l 1).op=l.op from rfl]
  rw [g3,dg_ok (by omega) h2 (tl93 t) false (fun _=>by omega),if_neg (by decide)]
  have ev:((v.toNat:Nat):Int)=v:=by omega
  unfold L9.setN
  simp only
  rw [ev,if_pos hf]
  simp only
  have h5:Cur { mv (mv l 1) (Lib.decDigits v.toNat).length with imm:=v } (93 :: t):=h4.set rfl rfl
  rw [h5.sk0 (fun c t' e=>(tl93 t c t' e).2),close_ok h5]
  congr 1
  show L9.mk _ _ _ _ _ _ _ _ _=L9.mk _ _ _ _ _ _ _ _ _
  congr 1
  show l.at_+1+_+1=l.at_+(_+1+1)
  omega
 ·rw [if_neg hp] at h ⊢
  by_cases hn:v < 0
  ·rw [if_pos hn] at h ⊢
   rw [num_neg hn] at h ⊢
   have h2:Cur (mv l 1) (Lib.decDigits v.natAbs ++ 93 :: t):=h.mv1
   obtain ⟨c,r,e2,hc⟩:=dec_head v.natAbs
   have g1:l.hit 43=false:=by rw [Cur.hit (t:=Lib.decDigits v.natAbs ++ 93 :: t) h];rfl
   have g2:l.hit 45=true:=by rw [Cur.hit (t:=Lib.decDigits v.natAbs ++ 93 :: t) h];rfl
   have g3:(mv l 1).sk=mv l 1:=h2.sk0 (fun d t' e=>by rw [head_append e2 d t' e];exact bl_of hc)
   have h4:=h2.adv
   unfold L9.addr2
   rw [g1]
   rw [show l.tk false=l from rfl,g2,if_neg (by decide),if_pos (by decide),show l.tk true=mv l 1 from rfl,show (mv l 1).op=l.op from rfl]
   rw [g3,dg_ok (by omega) h2 (tl93 t) true (fun e=>by cases e),if_pos rfl]
   have ev:-((v.natAbs:Nat):Int)=v:=by omega
   unfold L9.setN
   simp only
   rw [ev,if_pos hf]
   simp only
   have h5:Cur { mv (mv l 1) (Lib.decDigits v.natAbs).length with imm:=v } (93 :: t):=h4.set rfl rfl
   rw [h5.sk0 (fun c t' e=>(tl93 t c t' e).2),close_ok h5]
   congr 1
   show L9.mk _ _ _ _ _ _ _ _ _=L9.mk _ _ _ _ _ _ _ _ _
   congr 1
   show l.at_+1+_+1=l.at_+(_+1+1)
   omega
  ·rw [if_neg hn] at h ⊢
   have h:Cur l (93 :: t):=h
   have g1:l.hit 43=false:=by rw [h.hit];rfl
   have g2:l.hit 45=false:=by rw [h.hit];rfl
   unfold L9.addr2
   rw [g1]
   rw [show l.tk false=l from rfl,g2,if_neg (by decide),if_neg (by decide),show l.tk false=l from rfl]
   rw [close_ok h]
   congr 1
   show L9.mk _ _ _ _ _ _ _ _ _=L9.mk _ _ _ _ _ _ _ _ _
   have e0:v=0:=by omega
   congr 1
   show l.imm=v
   rw [e0];exact hi e0
theorem tl_sign {v:Int} {t:List UInt8}:Tl ((if v > 0 then 43 :: numW v else if v < 0 then numW v else []) ++ 93 :: t):=by
 intro c t' e
 by_cases hp:v > 0
 ·rw [if_pos hp,List.cons_append] at e
  rw [← (List.cons.inj e).1];decide
 ·rw [if_neg hp] at e
  by_cases hn:v < 0
  ·rw [if_pos hn,num_neg hn,List.cons_append] at e
   rw [← (List.cons.inj e).1];decide
  ·rw [if_neg hn,List.nil_append] at e
   rw [← (List.cons.inj e).1];decide
theorem reg_bl (x:Int) (t:List UInt8):∀ c t',regW x ++ t=c :: t'→isBl c=false:=by
 intro c t' e
 unfold regW at e
 rw [List.cons_append] at e
 rw [← (List.cons.inj e).1];decide
theorem addr_ok {l:L9} {b v:Int} {t:List UInt8} (hb0:0≤b) (hb7:b≤7) (h0:-9223372036854775808≤v) (h1:v≤9223372036854775807) (hf:fitsM (formM l.op) v=true) (hi:v=0→l.imm=0) (h:Cur l (addrW b v ++ t)) :
  l.addr=some { mv l (addrW b v).length with b:=b,imm:=v }:=by
 have h:Cur l (91 :: (regW b ++ ((if v > 0 then 43 :: numW v else if v < 0 then numW v else []) ++ 93 :: t))):=by
  have:=h
  unfold addrW at this
  simpa using this
 have h2:=h.mv1
 have h3:Cur (mv (mv l 1) 2) _:=h2.adv
 unfold L9.addr
 rw [h.hit,if_pos (by decide)]
 show (match (mv l 1).sk.rB with | none=>none | some l2=>l2.sk.addr2)=_
 rw [h2.sk0 (reg_bl b _)]
 unfold L9.rB
 rw [rg_ok hb0 hb7 h2 tl_sign]
 simp only [Option.map_some]
 have h4:Cur { mv (mv l 1) 2 with b:=b } _:=h3.set rfl rfl
 rw [h4.sk0 (fun c t' e=>(tl_sign c t' e).2),addr2_ok (l:={ mv (mv l 1) 2 with b:=b }) h0 h1 hf hi h4]
 congr 1
 show L9.mk _ _ _ _ _ _ _ _ _=L9.mk _ _ _ _ _ _ _ _ _
 congr 1
 show l.at_+1+2+_=l.at_+_
 unfold addrW
 simp only [List.length_cons,List.length_append,List.length_nil,regW]
 omega
theorem mem_ok {l:L9} {b:Int} {t:List UInt8} (hb0:0≤b) (hb7:b≤7) (h:Cur l (memW b ++ t)):l.mem=some { mv l (memW b).length with b:=b }:=by
 have h:Cur l (91 :: (regW b ++ 93 :: t)):=by
  have:=h
  unfold memW at this
  simpa using this
 have h2:=h.mv1
 have h3:Cur (mv (mv l 1) 2) _:=h2.adv
 unfold L9.mem
 rw [h.hit,if_pos (by decide)]
 show (match (mv l 1).sk.rB with | none=>none | some l2=>l2.sk.close)=_
 rw [h2.sk0 (reg_bl b _)]
 unfold L9.rB
 rw [rg_ok hb0 hb7 h2 (tl93 t)]
 simp only [Option.map_some]
 have h4:Cur { mv (mv l 1) 2 with b:=b } (93 :: t):=h3.set rfl rfl
 rw [h4.sk0 (fun c t' e=>(tl93 t c t' e).2),close_ok h4]
 rfl
theorem tgt_ok {l:L9} {v:Int} {t:List UInt8} (h0:-9223372036854775808≤v) (h1:v≤9223372036854775807) (hf:fitsM (formM l.op) v=true) (h:Cur l (distW v ++ t)) (ht:Tl t) :
  l.tgt=some { mv l (distW v).length with far:=false,imm:=v }:=by
 unfold L9.tgt
 by_cases hn:v < 0
 ·have e:distW v=46 :: 45 :: Lib.decDigits v.natAbs:=by unfold distW;rw [if_pos hn,num_neg hn]
  rw [e] at h ⊢
  have h2:Cur (mv l 1) (45 :: (Lib.decDigits v.natAbs ++ t)):=h.mv1
  have h3:Cur (mv (mv l 1) 1) (Lib.decDigits v.natAbs ++ t):=h2.mv1
  have g0:l.hit 46=true:=by rw [Cur.hit (t:=45 :: (Lib.decDigits v.natAbs ++ t)) h];rfl
  rw [g0,if_pos rfl]
  show (if (mv l 1).hit 43=true then _ else if (mv l 1).hit 45=true then L9.setF (formM l.op) ((mv (mv l 1) 1).dg true) else none)=_
  rw [h2.hit,if_neg (by decide),h2.hit,if_pos (by decide),dg_ok (by omega) h3 ht true (fun e=>by cases e),if_pos rfl]
  have ev:-((v.natAbs:Nat):Int)=v:=by omega
  unfold L9.setF
  simp only
  rw [ev,if_pos hf]
  congr 1
  show L9.mk _ _ _ _ _ _ _ _ _=L9.mk _ _ _ _ _ _ _ _ _
  congr 1
  show l.at_+1+1+_=l.at_+(_+1+1)
  omega
 ·have e:distW v=46 :: 43 :: Lib.decDigits v.toNat:=by unfold distW;rw [if_neg hn,num_pos hn]
  rw [e] at h ⊢
  have h2:Cur (mv l 1) (43 :: (Lib.decDigits v.toNat ++ t)):=h.mv1
  have h3:Cur (mv (mv l 1) 1) (Lib.decDigits v.toNat ++ t):=h2.mv1
  have g0:l.hit 46=true:=by rw [Cur.hit (t:=43 :: (Lib.decDigits v.toNat ++ t)) h];rfl
  rw [g0,if_pos rfl]
  show (if (mv l 1).hit 43=true then L9.setF (formM l.op) ((mv (mv l 1) 1).dg false) else _)=_
  rw [h2.hit,if_pos (by decide),dg_ok (by omega) h3 ht false (fun _=>by omega),if_neg (by decide)]
  have ev:((v.toNat:Nat):Int)=v:=by omega
  unfold L9.setF
  simp only
  rw [ev,if_pos hf]
  congr 1
  show L9.mk _ _ _ _ _ _ _ _ _=L9.mk _ _ _ _ _ _ _ _ _
  congr 1
  show l.at_+1+1+_=l.at_+(_+1+1)
  omega
structure Ok1 (op a b v:Int):Prop where
 a0:0≤a
 a7:a≤7
 b0:0≤b
 b7:b≤7
 v0:-9223372036854775808≤v
 v1:v≤9223372036854775807
 fits:fitsM (formM op) v=true
theorem run_ok {op a b v:Int} (k:Rd) (o:Ok1 op a b v) {l:L9} {t:List UInt8} (hop:l.op=op) (hi:v=0→l.imm=0) (h:Cur l (rdW a b v k ++ t)) (ht:Tl t) :
  L9.run k l=some (upd a b v k (mv l (rdW a b v k).length)):=by
 have hf:fitsM (formM l.op) v=true:=by rw [hop];exact o.fits
 cases k with
 | a =>
  show l.rA=_
  unfold L9.rA
  rw [rg_ok o.a0 o.a7 h ht];rfl
 | b =>
  show l.rB=_
  unfold L9.rB
  rw [rg_ok o.b0 o.b7 h ht];rfl
 | num=>exact num_ok o.v0 o.v1 hf h ht
 | mem=>exact mem_ok o.b0 o.b7 h
 | addr=>exact addr_ok o.b0 o.b7 o.v0 o.v1 hf hi h
 | target=>exact tgt_ok o.v0 o.v1 hf h ht
theorem rdW_bl (a b v:Int) (k:Rd) (t:List UInt8):∀ c t',rdW a b v k ++ t=c :: t'→isBl c=false:=by
 intro c t' e
 cases k with
 | a=>exact reg_bl a t c t' e
 | b=>exact reg_bl b t c t' e
 | num =>
  have e:numW v ++ t=c :: t':=e
  by_cases hn:v < 0
  ·rw [num_neg hn,List.cons_append] at e
   rw [← (List.cons.inj e).1];decide
  ·rw [num_pos hn] at e
   obtain ⟨d,r,e2,hd⟩:=dec_head v.toNat
   rw [head_append e2 c t' e];exact bl_of hd
 | mem =>
  have e:91 :: (regW b ++ [93]) ++ t=c :: t':=e
  rw [List.cons_append] at e
  rw [← (List.cons.inj e).1];decide
 | addr =>
  have e:91 :: (regW b ++ ((if v > 0 then 43 :: numW v else if v < 0 then numW v else []) ++ [93])) ++ t=c :: t':=e
  rw [List.cons_append] at e
  rw [← (List.cons.inj e).1];decide
 | target =>
  have e:distW v ++ t=c :: t':=e
  unfold distW at e
  by_cases hn:v < 0
  ·rw [if_pos hn,List.cons_append] at e
   rw [← (List.cons.inj e).1];decide
  ·rw [if_neg hn,List.cons_append] at e
   rw [← (List.cons.inj e).1];decide
def tailW (a b v:Int) (ks:List Rd):List UInt8:=ks.flatMap fun k=>44 :: 32 :: rdW a b v k
theorem tailW_tl (a b v:Int) (ks:List Rd):Tl (tailW a b v ks):=by
 intro c t' e
 cases ks with
 | nil=>cases e
 | cons k ks =>
  unfold tailW at e
  rw [List.flatMap_cons,List.cons_append] at e
  rw [← (List.cons.inj e).1];decide
def updL (a b v:Int) (ks:List Rd) (l:L9):L9:=ks.foldl (fun l k=>upd a b v k l) l
theorem upd_s (a b v:Int) (k:Rd) (l:L9):(upd a b v k l).s=l.s∧(upd a b v k l).at_=l.at_∧(upd a b v k l).op=l.op∧((v=0→l.imm=0)→(v=0→(upd a b v k l).imm=0)):=by
 cases k <;> exact ⟨rfl,rfl,rfl,fun h e=>by first | exact h e | exact e⟩
theorem upd_go (a b v:Int) (k:Rd) (l:L9) (e:Nat):upd a b v k (l.go e)=(upd a b v k l).go e:=by cases k <;> rfl
theorem updL_go (a b v:Int):∀ (ks:List Rd) (l:L9) (e:Nat),updL a b v ks (l.go e)=(updL a b v ks l).go e
 | [],l,e=>rfl
 | k :: ks,l,e=>by
  show updL a b v ks (upd a b v k (l.go e))=(updL a b v ks (upd a b v k l)).go e
  rw [upd_go,updL_go]
theorem rest_ok {op a b v:Int} (o:Ok1 op a b v):∀ (ks:List Rd) (l:L9),l.op=op→(v=0→l.imm=0)→Cur l (tailW a b v ks)→L9.rest ks l=some ((updL a b v ks l).go (l.at_+(tailW a b v ks).length))
 | [],l,hop,hi,h=>rfl
 | k :: ks,l,hop,hi,h=>by
  have h:Cur l (44 :: 32 :: (rdW a b v k ++ tailW a b v ks)):=by
   have:=h
   unfold tailW at this
   rw [List.flatMap_cons] at this
   exact this
  have h2:=h.mv1
  have h3:=h2.mv1
  have s0:l.sk=l:=h.sk0 (fun c t' e=>by rw [← (List.cons.inj e).1];decide)
  have s1:(mv l 1).sk=mv (mv l 1) 1:=(h2.sk1 (rdW_bl a b v k _)).1
  unfold L9.rest
  rw [s0,h.hit,if_pos (by decide)]
  show (match L9.run k (mv l 1).sk with | none=>none | some l2=>L9.rest ks l2)=_
  rw [s1,run_ok (l:=mv (mv l 1) 1) k o (show (mv (mv l 1) 1).op=op from hop) (show v=0→(mv (mv l 1) 1).imm=0 from hi) h3 (tailW_tl a b v ks)]
  simp only
  have u:=upd_s a b v k (mv (mv (mv l 1) 1) (rdW a b v k).length)
  have h4:Cur (upd a b v k (mv (mv (mv l 1) 1) (rdW a b v k).length)) (tailW a b v ks):=h3.adv.set u.1 u.2.1
  rw [rest_ok o ks _ (u.2.2.1.trans hop) (u.2.2.2 hi) h4,u.2.1]
  congr 1
  show (updL a b v ks (upd a b v k (l.go _))).go _=(updL a b v ks (upd a b v k l)).go _
  rw [upd_go,updL_go]
  refine (show ∀ (L:L9) (x y z:Nat),y=z→(L.go x).go y=L.go z from fun L x y z h=>by subst h;rfl) _ _ _ _ ?_
  show l.at_+1+1+_+_=l.at_+_
  unfold tailW
  rw [List.flatMap_cons]
  simp only [List.length_append,List.length_cons]
  omega
end Go.Proofs.YtffojmgmpfjlhaaGreatDoor.Q
namespace Go.Proofs.YtffojmgmpfjlhaaGreatDoor.Q
open Go.Proofs.YtffojmgmpfjlhaaGreatDoor Go.RowKit Go.Proofs.YtffojmgmpfjlhaaGreatDoorW.PrintWords Go.Proofs.YtffojmgmpfjlhaaGreatDoorW.PrintLast Go.Proofs.YtffojmgmpfjlhaaGreatDoorW.PrintMore
attribute [local go_sem] max2_int min2_int max_two min_two max_three min_three max_four min_four
attribute [local go_sem high] eqA23
def lzInsnLines.f (k:Nat) (a0_0:Int) (a0_1:Int) (a0_2:Int) (a0_3:Int):Option (Bool):=(lzsane.f k).bind fun t716=>((insn_Print.f k a0_0 a0_1 a0_2 a0_3).bind fun bt717=>(if bt717.2=0 then ((insn_Parse.f bt717.1).bind fun bt720=>((insn_Assemble.f bt717.1 0).bind fun bt726=>((insn_Encode.f k a0_0 a0_1 a0_2 a0_3).bind fun bt734=>(if t716=true then (if bt720.2.2.2.2=0 then (if (bt720.1 == a0_0 && (bt720.2.1 == a0_1 && (bt720.2.2.1 == a0_2 && (bt720.2.2.2.1 == a0_3))))=true then (if bt726.2.2.2=0 then (if bt726.2.2.1=0 then (if (bt726.2.1.length:Int)=0 then (if bt734.2=0 then ((lzsameBytes.f bt726.1 bt734.1).bind fun t738=>(some t738)) else (some false)) else (some false)) else (some false)) else (some false)) else (some false)) else (some false)) else (some false))))) else (if t716=true then ((insn_Check.f k a0_0 a0_1 a0_2 a0_3).bind fun t719=>(some (bt717.2 == t719))) else (some false))))
theorem lzInsnLines.mono:∀ a0 a1 a2 a3 k,LeO (lzInsnLines.f k a0 a1 a2 a3) (lzInsnLines.f (k+1) a0 a1 a2 a3):=by
 intro a0 a1 a2 a3 k;unfold lzInsnLines.f;repeat' first
   | (with_reducible exact insn_Check.mono _ _ _ _ _)
   | (with_reducible exact insn_Encode.mono _ _ _ _ _)
   | (with_reducible exact insn_Print.mono _ _ _ _ _)
   | (with_reducible exact lzsane.mono _)
   | (with_reducible exact LeO.refl _)
   | (with_reducible exact LeO.none _)
   | (with_reducible refine LeO.ite ?_ ?_)
   | (with_reducible refine LeO.bind ?_ (fun _=>?_))
   | exact LeO.none _
   | refine LeO.ite ?_ ?_
   | refine LeO.bind ?_ (fun _=>?_)
set_option maxHeartbeats 8000000 in
set_option maxRecDepth 100000 in
theorem lzInsnLines.calls (k:Nat) (a0_0:Int) (a0_1:Int) (a0_2:Int) (a0_3:Int) (r:Bool) (w:World) (h:lzInsnLines.f k a0_0 a0_1 a0_2 a0_3=some r) (hgw:GW w) (hrt:r=true:=by rfl) :
  Calls Tryz.prog 9 #[.agg #[.int .i64 a0_0,.int .i64 a0_1,.int .i64 a0_2,.int .i64 a0_3]] w fun e w'=>e=.returned (.bool r)∧Below w.heap.size w w':=by
 have HRT:=Aside0.mk hrt;clear hrt;have hu23:=Tryz.underlying23;have HB:=Aside0.mk (Below.refl w.heap.size w);have H:((lzsane.f k).bind fun t716=>((insn_Print.f k a0_0 a0_1 a0_2 a0_3).bind fun bt717=>(if bt717.2=0 then ((insn_Parse.f bt717.1).bind fun bt720=>((insn_Assemble.f bt717.1 0).bind fun bt726=>((insn_Encode.f k a0_0 a0_1 a0_2 a0_3).bind fun bt734=>(if t716=true then (if bt720.2.2.2.2=0 then (if (bt720.1 == a0_0 && (bt720.2.1 == a0_1 && (bt720.2.2.1 == a0_2 && (bt720.2.2.2.1 == a0_3))))=true then (if bt726.2.2.2=0 then (if bt726.2.2.1=0 then (if (bt726.2.1.length:Int)=0 then (if bt734.2=0 then ((lzsameBytes.f bt726.1 bt734.1).bind fun t738=>(some t738)) else (some false)) else (some false)) else (some false)) else (some false)) else (some false)) else (some false)) else (some false))))) else (if t716=true then ((insn_Check.f k a0_0 a0_1 a0_2 a0_3).bind fun t719=>(some (bt717.2 == t719))) else (some false)))))=some r:=h;clear h;replace H:=Option.bind_eq_some_iff.mp H;obtain ⟨t716,A20,H⟩:=H;replace H:((insn_Print.f k a0_0 a0_1 a0_2 a0_3).bind fun bt717=>(if bt717.2=0 then ((insn_Parse.f bt717.1).bind fun bt720=>((insn_Assemble.f bt717.1 0).bind fun bt726=>((insn_Encode.f k a0_0 a0_1 a0_2 a0_3).bind fun bt734=>(if t716=true then (if bt720.2.2.2.2=0 then (if (bt720.1 == a0_0 && (bt720.2.1 == a0_1 && (bt720.2.2.1 == a0_2 && (bt720.2.2.2.1 == a0_3))))=true then (if bt726.2.2.2=0 then (if bt726.2.2.1=0 then (if (bt726.2.1.length:Int)=0 then (if bt734.2=0 then ((lzsameBytes.f bt726.1 bt734.1).bind fun t738=>(some t738)) else (some false)) else (some false)) else (some false)) else (some false)) else (some false)) else (some false)) else (some false))))) else (if t716=true then ((insn_Check.f k a0_0 a0_1 a0_2 a0_3).bind fun t719=>(some (bt717.2 == t719))) else (some false))))=some r:=H;have A2:=Aside0.mk A20;clear A20;replace H:=Option.bind_eq_some_iff.mp H;obtain ⟨⟨t717,t718⟩,A30,H⟩:=H;replace H:(if t718=0 then ((insn_Parse.f t717).bind fun bt720=>((insn_Assemble.f t717 0).bind fun bt726=>((insn_Encode.f k a0_0 a0_1 a0_2 a0_3).bind fun bt734=>(if t716=true then (if bt720.2.2.2.2=0 then (if (bt720.1 == a0_0 && (bt720.2.1 == a0_1 && (bt720.2.2.1 == a0_2 && (bt720.2.2.2.1 == a0_3))))=true then (if bt726.2.2.2=0 then (if bt726.2.2.1=0 then (if (bt726.2.1.length:Int)=0 then (if bt734.2=0 then ((lzsameBytes.f bt726.1 bt734.1).bind fun t738=>(some t738)) else (some false)) else (some false)) else (some false)) else (some false)) else (some false)) else (some false)) else (some false))))) else (if t716=true then ((insn_Check.f k a0_0 a0_1 a0_2 a0_3).bind fun t719=>(some (t718 == t719))) else (some false)))=some r:=H;have A3:=Aside0.mk A30;clear A30;by_cases c4:t718=0
 ·rw [if_pos c4] at H;obtain ⟨c4b0,c4b1⟩:=bqt c4;clear c4;replace H:=Option.bind_eq_some_iff.mp H;obtain ⟨⟨t720,t721,t722,t723,t724⟩,A50,H⟩:=H;replace H:((insn_Assemble.f t717 0).bind fun bt726=>((insn_Encode.f k a0_0 a0_1 a0_2 a0_3).bind fun bt734=>(if t716=true then (if t724=0 then (if (t720 == a0_0 && (t721 == a0_1 && (t722 == a0_2 && (t723 == a0_3))))=true then (if bt726.2.2.2=0 then (if bt726.2.2.1=0 then (if (bt726.2.1.length:Int)=0 then (if bt734.2=0 then ((lzsameBytes.f bt726.1 bt734.1).bind fun t738=>(some t738)) else (some false)) else (some false)) else (some false)) else (some false)) else (some false)) else (some false)) else (some false))))=some r:=H;have A5:=Aside0.mk A50;clear A50;replace H:=Option.bind_eq_some_iff.mp H;obtain ⟨⟨t726,t727,t728,t729⟩,A60,H⟩:=H;replace H:((insn_Encode.f k a0_0 a0_1 a0_2 a0_3).bind fun bt734=>(if t716=true then (if t724=0 then (if (t720 == a0_0 && (t721 == a0_1 && (t722 == a0_2 && (t723 == a0_3))))=true then (if t729=0 then (if t728=0 then (if (t727.length:Int)=0 then (if bt734.2=0 then ((lzsameBytes.f t726 bt734.1).bind fun t738=>(some t738)) else (some false)) else (some false)) else (some false)) else (some false)) else (some false)) else (some false)) else (some false)))=some r:=H;have A6:=Aside0.mk A60;clear A60;replace H:=Option.bind_eq_some_iff.mp H;obtain ⟨⟨t734,t737⟩,A70,H⟩:=H;replace H:(if t716=true then (if t724=0 then (if (t720 == a0_0 && (t721 == a0_1 && (t722 == a0_2 && (t723 == a0_3))))=true then (if t729=0 then (if t728=0 then (if (t727.length:Int)=0 then (if t737=0 then ((lzsameBytes.f t726 t734).bind fun t738=>(some t738)) else (some false)) else (some false)) else (some false)) else (some false)) else (some false)) else (some false)) else (some false))=some r:=H;have A7:=Aside0.mk A70;clear A70;by_cases c8:t716=true
  ·subst c8;have H1:(if t724=0 then (if (t720 == a0_0 && (t721 == a0_1 && (t722 == a0_2 && (t723 == a0_3))))=true then (if t729=0 then (if t728=0 then (if (t727.length:Int)=0 then (if t737=0 then ((lzsameBytes.f t726 t734).bind fun t738=>(some t738)) else (some false)) else (some false)) else (some false)) else (some false)) else (some false)) else (some false))=some r:=by rw [if_pos rfl] at H;exact H
   clear H;have H:=H1;clear H1;by_cases c9:t724=0
   ·rw [if_pos c9] at H;obtain ⟨c9b0,c9b1⟩:=bqt c9;clear c9;by_cases c10:(t720 == a0_0 && (t721 == a0_1 && (t722 == a0_2 && (t723 == a0_3))))=true
    ·rw [if_pos c10] at H;have c10b0:(t720 == a0_0 && (t721 == a0_1 && (t722 == a0_2 && (t723 == a0_3))))=true:=c10;(try (have c10b1:decide (t720=a0_0 && (t721 == a0_1 && (t722 == a0_2 && (t723 == a0_3))))=true:=by simpa using c10));(try (have c10b2:(t720 == a0_0 && (t721 == a0_1 && (t722 == a0_2 && (t723 == a0_3))))=true:=by simpa using c10));clear c10;by_cases c11:t729=0
     ·rw [if_pos c11] at H;obtain ⟨c11b0,c11b1⟩:=bqt c11;clear c11;by_cases c12:t728=0
      ·rw [if_pos c12] at H;obtain ⟨c12b0,c12b1⟩:=bqt c12;clear c12;by_cases c13:(t727.length:Int)=0
       ·rw [if_pos c13] at H;obtain ⟨c13b0,c13b1⟩:=bqt c13;clear c13;by_cases c14:t737=0
        ·rw [if_pos c14] at H;obtain ⟨c14b0,c14b1⟩:=bqt c14;clear c14;replace H:=Option.bind_eq_some_iff.mp H;obtain ⟨t738,A150,H⟩:=H;replace H:(some t738)=some r:=H;have A15:=Aside0.mk A150;clear A150;obtain rfl:=Option.some.inj H;go_enter Tryz.func9,Tryz.ntmps9
         go_wp2_with (first | ((with_reducible refine gate_dst (N:=1) rfl ?_);(try (refine gate_guard (by rfl) ?_;dsimp only));refine box_event ?hg (N:=1) ?hd (cs:=#[.int .i64 a0_0,.int .i64 a0_1,.int .i64 a0_2,.int .i64 a0_3]) (t:=23) ?hr ?_;(case hd=>rfl);(case hg=>rfl);(case hr=>first | (go_simp;done) | (go_simp;rfl));intro gb715 hg w16 hbox hb;have n0_:=Aside0.mk (below_step blw hb);have n1_:=Aside0.mk (hbox);have n2_:=Aside0.mk ((by rw [hg];exact (below_size blw):w.heap.size≤gb715));have n3_:=Aside0.mk ((by rw [hg];exact (below_size blw):w.heap.size≤gb715));clear HB;have HB:=n0_;have BK715:=n1_;have GW715:=n2_;have GE715:=n3_;clear n0_ n1_ n2_ n3_;clear hb hbox hg) | ((with_reducible refine gate_callee (f:=17) rfl ?_);refine goesL_ (some 14) rfl rfl Tryz.func17 (by kernel_rfl) rfl #[] rfl fq ?_;(with_reducible refine (lzsane.calls k  true _ A2.out gwy).mono ?_);rintro e w17 ⟨rfl,hb⟩;refine ⟨_,rfl,?_⟩;have n0_:=Aside0.mk (blk_below (g:=gb715) (o:=.cells #[.int .i64 a0_0,.int .i64 a0_1,.int .i64 a0_2,.int .i64 a0_3] 23 (0,0)) bko hb);have n1_:=Aside0.mk (below_step blw hb);clear BK715;clear HB;have BK715:=n0_;have HB:=n1_;clear n0_ n1_;(try clear hb);(try clear hb2);(try clear hk);(try clear hi);obtain ⟨hcz18_0,hcz18_1,hcz18_2,hcz18_3,hfz18_0,hfz18_1,hfz18_2,hfz18_3⟩:=bz4 BK715.out) | ((with_reducible refine gate_callee (f:=24) rfl ?_);refine goesL_ (some 17) rfl rfl Tryz.func24 (by kernel_rfl) rfl #[.agg #[.int .i64 a0_0,.int .i64 a0_1,.int .i64 a0_2,.int .i64 a0_3]] rfl fq ?_;(with_reducible refine (insn_Print.calls k a0_0 a0_1 a0_2 a0_3 t717 t718 _ A3.out gwy).mono ?_);rintro e w19 ⟨rfl,hb⟩;refine ⟨_,rfl,?_⟩;have n0_:=Aside0.mk (blk_below (g:=gb715) (o:=.cells #[.int .i64 a0_0,.int .i64 a0_1,.int .i64 a0_2,.int .i64 a0_3] 23 (0,0)) bko hb);have n1_:=Aside0.mk (below_step blw hb);clear BK715;clear HB;have BK715:=n0_;have HB:=n1_;clear n0_ n1_;(try clear hb);(try clear hb2);(try clear hk);(try clear hi)) | ((with_reducible refine gate_callee (f:=26) rfl ?_);refine goesL_ (some 31) rfl rfl Tryz.func26 (by kernel_rfl) rfl #[.string t717] rfl fq ?_;(with_reducible refine (insn_Parse.calls t717 t720 t721 t722 t723 t724 _ A5.out gwy).mono ?_);rintro e w20 ⟨rfl,hb⟩;refine ⟨_,rfl,?_⟩;have n0_:=Aside0.mk (blk_below (g:=gb715) (o:=.cells #[.int .i64 a0_0,.int .i64 a0_1,.int .i64 a0_2,.int .i64 a0_3] 23 (0,0)) bko hb);have n1_:=Aside0.mk (below_step blw hb);clear BK715;clear HB;have BK715:=n0_;have HB:=n1_;clear n0_ n1_;(try clear hb);(try clear hb2);(try clear hk);(try clear hi)) | ((with_reducible refine gate_dst (N:=6) rfl ?_);(try (refine gate_guard (by rfl) ?_;dsimp only));refine box_event ?hg (N:=6) ?hd (cs:=#[.int .i64 0,.int .i64 0,.int .i64 0,.int .i64 0]) (t:=23) ?hr ?_;(case hd=>rfl);(case hg=>rfl);(case hr=>first | (go_simp;done) | (go_simp;rfl));intro gb725 hg w21 hbox hb;have n0_:=Aside0.mk (blk_below (g:=gb715) (o:=.cells #[.int .i64 a0_0,.int .i64 a0_1,.int .i64 a0_2,.int .i64 a0_3] 23 (0,0)) bko hb);have n1_:=Aside0.mk (below_step blw hb);have n2_:=Aside0.mk (hbox);have n3_:=Aside0.mk ((by rw [hg];exact (below_size blw):w.heap.size≤gb725));have n4_:=Aside0.mk ((by rw [hg];exact (below_size blw):w.heap.size≤gb725));have n5_:=Aside0.mk ((by rw [hg];exact Nat.ne_of_lt (blk_lt (g:=gb715) (o:=.cells #[.int .i64 a0_0,.int .i64 a0_1,.int .i64 a0_2,.int .i64 a0_3] 23 (0,0)) bko):gb715≠gb725));have n6_:=Aside0.mk ((by rw [hg];exact Nat.ne_of_gt (blk_lt (g:=gb715) (o:=.cells #[.int .i64 a0_0,.int .i64 a0_1,.int .i64 a0_2,.int .i64 a0_3] 23 (0,0)) bko):gb725≠gb715));clear BK715;clear HB;have BK715:=n0_;have HB:=n1_;have BK725:=n2_;have GW725:=n3_;have GE725:=n4_;have NB715_725:=n5_;have NB725_715:=n6_;clear n0_ n1_ n2_ n3_ n4_ n5_ n6_;clear hb hbox hg;have hnb22:=NB725_715.out;have hnc22:=NB715_725.out;obtain ⟨hcz23_0,hcz23_1,hcz23_2,hcz23_3,hfz23_0,hfz23_1,hfz23_2,hfz23_3⟩:=bz4 BK725.out) | ((with_reducible refine gate_callee (f:=28) rfl ?_);refine goesL_ (some 36) rfl rfl Tryz.func28 (by kernel_rfl) rfl #[.string t717,.int .i64 0] rfl fq ?_;(with_reducible refine (insn_Assemble.calls t717 0 t726 t727 t728 t729 _ A6.out gwy).mono ?_);rintro e w24 ⟨v730,v732,rfl,ho0,ho1,hb⟩;refine ⟨_,rfl,?_⟩;have n0_:=Aside0.mk (Kd.R_lower ho0 (below_size blw));have n1_:=Aside0.mk (Kd.R_lower ho1 (below_size blw));have n2_:=Aside0.mk (blk_below (g:=gb715) (o:=.cells #[.int .i64 a0_0,.int .i64 a0_1,.int .i64 a0_2,.int .i64 a0_3] 23 (0,0)) (by (with_reducible repeat (first | refine blk_drewN ?_ _ | refine blk_drew ?_ | refine blk_alloc ?_ _));refine blk_far ?_ NB715_725.out _;(with_reducible repeat (first | refine blk_drewN ?_ _ | refine blk_drew ?_ | refine blk_alloc ?_ _));refine blk_far ?_ NB715_725.out _;(with_reducible repeat (first | refine blk_drewN ?_ _ | refine blk_drew ?_ | refine blk_alloc ?_ _));refine blk_far ?_ NB715_725.out _;(with_reducible repeat (first | refine blk_drewN ?_ _ | refine blk_drew ?_ | refine blk_alloc ?_ _));refine blk_far ?_ NB715_725.out _;(with_reducible repeat (first | refine blk_drewN ?_ _ | refine blk_drew ?_ | refine blk_alloc ?_ _));exact BK715.out) hb);have n3_:=Aside0.mk (blk_below (g:=gb725) (o:=.cells #[.int .i64 t720,.int .i64 t721,.int .i64 t722,.int .i64 t723] 23 (0,0)) (by (with_reducible repeat (first | refine blk_drewN ?_ _ | refine blk_drew ?_ | refine blk_alloc ?_ _));refine blk_put (cs:=#[.int .i64 t720,.int .i64 t721,.int .i64 t722,.int .i64 0]) ?_ 3 _ rfl;refine blk_put (cs:=#[.int .i64 t720,.int .i64 t721,.int .i64 0,.int .i64 0]) ?_ 2 _ rfl;refine blk_put (cs:=#[.int .i64 t720,.int .i64 0,.int .i64 0,.int .i64 0]) ?_ 1 _ rfl;refine blk_put (cs:=#[.int .i64 0,.int .i64 0,.int .i64 0,.int .i64 0]) ?_ 0 _ rfl;(with_reducible repeat (first | refine blk_drewN ?_ _ | refine blk_drew ?_ | refine blk_alloc ?_ _));exact BK725.out) hb);have n4_:=Aside0.mk (below_step blw hb);clear BK715;clear BK725;clear HB;have HO731:=n0_;have HO733:=n1_;have BK715:=n2_;have BK725:=n3_;have HB:=n4_;clear n0_ n1_ n2_ n3_ n4_;(try clear hb);(try clear hb2);(try clear hk);(try clear hi);(try clear ho0);(try clear ho1);obtain ⟨hcz25_0,hcz25_1,hcz25_2,hcz25_3,hfz25_0,hfz25_1,hfz25_2,hfz25_3⟩:=bz4 BK715.out) | ((with_reducible refine gate_callee (f:=18) rfl ?_);refine goesL_ (some 43) rfl rfl Tryz.func18 (by kernel_rfl) rfl #[.agg #[.int .i64 a0_0,.int .i64 a0_1,.int .i64 a0_2,.int .i64 a0_3]] rfl fq ?_;(with_reducible refine (insn_Encode.calls k a0_0 a0_1 a0_2 a0_3 t734 t737 _ A7.out gwy).mono ?_);rintro e w26 ⟨v735,rfl,ho0,hb⟩;refine ⟨_,rfl,?_⟩;have n0_:=Aside0.mk (Kd.R_elder' (by (with_reducible repeat (first | apply Kd.R_alloc | apply Kd.R_drewN | apply Kd.R_drew));exact HO731.out) (Kd.R_base ho0) hb);have n1_:=Aside0.mk (Kd.R_below (by (with_reducible repeat (first | apply Kd.R_alloc | apply Kd.R_drewN | apply Kd.R_drew));exact HO733.out) hb);have n2_:=Aside0.mk (Kd.R_lower (Kd.R_new' ho0 (Kd.R_lt (by (with_reducible repeat (first | apply Kd.R_alloc | apply Kd.R_drewN | apply Kd.R_drew));exact HO731.out))) (below_size blw));have n3_:=Aside0.mk (blk_below (g:=gb715) (o:=.cells #[.int .i64 a0_0,.int .i64 a0_1,.int .i64 a0_2,.int .i64 a0_3] 23 (0,0)) bko hb);have n4_:=Aside0.mk (blk_below (g:=gb725) (o:=.cells #[.int .i64 t720,.int .i64 t721,.int .i64 t722,.int .i64 t723] 23 (0,0)) bko hb);have n5_:=Aside0.mk (below_step blw hb);clear HO731;clear HO733;clear BK715;clear BK725;clear HB;have HO731:=n0_;have HO733:=n1_;have HO736:=n2_;have BK715:=n3_;have BK725:=n4_;have HB:=n5_;clear n0_ n1_ n2_ n3_ n4_ n5_;(try clear hb);(try clear hb2);(try clear hk);(try clear hi);(try clear ho0);obtain ⟨hcz27_0,hcz27_1,hcz27_2,hcz27_3,hfz27_0,hfz27_1,hfz27_2,hfz27_3⟩:=bz4 BK725.out;obtain ⟨hcz28_0,hcz28_1,hcz28_2,hcz28_3,hfz28_0,hfz28_1,hfz28_2,hfz28_3⟩:=bz4 BK715.out;obtain ⟨Ao29,co29,eo29⟩:=Kd.R_slice HO733.out;subst eo29;obtain ⟨Ao30,co30,eo30⟩:=Kd.R_slice HO731.out;subst eo30;obtain ⟨Ao31,co31,eo31⟩:=Kd.R_slice HO736.out;subst eo31) | (go_at_call 20;(with_reducible refine (lzsameBytes.calls _ _ t726 _ _ t734 t738 _ ?side1 ?side2 ?side3 ?side4 A15.out).mono ?_);(case side1=>repeat (first | exact (Kd.R_reads' HO731.out).2.2 | (with_reducible refine Kd.C_alloc ?_ _) | (with_reducible refine Kd.C_drewN ?_ _) | (with_reducible refine Kd.C_drew ?_)));(case side2=>exact (Kd.R_reads' HO731.out).2.1);(case side3=>repeat (first | exact (Kd.R_reads' HO736.out).2.2 | (with_reducible refine Kd.C_alloc ?_ _) | (with_reducible refine Kd.C_drewN ?_ _) | (with_reducible refine Kd.C_drew ?_)));(case side4=>exact (Kd.R_reads' HO736.out).2.1);rintro e w' ⟨rfl,⟨nd,rfl⟩⟩))
         go_ret;exact ⟨rew,blw⟩
        ·rw [if_neg c14] at H;obtain ⟨c14b0,c14b1⟩:=bqf c14;exact absurd (H.trans (congrArg some HRT.out)) (by simp)
       ·rw [if_neg c13] at H;obtain ⟨c13b0,c13b1⟩:=bqf c13;have c13b2:¬ (t727=[]):=fun h_=>c13 (by rw [h_];rfl)
        exact absurd (H.trans (congrArg some HRT.out)) (by simp)
      ·rw [if_neg c12] at H;obtain ⟨c12b0,c12b1⟩:=bqf c12;exact absurd (H.trans (congrArg some HRT.out)) (by simp)
     ·rw [if_neg c11] at H;obtain ⟨c11b0,c11b1⟩:=bqf c11;exact absurd (H.trans (congrArg some HRT.out)) (by simp)
    ·rw [if_neg c10] at H;have c10b0:(t720 == a0_0 && (t721 == a0_1 && (t722 == a0_2 && (t723 == a0_3))))=false:=by simpa using c10
     (try (have c10b1:decide (t720=a0_0 && (t721 == a0_1 && (t722 == a0_2 && (t723 == a0_3))))=false:=by simpa using c10));(try (have c10b2:(t720 == a0_0 && (t721 == a0_1 && (t722 == a0_2 && (t723 == a0_3))))=false:=by simpa using c10));(try (have c10b3:¬ (t720=a0_0 && (t721 == a0_1 && (t722 == a0_2 && (t723 == a0_3)))):=by simpa using c10));clear c10;exact absurd (H.trans (congrArg some HRT.out)) (by simp)
   ·rw [if_neg c9] at H;obtain ⟨c9b0,c9b1⟩:=bqf c9;exact absurd (H.trans (congrArg some HRT.out)) (by simp)
  ·replace c8:=Bool.eq_false_iff.mpr c8;subst c8;have H1:(some false)=some r:=by rw [if_neg (show ¬ (false=true) by decide)] at H;exact H
   clear H;have H:=H1;clear H1;exact absurd (H.trans (congrArg some HRT.out)) (by simp)
 ·rw [if_neg c4] at H;obtain ⟨c4b0,c4b1⟩:=bqf c4;by_cases c121:t716=true
  ·subst c121;have H1:((insn_Check.f k a0_0 a0_1 a0_2 a0_3).bind fun t719=>(some (t718 == t719)))=some r:=by rw [if_pos rfl] at H;exact H
   clear H;have H:=H1;clear H1;replace H:=Option.bind_eq_some_iff.mp H;obtain ⟨t719,A1220,H⟩:=H;replace H:(some (t718 == t719))=some r:=H;have A122:=Aside0.mk A1220;clear A1220;obtain rfl:=Option.some.inj H;go_enter Tryz.func9,Tryz.ntmps9
   go_wp2_with (first | ((with_reducible refine gate_dst (N:=1) rfl ?_);(try (refine gate_guard (by rfl) ?_;dsimp only));refine box_event ?hg (N:=1) ?hd (cs:=#[.int .i64 a0_0,.int .i64 a0_1,.int .i64 a0_2,.int .i64 a0_3]) (t:=23) ?hr ?_;(case hd=>rfl);(case hg=>rfl);(case hr=>first | (go_simp;done) | (go_simp;rfl));intro gb715 hg w123 hbox hb;have n0_:=Aside0.mk (below_step blw hb);have n1_:=Aside0.mk (hbox);have n2_:=Aside0.mk ((by rw [hg];exact (below_size blw):w.heap.size≤gb715));have n3_:=Aside0.mk ((by rw [hg];exact (below_size blw):w.heap.size≤gb715));clear HB;have HB:=n0_;have BK715:=n1_;have GW715:=n2_;have GE715:=n3_;clear n0_ n1_ n2_ n3_;clear hb hbox hg) | ((with_reducible refine gate_callee (f:=17) rfl ?_);refine goesL_ (some 14) rfl rfl Tryz.func17 (by kernel_rfl) rfl #[] rfl fq ?_;(with_reducible refine (lzsane.calls k  true _ A2.out gwy).mono ?_);rintro e w124 ⟨rfl,hb⟩;refine ⟨_,rfl,?_⟩;have n0_:=Aside0.mk (blk_below (g:=gb715) (o:=.cells #[.int .i64 a0_0,.int .i64 a0_1,.int .i64 a0_2,.int .i64 a0_3] 23 (0,0)) bko hb);have n1_:=Aside0.mk (below_step blw hb);clear BK715;clear HB;have BK715:=n0_;have HB:=n1_;clear n0_ n1_;(try clear hb);(try clear hb2);(try clear hk);(try clear hi);obtain ⟨hcz125_0,hcz125_1,hcz125_2,hcz125_3,hfz125_0,hfz125_1,hfz125_2,hfz125_3⟩:=bz4 BK715.out) | ((with_reducible refine gate_callee (f:=24) rfl ?_);refine goesL_ (some 17) rfl rfl Tryz.func24 (by kernel_rfl) rfl #[.agg #[.int .i64 a0_0,.int .i64 a0_1,.int .i64 a0_2,.int .i64 a0_3]] rfl fq ?_;(with_reducible refine (insn_Print.calls k a0_0 a0_1 a0_2 a0_3 t717 t718 _ A3.out gwy).mono ?_);rintro e w126 ⟨rfl,hb⟩;refine ⟨_,rfl,?_⟩;have n0_:=Aside0.mk (blk_below (g:=gb715) (o:=.cells #[.int .i64 a0_0,.int .i64 a0_1,.int .i64 a0_2,.int .i64 a0_3] 23 (0,0)) bko hb);have n1_:=Aside0.mk (below_step blw hb);clear BK715;clear HB;have BK715:=n0_;have HB:=n1_;clear n0_ n1_;(try clear hb);(try clear hb2);(try clear hk);(try clear hi);obtain ⟨hcz127_0,hcz127_1,hcz127_2,hcz127_3,hfz127_0,hfz127_1,hfz127_2,hfz127_3⟩:=bz4 BK715.out) | (go_at_call 31;(with_reducible refine (insn_Check.calls k a0_0 a0_1 a0_2 a0_3 t719 _ A122.out gwy).mono ?_);rintro e w128 ⟨rfl,hb⟩;have n0_:=Aside0.mk (blk_below (g:=gb715) (o:=.cells #[.int .i64 a0_0,.int .i64 a0_1,.int .i64 a0_2,.int .i64 a0_3] 23 (0,0)) bko hb);have n1_:=Aside0.mk (below_step blw hb);clear BK715;clear HB;have BK715:=n0_;have HB:=n1_;clear n0_ n1_;(try clear hb);(try clear hb2);(try clear hk);(try clear hi)))
   go_ret;exact ⟨rew,blw⟩
  ·replace c121:=Bool.eq_false_iff.mpr c121;subst c121;have H1:(some false)=some r:=by rw [if_neg (show ¬ (false=true) by decide)] at H;exact H
   clear H;have H:=H1;clear H1;exact absurd (H.trans (congrArg some HRT.out)) (by simp)
end Go.Proofs.YtffojmgmpfjlhaaGreatDoor.Q
