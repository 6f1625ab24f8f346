/- Parts of the proof: InsnLabels: a text whose targets are labels has the code of the text whose targets are distances: the law returns true for every input; the inputs read as they did; the package-level variables hold what the program's text lays in them: the tied card. -/
import Derived.Test.YtffojmgmpfjlhaaGreatDoorInsP17
import Derived.Test.YtffojmgmpfjlhaaGreatDoorInsnLabelsZ1
import Derived.Test.YtffojmgmpfjlhaaGreatDoorProg
import Derived.Below
import Derived.Deep.Draws
import Derived.Deep.AppendLies
import Derived.Maps.AppendAt
import Derived.OwnWalk
import Derived.Laws.BytesArg
import Derived.Laws.MakeOwn
import Derived.Laws.OwnMore
import Derived.Deep.OwnRows
import Derived.Tactics
import Derived.Lib.ConvBytes
import Derived.Laws.Slices
import Derived.WalkKit
import Derived.KernelRfl
import Derived.RowKit3
import Derived.Deep.LoopGhost
import Derived.Deep.QuietTactic
import Derived.BigQuiet
import Derived.WideLaws
import Derived.Deep.DeepCutAuto
import Derived.Deep.CutBlock
import Derived.Deep.RegionHeld3
import Derived.Laws.Rows
import Derived.Lib.AppendStr
import Derived.ArgAppend
import Derived.Laws.IdiomCopy
import Derived.OrdersHeld
import Derived.Laws.BitsLemmas
import Derived.RowKit
import Derived.Lib.SplitLaws
import Derived.Lib.ItoaLen
import Derived.Lib.ParseIntBCases
set_option linter.unusedVariables false
set_option linter.unusedSimpArgs false
namespace Go.Proofs.YtffojmgmpfjlhaaGreatDoor.Q
open Go.Proofs.YtffojmgmpfjlhaaGreatDoor Go.RowKit Go.Proofs.YtffojmgmpfjlhaaGreatDoorW.PrintWords Go.Proofs.YtffojmgmpfjlhaaGreatDoorW.PrintLast Go.Proofs.YtffojmgmpfjlhaaGreatDoorW.PrintMore
attribute [local go_sem] max2_int min2_int max_two min_two max_three min_three max_four min_four
theorem info2:(Tryz.prog.info? 2).map (fun i=>(i.zero,i.size,i.bytes))=some (some (.int .i64 0),1,8):=by kernel_rfl
def k23:Kd S23:=Kd.iso (Kd.pair (Kd.int .i64) (Kd.pair (Kd.int .i64) (Kd.pair (Kd.int .i64) (Kd.int .i64)))) (fun x:S23=>(x.f0,x.f1,x.f2,x.f3))
theorem k23_open {w:World} {x:S23} {cs:List Value} (h:k23.K w x cs):cs=[.int .i64 x.f0,.int .i64 x.f1,.int .i64 x.f2,.int .i64 x.f3]:=by
 obtain ⟨_,_,rfl,rfl,⟨_,_,rfl,rfl,⟨_,_,rfl,rfl,rfl⟩⟩⟩:=h;exact rfl
theorem k23_mk (w:World) (x:S23)  : k23.K w x [.int .i64 x.f0,.int .i64 x.f1,.int .i64 x.f2,.int .i64 x.f3]:=⟨[.int .i64 x.f0],[.int .i64 x.f1,.int .i64 x.f2,.int .i64 x.f3],rfl,rfl,⟨[.int .i64 x.f1],[.int .i64 x.f2,.int .i64 x.f3],rfl,rfl,⟨[.int .i64 x.f2],[.int .i64 x.f3],rfl,rfl,rfl⟩⟩⟩
structure S78 where
 f0:S23
 f1:Int
def z78:S78:=⟨z23,(0:Int)⟩
def k78:Kd S78:=Kd.iso (Kd.pair k23 (Kd.int .u8)) (fun x:S78=>(x.f0,x.f1))
theorem k78_open {w:World} {x:S78} {cs:List Value} (h:k78.K w x cs):cs=[.int .i64 x.f0.f0,.int .i64 x.f0.f1,.int .i64 x.f0.f2,.int .i64 x.f0.f3,.int .u8 x.f1]:=by
 obtain ⟨_,_,rfl,s0,rfl⟩:=h;obtain rfl:=k23_open s0;exact rfl
theorem k78_mk (w:World) (x:S78)  : k78.K w x [.int .i64 x.f0.f0,.int .i64 x.f0.f1,.int .i64 x.f0.f2,.int .i64 x.f0.f3,.int .u8 x.f1]:=⟨[.int .i64 x.f0.f0,.int .i64 x.f0.f1,.int .i64 x.f0.f2,.int .i64 x.f0.f3],[.int .u8 x.f1],rfl,(k23_mk w x.f0 ),rfl⟩
def rd_T78 (xs:List S78) (i:Int):S78:=xs.getD i.toNat z78
theorem at_T78 {w:World} {A:Option Addr} {n:Nat} {xs:List S78} (h:Kd.C k78 w A n xs) (i:Int) (h0:0≤i) (h1:i < n):∃ ad , A=some ad∧w.cell? (ad.add (i.toNat * 5))=some (.int .i64 (rd_T78 xs i).f0.f0)∧w.cell? ⟨(ad.add (i.toNat * 5)).block,(ad.add (i.toNat * 5)).off+1,none⟩=some (.int .i64 (rd_T78 xs i).f0.f1)∧w.cell? ⟨(ad.add (i.toNat * 5)).block,(ad.add (i.toNat * 5)).off+2,none⟩=some (.int .i64 (rd_T78 xs i).f0.f2)∧w.cell? ⟨(ad.add (i.toNat * 5)).block,(ad.add (i.toNat * 5)).off+3,none⟩=some (.int .i64 (rd_T78 xs i).f0.f3)∧w.cell? ⟨(ad.add (i.toNat * 5)).block,(ad.add (i.toNat * 5)).off+4,none⟩=some (.int .u8 (rd_T78 xs i).f1):=by
 obtain ⟨ad,c,e,_,hK,hc0⟩:=Kd.C_get h z78 i h0 h1;have hc:∀ j u,c[j]?=some u→w.cell? (ad.add (i.toNat * 5+j))=some u:=hc0;obtain rfl:=k78_open hK;exact ⟨ad,e,hc 0 _ rfl,by rw [← add_field _ _ 1 (by omega)];exact hc 1 _ rfl,by rw [← add_field _ _ 2 (by omega)];exact hc 2 _ rfl,by rw [← add_field _ _ 3 (by omega)];exact hc 3 _ rfl,by rw [← add_field _ _ 4 (by omega)];exact hc 4 _ rfl⟩
end Go.Proofs.YtffojmgmpfjlhaaGreatDoor.Q
namespace Go.Proofs.YtffojmgmpfjlhaaGreatDoor.Q
open Go.Proofs.Ix hiding rd
open Go Go.Proofs.YtffojmgmpfjlhaaGreatDoor Go.RowKit Go.Proofs.YtffojmgmpfjlhaaGreatDoorW.PrintWords
def spl:List UInt8→List (List UInt8)
 | []=>[[]]
 | c :: l=>if c=10 then [] :: spl l else (match spl l with | h :: t=>(c :: h) :: t | []=>[[c]])
theorem spl_ne (l:List UInt8):spl l≠[]:=by
 cases l with
 | nil=>simp [spl]
 | cons c l =>
  unfold spl
  split
  ·simp
  ·split <;> simp
theorem spl_append (b:List UInt8):∀ a,spl (a ++ 10 :: b)=spl a ++ spl b
 | []=>by simp [spl]
 | c :: a=>by
  have ih:=spl_append b a
  rw [List.cons_append]
  by_cases hc:c=10
  ·simp only [spl,if_pos hc,ih];rfl
  ·simp only [spl,if_neg hc,ih]
   cases h:spl a with
   | nil=>exact absurd h (spl_ne a)
   | cons x y=>rfl
theorem spl_miss:∀ l:List UInt8,(∀ k:Nat,l[k]?≠some 10)→spl l=[l]
 | [],_=>rfl
 | c :: l,h=>by
  have h0:c≠10:=fun e=>h 0 (by simp [e])
  simp only [spl,if_neg h0,spl_miss l (fun k=>by have:=h (k+1);simpa using this)]
theorem spl_hit:∀ (l:List UInt8) (i:Nat),l[i]?=some 10→(∀ k:Nat,k < i→l[k]?≠some 10)→spl l=l.take i :: spl (l.drop (i+1))
 | [],i,h,_=>by simp at h
 | c :: l,0,h,_=>by
  have:c=10:=by simpa using h
  simp only [spl,if_pos this]
  rfl
 | c :: l,i+1,h,hn=>by
  have h0:c≠10:=fun e=>hn 0 (by omega) (by simp [e])
  simp only [spl,if_neg h0,spl_hit l i (by simpa using h) (fun k hk=>by have:=hn (k+1) (by omega);simpa using this)]
  rfl
theorem nl_one (s:ByteArray):Lib.indexB s nlB=Lib.indexByte s.data.toList 10:=by
 rw [Lib.one s nlB rfl]
 rfl
theorem ext_toList (s:ByteArray) (a b:Nat):(s.extract a b).data.toList=(s.data.toList.drop a).take (b - a):=by
 simp [ByteArray.data_extract,Array.toList_extract,List.take_drop]
theorem pieces_spl:∀ (n:Nat) (s:ByteArray),s.size≤n→(pieces s).map (fun x:ByteArray=>x.data.toList)=spl s.data.toList:=by
 intro n
 induction n with
 | zero =>
  intro s hs
  have h0:s.data.toList=[]:=by
   have:s.data.size=0:=by have h:s.data.size=s.size:=rfl;omega
   have h2:s.data=#[]:=Array.eq_empty_of_size_eq_zero this
   rw [h2]
  unfold pieces
  have hm:Lib.indexB s nlB=-1:=by rw [nl_one,h0];rfl
  rw [Lib.splitB_miss _ _ _ _ hm,h0]
  simp [spl,h0]
 | succ n ih =>
  intro s hs
  unfold pieces
  rcases Lib.indexB_cases s nlB with hm | ⟨i,hi,hle⟩
  ·rw [Lib.splitB_miss _ _ _ _ hm]
   rw [nl_one] at hm
   rw [spl_miss _ (Lib.indexByte_none hm)]
   rfl
  ·have hle:i+1≤s.size:=hle
   have hsz:s.data.toList.length=s.size:=by rw [Array.length_toList];rfl
   rw [Lib.countB_hit s nlB i (by decide) hi,Nat.add_comm,Lib.splitB_hit _ _ _ _ i hi]
   have h9:=hi
   rw [nl_one] at h9
   obtain ⟨g1,g2⟩:=Lib.indexByte_some h9
   rw [spl_hit _ i g1 g2]
   have hr:=ih (s.extract (i+nlB.size) s.size) (by rw [ByteArray.size_extract];have:nlB.size=1:=rfl;omega)
   unfold pieces at hr
   have hn1:nlB.size=1:=rfl
   rw [List.map_cons,hr,ext_toList,ext_toList,hn1,List.take_of_length_le (l:=s.data.toList.drop (i+1)) (by rw [List.length_drop,hsz];exact Nat.le_refl _),List.drop_zero]
   rfl
theorem ba_inj:∀ {a b:List ByteArray},a.map (fun x:ByteArray=>x.data.toList)=b.map (fun x:ByteArray=>x.data.toList)→a=b
 | [],[],_=>rfl
 | [],_ :: _,h=>by simp at h
 | _ :: _,[],h=>by simp at h
 | ⟨⟨x⟩⟩ :: a,⟨⟨y⟩⟩ :: b,h=>by
  simp only [List.map_cons,List.cons.injEq] at h
  rw [ba_inj h.2]
  have:x=y:=h.1
  rw [this]
def Pl (l:List UInt8):Prop:=∀ i:Nat,l[i]?≠some 58∧(l[i]?=some 46→∀ c,l[i+1]?=some c→c=43∨c=45)
theorem bt_nat (s:ByteArray) (i:Nat) (h:i < s.size):s.data.toList[i]?=some s[i]∧bt s (i:Int)=(s[i].toNat:Int):=by
 refine ⟨?_,?_⟩
 ·rw [List.getElem?_eq_getElem (by rw [Array.length_toList];exact h),Array.getElem_toList];rfl
 ·unfold bt
  rw [dif_pos (by simpa using h)]
  simp
theorem hit_at {l:L9} {c:Nat} (h:l.hit c=true):∃ hlt:l.at_ < l.s.size,l.s[l.at_].toNat=c:=by
 unfold L9.hit L9.peek at h
 rw [Bool.and_eq_true] at h
 obtain ⟨h1,h2⟩:=h
 have h1:=of_decide_eq_true h1
 rw [dif_pos h1] at h2
 exact ⟨h1,by simpa using h2⟩
theorem hit_get {l:L9} {c:Nat} (hc:c < 256) (h:l.hit c=true):l.s.data.toList[l.at_]?=some (UInt8.ofNat c):=by
 obtain ⟨h1,h2⟩:=hit_at h
 rw [(bt_nat l.s l.at_ h1).1,← h2]
 simp
def lineL (s:ByteArray):L9:=(L9.new s true).sk.sk
theorem nm_plain {s:ByteArray} (h:Pl s.data.toList):(L9.new s true).nm=(⟨#[]⟩,(L9.new s true).sk):=by
 unfold L9.nm
 by_cases h1:nameB (L9.new s true).sk.wdS=true
 ·rw [if_pos h1]
  by_cases h2:(L9.new s true).sk.wdL.sk.hit 58=true
  ·exact absurd (hit_get (by decide) h2) (h _).1
  ·rw [if_neg h2]
 ·rw [if_neg h1]
theorem pre_plain {l:L9} (h:Pl l.s.data.toList):l.pre=false:=by
 cases hp:l.pre with
 | false=>rfl
 | true =>
  unfold L9.pre Lib.hasPrefix at hp
  rw [List.isPrefixOf_iff_prefix] at hp
  obtain ⟨r,hr⟩:=hp
  rw [ext_toList] at hr
  have g:∀ (i:Nat) (c:UInt8),funcL[i]?=some c→l.s.data.toList[l.at_+i]?=some c:=by
   intro i c hc
   have h1:(funcL ++ r)[i]?=some c:=by
    rw [List.getElem?_append_left (List.getElem?_eq_some_iff.1 hc).1];exact hc
   rw [hr,List.getElem?_take] at h1
   split at h1
   ·rw [List.getElem?_drop] at h1;exact h1
   ·cases h1
  have g0:=g 0 46 rfl
  have g1:=g 1 102 rfl
  rcases (h (l.at_+0)).2 g0 102 g1 with h | h <;> exact absurd h (by decide)
theorem row_plain (z:Az) (no:Nat) {s:ByteArray} (h:Pl s.data.toList) :
  z.row no s=if (lineL s).at_=(lineL s).s.size then .ok { z with no:=no } else (match (lineL s).instr with | none=>.error 22 | some li=>Az.push { z with no:=no } li):=by
 have hd:(lineL s).dir=some (none,lineL s):=by
  unfold L9.dir
  rw [if_neg (by rw [pre_plain (l:=lineL s) h];decide)]
 unfold Az.row
 simp only [nm_plain h]
 rw [if_pos (show (⟨#[]⟩:ByteArray).size=0 from rfl)]
 rw [show (L9.new s true).sk.sk=lineL s from rfl,hd]
 simp only
 unfold Az.rest
 by_cases e:(lineL s).at_=(lineL s).s.size
 ·rw [if_pos e,if_pos e]
  unfold Az.def_
  rw [if_pos (show (⟨#[]⟩:ByteArray).size=0 from rfl)]
 ·rw [if_neg e,if_neg e]
  cases (lineL s).instr with
  | none=>rfl
  | some li =>
   simp only
   unfold Az.def_
   rw [if_pos (show (⟨#[]⟩:ByteArray).size=0 from rfl)]
theorem rows_append:∀ (L1 L2:List ByteArray) (no:Nat) (z:Az),rowsZ no z (L1 ++ L2)=(match rowsZ no z L1 with | .error e=>.error e | .ok z1=>rowsZ (no+L1.length) z1 L2)
 | [],L2,no,z=>rfl
 | s :: L1,L2,no,z=>by
  rw [List.cons_append,rowsZ,rowsZ]
  cases z.row no s with
  | error e=>rfl
  | ok z1 =>
   simp only
   rw [rows_append L1 L2 (no+1) z1,List.length_cons,Nat.add_right_comm,Nat.add_assoc]
theorem same_self2 (l:List Int):lzsameBytes.f l l=some true:=by
 unfold lzsameBytes.f
 simp
theorem pM_snoc (M:Nat) (c:UInt8):∀ (l:List UInt8) (acc u:Nat),Lib.parseUintM M acc l=.ok u→48≤c.toNat∧c.toNat≤57→u < 1844674407370955162→u * 10+(c.toNat - 48)≤M→Lib.parseUintM M acc (l ++ [c])=.ok (u * 10+(c.toNat - 48))
 | [],acc,u,h,hc,h1,h2=>by
  cases h
  simp only [List.nil_append,Lib.parseUintM]
  rw [if_pos hc,if_neg (by omega),if_neg (by omega)]
 | d :: l,acc,u,h,hc,h1,h2=>by
  rw [List.cons_append]
  unfold Lib.parseUintM at h ⊢
  by_cases g1:48≤d.toNat∧d.toNat≤57
  ·rw [if_pos g1] at h ⊢
   by_cases g2:1844674407370955162≤acc
   ·rw [if_pos g2] at h;cases h
   ·rw [if_neg g2] at h ⊢
    by_cases g3:M < acc * 10+(d.toNat - 48)
    ·rw [if_pos g3] at h;cases h
    ·rw [if_neg g3] at h ⊢
     exact pM_snoc M c l _ u h hc h1 h2
  ·rw [if_neg g1] at h;cases h
theorem dig_nat {d:Nat} (h:d < 10):(UInt8.ofNat (48+d)).toNat=48+d:=by
 simp;omega
theorem pM_dec:∀ (n u:Nat),u≤n→u≤18446744073709551615→Lib.parseUintM 18446744073709551615 0 (Lib.decDigits u)=.ok u
 | 0,u,h,hm=>by
  obtain rfl:u=0:=by omega
  rw [Lib.decDigits_one (by omega)]
  rfl
 | n+1,u,h,hm=>by
  by_cases h10:u < 10
  ·rw [Lib.decDigits_one h10]
   simp only [Lib.parseUintM]
   rw [dig_nat h10,if_pos (by omega),if_neg (by omega),if_neg (by omega)]
   simp
  ·rw [Lib.decDigits,dif_neg h10]
   have ih:=pM_dec n (u / 10) (by omega) (by omega)
   have hd:=dig_nat (d:=u % 10) (by omega)
   rw [pM_snoc _ _ _ _ _ ih (by rw [hd];omega) (by omega) (by rw [hd];omega),hd]
   congr 1
   omega
theorem dec_ne (u:Nat):Lib.decDigits u≠[]:=by
 rw [Lib.decDigits]
 split <;> simp
theorem dec_dig:∀ (n u:Nat),u≤n→∀ c∈Lib.decDigits u,isDig c=true
 | 0,u,h,c,hc=>by
  obtain rfl:u=0:=by omega
  rw [Lib.decDigits_one (by omega)] at hc
  simp at hc;rw [hc];decide
 | n+1,u,h,c,hc=>by
  have hk:∀ d:Fin 10,isDig (UInt8.ofNat (48+d.val))=true:=by decide
  by_cases h10:u < 10
  ·rw [Lib.decDigits_one h10] at hc
   simp only [List.mem_singleton] at hc
   rw [hc];exact hk ⟨u,h10⟩
  ·rw [Lib.decDigits,dif_neg h10,List.mem_append] at hc
   rcases hc with hc | hc
   ·exact dec_dig n (u / 10) (by omega) c hc
   ·simp only [List.mem_singleton] at hc
    rw [hc];exact hk ⟨u % 10,by omega⟩
theorem nD_le:∀ (k u:Nat),u < 10 ^ (k+1)→Lib.nDigits u≤k+1
 | 0,u,h=>by rw [Lib.nDigits_small (by omega)];omega
 | k+1,u,h=>by
  by_cases h10:u < 10
  ·rw [Lib.nDigits_small h10];omega
  ·rw [Lib.nDigits_big h10]
   have:=nD_le k (u / 10) (by rw [Nat.pow_succ] at h;omega)
   omega
theorem dec_len {u:Nat} (h:u≤9223372036854775808):(Lib.decDigits u).length≤19:=by
 rw [Lib.decDigits_length]
 exact nD_le 18 u (by omega)
theorem toS (l:List UInt8):(bS l).data.toList=l:=by simp [bS]
theorem pv_dec {u:Nat} (h:u≤9223372036854775807):pv (bS (Lib.decDigits u))=some (u:Int):=by
 unfold pv
 rw [toS]
 cases hd:Lib.decDigits u with
 | nil=>exact absurd hd (dec_ne u)
 | cons c r =>
  have hc:=dec_dig u u (Nat.le_refl _) c (by rw [hd];exact List.mem_cons_self)
  have hc2:48≤c.toNat∧c.toNat≤57:=by
   simp only [isDig,Bool.and_eq_true,decide_eq_true_eq] at hc
   exact ⟨UInt8.le_iff_toNat_le.1 hc.1,UInt8.le_iff_toNat_le.1 hc.2⟩
  rw [Lib.parseIntB_plain 64 c r (by omega) (by omega),← hd]
  unfold Lib.parseUintB
  rw [if_neg (dec_ne u),show 2 ^ 64 - 1=18446744073709551615 from rfl,pM_dec u u (Nat.le_refl _) (by omega)]
  simp only [Lib.signlessC]
  rw [if_neg (by omega)]
theorem pv_neg {u:Nat} (h:u≤9223372036854775808) (s:ByteArray) (hs:s.data.toList=Lib.decDigits u):pv ((⟨#[45]⟩:ByteArray) ++ s)=some (-(u:Int)):=by
 unfold pv
 have e:((⟨#[45]⟩:ByteArray) ++ s).data.toList=45 :: Lib.decDigits u:=by rw [← hs];simp [ByteArray.data_append]
 rw [e,Lib.parseIntB_minus]
 unfold Lib.parseUintB
 rw [if_neg (dec_ne u),show 2 ^ 64 - 1=18446744073709551615 from rfl,pM_dec u u (Nat.le_refl _) (by omega)]
 simp only [Lib.signedC]
 rw [if_neg (by omega)]
theorem ext_toL (s:ByteArray) (a b:Nat):(s.extract a b).data.toList=(s.data.toList.drop a).take (b - a):=by
 simp [ByteArray.data_extract,Array.toList_extract,List.take_drop]
def Cur (l:L9) (t:List UInt8):Prop:=l.s.data.toList.drop l.at_=t∧l.at_≤l.s.size
def mv (l:L9) (n:Nat):L9:=l.go (l.at_+n)
theorem sz_list (s:ByteArray):s.data.toList.length=s.size:=by rw [Array.length_toList];rfl
theorem Cur.len {l:L9} {t:List UInt8} (h:Cur l t):l.at_+t.length=l.s.size:=by
 have:=h.2
 rw [← h.1,List.length_drop,sz_list]
 omega
theorem Cur.adv {l:L9} {x t:List UInt8} (h:Cur l (x ++ t)):Cur (Q.mv l x.length) t:=by
 have hl:=h.len
 rw [List.length_append] at hl
 refine ⟨?_,by show l.at_+x.length≤l.s.size;omega⟩
 show l.s.data.toList.drop (l.at_+x.length)=t
 rw [← List.drop_drop,h.1,List.drop_left]
theorem Cur.mv1 {l:L9} {c:UInt8} {t:List UInt8} (h:Cur l (c :: t)):Cur (Q.mv l 1) t:=Cur.adv (x:=[c]) h
theorem Cur.at0 {l:L9} {c:UInt8} {t:List UInt8} (h:Cur l (c :: t)):∃ hlt:l.at_ < l.s.size,l.s[l.at_]=c:=by
 have hl:=h.len
 rw [List.length_cons] at hl
 have hlt:l.at_ < l.s.size:=by omega
 refine ⟨hlt,?_⟩
 have h1:=h.1
 rw [List.drop_eq_getElem_cons (by rw [sz_list];exact hlt)] at h1
 have h2:=(List.cons.inj h1).1
 rw [Array.getElem_toList] at h2
 exact h2
theorem Cur.hit {l:L9} {c:UInt8} {t:List UInt8} (h:Cur l (c :: t)) (n:Nat):l.hit n=(c.toNat == n):=by
 obtain ⟨h1,h2⟩:=h.at0
 unfold L9.hit L9.peek
 rw [dif_pos h1,decide_eq_true h1,h2]
 rfl
theorem Cur.peek {l:L9} {c:UInt8} {t:List UInt8} (h:Cur l (c :: t)):l.peek=c.toNat:=by
 obtain ⟨h1,h2⟩:=h.at0
 unfold L9.peek
 rw [dif_pos h1,h2]
theorem Cur.peek0 {l:L9} (h:Cur l []):l.peek=0:=by
 have hl:=h.len
 rw [List.length_nil] at hl
 unfold L9.peek
 rw [dif_neg (by omega)]
theorem Cur.run {l:L9} {x t:List UInt8} (h:Cur l (x ++ t)) (p:UInt8→Bool) (hx:∀ c∈x,p c=true) (ht:∀ c t',t=c :: t'→p c=false):runB p l.s l.at_=l.at_+x.length:=by
 unfold runB runEnd
 rw [h.1,List.takeWhile_append_of_pos hx]
 have:t.takeWhile p=[]:=by
  cases t with
  | nil=>rfl
  | cons c t'=>rw [List.takeWhile_cons,if_neg (by rw [ht c t' rfl];decide)]
 rw [this,List.append_nil]
theorem Cur.word {l:L9} {x t:List UInt8} (h:Cur l (x ++ t)):(l.s.extract l.at_ (l.at_+x.length)).data.toList=x:=by
 rw [ext_toL,h.1,Nat.add_sub_cancel_left,List.take_left]
def Tl (t:List UInt8):Prop:=∀ c t',t=c :: t'→isWd c=false∧isBl c=false
theorem wd_dig:∀ c:UInt8,isWd c=false→isDig c=false:=by
 intro c h
 unfold isWd at h
 rw [Bool.or_eq_false_iff] at h
 exact h.2
theorem Cur.sk0 {l:L9} {t:List UInt8} (h:Cur l t) (ht:∀ c t',t=c :: t'→isBl c=false):l.sk=l:=by
 unfold L9.sk
 rw [Cur.run (x:=[]) (t:=t) h isBl (fun c hc=>absurd hc List.not_mem_nil) ht]
 rfl
theorem Cur.sk1 {l:L9} {t:List UInt8} (h:Cur l (32 :: t)) (ht:∀ c t',t=c :: t'→isBl c=false):l.sk=Q.mv l 1∧l.sp=true:=by
 have hr:=Cur.run (x:=[32]) (t:=t) h isBl (fun c hc=>by simp at hc;rw [hc];decide) ht
 unfold L9.sk L9.sp
 rw [hr]
 refine ⟨rfl,?_⟩
 exact decide_eq_true (by simp)
def regW (x:Int):List UInt8:=[114,UInt8.ofNat (48+x.toNat)]
theorem reg_fin:∀ x:Fin 8,(UInt8.ofNat (48+x.val)).toNat=48+x.val:=by decide
theorem rg_ok {l:L9} {x:Int} {t:List UInt8} (h0:0≤x) (h7:x≤7) (h:Cur l (regW x ++ t)) (ht:Tl t):l.rg=some (x,mv l 2):=by
 have hx:=reg_fin ⟨x.toNat,by omega⟩
 have h1:Cur l (114 :: UInt8.ofNat (48+x.toNat) :: t):=h
 have h2:Cur (mv l 1) (UInt8.ofNat (48+x.toNat) :: t):=h1.mv1
 have h3:Cur (mv (mv l 1) 1) t:=h2.mv1
 have e1:l.next=mv l 1:=rfl
 have e2:l.next.next=mv (mv l 1) 1:=rfl
 have hp:(mv l 1).peek=48+x.toNat:=h2.peek.trans hx
 have hw:wdI ((mv (mv l 1) 1).peek:Int)=false:=by
  cases t with
  | nil=>rw [h3.peek0];decide
  | cons c t'=>rw [h3.peek,wdI_eq];exact (ht c t' rfl).1
 unfold L9.rg
 rw [h1.hit,if_pos (by decide),e2,e1,hp,if_pos (by omega),if_neg (by rw [hw];decide)]
 congr 2
 omega
theorem dg_ok {l:L9} {u:Nat} {t:List UInt8} (hu:u≤9223372036854775808) (h:Cur l (Lib.decDigits u ++ t)) (ht:Tl t) (minus:Bool) (hm:minus=false→u≤9223372036854775807) :
  l.dg minus=some (some (if minus=true then -(u:Int) else (u:Int)),mv l (Lib.decDigits u).length):=by
 have hr:=h.run isDig (dec_dig u u (Nat.le_refl _)) (fun c t' e=>wd_dig c (ht c t' e).1)
 have hw:=h.word
 have hE:l.dgE=l.at_+(Lib.decDigits u).length:=hr
 have hS:l.dgS.data.toList=Lib.decDigits u:=by unfold L9.dgS;rw [hE];exact hw
 have hsz:l.dgS.size=(Lib.decDigits u).length:=by rw [← sz_list,hS]
 have h1:0 < (Lib.decDigits u).length:=List.length_pos_iff.2 (dec_ne u)
 unfold L9.dg
 rw [hsz,if_pos h1,if_pos (dec_len hu),hE]
 cases minus with
 | true=>rw [if_pos rfl,if_pos rfl,pv_neg hu _ hS];rfl
 | false =>
  have e:l.dgS=bS (Lib.decDigits u):=by
   rw [← hS];unfold bS;rw [Array.toArray_toList]
  rw [if_neg (by decide),if_neg (by decide),e,pv_dec (hm rfl)];rfl
end Go.Proofs.YtffojmgmpfjlhaaGreatDoor.Q
namespace Go.Proofs.YtffojmgmpfjlhaaGreatDoor.Q
open Go.Proofs.Ix hiding rd
open Go.Proofs.YtffojmgmpfjlhaaGreatDoor Go.RowKit Go.Proofs.YtffojmgmpfjlhaaGreatDoorW.PrintWords
theorem bytes_ten {f:Int}:bytesM f≤10∧(bytesM f=10↔f=3):=by
 unfold bytesM
 by_cases h3:f=3
 ·simp [h3]
 ·simp only [h3,if_false,iff_false]
  split
  ·omega
  ·split <;> omega
theorem bytesOf_g (k:Nat) (f:Int) (h:1≤k):insn_bytesOf.f k f=some (bytesM f:Int):=by
 obtain ⟨k,rfl⟩:∃ m,k=m+1:=⟨k - 1,by omega⟩
 exact bytesOf_f k f
theorem bytes_in (f:Int):bytesM f=0∨bytesM f=1∨bytesM f=2∨bytesM f=10:=by
 unfold bytesM
 (repeat' split) <;> simp
theorem fits_f (f n:Int) (k:Nat) (hk:1≤k):insn_fits.f k f n=some (fitsM f n):=by
 unfold insn_fits.f fitsM
 by_cases h3:f=3
 ·rw [if_pos h3,if_pos h3]
 rw [if_neg h3,if_neg h3]
 by_cases h8:f=8
 ·rw [if_pos h8,if_pos h8]
  by_cases c:n≥0
  ·rw [if_pos c];simp;omega
  ·rw [if_neg c];simp;omega
 rw [if_neg h8,if_neg h8,bytesOf_g k f hk,Option.bind_some]
 have h10:bytesM f≠10:=fun h=>h3 (bytes_ten.2.1 h)
 rcases bytes_in f with e | e | e | e
 ·rw [e];simp
 ·rw [e]
  simp only [show ¬ (((1:Nat):Int)=0) by omega,show (((1:Nat):Int)=1) by omega,if_false,if_true,show ¬ ((1:Nat)=0) by omega]
  by_cases c:n≥-64
  ·rw [if_pos c];simp;omega
  ·rw [if_neg c];simp;omega
 ·rw [e]
  simp only [show ¬ (((2:Nat):Int)=0) by omega,show ¬ (((2:Nat):Int)=1) by omega,show (((2:Nat):Int)=2) by omega,if_false,if_true,show ¬ ((2:Nat)=0) by omega,show ¬ ((2:Nat)=1) by omega]
  by_cases c:n≥-8192
  ·rw [if_pos c];simp;omega
  ·rw [if_neg c];simp;omega
 ·exact absurd e h10
def chkD (op a b imm:Int):Int :=
 if nameM op=[] then 20
 else if 0≤a∧a≤7∧0≤b∧b≤7∧(hasA (formM op)=true∨a=0)∧(hasB (formM op)=true∨b=0)∧fitsM (formM op) imm=true then 0 else 20
theorem check_f (op a b imm:Int) (k:Nat) (hk:1≤k):insn_Check.f k op a b imm=some (chkD op a b imm):=by
 unfold insn_Check.f chkD insn_kindOf.f
 rw [Option.bind_some]
 by_cases c1:nameM op=[]
 ·rw [if_pos ((bS_nil _).2 c1),if_pos c1]
 rw [if_neg (fun h=>c1 ((bS_nil _).1 h)),if_neg c1]
 simp only [hasA_f,hasB_f,fits_f _ _ k hk,Option.bind_some]
 generalize hasA (formM op)=A
 generalize hasB (formM op)=B
 generalize fitsM (formM op) imm=F
 cases A <;> cases B <;> cases F <;> simp only [Bool.false_eq_true,if_true,if_false,true_or,false_or,and_true,and_false,true_and] <;> (repeat' split) <;> first | rfl | (exfalso;omega)
end Go.Proofs.YtffojmgmpfjlhaaGreatDoor.Q
namespace Go.Proofs.YtffojmgmpfjlhaaGreatDoor.Q
open Go.Proofs.Ix hiding rd
open Go Go.Proofs.YtffojmgmpfjlhaaGreatDoor Go.RowKit Go.Proofs.YtffojmgmpfjlhaaGreatDoorW.PrintWords
def numW (v:Int):List UInt8:=Lib.itoa v
def distW (v:Int):List UInt8:=if v < 0 then 46 :: numW v else 46 :: 43 :: numW v
def addrW (b v:Int):List UInt8:=91 :: (regW b ++ ((if v > 0 then 43 :: numW v else if v < 0 then numW v else []) ++ [93]))
def memW (b:Int):List UInt8:=91 :: (regW b ++ [93])
def rdW (a b v:Int):Rd→List UInt8
 | .a=>regW a
 | .b=>regW b
 | .num=>numW v
 | .mem=>memW b
 | .addr=>addrW b v
 | .target=>distW v
def upd (a b v:Int):Rd→L9→L9
 | .a,l=>{ l with a:=a }
 | .b,l=>{ l with b:=b }
 | .num,l=>{ l with imm:=v }
 | .mem,l=>{ l with b:=b }
 | .addr,l=>{ l with b:=b,imm:=v }
 | .target,l=>{ l with far:=false,imm:=v }
theorem num_neg {v:Int} (h:v < 0):numW v=45 :: Lib.decDigits v.natAbs:=by unfold numW Lib.itoa;rw [if_pos h]
theorem num_pos {v:Int} (h:¬ v < 0):numW v=Lib.decDigits v.toNat:=by unfold numW Lib.itoa;rw [if_neg h]
theorem dec_head (u:Nat):∃ c r,Lib.decDigits u=c :: r∧isDig c=true:=by
 cases h:Lib.decDigits u with
 | nil=>exact absurd h (dec_ne u)
 | cons c r=>exact ⟨c,r,rfl,dec_dig u u (Nat.le_refl _) c (by rw [h];exact List.mem_cons_self)⟩
theorem dig_no {c:UInt8} (h:isDig c=true):c.toNat≠45∧c.toNat≠43∧isBl c=false:=by
 have key:∀ c:UInt8,isDig c=true→c.toNat≠45∧c.toNat≠43∧isBl c=false:=u8_all _ (by decide +kernel)
 exact key c h
theorem head_append {x t:List UInt8} {c:UInt8} {r:List UInt8} (h:x=c :: r):∀ d t',x ++ t=d :: t'→d=c:=by
 intro d t' e
 rw [h,List.cons_append] at e
 exact (List.cons.inj e).1.symm
theorem Cur.set {l l':L9} {t:List UInt8} (h:Cur l t) (hs:l'.s=l.s) (ha:l'.at_=l.at_):Cur l' t:=by
 unfold Cur at h ⊢
 rw [hs,ha]
 exact h
theorem num_ok {l:L9} {v:Int} {t:List UInt8} (h0:-9223372036854775808≤v) (h1:v≤9223372036854775807) (hf:fitsM (formM l.op) v=true) (h:Cur l (numW v ++ t)) (ht:Tl t):l.num=some { mv l (numW v).length with imm:=v }:=by
 unfold L9.num
 by_cases hn:v < 0
 ·have e:=num_neg hn
  rw [e] at h ⊢
  have h2:Cur (mv l 1) (Lib.decDigits v.natAbs ++ t):=h.mv1
  have hh:l.hit 45=true:=by rw [Cur.hit (t:=Lib.decDigits v.natAbs ++ t) h];rfl
  rw [hh]
  show L9.setN (formM l.op) ((mv l 1).dg true)=_
  rw [dg_ok (by omega) h2 ht true (fun e=>by cases e),if_pos rfl]
  unfold L9.setN
  have ev:-((v.natAbs:Nat):Int)=v:=by omega
  simp only
  rw [ev,if_pos hf]
  congr 1
  show L9.mk _ _ _ _ _ _ _ _ _=L9.mk _ _ _ _ _ _ _ _ _
  congr 1
  show l.at_+1+_=l.at_+(_+1)
  omega
 ·have e:=num_pos hn
  rw [e] at h ⊢
  obtain ⟨c,r,e2,hc⟩:=dec_head v.toNat
  have hh:l.hit 45=false:=by
   have h3:=h
   rw [e2] at h3
   rw [Cur.hit (t:=r ++ t) h3]
   exact beq_eq_false_iff_ne.2 (dig_no hc).1
  rw [hh]
  show L9.setN (formM l.op) (l.dg false)=_
  rw [dg_ok (by omega) h ht false (fun _=>by omega),if_neg (by decide)]
  unfold L9.setN
  have ev:((v.toNat:Nat):Int)=v:=by omega
  simp only
  rw [ev,if_pos hf]
theorem tl93 (t:List UInt8):Tl (93 :: t):=by
 intro c t' e
 rw [← (List.cons.inj e).1]
 decide
theorem bl_of {c:UInt8} (h:isDig c=true):isBl c=false:=(dig_no h).2.2
theorem close_ok {l:L9} {t:List UInt8} (h:Cur l (93 :: t)):l.close=some (mv l 1):=by
 unfold L9.close
 rw [h.hit,if_pos (by decide)]
 rfl
theorem addr2_ok {l:L9} {v:Int} {t:List UInt8} (h0:-9223372036854775808≤v) (h1:v≤9223372036854775807) (hf:fitsM (formM l.op) v=true) (hi:v=0→l.imm=0)
  (h:Cur l ((if v > 0 then 43 :: numW v else if v < 0 then numW v else []) ++ 93 :: t)) :
  l.addr2=some { mv l ((if v > 0 then 43 :: numW v else if v < 0 then numW v else []).length+1) with imm:=v }:=by
 by_cases hp:v > 0
 ·rw [if_pos hp] at h ⊢
  have hn:¬ v < 0:=by omega
  rw [num_pos hn] at h ⊢
  have h2:Cur (mv l 1) (Lib.decDigits v.toNat ++ 93 :: t):=h.mv1
  obtain ⟨c,r,e2,hc⟩:=dec_head v.toNat
  have g1:l.hit 43=true:=by rw [Cur.hit (t:=Lib.decDigits v.toNat ++ 93 :: t) h];rfl
  have g2:(mv l 1).hit 45=false:=by
   have h3:=h2
   rw [e2] at h3
   rw [Cur.hit (t:=r ++ 93 :: t) h3]
   exact beq_eq_false_iff_ne.2 (dig_no hc).1
  have g3:(mv l 1).sk=mv l 1:=h2.sk0 (fun d t' e=>by rw [head_append e2 d t' e];exact bl_of hc)
  have h4:=h2.adv
  have g4:(mv (mv l 1) (Lib.decDigits v.toNat).length).sk=mv (mv l 1) (Lib.decDigits v.toNat).length:=h4.sk0 (fun c t' e=>(tl93 t c t' e).2)
  unfold L9.addr2
  rw [g1]
  rw [show l.tk true=mv l 1 from rfl,g2,if_neg (by decide),if_pos (by decide),show (mv l 1).tk false=mv l 1 from rfl,show (mv l 1).op=l.op from rfl]
  rw [g3,dg_ok (by omega) h2 (tl93 t) false (fun _=>by omega),if_neg (by decide)]
  have ev:((v.toNat:Nat):Int)=v:=by omega
  unfold L9.setN
  simp only
  rw [ev,if_pos hf]
  simp only
  have h5:Cur { mv (mv l 1) (Lib.decDigits v.toNat).length with imm:=v } (93 :: t):=h4.set rfl rfl
  rw [h5.sk0 (fun c t' e=>(tl93 t c t' e).2),close_ok h5]
  congr 1
  show L9.mk _ _ _ _ _ _ _ _ _=L9.mk _ _ _ _ _ _ _ _ _
  congr 1
  show l.at_+1+_+1=l.at_+(_+1+1)
  omega
 ·rw [if_neg hp] at h ⊢
  by_cases hn:v < 0
  ·rw [if_pos hn] at h ⊢
   rw [num_neg hn] at h ⊢
   have h2:Cur (mv l 1) (Lib.decDigits v.natAbs ++ 93 :: t):=h.mv1
   obtain ⟨c,r,e2,hc⟩:=dec_head v.natAbs
   have g1:l.hit 43=false:=by rw [Cur.hit (t:=Lib.decDigits v.natAbs ++ 93 :: t) h];rfl
   have g2:l.hit 45=true:=by rw [Cur.hit (t:=Lib.decDigits v.natAbs ++ 93 :: t) h];rfl
   have g3:(mv l 1).sk=mv l 1:=h2.sk0 (fun d t' e=>by rw [head_append e2 d t' e];exact bl_of hc)
   have h4:=h2.adv
   unfold L9.addr2
   rw [g1]
   rw [show l.tk false=l from rfl,g2,if_neg (by decide),if_pos (by decide),show l.tk true=mv l 1 from rfl,show (mv l 1).op=l.op from rfl]
   rw [g3,dg_ok (by omega) h2 (tl93 t) true (fun e=>by cases e),if_pos rfl]
   have ev:-((v.natAbs:Nat):Int)=v:=by omega
   unfold L9.setN
   simp only
   rw [ev,if_pos hf]
   simp only
   have h5:Cur { mv (mv l 1) (Lib.decDigits v.natAbs).length with imm:=v } (93 :: t):=h4.set rfl rfl
   rw [h5.sk0 (fun c t' e=>(tl93 t c t' e).2),close_ok h5]
   congr 1
   show L9.mk _ _ _ _ _ _ _ _ _=L9.mk _ _ _ _ _ _ _ _ _
   congr 1
   show l.at_+1+_+1=l.at_+(_+1+1)
   omega
  ·rw [if_neg hn] at h ⊢
   have h:Cur l (93 :: t):=h
   have g1:l.hit 43=false:=by rw [h.hit];rfl
   have g2:l.hit 45=false:=by rw [h.hit];rfl
   unfold L9.addr2
   rw [g1]
   rw [show l.tk false=l from rfl,g2,if_neg (by decide),if_neg (by decide),show l.tk false=l from rfl]
   rw [close_ok h]
   congr 1
   show L9.mk _ _ _ _ _ _ _ _ _=L9.mk _ _ _ _ _ _ _ _ _
   have e0:v=0:=by omega
   congr 1
   show l.imm=v
   rw [e0];exact hi e0
theorem tl_sign {v:Int} {t:List UInt8}:Tl ((if v > 0 then 43 :: numW v else if v < 0 then numW v else []) ++ 93 :: t):=by
 intro c t' e
 by_cases hp:v > 0
 ·rw [if_pos hp,List.cons_append] at e
  rw [← (List.cons.inj e).1];decide
 ·rw [if_neg hp] at e
  by_cases hn:v < 0
  ·rw [if_pos hn,num_neg hn,List.cons_append] at e
   rw [← (List.cons.inj e).1];decide
  ·rw [if_neg hn,List.nil_append] at e
   rw [← (List.cons.inj e).1];decide
theorem reg_bl (x:Int) (t:List UInt8):∀ c t',regW x ++ t=c :: t'→isBl c=false:=by
 intro c t' e
 unfold regW at e
 rw [List.cons_append] at e
 rw [← (List.cons.inj e).1];decide
theorem addr_ok {l:L9} {b v:Int} {t:List UInt8} (hb0:0≤b) (hb7:b≤7) (h0:-9223372036854775808≤v) (h1:v≤9223372036854775807) (hf:fitsM (formM l.op) v=true) (hi:v=0→l.imm=0) (h:Cur l (addrW b v ++ t)) :
  l.addr=some { mv l (addrW b v).length with b:=b,imm:=v }:=by
 have h:Cur l (91 :: (regW b ++ ((if v > 0 then 43 :: numW v else if v < 0 then numW v else []) ++ 93 :: t))):=by
  have:=h
  unfold addrW at this
  simpa using this
 have h2:=h.mv1
 have h3:Cur (mv (mv l 1) 2) _:=h2.adv
 unfold L9.addr
 rw [h.hit,if_pos (by decide)]
 show (match (mv l 1).sk.rB with | none=>none | some l2=>l2.sk.addr2)=_
 rw [h2.sk0 (reg_bl b _)]
 unfold L9.rB
 rw [rg_ok hb0 hb7 h2 tl_sign]
 simp only [Option.map_some]
 have h4:Cur { mv (mv l 1) 2 with b:=b } _:=h3.set rfl rfl
 rw [h4.sk0 (fun c t' e=>(tl_sign c t' e).2),addr2_ok (l:={ mv (mv l 1) 2 with b:=b }) h0 h1 hf hi h4]
 congr 1
 show L9.mk _ _ _ _ _ _ _ _ _=L9.mk _ _ _ _ _ _ _ _ _
 congr 1
 show l.at_+1+2+_=l.at_+_
 unfold addrW
 simp only [List.length_cons,List.length_append,List.length_nil,regW]
 omega
theorem mem_ok {l:L9} {b:Int} {t:List UInt8} (hb0:0≤b) (hb7:b≤7) (h:Cur l (memW b ++ t)):l.mem=some { mv l (memW b).length with b:=b }:=by
 have h:Cur l (91 :: (regW b ++ 93 :: t)):=by
  have:=h
  unfold memW at this
  simpa using this
 have h2:=h.mv1
 have h3:Cur (mv (mv l 1) 2) _:=h2.adv
 unfold L9.mem
 rw [h.hit,if_pos (by decide)]
 show (match (mv l 1).sk.rB with | none=>none | some l2=>l2.sk.close)=_
 rw [h2.sk0 (reg_bl b _)]
 unfold L9.rB
 rw [rg_ok hb0 hb7 h2 (tl93 t)]
 simp only [Option.map_some]
 have h4:Cur { mv (mv l 1) 2 with b:=b } (93 :: t):=h3.set rfl rfl
 rw [h4.sk0 (fun c t' e=>(tl93 t c t' e).2),close_ok h4]
 rfl
theorem tgt_ok {l:L9} {v:Int} {t:List UInt8} (h0:-9223372036854775808≤v) (h1:v≤9223372036854775807) (hf:fitsM (formM l.op) v=true) (h:Cur l (distW v ++ t)) (ht:Tl t) :
  l.tgt=some { mv l (distW v).length with far:=false,imm:=v }:=by
 unfold L9.tgt
 by_cases hn:v < 0
 ·have e:distW v=46 :: 45 :: Lib.decDigits v.natAbs:=by unfold distW;rw [if_pos hn,num_neg hn]
  rw [e] at h ⊢
  have h2:Cur (mv l 1) (45 :: (Lib.decDigits v.natAbs ++ t)):=h.mv1
  have h3:Cur (mv (mv l 1) 1) (Lib.decDigits v.natAbs ++ t):=h2.mv1
  have g0:l.hit 46=true:=by rw [Cur.hit (t:=45 :: (Lib.decDigits v.natAbs ++ t)) h];rfl
  rw [g0,if_pos rfl]
  show (if (mv l 1).hit 43=true then _ else if (mv l 1).hit 45=true then L9.setF (formM l.op) ((mv (mv l 1) 1).dg true) else none)=_
  rw [h2.hit,if_neg (by decide),h2.hit,if_pos (by decide),dg_ok (by omega) h3 ht true (fun e=>by cases e),if_pos rfl]
  have ev:-((v.natAbs:Nat):Int)=v:=by omega
  unfold L9.setF
  simp only
  rw [ev,if_pos hf]
  congr 1
  show L9.mk _ _ _ _ _ _ _ _ _=L9.mk _ _ _ _ _ _ _ _ _
  congr 1
  show l.at_+1+1+_=l.at_+(_+1+1)
  omega
 ·have e:distW v=46 :: 43 :: Lib.decDigits v.toNat:=by unfold distW;rw [if_neg hn,num_pos hn]
  rw [e] at h ⊢
  have h2:Cur (mv l 1) (43 :: (Lib.decDigits v.toNat ++ t)):=h.mv1
  have h3:Cur (mv (mv l 1) 1) (Lib.decDigits v.toNat ++ t):=h2.mv1
  have g0:l.hit 46=true:=by rw [Cur.hit (t:=43 :: (Lib.decDigits v.toNat ++ t)) h];rfl
  rw [g0,if_pos rfl]
  show (if (mv l 1).hit 43=true then L9.setF (formM l.op) ((mv (mv l 1) 1).dg false) else _)=_
  rw [h2.hit,if_pos (by decide),dg_ok (by omega) h3 ht false (fun _=>by omega),if_neg (by decide)]
  have ev:((v.toNat:Nat):Int)=v:=by omega
  unfold L9.setF
  simp only
  rw [ev,if_pos hf]
  congr 1
  show L9.mk _ _ _ _ _ _ _ _ _=L9.mk _ _ _ _ _ _ _ _ _
  congr 1
  show l.at_+1+1+_=l.at_+(_+1+1)
  omega
structure Ok1 (op a b v:Int):Prop where
 a0:0≤a
 a7:a≤7
 b0:0≤b
 b7:b≤7
 v0:-9223372036854775808≤v
 v1:v≤9223372036854775807
 fits:fitsM (formM op) v=true
theorem run_ok {op a b v:Int} (k:Rd) (o:Ok1 op a b v) {l:L9} {t:List UInt8} (hop:l.op=op) (hi:v=0→l.imm=0) (h:Cur l (rdW a b v k ++ t)) (ht:Tl t) :
  L9.run k l=some (upd a b v k (mv l (rdW a b v k).length)):=by
 have hf:fitsM (formM l.op) v=true:=by rw [hop];exact o.fits
 cases k with
 | a =>
  show l.rA=_
  unfold L9.rA
  rw [rg_ok o.a0 o.a7 h ht];rfl
 | b =>
  show l.rB=_
  unfold L9.rB
  rw [rg_ok o.b0 o.b7 h ht];rfl
 | num=>exact num_ok o.v0 o.v1 hf h ht
 | mem=>exact mem_ok o.b0 o.b7 h
 | addr=>exact addr_ok o.b0 o.b7 o.v0 o.v1 hf hi h
 | target=>exact tgt_ok o.v0 o.v1 hf h ht
theorem rdW_bl (a b v:Int) (k:Rd) (t:List UInt8):∀ c t',rdW a b v k ++ t=c :: t'→isBl c=false:=by
 intro c t' e
 cases k with
 | a=>exact reg_bl a t c t' e
 | b=>exact reg_bl b t c t' e
 | num =>
  have e:numW v ++ t=c :: t':=e
  by_cases hn:v < 0
  ·rw [num_neg hn,List.cons_append] at e
   rw [← (List.cons.inj e).1];decide
  ·rw [num_pos hn] at e
   obtain ⟨d,r,e2,hd⟩:=dec_head v.toNat
   rw [head_append e2 c t' e];exact bl_of hd
 | mem =>
  have e:91 :: (regW b ++ [93]) ++ t=c :: t':=e
  rw [List.cons_append] at e
  rw [← (List.cons.inj e).1];decide
 | addr =>
  have e:91 :: (regW b ++ ((if v > 0 then 43 :: numW v else if v < 0 then numW v else []) ++ [93])) ++ t=c :: t':=e
  rw [List.cons_append] at e
  rw [← (List.cons.inj e).1];decide
 | target =>
  have e:distW v ++ t=c :: t':=e
  unfold distW at e
  by_cases hn:v < 0
  ·rw [if_pos hn,List.cons_append] at e
   rw [← (List.cons.inj e).1];decide
  ·rw [if_neg hn,List.cons_append] at e
   rw [← (List.cons.inj e).1];decide
def tailW (a b v:Int) (ks:List Rd):List UInt8:=ks.flatMap fun k=>44 :: 32 :: rdW a b v k
def updL (a b v:Int) (ks:List Rd) (l:L9):L9:=ks.foldl (fun l k=>upd a b v k l) l
theorem upd_s (a b v:Int) (k:Rd) (l:L9):(upd a b v k l).s=l.s∧(upd a b v k l).at_=l.at_∧(upd a b v k l).op=l.op∧((v=0→l.imm=0)→(v=0→(upd a b v k l).imm=0)):=by
 cases k <;> exact ⟨rfl,rfl,rfl,fun h e=>by first | exact h e | exact e⟩
theorem upd_go (a b v:Int) (k:Rd) (l:L9) (e:Nat):upd a b v k (l.go e)=(upd a b v k l).go e:=by cases k <;> rfl
theorem bS_app (x y:List UInt8):bS x ++ bS y=bS (x ++ y):=by
 unfold bS
 have h:∀ a b:ByteArray,a.data=b.data→a=b:=fun ⟨_⟩ ⟨_⟩ h=>by cases h;rfl
 refine h _ _ ?_
 simp [ByteArray.data_append]
theorem bS_len (x:List UInt8):(bS x).size=x.length:=by rw [← sz_list,toS]
theorem num_len {v:Int} (h0:-9223372036854775808≤v) (h1:v≤9223372036854775807):(numW v).length≤21:=Lib.itoa_length_le v h0 h1
theorem reg_f {x:Int} (h0:0≤x) (h7:x≤7):insn_register.f x=some (bS (regW x)):=by
 unfold insn_register.f strconv_Itoa.f
 have e:Lib.itoa x=[UInt8.ofNat (48+x.toNat)]:=by
  unfold Lib.itoa
  rw [if_neg (by omega),Lib.decDigits_one (by omega)]
 rw [if_pos (by omega),Option.bind_some,bS_len,e,if_pos (by simp)]
 exact congrArg some (bS_app [114] _)
theorem fmt_f {v:Int} (h0:-9223372036854775808≤v) (h1:v≤9223372036854775807):strconv_FormatInt.f v 10=some (bS (numW v)):=by
 unfold strconv_FormatInt.f
 rw [if_pos ⟨rfl,h0,h1⟩]
 rfl
theorem dist_f {v:Int} (h0:-9223372036854775808≤v) (h1:v≤9223372036854775807):insn_distance.f v=some (bS (distW v)):=by
 have hl:=num_len h0 h1
 unfold insn_distance.f distW
 by_cases hn:v < 0
 ·rw [if_pos hn,if_pos hn,fmt_f h0 h1,Option.bind_some,if_pos (by rw [bS_len];omega)]
  exact congrArg some (bS_app [46] _)
 ·rw [if_neg hn,if_neg hn,fmt_f h0 h1,Option.bind_some,if_pos (by rw [bS_len];omega)]
  exact congrArg some (bS_app [46,43] _)
theorem b1 (c:UInt8):(⟨#[c]⟩:ByteArray)=bS [c]:=rfl
theorem addr_f {op a b v:Int} (hb0:0≤b) (hb7:b≤7) (h0:-9223372036854775808≤v) (h1:v≤9223372036854775807):insn_address.f op a b v=some (bS (addrW b v)):=by
 have hl:=num_len h0 h1
 unfold insn_address.f addrW
 simp only [b1,reg_f hb0 hb7,fmt_f h0 h1,Option.bind_some,bS_app,bS_len,List.length_append,List.length_cons,List.length_nil,show (regW b).length=2 from rfl]
 by_cases hp:v > 0
 ·rw [if_pos hp,if_pos hp,if_pos (by omega),if_pos (by omega),if_pos (by omega),if_pos (by omega)]
  simp
 ·rw [if_neg hp,if_neg hp]
  by_cases hn:v < 0
  ·rw [if_pos hn,if_pos hn,if_pos (by omega),if_pos (by omega),if_pos (by omega)]
   simp
  ·rw [if_neg hn,if_neg hn]
   simp
theorem op_valid {op:Int} (h:nameM op≠[]):op=1∨op=2∨op=3∨op=4∨op=5∨op=6∨op=7∨op=8∨op=9∨op=10∨op=11∨op=12∨op=13∨op=14∨op=15∨op=16∨op=17∨op=18∨op=19∨op=20∨op=21∨op=22∨op=23∨op=24∨op=25∨op=26∨op=27∨op=28∨op=29∨op=30∨op=31∨op=32∨op=33∨op=34∨op=76:=by
 by_cases h76:op=76
 ·omega
 ·by_cases hr:op < 1∨35≤op
  ·refine absurd ?_ h
   unfold nameM kindM
   rw [if_neg h76,if_pos hr]
  ·omega
theorem words_f {op a b v:Int} (hv:nameM op≠[]) (o:Ok1 op a b v) (k:Nat):insn_words.f (k+10) op a b v=some ((readsM op).map fun r=>bS (rdW a b v r)):=by
 have ha:insn_address.f op a b v=some (bS (addrW b v)):=addr_f o.b0 o.b7 o.v0 o.v1
 have hd:=dist_f o.v0 o.v1
 have hmem:bS [91] ++ bS (regW b) ++ bS [93]=bS (memW b):=by rw [bS_app,bS_app];rfl
 have hmem:((⟨#[91]⟩:ByteArray) ++ bS (regW b)) ++ (⟨#[93]⟩:ByteArray)=bS (memW b):=hmem
 have hs1:(1:Nat)+(bS (regW b)).size≤9223372036854775807:=by rw [bS_len,show (regW b).length=2 from rfl];omega
 have hs2:((⟨#[91]⟩:ByteArray) ++ bS (regW b)).size+1≤9223372036854775807:=by rw [b1,bS_app,bS_len,List.length_append,show (regW b).length=2 from rfl];simp
 unfold insn_words.f
 rw [reg_f o.a0 o.a7,reg_f o.b0 o.b7,fmt_f o.v0 o.v1,Option.bind_some,Option.bind_some,Option.bind_some]
 rcases op_valid hv with rfl | rfl | rfl | rfl | rfl | rfl | rfl | rfl | rfl | rfl | rfl | rfl | rfl | rfl | rfl | rfl | rfl | rfl | rfl | rfl | rfl | rfl | rfl | rfl | rfl | rfl | rfl | rfl | rfl | rfl | rfl | rfl | rfl | rfl | rfl
 ·rw [show readsM 1=[] from rfl]
  simp [insn_words.j0,insn_words.j1,insn_words.j2,insn_words.j3,insn_words.j4,insn_kindOf.f,formM,kindM,kindsL,ha,hd,hmem,rdW]
 ·rw [show readsM 2=[Rd.a,Rd.b] from rfl]
  simp [insn_words.j0,insn_words.j1,insn_words.j2,insn_words.j3,insn_words.j4,insn_kindOf.f,formM,kindM,kindsL,ha,hd,hmem,rdW]
 ·rw [show readsM 3=[Rd.a,Rd.num] from rfl]
  simp [insn_words.j0,insn_words.j1,insn_words.j2,insn_words.j3,insn_words.j4,insn_kindOf.f,formM,kindM,kindsL,ha,hd,hmem,rdW]
 ·rw [show readsM 4=[Rd.a,Rd.num] from rfl]
  simp [insn_words.j0,insn_words.j1,insn_words.j2,insn_words.j3,insn_words.j4,insn_kindOf.f,formM,kindM,kindsL,ha,hd,hmem,rdW]
 ·rw [show readsM 5=[Rd.a,Rd.b] from rfl]
  simp [insn_words.j0,insn_words.j1,insn_words.j2,insn_words.j3,insn_words.j4,insn_kindOf.f,formM,kindM,kindsL,ha,hd,hmem,rdW]
 ·rw [show readsM 6=[Rd.a,Rd.b] from rfl]
  simp [insn_words.j0,insn_words.j1,insn_words.j2,insn_words.j3,insn_words.j4,insn_kindOf.f,formM,kindM,kindsL,ha,hd,hmem,rdW]
 ·rw [show readsM 7=[Rd.a,Rd.b] from rfl]
  simp [insn_words.j0,insn_words.j1,insn_words.j2,insn_words.j3,insn_words.j4,insn_kindOf.f,formM,kindM,kindsL,ha,hd,hmem,rdW]
 ·rw [show readsM 8=[Rd.a,Rd.b] from rfl]
  simp [insn_words.j0,insn_words.j1,insn_words.j2,insn_words.j3,insn_words.j4,insn_kindOf.f,formM,kindM,kindsL,ha,hd,hmem,rdW]
 ·rw [show readsM 9=[Rd.a,Rd.b] from rfl]
  simp [insn_words.j0,insn_words.j1,insn_words.j2,insn_words.j3,insn_words.j4,insn_kindOf.f,formM,kindM,kindsL,ha,hd,hmem,rdW]
 ·rw [show readsM 10=[Rd.a,Rd.b] from rfl]
  simp [insn_words.j0,insn_words.j1,insn_words.j2,insn_words.j3,insn_words.j4,insn_kindOf.f,formM,kindM,kindsL,ha,hd,hmem,rdW]
 ·rw [show readsM 11=[Rd.a,Rd.b] from rfl]
  simp [insn_words.j0,insn_words.j1,insn_words.j2,insn_words.j3,insn_words.j4,insn_kindOf.f,formM,kindM,kindsL,ha,hd,hmem,rdW]
 ·rw [show readsM 12=[Rd.a,Rd.b] from rfl]
  simp [insn_words.j0,insn_words.j1,insn_words.j2,insn_words.j3,insn_words.j4,insn_kindOf.f,formM,kindM,kindsL,ha,hd,hmem,rdW]
 ·rw [show readsM 13=[Rd.a,Rd.b] from rfl]
  simp [insn_words.j0,insn_words.j1,insn_words.j2,insn_words.j3,insn_words.j4,insn_kindOf.f,formM,kindM,kindsL,ha,hd,hmem,rdW]
 ·rw [show readsM 14=[Rd.a,Rd.b] from rfl]
  simp [insn_words.j0,insn_words.j1,insn_words.j2,insn_words.j3,insn_words.j4,insn_kindOf.f,formM,kindM,kindsL,ha,hd,hmem,rdW]
 ·rw [show readsM 15=[Rd.a,Rd.b] from rfl]
  simp [insn_words.j0,insn_words.j1,insn_words.j2,insn_words.j3,insn_words.j4,insn_kindOf.f,formM,kindM,kindsL,ha,hd,hmem,rdW]
 ·rw [show readsM 16=[Rd.a,Rd.num] from rfl]
  simp [insn_words.j0,insn_words.j1,insn_words.j2,insn_words.j3,insn_words.j4,insn_kindOf.f,formM,kindM,kindsL,ha,hd,hmem,rdW]
 ·rw [show readsM 17=[Rd.a,Rd.addr] from rfl]
  simp [insn_words.j0,insn_words.j1,insn_words.j2,insn_words.j3,insn_words.j4,insn_kindOf.f,formM,kindM,kindsL,ha,hd,hmem,rdW]
 ·rw [show readsM 18=[Rd.a,Rd.addr] from rfl]
  simp [insn_words.j0,insn_words.j1,insn_words.j2,insn_words.j3,insn_words.j4,insn_kindOf.f,formM,kindM,kindsL,ha,hd,hmem,rdW]
 ·rw [show readsM 19=[Rd.addr,Rd.a] from rfl]
  simp [insn_words.j0,insn_words.j1,insn_words.j2,insn_words.j3,insn_words.j4,insn_kindOf.f,formM,kindM,kindsL,ha,hd,hmem,rdW]
 ·rw [show readsM 20=[Rd.addr,Rd.a] from rfl]
  simp [insn_words.j0,insn_words.j1,insn_words.j2,insn_words.j3,insn_words.j4,insn_kindOf.f,formM,kindM,kindsL,ha,hd,hmem,rdW]
 ·rw [show readsM 21=[Rd.a,Rd.b,Rd.target] from rfl]
  simp [insn_words.j0,insn_words.j1,insn_words.j2,insn_words.j3,insn_words.j4,insn_kindOf.f,formM,kindM,kindsL,ha,hd,hmem,rdW]
 ·rw [show readsM 22=[Rd.a,Rd.b,Rd.target] from rfl]
  simp [insn_words.j0,insn_words.j1,insn_words.j2,insn_words.j3,insn_words.j4,insn_kindOf.f,formM,kindM,kindsL,ha,hd,hmem,rdW]
 ·rw [show readsM 23=[Rd.a,Rd.b,Rd.target] from rfl]
  simp [insn_words.j0,insn_words.j1,insn_words.j2,insn_words.j3,insn_words.j4,insn_kindOf.f,formM,kindM,kindsL,ha,hd,hmem,rdW]
 ·rw [show readsM 24=[Rd.a,Rd.b,Rd.target] from rfl]
  simp [insn_words.j0,insn_words.j1,insn_words.j2,insn_words.j3,insn_words.j4,insn_kindOf.f,formM,kindM,kindsL,ha,hd,hmem,rdW]
 ·rw [show readsM 25=[Rd.target] from rfl]
  simp [insn_words.j0,insn_words.j1,insn_words.j2,insn_words.j3,insn_words.j4,insn_kindOf.f,formM,kindM,kindsL,ha,hd,hmem,rdW]
 ·rw [show readsM 26=[Rd.a] from rfl]
  simp [insn_words.j0,insn_words.j1,insn_words.j2,insn_words.j3,insn_words.j4,insn_kindOf.f,formM,kindM,kindsL,ha,hd,hmem,rdW]
 ·rw [show readsM 27=[Rd.target] from rfl]
  simp [insn_words.j0,insn_words.j1,insn_words.j2,insn_words.j3,insn_words.j4,insn_kindOf.f,formM,kindM,kindsL,ha,hd,hmem,rdW]
 ·rw [show readsM 28=[Rd.a] from rfl]
  simp [insn_words.j0,insn_words.j1,insn_words.j2,insn_words.j3,insn_words.j4,insn_kindOf.f,formM,kindM,kindsL,ha,hd,hmem,rdW]
 ·rw [show readsM 29=[] from rfl]
  simp [insn_words.j0,insn_words.j1,insn_words.j2,insn_words.j3,insn_words.j4,insn_kindOf.f,formM,kindM,kindsL,ha,hd,hmem,rdW]
 ·rw [show readsM 30=[Rd.a] from rfl]
  simp [insn_words.j0,insn_words.j1,insn_words.j2,insn_words.j3,insn_words.j4,insn_kindOf.f,formM,kindM,kindsL,ha,hd,hmem,rdW]
 ·rw [show readsM 31=[Rd.a] from rfl]
  simp [insn_words.j0,insn_words.j1,insn_words.j2,insn_words.j3,insn_words.j4,insn_kindOf.f,formM,kindM,kindsL,ha,hd,hmem,rdW]
 ·rw [show readsM 32=[Rd.a,Rd.target] from rfl]
  simp [insn_words.j0,insn_words.j1,insn_words.j2,insn_words.j3,insn_words.j4,insn_kindOf.f,formM,kindM,kindsL,ha,hd,hmem,rdW]
 ·rw [show readsM 33=[Rd.num] from rfl]
  simp [insn_words.j0,insn_words.j1,insn_words.j2,insn_words.j3,insn_words.j4,insn_kindOf.f,formM,kindM,kindsL,ha,hd,hmem,rdW]
 ·rw [show readsM 34=[Rd.a,Rd.mem] from rfl]
  simp [insn_words.j0,insn_words.j1,insn_words.j2,insn_words.j3,insn_words.j4,insn_kindOf.f,formM,kindM,kindsL,ha,hd,hmem,rdW]
  exact ⟨hs1,by rw [bS_len,show (regW b).length=2 from rfl];decide⟩
 ·rw [show readsM 76=[] from rfl]
  simp [insn_words.j0,insn_words.j1,insn_words.j2,insn_words.j3,insn_words.j4,insn_kindOf.f,formM,kindM,kindsL,ha,hd,hmem,rdW]
def opW (a b v:Int):List Rd→List UInt8
 | []=>[]
 | k :: ks=>32 :: (rdW a b v k ++ tailW a b v ks)
def printW (op a b v:Int):List UInt8:=nameM op ++ opW a b v (readsM op)
theorem join_w (a b v:Int) (k:Rd) (ks:List Rd):Lib.join (((k :: ks).map fun r=>bS (rdW a b v r)).map (fun x:ByteArray=>x.data.toList)) [44,32]=rdW a b v k ++ tailW a b v ks:=by
 rw [List.map_cons,List.map_cons,Lib.join_cons,toS]
 congr 1
 unfold Lib.joinTail tailW
 rw [List.map_map,List.map_map,List.flatMap_def]
 congr 1
theorem rdW_len {op a b v:Int} (o:Ok1 op a b v) (k:Rd):(rdW a b v k).length≤40:=by
 have hl:=num_len o.v0 o.v1
 cases k with
 | a=>exact (show 2≤40 by omega)
 | b=>exact (show 2≤40 by omega)
 | num=>show (numW v).length≤40;omega
 | mem=>exact (show 4≤40 by omega)
 | addr =>
  show (addrW b v).length≤40
  unfold addrW
  simp only [List.length_cons,List.length_append,List.length_nil,show (regW b).length=2 from rfl]
  by_cases hp:v > 0
  ·rw [if_pos hp,List.length_cons];omega
  ·rw [if_neg hp]
   by_cases hn:v < 0
   ·rw [if_pos hn];omega
   ·rw [if_neg hn,List.length_nil];omega
 | target =>
  show (distW v).length≤40
  unfold distW
  by_cases hn:v < 0
  ·rw [if_pos hn,List.length_cons];omega
  ·rw [if_neg hn,List.length_cons,List.length_cons];omega
theorem tailW_len {op a b v:Int} (o:Ok1 op a b v):∀ ks:List Rd,(tailW a b v ks).length≤42 * ks.length
 | []=>Nat.le_refl _
 | k :: ks=>by
  have:=tailW_len o ks
  have:=rdW_len o k
  unfold tailW at *
  rw [List.flatMap_cons]
  simp only [List.length_append,List.length_cons]
  omega
theorem reads_len (op:Int):(readsM op).length≤3:=by
 unfold readsM
 repeat' split
 all_goals simp
theorem name_len (op:Int):(nameM op).length≤10:=by
 by_cases h:nameM op=[]
 ·rw [h];decide
 ·have key:∀ i:Fin 77,(nameM (i.val:Int)).length≤10:=by decide +kernel
  have:0≤op∧op≤76:=by have:=op_valid h;omega
  have:=key ⟨op.toNat,by omega⟩
  rw [show ((op.toNat:Nat):Int)=op from by omega] at this
  exact this
theorem opW_len {op a b v:Int} (o:Ok1 op a b v):(opW a b v (readsM op)).length≤130:=by
 have h3:=reads_len op
 cases h:readsM op with
 | nil=>exact Nat.zero_le _
 | cons k ks =>
  rw [h,List.length_cons] at h3
  have:=tailW_len o ks
  have:=rdW_len o k
  show (32 :: (rdW a b v k ++ tailW a b v ks)).length≤130
  simp only [List.length_append,List.length_cons]
  omega
theorem print_f {op a b v:Int} (hv:nameM op≠[]) (o:Ok1 op a b v) (hc:chkD op a b v=0) (k:Nat):insn_Print.f (k+10) op a b v=some (bS (printW op a b v),0):=by
 unfold insn_Print.f insn_kindOf.f
 rw [check_f _ _ _ _ _ (by omega),Option.bind_some,if_pos hc,Option.bind_some,words_f hv o,Option.bind_some]
 have hn:=name_len op
 have ho:=opW_len o
 unfold printW
 cases h:readsM op with
 | nil =>
  rw [if_neg (by simp)]
  simp [opW]
 | cons k ks =>
  rw [h] at ho
  have ho:(32 :: (rdW a b v k ++ tailW a b v ks)).length≤130:=ho
  rw [List.length_cons] at ho
  rw [if_pos (by simp),if_pos (by simp only [bS_len];omega)]
  unfold strings_Join.f
  have hj:=join_w a b v k ks
  rw [show (⟨#[44,32]⟩:ByteArray).data.toList=[44,32] from rfl,hj]
  have h3:=reads_len op
  rw [h] at h3
  rw [if_pos ⟨by rw [List.length_map];omega,by omega⟩,Option.bind_some]
  have e:(bS (nameM op) ++ (⟨#[32]⟩:ByteArray)) ++ (⟨(rdW a b v k ++ tailW a b v ks).toArray⟩:ByteArray)=bS (nameM op ++ opW a b v (k :: ks)):=by
   show (bS (nameM op) ++ bS [32]) ++ bS (rdW a b v k ++ tailW a b v ks)=_
   rw [bS_app,bS_app]
   simp [opW]
  have hsz:(bS (nameM op) ++ (⟨#[32]⟩:ByteArray)).size=(nameM op).length+1:=by
   rw [b1,bS_app,bS_len,List.length_append];rfl
  simp only
  rw [hsz,if_pos (by rw [show (⟨(rdW a b v k ++ tailW a b v ks).toArray⟩:ByteArray)=bS (rdW a b v k ++ tailW a b v ks) from rfl,bS_len];omega),e]
theorem chk_parts {op a b v:Int} (hc:chkD op a b v=0):nameM op≠[]∧0≤a∧a≤7∧0≤b∧b≤7∧(hasA (formM op)=true∨a=0)∧(hasB (formM op)=true∨b=0)∧fitsM (formM op) v=true:=by
 unfold chkD at hc
 by_cases h:nameM op=[]
 ·rw [if_pos h] at hc;exact absurd hc (by decide)
 ·rw [if_neg h] at hc
  split at hc
  ·exact ⟨h,by assumption⟩
  ·exact absurd hc (by decide)
theorem name_facts {op:Int} (h:nameM op≠[]):opOf (nameM op)=op∧op≠0∧(∀ c∈nameM op,isWd c=true∧c≠10∧c≠58∧c≠59∧c≠46∧isBl c=false):=by
 have key:∀ i:Fin 77,nameM (i.val:Int)≠[]→opOf (nameM (i.val:Int))=(i.val:Int)∧(nameM (i.val:Int)).all (fun c=>isWd c && c != 10 && c != 58 && c != 59 && c != 46 && !isBl c)=true:=by decide +kernel
 have h1:=op_valid h
 have h2:0≤op∧op≤76:=by omega
 have e:((op.toNat:Nat):Int)=op:=by omega
 have:=key ⟨op.toNat,by omega⟩ (by simp only [e];exact h)
 simp only [e] at this
 refine ⟨this.1,by omega,fun c hc=>?_⟩
 have:=List.all_eq_true.1 this.2 c hc
 simpa [and_assoc] using this
theorem upd_fin {op a b v:Int} (hc:chkD op a b v=0) (s:ByteArray) (n:Nat) (labels:Bool):updL a b v (readsM op) ⟨s,n,labels,op,0,0,0,⟨#[]⟩,false⟩=⟨s,n,labels,op,a,b,v,⟨#[]⟩,false⟩:=by
 obtain ⟨hv,-,-,-,-,hA,hB,hF⟩:=chk_parts hc
 rcases op_valid hv with rfl | rfl | rfl | rfl | rfl | rfl | rfl | rfl | rfl | rfl | rfl | rfl | rfl | rfl | rfl | rfl | rfl | rfl | rfl | rfl | rfl | rfl | rfl | rfl | rfl | rfl | rfl | rfl | rfl | rfl | rfl | rfl | rfl | rfl | rfl
 ·have e:formM 1=0:=by decide +kernel
  rw [e] at hA hB hF
  rw [show readsM 1=[] from rfl]
  have za:a=0:=hA.resolve_left (by decide)
  have zb:b=0:=hB.resolve_left (by decide)
  have zv:v=0:=by unfold fitsM at hF;simpa [bytesM] using hF
  subst za zb zv
  rfl
 ·have e:formM 2=1:=by decide +kernel
  rw [e] at hA hB hF
  rw [show readsM 2=[Rd.a,Rd.b] from rfl]
  have zv:v=0:=by unfold fitsM at hF;simpa [bytesM] using hF
  subst zv
  rfl
 ·have e:formM 3=3:=by decide +kernel
  rw [e] at hA hB hF
  rw [show readsM 3=[Rd.a,Rd.num] from rfl]
  have zb:b=0:=hB.resolve_left (by decide)
  subst zb
  rfl
 ·have e:formM 4=4:=by decide +kernel
  rw [e] at hA hB hF
  rw [show readsM 4=[Rd.a,Rd.num] from rfl]
  have zb:b=0:=hB.resolve_left (by decide)
  subst zb
  rfl
 ·have e:formM 5=1:=by decide +kernel
  rw [e] at hA hB hF
  rw [show readsM 5=[Rd.a,Rd.b] from rfl]
  have zv:v=0:=by unfold fitsM at hF;simpa [bytesM] using hF
  subst zv
  rfl
 ·have e:formM 6=1:=by decide +kernel
  rw [e] at hA hB hF
  rw [show readsM 6=[Rd.a,Rd.b] from rfl]
  have zv:v=0:=by unfold fitsM at hF;simpa [bytesM] using hF
  subst zv
  rfl
 ·have e:formM 7=1:=by decide +kernel
  rw [e] at hA hB hF
  rw [show readsM 7=[Rd.a,Rd.b] from rfl]
  have zv:v=0:=by unfold fitsM at hF;simpa [bytesM] using hF
  subst zv
  rfl
 ·have e:formM 8=1:=by decide +kernel
  rw [e] at hA hB hF
  rw [show readsM 8=[Rd.a,Rd.b] from rfl]
  have zv:v=0:=by unfold fitsM at hF;simpa [bytesM] using hF
  subst zv
  rfl
 ·have e:formM 9=1:=by decide +kernel
  rw [e] at hA hB hF
  rw [show readsM 9=[Rd.a,Rd.b] from rfl]
  have zv:v=0:=by unfold fitsM at hF;simpa [bytesM] using hF
  subst zv
  rfl
 ·have e:formM 10=1:=by decide +kernel
  rw [e] at hA hB hF
  rw [show readsM 10=[Rd.a,Rd.b] from rfl]
  have zv:v=0:=by unfold fitsM at hF;simpa [bytesM] using hF
  subst zv
  rfl
 ·have e:formM 11=1:=by decide +kernel
  rw [e] at hA hB hF
  rw [show readsM 11=[Rd.a,Rd.b] from rfl]
  have zv:v=0:=by unfold fitsM at hF;simpa [bytesM] using hF
  subst zv
  rfl
 ·have e:formM 12=1:=by decide +kernel
  rw [e] at hA hB hF
  rw [show readsM 12=[Rd.a,Rd.b] from rfl]
  have zv:v=0:=by unfold fitsM at hF;simpa [bytesM] using hF
  subst zv
  rfl
 ·have e:formM 13=1:=by decide +kernel
  rw [e] at hA hB hF
  rw [show readsM 13=[Rd.a,Rd.b] from rfl]
  have zv:v=0:=by unfold fitsM at hF;simpa [bytesM] using hF
  subst zv
  rfl
 ·have e:formM 14=1:=by decide +kernel
  rw [e] at hA hB hF
  rw [show readsM 14=[Rd.a,Rd.b] from rfl]
  have zv:v=0:=by unfold fitsM at hF;simpa [bytesM] using hF
  subst zv
  rfl
 ·have e:formM 15=1:=by decide +kernel
  rw [e] at hA hB hF
  rw [show readsM 15=[Rd.a,Rd.b] from rfl]
  have zv:v=0:=by unfold fitsM at hF;simpa [bytesM] using hF
  subst zv
  rfl
 ·have e:formM 16=4:=by decide +kernel
  rw [e] at hA hB hF
  rw [show readsM 16=[Rd.a,Rd.num] from rfl]
  have zb:b=0:=hB.resolve_left (by decide)
  subst zb
  rfl
 ·have e:formM 17=5:=by decide +kernel
  rw [e] at hA hB hF
  rw [show readsM 17=[Rd.a,Rd.addr] from rfl]
  rfl
 ·have e:formM 18=5:=by decide +kernel
  rw [e] at hA hB hF
  rw [show readsM 18=[Rd.a,Rd.addr] from rfl]
  rfl
 ·have e:formM 19=5:=by decide +kernel
  rw [e] at hA hB hF
  rw [show readsM 19=[Rd.addr,Rd.a] from rfl]
  rfl
 ·have e:formM 20=5:=by decide +kernel
  rw [e] at hA hB hF
  rw [show readsM 20=[Rd.addr,Rd.a] from rfl]
  rfl
 ·have e:formM 21=5:=by decide +kernel
  rw [e] at hA hB hF
  rw [show readsM 21=[Rd.a,Rd.b,Rd.target] from rfl]
  rfl
 ·have e:formM 22=5:=by decide +kernel
  rw [e] at hA hB hF
  rw [show readsM 22=[Rd.a,Rd.b,Rd.target] from rfl]
  rfl
 ·have e:formM 23=5:=by decide +kernel
  rw [e] at hA hB hF
  rw [show readsM 23=[Rd.a,Rd.b,Rd.target] from rfl]
  rfl
 ·have e:formM 24=5:=by decide +kernel
  rw [e] at hA hB hF
  rw [show readsM 24=[Rd.a,Rd.b,Rd.target] from rfl]
  rfl
 ·have e:formM 25=6:=by decide +kernel
  rw [e] at hA hB hF
  rw [show readsM 25=[Rd.target] from rfl]
  have za:a=0:=hA.resolve_left (by decide)
  have zb:b=0:=hB.resolve_left (by decide)
  subst za zb
  rfl
 ·have e:formM 26=2:=by decide +kernel
  rw [e] at hA hB hF
  rw [show readsM 26=[Rd.a] from rfl]
  have zb:b=0:=hB.resolve_left (by decide)
  have zv:v=0:=by unfold fitsM at hF;simpa [bytesM] using hF
  subst zb zv
  rfl
 ·have e:formM 27=6:=by decide +kernel
  rw [e] at hA hB hF
  rw [show readsM 27=[Rd.target] from rfl]
  have za:a=0:=hA.resolve_left (by decide)
  have zb:b=0:=hB.resolve_left (by decide)
  subst za zb
  rfl
 ·have e:formM 28=2:=by decide +kernel
  rw [e] at hA hB hF
  rw [show readsM 28=[Rd.a] from rfl]
  have zb:b=0:=hB.resolve_left (by decide)
  have zv:v=0:=by unfold fitsM at hF;simpa [bytesM] using hF
  subst zb zv
  rfl
 ·have e:formM 29=0:=by decide +kernel
  rw [e] at hA hB hF
  rw [show readsM 29=[] from rfl]
  have za:a=0:=hA.resolve_left (by decide)
  have zb:b=0:=hB.resolve_left (by decide)
  have zv:v=0:=by unfold fitsM at hF;simpa [bytesM] using hF
  subst za zb zv
  rfl
 ·have e:formM 30=2:=by decide +kernel
  rw [e] at hA hB hF
  rw [show readsM 30=[Rd.a] from rfl]
  have zb:b=0:=hB.resolve_left (by decide)
  have zv:v=0:=by unfold fitsM at hF;simpa [bytesM] using hF
  subst zb zv
  rfl
 ·have e:formM 31=2:=by decide +kernel
  rw [e] at hA hB hF
  rw [show readsM 31=[Rd.a] from rfl]
  have zb:b=0:=hB.resolve_left (by decide)
  have zv:v=0:=by unfold fitsM at hF;simpa [bytesM] using hF
  subst zb zv
  rfl
 ·have e:formM 32=7:=by decide +kernel
  rw [e] at hA hB hF
  rw [show readsM 32=[Rd.a,Rd.target] from rfl]
  have zb:b=0:=hB.resolve_left (by decide)
  subst zb
  rfl
 ·have e:formM 33=8:=by decide +kernel
  rw [e] at hA hB hF
  rw [show readsM 33=[Rd.num] from rfl]
  have za:a=0:=hA.resolve_left (by decide)
  have zb:b=0:=hB.resolve_left (by decide)
  subst za zb
  rfl
 ·have e:formM 34=1:=by decide +kernel
  rw [e] at hA hB hF
  rw [show readsM 34=[Rd.a,Rd.mem] from rfl]
  have zv:v=0:=by unfold fitsM at hF;simpa [bytesM] using hF
  subst zv
  rfl
 ·have e:formM 76=0:=by decide +kernel
  rw [e] at hA hB hF
  rw [show readsM 76=[] from rfl]
  have za:a=0:=hA.resolve_left (by decide)
  have zb:b=0:=hB.resolve_left (by decide)
  have zv:v=0:=by unfold fitsM at hF;simpa [bytesM] using hF
  subst za zb zv
  rfl
theorem ok1_of {op a b v:Int} (hc:chkD op a b v=0) (h0:-9223372036854775808≤v) (h1:v≤9223372036854775807):Ok1 op a b v:=by
 obtain ⟨_,h2,h3,h4,h5,_,_,h6⟩:=chk_parts hc
 exact ⟨h2,h3,h4,h5,h0,h1,h6⟩
def gd (c:UInt8):Bool:=c != 10 && c != 58 && c != 59
theorem num_gd (v:Int):∀ c∈numW v,gd c=true:=by
 have key:∀ c:UInt8,isDig c=true→gd c=true:=u8_all _ (by decide +kernel)
 intro c hc
 by_cases hn:v < 0
 ·rw [num_neg hn] at hc
  rcases List.mem_cons.1 hc with rfl | hc
  ·decide
  ·exact key c (dec_dig _ _ (Nat.le_refl _) c hc)
 ·rw [num_pos hn] at hc
  exact key c (dec_dig _ _ (Nat.le_refl _) c hc)
theorem reg_gd {x:Int} (h0:0≤x) (h7:x≤7):∀ c∈regW x,gd c=true:=by
 have key:∀ x:Fin 8,([114,UInt8.ofNat (48+x.val)]:List UInt8).all gd=true:=by decide
 exact List.all_eq_true.1 (key ⟨x.toNat,by omega⟩)
theorem rdW_gd {op a b v:Int} (o:Ok1 op a b v) (k:Rd):∀ c∈rdW a b v k,gd c=true:=by
 intro c hc
 cases k with
 | a=>exact reg_gd o.a0 o.a7 c hc
 | b=>exact reg_gd o.b0 o.b7 c hc
 | num=>exact num_gd v c hc
 | mem =>
  have hc:c∈91 :: (regW b ++ [93]):=hc
  simp only [List.mem_cons,List.mem_append,List.not_mem_nil,or_false] at hc
  rcases hc with rfl | hc | rfl
  ·decide
  ·exact reg_gd o.b0 o.b7 c hc
  ·decide
 | addr =>
  have hc:c∈91 :: (regW b ++ ((if v > 0 then 43 :: numW v else if v < 0 then numW v else []) ++ [93])):=hc
  simp only [List.mem_cons,List.mem_append,List.not_mem_nil,or_false] at hc
  rcases hc with rfl | hc | hc | rfl
  ·decide
  ·exact reg_gd o.b0 o.b7 c hc
  ·by_cases hp:v > 0
   ·rw [if_pos hp] at hc
    rcases List.mem_cons.1 hc with rfl | hc
    ·decide
    ·exact num_gd v c hc
   ·rw [if_neg hp] at hc
    by_cases hn:v < 0
    ·rw [if_pos hn] at hc;exact num_gd v c hc
    ·rw [if_neg hn] at hc;exact absurd hc List.not_mem_nil
  ·decide
 | target =>
  have hc:c∈distW v:=hc
  unfold distW at hc
  by_cases hn:v < 0
  ·rw [if_pos hn] at hc
   rcases List.mem_cons.1 hc with rfl | hc
   ·decide
   ·exact num_gd v c hc
  ·rw [if_neg hn] at hc
   rcases List.mem_cons.1 hc with rfl | hc
   ·decide
   ·rcases List.mem_cons.1 hc with rfl | hc
    ·decide
    ·exact num_gd v c hc
theorem no_byte {l:List UInt8} (h:∀ c∈l,gd c=true) (d:UInt8) (hd:gd d=false):∀ k:Nat,l[k]?≠some d:=by
 intro k e
 have:=h d (List.mem_of_getElem? e)
 rw [hd] at this
 cases this
theorem cutZ_id {s:ByteArray} (h:∀ k:Nat,s.data.toList[k]?≠some 59):cutZ s=s:=by
 have hi:Lib.index s.data.toList [59]=-1:=by
  rw [Lib.index_one]
  have h1:=Lib.indexByte_ge s.data.toList 59
  by_cases h2:Lib.indexByte s.data.toList 59=-1
  ·exact h2
  ·obtain ⟨o,ho⟩:∃ o:Nat,Lib.indexByte s.data.toList 59=(o:Int):=⟨(Lib.indexByte s.data.toList 59).toNat,by omega⟩
   exact absurd (Lib.indexByte_some ho).1 (h o)
 unfold cutZ Lib.cut
 rw [hi,if_neg (by decide)]
theorem row_first (z:Az) (no:Nat) {s:ByteArray} (h58:∀ k:Nat,s.data.toList[k]?≠some 58) (h46:s.data.toList[0]?≠some 46) (hsk:(L9.new s true).sk=L9.new s true) (hne:s.size≠0) :
  z.row no s=match (L9.new s true).instr with | none=>.error 22 | some li=>Az.push { z with no:=no } li:=by
 have hnm:(L9.new s true).nm=(⟨#[]⟩,L9.new s true):=by
  unfold L9.nm
  rw [hsk]
  by_cases h1:nameB (L9.new s true).wdS=true
  ·rw [if_pos h1]
   by_cases h2:(L9.new s true).wdL.sk.hit 58=true
   ·exact absurd (hit_get (by decide) h2) (h58 _)
   ·rw [if_neg h2]
  ·rw [if_neg h1]
 have hpre:(L9.new s true).pre=false:=by
  cases hp:(L9.new s true).pre with
  | false=>rfl
  | true =>
   unfold L9.pre Lib.hasPrefix at hp
   rw [List.isPrefixOf_iff_prefix] at hp
   obtain ⟨r,hr⟩:=hp
   rw [Q.ext_toL] at hr
   have h1:(funcL ++ r)[0]?=some 46:=rfl
   rw [hr,List.getElem?_take] at h1
   split at h1
   ·rw [List.getElem?_drop] at h1;exact absurd h1 h46
   ·cases h1
 have hd:(L9.new s true).dir=some (none,L9.new s true):=by
  unfold L9.dir
  rw [if_neg (by rw [hpre];decide)]
 unfold Az.row
 simp only [hnm]
 rw [if_pos (show (⟨#[]⟩:ByteArray).size=0 from rfl),hsk,hd]
 simp only
 unfold Az.rest
 rw [if_neg (show ¬ (L9.new s true).at_=(L9.new s true).s.size from fun e=>hne e.symm)]
 cases (L9.new s true).instr with
 | none=>rfl
 | some li =>
  simp only
  unfold Az.def_
  rw [if_pos (show (⟨#[]⟩:ByteArray).size=0 from rfl)]
theorem wf64b {n:Int} (h:(Lit.int .i64 n).wf=true):-9223372036854775808≤n∧n≤9223372036854775807:=by
 have m1:IntKind.i64.min=-9223372036854775808:=by decide
 have m2:IntKind.i64.max=9223372036854775807:=by decide
 simp [Lit.wf,m1,m2] at h
 omega
end Go.Proofs.YtffojmgmpfjlhaaGreatDoor.Q
