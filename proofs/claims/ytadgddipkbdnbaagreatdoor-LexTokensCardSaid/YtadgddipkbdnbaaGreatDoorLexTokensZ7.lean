/- Parts of the proof that the program's token functions return what the specification's return. -/
import Derived.Test.YtadgddipkbdnbaaGreatDoorLexTokensZ1
import Derived.Test.YtadgddipkbdnbaaGreatDoorLexTokensZ2
import Derived.Test.YtadgddipkbdnbaaGreatDoorLexTokensZ3
import Derived.Test.YtadgddipkbdnbaaGreatDoorLexTokensZ4
import Derived.Test.YtadgddipkbdnbaaGreatDoorLexTokensZ5
import Derived.Test.YtadgddipkbdnbaaGreatDoorLexTokensZ6
import Derived.Deep.DeepCutAuto
set_option linter.unusedVariables false
set_option linter.unusedSimpArgs false
namespace Go.Proofs.YtadgddipkbdnbaaGreatDoor
open Go.RowKit
theorem hasSuffix_any (s p:ByteArray) (w:World) (hs:s.size≤140737488355328) :
  Calls Tryz.prog 84 #[.string s,.string p] w fun e w'=>e=.returned (.bool (Lib.hasSuffix s.data.toList p.data.toList))∧w=w' :=
 (Tryz.strings_HasSuffix s p w (by omega)).mono fun _ _ h=>⟨h.1,h.2.symm⟩
theorem suffix_one (l:List UInt8) (c:UInt8):Lib.hasSuffix l [c]=(l.getLast? == some c):=by
 unfold Lib.hasSuffix
 rw [Bool.eq_iff_iff,List.isSuffixOf_iff_suffix,beq_iff_eq]
 constructor
 ·rintro ⟨r,rfl⟩;simp
 ·intro h
  obtain ⟨r,hr⟩:=List.getLast?_eq_some_iff.1 h
  exact ⟨r,hr.symm⟩
theorem valF_all (base:Nat):∀ (l:List UInt8) (a n:Nat),Lx.valF base a l=some n→∀ c∈l,Lx.isHex c=true∧Lx.hexVal c < base
 | [],a,n,_,c,hc=>by cases hc
 | x :: l,a,n,h,c,hc=>by
  rw [Lx.valF] at h
  split at h
  ·rename_i hx
   rcases List.mem_cons.1 hc with rfl | hc
   ·exact hx
   ·exact valF_all base l _ n h c hc
  ·cases h
theorem okVal_all {base lim:Nat} {l:List UInt8} {n:Nat} (h:Lx.okVal base lim l=some n):∀ c∈l,Lx.isHex c=true∧Lx.hexVal c < base:=by
 unfold Lx.okVal at h
 cases hv:Lx.valF base 0 l with
 | none=>rw [hv] at h;cases h
 | some m=>exact valF_all base l 0 m hv
theorem hex_digit:∀ c:UInt8,Lx.isHex c=true→Lx.hexVal c < 10→Lx.isDigit c=true:=by
 have:=u8_all (fun c=>Lx.isHex c=true→Lx.hexVal c < 10→Lx.isDigit c=true) (by decide +kernel)
 exact this
theorem digit_hex:∀ c:UInt8,Lx.isDigit c=true→Lx.isHex c=true:=by
 have:=u8_all (fun c=>Lx.isDigit c=true→Lx.isHex c=true) (by decide +kernel)
 exact this
theorem runE_all (q:Int) (s:ByteArray):runE q s 0=s.size↔∀ c∈s.data.toList,pB q c=true:=by
 unfold runE runEnd
 rw [List.drop_zero,Nat.zero_add,Lib.size_eq]
 constructor
 ·intro h c hc
  have hp:=List.takeWhile_prefix (pB q) (l:=s.data.toList)
  have he:=hp.eq_of_length h
  rw [← he] at hc
  have:=List.all_takeWhile (p:=pB q) (l:=s.data.toList)
  rw [List.all_eq_true] at this
  exact this c hc
 ·intro h
  have:∀ l:List UInt8,(∀ c∈l,pB q c=true)→l.takeWhile (pB q)=l:=by
   intro l
   induction l with
   | nil=>intro _;rfl
   | cons x l ih =>
    intro hl
    rw [List.takeWhile_cons,if_pos (hl x (by simp)),ih fun c hc=>hl c (by simp [hc])]
  rw [this _ h]
theorem radix_x (l:List UInt8) (h:Lib.hasPrefix l [48,120]=true∨Lib.hasPrefix l [48,88]=true):Lx.radix l=(16,l.drop 2)∧2≤l.length:=by
 unfold Lib.hasPrefix at h
 simp only [List.isPrefixOf_iff_prefix] at h
 rcases h with ⟨r,rfl⟩ | ⟨r,rfl⟩ <;> simp [Lx.radix]
theorem radix_o (l:List UInt8) (h1:Lib.hasPrefix l [48,120]=false) (h2:Lib.hasPrefix l [48,88]=false) (hl:1 < l.length) (h0:l.head?=some 48):Lx.radix l=(8,l.drop 1):=by
 match l,hl with
 | a :: b :: d,_ =>
  obtain rfl:a=48:=by simpa using h0
  have hb1:b≠120:=by rintro rfl;simp [Lib.hasPrefix] at h1
  have hb2:b≠88:=by rintro rfl;simp [Lib.hasPrefix] at h2
  unfold Lx.radix
  split
  ·rename_i e;simp at e;exact absurd e.1 hb1
  ·rename_i e;simp at e;exact absurd e.1 hb2
  ·rename_i e;simp at e ⊢;simp [e]
  ·rename_i h3;exact absurd rfl (h3 b d)
theorem radix_d (l:List UInt8) (h:¬ (1 < l.length∧l.head?=some 48)):Lx.radix l=(10,l):=by
 unfold Lx.radix
 split
 ·exact absurd ⟨by simp,by simp⟩ h
 ·exact absurd ⟨by simp,by simp⟩ h
 ·exact absurd ⟨by simp,by simp⟩ h
 ·rfl
def IntPost (l:List UInt8) (e:Ending):Prop :=
 match Lx.integer l with
 | some (n,u)=>e=.returned (.tuple #[.int .i64 (wrap64 n),.bool u,.bool true])
 | none=>∃ (v:Int) (u:Bool),e=.returned (.tuple #[.int .i64 v,.bool u,.bool false])
theorem intPost_none (l:List UInt8) (h:Lx.integer l=none) (e:Ending) (v:Int) (u:Bool) (he:e=.returned (.tuple #[.int .i64 v,.bool u,.bool false])):IntPost l e:=by
 unfold IntPost
 rw [h]
 exact ⟨v,u,he⟩
theorem intPost_some (l:List UInt8) (n:Nat) (u:Bool) (h:Lx.integer l=some (n,u)) (e:Ending) (he:e=.returned (.tuple #[.int .i64 (wrap64 n),.bool u,.bool true])):IntPost l e:=by
 unfold IntPost
 rw [h]
 exact he
theorem integer_def (l:List UInt8) (base:Nat) (d:List UInt8) (u:Bool) (hr:Lx.radix (Lx.body l)=(base,d)) (hu:Lx.suffixed l=u) :
  Lx.integer l=if d=[] then none else (Lx.okVal base (Lx.limit u) d).map fun n=>(n,u):=by
 unfold Lx.integer
 rw [hr,hu]
set_option maxHeartbeats 4000000 in
set_option maxRecDepth 100000 in
theorem integer_any (t:ByteArray) (hmax:t.size≤140737488355328) (w:World) (hg:GW w) :
  Calls Tryz.prog 54 #[.string t] w fun e w'=>IntPost t.data.toList e∧Below w.heap.size w w':=by
 have HSZ:=Lib.hid (Lib.size_eq t)
 go_enter Tryz.func54,Tryz.ntmps54
 go_upto_region 1 with fail
 go_cut [5] (fun s5 wx=>s5=.bool (Lx.suffixed t.data.toList)∧w=wx)
 case first =>
  cases h1:Lib.hasSuffix t.data.toList [117] with
  | true =>
   have HS:=Lib.hid (show Lx.suffixed t.data.toList=true by rw [suffix_one] at h1;unfold Lx.suffixed;rw [h1];rfl)
   go_wp2_with (go_at_call 84;refine (hasSuffix_any _ _ _ hmax).mono ?_;rintro e w' ⟨rfl,rfl⟩)
   go_meet
   exact ⟨by rw [HS.out],rfl⟩
  | false =>
   have HS:=Lib.hid (show Lx.suffixed t.data.toList=Lib.hasSuffix t.data.toList [85] by rw [suffix_one] at h1 ⊢;unfold Lx.suffixed;rw [h1];rfl)
   go_wp2_with (go_at_call 84;refine (hasSuffix_any _ _ _ hmax).mono ?_;rintro e w' ⟨rfl,rfl⟩)
   go_meet
   exact ⟨by rw [HS.out],rfl⟩
 case rest =>
 obtain ⟨rfl,rfl⟩:=hcut
 obtain ⟨u,hu⟩:∃ u,Lx.suffixed t.data.toList=u:=⟨_,rfl⟩
 rw [hu]
 have HU:=Lib.hid hu
 go_upto_if 19 with fail
 go_cut [6] (fun s6 wx=>∃ s1:ByteArray,s6=.string s1∧s1.data.toList=Lx.body t.data.toList∧s1.size≤t.size∧w=wx)
 case first =>
  cases u with
  | true =>
   have hne:1≤t.size:=by
    rw [HSZ.out]
    rcases hl:t.data.toList with _ | ⟨x,l⟩
    ·rw [hl] at hu;simp [Lx.suffixed] at hu
    ·simp
   have hx:(t.extract 0 (t.size - 1)).data.toList=Lx.body t.data.toList:=by
    unfold Lx.body
    rw [if_pos hu,Lib.extract_data,List.dropLast_eq_take,HSZ.out]
    simp
   have HX:=Lib.hid hx
   clear hx hu
   go_wp2
   go_meet
   exact ⟨_,rfl,HX.out,by simp,rfl⟩
  | false =>
   have hx:t.data.toList=Lx.body t.data.toList:=by
    unfold Lx.body
    rw [if_neg (by rw [hu];simp)]
   have HX:=Lib.hid hx
   clear hu hx
   go_wp2
   go_meet
   exact ⟨t,rfl,HX.out,Nat.le_refl _,rfl⟩
 case rest =>
 obtain ⟨s1,rfl,hs1,hs1l,rfl⟩:=hcut
 have HS1:=Lib.hid hs1
 clear hs1
 go_upto_block 0 with fail
 go_cut [6,7,8,25,34] (fun s6 s7 s8 s25 s34 wx=>∃ (s2:ByteArray) (base q:Nat),s6=.string s2∧s7=.int .i64 (base:Int)∧s8=.int .i64 (q:Int)∧Hid (Lx.radix (Lx.body t.data.toList)=(base,s2.data.toList))∧s2.size≤t.size∧Hid ((base=16∧q=8)∨(base=10∧q=4)∨(base=8∧q=4))∧w=wx)
 case first =>
  have HZ1:=Lib.hid (Lib.size_eq s1)
  cases h1:Lib.hasPrefix s1.data.toList [48,120] with
  | true =>
   obtain ⟨hr,hl⟩:=radix_x _ (.inl h1)
   rw [← HZ1.out] at hl
   rw [← Lib.extract_to_end,HS1.out] at hr
   have HR:=Lib.hid hr
   clear hr
   go_wp2_with (go_at_call 85;refine (hasPrefix_any _ _ _).mono ?_;rintro e w' ⟨rfl,rfl⟩)
   go_meet
   exact ⟨_,16,8,rfl,rfl,rfl,HR.out,by simp;omega,.inl ⟨rfl,rfl⟩,rfl⟩
  | false =>
   cases h2:Lib.hasPrefix s1.data.toList [48,88] with
   | true =>
    obtain ⟨hr,hl⟩:=radix_x _ (.inr h2)
    rw [← HZ1.out] at hl
    rw [← Lib.extract_to_end,HS1.out] at hr
    have HR:=Lib.hid hr
    clear hr
    go_wp2_with (go_at_call 85;refine (hasPrefix_any _ _ _).mono ?_;rintro e w' ⟨rfl,rfl⟩)
    go_meet
    exact ⟨_,16,8,rfl,rfl,rfl,HR.out,by simp;omega,.inl ⟨rfl,rfl⟩,rfl⟩
   | false =>
    by_cases hl:1 < s1.size
    ·have hh:s1.data.toList.head?=some s1[0]:=by
      rw [List.head?_eq_getElem?,List.getElem?_eq_getElem (by rw [← HZ1.out];omega)];rfl
     cases h48:((s1[0].toNat:Int) == 48) with
     | true =>
      have h480:s1[0]=48:=by
       have:s1[0].toNat=48:=by have:=beq_iff_eq.1 h48;omega
       exact UInt8.toNat_inj.1 (by simpa using this)
      have hr:=radix_o _ h1 h2 (by rw [← HZ1.out];exact hl) (by rw [hh,h480])
      rw [← Lib.extract_to_end,HS1.out] at hr
      have HR:=Lib.hid hr
      clear hr hh h480
      go_wp2_with (go_at_call 85;refine (hasPrefix_any _ _ _).mono ?_;rintro e w' ⟨rfl,rfl⟩)
      go_meet
      exact ⟨_,8,4,rfl,rfl,rfl,HR.out,by simp;omega,.inr (.inr ⟨rfl,rfl⟩),rfl⟩
     | false =>
      have hr:=radix_d s1.data.toList (fun h=>by
       rw [hh] at h
       have:s1[0]=48:=by simpa using h.2
       rw [this] at h48
       simp at h48)
      have HR:=Lib.hid (show Lx.radix (Lx.body t.data.toList)=(10,s1.data.toList) by rw [← HS1.out];exact hr)
      clear hr hh
      go_wp2_with (go_at_call 85;refine (hasPrefix_any _ _ _).mono ?_;rintro e w' ⟨rfl,rfl⟩)
      go_meet
      exact ⟨s1,10,4,rfl,rfl,rfl,HR.out,hs1l,.inr (.inl ⟨rfl,rfl⟩),rfl⟩
    ·have hr:=radix_d s1.data.toList (fun h=>hl (by rw [HZ1.out];exact h.1))
     have HR:=Lib.hid hr
     clear hr
     go_wp2_with (go_at_call 85;refine (hasPrefix_any _ _ _).mono ?_;rintro e w' ⟨rfl,rfl⟩)
     go_meet
     exact ⟨s1,10,4,rfl,rfl,rfl,by rw [← HS1.out];exact HR.out,hs1l,.inr (.inl ⟨rfl,rfl⟩),rfl⟩
 case rest =>
 obtain ⟨s2,base,q,rfl,rfl,rfl,HR,hs2l,HQ,rfl⟩:=hcut
 have HDEF:=Lib.hid (integer_def t.data.toList base s2.data.toList u HR.out HU.out)
 have HZ2:=Lib.hid (Lib.size_eq s2)
 by_cases he:s2.size=0
 ·have hemp:s2.toList.isEmpty=true:=by
   rw [← decide_eq_emptyBytes]
   exact decide_eq_true (by
    have:s2.data.toList=[]:=List.eq_nil_of_length_eq_zero (by rw [← HZ2.out];exact he)
    obtain ⟨⟨l⟩⟩:=s2
    simp at this
    subst this
    rfl)
  have HD:=Lib.hid (intPost_none t.data.toList (by rw [HDEF.out,if_pos (List.eq_nil_of_length_eq_zero (by rw [← HZ2.out];exact he))]))
  clear he
  go_wp2
  go_ret3
  exact ⟨HD.out _ _ _ rfl,Below.refl _ _⟩
 ·have hemp:s2.toList.isEmpty=false:=by
   rw [← decide_eq_emptyBytes]
   exact decide_eq_false (fun h=>he (by rw [h];rfl))
  have HNE:=Lib.hid (show s2.data.toList≠[] from fun h=>he (by rw [HZ2.out,h];rfl))
  have hm:s2.size≤maxLen:=by unfold maxLen;omega
  rcases HQ.out with ⟨rfl,rfl⟩ | ⟨rfl,rfl⟩ | ⟨rfl,rfl⟩
  ·by_cases hrun:runE 8 s2 0=s2.size
   ·have hcls:∀ c∈s2.data.toList,Lx.isHex c=true:=fun c hc=>by
     rw [← pB_hex]
     exact (runE_all 8 s2).1 hrun c hc
    have hcb:((runE 8 s2 0:Nat):Int)=s2.size:=by rw [hrun]
    have HX:=Lib.hid hcls
    have HCB:=Lib.hid hcb
    have HRUN:=Lib.hid hrun
    have hr69:∀ W,GW W→Calls Tryz.prog 69 #[.string s2,.int .i64 0,.int .i64 8] W fun e w'=>e=.returned (.int .i64 (s2.size:Nat))∧Below W.heap.size W w':=fun W hW=>(run_E s2 0 8 W hW hm (Nat.zero_le _)).mono fun e w' h=>⟨h.1.trans (ret_int HCB.out),h.2⟩
    clear hcls hcb hrun he
    cases u with
    | true =>
     have hp:=fun W=>pub_16_64 s2 (by omega) (fun h=>HNE.out (List.eq_nil_of_length_eq_zero (by rw [← HZ2.out];exact h))) HX.out W
     simp only [pubPost_iff] at hp
     cases hv:Lx.okVal 16 18446744073709551616 s2.data.toList with
     | some n =>
      have HI:=Lib.hid (intPost_some t.data.toList n true (by rw [HDEF.out,if_neg HNE.out,show Lx.limit true=18446744073709551616 from rfl,hv];rfl))
      simp only [hv] at hp
      have HP:=Lib.hid hp
      clear hv hp
      go_wp2_with (first | (go_at_call 69;refine (hr69 _ hg).mono ?_;rintro e w1 ⟨rfl,hb1⟩) | (go_at_call 83;refine (HP.out _ (hg.below hb1 (Nat.le_refl _))).mono ?_;rintro e w2 ⟨rfl,hb2⟩))
      go_quiet (fail)
      go_wp2
      go_ret3
      exact ⟨HI.out _ (by simp),below_drewN (hb1.trans (hb2.mono hb1.size)) _⟩
     | none =>
      have HI:=Lib.hid (intPost_none t.data.toList (by rw [HDEF.out,if_neg HNE.out,show Lx.limit true=18446744073709551616 from rfl,hv];rfl))
      simp only [hv] at hp
      have HP:=Lib.hid hp
      clear hv hp
      go_wp2_with (first | (go_at_call 69;refine (hr69 _ hg).mono ?_;rintro e w1 ⟨rfl,hb1⟩) | (go_at_call 83;refine (HP.out _ (hg.below hb1 (Nat.le_refl _))).mono ?_;rintro e w2 ⟨⟨v,m,rfl⟩,hb2⟩))
      go_quiet (fail)
      go_wp2
      go_ret3
      exact ⟨HI.out _ (wrap64 v) true (by simp),below_drewN (hb1.trans (hb2.mono hb1.size)) _⟩
    | false =>
     have hp:=fun W=>pub_16_63 s2 (by omega) (fun h=>HNE.out (List.eq_nil_of_length_eq_zero (by rw [← HZ2.out];exact h))) HX.out W
     simp only [pubPost_iff] at hp
     cases hv:Lx.okVal 16 9223372036854775808 s2.data.toList with
     | some n =>
      have HI:=Lib.hid (intPost_some t.data.toList n false (by rw [HDEF.out,if_neg HNE.out,show Lx.limit false=9223372036854775808 from rfl,hv];rfl))
      simp only [hv] at hp
      have HP:=Lib.hid hp
      clear hv hp
      go_wp2_with (first | (go_at_call 69;refine (hr69 _ hg).mono ?_;rintro e w1 ⟨rfl,hb1⟩) | (go_at_call 83;refine (HP.out _ (hg.below hb1 (Nat.le_refl _))).mono ?_;rintro e w2 ⟨rfl,hb2⟩))
      go_quiet (fail)
      go_wp2
      go_ret3
      exact ⟨HI.out _ (by simp),below_drewN (hb1.trans (hb2.mono hb1.size)) _⟩
     | none =>
      have HI:=Lib.hid (intPost_none t.data.toList (by rw [HDEF.out,if_neg HNE.out,show Lx.limit false=9223372036854775808 from rfl,hv];rfl))
      simp only [hv] at hp
      have HP:=Lib.hid hp
      clear hv hp
      go_wp2_with (first | (go_at_call 69;refine (hr69 _ hg).mono ?_;rintro e w1 ⟨rfl,hb1⟩) | (go_at_call 83;refine (HP.out _ (hg.below hb1 (Nat.le_refl _))).mono ?_;rintro e w2 ⟨⟨v,m,rfl⟩,hb2⟩))
      go_quiet (fail)
      go_wp2
      go_ret3
      exact ⟨HI.out _ (wrap64 v) false (by simp),below_drewN (hb1.trans (hb2.mono hb1.size)) _⟩
   ·have HI:=Lib.hid (intPost_none t.data.toList (by
     rw [HDEF.out,if_neg HNE.out]
     cases hv:Lx.okVal 16 (Lx.limit u) s2.data.toList with
     | none=>rfl
     | some n =>
      refine absurd ((runE_all 8 s2).2 fun c hc=>?_) hrun
      obtain ⟨h1,h2⟩:=okVal_all hv c hc
      rw [pB_hex]
      exact h1))
    have hne:((runE 8 s2 0:Int) != (s2.size:Int))=true:=by
     rw [bne_iff_ne];omega
    clear hrun he
    go_wp2_with (go_at_call 69;refine (run_E s2 0 8 _ hg hm (Nat.zero_le _)).mono ?_;rintro e w1 ⟨rfl,hb1⟩)
    go_ret3
    exact ⟨HI.out _ _ _ rfl,hb1⟩
  ·by_cases hrun:runE 4 s2 0=s2.size
   ·have hcls:∀ c∈s2.data.toList,Lx.isDigit c=true:=fun c hc=>by
     rw [← pB_digit]
     exact (runE_all 4 s2).1 hrun c hc
    have hcb:((runE 4 s2 0:Nat):Int)=s2.size:=by rw [hrun]
    have HX:=Lib.hid (fun c hc=>digit_hex c (hcls c hc))
    have HCB:=Lib.hid hcb
    have HRUN:=Lib.hid hrun
    have hr69:∀ W,GW W→Calls Tryz.prog 69 #[.string s2,.int .i64 0,.int .i64 4] W fun e w'=>e=.returned (.int .i64 (s2.size:Nat))∧Below W.heap.size W w':=fun W hW=>(run_E s2 0 4 W hW hm (Nat.zero_le _)).mono fun e w' h=>⟨h.1.trans (ret_int HCB.out),h.2⟩
    clear hcls hcb hrun he
    cases u with
    | true =>
     have hp:=fun W=>pub_10_64 s2 (by omega) (fun h=>HNE.out (List.eq_nil_of_length_eq_zero (by rw [← HZ2.out];exact h))) HX.out W
     simp only [pubPost_iff] at hp
     cases hv:Lx.okVal 10 18446744073709551616 s2.data.toList with
     | some n =>
      have HI:=Lib.hid (intPost_some t.data.toList n true (by rw [HDEF.out,if_neg HNE.out,show Lx.limit true=18446744073709551616 from rfl,hv];rfl))
      simp only [hv] at hp
      have HP:=Lib.hid hp
      clear hv hp
      go_wp2_with (first | (go_at_call 69;refine (hr69 _ hg).mono ?_;rintro e w1 ⟨rfl,hb1⟩) | (go_at_call 83;refine (HP.out _ (hg.below hb1 (Nat.le_refl _))).mono ?_;rintro e w2 ⟨rfl,hb2⟩))
      go_quiet (fail)
      go_wp2
      go_ret3
      exact ⟨HI.out _ (by simp),below_drewN (hb1.trans (hb2.mono hb1.size)) _⟩
     | none =>
      have HI:=Lib.hid (intPost_none t.data.toList (by rw [HDEF.out,if_neg HNE.out,show Lx.limit true=18446744073709551616 from rfl,hv];rfl))
      simp only [hv] at hp
      have HP:=Lib.hid hp
      clear hv hp
      go_wp2_with (first | (go_at_call 69;refine (hr69 _ hg).mono ?_;rintro e w1 ⟨rfl,hb1⟩) | (go_at_call 83;refine (HP.out _ (hg.below hb1 (Nat.le_refl _))).mono ?_;rintro e w2 ⟨⟨v,m,rfl⟩,hb2⟩))
      go_quiet (fail)
      go_wp2
      go_ret3
      exact ⟨HI.out _ (wrap64 v) true (by simp),below_drewN (hb1.trans (hb2.mono hb1.size)) _⟩
    | false =>
     have hp:=fun W=>pub_10_63 s2 (by omega) (fun h=>HNE.out (List.eq_nil_of_length_eq_zero (by rw [← HZ2.out];exact h))) HX.out W
     simp only [pubPost_iff] at hp
     cases hv:Lx.okVal 10 9223372036854775808 s2.data.toList with
     | some n =>
      have HI:=Lib.hid (intPost_some t.data.toList n false (by rw [HDEF.out,if_neg HNE.out,show Lx.limit false=9223372036854775808 from rfl,hv];rfl))
      simp only [hv] at hp
      have HP:=Lib.hid hp
      clear hv hp
      go_wp2_with (first | (go_at_call 69;refine (hr69 _ hg).mono ?_;rintro e w1 ⟨rfl,hb1⟩) | (go_at_call 83;refine (HP.out _ (hg.below hb1 (Nat.le_refl _))).mono ?_;rintro e w2 ⟨rfl,hb2⟩))
      go_quiet (fail)
      go_wp2
      go_ret3
      exact ⟨HI.out _ (by simp),below_drewN (hb1.trans (hb2.mono hb1.size)) _⟩
     | none =>
      have HI:=Lib.hid (intPost_none t.data.toList (by rw [HDEF.out,if_neg HNE.out,show Lx.limit false=9223372036854775808 from rfl,hv];rfl))
      simp only [hv] at hp
      have HP:=Lib.hid hp
      clear hv hp
      go_wp2_with (first | (go_at_call 69;refine (hr69 _ hg).mono ?_;rintro e w1 ⟨rfl,hb1⟩) | (go_at_call 83;refine (HP.out _ (hg.below hb1 (Nat.le_refl _))).mono ?_;rintro e w2 ⟨⟨v,m,rfl⟩,hb2⟩))
      go_quiet (fail)
      go_wp2
      go_ret3
      exact ⟨HI.out _ (wrap64 v) false (by simp),below_drewN (hb1.trans (hb2.mono hb1.size)) _⟩
   ·have HI:=Lib.hid (intPost_none t.data.toList (by
     rw [HDEF.out,if_neg HNE.out]
     cases hv:Lx.okVal 10 (Lx.limit u) s2.data.toList with
     | none=>rfl
     | some n =>
      refine absurd ((runE_all 4 s2).2 fun c hc=>?_) hrun
      obtain ⟨h1,h2⟩:=okVal_all hv c hc
      rw [pB_digit]
      exact hex_digit c h1 (by omega)))
    have hne:((runE 4 s2 0:Int) != (s2.size:Int))=true:=by
     rw [bne_iff_ne];omega
    clear hrun he
    go_wp2_with (go_at_call 69;refine (run_E s2 0 4 _ hg hm (Nat.zero_le _)).mono ?_;rintro e w1 ⟨rfl,hb1⟩)
    go_ret3
    exact ⟨HI.out _ _ _ rfl,hb1⟩
  ·by_cases hrun:runE 4 s2 0=s2.size
   ·have hcls:∀ c∈s2.data.toList,Lx.isDigit c=true:=fun c hc=>by
     rw [← pB_digit]
     exact (runE_all 4 s2).1 hrun c hc
    have hcb:((runE 4 s2 0:Nat):Int)=s2.size:=by rw [hrun]
    have HX:=Lib.hid (fun c hc=>digit_hex c (hcls c hc))
    have HCB:=Lib.hid hcb
    have HRUN:=Lib.hid hrun
    have hr69:∀ W,GW W→Calls Tryz.prog 69 #[.string s2,.int .i64 0,.int .i64 4] W fun e w'=>e=.returned (.int .i64 (s2.size:Nat))∧Below W.heap.size W w':=fun W hW=>(run_E s2 0 4 W hW hm (Nat.zero_le _)).mono fun e w' h=>⟨h.1.trans (ret_int HCB.out),h.2⟩
    clear hcls hcb hrun he
    cases u with
    | true =>
     have hp:=fun W=>pub_8_64 s2 (by omega) (fun h=>HNE.out (List.eq_nil_of_length_eq_zero (by rw [← HZ2.out];exact h))) HX.out W
     simp only [pubPost_iff] at hp
     cases hv:Lx.okVal 8 18446744073709551616 s2.data.toList with
     | some n =>
      have HI:=Lib.hid (intPost_some t.data.toList n true (by rw [HDEF.out,if_neg HNE.out,show Lx.limit true=18446744073709551616 from rfl,hv];rfl))
      simp only [hv] at hp
      have HP:=Lib.hid hp
      clear hv hp
      go_wp2_with (first | (go_at_call 69;refine (hr69 _ hg).mono ?_;rintro e w1 ⟨rfl,hb1⟩) | (go_at_call 83;refine (HP.out _ (hg.below hb1 (Nat.le_refl _))).mono ?_;rintro e w2 ⟨rfl,hb2⟩))
      go_quiet (fail)
      go_wp2
      go_ret3
      exact ⟨HI.out _ (by simp),below_drewN (hb1.trans (hb2.mono hb1.size)) _⟩
     | none =>
      have HI:=Lib.hid (intPost_none t.data.toList (by rw [HDEF.out,if_neg HNE.out,show Lx.limit true=18446744073709551616 from rfl,hv];rfl))
      simp only [hv] at hp
      have HP:=Lib.hid hp
      clear hv hp
      go_wp2_with (first | (go_at_call 69;refine (hr69 _ hg).mono ?_;rintro e w1 ⟨rfl,hb1⟩) | (go_at_call 83;refine (HP.out _ (hg.below hb1 (Nat.le_refl _))).mono ?_;rintro e w2 ⟨⟨v,m,rfl⟩,hb2⟩))
      go_quiet (fail)
      go_wp2
      go_ret3
      exact ⟨HI.out _ (wrap64 v) true (by simp),below_drewN (hb1.trans (hb2.mono hb1.size)) _⟩
    | false =>
     have hp:=fun W=>pub_8_63 s2 (by omega) (fun h=>HNE.out (List.eq_nil_of_length_eq_zero (by rw [← HZ2.out];exact h))) HX.out W
     simp only [pubPost_iff] at hp
     cases hv:Lx.okVal 8 9223372036854775808 s2.data.toList with
     | some n =>
      have HI:=Lib.hid (intPost_some t.data.toList n false (by rw [HDEF.out,if_neg HNE.out,show Lx.limit false=9223372036854775808 from rfl,hv];rfl))
      simp only [hv] at hp
      have HP:=Lib.hid hp
      clear hv hp
      go_wp2_with (first | (go_at_call 69;refine (hr69 _ hg).mono ?_;rintro e w1 ⟨rfl,hb1⟩) | (go_at_call 83;refine (HP.out _ (hg.below hb1 (Nat.le_refl _))).mono ?_;rintro e w2 ⟨rfl,hb2⟩))
      go_quiet (fail)
      go_wp2
      go_ret3
      exact ⟨HI.out _ (by simp),below_drewN (hb1.trans (hb2.mono hb1.size)) _⟩
     | none =>
      have HI:=Lib.hid (intPost_none t.data.toList (by rw [HDEF.out,if_neg HNE.out,show Lx.limit false=9223372036854775808 from rfl,hv];rfl))
      simp only [hv] at hp
      have HP:=Lib.hid hp
      clear hv hp
      go_wp2_with (first | (go_at_call 69;refine (hr69 _ hg).mono ?_;rintro e w1 ⟨rfl,hb1⟩) | (go_at_call 83;refine (HP.out _ (hg.below hb1 (Nat.le_refl _))).mono ?_;rintro e w2 ⟨⟨v,m,rfl⟩,hb2⟩))
      go_quiet (fail)
      go_wp2
      go_ret3
      exact ⟨HI.out _ (wrap64 v) false (by simp),below_drewN (hb1.trans (hb2.mono hb1.size)) _⟩
   ·have HI:=Lib.hid (intPost_none t.data.toList (by
     rw [HDEF.out,if_neg HNE.out]
     cases hv:Lx.okVal 8 (Lx.limit u) s2.data.toList with
     | none=>rfl
     | some n =>
      refine absurd ((runE_all 4 s2).2 fun c hc=>?_) hrun
      obtain ⟨h1,h2⟩:=okVal_all hv c hc
      rw [pB_digit]
      exact hex_digit c h1 (by omega)))
    have hne:((runE 4 s2 0:Int) != (s2.size:Int))=true:=by
     rw [bne_iff_ne];omega
    clear hrun he
    go_wp2_with (go_at_call 69;refine (run_E s2 0 4 _ hg hm (Nat.zero_le _)).mono ?_;rintro e w1 ⟨rfl,hb1⟩)
    go_ret3
    exact ⟨HI.out _ _ _ rfl,hb1⟩
def CharPost (r:List UInt8) (a:Nat) (e:Ending):Prop :=
 match Lx.char r with
 | some (v,k)=>e=.returned (.tuple #[.int .u8 (v.toNat:Int),.int .i64 ((a+k:Nat):Int),.bool true])
 | none=>∃ (v n:Int),e=.returned (.tuple #[.int .u8 v,.int .i64 n,.bool false])
theorem charPost_none {r:List UInt8} (h:Lx.char r=none) (a:Nat) (e:Ending) (v n:Int) (he:e=.returned (.tuple #[.int .u8 v,.int .i64 n,.bool false])):CharPost r a e:=by
 unfold CharPost
 rw [h]
 exact ⟨v,n,he⟩
theorem charPost_some {r:List UInt8} {c:UInt8} {k:Nat} (h:Lx.char r=some (c,k)) (a:Nat) (e:Ending) (he:e=.returned (.tuple #[.int .u8 (c.toNat:Int),.int .i64 ((a+k:Nat):Int),.bool true])):CharPost r a e:=by
 unfold CharPost
 rw [h]
 exact he
theorem esc_index:∀ d:UInt8,(Lib.indexByte [110,116,114,92,34,39] d=-1∧d≠110∧d≠116∧d≠114∧d≠92∧d≠34∧d≠39)∨(∃ i:Nat,i < 6∧Lib.indexByte [110,116,114,92,34,39] d=(i:Int)∧d≠120∧((d=110∧i=0)∨(d=116∧i=1)∨(d=114∧i=2)∨(d=92∧i=3)∨(d=34∧i=4)∨(d=39∧i=5))):=by
 intro d
 by_cases h:d=110∨d=116∨d=114∨d=92∨d=34∨d=39
 ·right
  rcases h with rfl | rfl | rfl | rfl | rfl | rfl
  ·exact ⟨0,by decide⟩
  ·exact ⟨1,by decide⟩
  ·exact ⟨2,by decide⟩
  ·exact ⟨3,by decide⟩
  ·exact ⟨4,by decide⟩
  ·exact ⟨5,by decide⟩
 ·left
  simp only [not_or] at h
  obtain ⟨h1,h2,h3,h4,h5,h6⟩:=h
  refine ⟨?_,h1,h2,h3,h4,h5,h6⟩
  have e (x:UInt8) (hx:d≠x):(x == d)=false:=by simp [Ne.symm hx]
  simp [Lib.indexByte,e _ h1,e _ h2,e _ h3,e _ h4,e _ h5,e _ h6]
theorem drop_at (s:ByteArray) (a:Nat) (h:a < s.size):s.data.toList.drop a=s[a] :: s.data.toList.drop (a+1):=by
 rw [List.drop_eq_getElem_cons (by rw [← Lib.size_eq];exact h)]
 rfl
theorem hexVal_lt:∀ c:UInt8,Lx.isHex c=true→Lx.hexVal c < 16:=by
 have:=u8_all (fun c=>Lx.isHex c=true→Lx.hexVal c < 16) (by decide +kernel)
 exact this
theorem indexByte_as (s:ByteArray) (c i:Int) (h:Lib.indexByte s.data.toList c.toNat.toUInt8=i) (w:World) :
  Calls Tryz.prog 64 #[.string s,.int .u8 c] w fun e w'=>e=.returned (.int .i64 i)∧w=w':=(indexByte_any s c w).mono fun _ _ hh=>⟨by rw [hh.1,h],hh.2⟩
theorem is_as (c q:Int) (r:Bool) (h:isB c q=r) (w:World) (hg:GW w) :
  Calls Tryz.prog 82 #[.int .u8 c,.int .i64 q] w fun e w'=>e=.returned (.bool r)∧Below w.heap.size w w':=(is_any c q w hg).mono fun _ _ hh=>⟨by rw [hh.1,h],hh.2⟩
set_option maxHeartbeats 4000000 in
set_option maxRecDepth 100000 in
theorem character_any (s:ByteArray) (a:Nat) (hmax:s.size≤140737488355328) (ha:a≤s.size) (w:World) (hg:GW w) :
  Calls Tryz.prog 53 #[.string s,.int .i64 (a:Int)] w fun e w'=>CharPost (s.data.toList.drop a) a e∧Below w.heap.size w w':=by
 have bad (r:List UInt8) (h:Lx.char r=none):=charPost_none h a
 by_cases h1:a < s.size
 ·have d1:=drop_at s a h1
  by_cases c0:s[a]=0∨s[a]=10
  ·have HI:=Lib.hid (charPost_none (r:=s.data.toList.drop a) (by rw [d1,Lx.char,Lx.charC,if_pos c0]) a)
   clear d1 bad
   rcases c0 with c0 | c0
   ·have f0:((s[a].toNat:Int) == 0)=true:=by rw [c0];rfl
    clear c0
    go_enter Tryz.func53,Tryz.ntmps53
    go_wp2
    go_ret3
    exact ⟨HI.out _ _ _ rfl,Below.refl _ _⟩
   ·have f0:((s[a].toNat:Int) == 0)=false:=by rw [c0];rfl
    have f1:((s[a].toNat:Int) == 10)=true:=by rw [c0];rfl
    clear c0
    go_enter Tryz.func53,Tryz.ntmps53
    go_wp2
    go_ret3
    exact ⟨HI.out _ _ _ rfl,Below.refl _ _⟩
  ·have f0:((s[a].toNat:Int) == 0)=false:=by
    rw [beq_eq_false_iff_ne];intro h;exact c0 (.inl (UInt8.toNat_inj.1 (by simpa using h)))
   have f1:((s[a].toNat:Int) == 10)=false:=by
    rw [beq_eq_false_iff_ne];intro h;exact c0 (.inr (UInt8.toNat_inj.1 (by simpa using (by omega:s[a].toNat=10))))
   by_cases c1:s[a]=92
   ·have f2:((s[a].toNat:Int) != 92)=false:=by rw [c1];rfl
    by_cases h2:a+1 < s.size
    ·have d2:=drop_at s (a+1) h2
     rw [d2] at d1
     have hch:Lx.char (s.data.toList.drop a)=Lx.esc s[a+1] (s.data.toList.drop (a+2)):=by
      rw [d1,Lx.char,Lx.charC,if_neg c0,if_neg (by simp [c1]),Lx.escT]
     clear bad d1 d2
     have j1:(0:Int)≤(a:Int)+1:=by omega
     have j2:(a:Int)+1 < (s.size:Int):=by omega
     rcases esc_index s[a+1] with ⟨hi,n1,n2,n3,n4,n5,n6⟩ | ⟨i,hi6,hi,hn,hcs⟩
     ·have hch2:Lx.char (s.data.toList.drop a)=if s[a+1]≠120 then none else Lx.hexes (s.data.toList.drop (a+2)):=by
       rw [hch,Lx.esc,if_neg n1,if_neg n2,if_neg n3,if_neg (by simp [n4,n5,n6])]
      have hix:Lib.indexByte [110,116,114,92,34,39] ((s[a+1].toNat:Int).toNat.toUInt8)=-1:=by simpa using hi
      have HIX:=Lib.hid hix
      clear hch hi n1 n2 n3 n4 n5 n6 hix
      by_cases h120:s[a+1]=120
      ·have f3:((s[a+1].toNat:Int) != 120)=false:=by rw [h120];rfl
       rw [if_neg (by simp [h120])] at hch2
       clear h120
       by_cases h3:a+3 < s.size
       ·have d3:s.data.toList.drop (a+2)=s[a+2] :: s[a+3] :: s.data.toList.drop (a+4):=by
         rw [drop_at s (a+2) (by omega),drop_at s (a+2+1) (by omega)]
        have hch3:Lx.char (s.data.toList.drop a)=if Lx.isHex s[a+2]∧Lx.isHex s[a+3]∧16 * Lx.hexVal s[a+2]+Lx.hexVal s[a+3]≠0 then some (UInt8.ofNat (16 * Lx.hexVal s[a+2]+Lx.hexVal s[a+3]),4) else none:=by
         rw [hch2,d3,Lx.hexes]
        have HD3:=Lib.hid d3
        have j3:(a:Int)+3 < (s.size:Int):=by omega
        clear hch2 d3 c1 c0
        cases hx:Lx.isHex s[a+2] with
        | true =>
         have hx2:isB (s[a+2].toNat:Int) 8=true:=(pB_hex _).trans hx
         cases hy:Lx.isHex s[a+3] with
         | true =>
          have hx3:isB (s[a+3].toNat:Int) 8=true:=(pB_hex _).trans hy
          have HX2:=Lib.hid hx2
          have HX3:=Lib.hid hx3
          have hpc:(s.extract (a+2) (a+4)).data.toList=[s[a+2],s[a+3]]:=by
           rw [Lib.extract_data,HD3.out,show a+4 - (a+2)=2 by omega];rfl
          have hvl:Lx.okVal 16 256 [s[a+2],s[a+3]]=some (16 * Lx.hexVal s[a+2]+Lx.hexVal s[a+3]):=by
           have b1:=hexVal_lt _ hx
           have b2:=hexVal_lt _ hy
           unfold Lx.okVal
           rw [Lx.valF,if_pos ⟨hx,b1⟩,Lx.valF,if_pos ⟨hy,b2⟩,Lx.valF,Option.bind_some,if_pos (by omega)]
           simp
          have hlt:=hexVal_lt _ hx
          have hlt2:=hexVal_lt _ hy
          obtain ⟨n,hn⟩:∃ n,n=16 * Lx.hexVal s[a+2]+Lx.hexVal s[a+3]:=⟨_,rfl⟩
          have hn256:n < 256:=by omega
          rw [← hn] at hvl hch3
          have hp:=fun W=>pub_16_8 (s.extract (a+2) (a+4)) (by simp;omega) (by simp;omega) (by rw [hpc];intro c hc;rcases List.mem_cons.1 hc with rfl | hc;exact hx;rw [List.mem_singleton.1 hc];exact hy) W
          simp only [pubPost_iff,hpc,hvl] at hp
          have HP:=Lib.hid hp
          have HN:=Lib.hid hn
          clear hp hvl hpc hn hlt hlt2 hx2 hx3
          by_cases h0:n=0
          ·have HI:=Lib.hid (charPost_none (r:=s.data.toList.drop a) (by rw [hch3,if_neg (by simp [h0])]) a)
           clear hch3 hx hy
           subst h0
           go_enter Tryz.func53,Tryz.ntmps53
           go_wp2_with (first | (go_at_call 64;refine (indexByte_as _ _ _ HIX.out _).mono ?_;rintro e w' ⟨rfl,rfl⟩) | (go_at_call 82;((with_reducible refine (is_as _ _ _ HX2.out _ hg).mono ?_);rintro e w1 ⟨rfl,hb1⟩)) | (go_at_call 82;((with_reducible refine (is_as _ _ _ HX3.out _ (hg.below hb1 (Nat.le_refl _))).mono ?_);rintro e w2 ⟨rfl,hb2⟩)) | (go_at_call 83;refine (HP.out _ (hg.below (hb1.trans (hb2.mono hb1.size)) (Nat.le_refl _))).mono ?_;rintro e w3 ⟨rfl,hb3⟩))
           go_ret3
           exact ⟨HI.out _ _ _ rfl,((hb1.trans (hb2.mono hb1.size)).trans (hb3.mono (hb1.trans (hb2.mono hb1.size)).size))⟩
          ·have HI:=Lib.hid (charPost_some (r:=s.data.toList.drop a) (c:=UInt8.ofNat n) (k:=4) (by rw [hch3,if_pos ⟨hx,hy,h0⟩]) a)
           have hn0:((n:Int) != 0)=true:=by rw [bne_iff_ne];omega
           clear hch3 hx hy
           go_enter Tryz.func53,Tryz.ntmps53
           go_wp2_with (first | (go_at_call 64;refine (indexByte_as _ _ _ HIX.out _).mono ?_;rintro e w' ⟨rfl,rfl⟩) | (go_at_call 82;((with_reducible refine (is_as _ _ _ HX2.out _ hg).mono ?_);rintro e w1 ⟨rfl,hb1⟩)) | (go_at_call 82;((with_reducible refine (is_as _ _ _ HX3.out _ (hg.below hb1 (Nat.le_refl _))).mono ?_);rintro e w2 ⟨rfl,hb2⟩)) | (go_at_call 83;refine (HP.out _ (hg.below (hb1.trans (hb2.mono hb1.size)) (Nat.le_refl _))).mono ?_;rintro e w3 ⟨rfl,hb3⟩))
           go_ret3
           refine ⟨HI.out _ ?_,((hb1.trans (hb2.mono hb1.size)).trans (hb3.mono (hb1.trans (hb2.mono hb1.size)).size))⟩
           simp
           omega
         | false =>
          have hx3:isB (s[a+3].toNat:Int) 8=false:=(pB_hex _).trans hy
          have HI:=Lib.hid (charPost_none (r:=s.data.toList.drop a) (by rw [hch3,if_neg (by simp [hy])]) a)
          have HX2:=Lib.hid hx2
          have HX3:=Lib.hid hx3
          clear hch3 hx hy hx2 hx3
          go_enter Tryz.func53,Tryz.ntmps53
          go_wp2_with (first | (go_at_call 64;refine (indexByte_as _ _ _ HIX.out _).mono ?_;rintro e w' ⟨rfl,rfl⟩) | (go_at_call 82;((with_reducible refine (is_as _ _ _ HX2.out _ hg).mono ?_);rintro e w1 ⟨rfl,hb1⟩)) | (go_at_call 82;((with_reducible refine (is_as _ _ _ HX3.out _ (hg.below hb1 (Nat.le_refl _))).mono ?_);rintro e w2 ⟨rfl,hb2⟩)))
          go_ret3
          exact ⟨HI.out _ _ _ rfl,hb1.trans (hb2.mono hb1.size)⟩
        | false =>
         have hx2:isB (s[a+2].toNat:Int) 8=false:=(pB_hex _).trans hx
         have HI:=Lib.hid (charPost_none (r:=s.data.toList.drop a) (by rw [hch3,if_neg (by simp [hx])]) a)
         have HX2:=Lib.hid hx2
         clear hch3 hx hx2
         go_enter Tryz.func53,Tryz.ntmps53
         go_wp2_with (first | (go_at_call 64;refine (indexByte_as _ _ _ HIX.out _).mono ?_;rintro e w' ⟨rfl,rfl⟩) | (go_at_call 82;((with_reducible refine (is_as _ _ _ HX2.out _ hg).mono ?_);rintro e w1 ⟨rfl,hb1⟩)))
         go_ret3
         exact ⟨HI.out _ _ _ rfl,hb1⟩
       ·have HI:=Lib.hid (charPost_none (r:=s.data.toList.drop a) (by
         rw [hch2,Lx.hexes.eq_def]
         have hl:(s.data.toList.drop (a+2)).length < 2:=by rw [List.length_drop,← Lib.size_eq];omega
         rcases hd:s.data.toList.drop (a+2) with _ | ⟨x,_ | ⟨y,l⟩⟩
         ·rfl
         ·rfl
         ·rw [hd] at hl;simp at hl;omega) a)
        have j3:(s.size:Int)≤(a:Int)+3:=by omega
        clear hch2 c1 c0 h3
        go_enter Tryz.func53,Tryz.ntmps53
        go_wp2_with (go_at_call 64;refine (indexByte_as _ _ _ HIX.out _).mono ?_;rintro e w' ⟨rfl,rfl⟩)
        go_ret3
        exact ⟨HI.out _ _ _ rfl,Below.refl _ _⟩
      ·have f3:((s[a+1].toNat:Int) != 120)=true:=by
        rw [bne_iff_ne];intro h;exact h120 (UInt8.toNat_inj.1 (by simpa using (by omega:s[a+1].toNat=120)))
       have HI:=Lib.hid (charPost_none (r:=s.data.toList.drop a) (by rw [hch2,if_pos h120]) a)
       clear hch2 h120 c0 c1
       go_enter Tryz.func53,Tryz.ntmps53
       go_wp2_with (go_at_call 64;refine (indexByte_as _ _ _ HIX.out _).mono ?_;rintro e w' ⟨rfl,rfl⟩)
       go_ret3
       exact ⟨HI.out _ _ _ rfl,Below.refl _ _⟩
     ·have hix:Lib.indexByte [110,116,114,92,34,39] ((s[a+1].toNat:Int).toNat.toUInt8)=(i:Int):=by simpa using hi
      have HIX:=Lib.hid hix
      have hv:∃ v:UInt8,Lx.esc s[a+1] (s.data.toList.drop (a+2))=some (v,2)∧(#[10,9,13,92,34,39]:Array UInt8)[i]?=some v:=by
       rcases hcs with ⟨h,rfl⟩ | ⟨h,rfl⟩ | ⟨h,rfl⟩ | ⟨h,rfl⟩ | ⟨h,rfl⟩ | ⟨h,rfl⟩ <;> rw [h] <;> exact ⟨_,rfl,rfl⟩
      obtain ⟨v,hv1,hv2⟩:=hv
      have HI:=Lib.hid (charPost_some (r:=s.data.toList.drop a) (c:=v) (k:=2) (by rw [hch,hv1]) a)
      have i0:(0:Int)≤(i:Int):=by omega
      have i6:(i:Int) < 6:=by omega
      clear hi hix hcs hv1 hch c0 c1 hn
      go_enter Tryz.func53,Tryz.ntmps53
      go_wp2_with (go_at_call 64;refine (indexByte_as _ _ _ HIX.out _).mono ?_;rintro e w' ⟨rfl,rfl⟩)
      go_ret3
      refine ⟨HI.out _ ?_,Below.refl _ _⟩
      have hvi:(⟨#[10,9,13,92,34,39]⟩:ByteArray)[i]'(show i < 6 from hi6)=v:=by
       have h:=hv2
       rw [Array.getElem?_eq_getElem (by simpa using hi6)] at h
       exact Option.some.inj h
      simp
      exact congrArg (fun x:UInt8=>(x.toNat:Int)) hvi
    ·have HI:=Lib.hid (charPost_none (r:=s.data.toList.drop a) (by
      have:s.data.toList.drop (a+1)=[]:=List.drop_eq_nil_of_le (by rw [← Lib.size_eq];omega)
      rw [d1,this,Lx.char,Lx.charC,if_neg c0,if_neg (by simp [c1]),Lx.escT]) a)
     have h2':(s.size:Int)≤(a:Int)+1:=by omega
     clear d1 bad c0 c1 h2
     go_enter Tryz.func53,Tryz.ntmps53
     go_wp2
     go_ret3
     exact ⟨HI.out _ _ _ rfl,Below.refl _ _⟩
   ·have f2:((s[a].toNat:Int) != 92)=true:=by
     rw [bne_iff_ne];intro h;exact c1 (UInt8.toNat_inj.1 (by simpa using (by omega:s[a].toNat=92)))
    have HI:=Lib.hid (charPost_some (r:=s.data.toList.drop a) (c:=s[a]) (k:=1) (by rw [d1,Lx.char,Lx.charC,if_neg c0,if_pos c1]) a)
    clear d1 bad c0 c1
    go_enter Tryz.func53,Tryz.ntmps53
    go_wp2
    go_ret3
    exact ⟨HI.out _ (by simp),Below.refl _ _⟩
 ·have HI:=Lib.hid (charPost_none (r:=s.data.toList.drop a) (by rw [List.drop_eq_nil_of_le (by rw [← Lib.size_eq];omega)];rfl) a)
  clear bad
  go_enter Tryz.func53,Tryz.ntmps53
  go_wp2
  go_ret3
  exact ⟨HI.out _ _ _ rfl,Below.refl _ _⟩
end Go.Proofs.YtadgddipkbdnbaaGreatDoor
namespace Go.Proofs.YtadgddipkbdnbaaGreatDoor.Q
open Go.RowKit Go.Proofs.YtadgddipkbdnbaaGreatDoor YtadgddipkbdnbaaGreatDoorW.PrintWords YtadgddipkbdnbaaGreatDoorW.PrintLast
def hexI (c:UInt8):Int:=if Lx.isHex c then (Lx.hexVal c:Int) else -1
theorem hex_f:∀ c:UInt8,rzhex.f 2 (c.toNat:Int)=some (hexI c):=u8_all _ (by decide +kernel)
theorem hexI_ge:∀ c:UInt8,-1≤hexI c∧hexI c < 16∧(0≤hexI c↔Lx.isHex c=true)∧(0≤hexI c→hexI c=(Lx.hexVal c:Int)):=u8_all _ (by decide +kernel)
theorem hex_any (c:UInt8) (v:Int) (h:hexI c=v) (w:World):Calls Tryz.prog 87 #[.int .u8 (c.toNat:Int)] w fun e w'=>e=.returned (.int .i64 v)∧Drawn0 w w' :=
 rzhex.calls 2 _ _ w (by rw [hex_f,h])
theorem hex_same (c:UInt8) (v:Int) (h:hexI c=v) (w:World):∀ n,Calls Tryz.prog 87 #[.int .u8 (c.toNat:Int)] (w.drewN n) fun e w'=>e=.returned (.int .i64 v)∧∃ m,w'=w.drewN m:=by
 intro n
 refine (hex_any c v h _).mono ?_
 rintro e w' ⟨rfl,m,rfl⟩
 exact ⟨rfl,n+m,by rw [World.drewN_drewN]⟩
def CharR (l:List UInt8) (e:Ending):Prop:=e=.returned (match Lx.char l with | some (c,k)=>.agg #[.int .u8 (c.toNat:Int),.int .i64 (k:Int)] | none=>.agg #[.int .u8 0,.int .i64 0])
theorem charR_none {l:List UInt8} (h:Lx.char l=none):CharR l (.returned (.agg #[.int .u8 0,.int .i64 0])):=by unfold CharR;rw [h]
theorem charR_some {l:List UInt8} {c:UInt8} {k:Nat} (h:Lx.char l=some (c,k)) {v n:Int} (hv:v=c.toNat) (hn:n=k):CharR l (.returned (.agg #[.int .u8 v,.int .i64 n])):=by unfold CharR;rw [h,hv,hn]
theorem ne_of_u8 {c:UInt8} {n:Nat} {k:UInt8} (hk:k.toNat=n) (h:¬ c=k):((c.toNat:Int) == (n:Int))=false:=by rw [beq_eq_false_iff_ne];exact fun e=>h (UInt8.toNat_inj.1 (by omega))
theorem two_heap (w:World) (n:Nat) (x y u v:Value) (T:TypeId):((((w.alloc (.cells #[x,y] T)).drewN n).setCell ⟨w.heap.size,0,none⟩ u).setCell ⟨w.heap.size,1,none⟩ v).heap[w.heap.size]?=some (.cells #[u,v] T (0,0)) :=
 blk_put (cs:=#[u,y]) (blk_put (cs:=#[x,y]) (heap_alloc_new w _) 0 u rfl) 1 v rfl
theorem two_below (w:World) (n:Nat) (o:Obj) (u v:Value):Below w.heap.size w ((((w.alloc o).drewN n).setCell ⟨w.heap.size,0,none⟩ u).setCell ⟨w.heap.size,1,none⟩ v) :=
 ((pw_below_drewN ((Below.refl _ _).alloc (Nat.le_refl _) _) n).setCell (Nat.le_refl _) _).setCell (Nat.le_refl _) _
set_option maxRecDepth 100000 in
set_option maxHeartbeats 8000000 in
theorem refchar_hex (s:ByteArray) (a:Nat) (w:World) (hs:s.size≤140737488355328) (ha:a < 1000000000000000000) (h1:a < s.size) (h2:a+1 < s.size) (h92:s[a]=92) (hd:s[a+1]=120) :
  Calls Tryz.prog 86 #[.string s,.int .i64 (a:Int)] w fun e w'=>CharR (s.data.toList.drop a) e∧Below w.heap.size w w':=by
 have d1:=drop_at s a h1
 have d2:=drop_at s (a+1) h2
 have b0:((s[a].toNat:Int) == 0)=false:=by rw [h92];rfl
 have b10:((s[a].toNat:Int) == 10)=false:=by rw [h92];rfl
 have b92:((s[a].toNat:Int) != 92)=false:=by rw [h92];rfl
 have e110:((s[a+1].toNat:Int) == 110)=false:=by rw [hd];rfl
 have e116:((s[a+1].toNat:Int) == 116)=false:=by rw [hd];rfl
 have e114:((s[a+1].toNat:Int) == 114)=false:=by rw [hd];rfl
 have e92:((s[a+1].toNat:Int) == 92)=false:=by rw [hd];rfl
 have e34:((s[a+1].toNat:Int) == 34)=false:=by rw [hd];rfl
 have e39:((s[a+1].toNat:Int) == 39)=false:=by rw [hd];rfl
 have e120:((s[a+1].toNat:Int) == 120)=true:=by rw [hd];rfl
 have hxe:Lx.char (s.data.toList.drop a)=Lx.hexes (s.data.toList.drop (a+2)):=by
  rw [d1,d2];simp [Lx.char,Lx.charC,Lx.escT,Lx.esc,h92,hd]
 have hw3:IntKind.i64.wrap ((a:Int)+3)=(a:Int)+3:=IntWalk.i64_in _ (by omega)
 have hw2:IntKind.i64.wrap ((a:Int)+2)=(a:Int)+2:=IntWalk.i64_in _ (by omega)
 by_cases h3:a+3 < s.size
 ·have hd3:decide ((a:Int)+3 < (s.size:Int))=true:=decide_eq_true (by omega)
  have z2:(0≤(a:Int)+2)=True:=eq_true (by omega)
  have z3:(0≤(a:Int)+3)=True:=eq_true (by omega)
  have y2:((a:Int)+2 < (s.size:Int))=True:=eq_true (by omega)
  have y3:((a:Int)+3 < (s.size:Int))=True:=eq_true (by omega)
  have t2:((a:Int)+2).toNat=a+2:=by omega
  have t3:((a:Int)+3).toNat=a+3:=by omega
  have d3:=drop_at s (a+2) (by omega)
  have d4:=drop_at s (a+3) h3
  obtain ⟨r1,r2,r3,r4⟩:=hexI_ge s[a+2]
  obtain ⟨q1,q2,q3,q4⟩:=hexI_ge s[a+3]
  have hy2:=hex_any s[a+2] _ rfl
  have hy3:=hex_any s[a+3] _ rfl
  have hx2:=hex_same s[a+2] _ rfl
  have hx3:=hex_same s[a+3] _ rfl
  rw [d3,d4] at hxe
  obtain ⟨v2,hv2⟩:∃ v,v=hexI s[a+2]:=⟨_,rfl⟩
  obtain ⟨v3,hv3⟩:∃ v,v=hexI s[a+3]:=⟨_,rfl⟩
  rw [← hv2] at r1 r2 r3 r4 hx2 hy2
  rw [← hv3] at q1 q2 q3 q4 hx3 hy3
  have hw4:IntKind.i64.wrap (v2+v3)=v2+v3:=IntWalk.i64_in _ (by omega)
  have hw5:IntKind.i64.wrap (16 * v2)=16 * v2:=IntWalk.i64_in _ (by omega)
  have hw6:IntKind.i64.wrap (16 * v2+v3)=16 * v2+v3:=IntWalk.i64_in _ (by omega)
  by_cases g2:0≤v2
  ·have p2:decide (0≤v2)=true:=decide_eq_true g2
   by_cases g3:0≤v3
   ·have p3:decide (0≤v3)=true:=decide_eq_true g3
    by_cases g4:0 < v2+v3
    ·have p4:decide (0 < v2+v3)=true:=decide_eq_true g4
     have hch:Lx.char (s.data.toList.drop a)=some (UInt8.ofNat (16 * Lx.hexVal s[a+2]+Lx.hexVal s[a+3]),4):=by
      rw [hxe]
      simp only [Lx.hexes]
      rw [if_pos ⟨r3.1 g2,q3.1 g3,by have:=r4 g2;have:=q4 g3;omega⟩]
     have hval:((16 * v2+v3) % 256:Int)=((UInt8.ofNat (16 * Lx.hexVal s[a+2]+Lx.hexVal s[a+3])).toNat:Int):=by
      have:=r4 g2;have:=q4 g3
      rw [UInt8.toNat_ofNat']
      omega
     have HC:=Lib.hid hch
     have HV:=Lib.hid hval
     clear hch hval hxe d1 d2 d3 d4 h92 hd r3 r4 q3 q4 hv2 hv3
     go_enter Tryz.func86,Tryz.ntmps86
     go_wp2
     go_quiet (first | (go_at_call 87;with_reducible exact hx2 _ _) | (go_at_call 87;with_reducible exact hx3 _ _))
     go_wp2
     go_region_with (first | (go_at_call 87;with_reducible refine (hy2 _).mono ?_;rintro e w' ⟨rfl,⟨nd,rfl⟩⟩) | (go_at_call 87;with_reducible refine (hy3 _).mono ?_;rintro e w' ⟨rfl,⟨nd,rfl⟩⟩))
     all_goals (go_wp2;(refine bodyPost_ret (results_cell_row rfl _ _ w.heap.size 113 _ (0,0) _ rfl (two_heap w _ _ _ _ _ _) Tryz.underlying113 rfl (by kernel_rfl)) rfl ?_);exact ⟨charR_some HC.out HV.out rfl,two_below _ _ _ _ _⟩)
    ·have p4:decide (0 < v2+v3)=false:=decide_eq_false g4
     have hch:Lx.char (s.data.toList.drop a)=none:=by
      rw [hxe]
      simp only [Lx.hexes]
      rw [if_neg (fun h=>g4 (by have:=r4 g2;have:=q4 g3;have:=h.2.2;omega))]
     have HC:=Lib.hid hch
     clear hch hxe d1 d2 d3 d4 h92 hd r3 r4 q3 q4 hv2 hv3
     go_enter Tryz.func86,Tryz.ntmps86
     go_wp2
     go_quiet (first | (go_at_call 87;with_reducible exact hx2 _ _) | (go_at_call 87;with_reducible exact hx3 _ _))
     go_wp2
     refine bodyPost_ret (results_cell_row rfl _ _ w.heap.size 113 _ (0,0) _ rfl (two_heap w _ _ _ _ _ _) Tryz.underlying113 rfl (by kernel_rfl)) rfl ?_
     exact ⟨charR_none HC.out,two_below _ _ _ _ _⟩
   ·have p3:decide (0≤v3)=false:=decide_eq_false g3
    have hch:Lx.char (s.data.toList.drop a)=none:=by
     rw [hxe]
     simp only [Lx.hexes]
     rw [if_neg (fun h=>g3 (q3.2 h.2.1))]
    have HC:=Lib.hid hch
    clear hch hxe d1 d2 d3 d4 h92 hd r3 r4 q3 q4 hv2 hv3
    go_enter Tryz.func86,Tryz.ntmps86
    go_wp2
    go_quiet (first | (go_at_call 87;with_reducible exact hx2 _ _) | (go_at_call 87;with_reducible exact hx3 _ _))
    go_wp2
    refine bodyPost_ret (results_cell_row rfl _ _ w.heap.size 113 _ (0,0) _ rfl (two_heap w _ _ _ _ _ _) Tryz.underlying113 rfl (by kernel_rfl)) rfl ?_
    exact ⟨charR_none HC.out,two_below _ _ _ _ _⟩
  ·have p2:decide (0≤v2)=false:=decide_eq_false g2
   have hch:Lx.char (s.data.toList.drop a)=none:=by
    rw [hxe]
    simp only [Lx.hexes]
    rw [if_neg (fun h=>g2 (r3.2 h.1))]
   have HC:=Lib.hid hch
   clear hch hxe d1 d2 d3 d4 h92 hd r3 r4 q3 q4 hv2 hv3
   go_enter Tryz.func86,Tryz.ntmps86
   go_wp2
   go_quiet (first | (go_at_call 87;with_reducible exact hx2 _ _) | (go_at_call 87;with_reducible exact hx3 _ _))
   go_wp2
   refine bodyPost_ret (results_cell_row rfl _ _ w.heap.size 113 _ (0,0) _ rfl (two_heap w _ _ _ _ _ _) Tryz.underlying113 rfl (by kernel_rfl)) rfl ?_
   exact ⟨charR_none HC.out,two_below _ _ _ _ _⟩
 ·have hd3:decide ((a:Int)+3 < (s.size:Int))=false:=decide_eq_false (by omega)
  have hch:Lx.char (s.data.toList.drop a)=none:=by
   rw [hxe]
   rcases (by omega:a+2=s.size∨a+3=s.size) with h | h
   ·rw [List.drop_eq_nil_of_le (by rw [← Lib.size_eq];omega)];rfl
   ·rw [drop_at s (a+2) (by omega),List.drop_eq_nil_of_le (by rw [← Lib.size_eq];omega)];rfl
  have HC:=Lib.hid hch
  clear hch hxe d1 d2 h92 hd
  go_enter Tryz.func86,Tryz.ntmps86
  go_wp2
  go_quiet (fail)
  go_wp2
  refine bodyPost_ret (results_cell_row rfl _ _ w.heap.size 113 _ (0,0) _ rfl (two_heap w _ _ _ _ _ _) Tryz.underlying113 rfl (by kernel_rfl)) rfl ?_
  exact ⟨charR_none HC.out,two_below _ _ _ _ _⟩
set_option maxRecDepth 100000 in
set_option maxHeartbeats 8000000 in
theorem refchar_any (s:ByteArray) (a:Nat) (w:World) (hs:s.size≤140737488355328) (ha:a < 1000000000000000000) :
  Calls Tryz.prog 86 #[.string s,.int .i64 (a:Int)] w fun e w'=>CharR (s.data.toList.drop a) e∧Below w.heap.size w w':=by
 by_cases h1:a < s.size
 ·have d1:=drop_at s a h1
  by_cases h0:s[a]=0
  ·have b0:((s[a].toNat:Int) == 0)=true:=by rw [h0];rfl
   have hch:Lx.char (s.data.toList.drop a)=none:=by rw [d1];simp [Lx.char,Lx.charC,h0]
   have HC:=Lib.hid hch
   clear hch d1 h0
   go_enter Tryz.func86,Tryz.ntmps86
   go_wp2
   refine bodyPost_ret (results_cell_row rfl _ _ w.heap.size 113 _ (0,0) _ rfl (heap_alloc_new w _) Tryz.underlying113 rfl (by kernel_rfl)) rfl ?_
   exact ⟨charR_none HC.out,(Below.refl _ _).alloc (Nat.le_refl _) _⟩
  have b0:((s[a].toNat:Int) == 0)=false:=ne_of_u8 (n:=0) rfl h0
  by_cases h10:s[a]=10
  ·have b10:((s[a].toNat:Int) == 10)=true:=by rw [h10];rfl
   have hch:Lx.char (s.data.toList.drop a)=none:=by rw [d1];simp [Lx.char,Lx.charC,h10]
   have HC:=Lib.hid hch
   clear hch d1 h0 h10
   go_enter Tryz.func86,Tryz.ntmps86
   go_wp2
   refine bodyPost_ret (results_cell_row rfl _ _ w.heap.size 113 _ (0,0) _ rfl (heap_alloc_new w _) Tryz.underlying113 rfl (by kernel_rfl)) rfl ?_
   exact ⟨charR_none HC.out,(Below.refl _ _).alloc (Nat.le_refl _) _⟩
  have b10:((s[a].toNat:Int) == 10)=false:=ne_of_u8 (n:=10) rfl h10
  by_cases h92:s[a]=92
  ·have b92:((s[a].toNat:Int) != 92)=false:=by rw [h92];rfl
   by_cases h2:a+1 < s.size
   ·have d2:=drop_at s (a+1) h2
    by_cases hd:s[a+1]=110
    ·exact (by
     have hch:Lx.char (s.data.toList.drop a)=some (10,2):=by rw [d1];simp [Lx.char,Lx.charC,Lx.escT,Lx.esc,h92,d2,hd]
     have e110:((s[a+1].toNat:Int) == 110)=true:=by rw [hd];rfl
     have e116:((s[a+1].toNat:Int) == 116)=false:=by rw [hd];rfl
     have e114:((s[a+1].toNat:Int) == 114)=false:=by rw [hd];rfl
     have e92:((s[a+1].toNat:Int) == 92)=false:=by rw [hd];rfl
     have e34:((s[a+1].toNat:Int) == 34)=false:=by rw [hd];rfl
     have e39:((s[a+1].toNat:Int) == 39)=false:=by rw [hd];rfl
     have e120:((s[a+1].toNat:Int) == 120)=false:=by rw [hd];rfl
     have HC:=Lib.hid hch
     have HD:=Lib.hid hd
     clear hch d1 d2 hd h0 h10 h92
     go_enter Tryz.func86,Tryz.ntmps86
     go_wp2
     refine bodyPost_ret (results_cell_row rfl _ _ w.heap.size 113 _ (0,0) _ rfl (heap_alloc_new w _) Tryz.underlying113 rfl (by kernel_rfl)) rfl ?_
     exact ⟨charR_some HC.out rfl rfl,(Below.refl _ _).alloc (Nat.le_refl _) _⟩)
    have n110:¬ s[a+1]=110:=hd
    have e110:((s[a+1].toNat:Int) == 110)=false:=by rw [beq_eq_false_iff_ne];exact fun h=>hd (UInt8.toNat_inj.1 (by have:(110:UInt8).toNat=110:=rfl;omega))
    clear hd
    by_cases hd:s[a+1]=116
    ·exact (by
     have hch:Lx.char (s.data.toList.drop a)=some (9,2):=by rw [d1];simp [Lx.char,Lx.charC,Lx.escT,Lx.esc,h92,d2,hd]
     have e110:((s[a+1].toNat:Int) == 110)=false:=by rw [hd];rfl
     have e116:((s[a+1].toNat:Int) == 116)=true:=by rw [hd];rfl
     have e114:((s[a+1].toNat:Int) == 114)=false:=by rw [hd];rfl
     have e92:((s[a+1].toNat:Int) == 92)=false:=by rw [hd];rfl
     have e34:((s[a+1].toNat:Int) == 34)=false:=by rw [hd];rfl
     have e39:((s[a+1].toNat:Int) == 39)=false:=by rw [hd];rfl
     have e120:((s[a+1].toNat:Int) == 120)=false:=by rw [hd];rfl
     have HC:=Lib.hid hch
     have HD:=Lib.hid hd
     clear hch d1 d2 hd h0 h10 h92
     go_enter Tryz.func86,Tryz.ntmps86
     go_wp2
     refine bodyPost_ret (results_cell_row rfl _ _ w.heap.size 113 _ (0,0) _ rfl (heap_alloc_new w _) Tryz.underlying113 rfl (by kernel_rfl)) rfl ?_
     exact ⟨charR_some HC.out rfl rfl,(Below.refl _ _).alloc (Nat.le_refl _) _⟩)
    have n116:¬ s[a+1]=116:=hd
    have e116:((s[a+1].toNat:Int) == 116)=false:=by rw [beq_eq_false_iff_ne];exact fun h=>hd (UInt8.toNat_inj.1 (by have:(116:UInt8).toNat=116:=rfl;omega))
    clear hd
    by_cases hd:s[a+1]=114
    ·exact (by
     have hch:Lx.char (s.data.toList.drop a)=some (13,2):=by rw [d1];simp [Lx.char,Lx.charC,Lx.escT,Lx.esc,h92,d2,hd]
     have e110:((s[a+1].toNat:Int) == 110)=false:=by rw [hd];rfl
     have e116:((s[a+1].toNat:Int) == 116)=false:=by rw [hd];rfl
     have e114:((s[a+1].toNat:Int) == 114)=true:=by rw [hd];rfl
     have e92:((s[a+1].toNat:Int) == 92)=false:=by rw [hd];rfl
     have e34:((s[a+1].toNat:Int) == 34)=false:=by rw [hd];rfl
     have e39:((s[a+1].toNat:Int) == 39)=false:=by rw [hd];rfl
     have e120:((s[a+1].toNat:Int) == 120)=false:=by rw [hd];rfl
     have HC:=Lib.hid hch
     have HD:=Lib.hid hd
     clear hch d1 d2 hd h0 h10 h92
     go_enter Tryz.func86,Tryz.ntmps86
     go_wp2
     refine bodyPost_ret (results_cell_row rfl _ _ w.heap.size 113 _ (0,0) _ rfl (heap_alloc_new w _) Tryz.underlying113 rfl (by kernel_rfl)) rfl ?_
     exact ⟨charR_some HC.out rfl rfl,(Below.refl _ _).alloc (Nat.le_refl _) _⟩)
    have n114:¬ s[a+1]=114:=hd
    have e114:((s[a+1].toNat:Int) == 114)=false:=by rw [beq_eq_false_iff_ne];exact fun h=>hd (UInt8.toNat_inj.1 (by have:(114:UInt8).toNat=114:=rfl;omega))
    clear hd
    by_cases hd:s[a+1]=92
    ·exact (by
     have hch:Lx.char (s.data.toList.drop a)=some (92,2):=by rw [d1];simp [Lx.char,Lx.charC,Lx.escT,Lx.esc,h92,d2,hd]
     have e110:((s[a+1].toNat:Int) == 110)=false:=by rw [hd];rfl
     have e116:((s[a+1].toNat:Int) == 116)=false:=by rw [hd];rfl
     have e114:((s[a+1].toNat:Int) == 114)=false:=by rw [hd];rfl
     have e92:((s[a+1].toNat:Int) == 92)=true:=by rw [hd];rfl
     have e34:((s[a+1].toNat:Int) == 34)=false:=by rw [hd];rfl
     have e39:((s[a+1].toNat:Int) == 39)=false:=by rw [hd];rfl
     have e120:((s[a+1].toNat:Int) == 120)=false:=by rw [hd];rfl
     have HC:=Lib.hid hch
     have HD:=Lib.hid hd
     clear hch d1 d2 hd h0 h10 h92
     go_enter Tryz.func86,Tryz.ntmps86
     go_wp2
     refine bodyPost_ret (results_cell_row rfl _ _ w.heap.size 113 _ (0,0) _ rfl (heap_alloc_new w _) Tryz.underlying113 rfl (by kernel_rfl)) rfl ?_
     exact ⟨charR_some HC.out (by rw [HD.out]) rfl,(Below.refl _ _).alloc (Nat.le_refl _) _⟩)
    have n92:¬ s[a+1]=92:=hd
    have e92:((s[a+1].toNat:Int) == 92)=false:=by rw [beq_eq_false_iff_ne];exact fun h=>hd (UInt8.toNat_inj.1 (by have:(92:UInt8).toNat=92:=rfl;omega))
    clear hd
    by_cases hd:s[a+1]=34
    ·exact (by
     have hch:Lx.char (s.data.toList.drop a)=some (34,2):=by rw [d1];simp [Lx.char,Lx.charC,Lx.escT,Lx.esc,h92,d2,hd]
     have e110:((s[a+1].toNat:Int) == 110)=false:=by rw [hd];rfl
     have e116:((s[a+1].toNat:Int) == 116)=false:=by rw [hd];rfl
     have e114:((s[a+1].toNat:Int) == 114)=false:=by rw [hd];rfl
     have e92:((s[a+1].toNat:Int) == 92)=false:=by rw [hd];rfl
     have e34:((s[a+1].toNat:Int) == 34)=true:=by rw [hd];rfl
     have e39:((s[a+1].toNat:Int) == 39)=false:=by rw [hd];rfl
     have e120:((s[a+1].toNat:Int) == 120)=false:=by rw [hd];rfl
     have HC:=Lib.hid hch
     have HD:=Lib.hid hd
     clear hch d1 d2 hd h0 h10 h92
     go_enter Tryz.func86,Tryz.ntmps86
     go_wp2
     refine bodyPost_ret (results_cell_row rfl _ _ w.heap.size 113 _ (0,0) _ rfl (heap_alloc_new w _) Tryz.underlying113 rfl (by kernel_rfl)) rfl ?_
     exact ⟨charR_some HC.out (by rw [HD.out]) rfl,(Below.refl _ _).alloc (Nat.le_refl _) _⟩)
    have n34:¬ s[a+1]=34:=hd
    have e34:((s[a+1].toNat:Int) == 34)=false:=by rw [beq_eq_false_iff_ne];exact fun h=>hd (UInt8.toNat_inj.1 (by have:(34:UInt8).toNat=34:=rfl;omega))
    clear hd
    by_cases hd:s[a+1]=39
    ·exact (by
     have hch:Lx.char (s.data.toList.drop a)=some (39,2):=by rw [d1];simp [Lx.char,Lx.charC,Lx.escT,Lx.esc,h92,d2,hd]
     have e110:((s[a+1].toNat:Int) == 110)=false:=by rw [hd];rfl
     have e116:((s[a+1].toNat:Int) == 116)=false:=by rw [hd];rfl
     have e114:((s[a+1].toNat:Int) == 114)=false:=by rw [hd];rfl
     have e92:((s[a+1].toNat:Int) == 92)=false:=by rw [hd];rfl
     have e34:((s[a+1].toNat:Int) == 34)=false:=by rw [hd];rfl
     have e39:((s[a+1].toNat:Int) == 39)=true:=by rw [hd];rfl
     have e120:((s[a+1].toNat:Int) == 120)=false:=by rw [hd];rfl
     have HC:=Lib.hid hch
     have HD:=Lib.hid hd
     clear hch d1 d2 hd h0 h10 h92
     go_enter Tryz.func86,Tryz.ntmps86
     go_wp2
     refine bodyPost_ret (results_cell_row rfl _ _ w.heap.size 113 _ (0,0) _ rfl (heap_alloc_new w _) Tryz.underlying113 rfl (by kernel_rfl)) rfl ?_
     exact ⟨charR_some HC.out (by rw [HD.out]) rfl,(Below.refl _ _).alloc (Nat.le_refl _) _⟩)
    have n39:¬ s[a+1]=39:=hd
    have e39:((s[a+1].toNat:Int) == 39)=false:=by rw [beq_eq_false_iff_ne];exact fun h=>hd (UInt8.toNat_inj.1 (by have:(39:UInt8).toNat=39:=rfl;omega))
    clear hd
    have hgo:True:=trivial
    by_cases hd:s[a+1]=120
    ·exact refchar_hex s a w hs ha h1 h2 h92 hd
    ·have e120:((s[a+1].toNat:Int) == 120)=false:=ne_of_u8 (n:=120) rfl hd
     have hch:Lx.char (s.data.toList.drop a)=none:=by rw [d1];simp [Lx.char,Lx.charC,Lx.escT,Lx.esc,h92,d2,n110,n116,n114,n92,n34,n39,hd]
     have HC:=Lib.hid hch
     clear hch d1 d2 h0 h10 h92 n110 n116 n114 n92 n34 n39 hd
     go_enter Tryz.func86,Tryz.ntmps86
     go_wp2
     refine bodyPost_ret (results_cell_row rfl _ _ w.heap.size 113 _ (0,0) _ rfl (heap_alloc_new w _) Tryz.underlying113 rfl (by kernel_rfl)) rfl ?_
     exact ⟨charR_none HC.out,(Below.refl _ _).alloc (Nat.le_refl _) _⟩
   ·have hch:Lx.char (s.data.toList.drop a)=none:=by
     rw [d1,List.drop_eq_nil_of_le (by rw [← Lib.size_eq];omega)]
     simp [Lx.char,Lx.charC,h92,Lx.escT]
    have HC:=Lib.hid hch
    clear hch d1 h0 h10 h92
    go_enter Tryz.func86,Tryz.ntmps86
    go_wp2
    refine bodyPost_ret (results_cell_row rfl _ _ w.heap.size 113 _ (0,0) _ rfl (heap_alloc_new w _) Tryz.underlying113 rfl (by kernel_rfl)) rfl ?_
    exact ⟨charR_none HC.out,(Below.refl _ _).alloc (Nat.le_refl _) _⟩
  ·have b92:((s[a].toNat:Int) != 92)=true:=by have:=ne_of_u8 (n:=92) rfl h92;simp only [bne,Bool.not_eq_true'];exact this
   have hch:Lx.char (s.data.toList.drop a)=some (s[a],1):=by rw [d1];simp [Lx.char,Lx.charC,h0,h10,h92]
   have HC:=Lib.hid hch
   clear hch d1 h0 h10 h92
   go_enter Tryz.func86,Tryz.ntmps86
   go_wp2
   refine bodyPost_ret (results_cell_row rfl _ _ w.heap.size 113 _ (0,0) _ rfl (heap_alloc_new w _) Tryz.underlying113 rfl (by kernel_rfl)) rfl ?_
   exact ⟨charR_some HC.out rfl rfl,(Below.refl _ _).alloc (Nat.le_refl _) _⟩
 ·have hch:Lx.char (s.data.toList.drop a)=none:=by rw [List.drop_eq_nil_of_le (by rw [← Lib.size_eq];omega)];rfl
  have HC:=Lib.hid hch
  clear hch
  go_enter Tryz.func86,Tryz.ntmps86
  go_wp2
  refine bodyPost_ret (results_cell_row rfl _ _ w.heap.size 113 _ (0,0) _ rfl (heap_alloc_new w _) Tryz.underlying113 rfl (by kernel_rfl)) rfl ?_
  exact ⟨charR_none HC.out,(Below.refl _ _).alloc (Nat.le_refl _) _⟩
theorem rzchar.calls (a0:ByteArray) (a1:Int) (r1 r2:Int) (w:World) (h:rzchar.f a0 a1=some (r1,r2)) :
  Calls Tryz.prog 86 #[.string a0,.int .i64 a1] w fun e w'=>e=.returned (.agg #[.int .u8 r1,.int .i64 r2])∧Below w.heap.size w w':=by
 unfold rzchar.f at h
 split at h
 ·rename_i hc
  obtain ⟨h1,h2,h3⟩:=hc
  obtain ⟨n,rfl⟩:=Int.eq_ofNat_of_zero_le h2
  rw [Int.toNat_natCast] at h
  refine (refchar_any a0 n w h1 (by omega)).mono ?_
  rintro e w' ⟨he,hb⟩
  refine ⟨?_,hb⟩
  unfold CharR at he
  rw [he]
  cases hch:Lx.char (a0.data.toList.drop n) with
  | none=>rw [hch] at h;cases h;rfl
  | some p =>
   obtain ⟨c,k⟩:=p
   rw [hch] at h
   cases h
   rfl
 ·cases h
end Go.Proofs.YtadgddipkbdnbaaGreatDoor.Q
