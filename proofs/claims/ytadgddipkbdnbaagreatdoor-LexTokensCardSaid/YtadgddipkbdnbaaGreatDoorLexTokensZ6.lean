/- Parts of the proof that the program's token functions return what the specification's return. -/
import Derived.Test.YtadgddipkbdnbaaGreatDoorLexTokensZ3
import Derived.Test.YtadgddipkbdnbaaGreatDoorLexTokensZ4
import Derived.Test.YtadgddipkbdnbaaGreatDoorLexTokensZ5
import Derived.Lib.ConvBytes
import Derived.BigCall
import Derived.BigGuard
set_option linter.unusedVariables false
set_option linter.unusedSimpArgs false
namespace Go.Proofs.YtadgddipkbdnbaaGreatDoor
open Go.RowKit
def BadPu (e:Ending):Prop:=∃ v c:Int,(c=1∨c=2)∧e=.returned (.tuple #[.int .u64 v,.iface 148 (.int .i64 c)])
def PuPost (base lim:Nat) (bs:List UInt8) (e:Ending):Prop :=
 match Lx.valF base 0 bs with
 | none=>BadPu e
 | some n=>if n < lim then e=.returned (.tuple #[.int .u64 (n:Int),.nilIface]) else BadPu e
theorem valF_ge (base:Nat) (hb:1≤base):∀ (l:List UInt8) (a n:Nat),Lx.valF base a l=some n→a≤n
 | [],a,n,h=>by simp [Lx.valF] at h;omega
 | c :: l,a,n,h=>by
  rw [Lx.valF] at h
  split at h
  ·have:=valF_ge base hb l _ n h
   have:a≤base * a:=Nat.le_mul_of_pos_left a hb
   omega
  ·cases h
theorem puBad (base lim:Nat) (bs:List UInt8) (e:Ending) (h:∀ n,Lx.valF base 0 bs=some n→lim≤n) (hb:BadPu e):PuPost base lim bs e:=by
 unfold PuPost
 split
 ·exact hb
 ·rename_i n hn
  rw [if_neg (by have:=h n hn;omega)]
  exact hb
theorem puBad_val (base lim acc d:Nat) (bs l:List UInt8) (c:UInt8) (hb:1≤base) (he:Lx.valF base 0 bs=Lx.valF base acc (c :: l)) (h:lim≤base * acc+d) (hd:Lx.hexVal c=d) (e:Ending) (hbad:BadPu e):PuPost base lim bs e:=by
 refine puBad base lim bs e (fun n hn=>?_) hbad
 rw [he,Lx.valF] at hn
 split at hn
 ·have:=valF_ge base hb l _ n hn
  omega
 ·cases hn
theorem puBad_dig (base lim acc d:Nat) (bs l:List UInt8) (c:UInt8) (he:Lx.valF base 0 bs=Lx.valF base acc (c :: l)) (hd:Lx.hexVal c=d) (h:base≤d) (e:Ending) (hbad:BadPu e):PuPost base lim bs e:=by
 refine puBad base lim bs e (fun n hn=>?_) hbad
 rw [he,Lx.valF,if_neg (by rw [hd];omega)] at hn
 cases hn
theorem lower_any (c lc:Int) (h:Go.bits .or .u8 c 32=lc) (w:World):Calls Tryz.prog 128 #[.int .u8 c] w fun e w'=>e=.returned (.int .u8 lc)∧w=w' :=
 (Tryz.internal_strconv_lower c w).mono fun _ _ hh=>⟨by rw [hh.1,h],hh.2.symm⟩
theorem hex_cases:∀ c:UInt8,Lx.isHex c=true→(48≤c.toNat∧c.toNat≤57∧Lx.hexVal c=c.toNat - 48)∨(58≤c.toNat∧((c.toNat:Int) == 95)=false∧∃ lc:Nat,97≤lc∧lc≤102∧Go.bits .or .u8 (c.toNat:Int) 32=(lc:Int)∧Lx.hexVal c=lc - 87):=by
 have h:∀ c:UInt8,Lx.isHex c=true→(48≤c.toNat∧c.toNat≤57∧Lx.hexVal c=c.toNat - 48)∨(58≤c.toNat∧((c.toNat:Int) == 95)=false∧(97≤(Go.bits .or .u8 (c.toNat:Int) 32).toNat∧(Go.bits .or .u8 (c.toNat:Int) 32).toNat≤102∧Go.bits .or .u8 (c.toNat:Int) 32=((Go.bits .or .u8 (c.toNat:Int) 32).toNat:Int)∧Lx.hexVal c=(Go.bits .or .u8 (c.toNat:Int) 32).toNat - 87)):=u8_all _ (by decide +kernel)
 intro c hc
 rcases h c hc with h1 | ⟨h1,h3,h2⟩
 ·exact .inl h1
 ·exact .inr ⟨h1,h3,_,h2⟩
set_option maxHeartbeats 32000000 in
set_option maxRecDepth 100000 in
theorem pu_8_63 (s:ByteArray) (hmax:s.size≤9223372036854775806) (h0:s.size≠0) (hx:∀ c∈s.data.toList,Lx.isHex c=true) (w:World) :
  Calls Tryz.prog 104 #[.string s,.int .i64 8,.int .i64 63] w fun e w'=>PuPost 8 9223372036854775808 s.data.toList e∧Below w.heap.size w w':=by
 have hemp:s.toList.isEmpty=false:=by
  rw [← decide_eq_emptyBytes]
  exact decide_eq_false (fun h=>h0 (by rw [h];rfl))
 have hcv:=Lib.run_convert_string_bytes (P:=Tryz.prog) w 9 83 5 s Tryz.underlying9 Tryz.underlying83 Tryz.underlying5
 have hB:∀ j,j < s.size→(Lib.bytesWorld w 5 s).cell? ⟨w.heap.size,j,none⟩=some (.int .u8 (s.data.toList.getD j 0).toNat):=fun j hj=>Lib.bytesWorld_cell w 5 s j hj
 have hbw:Below w.heap.size w (Lib.bytesWorld w 5 s):=⟨rfl,rfl,rfl,by rw [Lib.bytesWorld_size];omega,fun j hj=>Lib.bytesWorld_at_old w 5 s j hj⟩
 obtain ⟨W1,hW1⟩:∃ W1,W1=Lib.bytesWorld w 5 s:=⟨_,rfl⟩
 rw [← hW1] at hcv hB hbw
 clear hW1
 obtain ⟨bs,hL⟩:∃ bs,bs=s.data.toList:=⟨_,rfl⟩
 have hLn:bs.length=s.size:=by rw [hL,Lib.size_eq]
 rw [← hL] at hB hx ⊢
 clear hL
 go_enter Tryz.func104,Tryz.ntmps104
 go_wp2
 go_loop [12,13,101] (fun vu vn vi=>∃ (k acc:Nat) (a:Int),vu=.bool false∧vn=.int .u64 a∧vi=.int .i64 k∧k≤s.size∧Hid (a=(acc:Int)∧acc < 9223372036854775808∧Lx.valF 8 0 bs=Lx.valF 8 acc (bs.drop k))∧Below w.heap.size w W1)
  (fun _ _ vi=>s.size - (intOf vi).toNat)
 case atStart=>exact ⟨0,0,0,rfl,rfl,rfl,by omega,⟨rfl,by omega,rfl⟩,hbw⟩
 case round =>
  obtain ⟨k,acc,a,rfl,rfl,rfl,hk,hh,hb⟩:=hrel
  obtain ⟨ha,hacc,hdec⟩:=hh.out
  clear hh
  have a0:0≤a:=by omega
  have a1:a < 18446744073709551616:=by omega
  by_cases hkn:k < s.size
  ·have hc:=hB k hkn
   have hdrop:bs.drop k=bs[k]'(by omega) :: bs.drop (k+1):=List.drop_eq_getElem_cons (by omega)
   have hget:bs.getD k 0=bs[k]'(by omega):=by simp [List.getD,List.getElem?_eq_getElem (show k < bs.length by omega)]
   have hhx:=hx _ (List.getElem_mem (show k < bs.length by omega))
   rw [hdrop] at hdec
   rw [hget] at hc
   generalize bs[k]'(by omega)=c at hc hdec hhx
   have hc256:c.toNat < 256:=c.toNat_lt
   clear hB hdrop hget hx
   rcases hex_cases c hhx with ⟨hd0,hd1,hdv⟩ | ⟨hd0,hd95,lc,hl0,hl1,hlc,hdv⟩
   ·obtain ⟨d,hd⟩:∃ d,d=c.toNat - 48:=⟨_,rfl⟩
    rw [← hd] at hdv
    replace hd:(d:Int)=c.toNat - 48:=by omega
    have HDI:=Lib.hid hd
    by_cases hbd:8≤d
    ·have HD:=Lib.hid (puBad_dig 8 9223372036854775808 acc d bs _ c hdec hdv hbd)
     have ibd:(8:Int)≤(c.toNat:Int) - 48:=by omega
     clear hd hbd hdec hacc ha hdv
     go_wp2
     all_goals (go_ret2;exact ⟨HD.out _ ⟨_,_,.inr rfl,rfl⟩,hb⟩)
    ·have ibd:(c.toNat:Int) - 48 < (8:Int):=by omega
     by_cases hcut:2305843009213693952≤acc
     ·have HD:=Lib.hid (puBad_val 8 9223372036854775808 acc d bs _ c (by omega) hdec (by omega) hdv)
      have icut:2305843009213693952≤a:=by omega
      clear hd hbd hcut hacc hdec ha hdv
      go_wp2
      all_goals (go_ret2;exact ⟨HD.out _ ⟨_,_,.inl rfl,rfl⟩,hb⟩)
     ·have icut:a < 2305843009213693952:=by omega
      by_cases hov:9223372036854775808≤8 * acc+d
      ·have HD:=Lib.hid (puBad_val 8 9223372036854775808 acc d bs _ c (by omega) hdec hov hdv)
       have iov:9223372036854775808≤a * 8+((c.toNat:Int) - 48):=by omega
       clear hd hbd hcut hacc hdec ha hdv hov
       go_wp2
       all_goals (go_ret2;exact ⟨HD.out _ ⟨_,_,.inl rfl,rfl⟩,hb⟩)
      ·have hF:Lx.valF 8 acc (c :: bs.drop (k+1))=Lx.valF 8 (8 * acc+d) (bs.drop (k+1)):=by rw [Lx.valF,if_pos ⟨hhx,by rw [hdv];omega⟩,hdv]
       have HN:Hid (a * 8+((c.toNat:Int) - 48)=((8 * acc+d:Nat):Int)∧8 * acc+d < 9223372036854775808∧Lx.valF 8 0 bs=Lx.valF 8 (8 * acc+d) (bs.drop (k+1))):=Lib.hid ⟨by omega,by omega,hdec.trans hF⟩
       have iov:a * 8+((c.toNat:Int) - 48) < 9223372036854775808:=by omega
       clear hd hbd hcut hacc hF hov hdec ha hdv
       go_wp2
       all_goals refine ⟨⟨k+1,8 * acc+d,a * 8+((c.toNat:Int) - 48),rfl,(by first | rfl | (congr 1;omega)),(by first | rfl | (congr 1;omega)),by omega,HN,hb⟩,by simp [intOf];omega⟩
   ·obtain ⟨d,hd⟩:∃ d,d=lc - 87:=⟨_,rfl⟩
    rw [← hd] at hdv
    replace hd:(d:Int)=(lc:Int) - 97+10:=by omega
    have HDI:=Lib.hid hd
    by_cases hbd:8≤d
    ·have HD:=Lib.hid (puBad_dig 8 9223372036854775808 acc d bs _ c hdec hdv hbd)
     have ibd:(8:Int)≤(lc:Int) - 97+10:=by omega
     clear hd hbd hdec hacc ha hdv
     go_wp2_with (go_at_call 128;refine (lower_any _ _ hlc _).mono ?_;rintro e w2 ⟨rfl,rfl⟩)
     all_goals (go_ret2;exact ⟨HD.out _ ⟨_,_,.inr rfl,rfl⟩,hb⟩)
    ·have ibd:(lc:Int) - 97+10 < (8:Int):=by omega
     by_cases hcut:2305843009213693952≤acc
     ·have HD:=Lib.hid (puBad_val 8 9223372036854775808 acc d bs _ c (by omega) hdec (by omega) hdv)
      have icut:2305843009213693952≤a:=by omega
      clear hd hbd hcut hacc hdec ha hdv
      go_wp2_with (go_at_call 128;refine (lower_any _ _ hlc _).mono ?_;rintro e w2 ⟨rfl,rfl⟩)
      all_goals (go_ret2;exact ⟨HD.out _ ⟨_,_,.inl rfl,rfl⟩,hb⟩)
     ·have icut:a < 2305843009213693952:=by omega
      by_cases hov:9223372036854775808≤8 * acc+d
      ·have HD:=Lib.hid (puBad_val 8 9223372036854775808 acc d bs _ c (by omega) hdec hov hdv)
       have iov:9223372036854775808≤a * 8+((lc:Int) - 97+10):=by omega
       clear hd hbd hcut hacc hdec ha hdv hov
       go_wp2_with (go_at_call 128;refine (lower_any _ _ hlc _).mono ?_;rintro e w2 ⟨rfl,rfl⟩)
       all_goals (go_ret2;exact ⟨HD.out _ ⟨_,_,.inl rfl,rfl⟩,hb⟩)
      ·have hF:Lx.valF 8 acc (c :: bs.drop (k+1))=Lx.valF 8 (8 * acc+d) (bs.drop (k+1)):=by rw [Lx.valF,if_pos ⟨hhx,by rw [hdv];omega⟩,hdv]
       have HN:Hid (a * 8+((lc:Int) - 97+10)=((8 * acc+d:Nat):Int)∧8 * acc+d < 9223372036854775808∧Lx.valF 8 0 bs=Lx.valF 8 (8 * acc+d) (bs.drop (k+1))):=Lib.hid ⟨by omega,by omega,hdec.trans hF⟩
       have iov:a * 8+((lc:Int) - 97+10) < 9223372036854775808:=by omega
       clear hd hbd hcut hacc hF hov hdec ha hdv
       go_wp2_with (go_at_call 128;refine (lower_any _ _ hlc _).mono ?_;rintro e w2 ⟨rfl,rfl⟩)
       all_goals refine ⟨⟨k+1,8 * acc+d,a * 8+((lc:Int) - 97+10),rfl,(by first | rfl | (congr 1;omega)),(by first | rfl | (congr 1;omega)),by omega,HN,hb⟩,by simp [intOf];omega⟩
  ·have hkk:k=s.size:=by omega
   subst hkk
   have hF:Lx.valF 8 acc (bs.drop s.size)=some acc:=by rw [List.drop_eq_nil_of_le (by omega)];rfl
   rw [hF] at hdec
   have HD:Hid (∀ e,e=Ending.returned (.tuple #[.int .u64 a,.nilIface])→PuPost 8 9223372036854775808 bs e):=Lib.hid fun e he=>by
    unfold PuPost
    rw [hdec]
    simp only
    rw [if_pos hacc,he,ha]
   clear hacc hF hdec ha hB hx
   go_wp2
   go_ret2
   exact ⟨HD.out _ rfl,hb⟩
set_option maxHeartbeats 32000000 in
set_option maxRecDepth 100000 in
theorem pu_8_64 (s:ByteArray) (hmax:s.size≤9223372036854775806) (h0:s.size≠0) (hx:∀ c∈s.data.toList,Lx.isHex c=true) (w:World) :
  Calls Tryz.prog 104 #[.string s,.int .i64 8,.int .i64 64] w fun e w'=>PuPost 8 18446744073709551616 s.data.toList e∧Below w.heap.size w w':=by
 have hemp:s.toList.isEmpty=false:=by
  rw [← decide_eq_emptyBytes]
  exact decide_eq_false (fun h=>h0 (by rw [h];rfl))
 have hcv:=Lib.run_convert_string_bytes (P:=Tryz.prog) w 9 83 5 s Tryz.underlying9 Tryz.underlying83 Tryz.underlying5
 have hB:∀ j,j < s.size→(Lib.bytesWorld w 5 s).cell? ⟨w.heap.size,j,none⟩=some (.int .u8 (s.data.toList.getD j 0).toNat):=fun j hj=>Lib.bytesWorld_cell w 5 s j hj
 have hbw:Below w.heap.size w (Lib.bytesWorld w 5 s):=⟨rfl,rfl,rfl,by rw [Lib.bytesWorld_size];omega,fun j hj=>Lib.bytesWorld_at_old w 5 s j hj⟩
 obtain ⟨W1,hW1⟩:∃ W1,W1=Lib.bytesWorld w 5 s:=⟨_,rfl⟩
 rw [← hW1] at hcv hB hbw
 clear hW1
 obtain ⟨bs,hL⟩:∃ bs,bs=s.data.toList:=⟨_,rfl⟩
 have hLn:bs.length=s.size:=by rw [hL,Lib.size_eq]
 rw [← hL] at hB hx ⊢
 clear hL
 have hmv:IntKind.u64.wrap (IntKind.u64.wrap 18446744073709551616 - 1)=18446744073709551615:=by
  rw [IntKind.wrap_u64,IntKind.wrap_u64]
  decide
 go_enter Tryz.func104,Tryz.ntmps104
 go_wp2
 go_loop [12,13,101] (fun vu vn vi=>∃ (k acc:Nat) (a:Int),vu=.bool false∧vn=.int .u64 a∧vi=.int .i64 k∧k≤s.size∧Hid (a=(acc:Int)∧acc < 18446744073709551616∧Lx.valF 8 0 bs=Lx.valF 8 acc (bs.drop k))∧Below w.heap.size w W1)
  (fun _ _ vi=>s.size - (intOf vi).toNat)
 case atStart=>exact ⟨0,0,0,rfl,rfl,rfl,by omega,⟨rfl,by omega,rfl⟩,hbw⟩
 case round =>
  obtain ⟨k,acc,a,rfl,rfl,rfl,hk,hh,hb⟩:=hrel
  obtain ⟨ha,hacc,hdec⟩:=hh.out
  clear hh
  have a0:0≤a:=by omega
  have a1:a < 18446744073709551616:=by omega
  by_cases hkn:k < s.size
  ·have hc:=hB k hkn
   have hdrop:bs.drop k=bs[k]'(by omega) :: bs.drop (k+1):=List.drop_eq_getElem_cons (by omega)
   have hget:bs.getD k 0=bs[k]'(by omega):=by simp [List.getD,List.getElem?_eq_getElem (show k < bs.length by omega)]
   have hhx:=hx _ (List.getElem_mem (show k < bs.length by omega))
   rw [hdrop] at hdec
   rw [hget] at hc
   generalize bs[k]'(by omega)=c at hc hdec hhx
   have hc256:c.toNat < 256:=c.toNat_lt
   clear hB hdrop hget hx
   rcases hex_cases c hhx with ⟨hd0,hd1,hdv⟩ | ⟨hd0,hd95,lc,hl0,hl1,hlc,hdv⟩
   ·obtain ⟨d,hd⟩:∃ d,d=c.toNat - 48:=⟨_,rfl⟩
    rw [← hd] at hdv
    replace hd:(d:Int)=c.toNat - 48:=by omega
    have HDI:=Lib.hid hd
    by_cases hbd:8≤d
    ·have HD:=Lib.hid (puBad_dig 8 18446744073709551616 acc d bs _ c hdec hdv hbd)
     have ibd:(8:Int)≤(c.toNat:Int) - 48:=by omega
     clear hd hbd hdec hacc ha hdv
     go_wp2
     all_goals (go_ret2;exact ⟨HD.out _ ⟨_,_,.inr rfl,rfl⟩,hb⟩)
    ·have ibd:(c.toNat:Int) - 48 < (8:Int):=by omega
     by_cases hcut:2305843009213693952≤acc
     ·have HD:=Lib.hid (puBad_val 8 18446744073709551616 acc d bs _ c (by omega) hdec (by omega) hdv)
      have icut:2305843009213693952≤a:=by omega
      clear hd hbd hcut hacc hdec ha hdv
      go_wp2
      all_goals (go_ret2;exact ⟨HD.out _ ⟨_,_,.inl rfl,rfl⟩,hb⟩)
     ·have icut:a < 2305843009213693952:=by omega
      by_cases hov:18446744073709551616≤8 * acc+d
      ·have HD:=Lib.hid (puBad_val 8 18446744073709551616 acc d bs _ c (by omega) hdec hov hdv)
       have iov:18446744073709551616≤a * 8+((c.toNat:Int) - 48):=by omega
       have hwr:IntKind.u64.wrap (a * 8+((c.toNat:Int) - 48))=a * 8+((c.toNat:Int) - 48) - 18446744073709551616:=by
        rw [IntKind.wrap_u64]
        omega
       clear hd hbd hcut hacc hdec ha hdv hov
       go_wp2
       all_goals (go_ret2;exact ⟨HD.out _ ⟨_,_,.inl rfl,rfl⟩,hb⟩)
      ·have hF:Lx.valF 8 acc (c :: bs.drop (k+1))=Lx.valF 8 (8 * acc+d) (bs.drop (k+1)):=by rw [Lx.valF,if_pos ⟨hhx,by rw [hdv];omega⟩,hdv]
       have HN:Hid (a * 8+((c.toNat:Int) - 48)=((8 * acc+d:Nat):Int)∧8 * acc+d < 18446744073709551616∧Lx.valF 8 0 bs=Lx.valF 8 (8 * acc+d) (bs.drop (k+1))):=Lib.hid ⟨by omega,by omega,hdec.trans hF⟩
       have iov:a * 8+((c.toNat:Int) - 48) < 18446744073709551616:=by omega
       clear hd hbd hcut hacc hF hov hdec ha hdv
       go_wp2
       all_goals refine ⟨⟨k+1,8 * acc+d,a * 8+((c.toNat:Int) - 48),rfl,(by first | rfl | (congr 1;omega)),(by first | rfl | (congr 1;omega)),by omega,HN,hb⟩,by simp [intOf];omega⟩
   ·obtain ⟨d,hd⟩:∃ d,d=lc - 87:=⟨_,rfl⟩
    rw [← hd] at hdv
    replace hd:(d:Int)=(lc:Int) - 97+10:=by omega
    have HDI:=Lib.hid hd
    by_cases hbd:8≤d
    ·have HD:=Lib.hid (puBad_dig 8 18446744073709551616 acc d bs _ c hdec hdv hbd)
     have ibd:(8:Int)≤(lc:Int) - 97+10:=by omega
     clear hd hbd hdec hacc ha hdv
     go_wp2_with (go_at_call 128;refine (lower_any _ _ hlc _).mono ?_;rintro e w2 ⟨rfl,rfl⟩)
     all_goals (go_ret2;exact ⟨HD.out _ ⟨_,_,.inr rfl,rfl⟩,hb⟩)
    ·have ibd:(lc:Int) - 97+10 < (8:Int):=by omega
     by_cases hcut:2305843009213693952≤acc
     ·have HD:=Lib.hid (puBad_val 8 18446744073709551616 acc d bs _ c (by omega) hdec (by omega) hdv)
      have icut:2305843009213693952≤a:=by omega
      clear hd hbd hcut hacc hdec ha hdv
      go_wp2_with (go_at_call 128;refine (lower_any _ _ hlc _).mono ?_;rintro e w2 ⟨rfl,rfl⟩)
      all_goals (go_ret2;exact ⟨HD.out _ ⟨_,_,.inl rfl,rfl⟩,hb⟩)
     ·have icut:a < 2305843009213693952:=by omega
      by_cases hov:18446744073709551616≤8 * acc+d
      ·have HD:=Lib.hid (puBad_val 8 18446744073709551616 acc d bs _ c (by omega) hdec hov hdv)
       have iov:18446744073709551616≤a * 8+((lc:Int) - 97+10):=by omega
       have hwr:IntKind.u64.wrap (a * 8+((lc:Int) - 97+10))=a * 8+((lc:Int) - 97+10) - 18446744073709551616:=by
        rw [IntKind.wrap_u64]
        omega
       clear hd hbd hcut hacc hdec ha hdv hov
       go_wp2_with (go_at_call 128;refine (lower_any _ _ hlc _).mono ?_;rintro e w2 ⟨rfl,rfl⟩)
       all_goals (go_ret2;exact ⟨HD.out _ ⟨_,_,.inl rfl,rfl⟩,hb⟩)
      ·have hF:Lx.valF 8 acc (c :: bs.drop (k+1))=Lx.valF 8 (8 * acc+d) (bs.drop (k+1)):=by rw [Lx.valF,if_pos ⟨hhx,by rw [hdv];omega⟩,hdv]
       have HN:Hid (a * 8+((lc:Int) - 97+10)=((8 * acc+d:Nat):Int)∧8 * acc+d < 18446744073709551616∧Lx.valF 8 0 bs=Lx.valF 8 (8 * acc+d) (bs.drop (k+1))):=Lib.hid ⟨by omega,by omega,hdec.trans hF⟩
       have iov:a * 8+((lc:Int) - 97+10) < 18446744073709551616:=by omega
       clear hd hbd hcut hacc hF hov hdec ha hdv
       go_wp2_with (go_at_call 128;refine (lower_any _ _ hlc _).mono ?_;rintro e w2 ⟨rfl,rfl⟩)
       all_goals refine ⟨⟨k+1,8 * acc+d,a * 8+((lc:Int) - 97+10),rfl,(by first | rfl | (congr 1;omega)),(by first | rfl | (congr 1;omega)),by omega,HN,hb⟩,by simp [intOf];omega⟩
  ·have hkk:k=s.size:=by omega
   subst hkk
   have hF:Lx.valF 8 acc (bs.drop s.size)=some acc:=by rw [List.drop_eq_nil_of_le (by omega)];rfl
   rw [hF] at hdec
   have HD:Hid (∀ e,e=Ending.returned (.tuple #[.int .u64 a,.nilIface])→PuPost 8 18446744073709551616 bs e):=Lib.hid fun e he=>by
    unfold PuPost
    rw [hdec]
    simp only
    rw [if_pos hacc,he,ha]
   clear hacc hF hdec ha hB hx
   go_wp2
   go_ret2
   exact ⟨HD.out _ rfl,hb⟩
set_option maxHeartbeats 32000000 in
set_option maxRecDepth 100000 in
theorem pu_10_63 (s:ByteArray) (hmax:s.size≤9223372036854775806) (h0:s.size≠0) (hx:∀ c∈s.data.toList,Lx.isHex c=true) (w:World) :
  Calls Tryz.prog 104 #[.string s,.int .i64 10,.int .i64 63] w fun e w'=>PuPost 10 9223372036854775808 s.data.toList e∧Below w.heap.size w w':=by
 have hemp:s.toList.isEmpty=false:=by
  rw [← decide_eq_emptyBytes]
  exact decide_eq_false (fun h=>h0 (by rw [h];rfl))
 have hcv:=Lib.run_convert_string_bytes (P:=Tryz.prog) w 9 83 5 s Tryz.underlying9 Tryz.underlying83 Tryz.underlying5
 have hB:∀ j,j < s.size→(Lib.bytesWorld w 5 s).cell? ⟨w.heap.size,j,none⟩=some (.int .u8 (s.data.toList.getD j 0).toNat):=fun j hj=>Lib.bytesWorld_cell w 5 s j hj
 have hbw:Below w.heap.size w (Lib.bytesWorld w 5 s):=⟨rfl,rfl,rfl,by rw [Lib.bytesWorld_size];omega,fun j hj=>Lib.bytesWorld_at_old w 5 s j hj⟩
 obtain ⟨W1,hW1⟩:∃ W1,W1=Lib.bytesWorld w 5 s:=⟨_,rfl⟩
 rw [← hW1] at hcv hB hbw
 clear hW1
 obtain ⟨bs,hL⟩:∃ bs,bs=s.data.toList:=⟨_,rfl⟩
 have hLn:bs.length=s.size:=by rw [hL,Lib.size_eq]
 rw [← hL] at hB hx ⊢
 clear hL
 go_enter Tryz.func104,Tryz.ntmps104
 go_wp2
 go_loop [12,13,101] (fun vu vn vi=>∃ (k acc:Nat) (a:Int),vu=.bool false∧vn=.int .u64 a∧vi=.int .i64 k∧k≤s.size∧Hid (a=(acc:Int)∧acc < 9223372036854775808∧Lx.valF 10 0 bs=Lx.valF 10 acc (bs.drop k))∧Below w.heap.size w W1)
  (fun _ _ vi=>s.size - (intOf vi).toNat)
 case atStart=>exact ⟨0,0,0,rfl,rfl,rfl,by omega,⟨rfl,by omega,rfl⟩,hbw⟩
 case round =>
  obtain ⟨k,acc,a,rfl,rfl,rfl,hk,hh,hb⟩:=hrel
  obtain ⟨ha,hacc,hdec⟩:=hh.out
  clear hh
  have a0:0≤a:=by omega
  have a1:a < 18446744073709551616:=by omega
  by_cases hkn:k < s.size
  ·have hc:=hB k hkn
   have hdrop:bs.drop k=bs[k]'(by omega) :: bs.drop (k+1):=List.drop_eq_getElem_cons (by omega)
   have hget:bs.getD k 0=bs[k]'(by omega):=by simp [List.getD,List.getElem?_eq_getElem (show k < bs.length by omega)]
   have hhx:=hx _ (List.getElem_mem (show k < bs.length by omega))
   rw [hdrop] at hdec
   rw [hget] at hc
   generalize bs[k]'(by omega)=c at hc hdec hhx
   have hc256:c.toNat < 256:=c.toNat_lt
   clear hB hdrop hget hx
   rcases hex_cases c hhx with ⟨hd0,hd1,hdv⟩ | ⟨hd0,hd95,lc,hl0,hl1,hlc,hdv⟩
   ·obtain ⟨d,hd⟩:∃ d,d=c.toNat - 48:=⟨_,rfl⟩
    rw [← hd] at hdv
    replace hd:(d:Int)=c.toNat - 48:=by omega
    have HDI:=Lib.hid hd
    by_cases hbd:10≤d
    ·have HD:=Lib.hid (puBad_dig 10 9223372036854775808 acc d bs _ c hdec hdv hbd)
     have ibd:(10:Int)≤(c.toNat:Int) - 48:=by omega
     clear hd hbd hdec hacc ha hdv
     go_wp2
     all_goals (go_ret2;exact ⟨HD.out _ ⟨_,_,.inr rfl,rfl⟩,hb⟩)
    ·have ibd:(c.toNat:Int) - 48 < (10:Int):=by omega
     by_cases hcut:1844674407370955162≤acc
     ·have HD:=Lib.hid (puBad_val 10 9223372036854775808 acc d bs _ c (by omega) hdec (by omega) hdv)
      have icut:1844674407370955162≤a:=by omega
      clear hd hbd hcut hacc hdec ha hdv
      go_wp2
      all_goals (go_ret2;exact ⟨HD.out _ ⟨_,_,.inl rfl,rfl⟩,hb⟩)
     ·have icut:a < 1844674407370955162:=by omega
      by_cases hov:9223372036854775808≤10 * acc+d
      ·have HD:=Lib.hid (puBad_val 10 9223372036854775808 acc d bs _ c (by omega) hdec hov hdv)
       by_cases h64:18446744073709551616≤10 * acc+d
       ·have iov:18446744073709551616≤a * 10+((c.toNat:Int) - 48):=by omega
        have hwr:IntKind.u64.wrap (a * 10+((c.toNat:Int) - 48))=a * 10+((c.toNat:Int) - 48) - 18446744073709551616:=by
         rw [IntKind.wrap_u64]
         omega
        have hwl:a * 10+((c.toNat:Int) - 48) - 18446744073709551616 < a:=by omega
        clear hd hbd hcut hacc hdec ha hdv hov h64
        go_wp2
        all_goals (go_ret2;exact ⟨HD.out _ ⟨_,_,.inl rfl,rfl⟩,hb⟩)
       ·have iov:9223372036854775808≤a * 10+((c.toNat:Int) - 48):=by omega
        have iov2:a * 10+((c.toNat:Int) - 48) < 18446744073709551616:=by omega
        clear hd hbd hcut hacc hdec ha hdv hov h64
        go_wp2
        all_goals (go_ret2;exact ⟨HD.out _ ⟨_,_,.inl rfl,rfl⟩,hb⟩)
      ·have hF:Lx.valF 10 acc (c :: bs.drop (k+1))=Lx.valF 10 (10 * acc+d) (bs.drop (k+1)):=by rw [Lx.valF,if_pos ⟨hhx,by rw [hdv];omega⟩,hdv]
       have HN:Hid (a * 10+((c.toNat:Int) - 48)=((10 * acc+d:Nat):Int)∧10 * acc+d < 9223372036854775808∧Lx.valF 10 0 bs=Lx.valF 10 (10 * acc+d) (bs.drop (k+1))):=Lib.hid ⟨by omega,by omega,hdec.trans hF⟩
       have iov:a * 10+((c.toNat:Int) - 48) < 9223372036854775808:=by omega
       clear hd hbd hcut hacc hF hov hdec ha hdv
       go_wp2
       all_goals refine ⟨⟨k+1,10 * acc+d,a * 10+((c.toNat:Int) - 48),rfl,(by first | rfl | (congr 1;omega)),(by first | rfl | (congr 1;omega)),by omega,HN,hb⟩,by simp [intOf];omega⟩
   ·obtain ⟨d,hd⟩:∃ d,d=lc - 87:=⟨_,rfl⟩
    rw [← hd] at hdv
    replace hd:(d:Int)=(lc:Int) - 97+10:=by omega
    have HDI:=Lib.hid hd
    by_cases hbd:10≤d
    ·have HD:=Lib.hid (puBad_dig 10 9223372036854775808 acc d bs _ c hdec hdv hbd)
     have ibd:(10:Int)≤(lc:Int) - 97+10:=by omega
     clear hd hbd hdec hacc ha hdv
     go_wp2_with (go_at_call 128;refine (lower_any _ _ hlc _).mono ?_;rintro e w2 ⟨rfl,rfl⟩)
     all_goals (go_ret2;exact ⟨HD.out _ ⟨_,_,.inr rfl,rfl⟩,hb⟩)
    ·have ibd:(lc:Int) - 97+10 < (10:Int):=by omega
     by_cases hcut:1844674407370955162≤acc
     ·have HD:=Lib.hid (puBad_val 10 9223372036854775808 acc d bs _ c (by omega) hdec (by omega) hdv)
      have icut:1844674407370955162≤a:=by omega
      clear hd hbd hcut hacc hdec ha hdv
      go_wp2_with (go_at_call 128;refine (lower_any _ _ hlc _).mono ?_;rintro e w2 ⟨rfl,rfl⟩)
      all_goals (go_ret2;exact ⟨HD.out _ ⟨_,_,.inl rfl,rfl⟩,hb⟩)
     ·have icut:a < 1844674407370955162:=by omega
      by_cases hov:9223372036854775808≤10 * acc+d
      ·have HD:=Lib.hid (puBad_val 10 9223372036854775808 acc d bs _ c (by omega) hdec hov hdv)
       by_cases h64:18446744073709551616≤10 * acc+d
       ·have iov:18446744073709551616≤a * 10+((lc:Int) - 97+10):=by omega
        have hwr:IntKind.u64.wrap (a * 10+((lc:Int) - 97+10))=a * 10+((lc:Int) - 97+10) - 18446744073709551616:=by
         rw [IntKind.wrap_u64]
         omega
        have hwl:a * 10+((lc:Int) - 97+10) - 18446744073709551616 < a:=by omega
        clear hd hbd hcut hacc hdec ha hdv hov h64
        go_wp2_with (go_at_call 128;refine (lower_any _ _ hlc _).mono ?_;rintro e w2 ⟨rfl,rfl⟩)
        all_goals (go_ret2;exact ⟨HD.out _ ⟨_,_,.inl rfl,rfl⟩,hb⟩)
       ·have iov:9223372036854775808≤a * 10+((lc:Int) - 97+10):=by omega
        have iov2:a * 10+((lc:Int) - 97+10) < 18446744073709551616:=by omega
        clear hd hbd hcut hacc hdec ha hdv hov h64
        go_wp2_with (go_at_call 128;refine (lower_any _ _ hlc _).mono ?_;rintro e w2 ⟨rfl,rfl⟩)
        all_goals (go_ret2;exact ⟨HD.out _ ⟨_,_,.inl rfl,rfl⟩,hb⟩)
      ·have hF:Lx.valF 10 acc (c :: bs.drop (k+1))=Lx.valF 10 (10 * acc+d) (bs.drop (k+1)):=by rw [Lx.valF,if_pos ⟨hhx,by rw [hdv];omega⟩,hdv]
       have HN:Hid (a * 10+((lc:Int) - 97+10)=((10 * acc+d:Nat):Int)∧10 * acc+d < 9223372036854775808∧Lx.valF 10 0 bs=Lx.valF 10 (10 * acc+d) (bs.drop (k+1))):=Lib.hid ⟨by omega,by omega,hdec.trans hF⟩
       have iov:a * 10+((lc:Int) - 97+10) < 9223372036854775808:=by omega
       clear hd hbd hcut hacc hF hov hdec ha hdv
       go_wp2_with (go_at_call 128;refine (lower_any _ _ hlc _).mono ?_;rintro e w2 ⟨rfl,rfl⟩)
       all_goals refine ⟨⟨k+1,10 * acc+d,a * 10+((lc:Int) - 97+10),rfl,(by first | rfl | (congr 1;omega)),(by first | rfl | (congr 1;omega)),by omega,HN,hb⟩,by simp [intOf];omega⟩
  ·have hkk:k=s.size:=by omega
   subst hkk
   have hF:Lx.valF 10 acc (bs.drop s.size)=some acc:=by rw [List.drop_eq_nil_of_le (by omega)];rfl
   rw [hF] at hdec
   have HD:Hid (∀ e,e=Ending.returned (.tuple #[.int .u64 a,.nilIface])→PuPost 10 9223372036854775808 bs e):=Lib.hid fun e he=>by
    unfold PuPost
    rw [hdec]
    simp only
    rw [if_pos hacc,he,ha]
   clear hacc hF hdec ha hB hx
   go_wp2
   go_ret2
   exact ⟨HD.out _ rfl,hb⟩
set_option maxHeartbeats 32000000 in
set_option maxRecDepth 100000 in
theorem pu_10_64 (s:ByteArray) (hmax:s.size≤9223372036854775806) (h0:s.size≠0) (hx:∀ c∈s.data.toList,Lx.isHex c=true) (w:World) :
  Calls Tryz.prog 104 #[.string s,.int .i64 10,.int .i64 64] w fun e w'=>PuPost 10 18446744073709551616 s.data.toList e∧Below w.heap.size w w':=by
 have hemp:s.toList.isEmpty=false:=by
  rw [← decide_eq_emptyBytes]
  exact decide_eq_false (fun h=>h0 (by rw [h];rfl))
 have hcv:=Lib.run_convert_string_bytes (P:=Tryz.prog) w 9 83 5 s Tryz.underlying9 Tryz.underlying83 Tryz.underlying5
 have hB:∀ j,j < s.size→(Lib.bytesWorld w 5 s).cell? ⟨w.heap.size,j,none⟩=some (.int .u8 (s.data.toList.getD j 0).toNat):=fun j hj=>Lib.bytesWorld_cell w 5 s j hj
 have hbw:Below w.heap.size w (Lib.bytesWorld w 5 s):=⟨rfl,rfl,rfl,by rw [Lib.bytesWorld_size];omega,fun j hj=>Lib.bytesWorld_at_old w 5 s j hj⟩
 obtain ⟨W1,hW1⟩:∃ W1,W1=Lib.bytesWorld w 5 s:=⟨_,rfl⟩
 rw [← hW1] at hcv hB hbw
 clear hW1
 obtain ⟨bs,hL⟩:∃ bs,bs=s.data.toList:=⟨_,rfl⟩
 have hLn:bs.length=s.size:=by rw [hL,Lib.size_eq]
 rw [← hL] at hB hx ⊢
 clear hL
 have hmv:IntKind.u64.wrap (IntKind.u64.wrap 18446744073709551616 - 1)=18446744073709551615:=by
  rw [IntKind.wrap_u64,IntKind.wrap_u64]
  decide
 go_enter Tryz.func104,Tryz.ntmps104
 go_wp2
 go_loop [12,13,101] (fun vu vn vi=>∃ (k acc:Nat) (a:Int),vu=.bool false∧vn=.int .u64 a∧vi=.int .i64 k∧k≤s.size∧Hid (a=(acc:Int)∧acc < 18446744073709551616∧Lx.valF 10 0 bs=Lx.valF 10 acc (bs.drop k))∧Below w.heap.size w W1)
  (fun _ _ vi=>s.size - (intOf vi).toNat)
 case atStart=>exact ⟨0,0,0,rfl,rfl,rfl,by omega,⟨rfl,by omega,rfl⟩,hbw⟩
 case round =>
  obtain ⟨k,acc,a,rfl,rfl,rfl,hk,hh,hb⟩:=hrel
  obtain ⟨ha,hacc,hdec⟩:=hh.out
  clear hh
  have a0:0≤a:=by omega
  have a1:a < 18446744073709551616:=by omega
  by_cases hkn:k < s.size
  ·have hc:=hB k hkn
   have hdrop:bs.drop k=bs[k]'(by omega) :: bs.drop (k+1):=List.drop_eq_getElem_cons (by omega)
   have hget:bs.getD k 0=bs[k]'(by omega):=by simp [List.getD,List.getElem?_eq_getElem (show k < bs.length by omega)]
   have hhx:=hx _ (List.getElem_mem (show k < bs.length by omega))
   rw [hdrop] at hdec
   rw [hget] at hc
   generalize bs[k]'(by omega)=c at hc hdec hhx
   have hc256:c.toNat < 256:=c.toNat_lt
   clear hB hdrop hget hx
   rcases hex_cases c hhx with ⟨hd0,hd1,hdv⟩ | ⟨hd0,hd95,lc,hl0,hl1,hlc,hdv⟩
   ·obtain ⟨d,hd⟩:∃ d,d=c.toNat - 48:=⟨_,rfl⟩
    rw [← hd] at hdv
    replace hd:(d:Int)=c.toNat - 48:=by omega
    have HDI:=Lib.hid hd
    by_cases hbd:10≤d
    ·have HD:=Lib.hid (puBad_dig 10 18446744073709551616 acc d bs _ c hdec hdv hbd)
     have ibd:(10:Int)≤(c.toNat:Int) - 48:=by omega
     clear hd hbd hdec hacc ha hdv
     go_wp2
     all_goals (go_ret2;exact ⟨HD.out _ ⟨_,_,.inr rfl,rfl⟩,hb⟩)
    ·have ibd:(c.toNat:Int) - 48 < (10:Int):=by omega
     by_cases hcut:1844674407370955162≤acc
     ·have HD:=Lib.hid (puBad_val 10 18446744073709551616 acc d bs _ c (by omega) hdec (by omega) hdv)
      have icut:1844674407370955162≤a:=by omega
      clear hd hbd hcut hacc hdec ha hdv
      go_wp2
      all_goals (go_ret2;exact ⟨HD.out _ ⟨_,_,.inl rfl,rfl⟩,hb⟩)
     ·have icut:a < 1844674407370955162:=by omega
      by_cases hov:18446744073709551616≤10 * acc+d
      ·have HD:=Lib.hid (puBad_val 10 18446744073709551616 acc d bs _ c (by omega) hdec hov hdv)
       have iov:18446744073709551616≤a * 10+((c.toNat:Int) - 48):=by omega
       have hwr:IntKind.u64.wrap (a * 10+((c.toNat:Int) - 48))=a * 10+((c.toNat:Int) - 48) - 18446744073709551616:=by
        rw [IntKind.wrap_u64]
        omega
       clear hd hbd hcut hacc hdec ha hdv hov
       go_wp2
       all_goals (go_ret2;exact ⟨HD.out _ ⟨_,_,.inl rfl,rfl⟩,hb⟩)
      ·have hF:Lx.valF 10 acc (c :: bs.drop (k+1))=Lx.valF 10 (10 * acc+d) (bs.drop (k+1)):=by rw [Lx.valF,if_pos ⟨hhx,by rw [hdv];omega⟩,hdv]
       have HN:Hid (a * 10+((c.toNat:Int) - 48)=((10 * acc+d:Nat):Int)∧10 * acc+d < 18446744073709551616∧Lx.valF 10 0 bs=Lx.valF 10 (10 * acc+d) (bs.drop (k+1))):=Lib.hid ⟨by omega,by omega,hdec.trans hF⟩
       have iov:a * 10+((c.toNat:Int) - 48) < 18446744073709551616:=by omega
       clear hd hbd hcut hacc hF hov hdec ha hdv
       go_wp2
       all_goals refine ⟨⟨k+1,10 * acc+d,a * 10+((c.toNat:Int) - 48),rfl,(by first | rfl | (congr 1;omega)),(by first | rfl | (congr 1;omega)),by omega,HN,hb⟩,by simp [intOf];omega⟩
   ·obtain ⟨d,hd⟩:∃ d,d=lc - 87:=⟨_,rfl⟩
    rw [← hd] at hdv
    replace hd:(d:Int)=(lc:Int) - 97+10:=by omega
    have HDI:=Lib.hid hd
    by_cases hbd:10≤d
    ·have HD:=Lib.hid (puBad_dig 10 18446744073709551616 acc d bs _ c hdec hdv hbd)
     have ibd:(10:Int)≤(lc:Int) - 97+10:=by omega
     clear hd hbd hdec hacc ha hdv
     go_wp2_with (go_at_call 128;refine (lower_any _ _ hlc _).mono ?_;rintro e w2 ⟨rfl,rfl⟩)
     all_goals (go_ret2;exact ⟨HD.out _ ⟨_,_,.inr rfl,rfl⟩,hb⟩)
    ·have ibd:(lc:Int) - 97+10 < (10:Int):=by omega
     by_cases hcut:1844674407370955162≤acc
     ·have HD:=Lib.hid (puBad_val 10 18446744073709551616 acc d bs _ c (by omega) hdec (by omega) hdv)
      have icut:1844674407370955162≤a:=by omega
      clear hd hbd hcut hacc hdec ha hdv
      go_wp2_with (go_at_call 128;refine (lower_any _ _ hlc _).mono ?_;rintro e w2 ⟨rfl,rfl⟩)
      all_goals (go_ret2;exact ⟨HD.out _ ⟨_,_,.inl rfl,rfl⟩,hb⟩)
     ·have icut:a < 1844674407370955162:=by omega
      by_cases hov:18446744073709551616≤10 * acc+d
      ·have HD:=Lib.hid (puBad_val 10 18446744073709551616 acc d bs _ c (by omega) hdec hov hdv)
       have iov:18446744073709551616≤a * 10+((lc:Int) - 97+10):=by omega
       have hwr:IntKind.u64.wrap (a * 10+((lc:Int) - 97+10))=a * 10+((lc:Int) - 97+10) - 18446744073709551616:=by
        rw [IntKind.wrap_u64]
        omega
       clear hd hbd hcut hacc hdec ha hdv hov
       go_wp2_with (go_at_call 128;refine (lower_any _ _ hlc _).mono ?_;rintro e w2 ⟨rfl,rfl⟩)
       all_goals (go_ret2;exact ⟨HD.out _ ⟨_,_,.inl rfl,rfl⟩,hb⟩)
      ·have hF:Lx.valF 10 acc (c :: bs.drop (k+1))=Lx.valF 10 (10 * acc+d) (bs.drop (k+1)):=by rw [Lx.valF,if_pos ⟨hhx,by rw [hdv];omega⟩,hdv]
       have HN:Hid (a * 10+((lc:Int) - 97+10)=((10 * acc+d:Nat):Int)∧10 * acc+d < 18446744073709551616∧Lx.valF 10 0 bs=Lx.valF 10 (10 * acc+d) (bs.drop (k+1))):=Lib.hid ⟨by omega,by omega,hdec.trans hF⟩
       have iov:a * 10+((lc:Int) - 97+10) < 18446744073709551616:=by omega
       clear hd hbd hcut hacc hF hov hdec ha hdv
       go_wp2_with (go_at_call 128;refine (lower_any _ _ hlc _).mono ?_;rintro e w2 ⟨rfl,rfl⟩)
       all_goals refine ⟨⟨k+1,10 * acc+d,a * 10+((lc:Int) - 97+10),rfl,(by first | rfl | (congr 1;omega)),(by first | rfl | (congr 1;omega)),by omega,HN,hb⟩,by simp [intOf];omega⟩
  ·have hkk:k=s.size:=by omega
   subst hkk
   have hF:Lx.valF 10 acc (bs.drop s.size)=some acc:=by rw [List.drop_eq_nil_of_le (by omega)];rfl
   rw [hF] at hdec
   have HD:Hid (∀ e,e=Ending.returned (.tuple #[.int .u64 a,.nilIface])→PuPost 10 18446744073709551616 bs e):=Lib.hid fun e he=>by
    unfold PuPost
    rw [hdec]
    simp only
    rw [if_pos hacc,he,ha]
   clear hacc hF hdec ha hB hx
   go_wp2
   go_ret2
   exact ⟨HD.out _ rfl,hb⟩
set_option maxHeartbeats 32000000 in
set_option maxRecDepth 100000 in
theorem pu_16_63 (s:ByteArray) (hmax:s.size≤9223372036854775806) (h0:s.size≠0) (hx:∀ c∈s.data.toList,Lx.isHex c=true) (w:World) :
  Calls Tryz.prog 104 #[.string s,.int .i64 16,.int .i64 63] w fun e w'=>PuPost 16 9223372036854775808 s.data.toList e∧Below w.heap.size w w':=by
 have hemp:s.toList.isEmpty=false:=by
  rw [← decide_eq_emptyBytes]
  exact decide_eq_false (fun h=>h0 (by rw [h];rfl))
 have hcv:=Lib.run_convert_string_bytes (P:=Tryz.prog) w 9 83 5 s Tryz.underlying9 Tryz.underlying83 Tryz.underlying5
 have hB:∀ j,j < s.size→(Lib.bytesWorld w 5 s).cell? ⟨w.heap.size,j,none⟩=some (.int .u8 (s.data.toList.getD j 0).toNat):=fun j hj=>Lib.bytesWorld_cell w 5 s j hj
 have hbw:Below w.heap.size w (Lib.bytesWorld w 5 s):=⟨rfl,rfl,rfl,by rw [Lib.bytesWorld_size];omega,fun j hj=>Lib.bytesWorld_at_old w 5 s j hj⟩
 obtain ⟨W1,hW1⟩:∃ W1,W1=Lib.bytesWorld w 5 s:=⟨_,rfl⟩
 rw [← hW1] at hcv hB hbw
 clear hW1
 obtain ⟨bs,hL⟩:∃ bs,bs=s.data.toList:=⟨_,rfl⟩
 have hLn:bs.length=s.size:=by rw [hL,Lib.size_eq]
 rw [← hL] at hB hx ⊢
 clear hL
 go_enter Tryz.func104,Tryz.ntmps104
 go_wp2
 go_loop [12,13,101] (fun vu vn vi=>∃ (k acc:Nat) (a:Int),vu=.bool false∧vn=.int .u64 a∧vi=.int .i64 k∧k≤s.size∧Hid (a=(acc:Int)∧acc < 9223372036854775808∧Lx.valF 16 0 bs=Lx.valF 16 acc (bs.drop k))∧Below w.heap.size w W1)
  (fun _ _ vi=>s.size - (intOf vi).toNat)
 case atStart=>exact ⟨0,0,0,rfl,rfl,rfl,by omega,⟨rfl,by omega,rfl⟩,hbw⟩
 case round =>
  obtain ⟨k,acc,a,rfl,rfl,rfl,hk,hh,hb⟩:=hrel
  obtain ⟨ha,hacc,hdec⟩:=hh.out
  clear hh
  have a0:0≤a:=by omega
  have a1:a < 18446744073709551616:=by omega
  by_cases hkn:k < s.size
  ·have hc:=hB k hkn
   have hdrop:bs.drop k=bs[k]'(by omega) :: bs.drop (k+1):=List.drop_eq_getElem_cons (by omega)
   have hget:bs.getD k 0=bs[k]'(by omega):=by simp [List.getD,List.getElem?_eq_getElem (show k < bs.length by omega)]
   have hhx:=hx _ (List.getElem_mem (show k < bs.length by omega))
   rw [hdrop] at hdec
   rw [hget] at hc
   generalize bs[k]'(by omega)=c at hc hdec hhx
   have hc256:c.toNat < 256:=c.toNat_lt
   clear hB hdrop hget hx
   rcases hex_cases c hhx with ⟨hd0,hd1,hdv⟩ | ⟨hd0,hd95,lc,hl0,hl1,hlc,hdv⟩
   ·obtain ⟨d,hd⟩:∃ d,d=c.toNat - 48:=⟨_,rfl⟩
    rw [← hd] at hdv
    replace hd:(d:Int)=c.toNat - 48:=by omega
    have HDI:=Lib.hid hd
    by_cases hbd:16≤d
    ·have HD:=Lib.hid (puBad_dig 16 9223372036854775808 acc d bs _ c hdec hdv hbd)
     have ibd:(16:Int)≤(c.toNat:Int) - 48:=by omega
     clear hd hbd hdec hacc ha hdv
     go_wp2
     all_goals (go_ret2;exact ⟨HD.out _ ⟨_,_,.inr rfl,rfl⟩,hb⟩)
    ·have ibd:(c.toNat:Int) - 48 < (16:Int):=by omega
     by_cases hcut:1152921504606846976≤acc
     ·have HD:=Lib.hid (puBad_val 16 9223372036854775808 acc d bs _ c (by omega) hdec (by omega) hdv)
      have icut:1152921504606846976≤a:=by omega
      clear hd hbd hcut hacc hdec ha hdv
      go_wp2
      all_goals (go_ret2;exact ⟨HD.out _ ⟨_,_,.inl rfl,rfl⟩,hb⟩)
     ·have icut:a < 1152921504606846976:=by omega
      by_cases hov:9223372036854775808≤16 * acc+d
      ·have HD:=Lib.hid (puBad_val 16 9223372036854775808 acc d bs _ c (by omega) hdec hov hdv)
       have iov:9223372036854775808≤a * 16+((c.toNat:Int) - 48):=by omega
       clear hd hbd hcut hacc hdec ha hdv hov
       go_wp2
       all_goals (go_ret2;exact ⟨HD.out _ ⟨_,_,.inl rfl,rfl⟩,hb⟩)
      ·have hF:Lx.valF 16 acc (c :: bs.drop (k+1))=Lx.valF 16 (16 * acc+d) (bs.drop (k+1)):=by rw [Lx.valF,if_pos ⟨hhx,by rw [hdv];omega⟩,hdv]
       have HN:Hid (a * 16+((c.toNat:Int) - 48)=((16 * acc+d:Nat):Int)∧16 * acc+d < 9223372036854775808∧Lx.valF 16 0 bs=Lx.valF 16 (16 * acc+d) (bs.drop (k+1))):=Lib.hid ⟨by omega,by omega,hdec.trans hF⟩
       have iov:a * 16+((c.toNat:Int) - 48) < 9223372036854775808:=by omega
       clear hd hbd hcut hacc hF hov hdec ha hdv
       go_wp2
       all_goals refine ⟨⟨k+1,16 * acc+d,a * 16+((c.toNat:Int) - 48),rfl,(by first | rfl | (congr 1;omega)),(by first | rfl | (congr 1;omega)),by omega,HN,hb⟩,by simp [intOf];omega⟩
   ·obtain ⟨d,hd⟩:∃ d,d=lc - 87:=⟨_,rfl⟩
    rw [← hd] at hdv
    replace hd:(d:Int)=(lc:Int) - 97+10:=by omega
    have HDI:=Lib.hid hd
    by_cases hbd:16≤d
    ·have HD:=Lib.hid (puBad_dig 16 9223372036854775808 acc d bs _ c hdec hdv hbd)
     have ibd:(16:Int)≤(lc:Int) - 97+10:=by omega
     clear hd hbd hdec hacc ha hdv
     go_wp2_with (go_at_call 128;refine (lower_any _ _ hlc _).mono ?_;rintro e w2 ⟨rfl,rfl⟩)
     all_goals (go_ret2;exact ⟨HD.out _ ⟨_,_,.inr rfl,rfl⟩,hb⟩)
    ·have ibd:(lc:Int) - 97+10 < (16:Int):=by omega
     by_cases hcut:1152921504606846976≤acc
     ·have HD:=Lib.hid (puBad_val 16 9223372036854775808 acc d bs _ c (by omega) hdec (by omega) hdv)
      have icut:1152921504606846976≤a:=by omega
      clear hd hbd hcut hacc hdec ha hdv
      go_wp2_with (go_at_call 128;refine (lower_any _ _ hlc _).mono ?_;rintro e w2 ⟨rfl,rfl⟩)
      all_goals (go_ret2;exact ⟨HD.out _ ⟨_,_,.inl rfl,rfl⟩,hb⟩)
     ·have icut:a < 1152921504606846976:=by omega
      by_cases hov:9223372036854775808≤16 * acc+d
      ·have HD:=Lib.hid (puBad_val 16 9223372036854775808 acc d bs _ c (by omega) hdec hov hdv)
       have iov:9223372036854775808≤a * 16+((lc:Int) - 97+10):=by omega
       clear hd hbd hcut hacc hdec ha hdv hov
       go_wp2_with (go_at_call 128;refine (lower_any _ _ hlc _).mono ?_;rintro e w2 ⟨rfl,rfl⟩)
       all_goals (go_ret2;exact ⟨HD.out _ ⟨_,_,.inl rfl,rfl⟩,hb⟩)
      ·have hF:Lx.valF 16 acc (c :: bs.drop (k+1))=Lx.valF 16 (16 * acc+d) (bs.drop (k+1)):=by rw [Lx.valF,if_pos ⟨hhx,by rw [hdv];omega⟩,hdv]
       have HN:Hid (a * 16+((lc:Int) - 97+10)=((16 * acc+d:Nat):Int)∧16 * acc+d < 9223372036854775808∧Lx.valF 16 0 bs=Lx.valF 16 (16 * acc+d) (bs.drop (k+1))):=Lib.hid ⟨by omega,by omega,hdec.trans hF⟩
       have iov:a * 16+((lc:Int) - 97+10) < 9223372036854775808:=by omega
       clear hd hbd hcut hacc hF hov hdec ha hdv
       go_wp2_with (go_at_call 128;refine (lower_any _ _ hlc _).mono ?_;rintro e w2 ⟨rfl,rfl⟩)
       all_goals refine ⟨⟨k+1,16 * acc+d,a * 16+((lc:Int) - 97+10),rfl,(by first | rfl | (congr 1;omega)),(by first | rfl | (congr 1;omega)),by omega,HN,hb⟩,by simp [intOf];omega⟩
  ·have hkk:k=s.size:=by omega
   subst hkk
   have hF:Lx.valF 16 acc (bs.drop s.size)=some acc:=by rw [List.drop_eq_nil_of_le (by omega)];rfl
   rw [hF] at hdec
   have HD:Hid (∀ e,e=Ending.returned (.tuple #[.int .u64 a,.nilIface])→PuPost 16 9223372036854775808 bs e):=Lib.hid fun e he=>by
    unfold PuPost
    rw [hdec]
    simp only
    rw [if_pos hacc,he,ha]
   clear hacc hF hdec ha hB hx
   go_wp2
   go_ret2
   exact ⟨HD.out _ rfl,hb⟩
set_option maxHeartbeats 32000000 in
set_option maxRecDepth 100000 in
theorem pu_16_64 (s:ByteArray) (hmax:s.size≤9223372036854775806) (h0:s.size≠0) (hx:∀ c∈s.data.toList,Lx.isHex c=true) (w:World) :
  Calls Tryz.prog 104 #[.string s,.int .i64 16,.int .i64 64] w fun e w'=>PuPost 16 18446744073709551616 s.data.toList e∧Below w.heap.size w w':=by
 have hemp:s.toList.isEmpty=false:=by
  rw [← decide_eq_emptyBytes]
  exact decide_eq_false (fun h=>h0 (by rw [h];rfl))
 have hcv:=Lib.run_convert_string_bytes (P:=Tryz.prog) w 9 83 5 s Tryz.underlying9 Tryz.underlying83 Tryz.underlying5
 have hB:∀ j,j < s.size→(Lib.bytesWorld w 5 s).cell? ⟨w.heap.size,j,none⟩=some (.int .u8 (s.data.toList.getD j 0).toNat):=fun j hj=>Lib.bytesWorld_cell w 5 s j hj
 have hbw:Below w.heap.size w (Lib.bytesWorld w 5 s):=⟨rfl,rfl,rfl,by rw [Lib.bytesWorld_size];omega,fun j hj=>Lib.bytesWorld_at_old w 5 s j hj⟩
 obtain ⟨W1,hW1⟩:∃ W1,W1=Lib.bytesWorld w 5 s:=⟨_,rfl⟩
 rw [← hW1] at hcv hB hbw
 clear hW1
 obtain ⟨bs,hL⟩:∃ bs,bs=s.data.toList:=⟨_,rfl⟩
 have hLn:bs.length=s.size:=by rw [hL,Lib.size_eq]
 rw [← hL] at hB hx ⊢
 clear hL
 have hmv:IntKind.u64.wrap (IntKind.u64.wrap 18446744073709551616 - 1)=18446744073709551615:=by
  rw [IntKind.wrap_u64,IntKind.wrap_u64]
  decide
 go_enter Tryz.func104,Tryz.ntmps104
 go_wp2
 go_loop [12,13,101] (fun vu vn vi=>∃ (k acc:Nat) (a:Int),vu=.bool false∧vn=.int .u64 a∧vi=.int .i64 k∧k≤s.size∧Hid (a=(acc:Int)∧acc < 18446744073709551616∧Lx.valF 16 0 bs=Lx.valF 16 acc (bs.drop k))∧Below w.heap.size w W1)
  (fun _ _ vi=>s.size - (intOf vi).toNat)
 case atStart=>exact ⟨0,0,0,rfl,rfl,rfl,by omega,⟨rfl,by omega,rfl⟩,hbw⟩
 case round =>
  obtain ⟨k,acc,a,rfl,rfl,rfl,hk,hh,hb⟩:=hrel
  obtain ⟨ha,hacc,hdec⟩:=hh.out
  clear hh
  have a0:0≤a:=by omega
  have a1:a < 18446744073709551616:=by omega
  by_cases hkn:k < s.size
  ·have hc:=hB k hkn
   have hdrop:bs.drop k=bs[k]'(by omega) :: bs.drop (k+1):=List.drop_eq_getElem_cons (by omega)
   have hget:bs.getD k 0=bs[k]'(by omega):=by simp [List.getD,List.getElem?_eq_getElem (show k < bs.length by omega)]
   have hhx:=hx _ (List.getElem_mem (show k < bs.length by omega))
   rw [hdrop] at hdec
   rw [hget] at hc
   generalize bs[k]'(by omega)=c at hc hdec hhx
   have hc256:c.toNat < 256:=c.toNat_lt
   clear hB hdrop hget hx
   rcases hex_cases c hhx with ⟨hd0,hd1,hdv⟩ | ⟨hd0,hd95,lc,hl0,hl1,hlc,hdv⟩
   ·obtain ⟨d,hd⟩:∃ d,d=c.toNat - 48:=⟨_,rfl⟩
    rw [← hd] at hdv
    replace hd:(d:Int)=c.toNat - 48:=by omega
    have HDI:=Lib.hid hd
    by_cases hbd:16≤d
    ·have HD:=Lib.hid (puBad_dig 16 18446744073709551616 acc d bs _ c hdec hdv hbd)
     have ibd:(16:Int)≤(c.toNat:Int) - 48:=by omega
     clear hd hbd hdec hacc ha hdv
     go_wp2
     all_goals (go_ret2;exact ⟨HD.out _ ⟨_,_,.inr rfl,rfl⟩,hb⟩)
    ·have ibd:(c.toNat:Int) - 48 < (16:Int):=by omega
     by_cases hcut:1152921504606846976≤acc
     ·have HD:=Lib.hid (puBad_val 16 18446744073709551616 acc d bs _ c (by omega) hdec (by omega) hdv)
      have icut:1152921504606846976≤a:=by omega
      clear hd hbd hcut hacc hdec ha hdv
      go_wp2
      all_goals (go_ret2;exact ⟨HD.out _ ⟨_,_,.inl rfl,rfl⟩,hb⟩)
     ·have icut:a < 1152921504606846976:=by omega
      by_cases hov:18446744073709551616≤16 * acc+d
      ·have HD:=Lib.hid (puBad_val 16 18446744073709551616 acc d bs _ c (by omega) hdec hov hdv)
       have iov:18446744073709551616≤a * 16+((c.toNat:Int) - 48):=by omega
       have hwr:IntKind.u64.wrap (a * 16+((c.toNat:Int) - 48))=a * 16+((c.toNat:Int) - 48) - 18446744073709551616:=by
        rw [IntKind.wrap_u64]
        omega
       clear hd hbd hcut hacc hdec ha hdv hov
       go_wp2
       all_goals (go_ret2;exact ⟨HD.out _ ⟨_,_,.inl rfl,rfl⟩,hb⟩)
      ·have hF:Lx.valF 16 acc (c :: bs.drop (k+1))=Lx.valF 16 (16 * acc+d) (bs.drop (k+1)):=by rw [Lx.valF,if_pos ⟨hhx,by rw [hdv];omega⟩,hdv]
       have HN:Hid (a * 16+((c.toNat:Int) - 48)=((16 * acc+d:Nat):Int)∧16 * acc+d < 18446744073709551616∧Lx.valF 16 0 bs=Lx.valF 16 (16 * acc+d) (bs.drop (k+1))):=Lib.hid ⟨by omega,by omega,hdec.trans hF⟩
       have iov:a * 16+((c.toNat:Int) - 48) < 18446744073709551616:=by omega
       clear hd hbd hcut hacc hF hov hdec ha hdv
       go_wp2
       all_goals refine ⟨⟨k+1,16 * acc+d,a * 16+((c.toNat:Int) - 48),rfl,(by first | rfl | (congr 1;omega)),(by first | rfl | (congr 1;omega)),by omega,HN,hb⟩,by simp [intOf];omega⟩
   ·obtain ⟨d,hd⟩:∃ d,d=lc - 87:=⟨_,rfl⟩
    rw [← hd] at hdv
    replace hd:(d:Int)=(lc:Int) - 97+10:=by omega
    have HDI:=Lib.hid hd
    by_cases hbd:16≤d
    ·have HD:=Lib.hid (puBad_dig 16 18446744073709551616 acc d bs _ c hdec hdv hbd)
     have ibd:(16:Int)≤(lc:Int) - 97+10:=by omega
     clear hd hbd hdec hacc ha hdv
     go_wp2_with (go_at_call 128;refine (lower_any _ _ hlc _).mono ?_;rintro e w2 ⟨rfl,rfl⟩)
     all_goals (go_ret2;exact ⟨HD.out _ ⟨_,_,.inr rfl,rfl⟩,hb⟩)
    ·have ibd:(lc:Int) - 97+10 < (16:Int):=by omega
     by_cases hcut:1152921504606846976≤acc
     ·have HD:=Lib.hid (puBad_val 16 18446744073709551616 acc d bs _ c (by omega) hdec (by omega) hdv)
      have icut:1152921504606846976≤a:=by omega
      clear hd hbd hcut hacc hdec ha hdv
      go_wp2_with (go_at_call 128;refine (lower_any _ _ hlc _).mono ?_;rintro e w2 ⟨rfl,rfl⟩)
      all_goals (go_ret2;exact ⟨HD.out _ ⟨_,_,.inl rfl,rfl⟩,hb⟩)
     ·have icut:a < 1152921504606846976:=by omega
      by_cases hov:18446744073709551616≤16 * acc+d
      ·have HD:=Lib.hid (puBad_val 16 18446744073709551616 acc d bs _ c (by omega) hdec hov hdv)
       have iov:18446744073709551616≤a * 16+((lc:Int) - 97+10):=by omega
       have hwr:IntKind.u64.wrap (a * 16+((lc:Int) - 97+10))=a * 16+((lc:Int) - 97+10) - 18446744073709551616:=by
        rw [IntKind.wrap_u64]
        omega
       clear hd hbd hcut hacc hdec ha hdv hov
       go_wp2_with (go_at_call 128;refine (lower_any _ _ hlc _).mono ?_;rintro e w2 ⟨rfl,rfl⟩)
       all_goals (go_ret2;exact ⟨HD.out _ ⟨_,_,.inl rfl,rfl⟩,hb⟩)
      ·have hF:Lx.valF 16 acc (c :: bs.drop (k+1))=Lx.valF 16 (16 * acc+d) (bs.drop (k+1)):=by rw [Lx.valF,if_pos ⟨hhx,by rw [hdv];omega⟩,hdv]
       have HN:Hid (a * 16+((lc:Int) - 97+10)=((16 * acc+d:Nat):Int)∧16 * acc+d < 18446744073709551616∧Lx.valF 16 0 bs=Lx.valF 16 (16 * acc+d) (bs.drop (k+1))):=Lib.hid ⟨by omega,by omega,hdec.trans hF⟩
       have iov:a * 16+((lc:Int) - 97+10) < 18446744073709551616:=by omega
       clear hd hbd hcut hacc hF hov hdec ha hdv
       go_wp2_with (go_at_call 128;refine (lower_any _ _ hlc _).mono ?_;rintro e w2 ⟨rfl,rfl⟩)
       all_goals refine ⟨⟨k+1,16 * acc+d,a * 16+((lc:Int) - 97+10),rfl,(by first | rfl | (congr 1;omega)),(by first | rfl | (congr 1;omega)),by omega,HN,hb⟩,by simp [intOf];omega⟩
  ·have hkk:k=s.size:=by omega
   subst hkk
   have hF:Lx.valF 16 acc (bs.drop s.size)=some acc:=by rw [List.drop_eq_nil_of_le (by omega)];rfl
   rw [hF] at hdec
   have HD:Hid (∀ e,e=Ending.returned (.tuple #[.int .u64 a,.nilIface])→PuPost 16 18446744073709551616 bs e):=Lib.hid fun e he=>by
    unfold PuPost
    rw [hdec]
    simp only
    rw [if_pos hacc,he,ha]
   clear hacc hF hdec ha hB hx
   go_wp2
   go_ret2
   exact ⟨HD.out _ rfl,hb⟩
set_option maxHeartbeats 32000000 in
set_option maxRecDepth 100000 in
theorem pu_16_8 (s:ByteArray) (hmax:s.size≤9223372036854775806) (h0:s.size≠0) (hx:∀ c∈s.data.toList,Lx.isHex c=true) (w:World) :
  Calls Tryz.prog 104 #[.string s,.int .i64 16,.int .i64 8] w fun e w'=>PuPost 16 256 s.data.toList e∧Below w.heap.size w w':=by
 have hemp:s.toList.isEmpty=false:=by
  rw [← decide_eq_emptyBytes]
  exact decide_eq_false (fun h=>h0 (by rw [h];rfl))
 have hcv:=Lib.run_convert_string_bytes (P:=Tryz.prog) w 9 83 5 s Tryz.underlying9 Tryz.underlying83 Tryz.underlying5
 have hB:∀ j,j < s.size→(Lib.bytesWorld w 5 s).cell? ⟨w.heap.size,j,none⟩=some (.int .u8 (s.data.toList.getD j 0).toNat):=fun j hj=>Lib.bytesWorld_cell w 5 s j hj
 have hbw:Below w.heap.size w (Lib.bytesWorld w 5 s):=⟨rfl,rfl,rfl,by rw [Lib.bytesWorld_size];omega,fun j hj=>Lib.bytesWorld_at_old w 5 s j hj⟩
 obtain ⟨W1,hW1⟩:∃ W1,W1=Lib.bytesWorld w 5 s:=⟨_,rfl⟩
 rw [← hW1] at hcv hB hbw
 clear hW1
 obtain ⟨bs,hL⟩:∃ bs,bs=s.data.toList:=⟨_,rfl⟩
 have hLn:bs.length=s.size:=by rw [hL,Lib.size_eq]
 rw [← hL] at hB hx ⊢
 clear hL
 go_enter Tryz.func104,Tryz.ntmps104
 go_wp2
 go_loop [12,13,101] (fun vu vn vi=>∃ (k acc:Nat) (a:Int),vu=.bool false∧vn=.int .u64 a∧vi=.int .i64 k∧k≤s.size∧Hid (a=(acc:Int)∧acc < 256∧Lx.valF 16 0 bs=Lx.valF 16 acc (bs.drop k))∧Below w.heap.size w W1)
  (fun _ _ vi=>s.size - (intOf vi).toNat)
 case atStart=>exact ⟨0,0,0,rfl,rfl,rfl,by omega,⟨rfl,by omega,rfl⟩,hbw⟩
 case round =>
  obtain ⟨k,acc,a,rfl,rfl,rfl,hk,hh,hb⟩:=hrel
  obtain ⟨ha,hacc,hdec⟩:=hh.out
  clear hh
  have a0:0≤a:=by omega
  have a1:a < 18446744073709551616:=by omega
  by_cases hkn:k < s.size
  ·have hc:=hB k hkn
   have hdrop:bs.drop k=bs[k]'(by omega) :: bs.drop (k+1):=List.drop_eq_getElem_cons (by omega)
   have hget:bs.getD k 0=bs[k]'(by omega):=by simp [List.getD,List.getElem?_eq_getElem (show k < bs.length by omega)]
   have hhx:=hx _ (List.getElem_mem (show k < bs.length by omega))
   rw [hdrop] at hdec
   rw [hget] at hc
   generalize bs[k]'(by omega)=c at hc hdec hhx
   have hc256:c.toNat < 256:=c.toNat_lt
   clear hB hdrop hget hx
   rcases hex_cases c hhx with ⟨hd0,hd1,hdv⟩ | ⟨hd0,hd95,lc,hl0,hl1,hlc,hdv⟩
   ·obtain ⟨d,hd⟩:∃ d,d=c.toNat - 48:=⟨_,rfl⟩
    rw [← hd] at hdv
    replace hd:(d:Int)=c.toNat - 48:=by omega
    have HDI:=Lib.hid hd
    by_cases hbd:16≤d
    ·have HD:=Lib.hid (puBad_dig 16 256 acc d bs _ c hdec hdv hbd)
     have ibd:(16:Int)≤(c.toNat:Int) - 48:=by omega
     clear hd hbd hdec hacc ha hdv
     go_wp2
     all_goals (go_ret2;exact ⟨HD.out _ ⟨_,_,.inr rfl,rfl⟩,hb⟩)
    ·have ibd:(c.toNat:Int) - 48 < (16:Int):=by omega
     by_cases hcut:1152921504606846976≤acc
     ·have HD:=Lib.hid (puBad_val 16 256 acc d bs _ c (by omega) hdec (by omega) hdv)
      have icut:1152921504606846976≤a:=by omega
      clear hd hbd hcut hacc hdec ha hdv
      go_wp2
      all_goals (go_ret2;exact ⟨HD.out _ ⟨_,_,.inl rfl,rfl⟩,hb⟩)
     ·have icut:a < 1152921504606846976:=by omega
      by_cases hov:256≤16 * acc+d
      ·have HD:=Lib.hid (puBad_val 16 256 acc d bs _ c (by omega) hdec hov hdv)
       have iov:256≤a * 16+((c.toNat:Int) - 48):=by omega
       clear hd hbd hcut hacc hdec ha hdv hov
       go_wp2
       all_goals (go_ret2;exact ⟨HD.out _ ⟨_,_,.inl rfl,rfl⟩,hb⟩)
      ·have hF:Lx.valF 16 acc (c :: bs.drop (k+1))=Lx.valF 16 (16 * acc+d) (bs.drop (k+1)):=by rw [Lx.valF,if_pos ⟨hhx,by rw [hdv];omega⟩,hdv]
       have HN:Hid (a * 16+((c.toNat:Int) - 48)=((16 * acc+d:Nat):Int)∧16 * acc+d < 256∧Lx.valF 16 0 bs=Lx.valF 16 (16 * acc+d) (bs.drop (k+1))):=Lib.hid ⟨by omega,by omega,hdec.trans hF⟩
       have iov:a * 16+((c.toNat:Int) - 48) < 256:=by omega
       clear hd hbd hcut hacc hF hov hdec ha hdv
       go_wp2
       all_goals refine ⟨⟨k+1,16 * acc+d,a * 16+((c.toNat:Int) - 48),rfl,(by first | rfl | (congr 1;omega)),(by first | rfl | (congr 1;omega)),by omega,HN,hb⟩,by simp [intOf];omega⟩
   ·obtain ⟨d,hd⟩:∃ d,d=lc - 87:=⟨_,rfl⟩
    rw [← hd] at hdv
    replace hd:(d:Int)=(lc:Int) - 97+10:=by omega
    have HDI:=Lib.hid hd
    by_cases hbd:16≤d
    ·have HD:=Lib.hid (puBad_dig 16 256 acc d bs _ c hdec hdv hbd)
     have ibd:(16:Int)≤(lc:Int) - 97+10:=by omega
     clear hd hbd hdec hacc ha hdv
     go_wp2_with (go_at_call 128;refine (lower_any _ _ hlc _).mono ?_;rintro e w2 ⟨rfl,rfl⟩)
     all_goals (go_ret2;exact ⟨HD.out _ ⟨_,_,.inr rfl,rfl⟩,hb⟩)
    ·have ibd:(lc:Int) - 97+10 < (16:Int):=by omega
     by_cases hcut:1152921504606846976≤acc
     ·have HD:=Lib.hid (puBad_val 16 256 acc d bs _ c (by omega) hdec (by omega) hdv)
      have icut:1152921504606846976≤a:=by omega
      clear hd hbd hcut hacc hdec ha hdv
      go_wp2_with (go_at_call 128;refine (lower_any _ _ hlc _).mono ?_;rintro e w2 ⟨rfl,rfl⟩)
      all_goals (go_ret2;exact ⟨HD.out _ ⟨_,_,.inl rfl,rfl⟩,hb⟩)
     ·have icut:a < 1152921504606846976:=by omega
      by_cases hov:256≤16 * acc+d
      ·have HD:=Lib.hid (puBad_val 16 256 acc d bs _ c (by omega) hdec hov hdv)
       have iov:256≤a * 16+((lc:Int) - 97+10):=by omega
       clear hd hbd hcut hacc hdec ha hdv hov
       go_wp2_with (go_at_call 128;refine (lower_any _ _ hlc _).mono ?_;rintro e w2 ⟨rfl,rfl⟩)
       all_goals (go_ret2;exact ⟨HD.out _ ⟨_,_,.inl rfl,rfl⟩,hb⟩)
      ·have hF:Lx.valF 16 acc (c :: bs.drop (k+1))=Lx.valF 16 (16 * acc+d) (bs.drop (k+1)):=by rw [Lx.valF,if_pos ⟨hhx,by rw [hdv];omega⟩,hdv]
       have HN:Hid (a * 16+((lc:Int) - 97+10)=((16 * acc+d:Nat):Int)∧16 * acc+d < 256∧Lx.valF 16 0 bs=Lx.valF 16 (16 * acc+d) (bs.drop (k+1))):=Lib.hid ⟨by omega,by omega,hdec.trans hF⟩
       have iov:a * 16+((lc:Int) - 97+10) < 256:=by omega
       clear hd hbd hcut hacc hF hov hdec ha hdv
       go_wp2_with (go_at_call 128;refine (lower_any _ _ hlc _).mono ?_;rintro e w2 ⟨rfl,rfl⟩)
       all_goals refine ⟨⟨k+1,16 * acc+d,a * 16+((lc:Int) - 97+10),rfl,(by first | rfl | (congr 1;omega)),(by first | rfl | (congr 1;omega)),by omega,HN,hb⟩,by simp [intOf];omega⟩
  ·have hkk:k=s.size:=by omega
   subst hkk
   have hF:Lx.valF 16 acc (bs.drop s.size)=some acc:=by rw [List.drop_eq_nil_of_le (by omega)];rfl
   rw [hF] at hdec
   have HD:Hid (∀ e,e=Ending.returned (.tuple #[.int .u64 a,.nilIface])→PuPost 16 256 bs e):=Lib.hid fun e he=>by
    unfold PuPost
    rw [hdec]
    simp only
    rw [if_pos hacc,he,ha]
   clear hacc hF hdec ha hB hx
   go_wp2
   go_ret2
   exact ⟨HD.out _ rfl,hb⟩
def BadPub (e:Ending):Prop:=∃ (v:Int) (n:Nat),e=.returned (.tuple #[.int .u64 v,.iface 151 (.pointer (some ⟨n,0,none⟩))])
def PubPost (base lim:Nat) (bs:List UInt8) (e:Ending):Prop :=
 match Lx.valF base 0 bs with
 | none=>BadPub e
 | some n=>if n < lim then e=.returned (.tuple #[.int .u64 (n:Int),.nilIface]) else BadPub e
open Lx (okVal)
theorem puPost_iff (base lim:Nat) (bs:List UInt8) (e:Ending):PuPost base lim bs e↔match okVal base lim bs with | some n=>e=.returned (.tuple #[.int .u64 (n:Int),.nilIface]) | none=>BadPu e:=by
 unfold PuPost okVal
 cases Lx.valF base 0 bs with
 | none=>rfl
 | some n=>by_cases h:n < lim <;> simp [h]
theorem pubPost_iff (base lim:Nat) (bs:List UInt8) (e:Ending):PubPost base lim bs e↔match okVal base lim bs with | some n=>e=.returned (.tuple #[.int .u64 (n:Int),.nilIface]) | none=>BadPub e:=by
 unfold PubPost okVal
 cases Lx.valF base 0 bs with
 | none=>rfl
 | some n=>by_cases h:n < lim <;> simp [h]
set_option maxHeartbeats 1000000 in
theorem pub_8_63 (s:ByteArray) (hmax:s.size≤140737488355328) (h0:s.size≠0) (hx:∀ c∈s.data.toList,Lx.isHex c=true) (w:World) (hg:GW w) :
  Calls Tryz.prog 83 #[.string s,.int .i64 8,.int .i64 63] w fun e w'=>PubPost 8 9223372036854775808 s.data.toList e∧Below w.heap.size w w':=by
 have hpu:=fun W=>pu_8_63 s (by omega) h0 hx W
 simp only [puPost_iff,pubPost_iff] at hpu ⊢
 cases hv:okVal 8 9223372036854775808 s.data.toList with
 | some n =>
  simp only [hv] at hpu ⊢
  have HPU:=Lib.hid hpu
  have HV:=Lib.hid hv
  clear hpu hv hx
  go_enter Tryz.func83,Tryz.ntmps83
  go_wp2_with (go_at_call 104;refine (HPU.out _).mono ?_;rintro e w1 ⟨rfl,hb1⟩)
  go_ret2
  exact ⟨rfl,hb1⟩
 | none =>
  simp only [hv] at hpu ⊢
  have HPU:=Lib.hid hpu
  have HV:=Lib.hid hv
  clear hpu hv hx
  go_enter Tryz.func83,Tryz.ntmps83
  go_wp2_with fail
  refine (HPU.out _).mono ?_
  rintro e w1 ⟨⟨v,c,hc,rfl⟩,hb1⟩
  have hg1:=hg.below hb1 (Nat.le_refl _)
  obtain ⟨t4,p4,h4⟩:=hg1.syn
  obtain ⟨t5,p5,h5⟩:=hg1.rng
  rcases hc with rfl | rfl
  ·go_wp2_with (go_at_call 105;refine (Tryz.strconv_toError_range _ s _ _ _ w1 (by omega) h5 (.inr ⟨_,_,rfl⟩)).mono ?_;rintro e w2 ⟨n,rfl,hn,hn2,hb2⟩)
   go_ret2
   exact ⟨⟨_,_,rfl⟩,hb1.trans (hb2.mono hb1.size)⟩
  ·go_wp2_with (go_at_call 105;refine (Tryz.strconv_toError_syntax _ s _ _ _ w1 (by omega) h4 (.inr ⟨_,_,rfl⟩)).mono ?_;rintro e w2 ⟨n,rfl,hn,hn2,hb2⟩)
   go_ret2
   exact ⟨⟨_,_,rfl⟩,hb1.trans (hb2.mono hb1.size)⟩
set_option maxHeartbeats 1000000 in
theorem pub_8_64 (s:ByteArray) (hmax:s.size≤140737488355328) (h0:s.size≠0) (hx:∀ c∈s.data.toList,Lx.isHex c=true) (w:World) (hg:GW w) :
  Calls Tryz.prog 83 #[.string s,.int .i64 8,.int .i64 64] w fun e w'=>PubPost 8 18446744073709551616 s.data.toList e∧Below w.heap.size w w':=by
 have hpu:=fun W=>pu_8_64 s (by omega) h0 hx W
 simp only [puPost_iff,pubPost_iff] at hpu ⊢
 cases hv:okVal 8 18446744073709551616 s.data.toList with
 | some n =>
  simp only [hv] at hpu ⊢
  have HPU:=Lib.hid hpu
  have HV:=Lib.hid hv
  clear hpu hv hx
  go_enter Tryz.func83,Tryz.ntmps83
  go_wp2_with (go_at_call 104;refine (HPU.out _).mono ?_;rintro e w1 ⟨rfl,hb1⟩)
  go_ret2
  exact ⟨rfl,hb1⟩
 | none =>
  simp only [hv] at hpu ⊢
  have HPU:=Lib.hid hpu
  have HV:=Lib.hid hv
  clear hpu hv hx
  go_enter Tryz.func83,Tryz.ntmps83
  go_wp2_with fail
  refine (HPU.out _).mono ?_
  rintro e w1 ⟨⟨v,c,hc,rfl⟩,hb1⟩
  have hg1:=hg.below hb1 (Nat.le_refl _)
  obtain ⟨t4,p4,h4⟩:=hg1.syn
  obtain ⟨t5,p5,h5⟩:=hg1.rng
  rcases hc with rfl | rfl
  ·go_wp2_with (go_at_call 105;refine (Tryz.strconv_toError_range _ s _ _ _ w1 (by omega) h5 (.inr ⟨_,_,rfl⟩)).mono ?_;rintro e w2 ⟨n,rfl,hn,hn2,hb2⟩)
   go_ret2
   exact ⟨⟨_,_,rfl⟩,hb1.trans (hb2.mono hb1.size)⟩
  ·go_wp2_with (go_at_call 105;refine (Tryz.strconv_toError_syntax _ s _ _ _ w1 (by omega) h4 (.inr ⟨_,_,rfl⟩)).mono ?_;rintro e w2 ⟨n,rfl,hn,hn2,hb2⟩)
   go_ret2
   exact ⟨⟨_,_,rfl⟩,hb1.trans (hb2.mono hb1.size)⟩
set_option maxHeartbeats 1000000 in
theorem pub_10_63 (s:ByteArray) (hmax:s.size≤140737488355328) (h0:s.size≠0) (hx:∀ c∈s.data.toList,Lx.isHex c=true) (w:World) (hg:GW w) :
  Calls Tryz.prog 83 #[.string s,.int .i64 10,.int .i64 63] w fun e w'=>PubPost 10 9223372036854775808 s.data.toList e∧Below w.heap.size w w':=by
 have hpu:=fun W=>pu_10_63 s (by omega) h0 hx W
 simp only [puPost_iff,pubPost_iff] at hpu ⊢
 cases hv:okVal 10 9223372036854775808 s.data.toList with
 | some n =>
  simp only [hv] at hpu ⊢
  have HPU:=Lib.hid hpu
  have HV:=Lib.hid hv
  clear hpu hv hx
  go_enter Tryz.func83,Tryz.ntmps83
  go_wp2_with (go_at_call 104;refine (HPU.out _).mono ?_;rintro e w1 ⟨rfl,hb1⟩)
  go_ret2
  exact ⟨rfl,hb1⟩
 | none =>
  simp only [hv] at hpu ⊢
  have HPU:=Lib.hid hpu
  have HV:=Lib.hid hv
  clear hpu hv hx
  go_enter Tryz.func83,Tryz.ntmps83
  go_wp2_with fail
  refine (HPU.out _).mono ?_
  rintro e w1 ⟨⟨v,c,hc,rfl⟩,hb1⟩
  have hg1:=hg.below hb1 (Nat.le_refl _)
  obtain ⟨t4,p4,h4⟩:=hg1.syn
  obtain ⟨t5,p5,h5⟩:=hg1.rng
  rcases hc with rfl | rfl
  ·go_wp2_with (go_at_call 105;refine (Tryz.strconv_toError_range _ s _ _ _ w1 (by omega) h5 (.inr ⟨_,_,rfl⟩)).mono ?_;rintro e w2 ⟨n,rfl,hn,hn2,hb2⟩)
   go_ret2
   exact ⟨⟨_,_,rfl⟩,hb1.trans (hb2.mono hb1.size)⟩
  ·go_wp2_with (go_at_call 105;refine (Tryz.strconv_toError_syntax _ s _ _ _ w1 (by omega) h4 (.inr ⟨_,_,rfl⟩)).mono ?_;rintro e w2 ⟨n,rfl,hn,hn2,hb2⟩)
   go_ret2
   exact ⟨⟨_,_,rfl⟩,hb1.trans (hb2.mono hb1.size)⟩
set_option maxHeartbeats 1000000 in
theorem pub_10_64 (s:ByteArray) (hmax:s.size≤140737488355328) (h0:s.size≠0) (hx:∀ c∈s.data.toList,Lx.isHex c=true) (w:World) (hg:GW w) :
  Calls Tryz.prog 83 #[.string s,.int .i64 10,.int .i64 64] w fun e w'=>PubPost 10 18446744073709551616 s.data.toList e∧Below w.heap.size w w':=by
 have hpu:=fun W=>pu_10_64 s (by omega) h0 hx W
 simp only [puPost_iff,pubPost_iff] at hpu ⊢
 cases hv:okVal 10 18446744073709551616 s.data.toList with
 | some n =>
  simp only [hv] at hpu ⊢
  have HPU:=Lib.hid hpu
  have HV:=Lib.hid hv
  clear hpu hv hx
  go_enter Tryz.func83,Tryz.ntmps83
  go_wp2_with (go_at_call 104;refine (HPU.out _).mono ?_;rintro e w1 ⟨rfl,hb1⟩)
  go_ret2
  exact ⟨rfl,hb1⟩
 | none =>
  simp only [hv] at hpu ⊢
  have HPU:=Lib.hid hpu
  have HV:=Lib.hid hv
  clear hpu hv hx
  go_enter Tryz.func83,Tryz.ntmps83
  go_wp2_with fail
  refine (HPU.out _).mono ?_
  rintro e w1 ⟨⟨v,c,hc,rfl⟩,hb1⟩
  have hg1:=hg.below hb1 (Nat.le_refl _)
  obtain ⟨t4,p4,h4⟩:=hg1.syn
  obtain ⟨t5,p5,h5⟩:=hg1.rng
  rcases hc with rfl | rfl
  ·go_wp2_with (go_at_call 105;refine (Tryz.strconv_toError_range _ s _ _ _ w1 (by omega) h5 (.inr ⟨_,_,rfl⟩)).mono ?_;rintro e w2 ⟨n,rfl,hn,hn2,hb2⟩)
   go_ret2
   exact ⟨⟨_,_,rfl⟩,hb1.trans (hb2.mono hb1.size)⟩
  ·go_wp2_with (go_at_call 105;refine (Tryz.strconv_toError_syntax _ s _ _ _ w1 (by omega) h4 (.inr ⟨_,_,rfl⟩)).mono ?_;rintro e w2 ⟨n,rfl,hn,hn2,hb2⟩)
   go_ret2
   exact ⟨⟨_,_,rfl⟩,hb1.trans (hb2.mono hb1.size)⟩
set_option maxHeartbeats 1000000 in
theorem pub_16_63 (s:ByteArray) (hmax:s.size≤140737488355328) (h0:s.size≠0) (hx:∀ c∈s.data.toList,Lx.isHex c=true) (w:World) (hg:GW w) :
  Calls Tryz.prog 83 #[.string s,.int .i64 16,.int .i64 63] w fun e w'=>PubPost 16 9223372036854775808 s.data.toList e∧Below w.heap.size w w':=by
 have hpu:=fun W=>pu_16_63 s (by omega) h0 hx W
 simp only [puPost_iff,pubPost_iff] at hpu ⊢
 cases hv:okVal 16 9223372036854775808 s.data.toList with
 | some n =>
  simp only [hv] at hpu ⊢
  have HPU:=Lib.hid hpu
  have HV:=Lib.hid hv
  clear hpu hv hx
  go_enter Tryz.func83,Tryz.ntmps83
  go_wp2_with (go_at_call 104;refine (HPU.out _).mono ?_;rintro e w1 ⟨rfl,hb1⟩)
  go_ret2
  exact ⟨rfl,hb1⟩
 | none =>
  simp only [hv] at hpu ⊢
  have HPU:=Lib.hid hpu
  have HV:=Lib.hid hv
  clear hpu hv hx
  go_enter Tryz.func83,Tryz.ntmps83
  go_wp2_with fail
  refine (HPU.out _).mono ?_
  rintro e w1 ⟨⟨v,c,hc,rfl⟩,hb1⟩
  have hg1:=hg.below hb1 (Nat.le_refl _)
  obtain ⟨t4,p4,h4⟩:=hg1.syn
  obtain ⟨t5,p5,h5⟩:=hg1.rng
  rcases hc with rfl | rfl
  ·go_wp2_with (go_at_call 105;refine (Tryz.strconv_toError_range _ s _ _ _ w1 (by omega) h5 (.inr ⟨_,_,rfl⟩)).mono ?_;rintro e w2 ⟨n,rfl,hn,hn2,hb2⟩)
   go_ret2
   exact ⟨⟨_,_,rfl⟩,hb1.trans (hb2.mono hb1.size)⟩
  ·go_wp2_with (go_at_call 105;refine (Tryz.strconv_toError_syntax _ s _ _ _ w1 (by omega) h4 (.inr ⟨_,_,rfl⟩)).mono ?_;rintro e w2 ⟨n,rfl,hn,hn2,hb2⟩)
   go_ret2
   exact ⟨⟨_,_,rfl⟩,hb1.trans (hb2.mono hb1.size)⟩
set_option maxHeartbeats 1000000 in
theorem pub_16_64 (s:ByteArray) (hmax:s.size≤140737488355328) (h0:s.size≠0) (hx:∀ c∈s.data.toList,Lx.isHex c=true) (w:World) (hg:GW w) :
  Calls Tryz.prog 83 #[.string s,.int .i64 16,.int .i64 64] w fun e w'=>PubPost 16 18446744073709551616 s.data.toList e∧Below w.heap.size w w':=by
 have hpu:=fun W=>pu_16_64 s (by omega) h0 hx W
 simp only [puPost_iff,pubPost_iff] at hpu ⊢
 cases hv:okVal 16 18446744073709551616 s.data.toList with
 | some n =>
  simp only [hv] at hpu ⊢
  have HPU:=Lib.hid hpu
  have HV:=Lib.hid hv
  clear hpu hv hx
  go_enter Tryz.func83,Tryz.ntmps83
  go_wp2_with (go_at_call 104;refine (HPU.out _).mono ?_;rintro e w1 ⟨rfl,hb1⟩)
  go_ret2
  exact ⟨rfl,hb1⟩
 | none =>
  simp only [hv] at hpu ⊢
  have HPU:=Lib.hid hpu
  have HV:=Lib.hid hv
  clear hpu hv hx
  go_enter Tryz.func83,Tryz.ntmps83
  go_wp2_with fail
  refine (HPU.out _).mono ?_
  rintro e w1 ⟨⟨v,c,hc,rfl⟩,hb1⟩
  have hg1:=hg.below hb1 (Nat.le_refl _)
  obtain ⟨t4,p4,h4⟩:=hg1.syn
  obtain ⟨t5,p5,h5⟩:=hg1.rng
  rcases hc with rfl | rfl
  ·go_wp2_with (go_at_call 105;refine (Tryz.strconv_toError_range _ s _ _ _ w1 (by omega) h5 (.inr ⟨_,_,rfl⟩)).mono ?_;rintro e w2 ⟨n,rfl,hn,hn2,hb2⟩)
   go_ret2
   exact ⟨⟨_,_,rfl⟩,hb1.trans (hb2.mono hb1.size)⟩
  ·go_wp2_with (go_at_call 105;refine (Tryz.strconv_toError_syntax _ s _ _ _ w1 (by omega) h4 (.inr ⟨_,_,rfl⟩)).mono ?_;rintro e w2 ⟨n,rfl,hn,hn2,hb2⟩)
   go_ret2
   exact ⟨⟨_,_,rfl⟩,hb1.trans (hb2.mono hb1.size)⟩
set_option maxHeartbeats 1000000 in
theorem pub_16_8 (s:ByteArray) (hmax:s.size≤140737488355328) (h0:s.size≠0) (hx:∀ c∈s.data.toList,Lx.isHex c=true) (w:World) (hg:GW w) :
  Calls Tryz.prog 83 #[.string s,.int .i64 16,.int .i64 8] w fun e w'=>PubPost 16 256 s.data.toList e∧Below w.heap.size w w':=by
 have hpu:=fun W=>pu_16_8 s (by omega) h0 hx W
 simp only [puPost_iff,pubPost_iff] at hpu ⊢
 cases hv:okVal 16 256 s.data.toList with
 | some n =>
  simp only [hv] at hpu ⊢
  have HPU:=Lib.hid hpu
  have HV:=Lib.hid hv
  clear hpu hv hx
  go_enter Tryz.func83,Tryz.ntmps83
  go_wp2_with (go_at_call 104;refine (HPU.out _).mono ?_;rintro e w1 ⟨rfl,hb1⟩)
  go_ret2
  exact ⟨rfl,hb1⟩
 | none =>
  simp only [hv] at hpu ⊢
  have HPU:=Lib.hid hpu
  have HV:=Lib.hid hv
  clear hpu hv hx
  go_enter Tryz.func83,Tryz.ntmps83
  go_wp2_with fail
  refine (HPU.out _).mono ?_
  rintro e w1 ⟨⟨v,c,hc,rfl⟩,hb1⟩
  have hg1:=hg.below hb1 (Nat.le_refl _)
  obtain ⟨t4,p4,h4⟩:=hg1.syn
  obtain ⟨t5,p5,h5⟩:=hg1.rng
  rcases hc with rfl | rfl
  ·go_wp2_with (go_at_call 105;refine (Tryz.strconv_toError_range _ s _ _ _ w1 (by omega) h5 (.inr ⟨_,_,rfl⟩)).mono ?_;rintro e w2 ⟨n,rfl,hn,hn2,hb2⟩)
   go_ret2
   exact ⟨⟨_,_,rfl⟩,hb1.trans (hb2.mono hb1.size)⟩
  ·go_wp2_with (go_at_call 105;refine (Tryz.strconv_toError_syntax _ s _ _ _ w1 (by omega) h4 (.inr ⟨_,_,rfl⟩)).mono ?_;rintro e w2 ⟨n,rfl,hn,hn2,hb2⟩)
   go_ret2
   exact ⟨⟨_,_,rfl⟩,hb1.trans (hb2.mono hb1.size)⟩
end Go.Proofs.YtadgddipkbdnbaaGreatDoor
