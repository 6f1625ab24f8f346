/- Parts of the proof that the program's token functions return what the specification's return. -/
import Derived.Test.YtadgddipkbdnbaaGreatDoorLexTokensZ1
import Derived.Test.YtadgddipkbdnbaaGreatDoorLexTokensZ2
import Derived.Test.YtadgddipkbdnbaaGreatDoorLexTokensZ3
import Derived.Test.YtadgddipkbdnbaaGreatDoorLexTokensZ4
set_option linter.unusedVariables false
set_option linter.unusedSimpArgs false
namespace Go.Proofs.YtadgddipkbdnbaaGreatDoor
open Go.Shelf
def Tryz.lays166_ren:Go.Shelf.Ren:=⟨fun | 166=>66 | 167=>65 | 240=>94 | 276=>111 | n=>n,fun | 31=>50 | 72=>85 | 76=>89 | 70=>82 | 37=>83 | 75=>87 | 127=>117 | 164=>133 | 80=>91 | n=>n,fun | n=>n⟩
theorem Tryz.lays166:Go.Proofs.Lays.n166 Tryz.prog Tryz.lays166_ren:={
 mixed:=by kernel_rfl
 f166:=Tryz.func66.trans (congrArg some (by kernel_rfl))
 f240:=Tryz.func94.trans (congrArg some (by kernel_rfl))
 f276:=Tryz.func111.trans (congrArg some (by kernel_rfl))
 t0:=Tryz.underlying0
 a0:=Tryz.isAgg0
 z0:=Tryz.sizeOf0
 v0:=Tryz.zeroValue0
 t3:=Tryz.underlying3
 a3:=Tryz.isAgg3
 z3:=Tryz.sizeOf3
 v3:=Tryz.zeroValue3
 t4:=Tryz.underlying4
 a4:=Tryz.isAgg4
 z4:=Tryz.sizeOf4
 v4:=Tryz.zeroValue4
 t9:=Tryz.underlying9
 a9:=Tryz.isAgg9
 z9:=Tryz.sizeOf9
 v9:=Tryz.zeroValue9
 t20:=Tryz.underlying20
 a20:=Tryz.isAgg20
 z20:=Tryz.sizeOf20
 v20:=Tryz.zeroValue20
 t37:=Tryz.underlying83
 a37:=Tryz.isAgg83
 z37:=Tryz.sizeOf83
 v37:=Tryz.zeroValue83
 t70:=Tryz.underlying82
 a70:=Tryz.isAgg82
 z70:=Tryz.sizeOf82
 v70:=Tryz.zeroValue82
 t72:=Tryz.underlying85
 a72:=Tryz.isAgg85
 z72:=Tryz.sizeOf85
 v72:=Tryz.zeroValue85
 t75:=Tryz.underlying87
 a75:=Tryz.isAgg87
 z75:=Tryz.sizeOf87
 v75:=Tryz.zeroValue87
 t164:=Tryz.underlying133
 a164:=Tryz.isAgg133
 z164:=Tryz.sizeOf133
 v164:=Tryz.zeroValue133 }
theorem Tryz.Builder_Extra_166:Builder.Extra Tryz.prog Tryz.lays166_ren:={
 sizeBuilder:=by kernel_rfl
 liesBuilder:=by kernel_rfl
 t5:=Tryz.underlying5
 a5:=Tryz.isAgg5
 z5:=Tryz.sizeOf5
 v5:=Tryz.zeroValue5
 infoByte:=by kernel_rfl
 cellsByte:=by kernel_rfl
 sizeByte:=by kernel_rfl
 neB5:=by decide }
def Tryz.lays167_ren:Go.Shelf.Ren:=⟨fun | 166=>66 | 167=>65 | 240=>94 | 276=>111 | n=>n,fun | 31=>50 | 72=>85 | 76=>89 | 70=>82 | 37=>83 | 75=>87 | 127=>117 | 164=>133 | 80=>91 | n=>n,fun | n=>n⟩
theorem Tryz.lays167:Go.Proofs.Lays.n167 Tryz.prog Tryz.lays167_ren:={
 mixed:=by kernel_rfl
 f167:=Tryz.func65.trans (congrArg some (by kernel_rfl))
 f240:=Tryz.func94.trans (congrArg some (by kernel_rfl))
 f276:=Tryz.func111.trans (congrArg some (by kernel_rfl))
 t0:=Tryz.underlying0
 a0:=Tryz.isAgg0
 z0:=Tryz.sizeOf0
 v0:=Tryz.zeroValue0
 t4:=Tryz.underlying4
 a4:=Tryz.isAgg4
 z4:=Tryz.sizeOf4
 v4:=Tryz.zeroValue4
 t5:=Tryz.underlying5
 a5:=Tryz.isAgg5
 z5:=Tryz.sizeOf5
 v5:=Tryz.zeroValue5
 t9:=Tryz.underlying9
 a9:=Tryz.isAgg9
 z9:=Tryz.sizeOf9
 v9:=Tryz.zeroValue9
 t20:=Tryz.underlying20
 a20:=Tryz.isAgg20
 z20:=Tryz.sizeOf20
 v20:=Tryz.zeroValue20
 t37:=Tryz.underlying83
 a37:=Tryz.isAgg83
 z37:=Tryz.sizeOf83
 v37:=Tryz.zeroValue83
 t70:=Tryz.underlying82
 a70:=Tryz.isAgg82
 z70:=Tryz.sizeOf82
 v70:=Tryz.zeroValue82
 t72:=Tryz.underlying85
 a72:=Tryz.isAgg85
 z72:=Tryz.sizeOf85
 v72:=Tryz.zeroValue85
 t75:=Tryz.underlying87
 a75:=Tryz.isAgg87
 z75:=Tryz.sizeOf87
 v75:=Tryz.zeroValue87
 t164:=Tryz.underlying133
 a164:=Tryz.isAgg133
 z164:=Tryz.sizeOf133
 v164:=Tryz.zeroValue133 }
theorem Tryz.Builder_Extra_167:Builder.Extra Tryz.prog Tryz.lays167_ren:={
 sizeBuilder:=by kernel_rfl
 liesBuilder:=by kernel_rfl
 t5:=Tryz.underlying5
 a5:=Tryz.isAgg5
 z5:=Tryz.sizeOf5
 v5:=Tryz.zeroValue5
 infoByte:=by kernel_rfl
 cellsByte:=by kernel_rfl
 sizeByte:=by kernel_rfl
 neB5:=by decide }
open Go.RowKit in
theorem Tryz.Builder_WriteByte_k (B b:Nat) (bs:List Value) (c:Int) (w:World) (h:Lib.IsBuilderF 85 5 B b bs w) (hlen:bs.length+1≤140737488355328) (hBw:B≤w.heap.size) :
  Calls Tryz.prog 65 #[.pointer (some ⟨b,0,none⟩),.int .u8 c] w fun e w'=>e=.returned .nilIface∧(Lib.BuilderAtF 85 5 B b (.pointer (some ⟨b,0,none⟩)) (bs ++ [.int .u8 c]) w'∧Below B w w'∧Lib.OthersKept 5 (some b) w w') :=
 Any.Builder_WriteByte_k Tryz.lays167 Tryz.Builder_Extra_167 B b bs c w h hlen hBw
open Go.RowKit in
theorem Tryz.Builder_WriteString_k (B b:Nat) (bs:List Value) (s:ByteArray) (w:World) (h:Lib.IsBuilderF 85 5 B b bs w) (hlen:bs.length+s.size≤140737488355328) (hBw:B≤w.heap.size) :
  Calls Tryz.prog 66 #[.pointer (some ⟨b,0,none⟩),.string s] w fun e w'=>e=.returned (.tuple #[.int .i64 s.size,.nilIface])∧(Lib.BuilderAtF 85 5 B b (.pointer (some ⟨b,0,none⟩)) (bs ++ Lib.strCells s) w'∧Below B w w'∧Lib.OthersKept 5 (some b) w w') :=
 Any.Builder_WriteString_k Tryz.lays166 Tryz.Builder_Extra_166 B b bs s w h hlen hBw
end Go.Proofs.YtadgddipkbdnbaaGreatDoor
namespace Go.Proofs.YtadgddipkbdnbaaGreatDoor.Q
open Go.RowKit Go.Proofs.YtadgddipkbdnbaaGreatDoor YtadgddipkbdnbaaGreatDoorW.PrintWords YtadgddipkbdnbaaGreatDoorW.PrintLast
def Bl (B b:Nat) (l:List UInt8) (w:World):Prop:=Lib.IsBuilderF 85 5 B b (Lib.byteCells l) w
theorem bl_byte (B b:Nat) (l:List UInt8) (c:UInt8) (w:World) (h:Bl B b l w) (hl:l.length≤1000) (hB:B≤w.heap.size) :
  Calls Tryz.prog 65 #[.pointer (some ⟨b,0,none⟩),.int .u8 (c.toNat:Int)] w fun e w'=>e=.returned .nilIface∧Bl B b (l ++ [c]) w'∧Below B w w':=by
 refine (Tryz.Builder_WriteByte_k B b _ _ w h (by simp [Lib.byteCells];omega) hB).mono ?_
 rintro e w' ⟨rfl,h1,h2,_⟩
 refine ⟨rfl,.inr ?_,h2⟩
 have e:Lib.byteCells (l ++ [c])=Lib.byteCells l ++ [.int .u8 (c.toNat:Int)]:=by simp [Lib.byteCells]
 rw [e];exact h1
theorem bl_str (B b:Nat) (l:List UInt8) (s:ByteArray) (w:World) (h:Bl B b l w) (hl:l.length≤1000) (hs:s.size≤1000) (hB:B≤w.heap.size) :
  Calls Tryz.prog 66 #[.pointer (some ⟨b,0,none⟩),.string s] w fun e w'=>e=.returned (.tuple #[.int .i64 s.size,.nilIface])∧Bl B b (l ++ s.data.toList) w'∧Below B w w':=by
 refine (Tryz.Builder_WriteString_k B b _ _ w h (by simp [Lib.byteCells];omega) hB).mono ?_
 rintro e w' ⟨rfl,h1,h2,_⟩
 refine ⟨rfl,.inr ?_,h2⟩
 have e:Lib.byteCells (l ++ s.data.toList)=Lib.byteCells l ++ Lib.strCells s:=by simp [Lib.byteCells,Lib.strCells]
 rw [e];exact h1
theorem esc5:∀ c:UInt8,(Lib.indexByte [10,9,13,92,34] c=-1∧escB c=if 32≤c∧c≤126 then [c] else [92,120,if c / 16 < 10 then 48+c / 16 else 87+c / 16,if c % 16 < 10 then 48+c % 16 else 87+c % 16]) ∨
  (∃ i:Nat,i < 5∧Lib.indexByte [10,9,13,92,34] c=(i:Int)∧escB c=[92,([110,116,114,92,34]:List UInt8).getD i 0]):=by
 intro c
 revert c
 refine u8_all _ ?_
 decide +kernel
theorem ret_si {a b:ByteArray} {c:Int} (h:a=b):Ending.returned (.tuple #[.string a,.int .i64 c])=.returned (.tuple #[.string b,.int .i64 c]):=by rw [h]
theorem idx5 (c:UInt8) (kk:Int) (h:Lib.indexByte [10,9,13,92,34] c=kk) (w:World) :
  Calls Tryz.prog 64 #[.string ⟨#[10,9,13,92,34]⟩,.int .u8 (c.toNat:Int)] w fun e w'=>e=.returned (.int .i64 kk)∧w'=w:=by
 refine (Tryz.strings_IndexByte ⟨#[10,9,13,92,34]⟩ (c.toNat:Int) w).mono ?_
 rintro e w' ⟨rfl,rfl⟩
 refine ⟨ret_int ?_,rfl⟩
 rw [← h]
 congr 1
 simp
theorem hexdig:∀ (c:UInt8) (h:c.toNat / 16 < (⟨#[48,49,50,51,52,53,54,55,56,57,97,98,99,100,101,102]⟩:ByteArray).size) (h2:c.toNat % 16 < (⟨#[48,49,50,51,52,53,54,55,56,57,97,98,99,100,101,102]⟩:ByteArray).size),
  (⟨#[48,49,50,51,52,53,54,55,56,57,97,98,99,100,101,102]⟩:ByteArray)[c.toNat / 16]=(if c / 16 < 10 then 48+c / 16 else 87+c / 16)∧(⟨#[48,49,50,51,52,53,54,55,56,57,97,98,99,100,101,102]⟩:ByteArray)[c.toNat % 16]=(if c % 16 < 10 then 48+c % 16 else 87+c % 16) :=
 u8_all _ (by decide +kernel)
theorem escB_len (c:UInt8):(escB c).length≤4:=by
 unfold escB
 repeat' split
 all_goals simp
theorem flat_len (l:List UInt8):(l.flatMap escB).length≤4 * l.length:=by
 induction l with
 | nil=>simp
 | cons a l ih=>rw [List.flatMap_cons,List.length_append,List.length_cons];have:=escB_len a;omega
def qk (s:ByteArray) (k:Nat):List UInt8:=34 :: (s.data.toList.take k).flatMap escB
theorem qk_len (s:ByteArray) (k:Nat) (h:s.size≤64):(qk s k).length≤300:=by
 unfold qk
 have:=flat_len (s.data.toList.take k)
 rw [List.length_take,← Lib.size_eq] at this
 simp only [List.length_cons]
 omega
theorem qk_succ (s:ByteArray) (k:Nat) (h:k < s.size):qk s (k+1)=qk s k ++ escB s[k]:=by
 unfold qk
 rw [List.take_add_one,List.getElem?_eq_getElem (by rw [← Lib.size_eq];exact h)]
 simp [List.flatMap_append]
 rfl
set_option maxRecDepth 100000 in
set_option maxHeartbeats 4000000 in
theorem quote_any (s:ByteArray) (w:World) (hs:s.size≤64) (h0:¬ (0:UInt8)∈s.data.toList) :
  Calls Tryz.prog 31 #[.string s] w fun e w'=>e=.returned (.tuple #[.string (strS (quoteB s.data.toList)),.int .i64 0])∧Below w.heap.size w w':=by
 have hz:∀ w,Calls Tryz.prog 64 #[.string s,.int .u8 0] w fun e w'=>e=.returned (.int .i64 (-1))∧w'=w:=by
  intro w
  refine (Tryz.strings_IndexByte s 0 w).mono ?_
  rintro e w' ⟨rfl,rfl⟩
  refine ⟨ret_int ?_,rfl⟩
  rcases (show -1≤Lib.indexByte s.data.toList 0 from Lib.indexByte_ge _ _) |> Int.lt_or_eq_of_le with h1 | h1
  ·exfalso
   obtain ⟨n,hn⟩:=Int.eq_ofNat_of_zero_le (show 0≤Lib.indexByte s.data.toList 0 by omega)
   have:=(Lib.indexByte_some hn).1
   exact h0 (List.mem_of_getElem? this)
  ·exact h1.symm
 have HS:=Lib.hid hs
 have H0:=Lib.hid h0
 clear h0
 have bl0:∀ w:World,Bl w.heap.size w.heap.size [] (w.alloc (.cells #[.pointer none,.slice none 0 0] 85)):=by
  intro w
  exact .inl ⟨Nat.le_refl _,_,heap_alloc_new w _,World.ownsRowF_of (World.ownsRow_nil _ _ _ _),by simp [Value.ownBlock]⟩
 go_enter Tryz.func31,Tryz.ntmps31
 go_wp2_with (first | (go_at_call 64;refine (hz _).mono ?_;rintro e w1 ⟨rfl,rfl⟩) | (go_at_call 65;refine (bl_byte w1.heap.size w1.heap.size [] 34 _ (bl0 w1) (by simp) (by simp)).mono ?_;rintro e w2 ⟨rfl,hbl,hb2⟩))
 have hB:w1.heap.size≤w2.heap.size:=Nat.le_trans (by simp) hb2.size
 have hb1:Below w1.heap.size w1 w2:=((Below.refl _ _).alloc (Nat.le_refl _) _).trans hb2
 go_loopw [16] (fun i wr=>∃ k:Nat,k≤s.size∧i=.int .i64 k∧Bl w1.heap.size w1.heap.size (qk s k) wr∧Below w1.heap.size w1 wr) (fun i _=>s.size - (intOf i).toNat)
 case atStart=>exact ⟨0,by omega,rfl,hbl,hb1⟩
 case round =>
  obtain ⟨k,hk,rfl,hl,hb⟩:=hrel
  have hkl:=qk_len s k HS.out
  by_cases hlt:k < s.size
  ·have hq:=qk_succ s k hlt
   obtain ⟨c,hc⟩:∃ c,c=s[k]:=⟨_,rfl⟩
   have hidx:=esc5 c
   rw [← hc] at hq
   have HC:=Lib.hid hc
   have HQ:=Lib.hid hq
   have HKL:=Lib.hid hkl
   clear hc hq
   rcases hidx with ⟨h1,h2⟩ | ⟨j,hj,h1,h2⟩
   ·have hcall:=fun u=>idx5 c (-1) h1 u
    have h2':=h2
    rw [HC.out] at hcall h2'
    have HE:=Lib.hid h2
    clear h1 h2
    by_cases hp:32≤s[k]∧s[k]≤126
    ·rw [if_pos hp] at h2'
     have hp1:(32:Int)≤(s[k].toNat:Int):=by have:=UInt8.le_iff_toNat_le.1 hp.1;have e:(32:UInt8).toNat=32:=rfl;omega
     have hp2:(s[k].toNat:Int)≤126:=by have:=UInt8.le_iff_toNat_le.1 hp.2;have e:(126:UInt8).toNat=126:=rfl;omega
     have H2:=Lib.hid h2'
     clear h2' hp
     go_wp2_with (first | (go_at_call 64;refine (hcall _).mono ?_;rintro e w3 ⟨rfl,rfl⟩) | (go_at_call 65;refine (bl_byte _ _ _ _ _ hl (by omega) (by have:=hb.size;omega)).mono ?_;rintro e w3 ⟨rfl,hl3,hb3⟩))
     go_roundw
     case rel=>exact ⟨k+1,by omega,by go_num,by rw [HQ.out,HC.out,H2.out];exact hl3,hb.trans hb3⟩
     case measure=>simp [intOf];omega
    ·rw [if_neg hp] at h2'
     have H2:=Lib.hid h2'
     have hlt8:(s[k].toNat:Int) < 256:=by have:=s[k].toNat_lt;omega
     have hp':¬ ((32:Int)≤(s[k].toNat:Int)∧(s[k].toNat:Int)≤126):=fun h=>hp ⟨UInt8.le_iff_toNat_le.2 (by have e:(32:UInt8).toNat=32:=rfl;omega),UInt8.le_iff_toNat_le.2 (by have e:(126:UInt8).toNat=126:=rfl;omega)⟩
     clear h2' hp
     by_cases hp1:(32:Int)≤(s[k].toNat:Int)
     ·have hp2:¬ (s[k].toNat:Int)≤126:=fun h=>hp' ⟨hp1,h⟩
      clear hp'
      go_wp2_with (first | (go_at_call 64;refine (hcall _).mono ?_;rintro e w3 ⟨rfl,rfl⟩) | (go_at_call 66;refine (bl_str _ _ _ _ _ hl (by omega) (by decide) (by have:=hb.size;omega)).mono ?_;rintro e w4 ⟨rfl,hl4,hb4⟩) | (go_at_call 65;refine (bl_byte _ _ _ _ _ hl4 (by have:=HKL.out;simp;omega) (by have:=hb.size;have:=hb4.size;omega)).mono ?_;rintro e w5 ⟨rfl,hl5,hb5⟩) | (go_at_call 65;refine (bl_byte _ _ _ _ _ hl5 (by have:=HKL.out;simp;omega) (by have:=hb.size;have:=hb4.size;have:=hb5.size;omega)).mono ?_;rintro e w6 ⟨rfl,hl6,hb6⟩))
      go_roundw
      case rel=>exact ⟨k+1,by omega,by go_num,by rw [HQ.out,HC.out,H2.out,← (hexdig s[k] (by show _ < 16;omega) (by show _ < 16;omega)).1,← (hexdig s[k] (by show _ < 16;omega) (by show _ < 16;omega)).2];simpa using hl6,hb.trans (hb4.trans (hb5.trans hb6))⟩
      case measure=>simp [intOf];omega
     ·clear hp'
      go_wp2_with (first | (go_at_call 64;refine (hcall _).mono ?_;rintro e w3 ⟨rfl,rfl⟩) | (go_at_call 66;refine (bl_str _ _ _ _ _ hl (by omega) (by decide) (by have:=hb.size;omega)).mono ?_;rintro e w4 ⟨rfl,hl4,hb4⟩) | (go_at_call 65;refine (bl_byte _ _ _ _ _ hl4 (by have:=HKL.out;simp;omega) (by have:=hb.size;have:=hb4.size;omega)).mono ?_;rintro e w5 ⟨rfl,hl5,hb5⟩) | (go_at_call 65;refine (bl_byte _ _ _ _ _ hl5 (by have:=HKL.out;simp;omega) (by have:=hb.size;have:=hb4.size;have:=hb5.size;omega)).mono ?_;rintro e w6 ⟨rfl,hl6,hb6⟩))
      go_roundw
      case rel=>exact ⟨k+1,by omega,by go_num,by rw [HQ.out,HC.out,H2.out,← (hexdig s[k] (by show _ < 16;omega) (by show _ < 16;omega)).1,← (hexdig s[k] (by show _ < 16;omega) (by show _ < 16;omega)).2];simpa using hl6,hb.trans (hb4.trans (hb5.trans hb6))⟩
      case measure=>simp [intOf];omega
   ·have hcall:=fun u=>idx5 c (j:Int) h1 u
    rw [HC.out] at hcall
    clear h1
    rcases (by omega:j=0∨j=1∨j=2∨j=3∨j=4) with rfl | rfl | rfl | rfl | rfl
    all_goals (
     have H2:=Lib.hid h2
     clear h2
     go_wp2_with (first | (go_at_call 64;refine (hcall _).mono ?_;rintro e w3 ⟨rfl,rfl⟩) | (go_at_call 66;refine (bl_str _ _ _ _ _ hl (by omega) (by decide) (by have:=hb.size;omega)).mono ?_;rintro e w3 ⟨rfl,hl3,hb3⟩))
     go_roundw
     case rel=>exact ⟨k+1,by omega,by go_num,by rw [HQ.out,H2.out];exact hl3,hb.trans hb3⟩
     case measure=>simp [intOf];omega)
  ·obtain rfl:k=s.size:=by omega
   have HK:=Lib.hid hkl
   clear hkl
   go_wp2_with (first | (go_at_call 65;refine (bl_byte _ _ _ 34 _ hl (by have:=HK.out;omega) (by have:=hb.size;omega)).mono ?_;rintro e w3 ⟨rfl,hl3,hb3⟩) | (go_at_call 67;refine (Tryz.Builder_String_any_f _ _ _ _ hl3 (by have:=hb.size;have:=hb3.size;omega)).mono ?_;rintro e w4 ⟨rfl,_,hb4⟩))
   go_ret2
   refine ⟨ret_si ?_,hb.trans (hb3.trans hb4)⟩
   have e1:s.data.toList.take s.size=s.data.toList:=List.take_of_length_le (by rw [← Lib.size_eq];exact Nat.le_refl _)
   unfold qk
   rw [e1]
   rfl
set_option maxRecDepth 100000 in
set_option maxHeartbeats 1000000 in
theorem lex_Quote.calls (a0:ByteArray) (r1:ByteArray) (r2:Int) (w:World) (h:lex_Quote.f a0=some (r1,r2)) (hgw:GW w) :
  Calls Tryz.prog 31 #[.string a0] w fun e w'=>e=.returned (.tuple #[.string r1,.int .i64 r2])∧Below w.heap.size w w':=by
 unfold lex_Quote.f at h
 split at h
 ·rename_i hs
  cases h
  go_enter Tryz.func31,Tryz.ntmps31
  go_wp2
  go_ret2
  exact ⟨rfl,Below.refl _ _⟩
 ·rename_i hs
  split at h
  ·rename_i h0
   cases h
   have hz:∀ w,Calls Tryz.prog 64 #[.string a0,.int .u8 0] w fun e w'=>(∃ n:Int,0≤n∧e=.returned (.int .i64 n))∧w'=w:=by
    intro w
    refine (Tryz.strings_IndexByte a0 0 w).mono ?_
    rintro e w' ⟨rfl,rfl⟩
    refine ⟨⟨_,?_,rfl⟩,rfl⟩
    rcases (show -1≤Lib.indexByte a0.data.toList 0 from Lib.indexByte_ge _ _) |> Int.lt_or_eq_of_le with h1 | h1
    ·exact h1
    ·exfalso
     obtain ⟨k,hk⟩:=List.mem_iff_getElem?.1 h0
     exact Lib.indexByte_none h1.symm k hk
   have H0:=Lib.hid h0
   clear h0
   go_enter Tryz.func31,Tryz.ntmps31
   go_wp2_with (go_at_call 64;refine (hz _).mono ?_;rintro e w1 ⟨⟨n,hn,rfl⟩,rfl⟩)
   go_ret2
   exact ⟨rfl,Below.refl _ _⟩
  ·rename_i h0
   cases h
   exact quote_any a0 w (by omega) h0
end Go.Proofs.YtadgddipkbdnbaaGreatDoor.Q
