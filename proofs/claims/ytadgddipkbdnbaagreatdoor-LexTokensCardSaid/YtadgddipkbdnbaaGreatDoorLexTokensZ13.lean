/- Parts of the proof that the program's token functions return what the specification's return. -/
import Derived.Test.YtadgddipkbdnbaaGreatDoorLexTokensZ1
import Derived.Test.YtadgddipkbdnbaaGreatDoorLexTokensZ2
import Derived.Test.YtadgddipkbdnbaaGreatDoorLexTokensZ3
import Derived.Test.YtadgddipkbdnbaaGreatDoorLexTokensZ4
import Derived.Test.YtadgddipkbdnbaaGreatDoorLexTokensZ5
import Derived.Test.YtadgddipkbdnbaaGreatDoorLexTokensZ6
import Derived.Test.YtadgddipkbdnbaaGreatDoorLexTokensZ7
import Derived.Test.YtadgddipkbdnbaaGreatDoorLexTokensZ8
import Derived.Test.YtadgddipkbdnbaaGreatDoorLexTokensZ9
import Derived.Test.YtadgddipkbdnbaaGreatDoorLexTokensZ10
import Derived.Test.YtadgddipkbdnbaaGreatDoorLexTokensZ11
import Derived.Test.YtadgddipkbdnbaaGreatDoorLexTokensZ12
import Derived.Deep.LoopGhost
import Derived.Deep.RegionWith
import Derived.IntWalk
import Derived.Deep.AppendLies
import Derived.Deep.RegionLawGrows
set_option linter.unusedVariables false
set_option linter.unusedSimpArgs false
namespace Go.Proofs.YtadgddipkbdnbaaGreatDoor
open Go.RowKit
theorem strF_fuel (n:Nat):∀ (m:Nat) (r:List UInt8),r.length < n→n≤m→Lx.strF m r=Lx.strF n r:=by
 induction n with
 | zero=>intro m r h;omega
 | succ n ih =>
  intro m r h hm
  obtain ⟨m,rfl⟩:∃ k,m=k+1:=⟨m - 1,by omega⟩
  cases r with
  | nil=>rfl
  | cons c t =>
   rw [Lx.strF,Lx.strF]
   split
   ·rfl
   ·split
    ·rfl
    ·rename_i v k hc
     have:=char_len _ _ _ hc
     rw [ih m _ (by rw [List.length_drop];omega) (by omega)]
def strEnd (l:List UInt8) (e:Nat):Option Nat:=(Lx.strF (l.length+1) (l.drop e)).map fun p=>e+p.2
theorem strEnd_nil (l:List UInt8) (e:Nat) (h:l.length≤e):strEnd l e=none:=by
 unfold strEnd
 rw [List.drop_eq_nil_of_le h]
 rfl
theorem strEnd_quote (l:List UInt8) (e:Nat) (h:e < l.length) (hc:l[e]=34):strEnd l e=some (e+1):=by
 unfold strEnd
 rw [List.drop_eq_getElem_cons h,Lx.strF,if_pos hc]
 rfl
theorem strEnd_bad (l:List UInt8) (e:Nat) (h:e < l.length) (hc:l[e]≠34) (hb:Lx.char (l.drop e)=none):strEnd l e=none:=by
 unfold strEnd
 rw [List.drop_eq_getElem_cons h] at hb ⊢
 rw [Lx.strF,if_neg hc,hb]
 rfl
theorem strEnd_step (l:List UInt8) (e:Nat) (h:e < l.length) (hc:l[e]≠34) (v:UInt8) (k:Nat) (hb:Lx.char (l.drop e)=some (v,k)):strEnd l e=strEnd l (e+k):=by
 have hk:=char_len _ _ _ hb
 unfold strEnd
 have e1:Lx.strF (l.length+1) (l.drop e)=match Lx.strF (l.length+1) (l.drop (e+k)) with
   | none=>none
   | some (vs,m)=>some (v :: vs,k+m):=by
  rw [strF_fuel l.length (l.length+1) (l.drop (e+k)) (by rw [List.length_drop] at hk ⊢;omega) (by omega)]
  rw [List.drop_eq_getElem_cons h] at hb ⊢
  rw [Lx.strF,if_neg hc,hb]
  simp only
  rw [← List.drop_eq_getElem_cons h,List.drop_drop]
  split <;> rename_i h1 <;> simp [h1]
 rw [e1]
 cases Lx.strF (l.length+1) (l.drop (e+k)) with
 | none=>rfl
 | some p=>simp [Nat.add_assoc]
def QuPost (l:List UInt8) (a:Nat) (e:Ending):Prop :=
 match strEnd l (a+1) with
 | some z=>e=.returned (.tuple #[.int .i64 4,.int .i64 (z:Int)])
 | none=>e=.panicked (thrown a 113)
theorem quPost_some {l:List UInt8} {a z:Nat} (h:strEnd l (a+1)=some z) (e:Ending) (he:e=.returned (.tuple #[.int .i64 4,.int .i64 (z:Int)])):QuPost l a e:=by
 unfold QuPost;rw [h];exact he
theorem quPost_none {l:List UInt8} {a:Nat} (h:strEnd l (a+1)=none) (e:Ending) (he:e=.panicked (thrown a 113)):QuPost l a e:=by
 unfold QuPost;rw [h];exact he
set_option maxHeartbeats 2000000 in
theorem quoted_any (b a:Nat) (s:ByteArray) (w:World) (hg:GW w) (h:Scn w b s a) (ha:a < s.size) (hs:s.size≤140737488355328) :
  Calls Tryz.prog 123 #[.pointer (some ⟨b,0,none⟩)] w fun x w'=>QuPost s.data.toList a x∧Below w.heap.size w w':=by
 have h0:=h.text
 have h1:=h.at_
 have hlt:=h.lt
 have HSZ:=Lib.hid (Lib.size_eq s)
 go_enter Tryz.func123,Tryz.ntmps123
 go_wp2
 go_loopw [4] (fun v wr=>∃ e:Nat,v=.int .i64 e∧e≤s.size∧Hid (strEnd s.data.toList (a+1)=strEnd s.data.toList e)∧Below w.heap.size w wr) (fun v _=>s.size - (intOf v).toNat)
 case atStart=>exact ⟨a+1,by go_num,by omega,rfl,Below.refl _ _⟩
 case round =>
  obtain ⟨e,rfl,he,HE,hb⟩:=hrel
  have hsr:=h.below hb hlt
  have hgr:=hg.below hb (Nat.le_refl _)
  have r0:=hsr.text
  have r1:=hsr.at_
  by_cases hlt2:e < s.size
  ·by_cases hq:s[e]=34
   ·have HI:=Lib.hid (quPost_some (l:=s.data.toList) (a:=a) (HE.out.trans (strEnd_quote _ e (by rw [← HSZ.out];exact hlt2) hq)))
    have hq':((s[e].toNat:Int) != 34)=false:=by rw [hq];rfl
    clear hq
    go_wp2
    go_ret2
    exact ⟨HI.out _ (by simp),hb⟩
   ·have hq':((s[e].toNat:Int) != 34)=true:=by
     rw [bne_iff_ne];intro h;exact hq (UInt8.toNat_inj.1 (by simpa using (by omega:s[e].toNat=34)))
    cases hc:Lx.char (s.data.toList.drop e) with
    | none =>
     have HC:=Lib.hid hc
     have HI:=Lib.hid (quPost_none (l:=s.data.toList) (a:=a) (HE.out.trans (strEnd_bad _ e (by rw [← HSZ.out];exact hlt2) hq hc)))
     clear hq hc
     go_wp2_with (first | (go_at_call 53;refine (chBadI s e _ rfl HC.out _ hgr hs he).mono ?_;rintro x w1 ⟨⟨v,n,rfl⟩,hb1⟩) | (go_at_call 74;refine (fail_any b a 113 s _ (hsr.below hb1 hsr.lt)).mono ?_;rintro x w2 ⟨rfl,rfl⟩))
     exact ⟨rfl,HI.out _ rfl,hb.trans (hb1.mono hb.size)⟩
    | some p =>
     obtain ⟨v,k⟩:=p
     have HC:=Lib.hid hc
     have hkl:=char_len _ _ _ hc
     rw [List.length_drop,← HSZ.out] at hkl
     have HS:=Lib.hid (HE.out.trans (strEnd_step _ e (by rw [← HSZ.out];exact hlt2) hq v k hc))
     clear hq hc
     go_wp2_with (first | (go_at_call 53;refine (chOkI s e _ rfl v k HC.out _ hgr hs he).mono ?_;rintro x w1 ⟨rfl,hb1⟩))
     go_roundw
     case rel=>exact ⟨e+k,by go_num,by omega,HS.out,hb.trans (hb1.mono hb.size)⟩
     case measure=>simp [intOf];omega
  ·have HI:=Lib.hid (quPost_none (l:=s.data.toList) (a:=a) (HE.out.trans (strEnd_nil _ e (by rw [← HSZ.out];omega))))
   go_wp2_with (first | (go_at_call 74;refine (fail_any b a 113 s _ hsr).mono ?_;rintro x w2 ⟨rfl,rfl⟩))
   exact ⟨rfl,HI.out _ rfl,hb⟩
def AtW (w:World) (b e:Nat):World:=w.setCell ⟨b,1,none⟩ (.int .i64 (e:Int))
theorem AtW.heap_other (w:World) (b e k:Nat) (h:k≠b):(AtW w b e).heap[k]?=w.heap[k]?:=Below.heap_setCell _ _ _ _ h
theorem AtW.size (w:World) (b e:Nat):(AtW w b e).heap.size=w.heap.size:=by simp [AtW,World.setCell]
theorem AtW.self {w:World} {b a:Nat} (h:w.cell? ⟨b,1,none⟩=some (.int .i64 (a:Int))) (B:Nat):Below B (AtW w b a) w:=by
 refine ⟨rfl,rfl,rfl,by rw [AtW.size];omega,fun k hk=>?_⟩
 by_cases hkb:k=b
 ·subst hkb
  unfold World.cell? at h
  unfold AtW World.setCell
  simp only [Array.getElem?_modify]
  rw [if_pos trivial]
  cases hh:w.heap[k]? with
  | none=>rfl
  | some o =>
   rw [hh] at h
   cases o with
   | cells c t fr =>
    simp only [Option.map_some]
    congr 2
    simp at h
    obtain ⟨hlt,hv⟩:=Array.getElem?_eq_some_iff.1 h
    apply Array.ext
    ·simp
    ·intro i h1 h2
     by_cases hi:i=1
     ·subst hi;simp [hv]
     ·have h3:(c.setIfInBounds 1 (Value.int IntKind.i64 (a:Int)))[i]?=c[i]?:=Array.getElem?_setIfInBounds_ne (Ne.symm hi)
      rw [Array.getElem?_eq_getElem h1,Array.getElem?_eq_getElem (by simpa using h1)] at h3
      exact (Option.some.inj h3).symm
   | _=>simp at h
 ·exact (AtW.heap_other w b a k hkb).symm
theorem AtW.scn {w:World} {b a:Nat} {s:ByteArray} (h:Scn w b s a) (e:Nat):Scn (AtW w b e) b s e where
 text:=by rw [← h.text];exact World.cell?_setCell_other _ _ _ _ (by simp)
 at_:=World.cell?_setCell_same' _ _ _ (by rw [h.at_];rfl)
 free:=by unfold AtW;rw [World.frozen?_setCell];exact h.free
theorem AtW.below {w wr:World} {b e B:Nat} (h:Below B (AtW w b e) wr) (e':Nat) (hb:b < B):Below B (AtW w b e') (AtW wr b e'):=by
 refine ⟨h.os,h.tape,h.output,?_,fun k hk=>?_⟩
 ·have:=h.size
  rw [AtW.size] at this ⊢
  rw [AtW.size];exact this
 ·by_cases hkb:k=b
  ·subst hkb
   have hb':=h.block k hk
   unfold AtW World.setCell at hb' ⊢
   simp only [Array.getElem?_modify,if_true] at hb' ⊢
   rw [hb']
   cases w.heap[k]? with
   | none=>rfl
   | some o=>cases o <;> simp
  ·rw [AtW.heap_other _ _ _ _ hkb,AtW.heap_other _ _ _ _ hkb,h.block k hk,AtW.heap_other _ _ _ _ hkb]
theorem below_at {w wr:World} {b e B:Nat} (h:Below B (AtW w b e) wr) (hb:b < B) (e':Nat):Below B (AtW w b e') (AtW wr b e'):=AtW.below h e' hb
theorem AtW.gw {w:World} (h:GW w) {b:Nat} (hb:10≤b) (e:Nat):GW (AtW w b e):=h.setCell hb _
theorem drop_run (l:List UInt8) (e:Nat):(l.drop e).dropWhile Lx.isBlank=l.drop (runEnd (pB 1) l e):=by
 unfold runEnd
 rw [show pB 1=Lx.isBlank from funext pB_blank,← List.drop_drop]
 have h:=List.takeWhile_append_dropWhile (p:=Lx.isBlank) (l:=l.drop e)
 generalize l.drop e=r at h ⊢
 have h2:=congrArg (List.drop (List.takeWhile Lx.isBlank r).length) h
 rw [List.drop_left] at h2
 exact h2
theorem line_drop:∀ (r:List UInt8),(Lib.indexByte r 10=-1∧r.dropWhile (· != 10)=[])∨(∃ i:Nat,Lib.indexByte r 10=(i:Int)∧i < r.length∧r.dropWhile (· != 10)=r.drop i)
 | []=>.inl ⟨rfl,rfl⟩
 | c :: r=>by
  by_cases hc:c=10
  ·subst hc
   exact .inr ⟨0,rfl,by simp,rfl⟩
  ·have h1:(c == 10)=false:=by simp [hc]
   rcases line_drop r with ⟨h2,h3⟩ | ⟨i,h2,h4,h3⟩
   ·left
    refine ⟨?_,?_⟩
    ·rw [Lib.indexByte,h1,h2];rfl
    ·rw [List.dropWhile_cons,if_pos (by simp [hc]),h3]
   ·right
    refine ⟨i+1,?_,by simp;omega,?_⟩
    ·rw [Lib.indexByte,h1,h2]
     have:((i:Int) == -1)=false:=by rw [beq_eq_false_iff_ne];omega
     simp [this]
    ·rw [List.dropWhile_cons,if_pos (by simp [hc]),h3]
     rfl
theorem block_drop:∀ (r:List UInt8),(Lib.index r [42,47]=-1∧Lx.closed r=none)∨(∃ i:Nat,Lib.index r [42,47]=(i:Int)∧i+2≤r.length∧Lx.closed r=some (r.drop (i+2)))
 | []=>.inl ⟨rfl,rfl⟩
 | [c]=>.inl ⟨by simp [Lib.index,List.isPrefixOf],rfl⟩
 | c :: d :: r=>by
  by_cases hc:c=42∧d=47
  ·obtain ⟨rfl,rfl⟩:=hc
   exact .inr ⟨0,rfl,by simp,by rw [Lx.closed,if_pos ⟨rfl,rfl⟩];rfl⟩
  ·have h1:([42,47]:List UInt8).isPrefixOf (c :: d :: r)=false:=by
    rw [Bool.eq_false_iff]
    intro h
    rw [List.isPrefixOf_iff_prefix] at h
    obtain ⟨x,hx⟩:=h
    simp at hx
    exact hc ⟨hx.1.symm,hx.2.1.symm⟩
   rcases block_drop (d :: r) with ⟨h2,h3⟩ | ⟨i,h2,h4,h3⟩
   ·left
    refine ⟨?_,?_⟩
    ·rw [Lib.index,h1,h2];rfl
    ·rw [Lx.closed,if_neg hc,h3]
   ·right
    refine ⟨i+1,?_,by simp at h4 ⊢;omega,?_⟩
    ·rw [Lib.index,h1,h2]
     have:((i:Int) == -1)=false:=by rw [beq_eq_false_iff_ne];omega
     simp [this]
    ·rw [Lx.closed,if_neg hc,h3]
     rfl
def SkPost (w:World) (b:Nat) (s:ByteArray) (r:List UInt8) (x:Ending) (w':World):Prop :=
 match Lx.skip r with
 | .ok r'=>x=.returned (.tuple #[])∧Below w.heap.size (AtW w b (s.size - r'.length)) w'
 | .error c=>x=.panicked (thrown (s.size - c.length) 113)∧Below w.heap.size (AtW w b (s.size - c.length)) w'
set_option maxHeartbeats 4000000 in
theorem skip_any (b a:Nat) (s:ByteArray) (w:World) (hg:GW w) (h:Scn w b s a) (hb10:10≤b) (ha:a≤s.size) (hs:s.size < 4294967281) :
  Calls Tryz.prog 99 #[.pointer (some ⟨b,0,none⟩)] w (SkPost w b s (s.data.toList.drop a)):=by
 have hlt:=h.lt
 have HSZ:=Lib.hid (Lib.size_eq s)
 have hm:s.size≤maxLen:=by unfold maxLen;omega
 go_enter Tryz.func99,Tryz.ntmps99
 go_wp2
 go_loopg [] (s.size - a) (fun n wr=>∃ e:Nat,e≤s.size∧n=s.size - e∧Hid (Lx.skip (s.data.toList.drop a)=Lx.skip (s.data.toList.drop e))∧Below w.heap.size (AtW w b e) wr)
 case atStart=>exact ⟨a,ha,rfl,rfl,AtW.self h.at_ _⟩
 case round =>
  obtain ⟨e,he,rfl,HE,hb⟩:=hrel
  have hsr:Scn wr b s e:=(AtW.scn h e).below hb hlt
  have hgr:GW wr:=(AtW.gw hg hb10 e).below hb (by rw [AtW.size];omega)
  have r0:=hsr.text
  have r1:=hsr.at_
  have r2:=hsr.free
  obtain ⟨hl1,hl2⟩:=runE_le 1 s e he
  obtain ⟨e1,he1⟩:∃ e1,e1=runE 1 s e:=⟨_,rfl⟩
  rw [← he1] at hl1 hl2
  have HE1:=Lib.hid he1;clear he1
  have hsd:Scn wr.drew b s e:=⟨hsr.text,hsr.at_,hsr.free⟩
  have hbd:Below w.heap.size (AtW w b e) wr.drew:=hb.drew
  go_upto_region 0 with fail
  go_cut [] (fun wx=>Below w.heap.size (AtW w b e1) wx)
  case first =>
   go_region_with (go_at_call 69;refine (run_E s e 1 _ hgr.drew hm he).mono ?_;rw [← HE1.out];rintro x w1 ⟨rfl,hb1⟩;have q1:=(hsd.below hb1 hsd.lt).at_;have q2:=(hsd.below hb1 hsd.lt).free)
   all_goals
    go_wp2
    go_meet
    exact below_at (hbd.trans (hb1.mono (by have:=hbd.size;rw [AtW.size] at this;exact this))) hlt e1
  case rest =>
  have hsc:Scn wc b s e1:=(AtW.scn h e1).below hcut hlt
  have hgc:GW wc:=(AtW.gw hg hb10 e1).below hcut (by rw [AtW.size];omega)
  have r0c:=hsc.text
  have r1c:=hsc.at_
  have r2c:=hsc.free
  obtain ⟨rst,hrst⟩:∃ r,r=s.extract e1 s.size:=⟨_,rfl⟩
  have hrd:rst.data.toList=s.data.toList.drop e1:=by rw [hrst,Lib.extract_to_end]
  have hrl:rst.size=s.size - e1:=by rw [Lib.size_eq,hrd,List.length_drop,← HSZ.out]
  have hsk:=Lx.skip_eq (s.data.toList.drop e)
  rw [drop_run,show runEnd (pB 1) s.data.toList e=e1 from HE1.out.symm,← hrd,← HE.out] at hsk
  have HR:=Lib.hid hrst
  have HRL:=Lib.hid hrl
  have HRD:=Lib.hid hrd
  clear hrst hrl hrd r0 r1 r2 hsd hbd hb hsr hgr
  cases hp1:Lib.hasPrefix rst.data.toList [47,47] with
  | true =>
   obtain ⟨t1,ht1⟩:∃ t1,rst.data.toList=47 :: 47 :: t1:=by
    unfold Lib.hasPrefix at hp1
    rw [List.isPrefixOf_iff_prefix] at hp1
    obtain ⟨x,hx⟩:=hp1
    exact ⟨x,hx.symm⟩
   have hdw:rst.data.toList.dropWhile (· != 10)=t1.dropWhile (· != 10):=by rw [ht1];rfl
   have hlw:=Lx.dropWhile_len (· != 10) t1
   have h2:rst.size=t1.length+2:=by rw [Lib.size_eq,ht1];simp
   have hld:=line_drop rst.data.toList
   rw [ht1] at hsk
   simp only at hsk
   rw [hdw,← Lib.size_eq] at hld
   have HSK:=Lib.hid hsk
   clear hsk ht1 hdw
   rcases hld with ⟨hi,hd⟩ | ⟨i,hi,hil,hd⟩
   ·have HI:=Lib.hid hi
    have HD:=Lib.hid hd
    have hgt:e1+2≤s.size:=by have:=HRL.out;omega
    clear hi hd hlw h2
    go_wp2_with (first | (go_at_call 127;refine (rest_as b e1 s rst HR.out _ hsc hl2).mono ?_;rintro e w1 ⟨rfl,hb1⟩;have q0:=(hsc.below hb1 hsc.lt).text;have q1:=(hsc.below hb1 hsc.lt).at_;have q2:=(hsc.below hb1 hsc.lt).free) | (go_at_call 85;refine (hasPrefix_any _ _ _).mono ?_;rintro e w2 ⟨rfl,rfl⟩) | (go_at_call 64;refine (indexByte_any _ _ _).mono ?_;rintro e w2 ⟨rfl,rfl⟩;rw [show Lib.indexByte rst.data.toList ((10:Int).toNat.toUInt8)=-1 from HI.out]))
    go_roundg (s.size - s.size)
    case rel=>exact ⟨s.size,Nat.le_refl _,rfl,by rw [HSK.out,HD.out,List.drop_eq_nil_of_le (by rw [← HSZ.out];exact Nat.le_refl _)];exact Lib.hid rfl,below_at (hcut.trans (hb1.mono (by have:=hcut.size;rw [AtW.size] at this;exact this))) hlt s.size⟩
    case measure=>omega
   ·have hi2:2≤i:=by rw [hd,List.length_drop,← Lib.size_eq] at hlw;omega
    have HI:=Lib.hid hi
    have HD:=Lib.hid hd
    clear hi hd hlw h2
    have hr:=HRL.out
    have hwi:IntKind.i64.wrap ((e1:Int)+(i:Int))=((e1+i:Nat):Int):=by rw [IntWalk.i64_in _ (by omega)];omega
    go_wp2_with (first | (go_at_call 127;refine (rest_as b e1 s rst HR.out _ hsc hl2).mono ?_;rintro e w1 ⟨rfl,hb1⟩;have q0:=(hsc.below hb1 hsc.lt).text;have q1:=(hsc.below hb1 hsc.lt).at_;have q2:=(hsc.below hb1 hsc.lt).free) | (go_at_call 85;refine (hasPrefix_any _ _ _).mono ?_;rintro e w2 ⟨rfl,rfl⟩) | (go_at_call 64;refine (indexByte_any _ _ _).mono ?_;rintro e w2 ⟨rfl,rfl⟩;rw [show Lib.indexByte rst.data.toList ((10:Int).toNat.toUInt8)=(i:Int) from HI.out]))
    go_roundg (s.size - (e1+i))
    case rel=>exact ⟨e1+i,by omega,rfl,by rw [HSK.out,HD.out,HRD.out,List.drop_drop];exact Lib.hid rfl,below_at (hcut.trans (hb1.mono (by have:=hcut.size;rw [AtW.size] at this;exact this))) hlt (e1+i)⟩
    case measure=>omega
  | false =>
   cases hp2:Lib.hasPrefix rst.data.toList [47,42] with
   | true =>
    obtain ⟨t1,ht1⟩:∃ t1,rst.data.toList=47 :: 42 :: t1:=by
     unfold Lib.hasPrefix at hp2
     rw [List.isPrefixOf_iff_prefix] at hp2
     obtain ⟨x,hx⟩:=hp2
     exact ⟨x,hx.symm⟩
    have h2:rst.size=t1.length+2:=by rw [Lib.size_eq,ht1];simp
    have hx:(rst.extract 2 rst.size).data.toList=t1:=by rw [Lib.extract_to_end,ht1];rfl
    have hld:=block_drop t1
    rw [ht1] at hsk
    simp only at hsk
    rw [← hx] at hld
    have hgt:e1+2≤s.size:=by have:=HRL.out;omega
    have hxl:(rst.extract 2 rst.size).size < 4294967281:=by have:=HRL.out;simp;omega
    have HXL:=Lib.hid hxl
    have HT1:=Lib.hid ht1
    have HX:=Lib.hid hx
    have r2l:(2:Int)≤(rst.size:Int):=by omega
    rcases hld with ⟨hi,hd⟩ | ⟨i,hi,hil,hd⟩
    ·rw [hx] at hd
     rw [hd] at hsk
     simp only at hsk
     have HSK:=Lib.hid hsk
     have HI:=Lib.hid hi
     have H2:=Lib.hid h2
     clear hsk hi hd ht1 hx hxl h2
     go_wp2_with (first | (go_at_call 127;refine (rest_as b e1 s rst HR.out _ hsc hl2).mono ?_;rintro e w1 ⟨rfl,hb1⟩;have q0:=(hsc.below hb1 hsc.lt).text;have q1:=(hsc.below hb1 hsc.lt).at_;have q2:=(hsc.below hb1 hsc.lt).free;have qs:=hsc.below hb1 hsc.lt;have qg:=hgc.below hb1 (Nat.le_refl _)) | (go_at_call 85;refine (hasPrefix_any _ _ _).mono ?_;rintro e w2 ⟨rfl,rfl⟩) | (go_at_call 91;refine (index_any _ _ _ qg HXL.out).mono ?_;rintro e w2 ⟨rfl,rfl⟩;rw [show Lib.index (rst.extract 2 rst.size).data.toList [42,47]=-1 from HI.out]) | (go_at_call 74;refine (fail_any b e1 113 s _ qs).mono ?_;rintro e w2 ⟨rfl,rfl⟩))
     refine And.intro rfl ?_
     unfold SkPost
     rw [HSK.out]
     have hln:s.size - (47 :: 42 :: t1).length=e1:=by have h3:=H2.out;have h4:=HRL.out;simp only [List.length_cons];omega
     simp only [hln]
     exact ⟨trivial,hcut.trans (hb1.mono (by have:=hcut.size;rw [AtW.size] at this;exact this))⟩
    ·rw [hx] at hil hd
     rw [hd] at hsk
     simp only at hsk
     have h3:=HRL.out
     have hnx:t1.drop (i+2)=s.data.toList.drop (e1+(i+4)):=by
      have h5:(s.data.toList.drop e1).drop (i+4)=s.data.toList.drop (e1+(i+4)):=List.drop_drop
      rw [← h5,← HRD.out,ht1];rfl
     have hwi4:IntKind.i64.wrap ((i:Int)+4)=(i:Int)+4:=IntWalk.i64_in _ (by omega)
     have hwi:IntKind.i64.wrap ((e1:Int)+((i:Int)+4))=((e1+(i+4):Nat):Int):=by rw [IntWalk.i64_in _ (by omega)];omega
     have hei:e1+(i+4)≤s.size:=by omega
     have HSK:=Lib.hid hsk
     have HI:=Lib.hid hi
     have HNX:=Lib.hid hnx
     clear hsk hi hd ht1 hx hxl h2 hnx h3
     go_wp2_with (first | (go_at_call 127;refine (rest_as b e1 s rst HR.out _ hsc hl2).mono ?_;rintro e w1 ⟨rfl,hb1⟩;have q0:=(hsc.below hb1 hsc.lt).text;have q1:=(hsc.below hb1 hsc.lt).at_;have q2:=(hsc.below hb1 hsc.lt).free;have qs:=hsc.below hb1 hsc.lt;have qg:=hgc.below hb1 (Nat.le_refl _)) | (go_at_call 85;refine (hasPrefix_any _ _ _).mono ?_;rintro e w2 ⟨rfl,rfl⟩) | (go_at_call 91;refine (index_any _ _ _ qg HXL.out).mono ?_;rintro e w2 ⟨rfl,rfl⟩;rw [show Lib.index (rst.extract 2 rst.size).data.toList [42,47]=(i:Int) from HI.out]))
     go_roundg (s.size - (e1+(i+4)))
     case rel=>exact ⟨e1+(i+4),hei,rfl,by rw [HSK.out,HNX.out];exact Lib.hid rfl,below_at (hcut.trans (hb1.mono (by have:=hcut.size;rw [AtW.size] at this;exact this))) hlt (e1+(i+4))⟩
     case measure=>omega
   | false =>
    have hok:Lx.skip (s.data.toList.drop a)=.ok rst.data.toList:=by
     rw [hsk]
     generalize rst.data.toList=l at hp1 hp2
     split
     ·simp [Lib.hasPrefix] at hp1
     ·simp [Lib.hasPrefix] at hp2
     ·rfl
    have HSK:=Lib.hid hok
    clear hsk hok
    go_wp2_with (first | (go_at_call 127;refine (rest_as b e1 s rst HR.out _ hsc hl2).mono ?_;rintro e w1 ⟨rfl,hb1⟩;have q0:=(hsc.below hb1 hsc.lt).text;have q1:=(hsc.below hb1 hsc.lt).at_;have q2:=(hsc.below hb1 hsc.lt).free;have qs:=hsc.below hb1 hsc.lt;have qg:=hgc.below hb1 (Nat.le_refl _)) | (go_at_call 85;refine (hasPrefix_any _ _ _).mono ?_;rintro e w2 ⟨rfl,rfl⟩))
    (try simp only [Exit.inBlock,Exit.then]);refine bodyPost_ret (results_none rfl _ _ _) rfl ?_
    unfold SkPost
    rw [HSK.out]
    have hln:s.size - rst.data.toList.length=e1:=by rw [← Lib.size_eq];have h4:=HRL.out;omega
    simp only [hln]
    exact ⟨trivial,hcut.trans (hb1.mono (by have:=hcut.size;rw [AtW.size] at this;exact this))⟩
def tc (t:Lx.Tok):List Value:=[.int .i64 t.kind,.string ⟨t.text.toArray⟩,.int .i64 (t.at_:Int)]
theorem tc_len (l:List Lx.Tok):(l.flatMap tc).length=3 * l.length:=by
 induction l with
 | nil=>rfl
 | cons t l ih=>rw [List.flatMap_cons,List.length_append,ih];simp [tc];omega
def LastV (w:World) (B:Nat) (v:Value) (l:List Lx.Tok):Prop :=
 (l=[]∧v=.slice none 0 0)∨∃ g o cap cur,v=.slice (some ⟨g,o,none⟩) l.length cap∧B≤g∧0 < l.length∧l.length≤cap∧w.heap[g]?=some (.cells cur 38 (0,0)) ∧
  (∃ off,o=off * 3∧off+cap≤maxLen∧cur.size=(off+cap) * 3)∧∀ j u,(l.flatMap tc)[j]?=some u→cur[o+j]?=some u
theorem LastV.below {w w':World} {B B':Nat} {v:Value} {l:List Lx.Tok} (h:LastV w B v l) (hb:Below B' w w') (hB:w.heap.size≤B'):LastV w' B v l:=by
 rcases h with h | ⟨g,o,cap,cur,hv,hg,h0,hc,hh,hs,hj⟩
 ·exact .inl h
 ·exact .inr ⟨g,o,cap,cur,hv,hg,h0,hc,(hb.block g (by have:=(Array.getElem?_eq_some_iff.1 hh).1;omega)).trans hh,hs,hj⟩
theorem describing_any (b B:Nat) (v:Value) (pre:List Lx.Tok) (w:World) (hv:w.cell? ⟨b,2,none⟩=some v) (hl:LastV w B v (pre.take 2).reverse) :
  Calls Tryz.prog 118 #[.pointer (some ⟨b,0,none⟩)] w fun e w'=>e=.returned (.bool (Lx.opens pre))∧w=w':=by
 rcases pre with _ | ⟨t,_ | ⟨u,r⟩⟩
 ·rcases hl with ⟨_,rfl⟩ | ⟨g,o,cap,cur,hv',hg,h0,_⟩
  ·go_enter Tryz.func118,Tryz.ntmps118
   go_wp2
   go_ret
   exact ⟨rfl,rfl⟩
  ·simp at h0
 ·rcases hl with ⟨h,_⟩ | ⟨g,o,cap,cur,rfl,hg,h0,hc,hh,hs,hj⟩
  ·simp at h
  ·have c0:w.cell? ⟨g,o,none⟩=some (.int .i64 t.kind):=by rw [cell_of_row w g o cur _ _ hh];exact hj 0 _ rfl
   have c1:w.cell? ⟨g,o+1,none⟩=some (.string ⟨t.text.toArray⟩):=by rw [cell_of_row w g _ cur _ _ hh];exact hj 1 _ rfl
   simp only [List.take,List.reverse_cons,List.reverse_nil,List.nil_append,List.length_cons,List.length_nil,Nat.zero_add] at hv
   cases a1:(t.kind == 2) with
   | true =>
    cases a2:(t.text == [112,114,111,98,101]) with
    | true =>
     go_enter Tryz.func118,Tryz.ntmps118
     go_wp2
     go_ret
     exact ⟨ret_bool (by simp [Lx.opens,Lx.probeW,a1,a2]),rfl⟩
    | false =>
     go_enter Tryz.func118,Tryz.ntmps118
     go_wp2
     go_ret
     exact ⟨ret_bool (by simp [Lx.opens,Lx.probeW,a1,a2]),rfl⟩
   | false =>
    go_enter Tryz.func118,Tryz.ntmps118
    go_wp2
    go_ret
    exact ⟨ret_bool (by simp [Lx.opens,Lx.probeW,a1]),rfl⟩
 ·rcases hl with ⟨h,_⟩ | ⟨g,o,cap,cur,rfl,hg,h0,hc,hh,hs,hj⟩
  ·simp at h
  ·have d0:w.cell? ⟨g,o,none⟩=some (.int .i64 u.kind):=by rw [cell_of_row w g o cur _ _ hh];exact hj 0 _ rfl
   have c0:w.cell? ⟨g,o+3,none⟩=some (.int .i64 t.kind):=by rw [cell_of_row w g _ cur _ _ hh];exact hj 3 _ rfl
   have c1:w.cell? ⟨g,o+3+1,none⟩=some (.string ⟨t.text.toArray⟩):=by rw [cell_of_row w g _ cur _ _ hh];exact hj 4 _ rfl
   simp only [List.take,List.reverse_cons,List.reverse_nil,List.nil_append,List.length_cons,List.length_nil,Nat.zero_add,List.length_append,Nat.reduceAdd] at hv
   clear hj hc h0 hs
   cases a1:(t.kind == 2) with
   | true =>
    cases a2:(t.text == [112,114,111,98,101]) with
    | true =>
     go_enter Tryz.func118,Tryz.ntmps118
     go_wp2
     go_ret
     exact ⟨ret_bool (by simp [Lx.opens,Lx.probeW,a1,a2]),rfl⟩
    | false =>
     have a3:(t.kind == 5)=false:=by rw [beq_iff_eq.1 a1];rfl
     go_enter Tryz.func118,Tryz.ntmps118
     go_wp2
     go_ret
     exact ⟨ret_bool (by simp [Lx.opens,Lx.probeW,a1,a2,a3]),rfl⟩
   | false =>
    cases a3:(t.kind == 5) with
    | true =>
     cases a4:(t.text == [44]) with
     | true =>
      cases a5:(u.kind == 6) with
      | true =>
       go_enter Tryz.func118,Tryz.ntmps118
       go_wp2
       go_ret
       exact ⟨ret_bool (by simp [Lx.opens,Lx.probeW,a1,a3,a4,a5]),rfl⟩
      | false =>
       go_enter Tryz.func118,Tryz.ntmps118
       go_wp2
       go_ret
       exact ⟨ret_bool (by simp [Lx.opens,Lx.probeW,a1,a3,a4,a5]),rfl⟩
     | false =>
      go_enter Tryz.func118,Tryz.ntmps118
      go_wp2
      go_ret
      exact ⟨ret_bool (by simp [Lx.opens,Lx.probeW,a1,a3,a4]),rfl⟩
    | false =>
     go_enter Tryz.func118,Tryz.ntmps118
     go_wp2
     go_ret
     exact ⟨ret_bool (by simp [Lx.opens,Lx.probeW,a1,a3]),rfl⟩
def recC (H:Nat):Array Value:=#[.func (.func 117) #[] #[],.func (.func 119) #[] #[],.func (.func 114) #[] #[.pointer (some ⟨H,0,none⟩)],.func (.func 120) #[] #[],.func (.func 114) #[] #[.pointer (some ⟨H+1,0,none⟩)],.func (.func 121) #[] #[],.func (.func 116) #[] #[.pointer (some ⟨H+1+1,0,none⟩)],.func (.func 122) #[] #[],.func (.func 116) #[] #[.pointer (some ⟨H+1+1+1,0,none⟩)],.func (.func 123) #[] #[],.func (.func 124) #[] #[],.func (.func 126) #[] #[]]
structure Recs (w:World) (H:Nat):Prop where
 c0:w.cell? ⟨H,0,none⟩=some (.int .i64 2)
 c1:w.cell? ⟨H+1,0,none⟩=some (.int .i64 4)
 c2:w.cell? ⟨H+1+1,0,none⟩=some (.int .u8 39)
 c3:w.cell? ⟨H+1+1+1,0,none⟩=some (.int .u8 34)
 row:w.heap[H+1+1+1+1]?=some (.cells (recC H) 130)
theorem Recs.lt {w:World} {H:Nat} (h:Recs w H):H+4 < w.heap.size:=(Array.getElem?_eq_some_iff.1 h.row).1
theorem Recs.below {w w':World} {H B:Nat} (h:Recs w H) (hb:Below B w w') (hB:w.heap.size≤B):Recs w' H:=by
 have hlt:=h.lt
 exact ⟨(hb.cell (p:=⟨H,0,none⟩) (by show H < B;omega)).trans h.c0,(hb.cell (p:=⟨H+1,0,none⟩) (by show H+1 < B;omega)).trans h.c1,(hb.cell (p:=⟨H+1+1,0,none⟩) (by show H+1+1 < B;omega)).trans h.c2,(hb.cell (p:=⟨H+1+1+1,0,none⟩) (by show H+1+1+1 < B;omega)).trans h.c3,(hb.block _ (by omega)).trans h.row⟩
theorem push5_0 (h:Array Obj) (a b c d e:Obj):(((((h.push a).push b).push c).push d).push e)[h.size]?=some a:=by
 simp only [Array.getElem?_push,Array.size_push]
 rw [if_neg (by omega),if_neg (by omega),if_neg (by omega),if_neg (by omega),if_pos trivial]
theorem push5_1 (h:Array Obj) (a b c d e:Obj):(((((h.push a).push b).push c).push d).push e)[h.size+1]?=some b:=by
 simp only [Array.getElem?_push,Array.size_push]
 rw [if_neg (by omega),if_neg (by omega),if_neg (by omega),if_pos trivial]
theorem push5_2 (h:Array Obj) (a b c d e:Obj):(((((h.push a).push b).push c).push d).push e)[h.size+1+1]?=some c:=by
 simp only [Array.getElem?_push,Array.size_push]
 rw [if_neg (by omega),if_neg (by omega),if_pos trivial]
theorem push5_3 (h:Array Obj) (a b c d e:Obj):(((((h.push a).push b).push c).push d).push e)[h.size+1+1+1]?=some d:=by
 simp only [Array.getElem?_push,Array.size_push]
 rw [if_neg (by omega),if_pos trivial]
theorem push5_4 (h:Array Obj) (a b c d e:Obj):(((((h.push a).push b).push c).push d).push e)[h.size+1+1+1+1]?=some e:=by
 simp only [Array.getElem?_push,Array.size_push]
 rw [if_pos trivial]
theorem recs_any (w:World) :
  Calls Tryz.prog 97 #[] w fun e w'=>e=.returned (.slice (some ⟨w.heap.size+1+1+1+1,0,none⟩) 6 6)∧Recs w' w.heap.size∧Below w.heap.size w w'∧w'.heap.size=w.heap.size+5:=by
 go_enter Tryz.func97,Tryz.ntmps97
 go_wp2_with (go_in)
 go_ret
 refine ⟨rfl,⟨?_,?_,?_,?_,?_⟩,?_,?_⟩
 ·exact (cell_of_row _ _ 0 #[.int .i64 2] 3 (0,0) (push5_0 _ _ _ _ _ _)).trans rfl
 ·exact (cell_of_row _ _ 0 #[.int .i64 4] 3 (0,0) (push5_1 _ _ _ _ _ _)).trans rfl
 ·exact (cell_of_row _ _ 0 #[.int .u8 39] 5 (0,0) (push5_2 _ _ _ _ _ _)).trans rfl
 ·exact (cell_of_row _ _ 0 #[.int .u8 34] 5 (0,0) (push5_3 _ _ _ _ _ _)).trans rfl
 ·exact push5_4 _ _ _ _ _ _
 ·exact (((((Below.refl _ _).alloc (by simp) _).alloc (by simp) _).alloc (by simp;omega) _).alloc (by simp;omega) _).alloc (by simp;omega) _
 ·show (((((w.heap.push _).push _).push _).push _).push _).size=_
  simp
structure Sw (w:World) (B b a:Nat) (s:ByteArray) (pre:List Lx.Tok):Prop where
 scn:Scn w b s a
 gw:GW w
 last:∃ v,w.cell? ⟨b,2,none⟩=some v∧LastV w B v (pre.take 2).reverse
 words:∃ v,w.cell? ⟨b,3,none⟩=some v∧StrsAt w v Lx.words
 signs:∃ v,w.cell? ⟨b,4,none⟩=some v∧StrsAt w v Lx.signs
theorem Sw.below {w w':World} {B b a:Nat} {s:ByteArray} {pre:List Lx.Tok} (h:Sw w B b a s pre) {B':Nat} (hb:Below B' w w') (hB:w.heap.size≤B'):Sw w' B b a s pre:=by
 have hlt:b < B':=Nat.lt_of_lt_of_le h.scn.lt hB
 obtain ⟨h1,h2,⟨v,h3,h4⟩,⟨v5,h5,h6⟩,⟨v7,h7,h8⟩⟩:=h
 exact ⟨h1.below hb hlt,h2.below hb hB,⟨v,(hb.cell (p:=⟨b,2,none⟩) hlt).trans h3,h4.below hb hB⟩,⟨v5,(hb.cell (p:=⟨b,3,none⟩) hlt).trans h5,h6.below hb hB⟩,⟨v7,(hb.cell (p:=⟨b,4,none⟩) hlt).trans h7,h8.below hb hB⟩⟩
theorem Sw.drew {w:World} {B b a:Nat} {s:ByteArray} {pre:List Lx.Tok} (h:Sw w B b a s pre):Sw w.drew B b a s pre:=h.below (Below.refl _ _).drew (Nat.le_refl _)
def begC (pre:List Lx.Tok) (c:UInt8) (r:List UInt8):Nat→Bool
 | 0=>Lx.opens pre && Lx.isDescB c
 | 1=>Lx.isLetter c
 | 2=>Lx.isDigit c
 | 3=>c == 39
 | 4=>c == 34
 | _=>decide (0 < Lx.signLen r)
theorem begins_class (b a c:Nat) (q:Int) (s:ByteArray) (w:World) (hg:GW w) (h:Scn w b s a) (hc:w.cell? ⟨c,0,none⟩=some (.int .i64 q)) (ha:a < s.size) :
  Calls Tryz.prog 114 #[.pointer (some ⟨b,0,none⟩),.pointer (some ⟨c,0,none⟩)] w fun x w'=>x=.returned (.bool (pB q s[a]))∧Below w.heap.size w w':=by
 have h0:=h.text
 have h1:=h.at_
 go_enter Tryz.func114,Tryz.ntmps114
 go_wp2
 go_region_held3 (fun w'=>w'.cell? ⟨b,0,none⟩=some (.string s)∧w'.cell? ⟨b,1,none⟩=some (.int .i64 (a:Int))∧w'.cell? ⟨c,0,none⟩=some (.int .i64 q)∧GW w'∧Below w.heap.size w w') (first | exact ⟨h0,h1,hc,hg.drew,(Below.refl _ _).drew⟩ | exact ⟨(hb1.cell (World.block_lt_of_cell? _ _ k0)).trans k0,(hb1.cell (World.block_lt_of_cell? _ _ k1)).trans k1,(hb1.cell (World.block_lt_of_cell? _ _ k2)).trans k2,kg.below hb1 (Nat.le_refl _),kb.trans (hb1.mono kb.size)⟩)
  (first | (go_at_call 82;obtain ⟨k0,k1,k2,kg,kb⟩:=(by assumption:_∧_∧_∧GW _∧Below _ _ _);refine (is_any _ q _ kg).mono ?_;rintro e w1 ⟨rfl,hb1⟩))
 obtain ⟨k0,k1,k2,kg,kb⟩:=(by assumption:_∧_∧_∧GW _∧Below _ _ _)
 go_wp2
 go_ret
 exact ⟨rfl,kb⟩
theorem begins_one (b a c:Nat) (d:UInt8) (s:ByteArray) (w:World) (h:Scn w b s a) (hc:w.cell? ⟨c,0,none⟩=some (.int .u8 (d.toNat:Int))) (ha:a < s.size) :
  Calls Tryz.prog 116 #[.pointer (some ⟨b,0,none⟩),.pointer (some ⟨c,0,none⟩)] w fun x w'=>x=.returned (.bool (s[a] == d))∧Below w.heap.size w w':=by
 have h0:=h.text
 have h1:=h.at_
 go_enter Tryz.func116,Tryz.ntmps116
 go_wp2
 go_quiet (fail)
 go_wp2
 go_ret
 refine ⟨ret_bool ?_,below_drewN (Below.refl _ _) _⟩
 rw [Bool.eq_iff_iff,beq_iff_eq,beq_iff_eq,← UInt8.toNat_inj]
 omega
theorem begins_sign (b a:Nat) (s:ByteArray) (w:World) (h:Scn w b s a) (ha:a≤s.size) (hs:s.size≤4611686018427387904) (wv:Value) (hwv:w.cell? ⟨b,4,none⟩=some wv) (hsl:StrsAt w wv Lx.signs) :
  Calls Tryz.prog 124 #[.pointer (some ⟨b,0,none⟩)] w fun x w'=>x=.returned (.bool (decide (0 < Lx.signLen (tail s a))))∧Below w.heap.size w w':=by
 have h0:=h.text
 have h1:=h.at_
 have hlt:=h.lt
 go_enter Tryz.func124,Tryz.ntmps124
 go_wp2
 go_region_held3 (fun w'=>w'.cell? ⟨b,1,none⟩=some (.int .i64 (a:Int))∧Below w.heap.size w w') (first | exact ⟨h1,(Below.refl _ _).drew⟩ | exact ⟨(hb1.cell (World.block_lt_of_cell? _ _ k1)).trans k1,kb.trans (hb1.mono kb.size)⟩)
  (first | (go_at_call 125;obtain ⟨k1,kb⟩:=(by assumption:_∧Below _ _ _);refine (sign_any b a s _ (h.below kb hlt) ha hs wv ((kb.cell (p:=⟨b,4,none⟩) hlt).trans hwv) (hsl.below kb (Nat.le_refl _))).mono ?_;rintro e w1 ⟨rfl,hb1⟩))
 obtain ⟨k1,kb⟩:=(by assumption:_∧Below _ _ _)
 go_wp2
 go_ret
 refine ⟨ret_bool ?_,kb⟩
 congr 1
 rw [eq_iff_iff]
 omega
theorem strF_more (n:Nat):∀ (m:Nat) (t:List UInt8),t.length < n→t.length < m→Lx.strF n t=Lx.strF m t:=by
 induction n with
 | zero=>intro m t h;omega
 | succ n ih =>
  intro m t h h'
  cases m with
  | zero=>omega
  | succ m =>
   cases t with
   | nil=>rfl
   | cons c t =>
    rw [Lx.strF,Lx.strF]
    split
    ·rfl
    ·cases hc:Lx.char (c :: t) with
     | none=>rfl
     | some p =>
      obtain ⟨v,k⟩:=p
      have hk:=char_len _ _ _ hc
      simp only
      rw [ih m ((c :: t).drop k) (by rw [List.length_drop];omega) (by rw [List.length_drop];omega)]
def OnePost (pre:List Lx.Tok) (s:ByteArray) (a:Nat) (x:Ending):Prop :=
 match Lx.one (Lx.opens pre) (s.data.toList.drop a) with
 | .error e=>x=.panicked (thrown a e)
 | .ok (kind,n)=>x=.returned (.tuple #[.int .i64 kind,.int .i64 ((a+n:Nat):Int)])
theorem onePost_err {pre:List Lx.Tok} {s:ByteArray} {a:Nat} {e:Int} (h:Lx.one (Lx.opens pre) (s.data.toList.drop a)=.error e) (x:Ending) (hx:x=.panicked (thrown a e)):OnePost pre s a x:=by
 unfold OnePost;rw [h];exact hx
theorem onePost_ok {pre:List Lx.Tok} {s:ByteArray} {a:Nat} {kind:Int} {n z:Nat} (h:Lx.one (Lx.opens pre) (s.data.toList.drop a)=.ok (kind,n)) (hz:z=a+n) (x:Ending) (hx:x=.returned (.tuple #[.int .i64 kind,.int .i64 (z:Int)])):OnePost pre s a x:=by
 subst hz
 unfold OnePost;rw [h];exact hx
def endF:Nat→Nat
 | 0=>119
 | 1=>120
 | 2=>121
 | 3=>122
 | 4=>123
 | _=>126
theorem ends_sign (b a:Nat) (s:ByteArray) (w:World) (h:Scn w b s a) (ha:a≤s.size) (hs:s.size≤4611686018427387904) (wv:Value) (hwv:w.cell? ⟨b,4,none⟩=some wv) (hsl:StrsAt w wv Lx.signs) :
  Calls Tryz.prog 126 #[.pointer (some ⟨b,0,none⟩)] w fun x w'=>x=.returned (.tuple #[.int .i64 5,.int .i64 ((a+Lx.signLen (tail s a):Nat):Int)])∧Below w.heap.size w w':=by
 go_enter Tryz.func126,Tryz.ntmps126
 go_wp2_with (go_at_call 125;refine (sign_any b a s _ h ha hs wv hwv hsl).mono ?_;rintro e w1 ⟨rfl,hb1⟩)
 go_ret2
 exact ⟨rfl,hb1⟩
theorem piece_take (s:ByteArray) (a n:Nat):piece s a (a+n)=(s.data.toList.drop a).take n:=by
 unfold piece
 rw [Lib.extract_data]
 congr 1
 omega
theorem runE_eq (q:Int) (s:ByteArray) (a:Nat) (p:UInt8→Bool) (hp:∀ c,pB q c=p c):runE q s a=a+((s.data.toList.drop a).takeWhile p).length:=by
 unfold runE runEnd
 rw [show pB q=p from funext hp]
theorem ends_any (B b a:Nat) (s:ByteArray) (pre:List Lx.Tok) (w:World) (h:Sw w B b a s pre) (ha:a < s.size) (hs:s.size≤140737488355328) (k:Nat) (hk:k < 6)
  (hb:begC pre s[a] (tail s a) k=true) (hno:∀ j,j < k→begC pre s[a] (tail s a) j=false) :
  Calls Tryz.prog (endF k) #[.pointer (some ⟨b,0,none⟩)] w fun x w'=>OnePost pre s a x∧Below w.heap.size w w':=by
 have hsz:=Lib.size_eq s
 have hd:s.data.toList.drop a=s[a] :: s.data.toList.drop (a+1):=by
  rw [List.drop_eq_getElem_cons (by rw [← hsz];exact ha)];rfl
 have hml:s.size≤maxLen:=by unfold maxLen;omega
 obtain ⟨wv,hw1,hw2⟩:=h.words
 obtain ⟨sv,hs1,hs2⟩:=h.signs
 have h16:=runE_eq 16 s a Lx.isDescB pB_desc
 have h6:=runE_eq 6 s a Lx.isWord pB_word
 have hp6:=piece_take s a ((s.data.toList.drop a).takeWhile Lx.isWord).length
 rw [← h6] at hp6
 have h0:0 < k→(Lx.opens pre && Lx.isDescB s[a])=false:=fun hk=>hno 0 hk
 have h1:1 < k→Lx.isLetter s[a]=false:=fun hk=>hno 1 hk
 have h2:2 < k→Lx.isDigit s[a]=false:=fun hk=>hno 2 hk
 have h3:3 < k→s[a]≠39:=fun hk=>by simpa [begC] using hno 3 hk
 have h4:4 < k→s[a]≠34:=fun hk=>by simpa [begC] using hno 4 hk
 match k,hk with
 | 0,_ =>
  have hb':(Lx.opens pre && Lx.isDescB s[a])=true:=hb
  by_cases hr:(runE 16 s a:Int) - a≤200
  ·refine (description_ok b a s w h.gw h.scn (Nat.le_of_lt ha) hml hr).mono ?_
   rintro x w' ⟨hx,hb1⟩
   refine ⟨onePost_ok (kind:=6) (n:=((s.data.toList.drop a).takeWhile Lx.isDescB).length) ?_ h16 x hx,hb1⟩
   have hl:¬ ((s.data.toList.drop a).takeWhile Lx.isDescB).length > 200:=by rw [h16] at hr;omega
   rw [hd] at hl ⊢
   rw [Lx.one,if_pos hb']
   simp only [hl,if_false]
  ·refine (description_bad b a s w h.gw h.scn (Nat.le_of_lt ha) hml hr).mono ?_
   rintro x w' ⟨hx,hb1⟩
   refine ⟨onePost_err (e:=111) ?_ x hx,hb1⟩
   have hl:((s.data.toList.drop a).takeWhile Lx.isDescB).length > 200:=by rw [h16] at hr;omega
   rw [hd] at hl ⊢
   rw [Lx.one,if_pos hb']
   simp only [hl,if_true]
 | 1,_ =>
  have hn0:=h0 (by omega)
  have hb':Lx.isLetter s[a]=true:=hb
  by_cases hr:(runE 6 s a:Int) - a≤31
  ·have hl:¬ ((s.data.toList.drop a).takeWhile Lx.isWord).length > 31:=by rw [h6] at hr;omega
   cases hm:decide (piece s a (runE 6 s a)∈Lx.words) with
   | true =>
    refine (name_key b a s w h.gw h.scn (Nat.le_of_lt ha) hml wv hw1 hw2 hr hm).mono ?_
    rintro x w' ⟨hx,hb1⟩
    refine ⟨onePost_ok (kind:=2) (n:=((s.data.toList.drop a).takeWhile Lx.isWord).length) ?_ h6 x hx,hb1⟩
    have hm':=of_decide_eq_true hm
    rw [hp6] at hm'
    rw [hd] at hl hm' ⊢
    rw [Lx.one,if_neg (by rw [hn0];simp),if_pos hb']
    simp only [hl,if_false,hm',if_true]
   | false =>
    refine (name_ok b a s w h.gw h.scn (Nat.le_of_lt ha) hml wv hw1 hw2 hr hm).mono ?_
    rintro x w' ⟨hx,hb1⟩
    refine ⟨onePost_ok (kind:=1) (n:=((s.data.toList.drop a).takeWhile Lx.isWord).length) ?_ h6 x hx,hb1⟩
    have hm':=of_decide_eq_false hm
    rw [hp6] at hm'
    rw [hd] at hl hm' ⊢
    rw [Lx.one,if_neg (by rw [hn0];simp),if_pos hb']
    simp only [hl,if_false,hm']
  ·have hl:((s.data.toList.drop a).takeWhile Lx.isWord).length > 31:=by rw [h6] at hr;omega
   refine (name_bad b a s w h.gw h.scn (Nat.le_of_lt ha) hml hr).mono ?_
   rintro x w' ⟨hx,hb1⟩
   refine ⟨onePost_err (e:=111) ?_ x hx,hb1⟩
   rw [hd] at hl ⊢
   rw [Lx.one,if_neg (by rw [hn0];simp),if_pos hb']
   simp only [hl,if_true]
 | 2,_ =>
  have hn0:=h0 (by omega)
  have hn1:=h1 (by omega)
  have hb':Lx.isDigit s[a]=true:=hb
  cases hr:Lx.integer (piece s a (runE 6 s a)) with
  | some p =>
   obtain ⟨n,u⟩:=p
   refine (number_ok b a s w h.gw h.scn (Nat.le_of_lt ha) hs n u hr).mono ?_
   rintro x w' ⟨hx,hb1⟩
   refine ⟨onePost_ok (kind:=3) (n:=((s.data.toList.drop a).takeWhile Lx.isWord).length) ?_ h6 x hx,hb1⟩
   rw [hp6] at hr
   rw [hd] at hr ⊢
   rw [Lx.one,if_neg (by rw [hn0];simp),if_neg (by rw [hn1];simp),if_pos hb']
   simp only [hr,Option.isNone_some]
   rfl
  | none =>
   refine (number_bad b a s w h.gw h.scn (Nat.le_of_lt ha) hs hr).mono ?_
   rintro x w' ⟨hx,hb1⟩
   refine ⟨onePost_err (e:=112) ?_ x hx,hb1⟩
   rw [hp6] at hr
   rw [hd] at hr ⊢
   rw [Lx.one,if_neg (by rw [hn0];simp),if_neg (by rw [hn1];simp),if_pos hb']
   simp only [hr,Option.isNone_none]
   rfl
 | 3,_ =>
  have hn0:=h0 (by omega)
  have hn1:=h1 (by omega)
  have hn2:=h2 (by omega)
  have hb':s[a]=39:=by simpa [begC] using hb
  have hone:Lx.one (Lx.opens pre) (s.data.toList.drop a)=match Lx.char (s.data.toList.drop (a+1)) with
    | none=>.error 113
    | some (_,k)=>if (s.data.toList.drop (a+1)).head?=some 39∨((s.data.toList.drop (a+1)).drop k).head?≠some 39 then .error 113 else .ok (3,k+2):=by
   rw [hd,Lx.one,if_neg (by rw [hn0];simp),if_neg (by rw [hn1];simp),if_neg (by rw [hn2];simp),if_pos hb']
   cases Lx.char (s.data.toList.drop (a+1)) <;> rfl
  have hat:∀ (i:Nat) (hi:i < s.size),(s.data.toList.drop i).head?=some s[i]:=fun i hi=>by
   rw [List.head?_drop,List.getElem?_eq_getElem (by rw [← hsz];exact hi)];rfl
  have h39:∀ c:UInt8,(c.toNat:Int)=39↔c=39:=fun c=>by
   rw [← UInt8.toNat_inj]
   show _↔c.toNat=39
   omega
  cases hr:Lx.char (s.data.toList.drop (a+1)) with
  | none =>
   refine (constant_bad b a s w h.gw h.scn (Nat.le_of_lt ha) hs ha hr).mono ?_
   rintro x w' ⟨hx,hb1⟩
   exact ⟨onePost_err (e:=113) (by rw [hone,hr]) x hx,hb1⟩
  | some p =>
   obtain ⟨v,k⟩:=p
   have hkl:=char_len _ _ _ hr
   rw [List.length_drop,← hsz] at hkl
   have ha1:a+1 < s.size:=by omega
   by_cases hq:s[a+1]=39
   ·refine (constant_quote b a s w h.gw h.scn (Nat.le_of_lt ha) hs ha v k hr (fun _=>(h39 _).2 hq)).mono ?_
    rintro x w' ⟨hx,hb1⟩
    refine ⟨onePost_err (e:=113) ?_ x hx,hb1⟩
    rw [hone,hr]
    simp only
    rw [if_pos (.inl (by rw [hat _ ha1,hq]))]
   ·by_cases hz:s.size≤a+1+k
    ·refine (constant_end b a s w h.gw h.scn (Nat.le_of_lt ha) hs ha v k hr (fun _ e=>hq ((h39 _).1 e)) hz).mono ?_
     rintro x w' ⟨hx,hb1⟩
     refine ⟨onePost_err (e:=113) ?_ x hx,hb1⟩
     rw [hone,hr]
     simp only
     rw [if_pos (.inr (by rw [List.drop_drop,List.drop_eq_nil_of_le (by rw [← hsz];exact hz)];simp))]
    ·have hz':a+1+k < s.size:=by omega
     by_cases hq2:s[a+1+k]=39
     ·refine (constant_ok b a s w h.gw h.scn (Nat.le_of_lt ha) hs ha v k hr (fun _ e=>hq ((h39 _).1 e)) hz' ((h39 _).2 hq2)).mono ?_
      rintro x w' ⟨hx,hb1⟩
      refine ⟨onePost_ok (kind:=3) (n:=k+2) ?_ rfl x hx,hb1⟩
      rw [hone,hr]
      simp only
      rw [if_neg (by rw [hat _ ha1,List.drop_drop,hat _ hz'];simp [hq,hq2])]
     ·refine (constant_open b a s w h.gw h.scn (Nat.le_of_lt ha) hs ha v k hr (fun _ e=>hq ((h39 _).1 e)) hz' (fun e=>hq2 ((h39 _).1 e))).mono ?_
      rintro x w' ⟨hx,hb1⟩
      refine ⟨onePost_err (e:=113) ?_ x hx,hb1⟩
      rw [hone,hr]
      simp only
      rw [if_pos (.inr (by rw [List.drop_drop,hat _ hz'];simp [hq2]))]
 | 4,_ =>
  have hn0:=h0 (by omega)
  have hn1:=h1 (by omega)
  have hn2:=h2 (by omega)
  have hn3:=h3 (by omega)
  have hb':s[a]=34:=by simpa [begC] using hb
  refine (quoted_any b a s w h.gw h.scn ha hs).mono ?_
  rintro x w' ⟨hx,hb1⟩
  refine ⟨?_,hb1⟩
  have hone:Lx.one (Lx.opens pre) (s.data.toList.drop a)=match Lx.strF ((s.data.toList.drop (a+1)).length+1) (s.data.toList.drop (a+1)) with
    | none=>.error 113
    | some (_,m)=>.ok (4,m+1):=by
   rw [hd,Lx.one,if_neg (by rw [hn0];simp),if_neg (by rw [hn1];simp),if_neg (by rw [hn2];simp),if_neg hn3,if_pos hb']
   cases Lx.strF ((s.data.toList.drop (a+1)).length+1) (s.data.toList.drop (a+1)) <;> rfl
  rw [strF_more _ (s.data.toList.length+1) _ (by omega) (by rw [List.length_drop];omega)] at hone
  unfold QuPost strEnd at hx
  unfold OnePost
  rw [hone]
  cases hsf:Lx.strF (s.data.toList.length+1) (s.data.toList.drop (a+1)) with
  | none=>rw [hsf] at hx;exact hx
  | some p =>
   obtain ⟨vs,m⟩:=p
   rw [hsf] at hx
   simp only [Option.map_some] at hx ⊢
   rw [hx]
   have:a+1+m=a+(m+1):=by omega
   rw [this]
 | 5,_ =>
  have hn0:=h0 (by omega)
  have hn1:=h1 (by omega)
  have hn2:=h2 (by omega)
  have hn3:=h3 (by omega)
  have hn4:=h4 (by omega)
  have hb':0 < Lx.signLen (tail s a):=by simpa [begC] using hb
  refine (ends_sign b a s w h.scn (Nat.le_of_lt ha) (by omega) sv hs1 hs2).mono ?_
  rintro x w' ⟨hx,hb1⟩
  refine ⟨onePost_ok (kind:=5) (n:=Lx.signLen (tail s a)) ?_ rfl x hx,hb1⟩
  unfold tail at hb' ⊢
  rw [hd] at hb' ⊢
  rw [Lx.one,if_neg (by rw [hn0];simp),if_neg (by rw [hn1];simp),if_neg (by rw [hn2];simp),if_neg hn3,if_neg hn4,if_neg (by omega)]
theorem one_none (pre:List Lx.Tok) (s:ByteArray) (a:Nat) (ha:a < s.size) (hno:∀ j,j < 6→begC pre s[a] (tail s a) j=false) :
  Lx.one (Lx.opens pre) (s.data.toList.drop a)=.error 110:=by
 have hsz:=Lib.size_eq s
 have hd:s.data.toList.drop a=s[a] :: s.data.toList.drop (a+1):=by
  rw [List.drop_eq_getElem_cons (by rw [← hsz];exact ha)];rfl
 have h0:(Lx.opens pre && Lx.isDescB s[a])=false:=hno 0 (by omega)
 have h1:Lx.isLetter s[a]=false:=hno 1 (by omega)
 have h2:Lx.isDigit s[a]=false:=hno 2 (by omega)
 have h3:s[a]≠39:=by simpa [begC] using hno 3 (by omega)
 have h4:s[a]≠34:=by simpa [begC] using hno 4 (by omega)
 have h5:Lx.signLen (tail s a)=0:=by simpa [begC] using hno 5 (by omega)
 unfold tail at h5
 rw [hd] at h5 ⊢
 rw [Lx.one,if_neg (by rw [h0];simp),if_neg (by rw [h1];simp),if_neg (by rw [h2];simp),if_neg h3,if_neg h4,if_pos h5]
end Go.Proofs.YtadgddipkbdnbaaGreatDoor
namespace Go.Proofs.Lx
open Go.Proofs.YtadgddipkbdnbaaGreatDoor
theorem strF_len:∀ (n:Nat) (t:List UInt8) (vs:List UInt8) (m:Nat),strF n t=some (vs,m)→1≤m∧m≤t.length:=by
 intro n
 induction n with
 | zero=>intro t vs m h;cases h
 | succ n ih =>
  intro t vs m h
  cases t with
  | nil=>cases h
  | cons c t =>
   rw [strF] at h
   split at h
   ·simp at h;simp;omega
   ·cases hc:char (c :: t) with
    | none=>rw [hc] at h;cases h
    | some p =>
     obtain ⟨v,k⟩:=p
     have hk:=char_len _ _ _ hc
     rw [hc] at h
     simp only at h
     cases hs:strF n ((c :: t).drop k) with
     | none=>rw [hs] at h;cases h
     | some q =>
      obtain ⟨ws,m'⟩:=q
      rw [hs] at h
      have h2:=ih _ _ _ hs
      rw [List.length_drop] at h2
      simp only [Option.some.injEq,Prod.mk.injEq] at h
      omega
theorem signLen_le (r:List UInt8):signLen r≤r.length:=by
 unfold signLen
 cases h:signs.find? fun x=>x.isPrefixOf r with
 | none=>simp
 | some x =>
  have:=List.find?_some h
  simp only [List.isPrefixOf_iff_prefix] at this
  simpa using this.length_le
theorem takeWhile_le (p:UInt8→Bool) (l:List UInt8):(l.takeWhile p).length≤l.length:=(List.takeWhile_prefix p).length_le
theorem takeWhile_pos (p:UInt8→Bool) (c:UInt8) (l:List UInt8) (h:p c=true):1≤((c :: l).takeWhile p).length:=by
 rw [List.takeWhile_cons,if_pos h];simp
theorem letter_word:∀ c:UInt8,isLetter c=true→isWord c=true:=by
 intro c h;unfold isWord;rw [h];rfl
theorem digit_word:∀ c:UInt8,isDigit c=true→isWord c=true:=by
 intro c h;unfold isWord;rw [h];simp
theorem one_len (d:Bool) (r:List UInt8) (kind:Int) (k:Nat) (h:one d r=.ok (kind,k)):1≤k∧k≤r.length:=by
 cases r with
 | nil=>cases h
 | cons c t =>
  rw [one] at h
  split at h
  ·rename_i hb
   simp only at h
   split at h
   ·cases h
   ·simp only [Except.ok.injEq,Prod.mk.injEq] at h
    obtain ⟨_,rfl⟩:=h
    simp only [Bool.and_eq_true] at hb
    exact ⟨takeWhile_pos _ _ _ hb.2,takeWhile_le _ _⟩
  ·split at h
   ·rename_i hb
    simp only at h
    split at h
    ·cases h
    ·simp only [Except.ok.injEq,Prod.mk.injEq] at h
     obtain ⟨_,rfl⟩:=h
     exact ⟨takeWhile_pos _ _ _ (letter_word _ hb),takeWhile_le _ _⟩
   ·split at h
    ·rename_i hb
     simp only at h
     split at h
     ·cases h
     ·simp only [Except.ok.injEq,Prod.mk.injEq] at h
      obtain ⟨_,rfl⟩:=h
      exact ⟨takeWhile_pos _ _ _ (digit_word _ hb),takeWhile_le _ _⟩
    ·split at h
     ·cases hc:char t with
      | none=>rw [hc] at h;cases h
      | some p =>
       obtain ⟨v,j⟩:=p
       rw [hc] at h
       have hj:=char_len _ _ _ hc
       simp only at h
       split at h
       ·cases h
       ·rename_i hh
        simp only [Except.ok.injEq,Prod.mk.injEq] at h
        obtain ⟨_,rfl⟩:=h
        refine ⟨by omega,?_⟩
        rcases Nat.lt_or_ge j t.length with h1 | h1
        ·simp;omega
        ·rw [List.drop_eq_nil_of_le h1] at hh
         simp at hh
     ·split at h
      ·cases hc:strF (t.length+1) t with
       | none=>rw [hc] at h;cases h
       | some p =>
        obtain ⟨v,j⟩:=p
        rw [hc] at h
        have hj:=strF_len _ _ _ _ hc
        simp only [Except.ok.injEq,Prod.mk.injEq] at h
        obtain ⟨_,rfl⟩:=h
        simp;omega
      ·split at h
       ·cases h
       ·simp only [Except.ok.injEq,Prod.mk.injEq] at h
        obtain ⟨_,rfl⟩:=h
        exact ⟨by omega,signLen_le _⟩
theorem closed_suffix:∀ (r u:List UInt8),closed r=some u→∃ i,u=r.drop i∧i≤r.length
 | [],u,h=>by cases h
 | [c],u,h=>by cases h
 | c :: d :: r,u,h=>by
  rw [closed] at h
  split at h
  ·cases h;exact ⟨2,rfl,by simp⟩
  ·obtain ⟨i,h1,h2⟩:=closed_suffix (d :: r) u h
   exact ⟨i+1,h1,by simp at h2 ⊢;omega⟩
theorem dropWhile_suffix (p:UInt8→Bool) (l:List UInt8):∃ i,l.dropWhile p=l.drop i∧i≤l.length:=by
 induction l with
 | nil=>exact ⟨0,rfl,by simp⟩
 | cons a l ih =>
  rw [List.dropWhile_cons]
  split
  ·obtain ⟨i,h,hi⟩:=ih
   exact ⟨i+1,h,by simp;omega⟩
  ·exact ⟨0,rfl,by simp⟩
theorem skipF_suffix:∀ (n:Nat) (r:List UInt8),(∀ x,skipF n r=.ok x→∃ i,x=r.drop i∧i≤r.length)∧(∀ x,skipF n r=.error x→∃ i,x=r.drop i∧i≤r.length):=by
 intro n
 induction n with
 | zero=>intro r;exact ⟨fun x h=>by cases h;exact ⟨0,rfl,by omega⟩,fun x h=>by cases h⟩
 | succ n ih =>
  intro r
  obtain ⟨i,hi,hil⟩:=dropWhile_suffix isBlank r
  have step:∀ (t:List UInt8) (j:Nat),t=(r.dropWhile isBlank).drop j→j≤(r.dropWhile isBlank).length→(∃ m,t=r.drop m∧m≤r.length):=fun t j ht hj=>by
   rw [hi,List.drop_drop] at ht
   rw [hi,List.length_drop] at hj
   exact ⟨i+j,ht,by omega⟩
  have lift:∀ (t x:List UInt8),(∃ m,t=r.drop m∧m≤r.length)→(∃ m,x=t.drop m∧m≤t.length)→∃ m,x=r.drop m∧m≤r.length:=fun t x ⟨m,h1,h2⟩ ⟨j,h3,h4⟩=>by
   subst h1
   rw [List.drop_drop] at h3
   rw [List.length_drop] at h4
   exact ⟨m+j,h3,by omega⟩
  rw [skipF]
  split
  ·rename_i t e
   obtain ⟨j,hj,hjl⟩:=dropWhile_suffix (· != 10) t
   have ht:∃ m,t=r.drop m∧m≤r.length:=step t 2 (by rw [e];rfl) (by rw [e];simp)
   have hd:=lift t _ ht ⟨j,hj,hjl⟩
   exact ⟨fun x h=>lift _ x hd ((ih _).1 x h),fun x h=>lift _ x hd ((ih _).2 x h)⟩
  ·rename_i t e
   have ht:∃ m,t=r.drop m∧m≤r.length:=step t 2 (by rw [e];rfl) (by rw [e];simp)
   cases hc:closed t with
   | none =>
    refine ⟨fun x h=>(by cases h),fun x h=>?_⟩
    cases h
    exact step _ 0 (by rw [e];rfl) (by omega)
   | some u =>
    have hd:=lift t u ht (closed_suffix t u hc)
    exact ⟨fun x h=>lift _ x hd ((ih _).1 x h),fun x h=>lift _ x hd ((ih _).2 x h)⟩
  ·exact ⟨fun x h=>(by cases h;exact ⟨i,hi,hil⟩),fun x h=>(by cases h)⟩
theorem skip_ok_suffix {r x:List UInt8} (h:skip r=.ok x):∃ i,x=r.drop i∧i≤r.length:=(skipF_suffix _ r).1 x h
theorem scanF_more (len n:Nat):∀ (m:Nat) (pre:List Tok) (r:List UInt8),r.length < n→r.length < m→scanF len n pre r=scanF len m pre r:=by
 induction n with
 | zero=>intro m pre r h;omega
 | succ n ih =>
  intro m pre r h h'
  cases m with
  | zero=>omega
  | succ m =>
   rw [scanF,scanF]
   cases hs:skip r with
   | error c=>rfl
   | ok r' =>
    obtain ⟨i,hi,hil⟩:=skip_ok_suffix hs
    have hl:r'.length≤r.length:=by rw [hi,List.length_drop];omega
    cases r' with
    | nil=>rfl
    | cons c t =>
     simp only
     cases ho:one (opens pre) (c :: t) with
     | error e=>rfl
     | ok p =>
      obtain ⟨kind,k⟩:=p
      have hk:=one_len _ _ _ _ ho
      simp only
      split
      ·rfl
      ·exact ih m _ _ (by rw [List.length_drop];omega) (by rw [List.length_drop];omega)
def scanR (len:Nat) (pre:List Tok) (r:List UInt8):Except (List UInt8 × Int) (List Tok):=scanF len (r.length+1) pre r
def scanT (len:Nat) (pre:List Tok) (r':List UInt8):Except (List UInt8 × Int) (List Tok) :=
 match r' with
 | []=>.ok pre.reverse
 | c :: t=>match one (opens pre) (c :: t) with
  | .error e=>.error (c :: t,e)
  | .ok (kind,k)=>if pre.length=4000 then .error (c :: t,2) else scanR len (⟨kind,(c :: t).take k,len - (c :: t).length⟩ :: pre) ((c :: t).drop k)
theorem scanR_eq (len:Nat) (pre:List Tok) (r:List UInt8) :
  scanR len pre r=match skip r with
   | .error c=>.error (c,113)
   | .ok r'=>scanT len pre r':=by
 unfold scanR
 rw [scanF]
 cases hs:skip r with
 | error c=>rfl
 | ok r' =>
  obtain ⟨i,hi,hil⟩:=skip_ok_suffix hs
  have hl:r'.length≤r.length:=by rw [hi,List.length_drop];omega
  cases r' with
  | nil=>rfl
  | cons c t =>
   simp only [scanT]
   cases ho:one (opens pre) (c :: t) with
   | error e=>rfl
   | ok p =>
    obtain ⟨kind,k⟩:=p
    have hk:=one_len _ _ _ _ ho
    simp only
    split
    ·rfl
    ·exact scanF_more _ _ _ _ _ (by rw [List.length_drop];omega) (by rw [List.length_drop];omega)
theorem scan_eq (t:List UInt8):scan t=if t.length > 20000 then ([],0,2) else match scanR t.length [] t with
   | .ok l=>(l,0,0)
   | .error (r,e)=>([],t.length - r.length,e):=rfl
theorem drop_back {l x:List UInt8} {a i:Nat} (ha:a≤l.length) (h:x=(l.drop a).drop i) (hi:i≤(l.drop a).length):x=l.drop (l.length - x.length):=by
 have hx:x=l.drop (a+i):=by rw [h,List.drop_drop]
 rw [List.length_drop] at hi
 have:l.length - x.length=a+i:=by rw [hx,List.length_drop];omega
 rw [this];exact hx
theorem one_err {d:Bool} {r:List UInt8} {e:Int} (h:one d r=.error e):e=110∨e=111∨e=112∨e=113:=by
 cases r with
 | nil=>cases h;simp
 | cons c t =>
  rw [one] at h
  repeat' (first | (split at h) | (simp only at h;split at h))
  all_goals first | (cases h;simp;done) | cases h
theorem scanF_err:∀ (n:Nat) {len:Nat} {pre:List Tok} {r x:List UInt8} {e:Int},scanF len n pre r=.error (x,e)→e≠0
 | 0,_,_,_,_,_,h=>by cases h
 | n+1,len,pre,r,x,e,h=>by
  rw [scanF] at h
  cases hs:skip r with
  | error c=>rw [hs] at h;cases h;decide
  | ok r' =>
   rw [hs] at h
   cases r' with
   | nil=>cases h
   | cons c t =>
    simp only at h
    cases ho:one (opens pre) (c :: t) with
    | error e' =>
     rw [ho] at h
     cases h
     rcases one_err ho with h | h | h | h <;> rw [h] <;> decide
    | ok p =>
     obtain ⟨kind,k⟩:=p
     rw [ho] at h
     simp only at h
     split at h
     ·cases h;decide
     ·exact scanF_err n h
theorem scanR_err {len:Nat} {pre:List Tok} {r x:List UInt8} {e:Int} (h:scanR len pre r=.error (x,e)):e≠0:=scanF_err _ h
end Go.Proofs.Lx
namespace Go.Proofs.YtadgddipkbdnbaaGreatDoor.Q
open Go.RowKit Go.Proofs.YtadgddipkbdnbaaGreatDoor YtadgddipkbdnbaaGreatDoorW.PrintWords YtadgddipkbdnbaaGreatDoorW.PrintLast
theorem wrap_nat {i:Int} (h0:0≤i) (h:i < 9223372036854775808):wrap64 i=i:=by unfold wrap64;omega
theorem bt_nat (s:ByteArray) (a:Nat) (h:a < s.size):bt s (a:Int)=(s[a].toNat:Int):=by
 unfold bt
 rw [Int.toNat_natCast,dif_pos h]
theorem isBlank_f:∀ c:UInt8,rzisBlank.f (c.toNat:Int)=some (Lx.isBlank c):=u8_all _ (by decide +kernel)
theorem begins_two (s:ByteArray) (a:Nat) (x y:UInt8) (ha:a≤s.size) (hs:s.size≤140737488355328):rzbegins.f s (a:Int) ⟨#[x,y]⟩=some ((s.data.toList.drop a).take 2 == [x,y]):=by
 have e2:((⟨#[x,y]⟩:ByteArray).size:Int)=2:=rfl
 unfold rzbegins.f
 rw [e2,wrap_nat (by omega) (by omega)]
 by_cases h:(a:Int)+2≤s.size
 ·rw [if_pos h,if_pos (by omega),if_pos (by omega)]
  have e:(a:Int)+2=((a+2:Nat):Int):=by omega
  rw [e,Int.toNat_natCast,Int.toNat_natCast,ByteArray.toList_eq,ByteArray.toList_eq]
  simp only [ByteArray.data_extract,Array.toList_extract,List.extract_eq_take_drop]
  rw [show a+2 - a=2 by omega]
 ·rw [if_neg h]
  congr 1
  symm
  rw [beq_eq_false_iff_ne]
  intro e
  have:=congrArg List.length e
  simp at this
  omega
def skR (sz:Nat):Except (List UInt8) (List UInt8)→Int × Bool
 | .ok r=>((sz - r.length:Nat),true)
 | .error c=>((sz - c.length:Nat),false)
theorem skip_nil:Lx.skip []=.ok []:=rfl
theorem skip_blank (c:UInt8) (t:List UInt8) (h:Lx.isBlank c=true):Lx.skip (c :: t)=Lx.skip t:=by
 rw [Lx.skip_eq,Lx.skip_eq,List.dropWhile_cons,if_pos h]
theorem skip_line (t:List UInt8):Lx.skip (47 :: 47 :: t)=Lx.skip (t.dropWhile (· != 10)):=by
 rw [Lx.skip_eq,List.dropWhile_cons,if_neg (by decide)]
 rfl
theorem skip_block (t:List UInt8):Lx.skip (47 :: 42 :: t)=match Lx.closed t with | none=>.error (47 :: 42 :: t) | some u=>Lx.skip u:=by
 rw [Lx.skip_eq,List.dropWhile_cons,if_neg (by decide)]
 rfl
theorem skip_stop (c:UInt8) (t:List UInt8) (h:Lx.isBlank c=false) (h1:(c :: t).take 2≠[47,47]) (h2:(c :: t).take 2≠[47,42]):Lx.skip (c :: t)=.ok (c :: t):=by
 rw [Lx.skip_eq,List.dropWhile_cons,if_neg (by rw [h];decide)]
 split
 ·rename_i e;rw [e] at h1;exact absurd rfl h1
 ·rename_i e;rw [e] at h2;exact absurd rfl h2
 ·rfl
section
variable (s:ByteArray) (hs:s.size≤140737488355328)
theorem sl:s.data.toList.length=s.size:=(Lib.size_eq s).symm
theorem sat (a:Nat) (h:a < s.size):s.data.toList.drop a=s[a] :: s.data.toList.drop (a+1):=drop_at s a h
theorem line_l1 (hs:s.size≤140737488355328) (B:Nat) (H:∀ b,B≤b→b≤s.size→Ev (fun k=>rzskipped.l0 k s (b:Int)) (skR s.size (Lx.skip (s.data.toList.drop b)))) :
  ∀ n a,B≤a→a≤s.size→s.size - a=n→Ev (fun k=>rzskipped.l1 k s (a:Int)) (skR s.size (Lx.skip ((s.data.toList.drop a).dropWhile (· != 10)))):=by
 intro n
 induction n with
 | zero =>
  intro a hB ha hn
  have:a=s.size:=by omega
  have e:s.data.toList.drop a=[]:=List.drop_eq_nil_of_le (by rw [sl];omega)
  refine Ev.step (f:=fun k=>rzskipped.l0 k s (a:Int)) (fun k=>?_) ?_
  ·simp only [rzskipped.l1];rw [if_neg (by omega)]
  ·have:=H a hB ha
   rw [e] at this ⊢
   exact this
 | succ n ih =>
  intro a hB ha hn
  have hlt:a < s.size:=by omega
  rw [sat s a hlt,List.dropWhile_cons]
  by_cases h:s[a]=10
  ·refine Ev.step (f:=fun k=>rzskipped.l0 k s (a:Int)) (fun k=>?_) ?_
   ·simp only [rzskipped.l1];rw [if_pos (by omega),if_pos (by omega),bt_nat s a hlt,if_pos (by rw [h];rfl)]
   ·rw [if_neg (by simp [h]),← sat s a hlt]
    exact H a hB ha
  ·refine Ev.step (f:=fun k=>rzskipped.l1 k s ((a+1:Nat):Int)) (fun k=>?_) ?_
   ·simp only [rzskipped.l1]
    rw [if_pos (by omega),if_pos (by omega),bt_nat s a hlt,if_neg (fun e=>h (UInt8.toNat_inj.1 (by have:(10:UInt8).toNat=10:=rfl;omega))),wrap_nat (by omega) (by omega)]
    rfl
   ·rw [if_pos (by simp [h])]
    exact ih (a+1) (by omega) (by omega) (by omega)
theorem block_l2 (hs:s.size≤140737488355328) (x:Nat) (hx:x≤s.size) (B:Nat) (H:∀ b,B≤b→b≤s.size→Ev (fun k=>rzskipped.l0 k s (b:Int)) (skR s.size (Lx.skip (s.data.toList.drop b)))) :
  ∀ n a,B≤a→a≤s.size→s.size - a=n→Ev (fun k=>rzskipped.l2 k s (x:Int) (a:Int)) (match Lx.closed (s.data.toList.drop a) with | none=>((x:Int),false) | some u=>skR s.size (Lx.skip u)):=by
 intro n
 induction n with
 | zero =>
  intro a hB ha hn
  have:a=s.size:=by omega
  have e:s.data.toList.drop a=[]:=List.drop_eq_nil_of_le (by rw [sl];omega)
  rw [e]
  exact ⟨1,fun k hk=>by
   obtain ⟨k,rfl⟩:∃ m,k=m+1:=⟨k - 1,by omega⟩
   simp only [rzskipped.l2];rw [if_neg (by omega),if_pos (by omega)];rfl⟩
 | succ n ih =>
  intro a hB ha hn
  have hlt:a < s.size:=by omega
  have hb:=begins_two s a 42 47 (by omega) hs
  by_cases h:(s.data.toList.drop a).take 2=[42,47]
  ·have h2:a+2≤s.size:=by
    have:=congrArg List.length h
    simp at this;omega
   refine Ev.step (f:=fun k=>rzskipped.l0 k s ((a+2:Nat):Int)) (fun k=>?_) ?_
   ·simp only [rzskipped.l2]
    rw [if_pos (by omega),hb,h]
    simp only [Option.bind_some,beq_self_eq_true,if_true]
    rw [if_neg (by omega),wrap_nat (by omega) (by omega)]
    rfl
   ·have e:Lx.closed (s.data.toList.drop a)=some (s.data.toList.drop (a+2)):=by
     rw [sat s a hlt,sat s (a+1) (by omega)] at h ⊢
     simp only [List.take_succ_cons,List.take_zero,List.cons.injEq,and_true] at h
     rw [Lx.closed,if_pos h]
    rw [e]
    exact H (a+2) (by omega) h2
  ·refine Ev.step (f:=fun k=>rzskipped.l2 k s (x:Int) ((a+1:Nat):Int)) (fun k=>?_) ?_
   ·simp only [rzskipped.l2]
    rw [if_pos (by omega),hb,beq_eq_false_iff_ne.2 h]
    simp only [Option.bind_some,Bool.false_eq_true,if_false]
    rw [wrap_nat (by omega) (by omega)]
    rfl
   ·have e:Lx.closed (s.data.toList.drop a)=Lx.closed (s.data.toList.drop (a+1)):=by
     rw [sat s a hlt] at h ⊢
     cases ht:s.data.toList.drop (a+1) with
     | nil=>rfl
     | cons d t =>
      rw [ht] at h
      simp only [List.take_succ_cons,List.take_zero,ne_eq,List.cons.injEq,and_true] at h
      rw [Lx.closed,if_neg h]
    rw [e]
    exact ih (a+1) (by omega) (by omega) (by omega)
theorem cast1 (a:Nat):((a+1:Nat):Int)=(a:Int)+1:=by omega
theorem cast2 (a:Nat):((a+2:Nat):Int)=(a:Int)+2:=by omega
def Sk (a:Nat):Prop:=Ev (fun k=>rzskipped.l0 k s (a:Int)) (skR s.size (Lx.skip (s.data.toList.drop a)))
theorem sk_blank (hs:s.size≤140737488355328) (a:Nat) (hlt:a < s.size) (H:Sk s (a+1)) (hbl:Lx.isBlank s[a]=true):Sk s a:=by
 refine Ev.step (f:=fun k=>rzskipped.l0 k s ((a+1:Nat):Int)) (fun k=>?_) ?_
 ·simp only [rzskipped.l0]
  rw [if_pos (by omega),if_pos (by omega),bt_nat s a hlt,isBlank_f,hbl]
  simp only [Option.bind_some,if_true]
  rw [wrap_nat (by omega) (by omega),cast1]
 ·rw [sat s a hlt,skip_blank _ _ hbl]
  exact H
theorem beg_t (a:Nat) (x y:UInt8) (ha:a≤s.size) (hs:s.size≤140737488355328) (h:(s.data.toList.drop a).take 2=[x,y]):rzbegins.f s (a:Int) ⟨#[x,y]⟩=some true:=by
 rw [begins_two s a x y ha hs,h,beq_self_eq_true]
theorem beg_f (a:Nat) (x y:UInt8) (ha:a≤s.size) (hs:s.size≤140737488355328) (h:(s.data.toList.drop a).take 2≠[x,y]):rzbegins.f s (a:Int) ⟨#[x,y]⟩=some false:=by
 rw [begins_two s a x y ha hs,beq_eq_false_iff_ne.2 h]
theorem l0_line (hs:s.size≤140737488355328) (a:Nat) (hlt:a < s.size) (hbl:Lx.isBlank s[a]=false) (h1:(s.data.toList.drop a).take 2=[47,47]) (k:Nat):rzskipped.l0 (k+1) s (a:Int)=rzskipped.l1 k s (a:Int):=by
 simp only [rzskipped.l0]
 rw [if_pos (by omega),if_pos (by omega),bt_nat s a hlt,isBlank_f,hbl]
 simp only [Option.bind_some,Bool.false_eq_true,if_false,beg_t s a 47 47 (by omega) hs h1,if_true]
theorem l1_step (hs:s.size≤140737488355328) (b:Nat) (hb:b < s.size) (hc:s[b]=47) (k:Nat):rzskipped.l1 (k+1) s (b:Int)=rzskipped.l1 k s ((b+1:Nat):Int):=by
 have hc':(s[b].toNat:Int)=47:=by rw [hc];rfl
 simp only [rzskipped.l1]
 rw [if_pos (by omega),if_pos (by omega),bt_nat s b hb,hc',if_neg (by omega),wrap_nat (by omega) (by omega),cast1]
theorem two_at (a:Nat) (x y:UInt8) (h:(s.data.toList.drop a).take 2=[x,y]):a+2≤s.size∧s.data.toList.drop a=x :: y :: s.data.toList.drop (a+2):=by
 have h2:a+2≤s.size:=by
  have:=congrArg List.length h
  simp at this;omega
 refine ⟨h2,?_⟩
 have e1:=sat s a (by omega)
 have e2:=sat s (a+1) (by omega)
 rw [e1,e2] at h
 simp only [List.take_succ_cons,List.take_zero,List.cons.injEq,and_true] at h
 rw [e1,e2,h.1,h.2]
theorem sk_line (hs:s.size≤140737488355328) (a:Nat) (hlt:a < s.size) (H:∀ b,a+1≤b→b≤s.size→Sk s b) (hbl:Lx.isBlank s[a]=false) (h1:(s.data.toList.drop a).take 2=[47,47]):Sk s a:=by
 obtain ⟨h2,e⟩:=two_at s a 47 47 h1
 have e1:=sat s a hlt
 have e2:=sat s (a+1) (by omega)
 rw [e1,e2] at e
 have c1:s[a]=47:=(List.cons.inj e).1
 have c2:s[a+1]=47:=(List.cons.inj (List.cons.inj e).2).1
 have hl:=line_l1 s hs (a+1) H _ (a+2) (by omega) h2 rfl
 unfold Sk
 rw [e1,e2,c1,c2,skip_line]
 exact Ev.step (l0_line s hs a hlt hbl h1) (Ev.step (l1_step s hs a hlt c1) (Ev.step (l1_step s hs (a+1) (by omega) c2) hl))
theorem l0_block (hs:s.size≤140737488355328) (a:Nat) (hlt:a < s.size) (hbl:Lx.isBlank s[a]=false) (h2:(s.data.toList.drop a).take 2=[47,42]) (k:Nat):rzskipped.l0 (k+1) s (a:Int)=rzskipped.l2 k s (a:Int) ((a+2:Nat):Int):=by
 have h1:(s.data.toList.drop a).take 2≠[47,47]:=by rw [h2];decide
 have:=(two_at s a 47 42 h2).1
 simp only [rzskipped.l0]
 rw [if_pos (by omega),if_pos (by omega),bt_nat s a hlt,isBlank_f,hbl]
 simp only [Option.bind_some,Bool.false_eq_true,if_false,beg_f s a 47 47 (by omega) hs h1,beg_t s a 47 42 (by omega) hs h2,if_true]
 rw [wrap_nat (by omega) (by omega),cast2]
theorem sk_block (hs:s.size≤140737488355328) (a:Nat) (hlt:a < s.size) (H:∀ b,a+1≤b→b≤s.size→Sk s b) (hbl:Lx.isBlank s[a]=false) (h2:(s.data.toList.drop a).take 2=[47,42]):Sk s a:=by
 obtain ⟨h3,e⟩:=two_at s a 47 42 h2
 have hb:=block_l2 s hs a (by omega) (a+1) H _ (a+2) (by omega) h3 rfl
 have hl:(s.data.toList.drop a).length=s.size - a:=by rw [List.length_drop,sl]
 unfold Sk
 rw [e] at hl ⊢
 rw [skip_block]
 refine Ev.step (l0_block s hs a hlt hbl h2) ?_
 cases hc:Lx.closed (s.data.toList.drop (a+2)) with
 | none =>
  rw [hc] at hb
  have:skR s.size (.error (47 :: 42 :: s.data.toList.drop (a+2)))=((a:Int),false):=by
   show (((s.size - (47 :: 42 :: s.data.toList.drop (a+2)).length:Nat):Int),false)=_
   rw [hl,show s.size - (s.size - a)=a by omega]
  rw [this]
  exact hb
 | some u =>
  rw [hc] at hb
  exact hb
theorem sk_stop (hs:s.size≤140737488355328) (a:Nat) (hlt:a < s.size) (hbl:Lx.isBlank s[a]=false) (h1:(s.data.toList.drop a).take 2≠[47,47]) (h2:(s.data.toList.drop a).take 2≠[47,42]):Sk s a:=by
 have e1:=sat s a hlt
 have hl:(s.data.toList.drop a).length=s.size - a:=by rw [List.length_drop,sl]
 have hstop:Lx.skip (s.data.toList.drop a)=.ok (s.data.toList.drop a):=by
  rw [e1] at h1 h2 ⊢
  exact skip_stop _ _ hbl h1 h2
 unfold Sk
 rw [hstop]
 refine ⟨1,fun k hk=>?_⟩
 obtain ⟨k,rfl⟩:∃ m,k=m+1:=⟨k - 1,by omega⟩
 simp only [rzskipped.l0]
 rw [if_pos (by omega),if_pos (by omega),bt_nat s a hlt,isBlank_f,hbl]
 simp only [Option.bind_some,Bool.false_eq_true,if_false,beg_f s a 47 47 (by omega) hs h1,beg_f s a 47 42 (by omega) hs h2]
 show some ((a:Int),true)=some (((s.size - (s.data.toList.drop a).length:Nat):Int),true)
 rw [hl,show s.size - (s.size - a)=a by omega]
theorem sk_end (a:Nat) (ha:a=s.size):Sk s a:=by
 have e:s.data.toList.drop a=[]:=List.drop_eq_nil_of_le (by rw [sl];omega)
 unfold Sk
 rw [e,skip_nil]
 refine ⟨1,fun k hk=>?_⟩
 obtain ⟨k,rfl⟩:∃ m,k=m+1:=⟨k - 1,by omega⟩
 simp only [rzskipped.l0]
 rw [if_neg (by omega)]
 show some ((a:Int),true)=some (((s.size - ([]:List UInt8).length:Nat):Int),true)
 rw [List.length_nil,show s.size - 0=a by omega]
theorem skipped_ev (hs:s.size≤140737488355328):∀ n a,a≤s.size→s.size - a=n→Sk s a:=by
 intro n
 induction n using Nat.strongRecOn with
 | _ n ih =>
  intro a ha hn
  have H:∀ b,a+1≤b→b≤s.size→Sk s b:=fun b hb hb'=>ih (s.size - b) (by omega) b hb' rfl
  by_cases hlt:a < s.size
  ·cases hbl:Lx.isBlank s[a] with
   | true=>exact sk_blank s hs a hlt (H (a+1) (by omega) (by omega)) hbl
   | false =>
    by_cases h1:(s.data.toList.drop a).take 2=[47,47]
    ·exact sk_line s hs a hlt H hbl h1
    ·by_cases h2:(s.data.toList.drop a).take 2=[47,42]
     ·exact sk_block s hs a hlt H hbl h2
     ·exact sk_stop s hs a hlt hbl h1 h2
  ·exact sk_end s a (by omega)
end
end Go.Proofs.YtadgddipkbdnbaaGreatDoor.Q
