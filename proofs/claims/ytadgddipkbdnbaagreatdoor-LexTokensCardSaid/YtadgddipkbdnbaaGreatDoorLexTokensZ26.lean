/- For every token, string and two lists of tokens, Check, Kind, IsDesc, Words, Signs and Same of the program return what the specification's return; the inputs read as they did; the package-level variables hold what the program's text lays in them: the tied card. -/
import Derived.Test.YtadgddipkbdnbaaGreatDoorLexTokensZ1
import Derived.Test.YtadgddipkbdnbaaGreatDoorLexTokensZ2
import Derived.Test.YtadgddipkbdnbaaGreatDoorLexTokensZ3
import Derived.Test.YtadgddipkbdnbaaGreatDoorLexTokensZ4
import Derived.Test.YtadgddipkbdnbaaGreatDoorLexTokensZ5
import Derived.Test.YtadgddipkbdnbaaGreatDoorLexTokensZ6
import Derived.Test.YtadgddipkbdnbaaGreatDoorLexTokensZ7
import Derived.Test.YtadgddipkbdnbaaGreatDoorLexTokensZ8
import Derived.Test.YtadgddipkbdnbaaGreatDoorLexTokensZ9
import Derived.Test.YtadgddipkbdnbaaGreatDoorLexTokensZ10
import Derived.Test.YtadgddipkbdnbaaGreatDoorLexTokensZ11
import Derived.Test.YtadgddipkbdnbaaGreatDoorLexTokensZ12
import Derived.Test.YtadgddipkbdnbaaGreatDoorLexTokensZ13
import Derived.Test.YtadgddipkbdnbaaGreatDoorLexTokensZ14
import Derived.Test.YtadgddipkbdnbaaGreatDoorLexTokensZ15
import Derived.Test.YtadgddipkbdnbaaGreatDoorLexTokensZ16
import Derived.Test.YtadgddipkbdnbaaGreatDoorLexTokensZ17
import Derived.Test.YtadgddipkbdnbaaGreatDoorLexTokensZ18
import Derived.Test.YtadgddipkbdnbaaGreatDoorLexTokensZ19
import Derived.Test.YtadgddipkbdnbaaGreatDoorLexTokensZ20
import Derived.Test.YtadgddipkbdnbaaGreatDoorLexTokensZ21
import Derived.Test.YtadgddipkbdnbaaGreatDoorLexTokensZ22
import Derived.Test.YtadgddipkbdnbaaGreatDoorLexTokensZ23
import Derived.Test.YtadgddipkbdnbaaGreatDoorLexTokensZ24
import Derived.Test.YtadgddipkbdnbaaGreatDoorLexTokensZ25
import Derived.Test.YtadgddipkbdnbaaGreatDoorTie
import Derived.Test.YtadgddipkbdnbaaGreatDoorCards
import Derived.WalkKit
import Derived.ProofKit
import Derived.OpenShut
import Derived.ShutString
import Derived.ChangeOld
import Derived.Below
import Derived.SizedLaws
import Derived.SevenTiedAt
set_option linter.unusedVariables false
set_option linter.unusedSimpArgs false
namespace Go.Proofs.Lx
open Go.Proofs.YtadgddipkbdnbaaGreatDoor
def descM (t:List UInt8):Bool:=decide (t≠[]∧t.length≤200∧t.takeWhile isDescB=t)
theorem tw_full {p:UInt8→Bool} {t:List UInt8}:t.takeWhile p=t↔∀ c∈t,p c=true:=by
 induction t with
 | nil=>simp
 | cons c t ih =>
  rw [List.takeWhile_cons]
  by_cases h:p c=true
  ·rw [if_pos h];simp [ih,h]
  ·rw [if_neg h];simp [h]
theorem desc_iff (t:List UInt8):((scan ([112,114,111,98,101,32] ++ t)).2.2=0∧∃ b c,(scan ([112,114,111,98,101,32] ++ t)).1=[b,c]∧c.kind=6∧c.text=t)↔descM t=true:=by
 constructor
 ·rintro ⟨h1,b,c,h2,h3,h4⟩
  obtain ⟨-,-,f,h5,-⟩:=scan_to h1
  rw [h2] at h5
  have hx:Tokk (opK [ktM b]) (ktM c):=h5.chain.2.1
  have hk:ktM c=(6,t):=by unfold ktM;rw [h3,h4]
  rw [hk] at hx
  obtain ⟨-,h7,h8⟩:=tokk_desc hx rfl
  exact decide_eq_true ⟨hx.2.1,h8,h7⟩
 ·intro h
  obtain ⟨h1,h2,h3⟩:=of_decide_eq_true h
  have htk:Tokk true (6,t):=by
   refine ⟨?_,h1,?_⟩
   ·show one true t=.ok (6,t.length)
    cases t with
    | nil=>exact absurd rfl h1
    | cons c u =>
     have hc:isDescB c=true:=tw_full.1 h3 c (by simp)
     rw [one]
     rw [if_pos (by rw [hc];rfl)]
     simp only
     rw [h3,if_neg (by omega)]
   ·show Skips t t
    cases t with
    | nil=>exact absurd rfl h1
    | cons c u =>
     have hc:isDescB c=true:=tw_full.1 h3 c (by simp)
     refine .stop c u ?_ ?_ ?_
     ·cases hb:isBlank c with
      | false=>rfl
      | true=>rw [blank_desc hb] at hc;cases hc
     ·intro e
      simp only [List.take_succ_cons,List.cons.injEq] at e
      rw [e.1] at hc;revert hc;decide
     ·intro e
      simp only [List.take_succ_cons,List.cons.injEq] at e
      rw [e.1] at hc;revert hc;decide
  obtain ⟨p1,p2⟩:=probe_desc htk h2
  refine ⟨p1,?_⟩
  generalize (scan ([112,114,111,98,101,32] ++ t)).1=l at p2
  match l with
  | []=>cases p2
  | [b]=>simp at p2
  | b :: c :: u :: l=>simp at p2
  | [b,c] =>
   simp only [List.map_cons,List.map_nil,List.cons.injEq,and_true] at p2
   obtain ⟨-,p3⟩:=p2
   exact ⟨b,c,rfl,congrArg Prod.fst p3,congrArg Prod.snd p3⟩
end Go.Proofs.Lx
namespace Go.Proofs.YtadgddipkbdnbaaGreatDoor.Q
open Go.RowKit Go.Proofs.YtadgddipkbdnbaaGreatDoor YtadgddipkbdnbaaGreatDoorW.PrintWords YtadgddipkbdnbaaGreatDoorW.PrintLast
theorem pB_desc2:∀ c,pB 16 c=Lx.isDescB c:=u8_all _ (by decide +kernel)
theorem isDesc_m (t:ByteArray):lex_IsDesc.f t=some (Lx.descM t.data.toList):=by
 have hl:=ba_len t
 unfold lex_IsDesc.f lex_run.f Lx.descM
 by_cases h0:t.size=0
 ·rw [if_neg (by omega),decide_eq_false]
  intro h;exact h.1 (List.length_eq_zero_iff.1 (by omega))
 ·rw [if_pos (by omega)]
  have hne:t.data.toList≠[]:=by intro h;rw [h] at hl;simp at hl;omega
  by_cases h2:t.size≤200
  ·rw [if_pos (by omega),if_pos ⟨by omega,by omega,by omega⟩]
   simp only [Option.bind_some]
   have e:runEnd (pB 16) t.data.toList (0:Int).toNat=(t.data.toList.takeWhile Lx.isDescB).length:=by
    show 0+((t.data.toList.drop 0).takeWhile (pB 16)).length=_
    rw [List.drop_zero,show pB 16=Lx.isDescB from funext pB_desc2,Nat.zero_add]
   rw [e]
   congr 1
   by_cases hf:t.data.toList.takeWhile Lx.isDescB=t.data.toList
   ·rw [decide_eq_true ⟨hne,by omega,hf⟩,hf,hl];simp
   ·rw [decide_eq_false (fun h=>hf h.2.2)]
    rw [beq_eq_false_iff_ne]
    intro h
    apply hf
    exact (List.takeWhile_prefix Lx.isDescB).eq_of_length (by omega)
  ·rw [if_neg (by omega),decide_eq_false]
   intro h;have:=h.2.1;omega
theorem refIsDesc_l0 (t:ByteArray) (ht:t.size≤140737488355328) (K:Nat) (hK:1≤K):∀ d i,i≤t.size→t.size - i=d→(∀ c∈t.data.toList.take i,Lx.isDescB c=true)→rzIsDesc.l0 (K+d+1) t (i:Int)=some (Lx.descM t.data.toList):=by
 have hl:=ba_len t
 intro d
 induction d with
 | zero =>
  intro i hi hd h0
  have e:t.data.toList.take i=t.data.toList:=List.take_of_length_le (by omega)
  rw [e] at h0
  rw [rzIsDesc.l0,if_neg (by omega)]
  unfold Lx.descM
  have hf:=Lx.tw_full.2 h0
  by_cases h1:1≤t.size
  ·rw [if_pos (by omega)]
   congr 1
   have hne:t.data.toList≠[]:=by intro h;rw [h] at hl;simp at hl;omega
   by_cases h2:t.size≤200
   ·rw [decide_eq_true (by omega),decide_eq_true ⟨hne,by omega,hf⟩]
   ·rw [decide_eq_false (by omega),decide_eq_false (fun h=>by have:=h.2.1;omega)]
  ·rw [if_neg (by omega),decide_eq_false]
   intro h;exact h.1 (List.length_eq_zero_iff.1 (by omega))
 | succ d ih =>
  intro i hi hd h0
  have hlt:i < t.size:=by omega
  have hb:bt t (i:Int)=(t[i].toNat:Int):=by unfold bt;rw [Int.toNat_natCast,dif_pos hlt]
  have e:t.data.toList.take (i+1)=t.data.toList.take i ++ [t[i]]:=by rw [List.take_add_one,List.getElem?_eq_getElem (by omega)];rfl
  rw [show K+(d+1)+1=(K+d+1)+1 by omega,rzIsDesc.l0,if_pos (by omega),if_pos (by omega),hb,isDescByte_f _ _ (by omega)]
  simp only [Option.bind_some]
  cases hc:Lx.isDescB t[i] with
  | true =>
   rw [if_pos rfl,wrapn (by omega) (by omega)]
   refine ih (i+1) (by omega) (by omega) ?_
   rw [e]
   intro c hcm
   rcases List.mem_append.1 hcm with h | h
   ·exact h0 c h
   ·rw [List.mem_singleton.1 h];exact hc
  | false =>
   rw [if_neg (by decide)]
   unfold Lx.descM
   rw [decide_eq_false]
   intro h
   have hm:t[i]∈t.data.toList:=List.mem_of_getElem? (i:=i) (by rw [List.getElem?_eq_getElem (by omega)];rfl)
   have:=Lx.tw_full.1 h.2.2 _ hm
   rw [hc] at this
   cases this
theorem refIsDesc_ev (t:ByteArray) (ht:t.size≤140737488355328):Ev (fun k=>rzIsDesc.f k t) (Lx.descM t.data.toList):=by
 refine ⟨t.size+2,fun k hk=>?_⟩
 have:=refIsDesc_l0 t ht (k - t.size - 1) (by omega) t.size 0 (by omega) (by omega) (by simp)
 rw [show k - t.size - 1+t.size+1=k by omega] at this
 exact this
def checkM (kind:Int) (t:List UInt8):Int:=if kind=6 then (if Lx.descM t then 0 else 114) else if kind=0 then 114 else if Lx.kindM t=kind then 0 else 114
theorem check_m (kind:Int) (t:ByteArray) (a:Int) (ht:t.size≤140737488355328) (k:Nat):lex_Check.f (k+1) kind t a=some (checkM kind t.data.toList):=by
 unfold lex_Check.f checkM
 by_cases h6:kind=6
 ·rw [if_pos h6,if_pos h6,if_pos (by omega)]
  have ed:((⟨#[112,114,111,98,101,32]⟩:ByteArray) ++ t).data.toList=[112,114,111,98,101,32] ++ t.data.toList:=by
   rw [ByteArray.data_append,Array.toList_append]
  have hiff:=Lx.desc_iff t.data.toList
  simp only [lex_Scan.f,Option.bind_some]
  rw [ed]
  generalize Lx.scan ([112,114,111,98,101,32] ++ t.data.toList)=sc at hiff
  obtain ⟨l,at_,e⟩:=sc
  simp only at hiff ⊢
  by_cases he:e=0
  ·rw [if_pos he,List.length_map]
   by_cases h2:(l.length:Int)=2
   ·rw [if_pos h2,if_pos (by omega)]
    match l,h2 with
    | [b,c],_ =>
     have e0:rd_T38 ([b,c].map tokS) 1=tokS c:=rfl
     have e1:((tokS c).f1).toList=c.text:=strS_list _
     have e2:(tokS c).f0=c.kind:=rfl
     rw [e0,e1,e2,ByteArray.toList_eq]
     by_cases h3:c.kind=6
     ·rw [if_pos h3,lex_Check.j0]
      by_cases h4:c.text=t.data.toList
      ·rw [if_pos (beq_iff_eq.2 h4),if_pos (hiff.1 ⟨he,b,c,rfl,h3,h4⟩)]
      ·have hn:¬ (Lx.descM t.data.toList=true):=fun h=>by
        obtain ⟨-,b',c',g1,g2,g3⟩:=hiff.2 h
        simp only [List.cons.injEq,and_true] at g1
        rw [g1.2] at h4;exact h4 g3
       rw [if_neg (fun h=>h4 (beq_iff_eq.1 h)),if_neg hn]
     ·have hn:¬ (Lx.descM t.data.toList=true):=fun h=>by
       obtain ⟨-,b',c',g1,g2,g3⟩:=hiff.2 h
       simp only [List.cons.injEq,and_true] at g1
       rw [g1.2] at h3;exact h3 g2
      rw [if_neg h3,lex_Check.j0,if_neg (by decide),if_neg hn]
   ·have hn:¬ (Lx.descM t.data.toList=true):=fun h=>by
     obtain ⟨-,b',c',g1,g2,g3⟩:=hiff.2 h
     rw [g1] at h2;exact h2 rfl
    rw [if_neg h2,lex_Check.j0,if_neg (by decide),if_neg hn]
  ·have hn:¬ (Lx.descM t.data.toList=true):=fun h=>he (hiff.2 h).1
   rw [if_neg he,lex_Check.j0,if_neg (by decide),if_neg hn]
 ·rw [if_neg h6,if_neg h6]
  by_cases h0:kind=0
  ·rw [if_pos h0,if_pos h0]
  ·rw [if_neg h0,if_neg h0,kind_f]
   simp only [Option.bind_some]
   split <;> rfl
theorem refCheck_ev (kind:Int) (t:ByteArray) (a:Int) (ht:t.size≤140737488355328):Ev (fun k=>rzCheck.f k kind t a) (checkM kind t.data.toList):=by
 unfold rzCheck.f checkM
 by_cases h6:kind=6
 ·simp only [if_pos h6]
  refine ev_bind (refIsDesc_ev t ht) ⟨0,fun k _=>?_⟩
  cases Lx.descM t.data.toList <;> rfl
 ·simp only [if_neg h6]
  by_cases h0:kind=0
  ·simp only [if_pos h0];exact Ev.now _
  ·simp only [if_neg h0]
   refine ev_bind (refKind_e t) ⟨0,fun k _=>?_⟩
   split <;> rfl
theorem refSame_l0 (l m:List S38) (hlm:l.length=m.length) (hb:l.length < 9223372036854775807) (K:Nat):∀ d i,i≤l.length→l.length - i=d→(l.map kt).take i=(m.map kt).take i →
  rzSame.l0 (K+d+1) l m (i:Int)=some (decide (l.map kt=m.map kt)):=by
 intro d
 induction d with
 | zero =>
  intro i hi hd h0
  rw [List.take_of_length_le (by rw [List.length_map];omega),List.take_of_length_le (by rw [List.length_map];omega)] at h0
  rw [rzSame.l0,if_neg (by omega),decide_eq_true h0]
 | succ d ih =>
  intro i hi hd h0
  have hlt:i < l.length:=by omega
  have k1:=kt_rd l i hlt
  have k2:=kt_rd m i (by omega)
  have hiff:=kt_eq (rd_T38 l (i:Int)) (rd_T38 m (i:Int))
  rw [show K+(d+1)+1=(K+d+1)+1 by omega,rzSame.l0,if_pos (by omega),if_pos (by omega),if_pos (by omega)]
  have key:¬ (kt (rd_T38 l (i:Int))=kt (rd_T38 m (i:Int)))→¬ (l.map kt=m.map kt):=by
   intro h e
   apply h
   rw [k1,k2]
   simp only [e]
  by_cases hf0:(rd_T38 l (i:Int)).f0=(rd_T38 m (i:Int)).f0
  ·rw [if_pos hf0]
   by_cases hf1:(rd_T38 l (i:Int)).f1.toList=(rd_T38 m (i:Int)).f1.toList
   ·rw [if_pos hf1,wrapn (by omega) (by omega)]
    refine ih (i+1) (by omega) (by omega) ?_
    rw [List.take_add_one,List.take_add_one,h0,List.getElem?_eq_getElem (by simpa using hlt),List.getElem?_eq_getElem (by rw [List.length_map];omega),← k1,← k2,hiff.2 ⟨hf0,hf1⟩]
   ·rw [if_neg hf1,decide_eq_false (key fun h=>hf1 (hiff.1 h).2)]
  ·rw [if_neg hf0,decide_eq_false (key fun h=>hf0 (hiff.1 h).1)]
theorem refSame_ev (l m:List S38) (hb:l.length < 9223372036854775807):Ev (fun k=>rzSame.f k l m) (decide (l.map kt=m.map kt)):=by
 unfold rzSame.f
 by_cases h:(l.length:Int)=(m.length:Int)
 ·simp only [if_pos h]
  refine ⟨l.length+1,fun k hk=>?_⟩
  have:=refSame_l0 l m (by omega) hb (k - l.length - 1) l.length 0 (by omega) (by omega) rfl
  rw [show k - l.length - 1+l.length+1=k by omega] at this
  exact this
 ·simp only [if_neg h]
  rw [decide_eq_false (fun e=>h (by have:=congrArg List.length e;simp at this;omega))]
  exact Ev.now _
theorem sameWords_l0 (l:List ByteArray) (hb:l.length < 1000000) (K:Nat):∀ d i,i≤l.length→l.length - i=d→lzsameWords.l0 (K+d+1) l l (i:Int)=some true:=by
 intro d
 induction d with
 | zero =>
  intro i hi hd
  rw [lzsameWords.l0,if_neg (by omega)]
 | succ d ih =>
  intro i hi hd
  rw [show K+(d+1)+1=(K+d+1)+1 by omega,lzsameWords.l0,if_pos (by omega),if_pos (by omega),if_pos (by omega),if_pos rfl,wrapn (by omega) (by omega)]
  exact ih (i+1) (by omega) (by omega)
theorem sameWords_f (l:List ByteArray) (hb:l.length < 1000000) (k:Nat) (hk:l.length < k):lzsameWords.f k l l=some true:=by
 unfold lzsameWords.f
 rw [if_pos rfl]
 have:=sameWords_l0 l hb (k - l.length - 1) l.length 0 (by omega) (by omega)
 rw [show k - l.length - 1+l.length+1=k by omega] at this
 exact this
theorem ref_words2:rzWords.f=some (Lx.words.map strS):=by decide +kernel
theorem ref_signs2:rzSigns.f=some (Lx.signs.map strS):=by decide +kernel
theorem LexTokens_pure (t0:Int) (t1:ByteArray) (t2:Int) (a b:List S38) (h1:t1.size≤140737488351232) (ha:a.length≤140737488351232) (hb:b.length≤140737488351232):∃ k,lzLexTokens.f k t0 t1 t2 a b=some true:=by
 obtain ⟨K1,e1⟩:=refCheck_ev t0 t1 t2 (by omega)
 obtain ⟨K2,e2⟩:=refKind_e t1
 obtain ⟨K3,e3⟩:=refIsDesc_ev t1 (by omega)
 obtain ⟨K4,e4⟩:=refSame_ev a b (by omega)
 obtain ⟨M,hM⟩:∃ M,M=K1+K2+K3+K4+1000:=⟨_,rfl⟩
 have hsg:Lx.signs.length < 100:=by decide
 have hwd:Lx.words.length < 100:=by decide
 refine ⟨M+1,?_⟩
 have c1:rzCheck.f (M+1) t0 t1 t2=_:=e1 _ (by omega)
 have c2:rzKind.f (M+1) t1=_:=e2 _ (by omega)
 have c3:rzIsDesc.f (M+1) t1=_:=e3 _ (by omega)
 have c4:rzSame.f M a b=_:=e4 _ (by omega)
 unfold lzLexTokens.f
 simp only [sane_t.f,Option.bind_some]
 rw [check_m t0 t1 t2 (by omega),c1]
 simp only [Option.bind_some]
 rw [if_pos trivial,kind_f,c2]
 simp only [Option.bind_some]
 rw [if_pos trivial,isDesc_m,c3]
 simp only [Option.bind_some,bne_self_eq_false]
 rw [lzLexTokens.j0,if_neg (by decide),if_pos rfl]
 simp only [lex_Same.f,Option.bind_some]
 rw [c4]
 simp only [Option.bind_some,beq_self_eq_true,if_true,lex_Words.f,lex_Signs.f]
 rw [ref_words2,ref_signs2]
 simp only [Option.bind_some]
 rw [if_pos (decide_eq_true trivial),sameWords_f _ (by rw [List.length_map];decide) _ (by rw [List.length_map];omega)]
 simp only [Option.bind_some]
 rw [if_pos trivial,sameWords_f _ (by rw [List.length_map];decide) _ (by rw [List.length_map];omega)]
 rfl
theorem tokens_any (t0:Int) (t1:ByteArray) (t2:Int) (A:Option Addr) (c:Nat) (l:List S38) (B:Option Addr) (d:Nat) (m:List S38) (w:World) (h1:t1.size≤140737488351232) (hr:Kd.C k38 w A l.length l) (hc:l.length≤c) (hb:l.length≤140737488351232)
  (hr2:Kd.C k38 w B m.length m) (hd:m.length≤d) (hb2:m.length≤140737488351232) (hgw:GW w) :
  Calls Tryz.prog 14 #[.agg #[.int .i64 t0,.string t1,.int .i64 t2],.slice A l.length c,.slice B m.length d] w fun e w'=>e=.returned (.bool true)∧Below w.heap.size w w':=by
 obtain ⟨k,hk⟩:=LexTokens_pure t0 t1 t2 l m h1 hb hb2
 exact lzLexTokens.calls k t0 t1 t2 A c l B d m true w hr hc hr2 hd hk hgw
end Go.Proofs.YtadgddipkbdnbaaGreatDoor.Q
namespace Go.Proofs.YtadgddipkbdnbaaGreatDoor.lexTokens
open Go.ChangeShapes Go.WideShapes Go.ChangeAt Go.RowKit
open Go.ChangeMaps (open_string shut_string)
set_option maxRecDepth 100000 in
theorem lifted (os:Os) (started:os.Started) (H:Type) (enc:TypeId × Value→H) :
  ReturnsInHanded {} Tryz.checked os 14 .any (fun w args=>(Rows.lexTokensSpec.pre enc Tryz.prog Tryz.f14 [] false w args∧laidMetH Tryz.prog lexLaid w)∧sizedMet enc Tryz.prog Tryz.f14 (OpenSpec.ofChange Rows.lexTokensSpec) false w args)
   (Rows.lexTokensSpec.post enc Tryz.prog Tryz.f14 false true false false):=by
 refine handed_and_shaped (C:=Tryz.checked) (X:=fun w _=>laidMetH Tryz.prog lexLaid w) (fun _ _ _ hh h=>h.of_heap hh) own started (by kernel_rfl) Tryz.func14
  (ChangeSpec.witness_shaped (enc:=enc) (C:=Tryz.checked) (os:=os) (X:=fun w _=>laidMetH Tryz.prog lexLaid w) false (World.doorLaid Tryz.prog 400 os) #[.agg #[.int .i64 0,.string ByteArray.empty,.int .i64 0],.slice none 0 0,.slice none 0 0] 8 rfl (World.shaped_of_RefB (by kernel_rfl) (by kernel_rfl)) (by kernel_rfl) (by kernel_rfl) (by kernel_rfl) (door_met os _)) ?_
 intro W base args ds gs before hval0 hW hcnd hsz0 hL hsh _
 have hgw:=of_laid hL hsh
 clear hL hsh
 have hsz:(DataW.weightsEach Tryz.prog (Tryz.f14.params.toList ++ Rows.lexTokensSpec.plain.varTypes Tryz.prog) (ds ++ gs)).all (·≤reachBytes)=true:=hsz0
 have hval:∀ (j:Nat) t v,Tryz.f14.params[j]?=some t→args[j]?=some v→Value.okWide Tryz.prog W .any base t v:=hval0
 have hW':=hW
 obtain ⟨p,q,hA0,hV,rfl,hfz,hnd⟩:=hW
 have hA:DataW.TrodAll enc Tryz.prog W 0 (fun _=>true) true Tryz.f14.params.toList args.toList ds p:=hA0
 rw [Tryz.params14] at hA hval hsz
 obtain ⟨v0,vs0,d0,ds0,p0,q0,hargs,rfl,rfl,h0,r0⟩:=trodAll_cons hA
 obtain ⟨v1,vs1,d1,ds1,p1,q1,rfl,rfl,rfl,h1,r1⟩:=trodAll_cons r0
 obtain ⟨v2,vs2,d2,ds2,p2,q2,rfl,rfl,rfl,h2,r2⟩:=trodAll_cons r1
 obtain ⟨rfl,rfl,rfl⟩:=trodAll_nil r2
 obtain rfl:args=#[v0,v1,v2]:=by cases args;simp_all
 obtain ⟨rfl,rfl⟩:=trodVars_none hV
 have k0:=h0
 have lt0:∀ x∈p0,x.block < W.heap.size:=by obtain ⟨m,hm⟩:=k0;exact DataW.trod_lt m _ _ _ hm
 obtain ⟨a0,b0,c0,rfl,w0⟩:=Q.open_tok (hval 0 38 v0 rfl rfl) h0 hsz (j:=0) rfl rfl
 have k1:=h1
 have lt1:∀ x∈p1,x.block < W.heap.size:=by obtain ⟨m,hm⟩:=k1;exact DataW.trod_lt m _ _ _ hm
 obtain ⟨a1,cap1,l1,rfl,le1,z1,w1,y1⟩:=Q.open_toks (hval 1 23 v1 rfl rfl) h1 hsz (j:=1) rfl rfl
 have k2:=h2
 have lt2:∀ x∈p2,x.block < W.heap.size:=by obtain ⟨m,hm⟩:=k2;exact DataW.trod_lt m _ _ _ hm
 obtain ⟨a2,cap2,l2,rfl,le2,z2,w2,y2⟩:=Q.open_toks (hval 2 23 v2 rfl rfl) h2 hsz (j:=2) rfl rfl
 clear hA0 hval0 hsz0 hsz
 refine (Q.tokens_any a0 b0 c0 a1 cap1 l1 a2 cap2 l2 W w0 z1 le1 w1 z2 le2 w2 hgw).mono fun e W' ⟨he,bel⟩=>?_
 subst he
 exact ⟨_,rfl,_,_,_,[],_,[],hW',trodAll_mk1 (shut_bool Tryz.underlying4 _),(trodAll_cons_mk (Below.trod Q.laidOut (by kernel_rfl) (of_decide_eq_true (by kernel_rfl)) k0 bel lt0) (trodAll_cons_mk (Below.trod Q.laidOut (by kernel_rfl) (of_decide_eq_true (by kernel_rfl)) k1 bel lt1) (trodAll_cons_mk (Below.trod Q.laidOut (by kernel_rfl) (of_decide_eq_true (by kernel_rfl)) k2 bel lt2) trodAll_mk0))),rfl,bel.frame _,fun h=>by cases h⟩
theorem over:Rows.LexTokensSaid :=
 OpenClaim.holds_of_wide 14 Tryz.f14 rfl rfl rfl rfl rfl rfl rfl ⟨rfl,rfl,rfl,rfl,rfl⟩ rfl rfl rfl rfl rfl (by kernel_rfl) Tryz.func14 (by kernel_rfl)
  (of_decide_eq_true (by kernel_rfl)) (by unfold Func.isWrapper;first | (rw [if_pos (by decide +kernel)];kernel_rfl) | (rw [if_neg (by decide +kernel)];exact ⟨rfl,rfl⟩))
  (fun os started H enc _=>lifted os started H enc)
end Go.Proofs.YtadgddipkbdnbaaGreatDoor.lexTokens
namespace Go.Proofs.YtadgddipkbdnbaaGreatDoor
theorem lexTokens_card:Rows.LexTokensCardSaid :=
 Claim7.holds_tied_plain_at .later [] [.data,.data,.data,.sentinel,.sentinel,.listed,.data,.data] true (true, "85ed3a9bdcdf405d5b0a35b2759147de3913577c107b7173cad54d4ee995d561") true
  lexTokens.over (fun _ h=>by cases h) (by kernel_rfl) (fun _ h=>by cases h) lexTokens_row_tie rfl ⟨rfl,rfl⟩ (by kernel_rfl) rfl
  (fun f fn hf hfn=>by
   obtain rfl:f=14:=Option.some.inj ((show Tryz.prog.funcNamed "tapline/taplinelaw11.LexTokens" = some 14 by kernel_rfl).symm.trans hf) |>.symm
   obtain rfl:fn=Tryz.f14:=(Option.some.inj (Tryz.func14.symm.trans hfn)).symm
   exact ⟨by kernel_rfl,fun j t ht=>by
    rw [Tryz.params14] at ht
    have hm:t∈[38,23,23]:=by simpa using Array.mem_of_getElem? ht
    have hall:([38,23,23].all fun u=>!Tryz.prog.wantsStandIn u)=true:=by kernel_rfl
    exact (show Tryz.prog.wantsStandIn t=false by simpa using List.all_eq_true.1 hall t hm)⟩)
  (by kernel_rfl)
#print axioms lexTokens_card
end Go.Proofs.YtadgddipkbdnbaaGreatDoor
