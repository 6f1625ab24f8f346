/- Parts of the proof that the program's token functions return what the specification's return. -/
import Derived.Test.YtadgddipkbdnbaaGreatDoorLexTokensZ1
import Derived.Test.YtadgddipkbdnbaaGreatDoorLexTokensZ2
import Derived.Test.YtadgddipkbdnbaaGreatDoorLexTokensZ3
import Derived.Test.YtadgddipkbdnbaaGreatDoorLexTokensZ4
import Derived.Test.YtadgddipkbdnbaaGreatDoorLexTokensZ5
import Derived.Test.YtadgddipkbdnbaaGreatDoorLexTokensZ6
import Derived.Test.YtadgddipkbdnbaaGreatDoorLexTokensZ7
import Derived.Test.YtadgddipkbdnbaaGreatDoorLexTokensZ12
import Derived.Test.YtadgddipkbdnbaaGreatDoorLexTokensZ13
import Derived.Test.YtadgddipkbdnbaaGreatDoorLexTokensZ15
import Derived.RangeFuncIn
import Derived.Deep.RegionHeldLaw
import Derived.TacticsIn
import Derived.RegionIn
set_option linter.unusedVariables false
set_option linter.unusedSimpArgs false
namespace Go.Proofs.YtadgddipkbdnbaaGreatDoor
open Go.RowKit
open YtadgddipkbdnbaaGreatDoorW.PrintLast
section
variable {wB w w':World} {o b L p1 p2 H:Nat} {wv sv:Value} {rec:Loop} {s:ByteArray} {e:Nat} {preL preO:List Lx.Tok}
def FrO (wB:World) (o b L:Nat) (w:World):Prop:=Fr wB o b L w∧∃ A n c,w.cell? ⟨o,0,none⟩=some (.slice A n c)
theorem Inv.frO (h:Inv wB o b L wv sv rec s e preL preO w):FrO wB o b L w:=by
 obtain ⟨vo,vl,h1,_,h2,_⟩:=h.io
 refine ⟨h.fr,?_⟩
 rcases h2.2 with ⟨h3,_⟩ | ⟨g,cap,cur,h3,_⟩
 ·exact ⟨_,_,_,by rw [h1,h3]⟩
 ·exact ⟨_,_,_,by rw [h1,h3]⟩
theorem skip_ok (st:Stat wB o b L p1 p2 H wv sv) (h:Inv wB o b L wv sv rec s e preL preO w) (he:e≤s.size) (hs:s.size≤20000) {r':List UInt8} (hr:Lx.skip (s.data.toList.drop e)=.ok r') (hb10:10≤b) :
  Calls Tryz.prog 99 #[.pointer (some ⟨b,0,none⟩)] w fun x w'=>x=.returned (.tuple #[])∧Inv wB o b L wv sv rec s (s.size - r'.length) preL preO w':=by
 refine (skip_any b e s w (h.gw st) h.scn hb10 he (by omega)).mono fun x w' hx=>?_
 unfold SkPost at hx
 rw [hr] at hx
 exact ⟨hx.1,(h.at st _).below hx.2 (by rw [AtW.size];exact Nat.le_refl _)⟩
theorem skip_err (st:Stat wB o b L p1 p2 H wv sv) (h:Inv wB o b L wv sv rec s e preL preO w) (he:e≤s.size) (hs:s.size≤20000) {c:List UInt8} (hr:Lx.skip (s.data.toList.drop e)=.error c) (hb10:10≤b) :
  Calls Tryz.prog 99 #[.pointer (some ⟨b,0,none⟩)] w fun x w'=>x=.panicked (thrown (s.size - c.length) 113)∧FrO wB o b L w':=by
 refine (skip_any b e s w (h.gw st) h.scn hb10 he (by omega)).mono fun x w' hx=>?_
 unfold SkPost at hx
 rw [hr] at hx
 exact ⟨hx.1,((h.at st _).below hx.2 (by rw [AtW.size];exact Nat.le_refl _)).frO⟩
theorem which_none (st:Stat wB o b L p1 p2 H wv sv) (h:Inv wB o b L wv sv rec s e preL preO w) (he:e < s.size) (hs:s.size≤20000) (hno:∀ j,j < 6→begC preL s[e] (tail s e) j=false) :
  Calls Tryz.prog 100 #[.slice (some ⟨H+1+1+1+1,0,none⟩) 6 6,.func (.func 101) #[] #[.pointer (some ⟨p1,0,none⟩)]] w fun x w'=>x=.returned (.int .i64 (-1))∧Below w.heap.size w w':=by
 refine (which_any wB.heap.size b e H p1 s preL w (h.sw st) (h.recs st) (h.c1 st) he (by omega)).mono fun x w' hx=>⟨?_,hx.2⟩
 rcases hx.1 with ⟨hx,_⟩ | ⟨k,hk,_,hy,_⟩
 ·exact hx
 ·rw [hno k hk] at hy;cases hy
theorem which_at (st:Stat wB o b L p1 p2 H wv sv) (h:Inv wB o b L wv sv rec s e preL preO w) (he:e < s.size) (hs:s.size≤20000) (k:Nat) (hk:k < 6) (hy:begC preL s[e] (tail s e) k=true) (hno:∀ j,j < k→begC preL s[e] (tail s e) j=false) :
  Calls Tryz.prog 100 #[.slice (some ⟨H+1+1+1+1,0,none⟩) 6 6,.func (.func 101) #[] #[.pointer (some ⟨p1,0,none⟩)]] w fun x w'=>x=.returned (.int .i64 (k:Int))∧Below w.heap.size w w':=by
 refine (which_any wB.heap.size b e H p1 s preL w (h.sw st) (h.recs st) (h.c1 st) he (by omega)).mono fun x w' hx=>⟨?_,hx.2⟩
 rcases hx.1 with ⟨_,hx⟩ | ⟨k',hk',hx,hy',hno'⟩
 ·rw [hx k hk] at hy;cases hy
 ·rcases Nat.lt_trichotomy k' k with hl | hl | hl
  ·rw [hno k' hl] at hy';cases hy'
  ·rw [hx,hl]
  ·rw [hno' k hl] at hy;cases hy
theorem ends_ok (st:Stat wB o b L p1 p2 H wv sv) (h:Inv wB o b L wv sv rec s e preL preO w) (he:e < s.size) (hs:s.size≤20000) (k:Nat) (hk:k < 6) (hy:begC preL s[e] (tail s e) k=true) (hno:∀ j,j < k→begC preL s[e] (tail s e) j=false) {kind:Int} {n:Nat} (ho:Lx.one (Lx.opens preL) (s.data.toList.drop e)=.ok (kind,n)) :
  Calls Tryz.prog (endF k) #[.pointer (some ⟨b,0,none⟩)] w fun x w'=>x=.returned (.tuple #[.int .i64 kind,.int .i64 ((e+n:Nat):Int)])∧Below w.heap.size w w':=by
 refine (ends_any wB.heap.size b e s preL w (h.sw st) he (by omega) k hk hy hno).mono fun x w' hx=>⟨?_,hx.2⟩
 have h1:=hx.1
 unfold OnePost at h1
 rw [ho] at h1
 exact h1
theorem ends_err (st:Stat wB o b L p1 p2 H wv sv) (h:Inv wB o b L wv sv rec s e preL preO w) (he:e < s.size) (hs:s.size≤20000) (k:Nat) (hk:k < 6) (hy:begC preL s[e] (tail s e) k=true) (hno:∀ j,j < k→begC preL s[e] (tail s e) j=false) {c:Int} (ho:Lx.one (Lx.opens preL) (s.data.toList.drop e)=.error c) :
  Calls Tryz.prog (endF k) #[.pointer (some ⟨b,0,none⟩)] w fun x w'=>x=.panicked (thrown e c)∧Below w.heap.size w w':=by
 refine (ends_any wB.heap.size b e s preL w (h.sw st) he (by omega) k hk hy hno).mono fun x w' hx=>⟨?_,hx.2⟩
 have h1:=hx.1
 unfold OnePost at h1
 rw [ho] at h1
 exact h1
theorem which_upto (pre:List Lx.Tok) (c:UInt8) (r:List UInt8) (n:Nat):n≤6→(∀ j,j < n→begC pre c r j=false)∨∃ k,k < 6∧begC pre c r k=true∧∀ j,j < k→begC pre c r j=false:=by
 induction n with
 | zero=>exact fun _=>.inl fun j hj=>absurd hj (Nat.not_lt_zero j)
 | succ n ih =>
  intro hn
  rcases ih (by omega) with h | h
  ·cases hb:begC pre c r n with
   | true=>exact .inr ⟨n,by omega,hb,h⟩
   | false =>
    refine .inl fun j hj=>?_
    by_cases h1:j < n
    ·exact h j h1
    ·obtain rfl:j=n:=by omega
     exact hb
  ·exact .inr h
theorem which_split (pre:List Lx.Tok) (c:UInt8) (r:List UInt8):(∀ j,j < 6→begC pre c r j=false)∨∃ k,k < 6∧begC pre c r k=true∧∀ j,j < k→begC pre c r j=false:=which_upto pre c r 6 (Nat.le_refl _)
end
theorem scanT_nil {len:Nat} {pre:List Lx.Tok} {r:List UInt8} (h:r=[]):Lx.scanT len pre r=.ok pre.reverse:=by subst h;rfl
theorem scanT_err {len:Nat} {pre:List Lx.Tok} {r t:List UInt8} {c:UInt8} {x:Int} (h:r=c :: t) (ho:Lx.one (Lx.opens pre) r=.error x):Lx.scanT len pre r=.error (r,x):=by subst h;simp only [Lx.scanT,ho]
theorem scanT_long {len k:Nat} {pre:List Lx.Tok} {r t:List UInt8} {c:UInt8} {kind:Int} (h:r=c :: t) (ho:Lx.one (Lx.opens pre) r=.ok (kind,k)) (hl:pre.length=4000):Lx.scanT len pre r=.error (r,2):=by subst h;simp only [Lx.scanT,ho,hl,if_true]
theorem scanT_more {len k:Nat} {pre:List Lx.Tok} {r t:List UInt8} {c:UInt8} {kind:Int} (h:r=c :: t) (ho:Lx.one (Lx.opens pre) r=.ok (kind,k)) (hl:¬ pre.length=4000):Lx.scanT len pre r=Lx.scanR len (⟨kind,r.take k,len - r.length⟩ :: pre) (r.drop k):=by subst h;simp only [Lx.scanT,ho,hl,if_false]
theorem lastV_one {w:World} {B:Nat} {v:Value} {t:Lx.Tok} (h:LastV w B v [t]):∃ g o cap,v=.slice (some ⟨g,o,none⟩) 1 cap∧1≤cap∧B≤g:=by
 rcases h with ⟨h,_⟩ | ⟨g,o,cap,cur,rfl,hg,h0,hc,r⟩
 ·cases h
 ·exact ⟨g,o,cap,rfl,hc,hg⟩
theorem lastV_two {w:World} {B:Nat} {v:Value} {u t:Lx.Tok} (h:LastV w B v [u,t]):∃ g o cap,v=.slice (some ⟨g,o,none⟩) 2 cap∧2≤cap∧B≤g∧LastV w B (.slice (some ⟨g,o+3,none⟩) 1 (cap - 1)) [t]:=by
 rcases h with ⟨h,_⟩ | ⟨g,o,cap,cur,rfl,hg,h0,hc,hh,⟨off,ho,hm,hs⟩,hj⟩
 ·cases h
 ·have hc2:2≤cap:=hc
  refine ⟨g,o,cap,rfl,hc2,hg,.inr ⟨g,o+3,cap - 1,cur,rfl,hg,by simp,by simp;omega,hh,⟨off+1,by omega,by omega,by rw [hs];congr 1;omega⟩,fun j x hx=>?_⟩⟩
  have:=hj (3+j) x (by
   rw [List.flatMap_cons,List.getElem?_append_right (by simp [tc])]
   simpa [tc] using hx)
  rw [← this]
  congr 1
  omega
theorem step_append_last {ops:Array Oper} {oo:Oper} {a:Act} {w:World} {K:Act→World→Prop} {Q:Exit→Act→World→Prop} {E:Prop} (hgd:oo.guard=none) (sx x:Operand)
  (ho:oo.op=.call { callee:=.builtin .append,args:=#[sx,x],argTypes:=#[23,23] }) (B:Nat) (vl:Value) (l:List Lx.Tok) (hs:a.eval sx=vl) (hl:LastV w B vl l) (hlen:l.length≤2) (hB:B≤w.heap.size)
  (tok:Lx.Tok) (ad:Addr) (c:Nat) (hx:a.eval x=.slice (some ad) 1 c) (hnews:∀ j u,(tc tok)[j]?=some u→w.cell? (ad.add j)=some u)
  (h:∀ g o cap w',LastV w' B (.slice (some ⟨g,o,none⟩) (l.length+1) cap) (l ++ [tok])→w.grownBy w' vl.ownBlock →
   ((Value.slice (some ⟨g,o,none⟩) (l.length+1) cap).ownBlock=vl.ownBlock∨∃ b,(Value.slice (some ⟨g,o,none⟩) (l.length+1) cap).ownBlock=some b∧w.heap.size≤b)→K (a.put oo.dst (.slice (some ⟨g,o,none⟩) (l.length+1) cap)) w') :
  if Region.wanted oo (yielded ops a.tmps)=true then Oper.wp Tryz.prog oo a w K Q else E:=by
 have hw:Region.wanted oo (yielded ops a.tmps)=true:=by simp [Region.wanted,hgd]
 rw [if_pos hw]
 obtain ⟨g,o,cap,w',hr,h1,h2,h3⟩:=lastV_append w oo.type B vl l tok hl hlen hB ad c hnews
 unfold Oper.wp execOp
 simp only [ho,resolve,invoke,builtin,Sem.run_bind,Sem.run_pure,Result.andThen_ok,List.map_toArray,List.map_cons,List.map_nil,hs,hx,hr]
 exact h g o cap w' h1 h2 h3
theorem thrown_here {A:Prop} (w:World) (h:A) (_:wpAny Tryz.prog .any #[] (fun _ _ _=>True) 0 #[] { tmps:=#[],defers:=[] } w):A:=h
def TokPost (wB:World) (o b L:Nat) (wv sv:Value) (rec:Loop) (s:ByteArray) (x:Ending) (w':World):Prop :=
 match Lx.scanR s.size [] s.data.toList with
 | .ok l=>x=.returned (.tuple #[])∧∃ e pre,pre.reverse=l∧Inv wB o b L wv sv rec s e pre pre w'
 | .error (r,c)=>x=.panicked (thrown (s.size - r.length) c)∧FrO wB o b L w'
theorem tokPost_ok {wB w':World} {o b L:Nat} {wv sv:Value} {rec:Loop} {s:ByteArray} {l:List Lx.Tok} (h:Lx.scanR s.size [] s.data.toList=.ok l) {x:Ending} (hx:x=.returned (.tuple #[])) (e:Nat) (pre:List Lx.Tok) (hp:pre.reverse=l) (hi:Inv wB o b L wv sv rec s e pre pre w'):TokPost wB o b L wv sv rec s x w':=by
 unfold TokPost;rw [h];exact ⟨hx,e,pre,hp,hi⟩
theorem tokPost_err {wB w':World} {o b L:Nat} {wv sv:Value} {rec:Loop} {s:ByteArray} {r:List UInt8} {c:Int} (h:Lx.scanR s.size [] s.data.toList=.error (r,c)) {x:Ending} {z:Nat} (hz:s.size - r.length=z) (hx:x=.panicked (thrown z c)) (hi:FrO wB o b L w'):TokPost wB o b L wv sv rec s x w':=by
 subst hz;unfold TokPost;rw [h];exact ⟨hx,hi⟩
def Rounds (wB:World) (o b L:Nat) (wv sv:Value) (rec:Loop) (s:ByteArray):Prop :=
 ∀ (pre:List Lx.Tok) (e:Nat) (w:World) (tok:Lx.Tok),Inv wB o b L wv sv rec s e pre pre w→tok.text.length≤20000 →
  (pre.length < 4000→RoundIn Fence.wide 0 Tryz.prog L rec.fn ((rec.params.zip #[.agg (tc tok).toArray]).foldl (fun tmps (t,a)=>tmps.setIfInBounds t a) rec.tmps) rec.assign rec.body w fun x w'=>x=.returned (.bool true)∧Inv wB o b L wv sv rec s e pre (tok :: pre) w'∧∀ k,k < w.heap.size→k≠o→k≠L→(∀ v,w.cell? ⟨o,0,none⟩=some v→v.ownBlock≠some k)→w'.heap[k]?=w.heap[k]?) ∧
  (pre.length=4000→RoundIn Fence.wide 0 Tryz.prog L rec.fn ((rec.params.zip #[.agg (tc tok).toArray]).foldl (fun tmps (t,a)=>tmps.setIfInBounds t a) rec.tmps) rec.assign rec.body w fun x w'=>x=.panicked (thrown e 2)∧FrO wB o b L w')
set_option maxHeartbeats 8000000 in
set_option maxRecDepth 100000 in
theorem tokens_any (wB:World) (o b L p1 p2 H:Nat) (wv sv:Value) (rec:Loop) (s:ByteArray) (st:Stat wB o b L p1 p2 H wv sv) (hs:s.size≤20000) (hb10:10≤b) (hrd:rec.state=.ready) (hps:rec.params.size=1)
  (hround:Rounds wB o b L wv sv rec s) (w:World) (h:Inv wB o b L wv sv rec s 0 [] [] w) :
  Calls Tryz.prog 98 #[.func (.yield L) #[] #[],.pointer (some ⟨p1,0,none⟩),.pointer (some ⟨p2,0,none⟩)] w (TokPost wB o b L wv sv rec s):=by
 have HSZ:=Lib.hid (Lib.size_eq s)
 have hc1:=h.c1 st
 have hsr:=Lx.scanR_eq s.size [] s.data.toList
 rw [show s.data.toList=s.data.toList.drop 0 from rfl] at hsr
 cases hk0:Lx.skip (s.data.toList.drop 0) with
 | error c =>
  rw [hk0] at hsr
  have HSR:=Lib.hid hsr
  have HK:=Lib.hid hk0
  clear hsr hk0
  go_enter Tryz.func98,Tryz.ntmps98
  go_wp2_with (go_at_call 99;refine (skip_err st h (Nat.zero_le _) hs HK.out hb10).mono ?_;rintro x w1 ⟨rfl,hf1⟩)
  exact ⟨rfl,tokPost_err HSR.out rfl rfl hf1⟩
 | ok r0 =>
  rw [hk0] at hsr
  have HSR:=Lib.hid hsr
  have HK:=Lib.hid hk0
  obtain ⟨i0,hi0,hi1⟩:=Lx.skip_ok_suffix hk0
  have HR0:=Lib.hid (Lx.drop_back (Nat.zero_le _) hi0 hi1)
  clear hsr hk0 hi0 hi1
  go_enter Tryz.func98,Tryz.ntmps98
  go_wp2_with (go_at_call 99;refine (skip_ok st h (Nat.zero_le _) hs HK.out hb10).mono ?_;rintro x w1 ⟨rfl,hI1⟩)
  go_loopg [] (s.size - (s.size - r0.length)) (fun n wr=>∃ (e:Nat) (pre:List Lx.Tok),pre.length≤4000∧e≤s.size∧n=s.size - e∧Hid (Lx.scanR s.size [] (s.data.toList.drop 0)=Lx.scanT s.size pre (s.data.toList.drop e))∧Inv wB o b L wv sv rec s e pre pre wr)
  case atStart=>exact ⟨s.size - r0.length,[],by simp,by omega,rfl,Lib.hid (by rw [HSR.out];show Lx.scanT _ _ _=_;rw [show s.data.toList.drop (s.size - r0.length)=r0 by rw [HSZ.out];exact HR0.out.symm]),hI1⟩
  case round =>
   obtain ⟨e,pre,hpl,he,rfl,HE,hI⟩:=hrel
   have r0':=hI.scn.text
   have r1':=hI.scn.at_
   have d1':=hI.c1 st
   by_cases hlt:e < s.size
   ·have HD:=Lib.hid (show s.data.toList.drop e=s[e] :: s.data.toList.drop (e+1) by rw [List.drop_eq_getElem_cons (by rw [← HSZ.out];exact hlt)];rfl)
    rcases which_split pre s[e] (tail s e) with hno | ⟨k,hk,hy,hno⟩
    ·have HO:=Lib.hid (one_none pre s e hlt hno)
     go_upto_region 3 with (go_quiet (fail))
     have hI2:=hI.below (below_drewN (Below.refl _ _) nq) (Nat.le_refl _)
     have c2':=hI2.c2 st
     generalize wr.drewN nq=wq at hI2 c2' ⊢
     go_wp2_with (first | (go_at_call 100;refine (which_none st hI2 hlt hs hno).mono ?_;rintro x w1 ⟨rfl,hb1⟩;have hI3:=hI2.below hb1 (Nat.le_refl _);have d1'':=hI3.c1 st) | (go_at_call 74;refine (fail_any b e 110 s _ hI3.scn).mono ?_;rintro x w2 ⟨rfl,rfl⟩))
     exact ⟨rfl,tokPost_err (HE.out.trans (scanT_err HD.out HO.out)) (by rw [List.length_drop,← HSZ.out];omega) rfl hI3.frO⟩
    ·go_upto_region 3 with (go_quiet (fail))
     have hI2:=hI.below (below_drewN (Below.refl _ _) nq) (Nat.le_refl _)
     have c2':=hI2.c2 st
     generalize wr.drewN nq=wq at hI2 c2' ⊢
     go_upto_region 6 with (go_at_call 100;refine (which_at st hI2 hlt hs k hk hy hno).mono ?_;rintro x w1 ⟨rfl,hb1⟩;have hI3:=hI2.below hb1 (Nat.le_refl _);have d1'':=hI3.c1 st;have c2'':=hI3.c2 st)
     clear r0' r1' d1' hI c2' hb1 hI2
     have hk6:k=0∨k=1∨k=2∨k=3∨k=4∨k=5:=by omega
     cases hone:Lx.one (Lx.opens pre) (s.data.toList.drop e) with
     | error c =>
      have HO:=Lib.hid hone
      clear hone
      rcases hk6 with rfl | rfl | rfl | rfl | rfl | rfl
      ·have f0:=(hI3.recs st).end_at 0 (by omega)
       dsimp only [recE,Nat.reduceMul,Nat.reduceAdd] at f0
       go_region_with (go_at_call 119;refine (ends_err st hI3.drew hlt hs 0 (by omega) hy hno HO.out).mono ?_;rintro x w2 ⟨rfl,hb2⟩;refine thrown_here w2 ⟨rfl,tokPost_err (HE.out.trans (scanT_err HD.out HO.out)) (by rw [List.length_drop,← HSZ.out];omega) rfl (hI3.drew.below hb2 (Nat.le_refl _)).frO⟩ ?_)
       all_goals trivial
      ·have f0:=(hI3.recs st).end_at 1 (by omega)
       dsimp only [recE,Nat.reduceMul,Nat.reduceAdd] at f0
       go_region_with (go_at_call 120;refine (ends_err st hI3.drew hlt hs 1 (by omega) hy hno HO.out).mono ?_;rintro x w2 ⟨rfl,hb2⟩;refine thrown_here w2 ⟨rfl,tokPost_err (HE.out.trans (scanT_err HD.out HO.out)) (by rw [List.length_drop,← HSZ.out];omega) rfl (hI3.drew.below hb2 (Nat.le_refl _)).frO⟩ ?_)
       all_goals trivial
      ·have f0:=(hI3.recs st).end_at 2 (by omega)
       dsimp only [recE,Nat.reduceMul,Nat.reduceAdd] at f0
       go_region_with (go_at_call 121;refine (ends_err st hI3.drew hlt hs 2 (by omega) hy hno HO.out).mono ?_;rintro x w2 ⟨rfl,hb2⟩;refine thrown_here w2 ⟨rfl,tokPost_err (HE.out.trans (scanT_err HD.out HO.out)) (by rw [List.length_drop,← HSZ.out];omega) rfl (hI3.drew.below hb2 (Nat.le_refl _)).frO⟩ ?_)
       all_goals trivial
      ·have f0:=(hI3.recs st).end_at 3 (by omega)
       dsimp only [recE,Nat.reduceMul,Nat.reduceAdd] at f0
       go_region_with (go_at_call 122;refine (ends_err st hI3.drew hlt hs 3 (by omega) hy hno HO.out).mono ?_;rintro x w2 ⟨rfl,hb2⟩;refine thrown_here w2 ⟨rfl,tokPost_err (HE.out.trans (scanT_err HD.out HO.out)) (by rw [List.length_drop,← HSZ.out];omega) rfl (hI3.drew.below hb2 (Nat.le_refl _)).frO⟩ ?_)
       all_goals trivial
      ·have f0:=(hI3.recs st).end_at 4 (by omega)
       dsimp only [recE,Nat.reduceMul,Nat.reduceAdd] at f0
       go_region_with (go_at_call 123;refine (ends_err st hI3.drew hlt hs 4 (by omega) hy hno HO.out).mono ?_;rintro x w2 ⟨rfl,hb2⟩;refine thrown_here w2 ⟨rfl,tokPost_err (HE.out.trans (scanT_err HD.out HO.out)) (by rw [List.length_drop,← HSZ.out];omega) rfl (hI3.drew.below hb2 (Nat.le_refl _)).frO⟩ ?_)
       all_goals trivial
      ·have f0:=(hI3.recs st).end_at 5 (by omega)
       dsimp only [recE,Nat.reduceMul,Nat.reduceAdd] at f0
       go_region_with (go_at_call 126;refine (ends_err st hI3.drew hlt hs 5 (by omega) hy hno HO.out).mono ?_;rintro x w2 ⟨rfl,hb2⟩;refine thrown_here w2 ⟨rfl,tokPost_err (HE.out.trans (scanT_err HD.out HO.out)) (by rw [List.length_drop,← HSZ.out];omega) rfl (hI3.drew.below hb2 (Nat.le_refl _)).frO⟩ ?_)
       all_goals trivial
     | ok p =>
      obtain ⟨kind,n⟩:=p
      have HO:=Lib.hid hone
      clear hone
      have hnl:=Lx.one_len _ _ _ _ HO.out
      rw [List.length_drop,← HSZ.out] at hnl
      obtain ⟨z,hz⟩:∃ z,z=e+n:=⟨_,rfl⟩
      have hze:e < z:=by omega
      have hzs:z≤s.size:=by omega
      have HZ:=Lib.hid hz
      clear hz hnl
      go_cut [5,6] (fun s5 s6 wx=>s5=.int .i64 kind∧s6=.int .i64 (z:Int)∧Below w1.heap.size w1 wx)
      case first =>
       rcases hk6 with rfl | rfl | rfl | rfl | rfl | rfl
       ·have f0:=(hI3.recs st).end_at 0 (by omega)
        dsimp only [recE,Nat.reduceMul,Nat.reduceAdd] at f0
        go_region_held3 (fun w'=>w'.cell? ⟨p1,0,none⟩=some (.pointer (some ⟨b,0,none⟩))∧w'.cell? ⟨p2,0,none⟩=some (.slice (some ⟨H+1+1+1+1,0,none⟩) 6 6)∧w'.cell? ⟨H+1+1+1+1,1,none⟩=some (.func (.func 119) #[] #[])∧Below w1.heap.size w1 w') (first | exact ⟨d1'',c2'',f0,(Below.refl _ _).drew⟩ | exact ⟨(hb2.cell (World.block_lt_of_cell? _ _ k0)).trans k0,(hb2.cell (World.block_lt_of_cell? _ _ k1)).trans k1,(hb2.cell (World.block_lt_of_cell? _ _ k2)).trans k2,kb.trans (hb2.mono kb.size)⟩)
         (first | (go_at_call 119;obtain ⟨k0,k1,k2,kb⟩:=(by assumption:_∧_∧_∧Below _ _ _);refine (ends_ok st (hI3.below kb (Nat.le_refl _)) hlt hs 0 (by omega) hy hno HO.out).mono ?_;rintro x w2 ⟨rfl,hb2⟩))
        obtain ⟨k0,k1,k2,kb⟩:=(by assumption:_∧_∧_∧Below _ _ _)
        go_wp2
        go_meet
        exact ⟨rfl,int_eq (by have:=HZ.out;omega),kb⟩
       ·have f0:=(hI3.recs st).end_at 1 (by omega)
        dsimp only [recE,Nat.reduceMul,Nat.reduceAdd] at f0
        go_region_held3 (fun w'=>w'.cell? ⟨p1,0,none⟩=some (.pointer (some ⟨b,0,none⟩))∧w'.cell? ⟨p2,0,none⟩=some (.slice (some ⟨H+1+1+1+1,0,none⟩) 6 6)∧w'.cell? ⟨H+1+1+1+1,3,none⟩=some (.func (.func 120) #[] #[])∧Below w1.heap.size w1 w') (first | exact ⟨d1'',c2'',f0,(Below.refl _ _).drew⟩ | exact ⟨(hb2.cell (World.block_lt_of_cell? _ _ k0)).trans k0,(hb2.cell (World.block_lt_of_cell? _ _ k1)).trans k1,(hb2.cell (World.block_lt_of_cell? _ _ k2)).trans k2,kb.trans (hb2.mono kb.size)⟩)
         (first | (go_at_call 120;obtain ⟨k0,k1,k2,kb⟩:=(by assumption:_∧_∧_∧Below _ _ _);refine (ends_ok st (hI3.below kb (Nat.le_refl _)) hlt hs 1 (by omega) hy hno HO.out).mono ?_;rintro x w2 ⟨rfl,hb2⟩))
        obtain ⟨k0,k1,k2,kb⟩:=(by assumption:_∧_∧_∧Below _ _ _)
        go_wp2
        go_meet
        exact ⟨rfl,int_eq (by have:=HZ.out;omega),kb⟩
       ·have f0:=(hI3.recs st).end_at 2 (by omega)
        dsimp only [recE,Nat.reduceMul,Nat.reduceAdd] at f0
        go_region_held3 (fun w'=>w'.cell? ⟨p1,0,none⟩=some (.pointer (some ⟨b,0,none⟩))∧w'.cell? ⟨p2,0,none⟩=some (.slice (some ⟨H+1+1+1+1,0,none⟩) 6 6)∧w'.cell? ⟨H+1+1+1+1,5,none⟩=some (.func (.func 121) #[] #[])∧Below w1.heap.size w1 w') (first | exact ⟨d1'',c2'',f0,(Below.refl _ _).drew⟩ | exact ⟨(hb2.cell (World.block_lt_of_cell? _ _ k0)).trans k0,(hb2.cell (World.block_lt_of_cell? _ _ k1)).trans k1,(hb2.cell (World.block_lt_of_cell? _ _ k2)).trans k2,kb.trans (hb2.mono kb.size)⟩)
         (first | (go_at_call 121;obtain ⟨k0,k1,k2,kb⟩:=(by assumption:_∧_∧_∧Below _ _ _);refine (ends_ok st (hI3.below kb (Nat.le_refl _)) hlt hs 2 (by omega) hy hno HO.out).mono ?_;rintro x w2 ⟨rfl,hb2⟩))
        obtain ⟨k0,k1,k2,kb⟩:=(by assumption:_∧_∧_∧Below _ _ _)
        go_wp2
        go_meet
        exact ⟨rfl,int_eq (by have:=HZ.out;omega),kb⟩
       ·have f0:=(hI3.recs st).end_at 3 (by omega)
        dsimp only [recE,Nat.reduceMul,Nat.reduceAdd] at f0
        go_region_held3 (fun w'=>w'.cell? ⟨p1,0,none⟩=some (.pointer (some ⟨b,0,none⟩))∧w'.cell? ⟨p2,0,none⟩=some (.slice (some ⟨H+1+1+1+1,0,none⟩) 6 6)∧w'.cell? ⟨H+1+1+1+1,7,none⟩=some (.func (.func 122) #[] #[])∧Below w1.heap.size w1 w') (first | exact ⟨d1'',c2'',f0,(Below.refl _ _).drew⟩ | exact ⟨(hb2.cell (World.block_lt_of_cell? _ _ k0)).trans k0,(hb2.cell (World.block_lt_of_cell? _ _ k1)).trans k1,(hb2.cell (World.block_lt_of_cell? _ _ k2)).trans k2,kb.trans (hb2.mono kb.size)⟩)
         (first | (go_at_call 122;obtain ⟨k0,k1,k2,kb⟩:=(by assumption:_∧_∧_∧Below _ _ _);refine (ends_ok st (hI3.below kb (Nat.le_refl _)) hlt hs 3 (by omega) hy hno HO.out).mono ?_;rintro x w2 ⟨rfl,hb2⟩))
        obtain ⟨k0,k1,k2,kb⟩:=(by assumption:_∧_∧_∧Below _ _ _)
        go_wp2
        go_meet
        exact ⟨rfl,int_eq (by have:=HZ.out;omega),kb⟩
       ·have f0:=(hI3.recs st).end_at 4 (by omega)
        dsimp only [recE,Nat.reduceMul,Nat.reduceAdd] at f0
        go_region_held3 (fun w'=>w'.cell? ⟨p1,0,none⟩=some (.pointer (some ⟨b,0,none⟩))∧w'.cell? ⟨p2,0,none⟩=some (.slice (some ⟨H+1+1+1+1,0,none⟩) 6 6)∧w'.cell? ⟨H+1+1+1+1,9,none⟩=some (.func (.func 123) #[] #[])∧Below w1.heap.size w1 w') (first | exact ⟨d1'',c2'',f0,(Below.refl _ _).drew⟩ | exact ⟨(hb2.cell (World.block_lt_of_cell? _ _ k0)).trans k0,(hb2.cell (World.block_lt_of_cell? _ _ k1)).trans k1,(hb2.cell (World.block_lt_of_cell? _ _ k2)).trans k2,kb.trans (hb2.mono kb.size)⟩)
         (first | (go_at_call 123;obtain ⟨k0,k1,k2,kb⟩:=(by assumption:_∧_∧_∧Below _ _ _);refine (ends_ok st (hI3.below kb (Nat.le_refl _)) hlt hs 4 (by omega) hy hno HO.out).mono ?_;rintro x w2 ⟨rfl,hb2⟩))
        obtain ⟨k0,k1,k2,kb⟩:=(by assumption:_∧_∧_∧Below _ _ _)
        go_wp2
        go_meet
        exact ⟨rfl,int_eq (by have:=HZ.out;omega),kb⟩
       ·have f0:=(hI3.recs st).end_at 5 (by omega)
        dsimp only [recE,Nat.reduceMul,Nat.reduceAdd] at f0
        go_region_held3 (fun w'=>w'.cell? ⟨p1,0,none⟩=some (.pointer (some ⟨b,0,none⟩))∧w'.cell? ⟨p2,0,none⟩=some (.slice (some ⟨H+1+1+1+1,0,none⟩) 6 6)∧w'.cell? ⟨H+1+1+1+1,11,none⟩=some (.func (.func 126) #[] #[])∧Below w1.heap.size w1 w') (first | exact ⟨d1'',c2'',f0,(Below.refl _ _).drew⟩ | exact ⟨(hb2.cell (World.block_lt_of_cell? _ _ k0)).trans k0,(hb2.cell (World.block_lt_of_cell? _ _ k1)).trans k1,(hb2.cell (World.block_lt_of_cell? _ _ k2)).trans k2,kb.trans (hb2.mono kb.size)⟩)
         (first | (go_at_call 126;obtain ⟨k0,k1,k2,kb⟩:=(by assumption:_∧_∧_∧Below _ _ _);refine (ends_ok st (hI3.below kb (Nat.le_refl _)) hlt hs 5 (by omega) hy hno HO.out).mono ?_;rintro x w2 ⟨rfl,hb2⟩))
        obtain ⟨k0,k1,k2,kb⟩:=(by assumption:_∧_∧_∧Below _ _ _)
        go_wp2
        go_meet
        exact ⟨rfl,int_eq (by have:=HZ.out;omega),kb⟩
      case rest =>
      obtain ⟨rfl,rfl,hb2⟩:=hcut
      have hI4:=hI3.below hb2 (Nat.le_refl _)
      obtain ⟨vo,vl,hvo,hvl,hown,hlv,hap⟩:=hI4.io
      clear hI3 d1'' c2'' hb2 hk6 hk hy hno
      have d1:=hI4.c1 st
      have r0:=hI4.scn.text
      have r1:=hI4.scn.at_
      have hl1:(e:Int)≤(z:Int):=by omega
      have hl2:(z:Int)≤(s.size:Int):=by omega
      have hl3:(0:Int)≤(e:Int):=by omega
      go_upto_region 7 with fail
      have hstr:s.extract e z=⟨((s.data.toList.drop e).take n).toArray⟩:=by
       have h1:=piece_take s e n
       rw [← HZ.out] at h1
       unfold piece at h1
       rw [← h1]
      go_cut [7] (fun s7 wx=>∃ g:Nat,s7=.pointer (some ⟨g,0,none⟩)∧wc.heap.size≤g∧wx.heap[g]?=some (.cells #[.int .i64 kind,.string ⟨((s.data.toList.drop e).take n).toArray⟩,.int .i64 (e:Int)] 38 (0,0))∧Below wc.heap.size wc wx)
      case first =>
       have hS:∀ w',Below wc.heap.size wc w'→w'.cell? ⟨p1,0,none⟩=some (.pointer (some ⟨b,0,none⟩))∧w'.cell? ⟨b,0,none⟩=some (.string s)∧w'.cell? ⟨b,1,none⟩=some (.int .i64 (e:Int))∧Below wc.heap.size wc w':=fun w' hb =>
        ⟨(hb.cell (World.block_lt_of_cell? _ _ d1)).trans d1,(hb.cell (World.block_lt_of_cell? _ _ r0)).trans r0,(hb.cell (World.block_lt_of_cell? _ _ r1)).trans r1,hb⟩
       go_region_held3 (fun w'=>w'.cell? ⟨p1,0,none⟩=some (.pointer (some ⟨b,0,none⟩))∧w'.cell? ⟨b,0,none⟩=some (.string s)∧w'.cell? ⟨b,1,none⟩=some (.int .i64 (e:Int))∧Below wc.heap.size wc w') (first | exact hS _ (Below.refl _ _).drew | exact hS _ ((Below.refl _ _).drew.alloc (Nat.le_refl _) _) | exact hS _ (((Below.refl _ _).drew.alloc (Nat.le_refl _) _).setCell (Nat.le_refl _) _)) (fail)
       all_goals
        go_wp2
        go_meet
        exact ⟨wc.heap.size,rfl,Nat.le_refl _,heap_alloc_new wc _,(Below.refl _ _).alloc (Nat.le_refl _) _ |>.drew⟩
      case rest =>
      obtain ⟨g,rfl,hg,hgb,hb5⟩:=hcut
      have hI5:=hI4.below hb5 (Nat.le_refl _)
      have hbl:b < wB.heap.size:=st.bB
      have hol:o < wB.heap.size:=st.oB
      have hLl:L < wB.heap.size:=st.lB
      have hBw:wB.heap.size≤g:=Nat.le_trans hI4.fr.size hg
      have hvo5:=(hb5.cell (p:=⟨o,0,none⟩) (World.block_lt_of_cell? _ _ hvo)).trans hvo
      have hvl5:=(hb5.cell (p:=⟨b,2,none⟩) (World.block_lt_of_cell? _ _ hvl)).trans hvl
      have hog:∀ v,wc.cell? ⟨o,0,none⟩=some v→v.ownBlock≠some g:=fun v hv e=>by
       obtain rfl:v=vo:=Option.some.inj (hv.symm.trans hvo5)
       have:=(own_ge hown g e).2
       omega
      have hob:∀ v,wc.cell? ⟨o,0,none⟩=some v→v.ownBlock≠some b:=fun v hv e=>by
       obtain rfl:v=vo:=Option.some.inj (hv.symm.trans hvo5)
       have:=(own_ge hown b e).1
       omega
      have hlg:∀ k,vl.ownBlock=some k→k < g:=fun k hk=>Nat.lt_of_lt_of_le (hlv.own_ge k hk).2 hg
      have hglt:g < wc.heap.size:=(Array.getElem?_eq_some_iff.1 hgb).1
      have hblt:b < wc.heap.size:=World.block_lt_of_cell? _ _ hvl5
      clear d1 r0 r1 hstr hb5 hI4 hvo hvl hown hlv hap
      obtain ⟨tok,htok⟩:∃ tok:Lx.Tok,tok=⟨kind,(s.data.toList.drop e).take n,e⟩:=⟨_,rfl⟩
      have HT:=Lib.hid htok
      have g0:wc.cell? ⟨g,0,none⟩=some (.int .i64 kind):=cell_of_row _ g 0 _ _ _ hgb
      have g1:wc.cell? ⟨g,1,none⟩=some (.string ⟨((s.data.toList.drop e).take n).toArray⟩):=cell_of_row _ g 1 _ _ _ hgb
      have g2:wc.cell? ⟨g,2,none⟩=some (.int .i64 (e:Int)):=cell_of_row _ g 2 _ _ _ hgb
      obtain ⟨hrm,hrl⟩:=hround pre e _ tok hI5 (by rw [htok];simp only [List.length_take,List.length_drop,← HSZ.out];omega)
      have hyl:=run_yield (P:=Tryz.prog) (args:=#[.agg #[.int .i64 kind,.string ⟨((s.data.toList.drop e).take n).toArray⟩,.int .i64 (e:Int)]]) hI5.loop (by rw [hps];rfl)
      rw [htok] at hrm hrl
      simp only [tc] at hrm hrl
      generalize (rec.params.zip #[Value.agg #[.int .i64 kind,.string ⟨((s.data.toList.drop e).take n).toArray⟩,.int .i64 (e:Int)]]).foldl (fun tmps (x:Tmp × Value)=>tmps.setIfInBounds x.1 x.2) rec.tmps=tps at hyl hrm hrl
      rcases Nat.lt_or_ge pre.length 4000 with hl | hl
      ·replace hrm:=hrm hl
       clear hrl
       go_upto_region 8 with fail
       refine (wpIn_wide (n:=0)).1 ?_
       gi_wp2
       refine ⟨rfl,hrm.mono ?_⟩
       rintro x w6 ⟨rfl,hI6,hkeep⟩
       rw [← HT.out] at hI6
       have r1:=hI6.scn.at_
       have r2:=hI6.scn.free
       have d1:=hI6.c1 st
       have k2:w6.cell? ⟨b,2,none⟩=some vl:=(World.cell?_of_block (hkeep b hblt (Ne.symm st.ob) st.bL hob)).trans hvl5
       have kgb:=(hkeep g hglt (by omega) (by omega) hog).trans hgb
       clear g0 g1 g2 hyl hkeep hgb hvl5 hvo5 hog hob hglt hblt hI5
       gi_wp2
       go_upto_region 10 with fail
       have hI7:=hI6.at st z
       have kgb7:(AtW w6 b z).heap[g]?=_:=(AtW.heap_other w6 b z g (by omega)).trans kgb
       have k27:(AtW w6 b z).cell? ⟨b,2,none⟩=some vl:=(World.cell?_setCell_other _ _ _ _ (by intro hh;cases hh)).trans k2
       change Code.wp _ _ _ _ (AtW w6 b z)
       generalize AtW w6 b z=w7 at hI7 kgb7 k27 ⊢
       clear r1 r2 d1 k2 kgb hI6
       have d1:=hI7.c1 st
       have zf:=hI7.lfree
       have g0:w7.cell? ⟨g,0,none⟩=some (.int .i64 kind):=cell_of_row _ g 0 _ _ _ kgb7
       have g1:w7.cell? ⟨g,1,none⟩=some (.string ⟨((s.data.toList.drop e).take n).toArray⟩):=cell_of_row _ g 1 _ _ _ kgb7
       have g2:w7.cell? ⟨g,2,none⟩=some (.int .i64 (e:Int)):=cell_of_row _ g 2 _ _ _ kgb7
       obtain ⟨vo7,vl7,hvo7,hvl7,hown7,hlv7,hap7⟩:=hI7.io
       obtain rfl:vl7=vl:=Option.some.inj (hvl7.symm.trans k27)
       have hlast:∀ w',Inv wB o b L wv sv rec s z (tok :: pre) (tok :: pre) w'→True:=fun _ _=>trivial
       have hplt:p1 < w7.heap.size:=World.block_lt_of_cell? _ _ d1
       have hb7:b < w7.heap.size:=World.block_lt_of_cell? _ _ k27
       have hg7:g < w7.heap.size:=World.block_lt_of_cell? _ _ g0
       have hp1B:p1 < wB.heap.size:=World.block_lt_of_cell? _ _ st.c1
       have hS:∀ w',Below w7.heap.size w7 w'→w'.cell? ⟨p1,0,none⟩=some (.pointer (some ⟨b,0,none⟩))∧w'.cell? ⟨b,2,none⟩=some vl7∧w'.cell? ⟨g,0,none⟩=some (.int .i64 kind)∧w'.cell? ⟨g,1,none⟩=some (.string ⟨((s.data.toList.drop e).take n).toArray⟩)∧w'.cell? ⟨g,2,none⟩=some (.int .i64 (e:Int))∧w'.frozen? ⟨b,2,none⟩=false:=fun w' hb =>
        ⟨(hb.cell (p:=⟨p1,0,none⟩) hplt).trans d1,(hb.cell (p:=⟨b,2,none⟩) hb7).trans k27,(hb.cell (p:=⟨g,0,none⟩) hg7).trans g0,(hb.cell (p:=⟨g,1,none⟩) hg7).trans g1,(hb.cell (p:=⟨g,2,none⟩) hg7).trans g2,(hb.frozen (p:=⟨b,2,none⟩) hb7).trans zf⟩
       have hne:Lx.scanT s.size pre (s.data.toList.drop e)=Lx.scanR s.size (tok :: pre) (s.data.toList.drop z):=by
        rw [scanT_more HD.out HO.out (by omega),HT.out,HZ.out,List.length_drop,← HSZ.out,List.drop_drop]
        congr 3
        omega
       have HN:=Lib.hid (HE.out.trans hne)
       clear hne
       have hpl':(tok :: pre).length≤4000:=by simp;omega
       have hmx:max (0:Int) (wrap64 (-1))=0:=by decide +kernel
       have hmx0:max (0:Int) (wrap64 0)=0:=by decide +kernel
       have hmx1:max (0:Int) (wrap64 1)=1:=by decide +kernel
       have HLV:=Lib.hid hlv7
       rcases pre with _ | ⟨t1,_ | ⟨t2,pre⟩⟩
       ·rcases hlv7 with ⟨_,rfl⟩ | ⟨g9,o9,cap9,cur9,rfl,hg9,h09,_⟩
        ·refine start_ (n:=19) (S:=fun w'=>w'.cell? ⟨p1,0,none⟩=some (.pointer (some ⟨b,0,none⟩))∧w'.cell? ⟨b,2,none⟩=some (.slice none 0 0)∧w'.cell? ⟨g,0,none⟩=some (.int .i64 kind)∧w'.cell? ⟨g,1,none⟩=some (.string ⟨((s.data.toList.drop e).take n).toArray⟩)∧w'.cell? ⟨g,2,none⟩=some (.int .i64 (e:Int))) (ds:=[18]) #[false,false,false,false,false,false,false,false,false,false,false,false,false,false,false,false,false,false,false] (by kernel_rfl) rfl rfl ⟨(hS _ (Below.refl _ _).drew).1,(hS _ (Below.refl _ _).drew).2.1,(hS _ (Below.refl _ _).drew).2.2.1,(hS _ (Below.refl _ _).drew).2.2.2.1,(hS _ (Below.refl _ _).drew).2.2.2.2.1⟩ (fun hHeld=>?_)
         refine take_ (i:=0) (N:=some 63) (v:=?_) (a':=?_) #[true,false,false,false,false,false,false,false,false,false,false,false,false,false,false,false,false,false,false] rfl rfl (by kernel_rfl) (fun _ _ _ h=>h) (Or.inl ⟨by rfl,?_⟩) hHeld ?_ ?_
         rotate_left
         ·rintro w' ⟨s0,s1,s2,s3,s4⟩
          go_simp
          with_reducible rfl
         rotate_left
         ·simp only [Act.put,List.setIfInBounds_toArray,List.set_cons_zero,List.set_cons_succ,i64_w,i32_w]
          rfl
         refine take_ (i:=1) (N:=some 64) (v:=?_) (a':=?_) #[true,true,false,false,false,false,false,false,false,false,false,false,false,false,false,false,false,false,false] rfl rfl (by kernel_rfl) (fun _ _ _ h=>h) (Or.inl ⟨by rfl,?_⟩) hHeld ?_ ?_
         rotate_left
         ·rintro w' ⟨s0,s1,s2,s3,s4⟩
          go_simp
          with_reducible rfl
         rotate_left
         ·simp only [Act.put,List.setIfInBounds_toArray,List.set_cons_zero,List.set_cons_succ,i64_w,i32_w]
          rfl
         refine pure_ (i:=2) (N:=some 65) (v:=?_) (a':=?_) #[true,true,true,false,false,false,false,false,false,false,false,false,false,false,false,false,false,false,false] rfl rfl (by kernel_rfl) (fun _ _ _ h=>h) (Or.inl ⟨by rfl,?_⟩) ?_ ?_
         rotate_left
         ·intro w'
          go_simp
          with_reducible rfl
         rotate_left
         ·simp only [Act.put,List.setIfInBounds_toArray,List.set_cons_zero,List.set_cons_succ,i64_w,i32_w]
          rfl
         refine pure_ (i:=3) (N:=some 66) (v:=?_) (a':=?_) #[true,true,true,true,false,false,false,false,false,false,false,false,false,false,false,false,false,false,false] rfl rfl (by kernel_rfl) (fun _ _ _ h=>h) (Or.inl ⟨by rfl,?_⟩) ?_ ?_
         rotate_left
         ·intro w'
          go_simp
          with_reducible rfl
         rotate_left
         ·simp only [Act.put,List.setIfInBounds_toArray,List.set_cons_zero,List.set_cons_succ,i64_w,i32_w]
          rfl
         refine take_ (i:=4) (N:=some 67) (v:=?_) (a':=?_) #[true,true,true,true,true,false,false,false,false,false,false,false,false,false,false,false,false,false,false] rfl rfl (by kernel_rfl) (fun _ _ _ h=>h) (Or.inl ⟨by rfl,?_⟩) hHeld ?_ ?_
         rotate_left
         ·rintro w' ⟨s0,s1,s2,s3,s4⟩
          go_simp
          with_reducible rfl
         rotate_left
         ·simp only [Act.put,List.setIfInBounds_toArray,List.set_cons_zero,List.set_cons_succ,i64_w,i32_w]
          rfl
         refine take_ (i:=5) (N:=some 68) (v:=?_) (a':=?_) #[true,true,true,true,true,true,false,false,false,false,false,false,false,false,false,false,false,false,false] rfl rfl (by kernel_rfl) (fun _ _ _ h=>h) (Or.inl ⟨by rfl,?_⟩) hHeld ?_ ?_
         rotate_left
         ·rintro w' ⟨s0,s1,s2,s3,s4⟩
          go_simp
          with_reducible rfl
         rotate_left
         ·simp only [Act.put,List.setIfInBounds_toArray,List.set_cons_zero,List.set_cons_succ,i64_w,i32_w]
          rfl
         refine pure_ (i:=6) (N:=some 69) (v:=?_) (a':=?_) #[true,true,true,true,true,true,true,false,false,false,false,false,false,false,false,false,false,false,false] rfl rfl (by kernel_rfl) (fun _ _ _ h=>h) (Or.inl ⟨by rfl,?_⟩) ?_ ?_
         rotate_left
         ·intro w'
          go_simp
          with_reducible rfl
         rotate_left
         ·simp only [Act.put,List.setIfInBounds_toArray,List.set_cons_zero,List.set_cons_succ,i64_w,i32_w]
          rfl
         refine pure_ (i:=7) (N:=some 70) (v:=?_) (a':=?_) #[true,true,true,true,true,true,true,true,false,false,false,false,false,false,false,false,false,false,false] rfl rfl (by kernel_rfl) (fun _ _ _ h=>h) (Or.inl ⟨by rfl,?_⟩) ?_ ?_
         rotate_left
         ·intro w'
          go_simp
          with_reducible rfl
         rotate_left
         ·simp only [Act.put,List.setIfInBounds_toArray,List.set_cons_zero,List.set_cons_succ,i64_w,i32_w]
          rfl
         refine take_ (i:=8) (N:=some 71) (v:=?_) (a':=?_) #[true,true,true,true,true,true,true,true,true,false,false,false,false,false,false,false,false,false,false] rfl rfl (by kernel_rfl) (fun _ _ _ h=>h) (Or.inl ⟨by rfl,?_⟩) hHeld ?_ ?_
         rotate_left
         ·rintro w' ⟨s0,s1,s2,s3,s4⟩
          go_simp
          with_reducible rfl
         rotate_left
         ·simp only [Act.put,List.setIfInBounds_toArray,List.set_cons_zero,List.set_cons_succ,i64_w,i32_w]
          rfl
         refine pure_ (i:=9) (N:=some 72) (v:=?_) (a':=?_) #[true,true,true,true,true,true,true,true,true,true,false,false,false,false,false,false,false,false,false] rfl rfl (by kernel_rfl) (fun _ _ _ h=>h) (Or.inl ⟨by rfl,?_⟩) ?_ ?_
         rotate_left
         ·intro w'
          go_simp
          with_reducible rfl
         rotate_left
         ·simp only [Act.put,List.setIfInBounds_toArray,List.set_cons_zero,List.set_cons_succ,i64_w,i32_w]
          rfl
         refine pure_ (i:=10) (N:=some 73) (v:=?_) (a':=?_) #[true,true,true,true,true,true,true,true,true,true,true,false,false,false,false,false,false,false,false] rfl rfl (by kernel_rfl) (fun _ _ _ h=>h) (Or.inl ⟨by rfl,?_⟩) ?_ ?_
         rotate_left
         ·intro w'
          go_simp
          with_reducible rfl
         rotate_left
         ·simp only [Act.put,List.setIfInBounds_toArray,List.set_cons_zero,List.set_cons_succ,i64_w,i32_w]
          rfl
         refine pure_ (i:=11) (N:=some 74) (v:=?_) (a':=?_) #[true,true,true,true,true,true,true,true,true,true,true,true,false,false,false,false,false,false,false] rfl rfl (by kernel_rfl) (fun _ _ _ h=>h) (Or.inl ⟨by rfl,?_⟩) ?_ ?_
         rotate_left
         ·intro w'
          go_simp
          with_reducible rfl
         rotate_left
         ·simp only [Act.put,List.setIfInBounds_toArray,List.set_cons_zero,List.set_cons_succ,i64_w,i32_w]
          rfl
         refine pure_ (i:=12) (N:=some 75) (v:=?_) (a':=?_) #[true,true,true,true,true,true,true,true,true,true,true,true,true,false,false,false,false,false,false] rfl rfl (by kernel_rfl) (fun _ _ _ h=>h) (Or.inl ⟨by rfl,?_⟩) ?_ ?_
         rotate_left
         ·intro w'
          go_simp
          with_reducible rfl
         rotate_left
         ·simp only [Act.put,List.setIfInBounds_toArray,List.set_cons_zero,List.set_cons_succ,i64_w,i32_w]
          rfl
         refine take_ (i:=13) (N:=some 76) (v:=?_) (a':=?_) #[true,true,true,true,true,true,true,true,true,true,true,true,true,true,false,false,false,false,false] rfl rfl (by kernel_rfl) (fun _ _ _ h=>h) (Or.inl ⟨by rfl,?_⟩) hHeld ?_ ?_
         rotate_left
         ·rintro w' ⟨s0,s1,s2,s3,s4⟩
          go_simp
          with_reducible rfl
         rotate_left
         ·simp only [Act.put,List.setIfInBounds_toArray,List.set_cons_zero,List.set_cons_succ,i64_w,i32_w]
          rfl
         refine one_ (i:=14) (N:=some 77) #[true,true,true,true,true,true,true,true,true,true,true,true,true,true,true,false,false,false,false] rfl rfl (by kernel_rfl) (by decide) (fun K hK=>?_)
         refine value_ (w1:=?_) (v:=?_) (by rfl) rfl ?_ ?_
         rotate_left 2
         ·go_simp
          constructor
          ·rfl
          ·rfl
         refine hK.out _ _ ⟨(hS _ ((Below.refl _ _).drew.alloc (Nat.le_refl _) _)).1,(hS _ ((Below.refl _ _).drew.alloc (Nat.le_refl _) _)).2.1,(hS _ ((Below.refl _ _).drew.alloc (Nat.le_refl _) _)).2.2.1,(hS _ ((Below.refl _ _).drew.alloc (Nat.le_refl _) _)).2.2.2.1,(hS _ ((Below.refl _ _).drew.alloc (Nat.le_refl _) _)).2.2.2.2.1⟩ (fun hHeld=>?_)
         clear hK K
         refine norm_ (a':=?_) ?_ ?_
         rotate_left
         ·show Act.put _ (some 77) _=_
          simp only [Act.put,List.setIfInBounds_toArray,List.set_cons_zero,List.set_cons_succ,i64_w,i32_w]
          rfl
         refine one_ (i:=15) (N:=some 78) #[true,true,true,true,true,true,true,true,true,true,true,true,true,true,true,true,false,false,false] rfl rfl (by kernel_rfl) (by decide) (fun K hK=>?_)
         refine step_append_last rfl (.tmp 75) (.tmp 77) rfl wB.heap.size (.slice none 0 0) [] rfl (.inl ⟨rfl,rfl⟩) (by simp) (Nat.le_trans hI7.fr.size (by simp)) ⟨kind,(s.data.toList.drop e).take n,e⟩ ⟨w7.drew.heap.size,0,none⟩ 1 rfl (World.news_of_block (cs:=#[.int .i64 kind,.string ⟨((s.data.toList.drop e).take n).toArray⟩,.int .i64 (e:Int)]) (heap_alloc_new w7.drew _)) ?_
         intro g8 o8 cap8 w8 hL8 hg8 ho8
         have hB8:∀ k,k < w7.heap.size→(.slice none 0 0:Value).ownBlock≠some k→w8.heap[k]?=w7.heap[k]?:=fun k hk hne=>(hg8.block k (by show k < (w7.drew.heap.push _).size;simp;omega) (fun e=>hne e.symm)).trans (Below.heap_alloc w7.drew _ _ hk)
         have q1:w8.cell? ⟨p1,0,none⟩=_:=(World.cell?_of_block (hB8 p1 hplt (fun e=>by cases e))).trans d1
         have q2:w8.cell? ⟨b,2,none⟩=_:=(World.cell?_of_block (hB8 b hb7 (fun e=>by cases e))).trans k27
         have q3:w8.frozen? ⟨b,2,none⟩=_:=(World.frozen?_of_block (hB8 b hb7 (fun e=>by cases e))).trans zf
         have hgk:=hB8 g hg7 (fun e=>by cases e)
         refine hK.out _ _ ⟨q1,q2,(World.cell?_of_block (w:=w7) (a:=⟨g,0,none⟩) hgk).trans g0,(World.cell?_of_block (w:=w7) (a:=⟨g,1,none⟩) hgk).trans g1,(World.cell?_of_block (w:=w7) (a:=⟨g,2,none⟩) hgk).trans g2⟩ (fun hHeld=>?_)
         clear hK K
         refine norm_ (a':=?_) ?_ ?_
         rotate_left
         ·show Act.put _ (some 78) _=_
          simp only [Act.put,List.setIfInBounds_toArray,List.set_cons_zero,List.set_cons_succ,i64_w,i32_w]
          rfl
         refine pure_ (i:=16) (N:=some 79) (v:=?_) (a':=?_) #[true,true,true,true,true,true,true,true,true,true,true,true,true,true,true,true,true,false,false] rfl rfl (by kernel_rfl) (fun _ _ _ h=>h) (Or.inl ⟨by rfl,?_⟩) ?_ ?_
         rotate_left
         ·intro w'
          go_simp
          with_reducible rfl
         rotate_left
         ·simp only [Act.put,List.setIfInBounds_toArray,List.set_cons_zero,List.set_cons_succ,i64_w,i32_w]
          rfl
         refine pure_ (i:=17) (N:=some 80) (v:=?_) (a':=?_) #[true,true,true,true,true,true,true,true,true,true,true,true,true,true,true,true,true,true,false] rfl rfl (by kernel_rfl) (fun _ _ _ h=>h) (Or.inl ⟨by rfl,?_⟩) ?_ ?_
         rotate_left
         ·intro w'
          go_simp
          with_reducible rfl
         rotate_left
         ·simp only [Act.put,List.setIfInBounds_toArray,List.set_cons_zero,List.set_cons_succ,i64_w,i32_w]
          rfl
         refine last_ (i:=18) (N:=none) #[true,true,true,true,true,true,true,true,true,true,true,true,true,true,true,true,true,true,true] rfl rfl (by kernel_rfl) (by decide) (fun K hK=>?_)
         refine skip_ (w1:=?_) (by rfl) rfl ?_ ?_
         rotate_left
         ·go_simp
          rfl
         refine hK.out _ _ ?_
         clear hK K
         refine done_ (by kernel_rfl) ?_
         have hI8:Inv wB o b L wv sv rec s z (tok :: []) (tok :: []) _:=(hI7.below ((Below.refl _ _).drew.alloc (Nat.le_refl _) _) (Nat.le_refl _)).setLast st (vl:=.slice none 0 0) ((hS _ ((Below.refl _ _).drew.alloc (Nat.le_refl _) _)).2.1) hg8 (pre':=tok :: []) (by rw [HT.out];exact hL8) ho8
         generalize World.setCell w8 _ _=w9 at hI8 ⊢
         have d9:=hI8.c1 st
         cases hk9:Lx.skip (s.data.toList.drop z) with
         | error c9 =>
          have HS9:=Lib.hid (HN.out.trans ((Lx.scanR_eq _ _ _).trans (by rw [hk9])))
          have HK9:=Lib.hid hk9
          clear hk9
          go_wp2_with (go_at_call 99;refine (skip_err st hI8 hzs hs HK9.out hb10).mono ?_;rintro x w10 ⟨rfl,hf9⟩)
          exact ⟨rfl,tokPost_err HS9.out rfl rfl hf9⟩
         | ok r9 =>
          have HS9:=Lib.hid (HN.out.trans ((Lx.scanR_eq _ _ _).trans (by rw [hk9])))
          have HK9:=Lib.hid hk9
          obtain ⟨i9,hi9,hj9⟩:=Lx.skip_ok_suffix hk9
          have hr9:r9.length≤s.size - z:=by rw [hi9,List.length_drop,List.length_drop,← HSZ.out];omega
          have HR9:=Lib.hid (Lx.drop_back (by rw [← HSZ.out];exact hzs) hi9 hj9)
          clear hk9 hi9 hj9
          go_wp2_with (go_at_call 99;refine (skip_ok st hI8 hzs hs HK9.out hb10).mono ?_;rintro x w10 ⟨rfl,hI10⟩)
          go_roundg (s.size - (s.size - r9.length))
          case rel=>exact ⟨s.size - r9.length,tok :: [],hpl',by omega,rfl,Lib.hid (by rw [HS9.out];show Lx.scanT _ _ _=_;rw [show s.data.toList.drop (s.size - r9.length)=r9 by rw [HSZ.out];exact HR9.out.symm]),hI10⟩
          case measure=>omega
        ·simp at h09
       ·obtain ⟨g9,o9,cap9,rfl,hc9,hB9⟩:=lastV_one hlv7
        have hcz:¬ cap9=0:=by omega
        refine start_ (n:=19) (S:=fun w'=>w'.cell? ⟨p1,0,none⟩=some (.pointer (some ⟨b,0,none⟩))∧w'.cell? ⟨b,2,none⟩=some (.slice (some ⟨g9,o9,none⟩) 1 cap9)∧w'.cell? ⟨g,0,none⟩=some (.int .i64 kind)∧w'.cell? ⟨g,1,none⟩=some (.string ⟨((s.data.toList.drop e).take n).toArray⟩)∧w'.cell? ⟨g,2,none⟩=some (.int .i64 (e:Int))) (ds:=[18]) #[false,false,false,false,false,false,false,false,false,false,false,false,false,false,false,false,false,false,false] (by kernel_rfl) rfl rfl ⟨(hS _ (Below.refl _ _).drew).1,(hS _ (Below.refl _ _).drew).2.1,(hS _ (Below.refl _ _).drew).2.2.1,(hS _ (Below.refl _ _).drew).2.2.2.1,(hS _ (Below.refl _ _).drew).2.2.2.2.1⟩ (fun hHeld=>?_)
        refine take_ (i:=0) (N:=some 63) (v:=?_) (a':=?_) #[true,false,false,false,false,false,false,false,false,false,false,false,false,false,false,false,false,false,false] rfl rfl (by kernel_rfl) (fun _ _ _ h=>h) (Or.inl ⟨by rfl,?_⟩) hHeld ?_ ?_
        rotate_left
        ·rintro w' ⟨s0,s1,s2,s3,s4⟩
         go_simp
         with_reducible rfl
        rotate_left
        ·simp only [Act.put,List.setIfInBounds_toArray,List.set_cons_zero,List.set_cons_succ,i64_w,i32_w]
         rfl
        refine take_ (i:=1) (N:=some 64) (v:=?_) (a':=?_) #[true,true,false,false,false,false,false,false,false,false,false,false,false,false,false,false,false,false,false] rfl rfl (by kernel_rfl) (fun _ _ _ h=>h) (Or.inl ⟨by rfl,?_⟩) hHeld ?_ ?_
        rotate_left
        ·rintro w' ⟨s0,s1,s2,s3,s4⟩
         go_simp
         with_reducible rfl
        rotate_left
        ·simp only [Act.put,List.setIfInBounds_toArray,List.set_cons_zero,List.set_cons_succ,i64_w,i32_w]
         rfl
        refine pure_ (i:=2) (N:=some 65) (v:=?_) (a':=?_) #[true,true,true,false,false,false,false,false,false,false,false,false,false,false,false,false,false,false,false] rfl rfl (by kernel_rfl) (fun _ _ _ h=>h) (Or.inl ⟨by rfl,?_⟩) ?_ ?_
        rotate_left
        ·intro w'
         go_simp
         with_reducible rfl
        rotate_left
        ·simp only [Act.put,List.setIfInBounds_toArray,List.set_cons_zero,List.set_cons_succ,i64_w,i32_w]
         rfl
        refine pure_ (i:=3) (N:=some 66) (v:=?_) (a':=?_) #[true,true,true,true,false,false,false,false,false,false,false,false,false,false,false,false,false,false,false] rfl rfl (by kernel_rfl) (fun _ _ _ h=>h) (Or.inl ⟨by rfl,?_⟩) ?_ ?_
        rotate_left
        ·intro w'
         go_simp
         with_reducible rfl
        rotate_left
        ·simp only [Act.put,List.setIfInBounds_toArray,List.set_cons_zero,List.set_cons_succ,i64_w,i32_w]
         rfl
        refine take_ (i:=4) (N:=some 67) (v:=?_) (a':=?_) #[true,true,true,true,true,false,false,false,false,false,false,false,false,false,false,false,false,false,false] rfl rfl (by kernel_rfl) (fun _ _ _ h=>h) (Or.inl ⟨by rfl,?_⟩) hHeld ?_ ?_
        rotate_left
        ·rintro w' ⟨s0,s1,s2,s3,s4⟩
         go_simp
         with_reducible rfl
        rotate_left
        ·simp only [Act.put,List.setIfInBounds_toArray,List.set_cons_zero,List.set_cons_succ,i64_w,i32_w]
         rfl
        refine take_ (i:=5) (N:=some 68) (v:=?_) (a':=?_) #[true,true,true,true,true,true,false,false,false,false,false,false,false,false,false,false,false,false,false] rfl rfl (by kernel_rfl) (fun _ _ _ h=>h) (Or.inl ⟨by rfl,?_⟩) hHeld ?_ ?_
        rotate_left
        ·rintro w' ⟨s0,s1,s2,s3,s4⟩
         go_simp
         with_reducible rfl
        rotate_left
        ·simp only [Act.put,List.setIfInBounds_toArray,List.set_cons_zero,List.set_cons_succ,i64_w,i32_w]
         rfl
        refine pure_ (i:=6) (N:=some 69) (v:=?_) (a':=?_) #[true,true,true,true,true,true,true,false,false,false,false,false,false,false,false,false,false,false,false] rfl rfl (by kernel_rfl) (fun _ _ _ h=>h) (Or.inl ⟨by rfl,?_⟩) ?_ ?_
        rotate_left
        ·intro w'
         go_simp
         with_reducible rfl
        rotate_left
        ·simp only [Act.put,List.setIfInBounds_toArray,List.set_cons_zero,List.set_cons_succ,i64_w,i32_w]
         rfl
        refine pure_ (i:=7) (N:=some 70) (v:=?_) (a':=?_) #[true,true,true,true,true,true,true,true,false,false,false,false,false,false,false,false,false,false,false] rfl rfl (by kernel_rfl) (fun _ _ _ h=>h) (Or.inl ⟨by rfl,?_⟩) ?_ ?_
        rotate_left
        ·intro w'
         go_simp
         with_reducible rfl
        rotate_left
        ·simp only [Act.put,List.setIfInBounds_toArray,List.set_cons_zero,List.set_cons_succ,i64_w,i32_w]
         rfl
        refine take_ (i:=8) (N:=some 71) (v:=?_) (a':=?_) #[true,true,true,true,true,true,true,true,true,false,false,false,false,false,false,false,false,false,false] rfl rfl (by kernel_rfl) (fun _ _ _ h=>h) (Or.inl ⟨by rfl,?_⟩) hHeld ?_ ?_
        rotate_left
        ·rintro w' ⟨s0,s1,s2,s3,s4⟩
         go_simp
         with_reducible rfl
        rotate_left
        ·simp only [Act.put,List.setIfInBounds_toArray,List.set_cons_zero,List.set_cons_succ,i64_w,i32_w]
         rfl
        refine pure_ (i:=9) (N:=some 72) (v:=?_) (a':=?_) #[true,true,true,true,true,true,true,true,true,true,false,false,false,false,false,false,false,false,false] rfl rfl (by kernel_rfl) (fun _ _ _ h=>h) (Or.inl ⟨by rfl,?_⟩) ?_ ?_
        rotate_left
        ·intro w'
         go_simp
         with_reducible rfl
        rotate_left
        ·simp only [Act.put,List.setIfInBounds_toArray,List.set_cons_zero,List.set_cons_succ,i64_w,i32_w]
         rfl
        refine pure_ (i:=10) (N:=some 73) (v:=?_) (a':=?_) #[true,true,true,true,true,true,true,true,true,true,true,false,false,false,false,false,false,false,false] rfl rfl (by kernel_rfl) (fun _ _ _ h=>h) (Or.inl ⟨by rfl,?_⟩) ?_ ?_
        rotate_left
        ·intro w'
         go_simp
         with_reducible rfl
        rotate_left
        ·simp only [Act.put,List.setIfInBounds_toArray,List.set_cons_zero,List.set_cons_succ,i64_w,i32_w]
         rfl
        refine pure_ (i:=11) (N:=some 74) (v:=?_) (a':=?_) #[true,true,true,true,true,true,true,true,true,true,true,true,false,false,false,false,false,false,false] rfl rfl (by kernel_rfl) (fun _ _ _ h=>h) (Or.inl ⟨by rfl,?_⟩) ?_ ?_
        rotate_left
        ·intro w'
         go_simp
         with_reducible rfl
        rotate_left
        ·simp only [Act.put,List.setIfInBounds_toArray,List.set_cons_zero,List.set_cons_succ,i64_w,i32_w]
         rfl
        refine pure_ (i:=12) (N:=some 75) (v:=?_) (a':=?_) #[true,true,true,true,true,true,true,true,true,true,true,true,true,false,false,false,false,false,false] rfl rfl (by kernel_rfl) (fun _ _ _ h=>h) (Or.inl ⟨by rfl,?_⟩) ?_ ?_
        rotate_left
        ·intro w'
         go_simp
         with_reducible rfl
        rotate_left
        ·simp only [Act.put,List.setIfInBounds_toArray,List.set_cons_zero,List.set_cons_succ,i64_w,i32_w]
         rfl
        refine take_ (i:=13) (N:=some 76) (v:=?_) (a':=?_) #[true,true,true,true,true,true,true,true,true,true,true,true,true,true,false,false,false,false,false] rfl rfl (by kernel_rfl) (fun _ _ _ h=>h) (Or.inl ⟨by rfl,?_⟩) hHeld ?_ ?_
        rotate_left
        ·rintro w' ⟨s0,s1,s2,s3,s4⟩
         go_simp
         with_reducible rfl
        rotate_left
        ·simp only [Act.put,List.setIfInBounds_toArray,List.set_cons_zero,List.set_cons_succ,i64_w,i32_w]
         rfl
        refine one_ (i:=14) (N:=some 77) #[true,true,true,true,true,true,true,true,true,true,true,true,true,true,true,false,false,false,false] rfl rfl (by kernel_rfl) (by decide) (fun K hK=>?_)
        refine value_ (w1:=?_) (v:=?_) (by rfl) rfl ?_ ?_
        rotate_left 2
        ·go_simp
         constructor
         ·rfl
         ·rfl
        refine hK.out _ _ ⟨(hS _ ((Below.refl _ _).drew.alloc (Nat.le_refl _) _)).1,(hS _ ((Below.refl _ _).drew.alloc (Nat.le_refl _) _)).2.1,(hS _ ((Below.refl _ _).drew.alloc (Nat.le_refl _) _)).2.2.1,(hS _ ((Below.refl _ _).drew.alloc (Nat.le_refl _) _)).2.2.2.1,(hS _ ((Below.refl _ _).drew.alloc (Nat.le_refl _) _)).2.2.2.2.1⟩ (fun hHeld=>?_)
        clear hK K
        refine norm_ (a':=?_) ?_ ?_
        rotate_left
        ·show Act.put _ (some 77) _=_
         simp only [Act.put,List.setIfInBounds_toArray,List.set_cons_zero,List.set_cons_succ,i64_w,i32_w]
         rfl
        refine one_ (i:=15) (N:=some 78) #[true,true,true,true,true,true,true,true,true,true,true,true,true,true,true,true,false,false,false] rfl rfl (by kernel_rfl) (by decide) (fun K hK=>?_)
        refine step_append_last rfl (.tmp 75) (.tmp 77) rfl wB.heap.size (.slice (some ⟨g9,o9,none⟩) 1 cap9) [t1] rfl (HLV.out.below ((Below.refl _ _).drew.alloc (Nat.le_refl _) _) (Nat.le_refl _)) (by simp) (Nat.le_trans hI7.fr.size (by simp)) ⟨kind,(s.data.toList.drop e).take n,e⟩ ⟨w7.drew.heap.size,0,none⟩ 1 rfl (World.news_of_block (cs:=#[.int .i64 kind,.string ⟨((s.data.toList.drop e).take n).toArray⟩,.int .i64 (e:Int)]) (heap_alloc_new w7.drew _)) ?_
        intro g8 o8 cap8 w8 hL8 hg8 ho8
        have hB8:∀ k,k < w7.heap.size→(.slice (some ⟨g9,o9,none⟩) 1 cap9:Value).ownBlock≠some k→w8.heap[k]?=w7.heap[k]?:=fun k hk hne=>(hg8.block k (by show k < (w7.drew.heap.push _).size;simp;omega) (fun e=>hne e.symm)).trans (Below.heap_alloc w7.drew _ _ hk)
        have q1:w8.cell? ⟨p1,0,none⟩=_:=(World.cell?_of_block (hB8 p1 hplt (fun e=>by (have h1:g9=p1:=Option.some.inj e;omega)))).trans d1
        have q2:w8.cell? ⟨b,2,none⟩=_:=(World.cell?_of_block (hB8 b hb7 (fun e=>by (have h1:g9=b:=Option.some.inj e;omega)))).trans k27
        have q3:w8.frozen? ⟨b,2,none⟩=_:=(World.frozen?_of_block (hB8 b hb7 (fun e=>by (have h1:g9=b:=Option.some.inj e;omega)))).trans zf
        have hgk:=hB8 g hg7 (fun e=>by (have h1:g9=g:=Option.some.inj e;have h2:=hlg g9 rfl;omega))
        refine hK.out _ _ ⟨q1,q2,(World.cell?_of_block (w:=w7) (a:=⟨g,0,none⟩) hgk).trans g0,(World.cell?_of_block (w:=w7) (a:=⟨g,1,none⟩) hgk).trans g1,(World.cell?_of_block (w:=w7) (a:=⟨g,2,none⟩) hgk).trans g2⟩ (fun hHeld=>?_)
        clear hK K
        refine norm_ (a':=?_) ?_ ?_
        rotate_left
        ·show Act.put _ (some 78) _=_
         simp only [Act.put,List.setIfInBounds_toArray,List.set_cons_zero,List.set_cons_succ,i64_w,i32_w]
         rfl
        refine pure_ (i:=16) (N:=some 79) (v:=?_) (a':=?_) #[true,true,true,true,true,true,true,true,true,true,true,true,true,true,true,true,true,false,false] rfl rfl (by kernel_rfl) (fun _ _ _ h=>h) (Or.inl ⟨by rfl,?_⟩) ?_ ?_
        rotate_left
        ·intro w'
         go_simp
         with_reducible rfl
        rotate_left
        ·simp only [Act.put,List.setIfInBounds_toArray,List.set_cons_zero,List.set_cons_succ,i64_w,i32_w]
         rfl
        refine pure_ (i:=17) (N:=some 80) (v:=?_) (a':=?_) #[true,true,true,true,true,true,true,true,true,true,true,true,true,true,true,true,true,true,false] rfl rfl (by kernel_rfl) (fun _ _ _ h=>h) (Or.inl ⟨by rfl,?_⟩) ?_ ?_
        rotate_left
        ·intro w'
         go_simp
         with_reducible rfl
        rotate_left
        ·simp only [Act.put,List.setIfInBounds_toArray,List.set_cons_zero,List.set_cons_succ,i64_w,i32_w]
         rfl
        refine last_ (i:=18) (N:=none) #[true,true,true,true,true,true,true,true,true,true,true,true,true,true,true,true,true,true,true] rfl rfl (by kernel_rfl) (by decide) (fun K hK=>?_)
        refine skip_ (w1:=?_) (by rfl) rfl ?_ ?_
        rotate_left
        ·go_simp
         rfl
        refine hK.out _ _ ?_
        clear hK K
        refine done_ (by kernel_rfl) ?_
        have hI8:Inv wB o b L wv sv rec s z (tok :: [t1]) (tok :: [t1]) _:=(hI7.below ((Below.refl _ _).drew.alloc (Nat.le_refl _) _) (Nat.le_refl _)).setLast st (vl:=.slice (some ⟨g9,o9,none⟩) 1 cap9) ((hS _ ((Below.refl _ _).drew.alloc (Nat.le_refl _) _)).2.1) hg8 (pre':=tok :: [t1]) (by rw [HT.out];exact hL8) ho8
        generalize World.setCell w8 _ _=w9 at hI8 ⊢
        have d9:=hI8.c1 st
        cases hk9:Lx.skip (s.data.toList.drop z) with
        | error c9 =>
         have HS9:=Lib.hid (HN.out.trans ((Lx.scanR_eq _ _ _).trans (by rw [hk9])))
         have HK9:=Lib.hid hk9
         clear hk9
         go_wp2_with (go_at_call 99;refine (skip_err st hI8 hzs hs HK9.out hb10).mono ?_;rintro x w10 ⟨rfl,hf9⟩)
         exact ⟨rfl,tokPost_err HS9.out rfl rfl hf9⟩
        | ok r9 =>
         have HS9:=Lib.hid (HN.out.trans ((Lx.scanR_eq _ _ _).trans (by rw [hk9])))
         have HK9:=Lib.hid hk9
         obtain ⟨i9,hi9,hj9⟩:=Lx.skip_ok_suffix hk9
         have hr9:r9.length≤s.size - z:=by rw [hi9,List.length_drop,List.length_drop,← HSZ.out];omega
         have HR9:=Lib.hid (Lx.drop_back (by rw [← HSZ.out];exact hzs) hi9 hj9)
         clear hk9 hi9 hj9
         go_wp2_with (go_at_call 99;refine (skip_ok st hI8 hzs hs HK9.out hb10).mono ?_;rintro x w10 ⟨rfl,hI10⟩)
         go_roundg (s.size - (s.size - r9.length))
         case rel=>exact ⟨s.size - r9.length,tok :: [t1],hpl',by omega,rfl,Lib.hid (by rw [HS9.out];show Lx.scanT _ _ _=_;rw [show s.data.toList.drop (s.size - r9.length)=r9 by rw [HSZ.out];exact HR9.out.symm]),hI10⟩
         case measure=>omega
       ·obtain ⟨g9,o9,cap9,rfl,hc9,hB9,hlv8⟩:=lastV_two hlv7
        have hcz:¬ cap9=1:=by omega
        refine start_ (n:=19) (S:=fun w'=>w'.cell? ⟨p1,0,none⟩=some (.pointer (some ⟨b,0,none⟩))∧w'.cell? ⟨b,2,none⟩=some (.slice (some ⟨g9,o9,none⟩) 2 cap9)∧w'.cell? ⟨g,0,none⟩=some (.int .i64 kind)∧w'.cell? ⟨g,1,none⟩=some (.string ⟨((s.data.toList.drop e).take n).toArray⟩)∧w'.cell? ⟨g,2,none⟩=some (.int .i64 (e:Int))) (ds:=[18]) #[false,false,false,false,false,false,false,false,false,false,false,false,false,false,false,false,false,false,false] (by kernel_rfl) rfl rfl ⟨(hS _ (Below.refl _ _).drew).1,(hS _ (Below.refl _ _).drew).2.1,(hS _ (Below.refl _ _).drew).2.2.1,(hS _ (Below.refl _ _).drew).2.2.2.1,(hS _ (Below.refl _ _).drew).2.2.2.2.1⟩ (fun hHeld=>?_)
        refine take_ (i:=0) (N:=some 63) (v:=?_) (a':=?_) #[true,false,false,false,false,false,false,false,false,false,false,false,false,false,false,false,false,false,false] rfl rfl (by kernel_rfl) (fun _ _ _ h=>h) (Or.inl ⟨by rfl,?_⟩) hHeld ?_ ?_
        rotate_left
        ·rintro w' ⟨s0,s1,s2,s3,s4⟩
         go_simp
         with_reducible rfl
        rotate_left
        ·simp only [Act.put,List.setIfInBounds_toArray,List.set_cons_zero,List.set_cons_succ,i64_w,i32_w]
         rfl
        refine take_ (i:=1) (N:=some 64) (v:=?_) (a':=?_) #[true,true,false,false,false,false,false,false,false,false,false,false,false,false,false,false,false,false,false] rfl rfl (by kernel_rfl) (fun _ _ _ h=>h) (Or.inl ⟨by rfl,?_⟩) hHeld ?_ ?_
        rotate_left
        ·rintro w' ⟨s0,s1,s2,s3,s4⟩
         go_simp
         with_reducible rfl
        rotate_left
        ·simp only [Act.put,List.setIfInBounds_toArray,List.set_cons_zero,List.set_cons_succ,i64_w,i32_w]
         rfl
        refine pure_ (i:=2) (N:=some 65) (v:=?_) (a':=?_) #[true,true,true,false,false,false,false,false,false,false,false,false,false,false,false,false,false,false,false] rfl rfl (by kernel_rfl) (fun _ _ _ h=>h) (Or.inl ⟨by rfl,?_⟩) ?_ ?_
        rotate_left
        ·intro w'
         go_simp
         with_reducible rfl
        rotate_left
        ·simp only [Act.put,List.setIfInBounds_toArray,List.set_cons_zero,List.set_cons_succ,i64_w,i32_w]
         rfl
        refine pure_ (i:=3) (N:=some 66) (v:=?_) (a':=?_) #[true,true,true,true,false,false,false,false,false,false,false,false,false,false,false,false,false,false,false] rfl rfl (by kernel_rfl) (fun _ _ _ h=>h) (Or.inl ⟨by rfl,?_⟩) ?_ ?_
        rotate_left
        ·intro w'
         go_simp
         with_reducible rfl
        rotate_left
        ·simp only [Act.put,List.setIfInBounds_toArray,List.set_cons_zero,List.set_cons_succ,i64_w,i32_w]
         rfl
        refine take_ (i:=4) (N:=some 67) (v:=?_) (a':=?_) #[true,true,true,true,true,false,false,false,false,false,false,false,false,false,false,false,false,false,false] rfl rfl (by kernel_rfl) (fun _ _ _ h=>h) (Or.inl ⟨by rfl,?_⟩) hHeld ?_ ?_
        rotate_left
        ·rintro w' ⟨s0,s1,s2,s3,s4⟩
         go_simp
         with_reducible rfl
        rotate_left
        ·simp only [Act.put,List.setIfInBounds_toArray,List.set_cons_zero,List.set_cons_succ,i64_w,i32_w]
         rfl
        refine take_ (i:=5) (N:=some 68) (v:=?_) (a':=?_) #[true,true,true,true,true,true,false,false,false,false,false,false,false,false,false,false,false,false,false] rfl rfl (by kernel_rfl) (fun _ _ _ h=>h) (Or.inl ⟨by rfl,?_⟩) hHeld ?_ ?_
        rotate_left
        ·rintro w' ⟨s0,s1,s2,s3,s4⟩
         go_simp
         with_reducible rfl
        rotate_left
        ·simp only [Act.put,List.setIfInBounds_toArray,List.set_cons_zero,List.set_cons_succ,i64_w,i32_w]
         rfl
        refine pure_ (i:=6) (N:=some 69) (v:=?_) (a':=?_) #[true,true,true,true,true,true,true,false,false,false,false,false,false,false,false,false,false,false,false] rfl rfl (by kernel_rfl) (fun _ _ _ h=>h) (Or.inl ⟨by rfl,?_⟩) ?_ ?_
        rotate_left
        ·intro w'
         go_simp
         with_reducible rfl
        rotate_left
        ·simp only [Act.put,List.setIfInBounds_toArray,List.set_cons_zero,List.set_cons_succ,i64_w,i32_w]
         rfl
        refine pure_ (i:=7) (N:=some 70) (v:=?_) (a':=?_) #[true,true,true,true,true,true,true,true,false,false,false,false,false,false,false,false,false,false,false] rfl rfl (by kernel_rfl) (fun _ _ _ h=>h) (Or.inl ⟨by rfl,?_⟩) ?_ ?_
        rotate_left
        ·intro w'
         go_simp
         with_reducible rfl
        rotate_left
        ·simp only [Act.put,List.setIfInBounds_toArray,List.set_cons_zero,List.set_cons_succ,i64_w,i32_w]
         rfl
        refine take_ (i:=8) (N:=some 71) (v:=?_) (a':=?_) #[true,true,true,true,true,true,true,true,true,false,false,false,false,false,false,false,false,false,false] rfl rfl (by kernel_rfl) (fun _ _ _ h=>h) (Or.inl ⟨by rfl,?_⟩) hHeld ?_ ?_
        rotate_left
        ·rintro w' ⟨s0,s1,s2,s3,s4⟩
         go_simp
         with_reducible rfl
        rotate_left
        ·simp only [Act.put,List.setIfInBounds_toArray,List.set_cons_zero,List.set_cons_succ,i64_w,i32_w]
         rfl
        refine pure_ (i:=9) (N:=some 72) (v:=?_) (a':=?_) #[true,true,true,true,true,true,true,true,true,true,false,false,false,false,false,false,false,false,false] rfl rfl (by kernel_rfl) (fun _ _ _ h=>h) (Or.inl ⟨by rfl,?_⟩) ?_ ?_
        rotate_left
        ·intro w'
         go_simp
         with_reducible rfl
        rotate_left
        ·simp only [Act.put,List.setIfInBounds_toArray,List.set_cons_zero,List.set_cons_succ,i64_w,i32_w]
         rfl
        refine pure_ (i:=10) (N:=some 73) (v:=?_) (a':=?_) #[true,true,true,true,true,true,true,true,true,true,true,false,false,false,false,false,false,false,false] rfl rfl (by kernel_rfl) (fun _ _ _ h=>h) (Or.inl ⟨by rfl,?_⟩) ?_ ?_
        rotate_left
        ·intro w'
         go_simp
         with_reducible rfl
        rotate_left
        ·simp only [Act.put,List.setIfInBounds_toArray,List.set_cons_zero,List.set_cons_succ,i64_w,i32_w]
         rfl
        refine pure_ (i:=11) (N:=some 74) (v:=?_) (a':=?_) #[true,true,true,true,true,true,true,true,true,true,true,true,false,false,false,false,false,false,false] rfl rfl (by kernel_rfl) (fun _ _ _ h=>h) (Or.inl ⟨by rfl,?_⟩) ?_ ?_
        rotate_left
        ·intro w'
         go_simp
         with_reducible rfl
        rotate_left
        ·simp only [Act.put,List.setIfInBounds_toArray,List.set_cons_zero,List.set_cons_succ,i64_w,i32_w]
         rfl
        refine pure_ (i:=12) (N:=some 75) (v:=?_) (a':=?_) #[true,true,true,true,true,true,true,true,true,true,true,true,true,false,false,false,false,false,false] rfl rfl (by kernel_rfl) (fun _ _ _ h=>h) (Or.inl ⟨by rfl,?_⟩) ?_ ?_
        rotate_left
        ·intro w'
         go_simp
         with_reducible rfl
        rotate_left
        ·simp only [Act.put,List.setIfInBounds_toArray,List.set_cons_zero,List.set_cons_succ,i64_w,i32_w]
         rfl
        refine take_ (i:=13) (N:=some 76) (v:=?_) (a':=?_) #[true,true,true,true,true,true,true,true,true,true,true,true,true,true,false,false,false,false,false] rfl rfl (by kernel_rfl) (fun _ _ _ h=>h) (Or.inl ⟨by rfl,?_⟩) hHeld ?_ ?_
        rotate_left
        ·rintro w' ⟨s0,s1,s2,s3,s4⟩
         go_simp
         with_reducible rfl
        rotate_left
        ·simp only [Act.put,List.setIfInBounds_toArray,List.set_cons_zero,List.set_cons_succ,i64_w,i32_w]
         rfl
        refine one_ (i:=14) (N:=some 77) #[true,true,true,true,true,true,true,true,true,true,true,true,true,true,true,false,false,false,false] rfl rfl (by kernel_rfl) (by decide) (fun K hK=>?_)
        refine value_ (w1:=?_) (v:=?_) (by rfl) rfl ?_ ?_
        rotate_left 2
        ·go_simp
         constructor
         ·rfl
         ·rfl
        refine hK.out _ _ ⟨(hS _ ((Below.refl _ _).drew.alloc (Nat.le_refl _) _)).1,(hS _ ((Below.refl _ _).drew.alloc (Nat.le_refl _) _)).2.1,(hS _ ((Below.refl _ _).drew.alloc (Nat.le_refl _) _)).2.2.1,(hS _ ((Below.refl _ _).drew.alloc (Nat.le_refl _) _)).2.2.2.1,(hS _ ((Below.refl _ _).drew.alloc (Nat.le_refl _) _)).2.2.2.2.1⟩ (fun hHeld=>?_)
        clear hK K
        refine norm_ (a':=?_) ?_ ?_
        rotate_left
        ·show Act.put _ (some 77) _=_
         simp only [Act.put,List.setIfInBounds_toArray,List.set_cons_zero,List.set_cons_succ,i64_w,i32_w]
         rfl
        refine one_ (i:=15) (N:=some 78) #[true,true,true,true,true,true,true,true,true,true,true,true,true,true,true,true,false,false,false] rfl rfl (by kernel_rfl) (by decide) (fun K hK=>?_)
        refine step_append_last rfl (.tmp 75) (.tmp 77) rfl wB.heap.size (.slice (some ⟨g9,o9+3,none⟩) 1 (cap9 - 1)) [t1] rfl (hlv8.below ((Below.refl _ _).drew.alloc (Nat.le_refl _) _) (Nat.le_refl _)) (by simp) (Nat.le_trans hI7.fr.size (by simp)) ⟨kind,(s.data.toList.drop e).take n,e⟩ ⟨w7.drew.heap.size,0,none⟩ 1 rfl (World.news_of_block (cs:=#[.int .i64 kind,.string ⟨((s.data.toList.drop e).take n).toArray⟩,.int .i64 (e:Int)]) (heap_alloc_new w7.drew _)) ?_
        intro g8 o8 cap8 w8 hL8 hg8 ho8
        have hB8:∀ k,k < w7.heap.size→(.slice (some ⟨g9,o9+3,none⟩) 1 (cap9 - 1):Value).ownBlock≠some k→w8.heap[k]?=w7.heap[k]?:=fun k hk hne=>(hg8.block k (by show k < (w7.drew.heap.push _).size;simp;omega) (fun e=>hne e.symm)).trans (Below.heap_alloc w7.drew _ _ hk)
        have q1:w8.cell? ⟨p1,0,none⟩=_:=(World.cell?_of_block (hB8 p1 hplt (fun e=>by (have h1:g9=p1:=Option.some.inj e;omega)))).trans d1
        have q2:w8.cell? ⟨b,2,none⟩=_:=(World.cell?_of_block (hB8 b hb7 (fun e=>by (have h1:g9=b:=Option.some.inj e;omega)))).trans k27
        have q3:w8.frozen? ⟨b,2,none⟩=_:=(World.frozen?_of_block (hB8 b hb7 (fun e=>by (have h1:g9=b:=Option.some.inj e;omega)))).trans zf
        have hgk:=hB8 g hg7 (fun e=>by (have h1:g9=g:=Option.some.inj e;have h2:=hlg g9 rfl;omega))
        refine hK.out _ _ ⟨q1,q2,(World.cell?_of_block (w:=w7) (a:=⟨g,0,none⟩) hgk).trans g0,(World.cell?_of_block (w:=w7) (a:=⟨g,1,none⟩) hgk).trans g1,(World.cell?_of_block (w:=w7) (a:=⟨g,2,none⟩) hgk).trans g2⟩ (fun hHeld=>?_)
        clear hK K
        refine norm_ (a':=?_) ?_ ?_
        rotate_left
        ·show Act.put _ (some 78) _=_
         simp only [Act.put,List.setIfInBounds_toArray,List.set_cons_zero,List.set_cons_succ,i64_w,i32_w]
         rfl
        refine pure_ (i:=16) (N:=some 79) (v:=?_) (a':=?_) #[true,true,true,true,true,true,true,true,true,true,true,true,true,true,true,true,true,false,false] rfl rfl (by kernel_rfl) (fun _ _ _ h=>h) (Or.inl ⟨by rfl,?_⟩) ?_ ?_
        rotate_left
        ·intro w'
         go_simp
         with_reducible rfl
        rotate_left
        ·simp only [Act.put,List.setIfInBounds_toArray,List.set_cons_zero,List.set_cons_succ,i64_w,i32_w]
         rfl
        refine pure_ (i:=17) (N:=some 80) (v:=?_) (a':=?_) #[true,true,true,true,true,true,true,true,true,true,true,true,true,true,true,true,true,true,false] rfl rfl (by kernel_rfl) (fun _ _ _ h=>h) (Or.inl ⟨by rfl,?_⟩) ?_ ?_
        rotate_left
        ·intro w'
         go_simp
         with_reducible rfl
        rotate_left
        ·simp only [Act.put,List.setIfInBounds_toArray,List.set_cons_zero,List.set_cons_succ,i64_w,i32_w]
         rfl
        refine last_ (i:=18) (N:=none) #[true,true,true,true,true,true,true,true,true,true,true,true,true,true,true,true,true,true,true] rfl rfl (by kernel_rfl) (by decide) (fun K hK=>?_)
        refine skip_ (w1:=?_) (by rfl) rfl ?_ ?_
        rotate_left
        ·go_simp
         rfl
        refine hK.out _ _ ?_
        clear hK K
        refine done_ (by kernel_rfl) ?_
        have hI8:Inv wB o b L wv sv rec s z (tok :: (t1 :: t2 :: pre)) (tok :: (t1 :: t2 :: pre)) _:=(hI7.below ((Below.refl _ _).drew.alloc (Nat.le_refl _) _) (Nat.le_refl _)).setLast st (vl:=.slice (some ⟨g9,o9,none⟩) 2 cap9) ((hS _ ((Below.refl _ _).drew.alloc (Nat.le_refl _) _)).2.1) hg8 (pre':=tok :: (t1 :: t2 :: pre)) (by rw [HT.out];exact hL8) ho8
        generalize World.setCell w8 _ _=w9 at hI8 ⊢
        have d9:=hI8.c1 st
        cases hk9:Lx.skip (s.data.toList.drop z) with
        | error c9 =>
         have HS9:=Lib.hid (HN.out.trans ((Lx.scanR_eq _ _ _).trans (by rw [hk9])))
         have HK9:=Lib.hid hk9
         clear hk9
         go_wp2_with (go_at_call 99;refine (skip_err st hI8 hzs hs HK9.out hb10).mono ?_;rintro x w10 ⟨rfl,hf9⟩)
         exact ⟨rfl,tokPost_err HS9.out rfl rfl hf9⟩
        | ok r9 =>
         have HS9:=Lib.hid (HN.out.trans ((Lx.scanR_eq _ _ _).trans (by rw [hk9])))
         have HK9:=Lib.hid hk9
         obtain ⟨i9,hi9,hj9⟩:=Lx.skip_ok_suffix hk9
         have hr9:r9.length≤s.size - z:=by rw [hi9,List.length_drop,List.length_drop,← HSZ.out];omega
         have HR9:=Lib.hid (Lx.drop_back (by rw [← HSZ.out];exact hzs) hi9 hj9)
         clear hk9 hi9 hj9
         go_wp2_with (go_at_call 99;refine (skip_ok st hI8 hzs hs HK9.out hb10).mono ?_;rintro x w10 ⟨rfl,hI10⟩)
         go_roundg (s.size - (s.size - r9.length))
         case rel=>exact ⟨s.size - r9.length,tok :: (t1 :: t2 :: pre),hpl',by omega,rfl,Lib.hid (by rw [HS9.out];show Lx.scanT _ _ _=_;rw [show s.data.toList.drop (s.size - r9.length)=r9 by rw [HSZ.out];exact HR9.out.symm]),hI10⟩
         case measure=>omega
      ·replace hrl:=hrl (by omega)
       clear hrm
       go_upto_region 8 with fail
       refine (wpIn_wide (n:=0)).1 ?_
       gi_wp2
       refine ⟨rfl,hrl.mono ?_⟩
       rintro x w6 ⟨rfl,hf6⟩
       exact ⟨rfl,tokPost_err (HE.out.trans (scanT_long HD.out HO.out (by omega))) (by rw [List.length_drop,← HSZ.out];omega) rfl hf6⟩
   ·go_upto_region 3 with (go_quiet (fail))
    refine ⟨rfl,_,results_none rfl _ _ _,?_⟩
    have hnil:s.data.toList.drop e=[]:=List.drop_eq_nil_of_le (by rw [← HSZ.out];omega)
    exact tokPost_ok (HE.out.trans (scanT_nil hnil)) rfl e pre rfl (hI.below (below_drewN (Below.refl _ _) nq) (Nat.le_refl _))
end Go.Proofs.YtadgddipkbdnbaaGreatDoor
