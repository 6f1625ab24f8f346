/- Parts of the proof of InsnLists. -/
import Derived.Test.YtffojmgmpfjlhaaGreatDoorInsnListsY2
import Derived.Deep.RegionHeld3
import Derived.Deep.QuietTactic
import Derived.BigQuiet
import Derived.IntWalk
set_option maxHeartbeats 16000000
set_option maxRecDepth 100000
set_option linter.unusedVariables false
set_option linter.unusedSimpArgs false
namespace Go.Proofs.YtffojmgmpfjlhaaGreatDoor
open Go.Proofs.Ix hiding rd
open Go.RowKit YtffojmgmpfjlhaaGreatDoorW.PrintWords YtffojmgmpfjlhaaGreatDoorW.PrintLast Go.ChangeShapes Go.WideShapes Go.MapKept Go.Maps Go.ChangeMaps
open Q (S61 rd_T61 k61 at_T61)
theorem isName_all (s:ByteArray) (w:World):Calls Tryz.prog 118 #[.string s] w fun e w'=>e=.returned (.bool (nameB s))∧Below w.heap.size w w':=by
 by_cases h:s.size≤31
 ·exact isName_any s w (by omega)
 ·rw [nameB_eq]
  have h0:0 < s.size:=by omega
  have hne:=not_emp h0
  have hd1:decide (s.size≤31)=false:=decide_eq_false h
  rw [dif_pos h0,hd1]
  go_enter Tryz.func118,Tryz.ntmps118
  go_wp2
  go_ret
  exact ⟨rfl,Below.refl _ _⟩
theorem nameB_le {s:ByteArray} (h:nameB s=true):s.size≤31:=by
 rw [nameB_eq] at h
 split at h
 ·simp at h
  exact h.1.1
 ·cases h
theorem okI_wrap (x:Int):okI (wrap64 x):=by
 apply okI_of <;> (simp only [wrap64];omega)
def startsL (at_:Int) (offs:List Int) (e:Int):List Int:=(offs.map fun n=>wrap64 (at_+n)).reverse ++ [e]
def nextS (L:List S61) (e:Int) (i:Nat):Int:=if i+1 < L.length then (rd_T61 L ((i:Int)+1)).f1 else e
def nameIn (L:List S61) (i:Nat):Bool:=(List.range i).any fun j=>decide ((rd_T61 L (j:Int)).f0=(rd_T61 L (i:Int)).f0)
def fitAt (L:List S61) (S:List Int) (e:Int) (i:Nat):Bool :=
 nameB (rd_T61 L i).f0 && !nameIn L i && decide ((rd_T61 L i).f1∈S) && !(decide (0 < i) && decide ((rd_T61 L i).f1 < (rd_T61 L ((i:Int) - 1)).f1)) && decide ((rd_T61 L i).f2=wrap64 (nextS L e i - (rd_T61 L i).f1))
def fitB (L:List S61) (at_:Int) (offs:List Int) (e:Int):Bool:=(List.range L.length).all fun i=>fitAt L (startsL at_ offs e) e i
theorem fit_no {L:List S61} {at_:Int} {offs:List Int} {e:Int} {k:Nat} (hk:k < L.length) (h:fitAt L (startsL at_ offs e) e k=false):fitB L at_ offs e=false:=by
 cases hh:fitB L at_ offs e with
 | false=>rfl
 | true =>
  unfold fitB at hh
  rw [List.all_eq_true] at hh
  rw [hh k (List.mem_range.2 hk)] at h
  cases h
theorem fit_yes {L:List S61} {at_:Int} {offs:List Int} {e:Int} (h:∀ i < L.length,fitAt L (startsL at_ offs e) e i=true):fitB L at_ offs e=true:=by
 unfold fitB
 rw [List.all_eq_true]
 intro i hi
 exact h i (List.mem_range.1 hi)
def FitOut (w:World) (b:Bool) (x:Ending) (w':World):Prop:=x=.returned (.bool b)∧Below w.heap.size w w'
theorem Sm.belo {α:Type} [DecidableEq α] {enc:α→Value} {ok:α→Prop} {w w':World} {m:Nat} {S:List α} (h:Sm enc ok w m S) (hb:Below w.heap.size w w'):Sm enc ok w' m S:=h.keep (hb.block m h.lt)
theorem bel_aft {B m:Nat} {w0 w w':World} (h:Below B w0 w) (h':Aft m w w') (hm:B≤m) (hs:B≤w.heap.size):Below B w0 w' :=
 ⟨h'.os.trans h.os,h'.tape.trans h.tape,h'.output.trans h.output,Nat.le_trans h.size h'.size,fun k hk=>(h'.block k (by omega) (by omega)).trans (h.block k hk)⟩
theorem rd_nat (xs:List Int) (k:Nat):YtffojmgmpfjlhaaGreatDoorW.PrintWords.rd xs (k:Int)=xs.getD k 0:=by simp [YtffojmgmpfjlhaaGreatDoorW.PrintWords.rd]
theorem starts_snoc (at_:Int) {offs:List Int} (e:Int) {k:Nat} (hk:k < offs.length):startsL at_ (offs.take (k+1)) e=wrap64 (at_+YtffojmgmpfjlhaaGreatDoorW.PrintWords.rd offs k) :: startsL at_ (offs.take k) e:=by
 rw [rd_nat]
 unfold startsL
 rw [List.take_succ_eq_append_getElem hk,List.map_append,List.reverse_append]
 simp [List.getD_eq_getElem?_getD,List.getElem?_eq_getElem hk]
def namesL (L:List S61):Nat→List ByteArray
 | 0=>[]
 | k+1=>(rd_T61 L (k:Int)).f0 :: namesL L k
theorem names_in (L:List S61) (s:ByteArray):∀ k,s∈namesL L k↔((List.range k).any fun j=>decide ((rd_T61 L (j:Int)).f0=s))=true
 | 0=>by simp [namesL]
 | k+1=>by
  rw [List.range_succ,List.any_append]
  have:=names_in L s k
  simp only [namesL,List.mem_cons,decide_eq_true_eq,Bool.or_eq_true,List.any_cons,List.any_nil,Bool.or_false] at this ⊢
  constructor
  ·rintro (h | h)
   ·exact Or.inr h.symm
   ·exact Or.inl (this.1 h)
  ·rintro (h | h)
   ·exact Or.inr (this.2 h)
   ·exact Or.inl h.symm
theorem Sm.lookB {T K:TypeId} {α:Type} [DecidableEq α] {enc:α→Value} {ok:α→Prop} (M:Mk9 T K α enc ok) {m:Nat} (S:List α) (x:α) (hx:ok x) :
  ∃ b:Bool,(b=true↔x∈S)∧∀ w,Sm enc ok w m S→(Instr.lookup T (.map (some m)) (enc x) false).run Tryz.prog w=.ok (.bool b) w :=
 ⟨_,decide_eq_true_iff,fun w h=>Sm.look M h x hx⟩
theorem fitting_any (A1:Option Addr) (c1:Nat) (L:List S61) (A2:Option Addr) (c2:Nat) (offs:List Int) (at_ e:Int) (w:World) (hr1:Kd.C k61 w A1 L.length L) (hc1:L.length≤c1) (hr2:Kd.C (Kd.int .i64) w A2 offs.length offs) (hc2:offs.length≤c2)
  (hn1:L.length≤1000000) (hn2:offs.length≤1000000) (he:okI e) (hL:∀ s∈L,okI s.f1) :
  Calls Tryz.prog 82 #[.slice A1 L.length c1,.int .i64 at_,.slice A2 offs.length c2,.int .i64 e] w (FitOut w (fitB L at_ offs e)):=by
 obtain ⟨R,hR⟩:∃ R,fitB L at_ offs e=R:=⟨_,rfl⟩
 rw [hR]
 have HR:=Lib.hid hR
 clear hR
 have HC1:=Aside0.mk hr1
 have HC2:=Aside0.mk hr2
 have HL:=Lib.hid hL
 clear hL hr1 hr2
 obtain ⟨n2,hn2e⟩:∃ n,offs.length=n:=⟨_,rfl⟩
 obtain ⟨n1,hn1e⟩:∃ n,L.length=n:=⟨_,rfl⟩
 rw [hn2e] at hn2 hc2 ⊢
 rw [hn1e] at hn1 hc1 ⊢
 have S0:Sm keyI okI (w.alloc (.map #[] 0)) w.heap.size []:=Sm.made _ _ _
 obtain ⟨w1,hp1,S1,ha1,hs1⟩:=Sm.put mI S0 e he
 have hB1:Below w.heap.size w w1:=bel_aft ((Below.refl _ w).alloc (Nat.le_refl _) _) ha1 (Nat.le_refl _) (by rw [World.alloc];simp)
 have hp1':(Instr.mapUpdate 176 (.map (some w.heap.size)) (.int .i64 e) (.bool true)).run Tryz.prog (w.alloc (.map #[] 0))=.ok () w1:=hp1
 have hmm:=@run_makeMap Tryz.prog
 go_enter Tryz.func82,Tryz.ntmps82
 go_upto_region 2 with fail
 clear hmm
 clear hp1' hp1 S0 hs1 ha1
 go_wp2
 go_loopw [21] (fun i wr=>∃ (k:Nat),k≤n2∧i=.int .i64 k∧Below w.heap.size w wr∧Sm keyI okI wr w.heap.size (startsL at_ (offs.take k) e)) (fun i _=>n2 - (intOf i).toNat)
 case atStart=>exact ⟨0,by omega,rfl,hB1,S1⟩
 case round =>
  obtain ⟨k,hk,rfl,hb,hS⟩:=hrel
  by_cases hlt:k < n2
  ·obtain ⟨ad,rfl,hx⟩:=Kd.at_int (Kd.C_below HC2.out hb) (k:Int) (by omega) (by omega)
   rw [Int.toNat_natCast] at hx
   obtain ⟨w2,hp,S2,ha,hs⟩:=Sm.put mI hS (wrap64 (at_+YtffojmgmpfjlhaaGreatDoorW.PrintWords.rd offs k)) (okI_wrap _)
   have hp':(Instr.mapUpdate 176 (.map (some w.heap.size)) (.int .i64 (wrap64 (at_+YtffojmgmpfjlhaaGreatDoorW.PrintWords.rd offs k))) (.bool true)).run Tryz.prog wr=.ok () w2:=hp
   go_wp2
   go_roundw
   case rel =>
    refine ⟨k+1,by omega,by go_num,bel_aft hb ha (Nat.le_refl _) hb.size,?_⟩
    rw [starts_snoc at_ e (by omega)]
    exact S2
   case measure=>simp [intOf];omega
  ·obtain rfl:k=n2:=by omega
   have hS':Sm keyI okI wr w.heap.size (startsL at_ offs e):=by rw [List.take_of_length_le (by omega)] at hS;exact hS
   clear hS
   obtain ⟨ST,hST⟩:∃ ST,startsL at_ offs e=ST:=⟨_,rfl⟩
   rw [hST] at hS'
   have SN:Sm keyS okS (wr.alloc (.map #[] 0)) wr.heap.size ([]:List ByteArray):=Sm.made _ _ _
   have hb3:Below w.heap.size w (wr.alloc (.map #[] 0)):=hb.alloc hb.size _
   have hS3:=hS'.belo ((Below.refl _ wr).alloc (Nat.le_refl _) (.map #[] 0))
   have hm2:w.heap.size < wr.heap.size:=hS'.lt
   have hmm:=@run_makeMap Tryz.prog
   go_upto_region 9 with fail
   clear hmm
   generalize wr.heap.size=m2 at SN hm2 ⊢
   generalize wr.alloc (.map #[] 0)=w3 at SN hb3 hS3 ⊢
   clear hb hS'
   go_loopw [33] (fun i wq=>∃ (k:Nat),k≤n1∧i=.int .i64 k∧Below w.heap.size w wq∧Sm keyI okI wq w.heap.size ST∧Sm keyS okS wq m2 (namesL L k)∧Hid (∀ i < k,fitAt L ST e i=true)) (fun i _=>n1 - (intOf i).toNat)
   case atStart=>exact ⟨0,by omega,rfl,hb3,hS3,SN,Lib.hid (fun i hi=>absurd hi (by omega))⟩
   case round =>
    obtain ⟨k,hk,rfl,hb,hS,hN,HF⟩:=hrel
    by_cases hlt:k < n1
    ·have hkL:k < L.length:=by omega
     have HRD:=Kd.C_below HC1.out hb
     obtain ⟨ad,rfl,x0,x1,x2⟩:=at_T61 HRD (k:Int) (by omega) (by omega)
     obtain ⟨s,hs⟩:∃ s,rd_T61 L (k:Int)=s:=⟨_,rfl⟩
     rw [hs] at x0 x1 x2
     obtain ⟨sn,sa,sz⟩:=s
     dsimp only at x0 x1 x2
     rw [Int.toNat_natCast] at x0 x1 x2
     have hs1:okI sa:=by
      have:=HL.out (rd_T61 L (k:Int)) (by
       rw [show rd_T61 L (k:Int)=L[k] from by simp [rd_T61,List.getD_eq_getElem?_getD,List.getElem?_eq_getElem hkL]]
       exact List.getElem_mem hkL)
      rw [hs] at this
      exact this
     obtain ⟨nx,hnx⟩:∃ nx,nextS L e k=nx:=⟨_,rfl⟩
     have i1:IntKind.i64.wrap ((k:Int)+1)=(k:Int)+1:=IntWalk.i64_in _ (by omega)
     have i2:(0:Int)≤(k:Int)+1:=by omega
     have i3:((k:Int)+1).toNat=k+1:=by omega
     go_upto_if 43 with fail
     have hb4:Below w.heap.size w (wr.alloc (.cells #[.string sn,.int .i64 sa,.int .i64 sz] 61)):=hb.alloc hb.size _
     have hS4:=hS.belo ((Below.refl _ wr).alloc (Nat.le_refl _) (.cells #[.string sn,.int .i64 sa,.int .i64 sz] 61))
     have hN4:=hN.belo ((Below.refl _ wr).alloc (Nat.le_refl _) (.cells #[.string sn,.int .i64 sa,.int .i64 sz] 61))
     have hX4:(wr.alloc (.cells #[.string sn,.int .i64 sa,.int .i64 sz] 61)).heap[wr.heap.size]?=some (.cells #[.string sn,.int .i64 sa,.int .i64 sz] 61 (0,0)):=heap_own _ _
     go_cut [15] (fun v wc=>v=.int .i64 nx∧Below w.heap.size w wc∧Sm keyI okI wc w.heap.size ST∧Sm keyS okS wc m2 (namesL L k)∧wc.heap[wr.heap.size]?=some (.cells #[.string sn,.int .i64 sa,.int .i64 sz] 61 (0,0)))
     case first =>
      by_cases hk1:k+1 < n1
      ·obtain ⟨ad2,e2,y0,y1,y2⟩:=at_T61 HRD ((k:Int)+1) (by omega) (by omega)
       cases e2
       have hki:(k:Int)+1 < (n1:Int):=by omega
       have hny:(rd_T61 L ((k:Int)+1)).f1=nx:=by rw [← hnx];unfold nextS;rw [if_pos (by omega)]
       rw [hny,i3] at y1
       clear y0 y2
       have y1':∀ o,(wr.alloc o).cell? _=_:=fun o=>((Below.refl _ wr).alloc (Nat.le_refl _) o).cell (World.block_lt_of_cell? _ _ y1) |>.trans y1
       go_wp2
       go_meet
       exact ⟨rfl,hb4,hS4,hN4,hX4⟩
      ·have hki:¬ (k:Int)+1 < (n1:Int):=by omega
       have hny:e=nx:=by rw [← hnx];unfold nextS;rw [if_neg (by omega)]
       subst hny
       go_wp2
       go_meet
       exact ⟨rfl,hb4,hS4,hN4,hX4⟩
     case rest =>
      obtain ⟨rfl,hb4,hS4,hN4,hX4⟩:=hcut
      go_upto_region 14 with fail
      clear x0 x1 x2 hb hS hN i1 i2 i3 HRD
      generalize wr.heap.size=X at hX4 ⊢
      generalize wc=W1 at hb4 hS4 hN4 hX4 ⊢
      have hX5:W1.drew.heap[X]?=some (.cells #[.string sn,.int .i64 sa,.int .i64 sz] 61 (0,0)):=hX4
      have hXl:X < W1.drew.heap.size:=(Array.getElem?_eq_some_iff.1 hX5).1
      have hb4d:Below w.heap.size w W1.drew:=hb4.trans ⟨rfl,rfl,rfl,Nat.le_refl _,fun _ _=>rfl⟩
      have hS5:Sm keyI okI W1.drew w.heap.size ST:=hS4
      have hN5:Sm keyS okS W1.drew m2 (namesL L k):=hN4
      cases hnb:nameB sn with
      | false =>
       have HNB:=Lib.hid hnb
       have hR:R=false:=by rw [← HR.out];exact fit_no hkL (by unfold fitAt;rw [hs];simp only;rw [hnb];simp)
       subst hR
       clear hnb
       have hH:∀ w',Below W1.drew.heap.size W1.drew w'→w'.cell? ⟨X,0,none⟩=some (.string sn)∧w'.cell? ⟨X,1,none⟩=some (.int .i64 sa)∧w'.cell? ⟨X,2,none⟩=some (.int .i64 sz):=fun w' h=>by
        have e9:=(h.block X hXl).trans hX5
        exact ⟨(blk_cell e9 0).trans rfl,(blk_cell e9 1).trans rfl,(blk_cell e9 2).trans rfl⟩
       have HH:=Lib.hid hH
       clear hH
       refine start_ (n:=41) (S:=fun w'=>w'.cell? ⟨X,0,none⟩=some (.string sn)∧w'.cell? ⟨X,1,none⟩=some (.int .i64 sa)∧w'.cell? ⟨X,2,none⟩=some (.int .i64 sz)) (ds:=[]) #[zF,zF,zF,zF,zF,zF,zF,zF,zF,zF,zF,zF,zF,zF,zF,zF,zF,zF,zF,zF,zF,zF,zF,zF,zF,zF,zF,zF,zF,zF,zF,zF,zF,zF,zF,zF,zF,zF,zF,zF,zF] (by kernel_rfl) rfl rfl ⟨(HH.out _ (Below.refl _ _)).1,(HH.out _ (Below.refl _ _)).2.1,(HH.out _ (Below.refl _ _)).2.2⟩ (fun hHeld=>?_)
       refine pqr 0 41 ?_;refine tqr3 1 41 hHeld ?_
       refine one_ (i:=2) (N:=some 52) (fl 41 3) rfl rfl (by kernel_rfl) (by decide) (fun K hK=>?_)
       refine goes_ Tryz.func118 (by kernel_rfl) rfl #[.string sn] (by rfl) rfl rfl (by simp only [List.map_toArray,List.map_cons,List.map_nil];rfl) ?_
       with_reducible refine (isName_all sn _).mono ?_
       rintro e w2 ⟨hE,hbx⟩
       rw [HNB.out] at hE
       subst hE
       refine ⟨_,rfl,?_⟩
       refine hK.out _ _ ⟨(HH.out _ hbx).1,(HH.out _ hbx).2.1,(HH.out _ hbx).2.2⟩ (fun hHeld=>?_)
       clear hK K
       refine nrmq ?_;refine pqr 3 41 ?_;refine pqr 4 41 ?_;refine pqu 5 41 ?_;refine pqu 6 41 ?_;refine pqu 7 41 ?_;refine pqu 8 41 ?_;refine pqr 9 41 ?_;refine pqr 10 41 ?_;refine pqu 11 41 ?_;refine pqu 12 41 ?_;refine pqu 13 41 ?_;refine pqu 14 41 ?_;refine pqu 15 41 ?_;refine pqr 16 41 ?_;refine pqr 17 41 ?_;refine pqu 18 41 ?_;refine pqu 19 41 ?_;refine pqu 20 41 ?_;refine pqu 21 41 ?_;refine pqu 22 41 ?_;refine pqu 23 41 ?_;refine pqu 24 41 ?_;refine pqu 25 41 ?_;refine pqu 26 41 ?_;refine pqu 27 41 ?_;refine pqu 28 41 ?_;refine pqu 29 41 ?_;refine pqu 30 41 ?_;refine pqr 31 41 ?_;refine pqr 32 41 ?_;refine pqu 33 41 ?_;refine pqu 34 41 ?_;refine pqu 35 41 ?_;refine pqu 36 41 ?_;refine pqu 37 41 ?_;refine pqu 38 41 ?_;refine pqu 39 41 ?_;refine pqr 40 41 ?_
       refine done_ (by kernel_rfl) ?_
       clear HH
       have hb7:Below w.heap.size w w2:=below_step hb4d hbx
       go_wp2
       go_ret
       exact ⟨rfl,hb7⟩
      | true =>
       have HNB:=Lib.hid hnb
       have hok:okS sn:=by have:=nameB_le hnb;unfold okS;omega
       obtain ⟨bn,hbn,hlN⟩:=Sm.lookB (m:=m2) mS (namesL L k) sn hok
       obtain ⟨bs,hbs,hlS⟩:=Sm.lookB (m:=w.heap.size) mI ST sa hs1
       have hnI:nameIn L k=bn:=by
        rw [Bool.eq_iff_iff]
        unfold nameIn
        rw [hs]
        exact ((names_in L sn k).symm.trans hbn.symm)
       have hdS:decide (sa∈ST)=bs:=by
        rw [Bool.eq_iff_iff,decide_eq_true_iff]
        exact hbs.symm
       have hfa:fitAt L ST e k=(!bn && bs && !(decide (0 < k) && decide (sa < (rd_T61 L ((k:Int) - 1)).f1)) && decide (sz=wrap64 (nx - sa))):=by
        unfold fitAt
        rw [hs]
        simp only
        rw [hnb,hnI,hdS,hnx]
        simp
       clear hnb hnI hdS hbn hbs
       cases bn with
       | true =>
        have hR:R=false:=by rw [← HR.out];exact fit_no hkL (by rw [hST,hfa];simp)
        subst hR
        clear hfa
        have hH:∀ w',Below W1.drew.heap.size W1.drew w'→w'.cell? ⟨X,0,none⟩=some (.string sn)∧w'.cell? ⟨X,1,none⟩=some (.int .i64 sa)∧w'.cell? ⟨X,2,none⟩=some (.int .i64 sz)∧(Instr.lookup 177 (.map (some m2)) (.string sn) false).run Tryz.prog w'=.ok (.bool true) w':=fun w' h=>by
         have e9:=(h.block X hXl).trans hX5
         exact ⟨(blk_cell e9 0).trans rfl,(blk_cell e9 1).trans rfl,(blk_cell e9 2).trans rfl,hlN w' (hN5.belo h)⟩
        have HH:=Lib.hid hH
        clear hH
        refine start_ (n:=41) (S:=fun w'=>w'.cell? ⟨X,0,none⟩=some (.string sn)∧w'.cell? ⟨X,1,none⟩=some (.int .i64 sa)∧w'.cell? ⟨X,2,none⟩=some (.int .i64 sz)∧(Instr.lookup 177 (.map (some m2)) (.string sn) false).run Tryz.prog w'=.ok (.bool true) w') (ds:=[]) #[zF,zF,zF,zF,zF,zF,zF,zF,zF,zF,zF,zF,zF,zF,zF,zF,zF,zF,zF,zF,zF,zF,zF,zF,zF,zF,zF,zF,zF,zF,zF,zF,zF,zF,zF,zF,zF,zF,zF,zF,zF] (by kernel_rfl) rfl rfl ⟨(HH.out _ (Below.refl _ _)).1,(HH.out _ (Below.refl _ _)).2.1,(HH.out _ (Below.refl _ _)).2.2.1,(HH.out _ (Below.refl _ _)).2.2.2⟩ (fun hHeld=>?_)
        refine pqr 0 41 ?_;refine tqr4 1 41 hHeld ?_
        refine one_ (i:=2) (N:=some 52) (fl 41 3) rfl rfl (by kernel_rfl) (by decide) (fun K hK=>?_)
        refine goes_ Tryz.func118 (by kernel_rfl) rfl #[.string sn] (by rfl) rfl rfl (by simp only [List.map_toArray,List.map_cons,List.map_nil];rfl) ?_
        with_reducible refine (isName_all sn _).mono ?_
        rintro e w2 ⟨hE,hbx⟩
        rw [HNB.out] at hE
        subst hE
        refine ⟨_,rfl,?_⟩
        refine hK.out _ _ ⟨(HH.out _ hbx).1,(HH.out _ hbx).2.1,(HH.out _ hbx).2.2.1,(HH.out _ hbx).2.2.2⟩ (fun hHeld=>?_)
        clear hK K
        refine nrmq ?_;refine pqr 3 41 ?_;refine pqr 4 41 ?_;refine pqr 5 41 ?_;refine pqr 6 41 ?_;refine tqr4 7 41 hHeld ?_;refine tqr4 8 41 hHeld ?_;refine pqr 9 41 ?_;refine pqr 10 41 ?_;refine pqu 11 41 ?_;refine pqu 12 41 ?_;refine pqu 13 41 ?_;refine pqu 14 41 ?_;refine pqu 15 41 ?_;refine pqr 16 41 ?_;refine pqr 17 41 ?_;refine pqu 18 41 ?_;refine pqu 19 41 ?_;refine pqu 20 41 ?_;refine pqu 21 41 ?_;refine pqu 22 41 ?_;refine pqu 23 41 ?_;refine pqu 24 41 ?_;refine pqu 25 41 ?_;refine pqu 26 41 ?_;refine pqu 27 41 ?_;refine pqu 28 41 ?_;refine pqu 29 41 ?_;refine pqu 30 41 ?_;refine pqr 31 41 ?_;refine pqr 32 41 ?_;refine pqu 33 41 ?_;refine pqu 34 41 ?_;refine pqu 35 41 ?_;refine pqu 36 41 ?_;refine pqu 37 41 ?_;refine pqu 38 41 ?_;refine pqu 39 41 ?_;refine pqr 40 41 ?_
        refine done_ (by kernel_rfl) ?_
        clear HH
        have hb7:Below w.heap.size w w2:=below_step hb4d hbx
        go_wp2
        go_ret
        exact ⟨rfl,hb7⟩
       | false =>
        cases bs with
        | false =>
         have hR:R=false:=by rw [← HR.out];exact fit_no hkL (by rw [hST,hfa];simp)
         subst hR
         clear hfa
         have hH:∀ w',Below W1.drew.heap.size W1.drew w'→w'.cell? ⟨X,0,none⟩=some (.string sn)∧w'.cell? ⟨X,1,none⟩=some (.int .i64 sa)∧w'.cell? ⟨X,2,none⟩=some (.int .i64 sz)∧(Instr.lookup 177 (.map (some m2)) (.string sn) false).run Tryz.prog w'=.ok (.bool false) w'∧(Instr.lookup 176 (.map (some w.heap.size)) (.int .i64 sa) false).run Tryz.prog w'=.ok (.bool false) w':=fun w' h=>by
          have e9:=(h.block X hXl).trans hX5
          exact ⟨(blk_cell e9 0).trans rfl,(blk_cell e9 1).trans rfl,(blk_cell e9 2).trans rfl,hlN w' (hN5.belo h),hlS w' (hS5.belo h)⟩
         have HH:=Lib.hid hH
         clear hH
         refine start_ (n:=41) (S:=fun w'=>w'.cell? ⟨X,0,none⟩=some (.string sn)∧w'.cell? ⟨X,1,none⟩=some (.int .i64 sa)∧w'.cell? ⟨X,2,none⟩=some (.int .i64 sz)∧(Instr.lookup 177 (.map (some m2)) (.string sn) false).run Tryz.prog w'=.ok (.bool false) w'∧(Instr.lookup 176 (.map (some w.heap.size)) (.int .i64 sa) false).run Tryz.prog w'=.ok (.bool false) w') (ds:=[]) #[zF,zF,zF,zF,zF,zF,zF,zF,zF,zF,zF,zF,zF,zF,zF,zF,zF,zF,zF,zF,zF,zF,zF,zF,zF,zF,zF,zF,zF,zF,zF,zF,zF,zF,zF,zF,zF,zF,zF,zF,zF] (by kernel_rfl) rfl rfl ⟨(HH.out _ (Below.refl _ _)).1,(HH.out _ (Below.refl _ _)).2.1,(HH.out _ (Below.refl _ _)).2.2.1,(HH.out _ (Below.refl _ _)).2.2.2.1,(HH.out _ (Below.refl _ _)).2.2.2.2⟩ (fun hHeld=>?_)
         refine pqr 0 41 ?_;refine tqr5 1 41 hHeld ?_
         refine one_ (i:=2) (N:=some 52) (fl 41 3) rfl rfl (by kernel_rfl) (by decide) (fun K hK=>?_)
         refine goes_ Tryz.func118 (by kernel_rfl) rfl #[.string sn] (by rfl) rfl rfl (by simp only [List.map_toArray,List.map_cons,List.map_nil];rfl) ?_
         with_reducible refine (isName_all sn _).mono ?_
         rintro e w2 ⟨hE,hbx⟩
         rw [HNB.out] at hE
         subst hE
         refine ⟨_,rfl,?_⟩
         refine hK.out _ _ ⟨(HH.out _ hbx).1,(HH.out _ hbx).2.1,(HH.out _ hbx).2.2.1,(HH.out _ hbx).2.2.2.1,(HH.out _ hbx).2.2.2.2⟩ (fun hHeld=>?_)
         clear hK K
         refine nrmq ?_;refine pqr 3 41 ?_;refine pqr 4 41 ?_;refine pqr 5 41 ?_;refine pqr 6 41 ?_;refine tqr5 7 41 hHeld ?_;refine tqr5 8 41 hHeld ?_;refine pqr 9 41 ?_;refine pqr 10 41 ?_;refine pqr 11 41 ?_;refine pqr 12 41 ?_;refine tqr5 13 41 hHeld ?_;refine tqr5 14 41 hHeld ?_;refine pqr 15 41 ?_;refine pqr 16 41 ?_;refine pqr 17 41 ?_;refine pqu 18 41 ?_;refine pqu 19 41 ?_;refine pqu 20 41 ?_;refine pqu 21 41 ?_;refine pqu 22 41 ?_;refine pqu 23 41 ?_;refine pqu 24 41 ?_;refine pqu 25 41 ?_;refine pqu 26 41 ?_;refine pqu 27 41 ?_;refine pqu 28 41 ?_;refine pqu 29 41 ?_;refine pqu 30 41 ?_;refine pqr 31 41 ?_;refine pqr 32 41 ?_;refine pqu 33 41 ?_;refine pqu 34 41 ?_;refine pqu 35 41 ?_;refine pqu 36 41 ?_;refine pqu 37 41 ?_;refine pqu 38 41 ?_;refine pqu 39 41 ?_;refine pqr 40 41 ?_
         refine done_ (by kernel_rfl) ?_
         clear HH
         have hb7:Below w.heap.size w w2:=below_step hb4d hbx
         go_wp2
         go_ret
         exact ⟨rfl,hb7⟩
        | true =>
         by_cases hk0:0 < k
         ·obtain ⟨ad3,e3,q0,q1,q2⟩:=at_T61 (Kd.C_below HC1.out hb4d) ((k:Int) - 1) (by omega) (by omega)
          cases e3
          obtain ⟨pv,hpv⟩:∃ pv,(rd_T61 L ((k:Int) - 1)).f1=pv:=⟨_,rfl⟩
          rw [hpv] at q1 hfa
          clear q0 q2 hpv
          have j1:IntKind.i64.wrap ((k:Int) - 1)=(k:Int) - 1:=IntWalk.i64_in _ (by omega)
          have j2:(0:Int)≤(k:Int) - 1:=by omega
          have j3:((k:Int) - 1).toNat=k - 1:=by omega
          have j4:(k:Int) - 1 < (n1:Int):=by omega
          have j6:(1:Int)≤(k:Int):=by omega
          have j5:(0:Int) < (k:Int):=by omega
          rw [j3] at q1
          have pv1:=q1
          clear q1
          by_cases hlp:sa < pv
          ·have hR:R=false:=by rw [← HR.out];exact fit_no hkL (by rw [hST,hfa];simp [hk0,hlp])
           subst hR
           clear hfa
           have hH:∀ w',Below W1.drew.heap.size W1.drew w'→w'.cell? ⟨X,0,none⟩=some (.string sn)∧w'.cell? ⟨X,1,none⟩=some (.int .i64 sa)∧w'.cell? ⟨X,2,none⟩=some (.int .i64 sz)∧(Instr.lookup 177 (.map (some m2)) (.string sn) false).run Tryz.prog w'=.ok (.bool false) w'∧(Instr.lookup 176 (.map (some w.heap.size)) (.int .i64 sa) false).run Tryz.prog w'=.ok (.bool true) w'∧w'.cell? ⟨(ad.add ((k - 1) * 3)).block,(ad.add ((k - 1) * 3)).off+1,none⟩=some (.int .i64 pv):=fun w' h=>by
            have e9:=(h.block X hXl).trans hX5
            exact ⟨(blk_cell e9 0).trans rfl,(blk_cell e9 1).trans rfl,(blk_cell e9 2).trans rfl,hlN w' (hN5.belo h),hlS w' (hS5.belo h),(h.cell (World.block_lt_of_cell? _ _ pv1)).trans pv1⟩
           have HH:=Lib.hid hH
           clear hH
           refine start_ (n:=41) (S:=fun w'=>w'.cell? ⟨X,0,none⟩=some (.string sn)∧w'.cell? ⟨X,1,none⟩=some (.int .i64 sa)∧w'.cell? ⟨X,2,none⟩=some (.int .i64 sz)∧(Instr.lookup 177 (.map (some m2)) (.string sn) false).run Tryz.prog w'=.ok (.bool false) w'∧(Instr.lookup 176 (.map (some w.heap.size)) (.int .i64 sa) false).run Tryz.prog w'=.ok (.bool true) w'∧w'.cell? ⟨(ad.add ((k - 1) * 3)).block,(ad.add ((k - 1) * 3)).off+1,none⟩=some (.int .i64 pv)) (ds:=[]) #[zF,zF,zF,zF,zF,zF,zF,zF,zF,zF,zF,zF,zF,zF,zF,zF,zF,zF,zF,zF,zF,zF,zF,zF,zF,zF,zF,zF,zF,zF,zF,zF,zF,zF,zF,zF,zF,zF,zF,zF,zF] (by kernel_rfl) rfl rfl ⟨(HH.out _ (Below.refl _ _)).1,(HH.out _ (Below.refl _ _)).2.1,(HH.out _ (Below.refl _ _)).2.2.1,(HH.out _ (Below.refl _ _)).2.2.2.1,(HH.out _ (Below.refl _ _)).2.2.2.2.1,(HH.out _ (Below.refl _ _)).2.2.2.2.2⟩ (fun hHeld=>?_)
           refine pqr 0 41 ?_;refine tqr6 1 41 hHeld ?_
           refine one_ (i:=2) (N:=some 52) (fl 41 3) rfl rfl (by kernel_rfl) (by decide) (fun K hK=>?_)
           refine goes_ Tryz.func118 (by kernel_rfl) rfl #[.string sn] (by rfl) rfl rfl (by simp only [List.map_toArray,List.map_cons,List.map_nil];rfl) ?_
           with_reducible refine (isName_all sn _).mono ?_
           rintro e w2 ⟨hE,hbx⟩
           rw [HNB.out] at hE
           subst hE
           refine ⟨_,rfl,?_⟩
           refine hK.out _ _ ⟨(HH.out _ hbx).1,(HH.out _ hbx).2.1,(HH.out _ hbx).2.2.1,(HH.out _ hbx).2.2.2.1,(HH.out _ hbx).2.2.2.2.1,(HH.out _ hbx).2.2.2.2.2⟩ (fun hHeld=>?_)
           clear hK K
           refine nrmq ?_;refine pqr 3 41 ?_;refine pqr 4 41 ?_;refine pqr 5 41 ?_;refine pqr 6 41 ?_;refine tqr6 7 41 hHeld ?_;refine tqr6 8 41 hHeld ?_;refine pqr 9 41 ?_;refine pqr 10 41 ?_;refine pqr 11 41 ?_;refine pqr 12 41 ?_;refine tqr6 13 41 hHeld ?_;refine tqr6 14 41 hHeld ?_;refine pqr 15 41 ?_;refine pqr 16 41 ?_;refine pqr 17 41 ?_;refine pqr 18 41 ?_;refine pqr 19 41 ?_;refine pqr 20 41 ?_;refine pqr 21 41 ?_;refine pbr 23 41 12582911 ?_;refine pbr 24 41 29360127 ?_;refine pbr 25 41 62914559 ?_;refine pbr 26 41 130023423 ?_;refine pbr 27 41 264241151 ?_;refine tbr6 22 41 268435455 hHeld ?_;refine tqr6 28 41 hHeld ?_;refine pqr 29 41 ?_;refine pqr 30 41 ?_;refine pqr 31 41 ?_;refine pqr 32 41 ?_;refine pqu 33 41 ?_;refine pqu 34 41 ?_;refine pqu 35 41 ?_;refine pqu 36 41 ?_;refine pqu 37 41 ?_;refine pqu 38 41 ?_;refine pqu 39 41 ?_;refine pqr 40 41 ?_
           refine done_ (by kernel_rfl) ?_
           clear HH
           have hb7:Below w.heap.size w w2:=below_step hb4d hbx
           go_wp2
           go_ret
           exact ⟨rfl,hb7⟩
          ·obtain ⟨d,hd⟩:∃ d,wrap64 (nx - sa)=d:=⟨_,rfl⟩
           rw [hd] at hfa
           have hd2:IntKind.i64.wrap (nx - sa)=d:=by rw [i64_w];exact hd
           by_cases hz:sz=d
           ·have hyes:fitAt L ST e k=true:=by rw [hfa];simp [hlp,hz]
            have hq1:(sz == d)=true:=beq_iff_eq.2 hz
            have hq2:(sz != d)=false:=by simp [hz]
            clear hfa hd hz
            have hH:∀ w',Below W1.drew.heap.size W1.drew w'→w'.cell? ⟨X,0,none⟩=some (.string sn)∧w'.cell? ⟨X,1,none⟩=some (.int .i64 sa)∧w'.cell? ⟨X,2,none⟩=some (.int .i64 sz)∧(Instr.lookup 177 (.map (some m2)) (.string sn) false).run Tryz.prog w'=.ok (.bool false) w'∧(Instr.lookup 176 (.map (some w.heap.size)) (.int .i64 sa) false).run Tryz.prog w'=.ok (.bool true) w'∧w'.cell? ⟨(ad.add ((k - 1) * 3)).block,(ad.add ((k - 1) * 3)).off+1,none⟩=some (.int .i64 pv):=fun w' h=>by
             have e9:=(h.block X hXl).trans hX5
             exact ⟨(blk_cell e9 0).trans rfl,(blk_cell e9 1).trans rfl,(blk_cell e9 2).trans rfl,hlN w' (hN5.belo h),hlS w' (hS5.belo h),(h.cell (World.block_lt_of_cell? _ _ pv1)).trans pv1⟩
            have HH:=Lib.hid hH
            clear hH
            refine start_ (n:=41) (S:=fun w'=>w'.cell? ⟨X,0,none⟩=some (.string sn)∧w'.cell? ⟨X,1,none⟩=some (.int .i64 sa)∧w'.cell? ⟨X,2,none⟩=some (.int .i64 sz)∧(Instr.lookup 177 (.map (some m2)) (.string sn) false).run Tryz.prog w'=.ok (.bool false) w'∧(Instr.lookup 176 (.map (some w.heap.size)) (.int .i64 sa) false).run Tryz.prog w'=.ok (.bool true) w'∧w'.cell? ⟨(ad.add ((k - 1) * 3)).block,(ad.add ((k - 1) * 3)).off+1,none⟩=some (.int .i64 pv)) (ds:=[]) #[zF,zF,zF,zF,zF,zF,zF,zF,zF,zF,zF,zF,zF,zF,zF,zF,zF,zF,zF,zF,zF,zF,zF,zF,zF,zF,zF,zF,zF,zF,zF,zF,zF,zF,zF,zF,zF,zF,zF,zF,zF] (by kernel_rfl) rfl rfl ⟨(HH.out _ (Below.refl _ _)).1,(HH.out _ (Below.refl _ _)).2.1,(HH.out _ (Below.refl _ _)).2.2.1,(HH.out _ (Below.refl _ _)).2.2.2.1,(HH.out _ (Below.refl _ _)).2.2.2.2.1,(HH.out _ (Below.refl _ _)).2.2.2.2.2⟩ (fun hHeld=>?_)
            refine pqr 0 41 ?_;refine tqr6 1 41 hHeld ?_
            refine one_ (i:=2) (N:=some 52) (fl 41 3) rfl rfl (by kernel_rfl) (by decide) (fun K hK=>?_)
            refine goes_ Tryz.func118 (by kernel_rfl) rfl #[.string sn] (by rfl) rfl rfl (by simp only [List.map_toArray,List.map_cons,List.map_nil];rfl) ?_
            with_reducible refine (isName_all sn _).mono ?_
            rintro e w2 ⟨hE,hbx⟩
            rw [HNB.out] at hE
            subst hE
            refine ⟨_,rfl,?_⟩
            refine hK.out _ _ ⟨(HH.out _ hbx).1,(HH.out _ hbx).2.1,(HH.out _ hbx).2.2.1,(HH.out _ hbx).2.2.2.1,(HH.out _ hbx).2.2.2.2.1,(HH.out _ hbx).2.2.2.2.2⟩ (fun hHeld=>?_)
            clear hK K
            refine nrmq ?_;refine pqr 3 41 ?_;refine pqr 4 41 ?_;refine pqr 5 41 ?_;refine pqr 6 41 ?_;refine tqr6 7 41 hHeld ?_;refine tqr6 8 41 hHeld ?_;refine pqr 9 41 ?_;refine pqr 10 41 ?_;refine pqr 11 41 ?_;refine pqr 12 41 ?_;refine tqr6 13 41 hHeld ?_;refine tqr6 14 41 hHeld ?_;refine pqr 15 41 ?_;refine pqr 16 41 ?_;refine pqr 17 41 ?_;refine pqr 18 41 ?_;refine pqr 19 41 ?_;refine pqr 20 41 ?_;refine pqr 21 41 ?_;refine pbr 23 41 12582911 ?_;refine pbr 24 41 29360127 ?_;refine pbr 25 41 62914559 ?_;refine pbr 26 41 130023423 ?_;refine pbr 27 41 264241151 ?_;refine tbr6 22 41 268435455 hHeld ?_;refine tqr6 28 41 hHeld ?_;refine pqr 29 41 ?_;refine pqr 30 41 ?_;refine pqr 31 41 ?_;refine pqr 32 41 ?_;refine pqr 33 41 ?_;refine pbr 35 41 51539607551 ?_;refine pbr 36 41 120259084287 ?_;refine tbr6 34 41 137438953471 hHeld ?_;refine tqr6 37 41 hHeld ?_;refine pqr 38 41 ?_;refine pqr 39 41 ?_;refine pqr 40 41 ?_
            refine done_ (by kernel_rfl) ?_
            clear HH
            have hb7:Below w.heap.size w w2:=below_step hb4d hbx
            have hN7:=hN5.belo hbx
            have hS7:=hS5.belo hbx
            obtain ⟨w8,hp8,S8,ha8,hs8⟩:=Sm.put mS hN7 sn hok
            have hp8':(Instr.mapUpdate 177 (.map (some m2)) (.string sn) (.bool true)).run Tryz.prog w2=.ok () w8:=hp8
            have c0:w2.cell? ⟨X,0,none⟩=some (.string sn):=(blk_cell ((hbx.block X hXl).trans hX5) 0).trans rfl
            have hm7:w.heap.size < w2.heap.size:=hS7.lt
            go_wp2
            go_roundw
            case rel =>
             refine ⟨k+1,by omega,by go_num,bel_aft hb7 ha8 (by omega) hb7.size,hS7.keep (ha8.block _ hm7 (by omega)),?_,Lib.hid ?_⟩
             ·show Sm keyS okS w8 m2 ((rd_T61 L (k:Int)).f0 :: namesL L k)
              rw [hs]
              exact S8
             ·intro i hi
              rcases Nat.lt_or_ge i k with h | h
              ·exact HF.out i h
              ·obtain rfl:i=k:=by omega
               exact hyes
            case measure=>simp [intOf];omega
           ·have hq1:(sz == d)=false:=beq_eq_false_iff_ne.2 hz
            have hq2:(sz != d)=true:=by simp [hz]
            have hR:R=false:=by rw [← HR.out];exact fit_no hkL (by rw [hST,hfa];simp [hz])
            subst hR
            clear hfa
            clear hd hz
            have hH:∀ w',Below W1.drew.heap.size W1.drew w'→w'.cell? ⟨X,0,none⟩=some (.string sn)∧w'.cell? ⟨X,1,none⟩=some (.int .i64 sa)∧w'.cell? ⟨X,2,none⟩=some (.int .i64 sz)∧(Instr.lookup 177 (.map (some m2)) (.string sn) false).run Tryz.prog w'=.ok (.bool false) w'∧(Instr.lookup 176 (.map (some w.heap.size)) (.int .i64 sa) false).run Tryz.prog w'=.ok (.bool true) w'∧w'.cell? ⟨(ad.add ((k - 1) * 3)).block,(ad.add ((k - 1) * 3)).off+1,none⟩=some (.int .i64 pv):=fun w' h=>by
             have e9:=(h.block X hXl).trans hX5
             exact ⟨(blk_cell e9 0).trans rfl,(blk_cell e9 1).trans rfl,(blk_cell e9 2).trans rfl,hlN w' (hN5.belo h),hlS w' (hS5.belo h),(h.cell (World.block_lt_of_cell? _ _ pv1)).trans pv1⟩
            have HH:=Lib.hid hH
            clear hH
            refine start_ (n:=41) (S:=fun w'=>w'.cell? ⟨X,0,none⟩=some (.string sn)∧w'.cell? ⟨X,1,none⟩=some (.int .i64 sa)∧w'.cell? ⟨X,2,none⟩=some (.int .i64 sz)∧(Instr.lookup 177 (.map (some m2)) (.string sn) false).run Tryz.prog w'=.ok (.bool false) w'∧(Instr.lookup 176 (.map (some w.heap.size)) (.int .i64 sa) false).run Tryz.prog w'=.ok (.bool true) w'∧w'.cell? ⟨(ad.add ((k - 1) * 3)).block,(ad.add ((k - 1) * 3)).off+1,none⟩=some (.int .i64 pv)) (ds:=[]) #[zF,zF,zF,zF,zF,zF,zF,zF,zF,zF,zF,zF,zF,zF,zF,zF,zF,zF,zF,zF,zF,zF,zF,zF,zF,zF,zF,zF,zF,zF,zF,zF,zF,zF,zF,zF,zF,zF,zF,zF,zF] (by kernel_rfl) rfl rfl ⟨(HH.out _ (Below.refl _ _)).1,(HH.out _ (Below.refl _ _)).2.1,(HH.out _ (Below.refl _ _)).2.2.1,(HH.out _ (Below.refl _ _)).2.2.2.1,(HH.out _ (Below.refl _ _)).2.2.2.2.1,(HH.out _ (Below.refl _ _)).2.2.2.2.2⟩ (fun hHeld=>?_)
            refine pqr 0 41 ?_;refine tqr6 1 41 hHeld ?_
            refine one_ (i:=2) (N:=some 52) (fl 41 3) rfl rfl (by kernel_rfl) (by decide) (fun K hK=>?_)
            refine goes_ Tryz.func118 (by kernel_rfl) rfl #[.string sn] (by rfl) rfl rfl (by simp only [List.map_toArray,List.map_cons,List.map_nil];rfl) ?_
            with_reducible refine (isName_all sn _).mono ?_
            rintro e w2 ⟨hE,hbx⟩
            rw [HNB.out] at hE
            subst hE
            refine ⟨_,rfl,?_⟩
            refine hK.out _ _ ⟨(HH.out _ hbx).1,(HH.out _ hbx).2.1,(HH.out _ hbx).2.2.1,(HH.out _ hbx).2.2.2.1,(HH.out _ hbx).2.2.2.2.1,(HH.out _ hbx).2.2.2.2.2⟩ (fun hHeld=>?_)
            clear hK K
            refine nrmq ?_;refine pqr 3 41 ?_;refine pqr 4 41 ?_;refine pqr 5 41 ?_;refine pqr 6 41 ?_;refine tqr6 7 41 hHeld ?_;refine tqr6 8 41 hHeld ?_;refine pqr 9 41 ?_;refine pqr 10 41 ?_;refine pqr 11 41 ?_;refine pqr 12 41 ?_;refine tqr6 13 41 hHeld ?_;refine tqr6 14 41 hHeld ?_;refine pqr 15 41 ?_;refine pqr 16 41 ?_;refine pqr 17 41 ?_;refine pqr 18 41 ?_;refine pqr 19 41 ?_;refine pqr 20 41 ?_;refine pqr 21 41 ?_;refine pbr 23 41 12582911 ?_;refine pbr 24 41 29360127 ?_;refine pbr 25 41 62914559 ?_;refine pbr 26 41 130023423 ?_;refine pbr 27 41 264241151 ?_;refine tbr6 22 41 268435455 hHeld ?_;refine tqr6 28 41 hHeld ?_;refine pqr 29 41 ?_;refine pqr 30 41 ?_;refine pqr 31 41 ?_;refine pqr 32 41 ?_;refine pqr 33 41 ?_;refine pbr 35 41 51539607551 ?_;refine pbr 36 41 120259084287 ?_;refine tbr6 34 41 137438953471 hHeld ?_;refine tqr6 37 41 hHeld ?_;refine pqr 38 41 ?_;refine pqr 39 41 ?_;refine pqr 40 41 ?_
            refine done_ (by kernel_rfl) ?_
            clear HH
            have hb7:Below w.heap.size w w2:=below_step hb4d hbx
            go_wp2
            go_ret
            exact ⟨rfl,hb7⟩
         ·have j5:¬ (0:Int) < (k:Int):=by omega
          obtain ⟨d,hd⟩:∃ d,wrap64 (nx - sa)=d:=⟨_,rfl⟩
          rw [hd] at hfa
          have hd2:IntKind.i64.wrap (nx - sa)=d:=by rw [i64_w];exact hd
          by_cases hz:sz=d
          ·have hyes:fitAt L ST e k=true:=by rw [hfa];simp [hk0,hz]
           have hq1:(sz == d)=true:=beq_iff_eq.2 hz
           have hq2:(sz != d)=false:=by simp [hz]
           clear hfa hd hz
           have hH:∀ w',Below W1.drew.heap.size W1.drew w'→w'.cell? ⟨X,0,none⟩=some (.string sn)∧w'.cell? ⟨X,1,none⟩=some (.int .i64 sa)∧w'.cell? ⟨X,2,none⟩=some (.int .i64 sz)∧(Instr.lookup 177 (.map (some m2)) (.string sn) false).run Tryz.prog w'=.ok (.bool false) w'∧(Instr.lookup 176 (.map (some w.heap.size)) (.int .i64 sa) false).run Tryz.prog w'=.ok (.bool true) w':=fun w' h=>by
            have e9:=(h.block X hXl).trans hX5
            exact ⟨(blk_cell e9 0).trans rfl,(blk_cell e9 1).trans rfl,(blk_cell e9 2).trans rfl,hlN w' (hN5.belo h),hlS w' (hS5.belo h)⟩
           have HH:=Lib.hid hH
           clear hH
           refine start_ (n:=41) (S:=fun w'=>w'.cell? ⟨X,0,none⟩=some (.string sn)∧w'.cell? ⟨X,1,none⟩=some (.int .i64 sa)∧w'.cell? ⟨X,2,none⟩=some (.int .i64 sz)∧(Instr.lookup 177 (.map (some m2)) (.string sn) false).run Tryz.prog w'=.ok (.bool false) w'∧(Instr.lookup 176 (.map (some w.heap.size)) (.int .i64 sa) false).run Tryz.prog w'=.ok (.bool true) w') (ds:=[]) #[zF,zF,zF,zF,zF,zF,zF,zF,zF,zF,zF,zF,zF,zF,zF,zF,zF,zF,zF,zF,zF,zF,zF,zF,zF,zF,zF,zF,zF,zF,zF,zF,zF,zF,zF,zF,zF,zF,zF,zF,zF] (by kernel_rfl) rfl rfl ⟨(HH.out _ (Below.refl _ _)).1,(HH.out _ (Below.refl _ _)).2.1,(HH.out _ (Below.refl _ _)).2.2.1,(HH.out _ (Below.refl _ _)).2.2.2.1,(HH.out _ (Below.refl _ _)).2.2.2.2⟩ (fun hHeld=>?_)
           refine pqr 0 41 ?_;refine tqr5 1 41 hHeld ?_
           refine one_ (i:=2) (N:=some 52) (fl 41 3) rfl rfl (by kernel_rfl) (by decide) (fun K hK=>?_)
           refine goes_ Tryz.func118 (by kernel_rfl) rfl #[.string sn] (by rfl) rfl rfl (by simp only [List.map_toArray,List.map_cons,List.map_nil];rfl) ?_
           with_reducible refine (isName_all sn _).mono ?_
           rintro e w2 ⟨hE,hbx⟩
           rw [HNB.out] at hE
           subst hE
           refine ⟨_,rfl,?_⟩
           refine hK.out _ _ ⟨(HH.out _ hbx).1,(HH.out _ hbx).2.1,(HH.out _ hbx).2.2.1,(HH.out _ hbx).2.2.2.1,(HH.out _ hbx).2.2.2.2⟩ (fun hHeld=>?_)
           clear hK K
           refine nrmq ?_;refine pqr 3 41 ?_;refine pqr 4 41 ?_;refine pqr 5 41 ?_;refine pqr 6 41 ?_;refine tqr5 7 41 hHeld ?_;refine tqr5 8 41 hHeld ?_;refine pqr 9 41 ?_;refine pqr 10 41 ?_;refine pqr 11 41 ?_;refine pqr 12 41 ?_;refine tqr5 13 41 hHeld ?_;refine tqr5 14 41 hHeld ?_;refine pqr 15 41 ?_;refine pqr 16 41 ?_;refine pqr 17 41 ?_;refine pqr 18 41 ?_;refine pqr 19 41 ?_;refine pqr 20 41 ?_;refine pqu 21 41 ?_;refine pqu 22 41 ?_;refine pqu 23 41 ?_;refine pqu 24 41 ?_;refine pqu 25 41 ?_;refine pqu 26 41 ?_;refine pqu 27 41 ?_;refine pqu 28 41 ?_;refine pqu 29 41 ?_;refine pqr 30 41 ?_;refine pqr 31 41 ?_;refine pqr 32 41 ?_;refine pqr 33 41 ?_;refine pbr 35 41 51539607551 ?_;refine pbr 36 41 120259084287 ?_;refine tbr5 34 41 137438953471 hHeld ?_;refine tqr5 37 41 hHeld ?_;refine pqr 38 41 ?_;refine pqr 39 41 ?_;refine pqr 40 41 ?_
           refine done_ (by kernel_rfl) ?_
           clear HH
           have hb7:Below w.heap.size w w2:=below_step hb4d hbx
           have hN7:=hN5.belo hbx
           have hS7:=hS5.belo hbx
           obtain ⟨w8,hp8,S8,ha8,hs8⟩:=Sm.put mS hN7 sn hok
           have hp8':(Instr.mapUpdate 177 (.map (some m2)) (.string sn) (.bool true)).run Tryz.prog w2=.ok () w8:=hp8
           have c0:w2.cell? ⟨X,0,none⟩=some (.string sn):=(blk_cell ((hbx.block X hXl).trans hX5) 0).trans rfl
           have hm7:w.heap.size < w2.heap.size:=hS7.lt
           go_wp2
           go_roundw
           case rel =>
            refine ⟨k+1,by omega,by go_num,bel_aft hb7 ha8 (by omega) hb7.size,hS7.keep (ha8.block _ hm7 (by omega)),?_,Lib.hid ?_⟩
            ·show Sm keyS okS w8 m2 ((rd_T61 L (k:Int)).f0 :: namesL L k)
             rw [hs]
             exact S8
            ·intro i hi
             rcases Nat.lt_or_ge i k with h | h
             ·exact HF.out i h
             ·obtain rfl:i=k:=by omega
              exact hyes
           case measure=>simp [intOf];omega
          ·have hq1:(sz == d)=false:=beq_eq_false_iff_ne.2 hz
           have hq2:(sz != d)=true:=by simp [hz]
           have hR:R=false:=by rw [← HR.out];exact fit_no hkL (by rw [hST,hfa];simp [hz])
           subst hR
           clear hfa
           clear hd hz
           have hH:∀ w',Below W1.drew.heap.size W1.drew w'→w'.cell? ⟨X,0,none⟩=some (.string sn)∧w'.cell? ⟨X,1,none⟩=some (.int .i64 sa)∧w'.cell? ⟨X,2,none⟩=some (.int .i64 sz)∧(Instr.lookup 177 (.map (some m2)) (.string sn) false).run Tryz.prog w'=.ok (.bool false) w'∧(Instr.lookup 176 (.map (some w.heap.size)) (.int .i64 sa) false).run Tryz.prog w'=.ok (.bool true) w':=fun w' h=>by
            have e9:=(h.block X hXl).trans hX5
            exact ⟨(blk_cell e9 0).trans rfl,(blk_cell e9 1).trans rfl,(blk_cell e9 2).trans rfl,hlN w' (hN5.belo h),hlS w' (hS5.belo h)⟩
           have HH:=Lib.hid hH
           clear hH
           refine start_ (n:=41) (S:=fun w'=>w'.cell? ⟨X,0,none⟩=some (.string sn)∧w'.cell? ⟨X,1,none⟩=some (.int .i64 sa)∧w'.cell? ⟨X,2,none⟩=some (.int .i64 sz)∧(Instr.lookup 177 (.map (some m2)) (.string sn) false).run Tryz.prog w'=.ok (.bool false) w'∧(Instr.lookup 176 (.map (some w.heap.size)) (.int .i64 sa) false).run Tryz.prog w'=.ok (.bool true) w') (ds:=[]) #[zF,zF,zF,zF,zF,zF,zF,zF,zF,zF,zF,zF,zF,zF,zF,zF,zF,zF,zF,zF,zF,zF,zF,zF,zF,zF,zF,zF,zF,zF,zF,zF,zF,zF,zF,zF,zF,zF,zF,zF,zF] (by kernel_rfl) rfl rfl ⟨(HH.out _ (Below.refl _ _)).1,(HH.out _ (Below.refl _ _)).2.1,(HH.out _ (Below.refl _ _)).2.2.1,(HH.out _ (Below.refl _ _)).2.2.2.1,(HH.out _ (Below.refl _ _)).2.2.2.2⟩ (fun hHeld=>?_)
           refine pqr 0 41 ?_;refine tqr5 1 41 hHeld ?_
           refine one_ (i:=2) (N:=some 52) (fl 41 3) rfl rfl (by kernel_rfl) (by decide) (fun K hK=>?_)
           refine goes_ Tryz.func118 (by kernel_rfl) rfl #[.string sn] (by rfl) rfl rfl (by simp only [List.map_toArray,List.map_cons,List.map_nil];rfl) ?_
           with_reducible refine (isName_all sn _).mono ?_
           rintro e w2 ⟨hE,hbx⟩
           rw [HNB.out] at hE
           subst hE
           refine ⟨_,rfl,?_⟩
           refine hK.out _ _ ⟨(HH.out _ hbx).1,(HH.out _ hbx).2.1,(HH.out _ hbx).2.2.1,(HH.out _ hbx).2.2.2.1,(HH.out _ hbx).2.2.2.2⟩ (fun hHeld=>?_)
           clear hK K
           refine nrmq ?_;refine pqr 3 41 ?_;refine pqr 4 41 ?_;refine pqr 5 41 ?_;refine pqr 6 41 ?_;refine tqr5 7 41 hHeld ?_;refine tqr5 8 41 hHeld ?_;refine pqr 9 41 ?_;refine pqr 10 41 ?_;refine pqr 11 41 ?_;refine pqr 12 41 ?_;refine tqr5 13 41 hHeld ?_;refine tqr5 14 41 hHeld ?_;refine pqr 15 41 ?_;refine pqr 16 41 ?_;refine pqr 17 41 ?_;refine pqr 18 41 ?_;refine pqr 19 41 ?_;refine pqr 20 41 ?_;refine pqu 21 41 ?_;refine pqu 22 41 ?_;refine pqu 23 41 ?_;refine pqu 24 41 ?_;refine pqu 25 41 ?_;refine pqu 26 41 ?_;refine pqu 27 41 ?_;refine pqu 28 41 ?_;refine pqu 29 41 ?_;refine pqr 30 41 ?_;refine pqr 31 41 ?_;refine pqr 32 41 ?_;refine pqr 33 41 ?_;refine pbr 35 41 51539607551 ?_;refine pbr 36 41 120259084287 ?_;refine tbr5 34 41 137438953471 hHeld ?_;refine tqr5 37 41 hHeld ?_;refine pqr 38 41 ?_;refine pqr 39 41 ?_;refine pqr 40 41 ?_
           refine done_ (by kernel_rfl) ?_
           clear HH
           have hb7:Below w.heap.size w w2:=below_step hb4d hbx
           go_wp2
           go_ret
           exact ⟨rfl,hb7⟩
    ·obtain rfl:k=n1:=by omega
     have hR:R=true:=by rw [← HR.out];exact fit_yes (fun i hi=>by rw [hST];exact HF.out i (by omega))
     subst hR
     go_wp2
     go_ret
     exact ⟨rfl,hb⟩
end Go.Proofs.YtffojmgmpfjlhaaGreatDoor
