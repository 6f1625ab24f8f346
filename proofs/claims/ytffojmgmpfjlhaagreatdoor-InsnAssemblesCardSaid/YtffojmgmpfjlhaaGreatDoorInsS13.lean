/- Parts of the proof: see the last text -/
import Derived.Test.YtffojmgmpfjlhaaGreatDoorInsS12
set_option maxHeartbeats 16000000
set_option maxRecDepth 100000
set_option linter.unusedVariables false
set_option linter.unusedSimpArgs false
namespace Go.Proofs.YtffojmgmpfjlhaaGreatDoor
open Go.RowKit Go.Proofs.Ix YtffojmgmpfjlhaaGreatDoorW.PrintWords YtffojmgmpfjlhaaGreatDoorW.PrintLast
def Az.def_ (z:Az) (s:ByteArray):Except Int Az:=if s.size=0 then .ok z else match lookB z.labels s with | some _=>.error 23 | none=>.ok { z with labels:=z.labels ++ [(s,z.size)] }
def Az.push (z:Az) (l:L9):Except Int Az :=
 if 2048 < z.size+lenM (formM l.op) then .error 2 else .ok { z with list:=z.list ++ [⟨l,z.no,z.size⟩],size:=z.size+lenM (formM l.op) }
def Az.dirRow (z:Az) (n:ByteArray):Except Int Az :=
 match lookB z.labels n with
 | some _=>.error 23
 | none=>if 32 < z.funcs.length+1 then .error 2 else .ok { z with labels:=z.labels ++ [(n,z.size)],funcs:=z.funcs ++ [n] }
def Az.rest (z:Az) (label:ByteArray) (l:L9):Except Int Az :=
 if l.at_=l.s.size then z.def_ label
 else match l.instr with
  | none=>.error 22
  | some li=>match z.def_ label with
   | .error e=>.error e
   | .ok z1=>z1.push li
def Az.row (z:Az) (no:Nat) (s:ByteArray):Except Int Az :=
 let p:=(L9.new s true).nm
 if p.1.size=0 then
  match p.2.sk.dir with
  | none=>.error 22
  | some (some n,_)=>Az.dirRow { z with no:=no } n
  | some (none,l)=>Az.rest { z with no:=no } ⟨#[]⟩ l
 else Az.rest { z with no:=no } p.1 p.2.sk
def RowOut (B:Nat) (w:World) (A m no:Nat) (r:Except Int Az) (x:Ending) (w':World):Prop :=
 match r with
 | .error e=>x=.panicked (thrown e)∧w'.cell? ⟨A,0,none⟩=some (.int .i64 (no:Int))∧Blo A m B w w'
 | .ok z'=>x=.returned (.tuple #[])∧∃ vl vf,AW B w' A m z' vl vf∧Blo A m B w w'
theorem out_err {B A m no:Nat} {w w':World} {z:Az} {vl vf:Value} (h:AW B w' A m z vl vf) (hn:z.no=no) (hb:Blo A m B w w') (e:Int):RowOut B w A m no (.error e) (.panicked (thrown e)) w' :=
 ⟨rfl,by rw [← hn];exact (blk_cell h.blk 0).trans rfl,hb⟩
theorem AW.setNo {B A m:Nat} {w:World} {z:Az} {vl vf:Value} (h:AW B w A m z vl vf) (no:Nat):AW B (w.setCell ⟨A,0,none⟩ (.int .i64 (no:Int))) A m { z with no:=no } vl vf:=by
 have hk:∀ (g:Nat),g≠A→(w.setCell ⟨A,0,none⟩ (.int .i64 (no:Int))).heap[g]?=w.heap[g]?:=fun g hg=>Below.heap_setCell _ _ _ _ (by exact hg)
 have hne:∀ (g:Nat) (o:Obj),w.heap[g]?=some o→(∀ cs,o≠Obj.cells cs 123 (0,0))→g≠A:=by
  rintro g o hg ho rfl
  rw [h.blk] at hg
  cases hg
  exact ho _ rfl
 obtain ⟨es,c,hm,_⟩:=h.map
 exact ⟨blk_put h.blk 0 _ rfl,own_keep h.list fun g c e=>hk g (hne g _ e (fun cs e=>by cases e)),own_keep h.funcs fun g c e=>hk g (hne g _ e (fun cs e=>by cases e)),h.map.keep (hk m (hne m _ hm (fun cs e=>by cases e))),h.dist,
  h.gw.setCell (by exact h.bA) _,h.b9,h.bA,h.bm,Nat.le_trans h.bB (by simp [World.setCell]),h.s1,h.s2,h.s3⟩
section
variable {b:Nat} {w0 w:World} {l:L9}
theorem instr_s (ha:At b w0 w l) (l':L9) (hr:l.instr=some l'):Calls Tryz.prog 69 #[pt b] w fun x w'=>x=.returned (.tuple #[])∧At b w0 w' l':=by
 have h:=instruction_any b w0 w l ha
 rw [hr] at h
 exact h
theorem instr_n (ha:At b w0 w l) (hr:l.instr=none):Calls Tryz.prog 69 #[pt b] w fun x w'=>x=.panicked (thrown 22)∧Aft b w0 w':=by
 have h:=instruction_any b w0 w l ha
 rw [hr] at h
 exact h
theorem dir_n (ha:At b w0 w l) (hr:l.dir=none):Calls Tryz.prog 113 #[pt b] w fun x w'=>x=.panicked (thrown 22)∧Aft b w0 w':=by
 have h:=directive_any b w0 w l ha
 rw [hr] at h
 exact h
theorem dir_s (ha:At b w0 w l) (n:ByteArray) (l':L9) (hr:l.dir=some (some n,l')):Calls Tryz.prog 113 #[pt b] w fun x w'=>x=.returned (.tuple #[.string n,.bool true])∧At b w0 w' l':=by
 have h:=directive_any b w0 w l ha
 rw [hr] at h
 exact h
theorem dir_f (ha:At b w0 w l) (l':L9) (hr:l.dir=some (none,l')):Calls Tryz.prog 113 #[pt b] w fun x w'=>x=.returned (.tuple #[.string ⟨#[]⟩,.bool false])∧At b w0 w' l':=by
 have h:=directive_any b w0 w l ha
 rw [hr] at h
 exact h
end
theorem nm_size {l:L9} (h:l.s.size≤1000000):l.nm.1.size≤1000000:=by
 unfold L9.nm
 have h0:(⟨#[]⟩:ByteArray).size≤1000000:=by decide
 split
 ·split
  ·exact wdS_size _ h
  ·exact h0
 ·exact h0
theorem dir_size {l l':L9} {n:ByteArray} (h:l.s.size≤1000000) (hd:l.dir=some (some n,l')):n.size≤1000000:=by
 unfold L9.dir at hd
 split at hd
 ·unfold L9.dir2 at hd
  split at hd
  ·split at hd
   ·split at hd
    ·cases hd
     exact wdS_size _ h
    ·cases hd
   ·cases hd
  ·cases hd
 ·cases hd
theorem row_any (B:Nat) (w:World) (A m:Nat) (z:Az) (vl vf:Value) (no:Nat) (s:ByteArray) (h:AW B w A m z vl vf) (hs:s.size≤1000000) (hz:z.size≤2048) (hf:z.funcs.length≤32) (hl:z.list.length≤20000) :
  Calls Tryz.prog 73 #[pt A,.int .i64 (no:Int),.string s] w (RowOut B w A m no (z.row no s)):=by
 have hc0:w.cell? ⟨A,0,none⟩=some (.int .i64 (z.no:Int)):=(blk_cell h.blk 0).trans rfl
 have hf0:w.frozen? ⟨A,0,none⟩=false:=blk_frozen h.blk 0
 have H0:=h.setNo no
 obtain ⟨W1,hW1⟩:∃ W1,W1=(w.setCell ⟨A,0,none⟩ (.int .i64 (no:Int))).alloc (.cells (L9.new s true).cs 113):=⟨_,rfl⟩
 have hAW1:AW B W1 A m { z with no:=no } vl vf:=by rw [hW1];exact H0.below ((Below.refl _ _).alloc (Nat.le_refl _) _)
 have hsz:(w.setCell ⟨A,0,none⟩ (.int .i64 (no:Int))).heap.size=w.heap.size:=by simp [World.setCell]
 have hat1:At w.heap.size W1 W1 (L9.new s true):=by
  refine ⟨?_,Aft.refl _ _,hAW1.gw,by have:=h.gw.size;omega,hs,Nat.zero_le _⟩
  have:=heap_own (w.setCell ⟨A,0,none⟩ (.int .i64 (no:Int))) (.cells (L9.new s true).cs 113)
  rw [hsz] at this
  rw [hW1]
  exact this
 have hBs:Blo A m B w W1:=by rw [hW1];exact ((Blo.refl A m B w).setA 0 _).alloc _
 have hBb:B≤w.heap.size:=h.bB
 obtain ⟨p,hp⟩:∃ p,(L9.new s true).nm=p:=⟨_,rfl⟩
 have hps:p.1.size≤1000000:=by rw [← hp];exact nm_size hs
 unfold Az.row
 rw [hp]
 dsimp only
 have HNM:=Lib.hid hp
 clear hp
 obtain ⟨lab,l1⟩:=p
 dsimp only at hps ⊢
 obtain ⟨R,hR⟩:∃ R,(if lab.size=0 then (match l1.sk.dir with | none=>.error 22 | some (some n,_)=>Az.dirRow { z with no:=no } n | some (none,l)=>Az.rest { z with no:=no } ⟨#[]⟩ l) else Az.rest { z with no:=no } lab l1.sk:Except Int Az)=R:=⟨_,rfl⟩
 have hR0:=hR
 show Calls _ _ _ _ (RowOut B w A m no _)
 rw [hR0]
 clear hR0
 go_enter Tryz.func73,Tryz.ntmps73
 go_upto_region 2 with fail
 simp only [show (w.setCell ⟨A,0,none⟩ (.int .i64 (no:Int))).alloc (.cells #[.string s,.int .i64 0,.bool true,.int .i64 0,.int .i64 0,.int .i64 0,.int .i64 0,.string ⟨#[]⟩,.bool false] 113)=W1 from hW1.symm]
 obtain ⟨b,hb⟩:∃ b,w.heap.size=b:=⟨_,rfl⟩
 simp only [hb] at hat1 hBb ⊢
 clear hc0 hf0 H0 hsz hb hW1
 go_upto_region 4 with (first | (go_at_call 112;refine (name_any _ _ _ _ (by assumption)).mono ?_;rw [HNM.out];rintro e w1 ⟨rfl,ha1⟩) | (go_at_call 97;refine (blanks_k (by assumption)).mono ?_;rintro e w1 ⟨rfl,ha1⟩))
 have hx1:At b W1 w1 l1.sk:=by assumption
 have HA1:AW B w1 A m { z with no:=no } vl vf:=hAW1.aft hat1.ln hat1.b9 hx1.aft
 have hB1:Blo A m B w w1:=hBs.aft hx1.aft (.inl hBb)
 by_cases hlab:lab.size=0
 ·rw [if_pos hlab] at hR
  obtain rfl:lab=⟨#[]⟩:=by
   obtain ⟨⟨l⟩⟩:=lab
   cases l with
   | nil=>rfl
   | cons c t=>exact absurd hlab (Nat.succ_ne_zero _)
  clear hlab
  cases hd:l1.sk.dir with
  | none =>
   rw [hd] at hR
   subst hR
   have HD:=Lib.hid hd
   clear hd
   go_wp2_with (go_at_call 113;refine (dir_n (by assumption) HD.out).mono ?_;rintro e w2 ⟨rfl,ha2⟩)
   exact ⟨rfl,out_err (hAW1.aft hat1.ln hat1.b9 ha2) rfl (hBs.aft ha2 (.inl hBb)) 22⟩
  | some q =>
   obtain ⟨on,l3⟩:=q
   cases on with
   | none =>
    rw [hd] at hR
    dsimp only at hR
    have HD:=Lib.hid hd
    have HR:=Lib.hid hR
    clear hd hR
    go_upto_region 11 with (go_at_call 113;refine (dir_f (by assumption) l3 HD.out).mono ?_;rintro e w2 ⟨rfl,ha2⟩)
    have hx2:At b W1 w2 l3:=by assumption
    have HA2:AW B w2 A m { z with no:=no } vl vf:=hAW1.aft hat1.ln hat1.b9 hx2.aft
    have hB2:Blo A m B w w2:=hBs.aft hx2.aft (.inl hBb)
    have hR:=HR.out
    have g02:w2.cell? ⟨b,0,none⟩=some (.string (l3).s):=hx2.ln.c0
    obtain ⟨e,he⟩:∃ e,(l3).at_=e:=⟨_,rfl⟩
    have g12:w2.cell? ⟨b,1,none⟩=some (.int .i64 (e:Int)):=by rw [← he];exact hx2.ln.c1
    by_cases hes:e=(l3).s.size
    ·have hR1:Az.def_ { z with no:=no } ⟨#[]⟩=R:=by rw [← hR];unfold Az.rest;rw [if_pos (he.trans hes)]
     clear hR he
     subst hes
     have hR2:R=.ok { z with no:=no }:=by rw [← hR1];rfl
     subst hR2
     clear hR1
     go_wp2
     exact ⟨rfl,.tuple #[],results_none rfl _ _ _,rfl,vl,vf,HA2,hB2⟩
    ·have h2:(e == (l3).s.size)=false:=beq_eq_false_iff_ne.2 hes
     have h3:((e:Int) == ((l3).s.size:Int))=false:=beq_eq_false_iff_ne.2 (by omega)
     have hR1:(match L9.instr (l3) with | none=>.error 22 | some li=>match Az.def_ { z with no:=no } ⟨#[]⟩ with | .error e=>.error e | .ok z1=>z1.push li)=R:=by rw [← hR];unfold Az.rest;rw [if_neg (by rw [he];exact hes)]
     clear hR he hes
     cases hin:L9.instr (l3) with
     | none =>
      rw [hin] at hR1
      subst hR1
      have HIN:=Lib.hid hin
      clear hin
      go_wp2_with (go_at_call 69;refine (instr_n (by assumption) HIN.out).mono ?_;rintro e w5 ⟨rfl,ha5⟩)
      exact ⟨rfl,out_err (hAW1.aft hat1.ln hat1.b9 ha5) rfl (hBs.aft ha5 (.inl hBb)) 22⟩
     | some li =>
      rw [hin] at hR1
      have HIN:=Lib.hid hin
      clear hin
      have IN:=fun (ha:At b W1 w2 (l3))=>instr_s ha li HIN.out
      have hR2:Az.push { z with no:=no } li=R:=by rw [← hR1];rfl
      clear hR1 IN
      go_upto_region 17 with (go_at_call 69;refine (instr_s (by assumption) li HIN.out).mono ?_;rintro e w5 ⟨rfl,ha5⟩)
      have hx5:At b W1 w5 li:=by assumption
      have HA5:AW B w5 A m { z with no:=no } vl vf:=hAW1.aft hat1.ln hat1.b9 hx5.aft
      have hB5:Blo A m B w w5:=hBs.aft hx5.aft (.inl hBb)
      have hln:=hx5.ln
      have hA:=HA5
      have hBx:=hB5
      have hlA:=hA.ltA
      have hlB:=hln.lt
      have hS:∀ w':World,w'.heap[A]?=w5.heap[A]?→w'.heap[b]?=w5.heap[b]?→(fun w'=>w'.cell? ⟨A,2,none⟩=some vl∧w'.cell? ⟨A,1,none⟩=some (.int .i64 (z.size:Int))∧w'.cell? ⟨b,0,none⟩=some (.string li.s)∧w'.cell? ⟨b,1,none⟩=some (.int .i64 (li.at_:Int))∧w'.cell? ⟨b,2,none⟩=some (.bool li.labels)∧w'.cell? ⟨b,3,none⟩=some (.int .i64 li.op)∧w'.cell? ⟨b,4,none⟩=some (.int .i64 li.a)∧w'.cell? ⟨b,5,none⟩=some (.int .i64 li.b)∧w'.cell? ⟨b,6,none⟩=some (.int .i64 li.imm)∧w'.cell? ⟨b,7,none⟩=some (.string li.label)∧w'.cell? ⟨b,8,none⟩=some (.bool li.far)) w':=fun w' e1 e2 =>
       have k1:=e1.trans hA.blk
       have k2:Ln w' b li:=e2.trans hln
       ⟨(blk_cell k1 2).trans rfl,(blk_cell k1 1).trans rfl,k2.c0,k2.c1,k2.c2,k2.c3,k2.c4,k2.c5,k2.c6,k2.c7,k2.c8⟩
      obtain ⟨d1,d2,d3,d4,d5,d6,d7,d8,d9,d10,d11⟩:=hS w5.drew rfl rfl
      obtain ⟨i17,hi,hz0,hz1,hz2⟩:=info_parts info173
      have hA9:=fun (_:Unit)=>hA.drew.below ((Below.refl _ _).alloc (Nat.le_refl _) (.cells #[.string li.s,.int .i64 (li.at_:Int),.bool li.labels,.int .i64 li.op,.int .i64 li.a,.int .i64 li.b,.int .i64 li.imm,.string li.label,.bool li.far,.int .i64 (no:Int),.int .i64 (z.size:Int)] 173))
      have N1:Unit→∀ j u,(En.cs ⟨li,no,z.size⟩)[j]?=some u→(w5.drew.alloc (.cells #[.string li.s,.int .i64 (li.at_:Int),.bool li.labels,.int .i64 li.op,.int .i64 li.a,.int .i64 li.b,.int .i64 li.imm,.string li.label,.bool li.far,.int .i64 (no:Int),.int .i64 (z.size:Int)] 173)).cell? ((⟨w5.heap.size,0,none⟩:Addr).add j)=some u:=fun _=>World.news_of_block (cs:=#[.string li.s,.int .i64 (li.at_:Int),.bool li.labels,.int .i64 li.op,.int .i64 li.a,.int .i64 li.b,.int .i64 li.imm,.string li.label,.bool li.far,.int .i64 (no:Int),.int .i64 (z.size:Int)]) (heap_own w5.drew _)
      have N2:Unit→∀ u∈En.cs ⟨li,no,z.size⟩,u.oneCell'=true:=fun _ u hu=>by
       simp only [En.cs,L9.cs,List.cons_append,List.nil_append,List.mem_cons,List.not_mem_nil,or_false] at hu
       rcases hu with rfl | rfl | rfl | rfl | rfl | rfl | rfl | rfl | rfl | rfl | rfl <;> rfl
      have n3:z.list.length+1≤maxLen:=by unfold maxLen;omega
      have n4:(z.list.length+1) * 104≤140737488355328:=by omega
      have n5:B≤(w5.drew.alloc (.cells #[.string li.s,.int .i64 (li.at_:Int),.bool li.labels,.int .i64 li.op,.int .i64 li.a,.int .i64 li.b,.int .i64 li.imm,.string li.label,.bool li.far,.int .i64 (no:Int),.int .i64 (z.size:Int)] 173)).heap.size:=(hA9 ()).bB
      refine start_ (n:=17) (S:=fun w'=>w'.cell? ⟨A,2,none⟩=some vl∧w'.cell? ⟨A,1,none⟩=some (.int .i64 (z.size:Int))∧w'.cell? ⟨b,0,none⟩=some (.string li.s)∧w'.cell? ⟨b,1,none⟩=some (.int .i64 (li.at_:Int))∧w'.cell? ⟨b,2,none⟩=some (.bool li.labels)∧w'.cell? ⟨b,3,none⟩=some (.int .i64 li.op)∧w'.cell? ⟨b,4,none⟩=some (.int .i64 li.a)∧w'.cell? ⟨b,5,none⟩=some (.int .i64 li.b)∧w'.cell? ⟨b,6,none⟩=some (.int .i64 li.imm)∧w'.cell? ⟨b,7,none⟩=some (.string li.label)∧w'.cell? ⟨b,8,none⟩=some (.bool li.far)) (ds:=[16]) #[zF,zF,zF,zF,zF,zF,zF,zF,zF,zF,zF,zF,zF,zF,zF,zF,zF] (by kernel_rfl) rfl rfl ⟨d1,d2,d3,d4,d5,d6,d7,d8,d9,d10,d11⟩ (fun hHeld=>?_)
      refine pq (i:=0) (N:=some 62) #[zT,zF,zF,zF,zF,zF,zF,zF,zF,zF,zF,zF,zF,zF,zF,zF,zF] rfl rfl ?_
      refine pq (i:=1) (N:=some 63) #[zT,zT,zF,zF,zF,zF,zF,zF,zF,zF,zF,zF,zF,zF,zF,zF,zF] rfl rfl ?_
      refine pq (i:=2) (N:=some 64) #[zT,zT,zT,zF,zF,zF,zF,zF,zF,zF,zF,zF,zF,zF,zF,zF,zF] rfl rfl ?_
      refine pq (i:=3) (N:=some 65) #[zT,zT,zT,zT,zF,zF,zF,zF,zF,zF,zF,zF,zF,zF,zF,zF,zF] rfl rfl ?_
      refine pq (i:=6) (N:=some 68) #[zT,zT,zT,zT,zF,zF,zT,zF,zF,zF,zF,zF,zF,zF,zF,zF,zF] rfl rfl ?_
      refine pq (i:=7) (N:=some 69) #[zT,zT,zT,zT,zF,zF,zT,zT,zF,zF,zF,zF,zF,zF,zF,zF,zF] rfl rfl ?_
      refine pq (i:=8) (N:=some 70) #[zT,zT,zT,zT,zF,zF,zT,zT,zT,zF,zF,zF,zF,zF,zF,zF,zF] rfl rfl ?_
      refine pq (i:=9) (N:=some 71) #[zT,zT,zT,zT,zF,zF,zT,zT,zT,zT,zF,zF,zF,zF,zF,zF,zF] rfl rfl ?_
      refine tq11 (i:=4) (N:=some 66) #[zT,zT,zT,zT,zT,zF,zT,zT,zT,zT,zF,zF,zF,zF,zF,zF,zF] rfl rfl hHeld ?_
      refine tq11 (i:=5) (N:=some 67) #[zT,zT,zT,zT,zT,zT,zT,zT,zT,zT,zF,zF,zF,zF,zF,zF,zF] rfl rfl hHeld ?_
      refine tq11 (i:=10) (N:=some 72) #[zT,zT,zT,zT,zT,zT,zT,zT,zT,zT,zT,zF,zF,zF,zF,zF,zF] rfl rfl hHeld ?_
      refine pq (i:=11) (N:=some 73) #[zT,zT,zT,zT,zT,zT,zT,zT,zT,zT,zT,zT,zF,zF,zF,zF,zF] rfl rfl ?_
      refine one_ (i:=12) (N:=some 74) #[zT,zT,zT,zT,zT,zT,zT,zT,zT,zT,zT,zT,zT,zF,zF,zF,zF] rfl rfl (by kernel_rfl) (by decide) (fun K hK=>?_)
      refine value_ (w1:=?_) (v:=?_) (by rfl) rfl ?_ ?_
      rotate_left 2
      ·go_simp
       constructor
       ·rfl
       ·rfl
      refine hK.out _ _ ⟨(hS _ (Below.heap_alloc _ _ _ hlA) (Below.heap_alloc _ _ _ hlB)).1,(hS _ (Below.heap_alloc _ _ _ hlA) (Below.heap_alloc _ _ _ hlB)).2.1,(hS _ (Below.heap_alloc _ _ _ hlA) (Below.heap_alloc _ _ _ hlB)).2.2.1,(hS _ (Below.heap_alloc _ _ _ hlA) (Below.heap_alloc _ _ _ hlB)).2.2.2.1,(hS _ (Below.heap_alloc _ _ _ hlA) (Below.heap_alloc _ _ _ hlB)).2.2.2.2.1,(hS _ (Below.heap_alloc _ _ _ hlA) (Below.heap_alloc _ _ _ hlB)).2.2.2.2.2.1,(hS _ (Below.heap_alloc _ _ _ hlA) (Below.heap_alloc _ _ _ hlB)).2.2.2.2.2.2.1,(hS _ (Below.heap_alloc _ _ _ hlA) (Below.heap_alloc _ _ _ hlB)).2.2.2.2.2.2.2.1,(hS _ (Below.heap_alloc _ _ _ hlA) (Below.heap_alloc _ _ _ hlB)).2.2.2.2.2.2.2.2.1,(hS _ (Below.heap_alloc _ _ _ hlA) (Below.heap_alloc _ _ _ hlB)).2.2.2.2.2.2.2.2.2.1,(hS _ (Below.heap_alloc _ _ _ hlA) (Below.heap_alloc _ _ _ hlB)).2.2.2.2.2.2.2.2.2.2⟩ (fun hHeld=>?_)
      clear hK K
      refine nrmq ?_
      refine one_ (i:=13) (N:=some 75) #[zT,zT,zT,zT,zT,zT,zT,zT,zT,zT,zT,zT,zT,zT,zF,zF,zF] rfl rfl (by kernel_rfl) (by decide) (fun K hK=>?_)
      refine step_append_lies _ (by rfl) _ _ 121 (by rfl) B 173 i17 (.agg #[.string ⟨#[]⟩,.int .i64 0,.bool false,.int .i64 0,.int .i64 0,.int .i64 0,.int .i64 0,.string ⟨#[]⟩,.bool false,.int .i64 0,.int .i64 0]) 11 104 Tryz.underlying121 hi hz0 hz1 hz2 (by rfl) (by decide) vl z.list.length (rowE z.list) (by rfl) (hA9 ()).list ⟨w5.heap.size,0,none⟩ 1 1 (En.cs ⟨li,no,z.size⟩) (by rfl) (by rfl) (N1 ()) (N2 ()) (by decide) n3 n4 n5 _ (by rfl) ?_
      intro g cap w9 hown hgrow hat hlt
      obtain ⟨p0,p2⟩:=(hA9 ()).pushE hgrow ⟨li,no,z.size⟩ g cap hown hl
      have p1:w9.heap[A]?=w5.heap[A]?:=p0.trans (Below.heap_alloc _ _ _ hlA)
      have p3:w9.heap[b]?=w5.heap[b]?:=(hgrow.block b (by show b < (w5.drew.heap.push _).size;simp;omega) (fun e=>by obtain ⟨c,hc⟩:=own_type (hA9 ()).list e.symm;have h1:=(Below.heap_alloc w5.drew (.cells #[.string li.s,.int .i64 (li.at_:Int),.bool li.labels,.int .i64 li.op,.int .i64 li.a,.int .i64 li.b,.int .i64 li.imm,.string li.label,.bool li.far,.int .i64 (no:Int),.int .i64 (z.size:Int)] 173) _ hlB).trans hln;unfold Ln at h1;rw [h1] at hc;cases hc)).trans (Below.heap_alloc _ _ _ hlB)
      have q2:=(hS w9 p1 p3).1
      have q3:w9.frozen? ⟨A,2,none⟩=false:=(World.frozen?_of_block (w:=w5) p1).trans (blk_frozen hA.blk 2)
      refine hK.out _ _ ⟨(hS _ p1 p3).1,(hS _ p1 p3).2.1,(hS _ p1 p3).2.2.1,(hS _ p1 p3).2.2.2.1,(hS _ p1 p3).2.2.2.2.1,(hS _ p1 p3).2.2.2.2.2.1,(hS _ p1 p3).2.2.2.2.2.2.1,(hS _ p1 p3).2.2.2.2.2.2.2.1,(hS _ p1 p3).2.2.2.2.2.2.2.2.1,(hS _ p1 p3).2.2.2.2.2.2.2.2.2.1,(hS _ p1 p3).2.2.2.2.2.2.2.2.2.2⟩ (fun hHeld=>?_)
      clear hK K
      refine nrmq ?_
      refine pq (i:=14) (N:=some 76) #[zT,zT,zT,zT,zT,zT,zT,zT,zT,zT,zT,zT,zT,zT,zT,zF,zF] rfl rfl ?_
      refine pq (i:=15) (N:=some 77) #[zT,zT,zT,zT,zT,zT,zT,zT,zT,zT,zT,zT,zT,zT,zT,zT,zF] rfl rfl ?_
      refine last_ (i:=16) (N:=none) #[zT,zT,zT,zT,zT,zT,zT,zT,zT,zT,zT,zT,zT,zT,zT,zT,zT] rfl rfl (by kernel_rfl) (by decide) (fun K hK=>?_)
      refine skip_ (w1:=?_) (by rfl) rfl ?_ ?_
      rotate_left
      ·go_simp
       rfl
      refine hK.out _ _ ?_
      clear hK K
      refine done_ (by kernel_rfl) ?_
      have hBy:Blo A m B w (w9.setCell ⟨A,2,none⟩ (.slice (some ⟨g,0,none⟩) (z.list.length+1) cap)):=((hBx.drew.alloc _).grown hgrow (fun k hk=>((hA9 ()).list.lt k hk).1)).setA 2 _
      have hnA:b≠A:=by rintro rfl;have h1:=hA.blk;unfold Ln at hln;rw [hln] at h1;cases h1
      have hlY:Ln (w9.setCell ⟨A,2,none⟩ (.slice (some ⟨g,0,none⟩) (z.list.length+1) cap)) b li:=((Below.heap_setCell _ _ _ _ (by exact hnA)).trans p3).trans hln
      generalize w9.setCell ⟨A,2,none⟩ (.slice (some ⟨g,0,none⟩) (z.list.length+1) cap)=W at p2 hBy hlY ⊢
      clear hS d1 d2 d3 d4 d5 d6 d7 d8 d9 d10 d11 hA9 N1 N2
      have e1:W.cell? ⟨A,1,none⟩=some (.int .i64 (z.size:Int)):=(blk_cell p2.blk 1).trans rfl
      have e2:W.cell? ⟨b,3,none⟩=some (.int .i64 li.op):=hlY.c3
      have e3:W.frozen? ⟨A,1,none⟩=false:=blk_frozen p2.blk 1
      have hlA2:=p2.ltA
      have hlB2:=hlY.lt
      have hlb:=lenM_bd (formM li.op)
      obtain ⟨ln,hln2⟩:∃ ln,lenM (formM li.op)=ln:=⟨_,rfl⟩
      go_wp2
      obtain ⟨sz,hsz⟩:∃ sz,z.size+ln=sz:=⟨_,rfl⟩
      refine start_ (n:=14) (S:=fun w'=>w'.cell? ⟨A,1,none⟩=some (.int .i64 (z.size:Int))∧w'.cell? ⟨b,3,none⟩=some (.int .i64 li.op)) (ds:=[13]) #[zF,zF,zF,zF,zF,zF,zF,zF,zF,zF,zF,zF,zF,zF] (by kernel_rfl) rfl rfl ⟨e1,e2⟩ (fun hHeld=>?_)
      refine pq (i:=0) (N:=some 78) #[zT,zF,zF,zF,zF,zF,zF,zF,zF,zF,zF,zF,zF,zF] rfl rfl ?_
      refine pq (i:=1) (N:=some 79) #[zT,zT,zF,zF,zF,zF,zF,zF,zF,zF,zF,zF,zF,zF] rfl rfl ?_
      refine pq (i:=2) (N:=some 80) #[zT,zT,zT,zF,zF,zF,zF,zF,zF,zF,zF,zF,zF,zF] rfl rfl ?_
      refine pq (i:=4) (N:=some 82) #[zT,zT,zT,zF,zT,zF,zF,zF,zF,zF,zF,zF,zF,zF] rfl rfl ?_
      refine pq (i:=5) (N:=some 83) #[zT,zT,zT,zF,zT,zT,zF,zF,zF,zF,zF,zF,zF,zF] rfl rfl ?_
      refine tq2 (i:=3) (N:=some 81) #[zT,zT,zT,zT,zT,zT,zF,zF,zF,zF,zF,zF,zF,zF] rfl rfl hHeld ?_
      refine tq2 (i:=6) (N:=some 84) #[zT,zT,zT,zT,zT,zT,zT,zF,zF,zF,zF,zF,zF,zF] rfl rfl hHeld ?_
      refine one_ (i:=7) (N:=some 85) #[zT,zT,zT,zT,zT,zT,zT,zT,zF,zF,zF,zF,zF,zF] rfl rfl (by kernel_rfl) (by decide) (fun K hK=>?_)
      refine goes_ Tryz.func55 (by kernel_rfl) rfl #[.int .i64 li.op] (by rfl) rfl rfl (by simp only [List.map_toArray,List.map_cons,List.map_nil];rfl) ?_
      with_reducible refine (kindOf_any li.op W.drew p2.gw.drew).mono ?_
      rintro e wk ⟨rfl,hbk⟩
      refine ⟨_,rfl,?_⟩
      have k1:=(hbk.cell (p:=⟨A,1,none⟩) hlA2).trans e1
      have k2:=(hbk.cell (p:=⟨b,3,none⟩) hlB2).trans e2
      refine hK.out _ _ ⟨k1,k2⟩ (fun hHeld=>?_)
      clear hK K
      refine nrmq ?_
      refine pq (i:=8) (N:=some 86) #[zT,zT,zT,zT,zT,zT,zT,zT,zT,zF,zF,zF,zF,zF] rfl rfl ?_
      refine one_ (i:=9) (N:=some 87) #[zT,zT,zT,zT,zT,zT,zT,zT,zT,zT,zF,zF,zF,zF] rfl rfl (by kernel_rfl) (by decide) (fun K hK=>?_)
      refine goes_ Tryz.func56 (by kernel_rfl) rfl #[.int .i64 (formM li.op)] (by rfl) rfl rfl (by simp only [List.map_toArray,List.map_cons,List.map_nil];rfl) ?_
      with_reducible refine (Q.insn_length.calls 1 _ _ wk (length_f (formM li.op))).mono ?_
      rintro e wl ⟨rfl,⟨nl,rfl⟩⟩
      refine ⟨_,rfl,?_⟩
      have k3:wk.frozen? ⟨A,1,none⟩=false:=(hbk.frozen (p:=⟨A,1,none⟩) hlA2).trans e3
      refine hK.out _ _ ⟨k1,k2⟩ (fun hHeld=>?_)
      clear hK K
      refine nrmq ?_
      refine pq (i:=10) (N:=some 88) #[zT,zT,zT,zT,zT,zT,zT,zT,zT,zT,zT,zF,zF,zF] rfl rfl ?_
      refine pq (i:=11) (N:=some 89) #[zT,zT,zT,zT,zT,zT,zT,zT,zT,zT,zT,zT,zF,zF] rfl rfl ?_
      refine pq (i:=12) (N:=some 90) #[zT,zT,zT,zT,zT,zT,zT,zT,zT,zT,zT,zT,zT,zF] rfl rfl ?_
      refine last_ (i:=13) (N:=none) #[zT,zT,zT,zT,zT,zT,zT,zT,zT,zT,zT,zT,zT,zT] rfl rfl (by kernel_rfl) (by decide) (fun K hK=>?_)
      refine skip_ (w1:=?_) (by rfl) rfl ?_ ?_
      rotate_left
      ·go_simp
       rfl
      refine hK.out _ _ ?_
      clear hK K
      refine done_ (by kernel_rfl) ?_
      have hsz9:sz≤2060:=by omega
      have hww:=wrap_sum hsz (by omega)
      simp only [hww]
      clear hww
      have hAz:=(((p2.drew).below hbk).drewN nl).setSize sz hsz9
      have hBz:Blo A m B w ((wk.drewN nl).setCell ⟨A,1,none⟩ (.int .i64 (sz:Int))):=((hBy.drew.below hbk).drewN nl).setA 1 _
      generalize (wk.drewN nl).setCell ⟨A,1,none⟩ (.int .i64 (sz:Int))=Wz at hAz hBz ⊢
      have f1:Wz.cell? ⟨A,1,none⟩=some (.int .i64 (sz:Int)):=(blk_cell hAz.blk 1).trans rfl
      clear hbk k1 k2 k3 e1 e2 e3
      by_cases hgt:2048 < sz
      ·have hr3:R=.error 2:=by rw [← hR2];simp only [Az.push];rw [hln2,hsz,if_pos hgt]
       subst hr3
       have hgi:(2048:Int) < (sz:Int):=by omega
       go_wp2
       exact ⟨rfl,out_err hAz rfl hBz 2⟩
      ·have hr3:=hR2
       simp only [Az.push] at hr3
       rw [hln2,hsz,if_neg hgt] at hr3
       subst hr3
       have hgi:¬ (2048:Int) < (sz:Int):=by omega
       go_wp2
       exact ⟨rfl,.tuple #[],results_none rfl _ _ _,rfl,_,_,hAz,hBz⟩
   | some n =>
    rw [hd] at hR
    dsimp only at hR
    have hnz:=dir_size (l:=l1.sk) hx1.sz hd
    have HD:=Lib.hid hd
    clear hd
    cases hlk:lookB z.labels n with
    | some v =>
     have hR2:R=.error 23:=by rw [← hR];simp only [Az.dirRow];rw [hlk]
     subst hR2
     have HLK:=Lib.hid hlk
     clear hR hlk
     go_wp2_with (first | (go_at_call 113;refine (dir_s (by assumption) n l3 HD.out).mono ?_;rintro e w2 ⟨rfl,ha2⟩;have HA2:AW B w2 A m { z with no:=no } vl vf:=hAW1.aft hat1.ln hat1.b9 ha2.aft) | (go_at_call 114;refine (define_n (by assumption) n (by assumption) v (by exact HLK.out)).mono ?_;rintro e w7 ⟨rfl,rfl⟩))
     exact ⟨rfl,out_err HA2 rfl (hBs.aft ha2.aft (.inl hBb)) 23⟩
    | none =>
     have hR2:(if 32 < z.funcs.length+1 then .error 2 else .ok { z with no:=no,labels:=z.labels ++ [(n,z.size)],funcs:=z.funcs ++ [n] }:Except Int Az)=R:=by rw [← hR];simp only [Az.dirRow];rw [hlk]
     have HLK:=Lib.hid hlk
     have HR2:=Lib.hid hR2
     clear hR hlk hR2
     go_upto_region 8 with (first | (go_at_call 113;refine (dir_s (by assumption) n l3 HD.out).mono ?_;rintro e w2 ⟨rfl,ha2⟩;have HA2:AW B w2 A m { z with no:=no } vl vf:=hAW1.aft hat1.ln hat1.b9 ha2.aft) | (go_at_call 114;refine (define_s (by assumption) n (by assumption) (by exact HLK.out)).mono ?_;rintro e w8 ⟨rfl,hA8,hm8⟩))
     have hx2:At b W1 w2 l3:=by assumption
     have hA8':AW B w8 A m { z with no:=no,labels:=z.labels ++ [(n,z.size)] } vl vf:=by assumption
     have hm8':Aft m w2 w8:=by assumption
     have hB8:Blo A m B w w8:=(hBs.aft hx2.aft (.inl hBb)).aft hm8' (.inr rfl)
     have hvf8:w8.cell? ⟨A,4,none⟩=some vf:=(blk_cell hA8'.blk 4).trans rfl
     have hff8:w8.frozen? ⟨A,4,none⟩=false:=blk_frozen hA8'.blk 4
     obtain ⟨i9,hi,hz0,hz1,hz2⟩:=info_parts info9
     have hA9:=hA8'.below ((Below.refl _ _).alloc (Nat.le_refl _) (.cells #[.string n] 9))
     have hne9:=heap_own w8 (.cells #[.string n] 9)
     have n1:∀ j u,[Value.string n][j]?=some u→(w8.alloc (.cells #[.string n] 9)).cell? ((⟨w8.heap.size,0,none⟩:Addr).add j)=some u:=World.news_of_block (cs:=#[.string n]) hne9
     have n2:∀ u∈[Value.string n],u.oneCell'=true:=fun u hu=>by rw [List.mem_singleton] at hu;subst hu;rfl
     have n3:z.funcs.length+1≤maxLen:=by unfold maxLen;omega
     have n4:(z.funcs.length+1) * 16≤140737488355328:=by omega
     have n5:B≤(w8.alloc (.cells #[.string n] 9)).heap.size:=hA9.bB
     have N1:=fun (_:Unit)=>n1
     have N2:=fun (_:Unit)=>n2
     have hA9':=fun (_:Unit)=>hA9
     clear n1 n2 hne9 hA9
     by_cases hgt:32 < z.funcs.length+1
     ·have hr3:R=.error 2:=by rw [← HR2.out,if_pos hgt]
      subst hr3
      have hg2:(32:Int) < (z.funcs.length:Int)+1:=by omega
      go_wp2_with (at_builtin;refine wpList_append_lies _ (by rfl) _ _ 108 (by rfl) B 9 i9 (.string ⟨#[]⟩) 1 16 Tryz.underlying108 hi hz0 hz1 hz2 (by rfl) (by decide) vf z.funcs.length (rowS z.funcs) (by rfl) (hA9' ()).funcs ⟨w8.heap.size,0,none⟩ 1 1 [.string n] (by rfl) (by rfl) (N1 ()) (N2 ()) (by decide) n3 n4 n5 _ (by rfl) ?_;intro g cap w9 hown hgrow hat hlt;obtain ⟨p1,p2⟩:=(hA9' ()).pushF hgrow n g cap hown (show z.funcs.length < 40 by omega) hat;have hc9:w9.cell? ⟨A,4,none⟩=some vf:=(World.cell?_of_block (w:=w8.alloc (.cells #[.string n] 9)) p1).trans ((blk_cell (hA9' ()).blk 4).trans rfl);have hf9:w9.frozen? ⟨A,4,none⟩=false:=(World.frozen?_of_block (w:=w8.alloc (.cells #[.string n] 9)) p1).trans (blk_frozen (hA9' ()).blk 4);have hB9:=(hB8.alloc (.cells #[.string n] 9)).grown hgrow (fun k hk=>((hA9' ()).funcs.lt k hk).1))
      exact ⟨rfl,out_err p2 rfl (hB9.setA 4 _) 2⟩
     ·have hr3:R=.ok { z with no:=no,labels:=z.labels ++ [(n,z.size)],funcs:=z.funcs ++ [n] }:=by rw [← HR2.out,if_neg hgt]
      subst hr3
      have hg2:¬ (32:Int) < (z.funcs.length:Int)+1:=by omega
      go_wp2_with (at_builtin;refine wpList_append_lies _ (by rfl) _ _ 108 (by rfl) B 9 i9 (.string ⟨#[]⟩) 1 16 Tryz.underlying108 hi hz0 hz1 hz2 (by rfl) (by decide) vf z.funcs.length (rowS z.funcs) (by rfl) (hA9' ()).funcs ⟨w8.heap.size,0,none⟩ 1 1 [.string n] (by rfl) (by rfl) (N1 ()) (N2 ()) (by decide) n3 n4 n5 _ (by rfl) ?_;intro g cap w9 hown hgrow hat hlt;obtain ⟨p1,p2⟩:=(hA9' ()).pushF hgrow n g cap hown (show z.funcs.length < 40 by omega) hat;have hc9:w9.cell? ⟨A,4,none⟩=some vf:=(World.cell?_of_block (w:=w8.alloc (.cells #[.string n] 9)) p1).trans ((blk_cell (hA9' ()).blk 4).trans rfl);have hf9:w9.frozen? ⟨A,4,none⟩=false:=(World.frozen?_of_block (w:=w8.alloc (.cells #[.string n] 9)) p1).trans (blk_frozen (hA9' ()).blk 4);have hB9:=(hB8.alloc (.cells #[.string n] 9)).grown hgrow (fun k hk=>((hA9' ()).funcs.lt k hk).1))
      exact ⟨rfl,.tuple #[],results_none rfl _ _ _,rfl,_,_,p2,hB9.setA 4 _⟩
 ·rw [if_neg hlab] at hR
  have hemp:=not_emp (Nat.pos_of_ne_zero hlab)
  have HR:=Lib.hid hR
  clear hR
  go_upto_region 11 with fail
  have hR:=HR.out
  have g01:w1.cell? ⟨b,0,none⟩=some (.string (l1.sk).s):=hx1.ln.c0
  obtain ⟨e,he⟩:∃ e,(l1.sk).at_=e:=⟨_,rfl⟩
  have g11:w1.cell? ⟨b,1,none⟩=some (.int .i64 (e:Int)):=by rw [← he];exact hx1.ln.c1
  by_cases hes:e=(l1.sk).s.size
  ·have hR1:Az.def_ { z with no:=no } lab=R:=by rw [← hR];unfold Az.rest;rw [if_pos (he.trans hes)]
   clear hR he
   subst hes
   cases hlk:lookB z.labels lab with
   | some v =>
    have hR2:R=.error 23:=by rw [← hR1];simp only [Az.def_];rw [if_neg hlab,hlk]
    subst hR2
    have HLK:=Lib.hid hlk
    clear hR1 hlk
    go_wp2_with (go_at_call 114;refine (define_n (by assumption) lab (by assumption) v (by exact HLK.out)).mono ?_;rintro e w7 ⟨rfl,rfl⟩)
    exact ⟨rfl,out_err HA1 rfl hB1 23⟩
   | none =>
    have hR2:R=.ok { z with no:=no,labels:=z.labels ++ [(lab,z.size)] }:=by rw [← hR1];simp only [Az.def_];rw [if_neg hlab,hlk]
    subst hR2
    have HLK:=Lib.hid hlk
    clear hR1 hlk
    go_wp2_with (go_at_call 114;refine (define_s (by assumption) lab (by assumption) (by exact HLK.out)).mono ?_;rintro e w8 ⟨rfl,hA8,hm8⟩)
    exact ⟨rfl,.tuple #[],results_none rfl _ _ _,rfl,vl,vf,hA8,hB1.aft hm8 (.inr rfl)⟩
  ·have h2:(e == (l1.sk).s.size)=false:=beq_eq_false_iff_ne.2 hes
   have h3:((e:Int) == ((l1.sk).s.size:Int))=false:=beq_eq_false_iff_ne.2 (by omega)
   have hR1:(match L9.instr (l1.sk) with | none=>.error 22 | some li=>match Az.def_ { z with no:=no } lab with | .error e=>.error e | .ok z1=>z1.push li)=R:=by rw [← hR];unfold Az.rest;rw [if_neg (by rw [he];exact hes)]
   clear hR he hes
   cases hin:L9.instr (l1.sk) with
   | none =>
    rw [hin] at hR1
    subst hR1
    have HIN:=Lib.hid hin
    clear hin
    go_wp2_with (go_at_call 69;refine (instr_n (by assumption) HIN.out).mono ?_;rintro e w5 ⟨rfl,ha5⟩)
    exact ⟨rfl,out_err (hAW1.aft hat1.ln hat1.b9 ha5) rfl (hBs.aft ha5 (.inl hBb)) 22⟩
   | some li =>
    rw [hin] at hR1
    have HIN:=Lib.hid hin
    clear hin
    have IN:=fun (ha:At b W1 w1 (l1.sk))=>instr_s ha li HIN.out
    clear IN
    cases hlk:lookB z.labels lab with
    | some v =>
     have hR2:R=.error 23:=by rw [← hR1];simp only [Az.def_];rw [if_neg hlab,hlk]
     subst hR2
     have HLK:=Lib.hid hlk
     clear hR1 hlk
     go_wp2_with (first | (go_at_call 69;refine (instr_s (by assumption) li HIN.out).mono ?_;rintro e w5 ⟨rfl,ha5⟩;have HA5:AW B w5 A m { z with no:=no } vl vf:=hAW1.aft hat1.ln hat1.b9 ha5.aft) | (go_at_call 114;refine (define_n (by assumption) lab (by assumption) v (by exact HLK.out)).mono ?_;rintro e w7 ⟨rfl,rfl⟩))
     exact ⟨rfl,out_err HA5 rfl (hBs.aft ha5.aft (.inl hBb)) 23⟩
    | none =>
     have hR2:Az.push { z with no:=no,labels:=z.labels ++ [(lab,z.size)] } li=R:=by rw [← hR1];simp only [Az.def_];rw [if_neg hlab,hlk]
     have HLK:=Lib.hid hlk
     clear hR1 hlk
     go_upto_region 17 with (first | (go_at_call 69;refine (instr_s (by assumption) li HIN.out).mono ?_;rintro e w5 ⟨rfl,ha5⟩;have HA5:AW B w5 A m { z with no:=no } vl vf:=hAW1.aft hat1.ln hat1.b9 ha5.aft) | (go_at_call 114;refine (define_s (by assumption) lab (by assumption) (by exact HLK.out)).mono ?_;rintro e w8 ⟨rfl,hA8,hm8⟩))
     have hx5:At b W1 w5 li:=by assumption
     have hA8':AW B w8 A m { z with no:=no,labels:=z.labels ++ [(lab,z.size)] } vl vf:=by assumption
     have hm8':Aft m w5 w8:=by assumption
     have hB8:Blo A m B w w8:=(hBs.aft hx5.aft (.inl hBb)).aft hm8' (.inr rfl)
     have hln:Ln w8 b li:=(hm8'.block b hx5.ln.lt (by obtain ⟨es,c,hm,_⟩:=(hAW1.aft hat1.ln hat1.b9 hx5.aft).map;rintro rfl;have h1:=hx5.ln;unfold Ln at h1;rw [hm] at h1;cases h1)).trans hx5.ln
     have hA:=hA8'
     have hBx:=hB8
     have hlA:=hA.ltA
     have hlB:=hln.lt
     have hS:∀ w':World,w'.heap[A]?=w8.heap[A]?→w'.heap[b]?=w8.heap[b]?→(fun w'=>w'.cell? ⟨A,2,none⟩=some vl∧w'.cell? ⟨A,1,none⟩=some (.int .i64 (z.size:Int))∧w'.cell? ⟨b,0,none⟩=some (.string li.s)∧w'.cell? ⟨b,1,none⟩=some (.int .i64 (li.at_:Int))∧w'.cell? ⟨b,2,none⟩=some (.bool li.labels)∧w'.cell? ⟨b,3,none⟩=some (.int .i64 li.op)∧w'.cell? ⟨b,4,none⟩=some (.int .i64 li.a)∧w'.cell? ⟨b,5,none⟩=some (.int .i64 li.b)∧w'.cell? ⟨b,6,none⟩=some (.int .i64 li.imm)∧w'.cell? ⟨b,7,none⟩=some (.string li.label)∧w'.cell? ⟨b,8,none⟩=some (.bool li.far)) w':=fun w' e1 e2 =>
      have k1:=e1.trans hA.blk
      have k2:Ln w' b li:=e2.trans hln
      ⟨(blk_cell k1 2).trans rfl,(blk_cell k1 1).trans rfl,k2.c0,k2.c1,k2.c2,k2.c3,k2.c4,k2.c5,k2.c6,k2.c7,k2.c8⟩
     obtain ⟨d1,d2,d3,d4,d5,d6,d7,d8,d9,d10,d11⟩:=hS w8.drew rfl rfl
     obtain ⟨i17,hi,hz0,hz1,hz2⟩:=info_parts info173
     have hA9:=fun (_:Unit)=>hA.drew.below ((Below.refl _ _).alloc (Nat.le_refl _) (.cells #[.string li.s,.int .i64 (li.at_:Int),.bool li.labels,.int .i64 li.op,.int .i64 li.a,.int .i64 li.b,.int .i64 li.imm,.string li.label,.bool li.far,.int .i64 (no:Int),.int .i64 (z.size:Int)] 173))
     have N1:Unit→∀ j u,(En.cs ⟨li,no,z.size⟩)[j]?=some u→(w8.drew.alloc (.cells #[.string li.s,.int .i64 (li.at_:Int),.bool li.labels,.int .i64 li.op,.int .i64 li.a,.int .i64 li.b,.int .i64 li.imm,.string li.label,.bool li.far,.int .i64 (no:Int),.int .i64 (z.size:Int)] 173)).cell? ((⟨w8.heap.size,0,none⟩:Addr).add j)=some u:=fun _=>World.news_of_block (cs:=#[.string li.s,.int .i64 (li.at_:Int),.bool li.labels,.int .i64 li.op,.int .i64 li.a,.int .i64 li.b,.int .i64 li.imm,.string li.label,.bool li.far,.int .i64 (no:Int),.int .i64 (z.size:Int)]) (heap_own w8.drew _)
     have N2:Unit→∀ u∈En.cs ⟨li,no,z.size⟩,u.oneCell'=true:=fun _ u hu=>by
      simp only [En.cs,L9.cs,List.cons_append,List.nil_append,List.mem_cons,List.not_mem_nil,or_false] at hu
      rcases hu with rfl | rfl | rfl | rfl | rfl | rfl | rfl | rfl | rfl | rfl | rfl <;> rfl
     have n3:z.list.length+1≤maxLen:=by unfold maxLen;omega
     have n4:(z.list.length+1) * 104≤140737488355328:=by omega
     have n5:B≤(w8.drew.alloc (.cells #[.string li.s,.int .i64 (li.at_:Int),.bool li.labels,.int .i64 li.op,.int .i64 li.a,.int .i64 li.b,.int .i64 li.imm,.string li.label,.bool li.far,.int .i64 (no:Int),.int .i64 (z.size:Int)] 173)).heap.size:=(hA9 ()).bB
     refine start_ (n:=17) (S:=fun w'=>w'.cell? ⟨A,2,none⟩=some vl∧w'.cell? ⟨A,1,none⟩=some (.int .i64 (z.size:Int))∧w'.cell? ⟨b,0,none⟩=some (.string li.s)∧w'.cell? ⟨b,1,none⟩=some (.int .i64 (li.at_:Int))∧w'.cell? ⟨b,2,none⟩=some (.bool li.labels)∧w'.cell? ⟨b,3,none⟩=some (.int .i64 li.op)∧w'.cell? ⟨b,4,none⟩=some (.int .i64 li.a)∧w'.cell? ⟨b,5,none⟩=some (.int .i64 li.b)∧w'.cell? ⟨b,6,none⟩=some (.int .i64 li.imm)∧w'.cell? ⟨b,7,none⟩=some (.string li.label)∧w'.cell? ⟨b,8,none⟩=some (.bool li.far)) (ds:=[16]) #[zF,zF,zF,zF,zF,zF,zF,zF,zF,zF,zF,zF,zF,zF,zF,zF,zF] (by kernel_rfl) rfl rfl ⟨d1,d2,d3,d4,d5,d6,d7,d8,d9,d10,d11⟩ (fun hHeld=>?_)
     refine pq (i:=0) (N:=some 62) #[zT,zF,zF,zF,zF,zF,zF,zF,zF,zF,zF,zF,zF,zF,zF,zF,zF] rfl rfl ?_
     refine pq (i:=1) (N:=some 63) #[zT,zT,zF,zF,zF,zF,zF,zF,zF,zF,zF,zF,zF,zF,zF,zF,zF] rfl rfl ?_
     refine pq (i:=2) (N:=some 64) #[zT,zT,zT,zF,zF,zF,zF,zF,zF,zF,zF,zF,zF,zF,zF,zF,zF] rfl rfl ?_
     refine pq (i:=3) (N:=some 65) #[zT,zT,zT,zT,zF,zF,zF,zF,zF,zF,zF,zF,zF,zF,zF,zF,zF] rfl rfl ?_
     refine pq (i:=6) (N:=some 68) #[zT,zT,zT,zT,zF,zF,zT,zF,zF,zF,zF,zF,zF,zF,zF,zF,zF] rfl rfl ?_
     refine pq (i:=7) (N:=some 69) #[zT,zT,zT,zT,zF,zF,zT,zT,zF,zF,zF,zF,zF,zF,zF,zF,zF] rfl rfl ?_
     refine pq (i:=8) (N:=some 70) #[zT,zT,zT,zT,zF,zF,zT,zT,zT,zF,zF,zF,zF,zF,zF,zF,zF] rfl rfl ?_
     refine pq (i:=9) (N:=some 71) #[zT,zT,zT,zT,zF,zF,zT,zT,zT,zT,zF,zF,zF,zF,zF,zF,zF] rfl rfl ?_
     refine tq11 (i:=4) (N:=some 66) #[zT,zT,zT,zT,zT,zF,zT,zT,zT,zT,zF,zF,zF,zF,zF,zF,zF] rfl rfl hHeld ?_
     refine tq11 (i:=5) (N:=some 67) #[zT,zT,zT,zT,zT,zT,zT,zT,zT,zT,zF,zF,zF,zF,zF,zF,zF] rfl rfl hHeld ?_
     refine tq11 (i:=10) (N:=some 72) #[zT,zT,zT,zT,zT,zT,zT,zT,zT,zT,zT,zF,zF,zF,zF,zF,zF] rfl rfl hHeld ?_
     refine pq (i:=11) (N:=some 73) #[zT,zT,zT,zT,zT,zT,zT,zT,zT,zT,zT,zT,zF,zF,zF,zF,zF] rfl rfl ?_
     refine one_ (i:=12) (N:=some 74) #[zT,zT,zT,zT,zT,zT,zT,zT,zT,zT,zT,zT,zT,zF,zF,zF,zF] rfl rfl (by kernel_rfl) (by decide) (fun K hK=>?_)
     refine value_ (w1:=?_) (v:=?_) (by rfl) rfl ?_ ?_
     rotate_left 2
     ·go_simp
      constructor
      ·rfl
      ·rfl
     refine hK.out _ _ ⟨(hS _ (Below.heap_alloc _ _ _ hlA) (Below.heap_alloc _ _ _ hlB)).1,(hS _ (Below.heap_alloc _ _ _ hlA) (Below.heap_alloc _ _ _ hlB)).2.1,(hS _ (Below.heap_alloc _ _ _ hlA) (Below.heap_alloc _ _ _ hlB)).2.2.1,(hS _ (Below.heap_alloc _ _ _ hlA) (Below.heap_alloc _ _ _ hlB)).2.2.2.1,(hS _ (Below.heap_alloc _ _ _ hlA) (Below.heap_alloc _ _ _ hlB)).2.2.2.2.1,(hS _ (Below.heap_alloc _ _ _ hlA) (Below.heap_alloc _ _ _ hlB)).2.2.2.2.2.1,(hS _ (Below.heap_alloc _ _ _ hlA) (Below.heap_alloc _ _ _ hlB)).2.2.2.2.2.2.1,(hS _ (Below.heap_alloc _ _ _ hlA) (Below.heap_alloc _ _ _ hlB)).2.2.2.2.2.2.2.1,(hS _ (Below.heap_alloc _ _ _ hlA) (Below.heap_alloc _ _ _ hlB)).2.2.2.2.2.2.2.2.1,(hS _ (Below.heap_alloc _ _ _ hlA) (Below.heap_alloc _ _ _ hlB)).2.2.2.2.2.2.2.2.2.1,(hS _ (Below.heap_alloc _ _ _ hlA) (Below.heap_alloc _ _ _ hlB)).2.2.2.2.2.2.2.2.2.2⟩ (fun hHeld=>?_)
     clear hK K
     refine nrmq ?_
     refine one_ (i:=13) (N:=some 75) #[zT,zT,zT,zT,zT,zT,zT,zT,zT,zT,zT,zT,zT,zT,zF,zF,zF] rfl rfl (by kernel_rfl) (by decide) (fun K hK=>?_)
     refine step_append_lies _ (by rfl) _ _ 121 (by rfl) B 173 i17 (.agg #[.string ⟨#[]⟩,.int .i64 0,.bool false,.int .i64 0,.int .i64 0,.int .i64 0,.int .i64 0,.string ⟨#[]⟩,.bool false,.int .i64 0,.int .i64 0]) 11 104 Tryz.underlying121 hi hz0 hz1 hz2 (by rfl) (by decide) vl z.list.length (rowE z.list) (by rfl) (hA9 ()).list ⟨w8.heap.size,0,none⟩ 1 1 (En.cs ⟨li,no,z.size⟩) (by rfl) (by rfl) (N1 ()) (N2 ()) (by decide) n3 n4 n5 _ (by rfl) ?_
     intro g cap w9 hown hgrow hat hlt
     obtain ⟨p0,p2⟩:=(hA9 ()).pushE hgrow ⟨li,no,z.size⟩ g cap hown hl
     have p1:w9.heap[A]?=w8.heap[A]?:=p0.trans (Below.heap_alloc _ _ _ hlA)
     have p3:w9.heap[b]?=w8.heap[b]?:=(hgrow.block b (by show b < (w8.drew.heap.push _).size;simp;omega) (fun e=>by obtain ⟨c,hc⟩:=own_type (hA9 ()).list e.symm;have h1:=(Below.heap_alloc w8.drew (.cells #[.string li.s,.int .i64 (li.at_:Int),.bool li.labels,.int .i64 li.op,.int .i64 li.a,.int .i64 li.b,.int .i64 li.imm,.string li.label,.bool li.far,.int .i64 (no:Int),.int .i64 (z.size:Int)] 173) _ hlB).trans hln;unfold Ln at h1;rw [h1] at hc;cases hc)).trans (Below.heap_alloc _ _ _ hlB)
     have q2:=(hS w9 p1 p3).1
     have q3:w9.frozen? ⟨A,2,none⟩=false:=(World.frozen?_of_block (w:=w8) p1).trans (blk_frozen hA.blk 2)
     refine hK.out _ _ ⟨(hS _ p1 p3).1,(hS _ p1 p3).2.1,(hS _ p1 p3).2.2.1,(hS _ p1 p3).2.2.2.1,(hS _ p1 p3).2.2.2.2.1,(hS _ p1 p3).2.2.2.2.2.1,(hS _ p1 p3).2.2.2.2.2.2.1,(hS _ p1 p3).2.2.2.2.2.2.2.1,(hS _ p1 p3).2.2.2.2.2.2.2.2.1,(hS _ p1 p3).2.2.2.2.2.2.2.2.2.1,(hS _ p1 p3).2.2.2.2.2.2.2.2.2.2⟩ (fun hHeld=>?_)
     clear hK K
     refine nrmq ?_
     refine pq (i:=14) (N:=some 76) #[zT,zT,zT,zT,zT,zT,zT,zT,zT,zT,zT,zT,zT,zT,zT,zF,zF] rfl rfl ?_
     refine pq (i:=15) (N:=some 77) #[zT,zT,zT,zT,zT,zT,zT,zT,zT,zT,zT,zT,zT,zT,zT,zT,zF] rfl rfl ?_
     refine last_ (i:=16) (N:=none) #[zT,zT,zT,zT,zT,zT,zT,zT,zT,zT,zT,zT,zT,zT,zT,zT,zT] rfl rfl (by kernel_rfl) (by decide) (fun K hK=>?_)
     refine skip_ (w1:=?_) (by rfl) rfl ?_ ?_
     rotate_left
     ·go_simp
      rfl
     refine hK.out _ _ ?_
     clear hK K
     refine done_ (by kernel_rfl) ?_
     have hBy:Blo A m B w (w9.setCell ⟨A,2,none⟩ (.slice (some ⟨g,0,none⟩) (z.list.length+1) cap)):=((hBx.drew.alloc _).grown hgrow (fun k hk=>((hA9 ()).list.lt k hk).1)).setA 2 _
     have hnA:b≠A:=by rintro rfl;have h1:=hA.blk;unfold Ln at hln;rw [hln] at h1;cases h1
     have hlY:Ln (w9.setCell ⟨A,2,none⟩ (.slice (some ⟨g,0,none⟩) (z.list.length+1) cap)) b li:=((Below.heap_setCell _ _ _ _ (by exact hnA)).trans p3).trans hln
     generalize w9.setCell ⟨A,2,none⟩ (.slice (some ⟨g,0,none⟩) (z.list.length+1) cap)=W at p2 hBy hlY ⊢
     clear hS d1 d2 d3 d4 d5 d6 d7 d8 d9 d10 d11 hA9 N1 N2
     have e1:W.cell? ⟨A,1,none⟩=some (.int .i64 (z.size:Int)):=(blk_cell p2.blk 1).trans rfl
     have e2:W.cell? ⟨b,3,none⟩=some (.int .i64 li.op):=hlY.c3
     have e3:W.frozen? ⟨A,1,none⟩=false:=blk_frozen p2.blk 1
     have hlA2:=p2.ltA
     have hlB2:=hlY.lt
     have hlb:=lenM_bd (formM li.op)
     obtain ⟨ln,hln2⟩:∃ ln,lenM (formM li.op)=ln:=⟨_,rfl⟩
     go_wp2
     obtain ⟨sz,hsz⟩:∃ sz,z.size+ln=sz:=⟨_,rfl⟩
     refine start_ (n:=14) (S:=fun w'=>w'.cell? ⟨A,1,none⟩=some (.int .i64 (z.size:Int))∧w'.cell? ⟨b,3,none⟩=some (.int .i64 li.op)) (ds:=[13]) #[zF,zF,zF,zF,zF,zF,zF,zF,zF,zF,zF,zF,zF,zF] (by kernel_rfl) rfl rfl ⟨e1,e2⟩ (fun hHeld=>?_)
     refine pq (i:=0) (N:=some 78) #[zT,zF,zF,zF,zF,zF,zF,zF,zF,zF,zF,zF,zF,zF] rfl rfl ?_
     refine pq (i:=1) (N:=some 79) #[zT,zT,zF,zF,zF,zF,zF,zF,zF,zF,zF,zF,zF,zF] rfl rfl ?_
     refine pq (i:=2) (N:=some 80) #[zT,zT,zT,zF,zF,zF,zF,zF,zF,zF,zF,zF,zF,zF] rfl rfl ?_
     refine pq (i:=4) (N:=some 82) #[zT,zT,zT,zF,zT,zF,zF,zF,zF,zF,zF,zF,zF,zF] rfl rfl ?_
     refine pq (i:=5) (N:=some 83) #[zT,zT,zT,zF,zT,zT,zF,zF,zF,zF,zF,zF,zF,zF] rfl rfl ?_
     refine tq2 (i:=3) (N:=some 81) #[zT,zT,zT,zT,zT,zT,zF,zF,zF,zF,zF,zF,zF,zF] rfl rfl hHeld ?_
     refine tq2 (i:=6) (N:=some 84) #[zT,zT,zT,zT,zT,zT,zT,zF,zF,zF,zF,zF,zF,zF] rfl rfl hHeld ?_
     refine one_ (i:=7) (N:=some 85) #[zT,zT,zT,zT,zT,zT,zT,zT,zF,zF,zF,zF,zF,zF] rfl rfl (by kernel_rfl) (by decide) (fun K hK=>?_)
     refine goes_ Tryz.func55 (by kernel_rfl) rfl #[.int .i64 li.op] (by rfl) rfl rfl (by simp only [List.map_toArray,List.map_cons,List.map_nil];rfl) ?_
     with_reducible refine (kindOf_any li.op W.drew p2.gw.drew).mono ?_
     rintro e wk ⟨rfl,hbk⟩
     refine ⟨_,rfl,?_⟩
     have k1:=(hbk.cell (p:=⟨A,1,none⟩) hlA2).trans e1
     have k2:=(hbk.cell (p:=⟨b,3,none⟩) hlB2).trans e2
     refine hK.out _ _ ⟨k1,k2⟩ (fun hHeld=>?_)
     clear hK K
     refine nrmq ?_
     refine pq (i:=8) (N:=some 86) #[zT,zT,zT,zT,zT,zT,zT,zT,zT,zF,zF,zF,zF,zF] rfl rfl ?_
     refine one_ (i:=9) (N:=some 87) #[zT,zT,zT,zT,zT,zT,zT,zT,zT,zT,zF,zF,zF,zF] rfl rfl (by kernel_rfl) (by decide) (fun K hK=>?_)
     refine goes_ Tryz.func56 (by kernel_rfl) rfl #[.int .i64 (formM li.op)] (by rfl) rfl rfl (by simp only [List.map_toArray,List.map_cons,List.map_nil];rfl) ?_
     with_reducible refine (Q.insn_length.calls 1 _ _ wk (length_f (formM li.op))).mono ?_
     rintro e wl ⟨rfl,⟨nl,rfl⟩⟩
     refine ⟨_,rfl,?_⟩
     have k3:wk.frozen? ⟨A,1,none⟩=false:=(hbk.frozen (p:=⟨A,1,none⟩) hlA2).trans e3
     refine hK.out _ _ ⟨k1,k2⟩ (fun hHeld=>?_)
     clear hK K
     refine nrmq ?_
     refine pq (i:=10) (N:=some 88) #[zT,zT,zT,zT,zT,zT,zT,zT,zT,zT,zT,zF,zF,zF] rfl rfl ?_
     refine pq (i:=11) (N:=some 89) #[zT,zT,zT,zT,zT,zT,zT,zT,zT,zT,zT,zT,zF,zF] rfl rfl ?_
     refine pq (i:=12) (N:=some 90) #[zT,zT,zT,zT,zT,zT,zT,zT,zT,zT,zT,zT,zT,zF] rfl rfl ?_
     refine last_ (i:=13) (N:=none) #[zT,zT,zT,zT,zT,zT,zT,zT,zT,zT,zT,zT,zT,zT] rfl rfl (by kernel_rfl) (by decide) (fun K hK=>?_)
     refine skip_ (w1:=?_) (by rfl) rfl ?_ ?_
     rotate_left
     ·go_simp
      rfl
     refine hK.out _ _ ?_
     clear hK K
     refine done_ (by kernel_rfl) ?_
     have hsz9:sz≤2060:=by omega
     have hww:=wrap_sum hsz (by omega)
     simp only [hww]
     clear hww
     have hAz:=(((p2.drew).below hbk).drewN nl).setSize sz hsz9
     have hBz:Blo A m B w ((wk.drewN nl).setCell ⟨A,1,none⟩ (.int .i64 (sz:Int))):=((hBy.drew.below hbk).drewN nl).setA 1 _
     generalize (wk.drewN nl).setCell ⟨A,1,none⟩ (.int .i64 (sz:Int))=Wz at hAz hBz ⊢
     have f1:Wz.cell? ⟨A,1,none⟩=some (.int .i64 (sz:Int)):=(blk_cell hAz.blk 1).trans rfl
     clear hbk k1 k2 k3 e1 e2 e3
     by_cases hgt:2048 < sz
     ·have hr3:R=.error 2:=by rw [← hR2];simp only [Az.push];rw [hln2,hsz,if_pos hgt]
      subst hr3
      have hgi:(2048:Int) < (sz:Int):=by omega
      go_wp2
      exact ⟨rfl,out_err hAz rfl hBz 2⟩
     ·have hr3:=hR2
      simp only [Az.push] at hr3
      rw [hln2,hsz,if_neg hgt] at hr3
      subst hr3
      have hgi:¬ (2048:Int) < (sz:Int):=by omega
      go_wp2
      exact ⟨rfl,.tuple #[],results_none rfl _ _ _,rfl,_,_,hAz,hBz⟩
def En.fix (L:List (ByteArray × Nat)) (e:En):Except Int (Int × Bool) :=
 if e.l.label.size=0 then .ok (e.l.imm,e.l.far)
 else match lookB L e.l.label with
  | none=>.error 23
  | some to_=>.ok ((to_:Int) - e.at_ - lenM (formM e.l.op),!fitsM (formM e.l.op) ((to_:Int) - e.at_ - lenM (formM e.l.op)))
def codeZ (L:List (ByteArray × Nat)):List En→List Int→Except (Nat × Int) (List Int)
 | [],out=>.ok out
 | e :: es,out=>match e.fix L with
  | .error c=>.error (e.no,c)
  | .ok (imm,far)=>if far=true then .error (e.no,24) else codeZ L es (out ++ encI e.l.op e.l.a e.l.b imm)
abbrev KR (w:World) (C:Nat) (v:Value) (l:List Int):Prop:=Kd.R (Kd.int .u8) 5 w 9 (fun k=>C≤k) v l
def CodeOut (w:World) (A:Nat) (z:Az) (m:Nat) (vl vf:Value) (r:Except (Nat × Int) (List Int)) (x:Ending) (w':World):Prop :=
 match r with
 | .error (no,c)=>x=.panicked (thrown c)∧w'.cell? ⟨A,0,none⟩=some (.int .i64 (no:Int))∧Aft A w w'
 | .ok l=>∃ v no,x=.returned v∧KR w' w.heap.size v l∧w'.heap[A]?=some (.cells #[.int .i64 ((no:Nat):Int),.int .i64 (z.size:Int),vl,.map (some m),vf] 123 (0,0))∧Aft A w w'
def cutW (w:World):World:={ w with heap:=w.heap.extract 0 9 }
theorem cutW_size {w:World} (h:9≤w.heap.size):(cutW w).heap.size=9:=by unfold cutW;simp;omega
theorem cutW_at {w:World} (k:Nat) (hk:k < 9):(cutW w).heap[k]?=w.heap[k]?:=by
 unfold cutW
 simp only [Array.getElem?_extract]
 simp
 intro h
 omega
theorem cutW_gw {w:World} (h:GW w):GW (cutW w):=h.of_low fun k hk=>cutW_at k hk
theorem cutW_below {w w':World} {A:Nat} (h9:9≤w.heap.size) (hA:9≤A) (h:Aft A w w'):Below (cutW w).heap.size (cutW w) w':=by
 rw [cutW_size h9]
 refine ⟨h.os,h.tape,h.output,?_,fun k hk=>?_⟩
 ·rw [cutW_size h9];exact Nat.le_trans h9 h.size
 ·rw [cutW_at k hk];exact h.block k (by omega) (by omega)
theorem appended_any (w wr:World) (A:Nat) (u:Value) (l:List Int) (op a b imm:Int) (h9:9≤w.heap.size) (hA:9≤A) (hg:GW w) (ha:Aft A w wr) (hr:KR wr w.heap.size u l) (hl:l.length≤900000) :
  Calls Tryz.prog 50 #[u,.agg #[.int .i64 op,.int .i64 a,.int .i64 b,.int .i64 imm]] wr fun x w'=>∃ v,x=.returned v∧KR w' w.heap.size v (l ++ encI op a b imm)∧Aft A w w'∧(∀ (k:Nat) (c:Array Value) (t:TypeId),wr.heap[k]?=some (Obj.cells c t (0,0))→t≠5→w'.heap[k]?=wr.heap[k]?):=by
 have h1:=Kd.R_bound hr
 have h2:Kd.R (Kd.int .u8) 5 wr (cutW w).heap.size (fun k=>w.heap.size≤k∧∃ c,wr.heap[k]?=some (Obj.cells c 5 (0,0))) u l:=by
  rw [cutW_size h9]
  exact Kd.R_mono h1 fun k hk=>⟨hk.1,by
   obtain ⟨_,_,_,q,hq,c,hc⟩:=hk
   have:q=5:=by
    rcases List.mem_cons.1 hq with h | h
    ·exact h
    ·exact absurd (show q∈([]:List Nat) from h) List.not_mem_nil
   subst this
   exact ⟨c,hc⟩⟩
 refine (Q.insn_appended.calls 20 _ u l op a b imm _ (cutW w) wr (cutW_below h9 hA ha) h2 (appended_f l op a b imm hl) (cutW_gw hg)).mono ?_
 rintro x w' ⟨v,rfl,hv,hb,hk⟩
 rw [cutW_size h9] at hv
 refine ⟨v,rfl,Kd.R_mono hv fun k hk=>?_,?_,?_⟩
 ·rcases hk with hk | hk
  ·exact hk.1
  ·exact Nat.le_trans ha.size hk
 ·rw [cutW_size h9] at hb
  exact ⟨hb.os,hb.tape,hb.output,Nat.le_trans ha.size hk.1,fun k hkl hkA=>(hk.2 k (Nat.lt_of_lt_of_le hkl ha.size) (fun e=>by omega)).trans (ha.block k hkl hkA)⟩
 ·intro k c t hc ht
  refine hk.2 k (Array.getElem?_eq_some_iff.1 hc).1 ?_
  rintro ⟨_,c',hc'⟩
  rw [hc] at hc'
  cases hc'
  exact ht rfl
end Go.Proofs.YtffojmgmpfjlhaaGreatDoor
