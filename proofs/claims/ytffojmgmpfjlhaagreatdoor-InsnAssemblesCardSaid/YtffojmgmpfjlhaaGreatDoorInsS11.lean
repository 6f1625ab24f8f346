/- Parts of the proof: see the last text -/
import Derived.Test.YtffojmgmpfjlhaaGreatDoorInsS5
import Derived.Test.YtffojmgmpfjlhaaGreatDoorInsS10
import Derived.StillTailTactics
import Derived.Outline
import Derived.Deep.AppendLies
import Derived.Maps.Own
import Derived.Defers
import Derived.Recover
set_option maxHeartbeats 8000000
set_option maxRecDepth 100000
set_option linter.unusedVariables false
set_option linter.unusedSimpArgs false
namespace Go.Proofs.YtffojmgmpfjlhaaGreatDoor
open Go.RowKit Go.Proofs.Ix YtffojmgmpfjlhaaGreatDoorW.PrintWords
def L9.setF (f:Int) (r:Option (Option Int × L9)):Option L9 :=
 match r with
 | some (some v,l')=>some (if fitsM f v=true then { l' with far:=false,imm:=v } else { l' with far:=true })
 | some (none,l')=>some { l' with far:=true }
 | none=>none
def L9.lab (l:L9):L9:={ l.go (runB isWd l.s l.at_) with label:=l.s.extract l.at_ (runB isWd l.s l.at_) }
def L9.tgt (l:L9):Option L9 :=
 if l.hit 46=true then
  (if l.next.hit 43=true then L9.setF (formM l.op) (l.next.next.dg false)
   else if l.next.hit 45=true then L9.setF (formM l.op) (l.next.next.dg true) else none)
 else if l.labels=true then (if nameB l.lab.label=true then some l.lab else none) else none
theorem hit_peek {l:L9} {c:Nat} (h:l.hit c=true):l.peek=c:=by
 unfold L9.hit at h
 simp at h
 exact h.2
theorem target_any (b:Nat) (w0 w:World) (l:L9) (ha:At b w0 w l):Calls Tryz.prog 133 #[pt b] w (OutV b w0 l.tgt):=by
 unfold L9.tgt
 cases h1:l.hit 46 with
 | false =>
  rw [if_neg (by decide)]
  have hsz:(l.s.extract l.at_ (runB isWd l.s l.at_)).size≤1000000:=by
   have:=ha.sz
   rw [ByteArray.size_extract]
   omega
  cases h2:l.labels with
  | false =>
   rw [if_neg (by decide)]
   go_enter Tryz.func133,Tryz.ntmps133
   go_wp2_with (first | (go_at_call 103;refine (take_z asm _ (by decide) _ asm).mono ?_;rintro e w1 ⟨rfl,ha1⟩) | (go_at_call 101;refine (need_k asm _).mono ?_;rintro e w2 ⟨rfl,ha2⟩) | (go_at_call 99;refine (while_k (l:=l) asm 100 _ cls_word).mono ?_;rintro e w1 ⟨rfl,ha1⟩;have gf7:=ha1.ln.fz 7;have g7:=ha1.ln.c7;have g2:w1.cell? ⟨b,2,none⟩=some (.bool false):=ha1.ln.c2.trans (by show some (Value.bool l.labels)=_;rw [h2]);have hput:=ha1.put l.lab 7 (.string (l.s.extract l.at_ (runB isWd l.s l.at_))) rfl ha1.sz ha1.le))
   exact ⟨rfl,rfl,by first | (with_reducible assumption) | assumption⟩
  | true =>
   rw [if_pos rfl]
   cases h3:nameB l.lab.label with
   | false =>
    rw [if_neg (by decide)]
    have HN:=Lib.hid h3
    clear h3
    go_enter Tryz.func133,Tryz.ntmps133
    go_wp2_with (first | (go_at_call 103;refine (take_z asm _ (by decide) _ asm).mono ?_;rintro e w1 ⟨rfl,ha1⟩) | (go_at_call 101;refine (need_k asm _).mono ?_;rintro e w2 ⟨rfl,ha2⟩) | (go_at_call 99;refine (while_k (l:=l) asm 100 _ cls_word).mono ?_;rintro e w1 ⟨rfl,ha1⟩;have gf7:=ha1.ln.fz 7;have g7:=ha1.ln.c7;have g2:w1.cell? ⟨b,2,none⟩=some (.bool true):=ha1.ln.c2.trans (by show some (Value.bool l.labels)=_;rw [h2]);have hput:=ha1.put l.lab 7 (.string (l.s.extract l.at_ (runB isWd l.s l.at_))) rfl ha1.sz ha1.le) | (go_at_call 118;refine (isName_k asm _ _ (by exact HN.out) (by exact hsz)).mono ?_;rintro e w6 ⟨rfl,ha6⟩))
    exact ⟨rfl,rfl,by first | (with_reducible assumption) | assumption⟩
   | true =>
    rw [if_pos rfl]
    have HN:=Lib.hid h3
    clear h3
    go_enter Tryz.func133,Tryz.ntmps133
    go_wp2_with (first | (go_at_call 103;refine (take_z asm _ (by decide) _ asm).mono ?_;rintro e w1 ⟨rfl,ha1⟩) | (go_at_call 101;refine (need_k asm _).mono ?_;rintro e w2 ⟨rfl,ha2⟩) | (go_at_call 99;refine (while_k (l:=l) asm 100 _ cls_word).mono ?_;rintro e w1 ⟨rfl,ha1⟩;have gf7:=ha1.ln.fz 7;have g7:=ha1.ln.c7;have g2:w1.cell? ⟨b,2,none⟩=some (.bool true):=ha1.ln.c2.trans (by show some (Value.bool l.labels)=_;rw [h2]);have hput:=ha1.put l.lab 7 (.string (l.s.extract l.at_ (runB isWd l.s l.at_))) rfl ha1.sz ha1.le) | (go_at_call 118;refine (isName_k asm _ _ (by exact HN.out) (by exact hsz)).mono ?_;rintro e w6 ⟨rfl,ha6⟩))
    exact ⟨rfl,.tuple #[],results_none rfl _ _ _,rfl,by first | (with_reducible assumption) | assumption⟩
 | true =>
  rw [if_pos rfl]
  cases h2:l.next.hit 43 with
  | true =>
   rw [if_pos rfl]
   obtain ⟨c,hc⟩:∃ c,l.next.peek=c:=⟨_,rfl⟩
   obtain rfl:c=43:=hc.symm.trans (hit_peek h2)
   have HC:=Lib.hid hc
   have h2':(l.tk true).hit 43=true:=h2
   clear hc
   show Calls _ _ _ _ (OutV b w0 (L9.setF (formM l.op) (((l.tk true).tk true).dg false)))
   cases hd:((l.tk true).tk true).dg false with
   | none =>
    have HD:=fun (_:Unit)=>hd
    clear hd
    show Calls _ _ _ _ (OutV b w0 none)
    go_enter Tryz.func133,Tryz.ntmps133
    go_wp2_with (first | (go_at_call 153;refine (digits_n asm _ (by exact HD ())).mono ?_;rintro e w3 ⟨rfl,ha3⟩) | (go_at_call 103;refine (take_z asm _ (by decide) _ asm).mono ?_;rintro e w1 ⟨rfl,ha1⟩) | (go_at_call 101;refine (need_k asm _).mono ?_;rintro e w2 ⟨rfl,ha2⟩) | (go_at_call 124;refine (peek_k asm 43 (by exact HC.out)).mono ?_;rintro e w9 ⟨rfl,ha9⟩))
    exact ⟨rfl,rfl,by first | (with_reducible assumption) | assumption⟩
   | some q =>
    obtain ⟨o,l'⟩:=q
    have hop:l'.op=l.op:=(dg_op hd).trans rfl
    have HD:=fun (_:Unit)=>hd
    clear hd
    cases o with
    | none =>
     show Calls _ _ _ _ (OutV b w0 (some { l' with far:=true }))
     go_enter Tryz.func133,Tryz.ntmps133
     go_wp2_with (first | (go_at_call 153;refine (digits_f asm _ _ (by exact HD ())).mono ?_;rintro e w3 ⟨n,rfl,ha3⟩;have gf8:=ha3.ln.fz 8;have g8:=ha3.ln.c8) | (go_at_call 103;refine (take_z asm _ (by decide) _ asm).mono ?_;rintro e w1 ⟨rfl,ha1⟩) | (go_at_call 101;refine (need_k asm _).mono ?_;rintro e w2 ⟨rfl,ha2⟩) | (go_at_call 124;refine (peek_k asm 43 (by exact HC.out)).mono ?_;rintro e w9 ⟨rfl,ha9⟩))
     exact ⟨rfl,.tuple #[],results_none rfl _ _ _,rfl,ha3.put { l' with far:=true } 8 _ rfl ha3.sz ha3.le⟩
    | some v =>
     have hfld:=field_form (bS (nameM l.op)) (formM l.op)
     cases hf:fitsM (formM l.op) v with
     | false =>
      have hr:L9.setF (formM l.op) (some (some v,l'))=some { l' with far:=true }:=by simp [L9.setF,hf]
      rw [hr]
      go_enter Tryz.func133,Tryz.ntmps133
      go_wp2_with (first | (go_at_call 153;refine (digits_s asm _ _ _ (by exact HD ())).mono ?_;rintro e w3 ⟨rfl,ha3⟩;have g3:=ha3.ln.c3;rw [hop] at g3;have gf8:=ha3.ln.fz 8;have g8:=ha3.ln.c8) | (go_at_call 55;refine (kindOf_k asm _).mono ?_;rintro e w4 ⟨rfl,ha4⟩) | (go_at_call 80;refine (fits_k asm _ _ _ asm).mono ?_;rintro e w5 ⟨rfl,ha5⟩;have gf8:=ha5.ln.fz 8;have g8:=ha5.ln.c8;have gf6:=ha5.ln.fz 6;have g6:=ha5.ln.c6) | (go_at_call 103;refine (take_z asm _ (by decide) _ asm).mono ?_;rintro e w1 ⟨rfl,ha1⟩) | (go_at_call 101;refine (need_k asm _).mono ?_;rintro e w2 ⟨rfl,ha2⟩) | (go_at_call 124;refine (peek_k asm 43 (by exact HC.out)).mono ?_;rintro e w9 ⟨rfl,ha9⟩))
      exact ⟨rfl,.tuple #[],results_none rfl _ _ _,rfl,ha5.put { l' with far:=true } 8 _ rfl ha5.sz ha5.le⟩
     | true =>
      have hr:L9.setF (formM l.op) (some (some v,l'))=some { l' with far:=false,imm:=v }:=by simp [L9.setF,hf]
      rw [hr]
      go_enter Tryz.func133,Tryz.ntmps133
      go_wp2_with (first | (go_at_call 153;refine (digits_s asm _ _ _ (by exact HD ())).mono ?_;rintro e w3 ⟨rfl,ha3⟩;have g3:=ha3.ln.c3;rw [hop] at g3;have gf8:=ha3.ln.fz 8;have g8:=ha3.ln.c8) | (go_at_call 55;refine (kindOf_k asm _).mono ?_;rintro e w4 ⟨rfl,ha4⟩) | (go_at_call 80;refine (fits_k asm _ _ _ asm).mono ?_;rintro e w5 ⟨rfl,ha5⟩;have gf8:=ha5.ln.fz 8;have g8:=ha5.ln.c8;have gf6:=ha5.ln.fz 6;have g6:=ha5.ln.c6) | (go_at_call 103;refine (take_z asm _ (by decide) _ asm).mono ?_;rintro e w1 ⟨rfl,ha1⟩) | (go_at_call 101;refine (need_k asm _).mono ?_;rintro e w2 ⟨rfl,ha2⟩) | (go_at_call 124;refine (peek_k asm 43 (by exact HC.out)).mono ?_;rintro e w9 ⟨rfl,ha9⟩))
      exact ⟨rfl,.tuple #[],results_none rfl _ _ _,rfl,(ha5.put { l' with far:=false } 8 _ rfl ha5.sz ha5.le).put { l' with far:=false,imm:=v } 6 _ rfl ha5.sz ha5.le⟩
  | false =>
   rw [if_neg (by decide)]
   have h2':(l.tk true).hit 43=false:=h2
   cases h3:l.next.hit 45 with
   | true =>
    rw [if_pos rfl]
    obtain ⟨c,hc⟩:∃ c,l.next.peek=c:=⟨_,rfl⟩
    obtain rfl:c=45:=hc.symm.trans (hit_peek h3)
    have HC:=Lib.hid hc
    have h3':((l.tk true).tk false).hit 45=true:=h3
    clear hc
    show Calls _ _ _ _ (OutV b w0 (L9.setF (formM l.op) ((((l.tk true).tk false).tk true).dg true)))
    cases hd:(((l.tk true).tk false).tk true).dg true with
    | none =>
     have HD:=fun (_:Unit)=>hd
     clear hd
     show Calls _ _ _ _ (OutV b w0 none)
     go_enter Tryz.func133,Tryz.ntmps133
     go_wp2_with (first | (go_at_call 153;refine (digits_n asm _ (by exact HD ())).mono ?_;rintro e w3 ⟨rfl,ha3⟩) | (go_at_call 103;refine (take_z asm _ (by decide) _ asm).mono ?_;rintro e w1 ⟨rfl,ha1⟩) | (go_at_call 101;refine (need_k asm _).mono ?_;rintro e w2 ⟨rfl,ha2⟩) | (go_at_call 124;refine (peek_k asm 45 (by exact HC.out)).mono ?_;rintro e w9 ⟨rfl,ha9⟩))
     exact ⟨rfl,rfl,by first | (with_reducible assumption) | assumption⟩
    | some q =>
     obtain ⟨o,l'⟩:=q
     have hop:l'.op=l.op:=(dg_op hd).trans rfl
     have HD:=fun (_:Unit)=>hd
     clear hd
     cases o with
     | none =>
      show Calls _ _ _ _ (OutV b w0 (some { l' with far:=true }))
      go_enter Tryz.func133,Tryz.ntmps133
      go_wp2_with (first | (go_at_call 153;refine (digits_f asm _ _ (by exact HD ())).mono ?_;rintro e w3 ⟨n,rfl,ha3⟩;have gf8:=ha3.ln.fz 8;have g8:=ha3.ln.c8) | (go_at_call 103;refine (take_z asm _ (by decide) _ asm).mono ?_;rintro e w1 ⟨rfl,ha1⟩) | (go_at_call 101;refine (need_k asm _).mono ?_;rintro e w2 ⟨rfl,ha2⟩) | (go_at_call 124;refine (peek_k asm 45 (by exact HC.out)).mono ?_;rintro e w9 ⟨rfl,ha9⟩))
      exact ⟨rfl,.tuple #[],results_none rfl _ _ _,rfl,ha3.put { l' with far:=true } 8 _ rfl ha3.sz ha3.le⟩
     | some v =>
      have hfld:=field_form (bS (nameM l.op)) (formM l.op)
      cases hf:fitsM (formM l.op) v with
      | false =>
       have hr:L9.setF (formM l.op) (some (some v,l'))=some { l' with far:=true }:=by simp [L9.setF,hf]
       rw [hr]
       go_enter Tryz.func133,Tryz.ntmps133
       go_wp2_with (first | (go_at_call 153;refine (digits_s asm _ _ _ (by exact HD ())).mono ?_;rintro e w3 ⟨rfl,ha3⟩;have g3:=ha3.ln.c3;rw [hop] at g3;have gf8:=ha3.ln.fz 8;have g8:=ha3.ln.c8) | (go_at_call 55;refine (kindOf_k asm _).mono ?_;rintro e w4 ⟨rfl,ha4⟩) | (go_at_call 80;refine (fits_k asm _ _ _ asm).mono ?_;rintro e w5 ⟨rfl,ha5⟩;have gf8:=ha5.ln.fz 8;have g8:=ha5.ln.c8;have gf6:=ha5.ln.fz 6;have g6:=ha5.ln.c6) | (go_at_call 103;refine (take_z asm _ (by decide) _ asm).mono ?_;rintro e w1 ⟨rfl,ha1⟩) | (go_at_call 101;refine (need_k asm _).mono ?_;rintro e w2 ⟨rfl,ha2⟩) | (go_at_call 124;refine (peek_k asm 45 (by exact HC.out)).mono ?_;rintro e w9 ⟨rfl,ha9⟩))
       exact ⟨rfl,.tuple #[],results_none rfl _ _ _,rfl,ha5.put { l' with far:=true } 8 _ rfl ha5.sz ha5.le⟩
      | true =>
       have hr:L9.setF (formM l.op) (some (some v,l'))=some { l' with far:=false,imm:=v }:=by simp [L9.setF,hf]
       rw [hr]
       go_enter Tryz.func133,Tryz.ntmps133
       go_wp2_with (first | (go_at_call 153;refine (digits_s asm _ _ _ (by exact HD ())).mono ?_;rintro e w3 ⟨rfl,ha3⟩;have g3:=ha3.ln.c3;rw [hop] at g3;have gf8:=ha3.ln.fz 8;have g8:=ha3.ln.c8) | (go_at_call 55;refine (kindOf_k asm _).mono ?_;rintro e w4 ⟨rfl,ha4⟩) | (go_at_call 80;refine (fits_k asm _ _ _ asm).mono ?_;rintro e w5 ⟨rfl,ha5⟩;have gf8:=ha5.ln.fz 8;have g8:=ha5.ln.c8;have gf6:=ha5.ln.fz 6;have g6:=ha5.ln.c6) | (go_at_call 103;refine (take_z asm _ (by decide) _ asm).mono ?_;rintro e w1 ⟨rfl,ha1⟩) | (go_at_call 101;refine (need_k asm _).mono ?_;rintro e w2 ⟨rfl,ha2⟩) | (go_at_call 124;refine (peek_k asm 45 (by exact HC.out)).mono ?_;rintro e w9 ⟨rfl,ha9⟩))
       exact ⟨rfl,.tuple #[],results_none rfl _ _ _,rfl,(ha5.put { l' with far:=false } 8 _ rfl ha5.sz ha5.le).put { l' with far:=false,imm:=v } 6 _ rfl ha5.sz ha5.le⟩
   | false =>
    rw [if_neg (by decide)]
    obtain ⟨c,hc⟩:∃ c,l.next.peek=c:=⟨_,rfl⟩
    have h4:((c:Int) == 45)=false:=by
     rw [L9.hit_eq _ _ (by decide),hc] at h3
     rw [beq_eq_false_iff_ne] at h3 ⊢
     omega
    have HC:=Lib.hid hc
    have h3':((l.tk true).tk false).hit 45=false:=h3
    clear hc
    go_enter Tryz.func133,Tryz.ntmps133
    go_wp2_with (first | (go_at_call 103;refine (take_z asm _ (by decide) _ asm).mono ?_;rintro e w1 ⟨rfl,ha1⟩) | (go_at_call 101;refine (need_k asm _).mono ?_;rintro e w2 ⟨rfl,ha2⟩) | (go_at_call 124;refine (peek_k asm c (by exact HC.out)).mono ?_;rintro e w9 ⟨rfl,ha9⟩))
    exact ⟨rfl,rfl,by first | (with_reducible assumption) | assumption⟩
def L9.run:Rd→L9→Option L9
 | .a,l=>l.rA | .b,l=>l.rB | .num,l=>l.num | .mem,l=>l.mem | .addr,l=>l.addr | .target,l=>l.tgt
def L9.rest:List Rd→L9→Option L9
 | [],l=>some l
 | k :: ks,l=>if l.sk.hit 44=true then (match L9.run k l.sk.next.sk with | none=>none | some l2=>L9.rest ks l2) else none
def L9.part (i:Nat) (ks:List Rd) (l:L9):Option L9 :=
 match i,ks with
 | 0,[]=>some l
 | 0,k :: ks=>if l.sp=true then (match L9.run k l.sk with | none=>none | some l2=>L9.rest ks l2) else none
 | _+1,ks=>L9.rest ks l
def L9.mnE (l:L9):Nat:=runB isWd l.s l.at_
def L9.mnS (l:L9):ByteArray:=l.s.extract l.at_ l.mnE
def L9.mn (l:L9):L9:={ l.go l.mnE with op:=opOf l.mnS.data.toList }
def L9.fin (l:L9):Option L9:=if l.sk.at_=l.s.size then some l.sk else none
def L9.instr (l:L9):Option L9 :=
 if l.sk.mn.op=0 then none else (match L9.part 0 (readsM l.sk.mn.op) l.sk.mn with | none=>none | some l2=>l2.fin)
theorem enters_rd (k:Rd):∀ args w,(callFunc (rdF k) args).run Tryz.prog w=.ok (.enter (rdF k) args) w:=by
 cases k
 ·exact enters_of Tryz.func128 (by kernel_rfl) rfl
 ·exact enters_of Tryz.func131 (by kernel_rfl) rfl
 ·exact enters_of Tryz.func132 (by kernel_rfl) rfl
 ·exact enters_of Tryz.func130 (by kernel_rfl) rfl
 ·exact enters_of Tryz.func129 (by kernel_rfl) rfl
 ·exact enters_of Tryz.func133 (by kernel_rfl) rfl
theorem rd_any (b:Nat) (w0 w:World) (l:L9) (k:Rd) (ha:At b w0 w l):Calls Tryz.prog (rdF k) #[pt b] w (OutV b w0 (L9.run k l)):=by
 cases k
 ·exact regA_any b w0 w l ha
 ·exact regB_any b w0 w l ha
 ·exact number_any b w0 w l ha
 ·exact memory_any b w0 w l ha
 ·exact address_any b w0 w l ha
 ·exact target_any b w0 w l ha
section
variable {b:Nat} {w0 w:World} {l:L9}
theorem rd_s (ha:At b w0 w l) (k:Rd) (l':L9) (hr:L9.run k l=some l'):Calls Tryz.prog (rdF k) #[pt b] w fun x w'=>x=.returned (.tuple #[])∧At b w0 w' l':=by
 have h:=rd_any b w0 w l k ha
 rw [hr] at h
 exact h
theorem rd_n (ha:At b w0 w l) (k:Rd) (hr:L9.run k l=none):Calls Tryz.prog (rdF k) #[pt b] w fun x w'=>x=.panicked (thrown 22)∧Aft b w0 w':=by
 have h:=rd_any b w0 w l k ha
 rw [hr] at h
 exact h
theorem operation_k (ha:At b w0 w l) (s:ByteArray) (op:Int) (hop:opOf s.data.toList=op):Calls Tryz.prog 98 #[.string s] w fun x w'=>x=.returned (.int .i64 op)∧At b w0 w' l :=
 (operation_any s w ha.gw).mono fun x w' ⟨h1,h2⟩=>⟨by rw [h1,hop],ha.below h2⟩
def Fv (b:Nat) (w:World) (ad:Option Addr) (l:List Nat):Prop:=0 < l.length→∃ g,ad=some ⟨g,0,none⟩∧g≠b∧w.heap[g]?=some (Obj.cells (fnCells l) 163 (0,0))
theorem operands_k (ha:At b w0 w l) (op:Int) (h1:0≤op) (h2:op≤100) (ks:List Rd) (hks:readsM op=ks) (n:Nat) (hn:ks.length=n) :
  Calls Tryz.prog 102 #[.int .i64 op] w fun x w'=>∃ ad,x=.returned (.slice ad n n)∧Fv b w' ad (ks.map rdF)∧At b w0 w' l:=by
 refine (operands_any op w ha.gw h1 h2).mono ?_
 rintro x w' ⟨v,rfl,hv,hb⟩
 rw [hks] at hv
 rcases hv with ⟨g,rfl,hg,hc⟩ | ⟨h0,rfl⟩
 ·exact ⟨some ⟨g,0,none⟩,by rw [← hn,List.length_map],fun _=>⟨g,rfl,by have:=ha.ln.lt;omega,hc⟩,ha.below hb⟩
 ·have hk0:ks=[]:=List.map_eq_nil_iff.1 h0
  subst hk0
  subst hn
  exact ⟨none,rfl,fun h=>absurd h (by simp),ha.below hb⟩
end
theorem opOf_bd (n:List UInt8):0≤opOf n∧opOf n≤76:=by
 unfold opOf
 split
 ·rename_i i hi
  have:=List.mem_of_find?_eq_some hi
  simp at this
  omega
 ·split <;> decide
theorem drop_cons {α:Type} {l:List α} {k:Nat} (h:k < l.length):l.drop k=l[k] :: l.drop (k+1):=List.drop_eq_getElem_cons h
theorem instruction_any (b:Nat) (w0 w:World) (l:L9) (ha:At b w0 w l):Calls Tryz.prog 69 #[pt b] w (OutV b w0 l.instr):=by
 unfold L9.instr
 obtain ⟨op,hop⟩:∃ op,opOf l.sk.mnS.data.toList=op:=⟨_,rfl⟩
 have hbd:=opOf_bd l.sk.mnS.data.toList
 rw [hop] at hbd
 obtain ⟨l2,hl2⟩:∃ l2:L9,l2={ l.sk.go l.sk.mnE with op:=op }:=⟨_,rfl⟩
 have hmn:l.sk.mn=l2:=by rw [hl2,← hop];rfl
 have hl2o:l2.op=op:=by rw [hl2]
 rw [hmn,hl2o]
 have HOP:=Lib.hid (show opOf (l.sk.s.extract l.sk.at_ (runB isWd l.sk.s l.sk.at_)).data.toList=op from hop)
 have HL2:=Lib.hid hl2
 clear hop hl2 hmn
 by_cases h0:op=0
 ·subst h0
  rw [if_pos rfl]
  go_enter Tryz.func69,Tryz.ntmps69
  go_wp2_with (first
   | (go_at_call 97;refine (blanks_k (by assumption)).mono ?_;rintro e w1 ⟨rfl,ha1⟩)
   | (go_at_call 99;refine (while_k (by assumption) 100 _ cls_word).mono ?_;rintro e w2 ⟨rfl,ha2⟩)
   | (go_at_call 98;refine (operation_k (by assumption) _ 0 (by exact HOP.out)).mono ?_;rintro e w3 ⟨rfl,ha3⟩;have gf3:=ha3.ln.fz 3;have g3:=ha3.ln.c3;have hput:=ha3.put l2 3 (.int .i64 0) (by rw [HL2.out];rfl) (by rw [HL2.out];exact ha3.sz) (by rw [HL2.out];exact ha3.le))
   | (go_at_call 101;refine (need_k (by assumption) _).mono ?_;rintro e w2 ⟨rfl,ha2⟩))
  exact ⟨rfl,rfl,by assumption⟩
 ·rw [if_neg h0]
  have hne:(op == 0)=false:=beq_eq_false_iff_ne.2 h0
  have hne2:(op != 0)=true:=bne_iff_ne.2 h0
  obtain ⟨ks,hks⟩:∃ ks,readsM op=ks:=⟨_,rfl⟩
  rw [hks]
  obtain ⟨n,hn⟩:∃ n,ks.length=n:=⟨_,rfl⟩
  have hn3:n≤3:=by
   rw [← hn,← hks]
   unfold readsM
   repeat' split
   all_goals decide
  obtain ⟨R,hR⟩:∃ R:Option L9,L9.part 0 ks l2=R:=⟨_,rfl⟩
  rw [hR]
  have HR0:=Lib.hid hR
  clear hR
  have HKS:=Lib.hid hks
  have HN:=Lib.hid hn
  clear hks hn h0
  go_enter Tryz.func69,Tryz.ntmps69
  go_upto_block 0 with (first
   | (go_at_call 97;refine (blanks_k (by assumption)).mono ?_;rintro e w1 ⟨rfl,ha1⟩)
   | (go_at_call 99;refine (while_k (by assumption) 100 _ cls_word).mono ?_;rintro e w2 ⟨rfl,ha2⟩)
   | (go_at_call 98;refine (operation_k (by assumption) _ op (by exact HOP.out)).mono ?_;rintro e w3 ⟨rfl,ha3⟩;have gf3:=ha3.ln.fz 3;have g3:=ha3.ln.c3;have hput:=ha3.put l2 3 (.int .i64 op) (by rw [HL2.out];rfl) (by rw [HL2.out];exact ha3.sz) (by rw [HL2.out];exact ha3.le))
   | (go_at_call 101;refine (need_k (by assumption) _).mono ?_;rintro e w2 ⟨rfl,ha2⟩;have g3:w2.cell? ⟨b,3,none⟩=some (.int .i64 op):=ha2.ln.c3.trans (by rw [HL2.out]))
   | (go_at_call 102;refine (operands_k (by assumption) op (by omega) (by omega) ks HKS.out n HN.out).mono ?_;rintro e w5 ⟨ad,rfl,hfs,ha5⟩))
  have ha5:At b w0 w5 l2:=by assumption
  have hab:b < w5.heap.size:=ha5.ln.lt
  have hat:At b w5 w5 l2:=⟨ha5.ln,Aft.refl b w5,ha5.gw,ha5.b9,ha5.sz,ha5.le⟩
  have haf:=ha5.aft
  have hfv:0 < n→∃ g,ad=some ⟨g,0,none⟩∧g≠b∧w5.heap[g]?=some (Obj.cells (fnCells (ks.map rdF)) 163 (0,0)):=by
   intro h0
   exact hfs (by rw [List.length_map,HN.out];exact h0)
  clear hfs
  go_wp2
  go_loopw [28] (fun i wr=>∃ (k:Nat) (lk:L9),k≤n∧i=.int .i64 k∧At b w5 wr lk∧Hid (L9.part k (ks.drop k) lk=R)) (fun i _=>n - (intOf i).toNat)
  case atStart=>exact ⟨0,l2,by omega,rfl,hat,HR0⟩
  case round =>
   obtain ⟨k,lk,hk,rfl,hak,HP⟩:=hrel
   by_cases hlt:k < n
   ·obtain ⟨g,rfl,hgb,hgc⟩:=hfv (by omega)
    have hkl:k < ks.length:=by rw [HN.out];exact hlt
    have hgr:wr.heap[g]?=some (Obj.cells (fnCells (ks.map rdF)) 163 (0,0)):=(hak.aft.block g (Array.getElem?_eq_some_iff.1 hgc).1 hgb).trans hgc
    have hcell:wr.cell? ⟨g,k,none⟩=some (.func (.func (rdF ks[k])) #[] #[]):=by
     rw [blk_cell hgr]
     simp [fnCells,hkl]
    have hen:=enters_rd ks[k]
    clear hgr hgc
    have hp0:L9.part k (ks.drop k) lk=L9.part k (ks[k] :: ks.drop (k+1)) lk:=by rw [drop_cons hkl]
    have HP1:=Lib.hid (hp0.symm.trans HP.out)
    clear hp0 HP
    by_cases hk0:k=0
    ·subst hk0
     cases hsp:lk.sp with
     | false =>
      have hRn:R=none:=by rw [← HP1.out];simp [L9.part,hsp]
      subst hRn
      go_wp2_with (first | (go_at_call 97;refine (blanks_k (by assumption)).mono ?_;rintro e w1 ⟨rfl,ha1⟩;rw [hsp]) | (go_at_call 101;refine (need_k (by assumption) _).mono ?_;rintro e w2 ⟨rfl,ha2⟩))
      exact ⟨rfl,rfl,haf.trans (by assumption)⟩
     | true =>
      have hP2:(match L9.run ks[0] lk.sk with | none=>none | some l2=>L9.rest (ks.drop 1) l2)=R:=by rw [← HP1.out];simp [L9.part,hsp]
      cases hr:L9.run ks[0] lk.sk with
      | none =>
       rw [hr] at hP2
       subst hP2
       have HR:=Lib.hid hr
       clear hr
       go_wp2_with (first | (go_at_call 97;refine (blanks_k (by assumption)).mono ?_;rintro e w1 ⟨rfl,ha1⟩;rw [hsp]) | (go_at_call 101;refine (need_k (by assumption) _).mono ?_;rintro e w2 ⟨rfl,ha2⟩) | (go_at_fn (rdF ks[0]);refine (rd_n (by assumption) ks[0] (by exact HR.out)).mono ?_;rintro e w6 ⟨rfl,ha6⟩))
       exact ⟨rfl,rfl,haf.trans (by assumption)⟩
      | some lz =>
       rw [hr] at hP2
       have HP2:=Lib.hid hP2
       have HR:=Lib.hid hr
       clear hr hP2
       go_wp2_with (first | (go_at_call 97;refine (blanks_k (by assumption)).mono ?_;rintro e w1 ⟨rfl,ha1⟩;rw [hsp]) | (go_at_call 101;refine (need_k (by assumption) _).mono ?_;rintro e w2 ⟨rfl,ha2⟩) | (go_at_fn (rdF ks[0]);refine (rd_s (by assumption) ks[0] lz (by exact HR.out)).mono ?_;rintro e w6 ⟨rfl,ha6⟩))
       go_roundw
       case rel=>exact ⟨1,lz,by omega,rfl,by assumption,HP2⟩
       case measure=>simp [intOf];omega
    ·have hk0':((k:Int) == 0)=false:=beq_eq_false_iff_ne.2 (by omega)
     obtain ⟨k',rfl⟩:∃ k',k=k'+1:=⟨k - 1,by omega⟩
     cases h44:lk.sk.hit 44 with
     | false =>
      have hRn:R=none:=by rw [← HP1.out];simp [L9.part,L9.rest,h44]
      subst hRn
      go_wp2_with (first | (go_at_call 97;refine (blanks_k (by assumption)).mono ?_;rintro e w1 ⟨rfl,ha1⟩) | (go_at_call 101;refine (need_k (by assumption) _).mono ?_;rintro e w2 ⟨rfl,ha2⟩) | (go_at_call 103;refine (take_k (by assumption) 44 _ (by assumption)).mono ?_;rintro e w1 ⟨rfl,ha1⟩))
      exact ⟨rfl,rfl,haf.trans (by assumption)⟩
     | true =>
      have hP2:(match L9.run ks[k'+1] (lk.sk.tk true).sk with | none=>none | some l2=>L9.rest (ks.drop (k'+1+1)) l2)=R:=by rw [← HP1.out];simp [L9.part,L9.rest,h44];rfl
      cases hr:L9.run ks[k'+1] (lk.sk.tk true).sk with
      | none =>
       rw [hr] at hP2
       subst hP2
       have HR:=Lib.hid hr
       clear hr
       go_wp2_with (first | (go_at_call 97;refine (blanks_k (by assumption)).mono ?_;rintro e w1 ⟨rfl,ha1⟩) | (go_at_call 101;refine (need_k (by assumption) _).mono ?_;rintro e w2 ⟨rfl,ha2⟩) | (go_at_call 103;refine (take_k (by assumption) 44 _ (by assumption)).mono ?_;rintro e w1 ⟨rfl,ha1⟩) | (go_at_fn (rdF ks[k'+1]);refine (rd_n (by assumption) ks[k'+1] (by exact HR.out)).mono ?_;rintro e w6 ⟨rfl,ha6⟩))
       exact ⟨rfl,rfl,haf.trans (by assumption)⟩
      | some lz =>
       rw [hr] at hP2
       have HP2:=Lib.hid hP2
       have HR:=Lib.hid hr
       clear hr hP2
       go_wp2_with (first | (go_at_call 97;refine (blanks_k (by assumption)).mono ?_;rintro e w1 ⟨rfl,ha1⟩) | (go_at_call 101;refine (need_k (by assumption) _).mono ?_;rintro e w2 ⟨rfl,ha2⟩) | (go_at_call 103;refine (take_k (by assumption) 44 _ (by assumption)).mono ?_;rintro e w1 ⟨rfl,ha1⟩) | (go_at_fn (rdF ks[k'+1]);refine (rd_s (by assumption) ks[k'+1] lz (by exact HR.out)).mono ?_;rintro e w6 ⟨rfl,ha6⟩))
       go_roundw
       case rel=>exact ⟨k'+1+1,lz,by omega,by go_num,by assumption,HP2⟩
       case measure=>simp [intOf];omega
   ·obtain rfl:k=n:=by omega
    have hRs:R=some lk:=by
     rw [← HP.out,List.drop_of_length_le (by rw [HN.out];exact Nat.le_refl _)]
     cases k <;> rfl
    subst hRs
    go_upto_region 14 with (first | (go_at_call 97;refine (blanks_k (by assumption)).mono ?_;rintro e w1 ⟨rfl,ha1⟩))
    have hk1:At b w5 w1 lk.sk:=by assumption
    have g0:w1.cell? ⟨b,0,none⟩=some (.string lk.s):=hk1.ln.c0
    obtain ⟨e,he⟩:∃ e,lk.sk.at_=e:=⟨_,rfl⟩
    have g1:w1.cell? ⟨b,1,none⟩=some (.int .i64 (e:Int)):=by rw [← he];exact hk1.ln.c1
    have hfin:lk.fin=if e=lk.s.size then some lk.sk else none:=by unfold L9.fin;rw [he]
    have HF:=Lib.hid hfin
    clear hfin
    by_cases hes:e=lk.s.size
    ·have HF1:=Lib.hid (HF.out.trans (if_pos hes))
     have HE:=Lib.hid he
     clear he
     subst hes
     go_still_tail 11,(by kernel_rfl)
     go_wp2_with (go_at_call 101;refine (need_tk (hk1.drewN _)).mono ?_;rintro e w2 ⟨rfl,hk2⟩)
     refine ⟨rfl,.tuple #[],results_none rfl _ _ _,?_⟩
     show OutV b w0 lk.fin _ _
     rw [HF1.out]
     exact ⟨rfl,hk2.ln,haf.trans hk2.aft,hk2.gw,hk2.b9,hk2.sz,hk2.le⟩
    ·have HF1:=Lib.hid (HF.out.trans (if_neg hes))
     have h1:((e:Int) == (lk.s.size:Int))=false:=beq_eq_false_iff_ne.2 (by omega)
     have h2:(e == lk.s.size)=false:=beq_eq_false_iff_ne.2 hes
     have HE:=Lib.hid he
     clear he hes
     go_still_tail 11,(by kernel_rfl)
     go_wp2_with (go_at_call 101;refine (need_fk (hk1.drewN _)).mono ?_;rintro e w2 ⟨rfl,ha2⟩)
     refine ⟨rfl,?_⟩
     show OutV b w0 lk.fin _ _
     rw [HF1.out]
     exact ⟨rfl,haf.trans ha2⟩
def L9.wdS (l:L9):ByteArray:=l.s.extract l.at_ (runB isWd l.s l.at_)
def L9.wdL (l:L9):L9:=l.go (runB isWd l.s l.at_)
def L9.nm (l:L9):ByteArray × L9 :=
 if nameB l.sk.wdS=true then (if l.sk.wdL.sk.hit 58=true then (l.sk.wdS,l.sk.wdL.sk.next) else (⟨#[]⟩,l.sk)) else (⟨#[]⟩,l.sk)
theorem wdS_size (l:L9) (h:l.s.size≤1000000):l.wdS.size≤1000000:=by
 unfold L9.wdS
 rw [ByteArray.size_extract]
 omega
theorem name_any (b:Nat) (w0 w:World) (l:L9) (ha:At b w0 w l):Calls Tryz.prog 112 #[pt b] w fun x w'=>x=.returned (.string l.nm.1)∧At b w0 w' l.nm.2:=by
 have hsz:l.sk.wdS.size≤1000000:=wdS_size _ ha.sz
 obtain ⟨s,hs⟩:∃ s,l.sk.wdS=s:=⟨_,rfl⟩
 have hs1:l.sk.s.extract l.sk.at_ (runB isWd l.sk.s l.sk.at_)=s:=hs
 unfold L9.nm
 rw [hs] at hsz ⊢
 have HS:=Lib.hid hs1
 clear hs hs1
 have hle:l.sk.at_≤l.sk.s.size:=(runB_le _ _ _ ha.le).2
 cases h1:nameB s with
 | false =>
  rw [if_neg (by decide)]
  have H1:=Lib.hid h1
  clear h1
  go_enter Tryz.func112,Tryz.ntmps112
  go_upto_region 2 with (go_at_call 97;refine (blanks_k (by assumption)).mono ?_;rintro e w1 ⟨rfl,ha1⟩)
  have hx:At b w0 w1 l.sk:=by assumption
  have g1:=hx.ln.c1
  go_wp2_with (first | (go_at_call 97;refine (blanks_k (by assumption)).mono ?_;rintro e w1 ⟨rfl,ha1⟩) | (go_at_call 99;refine (while_k (by assumption) 100 _ cls_word).mono ?_;rw [HS.out];rintro e w2 ⟨rfl,ha2⟩) | (go_at_call 118;refine (isName_k (by assumption) _ _ (by exact H1.out) hsz).mono ?_;rintro e w3 ⟨rfl,ha3⟩;have g3:=ha3.ln.c1;have f3:=ha3.ln.fz 1))
  go_ret
  exact ⟨rfl,ha3.put l.sk 1 _ rfl ha.sz hle⟩
 | true =>
  rw [if_pos rfl]
  have H1:=Lib.hid h1
  clear h1
  cases h2:l.sk.wdL.sk.hit 58 with
  | false =>
   rw [if_neg (by decide)]
   go_enter Tryz.func112,Tryz.ntmps112
   go_upto_region 2 with (go_at_call 97;refine (blanks_k (by assumption)).mono ?_;rintro e w1 ⟨rfl,ha1⟩)
   have hx:At b w0 w1 l.sk:=by assumption
   have g1:=hx.ln.c1
   go_wp2_with (first | (go_at_call 97;refine (blanks_k (by assumption)).mono ?_;rintro e w1 ⟨rfl,ha1⟩) | (go_at_call 99;refine (while_k (by assumption) 100 _ cls_word).mono ?_;rw [HS.out];rintro e w2 ⟨rfl,ha2⟩) | (go_at_call 118;refine (isName_k (by assumption) _ _ (by exact H1.out) hsz).mono ?_;rintro e w3 ⟨rfl,ha3⟩) | (go_at_call 103;refine (take_k (by assumption) 58 _ (by assumption)).mono ?_;rintro e w4 ⟨rfl,ha4⟩;have g4:=ha4.ln.c1;have f4:=ha4.ln.fz 1))
   go_ret
   exact ⟨rfl,ha4.put l.sk 1 _ rfl ha.sz hle⟩
  | true =>
   rw [if_pos rfl]
   go_enter Tryz.func112,Tryz.ntmps112
   go_upto_region 2 with (go_at_call 97;refine (blanks_k (by assumption)).mono ?_;rintro e w1 ⟨rfl,ha1⟩)
   have hx:At b w0 w1 l.sk:=by assumption
   have g1:=hx.ln.c1
   go_wp2_with (first | (go_at_call 97;refine (blanks_k (by assumption)).mono ?_;rintro e w1 ⟨rfl,ha1⟩) | (go_at_call 99;refine (while_k (by assumption) 100 _ cls_word).mono ?_;rw [HS.out];rintro e w2 ⟨rfl,ha2⟩) | (go_at_call 118;refine (isName_k (by assumption) _ _ (by exact H1.out) hsz).mono ?_;rintro e w3 ⟨rfl,ha3⟩) | (go_at_call 103;refine (take_k (by assumption) 58 _ (by assumption)).mono ?_;rintro e w4 ⟨rfl,ha4⟩))
   go_ret
   exact ⟨rfl,by assumption⟩
theorem blanks_v {b:Nat} {w0 w:World} {l:L9} (ha:At b w0 w l) (v:Bool) (hv:l.sp=v):Calls Tryz.prog 97 #[pt b] w fun x w'=>x=.returned (.bool v)∧At b w0 w' l.sk:=by
 rw [← hv]
 exact blanks_k ha
def funcL:List UInt8:=[46,102,117,110,99]
def L9.pre (l:L9):Bool:=Lib.hasPrefix (l.s.extract l.at_ l.s.size).data.toList funcL
def L9.five (l:L9):L9:=l.go (l.at_+5)
def L9.dir2 (l:L9):Option (Option ByteArray × L9) :=
 if l.sp=true then (if nameB l.sk.wdS=true then (if l.sk.wdL.sk.at_=l.s.size then some (some l.sk.wdS,l.sk.wdL.sk) else none) else none) else none
def L9.dir (l:L9):Option (Option ByteArray × L9):=if l.pre=true then l.five.dir2 else some (none,l)
def OutDir (b:Nat) (w0:World) (r:Option (Option ByteArray × L9)) (x:Ending) (w':World):Prop :=
 match r with
 | none=>x=.panicked (thrown 22)∧Aft b w0 w'
 | some (none,l')=>x=.returned (.tuple #[.string ⟨#[]⟩,.bool false])∧At b w0 w' l'
 | some (some n,l')=>x=.returned (.tuple #[.string n,.bool true])∧At b w0 w' l'
theorem pre_five {l:L9} (h:l.pre=true) (hle:l.at_≤l.s.size):l.at_+5≤l.s.size:=by
 unfold L9.pre Lib.hasPrefix at h
 have h1:funcL.length≤(l.s.extract l.at_ l.s.size).data.toList.length:=by
  first | exact (List.isPrefixOf_iff_prefix.1 h).length_le | (simp at h;exact h.length_le) | exact h.1
 simp [funcL,ByteArray.size_extract] at h1
 omega
theorem directive_any (b:Nat) (w0 w:World) (l:L9) (ha:At b w0 w l):Calls Tryz.prog 113 #[pt b] w (OutDir b w0 l.dir):=by
 unfold L9.dir
 have g0:=ha.ln.c0
 have g1:=ha.ln.c1
 have f1:=ha.ln.fz 1
 have hle:=ha.le
 have hsz:=ha.sz
 cases hp:l.pre with
 | false =>
  rw [if_neg (by decide)]
  have HP:=Lib.hid hp
  clear hp
  go_enter Tryz.func113,Tryz.ntmps113
  go_wp2
  go_quiet ((go_at_call 142;exact Calls.quiet_of_same ((Tryz.strings_HasPrefix _ _ _).mono fun e w' hh=>⟨hh.1.trans (ret_bool (by exact HP.out)),hh.2⟩)))
  go_wp2
  go_ret2
  exact ⟨rfl,ha.drewN _⟩
 | true =>
  rw [if_pos rfl]
  have h5:=pre_five hp hle
  have HP:=Lib.hid hp
  clear hp
  obtain ⟨R,hR⟩:∃ R,l.five.dir2=R:=⟨_,rfl⟩
  rw [hR]
  have HR:=Lib.hid hR
  clear hR
  go_enter Tryz.func113,Tryz.ntmps113
  go_wp2
  go_quiet ((go_at_call 142;exact Calls.quiet_of_same ((Tryz.strings_HasPrefix _ _ _).mono fun e w' hh=>⟨hh.1.trans (ret_bool (by exact HP.out)),hh.2⟩)))
  go_upto_region 4 with fail
  have hat:At b w0 _ l.five:=(ha.drewN nq).put l.five 1 (.int .i64 ((l.at_:Int)+5)) rfl ha.sz h5
  cases hsp:l.five.sp with
  | false =>
   have hr:R=none:=by rw [← HR.out];simp [L9.dir2,hsp]
   subst hr
   have HSP:=Lib.hid hsp
   clear hsp
   go_wp2_with (first | (go_at_call 97;refine (blanks_v (l:=l.five) (by assumption) _ HSP.out).mono ?_;rintro e w1 ⟨rfl,ha1⟩) | (go_at_call 101;refine (need_k (by assumption) _).mono ?_;rintro e w2 ⟨rfl,ha2⟩))
   exact ⟨rfl,rfl,by assumption⟩
  | true =>
   have HSP:=Lib.hid hsp
   clear hsp
   have hss:l.five.sk.wdS.size≤1000000:=wdS_size _ ha.sz
   obtain ⟨s,hs⟩:∃ s,l.five.sk.wdS=s:=⟨_,rfl⟩
   have hs1:l.five.sk.s.extract l.five.sk.at_ (runB isWd l.five.sk.s l.five.sk.at_)=s:=hs
   rw [hs] at hss
   have HS0:=Lib.hid hs
   have HS:=Lib.hid hs1
   clear hs hs1
   cases hn:nameB s with
   | false =>
    have hr:R=none:=by rw [← HR.out];simp [L9.dir2,HSP.out,HS0.out,hn]
    subst hr
    have HN:=Lib.hid hn
    clear hn
    go_wp2_with (first | (go_at_call 97;refine (blanks_v (l:=l.five) (by assumption) _ HSP.out).mono ?_;rintro e w1 ⟨rfl,ha1⟩) | (go_at_call 101;refine (need_k (by assumption) _).mono ?_;rintro e w2 ⟨rfl,ha2⟩) | (go_at_call 99;refine (while_k (l:=l.five.sk) (by assumption) 100 _ cls_word).mono ?_;rw [HS.out];rintro e w2 ⟨rfl,ha2⟩) | (go_at_call 118;refine (isName_k (by assumption) _ _ (by exact HN.out) hss).mono ?_;rintro e w3 ⟨rfl,ha3⟩))
    exact ⟨rfl,rfl,by assumption⟩
   | true =>
    have HN:=Lib.hid hn
    clear hn
    go_upto_region 8 with (first | (go_at_call 97;refine (blanks_v (l:=l.five) (by assumption) _ HSP.out).mono ?_;rintro e w1 ⟨rfl,ha1⟩) | (go_at_call 101;refine (need_k (by assumption) _).mono ?_;rintro e w2 ⟨rfl,ha2⟩) | (go_at_call 99;refine (while_k (l:=l.five.sk) (by assumption) 100 _ cls_word).mono ?_;rw [HS.out];rintro e w2 ⟨rfl,ha2⟩) | (go_at_call 118;refine (isName_k (by assumption) _ _ (by exact HN.out) hss).mono ?_;rintro e w3 ⟨rfl,ha3⟩) | (go_at_call 97;refine (blanks_k (by assumption)).mono ?_;rintro e w1 ⟨rfl,ha1⟩))
    have hx:At b w0 w1 l.five.sk.wdL.sk:=by assumption
    have g0':w1.cell? ⟨b,0,none⟩=some (.string l.s):=hx.ln.c0
    obtain ⟨e,he⟩:∃ e,l.five.sk.wdL.sk.at_=e:=⟨_,rfl⟩
    have g1':w1.cell? ⟨b,1,none⟩=some (.int .i64 (e:Int)):=by rw [← he];exact hx.ln.c1
    have hfin:R=if e=l.s.size then some (some s,l.five.sk.wdL.sk) else none:=by
     rw [← HR.out,← he]
     simp [L9.dir2,HSP.out,HS0.out,HN.out]
     rfl
    clear he
    by_cases hes:e=l.s.size
    ·rw [if_pos hes] at hfin
     subst hfin
     subst hes
     go_still_tail 11,(by kernel_rfl)
     go_wp2_with (go_at_call 101;refine (need_tk (hx.drewN _)).mono ?_;rintro e w2 ⟨rfl,hk2⟩)
     go_ret2
     exact ⟨rfl,hk2⟩
    ·rw [if_neg hes] at hfin
     subst hfin
     have h2:(e == l.s.size)=false:=beq_eq_false_iff_ne.2 hes
     have h3:((e:Int) == (l.s.size:Int))=false:=beq_eq_false_iff_ne.2 (by omega)
     clear hes
     go_still_tail 11,(by kernel_rfl)
     go_wp2_with (go_at_call 101;refine (need_fk (hx.drewN _)).mono ?_;rintro e w2 ⟨rfl,ha2⟩)
     exact ⟨rfl,rfl,ha2⟩
end Go.Proofs.YtffojmgmpfjlhaaGreatDoor
namespace Go.Proofs.YtffojmgmpfjlhaaGreatDoor
open Go.RowKit Go.Proofs.Ix YtffojmgmpfjlhaaGreatDoorW.PrintWords Go.ChangeShapes Go.WideShapes Go.MapKept Go.Maps Go.ChangeMaps
def Mp (w:World) (m:Nat) (L:List (ByteArray × Nat)):Prop :=
 ∃ es clock,w.heap[m]?=some (.map es clock)∧(es.toList.map (fun e:MapEntry=>(e.key,e.val))=L.map fun p=>(Value.string p.1,Value.int .i64 (p.2:Int)))∧∀ p∈L,p.1.size≤1000000
theorem Mp.lt {w:World} {m:Nat} {L:List (ByteArray × Nat)} (h:Mp w m L):m < w.heap.size:=by
 obtain ⟨es,c,hb,_⟩:=h
 exact (Array.getElem?_eq_some_iff.1 hb).1
theorem Mp.keep {w w':World} {m:Nat} {L:List (ByteArray × Nat)} (h:Mp w m L) (e:w'.heap[m]?=w.heap[m]?):Mp w' m L:=by
 obtain ⟨es,c,hb,h2⟩:=h
 exact ⟨es,c,e.trans hb,h2⟩
theorem keyed9:Keyed Tryz.prog 9:=string_keyed Tryz.underlying9
theorem keyOf9 (s:ByteArray) (hs:s.size≤1000000):∃ l,keyOf Tryz.prog 9 (.string s)=some l:=⟨.string s.data.toList,by simp [keyOf,mapKey,Tryz.underlying9];unfold maxLen;omega⟩
def lookB (L:List (ByteArray × Nat)) (s:ByteArray):Option Nat:=(L.find? fun p=>decide (p.1=s)).map (·.2)
theorem Mp.mem {L:List (ByteArray × Nat)} {l:List MapEntry} (h:l.map (fun e:MapEntry=>(e.key,e.val))=L.map fun p=>(Value.string p.1,Value.int .i64 (p.2:Int))) :
  ∀ e∈l,∃ p∈L,e.key=.string p.1∧e.val=.int .i64 (p.2:Int):=by
 intro e he
 have h1:(e.key,e.val)∈L.map fun p=>(Value.string p.1,Value.int .i64 (p.2:Int)):=by rw [← h];exact List.mem_map_of_mem he
 obtain ⟨p,hp,h2⟩:=List.mem_map.1 h1
 exact ⟨p,hp,(Prod.mk.inj h2).1.symm,(Prod.mk.inj h2).2.symm⟩
theorem Mp.mem' {L:List (ByteArray × Nat)} {l:List MapEntry} (h:l.map (fun e:MapEntry=>(e.key,e.val))=L.map fun p=>(Value.string p.1,Value.int .i64 (p.2:Int))) :
  ∀ p∈L,∃ e∈l,e.key=.string p.1:=by
 intro p hp
 have h1:(Value.string p.1,Value.int .i64 (p.2:Int))∈l.map fun e:MapEntry=>(e.key,e.val):=by rw [h];exact List.mem_map_of_mem (f:=fun p:ByteArray × Nat=>(Value.string p.1,Value.int .i64 (p.2:Int))) hp
 obtain ⟨e,he,h2⟩:=List.mem_map.1 h1
 exact ⟨e,he,(Prod.mk.inj h2).1⟩
def Dist (L:List (ByteArray × Nat)):Prop:=∀ p∈L,∀ q∈L,p.1=q.1→p.2=q.2
theorem lookB_none {L:List (ByteArray × Nat)} {s:ByteArray} (h:lookB L s=none):∀ p∈L,p.1≠s:=by
 unfold lookB at h
 simpa using h
theorem lookB_some {L:List (ByteArray × Nat)} {s:ByteArray} {v:Nat} (h:lookB L s=some v):∃ p∈L,p.1=s∧p.2=v:=by
 unfold lookB at h
 rw [Option.map_eq_some_iff] at h
 obtain ⟨p,h1,h2⟩:=h
 exact ⟨p,List.mem_of_find?_eq_some h1,by simpa using List.find?_some h1,h2⟩
theorem lookB_of {L:List (ByteArray × Nat)} (hd:Dist L) {p:ByteArray × Nat} (hp:p∈L):lookB L p.1=some p.2:=by
 cases h:lookB L p.1 with
 | none=>exact absurd rfl (lookB_none h p hp)
 | some v =>
  obtain ⟨q,hq,h1,h2⟩:=lookB_some h
  rw [← h2,hd q hq p hp h1]
theorem Mp.look {w:World} {m:Nat} {L:List (ByteArray × Nat)} (h:Mp w m L) (hd:Dist L) (s:ByteArray) (c:Bool) (hsz:s.size≤1000000) :
  (Instr.lookup 120 (.map (some m)) (.string s) c).run Tryz.prog w=.ok (match lookB L s with | some v=>(if c then .tuple #[.int .i64 (v:Int),.bool true] else .int .i64 (v:Int)) | none=>(if c then .tuple #[.int .i64 0,.bool false] else .int .i64 0)) w:=by
 obtain ⟨es,clock,hb,hL,hz9⟩:=h
 obtain ⟨kl,hkey⟩:=keyOf9 s hsz
 have hz:(zeroValue 3).run Tryz.prog w=.ok (.int .i64 0) w:=Tryz.zeroValue3 w
 rcases keyed9.find w hkey es.toList (fun e he=>by obtain ⟨p,hp,h1,_⟩:=Mp.mem hL e he;rw [h1];exact keyOf9 p.1 (hz9 p hp)) with ⟨h1,h2⟩ | ⟨j,e0,h1,h2,h3⟩
 ·have hn:lookB L s=none:=by
   cases hl:lookB L s with
   | none=>rfl
   | some v =>
    obtain ⟨p,hp,e1,_⟩:=lookB_some hl
    obtain ⟨e,he,h4⟩:=Mp.mem' hL p hp
    exact absurd (by rw [h4,e1]) (h2 e he)
  rw [hn]
  simp [Instr.lookup,run_underlying Tryz.underlying120,MapKept.run_getObj_map hb,keyed9.check w _ hkey,h1,hz,Result.andThen]
 ·obtain ⟨p,hp,h4,h5⟩:=Mp.mem hL e0 (List.mem_of_getElem? h2)
  have hs:p.1=s:=(Value.string.inj (h3.symm.trans h4)).symm
  have hl:lookB L s=some p.2:=by rw [← hs];exact lookB_of hd hp
  rw [hl]
  simp [Instr.lookup,run_underlying Tryz.underlying120,MapKept.run_getObj_map hb,keyed9.check w _ hkey,h1,hz,h5,Result.andThen]
theorem Mp.put {w:World} {m:Nat} {L:List (ByteArray × Nat)} (h:Mp w m L) (s:ByteArray) (n:Nat) (hsz:s.size≤1000000) (hno:lookB L s=none) :
  ∃ w',(Instr.mapUpdate 120 (.map (some m)) (.string s) (.int .i64 (n:Int))).run Tryz.prog w=.ok () w'∧Mp w' m (L ++ [(s,n)])∧Aft m w w'∧w'.heap.size=w.heap.size:=by
 obtain ⟨es,clock,hb,hL,hz9⟩:=h
 obtain ⟨kl,hkey⟩:=keyOf9 s hsz
 rcases keyed9.find w hkey es.toList (fun e he=>by obtain ⟨p,hp,h1,_⟩:=Mp.mem hL e he;rw [h1];exact keyOf9 p.1 (hz9 p hp)) with ⟨h1,h2⟩ | ⟨j,e0,h1,h2,h3⟩
 ·refine ⟨setBlock w m (.map (es.push ⟨.string s,.int .i64 (n:Int),clock⟩) (clock+1)),?_,⟨_,_,heap_setBlock_same hb _,?_,?_⟩,⟨rfl,rfl,rfl,by simp [setBlock],fun k _ hk=>heap_setBlock_other hb _ hk⟩,by simp [setBlock]⟩
  ·simp [Instr.mapUpdate,run_underlying Tryz.underlying120,MapKept.run_getObj_map hb,keyed9.check w false hkey,h1,MapKept.run_setObj_map _ hb,Result.andThen,setBlock]
  ·rw [Array.toList_push,List.map_append,hL,List.map_append]
   rfl
  ·intro p hp
   rcases List.mem_append.1 hp with h | h
   ·exact hz9 p h
   ·rw [List.mem_singleton] at h;subst h;exact hsz
 ·obtain ⟨p,hp,h4,h5⟩:=Mp.mem hL e0 (List.mem_of_getElem? h2)
  have hs:p.1=s:=(Value.string.inj (h3.symm.trans h4)).symm
  exact absurd hs (lookB_none hno p hp)
theorem Dist.snoc {L:List (ByteArray × Nat)} (h:Dist L) {s:ByteArray} (n:Nat) (hno:lookB L s=none):Dist (L ++ [(s,n)]):=by
 intro p hp q hq e
 rw [List.mem_append,List.mem_singleton] at hp hq
 rcases hp with hp | rfl <;> rcases hq with hq | rfl
 ·exact h p hp q hq e
 ·exact absurd e (lookB_none hno p hp)
 ·exact absurd e.symm (lookB_none hno q hq)
 ·rfl
end Go.Proofs.YtffojmgmpfjlhaaGreatDoor
namespace Go.Proofs.YtffojmgmpfjlhaaGreatDoor
open Go.RowKit Go.Proofs.Ix YtffojmgmpfjlhaaGreatDoorW.PrintWords
structure En where
 l:L9
 no:Nat
 at_:Nat
structure Az where
 no:Nat
 size:Nat
 list:List En
 labels:List (ByteArray × Nat)
 funcs:List ByteArray
def En.cs (e:En):List Value:=e.l.cs.toList ++ [.int .i64 (e.no:Int),.int .i64 (e.at_:Int)]
abbrev rowE (l:List En):List Value:=l.flatMap En.cs
abbrev rowS (l:List ByteArray):List Value:=l.map Value.string
structure AW (B:Nat) (w:World) (A m:Nat) (z:Az) (vl vf:Value):Prop where
 blk:w.heap[A]?=some (.cells #[.int .i64 (z.no:Int),.int .i64 (z.size:Int),vl,.map (some m),vf] 123 (0,0))
 list:w.ownsRow B 173 11 vl z.list.length (rowE z.list)
 funcs:w.ownsRow B 9 1 vf z.funcs.length (rowS z.funcs)
 map:Mp w m z.labels
 dist:Dist z.labels
 gw:GW w
 b9:9≤B
 bA:9≤A
 bm:9≤m
 bB:B≤w.heap.size
 s1:z.size≤2060
 s2:z.funcs.length≤40
 s3:z.list.length≤20001
theorem AW.ltA {B A m:Nat} {w:World} {z:Az} {vl vf:Value} (h:AW B w A m z vl vf):A < w.heap.size:=(Array.getElem?_eq_some_iff.1 h.blk).1
theorem own_keep {w w':World} {B E n k:Nat} {v:Value} {xs:List Value} (h:w.ownsRow B E n v k xs) (hb:∀ (g:Nat) (c:Array Value),w.heap[g]?=some (Obj.cells c E (0,0))→w'.heap[g]?=w.heap[g]?):w'.ownsRow B E n v k xs:=by
 obtain ⟨h1,h2⟩:=h
 refine ⟨h1,?_⟩
 rcases h2 with h2 | ⟨g,cap,cur,e1,e2,e3,e4⟩
 ·exact .inl h2
 ·exact .inr ⟨g,cap,cur,e1,e2,(hb g _ e3).trans e3,e4⟩
theorem AW.keep {B A m:Nat} {w w':World} {z:Az} {vl vf:Value} (h:AW B w A m z vl vf) (b:Nat)
  (hbT:∀ c,w.heap[b]?=some c→∃ cs t,c=Obj.cells cs t (0,0)∧t≠123∧t≠173∧t≠9) (hb9:9≤b) (hsz:w.heap.size≤w'.heap.size) (hk:∀ k,k < w.heap.size→k≠b→w'.heap[k]?=w.heap[k]?):AW B w' A m z vl vf:=by
 have hall:∀ (g:Nat) (o:Obj),w.heap[g]?=some o→(∀ cs t,o=Obj.cells cs t (0,0)→t=123∨t=173∨t=9)→w'.heap[g]?=w.heap[g]?:=by
  intro g o hg ho
  refine hk g (Array.getElem?_eq_some_iff.1 hg).1 ?_
  rintro rfl
  obtain ⟨cs,t,e,e1,e2,e3⟩:=hbT o hg
  rcases ho cs t e with h | h | h
  ·exact e1 h
  ·exact e2 h
  ·exact e3 h
 refine ⟨(hall A _ h.blk (fun cs t e=>.inl (by cases e;rfl))).trans h.blk,own_keep h.list fun g c e=>hall g _ e (fun cs t e=>.inr (.inl (by cases e;rfl))),own_keep h.funcs fun g c e=>hall g _ e (fun cs t e=>.inr (.inr (by cases e;rfl))),?_,h.dist,?_,h.b9,h.bA,h.bm,Nat.le_trans h.bB hsz,h.s1,h.s2,h.s3⟩
 ·obtain ⟨es,c,hm,_⟩:=h.map
  exact h.map.keep (hall m _ hm (fun cs t e=>by cases e))
 ·exact h.gw.of_low fun k hk9=>hk k (by have:=h.gw.size;omega) (by omega)
theorem AW.below {B A m:Nat} {w w':World} {z:Az} {vl vf:Value} (h:AW B w A m z vl vf) (hb:Below w.heap.size w w'):AW B w' A m z vl vf :=
 h.keep w.heap.size (fun c hc=>absurd (Array.getElem?_eq_some_iff.1 hc).1 (Nat.lt_irrefl _)) (by have:=h.bA;have:=h.ltA;omega) hb.size (fun k hk _=>hb.block k hk)
theorem AW.aft {B A m b:Nat} {w w':World} {z:Az} {vl vf:Value} {l:L9} (h:AW B w A m z vl vf) (hl:Ln w b l) (hb:9≤b) (ha:Aft b w w'):AW B w' A m z vl vf :=
 h.keep b (fun c hc=>by unfold Ln at hl;rw [hl] at hc;cases hc;exact ⟨_,_,rfl,by decide,by decide,by decide⟩) hb ha.size ha.block
theorem AW.drew {B A m:Nat} {w:World} {z:Az} {vl vf:Value} (h:AW B w A m z vl vf):AW B w.drew A m z vl vf :=
 h.below ⟨rfl,rfl,rfl,Nat.le_refl _,fun _ _=>rfl⟩
theorem AW.drewN {B A m:Nat} {w:World} {z:Az} {vl vf:Value} (h:AW B w A m z vl vf) (n:Nat):AW B (w.drewN n) A m z vl vf :=
 h.below ⟨rfl,rfl,rfl,Nat.le_refl _,fun _ _=>rfl⟩
theorem AW.labels {B A m:Nat} {w w':World} {z:Az} {vl vf:Value} {L:List (ByteArray × Nat)} (h:AW B w A m z vl vf) (ha:Aft m w w') (hm:Mp w' m L) (hd:Dist L):AW B w' A m { z with labels:=L } vl vf:=by
 obtain ⟨es,c,hmb,_⟩:=h.map
 have hk:∀ (g:Nat) (cs:Array Value) (t:TypeId),w.heap[g]?=some (Obj.cells cs t (0,0))→w'.heap[g]?=w.heap[g]?:=by
  intro g cs t hg
  refine ha.block g (Array.getElem?_eq_some_iff.1 hg).1 ?_
  rintro rfl
  rw [hmb] at hg
  cases hg
 exact ⟨(hk A _ _ h.blk).trans h.blk,own_keep h.list fun g c e=>hk g _ _ e,own_keep h.funcs fun g c e=>hk g _ _ e,hm,hd,ha.gw h.gw h.bm,h.b9,h.bA,h.bm,Nat.le_trans h.bB ha.size,h.s1,h.s2,h.s3⟩
structure Blo (A m B:Nat) (w w':World):Prop where
 os:w'.os=w.os
 tape:w'.tape=w.tape
 output:w'.output=w.output
 size:w.heap.size≤w'.heap.size
 block:∀ k,k < w.heap.size→k < B→k≠A→k≠m→w'.heap[k]?=w.heap[k]?
section
variable {A m B:Nat} {w w1 w2:World}
theorem Blo.refl (A m B:Nat) (w:World):Blo A m B w w:=⟨rfl,rfl,rfl,Nat.le_refl _,fun _ _ _ _ _=>rfl⟩
theorem Blo.trans (h:Blo A m B w w1) (h':Blo A m B w1 w2):Blo A m B w w2 :=
 ⟨h'.os.trans h.os,h'.tape.trans h.tape,h'.output.trans h.output,Nat.le_trans h.size h'.size,fun k hk hB hA hm=>(h'.block k (Nat.lt_of_lt_of_le hk h.size) hB hA hm).trans (h.block k hk hB hA hm)⟩
theorem Blo.of_below (h:Below w.heap.size w w1):Blo A m B w w1:=⟨h.os,h.tape,h.output,h.size,fun k hk _ _ _=>h.block k hk⟩
theorem Blo.below (h:Blo A m B w w1) (h':Below w1.heap.size w1 w2):Blo A m B w w2:=h.trans (Blo.of_below h')
theorem Blo.alloc (h:Blo A m B w w1) (o:Obj):Blo A m B w (w1.alloc o):=h.below ((Below.refl _ _).alloc (Nat.le_refl _) _)
theorem Blo.drew (h:Blo A m B w w1):Blo A m B w w1.drew:=h.below ⟨rfl,rfl,rfl,Nat.le_refl _,fun _ _=>rfl⟩
theorem Blo.drewN (h:Blo A m B w w1) (n:Nat):Blo A m B w (w1.drewN n):=h.below ⟨rfl,rfl,rfl,Nat.le_refl _,fun _ _=>rfl⟩
theorem Blo.setA (h:Blo A m B w w1) (i:Nat) (v:Value):Blo A m B w (w1.setCell ⟨A,i,none⟩ v) :=
 ⟨h.os,h.tape,h.output,by simpa [World.setCell] using h.size,fun k hk hB hA hm=>(Below.heap_setCell w1 ⟨A,i,none⟩ v k (by exact hA)).trans (h.block k hk hB hA hm)⟩
theorem Blo.aft {b:Nat} (h:Blo A m B w w1) (h':Aft b w1 w2) (hb:B≤b∨b=m):Blo A m B w w2 :=
 h.trans ⟨h'.os,h'.tape,h'.output,h'.size,fun k hk hB hA hm=>h'.block k hk (by rcases hb with hb | hb <;> omega)⟩
theorem Blo.grown {row:Option Nat} (h:Blo A m B w w1) (hg:w1.grownBy w2 row) (hr:∀ k,row=some k→B≤k):Blo A m B w w2 :=
 h.trans ⟨hg.os,hg.tape,hg.output,hg.size,fun k hk hB hA hm=>hg.block k hk (fun e=>by have:=hr k e.symm;omega)⟩
end
section
variable {B A m:Nat} {w:World} {z:Az} {vl vf:Value}
theorem define_n (h:AW B w A m z vl vf) (s:ByteArray) (hsz:s.size≤1000000) (v:Nat) (hl:lookB z.labels s=some v) :
  Calls Tryz.prog 114 #[pt A,.string s] w fun x w'=>x=.panicked (thrown 23)∧w=w':=by
 have hc:w.cell? ⟨A,3,none⟩=some (.map (some m)):=(blk_cell h.blk 3).trans rfl
 have hlk:=h.map.look h.dist s true hsz
 rw [hl] at hlk
 simp only [if_true] at hlk
 go_enter Tryz.func114,Tryz.ntmps114
 go_wp2
 exact ⟨rfl,rfl,rfl⟩
theorem define_s (h:AW B w A m z vl vf) (s:ByteArray) (hsz:s.size≤1000000) (hl:lookB z.labels s=none) :
  Calls Tryz.prog 114 #[pt A,.string s] w fun x w'=>x=.returned (.tuple #[])∧AW B w' A m { z with labels:=z.labels ++ [(s,z.size)] } vl vf∧Aft m w w':=by
 have hc:w.cell? ⟨A,3,none⟩=some (.map (some m)):=(blk_cell h.blk 3).trans rfl
 have hc1:w.cell? ⟨A,1,none⟩=some (.int .i64 (z.size:Int)):=(blk_cell h.blk 1).trans rfl
 have hlk:=h.map.look h.dist s true hsz
 rw [hl] at hlk
 simp only [if_true] at hlk
 obtain ⟨w2,hrun,hm2,ha2,hz2⟩:=(h.drew).map.put s z.size hsz hl
 go_enter Tryz.func114,Tryz.ntmps114
 go_upto_region 3 with fail
 go_still_tail 9,(by kernel_rfl)
 go_wp2
 refine ⟨rfl,.tuple #[],results_none rfl _ _ _,rfl,?_,?_⟩
 ·exact h.drew.labels ha2 hm2 (h.dist.snoc _ hl)
 ·exact (Aft.refl m w).drew.trans ha2
end
theorem info9:(Tryz.prog.info? 9).map (fun i=>(i.zero,i.size,i.bytes))=some (some (.string ⟨#[]⟩),1,16):=by kernel_rfl
theorem info173:(Tryz.prog.info? 173).map (fun i=>(i.zero,i.size,i.bytes))=some (some (.agg #[.string ⟨#[]⟩,.int .i64 0,.bool false,.int .i64 0,.int .i64 0,.int .i64 0,.int .i64 0,.string ⟨#[]⟩,.bool false,.int .i64 0,.int .i64 0]),11,104):=by kernel_rfl
theorem own_type {w:World} {B E n k:Nat} {v:Value} {xs:List Value} (h:w.ownsRow B E n v k xs) {g:Nat} (hg:v.ownBlock=some g):∃ c,w.heap[g]?=some (Obj.cells c E (0,0)):=by
 obtain ⟨_,⟨rfl,_⟩ | ⟨g',cap,cur,rfl,_,e3,_⟩⟩:=h
 ·cases hg
 ·cases hg
  exact ⟨cur,e3⟩
theorem keep_of {w w':World} {row:Option Nat} (hg:w.grownBy w' row) {g:Nat} {o:Obj} (ho:w.heap[g]?=some o) (hne:row≠some g):w'.heap[g]?=some o :=
 (hg.block g (Array.getElem?_eq_some_iff.1 ho).1 (fun e=>hne e.symm)).trans ho
section
variable {B A m:Nat} {w w9:World} {z:Az} {vl vf v':Value}
theorem AW.pushF (h:AW B w A m z vl vf) (hg:w.grownBy w9 vf.ownBlock) (n:ByteArray) (g cap:Nat)
  (hown:w9.ownsRow B 9 1 (.slice (some ⟨g,0,none⟩) (z.funcs.length+1) cap) (z.funcs.length+1) (rowS z.funcs ++ [.string n])) (hl:z.funcs.length < 40) (hgl:vf.ownBlock=some g∨g=w.heap.size) :
  w9.heap[A]?=w.heap[A]?∧AW B (w9.setCell ⟨A,4,none⟩ (.slice (some ⟨g,0,none⟩) (z.funcs.length+1) cap)) A m { z with funcs:=z.funcs ++ [n] } vl (.slice (some ⟨g,0,none⟩) (z.funcs.length+1) cap):=by
 have hT:∀ {g:Nat} {o:Obj},w.heap[g]?=some o→(∀ c,o≠Obj.cells c 9 (0,0))→w9.heap[g]?=some o:=fun {g o} ho hn=>keep_of hg ho (fun e=>by
  obtain ⟨c,hc⟩:=own_type h.funcs e
  rw [ho] at hc
  cases hc
  exact hn _ rfl)
 have hA9:=hT h.blk (fun c e=>by cases e)
 have hS:∀ (k:Nat),k≠A→(w9.setCell ⟨A,4,none⟩ (.slice (some ⟨g,0,none⟩) (z.funcs.length+1) cap)).heap[k]?=w9.heap[k]?:=fun k hk=>Below.heap_setCell _ _ _ _ (by exact hk)
 have hgA:g≠A:=by
  rintro rfl
  obtain ⟨c,hc⟩:=own_type hown rfl
  rw [hA9] at hc
  cases hc
 obtain ⟨es,c,hm,hm2⟩:=h.map
 have hm9:=hT hm (fun c e=>by cases e)
 have hmA:m≠A:=by rintro rfl;rw [h.blk] at hm;cases hm
 refine ⟨hA9.trans h.blk.symm,blk_put hA9 4 _ rfl,?_,?_,⟨es,c,(hS m hmA).trans hm9,hm2⟩,h.dist,?_,h.b9,h.bA,h.bm,Nat.le_trans h.bB (Nat.le_trans hg.size (by simp [World.setCell])),h.s1,by simp;omega,h.s3⟩
 ·refine own_keep h.list fun k c e=>?_
  have h9:=hT e (fun c e=>by cases e)
  exact ((hS k (by rintro rfl;rw [hA9] at h9;cases h9)).trans h9).trans e.symm
 ·show World.ownsRow _ B 9 1 _ (z.funcs ++ [n]).length (rowS (z.funcs ++ [n]))
  rw [show rowS (z.funcs ++ [n])=rowS z.funcs ++ [.string n] by simp [rowS],List.length_append,List.length_singleton]
  refine own_keep hown fun k c e=>hS k ?_
  rintro rfl
  rw [hA9] at e
  cases e
 ·refine GW.setCell (w:=w9) (h.gw.of_low fun k hk=>hg.block k (by have:=h.gw.size;omega) ?_) (by exact h.bA) _
  intro e
  have:=h.funcs.lt k e.symm
  have:=h.b9
  omega
theorem AW.pushE (h:AW B w A m z vl vf) (hg:w.grownBy w9 vl.ownBlock) (en:En) (g cap:Nat)
  (hown:w9.ownsRow B 173 11 (.slice (some ⟨g,0,none⟩) (z.list.length+1) cap) (z.list.length+1) (rowE z.list ++ en.cs)) (hl:z.list.length≤20000) :
  w9.heap[A]?=w.heap[A]?∧AW B (w9.setCell ⟨A,2,none⟩ (.slice (some ⟨g,0,none⟩) (z.list.length+1) cap)) A m { z with list:=z.list ++ [en] } (.slice (some ⟨g,0,none⟩) (z.list.length+1) cap) vf:=by
 have hT:∀ {g:Nat} {o:Obj},w.heap[g]?=some o→(∀ c,o≠Obj.cells c 173 (0,0))→w9.heap[g]?=some o:=fun {g o} ho hn=>keep_of hg ho (fun e=>by
  obtain ⟨c,hc⟩:=own_type h.list e
  rw [ho] at hc
  cases hc
  exact hn _ rfl)
 have hA9:=hT h.blk (fun c e=>by cases e)
 have hS:∀ (k:Nat),k≠A→(w9.setCell ⟨A,2,none⟩ (.slice (some ⟨g,0,none⟩) (z.list.length+1) cap)).heap[k]?=w9.heap[k]?:=fun k hk=>Below.heap_setCell _ _ _ _ (by exact hk)
 obtain ⟨es,c,hm,hm2⟩:=h.map
 have hm9:=hT hm (fun c e=>by cases e)
 have hmA:m≠A:=by rintro rfl;rw [h.blk] at hm;cases hm
 refine ⟨hA9.trans h.blk.symm,blk_put hA9 2 _ rfl,?_,?_,⟨es,c,(hS m hmA).trans hm9,hm2⟩,h.dist,?_,h.b9,h.bA,h.bm,Nat.le_trans h.bB (Nat.le_trans hg.size (by simp [World.setCell])),h.s1,h.s2,by simp;omega⟩
 ·have hr:rowE (z.list ++ [en])=rowE z.list ++ en.cs:=by simp [rowE]
  show World.ownsRow _ B 173 11 _ (z.list ++ [en]).length (rowE (z.list ++ [en]))
  rw [hr,List.length_append,List.length_singleton]
  refine own_keep hown fun k c e=>hS k ?_
  rintro rfl
  rw [hA9] at e
  cases e
 ·refine own_keep h.funcs fun k c e=>?_
  have h9:=hT e (fun c e=>by cases e)
  exact ((hS k (by rintro rfl;rw [hA9] at h9;cases h9)).trans h9).trans e.symm
 ·refine GW.setCell (w:=w9) (h.gw.of_low fun k hk=>hg.block k (by have:=h.gw.size;omega) ?_) (by exact h.bA) _
  intro e
  have:=h.list.lt k e.symm
  have:=h.b9
  omega
theorem AW.setSize (h:AW B w A m z vl vf) (k:Nat) (hk:k≤2060):AW B (w.setCell ⟨A,1,none⟩ (.int .i64 (k:Int))) A m { z with size:=k } vl vf:=by
 have hS:∀ (g:Nat),g≠A→(w.setCell ⟨A,1,none⟩ (.int .i64 (k:Int))).heap[g]?=w.heap[g]?:=fun g hg=>Below.heap_setCell _ _ _ _ (by exact hg)
 have hne:∀ (g:Nat) (o:Obj),w.heap[g]?=some o→(∀ cs,o≠Obj.cells cs 123 (0,0))→g≠A:=by
  rintro g o hg ho rfl
  rw [h.blk] at hg
  cases hg
  exact ho _ rfl
 obtain ⟨es,c,hm,_⟩:=h.map
 exact ⟨blk_put h.blk 1 _ rfl,own_keep h.list fun g c e=>hS g (hne g _ e (fun cs e=>by cases e)),own_keep h.funcs fun g c e=>hS g (hne g _ e (fun cs e=>by cases e)),h.map.keep (hS m (hne m _ hm (fun cs e=>by cases e))),h.dist,
  h.gw.setCell (by exact h.bA) _,h.b9,h.bA,h.bm,Nat.le_trans h.bB (by simp [World.setCell]),hk,h.s2,h.s3⟩
end
theorem length_f (f:Int):Q.insn_length.f 1 f=some (lenM f:Int):=by
 unfold Q.insn_length.f lenM
 have hb:Q.insn_bytesOf.f 1 f=some (bytesM f:Int):=by
  unfold Q.insn_bytesOf.f bytesM
  by_cases h3:f=3
  ·subst h3;rfl
  ·by_cases h4:f=4
   ·subst h4;rfl
   ·by_cases h5:f=5
    ·subst h5;rfl
    ·by_cases h6:f=6
     ·subst h6;rfl
     ·by_cases h7:f=7
      ·subst h7;rfl
      ·by_cases h8:f=8
       ·subst h8;rfl
       ·simp [h3,h4,h5,h6,h7,h8,Q.insn_bytesOf.j0]
 have ha:Q.insn_hasA.f f=some (hasA f):=by
  unfold Q.insn_hasA.f hasA
  by_cases h1:1≤f <;> by_cases h5:f≤5 <;> simp [h1,h5] <;> omega
 have hbm:bytesM f≤10:=by unfold bytesM;(repeat' split) <;> omega
 rw [hb,ha]
 simp only [Option.bind_some]
 have w1:wrap64 (1+(bytesM f:Int))=1+bytesM f:=by simp only [wrap64];omega
 have w2:wrap64 (1+(bytesM f:Int)+1)=1+bytesM f+1:=by simp only [wrap64];omega
 rw [w1]
 cases hasA f
 ·simp
 ·rw [if_pos rfl,w2]
  simp
theorem wrap_sum {a b c:Nat} (h:a+b=c) (hc:c≤1000000):wrap64 ((a:Int)+(b:Int))=(c:Int):=by
 simp only [wrap64]
 omega
theorem lenM_bd (f:Int):1≤lenM f∧lenM f≤12:=by
 unfold lenM
 have hbm:bytesM f≤10:=by unfold bytesM;(repeat' split) <;> omega
 split <;> omega
end Go.Proofs.YtffojmgmpfjlhaaGreatDoor
namespace Go.Proofs.YtffojmgmpfjlhaaGreatDoor
open Go.RowKit Go.Proofs.Ix
def immI:Nat→Int→List Int
 | 0,_=>[]
 | k+1,v=>((Go.bits .and .i64 v 127) % 256) :: immI k (v / 128)
def encI (op a b imm:Int):List Int :=
 ((wrap64 (128+op)) % 256) :: ((if hasB (formM op)=true then [(wrap64 ((wrap64 (8 * a))+b)) % 256] else if hasA (formM op)=true then [a % 256] else []) ++ immI (bytesM (formM op)) imm)
theorem bytesOf_f (k:Nat) (f:Int):Q.insn_bytesOf.f (k+1) f=some (bytesM f:Int):=by
 unfold Q.insn_bytesOf.f bytesM
 by_cases h3:f=3
 ·subst h3;rfl
 ·by_cases h4:f=4
  ·subst h4;rfl
  ·by_cases h5:f=5
   ·subst h5;rfl
   ·by_cases h6:f=6
    ·subst h6;rfl
    ·by_cases h7:f=7
     ·subst h7;rfl
     ·by_cases h8:f=8
      ·subst h8;rfl
      ·simp [h3,h4,h5,h6,h7,h8,Q.insn_bytesOf.j0]
theorem hasA_f (f:Int):Q.insn_hasA.f f=some (hasA f):=by
 unfold Q.insn_hasA.f hasA
 by_cases h1:1≤f <;> by_cases h5:f≤5 <;> simp [h1,h5] <;> omega
theorem hasB_f (f:Int):Q.insn_hasB.f f=some (hasB f):=by
 unfold Q.insn_hasB.f hasB
 by_cases h1:f=1 <;> simp [h1]
theorem immI_len (k:Nat) (v:Int):(immI k v).length=k:=by
 induction k generalizing v with
 | zero=>rfl
 | succ k ih=>simp [immI,ih]
theorem wrap_succ {i:Nat} (h:i≤1000000):wrap64 ((i:Int)+1)=((i+1:Nat):Int):=by
 simp only [wrap64]
 omega
theorem appended_l0 (d:Nat):∀ (fuel i n:Nat) (x:List Int) (v:Int),i+d=n→n≤10→d < fuel→x.length+d < 1000000→Q.insn_appended.l0 fuel x v (n:Int) (i:Int)=some (x ++ immI d v):=by
 induction d with
 | zero =>
  intro fuel i n x v h1 h2 h3 h4
  obtain ⟨k,rfl⟩:∃ k,fuel=k+1:=⟨fuel - 1,by omega⟩
  unfold Q.insn_appended.l0
  rw [if_neg (by omega)]
  simp [immI]
 | succ d ih =>
  intro fuel i n x v h1 h2 h3 h4
  obtain ⟨k,rfl⟩:∃ k,fuel=k+1:=⟨fuel - 1,by omega⟩
  unfold Q.insn_appended.l0
  rw [if_pos (by omega),if_pos (by omega),wrap_succ (by omega),ih k (i+1) n _ _ (by omega) h2 (by omega) (by simp;omega)]
  simp [immI]
theorem encI_len (op a b imm:Int):(encI op a b imm).length≤12:=by
 unfold encI
 have hbm:bytesM (formM op)≤10:=by unfold bytesM;(repeat' split) <;> omega
 simp only [List.length_cons,List.length_append,immI_len]
 split
 ·simp;omega
 ·split <;> simp <;> omega
theorem appended_f (l:List Int) (op a b imm:Int) (h:l.length≤900000):Q.insn_appended.f 20 l op a b imm=some (l ++ encI op a b imm):=by
 have hbm:bytesM (formM op)≤10:=by unfold bytesM;(repeat' split) <;> omega
 have hj:∀ x:List Int,x.length≤900002→Q.insn_appended.j0 20 x (formM op) op a b imm=some (x ++ immI (bytesM (formM op)) imm):=by
  intro x hx
  show Q.insn_appended.j0 (19+1) x (formM op) op a b imm=_
  rw [Q.insn_appended.j0,show (19:Nat)=18+1 from rfl,bytesOf_f]
  simp only [Option.bind_some]
  exact appended_l0 _ _ 0 _ _ _ (by omega) hbm (by omega) (by omega)
 unfold Q.insn_appended.f Q.insn_kindOf.f
 simp only [Option.bind_some]
 rw [if_pos (by omega),hasB_f,hasA_f]
 simp only [Option.bind_some]
 unfold encI
 cases hasB (formM op) with
 | true =>
  simp only [if_true]
  rw [if_pos (by simp;omega),hj _ (by simp;omega)]
  simp
 | false =>
  simp only [Bool.false_eq_true,if_false]
  cases hasA (formM op) with
  | true =>
   simp only [if_true]
   rw [if_pos (by simp;omega),hj _ (by simp;omega)]
   simp
  | false =>
   simp only [Bool.false_eq_true,if_false]
   rw [hj _ (by simp;omega)]
   simp
end Go.Proofs.YtffojmgmpfjlhaaGreatDoor
namespace Go.Proofs.YtffojmgmpfjlhaaGreatDoor
open Go.RowKit Go.Proofs.Ix YtffojmgmpfjlhaaGreatDoorW.PrintWords
theorem catch_thrown (p:Nat) (c:Int) (w:World) (hb:w.heap[p]?=some (.cells #[.int .i64 0] 26 (0,0))) :
  CallsD Tryz.prog 96 #[.pointer (some ⟨p,0,none⟩)] (.panicking (thrown c)) w fun e u' w' =>
   e=.returned (.tuple #[])∧u'=.panicking [{ v:=.iface 155 (.agg #[.int .i64 c]),recovered:=true }]∧w'.heap[p]?=some (.cells #[.int .i64 c] 26 (0,0))∧Aft p w w':=by
 refine callsD_of_wpS Tryz.func96 rfl fun c₀ cs hu=>?_
 simp only [Tryz.ntmps96,List.size_toArray,List.length_cons,List.length_nil,Nat.reduceAdd,Nat.reduceSub,Array.replicate_succ,Array.replicate_zero,List.push_toArray,List.append_toArray,List.nil_append,List.cons_append]
 have hcp:w.cell? ⟨p,0,none⟩=some (.int .i64 0):=(blk_cell hb 0).trans rfl
 have hfz:w.frozen? ⟨p,0,none⟩=false:=blk_frozen hb 0
 have hta:∀ (c:Int) (W:World),(Instr.typeAssert (.iface 155 (.agg #[.int .i64 c])) 20 155 true).run Tryz.prog W=.ok (.tuple #[.agg #[.int .i64 c],.bool true]) W:=fun c W=>by kernel_rfl
 have hlt:p < w.heap.size:=(Array.getElem?_eq_some_iff.1 hb).1
 apply wpS_seq
 apply wpS_region
 unfold thrown at hu
 simp [wpOpsS,go_sem,recoverD,hu,Exit.thenS]
 refine wpS_of_wp ?_
 go_wp2
 have hb1:=blk_put hb 0 (.int .i64 c) rfl
 have hz:(w.setCell ⟨p,0,none⟩ (.int .i64 c)).heap.size=w.heap.size:=by simp [World.setCell]
 refine ⟨rfl,_,rfl,.tuple #[],results_none rfl _ _ _,rfl,rfl,(Below.heap_alloc _ _ _ (by rw [hz];exact hlt)).trans hb1,?_⟩
 exact ((Aft.refl p w).set 0 _).below ((Below.refl _ _).alloc (Nat.le_refl _) _)
theorem catch_idle (p:Nat) (w:World) :
  CallsD Tryz.prog 96 #[.pointer (some ⟨p,0,none⟩)] .returning w fun e u' w'=>e=.returned (.tuple #[])∧u'=.returning∧w'=w:=by
 refine callsD_of_wpS Tryz.func96 rfl fun c₀ cs hu=>?_
 simp only [Tryz.ntmps96,List.size_toArray,List.length_cons,List.length_nil,Nat.reduceAdd,Nat.reduceSub,Array.replicate_succ,Array.replicate_zero,List.push_toArray,List.append_toArray,List.nil_append,List.cons_append]
 apply wpS_seq
 apply wpS_region
 simp [wpOpsS,go_sem,recoverD,hu,Exit.thenS]
 refine wpS_of_wp ?_
 go_wp2
 refine ⟨rfl,.returning,?_,.tuple #[],results_none rfl _ _ _,rfl,rfl,rfl⟩
 cases c₀
 simp_all
def GdEnd (p:Nat) (R:Int→World→Prop) (x:Ending) (w':World):Prop :=
 ∃ c,(c=0∧x=.returned (.tuple #[])∨x=.panicked (thrown c))∧w'.heap[p]?=some (.cells #[.int .i64 0] 26 (0,0))∧R c w'
theorem guarded_any (g:Nat) (first cap:Array Value) (w:World) (R:Int→World→Prop) (eg:∀ args w,(callFunc g args).run Tryz.prog w=.ok (.enter g args) w)
  (h:Calls Tryz.prog g (first ++ cap) (w.alloc (.cells #[.int .i64 0] 26)) (GdEnd w.heap.size R)) :
  Calls Tryz.prog 68 #[.func (.func g) first cap] w fun x w''=>∃ c w',x=.returned (.int .i64 c)∧R c w'∧Aft w.heap.size w' w'':=by
 have hmf:∀ (fn:Fn) (first cap:Array Value) (w:World),(Instr.makeFunc fn first cap).run Tryz.prog w=.ok (.func fn first cap) w:=fun _ _ _ _=>rfl
 go_enter_defers Tryz.func68,Tryz.ntmps68
 go_wp2_with fail
 go_at_fn g
 refine h.mono ?_
 rintro e w1 ⟨c,hx,hp,hr⟩
 have hcp:w1.cell? ⟨w.heap.size,0,none⟩=some (.int .i64 0):=(blk_cell hp 0).trans rfl
 have hfz:w1.frozen? ⟨w.heap.size,0,none⟩=false:=blk_frozen hp 0
 rcases hx with ⟨rfl,rfl⟩ | rfl
 ·go_wp2
  refine leaves_cons (f:=96) (args:=#[.pointer (some ⟨w.heap.size,0,none⟩)]) (by simp) (by simp [go_sem]) ?_
  refine (catch_idle _ _).mono ?_
  rintro e u' w'' ⟨rfl,rfl,rfl⟩
  have hc2:(w1.setCell ⟨w.heap.size,0,none⟩ (.int .i64 0)).cell? ⟨w.heap.size,0,none⟩=some (.int .i64 0):=(blk_cell (blk_put hp 0 _ rfl) 0).trans rfl
  simp [Leaves,settle,results,Tryz.results68,go_sem,hc2]
  exact ⟨w1,hr,(Aft.refl _ w1).set 0 _⟩
 ·go_wp2
  refine leaves_cons (f:=96) (args:=#[.pointer (some ⟨w.heap.size,0,none⟩)]) (by simp) (by simp [go_sem]) ?_
  refine (catch_thrown _ _ _ hp).mono ?_
  rintro e u' w'' ⟨rfl,rfl,hb2,ha2⟩
  have hc2:w''.cell? ⟨w.heap.size,0,none⟩=some (.int .i64 c):=(blk_cell hb2 0).trans rfl
  simp [Leaves,settle,results,Tryz.results68,go_sem,hc2]
  exact ⟨w1,hr,ha2⟩
end Go.Proofs.YtffojmgmpfjlhaaGreatDoor
