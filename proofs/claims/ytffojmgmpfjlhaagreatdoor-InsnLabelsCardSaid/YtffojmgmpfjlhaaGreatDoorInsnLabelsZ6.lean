/- Parts of the proof: InsnLabels: a text whose targets are labels has the code of the text whose targets are distances: the law returns true for every input; the inputs read as they did; the package-level variables hold what the program's text lays in them: the tied card. -/
import Derived.Test.YtffojmgmpfjlhaaGreatDoorInsnLabelsZ5
import Derived.Deep.Slices
import Derived.Deep.Fields
import Derived.ChangeSame
import Derived.ChangeSlices
import Derived.Lib.SmallJoins
set_option linter.unusedVariables false
set_option linter.unusedSimpArgs false
namespace Go.Proofs.YtffojmgmpfjlhaaGreatDoor.Q
open Go.Proofs.Ix hiding rd
open Go Go.Proofs.YtffojmgmpfjlhaaGreatDoor Go.RowKit Go.Proofs.YtffojmgmpfjlhaaGreatDoorW.PrintWords
theorem labf_fin:∀ n:Fin 80,lzlabel.f (n.val:Int)=some (bS (labW n.val)):=by decide +kernel
theorem lab_f {n:Nat} (h:n < 80):lzlabel.f (n:Int)=some (bS (labW n)):=labf_fin ⟨n,h⟩
theorem branch_f (op:Int):insn_isBranch.f op=some (isT op):=by
 unfold insn_isBranch.f isT
 by_cases h1:op≥21
 ·rw [if_pos h1,decide_eq_true (show (21:Int)≤op from h1)]
  by_cases h2:op≤25
  ·rw [if_pos h2,decide_eq_true h2];rfl
  ·rw [if_neg h2,decide_eq_false h2]
   by_cases h3:op=27
   ·rw [if_pos h3,h3];rfl
   ·rw [if_neg h3,beq_eq_false_iff_ne.2 h3];rfl
 ·rw [if_neg h1,decide_eq_false (show ¬ (21:Int)≤op from h1)]
  by_cases h3:op=27
  ·rw [if_pos h3,h3];rfl
  ·rw [if_neg h3,beq_eq_false_iff_ne.2 h3];rfl
theorem target_f {op a b v:Int} (hc:chkD op a b v=0) (k:Nat) (hk:1≤k):∃ r,insn_Target.f k op a b v 0=some (r,isT op):=by
 unfold insn_Target.f
 rw [check_f _ _ _ _ _ hk,Option.bind_some,if_pos hc,branch_f,Option.bind_some]
 cases isT op with
 | true=>exact ⟨_,if_pos rfl⟩
 | false=>exact ⟨_,if_neg (by decide)⟩
theorem len_g (op a b imm:Int) (k:Nat):insn_Len.f (k+400) op a b imm=some (if chkD op a b imm=0 then ((lenM (formM op):Int),0) else (0,chkD op a b imm)):=by
 unfold insn_Len.f insn_kindOf.f
 rw [check_f _ _ _ _ _ (by omega),Option.bind_some]
 by_cases hc:chkD op a b imm=0
 ·rw [if_pos hc,if_pos hc,Option.bind_some,leO_up (f:=fun k=>insn_length.f k (formM op)) (insn_length.mono _) (length_f _) (k+399),Option.bind_some]
 ·rw [if_neg hc,if_neg hc]
theorem u64_id {n:Int} (h0:0≤n) (h1:n < 18446744073709551616):IntKind.u64.wrap n=n:=IntWalk.u64_in n ⟨h0,by omega⟩
theorem lone_num (x:Nat) (h:x < 10):strOfNums [(IntKind.u64.wrap (48+(x:Int))) % 256]=bS [UInt8.ofNat (48+x)]:=by
 have key:∀ i:Fin 10,strOfNums [(IntKind.u64.wrap (48+((i.val:Nat):Int))) % 256]=bS [UInt8.ofNat (48+i.val)]:=by decide +kernel
 exact key ⟨x,h⟩
theorem ldec_more {n:Nat} (h:¬ n < 10):Lib.decDigits n=Lib.decDigits (n / 10) ++ [UInt8.ofNat (48+n % 10)]:=by rw [Lib.decDigits,dif_neg h]
theorem ldig_f:∀ (k n:Nat),n < 10 ^ (k+1)→n < 18446744073709551616→k < 100→rzDigits.f (k+1) (n:Int)=some (bS (Lib.decDigits n))∧(Lib.decDigits n).length≤k+1
 | 0,n,h,_,_=>by
  have h:n < 10:=by simpa using h
  rw [rzDigits.f,if_pos (by omega),lone_num n h,Lib.decDigits_one h]
  exact ⟨rfl,by simp⟩
 | k+1,n,h,hu,hk=>by
  by_cases h10:n < 10
  ·rw [rzDigits.f,if_pos (by omega),lone_num n h10,Lib.decDigits_one h10]
   exact ⟨rfl,by simp⟩
  ·have ih:=ldig_f k (n / 10) (by rw [Nat.pow_succ] at h;omega) (by omega) (by omega)
   have e1:Int.tdiv (n:Int) 10=((n / 10:Nat):Int):=by rw [Int.tdiv_eq_ediv_of_nonneg (by omega)];omega
   have e2:Int.tmod (n:Int) 10=((n % 10:Nat):Int):=by rw [Int.tmod_eq_emod_of_nonneg (by omega)];omega
   have hl:=ih.2
   rw [rzDigits.f,if_neg (by omega),e1,e2,u64_id (by omega) (by omega),ih.1,Option.bind_some,Option.bind_some,lone_num _ (by omega),ldec_more h10,if_pos (by rw [bS_len,bS_len,List.length_singleton];omega),bS_app,List.length_append,List.length_singleton]
   exact ⟨rfl,by omega⟩
theorem ldig_n (n:Nat) (h:n < 18446744073709551616) (k:Nat):rzDigits.f (k+25) (n:Int)=some (bS (Lib.decDigits n))∧(Lib.decDigits n).length≤25:=by
 have:=ldig_f 24 n (by omega) h (by omega)
 exact ⟨leO_up (rzDigits.mono _) this.1 k,this.2⟩
theorem names_fin:∀ i:Fin 77,nameM (i.val:Int)≠[]→3≤(nameM (i.val:Int)).length+(if (readsM (i.val:Int)).length=0 then 0 else 1):=by decide +kernel
theorem print_len {op a b v:Int} (hv:nameM op≠[]):3≤(printW op a b v).length:=by
 have:=op_valid hv
 obtain ⟨n,rfl⟩:∃ n:Nat,op=(n:Int):=⟨op.toNat,by omega⟩
 have h:=names_fin ⟨n,by omega⟩ hv
 have h:3≤(nameM (n:Int)).length+(if (readsM (n:Int)).length=0 then 0 else 1):=h
 unfold printW
 rw [List.length_append]
 cases hk:readsM (n:Int) with
 | nil=>rw [hk] at h;simp at h;omega
 | cons k ks =>
  rw [hk] at h
  have h1:1≤(opW a b v (k :: ks)).length:=by unfold opW;simp
  simp at h
  omega
theorem lineT_len {op a b:Int} (h:isT op=true) (hc:chkD op a b 0=0):(lineT op a b []).length≤140:=by
 have o:=ok1_of hc (by omega) (by omega)
 have h1:=opW_len o
 have h2:=name_len op
 have h3:(printW op a b 0).length≤140:=by unfold printW;rw [List.length_append];omega
 rw [print_T h,lineT_app h,List.length_append] at h3
 omega
section
variable (X:Nat→It) {n:Nat} (hn:n≤80) (hX:∀ i,i < n→(X i).Ok n)
theorem textA_succ (i:Nat):textA X (i+1)=textA X i ++ (lineA X i ++ [10]):=by
 unfold textA
 rw [List.range_succ,List.map_append,List.flatMap_append]
 simp
theorem textB_succ (i:Nat):textB X (i+1)=textB X i ++ (lineB X i ++ [10]):=by
 unfold textB
 rw [List.range_succ,List.map_append,List.flatMap_append]
 simp
include hn hX
theorem lines_len {i:Nat} (hi:i < n):(lineA X i).length≤150∧(lineB X i).length≤190:=by
 have o:=hX i hi
 obtain ⟨hv,a0,a7,b0,b7,-,-,-⟩:=chk_parts o.chk
 obtain ⟨d0,d1⟩:=dT_bd X (n:=n) (show i < 80 by omega) o.to_ hn
 unfold lineA bodyA lineB
 have hl:∀ k,(labW k).length=3:=fun _=>rfl
 by_cases h:isT (X i).op=true
 ·have h1:=lineT_len h (chk_v o.chk (fits_T h))
  have h2:(rdW (X i).a (X i).b (dT X i) .target).length≤40:=rdW_len (op:=3) ⟨a0,a7,b0,b7,d0,d1,rfl⟩ .target
  have h2:(distW (dT X i)).length≤40:=h2
  rw [if_pos h,if_pos h,print_T h,lineT_app h,lineT_app h (X:=distW _)]
  simp only [List.length_append,List.length_cons,hl]
  omega
 ·have h1:=opW_len (ok1_of o.chk o.v0 o.v1)
  have h2:=name_len (X i).op
  have h3:(printW (X i).op (X i).a (X i).b (X i).v).length≤140:=by unfold printW;rw [List.length_append];omega
  rw [if_neg h,if_neg h]
  simp only [List.length_append,List.length_cons,hl]
  omega
theorem text_len:∀ i,i≤n→(textA X i).length≤200 * i∧(textB X i).length≤200 * i
 | 0,_=>⟨Nat.le_refl _,Nat.le_refl _⟩
 | i+1,hi=>by
  have ih:=text_len i (by omega)
  have hl:=lines_len X hn hX (show i < n by omega)
  rw [textA_succ,textB_succ]
  simp only [List.length_append,List.length_singleton]
  omega
end
def itOf (l:List S78) (i:Nat):It:=let x:=rd_T78 l (i:Int);⟨x.f0.f0,x.f0.f1,x.f0.f2,x.f0.f3,(Int.tmod (wrap64 x.f1) (l.length:Int)).toNat⟩
def atL (X:Nat→It) (i:Nat):List Int:=(List.range (i+1)).map fun j=>(atS X j:Int)
theorem atL_rd (X:Nat→It) {i j:Nat} (h:j≤i):rd (atL X i) (j:Int)=(atS X j:Int):=by
 unfold rd atL
 rw [Int.toNat_natCast,List.getD_eq_getElem?_getD,List.getElem?_map,List.getElem?_range (by omega)]
 rfl
theorem atL_len (X:Nat→It) (i:Nat):(atL X i).length=i+1:=by simp [atL]
theorem atL_succ (X:Nat→It) (i:Nat):atL X i ++ [((atS X i+lenM (formM (X i).op):Nat):Int)]=atL X (i+1):=by
 unfold atL
 rw [List.range_succ (n:=i+1),List.map_append]
 rfl
def Wf78 (x:S78):Prop:=(-9223372036854775808≤x.f0.f3∧x.f0.f3≤9223372036854775807)∧0≤x.f1∧x.f1 < 256
section
variable (l:List S78) (hl:l.length≤80) (hw:∀ x∈l,Wf78 x)
include hw
theorem rd78_wf {i:Nat} (hi:i < l.length):Wf78 (rd_T78 l (i:Int)):=by
 unfold rd_T78
 rw [Int.toNat_natCast,List.getD_eq_getElem?_getD,List.getElem?_eq_getElem hi]
 exact hw _ (List.getElem_mem hi)
theorem to_int {i:Nat} (hi:i < l.length):Int.tmod (wrap64 (rd_T78 l (i:Int)).f1) (l.length:Int)=(((itOf l i).to_:Nat):Int)∧(itOf l i).to_ < l.length:=by
 obtain ⟨-,h0,h1⟩:=rd78_wf l hw hi
 have ew:wrap64 (rd_T78 l (i:Int)).f1=(rd_T78 l (i:Int)).f1:=by simp only [wrap64];omega
 have h2:0≤Int.tmod (rd_T78 l (i:Int)).f1 (l.length:Int):=Int.tmod_nonneg _ h0
 have h3:Int.tmod (rd_T78 l (i:Int)).f1 (l.length:Int) < (l.length:Int):=Int.tmod_lt_of_pos _ (by omega)
 unfold itOf
 simp only
 rw [ew]
 omega
omit hw in
theorem itOf_op (i:Nat):(rd_T78 l (i:Int)).f0.f0=(itOf l i).op∧(rd_T78 l (i:Int)).f0.f1=(itOf l i).a∧(rd_T78 l (i:Int)).f0.f2=(itOf l i).b∧(rd_T78 l (i:Int)).f0.f3=(itOf l i).v:=⟨rfl,rfl,rfl,rfl⟩
include hl
variable (hX:∀ i,i < l.length→(itOf l i).Ok l.length)
include hX
omit hw in
theorem labels_end (k:Nat):lzInsnLabels.l1 (k+1) l true (atL (itOf l) l.length) (bS (textA (itOf l) l.length)) (bS (textB (itOf l) l.length)) (l.length:Int)=some true:=by
 obtain ⟨t1,t2⟩:=text_len (itOf l) hl hX l.length (Nat.le_refl _)
 obtain ⟨r,g1,g2,g3⟩:=asm_both (itOf l) hl hX
 rw [lzInsnLabels.l1,if_neg (by omega)]
 unfold insn_Assemble.f asmOut
 rw [if_neg (by rw [bS_len];omega),if_neg (by omega),if_neg (by rw [bS_len];omega),if_neg (by omega),g1,g2,Option.bind_some,Option.bind_some,if_pos rfl]
 cases r with
 | error no =>
  unfold asmFin
  simp only
  rw [if_pos trivial,if_pos trivial,same_self2,Option.bind_some,if_pos rfl]
  rfl
 | ok q =>
  obtain ⟨c,z,y⟩:=q
  unfold asmFin
  simp only
  rw [if_pos trivial,if_pos trivial,same_self2,Option.bind_some,if_pos rfl]
  rfl
theorem labels_l1:∀ (d i k:Nat),i+d=l.length→4 * d+600 < k→lzInsnLabels.l1 k l true (atL (itOf l) l.length) (bS (textA (itOf l) i)) (bS (textB (itOf l) i)) (i:Int)=some true
 | 0,i,k,h1,h2=>by
  obtain rfl:i=l.length:=by omega
  obtain ⟨k,rfl⟩:∃ m,k=m+1:=⟨k - 1,by omega⟩
  exact labels_end l hl hX k
 | d+1,i,k,h1,h2=>by
  obtain ⟨q,rfl⟩:∃ m,k=m+104:=⟨k - 104,by omega⟩
  have hi:i < l.length:=by omega
  have ih:=labels_l1 d (i+1) (q+100) (by omega) (by omega)
  have o:=hX i hi
  have hv:=(chk_parts o.chk).1
  obtain ⟨tA,tB⟩:=text_len (itOf l) hl hX i (by omega)
  obtain ⟨lA,lB⟩:=lines_len (itOf l) hl hX hi
  obtain ⟨hto,hto2⟩:=to_int l hw hi
  obtain ⟨r,hr⟩:=target_f o.chk (q+103) (by omega)
  obtain ⟨d0,d1⟩:=dT_bd (itOf l) (n:=l.length) (show i < 80 by omega) o.to_ hl
  have hd:wrap64 (rd (atL (itOf l) l.length) (((itOf l i).to_:Nat):Int) - rd (atL (itOf l) l.length) ((i+1:Nat):Int))=dT (itOf l) i:=by
   rw [atL_rd _ (by omega),atL_rd _ (by omega)]
   have e:wrap64 (dT (itOf l) i)=dT (itOf l) i:=by simp only [wrap64];omega
   exact e
  obtain ⟨x1,x2,x3,x4⟩:=itOf_op l i
  show lzInsnLabels.l1 (q+103+1) l true (atL (itOf l) l.length) (bS (textA (itOf l) i)) (bS (textB (itOf l) i)) (i:Int)=_
  rw [lzInsnLabels.l1,if_pos (by omega),if_pos (by omega),x1,x2,x3,x4,hr,Option.bind_some,if_neg (by omega),hto,if_pos (by omega),atL_len,if_pos (by omega),wrap_succ (by omega),if_pos (by omega),if_pos (by omega),hd]
  simp only
  have hj:∀ (t:Bool),isT (itOf l i).op=t→(if t=true then lzInsnLabels.j2 (q+103) l true (atL (itOf l) l.length) (bS (textA (itOf l) i)) (bS (textB (itOf l) i)) (i:Int) t (((itOf l i).to_:Nat):Int) (dT (itOf l) i) (itOf l i).op (itOf l i).a (itOf l i).b 0 else lzInsnLabels.j2 (q+103) l true (atL (itOf l) l.length) (bS (textA (itOf l) i)) (bS (textB (itOf l) i)) (i:Int) t (((itOf l i).to_:Nat):Int) (dT (itOf l) i) (itOf l i).op (itOf l i).a (itOf l i).b (itOf l i).v)
    = lzInsnLabels.j2 (q+102+1) l true (atL (itOf l) l.length) (bS (textA (itOf l) i)) (bS (textB (itOf l) i)) (i:Int) t (((itOf l i).to_:Nat):Int) (dT (itOf l) i) (itOf l i).op (itOf l i).a (itOf l i).b (if t=true then 0 else (itOf l i).v):=by
   intro t _
   cases t <;> rfl
  rw [hj _ rfl,lzInsnLabels.j2]
  have hc0:chkD (itOf l i).op (itOf l i).a (itOf l i).b (if isT (itOf l i).op=true then 0 else (itOf l i).v)=0:=by
   by_cases h:isT (itOf l i).op=true
   ·rw [if_pos h];exact chk_v o.chk (fits_T h)
   ·rw [if_neg h];exact o.chk
  have hb0:-9223372036854775808≤(if isT (itOf l i).op=true then 0 else (itOf l i).v)∧(if isT (itOf l i).op=true then 0 else (itOf l i).v)≤9223372036854775807:=by
   have:=o.v0
   have:=o.v1
   split <;> omega
  have hpl:=print_len (a:=(itOf l i).a) (b:=(itOf l i).b) (v:=if isT (itOf l i).op=true then 0 else (itOf l i).v) hv
  rw [show q+102=(q+92)+10 from rfl,print_f hv (ok1_of hc0 hb0.1 hb0.2) hc0,Option.bind_some]
  simp only
  rw [if_pos trivial,decide_eq_false (by rw [bS_len];omega)]
  show lzInsnLabels.j3 (q+101+1) l true (atL (itOf l) l.length) (bS (textA (itOf l) i)) (bS (textB (itOf l) i)) (i:Int) _ (((itOf l i).to_:Nat):Int) (dT (itOf l) i) _ false=_
  rw [lzInsnLabels.j3,if_neg (by decide)]
  have e58:(⟨#[58,32]⟩:ByteArray)=bS [58,32]:=rfl
  have e45:(⟨#[46,45]⟩:ByteArray)=bS [46,45]:=rfl
  have e43:(⟨#[46,43]⟩:ByteArray)=bS [46,43]:=rfl
  have e10:(⟨#[10]⟩:ByteArray)=bS [10]:=rfl
  have hli:=lab_f (show i < 80 by omega)
  have hlt:=lab_f (show (itOf l i).to_ < 80 by omega)
  have hll:∀ k,(labW k).length=3:=fun _=>rfl
  by_cases hT:isT (itOf l i).op=true
  ·have hP:=lineT_len hT (chk_v o.chk (fits_T hT))
   have e0:printW (itOf l i).op (itOf l i).a (itOf l i).b (if isT (itOf l i).op=true then 0 else (itOf l i).v)=lineT (itOf l i).op (itOf l i).a (itOf l i).b [] ++ [46,43,48]:=by
    rw [if_pos hT,print_T hT,lineT_app hT,show distW 0=[46,43,48] by decide +kernel]
   have eA1:lineA (itOf l) i=labW i ++ (58 :: 32 :: (lineT (itOf l i).op (itOf l i).a (itOf l i).b [] ++ labW (itOf l i).to_)):=by
    unfold lineA bodyA
    rw [if_pos hT,lineT_app hT]
   have eB1:lineB (itOf l) i=lineT (itOf l i).op (itOf l i).a (itOf l i).b [] ++ distW (dT (itOf l) i):=by
    unfold lineB
    rw [if_pos hT,print_T hT,lineT_app hT]
   rw [e0]
   generalize hPP:lineT (itOf l i).op (itOf l i).a (itOf l i).b []=P at *
   have hsz:wrap64 (((bS (P ++ [46,43,48])).size:Int) - 3)=((P.length:Nat):Int):=by
    rw [bS_len,List.length_append]
    simp only [wrap64,List.length_cons,List.length_nil]
    omega
   have hext:(bS (P ++ [46,43,48])).extract 0 P.length=bS P:=by
    refine ba_ext2 ?_
    rw [ext_toList,toS,toS]
    simp
   have hsz2:(bS (P ++ [46,43,48])).size=P.length+3:=by rw [bS_len,List.length_append];rfl
   rw [hT,if_pos rfl]
   have hdn:=ldig_n (dT (itOf l) i).natAbs (by omega) (q+75)
   have hdl:=hdn.2
   have hdn:rzDigits.f (q+100) (((dT (itOf l) i).natAbs:Nat):Int)=some (bS (Lib.decDigits (dT (itOf l) i).natAbs)):=hdn.1
   by_cases hneg:dT (itOf l) i < 0
   ·rw [decide_eq_true hneg]
    show lzInsnLabels.j4 (q+100+1) l true (atL (itOf l) l.length) (bS (textA (itOf l) i)) (bS (textB (itOf l) i)) (i:Int) true (((itOf l i).to_:Nat):Int) (dT (itOf l) i) _ _ true=_
    have hu:IntKind.u64.wrap (wrap64 (-dT (itOf l) i))=(((dT (itOf l) i).natAbs:Nat):Int):=by
     have e:wrap64 (-dT (itOf l) i)=(((dT (itOf l) i).natAbs:Nat):Int):=by
      have hh:=atS_le (itOf l) (i+1)
      have hh2:=atS_le (itOf l) (itOf l i).to_
      have e2:dT (itOf l) i=(atS (itOf l) (itOf l i).to_:Int) - (atS (itOf l) (i+1):Int):=rfl
      simp only [wrap64]
      omega
     rw [e,u64_id (by omega) (by omega)]
    rw [lzInsnLabels.j4,if_pos rfl,hsz,hu,hdn,wrap_succ (by omega),Int.toNat_natCast,hext,hsz2,hli,hlt]
    simp only [e58,e45,e43,e10,bS_app,bS_len,List.length_append,List.length_cons,List.length_nil,Option.bind_some,hll]
    rw [if_pos (by omega),if_pos (by omega),if_pos (by omega),if_pos (by omega),if_pos (by omega),if_pos (by omega),if_pos (by omega),if_pos (by omega),if_pos (by omega),if_pos (by omega),if_pos (by omega)]
    have eA:(textA (itOf l) i ++ labW i ++ [58,32] ++ (P ++ labW (itOf l i).to_) ++ [10])=textA (itOf l) (i+1):=by
     rw [textA_succ,eA1]
     simp
    have eB:(textB (itOf l) i ++ (P ++ [46,45] ++ Lib.decDigits (dT (itOf l) i).natAbs) ++ [10])=textB (itOf l) (i+1):=by
     rw [textB_succ,eB1]
     unfold distW
     rw [if_pos hneg,num_neg hneg]
     simp
    rw [eA,eB]
    exact ih
   ·rw [decide_eq_false hneg]
    show lzInsnLabels.j4 (q+100+1) l true (atL (itOf l) l.length) (bS (textA (itOf l) i)) (bS (textB (itOf l) i)) (i:Int) true (((itOf l i).to_:Nat):Int) (dT (itOf l) i) _ _ false=_
    have hu:IntKind.u64.wrap (dT (itOf l) i)=(((dT (itOf l) i).natAbs:Nat):Int):=by
     rw [u64_id (by omega) (by omega)]
     omega
    rw [lzInsnLabels.j4,if_neg (by decide),if_pos rfl,hsz,hu,hdn,wrap_succ (by omega),Int.toNat_natCast,hext,hsz2,hli,hlt]
    simp only [e58,e45,e43,e10,bS_app,bS_len,List.length_append,List.length_cons,List.length_nil,Option.bind_some,hll]
    rw [if_pos (by omega),if_pos (by omega),if_pos (by omega),if_pos (by omega),if_pos (by omega),if_pos (by omega),if_pos (by omega),if_pos (by omega),if_pos (by omega),if_pos (by omega),if_pos (by omega)]
    have eA:(textA (itOf l) i ++ labW i ++ [58,32] ++ (P ++ labW (itOf l i).to_) ++ [10])=textA (itOf l) (i+1):=by
     rw [textA_succ,eA1]
     simp
    have eB:(textB (itOf l) i ++ (P ++ [46,43] ++ Lib.decDigits (dT (itOf l) i).natAbs) ++ [10])=textB (itOf l) (i+1):=by
     rw [textB_succ,eB1]
     unfold distW
     rw [if_neg hneg,num_pos hneg,show (dT (itOf l) i).toNat=(dT (itOf l) i).natAbs by omega]
     simp
    rw [eA,eB]
    exact ih
  ·have eA1:lineA (itOf l) i=labW i ++ (58 :: 32 :: printW (itOf l i).op (itOf l i).a (itOf l i).b (itOf l i).v):=by
    unfold lineA bodyA
    rw [if_neg hT]
   have eB1:lineB (itOf l) i=printW (itOf l i).op (itOf l i).a (itOf l i).b (itOf l i).v:=by
    unfold lineB
    rw [if_neg hT]
   rw [eB1] at lB
   rw [if_neg hT,if_neg hT,Bool.eq_false_iff.2 hT]
   show lzInsnLabels.j4 (q+100+1) l true (atL (itOf l) l.length) (bS (textA (itOf l) i)) (bS (textB (itOf l) i)) (i:Int) false (((itOf l i).to_:Nat):Int) (dT (itOf l) i) _ _ false=_
   rw [lzInsnLabels.j4,if_neg (by decide),if_neg (by decide),wrap_succ (by omega),hli]
   simp only [e58,e45,e43,e10,bS_app,bS_len,List.length_append,List.length_cons,List.length_nil,Option.bind_some,hll]
   rw [if_pos (by omega),if_pos (by omega),if_pos (by omega),if_pos (by omega),if_pos (by omega),if_pos (by omega)]
   have eA:(textA (itOf l) i ++ labW i ++ [58,32] ++ printW (itOf l i).op (itOf l i).a (itOf l i).b (itOf l i).v ++ [10])=textA (itOf l) (i+1):=by
    rw [textA_succ,eA1]
    simp
   have eB:(textB (itOf l) i ++ printW (itOf l i).op (itOf l i).a (itOf l i).b (itOf l i).v ++ [10])=textB (itOf l) (i+1):=by
    rw [textB_succ,eB1]
    simp
   rw [eA,eB]
   exact ih
omit hX
omit hl in
theorem itOf_ok {i:Nat} (hi:i < l.length) (hc:chkD (itOf l i).op (itOf l i).a (itOf l i).b (itOf l i).v=0):(itOf l i).Ok l.length :=
 ⟨hc,(rd78_wf l hw hi).1.1,(rd78_wf l hw hi).1.2,(to_int l hw hi).2⟩
theorem labels_l0:∀ (d i k:Nat),i+d=l.length→5 * d+4 * l.length+2000 < k→(∀ j,j < i→(itOf l j).Ok l.length)→lzInsnLabels.l0 k l true (atL (itOf l) i) (i:Int)=some true
 | 0,i,k,h1,h2,hX=>by
  obtain rfl:i=l.length:=by omega
  obtain ⟨k,rfl⟩:∃ m,k=m+1:=⟨k - 1,by omega⟩
  rw [lzInsnLabels.l0,if_neg (by omega)]
  exact labels_l1 l hl hw hX l.length 0 k (by omega) (by omega)
 | d+1,i,k,h1,h2,hX=>by
  obtain ⟨q,rfl⟩:∃ m,k=m+401:=⟨k - 401,by omega⟩
  have hi:i < l.length:=by omega
  obtain ⟨x1,x2,x3,x4⟩:=itOf_op l i
  show lzInsnLabels.l0 (q+400+1) l true (atL (itOf l) i) (i:Int)=_
  rw [lzInsnLabels.l0,if_pos (by omega),if_pos (by omega),x1,x2,x3,x4,len_g,Option.bind_some]
  by_cases hc:chkD (itOf l i).op (itOf l i).a (itOf l i).b (itOf l i).v=0
  ·have h12:=atS_le (itOf l) i
   have hb:=lenM_bd (formM (itOf l i).op)
   rw [if_pos hc]
   simp only
   rw [if_pos trivial,atL_len,if_pos (by omega),if_pos (by omega),atL_rd _ (Nat.le_refl _),wrap_succ (by omega)]
   have e:wrap64 ((atS (itOf l) i:Int)+(lenM (formM (itOf l i).op):Int))=((atS (itOf l) i+lenM (formM (itOf l i).op):Nat):Int):=by simp only [wrap64];omega
   rw [e,atL_succ]
   refine labels_l0 d (i+1) (q+400) (by omega) (by omega) fun j hj=>?_
   by_cases hji:j < i
   ·exact hX j hji
   ·obtain rfl:j=i:=by omega
    exact itOf_ok l hw hi hc
  ·rw [if_neg hc]
   simp only
   rw [if_neg hc]
omit hl in
theorem InsnLabels_pure:lzInsnLabels.f 5000 l=some true:=by
 unfold lzInsnLabels.f
 rw [sane_true 4900,Option.bind_some]
 by_cases h:(l.length:Int) > 80
 ·rw [if_pos h]
 ·rw [if_neg h]
  exact labels_l0 l (by omega) hw l.length 0 5000 (by omega) (by omega) (fun j hj=>absurd hj (Nat.not_lt_zero _))
end
end Go.Proofs.YtffojmgmpfjlhaaGreatDoor.Q
namespace Go.Proofs.YtffojmgmpfjlhaaGreatDoor.Q
open Go.Joins Go.ChangeShapes Go.WideShapes Go.RowKit Go.Deep Go.Proofs.YtffojmgmpfjlhaaGreatDoor YtffojmgmpfjlhaaGreatDoorW.PrintWords YtffojmgmpfjlhaaGreatDoorW.PrintLast
section
variable {H:Type} {enc:TypeId × Value→H} {W:World}
def LineOk (x:S78):Prop:=((Lit.int .i64 x.f0.f0).wf=true∧(Lit.int .i64 x.f0.f1).wf=true∧(Lit.int .i64 x.f0.f2).wf=true∧(Lit.int .i64 x.f0.f3).wf=true)∧(Lit.int .u8 x.f1).wf=true
set_option maxRecDepth 100000 in
theorem lineFields:∃ f0 f1:Field,Tryz.prog.underlying 78=some (.struct #[f0,f1])∧f0.type=23∧f1.type=5∧f0.offset=0∧f1.offset=4 :=
 ⟨_,_,Tryz.underlying78,rfl,rfl,rfl,rfl⟩
set_option maxRecDepth 100000 in
theorem insFields4:∃ f0 f1 f2 f3:Field,Tryz.prog.underlying 23=some (.struct #[f0,f1,f2,f3])∧(f0.type=3∧f1.type=3∧f2.type=3∧f3.type=2)∧f0.offset=0∧f1.offset=1∧f2.offset=2∧f3.offset=3 :=
 ⟨_,_,_,_,Tryz.underlying23,⟨rfl,rfl,rfl,rfl⟩,rfl,rfl,rfl,rfl⟩
set_option maxRecDepth 100000 in
theorem cells78:Tryz.prog.cellsOf 78=5∧Tryz.prog.cellsOf 23=4∧Tryz.prog.cellsOf 3=1∧Tryz.prog.cellsOf 2=1∧Tryz.prog.cellsOf 5=1:=⟨by kernel_rfl,by kernel_rfl,by kernel_rfl,by kernel_rfl,by kernel_rfl⟩
set_option maxRecDepth 100000 in
theorem open_line {fuel:Nat} {cs:List Value} {y:DataW H × List MemPlace} (hl:cs.length=5) (h:DataW.trod enc Tryz.prog W 0 (fun _=>true) true fuel 78 cs=some y) :
  ∃ x:S78,cs=[.int .i64 x.f0.f0,.int .i64 x.f0.f1,.int .i64 x.f0.f2,.int .i64 x.f0.f3,.int .u8 x.f1]∧LineOk x:=by
 obtain ⟨g0,g1,hs,t0,t1,o0,o1⟩:=lineFields
 obtain ⟨f0,f1,f2,f3,hs2,⟨e0,e1,e2,e3⟩,q0,q1,q2,q3⟩:=insFields4
 obtain ⟨c5,c4,c3,ci,cu⟩:=cells78
 obtain ⟨ys,n,_,-,-,hyl,hf⟩:=DataW.trod_struct hs h
 have h0:=hf 0 g0 rfl
 have h1:=hf 1 g1 rfl
 rw [t0,o0,c4] at h0
 rw [t1,o1,cu] at h1
 match cs,hl with
 | [v0,v1,v2,v3,v4],_ =>
  have h0:DataW.trod enc Tryz.prog W 0 (fun _=>true) true n 23 [v0,v1,v2,v3]=ys[0]?:=h0
  have h1:DataW.trod enc Tryz.prog W 0 (fun _=>true) true n 5 [v4]=ys[1]?:=h1
  rw [List.getElem?_eq_getElem (by rw [hyl];simp)] at h0 h1
  obtain ⟨zs,m,_,-,-,hzl,hf2⟩:=DataW.trod_struct hs2 h0
  have k0:=hf2 0 f0 rfl
  have k1:=hf2 1 f1 rfl
  have k2:=hf2 2 f2 rfl
  have k3:=hf2 3 f3 rfl
  rw [e0,q0,c3] at k0
  rw [e1,q1,c3] at k1
  rw [e2,q2,c3] at k2
  rw [e3,q3,ci] at k3
  have k0:DataW.trod enc Tryz.prog W 0 (fun _=>true) true m 3 [v0]=zs[0]?:=k0
  have k1:DataW.trod enc Tryz.prog W 0 (fun _=>true) true m 3 [v1]=zs[1]?:=k1
  have k2:DataW.trod enc Tryz.prog W 0 (fun _=>true) true m 3 [v2]=zs[2]?:=k2
  have k3:DataW.trod enc Tryz.prog W 0 (fun _=>true) true m 2 [v3]=zs[3]?:=k3
  rw [List.getElem?_eq_getElem (by rw [hzl];simp)] at k0 k1 k2 k3
  obtain ⟨i0,r0,-,p0⟩:=DataW.trod_int Tryz.underlying3 k0
  obtain ⟨i1,r1,-,p1⟩:=DataW.trod_int Tryz.underlying3 k1
  obtain ⟨i2,r2,-,p2⟩:=DataW.trod_int Tryz.underlying3 k2
  obtain ⟨i3,r3,-,p3⟩:=DataW.trod_int Tryz.underlying2 k3
  obtain ⟨i4,r4,-,p4⟩:=DataW.trod_int Tryz.underlying5 h1
  simp only [List.cons.injEq,and_true] at r0 r1 r2 r3 r4
  subst r0 r1 r2 r3 r4
  exact ⟨⟨⟨i0,i1,i2,i3⟩,i4⟩,rfl,⟨p0,p1,p2,p3⟩,p4⟩
set_option maxRecDepth 100000 in
theorem open_lines {r:Reach} {b0:Nat} {v:Value} {d:DataW H} {p:List MemPlace} (hv:Value.okWide Tryz.prog W r b0 73 v) (h:DataW.Trod enc Tryz.prog W 0 (fun _=>true) true 73 v d p) :
  ∃ (a:Option Addr) (cap:Nat) (l:List S78),v=.slice a l.length cap∧l.length≤cap∧Kd.C k78 W a l.length l∧∀ x∈l,LineOk x:=by
 obtain ⟨a,len,cap,rfl⟩:=okWide_slice Tryz.underlying73 hv
 obtain ⟨fuel,hf⟩:=h
 rcases open_slice Tryz.underlying73 hf with ⟨hcs,_⟩ | ⟨x,l,c,m,n,D,Pl,hcs,_,hl,hm,hmm,hx,hi⟩
 ·simp [Value.cells] at hcs
  obtain ⟨rfl,rfl,rfl⟩:=hcs
  exact ⟨none,0,[],rfl,Nat.le_refl _,⟨rfl,by simp,fun h=>absurd h (by simp)⟩,by simp⟩
 ·simp [Value.cells] at hcs
  obtain ⟨rfl,rfl,rfl⟩:=hcs
  simp only [if_true] at hmm
  subst hmm
  rw [cells78.1] at hi
  have key:∀ i,∃ y:S78,i < len→(∀ j u,[Value.int .i64 y.f0.f0,.int .i64 y.f0.f1,.int .i64 y.f0.f2,.int .i64 y.f0.f3,.int .u8 y.f1][j]?=some u→W.cell? (x.add (i * 5+j))=some u)∧LineOk y:=by
   intro i
   by_cases hil:i < len
   ·obtain ⟨cs',hc,ht'⟩:=hi i (by omega)
    obtain ⟨_,hcl,hat⟩:=World.cells?_some hc
    obtain ⟨y,rfl,hy⟩:=open_line hcl ht'
    refine ⟨y,fun _=>⟨fun j u hu=>?_,hy⟩⟩
    have hj:j < 5:=by
     have:=(List.getElem?_eq_some_iff.1 hu).1
     simpa using this
    rw [← Go.Deep.add_add,hat j hj,hu]
   ·exact ⟨z78,fun h=>absurd h hil⟩
  obtain ⟨f,hfs⟩:∃ f:Nat→S78,∀ i,i < len→(∀ j u,[Value.int .i64 (f i).f0.f0,.int .i64 (f i).f0.f1,.int .i64 (f i).f0.f2,.int .i64 (f i).f0.f3,.int .u8 (f i).f1][j]?=some u→W.cell? (x.add (i * 5+j))=some u)∧LineOk (f i) :=
   ⟨fun i=>Classical.choose (key i),fun i=>Classical.choose_spec (key i)⟩
  have hlen:((List.range len).map f).length=len:=by simp
  refine ⟨some x,m,(List.range len).map f,by rw [hlen],by rw [hlen];exact hl,⟨rfl,by rw [hlen];unfold maxLen at hm;omega,fun _=>⟨x,rfl,fun j y hj=>?_⟩⟩,fun y hy=>?_⟩
  ·have hjl:j < len:=by
    have:=(List.getElem?_eq_some_iff.1 hj).1
    simpa using this
   have hy:y=f j:=by
    rw [List.getElem?_map,List.getElem?_range hjl] at hj
    simpa using hj.symm
   refine ⟨_,rfl,k78_mk W y,fun i u hu=>?_⟩
   rw [hy] at hu
   exact (hfs j hjl).1 i u hu
  ·obtain ⟨i,hi2,rfl⟩:=List.mem_map.1 hy
   exact (hfs i (List.mem_range.1 hi2)).2
end
end Go.Proofs.YtffojmgmpfjlhaaGreatDoor.Q
namespace Go.Proofs.YtffojmgmpfjlhaaGreatDoor.Q
open Go.Proofs.Ix hiding rd
open Go Go.Proofs.YtffojmgmpfjlhaaGreatDoor Go.RowKit Go.Proofs.YtffojmgmpfjlhaaGreatDoorW.PrintWords
theorem wf8b {n:Int} (h:(Lit.int .u8 n).wf=true):0≤n∧n < 256:=by
 have m1:IntKind.u8.min=0:=by decide
 have m2:IntKind.u8.max=255:=by decide
 simp [Lit.wf,m1,m2] at h
 omega
theorem labels_any (A:Option Addr) (cap:Nat) (l:List S78) (w:World) (hr:Kd.C k78 w A l.length l) (hc:l.length≤cap) (hl:∀ x∈l,LineOk x) (hgw:GW w) :
  Calls Tryz.prog 13 #[.slice A l.length cap] w fun e w'=>e=.returned (.bool true)∧Below w.heap.size w w' :=
 lzInsnLabels.calls 5000 A cap l true w hr hc (InsnLabels_pure l fun x hx=>⟨wf64b (hl x hx).1.2.2.2,wf8b (hl x hx).2⟩) hgw
end Go.Proofs.YtffojmgmpfjlhaaGreatDoor.Q
