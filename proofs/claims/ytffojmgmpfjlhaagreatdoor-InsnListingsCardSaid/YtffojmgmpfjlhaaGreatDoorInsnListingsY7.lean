/- Parts of the proof: InsnListings: a listing is assembled to the code and the symbols of which it was made, and so is the listing of what was assembled: the law returns true for every input; the inputs read as they did; the package-level variables hold what the program's text lays in them: the tied card. -/
import Derived.Test.YtffojmgmpfjlhaaGreatDoorInsnListingsY6
import Derived.Deep.Slices
import Derived.Deep.Fields
import Derived.ChangeSame
import Derived.ChangeSlices
import Derived.ChangeArms
import Derived.Lib.SmallJoins
set_option maxHeartbeats 8000000
set_option maxRecDepth 100000
set_option linter.unusedVariables false
set_option linter.unusedSimpArgs false
namespace Go.Proofs.YtffojmgmpfjlhaaGreatDoor.Q
open Go.Proofs.Ix hiding rd
open Go Go.Proofs.YtffojmgmpfjlhaaGreatDoor Go.RowKit Go.Proofs.YtffojmgmpfjlhaaGreatDoorW.PrintWords
theorem lk_keep {L M:List (ByteArray × Nat)} {s:ByteArray} {v:Nat} (h:lookB L s=some v):lookB (L ++ M) s=some v:=by
 unfold lookB at h ⊢
 rw [List.find?_append]
 cases hf:L.find? fun p=>decide (p.1=s) with
 | none=>rw [hf] at h;cases h
 | some p=>rw [hf] at h;exact h
theorem lk_last {L:List (ByteArray × Nat)} {s:ByteArray} (v:Nat) (h:lookB L s=none):lookB (L ++ [(s,v)]) s=some v:=by
 unfold lookB at h ⊢
 rw [List.find?_append]
 cases hf:L.find? fun p=>decide (p.1=s) with
 | none=>simp
 | some p=>rw [hf] at h;cases h
theorem sum_app (a b:List En):sumL (a ++ b)=sumL a+sumL b:=by simp [sumL]
theorem sum_take (es:List En) (k:Nat):sumL (es.take k)≤sumL es:=by
 have:=sum_app (es.take k) (es.drop k)
 rw [List.take_append_drop] at this
 omega
abbrev Fs9 (F:List (ByteArray × Nat)):Prop:=F.Pairwise fun p q=>p.2≤q.2∧p.1≠q.1
structure ZI (z:Az):Prop where
 good:∀ e∈z.list,GoodL e.l∧e.at_≤2048
 size:z.size=sumL z.list
 le:z.size≤2048
 labs:∀ p∈z.labels,∃ k,k≤z.list.length∧p.2=sumL (z.list.take k)
 F:∃ F:List (ByteArray × Nat),F.map Prod.fst=z.funcs∧(∀ p∈F,lookB z.labels p.1=some p.2∧nameB p.1=true∧p.2≤z.size)∧Fs9 F∧F.length≤32
theorem ZI.no {z:Az} (h:ZI z) (no:Nat):ZI { z with no:=no }:=⟨h.good,h.size,h.le,h.labs,h.F⟩
theorem zi_lab1 {z:Az} (h:ZI z) (n:ByteArray):∀ p∈z.labels ++ [(n,z.size)],∃ k,k≤z.list.length∧p.2=sumL (z.list.take k):=by
 intro p hp
 rcases List.mem_append.1 hp with hp | hp
 ·exact h.labs p hp
 ·rw [List.mem_singleton] at hp
  subst hp
  exact ⟨z.list.length,Nat.le_refl _,by rw [List.take_length];exact h.size⟩
theorem zi_lab {z:Az} (h:ZI z) (n:ByteArray):ZI { z with labels:=z.labels ++ [(n,z.size)] }:=by
 obtain ⟨F,f1,f2,f3,f4⟩:=h.F
 exact ⟨h.good,h.size,h.le,zi_lab1 h n,F,f1,fun p hp=>⟨lk_keep (f2 p hp).1,(f2 p hp).2⟩,f3,f4⟩
theorem zi_def {z z':Az} {s:ByteArray} (h:ZI z) (hd:z.def_ s=.ok z'):ZI z':=by
 unfold Az.def_ at hd
 by_cases c:s.size=0
 ·rw [if_pos c] at hd
  cases hd
  exact h
 ·rw [if_neg c] at hd
  cases hl:lookB z.labels s with
  | some v=>rw [hl] at hd;cases hd
  | none =>
   rw [hl] at hd
   cases hd
   exact zi_lab h s
theorem zi_push {z z':Az} {l:L9} (h:ZI z) (hg:GoodL l) (hd:z.push l=.ok z'):ZI z':=by
 unfold Az.push at hd
 by_cases c:2048 < z.size+lenM (formM l.op)
 ·rw [if_pos c] at hd
  cases hd
 ·rw [if_neg c] at hd
  cases hd
  obtain ⟨F,f1,f2,f3,f4⟩:=h.F
  refine ⟨fun e he=>?_,?_,by show z.size+lenM (formM l.op)≤2048;omega,fun p hp=>?_,F,f1,fun p hp=>⟨(f2 p hp).1,(f2 p hp).2.1,?_⟩,f3,f4⟩
  ·rcases List.mem_append.1 he with he | he
   ·exact h.good e he
   ·rw [List.mem_singleton] at he
    subst he
    exact ⟨hg,h.le⟩
  ·show z.size+lenM (formM l.op)=sumL (z.list ++ [⟨l,z.no,z.size⟩])
   rw [sum_app,← h.size]
   simp [sumL]
  ·obtain ⟨k,k1,k2⟩:=h.labs p hp
   exact ⟨k,by show k≤(z.list ++ [(⟨l,z.no,z.size⟩:En)]).length;rw [List.length_append];omega,by rw [k2];show _=sumL ((z.list ++ [(⟨l,z.no,z.size⟩:En)]).take k);rw [List.take_append_of_le_length k1]⟩
  ·have:=(f2 p hp).2.2
   show p.2≤z.size+lenM (formM l.op)
   omega
theorem zi_dir {z z':Az} {n:ByteArray} (h:ZI z) (hn:nameB n=true) (hd:z.dirRow n=.ok z'):ZI z':=by
 unfold Az.dirRow at hd
 cases hl:lookB z.labels n with
 | some v=>rw [hl] at hd;cases hd
 | none =>
  rw [hl] at hd
  simp only at hd
  by_cases c:32 < z.funcs.length+1
  ·rw [if_pos c] at hd
   cases hd
  ·rw [if_neg c] at hd
   cases hd
   obtain ⟨F,f1,f2,f3,f4⟩:=h.F
   have hlen:F.length=z.funcs.length:=by rw [← f1,List.length_map]
   refine ⟨h.good,h.size,h.le,zi_lab1 h n,F ++ [(n,z.size)],by rw [List.map_append,f1];rfl,fun p hp=>?_,?_,by rw [List.length_append,List.length_singleton];omega⟩
   ·rcases List.mem_append.1 hp with hp | hp
    ·exact ⟨lk_keep (f2 p hp).1,(f2 p hp).2⟩
    ·rw [List.mem_singleton] at hp
     subst hp
     exact ⟨lk_last _ hl,hn,Nat.le_refl _⟩
   ·unfold Fs9
    rw [List.pairwise_append]
    refine ⟨f3,List.pairwise_singleton _ _,fun p hp q hq=>?_⟩
    rw [List.mem_singleton] at hq
    subst hq
    refine ⟨(f2 p hp).2.2,fun e=>?_⟩
    have:=(f2 p hp).1
    rw [e,hl] at this
    cases this
theorem dir_name {l l':L9} {n:ByteArray} (h:l.dir=some (some n,l')):nameB n=true:=by
 unfold L9.dir at h
 split at h
 ·unfold L9.dir2 at h
  split at h
  ·split at h
   ·rename_i hb
    split at h
    ·cases h
     exact hb
    ·cases h
   ·cases h
  ·cases h
 ·cases h
theorem dir_same {l l':L9} (h:l.dir=some (none,l')):l'=l:=by
 unfold L9.dir at h
 split at h
 ·unfold L9.dir2 at h
  split at h
  ·split at h
   ·split at h
    ·cases h
    ·cases h
   ·cases h
  ·cases h
 ·cases h
  rfl
theorem nm_same (l:L9):l.nm.2.sk.a=l.a∧l.nm.2.sk.b=l.b∧l.nm.2.sk.imm=l.imm:=by
 unfold L9.nm
 split
 ·split
  ·exact ⟨rfl,rfl,rfl⟩
  ·exact ⟨rfl,rfl,rfl⟩
 ·exact ⟨rfl,rfl,rfl⟩
theorem zi_rest {z z':Az} {s:ByteArray} {l:L9} (h:ZI z) (ha:l.a=0) (hb:l.b=0) (hi:l.imm=0) (hd:z.rest s l=.ok z'):ZI z':=by
 unfold Az.rest at hd
 by_cases c:l.at_=l.s.size
 ·rw [if_pos c] at hd
  exact zi_def h hd
 ·rw [if_neg c] at hd
  cases hr:l.instr with
  | none=>rw [hr] at hd;cases hd
  | some li =>
   rw [hr] at hd
   simp only at hd
   cases hf:z.def_ s with
   | error e=>rw [hf] at hd;cases hd
   | ok z1 =>
    rw [hf] at hd
    exact zi_push (zi_def h hf) (instr_good hr ha hb hi) hd
theorem zi_row {z z':Az} {no:Nat} {s:ByteArray} (h:ZI z) (hd:z.row no s=.ok z'):ZI z':=by
 unfold Az.row at hd
 simp only at hd
 have n1:(L9.new s true).nm.2.sk.a=0:=(nm_same _).1.trans rfl
 have n2:(L9.new s true).nm.2.sk.b=0:=(nm_same _).2.1.trans rfl
 have n3:(L9.new s true).nm.2.sk.imm=0:=(nm_same _).2.2.trans rfl
 have h:=h.no no
 by_cases c:(L9.new s true).nm.1.size=0
 ·rw [if_pos c] at hd
  cases hdir:(L9.new s true).nm.2.sk.dir with
  | none=>rw [hdir] at hd;cases hd
  | some p =>
   obtain ⟨o,l⟩:=p
   rw [hdir] at hd
   cases o with
   | some n=>exact zi_dir h (dir_name hdir) hd
   | none =>
    have:=dir_same hdir
    subst this
    exact zi_rest (l:=(L9.new s true).nm.2.sk) h n1 n2 n3 hd
 ·rw [if_neg c] at hd
  exact zi_rest (l:=(L9.new s true).nm.2.sk) h n1 n2 n3 hd
theorem zi_rows:∀ (L:List ByteArray) (no:Nat) (z z':Az),ZI z→rowsZ no z L=.ok z'→ZI z'
 | [],no,z,z',h,hd=>by
  cases hd
  exact h
 | s :: L,no,z,z',h,hd=>by
  rw [rowsZ] at hd
  cases hr:z.row no s with
  | error e=>rw [hr] at hd;cases hd
  | ok z1 =>
   rw [hr] at hd
   exact zi_rows L (no+1) z1 z' (zi_row h hr) hd
theorem zi_00:ZI z00:=⟨fun e he=>absurd he List.not_mem_nil,rfl,by decide,fun p hp=>absurd hp List.not_mem_nil,[],rfl,fun p hp=>absurd hp List.not_mem_nil,List.Pairwise.nil,by decide⟩
theorem chk_u {op a b v u:Int} (hc:chkD op a b v=0) (hu:fitsM (formM op) u=true):chkD op a b u=0:=by
 obtain ⟨h1,h2,h3,h4,h5,h6,h7,-⟩:=chk_parts hc
 unfold chkD
 rw [if_neg h1,if_pos ⟨h2,h3,h4,h5,h6,h7,hu⟩]
theorem fix_good {L:List (ByteArray × Nat)} (hL:∀ p∈L,p.2≤2048) {e:En} (h:GoodL e.l∧e.at_≤2048) {imm:Int} (hf:e.fix L=.ok (imm,false)):chkD e.l.op e.l.a e.l.b imm=0∧Rg imm:=by
 unfold En.fix at hf
 by_cases c:e.l.label.size=0
 ·rw [if_pos c] at hf
  have hf:=(Prod.mk.inj (Except.ok.inj hf)).1
  rw [← hf]
  exact h.1
 ·rw [if_neg c] at hf
  cases hl:lookB L e.l.label with
  | none=>rw [hl] at hf;cases hf
  | some v =>
   rw [hl] at hf
   obtain ⟨p,hp,_,hv⟩:=lookB_some hl
   have h1:=hL p hp
   have h2:=lenM_bd (formM e.l.op)
   have hf:=Prod.mk.inj (Except.ok.inj hf)
   have h3:fitsM (formM e.l.op) imm=true:=by rw [← hf.1];simpa using hf.2
   refine ⟨chk_u h.1.1 h3,?_⟩
   rw [← hf.1]
   have:=h.2
   exact ⟨by omega,by omega⟩
theorem code_good {L:List (ByteArray × Nat)} (hL:∀ p∈L,p.2≤2048):∀ (es:List En) (out b:List Int),(∀ e∈es,GoodL e.l∧e.at_≤2048)→codeZ L es out=.ok b →
  ∃ Y:List S23,b=out ++ Y.flatMap encX∧(∀ y∈Y,chkD y.f0 y.f1 y.f2 y.f3=0∧Rg y.f3)∧Y.map (·.f0)=es.map fun e=>e.l.op
 | [],out,b,h,hd=>by
  cases hd
  exact ⟨[],by simp,fun y hy=>absurd hy List.not_mem_nil,rfl⟩
 | e :: es,out,b,h,hd=>by
  rw [codeZ] at hd
  cases hf:e.fix L with
  | error c=>rw [hf] at hd;cases hd
  | ok p =>
   obtain ⟨imm,far⟩:=p
   rw [hf] at hd
   simp only at hd
   cases far with
   | true=>rw [if_pos rfl] at hd;cases hd
   | false =>
    rw [if_neg (by decide)] at hd
    obtain ⟨Y,y1,y2,y3⟩:=code_good hL es _ b (fun x hx=>h x (List.mem_cons_of_mem _ hx)) hd
    refine ⟨⟨e.l.op,e.l.a,e.l.b,imm⟩ :: Y,?_,fun y hy=>?_,by rw [List.map_cons,List.map_cons,y3]⟩
    ·rw [y1,List.flatMap_cons,List.append_assoc]
     rfl
    ·rcases List.mem_cons.1 hy with rfl | hy
     ·exact fix_good hL (h e List.mem_cons_self) hf
     ·exact y2 y hy
theorem lens_ops {Y:List S23} {es:List En} (h:Y.map (·.f0)=es.map fun e=>e.l.op) (k:Nat):lens (Y.take k)=sumL (es.take k):=by
 have e1:lens (Y.take k)=(((Y.map (·.f0)).take k).map fun o=>lenM (formM o)).sum:=by
  rw [← List.map_take,List.map_map]
  unfold lens
  congr 1
  apply List.map_congr_left
  intro x hx
  exact encI_eq _ _ _ _
 have e2:sumL (es.take k)=(((es.map fun e=>e.l.op).take k).map fun o=>lenM (formM o)).sum:=by
  rw [← List.map_take,List.map_map]
  rfl
 rw [e1,e2,h]
theorem asm_good {s:ByteArray} {b:List Int} {z:Az} (h:asmZ s=.ok (b,z)) :
  ∃ (Y:List S23) (F:List (ByteArray × Nat)),b=Y.flatMap encX∧(∀ y∈Y,chkD y.f0 y.f1 y.f2 y.f3=0∧Rg y.f3)∧z.size=lens Y∧lens Y≤2048∧F.map Prod.fst=z.funcs ∧
   (∀ p∈F,lookB z.labels p.1=some p.2∧nameB p.1=true∧∃ k,k≤Y.length∧p.2=lens (Y.take k))∧Fs9 F∧F.length≤32:=by
 unfold asmZ asmR at h
 cases hr:rowsZ 1 z00 ((pieces s).map cutZ) with
 | error e=>rw [hr] at h;cases h
 | ok z1 =>
  rw [hr] at h
  simp only at h
  have Z:=zi_rows _ _ _ _ zi_00 hr
  cases hc:codeZ z1.labels z1.list [] with
  | error e=>rw [hc] at h;cases h
  | ok l1 =>
   rw [hc] at h
   cases h
   obtain ⟨Y,y1,y2,y3⟩:=code_good (fun p hp=>by
    obtain ⟨k,_,e⟩:=Z.labs p hp
    have:=sum_take z.list k
    have:=Z.size
    have:=Z.le
    omega) z.list [] b Z.good hc
   have hlen:Y.length=z.list.length:=by
    have:=congrArg List.length y3
    simpa using this
   have hall:lens Y=sumL z.list:=by
    have:=lens_ops y3 Y.length
    rw [List.take_length,hlen,List.take_length] at this
    exact this
   obtain ⟨F,f1,f2,f3,f4⟩:=Z.F
   refine ⟨Y,F,by rw [y1,List.nil_append],y2,by rw [hall];exact Z.size,by rw [hall,← Z.size];exact Z.le,f1,fun p hp=>⟨(f2 p hp).1,(f2 p hp).2.1,?_⟩,f3,f4⟩
   obtain ⟨q,hq,_,hv⟩:=lookB_some (f2 p hp).1
   obtain ⟨k,k1,k2⟩:=Z.labs q hq
   exact ⟨k,by omega,by rw [lens_ops y3 k,← hv,k2]⟩
def endF (size:Nat):List (ByteArray × Nat)→Nat
 | []=>size
 | p :: _=>p.2
def symF (size:Nat) (at_:Int):List (ByteArray × Nat)→List S61
 | []=>[]
 | p :: t=>⟨p.1,at_+p.2,(endF size t:Int) - p.2⟩ :: symF size at_ t
theorem lookD_of {L:List (ByteArray × Nat)} {s:ByteArray} {v:Nat} (h:lookB L s=some v):lookD L s=v:=by
 unfold lookD
 rw [h]
 rfl
theorem syms_F (L:List (ByteArray × Nat)) (size:Nat) (at_:Int):∀ F:List (ByteArray × Nat),(∀ p∈F,lookB L p.1=some p.2)→symsZ L size at_ (F.map Prod.fst)=symF size at_ F
 | [],_=>rfl
 | p :: F,h=>by
  have h1:=lookD_of (h p List.mem_cons_self)
  have h2:endZ L size (F.map Prod.fst)=endF size F:=by
   cases F with
   | nil=>rfl
   | cons q F=>exact lookD_of (h q (List.mem_cons_of_mem _ List.mem_cons_self))
  rw [List.map_cons,symsZ,symF,h1,h2,syms_F L size at_ F fun q hq=>h q (List.mem_cons_of_mem _ hq)]
theorem symF_len (size:Nat) (at_:Int):∀ F,(symF size at_ F).length=F.length
 | []=>rfl
 | p :: F=>by rw [symF,List.length_cons,List.length_cons,symF_len size at_ F]
theorem symF_at (size:Nat) (at_:Int):∀ (F:List (ByteArray × Nat)) (i:Nat) (h:i < F.length),(symF size at_ F)[i]?=some ⟨F[i].1,at_+F[i].2,(endF size (F.drop (i+1)):Int) - F[i].2⟩
 | [],i,h=>absurd h (Nat.not_lt_zero _)
 | p :: F,0,h=>rfl
 | p :: F,i+1,h=>by
  have:=symF_at size at_ F i (by simpa using h)
  rw [symF,List.getElem?_cons_succ,this]
  rfl
theorem rd_F (size:Nat) (at_:Int) (F:List (ByteArray × Nat)) (i:Nat) (h:i < F.length):rd_T61 (symF size at_ F) (i:Int)=⟨F[i].1,at_+F[i].2,(endF size (F.drop (i+1)):Int) - F[i].2⟩:=by
 have hl:i < (symF size at_ F).length:=by rw [symF_len];exact h
 rw [rd_T61_mem hl]
 have:=symF_at size at_ F i h
 rw [List.getElem?_eq_getElem hl] at this
 exact Option.some.inj this
theorem offs_mem:∀ (X:List S23) (i k:Nat),k < X.length→((i+lens (X.take k):Nat):Int)∈offsL X i
 | [],i,k,h=>absurd h (Nat.not_lt_zero _)
 | x :: X,i,0,h=>by simp [offsL,lens]
 | x :: X,i,k+1,h=>by
  have:=offs_mem X (i+(encX x).length) k (by simpa using h)
  refine List.mem_cons_of_mem _ ?_
  have e:i+lens ((x :: X).take (k+1))=i+(encX x).length+lens (X.take k):=by
   simp only [List.take_succ_cons,lens,List.map_cons,List.sum_cons]
   omega
  rw [e]
  exact this
theorem lens_le (X:List S23) (k:Nat):lens (X.take k)≤lens X:=by
 rw [lens_flat,lens_flat]
 conv=>rhs;rw [← List.take_append_drop k X,List.flatMap_append,List.length_append]
 omega
theorem fit_F {at_:Int} {Y:List S23} {F:List (ByteArray × Nat)} (h0:0≤at_) (h1:at_≤1099511627776) (hl:lens Y≤2048) (hF:∀ p∈F,nameB p.1=true∧∃ k,k≤Y.length∧p.2=lens (Y.take k)) (hp:Fs9 F) :
  fitB (symF (lens Y) at_ F) at_ (offsL Y 0) (at_+(lens Y:Nat))=true:=by
 have hpw:=List.pairwise_iff_getElem.1 hp
 have hbd:∀ i (h:i < F.length),F[i].2≤2048:=fun i h=>by
  obtain ⟨k,_,e⟩:=(hF _ (List.getElem_mem h)).2
  have:=lens_le Y k
  omega
 unfold fitB
 rw [List.all_eq_true]
 intro i hi
 rw [List.mem_range,symF_len] at hi
 obtain ⟨hn,k,k1,k2⟩:=hF _ (List.getElem_mem hi)
 have hb:=hbd i hi
 unfold fitAt
 rw [rd_F _ _ _ i hi]
 simp only [Bool.and_eq_true,Bool.not_eq_true',decide_eq_true_eq,Bool.and_eq_false_iff,decide_eq_false_iff_not]
 refine ⟨⟨⟨⟨hn,?_⟩,?_⟩,?_⟩,?_⟩
 ·unfold nameIn
  rw [List.any_eq_false]
  intro j hj
  rw [List.mem_range] at hj
  rw [rd_F _ _ _ i hi,rd_F _ _ _ j (by omega)]
  simpa using (hpw j i (by omega) hi hj).2
 ·unfold startsL
  rw [List.mem_append]
  by_cases c:k < Y.length
  ·refine .inl (List.mem_reverse.2 (List.mem_map.2 ⟨_,offs_mem Y 0 k c,?_⟩))
   rw [Nat.zero_add,← k2]
   simp only [wrap64]
   omega
  ·refine .inr ?_
   rw [List.mem_singleton,k2,List.take_of_length_le (by omega)]
 ·by_cases c:0 < i
  ·refine .inr ?_
   rw [show (i:Int) - 1=((i - 1:Nat):Int) by omega,rd_F _ _ _ (i - 1) (by omega)]
   have:=(hpw (i - 1) i (by omega) hi (by omega)).1
   show ¬ at_+(F[i].2:Int) < at_+(F[i - 1].2:Int)
   omega
  ·exact .inl c
 ·unfold nextS
  rw [symF_len]
  by_cases c:i+1 < F.length
  ·rw [if_pos c,show (i:Int)+1=((i+1:Nat):Int) by omega,rd_F _ _ _ (i+1) c,List.drop_eq_getElem_cons c]
   have:=hbd (i+1) c
   simp only [endF,wrap64]
   omega
  ·rw [if_neg c,List.drop_of_length_le (by omega)]
   simp only [endF,wrap64]
   omega
theorem byt_mod (x:Int):(Lit.int .u8 (x % 256)).wf=true:=by
 have e1:IntKind.u8.min=0:=by decide
 have e2:IntKind.u8.max=255:=by decide
 simp only [Lit.wf,e1,e2,Bool.and_eq_true,decide_eq_true_eq]
 omega
theorem imm_byt:∀ (k:Nat) (v:Int),Byt (immI k v)
 | 0,v=>fun x hx=>absurd hx List.not_mem_nil
 | k+1,v=>fun x hx=>by
  unfold immI at hx
  rcases List.mem_cons.1 hx with rfl | hx
  ·exact byt_mod _
  ·exact imm_byt k _ x hx
theorem enc_byt (y:S23):Byt (encX y):=fun x hx=>by
 unfold encX encI at hx
 rcases List.mem_cons.1 hx with rfl | hx
 ·exact byt_mod _
 ·rcases List.mem_append.1 hx with hx | hx
  ·split at hx
   ·rw [List.mem_singleton] at hx
    subst hx
    exact byt_mod _
   ·split at hx
    ·rw [List.mem_singleton] at hx
     subst hx
     exact byt_mod _
    ·exact absurd hx List.not_mem_nil
  ·exact imm_byt _ _ x hx
theorem symF_mem (size:Nat) (at_:Int):∀ (F:List (ByteArray × Nat)),∀ s∈symF size at_ F,∃ p∈F,s.f1=at_+(p.2:Nat)
 | [],s,h=>absurd h List.not_mem_nil
 | p :: F,s,h=>by
  rw [symF] at h
  rcases List.mem_cons.1 h with rfl | h
  ·exact ⟨p,List.mem_cons_self,rfl⟩
  ·obtain ⟨q,hq,e⟩:=symF_mem size at_ F s h
   exact ⟨q,List.mem_cons_of_mem _ hq,e⟩
theorem len_le_lens:∀ X:List S23,(∀ y∈X,chkD y.f0 y.f1 y.f2 y.f3=0∧Rg y.f3)→X.length≤lens X
 | [],_=>Nat.le_refl _
 | x :: X,h=>by
  have:=len_le_lens X fun y hy=>h y (List.mem_cons_of_mem _ hy)
  have h1:=encX_pos (h x List.mem_cons_self).1
  simp only [lens,List.map_cons,List.sum_cons,List.length_cons] at this ⊢
  omega
theorem half_two {text:ByteArray} {at_:Int} {b:List Int} {L:List S61} {n:Int} (h:asmOut text at_=(b,L,n,0)):Byt b∧(∀ s∈L,okI s.f1)∧L.length≤32∧(disZ b at_ L).2=0:=by
 unfold asmOut at h
 by_cases c0:20000 < text.size
 ·rw [if_pos c0] at h
  cases h
 rw [if_neg c0] at h
 by_cases c1:at_ < 0∨1099511627776 < at_
 ·rw [if_pos c1] at h
  cases h
 rw [if_neg c1] at h
 have a0:0≤at_:=Int.not_lt.1 fun h=>c1 (Or.inl h)
 have a1:at_≤1099511627776:=Int.not_lt.1 fun h=>c1 (Or.inr h)
 cases hz:asmZ text with
 | error p =>
  obtain ⟨no,e⟩:=p
  rw [hz] at h
  have hne:=asm_err hz
  unfold asmFin at h
  simp only [Prod.mk.injEq] at h
  exact absurd h.2.2.2 hne
 | ok p =>
  obtain ⟨b',z⟩:=p
  rw [hz] at h
  unfold asmFin at h
  simp only [Prod.mk.injEq] at h
  obtain ⟨rfl,hL,-,-⟩:=h
  obtain ⟨Y,F,g1,g2,g3,g4,g5,g6,g7,g8⟩:=asm_good hz
  have hsy:L=symF (lens Y) at_ F:=by
   rw [← hL,← g5,g3]
   exact syms_F _ _ _ F fun p hp=>(g6 p hp).1
  subst g1
  have hlen:(Y.flatMap encX).length=lens Y:=(lens_flat Y).symm
  have hbd:∀ p∈F,p.2≤2048:=fun p hp=>by
   obtain ⟨k,_,e⟩:=(g6 p hp).2.2
   have:=lens_le Y k
   omega
  refine ⟨fun x hx=>?_,fun s hs=>?_,by rw [hsy,symF_len];exact g8,?_⟩
  ·obtain ⟨y,_,hy⟩:=List.mem_flatMap.1 hx
   exact enc_byt y x hy
  ·rw [hsy] at hs
   obtain ⟨p,hp,e⟩:=symF_mem _ _ _ s hs
   have:=hbd p hp
   rw [e]
   exact okI_of (by omega) (by omega)
  ·have hsw:swp (Y.flatMap encX)=(Y,offsL Y 0,0):=by
    unfold swp
    rw [if_neg (by omega)]
    have:=swZ_back (Y.flatMap encX) Y ((Y.flatMap encX).length+1) 0 [] [] g2 (by rw [List.drop_zero]) (Nat.zero_le _) (by have:=len_le_lens Y g2;omega)
    rw [this,List.nil_append,List.nil_append]
   have hfit:=fit_F a0 a1 g4 (fun p hp=>(g6 p hp).2) g7
   unfold disZ
   rw [if_neg (by rw [hsy,symF_len];omega),if_neg c1,hsw,if_neg (by simp),hlen,hsy,if_neg (by rw [hfit];decide)]
end Go.Proofs.YtffojmgmpfjlhaaGreatDoor.Q
namespace Go.Proofs.YtffojmgmpfjlhaaGreatDoor.Q
open Go.Joins Go.ChangeShapes Go.WideShapes Go.RowKit Go.Deep Go.Proofs.YtffojmgmpfjlhaaGreatDoor YtffojmgmpfjlhaaGreatDoorW.PrintWords YtffojmgmpfjlhaaGreatDoorW.PrintLast
section
variable {H:Type} {enc:TypeId × Value→H} {W:World}
theorem symFields:∃ f0 f1 f2:Field,Tryz.prog.underlying 61=some (.struct #[f0,f1,f2])∧(f0.type=9∧f1.type=2∧f2.type=2)∧f0.offset=0∧f1.offset=1∧f2.offset=2 :=
 ⟨_,_,_,Tryz.underlying61,⟨rfl,rfl,rfl⟩,rfl,rfl,rfl⟩
theorem symCells:Tryz.prog.cellsOf 61=3∧Tryz.prog.cellsOf 9=1∧Tryz.prog.cellsOf 2=1∧Tryz.prog.cellsOf 5=1∧Tryz.prog.cellsOf 86=3:=⟨by kernel_rfl,by kernel_rfl,by kernel_rfl,by kernel_rfl,by kernel_rfl⟩
def SymOk (x:S61):Prop:=(Lit.int .i64 x.f1).wf=true∧(Lit.int .i64 x.f2).wf=true
theorem open_sym {fuel:Nat} {cs:List Value} {y:DataW H × List MemPlace} (hl:cs.length=3) (h:DataW.trod enc Tryz.prog W 0 (fun _=>true) true fuel 61 cs=some y) :
  ∃ x:S61,cs=[.string x.f0,.int .i64 x.f1,.int .i64 x.f2]∧SymOk x:=by
 obtain ⟨g0,g1,g2,hs,⟨t0,t1,t2⟩,o0,o1,o2⟩:=symFields
 obtain ⟨_,c9,c2,_,_⟩:=symCells
 obtain ⟨ys,n,_,-,-,hyl,hf⟩:=DataW.trod_struct hs h
 have h0:=hf 0 g0 rfl
 have h1:=hf 1 g1 rfl
 have h2:=hf 2 g2 rfl
 rw [t0,o0,c9] at h0
 rw [t1,o1,c2] at h1
 rw [t2,o2,c2] at h2
 match cs,hl with
 | [v0,v1,v2],_ =>
  have h0:DataW.trod enc Tryz.prog W 0 (fun _=>true) true n 9 [v0]=ys[0]?:=h0
  have h1:DataW.trod enc Tryz.prog W 0 (fun _=>true) true n 2 [v1]=ys[1]?:=h1
  have h2:DataW.trod enc Tryz.prog W 0 (fun _=>true) true n 2 [v2]=ys[2]?:=h2
  rw [List.getElem?_eq_getElem (by rw [hyl];simp)] at h0 h1 h2
  obtain ⟨i0,r0,-,_⟩:=DataW.trod_string Tryz.underlying9 h0
  obtain ⟨i1,r1,-,p1⟩:=DataW.trod_int Tryz.underlying2 h1
  obtain ⟨i2,r2,-,p2⟩:=DataW.trod_int Tryz.underlying2 h2
  simp only [List.cons.injEq,and_true] at r0 r1 r2
  subst r0 r1 r2
  exact ⟨⟨i0,i1,i2⟩,rfl,p1,p2⟩
theorem open_syms {fuel:Nat} {v:Value} {y:DataW H × List MemPlace} (hf:DataW.trod enc Tryz.prog W 0 (fun _=>true) true fuel 47 [v]=some y) :
  ∃ (a:Option Addr) (cap:Nat) (l:List S61),v=.slice a l.length cap∧l.length≤cap∧Kd.C k61 W a l.length l∧∀ x∈l,SymOk x:=by
 rcases open_slice Tryz.underlying47 hf with ⟨hcs,_⟩ | ⟨x,len,c,m,n,D,Pl,hcs,_,hl,hm,hmm,hx,hi⟩
 ·simp only [List.cons.injEq,and_true] at hcs
  subst hcs
  exact ⟨none,0,[],rfl,Nat.le_refl _,⟨rfl,by simp,fun h=>absurd h (by simp)⟩,by simp⟩
 ·simp only [List.cons.injEq,and_true] at hcs
  subst hcs
  simp only [if_true] at hmm
  subst hmm
  rw [symCells.1] at hi
  have key:∀ i,∃ y:S61,i < len→(∀ j u,[Value.string y.f0,.int .i64 y.f1,.int .i64 y.f2][j]?=some u→W.cell? (x.add (i * 3+j))=some u)∧SymOk y:=by
   intro i
   by_cases hil:i < len
   ·obtain ⟨cs',hc,ht'⟩:=hi i (by omega)
    obtain ⟨_,hcl,hat⟩:=World.cells?_some hc
    obtain ⟨y,rfl,hy⟩:=open_sym hcl ht'
    refine ⟨y,fun _=>⟨fun j u hu=>?_,hy⟩⟩
    have hj:j < 3:=by
     have:=(List.getElem?_eq_some_iff.1 hu).1
     simpa using this
    rw [← Go.Deep.add_add,hat j hj,hu]
   ·exact ⟨z61,fun h=>absurd h hil⟩
  obtain ⟨f,hfs⟩:∃ f:Nat→S61,∀ i,i < len→(∀ j u,[Value.string (f i).f0,.int .i64 (f i).f1,.int .i64 (f i).f2][j]?=some u→W.cell? (x.add (i * 3+j))=some u)∧SymOk (f i) :=
   ⟨fun i=>Classical.choose (key i),fun i=>Classical.choose_spec (key i)⟩
  have hlen:((List.range len).map f).length=len:=by simp
  refine ⟨some x,m,(List.range len).map f,by rw [hlen],by rw [hlen];exact hl,⟨rfl,by rw [hlen];unfold maxLen at hm;omega,fun _=>⟨x,rfl,fun j y hj=>?_⟩⟩,fun y hy=>?_⟩
  ·have hjl:j < len:=by
    have:=(List.getElem?_eq_some_iff.1 hj).1
    simpa using this
   have hy:y=f j:=by
    rw [List.getElem?_map,List.getElem?_range hjl] at hj
    simpa using hj.symm
   refine ⟨_,rfl,k61_mk W y,fun i u hu=>?_⟩
   rw [hy] at hu
   exact (hfs j hjl).1 i u hu
  ·obtain ⟨i,hi2,rfl⟩:=List.mem_map.1 hy
   exact (hfs i (List.mem_range.1 hi2)).2
theorem open_bts {fuel:Nat} {v:Value} {y:DataW H × List MemPlace} (hf:DataW.trod enc Tryz.prog W 0 (fun _=>true) true fuel 24 [v]=some y) :
  ∃ (a:Option Addr) (cap:Nat) (l:List Int),v=.slice a l.length cap∧l.length≤cap∧Kd.C (Kd.int .u8) W a l.length l∧∀ n∈l,(Lit.int .u8 n).wf=true:=by
 rcases open_ints Tryz.underlying24 Tryz.underlying5 symCells.2.2.2.1 hf with ⟨hcs,_⟩ | ⟨x,l,c,zs,hcs,_,hl,hm,hz,hx,hcell,hwz⟩
 ·simp only [List.cons.injEq,and_true] at hcs
  subst hcs
  exact ⟨none,0,[],rfl,Nat.le_refl _,⟨rfl,by simp,fun h=>absurd h (by simp)⟩,by simp⟩
 ·simp only [List.cons.injEq,and_true] at hcs
  subst hcs
  simp only [if_true] at hz
  have hlen:(zs.take l).length=l:=by rw [List.length_take];omega
  refine ⟨some x,c,zs.take l,by rw [hlen],by rw [hlen];exact hl,⟨rfl,by rw [hlen];unfold maxLen at hm;omega,fun _=>⟨x,rfl,fun j y hj=>?_⟩⟩,fun n hn=>hwz n (List.mem_of_mem_take hn)⟩
  have hjl:j < l:=by
   have:=(List.getElem?_eq_some_iff.1 hj).1
   omega
  refine ⟨[.int .u8 y],rfl,rfl,fun i u hu=>?_⟩
  have hi:i=0:=by
   have:=(List.getElem?_eq_some_iff.1 hu).1
   simpa using this
  subst hi
  have e:zs.getD j 0=y:=by
   rw [List.getElem?_take_of_lt hjl] at hj
   rw [List.getD_eq_getElem?_getD,hj]
   rfl
  have h9:=hcell j (by omega)
  rw [e] at h9
  show W.cell? (x.add (j * 1+0))=some u
  rw [Nat.mul_one,Nat.add_zero,h9]
  simpa using hu
theorem objFields:∃ f0 f1 f2:Field,Tryz.prog.underlying 86=some (.struct #[f0,f1,f2])∧f0.type=24∧f1.type=2∧f2.type=47∧oneCellFields Tryz.prog #[f0,f1,f2]=true :=
 ⟨_,_,_,Tryz.underlying86,rfl,rfl,rfl,by kernel_rfl⟩
theorem open_obj {r:Reach} {b0:Nat} {v:Value} {d:DataW H} {p:List MemPlace} (hv:Value.okWide Tryz.prog W r b0 86 v) (h:DataW.Trod enc Tryz.prog W 0 (fun _=>true) true 86 v d p) :
  ∃ (a:Option Addr) (cap:Nat) (l:List Int) (at_:Int) (a2:Option Addr) (cap2:Nat) (L:List S61),v=.agg #[.slice a l.length cap,.int .i64 at_,.slice a2 L.length cap2]∧l.length≤cap∧Kd.C (Kd.int .u8) W a l.length l∧(∀ n∈l,(Lit.int .u8 n).wf=true) ∧
   (Lit.int .i64 at_).wf=true∧L.length≤cap2∧Kd.C k61 W a2 L.length L∧∀ x∈L,SymOk x:=by
 obtain ⟨f0,f1,f2,hs,e0,e1,e2,hone⟩:=objFields
 obtain ⟨v0,v1,v2,y0,y1,y2,n,rfl,rfl,rfl,g0,g1,g2⟩:=open_agg3 hs hone symCells.2.2.2.2 hv h
 rw [e0] at g0
 rw [e1] at g1
 rw [e2] at g2
 obtain ⟨a,cap,l,rfl,h1,h2,h3⟩:=open_bts g0
 obtain ⟨at_,r1,-,p1⟩:=DataW.trod_int Tryz.underlying2 g1
 obtain ⟨a2,cap2,L,rfl,q1,q2,q3⟩:=open_syms g2
 simp only [List.cons.injEq,and_true] at r1
 subst r1
 exact ⟨a,cap,l,at_,a2,cap2,L,rfl,h1,h2,h3,p1,q1,q2,q3⟩
end
end Go.Proofs.YtffojmgmpfjlhaaGreatDoor.Q
namespace Go.Proofs.YtffojmgmpfjlhaaGreatDoor.Q
open Go.Proofs.YtffojmgmpfjlhaaGreatDoor Go.RowKit Go.Proofs.YtffojmgmpfjlhaaGreatDoorW.PrintWords Go.Proofs.YtffojmgmpfjlhaaGreatDoorW.PrintLast Go.Proofs.YtffojmgmpfjlhaaGreatDoorW.PrintMore
attribute [local go_sem] max2_int min2_int max_two min_two max_three min_three max_four min_four
def lzInsnListings.j0:Nat→ByteArray→Bool→List Int→Int→List (S61)→Option (Bool)
 | 0,_,_,_,_,_=>none
 | k+1,x1,x5,x916000,x916001,x916002=>(insn_Assemble.f x1 x916001).bind fun bt929=>(if bt929.2.2.2=0 then ((insn_Disassemble.f bt929.1 x916001 bt929.2.1).bind fun bt937=>((insn_Assemble.f bt937.1 x916001).bind fun bt939=>(if x5=true then (if bt937.2=0 then (if bt939.2.2.2=0 then ((lzsameBytes.f bt929.1 bt939.1).bind fun t947=>(if t947=true then ((lzsameSyms.f k bt929.2.1 bt939.2.1).bind fun t948=>(some t948)) else (some false))) else (some false)) else (some false)) else (some false)))) else (some x5))
def lzInsnListings.f (k:Nat) (l0_0:List Int) (a0_1:Int) (l0_2:List (S61)) (a1:ByteArray):Option (Bool):=(lzsane.f k).bind fun t916=>((insn_Disassemble.f l0_0 a0_1 l0_2).bind fun bt917=>(if bt917.2=0 then ((insn_Assemble.f bt917.1 a0_1).bind fun bt919=>(if bt919.2.2.2=0 then (if bt919.2.2.1=0 then ((lzsameBytes.f bt919.1 l0_0).bind fun t927=>(if t927=true then ((lzsameSyms.f k bt919.2.1 l0_2).bind fun t928=>(if t928=true then (lzInsnListings.j0 k a1 t916 l0_0 a0_1 l0_2) else (some false))) else (some false))) else (some false)) else (some false))) else (lzInsnListings.j0 k a1 t916 l0_0 a0_1 l0_2)))
theorem lzInsnListings.mono_l:∀ k,(∀ y0 y1 y2 y3 y4,LeO (lzInsnListings.j0 k y0 y1 y2 y3 y4) (lzInsnListings.j0 (k+1) y0 y1 y2 y3 y4))
 | 0=>fun _ _ _ _ _ r h=>by simp [lzInsnListings.j0] at h
 | k+1=>by
  have ih0:=lzInsnListings.mono_l k
  ·intro y0 y1 y2 y3 y4;unfold lzInsnListings.j0;repeat' first
   | (with_reducible exact ih0 _ _ _ _ _)
   | (with_reducible exact lzsameSyms.mono _ _ _)
   | (with_reducible exact lzsane.mono _)
   | (with_reducible exact LeO.refl _)
   | (with_reducible exact LeO.none _)
   | (with_reducible refine LeO.ite ?_ ?_)
   | (with_reducible refine LeO.bind ?_ (fun _=>?_))
   | exact LeO.none _
   | refine LeO.ite ?_ ?_
   | refine LeO.bind ?_ (fun _=>?_)
theorem lzInsnListings.mono:∀ a0 a1 a2 a3 k,LeO (lzInsnListings.f k a0 a1 a2 a3) (lzInsnListings.f (k+1) a0 a1 a2 a3):=by
 intro a0 a1 a2 a3 k;have ih0:=lzInsnListings.mono_l k;unfold lzInsnListings.f;repeat' first
   | (with_reducible exact ih0 _ _ _ _ _)
   | (with_reducible exact lzsameSyms.mono _ _ _)
   | (with_reducible exact lzsane.mono _)
   | (with_reducible exact LeO.refl _)
   | (with_reducible exact LeO.none _)
   | (with_reducible refine LeO.ite ?_ ?_)
   | (with_reducible refine LeO.bind ?_ (fun _=>?_))
   | exact LeO.none _
   | refine LeO.ite ?_ ?_
   | refine LeO.bind ?_ (fun _=>?_)
theorem lzInsnListings.calls (k:Nat) (A0_0:Option Addr) (c0_0:Nat) (l0_0:List Int) (a0_1:Int) (A0_2:Option Addr) (c0_2:Nat) (l0_2:List (S61)) (a1:ByteArray) (r:Bool) (w:World) (hr0_0:Kd.C (Kd.int .u8) w A0_0 l0_0.length l0_0) (hc0_0:l0_0.length≤c0_0) (hr0_2:Kd.C k61 w A0_2 l0_2.length l0_2) (hc0_2:l0_2.length≤c0_2) (h:lzInsnListings.f k l0_0 a0_1 l0_2 a1=some r) (hgw:GW w) (hrt:r=true:=by rfl) :
  Calls Tryz.prog 15 #[.agg #[.slice A0_0 l0_0.length c0_0,.int .i64 a0_1,.slice A0_2 l0_2.length c0_2],.string a1] w fun e w'=>e=.returned (.bool r)∧Below w.heap.size w w':=by
 have HRT:=Aside0.mk hrt;clear hrt;have hu86:=Tryz.underlying86;have HR0_0:=Aside0.mk hr0_0;have HC0_0:=Aside0.mk hc0_0;clear hr0_0 hc0_0;have HR0_2:=Aside0.mk hr0_2;have HC0_2:=Aside0.mk hc0_2;clear hr0_2 hc0_2;have HB:=Aside0.mk (Below.refl w.heap.size w);unfold lzInsnListings.f at h;have H:=h;clear h;obtain ⟨t916,A3,H⟩:=bas H;(try dsimp only at H);obtain ⟨⟨t917,t918⟩,A4,H⟩:=bas H;(try dsimp only at H);have HC5:=Aside0.mk H;clear H;go_enter Tryz.func15,Tryz.ntmps15
 go_upto_if 34 with (first | ((with_reducible refine gate_dst (N:=2) rfl ?_);refine bxe (N:=2) (cs:=#[.slice A0_0 l0_0.length c0_0,.int .i64 a0_1,.slice A0_2 l0_2.length c0_2]) (t:=86) ?_;intro gb915 hg w6 hbox hb;have BK915:=Aside0.mk hbox;have GW915:Aside0 (w.heap.size≤gb915):=⟨gwb⟩;have GE915:Aside0 (w.heap.size≤gb915):=⟨gwb⟩;replace HB:=Aside0.mk (below_step blw hb);clear hb hbox hg) | ((with_reducible refine gate_callee (f:=17) rfl ?_);refine gl (some 22) Tryz.func17 #[] ?_;(with_reducible refine (lzsane.calls k  t916 _ A3.out gwy).mono ?_);rintro e w7 ⟨rfl,hb⟩;refine ⟨_,rfl,?_⟩;replace BK915:=Aside0.mk (blk_below (g:=gb915) bko hb);replace HB:=Aside0.mk (below_step blw hb);clear hb;obtain ⟨hcz8_0,hcz8_1,hcz8_2,hfz8_0,hfz8_1,hfz8_2⟩:=bz3 BK915.out) | ((with_reducible refine gate_callee (f:=40) rfl ?_);refine gl (some 30) Tryz.func40 #[.slice A0_0 l0_0.length c0_0,.int .i64 a0_1,.slice A0_2 l0_2.length c0_2] ?_;(with_reducible refine (insn_Disassemble.calls _ _ l0_0 a0_1 _ _ l0_2 _ _ _ ?side1 ?side2 ?side3 ?side4 A4.out gwy).mono ?_);(case side1=>repeat (first | exact (Kd.C_below HR0_0.out HB.out) | (with_reducible refine Kd.C_alloc ?_ _) | (with_reducible refine Kd.C_drewN ?_ _) | (with_reducible refine Kd.C_drew ?_)));(case side2=>exact HC0_0.out);(case side3=>repeat (first | exact (Kd.C_below HR0_2.out HB.out) | (with_reducible refine Kd.C_alloc ?_ _) | (with_reducible refine Kd.C_drewN ?_ _) | (with_reducible refine Kd.C_drew ?_)));(case side4=>exact HC0_2.out);rintro e w9 ⟨rfl,hb⟩;refine ⟨_,rfl,?_⟩;replace BK915:=Aside0.mk (blk_below (g:=gb915) bko hb);replace HB:=Aside0.mk (below_step blw hb);clear hb))
 (try simp only [Act.put,List.setIfInBounds_toArray,List.set_cons_zero,List.set_cons_succ]);go_cut [] (fun wc=>∃ (kq:Nat),Aside0 (lzInsnListings.j0 kq a1 t916 l0_0 a0_1 l0_2=some r)∧Aside0 (kq≤k)∧Aside0 (wc.heap[gb915]?=some (.cells #[(.slice A0_0 l0_0.length c0_0),.int .i64 a0_1,(.slice A0_2 l0_2.length c0_2)] 86 (0,0)))∧Aside0 (Below w.heap.size w wc))
 case first =>
  have H:=HC5.out;clear HC5;by_cases c10:t918=0
  ·rw [if_pos c10] at H;obtain ⟨c10b0,c10b1⟩:=bqt c10;clear c10;(first | rw [c10b0] | (simp only [i64_w,i32_w];rw [c10b0]) | skip);obtain ⟨⟨t919,t920,t921,t922⟩,A11,H⟩:=bas H;(try dsimp only at H);by_cases c12:t922=0
   ·rw [if_pos c12] at H;obtain ⟨c12b0,c12b1⟩:=bqt c12;clear c12;by_cases c13:t921=0
    ·rw [if_pos c13] at H;obtain ⟨c13b0,c13b1⟩:=bqt c13;clear c13;obtain ⟨t927,A14,H⟩:=bas H;(try dsimp only at H);by_cases c15:t927=true
     ·subst c15;rw [if_pos rfl] at H;obtain ⟨t928,A16,H⟩:=bas H;(try dsimp only at H);by_cases c17:t928=true
      ·subst c17;rw [if_pos rfl] at H;have H':=Aside0.mk H;clear H;obtain ⟨_,_,_,_,_,_⟩:=bz3 BK915.out;go_wp2_with (first | ((with_reducible refine gate_callee (f:=28) rfl ?_);refine gl (some 39) Tryz.func28 #[.string t917,.int .i64 a0_1] ?_;(with_reducible refine (insn_Assemble.calls _ a0_1 _ _ _ _ _ A11.out gwy).mono ?_);rintro e w19 ⟨v923,v925,rfl,ho0,ho1,hb⟩;refine ⟨_,rfl,?_⟩;have HO924:=Aside0.mk (Kd.R_lower ho0 (below_size blw));have HO926:=Aside0.mk (Kd.R_lower ho1 (below_size blw));replace BK915:=Aside0.mk (blk_below (g:=gb915) bko hb);replace HB:=Aside0.mk (below_step blw hb);clear hb;(try clear ho0);(try clear ho1);obtain ⟨_,_,_,_,_,_⟩:=bz3 BK915.out;obtain ⟨Ao21,co21,eo21⟩:=Kd.R_slice HO924.out;subst eo21) | (go_at_call 20;(with_reducible refine (lzsameBytes.calls _ _ _ _ _ l0_0 true _ ?side1 ?side2 ?side3 ?side4 A14.out).mono ?_);(case side1=>repeat (first | exact (Kd.R_reads' HO924.out).2.2 | (with_reducible refine Kd.C_alloc ?_ _) | (with_reducible refine Kd.C_drewN ?_ _) | (with_reducible refine Kd.C_drew ?_)));(case side2=>exact (Kd.R_reads' HO924.out).2.1);(case side3=>repeat (first | exact (Kd.C_below HR0_0.out HB.out) | (with_reducible refine Kd.C_alloc ?_ _) | (with_reducible refine Kd.C_drewN ?_ _) | (with_reducible refine Kd.C_drew ?_)));(case side4=>exact HC0_0.out);rintro e w' ⟨rfl,⟨nd,rfl⟩⟩;obtain ⟨Ao22,co22,eo22⟩:=Kd.R_slice HO926.out;subst eo22) | (go_at_call 30;(with_reducible refine (lzsameSyms.calls k _ _ _ _ _ l0_2 true _ ?side1 ?side2 ?side3 ?side4 A16.out).mono ?_);(case side1=>repeat (first | exact (Kd.R_reads' HO926.out).2.2 | (with_reducible refine Kd.C_alloc ?_ _) | (with_reducible refine Kd.C_drewN ?_ _) | (with_reducible refine Kd.C_drew ?_)));(case side2=>exact (Kd.R_reads' HO926.out).2.1);(case side3=>repeat (first | exact (Kd.C_below HR0_2.out blw) | (with_reducible refine Kd.C_alloc ?_ _) | (with_reducible refine Kd.C_drewN ?_ _) | (with_reducible refine Kd.C_drew ?_)));(case side4=>exact HC0_2.out);rintro e w' ⟨rfl,⟨nd,rfl⟩⟩))
       go_meet
       case rel=>exact ⟨_,H',⟨by first | omega | exact Nat.le_refl _⟩,⟨bko⟩,⟨blw⟩⟩
      ·replace c17:=Bool.eq_false_iff.mpr c17;subst c17;rw [if_neg (show ¬ (false=true) by decide)] at H;exact absurd (H.trans (congrArg some HRT.out)) (by simp)
     ·replace c15:=Bool.eq_false_iff.mpr c15;subst c15;rw [if_neg (show ¬ (false=true) by decide)] at H;exact absurd (H.trans (congrArg some HRT.out)) (by simp)
    ·rw [if_neg c13] at H;obtain ⟨c13b0,c13b1⟩:=bqf c13;exact absurd (H.trans (congrArg some HRT.out)) (by simp)
   ·rw [if_neg c12] at H;obtain ⟨c12b0,c12b1⟩:=bqf c12;exact absurd (H.trans (congrArg some HRT.out)) (by simp)
  ·rw [if_neg c10] at H;obtain ⟨c10b0,c10b1⟩:=bqf c10;(first | rw [c10b0] | (simp only [i64_w,i32_w];rw [c10b0]) | skip);have H':=Aside0.mk H;clear H;go_wp2;go_meet
   case rel=>exact ⟨_,H',⟨by first | omega | exact Nat.le_refl _⟩,⟨bko⟩,⟨blw⟩⟩
 case rest =>
  clear HC5;try clear hcz8_0
  try clear hcz8_1
  try clear hcz8_2
  try clear hfz8_0
  try clear hfz8_1
  try clear hfz8_2
  obtain ⟨kq,HA,HJ4,BK915,HB⟩:=hcut;cases kq with
  | zero=>exact absurd HA.out (by simp [lzInsnListings.j0])
  | succ kj4 =>
   have H:=HA.out;clear HA;simp only [lzInsnListings.j0] at H;obtain ⟨⟨t929,t930,t931,t932⟩,A36,H⟩:=bas H;(try dsimp only at H);by_cases c37:t932=0
   ·rw [if_pos c37] at H;obtain ⟨c37b0,c37b1⟩:=bqt c37;clear c37;obtain ⟨⟨t937,t938⟩,A38,H⟩:=bas H;(try dsimp only at H);obtain ⟨⟨t939,t940,t941,t942⟩,A39,H⟩:=bas H;(try dsimp only at H);by_cases c40:t916=true
    ·subst c40;rw [if_pos rfl] at H;by_cases c41:t938=0
     ·rw [if_pos c41] at H;obtain ⟨c41b0,c41b1⟩:=bqt c41;clear c41;by_cases c42:t942=0
      ·rw [if_pos c42] at H;obtain ⟨c42b0,c42b1⟩:=bqt c42;clear c42;obtain ⟨t947,A43,H⟩:=bas H;(try dsimp only at H);by_cases c44:t947=true
       ·subst c44;rw [if_pos rfl] at H;obtain ⟨t948,A45,H⟩:=bas H;(try dsimp only at H);obtain rfl:=Option.some.inj H;obtain ⟨_,_,_,_,_,_⟩:=bz3 BK915.out;go_wp2_with (first | ((with_reducible refine gate_callee (f:=28) rfl ?_);refine gl (some 68) Tryz.func28 #[.string a1,.int .i64 a0_1] ?_;(with_reducible refine (insn_Assemble.calls a1 a0_1 _ _ _ _ _ A36.out gwy).mono ?_);rintro e w47 ⟨v933,v935,rfl,ho0,ho1,hb⟩;refine ⟨_,rfl,?_⟩;have HO934:=Aside0.mk (Kd.R_lower ho0 (below_size blw));have HO936:=Aside0.mk (Kd.R_lower ho1 (below_size blw));replace BK915:=Aside0.mk (blk_below (g:=gb915) bko hb);replace HB:=Aside0.mk (below_step blw hb);clear hb;(try clear ho0);(try clear ho1);obtain ⟨_,_,_,_,_,_⟩:=bz3 BK915.out;obtain ⟨Ao49,co49,eo49⟩:=Kd.R_slice HO934.out;subst eo49;obtain ⟨Ao50,co50,eo50⟩:=Kd.R_slice HO936.out;subst eo50) | ((with_reducible refine gate_callee (f:=40) rfl ?_);refine gl (some 81) Tryz.func40 #[.slice Ao49 t929.length co49,.int .i64 a0_1,.slice Ao50 t930.length co50] ?_;(with_reducible refine (insn_Disassemble.calls _ _ _ a0_1 _ _ _ _ _ _ ?side1 ?side2 ?side3 ?side4 A38.out gwy).mono ?_);(case side1=>repeat (first | exact (Kd.R_reads' HO934.out).2.2 | (with_reducible refine Kd.C_alloc ?_ _) | (with_reducible refine Kd.C_drewN ?_ _) | (with_reducible refine Kd.C_drew ?_)));(case side2=>exact (Kd.R_reads' HO934.out).2.1);(case side3=>repeat (first | exact (Kd.R_reads' HO936.out).2.2 | (with_reducible refine Kd.C_alloc ?_ _) | (with_reducible refine Kd.C_drewN ?_ _) | (with_reducible refine Kd.C_drew ?_)));(case side4=>exact (Kd.R_reads' HO936.out).2.1);rintro e w51 ⟨rfl,hb⟩;refine ⟨_,rfl,?_⟩;replace HO934:=Aside0.mk (Kd.R_below (by (with_reducible repeat (first | apply Kd.R_alloc | apply Kd.R_drewN | apply Kd.R_drew));exact HO934.out) hb);replace HO936:=Aside0.mk (Kd.R_below (by (with_reducible repeat (first | apply Kd.R_alloc | apply Kd.R_drewN | apply Kd.R_drew));exact HO936.out) hb);replace BK915:=Aside0.mk (blk_below (g:=gb915) bko hb);replace HB:=Aside0.mk (below_step blw hb);clear hb;obtain ⟨_,_,_,_,_,_⟩:=bz3 BK915.out) | ((with_reducible refine gate_callee (f:=28) rfl ?_);refine gl (some 88) Tryz.func28 #[.string t937,.int .i64 a0_1] ?_;(with_reducible refine (insn_Assemble.calls _ a0_1 _ _ _ _ _ A39.out gwy).mono ?_);rintro e w53 ⟨v943,v945,rfl,ho0,ho1,hb⟩;refine ⟨_,rfl,?_⟩;have HO944:=Aside0.mk (Kd.R_lower (Kd.R_new' ho0 (Kd.R_lt (by (with_reducible repeat (first | apply Kd.R_alloc | apply Kd.R_drewN | apply Kd.R_drew));exact HO934.out))) (below_size blw));replace HO934:=Aside0.mk (Kd.R_elder' (by (with_reducible repeat (first | apply Kd.R_alloc | apply Kd.R_drewN | apply Kd.R_drew));exact HO934.out) (Kd.R_base ho0) hb);have HO946:=Aside0.mk (Kd.R_lower (Kd.R_new' ho1 (Kd.R_lt (by (with_reducible repeat (first | apply Kd.R_alloc | apply Kd.R_drewN | apply Kd.R_drew));exact HO936.out))) (below_size blw));replace HO936:=Aside0.mk (Kd.R_elder' (by (with_reducible repeat (first | apply Kd.R_alloc | apply Kd.R_drewN | apply Kd.R_drew));exact HO936.out) (Kd.R_base ho1) hb);replace BK915:=Aside0.mk (blk_below (g:=gb915) bko hb);replace HB:=Aside0.mk (below_step blw hb);clear hb;(try clear ho0);(try clear ho1);obtain ⟨Ao54,co54,eo54⟩:=Kd.R_slice HO944.out;subst eo54) | (go_at_call 20;(with_reducible refine (lzsameBytes.calls _ _ _ _ _ _ true _ ?side1 ?side2 ?side3 ?side4 A43.out).mono ?_);(case side1=>repeat (first | exact (Kd.R_reads' HO934.out).2.2 | (with_reducible refine Kd.C_alloc ?_ _) | (with_reducible refine Kd.C_drewN ?_ _) | (with_reducible refine Kd.C_drew ?_)));(case side2=>exact (Kd.R_reads' HO934.out).2.1);(case side3=>repeat (first | exact (Kd.R_reads' HO944.out).2.2 | (with_reducible refine Kd.C_alloc ?_ _) | (with_reducible refine Kd.C_drewN ?_ _) | (with_reducible refine Kd.C_drew ?_)));(case side4=>exact (Kd.R_reads' HO944.out).2.1);rintro e w' ⟨rfl,⟨nd,rfl⟩⟩;obtain ⟨Ao55,co55,eo55⟩:=Kd.R_slice HO946.out;subst eo55) | (go_at_call 30;(with_reducible refine (lzsameSyms.calls kj4 _ _ _ _ _ _ _ _ ?side1 ?side2 ?side3 ?side4 A45.out).mono ?_);(case side1=>repeat (first | exact (Kd.R_reads' HO936.out).2.2 | (with_reducible refine Kd.C_alloc ?_ _) | (with_reducible refine Kd.C_drewN ?_ _) | (with_reducible refine Kd.C_drew ?_)));(case side2=>exact (Kd.R_reads' HO936.out).2.1);(case side3=>repeat (first | exact (Kd.R_reads' HO946.out).2.2 | (with_reducible refine Kd.C_alloc ?_ _) | (with_reducible refine Kd.C_drewN ?_ _) | (with_reducible refine Kd.C_drew ?_)));(case side4=>exact (Kd.R_reads' HO946.out).2.1);rintro e w' ⟨rfl,⟨nd,rfl⟩⟩))
        go_ret;exact ⟨rew,blw⟩
       ·replace c44:=Bool.eq_false_iff.mpr c44;subst c44;rw [if_neg (show ¬ (false=true) by decide)] at H;exact absurd (H.trans (congrArg some HRT.out)) (by simp)
      ·rw [if_neg c42] at H;obtain ⟨c42b0,c42b1⟩:=bqf c42;exact absurd (H.trans (congrArg some HRT.out)) (by simp)
     ·rw [if_neg c41] at H;obtain ⟨c41b0,c41b1⟩:=bqf c41;exact absurd (H.trans (congrArg some HRT.out)) (by simp)
    ·replace c40:=Bool.eq_false_iff.mpr c40;subst c40;rw [if_neg (show ¬ (false=true) by decide)] at H;exact absurd (H.trans (congrArg some HRT.out)) (by simp)
   ·rw [if_neg c37] at H;obtain ⟨c37b0,c37b1⟩:=bqf c37;obtain rfl:=Option.some.inj H;obtain ⟨_,_,_,_,_,_⟩:=bz3 BK915.out;go_wp2_with (first | ((with_reducible refine gate_callee (f:=28) rfl ?_);refine gl (some 68) Tryz.func28 #[.string a1,.int .i64 a0_1] ?_;(with_reducible refine (insn_Assemble.calls a1 a0_1 _ _ _ _ _ A36.out gwy).mono ?_);rintro e w90 ⟨v933,v935,rfl,ho0,ho1,hb⟩;refine ⟨_,rfl,?_⟩;have HO934:=Aside0.mk (Kd.R_lower ho0 (below_size blw));have HO936:=Aside0.mk (Kd.R_lower ho1 (below_size blw));replace BK915:=Aside0.mk (blk_below (g:=gb915) bko hb);replace HB:=Aside0.mk (below_step blw hb);clear hb;(try clear ho0);(try clear ho1)))
    go_ret;exact ⟨rew,blw⟩
end Go.Proofs.YtffojmgmpfjlhaaGreatDoor.Q
namespace Go.Proofs.YtffojmgmpfjlhaaGreatDoor.Q
open Go.Proofs.Ix hiding rd
open Go Go.Proofs.YtffojmgmpfjlhaaGreatDoor Go.RowKit Go.Proofs.YtffojmgmpfjlhaaGreatDoorW.PrintWords
theorem syms_self_l (L:List S61) (hL:L.length≤1000):∀ (d i k:Nat),i+d=L.length→d < k→lzsameSyms.l0 k L L (i:Int)=some true
 | d,i,0,h,hk=>absurd hk (Nat.not_lt_zero _)
 | 0,i,k+1,h,hk=>by
  rw [lzsameSyms.l0,if_neg (by omega)]
 | d+1,i,k+1,h,hk=>by
  rw [lzsameSyms.l0,if_pos (by omega),if_pos (by omega),if_pos (by omega),if_neg (by simp),wrap_succ (by omega)]
  exact syms_self_l L hL d (i+1) k (by omega) (by omega)
theorem syms_self (L:List S61) (hL:L.length≤32) (k:Nat) (hk:100≤k):lzsameSyms.f k L L=some true:=by
 unfold lzsameSyms.f
 rw [if_pos rfl]
 exact syms_self_l L (by omega) L.length 0 k (by omega) (by omega)
theorem dis_few {l:List Int} {at_:Int} {L:List S61} (h:(disZ l at_ L).2=0):L.length≤32:=by
 unfold disZ at h
 by_cases c:32 < L.length
 ·rw [if_pos c] at h
  exact absurd h (by decide)
 ·omega
theorem listings_j0 (text:ByteArray) (l:List Int) (at_:Int) (L:List S61) (k:Nat) (hk:100≤k):lzInsnListings.j0 (k+1) text true l at_ L=some true:=by
 rw [lzInsnListings.j0]
 unfold insn_Assemble.f
 rw [Option.bind_some]
 cases h:asmOut text at_ with
 | mk b r =>
  obtain ⟨sy,n,e⟩:=r
  simp only
  by_cases c:e=0
  ·subst c
   obtain ⟨hb,hs,hn,hd⟩:=half_two h
   rw [if_pos rfl,dis_f hb hs,Option.bind_some,Option.bind_some,half_one hb (show disZ b at_ sy=((disZ b at_ sy).1,0) from Prod.ext rfl hd),if_pos trivial,if_pos hd,if_pos rfl,same_self2,Option.bind_some,if_pos rfl,syms_self sy hn k hk]
   rfl
  ·rw [if_neg c]
theorem InsnListings_pure {l:List Int} (hb:Byt l) (at_:Int) {L:List S61} (hL:∀ s∈L,okI s.f1) (text:ByteArray):lzInsnListings.f 3000 l at_ L text=some true:=by
 have hj:=listings_j0 text l at_ L 2999 (by decide)
 unfold lzInsnListings.f
 rw [sane_true 2900,Option.bind_some,dis_f hb hL,Option.bind_some]
 by_cases c:(disZ l at_ L).2=0
 ·rw [if_pos c]
  unfold insn_Assemble.f
  rw [Option.bind_some,half_one hb (show disZ l at_ L=((disZ l at_ L).1,0) from Prod.ext rfl c),if_pos rfl,if_pos rfl,same_self2,Option.bind_some,if_pos rfl,syms_self L (dis_few c) 3000 (by decide),Option.bind_some,if_pos rfl]
  exact hj
 ·rw [if_neg c]
  exact hj
theorem listings_any (A0:Option Addr) (c0:Nat) (l:List Int) (at_:Int) (A2:Option Addr) (c2:Nat) (L:List S61) (text:ByteArray) (w:World) (hr0:Kd.C (Kd.int .u8) w A0 l.length l) (hc0:l.length≤c0) (hr2:Kd.C k61 w A2 L.length L) (hc2:L.length≤c2)
  (hb:∀ n∈l,(Lit.int .u8 n).wf=true) (hs:∀ x∈L,SymOk x) (hgw:GW w) :
  Calls Tryz.prog 15 #[.agg #[.slice A0 l.length c0,.int .i64 at_,.slice A2 L.length c2],.string text] w fun e w'=>e=.returned (.bool true)∧Below w.heap.size w w' :=
 lzInsnListings.calls 3000 A0 c0 l at_ A2 c2 L text true w hr0 hc0 hr2 hc2 (InsnListings_pure hb at_ (fun s h=>(hs s h).1) text) hgw
end Go.Proofs.YtffojmgmpfjlhaaGreatDoor.Q
