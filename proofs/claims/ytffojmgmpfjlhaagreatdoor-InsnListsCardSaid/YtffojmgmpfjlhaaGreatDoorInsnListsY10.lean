/- Parts of the proof of InsnLists. -/
import Derived.Test.YtffojmgmpfjlhaaGreatDoorInsnListsY9
set_option maxHeartbeats 8000000
set_option maxRecDepth 100000
set_option linter.unusedVariables false
set_option linter.unusedSimpArgs false
namespace Go.Proofs.YtffojmgmpfjlhaaGreatDoor.Q
open Go.Proofs.Ix hiding rd
open Go Go.Proofs.YtffojmgmpfjlhaaGreatDoor Go.RowKit Go.Proofs.YtffojmgmpfjlhaaGreatDoorW.PrintWords
theorem isl_f:∀ c:UInt8,rzisLetter.f (c.toNat:Int)=some (isLet c):=u8_all _ (by decide +kernel)
theorem dig_cmp:∀ c:UInt8,isLet c=false→isWd c=(!decide ((c.toNat:Int) < 48) && !decide ((c.toNat:Int) > 57)):=u8_all _ (by decide +kernel)
theorem isn_l0 (s:ByteArray) (hs:s.size≤31):∀ (d i k:Nat),i+d=s.size→d < k→1≤i→rzIsName.l0 k s (i:Int)=some ((s.data.toList.drop i).all isWd)
 | d,i,0,h1,h2,h3=>absurd h2 (Nat.not_lt_zero _)
 | 0,i,k+1,h1,h2,h3=>by
  have hlen:s.data.toList.length=s.size:=sz_list s
  rw [rzIsName.l0,if_neg (by omega),List.drop_of_length_le (by omega)]
  rfl
 | d+1,i,k+1,h1,h2,h3=>by
  have hlt:i < s.size:=by omega
  obtain ⟨e1,e2⟩:=bt_nat s i hlt
  have hl:i < s.data.toList.length:=(List.getElem?_eq_some_iff.1 e1).1
  have e3:s.data.toList[i]=s[i]:=(List.getElem?_eq_some_iff.1 e1).2
  have ih:=isn_l0 s hs d (i+1) k (by omega) (by omega) (by omega)
  rw [rzIsName.l0,if_pos (by omega),if_pos (by omega),e2,isl_f,Option.bind_some,List.drop_eq_getElem_cons hl,List.all_cons,e3,wrap_succ (by omega),ih]
  cases hL:isLet s[i] with
  | true =>
   rw [if_pos rfl]
   unfold isWd
   rw [hL]
   rfl
  | false =>
   rw [if_neg (by decide),if_neg (by omega),dig_cmp _ hL]
   by_cases c1:(s[i].toNat:Int) < 48
   ·rw [if_pos c1,decide_eq_true c1]
    rfl
   ·rw [if_neg c1,decide_eq_false c1]
    by_cases c2:(s[i].toNat:Int) > 57
    ·rw [if_pos c2,decide_eq_true c2]
     rfl
    ·rw [if_neg c2,decide_eq_false c2]
     rfl
theorem isn_f (s:ByteArray) (k:Nat) (hk:40≤k):rzIsName.f k s=some (nameB s):=by
 obtain ⟨k,rfl⟩:∃ m,k=m+1+1:=⟨k - 2,by omega⟩
 have hlen:s.data.toList.length=s.size:=sz_list s
 unfold rzIsName.f nameB isNameM
 by_cases c:(s.size:Int) < 1
 ·rw [if_pos c,rzIsName.j0,if_pos rfl]
  have:s.data.toList=[]:=List.eq_nil_of_length_eq_zero (by omega)
  rw [this]
 ·rw [if_neg c,rzIsName.j0]
  have hlt:0 < s.size:=by omega
  obtain ⟨e1,e2⟩:=bt_nat s 0 hlt
  cases hl:s.data.toList with
  | nil=>rw [hl] at hlen;simp at hlen;omega
  | cons c0 t =>
   have e3:s[0]=c0:=by
    rw [hl] at e1
    exact (Option.some.inj e1).symm
   by_cases c2:(s.size:Int) > 31
   ·rw [decide_eq_true c2,if_pos rfl]
    simp only
    rw [decide_eq_false (show ¬ (c0 :: t).length≤31 by rw [← hl];omega)]
    rfl
   ·have ih:=isn_l0 s (by omega) (s.size - 1) 1 k (by omega) (by omega) (by omega)
    have e4:bt s 0=(c0.toNat:Int):=by rw [← e3];exact e2
    rw [hl] at ih
    have w1:wrap64 (0+1)=((1:Nat):Int):=wrap_succ (i:=0) (by omega)
    have ih:rzIsName.l0 k s (wrap64 (0+1))=some (t.all isWd):=by
     rw [w1]
     exact ih
    rw [decide_eq_false c2,if_neg (by decide),rzIsName.l0,if_pos (by omega),if_pos (by omega),e4,isl_f,Option.bind_some,ih]
    simp only
    rw [decide_eq_true (show (c0 :: t).length≤31 by rw [← hl];omega)]
    cases hL:isLet c0 with
    | true =>
     rw [if_pos rfl,List.all_cons]
     unfold isWd
     rw [hL]
     rfl
    | false =>
     rw [if_neg (by decide),if_pos trivial]
     rfl
theorem starts_l0 (at_ e x:Int) (X:List S23) (O:List Int) (er:Int) (hO:O.length≤2048):∀ (d i k:Nat),i+d=O.length→d < k →
  rzstarts.l0 k at_ e x (i:Int) X O er=some (decide (x∈(O.drop i).map (fun n=>wrap64 (at_+n))∨x=e))
 | d,i,0,h1,h2=>absurd h2 (Nat.not_lt_zero _)
 | 0,i,k+1,h1,h2=>by
  rw [rzstarts.l0,if_neg (by omega),List.drop_of_length_le (by omega)]
  congr 1
  rw [Bool.eq_iff_iff]
  simp
 | d+1,i,k+1,h1,h2=>by
  have hlt:i < O.length:=by omega
  rw [rzstarts.l0,if_pos (by omega),if_pos (by omega),rd_nat,List.drop_eq_getElem_cons hlt,List.map_cons]
  have hoe:O.getD i 0=O[i]:=by rw [List.getD_eq_getElem?_getD,List.getElem?_eq_getElem hlt];rfl
  rw [hoe]
  by_cases c:wrap64 (at_+O[i])=x
  ·rw [if_pos c]
   congr 1
   symm
   rw [decide_eq_true_eq]
   exact .inl (by rw [c];exact List.mem_cons_self)
  ·rw [if_neg c,wrap_succ (by omega),starts_l0 at_ e x X O er hO d (i+1) k (by omega) (by omega)]
   congr 1
   rw [decide_eq_decide,List.mem_cons]
   constructor
   ·rintro (h | h)
    ·exact .inl (.inr h)
    ·exact .inr h
   ·rintro ((h | h) | h)
    ·exact absurd h.symm c
    ·exact .inl h
    ·exact .inr h
theorem starts_f (at_ e x:Int) (X:List S23) (O:List Int) (er:Int) (hO:O.length≤2048) (k:Nat) (hk:2100≤k):rzstarts.f k X O er at_ e x=some (decide (x∈startsL at_ O e)):=by
 unfold rzstarts.f
 have h:=starts_l0 at_ e x X O er hO O.length 0 k (by omega) (by omega)
 rw [show ((0:Nat):Int)=0 from rfl,List.drop_zero] at h
 rw [h]
 congr 1
 rw [decide_eq_decide]
 unfold startsL
 simp
section
variable {L:List S61} {at_ e:Int} {X:List S23} {O:List Int} {er:Int} (hn:L.length≤32) (hO:O.length≤2048)
include hn
theorem symb_l1 {i:Nat} (hi:i < L.length) (V:Bool) (B:Nat) (hV:∀ k,B≤k→rzsymbols.j2 k at_ e L (i:Int) (nextS L e i) X O er=some V):∀ (m j k:Nat),j+m=i→m+B+1≤k →
  rzsymbols.l1 k at_ e L (i:Int) (j:Int) X O er=some (!((List.range' j m).any fun q=>decide ((rd_T61 L (q:Int)).f0=(rd_T61 L (i:Int)).f0)) && V)
 | m,j,0,h1,h2=>by omega
 | 0,j,k+1,h1,h2=>by
  rw [rzsymbols.l1,if_neg (by omega),wrap_succ (by omega)]
  have hv:=hV k (by omega)
  unfold nextS at hv
  by_cases c:i+1 < L.length
  ·rw [if_pos c] at hv
   rw [if_pos (by omega),if_pos (by omega)]
   have:((i+1:Nat):Int)=(i:Int)+1:=by omega
   rw [this,hv]
   rfl
  ·rw [if_neg c] at hv
   rw [if_neg (by omega),hv]
   rfl
 | m+1,j,k+1,h1,h2=>by
  rw [rzsymbols.l1,if_pos (by omega),if_pos (by omega),if_pos (by omega),if_pos (by omega),if_pos (by omega),List.range'_succ,List.any_cons,wrap_succ (by omega),symb_l1 hi V B hV m (j+1) k (by omega) (by omega)]
  have e1:((rd_T61 L (j:Int)).f0.toList=(rd_T61 L (i:Int)).f0.toList)↔(rd_T61 L (j:Int)).f0=(rd_T61 L (i:Int)).f0:=by
   constructor
   ·intro h
    rw [ByteArray.toList_eq,ByteArray.toList_eq] at h
    exact ba_eq h
   ·intro h
    rw [h]
  by_cases c:(rd_T61 L (j:Int)).f0=(rd_T61 L (i:Int)).f0
  ·rw [if_pos (e1.2 c),decide_eq_true c]
   rfl
  ·rw [if_neg fun h=>c (e1.1 h),decide_eq_false c]
   rfl
include hO
theorem symb_j2 {i:Nat} (hi:i < L.length) (k:Nat) (hk:2200≤k) (R:Bool) (hR:rzsymbols.l0 k at_ e L ((i+1:Nat):Int) X O er=some R) :
  rzsymbols.j2 (k+1) at_ e L (i:Int) (nextS L e i) X O er=some (nameB (rd_T61 L i).f0 && decide ((rd_T61 L i).f1∈startsL at_ O e) && !(decide (0 < i) && decide ((rd_T61 L i).f1 < (rd_T61 L ((i:Int) - 1)).f1)) && decide ((rd_T61 L i).f2=wrap64 (nextS L e i - (rd_T61 L i).f1)) && R):=by
 rw [rzsymbols.j2,if_pos (by omega),if_pos (by omega),isn_f _ _ (by omega),Option.bind_some,starts_f _ _ _ _ _ _ hO _ (by omega),Option.bind_some,wrap_succ (by omega),hR]
 have w1:0 < i→wrap64 ((i:Int) - 1)=(i:Int) - 1:=fun h=>by
  simp only [wrap64]
  omega
 cases nameB (rd_T61 L i).f0 with
 | false=>rw [if_neg (by decide)];rfl
 | true =>
  rw [if_pos rfl]
  by_cases c1:(rd_T61 L i).f1∈startsL at_ O e
  ·rw [decide_eq_true c1,if_pos rfl]
   by_cases c2:0 < i
   ·rw [if_pos (by omega),w1 c2,if_pos (by omega),if_pos (by omega),decide_eq_true c2]
    by_cases c3:(rd_T61 L i).f1 < (rd_T61 L ((i:Int) - 1)).f1
    ·rw [if_pos c3,decide_eq_true c3]
     rfl
    ·rw [if_neg c3,decide_eq_false c3]
     by_cases c4:(rd_T61 L i).f2=wrap64 (nextS L e i - (rd_T61 L i).f1)
     ·rw [if_pos c4,decide_eq_true c4]
      rfl
     ·rw [if_neg c4,decide_eq_false c4]
      rfl
   ·rw [if_neg (by omega),decide_eq_false c2]
    by_cases c4:(rd_T61 L i).f2=wrap64 (nextS L e i - (rd_T61 L i).f1)
    ·rw [if_pos c4,decide_eq_true c4]
     rfl
    ·rw [if_neg c4,decide_eq_false c4]
     rfl
  ·rw [decide_eq_false c1,if_neg (by decide)]
   rfl
theorem symb_l0:∀ (d i k:Nat),i+d=L.length→40 * d+2300≤k→rzsymbols.l0 k at_ e L (i:Int) X O er=some ((List.range' i d).all fun q=>fitAt L (startsL at_ O e) e q)
 | d,i,0,h1,h2=>by omega
 | 0,i,k+1,h1,h2=>by
  rw [rzsymbols.l0,if_neg (by omega)]
  rfl
 | d+1,i,k+1,h1,h2=>by
  have hi:i < L.length:=by omega
  rw [rzsymbols.l0,if_pos (by omega)]
  obtain ⟨R,hR⟩:∃ R,(List.range' (i+1) d).all (fun q=>fitAt L (startsL at_ O e) e q)=R:=⟨_,rfl⟩
  have h:=symb_l1 hn hi _ (40 * d+2301) (fun k' hk=>by
   obtain ⟨k',rfl⟩:∃ q,k'=q+1:=⟨k' - 1,by omega⟩
   exact symb_j2 hn hO hi k' (by omega) R (by rw [symb_l0 d (i+1) k' (by omega) (by omega),hR])) i 0 k (by omega) (by omega)
  rw [show ((0:Nat):Int)=0 from rfl] at h
  rw [h,List.range'_succ,List.all_cons,hR]
  congr 1
  unfold fitAt nameIn
  rw [List.range_eq_range']
  have ac:∀ a b c d e f:Bool,(!b && (a && c && !d && e && f))=(a && !b && c && !d && e && f):=by decide
  exact ac _ _ _ _ _ _
theorem symb_f (k:Nat) (hk:4000≤k):rzsymbols.f k X O er at_ e L=some (fitB L at_ O e):=by
 unfold rzsymbols.f fitB
 have h:=symb_l0 (at_:=at_) (e:=e) (X:=X) (er:=er) hn hO L.length 0 k (by omega) (by omega)
 rw [show ((0:Nat):Int)=0 from rfl,← List.range_eq_range'] at h
 exact h
end
theorem dl_step {k m:Nat} (h:∀ u,u < m→(Lib.decDigits u).length≤k) (u:Nat) (hu:u < 10 * m) (hk:1≤k):(Lib.decDigits u).length≤k+1:=by
 rw [Lib.decDigits]
 by_cases c:u < 10
 ·rw [dif_pos c,List.length_singleton]
  omega
 ·rw [dif_neg c,List.length_append,List.length_singleton]
  have:=h (u / 10) (by omega)
  omega
theorem dl1 (u:Nat) (hu:u < 10):(Lib.decDigits u).length≤1:=by
 rw [Lib.decDigits_one hu]
 exact Nat.le_refl 1
theorem dl2 (u:Nat) (hu:u < 10 * 10):(Lib.decDigits u).length≤2:=dl_step dl1 u hu (by decide)
theorem dl3 (u:Nat) (hu:u < 10 * (10 * 10)):(Lib.decDigits u).length≤3:=dl_step dl2 u hu (by decide)
theorem dl4 (u:Nat) (hu:u < 10 * (10 * (10 * 10))):(Lib.decDigits u).length≤4:=dl_step dl3 u hu (by decide)
theorem reg_len (x:Int):(regW x).length=2:=rfl
theorem small_len {v:Int} (h:-64≤v∧v < 64) (b:Int):(numW v).length≤3∧(distW v).length≤4∧(addrW b v).length≤7:=by
 unfold distW addrW
 simp only [List.length_cons,List.length_append,List.length_nil,reg_len]
 by_cases hn:v < 0
 ·have:=dl2 v.natAbs (by omega)
  rw [if_pos hn,if_neg (show ¬ v > 0 by omega),if_pos hn,num_neg hn]
  simp only [List.length_cons]
  omega
 ·have:=dl2 v.toNat (by omega)
  rw [if_neg hn,if_neg hn,num_pos hn]
  by_cases hp:v > 0
  ·rw [if_pos hp]
   simp only [List.length_cons]
   omega
  ·rw [if_neg hp]
   simp only [List.length_cons,List.length_nil]
   omega
theorem mid_len {v:Int} (h:-8192≤v∧v < 8192):(distW v).length≤6:=by
 unfold distW
 by_cases hn:v < 0
 ·have:=dl4 v.natAbs (by omega)
  rw [if_pos hn,num_neg hn]
  simp only [List.length_cons]
  omega
 ·have:=dl4 v.toNat (by omega)
  rw [if_neg hn,num_pos hn]
  simp only [List.length_cons]
  omega
theorem sys_len {v:Int} (h:0≤v∧v≤127):(numW v).length≤3:=by
 rw [num_pos (by omega)]
 exact dl3 v.toNat (by omega)
def wid (f:Int):Rd→Nat
 | .a=>2
 | .b=>2
 | .mem=>4
 | .num=>if f=3 then 21 else 3
 | .addr=>7
 | .target=>if f=5 then 4 else 6
def okw (f:Int):Rd→Bool
 | .num=>f == 3 || f == 4 || f == 8
 | .addr=>f == 5
 | .target=>f == 5 || f == 6 || f == 7
 | _=>true
theorem wid_fin:∀ i:Fin 77,nameM (i.val:Int)≠[]→(readsM (i.val:Int)).all (okw (formM (i.val:Int)))=true∧(nameM (i.val:Int)).length+((readsM (i.val:Int)).map fun k=>wid (formM (i.val:Int)) k+2).sum+1≤7 * lenM (formM (i.val:Int))+(if readsM (i.val:Int)=[] then 0 else 1):=by decide +kernel
theorem wid_k {f a b v:Int} (hF:fitsM f v=true) (hr:Rg v) {k:Rd} (h:okw f k=true):(rdW a b v k).length≤wid f k:=by
 have h2:f=4∨f=5→-64≤v∧v < 64:=by rintro (rfl | rfl) <;> simpa [fitsM,bytesM] using hF
 have h3:f=6∨f=7→-8192≤v∧v < 8192:=by rintro (rfl | rfl) <;> simpa [fitsM,bytesM] using hF
 cases k with
 | a=>exact Nat.le_refl 2
 | b=>exact Nat.le_refl 2
 | mem=>exact Nat.le_refl 4
 | num =>
  show (numW v).length≤if f=3 then 21 else 3
  simp only [okw,Bool.or_eq_true,beq_iff_eq] at h
  by_cases c:f=3
  ·rw [if_pos c]
   exact num_len hr.1 hr.2
  ·rw [if_neg c]
   rcases h with (h | h) | h
   ·exact absurd h c
   ·exact (small_len (h2 (.inl h)) b).1
   ·subst h
    exact sys_len (by simpa [fitsM,bytesM] using hF)
 | addr =>
  simp only [okw,beq_iff_eq] at h
  exact (small_len (h2 (.inr h)) b).2.2
 | target =>
  show (distW v).length≤if f=5 then 4 else 6
  simp only [okw,Bool.or_eq_true,beq_iff_eq] at h
  by_cases c:f=5
  ·rw [if_pos c]
   exact (small_len (h2 (.inr c)) b).2.1
  ·rw [if_neg c]
   exact mid_len (h3 (by omega))
theorem tail_len {f a b v:Int} (hF:fitsM f v=true) (hr:Rg v):∀ ks:List Rd,ks.all (okw f)=true→(tailW a b v ks).length≤(ks.map fun k=>wid f k+2).sum
 | [],_=>Nat.le_refl 0
 | k :: ks,h=>by
  rw [List.all_cons,Bool.and_eq_true] at h
  have h1:=tail_len (a:=a) (b:=b) hF hr ks h.2
  have h2:=wid_k (a:=a) (b:=b) hF hr h.1
  unfold tailW at h1 ⊢
  simp only [List.flatMap_cons,List.length_append,List.length_cons,List.map_cons,List.sum_cons]
  omega
theorem line_len {op a b v:Int} (hc:chkD op a b v=0) (hr:Rg v):(printW op a b v).length+1≤7 * (encI op a b v).length:=by
 obtain ⟨hv,-,-,-,-,-,-,hF⟩:=chk_parts hc
 have ho:=op_valid hv
 obtain ⟨i,rfl⟩:∃ i:Fin 77,op=(i.val:Int):=⟨⟨op.toNat,by omega⟩,by simp;omega⟩
 obtain ⟨w1,w2⟩:=wid_fin i hv
 have ht:=tail_len (a:=a) (b:=b) hF hr _ w1
 rw [encI_eq]
 unfold printW
 rw [List.length_append]
 cases hk:readsM (i.val:Int) with
 | nil =>
  rw [hk] at w2
  simp only [if_pos,List.map_nil,List.sum_nil] at w2
  show _+0+1≤_
  omega
 | cons k ks =>
  rw [hk] at w1 w2
  rw [if_neg (by simp)] at w2
  rw [List.all_cons,Bool.and_eq_true] at w1
  have h1:=tail_len (a:=a) (b:=b) hF hr ks w1.2
  have h2:=wid_k (a:=a) (b:=b) hF hr w1.1
  simp only [opW,List.length_cons,List.length_append]
  simp only [List.map_cons,List.sum_cons] at w2
  omega
theorem ll_len:∀ ls:List Ll,(∀ y∈ls,OkL y)→(ls.flatMap Ll.bytes).length≤7 * lenL ls+38 * (namL ls).length
 | [],_=>by simp [lenL]
 | .fn s :: ls,h=>by
  have ih:=ll_len ls fun y hy=>h y (List.mem_cons_of_mem _ hy)
  have h1:=(name_parts (show nameB s=true from h _ List.mem_cons_self)).2.2
  rw [List.flatMap_cons,List.length_append]
  simp only [Ll.bytes,Ll.text,List.length_append,List.length_cons,List.length_nil,lenL,namL]
  omega
 | .ins x :: ls,h=>by
  have ih:=ll_len ls fun y hy=>h y (List.mem_cons_of_mem _ hy)
  obtain ⟨hc,hr⟩:chkD x.f0 x.f1 x.f2 x.f3=0∧Rg x.f3:=h _ List.mem_cons_self
  have h1:=line_len hc hr
  have e:(Ll.ins x).bytes.length=(printW x.f0 x.f1 x.f2 x.f3).length+1:=by
   simp only [Ll.bytes,Ll.text,List.length_append,List.length_cons,List.length_nil]
   unfold prX
   rw [toS]
  rw [List.flatMap_cons,List.length_append,e]
  simp only [lenL,namL]
  have:(encX x).length=(encI x.f0 x.f1 x.f2 x.f3).length:=rfl
  omega
end Go.Proofs.YtffojmgmpfjlhaaGreatDoor.Q
namespace Go.Proofs.YtffojmgmpfjlhaaGreatDoor.Q
open Go.Proofs.YtffojmgmpfjlhaaGreatDoor Go.RowKit Go.Proofs.YtffojmgmpfjlhaaGreatDoorW.PrintWords Go.Proofs.YtffojmgmpfjlhaaGreatDoorW.PrintLast Go.Proofs.YtffojmgmpfjlhaaGreatDoorW.PrintMore
attribute [local go_sem] max2_int min2_int max_two min_two max_three min_three max_four min_four
def IsS117 (w0 W:World) (g:Nat) (f0:ByteArray) (f1:Int) (f2:Bool) (f3:Bool) (f4:Bool) (f5:ByteArray):Prop:=W.heap[g]?=some (.cells #[.string f0,.int .i64 f1,.bool f2,.bool f3,.bool f4,.string f5] 117 (0,0))∧w0.heap.size≤g
theorem IsS117.grown {w0 W:World} {g:Nat} {f0:ByteArray} {f1:Int} {f2:Bool} {f3:Bool} {f4:Bool} {f5:ByteArray} {W1:World} {row:Option Nat} (h:IsS117 w0 W g f0 f1 f2 f3 f4 f5) (hw:W.grownBy W1 row) (hne:some g≠row):IsS117 w0 W1 g f0 f1 f2 f3 f4 f5:=by
 obtain ⟨hb,hg⟩:=h;exact ⟨blk_grown hb hw hne,hg⟩
theorem IsS117.kept {w0 W:World} {g:Nat} {f0:ByteArray} {f1:Int} {f2:Bool} {f3:Bool} {f4:Bool} {f5:ByteArray} {W1:World} {S:Nat→Prop} (h:IsS117 w0 W g f0 f1 f2 f3 f4 f5) (hk:Kept W W1 S) (hne:¬ S g):IsS117 w0 W1 g f0 f1 f2 f3 f4 f5:=by
 obtain ⟨hb,hg⟩:=h;exact ⟨blk_kept hb hk hne,hg⟩
theorem IsS117.below {w0 W:World} {g:Nat} {f0:ByteArray} {f1:Int} {f2:Bool} {f3:Bool} {f4:Bool} {f5:ByteArray} {W1:World} (h:IsS117 w0 W g f0 f1 f2 f3 f4 f5) (hw:Below W.heap.size W W1):IsS117 w0 W1 g f0 f1 f2 f3 f4 f5:=h.grown (grown_of_below hw none) (by simp)
theorem IsS117.alloc {w0 W:World} {g:Nat} {f0:ByteArray} {f1:Int} {f2:Bool} {f3:Bool} {f4:Bool} {f5:ByteArray} (h:IsS117 w0 W g f0 f1 f2 f3 f4 f5) (o:Obj):IsS117 w0 (W.alloc o) g f0 f1 f2 f3 f4 f5:=h.below (below_alloc (Below.refl _ _) o)
theorem IsS117.drewN {w0 W:World} {g:Nat} {f0:ByteArray} {f1:Int} {f2:Bool} {f3:Bool} {f4:Bool} {f5:ByteArray} (h:IsS117 w0 W g f0 f1 f2 f3 f4 f5) (m:Nat):IsS117 w0 (W.drewN m) g f0 f1 f2 f3 f4 f5:=h
theorem IsS117.drew {w0 W:World} {g:Nat} {f0:ByteArray} {f1:Int} {f2:Bool} {f3:Bool} {f4:Bool} {f5:ByteArray} (h:IsS117 w0 W g f0 f1 f2 f3 f4 f5):IsS117 w0 W.drew g f0 f1 f2 f3 f4 f5:=h
theorem IsS117.at_ {w0 W:World} {g:Nat} {f0:ByteArray} {f1:Int} {f2:Bool} {f3:Bool} {f4:Bool} {f5:ByteArray} {w':World} {m:Nat} (hq:W.drewN m=w') (h:IsS117 w0 W g f0 f1 f2 f3 f4 f5):IsS117 w0 w' g f0 f1 f2 f3 f4 f5:=by subst hq;exact IsS117.drewN h m
theorem IsS117.lt {w0 W:World} {g:Nat} {f0:ByteArray} {f1:Int} {f2:Bool} {f3:Bool} {f4:Bool} {f5:ByteArray} (h:IsS117 w0 W g f0 f1 f2 f3 f4 f5):g < W.heap.size:=by
 obtain ⟨hb,hg⟩:=h;exact blk_lt hb
def rzMnemonic.f (a0:Int):Option (ByteArray):=(some (([(⟨#[]⟩:zB),(⟨#[110,111,112]⟩:zB),(⟨#[109,111,118,101]⟩:zB),(⟨#[115,101,116]⟩:zB),(⟨#[108,105,116]⟩:zB),(⟨#[97,100,100]⟩:zB),(⟨#[115,117,98]⟩:zB),(⟨#[109,117,108]⟩:zB),(⟨#[100,105,118]⟩:zB),(⟨#[109,111,100]⟩:zB),(⟨#[97,110,100]⟩:zB),(⟨#[111,114]⟩:zB),(⟨#[120,111,114]⟩:zB),(⟨#[115,104,108]⟩:zB),(⟨#[115,104,114]⟩:zB),(⟨#[115,97,114]⟩:zB),(⟨#[105,110,99]⟩:zB),(⟨#[108,111,97,100,49]⟩:zB),(⟨#[108,111,97,100,56]⟩:zB),(⟨#[115,116,111,114,101,49]⟩:zB),(⟨#[115,116,111,114,101,56]⟩:zB),(⟨#[98,101,113]⟩:zB),(⟨#[98,110,101]⟩:zB),(⟨#[98,108,116]⟩:zB),(⟨#[98,103,101]⟩:zB),(⟨#[106,117,109,112]⟩:zB),(⟨#[106,117,109,112,114]⟩:zB),(⟨#[99,97,108,108]⟩:zB),(⟨#[99,97,108,108,114]⟩:zB),(⟨#[114,101,116]⟩:zB),(⟨#[112,117,115,104]⟩:zB),(⟨#[112,111,112]⟩:zB),(⟨#[108,101,97]⟩:zB),(⟨#[115,121,115]⟩:zB),(⟨#[115,119,97,112]⟩:zB)]:List ByteArray):List ByteArray)).bind fun y398=>(if a0=76 then (some (⟨#[98,114,101,97,107]⟩:zB)) else (if a0 < 0 then (some (⟨#[]⟩:zB)) else (if a0≥(y398.length:Int) then (some (⟨#[]⟩:zB)) else (if 0≤a0 then (if a0 < (y398.length:Int) then (some (rdOf ByteArray.empty y398 a0)) else (none)) else (none)))))
theorem rzMnemonic.q1 {p:Prop} (h:p:=by
 go_enter Tryz.func63,Tryz.ntmps63
 go_wp2_with (first | ((with_reducible refine gate_dst (N:=4) rfl ?_);(try (refine gate_guard (by rfl) ?_;dsimp only));refine Kd.R_lit Kd.string _ 9 ?hg (N:=4) ?hd (xs:=([(⟨#[]⟩:zB),(⟨#[110,111,112]⟩:zB),(⟨#[109,111,118,101]⟩:zB),(⟨#[115,101,116]⟩:zB),(⟨#[108,105,116]⟩:zB),(⟨#[97,100,100]⟩:zB),(⟨#[115,117,98]⟩:zB),(⟨#[109,117,108]⟩:zB),(⟨#[100,105,118]⟩:zB),(⟨#[109,111,100]⟩:zB),(⟨#[97,110,100]⟩:zB),(⟨#[111,114]⟩:zB),(⟨#[120,111,114]⟩:zB),(⟨#[115,104,108]⟩:zB),(⟨#[115,104,114]⟩:zB),(⟨#[115,97,114]⟩:zB),(⟨#[105,110,99]⟩:zB),(⟨#[108,111,97,100,49]⟩:zB),(⟨#[108,111,97,100,56]⟩:zB),(⟨#[115,116,111,114,101,49]⟩:zB),(⟨#[115,116,111,114,101,56]⟩:zB),(⟨#[98,101,113]⟩:zB),(⟨#[98,110,101]⟩:zB),(⟨#[98,108,116]⟩:zB),(⟨#[98,103,101]⟩:zB),(⟨#[106,117,109,112]⟩:zB),(⟨#[106,117,109,112,114]⟩:zB),(⟨#[99,97,108,108]⟩:zB),(⟨#[99,97,108,108,114]⟩:zB),(⟨#[114,101,116]⟩:zB),(⟨#[112,117,115,104]⟩:zB),(⟨#[112,111,112]⟩:zB),(⟨#[108,101,97]⟩:zB),(⟨#[115,121,115]⟩:zB),(⟨#[115,119,97,112]⟩:zB)]:List ByteArray)) (inner:=[.string (⟨#[]⟩:zB),.string (⟨#[110,111,112]⟩:zB),.string (⟨#[109,111,118,101]⟩:zB),.string (⟨#[115,101,116]⟩:zB),.string (⟨#[108,105,116]⟩:zB),.string (⟨#[97,100,100]⟩:zB),.string (⟨#[115,117,98]⟩:zB),.string (⟨#[109,117,108]⟩:zB),.string (⟨#[100,105,118]⟩:zB),.string (⟨#[109,111,100]⟩:zB),.string (⟨#[97,110,100]⟩:zB),.string (⟨#[111,114]⟩:zB),.string (⟨#[120,111,114]⟩:zB),.string (⟨#[115,104,108]⟩:zB),.string (⟨#[115,104,114]⟩:zB),.string (⟨#[115,97,114]⟩:zB),.string (⟨#[105,110,99]⟩:zB),.string (⟨#[108,111,97,100,49]⟩:zB),.string (⟨#[108,111,97,100,56]⟩:zB),.string (⟨#[115,116,111,114,101,49]⟩:zB),.string (⟨#[115,116,111,114,101,56]⟩:zB),.string (⟨#[98,101,113]⟩:zB),.string (⟨#[98,110,101]⟩:zB),.string (⟨#[98,108,116]⟩:zB),.string (⟨#[98,103,101]⟩:zB),.string (⟨#[106,117,109,112]⟩:zB),.string (⟨#[106,117,109,112,114]⟩:zB),.string (⟨#[99,97,108,108]⟩:zB),.string (⟨#[99,97,108,108,114]⟩:zB),.string (⟨#[114,101,116]⟩:zB),.string (⟨#[112,117,115,104]⟩:zB),.string (⟨#[112,111,112]⟩:zB),.string (⟨#[108,101,97]⟩:zB),.string (⟨#[115,121,115]⟩:zB),.string (⟨#[115,119,97,112]⟩:zB)]) (ok:=fun _=>True) (okp:=fun _=>True) ?hr ?hp (fun _ hk=>hk) trivial (Below.refl _ _) (Nat.le_refl _) (by simp) ?_;(case hd=>rfl);(case hg=>rfl);(case hr=>first | (go_simp;done) | (go_simp;rfl));(case hp=>exact (Reps.one (show Kd.M Kd.string _ _ _ (⟨#[]⟩:zB) [.string (⟨#[]⟩:zB)] from rfl) (Reps.one (show Kd.M Kd.string _ _ _ (⟨#[110,111,112]⟩:zB) [.string (⟨#[110,111,112]⟩:zB)] from rfl) (Reps.one (show Kd.M Kd.string _ _ _ (⟨#[109,111,118,101]⟩:zB) [.string (⟨#[109,111,118,101]⟩:zB)] from rfl) (Reps.one (show Kd.M Kd.string _ _ _ (⟨#[115,101,116]⟩:zB) [.string (⟨#[115,101,116]⟩:zB)] from rfl) (Reps.one (show Kd.M Kd.string _ _ _ (⟨#[108,105,116]⟩:zB) [.string (⟨#[108,105,116]⟩:zB)] from rfl) (Reps.one (show Kd.M Kd.string _ _ _ (⟨#[97,100,100]⟩:zB) [.string (⟨#[97,100,100]⟩:zB)] from rfl) (Reps.one (show Kd.M Kd.string _ _ _ (⟨#[115,117,98]⟩:zB) [.string (⟨#[115,117,98]⟩:zB)] from rfl) (Reps.one (show Kd.M Kd.string _ _ _ (⟨#[109,117,108]⟩:zB) [.string (⟨#[109,117,108]⟩:zB)] from rfl) (Reps.one (show Kd.M Kd.string _ _ _ (⟨#[100,105,118]⟩:zB) [.string (⟨#[100,105,118]⟩:zB)] from rfl) (Reps.one (show Kd.M Kd.string _ _ _ (⟨#[109,111,100]⟩:zB) [.string (⟨#[109,111,100]⟩:zB)] from rfl) (Reps.one (show Kd.M Kd.string _ _ _ (⟨#[97,110,100]⟩:zB) [.string (⟨#[97,110,100]⟩:zB)] from rfl) (Reps.one (show Kd.M Kd.string _ _ _ (⟨#[111,114]⟩:zB) [.string (⟨#[111,114]⟩:zB)] from rfl) (Reps.one (show Kd.M Kd.string _ _ _ (⟨#[120,111,114]⟩:zB) [.string (⟨#[120,111,114]⟩:zB)] from rfl) (Reps.one (show Kd.M Kd.string _ _ _ (⟨#[115,104,108]⟩:zB) [.string (⟨#[115,104,108]⟩:zB)] from rfl) (Reps.one (show Kd.M Kd.string _ _ _ (⟨#[115,104,114]⟩:zB) [.string (⟨#[115,104,114]⟩:zB)] from rfl) (Reps.one (show Kd.M Kd.string _ _ _ (⟨#[115,97,114]⟩:zB) [.string (⟨#[115,97,114]⟩:zB)] from rfl) (Reps.one (show Kd.M Kd.string _ _ _ (⟨#[105,110,99]⟩:zB) [.string (⟨#[105,110,99]⟩:zB)] from rfl) (Reps.one (show Kd.M Kd.string _ _ _ (⟨#[108,111,97,100,49]⟩:zB) [.string (⟨#[108,111,97,100,49]⟩:zB)] from rfl) (Reps.one (show Kd.M Kd.string _ _ _ (⟨#[108,111,97,100,56]⟩:zB) [.string (⟨#[108,111,97,100,56]⟩:zB)] from rfl) (Reps.one (show Kd.M Kd.string _ _ _ (⟨#[115,116,111,114,101,49]⟩:zB) [.string (⟨#[115,116,111,114,101,49]⟩:zB)] from rfl) (Reps.one (show Kd.M Kd.string _ _ _ (⟨#[115,116,111,114,101,56]⟩:zB) [.string (⟨#[115,116,111,114,101,56]⟩:zB)] from rfl) (Reps.one (show Kd.M Kd.string _ _ _ (⟨#[98,101,113]⟩:zB) [.string (⟨#[98,101,113]⟩:zB)] from rfl) (Reps.one (show Kd.M Kd.string _ _ _ (⟨#[98,110,101]⟩:zB) [.string (⟨#[98,110,101]⟩:zB)] from rfl) (Reps.one (show Kd.M Kd.string _ _ _ (⟨#[98,108,116]⟩:zB) [.string (⟨#[98,108,116]⟩:zB)] from rfl) (Reps.one (show Kd.M Kd.string _ _ _ (⟨#[98,103,101]⟩:zB) [.string (⟨#[98,103,101]⟩:zB)] from rfl) (Reps.one (show Kd.M Kd.string _ _ _ (⟨#[106,117,109,112]⟩:zB) [.string (⟨#[106,117,109,112]⟩:zB)] from rfl) (Reps.one (show Kd.M Kd.string _ _ _ (⟨#[106,117,109,112,114]⟩:zB) [.string (⟨#[106,117,109,112,114]⟩:zB)] from rfl) (Reps.one (show Kd.M Kd.string _ _ _ (⟨#[99,97,108,108]⟩:zB) [.string (⟨#[99,97,108,108]⟩:zB)] from rfl) (Reps.one (show Kd.M Kd.string _ _ _ (⟨#[99,97,108,108,114]⟩:zB) [.string (⟨#[99,97,108,108,114]⟩:zB)] from rfl) (Reps.one (show Kd.M Kd.string _ _ _ (⟨#[114,101,116]⟩:zB) [.string (⟨#[114,101,116]⟩:zB)] from rfl) (Reps.one (show Kd.M Kd.string _ _ _ (⟨#[112,117,115,104]⟩:zB) [.string (⟨#[112,117,115,104]⟩:zB)] from rfl) (Reps.one (show Kd.M Kd.string _ _ _ (⟨#[112,111,112]⟩:zB) [.string (⟨#[112,111,112]⟩:zB)] from rfl) (Reps.one (show Kd.M Kd.string _ _ _ (⟨#[108,101,97]⟩:zB) [.string (⟨#[108,101,97]⟩:zB)] from rfl) (Reps.one (show Kd.M Kd.string _ _ _ (⟨#[115,121,115]⟩:zB) [.string (⟨#[115,121,115]⟩:zB)] from rfl) (Reps.one (show Kd.M Kd.string _ _ _ (⟨#[115,119,97,112]⟩:zB) [.string (⟨#[115,119,97,112]⟩:zB)] from rfl) (Reps.none _ _)))))))))))))))))))))))))))))))))))));intro v399 wq0 hoq1 hb hg_ hnew_;clear hg_ hnew_;(first | rw [← Ny398.out] at hoq1 | (simp only [Int.reduceToNat] at hoq1;rw [← Ny398.out] at hoq1));have HO400:=Aside0.mk (Kd.R_lower hoq1 (below_size blw));replace HB:=Aside0.mk (below_step blw hb);clear hb hoq1;obtain ⟨Aoq2,coq3,eoq4⟩:=Kd.R_slice HO400.out;subst eoq4))
 go_ret;exact ⟨rew,blw⟩):p:=h
theorem rzMnemonic.calls (a0:Int) (r:ByteArray) (w:World) (h:rzMnemonic.f a0=some r) :
  Calls Tryz.prog 63 #[.int .i64 a0] w fun e w'=>e=.returned (.string r)∧Below w.heap.size w w':=by
 have HB:=Aside0.mk (Below.refl w.heap.size w);unfold rzMnemonic.f at h;have H:=h;clear h;obtain ⟨y398,hy398⟩:∃ y_:List ByteArray,y_=(([(⟨#[]⟩:zB),(⟨#[110,111,112]⟩:zB),(⟨#[109,111,118,101]⟩:zB),(⟨#[115,101,116]⟩:zB),(⟨#[108,105,116]⟩:zB),(⟨#[97,100,100]⟩:zB),(⟨#[115,117,98]⟩:zB),(⟨#[109,117,108]⟩:zB),(⟨#[100,105,118]⟩:zB),(⟨#[109,111,100]⟩:zB),(⟨#[97,110,100]⟩:zB),(⟨#[111,114]⟩:zB),(⟨#[120,111,114]⟩:zB),(⟨#[115,104,108]⟩:zB),(⟨#[115,104,114]⟩:zB),(⟨#[115,97,114]⟩:zB),(⟨#[105,110,99]⟩:zB),(⟨#[108,111,97,100,49]⟩:zB),(⟨#[108,111,97,100,56]⟩:zB),(⟨#[115,116,111,114,101,49]⟩:zB),(⟨#[115,116,111,114,101,56]⟩:zB),(⟨#[98,101,113]⟩:zB),(⟨#[98,110,101]⟩:zB),(⟨#[98,108,116]⟩:zB),(⟨#[98,103,101]⟩:zB),(⟨#[106,117,109,112]⟩:zB),(⟨#[106,117,109,112,114]⟩:zB),(⟨#[99,97,108,108]⟩:zB),(⟨#[99,97,108,108,114]⟩:zB),(⟨#[114,101,116]⟩:zB),(⟨#[112,117,115,104]⟩:zB),(⟨#[112,111,112]⟩:zB),(⟨#[108,101,97]⟩:zB),(⟨#[115,121,115]⟩:zB),(⟨#[115,119,97,112]⟩:zB)]:List ByteArray)):=⟨_,rfl⟩;replace H:(if a0=76 then (some (⟨#[98,114,101,97,107]⟩:zB)) else (if a0 < 0 then (some (⟨#[]⟩:zB)) else (if a0≥(y398.length:Int) then (some (⟨#[]⟩:zB)) else (if 0≤a0 then (if a0 < (y398.length:Int) then (some (rdOf ByteArray.empty y398 a0)) else (none)) else (none)))))=some r:=by first | (rw [hy398];with_reducible exact H) | (have H2_:=(Option.bind_some _ _).symm.trans H;rw [hy398];with_reducible exact H2_) | (have H2_:=(Option.bind_some _ _).symm.trans H;with_reducible exact H2_) | with_reducible exact H | (rw [hy398];exact H) | exact H
 have Ny398:=Aside0.mk hy398;clear hy398;by_cases c2:a0=76
 ·rw [if_pos c2] at H;obtain ⟨c2b0,c2b1⟩:=bqt c2;clear c2;obtain rfl:=Option.some.inj H;exact rzMnemonic.q1
 ·rw [if_neg c2] at H;obtain ⟨c2b0,c2b1⟩:=bqf c2;by_cases c5:a0 < 0
  ·rw [if_pos c5] at H;have c5b0:=decide_eq_true c5;clear c5;obtain rfl:=Option.some.inj H;exact rzMnemonic.q1
  ·rw [if_neg c5] at H;have c5b0:=decide_eq_false c5;clear c5;by_cases c8:a0≥(y398.length:Int)
   ·rw [if_pos c8] at H;have c8b0:decide ((y398.length:Int)≤a0)=true:=decide_eq_true c8;clear c8;obtain rfl:=Option.some.inj H;exact rzMnemonic.q1
   ·rw [if_neg c8] at H;have c8b0:decide ((y398.length:Int)≤a0)=false:=decide_eq_false c8;clear c8;by_cases c12:0≤a0
    ·rw [if_pos c12] at H;have c12b0:=decide_eq_true c12;clear c12;by_cases c13:a0 < (y398.length:Int)
     ·rw [if_pos c13] at H;have c13b0:=decide_eq_true c13;clear c13;obtain rfl:=Option.some.inj H;go_enter Tryz.func63,Tryz.ntmps63
      go_wp2_with (first | ((with_reducible refine gate_dst (N:=4) rfl ?_);(try (refine gate_guard (by rfl) ?_;dsimp only));refine Kd.R_lit Kd.string _ 9 ?hg (N:=4) ?hd (xs:=([(⟨#[]⟩:zB),(⟨#[110,111,112]⟩:zB),(⟨#[109,111,118,101]⟩:zB),(⟨#[115,101,116]⟩:zB),(⟨#[108,105,116]⟩:zB),(⟨#[97,100,100]⟩:zB),(⟨#[115,117,98]⟩:zB),(⟨#[109,117,108]⟩:zB),(⟨#[100,105,118]⟩:zB),(⟨#[109,111,100]⟩:zB),(⟨#[97,110,100]⟩:zB),(⟨#[111,114]⟩:zB),(⟨#[120,111,114]⟩:zB),(⟨#[115,104,108]⟩:zB),(⟨#[115,104,114]⟩:zB),(⟨#[115,97,114]⟩:zB),(⟨#[105,110,99]⟩:zB),(⟨#[108,111,97,100,49]⟩:zB),(⟨#[108,111,97,100,56]⟩:zB),(⟨#[115,116,111,114,101,49]⟩:zB),(⟨#[115,116,111,114,101,56]⟩:zB),(⟨#[98,101,113]⟩:zB),(⟨#[98,110,101]⟩:zB),(⟨#[98,108,116]⟩:zB),(⟨#[98,103,101]⟩:zB),(⟨#[106,117,109,112]⟩:zB),(⟨#[106,117,109,112,114]⟩:zB),(⟨#[99,97,108,108]⟩:zB),(⟨#[99,97,108,108,114]⟩:zB),(⟨#[114,101,116]⟩:zB),(⟨#[112,117,115,104]⟩:zB),(⟨#[112,111,112]⟩:zB),(⟨#[108,101,97]⟩:zB),(⟨#[115,121,115]⟩:zB),(⟨#[115,119,97,112]⟩:zB)]:List ByteArray)) (inner:=[.string (⟨#[]⟩:zB),.string (⟨#[110,111,112]⟩:zB),.string (⟨#[109,111,118,101]⟩:zB),.string (⟨#[115,101,116]⟩:zB),.string (⟨#[108,105,116]⟩:zB),.string (⟨#[97,100,100]⟩:zB),.string (⟨#[115,117,98]⟩:zB),.string (⟨#[109,117,108]⟩:zB),.string (⟨#[100,105,118]⟩:zB),.string (⟨#[109,111,100]⟩:zB),.string (⟨#[97,110,100]⟩:zB),.string (⟨#[111,114]⟩:zB),.string (⟨#[120,111,114]⟩:zB),.string (⟨#[115,104,108]⟩:zB),.string (⟨#[115,104,114]⟩:zB),.string (⟨#[115,97,114]⟩:zB),.string (⟨#[105,110,99]⟩:zB),.string (⟨#[108,111,97,100,49]⟩:zB),.string (⟨#[108,111,97,100,56]⟩:zB),.string (⟨#[115,116,111,114,101,49]⟩:zB),.string (⟨#[115,116,111,114,101,56]⟩:zB),.string (⟨#[98,101,113]⟩:zB),.string (⟨#[98,110,101]⟩:zB),.string (⟨#[98,108,116]⟩:zB),.string (⟨#[98,103,101]⟩:zB),.string (⟨#[106,117,109,112]⟩:zB),.string (⟨#[106,117,109,112,114]⟩:zB),.string (⟨#[99,97,108,108]⟩:zB),.string (⟨#[99,97,108,108,114]⟩:zB),.string (⟨#[114,101,116]⟩:zB),.string (⟨#[112,117,115,104]⟩:zB),.string (⟨#[112,111,112]⟩:zB),.string (⟨#[108,101,97]⟩:zB),.string (⟨#[115,121,115]⟩:zB),.string (⟨#[115,119,97,112]⟩:zB)]) (ok:=fun _=>True) (okp:=fun _=>True) ?hr ?hp (fun _ hk=>hk) trivial (Below.refl _ _) (Nat.le_refl _) (by simp) ?_;(case hd=>rfl);(case hg=>rfl);(case hr=>first | (go_simp;done) | (go_simp;rfl));(case hp=>exact (Reps.one (show Kd.M Kd.string _ _ _ (⟨#[]⟩:zB) [.string (⟨#[]⟩:zB)] from rfl) (Reps.one (show Kd.M Kd.string _ _ _ (⟨#[110,111,112]⟩:zB) [.string (⟨#[110,111,112]⟩:zB)] from rfl) (Reps.one (show Kd.M Kd.string _ _ _ (⟨#[109,111,118,101]⟩:zB) [.string (⟨#[109,111,118,101]⟩:zB)] from rfl) (Reps.one (show Kd.M Kd.string _ _ _ (⟨#[115,101,116]⟩:zB) [.string (⟨#[115,101,116]⟩:zB)] from rfl) (Reps.one (show Kd.M Kd.string _ _ _ (⟨#[108,105,116]⟩:zB) [.string (⟨#[108,105,116]⟩:zB)] from rfl) (Reps.one (show Kd.M Kd.string _ _ _ (⟨#[97,100,100]⟩:zB) [.string (⟨#[97,100,100]⟩:zB)] from rfl) (Reps.one (show Kd.M Kd.string _ _ _ (⟨#[115,117,98]⟩:zB) [.string (⟨#[115,117,98]⟩:zB)] from rfl) (Reps.one (show Kd.M Kd.string _ _ _ (⟨#[109,117,108]⟩:zB) [.string (⟨#[109,117,108]⟩:zB)] from rfl) (Reps.one (show Kd.M Kd.string _ _ _ (⟨#[100,105,118]⟩:zB) [.string (⟨#[100,105,118]⟩:zB)] from rfl) (Reps.one (show Kd.M Kd.string _ _ _ (⟨#[109,111,100]⟩:zB) [.string (⟨#[109,111,100]⟩:zB)] from rfl) (Reps.one (show Kd.M Kd.string _ _ _ (⟨#[97,110,100]⟩:zB) [.string (⟨#[97,110,100]⟩:zB)] from rfl) (Reps.one (show Kd.M Kd.string _ _ _ (⟨#[111,114]⟩:zB) [.string (⟨#[111,114]⟩:zB)] from rfl) (Reps.one (show Kd.M Kd.string _ _ _ (⟨#[120,111,114]⟩:zB) [.string (⟨#[120,111,114]⟩:zB)] from rfl) (Reps.one (show Kd.M Kd.string _ _ _ (⟨#[115,104,108]⟩:zB) [.string (⟨#[115,104,108]⟩:zB)] from rfl) (Reps.one (show Kd.M Kd.string _ _ _ (⟨#[115,104,114]⟩:zB) [.string (⟨#[115,104,114]⟩:zB)] from rfl) (Reps.one (show Kd.M Kd.string _ _ _ (⟨#[115,97,114]⟩:zB) [.string (⟨#[115,97,114]⟩:zB)] from rfl) (Reps.one (show Kd.M Kd.string _ _ _ (⟨#[105,110,99]⟩:zB) [.string (⟨#[105,110,99]⟩:zB)] from rfl) (Reps.one (show Kd.M Kd.string _ _ _ (⟨#[108,111,97,100,49]⟩:zB) [.string (⟨#[108,111,97,100,49]⟩:zB)] from rfl) (Reps.one (show Kd.M Kd.string _ _ _ (⟨#[108,111,97,100,56]⟩:zB) [.string (⟨#[108,111,97,100,56]⟩:zB)] from rfl) (Reps.one (show Kd.M Kd.string _ _ _ (⟨#[115,116,111,114,101,49]⟩:zB) [.string (⟨#[115,116,111,114,101,49]⟩:zB)] from rfl) (Reps.one (show Kd.M Kd.string _ _ _ (⟨#[115,116,111,114,101,56]⟩:zB) [.string (⟨#[115,116,111,114,101,56]⟩:zB)] from rfl) (Reps.one (show Kd.M Kd.string _ _ _ (⟨#[98,101,113]⟩:zB) [.string (⟨#[98,101,113]⟩:zB)] from rfl) (Reps.one (show Kd.M Kd.string _ _ _ (⟨#[98,110,101]⟩:zB) [.string (⟨#[98,110,101]⟩:zB)] from rfl) (Reps.one (show Kd.M Kd.string _ _ _ (⟨#[98,108,116]⟩:zB) [.string (⟨#[98,108,116]⟩:zB)] from rfl) (Reps.one (show Kd.M Kd.string _ _ _ (⟨#[98,103,101]⟩:zB) [.string (⟨#[98,103,101]⟩:zB)] from rfl) (Reps.one (show Kd.M Kd.string _ _ _ (⟨#[106,117,109,112]⟩:zB) [.string (⟨#[106,117,109,112]⟩:zB)] from rfl) (Reps.one (show Kd.M Kd.string _ _ _ (⟨#[106,117,109,112,114]⟩:zB) [.string (⟨#[106,117,109,112,114]⟩:zB)] from rfl) (Reps.one (show Kd.M Kd.string _ _ _ (⟨#[99,97,108,108]⟩:zB) [.string (⟨#[99,97,108,108]⟩:zB)] from rfl) (Reps.one (show Kd.M Kd.string _ _ _ (⟨#[99,97,108,108,114]⟩:zB) [.string (⟨#[99,97,108,108,114]⟩:zB)] from rfl) (Reps.one (show Kd.M Kd.string _ _ _ (⟨#[114,101,116]⟩:zB) [.string (⟨#[114,101,116]⟩:zB)] from rfl) (Reps.one (show Kd.M Kd.string _ _ _ (⟨#[112,117,115,104]⟩:zB) [.string (⟨#[112,117,115,104]⟩:zB)] from rfl) (Reps.one (show Kd.M Kd.string _ _ _ (⟨#[112,111,112]⟩:zB) [.string (⟨#[112,111,112]⟩:zB)] from rfl) (Reps.one (show Kd.M Kd.string _ _ _ (⟨#[108,101,97]⟩:zB) [.string (⟨#[108,101,97]⟩:zB)] from rfl) (Reps.one (show Kd.M Kd.string _ _ _ (⟨#[115,121,115]⟩:zB) [.string (⟨#[115,121,115]⟩:zB)] from rfl) (Reps.one (show Kd.M Kd.string _ _ _ (⟨#[115,119,97,112]⟩:zB) [.string (⟨#[115,119,97,112]⟩:zB)] from rfl) (Reps.none _ _)))))))))))))))))))))))))))))))))))));intro v399 w14 ho15 hb hg_ hnew_;clear hg_ hnew_;(first | rw [← Ny398.out] at ho15 | (simp only [Int.reduceToNat] at ho15;rw [← Ny398.out] at ho15));have HO400:=Aside0.mk (Kd.R_lower ho15 (below_size blw));replace HB:=Aside0.mk (below_step blw hb);clear hb ho15;obtain ⟨Ao16,co16,eo16⟩:=Kd.R_slice HO400.out;subst eo16;have p401:0≤(a0:Int):=of_decide_eq_true asm;have q401:a0 < (y398.length:Int):=of_decide_eq_true asm;obtain ⟨ad401,e401,hx401_0⟩:=Kd.at_string (Kd.R_reads' HO400.out).2.2 a0 p401 q401;cases e401;replace p401:=eq_true p401;replace q401:=eq_true q401))
      go_ret;exact ⟨rew,blw⟩
     ·rw [if_neg c13] at H;exact absurd H (by simp)
    ·rw [if_neg c12] at H;exact absurd H (by simp)
end Go.Proofs.YtffojmgmpfjlhaaGreatDoor.Q
namespace Go.Proofs.YtffojmgmpfjlhaaGreatDoor.Q
open Go.Proofs.Ix hiding rd
open Go Go.Proofs.YtffojmgmpfjlhaaGreatDoor Go.RowKit Go.Proofs.YtffojmgmpfjlhaaGreatDoorW.PrintWords
def okS (m:Bool) (n:Nat):Bool:=match m with | true=>decide (n≤9223372036854775808) | false=>decide (n < 9223372036854775808)
theorem mn_fin:∀ i:Fin 77,rzMnemonic.f (i.val:Int)=some (bS (nameM (i.val:Int))):=by decide +kernel
theorem mn_f {j:Nat} (h:j≤76):rzMnemonic.f (j:Int)=some (bS (nameM (j:Int))):=mn_fin ⟨j,by omega⟩
def rdN:Rd→Nat | .a=>0 | .b=>1 | .num=>2 | .mem=>3 | .addr=>4 | .target=>5
theorem rdN_inj {x y:Rd} (h:rdN x=rdN y):x=y:=by cases x <;> cases y <;> first | rfl | cases h
def clT:List (Int × Bool × List Nat):=[(1,false,[]),(2,false,[0,1]),(3,false,[0,2]),(4,false,[0,2]),(5,false,[0,4]),(5,true,[4,0]),(6,false,[0,1,5]),(7,false,[5]),(8,false,[0]),(9,false,[0,5]),(10,false,[2]),(11,false,[0,3])]
def stB (op:Int):Bool:=decide (op=19) || (op == 20)
def clB (n:Nat):Bool:=match rzForm.f 12 (n:Int) with | none=>false | some r=>fitsM (formM (n:Int)) 0 && decide ((formM (n:Int),r)∈FP) && decide ((r,stB (n:Int),(readsM (n:Int)).map rdN)∈clT)
theorem cl_fin:∀ i:Fin 77,nameM (i.val:Int)≠[]→clB i.val=true:=by decide +kernel
theorem map_rdN:∀ {l m:List Rd} (h:l.map rdN=m.map rdN),l=m
 | [],[],_=>rfl
 | [],_ :: _,h=>by simp at h
 | _ :: _,[],h=>by simp at h
 | x :: l,y :: m,h=>by
  simp only [List.map_cons,List.cons.injEq] at h
  rw [rdN_inj h.1,map_rdN h.2]
end Go.Proofs.YtffojmgmpfjlhaaGreatDoor.Q
