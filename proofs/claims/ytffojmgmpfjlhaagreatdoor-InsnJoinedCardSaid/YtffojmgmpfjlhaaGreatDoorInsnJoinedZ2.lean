/- Parts of the proof: InsnJoined: the code of two texts without labels, one behind the other, is that of both: the law returns true for every input; the inputs read as they did; the package-level variables hold what the program's text lays in them: the tied card. -/
import Derived.Test.YtffojmgmpfjlhaaGreatDoorInsP17
import Derived.Test.YtffojmgmpfjlhaaGreatDoorInsnJoinedZ1
import Derived.Lib.SplitLaws
set_option linter.unusedVariables false
set_option linter.unusedSimpArgs false
namespace Go.Proofs.YtffojmgmpfjlhaaGreatDoor.Q
open Go.Proofs.YtffojmgmpfjlhaaGreatDoor Go.RowKit Go.Proofs.YtffojmgmpfjlhaaGreatDoorW.PrintWords Go.Proofs.YtffojmgmpfjlhaaGreatDoorW.PrintLast Go.Proofs.YtffojmgmpfjlhaaGreatDoorW.PrintMore
attribute [local go_sem] max2_int min2_int max_two min_two max_three min_three max_four min_four
def lzplain.l0:Nat→ByteArray→Int→Option (Bool)
 | 0,_,_=>none
 | k+1,x0,x3=>if x3 < (x0.size:Int) then (if 0≤x3 then (if (bt x0 x3)=58 then (some false) else (if (bt x0 x3)=46 then (if (wrap64 (x3+1)) < (x0.size:Int) then (if 0≤(wrap64 (x3+1)) then (if (bt x0 (wrap64 (x3+1)))=43 then (lzplain.l0 k x0 (wrap64 (x3+1))) else (if (bt x0 (wrap64 (x3+1)))=45 then (lzplain.l0 k x0 (wrap64 (x3+1))) else (some false))) else (none)) else (lzplain.l0 k x0 (wrap64 (x3+1)))) else (lzplain.l0 k x0 (wrap64 (x3+1))))) else (none)) else (some true)
def lzplain.f (k:Nat) (a0:ByteArray):Option (Bool):=lzplain.l0 k a0 0
theorem lzplain.mono_l:∀ k,(∀ y0 y1,LeO (lzplain.l0 k y0 y1) (lzplain.l0 (k+1) y0 y1))
 | 0=>fun _ _ r h=>by simp [lzplain.l0] at h
 | k+1=>by
  have ih0:=lzplain.mono_l k
  ·intro y0 y1;unfold lzplain.l0;repeat' first
   | (with_reducible exact ih0 _ _)
   | (with_reducible exact LeO.refl _)
   | (with_reducible exact LeO.none _)
   | (with_reducible refine LeO.ite ?_ ?_)
   | (with_reducible refine LeO.bind ?_ (fun _=>?_))
   | exact LeO.none _
   | refine LeO.ite ?_ ?_
   | refine LeO.bind ?_ (fun _=>?_)
theorem lzplain.mono:∀ a0 k,LeO (lzplain.f k a0) (lzplain.f (k+1) a0):=by
 intro a0 k;have ih0:=lzplain.mono_l k;unfold lzplain.f;repeat' first
   | (with_reducible exact ih0 _ _)
   | (with_reducible exact LeO.refl _)
   | (with_reducible exact LeO.none _)
   | (with_reducible refine LeO.ite ?_ ?_)
   | (with_reducible refine LeO.bind ?_ (fun _=>?_))
   | exact LeO.none _
   | refine LeO.ite ?_ ?_
   | refine LeO.bind ?_ (fun _=>?_)
set_option maxHeartbeats 8000000 in
set_option maxRecDepth 100000 in
theorem lzplain.calls (k:Nat) (a0:ByteArray) (r:Bool) (w:World) (h:lzplain.f k a0=some r) :
  Calls Tryz.prog 32 #[.string a0] w fun e w'=>e=.returned (.bool r)∧Drawn0 w w':=by
 have H:(lzplain.l0 k a0 0)=some r:=h;clear h;have H':=Aside0.mk H;clear H;go_enter Tryz.func32,Tryz.ntmps32
 go_wp2;try simp only [Act.put,List.setIfInBounds_toArray,List.set_cons_zero,List.set_cons_succ]
 go_loopg [3] k (fun kq v3 w'=>∃ (x3_1:Int),v3=.int .i64 x3_1∧Aside0 (lzplain.l0 kq a0 x3_1=some r)∧Aside0 (kq≤k)∧Drawn0 w w')
 case atStart=>exact ⟨(0),rsd,H',⟨Nat.le_refl _⟩,by repeat (first | exact Drawn0.refl _ | apply Drawn0.step)⟩
 case round =>
  clear H';obtain ⟨x3_1,rfl,HA,HK1,⟨m1,rfl⟩⟩:=hrel;cases gk with
  | zero=>exact absurd HA.out (by simp [lzplain.l0])
  | succ k1 =>
   have H:=HA.out;clear HA;simp only [lzplain.l0] at H;by_cases c2:x3_1 < (a0.size:Int)
   ·rw [if_pos c2] at H;have c2b0:=decide_eq_true c2;clear c2;by_cases c3:0≤x3_1
    ·rw [if_pos c3] at H;have c3b0:=decide_eq_true c3;clear c3;by_cases c5:(bt a0 x3_1)=58
     ·rw [if_pos c5] at H;obtain ⟨c5b0,c5b1⟩:=bqt c5;clear c5;obtain rfl:=Option.some.inj H;have p4:0≤(x3_1:Int):=of_decide_eq_true asm;have q4:x3_1 < (a0.size:Int):=of_decide_eq_true asm;have hx4:=bt_at a0 x3_1;replace p4:=eq_true p4;replace q4:=eq_true q4;go_wp2;go_ret;exact ⟨by first | rfl | (simp;done) | (simp [*];done),by repeat (first | exact Drawn0.refl _ | apply Drawn0.step)⟩
     ·rw [if_neg c5] at H;obtain ⟨c5b0,c5b1⟩:=bqf c5;by_cases c7:(bt a0 x3_1)=46
      ·rw [if_pos c7] at H;obtain ⟨c7b0,c7b1⟩:=bqt c7;clear c7;by_cases c8:(wrap64 (x3_1+1)) < (a0.size:Int)
       ·rw [if_pos c8] at H;have c8b0:=decide_eq_true c8;clear c8;obtain ⟨ji9,hji9⟩:∃ j_:Int,(wrap64 (x3_1+1))=j_:=⟨_,rfl⟩;replace H:(if 0≤(ji9) then (if (bt a0 (ji9))=43 then (lzplain.l0 k1 a0 ji9) else (if (bt a0 (ji9))=45 then (lzplain.l0 k1 a0 ji9) else (some false))) else (none))=some r:=by first | (rw [hji9] at H;exact H) | (simp only [hji9] at H ⊢;exact H)
        (try rw [hji9] at c8b0);have hji9w:(IntKind.i64.wrap (x3_1+1))=ji9:=(i64_w _).trans hji9;by_cases c10:0≤(ji9)
        ·rw [if_pos c10] at H;have c10b0:=decide_eq_true c10;clear c10;by_cases c12:(bt a0 (ji9))=43
         ·rw [if_pos c12] at H;obtain ⟨c12b0,c12b1⟩:=bqt c12;clear c12;have H':=Aside0.mk H;clear H;have p4:0≤(x3_1:Int):=of_decide_eq_true asm;have q4:x3_1 < (a0.size:Int):=of_decide_eq_true asm;have hx4:=bt_at a0 x3_1;replace p4:=eq_true p4;replace q4:=eq_true q4;have p6:0≤(x3_1:Int):=of_decide_eq_true asm;have q6:x3_1 < (a0.size:Int):=of_decide_eq_true asm;have hx6:=bt_at a0 x3_1;replace p6:=eq_true p6;replace q6:=eq_true q6;have p11:0≤((ji9):Int):=of_decide_eq_true asm;have q11:(ji9) < (a0.size:Int):=of_decide_eq_true asm;have hx11:=bt_at a0 (ji9);replace p11:=eq_true p11;replace q11:=eq_true q11;go_wp2;go_roundg k1
          case measure=>have:=HK1.out;omega
          case rel=>exact ⟨(ji9),(by first | rfl | (simp;done) | (simp only [← hji9] <;> (first | rfl | simp)) | (simp [*];done)),H',⟨by have:=HK1.out;omega⟩,by repeat (first | exact Drawn0.refl _ | apply Drawn0.step)⟩
         ·rw [if_neg c12] at H;obtain ⟨c12b0,c12b1⟩:=bqf c12;by_cases c14:(bt a0 (ji9))=45
          ·rw [if_pos c14] at H;obtain ⟨c14b0,c14b1⟩:=bqt c14;clear c14;have H':=Aside0.mk H;clear H;have p4:0≤(x3_1:Int):=of_decide_eq_true asm;have q4:x3_1 < (a0.size:Int):=of_decide_eq_true asm;have hx4:=bt_at a0 x3_1;replace p4:=eq_true p4;replace q4:=eq_true q4;have p6:0≤(x3_1:Int):=of_decide_eq_true asm;have q6:x3_1 < (a0.size:Int):=of_decide_eq_true asm;have hx6:=bt_at a0 x3_1;replace p6:=eq_true p6;replace q6:=eq_true q6;have p11:0≤((ji9):Int):=of_decide_eq_true asm;have q11:(ji9) < (a0.size:Int):=of_decide_eq_true asm;have hx11:=bt_at a0 (ji9);replace p11:=eq_true p11;replace q11:=eq_true q11;have p13:0≤((ji9):Int):=of_decide_eq_true asm;have q13:(ji9) < (a0.size:Int):=of_decide_eq_true asm;have hx13:=bt_at a0 (ji9);replace p13:=eq_true p13;replace q13:=eq_true q13;go_wp2;go_roundg k1
           case measure=>have:=HK1.out;omega
           case rel=>exact ⟨(ji9),(by first | rfl | (simp;done) | (simp only [← hji9] <;> (first | rfl | simp)) | (simp [*];done)),H',⟨by have:=HK1.out;omega⟩,by repeat (first | exact Drawn0.refl _ | apply Drawn0.step)⟩
          ·rw [if_neg c14] at H;obtain ⟨c14b0,c14b1⟩:=bqf c14;obtain rfl:=Option.some.inj H;have p4:0≤(x3_1:Int):=of_decide_eq_true asm;have q4:x3_1 < (a0.size:Int):=of_decide_eq_true asm;have hx4:=bt_at a0 x3_1;replace p4:=eq_true p4;replace q4:=eq_true q4;have p6:0≤(x3_1:Int):=of_decide_eq_true asm;have q6:x3_1 < (a0.size:Int):=of_decide_eq_true asm;have hx6:=bt_at a0 x3_1;replace p6:=eq_true p6;replace q6:=eq_true q6;have p11:0≤((ji9):Int):=of_decide_eq_true asm;have q11:(ji9) < (a0.size:Int):=of_decide_eq_true asm;have hx11:=bt_at a0 (ji9);replace p11:=eq_true p11;replace q11:=eq_true q11;have p13:0≤((ji9):Int):=of_decide_eq_true asm;have q13:(ji9) < (a0.size:Int):=of_decide_eq_true asm;have hx13:=bt_at a0 (ji9);replace p13:=eq_true p13;replace q13:=eq_true q13;go_wp2;go_ret;exact ⟨by first | rfl | (simp;done) | (simp only [← hji9] <;> (first | rfl | simp)) | (simp [*];done),by repeat (first | exact Drawn0.refl _ | apply Drawn0.step)⟩
        ·rw [if_neg c10] at H;exact absurd H (by simp)
       ·rw [if_neg c8] at H;have c8b0:=decide_eq_false c8;clear c8;have H':=Aside0.mk H;clear H;have p4:0≤(x3_1:Int):=of_decide_eq_true asm;have q4:x3_1 < (a0.size:Int):=of_decide_eq_true asm;have hx4:=bt_at a0 x3_1;replace p4:=eq_true p4;replace q4:=eq_true q4;have p6:0≤(x3_1:Int):=of_decide_eq_true asm;have q6:x3_1 < (a0.size:Int):=of_decide_eq_true asm;have hx6:=bt_at a0 x3_1;replace p6:=eq_true p6;replace q6:=eq_true q6;go_wp2;go_roundg k1
        case measure=>have:=HK1.out;omega
        case rel=>exact ⟨(wrap64 (x3_1+1)),rsd,H',⟨by have:=HK1.out;omega⟩,by repeat (first | exact Drawn0.refl _ | apply Drawn0.step)⟩
      ·rw [if_neg c7] at H;obtain ⟨c7b0,c7b1⟩:=bqf c7;have H':=Aside0.mk H;clear H;have p4:0≤(x3_1:Int):=of_decide_eq_true asm;have q4:x3_1 < (a0.size:Int):=of_decide_eq_true asm;have hx4:=bt_at a0 x3_1;replace p4:=eq_true p4;replace q4:=eq_true q4;have p6:0≤(x3_1:Int):=of_decide_eq_true asm;have q6:x3_1 < (a0.size:Int):=of_decide_eq_true asm;have hx6:=bt_at a0 x3_1;replace p6:=eq_true p6;replace q6:=eq_true q6;go_wp2;go_roundg k1
       case measure=>have:=HK1.out;omega
       case rel=>exact ⟨(wrap64 (x3_1+1)),rsd,H',⟨by have:=HK1.out;omega⟩,by repeat (first | exact Drawn0.refl _ | apply Drawn0.step)⟩
    ·rw [if_neg c3] at H;exact absurd H (by simp)
   ·rw [if_neg c2] at H;have c2b0:=decide_eq_false c2;clear c2;obtain rfl:=Option.some.inj H;go_wp2;go_ret;exact ⟨by first | rfl | (simp;done) | (simp [*];done),by repeat (first | exact Drawn0.refl _ | apply Drawn0.step)⟩
end Go.Proofs.YtffojmgmpfjlhaaGreatDoor.Q
namespace Go.Proofs.YtffojmgmpfjlhaaGreatDoor.Q
open Go.Proofs.Ix hiding rd
open Go Go.Proofs.YtffojmgmpfjlhaaGreatDoor Go.RowKit Go.Proofs.YtffojmgmpfjlhaaGreatDoorW.PrintWords
def spl:List UInt8→List (List UInt8)
 | []=>[[]]
 | c :: l=>if c=10 then [] :: spl l else (match spl l with | h :: t=>(c :: h) :: t | []=>[[c]])
theorem spl_ne (l:List UInt8):spl l≠[]:=by
 cases l with
 | nil=>simp [spl]
 | cons c l =>
  unfold spl
  split
  ·simp
  ·split <;> simp
theorem spl_append (b:List UInt8):∀ a,spl (a ++ 10 :: b)=spl a ++ spl b
 | []=>by simp [spl]
 | c :: a=>by
  have ih:=spl_append b a
  rw [List.cons_append]
  by_cases hc:c=10
  ·simp only [spl,if_pos hc,ih];rfl
  ·simp only [spl,if_neg hc,ih]
   cases h:spl a with
   | nil=>exact absurd h (spl_ne a)
   | cons x y=>rfl
theorem spl_miss:∀ l:List UInt8,(∀ k:Nat,l[k]?≠some 10)→spl l=[l]
 | [],_=>rfl
 | c :: l,h=>by
  have h0:c≠10:=fun e=>h 0 (by simp [e])
  simp only [spl,if_neg h0,spl_miss l (fun k=>by have:=h (k+1);simpa using this)]
theorem spl_hit:∀ (l:List UInt8) (i:Nat),l[i]?=some 10→(∀ k:Nat,k < i→l[k]?≠some 10)→spl l=l.take i :: spl (l.drop (i+1))
 | [],i,h,_=>by simp at h
 | c :: l,0,h,_=>by
  have:c=10:=by simpa using h
  simp only [spl,if_pos this]
  rfl
 | c :: l,i+1,h,hn=>by
  have h0:c≠10:=fun e=>hn 0 (by omega) (by simp [e])
  simp only [spl,if_neg h0,spl_hit l i (by simpa using h) (fun k hk=>by have:=hn (k+1) (by omega);simpa using this)]
  rfl
theorem nl_one (s:ByteArray):Lib.indexB s nlB=Lib.indexByte s.data.toList 10:=by
 rw [Lib.one s nlB rfl]
 rfl
theorem ext_toList (s:ByteArray) (a b:Nat):(s.extract a b).data.toList=(s.data.toList.drop a).take (b - a):=by
 simp [ByteArray.data_extract,Array.toList_extract,List.take_drop]
theorem pieces_spl:∀ (n:Nat) (s:ByteArray),s.size≤n→(pieces s).map (fun x:ByteArray=>x.data.toList)=spl s.data.toList:=by
 intro n
 induction n with
 | zero =>
  intro s hs
  have h0:s.data.toList=[]:=by
   have:s.data.size=0:=by have h:s.data.size=s.size:=rfl;omega
   have h2:s.data=#[]:=Array.eq_empty_of_size_eq_zero this
   rw [h2]
  unfold pieces
  have hm:Lib.indexB s nlB=-1:=by rw [nl_one,h0];rfl
  rw [Lib.splitB_miss _ _ _ _ hm,h0]
  simp [spl,h0]
 | succ n ih =>
  intro s hs
  unfold pieces
  rcases Lib.indexB_cases s nlB with hm | ⟨i,hi,hle⟩
  ·rw [Lib.splitB_miss _ _ _ _ hm]
   rw [nl_one] at hm
   rw [spl_miss _ (Lib.indexByte_none hm)]
   rfl
  ·have hle:i+1≤s.size:=hle
   have hsz:s.data.toList.length=s.size:=by rw [Array.length_toList];rfl
   rw [Lib.countB_hit s nlB i (by decide) hi,Nat.add_comm,Lib.splitB_hit _ _ _ _ i hi]
   have h9:=hi
   rw [nl_one] at h9
   obtain ⟨g1,g2⟩:=Lib.indexByte_some h9
   rw [spl_hit _ i g1 g2]
   have hr:=ih (s.extract (i+nlB.size) s.size) (by rw [ByteArray.size_extract];have:nlB.size=1:=rfl;omega)
   unfold pieces at hr
   have hn1:nlB.size=1:=rfl
   rw [List.map_cons,hr,ext_toList,ext_toList,hn1,List.take_of_length_le (l:=s.data.toList.drop (i+1)) (by rw [List.length_drop,hsz];exact Nat.le_refl _),List.drop_zero]
   rfl
theorem ba_inj:∀ {a b:List ByteArray},a.map (fun x:ByteArray=>x.data.toList)=b.map (fun x:ByteArray=>x.data.toList)→a=b
 | [],[],_=>rfl
 | [],_ :: _,h=>by simp at h
 | _ :: _,[],h=>by simp at h
 | ⟨⟨x⟩⟩ :: a,⟨⟨y⟩⟩ :: b,h=>by
  simp only [List.map_cons,List.cons.injEq] at h
  rw [ba_inj h.2]
  have:x=y:=h.1
  rw [this]
theorem pieces_append (s t:ByteArray):pieces ((s ++ (⟨#[10]⟩:ByteArray)) ++ t)=pieces s ++ pieces t:=by
 refine ba_inj ?_
 rw [List.map_append,pieces_spl _ _ (Nat.le_refl _),pieces_spl _ _ (Nat.le_refl _),pieces_spl _ _ (Nat.le_refl _),← spl_append]
 congr 1
 simp [ByteArray.data_append]
def Pl (l:List UInt8):Prop:=∀ i:Nat,l[i]?≠some 58∧(l[i]?=some 46→∀ c,l[i+1]?=some c→c=43∨c=45)
theorem in_at {l' l:List UInt8} (h:l' <:+: l):∃ n,∀ (i:Nat) (c:UInt8),l'[i]?=some c→l[n+i]?=some c:=by
 obtain ⟨a,b,rfl⟩:=h
 refine ⟨a.length,fun i c hi=>?_⟩
 have hl:=(List.getElem?_eq_some_iff.1 hi).1
 rw [List.append_assoc,List.getElem?_append_right (by omega),Nat.add_sub_cancel_left,List.getElem?_append_left hl]
 exact hi
theorem Pl.sub {l' l:List UInt8} (hp:Pl l) (h:l' <:+: l):Pl l':=by
 obtain ⟨n,hn⟩:=in_at h
 exact fun i=>⟨fun e=>(hp (n+i)).1 (hn i _ e),fun e c hc=>(hp (n+i)).2 (hn i _ e) c (hn (i+1) c hc)⟩
theorem spl_in:∀ l:List UInt8,(∀ h t,spl l=h :: t→h <+: l)∧∀ p∈spl l,p <:+: l
 | []=>⟨fun h t e=>by simp only [spl,List.cons.injEq] at e;rw [← e.1];exact List.nil_prefix,fun p hp=>by simp [spl] at hp;rw [hp];exact List.nil_infix⟩
 | c :: l=>by
  obtain ⟨ih1,ih2⟩:=spl_in l
  by_cases hc:c=10
  ·simp only [spl,if_pos hc]
   refine ⟨fun h t e=>?_,fun p hp=>?_⟩
   ·rw [← (List.cons.inj e).1];exact List.nil_prefix
   ·rcases List.mem_cons.1 hp with rfl | hp
    ·exact List.nil_infix
    ·exact (ih2 p hp).trans (List.suffix_cons c l).isInfix
  ·simp only [spl,if_neg hc]
   cases hs:spl l with
   | nil=>exact absurd hs (spl_ne l)
   | cons x y =>
    have hx:=ih1 x y hs
    refine ⟨fun h t e=>?_,fun p hp=>?_⟩
    ·rw [← (List.cons.inj e).1];exact List.prefix_cons_inj c |>.2 hx
    ·rcases List.mem_cons.1 hp with rfl | hp
     ·exact (List.prefix_cons_inj c |>.2 hx).isInfix
     ·exact (ih2 p (by rw [hs];exact List.mem_cons_of_mem _ hp)).trans (List.suffix_cons c l).isInfix
theorem cutZ_in (s:ByteArray):(cutZ s).data.toList <:+: s.data.toList:=by
 unfold cutZ Lib.cut
 split
 ·exact (List.take_prefix _ _).isInfix
 ·exact List.infix_refl _
theorem pl_rows {s:ByteArray} (h:Pl s.data.toList):∀ x∈(pieces s).map cutZ,Pl x.data.toList:=by
 intro x hx
 obtain ⟨y,hy,rfl⟩:=List.mem_map.1 hx
 have h1:y.data.toList∈spl s.data.toList:=by rw [← pieces_spl _ _ (Nat.le_refl _)];exact List.mem_map_of_mem (f:=fun x:ByteArray=>x.data.toList) hy
 exact (h.sub ((spl_in _).2 _ h1)).sub (cutZ_in y)
theorem bt_nat (s:ByteArray) (i:Nat) (h:i < s.size):s.data.toList[i]?=some s[i]∧bt s (i:Int)=(s[i].toNat:Int):=by
 refine ⟨?_,?_⟩
 ·rw [List.getElem?_eq_getElem (by rw [Array.length_toList];exact h),Array.getElem_toList];rfl
 ·unfold bt
  rw [dif_pos (by simpa using h)]
  simp
theorem at_bt {s:ByteArray} {i:Nat} {c:UInt8} (h:s.data.toList[i]?=some c):i < s.size∧bt s (i:Int)=(c.toNat:Int):=by
 have hl:i < s.size:=by have:=(List.getElem?_eq_some_iff.1 h).1;rw [Array.length_toList] at this;exact this
 obtain ⟨g1,g2⟩:=bt_nat s i hl
 rw [g1] at h
 exact ⟨hl,by rw [g2,Option.some.inj h]⟩
theorem plain_l0 (s:ByteArray) (hs:s.size≤1000000):∀ (d i k:Nat),i+d=s.size→d < k→∃ v,lzplain.l0 k s (i:Int)=some v ∧
  (v=true→∀ j:Nat,i≤j→j < s.size→bt s (j:Int)≠58∧(bt s (j:Int)=46→j+1 < s.size→bt s ((j+1:Nat):Int)=43∨bt s ((j+1:Nat):Int)=45))
 | 0,i,k,h1,h2=>by
  obtain ⟨k,rfl⟩:∃ m,k=m+1:=⟨k - 1,by omega⟩
  exact ⟨true,by rw [lzplain.l0,if_neg (by omega)],fun _ j h3 h4=>by omega⟩
 | d+1,i,k,h1,h2=>by
  obtain ⟨k,rfl⟩:∃ m,k=m+1:=⟨k - 1,by omega⟩
  obtain ⟨v,hv,hp⟩:=plain_l0 s hs d (i+1) k (by omega) (by omega)
  rw [lzplain.l0,if_pos (by omega),if_pos (by omega),wrap_succ (by omega),hv]
  by_cases c1:bt s (i:Int)=58
  ·exact ⟨false,by rw [if_pos c1],fun h=>by cases h⟩
  rw [if_neg c1]
  have hstep:(bt s (i:Int)=46→i+1 < s.size→bt s ((i+1:Nat):Int)=43∨bt s ((i+1:Nat):Int)=45)→(v=true→∀ j:Nat,i≤j→j < s.size→bt s (j:Int)≠58∧(bt s (j:Int)=46→j+1 < s.size→bt s ((j+1:Nat):Int)=43∨bt s ((j+1:Nat):Int)=45)):=by
   intro hx hvt j h3 h4
   by_cases e:j=i
   ·subst e;exact ⟨c1,hx⟩
   ·exact hp hvt j (by omega) h4
  by_cases c2:bt s (i:Int)=46
  ·rw [if_pos c2]
   by_cases c3:i+1 < s.size
   ·rw [if_pos (by omega),if_pos (by omega)]
    by_cases c4:bt s ((i+1:Nat):Int)=43
    ·exact ⟨v,by rw [if_pos c4],hstep fun _ _=>.inl c4⟩
    ·rw [if_neg c4]
     by_cases c5:bt s ((i+1:Nat):Int)=45
     ·exact ⟨v,by rw [if_pos c5],hstep fun _ _=>.inr c5⟩
     ·exact ⟨false,by rw [if_neg c5],fun h=>by cases h⟩
   ·exact ⟨v,by rw [if_neg (by omega)],hstep fun _ h=>absurd h c3⟩
  ·exact ⟨v,by rw [if_neg c2],hstep fun h=>absurd h c2⟩
theorem u8_of {c:UInt8} {n:Nat} (h:(c.toNat:Int)=(n:Int)) (hn:n < 256):c=UInt8.ofNat n:=by
 have:c.toNat=n:=by omega
 rw [← this];simp
theorem plain_f (s:ByteArray) (hs:s.size≤1000000) (k:Nat) (hk:s.size < k):∃ v,lzplain.f k s=some v∧(v=true→Pl s.data.toList):=by
 obtain ⟨v,hv,hp⟩:=plain_l0 s hs s.size 0 k (by omega) hk
 refine ⟨v,hv,fun hvt i=>⟨fun e=>?_,fun e c hc=>?_⟩⟩
 ·obtain ⟨h1,h2⟩:=at_bt e
  exact (hp hvt i (by omega) h1).1 (by rw [h2];rfl)
 ·obtain ⟨h1,h2⟩:=at_bt e
  obtain ⟨h3,h4⟩:=at_bt hc
  rcases (hp hvt i (by omega) h1).2 (by rw [h2];rfl) h3 with h | h
  ·exact .inl (u8_of (n:=43) (h4.symm.trans h) (by decide))
  ·exact .inr (u8_of (n:=45) (h4.symm.trans h) (by decide))
end Go.Proofs.YtffojmgmpfjlhaaGreatDoor.Q
namespace Go.Proofs.YtffojmgmpfjlhaaGreatDoor.Q
open Go.Proofs.YtffojmgmpfjlhaaGreatDoor Go.RowKit Go.Proofs.YtffojmgmpfjlhaaGreatDoorW.PrintWords Go.Proofs.YtffojmgmpfjlhaaGreatDoorW.PrintLast Go.Proofs.YtffojmgmpfjlhaaGreatDoorW.PrintMore
attribute [local go_sem] max2_int min2_int max_two min_two max_three min_three max_four min_four
def lzInsnJoined.j0:Nat→ByteArray→ByteArray→Bool→List Int→List Int→Bool→Option (Bool)
 | 0,_,_,_,_,_,_=>none
 | k+1,x0,x1,x5,x6,x10,x48=>if x48=true then (some x5) else (if x0.size+1≤9223372036854775807 then (if (x0 ++ (⟨#[10]⟩:zB)).size+x1.size≤9223372036854775807 then ((insn_Assemble.f ((x0 ++ (⟨#[10]⟩:zB)) ++ x1) 0).bind fun bt758=>(if bt758.2.2.2=2 then (if x5=true then (if (wrap64 ((x6.length:Int)+(x10.length:Int))) > 2048 then (some true) else (some (decide ((wrap64 ((wrap64 ((x0.size:Int)+(x1.size:Int)))+1)) > 20000)))) else (some false)) else (if x5=true then (if bt758.2.2.2=0 then (if (bt758.2.1.length:Int)=0 then ((some (([]:List Int):List Int)).bind fun y766=>(if y766.length+x6.length < 140737488355328 then ((some (y766 ++ x6:List Int)).bind fun y769=>(if y769.length+x10.length < 140737488355328 then ((lzsameBytes.f bt758.1 (y769 ++ x10)).bind fun t775=>(some t775)) else (none))) else (none))) else (some false)) else (some false)) else (some false)))) else (none)) else (none))
def lzInsnJoined.f (k:Nat) (a0:ByteArray) (a1:ByteArray):Option (Bool):=(lzsane.f k).bind fun t739=>((insn_Assemble.f a0 0).bind fun bt740=>((insn_Assemble.f a1 0).bind fun bt748=>(if bt740.2.2.2=0 then (if bt748.2.2.2=0 then ((lzplain.f k a0).bind fun t756=>(if t756=true then ((lzplain.f k a1).bind fun t757=>(lzInsnJoined.j0 k a0 a1 t739 bt740.1 bt748.1 (!t757))) else (lzInsnJoined.j0 k a0 a1 t739 bt740.1 bt748.1 true))) else (lzInsnJoined.j0 k a0 a1 t739 bt740.1 bt748.1 true)) else (lzInsnJoined.j0 k a0 a1 t739 bt740.1 bt748.1 true))))
theorem lzInsnJoined.mono_l:∀ k,(∀ y0 y1 y2 y3 y4 y5,LeO (lzInsnJoined.j0 k y0 y1 y2 y3 y4 y5) (lzInsnJoined.j0 (k+1) y0 y1 y2 y3 y4 y5))
 | 0=>fun _ _ _ _ _ _ r h=>by simp [lzInsnJoined.j0] at h
 | k+1=>by
  have ih0:=lzInsnJoined.mono_l k
  ·intro y0 y1 y2 y3 y4 y5;unfold lzInsnJoined.j0;repeat' first
   | (with_reducible exact ih0 _ _ _ _ _ _)
   | (with_reducible exact lzplain.mono _ _)
   | (with_reducible exact lzsane.mono _)
   | (with_reducible exact LeO.refl _)
   | (with_reducible exact LeO.none _)
   | (with_reducible refine LeO.ite ?_ ?_)
   | (with_reducible refine LeO.bind ?_ (fun _=>?_))
   | exact LeO.none _
   | refine LeO.ite ?_ ?_
   | refine LeO.bind ?_ (fun _=>?_)
theorem lzInsnJoined.mono:∀ a0 a1 k,LeO (lzInsnJoined.f k a0 a1) (lzInsnJoined.f (k+1) a0 a1):=by
 intro a0 a1 k;have ih0:=lzInsnJoined.mono_l k;unfold lzInsnJoined.f;repeat' first
   | (with_reducible exact ih0 _ _ _ _ _ _)
   | (with_reducible exact lzplain.mono _ _)
   | (with_reducible exact lzsane.mono _)
   | (with_reducible exact LeO.refl _)
   | (with_reducible exact LeO.none _)
   | (with_reducible refine LeO.ite ?_ ?_)
   | (with_reducible refine LeO.bind ?_ (fun _=>?_))
   | exact LeO.none _
   | refine LeO.ite ?_ ?_
   | refine LeO.bind ?_ (fun _=>?_)
set_option maxHeartbeats 8000000 in
set_option maxRecDepth 100000 in
theorem lzInsnJoined.calls (k:Nat) (a0:ByteArray) (a1:ByteArray) (r:Bool) (w:World) (h:lzInsnJoined.f k a0 a1=some r) (hgw:GW w) (hrt:r=true:=by rfl) :
  Calls Tryz.prog 11 #[.string a0,.string a1] w fun e w'=>e=.returned (.bool r)∧Below w.heap.size w w':=by
 have HRT:=Aside0.mk hrt;clear hrt;have HB:=Aside0.mk (Below.refl w.heap.size w);have H:((lzsane.f k).bind fun t739=>((insn_Assemble.f a0 0).bind fun bt740=>((insn_Assemble.f a1 0).bind fun bt748=>(if bt740.2.2.2=0 then (if bt748.2.2.2=0 then ((lzplain.f k a0).bind fun t756=>(if t756=true then ((lzplain.f k a1).bind fun t757=>(lzInsnJoined.j0 k a0 a1 t739 bt740.1 bt748.1 (!t757))) else (lzInsnJoined.j0 k a0 a1 t739 bt740.1 bt748.1 true))) else (lzInsnJoined.j0 k a0 a1 t739 bt740.1 bt748.1 true)) else (lzInsnJoined.j0 k a0 a1 t739 bt740.1 bt748.1 true)))))=some r:=h;clear h;replace H:=Option.bind_eq_some_iff.mp H;obtain ⟨t739,A30,H⟩:=H;replace H:((insn_Assemble.f a0 0).bind fun bt740=>((insn_Assemble.f a1 0).bind fun bt748=>(if bt740.2.2.2=0 then (if bt748.2.2.2=0 then ((lzplain.f k a0).bind fun t756=>(if t756=true then ((lzplain.f k a1).bind fun t757=>(lzInsnJoined.j0 k a0 a1 t739 bt740.1 bt748.1 (!t757))) else (lzInsnJoined.j0 k a0 a1 t739 bt740.1 bt748.1 true))) else (lzInsnJoined.j0 k a0 a1 t739 bt740.1 bt748.1 true)) else (lzInsnJoined.j0 k a0 a1 t739 bt740.1 bt748.1 true))))=some r:=H;have A3:=Aside0.mk A30;clear A30;replace H:=Option.bind_eq_some_iff.mp H;obtain ⟨⟨t740,t741,t742,t743⟩,A40,H⟩:=H;replace H:((insn_Assemble.f a1 0).bind fun bt748=>(if t743=0 then (if bt748.2.2.2=0 then ((lzplain.f k a0).bind fun t756=>(if t756=true then ((lzplain.f k a1).bind fun t757=>(lzInsnJoined.j0 k a0 a1 t739 t740 bt748.1 (!t757))) else (lzInsnJoined.j0 k a0 a1 t739 t740 bt748.1 true))) else (lzInsnJoined.j0 k a0 a1 t739 t740 bt748.1 true)) else (lzInsnJoined.j0 k a0 a1 t739 t740 bt748.1 true)))=some r:=H;have A4:=Aside0.mk A40;clear A40;replace H:=Option.bind_eq_some_iff.mp H;obtain ⟨⟨t748,t749,t750,t751⟩,A50,H⟩:=H;replace H:(if t743=0 then (if t751=0 then ((lzplain.f k a0).bind fun t756=>(if t756=true then ((lzplain.f k a1).bind fun t757=>(lzInsnJoined.j0 k a0 a1 t739 t740 t748 (!t757))) else (lzInsnJoined.j0 k a0 a1 t739 t740 t748 true))) else (lzInsnJoined.j0 k a0 a1 t739 t740 t748 true)) else (lzInsnJoined.j0 k a0 a1 t739 t740 t748 true))=some r:=H;have A5:=Aside0.mk A50;clear A50;have HC6:=Aside0.mk H;clear H;go_enter Tryz.func11,Tryz.ntmps11
 go_upto_region 4 with (first | ((with_reducible refine gate_callee (f:=17) rfl ?_);refine goesL_ (some 18) rfl rfl Tryz.func17 (by kernel_rfl) rfl #[] rfl fq ?_;(with_reducible refine (lzsane.calls k  t739 _ A3.out gwy).mono ?_);rintro e w7 ⟨rfl,hb⟩;refine ⟨_,rfl,?_⟩;have n0_:=Aside0.mk (below_step blw hb);clear HB;have HB:=n0_;clear n0_;(try clear hb);(try clear hb2);(try clear hk);(try clear hi)) | ((with_reducible refine gate_callee (f:=28) rfl ?_);refine goesL_ (some 21) rfl rfl Tryz.func28 (by kernel_rfl) rfl #[.string a0,.int .i64 0] rfl fq ?_;(with_reducible refine (insn_Assemble.calls a0 0 t740 t741 t742 t743 _ A4.out gwy).mono ?_);rintro e w8 ⟨v744,v746,rfl,ho0,ho1,hb⟩;refine ⟨_,rfl,?_⟩;have n0_:=Aside0.mk (Kd.R_lower ho0 (below_size blw));have n1_:=Aside0.mk (Kd.R_lower ho1 (below_size blw));have n2_:=Aside0.mk (below_step blw hb);clear HB;have HO745:=n0_;have HO747:=n1_;have HB:=n2_;clear n0_ n1_ n2_;(try clear hb);(try clear hb2);(try clear hk);(try clear hi);(try clear ho0);(try clear ho1)) | ((with_reducible refine gate_callee (f:=28) rfl ?_);refine goesL_ (some 28) rfl rfl Tryz.func28 (by kernel_rfl) rfl #[.string a1,.int .i64 0] rfl fq ?_;(with_reducible refine (insn_Assemble.calls a1 0 t748 t749 t750 t751 _ A5.out gwy).mono ?_);rintro e w9 ⟨v752,v754,rfl,ho0,ho1,hb⟩;refine ⟨_,rfl,?_⟩;have n0_:=Aside0.mk (Kd.R_elder' (by (with_reducible repeat (first | apply Kd.R_alloc | apply Kd.R_drewN | apply Kd.R_drew));exact HO745.out) (Kd.R_base ho0) hb);have n1_:=Aside0.mk (Kd.R_elder' (by (with_reducible repeat (first | apply Kd.R_alloc | apply Kd.R_drewN | apply Kd.R_drew));exact HO747.out) (Kd.R_base ho1) hb);have n2_:=Aside0.mk (Kd.R_lower (Kd.R_new' ho0 (Kd.R_lt (by (with_reducible repeat (first | apply Kd.R_alloc | apply Kd.R_drewN | apply Kd.R_drew));exact HO745.out))) (below_size blw));have n3_:=Aside0.mk (Kd.R_lower (Kd.R_new' ho1 (Kd.R_lt (by (with_reducible repeat (first | apply Kd.R_alloc | apply Kd.R_drewN | apply Kd.R_drew));exact HO747.out))) (below_size blw));have n4_:=Aside0.mk (below_step blw hb);clear HO745;clear HO747;clear HB;have HO745:=n0_;have HO747:=n1_;have HO753:=n2_;have HO755:=n3_;have HB:=n4_;clear n0_ n1_ n2_ n3_ n4_;(try clear hb);(try clear hb2);(try clear hk);(try clear hi);(try clear ho0);(try clear ho1)))
 (try simp only [Act.put,List.setIfInBounds_toArray,List.set_cons_zero,List.set_cons_succ]);go_cut [48] (fun v48 wc=>∃ (kq:Nat) (x48_5:Bool),v48=.bool x48_5∧Aside0 (lzInsnJoined.j0 kq a0 a1 t739 t740 t748 x48_5=some r)∧Aside0 (kq≤k)∧Aside0 (Kd.R (Kd.int .u8) 5 wc w.heap.size (fun k_=>some k_≠(v752:Value).ownBlock) v744 t740)∧Aside0 (Kd.R (Kd.int .u8) 5 wc w.heap.size (fun k_=>some k_≠(v744:Value).ownBlock) v752 t748)∧Aside0 (Below w.heap.size w wc))
 case first =>
  have H:=HC6.out;clear HC6;by_cases c10:t743=0
  ·rw [if_pos c10] at H;obtain ⟨c10b0,c10b1⟩:=bqt c10;clear c10;(first | rw [c10b0] | (simp only [i64_w,i32_w];rw [c10b0]) | skip);by_cases c11:t751=0
   ·rw [if_pos c11] at H;obtain ⟨c11b0,c11b1⟩:=bqt c11;clear c11;replace H:=Option.bind_eq_some_iff.mp H;obtain ⟨t756,A120,H⟩:=H;replace H:(if t756=true then ((lzplain.f k a1).bind fun t757=>(lzInsnJoined.j0 k a0 a1 t739 t740 t748 (!t757))) else (lzInsnJoined.j0 k a0 a1 t739 t740 t748 true))=some r:=H;have A12:=Aside0.mk A120;clear A120;by_cases c13:t756=true
    ·subst c13;have H1:((lzplain.f k a1).bind fun t757=>(lzInsnJoined.j0 k a0 a1 t739 t740 t748 (!t757)))=some r:=by rw [if_pos rfl] at H;exact H
     clear H;have H:=H1;clear H1;replace H:=Option.bind_eq_some_iff.mp H;obtain ⟨t757,A140,H⟩:=H;replace H:(lzInsnJoined.j0 k a0 a1 t739 t740 t748 (!t757))=some r:=H;have A14:=Aside0.mk A140;clear A140;have H':=Aside0.mk H;clear H;go_wp2_with (first | (go_at_call 32;(with_reducible refine (lzplain.calls k a0 true _ A12.out).mono ?_);rintro e w' ⟨rfl,⟨nd,rfl⟩⟩) | (go_at_call 32;(with_reducible refine (lzplain.calls k a1 t757 _ A14.out).mono ?_);rintro e w' ⟨rfl,⟨nd,rfl⟩⟩))
     go_meet
     case rel=>exact ⟨_,(!t757),rsd,H',⟨by first | omega | exact Nat.le_refl _⟩,⟨by (with_reducible repeat (first | apply Kd.R_alloc | apply Kd.R_drewN | apply Kd.R_drew));exact Kd.R_mono HO745.out (fun _ hk=>hk.2)⟩,⟨by (with_reducible repeat (first | apply Kd.R_alloc | apply Kd.R_drewN | apply Kd.R_drew));exact Kd.R_mono HO753.out (fun _ hk=>hk.2)⟩,⟨blw⟩⟩
    ·replace c13:=Bool.eq_false_iff.mpr c13;subst c13;have H1:(lzInsnJoined.j0 k a0 a1 t739 t740 t748 true)=some r:=by rw [if_neg (show ¬ (false=true) by decide)] at H;exact H
     clear H;have H:=H1;clear H1;have H':=Aside0.mk H;clear H;go_wp2_with (first | (go_at_call 32;(with_reducible refine (lzplain.calls k a0 false _ A12.out).mono ?_);rintro e w' ⟨rfl,⟨nd,rfl⟩⟩))
     go_meet
     case rel=>exact ⟨_,(true),rsd,H',⟨by first | omega | exact Nat.le_refl _⟩,⟨by (with_reducible repeat (first | apply Kd.R_alloc | apply Kd.R_drewN | apply Kd.R_drew));exact Kd.R_mono HO745.out (fun _ hk=>hk.2)⟩,⟨by (with_reducible repeat (first | apply Kd.R_alloc | apply Kd.R_drewN | apply Kd.R_drew));exact Kd.R_mono HO753.out (fun _ hk=>hk.2)⟩,⟨blw⟩⟩
   ·rw [if_neg c11] at H;obtain ⟨c11b0,c11b1⟩:=bqf c11;have H':=Aside0.mk H;clear H;go_wp2;go_meet
    case rel=>exact ⟨_,(true),rsd,H',⟨by first | omega | exact Nat.le_refl _⟩,⟨by (with_reducible repeat (first | apply Kd.R_alloc | apply Kd.R_drewN | apply Kd.R_drew));exact Kd.R_mono HO745.out (fun _ hk=>hk.2)⟩,⟨by (with_reducible repeat (first | apply Kd.R_alloc | apply Kd.R_drewN | apply Kd.R_drew));exact Kd.R_mono HO753.out (fun _ hk=>hk.2)⟩,⟨blw⟩⟩
  ·rw [if_neg c10] at H;obtain ⟨c10b0,c10b1⟩:=bqf c10;(first | rw [c10b0] | (simp only [i64_w,i32_w];rw [c10b0]) | skip);have H':=Aside0.mk H;clear H;go_wp2;go_meet
   case rel=>exact ⟨_,(true),rsd,H',⟨by first | omega | exact Nat.le_refl _⟩,⟨by (with_reducible repeat (first | apply Kd.R_alloc | apply Kd.R_drewN | apply Kd.R_drew));exact Kd.R_mono HO745.out (fun _ hk=>hk.2)⟩,⟨by (with_reducible repeat (first | apply Kd.R_alloc | apply Kd.R_drewN | apply Kd.R_drew));exact Kd.R_mono HO753.out (fun _ hk=>hk.2)⟩,⟨blw⟩⟩
 case rest =>
  clear HC6;obtain ⟨kq,x48_5,rfl,HA,HJ5,HO_6,HO_10,HB⟩:=hcut;cases kq with
  | zero=>exact absurd HA.out (by simp [lzInsnJoined.j0])
  | succ kj5 =>
   have H:=HA.out;clear HA;simp only [lzInsnJoined.j0] at H;by_cases c15:x48_5=true
   ·subst c15;have H1:(some t739)=some r:=by rw [if_pos rfl] at H;exact H
    clear H;have H:=H1;clear H1;obtain rfl:=Option.some.inj H;go_wp2;go_ret;exact ⟨rew,blw⟩
   ·replace c15:=Bool.eq_false_iff.mpr c15;subst c15;have H1:(if a0.size+1≤9223372036854775807 then (if (a0 ++ (⟨#[10]⟩:zB)).size+a1.size≤9223372036854775807 then ((insn_Assemble.f ((a0 ++ (⟨#[10]⟩:zB)) ++ a1) 0).bind fun bt758=>(if bt758.2.2.2=2 then (if t739=true then (if (wrap64 ((t740.length:Int)+(t748.length:Int))) > 2048 then (some true) else (some (decide ((wrap64 ((wrap64 ((a0.size:Int)+(a1.size:Int)))+1)) > 20000)))) else (some false)) else (if t739=true then (if bt758.2.2.2=0 then (if (bt758.2.1.length:Int)=0 then ((some (([]:List Int):List Int)).bind fun y766=>(if y766.length+t740.length < 140737488355328 then ((some (y766 ++ t740:List Int)).bind fun y769=>(if y769.length+t748.length < 140737488355328 then ((lzsameBytes.f bt758.1 (y769 ++ t748)).bind fun t775=>(some t775)) else (none))) else (none))) else (some false)) else (some false)) else (some false)))) else (none)) else (none))=some r:=by rw [if_neg (show ¬ (false=true) by decide)] at H;exact H
    clear H;have H:=H1;clear H1;by_cases c16:a0.size+1≤9223372036854775807
    ·rw [if_pos c16] at H;have c16b0:=eq_true c16;have c16b1:=decide_eq_true c16;try have c16b2:(9223372036854775807 < a0.size+1)=False:=eq_false (Nat.not_lt.2 c16)
     by_cases c17:(a0 ++ (⟨#[10]⟩:zB)).size+a1.size≤9223372036854775807
     ·rw [if_pos c17] at H;have c17b0:=eq_true c17;have c17b1:=decide_eq_true c17;try have c17b2:(9223372036854775807 < (a0 ++ (⟨#[10]⟩:zB)).size+a1.size)=False:=eq_false (Nat.not_lt.2 c17)
      replace H:=Option.bind_eq_some_iff.mp H;obtain ⟨⟨t758,t759,t760,t761⟩,A180,H⟩:=H;replace H:(if t761=2 then (if t739=true then (if (wrap64 ((t740.length:Int)+(t748.length:Int))) > 2048 then (some true) else (some (decide ((wrap64 ((wrap64 ((a0.size:Int)+(a1.size:Int)))+1)) > 20000)))) else (some false)) else (if t739=true then (if t761=0 then (if (t759.length:Int)=0 then ((some (([]:List Int):List Int)).bind fun y766=>(if y766.length+t740.length < 140737488355328 then ((some (y766 ++ t740:List Int)).bind fun y769=>(if y769.length+t748.length < 140737488355328 then ((lzsameBytes.f t758 (y769 ++ t748)).bind fun t775=>(some t775)) else (none))) else (none))) else (some false)) else (some false)) else (some false)))=some r:=H;have A18:=Aside0.mk A180;clear A180;by_cases c19:t761=2
      ·rw [if_pos c19] at H;obtain ⟨c19b0,c19b1⟩:=bqt c19;clear c19;by_cases c20:t739=true
       ·subst c20;have H1:(if (wrap64 ((t740.length:Int)+(t748.length:Int))) > 2048 then (some true) else (some (decide ((wrap64 ((wrap64 ((a0.size:Int)+(a1.size:Int)))+1)) > 20000))))=some r:=by rw [if_pos rfl] at H;exact H
        clear H;have H:=H1;clear H1;by_cases c21:(wrap64 ((t740.length:Int)+(t748.length:Int))) > 2048
        ·rw [if_pos c21] at H;have c21b0:decide (2048 < (wrap64 ((t740.length:Int)+(t748.length:Int))))=true:=decide_eq_true c21;clear c21;obtain rfl:=Option.some.inj H;go_wp2_with (first | ((with_reducible refine gate_callee (f:=28) rfl ?_);refine goesL_ (some 55) rfl rfl Tryz.func28 (by kernel_rfl) rfl #[.string ((a0 ++ (⟨#[10]⟩:zB)) ++ a1),.int .i64 0] rfl fq ?_;(with_reducible refine (insn_Assemble.calls ((a0 ++ (⟨#[10]⟩:zB)) ++ a1) 0 t758 t759 t760 t761 _ A18.out gwy).mono ?_);rintro e w22 ⟨v762,v764,rfl,ho0,ho1,hb⟩;refine ⟨_,rfl,?_⟩;have n0_:=Aside0.mk (Kd.R_elder' (by (with_reducible repeat (first | apply Kd.R_alloc | apply Kd.R_drewN | apply Kd.R_drew));exact HO_6.out) (Kd.R_base ho0) hb);have n1_:=Aside0.mk (Kd.R_elder' (by (with_reducible repeat (first | apply Kd.R_alloc | apply Kd.R_drewN | apply Kd.R_drew));exact HO_10.out) (Kd.R_base ho0) hb);have n2_:=Aside0.mk (Kd.R_lower (Kd.R_new' (Kd.R_new' ho0 (Kd.R_lt (by (with_reducible repeat (first | apply Kd.R_alloc | apply Kd.R_drewN | apply Kd.R_drew));exact HO_6.out))) (Kd.R_lt (by (with_reducible repeat (first | apply Kd.R_alloc | apply Kd.R_drewN | apply Kd.R_drew));exact HO_10.out))) (below_size blw));have n3_:=Aside0.mk (Kd.R_lower ho1 (below_size blw));have n4_:=Aside0.mk (below_step blw hb);clear HO_6;clear HO_10;clear HB;have HO_6:=n0_;have HO_10:=n1_;have HO763:=n2_;have HO765:=n3_;have HB:=n4_;clear n0_ n1_ n2_ n3_ n4_;(try clear hb);(try clear hb2);(try clear hk);(try clear hi);(try clear ho0);(try clear ho1);obtain ⟨Ao23,co23,eo23⟩:=Kd.R_slice HO_6.out;subst eo23;obtain ⟨Ao24,co24,eo24⟩:=Kd.R_slice HO_10.out;subst eo24))
         go_ret;exact ⟨rew,blw⟩
        ·rw [if_neg c21] at H;have c21b0:decide (2048 < (wrap64 ((t740.length:Int)+(t748.length:Int))))=false:=decide_eq_false c21;clear c21;obtain rfl:=Option.some.inj H;go_wp2_with (first | ((with_reducible refine gate_callee (f:=28) rfl ?_);refine goesL_ (some 55) rfl rfl Tryz.func28 (by kernel_rfl) rfl #[.string ((a0 ++ (⟨#[10]⟩:zB)) ++ a1),.int .i64 0] rfl fq ?_;(with_reducible refine (insn_Assemble.calls ((a0 ++ (⟨#[10]⟩:zB)) ++ a1) 0 t758 t759 t760 t761 _ A18.out gwy).mono ?_);rintro e w25 ⟨v762,v764,rfl,ho0,ho1,hb⟩;refine ⟨_,rfl,?_⟩;have n0_:=Aside0.mk (Kd.R_elder' (by (with_reducible repeat (first | apply Kd.R_alloc | apply Kd.R_drewN | apply Kd.R_drew));exact HO_6.out) (Kd.R_base ho0) hb);have n1_:=Aside0.mk (Kd.R_elder' (by (with_reducible repeat (first | apply Kd.R_alloc | apply Kd.R_drewN | apply Kd.R_drew));exact HO_10.out) (Kd.R_base ho0) hb);have n2_:=Aside0.mk (Kd.R_lower (Kd.R_new' (Kd.R_new' ho0 (Kd.R_lt (by (with_reducible repeat (first | apply Kd.R_alloc | apply Kd.R_drewN | apply Kd.R_drew));exact HO_6.out))) (Kd.R_lt (by (with_reducible repeat (first | apply Kd.R_alloc | apply Kd.R_drewN | apply Kd.R_drew));exact HO_10.out))) (below_size blw));have n3_:=Aside0.mk (Kd.R_lower ho1 (below_size blw));have n4_:=Aside0.mk (below_step blw hb);clear HO_6;clear HO_10;clear HB;have HO_6:=n0_;have HO_10:=n1_;have HO763:=n2_;have HO765:=n3_;have HB:=n4_;clear n0_ n1_ n2_ n3_ n4_;(try clear hb);(try clear hb2);(try clear hk);(try clear hi);(try clear ho0);(try clear ho1);obtain ⟨Ao26,co26,eo26⟩:=Kd.R_slice HO_6.out;subst eo26;obtain ⟨Ao27,co27,eo27⟩:=Kd.R_slice HO_10.out;subst eo27))
         go_ret;exact ⟨rew,blw⟩
       ·replace c20:=Bool.eq_false_iff.mpr c20;subst c20;have H1:(some false)=some r:=by rw [if_neg (show ¬ (false=true) by decide)] at H;exact H
        clear H;have H:=H1;clear H1;exact absurd (H.trans (congrArg some HRT.out)) (by simp)
      ·rw [if_neg c19] at H;obtain ⟨c19b0,c19b1⟩:=bqf c19;by_cases c29:t739=true
       ·subst c29;have H1:(if t761=0 then (if (t759.length:Int)=0 then ((some (([]:List Int):List Int)).bind fun y766=>(if y766.length+t740.length < 140737488355328 then ((some (y766 ++ t740:List Int)).bind fun y769=>(if y769.length+t748.length < 140737488355328 then ((lzsameBytes.f t758 (y769 ++ t748)).bind fun t775=>(some t775)) else (none))) else (none))) else (some false)) else (some false))=some r:=by rw [if_pos rfl] at H;exact H
        clear H;have H:=H1;clear H1;by_cases c30:t761=0
        ·rw [if_pos c30] at H;obtain ⟨c30b0,c30b1⟩:=bqt c30;clear c30;by_cases c31:(t759.length:Int)=0
         ·rw [if_pos c31] at H;obtain ⟨c31b0,c31b1⟩:=bqt c31;clear c31;obtain ⟨y766,hy766⟩:∃ y_:List Int,y_=(([]:List Int)):=⟨_,rfl⟩;replace H:(if y766.length+t740.length < 140737488355328 then ((some (y766 ++ t740:List Int)).bind fun y769=>(if y769.length+t748.length < 140737488355328 then ((lzsameBytes.f t758 (y769 ++ t748)).bind fun t775=>(some t775)) else (none))) else (none))=some r:=by first | (rw [hy766];with_reducible exact H) | (have H2_:=(Option.bind_some _ _).symm.trans H;rw [hy766];with_reducible exact H2_) | (have H2_:=(Option.bind_some _ _).symm.trans H;with_reducible exact H2_) | with_reducible exact H | (rw [hy766];exact H) | exact H
          have Ny766:=Aside0.mk hy766;clear hy766;by_cases c32:y766.length+t740.length < 140737488355328
          ·rw [if_pos c32] at H;have LMc32:=Aside0.mk c32;clear c32;obtain ⟨y769,hy769⟩:∃ y_:List Int,y_=(y766 ++ t740):=⟨_,rfl⟩;replace H:(if y769.length+t748.length < 140737488355328 then ((lzsameBytes.f t758 (y769 ++ t748)).bind fun t775=>(some t775)) else (none))=some r:=by first | (rw [hy769];with_reducible exact H) | (have H2_:=(Option.bind_some _ _).symm.trans H;rw [hy769];with_reducible exact H2_) | (have H2_:=(Option.bind_some _ _).symm.trans H;with_reducible exact H2_) | with_reducible exact H | (rw [hy769];exact H) | exact H
           have Ny769:=Aside0.mk hy769;clear hy769;by_cases c33:y769.length+t748.length < 140737488355328
           ·rw [if_pos c33] at H;have LMc33:=Aside0.mk c33;clear c33;obtain ⟨y772,hy772⟩:∃ y_:List Int,y_=(y769 ++ t748):=⟨_,rfl⟩;replace H:((lzsameBytes.f t758 y772).bind fun t775=>(some t775))=some r:=by first | (rw [hy772];with_reducible exact H) | (have H2_:=(Option.bind_some _ _).symm.trans H;rw [hy772];with_reducible exact H2_) | (have H2_:=(Option.bind_some _ _).symm.trans H;with_reducible exact H2_) | with_reducible exact H | (rw [hy772];exact H) | exact H
            have Ny772:=Aside0.mk hy772;clear hy772;replace H:=Option.bind_eq_some_iff.mp H;obtain ⟨t775,A340,H⟩:=H;replace H:(some t775)=some r:=H;have A34:=Aside0.mk A340;clear A340;obtain rfl:=Option.some.inj H;go_wp2_with (first | ((with_reducible refine gate_callee (f:=28) rfl ?_);refine goesL_ (some 55) rfl rfl Tryz.func28 (by kernel_rfl) rfl #[.string ((a0 ++ (⟨#[10]⟩:zB)) ++ a1),.int .i64 0] rfl fq ?_;(with_reducible refine (insn_Assemble.calls ((a0 ++ (⟨#[10]⟩:zB)) ++ a1) 0 t758 t759 t760 t761 _ A18.out gwy).mono ?_);rintro e w35 ⟨v762,v764,rfl,ho0,ho1,hb⟩;refine ⟨_,rfl,?_⟩;have n0_:=Aside0.mk (Kd.R_elder' (by (with_reducible repeat (first | apply Kd.R_alloc | apply Kd.R_drewN | apply Kd.R_drew));exact HO_6.out) (Kd.R_base ho0) hb);have n1_:=Aside0.mk (Kd.R_elder' (by (with_reducible repeat (first | apply Kd.R_alloc | apply Kd.R_drewN | apply Kd.R_drew));exact HO_10.out) (Kd.R_base ho0) hb);have n2_:=Aside0.mk (Kd.R_lower (Kd.R_new' (Kd.R_new' ho0 (Kd.R_lt (by (with_reducible repeat (first | apply Kd.R_alloc | apply Kd.R_drewN | apply Kd.R_drew));exact HO_6.out))) (Kd.R_lt (by (with_reducible repeat (first | apply Kd.R_alloc | apply Kd.R_drewN | apply Kd.R_drew));exact HO_10.out))) (below_size blw));have n3_:=Aside0.mk (Kd.R_lower ho1 (below_size blw));have n4_:=Aside0.mk (below_step blw hb);clear HO_6;clear HO_10;clear HB;have HO_6:=n0_;have HO_10:=n1_;have HO763:=n2_;have HO765:=n3_;have HB:=n4_;clear n0_ n1_ n2_ n3_ n4_;(try clear hb);(try clear hb2);(try clear hk);(try clear hi);(try clear ho0);(try clear ho1);obtain ⟨Ao36,co36,eo36⟩:=Kd.R_slice HO765.out;subst eo36) | ((with_reducible refine gate_dst (N:=92) rfl ?_);(try (refine gate_guard (by rfl) ?_;dsimp only));refine Kd.R_lit (Kd.int .u8) _ 5 ?hg (N:=92) ?hd (xs:=([]:List Int)) (inner:=[]) (ok:=fun _=>True) (okp:=fun _=>True) ?hr ?hp (fun _ hk=>hk) trivial (Below.refl _ _) (Nat.le_refl _) (by simp) ?_;(case hd=>rfl);(case hg=>rfl);(case hr=>first | (go_simp;done) | (go_simp;rfl));(case hp=>exact (Reps.none _ _));intro v767 w37 ho38 hb hg_ hnew_;clear hg_ hnew_;(first | rw [← Ny766.out] at ho38 | (simp only [Int.reduceToNat] at ho38;rw [← Ny766.out] at ho38));have n0_:=Aside0.mk (Kd.R_elder' (by (with_reducible repeat (first | apply Kd.R_alloc | apply Kd.R_drewN | apply Kd.R_drew));exact HO_6.out) (Kd.R_base ho38) hb);have n1_:=Aside0.mk (Kd.R_elder' (by (with_reducible repeat (first | apply Kd.R_alloc | apply Kd.R_drewN | apply Kd.R_drew));exact HO_10.out) (Kd.R_base ho38) hb);have n2_:=Aside0.mk (Kd.R_elder' (by (with_reducible repeat (first | apply Kd.R_alloc | apply Kd.R_drewN | apply Kd.R_drew));exact HO763.out) (Kd.R_base ho38) hb);have n3_:=Aside0.mk (Kd.R_below (by (with_reducible repeat (first | apply Kd.R_alloc | apply Kd.R_drewN | apply Kd.R_drew));exact HO765.out) hb);have n4_:=Aside0.mk (Kd.R_lower (Kd.R_new' (Kd.R_new' (Kd.R_new' ho38 (Kd.R_lt (by (with_reducible repeat (first | apply Kd.R_alloc | apply Kd.R_drewN | apply Kd.R_drew));exact HO_6.out))) (Kd.R_lt (by (with_reducible repeat (first | apply Kd.R_alloc | apply Kd.R_drewN | apply Kd.R_drew));exact HO_10.out))) (Kd.R_lt (by (with_reducible repeat (first | apply Kd.R_alloc | apply Kd.R_drewN | apply Kd.R_drew));exact HO763.out))) (below_size blw));have n5_:=Aside0.mk (below_step blw hb);clear HO_6;clear HO_10;clear HO763;clear HO765;clear HB;have HO_6:=n0_;have HO_10:=n1_;have HO763:=n2_;have HO765:=n3_;have HO768:=n4_;have HB:=n5_;clear n0_ n1_ n2_ n3_ n4_ n5_;clear hb ho38;obtain ⟨Ao40,co40,eo40⟩:=Kd.R_slice HO_6.out;subst eo40) | ((with_reducible refine gate_builtin (b:=.append) (xs:=#[.tmp 92,.tmp 93]) rfl ?_);(try (refine gate_guard (by rfl) ?_;dsimp only));at_builtin;refine Kd.R_append_rows (Kd.int .u8) (w0:=w) w.heap.size rfl (.tmp 92) (.tmp 93) 24 5 (.int .u8 0) 1 rfl Tryz.underlying24 info5 rfl (by decide) (by omega) v767 y766 t740 _ _ _ (fun k_=>some k_≠(.slice Ao40 t740.length co40:Value).ownBlock∧some k_≠(v752:Value).ownBlock∧some k_≠(v762:Value).ownBlock) (fun _=>False) rfl rfl ?aO ?aR (fun _ _ h=>h) (fun _ h=>h.elim) ?aF ?aB ?aS ?aL ?_;(case aR=>repeat (first | exact (Kd.R_reads' HO_6.out).2.2 | (with_reducible refine Kd.C_alloc ?_ _) | (with_reducible refine Kd.C_drewN ?_ _) | (with_reducible refine Kd.C_drew ?_)));(case aB=>exact blw);(case aF=>exact (fun k_ hk=>⟨Kd.fresh' (Kd.R_lt (by (with_reducible repeat (first | apply Kd.R_alloc | apply Kd.R_drewN | apply Kd.R_drew));exact HO_6.out)) k_ hk,Kd.fresh' (Kd.R_lt (by (with_reducible repeat (first | apply Kd.R_alloc | apply Kd.R_drewN | apply Kd.R_drew));exact HO_10.out)) k_ hk,Kd.fresh' (Kd.R_lt (by (with_reducible repeat (first | apply Kd.R_alloc | apply Kd.R_drewN | apply Kd.R_drew));exact HO763.out)) k_ hk⟩));(case aO=>exact (by (with_reducible repeat (first | apply Kd.R_alloc | apply Kd.R_drewN | apply Kd.R_drew));exact Kd.R_mono HO768.out (fun _ hk=>⟨hk.1.1.2,⟨hk.1.2,hk.2⟩⟩)));(case aS=>exact (below_size blw));(case aL=>have:=LMc32.out;omega);intro v770 w39 ho hb hg hat;rw [← Ny769.out] at ho;have n0_:=Aside0.mk (Kd.R_after (ok:=(fun k_=>some k_≠(v752:Value).ownBlock∧some k_≠(v762:Value).ownBlock)) (by (with_reducible repeat (first | apply Kd.R_alloc | apply Kd.R_drewN | apply Kd.R_drew));exact HO_6.out) hg hat);have n1_:=Aside0.mk (Kd.R_after (ok:=(fun k_=>some k_≠(.slice Ao40 t740.length co40:Value).ownBlock∧some k_≠(v762:Value).ownBlock)) (by (with_reducible repeat (first | apply Kd.R_alloc | apply Kd.R_drewN | apply Kd.R_drew));exact HO_10.out) hg hat);have n2_:=Aside0.mk (Kd.R_after (ok:=(fun k_=>some k_≠(.slice Ao40 t740.length co40:Value).ownBlock∧some k_≠(v752:Value).ownBlock)) (by (with_reducible repeat (first | apply Kd.R_alloc | apply Kd.R_drewN | apply Kd.R_drew));exact Kd.R_mono HO763.out (fun _ hk=>⟨⟨hk.1.1.2,hk.1.2⟩,hk.2⟩)) hg hat);have n3_:=Aside0.mk (Kd.R_over' (by (with_reducible repeat (first | apply Kd.R_alloc | apply Kd.R_drewN | apply Kd.R_drew));exact HO765.out) (Kd.R_typed (by (with_reducible repeat (first | apply Kd.R_alloc | apply Kd.R_drewN | apply Kd.R_drew));exact HO768.out)) (by decide) hg);have n4_:=Aside0.mk (hb);have n5_:=Aside0.mk (ho);clear HO_6;clear HO_10;clear HO763;clear HO765;clear HB;clear HO768;have HO_6:=n0_;have HO_10:=n1_;have HO763:=n2_;have HO765:=n3_;have HB:=n4_;have HO771:=n5_;clear n0_ n1_ n2_ n3_ n4_ n5_;clear ho hb hg hat;obtain ⟨Ao42,co42,eo42⟩:=Kd.R_slice HO_10.out;subst eo42) | ((with_reducible refine gate_builtin (b:=.append) (xs:=#[.tmp 94,.tmp 95]) rfl ?_);(try (refine gate_guard (by rfl) ?_;dsimp only));at_builtin;refine Kd.R_append_rows (Kd.int .u8) (w0:=w) w.heap.size rfl (.tmp 94) (.tmp 95) 24 5 (.int .u8 0) 1 rfl Tryz.underlying24 info5 rfl (by decide) (by omega) v770 y769 t748 _ _ _ (fun k_=>some k_≠(.slice Ao40 t740.length co40:Value).ownBlock∧some k_≠(.slice Ao42 t748.length co42:Value).ownBlock∧some k_≠(v762:Value).ownBlock) (fun _=>False) rfl rfl ?aO ?aR (fun _ _ h=>h) (fun _ h=>h.elim) ?aF ?aB ?aS ?aL ?_;(case aR=>repeat (first | exact (Kd.R_reads' HO_10.out).2.2 | (with_reducible refine Kd.C_alloc ?_ _) | (with_reducible refine Kd.C_drewN ?_ _) | (with_reducible refine Kd.C_drew ?_)));(case aB=>exact blw);(case aF=>exact (fun k_ hk=>⟨Kd.fresh' (Kd.R_lt (by (with_reducible repeat (first | apply Kd.R_alloc | apply Kd.R_drewN | apply Kd.R_drew));exact HO_6.out)) k_ hk,Kd.fresh' (Kd.R_lt (by (with_reducible repeat (first | apply Kd.R_alloc | apply Kd.R_drewN | apply Kd.R_drew));exact HO_10.out)) k_ hk,Kd.fresh' (Kd.R_lt (by (with_reducible repeat (first | apply Kd.R_alloc | apply Kd.R_drewN | apply Kd.R_drew));exact HO763.out)) k_ hk⟩));(case aO=>exact (by (with_reducible repeat (first | apply Kd.R_alloc | apply Kd.R_drewN | apply Kd.R_drew));exact HO771.out));(case aS=>exact (below_size blw));(case aL=>have:=LMc33.out;omega);intro v773 w41 ho hb hg hat;rw [← Ny772.out] at ho;have n0_:=Aside0.mk (Kd.R_after (ok:=(fun k_=>some k_≠(.slice Ao42 t748.length co42:Value).ownBlock∧some k_≠(v762:Value).ownBlock)) (by (with_reducible repeat (first | apply Kd.R_alloc | apply Kd.R_drewN | apply Kd.R_drew));exact HO_6.out) hg hat);have n1_:=Aside0.mk (Kd.R_after (ok:=(fun k_=>some k_≠(.slice Ao40 t740.length co40:Value).ownBlock∧some k_≠(v762:Value).ownBlock)) (by (with_reducible repeat (first | apply Kd.R_alloc | apply Kd.R_drewN | apply Kd.R_drew));exact HO_10.out) hg hat);have n2_:=Aside0.mk (Kd.R_after (ok:=(fun k_=>some k_≠(.slice Ao40 t740.length co40:Value).ownBlock∧some k_≠(.slice Ao42 t748.length co42:Value).ownBlock)) (by (with_reducible repeat (first | apply Kd.R_alloc | apply Kd.R_drewN | apply Kd.R_drew));exact HO763.out) hg hat);have n3_:=Aside0.mk (Kd.R_over' (by (with_reducible repeat (first | apply Kd.R_alloc | apply Kd.R_drewN | apply Kd.R_drew));exact HO765.out) (Kd.R_typed (by (with_reducible repeat (first | apply Kd.R_alloc | apply Kd.R_drewN | apply Kd.R_drew));exact HO771.out)) (by decide) hg);have n4_:=Aside0.mk (hb);have n5_:=Aside0.mk (ho);clear HO_6;clear HO_10;clear HO763;clear HO765;clear HB;clear HO771;have HO_6:=n0_;have HO_10:=n1_;have HO763:=n2_;have HO765:=n3_;have HB:=n4_;have HO774:=n5_;clear n0_ n1_ n2_ n3_ n4_ n5_;clear ho hb hg hat;obtain ⟨Ao43,co43,eo43⟩:=Kd.R_slice HO763.out;subst eo43;obtain ⟨Ao44,co44,eo44⟩:=Kd.R_slice HO774.out;subst eo44) | (go_at_call 20;(with_reducible refine (lzsameBytes.calls _ _ t758 _ _ y772 t775 _ ?side1 ?side2 ?side3 ?side4 A34.out).mono ?_);(case side1=>repeat (first | exact (Kd.R_reads' HO763.out).2.2 | (with_reducible refine Kd.C_alloc ?_ _) | (with_reducible refine Kd.C_drewN ?_ _) | (with_reducible refine Kd.C_drew ?_)));(case side2=>exact (Kd.R_reads' HO763.out).2.1);(case side3=>repeat (first | exact (Kd.R_reads' HO774.out).2.2 | (with_reducible refine Kd.C_alloc ?_ _) | (with_reducible refine Kd.C_drewN ?_ _) | (with_reducible refine Kd.C_drew ?_)));(case side4=>exact (Kd.R_reads' HO774.out).2.1);rintro e w' ⟨rfl,⟨nd,rfl⟩⟩))
            go_ret;exact ⟨rew,blw⟩
           ·rw [if_neg c33] at H;exact absurd H (by simp)
          ·rw [if_neg c32] at H;exact absurd H (by simp)
         ·rw [if_neg c31] at H;obtain ⟨c31b0,c31b1⟩:=bqf c31;have c31b2:¬ (t759=[]):=fun h_=>c31 (by rw [h_];rfl)
          exact absurd (H.trans (congrArg some HRT.out)) (by simp)
        ·rw [if_neg c30] at H;obtain ⟨c30b0,c30b1⟩:=bqf c30;exact absurd (H.trans (congrArg some HRT.out)) (by simp)
       ·replace c29:=Bool.eq_false_iff.mpr c29;subst c29;have H1:(some false)=some r:=by rw [if_neg (show ¬ (false=true) by decide)] at H;exact H
        clear H;have H:=H1;clear H1;exact absurd (H.trans (congrArg some HRT.out)) (by simp)
     ·rw [if_neg c17] at H;exact absurd H (by simp)
    ·rw [if_neg c16] at H;exact absurd H (by simp)
end Go.Proofs.YtffojmgmpfjlhaaGreatDoor.Q
namespace Go.Proofs.YtffojmgmpfjlhaaGreatDoor.Q
open Go.Proofs.Ix hiding rd
open Go Go.Proofs.YtffojmgmpfjlhaaGreatDoor Go.RowKit Go.Proofs.YtffojmgmpfjlhaaGreatDoorW.PrintWords
theorem hit_at {l:L9} {c:Nat} (h:l.hit c=true):∃ hlt:l.at_ < l.s.size,l.s[l.at_].toNat=c:=by
 unfold L9.hit L9.peek at h
 rw [Bool.and_eq_true] at h
 obtain ⟨h1,h2⟩:=h
 have h1:=of_decide_eq_true h1
 rw [dif_pos h1] at h2
 exact ⟨h1,by simpa using h2⟩
theorem hit_get {l:L9} {c:Nat} (hc:c < 256) (h:l.hit c=true):l.s.data.toList[l.at_]?=some (UInt8.ofNat c):=by
 obtain ⟨h1,h2⟩:=hit_at h
 rw [(bt_nat l.s l.at_ h1).1,← h2]
 simp
def lineL (s:ByteArray):L9:=(L9.new s true).sk.sk
theorem nm_plain {s:ByteArray} (h:Pl s.data.toList):(L9.new s true).nm=(⟨#[]⟩,(L9.new s true).sk):=by
 unfold L9.nm
 by_cases h1:nameB (L9.new s true).sk.wdS=true
 ·rw [if_pos h1]
  by_cases h2:(L9.new s true).sk.wdL.sk.hit 58=true
  ·exact absurd (hit_get (by decide) h2) (h _).1
  ·rw [if_neg h2]
 ·rw [if_neg h1]
theorem pre_plain {l:L9} (h:Pl l.s.data.toList):l.pre=false:=by
 cases hp:l.pre with
 | false=>rfl
 | true =>
  unfold L9.pre Lib.hasPrefix at hp
  rw [List.isPrefixOf_iff_prefix] at hp
  obtain ⟨r,hr⟩:=hp
  rw [ext_toList] at hr
  have g:∀ (i:Nat) (c:UInt8),funcL[i]?=some c→l.s.data.toList[l.at_+i]?=some c:=by
   intro i c hc
   have h1:(funcL ++ r)[i]?=some c:=by
    rw [List.getElem?_append_left (List.getElem?_eq_some_iff.1 hc).1];exact hc
   rw [hr,List.getElem?_take] at h1
   split at h1
   ·rw [List.getElem?_drop] at h1;exact h1
   ·cases h1
  have g0:=g 0 46 rfl
  have g1:=g 1 102 rfl
  rcases (h (l.at_+0)).2 g0 102 g1 with h | h <;> exact absurd h (by decide)
theorem row_plain (z:Az) (no:Nat) {s:ByteArray} (h:Pl s.data.toList) :
  z.row no s=if (lineL s).at_=(lineL s).s.size then .ok { z with no:=no } else (match (lineL s).instr with | none=>.error 22 | some li=>Az.push { z with no:=no } li):=by
 have hd:(lineL s).dir=some (none,lineL s):=by
  unfold L9.dir
  rw [if_neg (by rw [pre_plain (l:=lineL s) h];decide)]
 unfold Az.row
 simp only [nm_plain h]
 rw [if_pos (show (⟨#[]⟩:ByteArray).size=0 from rfl)]
 rw [show (L9.new s true).sk.sk=lineL s from rfl,hd]
 simp only
 unfold Az.rest
 by_cases e:(lineL s).at_=(lineL s).s.size
 ·rw [if_pos e,if_pos e]
  unfold Az.def_
  rw [if_pos (show (⟨#[]⟩:ByteArray).size=0 from rfl)]
 ·rw [if_neg e,if_neg e]
  cases (lineL s).instr with
  | none=>rfl
  | some li =>
   simp only
   unfold Az.def_
   rw [if_pos (show (⟨#[]⟩:ByteArray).size=0 from rfl)]
theorem rows_append:∀ (L1 L2:List ByteArray) (no:Nat) (z:Az),rowsZ no z (L1 ++ L2)=(match rowsZ no z L1 with | .error e=>.error e | .ok z1=>rowsZ (no+L1.length) z1 L2)
 | [],L2,no,z=>rfl
 | s :: L1,L2,no,z=>by
  rw [List.cons_append,rowsZ,rowsZ]
  cases z.row no s with
  | error e=>rfl
  | ok z1 =>
   simp only
   rw [rows_append L1 L2 (no+1) z1,List.length_cons,Nat.add_right_comm,Nat.add_assoc]
def sumL (es:List En):Nat:=(es.map fun e=>lenM (formM e.l.op)).sum
theorem rows_par:∀ (L:List ByteArray) (no:Nat) (za za1:Az),(∀ s∈L,Pl s.data.toList)→rowsZ no za L=.ok za1 →
  ∃ es:List En,za1.list=za.list ++ es∧za1.size=za.size+sumL es∧za1.labels=za.labels∧za1.funcs=za.funcs ∧
   ∀ (no':Nat) (zb:Az),(∃ (es':List En) (n:Nat),es'.map En.l=es.map En.l∧rowsZ no' zb L=.ok ⟨n,zb.size+sumL es,zb.list ++ es',zb.labels,zb.funcs⟩)∨(∃ n,rowsZ no' zb L=.error (n,2)∧2048 < zb.size+sumL es)
 | [],no,za,za1,hL,h=>by
  cases h
  exact ⟨[],by simp,by simp [sumL],rfl,rfl,fun no' zb=>.inl ⟨[],zb.no,rfl,by simp [rowsZ,sumL]⟩⟩
 | s :: L,no,za,za1,hL,h=>by
  have hs:=hL s List.mem_cons_self
  have hL':∀ s∈L,Pl s.data.toList:=fun x hx=>hL x (List.mem_cons_of_mem _ hx)
  rw [rowsZ,row_plain za no hs] at h
  by_cases e:(lineL s).at_=(lineL s).s.size
  ·rw [if_pos e] at h
   obtain ⟨es,h1,h2,h3,h4,h5⟩:=rows_par L (no+1) _ za1 hL' h
   refine ⟨es,h1,h2,h3,h4,fun no' zb=>?_⟩
   rw [rowsZ,row_plain zb no' hs,if_pos e]
   exact h5 (no'+1) { zb with no:=no' }
  ·rw [if_neg e] at h
   cases hi:(lineL s).instr with
   | none=>rw [hi] at h;cases h
   | some li =>
    rw [hi] at h
    simp only at h
    unfold Az.push at h
    by_cases c:2048 < za.size+lenM (formM li.op)
    ·rw [if_pos c] at h;cases h
    ·rw [if_neg c] at h
     obtain ⟨es,h1,h2,h3,h4,h5⟩:=rows_par L (no+1) _ za1 hL' h
     have hsum:∀ n a:Nat,sumL (⟨li,n,a⟩ :: es)=lenM (formM li.op)+sumL es:=fun n a=>by simp [sumL]
     refine ⟨⟨li,no,za.size⟩ :: es,by rw [h1];simp,by rw [h2,hsum];simp only;omega,h3,h4,fun no' zb=>?_⟩
     rw [rowsZ,row_plain zb no' hs,if_neg e,hi,hsum]
     simp only
     unfold Az.push
     by_cases c2:2048 < zb.size+lenM (formM li.op)
     ·rw [if_pos c2]
      exact .inr ⟨no',rfl,by omega⟩
     ·rw [if_neg c2]
      rcases h5 (no'+1) ⟨no',zb.size+lenM (formM li.op),zb.list ++ [⟨li,no',zb.size⟩],zb.labels,zb.funcs⟩ with ⟨es',n,g1,g2⟩ | ⟨n,g1,g2⟩
      ·refine .inl ⟨⟨li,no',zb.size⟩ :: es',n,by simp [g1],?_⟩
       simp only
       rw [g2]
       simp [Nat.add_assoc]
      ·exact .inr ⟨n,g1,by simp only at g2;omega⟩
def encE (l:L9):List Int:=encI l.op l.a l.b l.imm
theorem encI_eq (op a b imm:Int):(encI op a b imm).length=lenM (formM op):=by
 unfold encI lenM
 have hAB:hasB (formM op)=true→hasA (formM op)=true:=by
  unfold hasA hasB
  intro h
  simp at h ⊢
  omega
 simp only [List.length_cons,List.length_append,immI_len]
 by_cases h1:hasB (formM op)=true
 ·rw [if_pos h1,if_pos (hAB h1)];simp only [List.length_cons,List.length_nil] <;> omega
 ·rw [if_neg h1]
  by_cases h2:hasA (formM op)=true
  ·rw [if_pos h2,if_pos h2];simp only [List.length_cons,List.length_nil] <;> omega
  ·rw [if_neg h2,if_neg h2];simp only [List.length_nil] <;> omega
theorem enc_len (es:List En):((es.map En.l).flatMap encE).length=sumL es:=by
 induction es with
 | nil=>rfl
 | cons e es ih =>
  simp only [List.map_cons,List.flatMap_cons,List.length_append,ih,sumL,List.sum_cons]
  unfold encE
  rw [encI_eq]
theorem code_nil:∀ (es:List En) (out l:List Int),codeZ [] es out=.ok l→(∀ e∈es,e.l.label.size=0∧e.l.far=false)∧l=out ++ (es.map En.l).flatMap encE
 | [],out,l,h=>by
  cases h
  exact ⟨fun e he=>absurd he List.not_mem_nil,by simp⟩
 | e :: es,out,l,h=>by
  rw [codeZ] at h
  unfold En.fix at h
  by_cases c:e.l.label.size=0
  ·rw [if_pos c] at h
   simp only at h
   by_cases c2:e.l.far=true
   ·rw [if_pos c2] at h;cases h
   ·rw [if_neg c2] at h
    obtain ⟨h1,h2⟩:=code_nil es _ l h
    refine ⟨fun x hx=>?_,by rw [h2];simp [encE]⟩
    rcases List.mem_cons.1 hx with rfl | hx
    ·exact ⟨c,by simpa using c2⟩
    ·exact h1 x hx
  ·rw [if_neg c] at h
   have:lookB ([]:List (ByteArray × Nat)) e.l.label=none:=rfl
   rw [this] at h
   cases h
theorem code_all:∀ (es:List En) (out:List Int),(∀ x∈es.map En.l,x.label.size=0∧x.far=false)→codeZ [] es out=.ok (out ++ (es.map En.l).flatMap encE)
 | [],out,h=>by simp [codeZ]
 | e :: es,out,h=>by
  obtain ⟨h1,h2⟩:=h e.l (by simp)
  rw [codeZ]
  unfold En.fix
  rw [if_pos h1]
  simp only
  rw [if_neg (by rw [h2];decide),code_all es _ (fun x hx=>h x (by simp at hx ⊢;exact .inr hx))]
  simp [encE]
theorem asm_plain {s:ByteArray} {l:List Int} {z:Az} (hp:Pl s.data.toList) (h:asmZ s=.ok (l,z)) :
  ∃ es:List En,rowsZ 1 z00 ((pieces s).map cutZ)=.ok z∧z.list=es∧z.labels=[]∧z.funcs=[]∧z.size=l.length∧l=(es.map En.l).flatMap encE∧(∀ x∈es.map En.l,x.label.size=0∧x.far=false)∧sumL es=l.length:=by
 unfold asmZ asmR at h
 cases hr:rowsZ 1 z00 ((pieces s).map cutZ) with
 | error e=>rw [hr] at h;cases h
 | ok z1 =>
  rw [hr] at h
  simp only at h
  obtain ⟨es,h1,h2,h3,h4,-⟩:=rows_par _ _ _ _ (pl_rows hp) hr
  have h3:z1.labels=[]:=h3
  have h1:z1.list=es:=h1
  rw [h3,h1] at h
  cases hc:codeZ [] es [] with
  | error e=>rw [hc] at h;cases h
  | ok l1 =>
   rw [hc] at h
   cases h
   obtain ⟨g1,g2⟩:=code_nil es [] l hc
   have g2:l=(es.map En.l).flatMap encE:=by rw [g2];rfl
   have g3:sumL es=l.length:=by rw [g2,enc_len]
   have h2:z.size=0+sumL es:=h2
   exact ⟨es,rfl,h1,h3,h4,by omega,g2,fun x hx=>by obtain ⟨e,he,rfl⟩:=List.mem_map.1 hx;exact g1 e he,g3⟩
theorem asm_joined {s t:ByteArray} {l m:List Int} {z z2:Az} (hs:Pl s.data.toList) (ht:Pl t.data.toList) (h1:asmZ s=.ok (l,z)) (h2:asmZ t=.ok (m,z2)) :
  (∃ z3:Az,asmZ ((s ++ (⟨#[10]⟩:ByteArray)) ++ t)=.ok (l ++ m,z3)∧z3.funcs=[])∨(∃ n,asmZ ((s ++ (⟨#[10]⟩:ByteArray)) ++ t)=.error (n,2)∧2048 < l.length+m.length):=by
 obtain ⟨es,a1,a2,a3,a4,a5,a6,a7,a8⟩:=asm_plain hs h1
 obtain ⟨fs,b1,b2,b3,b4,b5,b6,b7,b8⟩:=asm_plain ht h2
 obtain ⟨fs2,c1,c2,-,-,c5⟩:=rows_par _ _ _ _ (pl_rows ht) b1
 have c1:z2.list=fs2:=c1
 have e:fs2=fs:=by rw [← c1,b2]
 subst e
 unfold asmZ asmR
 rw [pieces_append,List.map_append,rows_append,a1]
 simp only
 rcases c5 (1+((pieces s).map cutZ).length) z with ⟨es',n,d1,d2⟩ | ⟨n,d1,d2⟩
 ·rw [d2,a3,a2]
  simp only
  rw [code_all (es ++ es') [] (by
   intro x hx
   rw [List.map_append,List.mem_append,d1] at hx
   rcases hx with hx | hx
   ·exact a7 x hx
   ·exact b7 x hx)]
  refine .inl ⟨⟨n,z.size+sumL fs2,es ++ es',[],z.funcs⟩,?_,a4⟩
  rw [List.map_append,List.flatMap_append,d1,← a6,← b6,List.nil_append]
 ·rw [d1]
  exact .inr ⟨n,rfl,by omega⟩
theorem same_self2 (l:List Int):lzsameBytes.f l l=some true:=by
 unfold lzsameBytes.f
 simp
theorem joined_j0t (s t:ByteArray) (l m:List Int) (k:Nat):lzInsnJoined.j0 (k+1) s t true l m true=some true:=by
 rw [lzInsnJoined.j0,if_pos rfl]
theorem asmOut_at (s:ByteArray):asmOut s 0=if 20000 < s.size then ([],[],0,2) else asmFin 0 (asmZ s):=by
 unfold asmOut
 rw [if_neg (show ¬ ((0:Int) < 0∨(1099511627776:Int) < 0) by decide)]
theorem joined_j0f (s t:ByteArray) (l m:List Int) (z z2:Az) (h1:asmZ s=.ok (l,z)) (h2:asmZ t=.ok (m,z2)) (hs:Pl s.data.toList) (ht:Pl t.data.toList) (n1:s.size≤20000) (n2:t.size≤20000) (k:Nat) :
  lzInsnJoined.j0 (k+1) s t true l m false=some true:=by
 have b1:l.length≤2048:=by obtain ⟨es,_,_,_,_,a5,_⟩:=asm_plain hs h1;rw [← a5];exact (asm_ok h1 n1).size
 have b2:m.length≤2048:=by obtain ⟨es,_,_,_,_,a5,_⟩:=asm_plain ht h2;rw [← a5];exact (asm_ok h2 n2).size
 have hz1:(s ++ (⟨#[10]⟩:ByteArray)).size=s.size+1:=by rw [ByteArray.size_append];rfl
 have hz2:((s ++ (⟨#[10]⟩:ByteArray)) ++ t).size=s.size+1+t.size:=by rw [ByteArray.size_append,hz1]
 rw [lzInsnJoined.j0,if_neg (by decide),if_pos (by omega),if_pos (by rw [hz1];omega)]
 unfold insn_Assemble.f
 rw [Option.bind_some,asmOut_at,hz2]
 by_cases hlong:20000 < s.size+1+t.size
 ·rw [if_pos hlong]
  simp only
  rw [if_pos trivial,if_pos trivial]
  by_cases c:wrap64 ((l.length:Int)+(m.length:Int)) > 2048
  ·rw [if_pos c]
  ·rw [if_neg c,decide_eq_true (by simp only [wrap64];omega)]
 ·rw [if_neg hlong]
  rcases asm_joined hs ht h1 h2 with ⟨z3,g1,g2⟩ | ⟨n,g1,g2⟩
  ·rw [g1]
   unfold asmFin
   simp only [g2,symsZ]
   rw [if_neg (by decide),if_pos trivial,if_pos trivial,if_pos (by rfl),Option.bind_some,List.nil_append,List.length_nil,if_pos (by omega),Option.bind_some,if_pos (by omega),same_self2,Option.bind_some]
  ·rw [g1]
   unfold asmFin
   simp only
   rw [if_pos trivial,if_pos trivial,if_pos (by simp only [wrap64];omega)]
theorem InsnJoined_pure (s t:ByteArray):lzInsnJoined.f 30000 s t=some true:=by
 have ht:∀ l m,lzInsnJoined.j0 30000 s t true l m true=some true:=fun l m=>joined_j0t s t l m 29999
 unfold lzInsnJoined.f insn_Assemble.f
 rw [sane_true 29900,Option.bind_some,Option.bind_some,Option.bind_some,asmOut_at,asmOut_at]
 by_cases n1:20000 < s.size
 ·rw [if_pos n1]
  rw [if_neg (show ¬ (([],[],0,2):List Int × List S61 × Int × Int).2.2.2=0 by decide)]
  exact ht _ _
 ·rw [if_neg n1]
  by_cases n2:20000 < t.size
  ·rw [if_pos n2]
   rw [if_neg (show ¬ (([],[],0,2):List Int × List S61 × Int × Int).2.2.2=0 by decide)]
   simp only [ht,ite_self]
  ·rw [if_neg n2]
   cases h1:asmZ s with
   | error p =>
    obtain ⟨no,e⟩:=p
    have hne:=asm_err h1
    unfold asmFin
    simp only
    rw [if_neg hne]
    exact ht _ _
   | ok p =>
    obtain ⟨l,z⟩:=p
    cases h2:asmZ t with
    | error p =>
     obtain ⟨no,e⟩:=p
     have hne:=asm_err h2
     unfold asmFin
     simp only
     rw [if_pos trivial,if_neg hne]
     exact ht _ _
    | ok p =>
     obtain ⟨m,z2⟩:=p
     obtain ⟨v,hv,hp⟩:=plain_f s (by omega) 30000 (by omega)
     obtain ⟨v2,hv2,hp2⟩:=plain_f t (by omega) 30000 (by omega)
     unfold asmFin
     simp only
     rw [if_pos trivial,if_pos trivial,hv,Option.bind_some]
     cases v with
     | false=>rw [if_neg (by decide)];exact ht _ _
     | true =>
      rw [if_pos rfl,hv2,Option.bind_some]
      cases v2 with
      | false=>exact ht _ _
      | true=>exact joined_j0f s t l m z z2 h1 h2 (hp rfl) (hp2 rfl) (by omega) (by omega) 29999
theorem joined_any (s t:ByteArray) (w:World) (w0:s.size≤140737488351232) (w1:t.size≤140737488351232) (hgw:GW w) :
  Calls Tryz.prog 11 #[.string s,.string t] w fun e w'=>e=.returned (.bool true)∧Below w.heap.size w w' :=
 lzInsnJoined.calls 30000 s t true w (InsnJoined_pure s t) hgw
end Go.Proofs.YtffojmgmpfjlhaaGreatDoor.Q
