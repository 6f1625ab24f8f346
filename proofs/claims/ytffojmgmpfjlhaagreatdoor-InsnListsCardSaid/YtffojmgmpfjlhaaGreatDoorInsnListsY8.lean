/- Parts of the proof of InsnLists. -/
import Derived.Test.YtffojmgmpfjlhaaGreatDoorInsnListsY7
set_option maxHeartbeats 8000000
set_option maxRecDepth 100000
set_option linter.unusedVariables false
set_option linter.unusedSimpArgs false
namespace Go.Proofs.YtffojmgmpfjlhaaGreatDoor.Q
open Go.Proofs.Ix hiding rd
open Go Go.Proofs.YtffojmgmpfjlhaaGreatDoor Go.RowKit Go.Proofs.YtffojmgmpfjlhaaGreatDoorW.PrintWords
def Asc (L:List S61):Prop:=L.Pairwise fun a b=>a.f1≤b.f1
theorem filt_split (a c:Int) (hac:a < c):∀ L:List S61,Asc L→(∀ s∈L,a≤s.f1→s.f1=a∨c≤s.f1) →
  (L.filter fun s=>decide (a≤s.f1))=(L.filter fun s=>decide (s.f1=a)) ++ L.filter fun s=>decide (c≤s.f1)
 | [],_,_=>rfl
 | s :: L,hp,hm=>by
  obtain ⟨h1,h2⟩:=List.pairwise_cons.1 hp
  have ih:=filt_split a c hac L h2 (fun x hx=>hm x (List.mem_cons_of_mem _ hx))
  by_cases c1:a≤s.f1
  ·rcases hm s List.mem_cons_self c1 with e | e
   ·rw [List.filter_cons_of_pos (by simpa using c1),List.filter_cons_of_pos (by simpa using e),List.filter_cons_of_neg (by simp;omega),ih]
    rfl
   ·have hnil:(L.filter fun s=>decide (s.f1=a))=[]:=by
     rw [List.filter_eq_nil_iff]
     intro x hx
     have:=h1 x hx
     simp
     omega
    rw [hnil,List.nil_append] at ih
    rw [List.filter_cons_of_pos (by simpa using c1),List.filter_cons_of_neg (by simp;omega),List.filter_cons_of_pos (by simpa using e),ih,hnil]
    rfl
  ·rw [List.filter_cons_of_neg (by simpa using c1),List.filter_cons_of_neg (by simp;omega),List.filter_cons_of_neg (by simp;omega),ih]
theorem lab_lst (L:List S61) (at_:Int) (hA:Asc L):∀ (X:List S23) (i:Nat),(∀ x∈X,1≤(encX x).length) →
  (∀ s∈L,at_+i≤s.f1→(∃ k,k≤X.length∧s.f1=at_+((i+lens (X.take k):Nat):Int))) →
  labL (lstL L at_ X i) i=(L.filter fun s=>decide (at_+i≤s.f1)).map fun s=>(s.f0,(s.f1 - at_).toNat)
 | [],i,_,hm=>by
  simp only [lstL]
  rw [(fns_alone L _).2.2.2]
  have e:(L.filter fun s=>decide (s.f1=at_+(i:Int)))=L.filter fun s=>decide (at_+(i:Int)≤s.f1):=by
   apply List.filter_congr
   intro s hs
   rw [decide_eq_decide]
   constructor
   ·intro h;omega
   ·intro h
    obtain ⟨k,hk,h2⟩:=hm s hs h
    simp [lens] at h2
    omega
  rw [e]
  apply List.map_congr_left
  intro s hs
  obtain ⟨hs1,hs2⟩:=List.mem_filter.1 hs
  obtain ⟨k,hk,h2⟩:=hm s hs1 (by simpa using hs2)
  simp [lens] at h2
  rw [h2]
  congr 1
  omega
 | x :: X,i,hx,hm=>by
  have hp:=hx x List.mem_cons_self
  have hm2:∀ s∈L,at_+i≤s.f1→s.f1=at_+i∨at_+((i+(encX x).length:Nat):Int)≤s.f1:=by
   intro s hs h
   obtain ⟨k,hk,h2⟩:=hm s hs h
   cases k with
   | zero=>left;simp [lens] at h2;exact h2
   | succ k =>
    right
    simp only [List.take_succ_cons,lens,List.map_cons,List.sum_cons] at h2
    omega
  rw [filt_split (at_+i) (at_+((i+(encX x).length:Nat):Int)) (by omega) L hA hm2]
  simp only [lstL]
  rw [lab_app,(fns_alone L _).2.2.2,(fns_alone L _).2.1,Nat.add_zero,List.map_append]
  congr 1
  ·apply List.map_congr_left
   intro s hs
   have h2:=(List.mem_filter.1 hs).2
   have h2:s.f1=at_+(i:Int):=by simpa using h2
   rw [h2]
   congr 1
   omega
  ·simp only [labL]
   refine lab_lst L at_ hA X (i+(encX x).length) (fun y hy=>hx y (List.mem_cons_of_mem _ hy)) (fun s hs h=>?_)
   obtain ⟨k,hk,h2⟩:=hm s hs (by omega)
   cases k with
   | zero=>simp [lens] at h2;omega
   | succ k =>
    refine ⟨k,by simpa using hk,?_⟩
    simp only [List.take_succ_cons,lens,List.map_cons,List.sum_cons] at h2 ⊢
    omega
theorem nam_lab:∀ (ls:List Ll) (i:Nat),namL ls=(labL ls i).map (·.1)
 | [],i=>rfl
 | .fn s :: ls,i=>by simp [namL,labL,nam_lab ls i]
 | .ins x :: ls,i=>by simp [namL,labL,← nam_lab ls]
theorem fit_at {L:List S61} {at_:Int} {O:List Int} {e:Int} (h:fitB L at_ O e=true) {i:Nat} (hi:i < L.length) :
  nameB L[i].f0=true∧nameIn L i=false∧L[i].f1∈startsL at_ O e∧(0 < i→¬ L[i].f1 < (rd_T61 L ((i:Int) - 1)).f1)∧L[i].f2=wrap64 (nextS L e i - L[i].f1):=by
 unfold fitB at h
 rw [List.all_eq_true] at h
 have h1:=h i (List.mem_range.2 hi)
 unfold fitAt at h1
 rw [rd_T61_mem hi] at h1
 simp only [Bool.and_eq_true,Bool.not_eq_true',decide_eq_true_eq,Bool.and_eq_false_iff,decide_eq_false_iff_not] at h1
 obtain ⟨⟨⟨⟨a,b⟩,c⟩,d⟩,e9⟩:=h1
 exact ⟨a,b,c,fun h0=>d.resolve_left (fun h=>h h0),e9⟩
theorem fit_asc {L:List S61} {at_:Int} {O:List Int} {e:Int} (h:fitB L at_ O e=true):Asc L:=by
 have step:∀ i (hi:i+1 < L.length),L[i].f1≤L[i+1].f1:=by
  intro i hi
  have:=(fit_at h hi).2.2.2.1 (by omega)
  rw [show ((i+1:Nat):Int) - 1=(i:Int) by omega,rd_T61_mem (by omega)] at this
  omega
 have all:∀ d i (hi:i+d < L.length),L[i].f1≤L[i+d].f1:=by
  intro d
  induction d with
  | zero=>intro i hi;exact Int.le_refl _
  | succ d ih =>
   intro i hi
   have a:=ih i (by omega)
   have b:=step (i+d) (by omega)
   exact Int.le_trans a b
 unfold Asc
 rw [List.pairwise_iff_getElem]
 intro i j hi hj hij
 have:=all (j - i) i (by omega)
 simpa [show i+(j - i)=j by omega] using this
theorem fit_start {L:List S61} {at_:Int} {X:List S23} (h0:0≤at_) (h1:at_≤1099511627776) (hl:lens X≤2048) (h:fitB L at_ (offsL X 0) (at_+lens X)=true):∀ s∈L,∃ k,k≤X.length∧s.f1=at_+(lens (X.take k):Nat):=by
 intro s hs
 obtain ⟨i,hi,rfl⟩:=List.getElem_of_mem hs
 have hm:=(fit_at h hi).2.2.1
 unfold startsL at hm
 rcases List.mem_append.1 hm with hm | hm
 ·obtain ⟨o,ho,e⟩:=List.mem_map.1 (List.mem_reverse.1 hm)
  obtain ⟨k,hk,rfl⟩:=List.getElem_of_mem ho
  have hlen:∀ (Y:List S23) (j:Nat),(offsL Y j).length=Y.length:=by
   intro Y
   induction Y with
   | nil=>intro j;rfl
   | cons y Y ih=>intro j;simp [offsL,ih]
  rw [hlen] at hk
  have ho2:=offs_at X 0 k hk
  rw [List.getD_eq_getElem?_getD,List.getElem?_eq_getElem (by rw [hlen];exact hk)] at ho2
  simp only [Option.getD_some,Nat.zero_add] at ho2
  have hle:lens (X.take k)≤lens X:=by
   rw [lens_flat,lens_flat]
   conv=>rhs;rw [← List.take_append_drop k X,List.flatMap_append,List.length_append]
   omega
  refine ⟨k,by omega,?_⟩
  rw [← e,ho2]
  simp only [wrap64]
  omega
 ·refine ⟨X.length,Nat.le_refl _,?_⟩
  rw [List.take_length]
  simpa using hm
theorem lens_take_le (X:List S23) (k:Nat):lens (X.take k)≤lens X:=by
 rw [lens_flat,lens_flat]
 conv=>rhs;rw [← List.take_append_drop k X,List.flatMap_append,List.length_append]
 omega
end Go.Proofs.YtffojmgmpfjlhaaGreatDoor.Q
namespace Go.Proofs.YtffojmgmpfjlhaaGreatDoor.Q
open Go.Proofs.YtffojmgmpfjlhaaGreatDoor Go.RowKit Go.Proofs.YtffojmgmpfjlhaaGreatDoorW.PrintWords Go.Proofs.YtffojmgmpfjlhaaGreatDoorW.PrintLast Go.Proofs.YtffojmgmpfjlhaaGreatDoorW.PrintMore
attribute [local go_sem] max2_int min2_int max_two min_two max_three min_three max_four min_four
def rzisLetter.f (a0:Int):Option (Bool):=if a0≥65 then (if a0≤90 then (some true) else (if a0≥97 then (if a0≤122 then (some true) else (some (a0 == 95))) else (some (a0 == 95)))) else (if a0≥97 then (if a0≤122 then (some true) else (some (a0 == 95))) else (some (a0 == 95)))
theorem rzisLetter.calls (a0:Int) (r:Bool) (w:World) (h:rzisLetter.f a0=some r) :
  Calls Tryz.prog 134 #[.int .u8 a0] w fun e w'=>e=.returned (.bool r)∧Drawn0 w w':=by
 unfold rzisLetter.f at h;have H:=h;clear h;by_cases c2:a0≥65
 ·rw [if_pos c2] at H;have c2b0:decide (65≤a0)=true:=decide_eq_true c2;clear c2;by_cases c3:a0≤90
  ·rw [if_pos c3] at H;have c3b0:=decide_eq_true c3;clear c3;obtain rfl:=Option.some.inj H;go_enter Tryz.func134,Tryz.ntmps134
   go_wp2;go_ret;exact ⟨by first | rfl | (simp;done) | (simp [*];done),by repeat (first | exact Drawn0.refl _ | apply Drawn0.step)⟩
  ·rw [if_neg c3] at H;have c3b0:=decide_eq_false c3;clear c3;by_cases c4:a0≥97
   ·rw [if_pos c4] at H;have c4b0:decide (97≤a0)=true:=decide_eq_true c4;clear c4;by_cases c5:a0≤122
    ·rw [if_pos c5] at H;have c5b0:=decide_eq_true c5;clear c5;obtain rfl:=Option.some.inj H;go_enter Tryz.func134,Tryz.ntmps134
     go_wp2;go_ret;exact ⟨by first | rfl | (simp;done) | (simp [*];done),by repeat (first | exact Drawn0.refl _ | apply Drawn0.step)⟩
    ·rw [if_neg c5] at H;have c5b0:=decide_eq_false c5;clear c5;obtain rfl:=Option.some.inj H;go_enter Tryz.func134,Tryz.ntmps134
     go_wp2;go_ret;exact ⟨by first | rfl | (simp;done) | (simp [*];done),by repeat (first | exact Drawn0.refl _ | apply Drawn0.step)⟩
   ·rw [if_neg c4] at H;have c4b0:decide (97≤a0)=false:=decide_eq_false c4;clear c4;obtain rfl:=Option.some.inj H;go_enter Tryz.func134,Tryz.ntmps134
    go_wp2;go_ret;exact ⟨by first | rfl | (simp;done) | (simp [*];done),by repeat (first | exact Drawn0.refl _ | apply Drawn0.step)⟩
 ·rw [if_neg c2] at H;have c2b0:decide (65≤a0)=false:=decide_eq_false c2;clear c2;by_cases c6:a0≥97
  ·rw [if_pos c6] at H;have c6b0:decide (97≤a0)=true:=decide_eq_true c6;clear c6;by_cases c7:a0≤122
   ·rw [if_pos c7] at H;have c7b0:=decide_eq_true c7;clear c7;obtain rfl:=Option.some.inj H;go_enter Tryz.func134,Tryz.ntmps134
    go_wp2;go_ret;exact ⟨by first | rfl | (simp;done) | (simp [*];done),by repeat (first | exact Drawn0.refl _ | apply Drawn0.step)⟩
   ·rw [if_neg c7] at H;have c7b0:=decide_eq_false c7;clear c7;obtain rfl:=Option.some.inj H;go_enter Tryz.func134,Tryz.ntmps134
    go_wp2;go_ret;exact ⟨by first | rfl | (simp;done) | (simp [*];done),by repeat (first | exact Drawn0.refl _ | apply Drawn0.step)⟩
  ·rw [if_neg c6] at H;have c6b0:decide (97≤a0)=false:=decide_eq_false c6;clear c6;obtain rfl:=Option.some.inj H;go_enter Tryz.func134,Tryz.ntmps134
   go_wp2;go_ret;exact ⟨by first | rfl | (simp;done) | (simp [*];done),by repeat (first | exact Drawn0.refl _ | apply Drawn0.step)⟩
mutual
def rzIsName.j0:Nat→ByteArray→Bool→Option (Bool)
 | 0,_,_=>none
 | k+1,x0,x11=>if x11=true then (some false) else (rzIsName.l0 k x0 0)
def rzIsName.l0:Nat→ByteArray→Int→Option (Bool)
 | 0,_,_=>none
 | k+1,x0,x3=>if x3 < (x0.size:Int) then (if 0≤x3 then ((rzisLetter.f (bt x0 x3)).bind fun t546=>(if t546=true then (rzIsName.l0 k x0 (wrap64 (x3+1))) else (if x3=0 then (some false) else (if (bt x0 x3) < 48 then (some false) else (if (bt x0 x3) > 57 then (some false) else (rzIsName.l0 k x0 (wrap64 (x3+1)))))))) else (none)) else (some true)
end
def rzIsName.f (k:Nat) (a0:ByteArray):Option (Bool):=if (a0.size:Int) < 1 then (rzIsName.j0 k a0 true) else (rzIsName.j0 k a0 (decide ((a0.size:Int) > 31)))
theorem rzIsName.mono_l:∀ k,(∀ y0 y1,LeO (rzIsName.j0 k y0 y1) (rzIsName.j0 (k+1) y0 y1))∧(∀ y0 y1,LeO (rzIsName.l0 k y0 y1) (rzIsName.l0 (k+1) y0 y1))
 | 0=>⟨fun _ _ r h=>by simp [rzIsName.j0] at h,fun _ _ r h=>by simp [rzIsName.l0] at h⟩
 | k+1=>by
  obtain ⟨ih0,ih1⟩:=rzIsName.mono_l k;refine ⟨?_,?_⟩
  ·intro y0 y1;unfold rzIsName.j0;repeat' first | (with_reducible first | exact ih0 _ _ | exact ih1 _ _ | exact LeO.refl _ | exact LeO.none _ | refine LeO.ite ?_ ?_ | refine LeO.bind ?_ (fun _=>?_)) | exact LeO.none _ | refine LeO.ite ?_ ?_ | refine LeO.bind ?_ (fun _=>?_)
  ·intro y0 y1;unfold rzIsName.l0;repeat' first | (with_reducible first | exact ih0 _ _ | exact ih1 _ _ | exact LeO.refl _ | exact LeO.none _ | refine LeO.ite ?_ ?_ | refine LeO.bind ?_ (fun _=>?_)) | exact LeO.none _ | refine LeO.ite ?_ ?_ | refine LeO.bind ?_ (fun _=>?_)
theorem rzIsName.mono:∀ a0 k,LeO (rzIsName.f k a0) (rzIsName.f (k+1) a0):=by
 intro a0 k;obtain ⟨ih0,ih1⟩:=rzIsName.mono_l k;unfold rzIsName.f;repeat' first | (with_reducible first | exact ih0 _ _ | exact ih1 _ _ | exact LeO.refl _ | exact LeO.none _ | refine LeO.ite ?_ ?_ | refine LeO.bind ?_ (fun _=>?_)) | exact LeO.none _ | refine LeO.ite ?_ ?_ | refine LeO.bind ?_ (fun _=>?_)
theorem rzIsName.calls (k:Nat) (a0:ByteArray) (r:Bool) (w:World) (h:rzIsName.f k a0=some r) :
  Calls Tryz.prog 117 #[.string a0] w fun e w'=>e=.returned (.bool r)∧Drawn0 w w':=by
 unfold rzIsName.f at h;have H:=h;clear h;have HC2:=Aside0.mk H;clear H;go_enter Tryz.func117,Tryz.ntmps117
 go_upto_region 1 with (fail)
 go_cut [11] (fun v11 wc=>∃ (kq:Nat) (x11_1:Bool),v11=.bool x11_1∧Aside0 (rzIsName.j0 kq a0 x11_1=some r)∧Aside0 (kq≤k)∧Drawn0 w wc)
 case first =>
  have H:=HC2.out;clear HC2;by_cases c3:(a0.size:Int) < 1
  ·rw [if_pos c3] at H;have c3b0:=decide_eq_true c3;have c3b1:decide (a0.size < 1)=true:=decide_eq_true (by omega);clear c3;(first | rw [c3b0] | (simp only [i64_w,i32_w];rw [c3b0]) | skip);have H':=Aside0.mk H;clear H;go_wp2;go_meet
   case rel=>exact ⟨_,(true),rsd,H',⟨by first | omega | exact Nat.le_refl _⟩,by repeat (first | exact Drawn0.refl _ | apply Drawn0.step)⟩
  ·rw [if_neg c3] at H;have c3b0:=decide_eq_false c3;have c3b1:decide (a0.size < 1)=false:=decide_eq_false (by omega);clear c3;(first | rw [c3b0] | (simp only [i64_w,i32_w];rw [c3b0]) | skip);have H':=Aside0.mk H;clear H;go_wp2;go_meet
   case rel=>exact ⟨_,(decide ((a0.size:Int) > 31)),rsd,H',⟨by first | omega | exact Nat.le_refl _⟩,by repeat (first | exact Drawn0.refl _ | apply Drawn0.step)⟩
 case rest =>
  clear HC2;obtain ⟨kq,x11_1,rfl,HA,HJ1,⟨mc1,rfl⟩⟩:=hcut;cases kq with
  | zero=>exact absurd HA.out (by simp [rzIsName.j0])
  | succ kj1 =>
   have H:=HA.out;clear HA;simp only [rzIsName.j0] at H;by_cases c4:x11_1=true
   ·subst c4;rw [if_pos rfl] at H;obtain rfl:=Option.some.inj H;go_wp2;go_ret;exact ⟨by first | rfl | (simp;done) | (simp [*];done),by repeat (first | exact Drawn0.refl _ | apply Drawn0.step)⟩
   ·replace c4:=Bool.eq_false_iff.mpr c4;subst c4;rw [if_neg (show ¬ (false=true) by decide)] at H;have H':=Aside0.mk H;clear H;go_wp2;try simp only [Act.put,List.setIfInBounds_toArray,List.set_cons_zero,List.set_cons_succ]
    go_loopg [3] kj1 (fun kq v3 w'=>∃ (x3_2:Int),v3=.int .i64 x3_2∧Aside0 (rzIsName.l0 kq a0 x3_2=some r)∧Aside0 (kq≤kj1)∧Drawn0 w w')
    case atStart=>exact ⟨(0),rsd,H',⟨Nat.le_refl _⟩,by repeat (first | exact Drawn0.refl _ | apply Drawn0.step)⟩
    case round =>
     clear H';try clear c4
     obtain ⟨x3_2,rfl,HA,HK2,⟨m2,rfl⟩⟩:=hrel;cases gk with
     | zero=>exact absurd HA.out (by simp [rzIsName.l0])
     | succ k2 =>
      have H:=HA.out;clear HA;simp only [rzIsName.l0] at H;by_cases c5:x3_2 < (a0.size:Int)
      ·rw [if_pos c5] at H;have c5b0:=decide_eq_true c5;clear c5;by_cases c6:0≤x3_2
       ·rw [if_pos c6] at H;have c6b0:=decide_eq_true c6;clear c6;obtain ⟨t546,A8,H⟩:=bas H;(try dsimp only at H);by_cases c9:t546=true
        ·subst c9;rw [if_pos rfl] at H;have H':=Aside0.mk H;clear H;have p7:0≤(x3_2:Int):=of_decide_eq_true asm;have q7:x3_2 < (a0.size:Int):=of_decide_eq_true asm;have hx7:=bt_at a0 x3_2;replace p7:=eq_true p7;replace q7:=eq_true q7;go_wp2_with (first | ((with_reducible refine gate_callee (f:=134) rfl ?_);refine gl (some 21) Tryz.func134 #[.int .u8 (bt a0 x3_2)] ?_;(with_reducible refine (rzisLetter.calls (bt a0 x3_2) true _ A8.out).mono ?_);rintro e w' ⟨rfl,⟨nd,rfl⟩⟩;refine ⟨_,rfl,?_⟩))
         go_roundg k2
         case measure=>have:=HJ1.out;have:=HK2.out;omega
         case rel=>exact ⟨(wrap64 (x3_2+1)),rsd,H',⟨by have:=HJ1.out;have:=HK2.out;omega⟩,by repeat (first | exact Drawn0.refl _ | apply Drawn0.step)⟩
        ·replace c9:=Bool.eq_false_iff.mpr c9;subst c9;rw [if_neg (show ¬ (false=true) by decide)] at H;by_cases c10:x3_2=0
         ·rw [if_pos c10] at H;obtain ⟨c10b0,c10b1⟩:=bqt c10;clear c10;obtain rfl:=Option.some.inj H;have p7:0≤(x3_2:Int):=of_decide_eq_true asm;have q7:x3_2 < (a0.size:Int):=of_decide_eq_true asm;have hx7:=bt_at a0 x3_2;replace p7:=eq_true p7;replace q7:=eq_true q7;go_wp2_with (first | ((with_reducible refine gate_callee (f:=134) rfl ?_);refine gl (some 21) Tryz.func134 #[.int .u8 (bt a0 x3_2)] ?_;(with_reducible refine (rzisLetter.calls (bt a0 x3_2) false _ A8.out).mono ?_);rintro e w' ⟨rfl,⟨nd,rfl⟩⟩;refine ⟨_,rfl,?_⟩))
          go_ret;exact ⟨by first | rfl | (simp;done) | (simp [*];done),by repeat (first | exact Drawn0.refl _ | apply Drawn0.step)⟩
         ·rw [if_neg c10] at H;obtain ⟨c10b0,c10b1⟩:=bqf c10;by_cases c12:(bt a0 x3_2) < 48
          ·rw [if_pos c12] at H;have c12b0:=decide_eq_true c12;clear c12;obtain rfl:=Option.some.inj H;have p7:0≤(x3_2:Int):=of_decide_eq_true asm;have q7:x3_2 < (a0.size:Int):=of_decide_eq_true asm;have hx7:=bt_at a0 x3_2;replace p7:=eq_true p7;replace q7:=eq_true q7;go_wp2_with (first | ((with_reducible refine gate_callee (f:=134) rfl ?_);refine gl (some 21) Tryz.func134 #[.int .u8 (bt a0 x3_2)] ?_;(with_reducible refine (rzisLetter.calls (bt a0 x3_2) false _ A8.out).mono ?_);rintro e w' ⟨rfl,⟨nd,rfl⟩⟩;refine ⟨_,rfl,?_⟩;have p11:0≤(x3_2:Int):=of_decide_eq_true asm;have q11:x3_2 < (a0.size:Int):=of_decide_eq_true asm;have hx11:=bt_at a0 x3_2;replace p11:=eq_true p11;replace q11:=eq_true q11))
           go_ret;exact ⟨by first | rfl | (simp;done) | (simp [*];done),by repeat (first | exact Drawn0.refl _ | apply Drawn0.step)⟩
          ·rw [if_neg c12] at H;have c12b0:=decide_eq_false c12;clear c12;by_cases c14:(bt a0 x3_2) > 57
           ·rw [if_pos c14] at H;have c14b0:decide (57 < (bt a0 x3_2))=true:=decide_eq_true c14;clear c14;obtain rfl:=Option.some.inj H;have p7:0≤(x3_2:Int):=of_decide_eq_true asm;have q7:x3_2 < (a0.size:Int):=of_decide_eq_true asm;have hx7:=bt_at a0 x3_2;replace p7:=eq_true p7;replace q7:=eq_true q7;go_wp2_with (first | ((with_reducible refine gate_callee (f:=134) rfl ?_);refine gl (some 21) Tryz.func134 #[.int .u8 (bt a0 x3_2)] ?_;(with_reducible refine (rzisLetter.calls (bt a0 x3_2) false _ A8.out).mono ?_);rintro e w' ⟨rfl,⟨nd,rfl⟩⟩;refine ⟨_,rfl,?_⟩;have p11:0≤(x3_2:Int):=of_decide_eq_true asm;have q11:x3_2 < (a0.size:Int):=of_decide_eq_true asm;have hx11:=bt_at a0 x3_2;replace p11:=eq_true p11;replace q11:=eq_true q11;have p13:0≤(x3_2:Int):=of_decide_eq_true asm;have q13:x3_2 < (a0.size:Int):=of_decide_eq_true asm;have hx13:=bt_at a0 x3_2;replace p13:=eq_true p13;replace q13:=eq_true q13))
            go_ret;exact ⟨by first | rfl | (simp;done) | (simp [*];done),by repeat (first | exact Drawn0.refl _ | apply Drawn0.step)⟩
           ·rw [if_neg c14] at H;have c14b0:decide (57 < (bt a0 x3_2))=false:=decide_eq_false c14;clear c14;have H':=Aside0.mk H;clear H;have p7:0≤(x3_2:Int):=of_decide_eq_true asm;have q7:x3_2 < (a0.size:Int):=of_decide_eq_true asm;have hx7:=bt_at a0 x3_2;replace p7:=eq_true p7;replace q7:=eq_true q7;go_wp2_with (first | ((with_reducible refine gate_callee (f:=134) rfl ?_);refine gl (some 21) Tryz.func134 #[.int .u8 (bt a0 x3_2)] ?_;(with_reducible refine (rzisLetter.calls (bt a0 x3_2) false _ A8.out).mono ?_);rintro e w' ⟨rfl,⟨nd,rfl⟩⟩;refine ⟨_,rfl,?_⟩;have p11:0≤(x3_2:Int):=of_decide_eq_true asm;have q11:x3_2 < (a0.size:Int):=of_decide_eq_true asm;have hx11:=bt_at a0 x3_2;replace p11:=eq_true p11;replace q11:=eq_true q11;have p13:0≤(x3_2:Int):=of_decide_eq_true asm;have q13:x3_2 < (a0.size:Int):=of_decide_eq_true asm;have hx13:=bt_at a0 x3_2;replace p13:=eq_true p13;replace q13:=eq_true q13))
            go_roundg k2
            case measure=>have:=HJ1.out;have:=HK2.out;omega
            case rel=>exact ⟨(wrap64 (x3_2+1)),rsd,H',⟨by have:=HJ1.out;have:=HK2.out;omega⟩,by repeat (first | exact Drawn0.refl _ | apply Drawn0.step)⟩
       ·rw [if_neg c6] at H;exact absurd H (by simp)
      ·rw [if_neg c5] at H;have c5b0:=decide_eq_false c5;clear c5;obtain rfl:=Option.some.inj H;go_wp2;go_ret;exact ⟨by first | rfl | (simp;done) | (simp [*];done),by repeat (first | exact Drawn0.refl _ | apply Drawn0.step)⟩
def rzstarts.l0:Nat→Int→Int→Int→Int→List (S23)→List Int→Int→Option (Bool)
 | 0,_,_,_,_,_,_,_=>none
 | k+1,x1,x2,x3,x9,x887000,x887001,x887002=>if x9 < (x887001.length:Int) then (if 0≤x9 then (if (wrap64 (x1+(rd x887001 x9)))=x3 then (some true) else (rzstarts.l0 k x1 x2 x3 (wrap64 (x9+1)) x887000 x887001 x887002)) else (none)) else (some (x3 == x2))
def rzstarts.f (k:Nat) (l0_0:List (S23)) (l0_1:List Int) (a0_2:Int) (a1:Int) (a2:Int) (a3:Int):Option (Bool):=rzstarts.l0 k a1 a2 a3 0 l0_0 l0_1 a0_2
theorem rzstarts.mono_l:∀ k,(∀ y0 y1 y2 y3 y4 y5 y6,LeO (rzstarts.l0 k y0 y1 y2 y3 y4 y5 y6) (rzstarts.l0 (k+1) y0 y1 y2 y3 y4 y5 y6))
 | 0=>fun _ _ _ _ _ _ _ r h=>by simp [rzstarts.l0] at h
 | k+1=>by
  have ih0:=rzstarts.mono_l k
  ·intro y0 y1 y2 y3 y4 y5 y6;unfold rzstarts.l0;repeat' first | (with_reducible first | exact ih0 _ _ _ _ _ _ _ | exact LeO.refl _ | exact LeO.none _ | refine LeO.ite ?_ ?_ | refine LeO.bind ?_ (fun _=>?_)) | exact LeO.none _ | refine LeO.ite ?_ ?_ | refine LeO.bind ?_ (fun _=>?_)
theorem rzstarts.mono:∀ a0 a1 a2 a3 a4 a5 k,LeO (rzstarts.f k a0 a1 a2 a3 a4 a5) (rzstarts.f (k+1) a0 a1 a2 a3 a4 a5):=by
 intro a0 a1 a2 a3 a4 a5 k;have ih0:=rzstarts.mono_l k;unfold rzstarts.f;repeat' first | (with_reducible first | exact ih0 _ _ _ _ _ _ _ | exact LeO.refl _ | exact LeO.none _ | refine LeO.ite ?_ ?_ | refine LeO.bind ?_ (fun _=>?_)) | exact LeO.none _ | refine LeO.ite ?_ ?_ | refine LeO.bind ?_ (fun _=>?_)
theorem rzstarts.calls (k:Nat) (A0_0:Option Addr) (c0_0:Nat) (l0_0:List (S23)) (A0_1:Option Addr) (c0_1:Nat) (l0_1:List Int) (a0_2:Int) (a1:Int) (a2:Int) (a3:Int) (r:Bool) (w:World) (hr0_0:Kd.C k23 w A0_0 l0_0.length l0_0) (hc0_0:l0_0.length≤c0_0) (hr0_1:Kd.C (Kd.int .i64) w A0_1 l0_1.length l0_1) (hc0_1:l0_1.length≤c0_1) (h:rzstarts.f k l0_0 l0_1 a0_2 a1 a2 a3=some r) :
  Calls Tryz.prog 120 #[.agg #[.slice A0_0 l0_0.length c0_0,.slice A0_1 l0_1.length c0_1,.int .i64 a0_2],.int .i64 a1,.int .i64 a2,.int .i64 a3] w fun e w'=>e=.returned (.bool r)∧Below w.heap.size w w':=by
 have hu70:=Tryz.underlying70;have HR0_0:=Aside0.mk hr0_0;have HC0_0:=Aside0.mk hc0_0;clear hr0_0 hc0_0;have HR0_1:=Aside0.mk hr0_1;have HC0_1:=Aside0.mk hc0_1;clear hr0_1 hc0_1;have HB:=Aside0.mk (Below.refl w.heap.size w);unfold rzstarts.f at h;have H:=h;clear h;have H':=Aside0.mk H;clear H;go_enter Tryz.func120,Tryz.ntmps120
 go_wp2_with (first | ((with_reducible refine gate_dst (N:=4) rfl ?_);refine bxe (N:=4) (cs:=#[.slice A0_0 l0_0.length c0_0,.slice A0_1 l0_1.length c0_1,.int .i64 a0_2]) (t:=70) ?_;intro gb886 hg w5 hbox hb;have BK886:=Aside0.mk hbox;have GW886:Aside0 (w.heap.size≤gb886):=⟨gwb⟩;have GE886:Aside0 (w.heap.size≤gb886):=⟨gwb⟩;replace HB:=Aside0.mk (below_step blw hb);clear hb hbox hg))
 try simp only [Act.put,List.setIfInBounds_toArray,List.set_cons_zero,List.set_cons_succ]
 go_loopg [9] k (fun kq v9 w'=>∃ (x9_1:Int),v9=.int .i64 x9_1∧Aside0 (rzstarts.l0 kq a1 a2 a3 x9_1 l0_0 l0_1 a0_2=some r)∧Aside0 (kq≤k)∧Aside0 (w'.heap[gb886]?=some (.cells #[(.slice A0_0 l0_0.length c0_0),(.slice A0_1 l0_1.length c0_1),.int .i64 a0_2] 70 (0,0)))∧Aside0 (Below w.heap.size w w'))
 case atStart=>exact ⟨(0),rsd,H',⟨Nat.le_refl _⟩,⟨bko⟩,⟨blw⟩⟩
 case round =>
  clear H';obtain ⟨x9_1,rfl,HA,HK1,BK886,HB⟩:=hrel;cases gk with
  | zero=>exact absurd HA.out (by simp [rzstarts.l0])
  | succ k1 =>
   have H:=HA.out;clear HA;simp only [rzstarts.l0] at H;by_cases c6:x9_1 < (l0_1.length:Int)
   ·rw [if_pos c6] at H;have c6b0:=decide_eq_true c6;clear c6;by_cases c7:0≤x9_1
    ·rw [if_pos c7] at H;have c7b0:=decide_eq_true c7;clear c7;by_cases c8:(wrap64 (a1+(rd l0_1 x9_1)))=a3
     ·rw [if_pos c8] at H;obtain ⟨c8b0,c8b1⟩:=bqt c8;clear c8;obtain rfl:=Option.some.inj H;obtain ⟨_,_,_,_,_,_⟩:=bz3 BK886.out;have p887:0≤(x9_1:Int):=of_decide_eq_true asm;have q887:x9_1 < (l0_1.length:Int):=of_decide_eq_true asm;obtain ⟨ad887,e887,hx887_0⟩:=Kd.at_int HR0_1.out x9_1 p887 q887;cases e887;replace hx887_0:=hbc HB.out hx887_0;replace p887:=eq_true p887;replace q887:=eq_true q887;go_wp2;go_ret;exact ⟨rew,blw⟩
     ·rw [if_neg c8] at H;obtain ⟨c8b0,c8b1⟩:=bqf c8;have H':=Aside0.mk H;clear H;obtain ⟨_,_,_,_,_,_⟩:=bz3 BK886.out;have p887:0≤(x9_1:Int):=of_decide_eq_true asm;have q887:x9_1 < (l0_1.length:Int):=of_decide_eq_true asm;obtain ⟨ad887,e887,hx887_0⟩:=Kd.at_int HR0_1.out x9_1 p887 q887;cases e887;replace hx887_0:=hbc HB.out hx887_0;replace p887:=eq_true p887;replace q887:=eq_true q887;go_wp2;go_roundg k1
      case measure=>have:=HK1.out;omega
      case rel=>exact ⟨(wrap64 (x9_1+1)),rsd,H',⟨by have:=HK1.out;omega⟩,⟨bko⟩,⟨blw⟩⟩
    ·rw [if_neg c7] at H;exact absurd H (by simp)
   ·rw [if_neg c6] at H;have c6b0:=decide_eq_false c6;clear c6;obtain rfl:=Option.some.inj H;obtain ⟨_,_,_,_,_,_⟩:=bz3 BK886.out;go_wp2;go_ret;exact ⟨rew,blw⟩
end Go.Proofs.YtffojmgmpfjlhaaGreatDoor.Q
