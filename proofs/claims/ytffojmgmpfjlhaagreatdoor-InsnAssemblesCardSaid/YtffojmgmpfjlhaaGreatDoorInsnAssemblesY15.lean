/- Parts of the proof of InsnAssembles. -/
import Derived.Test.YtffojmgmpfjlhaaGreatDoorInsnAssemblesY14
set_option maxHeartbeats 16000000
set_option maxRecDepth 100000
set_option linter.unusedVariables false
set_option linter.unusedSimpArgs false
namespace Go.Proofs.YtffojmgmpfjlhaaGreatDoor.Q
open Go.Proofs.YtffojmgmpfjlhaaGreatDoor Go.RowKit Go.Proofs.YtffojmgmpfjlhaaGreatDoorW.PrintWords Go.Proofs.YtffojmgmpfjlhaaGreatDoorW.PrintLast Go.Proofs.YtffojmgmpfjlhaaGreatDoorW.PrintMore
attribute [local go_sem] max2_int min2_int max_two min_two max_three min_three max_four min_four
mutual
def rzlines.l0:Nat→ByteArray→List ByteArray→Int→Int→Int→Option (List ByteArray)
 | 0,_,_,_,_,_=>none
 | k+1,x0,x3,x4,x5,x6=>if x6≤(x0.size:Int) then (if x6 < (x0.size:Int) then (if 0≤x6 then (if (bt x0 x6)=59 then (rzlines.j1 k x0 x3 x4 x5 x6 (decide (x5 < 0))) else (rzlines.j1 k x0 x3 x4 x5 x6 false)) else (none)) else (rzlines.j1 k x0 x3 x4 x5 x6 false)) else (some x3)
def rzlines.j1:Nat→ByteArray→List ByteArray→Int→Int→Int→Bool→Option (List ByteArray)
 | 0,_,_,_,_,_,_=>none
 | k+1,x0,x3,x4,x5,x6,x26=>if x26=true then (rzlines.j2 k x0 x3 x4 x6 x6) else (rzlines.j2 k x0 x3 x4 x5 x6)
def rzlines.j2:Nat→ByteArray→List ByteArray→Int→Int→Int→Option (List ByteArray)
 | 0,_,_,_,_,_=>none
 | k+1,x0,x3,x4,x5,x6=>if x6=(x0.size:Int) then (rzlines.j3 k x0 x3 x4 x5 x6 true) else (if 0≤x6 then (if x6 < (x0.size:Int) then (rzlines.j3 k x0 x3 x4 x5 x6 ((bt x0 x6) == 10)) else (none)) else (none))
def rzlines.j3:Nat→ByteArray→List ByteArray→Int→Int→Int→Bool→Option (List ByteArray)
 | 0,_,_,_,_,_,_=>none
 | k+1,x0,x3,x4,x5,x6,x37=>if x37=true then (if x5 < 0 then (if 0≤x4 then (if x4≤x6 then (if x6≤(x0.size:Int) then (if x3.length < 8796093022208 then (rzlines.l0 k x0 (x3 ++ [x0.extract (x4:Int).toNat (x6:Int).toNat]) (wrap64 (x6+1)) (-1) (wrap64 (x6+1))) else (none)) else (none)) else (none)) else (none)) else (if 0≤x4 then (if x4≤x5 then (if x5≤(x0.size:Int) then (if x3.length < 8796093022208 then (rzlines.l0 k x0 (x3 ++ [x0.extract (x4:Int).toNat (x5:Int).toNat]) (wrap64 (x6+1)) (-1) (wrap64 (x6+1))) else (none)) else (none)) else (none)) else (none))) else (rzlines.l0 k x0 x3 x4 x5 (wrap64 (x6+1)))
end
def rzlines.f (k:Nat) (a0:ByteArray):Option (List ByteArray):=rzlines.l0 k a0 ([]:List ByteArray) 0 (-1) 0
theorem rzlines.calls (k:Nat) (a0:ByteArray) (r:List ByteArray) (w:World) (h:rzlines.f k a0=some r) :
  Calls Tryz.prog 76 #[.string a0] w fun e w'=>∃ v0_:Value,e=.returned (v0_)∧Kd.R Kd.string 9 w' w.heap.size (fun _=>True) v0_ r∧Below w.heap.size w w':=by
 have HB:=Aside0.mk (Below.refl w.heap.size w);unfold rzlines.f at h;have H:=h;clear h;have H':=Aside0.mk H;clear H;go_enter Tryz.func76,Tryz.ntmps76
 go_wp2;try simp only [Act.put,List.setIfInBounds_toArray,List.set_cons_zero,List.set_cons_succ]
 go_loopg [3,4,5,6] k (fun kq v3 v4 v5 v6 w'=>∃ (x3_1:List ByteArray) (x4_1:Int) (x5_1:Int) (x6_1:Int),v4=.int .i64 x4_1∧v5=.int .i64 x5_1∧v6=.int .i64 x6_1∧Aside0 (rzlines.l0 kq a0 x3_1 x4_1 x5_1 x6_1=some r)∧Aside0 (kq≤k)∧Aside0 (Kd.R Kd.string 9 w' w.heap.size (fun _=>True) v3 x3_1)∧Aside0 (Below w.heap.size w w'))
 case atStart=>exact ⟨(([]:List ByteArray)),(0),((-1)),(0),rsd,rsd,rsd,H',⟨Nat.le_refl _⟩,⟨by first | exact Kd.R_nil _ _ _ _ _ | exact Kd.N_nil _ _ _ _ _ | exact Kd.V_nil _ _ _ _ _ | exact Kd.Q_nil _ _ _ _ _ | exact Kd.S_nil _ _ _ _ _⟩,⟨blw⟩⟩
 case round =>
  clear H';obtain ⟨x3_1,x4_1,x5_1,x6_1,rfl,rfl,rfl,HA,HK1,HO_3,HB⟩:=hrel;cases gk with
  | zero=>exact absurd HA.out (by simp [rzlines.l0])
  | succ k1 =>
   have H:=HA.out;clear HA;simp only [rzlines.l0] at H;by_cases c2:x6_1≤(a0.size:Int)
   ·rw [if_pos c2] at H;have c2b0:=decide_eq_true c2;clear c2;have HC3:=Aside0.mk H;clear H;go_upto_region 7 with (fail)
    go_cut [26] (fun v26 wc=>∃ (kq:Nat) (x26_2:Bool),v26=.bool x26_2∧Aside0 (rzlines.j1 kq a0 x3_1 x4_1 x5_1 x6_1 x26_2=some r)∧Aside0 (kq≤k1)∧Aside0 (Kd.R Kd.string 9 wc w.heap.size (fun _=>True) u3 x3_1)∧Aside0 (Below w.heap.size w wc))
    case first =>
     have H:=HC3.out;clear HC3;by_cases c4:x6_1 < (a0.size:Int)
     ·rw [if_pos c4] at H;have c4b0:=decide_eq_true c4;clear c4;(first | rw [c4b0] | (simp only [i64_w,i32_w];rw [c4b0]) | skip);by_cases c5:0≤x6_1
      ·rw [if_pos c5] at H;have c5b0:=decide_eq_true c5;clear c5;by_cases c7:(bt a0 x6_1)=59
       ·rw [if_pos c7] at H;obtain ⟨c7b0,c7b1⟩:=bqt c7;clear c7;have H':=Aside0.mk H;clear H;have p6:0≤(x6_1:Int):=of_decide_eq_true asm;have q6:x6_1 < (a0.size:Int):=of_decide_eq_true asm;have hx6:=bt_at a0 x6_1;replace p6:=eq_true p6;replace q6:=eq_true q6;go_wp2;go_meet
        case rel=>exact ⟨_,(decide (x5_1 < 0)),rsd,H',⟨by have:=HK1.out;first | omega | exact Nat.le_refl _⟩,⟨kRd HO_3.out⟩,⟨blw⟩⟩
       ·rw [if_neg c7] at H;obtain ⟨c7b0,c7b1⟩:=bqf c7;have H':=Aside0.mk H;clear H;have p6:0≤(x6_1:Int):=of_decide_eq_true asm;have q6:x6_1 < (a0.size:Int):=of_decide_eq_true asm;have hx6:=bt_at a0 x6_1;replace p6:=eq_true p6;replace q6:=eq_true q6;go_wp2;go_meet
        case rel=>exact ⟨_,(false),rsd,H',⟨by have:=HK1.out;first | omega | exact Nat.le_refl _⟩,⟨kRd HO_3.out⟩,⟨blw⟩⟩
      ·rw [if_neg c5] at H;exact absurd H (by simp)
     ·rw [if_neg c4] at H;have c4b0:=decide_eq_false c4;clear c4;(first | rw [c4b0] | (simp only [i64_w,i32_w];rw [c4b0]) | skip);have H':=Aside0.mk H;clear H;go_wp2;go_meet
      case rel=>exact ⟨_,(false),rsd,H',⟨by have:=HK1.out;first | omega | exact Nat.le_refl _⟩,⟨kRd HO_3.out⟩,⟨blw⟩⟩
    case rest =>
     clear HC3;try clear c2b0
     obtain ⟨kq,x26_2,rfl,HA,HJ2,HO_3,HB⟩:=hcut;cases kq with
     | zero=>exact absurd HA.out (by simp [rzlines.j1])
     | succ kj2 =>
      have H:=HA.out;clear HA;simp only [rzlines.j1] at H;have HC8:=Aside0.mk H;clear H;go_upto_if 26 with (fail)
      go_cut [5] (fun v5 wc=>∃ (kq:Nat) (x5_7:Int),v5=.int .i64 x5_7∧Aside0 (rzlines.j2 kq a0 x3_1 x4_1 x5_7 x6_1=some r)∧Aside0 (kq≤kj2)∧Aside0 (Kd.R Kd.string 9 wc w.heap.size (fun _=>True) u3 x3_1)∧Aside0 (Below w.heap.size w wc))
      case first =>
       have H:=HC8.out;clear HC8;by_cases c9:x26_2=true
       ·subst c9;rw [if_pos rfl] at H;have H':=Aside0.mk H;clear H;go_wp2;go_meet
        case rel=>exact ⟨_,(x6_1),rsd,H',⟨by have:=HK1.out;have:=HJ2.out;first | omega | exact Nat.le_refl _⟩,⟨kRd HO_3.out⟩,⟨blw⟩⟩
       ·replace c9:=Bool.eq_false_iff.mpr c9;subst c9;rw [if_neg (show ¬ (false=true) by decide)] at H;have H':=Aside0.mk H;clear H;go_wp2;go_meet
        case rel=>exact ⟨_,(x5_1),rsd,H',⟨by have:=HK1.out;have:=HJ2.out;first | omega | exact Nat.le_refl _⟩,⟨kRd HO_3.out⟩,⟨blw⟩⟩
      case rest =>
       clear HC8;obtain ⟨kq,x5_7,rfl,HA,HJ7,HO_3,HB⟩:=hcut;cases kq with
       | zero=>exact absurd HA.out (by simp [rzlines.j2])
       | succ kj7 =>
        have H:=HA.out;clear HA;simp only [rzlines.j2] at H;have HC10:=Aside0.mk H;clear H;go_upto_region 9 with (fail)
        go_cut [37] (fun v37 wc=>∃ (kq:Nat) (x37_9:Bool),v37=.bool x37_9∧Aside0 (rzlines.j3 kq a0 x3_1 x4_1 x5_7 x6_1 x37_9=some r)∧Aside0 (kq≤kj7)∧Aside0 (Kd.R Kd.string 9 wc w.heap.size (fun _=>True) u3 x3_1)∧Aside0 (Below w.heap.size w wc))
        case first =>
         have H:=HC10.out;clear HC10;by_cases c11:x6_1=(a0.size:Int)
         ·rw [if_pos c11] at H;obtain ⟨c11b0,c11b1⟩:=bqt c11;clear c11;(first | rw [c11b0] | (simp only [i64_w,i32_w];rw [c11b0]) | skip);have H':=Aside0.mk H;clear H;go_wp2;go_meet
          case rel=>exact ⟨_,(true),rsd,H',⟨by have:=HK1.out;have:=HJ2.out;have:=HJ7.out;first | omega | exact Nat.le_refl _⟩,⟨kRd HO_3.out⟩,⟨blw⟩⟩
         ·rw [if_neg c11] at H;obtain ⟨c11b0,c11b1⟩:=bqf c11;(first | rw [c11b0] | (simp only [i64_w,i32_w];rw [c11b0]) | skip);by_cases c12:0≤x6_1
          ·rw [if_pos c12] at H;have c12b0:=decide_eq_true c12;clear c12;by_cases c13:x6_1 < (a0.size:Int)
           ·rw [if_pos c13] at H;have c13b0:=decide_eq_true c13;clear c13;have H':=Aside0.mk H;clear H;have p14:0≤(x6_1:Int):=of_decide_eq_true asm;have q14:x6_1 < (a0.size:Int):=of_decide_eq_true asm;have hx14:=bt_at a0 x6_1;replace p14:=eq_true p14;replace q14:=eq_true q14;go_wp2;go_meet
            case rel=>exact ⟨_,(((bt a0 x6_1) == 10)),rsd,H',⟨by have:=HK1.out;have:=HJ2.out;have:=HJ7.out;first | omega | exact Nat.le_refl _⟩,⟨kRd HO_3.out⟩,⟨blw⟩⟩
           ·rw [if_neg c13] at H;exact absurd H (by simp)
          ·rw [if_neg c12] at H;exact absurd H (by simp)
        case rest =>
         clear HC10;obtain ⟨kq,x37_9,rfl,HA,HJ9,HO_3,HB⟩:=hcut;cases kq with
         | zero=>exact absurd HA.out (by simp [rzlines.j3])
         | succ kj9 =>
          have H:=HA.out;clear HA;simp only [rzlines.j3] at H;by_cases c15:x37_9=true
          ·subst c15;rw [if_pos rfl] at H;by_cases c16:x5_7 < 0
           ·rw [if_pos c16] at H;have c16b0:=decide_eq_true c16;clear c16;by_cases c17:0≤x4_1
            ·rw [if_pos c17] at H;have c17b0:=eq_true c17;have c17b1:=decide_eq_true c17;clear c17;by_cases c18:x4_1≤x6_1
             ·rw [if_pos c18] at H;have c18b0:=eq_true c18;have c18b1:=decide_eq_true c18;clear c18;by_cases c19:x6_1≤(a0.size:Int)
              ·rw [if_pos c19] at H;have c19b0:=eq_true c19;have c19b1:=decide_eq_true c19;clear c19;by_cases c20:x3_1.length < 8796093022208
               ·rw [if_pos c20] at H;have LMc20:=Aside0.mk c20;clear c20;obtain ⟨y460,hy460⟩:∃ y_:List ByteArray,y_=(x3_1 ++ [a0.extract (x4_1:Int).toNat (x6_1:Int).toNat]):=⟨_,rfl⟩;replace H:(rzlines.l0 kj9 a0 y460 (wrap64 (x6_1+1)) (-1) (wrap64 (x6_1+1)))=some r:=by first | (rw [hy460];with_reducible exact H) | (have H2_:=(Option.bind_some _ _).symm.trans H;rw [hy460];with_reducible exact H2_) | (have H2_:=(Option.bind_some _ _).symm.trans H;with_reducible exact H2_) | with_reducible exact H | (rw [hy460];exact H) | exact H
                have Ny460:=Aside0.mk hy460;clear hy460;have H':=Aside0.mk H;clear H;go_wp2_with (first | ((with_reducible refine gate_builtin (b:=.append) (xs:=#[.tmp 41,.tmp 46]) rfl ?_);at_builtin;refine Kd.R_append Kd.string (w0:=w) w.heap.size rfl (.tmp 41) (.tmp 46) 108 9 (.string ⟨#[]⟩) 16 rfl Tryz.underlying108 info9 rfl (by decide) (by omega) u3 x3_1 (a0.extract (x4_1:Int).toNat (x6_1:Int).toNat) [.string (a0.extract (x4_1:Int).toNat (x6_1:Int).toNat)] (fun _=>True) (fun _=>False) rfl rfl ?aP (fun _ hk=>hk.elim) ?aF ?aO ?aB ?aS ?aL ?_;(case aP=>exact rfl);(case aB=>exact blw);(case aF=>exact (fun _ _=>trivial));(case aO=>exact (kRd HO_3.out));(case aS=>exact (below_size blw));(case aL=>have:=LMc20.out;omega);intro v461 w21 ho hb hg hat;rw [← Ny460.out] at ho;replace HB:=Aside0.mk hb;have HO462:=Aside0.mk ho;clear ho hb hg hat))
                go_roundg kj9
                case measure=>have:=HK1.out;have:=HJ2.out;have:=HJ7.out;have:=HJ9.out;omega
                case rel=>exact ⟨(y460),(wrap64 (x6_1+1)),((-1)),(wrap64 (x6_1+1)),rsd,rsd,rsd,H',⟨by have:=HK1.out;have:=HJ2.out;have:=HJ7.out;have:=HJ9.out;omega⟩,⟨kRd HO462.out⟩,⟨blw⟩⟩
               ·rw [if_neg c20] at H;exact absurd H (by simp)
              ·rw [if_neg c19] at H;exact absurd H (by simp)
             ·rw [if_neg c18] at H;exact absurd H (by simp)
            ·rw [if_neg c17] at H;exact absurd H (by simp)
           ·rw [if_neg c16] at H;have c16b0:=decide_eq_false c16;clear c16;by_cases c22:0≤x4_1
            ·rw [if_pos c22] at H;have c22b0:=eq_true c22;have c22b1:=decide_eq_true c22;clear c22;by_cases c23:x4_1≤x5_7
             ·rw [if_pos c23] at H;have c23b0:=eq_true c23;have c23b1:=decide_eq_true c23;clear c23;by_cases c24:x5_7≤(a0.size:Int)
              ·rw [if_pos c24] at H;have c24b0:=eq_true c24;have c24b1:=decide_eq_true c24;clear c24;by_cases c25:x3_1.length < 8796093022208
               ·rw [if_pos c25] at H;have LMc25:=Aside0.mk c25;clear c25;obtain ⟨y463,hy463⟩:∃ y_:List ByteArray,y_=(x3_1 ++ [a0.extract (x4_1:Int).toNat (x5_7:Int).toNat]):=⟨_,rfl⟩;replace H:(rzlines.l0 kj9 a0 y463 (wrap64 (x6_1+1)) (-1) (wrap64 (x6_1+1)))=some r:=by first | (rw [hy463];with_reducible exact H) | (have H2_:=(Option.bind_some _ _).symm.trans H;rw [hy463];with_reducible exact H2_) | (have H2_:=(Option.bind_some _ _).symm.trans H;with_reducible exact H2_) | with_reducible exact H | (rw [hy463];exact H) | exact H
                have Ny463:=Aside0.mk hy463;clear hy463;have H':=Aside0.mk H;clear H;go_wp2_with (first | ((with_reducible refine gate_builtin (b:=.append) (xs:=#[.tmp 41,.tmp 46]) rfl ?_);at_builtin;refine Kd.R_append Kd.string (w0:=w) w.heap.size rfl (.tmp 41) (.tmp 46) 108 9 (.string ⟨#[]⟩) 16 rfl Tryz.underlying108 info9 rfl (by decide) (by omega) u3 x3_1 (a0.extract (x4_1:Int).toNat (x5_7:Int).toNat) [.string (a0.extract (x4_1:Int).toNat (x5_7:Int).toNat)] (fun _=>True) (fun _=>False) rfl rfl ?aP (fun _ hk=>hk.elim) ?aF ?aO ?aB ?aS ?aL ?_;(case aP=>exact rfl);(case aB=>exact blw);(case aF=>exact (fun _ _=>trivial));(case aO=>exact (kRd HO_3.out));(case aS=>exact (below_size blw));(case aL=>have:=LMc25.out;omega);intro v464 w26 ho hb hg hat;rw [← Ny463.out] at ho;replace HB:=Aside0.mk hb;have HO465:=Aside0.mk ho;clear ho hb hg hat))
                go_roundg kj9
                case measure=>have:=HK1.out;have:=HJ2.out;have:=HJ7.out;have:=HJ9.out;omega
                case rel=>exact ⟨(y463),(wrap64 (x6_1+1)),((-1)),(wrap64 (x6_1+1)),rsd,rsd,rsd,H',⟨by have:=HK1.out;have:=HJ2.out;have:=HJ7.out;have:=HJ9.out;omega⟩,⟨kRd HO465.out⟩,⟨blw⟩⟩
               ·rw [if_neg c25] at H;exact absurd H (by simp)
              ·rw [if_neg c24] at H;exact absurd H (by simp)
             ·rw [if_neg c23] at H;exact absurd H (by simp)
            ·rw [if_neg c22] at H;exact absurd H (by simp)
          ·replace c15:=Bool.eq_false_iff.mpr c15;subst c15;rw [if_neg (show ¬ (false=true) by decide)] at H;have H':=Aside0.mk H;clear H;go_wp2;go_roundg kj9
           case measure=>have:=HK1.out;have:=HJ2.out;have:=HJ7.out;have:=HJ9.out;omega
           case rel=>exact ⟨(x3_1),(x4_1),(x5_7),(wrap64 (x6_1+1)),rsd,rsd,rsd,H',⟨by have:=HK1.out;have:=HJ2.out;have:=HJ7.out;have:=HJ9.out;omega⟩,⟨kRd HO_3.out⟩,⟨blw⟩⟩
   ·rw [if_neg c2] at H;have c2b0:=decide_eq_false c2;clear c2;obtain rfl:=Option.some.inj H;go_wp2;go_ret;exact ⟨_,by first | rfl | (simp [errW_none,errW_some] <;> rfl) | (simp [*,errW_none,errW_some] <;> rfl),by (with_reducible repeat (first | apply Kd.R_alloc | apply Kd.R_drewN | apply Kd.R_drew));exact HO_3.out,blw⟩
end Go.Proofs.YtffojmgmpfjlhaaGreatDoor.Q
namespace Go.Proofs.YtffojmgmpfjlhaaGreatDoor.Q
open Go.Proofs.Ix hiding rd
open Go Go.Proofs.YtffojmgmpfjlhaaGreatDoor Go.RowKit Go.Proofs.YtffojmgmpfjlhaaGreatDoorW.PrintWords
def noS (c:UInt8):Bool:=c != 59
def cutB (l:List UInt8):ByteArray:=bS (l.takeWhile noS)
def glue (P:List UInt8):List (List UInt8)→List ByteArray
 | []=>[]
 | h :: t=>cutB (P ++ h) :: t.map cutB
def EndAt (P:List UInt8) (fr:Nat) (e:Int):Prop:=(e=-1∧∀ x∈P,noS x=true)∨∃ d:Nat,e=((fr+d:Nat):Int)∧d < P.length∧∀ h,(P ++ h).takeWhile noS=P.take d
theorem tw_all {α:Type} {p:α→Bool}:∀ {l:List α},(∀ x∈l,p x=true)→l.takeWhile p=l
 | [],_=>rfl
 | a :: l,h=>by rw [List.takeWhile_cons_of_pos (h a List.mem_cons_self),tw_all fun x hx=>h x (List.mem_cons_of_mem _ hx)]
theorem lines_push (s:ByteArray) (hs:s.size≤1000000) (k i fr:Nat) (out:List ByteArray) (e:Int) (P:List UInt8) (hP:P=(s.data.toList.drop fr).take (i - fr)) (h1:fr≤i) (h2:i≤s.size) (ho:out.length < 8796093022208) (hE:EndAt P fr e) :
  rzlines.j3 (k+1) s out (fr:Int) e (i:Int) true=rzlines.l0 k s (out ++ [cutB P]) ((i+1:Nat):Int) (-1) ((i+1:Nat):Int):=by
 have hlen:P.length=i - fr:=by rw [hP,List.length_take,List.length_drop,sz_list];omega
 rw [rzlines.j3,if_pos rfl]
 rcases hE with ⟨rfl,hall⟩ | ⟨d,rfl,hd,htw⟩
 ·rw [if_pos (by decide),if_pos (by omega),if_pos (by omega),if_pos (by omega),if_pos ho,wrap_succ (by omega)]
  have:s.extract (fr:Int).toNat (i:Int).toNat=cutB P:=by
   apply ba_ext
   rw [ext_toL]
   show _=(bS _).data.toList
   rw [toS,tw_all hall,hP]
   rfl
  rw [this]
 ·rw [if_neg (by omega),if_pos (by omega),if_pos (by omega),if_pos (by omega),if_pos ho,wrap_succ (by omega)]
  have:s.extract (fr:Int).toNat ((fr+d:Nat):Int).toNat=cutB P:=by
   apply ba_ext
   rw [ext_toL]
   show _=(bS _).data.toList
   have:=htw []
   rw [List.append_nil] at this
   rw [toS,this,hP,List.take_take,show ((fr:Int).toNat)=fr from rfl,show (((fr+d:Nat):Int).toNat)=fr+d from rfl]
   congr 1
   omega
  rw [this]
theorem lines_l0 (s:ByteArray) (hs:s.size≤1000000):∀ (R:List UInt8) (i fr:Nat) (k:Nat) (out:List ByteArray) (e:Int) (P:List UInt8),s.data.toList.drop i=R→P=(s.data.toList.drop fr).take (i - fr)→fr≤i→i≤s.size→4 * R.length+8≤k →
  out.length+R.length+1 < 8796093022208→EndAt P fr e→rzlines.l0 k s out (fr:Int) e (i:Int)=some (out ++ glue P (spl R))
 | [],i,fr,k,out,e,P,hR,hP,h1,h2,hk,ho,hE=>by
  have hi:i=s.size:=by
   have:(s.data.toList.drop i).length=0:=by rw [hR];rfl
   rw [List.length_drop,sz_list] at this
   omega
  subst hi
  obtain ⟨k,rfl⟩:∃ m,k=m+5:=⟨k - 5,by omega⟩
  rw [rzlines.l0,if_pos (Int.le_refl _),if_neg (Int.lt_irrefl _),rzlines.j1,if_neg (by decide),rzlines.j2,if_pos rfl,lines_push s hs (k+1) s.size fr out e P hP h1 h2 (by omega) hE,rzlines.l0,if_neg (by omega)]
  show some (out ++ [cutB P])=some (out ++ [cutB (P ++ [])])
  rw [List.append_nil]
 | c :: R,i,fr,k,out,e,P,hR,hP,h1,h2,hk,ho,hE=>by
  have hlt:i < s.size:=by
   have:(s.data.toList.drop i).length=R.length+1:=by rw [hR];rfl
   rw [List.length_drop,sz_list] at this
   omega
  have hcons:=List.drop_eq_getElem_cons (l:=s.data.toList) (i:=i) (by rw [sz_list];exact hlt)
  rw [hR] at hcons
  obtain ⟨hc,hR1⟩:=List.cons.inj hcons
  obtain ⟨hb0,hb⟩:=bt_nat s i hlt
  have hsc:s[i]=c:=by
   rw [List.getElem?_eq_getElem (by rw [sz_list];exact hlt)] at hb0
   rw [hc]
   exact (Option.some.inj hb0).symm
  rw [hsc] at hb
  have hP1:(s.data.toList.drop fr).take (i+1 - fr)=P ++ [c]:=by
   rw [show i+1 - fr=(i - fr)+1 by omega,List.take_add_one,← hP,List.getElem?_drop,show fr+(i - fr)=i by omega,List.getElem?_eq_getElem (by rw [sz_list];exact hlt),← hc]
   rfl
  have hlen:P.length=i - fr:=by rw [hP,List.length_take,List.length_drop,sz_list];omega
  have hRl:(c :: R).length=R.length+1:=rfl
  obtain ⟨k,rfl⟩:∃ m,k=m+4:=⟨k - 4,by omega⟩
  obtain ⟨e',he',hE'⟩:∃ e',(if bt s (i:Int)=59 then rzlines.j1 (k+3) s out (fr:Int) e (i:Int) (decide (e < 0)) else rzlines.j1 (k+3) s out (fr:Int) e (i:Int) false)=rzlines.j2 (k+2) s out (fr:Int) e' (i:Int)∧(c=10→e'=e)∧EndAt (P ++ [c]) fr e':=by
   by_cases h59:c=59
   ·subst h59
    rw [if_pos (by rw [hb];rfl),rzlines.j1]
    rcases hE with ⟨rfl,hall⟩ | ⟨d,rfl,hd,htw⟩
    ·refine ⟨(i:Int),by rw [if_pos (by decide)],fun h=>absurd h (by decide),.inr ⟨P.length,?_,by rw [List.length_append];exact Nat.lt_succ_self _,fun h=>?_⟩⟩
     ·rw [hlen];congr 1;omega
     ·rw [List.append_assoc,List.takeWhile_append_of_pos hall,List.take_append_of_le_length (Nat.le_refl _),List.take_length]
      show P ++ (59 :: h).takeWhile noS=P
      rw [List.takeWhile_cons_of_neg (by decide),List.append_nil]
    ·refine ⟨((fr+d:Nat):Int),by rw [if_neg (by rw [decide_eq_true_eq];omega)],fun _=>rfl,.inr ⟨d,rfl,by rw [List.length_append];omega,fun h=>?_⟩⟩
     rw [List.append_assoc,htw,List.take_append_of_le_length (by omega)]
   ·have hne:¬ bt s (i:Int)=59:=by
     rw [hb]
     intro h
     have h9:c.toNat=59:=by omega
     exact h59 (UInt8.toNat_inj.1 (h9.trans rfl))
    rw [if_neg hne,rzlines.j1,if_neg (by decide)]
    refine ⟨e,rfl,fun _=>rfl,?_⟩
    rcases hE with ⟨rfl,hall⟩ | ⟨d,rfl,hd,htw⟩
    ·refine .inl ⟨rfl,fun x hx=>?_⟩
     rcases List.mem_append.1 hx with hx | hx
     ·exact hall x hx
     ·rw [List.mem_singleton] at hx
      rw [hx]
      exact bne_iff_ne.2 h59
    ·refine .inr ⟨d,rfl,by rw [List.length_append];omega,fun h=>?_⟩
     rw [List.append_assoc,htw,List.take_append_of_le_length (by omega)]
  rw [rzlines.l0,if_pos (by omega),if_pos (by omega),if_pos (by omega),he',rzlines.j2,if_neg (by omega),if_pos (by omega),if_pos (by omega),hb]
  have hd1:s.data.toList.drop (i+1)=R:=hR1.symm
  by_cases h10:c=10
  ·subst h10
   rw [show (((10:UInt8).toNat:Int) == 10)=true from rfl,hE'.1 rfl,lines_push s hs k i fr out e P hP h1 h2 (by omega) hE,lines_l0 s hs R (i+1) (i+1) k _ (-1) [] hd1 (by rw [Nat.sub_self];rfl) (Nat.le_refl _) hlt (by omega) (by rw [List.length_append,List.length_singleton];omega) (.inl ⟨rfl,fun x hx=>absurd hx List.not_mem_nil⟩)]
   have hsp:spl (10 :: R)=[] :: spl R:=by rw [spl];exact if_pos rfl
   rw [hsp,List.append_assoc]
   congr 2
   show [cutB P] ++ glue [] (spl R)=cutB (P ++ []) :: (spl R).map cutB
   rw [List.append_nil]
   cases hq:spl R with
   | nil=>exact absurd hq (spl_ne R)
   | cons a b=>rfl
  ·have hn:((c.toNat:Int) == 10)=false:=by
    refine beq_eq_false_iff_ne.2 fun h=>h10 (UInt8.toNat_inj.1 ?_)
    have:c.toNat=10:=by omega
    rw [this];rfl
   rw [hn,rzlines.j3,if_neg (by decide),wrap_succ (by omega),lines_l0 s hs R (i+1) fr k out e' (P ++ [c]) hd1 hP1.symm (by omega) hlt (by omega) (by omega) hE'.2]
   cases hq:spl R with
   | nil=>exact absurd hq (spl_ne R)
   | cons a b =>
    have hsp:spl (c :: R)=(c :: a) :: b:=by rw [spl,if_neg h10,hq]
    rw [hsp]
    show some (out ++ (cutB ((P ++ [c]) ++ a) :: b.map cutB))=some (out ++ (cutB (P ++ (c :: a)) :: b.map cutB))
    rw [List.append_assoc]
    rfl
theorem ix59:∀ l:List UInt8,(Lib.indexByte l 59=-1∧l.takeWhile noS=l)∨(0≤Lib.indexByte l 59∧l.take (Lib.indexByte l 59).toNat=l.takeWhile noS)
 | []=>.inl ⟨rfl,rfl⟩
 | c :: l=>by
  by_cases h:c=59
  ·subst h
   exact .inr ⟨by unfold Lib.indexByte;simp,by unfold Lib.indexByte;simp [noS]⟩
  ·have hn:noS c=true:=bne_iff_ne.2 h
   have hge:=Lib.indexByte_ge l 59
   have e:Lib.indexByte (c :: l) 59=if Lib.indexByte l 59=-1 then -1 else Lib.indexByte l 59+1:=by
    rw [Lib.indexByte]
    simp [h]
   rcases ix59 l with ⟨h1,h2⟩ | ⟨h1,h2⟩
   ·refine .inl ⟨by rw [e,if_pos h1],by rw [List.takeWhile_cons_of_pos hn,h2]⟩
   ·refine .inr ⟨by rw [e,if_neg (by omega)];omega,?_⟩
    rw [e,if_neg (by omega),List.takeWhile_cons_of_pos hn,← h2,show (Lib.indexByte l 59+1).toNat=(Lib.indexByte l 59).toNat+1 by omega,List.take_succ_cons]
theorem cutZ_eq (s:ByteArray):cutZ s=cutB s.data.toList:=by
 apply ba_ext
 show (List.toArray _).toList=(bS _).data.toList
 rw [toS]
 show (Lib.cut s.data.toList [59]).1=_
 have h1:Lib.index s.data.toList [59]=Lib.indexByte s.data.toList 59:=by
  have:=Lib.one s ⟨#[59]⟩ rfl
  exact this
 unfold Lib.cut
 rw [h1]
 rcases ix59 s.data.toList with ⟨h2,h3⟩ | ⟨h2,h3⟩
 ·rw [if_neg (by omega),h3]
 ·rw [if_pos h2,← h3]
theorem lines_f (s:ByteArray) (hs:s.size≤1000000) (k:Nat) (hk:4 * s.size+8≤k):rzlines.f k s=some ((pieces s).map cutZ):=by
 have h:=lines_l0 s hs s.data.toList 0 0 k [] (-1) [] (List.drop_zero) rfl (Nat.le_refl _) (Nat.zero_le _) (by rw [sz_list];exact hk) (by rw [sz_list];show 0+s.size+1 < _;omega) (.inl ⟨rfl,fun x hx=>absurd hx List.not_mem_nil⟩)
 unfold rzlines.f
 rw [show (0:Int)=((0:Nat):Int) from rfl]
 rw [h]
 have e:glue [] (spl s.data.toList)=(spl s.data.toList).map cutB:=by
  cases spl s.data.toList <;> rfl
 rw [e,← pieces_spl s.size s (Nat.le_refl _),List.map_map]
 show some (List.map (cutB ∘ fun x:ByteArray=>x.data.toList) (pieces s))=some (List.map cutZ (pieces s))
 congr 1
 apply List.map_congr_left
 intro x _
 exact (cutZ_eq x).symm
end Go.Proofs.YtffojmgmpfjlhaaGreatDoor.Q
namespace Go.Proofs.YtffojmgmpfjlhaaGreatDoor.Q
open Go.Proofs.Ix hiding rd
open Go Go.Proofs.YtffojmgmpfjlhaaGreatDoor Go.RowKit Go.Proofs.YtffojmgmpfjlhaaGreatDoorW.PrintWords Go.Proofs.YtffojmgmpfjlhaaGreatDoorW.PrintLast Go.Proofs.YtffojmgmpfjlhaaGreatDoorW.PrintMore
theorem rzrow.calls (k:Nat) (s:ByteArray) (r1:ByteArray) (r2 r3:Bool) (r4 r5 r6 r7:Int) (r8:ByteArray) (r9 r10:Bool) (w:World) (h:rzrow.f k s=some (r1,r2,r3,r4,r5,r6,r7,r8,r9,r10)) :
  Calls Tryz.prog 77 #[.string s] w fun e w'=>e=.returned (.agg (c10 r1 r2 r3 r4 r5 r6 r7 r8 r9 r10))∧Below w.heap.size w w':=by
 have hu132:=Tryz.underlying132
 have hu23:=Tryz.underlying23
 unfold rzrow.f at h
 obtain ⟨⟨b1,b2,b3,b4,b5,b6⟩,A1,h⟩:=bas_ h
 dsimp only at h
 obtain ⟨⟨n0,n1,n2,n3,n4,n5,n6⟩,A2,h⟩:=bas_ h
 dsimp only at h
 have H:=Aside0.mk h
 clear h
 go_enter Tryz.func77,Tryz.ntmps77
 go_upto_region 3 with fail
 obtain ⟨o,ho⟩:∃ o,w.heap.size=o:=⟨_,rfl⟩
 obtain ⟨x,hx⟩:∃ x,w.heap.size+1=x:=⟨_,rfl⟩
 obtain ⟨g,hg⟩:∃ g,w.heap.size+1+1=g:=⟨_,rfl⟩
 obtain ⟨W,hW⟩:∃ W,((w.alloc (.cells #[.string ⟨#[]⟩,.bool false,.bool false,.int .i64 0,.int .i64 0,.int .i64 0,.int .i64 0,.string ⟨#[]⟩,.bool false,.bool false] 132)).alloc (.cells #[.string ⟨#[]⟩,.bool false,.bool false,.int .i64 0,.int .i64 0,.int .i64 0,.int .i64 0,.string ⟨#[]⟩,.bool false,.bool false] 132)).alloc (.cells #[.string s,.int .i64 0,.bool false,.bool false,.bool true,.string ⟨#[]⟩] 117)=W:=⟨_,rfl⟩
 have HS:Aside0 (RowSt w w W o x g (c10 ⟨#[]⟩ false false 0 0 0 0 ⟨#[]⟩ false false) s 0 false false true ⟨#[]⟩):=by
  have e0:=blk_new w (.cells #[.string ⟨#[]⟩,.bool false,.bool false,.int .i64 0,.int .i64 0,.int .i64 0,.int .i64 0,.string ⟨#[]⟩,.bool false,.bool false] 132)
  have e1:=blk_new (w.alloc (.cells #[.string ⟨#[]⟩,.bool false,.bool false,.int .i64 0,.int .i64 0,.int .i64 0,.int .i64 0,.string ⟨#[]⟩,.bool false,.bool false] 132)) (.cells #[.string ⟨#[]⟩,.bool false,.bool false,.int .i64 0,.int .i64 0,.int .i64 0,.int .i64 0,.string ⟨#[]⟩,.bool false,.bool false] 132)
  have B1:Below w.heap.size w (w.alloc (.cells #[.string ⟨#[]⟩,.bool false,.bool false,.int .i64 0,.int .i64 0,.int .i64 0,.int .i64 0,.string ⟨#[]⟩,.bool false,.bool false] 132)):=below_alloc (Below.refl _ _) _
  have B2:=below_alloc B1 (.cells #[.string ⟨#[]⟩,.bool false,.bool false,.int .i64 0,.int .i64 0,.int .i64 0,.int .i64 0,.string ⟨#[]⟩,.bool false,.bool false] 132)
  have hi:=IsS117.new w _ s 0 false false true ⟨#[]⟩ B2
  rw [World.size_alloc,World.size_alloc,hg] at hi
  rw [World.size_alloc,hx] at e1
  rw [ho] at e0
  rw [hW] at hi
  have B3:Below w.heap.size w W:=by rw [← hW];exact below_alloc B2 _
  refine ⟨B3,KeepBut.of_below B3 g none,?_,?_,hi,by omega,by omega,by omega,by omega,by omega,Nat.le_refl _⟩
  ·rw [← hW];exact blk_alloc (blk_alloc e0 _) _
  ·rw [← hW];exact blk_alloc e1 _
 try simp only [hg]
 try simp only [hx]
 try simp only [ho]
 rw [hW]
 clear hW
 have hcg:=HS.out.cg
 have hgo:=HS.out.hb.size
 go_upto_if 13 with (first | (go_at_call 104;refine (rzreader_blanks.calls (hI:=HS.out.hi) (hB:=HS.out.hb) (h:=A1.out)).mono ?_;rintro e w9 ⟨rfl,hi,hb,hk⟩;replace HS:=Aside0.mk (HS.out.meth hi hb hk);have hfx:=HS.out.fx;clear hi hb hk) | (go_at_call 115;refine (rzreader_next.calls (hI:=HS.out.hi) (hB:=HS.out.hb) (h:=A2.out)).mono ?_;rintro e w9 ⟨rfl,hi,hb,hk⟩;replace HS:=Aside0.mk (HS.out.meth hi hb hk);have hfx:=HS.out.fx;clear hi hb hk))
 have h:=H.out
 clear H
 cases n0 with
 | true =>
  rw [if_pos rfl] at h
  obtain ⟨⟨d1,d2,d3,d4,d5,d6,d7,d8,d9,d10,d11,d12,d13,d14,d15,d16⟩,A3,h⟩:=bas_ h
  dsimp only at h
  simp only [Option.some.injEq,Prod.mk.injEq] at h
  obtain ⟨rfl,rfl,rfl,rfl,rfl,rfl,rfl,rfl,rfl,rfl⟩:=h
  go_wp2_with (go_at_call 116;refine (rzdirective.calls (hI:=HS.out.hi) (hB:=HS.out.hb) (h:=A3.out)).mono ?_;rintro e w9 ⟨rfl,hi,hb,hk⟩;replace HS:=Aside0.mk (HS.out.meth hi hb hk);have hfx:=HS.out.fx;clear hi hb hk;have hfo:=HS.out.fo;obtain ⟨z0,z1,z2,z3,z4,z5,z6,z7,z8,z9⟩:=c10_at HS.out.bo)
  obtain ⟨y1,y2,y3,y4⟩:=HS.out.fin (.string d1) (.bool d2) (.bool d3) (.int .i64 d4) (.int .i64 d5) (.int .i64 d6) (.int .i64 d7) (.string d8) (.bool d9) (.bool d10)
  refine bodyPost_ret (results_cell_row rfl _ _ o 132 _ (0,0) _ rfl y1 Tryz.underlying132 rfl (by kernel_rfl)) rfl ?_
  exact ⟨rfl,y2⟩
 | false =>
  rw [if_neg (by decide)] at h
  obtain ⟨⟨v0,v1,v2,v3,v4,v5,v6⟩,A3,h⟩:=bas_ h
  dsimp only at h
  obtain ⟨⟨c1,c2,c3,c4,c5,c6⟩,A4,h⟩:=bas_ h
  dsimp only at h
  obtain ⟨⟨m0,m1,m2,m3,m4,m5,m6⟩,A5,h⟩:=bas_ h
  dsimp only at h
  have H:=Aside0.mk h
  clear h
  obtain ⟨q0,q1,q2,q3,q5⟩:=HS.out.cg
  go_upto_if 25 with (first | (go_at_call 104;refine (rzreader_blanks.calls (hI:=HS.out.hi) (hB:=HS.out.hb) (h:=A4.out)).mono ?_;rintro e w9 ⟨rfl,hi,hb,hk⟩;replace HS:=Aside0.mk (HS.out.meth hi hb hk);have hfx:=HS.out.fx;clear hi hb hk) | (go_at_call 115;refine (rzreader_next.calls (hI:=HS.out.hi) (hB:=HS.out.hb) (h:=A5.out)).mono ?_;rintro e w9 ⟨rfl,hi,hb,hk⟩;replace HS:=Aside0.mk (HS.out.meth hi hb hk);have hfx:=HS.out.fx;clear hi hb hk) | (go_at_call 106;refine (rzreader_word.calls (hI:=HS.out.hi) (hB:=HS.out.hb) (h:=A3.out)).mono ?_;rintro e w9 ⟨rfl,hi,hb,hk⟩;replace HS:=Aside0.mk (HS.out.meth hi hb hk);have hfx:=HS.out.fx;clear hi hb hk))
  clear q0 q1 q2 q3 q5
  go_cut [] (fun wc=>∃ (lab:ByteArray) (bad:Bool) (s2:ByteArray) (i2:Int) (b2 f2 t2:Bool) (l2:ByteArray),Aside0 (rrest k lab bad s2 i2 b2 f2 t2 l2=some (r1,r2,r3,r4,r5,r6,r7,r8,r9,r10))∧Aside0 (RowSt w w wc o x g (c10 lab false false 0 0 0 0 ⟨#[]⟩ false bad) s2 i2 b2 f2 t2 l2))
  case first =>
   have h:=H.out
   clear H
   cases m0 with
   | true =>
    rw [if_pos rfl] at h
    obtain ⟨nm,A6,h⟩:=bas_ h
    obtain ⟨⟨e1,e2,e3,e4,e5,e6⟩,A7,h⟩:=bas_ h
    dsimp only at h
    have H:=Aside0.mk h
    clear h
    have hx0:=(c10_at HS.out.bx).1
    go_upto_region 11 with fail
    have hS:=HS.out.put 0 (.string v0) (cs':=c10 v0 false false 0 0 0 0 ⟨#[]⟩ false false) rfl
    replace HS:=Aside0.mk hS
    clear hS
    generalize World.setCell _ _ _=W4 at HS ⊢
    have hfx:=HS.out.fx
    go_upto_region 12 with (go_at_call 117;refine (rzIsName.calls k v0 nm _ A6.out).mono ?_;rintro e w9 ⟨rfl,hd⟩;replace HS:=Aside0.mk (HS.out.drawn hd);clear hd;have hfx:=HS.out.fx;have hx9:=(c10_at HS.out.bx).2.2.2.2.2.2.2.2.2)
    have hS:=HS.out.put 9 (.bool (!nm)) (cs':=c10 v0 false false 0 0 0 0 ⟨#[]⟩ false (!nm)) rfl
    replace HS:=Aside0.mk hS
    clear hS
    generalize World.setCell _ _ _=W5 at HS ⊢
    go_wp2_with (go_at_call 104;refine (rzreader_blanks.calls (hI:=HS.out.hi) (hB:=HS.out.hb) (h:=A7.out)).mono ?_;rintro e w9 ⟨rfl,hi,hb,hk⟩;replace HS:=Aside0.mk (HS.out.meth hi hb hk);have hfx:=HS.out.fx;clear hi hb hk)
    go_meet
    case rel=>exact ⟨_,_,_,_,_,_,_,_,H,HS⟩
   | false =>
    rw [if_neg (by decide)] at h
    have H:=Aside0.mk h
    clear h
    have hfg:∀ j,World.frozen? _ ⟨g,j,none⟩=false:=fun j=>blk_frozen HS.out.hi.1 j
    obtain ⟨q0,q1,q2,q3,q5⟩:=HS.out.cg
    go_wp2
    go_meet
    case rel=>exact ⟨_,_,_,_,_,_,_,_,H,⟨HS.out.setAt _⟩⟩
  case rest =>
   clear H A3 A4 A5
   obtain ⟨lab,bad,s2,i2,b2,f2,t2,l2,H,HS⟩:=hcut
   have h:=H.out
   clear H
   unfold rrest at h
   obtain ⟨q0,q1,q2,q3,q5⟩:=HS.out.cg
   by_cases c:i2=(s2.size:Int)
   ·rw [if_pos c] at h
    simp only [Option.some.injEq,Prod.mk.injEq] at h
    obtain ⟨rfl,rfl,rfl,rfl,rfl,rfl,rfl,rfl,rfl,rfl⟩:=h
    have c0:(i2 == (s2.size:Int))=true:=beq_iff_eq.mpr c
    go_upto_region 14 with fail
    go_quiet (fail)
    replace HS:=Aside0.mk (HS.out.drewN nq)
    generalize World.drewN _ nq=W6 at HS ⊢
    have hfo:=HS.out.fo
    obtain ⟨z0,z1,z2,z3,z4,z5,z6,z7,z8,z9⟩:=c10_at HS.out.bo
    obtain ⟨p0,p1,p2,p3,p4,p5,p6,p7,p8,p9⟩:=c10_at HS.out.bx
    go_wp2
    obtain ⟨y1,y2,y3,y4⟩:=HS.out.fin (.string lab) (.bool false) (.bool false) (.int .i64 0) (.int .i64 0) (.int .i64 0) (.int .i64 0) (.string ⟨#[]⟩) (.bool false) (.bool bad)
    refine bodyPost_ret (results_cell_row rfl _ _ o 132 _ (0,0) _ rfl y1 Tryz.underlying132 rfl (by kernel_rfl)) rfl ?_
    exact ⟨rfl,y2⟩
   ·rw [if_neg c] at h
    obtain ⟨⟨x1,x2,x3,x4,x5,x6,x7,x8,x9,x10⟩,A8,h⟩:=bas_ h
    dsimp only at h
    simp only [Option.some.injEq,Prod.mk.injEq] at h
    obtain ⟨rfl,rfl,rfl,rfl,rfl,rfl,rfl,rfl,rfl,rfl⟩:=h
    have c0:(i2 == (s2.size:Int))=false:=beq_eq_false_iff_ne.mpr c
    go_upto_region 14 with fail
    go_quiet (fail)
    replace HS:=Aside0.mk (HS.out.drewN nq)
    generalize World.drewN _ nq=W6 at HS ⊢
    clear q0 q1 q2 q3 q5
    have hfx:=HS.out.fx
    have hx2:=(c10_at HS.out.bx).2.2.1
    go_upto_region 17 with fail
    have hS:=HS.out.put 2 (.bool true) (cs':=c10 lab false true 0 0 0 0 ⟨#[]⟩ false bad) rfl
    replace HS:=Aside0.mk hS
    clear hS hx2
    generalize World.setCell _ _ _=W7 at HS ⊢
    go_upto_region 18 with (go_at_call 70;refine (rzreader_line.calls (hI:=HS.out.hi) (hB:=HS.out.hb) (h:=A8.out)).mono ?_;rintro e w9 ⟨rfl,hi,hb,hk⟩;replace HS:=Aside0.mk (HS.out.meth hi hb hk);have hfx:=HS.out.fx;clear hi hb hk;have hx3:=(c10_at HS.out.bx).2.2.2.1;have hx4:=(c10_at HS.out.bx).2.2.2.2.1;have hx5:=(c10_at HS.out.bx).2.2.2.2.2.1;have hx6:=(c10_at HS.out.bx).2.2.2.2.2.2.1)
    replace HS:=Aside0.mk (((((HS.out.put 3 (.int .i64 x1) (cs':=c10 lab false true x1 0 0 0 ⟨#[]⟩ false bad) rfl).put 4 (.int .i64 x2) (cs':=c10 lab false true x1 x2 0 0 ⟨#[]⟩ false bad) rfl).put 5 (.int .i64 x3) (cs':=c10 lab false true x1 x2 x3 0 ⟨#[]⟩ false bad) rfl).put 6 (.int .i64 x4) (cs':=c10 lab false true x1 x2 x3 x4 ⟨#[]⟩ false bad) rfl))
    generalize World.setCell _ _ _=W8 at HS ⊢
    have hfx:=HS.out.fx
    have hx7:=(c10_at HS.out.bx).2.2.2.2.2.2.2.1
    obtain ⟨q0,q1,q2,q3,q5⟩:=HS.out.cg
    go_upto_region 19 with fail
    replace HS:=Aside0.mk (HS.out.put 7 (.string x10) (cs':=c10 lab false true x1 x2 x3 x4 x10 false bad) rfl)
    generalize World.setCell _ _ _=W9 at HS ⊢
    clear q0 q1 q2 q3 q5 hx7
    have hfx:=HS.out.fx
    have hx8:=(c10_at HS.out.bx).2.2.2.2.2.2.2.2.1
    obtain ⟨q0,q1,q2,q3,q5⟩:=HS.out.cg
    go_upto_region 20 with fail
    replace HS:=Aside0.mk (HS.out.put 8 (.bool x8) (cs':=c10 lab false true x1 x2 x3 x4 x10 x8 bad) rfl)
    generalize World.setCell _ _ _=W10 at HS ⊢
    clear q0 q1 q2 q3 q5 hx8
    have hfx:=HS.out.fx
    have hx9:=(c10_at HS.out.bx).2.2.2.2.2.2.2.2.2
    obtain ⟨q0,q1,q2,q3,q5⟩:=HS.out.cg
    cases bad with
    | true =>
     go_upto_region 21 with fail
     replace HS:=Aside0.mk (HS.out.put 9 (.bool true) (cs':=c10 lab false true x1 x2 x3 x4 x10 x8 true) rfl)
     generalize World.setCell _ _ _=W11 at HS ⊢
     clear q0 q1 q2 q3 q5 hx9 hfx
     have hfo:=HS.out.fo
     obtain ⟨z0,z1,z2,z3,z4,z5,z6,z7,z8,z9⟩:=c10_at HS.out.bo
     obtain ⟨p0,p1,p2,p3,p4,p5,p6,p7,p8,p9⟩:=c10_at HS.out.bx
     go_wp2
     obtain ⟨y1,y2,y3,y4⟩:=HS.out.fin (.string lab) (.bool false) (.bool true) (.int .i64 x1) (.int .i64 x2) (.int .i64 x3) (.int .i64 x4) (.string x10) (.bool x8) (.bool true)
     refine bodyPost_ret (results_cell_row rfl _ _ o 132 _ (0,0) _ rfl y1 Tryz.underlying132 rfl (by kernel_rfl)) rfl ?_
     exact ⟨rfl,y2⟩
    | false =>
     go_upto_region 21 with fail
     replace HS:=Aside0.mk (HS.out.put 9 (.bool x7) (cs':=c10 lab false true x1 x2 x3 x4 x10 x8 x7) rfl)
     generalize World.setCell _ _ _=W11 at HS ⊢
     clear q0 q1 q2 q3 q5 hx9 hfx
     have hfo:=HS.out.fo
     obtain ⟨z0,z1,z2,z3,z4,z5,z6,z7,z8,z9⟩:=c10_at HS.out.bo
     obtain ⟨p0,p1,p2,p3,p4,p5,p6,p7,p8,p9⟩:=c10_at HS.out.bx
     go_wp2
     obtain ⟨y1,y2,y3,y4⟩:=HS.out.fin (.string lab) (.bool false) (.bool true) (.int .i64 x1) (.int .i64 x2) (.int .i64 x3) (.int .i64 x4) (.string x10) (.bool x8) (.bool x7)
     refine bodyPost_ret (results_cell_row rfl _ _ o 132 _ (0,0) _ rfl y1 Tryz.underlying132 rfl (by kernel_rfl)) rfl ?_
     exact ⟨rfl,y2⟩
theorem info132r:(Tryz.prog.info? 132).map (fun i=>(i.zero,i.size,i.bytes))=some (some (.agg #[.string ⟨#[]⟩,.bool false,.bool false,.int .i64 0,.int .i64 0,.int .i64 0,.int .i64 0,.string ⟨#[]⟩,.bool false,.bool false]),10,80):=by kernel_rfl
structure AsSt (w W:World) (G:Nat) (vL vR vF:Value) (L:List ByteArray) (R:List Rw) (F:List Int):Prop where
 hb:Below w.heap.size w W
 bg:W.heap[G]?=some (.cells #[.slice none 0 0,.slice none 0 0,.int .i64 0,.int .i64 0] 51 (0,0))
 rl:Kd.R Kd.string 9 W w.heap.size (fun _=>True) vL L
 rr:Kd.R k132 132 W w.heap.size (fun _=>True) vR (R.map Rw.s)
 rf:Kd.R (Kd.int .i64) 2 W w.heap.size (fun _=>True) vF F
 gg:w.heap.size≤G
section
variable {w W W' w1:World} {G P:Nat} {vL vR vF v1:Value} {L:List ByteArray} {R:List Rw} {F:List Int} {r:Rw} {cs:Array Value}
theorem AsSt.below (h:AsSt w W G vL vR vF L R F) (hb:Below W.heap.size W W'):AsSt w W' G vL vR vF L R F :=
 ⟨below_step h.hb hb,blk_below h.bg hb,Kd.R_below h.rl hb,Kd.R_below h.rr hb,Kd.R_below h.rf hb,h.gg⟩
theorem AsSt.fin (h:AsSt w W G vL vR vF L R F) (v0 v2 v3 v4:Value):((((W.setCell ⟨G,0,none⟩ v0).setCell ⟨G,1,none⟩ v2).setCell ⟨G,2,none⟩ v3).setCell ⟨G,3,none⟩ v4).heap[G]?=some (.cells #[v0,v2,v3,v4] 51 (0,0))∧Below w.heap.size w ((((W.setCell ⟨G,0,none⟩ v0).setCell ⟨G,1,none⟩ v2).setCell ⟨G,2,none⟩ v3).setCell ⟨G,3,none⟩ v4):=by
 refine ⟨?_,below_set (below_set (below_set (below_set h.hb h.gg) h.gg) h.gg) h.gg⟩
 have h1:=blk_set (blk_set (blk_set (blk_set h.bg 0 v0) 1 v2) 2 v3) 3 v4
 simp only [List.setIfInBounds_toArray,List.set_cons_zero,List.set_cons_succ] at h1
 exact h1
theorem AsSt.row (h:AsSt w W G vL vR vF L R F) (ho:Kd.R k132 132 w1 w.heap.size (fun _=>True) v1 (R.map Rw.s ++ [r.s])) (hb:Below w.heap.size w w1) (hg:W.grownBy w1 vR.ownBlock):AsSt w w1 G vL v1 vF L (R ++ [r]) F :=
 ⟨hb,blk_grown h.bg hg (Kd.R_ne h.rr h.bg (by decide)),Kd.R_over' h.rl (Kd.R_typed h.rr) (by decide) hg,by rw [List.map_append];exact ho,Kd.R_over' h.rf (Kd.R_typed h.rr) (by decide) hg,h.gg⟩
theorem AsSt.addr (h:AsSt w W G vL vR vF L R F) {n:Int} (ho:Kd.R (Kd.int .i64) 2 w1 w.heap.size (fun _=>True) v1 (F ++ [n])) (hb:Below w.heap.size w w1) (hg:W.grownBy w1 vF.ownBlock):AsSt w w1 G vL vR v1 L R (F ++ [n]) :=
 ⟨hb,blk_grown h.bg hg (Kd.R_ne h.rf h.bg (by decide)),Kd.R_over' h.rl (Kd.R_typed h.rf) (by decide) hg,Kd.R_over' h.rr (Kd.R_typed h.rf) (by decide) hg,ho,h.gg⟩
theorem AsSt.b_row (h:AsSt w W G vL vR vF L R F) (hp:W.heap[P]?=some (.cells cs 132 (0,0))) (hP:∀ k,vR.ownBlock=some k→k < P) (hg:W.grownBy w1 vR.ownBlock):w1.heap[P]?=some (.cells cs 132 (0,0)):=blk_grown hp hg fun e=>Nat.lt_irrefl _ (hP P e.symm)
theorem AsSt.b_addr (h:AsSt w W G vL vR vF L R F) (hp:W.heap[P]?=some (.cells cs 132 (0,0))) (hg:W.grownBy w1 vF.ownBlock):w1.heap[P]?=some (.cells cs 132 (0,0)):=blk_grown hp hg (Kd.R_ne h.rf hp (by decide))
end
theorem rw_mkM (w:World) (base:Nat) (ok:Nat→Prop) (r:Rw):k132.M w base ok r.s [.string r.lab,.bool r.fn,.bool r.is,.int .i64 r.op,.int .i64 r.a,.int .i64 r.b,.int .i64 r.v,.string r.to_,.bool r.far,.bool r.bad]:=k132_mkM w base ok r.s
theorem rsq_ {α:Sort _} {a b:α} (h:a=b:=by first | rfl | (simp;done) | (simp [*];done)):a=b:=h
theorem inv0:Inv [] z00:=⟨rfl,rfl,rfl,fun x h=>absurd h List.not_mem_nil,fun x h=>absurd h List.not_mem_nil,by decide,by decide⟩
theorem row_named (s:ByteArray) (hs:s.size≤1000000) (hb:(rowP s).bad=false) (hi:(rowP s).is=true):nameM (rowP s).op≠[]:=by
 obtain ⟨_,_,hz⟩:=rowP_any s hs
 obtain ⟨_,hf,_,h4⟩:=(hz z00 0).2 hb
 have hn:(rowP s).fn=false:=by
  cases h:(rowP s).fn with
  | false=>rfl
  | true=>rw [(hf h).1] at hi;cases hi
 obtain ⟨_,_,_,_,_,_,_,h,_⟩:=h4 hn hi
 exact h
def asE (at_:Int) (R:Except (Nat × Int) Az):List Int × List S61 × Int × Int:=asmFin at_ (asmR R)
theorem asE_ok {at_:Int} {X:List It} {z:Az} (h:Inv X z):asE at_ (.ok z)=emO at_ z.size X (codeZ (labI X) (enL 0 X) []):=by
 unfold asE asmR emO asmFin
 simp only
 rw [h.labels,h.list]
 cases codeZ (labI X) (enL 0 X) [] with
 | error p=>rfl
 | ok l =>
  simp only
  rw [h.labels,h.funcs,(symI_eq (labI X) z.size at_ X h.good h.look).1]
theorem rassemble_any (text:ByteArray) (at_:Int) (w:World):Calls Tryz.prog 29 #[.string text,.int .i64 at_] w (EmPost w (asmOut text at_)):=by
 have hu51:=Tryz.underlying51
 have hu132:=Tryz.underlying132
 have hu23:=Tryz.underlying23
 obtain ⟨G,hG⟩:∃ G,w.heap.size=G:=⟨_,rfl⟩
 obtain ⟨W,hW⟩:∃ W,w.alloc (.cells #[.slice none 0 0,.slice none 0 0,.int .i64 0,.int .i64 0] 51)=W:=⟨_,rfl⟩
 have HA:Aside0 (AsSt w W G (.slice none 0 0) (.slice none 0 0) (.slice none 0 0) [] [] []):=⟨⟨by rw [← hW];exact below_alloc (Below.refl _ _) _,by rw [← hW,← hG];exact blk_new w _,Kd.R_nil _ _ _ _ _,Kd.R_nil _ _ _ _ _,Kd.R_nil _ _ _ _ _,by omega⟩⟩
 unfold asmOut
 go_enter Tryz.func29,Tryz.ntmps29
 go_upto_region 1 with fail
 try rw [hW]
 try simp only [hG]
 clear hW hG
 by_cases hlong:20000 < text.size
 ·rw [if_pos hlong]
  have h1:(20000:Int) < (text.size:Int):=by omega
  obtain ⟨y1,y2⟩:=HA.out.fin (.slice none 0 0) (.slice none 0 0) (.int .i64 0) (.int .i64 2)
  have hfo:∀ j,World.frozen? _ ⟨G,j,none⟩=false:=fun j=>blk_frozen HA.out.bg j
  obtain ⟨q0,q1,q2,q3⟩:=c4_at HA.out.bg
  go_wp2
  refine bodyPost_ret (results_cell_row rfl _ _ G 51 _ (0,0) _ rfl y1 Tryz.underlying51 rfl (by kernel_rfl)) rfl ?_
  exact ⟨_,_,rfl,Kd.R_nil _ _ _ _ _,Kd.R_nil _ _ _ _ _,y2⟩
 rw [if_neg hlong]
 have h1:¬ (20000:Int) < (text.size:Int):=by omega
 by_cases ha:at_ < 0
 ·rw [if_pos (.inl ha)]
  obtain ⟨y1,y2⟩:=HA.out.fin (.slice none 0 0) (.slice none 0 0) (.int .i64 0) (.int .i64 1)
  have hfo:∀ j,World.frozen? _ ⟨G,j,none⟩=false:=fun j=>blk_frozen HA.out.bg j
  obtain ⟨q0,q1,q2,q3⟩:=c4_at HA.out.bg
  go_wp2
  refine bodyPost_ret (results_cell_row rfl _ _ G 51 _ (0,0) _ rfl y1 Tryz.underlying51 rfl (by kernel_rfl)) rfl ?_
  exact ⟨_,_,rfl,Kd.R_nil _ _ _ _ _,Kd.R_nil _ _ _ _ _,y2⟩
 by_cases hb:1099511627776 < at_
 ·rw [if_pos (.inr hb)]
  obtain ⟨y1,y2⟩:=HA.out.fin (.slice none 0 0) (.slice none 0 0) (.int .i64 0) (.int .i64 1)
  have hfo:∀ j,World.frozen? _ ⟨G,j,none⟩=false:=fun j=>blk_frozen HA.out.bg j
  obtain ⟨q0,q1,q2,q3⟩:=c4_at HA.out.bg
  go_wp2
  refine bodyPost_ret (results_cell_row rfl _ _ G 51 _ (0,0) _ rfl y1 Tryz.underlying51 rfl (by kernel_rfl)) rfl ?_
  exact ⟨_,_,rfl,Kd.R_nil _ _ _ _ _,Kd.R_nil _ _ _ _ _,y2⟩
 rw [if_neg (by omega)]
 have hl:=lines_f text (by omega) (4 * text.size+8) (Nat.le_refl _)
 obtain ⟨L,hL⟩:∃ L,(pieces text).map cutZ=L:=⟨_,rfl⟩
 have hLs:∀ s∈L,s.size≤20000:=fun s hs=>by
  rw [← hL] at hs
  obtain ⟨p,hp,rfl⟩:=List.mem_map.1 hs
  exact Nat.le_trans (cutZ_size p) (Nat.le_trans (splitB_size nlB _ text p hp) (by omega))
 obtain ⟨n,hn⟩:∃ n,L.length=n:=⟨_,rfl⟩
 have hn1:0 < n∧n≤20001:=by
  rw [← hn,← hL,List.length_map]
  exact ⟨by rw [pieces_len];omega,Nat.le_trans (pieces_le text) (by omega)⟩
 rw [hL] at hl
 have HL:=Aside0.mk hl
 obtain ⟨R,hR⟩:∃ R,rowsZ 1 z00 L=R:=⟨_,rfl⟩
 have hE:asmFin at_ (asmZ text)=asE at_ R:=by
  unfold asmZ asE
  rw [hL,hR]
 have HEQ:=Aside0.mk hE
 have HR0:=Lib.hid (show rowsZ (0+1) z00 (L.drop 0)=R from hR)
 have HLs:=Aside0.mk hLs
 clear hl hE hR hlong hL hLs
 have hsW:=HA.out.hb.size
 go_wp2_with (go_at_call 76;refine (rzlines.calls _ _ _ _ HL.out).mono ?_;rintro e w9 ⟨vL,rfl,hv,hbl⟩)
 obtain ⟨gl,cl,el,_⟩:=Kd.R_form hv (by omega)
 rw [hn] at el
 subst el
 replace HA:=Aside0.mk (HA.out.below hbl)
 replace HA:=Aside0.mk (show AsSt w w9 G (.slice (some ⟨gl,0,none⟩) n cl) (.slice none 0 0) (.slice none 0 0) L [] [] from ⟨HA.out.hb,HA.out.bg,Kd.R_mono (Kd.R_lower hv hsW) (fun _ _=>trivial),HA.out.rr,HA.out.rf,HA.out.gg⟩)
 clear hv hbl h1
 go_loopw [6,7,8,9,10] (fun v6 v7 v8 v9 v10 wr=>∃ (k:Nat) (X:List It) (z:Az),k≤n∧v10=.int .i64 k∧v8=.int .i64 (z.size:Int)∧v9=.int .i64 (z.funcs.length:Int)∧X.length=k∧Aside0 (AsSt w wr G (.slice (some ⟨gl,0,none⟩) n cl) v6 v7 L (X.map It.r) (X.map fun x=>at_+(x.off:Int)))∧Aside0 (Inv X z)∧Hid (rowsZ (k+1) z (L.drop k)=R)) (fun _ _ _ _ i _=>n - (intOf i).toNat)
 case atStart=>exact ⟨0,[],z00,by omega,rfl,rfl,rfl,rfl,HA,⟨inv0⟩,HR0⟩
 case round =>
  obtain ⟨k,X,z,hk,rfl,rfl,rfl,hXk,HA,HI,HP⟩:=hrel
  by_cases hlt:k < n
  ·obtain ⟨s,hs⟩:∃ s,L[k]?=some s:=⟨_,List.getElem?_eq_getElem (by omega)⟩
   have hss:s.size≤20000:=HLs.out s (List.mem_of_getElem? hs)
   have hstep:rowsZ (k+1) z (s :: L.drop (k+1))=R:=by
    have h:=HP.out
    rw [List.drop_eq_getElem_cons (by omega)] at h
    rw [List.getElem?_eq_getElem (by omega)] at hs
    rw [Option.some.inj hs] at h
    exact h
   obtain ⟨st22,st23,st2⟩:=row_step s (by omega) HI.out (k+1) (by omega)
   have hrow:=(rowP_any s (by omega)).1
   have hnm:=row_named s (by omega)
   obtain ⟨r,hr⟩:∃ r,rowP s=r:=⟨_,rfl⟩
   rw [hr] at st22 st23 st2 hrow hnm
   have HROW:=Aside0.mk hrow
   have ST22:=Aside0.mk st22
   have ST23:=Aside0.mk st23
   have ST2:=Aside0.mk st2
   have HNM:=Aside0.mk hnm
   have HSP:=Aside0.mk hstep
   have hz1:=HI.out.size
   have hz2:=HI.out.fs
   clear st22 st23 st2 hrow hnm hstep HP hr
   have c0:=str_at1 HA.out.rl k hlt s hs
   have hl1:((X.map It.r).map Rw.s).length=k:=by rw [List.length_map,List.length_map];exact hXk
   have hl2:(X.map fun x=>at_+(x.off:Int)).length=k:=by rw [List.length_map];exact hXk
   have hw1:IntKind.i64.wrap ((k:Int)+1)=(k:Int)+1:=(i64_w _).trans (wrap_succ (by omega))
   go_upto_region 14 with (go_at_call 77;refine (rzrow.calls _ s _ _ _ _ _ _ _ _ _ _ _ HROW.out).mono ?_;rintro e w9 ⟨rfl,hb9⟩)
   replace HA:=Aside0.mk (HA.out.below hb9)
   obtain ⟨P,hP⟩:∃ P,w9.heap.size=P:=⟨_,rfl⟩
   have hPl:∀ k,u6.ownBlock=some k→k < P:=by rw [← hP];exact Kd.R_lt HA.out.rr
   obtain ⟨W3,hW3⟩:∃ W3,w9.alloc (.cells #[.string r.lab,.bool r.fn,.bool r.is,.int .i64 r.op,.int .i64 r.a,.int .i64 r.b,.int .i64 r.v,.string r.to_,.bool r.far,.bool r.bad] 132)=W3:=⟨_,rfl⟩
   have bp:W3.heap[P]?=some (.cells #[.string r.lab,.bool r.fn,.bool r.is,.int .i64 r.op,.int .i64 r.a,.int .i64 r.b,.int .i64 r.v,.string r.to_,.bool r.far,.bool r.bad] 132 (0,0)):=by rw [← hW3,← hP];exact blk_new w9 _
   replace HA:=Aside0.mk (HA.out.below (show Below w9.heap.size w9 W3 by rw [← hW3];exact below_alloc (Below.refl _ _) _))
   try rw [hW3]
   try simp only [hP]
   clear hW3 hP c0 hb9 HROW
   have BP:=Aside0.mk bp
   obtain ⟨p0,p1,p2,p3,p4,p5,p6,p7,p8,p9⟩:=c10_at bp
   clear bp
   go_upto_region 15 with ((with_reducible refine gate_builtin (b:=.append) (xs:=#[.tmp 36,.tmp 38]) rfl ?_);at_builtin;refine Kd.R_append k132 (w0:=w) w.heap.size rfl (.tmp 36) (.tmp 38) 130 132 (.agg #[.string ⟨#[]⟩,.bool false,.bool false,.int .i64 0,.int .i64 0,.int .i64 0,.int .i64 0,.string ⟨#[]⟩,.bool false,.bool false]) 80 rfl Tryz.underlying130 info132r rfl (by decide) (by omega) u6 ((X.map It.r).map Rw.s) r.s [.string r.lab,.bool r.fn,.bool r.is,.int .i64 r.op,.int .i64 r.a,.int .i64 r.b,.int .i64 r.v,.string r.to_,.bool r.far,.bool r.bad] (fun _=>True) (fun _=>False) rfl (by first | (go_simp;done) | (go_simp;rfl)) (rw_mkM _ _ _ _) (fun _ hk=>hk.elim) (fun _ _=>trivial) HA.out.rr HA.out.hb HA.out.hb.size (by omega) ?_;intro v1 w1 ho1 hb1 hg1 hat1;obtain ⟨AR,mR,cR,rfl⟩:=R_sl ho1;have bq:=HA.out.b_row BP.out hPl hg1;replace HA:=Aside0.mk (HA.out.row ho1 hb1 hg1);replace BP:=Aside0.mk bq;clear bq ho1 hb1 hg1 hat1)
   clear p0 p1 p2 p3 p4 p5 p6 p7 p8 p9
   have hww:IntKind.i64.wrap (at_+(z.size:Int))=at_+z.size:=by rw [i64_w];simp only [wrap64];omega
   go_upto_region 16 with ((with_reducible refine gate_builtin (b:=.append) (xs:=#[.tmp 40,.tmp 44]) rfl ?_);at_builtin;refine Kd.R_append (Kd.int .i64) (w0:=w) w.heap.size rfl (.tmp 40) (.tmp 44) 74 2 (.int .i64 0) 8 rfl Tryz.underlying74 info2 rfl (by decide) (by omega) u7 (X.map fun x=>at_+(x.off:Int)) (at_+(z.size:Int)) [.int .i64 (at_+(z.size:Int))] (fun _=>True) (fun _=>False) rfl (by first | (go_simp;done) | (go_simp;rfl)) rfl (fun _ hk=>hk.elim) (fun _ _=>trivial) HA.out.rf HA.out.hb HA.out.hb.size (by omega) ?_;intro v1 w1 ho1 hb1 hg1 hat1;obtain ⟨AF,mF,cF,rfl⟩:=R_sl ho1;have bq:=HA.out.b_addr BP.out hg1;replace HA:=Aside0.mk (HA.out.addr ho1 hb1 hg1);replace BP:=Aside0.mk bq;clear bq ho1 hb1 hg1 hat1)
   clear hww
   have hl3:((X.map It.r ++ [r]).map Rw.s).length=k+1:=by rw [List.length_map,List.length_append,List.length_map];show X.length+1=_;omega
   have hl4:(X.map It.r ++ [r]).length=k+1:=by rw [← hl3,List.length_map]
   obtain ⟨g0,c0,e0,_⟩:=Kd.R_form HA.out.rr (by omega)
   rw [hl3] at e0
   cases e0
   obtain ⟨-,hcR,hCR⟩:=Kd.R_reads' HA.out.rr
   rw [hl3] at hCR
   have hfind:=rfind_any w1 g0 cR (k+1) k (X.map It.r ++ [r]) hl4 (by omega) (by omega) hcR r.lab hCR
   rw [List.take_left' (by rw [List.length_map];exact hXk)] at hfind
   have HFI:=Aside0.mk hfind
   have hte:r.lab.toList.isEmpty=decide (r.lab.size=0):=by
    rw [toL_eq]
    by_cases c:r.lab.size=0
    ·have:r.lab.data.toList=[]:=List.eq_nil_of_length_eq_zero (by rw [sz_list];exact c)
     rw [this,decide_eq_true c]
     rfl
    ·rw [decide_eq_false c]
     exact List.isEmpty_eq_false_iff.2 fun h=>c (by rw [← sz_list,h];rfl)
   have HT:=Aside0.mk hte
   clear hte hfind hcR hCR hl1 hl2 hl3 hl4
   obtain ⟨p0,p1,p2,p3,p4,p5,p6,p7,p8,p9⟩:=c10_at BP.out
   cases hb:r.bad with
   | true =>
    rw [hb] at p9
    have hR:R=.error (k+1,22):=by rw [← HSP.out];exact rowsZ_err (ST22.out hb)
    subst hR
    obtain ⟨y1,y2⟩:=HA.out.fin (.slice none 0 0) (.slice none 0 0) (.int .i64 ((k:Int)+1)) (.int .i64 22)
    have hfo:∀ j,World.frozen? _ ⟨G,j,none⟩=false:=fun j=>blk_frozen HA.out.bg j
    obtain ⟨q0,q1,q2,q3⟩:=c4_at HA.out.bg
    go_wp2
    refine bodyPost_ret (results_cell_row rfl _ _ G 51 _ (0,0) _ rfl y1 Tryz.underlying51 rfl (by kernel_rfl)) rfl ?_
    show EmPost w (asmFin at_ (asmZ text)) _ _
    rw [HEQ.out]
    exact ⟨_,_,rfl,Kd.R_nil _ _ _ _ _,Kd.R_nil _ _ _ _ _,y2⟩
   | false =>
    rw [hb] at p9
    go_upto_region 18 with fail
    go_cut [61] (fun v wc=>∃ dup:Bool,v=.bool dup∧Aside0 ((dup=true→z.row (k+1) s=.error 23)∧(dup=false→r.lab.size=0∨findR (X.map It.r) r.lab=none))∧Aside0 (AsSt w wc G (.slice (some ⟨gl,0,none⟩) n cl) (.slice (some ⟨g0,0,none⟩) (k+1) cR) (.slice AF mF cF) L (X.map It.r ++ [r]) ((X.map fun x=>at_+(x.off:Int)) ++ [at_+(z.size:Int)]))∧Aside0 (wc.heap[P]?=some (.cells #[.string r.lab,.bool r.fn,.bool r.is,.int .i64 r.op,.int .i64 r.a,.int .i64 r.b,.int .i64 r.v,.string r.to_,.bool r.far,.bool r.bad] 132 (0,0))))
    case first =>
     have hte:=HT.out
     by_cases hz:r.lab.size=0
     ·rw [decide_eq_true hz] at hte
      go_wp2
      go_meet
      case rel=>exact ⟨false,rsq_,⟨⟨(fun h=>by cases h),fun _=>.inl hz⟩⟩,HA,BP⟩
     ·rw [decide_eq_false hz] at hte
      have hfind:=HFI.out
      cases hfd:findR (X.map It.r) r.lab with
      | none =>
       rw [hfd] at hfind
       have hfind:Calls Tryz.prog 78 #[.slice (some ⟨g0,0,none⟩) (k+1) cR,.int .i64 (k:Int),.string r.lab] w1 fun e w'=>e=.returned (.int .i64 (-1))∧Drawn0 w1 w':=hfind
       go_wp2_with ((with_reducible refine gate_callee (f:=78) rfl ?_);refine gate_guard (by rfl) ?_;dsimp only;refine goesL_ (some 59) rfl rfl Tryz.func78 (by kernel_rfl) rfl #[.slice (some ⟨g0,0,none⟩) (k+1) cR,.int .i64 (k:Int),.string r.lab] rfl (by (try simp only [List.map_toArray,List.map_cons,List.map_nil]);first | done | rfl) ?_;refine hfind.mono ?_;rintro e w5 ⟨rfl,hd⟩;refine ⟨_,rfl,?_⟩;(try simp only [Act.put,List.setIfInBounds_toArray,List.set_cons_zero,List.set_cons_succ]);replace HA:=Aside0.mk (HA.out.below hd.below);replace BP:=Aside0.mk (blk_below BP.out hd.below);clear hd)
       go_meet
       case rel=>exact ⟨false,rsq_,⟨⟨(fun h=>by cases h),fun _=>.inr hfd⟩⟩,HA,BP⟩
      | some j =>
       rw [hfd] at hfind
       have hfind:Calls Tryz.prog 78 #[.slice (some ⟨g0,0,none⟩) (k+1) cR,.int .i64 (k:Int),.string r.lab] w1 fun e w'=>e=.returned (.int .i64 (j:Int))∧Drawn0 w1 w':=hfind
       have hj0:(0:Int)≤(j:Int):=by omega
       go_wp2_with ((with_reducible refine gate_callee (f:=78) rfl ?_);refine gate_guard (by rfl) ?_;dsimp only;refine goesL_ (some 59) rfl rfl Tryz.func78 (by kernel_rfl) rfl #[.slice (some ⟨g0,0,none⟩) (k+1) cR,.int .i64 (k:Int),.string r.lab] rfl (by (try simp only [List.map_toArray,List.map_cons,List.map_nil]);first | done | rfl) ?_;refine hfind.mono ?_;rintro e w5 ⟨rfl,hd⟩;refine ⟨_,rfl,?_⟩;(try simp only [Act.put,List.setIfInBounds_toArray,List.set_cons_zero,List.set_cons_succ]);replace HA:=Aside0.mk (HA.out.below hd.below);replace BP:=Aside0.mk (blk_below BP.out hd.below);clear hd)
       go_meet
       case rel=>exact ⟨true,rsq_,⟨⟨fun _=>ST23.out hb hz (by rw [hfd];exact fun h=>by cases h),(fun h=>by cases h)⟩⟩,HA,BP⟩
    case rest =>
     clear p0 p1 p2 p3 p4 p5 p6 p7 p8 p9
     obtain ⟨dup,rfl,D,HA,BP⟩:=hcut
     cases dup with
     | true =>
      have hR:R=.error (k+1,23):=by rw [← HSP.out];exact rowsZ_err (D.out.1 rfl)
      subst hR
      obtain ⟨y1,y2⟩:=HA.out.fin (.slice none 0 0) (.slice none 0 0) (.int .i64 ((k:Int)+1)) (.int .i64 23)
      have hfo:∀ j,World.frozen? _ ⟨G,j,none⟩=false:=fun j=>blk_frozen HA.out.bg j
      obtain ⟨q0,q1,q2,q3⟩:=c4_at HA.out.bg
      go_wp2
      refine bodyPost_ret (results_cell_row rfl _ _ G 51 _ (0,0) _ rfl y1 Tryz.underlying51 rfl (by kernel_rfl)) rfl ?_
      show EmPost w (asmFin at_ (asmZ text)) _ _
      rw [HEQ.out]
      exact ⟨_,_,rfl,Kd.R_nil _ _ _ _ _,Kd.R_nil _ _ _ _ _,y2⟩
     | false =>
      obtain ⟨s2e,s2o⟩:=ST2.out hb (D.out.2 rfl)
      have S2E:=Aside0.mk s2e
      have S2O:=Aside0.mk s2o
      clear s2e s2o
      obtain ⟨p0,p1,p2,p3,p4,p5,p6,p7,p8,p9⟩:=c10_at BP.out
      go_upto_if 66 with fail
      go_cut [8] (fun v wc=>v=.int .i64 (nxN z r:Int)∧Aside0 (AsSt w wc G (.slice (some ⟨gl,0,none⟩) n cl) (.slice (some ⟨g0,0,none⟩) (k+1) cR) (.slice AF mF cF) L (X.map It.r ++ [r]) ((X.map fun x=>at_+(x.off:Int)) ++ [at_+(z.size:Int)]))∧Aside0 (wc.heap[P]?=some (.cells #[.string r.lab,.bool r.fn,.bool r.is,.int .i64 r.op,.int .i64 r.a,.int .i64 r.b,.int .i64 r.v,.string r.to_,.bool r.far,.bool r.bad] 132 (0,0))))
      case first =>
       have hnx:nxN z r=if r.is=true then z.size+lenM (formM r.op) else z.size:=rfl
       have NX:=Aside0.mk hnx
       clear hnx
       cases his:r.is with
       | true =>
        have hln:=lenM_bd (formM r.op)
        obtain ⟨ln,hlnd⟩:∃ ln,lenM (formM r.op)=ln:=⟨_,rfl⟩
        rw [hlnd] at hln
        have HLEN:Aside0 (rzLen.f 12 r.op r.a r.b r.v=some (ln:Int)):=⟨by rw [← hlnd];exact rlen_f _ _ _ _ (HNM.out hb his) 12 (Nat.le_refl _)⟩
        have hww:IntKind.i64.wrap ((z.size:Int)+(ln:Int))=(z.size:Int)+(ln:Int):=by rw [i64_w];simp only [wrap64];omega
        rw [his] at p2
        go_wp2_with (go_at_call 45;refine (rzLen.calls 12 _ _ _ _ _ _ HLEN.out).mono ?_;rintro e w5 ⟨rfl,hb5⟩;replace HA:=Aside0.mk (HA.out.below hb5);replace BP:=Aside0.mk (blk_below BP.out hb5);clear hb5)
        go_meet
        case rel=>exact ⟨by rw [NX.out,if_pos his,hlnd];exact rsq_,HA,BP⟩
       | false =>
        rw [his] at p2
        go_wp2
        go_meet
        case rel=>exact ⟨by rw [NX.out,if_neg (by rw [his];decide)],HA,BP⟩
      case rest =>
       clear p0 p1 p2 p3 p4 p5 p6 p7 p8 p9
       obtain ⟨rfl,HA,BP⟩:=hcut
       obtain ⟨p0,p1,p2,p3,p4,p5,p6,p7,p8,p9⟩:=c10_at BP.out
       go_upto_if 73 with fail
       go_cut [9] (fun v wc=>v=.int .i64 (nxF z r:Int)∧Aside0 (AsSt w wc G (.slice (some ⟨gl,0,none⟩) n cl) (.slice (some ⟨g0,0,none⟩) (k+1) cR) (.slice AF mF cF) L (X.map It.r ++ [r]) ((X.map fun x=>at_+(x.off:Int)) ++ [at_+(z.size:Int)]))∧Aside0 (wc.heap[P]?=some (.cells #[.string r.lab,.bool r.fn,.bool r.is,.int .i64 r.op,.int .i64 r.a,.int .i64 r.b,.int .i64 r.v,.string r.to_,.bool r.far,.bool r.bad] 132 (0,0))))
       case first =>
        have hnx:nxF z r=if r.fn=true then z.funcs.length+1 else z.funcs.length:=rfl
        have NX:=Aside0.mk hnx
        clear hnx
        have hww:IntKind.i64.wrap ((z.funcs.length:Int)+1)=(z.funcs.length:Int)+1:=by rw [i64_w];simp only [wrap64];omega
        cases hfn:r.fn with
        | true =>
         rw [hfn] at p1
         go_wp2
         go_meet
         case rel=>exact ⟨by rw [NX.out,if_pos hfn];exact rsq_,HA,BP⟩
        | false =>
         rw [hfn] at p1
         go_wp2
         go_meet
         case rel=>exact ⟨by rw [NX.out,if_neg (by rw [hfn];decide)],HA,BP⟩
       case rest =>
        clear p0 p1 p2 p3 p4 p5 p6 p7 p8 p9
        obtain ⟨rfl,HA,BP⟩:=hcut
        by_cases hbig:2048 < nxN z r∨32 < nxF z r
        ·have hR:R=.error (k+1,2):=by rw [← HSP.out];exact rowsZ_err (S2E.out hbig)
         subst hR
         have c2:2048 < nxN z r∨¬ 2048 < nxN z r∧32 < nxF z r:=by omega
         clear hbig
         rcases c2 with c2 | ⟨c2,c3⟩
         ·have c4:(2048:Int) < (nxN z r:Int):=by omega
          obtain ⟨y1,y2⟩:=HA.out.fin (.slice none 0 0) (.slice none 0 0) (.int .i64 ((k:Int)+1)) (.int .i64 2)
          have hfo:∀ j,World.frozen? _ ⟨G,j,none⟩=false:=fun j=>blk_frozen HA.out.bg j
          obtain ⟨q0,q1,q2,q3⟩:=c4_at HA.out.bg
          go_wp2
          refine bodyPost_ret (results_cell_row rfl _ _ G 51 _ (0,0) _ rfl y1 Tryz.underlying51 rfl (by kernel_rfl)) rfl ?_
          show EmPost w (asmFin at_ (asmZ text)) _ _
          rw [HEQ.out]
          exact ⟨_,_,rfl,Kd.R_nil _ _ _ _ _,Kd.R_nil _ _ _ _ _,y2⟩
         ·have c4:¬ (2048:Int) < (nxN z r:Int):=by omega
          have c5:(32:Int) < (nxF z r:Int):=by omega
          obtain ⟨y1,y2⟩:=HA.out.fin (.slice none 0 0) (.slice none 0 0) (.int .i64 ((k:Int)+1)) (.int .i64 2)
          have hfo:∀ j,World.frozen? _ ⟨G,j,none⟩=false:=fun j=>blk_frozen HA.out.bg j
          obtain ⟨q0,q1,q2,q3⟩:=c4_at HA.out.bg
          go_wp2
          refine bodyPost_ret (results_cell_row rfl _ _ G 51 _ (0,0) _ rfl y1 Tryz.underlying51 rfl (by kernel_rfl)) rfl ?_
          show EmPost w (asmFin at_ (asmZ text)) _ _
          rw [HEQ.out]
          exact ⟨_,_,rfl,Kd.R_nil _ _ _ _ _,Kd.R_nil _ _ _ _ _,y2⟩
        ·have c4:¬ (2048:Int) < (nxN z r:Int):=by omega
         have c5:¬ (32:Int) < (nxF z r:Int):=by omega
         obtain ⟨l,z',hz',hI,e1,e2⟩:=S2O.out hbig
         have hH:=Lib.hid ((rowsZ_ok hz').symm.trans HSP.out)
         have HI2:=Aside0.mk hI
         clear hbig hI hz'
         go_wp2
         go_roundw
         case rel=>exact ⟨k+1,X ++ [⟨r,z.size,l⟩],z',by omega,by go_num,by rw [e1],by rw [e2],by rw [List.length_append];show X.length+1=_;omega,⟨by rw [List.map_append,List.map_append];exact HA.out⟩,HI2,hH⟩
         case measure=>simp [intOf];omega
  ·have hkn:k=n:=by omega
   have hR:R=.ok z:=by
    have h:=HP.out
    rw [List.drop_of_length_le (by omega)] at h
    exact h.symm
   subst hR
   have hin:=HI.out
   have hz1:=hin.size
   have hww:IntKind.i64.wrap (at_+(z.size:Int))=at_+z.size:=by rw [i64_w];simp only [wrap64];omega
   have hl1:((X.map It.r).map Rw.s).length=n:=by rw [List.length_map,List.length_map];omega
   have hl2:(X.map fun x=>at_+(x.off:Int)).length=n:=by rw [List.length_map];omega
   obtain ⟨g0,c0,e0,_⟩:=Kd.R_form HA.out.rr (by omega)
   obtain ⟨g1,c1,e1,_⟩:=Kd.R_form HA.out.rf (by omega)
   rw [hl1] at e0
   rw [hl2] at e1
   subst e0 e1
   obtain ⟨-,hc0,hC0⟩:=Kd.R_reads' HA.out.rr
   obtain ⟨-,hc1,hC1⟩:=Kd.R_reads' HA.out.rf
   rw [hl1] at hC0
   rw [hl2] at hC1
   have hem:=emit_any wr g0 g1 c0 c1 X at_ z.size n (by omega) hn1.2 (by omega) (by omega) (by omega) hin.good (by rw [← hin.funcs];exact hin.fs) hC0 hc0 hC1 hc1
   obtain ⟨r,hr⟩:∃ r,emO at_ z.size X (codeZ (labI X) (enL 0 X) [])=r:=⟨_,rfl⟩
   rw [hr] at hem
   have HEM:=Aside0.mk hem
   have HEQ2:=Aside0.mk (HEQ.out.trans ((asE_ok hin).trans hr))
   have hws:=HA.out.hb.size
   clear hem hr HI hin hC0 hC1 hc0 hc1 hl1 hl2 HP hXk
   have HAB:=Aside0.mk HA.out.hb
   go_wp2_with (go_at_call 79;refine HEM.out.mono ?_;rintro e w9 ⟨v0,v1,rfl,hr0,hr1,hb9⟩;obtain ⟨A0,m0,c0,rfl⟩:=R_sl hr0;obtain ⟨A1,m1,c1,rfl⟩:=R_sl hr1;replace HA:=Aside0.mk (HA.out.below hb9);have hfo:∀ j,World.frozen? _ ⟨G,j,none⟩=false:=fun j=>blk_frozen HA.out.bg j;obtain ⟨q0,q1,q2,q3⟩:=c4_at HA.out.bg;have HR0:=Aside0.mk hr0;have HR1:=Aside0.mk hr1;clear hr0 hr1 hb9)
   obtain ⟨y1,y2⟩:=HA.out.fin (.slice A0 m0 c0) (.slice A1 m1 c1) (.int .i64 r.2.2.1) (.int .i64 r.2.2.2)
   refine bodyPost_ret (results_cell_row rfl _ _ G 51 _ (0,0) _ rfl y1 Tryz.underlying51 rfl (by kernel_rfl)) rfl ?_
   show EmPost w (asmFin at_ (asmZ text)) _ _
   rw [HEQ2.out]
   exact ⟨_,_,rfl,Kd.R_mono (Kd.R_far (Kd.R_far (Kd.R_far (Kd.R_far (Kd.R_types (Kd.R_lower HR0.out hws) HA.out.bg (by decide)) (fun _ hk=>hk.2) _) (fun _ hk=>hk.2) _) (fun _ hk=>hk.2) _) (fun _ hk=>hk.2) _) (fun _ _=>trivial),Kd.R_mono (Kd.R_far (Kd.R_far (Kd.R_far (Kd.R_far (Kd.R_types (Kd.R_lower HR1.out hws) HA.out.bg (by decide)) (fun _ hk=>hk.2) _) (fun _ hk=>hk.2) _) (fun _ hk=>hk.2) _) (fun _ hk=>hk.2) _) (fun _ _=>trivial),y2⟩
def rzAssemble.f (a0:ByteArray) (a1:Int):Option (List Int × List S61 × Int × Int):=some (asmOut a0 a1)
theorem rzAssemble.calls (a0:ByteArray) (a1:Int) (r1:List Int) (r2:List S61) (r3 r4:Int) (w:World) (h:rzAssemble.f a0 a1=some (r1,r2,r3,r4)) :
  Calls Tryz.prog 29 #[.string a0,.int .i64 a1] w fun e w'=>∃ v0_ v1_:Value,e=.returned (.agg #[v0_,v1_,.int .i64 r3,.int .i64 r4])∧Kd.R (Kd.int .u8) 5 w' w.heap.size (fun _=>True) v0_ r1∧Kd.R k61 61 w' w.heap.size (fun _=>True) v1_ r2∧Below w.heap.size w w':=by
 have h1:asmOut a0 a1=(r1,r2,r3,r4):=Option.some.inj h
 refine (rassemble_any a0 a1 w).mono ?_
 rw [h1]
 rintro e w' h2
 exact h2
end Go.Proofs.YtffojmgmpfjlhaaGreatDoor.Q
