/- Parts of the proof of InsnLists. -/
import Derived.Test.YtffojmgmpfjlhaaGreatDoorInsnListsY2
set_option maxHeartbeats 8000000
set_option maxRecDepth 100000
set_option linter.unusedVariables false
set_option linter.unusedSimpArgs false
namespace Go.Proofs.YtffojmgmpfjlhaaGreatDoor.Q
open Go.Proofs.YtffojmgmpfjlhaaGreatDoor Go.RowKit Go.Proofs.YtffojmgmpfjlhaaGreatDoorW.PrintWords Go.Proofs.YtffojmgmpfjlhaaGreatDoorW.PrintLast Go.Proofs.YtffojmgmpfjlhaaGreatDoorW.PrintMore
attribute [local go_sem] max2_int min2_int max_two min_two max_three min_three max_four min_four
def rzDigits.f:Nat→Int→Option (ByteArray)
 | 0,_=>none
 | k+1,a0=>if a0 < 10 then (some (strOfNums (([(IntKind.u64.wrap (48+a0)) % 256]:List Int)))) else ((rzDigits.f k (IntKind.u64.wrap (Int.tdiv a0 10))).bind fun t405=>((some (([(IntKind.u64.wrap (48+(Int.tmod a0 10))) % 256]:List Int):List Int)).bind fun y406=>(if t405.size+(strOfNums y406).size≤9223372036854775807 then (some (t405 ++ (strOfNums y406))) else (none))))
theorem rzDigits.mono_l:∀ k,(∀ y0,LeO (rzDigits.f k y0) (rzDigits.f (k+1) y0))
 | 0=>fun _ r h=>by simp [rzDigits.f] at h
 | k+1=>by
  have ih0:=rzDigits.mono_l k
  ·intro y0;unfold rzDigits.f;repeat' first | (with_reducible first | exact ih0 _ | exact LeO.refl _ | exact LeO.none _ | refine LeO.ite ?_ ?_ | refine LeO.bind ?_ (fun _=>?_)) | exact LeO.none _ | refine LeO.ite ?_ ?_ | refine LeO.bind ?_ (fun _=>?_)
theorem rzDigits.mono:∀ a0 k,LeO (rzDigits.f k a0) (rzDigits.f (k+1) a0):=by
 intro a0 k;have ih0:=rzDigits.mono_l k;exact ih0 a0
def rzDigits.T3:Bool × List (List Nat × List Nat):=(true,[([],[]),([0],[0]),([1],[1]),([],[]),([3],[3]),([4],[4]),([5],[5]),([6],[6]),([7],[7]),([2,8],[2,8]),([9,2,0,1,2,3,4,5,6,7,8,9],[9])])
def rzDigits.B3:List Nat:=[0,1,3,0,8,24,56,120,248,511,1023]
theorem rzDigits.tab3:rtab .any (opsOf Tryz.f38 3)=rzDigits.T3:=by kernel_rfl
theorem rzDigits.bits3:waitsOk rzDigits.T3.2 rzDigits.B3=true:=by kernel_rfl
theorem rzDigits.calls (k:Nat):∀ (a0:Int) (r:ByteArray) (w:World) (h:rzDigits.f k a0=some r),
  Calls Tryz.prog 38 #[.int .u64 a0] w fun e w'=>e=.returned (.string r)∧Below w.heap.size w w':=by
 induction k using Nat.strongRecOn with
 | _ k ih =>
 intro a0 r w h;cases k with
 | zero=>exact absurd h (by simp [rzDigits.f])
 | succ k =>
 simp only [rzDigits.f] at h;have HB:=Aside0.mk (Below.refl w.heap.size w);have H:(if a0 < 10 then (some (strOfNums (([(IntKind.u64.wrap (48+a0)) % 256]:List Int)))) else ((rzDigits.f k (IntKind.u64.wrap (Int.tdiv a0 10))).bind fun t405=>((some (([(IntKind.u64.wrap (48+(Int.tmod a0 10))) % 256]:List Int):List Int)).bind fun y406=>(if t405.size+(strOfNums y406).size≤9223372036854775807 then (some (t405 ++ (strOfNums y406))) else (none)))))=some r:=h;clear h;by_cases c2:a0 < 10
 ·rw [if_pos c2] at H;have c2b0:=decide_eq_true c2;clear c2;obtain ⟨y402,hy402⟩:∃ y_:List Int,y_=(([(IntKind.u64.wrap (48+a0)) % 256]:List Int)):=⟨_,rfl⟩;replace H:(some (strOfNums y402))=some r:=by first | (rw [hy402];with_reducible exact H) | (have H2_:=(Option.bind_some _ _).symm.trans H;rw [hy402];with_reducible exact H2_) | (have H2_:=(Option.bind_some _ _).symm.trans H;with_reducible exact H2_) | with_reducible exact H | (rw [hy402];exact H) | exact H
  have Ny402:=Aside0.mk hy402;clear hy402;obtain rfl:=Option.some.inj H;go_enter Tryz.func38,Tryz.ntmps38
  go_wp2_with (first | ((with_reducible refine gate_dst (N:=8) rfl ?_);refine Kd.R_lit (Kd.int .u8) _ 5 ?hg (N:=8) ?hd (xs:=([(IntKind.u64.wrap (48+a0)) % 256]:List Int)) (inner:=[.int .u8 ((IntKind.u64.wrap (48+a0)) % 256)]) (ok:=fun _=>True) (okp:=fun _=>True) ?hr ?hp (fun _ hk=>hk) trivial (Below.refl _ _) (Nat.le_refl _) (by simp) ?_;(case hd=>rfl);(case hg=>rfl);(case hr=>first | (go_simp;done) | (go_simp;rfl));(case hp=>exact (Reps.one (show Kd.M (Kd.int .u8) _ _ _ ((IntKind.u64.wrap (48+a0)) % 256) [.int .u8 ((IntKind.u64.wrap (48+a0)) % 256)] from rfl) (Reps.none _ _)));intro v403 w3 ho4 hb hg_ hnew_;clear hg_ hnew_;(first | rw [← Ny402.out] at ho4 | (simp only [Int.reduceToNat] at ho4;rw [← Ny402.out] at ho4));have HO404:=Aside0.mk (Kd.R_lower ho4 (below_size blw));replace HB:=Aside0.mk (below_step blw hb);clear hb ho4;have hcv5:=own_string (P:=Tryz.prog) Tryz.underlying24 Tryz.underlying5 Tryz.underlying9 (Kd.own_of_R HO404.out)))
  go_ret;exact ⟨rew,blw⟩
 ·rw [if_neg c2] at H;have c2b0:=decide_eq_false c2;clear c2;obtain ⟨t405,A6,H⟩:=bas H;(try dsimp only at H);obtain ⟨y406,hy406⟩:∃ y_:List Int,y_=(([(IntKind.u64.wrap (48+(Int.tmod a0 10))) % 256]:List Int)):=⟨_,rfl⟩;replace H:(if t405.size+(strOfNums y406).size≤9223372036854775807 then (some (t405 ++ (strOfNums y406))) else (none))=some r:=by first | (rw [hy406];with_reducible exact H) | (have H2_:=(Option.bind_some _ _).symm.trans H;rw [hy406];with_reducible exact H2_) | (have H2_:=(Option.bind_some _ _).symm.trans H;with_reducible exact H2_) | with_reducible exact H | (rw [hy406];exact H) | exact H
  have Ny406:=Aside0.mk hy406;clear hy406;by_cases c7:t405.size+(strOfNums y406).size≤9223372036854775807
  ·rw [if_pos c7] at H;have c7b0:=eq_true c7;have c7b1:=decide_eq_true c7;try have c7b2:(9223372036854775807 < t405.size+(strOfNums y406).size)=False:=eq_false (Nat.not_lt.2 c7)
   obtain rfl:=Option.some.inj H;go_enter Tryz.func38,Tryz.ntmps38
   try go_wp2
   replace HB:=Aside0.mk (below_drew1 HB.out);refine start_ (n:=11) (S:=fun w'=>True) (ds:=[]) #[zF,zF,zF,zF,zF,zF,zF,zF,zF,zF,zF] (by kernel_rfl) rfl rfl trivial (fun hHeld=>?_);refine with_tabW rzDigits.tab3 rzDigits.bits3 (fun HT_ HW_=>?_);generalize w.drew=w8 at HB hHeld ⊢;refine pqs 0 11 ?_
   refine pqs 1 11 ?_;refine pbs 3 11 11 ?_;refine pbs 4 11 27 ?_;refine pbs 5 11 59 ?_;refine pbs 6 11 123 ?_
   refine join_ (σ:=Value) 2 (fl 11 9) (fun s_=>[(12,.string t405),(17,s_),(18,.string (strOfNums y406))]) (fun s_ w'=>(Kd.R (Kd.int .u8) 5 w' w.heap.size (fun _=>True) s_ y406)∧(Below w.heap.size w w')) ?_ ?_;rotate_left
   ·intro hCont;refine two_ (i:=2) (j:=7) (Ni:=some 12) (Nj:=some 17) (fl 11 7) (fb 11 251) rfl rfl rfl rfl (two_of HT_.out (by kernel_rfl)) (by decide) (by decide) (fun K hK=>?_) (fun K hK=>?_)
    ·skip
     refine goes_ Tryz.func38 (by kernel_rfl) rfl #[.int .u64 (IntKind.u64.wrap (Int.tdiv a0 10))] (by rfl) rfl rfl fq ?_;with_reducible refine (ih k (by omega) (IntKind.u64.wrap (Int.tdiv a0 10)) t405 _ A6.out).mono ?_
     rintro e w9 ⟨rfl,hb⟩;refine ⟨_,rfl,?_⟩;replace HB:=Aside0.mk (below_step blw hb);clear hb;refine hK.out _ _ trivial (fun hHeld=>?_);clear hK K;refine nrmq ?_
     refine one_ (i:=7) (N:=some 17) (fl 11 8) rfl rfl (one_of HT_.out (by kernel_rfl)) (by decide) (fun K hK=>?_);refine Kd.R_lit_step (Kd.int .u8) _ 5 ?hg (N:=17) ?hd (xs:=([(IntKind.u64.wrap (48+(Int.tmod a0 10))) % 256]:List Int)) (inner:=[.int .u8 ((IntKind.u64.wrap (48+(Int.tmod a0 10))) % 256)]) (ok:=fun _=>True) (okp:=fun _=>True) ?hr ?hp (fun _ hk=>hk) trivial (Below.refl _ _) (Nat.le_refl _) (by simp) ?_;(case hd=>rfl);(case hg=>rfl);(case hr=>first | (go_simp;done) | (go_simp;rfl));(case hp=>exact (Reps.one (show Kd.M (Kd.int .u8) _ _ _ ((IntKind.u64.wrap (48+(Int.tmod a0 10))) % 256) [.int .u8 ((IntKind.u64.wrap (48+(Int.tmod a0 10))) % 256)] from rfl) (Reps.none _ _)));intro v407 w10 ho11 hb hg_ hnew_;clear hg_ hnew_;(first | rw [← Ny406.out] at ho11 | (simp only [Int.reduceToNat] at ho11;rw [← Ny406.out] at ho11));have HO408:=Aside0.mk (Kd.R_lower ho11 (below_size blw));replace HB:=Aside0.mk (below_step blw hb);clear hb ho11;refine hK.out _ _ trivial (fun hHeld=>?_);clear hK K;refine nrmq ?_
     refine one_ (i:=8) (N:=some 18) (fl 11 9) rfl rfl (one_of HT_.out (by kernel_rfl)) (by decide) (fun K hK=>?_);have hcv12:=own_string (P:=Tryz.prog) Tryz.underlying24 Tryz.underlying5 Tryz.underlying9 (Kd.own_of_R HO408.out);refine value_ (w1:=?_) (v:=?_) (by rfl) rfl ?_ ?_;rotate_left 2
     ·go_simp;constructor
      ·rfl
      ·rfl
     clear hcv12;refine hK.out _ _ trivial (fun hHeld=>?_);clear hK K;refine nrmq ?_
     exact norm_ (by simp only [putAll,Act.put,List.setIfInBounds_toArray,List.set_cons_zero,List.set_cons_succ]) (hCont (v407) _ ⟨(kRd HO408.out),blw⟩)
    ·skip
     refine Kd.R_lit_step (Kd.int .u8) _ 5 ?hg (N:=17) ?hd (xs:=([(IntKind.u64.wrap (48+(Int.tmod a0 10))) % 256]:List Int)) (inner:=[.int .u8 ((IntKind.u64.wrap (48+(Int.tmod a0 10))) % 256)]) (ok:=fun _=>True) (okp:=fun _=>True) ?hr ?hp (fun _ hk=>hk) trivial (Below.refl _ _) (Nat.le_refl _) (by simp) ?_;(case hd=>rfl);(case hg=>rfl);(case hr=>first | (go_simp;done) | (go_simp;rfl));(case hp=>exact (Reps.one (show Kd.M (Kd.int .u8) _ _ _ ((IntKind.u64.wrap (48+(Int.tmod a0 10))) % 256) [.int .u8 ((IntKind.u64.wrap (48+(Int.tmod a0 10))) % 256)] from rfl) (Reps.none _ _)));intro v407 w9 ho10 hb hg_ hnew_;clear hg_ hnew_;(first | rw [← Ny406.out] at ho10 | (simp only [Int.reduceToNat] at ho10;rw [← Ny406.out] at ho10));have HO408:=Aside0.mk (Kd.R_lower ho10 (below_size blw));replace HB:=Aside0.mk (below_step blw hb);clear hb ho10;refine hK.out _ _ trivial (fun hHeld=>?_);clear hK K;refine nrmq ?_
     refine two_ (i:=2) (j:=8) (Ni:=some 12) (Nj:=some 18) (fl 11 8) (fb 11 507) rfl rfl rfl rfl (two_of HT_.out (by kernel_rfl)) (by decide) (by decide) (fun K hK=>?_) (fun K hK=>?_)
     ·skip
      refine goes_ Tryz.func38 (by kernel_rfl) rfl #[.int .u64 (IntKind.u64.wrap (Int.tdiv a0 10))] (by rfl) rfl rfl fq ?_;with_reducible refine (ih k (by omega) (IntKind.u64.wrap (Int.tdiv a0 10)) t405 _ A6.out).mono ?_
      rintro e w11 ⟨rfl,hb⟩;refine ⟨_,rfl,?_⟩;replace HO408:=Aside0.mk (Kd.R_below (kRd HO408.out) hb);replace HB:=Aside0.mk (below_step blw hb);clear hb;refine hK.out _ _ trivial (fun hHeld=>?_);clear hK K;refine nrmq ?_
      refine one_ (i:=8) (N:=some 18) (fl 11 9) rfl rfl (one_of HT_.out (by kernel_rfl)) (by decide) (fun K hK=>?_);have hcv12:=own_string (P:=Tryz.prog) Tryz.underlying24 Tryz.underlying5 Tryz.underlying9 (Kd.own_of_R HO408.out);refine value_ (w1:=?_) (v:=?_) (by rfl) rfl ?_ ?_;rotate_left 2
      ·go_simp;constructor
       ·rfl
       ·rfl
      clear hcv12;refine hK.out _ _ trivial (fun hHeld=>?_);clear hK K;refine nrmq ?_
      exact norm_ (by simp only [putAll,Act.put,List.setIfInBounds_toArray,List.set_cons_zero,List.set_cons_succ]) (hCont (v407) _ ⟨(kRd HO408.out),blw⟩)
     ·skip
      have hcv11:=own_string (P:=Tryz.prog) Tryz.underlying24 Tryz.underlying5 Tryz.underlying9 (Kd.own_of_R HO408.out);refine value_ (w1:=?_) (v:=?_) (by rfl) rfl ?_ ?_;rotate_left 2
      ·go_simp;constructor
       ·rfl
       ·rfl
      clear hcv11;refine hK.out _ _ trivial (fun hHeld=>?_);clear hK K;refine nrmq ?_
      refine one_ (i:=2) (N:=some 12) (fl 11 9) rfl rfl (one_of HT_.out (by kernel_rfl)) (by decide) (fun K hK=>?_);refine goes_ Tryz.func38 (by kernel_rfl) rfl #[.int .u64 (IntKind.u64.wrap (Int.tdiv a0 10))] (by rfl) rfl rfl fq ?_;with_reducible refine (ih k (by omega) (IntKind.u64.wrap (Int.tdiv a0 10)) t405 _ A6.out).mono ?_
      rintro e w12 ⟨rfl,hb⟩;refine ⟨_,rfl,?_⟩;replace HO408:=Aside0.mk (Kd.R_below (kRd HO408.out) hb);replace HB:=Aside0.mk (below_step blw hb);clear hb;refine hK.out _ _ trivial (fun hHeld=>?_);clear hK K;refine nrmq ?_
      exact norm_ (by simp only [putAll,Act.put,List.setIfInBounds_toArray,List.set_cons_zero,List.set_cons_succ]) (hCont (v407) _ ⟨(kRd HO408.out),blw⟩)
   rintro v407 w13 ⟨h0_,h1_⟩;have n0_:Aside0 (Kd.R (Kd.int .u8) 5 w13 w.heap.size (fun _=>True) v407 y406):=⟨h0_⟩;have n1_:Aside0 (Below w.heap.size w w13):=⟨h1_⟩;clear HB;clear h0_ h1_;have HO408:=n0_;have HB:=n1_;clear n0_ n1_;have hHeld:=trivial;refine norm_ (a':=?_) ?_ ?_;rotate_left
   ·simp only [putAll,Act.put,List.setIfInBounds_toArray,List.set_cons_zero,List.set_cons_succ];rfl
   refine pqs 9 11 ?_;refine pqs 10 11 ?_
   refine done_ (done_of HT_.out (by kernel_rfl)) ?_;try go_wp2
   go_ret;exact ⟨rew,blw⟩
  ·rw [if_neg c7] at H;exact absurd H (by simp)
def rzregister.f (k:Nat) (a0:Int):Option (ByteArray):=(rzDigits.f k (IntKind.u64.wrap (a0))).bind fun t409=>(if 1+t409.size≤9223372036854775807 then (some ((⟨#[114]⟩:zB) ++ t409)) else (none))
theorem rzregister.mono:∀ a0 k,LeO (rzregister.f k a0) (rzregister.f (k+1) a0):=by
 intro a0 k;unfold rzregister.f;repeat' first | (with_reducible first | exact rzDigits.mono _ _ | exact LeO.refl _ | exact LeO.none _ | refine LeO.ite ?_ ?_ | refine LeO.bind ?_ (fun _=>?_)) | exact LeO.none _ | refine LeO.ite ?_ ?_ | refine LeO.bind ?_ (fun _=>?_)
theorem rzregister.calls (k:Nat) (a0:Int) (r:ByteArray) (w:World) (h:rzregister.f k a0=some r) :
  Calls Tryz.prog 64 #[.int .i64 a0] w fun e w'=>e=.returned (.string r)∧Below w.heap.size w w':=by
 have HB:=Aside0.mk (Below.refl w.heap.size w);unfold rzregister.f at h;have H:=h;clear h;obtain ⟨t409,A2,H⟩:=bas H;(try dsimp only at H);by_cases c3:1+t409.size≤9223372036854775807
 ·rw [if_pos c3] at H;have c3b0:=eq_true c3;have c3b1:=decide_eq_true c3;try have c3b2:(9223372036854775807 < 1+t409.size)=False:=eq_false (Nat.not_lt.2 c3)
  obtain rfl:=Option.some.inj H;go_enter Tryz.func64,Tryz.ntmps64
  go_wp2_with (first | ((with_reducible refine gate_callee (f:=38) rfl ?_);refine gl (some 5) Tryz.func38 #[.int .u64 (IntKind.u64.wrap (a0))] ?_;(with_reducible refine (rzDigits.calls k (IntKind.u64.wrap (a0)) t409 _ A2.out).mono ?_);rintro e w4 ⟨rfl,hb⟩;refine ⟨_,rfl,?_⟩;replace HB:=Aside0.mk (below_step blw hb);clear hb))
  go_ret;exact ⟨rew,blw⟩
 ·rw [if_neg c3] at H;exact absurd H (by simp)
def rzsize.f (a0:Int):Option (Int):=if a0 < 0 then (some (IntKind.u64.wrap (-(IntKind.u64.wrap (a0))))) else (some (IntKind.u64.wrap (a0)))
theorem rzsize.calls (a0:Int) (r:Int) (w:World) (h:rzsize.f a0=some r) :
  Calls Tryz.prog 95 #[.int .i64 a0] w fun e w'=>e=.returned (.int .u64 r)∧Drawn0 w w':=by
 unfold rzsize.f at h;have H:=h;clear h;by_cases c2:a0 < 0
 ·rw [if_pos c2] at H;have c2b0:=decide_eq_true c2;clear c2;obtain rfl:=Option.some.inj H;go_enter Tryz.func95,Tryz.ntmps95
  go_wp2;go_ret;exact ⟨by first | rfl | (simp;done) | (simp [*];done),by repeat (first | exact Drawn0.refl _ | apply Drawn0.step)⟩
 ·rw [if_neg c2] at H;have c2b0:=decide_eq_false c2;clear c2;obtain rfl:=Option.some.inj H;go_enter Tryz.func95,Tryz.ntmps95
  go_wp2;go_ret;exact ⟨by first | rfl | (simp;done) | (simp [*];done),by repeat (first | exact Drawn0.refl _ | apply Drawn0.step)⟩
def rzNumber.f (k:Nat) (a0:Int):Option (ByteArray):=if a0 < 0 then ((rzsize.f a0).bind fun t410=>((rzDigits.f k t410).bind fun t411=>(if 1+t411.size≤9223372036854775807 then (some ((⟨#[45]⟩:zB) ++ t411)) else (none)))) else ((rzDigits.f k (IntKind.u64.wrap (a0))).bind fun t412=>(some t412))
theorem rzNumber.mono:∀ a0 k,LeO (rzNumber.f k a0) (rzNumber.f (k+1) a0):=by
 intro a0 k;unfold rzNumber.f;repeat' first | (with_reducible first | exact rzDigits.mono _ _ | exact LeO.refl _ | exact LeO.none _ | refine LeO.ite ?_ ?_ | refine LeO.bind ?_ (fun _=>?_)) | exact LeO.none _ | refine LeO.ite ?_ ?_ | refine LeO.bind ?_ (fun _=>?_)
theorem rzNumber.calls (k:Nat) (a0:Int) (r:ByteArray) (w:World) (h:rzNumber.f k a0=some r) :
  Calls Tryz.prog 65 #[.int .i64 a0] w fun e w'=>e=.returned (.string r)∧Below w.heap.size w w':=by
 have HB:=Aside0.mk (Below.refl w.heap.size w);unfold rzNumber.f at h;have H:=h;clear h;by_cases c2:a0 < 0
 ·rw [if_pos c2] at H;have c2b0:=decide_eq_true c2;clear c2;obtain ⟨t410,A3,H⟩:=bas H;(try dsimp only at H);obtain ⟨t411,A4,H⟩:=bas H;(try dsimp only at H);by_cases c5:1+t411.size≤9223372036854775807
  ·rw [if_pos c5] at H;have c5b0:=eq_true c5;have c5b1:=decide_eq_true c5;try have c5b2:(9223372036854775807 < 1+t411.size)=False:=eq_false (Nat.not_lt.2 c5)
   obtain rfl:=Option.some.inj H;go_enter Tryz.func65,Tryz.ntmps65
   go_wp2_with (first | ((with_reducible refine gate_callee (f:=95) rfl ?_);refine gl (some 6) Tryz.func95 #[.int .i64 a0] ?_;(with_reducible refine (rzsize.calls a0 _ _ A3.out).mono ?_);rintro e w' ⟨rfl,⟨nd,rfl⟩⟩;refine ⟨_,rfl,?_⟩) | ((with_reducible refine gate_callee (f:=38) rfl ?_);refine gl (some 7) Tryz.func38 #[.int .u64 t410] ?_;(with_reducible refine (rzDigits.calls k _ _ _ A4.out).mono ?_);rintro e w6 ⟨rfl,hb⟩;refine ⟨_,rfl,?_⟩;replace HB:=Aside0.mk (below_step blw hb);clear hb))
   go_ret;exact ⟨rew,blw⟩
  ·rw [if_neg c5] at H;exact absurd H (by simp)
 ·rw [if_neg c2] at H;have c2b0:=decide_eq_false c2;clear c2;obtain ⟨t412,A7,H⟩:=bas H;(try dsimp only at H);obtain rfl:=Option.some.inj H;go_enter Tryz.func65,Tryz.ntmps65
  go_wp2_with (first | ((with_reducible refine gate_callee (f:=38) rfl ?_);refine gl (some 11) Tryz.func38 #[.int .u64 (IntKind.u64.wrap (a0))] ?_;(with_reducible refine (rzDigits.calls k (IntKind.u64.wrap (a0)) t412 _ A7.out).mono ?_);rintro e w8 ⟨rfl,hb⟩;refine ⟨_,rfl,?_⟩;replace HB:=Aside0.mk (below_step blw hb);clear hb))
  go_ret;exact ⟨rew,blw⟩
def rzaddress.f (k:Nat) (a0_0:Int) (a0_1:Int) (a0_2:Int) (a0_3:Int):Option (ByteArray):=if a0_3=0 then ((rzregister.f k a0_2).bind fun t414=>(if 1+t414.size≤9223372036854775807 then (if ((⟨#[91]⟩:zB) ++ t414).size+1≤9223372036854775807 then (some (((⟨#[91]⟩:zB) ++ t414) ++ (⟨#[93]⟩:zB))) else (none)) else (none))) else (if a0_3 < 0 then ((rzregister.f k a0_2).bind fun t415=>(if 1+t415.size≤9223372036854775807 then (if ((⟨#[91]⟩:zB) ++ t415).size+1≤9223372036854775807 then ((rzsize.f a0_3).bind fun t416=>((rzDigits.f k t416).bind fun t417=>(if (((⟨#[91]⟩:zB) ++ t415) ++ (⟨#[45]⟩:zB)).size+t417.size≤9223372036854775807 then (if ((((⟨#[91]⟩:zB) ++ t415) ++ (⟨#[45]⟩:zB)) ++ t417).size+1≤9223372036854775807 then (some (((((⟨#[91]⟩:zB) ++ t415) ++ (⟨#[45]⟩:zB)) ++ t417) ++ (⟨#[93]⟩:zB))) else (none)) else (none)))) else (none)) else (none))) else ((rzregister.f k a0_2).bind fun t418=>(if 1+t418.size≤9223372036854775807 then (if ((⟨#[91]⟩:zB) ++ t418).size+1≤9223372036854775807 then ((rzsize.f a0_3).bind fun t419=>((rzDigits.f k t419).bind fun t420=>(if (((⟨#[91]⟩:zB) ++ t418) ++ (⟨#[43]⟩:zB)).size+t420.size≤9223372036854775807 then (if ((((⟨#[91]⟩:zB) ++ t418) ++ (⟨#[43]⟩:zB)) ++ t420).size+1≤9223372036854775807 then (some (((((⟨#[91]⟩:zB) ++ t418) ++ (⟨#[43]⟩:zB)) ++ t420) ++ (⟨#[93]⟩:zB))) else (none)) else (none)))) else (none)) else (none))))
theorem rzaddress.mono:∀ a0 a1 a2 a3 k,LeO (rzaddress.f k a0 a1 a2 a3) (rzaddress.f (k+1) a0 a1 a2 a3):=by
 intro a0 a1 a2 a3 k;unfold rzaddress.f;repeat' first | (with_reducible first | exact rzDigits.mono _ _ | exact rzregister.mono _ _ | exact LeO.refl _ | exact LeO.none _ | refine LeO.ite ?_ ?_ | refine LeO.bind ?_ (fun _=>?_)) | exact LeO.none _ | refine LeO.ite ?_ ?_ | refine LeO.bind ?_ (fun _=>?_)
def rzaddress.T4:Bool × List (List Nat × List Nat):=(true,[([],[]),([0],[0]),([1],[1]),([2],[2]),([3],[3]),([],[]),([5],[5]),([6,2],[6]),([7,7],[7]),([4,8],[4,8]),([9],[9]),([10,8,0,1,2,3,4,5,6,7,8,9,10],[10])])
def rzaddress.B4:List Nat:=[0,1,3,7,15,0,32,103,231,511,1023,2047]
theorem rzaddress.tab4:rtab .any (opsOf Tryz.f66 4)=rzaddress.T4:=by kernel_rfl
theorem rzaddress.bits4:waitsOk rzaddress.T4.2 rzaddress.B4=true:=by kernel_rfl
def rzaddress.T5:Bool × List (List Nat × List Nat):=(true,[([],[]),([0],[0]),([1],[1]),([2],[2]),([3],[3]),([],[]),([5],[5]),([6,2],[6]),([7,7],[7]),([4,8],[4,8]),([9],[9]),([10,8,0,1,2,3,4,5,6,7,8,9,10],[10])])
def rzaddress.B5:List Nat:=[0,1,3,7,15,0,32,103,231,511,1023,2047]
theorem rzaddress.tab5:rtab .any (opsOf Tryz.f66 5)=rzaddress.T5:=by kernel_rfl
theorem rzaddress.bits5:waitsOk rzaddress.T5.2 rzaddress.B5=true:=by kernel_rfl
theorem rzaddress.calls (k:Nat) (a0_0:Int) (a0_1:Int) (a0_2:Int) (a0_3:Int) (r:ByteArray) (w:World) (h:rzaddress.f k a0_0 a0_1 a0_2 a0_3=some r) :
  Calls Tryz.prog 66 #[.agg #[.int .i64 a0_0,.int .i64 a0_1,.int .i64 a0_2,.int .i64 a0_3]] w fun e w'=>e=.returned (.string r)∧Below w.heap.size w w':=by
 have hu23:=Tryz.underlying23;have HB:=Aside0.mk (Below.refl w.heap.size w);unfold rzaddress.f at h;have H:=h;clear h;by_cases c2:a0_3=0
 ·rw [if_pos c2] at H;obtain ⟨c2b0,c2b1⟩:=bqt c2;clear c2;obtain ⟨t414,A3,H⟩:=bas H;(try dsimp only at H);by_cases c4:1+t414.size≤9223372036854775807
  ·rw [if_pos c4] at H;have c4b0:=eq_true c4;have c4b1:=decide_eq_true c4;try have c4b2:(9223372036854775807 < 1+t414.size)=False:=eq_false (Nat.not_lt.2 c4)
   by_cases c5:((⟨#[91]⟩:zB) ++ t414).size+1≤9223372036854775807
   ·rw [if_pos c5] at H;have c5b0:=eq_true c5;have c5b1:=decide_eq_true c5;try have c5b2:(9223372036854775807 < ((⟨#[91]⟩:zB) ++ t414).size+1)=False:=eq_false (Nat.not_lt.2 c5)
    try have c5x:(9223372036854775807 < 1+t414.size+1)=False:=eq_false (by have e1:=c5;simp only [ByteArray.size_append,show ∀ x:UInt8,(⟨#[x]⟩:zB).size=1 from fun _=>rfl] at e1;omega)
    obtain rfl:=Option.some.inj H;go_enter Tryz.func66,Tryz.ntmps66
    go_wp2_with (first | ((with_reducible refine gate_dst (N:=1) rfl ?_);refine bxe (N:=1) (cs:=#[.int .i64 a0_0,.int .i64 a0_1,.int .i64 a0_2,.int .i64 a0_3]) (t:=23) ?_;intro gb413 hg w6 hbox hb;have BK413:=Aside0.mk hbox;have GW413:Aside0 (w.heap.size≤gb413):=⟨gwb⟩;have GE413:Aside0 (w.heap.size≤gb413):=⟨gwb⟩;replace HB:=Aside0.mk (below_step blw hb);clear hb hbox hg;obtain ⟨_,_,_,_,_,_,_,_⟩:=bz4 BK413.out) | ((with_reducible refine gate_callee (f:=64) rfl ?_);refine gl (some 8) Tryz.func64 #[.int .i64 a0_2] ?_;(with_reducible refine (rzregister.calls k a0_2 _ _ A3.out).mono ?_);rintro e w8 ⟨rfl,hb⟩;refine ⟨_,rfl,?_⟩;replace BK413:=Aside0.mk (blk_below (g:=gb413) bko hb);replace HB:=Aside0.mk (below_step blw hb);clear hb))
    go_ret;exact ⟨rew,blw⟩
   ·rw [if_neg c5] at H;exact absurd H (by simp)
  ·rw [if_neg c4] at H;exact absurd H (by simp)
 ·rw [if_neg c2] at H;obtain ⟨c2b0,c2b1⟩:=bqf c2;by_cases c9:a0_3 < 0
  ·rw [if_pos c9] at H;have c9b0:=decide_eq_true c9;clear c9;obtain ⟨t415,A10,H⟩:=bas H;(try dsimp only at H);by_cases c11:1+t415.size≤9223372036854775807
   ·rw [if_pos c11] at H;have c11b0:=eq_true c11;have c11b1:=decide_eq_true c11;try have c11b2:(9223372036854775807 < 1+t415.size)=False:=eq_false (Nat.not_lt.2 c11)
    by_cases c12:((⟨#[91]⟩:zB) ++ t415).size+1≤9223372036854775807
    ·rw [if_pos c12] at H;have c12b0:=eq_true c12;have c12b1:=decide_eq_true c12;try have c12b2:(9223372036854775807 < ((⟨#[91]⟩:zB) ++ t415).size+1)=False:=eq_false (Nat.not_lt.2 c12)
     try have c12x:(9223372036854775807 < 1+t415.size+1)=False:=eq_false (by have e1:=c12;simp only [ByteArray.size_append,show ∀ x:UInt8,(⟨#[x]⟩:zB).size=1 from fun _=>rfl] at e1;omega)
     obtain ⟨t416,A13,H⟩:=bas H;(try dsimp only at H);obtain ⟨t417,A14,H⟩:=bas H;(try dsimp only at H);by_cases c15:(((⟨#[91]⟩:zB) ++ t415) ++ (⟨#[45]⟩:zB)).size+t417.size≤9223372036854775807
     ·rw [if_pos c15] at H;have c15b0:=eq_true c15;have c15b1:=decide_eq_true c15;try have c15b2:(9223372036854775807 < (((⟨#[91]⟩:zB) ++ t415) ++ (⟨#[45]⟩:zB)).size+t417.size)=False:=eq_false (Nat.not_lt.2 c15)
      try have c15x:(9223372036854775807 < 1+t415.size+1+t417.size)=False:=eq_false (by have e1:=c15;simp only [ByteArray.size_append,show ∀ x:UInt8,(⟨#[x]⟩:zB).size=1 from fun _=>rfl] at e1;omega)
      by_cases c16:((((⟨#[91]⟩:zB) ++ t415) ++ (⟨#[45]⟩:zB)) ++ t417).size+1≤9223372036854775807
      ·rw [if_pos c16] at H;have c16b0:=eq_true c16;have c16b1:=decide_eq_true c16;try have c16b2:(9223372036854775807 < ((((⟨#[91]⟩:zB) ++ t415) ++ (⟨#[45]⟩:zB)) ++ t417).size+1)=False:=eq_false (Nat.not_lt.2 c16)
       try have c16x:(9223372036854775807 < 1+t415.size+1+t417.size+1)=False:=eq_false (by have e1:=c16;simp only [ByteArray.size_append,show ∀ x:UInt8,(⟨#[x]⟩:zB).size=1 from fun _=>rfl] at e1;omega)
       obtain rfl:=Option.some.inj H;go_enter Tryz.func66,Tryz.ntmps66
       try go_wp2_with (first | ((with_reducible refine gate_dst (N:=1) rfl ?_);refine bxe (N:=1) (cs:=#[.int .i64 a0_0,.int .i64 a0_1,.int .i64 a0_2,.int .i64 a0_3]) (t:=23) ?_;intro gb413 hg w17 hbox hb;have BK413:=Aside0.mk hbox;have GW413:Aside0 (w.heap.size≤gb413):=⟨gwb⟩;have GE413:Aside0 (w.heap.size≤gb413):=⟨gwb⟩;replace HB:=Aside0.mk (below_step blw hb);clear hb hbox hg;obtain ⟨_,_,_,_,_,_,_,_⟩:=bz4 BK413.out))
       replace BK413:=Aside0.mk (blk_drew BK413.out);replace HB:=Aside0.mk (below_drew1 HB.out);refine start_ (n:=12) (S:=fun w'=>w'.cell? ⟨gb413,0,none⟩=some (.int .i64 a0_0)∧w'.cell? ⟨gb413,1,none⟩=some (.int .i64 a0_1)∧w'.cell? ⟨gb413,2,none⟩=some (.int .i64 a0_2)∧w'.cell? ⟨gb413,3,none⟩=some (.int .i64 a0_3)) (ds:=[]) #[zF,zF,zF,zF,zF,zF,zF,zF,zF,zF,zF,zF] (by kernel_rfl) rfl rfl ⟨(blk_cell BK413.out 0).trans rfl,(blk_cell BK413.out 1).trans rfl,(blk_cell BK413.out 2).trans rfl,(blk_cell BK413.out 3).trans rfl⟩ (fun hHeld=>?_);refine with_tabW rzaddress.tab4 rzaddress.bits4 (fun HT_ HW_=>?_);generalize w17.drew=w19 at BK413 HB hHeld ⊢;refine pqs 0 12 ?_
       refine pbs 5 12 33 ?_;refine tbs4 1 12 35 hHeld ?_;refine tbs4 6 12 99 hHeld ?_
       refine one_ (i:=2) (N:=some 16) (fb 12 103) rfl rfl (one_of HT_.out (by kernel_rfl)) (by decide) (fun K hK=>?_);refine goes_ Tryz.func64 (by kernel_rfl) rfl #[.int .i64 a0_2] (by rfl) rfl rfl fq ?_;with_reducible refine (rzregister.calls k a0_2 _ _ A10.out).mono ?_
       rintro e w20 ⟨rfl,hb⟩;refine ⟨_,rfl,?_⟩;replace BK413:=Aside0.mk (blk_below (g:=gb413) bko hb);replace HB:=Aside0.mk (below_step blw hb);clear hb;refine hK.out _ _ ⟨(blk_cell BK413.out 0).trans rfl,(blk_cell BK413.out 1).trans rfl,(blk_cell BK413.out 2).trans rfl,(blk_cell BK413.out 3).trans rfl⟩ (fun hHeld=>?_);clear hK K;refine nrmq ?_
       refine pbs 3 12 111 ?_;refine pbs 4 12 127 ?_
       refine one_ (i:=7) (N:=some 21) (fl 12 8) rfl rfl (one_of HT_.out (by kernel_rfl)) (by decide) (fun K hK=>?_);refine goes_ Tryz.func95 (by kernel_rfl) rfl #[.int .i64 a0_3] (by rfl) rfl rfl fq ?_;with_reducible refine (rzsize.calls a0_3 _ _ A13.out).mono ?_
       rintro e w' ⟨rfl,⟨nd,rfl⟩⟩;refine ⟨_,rfl,?_⟩;refine hK.out _ _ ⟨(blk_cell BK413.out 0).trans rfl,(blk_cell BK413.out 1).trans rfl,(blk_cell BK413.out 2).trans rfl,(blk_cell BK413.out 3).trans rfl⟩ (fun hHeld=>?_);clear hK K;refine nrmq ?_
       refine one_ (i:=8) (N:=some 22) (fl 12 9) rfl rfl (one_of HT_.out (by kernel_rfl)) (by decide) (fun K hK=>?_);refine goes_ Tryz.func38 (by kernel_rfl) rfl #[.int .u64 t416] (by rfl) rfl rfl fq ?_;with_reducible refine (rzDigits.calls k _ _ _ A14.out).mono ?_
       rintro e w21 ⟨rfl,hb⟩;refine ⟨_,rfl,?_⟩;replace BK413:=Aside0.mk (blk_below (g:=gb413) bko hb);replace HB:=Aside0.mk (below_step blw hb);clear hb;refine hK.out _ _ ⟨(blk_cell BK413.out 0).trans rfl,(blk_cell BK413.out 1).trans rfl,(blk_cell BK413.out 2).trans rfl,(blk_cell BK413.out 3).trans rfl⟩ (fun hHeld=>?_);clear hK K;refine nrmq ?_
       refine pqs 9 12 ?_;refine pqs 10 12 ?_;refine pqs 11 12 ?_
       refine done_ (done_of HT_.out (by kernel_rfl)) ?_;try go_wp2
       go_ret;exact ⟨rew,blw⟩
      ·rw [if_neg c16] at H;exact absurd H (by simp)
     ·rw [if_neg c15] at H;exact absurd H (by simp)
    ·rw [if_neg c12] at H;exact absurd H (by simp)
   ·rw [if_neg c11] at H;exact absurd H (by simp)
  ·rw [if_neg c9] at H;have c9b0:=decide_eq_false c9;clear c9;obtain ⟨t418,A22,H⟩:=bas H;(try dsimp only at H);by_cases c23:1+t418.size≤9223372036854775807
   ·rw [if_pos c23] at H;have c23b0:=eq_true c23;have c23b1:=decide_eq_true c23;try have c23b2:(9223372036854775807 < 1+t418.size)=False:=eq_false (Nat.not_lt.2 c23)
    by_cases c24:((⟨#[91]⟩:zB) ++ t418).size+1≤9223372036854775807
    ·rw [if_pos c24] at H;have c24b0:=eq_true c24;have c24b1:=decide_eq_true c24;try have c24b2:(9223372036854775807 < ((⟨#[91]⟩:zB) ++ t418).size+1)=False:=eq_false (Nat.not_lt.2 c24)
     try have c24x:(9223372036854775807 < 1+t418.size+1)=False:=eq_false (by have e1:=c24;simp only [ByteArray.size_append,show ∀ x:UInt8,(⟨#[x]⟩:zB).size=1 from fun _=>rfl] at e1;omega)
     obtain ⟨t419,A25,H⟩:=bas H;(try dsimp only at H);obtain ⟨t420,A26,H⟩:=bas H;(try dsimp only at H);by_cases c27:(((⟨#[91]⟩:zB) ++ t418) ++ (⟨#[43]⟩:zB)).size+t420.size≤9223372036854775807
     ·rw [if_pos c27] at H;have c27b0:=eq_true c27;have c27b1:=decide_eq_true c27;try have c27b2:(9223372036854775807 < (((⟨#[91]⟩:zB) ++ t418) ++ (⟨#[43]⟩:zB)).size+t420.size)=False:=eq_false (Nat.not_lt.2 c27)
      try have c27x:(9223372036854775807 < 1+t418.size+1+t420.size)=False:=eq_false (by have e1:=c27;simp only [ByteArray.size_append,show ∀ x:UInt8,(⟨#[x]⟩:zB).size=1 from fun _=>rfl] at e1;omega)
      by_cases c28:((((⟨#[91]⟩:zB) ++ t418) ++ (⟨#[43]⟩:zB)) ++ t420).size+1≤9223372036854775807
      ·rw [if_pos c28] at H;have c28b0:=eq_true c28;have c28b1:=decide_eq_true c28;try have c28b2:(9223372036854775807 < ((((⟨#[91]⟩:zB) ++ t418) ++ (⟨#[43]⟩:zB)) ++ t420).size+1)=False:=eq_false (Nat.not_lt.2 c28)
       try have c28x:(9223372036854775807 < 1+t418.size+1+t420.size+1)=False:=eq_false (by have e1:=c28;simp only [ByteArray.size_append,show ∀ x:UInt8,(⟨#[x]⟩:zB).size=1 from fun _=>rfl] at e1;omega)
       obtain rfl:=Option.some.inj H;go_enter Tryz.func66,Tryz.ntmps66
       try go_wp2_with (first | ((with_reducible refine gate_dst (N:=1) rfl ?_);refine bxe (N:=1) (cs:=#[.int .i64 a0_0,.int .i64 a0_1,.int .i64 a0_2,.int .i64 a0_3]) (t:=23) ?_;intro gb413 hg w29 hbox hb;have BK413:=Aside0.mk hbox;have GW413:Aside0 (w.heap.size≤gb413):=⟨gwb⟩;have GE413:Aside0 (w.heap.size≤gb413):=⟨gwb⟩;replace HB:=Aside0.mk (below_step blw hb);clear hb hbox hg;obtain ⟨_,_,_,_,_,_,_,_⟩:=bz4 BK413.out))
       replace BK413:=Aside0.mk (blk_drew BK413.out);replace HB:=Aside0.mk (below_drew1 HB.out);refine start_ (n:=12) (S:=fun w'=>w'.cell? ⟨gb413,0,none⟩=some (.int .i64 a0_0)∧w'.cell? ⟨gb413,1,none⟩=some (.int .i64 a0_1)∧w'.cell? ⟨gb413,2,none⟩=some (.int .i64 a0_2)∧w'.cell? ⟨gb413,3,none⟩=some (.int .i64 a0_3)) (ds:=[]) #[zF,zF,zF,zF,zF,zF,zF,zF,zF,zF,zF,zF] (by kernel_rfl) rfl rfl ⟨(blk_cell BK413.out 0).trans rfl,(blk_cell BK413.out 1).trans rfl,(blk_cell BK413.out 2).trans rfl,(blk_cell BK413.out 3).trans rfl⟩ (fun hHeld=>?_);refine with_tabW rzaddress.tab5 rzaddress.bits5 (fun HT_ HW_=>?_);generalize w29.drew=w31 at BK413 HB hHeld ⊢;refine pqs 0 12 ?_
       refine pbs 5 12 33 ?_;refine tbs4 1 12 35 hHeld ?_;refine tbs4 6 12 99 hHeld ?_
       refine one_ (i:=2) (N:=some 27) (fb 12 103) rfl rfl (one_of HT_.out (by kernel_rfl)) (by decide) (fun K hK=>?_);refine goes_ Tryz.func64 (by kernel_rfl) rfl #[.int .i64 a0_2] (by rfl) rfl rfl fq ?_;with_reducible refine (rzregister.calls k a0_2 _ _ A22.out).mono ?_
       rintro e w32 ⟨rfl,hb⟩;refine ⟨_,rfl,?_⟩;replace BK413:=Aside0.mk (blk_below (g:=gb413) bko hb);replace HB:=Aside0.mk (below_step blw hb);clear hb;refine hK.out _ _ ⟨(blk_cell BK413.out 0).trans rfl,(blk_cell BK413.out 1).trans rfl,(blk_cell BK413.out 2).trans rfl,(blk_cell BK413.out 3).trans rfl⟩ (fun hHeld=>?_);clear hK K;refine nrmq ?_
       refine pbs 3 12 111 ?_;refine pbs 4 12 127 ?_
       refine one_ (i:=7) (N:=some 32) (fl 12 8) rfl rfl (one_of HT_.out (by kernel_rfl)) (by decide) (fun K hK=>?_);refine goes_ Tryz.func95 (by kernel_rfl) rfl #[.int .i64 a0_3] (by rfl) rfl rfl fq ?_;with_reducible refine (rzsize.calls a0_3 _ _ A25.out).mono ?_
       rintro e w' ⟨rfl,⟨nd,rfl⟩⟩;refine ⟨_,rfl,?_⟩;refine hK.out _ _ ⟨(blk_cell BK413.out 0).trans rfl,(blk_cell BK413.out 1).trans rfl,(blk_cell BK413.out 2).trans rfl,(blk_cell BK413.out 3).trans rfl⟩ (fun hHeld=>?_);clear hK K;refine nrmq ?_
       refine one_ (i:=8) (N:=some 33) (fl 12 9) rfl rfl (one_of HT_.out (by kernel_rfl)) (by decide) (fun K hK=>?_);refine goes_ Tryz.func38 (by kernel_rfl) rfl #[.int .u64 t419] (by rfl) rfl rfl fq ?_;with_reducible refine (rzDigits.calls k _ _ _ A26.out).mono ?_
       rintro e w33 ⟨rfl,hb⟩;refine ⟨_,rfl,?_⟩;replace BK413:=Aside0.mk (blk_below (g:=gb413) bko hb);replace HB:=Aside0.mk (below_step blw hb);clear hb;refine hK.out _ _ ⟨(blk_cell BK413.out 0).trans rfl,(blk_cell BK413.out 1).trans rfl,(blk_cell BK413.out 2).trans rfl,(blk_cell BK413.out 3).trans rfl⟩ (fun hHeld=>?_);clear hK K;refine nrmq ?_
       refine pqs 9 12 ?_;refine pqs 10 12 ?_;refine pqs 11 12 ?_
       refine done_ (done_of HT_.out (by kernel_rfl)) ?_;try go_wp2
       go_ret;exact ⟨rew,blw⟩
      ·rw [if_neg c28] at H;exact absurd H (by simp)
     ·rw [if_neg c27] at H;exact absurd H (by simp)
    ·rw [if_neg c24] at H;exact absurd H (by simp)
   ·rw [if_neg c23] at H;exact absurd H (by simp)
def rztarget.f (k:Nat) (a0:Int):Option (ByteArray):=if a0 < 0 then ((rzsize.f a0).bind fun t421=>((rzDigits.f k t421).bind fun t422=>(if 2+t422.size≤9223372036854775807 then (some ((⟨#[46,45]⟩:zB) ++ t422)) else (none)))) else ((rzsize.f a0).bind fun t423=>((rzDigits.f k t423).bind fun t424=>(if 2+t424.size≤9223372036854775807 then (some ((⟨#[46,43]⟩:zB) ++ t424)) else (none))))
theorem rztarget.mono:∀ a0 k,LeO (rztarget.f k a0) (rztarget.f (k+1) a0):=by
 intro a0 k;unfold rztarget.f;repeat' first | (with_reducible first | exact rzDigits.mono _ _ | exact LeO.refl _ | exact LeO.none _ | refine LeO.ite ?_ ?_ | refine LeO.bind ?_ (fun _=>?_)) | exact LeO.none _ | refine LeO.ite ?_ ?_ | refine LeO.bind ?_ (fun _=>?_)
theorem rztarget.calls (k:Nat) (a0:Int) (r:ByteArray) (w:World) (h:rztarget.f k a0=some r) :
  Calls Tryz.prog 67 #[.int .i64 a0] w fun e w'=>e=.returned (.string r)∧Below w.heap.size w w':=by
 have HB:=Aside0.mk (Below.refl w.heap.size w);unfold rztarget.f at h;have H:=h;clear h;by_cases c2:a0 < 0
 ·rw [if_pos c2] at H;have c2b0:=decide_eq_true c2;clear c2;obtain ⟨t421,A3,H⟩:=bas H;(try dsimp only at H);obtain ⟨t422,A4,H⟩:=bas H;(try dsimp only at H);by_cases c5:2+t422.size≤9223372036854775807
  ·rw [if_pos c5] at H;have c5b0:=eq_true c5;have c5b1:=decide_eq_true c5;try have c5b2:(9223372036854775807 < 2+t422.size)=False:=eq_false (Nat.not_lt.2 c5)
   obtain rfl:=Option.some.inj H;go_enter Tryz.func67,Tryz.ntmps67
   go_wp2_with (first | ((with_reducible refine gate_callee (f:=95) rfl ?_);refine gl (some 6) Tryz.func95 #[.int .i64 a0] ?_;(with_reducible refine (rzsize.calls a0 _ _ A3.out).mono ?_);rintro e w' ⟨rfl,⟨nd,rfl⟩⟩;refine ⟨_,rfl,?_⟩) | ((with_reducible refine gate_callee (f:=38) rfl ?_);refine gl (some 7) Tryz.func38 #[.int .u64 t421] ?_;(with_reducible refine (rzDigits.calls k _ _ _ A4.out).mono ?_);rintro e w6 ⟨rfl,hb⟩;refine ⟨_,rfl,?_⟩;replace HB:=Aside0.mk (below_step blw hb);clear hb))
   go_ret;exact ⟨rew,blw⟩
  ·rw [if_neg c5] at H;exact absurd H (by simp)
 ·rw [if_neg c2] at H;have c2b0:=decide_eq_false c2;clear c2;obtain ⟨t423,A7,H⟩:=bas H;(try dsimp only at H);obtain ⟨t424,A8,H⟩:=bas H;(try dsimp only at H);by_cases c9:2+t424.size≤9223372036854775807
  ·rw [if_pos c9] at H;have c9b0:=eq_true c9;have c9b1:=decide_eq_true c9;try have c9b2:(9223372036854775807 < 2+t424.size)=False:=eq_false (Nat.not_lt.2 c9)
   obtain rfl:=Option.some.inj H;go_enter Tryz.func67,Tryz.ntmps67
   go_wp2_with (first | ((with_reducible refine gate_callee (f:=95) rfl ?_);refine gl (some 10) Tryz.func95 #[.int .i64 a0] ?_;(with_reducible refine (rzsize.calls a0 _ _ A7.out).mono ?_);rintro e w' ⟨rfl,⟨nd,rfl⟩⟩;refine ⟨_,rfl,?_⟩) | ((with_reducible refine gate_callee (f:=38) rfl ?_);refine gl (some 11) Tryz.func38 #[.int .u64 t423] ?_;(with_reducible refine (rzDigits.calls k _ _ _ A8.out).mono ?_);rintro e w10 ⟨rfl,hb⟩;refine ⟨_,rfl,?_⟩;replace HB:=Aside0.mk (below_step blw hb);clear hb))
   go_ret;exact ⟨rew,blw⟩
  ·rw [if_neg c9] at H;exact absurd H (by simp)
end Go.Proofs.YtffojmgmpfjlhaaGreatDoor.Q
