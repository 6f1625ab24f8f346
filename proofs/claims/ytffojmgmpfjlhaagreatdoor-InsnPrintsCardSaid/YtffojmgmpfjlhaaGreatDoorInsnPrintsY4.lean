/- Parts of the proof: InsnPrints: what Print and Parse answer is what the reference answers: the law returns true for every input; the inputs read as they did; the package-level variables hold what the program's text lays in them: the tied card. -/
import Derived.Test.YtffojmgmpfjlhaaGreatDoorInsnPrintsY3
set_option maxHeartbeats 8000000
set_option maxRecDepth 100000
set_option linter.unusedVariables false
set_option linter.unusedSimpArgs false
namespace Go.Proofs.YtffojmgmpfjlhaaGreatDoor.Q
open Go.Proofs.YtffojmgmpfjlhaaGreatDoor Go.RowKit Go.Proofs.YtffojmgmpfjlhaaGreatDoorW.PrintWords Go.Proofs.YtffojmgmpfjlhaaGreatDoorW.PrintLast Go.Proofs.YtffojmgmpfjlhaaGreatDoorW.PrintMore
attribute [local go_sem] max2_int min2_int max_two min_two max_three min_three max_four min_four
def rzMnemonic.f (a0:Int):Option (ByteArray):=(some (([(⟨#[]⟩:zB),(⟨#[110,111,112]⟩:zB),(⟨#[109,111,118,101]⟩:zB),(⟨#[115,101,116]⟩:zB),(⟨#[108,105,116]⟩:zB),(⟨#[97,100,100]⟩:zB),(⟨#[115,117,98]⟩:zB),(⟨#[109,117,108]⟩:zB),(⟨#[100,105,118]⟩:zB),(⟨#[109,111,100]⟩:zB),(⟨#[97,110,100]⟩:zB),(⟨#[111,114]⟩:zB),(⟨#[120,111,114]⟩:zB),(⟨#[115,104,108]⟩:zB),(⟨#[115,104,114]⟩:zB),(⟨#[115,97,114]⟩:zB),(⟨#[105,110,99]⟩:zB),(⟨#[108,111,97,100,49]⟩:zB),(⟨#[108,111,97,100,56]⟩:zB),(⟨#[115,116,111,114,101,49]⟩:zB),(⟨#[115,116,111,114,101,56]⟩:zB),(⟨#[98,101,113]⟩:zB),(⟨#[98,110,101]⟩:zB),(⟨#[98,108,116]⟩:zB),(⟨#[98,103,101]⟩:zB),(⟨#[106,117,109,112]⟩:zB),(⟨#[106,117,109,112,114]⟩:zB),(⟨#[99,97,108,108]⟩:zB),(⟨#[99,97,108,108,114]⟩:zB),(⟨#[114,101,116]⟩:zB),(⟨#[112,117,115,104]⟩:zB),(⟨#[112,111,112]⟩:zB),(⟨#[108,101,97]⟩:zB),(⟨#[115,121,115]⟩:zB),(⟨#[115,119,97,112]⟩:zB)]:List ByteArray):List ByteArray)).bind fun y398=>(if a0=76 then (some (⟨#[98,114,101,97,107]⟩:zB)) else (if a0 < 0 then (some (⟨#[]⟩:zB)) else (if a0≥(y398.length:Int) then (some (⟨#[]⟩:zB)) else (if 0≤a0 then (if a0 < (y398.length:Int) then (some (rdOf ByteArray.empty y398 a0)) else (none)) else (none)))))
theorem rzMnemonic.q1 {p:Prop} (h:p:=by
 go_enter Tryz.func63,Tryz.ntmps63
 go_wp2_with (first | ((with_reducible refine gate_dst (N:=4) rfl ?_);(try (refine gate_guard (by rfl) ?_;dsimp only));refine Kd.R_lit Kd.string _ 9 ?hg (N:=4) ?hd (xs:=([(⟨#[]⟩:zB),(⟨#[110,111,112]⟩:zB),(⟨#[109,111,118,101]⟩:zB),(⟨#[115,101,116]⟩:zB),(⟨#[108,105,116]⟩:zB),(⟨#[97,100,100]⟩:zB),(⟨#[115,117,98]⟩:zB),(⟨#[109,117,108]⟩:zB),(⟨#[100,105,118]⟩:zB),(⟨#[109,111,100]⟩:zB),(⟨#[97,110,100]⟩:zB),(⟨#[111,114]⟩:zB),(⟨#[120,111,114]⟩:zB),(⟨#[115,104,108]⟩:zB),(⟨#[115,104,114]⟩:zB),(⟨#[115,97,114]⟩:zB),(⟨#[105,110,99]⟩:zB),(⟨#[108,111,97,100,49]⟩:zB),(⟨#[108,111,97,100,56]⟩:zB),(⟨#[115,116,111,114,101,49]⟩:zB),(⟨#[115,116,111,114,101,56]⟩:zB),(⟨#[98,101,113]⟩:zB),(⟨#[98,110,101]⟩:zB),(⟨#[98,108,116]⟩:zB),(⟨#[98,103,101]⟩:zB),(⟨#[106,117,109,112]⟩:zB),(⟨#[106,117,109,112,114]⟩:zB),(⟨#[99,97,108,108]⟩:zB),(⟨#[99,97,108,108,114]⟩:zB),(⟨#[114,101,116]⟩:zB),(⟨#[112,117,115,104]⟩:zB),(⟨#[112,111,112]⟩:zB),(⟨#[108,101,97]⟩:zB),(⟨#[115,121,115]⟩:zB),(⟨#[115,119,97,112]⟩:zB)]:List ByteArray)) (inner:=[.string (⟨#[]⟩:zB),.string (⟨#[110,111,112]⟩:zB),.string (⟨#[109,111,118,101]⟩:zB),.string (⟨#[115,101,116]⟩:zB),.string (⟨#[108,105,116]⟩:zB),.string (⟨#[97,100,100]⟩:zB),.string (⟨#[115,117,98]⟩:zB),.string (⟨#[109,117,108]⟩:zB),.string (⟨#[100,105,118]⟩:zB),.string (⟨#[109,111,100]⟩:zB),.string (⟨#[97,110,100]⟩:zB),.string (⟨#[111,114]⟩:zB),.string (⟨#[120,111,114]⟩:zB),.string (⟨#[115,104,108]⟩:zB),.string (⟨#[115,104,114]⟩:zB),.string (⟨#[115,97,114]⟩:zB),.string (⟨#[105,110,99]⟩:zB),.string (⟨#[108,111,97,100,49]⟩:zB),.string (⟨#[108,111,97,100,56]⟩:zB),.string (⟨#[115,116,111,114,101,49]⟩:zB),.string (⟨#[115,116,111,114,101,56]⟩:zB),.string (⟨#[98,101,113]⟩:zB),.string (⟨#[98,110,101]⟩:zB),.string (⟨#[98,108,116]⟩:zB),.string (⟨#[98,103,101]⟩:zB),.string (⟨#[106,117,109,112]⟩:zB),.string (⟨#[106,117,109,112,114]⟩:zB),.string (⟨#[99,97,108,108]⟩:zB),.string (⟨#[99,97,108,108,114]⟩:zB),.string (⟨#[114,101,116]⟩:zB),.string (⟨#[112,117,115,104]⟩:zB),.string (⟨#[112,111,112]⟩:zB),.string (⟨#[108,101,97]⟩:zB),.string (⟨#[115,121,115]⟩:zB),.string (⟨#[115,119,97,112]⟩:zB)]) (ok:=fun _=>True) (okp:=fun _=>True) ?hr ?hp (fun _ hk=>hk) trivial (Below.refl _ _) (Nat.le_refl _) (by simp) ?_;(case hd=>rfl);(case hg=>rfl);(case hr=>first | (go_simp;done) | (go_simp;rfl));(case hp=>exact (Reps.one (show Kd.M Kd.string _ _ _ (⟨#[]⟩:zB) [.string (⟨#[]⟩:zB)] from rfl) (Reps.one (show Kd.M Kd.string _ _ _ (⟨#[110,111,112]⟩:zB) [.string (⟨#[110,111,112]⟩:zB)] from rfl) (Reps.one (show Kd.M Kd.string _ _ _ (⟨#[109,111,118,101]⟩:zB) [.string (⟨#[109,111,118,101]⟩:zB)] from rfl) (Reps.one (show Kd.M Kd.string _ _ _ (⟨#[115,101,116]⟩:zB) [.string (⟨#[115,101,116]⟩:zB)] from rfl) (Reps.one (show Kd.M Kd.string _ _ _ (⟨#[108,105,116]⟩:zB) [.string (⟨#[108,105,116]⟩:zB)] from rfl) (Reps.one (show Kd.M Kd.string _ _ _ (⟨#[97,100,100]⟩:zB) [.string (⟨#[97,100,100]⟩:zB)] from rfl) (Reps.one (show Kd.M Kd.string _ _ _ (⟨#[115,117,98]⟩:zB) [.string (⟨#[115,117,98]⟩:zB)] from rfl) (Reps.one (show Kd.M Kd.string _ _ _ (⟨#[109,117,108]⟩:zB) [.string (⟨#[109,117,108]⟩:zB)] from rfl) (Reps.one (show Kd.M Kd.string _ _ _ (⟨#[100,105,118]⟩:zB) [.string (⟨#[100,105,118]⟩:zB)] from rfl) (Reps.one (show Kd.M Kd.string _ _ _ (⟨#[109,111,100]⟩:zB) [.string (⟨#[109,111,100]⟩:zB)] from rfl) (Reps.one (show Kd.M Kd.string _ _ _ (⟨#[97,110,100]⟩:zB) [.string (⟨#[97,110,100]⟩:zB)] from rfl) (Reps.one (show Kd.M Kd.string _ _ _ (⟨#[111,114]⟩:zB) [.string (⟨#[111,114]⟩:zB)] from rfl) (Reps.one (show Kd.M Kd.string _ _ _ (⟨#[120,111,114]⟩:zB) [.string (⟨#[120,111,114]⟩:zB)] from rfl) (Reps.one (show Kd.M Kd.string _ _ _ (⟨#[115,104,108]⟩:zB) [.string (⟨#[115,104,108]⟩:zB)] from rfl) (Reps.one (show Kd.M Kd.string _ _ _ (⟨#[115,104,114]⟩:zB) [.string (⟨#[115,104,114]⟩:zB)] from rfl) (Reps.one (show Kd.M Kd.string _ _ _ (⟨#[115,97,114]⟩:zB) [.string (⟨#[115,97,114]⟩:zB)] from rfl) (Reps.one (show Kd.M Kd.string _ _ _ (⟨#[105,110,99]⟩:zB) [.string (⟨#[105,110,99]⟩:zB)] from rfl) (Reps.one (show Kd.M Kd.string _ _ _ (⟨#[108,111,97,100,49]⟩:zB) [.string (⟨#[108,111,97,100,49]⟩:zB)] from rfl) (Reps.one (show Kd.M Kd.string _ _ _ (⟨#[108,111,97,100,56]⟩:zB) [.string (⟨#[108,111,97,100,56]⟩:zB)] from rfl) (Reps.one (show Kd.M Kd.string _ _ _ (⟨#[115,116,111,114,101,49]⟩:zB) [.string (⟨#[115,116,111,114,101,49]⟩:zB)] from rfl) (Reps.one (show Kd.M Kd.string _ _ _ (⟨#[115,116,111,114,101,56]⟩:zB) [.string (⟨#[115,116,111,114,101,56]⟩:zB)] from rfl) (Reps.one (show Kd.M Kd.string _ _ _ (⟨#[98,101,113]⟩:zB) [.string (⟨#[98,101,113]⟩:zB)] from rfl) (Reps.one (show Kd.M Kd.string _ _ _ (⟨#[98,110,101]⟩:zB) [.string (⟨#[98,110,101]⟩:zB)] from rfl) (Reps.one (show Kd.M Kd.string _ _ _ (⟨#[98,108,116]⟩:zB) [.string (⟨#[98,108,116]⟩:zB)] from rfl) (Reps.one (show Kd.M Kd.string _ _ _ (⟨#[98,103,101]⟩:zB) [.string (⟨#[98,103,101]⟩:zB)] from rfl) (Reps.one (show Kd.M Kd.string _ _ _ (⟨#[106,117,109,112]⟩:zB) [.string (⟨#[106,117,109,112]⟩:zB)] from rfl) (Reps.one (show Kd.M Kd.string _ _ _ (⟨#[106,117,109,112,114]⟩:zB) [.string (⟨#[106,117,109,112,114]⟩:zB)] from rfl) (Reps.one (show Kd.M Kd.string _ _ _ (⟨#[99,97,108,108]⟩:zB) [.string (⟨#[99,97,108,108]⟩:zB)] from rfl) (Reps.one (show Kd.M Kd.string _ _ _ (⟨#[99,97,108,108,114]⟩:zB) [.string (⟨#[99,97,108,108,114]⟩:zB)] from rfl) (Reps.one (show Kd.M Kd.string _ _ _ (⟨#[114,101,116]⟩:zB) [.string (⟨#[114,101,116]⟩:zB)] from rfl) (Reps.one (show Kd.M Kd.string _ _ _ (⟨#[112,117,115,104]⟩:zB) [.string (⟨#[112,117,115,104]⟩:zB)] from rfl) (Reps.one (show Kd.M Kd.string _ _ _ (⟨#[112,111,112]⟩:zB) [.string (⟨#[112,111,112]⟩:zB)] from rfl) (Reps.one (show Kd.M Kd.string _ _ _ (⟨#[108,101,97]⟩:zB) [.string (⟨#[108,101,97]⟩:zB)] from rfl) (Reps.one (show Kd.M Kd.string _ _ _ (⟨#[115,121,115]⟩:zB) [.string (⟨#[115,121,115]⟩:zB)] from rfl) (Reps.one (show Kd.M Kd.string _ _ _ (⟨#[115,119,97,112]⟩:zB) [.string (⟨#[115,119,97,112]⟩:zB)] from rfl) (Reps.none _ _)))))))))))))))))))))))))))))))))))));intro v399 wq0 hoq1 hb hg_ hnew_;clear hg_ hnew_;(first | rw [← Ny398.out] at hoq1 | (simp only [Int.reduceToNat] at hoq1;rw [← Ny398.out] at hoq1));have HO400:=Aside0.mk (Kd.R_lower hoq1 (below_size blw));replace HB:=Aside0.mk (below_step blw hb);clear hb hoq1;obtain ⟨Aoq2,coq3,eoq4⟩:=Kd.R_slice HO400.out;subst eoq4))
 go_ret;exact ⟨rew,blw⟩):p:=h
theorem rzMnemonic.calls (a0:Int) (r:ByteArray) (w:World) (h:rzMnemonic.f a0=some r) :
  Calls Tryz.prog 63 #[.int .i64 a0] w fun e w'=>e=.returned (.string r)∧Below w.heap.size w w':=by
 have HB:=Aside0.mk (Below.refl w.heap.size w);unfold rzMnemonic.f at h;have H:=h;clear h;obtain ⟨y398,hy398⟩:∃ y_:List ByteArray,y_=(([(⟨#[]⟩:zB),(⟨#[110,111,112]⟩:zB),(⟨#[109,111,118,101]⟩:zB),(⟨#[115,101,116]⟩:zB),(⟨#[108,105,116]⟩:zB),(⟨#[97,100,100]⟩:zB),(⟨#[115,117,98]⟩:zB),(⟨#[109,117,108]⟩:zB),(⟨#[100,105,118]⟩:zB),(⟨#[109,111,100]⟩:zB),(⟨#[97,110,100]⟩:zB),(⟨#[111,114]⟩:zB),(⟨#[120,111,114]⟩:zB),(⟨#[115,104,108]⟩:zB),(⟨#[115,104,114]⟩:zB),(⟨#[115,97,114]⟩:zB),(⟨#[105,110,99]⟩:zB),(⟨#[108,111,97,100,49]⟩:zB),(⟨#[108,111,97,100,56]⟩:zB),(⟨#[115,116,111,114,101,49]⟩:zB),(⟨#[115,116,111,114,101,56]⟩:zB),(⟨#[98,101,113]⟩:zB),(⟨#[98,110,101]⟩:zB),(⟨#[98,108,116]⟩:zB),(⟨#[98,103,101]⟩:zB),(⟨#[106,117,109,112]⟩:zB),(⟨#[106,117,109,112,114]⟩:zB),(⟨#[99,97,108,108]⟩:zB),(⟨#[99,97,108,108,114]⟩:zB),(⟨#[114,101,116]⟩:zB),(⟨#[112,117,115,104]⟩:zB),(⟨#[112,111,112]⟩:zB),(⟨#[108,101,97]⟩:zB),(⟨#[115,121,115]⟩:zB),(⟨#[115,119,97,112]⟩:zB)]:List ByteArray)):=⟨_,rfl⟩;replace H:(if a0=76 then (some (⟨#[98,114,101,97,107]⟩:zB)) else (if a0 < 0 then (some (⟨#[]⟩:zB)) else (if a0≥(y398.length:Int) then (some (⟨#[]⟩:zB)) else (if 0≤a0 then (if a0 < (y398.length:Int) then (some (rdOf ByteArray.empty y398 a0)) else (none)) else (none)))))=some r:=by first | (rw [hy398];with_reducible exact H) | (have H2_:=(Option.bind_some _ _).symm.trans H;rw [hy398];with_reducible exact H2_) | (have H2_:=(Option.bind_some _ _).symm.trans H;with_reducible exact H2_) | with_reducible exact H | (rw [hy398];exact H) | exact H
 have Ny398:=Aside0.mk hy398;clear hy398;by_cases c2:a0=76
 ·rw [if_pos c2] at H;obtain ⟨c2b0,c2b1⟩:=bqt c2;clear c2;obtain rfl:=Option.some.inj H;exact rzMnemonic.q1
 ·rw [if_neg c2] at H;obtain ⟨c2b0,c2b1⟩:=bqf c2;by_cases c5:a0 < 0
  ·rw [if_pos c5] at H;have c5b0:=decide_eq_true c5;clear c5;obtain rfl:=Option.some.inj H;exact rzMnemonic.q1
  ·rw [if_neg c5] at H;have c5b0:=decide_eq_false c5;clear c5;by_cases c8:a0≥(y398.length:Int)
   ·rw [if_pos c8] at H;have c8b0:decide ((y398.length:Int)≤a0)=true:=decide_eq_true c8;clear c8;obtain rfl:=Option.some.inj H;exact rzMnemonic.q1
   ·rw [if_neg c8] at H;have c8b0:decide ((y398.length:Int)≤a0)=false:=decide_eq_false c8;clear c8;by_cases c12:0≤a0
    ·rw [if_pos c12] at H;have c12b0:=decide_eq_true c12;clear c12;by_cases c13:a0 < (y398.length:Int)
     ·rw [if_pos c13] at H;have c13b0:=decide_eq_true c13;clear c13;obtain rfl:=Option.some.inj H;go_enter Tryz.func63,Tryz.ntmps63
      go_wp2_with (first | ((with_reducible refine gate_dst (N:=4) rfl ?_);(try (refine gate_guard (by rfl) ?_;dsimp only));refine Kd.R_lit Kd.string _ 9 ?hg (N:=4) ?hd (xs:=([(⟨#[]⟩:zB),(⟨#[110,111,112]⟩:zB),(⟨#[109,111,118,101]⟩:zB),(⟨#[115,101,116]⟩:zB),(⟨#[108,105,116]⟩:zB),(⟨#[97,100,100]⟩:zB),(⟨#[115,117,98]⟩:zB),(⟨#[109,117,108]⟩:zB),(⟨#[100,105,118]⟩:zB),(⟨#[109,111,100]⟩:zB),(⟨#[97,110,100]⟩:zB),(⟨#[111,114]⟩:zB),(⟨#[120,111,114]⟩:zB),(⟨#[115,104,108]⟩:zB),(⟨#[115,104,114]⟩:zB),(⟨#[115,97,114]⟩:zB),(⟨#[105,110,99]⟩:zB),(⟨#[108,111,97,100,49]⟩:zB),(⟨#[108,111,97,100,56]⟩:zB),(⟨#[115,116,111,114,101,49]⟩:zB),(⟨#[115,116,111,114,101,56]⟩:zB),(⟨#[98,101,113]⟩:zB),(⟨#[98,110,101]⟩:zB),(⟨#[98,108,116]⟩:zB),(⟨#[98,103,101]⟩:zB),(⟨#[106,117,109,112]⟩:zB),(⟨#[106,117,109,112,114]⟩:zB),(⟨#[99,97,108,108]⟩:zB),(⟨#[99,97,108,108,114]⟩:zB),(⟨#[114,101,116]⟩:zB),(⟨#[112,117,115,104]⟩:zB),(⟨#[112,111,112]⟩:zB),(⟨#[108,101,97]⟩:zB),(⟨#[115,121,115]⟩:zB),(⟨#[115,119,97,112]⟩:zB)]:List ByteArray)) (inner:=[.string (⟨#[]⟩:zB),.string (⟨#[110,111,112]⟩:zB),.string (⟨#[109,111,118,101]⟩:zB),.string (⟨#[115,101,116]⟩:zB),.string (⟨#[108,105,116]⟩:zB),.string (⟨#[97,100,100]⟩:zB),.string (⟨#[115,117,98]⟩:zB),.string (⟨#[109,117,108]⟩:zB),.string (⟨#[100,105,118]⟩:zB),.string (⟨#[109,111,100]⟩:zB),.string (⟨#[97,110,100]⟩:zB),.string (⟨#[111,114]⟩:zB),.string (⟨#[120,111,114]⟩:zB),.string (⟨#[115,104,108]⟩:zB),.string (⟨#[115,104,114]⟩:zB),.string (⟨#[115,97,114]⟩:zB),.string (⟨#[105,110,99]⟩:zB),.string (⟨#[108,111,97,100,49]⟩:zB),.string (⟨#[108,111,97,100,56]⟩:zB),.string (⟨#[115,116,111,114,101,49]⟩:zB),.string (⟨#[115,116,111,114,101,56]⟩:zB),.string (⟨#[98,101,113]⟩:zB),.string (⟨#[98,110,101]⟩:zB),.string (⟨#[98,108,116]⟩:zB),.string (⟨#[98,103,101]⟩:zB),.string (⟨#[106,117,109,112]⟩:zB),.string (⟨#[106,117,109,112,114]⟩:zB),.string (⟨#[99,97,108,108]⟩:zB),.string (⟨#[99,97,108,108,114]⟩:zB),.string (⟨#[114,101,116]⟩:zB),.string (⟨#[112,117,115,104]⟩:zB),.string (⟨#[112,111,112]⟩:zB),.string (⟨#[108,101,97]⟩:zB),.string (⟨#[115,121,115]⟩:zB),.string (⟨#[115,119,97,112]⟩:zB)]) (ok:=fun _=>True) (okp:=fun _=>True) ?hr ?hp (fun _ hk=>hk) trivial (Below.refl _ _) (Nat.le_refl _) (by simp) ?_;(case hd=>rfl);(case hg=>rfl);(case hr=>first | (go_simp;done) | (go_simp;rfl));(case hp=>exact (Reps.one (show Kd.M Kd.string _ _ _ (⟨#[]⟩:zB) [.string (⟨#[]⟩:zB)] from rfl) (Reps.one (show Kd.M Kd.string _ _ _ (⟨#[110,111,112]⟩:zB) [.string (⟨#[110,111,112]⟩:zB)] from rfl) (Reps.one (show Kd.M Kd.string _ _ _ (⟨#[109,111,118,101]⟩:zB) [.string (⟨#[109,111,118,101]⟩:zB)] from rfl) (Reps.one (show Kd.M Kd.string _ _ _ (⟨#[115,101,116]⟩:zB) [.string (⟨#[115,101,116]⟩:zB)] from rfl) (Reps.one (show Kd.M Kd.string _ _ _ (⟨#[108,105,116]⟩:zB) [.string (⟨#[108,105,116]⟩:zB)] from rfl) (Reps.one (show Kd.M Kd.string _ _ _ (⟨#[97,100,100]⟩:zB) [.string (⟨#[97,100,100]⟩:zB)] from rfl) (Reps.one (show Kd.M Kd.string _ _ _ (⟨#[115,117,98]⟩:zB) [.string (⟨#[115,117,98]⟩:zB)] from rfl) (Reps.one (show Kd.M Kd.string _ _ _ (⟨#[109,117,108]⟩:zB) [.string (⟨#[109,117,108]⟩:zB)] from rfl) (Reps.one (show Kd.M Kd.string _ _ _ (⟨#[100,105,118]⟩:zB) [.string (⟨#[100,105,118]⟩:zB)] from rfl) (Reps.one (show Kd.M Kd.string _ _ _ (⟨#[109,111,100]⟩:zB) [.string (⟨#[109,111,100]⟩:zB)] from rfl) (Reps.one (show Kd.M Kd.string _ _ _ (⟨#[97,110,100]⟩:zB) [.string (⟨#[97,110,100]⟩:zB)] from rfl) (Reps.one (show Kd.M Kd.string _ _ _ (⟨#[111,114]⟩:zB) [.string (⟨#[111,114]⟩:zB)] from rfl) (Reps.one (show Kd.M Kd.string _ _ _ (⟨#[120,111,114]⟩:zB) [.string (⟨#[120,111,114]⟩:zB)] from rfl) (Reps.one (show Kd.M Kd.string _ _ _ (⟨#[115,104,108]⟩:zB) [.string (⟨#[115,104,108]⟩:zB)] from rfl) (Reps.one (show Kd.M Kd.string _ _ _ (⟨#[115,104,114]⟩:zB) [.string (⟨#[115,104,114]⟩:zB)] from rfl) (Reps.one (show Kd.M Kd.string _ _ _ (⟨#[115,97,114]⟩:zB) [.string (⟨#[115,97,114]⟩:zB)] from rfl) (Reps.one (show Kd.M Kd.string _ _ _ (⟨#[105,110,99]⟩:zB) [.string (⟨#[105,110,99]⟩:zB)] from rfl) (Reps.one (show Kd.M Kd.string _ _ _ (⟨#[108,111,97,100,49]⟩:zB) [.string (⟨#[108,111,97,100,49]⟩:zB)] from rfl) (Reps.one (show Kd.M Kd.string _ _ _ (⟨#[108,111,97,100,56]⟩:zB) [.string (⟨#[108,111,97,100,56]⟩:zB)] from rfl) (Reps.one (show Kd.M Kd.string _ _ _ (⟨#[115,116,111,114,101,49]⟩:zB) [.string (⟨#[115,116,111,114,101,49]⟩:zB)] from rfl) (Reps.one (show Kd.M Kd.string _ _ _ (⟨#[115,116,111,114,101,56]⟩:zB) [.string (⟨#[115,116,111,114,101,56]⟩:zB)] from rfl) (Reps.one (show Kd.M Kd.string _ _ _ (⟨#[98,101,113]⟩:zB) [.string (⟨#[98,101,113]⟩:zB)] from rfl) (Reps.one (show Kd.M Kd.string _ _ _ (⟨#[98,110,101]⟩:zB) [.string (⟨#[98,110,101]⟩:zB)] from rfl) (Reps.one (show Kd.M Kd.string _ _ _ (⟨#[98,108,116]⟩:zB) [.string (⟨#[98,108,116]⟩:zB)] from rfl) (Reps.one (show Kd.M Kd.string _ _ _ (⟨#[98,103,101]⟩:zB) [.string (⟨#[98,103,101]⟩:zB)] from rfl) (Reps.one (show Kd.M Kd.string _ _ _ (⟨#[106,117,109,112]⟩:zB) [.string (⟨#[106,117,109,112]⟩:zB)] from rfl) (Reps.one (show Kd.M Kd.string _ _ _ (⟨#[106,117,109,112,114]⟩:zB) [.string (⟨#[106,117,109,112,114]⟩:zB)] from rfl) (Reps.one (show Kd.M Kd.string _ _ _ (⟨#[99,97,108,108]⟩:zB) [.string (⟨#[99,97,108,108]⟩:zB)] from rfl) (Reps.one (show Kd.M Kd.string _ _ _ (⟨#[99,97,108,108,114]⟩:zB) [.string (⟨#[99,97,108,108,114]⟩:zB)] from rfl) (Reps.one (show Kd.M Kd.string _ _ _ (⟨#[114,101,116]⟩:zB) [.string (⟨#[114,101,116]⟩:zB)] from rfl) (Reps.one (show Kd.M Kd.string _ _ _ (⟨#[112,117,115,104]⟩:zB) [.string (⟨#[112,117,115,104]⟩:zB)] from rfl) (Reps.one (show Kd.M Kd.string _ _ _ (⟨#[112,111,112]⟩:zB) [.string (⟨#[112,111,112]⟩:zB)] from rfl) (Reps.one (show Kd.M Kd.string _ _ _ (⟨#[108,101,97]⟩:zB) [.string (⟨#[108,101,97]⟩:zB)] from rfl) (Reps.one (show Kd.M Kd.string _ _ _ (⟨#[115,121,115]⟩:zB) [.string (⟨#[115,121,115]⟩:zB)] from rfl) (Reps.one (show Kd.M Kd.string _ _ _ (⟨#[115,119,97,112]⟩:zB) [.string (⟨#[115,119,97,112]⟩:zB)] from rfl) (Reps.none _ _)))))))))))))))))))))))))))))))))))));intro v399 w14 ho15 hb hg_ hnew_;clear hg_ hnew_;(first | rw [← Ny398.out] at ho15 | (simp only [Int.reduceToNat] at ho15;rw [← Ny398.out] at ho15));have HO400:=Aside0.mk (Kd.R_lower ho15 (below_size blw));replace HB:=Aside0.mk (below_step blw hb);clear hb ho15;obtain ⟨Ao16,co16,eo16⟩:=Kd.R_slice HO400.out;subst eo16;have p401:0≤(a0:Int):=of_decide_eq_true asm;have q401:a0 < (y398.length:Int):=of_decide_eq_true asm;obtain ⟨ad401,e401,hx401_0⟩:=Kd.at_string (Kd.R_reads' HO400.out).2.2 a0 p401 q401;cases e401;replace p401:=eq_true p401;replace q401:=eq_true q401))
      go_ret;exact ⟨rew,blw⟩
     ·rw [if_neg c13] at H;exact absurd H (by simp)
    ·rw [if_neg c12] at H;exact absurd H (by simp)
mutual
def rzoperation.l0:Nat→ByteArray→Int→Option (Int)
 | 0,_,_=>none
 | k+1,x0,x3=>if x3≤76 then (rzoperation.j1 k x0 x3 (x0.toList != ([]:List UInt8))) else (rzoperation.j1 k x0 x3 false)
def rzoperation.j1:Nat→ByteArray→Int→Bool→Option (Int)
 | 0,_,_,_=>none
 | k+1,x0,x3,x9=>if x9=true then ((rzMnemonic.f x3).bind fun t466=>(if t466.toList=x0.toList then (some x3) else (rzoperation.l0 k x0 (wrap64 (x3+1))))) else (some 0)
end
def rzoperation.f (k:Nat) (a0:ByteArray):Option (Int):=rzoperation.l0 k a0 1
theorem rzoperation.mono_l:∀ k,(∀ y0 y1,LeO (rzoperation.l0 k y0 y1) (rzoperation.l0 (k+1) y0 y1))∧(∀ y0 y1 y2,LeO (rzoperation.j1 k y0 y1 y2) (rzoperation.j1 (k+1) y0 y1 y2))
 | 0=>⟨fun _ _ r h=>by simp [rzoperation.l0] at h,fun _ _ _ r h=>by simp [rzoperation.j1] at h⟩
 | k+1=>by
  obtain ⟨ih0,ih1⟩:=rzoperation.mono_l k;refine ⟨?_,?_⟩
  ·intro y0 y1;unfold rzoperation.l0;repeat' first
   | (with_reducible exact ih0 _ _)
   | (with_reducible exact ih1 _ _ _)
   | (with_reducible exact LeO.refl _)
   | (with_reducible exact LeO.none _)
   | (with_reducible refine LeO.ite ?_ ?_)
   | (with_reducible refine LeO.bind ?_ (fun _=>?_))
   | exact LeO.none _
   | refine LeO.ite ?_ ?_
   | refine LeO.bind ?_ (fun _=>?_)
  ·intro y0 y1 y2;unfold rzoperation.j1;repeat' first
   | (with_reducible exact ih0 _ _)
   | (with_reducible exact ih1 _ _ _)
   | (with_reducible exact LeO.refl _)
   | (with_reducible exact LeO.none _)
   | (with_reducible refine LeO.ite ?_ ?_)
   | (with_reducible refine LeO.bind ?_ (fun _=>?_))
   | exact LeO.none _
   | refine LeO.ite ?_ ?_
   | refine LeO.bind ?_ (fun _=>?_)
theorem rzoperation.mono:∀ a0 k,LeO (rzoperation.f k a0) (rzoperation.f (k+1) a0):=by
 intro a0 k;obtain ⟨ih0,ih1⟩:=rzoperation.mono_l k;unfold rzoperation.f;repeat' first
   | (with_reducible exact ih0 _ _)
   | (with_reducible exact ih1 _ _ _)
   | (with_reducible exact LeO.refl _)
   | (with_reducible exact LeO.none _)
   | (with_reducible refine LeO.ite ?_ ?_)
   | (with_reducible refine LeO.bind ?_ (fun _=>?_))
   | exact LeO.none _
   | refine LeO.ite ?_ ?_
   | refine LeO.bind ?_ (fun _=>?_)
theorem rzoperation.calls (k:Nat) (a0:ByteArray) (r:Int) (w:World) (h:rzoperation.f k a0=some r) :
  Calls Tryz.prog 105 #[.string a0] w fun e w'=>e=.returned (.int .i64 r)∧Below w.heap.size w w':=by
 have HB:=Aside0.mk (Below.refl w.heap.size w);unfold rzoperation.f at h;have H:=h;clear h;have H':=Aside0.mk H;clear H;go_enter Tryz.func105,Tryz.ntmps105
 go_wp2;try simp only [Act.put,List.setIfInBounds_toArray,List.set_cons_zero,List.set_cons_succ]
 go_loopg [3] k (fun kq v3 w'=>∃ (x3_1:Int),v3=.int .i64 x3_1∧Aside0 (rzoperation.l0 kq a0 x3_1=some r)∧Aside0 (kq≤k)∧Aside0 (Below w.heap.size w w'))
 case atStart=>exact ⟨(1),rsd,H',⟨Nat.le_refl _⟩,⟨blw⟩⟩
 case round =>
  clear H';obtain ⟨x3_1,rfl,HA,HK1,HB⟩:=hrel;cases gk with
  | zero=>exact absurd HA.out (by simp [rzoperation.l0])
  | succ k1 =>
   have H:=HA.out;clear HA;simp only [rzoperation.l0] at H;have HC2:=Aside0.mk H;clear H;go_upto_region 2 with (fail)
   go_cut [9] (fun v9 wc=>∃ (kq:Nat) (x9_1:Bool),v9=.bool x9_1∧Aside0 (rzoperation.j1 kq a0 x3_1 x9_1=some r)∧Aside0 (kq≤k1)∧Aside0 (Below w.heap.size w wc))
   case first =>
    have H:=HC2.out;clear HC2;by_cases c3:x3_1≤76
    ·rw [if_pos c3] at H;have c3b0:=decide_eq_true c3;clear c3;(first | rw [c3b0] | (simp only [i64_w,i32_w];rw [c3b0]) | skip);have H':=Aside0.mk H;clear H;go_wp2;go_meet
     case rel=>exact ⟨_,((a0.toList != ([]:List UInt8))),(by first | rfl | (show Value.bool (!a0.toList.isEmpty)=Value.bool (a0.toList != []);cases a0.toList <;> rfl) | (simp;cases a0.toList <;> rfl) | (simp;done) | (simp [*];done)),H',⟨by have:=HK1.out;first | omega | exact Nat.le_refl _⟩,⟨blw⟩⟩
    ·rw [if_neg c3] at H;have c3b0:=decide_eq_false c3;clear c3;(first | rw [c3b0] | (simp only [i64_w,i32_w];rw [c3b0]) | skip);have H':=Aside0.mk H;clear H;go_wp2;go_meet
     case rel=>exact ⟨_,(false),rsd,H',⟨by have:=HK1.out;first | omega | exact Nat.le_refl _⟩,⟨blw⟩⟩
   case rest =>
    clear HC2;obtain ⟨kq,x9_1,rfl,HA,HJ1,HB⟩:=hcut;cases kq with
    | zero=>exact absurd HA.out (by simp [rzoperation.j1])
    | succ kj1 =>
     have H:=HA.out;clear HA;simp only [rzoperation.j1] at H;by_cases c4:x9_1=true
     ·subst c4;rw [if_pos rfl] at H;obtain ⟨t466,A5,H⟩:=bas H;(try dsimp only at H);by_cases c6:t466.toList=a0.toList
      ·rw [if_pos c6] at H;obtain ⟨c6b0,c6b1⟩:=bqt c6;clear c6;obtain rfl:=Option.some.inj H;go_wp2_with (first | ((with_reducible refine gate_callee (f:=63) rfl ?_);refine gl (some 13) Tryz.func63 #[.int .i64 x3_1] ?_;(with_reducible refine (rzMnemonic.calls _ _ _ A5.out).mono ?_);rintro e w7 ⟨rfl,hb⟩;refine ⟨_,rfl,?_⟩;replace HB:=Aside0.mk (below_step blw hb);clear hb))
       go_ret;exact ⟨rew,blw⟩
      ·rw [if_neg c6] at H;obtain ⟨c6b0,c6b1⟩:=bqf c6;have H':=Aside0.mk H;clear H;go_wp2_with (first | ((with_reducible refine gate_callee (f:=63) rfl ?_);refine gl (some 13) Tryz.func63 #[.int .i64 x3_1] ?_;(with_reducible refine (rzMnemonic.calls _ _ _ A5.out).mono ?_);rintro e w8 ⟨rfl,hb⟩;refine ⟨_,rfl,?_⟩;replace HB:=Aside0.mk (below_step blw hb);clear hb))
       go_roundg kj1
       case measure=>have:=HK1.out;have:=HJ1.out;omega
       case rel=>exact ⟨(wrap64 (x3_1+1)),rsd,H',⟨by have:=HK1.out;have:=HJ1.out;omega⟩,⟨blw⟩⟩
     ·replace c4:=Bool.eq_false_iff.mpr c4;subst c4;rw [if_neg (show ¬ (false=true) by decide)] at H;obtain rfl:=Option.some.inj H;go_wp2;go_ret;exact ⟨rew,blw⟩
def rzisLetter.f (a0:Int):Option (Bool):=if a0≥65 then (if a0≤90 then (some true) else (if a0≥97 then (if a0≤122 then (some true) else (some (a0 == 95))) else (some (a0 == 95)))) else (if a0≥97 then (if a0≤122 then (some true) else (some (a0 == 95))) else (some (a0 == 95)))
theorem rzisLetter.calls (a0:Int) (r:Bool) (w:World) (h:rzisLetter.f a0=some r) :
  Calls Tryz.prog 134 #[.int .u8 a0] w fun e w'=>e=.returned (.bool r)∧Drawn0 w w':=by
 unfold rzisLetter.f at h;have H:=h;clear h;by_cases c2:a0≥65
 ·rw [if_pos c2] at H;have c2b0:decide (65≤a0)=true:=decide_eq_true c2;clear c2;by_cases c3:a0≤90
  ·rw [if_pos c3] at H;have c3b0:=decide_eq_true c3;clear c3;obtain rfl:=Option.some.inj H;go_enter Tryz.func134,Tryz.ntmps134
   go_wp2;go_ret;exact ⟨by first | rfl | (simp;done) | (simp [*];done),by repeat (first | exact Drawn0.refl _ | apply Drawn0.step)⟩
  ·rw [if_neg c3] at H;have c3b0:=decide_eq_false c3;clear c3;by_cases c4:a0≥97
   ·rw [if_pos c4] at H;have c4b0:decide (97≤a0)=true:=decide_eq_true c4;clear c4;by_cases c5:a0≤122
    ·rw [if_pos c5] at H;have c5b0:=decide_eq_true c5;clear c5;obtain rfl:=Option.some.inj H;go_enter Tryz.func134,Tryz.ntmps134
     go_wp2;go_ret;exact ⟨by first | rfl | (simp;done) | (simp [*];done),by repeat (first | exact Drawn0.refl _ | apply Drawn0.step)⟩
    ·rw [if_neg c5] at H;have c5b0:=decide_eq_false c5;clear c5;obtain rfl:=Option.some.inj H;go_enter Tryz.func134,Tryz.ntmps134
     go_wp2;go_ret;exact ⟨by first | rfl | (simp;done) | (simp [*];done),by repeat (first | exact Drawn0.refl _ | apply Drawn0.step)⟩
   ·rw [if_neg c4] at H;have c4b0:decide (97≤a0)=false:=decide_eq_false c4;clear c4;obtain rfl:=Option.some.inj H;go_enter Tryz.func134,Tryz.ntmps134
    go_wp2;go_ret;exact ⟨by first | rfl | (simp;done) | (simp [*];done),by repeat (first | exact Drawn0.refl _ | apply Drawn0.step)⟩
 ·rw [if_neg c2] at H;have c2b0:decide (65≤a0)=false:=decide_eq_false c2;clear c2;by_cases c6:a0≥97
  ·rw [if_pos c6] at H;have c6b0:decide (97≤a0)=true:=decide_eq_true c6;clear c6;by_cases c7:a0≤122
   ·rw [if_pos c7] at H;have c7b0:=decide_eq_true c7;clear c7;obtain rfl:=Option.some.inj H;go_enter Tryz.func134,Tryz.ntmps134
    go_wp2;go_ret;exact ⟨by first | rfl | (simp;done) | (simp [*];done),by repeat (first | exact Drawn0.refl _ | apply Drawn0.step)⟩
   ·rw [if_neg c7] at H;have c7b0:=decide_eq_false c7;clear c7;obtain rfl:=Option.some.inj H;go_enter Tryz.func134,Tryz.ntmps134
    go_wp2;go_ret;exact ⟨by first | rfl | (simp;done) | (simp [*];done),by repeat (first | exact Drawn0.refl _ | apply Drawn0.step)⟩
  ·rw [if_neg c6] at H;have c6b0:decide (97≤a0)=false:=decide_eq_false c6;clear c6;obtain rfl:=Option.some.inj H;go_enter Tryz.func134,Tryz.ntmps134
   go_wp2;go_ret;exact ⟨by first | rfl | (simp;done) | (simp [*];done),by repeat (first | exact Drawn0.refl _ | apply Drawn0.step)⟩
def rzreader_word.l0:Nat→Int→ByteArray→Int→Bool→Bool→Bool→ByteArray→Option (ByteArray × ByteArray × Int × Bool × Bool × Bool × ByteArray)
 | 0,_,_,_,_,_,_,_=>none
 | k+1,x3,x1000,x1001,x1002,x1003,x1004,x1005=>if x1001 < (x1000.size:Int) then (if 0≤x1001 then ((rzisLetter.f (bt x1000 x1001)).bind fun t467=>(if t467=true then (rzreader_word.l0 k x3 x1000 (wrap64 (x1001+1)) x1002 x1003 x1004 x1005) else (if (bt x1000 x1001)≥48 then (if (bt x1000 x1001)≤57 then (rzreader_word.l0 k x3 x1000 (wrap64 (x1001+1)) x1002 x1003 x1004 x1005) else (if 0≤x3 then (if x3≤x1001 then (if x1001≤(x1000.size:Int) then (some (x1000.extract (x3:Int).toNat (x1001:Int).toNat,x1000,x1001,x1002,x1003,x1004,x1005)) else (none)) else (none)) else (none))) else (if 0≤x3 then (if x3≤x1001 then (if x1001≤(x1000.size:Int) then (some (x1000.extract (x3:Int).toNat (x1001:Int).toNat,x1000,x1001,x1002,x1003,x1004,x1005)) else (none)) else (none)) else (none))))) else (none)) else (if 0≤x3 then (if x3≤x1001 then (if x1001≤(x1000.size:Int) then (some (x1000.extract (x3:Int).toNat (x1001:Int).toNat,x1000,x1001,x1002,x1003,x1004,x1005)) else (none)) else (none)) else (none))
def rzreader_word.f (k:Nat) (s0_0:ByteArray) (s0_1:Int) (s0_2:Bool) (s0_3:Bool) (s0_4:Bool) (s0_5:ByteArray):Option (ByteArray × ByteArray × Int × Bool × Bool × Bool × ByteArray):=rzreader_word.l0 k s0_1 s0_0 s0_1 s0_2 s0_3 s0_4 s0_5
theorem rzreader_word.mono_l:∀ k,(∀ y0 y1 y2 y3 y4 y5 y6,LeO (rzreader_word.l0 k y0 y1 y2 y3 y4 y5 y6) (rzreader_word.l0 (k+1) y0 y1 y2 y3 y4 y5 y6))
 | 0=>fun _ _ _ _ _ _ _ r h=>by simp [rzreader_word.l0] at h
 | k+1=>by
  have ih0:=rzreader_word.mono_l k
  ·intro y0 y1 y2 y3 y4 y5 y6;unfold rzreader_word.l0;repeat' first
   | (with_reducible exact ih0 _ _ _ _ _ _ _)
   | (with_reducible exact LeO.refl _)
   | (with_reducible exact LeO.none _)
   | (with_reducible refine LeO.ite ?_ ?_)
   | (with_reducible refine LeO.bind ?_ (fun _=>?_))
   | exact LeO.none _
   | refine LeO.ite ?_ ?_
   | refine LeO.bind ?_ (fun _=>?_)
theorem rzreader_word.mono:∀ a0 a1 a2 a3 a4 a5 k,LeO (rzreader_word.f k a0 a1 a2 a3 a4 a5) (rzreader_word.f (k+1) a0 a1 a2 a3 a4 a5):=by
 intro a0 a1 a2 a3 a4 a5 k;have ih0:=rzreader_word.mono_l k;unfold rzreader_word.f;repeat' first
   | (with_reducible exact ih0 _ _ _ _ _ _ _)
   | (with_reducible exact LeO.refl _)
   | (with_reducible exact LeO.none _)
   | (with_reducible refine LeO.ite ?_ ?_)
   | (with_reducible refine LeO.bind ?_ (fun _=>?_))
   | exact LeO.none _
   | refine LeO.ite ?_ ?_
   | refine LeO.bind ?_ (fun _=>?_)
theorem rzreader_word.calls (k:Nat) (g:Nat) (s0_0:ByteArray) (s0_1:Int) (s0_2:Bool) (s0_3:Bool) (s0_4:Bool) (s0_5:ByteArray) (r1:ByteArray) (r2:ByteArray) (r3:Int) (r4:Bool) (r5:Bool) (r6:Bool) (r7:ByteArray) (w0 w:World) (hI:IsS117 w0 w g s0_0 s0_1 s0_2 s0_3 s0_4 s0_5) (hB:Below w0.heap.size w0 w) (h:rzreader_word.f k s0_0 s0_1 s0_2 s0_3 s0_4 s0_5=some (r1,r2,r3,r4,r5,r6,r7)) :
  Calls Tryz.prog 106 #[.pointer (some ⟨g,0,none⟩)] w fun e w'=>e=.returned (.string r1)∧IsS117 w0 w' g r2 r3 r4 r5 r6 r7∧Below w0.heap.size w0 w'∧KeepBut w w' g none:=by
 have HI0:=Aside0.mk hI;have HK:=Aside0.mk (KeepBut.refl w g none);have HL:=Aside0.mk hB.size;clear hI;have HW0:=Aside0.mk hB.size;have HB:=Aside0.mk hB;clear hB;unfold rzreader_word.f at h;have H:=h;clear h;have H':=Aside0.mk H;clear H;obtain ⟨hcz2_0,hcz2_1,hcz2_2,hcz2_3,hcz2_4,hcz2_5,hfz2_0,hfz2_1,hfz2_2,hfz2_3,hfz2_4,hfz2_5⟩:=HI0.out.all;go_enter Tryz.func106,Tryz.ntmps106
 go_wp2;repeat (go_quiet (fail);try go_wp2)
 try simp only [Act.put,List.setIfInBounds_toArray,List.set_cons_zero,List.set_cons_succ]
 go_loopg [] k (fun kq w'=>∃ (x1001_1:Int),Aside0 (rzreader_word.l0 kq s0_1 s0_0 x1001_1 s0_2 s0_3 s0_4 s0_5=some (r1,r2,r3,r4,r5,r6,r7))∧Aside0 (kq≤k)∧Aside0 (IsS117 w0 w' g s0_0 x1001_1 s0_2 s0_3 s0_4 s0_5)∧Aside0 (KeepBut w w' g none)∧Aside0 (Below w0.heap.size w0 w'))
 case atStart=>exact ⟨(s0_1),H',⟨Nat.le_refl _⟩,⟨ix⟩,⟨kx⟩,⟨bx⟩⟩
 case round =>
  clear H';try clear hcz2_0
  try clear hcz2_1
  try clear hcz2_2
  try clear hcz2_3
  try clear hcz2_4
  try clear hcz2_5
  try clear hfz2_0
  try clear hfz2_1
  try clear hfz2_2
  try clear hfz2_3
  try clear hfz2_4
  try clear hfz2_5
  obtain ⟨x1001_1,HA,HK1,HI0,HK,HB⟩:=hrel;cases gk with
  | zero=>exact absurd HA.out (by simp [rzreader_word.l0])
  | succ k1 =>
   have H:=HA.out;clear HA;simp only [rzreader_word.l0] at H;by_cases c3:x1001_1 < (s0_0.size:Int)
   ·rw [if_pos c3] at H;have c3b0:=decide_eq_true c3;clear c3;by_cases c4:0≤x1001_1
    ·rw [if_pos c4] at H;have c4b0:=decide_eq_true c4;clear c4;obtain ⟨t467,A6,H⟩:=bas H;(try dsimp only at H);by_cases c7:t467=true
     ·subst c7;rw [if_pos rfl] at H;have H':=Aside0.mk H;clear H;obtain ⟨_,_,_,_,_,_,_,_,_,_,_,_⟩:=HI0.out.all;have p5:0≤(x1001_1:Int):=of_decide_eq_true asm;have q5:x1001_1 < (s0_0.size:Int):=of_decide_eq_true asm;have hx5:=bt_at s0_0 x1001_1;replace p5:=eq_true p5;replace q5:=eq_true q5;go_wp2_with (first | (go_at_call 134;(with_reducible refine (rzisLetter.calls (bt s0_0 x1001_1) true _ A6.out).mono ?_);rintro e w' ⟨rfl,⟨nd,rfl⟩⟩;(try first | exact ⟨rfl,_,World.drewN_drewN _ _ _⟩ | exact ⟨rfl,_,Eq.trans (World.drewN_drewN _ _ _) (congrArg (World.drewN _) (Nat.add_assoc _ _ _))⟩)))
      repeat (go_quiet (first | (go_at_call 134;(with_reducible refine (rzisLetter.calls (bt s0_0 x1001_1) true _ A6.out).mono ?_);rintro e w' ⟨rfl,⟨nd,rfl⟩⟩;(try first | exact ⟨rfl,_,World.drewN_drewN _ _ _⟩ | exact ⟨rfl,_,Eq.trans (World.drewN_drewN _ _ _) (congrArg (World.drewN _) (Nat.add_assoc _ _ _))⟩)));try go_wp2_with (first | (go_at_call 134;(with_reducible refine (rzisLetter.calls (bt s0_0 x1001_1) true _ A6.out).mono ?_);rintro e w' ⟨rfl,⟨nd,rfl⟩⟩;(try first | exact ⟨rfl,_,World.drewN_drewN _ _ _⟩ | exact ⟨rfl,_,Eq.trans (World.drewN_drewN _ _ _) (congrArg (World.drewN _) (Nat.add_assoc _ _ _))⟩))))
      go_roundg k1
      case measure=>have:=HK1.out;omega
      case rel=>exact ⟨(wrap64 (x1001_1+1)),H',⟨by have:=HK1.out;omega⟩,⟨ix⟩,⟨kx⟩,⟨bx⟩⟩
     ·replace c7:=Bool.eq_false_iff.mpr c7;subst c7;rw [if_neg (show ¬ (false=true) by decide)] at H;by_cases c10:(bt s0_0 x1001_1)≥48
      ·rw [if_pos c10] at H;have c10b0:decide (48≤(bt s0_0 x1001_1))=true:=decide_eq_true c10;clear c10;by_cases c12:(bt s0_0 x1001_1)≤57
       ·rw [if_pos c12] at H;have c12b0:=decide_eq_true c12;clear c12;have H':=Aside0.mk H;clear H;obtain ⟨_,_,_,_,_,_,_,_,_,_,_,_⟩:=HI0.out.all;have p5:0≤(x1001_1:Int):=of_decide_eq_true asm;have q5:x1001_1 < (s0_0.size:Int):=of_decide_eq_true asm;have hx5:=bt_at s0_0 x1001_1;replace p5:=eq_true p5;replace q5:=eq_true q5;go_wp2_with (first | (go_at_call 134;(with_reducible refine (rzisLetter.calls (bt s0_0 x1001_1) false _ A6.out).mono ?_);rintro e w' ⟨rfl,⟨nd,rfl⟩⟩;(try first | exact ⟨rfl,_,World.drewN_drewN _ _ _⟩ | exact ⟨rfl,_,Eq.trans (World.drewN_drewN _ _ _) (congrArg (World.drewN _) (Nat.add_assoc _ _ _))⟩)))
        repeat (go_quiet (first | (go_at_call 134;(with_reducible refine (rzisLetter.calls (bt s0_0 x1001_1) false _ A6.out).mono ?_);rintro e w' ⟨rfl,⟨nd,rfl⟩⟩;(try first | exact ⟨rfl,_,World.drewN_drewN _ _ _⟩ | exact ⟨rfl,_,Eq.trans (World.drewN_drewN _ _ _) (congrArg (World.drewN _) (Nat.add_assoc _ _ _))⟩)));try go_wp2_with (first | (go_at_call 134;(with_reducible refine (rzisLetter.calls (bt s0_0 x1001_1) false _ A6.out).mono ?_);rintro e w' ⟨rfl,⟨nd,rfl⟩⟩;(try first | exact ⟨rfl,_,World.drewN_drewN _ _ _⟩ | exact ⟨rfl,_,Eq.trans (World.drewN_drewN _ _ _) (congrArg (World.drewN _) (Nat.add_assoc _ _ _))⟩))))
        go_roundg k1
        case measure=>have:=HK1.out;omega
        case rel=>exact ⟨(wrap64 (x1001_1+1)),H',⟨by have:=HK1.out;omega⟩,⟨ix⟩,⟨kx⟩,⟨bx⟩⟩
       ·rw [if_neg c12] at H;have c12b0:=decide_eq_false c12;clear c12;by_cases c14:0≤s0_1
        ·rw [if_pos c14] at H;have c14b0:=eq_true c14;have c14b1:=decide_eq_true c14;clear c14;by_cases c15:s0_1≤x1001_1
         ·rw [if_pos c15] at H;have c15b0:=eq_true c15;have c15b1:=decide_eq_true c15;clear c15;by_cases c16:x1001_1≤(s0_0.size:Int)
          ·rw [if_pos c16] at H;have c16b0:=eq_true c16;have c16b1:=decide_eq_true c16;clear c16;simp only [Option.some.injEq,Prod.mk.injEq] at H;obtain ⟨rfl,rfl,rfl,rfl,rfl,rfl,rfl⟩:=H;obtain ⟨_,_,_,_,_,_,_,_,_,_,_,_⟩:=HI0.out.all;have p5:0≤(x1001_1:Int):=of_decide_eq_true asm;have q5:x1001_1 < (s0_0.size:Int):=of_decide_eq_true asm;have hx5:=bt_at s0_0 x1001_1;replace p5:=eq_true p5;replace q5:=eq_true q5;go_wp2_with (first | (go_at_call 134;(with_reducible refine (rzisLetter.calls (bt s0_0 x1001_1) false _ A6.out).mono ?_);rintro e w' ⟨rfl,⟨nd,rfl⟩⟩;(try first | exact ⟨rfl,_,World.drewN_drewN _ _ _⟩ | exact ⟨rfl,_,Eq.trans (World.drewN_drewN _ _ _) (congrArg (World.drewN _) (Nat.add_assoc _ _ _))⟩)))
           repeat (go_quiet (first | (go_at_call 134;(with_reducible refine (rzisLetter.calls (bt s0_0 x1001_1) false _ A6.out).mono ?_);rintro e w' ⟨rfl,⟨nd,rfl⟩⟩;(try first | exact ⟨rfl,_,World.drewN_drewN _ _ _⟩ | exact ⟨rfl,_,Eq.trans (World.drewN_drewN _ _ _) (congrArg (World.drewN _) (Nat.add_assoc _ _ _))⟩)));try go_wp2_with (first | (go_at_call 134;(with_reducible refine (rzisLetter.calls (bt s0_0 x1001_1) false _ A6.out).mono ?_);rintro e w' ⟨rfl,⟨nd,rfl⟩⟩;(try first | exact ⟨rfl,_,World.drewN_drewN _ _ _⟩ | exact ⟨rfl,_,Eq.trans (World.drewN_drewN _ _ _) (congrArg (World.drewN _) (Nat.add_assoc _ _ _))⟩))))
           go_ret;exact ⟨rew,ix,bx,kx⟩
          ·rw [if_neg c16] at H;exact absurd H (by simp)
         ·rw [if_neg c15] at H;exact absurd H (by simp)
        ·rw [if_neg c14] at H;exact absurd H (by simp)
      ·rw [if_neg c10] at H;have c10b0:decide (48≤(bt s0_0 x1001_1))=false:=decide_eq_false c10;clear c10;by_cases c18:0≤s0_1
       ·rw [if_pos c18] at H;have c18b0:=eq_true c18;have c18b1:=decide_eq_true c18;clear c18;by_cases c19:s0_1≤x1001_1
        ·rw [if_pos c19] at H;have c19b0:=eq_true c19;have c19b1:=decide_eq_true c19;clear c19;by_cases c20:x1001_1≤(s0_0.size:Int)
         ·rw [if_pos c20] at H;have c20b0:=eq_true c20;have c20b1:=decide_eq_true c20;clear c20;simp only [Option.some.injEq,Prod.mk.injEq] at H;obtain ⟨rfl,rfl,rfl,rfl,rfl,rfl,rfl⟩:=H;obtain ⟨_,_,_,_,_,_,_,_,_,_,_,_⟩:=HI0.out.all;have p5:0≤(x1001_1:Int):=of_decide_eq_true asm;have q5:x1001_1 < (s0_0.size:Int):=of_decide_eq_true asm;have hx5:=bt_at s0_0 x1001_1;replace p5:=eq_true p5;replace q5:=eq_true q5;go_wp2_with (first | (go_at_call 134;(with_reducible refine (rzisLetter.calls (bt s0_0 x1001_1) false _ A6.out).mono ?_);rintro e w' ⟨rfl,⟨nd,rfl⟩⟩;(try first | exact ⟨rfl,_,World.drewN_drewN _ _ _⟩ | exact ⟨rfl,_,Eq.trans (World.drewN_drewN _ _ _) (congrArg (World.drewN _) (Nat.add_assoc _ _ _))⟩)))
          repeat (go_quiet (first | (go_at_call 134;(with_reducible refine (rzisLetter.calls (bt s0_0 x1001_1) false _ A6.out).mono ?_);rintro e w' ⟨rfl,⟨nd,rfl⟩⟩;(try first | exact ⟨rfl,_,World.drewN_drewN _ _ _⟩ | exact ⟨rfl,_,Eq.trans (World.drewN_drewN _ _ _) (congrArg (World.drewN _) (Nat.add_assoc _ _ _))⟩)));try go_wp2_with (first | (go_at_call 134;(with_reducible refine (rzisLetter.calls (bt s0_0 x1001_1) false _ A6.out).mono ?_);rintro e w' ⟨rfl,⟨nd,rfl⟩⟩;(try first | exact ⟨rfl,_,World.drewN_drewN _ _ _⟩ | exact ⟨rfl,_,Eq.trans (World.drewN_drewN _ _ _) (congrArg (World.drewN _) (Nat.add_assoc _ _ _))⟩))))
          go_ret;exact ⟨rew,ix,bx,kx⟩
         ·rw [if_neg c20] at H;exact absurd H (by simp)
        ·rw [if_neg c19] at H;exact absurd H (by simp)
       ·rw [if_neg c18] at H;exact absurd H (by simp)
    ·rw [if_neg c4] at H;exact absurd H (by simp)
   ·rw [if_neg c3] at H;have c3b0:=decide_eq_false c3;clear c3;by_cases c22:0≤s0_1
    ·rw [if_pos c22] at H;have c22b0:=eq_true c22;have c22b1:=decide_eq_true c22;clear c22;by_cases c23:s0_1≤x1001_1
     ·rw [if_pos c23] at H;have c23b0:=eq_true c23;have c23b1:=decide_eq_true c23;clear c23;by_cases c24:x1001_1≤(s0_0.size:Int)
      ·rw [if_pos c24] at H;have c24b0:=eq_true c24;have c24b1:=decide_eq_true c24;clear c24;simp only [Option.some.injEq,Prod.mk.injEq] at H;obtain ⟨rfl,rfl,rfl,rfl,rfl,rfl,rfl⟩:=H;obtain ⟨_,_,_,_,_,_,_,_,_,_,_,_⟩:=HI0.out.all;go_wp2;repeat (go_quiet (fail);try go_wp2)
       go_ret;exact ⟨rew,ix,bx,kx⟩
      ·rw [if_neg c24] at H;exact absurd H (by simp)
     ·rw [if_neg c23] at H;exact absurd H (by simp)
    ·rw [if_neg c22] at H;exact absurd H (by simp)
end Go.Proofs.YtffojmgmpfjlhaaGreatDoor.Q
