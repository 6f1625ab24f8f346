/- Parts of the proof: InsnLabels: a text whose targets are labels has the code of the text whose targets are distances: the law returns true for every input; the inputs read as they did; the package-level variables hold what the program's text lays in them: the tied card. -/
import Derived.Test.YtffojmgmpfjlhaaGreatDoorInsnLabelsZ2
set_option linter.unusedVariables false
set_option linter.unusedSimpArgs false
namespace Go.Proofs.YtffojmgmpfjlhaaGreatDoor.Q
open Go.Proofs.YtffojmgmpfjlhaaGreatDoor Go.RowKit Go.Proofs.YtffojmgmpfjlhaaGreatDoorW.PrintWords Go.Proofs.YtffojmgmpfjlhaaGreatDoorW.PrintLast Go.Proofs.YtffojmgmpfjlhaaGreatDoorW.PrintMore
attribute [local go_sem] max2_int min2_int max_two min_two max_three min_three max_four min_four
def lzlabel.f (a0:Int):Option (ByteArray):=(some (([(wrap64 (97+(wrap64 (Int.tdiv a0 10)))) % 256,(wrap64 (97+(Int.tmod a0 10))) % 256]:List Int):List Int)).bind fun y839=>(if 1+(strOfNums y839).size≤9223372036854775807 then (some ((⟨#[108]⟩:zB) ++ (strOfNums y839))) else (none))
set_option maxHeartbeats 8000000 in
set_option maxRecDepth 100000 in
theorem lzlabel.calls (a0:Int) (r:ByteArray) (w:World) (h:lzlabel.f a0=some r) :
  Calls Tryz.prog 39 #[.int .i64 a0] w fun e w'=>e=.returned (.string r)∧Below w.heap.size w w':=by
 have HB:=Aside0.mk (Below.refl w.heap.size w);have H:((some (([(wrap64 (97+(wrap64 (Int.tdiv a0 10)))) % 256,(wrap64 (97+(Int.tmod a0 10))) % 256]:List Int):List Int)).bind fun y839=>(if 1+(strOfNums y839).size≤9223372036854775807 then (some ((⟨#[108]⟩:zB) ++ (strOfNums y839))) else (none)))=some r:=h;clear h;obtain ⟨y839,hy839⟩:∃ y_:List Int,y_=(([(wrap64 (97+(wrap64 (Int.tdiv a0 10)))) % 256,(wrap64 (97+(Int.tmod a0 10))) % 256]:List Int)):=⟨_,rfl⟩;replace H:(if 1+(strOfNums y839).size≤9223372036854775807 then (some ((⟨#[108]⟩:zB) ++ (strOfNums y839))) else (none))=some r:=by first | (rw [hy839];with_reducible exact H) | (have H2_:=(Option.bind_some _ _).symm.trans H;rw [hy839];with_reducible exact H2_) | (have H2_:=(Option.bind_some _ _).symm.trans H;with_reducible exact H2_) | with_reducible exact H | (rw [hy839];exact H) | exact H
 have Ny839:=Aside0.mk hy839;clear hy839;by_cases c2:1+(strOfNums y839).size≤9223372036854775807
 ·rw [if_pos c2] at H;have c2b0:=eq_true c2;have c2b1:=decide_eq_true c2;try have c2b2:(9223372036854775807 < 1+(strOfNums y839).size)=False:=eq_false (Nat.not_lt.2 c2)
  obtain rfl:=Option.some.inj H;go_enter Tryz.func39,Tryz.ntmps39
  go_wp2_with (first | ((with_reducible refine gate_dst (N:=11) rfl ?_);refine Kd.R_lit (Kd.int .u8) _ 5 ?hg (N:=11) ?hd (xs:=([(wrap64 (97+(wrap64 (Int.tdiv a0 10)))) % 256,(wrap64 (97+(Int.tmod a0 10))) % 256]:List Int)) (inner:=[.int .u8 ((wrap64 (97+(wrap64 (Int.tdiv a0 10)))) % 256),.int .u8 ((wrap64 (97+(Int.tmod a0 10))) % 256)]) (ok:=fun _=>True) (okp:=fun _=>True) ?hr ?hp (fun _ hk=>hk) trivial (Below.refl _ _) (Nat.le_refl _) (by simp) ?_;(case hd=>rfl);(case hg=>rfl);(case hr=>first | (go_simp;done) | (go_simp;rfl));(case hp=>exact (Reps.one (show Kd.M (Kd.int .u8) _ _ _ ((wrap64 (97+(wrap64 (Int.tdiv a0 10)))) % 256) [.int .u8 ((wrap64 (97+(wrap64 (Int.tdiv a0 10)))) % 256)] from rfl) (Reps.one (show Kd.M (Kd.int .u8) _ _ _ ((wrap64 (97+(Int.tmod a0 10))) % 256) [.int .u8 ((wrap64 (97+(Int.tmod a0 10))) % 256)] from rfl) (Reps.none _ _))));intro v840 w3 ho4 hb hg_ hnew_;clear hg_ hnew_;(first | rw [← Ny839.out] at ho4 | (simp only [Int.reduceToNat] at ho4;rw [← Ny839.out] at ho4));have n0_:=Aside0.mk (Kd.R_lower ho4 (below_size blw));have n1_:=Aside0.mk (below_step blw hb);clear HB;have HO841:=n0_;have HB:=n1_;clear n0_ n1_;clear hb ho4;have hcv5:=own_string (P:=Tryz.prog) Tryz.underlying24 Tryz.underlying5 Tryz.underlying9 (Kd.own_of_R HO841.out)))
  go_ret;exact ⟨rew,blw⟩
 ·rw [if_neg c2] at H;exact absurd H (by simp)
end Go.Proofs.YtffojmgmpfjlhaaGreatDoor.Q
