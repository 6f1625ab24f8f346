/- Parts of the proof that the program's token functions return what the specification's return. -/
import Derived.Test.YtadgddipkbdnbaaGreatDoorLexTokensZ1
import Derived.Test.YtadgddipkbdnbaaGreatDoorLexTokensZ2
import Derived.Test.YtadgddipkbdnbaaGreatDoorLexTokensZ3
import Derived.Deep.RegionHeld3
import Derived.Shelf.Strings.Builder1
import Derived.Shelf.Strings.Builder2
import Derived.Shelf.Strings.OnBuilder
import Derived.Shelf.Small.Strs
import Derived.Shelf.Strings.BuilderF
import Derived.Shelf.Strings.BuilderK
import Derived.Shelf.LaysM
import Derived.Shelf.Strconv.Clone
import Derived.Shelf.Strconv.SyntaxError
import Derived.Shelf.LaysC
import Derived.Shelf.Strconv.ToError
import Derived.Shelf.Strconv.Lower
import Derived.Shelf.Strconv.RangeError
import Derived.Shelf.Strconv.ToErrorRange
import Derived.Shelf.Strings.Search1
import Derived.Shelf.Strings.Search2
import Derived.Shelf.Strings.Search3
import Derived.Shelf.Strings.Count
import Derived.Shelf.Strings.Shaped
import Derived.Shelf.Strings.LastIndex
import Derived.Shelf.Strings.Prefix
import Derived.Shelf.Strings.Split
import Derived.Shelf.Strings.Fields
import Derived.Shelf.Strings.SplitShaped
import Derived.Shelf.Unicode.Latin
import Derived.Shelf.Unicode.Is16White
import Derived.Shelf.Unicode.IsSpaceAny
import Derived.Shelf.Unicode.Is16Any
import Derived.Shelf.Unicode.Is32Any
import Derived.Shelf.Unicode.ExclAny
import Derived.Shelf.Slices.Turned
import Derived.Test.YtadgddipkbdnbaaGreatDoorProg
set_option linter.unusedVariables false
set_option linter.unusedSimpArgs false
namespace Go.Proofs.YtadgddipkbdnbaaGreatDoor.Q
open Go.Proofs.YtadgddipkbdnbaaGreatDoor Go.RowKit Go.Proofs.YtadgddipkbdnbaaGreatDoorW.PrintWords Go.Proofs.YtadgddipkbdnbaaGreatDoorW.PrintLast Go.Proofs.YtadgddipkbdnbaaGreatDoorW.PrintMore
attribute [local go_sem] max2_int min2_int max_two min_two max_three min_three max_four min_four
def rzSigns.f  : Option (List ByteArray):=some (([(⟨#[60,60,61]⟩:zB),(⟨#[62,62,61]⟩:zB),(⟨#[45,62]⟩:zB),(⟨#[43,61]⟩:zB),(⟨#[45,61]⟩:zB),(⟨#[42,61]⟩:zB),(⟨#[47,61]⟩:zB),(⟨#[37,61]⟩:zB),(⟨#[38,61]⟩:zB),(⟨#[124,61]⟩:zB),(⟨#[94,61]⟩:zB),(⟨#[43,43]⟩:zB),(⟨#[45,45]⟩:zB),(⟨#[60,60]⟩:zB),(⟨#[62,62]⟩:zB),(⟨#[60,61]⟩:zB),(⟨#[62,61]⟩:zB),(⟨#[61,61]⟩:zB),(⟨#[33,61]⟩:zB),(⟨#[38,38]⟩:zB),(⟨#[124,124]⟩:zB),(⟨#[94,94]⟩:zB),(⟨#[40]⟩:zB),(⟨#[41]⟩:zB),(⟨#[91]⟩:zB),(⟨#[93]⟩:zB),(⟨#[123]⟩:zB),(⟨#[125]⟩:zB),(⟨#[44]⟩:zB),(⟨#[59]⟩:zB),(⟨#[58]⟩:zB),(⟨#[63]⟩:zB),(⟨#[46]⟩:zB),(⟨#[61]⟩:zB),(⟨#[43]⟩:zB),(⟨#[45]⟩:zB),(⟨#[42]⟩:zB),(⟨#[47]⟩:zB),(⟨#[37]⟩:zB),(⟨#[38]⟩:zB),(⟨#[124]⟩:zB),(⟨#[94]⟩:zB),(⟨#[126]⟩:zB),(⟨#[33]⟩:zB),(⟨#[60]⟩:zB),(⟨#[62]⟩:zB),(⟨#[64]⟩:zB)]:List ByteArray))
set_option maxHeartbeats 8000000 in
set_option maxRecDepth 100000 in
theorem rzSigns.calls  (r:List ByteArray) (w:World) (h:rzSigns.f  = some r) :
  Calls Tryz.prog 46 #[] w fun e w'=>∃ v0_:Value,e=.returned (v0_)∧Kd.R Kd.string 9 w' w.heap.size (fun _=>True) v0_ r∧Below w.heap.size w w':=by
 have HB:=Aside0.mk (Below.refl w.heap.size w);have H:(some (([(⟨#[60,60,61]⟩:zB),(⟨#[62,62,61]⟩:zB),(⟨#[45,62]⟩:zB),(⟨#[43,61]⟩:zB),(⟨#[45,61]⟩:zB),(⟨#[42,61]⟩:zB),(⟨#[47,61]⟩:zB),(⟨#[37,61]⟩:zB),(⟨#[38,61]⟩:zB),(⟨#[124,61]⟩:zB),(⟨#[94,61]⟩:zB),(⟨#[43,43]⟩:zB),(⟨#[45,45]⟩:zB),(⟨#[60,60]⟩:zB),(⟨#[62,62]⟩:zB),(⟨#[60,61]⟩:zB),(⟨#[62,61]⟩:zB),(⟨#[61,61]⟩:zB),(⟨#[33,61]⟩:zB),(⟨#[38,38]⟩:zB),(⟨#[124,124]⟩:zB),(⟨#[94,94]⟩:zB),(⟨#[40]⟩:zB),(⟨#[41]⟩:zB),(⟨#[91]⟩:zB),(⟨#[93]⟩:zB),(⟨#[123]⟩:zB),(⟨#[125]⟩:zB),(⟨#[44]⟩:zB),(⟨#[59]⟩:zB),(⟨#[58]⟩:zB),(⟨#[63]⟩:zB),(⟨#[46]⟩:zB),(⟨#[61]⟩:zB),(⟨#[43]⟩:zB),(⟨#[45]⟩:zB),(⟨#[42]⟩:zB),(⟨#[47]⟩:zB),(⟨#[37]⟩:zB),(⟨#[38]⟩:zB),(⟨#[124]⟩:zB),(⟨#[94]⟩:zB),(⟨#[126]⟩:zB),(⟨#[33]⟩:zB),(⟨#[60]⟩:zB),(⟨#[62]⟩:zB),(⟨#[64]⟩:zB)]:List ByteArray)))=some r:=h;clear h;obtain ⟨y105,hy105⟩:∃ y_:List ByteArray,y_=(([(⟨#[60,60,61]⟩:zB),(⟨#[62,62,61]⟩:zB),(⟨#[45,62]⟩:zB),(⟨#[43,61]⟩:zB),(⟨#[45,61]⟩:zB),(⟨#[42,61]⟩:zB),(⟨#[47,61]⟩:zB),(⟨#[37,61]⟩:zB),(⟨#[38,61]⟩:zB),(⟨#[124,61]⟩:zB),(⟨#[94,61]⟩:zB),(⟨#[43,43]⟩:zB),(⟨#[45,45]⟩:zB),(⟨#[60,60]⟩:zB),(⟨#[62,62]⟩:zB),(⟨#[60,61]⟩:zB),(⟨#[62,61]⟩:zB),(⟨#[61,61]⟩:zB),(⟨#[33,61]⟩:zB),(⟨#[38,38]⟩:zB),(⟨#[124,124]⟩:zB),(⟨#[94,94]⟩:zB),(⟨#[40]⟩:zB),(⟨#[41]⟩:zB),(⟨#[91]⟩:zB),(⟨#[93]⟩:zB),(⟨#[123]⟩:zB),(⟨#[125]⟩:zB),(⟨#[44]⟩:zB),(⟨#[59]⟩:zB),(⟨#[58]⟩:zB),(⟨#[63]⟩:zB),(⟨#[46]⟩:zB),(⟨#[61]⟩:zB),(⟨#[43]⟩:zB),(⟨#[45]⟩:zB),(⟨#[42]⟩:zB),(⟨#[47]⟩:zB),(⟨#[37]⟩:zB),(⟨#[38]⟩:zB),(⟨#[124]⟩:zB),(⟨#[94]⟩:zB),(⟨#[126]⟩:zB),(⟨#[33]⟩:zB),(⟨#[60]⟩:zB),(⟨#[62]⟩:zB),(⟨#[64]⟩:zB)]:List ByteArray)):=⟨_,rfl⟩;replace H:(some y105)=some r:=by first | (rw [hy105];with_reducible exact H) | (have H2_:=(Option.bind_some _ _).symm.trans H;rw [hy105];with_reducible exact H2_) | (have H2_:=(Option.bind_some _ _).symm.trans H;with_reducible exact H2_) | with_reducible exact H | (rw [hy105];exact H) | exact H
 have Ny105:=Aside0.mk hy105;clear hy105;obtain rfl:=Option.some.inj H;go_enter Tryz.func46,Tryz.ntmps46
 go_wp2_with (first | ((with_reducible refine gate_dst (N:=1) rfl ?_);refine Kd.R_lit Kd.string _ 9 ?hg (N:=1) ?hd (xs:=([(⟨#[60,60,61]⟩:zB),(⟨#[62,62,61]⟩:zB),(⟨#[45,62]⟩:zB),(⟨#[43,61]⟩:zB),(⟨#[45,61]⟩:zB),(⟨#[42,61]⟩:zB),(⟨#[47,61]⟩:zB),(⟨#[37,61]⟩:zB),(⟨#[38,61]⟩:zB),(⟨#[124,61]⟩:zB),(⟨#[94,61]⟩:zB),(⟨#[43,43]⟩:zB),(⟨#[45,45]⟩:zB),(⟨#[60,60]⟩:zB),(⟨#[62,62]⟩:zB),(⟨#[60,61]⟩:zB),(⟨#[62,61]⟩:zB),(⟨#[61,61]⟩:zB),(⟨#[33,61]⟩:zB),(⟨#[38,38]⟩:zB),(⟨#[124,124]⟩:zB),(⟨#[94,94]⟩:zB),(⟨#[40]⟩:zB),(⟨#[41]⟩:zB),(⟨#[91]⟩:zB),(⟨#[93]⟩:zB),(⟨#[123]⟩:zB),(⟨#[125]⟩:zB),(⟨#[44]⟩:zB),(⟨#[59]⟩:zB),(⟨#[58]⟩:zB),(⟨#[63]⟩:zB),(⟨#[46]⟩:zB),(⟨#[61]⟩:zB),(⟨#[43]⟩:zB),(⟨#[45]⟩:zB),(⟨#[42]⟩:zB),(⟨#[47]⟩:zB),(⟨#[37]⟩:zB),(⟨#[38]⟩:zB),(⟨#[124]⟩:zB),(⟨#[94]⟩:zB),(⟨#[126]⟩:zB),(⟨#[33]⟩:zB),(⟨#[60]⟩:zB),(⟨#[62]⟩:zB),(⟨#[64]⟩:zB)]:List ByteArray)) (inner:=[.string (⟨#[60,60,61]⟩:zB),.string (⟨#[62,62,61]⟩:zB),.string (⟨#[45,62]⟩:zB),.string (⟨#[43,61]⟩:zB),.string (⟨#[45,61]⟩:zB),.string (⟨#[42,61]⟩:zB),.string (⟨#[47,61]⟩:zB),.string (⟨#[37,61]⟩:zB),.string (⟨#[38,61]⟩:zB),.string (⟨#[124,61]⟩:zB),.string (⟨#[94,61]⟩:zB),.string (⟨#[43,43]⟩:zB),.string (⟨#[45,45]⟩:zB),.string (⟨#[60,60]⟩:zB),.string (⟨#[62,62]⟩:zB),.string (⟨#[60,61]⟩:zB),.string (⟨#[62,61]⟩:zB),.string (⟨#[61,61]⟩:zB),.string (⟨#[33,61]⟩:zB),.string (⟨#[38,38]⟩:zB),.string (⟨#[124,124]⟩:zB),.string (⟨#[94,94]⟩:zB),.string (⟨#[40]⟩:zB),.string (⟨#[41]⟩:zB),.string (⟨#[91]⟩:zB),.string (⟨#[93]⟩:zB),.string (⟨#[123]⟩:zB),.string (⟨#[125]⟩:zB),.string (⟨#[44]⟩:zB),.string (⟨#[59]⟩:zB),.string (⟨#[58]⟩:zB),.string (⟨#[63]⟩:zB),.string (⟨#[46]⟩:zB),.string (⟨#[61]⟩:zB),.string (⟨#[43]⟩:zB),.string (⟨#[45]⟩:zB),.string (⟨#[42]⟩:zB),.string (⟨#[47]⟩:zB),.string (⟨#[37]⟩:zB),.string (⟨#[38]⟩:zB),.string (⟨#[124]⟩:zB),.string (⟨#[94]⟩:zB),.string (⟨#[126]⟩:zB),.string (⟨#[33]⟩:zB),.string (⟨#[60]⟩:zB),.string (⟨#[62]⟩:zB),.string (⟨#[64]⟩:zB)]) (ok:=fun _=>True) (okp:=fun _=>True) ?hr ?hp (fun _ hk=>hk) trivial (Below.refl _ _) (Nat.le_refl _) (by simp) ?_;(case hd=>rfl);(case hg=>rfl);(case hr=>first | (go_simp;done) | (go_simp;rfl));(case hp=>exact (Reps.one (show Kd.M Kd.string _ _ _ (⟨#[60,60,61]⟩:zB) [.string (⟨#[60,60,61]⟩:zB)] from rfl) (Reps.one (show Kd.M Kd.string _ _ _ (⟨#[62,62,61]⟩:zB) [.string (⟨#[62,62,61]⟩:zB)] from rfl) (Reps.one (show Kd.M Kd.string _ _ _ (⟨#[45,62]⟩:zB) [.string (⟨#[45,62]⟩:zB)] from rfl) (Reps.one (show Kd.M Kd.string _ _ _ (⟨#[43,61]⟩:zB) [.string (⟨#[43,61]⟩:zB)] from rfl) (Reps.one (show Kd.M Kd.string _ _ _ (⟨#[45,61]⟩:zB) [.string (⟨#[45,61]⟩:zB)] from rfl) (Reps.one (show Kd.M Kd.string _ _ _ (⟨#[42,61]⟩:zB) [.string (⟨#[42,61]⟩:zB)] from rfl) (Reps.one (show Kd.M Kd.string _ _ _ (⟨#[47,61]⟩:zB) [.string (⟨#[47,61]⟩:zB)] from rfl) (Reps.one (show Kd.M Kd.string _ _ _ (⟨#[37,61]⟩:zB) [.string (⟨#[37,61]⟩:zB)] from rfl) (Reps.one (show Kd.M Kd.string _ _ _ (⟨#[38,61]⟩:zB) [.string (⟨#[38,61]⟩:zB)] from rfl) (Reps.one (show Kd.M Kd.string _ _ _ (⟨#[124,61]⟩:zB) [.string (⟨#[124,61]⟩:zB)] from rfl) (Reps.one (show Kd.M Kd.string _ _ _ (⟨#[94,61]⟩:zB) [.string (⟨#[94,61]⟩:zB)] from rfl) (Reps.one (show Kd.M Kd.string _ _ _ (⟨#[43,43]⟩:zB) [.string (⟨#[43,43]⟩:zB)] from rfl) (Reps.one (show Kd.M Kd.string _ _ _ (⟨#[45,45]⟩:zB) [.string (⟨#[45,45]⟩:zB)] from rfl) (Reps.one (show Kd.M Kd.string _ _ _ (⟨#[60,60]⟩:zB) [.string (⟨#[60,60]⟩:zB)] from rfl) (Reps.one (show Kd.M Kd.string _ _ _ (⟨#[62,62]⟩:zB) [.string (⟨#[62,62]⟩:zB)] from rfl) (Reps.one (show Kd.M Kd.string _ _ _ (⟨#[60,61]⟩:zB) [.string (⟨#[60,61]⟩:zB)] from rfl) (Reps.one (show Kd.M Kd.string _ _ _ (⟨#[62,61]⟩:zB) [.string (⟨#[62,61]⟩:zB)] from rfl) (Reps.one (show Kd.M Kd.string _ _ _ (⟨#[61,61]⟩:zB) [.string (⟨#[61,61]⟩:zB)] from rfl) (Reps.one (show Kd.M Kd.string _ _ _ (⟨#[33,61]⟩:zB) [.string (⟨#[33,61]⟩:zB)] from rfl) (Reps.one (show Kd.M Kd.string _ _ _ (⟨#[38,38]⟩:zB) [.string (⟨#[38,38]⟩:zB)] from rfl) (Reps.one (show Kd.M Kd.string _ _ _ (⟨#[124,124]⟩:zB) [.string (⟨#[124,124]⟩:zB)] from rfl) (Reps.one (show Kd.M Kd.string _ _ _ (⟨#[94,94]⟩:zB) [.string (⟨#[94,94]⟩:zB)] from rfl) (Reps.one (show Kd.M Kd.string _ _ _ (⟨#[40]⟩:zB) [.string (⟨#[40]⟩:zB)] from rfl) (Reps.one (show Kd.M Kd.string _ _ _ (⟨#[41]⟩:zB) [.string (⟨#[41]⟩:zB)] from rfl) (Reps.one (show Kd.M Kd.string _ _ _ (⟨#[91]⟩:zB) [.string (⟨#[91]⟩:zB)] from rfl) (Reps.one (show Kd.M Kd.string _ _ _ (⟨#[93]⟩:zB) [.string (⟨#[93]⟩:zB)] from rfl) (Reps.one (show Kd.M Kd.string _ _ _ (⟨#[123]⟩:zB) [.string (⟨#[123]⟩:zB)] from rfl) (Reps.one (show Kd.M Kd.string _ _ _ (⟨#[125]⟩:zB) [.string (⟨#[125]⟩:zB)] from rfl) (Reps.one (show Kd.M Kd.string _ _ _ (⟨#[44]⟩:zB) [.string (⟨#[44]⟩:zB)] from rfl) (Reps.one (show Kd.M Kd.string _ _ _ (⟨#[59]⟩:zB) [.string (⟨#[59]⟩:zB)] from rfl) (Reps.one (show Kd.M Kd.string _ _ _ (⟨#[58]⟩:zB) [.string (⟨#[58]⟩:zB)] from rfl) (Reps.one (show Kd.M Kd.string _ _ _ (⟨#[63]⟩:zB) [.string (⟨#[63]⟩:zB)] from rfl) (Reps.one (show Kd.M Kd.string _ _ _ (⟨#[46]⟩:zB) [.string (⟨#[46]⟩:zB)] from rfl) (Reps.one (show Kd.M Kd.string _ _ _ (⟨#[61]⟩:zB) [.string (⟨#[61]⟩:zB)] from rfl) (Reps.one (show Kd.M Kd.string _ _ _ (⟨#[43]⟩:zB) [.string (⟨#[43]⟩:zB)] from rfl) (Reps.one (show Kd.M Kd.string _ _ _ (⟨#[45]⟩:zB) [.string (⟨#[45]⟩:zB)] from rfl) (Reps.one (show Kd.M Kd.string _ _ _ (⟨#[42]⟩:zB) [.string (⟨#[42]⟩:zB)] from rfl) (Reps.one (show Kd.M Kd.string _ _ _ (⟨#[47]⟩:zB) [.string (⟨#[47]⟩:zB)] from rfl) (Reps.one (show Kd.M Kd.string _ _ _ (⟨#[37]⟩:zB) [.string (⟨#[37]⟩:zB)] from rfl) (Reps.one (show Kd.M Kd.string _ _ _ (⟨#[38]⟩:zB) [.string (⟨#[38]⟩:zB)] from rfl) (Reps.one (show Kd.M Kd.string _ _ _ (⟨#[124]⟩:zB) [.string (⟨#[124]⟩:zB)] from rfl) (Reps.one (show Kd.M Kd.string _ _ _ (⟨#[94]⟩:zB) [.string (⟨#[94]⟩:zB)] from rfl) (Reps.one (show Kd.M Kd.string _ _ _ (⟨#[126]⟩:zB) [.string (⟨#[126]⟩:zB)] from rfl) (Reps.one (show Kd.M Kd.string _ _ _ (⟨#[33]⟩:zB) [.string (⟨#[33]⟩:zB)] from rfl) (Reps.one (show Kd.M Kd.string _ _ _ (⟨#[60]⟩:zB) [.string (⟨#[60]⟩:zB)] from rfl) (Reps.one (show Kd.M Kd.string _ _ _ (⟨#[62]⟩:zB) [.string (⟨#[62]⟩:zB)] from rfl) (Reps.one (show Kd.M Kd.string _ _ _ (⟨#[64]⟩:zB) [.string (⟨#[64]⟩:zB)] from rfl) (Reps.none _ _)))))))))))))))))))))))))))))))))))))))))))))))));intro v106 w1 ho2 hb hg_ hnew_;clear hg_ hnew_;(first | rw [← Ny105.out] at ho2 | (simp only [Int.reduceToNat] at ho2;rw [← Ny105.out] at ho2));have n0_:=Aside0.mk (Kd.R_lower ho2 (below_size blw));have n1_:=Aside0.mk (below_step blw hb);clear HB;have HO107:=n0_;have HB:=n1_;clear n0_ n1_;clear hb ho2))
 go_ret;exact ⟨_,by first | rfl | (simp [errW_none,errW_some] <;> rfl) | (simp [*,errW_none,errW_some] <;> rfl),by (with_reducible repeat (first | apply Kd.R_alloc | apply Kd.R_drewN | apply Kd.R_drew));exact HO107.out,blw⟩
end Go.Proofs.YtadgddipkbdnbaaGreatDoor.Q
namespace Go.Proofs.Lx
abbrev Bs:=List UInt8
def isBlank (c:UInt8):Bool:=c == 32 || c == 9 || c == 13 || c == 10
def isLetter (c:UInt8):Bool:=(65≤c && c≤90) || (97≤c && c≤122) || c == 95
def isDigit (c:UInt8):Bool:=48≤c && c≤57
def isHex (c:UInt8):Bool:=isDigit c || (97≤c && c≤102) || (65≤c && c≤70)
def isWord (c:UInt8):Bool:=isLetter c || isDigit c
def isDescB (c:UInt8):Bool:=isWord c || c == 58 || c == 42 || c == 63 || c == 91 || c == 93 || c == 33 || c == 94 || c == 45 || c == 46 || c == 92
def closed:Bs→Option Bs
 | []=>none
 | [_]=>none
 | a :: b :: r=>if a=42∧b=47 then some r else closed (b :: r)
theorem closed_len:∀ (t u:Bs),closed t=some u→u.length+2≤t.length
 | [],u,h=>by simp [closed] at h
 | [_],u,h=>by simp [closed] at h
 | a :: b :: r,u,h=>by
  rw [closed] at h
  split at h
  ·cases h;simp
  ·have:=closed_len (b :: r) u h
   simp at this ⊢;omega
def skipF:Nat→Bs→Except Bs Bs
 | 0,r=>.ok r
 | n+1,r =>
  match r.dropWhile isBlank with
  | 47 :: 47 :: t=>skipF n (t.dropWhile (· != 10))
  | 47 :: 42 :: t=>match closed t with
   | none=>.error (47 :: 42 :: t)
   | some u=>skipF n u
  | r'=>.ok r'
def skip (r:Bs):Except Bs Bs:=skipF (r.length+1) r
theorem dropWhile_len (p:UInt8→Bool) (l:Bs):(l.dropWhile p).length≤l.length:=by
 induction l with
 | nil=>simp
 | cons a l ih =>
  rw [List.dropWhile_cons]
  split
  ·simp;omega
  ·simp
theorem skipF_more (n:Nat):∀ (m:Nat) (r:Bs),r.length < n→n≤m→skipF m r=skipF n r:=by
 induction n with
 | zero=>intro m r h;omega
 | succ n ih =>
  intro m r h hm
  obtain ⟨m,rfl⟩:∃ k,m=k+1:=⟨m - 1,by omega⟩
  have hl:=dropWhile_len isBlank r
  simp only [skipF]
  split
  ·rename_i t e
   have:=dropWhile_len (· != 10) t
   rw [e] at hl;simp at hl
   exact ih m _ (by omega) (by omega)
  ·rename_i t e
   rw [e] at hl;simp at hl
   cases hc:closed t with
   | none=>rfl
   | some u=>have:=closed_len t u hc;exact ih m _ (by omega) (by omega)
  ·rfl
theorem skip_eq (r:Bs):skip r =
  match r.dropWhile isBlank with
  | 47 :: 47 :: t=>skip (t.dropWhile (· != 10))
  | 47 :: 42 :: t=>match closed t with
   | none=>.error (47 :: 42 :: t)
   | some u=>skip u
  | r'=>.ok r':=by
 have hl:=dropWhile_len isBlank r
 rw [skip,skipF]
 split
 ·rename_i t e
  have:=dropWhile_len (· != 10) t
  rw [e] at hl;simp at hl
  exact skipF_more _ _ _ (by omega) (by omega)
 ·rename_i t e
  rw [e] at hl;simp at hl
  cases hc:closed t with
  | none=>rfl
  | some u=>have:=closed_len t u hc;exact skipF_more _ _ _ (by omega) (by omega)
 ·rfl
def hexVal (c:UInt8):Nat:=if c≤57 then c.toNat - 48 else if 97≤c then c.toNat - 87 else c.toNat - 55
def hexes (t:Bs):Option (UInt8 × Nat) :=
 match t with
 | x :: y :: _=>if isHex x∧isHex y∧16 * hexVal x+hexVal y≠0 then some (UInt8.ofNat (16 * hexVal x+hexVal y),4) else none
 | _=>none
def esc (d:UInt8) (t:Bs):Option (UInt8 × Nat) :=
 if d=110 then some (10,2) else if d=116 then some (9,2) else if d=114 then some (13,2)
 else if d=92∨d=34∨d=39 then some (d,2)
 else if d≠120 then none else hexes t
def escT:Bs→Option (UInt8 × Nat)
 | []=>none
 | d :: u=>esc d u
def charC (c:UInt8) (t:Bs):Option (UInt8 × Nat) :=
 if c=0∨c=10 then none
 else if c≠92 then some (c,1)
 else escT t
def char:Bs→Option (UInt8 × Nat)
 | []=>none
 | c :: t=>charC c t
def valF (base:Nat):Nat→Bs→Option Nat
 | n,[]=>some n
 | n,c :: t=>if isHex c∧hexVal c < base then valF base (base * n+hexVal c) t else none
def suffixed (t:Bs):Bool:=t.getLast? == some 117 || t.getLast? == some 85
def body (t:Bs):Bs:=if suffixed t then t.dropLast else t
def radix (s:Bs):Nat × Bs :=
 match s with
 | 48 :: 120 :: d=>(16,d)
 | 48 :: 88 :: d=>(16,d)
 | 48 :: c :: d=>(8,c :: d)
 | d=>(10,d)
def limit (u:Bool):Nat:=if u then 18446744073709551616 else 9223372036854775808
def okVal (base lim:Nat) (bs:Bs):Option Nat:=(valF base 0 bs).bind fun n=>if n < lim then some n else none
def integer (t:Bs):Option (Nat × Bool) :=
 if (radix (body t)).2=[] then none
 else (okVal (radix (body t)).1 (limit (suffixed t)) (radix (body t)).2).map fun n=>(n,suffixed t)
def strF:Nat→Bs→Option (Bs × Nat)
 | 0,_=>none
 | _+1,[]=>none
 | n+1,c :: t =>
  if c=34 then some ([],1)
  else match char (c :: t) with
   | none=>none
   | some (v,k)=>match strF n ((c :: t).drop k) with
    | none=>none
    | some (vs,m)=>some (v :: vs,k+m)
def words:List Bs:=[[112,114,111,98,101],[119,104,101,110],[111,112,116,105,111,110],[105,110,108,105,110,101],[116,114,97,110,115,108,97,116,111,114],[115,101,108,102],[116,104,105,115],[115,105,122,101,111,102],[120,108,97,116,101]]
def signs:List Bs:=[[60,60,61],[62,62,61],[45,62],[43,61],[45,61],[42,61],[47,61],[37,61],[38,61],[124,61],[94,61],[43,43],[45,45],[60,60],[62,62],[60,61],[62,61],[61,61],[33,61],[38,38],[124,124],[94,94],[40],[41],[91],[93],[123],[125],[44],[59],[58],[63],[46],[61],[43],[45],[42],[47],[37],[38],[124],[94],[126],[33],[60],[62],[64]]
def signLen (r:Bs):Nat:=((signs.find? fun x=>x.isPrefixOf r).map List.length).getD 0
def one (desc:Bool) (r:Bs):Except Int (Int × Nat) :=
 match r with
 | []=>.error 110
 | c :: t =>
  if desc && isDescB c then
   let n:=(r.takeWhile isDescB).length
   if n > 200 then .error 111 else .ok (6,n)
  else if isLetter c then
   let n:=(r.takeWhile isWord).length
   if n > 31 then .error 111 else .ok (if r.take n∈words then 2 else 1,n)
  else if isDigit c then
   let n:=(r.takeWhile isWord).length
   if (integer (r.take n)).isNone then .error 112 else .ok (3,n)
  else if c=39 then
   match char t with
   | none=>.error 113
   | some (_,k)=>if t.head?=some 39∨(t.drop k).head?≠some 39 then .error 113 else .ok (3,k+2)
  else if c=34 then
   match strF (t.length+1) t with
   | none=>.error 113
   | some (_,m)=>.ok (4,m+1)
  else if signLen r=0 then .error 110 else .ok (5,signLen r)
structure Tok where
 kind:Int
 text:Bs
 at_:Nat
 deriving DecidableEq
def probeW:Bs:=[112,114,111,98,101]
def opens:List Tok→Bool
 | []=>false
 | t :: l=>(t.kind == 2 && t.text == probeW) || (t.kind == 5 && t.text == [44] && match l with | []=>false | u :: _=>u.kind == 6)
def scanF (len:Nat):Nat→List Tok→Bs→Except (Bs × Int) (List Tok)
 | 0,pre,_=>.ok pre.reverse
 | n+1,pre,r =>
  match skip r with
  | .error c=>.error (c,113)
  | .ok []=>.ok pre.reverse
  | .ok r'=>match one (opens pre) r' with
   | .error e=>.error (r',e)
   | .ok (kind,k) =>
    if pre.length=4000 then .error (r',2)
    else scanF len n (⟨kind,r'.take k,len - r'.length⟩ :: pre) (r'.drop k)
def scan (t:Bs):List Tok × Nat × Int :=
 if t.length > 20000 then ([],0,2)
 else match scanF t.length (t.length+1) [] t with
  | .ok l=>(l,0,0)
  | .error (r,e)=>([],t.length - r.length,e)
end Go.Proofs.Lx
namespace Go.Proofs.YtadgddipkbdnbaaGreatDoor
open Go.RowKit
def pB (q:Int) (c:UInt8):Bool:=isB c.toNat q
theorem u8_all (p:UInt8→Prop) [DecidablePred p] (h:∀ i:Fin 256,p (UInt8.ofNat i.1)) (c:UInt8):p c:=by
 have:=h ⟨c.toNat,c.toNat_lt⟩
 simpa using this
theorem pB_blank:∀ c,pB 1 c=Lx.isBlank c:=u8_all _ (by decide +kernel)
theorem pB_letter:∀ c,pB 2 c=Lx.isLetter c:=u8_all _ (by decide +kernel)
theorem pB_digit:∀ c,pB 4 c=Lx.isDigit c:=u8_all _ (by decide +kernel)
theorem pB_word:∀ c,pB 6 c=Lx.isWord c:=u8_all _ (by decide +kernel)
theorem pB_hex:∀ c,pB 8 c=Lx.isHex c:=u8_all _ (by decide +kernel)
theorem pB_desc:∀ c,pB 16 c=Lx.isDescB c:=u8_all _ (by decide +kernel)
def runEnd (p:UInt8→Bool) (l:List UInt8) (i:Nat):Nat:=i+((l.drop i).takeWhile p).length
theorem runEnd_le (p:UInt8→Bool) (l:List UInt8) (i:Nat) (h:i≤l.length):i≤runEnd p l i∧runEnd p l i≤l.length:=by
 unfold runEnd
 have:=List.takeWhile_prefix p (l:=l.drop i)
 have:=this.length_le
 simp at this
 omega
theorem runEnd_in (p:UInt8→Bool) (l:List UInt8) (i:Nat) (h:i < l.length) (hp:p l[i]=true):runEnd p l i=runEnd p l (i+1):=by
 unfold runEnd
 rw [List.drop_eq_getElem_cons h,List.takeWhile_cons,if_pos hp]
 simp;omega
theorem runEnd_out (p:UInt8→Bool) (l:List UInt8) (i:Nat) (h:i < l.length) (hp:p l[i]=false):runEnd p l i=i:=by
 unfold runEnd
 rw [List.drop_eq_getElem_cons h,List.takeWhile_cons,if_neg (by simp [hp])]
 simp
theorem runEnd_end (p:UInt8→Bool) (l:List UInt8) (i:Nat) (h:l.length≤i):runEnd p l i=i:=by
 unfold runEnd
 rw [List.drop_eq_nil_of_le h]
 simp
set_option maxHeartbeats 1000000 in
theorem run_any (s:ByteArray) (a:Nat) (q:Int) (w:World) (hg:GW w) (hs:s.size≤maxLen) (ha:a≤s.size) :
  Calls Tryz.prog 69 #[.string s,.int .i64 (a:Int),.int .i64 q] w fun e w'=>e=.returned (.int .i64 (runEnd (pB q) s.data.toList a:Nat))∧Below w.heap.size w w':=by
 unfold maxLen at hs
 go_enter Tryz.func69,Tryz.ntmps69
 go_wp2
 go_loopw [1] (fun i wr=>∃ k:Nat,k≤s.size∧i=.int .i64 k∧runEnd (pB q) s.data.toList a=runEnd (pB q) s.data.toList k∧Below w.heap.size w wr) (fun i _=>s.size - (intOf i).toNat)
 case atStart=>exact ⟨a,ha,rfl,rfl,Below.refl _ _⟩
 case round =>
  obtain ⟨k,hk,rfl,he,hb⟩:=hrel
  have HE:=Lib.hid he
  have hgr:GW wr:=hg.below hb (Nat.le_refl _)
  clear he
  by_cases hlt:k < s.size
  ·cases hp:pB q s[k] with
   | true =>
    have hp':isB s[k].toNat q=true:=hp
    have HP:=Lib.hid hp
    clear hp
    go_wp2_with (go_at_call 82;refine (is_any _ _ _ hgr).mono ?_;rintro e w' ⟨rfl,hb1⟩)
    go_roundw
    case rel=>exact ⟨k+1,by omega,by go_num,by rw [HE.out,runEnd_in _ _ _ (by simpa using hlt) HP.out],hb.trans (hb1.mono hb.size)⟩
    case measure=>simp [intOf];omega
   | false =>
    have hp':isB s[k].toNat q=false:=hp
    have HP:=Lib.hid hp
    clear hp
    go_wp2_with (go_at_call 82;refine (is_any _ _ _ hgr).mono ?_;rintro e w' ⟨rfl,hb1⟩)
    go_ret
    exact ⟨ret_int (by rw [HE.out,runEnd_out _ _ _ (by simpa using hlt) HP.out]),hb.trans (hb1.mono hb.size)⟩
  ·go_wp2
   go_ret
   exact ⟨ret_int (by rw [HE.out,runEnd_end _ _ _ (by simpa using hlt)]),hb⟩
structure Scn (w:World) (b:Nat) (s:ByteArray) (a:Nat):Prop where
 text:w.cell? ⟨b,0,none⟩=some (.string s)
 at_:w.cell? ⟨b,1,none⟩=some (.int .i64 (a:Int))
 free:w.frozen? ⟨b,1,none⟩=false
theorem Scn.lt {w:World} {b a:Nat} {s:ByteArray} (h:Scn w b s a):b < w.heap.size:=World.block_lt_of_cell? w _ h.text
theorem Scn.below {w w':World} {b a B:Nat} {s:ByteArray} (h:Scn w b s a) (hb:Below B w w') (hB:b < B):Scn w' b s a where
 text:=(hb.cell (p:=⟨b,0,none⟩) hB).trans h.text
 at_:=(hb.cell (p:=⟨b,1,none⟩) hB).trans h.at_
 free:=(hb.frozen (p:=⟨b,1,none⟩) hB).trans h.free
theorem below_drewN {B:Nat} {w W:World} (h:Below B w W) (n:Nat):Below B w (W.drewN n):=⟨h.os,h.tape,h.output,h.size,h.block⟩
def thrown (a:Nat) (e:Int):List PanicEntry:=[{ v:=.iface 122 (.agg #[.int .i64 (a:Int),.int .i64 e]),recovered:=false }]
set_option maxHeartbeats 400000 in
theorem fail_any (b a:Nat) (e:Int) (s:ByteArray) (w:World) (h:Scn w b s a) :
  Calls Tryz.prog 74 #[.pointer (some ⟨b,0,none⟩),.int .i64 e] w fun x w'=>x=.panicked (thrown a e)∧w=w':=by
 have h1:=h.at_
 go_enter Tryz.func74,Tryz.ntmps74
 go_wp2
 exact ⟨rfl,rfl,rfl⟩
set_option maxHeartbeats 400000 in
theorem rest_any (b a:Nat) (s:ByteArray) (w:World) (h:Scn w b s a) (ha:a≤s.size) :
  Calls Tryz.prog 127 #[.pointer (some ⟨b,0,none⟩)] w fun x w'=>x=.returned (.string (s.extract a s.size))∧Below w.heap.size w w':=by
 have h0:=h.text
 have h1:=h.at_
 go_enter Tryz.func127,Tryz.ntmps127
 go_wp2
 go_quiet (fail)
 go_wp2
 go_ret
 exact ⟨rfl,below_drewN (Below.refl _ _) _⟩
def runE (q:Int) (s:ByteArray) (a:Nat):Nat:=runEnd (pB q) s.data.toList a
theorem runE_le (q:Int) (s:ByteArray) (a:Nat) (h:a≤s.size):a≤runE q s a∧runE q s a≤s.size:=by
 have:=runEnd_le (pB q) s.data.toList a (by simpa using h)
 simpa [runE] using this
theorem run_E (s:ByteArray) (a:Nat) (q:Int) (w:World) (hg:GW w) (hs:s.size≤maxLen) (ha:a≤s.size) :
  Calls Tryz.prog 69 #[.string s,.int .i64 (a:Int),.int .i64 q] w fun e w'=>e=.returned (.int .i64 (runE q s a:Nat))∧Below w.heap.size w w':=run_any s a q w hg hs ha
set_option maxHeartbeats 1000000 in
theorem description_ok (b a:Nat) (s:ByteArray) (w:World) (hg:GW w) (h:Scn w b s a) (ha:a≤s.size) (hs:s.size≤maxLen) (hr:(runE 16 s a:Int) - a≤200) :
  Calls Tryz.prog 119 #[.pointer (some ⟨b,0,none⟩)] w fun x w'=>x=.returned (.tuple #[.int .i64 6,.int .i64 (runE 16 s a:Nat)])∧Below w.heap.size w w':=by
 have h0:=h.text
 have h1:=h.at_
 have hlt:=h.lt
 have hs':=hs
 have hl:=runE_le 16 s a ha
 unfold maxLen at hs
 go_enter Tryz.func119,Tryz.ntmps119
 go_wp2
 go_region_held3 (fun w'=>w'.cell? ⟨b,0,none⟩=some (.string s)∧w'.cell? ⟨b,1,none⟩=some (.int .i64 (a:Int))∧GW w'∧Below w.heap.size w w') (first | exact ⟨h0,h1,hg.drew,(Below.refl _ _).drew⟩ | exact ⟨(hb1.cell (World.block_lt_of_cell? _ _ k0)).trans k0,(hb1.cell (World.block_lt_of_cell? _ _ k1)).trans k1,kg.below hb1 (Nat.le_refl _),kb.trans (hb1.mono kb.size)⟩)
  (first | (go_at_call 69;obtain ⟨k0,k1,kg,kb⟩:=(by assumption:_∧_∧GW _∧Below _ _ _);refine (run_E s a 16 _ kg hs' ha).mono ?_;rintro e w1 ⟨rfl,hb1⟩))
 obtain ⟨k0,k1,kg,kb⟩:=(by assumption:_∧_∧GW _∧Below _ _ _)
 clear hb1
 go_wp2
 go_ret2
 exact ⟨rfl,kb⟩
set_option maxHeartbeats 1000000 in
theorem description_bad (b a:Nat) (s:ByteArray) (w:World) (hg:GW w) (h:Scn w b s a) (ha:a≤s.size) (hs:s.size≤maxLen) (hr:¬ (runE 16 s a:Int) - a≤200) :
  Calls Tryz.prog 119 #[.pointer (some ⟨b,0,none⟩)] w fun x w'=>x=.panicked (thrown a 111)∧Below w.heap.size w w':=by
 have h0:=h.text
 have h1:=h.at_
 have hlt:=h.lt
 have hs':=hs
 have hl:=runE_le 16 s a ha
 unfold maxLen at hs
 go_enter Tryz.func119,Tryz.ntmps119
 go_wp2
 go_region_held3 (fun w'=>w'.cell? ⟨b,0,none⟩=some (.string s)∧w'.cell? ⟨b,1,none⟩=some (.int .i64 (a:Int))∧GW w'∧Below w.heap.size w w') (first | exact ⟨h0,h1,hg.drew,(Below.refl _ _).drew⟩ | exact ⟨(hb1.cell (World.block_lt_of_cell? _ _ k0)).trans k0,(hb1.cell (World.block_lt_of_cell? _ _ k1)).trans k1,kg.below hb1 (Nat.le_refl _),kb.trans (hb1.mono kb.size)⟩)
  (first | (go_at_call 69;obtain ⟨k0,k1,kg,kb⟩:=(by assumption:_∧_∧GW _∧Below _ _ _);refine (run_E s a 16 _ kg hs' ha).mono ?_;rintro e w1 ⟨rfl,hb1⟩))
 obtain ⟨k0,k1,kg,kb⟩:=(by assumption:_∧_∧GW _∧Below _ _ _)
 clear hb1
 go_wp2_with (go_at_call 74;refine (fail_any b a 111 s _ ⟨k0,k1,(kb.frozen (p:=⟨b,1,none⟩) hlt).trans h.free⟩).mono ?_;rintro e w2 ⟨rfl,rfl⟩)
 exact ⟨rfl,rfl,kb⟩
end Go.Proofs.YtadgddipkbdnbaaGreatDoor
namespace Go.Proofs
open Go.Shelf
def Tryz.lays169_ren:Go.Shelf.Ren:=⟨fun | 169=>67 | n=>n,fun | 70=>82 | 9=>9 | 0=>0 | 72=>85 | 37=>83 | 127=>117 | 3=>3 | 5=>5 | n=>n,fun | n=>n⟩
theorem Tryz.lays169:Go.Proofs.Lays.n169 Tryz.prog Tryz.lays169_ren:={
 mixed:=by kernel_rfl
 f169:=Tryz.func67.trans (congrArg some (by kernel_rfl))
 t0:=Tryz.underlying0
 a0:=Tryz.isAgg0
 z0:=Tryz.sizeOf0
 v0:=Tryz.zeroValue0
 t3:=Tryz.underlying3
 a3:=Tryz.isAgg3
 z3:=Tryz.sizeOf3
 v3:=Tryz.zeroValue3
 t9:=Tryz.underlying9
 a9:=Tryz.isAgg9
 z9:=Tryz.sizeOf9
 v9:=Tryz.zeroValue9
 t37:=Tryz.underlying83
 a37:=Tryz.isAgg83
 z37:=Tryz.sizeOf83
 v37:=Tryz.zeroValue83
 t70:=Tryz.underlying82
 a70:=Tryz.isAgg82
 z70:=Tryz.sizeOf82
 v70:=Tryz.zeroValue82
 t72:=Tryz.underlying85
 a72:=Tryz.isAgg85
 z72:=Tryz.sizeOf85
 v72:=Tryz.zeroValue85
 t127:=Tryz.underlying117
 a127:=Tryz.isAgg117
 z127:=Tryz.sizeOf117
 v127:=Tryz.zeroValue117 }
theorem Tryz.Builder_Extra_169:Builder.Extra Tryz.prog Tryz.lays169_ren:={
 sizeBuilder:=by kernel_rfl
 liesBuilder:=by kernel_rfl
 t5:=Tryz.underlying5
 a5:=Tryz.isAgg5
 z5:=Tryz.sizeOf5
 v5:=Tryz.zeroValue5
 infoByte:=by kernel_rfl
 cellsByte:=by kernel_rfl
 sizeByte:=by kernel_rfl
 neB5:=by decide }
def Tryz.lays156_ren:Go.Shelf.Ren:=⟨fun | 156=>57 | 165=>88 | 166=>66 | 169=>67 | 240=>94 | 241=>108 | 276=>111 | 277=>134 | n=>n,fun | 31=>50 | 9=>9 | 3=>3 | 4=>4 | 0=>0 | 20=>20 | 72=>85 | 76=>89 | 70=>82 | 37=>83 | 75=>87 | 127=>117 | 164=>133 | 5=>5 | 80=>91 | n=>n,fun | n=>n⟩
theorem Tryz.lays156:Go.Proofs.Lays.n156 Tryz.prog Tryz.lays156_ren:={
 mixed:=by kernel_rfl
 f156:=Tryz.func57.trans (congrArg some (by kernel_rfl))
 f165:=Tryz.func88.trans (congrArg some (by kernel_rfl))
 f166:=Tryz.func66.trans (congrArg some (by kernel_rfl))
 f169:=Tryz.func67.trans (congrArg some (by kernel_rfl))
 f240:=Tryz.func94.trans (congrArg some (by kernel_rfl))
 f241:=Tryz.func108.trans (congrArg some (by kernel_rfl))
 f276:=Tryz.func111.trans (congrArg some (by kernel_rfl))
 f277:=Tryz.func134.trans (congrArg some (by kernel_rfl))
 t0:=Tryz.underlying0
 a0:=Tryz.isAgg0
 z0:=Tryz.sizeOf0
 v0:=Tryz.zeroValue0
 t3:=Tryz.underlying3
 a3:=Tryz.isAgg3
 z3:=Tryz.sizeOf3
 v3:=Tryz.zeroValue3
 t4:=Tryz.underlying4
 a4:=Tryz.isAgg4
 z4:=Tryz.sizeOf4
 v4:=Tryz.zeroValue4
 t9:=Tryz.underlying9
 a9:=Tryz.isAgg9
 z9:=Tryz.sizeOf9
 v9:=Tryz.zeroValue9
 t20:=Tryz.underlying20
 a20:=Tryz.isAgg20
 z20:=Tryz.sizeOf20
 v20:=Tryz.zeroValue20
 t31:=Tryz.underlying50
 a31:=Tryz.isAgg50
 z31:=Tryz.sizeOf50
 v31:=Tryz.zeroValue50
 t37:=Tryz.underlying83
 a37:=Tryz.isAgg83
 z37:=Tryz.sizeOf83
 v37:=Tryz.zeroValue83
 t70:=Tryz.underlying82
 a70:=Tryz.isAgg82
 z70:=Tryz.sizeOf82
 v70:=Tryz.zeroValue82
 t72:=Tryz.underlying85
 a72:=Tryz.isAgg85
 z72:=Tryz.sizeOf85
 v72:=Tryz.zeroValue85
 t75:=Tryz.underlying87
 a75:=Tryz.isAgg87
 z75:=Tryz.sizeOf87
 v75:=Tryz.zeroValue87
 t76:=Tryz.underlying89
 a76:=Tryz.isAgg89
 z76:=Tryz.sizeOf89
 v76:=Tryz.zeroValue89
 t127:=Tryz.underlying117
 a127:=Tryz.isAgg117
 z127:=Tryz.sizeOf117
 v127:=Tryz.zeroValue117
 t164:=Tryz.underlying133
 a164:=Tryz.isAgg133
 z164:=Tryz.sizeOf133
 v164:=Tryz.zeroValue133 }
theorem Tryz.Builder_Extra_156:Builder.Extra Tryz.prog Tryz.lays156_ren:={
 sizeBuilder:=by kernel_rfl
 liesBuilder:=by kernel_rfl
 t5:=Tryz.underlying5
 a5:=Tryz.isAgg5
 z5:=Tryz.sizeOf5
 v5:=Tryz.zeroValue5
 infoByte:=by kernel_rfl
 cellsByte:=by kernel_rfl
 sizeByte:=by kernel_rfl
 neB5:=by decide }
open Go.RowKit in
theorem Tryz.strings_Join_none (a:Option Addr) (c:Nat) (sep:ByteArray) (w:World) :
  Calls Tryz.prog 57 #[.slice a 0 c,.string sep] w fun e w'=>e=.returned (.string ⟨#[]⟩)∧w'=w:=Any.strings_Join_none Tryz.lays156 Tryz.Builder_Extra_156 a c sep w
open Go.RowKit in
theorem Tryz.strings_Join (bk o c:Nat) (xs:List ByteArray) (sep:ByteArray) (w:World) (hcells:∀ (j:Nat) x,xs[j]?=some x→w.cell? ⟨bk,o+j,none⟩=some (.string x)) (hbk:bk < w.heap.size) (hN:xs.length≤140737488355328) (hcap:xs.length≤c) (hlen:(Lib.join (xs.map (·.data.toList)) sep.data.toList).length≤140737488355328) :
  Calls Tryz.prog 57 #[.slice (some ⟨bk,o,none⟩) xs.length c,.string sep] w fun e w'=>e=.returned (.string ⟨(Lib.join (xs.map (·.data.toList)) sep.data.toList).toArray⟩)∧Below w.heap.size w w':=Any.strings_Join Tryz.lays156 Tryz.Builder_Extra_156 bk o c xs sep w hcells hbk hN hcap hlen
def Tryz.lays137_ren:Go.Shelf.Ren:=⟨fun | 137=>64 | 217=>93 | 266=>110 | n=>n,fun | 9=>9 | 5=>5 | 3=>3 | n=>n,fun | n=>n⟩
theorem Tryz.lays137:Go.Proofs.Lays.n137 Tryz.prog Tryz.lays137_ren:={
 mixed:=by kernel_rfl
 f137:=Tryz.func64.trans (congrArg some (by kernel_rfl))
 f217:=Tryz.func93.trans (congrArg some (by kernel_rfl))
 f266:=Tryz.func110.trans (congrArg some (by kernel_rfl))
 t3:=Tryz.underlying3
 a3:=Tryz.isAgg3
 z3:=Tryz.sizeOf3
 v3:=Tryz.zeroValue3
 t5:=Tryz.underlying5
 a5:=Tryz.isAgg5
 z5:=Tryz.sizeOf5
 v5:=Tryz.zeroValue5
 t9:=Tryz.underlying9
 a9:=Tryz.isAgg9
 z9:=Tryz.sizeOf9
 v9:=Tryz.zeroValue9 }
open Go.RowKit in
theorem Tryz.strings_IndexByte (s:ByteArray) (c:Int) (w:World) :
  Calls Tryz.prog 64 #[.string s,.int .u8 c] w fun e w'=>e=.returned (.int .i64 (Lib.indexByte s.data.toList c.toNat.toUInt8))∧w'=w:=Any.strings_IndexByte Tryz.lays137 s c w
open Go.RowKit in
theorem Tryz.Builder_String_any_f (B b:Nat) (l:List UInt8) (w:World) (h:Lib.IsBuilderF 85 5 B b (Lib.byteCells l) w) (hBw:B≤w.heap.size) :
  Calls Tryz.prog 67 #[.pointer (some ⟨b,0,none⟩)] w fun e w'=>e=.returned (.string ⟨l.toArray⟩)∧(Lib.IsBuilderF 85 5 B b (Lib.byteCells l) w'∧Below B w w'):=Any.Builder_String_any_f Tryz.lays169 Tryz.Builder_Extra_169 B b l w h hBw
def Tryz.laysM316_ren:Go.Shelf.Ren:=⟨fun | 316=>102 | n=>n,fun | 9=>9 | 3=>3 | 4=>4 | 37=>83 | 0=>0 | 127=>117 | 5=>5 | n=>n,fun | n=>n⟩
theorem Tryz.laysM316:Go.Proofs.LaysM.n316 Tryz.prog Tryz.laysM316_ren:={
 mixed:=by kernel_rfl
 f316:=Tryz.func102.trans (congrArg some (by kernel_rfl))
 t0:=Tryz.underlying0
 a0:=Tryz.isAgg0
 z0:=Tryz.sizeOf0
 v0:=Tryz.zeroValue0
 t3:=Tryz.underlying3
 a3:=Tryz.isAgg3
 z3:=Tryz.sizeOf3
 v3:=Tryz.zeroValue3
 t4:=Tryz.underlying4
 a4:=Tryz.isAgg4
 z4:=Tryz.sizeOf4
 v4:=Tryz.zeroValue4
 t9:=Tryz.underlying9
 a9:=Tryz.isAgg9
 z9:=Tryz.sizeOf9
 v9:=Tryz.zeroValue9
 t37:=Tryz.underlying83
 a37:=Tryz.isAgg83
 z37:=Tryz.sizeOf83
 v37:=Tryz.zeroValue83
 t127:=Tryz.underlying117
 a127:=Tryz.isAgg117
 z127:=Tryz.sizeOf117
 v127:=Tryz.zeroValue117
 t5:=Tryz.underlying5
 a5:=Tryz.isAgg5
 z5:=Tryz.sizeOf5
 v5:=Tryz.zeroValue5
 i0:=by kernel_rfl
 i3:=by kernel_rfl
 i4:=by kernel_rfl
 i5:=by kernel_rfl
 i9:=by kernel_rfl
 i37:=by kernel_rfl
 i127:=by kernel_rfl }
open Go.RowKit in
theorem Tryz.stringslite_Clone (s:ByteArray) (w:World) (hlim:s.size≤281474976710656) :
  Calls Tryz.prog 102 #[.string s] w fun e w'=>e=.returned (.string s)∧Below w.heap.size w w':=Any.stringslite_Clone Tryz.laysM316 s w hlim
def Tryz.laysC245_ren:Go.Shelf.Ren:=⟨fun | 245=>105 | 279=>130 | 280=>131 | 281=>132 | 282=>133 | 316=>102 | 171=>142 | 205=>141 | 243=>145 | 246=>146 | 283=>147 | 284=>148 | 285=>149 | 286=>150 | 129=>152 | 317=>151 | 318=>153 | 319=>154 | 320=>155 | 337=>156 | 338=>157 | n=>n,fun | 9=>9 | 3=>3 | 75=>87 | 167=>148 | 4=>4 | 168=>151 | 210=>169 | 37=>83 | 0=>0 | 127=>117 | 145=>179 | 143=>177 | 2=>2 | 171=>181 | 53=>48 | 5=>5 | 173=>184 | 212=>187 | 51=>138 | 20=>20 | 213=>188 | 46=>150 | 232=>192 | 233=>193 | 80=>91 | n=>n,fun | 15=>4 | 16=>5 | 17=>6 | 18=>7 | 19=>8 | n=>n⟩
theorem Tryz.laysC245:Go.Proofs.LaysC.n245 Tryz.prog Tryz.laysC245_ren:={
 mixed:=by kernel_rfl
 f129:=Tryz.func152.trans (congrArg some (by kernel_rfl))
 f171:=Tryz.func142.trans (congrArg some (by kernel_rfl))
 f205:=Tryz.func141.trans (congrArg some (by kernel_rfl))
 f243:=Tryz.func145.trans (congrArg some (by kernel_rfl))
 f245:=Tryz.func105.trans (congrArg some (by kernel_rfl))
 f246:=Tryz.func146.trans (congrArg some (by kernel_rfl))
 f279:=Tryz.func130.trans (congrArg some (by kernel_rfl))
 f280:=Tryz.func131.trans (congrArg some (by kernel_rfl))
 f281:=Tryz.func132.trans (congrArg some (by kernel_rfl))
 f282:=Tryz.func133.trans (congrArg some (by kernel_rfl))
 f283:=Tryz.func147.trans (congrArg some (by kernel_rfl))
 f284:=Tryz.func148.trans (congrArg some (by kernel_rfl))
 f285:=Tryz.func149.trans (congrArg some (by kernel_rfl))
 f286:=Tryz.func150.trans (congrArg some (by kernel_rfl))
 f316:=Tryz.func102.trans (congrArg some (by kernel_rfl))
 f317:=Tryz.func151.trans (congrArg some (by kernel_rfl))
 f318:=Tryz.func153.trans (congrArg some (by kernel_rfl))
 f319:=Tryz.func154.trans (congrArg some (by kernel_rfl))
 f320:=Tryz.func155.trans (congrArg some (by kernel_rfl))
 f337:=Tryz.func156.trans (congrArg some (by kernel_rfl))
 f338:=Tryz.func157.trans (congrArg some (by kernel_rfl))
 t0:=Tryz.underlying0
 a0:=Tryz.isAgg0
 z0:=Tryz.sizeOf0
 v0:=Tryz.zeroValue0
 t2:=Tryz.underlying2
 a2:=Tryz.isAgg2
 z2:=Tryz.sizeOf2
 v2:=Tryz.zeroValue2
 t3:=Tryz.underlying3
 a3:=Tryz.isAgg3
 z3:=Tryz.sizeOf3
 v3:=Tryz.zeroValue3
 t4:=Tryz.underlying4
 a4:=Tryz.isAgg4
 z4:=Tryz.sizeOf4
 v4:=Tryz.zeroValue4
 t5:=Tryz.underlying5
 a5:=Tryz.isAgg5
 z5:=Tryz.sizeOf5
 v5:=Tryz.zeroValue5
 t9:=Tryz.underlying9
 a9:=Tryz.isAgg9
 z9:=Tryz.sizeOf9
 v9:=Tryz.zeroValue9
 t20:=Tryz.underlying20
 a20:=Tryz.isAgg20
 z20:=Tryz.sizeOf20
 v20:=Tryz.zeroValue20
 t37:=Tryz.underlying83
 a37:=Tryz.isAgg83
 z37:=Tryz.sizeOf83
 v37:=Tryz.zeroValue83
 t46:=Tryz.underlying150
 a46:=Tryz.isAgg150
 z46:=Tryz.sizeOf150
 v46:=Tryz.zeroValue150
 t51:=Tryz.underlying138
 a51:=Tryz.isAgg138
 z51:=Tryz.sizeOf138
 v51:=Tryz.zeroValue138
 t53:=Tryz.underlying48
 a53:=Tryz.isAgg48
 z53:=Tryz.sizeOf48
 v53:=Tryz.zeroValue48
 t75:=Tryz.underlying87
 a75:=Tryz.isAgg87
 z75:=Tryz.sizeOf87
 v75:=Tryz.zeroValue87
 t127:=Tryz.underlying117
 a127:=Tryz.isAgg117
 z127:=Tryz.sizeOf117
 v127:=Tryz.zeroValue117
 t143:=Tryz.underlying177
 a143:=Tryz.isAgg177
 z143:=Tryz.sizeOf177
 v143:=Tryz.zeroValue177
 t145:=Tryz.underlying179
 a145:=Tryz.isAgg179
 z145:=Tryz.sizeOf179
 v145:=Tryz.zeroValue179
 t167:=Tryz.underlying148
 a167:=Tryz.isAgg148
 z167:=Tryz.sizeOf148
 v167:=Tryz.zeroValue148
 t168:=Tryz.underlying151
 a168:=Tryz.isAgg151
 z168:=Tryz.sizeOf151
 v168:=Tryz.zeroValue151
 t171:=Tryz.underlying181
 a171:=Tryz.isAgg181
 z171:=Tryz.sizeOf181
 v171:=Tryz.zeroValue181
 t173:=Tryz.underlying184
 a173:=Tryz.isAgg184
 z173:=Tryz.sizeOf184
 v173:=Tryz.zeroValue184
 t210:=Tryz.underlying169
 a210:=Tryz.isAgg169
 z210:=Tryz.sizeOf169
 v210:=Tryz.zeroValue169
 t212:=Tryz.underlying187
 a212:=Tryz.isAgg187
 z212:=Tryz.sizeOf187
 v212:=Tryz.zeroValue187
 t213:=Tryz.underlying188
 a213:=Tryz.isAgg188
 z213:=Tryz.sizeOf188
 t232:=Tryz.underlying192
 a232:=Tryz.isAgg192
 z232:=Tryz.sizeOf192
 v232:=Tryz.zeroValue192
 t233:=Tryz.underlying193
 a233:=Tryz.isAgg193
 z233:=Tryz.sizeOf193
 v233:=Tryz.zeroValue193
 g15:=by kernel_rfl
 g16:=by kernel_rfl
 g17:=by kernel_rfl
 g18:=by kernel_rfl
 g19:=by kernel_rfl
 t80:=Tryz.underlying91
 a80:=Tryz.isAgg91
 z80:=Tryz.sizeOf91
 v80:=Tryz.zeroValue91
 i0:=by kernel_rfl
 i2:=by kernel_rfl
 i3:=by kernel_rfl
 i4:=by kernel_rfl
 i5:=by kernel_rfl
 i9:=by kernel_rfl
 i20:=by kernel_rfl
 i37:=by kernel_rfl
 i46:=by kernel_rfl
 i51:=by kernel_rfl
 i53:=by kernel_rfl
 i75:=by kernel_rfl
 i80:=by kernel_rfl
 i127:=by kernel_rfl
 i143:=by kernel_rfl
 i145:=by kernel_rfl
 i167:=by kernel_rfl
 i168:=by kernel_rfl
 i171:=by kernel_rfl
 i173:=by kernel_rfl
 i210:=by kernel_rfl
 i212:=by kernel_rfl
 i232:=by kernel_rfl
 i233:=by kernel_rfl
 m15:=by kernel_rfl
 m16:=by kernel_rfl
 m17:=by kernel_rfl
 m18:=by kernel_rfl
 m19:=by kernel_rfl
 c0:=by kernel_rfl
 c2:=by kernel_rfl
 c3:=by kernel_rfl
 c4:=by kernel_rfl
 c5:=by kernel_rfl
 c9:=by kernel_rfl
 c20:=by kernel_rfl
 c37:=by kernel_rfl
 c46:=by kernel_rfl
 c51:=by kernel_rfl
 c53:=by kernel_rfl
 c75:=by kernel_rfl
 c80:=by kernel_rfl
 c127:=by kernel_rfl
 c143:=by kernel_rfl
 c145:=by kernel_rfl
 c167:=by kernel_rfl
 c168:=by kernel_rfl
 c171:=by kernel_rfl
 c173:=by kernel_rfl
 c210:=by kernel_rfl
 c212:=by kernel_rfl
 c213:=by kernel_rfl
 c232:=by kernel_rfl
 c233:=by kernel_rfl }
open Go.RowKit in
theorem Tryz.strconv_toError_syntax (fn s:ByteArray) (base bits:Int) (ev:Value) (w:World) (hlim:s.size≤281474976710656) (hv:w.cell? ⟨4,0,none⟩=some ev) (hev:ev=.nilIface∨∃ te pe,ev=.iface te pe) :
  Calls Tryz.prog 105 #[.string fn,.string s,.int .i64 base,.int .i64 bits,.iface 148 (.int .i64 2)] w fun e w'=>∃ N,e=.returned (.iface 151 (.pointer (some ⟨N,0,none⟩)))∧w.heap.size≤N∧w'.heap[N]?=some (.cells #[.string fn,.string s,ev] 169 (0,0))∧Below w.heap.size w w':=Any.strconv_toError_syntax Tryz.laysC245 fn s base bits ev w hlim hv hev
def Tryz.lays321_ren:Go.Shelf.Ren:=⟨fun | 321=>128 | n=>n,fun | 5=>5 | n=>n,fun | n=>n⟩
theorem Tryz.lays321:Go.Proofs.Lays.n321 Tryz.prog Tryz.lays321_ren:={
 mixed:=by kernel_rfl
 f321:=Tryz.func128.trans (congrArg some (by kernel_rfl))
 t5:=Tryz.underlying5
 a5:=Tryz.isAgg5
 z5:=Tryz.sizeOf5
 v5:=Tryz.zeroValue5 }
open Go.RowKit in
theorem Tryz.internal_strconv_lower (c:Int) (w:World) :
  Calls Tryz.prog 128 #[.int .u8 c] w fun e w'=>e=.returned (.int .u8 (bits .or .u8 c 32))∧w'=w:=Any.internal_strconv_lower Tryz.lays321 c w
open Go.RowKit in
theorem Tryz.strconv_toError_range (fn s:ByteArray) (base bits:Int) (ev:Value) (w:World) (hlim:s.size≤281474976710656) (hv:w.cell? ⟨5,0,none⟩=some ev) (hev:ev=.nilIface∨∃ te pe,ev=.iface te pe) :
  Calls Tryz.prog 105 #[.string fn,.string s,.int .i64 base,.int .i64 bits,.iface 148 (.int .i64 1)] w fun e w'=>∃ N,e=.returned (.iface 151 (.pointer (some ⟨N,0,none⟩)))∧w.heap.size≤N∧w'.heap[N]?=some (.cells #[.string fn,.string s,ev] 169 (0,0))∧Below w.heap.size w w':=Any.strconv_toError_range Tryz.laysC245 fn s base bits ev w hlim hv hev
def Tryz.lays143_ren:Go.Shelf.Ren:=⟨fun | 143=>91 | 219=>109 | 217=>93 | 225=>135 | 224=>136 | 267=>137 | 266=>110 | 314=>143 | n=>n,fun | 9=>9 | 3=>3 | 4=>4 | 5=>5 | 46=>150 | 146=>172 | 51=>138 | n=>n,fun | 1=>1 | n=>n⟩
theorem Tryz.lays143:Go.Proofs.Lays.n143 Tryz.prog Tryz.lays143_ren:={
 mixed:=by kernel_rfl
 f143:=Tryz.func91.trans (congrArg some (by kernel_rfl))
 f217:=Tryz.func93.trans (congrArg some (by kernel_rfl))
 f219:=Tryz.func109.trans (congrArg some (by kernel_rfl))
 f224:=Tryz.func136.trans (congrArg some (by kernel_rfl))
 f225:=Tryz.func135.trans (congrArg some (by kernel_rfl))
 f266:=Tryz.func110.trans (congrArg some (by kernel_rfl))
 f267:=Tryz.func137.trans (congrArg some (by kernel_rfl))
 f314:=Tryz.func143.trans (congrArg some (by kernel_rfl))
 t3:=Tryz.underlying3
 a3:=Tryz.isAgg3
 z3:=Tryz.sizeOf3
 v3:=Tryz.zeroValue3
 t4:=Tryz.underlying4
 a4:=Tryz.isAgg4
 z4:=Tryz.sizeOf4
 v4:=Tryz.zeroValue4
 t5:=Tryz.underlying5
 a5:=Tryz.isAgg5
 z5:=Tryz.sizeOf5
 v5:=Tryz.zeroValue5
 t9:=Tryz.underlying9
 a9:=Tryz.isAgg9
 z9:=Tryz.sizeOf9
 v9:=Tryz.zeroValue9
 t46:=Tryz.underlying150
 a46:=Tryz.isAgg150
 z46:=Tryz.sizeOf150
 v46:=Tryz.zeroValue150
 t51:=Tryz.underlying138
 a51:=Tryz.isAgg138
 z51:=Tryz.sizeOf138
 v51:=Tryz.zeroValue138
 t146:=Tryz.underlying172
 a146:=Tryz.isAgg172
 z146:=Tryz.sizeOf172
 v146:=Tryz.zeroValue172
 g1:=by kernel_rfl }
open Go.RowKit Go.Lib in
theorem Tryz.strings_Index (s sub:ByteArray) (m:Int) (w:World) (hs:s.size < 4294967281) (hm:w.cell? ⟨1,0,none⟩=some (.int .i64 m)) :
  Calls Tryz.prog 91 #[.string s,.string sub] w fun e w'=>e=.returned (.int .i64 (Lib.index s.data.toList sub.data.toList))∧w'=w:=Any.strings_Index Tryz.lays143 s sub m w hs hm
def Tryz.lays138_ren:Go.Shelf.Ren:=⟨fun | 138=>60 | 195=>89 | 218=>90 | 143=>91 | 219=>109 | 217=>93 | 225=>135 | 224=>136 | 267=>137 | 266=>110 | 314=>143 | n=>n,fun | 9=>9 | 3=>3 | 4=>4 | 5=>5 | 0=>0 | 46=>150 | 146=>172 | 51=>138 | n=>n,fun | 1=>1 | n=>n⟩
theorem Tryz.lays138:Go.Proofs.Lays.n138 Tryz.prog Tryz.lays138_ren:={
 mixed:=by kernel_rfl
 f138:=Tryz.func60.trans (congrArg some (by kernel_rfl))
 f143:=Tryz.func91.trans (congrArg some (by kernel_rfl))
 f195:=Tryz.func89.trans (congrArg some (by kernel_rfl))
 f217:=Tryz.func93.trans (congrArg some (by kernel_rfl))
 f218:=Tryz.func90.trans (congrArg some (by kernel_rfl))
 f219:=Tryz.func109.trans (congrArg some (by kernel_rfl))
 f224:=Tryz.func136.trans (congrArg some (by kernel_rfl))
 f225:=Tryz.func135.trans (congrArg some (by kernel_rfl))
 f266:=Tryz.func110.trans (congrArg some (by kernel_rfl))
 f267:=Tryz.func137.trans (congrArg some (by kernel_rfl))
 f314:=Tryz.func143.trans (congrArg some (by kernel_rfl))
 t0:=Tryz.underlying0
 a0:=Tryz.isAgg0
 z0:=Tryz.sizeOf0
 v0:=Tryz.zeroValue0
 t3:=Tryz.underlying3
 a3:=Tryz.isAgg3
 z3:=Tryz.sizeOf3
 v3:=Tryz.zeroValue3
 t4:=Tryz.underlying4
 a4:=Tryz.isAgg4
 z4:=Tryz.sizeOf4
 v4:=Tryz.zeroValue4
 t5:=Tryz.underlying5
 a5:=Tryz.isAgg5
 z5:=Tryz.sizeOf5
 v5:=Tryz.zeroValue5
 t9:=Tryz.underlying9
 a9:=Tryz.isAgg9
 z9:=Tryz.sizeOf9
 v9:=Tryz.zeroValue9
 t46:=Tryz.underlying150
 a46:=Tryz.isAgg150
 z46:=Tryz.sizeOf150
 v46:=Tryz.zeroValue150
 t51:=Tryz.underlying138
 a51:=Tryz.isAgg138
 z51:=Tryz.sizeOf138
 v51:=Tryz.zeroValue138
 t146:=Tryz.underlying172
 a146:=Tryz.isAgg172
 z146:=Tryz.sizeOf172
 v146:=Tryz.zeroValue172
 g1:=by kernel_rfl }
open Go.RowKit Go.Lib in
theorem Tryz.strings_Count_one (s:ByteArray) (c:UInt8) (w:World) :
  Calls Tryz.prog 60 #[.string s,.string ⟨#[c]⟩] w fun e w'=>e=.returned (.int .i64 (Lib.countByte s.data.toList c))∧w'=w:=Any.strings_Count_one Tryz.lays138 s c w
def Tryz.lays149_ren:Go.Shelf.Ren:=⟨fun | 149=>61 | 222=>92 | n=>n,fun | 9=>9 | 5=>5 | 3=>3 | 4=>4 | n=>n,fun | n=>n⟩
theorem Tryz.lays149:Go.Proofs.Lays.n149 Tryz.prog Tryz.lays149_ren:={
 mixed:=by kernel_rfl
 f149:=Tryz.func61.trans (congrArg some (by kernel_rfl))
 f222:=Tryz.func92.trans (congrArg some (by kernel_rfl))
 t3:=Tryz.underlying3
 a3:=Tryz.isAgg3
 z3:=Tryz.sizeOf3
 v3:=Tryz.zeroValue3
 t4:=Tryz.underlying4
 a4:=Tryz.isAgg4
 z4:=Tryz.sizeOf4
 v4:=Tryz.zeroValue4
 t5:=Tryz.underlying5
 a5:=Tryz.isAgg5
 z5:=Tryz.sizeOf5
 v5:=Tryz.zeroValue5
 t9:=Tryz.underlying9
 a9:=Tryz.isAgg9
 z9:=Tryz.sizeOf9
 v9:=Tryz.zeroValue9 }
open Go.RowKit Go.Lib in
theorem Tryz.strings_LastIndexByte (s:ByteArray) (c:Int) (hs:s.size < 4611686018427387904) (w:World) :
  Calls Tryz.prog 61 #[.string s,.int .u8 c] w fun e w'=>e=.returned (.int .i64 (Lib.lastIndexByte s c))∧w'=w:=Any.strings_LastIndexByte Tryz.lays149 s c hs w
def Tryz.lays99_ren:Go.Shelf.Ren:=⟨fun | 99=>85 | 206=>107 | n=>n,fun | 9=>9 | 4=>4 | 3=>3 | n=>n,fun | n=>n⟩
theorem Tryz.lays99:Go.Proofs.Lays.n99 Tryz.prog Tryz.lays99_ren:={
 mixed:=by kernel_rfl
 f99:=Tryz.func85.trans (congrArg some (by kernel_rfl))
 f206:=Tryz.func107.trans (congrArg some (by kernel_rfl))
 t3:=Tryz.underlying3
 a3:=Tryz.isAgg3
 z3:=Tryz.sizeOf3
 v3:=Tryz.zeroValue3
 t4:=Tryz.underlying4
 a4:=Tryz.isAgg4
 z4:=Tryz.sizeOf4
 v4:=Tryz.zeroValue4
 t9:=Tryz.underlying9
 a9:=Tryz.isAgg9
 z9:=Tryz.sizeOf9
 v9:=Tryz.zeroValue9 }
open Go.RowKit Go.Lib in
theorem Tryz.strings_HasPrefix (s p:ByteArray) (w:World) :
  Calls Tryz.prog 85 #[.string s,.string p] w fun e w'=>e=.returned (.bool (Lib.hasPrefix s.data.toList p.data.toList))∧w'=w:=Any.strings_HasPrefix Tryz.lays99 s p w
def Tryz.lays100_ren:Go.Shelf.Ren:=⟨fun | 100=>84 | 207=>106 | n=>n,fun | 9=>9 | 4=>4 | 3=>3 | n=>n,fun | n=>n⟩
theorem Tryz.lays100:Go.Proofs.Lays.n100 Tryz.prog Tryz.lays100_ren:={
 mixed:=by kernel_rfl
 f100:=Tryz.func84.trans (congrArg some (by kernel_rfl))
 f207:=Tryz.func106.trans (congrArg some (by kernel_rfl))
 t3:=Tryz.underlying3
 a3:=Tryz.isAgg3
 z3:=Tryz.sizeOf3
 v3:=Tryz.zeroValue3
 t4:=Tryz.underlying4
 a4:=Tryz.isAgg4
 z4:=Tryz.sizeOf4
 v4:=Tryz.zeroValue4
 t9:=Tryz.underlying9
 a9:=Tryz.isAgg9
 z9:=Tryz.sizeOf9
 v9:=Tryz.zeroValue9 }
open Go.RowKit Go.Lib in
theorem Tryz.strings_HasSuffix (s p:ByteArray) (w:World) (hs:s.size≤9223372036854775807) :
  Calls Tryz.prog 84 #[.string s,.string p] w fun e w'=>e=.returned (.bool (Lib.hasSuffix s.data.toList p.data.toList))∧w'=w:=Any.strings_HasSuffix Tryz.lays100 s p w hs
def Tryz.laysM157_ren:Go.Shelf.Ren:=⟨fun | 157=>71 | 229=>95 | 199=>96 | 261=>112 | 311=>138 | 312=>139 | n=>n,fun | 9=>9 | 31=>50 | 3=>3 | 5=>5 | 4=>4 | 119=>118 | 0=>0 | 40=>120 | 152=>135 | 21=>21 | 154=>137 | 51=>138 | 141=>140 | 196=>159 | 193=>156 | 198=>162 | 49=>160 | 194=>157 | 201=>165 | 226=>174 | 46=>150 | 227=>175 | n=>n,fun | 0=>0 | 6=>2 | n=>n⟩
theorem Tryz.laysM157:Go.Proofs.LaysM.n157 Tryz.prog Tryz.laysM157_ren:={
 mixed:=by kernel_rfl
 f157:=Tryz.func71.trans (congrArg some (by kernel_rfl))
 f199:=Tryz.func96.trans (congrArg some (by kernel_rfl))
 f229:=Tryz.func95.trans (congrArg some (by kernel_rfl))
 f261:=Tryz.func112.trans (congrArg some (by kernel_rfl))
 f311:=Tryz.func138.trans (congrArg some (by kernel_rfl))
 f312:=Tryz.func139.trans (congrArg some (by kernel_rfl))
 t0:=Tryz.underlying0
 a0:=Tryz.isAgg0
 z0:=Tryz.sizeOf0
 v0:=Tryz.zeroValue0
 t3:=Tryz.underlying3
 a3:=Tryz.isAgg3
 z3:=Tryz.sizeOf3
 v3:=Tryz.zeroValue3
 t4:=Tryz.underlying4
 a4:=Tryz.isAgg4
 z4:=Tryz.sizeOf4
 v4:=Tryz.zeroValue4
 t5:=Tryz.underlying5
 a5:=Tryz.isAgg5
 z5:=Tryz.sizeOf5
 v5:=Tryz.zeroValue5
 t9:=Tryz.underlying9
 a9:=Tryz.isAgg9
 z9:=Tryz.sizeOf9
 v9:=Tryz.zeroValue9
 t21:=Tryz.underlying21
 a21:=Tryz.isAgg21
 z21:=Tryz.sizeOf21
 v21:=Tryz.zeroValue21
 t31:=Tryz.underlying50
 a31:=Tryz.isAgg50
 z31:=Tryz.sizeOf50
 v31:=Tryz.zeroValue50
 t40:=Tryz.underlying120
 a40:=Tryz.isAgg120
 z40:=Tryz.sizeOf120
 v40:=Tryz.zeroValue120
 t46:=Tryz.underlying150
 a46:=Tryz.isAgg150
 z46:=Tryz.sizeOf150
 v46:=Tryz.zeroValue150
 t49:=Tryz.underlying160
 a49:=Tryz.isAgg160
 z49:=Tryz.sizeOf160
 v49:=Tryz.zeroValue160
 t51:=Tryz.underlying138
 a51:=Tryz.isAgg138
 z51:=Tryz.sizeOf138
 v51:=Tryz.zeroValue138
 t119:=Tryz.underlying118
 a119:=Tryz.isAgg118
 z119:=Tryz.sizeOf118
 t141:=Tryz.underlying140
 a141:=Tryz.isAgg140
 z141:=Tryz.sizeOf140
 v141:=Tryz.zeroValue140
 t152:=Tryz.underlying135
 a152:=Tryz.isAgg135
 z152:=Tryz.sizeOf135
 v152:=Tryz.zeroValue135
 t154:=Tryz.underlying137
 a154:=Tryz.isAgg137
 z154:=Tryz.sizeOf137
 v154:=Tryz.zeroValue137
 t193:=Tryz.underlying156
 a193:=Tryz.isAgg156
 z193:=Tryz.sizeOf156
 v193:=Tryz.zeroValue156
 t194:=Tryz.underlying157
 a194:=Tryz.isAgg157
 z194:=Tryz.sizeOf157
 v194:=Tryz.zeroValue157
 t196:=Tryz.underlying159
 a196:=Tryz.isAgg159
 z196:=Tryz.sizeOf159
 v196:=Tryz.zeroValue159
 t198:=Tryz.underlying162
 a198:=Tryz.isAgg162
 z198:=Tryz.sizeOf162
 v198:=Tryz.zeroValue162
 t201:=Tryz.underlying165
 a201:=Tryz.isAgg165
 z201:=Tryz.sizeOf165
 v201:=Tryz.zeroValue165
 t226:=Tryz.underlying174
 a226:=Tryz.isAgg174
 z226:=Tryz.sizeOf174
 v226:=Tryz.zeroValue174
 t227:=Tryz.underlying175
 a227:=Tryz.isAgg175
 z227:=Tryz.sizeOf175
 v227:=Tryz.zeroValue175
 g0:=by kernel_rfl
 g6:=by kernel_rfl
 i0:=by kernel_rfl
 i3:=by kernel_rfl
 i4:=by kernel_rfl
 i5:=by kernel_rfl
 i9:=by kernel_rfl
 i21:=by kernel_rfl
 i31:=by kernel_rfl
 i40:=by kernel_rfl
 i46:=by kernel_rfl
 i49:=by kernel_rfl
 i51:=by kernel_rfl
 i141:=by kernel_rfl
 i152:=by kernel_rfl
 i154:=by kernel_rfl
 i193:=by kernel_rfl
 i194:=by kernel_rfl
 i196:=by kernel_rfl
 i198:=by kernel_rfl
 i201:=by kernel_rfl
 i226:=by kernel_rfl
 i227:=by kernel_rfl
 m0:=by kernel_rfl
 m6:=by kernel_rfl }
open Go.RowKit Go.Lib in
theorem Tryz.strings_Fields_laid (s:ByteArray) (w:World) (hs:s.size < 4294967281) (hascii:∀ (j:Nat) b,s.data.toList[j]?=some b→b.toNat < 128) (htab:Lib.TabIs Tryz.prog w "strings.asciiSpace" .u8 Lib.asciiSpaceTab) :
  Calls Tryz.prog 71 #[.string s] w fun e w' =>
   e=.returned (.slice (some ⟨w.heap.size,0,none⟩) (Lib.fields s.data.toList).length (Lib.fields s.data.toList).length)∧w'=w.alloc (.cells ((Lib.fields s.data.toList).map fun l=>Value.string ⟨l.toArray⟩).toArray 9):=Any.strings_Fields_laid Tryz.laysM157 s w hs hascii htab
def Tryz.lays110_ren:Go.Shelf.Ren:=⟨fun | 110=>140 | 109=>144 | n=>n,fun | 31=>50 | 9=>9 | 4=>4 | 3=>3 | 0=>0 | n=>n,fun | n=>n⟩
theorem Tryz.lays110:Go.Proofs.Lays.n110 Tryz.prog Tryz.lays110_ren:={
 mixed:=by kernel_rfl
 f109:=Tryz.func144.trans (congrArg some (by kernel_rfl))
 f110:=Tryz.func140.trans (congrArg some (by kernel_rfl))
 t0:=Tryz.underlying0
 a0:=Tryz.isAgg0
 z0:=Tryz.sizeOf0
 v0:=Tryz.zeroValue0
 t3:=Tryz.underlying3
 a3:=Tryz.isAgg3
 z3:=Tryz.sizeOf3
 v3:=Tryz.zeroValue3
 t4:=Tryz.underlying4
 a4:=Tryz.isAgg4
 z4:=Tryz.sizeOf4
 v4:=Tryz.zeroValue4
 t9:=Tryz.underlying9
 a9:=Tryz.isAgg9
 z9:=Tryz.sizeOf9
 v9:=Tryz.zeroValue9
 t31:=Tryz.underlying50
 a31:=Tryz.isAgg50
 z31:=Tryz.sizeOf50
 v31:=Tryz.zeroValue50 }
open Go.Lib in
theorem Tryz.slices_Contains_string (b off n c:Nat) (zs:List ByteArray) (x:ByteArray) (w:World) (hz:n≤zs.length) (hbig:n≤9223372036854775807) (hc:∀ j,j < zs.length→w.cell? ⟨b,off+j,none⟩=some (.string (zs.getD j ByteArray.empty))) :
  Calls Tryz.prog 140 #[.slice (some ⟨b,off,none⟩) n c,.string x] w fun e w'=>e=.returned (.bool (Lib.containsS (zs.take n) x))∧w'=w:=Any.slices_Contains_string Tryz.lays110 b off n c zs x w hz hbig hc
end Go.Proofs
namespace Go.Proofs.YtadgddipkbdnbaaGreatDoor
open Go.RowKit
theorem hasPrefix_any (s p:ByteArray) (w:World) :
  Calls Tryz.prog 85 #[.string s,.string p] w fun e w'=>e=.returned (.bool (Lib.hasPrefix s.data.toList p.data.toList))∧w=w' :=
 (Tryz.strings_HasPrefix s p w).mono fun _ _ h=>⟨h.1,h.2.symm⟩
theorem indexByte_any (s:ByteArray) (c:Int) (w:World) :
  Calls Tryz.prog 64 #[.string s,.int .u8 c] w fun e w'=>e=.returned (.int .i64 (Lib.indexByte s.data.toList c.toNat.toUInt8))∧w=w' :=
 (Tryz.strings_IndexByte s c w).mono fun _ _ h=>⟨h.1,h.2.symm⟩
theorem index_any (s sub:ByteArray) (w:World) (hg:GW w) (hs:s.size < 4294967281) :
  Calls Tryz.prog 91 #[.string s,.string sub] w fun e w'=>e=.returned (.int .i64 (Lib.index s.data.toList sub.data.toList))∧w=w':=by
 obtain ⟨m,hm⟩:=hg.most
 exact (Tryz.strings_Index s sub m w hs hm).mono fun _ _ h=>⟨h.1,h.2.symm⟩
def StrsAt (w:World) (v:Value) (L:List (List UInt8)):Prop :=
 ∃ g c,v=.slice (some ⟨g,0,none⟩) L.length c∧∀ j,j < L.length→w.cell? ⟨g,j,none⟩=some (.string ⟨(L.getD j []).toArray⟩)
theorem StrsAt.below {w w':World} {v:Value} {L:List (List UInt8)} (h:StrsAt w v L) {B:Nat} (hb:Below B w w') (hB:w.heap.size≤B):StrsAt w' v L:=by
 obtain ⟨g,c,hv,hc⟩:=h
 exact ⟨g,c,hv,fun j hj=>(hb.cell (p:=⟨g,j,none⟩) (Nat.lt_of_lt_of_le (World.block_lt_of_cell? w _ (hc j hj)) hB)).trans (hc j hj)⟩
def strObj (L:List (List UInt8)):Obj:=.cells (L.map fun l=>Value.string ⟨l.toArray⟩).toArray 9
theorem fields_words:Lib.fields [112,114,111,98,101,32,119,104,101,110,32,111,112,116,105,111,110,32,105,110,108,105,110,101,32,116,114,97,110,115,108,97,116,111,114,32,115,101,108,102,32,116,104,105,115,32,115,105,122,101,111,102,32,120,108,97,116,101]=Lx.words:=by decide +kernel
theorem fields_signs:Lib.fields [60,60,61,32,62,62,61,32,45,62,32,43,61,32,45,61,32,42,61,32,47,61,32,37,61,32,38,61,32,124,61,32,94,61,32,43,43,32,45,45,32,60,60,32,62,62,32,60,61,32,62,61,32,61,61,32,33,61,32,38,38,32,124,124,32,94,94,32,40,32,41,32,91,32,93,32,123,32,125,32,44,32,59,32,58,32,63,32,46,32,61,32,43,32,45,32,42,32,47,32,37,32,38,32,124,32,94,32,126,32,33,32,60,32,62,32,64]=Lx.signs:=by decide +kernel
def textW:ByteArray:=⟨#[112,114,111,98,101,32,119,104,101,110,32,111,112,116,105,111,110,32,105,110,108,105,110,101,32,116,114,97,110,115,108,97,116,111,114,32,115,101,108,102,32,116,104,105,115,32,115,105,122,101,111,102,32,120,108,97,116,101]⟩
def textS:ByteArray:=⟨#[60,60,61,32,62,62,61,32,45,62,32,43,61,32,45,61,32,42,61,32,47,61,32,37,61,32,38,61,32,124,61,32,94,61,32,43,43,32,45,45,32,60,60,32,62,62,32,60,61,32,62,61,32,61,61,32,33,61,32,38,38,32,124,124,32,94,94,32,40,32,41,32,91,32,93,32,123,32,125,32,44,32,59,32,58,32,63,32,46,32,61,32,43,32,45,32,42,32,47,32,37,32,38,32,124,32,94,32,126,32,33,32,60,32,62,32,64]⟩
theorem fieldsW (w:World) (hg:GW w):Calls Tryz.prog 71 #[.string textW] w fun e w'=>e=.returned (.slice (some ⟨w.heap.size,0,none⟩) 9 9)∧w.alloc (strObj Lx.words)=w' :=
 (Tryz.strings_Fields_laid textW w (by decide +kernel) (fun j b h=>(show ∀ x∈textW.data.toList,x.toNat < 128 from by decide +kernel) b (List.mem_of_getElem? h)) hg.tab).mono fun e w' ⟨h1,h2⟩=>by
  have hf:Lib.fields textW.data.toList=Lx.words:=fields_words
  rw [hf] at h1 h2
  exact ⟨h1,h2.symm⟩
theorem fieldsS (w:World) (hg:GW w):Calls Tryz.prog 71 #[.string textS] w fun e w'=>e=.returned (.slice (some ⟨w.heap.size,0,none⟩) 47 47)∧w.alloc (strObj Lx.signs)=w' :=
 (Tryz.strings_Fields_laid textS w (by decide +kernel) (fun j b h=>(show ∀ x∈textS.data.toList,x.toNat < 128 from by decide +kernel) b (List.mem_of_getElem? h)) hg.tab).mono fun e w' ⟨h1,h2⟩=>by
  have hf:Lib.fields textS.data.toList=Lx.signs:=fields_signs
  rw [hf] at h1 h2
  exact ⟨h1,h2.symm⟩
set_option maxHeartbeats 400000 in
theorem words_any (w:World) (hg:GW w):Calls Tryz.prog 43 #[] w fun e w'=>e=.returned (.slice (some ⟨w.heap.size,0,none⟩) 9 9)∧w.alloc (strObj Lx.words)=w':=by
 go_enter Tryz.func43,Tryz.ntmps43
 go_wp2_with (go_at_call 71;refine (fieldsW _ hg).mono ?_;rintro e w' ⟨rfl,rfl⟩)
 go_ret
 exact ⟨rfl,rfl⟩
set_option maxHeartbeats 400000 in
theorem signs_any (w:World) (hg:GW w):Calls Tryz.prog 45 #[] w fun e w'=>e=.returned (.slice (some ⟨w.heap.size,0,none⟩) 47 47)∧w.alloc (strObj Lx.signs)=w':=by
 go_enter Tryz.func45,Tryz.ntmps45
 go_wp2_with (go_at_call 71;refine (fieldsS _ hg).mono ?_;rintro e w' ⟨rfl,rfl⟩)
 go_ret
 exact ⟨rfl,rfl⟩
end Go.Proofs.YtadgddipkbdnbaaGreatDoor
namespace Go.Proofs.YtadgddipkbdnbaaGreatDoor.Q
open Go.RowKit Go.Proofs.YtadgddipkbdnbaaGreatDoor YtadgddipkbdnbaaGreatDoorW.PrintWords YtadgddipkbdnbaaGreatDoorW.PrintLast
def kt (t:S38):Int × List UInt8:=(t.f0,t.f1.data.toList)
theorem kt_eq (x y:S38):(kt x=kt y)↔(x.f0=y.f0∧x.f1.toList=y.f1.toList):=by
 unfold kt
 rw [Prod.mk.injEq,ByteArray.toList_eq,ByteArray.toList_eq]
theorem same1_any (x y:S38) (w:World) :
  Calls Tryz.prog 63 #[.agg #[.int .i64 x.f0,.string x.f1,.int .i64 x.f2],.agg #[.int .i64 y.f0,.string y.f1,.int .i64 y.f2]] w fun e w'=>e=.returned (.bool (decide (kt x=kt y)))∧Below w.heap.size w w':=by
 have HK:=Lib.hid (kt_eq x y)
 have hB:∀ a b:Obj,Below w.heap.size w ((w.alloc a).alloc b):=fun a b=>((Below.refl _ _).alloc (Nat.le_refl _) _).alloc (by simp) _
 by_cases h0:x.f0=y.f0
 ·by_cases h1:x.f1.toList=y.f1.toList
  ·have H0:=Lib.hid h0
   have H1:=Lib.hid h1
   go_enter Tryz.func63,Tryz.ntmps63
   go_wp2
   go_ret
   exact ⟨ret_bool (decide_eq_true (HK.out.2 ⟨H0.out,H1.out⟩)).symm,hB _ _⟩
  ·have h1':(x.f1.toList == y.f1.toList)=false:=by simpa using h1
   have H1:=Lib.hid h1
   clear h1
   go_enter Tryz.func63,Tryz.ntmps63
   go_wp2
   go_ret
   exact ⟨ret_bool (decide_eq_false (fun h=>H1.out (HK.out.1 h).2)).symm,hB _ _⟩
 ·have H0:=Lib.hid h0
  go_enter Tryz.func63,Tryz.ntmps63
  go_wp2
  go_ret
  exact ⟨ret_bool (decide_eq_false (fun h=>H0.out (HK.out.1 h).1)).symm,hB _ _⟩
theorem kt_getD (l:List S38) (i:Nat) (h:i < l.length):(l.map kt)[i]?=some (kt (l.getD i z38)):=by
 rw [List.getElem?_map,List.getD_eq_getElem?_getD,List.getElem?_eq_getElem h]
 rfl
theorem kt_drop (l:List S38) (i:Nat) (h:i < l.length):(l.map kt).drop i=kt (l.getD i z38) :: (l.map kt).drop (i+1):=by
 rw [List.drop_eq_getElem_cons (by simpa using h),List.getD_eq_getElem?_getD,List.getElem?_eq_getElem h,List.getElem_map]
 rfl
set_option maxHeartbeats 2000000 in
theorem eqf_any (A0:Option Addr) (c0:Nat) (l0:List S38) (A1:Option Addr) (c1:Nat) (l1:List S38) (w:World) (hr0:Kd.C k38 w A0 l0.length l0) (hr1:Kd.C k38 w A1 l1.length l1) :
  Calls Tryz.prog 62 #[.slice A0 l0.length c0,.slice A1 l1.length c1,.func (.func 63) #[] #[]] w fun e w'=>e=.returned (.bool (decide (l0.map kt=l1.map kt)))∧Below w.heap.size w w':=by
 by_cases hl:l0.length=l1.length
 ·have hn:=hr0.2.1
  obtain ⟨n,hn0⟩:∃ n,n=l0.length:=⟨_,rfl⟩
  have hn1:n=l1.length:=by omega
  rw [← hn0] at hn
  have at0:=fun (W:World) (hb:Below w.heap.size w W) (k:Nat) (hk:k < n)=>at_T38 (Kd.C_below hr0 hb) (k:Int) (by omega) (by omega)
  have at1:=fun (W:World) (hb:Below w.heap.size w W) (k:Nat) (hk:k < n)=>at_T38 (Kd.C_below hr1 hb) (k:Int) (by omega) (by omega)
  obtain ⟨hr0',hr1'⟩:Aside0 (Kd.C k38 w A0 l0.length l0)∧Aside0 (Kd.C k38 w A1 l1.length l1):=⟨⟨hr0⟩,⟨hr1⟩⟩
  rw [← hn1,← hn0]
  have HN0:=Lib.hid hn0
  have HN1:=Lib.hid hn1
  clear hn0 hn1 hl hr0 hr1
  go_enter Tryz.func62,Tryz.ntmps62
  go_wp2
  go_loopw [17] (fun i wr=>∃ k:Nat,k≤n∧i=.int .i64 k∧Hid ((l0.map kt).take k=(l1.map kt).take k)∧Below w.heap.size w wr) (fun i _=>n - (intOf i).toNat)
  case atStart=>exact ⟨0,by omega,rfl,Lib.hid rfl,Below.refl _ _⟩
  case round =>
   obtain ⟨k,hk,rfl,HE,hb⟩:=hrel
   by_cases hlk:k < n
   ·obtain ⟨ad,rfl,p0,p1,p2⟩:=at0 wr hb k hlk
    obtain ⟨bd,rfl,q0,q1,q2⟩:=at1 wr hb k hlk
    clear at0 at1
    have hcmp:(rd_T38 l0 (k:Int))=l0.getD k z38∧(rd_T38 l1 (k:Int))=l1.getD k z38:=⟨rfl,rfl⟩
    rw [hcmp.1] at p0 p1 p2
    rw [hcmp.2] at q0 q1 q2
    clear hcmp
    obtain ⟨x,hx⟩:∃ x,x=l0.getD k z38:=⟨_,rfl⟩
    obtain ⟨y,hy⟩:∃ y,y=l1.getD k z38:=⟨_,rfl⟩
    rw [← hx] at p0 p1 p2
    rw [← hy] at q0 q1 q2
    have HX:=Lib.hid hx
    have HY:=Lib.hid hy
    clear hx hy
    simp only [Int.toNat_natCast] at p0 p1 p2 q0 q1 q2
    have adlt:=World.block_lt_of_cell? _ _ p0
    have bdlt:=World.block_lt_of_cell? _ _ q0
    have hs:=same1_any x y
    have d0:=kt_drop l0 k (by rw [← HN0.out];exact hlk)
    have d1:=kt_drop l1 k (by rw [← HN1.out];exact hlk)
    rw [← HX.out] at d0
    rw [← HY.out] at d1
    by_cases hxy:kt x=kt y
    ·rw [decide_eq_true hxy] at hs
     have HT:Hid ((l0.map kt).take (k+1)=(l1.map kt).take (k+1)):=Lib.hid (by
      rw [List.take_add_one,List.take_add_one,HE.out,kt_getD l0 k (by rw [← HN0.out];exact hlk),kt_getD l1 k (by rw [← HN1.out];exact hlk),← HX.out,← HY.out,hxy])
     clear hxy d0 d1
     go_wp2_with (go_at_call 63;refine (hs _).mono ?_;rintro e w1 ⟨rfl,hb1⟩)
     go_roundw
     case rel=>exact ⟨k+1,by omega,by go_num,HT,hb.trans ((((Below.refl _ _).alloc (Nat.le_refl _) _).alloc (by simp) _).trans (hb1.mono (by simp;omega)) |>.mono hb.size)⟩
     case measure=>simp [intOf];omega
    ·rw [decide_eq_false hxy] at hs
     have HT:Hid (¬ l0.map kt=l1.map kt):=Lib.hid (fun e=>by
      rw [e] at d0
      rw [d0] at d1
      exact hxy (List.cons.inj d1).1)
     clear hxy d0 d1
     go_wp2_with (go_at_call 63;refine (hs _).mono ?_;rintro e w1 ⟨rfl,hb1⟩)
     go_ret
     exact ⟨ret_bool (decide_eq_false HT.out).symm,hb.trans ((((Below.refl _ _).alloc (Nat.le_refl _) _).alloc (by simp) _).trans (hb1.mono (by simp;omega)) |>.mono hb.size)⟩
   ·obtain rfl:k=n:=by omega
    have HT:Hid (l0.map kt=l1.map kt):=Lib.hid (by
     have e:=HE.out
     rwa [List.take_of_length_le (by simp [← HN0.out]),List.take_of_length_le (by simp [← HN1.out])] at e)
    clear at0 at1
    go_wp2
    go_ret
    exact ⟨ret_bool (decide_eq_true HT.out).symm,hb⟩
 ·have HT:Hid (¬ l0.map kt=l1.map kt):=Lib.hid (fun e=>hl (by simpa using congrArg List.length e))
  have hl':((l0.length:Int) == (l1.length:Int))=false:=by rw [beq_eq_false_iff_ne];omega
  have HL:=Lib.hid hl
  clear hl
  have hr0':=Lib.hid hr0
  have hr1':=Lib.hid hr1
  clear hr0 hr1
  go_enter Tryz.func62,Tryz.ntmps62
  go_wp2
  go_ret
  exact ⟨ret_bool (decide_eq_false HT.out).symm,Below.refl _ _⟩
theorem same_any (A0:Option Addr) (c0:Nat) (l0:List S38) (A1:Option Addr) (c1:Nat) (l1:List S38) (w:World) (hr0:Kd.C k38 w A0 l0.length l0) (hr1:Kd.C k38 w A1 l1.length l1) :
  Calls Tryz.prog 28 #[.slice A0 l0.length c0,.slice A1 l1.length c1] w fun e w'=>e=.returned (.bool (decide (l0.map kt=l1.map kt)))∧Below w.heap.size w w':=by
 have h:=eqf_any A0 c0 l0 A1 c1 l1 w hr0 hr1
 clear hr0 hr1
 go_enter Tryz.func28,Tryz.ntmps28
 go_wp2_with (go_at_call 62;refine h.mono ?_;rintro e w1 ⟨rfl,hb1⟩)
 go_ret
 exact ⟨rfl,hb1⟩
def tokS (t:Lx.Tok):S38:=⟨t.kind,⟨t.text.toArray⟩,(t.at_:Int)⟩
def strS (l:List UInt8):ByteArray:=⟨l.toArray⟩
def lex_Scan.f (a0:ByteArray):Option (List S38 × Int × Int):=some ((Lx.scan a0.data.toList).1.map tokS,((Lx.scan a0.data.toList).2.1:Int),(Lx.scan a0.data.toList).2.2)
def lex_character.f (a0:ByteArray) (a1:Int):Option (Int × Int × Bool) :=
 if a0.size≤140737488355328∧0≤a1∧a1≤(a0.size:Int) then (Lx.char (a0.data.toList.drop a1.toNat)).map fun r=>((r.1.toNat:Int),a1+r.2,true) else none
def lex_integer.f (a0:ByteArray):Option (Int × Bool × Bool) :=
 if a0.size≤140737488355328 then (Lx.integer a0.data.toList).map fun r=>(wrap64 r.1,r.2,true) else none
def lex_run.f (a0:ByteArray) (a1 a2:Int):Option Int :=
 if a0.size≤140737488355328∧0≤a1∧a1≤(a0.size:Int) then some (runEnd (pB a2) a0.data.toList a1.toNat:Nat) else none
def lex_Words.f:Option (List ByteArray):=some (Lx.words.map strS)
def lex_Signs.f:Option (List ByteArray):=some (Lx.signs.map strS)
def strings_Join.f (l0:List ByteArray) (a1:ByteArray):Option ByteArray :=
 if l0.length≤140737488355328∧(Lib.join (l0.map (·.data.toList)) a1.data.toList).length≤140737488355328 then some ⟨(Lib.join (l0.map (·.data.toList)) a1.data.toList).toArray⟩ else none
def lex_Same.f (l0 l1:List S38):Option Bool:=some (decide (l0.map kt=l1.map kt))
def colB (l:List UInt8):Nat:=(l.reverse.takeWhile (· != 10)).length+1
def lex_Place.f (a0:ByteArray) (a1:Int):Option (Int × Int × Int) :=
 if a0.size≤140737488355328 then (if a1 < 0∨(a0.size:Int) < a1 then some (0,0,1) else some (((a0.data.toList.take a1.toNat).count 10:Nat)+1,(colB (a0.data.toList.take a1.toNat):Int),0)) else none
def escB (c:UInt8):List UInt8 :=
 if c=10 then [92,110] else if c=9 then [92,116] else if c=13 then [92,114] else if c=92∨c=34 then [92,c]
 else if 32≤c∧c≤126 then [c] else [92,120,if c / 16 < 10 then 48+c / 16 else 87+c / 16,if c % 16 < 10 then 48+c % 16 else 87+c % 16]
def quoteB (l:List UInt8):List UInt8:=34 :: (l.flatMap escB ++ [34])
def lex_Quote.f (a0:ByteArray):Option (ByteArray × Int) :=
 if a0.size > 64 then some (⟨#[]⟩,2) else if 0∈a0.data.toList then some (⟨#[]⟩,1) else some (strS (quoteB a0.data.toList),0)
def rzchar.f (a0:ByteArray) (a1:Int):Option (Int × Int) :=
 if a0.size≤140737488355328∧0≤a1∧a1 < 1000000000000000000 then (match Lx.char (a0.data.toList.drop a1.toNat) with | some (c,k)=>some ((c.toNat:Int),(k:Int)) | none=>some (0,0)) else none
def oneR (a1:Int) (r:List UInt8):Except Int (Int × Nat)→Int × ByteArray × Int × Int
 | .ok (k,n)=>(k,strS (r.take n),a1,0)
 | .error e=>(0,⟨#[]⟩,0,e)
end Go.Proofs.YtadgddipkbdnbaaGreatDoor.Q
namespace Go.Proofs.YtadgddipkbdnbaaGreatDoor.Q
open Go.Proofs.YtadgddipkbdnbaaGreatDoor Go.RowKit Go.Proofs.YtadgddipkbdnbaaGreatDoorW.PrintWords Go.Proofs.YtadgddipkbdnbaaGreatDoorW.PrintLast Go.Proofs.YtadgddipkbdnbaaGreatDoorW.PrintMore
attribute [local go_sem] max2_int min2_int max_two min_two max_three min_three max_four min_four
def rzisDigit.f (a0:Int):Option (Bool):=if a0≥48 then (some (decide (a0≤57))) else (some false)
set_option maxHeartbeats 8000000 in
set_option maxRecDepth 100000 in
theorem rzisDigit.calls (a0:Int) (r:Bool) (w:World) (h:rzisDigit.f a0=some r) :
  Calls Tryz.prog 80 #[.int .u8 a0] w fun e w'=>e=.returned (.bool r)∧Drawn0 w w':=by
 have H:(if a0≥48 then (some (decide (a0≤57))) else (some false))=some r:=h;clear h;by_cases c2:a0≥48
 ·rw [if_pos c2] at H;have c2b0:decide (48≤a0)=true:=decide_eq_true c2;clear c2;obtain rfl:=Option.some.inj H;go_enter Tryz.func80,Tryz.ntmps80
  go_wp2;go_ret;exact ⟨by first | rfl | (simp;done) | (simp [*];done),by repeat (first | exact Drawn0.refl _ | apply Drawn0.step)⟩
 ·rw [if_neg c2] at H;have c2b0:decide (48≤a0)=false:=decide_eq_false c2;clear c2;obtain rfl:=Option.some.inj H;go_enter Tryz.func80,Tryz.ntmps80
  go_wp2;go_ret;exact ⟨by first | rfl | (simp;done) | (simp [*];done),by repeat (first | exact Drawn0.refl _ | apply Drawn0.step)⟩
end Go.Proofs.YtadgddipkbdnbaaGreatDoor.Q
