/- Parts of the proof: see the last text -/
import Derived.Test.YtffojmgmpfjlhaaGreatDoorInsQ1
import Derived.Test.YtffojmgmpfjlhaaGreatDoorInsQ2
import Derived.Below
import Derived.Deep.Draws
import Derived.Deep.AppendLies
import Derived.Maps.AppendAt
import Derived.OwnWalk
import Derived.Laws.BytesArg
import Derived.Laws.MakeOwn
import Derived.Laws.OwnMore
import Derived.Deep.OwnRows
import Derived.Tactics
import Derived.Lib.ConvBytes
import Derived.Laws.Slices
import Derived.WalkKit
import Derived.KernelRfl
import Derived.RowKit3
import Derived.Deep.LoopGhost
import Derived.Deep.QuietTactic
import Derived.BigQuiet
import Derived.WideLaws
import Derived.Deep.DeepCutAuto
import Derived.Deep.CutBlock
import Derived.Deep.RegionHeld3
import Derived.Laws.Rows
import Derived.Lib.AppendStr
import Derived.ArgAppend
import Derived.Laws.IdiomCopy
import Derived.RowKit
set_option linter.unusedVariables false
set_option linter.unusedSimpArgs false
namespace Go.Proofs.YtffojmgmpfjlhaaGreatDoorW.PrintWords
open Go.RowKit
theorem ReadsInt.drop_ {w:World} {k:IntKind} {A:Option Addr} {n c:Nat} {xs:List Int} (h:ReadsInt w k A n xs) (i:Nat) (hi:i≤n) (hc:n≤c):ReadsInt w k (if c=i then A else A.map (·.add i)) (n - i) (xs.drop i):=by
 refine ⟨by rw [List.length_drop,h.1],by have:=h.2.1;omega,fun hp=>?_⟩
 obtain ⟨ad,rfl,hcell⟩:=h.2.2 (by omega)
 rw [if_neg (by omega)]
 refine ⟨ad.add i,rfl,fun j hj=>?_⟩
 have ha:(ad.add i).add j=ad.add (i+j):=by
  unfold Addr.add
  by_cases h1:i=0 <;> by_cases h2:j=0 <;> simp [h1,h2,Nat.add_assoc]
 rw [ha,hcell (i+j) (by omega)]
 simp [List.getD_eq_getElem?_getD,List.getElem?_drop]
section
variable {α:Type} {enc:α→Value} {d:α}
theorem ReadsOf.drop_ {w:World} {A:Option Addr} {n c:Nat} {xs:List α} (h:ReadsOf enc d w A n xs) (i:Nat) (hi:i≤n) (hc:n≤c):ReadsOf enc d w (if c=i then A else A.map (·.add i)) (n - i) (xs.drop i):=by
 refine ⟨by rw [List.length_drop,h.1],by have:=h.2.1;omega,fun hp=>?_⟩
 obtain ⟨ad,rfl,hcell⟩:=h.2.2 (by omega)
 rw [if_neg (by omega)]
 refine ⟨ad.add i,rfl,fun j hj=>?_⟩
 have ha:(ad.add i).add j=ad.add (i+j):=by
  unfold Addr.add
  by_cases h1:i=0 <;> by_cases h2:j=0 <;> simp [h1,h2,Nat.add_assoc]
 rw [ha,hcell (i+j) (by omega)]
 simp [List.getD_eq_getElem?_getD,List.getElem?_drop]
end
section
variable {α:Type} {P:Program}
theorem print_mid_of (enc:α→Value) (d:α) (t e:TypeId) (kl kh:IntKind) {i:TypeInfo} (ht:P.underlying t=some (.slice e)) (hi:P.info? e=some i) (hsz:i.size=1) (A:Option Addr) (c:Nat) (xs:List α) (a b:Int) (h0:0≤a) (h1:a≤b) (hm:b≤xs.length) (hc:xs.length≤c) :
  ∃ A':Option Addr,(∀ W:World,(Instr.slice t (.slice A xs.length c) (some (.int kl a)) (some (.int kh b)) none).run P W=.ok (.slice A' ((xs.take b.toNat).drop a.toNat).length (c - a.toNat)) W) ∧
   (∀ w:World,ReadsOf enc d w A xs.length xs→ReadsOf enc d w A' ((xs.take b.toNat).drop a.toNat).length ((xs.take b.toNat).drop a.toNat))∧((xs.take b.toNat).drop a.toNat).length≤c - a.toNat:=by
 have hlt:(xs.take b.toNat).length=b.toNat:=by rw [List.length_take];omega
 have hl:((xs.take b.toNat).drop a.toNat).length=b.toNat - a.toNat:=by rw [List.length_drop,hlt]
 refine ⟨if c=a.toNat then A else A.map (·.add a.toNat),fun W=>?_,fun w h=>?_,by rw [hl];omega⟩
 ·have hel:P.elem t=e:=by simp [Program.elem,ht]
  have hu:P.underlying t=some (.slice (P.elem t)):=by rw [hel];exact ht
  rw [run_slice_lh W t A xs.length c hu kl kh a b h0 h1 (by omega),hel,hl]
  simp [sizeOf,typeInfo,hi,hsz,sliced,Result.andThen]
 ·have h2:=(h.take_ b.toNat (by omega)).drop_ (c:=c) a.toNat (by omega) (by omega)
  rw [hl]
  exact h2
end
namespace Kd
theorem C_of_reads {α:Type} {enc:α→Value} {d:α} {h1:∀ x,(enc x).oneCell'=true} {w:World} {A:Option Addr} {n:Nat} {xs:List α} (h:ReadsOf enc d w A n xs):(scalar enc h1).C w A n xs:=by
 refine ⟨h.1,h.2.1,fun hn=>?_⟩
 obtain ⟨ad,e,hc⟩:=h.2.2 hn
 refine ⟨ad,e,fun j p hj=>⟨[enc p],rfl,rfl,fun i u hu=>?_⟩⟩
 obtain ⟨hl,hp⟩:=List.getElem?_eq_some_iff.1 hj
 have h2:=hc j (by have:=h.1;omega)
 rw [List.getD_eq_getElem?_getD,hj] at h2
 cases i with
 | zero =>
  have:enc p=u:=by simpa using hu
  subst this
  simpa [scalar] using h2
 | succ i=>simp at hu
end Kd
end Go.Proofs.YtffojmgmpfjlhaaGreatDoorW.PrintWords
namespace Go.Proofs.YtffojmgmpfjlhaaGreatDoorW.PrintWords
open Go.RowKit
theorem drewN_self (w:World) (n:Nat):w.drewN n=w.drewN n:=rfl
end Go.Proofs.YtffojmgmpfjlhaaGreatDoorW.PrintWords
