/- InsnListings: a listing is assembled to the code and the symbols of which it was made, and so is the listing of what was assembled: the law returns true for every input; the inputs read as they did; the package-level variables hold what the program's text lays in them: the tied card. -/
import Derived.Test.YtffojmgmpfjlhaaGreatDoorInsnListingsY7
import Derived.Test.YtffojmgmpfjlhaaGreatDoorTie
import Derived.Test.YtffojmgmpfjlhaaGreatDoorCards
import Derived.WalkKit
import Derived.ProofKit
import Derived.OpenShut
import Derived.ShutString
import Derived.ChangeOld
import Derived.Below
import Derived.SizedLaws
import Derived.SevenTiedAt
set_option maxHeartbeats 8000000
set_option maxRecDepth 100000
set_option linter.unusedVariables false
set_option linter.unusedSimpArgs false
namespace Go.Proofs.YtffojmgmpfjlhaaGreatDoor.insnListings
open Go.ChangeShapes Go.WideShapes Go.ChangeAt Go.RowKit
open Go.ChangeMaps (open_string shut_string)
theorem lifted (os:Os) (started:os.Started) (H:Type) (enc:TypeId × Value→H) :
  ReturnsInHanded {} Tryz.checked os 15 .any (fun w args=>(Rows.insnListingsSpec.pre enc Tryz.prog Tryz.f15 [] false w args∧laidMetH Tryz.prog insnLaid w)∧sizedMet enc Tryz.prog Tryz.f15 (OpenSpec.ofChange Rows.insnListingsSpec) false w args)
   (Rows.insnListingsSpec.post enc Tryz.prog Tryz.f15 false true false false):=by
 refine handed_and_shaped (C:=Tryz.checked) (X:=fun w _=>laidMetH Tryz.prog insnLaid w) (fun _ _ _ hh h=>h.of_heap hh) own started (by kernel_rfl) Tryz.func15
  (ChangeSpec.witness_shaped (enc:=enc) (C:=Tryz.checked) (os:=os) (X:=fun w _=>laidMetH Tryz.prog insnLaid w) false (World.laidAll Tryz.prog os insnLaid) #[.agg #[.slice none 0 0,.int .i64 0,.slice none 0 0],.string ByteArray.empty] 8 rfl (laid_shaped os) (by kernel_rfl) (by kernel_rfl) (by kernel_rfl) (laid_met os _)) ?_
 intro W base args ds gs before hval0 hW hcnd hsz0 hL hsh _
 have hgw:=of_laid hL hsh
 clear hL hsh
 have hsz:(DataW.weightsEach Tryz.prog (Tryz.f15.params.toList ++ Rows.insnListingsSpec.plain.varTypes Tryz.prog) (ds ++ gs)).all (·≤reachBytes)=true:=hsz0
 have hval:∀ (j:Nat) t v,Tryz.f15.params[j]?=some t→args[j]?=some v→Value.okWide Tryz.prog W .any base t v:=hval0
 have hW':=hW
 obtain ⟨p,q,hA0,hV,rfl,hfz,hnd⟩:=hW
 have hA:DataW.TrodAll enc Tryz.prog W 0 (fun _=>true) true Tryz.f15.params.toList args.toList ds p:=hA0
 rw [Tryz.params15] at hA hval hsz
 obtain ⟨v0,vs0,d0,ds0,p0,q0,hargs,rfl,rfl,h0,r0⟩:=trodAll_cons hA
 obtain ⟨v1,vs1,d1,ds1,p1,q1,rfl,rfl,rfl,h1,r1⟩:=trodAll_cons r0
 obtain ⟨rfl,rfl,rfl⟩:=trodAll_nil r1
 obtain rfl:args=#[v0,v1]:=by cases args;simp_all
 obtain ⟨rfl,rfl⟩:=trodVars_none hV
 have k0:=h0
 have lt0:∀ x∈p0,x.block < W.heap.size:=by obtain ⟨m,hm⟩:=k0;exact DataW.trod_lt m _ _ _ hm
 obtain ⟨a0,cap0,l0,at0,b0,capb0,L0,rfl,n0,c0,w0,o0,m0,d90,s0⟩:=Q.open_obj (hval 0 86 v0 rfl rfl) h0
 obtain ⟨a1,rfl,rfl,rfl,y1⟩:=open_string Tryz.underlying9 (hval 1 9 v1 rfl rfl) h1
 have w1:a1.size≤140737488351232:=by
  have z:=sized_string hsz (j:=1) (t:=9) rfl rfl
  rw [Array.length_toList] at z
  exact z
 clear hA0 hval0 hsz0 hsz
 refine (Q.listings_any a0 cap0 l0 at0 b0 capb0 L0 a1 W c0 n0 d90 m0 w0 s0 hgw).mono fun e W' ⟨he,bel⟩=>?_
 subst he
 exact ⟨_,rfl,_,_,_,[],_,[],hW',trodAll_mk1 (shut_bool Tryz.underlying4 _),(trodAll_cons_mk (Below.trod Q.laidOut (by kernel_rfl) (of_decide_eq_true (by kernel_rfl)) k0 bel lt0) (trodAll_cons_mk (shut_string Tryz.underlying9 y1) trodAll_mk0)),rfl,bel.frame _,fun h=>by cases h⟩
theorem over:Rows.InsnListingsSaid :=
 OpenClaim.holds_of_wide 15 Tryz.f15 (by as_aux_lemma=>rfl) (by as_aux_lemma=>rfl) (by as_aux_lemma=>rfl) (by as_aux_lemma=>rfl) (by as_aux_lemma=>rfl) (by as_aux_lemma=>rfl) (by as_aux_lemma=>rfl) (by as_aux_lemma=>exact ⟨rfl,rfl,rfl,rfl,rfl⟩) (by as_aux_lemma=>rfl) (by as_aux_lemma=>rfl) (by as_aux_lemma=>rfl) (by as_aux_lemma=>rfl) (by as_aux_lemma=>rfl) (by as_aux_lemma=>kernel_rfl) Tryz.func15 (by as_aux_lemma=>kernel_rfl)
  (of_decide_eq_true (by as_aux_lemma=>kernel_rfl)) (by unfold Func.isWrapper;first | (rw [if_pos (by decide +kernel)];kernel_rfl) | (rw [if_neg (by decide +kernel)];exact ⟨rfl,rfl⟩))
  (fun os started H enc _=>lifted os started H enc)
end Go.Proofs.YtffojmgmpfjlhaaGreatDoor.insnListings
namespace Go.Proofs.YtffojmgmpfjlhaaGreatDoor
theorem insnListings_card:Rows.InsnListingsCardSaid :=
 Claim7.holds_tied_plain_at .later [] [.data,.data,.data,.data,.sentinel,.sentinel,.data,.pinned] true (true, "80711ac449649a074bc558eb23188a5f300da04a61053c1048030e6933e8af92") true
  insnListings.over (fun _ h=>by cases h) (by kernel_rfl) (fun _ h=>by cases h) insnListings_row_tie rfl ⟨rfl,rfl⟩ (by kernel_rfl) rfl
  (fun f fn hf hfn=>by
   obtain rfl:f=15:=Option.some.inj ((show Tryz.prog.funcNamed "tapline/taplinelaw02.InsnListings" = some 15 by kernel_rfl).symm.trans hf) |>.symm
   obtain rfl:fn=Tryz.f15:=(Option.some.inj (Tryz.func15.symm.trans hfn)).symm
   exact ⟨by kernel_rfl,fun j t ht=>by
    rw [Tryz.params15] at ht
    have hm:t∈[86,9]:=by simpa using Array.mem_of_getElem? ht
    have hall:([86,9].all fun u=>!Tryz.prog.wantsStandIn u)=true:=by kernel_rfl
    exact (show Tryz.prog.wantsStandIn t=false by simpa using List.all_eq_true.1 hall t hm)⟩)
  (by kernel_rfl)
#print axioms insnListings_card
end Go.Proofs.YtffojmgmpfjlhaaGreatDoor
