/- Parts of the proof of InsnAssembles. -/
import Derived.Test.YtffojmgmpfjlhaaGreatDoorInsnAssemblesY15
set_option maxHeartbeats 8000000
set_option maxRecDepth 100000
set_option linter.unusedVariables false
set_option linter.unusedSimpArgs false
namespace Go.Proofs.YtffojmgmpfjlhaaGreatDoor.Q
open Go.Proofs.YtffojmgmpfjlhaaGreatDoor Go.RowKit Go.Proofs.YtffojmgmpfjlhaaGreatDoorW.PrintWords Go.Proofs.YtffojmgmpfjlhaaGreatDoorW.PrintLast Go.Proofs.YtffojmgmpfjlhaaGreatDoorW.PrintMore
attribute [local go_sem] max2_int min2_int max_two min_two max_three min_three max_four min_four
def lzInsnAssembles.f (k:Nat) (a0:ByteArray) (a1:Int):Option (Bool):=(lzsane.f k).bind fun t455=>((insn_Assemble.f a0 a1).bind fun bt456=>((rzAssemble.f a0 a1).bind fun bt464=>(if t455=true then (if bt456.2.2.2=bt464.2.2.2 then (if bt456.2.2.1=bt464.2.2.1 then ((lzsameBytes.f bt456.1 bt464.1).bind fun t473=>(if t473=true then ((lzsameSyms.f k bt456.2.1 bt464.2.1).bind fun t474=>(some t474)) else (some false))) else (some false)) else (some false)) else (some false))))
theorem lzInsnAssembles.calls (k:Nat) (a0:ByteArray) (a1:Int) (r:Bool) (w:World) (h:lzInsnAssembles.f k a0 a1=some r) (hgw:GW w) (hrt:r=true:=by rfl) :
  Calls Tryz.prog 5 #[.string a0,.int .i64 a1] w fun e w'=>e=.returned (.bool r)∧Below w.heap.size w w':=by
 have HRT:=Aside0.mk hrt;clear hrt;have hu51:=Tryz.underlying51;have HB:=Aside0.mk (Below.refl w.heap.size w);unfold lzInsnAssembles.f at h;have H:=h;clear h;obtain ⟨t455,A3,H⟩:=bas H;(try dsimp only at H);obtain ⟨⟨t456,t457,t458,t459⟩,A4,H⟩:=bas H;(try dsimp only at H);obtain ⟨⟨t464,t467,t470,t471⟩,A5,H⟩:=bas H;(try dsimp only at H);by_cases c6:t455=true
 ·subst c6;rw [if_pos rfl] at H;by_cases c7:t459=t471
  ·rw [if_pos c7] at H;obtain ⟨c7b0,c7b1⟩:=bqt c7;clear c7;by_cases c8:t458=t470
   ·rw [if_pos c8] at H;obtain ⟨c8b0,c8b1⟩:=bqt c8;clear c8;obtain ⟨t473,A9,H⟩:=bas H;(try dsimp only at H);by_cases c10:t473=true
    ·subst c10;rw [if_pos rfl] at H;obtain ⟨t474,A11,H⟩:=bas H;(try dsimp only at H);obtain rfl:=Option.some.inj H;go_enter Tryz.func5,Tryz.ntmps5
     go_wp2_with (first | ((with_reducible refine gate_callee (f:=17) rfl ?_);refine gl (some 11) Tryz.func17 #[] ?_;(with_reducible refine (lzsane.calls k  true _ A3.out gwy).mono ?_);rintro e w12 ⟨rfl,hb⟩;refine ⟨_,rfl,?_⟩;replace HB:=Aside0.mk (below_step blw hb);clear hb) | ((with_reducible refine gate_callee (f:=28) rfl ?_);refine gl (some 15) Tryz.func28 #[.string a0,.int .i64 a1] ?_;(with_reducible refine (insn_Assemble.calls a0 a1 _ _ _ _ _ A4.out gwy).mono ?_);rintro e w13 ⟨v460,v462,rfl,ho0,ho1,hb⟩;refine ⟨_,rfl,?_⟩;have HO461:=Aside0.mk (Kd.R_lower ho0 (below_size blw));have HO463:=Aside0.mk (Kd.R_lower ho1 (below_size blw));replace HB:=Aside0.mk (below_step blw hb);clear hb;(try clear ho0);(try clear ho1)) | ((with_reducible refine gate_callee (f:=29) rfl ?_);refine gl (some 22) Tryz.func29 #[.string a0,.int .i64 a1] ?_;(with_reducible refine (rzAssemble.calls a0 a1 _ _ _ _ _ A5.out).mono ?_);rintro e w14 ⟨v465,v468,rfl,ho0,ho1,hb⟩;refine ⟨_,rfl,?_⟩;have HO466:=Aside0.mk (Kd.R_lower (Kd.R_new' ho0 (Kd.R_lt (kRd HO461.out))) (below_size blw));replace HO461:=Aside0.mk (Kd.R_elder' (kRd HO461.out) (Kd.R_base ho0) hb);have HO469:=Aside0.mk (Kd.R_lower (Kd.R_new' ho1 (Kd.R_lt (kRd HO463.out))) (below_size blw));replace HO463:=Aside0.mk (Kd.R_elder' (kRd HO463.out) (Kd.R_base ho1) hb);replace HB:=Aside0.mk (below_step blw hb);clear hb;(try clear ho0);(try clear ho1)) | ((with_reducible refine gate_dst (N:=10) rfl ?_);refine bxe (N:=10) (cs:=#[.slice none 0 0,.slice none 0 0,.int .i64 0,.int .i64 0]) (t:=51) ?_;intro gb472 hg w15 hbox hb;replace HO461:=Aside0.mk (Kd.R_below (kRd HO461.out) hb);replace HO463:=Aside0.mk (Kd.R_below (kRd HO463.out) hb);replace HO466:=Aside0.mk (Kd.R_below (kRd HO466.out) hb);replace HO469:=Aside0.mk (Kd.R_below (kRd HO469.out) hb);have BK472:=Aside0.mk hbox;have GW472:Aside0 (w.heap.size≤gb472):=⟨gwb⟩;have GE472:Aside0 (w.heap.size≤gb472):=⟨gwb⟩;replace HB:=Aside0.mk (below_step blw hb);clear hb hbox hg;obtain ⟨Ao16,co16,eo16⟩:=Kd.R_slice HO466.out;subst eo16;obtain ⟨_,_,_,_,_,_,_,_⟩:=bz4 BK472.out;obtain ⟨Ao18,co18,eo18⟩:=Kd.R_slice HO469.out;subst eo18;obtain ⟨Ao19,co19,eo19⟩:=Kd.R_slice HO461.out;subst eo19) | (go_at_call 20;(with_reducible refine (lzsameBytes.calls _ _ _ _ _ _ true _ ?side1 ?side2 ?side3 ?side4 A9.out).mono ?_);(case side1=>refine (Kd.R_reads' (e:=5) (base:=w.heap.size) (ok:=fun k_=>(True∧some k_≠(.slice Ao16 t464.length co16:Value).ownBlock)) (n:=t456.length) (c:=co19) ?_).2.2;exact (by (with_reducible repeat (first | apply Kd.R_alloc | apply Kd.R_drewN | apply Kd.R_drew));exact (Kd.R_mono (Kd.R_far (p:=⟨gb472,3,none⟩) (Kd.R_far (p:=⟨gb472,2,none⟩) (Kd.R_far (p:=⟨gb472,1,none⟩) (Kd.R_far (p:=⟨gb472,0,none⟩) (Kd.R_types HO461.out BK472.out (by decide)) (fun _ hk=>hk.2) (.slice Ao16 t464.length co16)) (fun _ hk=>hk.2) (.slice Ao18 t467.length co18)) (fun _ hk=>hk.2) (.int .i64 t470)) (fun _ hk=>hk.2) (.int .i64 t471)) (fun _ h_=>h_.1))));(case side2=>exact (Kd.R_reads' HO461.out).2.1);(case side3=>refine (Kd.R_reads' (e:=5) (base:=w.heap.size) (ok:=fun k_=>(True∧some k_≠(.slice Ao19 t456.length co19:Value).ownBlock)) (n:=t464.length) (c:=co16) ?_).2.2;exact (by (with_reducible repeat (first | apply Kd.R_alloc | apply Kd.R_drewN | apply Kd.R_drew));exact (Kd.R_mono (Kd.R_far (p:=⟨gb472,3,none⟩) (Kd.R_far (p:=⟨gb472,2,none⟩) (Kd.R_far (p:=⟨gb472,1,none⟩) (Kd.R_far (p:=⟨gb472,0,none⟩) (Kd.R_types HO466.out BK472.out (by decide)) (fun _ hk=>hk.2) (.slice Ao16 t464.length co16)) (fun _ hk=>hk.2) (.slice Ao18 t467.length co18)) (fun _ hk=>hk.2) (.int .i64 t470)) (fun _ hk=>hk.2) (.int .i64 t471)) (fun _ h_=>h_.1))));(case side4=>exact (Kd.R_reads' HO466.out).2.1);rintro e w' ⟨rfl,⟨nd,rfl⟩⟩;obtain ⟨Ao20,co20,eo20⟩:=Kd.R_slice HO463.out;subst eo20) | (go_at_call 30;(with_reducible refine (lzsameSyms.calls k _ _ _ _ _ _ _ _ ?side1 ?side2 ?side3 ?side4 A11.out).mono ?_);(case side1=>refine (Kd.R_reads' (e:=61) (base:=w.heap.size) (ok:=fun k_=>(True∧some k_≠(.slice Ao18 t467.length co18:Value).ownBlock)) (n:=t457.length) (c:=co20) ?_).2.2;exact (by (with_reducible repeat (first | apply Kd.R_alloc | apply Kd.R_drewN | apply Kd.R_drew));exact (Kd.R_mono (Kd.R_far (p:=⟨gb472,3,none⟩) (Kd.R_far (p:=⟨gb472,2,none⟩) (Kd.R_far (p:=⟨gb472,1,none⟩) (Kd.R_far (p:=⟨gb472,0,none⟩) (Kd.R_types HO463.out BK472.out (by decide)) (fun _ hk=>hk.2) (.slice Ao16 t464.length co16)) (fun _ hk=>hk.2) (.slice Ao18 t467.length co18)) (fun _ hk=>hk.2) (.int .i64 t470)) (fun _ hk=>hk.2) (.int .i64 t471)) (fun _ h_=>h_.1))));(case side2=>exact (Kd.R_reads' HO463.out).2.1);(case side3=>refine (Kd.R_reads' (e:=61) (base:=w.heap.size) (ok:=fun k_=>(True∧some k_≠(.slice Ao20 t457.length co20:Value).ownBlock)) (n:=t467.length) (c:=co18) ?_).2.2;exact (by (with_reducible repeat (first | apply Kd.R_alloc | apply Kd.R_drewN | apply Kd.R_drew));exact (Kd.R_mono (Kd.R_far (p:=⟨gb472,3,none⟩) (Kd.R_far (p:=⟨gb472,2,none⟩) (Kd.R_far (p:=⟨gb472,1,none⟩) (Kd.R_far (p:=⟨gb472,0,none⟩) (Kd.R_types HO469.out BK472.out (by decide)) (fun _ hk=>hk.2) (.slice Ao16 t464.length co16)) (fun _ hk=>hk.2) (.slice Ao18 t467.length co18)) (fun _ hk=>hk.2) (.int .i64 t470)) (fun _ hk=>hk.2) (.int .i64 t471)) (fun _ h_=>h_.1))));(case side4=>exact (Kd.R_reads' HO469.out).2.1);rintro e w' ⟨rfl,⟨nd,rfl⟩⟩))
     go_ret;exact ⟨rew,blw⟩
    ·replace c10:=Bool.eq_false_iff.mpr c10;subst c10;rw [if_neg (show ¬ (false=true) by decide)] at H;exact absurd (H.trans (congrArg some HRT.out)) (by simp)
   ·rw [if_neg c8] at H;obtain ⟨c8b0,c8b1⟩:=bqf c8;exact absurd (H.trans (congrArg some HRT.out)) (by simp)
  ·rw [if_neg c7] at H;obtain ⟨c7b0,c7b1⟩:=bqf c7;exact absurd (H.trans (congrArg some HRT.out)) (by simp)
 ·replace c6:=Bool.eq_false_iff.mpr c6;subst c6;rw [if_neg (show ¬ (false=true) by decide)] at H;exact absurd (H.trans (congrArg some HRT.out)) (by simp)
end Go.Proofs.YtffojmgmpfjlhaaGreatDoor.Q
namespace Go.Proofs.YtffojmgmpfjlhaaGreatDoor.Q
open Go.Proofs.Ix hiding rd
open Go Go.Proofs.YtffojmgmpfjlhaaGreatDoor Go.RowKit Go.Proofs.YtffojmgmpfjlhaaGreatDoorW.PrintWords
abbrev Fs9 (F:List (ByteArray × Nat)):Prop:=F.Pairwise fun p q=>p.2≤q.2∧p.1≠q.1
structure ZI (z:Az):Prop where
 good:∀ e∈z.list,GoodL e.l∧e.at_≤2048
 size:z.size=sumL z.list
 le:z.size≤2048
 labs:∀ p∈z.labels,∃ k,k≤z.list.length∧p.2=sumL (z.list.take k)
 F:∃ F:List (ByteArray × Nat),F.map Prod.fst=z.funcs∧(∀ p∈F,lookB z.labels p.1=some p.2∧nameB p.1=true∧p.2≤z.size)∧Fs9 F∧F.length≤32
theorem ZI.no {z:Az} (h:ZI z) (no:Nat):ZI { z with no:=no }:=⟨h.good,h.size,h.le,h.labs,h.F⟩
theorem syms_self_l (L:List S61) (hL:L.length≤1000):∀ (d i k:Nat),i+d=L.length→d < k→lzsameSyms.l0 k L L (i:Int)=some true
 | d,i,0,h,hk=>absurd hk (Nat.not_lt_zero _)
 | 0,i,k+1,h,hk=>by
  rw [lzsameSyms.l0,if_neg (by omega)]
 | d+1,i,k+1,h,hk=>by
  rw [lzsameSyms.l0,if_pos (by omega),if_pos (by omega),if_pos (by omega),if_neg (by simp),wrap_succ (by omega)]
  exact syms_self_l L hL d (i+1) k (by omega) (by omega)
theorem syms_self (L:List S61) (hL:L.length≤32) (k:Nat) (hk:100≤k):lzsameSyms.f k L L=some true:=by
 unfold lzsameSyms.f
 rw [if_pos rfl]
 exact syms_self_l L (by omega) L.length 0 k (by omega) (by omega)
theorem symsZ_len2 (L:List (ByteArray × Nat)) (size:Nat) (a:Int):∀ fs,(symsZ L size a fs).length=fs.length
 | []=>rfl
 | s :: t=>by
  show (symsZ L size a t).length+1=_
  rw [symsZ_len2 L size a t]
  rfl
theorem asmOut_syms (text:ByteArray) (at_:Int):(asmOut text at_).2.1.length≤32:=by
 unfold asmOut
 by_cases h1:20000 < text.size
 ·rw [if_pos h1];exact Nat.zero_le _
 rw [if_neg h1]
 by_cases h2:at_ < 0∨1099511627776 < at_
 ·rw [if_pos h2];exact Nat.zero_le _
 rw [if_neg h2]
 unfold asmFin
 cases hz:asmZ text with
 | error p=>exact Nat.zero_le _
 | ok q =>
  obtain ⟨l,z⟩:=q
  show (symsZ z.labels z.size at_ z.funcs).length≤32
  rw [symsZ_len2]
  exact (asm_ok hz (by omega)).funcs
theorem InsnAssembles_pure (text:ByteArray) (at_:Int):lzInsnAssembles.f 30000 text at_=some true:=by
 have hs:=asmOut_syms text at_
 unfold lzInsnAssembles.f insn_Assemble.f rzAssemble.f
 rw [sane_true 29900,Option.bind_some,Option.bind_some,Option.bind_some,if_pos rfl,if_pos rfl,if_pos rfl,same_self2,Option.bind_some,if_pos rfl,syms_self _ hs 30000 (by omega),Option.bind_some]
theorem assembles_any (text:ByteArray) (at_:Int) (w:World) (hgw:GW w) :
  Calls Tryz.prog 5 #[.string text,.int .i64 at_] w fun e w'=>e=.returned (.bool true)∧Below w.heap.size w w' :=
 lzInsnAssembles.calls 30000 text at_ true w (InsnAssembles_pure text at_) hgw
end Go.Proofs.YtffojmgmpfjlhaaGreatDoor.Q
