/- Parts of the proof of InsnLists. -/
import Derived.Test.YtffojmgmpfjlhaaGreatDoorInsnListsY14
set_option maxHeartbeats 8000000
set_option maxRecDepth 100000
set_option linter.unusedVariables false
set_option linter.unusedSimpArgs false
namespace Go.Proofs.YtffojmgmpfjlhaaGreatDoor.Q
open Go.Proofs.YtffojmgmpfjlhaaGreatDoor Go.RowKit Go.Proofs.YtffojmgmpfjlhaaGreatDoorW.PrintWords Go.Proofs.YtffojmgmpfjlhaaGreatDoorW.PrintLast Go.Proofs.YtffojmgmpfjlhaaGreatDoorW.PrintMore
attribute [local go_sem] max2_int min2_int max_two min_two max_three min_three max_four min_four
def lzInsnLists.f (k:Nat) (l0_0:List Int) (a0_1:Int) (l0_2:List (S61)):Option (Bool):=(lzsane.f k).bind fun t1314=>((insn_Disassemble.f l0_0 a0_1 l0_2).bind fun bt1315=>((rzDisassemble.f k l0_0 a0_1 l0_2).bind fun bt1317=>(if t1314=true then (if bt1315.2=bt1317.2 then (some (bt1315.1.toList == bt1317.1.toList)) else (some false)) else (some false))))
theorem lzInsnLists.mono:∀ a0 a1 a2 k,LeO (lzInsnLists.f k a0 a1 a2) (lzInsnLists.f (k+1) a0 a1 a2):=by
 intro a0 a1 a2 k;unfold lzInsnLists.f;repeat' first | (with_reducible first | exact lzsane.mono _ | exact rzDisassemble.mono _ _ _ _ | exact LeO.refl _ | exact LeO.none _ | refine LeO.ite ?_ ?_ | refine LeO.bind ?_ (fun _=>?_)) | exact LeO.none _ | refine LeO.ite ?_ ?_ | refine LeO.bind ?_ (fun _=>?_)
theorem lzInsnLists.calls (k:Nat) (A0_0:Option Addr) (c0_0:Nat) (l0_0:List Int) (a0_1:Int) (A0_2:Option Addr) (c0_2:Nat) (l0_2:List (S61)) (r:Bool) (w:World) (hr0_0:Kd.C (Kd.int .u8) w A0_0 l0_0.length l0_0) (hc0_0:l0_0.length≤c0_0) (hr0_2:Kd.C k61 w A0_2 l0_2.length l0_2) (hc0_2:l0_2.length≤c0_2) (h:lzInsnLists.f k l0_0 a0_1 l0_2=some r) (hgw:GW w) (hrt:r=true:=by rfl) :
  Calls Tryz.prog 14 #[.agg #[.slice A0_0 l0_0.length c0_0,.int .i64 a0_1,.slice A0_2 l0_2.length c0_2]] w fun e w'=>e=.returned (.bool r)∧Below w.heap.size w w':=by
 have HRT:=Aside0.mk hrt;clear hrt;have hu86:=Tryz.underlying86;have hu89:=Tryz.underlying89;have HR0_0:=Aside0.mk hr0_0;have HC0_0:=Aside0.mk hc0_0;clear hr0_0 hc0_0;have HR0_2:=Aside0.mk hr0_2;have HC0_2:=Aside0.mk hc0_2;clear hr0_2 hc0_2;have HB:=Aside0.mk (Below.refl w.heap.size w);unfold lzInsnLists.f at h;have H:=h;clear h;obtain ⟨t1314,A2,H⟩:=bas H;(try dsimp only at H);obtain ⟨⟨t1315,t1316⟩,A3,H⟩:=bas H;(try dsimp only at H);obtain ⟨⟨t1317,t1318⟩,A4,H⟩:=bas H;(try dsimp only at H);by_cases c5:t1314=true
 ·subst c5;rw [if_pos rfl] at H;by_cases c6:t1316=t1318
  ·rw [if_pos c6] at H;obtain ⟨c6b0,c6b1⟩:=bqt c6;clear c6;obtain rfl:=Option.some.inj H;go_enter Tryz.func14,Tryz.ntmps14
   go_wp2_with (first | ((with_reducible refine gate_dst (N:=1) rfl ?_);refine bxe (N:=1) (cs:=#[.slice A0_0 l0_0.length c0_0,.int .i64 a0_1,.slice A0_2 l0_2.length c0_2]) (t:=86) ?_;intro gb1313 hg w7 hbox hb;have BK1313:=Aside0.mk hbox;have GW1313:Aside0 (w.heap.size≤gb1313):=⟨gwb⟩;have GE1313:Aside0 (w.heap.size≤gb1313):=⟨gwb⟩;replace HB:=Aside0.mk (below_step blw hb);clear hb hbox hg) | ((with_reducible refine gate_callee (f:=17) rfl ?_);refine gl (some 7) Tryz.func17 #[] ?_;(with_reducible refine (lzsane.calls k  true _ A2.out gwy).mono ?_);rintro e w8 ⟨rfl,hb⟩;refine ⟨_,rfl,?_⟩;replace BK1313:=Aside0.mk (blk_below (g:=gb1313) bko hb);replace HB:=Aside0.mk (below_step blw hb);clear hb;obtain ⟨_,_,_,_,_,_⟩:=bz3 BK1313.out) | ((with_reducible refine gate_callee (f:=40) rfl ?_);refine gl (some 15) Tryz.func40 #[.slice A0_0 l0_0.length c0_0,.int .i64 a0_1,.slice A0_2 l0_2.length c0_2] ?_;(with_reducible refine (insn_Disassemble.calls _ _ l0_0 a0_1 _ _ l0_2 _ _ _ ?side1 ?side2 ?side3 ?side4 A3.out gwy).mono ?_);(case side1=>repeat (first | exact (Kd.C_below HR0_0.out HB.out) | (with_reducible refine Kd.C_alloc ?_ _) | (with_reducible refine Kd.C_drewN ?_ _) | (with_reducible refine Kd.C_drew ?_)));(case side2=>exact HC0_0.out);(case side3=>repeat (first | exact (Kd.C_below HR0_2.out HB.out) | (with_reducible refine Kd.C_alloc ?_ _) | (with_reducible refine Kd.C_drewN ?_ _) | (with_reducible refine Kd.C_drew ?_)));(case side4=>exact HC0_2.out);rintro e w10 ⟨rfl,hb⟩;refine ⟨_,rfl,?_⟩;replace BK1313:=Aside0.mk (blk_below (g:=gb1313) bko hb);replace HB:=Aside0.mk (below_step blw hb);clear hb;obtain ⟨_,_,_,_,_,_⟩:=bz3 BK1313.out) | ((with_reducible refine gate_callee (f:=41) rfl ?_);refine gl (some 24) Tryz.func41 #[.slice A0_0 l0_0.length c0_0,.int .i64 a0_1,.slice A0_2 l0_2.length c0_2] ?_;(with_reducible refine (rzDisassemble.calls k _ _ l0_0 a0_1 _ _ l0_2 _ _ _ ?side1 ?side2 ?side3 ?side4 A4.out).mono ?_);(case side1=>repeat (first | exact (Kd.C_below HR0_0.out HB.out) | (with_reducible refine Kd.C_alloc ?_ _) | (with_reducible refine Kd.C_drewN ?_ _) | (with_reducible refine Kd.C_drew ?_)));(case side2=>exact HC0_0.out);(case side3=>repeat (first | exact (Kd.C_below HR0_2.out HB.out) | (with_reducible refine Kd.C_alloc ?_ _) | (with_reducible refine Kd.C_drewN ?_ _) | (with_reducible refine Kd.C_drew ?_)));(case side4=>exact HC0_2.out);rintro e w12 ⟨rfl,hb⟩;refine ⟨_,rfl,?_⟩;replace BK1313:=Aside0.mk (blk_below (g:=gb1313) bko hb);replace HB:=Aside0.mk (below_step blw hb);clear hb) | ((with_reducible refine gate_dst (N:=6) rfl ?_);refine bxe (N:=6) (cs:=#[.string (⟨#[]⟩:zB),.int .i64 0]) (t:=89) ?_;intro gb1319 hg w13 hbox hb;have BK1319:=Aside0.mk hbox;have GW1319:Aside0 (w.heap.size≤gb1319):=⟨gwb⟩;have GE1319:Aside0 (w.heap.size≤gb1319):=⟨gwb⟩;replace HB:=Aside0.mk (below_step blw hb);have NB1313_1319:Aside0 (gb1313≠gb1319):=⟨nbk⟩;replace BK1313:=Aside0.mk (blk_below (g:=gb1313) bko hb);have NB1319_1313:=Aside0.mk NB1313_1319.out.symm;clear hb hbox hg;have:=NB1319_1313.out;have:=NB1313_1319.out;obtain ⟨_,_,_,_⟩:=bz2 BK1319.out))
   go_ret;exact ⟨rew,blw⟩
  ·rw [if_neg c6] at H;obtain ⟨c6b0,c6b1⟩:=bqf c6;exact absurd (H.trans (congrArg some HRT.out)) (by simp)
 ·replace c5:=Bool.eq_false_iff.mpr c5;subst c5;rw [if_neg (show ¬ (false=true) by decide)] at H;exact absurd (H.trans (congrArg some HRT.out)) (by simp)
end Go.Proofs.YtffojmgmpfjlhaaGreatDoor.Q
namespace Go.Proofs.YtffojmgmpfjlhaaGreatDoor.Q
open Go.Proofs.Ix hiding rd
open Go Go.Proofs.YtffojmgmpfjlhaaGreatDoor Go.RowKit Go.Proofs.YtffojmgmpfjlhaaGreatDoorW.PrintWords
theorem rsweep_f {l:List Int} (hb:Byt l) (k:Nat) (hk:2500≤k):rzSweep.f k l=some (swp l):=by
 unfold rzSweep.f swp
 by_cases h:2048 < l.length
 ·rw [if_pos (by omega),if_pos h]
 ·rw [if_neg (by omega),if_neg h]
  obtain ⟨r,h1,h2,-,-⟩:=sweep_both l hb (by omega) (l.length+1) 0 [] [] k (by omega) (Nat.zero_le _) (Nat.le_refl _) (Nat.le_refl _) (by omega)
  have h3:=swZ_f l (by omega) (l.length+1) 0 [] [] k (by omega) (Nat.zero_le _) (Nat.le_refl _) (Nat.le_refl _) (by omega)
  rw [h3] at h1
  rw [← Option.some.inj h1] at h2
  exact h2
theorem add_fn (b:ByteArray) (s:ByteArray):((b ++ (⟨#[46,102,117,110,99,32]⟩:ByteArray)) ++ s) ++ (⟨#[10]⟩:ByteArray)=bS (b.data.toList ++ (Ll.fn s).bytes) :=
 ba_eq (by
  rw [toS]
  simp [ByteArray.data_append,Ll.bytes,Ll.text])
theorem add_ins (b:ByteArray) (x:S23):(b ++ bS (printW x.f0 x.f1 x.f2 x.f3)) ++ (⟨#[10]⟩:ByteArray)=bS (b.data.toList ++ (Ll.ins x).bytes) :=
 ba_eq (by
  rw [toS]
  simp [ByteArray.data_append,Ll.bytes,Ll.text,prX])
def In9 (M:List S61) (at_:Int) (Y:List S23) (off:Nat):Prop:=∀ s∈M,∃ k,k≤Y.length∧s.f1=at_+((off+lens (Y.take k):Nat):Int)
theorem lst_drop {s:S61} {at_:Int}:∀ (Y:List S23) (off:Nat) (M:List S61),s.f1 < at_+(off:Int)→lstL (s :: M) at_ Y off=lstL M at_ Y off
 | [],off,M,h=>by
  simp only [lstL,fnsAt]
  rw [List.filter_cons_of_neg (by simp;omega)]
 | y :: Y,off,M,h=>by
  simp only [lstL,fnsAt]
  rw [List.filter_cons_of_neg (by simp;omega),lst_drop Y (off+(encX y).length) M (by omega)]
theorem lst_take {s:S61} {at_:Int} {Y:List S23} {off:Nat} {M:List S61} (h:s.f1=at_+(off:Int)) (hY:∀ y∈Y,1≤(encX y).length):lstL (s :: M) at_ Y off=Ll.fn s.f0 :: lstL M at_ Y off:=by
 cases Y with
 | nil =>
  simp only [lstL,fnsAt]
  rw [List.filter_cons_of_pos (by simpa using h)]
  rfl
 | cons y Y =>
  have:=hY y List.mem_cons_self
  simp only [lstL,fnsAt]
  rw [List.filter_cons_of_pos (by simpa using h),lst_drop Y (off+(encX y).length) M (by omega)]
  rfl
theorem bS_self (b:ByteArray):bS b.data.toList=b:=ba_eq (toS _)
theorem fn_len (s:ByteArray):(Ll.fn s).bytes.length=s.size+7:=by
 have:s.data.toList.length=s.size:=sz_list s
 simp only [Ll.bytes,Ll.text,List.length_append,List.length_cons,List.length_nil]
 omega
theorem ins_len2 (x:S23):(Ll.ins x).bytes.length=(printW x.f0 x.f1 x.f2 x.f3).length+1:=by
 simp only [Ll.bytes,Ll.text,List.length_append,List.length_cons,List.length_nil]
 unfold prX
 rw [toS]
theorem drop_c9 {α:Type} {L M:List α} {s:α} {k:Nat} (h:L.drop k=s :: M):∃ hk:k < L.length,L[k]=s∧L.drop (k+1)=M:=by
 have hk:k < L.length:=by
  have:=congrArg List.length h
  rw [List.length_drop,List.length_cons] at this
  omega
 rw [List.drop_eq_getElem_cons hk] at h
 exact ⟨hk,List.cons.inj h⟩
theorem six (s:ByteArray):∀ b:ByteArray,(b ++ (⟨#[46,102,117,110,99,32]⟩:ByteArray)).size=b.size+6∧((b ++ (⟨#[46,102,117,110,99,32]⟩:ByteArray)) ++ s).size=b.size+6+s.size:=fun b=>by
 exact ⟨by rw [ByteArray.size_append];rfl,by rw [ByteArray.size_append,ByteArray.size_append];rfl⟩
theorem len9:∀ Z:List S23,(∀ x∈Z,chkD x.f0 x.f1 x.f2 x.f3=0∧Rg x.f3)→Z.length≤lens Z
 | [],_=>Nat.le_refl 0
 | z :: Z,h=>by
  have:=len9 Z fun x hx=>h x (List.mem_cons_of_mem _ hx)
  have h1:=encX_pos (h z List.mem_cons_self).1
  simp only [lens,List.map_cons,List.sum_cons,List.length_cons] at this ⊢
  omega
section
variable {L:List S61} {at_:Int} {X:List S23} {er:Int} (a0:0≤at_) (a1:at_≤1099511627776) (hl:lens X≤2048) (hg:∀ x∈X,chkD x.f0 x.f1 x.f2 x.f3=0∧Rg x.f3)
include hl hg
theorem walk_ins {Y:List S23} {M:List S61} {kk i off:Nat} {out:ByteArray} {y:S23} (hY:X.drop i=y :: Y) (hfn:fnsAt M (at_+(off:Int))=[]) (hsz:out.size+((lstL M at_ (y :: Y) off).flatMap Ll.bytes).length≤20000) (k:Nat) (hk:M.length+2 * Y.length+301≤k)
  (H:∀ out':ByteArray,out'.size+((lstL M at_ Y (off+(encX y).length)).flatMap Ll.bytes).length≤20000→∀ k',k'+1=k→rzDisassemble.l1 k' at_ L out' (kk:Int) ((i+1:Nat):Int) X (offsL X 0) er=some (bS (out'.data.toList ++ (lstL M at_ Y (off+(encX y).length)).flatMap Ll.bytes),0)) :
  ((rzPrint.f k (rd_T23 X (i:Int)).f0 (rd_T23 X (i:Int)).f1 (rd_T23 X (i:Int)).f2 (rd_T23 X (i:Int)).f3).bind fun t=>(if out.size+t.size≤9223372036854775807 then (if (out ++ t).size+1≤9223372036854775807 then (rzDisassemble.l0 k at_ L ((out ++ t) ++ (⟨#[10]⟩:ByteArray)) (kk:Int) (wrap64 ((i:Int)+1)) X (offsL X 0) er) else none) else none))=some (bS (out.data.toList ++ (lstL M at_ (y :: Y) off).flatMap Ll.bytes),0):=by
 obtain ⟨hi,ey,-⟩:=drop_c9 hY
 have hlx:=Nat.le_trans (len9 X hg) hl
 obtain ⟨hc,hr⟩:=hg y (by rw [← ey];exact List.getElem_mem hi)
 have hp:=rprint_f (chk_parts hc).1 (ok1_of hc hr.1 hr.2) (k - 30)
 rw [show k - 30+30=k by omega] at hp
 have e1:lstL M at_ (y :: Y) off=.ins y :: lstL M at_ Y (off+(encX y).length):=by
  simp only [lstL]
  rw [hfn]
  rfl
 have hb:=ins_len2 y
 rw [e1,List.flatMap_cons,List.length_append] at hsz
 rw [rd_T23_mem hi,ey,hp,Option.bind_some,bS_len,if_pos (by omega),if_pos (by rw [ByteArray.size_append,bS_len];omega),add_ins,wrap_succ (by omega)]
 obtain ⟨k,rfl⟩:∃ q,k=q+1:=⟨k - 1,by omega⟩
 have hsz2:(bS (out.data.toList ++ (Ll.ins y).bytes)).size=out.size+(Ll.ins y).bytes.length:=by
  rw [bS_len,List.length_append]
  have:out.data.toList.length=out.size:=sz_list out
  omega
 rw [rzDisassemble.l0,if_pos (by omega),H _ (by rw [hsz2];omega) k rfl,toS,e1,List.flatMap_cons,List.append_assoc]
include a0 a1
theorem dis_walk (k:Nat):∀ (Y:List S23) (M:List S61) (kk i off:Nat) (out:ByteArray),L.drop kk=M→X.drop i=Y→i≤X.length→off=lens (X.take i)→In9 M at_ Y off→M.Pairwise (fun a b=>a.f1≤b.f1)→L.length≤32 →
  out.size+((lstL M at_ Y off).flatMap Ll.bytes).length≤20000→M.length+2 * Y.length+400≤k →
  rzDisassemble.l1 k at_ L out (kk:Int) (i:Int) X (offsL X 0) er=some (bS (out.data.toList ++ (lstL M at_ Y off).flatMap Ll.bytes),0):=by
 induction k using Nat.strongRecOn with
 | ind k ih =>
  intro Y M kk i off out hM hY hi ho hin hpw hn hsz hk
  obtain ⟨k,rfl⟩:∃ q,k=q+1:=⟨k - 1,by omega⟩
  have hlx:=Nat.le_trans (len9 X hg) hl
  have hpos:∀ x∈X,1≤(encX x).length:=fun x hx=>encX_pos (hg x hx).1
  have hYX:∀ x∈Y,x∈X:=fun x hx=>List.mem_of_mem_drop (by rw [hY];exact hx)
  cases M with
  | nil =>
   have hkk:L.length≤kk:=by
    have:=congrArg List.length hM
    rw [List.length_drop,List.length_nil] at this
    omega
   rw [rzDisassemble.l1,if_neg (by omega)]
   cases Y with
   | nil =>
    have hi2:X.length≤i:=by
     have:=congrArg List.length hY
     rw [List.length_drop,List.length_nil] at this
     omega
    obtain ⟨k,rfl⟩:∃ q,k=q+1:=⟨k - 1,by omega⟩
    rw [if_neg (by omega),wrap_succ (by simp at hk;omega),rzDisassemble.l0,if_neg (by omega)]
    have e:(lstL ([]:List S61) at_ [] off).flatMap Ll.bytes=[]:=rfl
    rw [e,List.append_nil,bS_self]
   | cons y Y =>
    obtain ⟨hi2,ey,hY2⟩:=drop_c9 hY
    rw [if_pos (by omega),if_pos (by omega)]
    simp only [List.length_cons,List.length_nil] at hk
    refine walk_ins hl hg hY rfl hsz k (by simp only [List.length_nil];omega) fun out' h k' hk'=>?_
    exact ih k' (by omega) Y [] kk (i+1) _ out' hM hY2 (by omega) (by rw [lens_take X i hi2,ey,ho]) (fun s hs=>absurd hs List.not_mem_nil) hpw hn h (by simp only [List.length_nil];omega)
  | cons s M =>
   obtain ⟨hkk,es,hM2⟩:=drop_c9 hM
   have hpw2:=(List.pairwise_cons.1 hpw).2
   have hle:=(List.pairwise_cons.1 hpw).1
   simp only [List.length_cons] at hk
   have fin:s.f1=at_+(off:Int)→(if out.size+6≤9223372036854775807 then (if 0≤(kk:Int) then (if (out ++ (⟨#[46,102,117,110,99,32]⟩:ByteArray)).size+((rd_T61 L (kk:Int)).f0).size≤9223372036854775807 then (if ((out ++ (⟨#[46,102,117,110,99,32]⟩:ByteArray)) ++ ((rd_T61 L (kk:Int)).f0)).size+1≤9223372036854775807 then (rzDisassemble.l1 k at_ L (((out ++ (⟨#[46,102,117,110,99,32]⟩:ByteArray)) ++ ((rd_T61 L (kk:Int)).f0)) ++ (⟨#[10]⟩:ByteArray)) (wrap64 ((kk:Int)+1)) (i:Int) X (offsL X 0) er) else (none)) else (none)) else (none)) else (none))=some (bS (out.data.toList ++ (lstL (s :: M) at_ Y off).flatMap Ll.bytes),0):=by
    intro hs
    have e1:=lst_take (M:=M) hs fun y hy=>hpos y (hYX y hy)
    rw [e1,List.flatMap_cons,List.length_append,fn_len] at hsz
    have h6:=six s.f0 out
    rw [rd_T61_mem hkk,es,if_pos (by omega),if_pos (by omega),if_pos (by rw [h6.1];omega),if_pos (by rw [h6.2];omega),add_fn,wrap_succ (by omega)]
    have hsz2:(bS (out.data.toList ++ (Ll.fn s.f0).bytes)).size=out.size+(s.f0.size+7):=by
     rw [bS_len,List.length_append,fn_len]
     have:out.data.toList.length=out.size:=sz_list out
     omega
    rw [ih k (by omega) Y M (kk+1) i off _ hM2 hY hi ho (fun x hx=>hin x (List.mem_cons_of_mem _ hx)) hpw2 hn (by rw [hsz2];omega) (by omega),toS,e1,List.flatMap_cons,List.append_assoc]
   rw [rzDisassemble.l1,if_pos (by omega)]
   cases Y with
   | nil =>
    have hi2:X.length≤i:=by
     have:=congrArg List.length hY
     rw [List.length_drop,List.length_nil] at this
     omega
    obtain ⟨q,hq,e⟩:=hin s List.mem_cons_self
    have hq0:q=0:=by simpa using hq
    subst hq0
    rw [if_pos (by omega)]
    exact fin (by rw [e];simp [lens])
   | cons y Y =>
    obtain ⟨hi2,ey,hY2⟩:=drop_c9 hY
    have hof:YtffojmgmpfjlhaaGreatDoorW.PrintWords.rd (offsL X 0) (i:Int)=(off:Int):=by
     rw [rd_nat,offs_at X 0 i hi2,Nat.zero_add,ho]
    have hle2:=lens_take_le X i
    have holen:(offsL X 0).length=X.length:=by
     have:∀ (Z:List S23) (j:Nat),(offsL Z j).length=Z.length:=by
      intro Z
      induction Z with
      | nil=>intro j;rfl
      | cons z Z ih=>intro j;simp [offsL,ih]
     exact this X 0
    have hw:wrap64 (at_+(off:Int))=at_+(off:Int):=by
     simp only [wrap64]
     omega
    rw [if_neg (by omega),if_pos (by omega),if_pos (by omega),if_pos (by omega),hof,hw]
    by_cases c:s.f1=at_+(off:Int)
    ·rw [if_pos (by rw [rd_T61_mem hkk,es];exact c)]
     exact fin c
    ·rw [if_neg (by rw [rd_T61_mem hkk,es];exact c),if_pos (by omega)]
     have hp:=hpos y (hYX y List.mem_cons_self)
     have hmore:∀ x∈s :: M,at_+(off:Int) < x.f1:=by
      obtain ⟨q,hq,e⟩:=hin s List.mem_cons_self
      have h1:at_+(off:Int) < s.f1:=by omega
      intro x hx
      rcases List.mem_cons.1 hx with rfl | hx
      ·exact h1
      ·have:=hle x hx
       omega
     simp only [List.length_cons] at hk
     refine walk_ins hl hg hY ?_ hsz k (by simp only [List.length_cons];omega) fun out' h k' hk'=>?_
     ·unfold fnsAt
      rw [List.map_eq_nil_iff,List.filter_eq_nil_iff]
      intro x hx
      have:=hmore x hx
      simp
      omega
     ·refine ih k' (by omega) Y (s :: M) kk (i+1) _ out' hM hY2 (by omega) (by rw [lens_take X i hi2,ey,ho]) (fun x hx=>?_) hpw hn h (by simp only [List.length_cons];omega)
      obtain ⟨q,hq,e⟩:=hin x hx
      have h1:=hmore x hx
      cases q with
      | zero =>
       simp [lens] at e
       omega
      | succ q =>
       refine ⟨q,by simpa using hq,?_⟩
       rw [e]
       simp only [List.take_succ_cons,lens,List.map_cons,List.sum_cons]
       omega
end
theorem rdis_f {l:List Int} (hb:Byt l) (at_:Int) (L:List S61) (k:Nat) (hk:8000≤k):rzDisassemble.f k l at_ L=some (disZ l at_ L):=by
 unfold rzDisassemble.f disZ
 by_cases c1:32 < L.length
 ·rw [if_pos (by omega),if_pos c1]
 rw [if_neg (by omega),if_neg c1]
 obtain ⟨k,rfl⟩:∃ q,k=q+1:=⟨k - 1,by omega⟩
 by_cases c2:at_ < 0
 ·rw [if_pos c2,if_pos (.inl c2),rzDisassemble.j0,if_pos rfl]
 rw [if_neg c2,rzDisassemble.j0]
 by_cases c3:1099511627776 < at_
 ·rw [decide_eq_true (show at_ > 1099511627776 from c3),if_pos rfl,if_pos (.inr c3)]
 rw [decide_eq_false (show ¬ at_ > 1099511627776 from c3),if_neg (by decide),if_neg (show ¬ (at_ < 0∨1099511627776 < at_) from fun h=>h.elim c2 c3),rsweep_f hb k (by omega),Option.bind_some]
 by_cases c4:(swp l).2.2=0
 ·rw [if_pos c4,if_neg (by simpa using c4)]
  obtain ⟨hO,hfl,hl2,hgood⟩:=swp_enc hb c4
  obtain ⟨X,hX⟩:∃ X,(swp l).1=X:=⟨_,rfl⟩
  have hok:=swp_ok l c4
  rw [hO,hX] at hok ⊢
  rw [hX] at hfl hgood
  have hlen:lens X=l.length:=by rw [lens_flat,hfl]
  have a0:0≤at_:=by omega
  have a1:at_≤1099511627776:=by omega
  have hw:wrap64 (at_+(l.length:Int))=at_+(lens X:Nat):=by
   simp only [wrap64]
   omega
  rw [hw,symb_f (by omega) (by rw [← hok.1];exact hok.2.1) k (by omega),Option.bind_some,← hlen]
  rw [← hlen] at hl2
  cases hfb:fitB L at_ (offsL X 0) (at_+(lens X:Nat)) with
  | false=>rw [if_neg (by decide),if_pos rfl]
  | true =>
   rw [if_pos rfl,if_neg (by decide)]
   have hasc:=fit_asc hfb
   have hst:=fit_start a0 a1 hl2 hfb
   have hnm:∀ x∈L,nameB x.f0=true:=fun x hx=>by
    obtain ⟨i,hi,rfl⟩:=List.getElem_of_mem hx
    exact (fit_at hfb hi).1
   have hlab:labL (lstL L at_ X 0) 0=L.map fun x=>(x.f0,(x.f1 - at_).toNat):=by
    rw [lab_lst L at_ hasc X 0 (fun x hx=>encX_pos (hgood x hx).1) (fun x hx _=>by
     obtain ⟨k,hk,e⟩:=hst x hx
     exact ⟨k,hk,by rw [e,Nat.zero_add]⟩)]
    congr 1
    rw [List.filter_eq_self]
    intro x hx
    obtain ⟨k,hk,e⟩:=hst x hx
    simp
    omega
   have hsz:=ll_len _ (ok_lst L at_ hnm X 0 hgood)
   rw [len_lst,nam_lab _ 0,hlab,List.length_map,List.length_map] at hsz
   obtain ⟨k,rfl⟩:∃ q,k=q+1:=⟨k - 1,by omega⟩
   have hw:=dis_walk (er:=0) a0 a1 hl2 hgood k X L 0 0 0 ⟨#[]⟩ rfl rfl (Nat.zero_le _) rfl (fun x hx=>by
    obtain ⟨k,hk,e⟩:=hst x hx
    exact ⟨k,hk,by rw [e,Nat.zero_add]⟩) hasc (by omega) (by show 0+_≤20000;omega) (by have:=hok.2.1;omega)
   rw [c4,rzDisassemble.l0,if_pos (by omega)]
   rw [show rzDisassemble.l1 k at_ L ⟨#[]⟩ 0 0 X (offsL X 0) 0=_ from hw,out_eq L at_ X a0 a1 hl2]
   rfl
 ·rw [if_neg c4,if_pos c4]
theorem InsnLists_pure {l:List Int} (hb:Byt l) (at_:Int) {L:List S61} (hL:∀ s∈L,okI s.f1):lzInsnLists.f 9000 l at_ L=some true:=by
 unfold lzInsnLists.f
 rw [sane_true 8900,Option.bind_some,dis_f hb hL,Option.bind_some,rdis_f hb at_ L 9000 (by decide),Option.bind_some,if_pos rfl,if_pos rfl]
 simp
theorem lists_any (A0:Option Addr) (c0:Nat) (l:List Int) (at_:Int) (A2:Option Addr) (c2:Nat) (L:List S61) (w:World) (hr0:Kd.C (Kd.int .u8) w A0 l.length l) (hc0:l.length≤c0) (hr2:Kd.C k61 w A2 L.length L) (hc2:L.length≤c2)
  (hb:∀ n∈l,(Lit.int .u8 n).wf=true) (hs:∀ x∈L,SymOk x) (hgw:GW w) :
  Calls Tryz.prog 14 #[.agg #[.slice A0 l.length c0,.int .i64 at_,.slice A2 L.length c2]] w fun e w'=>e=.returned (.bool true)∧Below w.heap.size w w' :=
 lzInsnLists.calls 9000 A0 c0 l at_ A2 c2 L true w hr0 hc0 hr2 hc2 (InsnLists_pure hb at_ (fun s h=>(hs s h).1)) hgw
end Go.Proofs.YtffojmgmpfjlhaaGreatDoor.Q
