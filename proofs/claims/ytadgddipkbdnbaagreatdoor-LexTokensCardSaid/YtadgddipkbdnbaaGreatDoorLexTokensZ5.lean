/- Parts of the proof that the program's token functions return what the specification's return. -/
import Derived.Test.YtadgddipkbdnbaaGreatDoorLexTokensZ1
import Derived.Test.YtadgddipkbdnbaaGreatDoorLexTokensZ2
import Derived.Test.YtadgddipkbdnbaaGreatDoorLexTokensZ3
import Derived.Test.YtadgddipkbdnbaaGreatDoorLexTokensZ4
set_option linter.unusedVariables false
set_option linter.unusedSimpArgs false
namespace Go.Proofs.YtadgddipkbdnbaaGreatDoor.Q
open Go.Proofs.YtadgddipkbdnbaaGreatDoor Go.RowKit Go.Proofs.YtadgddipkbdnbaaGreatDoorW.PrintWords Go.Proofs.YtadgddipkbdnbaaGreatDoorW.PrintLast Go.Proofs.YtadgddipkbdnbaaGreatDoorW.PrintMore
attribute [local go_sem] max2_int min2_int max_two min_two max_three min_three max_four min_four
def rzhex.j0:Nat→Int→Bool→Option (Int)
 | 0,_,_=>none
 | k+1,x0,x13=>if x13=true then (some (((x0 - 97) % 256)+10)) else (if x0≥65 then (if x0≤70 then (some (((x0 - 65) % 256)+10)) else (some (-1))) else (some (-1)))
def rzhex.f (k:Nat) (a0:Int):Option (Int):=(rzisDigit.f a0).bind fun t114=>(if t114=true then (some ((a0 - 48) % 256)) else (if a0≥97 then (rzhex.j0 k a0 (decide (a0≤102))) else (rzhex.j0 k a0 false)))
theorem rzhex.mono_l:∀ k,(∀ y0 y1,LeO (rzhex.j0 k y0 y1) (rzhex.j0 (k+1) y0 y1))
 | 0=>fun _ _ r h=>by simp [rzhex.j0] at h
 | k+1=>by
  have ih0:=rzhex.mono_l k
  ·intro y0 y1;unfold rzhex.j0;repeat' first
   | (with_reducible exact ih0 _ _)
   | (with_reducible exact LeO.refl _)
   | (with_reducible exact LeO.none _)
   | (with_reducible refine LeO.ite ?_ ?_)
   | (with_reducible refine LeO.bind ?_ (fun _=>?_))
   | exact LeO.none _
   | refine LeO.ite ?_ ?_
   | refine LeO.bind ?_ (fun _=>?_)
theorem rzhex.mono:∀ a0 k,LeO (rzhex.f k a0) (rzhex.f (k+1) a0):=by
 intro a0 k;have ih0:=rzhex.mono_l k;unfold rzhex.f;repeat' first
   | (with_reducible exact ih0 _ _)
   | (with_reducible exact LeO.refl _)
   | (with_reducible exact LeO.none _)
   | (with_reducible refine LeO.ite ?_ ?_)
   | (with_reducible refine LeO.bind ?_ (fun _=>?_))
   | exact LeO.none _
   | refine LeO.ite ?_ ?_
   | refine LeO.bind ?_ (fun _=>?_)
set_option maxHeartbeats 8000000 in
set_option maxRecDepth 100000 in
theorem rzhex.calls (k:Nat) (a0:Int) (r:Int) (w:World) (h:rzhex.f k a0=some r) :
  Calls Tryz.prog 87 #[.int .u8 a0] w fun e w'=>e=.returned (.int .i64 r)∧Drawn0 w w':=by
 have H:((rzisDigit.f a0).bind fun t114=>(if t114=true then (some ((a0 - 48) % 256)) else (if a0≥97 then (rzhex.j0 k a0 (decide (a0≤102))) else (rzhex.j0 k a0 false))))=some r:=h;clear h;replace H:=Option.bind_eq_some_iff.mp H;obtain ⟨t114,A20,H⟩:=H;replace H:(if t114=true then (some ((a0 - 48) % 256)) else (if a0≥97 then (rzhex.j0 k a0 (decide (a0≤102))) else (rzhex.j0 k a0 false)))=some r:=H;have A2:=Aside0.mk A20;clear A20;by_cases c3:t114=true
 ·subst c3;have H1:(some ((a0 - 48) % 256))=some r:=by rw [if_pos rfl] at H;exact H
  clear H;have H:=H1;clear H1;obtain rfl:=Option.some.inj H;go_enter Tryz.func87,Tryz.ntmps87
  go_wp2_with (first | ((with_reducible refine gate_callee (f:=80) rfl ?_);refine goesL_ (some 4) rfl rfl Tryz.func80 (by kernel_rfl) rfl #[.int .u8 a0] rfl fq ?_;(with_reducible refine (rzisDigit.calls a0 true _ A2.out).mono ?_);rintro e w' ⟨rfl,⟨nd,rfl⟩⟩;refine ⟨_,rfl,?_⟩))
  go_ret;exact ⟨by first | rfl | (simp;done) | (simp [*];done),by repeat (first | exact Drawn0.refl _ | apply Drawn0.step)⟩
 ·replace c3:=Bool.eq_false_iff.mpr c3;subst c3;have H1:(if a0≥97 then (rzhex.j0 k a0 (decide (a0≤102))) else (rzhex.j0 k a0 false))=some r:=by rw [if_neg (show ¬ (false=true) by decide)] at H;exact H
  clear H;have H:=H1;clear H1;have HC4:=Aside0.mk H;clear H;go_enter Tryz.func87,Tryz.ntmps87
  go_upto_region 3 with (first | ((with_reducible refine gate_callee (f:=80) rfl ?_);refine goesL_ (some 4) rfl rfl Tryz.func80 (by kernel_rfl) rfl #[.int .u8 a0] rfl fq ?_;(with_reducible refine (rzisDigit.calls a0 false _ A2.out).mono ?_);rintro e w' ⟨rfl,⟨nd,rfl⟩⟩;refine ⟨_,rfl,?_⟩))
  (try simp only [Act.put,List.setIfInBounds_toArray,List.set_cons_zero,List.set_cons_succ]);go_cut [13] (fun v13 wc=>∃ (kq:Nat) (x13_3:Bool),v13=.bool x13_3∧Aside0 (rzhex.j0 kq a0 x13_3=some r)∧Aside0 (kq≤k)∧Drawn0 w wc)
  case first =>
   have H:=HC4.out;clear HC4;by_cases c5:a0≥97
   ·rw [if_pos c5] at H;have c5b0:decide (97≤a0)=true:=decide_eq_true c5;clear c5;(first | rw [c5b0] | (simp only [i64_w,i32_w];rw [c5b0]) | skip);have H':=Aside0.mk H;clear H;go_wp2;go_meet
    case rel=>exact ⟨_,(decide (a0≤102)),rsd,H',⟨by first | omega | exact Nat.le_refl _⟩,by repeat (first | exact Drawn0.refl _ | apply Drawn0.step)⟩
   ·rw [if_neg c5] at H;have c5b0:decide (97≤a0)=false:=decide_eq_false c5;clear c5;(first | rw [c5b0] | (simp only [i64_w,i32_w];rw [c5b0]) | skip);have H':=Aside0.mk H;clear H;go_wp2;go_meet
    case rel=>exact ⟨_,(false),rsd,H',⟨by first | omega | exact Nat.le_refl _⟩,by repeat (first | exact Drawn0.refl _ | apply Drawn0.step)⟩
  case rest =>
   clear HC4;try clear p2
   try clear c3
   try clear c5
   try clear c5b0
   obtain ⟨kq,x13_3,rfl,HA,HJ3,⟨mc3,rfl⟩⟩:=hcut;cases kq with
   | zero=>exact absurd HA.out (by simp [rzhex.j0])
   | succ kj3 =>
    have H:=HA.out;clear HA;simp only [rzhex.j0] at H;by_cases c6:x13_3=true
    ·subst c6;have H1:(some (((a0 - 97) % 256)+10))=some r:=by rw [if_pos rfl] at H;exact H
     clear H;have H:=H1;clear H1;obtain rfl:=Option.some.inj H;go_wp2;go_ret;exact ⟨by first | rfl | (simp;done) | (simp [*];done),by repeat (first | exact Drawn0.refl _ | apply Drawn0.step)⟩
    ·replace c6:=Bool.eq_false_iff.mpr c6;subst c6;have H1:(if a0≥65 then (if a0≤70 then (some (((a0 - 65) % 256)+10)) else (some (-1))) else (some (-1)))=some r:=by rw [if_neg (show ¬ (false=true) by decide)] at H;exact H
     clear H;have H:=H1;clear H1;by_cases c7:a0≥65
     ·rw [if_pos c7] at H;have c7b0:decide (65≤a0)=true:=decide_eq_true c7;clear c7;by_cases c8:a0≤70
      ·rw [if_pos c8] at H;have c8b0:decide (a0≤70)=true:=decide_eq_true c8;clear c8;obtain rfl:=Option.some.inj H;go_wp2;go_ret;exact ⟨by first | rfl | (simp;done) | (simp [*];done),by repeat (first | exact Drawn0.refl _ | apply Drawn0.step)⟩
      ·rw [if_neg c8] at H;have c8b0:decide (a0≤70)=false:=decide_eq_false c8;clear c8;obtain rfl:=Option.some.inj H;go_wp2;go_ret;exact ⟨by first | rfl | (simp;done) | (simp [*];done),by repeat (first | exact Drawn0.refl _ | apply Drawn0.step)⟩
     ·rw [if_neg c7] at H;have c7b0:decide (65≤a0)=false:=decide_eq_false c7;clear c7;obtain rfl:=Option.some.inj H;go_wp2;go_ret;exact ⟨by first | rfl | (simp;done) | (simp [*];done),by repeat (first | exact Drawn0.refl _ | apply Drawn0.step)⟩
end Go.Proofs.YtadgddipkbdnbaaGreatDoor.Q
namespace Go.Proofs.YtadgddipkbdnbaaGreatDoor
open Go.RowKit
theorem contains_any (v:Value) (L:List (List UInt8)) (x:ByteArray) (w:World) (h:StrsAt w v L) (hL:L.length≤maxLen) :
  Calls Tryz.prog 140 #[v,.string x] w fun e w'=>e=.returned (.bool (decide (x.data.toList∈L)))∧w=w':=by
 obtain ⟨g,c,rfl,hc⟩:=h
 unfold maxLen at hL
 refine (Tryz.slices_Contains_string g 0 L.length c (L.map fun l=>(⟨l.toArray⟩:ByteArray)) x w (by simp) (by omega) (fun j hj=>?_)).mono fun e w' ⟨h1,h2⟩=>⟨?_,h2.symm⟩
 ·have hj':j < L.length:=by simpa using hj
  rw [Nat.zero_add,hc j hj']
  simp [List.getElem?_eq_getElem hj',List.getD_eq_getElem?_getD]
 ·rw [h1]
  refine ret_bool ?_
  rw [Bool.eq_iff_iff,Lib.containsS_iff,decide_eq_true_eq]
  rw [show (List.map (fun l=>(⟨l.toArray⟩:ByteArray)) L).take L.length=List.map (fun l=>(⟨l.toArray⟩:ByteArray)) L from List.take_of_length_le (by simp)]
  constructor
  ·intro hx
   obtain ⟨l,hl,rfl⟩:=List.mem_map.1 hx
   simpa using hl
  ·intro hx
   exact List.mem_map.2 ⟨_,hx,rfl⟩
def piece (s:ByteArray) (a e:Nat):List UInt8:=(s.extract a e).data.toList
set_option maxHeartbeats 1000000 in
theorem name_bad (b a:Nat) (s:ByteArray) (w:World) (hg:GW w) (h:Scn w b s a) (ha:a≤s.size) (hs:s.size≤maxLen) (hr:¬ (runE 6 s a:Int) - a≤31) :
  Calls Tryz.prog 120 #[.pointer (some ⟨b,0,none⟩)] w fun x w'=>x=.panicked (thrown a 111)∧Below w.heap.size w w':=by
 have h0:=h.text
 have h1:=h.at_
 have hlt:=h.lt
 have hs':=hs
 have hl:=runE_le 6 s a ha
 unfold maxLen at hs
 go_enter Tryz.func120,Tryz.ntmps120
 go_wp2
 go_region_held3 (fun w'=>w'.cell? ⟨b,0,none⟩=some (.string s)∧w'.cell? ⟨b,1,none⟩=some (.int .i64 (a:Int))∧GW w'∧Below w.heap.size w w') (first | exact ⟨h0,h1,hg.drew,(Below.refl _ _).drew⟩ | exact ⟨(hb1.cell (World.block_lt_of_cell? _ _ k0)).trans k0,(hb1.cell (World.block_lt_of_cell? _ _ k1)).trans k1,kg.below hb1 (Nat.le_refl _),kb.trans (hb1.mono kb.size)⟩)
  (first | (go_at_call 69;obtain ⟨k0,k1,kg,kb⟩:=(by assumption:_∧_∧GW _∧Below _ _ _);refine (run_E s a 6 _ kg hs' ha).mono ?_;rintro e w1 ⟨rfl,hb1⟩))
 obtain ⟨k0,k1,kg,kb⟩:=(by assumption:_∧_∧GW _∧Below _ _ _)
 clear hb1
 go_wp2_with (go_at_call 74;refine (fail_any b a 111 s _ ⟨k0,k1,(kb.frozen (p:=⟨b,1,none⟩) hlt).trans h.free⟩).mono ?_;rintro e w2 ⟨rfl,rfl⟩)
 exact ⟨rfl,rfl,kb⟩
set_option maxHeartbeats 1000000 in
theorem name_key (b a:Nat) (s:ByteArray) (w:World) (hg:GW w) (h:Scn w b s a) (ha:a≤s.size) (hs:s.size≤maxLen) (wv:Value) (hwv:w.cell? ⟨b,3,none⟩=some wv) (hsl:StrsAt w wv Lx.words) (hr:(runE 6 s a:Int) - a≤31) (hm:decide (piece s a (runE 6 s a)∈Lx.words)=true) :
  Calls Tryz.prog 120 #[.pointer (some ⟨b,0,none⟩)] w fun x w'=>x=.returned (.tuple #[.int .i64 2,.int .i64 (runE 6 s a:Nat)])∧Below w.heap.size w w':=by
 have HM:=Lib.hid hm
 clear hm
 have h0:=h.text
 have h1:=h.at_
 have hlt:=h.lt
 have hs':=hs
 have hl:=runE_le 6 s a ha
 unfold maxLen at hs
 go_enter Tryz.func120,Tryz.ntmps120
 go_wp2
 go_region_held3 (fun w'=>w'.cell? ⟨b,0,none⟩=some (.string s)∧w'.cell? ⟨b,1,none⟩=some (.int .i64 (a:Int))∧GW w'∧Below w.heap.size w w') (first | exact ⟨h0,h1,hg.drew,(Below.refl _ _).drew⟩ | exact ⟨(hb1.cell (World.block_lt_of_cell? _ _ k0)).trans k0,(hb1.cell (World.block_lt_of_cell? _ _ k1)).trans k1,kg.below hb1 (Nat.le_refl _),kb.trans (hb1.mono kb.size)⟩)
  (first | (go_at_call 69;obtain ⟨k0,k1,kg,kb⟩:=(by assumption:_∧_∧GW _∧Below _ _ _);refine (run_E s a 6 _ kg hs' ha).mono ?_;rintro e w1 ⟨rfl,hb1⟩))
 obtain ⟨k0,k1,kg,kb⟩:=(by assumption:_∧_∧GW _∧Below _ _ _)
 clear hb1
 have k3:=(kb.cell (p:=⟨b,3,none⟩) hlt).trans hwv
 have ksl:=hsl.below kb (Nat.le_refl _)
 have hl1:(a:Int)≤(runE 6 s a:Nat):=by omega
 have hl2:(runE 6 s a:Int)≤(s.size:Nat):=by omega
 have hl3:(0:Int)≤(a:Int):=by omega
 go_wp2
 go_region_held3 (fun w'=>w'.cell? ⟨b,0,none⟩=some (.string s)∧w'.cell? ⟨b,1,none⟩=some (.int .i64 (a:Int))∧w'.cell? ⟨b,3,none⟩=some wv∧StrsAt w' wv Lx.words∧Below w.heap.size w w') (first | exact ⟨k0,k1,k3,ksl,kb.drew⟩ | exact ⟨n0,n1,n3,nsl,nb⟩)
  (first | (go_at_call 140;obtain ⟨n0,n1,n3,nsl,nb⟩:=(by assumption:_∧_∧_∧StrsAt _ _ _∧Below _ _ _);refine (contains_any wv Lx.words _ _ nsl (by decide)).mono ?_;rintro e w2 ⟨rfl,rfl⟩;try (rw [show decide ((s.extract a (runE 6 s a)).data.toList∈Lx.words)=true from HM.out])))
 obtain ⟨m0,m1,m3,msl,mb⟩:=(by assumption:_∧_∧_∧StrsAt _ _ _∧Below _ _ _)
 go_wp2
 go_ret2
 exact ⟨rfl,mb⟩
set_option maxHeartbeats 1000000 in
theorem name_ok (b a:Nat) (s:ByteArray) (w:World) (hg:GW w) (h:Scn w b s a) (ha:a≤s.size) (hs:s.size≤maxLen) (wv:Value) (hwv:w.cell? ⟨b,3,none⟩=some wv) (hsl:StrsAt w wv Lx.words) (hr:(runE 6 s a:Int) - a≤31) (hm:decide (piece s a (runE 6 s a)∈Lx.words)=false) :
  Calls Tryz.prog 120 #[.pointer (some ⟨b,0,none⟩)] w fun x w'=>x=.returned (.tuple #[.int .i64 1,.int .i64 (runE 6 s a:Nat)])∧Below w.heap.size w w':=by
 have HM:=Lib.hid hm
 clear hm
 have h0:=h.text
 have h1:=h.at_
 have hlt:=h.lt
 have hs':=hs
 have hl:=runE_le 6 s a ha
 unfold maxLen at hs
 go_enter Tryz.func120,Tryz.ntmps120
 go_wp2
 go_region_held3 (fun w'=>w'.cell? ⟨b,0,none⟩=some (.string s)∧w'.cell? ⟨b,1,none⟩=some (.int .i64 (a:Int))∧GW w'∧Below w.heap.size w w') (first | exact ⟨h0,h1,hg.drew,(Below.refl _ _).drew⟩ | exact ⟨(hb1.cell (World.block_lt_of_cell? _ _ k0)).trans k0,(hb1.cell (World.block_lt_of_cell? _ _ k1)).trans k1,kg.below hb1 (Nat.le_refl _),kb.trans (hb1.mono kb.size)⟩)
  (first | (go_at_call 69;obtain ⟨k0,k1,kg,kb⟩:=(by assumption:_∧_∧GW _∧Below _ _ _);refine (run_E s a 6 _ kg hs' ha).mono ?_;rintro e w1 ⟨rfl,hb1⟩))
 obtain ⟨k0,k1,kg,kb⟩:=(by assumption:_∧_∧GW _∧Below _ _ _)
 clear hb1
 have k3:=(kb.cell (p:=⟨b,3,none⟩) hlt).trans hwv
 have ksl:=hsl.below kb (Nat.le_refl _)
 have hl1:(a:Int)≤(runE 6 s a:Nat):=by omega
 have hl2:(runE 6 s a:Int)≤(s.size:Nat):=by omega
 have hl3:(0:Int)≤(a:Int):=by omega
 go_wp2
 go_region_held3 (fun w'=>w'.cell? ⟨b,0,none⟩=some (.string s)∧w'.cell? ⟨b,1,none⟩=some (.int .i64 (a:Int))∧w'.cell? ⟨b,3,none⟩=some wv∧StrsAt w' wv Lx.words∧Below w.heap.size w w') (first | exact ⟨k0,k1,k3,ksl,kb.drew⟩ | exact ⟨n0,n1,n3,nsl,nb⟩)
  (first | (go_at_call 140;obtain ⟨n0,n1,n3,nsl,nb⟩:=(by assumption:_∧_∧_∧StrsAt _ _ _∧Below _ _ _);refine (contains_any wv Lx.words _ _ nsl (by decide)).mono ?_;rintro e w2 ⟨rfl,rfl⟩;try (rw [show decide ((s.extract a (runE 6 s a)).data.toList∈Lx.words)=false from HM.out])))
 obtain ⟨m0,m1,m3,msl,mb⟩:=(by assumption:_∧_∧_∧StrsAt _ _ _∧Below _ _ _)
 go_wp2
 go_ret2
 exact ⟨rfl,mb⟩
theorem int_eq {k:IntKind} {a b:Int} (h:a=b):Value.int k a=.int k b:=by rw [h]
def best (r:List UInt8) (m:Nat) (S:List (List UInt8)):Nat:=S.foldl (fun m x=>if x.isPrefixOf r then max m x.length else m) m
theorem best_ge (r:List UInt8) (S:List (List UInt8)):∀ m,(∀ y∈S,y.isPrefixOf r=true→y.length≤m)→best r m S=m:=by
 induction S with
 | nil=>intro m _;rfl
 | cons x S ih =>
  intro m h
  simp only [best,List.foldl_cons]
  have hx:=h x (by simp)
  by_cases hp:x.isPrefixOf r=true
  ·rw [if_pos hp,Nat.max_eq_left (hx hp)]
   exact ih m fun y hy=>h y (by simp [hy])
  ·rw [if_neg hp]
   exact ih m fun y hy=>h y (by simp [hy])
theorem best_find (r:List UInt8) (S:List (List UInt8)) (hS:S.Pairwise fun x y=>x.isPrefixOf y=true→y.length≤x.length) (m:Nat) (h0:m=0) :
  best r m S=((S.find? fun x=>x.isPrefixOf r).map List.length).getD 0:=by
 subst h0
 induction S with
 | nil=>rfl
 | cons x S ih =>
  rw [List.pairwise_cons] at hS
  by_cases hp:x.isPrefixOf r=true
  ·rw [List.find?_cons_of_pos (by simpa using hp)]
   simp only [best,List.foldl_cons,if_pos hp,Nat.zero_max]
   refine best_ge r S _ fun y hy hyp=>?_
   rcases Nat.lt_or_ge x.length y.length with hlt | hge
   ·refine hS.1 y hy ?_
    rw [List.isPrefixOf_iff_prefix] at hp hyp ⊢
    exact List.prefix_of_prefix_length_le hp hyp (by omega)
   ·exact hge
  ·rw [List.find?_cons_of_neg (by simpa using hp)]
   simp only [best,List.foldl_cons,if_neg hp]
   exact ih hS.2
theorem signs_order:Lx.signs.Pairwise fun x y=>x.isPrefixOf y=true→y.length≤x.length:=by decide +kernel
theorem best_signs (r:List UInt8):best r 0 Lx.signs=Lx.signLen r:=best_find r Lx.signs signs_order 0 rfl
theorem best_snoc (r:List UInt8) (m k:Nat) (S:List (List UInt8)) (h:k < S.length) :
  best r m (S.take (k+1))=if (S[k]).isPrefixOf r then max (best r m (S.take k)) S[k].length else best r m (S.take k):=by
 rw [List.take_succ_eq_append_getElem h,best,List.foldl_append]
 rfl
theorem best_le (r:List UInt8) (S:List (List UInt8)):∀ m,m≤r.length→best r m S≤r.length:=by
 induction S with
 | nil=>intro m h;exact h
 | cons x S ih =>
  intro m h
  simp only [best,List.foldl_cons]
  refine ih _ ?_
  split
  ·rename_i hp
   rw [List.isPrefixOf_iff_prefix] at hp
   exact Nat.max_le.2 ⟨h,hp.length_le⟩
  ·exact h
def tail (s:ByteArray) (a:Nat):List UInt8:=s.data.toList.drop a
theorem tail_extract (s:ByteArray) (a:Nat):(s.extract a s.size).data.toList=tail s a:=by
 rw [Lib.extract_data]
 simp [tail,List.take_of_length_le]
theorem rest_as (b a:Nat) (s rst:ByteArray) (hr:rst=s.extract a s.size) (w:World) (h:Scn w b s a) (ha:a≤s.size) :
  Calls Tryz.prog 127 #[.pointer (some ⟨b,0,none⟩)] w fun x w'=>x=.returned (.string rst)∧Below w.heap.size w w':=by
 subst hr
 exact rest_any b a s w h ha
set_option maxHeartbeats 1000000 in
theorem sign_any (b a:Nat) (s:ByteArray) (w:World) (h:Scn w b s a) (ha:a≤s.size) (hs:s.size≤4611686018427387904) (wv:Value) (hwv:w.cell? ⟨b,4,none⟩=some wv) (hsl:StrsAt w wv Lx.signs) :
  Calls Tryz.prog 125 #[.pointer (some ⟨b,0,none⟩)] w fun x w'=>x=.returned (.int .i64 (a+Lx.signLen (tail s a):Nat))∧Below w.heap.size w w':=by
 have h0:=h.text
 have h1:=h.at_
 have hlt:=h.lt
 obtain ⟨g,c,rfl,hc⟩:=hsl
 have hglt:=World.block_lt_of_cell? w _ (hc 0 (by decide))
 have hrl:(tail s a).length≤s.size:=by simp [tail]
 go_enter Tryz.func125,Tryz.ntmps125
 go_wp2
 go_loopw [3,15] (fun v i wr=>∃ k:Nat,k≤47∧i=.int .i64 k∧v=.int .i64 (a+best (tail s a) 0 (Lx.signs.take k):Nat)∧Below w.heap.size w wr) (fun _ i _=>47 - (intOf i).toNat)
 case atStart=>exact ⟨0,by omega,rfl,rfl,Below.refl _ _⟩
 case round =>
  obtain ⟨k,hk,rfl,rfl,hb⟩:=hrel
  have hbl:=best_le (tail s a) (Lx.signs.take k) 0 (by omega)
  by_cases hlk:k < 47
  ·have hkc:wr.cell? ⟨g,k,none⟩=some (.string ⟨(Lx.signs.getD k []).toArray⟩):=(hb.cell (p:=⟨g,k,none⟩) hglt).trans (hc k hlk)
   have hsr:=h.below hb hlt
   have r1:=hsr.at_
   obtain ⟨x,hx⟩:∃ x,Lx.signs.getD k []=x:=⟨_,rfl⟩
   rw [hx] at hkc
   have hxl:x.length≤3:=by rw [← hx];exact (show ∀ y∈Lx.signs,y.length≤3 by decide +kernel) _ (by rw [List.getD_eq_getElem?_getD,List.getElem?_eq_getElem (show k < Lx.signs.length from hlk)];exact List.getElem_mem _)
   have hsn:=best_snoc (tail s a) 0 k Lx.signs hlk
   have hgx:Lx.signs[k]'hlk=x:=by rw [← hx,List.getD_eq_getElem?_getD,List.getElem?_eq_getElem (show k < Lx.signs.length from hlk)];rfl
   rw [hgx] at hsn
   have HSN:=Lib.hid hsn
   clear hsn hgx hx hc
   obtain ⟨rst,hrst⟩:∃ r,r=s.extract a s.size:=⟨_,rfl⟩
   have hrd:rst.data.toList=tail s a:=by rw [hrst,tail_extract]
   have HR:=Lib.hid hrst
   have HRD:=Lib.hid hrd
   clear hrst hrd
   cases hp:Lib.hasPrefix rst.data.toList x with
   | true =>
    have HP:=Lib.hid hp
    go_wp2_with (first | (go_at_call 127;refine (rest_as b a s rst HR.out _ hsr ha).mono ?_;rintro e w1 ⟨rfl,hb1⟩;have r2:=(hsr.below hb1 hsr.lt).at_) | (go_at_call 85;refine (hasPrefix_any _ _ _).mono ?_;rintro e w2 ⟨rfl,rfl⟩))
    go_roundw
    case rel=>exact ⟨k+1,by omega,by go_num,int_eq (by rw [HSN.out,if_pos (show List.isPrefixOf x (tail s a)=true from HRD.out ▸ HP.out)];omega),hb.trans (hb1.mono hb.size)⟩
    case measure=>simp [intOf];omega
   | false =>
    have HP:=Lib.hid hp
    go_wp2_with (first | (go_at_call 127;refine (rest_as b a s rst HR.out _ hsr ha).mono ?_;rintro e w1 ⟨rfl,hb1⟩;have r2:=(hsr.below hb1 hsr.lt).at_) | (go_at_call 85;refine (hasPrefix_any _ _ _).mono ?_;rintro e w2 ⟨rfl,rfl⟩))
    go_roundw
    case rel=>exact ⟨k+1,by omega,by go_num,int_eq (by rw [HSN.out,if_neg (by rw [show List.isPrefixOf x (tail s a)=false from HRD.out ▸ HP.out];simp)];omega),hb.trans (hb1.mono hb.size)⟩
    case measure=>simp [intOf];omega
  ·go_wp2
   go_ret
   exact ⟨ret_int (by rw [← best_signs,List.take_of_length_le (by show 47≤k;omega)]),hb⟩
end Go.Proofs.YtadgddipkbdnbaaGreatDoor
