/- Parts of the proof of InsnAssembles. -/
import Derived.Test.YtffojmgmpfjlhaaGreatDoorInsnAssemblesY13
set_option maxHeartbeats 16000000
set_option maxRecDepth 100000
set_option linter.unusedVariables false
set_option linter.unusedSimpArgs false
namespace Go.Proofs.YtffojmgmpfjlhaaGreatDoor.Q
open Go.Proofs.Ix hiding rd
open Go Go.Proofs.YtffojmgmpfjlhaaGreatDoor Go.RowKit Go.Proofs.YtffojmgmpfjlhaaGreatDoorW.PrintWords Go.Proofs.YtffojmgmpfjlhaaGreatDoorW.PrintLast Go.Proofs.YtffojmgmpfjlhaaGreatDoorW.PrintMore
def Rw.s (r:Rw):S132:=⟨r.lab,r.fn,r.is,⟨r.op,r.a,r.b,r.v⟩,r.to_,r.far,r.bad⟩
theorem ba_iff (a b:ByteArray):a.toList=b.toList↔a=b:=⟨fun h=>ba_ext (by rw [← toL_eq,← toL_eq];exact h),fun h=>by rw [h]⟩
def idx:Option Nat→Int
 | some j=>(j:Int)
 | none=>-1
theorem rfind_l0 (L:List Rw) (s:ByteArray) (n:Nat) (hn:n≤L.length) (hl:L.length≤1000000):∀ (d i k:Nat),i+d=n→d+1≤k →
  rzfind.l0 k (L.map Rw.s) (n:Int) s (i:Int)=some (idx ((findR ((L.take n).drop i) s).map (·+i)))
 | 0,i,k,h,hk=>by
  obtain ⟨k,rfl⟩:∃ m,k=m+1:=⟨k - 1,by omega⟩
  rw [rzfind.l0,if_neg (by omega),List.drop_of_length_le (by rw [List.length_take];omega)]
  rfl
 | d+1,i,k,h,hk=>by
  obtain ⟨k,rfl⟩:∃ m,k=m+1:=⟨k - 1,by omega⟩
  have hi:i < L.length:=by omega
  have hr:rd_T132 (L.map Rw.s) (i:Int)=(L[i]).s:=by
   unfold rd_T132
   rw [show ((i:Int)).toNat=i from rfl,List.getD_eq_getElem?_getD,List.getElem?_map,List.getElem?_eq_getElem hi]
   rfl
  have hd:(L.take n).drop i=L[i] :: (L.take n).drop (i+1):=by
   rw [List.drop_eq_getElem_cons (by rw [List.length_take];omega)]
   congr 1
   rw [List.getElem_take]
  rw [rzfind.l0,if_pos (by omega),if_pos (by omega),if_pos (by rw [List.length_map];omega),hr,hd]
  show (if (L[i]).lab.toList=s.toList then some (i:Int) else _)=some (idx ((if (L[i]).lab=s then some 0 else (findR ((L.take n).drop (i+1)) s).map (·+1)).map (·+i)))
  by_cases c:(L[i]).lab=s
  ·rw [if_pos ((ba_iff _ _).2 c),if_pos c]
   show some (i:Int)=some ((0+i:Nat):Int)
   rw [Nat.zero_add]
  ·rw [if_neg (fun h=>c ((ba_iff _ _).1 h)),if_neg c,wrap_succ (by omega),rfind_l0 L s n hn hl d (i+1) k (by omega) (by omega),Option.map_map]
   congr 3
   funext a
   show a+(i+1)=a+1+i
   omega
theorem rfind_f (L:List Rw) (s:ByteArray) (n:Nat) (hn:n≤L.length) (hl:L.length≤1000000):rzfind.f (L.length+1) (L.map Rw.s) (n:Int) s=some (idx (findR (L.take n) s)):=by
 have h:=rfind_l0 L s n hn hl n 0 (L.length+1) (by omega) (by omega)
 rw [List.drop_zero] at h
 unfold rzfind.f
 rw [show (0:Int)=((0:Nat):Int) from rfl,h]
 congr 2
 cases findR (L.take n) s <;> rfl
theorem c4_at {W:World} {g:Nat} {a b c d:Value} {t:TypeId} (h:W.heap[g]?=some (.cells #[a,b,c,d] t (0,0))):W.cell? ⟨g,0,none⟩=some a∧W.cell? ⟨g,1,none⟩=some b∧W.cell? ⟨g,2,none⟩=some c∧W.cell? ⟨g,3,none⟩=some d :=
 ⟨(blk_cell h 0).trans rfl,(blk_cell h 1).trans rfl,(blk_cell h 2).trans rfl,(blk_cell h 3).trans rfl⟩
structure EmSt (w W:World) (G O:Nat) (vB vS:Value) (B:List Int) (S:List S61):Prop where
 hb:Below w.heap.size w W
 bg:W.heap[G]?=some (.cells #[.slice none 0 0,.slice none 0 0,.int .i64 0,.int .i64 0] 51 (0,0))
 bo:W.heap[O]?=some (.cells #[vB,vS,.int .i64 0,.int .i64 0] 51 (0,0))
 rb:Kd.R (Kd.int .u8) 5 W w.heap.size (fun _=>True) vB B
 rs:Kd.R k61 61 W w.heap.size (fun _=>True) vS S
 ne:G≠O
 gg:w.heap.size≤G
 go:w.heap.size≤O
structure EmX (w W:World) (G O P:Nat) (cs:Array Value) (vB vS:Value) (B:List Int) (S:List S61):Prop where
 st:EmSt w W G O vB vS B S
 bx:W.heap[P]?=some (.cells cs 23 (0,0))
 gx:w.heap.size≤P
section
variable {w W W' w1:World} {G O P:Nat} {cs cs':Array Value} {vB vS v1:Value} {B l:List Int} {S T:List S61} {ok:Nat→Prop}
theorem EmSt.below (h:EmSt w W G O vB vS B S) (hb:Below W.heap.size W W'):EmSt w W' G O vB vS B S :=
 ⟨below_step h.hb hb,blk_below h.bg hb,blk_below h.bo hb,Kd.R_below h.rb hb,Kd.R_below h.rs hb,h.ne,h.gg,h.go⟩
theorem EmX.below (h:EmX w W G O P cs vB vS B S) (hb:Below W.heap.size W W'):EmX w W' G O P cs vB vS B S:=⟨h.st.below hb,blk_below h.bx hb,h.gx⟩
theorem drew_b (W:World):Below W.heap.size W W.drew:=⟨rfl,rfl,rfl,Nat.le_refl _,fun _ _=>rfl⟩
theorem blk_ne2 {w:World} {g g':Nat} {t t':TypeId} {cs cs':Array Value} (h:w.heap[g]?=some (.cells cs t (0,0))) (h':w.heap[g']?=some (.cells cs' t' (0,0))) (hne:t≠t'):g≠g':=fun e=>by
 rw [e,h'] at h
 cases h
 exact hne rfl
theorem EmX.put (h:EmX w W G O P cs vB vS B S) (j:Nat) (v:Value) (e:cs.setIfInBounds j v=cs'):EmX w (W.setCell ⟨P,j,none⟩ v) G O P cs' vB vS B S :=
 ⟨⟨below_set h.st.hb h.gx,blk_far h.st.bg (by exact blk_ne2 h.st.bg h.bx (by decide)) v,blk_far h.st.bo (by exact blk_ne2 h.st.bo h.bx (by decide)) v,
  Kd.R_mono (Kd.R_far (p:=⟨P,j,none⟩) (Kd.R_types h.st.rb h.bx (by decide)) (fun _ hk=>hk.2) v) (fun _ _=>trivial),
  Kd.R_mono (Kd.R_far (p:=⟨P,j,none⟩) (Kd.R_types h.st.rs h.bx (by decide)) (fun _ hk=>hk.2) v) (fun _ _=>trivial),h.st.ne,h.st.gg,h.st.go⟩,blk_put h.bx j v e,h.gx⟩
theorem EmSt.mk2 {uB uS:Value} (hb:Below w.heap.size w w1) (bg:w1.heap[G]?=some (.cells #[.slice none 0 0,.slice none 0 0,.int .i64 0,.int .i64 0] 51 (0,0))) (bo:w1.heap[O]?=some (.cells #[uB,uS,.int .i64 0,.int .i64 0] 51 (0,0))) (rb:Kd.R (Kd.int .u8) 5 w1 w.heap.size ok vB B) (rs:Kd.R k61 61 w1 w.heap.size (fun _=>True) vS S)
  (ne:G≠O) (gg:w.heap.size≤G) (go:w.heap.size≤O) (j:Nat) (v:Value) (e:(#[uB,uS,.int .i64 0,.int .i64 0]:Array Value).setIfInBounds j v=#[vB,vS,.int .i64 0,.int .i64 0]):EmSt w (w1.setCell ⟨O,j,none⟩ v) G O vB vS B S :=
 ⟨below_set hb go,blk_far bg (by exact ne) v,blk_put bo j v e,Kd.R_mono (Kd.R_far (p:=⟨O,j,none⟩) (Kd.R_types rb bo (by decide)) (fun _ hk=>hk.2) v) (fun _ _=>trivial),
  Kd.R_mono (Kd.R_far (p:=⟨O,j,none⟩) (Kd.R_types rs bo (by decide)) (fun _ hk=>hk.2) v) (fun _ _=>trivial),ne,gg,go⟩
theorem EmSt.fin (h:EmSt w W G O vB vS B S) (v0 v2 v3 v4:Value):((((W.setCell ⟨G,0,none⟩ v0).setCell ⟨G,1,none⟩ v2).setCell ⟨G,2,none⟩ v3).setCell ⟨G,3,none⟩ v4).heap[G]?=some (.cells #[v0,v2,v3,v4] 51 (0,0))∧Below w.heap.size w ((((W.setCell ⟨G,0,none⟩ v0).setCell ⟨G,1,none⟩ v2).setCell ⟨G,2,none⟩ v3).setCell ⟨G,3,none⟩ v4) ∧
  Kd.R (Kd.int .u8) 5 ((((W.setCell ⟨G,0,none⟩ v0).setCell ⟨G,1,none⟩ v2).setCell ⟨G,2,none⟩ v3).setCell ⟨G,3,none⟩ v4) w.heap.size (fun _=>True) vB B∧Kd.R k61 61 ((((W.setCell ⟨G,0,none⟩ v0).setCell ⟨G,1,none⟩ v2).setCell ⟨G,2,none⟩ v3).setCell ⟨G,3,none⟩ v4) w.heap.size (fun _=>True) vS S:=by
 refine ⟨?_,below_set (below_set (below_set (below_set h.hb h.gg) h.gg) h.gg) h.gg,?_,?_⟩
 ·have h1:=blk_set (blk_set (blk_set (blk_set h.bg 0 v0) 1 v2) 2 v3) 3 v4
  simp only [List.setIfInBounds_toArray,List.set_cons_zero,List.set_cons_succ] at h1
  exact h1
 ·exact Kd.R_mono (Kd.R_far (Kd.R_far (Kd.R_far (Kd.R_far (Kd.R_types h.rb h.bg (by decide)) (fun _ hk=>hk.2) v0) (fun _ hk=>hk.2) v2) (fun _ hk=>hk.2) v3) (fun _ hk=>hk.2) v4) (fun _ _=>trivial)
 ·exact Kd.R_mono (Kd.R_far (Kd.R_far (Kd.R_far (Kd.R_far (Kd.R_types h.rs h.bg (by decide)) (fun _ hk=>hk.2) v0) (fun _ hk=>hk.2) v2) (fun _ hk=>hk.2) v3) (fun _ hk=>hk.2) v4) (fun _ _=>trivial)
theorem R_sl {α:Type} {d:Kd α} {e base:Nat} {v:Value} {xs:List α} (h:d.R e W base ok v xs):∃ A m c,v=.slice A m c:=by
 obtain ⟨A,c,e⟩:=Kd.R_slice h
 exact ⟨A,_,c,e⟩
theorem EmSt.o1 (h:EmSt w W G O vB vS B S) (hg:W.grownBy w1 vB.ownBlock):w1.heap[O]?=some (.cells #[vB,vS,.int .i64 0,.int .i64 0] 51 (0,0)):=blk_grown h.bo hg (Kd.R_ne h.rb h.bo (by decide))
theorem EmSt.o2 (h:EmSt w W G O vB vS B S) (hg:W.grownBy w1 vS.ownBlock):w1.heap[O]?=some (.cells #[vB,vS,.int .i64 0,.int .i64 0] 51 (0,0)):=blk_grown h.bo hg (Kd.R_ne h.rs h.bo (by decide))
theorem EmSt.app (h:EmSt w W G O vB vS B S) (ho:Kd.R (Kd.int .u8) 5 w1 w.heap.size ok v1 (B ++ l)) (hb:Below w.heap.size w w1) (hg:W.grownBy w1 vB.ownBlock):EmSt w (w1.setCell ⟨O,0,none⟩ v1) G O v1 vS (B ++ l) S :=
 EmSt.mk2 hb (blk_grown h.bg hg (Kd.R_ne h.rb h.bg (by decide))) (h.o1 hg) ho (Kd.R_over' h.rs (Kd.R_typed h.rb) (by decide) hg) h.ne h.gg h.go 0 v1 rfl
theorem EmSt.app2 (h:EmSt w W G O vB vS B S) (ho:Kd.R k61 61 w1 w.heap.size (fun _=>True) v1 T) (hb:Below w.heap.size w w1) (hg:W.grownBy w1 vS.ownBlock):EmSt w (w1.setCell ⟨O,1,none⟩ v1) G O vB v1 B T :=
 EmSt.mk2 hb (blk_grown h.bg hg (Kd.R_ne h.rs h.bg (by decide))) (h.o2 hg) (Kd.R_over' h.rb (Kd.R_typed h.rs) (by decide) hg) ho h.ne h.gg h.go 1 v1 rfl
end
theorem symI_le (at_:Int):∀ X:List It,(symI at_ X).length≤X.length
 | []=>Nat.le_refl _
 | y :: X=>by
  show (if y.r.fn=true then (⟨y.r.lab,at_+y.off,0⟩:S61) :: symI at_ X else symI at_ X).length≤X.length+1
  have:=symI_le at_ X
  split
  ·rw [List.length_cons];omega
  ·omega
theorem symI_bd (at_:Int):∀ X:List It,(∀ x∈X,x.Good)→∀ s∈symI at_ X,at_≤s.f1∧s.f1≤at_+2048
 | [],_,s,h=>absurd h List.not_mem_nil
 | y :: X,hg,s,h=>by
  have h:s∈(if y.r.fn=true then (⟨y.r.lab,at_+y.off,0⟩:S61) :: symI at_ X else symI at_ X):=h
  have ih:=fun h=>symI_bd at_ X (fun x hx=>hg x (List.mem_cons_of_mem _ hx)) s h
  have ho:=(hg y List.mem_cons_self).off
  split at h
  ·rcases List.mem_cons.1 h with rfl | h
   ·exact ⟨by show at_≤at_+(y.off:Int);omega,by show at_+(y.off:Int)≤_;omega⟩
   ·exact ih h
  ·exact ih h
theorem sizR_len (e:Int):∀ S:List S61,(sizR e S).length=S.length
 | []=>rfl
 | s :: S=>by
  show (sizR e S).length+1=_
  rw [sizR_len e S]
  rfl
theorem sizR_at (e:Int):∀ (S:List S61) (i:Nat) (s:S61),S[i]?=some s→(sizR e S)[i]?=some ⟨s.f0,s.f1,nextA e (S.drop (i+1)) - s.f1⟩
 | [],i,s,h=>by simp at h
 | t :: S,0,s,h=>by cases h;rfl
 | t :: S,i+1,s,h=>sizR_at e S i s h
theorem siz_at (e:Int) (S:List S61) (i:Nat) (h:i < S.length):((sizR e S).take i ++ S.drop i)[i]?=S[i]?:=by
 rw [List.getElem?_append_right (by rw [List.length_take,sizR_len];omega),List.length_take,sizR_len,List.getElem?_drop]
 congr 1
 omega
theorem siz_nx (e:Int) (S:List S61) (i:Nat) (h:i < S.length):((sizR e S).take i ++ S.drop i)[i+1]?=S[i+1]?:=by
 rw [List.getElem?_append_right (by rw [List.length_take,sizR_len];omega),List.length_take,sizR_len,List.getElem?_drop]
 congr 1
 omega
theorem siz_step (e:Int) (S:List S61) (i:Nat) (s:S61) (h:S[i]?=some s):((sizR e S).take i ++ S.drop i).set i ⟨s.f0,s.f1,nextA e (S.drop (i+1)) - s.f1⟩=(sizR e S).take (i+1) ++ S.drop (i+1):=by
 have hi:i < S.length:=(List.getElem?_eq_some_iff.1 h).1
 have hl:((sizR e S).take i).length=i:=by rw [List.length_take,sizR_len];omega
 rw [List.set_append_right _ _ (by omega),hl,Nat.sub_self,List.drop_eq_getElem_cons hi,List.set_cons_zero,List.take_add_one,sizR_at e S i s h]
 simp
theorem sym_at {w W:World} {g m cap:Nat} {T:List S61} (h:Kd.R k61 61 W w.heap.size (fun _=>True) (.slice (some ⟨g,0,none⟩) m cap) T) (i:Nat) (hi:i < m) (s:S61) (hs:T[i]?=some s) :
  W.cell? ⟨g,i * 3,none⟩=some (.string s.f0)∧W.cell? ⟨g,i * 3+1,none⟩=some (.int .i64 s.f1)∧W.cell? ⟨g,i * 3+2,none⟩=some (.int .i64 s.f2)∧∀ j,W.frozen? ⟨g,i * 3+j,none⟩=false:=by
 obtain ⟨c,_,hM,hc,hf⟩:=Kd.R_elem h z61 (i:Int) (by omega) (by omega)
 have hr:T.getD ((i:Int)).toNat z61=s:=by
  rw [show ((i:Int)).toNat=i from rfl,List.getD_eq_getElem?_getD,hs]
  rfl
 rw [hr] at hM
 obtain rfl:=k61_openM hM
 exact ⟨hc 0 _ rfl,hc 1 _ rfl,hc 2 _ rfl,hf⟩
theorem EmSt.size {w W:World} {G O g m cap:Nat} {vB:Value} {B:List Int} {T:List S61} (h:EmSt w W G O vB (.slice (some ⟨g,0,none⟩) m cap) B T) (i:Nat) (hi:i < m) (s:S61) (hs:T[i]?=some s) (n:Int) :
  EmSt w (W.setCell ⟨g,i * 3+2,none⟩ (.int .i64 n)) G O vB (.slice (some ⟨g,0,none⟩) m cap) B (T.set i ⟨s.f0,s.f1,n⟩):=by
 obtain ⟨c,hcl,hM,hc,hf⟩:=Kd.R_elem h.rs z61 (i:Int) (by omega) (by omega)
 have hr:T.getD ((i:Int)).toNat z61=s:=by
  rw [show ((i:Int)).toNat=i from rfl,List.getD_eq_getElem?_getD,hs]
  rfl
 rw [hr] at hM
 obtain rfl:=k61_openM hM
 obtain ⟨h1,h2⟩:=Kd.R_seg h.rs (i:Int) (by omega) (by omega) (seg:=[.int .i64 n]) (j:=2) hcl hc (show 3≤3 from by decide) (x':=(⟨s.f0,s.f1,n⟩:S61)) (k61_mkM _ _ _ (⟨s.f0,s.f1,n⟩:S61)) (fun _ hk=>hk)
 have hT:=Kd.R_typed h.rs
 have hgb:=Kd.R_base h.rs g rfl
 exact ⟨below_set h.hb hgb,blk_grown h.bg h2 (Kd.R_ne h.rs h.bg (by decide)),blk_grown h.bo h2 (Kd.R_ne h.rs h.bo (by decide)),Kd.R_over' h.rb hT (by decide) h2,h1,h.ne,h.gg,h.go⟩
def emO (at_:Int) (size:Nat) (X:List It) (R:Except (Nat × Int) (List Int)):List Int × List S61 × Int × Int :=
 match R with
 | .error (no,c)=>([],[],(no:Int),c)
 | .ok l=>(l,sizR (at_+size) (symI at_ X),0,0)
def EmPost (w:World) (r:List Int × List S61 × Int × Int) (e:Ending) (w':World):Prop :=
 ∃ v0 v1:Value,e=.returned (.agg #[v0,v1,.int .i64 r.2.2.1,.int .i64 r.2.2.2])∧Kd.R (Kd.int .u8) 5 w' w.heap.size (fun _=>True) v0 r.1∧Kd.R k61 61 w' w.heap.size (fun _=>True) v1 r.2.1∧Below w.heap.size w w'
theorem rfind_any (W:World) (g0 c0 n m:Nat) (L:List Rw) (hL:L.length=n) (hm:m≤n) (hn:n≤1000000) (hc:n≤c0) (s:ByteArray) (hr:Kd.C k132 W (some ⟨g0,0,none⟩) n (L.map Rw.s)) :
  Calls Tryz.prog 78 #[.slice (some ⟨g0,0,none⟩) n c0,.int .i64 (m:Int),.string s] W fun e w'=>e=.returned (.int .i64 (idx (findR (L.take m) s)))∧Drawn0 W w':=by
 subst hL
 have h:=rzfind.calls (L.length+1) (some ⟨g0,0,none⟩) c0 (L.map Rw.s) m s _ W (by rw [List.length_map];exact hr) (by rw [List.length_map];exact hc) (rfind_f L s m hm hn)
 rw [List.length_map] at h
 exact h
theorem rows_at {w W:World} {g0 n:Nat} {L:List Rw} (hr:Kd.C k132 w (some ⟨g0,0,none⟩) n (L.map Rw.s)) (hb:Below w.heap.size w W) (k:Nat) (hk:k < n) (r:Rw) (e:L[k]?=some r) :
  W.cell? ⟨g0,k * 10,none⟩=some (.string r.lab)∧W.cell? ⟨g0,k * 10+1,none⟩=some (.bool r.fn)∧W.cell? ⟨g0,k * 10+2,none⟩=some (.bool r.is)∧W.cell? ⟨g0,k * 10+3,none⟩=some (.int .i64 r.op)∧W.cell? ⟨g0,k * 10+3+1,none⟩=some (.int .i64 r.a)∧W.cell? ⟨g0,k * 10+3+2,none⟩=some (.int .i64 r.b)∧W.cell? ⟨g0,k * 10+3+3,none⟩=some (.int .i64 r.v)∧W.cell? ⟨g0,k * 10+7,none⟩=some (.string r.to_)∧W.cell? ⟨g0,k * 10+8,none⟩=some (.bool r.far):=by
 obtain ⟨ad,c,ha,_,hK,hc⟩:=Kd.C_get (Kd.C_below hr hb) z132 (k:Int) (by omega) (by omega)
 cases ha
 have hr2:(L.map Rw.s).getD ((k:Int)).toNat z132=r.s:=by
  rw [show ((k:Int)).toNat=k from rfl,List.getD_eq_getElem?_getD,List.getElem?_map,e]
  rfl
 rw [hr2] at hK
 obtain rfl:=k132_open hK
 have hj:∀ j u,([.string r.lab,.bool r.fn,.bool r.is,.int .i64 r.op,.int .i64 r.a,.int .i64 r.b,.int .i64 r.v,.string r.to_,.bool r.far,.bool r.bad]:List Value)[j]?=some u→W.cell? ⟨g0,k * 10+j,none⟩=some u:=fun j u hu=>by
  have:=hc j u hu
  rw [add_plain] at this
  exact this
 exact ⟨hj 0 _ rfl,hj 1 _ rfl,hj 2 _ rfl,hj 3 _ rfl,hj 4 _ rfl,hj 5 _ rfl,hj 6 _ rfl,hj 7 _ rfl,hj 8 _ rfl⟩
theorem ints_at {w W:World} {g1 n:Nat} {L:List Int} (hr:Kd.C (Kd.int .i64) w (some ⟨g1,0,none⟩) n L) (hb:Below w.heap.size w W) (k:Nat) (hk:k < n) (v:Int) (e:L[k]?=some v):W.cell? ⟨g1,k,none⟩=some (.int .i64 v):=by
 obtain ⟨ad,c,ha,_,hK,hc⟩:=Kd.C_get (Kd.C_below hr hb) 0 (k:Int) (by omega) (by omega)
 cases ha
 have hr2:L.getD ((k:Int)).toNat 0=v:=by
  rw [show ((k:Int)).toNat=k from rfl,List.getD_eq_getElem?_getD,e]
  rfl
 rw [hr2] at hK
 obtain rfl:c=[.int .i64 v]:=hK
 have:=hc 0 _ rfl
 rw [add_plain] at this
 have e2:((k:Int)).toNat * (Kd.int .i64).sz+0=k:=by rw [show ((k:Int)).toNat=k from rfl,show (Kd.int .i64).sz=1 from rfl];omega
 rw [e2] at this
 exact this
theorem emit_any (w:World) (g0 g1 c0 c1:Nat) (X:List It) (at_:Int) (size n:Nat) (hX:X.length=n) (hn:n≤20001) (h0:0≤at_) (h1:at_≤1099511627776) (hsz:size≤2060) (hg:∀ x∈X,x.Good) (hfs:(funI X).length≤32)
  (hr0:Kd.C k132 w (some ⟨g0,0,none⟩) n ((X.map It.r).map Rw.s)) (hc0:n≤c0) (hr1:Kd.C (Kd.int .i64) w (some ⟨g1,0,none⟩) n (X.map fun x=>at_+(x.off:Int))) (hc1:n≤c1) :
  Calls Tryz.prog 79 #[.slice (some ⟨g0,0,none⟩) n c0,.slice (some ⟨g1,0,none⟩) n c1,.int .i64 (at_+size)] w (EmPost w (emO at_ size X (codeZ (labI X) (enL 0 X) []))):=by
 have hu51:=Tryz.underlying51
 have hu23:=Tryz.underlying23
 have hu61:=Tryz.underlying61
 obtain ⟨R,hR⟩:∃ R,codeZ (labI X) (enL 0 X) []=R:=⟨_,rfl⟩
 rw [hR]
 have HR0:=Lib.hid (show codeZ (labI X) (enL 0 (X.drop 0)) []=R from hR)
 clear hR
 go_enter Tryz.func79,Tryz.ntmps79
 go_upto_region 2 with fail
 obtain ⟨G,hG⟩:∃ G,w.heap.size=G:=⟨_,rfl⟩
 obtain ⟨O,hO⟩:∃ O,w.heap.size+1=O:=⟨_,rfl⟩
 obtain ⟨W,hW⟩:∃ W,(w.alloc (.cells #[.slice none 0 0,.slice none 0 0,.int .i64 0,.int .i64 0] 51)).alloc (.cells #[.slice none 0 0,.slice none 0 0,.int .i64 0,.int .i64 0] 51)=W:=⟨_,rfl⟩
 have HE:Aside0 (EmSt w W G O (.slice none 0 0) (.slice none 0 0) [] []):=by
  have e0:=blk_new w (.cells #[.slice none 0 0,.slice none 0 0,.int .i64 0,.int .i64 0] 51)
  have e1:=blk_new (w.alloc (.cells #[.slice none 0 0,.slice none 0 0,.int .i64 0,.int .i64 0] 51)) (.cells #[.slice none 0 0,.slice none 0 0,.int .i64 0,.int .i64 0] 51)
  rw [World.size_alloc,hO] at e1
  rw [hG] at e0
  exact ⟨by rw [← hW];exact below_alloc (below_alloc (Below.refl _ _) _) _,by rw [← hW];exact blk_alloc e0 _,by rw [← hW];exact e1,Kd.R_nil _ _ _ _ _,Kd.R_nil _ _ _ _ _,by omega,by omega,by omega⟩
 try simp only [hO]
 try simp only [hG]
 rw [hW]
 clear hW
 go_wp2
 go_loopw [8] (fun i wr=>∃ (k:Nat) (vB vS:Value) (B:List Int) (S:List S61),k≤n∧i=.int .i64 k∧Aside0 (EmSt w wr G O vB vS B S)∧Aside0 (S=symI at_ (X.take k))∧B.length≤12 * k∧Hid (codeZ (labI X) (enL k (X.drop k)) B=R)) (fun i _=>n - (intOf i).toNat)
 case atStart=>exact ⟨0,_,_,[],[],by omega,rfl,HE,⟨rfl⟩,by simp,HR0⟩
 case round =>
  obtain ⟨k,vB,vS,B,S,hk,rfl,HE,hS,hBl,HP⟩:=hrel
  by_cases hlt:k < n
  ·have hkX:k < X.length:=by omega
   obtain ⟨x,hx⟩:∃ x,X[k]=x:=⟨_,rfl⟩
   have hxm:x∈X:=by rw [← hx];exact List.getElem_mem hkX
   have hgd:=hg x hxm
   have hoff:=hgd.off
   have hstep:codeZ (labI X) (enL k (x :: X.drop (k+1))) B=R:=by rw [← hx,← List.drop_eq_getElem_cons hkX];exact HP.out
   have hc:=fun (W:World) (hb:Below w.heap.size w W)=>rows_at hr0 hb k hlt x.r (by rw [List.getElem?_map,List.getElem?_eq_getElem hkX,hx];rfl)
   have hF:=fun (j:Nat) (hj:j < n) (W:World) (hb:Below w.heap.size w W)=>ints_at hr1 hb j hj _ (by rw [List.getElem?_map,List.getElem?_eq_getElem (by omega)];rfl)
   have hFk:∀ W:World,Below w.heap.size w W→W.cell? ⟨g1,k,none⟩=some (.int .i64 (at_+x.off)):=fun W hb=>by
    have h:=hF k hlt W hb
    rw [hx] at h
    exact h
   obtain ⟨f0,f1,f2,f3,f4,f5,f6,f7,f8⟩:=hc wr HE.out.hb
   go_upto_region 6 with fail
   obtain ⟨P,hP⟩:∃ P,wr.heap.size=P:=⟨_,rfl⟩
   obtain ⟨W4,hW4⟩:∃ W4,wr.alloc (.cells #[.int .i64 x.r.op,.int .i64 x.r.a,.int .i64 x.r.b,.int .i64 x.r.v] 23)=W4:=⟨_,rfl⟩
   have HX:Aside0 (EmX w W4 G O P #[.int .i64 x.r.op,.int .i64 x.r.a,.int .i64 x.r.b,.int .i64 x.r.v] vB vS B S):=⟨⟨by rw [← hW4];exact HE.out.below (below_alloc (Below.refl _ _) _),by rw [← hW4,← hP];exact blk_new wr _,by rw [← hP];exact HE.out.hb.size⟩⟩
   rw [hW4]
   simp only [hP]
   clear hW4 hP f0 f1 f2 f3 f4 f5 f6 f7 f8 HE HP
   obtain ⟨f0,f1,f2,f3,f4,f5,f6,f7,f8⟩:=hc W4 HX.out.st.hb
   have hte:x.r.to_.toList.isEmpty=decide (x.r.to_.size=0):=by
    rw [toL_eq]
    by_cases c:x.r.to_.size=0
    ·have:x.r.to_.data.toList=[]:=List.eq_nil_of_length_eq_zero (by rw [sz_list];exact c)
     rw [this,decide_eq_true c]
     rfl
    ·rw [decide_eq_false c]
     exact List.isEmpty_eq_false_iff.2 fun h=>c (by rw [← sz_list,h];rfl)
   have hw1:IntKind.i64.wrap ((k:Int)+1)=((k+1:Nat):Int):=(i64_w _).trans (wrap_succ (by omega))
   have HS:=Aside0.mk hstep
   have HT:=Aside0.mk hte
   clear hstep hte
   go_upto_if 35 with fail
   obtain ⟨bt,hbt⟩:∃ b,(!x.r.to_.toList.isEmpty)=b:=⟨_,rfl⟩
   simp only [hbt]
   rw [HT.out] at hbt
   clear HT
   go_cut [10] (fun v wc=>∃ (far:Bool) (imm:Int),v=.bool far∧Aside0 (EmX w wc G O P #[.int .i64 x.r.op,.int .i64 x.r.a,.int .i64 x.r.b,.int .i64 imm] vB vS B S)∧Aside0 (far=true→R=.error (k+1,24))∧Aside0 (far=false→x.r.is=true→codeZ (labI X) (enL (k+1) (X.drop (k+1))) (B ++ encI x.r.op x.r.a x.r.b imm)=R))
   case first =>
    by_cases hz:x.r.to_.size=0
    ·rw [decide_eq_true hz] at hbt
     subst hbt
     go_wp2
     go_meet
     case rel =>
      refine ⟨_,_,rfl,HX,⟨fun hf=>?_⟩,⟨fun hf his=>((emit_is HS.out his hgd).1 hz).2 hf⟩⟩
      have his:x.r.is=true:=by
       cases hi:x.r.is with
       | true=>rfl
       | false=>rw [(hgd.no_ hi).2] at hf;cases hf
      exact ((emit_is HS.out his hgd).1 hz).1 hf
    ·rw [decide_eq_false hz] at hbt
     subst hbt
     have his:x.r.is=true:=by
      cases hi:x.r.is with
      | true=>rfl
      | false=>exact absurd (hgd.no_ hi).1 hz
     obtain ⟨_,_,_,_,_,_,_,hnm⟩:=hgd.is_ his
     obtain ⟨fm,hfm,hr⟩:=form_any x.r.op
     rcases hr with ⟨hq0,_⟩ | ⟨_,hq0,hp⟩
     ·exact absurd hq0 hnm
     have hfind:=rfind_any W4 g0 c0 n n (X.map It.r) (by rw [List.length_map];exact hX) (Nat.le_refl _) (by omega) hc0 x.r.to_ (Kd.C_below hr0 HX.out.st.hb)
     rw [List.take_of_length_le (by rw [List.length_map];omega)] at hfind
     obtain ⟨e1,e2⟩:=(emit_is HS.out his hgd).2 hz
     cases hfd:findR (X.map It.r) x.r.to_ with
     | none =>
      have hR:=e1 (find_none hz X hfd)
      rw [hfd] at hfind
      have hfind:Calls Tryz.prog 78 #[.slice (some ⟨g0,0,none⟩) n c0,.int .i64 (n:Int),.string x.r.to_] W4 fun e w'=>e=.returned (.int .i64 (-1))∧Drawn0 W4 w':=hfind
      go_upto_region 10 with (go_at_call 78;refine hfind.mono ?_;rintro e w9 ⟨rfl,hd⟩;replace HX:=Aside0.mk (HX.out.below hd.below);clear hd)
      obtain ⟨y1,y2,_,_⟩:=HX.out.st.fin (.slice none 0 0) (.slice none 0 0) (.int .i64 ((k+1:Nat):Int)) (.int .i64 23)
      have hr:=hR
      subst hr
      have hfo:∀ j,World.frozen? _ ⟨G,j,none⟩=false:=fun j=>blk_frozen HX.out.st.bg j
      obtain ⟨q0,q1,q2,q3⟩:=c4_at HX.out.st.bg
      go_wp2
      refine bodyPost_ret (results_cell_row rfl _ _ G 51 _ (0,0) _ rfl y1 Tryz.underlying51 rfl (by kernel_rfl)) rfl ?_
      exact ⟨_,_,rfl,Kd.R_nil _ _ _ _ _,Kd.R_nil _ _ _ _ _,y2⟩
     | some j =>
      obtain ⟨hjX,hlk⟩:=find_some hz X j hfd
      have hj:j < n:=by omega
      obtain ⟨oj,hoj⟩:∃ oj,(X[j]).off=oj:=⟨_,rfl⟩
      have hojb:oj≤2048:=by rw [← hoj];exact (hg _ (List.getElem_mem hjX)).off
      rw [hoj] at hlk
      have e3:=Aside0.mk (e2 oj hlk)
      rw [hfd] at hfind
      have hfind:Calls Tryz.prog 78 #[.slice (some ⟨g0,0,none⟩) n c0,.int .i64 (n:Int),.string x.r.to_] W4 fun e w'=>e=.returned (.int .i64 (j:Int))∧Drawn0 W4 w':=hfind
      have hjl:¬ (j:Int) < 0:=by omega
      have hln:=lenM_bd (formM x.r.op)
      obtain ⟨ln,hlnd⟩:∃ ln,lenM (formM x.r.op)=ln:=⟨_,rfl⟩
      rw [hlnd] at hln
      have HLEN:Aside0 (rzLen.f 12 x.r.op x.r.a x.r.b x.r.v=some (ln:Int)):=⟨by rw [← hlnd];exact rlen_f _ _ _ _ hnm 12 (Nat.le_refl _)⟩
      obtain ⟨imm,himm⟩:∃ imm:Int,(oj:Int) - x.off - ln=imm:=⟨_,rfl⟩
      have HFORM:Aside0 (rzForm.f 12 x.r.op=some fm):=⟨hfm 0⟩
      have HFITS:Aside0 (rzfits.f 12 fm imm=some (fitsM (formM x.r.op) imm)):=⟨rfits_f hp imm 12 (Nat.le_refl _)⟩
      have hww:wrap64 ((at_+(oj:Int)) - wrap64 ((at_+(x.off:Int))+(ln:Int)))=imm:=by
       rw [← himm]
       simp only [wrap64]
       omega
      have HWW:=Aside0.mk hww
      rw [hlnd,himm] at e3
      clear hww himm hlnd e1 e2
      go_upto_region 11 with (go_at_call 78;refine hfind.mono ?_;rintro e W5 ⟨rfl,hd⟩;replace HX:=Aside0.mk (HX.out.below hd.below);clear hd)
      replace HX:=Aside0.mk (HX.out.below (drew_b _))
      obtain ⟨z0,z1,z2,z3⟩:=c4_at HX.out.bx
      have f0:=hF j hj W5.drew HX.out.st.hb
      have f1:=hFk W5.drew HX.out.st.hb
      rw [hoj] at f0
      refine start_ (n:=14) (S:=fun w'=>w'.cell? ⟨g1,j,none⟩=some (.int .i64 (at_+oj))∧w'.cell? ⟨g1,k,none⟩=some (.int .i64 (at_+x.off))∧w'.cell? ⟨P,0,none⟩=some (.int .i64 x.r.op)∧w'.cell? ⟨P,1,none⟩=some (.int .i64 x.r.a)∧w'.cell? ⟨P,2,none⟩=some (.int .i64 x.r.b)∧w'.cell? ⟨P,3,none⟩=some (.int .i64 x.r.v)) (ds:=[13]) #[zF,zF,zF,zF,zF,zF,zF,zF,zF,zF,zF,zF,zF,zF] (by kernel_rfl) rfl rfl ⟨f0,f1,z0,z1,z2,z3⟩ (fun hHeld=>?_)
      generalize W5.drew=W6 at HX f0 f1 z0 z1 z2 z3 hHeld ⊢
      refine pqr 0 14 ?_;refine pqr 1 14 ?_;refine pqr 2 14 ?_;refine pbr 4 14 23 ?_;refine pbr 5 14 55 ?_;refine pbr 6 14 119 ?_;refine tbr6 3 14 127 hHeld ?_;refine tqr6 7 14 hHeld ?_;refine tqr6 8 14 hHeld ?_
      refine one_ (i:=9) (N:=some 59) (fl 14 10) rfl rfl (by kernel_rfl) (by decide) (fun K hK=>?_)
      refine goes_ Tryz.func45 (by kernel_rfl) rfl #[.agg #[.int .i64 x.r.op,.int .i64 x.r.a,.int .i64 x.r.b,.int .i64 x.r.v]] (by rfl) rfl rfl (by simp only [List.map_toArray,List.map_cons,List.map_nil];rfl) ?_
      with_reducible refine (rzLen.calls 12 _ _ _ _ _ _ HLEN.out).mono ?_
      rintro e w9 ⟨rfl,hb9⟩
      refine ⟨_,rfl,?_⟩
      replace HX:=Aside0.mk (HX.out.below hb9)
      have y0:=hF j hj w9 HX.out.st.hb
      have y1:=hFk w9 HX.out.st.hb
      rw [hoj] at y0
      obtain ⟨v0,v1,v2,v3⟩:=c4_at HX.out.bx
      have hfz:w9.frozen? ⟨P,3,none⟩=false:=blk_frozen HX.out.bx 3
      clear hb9
      refine hK.out _ _ ⟨y0,y1,v0,v1,v2,v3⟩ (fun hHeld=>?_)
      clear hK K
      refine nrmq ?_;refine pqr 10 14 ?_;refine pqr 11 14 ?_;refine pqr 12 14 ?_
      refine last_ (i:=13) (N:=none) (fl 14 14) rfl rfl (by kernel_rfl) (by decide) (fun K hK=>?_)
      refine skip_ (w1:=?_) (by rfl) rfl ?_ ?_
      rotate_left
      ·go_simp
       rfl
      refine hK.out _ _ ?_
      clear hK K
      refine done_ (by kernel_rfl) ?_
      rw [HWW.out]
      replace HX:=Aside0.mk (HX.out.put 3 (.int .i64 imm) (cs':=#[.int .i64 x.r.op,.int .i64 x.r.a,.int .i64 x.r.b,.int .i64 imm]) rfl)
      generalize World.setCell _ _ _=W7 at HX ⊢
      clear f0 f1 z0 z1 z2 z3 y0 y1 v0 v1 v2 v3 hfz
      go_upto_region 12 with fail
      replace HX:=Aside0.mk (HX.out.below (drew_b _))
      obtain ⟨z0,z1,z2,z3⟩:=c4_at HX.out.bx
      refine start_ (n:=8) (S:=fun w'=>w'.cell? ⟨P,0,none⟩=some (.int .i64 x.r.op)∧w'.cell? ⟨P,3,none⟩=some (.int .i64 imm)) (ds:=[]) #[zF,zF,zF,zF,zF,zF,zF,zF] (by kernel_rfl) rfl rfl ⟨z0,z3⟩ (fun hHeld=>?_)
      generalize W7.drew=W8 at HX z0 z1 z2 z3 hHeld ⊢
      refine pqr 0 8 ?_;refine pbr 3 8 9 ?_;refine tbr2 1 8 11 hHeld ?_;refine tbr2 4 8 27 hHeld ?_
      refine one_ (i:=2) (N:=some 65) (fl 8 5) rfl rfl (by kernel_rfl) (by decide) (fun K hK=>?_)
      refine goes_ Tryz.func51 (by kernel_rfl) rfl #[.int .i64 x.r.op] (by rfl) rfl rfl (by simp only [List.map_toArray,List.map_cons,List.map_nil];rfl) ?_
      with_reducible refine (rzForm.calls 12 _ _ _ HFORM.out).mono ?_
      rintro e w9 ⟨rfl,hd⟩
      refine ⟨_,rfl,?_⟩
      replace HX:=Aside0.mk (HX.out.below hd.below)
      obtain ⟨y0,y1,y2,y3⟩:=c4_at HX.out.bx
      clear hd
      refine hK.out _ _ ⟨y0,y3⟩ (fun hHeld=>?_)
      clear hK K
      refine nrmq ?_
      refine one_ (i:=5) (N:=some 68) (fl 8 6) rfl rfl (by kernel_rfl) (by decide) (fun K hK=>?_)
      refine goes_ Tryz.func52 (by kernel_rfl) rfl #[.int .i64 fm,.int .i64 imm] (by rfl) rfl rfl (by simp only [List.map_toArray,List.map_cons,List.map_nil];rfl) ?_
      with_reducible refine (rzfits.calls 12 _ _ _ _ HFITS.out).mono ?_
      rintro e w9 ⟨rfl,hd⟩
      refine ⟨_,rfl,?_⟩
      replace HX:=Aside0.mk (HX.out.below hd.below)
      obtain ⟨y0,y1,y2,y3⟩:=c4_at HX.out.bx
      clear hd
      refine hK.out _ _ ⟨y0,y3⟩ (fun hHeld=>?_)
      clear hK K
      refine nrmq ?_;refine pqr 6 8 ?_;refine pqr 7 8 ?_
      refine done_ (by kernel_rfl) ?_
      go_wp2
      go_meet
      case rel=>exact ⟨_,imm,rfl,HX,⟨fun h=>e3.out.1 (by simpa using h)⟩,⟨fun h _=>e3.out.2 (by simpa using h)⟩⟩
   case rest =>
    obtain ⟨far,imm,rfl,HX,E1,E2⟩:=hcut
    have htk:symI at_ (X.take (k+1))=symI at_ (X.take k) ++ (if x.r.fn=true then [⟨x.r.lab,at_+x.off,0⟩] else []):=by
     rw [List.take_add_one,List.getElem?_eq_getElem hkX,hx]
     exact symI_snoc at_ x (X.take k)
    have hSl:S.length≤20001:=by
     rw [hS.out]
     exact Nat.le_trans (symI_le at_ _) (by rw [List.length_take];omega)
    cases far with
    | true =>
     obtain ⟨y1,y2,_,_⟩:=HX.out.st.fin (.slice none 0 0) (.slice none 0 0) (.int .i64 ((k+1:Nat):Int)) (.int .i64 24)
     have hr:=E1.out rfl
     subst hr
     have hfo:∀ j,World.frozen? _ ⟨G,j,none⟩=false:=fun j=>blk_frozen HX.out.st.bg j
     obtain ⟨q0,q1,q2,q3⟩:=c4_at HX.out.st.bg
     go_wp2
     refine bodyPost_ret (results_cell_row rfl _ _ G 51 _ (0,0) _ rfl y1 Tryz.underlying51 rfl (by kernel_rfl)) rfl ?_
     exact ⟨_,_,rfl,Kd.R_nil _ _ _ _ _,Kd.R_nil _ _ _ _ _,y2⟩
    | false =>
     obtain ⟨f0,f1,f2,f3,f4,f5,f6,f7,f8⟩:=hc wc HX.out.st.hb
     have E3:=E2.out rfl
     clear E1 E2
     cases his:x.r.is with
     | true =>
      obtain ⟨hfn,_,_,_,_,_,_,hnm⟩:=hgd.is_ his
      have hR:=Lib.hid (E3 his)
      have hel:=encI_len x.r.op x.r.a x.r.b imm
      rw [his] at f2
      clear E3
      go_upto_region 16 with fail
      clear f0 f1 f2 f3 f4 f5 f6 f7 f8
      replace HX:=Aside0.mk (HX.out.below (drew_b _))
      obtain ⟨z0,z1,z2,z3⟩:=c4_at HX.out.bx
      have w0:wc.drew.cell? ⟨O,0,none⟩=some vB:=(blk_cell HX.out.st.bo 0).trans rfl
      refine start_ (n:=7) (S:=fun w'=>w'.cell? ⟨O,0,none⟩=some vB∧w'.cell? ⟨P,0,none⟩=some (.int .i64 x.r.op)∧w'.cell? ⟨P,1,none⟩=some (.int .i64 x.r.a)∧w'.cell? ⟨P,2,none⟩=some (.int .i64 x.r.b)∧w'.cell? ⟨P,3,none⟩=some (.int .i64 imm)) (ds:=[4,6]) #[zF,zF,zF,zF,zF,zF,zF] (by kernel_rfl) rfl rfl ⟨w0,z0,z1,z2,z3⟩ (fun hHeld=>?_)
      generalize wc.drew=W10 at HX w0 z0 z1 z2 z3 hHeld ⊢
      refine pqr 0 7 ?_;refine tqr5 1 7 hHeld ?_;refine tqr5 2 7 hHeld ?_
      refine one_ (i:=3) (N:=some 82) (fl 7 4) rfl rfl (by kernel_rfl) (by decide) (fun K hK=>?_)
      refine goes_ Tryz.func21 (by kernel_rfl) rfl #[.agg #[.int .i64 x.r.op,.int .i64 x.r.a,.int .i64 x.r.b,.int .i64 imm]] (by rfl) rfl rfl (by simp only [List.map_toArray,List.map_cons,List.map_nil];rfl) ?_
      with_reducible refine (rencode_any _ _ _ imm hnm _).mono ?_
      rintro e w9 ⟨v9,rfl,hr9,hb9⟩
      refine ⟨_,rfl,?_⟩
      obtain ⟨A9,c9,rfl⟩:=Kd.R_slice hr9
      replace HX:=Aside0.mk (HX.out.below hb9)
      have hsz:=HX.out.st.hb.size
      have y4:=(blk_cell HX.out.st.bo 0).trans rfl
      obtain ⟨y0,y1,y2,y3⟩:=c4_at HX.out.bx
      refine hK.out _ _ ⟨y4,y0,y1,y2,y3⟩ (fun hHeld=>?_)
      clear hK K
      refine nrmq ?_
      refine last_ (i:=4) (N:=some 83) (fl 7 5) rfl rfl (by kernel_rfl) (by decide) (fun K hK=>?_)
      refine Kd.R_append_rows_step (Kd.int .u8) (w0:=w) w.heap.size (by rfl) (.tmp 80) (.tmp 82) 24 5 (.int .u8 0) 1 rfl Tryz.underlying24 info5 rfl (by decide) (by omega) vB B (encI x.r.op x.r.a x.r.b imm) _ _ _ (fun _=>True) (fun _=>False) rfl rfl HX.out.st.rb (Kd.R_reads' hr9).2.2 (fun _ _ h=>h) (fun _ h=>h.elim) (fun _ _=>trivial) HX.out.st.hb hsz (by omega) ?_
      intro v1 w1 ho1 hb1 hg1 hat1
      obtain ⟨A1,m1,cp1,rfl⟩:=R_sl ho1
      have HE:=Aside0.mk (HX.out.st.app ho1 hb1 hg1)
      have bo1:=HX.out.st.o1 hg1
      have hfz:w1.frozen? ⟨O,0,none⟩=false:=blk_frozen bo1 0
      have hcz:w1.cell? ⟨O,0,none⟩=some vB:=(blk_cell bo1 0).trans rfl
      clear bo1 hr9 hb9 hg1 hat1 ho1 hb1
      refine hK.out _ _ ?_
      clear hK K
      refine nrmq ?_;refine pqr 5 7 ?_
      refine last_ (i:=6) (N:=none) (fl 7 7) rfl rfl (by kernel_rfl) (by decide) (fun K hK=>?_)
      refine skip_ (w1:=?_) (by rfl) rfl ?_ ?_
      rotate_left
      ·go_simp
       rfl
      refine hK.out _ _ ?_
      clear hK K
      refine done_ (by kernel_rfl) ?_
      generalize World.setCell _ _ _=W11 at HE ⊢
      clear z0 z1 z2 z3 w0 hfz hcz y0 y1 y2 y3 y4 HX
      obtain ⟨f0,f1,f2,f3,f4,f5,f6,f7,f8⟩:=hc W11 HE.out.hb
      rw [hfn] at f1
      go_wp2
      go_roundw
      case rel=>exact ⟨k+1,_,_,_,_,by omega,by go_num,HE,⟨by rw [htk,hfn,hS.out];simp⟩,by rw [List.length_append];omega,hR⟩
      case measure=>simp [intOf];omega
     | false =>
      have hR:=Lib.hid (emit_no HS.out his)
      rw [his] at f2
      clear E3
      cases hfn:x.r.fn with
      | false =>
       rw [hfn] at f1
       go_wp2
       go_roundw
       case rel=>exact ⟨k+1,_,_,_,_,by omega,by go_num,⟨HX.out.st⟩,⟨by rw [htk,hfn,hS.out];simp⟩,by omega,hR⟩
       case measure=>simp [intOf];omega
      | true =>
       rw [hfn] at f1
       go_upto_region 18 with fail
       clear f0 f1 f2 f3 f4 f5 f6 f7 f8
       have HE:=Aside0.mk (HX.out.st.below (drew_b _))
       clear HX
       have f2:wc.drew.cell? ⟨O,1,none⟩=some vS:=(blk_cell HE.out.bo 1).trans rfl
       have f0:=(hc wc.drew HE.out.hb).1
       have f1:=hFk wc.drew HE.out.hb
       refine start_ (n:=16) (S:=fun w'=>w'.cell? ⟨O,1,none⟩=some vS∧w'.cell? ⟨g0,k * 10,none⟩=some (.string x.r.lab)∧w'.cell? ⟨g1,k,none⟩=some (.int .i64 (at_+x.off))) (ds:=[13,15]) #[zF,zF,zF,zF,zF,zF,zF,zF,zF,zF,zF,zF,zF,zF,zF,zF] (by kernel_rfl) rfl rfl ⟨f2,f0,f1⟩ (fun hHeld=>?_)
       generalize wc.drew=W10 at HE f0 f1 f2 hHeld ⊢
       refine pqr 0 16 ?_;refine pbr 2 16 5 ?_;refine pbr 3 16 13 ?_;refine pbr 4 16 29 ?_;refine pbr 5 16 61 ?_;refine pbr 7 16 189 ?_;refine pbr 8 16 445 ?_;refine pbr 9 16 957 ?_;refine tbr3 1 16 959 hHeld ?_;refine tbr3 6 16 1023 hHeld ?_;refine tqr3 10 16 hHeld ?_;refine pqr 11 16 ?_
       refine one_ (i:=12) (N:=some 102) (fl 16 13) rfl rfl (by kernel_rfl) (by decide) (fun K hK=>?_)
       refine value_ (w1:=?_) (v:=?_) (by rfl) rfl ?_ ?_
       rotate_left 2
       ·go_simp
        constructor
        ·rfl
        ·rfl
       refine hK.out _ _ ⟨(blk_cell (HE.out.below (below_alloc (Below.refl _ _) _)).bo 1).trans rfl,(hc _ (HE.out.below (below_alloc (Below.refl _ _) _)).hb).1,hFk _ (HE.out.below (below_alloc (Below.refl _ _) _)).hb⟩ (fun hHeld=>?_)
       clear hK K
       refine nrmq ?_
       refine last_ (i:=13) (N:=some 103) (fl 16 14) rfl rfl (by kernel_rfl) (by decide) (fun K hK=>?_)
       refine Kd.R_append_step k61 (w0:=w) w.heap.size (by rfl) (.tmp 91) (.tmp 102) 47 61 (.agg #[.string ⟨#[]⟩,.int .i64 0,.int .i64 0]) 32 rfl Tryz.underlying47 info61 rfl (by decide) (by omega) vS S (⟨x.r.lab,at_+x.off,0⟩:S61) [.string x.r.lab,.int .i64 (at_+x.off),.int .i64 0] (fun _=>True) (fun _=>False) rfl rfl (k61_mkM _ _ _ _) (fun _ hk=>hk.elim) (fun _ _=>trivial) HE.out.rs HE.out.hb HE.out.hb.size (by omega) ?_
       intro v1 w1 ho1 hb1 hg1 hat1
       obtain ⟨A1,m1,cp1,rfl⟩:=R_sl ho1
       have bo1:=HE.out.o2 hg1
       replace HE:=Aside0.mk (HE.out.app2 ho1 hb1 hg1)
       have hfz:w1.frozen? ⟨O,1,none⟩=false:=blk_frozen bo1 1
       have hcz:w1.cell? ⟨O,1,none⟩=some vS:=(blk_cell bo1 1).trans rfl
       clear bo1 hg1 hat1 ho1 hb1
       refine hK.out _ _ ?_
       clear hK K
       refine nrmq ?_;refine pqr 14 16 ?_
       refine last_ (i:=15) (N:=none) (fl 16 16) rfl rfl (by kernel_rfl) (by decide) (fun K hK=>?_)
       refine skip_ (w1:=?_) (by rfl) rfl ?_ ?_
       rotate_left
       ·go_simp
        rfl
       refine hK.out _ _ ?_
       clear hK K
       refine done_ (by kernel_rfl) ?_
       generalize World.setCell _ _ _=W11 at HE ⊢
       clear f0 f1 f2 hfz hcz
       go_wp2
       go_roundw
       case rel=>exact ⟨k+1,_,_,_,_,by omega,by go_num,HE,⟨by rw [htk,hfn,hS.out];simp⟩,by omega,hR⟩
       case measure=>simp [intOf];omega
  ·have hkn:k=n:=by omega
   subst hkn
   have hR:R=.ok B:=by
    have h:=HP.out
    rw [List.drop_of_length_le (by omega)] at h
    exact h.symm
   subst hR
   have hS:=hS.out
   rw [List.take_of_length_le (by omega)] at hS
   have hbd:∀ s∈S,at_≤s.f1∧s.f1≤at_+2048:=by rw [hS];exact symI_bd at_ X hg
   have HS:=Aside0.mk hS
   obtain ⟨m,hm⟩:∃ m,S.length=m:=⟨_,rfl⟩
   have hm2:m≤20001:=by rw [← hm,hS];exact Nat.le_trans (symI_le at_ X) (by omega)
   have hvs:∃ ad cap,vS=.slice ad m cap∧(0 < m→∃ g,ad=some ⟨g,0,none⟩):=by
    by_cases c:0 < S.length
    ·obtain ⟨g,cap,e,_⟩:=Kd.R_form HE.out.rs c
     exact ⟨_,cap,by rw [e,hm],fun _=>⟨g,rfl⟩⟩
    ·obtain ⟨A,cap,e⟩:=Kd.R_slice HE.out.rs
     exact ⟨A,cap,by rw [e,hm],fun h=>absurd h (by omega)⟩
   obtain ⟨ad,cap,rfl,hadg⟩:=hvs
   have HB:=Aside0.mk hbd
   clear hS hbd HP HR0
   go_wp2
   go_loopw [12] (fun i wr=>∃ (i2:Nat) (T:List S61),i2≤m∧i=.int .i64 i2∧Aside0 (EmSt w wr G O vB (.slice ad m cap) B T)∧Aside0 (T=(sizR (at_+size) S).take i2 ++ S.drop i2)) (fun i _=>m - (intOf i).toNat)
   case atStart=>exact ⟨0,S,by omega,rfl,HE,⟨rfl⟩⟩
   case round =>
    obtain ⟨i,T,hi,rfl,HE,HT⟩:=hrel
    have o1:wr.cell? ⟨O,1,none⟩=some (.slice ad m cap):=(blk_cell HE.out.bo 1).trans rfl
    by_cases hl2:i < m
    ·obtain ⟨g,rfl⟩:=hadg (by omega)
     obtain ⟨s,hs⟩:∃ s,S[i]?=some s:=⟨_,List.getElem?_eq_getElem (by omega)⟩
     have hTs:T[i]?=some s:=by rw [HT.out,siz_at _ S i (by omega)];exact hs
     obtain ⟨hs0,hs1⟩:=HB.out s (List.mem_of_getElem? hs)
     have hTl:T.length=m:=by rw [HT.out,List.length_append,List.length_take,List.length_drop,sizR_len];omega
     obtain ⟨to_,hto⟩:∃ to_,nextA (at_+size) (S.drop (i+1))=to_:=⟨_,rfl⟩
     have htb:at_≤to_∧to_≤at_+2060:=by
      rw [← hto]
      cases hd:S.drop (i+1) with
      | nil=>exact ⟨by show at_≤at_+_;omega,by show at_+_≤_;omega⟩
      | cons u v =>
       have:=HB.out u (List.mem_of_mem_drop (i:=i+1) (by rw [hd];exact List.mem_cons_self))
       exact ⟨this.1,by show u.f1≤_;omega⟩
     have i1:IntKind.i64.wrap ((i:Int)+1)=(i:Int)+1:=by rw [i64_w];simp only [wrap64];omega
     have i2:(0:Int)≤(i:Int)+1:=by omega
     have i3:((i:Int)+1).toNat=i+1:=by omega
     go_upto_if 118 with fail
     go_cut [13] (fun v wc=>v=.int .i64 to_∧Aside0 (EmSt w wc G O vB (.slice (some ⟨g,0,none⟩) m cap) B T))
     case first =>
      by_cases hnx:i+1 < m
      ·obtain ⟨u,hu⟩:∃ u,S[i+1]?=some u:=⟨_,List.getElem?_eq_getElem (by omega)⟩
       have hTu:T[i+1]?=some u:=by rw [HT.out,siz_nx _ S i (by omega)];exact hu
       have hut:u.f1=to_:=by
        rw [← hto,List.drop_eq_getElem_cons (by omega)]
        rw [List.getElem?_eq_getElem (by omega)] at hu
        rw [Option.some.inj hu]
        rfl
       obtain ⟨_,c1,_⟩:=sym_at HE.out.rs (i+1) (by omega) u hTu
       rw [hut] at c1
       have hki:(i:Int)+1 < (m:Int):=by omega
       go_wp2
       go_meet
       case rel=>exact ⟨rfl,HE⟩
      ·have hki:¬ (i:Int)+1 < (m:Int):=by omega
       have hte:to_=at_+size:=by rw [← hto,List.drop_of_length_le (by omega)];rfl
       subst hte
       go_wp2
       go_meet
       case rel=>exact ⟨rfl,HE⟩
     case rest =>
      obtain ⟨rfl,HE⟩:=hcut
      have hww:wrap64 (to_ - s.f1)=to_ - s.f1:=by simp only [wrap64];omega
      clear i1 i2 i3
      go_upto_region 25 with fail
      replace HE:=Aside0.mk (HE.out.below (drew_b _))
      have f0:wc.drew.cell? ⟨O,1,none⟩=some (.slice (some ⟨g,0,none⟩) m cap):=(blk_cell HE.out.bo 1).trans rfl
      obtain ⟨_,f1,hcz,hfz⟩:=sym_at HE.out.rs i hl2 s hTs
      have HN:=fun (n:Int)=>HE.out.size i hl2 s hTs n
      refine start_ (n:=14) (S:=fun w'=>w'.cell? ⟨O,1,none⟩=some (.slice (some ⟨g,0,none⟩) m cap)∧w'.cell? ⟨g,i * 3+1,none⟩=some (.int .i64 s.f1)) (ds:=[13]) #[zF,zF,zF,zF,zF,zF,zF,zF,zF,zF,zF,zF,zF,zF] (by kernel_rfl) rfl rfl ⟨f0,f1⟩ (fun hHeld=>?_)
      generalize wc.drew=W10 at HN f0 f1 hfz hcz hHeld ⊢
      refine pqr 0 14 ?_;refine pbr 2 14 5 ?_;refine pbr 3 14 13 ?_;refine pbr 4 14 29 ?_;refine pbr 6 14 93 ?_;refine tbr2 1 14 95 hHeld ?_;refine tbr2 5 14 127 hHeld ?_;refine pqr 7 14 ?_;refine pqr 8 14 ?_;refine tqr2 9 14 hHeld ?_;refine pqr 10 14 ?_;refine pqr 11 14 ?_;refine pqr 12 14 ?_
      refine last_ (i:=13) (N:=none) (fl 14 14) rfl rfl (by kernel_rfl) (by decide) (fun K hK=>?_)
      refine skip_ (w1:=?_) (by rfl) rfl ?_ ?_
      rotate_left
      ·go_simp
       rfl
      refine hK.out _ _ ?_
      clear hK K
      refine done_ (by kernel_rfl) ?_
      replace HE:=Aside0.mk (HN (to_ - s.f1))
      generalize World.setCell _ _ _=W11 at HE ⊢
      clear HN f0 f1 hcz hfz hww o1
      go_wp2
      go_roundw
      case rel =>
       refine ⟨i+1,_,by omega,by go_num,HE,⟨?_⟩⟩
       rw [HT.out,← hto]
       exact siz_step _ S i s hs
      case measure=>simp [intOf];omega
    ·have him:i=m:=by omega
     subst him
     have hT:T=sizR (at_+size) (symI at_ X):=by
      rw [HT.out,List.drop_of_length_le (by omega),List.take_of_length_le (by rw [sizR_len];omega),List.append_nil,HS.out]
     subst hT
     obtain ⟨p0,p1,p2,p3⟩:=c4_at HE.out.bo
     obtain ⟨q0,q1,q2,q3⟩:=c4_at HE.out.bg
     have hfo:∀ j,World.frozen? _ ⟨G,j,none⟩=false:=fun j=>blk_frozen HE.out.bg j
     obtain ⟨y1,y2,y3,y4⟩:=HE.out.fin vB (.slice ad i cap) (.int .i64 0) (.int .i64 0)
     obtain ⟨Ab,mb,cb,rfl⟩:=R_sl HE.out.rb
     go_wp2
     refine bodyPost_ret (results_cell_row rfl _ _ G 51 _ (0,0) _ rfl y1 Tryz.underlying51 rfl (by kernel_rfl)) rfl ?_
     exact ⟨_,_,rfl,y3,y4,y2⟩
end Go.Proofs.YtffojmgmpfjlhaaGreatDoor.Q
