/- Parts of the proof: see the last text -/
import Derived.Test.YtffojmgmpfjlhaaGreatDoorInsS13
import Derived.IntWalk
import Derived.RangeFuncRecord
import Derived.RangeFuncIn
import Derived.RangeFuncCalls
import Derived.TacticsIn
import Derived.RegionIn
import Derived.OwnWalkIn
import Derived.Lib.SplitLaws
set_option maxHeartbeats 16000000
set_option maxRecDepth 100000
set_option linter.unusedVariables false
set_option linter.unusedSimpArgs false
namespace Go.Proofs.YtffojmgmpfjlhaaGreatDoor
open Go.RowKit Go.Proofs.Ix YtffojmgmpfjlhaaGreatDoorW.PrintWords YtffojmgmpfjlhaaGreatDoorW.PrintLast
theorem Aft.alloc {b:Nat} {w w1:World} (h:Aft b w w1) (o:Obj):Aft b w (w1.alloc o):=h.below ((Below.refl _ _).alloc (Nat.le_refl _) _)
theorem Aft.setNew {b X:Nat} {w w1:World} (h:Aft b w w1) (hX:w.heap.size≤X) (i:Nat) (v:Value):Aft b w (w1.setCell ⟨X,i,none⟩ v) :=
 ⟨h.os,h.tape,h.output,by simpa [World.setCell] using h.size,fun k hk hkb=>(Below.heap_setCell w1 ⟨X,i,none⟩ v k (show k≠X by omega)).trans (h.block k hk hkb)⟩
theorem wrap_dist {a b c:Nat} (ha:a≤2060) (hb:b≤2060) (hc:c≤12):wrap64 (wrap64 ((a:Int) - (b:Int)) - (c:Int))=(a:Int) - b - c:=by
 simp only [wrap64]
 omega
theorem KR_set {w:World} {C X:Nat} {u:Value} {l:List Int} {cells:Array Value} (h:KR w C u l) (n:Nat) (hb:w.heap[X]?=some (Obj.cells cells 173 (0,0))) (i:Nat) (v:Value):KR ((w.drewN n).setCell ⟨X,i,none⟩ v) C u l:=by
 have h1:=Kd.R_types h hb (fun q hq=>by
  rcases List.mem_cons.1 hq with h | h
  ·rw [h];decide
  ·exact absurd (show q∈([]:List Nat) from h) List.not_mem_nil)
 have h2:Kd.R (Kd.int .u8) 5 (w.drewN n) 9 (fun k=>C≤k∧k≠X) u l:=Kd.R_below h1 ⟨rfl,rfl,rfl,Nat.le_refl _,fun _ _=>rfl⟩
 exact Kd.R_mono (Kd.R_far h2 (p:=⟨X,i,none⟩) (fun k hk=>hk.2) v) fun k hk=>hk.1
theorem codeZ_err {L:List (ByteArray × Nat)} {e:En} {es:List En} {out:List Int} {c:Int} (h:e.fix L=.error c):codeZ L (e :: es) out=.error (e.no,c):=by
 unfold codeZ
 rw [h]
theorem codeZ_ok {L:List (ByteArray × Nat)} {e:En} {es:List En} {out:List Int} {imm:Int} {far:Bool} (h:e.fix L=.ok (imm,far)) :
  codeZ L (e :: es) out=if far=true then .error (e.no,24) else codeZ L es (out ++ encI e.l.op e.l.a e.l.b imm):=by
 rw [codeZ,h]
theorem fix_plain {L:List (ByteArray × Nat)} {e:En} (h:e.l.label.size=0):e.fix L=.ok (e.l.imm,e.l.far):=by
 unfold En.fix
 rw [if_pos h]
theorem fix_none {L:List (ByteArray × Nat)} {e:En} (h:¬ e.l.label.size=0) (hl:lookB L e.l.label=none):e.fix L=.error 23:=by
 unfold En.fix
 rw [if_neg h,hl]
theorem fix_some {L:List (ByteArray × Nat)} {e:En} (h:¬ e.l.label.size=0) (v:Nat) (hl:lookB L e.l.label=some v):e.fix L=.ok ((v:Int) - e.at_ - lenM (formM e.l.op),!fitsM (formM e.l.op) ((v:Int) - e.at_ - lenM (formM e.l.op))):=by
 unfold En.fix
 rw [if_neg h,hl]
theorem rowE_at (L:List En) (k j:Nat) (hk:k < L.length) (hj:j < 11):(rowE L)[k * 11+j]?=(L[k]).cs[j]?:=by
 induction L generalizing k with
 | nil=>simp at hk
 | cons e L ih =>
  cases k with
  | zero =>
   show (e.cs ++ rowE L)[0 * 11+j]?=_
   rw [Nat.zero_mul,Nat.zero_add,List.getElem?_append_left (by exact hj)]
   rfl
  | succ k =>
   show (e.cs ++ rowE L)[(k+1) * 11+j]?=_
   rw [List.getElem?_append_right (by show 11≤_;omega),show (k+1) * 11+j - e.cs.length=k * 11+j from by show (k+1) * 11+j - 11=_;omega]
   exact ih k (by simpa using hk)
theorem code_any (B:Nat) (w:World) (A m:Nat) (z:Az) (vl vf:Value) (h:AW B w A m z vl vf) (hn:z.list.length≤20000) (hop:∀ e∈z.list,e.at_≤2060∧e.l.label.size≤1000000) (hlb:∀ p∈z.labels,p.2≤2060) :
  Calls Tryz.prog 74 #[pt A] w (CodeOut w A z m vl vf (codeZ z.labels z.list [])):=by
 obtain ⟨R,hR⟩:∃ R,codeZ z.labels z.list []=R:=⟨_,rfl⟩
 rw [hR]
 have HR0:=Lib.hid hR
 clear hR
 have h9:9≤w.heap.size:=h.gw.size
 have hvl:w.cell? ⟨A,2,none⟩=some vl:=(blk_cell h.blk 2).trans rfl
 obtain ⟨n,hnn⟩:∃ n,z.list.length=n:=⟨_,rfl⟩
 obtain ⟨ad,cap,hvs,hrow⟩:∃ ad cap,vl=.slice ad n cap∧(0 < n→∃ g,ad=some ⟨g,0,none⟩∧g≠A∧g < w.heap.size∧∀ j,j < n * 11→w.cell? ⟨g,j,none⟩=(rowE z.list)[j]?):=by
  have hown:=h.list
  rw [hnn] at hown
  have hA:=h.blk
  obtain ⟨h1,⟨rfl,h2⟩ | ⟨g,cap,cur,rfl,hg,hc,hle,hm,hsz,htk⟩⟩:=id hown
  ·exact ⟨none,0,by rw [h2],fun hh=>by omega⟩
  ·refine ⟨some ⟨g,0,none⟩,cap,rfl,fun _=>⟨g,rfl,?_,(Array.getElem?_eq_some_iff.1 hc).1,fun j hj=>hown.cellAt j hj⟩⟩
   rintro rfl
   rw [hA] at hc
   cases hc
 subst hvs
 go_enter Tryz.func74,Tryz.ntmps74
 go_wp2
 go_loopw [13,2] (fun i v wr=>∃ (k no:Nat) (l:List Int),k≤n∧i=.int .i64 k∧Aft A w wr∧wr.heap[A]?=some (.cells #[.int .i64 (no:Int),.int .i64 (z.size:Int),.slice ad n cap,.map (some m),vf] 123 (0,0))∧KR wr w.heap.size v l∧l.length≤12 * k∧Hid (codeZ z.labels (z.list.drop k) l=R)) (fun i _ _=>n - (intOf i).toNat)
 case atStart=>exact ⟨0,z.no,[],by omega,rfl,Aft.refl _ _,h.blk,Kd.R_nil _ _ _ _ _,by simp,HR0⟩
 case round =>
  obtain ⟨k,no,l,hk,rfl,haf,hblk,hrl,hll,HP⟩:=hrel
  by_cases hlt:k < n
  ·obtain ⟨g,rfl,hgA,hgw,hcs⟩:=hrow (by omega)
   have hkl:k < z.list.length:=by rw [hnn];exact hlt
   obtain ⟨e,hee⟩:∃ e,z.list[k]=e:=⟨_,rfl⟩
   have hmem:e∈z.list:=by rw [← hee];exact List.getElem_mem hkl
   have hall:∀ j u,e.cs[j]?=some u→wr.cell? ⟨g,k * 11+j,none⟩=some u:=by
    intro j u hu
    have hj:j < 11:=(List.getElem?_eq_some_iff.1 hu).1
    rw [World.cell?_of_block (w:=w) (haf.block g hgw hgA),hcs _ (by omega),← hu,← hee]
    exact rowE_at z.list k j hkl hj
   have hstep:codeZ z.labels (e :: z.list.drop (k+1)) l=R:=by rw [← hee,← List.drop_eq_getElem_cons hkl];exact HP.out
   have HS:=Lib.hid hstep
   clear hstep HP hee
   have c0:wr.cell? ⟨g,k * 11,none⟩=_:=hall 0 _ rfl
   have c1:=hall 1 _ rfl
   have c2:=hall 2 _ rfl
   have c3:=hall 3 _ rfl
   have c4:=hall 4 _ rfl
   have c5:=hall 5 _ rfl
   have c6:=hall 6 _ rfl
   have c7:=hall 7 _ rfl
   have c8:=hall 8 _ rfl
   have c9:=hall 9 _ rfl
   have c10:=hall 10 _ rfl
   have hblk2:∀ o,(wr.alloc o).heap[A]?=_:=fun o=>(Below.heap_alloc _ _ _ (Array.getElem?_eq_some_iff.1 hblk).1).trans hblk
   have a0:∀ o,(wr.alloc o).cell? ⟨A,0,none⟩=some (.int .i64 (no:Int)):=fun o=>(blk_cell (hblk2 o) 0).trans rfl
   have af0:∀ o,(wr.alloc o).frozen? ⟨A,0,none⟩=false:=fun o=>blk_frozen (hblk2 o) 0
   go_upto_region 5 with fail
   obtain ⟨X,hX⟩:∃ X,wr.heap.size=X:=⟨_,rfl⟩
   have hXA:X≠A:=by have:=(Array.getElem?_eq_some_iff.1 hblk).1;omega
   have hXw:w.heap.size≤X:=by rw [← hX];exact haf.size
   have hb2:((wr.alloc (.cells #[.string e.l.s,.int .i64 (e.l.at_:Int),.bool e.l.labels,.int .i64 e.l.op,.int .i64 e.l.a,.int .i64 e.l.b,.int .i64 e.l.imm,.string e.l.label,.bool e.l.far,.int .i64 (e.no:Int),.int .i64 (e.at_:Int)] 173)).setCell ⟨A,0,none⟩ (.int .i64 (e.no:Int))).heap[X]?=some (Obj.cells #[.string e.l.s,.int .i64 (e.l.at_:Int),.bool e.l.labels,.int .i64 e.l.op,.int .i64 e.l.a,.int .i64 e.l.b,.int .i64 e.l.imm,.string e.l.label,.bool e.l.far,.int .i64 (e.no:Int),.int .i64 (e.at_:Int)] 173 (0,0)):=(Below.heap_setCell _ _ _ _ (by exact hXA)).trans (by rw [← hX];exact heap_own _ _)
   have hA2:((wr.alloc (.cells #[.string e.l.s,.int .i64 (e.l.at_:Int),.bool e.l.labels,.int .i64 e.l.op,.int .i64 e.l.a,.int .i64 e.l.b,.int .i64 e.l.imm,.string e.l.label,.bool e.l.far,.int .i64 (e.no:Int),.int .i64 (e.at_:Int)] 173)).setCell ⟨A,0,none⟩ (.int .i64 (e.no:Int))).heap[A]?=some (Obj.cells #[.int .i64 (e.no:Int),.int .i64 (z.size:Int),.slice (some ⟨g,0,none⟩) n cap,.map (some m),vf] 123 (0,0)):=blk_put (hblk2 (.cells #[.string e.l.s,.int .i64 (e.l.at_:Int),.bool e.l.labels,.int .i64 e.l.op,.int .i64 e.l.a,.int .i64 e.l.b,.int .i64 e.l.imm,.string e.l.label,.bool e.l.far,.int .i64 (e.no:Int),.int .i64 (e.at_:Int)] 173)) 0 (.int .i64 (e.no:Int)) rfl
   have haf2:Aft A w ((wr.alloc (.cells #[.string e.l.s,.int .i64 (e.l.at_:Int),.bool e.l.labels,.int .i64 e.l.op,.int .i64 e.l.a,.int .i64 e.l.b,.int .i64 e.l.imm,.string e.l.label,.bool e.l.far,.int .i64 (e.no:Int),.int .i64 (e.at_:Int)] 173)).setCell ⟨A,0,none⟩ (.int .i64 (e.no:Int))):=(haf.alloc _).set 0 _
   have hrl2:KR ((wr.alloc (.cells #[.string e.l.s,.int .i64 (e.l.at_:Int),.bool e.l.labels,.int .i64 e.l.op,.int .i64 e.l.a,.int .i64 e.l.b,.int .i64 e.l.imm,.string e.l.label,.bool e.l.far,.int .i64 (e.no:Int),.int .i64 (e.at_:Int)] 173)).setCell ⟨A,0,none⟩ (.int .i64 (e.no:Int))) w.heap.size u2 l:=Kd.R_far (Kd.R_below hrl ((Below.refl _ _).alloc (Nat.le_refl _) _)) (fun k hk=>by have:=h.ltA;show k≠A;omega) _
   simp only [hX]
   generalize (wr.alloc (.cells #[.string e.l.s,.int .i64 (e.l.at_:Int),.bool e.l.labels,.int .i64 e.l.op,.int .i64 e.l.a,.int .i64 e.l.b,.int .i64 e.l.imm,.string e.l.label,.bool e.l.far,.int .i64 (e.no:Int),.int .i64 (e.at_:Int)] 173)).setCell ⟨A,0,none⟩ (.int .i64 (e.no:Int))=W2 at hb2 hA2 haf2 hrl2 ⊢
   clear a0 af0 hblk2 hblk hrl hX c0 c1 c2 c3 c4 c5 c6 c7 c8 c9 c10 hall haf
   have hmA:m≠A:=by obtain ⟨es,c,hm,_⟩:=h.map;rintro rfl;rw [h.blk] at hm;cases hm
   have hmp:Mp W2 m z.labels:=h.map.keep (haf2.block m h.map.lt hmA)
   have x3:W2.cell? ⟨X,3,none⟩=some (.int .i64 e.l.op):=(blk_cell hb2 3).trans rfl
   have x4:W2.cell? ⟨X,4,none⟩=some (.int .i64 e.l.a):=(blk_cell hb2 4).trans rfl
   have x5:W2.cell? ⟨X,5,none⟩=some (.int .i64 e.l.b):=(blk_cell hb2 5).trans rfl
   have x6:W2.cell? ⟨X,6,none⟩=some (.int .i64 e.l.imm):=(blk_cell hb2 6).trans rfl
   obtain ⟨lab,hlab⟩:∃ lab,e.l.label=lab:=⟨_,rfl⟩
   obtain ⟨far,hfar⟩:∃ far,e.l.far=far:=⟨_,rfl⟩
   have x7:W2.cell? ⟨X,7,none⟩=some (.string lab):=by rw [← hlab];exact (blk_cell hb2 7).trans rfl
   have x8:W2.cell? ⟨X,8,none⟩=some (.bool far):=by rw [← hfar];exact (blk_cell hb2 8).trans rfl
   obtain ⟨heat,hls⟩:=hop e hmem
   rw [hlab] at hls
   by_cases hl0:lab.size=0
   ·obtain rfl:lab=⟨#[]⟩:=by
     obtain ⟨⟨l⟩⟩:=lab
     cases l with
     | nil=>rfl
     | cons c t=>exact absurd hl0 (Nat.succ_ne_zero _)
    have HT:Hid ((if far=true then .error (e.no,24) else codeZ z.labels (z.list.drop (k+1)) (l ++ encI e.l.op e.l.a e.l.b e.l.imm))=R):=Lib.hid (by rw [← HS.out,codeZ_ok (fix_plain (by rw [hlab];rfl)),hfar])
    clear HS hlab hfar hl0
    cases far with
    | true =>
     have hr:R=.error (e.no,24):=by rw [← HT.out,if_pos rfl]
     subst hr
     go_wp2
     exact ⟨rfl,rfl,(blk_cell hA2 0).trans rfl,haf2⟩
    | false =>
     have hr:codeZ z.labels (z.list.drop (k+1)) (l ++ encI e.l.op e.l.a e.l.b (e.l.imm))=R:=by rw [← HT.out];rfl
     have HR:=Lib.hid hr
     clear hr HT
     go_wp2_with (go_at_call 50;refine (appended_any w W2 A _ l _ _ _ (e.l.imm) h9 h.bA h.gw haf2 hrl2 (by omega)).mono ?_;rintro e9 w9 ⟨v9,rfl,hr9,haf9,hk9⟩)
     have hA9:=(hk9 A _ _ hA2 (by decide)).trans hA2
     go_roundw
     case rel=>exact ⟨k+1,e.no,_,by omega,by go_num,haf9,hA9,hr9,by rw [List.length_append];have:=encI_len e.l.op e.l.a e.l.b (e.l.imm);omega,HR⟩
     case measure=>simp [intOf];omega
   ·have hemp:=not_emp (Nat.pos_of_ne_zero hl0)
    cases hlk:lookB z.labels lab with
    | none =>
     have hr:R=.error (e.no,23):=by rw [← HS.out,codeZ_err (fix_none (by rw [hlab];exact hl0) (by rw [hlab];exact hlk))]
     subst hr
     have a3:W2.cell? ⟨A,3,none⟩=some (.map (some m)):=(blk_cell hA2 3).trans rfl
     have hrun:∀ n,(Instr.lookup 120 (.map (some m)) (.string lab) true).run Tryz.prog (W2.drewN n)=.ok (.tuple #[.int .i64 0,.bool false]) (W2.drewN n):=fun n=>by
      have:=(show Mp (W2.drewN n) m z.labels from hmp).look h.dist lab true hls
      rw [hlk] at this
      exact this
     clear hlk hlab hfar HS
     go_upto_region 6 with fail
     go_quiet (fail)
     go_wp2
     exact ⟨rfl,rfl,(blk_cell hA2 0).trans rfl,haf2.drewN nq⟩
    | some to_ =>
     have hr:Hid ((if (!fitsM (formM e.l.op) ((to_:Int) - e.at_ - lenM (formM e.l.op)))=true then .error (e.no,24) else codeZ z.labels (z.list.drop (k+1)) (l ++ encI e.l.op e.l.a e.l.b ((to_:Int) - e.at_ - lenM (formM e.l.op))))=R):=Lib.hid (by rw [← HS.out,codeZ_ok (fix_some (by rw [hlab];exact hl0) to_ (by rw [hlab];exact hlk))])
     have a3:W2.cell? ⟨A,3,none⟩=some (.map (some m)):=(blk_cell hA2 3).trans rfl
     have hrun:∀ n,(Instr.lookup 120 (.map (some m)) (.string lab) true).run Tryz.prog (W2.drewN n)=.ok (.tuple #[.int .i64 (to_:Int),.bool true]) (W2.drewN n):=fun n=>by
      have:=(show Mp (W2.drewN n) m z.labels from hmp).look h.dist lab true hls
      rw [hlk] at this
      exact this
     have hto:to_≤2060:=by
      obtain ⟨p,hp,_,hp2⟩:=lookB_some hlk
      rw [← hp2]
      exact hlb p hp
     clear hlk hlab hfar HS
     go_upto_region 6 with fail
     go_quiet (fail)
     clear hrun
     have hg2:GW (W2.drewN nq):=(haf2.gw h.gw h.bA).drewN nq
     have hfld:=Q.kind_form (bS (nameM e.l.op)) (formM e.l.op)
     go_upto_region 10 with (go_at_call 55;refine (kindOf_any e.l.op _ hg2).mono ?_;rintro e8 W4 ⟨rfl,hb4⟩)
     obtain ⟨d,hd⟩:∃ d,(to_:Int) - e.at_ - lenM (formM e.l.op)=d:=⟨_,rfl⟩
     have hln:=lenM_bd (formM e.l.op)
     have hwd:=wrap_dist hto heat hln.2
     obtain ⟨fv,hfv⟩:∃ fv,fitsM (formM e.l.op) d=fv:=⟨_,rfl⟩
     obtain ⟨far2,hf2⟩:∃ far2,(!fv)=far2:=⟨_,rfl⟩
     have HT:Hid ((if far2=true then .error (e.no,24) else codeZ z.labels (z.list.drop (k+1)) (l ++ encI e.l.op e.l.a e.l.b d))=R):=Lib.hid (by rw [← hr.out,hd,hfv,hf2])
     have hb4':=fun (_:Unit)=>hb4
     have hXl:X < W2.heap.size:=(Array.getElem?_eq_some_iff.1 hb2).1
     have hAl:A < W2.heap.size:=(Array.getElem?_eq_some_iff.1 hA2).1
     have hb5:=(hb4.block X hXl).trans hb2
     have hA5:=(hb4.block A hAl).trans hA2
     have haf5:=(haf2.drewN nq).below hb4
     have hrl5:KR W4 w.heap.size u2 l:=Kd.R_below (w:=W2.drewN nq) (show KR (W2.drewN nq) w.heap.size u2 l from Kd.R_below hrl2 ⟨rfl,rfl,rfl,Nat.le_refl _,fun _ _=>rfl⟩) hb4
     have e1:W4.cell? ⟨X,10,none⟩=some (.int .i64 (e.at_:Int)):=(blk_cell hb5 10).trans rfl
     have e6:W4.cell? ⟨X,6,none⟩=some (.int .i64 e.l.imm):=(blk_cell hb5 6).trans rfl
     have ef6:W4.frozen? ⟨X,6,none⟩=false:=blk_frozen hb5 6
     clear hr x3 x4 x5 x6 x7 x8 a3 hb4 hg2
     refine start_ (n:=11) (S:=fun w'=>w'.cell? ⟨X,10,none⟩=some (.int .i64 (e.at_:Int))) (ds:=[10]) #[zF,zF,zF,zF,zF,zF,zF,zF,zF,zF,zF] (by kernel_rfl) rfl rfl (e1) (fun hHeld=>?_)
     refine pq (i:=0) (N:=some 47) #[zT,zF,zF,zF,zF,zF,zF,zF,zF,zF,zF] rfl rfl ?_
     refine pq (i:=1) (N:=some 48) #[zT,zT,zF,zF,zF,zF,zF,zF,zF,zF,zF] rfl rfl ?_
     refine pq (i:=4) (N:=some 51) #[zT,zT,zF,zF,zT,zF,zF,zF,zF,zF,zF] rfl rfl ?_
     refine take_ (i:=2) (N:=some 49) (v:=?_) (a':=?_) #[zT,zT,zT,zF,zT,zF,zF,zF,zF,zF,zF] rfl rfl (by kernel_rfl) (fun _ _ _ h=>h) (Or.inl ⟨by rfl,?_⟩) hHeld ?_ ?_
     rotate_left
     ·intro w' s0
      go_simp
      with_reducible rfl
     rotate_left
     ·simp only [Act.put,List.setIfInBounds_toArray,List.set_cons_zero,List.set_cons_succ,i64_w,i32_w]
      rfl
     refine pq (i:=3) (N:=some 50) #[zT,zT,zT,zT,zT,zF,zF,zF,zF,zF,zF] rfl rfl ?_
     refine one_ (i:=5) (N:=some 52) #[zT,zT,zT,zT,zT,zT,zF,zF,zF,zF,zF] rfl rfl (by kernel_rfl) (by decide) (fun K hK=>?_)
     refine goes_ Tryz.func56 (by kernel_rfl) rfl #[.int .i64 (formM e.l.op)] (by rfl) rfl rfl (by simp only [List.map_toArray,List.map_cons,List.map_nil];rfl) ?_
     with_reducible refine (Q.insn_length.calls 1 _ _ W4.drew (length_f (formM e.l.op))).mono ?_
     rintro e5 wl ⟨rfl,⟨nl,rfl⟩⟩
     refine ⟨_,rfl,?_⟩
     refine hK.out _ _ (e1) (fun hHeld=>?_)
     clear hK K
     refine nrmq ?_
     refine pq (i:=6) (N:=some 53) #[zT,zT,zT,zT,zT,zT,zT,zF,zF,zF,zF] rfl rfl ?_
     refine pq (i:=7) (N:=some 54) #[zT,zT,zT,zT,zT,zT,zT,zT,zF,zF,zF] rfl rfl ?_
     refine pq (i:=8) (N:=some 55) #[zT,zT,zT,zT,zT,zT,zT,zT,zT,zF,zF] rfl rfl ?_
     refine pq (i:=9) (N:=some 56) #[zT,zT,zT,zT,zT,zT,zT,zT,zT,zT,zF] rfl rfl ?_
     refine last_ (i:=10) (N:=none) #[zT,zT,zT,zT,zT,zT,zT,zT,zT,zT,zT] rfl rfl (by kernel_rfl) (by decide) (fun K hK=>?_)
     refine skip_ (w1:=?_) (by rfl) rfl ?_ ?_
     rotate_left
     ·go_simp
      rfl
     refine hK.out _ _ ?_
     clear hK K
     refine done_ (by kernel_rfl) ?_
     rw [hd] at hwd
     simp only [hwd]
     clear hwd
     have hb6:((W4.drewN (1+nl)).setCell ⟨X,6,none⟩ (.int .i64 d)).heap[X]?=some (Obj.cells #[.string e.l.s,.int .i64 (e.l.at_:Int),.bool e.l.labels,.int .i64 e.l.op,.int .i64 e.l.a,.int .i64 e.l.b,.int .i64 d,.string e.l.label,.bool e.l.far,.int .i64 (e.no:Int),.int .i64 (e.at_:Int)] 173 (0,0)):=blk_put (w:=W4.drewN (1+nl)) hb5 6 _ rfl
     have hA6:((W4.drewN (1+nl)).setCell ⟨X,6,none⟩ (.int .i64 d)).heap[A]?=_:=(Below.heap_setCell (W4.drewN (1+nl)) ⟨X,6,none⟩ _ A (by exact Ne.symm hXA)).trans hA5
     have haf6:=(haf5.drewN (1+nl)).setNew (X:=X) hXw 6 (.int .i64 d)
     have hrl6:KR ((W4.drewN (1+nl)).setCell ⟨X,6,none⟩ (.int .i64 d)) w.heap.size u2 l:=KR_set hrl5 (1+nl) hb5 6 _
     generalize (W4.drewN (1+nl)).setCell ⟨X,6,none⟩ (.int .i64 d)=W5 at hb6 hA6 haf6 hrl6 ⊢
     clear e1 e6 ef6 hb5 hA5 haf5 hrl5 hb4'
     have y6:W5.cell? ⟨X,6,none⟩=some (.int .i64 d):=(blk_cell hb6 6).trans rfl
     have y8:W5.cell? ⟨X,8,none⟩=some (.bool e.l.far):=(blk_cell hb6 8).trans rfl
     have yf8:W5.frozen? ⟨X,8,none⟩=false:=blk_frozen hb6 8
     go_upto_region 12 with (go_at_call 80;refine (Q.insn_fits.calls 1 (formM e.l.op) d fv _ (by rw [fits_f,hfv])).mono ?_;rintro e7 W6 ⟨rfl,⟨m6,rfl⟩⟩)
     have hb7:((W5.drewN m6).setCell ⟨X,8,none⟩ (.bool far2)).heap[X]?=some (Obj.cells #[.string e.l.s,.int .i64 (e.l.at_:Int),.bool e.l.labels,.int .i64 e.l.op,.int .i64 e.l.a,.int .i64 e.l.b,.int .i64 d,.string e.l.label,.bool far2,.int .i64 (e.no:Int),.int .i64 (e.at_:Int)] 173 (0,0)):=blk_put (w:=W5.drewN m6) hb6 8 _ rfl
     have hA7:((W5.drewN m6).setCell ⟨X,8,none⟩ (.bool far2)).heap[A]?=_:=(Below.heap_setCell (W5.drewN m6) ⟨X,8,none⟩ _ A (by exact Ne.symm hXA)).trans hA6
     have haf7:=(haf6.drewN m6).setNew (X:=X) hXw 8 (.bool far2)
     have hrl7:KR ((W5.drewN m6).setCell ⟨X,8,none⟩ (.bool far2)) w.heap.size u2 l:=KR_set hrl6 m6 hb6 8 _
     generalize (W5.drewN m6).setCell ⟨X,8,none⟩ (.bool far2)=W7 at hb7 hA7 haf7 hrl7 ⊢
     clear y6 y8 yf8 hb6 hA6 haf6 hrl6
     have x3:W7.cell? ⟨X,3,none⟩=some (.int .i64 e.l.op):=(blk_cell hb7 3).trans rfl
     have x4:W7.cell? ⟨X,4,none⟩=some (.int .i64 e.l.a):=(blk_cell hb7 4).trans rfl
     have x5:W7.cell? ⟨X,5,none⟩=some (.int .i64 e.l.b):=(blk_cell hb7 5).trans rfl
     have x6:W7.cell? ⟨X,6,none⟩=some (.int .i64 d):=(blk_cell hb7 6).trans rfl
     have x8:W7.cell? ⟨X,8,none⟩=some (.bool far2):=(blk_cell hb7 8).trans rfl
     clear hf2 hfv hd
     cases far2 with
     | true =>
      have hr:R=.error (e.no,24):=by rw [← HT.out,if_pos rfl]
      subst hr
      go_wp2
      exact ⟨rfl,rfl,(blk_cell hA7 0).trans rfl,haf7⟩
     | false =>
      have hr:codeZ z.labels (z.list.drop (k+1)) (l ++ encI e.l.op e.l.a e.l.b (d))=R:=by rw [← HT.out];rfl
      have HR:=Lib.hid hr
      clear hr HT
      go_wp2_with (go_at_call 50;refine (appended_any w W7 A _ l _ _ _ (d) h9 h.bA h.gw haf7 hrl7 (by omega)).mono ?_;rintro e9 w9 ⟨v9,rfl,hr9,haf9,hk9⟩)
      have hA9:=(hk9 A _ _ hA7 (by decide)).trans hA7
      go_roundw
      case rel=>exact ⟨k+1,e.no,_,by omega,by go_num,haf9,hA9,hr9,by rw [List.length_append];have:=encI_len e.l.op e.l.a e.l.b (d);omega,HR⟩
      case measure=>simp [intOf];omega
  ·obtain rfl:k=n:=by omega
   have hr:R=.ok l:=by rw [← HP.out,List.drop_of_length_le (by omega)];rfl
   subst hr
   go_wp2
   go_ret
   exact ⟨_,no,rfl,hrl,hblk,haf⟩
theorem info61:(Tryz.prog.info? 61).map (fun i=>(i.zero,i.size,i.bytes))=some (some (.agg #[.string ⟨#[]⟩,.int .i64 0,.int .i64 0]),3,32):=by kernel_rfl
def lookD (L:List (ByteArray × Nat)) (s:ByteArray):Nat:=(lookB L s).getD 0
def endZ (L:List (ByteArray × Nat)) (size:Nat):List ByteArray→Nat
 | []=>size
 | s :: _=>lookD L s
def symsZ (L:List (ByteArray × Nat)) (size:Nat) (at_:Int):List ByteArray→List Q.S61
 | []=>[]
 | s :: t=>⟨s,at_+lookD L s,(endZ L size t:Int) - lookD L s⟩ :: symsZ L size at_ t
theorem Mp.lookD {w:World} {m:Nat} {L:List (ByteArray × Nat)} (h:Mp w m L) (hd:Dist L) (s:ByteArray) (hsz:s.size≤1000000) :
  (Instr.lookup 120 (.map (some m)) (.string s) false).run Tryz.prog w=.ok (.int .i64 (Go.Proofs.YtffojmgmpfjlhaaGreatDoor.lookD L s:Int)) w:=by
 have:=h.look hd s false hsz
 unfold Go.Proofs.YtffojmgmpfjlhaaGreatDoor.lookD
 cases hl:lookB L s with
 | none=>rw [hl] at this;exact this
 | some v=>rw [hl] at this;exact this
theorem lookD_le {L:List (ByteArray × Nat)} {n:Nat} (h:∀ p∈L,p.2≤n) (s:ByteArray):lookD L s≤n:=by
 unfold lookD
 cases hl:lookB L s with
 | none=>exact Nat.zero_le _
 | some v =>
  obtain ⟨p,hp,_,h2⟩:=lookB_some hl
  show v≤n
  rw [← h2]
  exact h p hp
theorem wrap_at {at_:Int} {v:Nat} (h0:0≤at_) (h1:at_≤1099511627776) (hv:v≤2060):wrap64 (at_+(v:Int))=at_+v:=by
 simp only [wrap64]
 omega
theorem wrap_sub {e v:Nat} (he:e≤2060) (hv:v≤2060):wrap64 ((e:Int) - (v:Int))=(e:Int) - v:=by
 simp only [wrap64]
 omega
def SymsOut (w:World) (l:List Q.S61) (x:Ending) (w':World):Prop:=∃ v,x=.returned v∧Kd.R Q.k61 61 w' w.heap.size (fun _=>True) v l∧Below w.heap.size w w'
theorem symbols_any (B:Nat) (w:World) (A m:Nat) (z:Az) (vl vf:Value) (at_:Int) (h:AW B w A m z vl vf) (h0:0≤at_) (h1:at_≤1099511627776) (hlb:∀ p∈z.labels,p.2≤2060) (hfs:∀ s∈z.funcs,s.size≤1000000) :
  Calls Tryz.prog 75 #[pt A,.int .i64 at_] w (SymsOut w (symsZ z.labels z.size at_ z.funcs)):=by
 obtain ⟨R,hR⟩:∃ R,symsZ z.labels z.size at_ z.funcs=R:=⟨_,rfl⟩
 rw [hR]
 have HR0:=Lib.hid (show [] ++ symsZ z.labels z.size at_ (z.funcs.drop 0)=R from hR)
 clear hR
 have hvf:w.cell? ⟨A,4,none⟩=some vf:=(blk_cell h.blk 4).trans rfl
 obtain ⟨n,hnn⟩:∃ n,z.funcs.length=n:=⟨_,rfl⟩
 have hn40:=h.s2
 rw [hnn] at hn40
 obtain ⟨ad,cap,hvs,hrow⟩:∃ ad cap,vf=.slice ad n cap∧(0 < n→∃ g,ad=some ⟨g,0,none⟩∧g < w.heap.size∧∀ j,j < n * 1→w.cell? ⟨g,j,none⟩=(rowS z.funcs)[j]?):=by
  have hown:=h.funcs
  rw [hnn] at hown
  obtain ⟨h1,⟨rfl,h2⟩ | ⟨g,cap,cur,rfl,hg,hc,hle,hm,hsz,htk⟩⟩:=id hown
  ·exact ⟨none,0,by rw [h2],fun hh=>by omega⟩
  ·exact ⟨some ⟨g,0,none⟩,cap,rfl,fun _=>⟨g,rfl,(Array.getElem?_eq_some_iff.1 hc).1,fun j hj=>hown.cellAt j hj⟩⟩
 subst hvs
 have hal:=h.ltA
 have hml:=h.map.lt
 have hs1:=h.s1
 go_enter Tryz.func75,Tryz.ntmps75
 go_wp2
 go_loopw [13,4] (fun i v wr=>∃ (k:Nat) (l:List Q.S61),k≤n∧i=.int .i64 k∧Below w.heap.size w wr∧Kd.R Q.k61 61 wr w.heap.size (fun _=>True) v l∧l.length=k∧Hid (l ++ symsZ z.labels z.size at_ (z.funcs.drop k)=R)) (fun i _ _=>n - (intOf i).toNat)
 case atStart=>exact ⟨0,[],by omega,rfl,Below.refl _ _,Kd.R_nil _ _ _ _ _,rfl,HR0⟩
 case round =>
  obtain ⟨k,l,hk,rfl,hb,HO,hll,HP⟩:=hrel
  by_cases hlt:k < n
  ·obtain ⟨g,rfl,hgw,hcs⟩:=hrow (by omega)
   have hkl:k < z.funcs.length:=by rw [hnn];exact hlt
   obtain ⟨s,hss⟩:∃ s,z.funcs[k]=s:=⟨_,rfl⟩
   have hsz:s.size≤1000000:=hfs s (by rw [← hss];exact List.getElem_mem hkl)
   have hfc:∀ j (hj:j < z.funcs.length),wr.cell? ⟨g,j,none⟩=some (.string z.funcs[j]):=by
    intro j hj
    rw [hb.cell (p:=⟨g,j,none⟩) hgw,hcs j (by omega)]
    simp [rowS,hj]
   have c0:wr.cell? ⟨g,k,none⟩=some (.string s):=by rw [← hss];exact hfc k hkl
   have a1:wr.cell? ⟨A,1,none⟩=some (.int .i64 (z.size:Int)):=(hb.cell (p:=⟨A,1,none⟩) hal).trans ((blk_cell h.blk 1).trans rfl)
   have a3:wr.cell? ⟨A,3,none⟩=some (.map (some m)):=(hb.cell (p:=⟨A,3,none⟩) hal).trans ((blk_cell h.blk 3).trans rfl)
   have a4:wr.cell? ⟨A,4,none⟩=some (.slice (some ⟨g,0,none⟩) n cap):=(hb.cell (p:=⟨A,4,none⟩) hal).trans hvf
   have hmp:Mp wr m z.labels:=h.map.keep (hb.block m hml)
   obtain ⟨v,hv⟩:∃ v,lookD z.labels s=v:=⟨_,rfl⟩
   have hv2:v≤2060:=by rw [← hv];exact lookD_le hlb s
   obtain ⟨e,he⟩:∃ e,endZ z.labels z.size (z.funcs.drop (k+1))=e:=⟨_,rfl⟩
   have he2:e≤2060:=by
    rw [← he]
    unfold endZ
    split
    ·exact hs1
    ·exact lookD_le hlb _
   have hstep:(l ++ [⟨s,at_+v,(e:Int) - v⟩]) ++ symsZ z.labels z.size at_ (z.funcs.drop (k+1))=R:=by
    rw [← HP.out,List.drop_eq_getElem_cons hkl,hss,← he,← hv]
    simp [symsZ]
   have HS:=Lib.hid hstep
   clear hstep HP
   have hwa:=wrap_at (v:=v) h0 h1 hv2
   have hws:=wrap_sub he2 hv2
   have HWA:=Lib.hid hwa
   have HWS:=Lib.hid hws
   clear hwa hws
   by_cases hk1:k+1 < n
   ·have hk1l:k+1 < z.funcs.length:=by rw [hnn];exact hk1
    obtain ⟨s2,hs2⟩:∃ s2,z.funcs[k+1]=s2:=⟨_,rfl⟩
    have c1:wr.cell? ⟨g,k+1,none⟩=some (.string s2):=by rw [← hs2];exact hfc (k+1) hk1l
    have he3:lookD z.labels s2=e:=by rw [← he,List.drop_eq_getElem_cons hk1l,hs2];rfl
    have hs2z:s2.size≤1000000:=hfs s2 (by rw [← hs2];exact List.getElem_mem hk1l)
    have hl2:∀ j,(Instr.lookup 120 (.map (some m)) (.string s2) false).run Tryz.prog (wr.drewN j)=.ok (.int .i64 (e:Int)) (wr.drewN j):=fun j=>by
     have:=(show Mp (wr.drewN j) m z.labels from hmp).lookD h.dist s2 hs2z
     rw [he3] at this
     exact this
    have hki:(k:Int)+1 < (n:Int):=by omega
    have i1:IntKind.i64.wrap ((k:Int)+1)=(k:Int)+1:=IntWalk.i64_in _ (by omega)
    have i2:(0:Int)≤(k:Int)+1:=by omega
    have i3:((k:Int)+1).toNat=k+1:=by omega
    clear he he3 hs2 hfc hcs hss
    go_upto_region 6 with fail
    go_quiet (fail)
    clear i1 i3 hl2
    have a3q:(wr.drewN nq).cell? ⟨A,3,none⟩=some (.map (some m)):=a3
    have hbq:Below w.heap.size w (wr.drewN nq):=hb.trans ⟨rfl,rfl,rfl,Nat.le_refl _,fun _ _=>rfl⟩
    have hmq:Mp (wr.drewN nq) m z.labels:=hmp
    have HOq:Kd.R Q.k61 61 (wr.drewN nq) w.heap.size (fun _=>True) u4 l:=Kd.R_below HO ⟨rfl,rfl,rfl,Nat.le_refl _,fun _ _=>rfl⟩
    go_upto_region 7 with fail
    generalize wr.drewN nq=Wq at a3q hbq hmq HOq ⊢
    have d3:Wq.drew.cell? ⟨A,3,none⟩=some (.map (some m)):=a3q
    have dl:(Instr.lookup 120 (.map (some m)) (.string s) false).run Tryz.prog Wq.drew=.ok (.int .i64 (v:Int)) Wq.drew:=by
     have:=(show Mp Wq.drew m z.labels from hmq).lookD h.dist s hsz
     rw [hv] at this
     exact this
    have HOd:Kd.R Q.k61 61 Wq.drew w.heap.size (fun _=>True) u4 l:=Kd.R_below HOq ⟨rfl,rfl,rfl,Nat.le_refl _,fun _ _=>rfl⟩
    have HBd:Below w.heap.size w Wq.drew:=hbq.trans ⟨rfl,rfl,rfl,Nat.le_refl _,fun _ _=>rfl⟩
    have hbw:w.heap.size≤Wq.drew.heap.size:=HBd.size
    have hwa:=HWA.out
    have hws:=HWS.out
    refine start_ (n:=22) (S:=fun w'=>w'.cell? ⟨A,3,none⟩=some (.map (some m))∧(Instr.lookup 120 (.map (some m)) (.string s) false).run Tryz.prog w'=.ok (.int .i64 (v:Int)) w') (ds:=[19,20]) #[zF,zF,zF,zF,zF,zF,zF,zF,zF,zF,zF,zF,zF,zF,zF,zF,zF,zF,zF,zF,zF,zF] (by kernel_rfl) rfl rfl ⟨d3,dl⟩ (fun hHeld=>?_)
    refine pq (i:=0) (N:=some 43) #[zT,zF,zF,zF,zF,zF,zF,zF,zF,zF,zF,zF,zF,zF,zF,zF,zF,zF,zF,zF,zF,zF] rfl rfl ?_
    refine pq (i:=1) (N:=some 44) #[zT,zT,zF,zF,zF,zF,zF,zF,zF,zF,zF,zF,zF,zF,zF,zF,zF,zF,zF,zF,zF,zF] rfl rfl ?_
    refine pq (i:=2) (N:=some 45) #[zT,zT,zT,zF,zF,zF,zF,zF,zF,zF,zF,zF,zF,zF,zF,zF,zF,zF,zF,zF,zF,zF] rfl rfl ?_
    refine pq (i:=3) (N:=some 46) #[zT,zT,zT,zT,zF,zF,zF,zF,zF,zF,zF,zF,zF,zF,zF,zF,zF,zF,zF,zF,zF,zF] rfl rfl ?_
    refine pq (i:=4) (N:=some 47) #[zT,zT,zT,zT,zT,zF,zF,zF,zF,zF,zF,zF,zF,zF,zF,zF,zF,zF,zF,zF,zF,zF] rfl rfl ?_
    refine pq (i:=5) (N:=some 48) #[zT,zT,zT,zT,zT,zT,zF,zF,zF,zF,zF,zF,zF,zF,zF,zF,zF,zF,zF,zF,zF,zF] rfl rfl ?_
    refine pq (i:=7) (N:=some 50) #[zT,zT,zT,zT,zT,zT,zF,zT,zF,zF,zF,zF,zF,zF,zF,zF,zF,zF,zF,zF,zF,zF] rfl rfl ?_
    refine pq (i:=10) (N:=some 53) #[zT,zT,zT,zT,zT,zT,zF,zT,zF,zF,zT,zF,zF,zF,zF,zF,zF,zF,zF,zF,zF,zF] rfl rfl ?_
    refine pq (i:=11) (N:=some 54) #[zT,zT,zT,zT,zT,zT,zF,zT,zF,zF,zT,zT,zF,zF,zF,zF,zF,zF,zF,zF,zF,zF] rfl rfl ?_
    refine pq (i:=12) (N:=some 55) #[zT,zT,zT,zT,zT,zT,zF,zT,zF,zF,zT,zT,zT,zF,zF,zF,zF,zF,zF,zF,zF,zF] rfl rfl ?_
    refine pq (i:=13) (N:=some 56) #[zT,zT,zT,zT,zT,zT,zF,zT,zF,zF,zT,zT,zT,zT,zF,zF,zF,zF,zF,zF,zF,zF] rfl rfl ?_
    refine pq (i:=15) (N:=some 58) #[zT,zT,zT,zT,zT,zT,zF,zT,zF,zF,zT,zT,zT,zT,zF,zT,zF,zF,zF,zF,zF,zF] rfl rfl ?_
    refine tq2 (i:=6) (N:=some 49) #[zT,zT,zT,zT,zT,zT,zT,zT,zF,zF,zT,zT,zT,zT,zF,zT,zF,zF,zF,zF,zF,zF] rfl rfl hHeld ?_
    refine tq2 (i:=8) (N:=some 51) #[zT,zT,zT,zT,zT,zT,zT,zT,zT,zF,zT,zT,zT,zT,zF,zT,zF,zF,zF,zF,zF,zF] rfl rfl hHeld ?_
    refine pq (i:=9) (N:=some 52) #[zT,zT,zT,zT,zT,zT,zT,zT,zT,zT,zT,zT,zT,zT,zF,zT,zF,zF,zF,zF,zF,zF] rfl rfl ?_
    refine tq2 (i:=14) (N:=some 57) #[zT,zT,zT,zT,zT,zT,zT,zT,zT,zT,zT,zT,zT,zT,zT,zT,zF,zF,zF,zF,zF,zF] rfl rfl hHeld ?_
    refine tq2 (i:=16) (N:=some 59) #[zT,zT,zT,zT,zT,zT,zT,zT,zT,zT,zT,zT,zT,zT,zT,zT,zT,zF,zF,zF,zF,zF] rfl rfl hHeld ?_
    refine pq (i:=17) (N:=some 60) #[zT,zT,zT,zT,zT,zT,zT,zT,zT,zT,zT,zT,zT,zT,zT,zT,zT,zT,zF,zF,zF,zF] rfl rfl ?_
    refine pq (i:=18) (N:=some 61) #[zT,zT,zT,zT,zT,zT,zT,zT,zT,zT,zT,zT,zT,zT,zT,zT,zT,zT,zT,zF,zF,zF] rfl rfl ?_
    refine last_ (i:=19) (N:=some 62) #[zT,zT,zT,zT,zT,zT,zT,zT,zT,zT,zT,zT,zT,zT,zT,zT,zT,zT,zT,zT,zF,zF] rfl rfl (by kernel_rfl) (by decide) (fun K hK=>?_)
    refine value_ (w1:=?_) (v:=?_) (by rfl) rfl ?_ ?_
    rotate_left 2
    ·go_simp
     constructor
     ·rfl
     ·rfl
    refine hK.out _ _ ?_
    clear hK K
    refine nrmq ?_
    refine last_ (i:=20) (N:=some 63) #[zT,zT,zT,zT,zT,zT,zT,zT,zT,zT,zT,zT,zT,zT,zT,zT,zT,zT,zT,zT,zT,zF] rfl rfl (by kernel_rfl) (by decide) (fun K hK=>?_)
    refine Kd.R_append_step Q.k61 (w0:=w) (W:=Wq.drew) w.heap.size (by rfl) _ _ 47 61 (.agg #[.string ⟨#[]⟩,.int .i64 0,.int .i64 0]) 32 (by rfl) Tryz.underlying47 info61 rfl (by decide) (by decide) _ l ⟨s,at_+v,(e:Int) - v⟩ [.string s,.int .i64 (at_+v),.int .i64 ((e:Int) - v)] (fun _=>True) (fun _=>False) (by rfl) (by rfl) (Q.k61_mkM _ _ _ _) (fun k hk=>hk.elim) (fun k hk=>trivial) HOd HBd hbw (by omega) ?_
    intro v1 w1 ho1 hb1 hg1 hat1
    refine hK.out _ _ ?_
    clear hK K
    refine nrmq ?_
    refine pq (i:=21) (N:=some 4) #[zT,zT,zT,zT,zT,zT,zT,zT,zT,zT,zT,zT,zT,zT,zT,zT,zT,zT,zT,zT,zT,zT] rfl rfl ?_
    refine done_ (by kernel_rfl) ?_
    clear hwa hws HWA HWS d3 dl
    go_wp2
    go_roundw
    case rel=>exact ⟨k+1,_,by omega,by go_num,hb1,ho1,by simp [hll],HS⟩
    case measure=>simp [intOf];omega
   ·have hk2:k+1=n:=by omega
    have he3:e=z.size:=by rw [← he,List.drop_of_length_le (by omega)];rfl
    subst he3
    have hki:¬ (k:Int)+1 < (n:Int):=by omega
    clear he hfc hcs hss
    go_upto_region 7 with fail
    have a3q:=a3
    have hbq:=hb
    have hmq:=hmp
    have HOq:=HO
    obtain ⟨Wq,hWq⟩:∃ Wq,wr=Wq:=⟨_,rfl⟩
    subst hWq
    have d3:wr.drew.cell? ⟨A,3,none⟩=some (.map (some m)):=a3q
    have dl:(Instr.lookup 120 (.map (some m)) (.string s) false).run Tryz.prog wr.drew=.ok (.int .i64 (v:Int)) wr.drew:=by
     have:=(show Mp wr.drew m z.labels from hmq).lookD h.dist s hsz
     rw [hv] at this
     exact this
    have HOd:Kd.R Q.k61 61 wr.drew w.heap.size (fun _=>True) u4 l:=Kd.R_below HOq ⟨rfl,rfl,rfl,Nat.le_refl _,fun _ _=>rfl⟩
    have HBd:Below w.heap.size w wr.drew:=hbq.trans ⟨rfl,rfl,rfl,Nat.le_refl _,fun _ _=>rfl⟩
    have hbw:w.heap.size≤wr.drew.heap.size:=HBd.size
    have hwa:=HWA.out
    have hws:=HWS.out
    refine start_ (n:=22) (S:=fun w'=>w'.cell? ⟨A,3,none⟩=some (.map (some m))∧(Instr.lookup 120 (.map (some m)) (.string s) false).run Tryz.prog w'=.ok (.int .i64 (v:Int)) w') (ds:=[19,20]) #[zF,zF,zF,zF,zF,zF,zF,zF,zF,zF,zF,zF,zF,zF,zF,zF,zF,zF,zF,zF,zF,zF] (by kernel_rfl) rfl rfl ⟨d3,dl⟩ (fun hHeld=>?_)
    refine pq (i:=0) (N:=some 43) #[zT,zF,zF,zF,zF,zF,zF,zF,zF,zF,zF,zF,zF,zF,zF,zF,zF,zF,zF,zF,zF,zF] rfl rfl ?_
    refine pq (i:=1) (N:=some 44) #[zT,zT,zF,zF,zF,zF,zF,zF,zF,zF,zF,zF,zF,zF,zF,zF,zF,zF,zF,zF,zF,zF] rfl rfl ?_
    refine pq (i:=2) (N:=some 45) #[zT,zT,zT,zF,zF,zF,zF,zF,zF,zF,zF,zF,zF,zF,zF,zF,zF,zF,zF,zF,zF,zF] rfl rfl ?_
    refine pq (i:=3) (N:=some 46) #[zT,zT,zT,zT,zF,zF,zF,zF,zF,zF,zF,zF,zF,zF,zF,zF,zF,zF,zF,zF,zF,zF] rfl rfl ?_
    refine pq (i:=4) (N:=some 47) #[zT,zT,zT,zT,zT,zF,zF,zF,zF,zF,zF,zF,zF,zF,zF,zF,zF,zF,zF,zF,zF,zF] rfl rfl ?_
    refine pq (i:=5) (N:=some 48) #[zT,zT,zT,zT,zT,zT,zF,zF,zF,zF,zF,zF,zF,zF,zF,zF,zF,zF,zF,zF,zF,zF] rfl rfl ?_
    refine pq (i:=7) (N:=some 50) #[zT,zT,zT,zT,zT,zT,zF,zT,zF,zF,zF,zF,zF,zF,zF,zF,zF,zF,zF,zF,zF,zF] rfl rfl ?_
    refine pq (i:=10) (N:=some 53) #[zT,zT,zT,zT,zT,zT,zF,zT,zF,zF,zT,zF,zF,zF,zF,zF,zF,zF,zF,zF,zF,zF] rfl rfl ?_
    refine pq (i:=11) (N:=some 54) #[zT,zT,zT,zT,zT,zT,zF,zT,zF,zF,zT,zT,zF,zF,zF,zF,zF,zF,zF,zF,zF,zF] rfl rfl ?_
    refine pq (i:=12) (N:=some 55) #[zT,zT,zT,zT,zT,zT,zF,zT,zF,zF,zT,zT,zT,zF,zF,zF,zF,zF,zF,zF,zF,zF] rfl rfl ?_
    refine pq (i:=13) (N:=some 56) #[zT,zT,zT,zT,zT,zT,zF,zT,zF,zF,zT,zT,zT,zT,zF,zF,zF,zF,zF,zF,zF,zF] rfl rfl ?_
    refine pq (i:=15) (N:=some 58) #[zT,zT,zT,zT,zT,zT,zF,zT,zF,zF,zT,zT,zT,zT,zF,zT,zF,zF,zF,zF,zF,zF] rfl rfl ?_
    refine tq2 (i:=6) (N:=some 49) #[zT,zT,zT,zT,zT,zT,zT,zT,zF,zF,zT,zT,zT,zT,zF,zT,zF,zF,zF,zF,zF,zF] rfl rfl hHeld ?_
    refine tq2 (i:=8) (N:=some 51) #[zT,zT,zT,zT,zT,zT,zT,zT,zT,zF,zT,zT,zT,zT,zF,zT,zF,zF,zF,zF,zF,zF] rfl rfl hHeld ?_
    refine pq (i:=9) (N:=some 52) #[zT,zT,zT,zT,zT,zT,zT,zT,zT,zT,zT,zT,zT,zT,zF,zT,zF,zF,zF,zF,zF,zF] rfl rfl ?_
    refine tq2 (i:=14) (N:=some 57) #[zT,zT,zT,zT,zT,zT,zT,zT,zT,zT,zT,zT,zT,zT,zT,zT,zF,zF,zF,zF,zF,zF] rfl rfl hHeld ?_
    refine tq2 (i:=16) (N:=some 59) #[zT,zT,zT,zT,zT,zT,zT,zT,zT,zT,zT,zT,zT,zT,zT,zT,zT,zF,zF,zF,zF,zF] rfl rfl hHeld ?_
    refine pq (i:=17) (N:=some 60) #[zT,zT,zT,zT,zT,zT,zT,zT,zT,zT,zT,zT,zT,zT,zT,zT,zT,zT,zF,zF,zF,zF] rfl rfl ?_
    refine pq (i:=18) (N:=some 61) #[zT,zT,zT,zT,zT,zT,zT,zT,zT,zT,zT,zT,zT,zT,zT,zT,zT,zT,zT,zF,zF,zF] rfl rfl ?_
    refine last_ (i:=19) (N:=some 62) #[zT,zT,zT,zT,zT,zT,zT,zT,zT,zT,zT,zT,zT,zT,zT,zT,zT,zT,zT,zT,zF,zF] rfl rfl (by kernel_rfl) (by decide) (fun K hK=>?_)
    refine value_ (w1:=?_) (v:=?_) (by rfl) rfl ?_ ?_
    rotate_left 2
    ·go_simp
     constructor
     ·rfl
     ·rfl
    refine hK.out _ _ ?_
    clear hK K
    refine nrmq ?_
    refine last_ (i:=20) (N:=some 63) #[zT,zT,zT,zT,zT,zT,zT,zT,zT,zT,zT,zT,zT,zT,zT,zT,zT,zT,zT,zT,zT,zF] rfl rfl (by kernel_rfl) (by decide) (fun K hK=>?_)
    refine Kd.R_append_step Q.k61 (w0:=w) (W:=wr.drew) w.heap.size (by rfl) _ _ 47 61 (.agg #[.string ⟨#[]⟩,.int .i64 0,.int .i64 0]) 32 (by rfl) Tryz.underlying47 info61 rfl (by decide) (by decide) _ l ⟨s,at_+v,(z.size:Int) - v⟩ [.string s,.int .i64 (at_+v),.int .i64 ((z.size:Int) - v)] (fun _=>True) (fun _=>False) (by rfl) (by rfl) (Q.k61_mkM _ _ _ _) (fun k hk=>hk.elim) (fun k hk=>trivial) HOd HBd hbw (by omega) ?_
    intro v1 w1 ho1 hb1 hg1 hat1
    refine hK.out _ _ ?_
    clear hK K
    refine nrmq ?_
    refine pq (i:=21) (N:=some 4) #[zT,zT,zT,zT,zT,zT,zT,zT,zT,zT,zT,zT,zT,zT,zT,zT,zT,zT,zT,zT,zT,zT] rfl rfl ?_
    refine done_ (by kernel_rfl) ?_
    clear hwa hws HWA HWS d3 dl
    go_wp2
    go_roundw
    case rel=>exact ⟨k+1,_,by omega,by go_num,hb1,ho1,by simp [hll],HS⟩
    case measure=>simp [intOf];omega
  ·obtain rfl:k=n:=by omega
   have hr:R=l:=by rw [← HP.out,List.drop_of_length_le (by omega)];simp [symsZ]
   subst hr
   go_wp2
   go_ret
   exact ⟨_,rfl,HO,hb⟩
def nlB:ByteArray:=⟨#[10]⟩
def pieces (s:ByteArray):List ByteArray:=Lib.splitB nlB 0 (Lib.countB s nlB) s
def cutZ (s:ByteArray):ByteArray:=⟨(Lib.cut s.data.toList [59]).1.toArray⟩
theorem cutZ_size (s:ByteArray):(cutZ s).size≤s.size:=by
 unfold cutZ Lib.cut
 split
 ·show (List.toArray _).size≤_
  simp only [List.size_toArray,List.length_take]
  rw [Lib.size_eq]
  omega
 ·show (List.toArray _).size≤_
  simp only [List.size_toArray]
  rw [Lib.size_eq]
  exact Nat.le_refl _
theorem splitB_size (sep:ByteArray) (k:Nat):∀ (s:ByteArray),∀ x∈Lib.splitB sep 0 k s,x.size≤s.size:=by
 induction k with
 | zero=>intro s x hx;rw [Lib.splitB_zero,List.mem_singleton] at hx;rw [hx];exact Nat.le_refl _
 | succ k ih =>
  intro s x hx
  unfold Lib.splitB at hx
  split at hx
  ·rw [List.mem_singleton] at hx;rw [hx];exact Nat.le_refl _
  ·rcases List.mem_cons.1 hx with h | h
   ·rw [h,ByteArray.size_extract];omega
   ·refine Nat.le_trans (ih _ x h) ?_
    rw [ByteArray.size_extract];omega
theorem pieces_len (s:ByteArray):(pieces s).length=Lib.countB s nlB+1:=Lib.splitB_all nlB (by decide) 0 _ s rfl
theorem pieces_le (s:ByteArray):(pieces s).length≤s.size+1:=by
 rw [pieces_len]
 have:=Lib.countB_le nlB (by decide) _ s (Nat.le_refl _)
 omega
def rowsZ:Nat→Az→List ByteArray→Except (Nat × Int) Az
 | _,z,[]=>.ok z
 | no,z,s :: t=>match z.row no s with
  | .error e=>.error (no,e)
  | .ok z1=>rowsZ (no+1) z1 t
structure FrL (A m Lk B:Nat) (w w':World):Prop where
 os:w'.os=w.os
 tape:w'.tape=w.tape
 output:w'.output=w.output
 size:w.heap.size≤w'.heap.size
 block:∀ k,k < w.heap.size→k < B→k≠A→k≠m→k≠Lk→w'.heap[k]?=w.heap[k]?
section
variable {A m Lk B:Nat} {w w1 w2:World}
theorem FrL.refl (A m Lk B:Nat) (w:World):FrL A m Lk B w w:=⟨rfl,rfl,rfl,Nat.le_refl _,fun _ _ _ _ _ _=>rfl⟩
theorem FrL.trans (h:FrL A m Lk B w w1) (h':FrL A m Lk B w1 w2):FrL A m Lk B w w2 :=
 ⟨h'.os.trans h.os,h'.tape.trans h.tape,h'.output.trans h.output,Nat.le_trans h.size h'.size,fun k hk hB hA hm hL=>(h'.block k (Nat.lt_of_lt_of_le hk h.size) hB hA hm hL).trans (h.block k hk hB hA hm hL)⟩
theorem FrL.blo (h:FrL A m Lk B w w1) (h':Blo A m B w1 w2):FrL A m Lk B w w2 :=
 h.trans ⟨h'.os,h'.tape,h'.output,h'.size,fun k hk hB hA hm _=>h'.block k hk hB hA hm⟩
theorem FrL.put (h:FrL A m Lk B w w1) (o:Obj):FrL A m Lk B w (w1.putObj Lk o) :=
 h.trans ⟨rfl,rfl,rfl,by rw [World.putObj_size];exact Nat.le_refl _,fun k _ _ _ _ hL=>World.putObj_heap_other hL⟩
end
structure Az.Ok (z:Az):Prop where
 size:z.size≤2048
 funcs:z.funcs.length≤32
 list:z.list.length≤z.size
 at_:∀ e∈z.list,e.at_≤2060∧e.l.label.size≤1000000
 labels:∀ p∈z.labels,p.2≤z.size
 names:∀ s∈z.funcs,s.size≤1000000
def RndPost (B:Nat) (W:World) (A m Lk:Nat) (rec:Loop) (no:Nat) (r:Except Int Az) (x:Ending) (w':World):Prop :=
 match r with
 | .error e=>x=.panicked (thrown e)∧w'.cell? ⟨A,0,none⟩=some (.int .i64 (no:Int))∧FrL A m Lk B W w'
 | .ok z'=>x=.returned (.bool true)∧(∃ vl vf,AW B w' A m z' vl vf)∧w'.heap[Lk]?=some (.loop rec)∧FrL A m Lk B W w'
def RndOk (A m Lk pp:Nat) (rec:Loop):Prop :=
 ∀ (B no:Nat) (s:ByteArray) (z:Az) (vl vf:Value) (W:World),AW B W A m z vl vf→Az.Ok z→W.heap[Lk]?=some (.loop rec)→W.cell? ⟨pp,0,none⟩=some (pt A)→s.size≤1000000→Lk < B →
  RoundIn Fence.wide 0 Tryz.prog Lk rec.fn ((rec.params.zip #[.int .i64 (no:Int),.string s]).foldl (fun tmps (t,a)=>tmps.setIfInBounds t a) rec.tmps) rec.assign rec.body W (RndPost B W A m Lk rec no (z.row no s))
def RowsPost (B:Nat) (W:World) (A m Lk:Nat) (rec:Loop) (r:Except (Nat × Int) Az) (x:Ending) (w':World):Prop :=
 match r with
 | .error (no,e)=>x=.panicked (thrown e)∧w'.cell? ⟨A,0,none⟩=some (.int .i64 (no:Int))∧FrL A m Lk B W w'
 | .ok z'=>x=.returned (.tuple #[])∧(∃ vl vf,AW B w' A m z' vl vf)∧w'.heap[Lk]?=some (.loop rec)∧FrL A m Lk B W w'
theorem def_ok {z z':Az} {s:ByteArray} (h:z.Ok) (hd:z.def_ s=.ok z'):z'.Ok∧z'.size=z.size∧z'.list=z.list∧z'.no=z.no:=by
 unfold Az.def_ at hd
 split at hd
 ·cases hd;exact ⟨h,rfl,rfl,rfl⟩
 ·split at hd
  ·cases hd
  ·cases hd
   refine ⟨⟨h.size,h.funcs,h.list,h.at_,fun p hp=>?_,h.names⟩,rfl,rfl,rfl⟩
   rcases List.mem_append.1 hp with h1 | h1
   ·exact h.labels p h1
   ·rw [List.mem_singleton] at h1;rw [h1];exact Nat.le_refl _
theorem push_ok {z z':Az} {l:L9} (h:z.Ok) (hl:l.label.size≤1000000) (hp:z.push l=.ok z'):z'.Ok:=by
 unfold Az.push at hp
 have hb:=lenM_bd (formM l.op)
 split at hp
 ·cases hp
 ·rename_i hn
  cases hp
  refine ⟨by show z.size+lenM (formM l.op)≤2048;omega,h.funcs,?_,fun e he=>?_,fun p hp=>?_,h.names⟩
  ·show (z.list ++ [_]).length≤_
   have:=h.list
   simp
   omega
  ·rcases List.mem_append.1 he with h1 | h1
   ·exact h.at_ e h1
   ·rw [List.mem_singleton] at h1
    rw [h1]
    have:=h.size
    exact ⟨by show z.size≤2060;omega,hl⟩
  ·exact Nat.le_trans (h.labels p hp) (Nat.le_add_right _ _)
theorem dirRow_ok {z z':Az} {n:ByteArray} (h:z.Ok) (hn:n.size≤1000000) (hd:z.dirRow n=.ok z'):z'.Ok:=by
 unfold Az.dirRow at hd
 split at hd
 ·cases hd
 ·split at hd
  ·cases hd
  ·rename_i h32
   cases hd
   refine ⟨h.size,?_,h.list,h.at_,fun p hp=>?_,fun s hs=>?_⟩
   ·show (z.funcs ++ [n]).length≤32
    simp
    omega
   ·rcases List.mem_append.1 hp with h1 | h1
    ·exact h.labels p h1
    ·rw [List.mem_singleton] at h1;rw [h1];exact Nat.le_refl _
   ·rcases List.mem_append.1 hs with h1 | h1
    ·exact h.names s h1
    ·rw [List.mem_singleton] at h1;rw [h1];exact hn
structure Lk9 (l l':L9):Prop where
 s:l'.s=l.s
 lab:l.label.size≤l.s.size→l'.label.size≤l.s.size
theorem Lk9.refl (l:L9):Lk9 l l:=⟨rfl,id⟩
theorem Lk9.trans {l l1 l2:L9} (h:Lk9 l l1) (h':Lk9 l1 l2):Lk9 l l2:=⟨h'.s.trans h.s,fun hl=>by rw [← h.s];exact h'.lab (by rw [h.s];exact h.lab hl)⟩
theorem lk_rg {l:L9} {p:Int × L9} (h:l.rg=some p):Lk9 l p.2:=by
 unfold L9.rg at h
 repeat' split at h
 all_goals first | (cases h;done) | (cases h;exact ⟨rfl,id⟩)
theorem lk_dg {l l':L9} {m:Bool} {o:Option Int} (h:l.dg m=some (o,l')):Lk9 l l':=by
 unfold L9.dg at h
 repeat' split at h
 all_goals first | (cases h;done) | (cases h;exact ⟨rfl,id⟩)
theorem lk_tk (l:L9) (v:Bool):Lk9 l (l.tk v):=by cases v <;> exact ⟨rfl,id⟩
theorem lk_rA {l l':L9} (h:l.rA=some l'):Lk9 l l':=by
 unfold L9.rA at h
 obtain ⟨p,hp,rfl⟩:=Option.map_eq_some_iff.1 h
 exact ⟨(lk_rg hp).s,(lk_rg hp).lab⟩
theorem lk_rB {l l':L9} (h:l.rB=some l'):Lk9 l l':=by
 unfold L9.rB at h
 obtain ⟨p,hp,rfl⟩:=Option.map_eq_some_iff.1 h
 exact ⟨(lk_rg hp).s,(lk_rg hp).lab⟩
theorem lk_setN {l l':L9} {f:Int} {m:Bool} (h:L9.setN f (l.dg m)=some l'):Lk9 l l':=by
 cases hd:l.dg m with
 | none=>rw [hd] at h;cases h
 | some q =>
  obtain ⟨o,l1⟩:=q
  rw [hd] at h
  cases o with
  | none=>cases h
  | some v =>
   unfold L9.setN at h
   dsimp only at h
   split at h
   ·cases h;exact ⟨(lk_dg hd).s,(lk_dg hd).lab⟩
   ·cases h
theorem lk_setF {l l':L9} {f:Int} {m:Bool} (h:L9.setF f (l.dg m)=some l'):Lk9 l l':=by
 cases hd:l.dg m with
 | none=>rw [hd] at h;cases h
 | some q =>
  obtain ⟨o,l1⟩:=q
  rw [hd] at h
  cases o with
  | none=>cases h;exact ⟨(lk_dg hd).s,(lk_dg hd).lab⟩
  | some v =>
   unfold L9.setF at h
   dsimp only at h
   split at h <;> (cases h;exact ⟨(lk_dg hd).s,(lk_dg hd).lab⟩)
theorem lk_close {l l':L9} (h:l.close=some l'):Lk9 l l':=by
 unfold L9.close at h
 split at h
 ·cases h;exact ⟨rfl,id⟩
 ·cases h
theorem lk_sk (l:L9):Lk9 l l.sk:=⟨rfl,id⟩
theorem lk_next (l:L9):Lk9 l l.next:=⟨rfl,id⟩
theorem lk_addr2 {l l':L9} (h:l.addr2=some l'):Lk9 l l':=by
 unfold L9.addr2 at h
 split at h
 ·cases h
 ·split at h
  ·split at h
   ·cases h
   ·rename_i l6 h6
    exact ((lk_tk _ _).trans (lk_tk _ _)).trans ((lk_sk _).trans ((lk_setN h6).trans ((lk_sk _).trans (lk_close h))))
  ·exact ((lk_tk _ _).trans (lk_tk _ _)).trans (lk_close h)
theorem lk_run {k:Rd} {l l':L9} (h:L9.run k l=some l'):Lk9 l l':=by
 cases k with
 | a=>exact lk_rA h
 | b=>exact lk_rB h
 | num=>exact (lk_tk _ _).trans (lk_setN h)
 | mem =>
  change l.mem=some l' at h
  unfold L9.mem at h
  split at h
  ·split at h
   ·cases h
   ·rename_i l2 h2
    exact ((lk_next l).trans (lk_sk _)).trans ((lk_rB h2).trans ((lk_sk _).trans (lk_close h)))
  ·cases h
 | addr =>
  change l.addr=some l' at h
  unfold L9.addr at h
  split at h
  ·split at h
   ·cases h
   ·rename_i l2 h2
    refine ((lk_next l).trans (lk_sk _)).trans ((lk_rB h2).trans ((lk_sk _).trans ?_))
    exact lk_addr2 h
  ·cases h
 | target =>
  change l.tgt=some l' at h
  unfold L9.tgt at h
  split at h
  ·split at h
   ·exact ((lk_next _).trans (lk_next _)).trans (lk_setF h)
   ·split at h
    ·exact ((lk_next _).trans (lk_next _)).trans (lk_setF h)
    ·cases h
  ·split at h
   ·split at h
    ·cases h
     refine ⟨rfl,fun _=>?_⟩
     show (l.s.extract _ _).size≤l.s.size
     rw [ByteArray.size_extract]
     omega
    ·cases h
   ·cases h
theorem lk_rest (ks:List Rd):∀ {l l':L9},L9.rest ks l=some l'→Lk9 l l':=by
 induction ks with
 | nil=>intro l l' h;cases h;exact Lk9.refl _
 | cons k ks ih =>
  intro l l' h
  unfold L9.rest at h
  split at h
  ·split at h
   ·cases h
   ·rename_i l2 h2
    exact (((lk_sk _).trans (lk_next _)).trans (lk_sk _)).trans ((lk_run h2).trans (ih h))
  ·cases h
theorem lk_part {ks:List Rd} {l l':L9} (h:L9.part 0 ks l=some l'):Lk9 l l':=by
 cases ks with
 | nil=>cases h;exact Lk9.refl _
 | cons k ks =>
  unfold L9.part at h
  dsimp only at h
  split at h
  ·split at h
   ·cases h
   ·rename_i l2 h2
    exact (lk_sk _).trans ((lk_run h2).trans (lk_rest ks h))
  ·cases h
theorem lk_instr {l l':L9} (h:l.instr=some l'):Lk9 l l':=by
 unfold L9.instr at h
 split at h
 ·cases h
 ·split at h
  ·cases h
  ·rename_i l2 h2
   have h3:Lk9 l l2:=(lk_sk l).trans ((show Lk9 l.sk l.sk.mn from ⟨rfl,id⟩).trans (lk_part h2))
   unfold L9.fin at h
   split at h
   ·cases h;exact h3.trans (lk_sk _)
   ·cases h
theorem lk_nm (l:L9):Lk9 l l.nm.2:=by
 unfold L9.nm
 repeat' split
 all_goals exact ⟨rfl,id⟩
theorem lk_dir {l l':L9} {o:Option ByteArray} (h:l.dir=some (o,l')):Lk9 l l':=by
 unfold L9.dir at h
 split at h
 ·unfold L9.dir2 at h
  repeat' split at h
  all_goals first | (cases h;done) | (cases h;exact ⟨rfl,id⟩)
 ·cases h;exact Lk9.refl _
theorem rest_ok {z z':Az} {lab:ByteArray} {l:L9} (h:z.Ok) (hl:l.label.size≤l.s.size) (hs:l.s.size≤1000000) (hr:z.rest lab l=.ok z'):z'.Ok:=by
 unfold Az.rest at hr
 split at hr
 ·exact (def_ok h hr).1
 ·split at hr
  ·cases hr
  ·rename_i li hi
   split at hr
   ·cases hr
   ·rename_i z1 hd
    exact push_ok (def_ok h hd).1 (Nat.le_trans ((lk_instr hi).lab hl) hs) hr
theorem row_ok {z z':Az} {no:Nat} {s:ByteArray} (h:z.Ok) (hs:s.size≤1000000) (hr:z.row no s=.ok z'):z'.Ok:=by
 have h0:Az.Ok { z with no:=no }:=⟨h.size,h.funcs,h.list,h.at_,h.labels,h.names⟩
 have hk:=lk_nm (L9.new s true)
 have hz:(L9.new s true).label.size≤(L9.new s true).s.size:=Nat.zero_le _
 unfold Az.row at hr
 dsimp only at hr
 split at hr
 ·split at hr
  ·cases hr
  ·rename_i n _ hd
   have hk2:=hk.trans (lk_sk _)
   exact dirRow_ok h0 (dir_size (by rw [hk2.s];exact hs) hd) hr
  ·rename_i l hd
   have hk2:=(hk.trans (lk_sk _)).trans (lk_dir hd)
   exact rest_ok h0 (by rw [hk2.s];exact hk2.lab hz) (by rw [hk2.s];exact hs) hr
 ·have hk2:=hk.trans (lk_sk _)
  exact rest_ok h0 (by rw [hk2.s];exact hk2.lab hz) (by rw [hk2.s];exact hs) hr
end Go.Proofs.YtffojmgmpfjlhaaGreatDoor
