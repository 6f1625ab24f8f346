/- Parts of the proof: InsnListings: a listing is assembled to the code and the symbols of which it was made, and so is the listing of what was assembled: the law returns true for every input; the inputs read as they did; the package-level variables hold what the program's text lays in them: the tied card. -/
import Derived.Test.YtffojmgmpfjlhaaGreatDoorInsnListingsY4
import Derived.Laws.BitsLemmas
set_option linter.unusedVariables false
set_option linter.unusedSimpArgs false
namespace Go.Proofs.YtffojmgmpfjlhaaGreatDoor.Q
open Go.Proofs.Ix hiding rd
open Go Go.Proofs.YtffojmgmpfjlhaaGreatDoor Go.RowKit Go.Proofs.YtffojmgmpfjlhaaGreatDoorW.PrintWords
def numW (v:Int):List UInt8:=Lib.itoa v
def distW (v:Int):List UInt8:=if v < 0 then 46 :: numW v else 46 :: 43 :: numW v
def addrW (b v:Int):List UInt8:=91 :: (regW b ++ ((if v > 0 then 43 :: numW v else if v < 0 then numW v else []) ++ [93]))
def memW (b:Int):List UInt8:=91 :: (regW b ++ [93])
def rdW (a b v:Int):Rd→List UInt8
 | .a=>regW a
 | .b=>regW b
 | .num=>numW v
 | .mem=>memW b
 | .addr=>addrW b v
 | .target=>distW v
def upd (a b v:Int):Rd→L9→L9
 | .a,l=>{ l with a:=a }
 | .b,l=>{ l with b:=b }
 | .num,l=>{ l with imm:=v }
 | .mem,l=>{ l with b:=b }
 | .addr,l=>{ l with b:=b,imm:=v }
 | .target,l=>{ l with far:=false,imm:=v }
theorem num_neg {v:Int} (h:v < 0):numW v=45 :: Lib.decDigits v.natAbs:=by unfold numW Lib.itoa;rw [if_pos h]
theorem num_pos {v:Int} (h:¬ v < 0):numW v=Lib.decDigits v.toNat:=by unfold numW Lib.itoa;rw [if_neg h]
theorem dec_head (u:Nat):∃ c r,Lib.decDigits u=c :: r∧isDig c=true:=by
 cases h:Lib.decDigits u with
 | nil=>exact absurd h (dec_ne u)
 | cons c r=>exact ⟨c,r,rfl,dec_dig u u (Nat.le_refl _) c (by rw [h];exact List.mem_cons_self)⟩
theorem dig_no {c:UInt8} (h:isDig c=true):c.toNat≠45∧c.toNat≠43∧isBl c=false:=by
 have key:∀ c:UInt8,isDig c=true→c.toNat≠45∧c.toNat≠43∧isBl c=false:=u8_all _ (by decide +kernel)
 exact key c h
theorem head_append {x t:List UInt8} {c:UInt8} {r:List UInt8} (h:x=c :: r):∀ d t',x ++ t=d :: t'→d=c:=by
 intro d t' e
 rw [h,List.cons_append] at e
 exact (List.cons.inj e).1.symm
theorem Cur.set {l l':L9} {t:List UInt8} (h:Cur l t) (hs:l'.s=l.s) (ha:l'.at_=l.at_):Cur l' t:=by
 unfold Cur at h ⊢
 rw [hs,ha]
 exact h
theorem num_ok {l:L9} {v:Int} {t:List UInt8} (h0:-9223372036854775808≤v) (h1:v≤9223372036854775807) (hf:fitsM (formM l.op) v=true) (h:Cur l (numW v ++ t)) (ht:Tl t):l.num=some { mv l (numW v).length with imm:=v }:=by
 unfold L9.num
 by_cases hn:v < 0
 ·have e:=num_neg hn
  rw [e] at h ⊢
  have h2:Cur (mv l 1) (Lib.decDigits v.natAbs ++ t):=h.mv1
  have hh:l.hit 45=true:=by rw [Cur.hit (t:=Lib.decDigits v.natAbs ++ t) h];rfl
  rw [hh]
  show L9.setN (formM l.op) ((mv l 1).dg true)=_
  rw [dg_ok (by omega) h2 ht true (fun e=>by cases e),if_pos rfl]
  unfold L9.setN
  have ev:-((v.natAbs:Nat):Int)=v:=by omega
  simp only
  rw [ev,if_pos hf]
  congr 1
  show L9.mk _ _ _ _ _ _ _ _ _=L9.mk _ _ _ _ _ _ _ _ _
  congr 1
  show l.at_+1+_=l.at_+(_+1)
  omega
 ·have e:=num_pos hn
  rw [e] at h ⊢
  obtain ⟨c,r,e2,hc⟩:=dec_head v.toNat
  have hh:l.hit 45=false:=by
   have h3:=h
   rw [e2] at h3
   rw [Cur.hit (t:=r ++ t) h3]
   exact beq_eq_false_iff_ne.2 (dig_no hc).1
  rw [hh]
  show L9.setN (formM l.op) (l.dg false)=_
  rw [dg_ok (by omega) h ht false (fun _=>by omega),if_neg (by decide)]
  unfold L9.setN
  have ev:((v.toNat:Nat):Int)=v:=by omega
  simp only
  rw [ev,if_pos hf]
theorem tl93 (t:List UInt8):Tl (93 :: t):=by
 intro c t' e
 rw [← (List.cons.inj e).1]
 decide
theorem bl_of {c:UInt8} (h:isDig c=true):isBl c=false:=(dig_no h).2.2
theorem close_ok {l:L9} {t:List UInt8} (h:Cur l (93 :: t)):l.close=some (mv l 1):=by
 unfold L9.close
 rw [h.hit,if_pos (by decide)]
 rfl
theorem addr2_ok {l:L9} {v:Int} {t:List UInt8} (h0:-9223372036854775808≤v) (h1:v≤9223372036854775807) (hf:fitsM (formM l.op) v=true) (hi:v=0→l.imm=0)
  (h:Cur l ((if v > 0 then 43 :: numW v else if v < 0 then numW v else []) ++ 93 :: t)) :
  l.addr2=some { mv l ((if v > 0 then 43 :: numW v else if v < 0 then numW v else []).length+1) with imm:=v }:=by
 by_cases hp:v > 0
 ·rw [if_pos hp] at h ⊢
  have hn:¬ v < 0:=by omega
  rw [num_pos hn] at h ⊢
  have h2:Cur (mv l 1) (Lib.decDigits v.toNat ++ 93 :: t):=h.mv1
  obtain ⟨c,r,e2,hc⟩:=dec_head v.toNat
  have g1:l.hit 43=true:=by rw [Cur.hit (t:=Lib.decDigits v.toNat ++ 93 :: t) h];rfl
  have g2:(mv l 1).hit 45=false:=by
   have h3:=h2
   rw [e2] at h3
   rw [Cur.hit (t:=r ++ 93 :: t) h3]
   exact beq_eq_false_iff_ne.2 (dig_no hc).1
  have g3:(mv l 1).sk=mv l 1:=h2.sk0 (fun d t' e=>by rw [head_append e2 d t' e];exact bl_of hc)
  have h4:=h2.adv
  have g4:(mv (mv l 1) (Lib.decDigits v.toNat).length).sk=mv (mv l 1) (Lib.decDigits v.toNat).length:=h4.sk0 (fun c t' e=>(tl93 t c t' e).2)
  unfold L9.addr2
  rw [g1]
  rw [show l.tk true=mv l 1 from rfl,g2,if_neg (by decide),if_pos (by decide),show (mv l 1).tk false=mv l 1 from rfl,show (mv l 1).op=l.op from rfl]
  rw [g3,dg_ok (by omega) h2 (tl93 t) false (fun _=>by omega),if_neg (by decide)]
  have ev:((v.toNat:Nat):Int)=v:=by omega
  unfold L9.setN
  simp only
  rw [ev,if_pos hf]
  simp only
  have h5:Cur { mv (mv l 1) (Lib.decDigits v.toNat).length with imm:=v } (93 :: t):=h4.set rfl rfl
  rw [h5.sk0 (fun c t' e=>(tl93 t c t' e).2),close_ok h5]
  congr 1
  show L9.mk _ _ _ _ _ _ _ _ _=L9.mk _ _ _ _ _ _ _ _ _
  congr 1
  show l.at_+1+_+1=l.at_+(_+1+1)
  omega
 ·rw [if_neg hp] at h ⊢
  by_cases hn:v < 0
  ·rw [if_pos hn] at h ⊢
   rw [num_neg hn] at h ⊢
   have h2:Cur (mv l 1) (Lib.decDigits v.natAbs ++ 93 :: t):=h.mv1
   obtain ⟨c,r,e2,hc⟩:=dec_head v.natAbs
   have g1:l.hit 43=false:=by rw [Cur.hit (t:=Lib.decDigits v.natAbs ++ 93 :: t) h];rfl
   have g2:l.hit 45=true:=by rw [Cur.hit (t:=Lib.decDigits v.natAbs ++ 93 :: t) h];rfl
   have g3:(mv l 1).sk=mv l 1:=h2.sk0 (fun d t' e=>by rw [head_append e2 d t' e];exact bl_of hc)
   have h4:=h2.adv
   unfold L9.addr2
   rw [g1]
   rw [show l.tk false=l from rfl,g2,if_neg (by decide),if_pos (by decide),show l.tk true=mv l 1 from rfl,show (mv l 1).op=l.op from rfl]
   rw [g3,dg_ok (by omega) h2 (tl93 t) true (fun e=>by cases e),if_pos rfl]
   have ev:-((v.natAbs:Nat):Int)=v:=by omega
   unfold L9.setN
   simp only
   rw [ev,if_pos hf]
   simp only
   have h5:Cur { mv (mv l 1) (Lib.decDigits v.natAbs).length with imm:=v } (93 :: t):=h4.set rfl rfl
   rw [h5.sk0 (fun c t' e=>(tl93 t c t' e).2),close_ok h5]
   congr 1
   show L9.mk _ _ _ _ _ _ _ _ _=L9.mk _ _ _ _ _ _ _ _ _
   congr 1
   show l.at_+1+_+1=l.at_+(_+1+1)
   omega
  ·rw [if_neg hn] at h ⊢
   have h:Cur l (93 :: t):=h
   have g1:l.hit 43=false:=by rw [h.hit];rfl
   have g2:l.hit 45=false:=by rw [h.hit];rfl
   unfold L9.addr2
   rw [g1]
   rw [show l.tk false=l from rfl,g2,if_neg (by decide),if_neg (by decide),show l.tk false=l from rfl]
   rw [close_ok h]
   congr 1
   show L9.mk _ _ _ _ _ _ _ _ _=L9.mk _ _ _ _ _ _ _ _ _
   have e0:v=0:=by omega
   congr 1
   show l.imm=v
   rw [e0];exact hi e0
theorem tl_sign {v:Int} {t:List UInt8}:Tl ((if v > 0 then 43 :: numW v else if v < 0 then numW v else []) ++ 93 :: t):=by
 intro c t' e
 by_cases hp:v > 0
 ·rw [if_pos hp,List.cons_append] at e
  rw [← (List.cons.inj e).1];decide
 ·rw [if_neg hp] at e
  by_cases hn:v < 0
  ·rw [if_pos hn,num_neg hn,List.cons_append] at e
   rw [← (List.cons.inj e).1];decide
  ·rw [if_neg hn,List.nil_append] at e
   rw [← (List.cons.inj e).1];decide
theorem reg_bl (x:Int) (t:List UInt8):∀ c t',regW x ++ t=c :: t'→isBl c=false:=by
 intro c t' e
 unfold regW at e
 rw [List.cons_append] at e
 rw [← (List.cons.inj e).1];decide
theorem addr_ok {l:L9} {b v:Int} {t:List UInt8} (hb0:0≤b) (hb7:b≤7) (h0:-9223372036854775808≤v) (h1:v≤9223372036854775807) (hf:fitsM (formM l.op) v=true) (hi:v=0→l.imm=0) (h:Cur l (addrW b v ++ t)) :
  l.addr=some { mv l (addrW b v).length with b:=b,imm:=v }:=by
 have h:Cur l (91 :: (regW b ++ ((if v > 0 then 43 :: numW v else if v < 0 then numW v else []) ++ 93 :: t))):=by
  have:=h
  unfold addrW at this
  simpa using this
 have h2:=h.mv1
 have h3:Cur (mv (mv l 1) 2) _:=h2.adv
 unfold L9.addr
 rw [h.hit,if_pos (by decide)]
 show (match (mv l 1).sk.rB with | none=>none | some l2=>l2.sk.addr2)=_
 rw [h2.sk0 (reg_bl b _)]
 unfold L9.rB
 rw [rg_ok hb0 hb7 h2 tl_sign]
 simp only [Option.map_some]
 have h4:Cur { mv (mv l 1) 2 with b:=b } _:=h3.set rfl rfl
 rw [h4.sk0 (fun c t' e=>(tl_sign c t' e).2),addr2_ok (l:={ mv (mv l 1) 2 with b:=b }) h0 h1 hf hi h4]
 congr 1
 show L9.mk _ _ _ _ _ _ _ _ _=L9.mk _ _ _ _ _ _ _ _ _
 congr 1
 show l.at_+1+2+_=l.at_+_
 unfold addrW
 simp only [List.length_cons,List.length_append,List.length_nil,regW]
 omega
theorem mem_ok {l:L9} {b:Int} {t:List UInt8} (hb0:0≤b) (hb7:b≤7) (h:Cur l (memW b ++ t)):l.mem=some { mv l (memW b).length with b:=b }:=by
 have h:Cur l (91 :: (regW b ++ 93 :: t)):=by
  have:=h
  unfold memW at this
  simpa using this
 have h2:=h.mv1
 have h3:Cur (mv (mv l 1) 2) _:=h2.adv
 unfold L9.mem
 rw [h.hit,if_pos (by decide)]
 show (match (mv l 1).sk.rB with | none=>none | some l2=>l2.sk.close)=_
 rw [h2.sk0 (reg_bl b _)]
 unfold L9.rB
 rw [rg_ok hb0 hb7 h2 (tl93 t)]
 simp only [Option.map_some]
 have h4:Cur { mv (mv l 1) 2 with b:=b } (93 :: t):=h3.set rfl rfl
 rw [h4.sk0 (fun c t' e=>(tl93 t c t' e).2),close_ok h4]
 rfl
theorem tgt_ok {l:L9} {v:Int} {t:List UInt8} (h0:-9223372036854775808≤v) (h1:v≤9223372036854775807) (hf:fitsM (formM l.op) v=true) (h:Cur l (distW v ++ t)) (ht:Tl t) :
  l.tgt=some { mv l (distW v).length with far:=false,imm:=v }:=by
 unfold L9.tgt
 by_cases hn:v < 0
 ·have e:distW v=46 :: 45 :: Lib.decDigits v.natAbs:=by unfold distW;rw [if_pos hn,num_neg hn]
  rw [e] at h ⊢
  have h2:Cur (mv l 1) (45 :: (Lib.decDigits v.natAbs ++ t)):=h.mv1
  have h3:Cur (mv (mv l 1) 1) (Lib.decDigits v.natAbs ++ t):=h2.mv1
  have g0:l.hit 46=true:=by rw [Cur.hit (t:=45 :: (Lib.decDigits v.natAbs ++ t)) h];rfl
  rw [g0,if_pos rfl]
  show (if (mv l 1).hit 43=true then _ else if (mv l 1).hit 45=true then L9.setF (formM l.op) ((mv (mv l 1) 1).dg true) else none)=_
  rw [h2.hit,if_neg (by decide),h2.hit,if_pos (by decide),dg_ok (by omega) h3 ht true (fun e=>by cases e),if_pos rfl]
  have ev:-((v.natAbs:Nat):Int)=v:=by omega
  unfold L9.setF
  simp only
  rw [ev,if_pos hf]
  congr 1
  show L9.mk _ _ _ _ _ _ _ _ _=L9.mk _ _ _ _ _ _ _ _ _
  congr 1
  show l.at_+1+1+_=l.at_+(_+1+1)
  omega
 ·have e:distW v=46 :: 43 :: Lib.decDigits v.toNat:=by unfold distW;rw [if_neg hn,num_pos hn]
  rw [e] at h ⊢
  have h2:Cur (mv l 1) (43 :: (Lib.decDigits v.toNat ++ t)):=h.mv1
  have h3:Cur (mv (mv l 1) 1) (Lib.decDigits v.toNat ++ t):=h2.mv1
  have g0:l.hit 46=true:=by rw [Cur.hit (t:=43 :: (Lib.decDigits v.toNat ++ t)) h];rfl
  rw [g0,if_pos rfl]
  show (if (mv l 1).hit 43=true then L9.setF (formM l.op) ((mv (mv l 1) 1).dg false) else _)=_
  rw [h2.hit,if_pos (by decide),dg_ok (by omega) h3 ht false (fun _=>by omega),if_neg (by decide)]
  have ev:((v.toNat:Nat):Int)=v:=by omega
  unfold L9.setF
  simp only
  rw [ev,if_pos hf]
  congr 1
  show L9.mk _ _ _ _ _ _ _ _ _=L9.mk _ _ _ _ _ _ _ _ _
  congr 1
  show l.at_+1+1+_=l.at_+(_+1+1)
  omega
structure Ok1 (op a b v:Int):Prop where
 a0:0≤a
 a7:a≤7
 b0:0≤b
 b7:b≤7
 v0:-9223372036854775808≤v
 v1:v≤9223372036854775807
 fits:fitsM (formM op) v=true
theorem run_ok {op a b v:Int} (k:Rd) (o:Ok1 op a b v) {l:L9} {t:List UInt8} (hop:l.op=op) (hi:v=0→l.imm=0) (h:Cur l (rdW a b v k ++ t)) (ht:Tl t) :
  L9.run k l=some (upd a b v k (mv l (rdW a b v k).length)):=by
 have hf:fitsM (formM l.op) v=true:=by rw [hop];exact o.fits
 cases k with
 | a =>
  show l.rA=_
  unfold L9.rA
  rw [rg_ok o.a0 o.a7 h ht];rfl
 | b =>
  show l.rB=_
  unfold L9.rB
  rw [rg_ok o.b0 o.b7 h ht];rfl
 | num=>exact num_ok o.v0 o.v1 hf h ht
 | mem=>exact mem_ok o.b0 o.b7 h
 | addr=>exact addr_ok o.b0 o.b7 o.v0 o.v1 hf hi h
 | target=>exact tgt_ok o.v0 o.v1 hf h ht
theorem rdW_bl (a b v:Int) (k:Rd) (t:List UInt8):∀ c t',rdW a b v k ++ t=c :: t'→isBl c=false:=by
 intro c t' e
 cases k with
 | a=>exact reg_bl a t c t' e
 | b=>exact reg_bl b t c t' e
 | num =>
  have e:numW v ++ t=c :: t':=e
  by_cases hn:v < 0
  ·rw [num_neg hn,List.cons_append] at e
   rw [← (List.cons.inj e).1];decide
  ·rw [num_pos hn] at e
   obtain ⟨d,r,e2,hd⟩:=dec_head v.toNat
   rw [head_append e2 c t' e];exact bl_of hd
 | mem =>
  have e:91 :: (regW b ++ [93]) ++ t=c :: t':=e
  rw [List.cons_append] at e
  rw [← (List.cons.inj e).1];decide
 | addr =>
  have e:91 :: (regW b ++ ((if v > 0 then 43 :: numW v else if v < 0 then numW v else []) ++ [93])) ++ t=c :: t':=e
  rw [List.cons_append] at e
  rw [← (List.cons.inj e).1];decide
 | target =>
  have e:distW v ++ t=c :: t':=e
  unfold distW at e
  by_cases hn:v < 0
  ·rw [if_pos hn,List.cons_append] at e
   rw [← (List.cons.inj e).1];decide
  ·rw [if_neg hn,List.cons_append] at e
   rw [← (List.cons.inj e).1];decide
def tailW (a b v:Int) (ks:List Rd):List UInt8:=ks.flatMap fun k=>44 :: 32 :: rdW a b v k
theorem tailW_tl (a b v:Int) (ks:List Rd):Tl (tailW a b v ks):=by
 intro c t' e
 cases ks with
 | nil=>cases e
 | cons k ks =>
  unfold tailW at e
  rw [List.flatMap_cons,List.cons_append] at e
  rw [← (List.cons.inj e).1];decide
def updL (a b v:Int) (ks:List Rd) (l:L9):L9:=ks.foldl (fun l k=>upd a b v k l) l
theorem upd_s (a b v:Int) (k:Rd) (l:L9):(upd a b v k l).s=l.s∧(upd a b v k l).at_=l.at_∧(upd a b v k l).op=l.op∧((v=0→l.imm=0)→(v=0→(upd a b v k l).imm=0)):=by
 cases k <;> exact ⟨rfl,rfl,rfl,fun h e=>by first | exact h e | exact e⟩
theorem upd_go (a b v:Int) (k:Rd) (l:L9) (e:Nat):upd a b v k (l.go e)=(upd a b v k l).go e:=by cases k <;> rfl
theorem updL_go (a b v:Int):∀ (ks:List Rd) (l:L9) (e:Nat),updL a b v ks (l.go e)=(updL a b v ks l).go e
 | [],l,e=>rfl
 | k :: ks,l,e=>by
  show updL a b v ks (upd a b v k (l.go e))=(updL a b v ks (upd a b v k l)).go e
  rw [upd_go,updL_go]
theorem rest_ok {op a b v:Int} (o:Ok1 op a b v):∀ (ks:List Rd) (l:L9),l.op=op→(v=0→l.imm=0)→Cur l (tailW a b v ks)→L9.rest ks l=some ((updL a b v ks l).go (l.at_+(tailW a b v ks).length))
 | [],l,hop,hi,h=>rfl
 | k :: ks,l,hop,hi,h=>by
  have h:Cur l (44 :: 32 :: (rdW a b v k ++ tailW a b v ks)):=by
   have:=h
   unfold tailW at this
   rw [List.flatMap_cons] at this
   exact this
  have h2:=h.mv1
  have h3:=h2.mv1
  have s0:l.sk=l:=h.sk0 (fun c t' e=>by rw [← (List.cons.inj e).1];decide)
  have s1:(mv l 1).sk=mv (mv l 1) 1:=(h2.sk1 (rdW_bl a b v k _)).1
  unfold L9.rest
  rw [s0,h.hit,if_pos (by decide)]
  show (match L9.run k (mv l 1).sk with | none=>none | some l2=>L9.rest ks l2)=_
  rw [s1,run_ok (l:=mv (mv l 1) 1) k o (show (mv (mv l 1) 1).op=op from hop) (show v=0→(mv (mv l 1) 1).imm=0 from hi) h3 (tailW_tl a b v ks)]
  simp only
  have u:=upd_s a b v k (mv (mv (mv l 1) 1) (rdW a b v k).length)
  have h4:Cur (upd a b v k (mv (mv (mv l 1) 1) (rdW a b v k).length)) (tailW a b v ks):=h3.adv.set u.1 u.2.1
  rw [rest_ok o ks _ (u.2.2.1.trans hop) (u.2.2.2 hi) h4,u.2.1]
  congr 1
  show (updL a b v ks (upd a b v k (l.go _))).go _=(updL a b v ks (upd a b v k l)).go _
  rw [upd_go,updL_go]
  refine (show ∀ (L:L9) (x y z:Nat),y=z→(L.go x).go y=L.go z from fun L x y z h=>by subst h;rfl) _ _ _ _ ?_
  show l.at_+1+1+_+_=l.at_+_
  unfold tailW
  rw [List.flatMap_cons]
  simp only [List.length_append,List.length_cons]
  omega
theorem bS_app (x y:List UInt8):bS x ++ bS y=bS (x ++ y):=by
 unfold bS
 have h:∀ a b:ByteArray,a.data=b.data→a=b:=fun ⟨_⟩ ⟨_⟩ h=>by cases h;rfl
 refine h _ _ ?_
 simp [ByteArray.data_append]
theorem bS_len (x:List UInt8):(bS x).size=x.length:=by rw [← sz_list,toS]
theorem num_len {v:Int} (h0:-9223372036854775808≤v) (h1:v≤9223372036854775807):(numW v).length≤21:=Lib.itoa_length_le v h0 h1
theorem reg_f {x:Int} (h0:0≤x) (h7:x≤7):insn_register.f x=some (bS (regW x)):=by
 unfold insn_register.f strconv_Itoa.f
 have e:Lib.itoa x=[UInt8.ofNat (48+x.toNat)]:=by
  unfold Lib.itoa
  rw [if_neg (by omega),Lib.decDigits_one (by omega)]
 rw [if_pos (by omega),Option.bind_some,bS_len,e,if_pos (by simp)]
 exact congrArg some (bS_app [114] _)
theorem fmt_f {v:Int} (h0:-9223372036854775808≤v) (h1:v≤9223372036854775807):strconv_FormatInt.f v 10=some (bS (numW v)):=by
 unfold strconv_FormatInt.f
 rw [if_pos ⟨rfl,h0,h1⟩]
 rfl
theorem dist_f {v:Int} (h0:-9223372036854775808≤v) (h1:v≤9223372036854775807):insn_distance.f v=some (bS (distW v)):=by
 have hl:=num_len h0 h1
 unfold insn_distance.f distW
 by_cases hn:v < 0
 ·rw [if_pos hn,if_pos hn,fmt_f h0 h1,Option.bind_some,if_pos (by rw [bS_len];omega)]
  exact congrArg some (bS_app [46] _)
 ·rw [if_neg hn,if_neg hn,fmt_f h0 h1,Option.bind_some,if_pos (by rw [bS_len];omega)]
  exact congrArg some (bS_app [46,43] _)
theorem b1 (c:UInt8):(⟨#[c]⟩:ByteArray)=bS [c]:=rfl
theorem addr_f {op a b v:Int} (hb0:0≤b) (hb7:b≤7) (h0:-9223372036854775808≤v) (h1:v≤9223372036854775807):insn_address.f op a b v=some (bS (addrW b v)):=by
 have hl:=num_len h0 h1
 unfold insn_address.f addrW
 simp only [b1,reg_f hb0 hb7,fmt_f h0 h1,Option.bind_some,bS_app,bS_len,List.length_append,List.length_cons,List.length_nil,show (regW b).length=2 from rfl]
 by_cases hp:v > 0
 ·rw [if_pos hp,if_pos hp,if_pos (by omega),if_pos (by omega),if_pos (by omega),if_pos (by omega)]
  simp
 ·rw [if_neg hp,if_neg hp]
  by_cases hn:v < 0
  ·rw [if_pos hn,if_pos hn,if_pos (by omega),if_pos (by omega),if_pos (by omega)]
   simp
  ·rw [if_neg hn,if_neg hn]
   simp
theorem op_valid {op:Int} (h:nameM op≠[]):op=1∨op=2∨op=3∨op=4∨op=5∨op=6∨op=7∨op=8∨op=9∨op=10∨op=11∨op=12∨op=13∨op=14∨op=15∨op=16∨op=17∨op=18∨op=19∨op=20∨op=21∨op=22∨op=23∨op=24∨op=25∨op=26∨op=27∨op=28∨op=29∨op=30∨op=31∨op=32∨op=33∨op=34∨op=76:=by
 by_cases h76:op=76
 ·omega
 ·by_cases hr:op < 1∨35≤op
  ·refine absurd ?_ h
   unfold nameM kindM
   rw [if_neg h76,if_pos hr]
  ·omega
theorem words_f {op a b v:Int} (hv:nameM op≠[]) (o:Ok1 op a b v) (k:Nat):insn_words.f (k+10) op a b v=some ((readsM op).map fun r=>bS (rdW a b v r)):=by
 have ha:insn_address.f op a b v=some (bS (addrW b v)):=addr_f o.b0 o.b7 o.v0 o.v1
 have hd:=dist_f o.v0 o.v1
 have hmem:bS [91] ++ bS (regW b) ++ bS [93]=bS (memW b):=by rw [bS_app,bS_app];rfl
 have hmem:((⟨#[91]⟩:ByteArray) ++ bS (regW b)) ++ (⟨#[93]⟩:ByteArray)=bS (memW b):=hmem
 have hs1:(1:Nat)+(bS (regW b)).size≤9223372036854775807:=by rw [bS_len,show (regW b).length=2 from rfl];omega
 have hs2:((⟨#[91]⟩:ByteArray) ++ bS (regW b)).size+1≤9223372036854775807:=by rw [b1,bS_app,bS_len,List.length_append,show (regW b).length=2 from rfl];simp
 unfold insn_words.f
 rw [reg_f o.a0 o.a7,reg_f o.b0 o.b7,fmt_f o.v0 o.v1,Option.bind_some,Option.bind_some,Option.bind_some]
 rcases op_valid hv with rfl | rfl | rfl | rfl | rfl | rfl | rfl | rfl | rfl | rfl | rfl | rfl | rfl | rfl | rfl | rfl | rfl | rfl | rfl | rfl | rfl | rfl | rfl | rfl | rfl | rfl | rfl | rfl | rfl | rfl | rfl | rfl | rfl | rfl | rfl
 ·rw [show readsM 1=[] from rfl]
  simp [insn_words.j0,insn_words.j1,insn_words.j2,insn_words.j3,insn_words.j4,insn_kindOf.f,formM,kindM,kindsL,ha,hd,hmem,rdW]
 ·rw [show readsM 2=[Rd.a,Rd.b] from rfl]
  simp [insn_words.j0,insn_words.j1,insn_words.j2,insn_words.j3,insn_words.j4,insn_kindOf.f,formM,kindM,kindsL,ha,hd,hmem,rdW]
 ·rw [show readsM 3=[Rd.a,Rd.num] from rfl]
  simp [insn_words.j0,insn_words.j1,insn_words.j2,insn_words.j3,insn_words.j4,insn_kindOf.f,formM,kindM,kindsL,ha,hd,hmem,rdW]
 ·rw [show readsM 4=[Rd.a,Rd.num] from rfl]
  simp [insn_words.j0,insn_words.j1,insn_words.j2,insn_words.j3,insn_words.j4,insn_kindOf.f,formM,kindM,kindsL,ha,hd,hmem,rdW]
 ·rw [show readsM 5=[Rd.a,Rd.b] from rfl]
  simp [insn_words.j0,insn_words.j1,insn_words.j2,insn_words.j3,insn_words.j4,insn_kindOf.f,formM,kindM,kindsL,ha,hd,hmem,rdW]
 ·rw [show readsM 6=[Rd.a,Rd.b] from rfl]
  simp [insn_words.j0,insn_words.j1,insn_words.j2,insn_words.j3,insn_words.j4,insn_kindOf.f,formM,kindM,kindsL,ha,hd,hmem,rdW]
 ·rw [show readsM 7=[Rd.a,Rd.b] from rfl]
  simp [insn_words.j0,insn_words.j1,insn_words.j2,insn_words.j3,insn_words.j4,insn_kindOf.f,formM,kindM,kindsL,ha,hd,hmem,rdW]
 ·rw [show readsM 8=[Rd.a,Rd.b] from rfl]
  simp [insn_words.j0,insn_words.j1,insn_words.j2,insn_words.j3,insn_words.j4,insn_kindOf.f,formM,kindM,kindsL,ha,hd,hmem,rdW]
 ·rw [show readsM 9=[Rd.a,Rd.b] from rfl]
  simp [insn_words.j0,insn_words.j1,insn_words.j2,insn_words.j3,insn_words.j4,insn_kindOf.f,formM,kindM,kindsL,ha,hd,hmem,rdW]
 ·rw [show readsM 10=[Rd.a,Rd.b] from rfl]
  simp [insn_words.j0,insn_words.j1,insn_words.j2,insn_words.j3,insn_words.j4,insn_kindOf.f,formM,kindM,kindsL,ha,hd,hmem,rdW]
 ·rw [show readsM 11=[Rd.a,Rd.b] from rfl]
  simp [insn_words.j0,insn_words.j1,insn_words.j2,insn_words.j3,insn_words.j4,insn_kindOf.f,formM,kindM,kindsL,ha,hd,hmem,rdW]
 ·rw [show readsM 12=[Rd.a,Rd.b] from rfl]
  simp [insn_words.j0,insn_words.j1,insn_words.j2,insn_words.j3,insn_words.j4,insn_kindOf.f,formM,kindM,kindsL,ha,hd,hmem,rdW]
 ·rw [show readsM 13=[Rd.a,Rd.b] from rfl]
  simp [insn_words.j0,insn_words.j1,insn_words.j2,insn_words.j3,insn_words.j4,insn_kindOf.f,formM,kindM,kindsL,ha,hd,hmem,rdW]
 ·rw [show readsM 14=[Rd.a,Rd.b] from rfl]
  simp [insn_words.j0,insn_words.j1,insn_words.j2,insn_words.j3,insn_words.j4,insn_kindOf.f,formM,kindM,kindsL,ha,hd,hmem,rdW]
 ·rw [show readsM 15=[Rd.a,Rd.b] from rfl]
  simp [insn_words.j0,insn_words.j1,insn_words.j2,insn_words.j3,insn_words.j4,insn_kindOf.f,formM,kindM,kindsL,ha,hd,hmem,rdW]
 ·rw [show readsM 16=[Rd.a,Rd.num] from rfl]
  simp [insn_words.j0,insn_words.j1,insn_words.j2,insn_words.j3,insn_words.j4,insn_kindOf.f,formM,kindM,kindsL,ha,hd,hmem,rdW]
 ·rw [show readsM 17=[Rd.a,Rd.addr] from rfl]
  simp [insn_words.j0,insn_words.j1,insn_words.j2,insn_words.j3,insn_words.j4,insn_kindOf.f,formM,kindM,kindsL,ha,hd,hmem,rdW]
 ·rw [show readsM 18=[Rd.a,Rd.addr] from rfl]
  simp [insn_words.j0,insn_words.j1,insn_words.j2,insn_words.j3,insn_words.j4,insn_kindOf.f,formM,kindM,kindsL,ha,hd,hmem,rdW]
 ·rw [show readsM 19=[Rd.addr,Rd.a] from rfl]
  simp [insn_words.j0,insn_words.j1,insn_words.j2,insn_words.j3,insn_words.j4,insn_kindOf.f,formM,kindM,kindsL,ha,hd,hmem,rdW]
 ·rw [show readsM 20=[Rd.addr,Rd.a] from rfl]
  simp [insn_words.j0,insn_words.j1,insn_words.j2,insn_words.j3,insn_words.j4,insn_kindOf.f,formM,kindM,kindsL,ha,hd,hmem,rdW]
 ·rw [show readsM 21=[Rd.a,Rd.b,Rd.target] from rfl]
  simp [insn_words.j0,insn_words.j1,insn_words.j2,insn_words.j3,insn_words.j4,insn_kindOf.f,formM,kindM,kindsL,ha,hd,hmem,rdW]
 ·rw [show readsM 22=[Rd.a,Rd.b,Rd.target] from rfl]
  simp [insn_words.j0,insn_words.j1,insn_words.j2,insn_words.j3,insn_words.j4,insn_kindOf.f,formM,kindM,kindsL,ha,hd,hmem,rdW]
 ·rw [show readsM 23=[Rd.a,Rd.b,Rd.target] from rfl]
  simp [insn_words.j0,insn_words.j1,insn_words.j2,insn_words.j3,insn_words.j4,insn_kindOf.f,formM,kindM,kindsL,ha,hd,hmem,rdW]
 ·rw [show readsM 24=[Rd.a,Rd.b,Rd.target] from rfl]
  simp [insn_words.j0,insn_words.j1,insn_words.j2,insn_words.j3,insn_words.j4,insn_kindOf.f,formM,kindM,kindsL,ha,hd,hmem,rdW]
 ·rw [show readsM 25=[Rd.target] from rfl]
  simp [insn_words.j0,insn_words.j1,insn_words.j2,insn_words.j3,insn_words.j4,insn_kindOf.f,formM,kindM,kindsL,ha,hd,hmem,rdW]
 ·rw [show readsM 26=[Rd.a] from rfl]
  simp [insn_words.j0,insn_words.j1,insn_words.j2,insn_words.j3,insn_words.j4,insn_kindOf.f,formM,kindM,kindsL,ha,hd,hmem,rdW]
 ·rw [show readsM 27=[Rd.target] from rfl]
  simp [insn_words.j0,insn_words.j1,insn_words.j2,insn_words.j3,insn_words.j4,insn_kindOf.f,formM,kindM,kindsL,ha,hd,hmem,rdW]
 ·rw [show readsM 28=[Rd.a] from rfl]
  simp [insn_words.j0,insn_words.j1,insn_words.j2,insn_words.j3,insn_words.j4,insn_kindOf.f,formM,kindM,kindsL,ha,hd,hmem,rdW]
 ·rw [show readsM 29=[] from rfl]
  simp [insn_words.j0,insn_words.j1,insn_words.j2,insn_words.j3,insn_words.j4,insn_kindOf.f,formM,kindM,kindsL,ha,hd,hmem,rdW]
 ·rw [show readsM 30=[Rd.a] from rfl]
  simp [insn_words.j0,insn_words.j1,insn_words.j2,insn_words.j3,insn_words.j4,insn_kindOf.f,formM,kindM,kindsL,ha,hd,hmem,rdW]
 ·rw [show readsM 31=[Rd.a] from rfl]
  simp [insn_words.j0,insn_words.j1,insn_words.j2,insn_words.j3,insn_words.j4,insn_kindOf.f,formM,kindM,kindsL,ha,hd,hmem,rdW]
 ·rw [show readsM 32=[Rd.a,Rd.target] from rfl]
  simp [insn_words.j0,insn_words.j1,insn_words.j2,insn_words.j3,insn_words.j4,insn_kindOf.f,formM,kindM,kindsL,ha,hd,hmem,rdW]
 ·rw [show readsM 33=[Rd.num] from rfl]
  simp [insn_words.j0,insn_words.j1,insn_words.j2,insn_words.j3,insn_words.j4,insn_kindOf.f,formM,kindM,kindsL,ha,hd,hmem,rdW]
 ·rw [show readsM 34=[Rd.a,Rd.mem] from rfl]
  simp [insn_words.j0,insn_words.j1,insn_words.j2,insn_words.j3,insn_words.j4,insn_kindOf.f,formM,kindM,kindsL,ha,hd,hmem,rdW]
  exact ⟨hs1,by rw [bS_len,show (regW b).length=2 from rfl];decide⟩
 ·rw [show readsM 76=[] from rfl]
  simp [insn_words.j0,insn_words.j1,insn_words.j2,insn_words.j3,insn_words.j4,insn_kindOf.f,formM,kindM,kindsL,ha,hd,hmem,rdW]
def opW (a b v:Int):List Rd→List UInt8
 | []=>[]
 | k :: ks=>32 :: (rdW a b v k ++ tailW a b v ks)
def printW (op a b v:Int):List UInt8:=nameM op ++ opW a b v (readsM op)
theorem join_w (a b v:Int) (k:Rd) (ks:List Rd):Lib.join (((k :: ks).map fun r=>bS (rdW a b v r)).map (fun x:ByteArray=>x.data.toList)) [44,32]=rdW a b v k ++ tailW a b v ks:=by
 rw [List.map_cons,List.map_cons,Lib.join_cons,toS]
 congr 1
 unfold Lib.joinTail tailW
 rw [List.map_map,List.map_map,List.flatMap_def]
 congr 1
theorem rdW_len {op a b v:Int} (o:Ok1 op a b v) (k:Rd):(rdW a b v k).length≤40:=by
 have hl:=num_len o.v0 o.v1
 cases k with
 | a=>exact (show 2≤40 by omega)
 | b=>exact (show 2≤40 by omega)
 | num=>show (numW v).length≤40;omega
 | mem=>exact (show 4≤40 by omega)
 | addr =>
  show (addrW b v).length≤40
  unfold addrW
  simp only [List.length_cons,List.length_append,List.length_nil,show (regW b).length=2 from rfl]
  by_cases hp:v > 0
  ·rw [if_pos hp,List.length_cons];omega
  ·rw [if_neg hp]
   by_cases hn:v < 0
   ·rw [if_pos hn];omega
   ·rw [if_neg hn,List.length_nil];omega
 | target =>
  show (distW v).length≤40
  unfold distW
  by_cases hn:v < 0
  ·rw [if_pos hn,List.length_cons];omega
  ·rw [if_neg hn,List.length_cons,List.length_cons];omega
theorem tailW_len {op a b v:Int} (o:Ok1 op a b v):∀ ks:List Rd,(tailW a b v ks).length≤42 * ks.length
 | []=>Nat.le_refl _
 | k :: ks=>by
  have:=tailW_len o ks
  have:=rdW_len o k
  unfold tailW at *
  rw [List.flatMap_cons]
  simp only [List.length_append,List.length_cons]
  omega
theorem reads_len (op:Int):(readsM op).length≤3:=by
 unfold readsM
 repeat' split
 all_goals simp
theorem name_len (op:Int):(nameM op).length≤10:=by
 by_cases h:nameM op=[]
 ·rw [h];decide
 ·have key:∀ i:Fin 77,(nameM (i.val:Int)).length≤10:=by decide +kernel
  have:0≤op∧op≤76:=by have:=op_valid h;omega
  have:=key ⟨op.toNat,by omega⟩
  rw [show ((op.toNat:Nat):Int)=op from by omega] at this
  exact this
theorem opW_len {op a b v:Int} (o:Ok1 op a b v):(opW a b v (readsM op)).length≤130:=by
 have h3:=reads_len op
 cases h:readsM op with
 | nil=>exact Nat.zero_le _
 | cons k ks =>
  rw [h,List.length_cons] at h3
  have:=tailW_len o ks
  have:=rdW_len o k
  show (32 :: (rdW a b v k ++ tailW a b v ks)).length≤130
  simp only [List.length_append,List.length_cons]
  omega
theorem print_f {op a b v:Int} (hv:nameM op≠[]) (o:Ok1 op a b v) (hc:chkD op a b v=0) (k:Nat):insn_Print.f (k+10) op a b v=some (bS (printW op a b v),0):=by
 unfold insn_Print.f insn_kindOf.f
 rw [check_f _ _ _ _ _ (by omega),Option.bind_some,if_pos hc,Option.bind_some,words_f hv o,Option.bind_some]
 have hn:=name_len op
 have ho:=opW_len o
 unfold printW
 cases h:readsM op with
 | nil =>
  rw [if_neg (by simp)]
  simp [opW]
 | cons k ks =>
  rw [h] at ho
  have ho:(32 :: (rdW a b v k ++ tailW a b v ks)).length≤130:=ho
  rw [List.length_cons] at ho
  rw [if_pos (by simp),if_pos (by simp only [bS_len];omega)]
  unfold strings_Join.f
  have hj:=join_w a b v k ks
  rw [show (⟨#[44,32]⟩:ByteArray).data.toList=[44,32] from rfl,hj]
  have h3:=reads_len op
  rw [h] at h3
  rw [if_pos ⟨by rw [List.length_map];omega,by omega⟩,Option.bind_some]
  have e:(bS (nameM op) ++ (⟨#[32]⟩:ByteArray)) ++ (⟨(rdW a b v k ++ tailW a b v ks).toArray⟩:ByteArray)=bS (nameM op ++ opW a b v (k :: ks)):=by
   show (bS (nameM op) ++ bS [32]) ++ bS (rdW a b v k ++ tailW a b v ks)=_
   rw [bS_app,bS_app]
   simp [opW]
  have hsz:(bS (nameM op) ++ (⟨#[32]⟩:ByteArray)).size=(nameM op).length+1:=by
   rw [b1,bS_app,bS_len,List.length_append];rfl
  simp only
  rw [hsz,if_pos (by rw [show (⟨(rdW a b v k ++ tailW a b v ks).toArray⟩:ByteArray)=bS (rdW a b v k ++ tailW a b v ks) from rfl,bS_len];omega),e]
def lineZ (op a b v:Int) (labels:Bool):L9:=⟨bS (printW op a b v),(printW op a b v).length,labels,op,a,b,v,⟨#[]⟩,false⟩
theorem chk_parts {op a b v:Int} (hc:chkD op a b v=0):nameM op≠[]∧0≤a∧a≤7∧0≤b∧b≤7∧(hasA (formM op)=true∨a=0)∧(hasB (formM op)=true∨b=0)∧fitsM (formM op) v=true:=by
 unfold chkD at hc
 by_cases h:nameM op=[]
 ·rw [if_pos h] at hc;exact absurd hc (by decide)
 ·rw [if_neg h] at hc
  split at hc
  ·exact ⟨h,by assumption⟩
  ·exact absurd hc (by decide)
theorem name_facts {op:Int} (h:nameM op≠[]):opOf (nameM op)=op∧op≠0∧(∀ c∈nameM op,isWd c=true∧c≠10∧c≠58∧c≠59∧c≠46∧isBl c=false):=by
 have key:∀ i:Fin 77,nameM (i.val:Int)≠[]→opOf (nameM (i.val:Int))=(i.val:Int)∧(nameM (i.val:Int)).all (fun c=>isWd c && c != 10 && c != 58 && c != 59 && c != 46 && !isBl c)=true:=by decide +kernel
 have h1:=op_valid h
 have h2:0≤op∧op≤76:=by omega
 have e:((op.toNat:Nat):Int)=op:=by omega
 have:=key ⟨op.toNat,by omega⟩ (by simp only [e];exact h)
 simp only [e] at this
 refine ⟨this.1,by omega,fun c hc=>?_⟩
 have:=List.all_eq_true.1 this.2 c hc
 simpa [and_assoc] using this
theorem upd_fin {op a b v:Int} (hc:chkD op a b v=0) (s:ByteArray) (n:Nat) (labels:Bool):updL a b v (readsM op) ⟨s,n,labels,op,0,0,0,⟨#[]⟩,false⟩=⟨s,n,labels,op,a,b,v,⟨#[]⟩,false⟩:=by
 obtain ⟨hv,-,-,-,-,hA,hB,hF⟩:=chk_parts hc
 rcases op_valid hv with rfl | rfl | rfl | rfl | rfl | rfl | rfl | rfl | rfl | rfl | rfl | rfl | rfl | rfl | rfl | rfl | rfl | rfl | rfl | rfl | rfl | rfl | rfl | rfl | rfl | rfl | rfl | rfl | rfl | rfl | rfl | rfl | rfl | rfl | rfl
 ·have e:formM 1=0:=by decide +kernel
  rw [e] at hA hB hF
  rw [show readsM 1=[] from rfl]
  have za:a=0:=hA.resolve_left (by decide)
  have zb:b=0:=hB.resolve_left (by decide)
  have zv:v=0:=by unfold fitsM at hF;simpa [bytesM] using hF
  subst za zb zv
  rfl
 ·have e:formM 2=1:=by decide +kernel
  rw [e] at hA hB hF
  rw [show readsM 2=[Rd.a,Rd.b] from rfl]
  have zv:v=0:=by unfold fitsM at hF;simpa [bytesM] using hF
  subst zv
  rfl
 ·have e:formM 3=3:=by decide +kernel
  rw [e] at hA hB hF
  rw [show readsM 3=[Rd.a,Rd.num] from rfl]
  have zb:b=0:=hB.resolve_left (by decide)
  subst zb
  rfl
 ·have e:formM 4=4:=by decide +kernel
  rw [e] at hA hB hF
  rw [show readsM 4=[Rd.a,Rd.num] from rfl]
  have zb:b=0:=hB.resolve_left (by decide)
  subst zb
  rfl
 ·have e:formM 5=1:=by decide +kernel
  rw [e] at hA hB hF
  rw [show readsM 5=[Rd.a,Rd.b] from rfl]
  have zv:v=0:=by unfold fitsM at hF;simpa [bytesM] using hF
  subst zv
  rfl
 ·have e:formM 6=1:=by decide +kernel
  rw [e] at hA hB hF
  rw [show readsM 6=[Rd.a,Rd.b] from rfl]
  have zv:v=0:=by unfold fitsM at hF;simpa [bytesM] using hF
  subst zv
  rfl
 ·have e:formM 7=1:=by decide +kernel
  rw [e] at hA hB hF
  rw [show readsM 7=[Rd.a,Rd.b] from rfl]
  have zv:v=0:=by unfold fitsM at hF;simpa [bytesM] using hF
  subst zv
  rfl
 ·have e:formM 8=1:=by decide +kernel
  rw [e] at hA hB hF
  rw [show readsM 8=[Rd.a,Rd.b] from rfl]
  have zv:v=0:=by unfold fitsM at hF;simpa [bytesM] using hF
  subst zv
  rfl
 ·have e:formM 9=1:=by decide +kernel
  rw [e] at hA hB hF
  rw [show readsM 9=[Rd.a,Rd.b] from rfl]
  have zv:v=0:=by unfold fitsM at hF;simpa [bytesM] using hF
  subst zv
  rfl
 ·have e:formM 10=1:=by decide +kernel
  rw [e] at hA hB hF
  rw [show readsM 10=[Rd.a,Rd.b] from rfl]
  have zv:v=0:=by unfold fitsM at hF;simpa [bytesM] using hF
  subst zv
  rfl
 ·have e:formM 11=1:=by decide +kernel
  rw [e] at hA hB hF
  rw [show readsM 11=[Rd.a,Rd.b] from rfl]
  have zv:v=0:=by unfold fitsM at hF;simpa [bytesM] using hF
  subst zv
  rfl
 ·have e:formM 12=1:=by decide +kernel
  rw [e] at hA hB hF
  rw [show readsM 12=[Rd.a,Rd.b] from rfl]
  have zv:v=0:=by unfold fitsM at hF;simpa [bytesM] using hF
  subst zv
  rfl
 ·have e:formM 13=1:=by decide +kernel
  rw [e] at hA hB hF
  rw [show readsM 13=[Rd.a,Rd.b] from rfl]
  have zv:v=0:=by unfold fitsM at hF;simpa [bytesM] using hF
  subst zv
  rfl
 ·have e:formM 14=1:=by decide +kernel
  rw [e] at hA hB hF
  rw [show readsM 14=[Rd.a,Rd.b] from rfl]
  have zv:v=0:=by unfold fitsM at hF;simpa [bytesM] using hF
  subst zv
  rfl
 ·have e:formM 15=1:=by decide +kernel
  rw [e] at hA hB hF
  rw [show readsM 15=[Rd.a,Rd.b] from rfl]
  have zv:v=0:=by unfold fitsM at hF;simpa [bytesM] using hF
  subst zv
  rfl
 ·have e:formM 16=4:=by decide +kernel
  rw [e] at hA hB hF
  rw [show readsM 16=[Rd.a,Rd.num] from rfl]
  have zb:b=0:=hB.resolve_left (by decide)
  subst zb
  rfl
 ·have e:formM 17=5:=by decide +kernel
  rw [e] at hA hB hF
  rw [show readsM 17=[Rd.a,Rd.addr] from rfl]
  rfl
 ·have e:formM 18=5:=by decide +kernel
  rw [e] at hA hB hF
  rw [show readsM 18=[Rd.a,Rd.addr] from rfl]
  rfl
 ·have e:formM 19=5:=by decide +kernel
  rw [e] at hA hB hF
  rw [show readsM 19=[Rd.addr,Rd.a] from rfl]
  rfl
 ·have e:formM 20=5:=by decide +kernel
  rw [e] at hA hB hF
  rw [show readsM 20=[Rd.addr,Rd.a] from rfl]
  rfl
 ·have e:formM 21=5:=by decide +kernel
  rw [e] at hA hB hF
  rw [show readsM 21=[Rd.a,Rd.b,Rd.target] from rfl]
  rfl
 ·have e:formM 22=5:=by decide +kernel
  rw [e] at hA hB hF
  rw [show readsM 22=[Rd.a,Rd.b,Rd.target] from rfl]
  rfl
 ·have e:formM 23=5:=by decide +kernel
  rw [e] at hA hB hF
  rw [show readsM 23=[Rd.a,Rd.b,Rd.target] from rfl]
  rfl
 ·have e:formM 24=5:=by decide +kernel
  rw [e] at hA hB hF
  rw [show readsM 24=[Rd.a,Rd.b,Rd.target] from rfl]
  rfl
 ·have e:formM 25=6:=by decide +kernel
  rw [e] at hA hB hF
  rw [show readsM 25=[Rd.target] from rfl]
  have za:a=0:=hA.resolve_left (by decide)
  have zb:b=0:=hB.resolve_left (by decide)
  subst za zb
  rfl
 ·have e:formM 26=2:=by decide +kernel
  rw [e] at hA hB hF
  rw [show readsM 26=[Rd.a] from rfl]
  have zb:b=0:=hB.resolve_left (by decide)
  have zv:v=0:=by unfold fitsM at hF;simpa [bytesM] using hF
  subst zb zv
  rfl
 ·have e:formM 27=6:=by decide +kernel
  rw [e] at hA hB hF
  rw [show readsM 27=[Rd.target] from rfl]
  have za:a=0:=hA.resolve_left (by decide)
  have zb:b=0:=hB.resolve_left (by decide)
  subst za zb
  rfl
 ·have e:formM 28=2:=by decide +kernel
  rw [e] at hA hB hF
  rw [show readsM 28=[Rd.a] from rfl]
  have zb:b=0:=hB.resolve_left (by decide)
  have zv:v=0:=by unfold fitsM at hF;simpa [bytesM] using hF
  subst zb zv
  rfl
 ·have e:formM 29=0:=by decide +kernel
  rw [e] at hA hB hF
  rw [show readsM 29=[] from rfl]
  have za:a=0:=hA.resolve_left (by decide)
  have zb:b=0:=hB.resolve_left (by decide)
  have zv:v=0:=by unfold fitsM at hF;simpa [bytesM] using hF
  subst za zb zv
  rfl
 ·have e:formM 30=2:=by decide +kernel
  rw [e] at hA hB hF
  rw [show readsM 30=[Rd.a] from rfl]
  have zb:b=0:=hB.resolve_left (by decide)
  have zv:v=0:=by unfold fitsM at hF;simpa [bytesM] using hF
  subst zb zv
  rfl
 ·have e:formM 31=2:=by decide +kernel
  rw [e] at hA hB hF
  rw [show readsM 31=[Rd.a] from rfl]
  have zb:b=0:=hB.resolve_left (by decide)
  have zv:v=0:=by unfold fitsM at hF;simpa [bytesM] using hF
  subst zb zv
  rfl
 ·have e:formM 32=7:=by decide +kernel
  rw [e] at hA hB hF
  rw [show readsM 32=[Rd.a,Rd.target] from rfl]
  have zb:b=0:=hB.resolve_left (by decide)
  subst zb
  rfl
 ·have e:formM 33=8:=by decide +kernel
  rw [e] at hA hB hF
  rw [show readsM 33=[Rd.num] from rfl]
  have za:a=0:=hA.resolve_left (by decide)
  have zb:b=0:=hB.resolve_left (by decide)
  subst za zb
  rfl
 ·have e:formM 34=1:=by decide +kernel
  rw [e] at hA hB hF
  rw [show readsM 34=[Rd.a,Rd.mem] from rfl]
  have zv:v=0:=by unfold fitsM at hF;simpa [bytesM] using hF
  subst zv
  rfl
 ·have e:formM 76=0:=by decide +kernel
  rw [e] at hA hB hF
  rw [show readsM 76=[] from rfl]
  have za:a=0:=hA.resolve_left (by decide)
  have zb:b=0:=hB.resolve_left (by decide)
  have zv:v=0:=by unfold fitsM at hF;simpa [bytesM] using hF
  subst za zb zv
  rfl
theorem opW_tl (a b v:Int) (ks:List Rd):∀ c t',opW a b v ks=c :: t'→isWd c=false:=by
 intro c t' e
 cases ks with
 | nil=>cases e
 | cons k ks =>
  unfold opW at e
  rw [← (List.cons.inj e).1];decide
theorem ok1_of {op a b v:Int} (hc:chkD op a b v=0) (h0:-9223372036854775808≤v) (h1:v≤9223372036854775807):Ok1 op a b v:=by
 obtain ⟨_,h2,h3,h4,h5,_,_,h6⟩:=chk_parts hc
 exact ⟨h2,h3,h4,h5,h0,h1,h6⟩
theorem new_sk {op a b v:Int} (hv:nameM op≠[]) (labels:Bool):(L9.new (bS (printW op a b v)) labels).sk=L9.new (bS (printW op a b v)) labels:=by
 have h:Cur (L9.new (bS (printW op a b v)) labels) (printW op a b v):=⟨toS _,Nat.zero_le _⟩
 refine h.sk0 fun c t' e=>?_
 unfold printW at e
 cases hn:nameM op with
 | nil=>exact absurd hn hv
 | cons d r =>
  rw [hn,List.cons_append] at e
  rw [← (List.cons.inj e).1]
  exact ((name_facts hv).2.2 d (by rw [hn];exact List.mem_cons_self)).2.2.2.2.2
theorem instr_ok {op a b v:Int} (hc:chkD op a b v=0) (h0:-9223372036854775808≤v) (h1:v≤9223372036854775807) (labels:Bool):(L9.new (bS (printW op a b v)) labels).instr=some (lineZ op a b v labels):=by
 have hv:=(chk_parts hc).1
 have o:=ok1_of hc h0 h1
 obtain ⟨n1,n2,n3⟩:=name_facts hv
 have h:Cur (L9.new (bS (printW op a b v)) labels) (nameM op ++ opW a b v (readsM op)):=⟨toS _,Nat.zero_le _⟩
 have hr:=h.run isWd (fun c hc=>(n3 c hc).1) (opW_tl a b v _)
 have hw:=h.word
 unfold L9.instr
 rw [new_sk hv]
 have hE:(L9.new (bS (printW op a b v)) labels).mnE=0+(nameM op).length:=hr
 have hS:(L9.new (bS (printW op a b v)) labels).mnS.data.toList=nameM op:=by unfold L9.mnS;rw [hE];exact hw
 have hmn:(L9.new (bS (printW op a b v)) labels).mn=⟨bS (printW op a b v),0+(nameM op).length,labels,op,0,0,0,⟨#[]⟩,false⟩:=by
  unfold L9.mn
  rw [hS,hE,n1]
  rfl
 rw [hmn]
 rw [if_neg n2]
 have hcur:Cur ⟨bS (printW op a b v),0+(nameM op).length,labels,op,0,0,0,⟨#[]⟩,false⟩ (opW a b v (readsM op)):=h.adv.set rfl rfl
 have hlen:=hcur.len
 have hlen:0+(nameM op).length+(opW a b v (readsM op)).length=(printW op a b v).length:=by rw [← bS_len (printW op a b v)];exact hlen
 have hpart:L9.part 0 (readsM op) ⟨bS (printW op a b v),0+(nameM op).length,labels,op,0,0,0,⟨#[]⟩,false⟩=some (lineZ op a b v labels):=by
  have hu:=upd_fin hc (bS (printW op a b v)) (0+(nameM op).length) labels
  cases hk:readsM op with
  | nil =>
   rw [hk] at hu hlen
   have hu:(⟨bS (printW op a b v),0+(nameM op).length,labels,op,0,0,0,⟨#[]⟩,false⟩:L9)=_:=hu
   have hlen:0+(nameM op).length+0=(printW op a b v).length:=hlen
   unfold L9.part
   rw [hu]
   unfold lineZ
   rw [← hlen]
   rfl
  | cons k ks =>
   rw [hk] at hu hlen hcur
   have hcur:Cur ⟨bS (printW op a b v),0+(nameM op).length,labels,op,0,0,0,⟨#[]⟩,false⟩ (32 :: (rdW a b v k ++ tailW a b v ks)):=hcur
   obtain ⟨s1,s2⟩:=hcur.sk1 (rdW_bl a b v k _)
   unfold L9.part
   simp only
   rw [s1,s2,if_pos rfl]
   have h2:=hcur.mv1
   rw [run_ok (op:=op) k o rfl (fun _=>rfl) h2 (tailW_tl a b v ks)]
   simp only
   have u:=upd_s a b v k (mv (mv ⟨bS (printW op a b v),0+(nameM op).length,labels,op,0,0,0,⟨#[]⟩,false⟩ 1) (rdW a b v k).length)
   have h4:=h2.adv.set u.1 u.2.1
   rw [rest_ok o ks _ (u.2.2.1.trans rfl) (u.2.2.2 (fun _=>rfl)) h4,u.2.1]
   congr 1
   show (updL a b v ks (upd a b v k (L9.go ⟨bS (printW op a b v),0+(nameM op).length,labels,op,0,0,0,⟨#[]⟩,false⟩ _))).go _=_
   rw [upd_go,updL_go]
   have hu:updL a b v ks (upd a b v k ⟨bS (printW op a b v),0+(nameM op).length,labels,op,0,0,0,⟨#[]⟩,false⟩)=_:=hu
   rw [hu]
   unfold lineZ
   have hlen:0+(nameM op).length+(32 :: (rdW a b v k ++ tailW a b v ks)).length=(printW op a b v).length:=hlen
   rw [List.length_cons,List.length_append] at hlen
   show L9.mk _ _ _ _ _ _ _ _ _=L9.mk _ _ _ _ _ _ _ _ _
   congr 1
   show 0+(nameM op).length+1+(rdW a b v k).length+(tailW a b v ks).length=_
   omega
 rw [hpart]
 simp only
 have hend:Cur (lineZ op a b v labels) []:=⟨by
  show (bS (printW op a b v)).data.toList.drop (printW op a b v).length=[]
  rw [toS,List.drop_length],by show (printW op a b v).length≤(bS (printW op a b v)).size;rw [bS_len];exact Nat.le_refl _⟩
 unfold L9.fin
 rw [hend.sk0 (fun c t' e=>by cases e)]
 exact if_pos (by show (printW op a b v).length=(bS (printW op a b v)).size;rw [bS_len])
def gd (c:UInt8):Bool:=c != 10 && c != 58 && c != 59
theorem num_gd (v:Int):∀ c∈numW v,gd c=true:=by
 have key:∀ c:UInt8,isDig c=true→gd c=true:=u8_all _ (by decide +kernel)
 intro c hc
 by_cases hn:v < 0
 ·rw [num_neg hn] at hc
  rcases List.mem_cons.1 hc with rfl | hc
  ·decide
  ·exact key c (dec_dig _ _ (Nat.le_refl _) c hc)
 ·rw [num_pos hn] at hc
  exact key c (dec_dig _ _ (Nat.le_refl _) c hc)
theorem reg_gd {x:Int} (h0:0≤x) (h7:x≤7):∀ c∈regW x,gd c=true:=by
 have key:∀ x:Fin 8,([114,UInt8.ofNat (48+x.val)]:List UInt8).all gd=true:=by decide
 exact List.all_eq_true.1 (key ⟨x.toNat,by omega⟩)
theorem rdW_gd {op a b v:Int} (o:Ok1 op a b v) (k:Rd):∀ c∈rdW a b v k,gd c=true:=by
 intro c hc
 cases k with
 | a=>exact reg_gd o.a0 o.a7 c hc
 | b=>exact reg_gd o.b0 o.b7 c hc
 | num=>exact num_gd v c hc
 | mem =>
  have hc:c∈91 :: (regW b ++ [93]):=hc
  simp only [List.mem_cons,List.mem_append,List.not_mem_nil,or_false] at hc
  rcases hc with rfl | hc | rfl
  ·decide
  ·exact reg_gd o.b0 o.b7 c hc
  ·decide
 | addr =>
  have hc:c∈91 :: (regW b ++ ((if v > 0 then 43 :: numW v else if v < 0 then numW v else []) ++ [93])):=hc
  simp only [List.mem_cons,List.mem_append,List.not_mem_nil,or_false] at hc
  rcases hc with rfl | hc | hc | rfl
  ·decide
  ·exact reg_gd o.b0 o.b7 c hc
  ·by_cases hp:v > 0
   ·rw [if_pos hp] at hc
    rcases List.mem_cons.1 hc with rfl | hc
    ·decide
    ·exact num_gd v c hc
   ·rw [if_neg hp] at hc
    by_cases hn:v < 0
    ·rw [if_pos hn] at hc;exact num_gd v c hc
    ·rw [if_neg hn] at hc;exact absurd hc List.not_mem_nil
  ·decide
 | target =>
  have hc:c∈distW v:=hc
  unfold distW at hc
  by_cases hn:v < 0
  ·rw [if_pos hn] at hc
   rcases List.mem_cons.1 hc with rfl | hc
   ·decide
   ·exact num_gd v c hc
  ·rw [if_neg hn] at hc
   rcases List.mem_cons.1 hc with rfl | hc
   ·decide
   ·rcases List.mem_cons.1 hc with rfl | hc
    ·decide
    ·exact num_gd v c hc
theorem print_gd {op a b v:Int} (hv:nameM op≠[]) (o:Ok1 op a b v):∀ c∈printW op a b v,gd c=true:=by
 intro c hc
 unfold printW at hc
 rcases List.mem_append.1 hc with hc | hc
 ·obtain ⟨_,h1,h2,h3,_,_⟩:=(name_facts hv).2.2 c hc
  unfold gd
  simp [h1,h2,h3]
 ·cases hk:readsM op with
  | nil=>rw [hk] at hc;cases hc
  | cons k ks =>
   rw [hk] at hc
   have hc:c∈32 :: (rdW a b v k ++ tailW a b v ks):=hc
   rcases List.mem_cons.1 hc with rfl | hc
   ·decide
   ·rcases List.mem_append.1 hc with hc | hc
    ·exact rdW_gd o k c hc
    ·unfold tailW at hc
     obtain ⟨r,hr,hc⟩:=List.mem_flatMap.1 hc
     rcases List.mem_cons.1 hc with rfl | hc
     ·decide
     ·rcases List.mem_cons.1 hc with rfl | hc
      ·decide
      ·exact rdW_gd o r c hc
theorem no_byte {l:List UInt8} (h:∀ c∈l,gd c=true) (d:UInt8) (hd:gd d=false):∀ k:Nat,l[k]?≠some d:=by
 intro k e
 have:=h d (List.mem_of_getElem? e)
 rw [hd] at this
 cases this
theorem cutZ_id {s:ByteArray} (h:∀ k:Nat,s.data.toList[k]?≠some 59):cutZ s=s:=by
 have hi:Lib.index s.data.toList [59]=-1:=by
  rw [Lib.index_one]
  have h1:=Lib.indexByte_ge s.data.toList 59
  by_cases h2:Lib.indexByte s.data.toList 59=-1
  ·exact h2
  ·obtain ⟨o,ho⟩:∃ o:Nat,Lib.indexByte s.data.toList 59=(o:Int):=⟨(Lib.indexByte s.data.toList 59).toNat,by omega⟩
   exact absurd (Lib.indexByte_some ho).1 (h o)
 unfold cutZ Lib.cut
 rw [hi,if_neg (by decide)]
theorem row_first (z:Az) (no:Nat) {s:ByteArray} (h58:∀ k:Nat,s.data.toList[k]?≠some 58) (h46:s.data.toList[0]?≠some 46) (hsk:(L9.new s true).sk=L9.new s true) (hne:s.size≠0) :
  z.row no s=match (L9.new s true).instr with | none=>.error 22 | some li=>Az.push { z with no:=no } li:=by
 have hnm:(L9.new s true).nm=(⟨#[]⟩,L9.new s true):=by
  unfold L9.nm
  rw [hsk]
  by_cases h1:nameB (L9.new s true).wdS=true
  ·rw [if_pos h1]
   by_cases h2:(L9.new s true).wdL.sk.hit 58=true
   ·exact absurd (hit_get (by decide) h2) (h58 _)
   ·rw [if_neg h2]
  ·rw [if_neg h1]
 have hpre:(L9.new s true).pre=false:=by
  cases hp:(L9.new s true).pre with
  | false=>rfl
  | true =>
   unfold L9.pre Lib.hasPrefix at hp
   rw [List.isPrefixOf_iff_prefix] at hp
   obtain ⟨r,hr⟩:=hp
   rw [Q.ext_toL] at hr
   have h1:(funcL ++ r)[0]?=some 46:=rfl
   rw [hr,List.getElem?_take] at h1
   split at h1
   ·rw [List.getElem?_drop] at h1;exact absurd h1 h46
   ·cases h1
 have hd:(L9.new s true).dir=some (none,L9.new s true):=by
  unfold L9.dir
  rw [if_neg (by rw [hpre];decide)]
 unfold Az.row
 simp only [hnm]
 rw [if_pos (show (⟨#[]⟩:ByteArray).size=0 from rfl),hsk,hd]
 simp only
 unfold Az.rest
 rw [if_neg (show ¬ (L9.new s true).at_=(L9.new s true).s.size from fun e=>hne e.symm)]
 cases (L9.new s true).instr with
 | none=>rfl
 | some li =>
  simp only
  unfold Az.def_
  rw [if_pos (show (⟨#[]⟩:ByteArray).size=0 from rfl)]
end Go.Proofs.YtffojmgmpfjlhaaGreatDoor.Q
namespace Go.Proofs.YtffojmgmpfjlhaaGreatDoor.Q
open Go.Proofs.Ix hiding rd
open Go.Proofs.YtffojmgmpfjlhaaGreatDoor Go.RowKit Go.Proofs.YtffojmgmpfjlhaaGreatDoorW.PrintWords
theorem ofInt_nat (v:Int):((BitVec.ofInt 64 v).toNat:Int)=v % 18446744073709551616:=by
 rw [BitVec.toNat_ofInt]
 omega
theorem and7 (v:Int):Go.bits .and .i64 v 127=v % 128:=by
 show IntKind.i64.wrap ((BitVec.ofInt 64 v &&& BitVec.ofInt 64 127).toNat:Int)=_
 have e:(BitVec.ofInt 64 127).toNat=2 ^ 7 - 1:=by decide
 rw [BitVec.toNat_and,e,Nat.and_two_pow_sub_one_eq_mod,Go.Proofs.YtffojmgmpfjlhaaGreatDoorW.PrintLast.i64_w]
 have:=ofInt_nat v
 simp only [wrap64]
 omega
theorem or7 (x b:Int) (hx:x % 128=0) (hb0:0≤b) (hb:b < 128) (h1:-9223372036854775808≤x) (h2:x < 9223372036854775808):Go.bits .or .i64 x b=x+b:=by
 show IntKind.i64.wrap ((BitVec.ofInt 64 x ||| BitVec.ofInt 64 b).toNat:Int)=_
 have ex:=ofInt_nat x
 have eb:=ofInt_nat b
 rw [BitVec.toNat_or,Go.Proofs.YtffojmgmpfjlhaaGreatDoorW.PrintLast.i64_w]
 generalize (BitVec.ofInt 64 x).toNat=X at ex ⊢
 generalize (BitVec.ofInt 64 b).toNat=B at eb ⊢
 have hB:B < 2 ^ 7:=by omega
 obtain ⟨a,rfl⟩:∃ a,X=2 ^ 7 * a:=⟨X / 128,by omega⟩
 rw [← Nat.two_pow_add_eq_or_of_lt hB]
 simp only [wrap64]
 omega
def sh (v:Int):Nat→Int
 | 0=>v
 | i+1=>sh v i / 128
theorem sh_rng (v:Int) (h1:-9223372036854775808≤v) (h2:v < 9223372036854775808):∀ i,-9223372036854775808≤sh v i∧sh v i < 9223372036854775808
 | 0=>⟨h1,h2⟩
 | i+1=>by
  have:=sh_rng v h1 h2 i
  show _≤sh v i / 128∧sh v i / 128 < _
  omega
theorem sh_left (v:Int):∀ i,sh (v / 128) i=sh v (i+1)
 | 0=>rfl
 | i+1=>by
  show sh (v / 128) i / 128=sh v (i+1) / 128
  rw [sh_left v i]
theorem orF_sh (bs:List Int) (v:Int) (h1:-9223372036854775808≤v) (h2:v < 9223372036854775808):∀ (k:Nat),(∀ j:Nat,j < k→rd bs (j:Int)=sh v j % 128)→orF bs (sh v k) k=v
 | 0,_=>rfl
 | k+1,hb=>by
  have hr:=sh_rng v h1 h2 k
  have hk:=hb k (by omega)
  show orF bs (Go.bits .or .i64 (wrap64 (sh v k / 128 * 128)) (wrap64 (rd bs (k:Int)))) k=v
  rw [hk,show wrap64 (sh v k / 128 * 128)=sh v k / 128 * 128 from by simp only [wrap64];omega,show wrap64 (sh v k % 128)=sh v k % 128 from by simp only [wrap64];omega,or7 _ _ (by omega) (by omega) (by omega) (by omega) (by omega),
   show sh v k / 128 * 128+sh v k % 128=sh v k by omega]
  exact orF_sh bs v h1 h2 k fun j hj=>hb j (Nat.lt_succ_of_lt hj)
theorem immI_rd:∀ (k:Nat) (v:Int) (j:Nat),j < k→rd (immI k v) (j:Int)=sh v j % 128
 | 0,v,j,h=>by omega
 | k+1,v,0,h=>by
  show rd (((Go.bits .and .i64 v 127) % 256) :: immI k (v / 128)) ((0:Nat):Int)=v % 128
  rw [and7]
  show v % 128 % 256=v % 128
  omega
 | k+1,v,j+1,h=>by
  have:=immI_rd k (v / 128) j (by omega)
  rw [← sh_left,← this]
  unfold rd
  rw [Int.toNat_natCast,Int.toNat_natCast]
  rfl
theorem orF_imm (k:Nat) (v:Int) (h1:-9223372036854775808≤v) (h2:v < 9223372036854775808):orF (immI k v) (sh v k) k=v:=orF_sh _ v h1 h2 k fun j hj=>immI_rd k v j hj
theorem start_sh (f v:Int) (hf:fitsM f v=true) (h1:-9223372036854775808≤v) (h2:v < 9223372036854775808):startD f (immI (bytesM f) v)=sh v (bytesM f):=by
 unfold startD
 rw [immI_len]
 unfold fitsM at hf
 by_cases h8:f=8
 ·subst h8
  rw [if_pos rfl]
  rw [if_neg (by decide),if_pos rfl] at hf
  simp at hf
  show 0=v / 128
  omega
 rw [if_neg h8]
 by_cases h3:f=3
 ·subst h3
  rw [if_neg (by decide)]
  have e:rd (immI (bytesM 3) v) (((bytesM 3:Nat):Int) - 1)=sh v 9 % 128:=immI_rd 10 v 9 (by omega)
  rw [e]
  show (if sh v 9 % 128≥64 then -1 else 0)=sh v 9 / 128
  have hq:sh v 9=v / 9223372036854775808:=by
   simp only [sh]
   omega
  rw [hq]
  split <;> omega
 rw [if_neg h3,if_neg h8] at hf
 rcases bytes_in f with e | e | e | e
 ·rw [e,if_pos rfl] at hf
  simp at hf
  rw [e,if_pos rfl,hf]
  rfl
 ·rw [e,if_neg (by decide),if_pos rfl] at hf
  simp at hf
  rw [e,if_neg (by decide)]
  have e2:rd (immI 1 v) (((1:Nat):Int) - 1)=sh v 0 % 128:=immI_rd 1 v 0 (by omega)
  rw [e2]
  show (if v % 128≥64 then -1 else 0)=v / 128
  split <;> omega
 ·rw [e,if_neg (by decide),if_neg (by decide)] at hf
  simp at hf
  rw [e,if_neg (by decide)]
  have e2:rd (immI 2 v) (((2:Nat):Int) - 1)=sh v 1 % 128:=immI_rd 2 v 1 (by omega)
  rw [e2]
  show (if v / 128 % 128≥64 then -1 else 0)=v / 128 / 128
  split <;> omega
 ·exact absurd (bytes_ten.2.1 e) h3
theorem scan_imm (l:List Int) (f v:Int) (i0 k:Nat) (h1:-9223372036854775808≤v) (h2:v < 9223372036854775808) (hk:f=3→k=10) (hl:i0+k≤l.length) (hb:∀ j:Nat,j < k→rd l ((i0+j:Nat):Int)=sh v j % 128) :
  ∀ (d j:Nat),j+d=k→scanD l f (i0+j) d=0
 | 0,j,_=>by unfold scanD;rfl
 | d+1,j,h=>by
  have hr:=hb j (by omega)
  unfold scanD
  rw [if_neg (by omega),hr,if_neg (by omega),if_neg ?_]
  ·exact scan_imm l f v i0 k h1 h2 hk hl hb d (j+1) (by omega)
  ·rintro ⟨h3,hd,n0,n7⟩
   have:=hk h3
   have hj:j=9:=by omega
   subst hj
   have hq:sh v 9=v / 9223372036854775808:=by
    simp only [sh]
    omega
   rw [hq] at n0 n7
   omega
theorem fin_imm (pre rest:List Int) (f op a b v:Int) (i0 n:Nat) (hp:pre.length=i0) (hn:n=i0+bytesM f) (hf:fitsM f v=true) (h1:-9223372036854775808≤v) (h2:v < 9223372036854775808) :
  finD (pre ++ (immI (bytesM f) v ++ rest)) f op a b i0 n=(op,a,b,v,(n:Int),0):=by
 have hrd:∀ j:Nat,j < bytesM f→rd (pre ++ (immI (bytesM f) v ++ rest)) ((i0+j:Nat):Int)=sh v j % 128:=by
  intro j hj
  rw [← immI_rd (bytesM f) v j hj]
  unfold rd
  rw [Int.toNat_natCast,Int.toNat_natCast,← hp]
  have hnl:¬ (pre.length+j < pre.length):=by omega
  simp [List.getD,List.getElem?_append,immI_len,hj,hnl]
 have hs:sliceD (pre ++ (immI (bytesM f) v ++ rest)) i0 n=immI (bytesM f) v:=by
  unfold sliceD
  have:=immI_len (bytesM f) v
  rw [hn,← hp,List.take_append,List.take_of_length_le (by omega),Nat.add_sub_cancel_left,List.drop_left,List.take_append,this,Nat.sub_self,List.take_of_length_le (by omega)]
  simp
 have hsc:scanD (pre ++ (immI (bytesM f) v ++ rest)) f i0 (n - i0)=0:=by
  have:=scan_imm (pre ++ (immI (bytesM f) v ++ rest)) f v i0 (bytesM f) h1 h2 (fun h=>bytes_ten.2.2 h) (by simp [immI_len];omega) hrd (bytesM f) 0 (by omega)
  rw [show n - i0=bytesM f by omega]
  exact this
 unfold finD
 rw [if_pos hsc,hs,start_sh f v hf h1 h2,show n - i0=bytesM f by omega,orF_imm _ _ h1 h2]
theorem rd_one (x y:Int) (t:List Int):rd (x :: y :: t) 1=y:=rfl
theorem dec_enc (op a b imm:Int) (rest:List Int) (hc:chkD op a b imm=0) (h1:-9223372036854775808≤imm) (h2:imm < 9223372036854775808):decD (encI op a b imm ++ rest)=(op,a,b,imm,((encI op a b imm).length:Int),0):=by
 have hn:=chk_name hc
 have ho:0≤op∧op < 77:=by
  by_cases h:op < 0∨77≤op
  ·exact absurd (name_out op h) hn
  ·omega
 unfold chkD at hc
 rw [if_neg hn] at hc
 have hh:0≤a∧a≤7∧0≤b∧b≤7∧(hasA (formM op)=true∨a=0)∧(hasB (formM op)=true∨b=0)∧fitsM (formM op) imm=true:=by
  by_cases h:0≤a∧a≤7∧0≤b∧b≤7∧(hasA (formM op)=true∨a=0)∧(hasB (formM op)=true∨b=0)∧fitsM (formM op) imm=true
  ·exact h
  ·rw [if_neg h] at hc;exact absurd hc (by decide)
 obtain ⟨a0,a7,b0,b7,hA,hB,hf⟩:=hh
 have e0:wrap64 (128+op) % 256=128+op:=by simp only [wrap64];omega
 have hop:∀ t:List Int,opD ((128+op) :: t)=op:=by
  intro t
  show wrap64 (wrap64 (128+op) - 128)=op
  simp only [wrap64];omega
 unfold encI
 rw [e0]
 by_cases cB:hasB (formM op)=true
 ·have cA:hasA (formM op)=true:=by
   unfold hasA hasB at *
   simp at cB ⊢
   omega
  have e1:wrap64 (wrap64 (8 * a)+b) % 256=8 * a+b:=by simp only [wrap64];omega
  rw [if_pos cB,e1]
  have hfin:=fin_imm [128+op,8 * a+b] rest (formM op) op (wrap64 (Int.tdiv (wrap64 (8 * a+b)) 8)) (Int.tmod (wrap64 (8 * a+b)) 8) imm 2 (lenM (formM op)) rfl (by rw [lenM_eq,if_pos cA];omega) hf h1 h2
  show decD ((128+op) :: ((8 * a+b) :: (immI (bytesM (formM op)) imm ++ rest)))=_
  unfold decD
  rw [hop,if_neg (by simp),if_neg hn,if_pos cA,if_neg (by simp),if_pos cB,rd_one,if_neg (show ¬ (8 * a+b≥64) by omega),if_pos cB]
  refine hfin.trans ?_
  have q1:wrap64 (Int.tdiv (wrap64 (8 * a+b)) 8)=a:=by
   rw [show wrap64 (8 * a+b)=8 * a+b from by simp only [wrap64];omega,Int.tdiv_eq_ediv_of_nonneg (by omega)]
   simp only [wrap64];omega
  have q2:Int.tmod (wrap64 (8 * a+b)) 8=b:=by
   rw [show wrap64 (8 * a+b)=8 * a+b from by simp only [wrap64];omega,Int.tmod_eq_emod_of_nonneg (by omega)]
   omega
  rw [q1,q2,lenM_eq,if_pos cA]
  simp [immI_len]
  omega
 ·have hb0:b=0:=hB.resolve_left cB
  subst hb0
  rw [if_neg cB]
  by_cases cA:hasA (formM op)=true
  ·rw [if_pos cA,show a % 256=a by omega]
   have hfin:=fin_imm [128+op,a] rest (formM op) op (wrap64 a) 0 imm 2 (lenM (formM op)) rfl (by rw [lenM_eq,if_pos cA];omega) hf h1 h2
   show decD ((128+op) :: (a :: (immI (bytesM (formM op)) imm ++ rest)))=_
   unfold decD
   rw [hop,if_neg (by simp),if_neg hn,if_pos cA,if_neg (by simp),if_neg cB,rd_one,if_neg (show ¬ (a≥8) by omega),if_neg cB]
   refine hfin.trans ?_
   rw [show wrap64 a=a from by simp only [wrap64];omega,lenM_eq,if_pos cA]
   simp [immI_len]
   omega
  ·have ha0:a=0:=hA.resolve_left cA
   subst ha0
   rw [if_neg cA]
   have hfin:=fin_imm [128+op] rest (formM op) op 0 0 imm 1 (lenM (formM op)) rfl (by rw [lenM_eq,if_neg cA];omega) hf h1 h2
   show decD ((128+op) :: (immI (bytesM (formM op)) imm ++ rest))=_
   unfold decD
   rw [hop,if_neg (by simp),if_neg hn,if_neg cA]
   refine hfin.trans ?_
   rw [lenM_eq,if_neg cA]
   simp [immI_len]
   omega
theorem orF_back (bs:List Int):∀ (k:Nat) (s:Int),(∀ j:Nat,j < k→0≤rd bs (j:Int)∧rd bs (j:Int) < 128)→-9223372036854775808≤s * 128 ^ k→(s+1) * 128 ^ k≤9223372036854775808 →
  sh (orF bs s k) k=s∧(∀ j:Nat,j < k→sh (orF bs s k) j % 128=rd bs (j:Int))∧-9223372036854775808≤orF bs s k∧orF bs s k < 9223372036854775808
 | 0,s,_,h1,h2=>by
  have h3:s+1≤9223372036854775808:=by simpa using h2
  have h4:-9223372036854775808≤s:=by simpa using h1
  exact ⟨rfl,fun j hj=>by omega,h4,show s < 9223372036854775808 by omega⟩
 | k+1,s,hb,h1,h2=>by
  have hk:=hb k (by omega)
  have hp:(1:Int)≤128 ^ k:=by
   have:=Int.pow_pos (n:=128) (m:=k) (by omega)
   omega
  rw [Int.pow_succ] at h1 h2
  have hs1:s * (128 ^ k * 128)=(s * 128) * 128 ^ k:=by rw [Int.mul_comm (128 ^ k) 128,Int.mul_assoc]
  have hs2:(s+1) * (128 ^ k * 128)=(s * 128+128) * 128 ^ k:=by rw [Int.mul_comm (128 ^ k) 128,← Int.mul_assoc,Int.add_mul,Int.one_mul]
  rw [hs1] at h1
  rw [hs2] at h2
  have b1:(s * 128) * 128 ^ k≤(s * 128+rd bs (k:Int)) * 128 ^ k:=Int.mul_le_mul_of_nonneg_right (by omega) (by omega)
  have b2:(s * 128+rd bs (k:Int)+1) * 128 ^ k≤(s * 128+128) * 128 ^ k:=Int.mul_le_mul_of_nonneg_right (by omega) (by omega)
  have l1:-9223372036854775808≤s * 128:=by
   by_cases c:s * 128 < -9223372036854775808
   ·have:(s * 128) * 128 ^ k≤(s * 128) * 1:=Int.mul_le_mul_of_nonpos_left (by omega) hp
    omega
   ·omega
  have l2:s * 128+128≤9223372036854775808:=by
   by_cases c:s * 128+128 > 9223372036854775808
   ·have:(s * 128+128) * 1≤(s * 128+128) * 128 ^ k:=Int.mul_le_mul_of_nonneg_left hp (by omega)
    omega
   ·omega
  have e:orF bs s (k+1)=orF bs (s * 128+rd bs (k:Int)) k:=by
   show orF bs (Go.bits .or .i64 (wrap64 (s * 128)) (wrap64 (rd bs (k:Int)))) k=_
   rw [show wrap64 (s * 128)=s * 128 from by simp only [wrap64];omega,show wrap64 (rd bs (k:Int))=rd bs (k:Int) from by simp only [wrap64];omega,or7 _ _ (by omega) hk.1 hk.2 (by omega) (by omega)]
  obtain ⟨g1,g2,g3,g4⟩:=orF_back bs k (s * 128+rd bs (k:Int)) (fun j hj=>hb j (by omega)) (by omega) (by omega)
  rw [e]
  refine ⟨?_,fun j hj=>?_,g3,g4⟩
  ·show sh _ k / 128=s
   rw [g1];omega
  ·by_cases c:j=k
   ·subst c;rw [g1];omega
   ·exact g2 j (by omega)
theorem scan_low (l:List Int) (f:Int):∀ (d i:Nat),scanD l f i d=0→∀ j,i≤j→j < i+d→rd l (j:Int) < 128
 | 0,i,_,j,h1,h2=>by omega
 | d+1,i,hs,j,h1,h2=>by
  unfold scanD at hs
  by_cases c1:i=l.length
  ·rw [if_pos c1] at hs;omega
  ·rw [if_neg c1] at hs
   by_cases c2:rd l (i:Int)≥128
   ·rw [if_pos c2] at hs;omega
   ·rw [if_neg c2] at hs
    by_cases h3:f=3∧d=0∧rd l (i:Int)≠0∧rd l (i:Int)≠127
    ·rw [if_pos h3] at hs;omega
    ·rw [if_neg h3] at hs
     by_cases e:j=i
     ·subst e;omega
     ·exact scan_low l f d (i+1) hs j (by omega) (by omega)
theorem fin_ok {l:List Int} {f op a b:Int} {i n:Nat} (h:(finD l f op a b i n).2.2.2.2.2=0):scanD l f i (n - i)=0∧(finD l f op a b i n).2.2.2.2.1=(n:Int):=by
 unfold finD at h ⊢
 by_cases c:scanD l f i (n - i)=0
 ·rw [if_pos c];exact ⟨c,rfl⟩
 ·rw [if_neg c] at h;exact absurd h c
theorem dec_ok {l:List Int} (h:(decD l).2.2.2.2.2=0):∃ n:Nat,(decD l).2.2.2.2.1=(n:Int)∧1≤n∧n≤12∧n≤l.length∧∀ j:Nat,1≤j→j < n→rd l (j:Int) < 128:=by
 unfold decD at h ⊢
 by_cases c0:l.length=0
 ·rw [if_pos c0] at h;exact absurd h (by decide)
 rw [if_neg c0] at h ⊢
 by_cases c1:nameM (opD l)=[]
 ·rw [if_pos c1] at h;exact absurd h (by decide)
 rw [if_neg c1] at h ⊢
 have hb:=lenM_bd (formM (opD l))
 by_cases cA:hasA (formM (opD l))=true
 ·rw [if_pos cA] at h ⊢
  have h2:=lenM_A cA
  by_cases c2:l.length=1
  ·rw [if_pos c2] at h;exact absurd h (by decide)
  rw [if_neg c2] at h ⊢
  by_cases cB:hasB (formM (opD l))=true
  ·rw [if_pos cB,if_pos cB] at h ⊢
   by_cases c3:rd l 1≥64
   ·rw [if_pos c3] at h;exact absurd h (by decide)
   rw [if_neg c3] at h ⊢
   obtain ⟨hs,hn⟩:=fin_ok h
   refine ⟨_,hn,hb.1,hb.2,by have:=scan_len _ _ _ _ hs (by omega);omega,fun j h1 hj=>?_⟩
   by_cases e:j=1
   ·subst e;show rd l 1 < 128;omega
   ·exact scan_low _ _ _ _ hs j (by omega) (by omega)
  ·rw [if_neg cB,if_neg cB] at h ⊢
   by_cases c3:rd l 1≥8
   ·rw [if_pos c3] at h;exact absurd h (by decide)
   rw [if_neg c3] at h ⊢
   obtain ⟨hs,hn⟩:=fin_ok h
   refine ⟨_,hn,hb.1,hb.2,by have:=scan_len _ _ _ _ hs (by omega);omega,fun j h1 hj=>?_⟩
   by_cases e:j=1
   ·subst e;show rd l 1 < 128;omega
   ·exact scan_low _ _ _ _ hs j (by omega) (by omega)
 ·rw [if_neg cA] at h ⊢
  obtain ⟨hs,hn⟩:=fin_ok h
  exact ⟨_,hn,hb.1,hb.2,by have:=scan_len _ _ _ _ hs (by omega);omega,fun j h1 hj=>scan_low _ _ _ _ hs j (by omega) (by omega)⟩
theorem scan_last (l:List Int):∀ (d i:Nat),scanD l 3 i (d+1)=0→rd l ((i+d:Nat):Int)=0∨rd l ((i+d:Nat):Int)=127
 | 0,i,h=>by
  unfold scanD at h
  by_cases c1:i=l.length
  ·rw [if_pos c1] at h;omega
  rw [if_neg c1] at h
  by_cases c2:rd l (i:Int)≥128
  ·rw [if_pos c2] at h;omega
  rw [if_neg c2] at h
  by_cases c3:(3:Int)=3∧0=0∧rd l (i:Int)≠0∧rd l (i:Int)≠127
  ·rw [if_pos c3] at h;omega
  ·show rd l (i:Int)=0∨rd l (i:Int)=127
   omega
 | d+1,i,h=>by
  unfold scanD at h
  by_cases c1:i=l.length
  ·rw [if_pos c1] at h;omega
  rw [if_neg c1] at h
  by_cases c2:rd l (i:Int)≥128
  ·rw [if_pos c2] at h;omega
  rw [if_neg c2,if_neg (by omega)] at h
  have:=scan_last l d (i+1) h
  rw [show i+(d+1)=i+1+d by omega]
  exact this
theorem ext_rd (a b:List Int) (h:a.length=b.length) (hr:∀ j:Nat,j < a.length→rd a (j:Int)=rd b (j:Int)):a=b:=by
 apply List.ext_getElem h
 intro j h1 h2
 have:=hr j h1
 unfold rd at this
 rw [Int.toNat_natCast] at this
 simpa [List.getD,h1,h2] using this
theorem imm_back (l:List Int) (hb:Byt l) (f:Int) (i0:Nat) (hs:scanD l f i0 (bytesM f)=0) (hl:i0+bytesM f≤l.length) :
  ∃ v,orF (sliceD l i0 (i0+bytesM f)) (startD f (sliceD l i0 (i0+bytesM f))) (bytesM f)=v∧fitsM f v=true∧immI (bytesM f) v=sliceD l i0 (i0+bytesM f):=by
 have hlen:(sliceD l i0 (i0+bytesM f)).length=bytesM f:=by simp [sliceD];omega
 have hrd:∀ j:Nat,j < bytesM f→rd (sliceD l i0 (i0+bytesM f)) (j:Int)=rd l ((i0+j:Nat):Int):=by
  intro j hj
  unfold sliceD
  rw [rd_drop]
  unfold rd
  rw [Int.toNat_natCast]
  simp [List.getD,List.getElem?_take,hj]
 have hlow:∀ j:Nat,j < bytesM f→0≤rd (sliceD l i0 (i0+bytesM f)) (j:Int)∧rd (sliceD l i0 (i0+bytesM f)) (j:Int) < 128:=by
  intro j hj
  rw [hrd j hj]
  exact ⟨(hb.at (by omega)).1,scan_low l f _ _ hs _ (by omega) (by omega)⟩
 have hlast:f=3→rd (sliceD l i0 (i0+bytesM f)) ((9:Nat):Int)=0∨rd (sliceD l i0 (i0+bytesM f)) ((9:Nat):Int)=127:=by
  intro h3
  subst h3
  rw [hrd 9 (by decide)]
  exact scan_last l 9 i0 hs
 generalize sliceD l i0 (i0+bytesM f)=bs at *
 refine ⟨_,rfl,?_⟩
 have fin:∀ v,(∀ j:Nat,j < bytesM f→sh v j % 128=rd bs (j:Int))→immI (bytesM f) v=bs:=by
  intro v h
  refine ext_rd _ _ (by rw [immI_len,hlen]) fun j hj=>?_
  rw [immI_len] at hj
  rw [immI_rd _ _ _ hj,h j hj]
 unfold fitsM startD
 rw [hlen]
 by_cases h3:f=3
 ·subst h3
  rw [if_pos rfl,if_neg (by decide),if_neg (by decide)]
  refine ⟨rfl,?_⟩
  have h9:=hlow 9 (by decide)
  have e9:(((bytesM 3:Nat):Int) - 1)=((9:Nat):Int):=by decide
  rw [e9]
  have key:∀ s:Int,s * 128+rd bs ((9:Nat):Int)=s→-1≤s→s≤0→immI (bytesM 3) (orF bs s (bytesM 3))=bs:=by
   intro s he hs1 hs0
   have eo:orF bs s (bytesM 3)=orF bs s 9:=by
    show orF bs (Go.bits .or .i64 (wrap64 (s * 128)) (wrap64 (rd bs ((9:Nat):Int)))) 9=_
    rw [show wrap64 (s * 128)=s * 128 from by simp only [wrap64];omega,show wrap64 (rd bs ((9:Nat):Int))=rd bs ((9:Nat):Int) from by simp only [wrap64];omega,or7 _ _ (by omega) h9.1 h9.2 (by omega) (by omega),he]
   have hb310:bytesM 3=10:=by decide
   obtain ⟨g1,g2,_,_⟩:=orF_back bs 9 s (fun j hj=>hlow j (by omega)) (by omega) (by omega)
   rw [eo]
   refine fin _ fun j hj=>?_
   have hj:j < 10:=hj
   by_cases c:j=9
   ·subst c;rw [g1];omega
   ·exact g2 j (by omega)
  rcases hlast rfl with h | h
  ·rw [if_neg (by omega)]
   exact key 0 (by omega) (by omega) (by omega)
  ·rw [if_pos (by omega)]
   exact key (-1) (by omega) (by omega) (by omega)
 rw [if_neg h3]
 have hk:bytesM f≤2:=by
  have:=bytes_in f
  have h10:bytesM f≠10:=fun h=>h3 (bytes_ten.2.1 h)
  omega
 have back:∀ s:Int,-1≤s→s≤0→_:=fun s h1 h2=>orF_back bs (bytesM f) s hlow (by
  have:bytesM f=0∨bytesM f=1∨bytesM f=2:=by omega
  rcases this with e | e | e <;> rw [e] <;> omega) (by
  have:bytesM f=0∨bytesM f=1∨bytesM f=2:=by omega
  rcases this with e | e | e <;> rw [e] <;> omega)
 by_cases h8:f=8
 ·subst h8
  rw [if_pos rfl,if_pos rfl]
  obtain ⟨g1,g2,_,_⟩:=back 0 (by omega) (by omega)
  refine ⟨?_,fin _ g2⟩
  have g1:orF bs 0 (bytesM 8) / 128=0:=g1
  simp
  omega
 rw [if_neg h8,if_neg h8]
 have h012:bytesM f=0∨bytesM f=1∨bytesM f=2:=by omega
 rcases h012 with e | e | e
 ·rw [e,if_pos rfl,if_pos rfl]
  exact ⟨rfl,by rw [e] at fin;exact fin _ fun j hj=>by omega⟩
 ·rw [e] at fin back hlow ⊢
  rw [if_neg (show ¬ ((1:Nat)=0) by decide),if_neg (show ¬ ((1:Nat)=0) by decide),if_pos rfl]
  have e1:(((1:Nat):Int) - 1)=((0:Nat):Int):=by decide
  rw [e1]
  by_cases c:rd bs ((0:Nat):Int)≥64
  ·rw [if_pos c]
   obtain ⟨g1,g2,_,_⟩:=back (-1) (by omega) (by omega)
   have q1:orF bs (-1) 1 / 128=-1:=g1
   have q2:orF bs (-1) 1 % 128=rd bs ((0:Nat):Int):=g2 0 (by omega)
   refine ⟨?_,fin _ g2⟩
   simp
   omega
  ·rw [if_neg c]
   obtain ⟨g1,g2,_,_⟩:=back 0 (by omega) (by omega)
   have q1:orF bs 0 1 / 128=0:=g1
   have q2:orF bs 0 1 % 128=rd bs ((0:Nat):Int):=g2 0 (by omega)
   refine ⟨?_,fin _ g2⟩
   simp
   omega
 ·rw [e] at fin back hlow ⊢
  rw [if_neg (show ¬ ((2:Nat)=0) by decide),if_neg (show ¬ ((2:Nat)=0) by decide),if_neg (show ¬ ((2:Nat)=1) by decide)]
  have e1:(((2:Nat):Int) - 1)=((1:Nat):Int):=by decide
  rw [e1]
  by_cases c:rd bs ((1:Nat):Int)≥64
  ·rw [if_pos c]
   obtain ⟨g1,g2,_,_⟩:=back (-1) (by omega) (by omega)
   have q1:orF bs (-1) 2 / 128 / 128=-1:=g1
   have q2:orF bs (-1) 2 / 128 % 128=rd bs ((1:Nat):Int):=g2 1 (by omega)
   refine ⟨?_,fin _ g2⟩
   simp
   omega
  ·rw [if_neg c]
   obtain ⟨g1,g2,_,_⟩:=back 0 (by omega) (by omega)
   have q1:orF bs 0 2 / 128 / 128=0:=g1
   have q2:orF bs 0 2 / 128 % 128=rd bs ((1:Nat):Int):=g2 1 (by omega)
   refine ⟨?_,fin _ g2⟩
   simp
   omega
end Go.Proofs.YtffojmgmpfjlhaaGreatDoor.Q
