/- Parts of the proof: InsnLabels: a text whose targets are labels has the code of the text whose targets are distances: the law returns true for every input; the inputs read as they did; the package-level variables hold what the program's text lays in them: the tied card. -/
import Derived.Test.YtffojmgmpfjlhaaGreatDoorInsnLabelsZ2
set_option linter.unusedVariables false
set_option linter.unusedSimpArgs false
namespace Go.Proofs.YtffojmgmpfjlhaaGreatDoor.Q
open Go.Proofs.Ix hiding rd
open Go Go.Proofs.YtffojmgmpfjlhaaGreatDoor Go.RowKit Go.Proofs.YtffojmgmpfjlhaaGreatDoorW.PrintWords
structure RdS (Inv:L9→Prop) (T:Rd→List UInt8) (U:Rd→L9→L9):Prop where
 run:∀ k l t,Inv l→Cur l (T k ++ t)→Tl t→L9.run k l=some (U k (mv l (T k).length))
 bl:∀ k t c t',T k ++ t=c :: t'→isBl c=false
 s:∀ k l,(U k l).s=l.s
 at_:∀ k l,(U k l).at_=l.at_
 inv:∀ k l,Inv l→Inv (U k l)
 ingo:∀ l e,Inv l→Inv (l.go e)
 ugo:∀ k l e,U k (l.go e)=(U k l).go e
def tailG (T:Rd→List UInt8) (ks:List Rd):List UInt8:=ks.flatMap fun k=>44 :: 32 :: T k
def opG (T:Rd→List UInt8):List Rd→List UInt8
 | []=>[]
 | k :: ks=>32 :: (T k ++ tailG T ks)
def updG (U:Rd→L9→L9) (ks:List Rd) (l:L9):L9:=ks.foldl (fun l k=>U k l) l
theorem tailG_tl (T:Rd→List UInt8) (ks:List Rd):Tl (tailG T ks):=by
 intro c t' e
 cases ks with
 | nil=>cases e
 | cons k ks =>
  unfold tailG at e
  rw [List.flatMap_cons,List.cons_append] at e
  rw [← (List.cons.inj e).1];decide
theorem opG_tl (T:Rd→List UInt8) (ks:List Rd):∀ c t',opG T ks=c :: t'→isWd c=false:=by
 intro c t' e
 cases ks with
 | nil=>cases e
 | cons k ks =>
  unfold opG at e
  rw [← (List.cons.inj e).1];decide
section
variable {Inv:L9→Prop} {T:Rd→List UInt8} {U:Rd→L9→L9} (R:RdS Inv T U)
include R
theorem updG_go:∀ (ks:List Rd) (l:L9) (e:Nat),updG U ks (l.go e)=(updG U ks l).go e
 | [],l,e=>rfl
 | k :: ks,l,e=>by
  show updG U ks (U k (l.go e))=(updG U ks (U k l)).go e
  rw [R.ugo,updG_go]
theorem rest_gen:∀ (ks:List Rd) (l:L9),Inv l→Cur l (tailG T ks)→L9.rest ks l=some ((updG U ks l).go (l.at_+(tailG T ks).length))
 | [],l,hi,h=>rfl
 | k :: ks,l,hi,h=>by
  have h:Cur l (44 :: 32 :: (T k ++ tailG T ks)):=by
   have:=h
   unfold tailG at this
   rw [List.flatMap_cons] at this
   exact this
  have h2:=h.mv1
  have h3:=h2.mv1
  have s0:l.sk=l:=h.sk0 (fun c t' e=>by rw [← (List.cons.inj e).1];decide)
  have s1:(mv l 1).sk=mv (mv l 1) 1:=(h2.sk1 (R.bl k _)).1
  have hi3:Inv (mv (mv l 1) 1):=R.ingo _ _ (R.ingo _ _ hi)
  rw [L9.rest,s0,h.hit,if_pos (by decide)]
  show (match L9.run k (mv l 1).sk with | none=>none | some l2=>L9.rest ks l2)=_
  rw [s1,R.run k _ _ hi3 h3 (tailG_tl T ks)]
  simp only
  have h4:Cur (U k (mv (mv (mv l 1) 1) (T k).length)) (tailG T ks):=h3.adv.set (R.s _ _) (R.at_ _ _)
  have hi5:Inv (U k (mv (mv (mv l 1) 1) (T k).length)):=R.inv _ _ (R.ingo _ _ hi3)
  rw [rest_gen ks _ hi5 h4,R.at_]
  congr 1
  show (updG U ks (U k (L9.go (L9.go (L9.go l _) _) _))).go _=(updG U ks (U k l)).go _
  rw [show L9.go (L9.go (L9.go l (l.at_+1)) ((mv l 1).at_+1)) ((mv (mv l 1) 1).at_+(T k).length)=l.go ((mv (mv l 1) 1).at_+(T k).length) from rfl,R.ugo,updG_go R]
  show (updG U ks (U k l)).go _=(updG U ks (U k l)).go _
  congr 1
  show l.at_+1+1+(T k).length+(tailG T ks).length=l.at_+(tailG T (k :: ks)).length
  have:(tailG T (k :: ks)).length=(T k).length+1+1+(tailG T ks).length:=by unfold tailG;rw [List.flatMap_cons];simp only [List.length_append,List.length_cons]
  omega
theorem instr_gen {op:Int} (hv:nameM op≠[]) (s:ByteArray) (i:Nat) (h:Cur ⟨s,i,true,0,0,0,0,⟨#[]⟩,false⟩ (nameM op ++ opG T (readsM op))) (hI:∀ e,Inv ⟨s,e,true,op,0,0,0,⟨#[]⟩,false⟩) :
  (⟨s,i,true,0,0,0,0,⟨#[]⟩,false⟩:L9).instr=some ((updG U (readsM op) ⟨s,0,true,op,0,0,0,⟨#[]⟩,false⟩).go s.size):=by
 obtain ⟨n1,n2,n3⟩:=name_facts hv
 have hsk:(⟨s,i,true,0,0,0,0,⟨#[]⟩,false⟩:L9).sk=⟨s,i,true,0,0,0,0,⟨#[]⟩,false⟩:=by
  refine h.sk0 fun c t' e=>?_
  cases hn:nameM op with
  | nil=>exact absurd hn hv
  | cons d r =>
   rw [hn,List.cons_append] at e
   rw [← (List.cons.inj e).1]
   exact (n3 d (by rw [hn];exact List.mem_cons_self)).2.2.2.2.2
 have hr:=h.run isWd (fun c hc=>(n3 c hc).1) (opG_tl T _)
 have hw:=h.word
 unfold L9.instr
 rw [hsk]
 have hE:(⟨s,i,true,0,0,0,0,⟨#[]⟩,false⟩:L9).mnE=i+(nameM op).length:=hr
 have hS:(⟨s,i,true,0,0,0,0,⟨#[]⟩,false⟩:L9).mnS.data.toList=nameM op:=by unfold L9.mnS;rw [hE];exact hw
 have hmn:(⟨s,i,true,0,0,0,0,⟨#[]⟩,false⟩:L9).mn=⟨s,i+(nameM op).length,true,op,0,0,0,⟨#[]⟩,false⟩:=by
  unfold L9.mn
  rw [hS,hE,n1]
  rfl
 rw [hmn,if_neg n2]
 have hcur:Cur ⟨s,i+(nameM op).length,true,op,0,0,0,⟨#[]⟩,false⟩ (opG T (readsM op)):=h.adv.set rfl rfl
 have hlen:=hcur.len
 have hpart:L9.part 0 (readsM op) ⟨s,i+(nameM op).length,true,op,0,0,0,⟨#[]⟩,false⟩=some ((updG U (readsM op) ⟨s,0,true,op,0,0,0,⟨#[]⟩,false⟩).go s.size):=by
  cases hk:readsM op with
  | nil =>
   rw [hk] at hlen
   have hlen:i+(nameM op).length+0=s.size:=hlen
   unfold L9.part
   show some (L9.mk s (i+(nameM op).length) true op 0 0 0 ⟨#[]⟩ false)=some (L9.mk s s.size true op 0 0 0 ⟨#[]⟩ false)
   rw [← hlen]
   rfl
  | cons k ks =>
   rw [hk] at hlen hcur
   have hcur:Cur ⟨s,i+(nameM op).length,true,op,0,0,0,⟨#[]⟩,false⟩ (32 :: (T k ++ tailG T ks)):=hcur
   obtain ⟨s1,s2⟩:=hcur.sk1 (R.bl k _)
   unfold L9.part
   simp only
   rw [s1,s2,if_pos rfl]
   have h2:=hcur.mv1
   have hi2:Inv (mv ⟨s,i+(nameM op).length,true,op,0,0,0,⟨#[]⟩,false⟩ 1):=hI _
   rw [R.run k _ _ hi2 h2 (tailG_tl T ks)]
   simp only
   have h4:Cur (U k (mv (mv ⟨s,i+(nameM op).length,true,op,0,0,0,⟨#[]⟩,false⟩ 1) (T k).length)) (tailG T ks):=h2.adv.set (R.s _ _) (R.at_ _ _)
   have hi5:Inv (U k (mv (mv ⟨s,i+(nameM op).length,true,op,0,0,0,⟨#[]⟩,false⟩ 1) (T k).length)):=R.inv _ _ (R.ingo _ _ hi2)
   rw [rest_gen R ks _ hi5 h4,R.at_]
   congr 1
   show (updG U ks (U k (L9.go ⟨s,0,true,op,0,0,0,⟨#[]⟩,false⟩ _))).go _=(updG U ks (U k _)).go _
   rw [R.ugo,updG_go R]
   have hlen:i+(nameM op).length+(32 :: (T k ++ tailG T ks)).length=s.size:=hlen
   rw [List.length_cons,List.length_append] at hlen
   show (updG U ks (U k ⟨s,0,true,op,0,0,0,⟨#[]⟩,false⟩)).go (i+(nameM op).length+1+(T k).length+(tailG T ks).length)=(updG U ks (U k ⟨s,0,true,op,0,0,0,⟨#[]⟩,false⟩)).go s.size
   rw [show i+(nameM op).length+1+(T k).length+(tailG T ks).length=s.size by omega]
 rw [hpart]
 simp only
 have hus:∀ (ks:List Rd) (l:L9),(updG U ks l).s=l.s:=by
  intro ks
  induction ks with
  | nil=>exact fun _=>rfl
  | cons k ks ih=>exact fun l=>(ih (U k l)).trans (R.s k l)
 have e1:=hus (readsM op) ⟨s,0,true,op,0,0,0,⟨#[]⟩,false⟩
 have hend:Cur ((updG U (readsM op) ⟨s,0,true,op,0,0,0,⟨#[]⟩,false⟩).go s.size) []:=by
  refine ⟨?_,?_⟩
  ·show (updG U (readsM op) ⟨s,0,true,op,0,0,0,⟨#[]⟩,false⟩).s.data.toList.drop s.size=[]
   rw [e1,← sz_list,List.drop_length]
  ·show s.size≤(updG U (readsM op) ⟨s,0,true,op,0,0,0,⟨#[]⟩,false⟩).s.size
   rw [e1];exact Nat.le_refl _
 unfold L9.fin
 rw [hend.sk0 (fun c t' e=>by cases e)]
 exact if_pos (by show s.size=(updG U (readsM op) ⟨s,0,true,op,0,0,0,⟨#[]⟩,false⟩).s.size;rw [e1])
end
def isT (op:Int):Bool:=(decide (21≤op) && decide (op≤25)) || op == 27 || op == 32
theorem isT_cases {op:Int} (h:isT op=true):op=21∨op=22∨op=23∨op=24∨op=25∨op=27∨op=32:=by
 unfold isT at h
 simp at h
 omega
def TX (a b:Int) (X:List UInt8):Rd→List UInt8
 | .target=>X
 | k=>rdW a b 0 k
def UX (a b:Int) (Ut:L9→L9):Rd→L9→L9
 | .target=>Ut
 | k=>upd a b 0 k
def InvX (op:Int) (l:L9):Prop:=l.op=op∧l.imm=0∧l.labels=true
structure TgS (op:Int) (X:List UInt8) (Ut:L9→L9):Prop where
 run:∀ l t,InvX op l→Cur l (X ++ t)→Tl t→l.tgt=some (Ut (mv l X.length))
 bl:∀ t c t',X ++ t=c :: t'→isBl c=false
 s:∀ l,(Ut l).s=l.s
 at_:∀ l,(Ut l).at_=l.at_
 inv:∀ l,(Ut l).op=l.op∧(Ut l).imm=l.imm∧(Ut l).labels=l.labels
 ugo:∀ l e,Ut (l.go e)=(Ut l).go e
theorem rdS_X {op a b:Int} (o:Ok1 op a b 0) {X:List UInt8} {Ut:L9→L9} (G:TgS op X Ut):RdS (InvX op) (TX a b X) (UX a b Ut) where
 run:=fun k l t hi h ht=>by
  have hr:=fun k=>run_ok (op:=op) (a:=a) (b:=b) (v:=0) k o (l:=l) (t:=t) hi.1 (fun _=>hi.2.1)
  cases k with
  | target=>exact G.run l t hi h ht
  | a=>exact hr .a h ht
  | b=>exact hr .b h ht
  | num=>exact hr .num h ht
  | mem=>exact hr .mem h ht
  | addr=>exact hr .addr h ht
 bl:=fun k t c t' e=>by
  have hr:=fun k=>rdW_bl a b 0 k t c t'
  cases k with
  | target=>exact G.bl t c t' e
  | a=>exact hr .a e
  | b=>exact hr .b e
  | num=>exact hr .num e
  | mem=>exact hr .mem e
  | addr=>exact hr .addr e
 s:=fun k l=>by cases k <;> first | exact G.s l | rfl
 at_:=fun k l=>by cases k <;> first | exact G.at_ l | rfl
 inv:=fun k l hi=>by
  cases k with
  | target=>exact ⟨(G.inv l).1.trans hi.1,(G.inv l).2.1.trans hi.2.1,(G.inv l).2.2.trans hi.2.2⟩
  | a=>exact hi
  | b=>exact hi
  | num=>exact ⟨hi.1,rfl,hi.2.2⟩
  | mem=>exact hi
  | addr=>exact ⟨hi.1,rfl,hi.2.2⟩
 ingo:=fun l e hi=>hi
 ugo:=fun k l e=>by cases k <;> first | exact G.ugo l e | rfl
theorem rdS_W {op a b v:Int} (o:Ok1 op a b v):RdS (fun l=>l.op=op∧(v=0→l.imm=0)) (rdW a b v) (upd a b v) where
 run:=fun k l t hi h ht=>run_ok (op:=op) k o hi.1 hi.2 h ht
 bl:=fun k t c t' e=>rdW_bl a b v k t c t' e
 s:=fun k l=>(upd_s a b v k l).1
 at_:=fun k l=>(upd_s a b v k l).2.1
 inv:=fun k l hi=>⟨(upd_s a b v k l).2.2.1.trans hi.1,(upd_s a b v k l).2.2.2 hi.2⟩
 ingo:=fun l e hi=>hi
 ugo:=fun k l e=>upd_go a b v k l e
def labW (n:Nat):List UInt8:=[108,UInt8.ofNat (97+n / 10),UInt8.ofNat (97+n % 10)]
theorem lab_fin:∀ n:Fin 80,nameB (bS (labW n.val))=true∧(labW n.val).all isWd=true∧(labW n.val).all gd=true:=by decide +kernel
theorem lab_inj:∀ n m:Fin 80,labW n.val=labW m.val→n=m:=by decide +kernel
theorem ba_ext2 {a b:ByteArray} (h:a.data.toList=b.data.toList):a=b:=by
 obtain ⟨⟨a⟩⟩:=a
 obtain ⟨⟨b⟩⟩:=b
 cases (show a=b from h)
 rfl
theorem lab_word {l:L9} {n:Nat} (hn:n < 80) {t:List UInt8} (h:Cur l (labW n ++ t)) (ht:∀ c t',t=c :: t'→isWd c=false):runB isWd l.s l.at_=l.at_+3∧l.s.extract l.at_ (runB isWd l.s l.at_)=bS (labW n):=by
 have hr:=h.run isWd (fun c hc=>List.all_eq_true.1 (lab_fin ⟨n,hn⟩).2.1 c hc) ht
 have hw:=h.word
 have hl:(labW n).length=3:=rfl
 refine ⟨hr,ba_ext2 ?_⟩
 rw [hr,hw,toS]
theorem tgS_lab (op:Int) {n:Nat} (hn:n < 80):TgS op (labW n) (fun l=>⟨l.s,l.at_,l.labels,l.op,l.a,l.b,l.imm,bS (labW n),l.far⟩) where
 run:=fun l t hi h ht=>by
  obtain ⟨h1,h2⟩:=lab_word hn h (fun c t' e=>(ht c t' e).1)
  have h3:l.hit 46=false:=by rw [Cur.hit (c:=108) (t:=[UInt8.ofNat (97+n / 10),UInt8.ofNat (97+n % 10)] ++ t) h];rfl
  unfold L9.tgt
  rw [h3,if_neg (by decide),hi.2.2,if_pos rfl]
  have hlab:l.lab=⟨l.s,l.at_+3,l.labels,l.op,l.a,l.b,l.imm,bS (labW n),l.far⟩:=by
   unfold L9.lab
   rw [h2,h1]
   rfl
  rw [hlab,if_pos (lab_fin ⟨n,hn⟩).1]
  rfl
 bl:=fun t c t' e=>by
  have e:(108:UInt8) :: ([UInt8.ofNat (97+n / 10),UInt8.ofNat (97+n % 10)] ++ t)=c :: t':=e
  rw [← (List.cons.inj e).1];decide
 s:=fun l=>rfl
 at_:=fun l=>rfl
 inv:=fun l=>⟨rfl,rfl,rfl⟩
 ugo:=fun l e=>rfl
theorem tgS_far (op:Int) {v:Int} (h0:-9223372036854775808≤v) (h1:v≤9223372036854775807) (hf:fitsM (formM op) v=false):TgS op (distW v) (fun l=>⟨l.s,l.at_,l.labels,l.op,l.a,l.b,l.imm,l.label,true⟩) where
 run:=fun l t hi h ht=>by
  have hf:fitsM (formM l.op) v=false:=by rw [hi.1];exact hf
  unfold L9.tgt
  by_cases hn:v < 0
  ·have e:distW v=46 :: 45 :: Lib.decDigits v.natAbs:=by unfold distW;rw [if_pos hn,num_neg hn]
   rw [e] at h ⊢
   have h2:Cur (mv l 1) (45 :: (Lib.decDigits v.natAbs ++ t)):=h.mv1
   have h3:Cur (mv (mv l 1) 1) (Lib.decDigits v.natAbs ++ t):=h2.mv1
   have g0:l.hit 46=true:=by rw [Cur.hit (t:=45 :: (Lib.decDigits v.natAbs ++ t)) h];rfl
   rw [g0,if_pos rfl]
   show (if (mv l 1).hit 43=true then _ else if (mv l 1).hit 45=true then L9.setF (formM l.op) ((mv (mv l 1) 1).dg true) else none)=_
   rw [h2.hit,if_neg (by decide),h2.hit,if_pos (by decide),dg_ok (by omega) h3 ht true (fun e=>by cases e),if_pos rfl]
   have ev:-((v.natAbs:Nat):Int)=v:=by omega
   unfold L9.setF
   simp only
   rw [ev,hf,if_neg (by decide)]
   congr 1
   show L9.mk _ _ _ _ _ _ _ _ _=L9.mk _ _ _ _ _ _ _ _ _
   congr 1
   show l.at_+1+1+_=l.at_+(_+1+1)
   omega
  ·have e:distW v=46 :: 43 :: Lib.decDigits v.toNat:=by unfold distW;rw [if_neg hn,num_pos hn]
   rw [e] at h ⊢
   have h2:Cur (mv l 1) (43 :: (Lib.decDigits v.toNat ++ t)):=h.mv1
   have h3:Cur (mv (mv l 1) 1) (Lib.decDigits v.toNat ++ t):=h2.mv1
   have g0:l.hit 46=true:=by rw [Cur.hit (t:=43 :: (Lib.decDigits v.toNat ++ t)) h];rfl
   rw [g0,if_pos rfl]
   show (if (mv l 1).hit 43=true then L9.setF (formM l.op) ((mv (mv l 1) 1).dg false) else _)=_
   rw [h2.hit,if_pos (by decide),dg_ok (by omega) h3 ht false (fun _=>by omega),if_neg (by decide)]
   have ev:((v.toNat:Nat):Int)=v:=by omega
   unfold L9.setF
   simp only
   rw [ev,hf,if_neg (by decide)]
   congr 1
   show L9.mk _ _ _ _ _ _ _ _ _=L9.mk _ _ _ _ _ _ _ _ _
   congr 1
   show l.at_+1+1+_=l.at_+(_+1+1)
   omega
 bl:=fun t c t' e=>by
  unfold distW at e
  by_cases hn:v < 0
  ·rw [if_pos hn,List.cons_append] at e
   rw [← (List.cons.inj e).1];decide
  ·rw [if_neg hn,List.cons_append] at e
   rw [← (List.cons.inj e).1];decide
 s:=fun l=>rfl
 at_:=fun l=>rfl
 inv:=fun l=>⟨rfl,rfl,rfl⟩
 ugo:=fun l e=>rfl
def lineT (op a b:Int) (X:List UInt8):List UInt8:=nameM op ++ opG (TX a b X) (readsM op)
theorem reads_T {op:Int} (h:isT op=true):(readsM op=[.a,.b,.target]∧hasA (formM op)=true∧hasB (formM op)=true)∨(readsM op=[.target]∧hasA (formM op)=false∧hasB (formM op)=false)∨(readsM op=[.a,.target]∧hasA (formM op)=true∧hasB (formM op)=false):=by
 rcases isT_cases h with rfl | rfl | rfl | rfl | rfl | rfl | rfl
 ·exact .inl ⟨rfl,by decide +kernel,by decide +kernel⟩
 ·exact .inl ⟨rfl,by decide +kernel,by decide +kernel⟩
 ·exact .inl ⟨rfl,by decide +kernel,by decide +kernel⟩
 ·exact .inl ⟨rfl,by decide +kernel,by decide +kernel⟩
 ·exact .inr (.inl ⟨rfl,by decide +kernel,by decide +kernel⟩)
 ·exact .inr (.inl ⟨rfl,by decide +kernel,by decide +kernel⟩)
 ·exact .inr (.inr ⟨rfl,by decide +kernel,by decide +kernel⟩)
theorem print_T {op:Int} (h:isT op=true) (a b d:Int):printW op a b d=lineT op a b (distW d):=by
 unfold printW lineT
 rcases reads_T h with ⟨e,_⟩ | ⟨e,_⟩ | ⟨e,_⟩ <;> rw [e] <;> rfl
theorem lineT_app {op:Int} (h:isT op=true) (a b:Int) (X:List UInt8):lineT op a b X=lineT op a b [] ++ X:=by
 unfold lineT
 rcases reads_T h with ⟨e,_⟩ | ⟨e,_⟩ | ⟨e,_⟩ <;> rw [e] <;> simp [opG,tailG,TX]
theorem updX_fin {op a b:Int} (h:isT op=true) (hc:chkD op a b 0=0) (s:ByteArray) (Ut:L9→L9):updG (UX a b Ut) (readsM op) ⟨s,0,true,op,0,0,0,⟨#[]⟩,false⟩=Ut ⟨s,0,true,op,a,b,0,⟨#[]⟩,false⟩:=by
 obtain ⟨_,-,-,-,-,hA,hB,-⟩:=chk_parts hc
 rcases reads_T h with ⟨e,ea,eb⟩ | ⟨e,ea,eb⟩ | ⟨e,ea,eb⟩
 ·rw [e];rfl
 ·rw [e,hA.resolve_left (by rw [ea];decide),hB.resolve_left (by rw [eb];decide)];rfl
 ·rw [e,hB.resolve_left (by rw [eb];decide)];rfl
theorem instr_X {op a b:Int} (h:isT op=true) (hc:chkD op a b 0=0) {X:List UInt8} {Ut:L9→L9} (G:TgS op X Ut) (s:ByteArray) (i:Nat) (hC:Cur ⟨s,i,true,0,0,0,0,⟨#[]⟩,false⟩ (lineT op a b X)) :
  (⟨s,i,true,0,0,0,0,⟨#[]⟩,false⟩:L9).instr=some ((Ut ⟨s,0,true,op,a,b,0,⟨#[]⟩,false⟩).go s.size):=by
 rw [instr_gen (rdS_X (ok1_of hc (by omega) (by omega)) G) (chk_parts hc).1 s i hC (fun e=>⟨rfl,rfl,rfl⟩),updX_fin h hc]
theorem instr_W {op a b v:Int} (hc:chkD op a b v=0) (h0:-9223372036854775808≤v) (h1:v≤9223372036854775807) (s:ByteArray) (i:Nat) (hC:Cur ⟨s,i,true,0,0,0,0,⟨#[]⟩,false⟩ (printW op a b v)) :
  (⟨s,i,true,0,0,0,0,⟨#[]⟩,false⟩:L9).instr=some ⟨s,s.size,true,op,a,b,v,⟨#[]⟩,false⟩:=by
 have e:printW op a b v=nameM op ++ opG (rdW a b v) (readsM op):=by
  unfold printW
  cases readsM op <;> rfl
 rw [e] at hC
 rw [instr_gen (rdS_W (ok1_of hc h0 h1)) (chk_parts hc).1 s i hC (fun e=>⟨rfl,fun _=>rfl⟩)]
 have:=upd_fin hc s 0 true
 show some ((updL a b v (readsM op) ⟨s,0,true,op,0,0,0,⟨#[]⟩,false⟩).go s.size)=_
 rw [this]
 rfl
structure It where
 op:Int
 a:Int
 b:Int
 v:Int
 to_:Nat
structure It.Ok (x:It) (n:Nat):Prop where
 chk:chkD x.op x.a x.b x.v=0
 v0:-9223372036854775808≤x.v
 v1:x.v≤9223372036854775807
 to_:x.to_ < n
theorem chk_v {op a b v u:Int} (hc:chkD op a b v=0) (hu:fitsM (formM op) u=true):chkD op a b u=0:=by
 obtain ⟨h1,h2,h3,h4,h5,h6,h7,-⟩:=chk_parts hc
 unfold chkD
 rw [if_neg h1,if_pos ⟨h2,h3,h4,h5,h6,h7,hu⟩]
theorem fits_T {op:Int} (h:isT op=true):fitsM (formM op) 0=true:=by
 rcases isT_cases h with rfl | rfl | rfl | rfl | rfl | rfl | rfl <;> decide +kernel
section
variable (X:Nat→It)
def atS:Nat→Nat
 | 0=>0
 | i+1=>atS i+lenM (formM (X i).op)
theorem atS_le:∀ i,atS X i≤12 * i
 | 0=>Nat.le_refl _
 | i+1=>by
  have:=atS_le i
  have:=lenM_bd (formM (X i).op)
  show atS X i+_≤_
  omega
def dT (i:Nat):Int:=(atS X (X i).to_:Int) - (atS X (i+1):Int)
def bodyA (i:Nat):List UInt8:=if isT (X i).op=true then lineT (X i).op (X i).a (X i).b (labW (X i).to_) else printW (X i).op (X i).a (X i).b (X i).v
def lineA (i:Nat):List UInt8:=labW i ++ (58 :: 32 :: bodyA X i)
def lineB (i:Nat):List UInt8:=printW (X i).op (X i).a (X i).b (if isT (X i).op=true then dT X i else (X i).v)
def endA (i:Nat):L9:=⟨bS (lineA X i),(bS (lineA X i)).size,true,(X i).op,(X i).a,(X i).b,if isT (X i).op=true then 0 else (X i).v,if isT (X i).op=true then bS (labW (X i).to_) else ⟨#[]⟩,false⟩
def farB (i:Nat):Bool:=isT (X i).op && !fitsM (formM (X i).op) (dT X i)
def endB (i:Nat):L9:=⟨bS (lineB X i),(bS (lineB X i)).size,true,(X i).op,(X i).a,(X i).b,if isT (X i).op=true then (if fitsM (formM (X i).op) (dT X i)=true then dT X i else 0) else (X i).v,⟨#[]⟩,farB X i⟩
theorem dT_bd {i n:Nat} (hi:i < 80) (ht:(X i).to_ < n) (hn:n≤80):-9223372036854775808≤dT X i∧dT X i≤9223372036854775807:=by
 have h1:=atS_le X (i+1)
 have h2:=atS_le X (X i).to_
 unfold dT
 omega
variable {n:Nat} (hn:n≤80) (hX:∀ i,i < n→(X i).Ok n)
include hn hX
theorem instrA {i:Nat} (hi:i < n) (s:ByteArray) (k:Nat) (hC:Cur ⟨s,k,true,0,0,0,0,⟨#[]⟩,false⟩ (bodyA X i)) :
  (⟨s,k,true,0,0,0,0,⟨#[]⟩,false⟩:L9).instr=some ⟨s,s.size,true,(X i).op,(X i).a,(X i).b,if isT (X i).op=true then 0 else (X i).v,if isT (X i).op=true then bS (labW (X i).to_) else ⟨#[]⟩,false⟩:=by
 have o:=hX i hi
 unfold bodyA at hC
 by_cases h:isT (X i).op=true
 ·rw [if_pos h] at hC
  rw [if_pos h,if_pos h,instr_X h (chk_v o.chk (fits_T h)) (tgS_lab _ (by have:=o.to_;omega)) s k hC]
  rfl
 ·rw [if_neg h] at hC
  rw [if_neg h,if_neg h]
  exact instr_W o.chk o.v0 o.v1 s k hC
theorem instrB {i:Nat} (hi:i < n) (s:ByteArray) (hC:Cur (L9.new s true) (lineB X i)) :
  (L9.new s true).instr=some ⟨s,s.size,true,(X i).op,(X i).a,(X i).b,if isT (X i).op=true then (if fitsM (formM (X i).op) (dT X i)=true then dT X i else 0) else (X i).v,⟨#[]⟩,farB X i⟩:=by
 have o:=hX i hi
 obtain ⟨d0,d1⟩:=dT_bd X (n:=n) (by omega) o.to_ hn
 unfold lineB at hC
 unfold farB
 by_cases h:isT (X i).op=true
 ·rw [if_pos h] at hC
  rw [if_pos h,h]
  cases hf:fitsM (formM (X i).op) (dT X i) with
  | true =>
   rw [if_pos rfl]
   exact instr_W (chk_v o.chk hf) d0 d1 s 0 hC
  | false =>
   rw [if_neg (by decide)]
   rw [print_T h] at hC
   have:=instr_X h (chk_v o.chk (fits_T h)) (tgS_far _ d0 d1 hf) s 0 hC
   exact this
 ·rw [if_neg h] at hC
  rw [if_neg h,Bool.eq_false_iff.2 h]
  exact instr_W o.chk o.v0 o.v1 s 0 hC
omit hn hX in
theorem print_gd2 {op a b v:Int} (hv:nameM op≠[]) (a0:0≤a) (a7:a≤7) (b0:0≤b) (b7:b≤7) (h0:-9223372036854775808≤v) (h1:v≤9223372036854775807):∀ c∈printW op a b v,gd c=true:=by
 have o:Ok1 3 a b v:=⟨a0,a7,b0,b7,h0,h1,rfl⟩
 intro c hc
 unfold printW at hc
 rcases List.mem_append.1 hc with hc | hc
 ·obtain ⟨_,h1,h2,h3,_,_⟩:=(name_facts hv).2.2 c hc
  unfold gd
  simp [h1,h2,h3]
 ·cases hk:readsM op with
  | nil=>rw [hk] at hc;cases hc
  | cons k ks =>
   rw [hk] at hc
   have hc:c∈32 :: (rdW a b v k ++ tailW a b v ks):=hc
   rcases List.mem_cons.1 hc with rfl | hc
   ·decide
   ·rcases List.mem_append.1 hc with hc | hc
    ·exact rdW_gd o k c hc
    ·unfold tailW at hc
     obtain ⟨r,hr,hc⟩:=List.mem_flatMap.1 hc
     rcases List.mem_cons.1 hc with rfl | hc
     ·decide
     ·rcases List.mem_cons.1 hc with rfl | hc
      ·decide
      ·exact rdW_gd o r c hc
theorem bodyA_gd {i:Nat} (hi:i < n):∀ c∈bodyA X i,gd c=true:=by
 have o:=hX i hi
 obtain ⟨hv,a0,a7,b0,b7,-,-,-⟩:=chk_parts o.chk
 intro c hc
 unfold bodyA at hc
 by_cases h:isT (X i).op=true
 ·rw [if_pos h,lineT_app h] at hc
  have hp:=print_gd2 (op:=(X i).op) (v:=0) hv a0 a7 b0 b7 (by omega) (by omega)
  rw [print_T h,lineT_app h] at hp
  rcases List.mem_append.1 hc with hc | hc
  ·exact hp c (List.mem_append_left _ hc)
  ·have:=o.to_
   exact List.all_eq_true.1 (lab_fin ⟨(X i).to_,by omega⟩).2.2 c hc
 ·rw [if_neg h] at hc
  exact print_gd2 hv a0 a7 b0 b7 o.v0 o.v1 c hc
theorem lineB_gd {i:Nat} (hi:i < n):∀ c∈lineB X i,gd c=true:=by
 have o:=hX i hi
 obtain ⟨hv,a0,a7,b0,b7,-,-,-⟩:=chk_parts o.chk
 obtain ⟨d0,d1⟩:=dT_bd X (n:=n) (show i < 80 by omega) o.to_ hn
 unfold lineB
 by_cases h:isT (X i).op=true
 ·rw [if_pos h];exact print_gd2 hv a0 a7 b0 b7 d0 d1
 ·rw [if_neg h];exact print_gd2 hv a0 a7 b0 b7 o.v0 o.v1
theorem lineA_ok {i:Nat} (hi:i < n):∀ c∈lineA X i,c≠10∧c≠59:=by
 intro c hc
 have gg:∀ c:UInt8,gd c=true→c≠10∧c≠59:=u8_all _ (by decide +kernel)
 unfold lineA at hc
 rcases List.mem_append.1 hc with hc | hc
 ·exact gg c (List.all_eq_true.1 (lab_fin ⟨i,by omega⟩).2.2 c hc)
 ·rcases List.mem_cons.1 hc with rfl | hc
  ·decide
  ·rcases List.mem_cons.1 hc with rfl | hc
   ·decide
   ·exact gg c (bodyA_gd X hn hX hi c hc)
omit hn hX in
theorem name_head {op:Int} (hv:nameM op≠[]) (r:List UInt8):∃ c t,nameM op ++ r=c :: t∧isBl c=false∧c≠46:=by
 cases h:nameM op with
 | nil=>exact absurd h hv
 | cons c t =>
  obtain ⟨_,_,_,_,h5,h6⟩:=(name_facts hv).2.2 c (by rw [h];exact List.mem_cons_self)
  exact ⟨c,t ++ r,rfl,h6,h5⟩
omit hn in
theorem bodyA_head {i:Nat} (hi:i < n):∃ c t,bodyA X i=c :: t∧isBl c=false:=by
 have hv:=(chk_parts (hX i hi).chk).1
 unfold bodyA lineT printW
 by_cases h:isT (X i).op=true
 ·rw [if_pos h]
  obtain ⟨c,t,h1,h2,_⟩:=name_head hv (opG (TX (X i).a (X i).b (labW (X i).to_)) (readsM (X i).op))
  exact ⟨c,t,h1,h2⟩
 ·rw [if_neg h]
  obtain ⟨c,t,h1,h2,_⟩:=name_head hv (opW (X i).a (X i).b (X i).v (readsM (X i).op))
  exact ⟨c,t,h1,h2⟩
theorem rowA {i:Nat} (hi:i < n) (z:Az) (no:Nat) (hl:lookB z.labels (bS (labW i))=none) :
  z.row no (bS (lineA X i))=Az.push ⟨no,z.size,z.list,z.labels ++ [(bS (labW i),z.size)],z.funcs⟩ (endA X i):=by
 obtain ⟨c0,t0,hb,hbl⟩:=bodyA_head X hX hi
 have hc:Cur (L9.new (bS (lineA X i)) true) (labW i ++ (58 :: 32 :: bodyA X i)):=⟨toS _,Nat.zero_le _⟩
 have hsk:(L9.new (bS (lineA X i)) true).sk=L9.new (bS (lineA X i)) true:=hc.sk0 fun c t' e=>by
  have e:(108:UInt8) :: ([UInt8.ofNat (97+i / 10),UInt8.ofNat (97+i % 10)] ++ (58 :: 32 :: bodyA X i))=c :: t':=e
  rw [← (List.cons.inj e).1];decide
 obtain ⟨w1,w2⟩:=lab_word (by omega) hc (fun c t' e=>by rw [← (List.cons.inj e).1];decide)
 have h2:Cur ⟨bS (lineA X i),0+3,true,0,0,0,0,⟨#[]⟩,false⟩ (58 :: 32 :: bodyA X i):=hc.adv
 have h3:Cur ⟨bS (lineA X i),0+3+1,true,0,0,0,0,⟨#[]⟩,false⟩ (32 :: bodyA X i):=h2.mv1
 have h4:Cur ⟨bS (lineA X i),0+3+1+1,true,0,0,0,0,⟨#[]⟩,false⟩ (bodyA X i):=h3.mv1
 have hnm:(L9.new (bS (lineA X i)) true).nm=(bS (labW i),⟨bS (lineA X i),0+3+1,true,0,0,0,0,⟨#[]⟩,false⟩):=by
  unfold L9.nm
  rw [hsk]
  have e1:(L9.new (bS (lineA X i)) true).wdS=bS (labW i):=w2
  have e2:(L9.new (bS (lineA X i)) true).wdL=⟨bS (lineA X i),0+3,true,0,0,0,0,⟨#[]⟩,false⟩:=by
   unfold L9.wdL
   rw [w1]
   rfl
  rw [e1,if_pos (lab_fin ⟨i,by omega⟩).1,e2,h2.sk0 (fun c t' e=>by rw [← (List.cons.inj e).1];decide),h2.hit,if_pos (by decide)]
  rfl
 have hlen:=h4.len
 have hne:¬ (0+3+1+1=(bS (lineA X i)).size):=by
  intro e
  have e2:0+3+1+1+(bodyA X i).length=(bS (lineA X i)).size:=hlen
  rw [hb,List.length_cons] at e2
  omega
 unfold Az.row
 simp only [hnm]
 rw [if_neg (show ¬ (bS (labW i)).size=0 by rw [bS_len];exact (by decide:¬ (3=0))),(h3.sk1 (fun c t' e=>by rw [hb] at e;rw [← (List.cons.inj e).1];exact hbl)).1]
 show Az.rest _ _ ⟨bS (lineA X i),0+3+1+1,true,0,0,0,0,⟨#[]⟩,false⟩=_
 unfold Az.rest
 rw [if_neg hne,instrA X hn hX hi _ _ h4]
 simp only
 unfold Az.def_
 rw [if_neg (show ¬ (bS (labW i)).size=0 by rw [bS_len];exact (by decide:¬ (3=0)))]
 simp only [hl]
 rfl
theorem rowB {i:Nat} (hi:i < n) (z:Az) (no:Nat):z.row no (bS (lineB X i))=Az.push ⟨no,z.size,z.list,z.labels,z.funcs⟩ (endB X i):=by
 have hv:=(chk_parts (hX i hi).chk).1
 have hg:=lineB_gd X hn hX hi
 have hg2:∀ d:UInt8,gd d=false→∀ k:Nat,(bS (lineB X i)).data.toList[k]?≠some d:=fun d hd k=>by rw [toS];exact no_byte hg d hd k
 obtain ⟨c0,t0,h1,h2,h3⟩:=name_head hv (opW (X i).a (X i).b (if isT (X i).op=true then dT X i else (X i).v) (readsM (X i).op))
 have h1:lineB X i=c0 :: t0:=h1
 have hc:Cur (L9.new (bS (lineB X i)) true) (lineB X i):=⟨toS _,Nat.zero_le _⟩
 rw [row_first z no (hg2 58 rfl) (by rw [toS,h1];exact fun e=>h3 (Option.some.inj e)) (hc.sk0 fun c t' e=>by rw [h1] at e;rw [← (List.cons.inj e).1];exact h2) (by rw [bS_len,h1];simp),instrB X hn hX hi _ hc]
 rfl
omit hn hX in
theorem row_blank (z:Az) (no:Nat):z.row no ⟨#[]⟩=.ok ⟨no,z.size,z.list,z.labels,z.funcs⟩:=by
 rw [row_plain z no (s:=⟨#[]⟩) (fun i=>⟨by simp,fun h=>by simp at h⟩)]
 exact if_pos (by decide +kernel)
def enA (j:Nat):En:=⟨endA X j,j+1,atS X j⟩
def enB (j:Nat):En:=⟨endB X j,j+1,atS X j⟩
def labsA (i:Nat):List (ByteArray × Nat):=(List.range i).map fun j=>(bS (labW j),atS X j)
omit hn hX in
theorem bS_inj {a b:List UInt8} (h:bS a=bS b):a=b:=by
 have:=congrArg (fun x:ByteArray=>x.data.toList) h
 simpa only [toS] using this
omit hX in
theorem look_new {i:Nat} (hi:i < n):lookB (labsA X i) (bS (labW i))=none:=by
 cases h:lookB (labsA X i) (bS (labW i)) with
 | none=>rfl
 | some v =>
  obtain ⟨p,hp,e1,_⟩:=lookB_some h
  obtain ⟨j,hj,rfl⟩:=List.mem_map.1 hp
  have hj:=List.mem_range.1 hj
  have:=lab_inj ⟨j,by omega⟩ ⟨i,by omega⟩ (bS_inj e1)
  have:j=i:=congrArg Fin.val this
  omega
omit hX in
theorem look_old {j:Nat} (hj:j < n):lookB (labsA X n) (bS (labW j))=some (atS X j):=by
 cases h:lookB (labsA X n) (bS (labW j)) with
 | none=>exact absurd rfl (lookB_none h (bS (labW j),atS X j) (List.mem_map.2 ⟨j,List.mem_range.2 hj,rfl⟩))
 | some v =>
  obtain ⟨p,hp,e1,e2⟩:=lookB_some h
  obtain ⟨k,hk,rfl⟩:=List.mem_map.1 hp
  have hk:=List.mem_range.1 hk
  have:=lab_inj ⟨k,by omega⟩ ⟨j,by omega⟩ (bS_inj e1)
  have e:k=j:=congrArg Fin.val this
  subst e
  rw [← e2]
theorem rowsA:∀ i,i≤n→rowsZ 1 z00 ((List.range i).map fun j=>bS (lineA X j))=.ok ⟨i,atS X i,(List.range i).map (enA X),labsA X i,[]⟩
 | 0,_=>rfl
 | i+1,hi=>by
  have ih:=rowsA i (by omega)
  have h12:=atS_le X i
  have hb:=lenM_bd (formM (X i).op)
  have hop:(endA X i).op=(X i).op:=rfl
  rw [List.range_succ,List.map_append,rows_append,ih]
  simp only [List.map_cons,List.map_nil,List.length_map,List.length_range]
  rw [rowsZ,rowA X hn hX (by omega) _ _ (look_new X hn (by omega))]
  unfold Az.push
  rw [hop,if_neg (by simp only;omega)]
  simp only [rowsZ]
  congr 1
  show Az.mk _ _ _ _ _=Az.mk _ _ _ _ _
  unfold labsA
  rw [List.range_succ,List.map_append,Nat.add_comm 1 i]
  simp [enA,atS]
theorem rowsB:∀ i,i≤n→rowsZ 1 z00 ((List.range i).map fun j=>bS (lineB X j))=.ok ⟨i,atS X i,(List.range i).map (enB X),[],[]⟩
 | 0,_=>rfl
 | i+1,hi=>by
  have ih:=rowsB i (by omega)
  have h12:=atS_le X i
  have hb:=lenM_bd (formM (X i).op)
  have hop:(endB X i).op=(X i).op:=rfl
  rw [List.range_succ,List.map_append,rows_append,ih]
  simp only [List.map_cons,List.map_nil,List.length_map,List.length_range]
  rw [rowsZ,rowB X hn hX (by omega)]
  unfold Az.push
  rw [hop,if_neg (by simp only;omega)]
  simp only [rowsZ]
  congr 1
  show Az.mk _ _ _ _ _=Az.mk _ _ _ _ _
  rw [List.map_append,Nat.add_comm 1 i]
  simp [enB,atS]
theorem code_both:∀ (L:List Nat) (out:List Int),(∀ j∈L,j < n)→∃ r:Except Nat (List Int),codeZ (labsA X n) (L.map (enA X)) out=(match r with | .ok l=>.ok l | .error k=>.error (k,24))∧codeZ [] (L.map (enB X)) out=(match r with | .ok l=>.ok l | .error k=>.error (k,24))
 | [],out,_=>⟨.ok out,rfl,rfl⟩
 | j :: L,out,h=>by
  have hj:=h j List.mem_cons_self
  have o:=hX j hj
  have ih:=code_both L
  have hB:(enB X j).fix []=.ok ((endB X j).imm,farB X j):=by
   unfold En.fix
   rw [if_pos (show (enB X j).l.label.size=0 from rfl)]
   rfl
  rw [List.map_cons,List.map_cons,codeZ,codeZ,hB]
  have hA:(enA X j).fix (labsA X n)=.ok (if isT (X j).op=true then dT X j else (X j).v,farB X j):=by
   unfold En.fix farB
   by_cases hT:isT (X j).op=true
   ·have e1:(enA X j).l.label=bS (labW (X j).to_):=by
     show (if isT (X j).op=true then bS (labW (X j).to_) else ⟨#[]⟩)=_
     rw [if_pos hT]
    have e2:((atS X (X j).to_:Nat):Int) - ((enA X j).at_:Int) - (lenM (formM (enA X j).l.op):Int)=dT X j:=by
     show ((atS X (X j).to_:Nat):Int) - (atS X j:Int) - (lenM (formM (X j).op):Int)=dT X j
     unfold dT
     rw [atS]
     omega
    have e3:(enA X j).l.op=(X j).op:=rfl
    rw [e1,if_neg (show ¬ (bS (labW (X j).to_)).size=0 by rw [bS_len];exact (by decide:¬ (3=0))),look_old X hn o.to_]
    simp only
    rw [e2,e3,if_pos hT,hT]
    rfl
   ·have e1:(enA X j).l.label=⟨#[]⟩:=by
     show (if isT (X j).op=true then bS (labW (X j).to_) else ⟨#[]⟩)=_
     rw [if_neg hT]
    have e2:(enA X j).l.imm=(X j).v:=by
     show (if isT (X j).op=true then 0 else (X j).v)=_
     rw [if_neg hT]
    rw [e1,if_pos (show (⟨#[]⟩:ByteArray).size=0 from rfl),if_neg hT,Bool.eq_false_iff.2 hT,e2]
    rfl
  rw [hA]
  simp only
  cases hf:farB X j with
  | true=>exact ⟨.error (j+1),rfl,rfl⟩
  | false =>
   have him:(endB X j).imm=if isT (X j).op=true then dT X j else (X j).v:=by
    show (if isT (X j).op=true then (if fitsM (formM (X j).op) (dT X j)=true then dT X j else 0) else (X j).v)=_
    by_cases hT:isT (X j).op=true
    ·unfold farB at hf
     rw [hT] at hf
     have:fitsM (formM (X j).op) (dT X j)=true:=by simpa using hf
     rw [if_pos hT,if_pos hT,if_pos this]
    ·rw [if_neg hT,if_neg hT]
   simp only [Bool.false_eq_true,if_false]
   rw [him]
   exact ih _ fun k hk=>h k (List.mem_cons_of_mem _ hk)
omit hn hX in
theorem spl_lines:∀ L:List (List UInt8),(∀ x∈L,∀ c∈x,c≠10)→spl (L.flatMap fun x=>x ++ [10])=L ++ [[]]
 | [],_=>rfl
 | x :: L,h=>by
  have ih:=spl_lines L fun y hy=>h y (List.mem_cons_of_mem _ hy)
  have hx:spl x=[x]:=spl_miss x fun k e=>h x List.mem_cons_self 10 (List.mem_of_getElem? e) rfl
  rw [List.flatMap_cons,List.append_assoc]
  show spl (x ++ 10 :: (L.flatMap fun x=>x ++ [10]))=_
  rw [spl_append,hx,ih]
  rfl
omit hn hX in
theorem pieces_lines (L:List (List UInt8)) (h:∀ x∈L,∀ c∈x,c≠10∧c≠59):(pieces (bS (L.flatMap fun x=>x ++ [10]))).map cutZ=L.map bS ++ [⟨#[]⟩]:=by
 have e:pieces (bS (L.flatMap fun x=>x ++ [10]))=L.map bS ++ [⟨#[]⟩]:=by
  refine ba_inj ?_
  rw [pieces_spl _ _ (Nat.le_refl _),toS,spl_lines L fun x hx c hc=>(h x hx c hc).1,List.map_append,List.map_map]
  congr 1
  refine (List.map_id' L).symm.trans (List.map_congr_left fun x _=>(toS x).symm)
 rw [e,List.map_append,List.map_map]
 congr 1
 refine List.map_congr_left fun x hx=>?_
 exact cutZ_id fun k e=>by rw [toS] at e;exact (h x hx 59 (List.mem_of_getElem? e)).2 rfl
def textA (i:Nat):List UInt8:=((List.range i).map (lineA X)).flatMap fun x=>x ++ [10]
def textB (i:Nat):List UInt8:=((List.range i).map (lineB X)).flatMap fun x=>x ++ [10]
theorem asm_both:∃ r:Except Nat (List Int × Az × Az),asmZ (bS (textA X n))=(match r with | .ok (l,z,_)=>.ok (l,z) | .error k=>.error (k,24))∧asmZ (bS (textB X n))=(match r with | .ok (l,_,z)=>.ok (l,z) | .error k=>.error (k,24)) ∧
  (∀ l z y,r=.ok (l,z,y)→z.funcs=[]∧y.funcs=[]):=by
 have gg:∀ c:UInt8,gd c=true→c≠10∧c≠59:=u8_all _ (by decide +kernel)
 have hA:(pieces (bS (textA X n))).map cutZ=((List.range n).map fun j=>bS (lineA X j)) ++ [⟨#[]⟩]:=by
  unfold textA
  rw [pieces_lines _ (fun x hx c hc=>by
   obtain ⟨j,hj,rfl⟩:=List.mem_map.1 hx
   exact lineA_ok X hn hX (List.mem_range.1 hj) c hc),List.map_map]
  rfl
 have hB:(pieces (bS (textB X n))).map cutZ=((List.range n).map fun j=>bS (lineB X j)) ++ [⟨#[]⟩]:=by
  unfold textB
  rw [pieces_lines _ (fun x hx c hc=>by
   obtain ⟨j,hj,rfl⟩:=List.mem_map.1 hx
   exact gg c (lineB_gd X hn hX (List.mem_range.1 hj) c hc)),List.map_map]
  rfl
 unfold asmZ
 rw [hA,hB,rows_append,rows_append,rowsA X hn hX n (Nat.le_refl _),rowsB X hn hX n (Nat.le_refl _)]
 simp only [rowsZ,row_blank]
 unfold asmR
 simp only
 obtain ⟨r,h1,h2⟩:=code_both X hn hX (List.range n) [] fun j hj=>List.mem_range.1 hj
 rw [h1,h2]
 cases r with
 | error k=>exact ⟨.error k,rfl,rfl,fun l z y e=>by cases e⟩
 | ok l=>exact ⟨.ok (l,_,_),rfl,rfl,fun l z y e=>by cases e;exact ⟨rfl,rfl⟩⟩
end
end Go.Proofs.YtffojmgmpfjlhaaGreatDoor.Q
namespace Go.Proofs.YtffojmgmpfjlhaaGreatDoor.Q
open Go.Proofs.YtffojmgmpfjlhaaGreatDoor Go.RowKit Go.Proofs.YtffojmgmpfjlhaaGreatDoorW.PrintWords Go.Proofs.YtffojmgmpfjlhaaGreatDoorW.PrintLast Go.Proofs.YtffojmgmpfjlhaaGreatDoorW.PrintMore
attribute [local go_sem] max2_int min2_int max_two min_two max_three min_three max_four min_four
def rzDigits.f:Nat→Int→Option (ByteArray)
 | 0,_=>none
 | k+1,a0=>if a0 < 10 then (some (strOfNums (([(IntKind.u64.wrap (48+a0)) % 256]:List Int)))) else ((rzDigits.f k (IntKind.u64.wrap (Int.tdiv a0 10))).bind fun t405=>((some (([(IntKind.u64.wrap (48+(Int.tmod a0 10))) % 256]:List Int):List Int)).bind fun y406=>(if t405.size+(strOfNums y406).size≤9223372036854775807 then (some (t405 ++ (strOfNums y406))) else (none))))
theorem rzDigits.mono_l:∀ k,(∀ y0,LeO (rzDigits.f k y0) (rzDigits.f (k+1) y0))
 | 0=>fun _ r h=>by simp [rzDigits.f] at h
 | k+1=>by
  have ih0:=rzDigits.mono_l k
  ·intro y0;unfold rzDigits.f;repeat' first
   | (with_reducible exact ih0 _)
   | (with_reducible exact LeO.refl _)
   | (with_reducible exact LeO.none _)
   | (with_reducible refine LeO.ite ?_ ?_)
   | (with_reducible refine LeO.bind ?_ (fun _=>?_))
   | exact LeO.none _
   | refine LeO.ite ?_ ?_
   | refine LeO.bind ?_ (fun _=>?_)
theorem rzDigits.mono:∀ a0 k,LeO (rzDigits.f k a0) (rzDigits.f (k+1) a0):=by
 intro a0 k;have ih0:=rzDigits.mono_l k;exact ih0 a0
def rzDigits.T3:Bool × List (List Nat × List Nat):=(true,[([],[]),([0],[0]),([1],[1]),([],[]),([3],[3]),([4],[4]),([5],[5]),([6],[6]),([7],[7]),([2,8],[2,8]),([9,2,0,1,2,3,4,5,6,7,8,9],[9])])
def rzDigits.B3:List Nat:=[0,1,3,0,8,24,56,120,248,511,1023]
theorem rzDigits.tab3:rtab .any (opsOf Tryz.f38 3)=rzDigits.T3:=by kernel_rfl
theorem rzDigits.bits3:waitsOk rzDigits.T3.2 rzDigits.B3=true:=by kernel_rfl
set_option maxHeartbeats 8000000 in
set_option maxRecDepth 100000 in
theorem rzDigits.calls (k:Nat):∀ (a0:Int) (r:ByteArray) (w:World) (h:rzDigits.f k a0=some r),
  Calls Tryz.prog 38 #[.int .u64 a0] w fun e w'=>e=.returned (.string r)∧Below w.heap.size w w':=by
 induction k using Nat.strongRecOn with
 | _ k ih =>
 intro a0 r w h;cases k with
 | zero=>exact absurd h (by simp [rzDigits.f])
 | succ k =>
 simp only [rzDigits.f] at h;have HB:=Aside0.mk (Below.refl w.heap.size w);have H:(if a0 < 10 then (some (strOfNums (([(IntKind.u64.wrap (48+a0)) % 256]:List Int)))) else ((rzDigits.f k (IntKind.u64.wrap (Int.tdiv a0 10))).bind fun t405=>((some (([(IntKind.u64.wrap (48+(Int.tmod a0 10))) % 256]:List Int):List Int)).bind fun y406=>(if t405.size+(strOfNums y406).size≤9223372036854775807 then (some (t405 ++ (strOfNums y406))) else (none)))))=some r:=h;clear h;by_cases c2:a0 < 10
 ·rw [if_pos c2] at H;have c2b0:=decide_eq_true c2;clear c2;obtain ⟨y402,hy402⟩:∃ y_:List Int,y_=(([(IntKind.u64.wrap (48+a0)) % 256]:List Int)):=⟨_,rfl⟩;replace H:(some (strOfNums y402))=some r:=by first | (rw [hy402];with_reducible exact H) | (have H2_:=(Option.bind_some _ _).symm.trans H;rw [hy402];with_reducible exact H2_) | (have H2_:=(Option.bind_some _ _).symm.trans H;with_reducible exact H2_) | with_reducible exact H | (rw [hy402];exact H) | exact H
  have Ny402:=Aside0.mk hy402;clear hy402;obtain rfl:=Option.some.inj H;go_enter Tryz.func38,Tryz.ntmps38
  go_wp2_with (first | ((with_reducible refine gate_dst (N:=8) rfl ?_);refine Kd.R_lit (Kd.int .u8) _ 5 ?hg (N:=8) ?hd (xs:=([(IntKind.u64.wrap (48+a0)) % 256]:List Int)) (inner:=[.int .u8 ((IntKind.u64.wrap (48+a0)) % 256)]) (ok:=fun _=>True) (okp:=fun _=>True) ?hr ?hp (fun _ hk=>hk) trivial (Below.refl _ _) (Nat.le_refl _) (by simp) ?_;(case hd=>rfl);(case hg=>rfl);(case hr=>first | (go_simp;done) | (go_simp;rfl));(case hp=>exact (Reps.one (show Kd.M (Kd.int .u8) _ _ _ ((IntKind.u64.wrap (48+a0)) % 256) [.int .u8 ((IntKind.u64.wrap (48+a0)) % 256)] from rfl) (Reps.none _ _)));intro v403 w3 ho4 hb hg_ hnew_;clear hg_ hnew_;(first | rw [← Ny402.out] at ho4 | (simp only [Int.reduceToNat] at ho4;rw [← Ny402.out] at ho4));have n0_:=Aside0.mk (Kd.R_lower ho4 (below_size blw));have n1_:=Aside0.mk (below_step blw hb);clear HB;have HO404:=n0_;have HB:=n1_;clear n0_ n1_;clear hb ho4;have hcv5:=own_string (P:=Tryz.prog) Tryz.underlying24 Tryz.underlying5 Tryz.underlying9 (Kd.own_of_R HO404.out)))
  go_ret;exact ⟨rew,blw⟩
 ·rw [if_neg c2] at H;have c2b0:=decide_eq_false c2;clear c2;replace H:=Option.bind_eq_some_iff.mp H;obtain ⟨t405,A60,H⟩:=H;replace H:((some (([(IntKind.u64.wrap (48+(Int.tmod a0 10))) % 256]:List Int):List Int)).bind fun y406=>(if t405.size+(strOfNums y406).size≤9223372036854775807 then (some (t405 ++ (strOfNums y406))) else (none)))=some r:=H;have A6:=Aside0.mk A60;clear A60;obtain ⟨y406,hy406⟩:∃ y_:List Int,y_=(([(IntKind.u64.wrap (48+(Int.tmod a0 10))) % 256]:List Int)):=⟨_,rfl⟩;replace H:(if t405.size+(strOfNums y406).size≤9223372036854775807 then (some (t405 ++ (strOfNums y406))) else (none))=some r:=by first | (rw [hy406];with_reducible exact H) | (have H2_:=(Option.bind_some _ _).symm.trans H;rw [hy406];with_reducible exact H2_) | (have H2_:=(Option.bind_some _ _).symm.trans H;with_reducible exact H2_) | with_reducible exact H | (rw [hy406];exact H) | exact H
  have Ny406:=Aside0.mk hy406;clear hy406;by_cases c7:t405.size+(strOfNums y406).size≤9223372036854775807
  ·rw [if_pos c7] at H;have c7b0:=eq_true c7;have c7b1:=decide_eq_true c7;try have c7b2:(9223372036854775807 < t405.size+(strOfNums y406).size)=False:=eq_false (Nat.not_lt.2 c7)
   obtain rfl:=Option.some.inj H;go_enter Tryz.func38,Tryz.ntmps38
   try go_wp2
   have n0_:=Aside0.mk (below_drew1 HB.out);clear HB;have HB:=n0_;clear n0_;refine start_ (n:=11) (S:=fun w'=>True) (ds:=[]) #[zF,zF,zF,zF,zF,zF,zF,zF,zF,zF,zF] (by kernel_rfl) rfl rfl trivial (fun hHeld=>?_);refine with_tabW rzDigits.tab3 rzDigits.bits3 (fun HT_ HW_=>?_);generalize w.drew=w8 at HB hHeld ⊢;refine pure_ (i:=0) (N:=some 10) (v:=?_) (a':=?_) #[zT,zF,zF,zF,zF,zF,zF,zF,zF,zF,zF] rfl rfl (any_of HT_.out (by kernel_rfl)) (fun _ _ _ h=>h) (Or.inl ⟨by rfl,?_⟩) ?_ ?_;rotate_left
   ·intro w';go_simp;with_reducible rfl
   rotate_left
   ·exact zp
   refine pure_ (i:=1) (N:=some 11) (v:=?_) (a':=?_) #[zT,zT,zF,zF,zF,zF,zF,zF,zF,zF,zF] rfl rfl (any_of HT_.out (by kernel_rfl)) (fun _ _ _ h=>h) (Or.inl ⟨by rfl,?_⟩) ?_ ?_;rotate_left
   ·intro w';go_simp;with_reducible rfl
   rotate_left
   ·exact zp
   refine pure_ (i:=3) (N:=some 13) (v:=?_) (a':=?_) #[zT,zT,zF,zT,zF,zF,zF,zF,zF,zF,zF] rfl rfl (any_of HT_.out (by kernel_rfl)) (fun _ _ _ h=>h) (Or.inl ⟨by rfl,?_⟩) ?_ ?_;rotate_left
   ·intro w';go_simp;with_reducible rfl
   rotate_left
   ·exact zp
   refine pure_ (i:=4) (N:=some 14) (v:=?_) (a':=?_) #[zT,zT,zF,zT,zT,zF,zF,zF,zF,zF,zF] rfl rfl (any_of HT_.out (by kernel_rfl)) (fun _ _ _ h=>h) (Or.inl ⟨by rfl,?_⟩) ?_ ?_;rotate_left
   ·intro w';go_simp;with_reducible rfl
   rotate_left
   ·exact zp
   refine pure_ (i:=5) (N:=some 15) (v:=?_) (a':=?_) #[zT,zT,zF,zT,zT,zT,zF,zF,zF,zF,zF] rfl rfl (any_of HT_.out (by kernel_rfl)) (fun _ _ _ h=>h) (Or.inl ⟨by rfl,?_⟩) ?_ ?_;rotate_left
   ·intro w';go_simp;with_reducible rfl
   rotate_left
   ·exact zp
   refine pure_ (i:=6) (N:=some 16) (v:=?_) (a':=?_) #[zT,zT,zF,zT,zT,zT,zT,zF,zF,zF,zF] rfl rfl (any_of HT_.out (by kernel_rfl)) (fun _ _ _ h=>h) (Or.inl ⟨by rfl,?_⟩) ?_ ?_;rotate_left
   ·intro w';go_simp;with_reducible rfl
   rotate_left
   ·exact zp
   refine join_ (σ:=Value) 2 #[zT,zT,zT,zT,zT,zT,zT,zT,zT,zF,zF] (fun s_=>[(12,.string t405),(17,s_),(18,.string (strOfNums y406))]) (fun s_ w'=>(Kd.R (Kd.int .u8) 5 w' w.heap.size (fun _=>True) s_ y406)∧(Below w.heap.size w w')) ?_ ?_;rotate_left
   ·intro hCont;refine two_ (i:=2) (j:=7) (Ni:=some 12) (Nj:=some 17) #[zT,zT,zT,zT,zT,zT,zT,zF,zF,zF,zF] #[zT,zT,zF,zT,zT,zT,zT,zT,zF,zF,zF] rfl rfl rfl rfl (two_of HT_.out (by kernel_rfl)) (by decide) (by decide) (fun K hK=>?_) (fun K hK=>?_)
    ·skip
     refine goes_ Tryz.func38 (by kernel_rfl) rfl #[.int .u64 (IntKind.u64.wrap (Int.tdiv a0 10))] (by rfl) rfl rfl fq ?_;with_reducible refine (ih k (by omega) (IntKind.u64.wrap (Int.tdiv a0 10)) t405 _ A6.out).mono ?_
     rintro e w9 ⟨rfl,hb⟩;refine ⟨_,rfl,?_⟩;have n0_:=Aside0.mk (below_step blw hb);clear HB;have HB:=n0_;clear n0_;(try clear hb);(try clear hb2);(try clear hk);(try clear hi);refine hK.out _ _ trivial (fun hHeld=>?_);clear hK K;refine norm_ (a':=?_) ?_ ?_;rotate_left
     ·show Act.put _ (some 12) _=_;simp only [Act.put,List.setIfInBounds_toArray,List.set_cons_zero,List.set_cons_succ,i64_w,i32_w];rfl
     refine one_ (i:=7) (N:=some 17) #[zT,zT,zT,zT,zT,zT,zT,zT,zF,zF,zF] rfl rfl (one_of HT_.out (by kernel_rfl)) (by decide) (fun K hK=>?_);refine Kd.R_lit_step (Kd.int .u8) _ 5 ?hg (N:=17) ?hd (xs:=([(IntKind.u64.wrap (48+(Int.tmod a0 10))) % 256]:List Int)) (inner:=[.int .u8 ((IntKind.u64.wrap (48+(Int.tmod a0 10))) % 256)]) (ok:=fun _=>True) (okp:=fun _=>True) ?hr ?hp (fun _ hk=>hk) trivial (Below.refl _ _) (Nat.le_refl _) (by simp) ?_;(case hd=>rfl);(case hg=>rfl);(case hr=>first | (go_simp;done) | (go_simp;rfl));(case hp=>exact (Reps.one (show Kd.M (Kd.int .u8) _ _ _ ((IntKind.u64.wrap (48+(Int.tmod a0 10))) % 256) [.int .u8 ((IntKind.u64.wrap (48+(Int.tmod a0 10))) % 256)] from rfl) (Reps.none _ _)));intro v407 w10 ho11 hb hg_ hnew_;clear hg_ hnew_;(first | rw [← Ny406.out] at ho11 | (simp only [Int.reduceToNat] at ho11;rw [← Ny406.out] at ho11));have n0_:=Aside0.mk (Kd.R_lower ho11 (below_size blw));have n1_:=Aside0.mk (below_step blw hb);clear HB;have HO408:=n0_;have HB:=n1_;clear n0_ n1_;clear hb ho11;refine hK.out _ _ trivial (fun hHeld=>?_);clear hK K;refine norm_ (a':=?_) ?_ ?_;rotate_left
     ·show Act.put _ (some 17) _=_;simp only [Act.put,List.setIfInBounds_toArray,List.set_cons_zero,List.set_cons_succ,i64_w,i32_w];rfl
     refine one_ (i:=8) (N:=some 18) #[zT,zT,zT,zT,zT,zT,zT,zT,zT,zF,zF] rfl rfl (one_of HT_.out (by kernel_rfl)) (by decide) (fun K hK=>?_);have hcv12:=own_string (P:=Tryz.prog) Tryz.underlying24 Tryz.underlying5 Tryz.underlying9 (Kd.own_of_R HO408.out);refine value_ (w1:=?_) (v:=?_) (by rfl) rfl ?_ ?_;rotate_left 2
     ·go_simp;constructor
      ·rfl
      ·rfl
     clear hcv12;refine hK.out _ _ trivial (fun hHeld=>?_);clear hK K;refine norm_ (a':=?_) ?_ ?_;rotate_left
     ·show Act.put _ (some 18) _=_;simp only [Act.put,List.setIfInBounds_toArray,List.set_cons_zero,List.set_cons_succ,i64_w,i32_w];rfl
     exact norm_ (by simp only [putAll,Act.put,List.setIfInBounds_toArray,List.set_cons_zero,List.set_cons_succ]) (hCont (v407) _ ⟨(by (with_reducible repeat (first | apply Kd.R_alloc | apply Kd.R_drewN | apply Kd.R_drew));exact HO408.out),blw⟩)
    ·skip
     refine Kd.R_lit_step (Kd.int .u8) _ 5 ?hg (N:=17) ?hd (xs:=([(IntKind.u64.wrap (48+(Int.tmod a0 10))) % 256]:List Int)) (inner:=[.int .u8 ((IntKind.u64.wrap (48+(Int.tmod a0 10))) % 256)]) (ok:=fun _=>True) (okp:=fun _=>True) ?hr ?hp (fun _ hk=>hk) trivial (Below.refl _ _) (Nat.le_refl _) (by simp) ?_;(case hd=>rfl);(case hg=>rfl);(case hr=>first | (go_simp;done) | (go_simp;rfl));(case hp=>exact (Reps.one (show Kd.M (Kd.int .u8) _ _ _ ((IntKind.u64.wrap (48+(Int.tmod a0 10))) % 256) [.int .u8 ((IntKind.u64.wrap (48+(Int.tmod a0 10))) % 256)] from rfl) (Reps.none _ _)));intro v407 w9 ho10 hb hg_ hnew_;clear hg_ hnew_;(first | rw [← Ny406.out] at ho10 | (simp only [Int.reduceToNat] at ho10;rw [← Ny406.out] at ho10));have n0_:=Aside0.mk (Kd.R_lower ho10 (below_size blw));have n1_:=Aside0.mk (below_step blw hb);clear HB;have HO408:=n0_;have HB:=n1_;clear n0_ n1_;clear hb ho10;refine hK.out _ _ trivial (fun hHeld=>?_);clear hK K;refine norm_ (a':=?_) ?_ ?_;rotate_left
     ·show Act.put _ (some 17) _=_;simp only [Act.put,List.setIfInBounds_toArray,List.set_cons_zero,List.set_cons_succ,i64_w,i32_w];rfl
     refine two_ (i:=2) (j:=8) (Ni:=some 12) (Nj:=some 18) #[zT,zT,zT,zT,zT,zT,zT,zT,zF,zF,zF] #[zT,zT,zF,zT,zT,zT,zT,zT,zT,zF,zF] rfl rfl rfl rfl (two_of HT_.out (by kernel_rfl)) (by decide) (by decide) (fun K hK=>?_) (fun K hK=>?_)
     ·skip
      refine goes_ Tryz.func38 (by kernel_rfl) rfl #[.int .u64 (IntKind.u64.wrap (Int.tdiv a0 10))] (by rfl) rfl rfl fq ?_;with_reducible refine (ih k (by omega) (IntKind.u64.wrap (Int.tdiv a0 10)) t405 _ A6.out).mono ?_
      rintro e w11 ⟨rfl,hb⟩;refine ⟨_,rfl,?_⟩;have n0_:=Aside0.mk (Kd.R_below (by (with_reducible repeat (first | apply Kd.R_alloc | apply Kd.R_drewN | apply Kd.R_drew));exact HO408.out) hb);have n1_:=Aside0.mk (below_step blw hb);clear HO408;clear HB;have HO408:=n0_;have HB:=n1_;clear n0_ n1_;(try clear hb);(try clear hb2);(try clear hk);(try clear hi);refine hK.out _ _ trivial (fun hHeld=>?_);clear hK K;refine norm_ (a':=?_) ?_ ?_;rotate_left
      ·show Act.put _ (some 12) _=_;simp only [Act.put,List.setIfInBounds_toArray,List.set_cons_zero,List.set_cons_succ,i64_w,i32_w];rfl
      refine one_ (i:=8) (N:=some 18) #[zT,zT,zT,zT,zT,zT,zT,zT,zT,zF,zF] rfl rfl (one_of HT_.out (by kernel_rfl)) (by decide) (fun K hK=>?_);have hcv12:=own_string (P:=Tryz.prog) Tryz.underlying24 Tryz.underlying5 Tryz.underlying9 (Kd.own_of_R HO408.out);refine value_ (w1:=?_) (v:=?_) (by rfl) rfl ?_ ?_;rotate_left 2
      ·go_simp;constructor
       ·rfl
       ·rfl
      clear hcv12;refine hK.out _ _ trivial (fun hHeld=>?_);clear hK K;refine norm_ (a':=?_) ?_ ?_;rotate_left
      ·show Act.put _ (some 18) _=_;simp only [Act.put,List.setIfInBounds_toArray,List.set_cons_zero,List.set_cons_succ,i64_w,i32_w];rfl
      exact norm_ (by simp only [putAll,Act.put,List.setIfInBounds_toArray,List.set_cons_zero,List.set_cons_succ]) (hCont (v407) _ ⟨(by (with_reducible repeat (first | apply Kd.R_alloc | apply Kd.R_drewN | apply Kd.R_drew));exact HO408.out),blw⟩)
     ·skip
      have hcv11:=own_string (P:=Tryz.prog) Tryz.underlying24 Tryz.underlying5 Tryz.underlying9 (Kd.own_of_R HO408.out);refine value_ (w1:=?_) (v:=?_) (by rfl) rfl ?_ ?_;rotate_left 2
      ·go_simp;constructor
       ·rfl
       ·rfl
      clear hcv11;refine hK.out _ _ trivial (fun hHeld=>?_);clear hK K;refine norm_ (a':=?_) ?_ ?_;rotate_left
      ·show Act.put _ (some 18) _=_;simp only [Act.put,List.setIfInBounds_toArray,List.set_cons_zero,List.set_cons_succ,i64_w,i32_w];rfl
      refine one_ (i:=2) (N:=some 12) #[zT,zT,zT,zT,zT,zT,zT,zT,zT,zF,zF] rfl rfl (one_of HT_.out (by kernel_rfl)) (by decide) (fun K hK=>?_);refine goes_ Tryz.func38 (by kernel_rfl) rfl #[.int .u64 (IntKind.u64.wrap (Int.tdiv a0 10))] (by rfl) rfl rfl fq ?_;with_reducible refine (ih k (by omega) (IntKind.u64.wrap (Int.tdiv a0 10)) t405 _ A6.out).mono ?_
      rintro e w12 ⟨rfl,hb⟩;refine ⟨_,rfl,?_⟩;have n0_:=Aside0.mk (Kd.R_below (by (with_reducible repeat (first | apply Kd.R_alloc | apply Kd.R_drewN | apply Kd.R_drew));exact HO408.out) hb);have n1_:=Aside0.mk (below_step blw hb);clear HO408;clear HB;have HO408:=n0_;have HB:=n1_;clear n0_ n1_;(try clear hb);(try clear hb2);(try clear hk);(try clear hi);refine hK.out _ _ trivial (fun hHeld=>?_);clear hK K;refine norm_ (a':=?_) ?_ ?_;rotate_left
      ·show Act.put _ (some 12) _=_;simp only [Act.put,List.setIfInBounds_toArray,List.set_cons_zero,List.set_cons_succ,i64_w,i32_w];rfl
      exact norm_ (by simp only [putAll,Act.put,List.setIfInBounds_toArray,List.set_cons_zero,List.set_cons_succ]) (hCont (v407) _ ⟨(by (with_reducible repeat (first | apply Kd.R_alloc | apply Kd.R_drewN | apply Kd.R_drew));exact HO408.out),blw⟩)
   rintro v407 w13 ⟨h0_,h1_⟩;have n0_:Aside0 (Kd.R (Kd.int .u8) 5 w13 w.heap.size (fun _=>True) v407 y406):=⟨h0_⟩;have n1_:Aside0 (Below w.heap.size w w13):=⟨h1_⟩;clear HB;clear h0_ h1_;have HO408:=n0_;have HB:=n1_;clear n0_ n1_;have hHeld:=trivial;refine norm_ (a':=?_) ?_ ?_;rotate_left
   ·simp only [putAll,Act.put,List.setIfInBounds_toArray,List.set_cons_zero,List.set_cons_succ];rfl
   refine pure_ (i:=9) (N:=some 19) (v:=?_) (a':=?_) #[zT,zT,zT,zT,zT,zT,zT,zT,zT,zT,zF] rfl rfl (any_of HT_.out (by kernel_rfl)) (fun _ _ _ h=>h) (Or.inl ⟨by rfl,?_⟩) ?_ ?_;rotate_left
   ·intro w';go_simp;with_reducible rfl
   rotate_left
   ·exact zp
   refine pure_ (i:=10) (N:=some 2) (v:=?_) (a':=?_) #[zT,zT,zT,zT,zT,zT,zT,zT,zT,zT,zT] rfl rfl (any_of HT_.out (by kernel_rfl)) (fun _ _ _ h=>h) (Or.inl ⟨by rfl,?_⟩) ?_ ?_;rotate_left
   ·intro w';go_simp;with_reducible rfl
   rotate_left
   ·exact zp
   refine done_ (done_of HT_.out (by kernel_rfl)) ?_;try go_wp2
   go_ret;exact ⟨rew,blw⟩
  ·rw [if_neg c7] at H;exact absurd H (by simp)
def insn_Len.f (k:Nat) (a0_0:Int) (a0_1:Int) (a0_2:Int) (a0_3:Int):Option (Int × Int):=(insn_Check.f k a0_0 a0_1 a0_2 a0_3).bind fun t832=>(if t832=0 then ((insn_kindOf.f a0_0).bind fun bt833=>((insn_length.f k bt833.2).bind fun t835=>(some (t835,0)))) else (some (0,t832)))
theorem insn_Len.mono:∀ a0 a1 a2 a3 k,LeO (insn_Len.f k a0 a1 a2 a3) (insn_Len.f (k+1) a0 a1 a2 a3):=by
 intro a0 a1 a2 a3 k;unfold insn_Len.f;repeat' first
   | (with_reducible exact insn_Check.mono _ _ _ _ _)
   | (with_reducible exact insn_length.mono _ _)
   | (with_reducible exact LeO.refl _)
   | (with_reducible exact LeO.none _)
   | (with_reducible refine LeO.ite ?_ ?_)
   | (with_reducible refine LeO.bind ?_ (fun _=>?_))
   | exact LeO.none _
   | refine LeO.ite ?_ ?_
   | refine LeO.bind ?_ (fun _=>?_)
set_option maxHeartbeats 8000000 in
set_option maxRecDepth 100000 in
theorem insn_Len.calls (k:Nat) (a0_0:Int) (a0_1:Int) (a0_2:Int) (a0_3:Int) (r1:Int) (r2:Int) (w:World) (h:insn_Len.f k a0_0 a0_1 a0_2 a0_3=some (r1,r2)) (hgw:GW w) :
  Calls Tryz.prog 36 #[.agg #[.int .i64 a0_0,.int .i64 a0_1,.int .i64 a0_2,.int .i64 a0_3]] w fun e w'=>e=.returned (.tuple #[.int .i64 r1,.int .i64 r2])∧Below w.heap.size w w':=by
 have hu23:=Tryz.underlying23;have HB:=Aside0.mk (Below.refl w.heap.size w);have H:((insn_Check.f k a0_0 a0_1 a0_2 a0_3).bind fun t832=>(if t832=0 then ((insn_kindOf.f a0_0).bind fun bt833=>((insn_length.f k bt833.2).bind fun t835=>(some (t835,0)))) else (some (0,t832))))=some (r1,r2):=h;clear h;replace H:=Option.bind_eq_some_iff.mp H;obtain ⟨t832,A20,H⟩:=H;replace H:(if t832=0 then ((insn_kindOf.f a0_0).bind fun bt833=>((insn_length.f k bt833.2).bind fun t835=>(some (t835,0)))) else (some (0,t832)))=some (r1,r2):=H;have A2:=Aside0.mk A20;clear A20;by_cases c3:t832=0
 ·rw [if_pos c3] at H;obtain ⟨c3b0,c3b1⟩:=bqt c3;clear c3;replace H:=Option.bind_eq_some_iff.mp H;obtain ⟨⟨t833,t834⟩,A40,H⟩:=H;replace H:((insn_length.f k t834).bind fun t835=>(some (t835,0)))=some (r1,r2):=H;have A4:=Aside0.mk A40;clear A40;replace H:=Option.bind_eq_some_iff.mp H;obtain ⟨t835,A50,H⟩:=H;replace H:(some (t835,0))=some (r1,r2):=H;have A5:=Aside0.mk A50;clear A50;simp only [Option.some.injEq,Prod.mk.injEq] at H;obtain ⟨rfl,rfl⟩:=H;go_enter Tryz.func36,Tryz.ntmps36
  go_wp2_with (first | ((with_reducible refine gate_dst (N:=1) rfl ?_);refine box_event ?hg (N:=1) ?hd (cs:=#[.int .i64 a0_0,.int .i64 a0_1,.int .i64 a0_2,.int .i64 a0_3]) (t:=23) ?hr ?_;(case hd=>rfl);(case hg=>rfl);(case hr=>first | (go_simp;done) | (go_simp;rfl));intro gb831 hg w6 hbox hb;have n0_:=Aside0.mk (below_step blw hb);have n1_:=Aside0.mk (hbox);have n2_:=Aside0.mk ((by rw [hg];exact (below_size blw):w.heap.size≤gb831));have n3_:=Aside0.mk ((by rw [hg];exact (below_size blw):w.heap.size≤gb831));clear HB;have HB:=n0_;have BK831:=n1_;have GW831:=n2_;have GE831:=n3_;clear n0_ n1_ n2_ n3_;clear hb hbox hg;obtain ⟨hcz7_0,hcz7_1,hcz7_2,hcz7_3,hfz7_0,hfz7_1,hfz7_2,hfz7_3⟩:=bz4 BK831.out) | ((with_reducible refine gate_callee (f:=31) rfl ?_);refine goesL_ (some 6) rfl rfl Tryz.func31 (by kernel_rfl) rfl #[.agg #[.int .i64 a0_0,.int .i64 a0_1,.int .i64 a0_2,.int .i64 a0_3]] rfl fq ?_;(with_reducible refine (insn_Check.calls k a0_0 a0_1 a0_2 a0_3 t832 _ A2.out gwy).mono ?_);rintro e w8 ⟨rfl,hb⟩;refine ⟨_,rfl,?_⟩;have n0_:=Aside0.mk (blk_below (g:=gb831) (o:=.cells #[.int .i64 a0_0,.int .i64 a0_1,.int .i64 a0_2,.int .i64 a0_3] 23 (0,0)) bko hb);have n1_:=Aside0.mk (below_step blw hb);clear BK831;clear HB;have BK831:=n0_;have HB:=n1_;clear n0_ n1_;(try clear hb);(try clear hb2);(try clear hk);(try clear hi);obtain ⟨hcz9_0,hcz9_1,hcz9_2,hcz9_3,hfz9_0,hfz9_1,hfz9_2,hfz9_3⟩:=bz4 BK831.out) | ((with_reducible refine gate_callee (f:=55) rfl ?_);refine goesL_ (some 12) rfl rfl Tryz.func55 (by kernel_rfl) rfl #[.int .i64 a0_0] rfl fq ?_;(with_reducible refine (insn_kindOf.calls a0_0 t833 t834 _ A4.out gwy).mono ?_);rintro e w10 ⟨rfl,hb⟩;refine ⟨_,rfl,?_⟩;have n0_:=Aside0.mk (blk_below (g:=gb831) (o:=.cells #[.int .i64 a0_0,.int .i64 a0_1,.int .i64 a0_2,.int .i64 a0_3] 23 (0,0)) bko hb);have n1_:=Aside0.mk (below_step blw hb);clear BK831;clear HB;have BK831:=n0_;have HB:=n1_;clear n0_ n1_;(try clear hb);(try clear hb2);(try clear hk);(try clear hi)) | ((with_reducible refine gate_callee (f:=56) rfl ?_);refine goesL_ (some 14) rfl rfl Tryz.func56 (by kernel_rfl) rfl #[.int .i64 t834] rfl fq ?_;(with_reducible refine (insn_length.calls k t834 t835 _ A5.out).mono ?_);rintro e w' ⟨rfl,⟨nd,rfl⟩⟩;refine ⟨_,rfl,?_⟩))
  go_ret2;exact ⟨rew,blw⟩
 ·rw [if_neg c3] at H;obtain ⟨c3b0,c3b1⟩:=bqf c3;simp only [Option.some.injEq,Prod.mk.injEq] at H;obtain ⟨rfl,rfl⟩:=H;go_enter Tryz.func36,Tryz.ntmps36
  go_wp2_with (first | ((with_reducible refine gate_dst (N:=1) rfl ?_);refine box_event ?hg (N:=1) ?hd (cs:=#[.int .i64 a0_0,.int .i64 a0_1,.int .i64 a0_2,.int .i64 a0_3]) (t:=23) ?hr ?_;(case hd=>rfl);(case hg=>rfl);(case hr=>first | (go_simp;done) | (go_simp;rfl));intro gb831 hg w11 hbox hb;have n0_:=Aside0.mk (below_step blw hb);have n1_:=Aside0.mk (hbox);have n2_:=Aside0.mk ((by rw [hg];exact (below_size blw):w.heap.size≤gb831));have n3_:=Aside0.mk ((by rw [hg];exact (below_size blw):w.heap.size≤gb831));clear HB;have HB:=n0_;have BK831:=n1_;have GW831:=n2_;have GE831:=n3_;clear n0_ n1_ n2_ n3_;clear hb hbox hg;obtain ⟨hcz12_0,hcz12_1,hcz12_2,hcz12_3,hfz12_0,hfz12_1,hfz12_2,hfz12_3⟩:=bz4 BK831.out) | ((with_reducible refine gate_callee (f:=31) rfl ?_);refine goesL_ (some 6) rfl rfl Tryz.func31 (by kernel_rfl) rfl #[.agg #[.int .i64 a0_0,.int .i64 a0_1,.int .i64 a0_2,.int .i64 a0_3]] rfl fq ?_;(with_reducible refine (insn_Check.calls k a0_0 a0_1 a0_2 a0_3 t832 _ A2.out gwy).mono ?_);rintro e w13 ⟨rfl,hb⟩;refine ⟨_,rfl,?_⟩;have n0_:=Aside0.mk (blk_below (g:=gb831) (o:=.cells #[.int .i64 a0_0,.int .i64 a0_1,.int .i64 a0_2,.int .i64 a0_3] 23 (0,0)) bko hb);have n1_:=Aside0.mk (below_step blw hb);clear BK831;clear HB;have BK831:=n0_;have HB:=n1_;clear n0_ n1_;(try clear hb);(try clear hb2);(try clear hk);(try clear hi)))
  go_ret2;exact ⟨rew,blw⟩
def insn_isBranch.f (a0:Int):Option (Bool):=if a0≥21 then (if a0≤25 then (some true) else (if a0=27 then (some true) else (some (a0 == 32)))) else (if a0=27 then (some true) else (some (a0 == 32)))
set_option maxHeartbeats 8000000 in
set_option maxRecDepth 100000 in
theorem insn_isBranch.calls (a0:Int) (r:Bool) (w:World) (h:insn_isBranch.f a0=some r) :
  Calls Tryz.prog 81 #[.int .i64 a0] w fun e w'=>e=.returned (.bool r)∧Drawn0 w w':=by
 have H:(if a0≥21 then (if a0≤25 then (some true) else (if a0=27 then (some true) else (some (a0 == 32)))) else (if a0=27 then (some true) else (some (a0 == 32))))=some r:=h;clear h;by_cases c2:a0≥21
 ·rw [if_pos c2] at H;have c2b0:decide (21≤a0)=true:=decide_eq_true c2;clear c2;by_cases c3:a0≤25
  ·rw [if_pos c3] at H;have c3b0:=decide_eq_true c3;clear c3;obtain rfl:=Option.some.inj H;go_enter Tryz.func81,Tryz.ntmps81
   go_wp2;go_ret;exact ⟨by first | rfl | (simp;done) | (simp [*];done),by repeat (first | exact Drawn0.refl _ | apply Drawn0.step)⟩
  ·rw [if_neg c3] at H;have c3b0:=decide_eq_false c3;clear c3;by_cases c4:a0=27
   ·rw [if_pos c4] at H;obtain ⟨c4b0,c4b1⟩:=bqt c4;clear c4;obtain rfl:=Option.some.inj H;go_enter Tryz.func81,Tryz.ntmps81
    go_wp2;go_ret;exact ⟨by first | rfl | (simp;done) | (simp [*];done),by repeat (first | exact Drawn0.refl _ | apply Drawn0.step)⟩
   ·rw [if_neg c4] at H;obtain ⟨c4b0,c4b1⟩:=bqf c4;obtain rfl:=Option.some.inj H;go_enter Tryz.func81,Tryz.ntmps81
    go_wp2;go_ret;exact ⟨by first | rfl | (simp;done) | (simp [*];done),by repeat (first | exact Drawn0.refl _ | apply Drawn0.step)⟩
 ·rw [if_neg c2] at H;have c2b0:decide (21≤a0)=false:=decide_eq_false c2;clear c2;by_cases c5:a0=27
  ·rw [if_pos c5] at H;obtain ⟨c5b0,c5b1⟩:=bqt c5;clear c5;obtain rfl:=Option.some.inj H;go_enter Tryz.func81,Tryz.ntmps81
   go_wp2;go_ret;exact ⟨by first | rfl | (simp;done) | (simp [*];done),by repeat (first | exact Drawn0.refl _ | apply Drawn0.step)⟩
  ·rw [if_neg c5] at H;obtain ⟨c5b0,c5b1⟩:=bqf c5;obtain rfl:=Option.some.inj H;go_enter Tryz.func81,Tryz.ntmps81
   go_wp2;go_ret;exact ⟨by first | rfl | (simp;done) | (simp [*];done),by repeat (first | exact Drawn0.refl _ | apply Drawn0.step)⟩
def insn_Target.f (k:Nat) (a0_0:Int) (a0_1:Int) (a0_2:Int) (a0_3:Int) (a1:Int):Option (Int × Bool):=(insn_Check.f k a0_0 a0_1 a0_2 a0_3).bind fun t837=>(if t837=0 then ((insn_isBranch.f a0_0).bind fun t838=>(if t838=true then (some (wrap64 (a1+a0_3),true)) else (some (0,false)))) else (some (0,false)))
theorem insn_Target.mono:∀ a0 a1 a2 a3 a4 k,LeO (insn_Target.f k a0 a1 a2 a3 a4) (insn_Target.f (k+1) a0 a1 a2 a3 a4):=by
 intro a0 a1 a2 a3 a4 k;unfold insn_Target.f;repeat' first
   | (with_reducible exact insn_Check.mono _ _ _ _ _)
   | (with_reducible exact LeO.refl _)
   | (with_reducible exact LeO.none _)
   | (with_reducible refine LeO.ite ?_ ?_)
   | (with_reducible refine LeO.bind ?_ (fun _=>?_))
   | exact LeO.none _
   | refine LeO.ite ?_ ?_
   | refine LeO.bind ?_ (fun _=>?_)
set_option maxHeartbeats 8000000 in
set_option maxRecDepth 100000 in
theorem insn_Target.calls (k:Nat) (a0_0:Int) (a0_1:Int) (a0_2:Int) (a0_3:Int) (a1:Int) (r1:Int) (r2:Bool) (w:World) (h:insn_Target.f k a0_0 a0_1 a0_2 a0_3 a1=some (r1,r2)) (hgw:GW w) :
  Calls Tryz.prog 37 #[.agg #[.int .i64 a0_0,.int .i64 a0_1,.int .i64 a0_2,.int .i64 a0_3],.int .i64 a1] w fun e w'=>e=.returned (.tuple #[.int .i64 r1,.bool r2])∧Below w.heap.size w w':=by
 have hu23:=Tryz.underlying23;have HB:=Aside0.mk (Below.refl w.heap.size w);have H:((insn_Check.f k a0_0 a0_1 a0_2 a0_3).bind fun t837=>(if t837=0 then ((insn_isBranch.f a0_0).bind fun t838=>(if t838=true then (some (wrap64 (a1+a0_3),true)) else (some (0,false)))) else (some (0,false))))=some (r1,r2):=h;clear h;replace H:=Option.bind_eq_some_iff.mp H;obtain ⟨t837,A30,H⟩:=H;replace H:(if t837=0 then ((insn_isBranch.f a0_0).bind fun t838=>(if t838=true then (some (wrap64 (a1+a0_3),true)) else (some (0,false)))) else (some (0,false)))=some (r1,r2):=H;have A3:=Aside0.mk A30;clear A30;by_cases c4:t837=0
 ·rw [if_pos c4] at H;obtain ⟨c4b0,c4b1⟩:=bqt c4;clear c4;replace H:=Option.bind_eq_some_iff.mp H;obtain ⟨t838,A50,H⟩:=H;replace H:(if t838=true then (some (wrap64 (a1+a0_3),true)) else (some (0,false)))=some (r1,r2):=H;have A5:=Aside0.mk A50;clear A50;by_cases c6:t838=true
  ·subst c6;have H1:(some (wrap64 (a1+a0_3),true))=some (r1,r2):=by rw [if_pos rfl] at H;exact H
   clear H;have H:=H1;clear H1;simp only [Option.some.injEq,Prod.mk.injEq] at H;obtain ⟨rfl,rfl⟩:=H;go_enter Tryz.func37,Tryz.ntmps37
   go_wp2_with (first | ((with_reducible refine gate_dst (N:=2) rfl ?_);refine box_event ?hg (N:=2) ?hd (cs:=#[.int .i64 a0_0,.int .i64 a0_1,.int .i64 a0_2,.int .i64 a0_3]) (t:=23) ?hr ?_;(case hd=>rfl);(case hg=>rfl);(case hr=>first | (go_simp;done) | (go_simp;rfl));intro gb836 hg w7 hbox hb;have n0_:=Aside0.mk (below_step blw hb);have n1_:=Aside0.mk (hbox);have n2_:=Aside0.mk ((by rw [hg];exact (below_size blw):w.heap.size≤gb836));have n3_:=Aside0.mk ((by rw [hg];exact (below_size blw):w.heap.size≤gb836));clear HB;have HB:=n0_;have BK836:=n1_;have GW836:=n2_;have GE836:=n3_;clear n0_ n1_ n2_ n3_;clear hb hbox hg;obtain ⟨hcz8_0,hcz8_1,hcz8_2,hcz8_3,hfz8_0,hfz8_1,hfz8_2,hfz8_3⟩:=bz4 BK836.out) | ((with_reducible refine gate_callee (f:=31) rfl ?_);refine goesL_ (some 7) rfl rfl Tryz.func31 (by kernel_rfl) rfl #[.agg #[.int .i64 a0_0,.int .i64 a0_1,.int .i64 a0_2,.int .i64 a0_3]] rfl fq ?_;(with_reducible refine (insn_Check.calls k a0_0 a0_1 a0_2 a0_3 t837 _ A3.out gwy).mono ?_);rintro e w9 ⟨rfl,hb⟩;refine ⟨_,rfl,?_⟩;have n0_:=Aside0.mk (blk_below (g:=gb836) (o:=.cells #[.int .i64 a0_0,.int .i64 a0_1,.int .i64 a0_2,.int .i64 a0_3] 23 (0,0)) bko hb);have n1_:=Aside0.mk (below_step blw hb);clear BK836;clear HB;have BK836:=n0_;have HB:=n1_;clear n0_ n1_;(try clear hb);(try clear hb2);(try clear hk);(try clear hi);obtain ⟨hcz10_0,hcz10_1,hcz10_2,hcz10_3,hfz10_0,hfz10_1,hfz10_2,hfz10_3⟩:=bz4 BK836.out) | (go_at_call 81;(with_reducible refine (insn_isBranch.calls a0_0 true _ A5.out).mono ?_);rintro e w' ⟨rfl,⟨nd,rfl⟩⟩))
   go_ret2;exact ⟨rew,blw⟩
  ·replace c6:=Bool.eq_false_iff.mpr c6;subst c6;have H1:(some (0,false))=some (r1,r2):=by rw [if_neg (show ¬ (false=true) by decide)] at H;exact H
   clear H;have H:=H1;clear H1;simp only [Option.some.injEq,Prod.mk.injEq] at H;obtain ⟨rfl,rfl⟩:=H;go_enter Tryz.func37,Tryz.ntmps37
   go_wp2_with (first | ((with_reducible refine gate_dst (N:=2) rfl ?_);refine box_event ?hg (N:=2) ?hd (cs:=#[.int .i64 a0_0,.int .i64 a0_1,.int .i64 a0_2,.int .i64 a0_3]) (t:=23) ?hr ?_;(case hd=>rfl);(case hg=>rfl);(case hr=>first | (go_simp;done) | (go_simp;rfl));intro gb836 hg w11 hbox hb;have n0_:=Aside0.mk (below_step blw hb);have n1_:=Aside0.mk (hbox);have n2_:=Aside0.mk ((by rw [hg];exact (below_size blw):w.heap.size≤gb836));have n3_:=Aside0.mk ((by rw [hg];exact (below_size blw):w.heap.size≤gb836));clear HB;have HB:=n0_;have BK836:=n1_;have GW836:=n2_;have GE836:=n3_;clear n0_ n1_ n2_ n3_;clear hb hbox hg;obtain ⟨hcz12_0,hcz12_1,hcz12_2,hcz12_3,hfz12_0,hfz12_1,hfz12_2,hfz12_3⟩:=bz4 BK836.out) | ((with_reducible refine gate_callee (f:=31) rfl ?_);refine goesL_ (some 7) rfl rfl Tryz.func31 (by kernel_rfl) rfl #[.agg #[.int .i64 a0_0,.int .i64 a0_1,.int .i64 a0_2,.int .i64 a0_3]] rfl fq ?_;(with_reducible refine (insn_Check.calls k a0_0 a0_1 a0_2 a0_3 t837 _ A3.out gwy).mono ?_);rintro e w13 ⟨rfl,hb⟩;refine ⟨_,rfl,?_⟩;have n0_:=Aside0.mk (blk_below (g:=gb836) (o:=.cells #[.int .i64 a0_0,.int .i64 a0_1,.int .i64 a0_2,.int .i64 a0_3] 23 (0,0)) bko hb);have n1_:=Aside0.mk (below_step blw hb);clear BK836;clear HB;have BK836:=n0_;have HB:=n1_;clear n0_ n1_;(try clear hb);(try clear hb2);(try clear hk);(try clear hi);obtain ⟨hcz14_0,hcz14_1,hcz14_2,hcz14_3,hfz14_0,hfz14_1,hfz14_2,hfz14_3⟩:=bz4 BK836.out) | (go_at_call 81;(with_reducible refine (insn_isBranch.calls a0_0 false _ A5.out).mono ?_);rintro e w' ⟨rfl,⟨nd,rfl⟩⟩))
   go_ret2;exact ⟨rew,blw⟩
 ·rw [if_neg c4] at H;obtain ⟨c4b0,c4b1⟩:=bqf c4;simp only [Option.some.injEq,Prod.mk.injEq] at H;obtain ⟨rfl,rfl⟩:=H;go_enter Tryz.func37,Tryz.ntmps37
  go_wp2_with (first | ((with_reducible refine gate_dst (N:=2) rfl ?_);refine box_event ?hg (N:=2) ?hd (cs:=#[.int .i64 a0_0,.int .i64 a0_1,.int .i64 a0_2,.int .i64 a0_3]) (t:=23) ?hr ?_;(case hd=>rfl);(case hg=>rfl);(case hr=>first | (go_simp;done) | (go_simp;rfl));intro gb836 hg w15 hbox hb;have n0_:=Aside0.mk (below_step blw hb);have n1_:=Aside0.mk (hbox);have n2_:=Aside0.mk ((by rw [hg];exact (below_size blw):w.heap.size≤gb836));have n3_:=Aside0.mk ((by rw [hg];exact (below_size blw):w.heap.size≤gb836));clear HB;have HB:=n0_;have BK836:=n1_;have GW836:=n2_;have GE836:=n3_;clear n0_ n1_ n2_ n3_;clear hb hbox hg;obtain ⟨hcz16_0,hcz16_1,hcz16_2,hcz16_3,hfz16_0,hfz16_1,hfz16_2,hfz16_3⟩:=bz4 BK836.out) | ((with_reducible refine gate_callee (f:=31) rfl ?_);refine goesL_ (some 7) rfl rfl Tryz.func31 (by kernel_rfl) rfl #[.agg #[.int .i64 a0_0,.int .i64 a0_1,.int .i64 a0_2,.int .i64 a0_3]] rfl fq ?_;(with_reducible refine (insn_Check.calls k a0_0 a0_1 a0_2 a0_3 t837 _ A3.out gwy).mono ?_);rintro e w17 ⟨rfl,hb⟩;refine ⟨_,rfl,?_⟩;have n0_:=Aside0.mk (blk_below (g:=gb836) (o:=.cells #[.int .i64 a0_0,.int .i64 a0_1,.int .i64 a0_2,.int .i64 a0_3] 23 (0,0)) bko hb);have n1_:=Aside0.mk (below_step blw hb);clear BK836;clear HB;have BK836:=n0_;have HB:=n1_;clear n0_ n1_;(try clear hb);(try clear hb2);(try clear hk);(try clear hi)))
  go_ret2;exact ⟨rew,blw⟩
end Go.Proofs.YtffojmgmpfjlhaaGreatDoor.Q
