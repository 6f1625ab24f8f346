/- Parts of the proof: InsnListings: a listing is assembled to the code and the symbols of which it was made, and so is the listing of what was assembled: the law returns true for every input; the inputs read as they did; the package-level variables hold what the program's text lays in them: the tied card. -/
import Derived.Test.YtffojmgmpfjlhaaGreatDoorInsnListingsY5
import Derived.Lib.ParseIntBTie
set_option linter.unusedVariables false
set_option linter.unusedSimpArgs false
namespace Go.Proofs.YtffojmgmpfjlhaaGreatDoor.Q
open Go.Proofs.Ix hiding rd
open Go.Proofs.YtffojmgmpfjlhaaGreatDoor Go.RowKit Go.Proofs.YtffojmgmpfjlhaaGreatDoorW.PrintWords
theorem take_cat (l:List Int) (i k:Nat):l.take (i+k)=l.take i ++ sliceD l i (i+k):=by
 have h:l.take (i+k)=l.take i ++ (l.drop i).take k:=List.take_add ..
 unfold sliceD
 rw [List.drop_take,Nat.add_sub_cancel_left]
 exact h
theorem take_one (l:List Int) (h:0 < l.length):l.take 1=[rd l 0]:=by
 cases l with
 | nil=>simp at h
 | cons x t=>rfl
theorem take_two (l:List Int) (h:1 < l.length):l.take 2=[rd l 0,rd l 1]:=by
 match l,h with
 | x :: y :: t,_=>rfl
theorem dec_back {l:List Int} (hb:Byt l) (h:(decD l).2.2.2.2.2=0):∃ (op a b v:Int) (n:Nat),decD l=(op,a,b,v,(n:Int),0)∧chkD op a b v=0∧encI op a b v=l.take n∧1≤n∧n≤l.length:=by
 unfold decD at h ⊢
 by_cases c0:l.length=0
 ·rw [if_pos c0] at h;exact absurd h (by decide)
 rw [if_neg c0] at h ⊢
 have hr0:0≤rd l 0∧rd l 0 < 256:=hb.at (i:=0) (by omega)
 by_cases c1:nameM (opD l)=[]
 ·rw [if_pos c1] at h;exact absurd h (by decide)
 rw [if_neg c1] at h ⊢
 have hop:opD l=rd l 0 - 128:=by unfold opD;simp only [wrap64];omega
 have hlow:0≤opD l:=by
  by_cases c:opD l < 0
  ·exact absurd (name_out _ (.inl c)) c1
  ·omega
 have e0:wrap64 (128+opD l) % 256=rd l 0:=by simp only [wrap64];omega
 have hl:=lenM_eq (formM (opD l))
 generalize opD l=op at *
 by_cases cA:hasA (formM op)=true
 ·rw [if_pos cA] at h ⊢
  rw [if_pos cA] at hl
  by_cases c2:l.length=1
  ·rw [if_pos c2] at h;exact absurd h (by decide)
  rw [if_neg c2] at h ⊢
  have hr1:0≤rd l 1∧rd l 1 < 256:=hb.at (i:=1) (by omega)
  by_cases cB:hasB (formM op)=true
  ·rw [if_pos cB,if_pos cB] at h ⊢
   by_cases c3:rd l 1≥64
   ·rw [if_pos c3] at h;exact absurd h (by decide)
   rw [if_neg c3] at h ⊢
   obtain ⟨hs,hn⟩:=fin_ok h
   have hsl:=scan_len _ _ _ _ hs (by omega)
   rw [show lenM (formM op) - 2=bytesM (formM op) by omega] at hs
   obtain ⟨v,hv,hf,hi⟩:=imm_back l hb (formM op) 2 hs (by omega)
   have hn2:lenM (formM op)=2+bytesM (formM op):=by omega
   unfold finD
   rw [hn2,Nat.add_sub_cancel_left,if_pos hs,hv]
   have q1:wrap64 (Int.tdiv (wrap64 (rd l 1)) 8)=rd l 1 / 8:=by
    rw [show wrap64 (rd l 1)=rd l 1 from by simp only [wrap64];omega,Int.tdiv_eq_ediv_of_nonneg (by omega)]
    simp only [wrap64];omega
   have q2:Int.tmod (wrap64 (rd l 1)) 8=rd l 1 % 8:=by
    rw [show wrap64 (rd l 1)=rd l 1 from by simp only [wrap64];omega,Int.tmod_eq_emod_of_nonneg (by omega)]
   rw [q1,q2]
   refine ⟨_,_,_,_,_,rfl,?_,?_,by omega,by omega⟩
   ·unfold chkD
    rw [if_neg c1,if_pos ⟨by omega,by omega,by omega,by omega,.inl cA,.inl cB,hf⟩]
   ·unfold encI
    rw [if_pos cB,e0,hi,take_cat,take_two l (by omega),show wrap64 (wrap64 (8 * (rd l 1 / 8))+rd l 1 % 8) % 256=rd l 1 from by simp only [wrap64];omega]
    rfl
  ·rw [if_neg cB,if_neg cB] at h ⊢
   by_cases c3:rd l 1≥8
   ·rw [if_pos c3] at h;exact absurd h (by decide)
   rw [if_neg c3] at h ⊢
   obtain ⟨hs,hn⟩:=fin_ok h
   have hsl:=scan_len _ _ _ _ hs (by omega)
   rw [show lenM (formM op) - 2=bytesM (formM op) by omega] at hs
   obtain ⟨v,hv,hf,hi⟩:=imm_back l hb (formM op) 2 hs (by omega)
   have hn2:lenM (formM op)=2+bytesM (formM op):=by omega
   unfold finD
   rw [hn2,Nat.add_sub_cancel_left,if_pos hs,hv,show wrap64 (rd l 1)=rd l 1 from by simp only [wrap64];omega]
   refine ⟨_,_,_,_,_,rfl,?_,?_,by omega,by omega⟩
   ·unfold chkD
    rw [if_neg c1,if_pos ⟨by omega,by omega,by omega,by omega,.inl cA,.inr rfl,hf⟩]
   ·unfold encI
    rw [if_neg cB,if_pos cA,e0,hi,take_cat,take_two l (by omega),show rd l 1 % 256=rd l 1 by omega]
    rfl
 ·rw [if_neg cA] at h ⊢
  rw [if_neg cA] at hl
  have cB:¬ hasB (formM op)=true:=by
   intro cB
   apply cA
   unfold hasA hasB at *
   simp at cB ⊢
   omega
  obtain ⟨hs,hn⟩:=fin_ok h
  have hsl:=scan_len _ _ _ _ hs (by omega)
  rw [show lenM (formM op) - 1=bytesM (formM op) by omega] at hs
  obtain ⟨v,hv,hf,hi⟩:=imm_back l hb (formM op) 1 hs (by omega)
  have hn2:lenM (formM op)=1+bytesM (formM op):=by omega
  unfold finD
  rw [hn2,Nat.add_sub_cancel_left,if_pos hs,hv]
  refine ⟨_,_,_,_,_,rfl,?_,?_,by omega,by omega⟩
  ·unfold chkD
   rw [if_neg c1,if_pos ⟨by omega,by omega,by omega,by omega,.inr rfl,.inr rfl,hf⟩]
  ·unfold encI
   rw [if_neg cB,if_neg cA,e0,hi,take_cat,take_one l (by omega)]
   rfl
end Go.Proofs.YtffojmgmpfjlhaaGreatDoor.Q
namespace Go.Proofs.YtffojmgmpfjlhaaGreatDoor.Q
open Go.Proofs.Ix hiding rd
open Go Go.Proofs.YtffojmgmpfjlhaaGreatDoor Go.RowKit Go.Proofs.YtffojmgmpfjlhaaGreatDoorW.PrintWords
theorem wrap_addq {i j:Nat} (h:i+j≤1000000):wrap64 ((i:Int)+((j:Nat):Int))=((i+j:Nat):Int):=by
 simp only [wrap64]
 omega
def swZ (l:List Int):Nat→Nat→List S23→List Int→List S23 × List Int × Int
 | 0,_,X,A=>(X,A,0)
 | m+1,i,X,A =>
  if i < l.length then
   (if (decD (l.drop i)).2.2.2.2.2=0 then swZ l m (i+(decD (l.drop i)).2.2.2.2.1.toNat) (X ++ [⟨(decD (l.drop i)).1,(decD (l.drop i)).2.1,(decD (l.drop i)).2.2.1,(decD (l.drop i)).2.2.2.1⟩]) (A ++ [(i:Int)])
    else ([],[],(decD (l.drop i)).2.2.2.2.2))
  else (X,A,0)
def swp (l:List Int):List S23 × List Int × Int:=if 2048 < l.length then ([],[],2) else swZ l (l.length+1) 0 [] []
theorem swZ_f (l:List Int) (hl:l.length≤2048):∀ (m i:Nat) (X:List S23) (A:List Int) (k:Nat),l.length - i < m→i≤l.length→X.length≤i→A.length≤i→m+200≤k →
  insn_Sweep.l0 k l X A (i:Int)=some (swZ l m i X A)
 | 0,i,X,A,k,h1,h2,h3,h4,h5=>by omega
 | m+1,i,X,A,k,h1,h2,h3,h4,h5=>by
  obtain ⟨k,rfl⟩:∃ q,k=q+100+1:=⟨k - 101,by omega⟩
  unfold insn_Sweep.l0 swZ
  by_cases c:i=l.length
  ·rw [if_neg (by omega),if_neg (by omega)]
  ·rw [if_pos (by omega),if_pos (by omega),if_pos (by omega),if_pos (by omega),Int.toNat_natCast,show k+100=(k+40)+60 from rfl,decode_g,show k+40+60=k+100 from rfl,Option.bind_some]
   by_cases he:(decD (l.drop i)).2.2.2.2.2=0
   ·obtain ⟨n,hn,hn1,_,hnl,_⟩:=dec_ok he
    rw [List.length_drop] at hnl
    rw [if_pos he,if_pos he,if_pos (by omega),if_pos (by omega),hn,wrap_addq (by omega),Int.toNat_natCast]
    exact swZ_f l hl m (i+n) _ _ (k+100) (by omega) (by omega) (by simp;omega) (by simp;omega) (by omega)
   ·rw [if_neg he,if_neg he]
theorem swp_f (l:List Int):insn_Sweep.f 2500 l=some (swp l):=by
 unfold insn_Sweep.f swp
 by_cases h:2048 < l.length
 ·rw [if_pos (by omega),if_pos h]
 ·rw [if_neg (by omega),if_neg h]
  exact swZ_f l (by omega) (l.length+1) 0 [] [] 2500 (by omega) (Nat.zero_le _) (Nat.le_refl _) (Nat.le_refl _) (by omega)
def InIt (l:List Int) (x:S23):Prop:=∃ i,(decD (l.drop i)).2.2.2.2.2=0∧x=⟨(decD (l.drop i)).1,(decD (l.drop i)).2.1,(decD (l.drop i)).2.2.1,(decD (l.drop i)).2.2.2.1⟩
theorem swZ_ok (l:List Int):∀ (m i:Nat) (X:List S23) (A:List Int),l.length - i < m→i≤l.length→X.length=A.length→X.length≤i→(∀ x∈X,InIt l x) →
  (swZ l m i X A).2.2=0→(swZ l m i X A).1.length=(swZ l m i X A).2.1.length∧(swZ l m i X A).1.length≤l.length∧∀ x∈(swZ l m i X A).1,InIt l x
 | 0,i,X,A,h1,h2,h3,h4,h5,h6=>by omega
 | m+1,i,X,A,h1,h2,h3,h4,h5,h6=>by
  unfold swZ at h6 ⊢
  by_cases c:i < l.length
  ·rw [if_pos c] at h6 ⊢
   by_cases he:(decD (l.drop i)).2.2.2.2.2=0
   ·rw [if_pos he] at h6 ⊢
    obtain ⟨n,hn,hn1,_,hnl,_⟩:=dec_ok he
    rw [List.length_drop] at hnl
    refine swZ_ok l m _ _ _ (by rw [hn,Int.toNat_natCast];omega) (by rw [hn,Int.toNat_natCast];omega) (by simp [h3]) (by rw [hn,Int.toNat_natCast];simp;omega) (fun x hx=>?_) h6
    rw [List.mem_append,List.mem_singleton] at hx
    rcases hx with hx | rfl
    ·exact h5 x hx
    ·exact ⟨i,he,rfl⟩
   ·rw [if_neg he] at h6
    exact absurd h6 he
  ·rw [if_neg c] at h6 ⊢
   exact ⟨h3,by show X.length≤_;omega,h5⟩
theorem swp_ok (l:List Int) (h:(swp l).2.2=0):(swp l).1.length=(swp l).2.1.length∧(swp l).1.length≤2048∧l.length≤2048∧∀ x∈(swp l).1,InIt l x:=by
 unfold swp at h ⊢
 by_cases c:2048 < l.length
 ·rw [if_pos c] at h
  cases h
 ·rw [if_neg c] at h ⊢
  obtain ⟨h1,h2,h3⟩:=swZ_ok l (l.length+1) 0 [] [] (by omega) (Nat.zero_le _) rfl (Nat.le_refl _) (fun x hx=>by simp at hx) h
  exact ⟨h1,by omega,by omega,h3⟩
def Rg (v:Int):Prop:=-9223372036854775808≤v∧v≤9223372036854775807
theorem bits_rg (x y:Int):Rg (Go.bits .or .i64 x y):=by
 unfold Go.bits
 simp only [YtffojmgmpfjlhaaGreatDoorW.PrintLast.i64_w,Rg,wrap64]
 omega
theorem orF_rg (bs:List Int):∀ (i:Nat) (v:Int),Rg v→Rg (orF bs v i)
 | 0,v,h=>h
 | i+1,v,h=>orF_rg bs i _ (bits_rg _ _)
theorem start_rg (f:Int) (bs:List Int):Rg (startD f bs):=by
 unfold startD Rg
 repeat' split
 all_goals omega
theorem err_rg (e:Int):Rg (errD e).2.2.2.1:=⟨by show _≤(0:Int);decide,by show (0:Int)≤_;decide⟩
theorem fin_rg (l:List Int) (f op a b:Int) (i n:Nat):Rg (finD l f op a b i n).2.2.2.1:=by
 unfold finD
 split
 ·exact orF_rg _ _ _ (start_rg _ _)
 ·exact err_rg _
theorem dec_rg (l:List Int):Rg (decD l).2.2.2.1:=by
 unfold decD
 repeat' split
 all_goals first | exact fin_rg _ _ _ _ _ _ _ | exact err_rg _
def prX (x:S23):ByteArray:=bS (printW x.f0 x.f1 x.f2 x.f3)
theorem prX_f {l:List Int} (hb:Byt l) {x:S23} (h:InIt l x):insn_Print.f 2500 x.f0 x.f1 x.f2 x.f3=some (prX x,0)∧(prX x).size≤1000:=by
 obtain ⟨i,he,rfl⟩:=h
 obtain ⟨op,a,b,v,n,hd,hc,_,_,_⟩:=dec_back (hb.drop i) he
 rw [hd]
 obtain ⟨hv,_,_,_,_,_,_,hf⟩:=chk_parts hc
 have hr:-9223372036854775808≤v∧v≤9223372036854775807:=by
  have:=dec_rg (l.drop i)
  rw [hd] at this
  exact this
 have o:=ok1_of hc hr.1 hr.2
 refine ⟨print_f hv o hc 2490,?_⟩
 show (bS (printW op a b v)).size≤1000
 rw [bS_len]
 unfold printW
 rw [List.length_append]
 have:=name_len op
 have:=opW_len o
 omega
def disZ (l:List Int) (at_:Int) (L:List S61):ByteArray × Int :=
 if 32 < L.length then (⟨#[]⟩,2) else if at_ < 0∨1099511627776 < at_ then (⟨#[]⟩,1) else if (swp l).2.2≠0 then (⟨#[]⟩,(swp l).2.2) else if fitB L at_ (swp l).2.1 (at_+l.length)=false then (⟨#[]⟩,5)
 else (⟨(outL prX (swp l).1 (swp l).2.1 at_ L (swp l).1.length ++ fnL (at_+l.length) L).toArray⟩,0)
def insn_Disassemble.f (l0:List Int) (a1:Int) (l2:List S61):Option (ByteArray × Int):=if (l0.all fun x=>(Lit.int .u8 x).wf)=true∧(l2.all fun s=>(Lit.int .i64 s.f1).wf)=true then some (disZ l0 a1 l2) else none
theorem dis_f {l0:List Int} {a1:Int} {l2:List S61} (h0:Byt l0) (h2:∀ s∈l2,okI s.f1):insn_Disassemble.f l0 a1 l2=some (disZ l0 a1 l2):=by
 unfold insn_Disassemble.f
 rw [if_pos ⟨List.all_eq_true.2 h0,List.all_eq_true.2 h2⟩]
theorem insn_Disassemble.calls (A0:Option Addr) (c0:Nat) (l0:List Int) (a1:Int) (A2:Option Addr) (c2:Nat) (l2:List S61) (r1:ByteArray) (r2:Int) (w:World) (hr0:Kd.C (Kd.int .u8) w A0 l0.length l0) (hc0:l0.length≤c0) (hr2:Kd.C k61 w A2 l2.length l2) (hc2:l2.length≤c2)
  (h:insn_Disassemble.f l0 a1 l2=some (r1,r2)) (hgw:GW w) :
  Calls Tryz.prog 40 #[.slice A0 l0.length c0,.int .i64 a1,.slice A2 l2.length c2] w fun e w'=>e=.returned (.tuple #[.string r1,.int .i64 r2])∧Below w.heap.size w w':=by
 unfold insn_Disassemble.f at h
 split at h
 ·rename_i hg0
  have hg:Byt l0∧∀ s∈l2,okI s.f1:=⟨fun x hx=>List.all_eq_true.1 hg0.1 x hx,fun s hs=>List.all_eq_true.1 hg0.2 s hs⟩
  have h1:=Option.some.inj h
  exact dis_any A0 c0 l0 a1 A2 c2 l2 w hr0 hc0 hr2 hc2 hgw hg.2 2500 (swp l0).1 (swp l0).2.1 (swp l0).2.2 (swp_f l0) prX (fun he x hx=>prX_f hg.1 ((swp_ok l0 he).2.2.2 x hx)) (fun he=>⟨(swp_ok l0 he).1,(swp_ok l0 he).2.1,(swp_ok l0 he).2.2.1⟩) r1 r2 h1.symm
 ·cases h
def encX (x:S23):List Int:=encI x.f0 x.f1 x.f2 x.f3
def offsL:List S23→Nat→List Int
 | [],_=>[]
 | x :: X,i=>(i:Int) :: offsL X (i+(encX x).length)
theorem swZ_enc (l:List Int) (hb:Byt l):∀ (m i:Nat) (X:List S23) (A:List Int),l.length - i < m→i≤l.length→(swZ l m i X A).2.2=0 →
  ∃ Y:List S23,(swZ l m i X A).1=X ++ Y∧(swZ l m i X A).2.1=A ++ offsL Y i∧Y.flatMap encX=l.drop i∧∀ y∈Y,chkD y.f0 y.f1 y.f2 y.f3=0∧Rg y.f3
 | 0,i,X,A,h1,h2,h6=>by omega
 | m+1,i,X,A,h1,h2,h6=>by
  unfold swZ at h6 ⊢
  by_cases c:i < l.length
  ·rw [if_pos c] at h6 ⊢
   by_cases he:(decD (l.drop i)).2.2.2.2.2=0
   ·rw [if_pos he] at h6 ⊢
    have hrg:=dec_rg (l.drop i)
    obtain ⟨op,a,b,v,n,hd,hc,hen,hn1,hnl⟩:=dec_back (hb.drop i) he
    rw [List.length_drop] at hnl
    rw [hd] at h6 hrg ⊢
    simp only [Int.toNat_natCast] at h6 ⊢
    obtain ⟨Y,e1,e2,e3,e4⟩:=swZ_enc l hb m (i+n) _ _ (by omega) (by omega) h6
    have hlen:(encX ⟨op,a,b,v⟩).length=n:=by
     show (encI op a b v).length=n
     rw [hen,List.length_take,List.length_drop]
     omega
    refine ⟨⟨op,a,b,v⟩ :: Y,by rw [e1];simp,?_,?_,?_⟩
    ·rw [e2]
     show _=A ++ ((i:Int) :: offsL Y (i+(encX ⟨op,a,b,v⟩).length))
     rw [hlen]
     simp
    ·rw [List.flatMap_cons,e3]
     show encI op a b v ++ _=_
     rw [hen,← List.drop_drop,List.take_append_drop]
    ·intro y hy
     rcases List.mem_cons.1 hy with rfl | hy
     ·exact ⟨hc,hrg⟩
     ·exact e4 y hy
   ·rw [if_neg he] at h6
    exact absurd h6 he
  ·rw [if_neg c] at h6 ⊢
   exact ⟨[],by simp,by simp [offsL],by rw [List.drop_of_length_le (by omega)];rfl,fun y hy=>by simp at hy⟩
theorem swp_enc {l:List Int} (hb:Byt l) (h:(swp l).2.2=0):(swp l).2.1=offsL (swp l).1 0∧(swp l).1.flatMap encX=l∧l.length≤2048∧∀ y∈(swp l).1,chkD y.f0 y.f1 y.f2 y.f3=0∧Rg y.f3:=by
 unfold swp at h ⊢
 by_cases c:2048 < l.length
 ·rw [if_pos c] at h
  cases h
 ·rw [if_neg c] at h ⊢
  obtain ⟨Y,e1,e2,e3,e4⟩:=swZ_enc l hb (l.length+1) 0 [] [] (by omega) (Nat.zero_le _) h
  rw [List.nil_append] at e1 e2
  rw [e1,e2]
  exact ⟨rfl,e3,by omega,e4⟩
theorem encX_pos {x:S23} (h:chkD x.f0 x.f1 x.f2 x.f3=0):1≤(encX x).length:=by
 unfold encX encI
 simp only [List.length_append,List.length_cons]
 omega
theorem swZ_back (l:List Int):∀ (Y:List S23) (m i:Nat) (X:List S23) (A:List Int),(∀ y∈Y,chkD y.f0 y.f1 y.f2 y.f3=0∧Rg y.f3)→Y.flatMap encX=l.drop i→i≤l.length→Y.length < m →
  swZ l m i X A=(X ++ Y,A ++ offsL Y i,0)
 | [],m,i,X,A,hy,he,hi,hm=>by
  obtain ⟨m,rfl⟩:∃ q,m=q+1:=⟨m - 1,by simp at hm;omega⟩
  unfold swZ
  have:l.length≤i:=by
   have:=congrArg List.length he
   simp at this
   omega
  rw [if_neg (by omega)]
  simp [offsL]
 | y :: Y,m,i,X,A,hy,he,hi,hm=>by
  obtain ⟨m,rfl⟩:∃ q,m=q+1:=⟨m - 1,by simp at hm;omega⟩
  obtain ⟨hc,hr⟩:=hy y List.mem_cons_self
  have hd:=dec_enc y.f0 y.f1 y.f2 y.f3 (Y.flatMap encX) hc hr.1 (by have:=hr.2;omega)
  have he2:encI y.f0 y.f1 y.f2 y.f3 ++ Y.flatMap encX=l.drop i:=by rw [← he,List.flatMap_cons];rfl
  rw [he2] at hd
  have hp:=encX_pos hc
  have hlen:(encX y).length≤l.length - i:=by
   have:=congrArg List.length he2
   rw [List.length_append,List.length_drop] at this
   show (encI y.f0 y.f1 y.f2 y.f3).length≤_
   omega
  unfold swZ
  rw [if_pos (by omega),hd,if_pos rfl]
  simp only [Int.toNat_natCast]
  have he3:Y.flatMap encX=l.drop (i+(encI y.f0 y.f1 y.f2 y.f3).length):=by
   rw [← List.drop_drop,← he2,List.drop_left]
  rw [swZ_back l Y m (i+(encI y.f0 y.f1 y.f2 y.f3).length) _ _ (fun z hz=>hy z (List.mem_cons_of_mem _ hz)) he3 (by have:(encI y.f0 y.f1 y.f2 y.f3).length=(encX y).length:=rfl;omega) (by simp at hm;omega)]
  simp [offsL,encX]
inductive Ll where
 | fn (s:ByteArray)
 | ins (x:S23)
def Ll.text:Ll→List UInt8
 | .fn s=>[46,102,117,110,99,32] ++ s.data.toList
 | .ins x=>(prX x).data.toList
def Ll.bytes (y:Ll):List UInt8:=y.text ++ [10]
def fnsAt (L:List S61) (here:Int):List Ll:=(L.filter fun s=>decide (s.f1=here)).map fun s=>.fn s.f0
def lstL (L:List S61) (at_:Int):List S23→Nat→List Ll
 | [],i=>fnsAt L (at_+i)
 | y :: Y,i=>fnsAt L (at_+i) ++ .ins y :: lstL L at_ Y (i+(encX y).length)
theorem fns_eq (here:Int):∀ L:List S61,fnL here L=(fnsAt L here).flatMap Ll.bytes
 | []=>rfl
 | s :: L=>by
  have h:=fns_eq here L
  unfold fnsAt at h ⊢
  by_cases c:s.f1=here
  ·simp [fnL,c,h,fnLine,Ll.bytes,Ll.text]
  ·simp [fnL,c,h]
def lens (X:List S23):Nat:=(X.map fun x=>(encX x).length).sum
theorem lens_flat:∀ X:List S23,lens X=(X.flatMap encX).length
 | []=>rfl
 | x :: X=>by
  have:=lens_flat X
  simp only [lens,List.map_cons,List.sum_cons,List.flatMap_cons,List.length_append] at this ⊢
  omega
theorem offs_at:∀ (X:List S23) (i k:Nat),k < X.length→(offsL X i).getD k 0=((i+lens (X.take k):Nat):Int)
 | [],i,k,h=>by simp at h
 | x :: X,i,0,h=>by simp [offsL,lens]
 | x :: X,i,k+1,h=>by
  have:=offs_at X (i+(encX x).length) k (by simpa using h)
  simp only [offsL,List.getD_cons_succ,List.take_succ_cons,lens,List.map_cons,List.sum_cons] at this ⊢
  rw [this]
  congr 1
  omega
theorem lens_take (X:List S23) (k:Nat) (h:k < X.length):lens (X.take (k+1))=lens (X.take k)+(encX X[k]).length:=by
 rw [List.take_succ_eq_append_getElem h]
 simp only [lens,List.map_append,List.sum_append,List.map_cons,List.map_nil,List.sum_cons,List.sum_nil,Nat.add_zero]
theorem out_step (L:List S61) (at_:Int) (X:List S23) (h0:0≤at_) (h1:at_≤1099511627776) (hl:lens X≤2048):∀ k,k≤X.length →
  outL prX X (offsL X 0) at_ L k ++ (lstL L at_ (X.drop k) (lens (X.take k))).flatMap Ll.bytes=(lstL L at_ X 0).flatMap Ll.bytes
 | 0,_=>by simp [outL,lens]
 | k+1,hk=>by
  have ih:=out_step L at_ X h0 h1 hl k (by omega)
  have hk':k < X.length:=by omega
  have hle:lens (X.take k)≤lens X:=by
   rw [lens_flat,lens_flat]
   conv=>rhs;rw [← List.take_append_drop k X,List.flatMap_append,List.length_append]
   omega
  rw [← ih,List.drop_eq_getElem_cons hk',lens_take X k hk']
  have e1:wrap64 (at_+YtffojmgmpfjlhaaGreatDoorW.PrintWords.rd (offsL X 0) (k:Int))=at_+(lens (X.take k):Nat):=by
   rw [rd_nat,offs_at X 0 k hk',Nat.zero_add]
   simp only [wrap64]
   omega
  simp only [outL,lstL]
  rw [e1,fns_eq,rd_T23_mem hk']
  simp [Ll.bytes,Ll.text]
theorem out_eq (L:List S61) (at_:Int) (X:List S23) (h0:0≤at_) (h1:at_≤1099511627776) (hl:lens X≤2048) :
  outL prX X (offsL X 0) at_ L X.length ++ fnL (at_+(lens X:Nat)) L=(lstL L at_ X 0).flatMap Ll.bytes:=by
 rw [← out_step L at_ X h0 h1 hl X.length (Nat.le_refl _),List.drop_length,List.take_length,fns_eq]
 rfl
theorem ba_eq {a b:ByteArray} (h:a.data.toList=b.data.toList):a=b:=by
 obtain ⟨⟨a⟩⟩:=a
 obtain ⟨⟨b⟩⟩:=b
 simp at h
 rw [h]
theorem name_parts {s:ByteArray} (h:nameB s=true):(∀ c∈s.data.toList,isWd c=true)∧(∃ c t,s.data.toList=c :: t∧isLet c=true)∧s.data.toList.length≤31:=by
 unfold nameB isNameM at h
 cases hs:s.data.toList with
 | nil=>rw [hs] at h;cases h
 | cons c t =>
  rw [hs] at h
  simp only [Bool.and_eq_true,decide_eq_true_eq] at h
  obtain ⟨⟨h1,h2⟩,h3⟩:=h
  exact ⟨fun x hx=>List.all_eq_true.1 h3 x hx,⟨c,t,rfl,h2⟩,h1⟩
theorem wd_bl (c:UInt8) (h:isWd c=true):isBl c=false:=by
 cases hb:isBl c with
 | false=>rfl
 | true =>
  have:c=32∨c=9:=by simpa [isBl] using hb
  rcases this with rfl | rfl <;> exact absurd h (by decide)
def fnT (s:ByteArray):ByteArray:=bS ([46,102,117,110,99,32] ++ s.data.toList)
theorem dir_row (z:Az) (no:Nat) {s:ByteArray} (h:nameB s=true):z.row no (fnT s)=Az.dirRow { z with no:=no } s:=by
 obtain ⟨hw,⟨c0,t0,hc,hlet⟩,hlen⟩:=name_parts h
 have hC:Cur (L9.new (fnT s) true) ([46,102,117,110,99] ++ (32 :: s.data.toList)):=⟨by show (fnT s).data.toList.drop 0=_;unfold fnT;rw [toS];rfl,Nat.zero_le _⟩
 have hsk:(L9.new (fnT s) true).sk=L9.new (fnT s) true:=Cur.sk0 hC (fun c t' e=>by injection e with e _;subst e;decide)
 have hrun:runB isWd (L9.new (fnT s) true).s (L9.new (fnT s) true).at_=(L9.new (fnT s) true).at_+([]:List UInt8).length:=Cur.run (x:=[]) hC isWd (fun c hc=>by simp at hc) (fun c t' e=>by injection e with e _;subst e;decide)
 have hwd:nameB (L9.new (fnT s) true).wdS=false:=by
  have e:(L9.new (fnT s) true).wdS.data.toList=[]:=by
   unfold L9.wdS
   rw [hrun]
   exact Cur.word (x:=[]) hC
  unfold nameB
  rw [e]
  rfl
 have hnm:(L9.new (fnT s) true).nm=(⟨#[]⟩,L9.new (fnT s) true):=by
  unfold L9.nm
  rw [hsk,if_neg (by rw [hwd];decide)]
 have hpre:(L9.new (fnT s) true).pre=true:=by
  unfold L9.pre Lib.hasPrefix
  rw [List.isPrefixOf_iff_prefix]
  refine ⟨32 :: s.data.toList,?_⟩
  rw [ext_toL]
  show funcL ++ (32 :: s.data.toList)=((fnT s).data.toList.drop 0).take ((fnT s).size - 0)
  rw [List.drop_zero,Nat.sub_zero,← sz_list,List.take_length]
  unfold fnT
  rw [toS]
  rfl
 have hC5:Cur (mv (L9.new (fnT s) true) 5) (32 :: s.data.toList):=Cur.adv (x:=[46,102,117,110,99]) hC
 obtain ⟨hs1,hsp⟩:=Cur.sk1 hC5 (fun c t' e=>by rw [hc] at e;injection e with e _;subst e;exact wd_bl _ (hw c0 (by rw [hc];exact List.mem_cons_self)))
 have hC6:Cur (mv (mv (L9.new (fnT s) true) 5) 1) (s.data.toList ++ []):=by rw [List.append_nil];exact Cur.mv1 hC5
 have hr6:=Cur.run hC6 isWd hw (fun c t' e=>by cases e)
 have hw6:(mv (mv (L9.new (fnT s) true) 5) 1).wdS=s:=by
  apply ba_eq
  unfold L9.wdS
  rw [hr6]
  exact Cur.word hC6
 have hl6:(mv (mv (L9.new (fnT s) true) 5) 1).wdL=mv (mv (mv (L9.new (fnT s) true) 5) 1) s.data.toList.length:=by
  unfold L9.wdL mv
  rw [show runB isWd ((L9.new (fnT s) true).go ((L9.new (fnT s) true).at_+5) |>.go (((L9.new (fnT s) true).go ((L9.new (fnT s) true).at_+5)).at_+1)).s ((L9.new (fnT s) true).go ((L9.new (fnT s) true).at_+5) |>.go (((L9.new (fnT s) true).go ((L9.new (fnT s) true).at_+5)).at_+1)).at_=_ from hr6]
  rfl
 have hC7:Cur (mv (mv (mv (L9.new (fnT s) true) 5) 1) s.data.toList.length) []:=Cur.adv hC6
 have hs7:=Cur.sk0 hC7 (fun c t' e=>by cases e)
 have hat:=Cur.len hC7
 have hdir:(L9.new (fnT s) true).dir=some (some s,mv (mv (mv (L9.new (fnT s) true) 5) 1) s.data.toList.length):=by
  unfold L9.dir
  rw [if_pos hpre]
  show (mv (L9.new (fnT s) true) 5).dir2=_
  unfold L9.dir2
  rw [hsp,if_pos rfl,hs1,hw6,if_pos h,hl6,hs7,if_pos (by rw [List.length_nil,Nat.add_zero] at hat;exact hat)]
 unfold Az.row
 simp only [hnm]
 rw [if_pos (show (⟨#[]⟩:ByteArray).size=0 from rfl),hsk,hdir]
theorem spl_lines:∀ ls:List (List UInt8),(∀ t∈ls,∀ k:Nat,t[k]?≠some 10)→spl (ls.flatMap fun t=>t ++ [10])=ls ++ [[]]
 | [],_=>by simp [spl]
 | t :: ls,h=>by
  rw [List.flatMap_cons,List.append_assoc]
  show spl (t ++ 10 :: (ls.flatMap fun t=>t ++ [10]))=_
  rw [spl_append,spl_miss t (h t List.mem_cons_self),spl_lines ls (fun x hx=>h x (List.mem_cons_of_mem _ hx))]
  rfl
def Ll.ba:Ll→ByteArray
 | .fn s=>fnT s
 | .ins x=>prX x
def lineX (x:S23):L9:=lineZ x.f0 x.f1 x.f2 x.f3 true
def lenL:List Ll→Nat
 | []=>0
 | .fn _ :: r=>lenL r
 | .ins x :: r=>(encX x).length+lenL r
def labL:List Ll→Nat→List (ByteArray × Nat)
 | [],_=>[]
 | .fn s :: r,i=>(s,i) :: labL r i
 | .ins x :: r,i=>labL r (i+(encX x).length)
def namL:List Ll→List ByteArray
 | []=>[]
 | .fn s :: r=>s :: namL r
 | .ins _ :: r=>namL r
def insL:List Ll→List S23
 | []=>[]
 | .fn _ :: r=>insL r
 | .ins x :: r=>x :: insL r
def OkL:Ll→Prop
 | .fn s=>nameB s=true
 | .ins x=>chkD x.f0 x.f1 x.f2 x.f3=0∧Rg x.f3
theorem lookB_no {L:List (ByteArray × Nat)} {s:ByteArray} (h:∀ p∈L,p.1≠s):lookB L s=none:=by
 cases hl:lookB L s with
 | none=>rfl
 | some v =>
  obtain ⟨p,hp,h1,_⟩:=lookB_some hl
  exact absurd h1 (h p hp)
theorem ins_row (z:Az) (no:Nat) {x:S23} (hc:chkD x.f0 x.f1 x.f2 x.f3=0) (hr:Rg x.f3):z.row no (prX x)=Az.push { z with no:=no } (lineX x):=by
 have hv:=(chk_parts hc).1
 have o:=ok1_of hc hr.1 hr.2
 have hg:=print_gd hv o
 have hg2:∀ d:UInt8,gd d=false→∀ k:Nat,(prX x).data.toList[k]?≠some d:=fun d hd k=>by unfold prX;rw [toS];exact no_byte hg d hd k
 have h46:(prX x).data.toList[0]?≠some 46:=by
  unfold prX
  rw [toS]
  unfold printW
  cases hn:nameM x.f0 with
  | nil=>exact absurd hn hv
  | cons d r =>
   intro e
   have e:some d=some 46:=e
   exact ((name_facts hv).2.2 d (by rw [hn];exact List.mem_cons_self)).2.2.2.2.1 (Option.some.inj e)
 have hne:(prX x).size≠0:=by
  unfold prX
  rw [bS_len]
  unfold printW
  cases hn:nameM x.f0 with
  | nil=>exact absurd hn hv
  | cons d r=>simp
 rw [row_first z no (hg2 58 rfl) h46 (new_sk hv true) hne]
 unfold prX
 rw [instr_ok hc hr.1 hr.2 true]
 rfl
theorem rows_ll:∀ (ls:List Ll) (no:Nat) (z:Az),(∀ y∈ls,OkL y)→z.size+lenL ls≤2048→z.funcs.length+(namL ls).length≤32→(∀ p∈z.labels,p.1 ∉ namL ls)→(namL ls).Nodup →
  ∃ z':Az,rowsZ no z (ls.map Ll.ba)=.ok z'∧z'.size=z.size+lenL ls∧z'.labels=z.labels ++ labL ls z.size∧z'.funcs=z.funcs ++ namL ls∧z'.list.map En.l=z.list.map En.l ++ (insL ls).map lineX
 | [],no,z,_,_,_,_,_=>⟨z,rfl,rfl,by simp [labL],by simp [namL],by simp [insL]⟩
 | .fn s :: ls,no,z,ho,hs,hf,hd,hn=>by
  have h1:nameB s=true:=ho _ List.mem_cons_self
  have hl:lookB z.labels s=none:=lookB_no fun p hp e=>hd p hp (by rw [e];exact List.mem_cons_self)
  simp only [namL,List.length_cons] at hf
  simp only [lenL] at hs
  have hn':=List.nodup_cons.1 hn
  obtain ⟨z',e0,e1,e2,e3,e4⟩:=rows_ll ls (no+1) { z with no:=no,labels:=z.labels ++ [(s,z.size)],funcs:=z.funcs ++ [s] } (fun y hy=>ho y (List.mem_cons_of_mem _ hy)) hs (by simp;omega)
   (fun p hp=>by
    rcases List.mem_append.1 hp with hp | hp
    ·exact fun e=>hd p hp (List.mem_cons_of_mem _ e)
    ·rw [List.mem_singleton] at hp
     subst hp
     exact hn'.1) hn'.2
  refine ⟨z',?_,e1,by rw [e2];simp [labL],by rw [e3];simp [namL],e4⟩
  show rowsZ no z (fnT s :: ls.map Ll.ba)=_
  rw [rowsZ,dir_row z no h1]
  unfold Az.dirRow
  simp only [hl]
  rw [if_neg (by omega)]
  exact e0
 | .ins x :: ls,no,z,ho,hs,hf,hd,hn=>by
  obtain ⟨hc,hr⟩:chkD x.f0 x.f1 x.f2 x.f3=0∧Rg x.f3:=ho _ List.mem_cons_self
  simp only [lenL] at hs
  have hlen:(encX x).length=lenM (formM x.f0):=encI_eq _ _ _ _
  obtain ⟨z',e0,e1,e2,e3,e4⟩:=rows_ll ls (no+1) { z with no:=no,list:=z.list ++ [⟨lineX x,no,z.size⟩],size:=z.size+lenM (formM x.f0) } (fun y hy=>ho y (List.mem_cons_of_mem _ hy)) (by simp only;omega) hf hd hn
  refine ⟨z',?_,by rw [e1];simp only [lenL];omega,by rw [e2];simp only [labL,hlen],e3,by rw [e4];simp [insL]⟩
  show rowsZ no z (prX x :: ls.map Ll.ba)=_
  have hp:Az.push { z with no:=no } (lineX x)=.ok { z with no:=no,list:=z.list ++ [⟨lineX x,no,z.size⟩],size:=z.size+lenM (formM x.f0) }:=by
   unfold Az.push
   exact if_neg (show ¬ 2048 < z.size+lenM (formM x.f0) by omega)
  rw [rowsZ,ins_row z no hc hr,hp]
  exact e0
theorem ba_text (y:Ll):y.ba.data.toList=y.text:=by
 cases y with
 | fn s=>exact toS _
 | ins x=>rfl
theorem text_no {y:Ll} (h:OkL y) (d:UInt8) (hd:d=10∨d=59):∀ k:Nat,y.text[k]?≠some d:=by
 cases y with
 | fn s =>
  obtain ⟨hw,_,_⟩:=name_parts (show nameB s=true from h)
  intro k e
  have hm:d∈Ll.text (.fn s):=List.mem_iff_getElem?.2 ⟨k,e⟩
  rcases List.mem_append.1 hm with h1 | h1
  ·rcases hd with rfl | rfl <;> exact absurd h1 (by decide)
  ·have:=hw d h1
   rcases hd with rfl | rfl <;> exact absurd this (by decide)
 | ins x =>
  obtain ⟨hc,hr⟩:chkD x.f0 x.f1 x.f2 x.f3=0∧Rg x.f3:=h
  intro k
  show (prX x).data.toList[k]?≠some d
  unfold prX
  rw [toS]
  refine no_byte (print_gd (chk_parts hc).1 (ok1_of hc hr.1 hr.2)) d ?_ k
  rcases hd with rfl | rfl <;> rfl
theorem pieces_ll (ls:List Ll) (h:∀ y∈ls,OkL y):(pieces (bS (ls.flatMap Ll.bytes))).map cutZ=ls.map Ll.ba ++ [⟨#[]⟩]:=by
 have e:pieces (bS (ls.flatMap Ll.bytes))=ls.map Ll.ba ++ [⟨#[]⟩]:=by
  apply ba_inj
  rw [pieces_spl _ _ (Nat.le_refl _),toS]
  have e1:ls.flatMap Ll.bytes=(ls.map Ll.text).flatMap fun t=>t ++ [10]:=by rw [List.flatMap_map];rfl
  rw [e1,spl_lines _ (fun t ht k=>by
   obtain ⟨y,hy,rfl⟩:=List.mem_map.1 ht
   exact text_no (h y hy) 10 (.inl rfl) k)]
  simp [ba_text]
 rw [e,List.map_append]
 congr 1
 rw [List.map_map]
 apply List.map_congr_left
 intro y hy
 exact cutZ_id fun k=>by rw [ba_text];exact text_no (h y hy) 59 (.inr rfl) k
theorem code_alls (L:List (ByteArray × Nat)):∀ (es:List En) (out:List Int),(∀ x∈es.map En.l,x.label.size=0∧x.far=false)→codeZ L es out=.ok (out ++ (es.map En.l).flatMap fun l=>encI l.op l.a l.b l.imm)
 | [],out,h=>by simp [codeZ]
 | e :: es,out,h=>by
  obtain ⟨h1,h2⟩:=h e.l (by simp)
  rw [codeZ]
  unfold En.fix
  rw [if_pos h1]
  simp only
  rw [if_neg (by rw [h2];decide),code_alls L es _ (fun x hx=>h x (by simp at hx ⊢;exact .inr hx))]
  simp
theorem blank_row (z:Az) (no:Nat):∃ z',z.row no ⟨#[]⟩=.ok z'∧z'.size=z.size∧z'.labels=z.labels∧z'.funcs=z.funcs∧z'.list=z.list:=by
 refine ⟨⟨no,z.size,z.list,z.labels,z.funcs⟩,?_,rfl,rfl,rfl,rfl⟩
 rw [row_plain z no (s:=⟨#[]⟩) (fun i=>⟨by simp,fun h=>by simp at h⟩)]
 exact if_pos (by decide +kernel)
theorem asm_ll (ls:List Ll) (ho:∀ y∈ls,OkL y) (hs:lenL ls≤2048) (hf:(namL ls).length≤32) (hn:(namL ls).Nodup) :
  ∃ z:Az,asmZ (bS (ls.flatMap Ll.bytes))=.ok ((insL ls).flatMap encX,z)∧z.size=lenL ls∧z.labels=labL ls 0∧z.funcs=namL ls:=by
 obtain ⟨z1,e0,e1,e2,e3,e4⟩:=rows_ll ls 1 z00 ho (by show 0+lenL ls≤2048;omega) (by show 0+(namL ls).length≤32;omega) (fun p hp=>by cases hp) hn
 obtain ⟨z2,b0,b1,b2,b3,b4⟩:=blank_row z1 (1+(ls.map Ll.ba).length)
 have hr:rowsZ 1 z00 (ls.map Ll.ba ++ [⟨#[]⟩])=.ok z2:=by
  rw [rows_append,e0]
  simp only
  rw [rowsZ,b0]
  rfl
 have hl:z2.list.map En.l=(insL ls).map lineX:=by rw [b4,e4];rfl
 have hc:codeZ z2.labels z2.list []=.ok ([] ++ (z2.list.map En.l).flatMap fun l=>encI l.op l.a l.b l.imm):=code_alls _ _ _ (fun x hx=>by
  rw [hl] at hx
  obtain ⟨y,_,rfl⟩:=List.mem_map.1 hx
  exact ⟨rfl,rfl⟩)
 refine ⟨z2,?_,by rw [b1,e1];show 0+lenL ls=_;omega,by rw [b2,e2];rfl,by rw [b3,e3];rfl⟩
 unfold asmZ asmR
 rw [pieces_ll ls ho,hr]
 simp only
 rw [hc,hl,List.flatMap_map]
 rfl
theorem ins_app:∀ a b:List Ll,insL (a ++ b)=insL a ++ insL b
 | [],b=>rfl
 | .fn s :: a,b=>by simp [insL,ins_app a b]
 | .ins x :: a,b=>by simp [insL,ins_app a b]
theorem len_app:∀ a b:List Ll,lenL (a ++ b)=lenL a+lenL b
 | [],b=>by simp [lenL]
 | .fn s :: a,b=>by simp [lenL,len_app a b]
 | .ins x :: a,b=>by simp only [List.cons_append,lenL,len_app a b];omega
theorem lab_app:∀ (a b:List Ll) (i:Nat),labL (a ++ b) i=labL a i ++ labL b (i+lenL a)
 | [],b,i=>by simp [labL,lenL]
 | .fn s :: a,b,i=>by simp [labL,lenL,lab_app a b i]
 | .ins x :: a,b,i=>by simp only [List.cons_append,labL,lenL,lab_app a b _,Nat.add_assoc]
theorem fns_alone (L:List S61) (h:Int):insL (fnsAt L h)=[]∧lenL (fnsAt L h)=0∧namL (fnsAt L h)=(L.filter fun s=>decide (s.f1=h)).map (·.f0)∧∀ i,labL (fnsAt L h) i=(L.filter fun s=>decide (s.f1=h)).map fun s=>(s.f0,i):=by
 unfold fnsAt
 generalize (L.filter fun s=>decide (s.f1=h))=M
 induction M with
 | nil=>exact ⟨rfl,rfl,rfl,fun _=>rfl⟩
 | cons s M ih =>
  obtain ⟨a,b,c,d⟩:=ih
  exact ⟨by simpa [insL] using a,by simpa [lenL] using b,by simpa [namL] using c,fun i=>by simpa [labL] using d i⟩
theorem ins_lst (L:List S61) (at_:Int):∀ (X:List S23) (i:Nat),insL (lstL L at_ X i)=X
 | [],i=>(fns_alone L _).1
 | x :: X,i=>by
  simp only [lstL]
  rw [ins_app,(fns_alone L _).1]
  simp [insL,ins_lst L at_ X]
theorem len_lst (L:List S61) (at_:Int):∀ (X:List S23) (i:Nat),lenL (lstL L at_ X i)=lens X
 | [],i=>(fns_alone L _).2.1
 | x :: X,i=>by
  simp only [lstL]
  rw [len_app,(fns_alone L _).2.1]
  have:=len_lst L at_ X (i+(encX x).length)
  simp only [lenL,this,lens,List.map_cons,List.sum_cons]
  omega
theorem ok_lst (L:List S61) (at_:Int) (hL:∀ s∈L,nameB s.f0=true):∀ (X:List S23) (i:Nat),(∀ x∈X,chkD x.f0 x.f1 x.f2 x.f3=0∧Rg x.f3)→∀ y∈lstL L at_ X i,OkL y
 | [],i,h,y,hy=>by
  obtain ⟨s,hs,rfl⟩:=List.mem_map.1 hy
  exact hL s (List.mem_filter.1 hs).1
 | x :: X,i,h,y,hy=>by
  simp only [lstL] at hy
  rcases List.mem_append.1 hy with hy | hy
  ·obtain ⟨s,hs,rfl⟩:=List.mem_map.1 hy
   exact hL s (List.mem_filter.1 hs).1
  ·rcases List.mem_cons.1 hy with rfl | hy
   ·exact h x List.mem_cons_self
   ·exact ok_lst L at_ hL X _ (fun z hz=>h z (List.mem_cons_of_mem _ hz)) y hy
def Asc (L:List S61):Prop:=L.Pairwise fun a b=>a.f1≤b.f1
theorem filt_split (a c:Int) (hac:a < c):∀ L:List S61,Asc L→(∀ s∈L,a≤s.f1→s.f1=a∨c≤s.f1) →
  (L.filter fun s=>decide (a≤s.f1))=(L.filter fun s=>decide (s.f1=a)) ++ L.filter fun s=>decide (c≤s.f1)
 | [],_,_=>rfl
 | s :: L,hp,hm=>by
  obtain ⟨h1,h2⟩:=List.pairwise_cons.1 hp
  have ih:=filt_split a c hac L h2 (fun x hx=>hm x (List.mem_cons_of_mem _ hx))
  by_cases c1:a≤s.f1
  ·rcases hm s List.mem_cons_self c1 with e | e
   ·rw [List.filter_cons_of_pos (by simpa using c1),List.filter_cons_of_pos (by simpa using e),List.filter_cons_of_neg (by simp;omega),ih]
    rfl
   ·have hnil:(L.filter fun s=>decide (s.f1=a))=[]:=by
     rw [List.filter_eq_nil_iff]
     intro x hx
     have:=h1 x hx
     simp
     omega
    rw [hnil,List.nil_append] at ih
    rw [List.filter_cons_of_pos (by simpa using c1),List.filter_cons_of_neg (by simp;omega),List.filter_cons_of_pos (by simpa using e),ih,hnil]
    rfl
  ·rw [List.filter_cons_of_neg (by simpa using c1),List.filter_cons_of_neg (by simp;omega),List.filter_cons_of_neg (by simp;omega),ih]
theorem lab_lst (L:List S61) (at_:Int) (hA:Asc L):∀ (X:List S23) (i:Nat),(∀ x∈X,1≤(encX x).length) →
  (∀ s∈L,at_+i≤s.f1→(∃ k,k≤X.length∧s.f1=at_+((i+lens (X.take k):Nat):Int))) →
  labL (lstL L at_ X i) i=(L.filter fun s=>decide (at_+i≤s.f1)).map fun s=>(s.f0,(s.f1 - at_).toNat)
 | [],i,_,hm=>by
  simp only [lstL]
  rw [(fns_alone L _).2.2.2]
  have e:(L.filter fun s=>decide (s.f1=at_+(i:Int)))=L.filter fun s=>decide (at_+(i:Int)≤s.f1):=by
   apply List.filter_congr
   intro s hs
   rw [decide_eq_decide]
   constructor
   ·intro h;omega
   ·intro h
    obtain ⟨k,hk,h2⟩:=hm s hs h
    simp [lens] at h2
    omega
  rw [e]
  apply List.map_congr_left
  intro s hs
  obtain ⟨hs1,hs2⟩:=List.mem_filter.1 hs
  obtain ⟨k,hk,h2⟩:=hm s hs1 (by simpa using hs2)
  simp [lens] at h2
  rw [h2]
  congr 1
  omega
 | x :: X,i,hx,hm=>by
  have hp:=hx x List.mem_cons_self
  have hm2:∀ s∈L,at_+i≤s.f1→s.f1=at_+i∨at_+((i+(encX x).length:Nat):Int)≤s.f1:=by
   intro s hs h
   obtain ⟨k,hk,h2⟩:=hm s hs h
   cases k with
   | zero=>left;simp [lens] at h2;exact h2
   | succ k =>
    right
    simp only [List.take_succ_cons,lens,List.map_cons,List.sum_cons] at h2
    omega
  rw [filt_split (at_+i) (at_+((i+(encX x).length:Nat):Int)) (by omega) L hA hm2]
  simp only [lstL]
  rw [lab_app,(fns_alone L _).2.2.2,(fns_alone L _).2.1,Nat.add_zero,List.map_append]
  congr 1
  ·apply List.map_congr_left
   intro s hs
   have h2:=(List.mem_filter.1 hs).2
   have h2:s.f1=at_+(i:Int):=by simpa using h2
   rw [h2]
   congr 1
   omega
  ·simp only [labL]
   refine lab_lst L at_ hA X (i+(encX x).length) (fun y hy=>hx y (List.mem_cons_of_mem _ hy)) (fun s hs h=>?_)
   obtain ⟨k,hk,h2⟩:=hm s hs (by omega)
   cases k with
   | zero=>simp [lens] at h2;omega
   | succ k =>
    refine ⟨k,by simpa using hk,?_⟩
    simp only [List.take_succ_cons,lens,List.map_cons,List.sum_cons] at h2 ⊢
    omega
theorem nam_lab:∀ (ls:List Ll) (i:Nat),namL ls=(labL ls i).map (·.1)
 | [],i=>rfl
 | .fn s :: ls,i=>by simp [namL,labL,nam_lab ls i]
 | .ins x :: ls,i=>by simp [namL,labL,← nam_lab ls]
def nextF (e:Int):List S61→Int
 | []=>e
 | t :: _=>t.f1
def Ch (e:Int):List S61→Prop
 | []=>True
 | s :: M=>s.f2=nextF e M - s.f1∧Ch e M
theorem syms_eq (labs:List (ByteArray × Nat)) (size:Nat) (at_:Int):∀ M:List S61,(∀ s∈M,lookD labs s.f0=(s.f1 - at_).toNat∧at_≤s.f1)→Ch (at_+size) M→symsZ labs size at_ (M.map (·.f0))=M
 | [],_,_=>rfl
 | s :: M,h,hc=>by
  obtain ⟨h1,h2⟩:=h s List.mem_cons_self
  obtain ⟨c1,c2⟩:=hc
  have ih:=syms_eq labs size at_ M (fun x hx=>h x (List.mem_cons_of_mem _ hx)) c2
  obtain ⟨sn,sa,sz⟩:=s
  simp only at h1 h2 c1
  have e1:(lookD labs sn:Int)=sa - at_:=by rw [h1];omega
  have e2:(endZ labs size (M.map (·.f0)):Int)=nextF (at_+size) M - at_:=by
   cases M with
   | nil=>simp [endZ,nextF];omega
   | cons t M =>
    obtain ⟨t1,t2⟩:=h t (List.mem_cons_of_mem _ List.mem_cons_self)
    show (lookD labs t.f0:Int)=t.f1 - at_
    rw [t1]
    omega
  simp only [List.map_cons,symsZ]
  rw [ih,e1,e2,c1]
  congr 2
  ·omega
  ·omega
theorem nodup_inj:∀ L:List S61,(L.map (·.f0)).Nodup→∀ a∈L,∀ b∈L,a.f0=b.f0→a=b
 | [],_,a,ha,_,_,_=>by cases ha
 | s :: L,hn,a,ha,b,hb,e=>by
  obtain ⟨h1,h2⟩:=List.nodup_cons.1 hn
  rcases List.mem_cons.1 ha with rfl | ha2 <;> rcases List.mem_cons.1 hb with rfl | hb2
  ·rfl
  ·exact (h1 (List.mem_map.2 ⟨b,hb2,e.symm⟩)).elim
  ·exact (h1 (List.mem_map.2 ⟨a,ha2,e⟩)).elim
  ·exact nodup_inj L h2 a ha2 b hb2 e
theorem look_labs {L:List S61} {at_:Int} (hn:(L.map (·.f0)).Nodup) {s:S61} (hs:s∈L):lookD (L.map fun s=>(s.f0,(s.f1 - at_).toNat)) s.f0=(s.f1 - at_).toNat:=by
 unfold lookD
 have hd:Dist (L.map fun s=>(s.f0,(s.f1 - at_).toNat)):=by
  intro p hp q hq e
  obtain ⟨a,ha,rfl⟩:=List.mem_map.1 hp
  obtain ⟨b,hb,rfl⟩:=List.mem_map.1 hq
  have:a=b:=nodup_inj L hn a ha b hb e
  rw [this]
 have:=lookB_of hd (p:=(s.f0,(s.f1 - at_).toNat)) (List.mem_map.2 ⟨s,hs,rfl⟩)
 rw [this]
 rfl
theorem fit_at {L:List S61} {at_:Int} {O:List Int} {e:Int} (h:fitB L at_ O e=true) {i:Nat} (hi:i < L.length) :
  nameB L[i].f0=true∧nameIn L i=false∧L[i].f1∈startsL at_ O e∧(0 < i→¬ L[i].f1 < (rd_T61 L ((i:Int) - 1)).f1)∧L[i].f2=wrap64 (nextS L e i - L[i].f1):=by
 unfold fitB at h
 rw [List.all_eq_true] at h
 have h1:=h i (List.mem_range.2 hi)
 unfold fitAt at h1
 rw [rd_T61_mem hi] at h1
 simp only [Bool.and_eq_true,Bool.not_eq_true',decide_eq_true_eq,Bool.and_eq_false_iff,decide_eq_false_iff_not] at h1
 obtain ⟨⟨⟨⟨a,b⟩,c⟩,d⟩,e9⟩:=h1
 exact ⟨a,b,c,fun h0=>d.resolve_left (fun h=>h h0),e9⟩
theorem fit_asc {L:List S61} {at_:Int} {O:List Int} {e:Int} (h:fitB L at_ O e=true):Asc L:=by
 have step:∀ i (hi:i+1 < L.length),L[i].f1≤L[i+1].f1:=by
  intro i hi
  have:=(fit_at h hi).2.2.2.1 (by omega)
  rw [show ((i+1:Nat):Int) - 1=(i:Int) by omega,rd_T61_mem (by omega)] at this
  omega
 have all:∀ d i (hi:i+d < L.length),L[i].f1≤L[i+d].f1:=by
  intro d
  induction d with
  | zero=>intro i hi;exact Int.le_refl _
  | succ d ih =>
   intro i hi
   have a:=ih i (by omega)
   have b:=step (i+d) (by omega)
   exact Int.le_trans a b
 unfold Asc
 rw [List.pairwise_iff_getElem]
 intro i j hi hj hij
 have:=all (j - i) i (by omega)
 simpa [show i+(j - i)=j by omega] using this
theorem fit_nodup {L:List S61} {at_:Int} {O:List Int} {e:Int} (h:fitB L at_ O e=true):(L.map (·.f0)).Nodup:=by
 unfold List.Nodup
 rw [List.pairwise_iff_getElem]
 intro i j hi hj hij
 rw [List.length_map] at hi hj
 have hn:=(fit_at h hj).2.1
 unfold nameIn at hn
 rw [List.any_eq_false] at hn
 have:=hn i (List.mem_range.2 hij)
 rw [rd_T61_mem hi,rd_T61_mem hj] at this
 simpa using this
theorem fit_start {L:List S61} {at_:Int} {X:List S23} (h0:0≤at_) (h1:at_≤1099511627776) (hl:lens X≤2048) (h:fitB L at_ (offsL X 0) (at_+lens X)=true):∀ s∈L,∃ k,k≤X.length∧s.f1=at_+(lens (X.take k):Nat):=by
 intro s hs
 obtain ⟨i,hi,rfl⟩:=List.getElem_of_mem hs
 have hm:=(fit_at h hi).2.2.1
 unfold startsL at hm
 rcases List.mem_append.1 hm with hm | hm
 ·obtain ⟨o,ho,e⟩:=List.mem_map.1 (List.mem_reverse.1 hm)
  obtain ⟨k,hk,rfl⟩:=List.getElem_of_mem ho
  have hlen:∀ (Y:List S23) (j:Nat),(offsL Y j).length=Y.length:=by
   intro Y
   induction Y with
   | nil=>intro j;rfl
   | cons y Y ih=>intro j;simp [offsL,ih]
  rw [hlen] at hk
  have ho2:=offs_at X 0 k hk
  rw [List.getD_eq_getElem?_getD,List.getElem?_eq_getElem (by rw [hlen];exact hk)] at ho2
  simp only [Option.getD_some,Nat.zero_add] at ho2
  have hle:lens (X.take k)≤lens X:=by
   rw [lens_flat,lens_flat]
   conv=>rhs;rw [← List.take_append_drop k X,List.flatMap_append,List.length_append]
   omega
  refine ⟨k,by omega,?_⟩
  rw [← e,ho2]
  simp only [wrap64]
  omega
 ·refine ⟨X.length,Nat.le_refl _,?_⟩
  rw [List.take_length]
  simpa using hm
theorem lens_take_le (X:List S23) (k:Nat):lens (X.take k)≤lens X:=by
 rw [lens_flat,lens_flat]
 conv=>rhs;rw [← List.take_append_drop k X,List.flatMap_append,List.length_append]
 omega
theorem fit_ch {L:List S61} {at_:Int} {X:List S23} (h0:0≤at_) (h1:at_≤1099511627776) (hl:lens X≤2048) (h:fitB L at_ (offsL X 0) (at_+lens X)=true):∀ d i,i+d=L.length→Ch (at_+lens X) (L.drop i)
 | 0,i,hi=>by rw [List.drop_of_length_le (by omega)];trivial
 | d+1,i,hi=>by
  have hlt:i < L.length:=by omega
  rw [List.drop_eq_getElem_cons hlt]
  refine ⟨?_,fit_ch h0 h1 hl h d (i+1) (by omega)⟩
  have hf:=(fit_at h hlt).2.2.2.2
  obtain ⟨k,_,ek⟩:=fit_start h0 h1 hl h L[i] (List.getElem_mem hlt)
  have hk:=lens_take_le X k
  have hnx:nextS L (at_+lens X) i=nextF (at_+lens X) (L.drop (i+1)):=by
   unfold nextS
   by_cases c:i+1 < L.length
   ·rw [if_pos c,List.drop_eq_getElem_cons c,show (i:Int)+1=((i+1:Nat):Int) by omega,rd_T61_mem c]
    rfl
   ·rw [if_neg c,List.drop_of_length_le (by omega)]
    rfl
  have hr:at_≤nextF (at_+lens X) (L.drop (i+1))∧nextF (at_+lens X) (L.drop (i+1))≤at_+2048:=by
   by_cases c:i+1 < L.length
   ·rw [List.drop_eq_getElem_cons c]
    obtain ⟨k2,_,e2⟩:=fit_start h0 h1 hl h L[i+1] (List.getElem_mem c)
    have hk2:=lens_take_le X k2
    show at_≤L[i+1].f1∧L[i+1].f1≤_
    omega
   ·rw [List.drop_of_length_le (by omega)]
    show at_≤at_+(lens X:Int)∧_
    exact ⟨by omega,by show at_+(lens X:Int)≤_;omega⟩
  rw [hf,hnx]
  simp only [wrap64]
  omega
theorem dl_step {k m:Nat} (h:∀ u,u < m→(Lib.decDigits u).length≤k) (u:Nat) (hu:u < 10 * m) (hk:1≤k):(Lib.decDigits u).length≤k+1:=by
 rw [Lib.decDigits]
 by_cases c:u < 10
 ·rw [dif_pos c,List.length_singleton]
  omega
 ·rw [dif_neg c,List.length_append,List.length_singleton]
  have:=h (u / 10) (by omega)
  omega
theorem dl1 (u:Nat) (hu:u < 10):(Lib.decDigits u).length≤1:=by
 rw [Lib.decDigits_one hu]
 exact Nat.le_refl 1
theorem dl2 (u:Nat) (hu:u < 10 * 10):(Lib.decDigits u).length≤2:=dl_step dl1 u hu (by decide)
theorem dl3 (u:Nat) (hu:u < 10 * (10 * 10)):(Lib.decDigits u).length≤3:=dl_step dl2 u hu (by decide)
theorem dl4 (u:Nat) (hu:u < 10 * (10 * (10 * 10))):(Lib.decDigits u).length≤4:=dl_step dl3 u hu (by decide)
theorem reg_len (x:Int):(regW x).length=2:=rfl
theorem small_len {v:Int} (h:-64≤v∧v < 64) (b:Int):(numW v).length≤3∧(distW v).length≤4∧(addrW b v).length≤7:=by
 unfold distW addrW
 simp only [List.length_cons,List.length_append,List.length_nil,reg_len]
 by_cases hn:v < 0
 ·have:=dl2 v.natAbs (by omega)
  rw [if_pos hn,if_neg (show ¬ v > 0 by omega),if_pos hn,num_neg hn]
  simp only [List.length_cons]
  omega
 ·have:=dl2 v.toNat (by omega)
  rw [if_neg hn,if_neg hn,num_pos hn]
  by_cases hp:v > 0
  ·rw [if_pos hp]
   simp only [List.length_cons]
   omega
  ·rw [if_neg hp]
   simp only [List.length_cons,List.length_nil]
   omega
theorem mid_len {v:Int} (h:-8192≤v∧v < 8192):(distW v).length≤6:=by
 unfold distW
 by_cases hn:v < 0
 ·have:=dl4 v.natAbs (by omega)
  rw [if_pos hn,num_neg hn]
  simp only [List.length_cons]
  omega
 ·have:=dl4 v.toNat (by omega)
  rw [if_neg hn,num_pos hn]
  simp only [List.length_cons]
  omega
theorem sys_len {v:Int} (h:0≤v∧v≤127):(numW v).length≤3:=by
 rw [num_pos (by omega)]
 exact dl3 v.toNat (by omega)
def wid (f:Int):Rd→Nat
 | .a=>2
 | .b=>2
 | .mem=>4
 | .num=>if f=3 then 21 else 3
 | .addr=>7
 | .target=>if f=5 then 4 else 6
def okw (f:Int):Rd→Bool
 | .num=>f == 3 || f == 4 || f == 8
 | .addr=>f == 5
 | .target=>f == 5 || f == 6 || f == 7
 | _=>true
theorem wid_fin:∀ i:Fin 77,nameM (i.val:Int)≠[]→(readsM (i.val:Int)).all (okw (formM (i.val:Int)))=true∧(nameM (i.val:Int)).length+((readsM (i.val:Int)).map fun k=>wid (formM (i.val:Int)) k+2).sum+1≤7 * lenM (formM (i.val:Int))+(if readsM (i.val:Int)=[] then 0 else 1):=by decide +kernel
theorem wid_k {f a b v:Int} (hF:fitsM f v=true) (hr:Rg v) {k:Rd} (h:okw f k=true):(rdW a b v k).length≤wid f k:=by
 have h2:f=4∨f=5→-64≤v∧v < 64:=by rintro (rfl | rfl) <;> simpa [fitsM,bytesM] using hF
 have h3:f=6∨f=7→-8192≤v∧v < 8192:=by rintro (rfl | rfl) <;> simpa [fitsM,bytesM] using hF
 cases k with
 | a=>exact Nat.le_refl 2
 | b=>exact Nat.le_refl 2
 | mem=>exact Nat.le_refl 4
 | num =>
  show (numW v).length≤if f=3 then 21 else 3
  simp only [okw,Bool.or_eq_true,beq_iff_eq] at h
  by_cases c:f=3
  ·rw [if_pos c]
   exact num_len hr.1 hr.2
  ·rw [if_neg c]
   rcases h with (h | h) | h
   ·exact absurd h c
   ·exact (small_len (h2 (.inl h)) b).1
   ·subst h
    exact sys_len (by simpa [fitsM,bytesM] using hF)
 | addr =>
  simp only [okw,beq_iff_eq] at h
  exact (small_len (h2 (.inr h)) b).2.2
 | target =>
  show (distW v).length≤if f=5 then 4 else 6
  simp only [okw,Bool.or_eq_true,beq_iff_eq] at h
  by_cases c:f=5
  ·rw [if_pos c]
   exact (small_len (h2 (.inr c)) b).2.1
  ·rw [if_neg c]
   exact mid_len (h3 (by omega))
theorem tail_len {f a b v:Int} (hF:fitsM f v=true) (hr:Rg v):∀ ks:List Rd,ks.all (okw f)=true→(tailW a b v ks).length≤(ks.map fun k=>wid f k+2).sum
 | [],_=>Nat.le_refl 0
 | k :: ks,h=>by
  rw [List.all_cons,Bool.and_eq_true] at h
  have h1:=tail_len (a:=a) (b:=b) hF hr ks h.2
  have h2:=wid_k (a:=a) (b:=b) hF hr h.1
  unfold tailW at h1 ⊢
  simp only [List.flatMap_cons,List.length_append,List.length_cons,List.map_cons,List.sum_cons]
  omega
theorem line_len {op a b v:Int} (hc:chkD op a b v=0) (hr:Rg v):(printW op a b v).length+1≤7 * (encI op a b v).length:=by
 obtain ⟨hv,-,-,-,-,-,-,hF⟩:=chk_parts hc
 have ho:=op_valid hv
 obtain ⟨i,rfl⟩:∃ i:Fin 77,op=(i.val:Int):=⟨⟨op.toNat,by omega⟩,by simp;omega⟩
 obtain ⟨w1,w2⟩:=wid_fin i hv
 have ht:=tail_len (a:=a) (b:=b) hF hr _ w1
 rw [encI_eq]
 unfold printW
 rw [List.length_append]
 cases hk:readsM (i.val:Int) with
 | nil =>
  rw [hk] at w2
  simp only [if_pos,List.map_nil,List.sum_nil] at w2
  show _+0+1≤_
  omega
 | cons k ks =>
  rw [hk] at w1 w2
  rw [if_neg (by simp)] at w2
  rw [List.all_cons,Bool.and_eq_true] at w1
  have h1:=tail_len (a:=a) (b:=b) hF hr ks w1.2
  have h2:=wid_k (a:=a) (b:=b) hF hr w1.1
  simp only [opW,List.length_cons,List.length_append]
  simp only [List.map_cons,List.sum_cons] at w2
  omega
theorem ll_len:∀ ls:List Ll,(∀ y∈ls,OkL y)→(ls.flatMap Ll.bytes).length≤7 * lenL ls+38 * (namL ls).length
 | [],_=>by simp [lenL]
 | .fn s :: ls,h=>by
  have ih:=ll_len ls fun y hy=>h y (List.mem_cons_of_mem _ hy)
  have h1:=(name_parts (show nameB s=true from h _ List.mem_cons_self)).2.2
  rw [List.flatMap_cons,List.length_append]
  simp only [Ll.bytes,Ll.text,List.length_append,List.length_cons,List.length_nil,lenL,namL]
  omega
 | .ins x :: ls,h=>by
  have ih:=ll_len ls fun y hy=>h y (List.mem_cons_of_mem _ hy)
  obtain ⟨hc,hr⟩:chkD x.f0 x.f1 x.f2 x.f3=0∧Rg x.f3:=h _ List.mem_cons_self
  have h1:=line_len hc hr
  have e:(Ll.ins x).bytes.length=(printW x.f0 x.f1 x.f2 x.f3).length+1:=by
   simp only [Ll.bytes,Ll.text,List.length_append,List.length_cons,List.length_nil]
   unfold prX
   rw [toS]
  rw [List.flatMap_cons,List.length_append,e]
  simp only [lenL,namL]
  have:(encX x).length=(encI x.f0 x.f1 x.f2 x.f3).length:=rfl
  omega
theorem half_one {l:List Int} (hb:Byt l) {at_:Int} {L:List S61} {s:ByteArray} (h:disZ l at_ L=(s,0)):asmOut s at_=(l,L,0,0):=by
 unfold disZ at h
 by_cases c1:32 < L.length
 ·rw [if_pos c1] at h;cases h
 rw [if_neg c1] at h
 by_cases c2:at_ < 0∨1099511627776 < at_
 ·rw [if_pos c2] at h;cases h
 rw [if_neg c2] at h
 by_cases c3:¬ (swp l).2.2=0
 ·rw [if_pos c3] at h
  exact absurd (Prod.mk.inj h).2 c3
 have c3:=Decidable.not_not.1 c3
 rw [if_neg (by simpa using c3)] at h
 obtain ⟨hO,hfl,hl2,hgood⟩:=swp_enc hb c3
 obtain ⟨X,hX⟩:∃ X,(swp l).1=X:=⟨_,rfl⟩
 rw [hO,hX] at h
 rw [hX] at hfl hgood
 have hlen:lens X=l.length:=by rw [lens_flat,hfl]
 rw [← hlen] at h hl2
 cases hfb:fitB L at_ (offsL X 0) (at_+lens X) with
 | false=>rw [if_pos hfb] at h;cases h
 | true =>
  rw [if_neg (by rw [hfb];simp)] at h
  have ha0:0≤at_:=Int.not_lt.1 fun h=>c2 (Or.inl h)
  have ha1:at_≤1099511627776:=Int.not_lt.1 fun h=>c2 (Or.inr h)
  rw [out_eq L at_ X ha0 ha1 hl2] at h
  have hs:s=bS ((lstL L at_ X 0).flatMap Ll.bytes):=(Prod.mk.inj h).1.symm
  have hnm:∀ x∈L,nameB x.f0=true:=fun x hx=>by
   obtain ⟨i,hi,rfl⟩:=List.getElem_of_mem hx
   exact (fit_at hfb hi).1
  have hst:=fit_start ha0 ha1 hl2 hfb
  have hlab:labL (lstL L at_ X 0) 0=L.map fun x=>(x.f0,(x.f1 - at_).toNat):=by
   rw [lab_lst L at_ (fit_asc hfb) X 0 (fun x hx=>encX_pos (hgood x hx).1) (fun x hx _=>by
    obtain ⟨k,hk,e⟩:=hst x hx
    exact ⟨k,hk,by rw [e,Nat.zero_add]⟩)]
   congr 1
   rw [List.filter_eq_self]
   intro x hx
   obtain ⟨k,hk,e⟩:=hst x hx
   simp
   omega
  have hnam:namL (lstL L at_ X 0)=L.map (·.f0):=by
   rw [nam_lab _ 0,hlab,List.map_map]
   rfl
  obtain ⟨z,hz,z1,z2,z3⟩:=asm_ll (lstL L at_ X 0) (ok_lst L at_ hnm X 0 hgood) (by rw [len_lst];exact hl2) (by rw [hnam,List.length_map];omega) (by rw [hnam];exact fit_nodup hfb)
  have hsz:s.size≤20000:=by
   have h1:=ll_len _ (ok_lst L at_ hnm X 0 hgood)
   rw [len_lst,hnam,List.length_map] at h1
   rw [hs,bS_len]
   omega
  have hsy:symsZ z.labels z.size at_ z.funcs=L:=by
   rw [z1,z2,z3,hlab,hnam,len_lst]
   refine syms_eq _ _ _ L (fun x hx=>⟨look_labs (fit_nodup hfb) hx,?_⟩) ?_
   ·obtain ⟨k,hk,e⟩:=hst x hx
    omega
   ·exact fit_ch ha0 ha1 hl2 hfb L.length 0 (by omega)
  unfold asmOut
  rw [if_neg (by omega),if_neg c2,hs,hz,ins_lst,hfl]
  unfold asmFin
  simp only
  rw [hsy]
structure Inv1 (l:L9):Prop where
 a0:0≤l.a
 a7:l.a≤7
 b0:0≤l.b
 b7:l.b≤7
 fits:fitsM (formM l.op) l.imm=true
 rg:Rg l.imm
structure Stp (fa fb:Bool) (l l':L9):Prop where
 op:l'.op=l.op
 a:fa=false→l'.a=l.a
 b:fb=false→l'.b=l.b
 inv:Inv1 l→Inv1 l'
theorem Stp.same {l l':L9} (h1:l'.op=l.op) (h2:l'.a=l.a) (h3:l'.b=l.b) (h4:l'.imm=l.imm):Stp false false l l' :=
 ⟨h1,fun _=>h2,fun _=>h3,fun h=>⟨by rw [h2];exact h.a0,by rw [h2];exact h.a7,by rw [h3];exact h.b0,by rw [h3];exact h.b7,by rw [h1,h4];exact h.fits,by rw [h4];exact h.rg⟩⟩
theorem Stp.go (l:L9) (e:Nat):Stp false false l (l.go e):=Stp.same rfl rfl rfl rfl
theorem Stp.trans {fa fb ga gb:Bool} {l l1 l2:L9} (h:Stp fa fb l l1) (g:Stp ga gb l1 l2):Stp (fa || ga) (fb || gb) l l2 :=
 ⟨g.op.trans h.op,fun e=>by
  rw [Bool.or_eq_false_iff] at e
  exact (g.a e.2).trans (h.a e.1),fun e=>by
  rw [Bool.or_eq_false_iff] at e
  exact (g.b e.2).trans (h.b e.1),fun i=>g.inv (h.inv i)⟩
theorem Stp.pre {fa fb:Bool} {l l1 l2:L9} (h:Stp false false l l1) (g:Stp fa fb l1 l2):Stp fa fb l l2:=by
 have:=h.trans g
 rwa [Bool.false_or,Bool.false_or] at this
theorem Stp.post {fa fb:Bool} {l l1 l2:L9} (h:Stp fa fb l l1) (g:Stp false false l1 l2):Stp fa fb l l2:=by
 have:=h.trans g
 rwa [Bool.or_false,Bool.or_false] at this
theorem tk_stp (l:L9) (v:Bool):Stp false false l (l.tk v):=by
 cases v
 ·exact Stp.same rfl rfl rfl rfl
 ·exact Stp.same rfl rfl rfl rfl
theorem rg_rng {l:L9} {p:Int × L9} (h:l.rg=some p):0≤p.1∧p.1≤7∧p.2=l.next.next:=by
 unfold L9.rg at h
 split at h
 ·split at h
  ·split at h
   ·cases h
   ·rename_i _ h2 _
    cases h
    exact ⟨by show (0:Int)≤(l.next.peek:Int) - 48;omega,by show (l.next.peek:Int) - 48≤7;omega,rfl⟩
  ·cases h
 ·cases h
theorem rA_stp {l l':L9} (h:l.rA=some l'):Stp true false l l':=by
 unfold L9.rA at h
 cases hr:l.rg with
 | none=>rw [hr] at h;cases h
 | some p =>
  rw [hr] at h
  cases h
  obtain ⟨h1,h2,h3⟩:=rg_rng hr
  obtain ⟨x,m⟩:=p
  simp only at h1 h2 h3
  subst h3
  exact ⟨rfl,fun e=>(by cases e),fun _=>rfl,fun i=>⟨h1,h2,i.b0,i.b7,i.fits,i.rg⟩⟩
theorem rB_stp {l l':L9} (h:l.rB=some l'):Stp false true l l':=by
 unfold L9.rB at h
 cases hr:l.rg with
 | none=>rw [hr] at h;cases h
 | some p =>
  rw [hr] at h
  cases h
  obtain ⟨h1,h2,h3⟩:=rg_rng hr
  obtain ⟨x,m⟩:=p
  simp only at h1 h2 h3
  subst h3
  exact ⟨rfl,fun _=>rfl,fun e=>(by cases e),fun i=>⟨i.a0,i.a7,h1,h2,i.fits,i.rg⟩⟩
theorem pv_rg {s:ByteArray} {v:Int} (h:pv s=some v):Rg v:=by
 unfold pv at h
 split at h
 ·rename_i u hu
  cases h
  have:=Lib.parseIntB_bounds hu
  have e:((2 ^ (64 - 1):Nat):Int)=9223372036854775808:=by decide
  rw [e] at this
  exact ⟨this.1,by have:=this.2;omega⟩
 ·cases h
theorem dg_go {l l':L9} {m:Bool} {o:Option Int} (h:l.dg m=some (o,l')):Stp false false l l'∧∀ v,o=some v→Rg v:=by
 unfold L9.dg at h
 split at h
 ·split at h
  ·cases h
   exact ⟨Stp.go _ _,fun v hv=>pv_rg hv⟩
  ·cases h
 ·cases h
theorem setN_stp {l l':L9} {m:Bool} (h:L9.setN (formM l.op) (l.dg m)=some l'):Stp false false l { l' with imm:=l.imm }∧fitsM (formM l.op) l'.imm=true∧Rg l'.imm:=by
 cases hd:l.dg m with
 | none=>rw [hd] at h;cases h
 | some p =>
  obtain ⟨o,l1⟩:=p
  rw [hd] at h
  obtain ⟨g1,g2⟩:=dg_go hd
  cases o with
  | none=>cases h
  | some v =>
   unfold L9.setN at h
   simp only at h
   split at h
   ·rename_i hf
    cases h
    exact ⟨⟨g1.op,g1.a,g1.b,fun i=>⟨by rw [g1.a rfl];exact i.a0,by rw [g1.a rfl];exact i.a7,by rw [g1.b rfl];exact i.b0,by rw [g1.b rfl];exact i.b7,by rw [g1.op];exact i.fits,i.rg⟩⟩,hf,g2 v rfl⟩
   ·cases h
theorem setN_stp2 {l l':L9} {m:Bool} (h:L9.setN (formM l.op) (l.dg m)=some l'):Stp false false l l':=by
 obtain ⟨g,hf,hr⟩:=setN_stp h
 exact ⟨g.op,g.a,g.b,fun i=>⟨(g.inv i).a0,(g.inv i).a7,(g.inv i).b0,(g.inv i).b7,by rw [show l'.op=l.op from g.op];exact hf,hr⟩⟩
theorem close_stp {l l':L9} (h:l.close=some l'):Stp false false l l':=by
 unfold L9.close at h
 split at h
 ·cases h
  exact Stp.same rfl rfl rfl rfl
 ·cases h
theorem mem_stp {l l':L9} (h:l.mem=some l'):Stp false true l l':=by
 unfold L9.mem at h
 split at h
 ·cases hb:l.next.sk.rB with
  | none=>rw [hb] at h;cases h
  | some l2 =>
   rw [hb] at h
   have h1:Stp false false l l.next.sk:=Stp.same rfl rfl rfl rfl
   exact (h1.pre (rB_stp hb)).post ((Stp.go l2 _).pre (close_stp h))
 ·cases h
theorem addr2_stp {l l':L9} (h:l.addr2=some l'):Stp false false l l':=by
 unfold L9.addr2 at h
 have t1:=tk_stp l (l.hit 43)
 have t2:=t1.trans (tk_stp (l.tk (l.hit 43)) ((l.tk (l.hit 43)).hit 45))
 split at h
 ·cases h
 ·split at h
  ·split at h
   ·cases h
   ·rename_i l6 h6
    have h1:Stp false false ((l.tk (l.hit 43)).tk ((l.tk (l.hit 43)).hit 45)) ((l.tk (l.hit 43)).tk ((l.tk (l.hit 43)).hit 45)).sk:=Stp.go _ _
    have h2:=setN_stp2 (l:=((l.tk (l.hit 43)).tk ((l.tk (l.hit 43)).hit 45)).sk) h6
    exact ((t2.pre h1).pre h2).pre ((Stp.go l6 _).pre (close_stp h))
  ·exact t2.pre (close_stp h)
theorem addr_stp {l l':L9} (h:l.addr=some l'):Stp false true l l':=by
 unfold L9.addr at h
 split at h
 ·cases hb:l.next.sk.rB with
  | none=>rw [hb] at h;cases h
  | some l2 =>
   rw [hb] at h
   have h1:Stp false false l l.next.sk:=Stp.same rfl rfl rfl rfl
   exact (h1.pre (rB_stp hb)).post ((Stp.go l2 _).pre (addr2_stp h))
 ·cases h
theorem setF_stp {l l':L9} {m:Bool} (h:L9.setF (formM l.op) (l.dg m)=some l'):Stp false false l l':=by
 cases hd:l.dg m with
 | none=>rw [hd] at h;cases h
 | some p =>
  obtain ⟨o,l1⟩:=p
  rw [hd] at h
  obtain ⟨g1,g2⟩:=dg_go hd
  cases o with
  | none =>
   unfold L9.setF at h
   cases h
   exact g1.pre (Stp.same rfl rfl rfl rfl)
  | some v =>
   unfold L9.setF at h
   simp only at h
   have h:=Option.some.inj h
   by_cases hf:fitsM (formM l.op) v=true
   ·rw [if_pos hf] at h
    subst h
    exact ⟨g1.op,g1.a,g1.b,fun i=>⟨(g1.inv i).a0,(g1.inv i).a7,(g1.inv i).b0,(g1.inv i).b7,by show fitsM (formM l1.op) v=true;rw [g1.op];exact hf,g2 v rfl⟩⟩
   ·rw [if_neg hf] at h
    subst h
    exact g1.pre (Stp.same rfl rfl rfl rfl)
theorem tgt_stp {l l':L9} (h:l.tgt=some l'):Stp false false l l':=by
 unfold L9.tgt at h
 have h1:Stp false false l l.next.next:=Stp.same rfl rfl rfl rfl
 split at h
 ·split at h
  ·exact h1.pre (setF_stp (l:=l.next.next) h)
  ·split at h
   ·exact h1.pre (setF_stp (l:=l.next.next) h)
   ·cases h
 ·split at h
  ·split at h
   ·cases h
    exact Stp.same rfl rfl rfl rfl
   ·cases h
  ·cases h
def aOf:Rd→Bool
 | .a=>true
 | _=>false
def bOf:Rd→Bool
 | .b=>true
 | .mem=>true
 | .addr=>true
 | _=>false
theorem num_stp {l l':L9} (h:l.num=some l'):Stp false false l l':=by
 unfold L9.num at h
 have t:=tk_stp l (l.hit 45)
 rw [← t.op] at h
 exact t.pre (setN_stp2 h)
theorem run_stp {k:Rd} {l l':L9} (h:L9.run k l=some l'):Stp (aOf k) (bOf k) l l':=by
 cases k with
 | a=>exact rA_stp h
 | b=>exact rB_stp h
 | num=>exact num_stp h
 | mem=>exact mem_stp h
 | addr=>exact addr_stp h
 | target=>exact tgt_stp h
theorem rest_stp:∀ (ks:List Rd) (l l':L9),L9.rest ks l=some l'→Stp (ks.any aOf) (ks.any bOf) l l'
 | [],l,l',h=>by
  cases h
  exact Stp.same rfl rfl rfl rfl
 | k :: ks,l,l',h=>by
  unfold L9.rest at h
  split at h
  ·cases hr:L9.run k l.sk.next.sk with
   | none=>rw [hr] at h;cases h
   | some l2 =>
    rw [hr] at h
    have h1:Stp false false l l.sk.next.sk:=Stp.same rfl rfl rfl rfl
    exact (h1.pre (run_stp hr)).trans (rest_stp ks l2 l' h)
  ·cases h
theorem part_stp {ks:List Rd} {l l':L9} (h:L9.part 0 ks l=some l'):Stp (ks.any aOf) (ks.any bOf) l l':=by
 cases ks with
 | nil =>
  cases h
  exact Stp.same rfl rfl rfl rfl
 | cons k ks =>
  unfold L9.part at h
  simp only at h
  split at h
  ·cases hr:L9.run k l.sk with
   | none=>rw [hr] at h;cases h
   | some l2 =>
    rw [hr] at h
    exact ((Stp.go l _).pre (run_stp hr)).trans (rest_stp ks l2 l' h)
  ·cases h
theorem reads_has:∀ i:Fin 77,nameM (i.val:Int)≠[]→((readsM (i.val:Int)).any aOf=true→hasA (formM (i.val:Int))=true)∧((readsM (i.val:Int)).any bOf=true→hasB (formM (i.val:Int))=true)∧fitsM (formM (i.val:Int)) 0=true:=by decide +kernel
theorem names_low:∀ i:Fin 35,0 < i.val→nameM (i.val:Int)≠[]:=by decide +kernel
theorem opOf_name {n:List UInt8} (h:opOf n≠0):∃ i:Fin 77,opOf n=(i.val:Int)∧nameM (i.val:Int)≠[]:=by
 unfold opOf at h ⊢
 split
 ·rename_i i hi
  have h1:=List.find?_some hi
  have h2:=List.mem_of_find?_eq_some hi
  rw [List.mem_range] at h2
  simp only [Bool.and_eq_true,decide_eq_true_eq] at h1
  exact ⟨⟨i,by omega⟩,rfl,names_low ⟨i,h2⟩ h1.1⟩
 ·rename_i hn
  rw [hn] at h
  simp only at h
  split
  ·exact ⟨⟨76,by decide⟩,rfl,by decide +kernel⟩
  ·rename_i hb
   rw [if_neg hb] at h
   exact absurd rfl h
def GoodL (l:L9):Prop:=chkD l.op l.a l.b l.imm=0∧Rg l.imm
theorem instr_good {l l':L9} (h:l.instr=some l') (ha:l.a=0) (hb:l.b=0) (hi:l.imm=0):GoodL l':=by
 unfold L9.instr at h
 split at h
 ·cases h
 ·rename_i h0
  obtain ⟨i,e,hn⟩:=opOf_name (n:=l.sk.mnS.data.toList) h0
  have e:l.sk.mn.op=(i.val:Int):=e
  obtain ⟨r1,r2,r3⟩:=reads_has i hn
  cases hp:L9.part 0 (readsM l.sk.mn.op) l.sk.mn with
  | none=>rw [hp] at h;cases h
  | some l2 =>
   rw [hp] at h
   have s1:=part_stp hp
   have h:l2.fin=some l':=h
   unfold L9.fin at h
   split at h
   ·have h:=Option.some.inj h
    have s2:Stp _ _ l.sk.mn l':=s1.post (l2:=l') (by rw [← h];exact Stp.go l2 _)
    rw [e] at s2
    have i0:Inv1 l.sk.mn:=⟨by show 0≤l.a;omega,by show l.a≤7;omega,by show 0≤l.b;omega,by show l.b≤7;omega,by rw [e];show fitsM _ l.imm=true;rw [hi];exact r3,by show Rg l.imm;rw [hi];exact ⟨by decide,by decide⟩⟩
    have i1:=s2.inv i0
    have eo:l'.op=(i.val:Int):=s2.op.trans e
    refine ⟨?_,i1.rg⟩
    unfold chkD
    rw [eo,if_neg hn,if_pos]
    refine ⟨i1.a0,i1.a7,i1.b0,i1.b7,?_,?_,by rw [← eo];exact i1.fits⟩
    ·cases hc:(readsM (i.val:Int)).any aOf with
     | true=>exact .inl (r1 hc)
     | false=>exact .inr ((s2.a hc).trans ha)
    ·cases hc:(readsM (i.val:Int)).any bOf with
     | true=>exact .inl (r2 hc)
     | false=>exact .inr ((s2.b hc).trans hb)
   ·cases h
end Go.Proofs.YtffojmgmpfjlhaaGreatDoor.Q
