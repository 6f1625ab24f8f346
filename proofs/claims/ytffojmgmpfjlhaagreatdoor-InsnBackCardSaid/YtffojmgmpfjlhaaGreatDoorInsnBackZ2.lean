/- Parts of the proof: InsnBack: decoding an encoding returns the instruction: the law returns true for every input; the inputs read as they did; the package-level variables hold what the program's text lays in them: the tied card. -/
import Derived.Test.YtffojmgmpfjlhaaGreatDoorInsQ1
import Derived.Test.YtffojmgmpfjlhaaGreatDoorInsQ2
import Derived.Test.YtffojmgmpfjlhaaGreatDoorInsQ3
import Derived.Test.YtffojmgmpfjlhaaGreatDoorInsQ4
import Derived.Test.YtffojmgmpfjlhaaGreatDoorInsQ5
import Derived.Test.YtffojmgmpfjlhaaGreatDoorInsQ9
import Derived.Test.YtffojmgmpfjlhaaGreatDoorInsQ10
import Derived.Test.YtffojmgmpfjlhaaGreatDoorInsQ11
import Derived.Test.YtffojmgmpfjlhaaGreatDoorInsQ12
import Derived.Test.YtffojmgmpfjlhaaGreatDoorInsQ13
import Derived.Test.YtffojmgmpfjlhaaGreatDoorInsQ14
import Derived.Test.YtffojmgmpfjlhaaGreatDoorInsQ16
import Derived.Test.YtffojmgmpfjlhaaGreatDoorInsQ17
import Derived.Test.YtffojmgmpfjlhaaGreatDoorInsR2
import Derived.Test.YtffojmgmpfjlhaaGreatDoorInsR4
import Derived.Test.YtffojmgmpfjlhaaGreatDoorInsnBackZ1
import Derived.Laws.BitsLemmas
set_option linter.unusedVariables false
set_option linter.unusedSimpArgs false
namespace Go.Proofs.YtffojmgmpfjlhaaGreatDoor.Q
open Go.Proofs.Ix hiding rd
open Go.Proofs.YtffojmgmpfjlhaaGreatDoor Go.RowKit Go.Proofs.YtffojmgmpfjlhaaGreatDoorW.PrintWords
theorem bytesOf_g (k:Nat) (f:Int) (h:1≤k):insn_bytesOf.f k f=some (bytesM f:Int):=by
 obtain ⟨k,rfl⟩:∃ m,k=m+1:=⟨k - 1,by omega⟩
 exact bytesOf_f k f
theorem bytes_in (f:Int):bytesM f=0∨bytesM f=1∨bytesM f=2∨bytesM f=10:=by
 unfold bytesM
 (repeat' split) <;> simp
theorem fits_f (f n:Int) (k:Nat) (hk:1≤k):insn_fits.f k f n=some (fitsM f n):=by
 unfold insn_fits.f fitsM
 by_cases h3:f=3
 ·rw [if_pos h3,if_pos h3]
 rw [if_neg h3,if_neg h3]
 by_cases h8:f=8
 ·rw [if_pos h8,if_pos h8]
  by_cases c:n≥0
  ·rw [if_pos c];simp;omega
  ·rw [if_neg c];simp;omega
 rw [if_neg h8,if_neg h8,bytesOf_g k f hk,Option.bind_some]
 have h10:bytesM f≠10:=fun h=>h3 (bytes_ten.2.1 h)
 rcases bytes_in f with e | e | e | e
 ·rw [e];simp
 ·rw [e]
  simp only [show ¬ (((1:Nat):Int)=0) by omega,show (((1:Nat):Int)=1) by omega,if_false,if_true,show ¬ ((1:Nat)=0) by omega]
  by_cases c:n≥-64
  ·rw [if_pos c];simp;omega
  ·rw [if_neg c];simp;omega
 ·rw [e]
  simp only [show ¬ (((2:Nat):Int)=0) by omega,show ¬ (((2:Nat):Int)=1) by omega,show (((2:Nat):Int)=2) by omega,if_false,if_true,show ¬ ((2:Nat)=0) by omega,show ¬ ((2:Nat)=1) by omega]
  by_cases c:n≥-8192
  ·rw [if_pos c];simp;omega
  ·rw [if_neg c];simp;omega
 ·exact absurd e h10
def chkD (op a b imm:Int):Int :=
 if nameM op=[] then 20
 else if 0≤a∧a≤7∧0≤b∧b≤7∧(hasA (formM op)=true∨a=0)∧(hasB (formM op)=true∨b=0)∧fitsM (formM op) imm=true then 0 else 20
theorem check_f (op a b imm:Int) (k:Nat) (hk:1≤k):insn_Check.f k op a b imm=some (chkD op a b imm):=by
 unfold insn_Check.f chkD insn_kindOf.f
 rw [Option.bind_some]
 by_cases c1:nameM op=[]
 ·rw [if_pos ((bS_nil _).2 c1),if_pos c1]
 rw [if_neg (fun h=>c1 ((bS_nil _).1 h)),if_neg c1]
 simp only [hasA_f,hasB_f,fits_f _ _ k hk,Option.bind_some]
 generalize hasA (formM op)=A
 generalize hasB (formM op)=B
 generalize fitsM (formM op) imm=F
 cases A <;> cases B <;> cases F <;> simp only [Bool.false_eq_true,if_true,if_false,true_or,false_or,and_true,and_false,true_and] <;> (repeat' split) <;> first | rfl | (exfalso;omega)
theorem encode_f (op a b imm:Int) (k:Nat):insn_Encode.f (k+20) op a b imm=some (if chkD op a b imm=0 then (encI op a b imm,0) else ([],chkD op a b imm)):=by
 unfold insn_Encode.f
 rw [check_f _ _ _ _ _ (by omega),Option.bind_some]
 by_cases c:chkD op a b imm=0
 ·rw [if_pos c,if_pos c,leO_up (f:=fun k=>insn_appended.f k [] op a b imm) (insn_appended.mono _ _ _ _ _) (appended_f [] op a b imm (by simp)) k,Option.bind_some]
  rfl
 ·rw [if_neg c,if_neg c]
theorem chk_name {op a b imm:Int} (h:chkD op a b imm=0):nameM op≠[]:=by
 intro hn
 unfold chkD at h
 rw [if_pos hn] at h
 exact absurd h (by decide)
theorem ofInt_nat (v:Int):((BitVec.ofInt 64 v).toNat:Int)=v % 18446744073709551616:=by
 rw [BitVec.toNat_ofInt]
 omega
theorem and7 (v:Int):Go.bits .and .i64 v 127=v % 128:=by
 show IntKind.i64.wrap ((BitVec.ofInt 64 v &&& BitVec.ofInt 64 127).toNat:Int)=_
 have e:(BitVec.ofInt 64 127).toNat=2 ^ 7 - 1:=by decide
 rw [BitVec.toNat_and,e,Nat.and_two_pow_sub_one_eq_mod,Go.Proofs.YtffojmgmpfjlhaaGreatDoorW.PrintLast.i64_w]
 have:=ofInt_nat v
 simp only [wrap64]
 omega
theorem or7 (x b:Int) (hx:x % 128=0) (hb0:0≤b) (hb:b < 128) (h1:-9223372036854775808≤x) (h2:x < 9223372036854775808):Go.bits .or .i64 x b=x+b:=by
 show IntKind.i64.wrap ((BitVec.ofInt 64 x ||| BitVec.ofInt 64 b).toNat:Int)=_
 have ex:=ofInt_nat x
 have eb:=ofInt_nat b
 rw [BitVec.toNat_or,Go.Proofs.YtffojmgmpfjlhaaGreatDoorW.PrintLast.i64_w]
 generalize (BitVec.ofInt 64 x).toNat=X at ex ⊢
 generalize (BitVec.ofInt 64 b).toNat=B at eb ⊢
 have hB:B < 2 ^ 7:=by omega
 obtain ⟨a,rfl⟩:∃ a,X=2 ^ 7 * a:=⟨X / 128,by omega⟩
 rw [← Nat.two_pow_add_eq_or_of_lt hB]
 simp only [wrap64]
 omega
def sh (v:Int):Nat→Int
 | 0=>v
 | i+1=>sh v i / 128
theorem sh_rng (v:Int) (h1:-9223372036854775808≤v) (h2:v < 9223372036854775808):∀ i,-9223372036854775808≤sh v i∧sh v i < 9223372036854775808
 | 0=>⟨h1,h2⟩
 | i+1=>by
  have:=sh_rng v h1 h2 i
  show _≤sh v i / 128∧sh v i / 128 < _
  omega
theorem sh_left (v:Int):∀ i,sh (v / 128) i=sh v (i+1)
 | 0=>rfl
 | i+1=>by
  show sh (v / 128) i / 128=sh v (i+1) / 128
  rw [sh_left v i]
theorem orF_sh (bs:List Int) (v:Int) (h1:-9223372036854775808≤v) (h2:v < 9223372036854775808):∀ (k:Nat),(∀ j:Nat,j < k→rd bs (j:Int)=sh v j % 128)→orF bs (sh v k) k=v
 | 0,_=>rfl
 | k+1,hb=>by
  have hr:=sh_rng v h1 h2 k
  have hk:=hb k (by omega)
  show orF bs (Go.bits .or .i64 (wrap64 (sh v k / 128 * 128)) (wrap64 (rd bs (k:Int)))) k=v
  rw [hk,show wrap64 (sh v k / 128 * 128)=sh v k / 128 * 128 from by simp only [wrap64];omega,show wrap64 (sh v k % 128)=sh v k % 128 from by simp only [wrap64];omega,or7 _ _ (by omega) (by omega) (by omega) (by omega) (by omega),
   show sh v k / 128 * 128+sh v k % 128=sh v k by omega]
  exact orF_sh bs v h1 h2 k fun j hj=>hb j (Nat.lt_succ_of_lt hj)
theorem immI_rd:∀ (k:Nat) (v:Int) (j:Nat),j < k→rd (immI k v) (j:Int)=sh v j % 128
 | 0,v,j,h=>by omega
 | k+1,v,0,h=>by
  show rd (((Go.bits .and .i64 v 127) % 256) :: immI k (v / 128)) ((0:Nat):Int)=v % 128
  rw [and7]
  show v % 128 % 256=v % 128
  omega
 | k+1,v,j+1,h=>by
  have:=immI_rd k (v / 128) j (by omega)
  rw [← sh_left,← this]
  unfold rd
  rw [Int.toNat_natCast,Int.toNat_natCast]
  rfl
theorem orF_imm (k:Nat) (v:Int) (h1:-9223372036854775808≤v) (h2:v < 9223372036854775808):orF (immI k v) (sh v k) k=v:=orF_sh _ v h1 h2 k fun j hj=>immI_rd k v j hj
theorem start_sh (f v:Int) (hf:fitsM f v=true) (h1:-9223372036854775808≤v) (h2:v < 9223372036854775808):startD f (immI (bytesM f) v)=sh v (bytesM f):=by
 unfold startD
 rw [immI_len]
 unfold fitsM at hf
 by_cases h8:f=8
 ·subst h8
  rw [if_pos rfl]
  rw [if_neg (by decide),if_pos rfl] at hf
  simp at hf
  show 0=v / 128
  omega
 rw [if_neg h8]
 by_cases h3:f=3
 ·subst h3
  rw [if_neg (by decide)]
  have e:rd (immI (bytesM 3) v) (((bytesM 3:Nat):Int) - 1)=sh v 9 % 128:=immI_rd 10 v 9 (by omega)
  rw [e]
  show (if sh v 9 % 128≥64 then -1 else 0)=sh v 9 / 128
  have hq:sh v 9=v / 9223372036854775808:=by
   simp only [sh]
   omega
  rw [hq]
  split <;> omega
 rw [if_neg h3,if_neg h8] at hf
 rcases bytes_in f with e | e | e | e
 ·rw [e,if_pos rfl] at hf
  simp at hf
  rw [e,if_pos rfl,hf]
  rfl
 ·rw [e,if_neg (by decide),if_pos rfl] at hf
  simp at hf
  rw [e,if_neg (by decide)]
  have e2:rd (immI 1 v) (((1:Nat):Int) - 1)=sh v 0 % 128:=immI_rd 1 v 0 (by omega)
  rw [e2]
  show (if v % 128≥64 then -1 else 0)=v / 128
  split <;> omega
 ·rw [e,if_neg (by decide),if_neg (by decide)] at hf
  simp at hf
  rw [e,if_neg (by decide)]
  have e2:rd (immI 2 v) (((2:Nat):Int) - 1)=sh v 1 % 128:=immI_rd 2 v 1 (by omega)
  rw [e2]
  show (if v / 128 % 128≥64 then -1 else 0)=v / 128 / 128
  split <;> omega
 ·exact absurd (bytes_ten.2.1 e) h3
theorem scan_imm (l:List Int) (f v:Int) (i0 k:Nat) (h1:-9223372036854775808≤v) (h2:v < 9223372036854775808) (hk:f=3→k=10) (hl:i0+k≤l.length) (hb:∀ j:Nat,j < k→rd l ((i0+j:Nat):Int)=sh v j % 128) :
  ∀ (d j:Nat),j+d=k→scanD l f (i0+j) d=0
 | 0,j,_=>by unfold scanD;rfl
 | d+1,j,h=>by
  have hr:=hb j (by omega)
  unfold scanD
  rw [if_neg (by omega),hr,if_neg (by omega),if_neg ?_]
  ·exact scan_imm l f v i0 k h1 h2 hk hl hb d (j+1) (by omega)
  ·rintro ⟨h3,hd,n0,n7⟩
   have:=hk h3
   have hj:j=9:=by omega
   subst hj
   have hq:sh v 9=v / 9223372036854775808:=by
    simp only [sh]
    omega
   rw [hq] at n0 n7
   omega
theorem fin_imm (pre rest:List Int) (f op a b v:Int) (i0 n:Nat) (hp:pre.length=i0) (hn:n=i0+bytesM f) (hf:fitsM f v=true) (h1:-9223372036854775808≤v) (h2:v < 9223372036854775808) :
  finD (pre ++ (immI (bytesM f) v ++ rest)) f op a b i0 n=(op,a,b,v,(n:Int),0):=by
 have hrd:∀ j:Nat,j < bytesM f→rd (pre ++ (immI (bytesM f) v ++ rest)) ((i0+j:Nat):Int)=sh v j % 128:=by
  intro j hj
  rw [← immI_rd (bytesM f) v j hj]
  unfold rd
  rw [Int.toNat_natCast,Int.toNat_natCast,← hp]
  have hnl:¬ (pre.length+j < pre.length):=by omega
  simp [List.getD,List.getElem?_append,immI_len,hj,hnl]
 have hs:sliceD (pre ++ (immI (bytesM f) v ++ rest)) i0 n=immI (bytesM f) v:=by
  unfold sliceD
  have:=immI_len (bytesM f) v
  rw [hn,← hp,List.take_append,List.take_of_length_le (by omega),Nat.add_sub_cancel_left,List.drop_left,List.take_append,this,Nat.sub_self,List.take_of_length_le (by omega)]
  simp
 have hsc:scanD (pre ++ (immI (bytesM f) v ++ rest)) f i0 (n - i0)=0:=by
  have:=scan_imm (pre ++ (immI (bytesM f) v ++ rest)) f v i0 (bytesM f) h1 h2 (fun h=>bytes_ten.2.2 h) (by simp [immI_len];omega) hrd (bytesM f) 0 (by omega)
  rw [show n - i0=bytesM f by omega]
  exact this
 unfold finD
 rw [if_pos hsc,hs,start_sh f v hf h1 h2,show n - i0=bytesM f by omega,orF_imm _ _ h1 h2]
theorem rd_one (x y:Int) (t:List Int):rd (x :: y :: t) 1=y:=rfl
theorem dec_enc (op a b imm:Int) (rest:List Int) (hc:chkD op a b imm=0) (h1:-9223372036854775808≤imm) (h2:imm < 9223372036854775808):decD (encI op a b imm ++ rest)=(op,a,b,imm,((encI op a b imm).length:Int),0):=by
 have hn:=chk_name hc
 have ho:0≤op∧op < 77:=by
  by_cases h:op < 0∨77≤op
  ·exact absurd (name_out op h) hn
  ·omega
 unfold chkD at hc
 rw [if_neg hn] at hc
 have hh:0≤a∧a≤7∧0≤b∧b≤7∧(hasA (formM op)=true∨a=0)∧(hasB (formM op)=true∨b=0)∧fitsM (formM op) imm=true:=by
  by_cases h:0≤a∧a≤7∧0≤b∧b≤7∧(hasA (formM op)=true∨a=0)∧(hasB (formM op)=true∨b=0)∧fitsM (formM op) imm=true
  ·exact h
  ·rw [if_neg h] at hc;exact absurd hc (by decide)
 obtain ⟨a0,a7,b0,b7,hA,hB,hf⟩:=hh
 have e0:wrap64 (128+op) % 256=128+op:=by simp only [wrap64];omega
 have hop:∀ t:List Int,opD ((128+op) :: t)=op:=by
  intro t
  show wrap64 (wrap64 (128+op) - 128)=op
  simp only [wrap64];omega
 unfold encI
 rw [e0]
 by_cases cB:hasB (formM op)=true
 ·have cA:hasA (formM op)=true:=by
   unfold hasA hasB at *
   simp at cB ⊢
   omega
  have e1:wrap64 (wrap64 (8 * a)+b) % 256=8 * a+b:=by simp only [wrap64];omega
  rw [if_pos cB,e1]
  have hfin:=fin_imm [128+op,8 * a+b] rest (formM op) op (wrap64 (Int.tdiv (wrap64 (8 * a+b)) 8)) (Int.tmod (wrap64 (8 * a+b)) 8) imm 2 (lenM (formM op)) rfl (by rw [lenM_eq,if_pos cA];omega) hf h1 h2
  show decD ((128+op) :: ((8 * a+b) :: (immI (bytesM (formM op)) imm ++ rest)))=_
  unfold decD
  rw [hop,if_neg (by simp),if_neg hn,if_pos cA,if_neg (by simp),if_pos cB,rd_one,if_neg (show ¬ (8 * a+b≥64) by omega),if_pos cB]
  refine hfin.trans ?_
  have q1:wrap64 (Int.tdiv (wrap64 (8 * a+b)) 8)=a:=by
   rw [show wrap64 (8 * a+b)=8 * a+b from by simp only [wrap64];omega,Int.tdiv_eq_ediv_of_nonneg (by omega)]
   simp only [wrap64];omega
  have q2:Int.tmod (wrap64 (8 * a+b)) 8=b:=by
   rw [show wrap64 (8 * a+b)=8 * a+b from by simp only [wrap64];omega,Int.tmod_eq_emod_of_nonneg (by omega)]
   omega
  rw [q1,q2,lenM_eq,if_pos cA]
  simp [immI_len]
  omega
 ·have hb0:b=0:=hB.resolve_left cB
  subst hb0
  rw [if_neg cB]
  by_cases cA:hasA (formM op)=true
  ·rw [if_pos cA,show a % 256=a by omega]
   have hfin:=fin_imm [128+op,a] rest (formM op) op (wrap64 a) 0 imm 2 (lenM (formM op)) rfl (by rw [lenM_eq,if_pos cA];omega) hf h1 h2
   show decD ((128+op) :: (a :: (immI (bytesM (formM op)) imm ++ rest)))=_
   unfold decD
   rw [hop,if_neg (by simp),if_neg hn,if_pos cA,if_neg (by simp),if_neg cB,rd_one,if_neg (show ¬ (a≥8) by omega),if_neg cB]
   refine hfin.trans ?_
   rw [show wrap64 a=a from by simp only [wrap64];omega,lenM_eq,if_pos cA]
   simp [immI_len]
   omega
  ·have ha0:a=0:=hA.resolve_left cA
   subst ha0
   rw [if_neg cA]
   have hfin:=fin_imm [128+op] rest (formM op) op 0 0 imm 1 (lenM (formM op)) rfl (by rw [lenM_eq,if_neg cA];omega) hf h1 h2
   show decD ((128+op) :: (immI (bytesM (formM op)) imm ++ rest))=_
   unfold decD
   rw [hop,if_neg (by simp),if_neg hn,if_neg cA]
   refine hfin.trans ?_
   rw [lenM_eq,if_neg cA]
   simp [immI_len]
   omega
theorem orF_back (bs:List Int):∀ (k:Nat) (s:Int),(∀ j:Nat,j < k→0≤rd bs (j:Int)∧rd bs (j:Int) < 128)→-9223372036854775808≤s * 128 ^ k→(s+1) * 128 ^ k≤9223372036854775808 →
  sh (orF bs s k) k=s∧(∀ j:Nat,j < k→sh (orF bs s k) j % 128=rd bs (j:Int))∧-9223372036854775808≤orF bs s k∧orF bs s k < 9223372036854775808
 | 0,s,_,h1,h2=>by
  have h3:s+1≤9223372036854775808:=by simpa using h2
  have h4:-9223372036854775808≤s:=by simpa using h1
  exact ⟨rfl,fun j hj=>by omega,h4,show s < 9223372036854775808 by omega⟩
 | k+1,s,hb,h1,h2=>by
  have hk:=hb k (by omega)
  have hp:(1:Int)≤128 ^ k:=by
   have:=Int.pow_pos (n:=128) (m:=k) (by omega)
   omega
  rw [Int.pow_succ] at h1 h2
  have hs1:s * (128 ^ k * 128)=(s * 128) * 128 ^ k:=by rw [Int.mul_comm (128 ^ k) 128,Int.mul_assoc]
  have hs2:(s+1) * (128 ^ k * 128)=(s * 128+128) * 128 ^ k:=by rw [Int.mul_comm (128 ^ k) 128,← Int.mul_assoc,Int.add_mul,Int.one_mul]
  rw [hs1] at h1
  rw [hs2] at h2
  have b1:(s * 128) * 128 ^ k≤(s * 128+rd bs (k:Int)) * 128 ^ k:=Int.mul_le_mul_of_nonneg_right (by omega) (by omega)
  have b2:(s * 128+rd bs (k:Int)+1) * 128 ^ k≤(s * 128+128) * 128 ^ k:=Int.mul_le_mul_of_nonneg_right (by omega) (by omega)
  have l1:-9223372036854775808≤s * 128:=by
   by_cases c:s * 128 < -9223372036854775808
   ·have:(s * 128) * 128 ^ k≤(s * 128) * 1:=Int.mul_le_mul_of_nonpos_left (by omega) hp
    omega
   ·omega
  have l2:s * 128+128≤9223372036854775808:=by
   by_cases c:s * 128+128 > 9223372036854775808
   ·have:(s * 128+128) * 1≤(s * 128+128) * 128 ^ k:=Int.mul_le_mul_of_nonneg_left hp (by omega)
    omega
   ·omega
  have e:orF bs s (k+1)=orF bs (s * 128+rd bs (k:Int)) k:=by
   show orF bs (Go.bits .or .i64 (wrap64 (s * 128)) (wrap64 (rd bs (k:Int)))) k=_
   rw [show wrap64 (s * 128)=s * 128 from by simp only [wrap64];omega,show wrap64 (rd bs (k:Int))=rd bs (k:Int) from by simp only [wrap64];omega,or7 _ _ (by omega) hk.1 hk.2 (by omega) (by omega)]
  obtain ⟨g1,g2,g3,g4⟩:=orF_back bs k (s * 128+rd bs (k:Int)) (fun j hj=>hb j (by omega)) (by omega) (by omega)
  rw [e]
  refine ⟨?_,fun j hj=>?_,g3,g4⟩
  ·show sh _ k / 128=s
   rw [g1];omega
  ·by_cases c:j=k
   ·subst c;rw [g1];omega
   ·exact g2 j (by omega)
theorem scan_last (l:List Int):∀ (d i:Nat),scanD l 3 i (d+1)=0→rd l ((i+d:Nat):Int)=0∨rd l ((i+d:Nat):Int)=127
 | 0,i,h=>by
  unfold scanD at h
  by_cases c1:i=l.length
  ·rw [if_pos c1] at h;omega
  rw [if_neg c1] at h
  by_cases c2:rd l (i:Int)≥128
  ·rw [if_pos c2] at h;omega
  rw [if_neg c2] at h
  by_cases c3:(3:Int)=3∧0=0∧rd l (i:Int)≠0∧rd l (i:Int)≠127
  ·rw [if_pos c3] at h;omega
  ·show rd l (i:Int)=0∨rd l (i:Int)=127
   omega
 | d+1,i,h=>by
  unfold scanD at h
  by_cases c1:i=l.length
  ·rw [if_pos c1] at h;omega
  rw [if_neg c1] at h
  by_cases c2:rd l (i:Int)≥128
  ·rw [if_pos c2] at h;omega
  rw [if_neg c2,if_neg (by omega)] at h
  have:=scan_last l d (i+1) h
  rw [show i+(d+1)=i+1+d by omega]
  exact this
theorem ext_rd (a b:List Int) (h:a.length=b.length) (hr:∀ j:Nat,j < a.length→rd a (j:Int)=rd b (j:Int)):a=b:=by
 apply List.ext_getElem h
 intro j h1 h2
 have:=hr j h1
 unfold rd at this
 rw [Int.toNat_natCast] at this
 simpa [List.getD,h1,h2] using this
theorem imm_back (l:List Int) (hb:Byt l) (f:Int) (i0:Nat) (hs:scanD l f i0 (bytesM f)=0) (hl:i0+bytesM f≤l.length) :
  ∃ v,orF (sliceD l i0 (i0+bytesM f)) (startD f (sliceD l i0 (i0+bytesM f))) (bytesM f)=v∧fitsM f v=true∧immI (bytesM f) v=sliceD l i0 (i0+bytesM f):=by
 have hlen:(sliceD l i0 (i0+bytesM f)).length=bytesM f:=by simp [sliceD];omega
 have hrd:∀ j:Nat,j < bytesM f→rd (sliceD l i0 (i0+bytesM f)) (j:Int)=rd l ((i0+j:Nat):Int):=by
  intro j hj
  unfold sliceD
  rw [rd_drop]
  unfold rd
  rw [Int.toNat_natCast]
  simp [List.getD,List.getElem?_take,hj]
 have hlow:∀ j:Nat,j < bytesM f→0≤rd (sliceD l i0 (i0+bytesM f)) (j:Int)∧rd (sliceD l i0 (i0+bytesM f)) (j:Int) < 128:=by
  intro j hj
  rw [hrd j hj]
  exact ⟨(hb.at (by omega)).1,scan_low l f _ _ hs _ (by omega) (by omega)⟩
 have hlast:f=3→rd (sliceD l i0 (i0+bytesM f)) ((9:Nat):Int)=0∨rd (sliceD l i0 (i0+bytesM f)) ((9:Nat):Int)=127:=by
  intro h3
  subst h3
  rw [hrd 9 (by decide)]
  exact scan_last l 9 i0 hs
 generalize sliceD l i0 (i0+bytesM f)=bs at *
 refine ⟨_,rfl,?_⟩
 have fin:∀ v,(∀ j:Nat,j < bytesM f→sh v j % 128=rd bs (j:Int))→immI (bytesM f) v=bs:=by
  intro v h
  refine ext_rd _ _ (by rw [immI_len,hlen]) fun j hj=>?_
  rw [immI_len] at hj
  rw [immI_rd _ _ _ hj,h j hj]
 unfold fitsM startD
 rw [hlen]
 by_cases h3:f=3
 ·subst h3
  rw [if_pos rfl,if_neg (by decide),if_neg (by decide)]
  refine ⟨rfl,?_⟩
  have h9:=hlow 9 (by decide)
  have e9:(((bytesM 3:Nat):Int) - 1)=((9:Nat):Int):=by decide
  rw [e9]
  have key:∀ s:Int,s * 128+rd bs ((9:Nat):Int)=s→-1≤s→s≤0→immI (bytesM 3) (orF bs s (bytesM 3))=bs:=by
   intro s he hs1 hs0
   have eo:orF bs s (bytesM 3)=orF bs s 9:=by
    show orF bs (Go.bits .or .i64 (wrap64 (s * 128)) (wrap64 (rd bs ((9:Nat):Int)))) 9=_
    rw [show wrap64 (s * 128)=s * 128 from by simp only [wrap64];omega,show wrap64 (rd bs ((9:Nat):Int))=rd bs ((9:Nat):Int) from by simp only [wrap64];omega,or7 _ _ (by omega) h9.1 h9.2 (by omega) (by omega),he]
   have hb310:bytesM 3=10:=by decide
   obtain ⟨g1,g2,_,_⟩:=orF_back bs 9 s (fun j hj=>hlow j (by omega)) (by omega) (by omega)
   rw [eo]
   refine fin _ fun j hj=>?_
   have hj:j < 10:=hj
   by_cases c:j=9
   ·subst c;rw [g1];omega
   ·exact g2 j (by omega)
  rcases hlast rfl with h | h
  ·rw [if_neg (by omega)]
   exact key 0 (by omega) (by omega) (by omega)
  ·rw [if_pos (by omega)]
   exact key (-1) (by omega) (by omega) (by omega)
 rw [if_neg h3]
 have hk:bytesM f≤2:=by
  have:=bytes_in f
  have h10:bytesM f≠10:=fun h=>h3 (bytes_ten.2.1 h)
  omega
 have back:∀ s:Int,-1≤s→s≤0→_:=fun s h1 h2=>orF_back bs (bytesM f) s hlow (by
  have:bytesM f=0∨bytesM f=1∨bytesM f=2:=by omega
  rcases this with e | e | e <;> rw [e] <;> omega) (by
  have:bytesM f=0∨bytesM f=1∨bytesM f=2:=by omega
  rcases this with e | e | e <;> rw [e] <;> omega)
 by_cases h8:f=8
 ·subst h8
  rw [if_pos rfl,if_pos rfl]
  obtain ⟨g1,g2,_,_⟩:=back 0 (by omega) (by omega)
  refine ⟨?_,fin _ g2⟩
  have g1:orF bs 0 (bytesM 8) / 128=0:=g1
  simp
  omega
 rw [if_neg h8,if_neg h8]
 have h012:bytesM f=0∨bytesM f=1∨bytesM f=2:=by omega
 rcases h012 with e | e | e
 ·rw [e,if_pos rfl,if_pos rfl]
  exact ⟨rfl,by rw [e] at fin;exact fin _ fun j hj=>by omega⟩
 ·rw [e] at fin back hlow ⊢
  rw [if_neg (show ¬ ((1:Nat)=0) by decide),if_neg (show ¬ ((1:Nat)=0) by decide),if_pos rfl]
  have e1:(((1:Nat):Int) - 1)=((0:Nat):Int):=by decide
  rw [e1]
  by_cases c:rd bs ((0:Nat):Int)≥64
  ·rw [if_pos c]
   obtain ⟨g1,g2,_,_⟩:=back (-1) (by omega) (by omega)
   have q1:orF bs (-1) 1 / 128=-1:=g1
   have q2:orF bs (-1) 1 % 128=rd bs ((0:Nat):Int):=g2 0 (by omega)
   refine ⟨?_,fin _ g2⟩
   simp
   omega
  ·rw [if_neg c]
   obtain ⟨g1,g2,_,_⟩:=back 0 (by omega) (by omega)
   have q1:orF bs 0 1 / 128=0:=g1
   have q2:orF bs 0 1 % 128=rd bs ((0:Nat):Int):=g2 0 (by omega)
   refine ⟨?_,fin _ g2⟩
   simp
   omega
 ·rw [e] at fin back hlow ⊢
  rw [if_neg (show ¬ ((2:Nat)=0) by decide),if_neg (show ¬ ((2:Nat)=0) by decide),if_neg (show ¬ ((2:Nat)=1) by decide)]
  have e1:(((2:Nat):Int) - 1)=((1:Nat):Int):=by decide
  rw [e1]
  by_cases c:rd bs ((1:Nat):Int)≥64
  ·rw [if_pos c]
   obtain ⟨g1,g2,_,_⟩:=back (-1) (by omega) (by omega)
   have q1:orF bs (-1) 2 / 128 / 128=-1:=g1
   have q2:orF bs (-1) 2 / 128 % 128=rd bs ((1:Nat):Int):=g2 1 (by omega)
   refine ⟨?_,fin _ g2⟩
   simp
   omega
  ·rw [if_neg c]
   obtain ⟨g1,g2,_,_⟩:=back 0 (by omega) (by omega)
   have q1:orF bs 0 2 / 128 / 128=0:=g1
   have q2:orF bs 0 2 / 128 % 128=rd bs ((1:Nat):Int):=g2 1 (by omega)
   refine ⟨?_,fin _ g2⟩
   simp
   omega
theorem take_cat (l:List Int) (i k:Nat):l.take (i+k)=l.take i ++ sliceD l i (i+k):=by
 have h:l.take (i+k)=l.take i ++ (l.drop i).take k:=List.take_add ..
 unfold sliceD
 rw [List.drop_take,Nat.add_sub_cancel_left]
 exact h
theorem take_one (l:List Int) (h:0 < l.length):l.take 1=[rd l 0]:=by
 cases l with
 | nil=>simp at h
 | cons x t=>rfl
theorem take_two (l:List Int) (h:1 < l.length):l.take 2=[rd l 0,rd l 1]:=by
 match l,h with
 | x :: y :: t,_=>rfl
theorem dec_back {l:List Int} (hb:Byt l) (h:(decD l).2.2.2.2.2=0):∃ (op a b v:Int) (n:Nat),decD l=(op,a,b,v,(n:Int),0)∧chkD op a b v=0∧encI op a b v=l.take n∧1≤n∧n≤l.length:=by
 unfold decD at h ⊢
 by_cases c0:l.length=0
 ·rw [if_pos c0] at h;exact absurd h (by decide)
 rw [if_neg c0] at h ⊢
 have hr0:0≤rd l 0∧rd l 0 < 256:=hb.at (i:=0) (by omega)
 by_cases c1:nameM (opD l)=[]
 ·rw [if_pos c1] at h;exact absurd h (by decide)
 rw [if_neg c1] at h ⊢
 have hop:opD l=rd l 0 - 128:=by unfold opD;simp only [wrap64];omega
 have hlow:0≤opD l:=by
  by_cases c:opD l < 0
  ·exact absurd (name_out _ (.inl c)) c1
  ·omega
 have e0:wrap64 (128+opD l) % 256=rd l 0:=by simp only [wrap64];omega
 have hl:=lenM_eq (formM (opD l))
 generalize opD l=op at *
 by_cases cA:hasA (formM op)=true
 ·rw [if_pos cA] at h ⊢
  rw [if_pos cA] at hl
  by_cases c2:l.length=1
  ·rw [if_pos c2] at h;exact absurd h (by decide)
  rw [if_neg c2] at h ⊢
  have hr1:0≤rd l 1∧rd l 1 < 256:=hb.at (i:=1) (by omega)
  by_cases cB:hasB (formM op)=true
  ·rw [if_pos cB,if_pos cB] at h ⊢
   by_cases c3:rd l 1≥64
   ·rw [if_pos c3] at h;exact absurd h (by decide)
   rw [if_neg c3] at h ⊢
   obtain ⟨hs,hn⟩:=fin_ok h
   have hsl:=scan_len _ _ _ _ hs (by omega)
   rw [show lenM (formM op) - 2=bytesM (formM op) by omega] at hs
   obtain ⟨v,hv,hf,hi⟩:=imm_back l hb (formM op) 2 hs (by omega)
   have hn2:lenM (formM op)=2+bytesM (formM op):=by omega
   unfold finD
   rw [hn2,Nat.add_sub_cancel_left,if_pos hs,hv]
   have q1:wrap64 (Int.tdiv (wrap64 (rd l 1)) 8)=rd l 1 / 8:=by
    rw [show wrap64 (rd l 1)=rd l 1 from by simp only [wrap64];omega,Int.tdiv_eq_ediv_of_nonneg (by omega)]
    simp only [wrap64];omega
   have q2:Int.tmod (wrap64 (rd l 1)) 8=rd l 1 % 8:=by
    rw [show wrap64 (rd l 1)=rd l 1 from by simp only [wrap64];omega,Int.tmod_eq_emod_of_nonneg (by omega)]
   rw [q1,q2]
   refine ⟨_,_,_,_,_,rfl,?_,?_,by omega,by omega⟩
   ·unfold chkD
    rw [if_neg c1,if_pos ⟨by omega,by omega,by omega,by omega,.inl cA,.inl cB,hf⟩]
   ·unfold encI
    rw [if_pos cB,e0,hi,take_cat,take_two l (by omega),show wrap64 (wrap64 (8 * (rd l 1 / 8))+rd l 1 % 8) % 256=rd l 1 from by simp only [wrap64];omega]
    rfl
  ·rw [if_neg cB,if_neg cB] at h ⊢
   by_cases c3:rd l 1≥8
   ·rw [if_pos c3] at h;exact absurd h (by decide)
   rw [if_neg c3] at h ⊢
   obtain ⟨hs,hn⟩:=fin_ok h
   have hsl:=scan_len _ _ _ _ hs (by omega)
   rw [show lenM (formM op) - 2=bytesM (formM op) by omega] at hs
   obtain ⟨v,hv,hf,hi⟩:=imm_back l hb (formM op) 2 hs (by omega)
   have hn2:lenM (formM op)=2+bytesM (formM op):=by omega
   unfold finD
   rw [hn2,Nat.add_sub_cancel_left,if_pos hs,hv,show wrap64 (rd l 1)=rd l 1 from by simp only [wrap64];omega]
   refine ⟨_,_,_,_,_,rfl,?_,?_,by omega,by omega⟩
   ·unfold chkD
    rw [if_neg c1,if_pos ⟨by omega,by omega,by omega,by omega,.inl cA,.inr rfl,hf⟩]
   ·unfold encI
    rw [if_neg cB,if_pos cA,e0,hi,take_cat,take_two l (by omega),show rd l 1 % 256=rd l 1 by omega]
    rfl
 ·rw [if_neg cA] at h ⊢
  rw [if_neg cA] at hl
  have cB:¬ hasB (formM op)=true:=by
   intro cB
   apply cA
   unfold hasA hasB at *
   simp at cB ⊢
   omega
  obtain ⟨hs,hn⟩:=fin_ok h
  have hsl:=scan_len _ _ _ _ hs (by omega)
  rw [show lenM (formM op) - 1=bytesM (formM op) by omega] at hs
  obtain ⟨v,hv,hf,hi⟩:=imm_back l hb (formM op) 1 hs (by omega)
  have hn2:lenM (formM op)=1+bytesM (formM op):=by omega
  unfold finD
  rw [hn2,Nat.add_sub_cancel_left,if_pos hs,hv]
  refine ⟨_,_,_,_,_,rfl,?_,?_,by omega,by omega⟩
  ·unfold chkD
   rw [if_neg c1,if_pos ⟨by omega,by omega,by omega,by omega,.inr rfl,.inr rfl,hf⟩]
  ·unfold encI
   rw [if_neg cB,if_neg cA,e0,hi,take_cat,take_one l (by omega)]
   rfl
end Go.Proofs.YtffojmgmpfjlhaaGreatDoor.Q
namespace Go.Proofs.YtffojmgmpfjlhaaGreatDoor.Q
open Go.Proofs.Ix hiding rd
open Go.Proofs.YtffojmgmpfjlhaaGreatDoor Go.RowKit Go.Proofs.YtffojmgmpfjlhaaGreatDoorW.PrintWords Go.Proofs.YtffojmgmpfjlhaaGreatDoorW.PrintLast Go.Proofs.YtffojmgmpfjlhaaGreatDoorW.PrintMore
theorem same_refl (l:List Int):lzsameBytes.f l l=some true:=by
 unfold lzsameBytes.f
 simp
end Go.Proofs.YtffojmgmpfjlhaaGreatDoor.Q
