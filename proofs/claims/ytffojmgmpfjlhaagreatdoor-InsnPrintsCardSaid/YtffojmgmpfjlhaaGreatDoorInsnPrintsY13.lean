/- Parts of the proof: InsnPrints: what Print and Parse answer is what the reference answers: the law returns true for every input; the inputs read as they did; the package-level variables hold what the program's text lays in them: the tied card. -/
import Derived.Test.YtffojmgmpfjlhaaGreatDoorInsnPrintsY3
set_option maxHeartbeats 8000000
set_option maxRecDepth 100000
set_option linter.unusedVariables false
set_option linter.unusedSimpArgs false
namespace Go.Proofs.YtffojmgmpfjlhaaGreatDoor.Q
open Go.Proofs.Ix hiding rd
open Go Go.Proofs.YtffojmgmpfjlhaaGreatDoor Go.RowKit Go.Proofs.YtffojmgmpfjlhaaGreatDoorW.PrintWords
theorem bS_app (x y:List UInt8):bS x ++ bS y=bS (x ++ y):=by
 unfold bS
 have h:∀ a b:ByteArray,a.data=b.data→a=b:=fun ⟨_⟩ ⟨_⟩ h=>by cases h;rfl
 refine h _ _ ?_
 simp [ByteArray.data_append]
theorem bS_len (x:List UInt8):(bS x).size=x.length:=by rw [← sz_list,toS]
theorem num_len {v:Int} (h0:-9223372036854775808≤v) (h1:v≤9223372036854775807):(numW v).length≤21:=Lib.itoa_length_le v h0 h1
theorem reg_f {x:Int} (h0:0≤x) (h7:x≤7):insn_register.f x=some (bS (regW x)):=by
 unfold insn_register.f strconv_Itoa.f
 have e:Lib.itoa x=[UInt8.ofNat (48+x.toNat)]:=by
  unfold Lib.itoa
  rw [if_neg (by omega),Lib.decDigits_one (by omega)]
 rw [if_pos (by omega),Option.bind_some,bS_len,e,if_pos (by simp)]
 exact congrArg some (bS_app [114] _)
theorem fmt_f {v:Int} (h0:-9223372036854775808≤v) (h1:v≤9223372036854775807):strconv_FormatInt.f v 10=some (bS (numW v)):=by
 unfold strconv_FormatInt.f
 rw [if_pos ⟨rfl,h0,h1⟩]
 rfl
theorem dist_f {v:Int} (h0:-9223372036854775808≤v) (h1:v≤9223372036854775807):insn_distance.f v=some (bS (distW v)):=by
 have hl:=num_len h0 h1
 unfold insn_distance.f distW
 by_cases hn:v < 0
 ·rw [if_pos hn,if_pos hn,fmt_f h0 h1,Option.bind_some,if_pos (by rw [bS_len];omega)]
  exact congrArg some (bS_app [46] _)
 ·rw [if_neg hn,if_neg hn,fmt_f h0 h1,Option.bind_some,if_pos (by rw [bS_len];omega)]
  exact congrArg some (bS_app [46,43] _)
theorem b1 (c:UInt8):(⟨#[c]⟩:ByteArray)=bS [c]:=rfl
theorem addr_f {op a b v:Int} (hb0:0≤b) (hb7:b≤7) (h0:-9223372036854775808≤v) (h1:v≤9223372036854775807):insn_address.f op a b v=some (bS (addrW b v)):=by
 have hl:=num_len h0 h1
 unfold insn_address.f addrW
 simp only [b1,reg_f hb0 hb7,fmt_f h0 h1,Option.bind_some,bS_app,bS_len,List.length_append,List.length_cons,List.length_nil,show (regW b).length=2 from rfl]
 by_cases hp:v > 0
 ·rw [if_pos hp,if_pos hp,if_pos (by omega),if_pos (by omega),if_pos (by omega),if_pos (by omega)]
  simp
 ·rw [if_neg hp,if_neg hp]
  by_cases hn:v < 0
  ·rw [if_pos hn,if_pos hn,if_pos (by omega),if_pos (by omega),if_pos (by omega)]
   simp
  ·rw [if_neg hn,if_neg hn]
   simp
theorem op_valid {op:Int} (h:nameM op≠[]):op=1∨op=2∨op=3∨op=4∨op=5∨op=6∨op=7∨op=8∨op=9∨op=10∨op=11∨op=12∨op=13∨op=14∨op=15∨op=16∨op=17∨op=18∨op=19∨op=20∨op=21∨op=22∨op=23∨op=24∨op=25∨op=26∨op=27∨op=28∨op=29∨op=30∨op=31∨op=32∨op=33∨op=34∨op=76:=by
 by_cases h76:op=76
 ·omega
 ·by_cases hr:op < 1∨35≤op
  ·refine absurd ?_ h
   unfold nameM kindM
   rw [if_neg h76,if_pos hr]
  ·omega
theorem words_f {op a b v:Int} (hv:nameM op≠[]) (o:Ok1 op a b v) (k:Nat):insn_words.f (k+10) op a b v=some ((readsM op).map fun r=>bS (rdW a b v r)):=by
 have ha:insn_address.f op a b v=some (bS (addrW b v)):=addr_f o.b0 o.b7 o.v0 o.v1
 have hd:=dist_f o.v0 o.v1
 have hmem:bS [91] ++ bS (regW b) ++ bS [93]=bS (memW b):=by rw [bS_app,bS_app];rfl
 have hmem:((⟨#[91]⟩:ByteArray) ++ bS (regW b)) ++ (⟨#[93]⟩:ByteArray)=bS (memW b):=hmem
 have hs1:(1:Nat)+(bS (regW b)).size≤9223372036854775807:=by rw [bS_len,show (regW b).length=2 from rfl];omega
 have hs2:((⟨#[91]⟩:ByteArray) ++ bS (regW b)).size+1≤9223372036854775807:=by rw [b1,bS_app,bS_len,List.length_append,show (regW b).length=2 from rfl];simp
 unfold insn_words.f
 rw [reg_f o.a0 o.a7,reg_f o.b0 o.b7,fmt_f o.v0 o.v1,Option.bind_some,Option.bind_some,Option.bind_some]
 rcases op_valid hv with rfl | rfl | rfl | rfl | rfl | rfl | rfl | rfl | rfl | rfl | rfl | rfl | rfl | rfl | rfl | rfl | rfl | rfl | rfl | rfl | rfl | rfl | rfl | rfl | rfl | rfl | rfl | rfl | rfl | rfl | rfl | rfl | rfl | rfl | rfl
 ·rw [show readsM 1=[] from rfl]
  simp [insn_words.j0,insn_words.j1,insn_words.j2,insn_words.j3,insn_words.j4,insn_kindOf.f,formM,kindM,kindsL,ha,hd,hmem,rdW]
 ·rw [show readsM 2=[Rd.a,Rd.b] from rfl]
  simp [insn_words.j0,insn_words.j1,insn_words.j2,insn_words.j3,insn_words.j4,insn_kindOf.f,formM,kindM,kindsL,ha,hd,hmem,rdW]
 ·rw [show readsM 3=[Rd.a,Rd.num] from rfl]
  simp [insn_words.j0,insn_words.j1,insn_words.j2,insn_words.j3,insn_words.j4,insn_kindOf.f,formM,kindM,kindsL,ha,hd,hmem,rdW]
 ·rw [show readsM 4=[Rd.a,Rd.num] from rfl]
  simp [insn_words.j0,insn_words.j1,insn_words.j2,insn_words.j3,insn_words.j4,insn_kindOf.f,formM,kindM,kindsL,ha,hd,hmem,rdW]
 ·rw [show readsM 5=[Rd.a,Rd.b] from rfl]
  simp [insn_words.j0,insn_words.j1,insn_words.j2,insn_words.j3,insn_words.j4,insn_kindOf.f,formM,kindM,kindsL,ha,hd,hmem,rdW]
 ·rw [show readsM 6=[Rd.a,Rd.b] from rfl]
  simp [insn_words.j0,insn_words.j1,insn_words.j2,insn_words.j3,insn_words.j4,insn_kindOf.f,formM,kindM,kindsL,ha,hd,hmem,rdW]
 ·rw [show readsM 7=[Rd.a,Rd.b] from rfl]
  simp [insn_words.j0,insn_words.j1,insn_words.j2,insn_words.j3,insn_words.j4,insn_kindOf.f,formM,kindM,kindsL,ha,hd,hmem,rdW]
 ·rw [show readsM 8=[Rd.a,Rd.b] from rfl]
  simp [insn_words.j0,insn_words.j1,insn_words.j2,insn_words.j3,insn_words.j4,insn_kindOf.f,formM,kindM,kindsL,ha,hd,hmem,rdW]
 ·rw [show readsM 9=[Rd.a,Rd.b] from rfl]
  simp [insn_words.j0,insn_words.j1,insn_words.j2,insn_words.j3,insn_words.j4,insn_kindOf.f,formM,kindM,kindsL,ha,hd,hmem,rdW]
 ·rw [show readsM 10=[Rd.a,Rd.b] from rfl]
  simp [insn_words.j0,insn_words.j1,insn_words.j2,insn_words.j3,insn_words.j4,insn_kindOf.f,formM,kindM,kindsL,ha,hd,hmem,rdW]
 ·rw [show readsM 11=[Rd.a,Rd.b] from rfl]
  simp [insn_words.j0,insn_words.j1,insn_words.j2,insn_words.j3,insn_words.j4,insn_kindOf.f,formM,kindM,kindsL,ha,hd,hmem,rdW]
 ·rw [show readsM 12=[Rd.a,Rd.b] from rfl]
  simp [insn_words.j0,insn_words.j1,insn_words.j2,insn_words.j3,insn_words.j4,insn_kindOf.f,formM,kindM,kindsL,ha,hd,hmem,rdW]
 ·rw [show readsM 13=[Rd.a,Rd.b] from rfl]
  simp [insn_words.j0,insn_words.j1,insn_words.j2,insn_words.j3,insn_words.j4,insn_kindOf.f,formM,kindM,kindsL,ha,hd,hmem,rdW]
 ·rw [show readsM 14=[Rd.a,Rd.b] from rfl]
  simp [insn_words.j0,insn_words.j1,insn_words.j2,insn_words.j3,insn_words.j4,insn_kindOf.f,formM,kindM,kindsL,ha,hd,hmem,rdW]
 ·rw [show readsM 15=[Rd.a,Rd.b] from rfl]
  simp [insn_words.j0,insn_words.j1,insn_words.j2,insn_words.j3,insn_words.j4,insn_kindOf.f,formM,kindM,kindsL,ha,hd,hmem,rdW]
 ·rw [show readsM 16=[Rd.a,Rd.num] from rfl]
  simp [insn_words.j0,insn_words.j1,insn_words.j2,insn_words.j3,insn_words.j4,insn_kindOf.f,formM,kindM,kindsL,ha,hd,hmem,rdW]
 ·rw [show readsM 17=[Rd.a,Rd.addr] from rfl]
  simp [insn_words.j0,insn_words.j1,insn_words.j2,insn_words.j3,insn_words.j4,insn_kindOf.f,formM,kindM,kindsL,ha,hd,hmem,rdW]
 ·rw [show readsM 18=[Rd.a,Rd.addr] from rfl]
  simp [insn_words.j0,insn_words.j1,insn_words.j2,insn_words.j3,insn_words.j4,insn_kindOf.f,formM,kindM,kindsL,ha,hd,hmem,rdW]
 ·rw [show readsM 19=[Rd.addr,Rd.a] from rfl]
  simp [insn_words.j0,insn_words.j1,insn_words.j2,insn_words.j3,insn_words.j4,insn_kindOf.f,formM,kindM,kindsL,ha,hd,hmem,rdW]
 ·rw [show readsM 20=[Rd.addr,Rd.a] from rfl]
  simp [insn_words.j0,insn_words.j1,insn_words.j2,insn_words.j3,insn_words.j4,insn_kindOf.f,formM,kindM,kindsL,ha,hd,hmem,rdW]
 ·rw [show readsM 21=[Rd.a,Rd.b,Rd.target] from rfl]
  simp [insn_words.j0,insn_words.j1,insn_words.j2,insn_words.j3,insn_words.j4,insn_kindOf.f,formM,kindM,kindsL,ha,hd,hmem,rdW]
 ·rw [show readsM 22=[Rd.a,Rd.b,Rd.target] from rfl]
  simp [insn_words.j0,insn_words.j1,insn_words.j2,insn_words.j3,insn_words.j4,insn_kindOf.f,formM,kindM,kindsL,ha,hd,hmem,rdW]
 ·rw [show readsM 23=[Rd.a,Rd.b,Rd.target] from rfl]
  simp [insn_words.j0,insn_words.j1,insn_words.j2,insn_words.j3,insn_words.j4,insn_kindOf.f,formM,kindM,kindsL,ha,hd,hmem,rdW]
 ·rw [show readsM 24=[Rd.a,Rd.b,Rd.target] from rfl]
  simp [insn_words.j0,insn_words.j1,insn_words.j2,insn_words.j3,insn_words.j4,insn_kindOf.f,formM,kindM,kindsL,ha,hd,hmem,rdW]
 ·rw [show readsM 25=[Rd.target] from rfl]
  simp [insn_words.j0,insn_words.j1,insn_words.j2,insn_words.j3,insn_words.j4,insn_kindOf.f,formM,kindM,kindsL,ha,hd,hmem,rdW]
 ·rw [show readsM 26=[Rd.a] from rfl]
  simp [insn_words.j0,insn_words.j1,insn_words.j2,insn_words.j3,insn_words.j4,insn_kindOf.f,formM,kindM,kindsL,ha,hd,hmem,rdW]
 ·rw [show readsM 27=[Rd.target] from rfl]
  simp [insn_words.j0,insn_words.j1,insn_words.j2,insn_words.j3,insn_words.j4,insn_kindOf.f,formM,kindM,kindsL,ha,hd,hmem,rdW]
 ·rw [show readsM 28=[Rd.a] from rfl]
  simp [insn_words.j0,insn_words.j1,insn_words.j2,insn_words.j3,insn_words.j4,insn_kindOf.f,formM,kindM,kindsL,ha,hd,hmem,rdW]
 ·rw [show readsM 29=[] from rfl]
  simp [insn_words.j0,insn_words.j1,insn_words.j2,insn_words.j3,insn_words.j4,insn_kindOf.f,formM,kindM,kindsL,ha,hd,hmem,rdW]
 ·rw [show readsM 30=[Rd.a] from rfl]
  simp [insn_words.j0,insn_words.j1,insn_words.j2,insn_words.j3,insn_words.j4,insn_kindOf.f,formM,kindM,kindsL,ha,hd,hmem,rdW]
 ·rw [show readsM 31=[Rd.a] from rfl]
  simp [insn_words.j0,insn_words.j1,insn_words.j2,insn_words.j3,insn_words.j4,insn_kindOf.f,formM,kindM,kindsL,ha,hd,hmem,rdW]
 ·rw [show readsM 32=[Rd.a,Rd.target] from rfl]
  simp [insn_words.j0,insn_words.j1,insn_words.j2,insn_words.j3,insn_words.j4,insn_kindOf.f,formM,kindM,kindsL,ha,hd,hmem,rdW]
 ·rw [show readsM 33=[Rd.num] from rfl]
  simp [insn_words.j0,insn_words.j1,insn_words.j2,insn_words.j3,insn_words.j4,insn_kindOf.f,formM,kindM,kindsL,ha,hd,hmem,rdW]
 ·rw [show readsM 34=[Rd.a,Rd.mem] from rfl]
  simp [insn_words.j0,insn_words.j1,insn_words.j2,insn_words.j3,insn_words.j4,insn_kindOf.f,formM,kindM,kindsL,ha,hd,hmem,rdW]
  exact ⟨hs1,by rw [bS_len,show (regW b).length=2 from rfl];decide⟩
 ·rw [show readsM 76=[] from rfl]
  simp [insn_words.j0,insn_words.j1,insn_words.j2,insn_words.j3,insn_words.j4,insn_kindOf.f,formM,kindM,kindsL,ha,hd,hmem,rdW]
def opW (a b v:Int):List Rd→List UInt8
 | []=>[]
 | k :: ks=>32 :: (rdW a b v k ++ tailW a b v ks)
def printW (op a b v:Int):List UInt8:=nameM op ++ opW a b v (readsM op)
theorem join_w (a b v:Int) (k:Rd) (ks:List Rd):Lib.join (((k :: ks).map fun r=>bS (rdW a b v r)).map (fun x:ByteArray=>x.data.toList)) [44,32]=rdW a b v k ++ tailW a b v ks:=by
 rw [List.map_cons,List.map_cons,Lib.join_cons,toS]
 congr 1
 unfold Lib.joinTail tailW
 rw [List.map_map,List.map_map,List.flatMap_def]
 congr 1
theorem rdW_len {op a b v:Int} (o:Ok1 op a b v) (k:Rd):(rdW a b v k).length≤40:=by
 have hl:=num_len o.v0 o.v1
 cases k with
 | a=>exact (show 2≤40 by omega)
 | b=>exact (show 2≤40 by omega)
 | num=>show (numW v).length≤40;omega
 | mem=>exact (show 4≤40 by omega)
 | addr =>
  show (addrW b v).length≤40
  unfold addrW
  simp only [List.length_cons,List.length_append,List.length_nil,show (regW b).length=2 from rfl]
  by_cases hp:v > 0
  ·rw [if_pos hp,List.length_cons];omega
  ·rw [if_neg hp]
   by_cases hn:v < 0
   ·rw [if_pos hn];omega
   ·rw [if_neg hn,List.length_nil];omega
 | target =>
  show (distW v).length≤40
  unfold distW
  by_cases hn:v < 0
  ·rw [if_pos hn,List.length_cons];omega
  ·rw [if_neg hn,List.length_cons,List.length_cons];omega
theorem tailW_len {op a b v:Int} (o:Ok1 op a b v):∀ ks:List Rd,(tailW a b v ks).length≤42 * ks.length
 | []=>Nat.le_refl _
 | k :: ks=>by
  have:=tailW_len o ks
  have:=rdW_len o k
  unfold tailW at *
  rw [List.flatMap_cons]
  simp only [List.length_append,List.length_cons]
  omega
theorem reads_len (op:Int):(readsM op).length≤3:=by
 unfold readsM
 repeat' split
 all_goals simp
theorem name_len (op:Int):(nameM op).length≤10:=by
 by_cases h:nameM op=[]
 ·rw [h];decide
 ·have key:∀ i:Fin 77,(nameM (i.val:Int)).length≤10:=by decide +kernel
  have:0≤op∧op≤76:=by have:=op_valid h;omega
  have:=key ⟨op.toNat,by omega⟩
  rw [show ((op.toNat:Nat):Int)=op from by omega] at this
  exact this
theorem opW_len {op a b v:Int} (o:Ok1 op a b v):(opW a b v (readsM op)).length≤130:=by
 have h3:=reads_len op
 cases h:readsM op with
 | nil=>exact Nat.zero_le _
 | cons k ks =>
  rw [h,List.length_cons] at h3
  have:=tailW_len o ks
  have:=rdW_len o k
  show (32 :: (rdW a b v k ++ tailW a b v ks)).length≤130
  simp only [List.length_append,List.length_cons]
  omega
theorem print_f {op a b v:Int} (hv:nameM op≠[]) (o:Ok1 op a b v) (hc:chkD op a b v=0) (k:Nat):insn_Print.f (k+10) op a b v=some (bS (printW op a b v),0):=by
 unfold insn_Print.f insn_kindOf.f
 rw [check_f _ _ _ _ _ (by omega),Option.bind_some,if_pos hc,Option.bind_some,words_f hv o,Option.bind_some]
 have hn:=name_len op
 have ho:=opW_len o
 unfold printW
 cases h:readsM op with
 | nil =>
  rw [if_neg (by simp)]
  simp [opW]
 | cons k ks =>
  rw [h] at ho
  have ho:(32 :: (rdW a b v k ++ tailW a b v ks)).length≤130:=ho
  rw [List.length_cons] at ho
  rw [if_pos (by simp),if_pos (by simp only [bS_len];omega)]
  unfold strings_Join.f
  have hj:=join_w a b v k ks
  rw [show (⟨#[44,32]⟩:ByteArray).data.toList=[44,32] from rfl,hj]
  have h3:=reads_len op
  rw [h] at h3
  rw [if_pos ⟨by rw [List.length_map];omega,by omega⟩,Option.bind_some]
  have e:(bS (nameM op) ++ (⟨#[32]⟩:ByteArray)) ++ (⟨(rdW a b v k ++ tailW a b v ks).toArray⟩:ByteArray)=bS (nameM op ++ opW a b v (k :: ks)):=by
   show (bS (nameM op) ++ bS [32]) ++ bS (rdW a b v k ++ tailW a b v ks)=_
   rw [bS_app,bS_app]
   simp [opW]
  have hsz:(bS (nameM op) ++ (⟨#[32]⟩:ByteArray)).size=(nameM op).length+1:=by
   rw [b1,bS_app,bS_len,List.length_append];rfl
  simp only
  rw [hsz,if_pos (by rw [show (⟨(rdW a b v k ++ tailW a b v ks).toArray⟩:ByteArray)=bS (rdW a b v k ++ tailW a b v ks) from rfl,bS_len];omega),e]
theorem chk_parts {op a b v:Int} (hc:chkD op a b v=0):nameM op≠[]∧0≤a∧a≤7∧0≤b∧b≤7∧(hasA (formM op)=true∨a=0)∧(hasB (formM op)=true∨b=0)∧fitsM (formM op) v=true:=by
 unfold chkD at hc
 by_cases h:nameM op=[]
 ·rw [if_pos h] at hc;exact absurd hc (by decide)
 ·rw [if_neg h] at hc
  split at hc
  ·exact ⟨h,by assumption⟩
  ·exact absurd hc (by decide)
theorem wf64b {n:Int} (h:(Lit.int .i64 n).wf=true):-9223372036854775808≤n∧n≤9223372036854775807:=by
 have m1:IntKind.i64.min=-9223372036854775808:=by decide
 have m2:IntKind.i64.max=9223372036854775807:=by decide
 simp [Lit.wf,m1,m2] at h
 omega
end Go.Proofs.YtffojmgmpfjlhaaGreatDoor.Q
namespace Go.Proofs.YtffojmgmpfjlhaaGreatDoor.Q
open Go.Proofs.YtffojmgmpfjlhaaGreatDoor Go.RowKit Go.Proofs.YtffojmgmpfjlhaaGreatDoorW.PrintWords Go.Proofs.YtffojmgmpfjlhaaGreatDoorW.PrintLast Go.Proofs.YtffojmgmpfjlhaaGreatDoorW.PrintMore
attribute [local go_sem] max2_int min2_int max_two min_two max_three min_three max_four min_four
def rzDigits.f:Nat→Int→Option (ByteArray)
 | 0,_=>none
 | k+1,a0=>if a0 < 10 then (some (strOfNums (([(IntKind.u64.wrap (48+a0)) % 256]:List Int)))) else ((rzDigits.f k (IntKind.u64.wrap (Int.tdiv a0 10))).bind fun t405=>((some (([(IntKind.u64.wrap (48+(Int.tmod a0 10))) % 256]:List Int):List Int)).bind fun y406=>(if t405.size+(strOfNums y406).size≤9223372036854775807 then (some (t405 ++ (strOfNums y406))) else (none))))
theorem rzDigits.mono_l:∀ k,(∀ y0,LeO (rzDigits.f k y0) (rzDigits.f (k+1) y0))
 | 0=>fun _ r h=>by simp [rzDigits.f] at h
 | k+1=>by
  have ih0:=rzDigits.mono_l k
  ·intro y0;unfold rzDigits.f;repeat' first
   | (with_reducible exact ih0 _)
   | (with_reducible exact LeO.refl _)
   | (with_reducible exact LeO.none _)
   | (with_reducible refine LeO.ite ?_ ?_)
   | (with_reducible refine LeO.bind ?_ (fun _=>?_))
   | exact LeO.none _
   | refine LeO.ite ?_ ?_
   | refine LeO.bind ?_ (fun _=>?_)
theorem rzDigits.mono:∀ a0 k,LeO (rzDigits.f k a0) (rzDigits.f (k+1) a0):=by
 intro a0 k;have ih0:=rzDigits.mono_l k;exact ih0 a0
def rzDigits.T3:Bool × List (List Nat × List Nat):=(true,[([],[]),([0],[0]),([1],[1]),([],[]),([3],[3]),([4],[4]),([5],[5]),([6],[6]),([7],[7]),([2,8],[2,8]),([9,2,0,1,2,3,4,5,6,7,8,9],[9])])
def rzDigits.B3:List Nat:=[0,1,3,0,8,24,56,120,248,511,1023]
theorem rzDigits.tab3:rtab .any (opsOf Tryz.f38 3)=rzDigits.T3:=by kernel_rfl
theorem rzDigits.bits3:waitsOk rzDigits.T3.2 rzDigits.B3=true:=by kernel_rfl
theorem rzDigits.calls (k:Nat):∀ (a0:Int) (r:ByteArray) (w:World) (h:rzDigits.f k a0=some r),
  Calls Tryz.prog 38 #[.int .u64 a0] w fun e w'=>e=.returned (.string r)∧Below w.heap.size w w':=by
 induction k using Nat.strongRecOn with
 | _ k ih =>
 intro a0 r w h;cases k with
 | zero=>exact absurd h (by simp [rzDigits.f])
 | succ k =>
 simp only [rzDigits.f] at h;have HB:=Aside0.mk (Below.refl w.heap.size w);have H:(if a0 < 10 then (some (strOfNums (([(IntKind.u64.wrap (48+a0)) % 256]:List Int)))) else ((rzDigits.f k (IntKind.u64.wrap (Int.tdiv a0 10))).bind fun t405=>((some (([(IntKind.u64.wrap (48+(Int.tmod a0 10))) % 256]:List Int):List Int)).bind fun y406=>(if t405.size+(strOfNums y406).size≤9223372036854775807 then (some (t405 ++ (strOfNums y406))) else (none)))))=some r:=h;clear h;by_cases c2:a0 < 10
 ·rw [if_pos c2] at H;have c2b0:=decide_eq_true c2;clear c2;obtain ⟨y402,hy402⟩:∃ y_:List Int,y_=(([(IntKind.u64.wrap (48+a0)) % 256]:List Int)):=⟨_,rfl⟩;replace H:(some (strOfNums y402))=some r:=by first | (rw [hy402];with_reducible exact H) | (have H2_:=(Option.bind_some _ _).symm.trans H;rw [hy402];with_reducible exact H2_) | (have H2_:=(Option.bind_some _ _).symm.trans H;with_reducible exact H2_) | with_reducible exact H | (rw [hy402];exact H) | exact H
  have Ny402:=Aside0.mk hy402;clear hy402;obtain rfl:=Option.some.inj H;go_enter Tryz.func38,Tryz.ntmps38
  go_wp2_with (first | ((with_reducible refine gate_dst (N:=8) rfl ?_);refine Kd.R_lit (Kd.int .u8) _ 5 ?hg (N:=8) ?hd (xs:=([(IntKind.u64.wrap (48+a0)) % 256]:List Int)) (inner:=[.int .u8 ((IntKind.u64.wrap (48+a0)) % 256)]) (ok:=fun _=>True) (okp:=fun _=>True) ?hr ?hp (fun _ hk=>hk) trivial (Below.refl _ _) (Nat.le_refl _) (by simp) ?_;(case hd=>rfl);(case hg=>rfl);(case hr=>first | (go_simp;done) | (go_simp;rfl));(case hp=>exact (Reps.one (show Kd.M (Kd.int .u8) _ _ _ ((IntKind.u64.wrap (48+a0)) % 256) [.int .u8 ((IntKind.u64.wrap (48+a0)) % 256)] from rfl) (Reps.none _ _)));intro v403 w3 ho4 hb hg_ hnew_;clear hg_ hnew_;(first | rw [← Ny402.out] at ho4 | (simp only [Int.reduceToNat] at ho4;rw [← Ny402.out] at ho4));have HO404:=Aside0.mk (Kd.R_lower ho4 (below_size blw));replace HB:=Aside0.mk (below_step blw hb);clear hb ho4;have hcv5:=own_string (P:=Tryz.prog) Tryz.underlying24 Tryz.underlying5 Tryz.underlying9 (Kd.own_of_R HO404.out)))
  go_ret;exact ⟨rew,blw⟩
 ·rw [if_neg c2] at H;have c2b0:=decide_eq_false c2;clear c2;obtain ⟨t405,A6,H⟩:=bas H;(try dsimp only at H);obtain ⟨y406,hy406⟩:∃ y_:List Int,y_=(([(IntKind.u64.wrap (48+(Int.tmod a0 10))) % 256]:List Int)):=⟨_,rfl⟩;replace H:(if t405.size+(strOfNums y406).size≤9223372036854775807 then (some (t405 ++ (strOfNums y406))) else (none))=some r:=by first | (rw [hy406];with_reducible exact H) | (have H2_:=(Option.bind_some _ _).symm.trans H;rw [hy406];with_reducible exact H2_) | (have H2_:=(Option.bind_some _ _).symm.trans H;with_reducible exact H2_) | with_reducible exact H | (rw [hy406];exact H) | exact H
  have Ny406:=Aside0.mk hy406;clear hy406;by_cases c7:t405.size+(strOfNums y406).size≤9223372036854775807
  ·rw [if_pos c7] at H;have c7b0:=eq_true c7;have c7b1:=decide_eq_true c7;try have c7b2:(9223372036854775807 < t405.size+(strOfNums y406).size)=False:=eq_false (Nat.not_lt.2 c7)
   obtain rfl:=Option.some.inj H;go_enter Tryz.func38,Tryz.ntmps38
   try go_wp2
   replace HB:=Aside0.mk (below_drew1 HB.out);refine start_ (n:=11) (S:=fun w'=>True) (ds:=[]) #[zF,zF,zF,zF,zF,zF,zF,zF,zF,zF,zF] (by kernel_rfl) rfl rfl trivial (fun hHeld=>?_);refine with_tabW rzDigits.tab3 rzDigits.bits3 (fun HT_ HW_=>?_);generalize w.drew=w8 at HB hHeld ⊢;refine pz (i:=0) (N:=some 10) #[zT,zF,zF,zF,zF,zF,zF,zF,zF,zF,zF] rfl rfl HT_.out ?_
   refine pz (i:=1) (N:=some 11) #[zT,zT,zF,zF,zF,zF,zF,zF,zF,zF,zF] rfl rfl HT_.out ?_
   refine pz (i:=3) (N:=some 13) #[zT,zT,zF,zT,zF,zF,zF,zF,zF,zF,zF] rfl rfl HT_.out ?_
   refine pz (i:=4) (N:=some 14) #[zT,zT,zF,zT,zT,zF,zF,zF,zF,zF,zF] rfl rfl HT_.out ?_
   refine pz (i:=5) (N:=some 15) #[zT,zT,zF,zT,zT,zT,zF,zF,zF,zF,zF] rfl rfl HT_.out ?_
   refine pz (i:=6) (N:=some 16) #[zT,zT,zF,zT,zT,zT,zT,zF,zF,zF,zF] rfl rfl HT_.out ?_
   refine join_ (σ:=Value) 2 #[zT,zT,zT,zT,zT,zT,zT,zT,zT,zF,zF] (fun s_=>[(12,.string t405),(17,s_),(18,.string (strOfNums y406))]) (fun s_ w'=>(Kd.R (Kd.int .u8) 5 w' w.heap.size (fun _=>True) s_ y406)∧(Below w.heap.size w w')) ?_ ?_;rotate_left
   ·intro hCont;refine two_ (i:=2) (j:=7) (Ni:=some 12) (Nj:=some 17) #[zT,zT,zT,zT,zT,zT,zT,zF,zF,zF,zF] #[zT,zT,zF,zT,zT,zT,zT,zT,zF,zF,zF] rfl rfl rfl rfl (two_of HT_.out (by kernel_rfl)) (by decide) (by decide) (fun K hK=>?_) (fun K hK=>?_)
    ·skip
     refine goes_ Tryz.func38 (by kernel_rfl) rfl #[.int .u64 (IntKind.u64.wrap (Int.tdiv a0 10))] (by rfl) rfl rfl fq ?_;with_reducible refine (ih k (by omega) (IntKind.u64.wrap (Int.tdiv a0 10)) t405 _ A6.out).mono ?_
     rintro e w9 ⟨rfl,hb⟩;refine ⟨_,rfl,?_⟩;replace HB:=Aside0.mk (below_step blw hb);clear hb;refine hK.out _ _ trivial (fun hHeld=>?_);clear hK K;refine nrmq ?_
     refine one_ (i:=7) (N:=some 17) #[zT,zT,zT,zT,zT,zT,zT,zT,zF,zF,zF] rfl rfl (one_of HT_.out (by kernel_rfl)) (by decide) (fun K hK=>?_);refine Kd.R_lit_step (Kd.int .u8) _ 5 ?hg (N:=17) ?hd (xs:=([(IntKind.u64.wrap (48+(Int.tmod a0 10))) % 256]:List Int)) (inner:=[.int .u8 ((IntKind.u64.wrap (48+(Int.tmod a0 10))) % 256)]) (ok:=fun _=>True) (okp:=fun _=>True) ?hr ?hp (fun _ hk=>hk) trivial (Below.refl _ _) (Nat.le_refl _) (by simp) ?_;(case hd=>rfl);(case hg=>rfl);(case hr=>first | (go_simp;done) | (go_simp;rfl));(case hp=>exact (Reps.one (show Kd.M (Kd.int .u8) _ _ _ ((IntKind.u64.wrap (48+(Int.tmod a0 10))) % 256) [.int .u8 ((IntKind.u64.wrap (48+(Int.tmod a0 10))) % 256)] from rfl) (Reps.none _ _)));intro v407 w10 ho11 hb hg_ hnew_;clear hg_ hnew_;(first | rw [← Ny406.out] at ho11 | (simp only [Int.reduceToNat] at ho11;rw [← Ny406.out] at ho11));have HO408:=Aside0.mk (Kd.R_lower ho11 (below_size blw));replace HB:=Aside0.mk (below_step blw hb);clear hb ho11;refine hK.out _ _ trivial (fun hHeld=>?_);clear hK K;refine nrmq ?_
     refine one_ (i:=8) (N:=some 18) #[zT,zT,zT,zT,zT,zT,zT,zT,zT,zF,zF] rfl rfl (one_of HT_.out (by kernel_rfl)) (by decide) (fun K hK=>?_);have hcv12:=own_string (P:=Tryz.prog) Tryz.underlying24 Tryz.underlying5 Tryz.underlying9 (Kd.own_of_R HO408.out);refine value_ (w1:=?_) (v:=?_) (by rfl) rfl ?_ ?_;rotate_left 2
     ·go_simp;constructor
      ·rfl
      ·rfl
     clear hcv12;refine hK.out _ _ trivial (fun hHeld=>?_);clear hK K;refine nrmq ?_
     exact norm_ (by simp only [putAll,Act.put,List.setIfInBounds_toArray,List.set_cons_zero,List.set_cons_succ]) (hCont (v407) _ ⟨(by (with_reducible repeat (first | apply Kd.R_alloc | apply Kd.R_drewN | apply Kd.R_drew));exact HO408.out),blw⟩)
    ·skip
     refine Kd.R_lit_step (Kd.int .u8) _ 5 ?hg (N:=17) ?hd (xs:=([(IntKind.u64.wrap (48+(Int.tmod a0 10))) % 256]:List Int)) (inner:=[.int .u8 ((IntKind.u64.wrap (48+(Int.tmod a0 10))) % 256)]) (ok:=fun _=>True) (okp:=fun _=>True) ?hr ?hp (fun _ hk=>hk) trivial (Below.refl _ _) (Nat.le_refl _) (by simp) ?_;(case hd=>rfl);(case hg=>rfl);(case hr=>first | (go_simp;done) | (go_simp;rfl));(case hp=>exact (Reps.one (show Kd.M (Kd.int .u8) _ _ _ ((IntKind.u64.wrap (48+(Int.tmod a0 10))) % 256) [.int .u8 ((IntKind.u64.wrap (48+(Int.tmod a0 10))) % 256)] from rfl) (Reps.none _ _)));intro v407 w9 ho10 hb hg_ hnew_;clear hg_ hnew_;(first | rw [← Ny406.out] at ho10 | (simp only [Int.reduceToNat] at ho10;rw [← Ny406.out] at ho10));have HO408:=Aside0.mk (Kd.R_lower ho10 (below_size blw));replace HB:=Aside0.mk (below_step blw hb);clear hb ho10;refine hK.out _ _ trivial (fun hHeld=>?_);clear hK K;refine nrmq ?_
     refine two_ (i:=2) (j:=8) (Ni:=some 12) (Nj:=some 18) #[zT,zT,zT,zT,zT,zT,zT,zT,zF,zF,zF] #[zT,zT,zF,zT,zT,zT,zT,zT,zT,zF,zF] rfl rfl rfl rfl (two_of HT_.out (by kernel_rfl)) (by decide) (by decide) (fun K hK=>?_) (fun K hK=>?_)
     ·skip
      refine goes_ Tryz.func38 (by kernel_rfl) rfl #[.int .u64 (IntKind.u64.wrap (Int.tdiv a0 10))] (by rfl) rfl rfl fq ?_;with_reducible refine (ih k (by omega) (IntKind.u64.wrap (Int.tdiv a0 10)) t405 _ A6.out).mono ?_
      rintro e w11 ⟨rfl,hb⟩;refine ⟨_,rfl,?_⟩;replace HO408:=Aside0.mk (Kd.R_below (by (with_reducible repeat (first | apply Kd.R_alloc | apply Kd.R_drewN | apply Kd.R_drew));exact HO408.out) hb);replace HB:=Aside0.mk (below_step blw hb);clear hb;refine hK.out _ _ trivial (fun hHeld=>?_);clear hK K;refine nrmq ?_
      refine one_ (i:=8) (N:=some 18) #[zT,zT,zT,zT,zT,zT,zT,zT,zT,zF,zF] rfl rfl (one_of HT_.out (by kernel_rfl)) (by decide) (fun K hK=>?_);have hcv12:=own_string (P:=Tryz.prog) Tryz.underlying24 Tryz.underlying5 Tryz.underlying9 (Kd.own_of_R HO408.out);refine value_ (w1:=?_) (v:=?_) (by rfl) rfl ?_ ?_;rotate_left 2
      ·go_simp;constructor
       ·rfl
       ·rfl
      clear hcv12;refine hK.out _ _ trivial (fun hHeld=>?_);clear hK K;refine nrmq ?_
      exact norm_ (by simp only [putAll,Act.put,List.setIfInBounds_toArray,List.set_cons_zero,List.set_cons_succ]) (hCont (v407) _ ⟨(by (with_reducible repeat (first | apply Kd.R_alloc | apply Kd.R_drewN | apply Kd.R_drew));exact HO408.out),blw⟩)
     ·skip
      have hcv11:=own_string (P:=Tryz.prog) Tryz.underlying24 Tryz.underlying5 Tryz.underlying9 (Kd.own_of_R HO408.out);refine value_ (w1:=?_) (v:=?_) (by rfl) rfl ?_ ?_;rotate_left 2
      ·go_simp;constructor
       ·rfl
       ·rfl
      clear hcv11;refine hK.out _ _ trivial (fun hHeld=>?_);clear hK K;refine nrmq ?_
      refine one_ (i:=2) (N:=some 12) #[zT,zT,zT,zT,zT,zT,zT,zT,zT,zF,zF] rfl rfl (one_of HT_.out (by kernel_rfl)) (by decide) (fun K hK=>?_);refine goes_ Tryz.func38 (by kernel_rfl) rfl #[.int .u64 (IntKind.u64.wrap (Int.tdiv a0 10))] (by rfl) rfl rfl fq ?_;with_reducible refine (ih k (by omega) (IntKind.u64.wrap (Int.tdiv a0 10)) t405 _ A6.out).mono ?_
      rintro e w12 ⟨rfl,hb⟩;refine ⟨_,rfl,?_⟩;replace HO408:=Aside0.mk (Kd.R_below (by (with_reducible repeat (first | apply Kd.R_alloc | apply Kd.R_drewN | apply Kd.R_drew));exact HO408.out) hb);replace HB:=Aside0.mk (below_step blw hb);clear hb;refine hK.out _ _ trivial (fun hHeld=>?_);clear hK K;refine nrmq ?_
      exact norm_ (by simp only [putAll,Act.put,List.setIfInBounds_toArray,List.set_cons_zero,List.set_cons_succ]) (hCont (v407) _ ⟨(by (with_reducible repeat (first | apply Kd.R_alloc | apply Kd.R_drewN | apply Kd.R_drew));exact HO408.out),blw⟩)
   rintro v407 w13 ⟨h0_,h1_⟩;have n0_:Aside0 (Kd.R (Kd.int .u8) 5 w13 w.heap.size (fun _=>True) v407 y406):=⟨h0_⟩;have n1_:Aside0 (Below w.heap.size w w13):=⟨h1_⟩;clear HB;clear h0_ h1_;have HO408:=n0_;have HB:=n1_;clear n0_ n1_;have hHeld:=trivial;refine norm_ (a':=?_) ?_ ?_;rotate_left
   ·simp only [putAll,Act.put,List.setIfInBounds_toArray,List.set_cons_zero,List.set_cons_succ];rfl
   refine pz (i:=9) (N:=some 19) #[zT,zT,zT,zT,zT,zT,zT,zT,zT,zT,zF] rfl rfl HT_.out ?_
   refine pz (i:=10) (N:=some 2) #[zT,zT,zT,zT,zT,zT,zT,zT,zT,zT,zT] rfl rfl HT_.out ?_
   refine done_ (done_of HT_.out (by kernel_rfl)) ?_;try go_wp2
   go_ret;exact ⟨rew,blw⟩
  ·rw [if_neg c7] at H;exact absurd H (by simp)
def rzregister.f (k:Nat) (a0:Int):Option (ByteArray):=(rzDigits.f k (IntKind.u64.wrap (a0))).bind fun t409=>(if 1+t409.size≤9223372036854775807 then (some ((⟨#[114]⟩:zB) ++ t409)) else (none))
theorem rzregister.mono:∀ a0 k,LeO (rzregister.f k a0) (rzregister.f (k+1) a0):=by
 intro a0 k;unfold rzregister.f;repeat' first
   | (with_reducible exact rzDigits.mono _ _)
   | (with_reducible exact LeO.refl _)
   | (with_reducible exact LeO.none _)
   | (with_reducible refine LeO.ite ?_ ?_)
   | (with_reducible refine LeO.bind ?_ (fun _=>?_))
   | exact LeO.none _
   | refine LeO.ite ?_ ?_
   | refine LeO.bind ?_ (fun _=>?_)
theorem rzregister.calls (k:Nat) (a0:Int) (r:ByteArray) (w:World) (h:rzregister.f k a0=some r) :
  Calls Tryz.prog 64 #[.int .i64 a0] w fun e w'=>e=.returned (.string r)∧Below w.heap.size w w':=by
 have HB:=Aside0.mk (Below.refl w.heap.size w);unfold rzregister.f at h;have H:=h;clear h;obtain ⟨t409,A2,H⟩:=bas H;(try dsimp only at H);by_cases c3:1+t409.size≤9223372036854775807
 ·rw [if_pos c3] at H;have c3b0:=eq_true c3;have c3b1:=decide_eq_true c3;try have c3b2:(9223372036854775807 < 1+t409.size)=False:=eq_false (Nat.not_lt.2 c3)
  obtain rfl:=Option.some.inj H;go_enter Tryz.func64,Tryz.ntmps64
  go_wp2_with (first | ((with_reducible refine gate_callee (f:=38) rfl ?_);refine gl (some 5) Tryz.func38 #[.int .u64 (IntKind.u64.wrap (a0))] ?_;(with_reducible refine (rzDigits.calls k (IntKind.u64.wrap (a0)) t409 _ A2.out).mono ?_);rintro e w4 ⟨rfl,hb⟩;refine ⟨_,rfl,?_⟩;replace HB:=Aside0.mk (below_step blw hb);clear hb))
  go_ret;exact ⟨rew,blw⟩
 ·rw [if_neg c3] at H;exact absurd H (by simp)
def rzsize.f (a0:Int):Option (Int):=if a0 < 0 then (some (IntKind.u64.wrap (-(IntKind.u64.wrap (a0))))) else (some (IntKind.u64.wrap (a0)))
theorem rzsize.calls (a0:Int) (r:Int) (w:World) (h:rzsize.f a0=some r) :
  Calls Tryz.prog 95 #[.int .i64 a0] w fun e w'=>e=.returned (.int .u64 r)∧Drawn0 w w':=by
 unfold rzsize.f at h;have H:=h;clear h;by_cases c2:a0 < 0
 ·rw [if_pos c2] at H;have c2b0:=decide_eq_true c2;clear c2;obtain rfl:=Option.some.inj H;go_enter Tryz.func95,Tryz.ntmps95
  go_wp2;go_ret;exact ⟨by first | rfl | (simp;done) | (simp [*];done),by repeat (first | exact Drawn0.refl _ | apply Drawn0.step)⟩
 ·rw [if_neg c2] at H;have c2b0:=decide_eq_false c2;clear c2;obtain rfl:=Option.some.inj H;go_enter Tryz.func95,Tryz.ntmps95
  go_wp2;go_ret;exact ⟨by first | rfl | (simp;done) | (simp [*];done),by repeat (first | exact Drawn0.refl _ | apply Drawn0.step)⟩
def rzNumber.f (k:Nat) (a0:Int):Option (ByteArray):=if a0 < 0 then ((rzsize.f a0).bind fun t410=>((rzDigits.f k t410).bind fun t411=>(if 1+t411.size≤9223372036854775807 then (some ((⟨#[45]⟩:zB) ++ t411)) else (none)))) else ((rzDigits.f k (IntKind.u64.wrap (a0))).bind fun t412=>(some t412))
theorem rzNumber.mono:∀ a0 k,LeO (rzNumber.f k a0) (rzNumber.f (k+1) a0):=by
 intro a0 k;unfold rzNumber.f;repeat' first
   | (with_reducible exact rzDigits.mono _ _)
   | (with_reducible exact LeO.refl _)
   | (with_reducible exact LeO.none _)
   | (with_reducible refine LeO.ite ?_ ?_)
   | (with_reducible refine LeO.bind ?_ (fun _=>?_))
   | exact LeO.none _
   | refine LeO.ite ?_ ?_
   | refine LeO.bind ?_ (fun _=>?_)
theorem rzNumber.calls (k:Nat) (a0:Int) (r:ByteArray) (w:World) (h:rzNumber.f k a0=some r) :
  Calls Tryz.prog 65 #[.int .i64 a0] w fun e w'=>e=.returned (.string r)∧Below w.heap.size w w':=by
 have HB:=Aside0.mk (Below.refl w.heap.size w);unfold rzNumber.f at h;have H:=h;clear h;by_cases c2:a0 < 0
 ·rw [if_pos c2] at H;have c2b0:=decide_eq_true c2;clear c2;obtain ⟨t410,A3,H⟩:=bas H;(try dsimp only at H);obtain ⟨t411,A4,H⟩:=bas H;(try dsimp only at H);by_cases c5:1+t411.size≤9223372036854775807
  ·rw [if_pos c5] at H;have c5b0:=eq_true c5;have c5b1:=decide_eq_true c5;try have c5b2:(9223372036854775807 < 1+t411.size)=False:=eq_false (Nat.not_lt.2 c5)
   obtain rfl:=Option.some.inj H;go_enter Tryz.func65,Tryz.ntmps65
   go_wp2_with (first | ((with_reducible refine gate_callee (f:=95) rfl ?_);refine gl (some 6) Tryz.func95 #[.int .i64 a0] ?_;(with_reducible refine (rzsize.calls a0 _ _ A3.out).mono ?_);rintro e w' ⟨rfl,⟨nd,rfl⟩⟩;refine ⟨_,rfl,?_⟩) | ((with_reducible refine gate_callee (f:=38) rfl ?_);refine gl (some 7) Tryz.func38 #[.int .u64 t410] ?_;(with_reducible refine (rzDigits.calls k _ _ _ A4.out).mono ?_);rintro e w6 ⟨rfl,hb⟩;refine ⟨_,rfl,?_⟩;replace HB:=Aside0.mk (below_step blw hb);clear hb))
   go_ret;exact ⟨rew,blw⟩
  ·rw [if_neg c5] at H;exact absurd H (by simp)
 ·rw [if_neg c2] at H;have c2b0:=decide_eq_false c2;clear c2;obtain ⟨t412,A7,H⟩:=bas H;(try dsimp only at H);obtain rfl:=Option.some.inj H;go_enter Tryz.func65,Tryz.ntmps65
  go_wp2_with (first | ((with_reducible refine gate_callee (f:=38) rfl ?_);refine gl (some 11) Tryz.func38 #[.int .u64 (IntKind.u64.wrap (a0))] ?_;(with_reducible refine (rzDigits.calls k (IntKind.u64.wrap (a0)) t412 _ A7.out).mono ?_);rintro e w8 ⟨rfl,hb⟩;refine ⟨_,rfl,?_⟩;replace HB:=Aside0.mk (below_step blw hb);clear hb))
  go_ret;exact ⟨rew,blw⟩
def rzaddress.f (k:Nat) (a0_0:Int) (a0_1:Int) (a0_2:Int) (a0_3:Int):Option (ByteArray):=if a0_3=0 then ((rzregister.f k a0_2).bind fun t414=>(if 1+t414.size≤9223372036854775807 then (if ((⟨#[91]⟩:zB) ++ t414).size+1≤9223372036854775807 then (some (((⟨#[91]⟩:zB) ++ t414) ++ (⟨#[93]⟩:zB))) else (none)) else (none))) else (if a0_3 < 0 then ((rzregister.f k a0_2).bind fun t415=>(if 1+t415.size≤9223372036854775807 then (if ((⟨#[91]⟩:zB) ++ t415).size+1≤9223372036854775807 then ((rzsize.f a0_3).bind fun t416=>((rzDigits.f k t416).bind fun t417=>(if (((⟨#[91]⟩:zB) ++ t415) ++ (⟨#[45]⟩:zB)).size+t417.size≤9223372036854775807 then (if ((((⟨#[91]⟩:zB) ++ t415) ++ (⟨#[45]⟩:zB)) ++ t417).size+1≤9223372036854775807 then (some (((((⟨#[91]⟩:zB) ++ t415) ++ (⟨#[45]⟩:zB)) ++ t417) ++ (⟨#[93]⟩:zB))) else (none)) else (none)))) else (none)) else (none))) else ((rzregister.f k a0_2).bind fun t418=>(if 1+t418.size≤9223372036854775807 then (if ((⟨#[91]⟩:zB) ++ t418).size+1≤9223372036854775807 then ((rzsize.f a0_3).bind fun t419=>((rzDigits.f k t419).bind fun t420=>(if (((⟨#[91]⟩:zB) ++ t418) ++ (⟨#[43]⟩:zB)).size+t420.size≤9223372036854775807 then (if ((((⟨#[91]⟩:zB) ++ t418) ++ (⟨#[43]⟩:zB)) ++ t420).size+1≤9223372036854775807 then (some (((((⟨#[91]⟩:zB) ++ t418) ++ (⟨#[43]⟩:zB)) ++ t420) ++ (⟨#[93]⟩:zB))) else (none)) else (none)))) else (none)) else (none))))
theorem rzaddress.mono:∀ a0 a1 a2 a3 k,LeO (rzaddress.f k a0 a1 a2 a3) (rzaddress.f (k+1) a0 a1 a2 a3):=by
 intro a0 a1 a2 a3 k;unfold rzaddress.f;repeat' first
   | (with_reducible exact rzDigits.mono _ _)
   | (with_reducible exact rzregister.mono _ _)
   | (with_reducible exact LeO.refl _)
   | (with_reducible exact LeO.none _)
   | (with_reducible refine LeO.ite ?_ ?_)
   | (with_reducible refine LeO.bind ?_ (fun _=>?_))
   | exact LeO.none _
   | refine LeO.ite ?_ ?_
   | refine LeO.bind ?_ (fun _=>?_)
def rzaddress.T4:Bool × List (List Nat × List Nat):=(true,[([],[]),([0],[0]),([1],[1]),([2],[2]),([3],[3]),([],[]),([5],[5]),([6,2],[6]),([7,7],[7]),([4,8],[4,8]),([9],[9]),([10,8,0,1,2,3,4,5,6,7,8,9,10],[10])])
def rzaddress.B4:List Nat:=[0,1,3,7,15,0,32,103,231,511,1023,2047]
theorem rzaddress.tab4:rtab .any (opsOf Tryz.f66 4)=rzaddress.T4:=by kernel_rfl
theorem rzaddress.bits4:waitsOk rzaddress.T4.2 rzaddress.B4=true:=by kernel_rfl
def rzaddress.T5:Bool × List (List Nat × List Nat):=(true,[([],[]),([0],[0]),([1],[1]),([2],[2]),([3],[3]),([],[]),([5],[5]),([6,2],[6]),([7,7],[7]),([4,8],[4,8]),([9],[9]),([10,8,0,1,2,3,4,5,6,7,8,9,10],[10])])
def rzaddress.B5:List Nat:=[0,1,3,7,15,0,32,103,231,511,1023,2047]
theorem rzaddress.tab5:rtab .any (opsOf Tryz.f66 5)=rzaddress.T5:=by kernel_rfl
theorem rzaddress.bits5:waitsOk rzaddress.T5.2 rzaddress.B5=true:=by kernel_rfl
theorem rzaddress.calls (k:Nat) (a0_0:Int) (a0_1:Int) (a0_2:Int) (a0_3:Int) (r:ByteArray) (w:World) (h:rzaddress.f k a0_0 a0_1 a0_2 a0_3=some r) :
  Calls Tryz.prog 66 #[.agg #[.int .i64 a0_0,.int .i64 a0_1,.int .i64 a0_2,.int .i64 a0_3]] w fun e w'=>e=.returned (.string r)∧Below w.heap.size w w':=by
 have hu23:=Tryz.underlying23;have HB:=Aside0.mk (Below.refl w.heap.size w);unfold rzaddress.f at h;have H:=h;clear h;by_cases c2:a0_3=0
 ·rw [if_pos c2] at H;obtain ⟨c2b0,c2b1⟩:=bqt c2;clear c2;obtain ⟨t414,A3,H⟩:=bas H;(try dsimp only at H);by_cases c4:1+t414.size≤9223372036854775807
  ·rw [if_pos c4] at H;have c4b0:=eq_true c4;have c4b1:=decide_eq_true c4;try have c4b2:(9223372036854775807 < 1+t414.size)=False:=eq_false (Nat.not_lt.2 c4)
   by_cases c5:((⟨#[91]⟩:zB) ++ t414).size+1≤9223372036854775807
   ·rw [if_pos c5] at H;have c5b0:=eq_true c5;have c5b1:=decide_eq_true c5;try have c5b2:(9223372036854775807 < ((⟨#[91]⟩:zB) ++ t414).size+1)=False:=eq_false (Nat.not_lt.2 c5)
    try have c5x:(9223372036854775807 < 1+t414.size+1)=False:=eq_false (by have e1:=c5;simp only [ByteArray.size_append,show ∀ x:UInt8,(⟨#[x]⟩:zB).size=1 from fun _=>rfl] at e1;omega)
    obtain rfl:=Option.some.inj H;go_enter Tryz.func66,Tryz.ntmps66
    go_wp2_with (first | ((with_reducible refine gate_dst (N:=1) rfl ?_);refine bxe (N:=1) (cs:=#[.int .i64 a0_0,.int .i64 a0_1,.int .i64 a0_2,.int .i64 a0_3]) (t:=23) ?_;intro gb413 hg w6 hbox hb;have BK413:=Aside0.mk hbox;have GW413:Aside0 (w.heap.size≤gb413):=⟨gwb⟩;have GE413:Aside0 (w.heap.size≤gb413):=⟨gwb⟩;replace HB:=Aside0.mk (below_step blw hb);clear hb hbox hg;obtain ⟨_,_,_,_,_,_,_,_⟩:=bz4 BK413.out) | ((with_reducible refine gate_callee (f:=64) rfl ?_);refine gl (some 8) Tryz.func64 #[.int .i64 a0_2] ?_;(with_reducible refine (rzregister.calls k a0_2 _ _ A3.out).mono ?_);rintro e w8 ⟨rfl,hb⟩;refine ⟨_,rfl,?_⟩;replace BK413:=Aside0.mk (blk_below (g:=gb413) bko hb);replace HB:=Aside0.mk (below_step blw hb);clear hb))
    go_ret;exact ⟨rew,blw⟩
   ·rw [if_neg c5] at H;exact absurd H (by simp)
  ·rw [if_neg c4] at H;exact absurd H (by simp)
 ·rw [if_neg c2] at H;obtain ⟨c2b0,c2b1⟩:=bqf c2;by_cases c9:a0_3 < 0
  ·rw [if_pos c9] at H;have c9b0:=decide_eq_true c9;clear c9;obtain ⟨t415,A10,H⟩:=bas H;(try dsimp only at H);by_cases c11:1+t415.size≤9223372036854775807
   ·rw [if_pos c11] at H;have c11b0:=eq_true c11;have c11b1:=decide_eq_true c11;try have c11b2:(9223372036854775807 < 1+t415.size)=False:=eq_false (Nat.not_lt.2 c11)
    by_cases c12:((⟨#[91]⟩:zB) ++ t415).size+1≤9223372036854775807
    ·rw [if_pos c12] at H;have c12b0:=eq_true c12;have c12b1:=decide_eq_true c12;try have c12b2:(9223372036854775807 < ((⟨#[91]⟩:zB) ++ t415).size+1)=False:=eq_false (Nat.not_lt.2 c12)
     try have c12x:(9223372036854775807 < 1+t415.size+1)=False:=eq_false (by have e1:=c12;simp only [ByteArray.size_append,show ∀ x:UInt8,(⟨#[x]⟩:zB).size=1 from fun _=>rfl] at e1;omega)
     obtain ⟨t416,A13,H⟩:=bas H;(try dsimp only at H);obtain ⟨t417,A14,H⟩:=bas H;(try dsimp only at H);by_cases c15:(((⟨#[91]⟩:zB) ++ t415) ++ (⟨#[45]⟩:zB)).size+t417.size≤9223372036854775807
     ·rw [if_pos c15] at H;have c15b0:=eq_true c15;have c15b1:=decide_eq_true c15;try have c15b2:(9223372036854775807 < (((⟨#[91]⟩:zB) ++ t415) ++ (⟨#[45]⟩:zB)).size+t417.size)=False:=eq_false (Nat.not_lt.2 c15)
      try have c15x:(9223372036854775807 < 1+t415.size+1+t417.size)=False:=eq_false (by have e1:=c15;simp only [ByteArray.size_append,show ∀ x:UInt8,(⟨#[x]⟩:zB).size=1 from fun _=>rfl] at e1;omega)
      by_cases c16:((((⟨#[91]⟩:zB) ++ t415) ++ (⟨#[45]⟩:zB)) ++ t417).size+1≤9223372036854775807
      ·rw [if_pos c16] at H;have c16b0:=eq_true c16;have c16b1:=decide_eq_true c16;try have c16b2:(9223372036854775807 < ((((⟨#[91]⟩:zB) ++ t415) ++ (⟨#[45]⟩:zB)) ++ t417).size+1)=False:=eq_false (Nat.not_lt.2 c16)
       try have c16x:(9223372036854775807 < 1+t415.size+1+t417.size+1)=False:=eq_false (by have e1:=c16;simp only [ByteArray.size_append,show ∀ x:UInt8,(⟨#[x]⟩:zB).size=1 from fun _=>rfl] at e1;omega)
       obtain rfl:=Option.some.inj H;go_enter Tryz.func66,Tryz.ntmps66
       try go_wp2_with (first | ((with_reducible refine gate_dst (N:=1) rfl ?_);refine bxe (N:=1) (cs:=#[.int .i64 a0_0,.int .i64 a0_1,.int .i64 a0_2,.int .i64 a0_3]) (t:=23) ?_;intro gb413 hg w17 hbox hb;have BK413:=Aside0.mk hbox;have GW413:Aside0 (w.heap.size≤gb413):=⟨gwb⟩;have GE413:Aside0 (w.heap.size≤gb413):=⟨gwb⟩;replace HB:=Aside0.mk (below_step blw hb);clear hb hbox hg;obtain ⟨_,_,_,_,_,_,_,_⟩:=bz4 BK413.out))
       replace BK413:=Aside0.mk (blk_drew BK413.out);replace HB:=Aside0.mk (below_drew1 HB.out);refine start_ (n:=12) (S:=fun w'=>w'.cell? ⟨gb413,0,none⟩=some (.int .i64 a0_0)∧w'.cell? ⟨gb413,1,none⟩=some (.int .i64 a0_1)∧w'.cell? ⟨gb413,2,none⟩=some (.int .i64 a0_2)∧w'.cell? ⟨gb413,3,none⟩=some (.int .i64 a0_3)) (ds:=[]) #[zF,zF,zF,zF,zF,zF,zF,zF,zF,zF,zF,zF] (by kernel_rfl) rfl rfl ⟨(blk_cell BK413.out 0).trans rfl,(blk_cell BK413.out 1).trans rfl,(blk_cell BK413.out 2).trans rfl,(blk_cell BK413.out 3).trans rfl⟩ (fun hHeld=>?_);refine with_tabW rzaddress.tab4 rzaddress.bits4 (fun HT_ HW_=>?_);generalize w17.drew=w19 at BK413 HB hHeld ⊢;refine pz (i:=0) (N:=some 14) #[zT,zF,zF,zF,zF,zF,zF,zF,zF,zF,zF,zF] rfl rfl HT_.out ?_
       refine pz (i:=5) (N:=some 19) #[zT,zF,zF,zF,zF,zT,zF,zF,zF,zF,zF,zF] rfl rfl HT_.out ?_
       refine tz4 (i:=1) (N:=some 15) #[zT,zT,zF,zF,zF,zT,zF,zF,zF,zF,zF,zF] rfl rfl HT_.out HW_.out hHeld ?_
       refine tz4 (i:=6) (N:=some 20) #[zT,zT,zF,zF,zF,zT,zT,zF,zF,zF,zF,zF] rfl rfl HT_.out HW_.out hHeld ?_
       refine one_ (i:=2) (N:=some 16) #[zT,zT,zT,zF,zF,zT,zT,zF,zF,zF,zF,zF] rfl rfl (one_of HT_.out (by kernel_rfl)) (by decide) (fun K hK=>?_);refine goes_ Tryz.func64 (by kernel_rfl) rfl #[.int .i64 a0_2] (by rfl) rfl rfl fq ?_;with_reducible refine (rzregister.calls k a0_2 _ _ A10.out).mono ?_
       rintro e w20 ⟨rfl,hb⟩;refine ⟨_,rfl,?_⟩;replace BK413:=Aside0.mk (blk_below (g:=gb413) bko hb);replace HB:=Aside0.mk (below_step blw hb);clear hb;refine hK.out _ _ ⟨(blk_cell BK413.out 0).trans rfl,(blk_cell BK413.out 1).trans rfl,(blk_cell BK413.out 2).trans rfl,(blk_cell BK413.out 3).trans rfl⟩ (fun hHeld=>?_);clear hK K;refine nrmq ?_
       refine pz (i:=3) (N:=some 17) #[zT,zT,zT,zT,zF,zT,zT,zF,zF,zF,zF,zF] rfl rfl HT_.out ?_
       refine pz (i:=4) (N:=some 18) #[zT,zT,zT,zT,zT,zT,zT,zF,zF,zF,zF,zF] rfl rfl HT_.out ?_
       refine one_ (i:=7) (N:=some 21) #[zT,zT,zT,zT,zT,zT,zT,zT,zF,zF,zF,zF] rfl rfl (one_of HT_.out (by kernel_rfl)) (by decide) (fun K hK=>?_);refine goes_ Tryz.func95 (by kernel_rfl) rfl #[.int .i64 a0_3] (by rfl) rfl rfl fq ?_;with_reducible refine (rzsize.calls a0_3 _ _ A13.out).mono ?_
       rintro e w' ⟨rfl,⟨nd,rfl⟩⟩;refine ⟨_,rfl,?_⟩;refine hK.out _ _ ⟨(blk_cell BK413.out 0).trans rfl,(blk_cell BK413.out 1).trans rfl,(blk_cell BK413.out 2).trans rfl,(blk_cell BK413.out 3).trans rfl⟩ (fun hHeld=>?_);clear hK K;refine nrmq ?_
       refine one_ (i:=8) (N:=some 22) #[zT,zT,zT,zT,zT,zT,zT,zT,zT,zF,zF,zF] rfl rfl (one_of HT_.out (by kernel_rfl)) (by decide) (fun K hK=>?_);refine goes_ Tryz.func38 (by kernel_rfl) rfl #[.int .u64 t416] (by rfl) rfl rfl fq ?_;with_reducible refine (rzDigits.calls k _ _ _ A14.out).mono ?_
       rintro e w21 ⟨rfl,hb⟩;refine ⟨_,rfl,?_⟩;replace BK413:=Aside0.mk (blk_below (g:=gb413) bko hb);replace HB:=Aside0.mk (below_step blw hb);clear hb;refine hK.out _ _ ⟨(blk_cell BK413.out 0).trans rfl,(blk_cell BK413.out 1).trans rfl,(blk_cell BK413.out 2).trans rfl,(blk_cell BK413.out 3).trans rfl⟩ (fun hHeld=>?_);clear hK K;refine nrmq ?_
       refine pz (i:=9) (N:=some 23) #[zT,zT,zT,zT,zT,zT,zT,zT,zT,zT,zF,zF] rfl rfl HT_.out ?_
       refine pz (i:=10) (N:=some 24) #[zT,zT,zT,zT,zT,zT,zT,zT,zT,zT,zT,zF] rfl rfl HT_.out ?_
       refine pz (i:=11) (N:=some 2) #[zT,zT,zT,zT,zT,zT,zT,zT,zT,zT,zT,zT] rfl rfl HT_.out ?_
       refine done_ (done_of HT_.out (by kernel_rfl)) ?_;try go_wp2
       go_ret;exact ⟨rew,blw⟩
      ·rw [if_neg c16] at H;exact absurd H (by simp)
     ·rw [if_neg c15] at H;exact absurd H (by simp)
    ·rw [if_neg c12] at H;exact absurd H (by simp)
   ·rw [if_neg c11] at H;exact absurd H (by simp)
  ·rw [if_neg c9] at H;have c9b0:=decide_eq_false c9;clear c9;obtain ⟨t418,A22,H⟩:=bas H;(try dsimp only at H);by_cases c23:1+t418.size≤9223372036854775807
   ·rw [if_pos c23] at H;have c23b0:=eq_true c23;have c23b1:=decide_eq_true c23;try have c23b2:(9223372036854775807 < 1+t418.size)=False:=eq_false (Nat.not_lt.2 c23)
    by_cases c24:((⟨#[91]⟩:zB) ++ t418).size+1≤9223372036854775807
    ·rw [if_pos c24] at H;have c24b0:=eq_true c24;have c24b1:=decide_eq_true c24;try have c24b2:(9223372036854775807 < ((⟨#[91]⟩:zB) ++ t418).size+1)=False:=eq_false (Nat.not_lt.2 c24)
     try have c24x:(9223372036854775807 < 1+t418.size+1)=False:=eq_false (by have e1:=c24;simp only [ByteArray.size_append,show ∀ x:UInt8,(⟨#[x]⟩:zB).size=1 from fun _=>rfl] at e1;omega)
     obtain ⟨t419,A25,H⟩:=bas H;(try dsimp only at H);obtain ⟨t420,A26,H⟩:=bas H;(try dsimp only at H);by_cases c27:(((⟨#[91]⟩:zB) ++ t418) ++ (⟨#[43]⟩:zB)).size+t420.size≤9223372036854775807
     ·rw [if_pos c27] at H;have c27b0:=eq_true c27;have c27b1:=decide_eq_true c27;try have c27b2:(9223372036854775807 < (((⟨#[91]⟩:zB) ++ t418) ++ (⟨#[43]⟩:zB)).size+t420.size)=False:=eq_false (Nat.not_lt.2 c27)
      try have c27x:(9223372036854775807 < 1+t418.size+1+t420.size)=False:=eq_false (by have e1:=c27;simp only [ByteArray.size_append,show ∀ x:UInt8,(⟨#[x]⟩:zB).size=1 from fun _=>rfl] at e1;omega)
      by_cases c28:((((⟨#[91]⟩:zB) ++ t418) ++ (⟨#[43]⟩:zB)) ++ t420).size+1≤9223372036854775807
      ·rw [if_pos c28] at H;have c28b0:=eq_true c28;have c28b1:=decide_eq_true c28;try have c28b2:(9223372036854775807 < ((((⟨#[91]⟩:zB) ++ t418) ++ (⟨#[43]⟩:zB)) ++ t420).size+1)=False:=eq_false (Nat.not_lt.2 c28)
       try have c28x:(9223372036854775807 < 1+t418.size+1+t420.size+1)=False:=eq_false (by have e1:=c28;simp only [ByteArray.size_append,show ∀ x:UInt8,(⟨#[x]⟩:zB).size=1 from fun _=>rfl] at e1;omega)
       obtain rfl:=Option.some.inj H;go_enter Tryz.func66,Tryz.ntmps66
       try go_wp2_with (first | ((with_reducible refine gate_dst (N:=1) rfl ?_);refine bxe (N:=1) (cs:=#[.int .i64 a0_0,.int .i64 a0_1,.int .i64 a0_2,.int .i64 a0_3]) (t:=23) ?_;intro gb413 hg w29 hbox hb;have BK413:=Aside0.mk hbox;have GW413:Aside0 (w.heap.size≤gb413):=⟨gwb⟩;have GE413:Aside0 (w.heap.size≤gb413):=⟨gwb⟩;replace HB:=Aside0.mk (below_step blw hb);clear hb hbox hg;obtain ⟨_,_,_,_,_,_,_,_⟩:=bz4 BK413.out))
       replace BK413:=Aside0.mk (blk_drew BK413.out);replace HB:=Aside0.mk (below_drew1 HB.out);refine start_ (n:=12) (S:=fun w'=>w'.cell? ⟨gb413,0,none⟩=some (.int .i64 a0_0)∧w'.cell? ⟨gb413,1,none⟩=some (.int .i64 a0_1)∧w'.cell? ⟨gb413,2,none⟩=some (.int .i64 a0_2)∧w'.cell? ⟨gb413,3,none⟩=some (.int .i64 a0_3)) (ds:=[]) #[zF,zF,zF,zF,zF,zF,zF,zF,zF,zF,zF,zF] (by kernel_rfl) rfl rfl ⟨(blk_cell BK413.out 0).trans rfl,(blk_cell BK413.out 1).trans rfl,(blk_cell BK413.out 2).trans rfl,(blk_cell BK413.out 3).trans rfl⟩ (fun hHeld=>?_);refine with_tabW rzaddress.tab5 rzaddress.bits5 (fun HT_ HW_=>?_);generalize w29.drew=w31 at BK413 HB hHeld ⊢;refine pz (i:=0) (N:=some 25) #[zT,zF,zF,zF,zF,zF,zF,zF,zF,zF,zF,zF] rfl rfl HT_.out ?_
       refine pz (i:=5) (N:=some 30) #[zT,zF,zF,zF,zF,zT,zF,zF,zF,zF,zF,zF] rfl rfl HT_.out ?_
       refine tz4 (i:=1) (N:=some 26) #[zT,zT,zF,zF,zF,zT,zF,zF,zF,zF,zF,zF] rfl rfl HT_.out HW_.out hHeld ?_
       refine tz4 (i:=6) (N:=some 31) #[zT,zT,zF,zF,zF,zT,zT,zF,zF,zF,zF,zF] rfl rfl HT_.out HW_.out hHeld ?_
       refine one_ (i:=2) (N:=some 27) #[zT,zT,zT,zF,zF,zT,zT,zF,zF,zF,zF,zF] rfl rfl (one_of HT_.out (by kernel_rfl)) (by decide) (fun K hK=>?_);refine goes_ Tryz.func64 (by kernel_rfl) rfl #[.int .i64 a0_2] (by rfl) rfl rfl fq ?_;with_reducible refine (rzregister.calls k a0_2 _ _ A22.out).mono ?_
       rintro e w32 ⟨rfl,hb⟩;refine ⟨_,rfl,?_⟩;replace BK413:=Aside0.mk (blk_below (g:=gb413) bko hb);replace HB:=Aside0.mk (below_step blw hb);clear hb;refine hK.out _ _ ⟨(blk_cell BK413.out 0).trans rfl,(blk_cell BK413.out 1).trans rfl,(blk_cell BK413.out 2).trans rfl,(blk_cell BK413.out 3).trans rfl⟩ (fun hHeld=>?_);clear hK K;refine nrmq ?_
       refine pz (i:=3) (N:=some 28) #[zT,zT,zT,zT,zF,zT,zT,zF,zF,zF,zF,zF] rfl rfl HT_.out ?_
       refine pz (i:=4) (N:=some 29) #[zT,zT,zT,zT,zT,zT,zT,zF,zF,zF,zF,zF] rfl rfl HT_.out ?_
       refine one_ (i:=7) (N:=some 32) #[zT,zT,zT,zT,zT,zT,zT,zT,zF,zF,zF,zF] rfl rfl (one_of HT_.out (by kernel_rfl)) (by decide) (fun K hK=>?_);refine goes_ Tryz.func95 (by kernel_rfl) rfl #[.int .i64 a0_3] (by rfl) rfl rfl fq ?_;with_reducible refine (rzsize.calls a0_3 _ _ A25.out).mono ?_
       rintro e w' ⟨rfl,⟨nd,rfl⟩⟩;refine ⟨_,rfl,?_⟩;refine hK.out _ _ ⟨(blk_cell BK413.out 0).trans rfl,(blk_cell BK413.out 1).trans rfl,(blk_cell BK413.out 2).trans rfl,(blk_cell BK413.out 3).trans rfl⟩ (fun hHeld=>?_);clear hK K;refine nrmq ?_
       refine one_ (i:=8) (N:=some 33) #[zT,zT,zT,zT,zT,zT,zT,zT,zT,zF,zF,zF] rfl rfl (one_of HT_.out (by kernel_rfl)) (by decide) (fun K hK=>?_);refine goes_ Tryz.func38 (by kernel_rfl) rfl #[.int .u64 t419] (by rfl) rfl rfl fq ?_;with_reducible refine (rzDigits.calls k _ _ _ A26.out).mono ?_
       rintro e w33 ⟨rfl,hb⟩;refine ⟨_,rfl,?_⟩;replace BK413:=Aside0.mk (blk_below (g:=gb413) bko hb);replace HB:=Aside0.mk (below_step blw hb);clear hb;refine hK.out _ _ ⟨(blk_cell BK413.out 0).trans rfl,(blk_cell BK413.out 1).trans rfl,(blk_cell BK413.out 2).trans rfl,(blk_cell BK413.out 3).trans rfl⟩ (fun hHeld=>?_);clear hK K;refine nrmq ?_
       refine pz (i:=9) (N:=some 34) #[zT,zT,zT,zT,zT,zT,zT,zT,zT,zT,zF,zF] rfl rfl HT_.out ?_
       refine pz (i:=10) (N:=some 35) #[zT,zT,zT,zT,zT,zT,zT,zT,zT,zT,zT,zF] rfl rfl HT_.out ?_
       refine pz (i:=11) (N:=some 2) #[zT,zT,zT,zT,zT,zT,zT,zT,zT,zT,zT,zT] rfl rfl HT_.out ?_
       refine done_ (done_of HT_.out (by kernel_rfl)) ?_;try go_wp2
       go_ret;exact ⟨rew,blw⟩
      ·rw [if_neg c28] at H;exact absurd H (by simp)
     ·rw [if_neg c27] at H;exact absurd H (by simp)
    ·rw [if_neg c24] at H;exact absurd H (by simp)
   ·rw [if_neg c23] at H;exact absurd H (by simp)
end Go.Proofs.YtffojmgmpfjlhaaGreatDoor.Q
