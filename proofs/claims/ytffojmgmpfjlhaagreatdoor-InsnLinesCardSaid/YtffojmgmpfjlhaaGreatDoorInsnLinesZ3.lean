/- Parts of the proof: InsnLines: what an instruction is printed as is parsed as it, and assembled to its encoding: the law returns true for every input; the inputs read as they did; the package-level variables hold what the program's text lays in them: the tied card. -/
import Derived.Test.YtffojmgmpfjlhaaGreatDoorInsnLinesZ2
set_option linter.unusedVariables false
set_option linter.unusedSimpArgs false
namespace Go.Proofs.YtffojmgmpfjlhaaGreatDoor.Q
open Go.Proofs.Ix hiding rd
open Go Go.Proofs.YtffojmgmpfjlhaaGreatDoor Go.RowKit Go.Proofs.YtffojmgmpfjlhaaGreatDoorW.PrintWords
theorem bS_app (x y:List UInt8):bS x ++ bS y=bS (x ++ y):=by
 unfold bS
 have h:∀ a b:ByteArray,a.data=b.data→a=b:=fun ⟨_⟩ ⟨_⟩ h=>by cases h;rfl
 refine h _ _ ?_
 simp [ByteArray.data_append]
theorem bS_len (x:List UInt8):(bS x).size=x.length:=by rw [← sz_list,toS]
theorem num_len {v:Int} (h0:-9223372036854775808≤v) (h1:v≤9223372036854775807):(numW v).length≤21:=Lib.itoa_length_le v h0 h1
theorem reg_f {x:Int} (h0:0≤x) (h7:x≤7):insn_register.f x=some (bS (regW x)):=by
 unfold insn_register.f strconv_Itoa.f
 have e:Lib.itoa x=[UInt8.ofNat (48+x.toNat)]:=by
  unfold Lib.itoa
  rw [if_neg (by omega),Lib.decDigits_one (by omega)]
 rw [if_pos (by omega),Option.bind_some,bS_len,e,if_pos (by simp)]
 exact congrArg some (bS_app [114] _)
theorem fmt_f {v:Int} (h0:-9223372036854775808≤v) (h1:v≤9223372036854775807):strconv_FormatInt.f v 10=some (bS (numW v)):=by
 unfold strconv_FormatInt.f
 rw [if_pos ⟨rfl,h0,h1⟩]
 rfl
theorem dist_f {v:Int} (h0:-9223372036854775808≤v) (h1:v≤9223372036854775807):insn_distance.f v=some (bS (distW v)):=by
 have hl:=num_len h0 h1
 unfold insn_distance.f distW
 by_cases hn:v < 0
 ·rw [if_pos hn,if_pos hn,fmt_f h0 h1,Option.bind_some,if_pos (by rw [bS_len];omega)]
  exact congrArg some (bS_app [46] _)
 ·rw [if_neg hn,if_neg hn,fmt_f h0 h1,Option.bind_some,if_pos (by rw [bS_len];omega)]
  exact congrArg some (bS_app [46,43] _)
theorem b1 (c:UInt8):(⟨#[c]⟩:ByteArray)=bS [c]:=rfl
theorem addr_f {op a b v:Int} (hb0:0≤b) (hb7:b≤7) (h0:-9223372036854775808≤v) (h1:v≤9223372036854775807):insn_address.f op a b v=some (bS (addrW b v)):=by
 have hl:=num_len h0 h1
 unfold insn_address.f addrW
 simp only [b1,reg_f hb0 hb7,fmt_f h0 h1,Option.bind_some,bS_app,bS_len,List.length_append,List.length_cons,List.length_nil,show (regW b).length=2 from rfl]
 by_cases hp:v > 0
 ·rw [if_pos hp,if_pos hp,if_pos (by omega),if_pos (by omega),if_pos (by omega),if_pos (by omega)]
  simp
 ·rw [if_neg hp,if_neg hp]
  by_cases hn:v < 0
  ·rw [if_pos hn,if_pos hn,if_pos (by omega),if_pos (by omega),if_pos (by omega)]
   simp
  ·rw [if_neg hn,if_neg hn]
   simp
theorem op_valid {op:Int} (h:nameM op≠[]):op=1∨op=2∨op=3∨op=4∨op=5∨op=6∨op=7∨op=8∨op=9∨op=10∨op=11∨op=12∨op=13∨op=14∨op=15∨op=16∨op=17∨op=18∨op=19∨op=20∨op=21∨op=22∨op=23∨op=24∨op=25∨op=26∨op=27∨op=28∨op=29∨op=30∨op=31∨op=32∨op=33∨op=34∨op=76:=by
 by_cases h76:op=76
 ·omega
 ·by_cases hr:op < 1∨35≤op
  ·refine absurd ?_ h
   unfold nameM kindM
   rw [if_neg h76,if_pos hr]
  ·omega
theorem words_f {op a b v:Int} (hv:nameM op≠[]) (o:Ok1 op a b v) (k:Nat):insn_words.f (k+10) op a b v=some ((readsM op).map fun r=>bS (rdW a b v r)):=by
 have ha:insn_address.f op a b v=some (bS (addrW b v)):=addr_f o.b0 o.b7 o.v0 o.v1
 have hd:=dist_f o.v0 o.v1
 have hmem:bS [91] ++ bS (regW b) ++ bS [93]=bS (memW b):=by rw [bS_app,bS_app];rfl
 have hmem:((⟨#[91]⟩:ByteArray) ++ bS (regW b)) ++ (⟨#[93]⟩:ByteArray)=bS (memW b):=hmem
 have hs1:(1:Nat)+(bS (regW b)).size≤9223372036854775807:=by rw [bS_len,show (regW b).length=2 from rfl];omega
 have hs2:((⟨#[91]⟩:ByteArray) ++ bS (regW b)).size+1≤9223372036854775807:=by rw [b1,bS_app,bS_len,List.length_append,show (regW b).length=2 from rfl];simp
 unfold insn_words.f
 rw [reg_f o.a0 o.a7,reg_f o.b0 o.b7,fmt_f o.v0 o.v1,Option.bind_some,Option.bind_some,Option.bind_some]
 rcases op_valid hv with rfl | rfl | rfl | rfl | rfl | rfl | rfl | rfl | rfl | rfl | rfl | rfl | rfl | rfl | rfl | rfl | rfl | rfl | rfl | rfl | rfl | rfl | rfl | rfl | rfl | rfl | rfl | rfl | rfl | rfl | rfl | rfl | rfl | rfl | rfl
 ·rw [show readsM 1=[] from rfl]
  simp [insn_words.j0,insn_words.j1,insn_words.j2,insn_words.j3,insn_words.j4,insn_kindOf.f,formM,kindM,kindsL,ha,hd,hmem,rdW]
 ·rw [show readsM 2=[Rd.a,Rd.b] from rfl]
  simp [insn_words.j0,insn_words.j1,insn_words.j2,insn_words.j3,insn_words.j4,insn_kindOf.f,formM,kindM,kindsL,ha,hd,hmem,rdW]
 ·rw [show readsM 3=[Rd.a,Rd.num] from rfl]
  simp [insn_words.j0,insn_words.j1,insn_words.j2,insn_words.j3,insn_words.j4,insn_kindOf.f,formM,kindM,kindsL,ha,hd,hmem,rdW]
 ·rw [show readsM 4=[Rd.a,Rd.num] from rfl]
  simp [insn_words.j0,insn_words.j1,insn_words.j2,insn_words.j3,insn_words.j4,insn_kindOf.f,formM,kindM,kindsL,ha,hd,hmem,rdW]
 ·rw [show readsM 5=[Rd.a,Rd.b] from rfl]
  simp [insn_words.j0,insn_words.j1,insn_words.j2,insn_words.j3,insn_words.j4,insn_kindOf.f,formM,kindM,kindsL,ha,hd,hmem,rdW]
 ·rw [show readsM 6=[Rd.a,Rd.b] from rfl]
  simp [insn_words.j0,insn_words.j1,insn_words.j2,insn_words.j3,insn_words.j4,insn_kindOf.f,formM,kindM,kindsL,ha,hd,hmem,rdW]
 ·rw [show readsM 7=[Rd.a,Rd.b] from rfl]
  simp [insn_words.j0,insn_words.j1,insn_words.j2,insn_words.j3,insn_words.j4,insn_kindOf.f,formM,kindM,kindsL,ha,hd,hmem,rdW]
 ·rw [show readsM 8=[Rd.a,Rd.b] from rfl]
  simp [insn_words.j0,insn_words.j1,insn_words.j2,insn_words.j3,insn_words.j4,insn_kindOf.f,formM,kindM,kindsL,ha,hd,hmem,rdW]
 ·rw [show readsM 9=[Rd.a,Rd.b] from rfl]
  simp [insn_words.j0,insn_words.j1,insn_words.j2,insn_words.j3,insn_words.j4,insn_kindOf.f,formM,kindM,kindsL,ha,hd,hmem,rdW]
 ·rw [show readsM 10=[Rd.a,Rd.b] from rfl]
  simp [insn_words.j0,insn_words.j1,insn_words.j2,insn_words.j3,insn_words.j4,insn_kindOf.f,formM,kindM,kindsL,ha,hd,hmem,rdW]
 ·rw [show readsM 11=[Rd.a,Rd.b] from rfl]
  simp [insn_words.j0,insn_words.j1,insn_words.j2,insn_words.j3,insn_words.j4,insn_kindOf.f,formM,kindM,kindsL,ha,hd,hmem,rdW]
 ·rw [show readsM 12=[Rd.a,Rd.b] from rfl]
  simp [insn_words.j0,insn_words.j1,insn_words.j2,insn_words.j3,insn_words.j4,insn_kindOf.f,formM,kindM,kindsL,ha,hd,hmem,rdW]
 ·rw [show readsM 13=[Rd.a,Rd.b] from rfl]
  simp [insn_words.j0,insn_words.j1,insn_words.j2,insn_words.j3,insn_words.j4,insn_kindOf.f,formM,kindM,kindsL,ha,hd,hmem,rdW]
 ·rw [show readsM 14=[Rd.a,Rd.b] from rfl]
  simp [insn_words.j0,insn_words.j1,insn_words.j2,insn_words.j3,insn_words.j4,insn_kindOf.f,formM,kindM,kindsL,ha,hd,hmem,rdW]
 ·rw [show readsM 15=[Rd.a,Rd.b] from rfl]
  simp [insn_words.j0,insn_words.j1,insn_words.j2,insn_words.j3,insn_words.j4,insn_kindOf.f,formM,kindM,kindsL,ha,hd,hmem,rdW]
 ·rw [show readsM 16=[Rd.a,Rd.num] from rfl]
  simp [insn_words.j0,insn_words.j1,insn_words.j2,insn_words.j3,insn_words.j4,insn_kindOf.f,formM,kindM,kindsL,ha,hd,hmem,rdW]
 ·rw [show readsM 17=[Rd.a,Rd.addr] from rfl]
  simp [insn_words.j0,insn_words.j1,insn_words.j2,insn_words.j3,insn_words.j4,insn_kindOf.f,formM,kindM,kindsL,ha,hd,hmem,rdW]
 ·rw [show readsM 18=[Rd.a,Rd.addr] from rfl]
  simp [insn_words.j0,insn_words.j1,insn_words.j2,insn_words.j3,insn_words.j4,insn_kindOf.f,formM,kindM,kindsL,ha,hd,hmem,rdW]
 ·rw [show readsM 19=[Rd.addr,Rd.a] from rfl]
  simp [insn_words.j0,insn_words.j1,insn_words.j2,insn_words.j3,insn_words.j4,insn_kindOf.f,formM,kindM,kindsL,ha,hd,hmem,rdW]
 ·rw [show readsM 20=[Rd.addr,Rd.a] from rfl]
  simp [insn_words.j0,insn_words.j1,insn_words.j2,insn_words.j3,insn_words.j4,insn_kindOf.f,formM,kindM,kindsL,ha,hd,hmem,rdW]
 ·rw [show readsM 21=[Rd.a,Rd.b,Rd.target] from rfl]
  simp [insn_words.j0,insn_words.j1,insn_words.j2,insn_words.j3,insn_words.j4,insn_kindOf.f,formM,kindM,kindsL,ha,hd,hmem,rdW]
 ·rw [show readsM 22=[Rd.a,Rd.b,Rd.target] from rfl]
  simp [insn_words.j0,insn_words.j1,insn_words.j2,insn_words.j3,insn_words.j4,insn_kindOf.f,formM,kindM,kindsL,ha,hd,hmem,rdW]
 ·rw [show readsM 23=[Rd.a,Rd.b,Rd.target] from rfl]
  simp [insn_words.j0,insn_words.j1,insn_words.j2,insn_words.j3,insn_words.j4,insn_kindOf.f,formM,kindM,kindsL,ha,hd,hmem,rdW]
 ·rw [show readsM 24=[Rd.a,Rd.b,Rd.target] from rfl]
  simp [insn_words.j0,insn_words.j1,insn_words.j2,insn_words.j3,insn_words.j4,insn_kindOf.f,formM,kindM,kindsL,ha,hd,hmem,rdW]
 ·rw [show readsM 25=[Rd.target] from rfl]
  simp [insn_words.j0,insn_words.j1,insn_words.j2,insn_words.j3,insn_words.j4,insn_kindOf.f,formM,kindM,kindsL,ha,hd,hmem,rdW]
 ·rw [show readsM 26=[Rd.a] from rfl]
  simp [insn_words.j0,insn_words.j1,insn_words.j2,insn_words.j3,insn_words.j4,insn_kindOf.f,formM,kindM,kindsL,ha,hd,hmem,rdW]
 ·rw [show readsM 27=[Rd.target] from rfl]
  simp [insn_words.j0,insn_words.j1,insn_words.j2,insn_words.j3,insn_words.j4,insn_kindOf.f,formM,kindM,kindsL,ha,hd,hmem,rdW]
 ·rw [show readsM 28=[Rd.a] from rfl]
  simp [insn_words.j0,insn_words.j1,insn_words.j2,insn_words.j3,insn_words.j4,insn_kindOf.f,formM,kindM,kindsL,ha,hd,hmem,rdW]
 ·rw [show readsM 29=[] from rfl]
  simp [insn_words.j0,insn_words.j1,insn_words.j2,insn_words.j3,insn_words.j4,insn_kindOf.f,formM,kindM,kindsL,ha,hd,hmem,rdW]
 ·rw [show readsM 30=[Rd.a] from rfl]
  simp [insn_words.j0,insn_words.j1,insn_words.j2,insn_words.j3,insn_words.j4,insn_kindOf.f,formM,kindM,kindsL,ha,hd,hmem,rdW]
 ·rw [show readsM 31=[Rd.a] from rfl]
  simp [insn_words.j0,insn_words.j1,insn_words.j2,insn_words.j3,insn_words.j4,insn_kindOf.f,formM,kindM,kindsL,ha,hd,hmem,rdW]
 ·rw [show readsM 32=[Rd.a,Rd.target] from rfl]
  simp [insn_words.j0,insn_words.j1,insn_words.j2,insn_words.j3,insn_words.j4,insn_kindOf.f,formM,kindM,kindsL,ha,hd,hmem,rdW]
 ·rw [show readsM 33=[Rd.num] from rfl]
  simp [insn_words.j0,insn_words.j1,insn_words.j2,insn_words.j3,insn_words.j4,insn_kindOf.f,formM,kindM,kindsL,ha,hd,hmem,rdW]
 ·rw [show readsM 34=[Rd.a,Rd.mem] from rfl]
  simp [insn_words.j0,insn_words.j1,insn_words.j2,insn_words.j3,insn_words.j4,insn_kindOf.f,formM,kindM,kindsL,ha,hd,hmem,rdW]
  exact ⟨hs1,by rw [bS_len,show (regW b).length=2 from rfl];decide⟩
 ·rw [show readsM 76=[] from rfl]
  simp [insn_words.j0,insn_words.j1,insn_words.j2,insn_words.j3,insn_words.j4,insn_kindOf.f,formM,kindM,kindsL,ha,hd,hmem,rdW]
def opW (a b v:Int):List Rd→List UInt8
 | []=>[]
 | k :: ks=>32 :: (rdW a b v k ++ tailW a b v ks)
def printW (op a b v:Int):List UInt8:=nameM op ++ opW a b v (readsM op)
theorem join_w (a b v:Int) (k:Rd) (ks:List Rd):Lib.join (((k :: ks).map fun r=>bS (rdW a b v r)).map (fun x:ByteArray=>x.data.toList)) [44,32]=rdW a b v k ++ tailW a b v ks:=by
 rw [List.map_cons,List.map_cons,Lib.join_cons,toS]
 congr 1
 unfold Lib.joinTail tailW
 rw [List.map_map,List.map_map,List.flatMap_def]
 congr 1
theorem rdW_len {op a b v:Int} (o:Ok1 op a b v) (k:Rd):(rdW a b v k).length≤40:=by
 have hl:=num_len o.v0 o.v1
 cases k with
 | a=>exact (show 2≤40 by omega)
 | b=>exact (show 2≤40 by omega)
 | num=>show (numW v).length≤40;omega
 | mem=>exact (show 4≤40 by omega)
 | addr =>
  show (addrW b v).length≤40
  unfold addrW
  simp only [List.length_cons,List.length_append,List.length_nil,show (regW b).length=2 from rfl]
  by_cases hp:v > 0
  ·rw [if_pos hp,List.length_cons];omega
  ·rw [if_neg hp]
   by_cases hn:v < 0
   ·rw [if_pos hn];omega
   ·rw [if_neg hn,List.length_nil];omega
 | target =>
  show (distW v).length≤40
  unfold distW
  by_cases hn:v < 0
  ·rw [if_pos hn,List.length_cons];omega
  ·rw [if_neg hn,List.length_cons,List.length_cons];omega
theorem tailW_len {op a b v:Int} (o:Ok1 op a b v):∀ ks:List Rd,(tailW a b v ks).length≤42 * ks.length
 | []=>Nat.le_refl _
 | k :: ks=>by
  have:=tailW_len o ks
  have:=rdW_len o k
  unfold tailW at *
  rw [List.flatMap_cons]
  simp only [List.length_append,List.length_cons]
  omega
theorem reads_len (op:Int):(readsM op).length≤3:=by
 unfold readsM
 repeat' split
 all_goals simp
theorem name_len (op:Int):(nameM op).length≤10:=by
 by_cases h:nameM op=[]
 ·rw [h];decide
 ·have key:∀ i:Fin 77,(nameM (i.val:Int)).length≤10:=by decide +kernel
  have:0≤op∧op≤76:=by have:=op_valid h;omega
  have:=key ⟨op.toNat,by omega⟩
  rw [show ((op.toNat:Nat):Int)=op from by omega] at this
  exact this
theorem opW_len {op a b v:Int} (o:Ok1 op a b v):(opW a b v (readsM op)).length≤130:=by
 have h3:=reads_len op
 cases h:readsM op with
 | nil=>exact Nat.zero_le _
 | cons k ks =>
  rw [h,List.length_cons] at h3
  have:=tailW_len o ks
  have:=rdW_len o k
  show (32 :: (rdW a b v k ++ tailW a b v ks)).length≤130
  simp only [List.length_append,List.length_cons]
  omega
theorem print_f {op a b v:Int} (hv:nameM op≠[]) (o:Ok1 op a b v) (hc:chkD op a b v=0) (k:Nat):insn_Print.f (k+10) op a b v=some (bS (printW op a b v),0):=by
 unfold insn_Print.f insn_kindOf.f
 rw [check_f _ _ _ _ _ (by omega),Option.bind_some,if_pos hc,Option.bind_some,words_f hv o,Option.bind_some]
 have hn:=name_len op
 have ho:=opW_len o
 unfold printW
 cases h:readsM op with
 | nil =>
  rw [if_neg (by simp)]
  simp [opW]
 | cons k ks =>
  rw [h] at ho
  have ho:(32 :: (rdW a b v k ++ tailW a b v ks)).length≤130:=ho
  rw [List.length_cons] at ho
  rw [if_pos (by simp),if_pos (by simp only [bS_len];omega)]
  unfold strings_Join.f
  have hj:=join_w a b v k ks
  rw [show (⟨#[44,32]⟩:ByteArray).data.toList=[44,32] from rfl,hj]
  have h3:=reads_len op
  rw [h] at h3
  rw [if_pos ⟨by rw [List.length_map];omega,by omega⟩,Option.bind_some]
  have e:(bS (nameM op) ++ (⟨#[32]⟩:ByteArray)) ++ (⟨(rdW a b v k ++ tailW a b v ks).toArray⟩:ByteArray)=bS (nameM op ++ opW a b v (k :: ks)):=by
   show (bS (nameM op) ++ bS [32]) ++ bS (rdW a b v k ++ tailW a b v ks)=_
   rw [bS_app,bS_app]
   simp [opW]
  have hsz:(bS (nameM op) ++ (⟨#[32]⟩:ByteArray)).size=(nameM op).length+1:=by
   rw [b1,bS_app,bS_len,List.length_append];rfl
  simp only
  rw [hsz,if_pos (by rw [show (⟨(rdW a b v k ++ tailW a b v ks).toArray⟩:ByteArray)=bS (rdW a b v k ++ tailW a b v ks) from rfl,bS_len];omega),e]
def lineZ (op a b v:Int) (labels:Bool):L9:=⟨bS (printW op a b v),(printW op a b v).length,labels,op,a,b,v,⟨#[]⟩,false⟩
theorem chk_parts {op a b v:Int} (hc:chkD op a b v=0):nameM op≠[]∧0≤a∧a≤7∧0≤b∧b≤7∧(hasA (formM op)=true∨a=0)∧(hasB (formM op)=true∨b=0)∧fitsM (formM op) v=true:=by
 unfold chkD at hc
 by_cases h:nameM op=[]
 ·rw [if_pos h] at hc;exact absurd hc (by decide)
 ·rw [if_neg h] at hc
  split at hc
  ·exact ⟨h,by assumption⟩
  ·exact absurd hc (by decide)
theorem name_facts {op:Int} (h:nameM op≠[]):opOf (nameM op)=op∧op≠0∧(∀ c∈nameM op,isWd c=true∧c≠10∧c≠58∧c≠59∧c≠46∧isBl c=false):=by
 have key:∀ i:Fin 77,nameM (i.val:Int)≠[]→opOf (nameM (i.val:Int))=(i.val:Int)∧(nameM (i.val:Int)).all (fun c=>isWd c && c != 10 && c != 58 && c != 59 && c != 46 && !isBl c)=true:=by decide +kernel
 have h1:=op_valid h
 have h2:0≤op∧op≤76:=by omega
 have e:((op.toNat:Nat):Int)=op:=by omega
 have:=key ⟨op.toNat,by omega⟩ (by simp only [e];exact h)
 simp only [e] at this
 refine ⟨this.1,by omega,fun c hc=>?_⟩
 have:=List.all_eq_true.1 this.2 c hc
 simpa [and_assoc] using this
theorem upd_fin {op a b v:Int} (hc:chkD op a b v=0) (s:ByteArray) (n:Nat) (labels:Bool):updL a b v (readsM op) ⟨s,n,labels,op,0,0,0,⟨#[]⟩,false⟩=⟨s,n,labels,op,a,b,v,⟨#[]⟩,false⟩:=by
 obtain ⟨hv,-,-,-,-,hA,hB,hF⟩:=chk_parts hc
 rcases op_valid hv with rfl | rfl | rfl | rfl | rfl | rfl | rfl | rfl | rfl | rfl | rfl | rfl | rfl | rfl | rfl | rfl | rfl | rfl | rfl | rfl | rfl | rfl | rfl | rfl | rfl | rfl | rfl | rfl | rfl | rfl | rfl | rfl | rfl | rfl | rfl
 ·have e:formM 1=0:=by decide +kernel
  rw [e] at hA hB hF
  rw [show readsM 1=[] from rfl]
  have za:a=0:=hA.resolve_left (by decide)
  have zb:b=0:=hB.resolve_left (by decide)
  have zv:v=0:=by unfold fitsM at hF;simpa [bytesM] using hF
  subst za zb zv
  rfl
 ·have e:formM 2=1:=by decide +kernel
  rw [e] at hA hB hF
  rw [show readsM 2=[Rd.a,Rd.b] from rfl]
  have zv:v=0:=by unfold fitsM at hF;simpa [bytesM] using hF
  subst zv
  rfl
 ·have e:formM 3=3:=by decide +kernel
  rw [e] at hA hB hF
  rw [show readsM 3=[Rd.a,Rd.num] from rfl]
  have zb:b=0:=hB.resolve_left (by decide)
  subst zb
  rfl
 ·have e:formM 4=4:=by decide +kernel
  rw [e] at hA hB hF
  rw [show readsM 4=[Rd.a,Rd.num] from rfl]
  have zb:b=0:=hB.resolve_left (by decide)
  subst zb
  rfl
 ·have e:formM 5=1:=by decide +kernel
  rw [e] at hA hB hF
  rw [show readsM 5=[Rd.a,Rd.b] from rfl]
  have zv:v=0:=by unfold fitsM at hF;simpa [bytesM] using hF
  subst zv
  rfl
 ·have e:formM 6=1:=by decide +kernel
  rw [e] at hA hB hF
  rw [show readsM 6=[Rd.a,Rd.b] from rfl]
  have zv:v=0:=by unfold fitsM at hF;simpa [bytesM] using hF
  subst zv
  rfl
 ·have e:formM 7=1:=by decide +kernel
  rw [e] at hA hB hF
  rw [show readsM 7=[Rd.a,Rd.b] from rfl]
  have zv:v=0:=by unfold fitsM at hF;simpa [bytesM] using hF
  subst zv
  rfl
 ·have e:formM 8=1:=by decide +kernel
  rw [e] at hA hB hF
  rw [show readsM 8=[Rd.a,Rd.b] from rfl]
  have zv:v=0:=by unfold fitsM at hF;simpa [bytesM] using hF
  subst zv
  rfl
 ·have e:formM 9=1:=by decide +kernel
  rw [e] at hA hB hF
  rw [show readsM 9=[Rd.a,Rd.b] from rfl]
  have zv:v=0:=by unfold fitsM at hF;simpa [bytesM] using hF
  subst zv
  rfl
 ·have e:formM 10=1:=by decide +kernel
  rw [e] at hA hB hF
  rw [show readsM 10=[Rd.a,Rd.b] from rfl]
  have zv:v=0:=by unfold fitsM at hF;simpa [bytesM] using hF
  subst zv
  rfl
 ·have e:formM 11=1:=by decide +kernel
  rw [e] at hA hB hF
  rw [show readsM 11=[Rd.a,Rd.b] from rfl]
  have zv:v=0:=by unfold fitsM at hF;simpa [bytesM] using hF
  subst zv
  rfl
 ·have e:formM 12=1:=by decide +kernel
  rw [e] at hA hB hF
  rw [show readsM 12=[Rd.a,Rd.b] from rfl]
  have zv:v=0:=by unfold fitsM at hF;simpa [bytesM] using hF
  subst zv
  rfl
 ·have e:formM 13=1:=by decide +kernel
  rw [e] at hA hB hF
  rw [show readsM 13=[Rd.a,Rd.b] from rfl]
  have zv:v=0:=by unfold fitsM at hF;simpa [bytesM] using hF
  subst zv
  rfl
 ·have e:formM 14=1:=by decide +kernel
  rw [e] at hA hB hF
  rw [show readsM 14=[Rd.a,Rd.b] from rfl]
  have zv:v=0:=by unfold fitsM at hF;simpa [bytesM] using hF
  subst zv
  rfl
 ·have e:formM 15=1:=by decide +kernel
  rw [e] at hA hB hF
  rw [show readsM 15=[Rd.a,Rd.b] from rfl]
  have zv:v=0:=by unfold fitsM at hF;simpa [bytesM] using hF
  subst zv
  rfl
 ·have e:formM 16=4:=by decide +kernel
  rw [e] at hA hB hF
  rw [show readsM 16=[Rd.a,Rd.num] from rfl]
  have zb:b=0:=hB.resolve_left (by decide)
  subst zb
  rfl
 ·have e:formM 17=5:=by decide +kernel
  rw [e] at hA hB hF
  rw [show readsM 17=[Rd.a,Rd.addr] from rfl]
  rfl
 ·have e:formM 18=5:=by decide +kernel
  rw [e] at hA hB hF
  rw [show readsM 18=[Rd.a,Rd.addr] from rfl]
  rfl
 ·have e:formM 19=5:=by decide +kernel
  rw [e] at hA hB hF
  rw [show readsM 19=[Rd.addr,Rd.a] from rfl]
  rfl
 ·have e:formM 20=5:=by decide +kernel
  rw [e] at hA hB hF
  rw [show readsM 20=[Rd.addr,Rd.a] from rfl]
  rfl
 ·have e:formM 21=5:=by decide +kernel
  rw [e] at hA hB hF
  rw [show readsM 21=[Rd.a,Rd.b,Rd.target] from rfl]
  rfl
 ·have e:formM 22=5:=by decide +kernel
  rw [e] at hA hB hF
  rw [show readsM 22=[Rd.a,Rd.b,Rd.target] from rfl]
  rfl
 ·have e:formM 23=5:=by decide +kernel
  rw [e] at hA hB hF
  rw [show readsM 23=[Rd.a,Rd.b,Rd.target] from rfl]
  rfl
 ·have e:formM 24=5:=by decide +kernel
  rw [e] at hA hB hF
  rw [show readsM 24=[Rd.a,Rd.b,Rd.target] from rfl]
  rfl
 ·have e:formM 25=6:=by decide +kernel
  rw [e] at hA hB hF
  rw [show readsM 25=[Rd.target] from rfl]
  have za:a=0:=hA.resolve_left (by decide)
  have zb:b=0:=hB.resolve_left (by decide)
  subst za zb
  rfl
 ·have e:formM 26=2:=by decide +kernel
  rw [e] at hA hB hF
  rw [show readsM 26=[Rd.a] from rfl]
  have zb:b=0:=hB.resolve_left (by decide)
  have zv:v=0:=by unfold fitsM at hF;simpa [bytesM] using hF
  subst zb zv
  rfl
 ·have e:formM 27=6:=by decide +kernel
  rw [e] at hA hB hF
  rw [show readsM 27=[Rd.target] from rfl]
  have za:a=0:=hA.resolve_left (by decide)
  have zb:b=0:=hB.resolve_left (by decide)
  subst za zb
  rfl
 ·have e:formM 28=2:=by decide +kernel
  rw [e] at hA hB hF
  rw [show readsM 28=[Rd.a] from rfl]
  have zb:b=0:=hB.resolve_left (by decide)
  have zv:v=0:=by unfold fitsM at hF;simpa [bytesM] using hF
  subst zb zv
  rfl
 ·have e:formM 29=0:=by decide +kernel
  rw [e] at hA hB hF
  rw [show readsM 29=[] from rfl]
  have za:a=0:=hA.resolve_left (by decide)
  have zb:b=0:=hB.resolve_left (by decide)
  have zv:v=0:=by unfold fitsM at hF;simpa [bytesM] using hF
  subst za zb zv
  rfl
 ·have e:formM 30=2:=by decide +kernel
  rw [e] at hA hB hF
  rw [show readsM 30=[Rd.a] from rfl]
  have zb:b=0:=hB.resolve_left (by decide)
  have zv:v=0:=by unfold fitsM at hF;simpa [bytesM] using hF
  subst zb zv
  rfl
 ·have e:formM 31=2:=by decide +kernel
  rw [e] at hA hB hF
  rw [show readsM 31=[Rd.a] from rfl]
  have zb:b=0:=hB.resolve_left (by decide)
  have zv:v=0:=by unfold fitsM at hF;simpa [bytesM] using hF
  subst zb zv
  rfl
 ·have e:formM 32=7:=by decide +kernel
  rw [e] at hA hB hF
  rw [show readsM 32=[Rd.a,Rd.target] from rfl]
  have zb:b=0:=hB.resolve_left (by decide)
  subst zb
  rfl
 ·have e:formM 33=8:=by decide +kernel
  rw [e] at hA hB hF
  rw [show readsM 33=[Rd.num] from rfl]
  have za:a=0:=hA.resolve_left (by decide)
  have zb:b=0:=hB.resolve_left (by decide)
  subst za zb
  rfl
 ·have e:formM 34=1:=by decide +kernel
  rw [e] at hA hB hF
  rw [show readsM 34=[Rd.a,Rd.mem] from rfl]
  have zv:v=0:=by unfold fitsM at hF;simpa [bytesM] using hF
  subst zv
  rfl
 ·have e:formM 76=0:=by decide +kernel
  rw [e] at hA hB hF
  rw [show readsM 76=[] from rfl]
  have za:a=0:=hA.resolve_left (by decide)
  have zb:b=0:=hB.resolve_left (by decide)
  have zv:v=0:=by unfold fitsM at hF;simpa [bytesM] using hF
  subst za zb zv
  rfl
theorem opW_tl (a b v:Int) (ks:List Rd):∀ c t',opW a b v ks=c :: t'→isWd c=false:=by
 intro c t' e
 cases ks with
 | nil=>cases e
 | cons k ks =>
  unfold opW at e
  rw [← (List.cons.inj e).1];decide
theorem ok1_of {op a b v:Int} (hc:chkD op a b v=0) (h0:-9223372036854775808≤v) (h1:v≤9223372036854775807):Ok1 op a b v:=by
 obtain ⟨_,h2,h3,h4,h5,_,_,h6⟩:=chk_parts hc
 exact ⟨h2,h3,h4,h5,h0,h1,h6⟩
theorem new_sk {op a b v:Int} (hv:nameM op≠[]) (labels:Bool):(L9.new (bS (printW op a b v)) labels).sk=L9.new (bS (printW op a b v)) labels:=by
 have h:Cur (L9.new (bS (printW op a b v)) labels) (printW op a b v):=⟨toS _,Nat.zero_le _⟩
 refine h.sk0 fun c t' e=>?_
 unfold printW at e
 cases hn:nameM op with
 | nil=>exact absurd hn hv
 | cons d r =>
  rw [hn,List.cons_append] at e
  rw [← (List.cons.inj e).1]
  exact ((name_facts hv).2.2 d (by rw [hn];exact List.mem_cons_self)).2.2.2.2.2
theorem instr_ok {op a b v:Int} (hc:chkD op a b v=0) (h0:-9223372036854775808≤v) (h1:v≤9223372036854775807) (labels:Bool):(L9.new (bS (printW op a b v)) labels).instr=some (lineZ op a b v labels):=by
 have hv:=(chk_parts hc).1
 have o:=ok1_of hc h0 h1
 obtain ⟨n1,n2,n3⟩:=name_facts hv
 have h:Cur (L9.new (bS (printW op a b v)) labels) (nameM op ++ opW a b v (readsM op)):=⟨toS _,Nat.zero_le _⟩
 have hr:=h.run isWd (fun c hc=>(n3 c hc).1) (opW_tl a b v _)
 have hw:=h.word
 unfold L9.instr
 rw [new_sk hv]
 have hE:(L9.new (bS (printW op a b v)) labels).mnE=0+(nameM op).length:=hr
 have hS:(L9.new (bS (printW op a b v)) labels).mnS.data.toList=nameM op:=by unfold L9.mnS;rw [hE];exact hw
 have hmn:(L9.new (bS (printW op a b v)) labels).mn=⟨bS (printW op a b v),0+(nameM op).length,labels,op,0,0,0,⟨#[]⟩,false⟩:=by
  unfold L9.mn
  rw [hS,hE,n1]
  rfl
 rw [hmn]
 rw [if_neg n2]
 have hcur:Cur ⟨bS (printW op a b v),0+(nameM op).length,labels,op,0,0,0,⟨#[]⟩,false⟩ (opW a b v (readsM op)):=h.adv.set rfl rfl
 have hlen:=hcur.len
 have hlen:0+(nameM op).length+(opW a b v (readsM op)).length=(printW op a b v).length:=by rw [← bS_len (printW op a b v)];exact hlen
 have hpart:L9.part 0 (readsM op) ⟨bS (printW op a b v),0+(nameM op).length,labels,op,0,0,0,⟨#[]⟩,false⟩=some (lineZ op a b v labels):=by
  have hu:=upd_fin hc (bS (printW op a b v)) (0+(nameM op).length) labels
  cases hk:readsM op with
  | nil =>
   rw [hk] at hu hlen
   have hu:(⟨bS (printW op a b v),0+(nameM op).length,labels,op,0,0,0,⟨#[]⟩,false⟩:L9)=_:=hu
   have hlen:0+(nameM op).length+0=(printW op a b v).length:=hlen
   unfold L9.part
   rw [hu]
   unfold lineZ
   rw [← hlen]
   rfl
  | cons k ks =>
   rw [hk] at hu hlen hcur
   have hcur:Cur ⟨bS (printW op a b v),0+(nameM op).length,labels,op,0,0,0,⟨#[]⟩,false⟩ (32 :: (rdW a b v k ++ tailW a b v ks)):=hcur
   obtain ⟨s1,s2⟩:=hcur.sk1 (rdW_bl a b v k _)
   unfold L9.part
   simp only
   rw [s1,s2,if_pos rfl]
   have h2:=hcur.mv1
   rw [run_ok (op:=op) k o rfl (fun _=>rfl) h2 (tailW_tl a b v ks)]
   simp only
   have u:=upd_s a b v k (mv (mv ⟨bS (printW op a b v),0+(nameM op).length,labels,op,0,0,0,⟨#[]⟩,false⟩ 1) (rdW a b v k).length)
   have h4:=h2.adv.set u.1 u.2.1
   rw [rest_ok o ks _ (u.2.2.1.trans rfl) (u.2.2.2 (fun _=>rfl)) h4,u.2.1]
   congr 1
   show (updL a b v ks (upd a b v k (L9.go ⟨bS (printW op a b v),0+(nameM op).length,labels,op,0,0,0,⟨#[]⟩,false⟩ _))).go _=_
   rw [upd_go,updL_go]
   have hu:updL a b v ks (upd a b v k ⟨bS (printW op a b v),0+(nameM op).length,labels,op,0,0,0,⟨#[]⟩,false⟩)=_:=hu
   rw [hu]
   unfold lineZ
   have hlen:0+(nameM op).length+(32 :: (rdW a b v k ++ tailW a b v ks)).length=(printW op a b v).length:=hlen
   rw [List.length_cons,List.length_append] at hlen
   show L9.mk _ _ _ _ _ _ _ _ _=L9.mk _ _ _ _ _ _ _ _ _
   congr 1
   show 0+(nameM op).length+1+(rdW a b v k).length+(tailW a b v ks).length=_
   omega
 rw [hpart]
 simp only
 have hend:Cur (lineZ op a b v labels) []:=⟨by
  show (bS (printW op a b v)).data.toList.drop (printW op a b v).length=[]
  rw [toS,List.drop_length],by show (printW op a b v).length≤(bS (printW op a b v)).size;rw [bS_len];exact Nat.le_refl _⟩
 unfold L9.fin
 rw [hend.sk0 (fun c t' e=>by cases e)]
 exact if_pos (by show (printW op a b v).length=(bS (printW op a b v)).size;rw [bS_len])
def gd (c:UInt8):Bool:=c != 10 && c != 58 && c != 59
theorem num_gd (v:Int):∀ c∈numW v,gd c=true:=by
 have key:∀ c:UInt8,isDig c=true→gd c=true:=u8_all _ (by decide +kernel)
 intro c hc
 by_cases hn:v < 0
 ·rw [num_neg hn] at hc
  rcases List.mem_cons.1 hc with rfl | hc
  ·decide
  ·exact key c (dec_dig _ _ (Nat.le_refl _) c hc)
 ·rw [num_pos hn] at hc
  exact key c (dec_dig _ _ (Nat.le_refl _) c hc)
theorem reg_gd {x:Int} (h0:0≤x) (h7:x≤7):∀ c∈regW x,gd c=true:=by
 have key:∀ x:Fin 8,([114,UInt8.ofNat (48+x.val)]:List UInt8).all gd=true:=by decide
 exact List.all_eq_true.1 (key ⟨x.toNat,by omega⟩)
theorem rdW_gd {op a b v:Int} (o:Ok1 op a b v) (k:Rd):∀ c∈rdW a b v k,gd c=true:=by
 intro c hc
 cases k with
 | a=>exact reg_gd o.a0 o.a7 c hc
 | b=>exact reg_gd o.b0 o.b7 c hc
 | num=>exact num_gd v c hc
 | mem =>
  have hc:c∈91 :: (regW b ++ [93]):=hc
  simp only [List.mem_cons,List.mem_append,List.not_mem_nil,or_false] at hc
  rcases hc with rfl | hc | rfl
  ·decide
  ·exact reg_gd o.b0 o.b7 c hc
  ·decide
 | addr =>
  have hc:c∈91 :: (regW b ++ ((if v > 0 then 43 :: numW v else if v < 0 then numW v else []) ++ [93])):=hc
  simp only [List.mem_cons,List.mem_append,List.not_mem_nil,or_false] at hc
  rcases hc with rfl | hc | hc | rfl
  ·decide
  ·exact reg_gd o.b0 o.b7 c hc
  ·by_cases hp:v > 0
   ·rw [if_pos hp] at hc
    rcases List.mem_cons.1 hc with rfl | hc
    ·decide
    ·exact num_gd v c hc
   ·rw [if_neg hp] at hc
    by_cases hn:v < 0
    ·rw [if_pos hn] at hc;exact num_gd v c hc
    ·rw [if_neg hn] at hc;exact absurd hc List.not_mem_nil
  ·decide
 | target =>
  have hc:c∈distW v:=hc
  unfold distW at hc
  by_cases hn:v < 0
  ·rw [if_pos hn] at hc
   rcases List.mem_cons.1 hc with rfl | hc
   ·decide
   ·exact num_gd v c hc
  ·rw [if_neg hn] at hc
   rcases List.mem_cons.1 hc with rfl | hc
   ·decide
   ·rcases List.mem_cons.1 hc with rfl | hc
    ·decide
    ·exact num_gd v c hc
theorem print_gd {op a b v:Int} (hv:nameM op≠[]) (o:Ok1 op a b v):∀ c∈printW op a b v,gd c=true:=by
 intro c hc
 unfold printW at hc
 rcases List.mem_append.1 hc with hc | hc
 ·obtain ⟨_,h1,h2,h3,_,_⟩:=(name_facts hv).2.2 c hc
  unfold gd
  simp [h1,h2,h3]
 ·cases hk:readsM op with
  | nil=>rw [hk] at hc;cases hc
  | cons k ks =>
   rw [hk] at hc
   have hc:c∈32 :: (rdW a b v k ++ tailW a b v ks):=hc
   rcases List.mem_cons.1 hc with rfl | hc
   ·decide
   ·rcases List.mem_append.1 hc with hc | hc
    ·exact rdW_gd o k c hc
    ·unfold tailW at hc
     obtain ⟨r,hr,hc⟩:=List.mem_flatMap.1 hc
     rcases List.mem_cons.1 hc with rfl | hc
     ·decide
     ·rcases List.mem_cons.1 hc with rfl | hc
      ·decide
      ·exact rdW_gd o r c hc
theorem no_byte {l:List UInt8} (h:∀ c∈l,gd c=true) (d:UInt8) (hd:gd d=false):∀ k:Nat,l[k]?≠some d:=by
 intro k e
 have:=h d (List.mem_of_getElem? e)
 rw [hd] at this
 cases this
theorem pieces_one {s:ByteArray} (h:∀ k:Nat,s.data.toList[k]?≠some 10):pieces s=[s]:=by
 refine ba_inj ?_
 rw [pieces_spl _ _ (Nat.le_refl _),spl_miss _ h]
 rfl
theorem cutZ_id {s:ByteArray} (h:∀ k:Nat,s.data.toList[k]?≠some 59):cutZ s=s:=by
 have hi:Lib.index s.data.toList [59]=-1:=by
  rw [Lib.index_one]
  have h1:=Lib.indexByte_ge s.data.toList 59
  by_cases h2:Lib.indexByte s.data.toList 59=-1
  ·exact h2
  ·obtain ⟨o,ho⟩:∃ o:Nat,Lib.indexByte s.data.toList 59=(o:Int):=⟨(Lib.indexByte s.data.toList 59).toNat,by omega⟩
   exact absurd (Lib.indexByte_some ho).1 (h o)
 unfold cutZ Lib.cut
 rw [hi,if_neg (by decide)]
theorem row_first (z:Az) (no:Nat) {s:ByteArray} (h58:∀ k:Nat,s.data.toList[k]?≠some 58) (h46:s.data.toList[0]?≠some 46) (hsk:(L9.new s true).sk=L9.new s true) (hne:s.size≠0) :
  z.row no s=match (L9.new s true).instr with | none=>.error 22 | some li=>Az.push { z with no:=no } li:=by
 have hnm:(L9.new s true).nm=(⟨#[]⟩,L9.new s true):=by
  unfold L9.nm
  rw [hsk]
  by_cases h1:nameB (L9.new s true).wdS=true
  ·rw [if_pos h1]
   by_cases h2:(L9.new s true).wdL.sk.hit 58=true
   ·exact absurd (hit_get (by decide) h2) (h58 _)
   ·rw [if_neg h2]
  ·rw [if_neg h1]
 have hpre:(L9.new s true).pre=false:=by
  cases hp:(L9.new s true).pre with
  | false=>rfl
  | true =>
   unfold L9.pre Lib.hasPrefix at hp
   rw [List.isPrefixOf_iff_prefix] at hp
   obtain ⟨r,hr⟩:=hp
   rw [Q.ext_toL] at hr
   have h1:(funcL ++ r)[0]?=some 46:=rfl
   rw [hr,List.getElem?_take] at h1
   split at h1
   ·rw [List.getElem?_drop] at h1;exact absurd h1 h46
   ·cases h1
 have hd:(L9.new s true).dir=some (none,L9.new s true):=by
  unfold L9.dir
  rw [if_neg (by rw [hpre];decide)]
 unfold Az.row
 simp only [hnm]
 rw [if_pos (show (⟨#[]⟩:ByteArray).size=0 from rfl),hsk,hd]
 simp only
 unfold Az.rest
 rw [if_neg (show ¬ (L9.new s true).at_=(L9.new s true).s.size from fun e=>hne e.symm)]
 cases (L9.new s true).instr with
 | none=>rfl
 | some li =>
  simp only
  unfold Az.def_
  rw [if_pos (show (⟨#[]⟩:ByteArray).size=0 from rfl)]
theorem asm_one {op a b v:Int} (hc:chkD op a b v=0) (h0:-9223372036854775808≤v) (h1:v≤9223372036854775807) :
  ∃ z:Az,asmZ (bS (printW op a b v))=.ok (encI op a b v,z)∧z.funcs=[]:=by
 have hv:=(chk_parts hc).1
 have o:=ok1_of hc h0 h1
 have hg:=print_gd hv o
 have hg2:∀ d:UInt8,gd d=false→∀ k:Nat,(bS (printW op a b v)).data.toList[k]?≠some d:=fun d hd k=>by rw [toS];exact no_byte hg d hd k
 have h46:(bS (printW op a b v)).data.toList[0]?≠some 46:=by
  rw [toS]
  unfold printW
  cases hn:nameM op with
  | nil=>exact absurd hn hv
  | cons d r =>
   intro e
   have e:some d=some 46:=e
   exact ((name_facts hv).2.2 d (by rw [hn];exact List.mem_cons_self)).2.2.2.2.1 (Option.some.inj e)
 have hne:(bS (printW op a b v)).size≠0:=by
  rw [bS_len]
  unfold printW
  cases hn:nameM op with
  | nil=>exact absurd hn hv
  | cons d r=>simp
 have hb:=lenM_bd (formM op)
 unfold asmZ asmR
 rw [pieces_one (hg2 10 rfl),List.map_cons,List.map_nil,cutZ_id (hg2 59 rfl),rowsZ,row_first _ _ (hg2 58 rfl) h46 (new_sk hv true) hne,instr_ok hc h0 h1 true]
 simp only
 unfold Az.push
 rw [if_neg (show ¬ 2048 < z00.size+lenM (formM (lineZ op a b v true).op) by show ¬ 2048 < 0+lenM (formM op);omega)]
 simp only [rowsZ]
 have hcode:codeZ [] [⟨lineZ op a b v true,1,0⟩] []=.ok ([] ++ ([(⟨lineZ op a b v true,1,0⟩:En)].map En.l).flatMap encE):=code_all _ _ (fun x hx=>by
  simp only [List.map_cons,List.map_nil,List.mem_singleton] at hx
  rw [hx]
  exact ⟨rfl,rfl⟩)
 have hcode:codeZ z00.labels (z00.list ++ [⟨lineZ op a b v true,1,z00.size⟩]) []=_:=hcode
 rw [hcode]
 refine ⟨⟨1,z00.size+lenM (formM op),z00.list ++ [⟨lineZ op a b v true,1,z00.size⟩],z00.labels,z00.funcs⟩,?_,rfl⟩
 simp [encE,lineZ]
theorem parse_ok {op a b v:Int} (hc:chkD op a b v=0) (h0:-9223372036854775808≤v) (h1:v≤9223372036854775807):parseR (bS (printW op a b v))=(op,a,b,v,0):=by
 have o:=ok1_of hc h0 h1
 have hl:(printW op a b v).length≤140:=by
  unfold printW
  rw [List.length_append]
  have:=name_len op
  have:=opW_len o
  omega
 unfold parseR
 rw [if_neg (by rw [bS_len];omega),instr_ok hc h0 h1 false]
 simp only
 rw [if_neg (by show ¬ false=true;decide)]
 rfl
theorem InsnLines_pure (op a b v:Int) (h0:-9223372036854775808≤v) (h1:v≤9223372036854775807):lzInsnLines.f 300 op a b v=some true:=by
 unfold lzInsnLines.f
 rw [sane_true 200,Option.bind_some]
 by_cases hc:chkD op a b v=0
 ·have hv:=(chk_parts hc).1
  have o:=ok1_of hc h0 h1
  have hl:(printW op a b v).length≤140:=by
   unfold printW
   rw [List.length_append]
   have:=name_len op
   have:=opW_len o
   omega
  obtain ⟨z,hz,hzf⟩:=asm_one hc h0 h1
  rw [print_f hv o hc 290,Option.bind_some]
  unfold insn_Parse.f insn_Assemble.f
  simp only
  rw [if_pos trivial,parse_ok hc h0 h1,asmOut_at,if_neg (by rw [bS_len];omega),hz,encode_f op a b v 280,if_pos hc]
  unfold asmFin
  simp only [Option.bind_some,hzf,symsZ]
  simp [same_self2]
 ·have hp:insn_Print.f 300 op a b v=some (⟨#[]⟩,chkD op a b v):=by
   unfold insn_Print.f
   rw [check_f _ _ _ _ _ (by omega),Option.bind_some,if_neg hc]
  rw [hp,Option.bind_some]
  simp only
  rw [if_neg hc,if_pos trivial,check_f _ _ _ _ _ (by omega),Option.bind_some]
  simp
theorem wf64b {n:Int} (h:(Lit.int .i64 n).wf=true):-9223372036854775808≤n∧n≤9223372036854775807:=by
 have m1:IntKind.i64.min=-9223372036854775808:=by decide
 have m2:IntKind.i64.max=9223372036854775807:=by decide
 simp [Lit.wf,m1,m2] at h
 omega
theorem lines_any (a b c e:Int) (wa:(Lit.int .i64 a).wf=true) (wb:(Lit.int .i64 b).wf=true) (wc:(Lit.int .i64 c).wf=true) (we:(Lit.int .i64 e).wf=true) (w:World) (hgw:GW w) :
  Calls Tryz.prog 9 #[.agg #[.int .i64 a,.int .i64 b,.int .i64 c,.int .i64 e]] w fun x w'=>x=.returned (.bool true)∧Below w.heap.size w w' :=
 lzInsnLines.calls 300 a b c e true w (InsnLines_pure a b c e (wf64b we).1 (wf64b we).2) hgw
end Go.Proofs.YtffojmgmpfjlhaaGreatDoor.Q
