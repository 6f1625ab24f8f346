/- InsnChecks: Check, Len, Target, Relative, Reads and Writes return what the specification returns: the law returns true for every input; the inputs read as they did; the package-level variables hold what the program's text lays in them: the tied card. -/
import Derived.Test.YtffojmgmpfjlhaaGreatDoorInsnChecksZ8
import Derived.Test.YtffojmgmpfjlhaaGreatDoorTie
import Derived.Test.YtffojmgmpfjlhaaGreatDoorCards
import Derived.WalkKit
import Derived.ProofKit
import Derived.OpenShut
import Derived.ShutString
import Derived.ChangeOld
import Derived.Below
import Derived.SizedLaws
import Derived.SevenTiedAt
set_option linter.unusedVariables false
set_option linter.unusedSimpArgs false
namespace Go.Proofs.YtffojmgmpfjlhaaGreatDoor.Q
open Go.Proofs.Ix hiding rd
open Go.Proofs.YtffojmgmpfjlhaaGreatDoor Go.RowKit Go.Proofs.YtffojmgmpfjlhaaGreatDoorW.PrintWords Go.Proofs.YtffojmgmpfjlhaaGreatDoorW.PrintLast Go.Proofs.YtffojmgmpfjlhaaGreatDoorW.PrintMore
theorem ps1 (a:Int) (k:Nat):insn_set.f (k+200) [a]=some (setL [a]):=pset_f _ (by simp) _ (by omega)
theorem ps2 (a b:Int) (k:Nat):insn_set.f (k+200) [a,b]=some (setL [a,b]):=pset_f _ (by simp) _ (by omega)
theorem rs1 (a:Int) (k:Nat):rzset.f (k+200) [a]=some (setL [a]):=rset_f _ (by simp) _ (by omega)
theorem rs2 (a b:Int) (k:Nat):rzset.f (k+200) [a,b]=some (setL [a,b]):=rset_f _ (by simp) _ (by omega)
theorem ck (op a b imm:Int) (k:Nat):insn_Check.f (k+100) op a b imm=some (chkD op a b imm):=check_f _ _ _ _ _ (by omega)
theorem rck (op a b imm:Int) (k:Nat):rzCheck.f (k+100) op a b imm=some (chkD op a b imm):=rcheck_f _ _ _ _ _ (by omega)
theorem form_1 (k:Nat):rzForm.f (k+12) 1=some 1:=leO_up (rzForm.mono 1) (by decide +kernel) k
theorem form_2 (k:Nat):rzForm.f (k+12) 2=some 2:=leO_up (rzForm.mono 2) (by decide +kernel) k
theorem form_3 (k:Nat):rzForm.f (k+12) 3=some 3:=leO_up (rzForm.mono 3) (by decide +kernel) k
theorem form_4 (k:Nat):rzForm.f (k+12) 4=some 4:=leO_up (rzForm.mono 4) (by decide +kernel) k
theorem form_5 (k:Nat):rzForm.f (k+12) 5=some 2:=leO_up (rzForm.mono 5) (by decide +kernel) k
theorem form_6 (k:Nat):rzForm.f (k+12) 6=some 2:=leO_up (rzForm.mono 6) (by decide +kernel) k
theorem form_7 (k:Nat):rzForm.f (k+12) 7=some 2:=leO_up (rzForm.mono 7) (by decide +kernel) k
theorem form_8 (k:Nat):rzForm.f (k+12) 8=some 2:=leO_up (rzForm.mono 8) (by decide +kernel) k
theorem form_9 (k:Nat):rzForm.f (k+12) 9=some 2:=leO_up (rzForm.mono 9) (by decide +kernel) k
theorem form_10 (k:Nat):rzForm.f (k+12) 10=some 2:=leO_up (rzForm.mono 10) (by decide +kernel) k
theorem form_11 (k:Nat):rzForm.f (k+12) 11=some 2:=leO_up (rzForm.mono 11) (by decide +kernel) k
theorem form_12 (k:Nat):rzForm.f (k+12) 12=some 2:=leO_up (rzForm.mono 12) (by decide +kernel) k
theorem form_13 (k:Nat):rzForm.f (k+12) 13=some 2:=leO_up (rzForm.mono 13) (by decide +kernel) k
theorem form_14 (k:Nat):rzForm.f (k+12) 14=some 2:=leO_up (rzForm.mono 14) (by decide +kernel) k
theorem form_15 (k:Nat):rzForm.f (k+12) 15=some 2:=leO_up (rzForm.mono 15) (by decide +kernel) k
theorem form_16 (k:Nat):rzForm.f (k+12) 16=some 4:=leO_up (rzForm.mono 16) (by decide +kernel) k
theorem form_17 (k:Nat):rzForm.f (k+12) 17=some 5:=leO_up (rzForm.mono 17) (by decide +kernel) k
theorem form_18 (k:Nat):rzForm.f (k+12) 18=some 5:=leO_up (rzForm.mono 18) (by decide +kernel) k
theorem form_19 (k:Nat):rzForm.f (k+12) 19=some 5:=leO_up (rzForm.mono 19) (by decide +kernel) k
theorem form_20 (k:Nat):rzForm.f (k+12) 20=some 5:=leO_up (rzForm.mono 20) (by decide +kernel) k
theorem form_21 (k:Nat):rzForm.f (k+12) 21=some 6:=leO_up (rzForm.mono 21) (by decide +kernel) k
theorem form_22 (k:Nat):rzForm.f (k+12) 22=some 6:=leO_up (rzForm.mono 22) (by decide +kernel) k
theorem form_23 (k:Nat):rzForm.f (k+12) 23=some 6:=leO_up (rzForm.mono 23) (by decide +kernel) k
theorem form_24 (k:Nat):rzForm.f (k+12) 24=some 6:=leO_up (rzForm.mono 24) (by decide +kernel) k
theorem form_25 (k:Nat):rzForm.f (k+12) 25=some 7:=leO_up (rzForm.mono 25) (by decide +kernel) k
theorem form_26 (k:Nat):rzForm.f (k+12) 26=some 8:=leO_up (rzForm.mono 26) (by decide +kernel) k
theorem form_27 (k:Nat):rzForm.f (k+12) 27=some 7:=leO_up (rzForm.mono 27) (by decide +kernel) k
theorem form_28 (k:Nat):rzForm.f (k+12) 28=some 8:=leO_up (rzForm.mono 28) (by decide +kernel) k
theorem form_29 (k:Nat):rzForm.f (k+12) 29=some 1:=leO_up (rzForm.mono 29) (by decide +kernel) k
theorem form_30 (k:Nat):rzForm.f (k+12) 30=some 8:=leO_up (rzForm.mono 30) (by decide +kernel) k
theorem form_31 (k:Nat):rzForm.f (k+12) 31=some 8:=leO_up (rzForm.mono 31) (by decide +kernel) k
theorem form_32 (k:Nat):rzForm.f (k+12) 32=some 9:=leO_up (rzForm.mono 32) (by decide +kernel) k
theorem form_33 (k:Nat):rzForm.f (k+12) 33=some 10:=leO_up (rzForm.mono 33) (by decide +kernel) k
theorem form_34 (k:Nat):rzForm.f (k+12) 34=some 11:=leO_up (rzForm.mono 34) (by decide +kernel) k
theorem form_76 (k:Nat):rzForm.f (k+12) 76=some 1:=leO_up (rzForm.mono 76) (by decide +kernel) k
theorem reads_1 (a b imm:Int) (k:Nat) (hc:chkD 1 a b imm=0):insn_Reads.f (k+400) 1 a b imm=some ([])∧rzReads.f (k+400) 1 a b imm=some ([]):=by
 constructor
 ·simp [insn_Reads.f,insn_Reads.j0,insn_Reads.j1,insn_Reads.j2,insn_Reads.j3,insn_Reads.j4,ck,hc,ps1,ps2]
 ·simp [rzReads.f,rzReads.j0,rzReads.j1,rzReads.j2,rzReads.j3,rck,hc,rs1,rs2,form_1]
theorem writes_1 (a b imm:Int) (k:Nat) (hc:chkD 1 a b imm=0):insn_Writes.f (k+400) 1 a b imm=some ([])∧rzWrites.f (k+400) 1 a b imm=some ([]):=by
 constructor
 ·simp [insn_Writes.f,insn_Writes.j0,insn_Writes.j1,ck,hc,ps1,ps2]
 ·simp [rzWrites.f,rzWrites.j0,rck,hc,rs1,rs2,form_1]
theorem reads_2 (a b imm:Int) (k:Nat) (hc:chkD 2 a b imm=0):insn_Reads.f (k+400) 2 a b imm=some (setL [b])∧rzReads.f (k+400) 2 a b imm=some (setL [b]):=by
 constructor
 ·simp [insn_Reads.f,insn_Reads.j0,insn_Reads.j1,insn_Reads.j2,insn_Reads.j3,insn_Reads.j4,ck,hc,ps1,ps2]
 ·simp [rzReads.f,rzReads.j0,rzReads.j1,rzReads.j2,rzReads.j3,rck,hc,rs1,rs2,form_2]
theorem writes_2 (a b imm:Int) (k:Nat) (hc:chkD 2 a b imm=0):insn_Writes.f (k+400) 2 a b imm=some (setL [a])∧rzWrites.f (k+400) 2 a b imm=some (setL [a]):=by
 constructor
 ·simp [insn_Writes.f,insn_Writes.j0,insn_Writes.j1,ck,hc,ps1,ps2]
 ·simp [rzWrites.f,rzWrites.j0,rck,hc,rs1,rs2,form_2]
theorem reads_3 (a b imm:Int) (k:Nat) (hc:chkD 3 a b imm=0):insn_Reads.f (k+400) 3 a b imm=some ([])∧rzReads.f (k+400) 3 a b imm=some ([]):=by
 constructor
 ·simp [insn_Reads.f,insn_Reads.j0,insn_Reads.j1,insn_Reads.j2,insn_Reads.j3,insn_Reads.j4,ck,hc,ps1,ps2]
 ·simp [rzReads.f,rzReads.j0,rzReads.j1,rzReads.j2,rzReads.j3,rck,hc,rs1,rs2,form_3]
theorem writes_3 (a b imm:Int) (k:Nat) (hc:chkD 3 a b imm=0):insn_Writes.f (k+400) 3 a b imm=some (setL [a])∧rzWrites.f (k+400) 3 a b imm=some (setL [a]):=by
 constructor
 ·simp [insn_Writes.f,insn_Writes.j0,insn_Writes.j1,ck,hc,ps1,ps2]
 ·simp [rzWrites.f,rzWrites.j0,rck,hc,rs1,rs2,form_3]
theorem reads_4 (a b imm:Int) (k:Nat) (hc:chkD 4 a b imm=0):insn_Reads.f (k+400) 4 a b imm=some ([])∧rzReads.f (k+400) 4 a b imm=some ([]):=by
 constructor
 ·simp [insn_Reads.f,insn_Reads.j0,insn_Reads.j1,insn_Reads.j2,insn_Reads.j3,insn_Reads.j4,ck,hc,ps1,ps2]
 ·simp [rzReads.f,rzReads.j0,rzReads.j1,rzReads.j2,rzReads.j3,rck,hc,rs1,rs2,form_4]
theorem writes_4 (a b imm:Int) (k:Nat) (hc:chkD 4 a b imm=0):insn_Writes.f (k+400) 4 a b imm=some (setL [a])∧rzWrites.f (k+400) 4 a b imm=some (setL [a]):=by
 constructor
 ·simp [insn_Writes.f,insn_Writes.j0,insn_Writes.j1,ck,hc,ps1,ps2]
 ·simp [rzWrites.f,rzWrites.j0,rck,hc,rs1,rs2,form_4]
theorem reads_5 (a b imm:Int) (k:Nat) (hc:chkD 5 a b imm=0):insn_Reads.f (k+400) 5 a b imm=some (setL [a,b])∧rzReads.f (k+400) 5 a b imm=some (setL [a,b]):=by
 constructor
 ·simp [insn_Reads.f,insn_Reads.j0,insn_Reads.j1,insn_Reads.j2,insn_Reads.j3,insn_Reads.j4,ck,hc,ps1,ps2]
 ·simp [rzReads.f,rzReads.j0,rzReads.j1,rzReads.j2,rzReads.j3,rck,hc,rs1,rs2,form_5]
theorem writes_5 (a b imm:Int) (k:Nat) (hc:chkD 5 a b imm=0):insn_Writes.f (k+400) 5 a b imm=some (setL [a])∧rzWrites.f (k+400) 5 a b imm=some (setL [a]):=by
 constructor
 ·simp [insn_Writes.f,insn_Writes.j0,insn_Writes.j1,ck,hc,ps1,ps2]
 ·simp [rzWrites.f,rzWrites.j0,rck,hc,rs1,rs2,form_5]
theorem reads_6 (a b imm:Int) (k:Nat) (hc:chkD 6 a b imm=0):insn_Reads.f (k+400) 6 a b imm=some (setL [a,b])∧rzReads.f (k+400) 6 a b imm=some (setL [a,b]):=by
 constructor
 ·simp [insn_Reads.f,insn_Reads.j0,insn_Reads.j1,insn_Reads.j2,insn_Reads.j3,insn_Reads.j4,ck,hc,ps1,ps2]
 ·simp [rzReads.f,rzReads.j0,rzReads.j1,rzReads.j2,rzReads.j3,rck,hc,rs1,rs2,form_6]
theorem writes_6 (a b imm:Int) (k:Nat) (hc:chkD 6 a b imm=0):insn_Writes.f (k+400) 6 a b imm=some (setL [a])∧rzWrites.f (k+400) 6 a b imm=some (setL [a]):=by
 constructor
 ·simp [insn_Writes.f,insn_Writes.j0,insn_Writes.j1,ck,hc,ps1,ps2]
 ·simp [rzWrites.f,rzWrites.j0,rck,hc,rs1,rs2,form_6]
theorem reads_7 (a b imm:Int) (k:Nat) (hc:chkD 7 a b imm=0):insn_Reads.f (k+400) 7 a b imm=some (setL [a,b])∧rzReads.f (k+400) 7 a b imm=some (setL [a,b]):=by
 constructor
 ·simp [insn_Reads.f,insn_Reads.j0,insn_Reads.j1,insn_Reads.j2,insn_Reads.j3,insn_Reads.j4,ck,hc,ps1,ps2]
 ·simp [rzReads.f,rzReads.j0,rzReads.j1,rzReads.j2,rzReads.j3,rck,hc,rs1,rs2,form_7]
theorem writes_7 (a b imm:Int) (k:Nat) (hc:chkD 7 a b imm=0):insn_Writes.f (k+400) 7 a b imm=some (setL [a])∧rzWrites.f (k+400) 7 a b imm=some (setL [a]):=by
 constructor
 ·simp [insn_Writes.f,insn_Writes.j0,insn_Writes.j1,ck,hc,ps1,ps2]
 ·simp [rzWrites.f,rzWrites.j0,rck,hc,rs1,rs2,form_7]
theorem reads_8 (a b imm:Int) (k:Nat) (hc:chkD 8 a b imm=0):insn_Reads.f (k+400) 8 a b imm=some (setL [a,b])∧rzReads.f (k+400) 8 a b imm=some (setL [a,b]):=by
 constructor
 ·simp [insn_Reads.f,insn_Reads.j0,insn_Reads.j1,insn_Reads.j2,insn_Reads.j3,insn_Reads.j4,ck,hc,ps1,ps2]
 ·simp [rzReads.f,rzReads.j0,rzReads.j1,rzReads.j2,rzReads.j3,rck,hc,rs1,rs2,form_8]
theorem writes_8 (a b imm:Int) (k:Nat) (hc:chkD 8 a b imm=0):insn_Writes.f (k+400) 8 a b imm=some (setL [a])∧rzWrites.f (k+400) 8 a b imm=some (setL [a]):=by
 constructor
 ·simp [insn_Writes.f,insn_Writes.j0,insn_Writes.j1,ck,hc,ps1,ps2]
 ·simp [rzWrites.f,rzWrites.j0,rck,hc,rs1,rs2,form_8]
theorem reads_9 (a b imm:Int) (k:Nat) (hc:chkD 9 a b imm=0):insn_Reads.f (k+400) 9 a b imm=some (setL [a,b])∧rzReads.f (k+400) 9 a b imm=some (setL [a,b]):=by
 constructor
 ·simp [insn_Reads.f,insn_Reads.j0,insn_Reads.j1,insn_Reads.j2,insn_Reads.j3,insn_Reads.j4,ck,hc,ps1,ps2]
 ·simp [rzReads.f,rzReads.j0,rzReads.j1,rzReads.j2,rzReads.j3,rck,hc,rs1,rs2,form_9]
theorem writes_9 (a b imm:Int) (k:Nat) (hc:chkD 9 a b imm=0):insn_Writes.f (k+400) 9 a b imm=some (setL [a])∧rzWrites.f (k+400) 9 a b imm=some (setL [a]):=by
 constructor
 ·simp [insn_Writes.f,insn_Writes.j0,insn_Writes.j1,ck,hc,ps1,ps2]
 ·simp [rzWrites.f,rzWrites.j0,rck,hc,rs1,rs2,form_9]
theorem reads_10 (a b imm:Int) (k:Nat) (hc:chkD 10 a b imm=0):insn_Reads.f (k+400) 10 a b imm=some (setL [a,b])∧rzReads.f (k+400) 10 a b imm=some (setL [a,b]):=by
 constructor
 ·simp [insn_Reads.f,insn_Reads.j0,insn_Reads.j1,insn_Reads.j2,insn_Reads.j3,insn_Reads.j4,ck,hc,ps1,ps2]
 ·simp [rzReads.f,rzReads.j0,rzReads.j1,rzReads.j2,rzReads.j3,rck,hc,rs1,rs2,form_10]
theorem writes_10 (a b imm:Int) (k:Nat) (hc:chkD 10 a b imm=0):insn_Writes.f (k+400) 10 a b imm=some (setL [a])∧rzWrites.f (k+400) 10 a b imm=some (setL [a]):=by
 constructor
 ·simp [insn_Writes.f,insn_Writes.j0,insn_Writes.j1,ck,hc,ps1,ps2]
 ·simp [rzWrites.f,rzWrites.j0,rck,hc,rs1,rs2,form_10]
theorem reads_11 (a b imm:Int) (k:Nat) (hc:chkD 11 a b imm=0):insn_Reads.f (k+400) 11 a b imm=some (setL [a,b])∧rzReads.f (k+400) 11 a b imm=some (setL [a,b]):=by
 constructor
 ·simp [insn_Reads.f,insn_Reads.j0,insn_Reads.j1,insn_Reads.j2,insn_Reads.j3,insn_Reads.j4,ck,hc,ps1,ps2]
 ·simp [rzReads.f,rzReads.j0,rzReads.j1,rzReads.j2,rzReads.j3,rck,hc,rs1,rs2,form_11]
theorem writes_11 (a b imm:Int) (k:Nat) (hc:chkD 11 a b imm=0):insn_Writes.f (k+400) 11 a b imm=some (setL [a])∧rzWrites.f (k+400) 11 a b imm=some (setL [a]):=by
 constructor
 ·simp [insn_Writes.f,insn_Writes.j0,insn_Writes.j1,ck,hc,ps1,ps2]
 ·simp [rzWrites.f,rzWrites.j0,rck,hc,rs1,rs2,form_11]
theorem reads_12 (a b imm:Int) (k:Nat) (hc:chkD 12 a b imm=0):insn_Reads.f (k+400) 12 a b imm=some (setL [a,b])∧rzReads.f (k+400) 12 a b imm=some (setL [a,b]):=by
 constructor
 ·simp [insn_Reads.f,insn_Reads.j0,insn_Reads.j1,insn_Reads.j2,insn_Reads.j3,insn_Reads.j4,ck,hc,ps1,ps2]
 ·simp [rzReads.f,rzReads.j0,rzReads.j1,rzReads.j2,rzReads.j3,rck,hc,rs1,rs2,form_12]
theorem writes_12 (a b imm:Int) (k:Nat) (hc:chkD 12 a b imm=0):insn_Writes.f (k+400) 12 a b imm=some (setL [a])∧rzWrites.f (k+400) 12 a b imm=some (setL [a]):=by
 constructor
 ·simp [insn_Writes.f,insn_Writes.j0,insn_Writes.j1,ck,hc,ps1,ps2]
 ·simp [rzWrites.f,rzWrites.j0,rck,hc,rs1,rs2,form_12]
theorem reads_13 (a b imm:Int) (k:Nat) (hc:chkD 13 a b imm=0):insn_Reads.f (k+400) 13 a b imm=some (setL [a,b])∧rzReads.f (k+400) 13 a b imm=some (setL [a,b]):=by
 constructor
 ·simp [insn_Reads.f,insn_Reads.j0,insn_Reads.j1,insn_Reads.j2,insn_Reads.j3,insn_Reads.j4,ck,hc,ps1,ps2]
 ·simp [rzReads.f,rzReads.j0,rzReads.j1,rzReads.j2,rzReads.j3,rck,hc,rs1,rs2,form_13]
theorem writes_13 (a b imm:Int) (k:Nat) (hc:chkD 13 a b imm=0):insn_Writes.f (k+400) 13 a b imm=some (setL [a])∧rzWrites.f (k+400) 13 a b imm=some (setL [a]):=by
 constructor
 ·simp [insn_Writes.f,insn_Writes.j0,insn_Writes.j1,ck,hc,ps1,ps2]
 ·simp [rzWrites.f,rzWrites.j0,rck,hc,rs1,rs2,form_13]
theorem reads_14 (a b imm:Int) (k:Nat) (hc:chkD 14 a b imm=0):insn_Reads.f (k+400) 14 a b imm=some (setL [a,b])∧rzReads.f (k+400) 14 a b imm=some (setL [a,b]):=by
 constructor
 ·simp [insn_Reads.f,insn_Reads.j0,insn_Reads.j1,insn_Reads.j2,insn_Reads.j3,insn_Reads.j4,ck,hc,ps1,ps2]
 ·simp [rzReads.f,rzReads.j0,rzReads.j1,rzReads.j2,rzReads.j3,rck,hc,rs1,rs2,form_14]
theorem writes_14 (a b imm:Int) (k:Nat) (hc:chkD 14 a b imm=0):insn_Writes.f (k+400) 14 a b imm=some (setL [a])∧rzWrites.f (k+400) 14 a b imm=some (setL [a]):=by
 constructor
 ·simp [insn_Writes.f,insn_Writes.j0,insn_Writes.j1,ck,hc,ps1,ps2]
 ·simp [rzWrites.f,rzWrites.j0,rck,hc,rs1,rs2,form_14]
theorem reads_15 (a b imm:Int) (k:Nat) (hc:chkD 15 a b imm=0):insn_Reads.f (k+400) 15 a b imm=some (setL [a,b])∧rzReads.f (k+400) 15 a b imm=some (setL [a,b]):=by
 constructor
 ·simp [insn_Reads.f,insn_Reads.j0,insn_Reads.j1,insn_Reads.j2,insn_Reads.j3,insn_Reads.j4,ck,hc,ps1,ps2]
 ·simp [rzReads.f,rzReads.j0,rzReads.j1,rzReads.j2,rzReads.j3,rck,hc,rs1,rs2,form_15]
theorem writes_15 (a b imm:Int) (k:Nat) (hc:chkD 15 a b imm=0):insn_Writes.f (k+400) 15 a b imm=some (setL [a])∧rzWrites.f (k+400) 15 a b imm=some (setL [a]):=by
 constructor
 ·simp [insn_Writes.f,insn_Writes.j0,insn_Writes.j1,ck,hc,ps1,ps2]
 ·simp [rzWrites.f,rzWrites.j0,rck,hc,rs1,rs2,form_15]
theorem reads_16 (a b imm:Int) (k:Nat) (hc:chkD 16 a b imm=0):insn_Reads.f (k+400) 16 a b imm=some (setL [a])∧rzReads.f (k+400) 16 a b imm=some (setL [a]):=by
 constructor
 ·simp [insn_Reads.f,insn_Reads.j0,insn_Reads.j1,insn_Reads.j2,insn_Reads.j3,insn_Reads.j4,ck,hc,ps1,ps2]
 ·simp [rzReads.f,rzReads.j0,rzReads.j1,rzReads.j2,rzReads.j3,rck,hc,rs1,rs2,form_16]
theorem writes_16 (a b imm:Int) (k:Nat) (hc:chkD 16 a b imm=0):insn_Writes.f (k+400) 16 a b imm=some (setL [a])∧rzWrites.f (k+400) 16 a b imm=some (setL [a]):=by
 constructor
 ·simp [insn_Writes.f,insn_Writes.j0,insn_Writes.j1,ck,hc,ps1,ps2]
 ·simp [rzWrites.f,rzWrites.j0,rck,hc,rs1,rs2,form_16]
theorem reads_17 (a b imm:Int) (k:Nat) (hc:chkD 17 a b imm=0):insn_Reads.f (k+400) 17 a b imm=some (setL [b])∧rzReads.f (k+400) 17 a b imm=some (setL [b]):=by
 constructor
 ·simp [insn_Reads.f,insn_Reads.j0,insn_Reads.j1,insn_Reads.j2,insn_Reads.j3,insn_Reads.j4,ck,hc,ps1,ps2]
 ·simp [rzReads.f,rzReads.j0,rzReads.j1,rzReads.j2,rzReads.j3,rck,hc,rs1,rs2,form_17]
theorem writes_17 (a b imm:Int) (k:Nat) (hc:chkD 17 a b imm=0):insn_Writes.f (k+400) 17 a b imm=some (setL [a])∧rzWrites.f (k+400) 17 a b imm=some (setL [a]):=by
 constructor
 ·simp [insn_Writes.f,insn_Writes.j0,insn_Writes.j1,ck,hc,ps1,ps2]
 ·simp [rzWrites.f,rzWrites.j0,rck,hc,rs1,rs2,form_17]
theorem reads_18 (a b imm:Int) (k:Nat) (hc:chkD 18 a b imm=0):insn_Reads.f (k+400) 18 a b imm=some (setL [b])∧rzReads.f (k+400) 18 a b imm=some (setL [b]):=by
 constructor
 ·simp [insn_Reads.f,insn_Reads.j0,insn_Reads.j1,insn_Reads.j2,insn_Reads.j3,insn_Reads.j4,ck,hc,ps1,ps2]
 ·simp [rzReads.f,rzReads.j0,rzReads.j1,rzReads.j2,rzReads.j3,rck,hc,rs1,rs2,form_18]
theorem writes_18 (a b imm:Int) (k:Nat) (hc:chkD 18 a b imm=0):insn_Writes.f (k+400) 18 a b imm=some (setL [a])∧rzWrites.f (k+400) 18 a b imm=some (setL [a]):=by
 constructor
 ·simp [insn_Writes.f,insn_Writes.j0,insn_Writes.j1,ck,hc,ps1,ps2]
 ·simp [rzWrites.f,rzWrites.j0,rck,hc,rs1,rs2,form_18]
theorem reads_19 (a b imm:Int) (k:Nat) (hc:chkD 19 a b imm=0):insn_Reads.f (k+400) 19 a b imm=some (setL [a,b])∧rzReads.f (k+400) 19 a b imm=some (setL [a,b]):=by
 constructor
 ·simp [insn_Reads.f,insn_Reads.j0,insn_Reads.j1,insn_Reads.j2,insn_Reads.j3,insn_Reads.j4,ck,hc,ps1,ps2]
 ·simp [rzReads.f,rzReads.j0,rzReads.j1,rzReads.j2,rzReads.j3,rck,hc,rs1,rs2,form_19]
theorem writes_19 (a b imm:Int) (k:Nat) (hc:chkD 19 a b imm=0):insn_Writes.f (k+400) 19 a b imm=some ([])∧rzWrites.f (k+400) 19 a b imm=some ([]):=by
 constructor
 ·simp [insn_Writes.f,insn_Writes.j0,insn_Writes.j1,ck,hc,ps1,ps2]
 ·simp [rzWrites.f,rzWrites.j0,rck,hc,rs1,rs2,form_19]
theorem reads_20 (a b imm:Int) (k:Nat) (hc:chkD 20 a b imm=0):insn_Reads.f (k+400) 20 a b imm=some (setL [a,b])∧rzReads.f (k+400) 20 a b imm=some (setL [a,b]):=by
 constructor
 ·simp [insn_Reads.f,insn_Reads.j0,insn_Reads.j1,insn_Reads.j2,insn_Reads.j3,insn_Reads.j4,ck,hc,ps1,ps2]
 ·simp [rzReads.f,rzReads.j0,rzReads.j1,rzReads.j2,rzReads.j3,rck,hc,rs1,rs2,form_20]
theorem writes_20 (a b imm:Int) (k:Nat) (hc:chkD 20 a b imm=0):insn_Writes.f (k+400) 20 a b imm=some ([])∧rzWrites.f (k+400) 20 a b imm=some ([]):=by
 constructor
 ·simp [insn_Writes.f,insn_Writes.j0,insn_Writes.j1,ck,hc,ps1,ps2]
 ·simp [rzWrites.f,rzWrites.j0,rck,hc,rs1,rs2,form_20]
theorem reads_21 (a b imm:Int) (k:Nat) (hc:chkD 21 a b imm=0):insn_Reads.f (k+400) 21 a b imm=some (setL [a,b])∧rzReads.f (k+400) 21 a b imm=some (setL [a,b]):=by
 constructor
 ·simp [insn_Reads.f,insn_Reads.j0,insn_Reads.j1,insn_Reads.j2,insn_Reads.j3,insn_Reads.j4,ck,hc,ps1,ps2]
 ·simp [rzReads.f,rzReads.j0,rzReads.j1,rzReads.j2,rzReads.j3,rck,hc,rs1,rs2,form_21]
theorem writes_21 (a b imm:Int) (k:Nat) (hc:chkD 21 a b imm=0):insn_Writes.f (k+400) 21 a b imm=some ([])∧rzWrites.f (k+400) 21 a b imm=some ([]):=by
 constructor
 ·simp [insn_Writes.f,insn_Writes.j0,insn_Writes.j1,ck,hc,ps1,ps2]
 ·simp [rzWrites.f,rzWrites.j0,rck,hc,rs1,rs2,form_21]
theorem reads_22 (a b imm:Int) (k:Nat) (hc:chkD 22 a b imm=0):insn_Reads.f (k+400) 22 a b imm=some (setL [a,b])∧rzReads.f (k+400) 22 a b imm=some (setL [a,b]):=by
 constructor
 ·simp [insn_Reads.f,insn_Reads.j0,insn_Reads.j1,insn_Reads.j2,insn_Reads.j3,insn_Reads.j4,ck,hc,ps1,ps2]
 ·simp [rzReads.f,rzReads.j0,rzReads.j1,rzReads.j2,rzReads.j3,rck,hc,rs1,rs2,form_22]
theorem writes_22 (a b imm:Int) (k:Nat) (hc:chkD 22 a b imm=0):insn_Writes.f (k+400) 22 a b imm=some ([])∧rzWrites.f (k+400) 22 a b imm=some ([]):=by
 constructor
 ·simp [insn_Writes.f,insn_Writes.j0,insn_Writes.j1,ck,hc,ps1,ps2]
 ·simp [rzWrites.f,rzWrites.j0,rck,hc,rs1,rs2,form_22]
theorem reads_23 (a b imm:Int) (k:Nat) (hc:chkD 23 a b imm=0):insn_Reads.f (k+400) 23 a b imm=some (setL [a,b])∧rzReads.f (k+400) 23 a b imm=some (setL [a,b]):=by
 constructor
 ·simp [insn_Reads.f,insn_Reads.j0,insn_Reads.j1,insn_Reads.j2,insn_Reads.j3,insn_Reads.j4,ck,hc,ps1,ps2]
 ·simp [rzReads.f,rzReads.j0,rzReads.j1,rzReads.j2,rzReads.j3,rck,hc,rs1,rs2,form_23]
theorem writes_23 (a b imm:Int) (k:Nat) (hc:chkD 23 a b imm=0):insn_Writes.f (k+400) 23 a b imm=some ([])∧rzWrites.f (k+400) 23 a b imm=some ([]):=by
 constructor
 ·simp [insn_Writes.f,insn_Writes.j0,insn_Writes.j1,ck,hc,ps1,ps2]
 ·simp [rzWrites.f,rzWrites.j0,rck,hc,rs1,rs2,form_23]
theorem reads_24 (a b imm:Int) (k:Nat) (hc:chkD 24 a b imm=0):insn_Reads.f (k+400) 24 a b imm=some (setL [a,b])∧rzReads.f (k+400) 24 a b imm=some (setL [a,b]):=by
 constructor
 ·simp [insn_Reads.f,insn_Reads.j0,insn_Reads.j1,insn_Reads.j2,insn_Reads.j3,insn_Reads.j4,ck,hc,ps1,ps2]
 ·simp [rzReads.f,rzReads.j0,rzReads.j1,rzReads.j2,rzReads.j3,rck,hc,rs1,rs2,form_24]
theorem writes_24 (a b imm:Int) (k:Nat) (hc:chkD 24 a b imm=0):insn_Writes.f (k+400) 24 a b imm=some ([])∧rzWrites.f (k+400) 24 a b imm=some ([]):=by
 constructor
 ·simp [insn_Writes.f,insn_Writes.j0,insn_Writes.j1,ck,hc,ps1,ps2]
 ·simp [rzWrites.f,rzWrites.j0,rck,hc,rs1,rs2,form_24]
theorem reads_25 (a b imm:Int) (k:Nat) (hc:chkD 25 a b imm=0):insn_Reads.f (k+400) 25 a b imm=some ([])∧rzReads.f (k+400) 25 a b imm=some ([]):=by
 constructor
 ·simp [insn_Reads.f,insn_Reads.j0,insn_Reads.j1,insn_Reads.j2,insn_Reads.j3,insn_Reads.j4,ck,hc,ps1,ps2]
 ·simp [rzReads.f,rzReads.j0,rzReads.j1,rzReads.j2,rzReads.j3,rck,hc,rs1,rs2,form_25]
theorem writes_25 (a b imm:Int) (k:Nat) (hc:chkD 25 a b imm=0):insn_Writes.f (k+400) 25 a b imm=some ([])∧rzWrites.f (k+400) 25 a b imm=some ([]):=by
 constructor
 ·simp [insn_Writes.f,insn_Writes.j0,insn_Writes.j1,ck,hc,ps1,ps2]
 ·simp [rzWrites.f,rzWrites.j0,rck,hc,rs1,rs2,form_25]
theorem reads_26 (a b imm:Int) (k:Nat) (hc:chkD 26 a b imm=0):insn_Reads.f (k+400) 26 a b imm=some (setL [a])∧rzReads.f (k+400) 26 a b imm=some (setL [a]):=by
 constructor
 ·simp [insn_Reads.f,insn_Reads.j0,insn_Reads.j1,insn_Reads.j2,insn_Reads.j3,insn_Reads.j4,ck,hc,ps1,ps2]
 ·simp [rzReads.f,rzReads.j0,rzReads.j1,rzReads.j2,rzReads.j3,rck,hc,rs1,rs2,form_26]
theorem writes_26 (a b imm:Int) (k:Nat) (hc:chkD 26 a b imm=0):insn_Writes.f (k+400) 26 a b imm=some ([])∧rzWrites.f (k+400) 26 a b imm=some ([]):=by
 constructor
 ·simp [insn_Writes.f,insn_Writes.j0,insn_Writes.j1,ck,hc,ps1,ps2]
 ·simp [rzWrites.f,rzWrites.j0,rck,hc,rs1,rs2,form_26]
theorem reads_27 (a b imm:Int) (k:Nat) (hc:chkD 27 a b imm=0):insn_Reads.f (k+400) 27 a b imm=some (setL [7])∧rzReads.f (k+400) 27 a b imm=some (setL [7]):=by
 constructor
 ·simp [insn_Reads.f,insn_Reads.j0,insn_Reads.j1,insn_Reads.j2,insn_Reads.j3,insn_Reads.j4,ck,hc,ps1,ps2]
 ·simp [rzReads.f,rzReads.j0,rzReads.j1,rzReads.j2,rzReads.j3,rck,hc,rs1,rs2,form_27]
theorem writes_27 (a b imm:Int) (k:Nat) (hc:chkD 27 a b imm=0):insn_Writes.f (k+400) 27 a b imm=some (setL [7])∧rzWrites.f (k+400) 27 a b imm=some (setL [7]):=by
 constructor
 ·simp [insn_Writes.f,insn_Writes.j0,insn_Writes.j1,ck,hc,ps1,ps2]
 ·simp [rzWrites.f,rzWrites.j0,rck,hc,rs1,rs2,form_27]
theorem reads_28 (a b imm:Int) (k:Nat) (hc:chkD 28 a b imm=0):insn_Reads.f (k+400) 28 a b imm=some (setL [a,7])∧rzReads.f (k+400) 28 a b imm=some (setL [a,7]):=by
 constructor
 ·simp [insn_Reads.f,insn_Reads.j0,insn_Reads.j1,insn_Reads.j2,insn_Reads.j3,insn_Reads.j4,ck,hc,ps1,ps2]
 ·simp [rzReads.f,rzReads.j0,rzReads.j1,rzReads.j2,rzReads.j3,rck,hc,rs1,rs2,form_28]
theorem writes_28 (a b imm:Int) (k:Nat) (hc:chkD 28 a b imm=0):insn_Writes.f (k+400) 28 a b imm=some (setL [7])∧rzWrites.f (k+400) 28 a b imm=some (setL [7]):=by
 constructor
 ·simp [insn_Writes.f,insn_Writes.j0,insn_Writes.j1,ck,hc,ps1,ps2]
 ·simp [rzWrites.f,rzWrites.j0,rck,hc,rs1,rs2,form_28]
theorem reads_29 (a b imm:Int) (k:Nat) (hc:chkD 29 a b imm=0):insn_Reads.f (k+400) 29 a b imm=some (setL [7])∧rzReads.f (k+400) 29 a b imm=some (setL [7]):=by
 constructor
 ·simp [insn_Reads.f,insn_Reads.j0,insn_Reads.j1,insn_Reads.j2,insn_Reads.j3,insn_Reads.j4,ck,hc,ps1,ps2]
 ·simp [rzReads.f,rzReads.j0,rzReads.j1,rzReads.j2,rzReads.j3,rck,hc,rs1,rs2,form_29]
theorem writes_29 (a b imm:Int) (k:Nat) (hc:chkD 29 a b imm=0):insn_Writes.f (k+400) 29 a b imm=some (setL [7])∧rzWrites.f (k+400) 29 a b imm=some (setL [7]):=by
 constructor
 ·simp [insn_Writes.f,insn_Writes.j0,insn_Writes.j1,ck,hc,ps1,ps2]
 ·simp [rzWrites.f,rzWrites.j0,rck,hc,rs1,rs2,form_29]
theorem reads_30 (a b imm:Int) (k:Nat) (hc:chkD 30 a b imm=0):insn_Reads.f (k+400) 30 a b imm=some (setL [a,7])∧rzReads.f (k+400) 30 a b imm=some (setL [a,7]):=by
 constructor
 ·simp [insn_Reads.f,insn_Reads.j0,insn_Reads.j1,insn_Reads.j2,insn_Reads.j3,insn_Reads.j4,ck,hc,ps1,ps2]
 ·simp [rzReads.f,rzReads.j0,rzReads.j1,rzReads.j2,rzReads.j3,rck,hc,rs1,rs2,form_30]
theorem writes_30 (a b imm:Int) (k:Nat) (hc:chkD 30 a b imm=0):insn_Writes.f (k+400) 30 a b imm=some (setL [7])∧rzWrites.f (k+400) 30 a b imm=some (setL [7]):=by
 constructor
 ·simp [insn_Writes.f,insn_Writes.j0,insn_Writes.j1,ck,hc,ps1,ps2]
 ·simp [rzWrites.f,rzWrites.j0,rck,hc,rs1,rs2,form_30]
theorem reads_31 (a b imm:Int) (k:Nat) (hc:chkD 31 a b imm=0):insn_Reads.f (k+400) 31 a b imm=some (setL [7])∧rzReads.f (k+400) 31 a b imm=some (setL [7]):=by
 constructor
 ·simp [insn_Reads.f,insn_Reads.j0,insn_Reads.j1,insn_Reads.j2,insn_Reads.j3,insn_Reads.j4,ck,hc,ps1,ps2]
 ·simp [rzReads.f,rzReads.j0,rzReads.j1,rzReads.j2,rzReads.j3,rck,hc,rs1,rs2,form_31]
theorem writes_31 (a b imm:Int) (k:Nat) (hc:chkD 31 a b imm=0):insn_Writes.f (k+400) 31 a b imm=some (setL [a,7])∧rzWrites.f (k+400) 31 a b imm=some (setL [a,7]):=by
 constructor
 ·simp [insn_Writes.f,insn_Writes.j0,insn_Writes.j1,ck,hc,ps1,ps2]
 ·simp [rzWrites.f,rzWrites.j0,rck,hc,rs1,rs2,form_31]
theorem reads_32 (a b imm:Int) (k:Nat) (hc:chkD 32 a b imm=0):insn_Reads.f (k+400) 32 a b imm=some ([])∧rzReads.f (k+400) 32 a b imm=some ([]):=by
 constructor
 ·simp [insn_Reads.f,insn_Reads.j0,insn_Reads.j1,insn_Reads.j2,insn_Reads.j3,insn_Reads.j4,ck,hc,ps1,ps2]
 ·simp [rzReads.f,rzReads.j0,rzReads.j1,rzReads.j2,rzReads.j3,rck,hc,rs1,rs2,form_32]
theorem writes_32 (a b imm:Int) (k:Nat) (hc:chkD 32 a b imm=0):insn_Writes.f (k+400) 32 a b imm=some (setL [a])∧rzWrites.f (k+400) 32 a b imm=some (setL [a]):=by
 constructor
 ·simp [insn_Writes.f,insn_Writes.j0,insn_Writes.j1,ck,hc,ps1,ps2]
 ·simp [rzWrites.f,rzWrites.j0,rck,hc,rs1,rs2,form_32]
theorem reads_33 (a b imm:Int) (k:Nat) (hc:chkD 33 a b imm=0):insn_Reads.f (k+400) 33 a b imm=some ([])∧rzReads.f (k+400) 33 a b imm=some ([]):=by
 constructor
 ·simp [insn_Reads.f,insn_Reads.j0,insn_Reads.j1,insn_Reads.j2,insn_Reads.j3,insn_Reads.j4,ck,hc,ps1,ps2]
 ·simp [rzReads.f,rzReads.j0,rzReads.j1,rzReads.j2,rzReads.j3,rck,hc,rs1,rs2,form_33]
theorem writes_33 (a b imm:Int) (k:Nat) (hc:chkD 33 a b imm=0):insn_Writes.f (k+400) 33 a b imm=some ([])∧rzWrites.f (k+400) 33 a b imm=some ([]):=by
 constructor
 ·simp [insn_Writes.f,insn_Writes.j0,insn_Writes.j1,ck,hc,ps1,ps2]
 ·simp [rzWrites.f,rzWrites.j0,rck,hc,rs1,rs2,form_33]
theorem reads_34 (a b imm:Int) (k:Nat) (hc:chkD 34 a b imm=0):insn_Reads.f (k+400) 34 a b imm=some (setL [a,b])∧rzReads.f (k+400) 34 a b imm=some (setL [a,b]):=by
 constructor
 ·simp [insn_Reads.f,insn_Reads.j0,insn_Reads.j1,insn_Reads.j2,insn_Reads.j3,insn_Reads.j4,ck,hc,ps1,ps2]
 ·simp [rzReads.f,rzReads.j0,rzReads.j1,rzReads.j2,rzReads.j3,rck,hc,rs1,rs2,form_34]
theorem writes_34 (a b imm:Int) (k:Nat) (hc:chkD 34 a b imm=0):insn_Writes.f (k+400) 34 a b imm=some (setL [a])∧rzWrites.f (k+400) 34 a b imm=some (setL [a]):=by
 constructor
 ·simp [insn_Writes.f,insn_Writes.j0,insn_Writes.j1,ck,hc,ps1,ps2]
 ·simp [rzWrites.f,rzWrites.j0,rck,hc,rs1,rs2,form_34]
theorem reads_76 (a b imm:Int) (k:Nat) (hc:chkD 76 a b imm=0):insn_Reads.f (k+400) 76 a b imm=some ([])∧rzReads.f (k+400) 76 a b imm=some ([]):=by
 constructor
 ·simp [insn_Reads.f,insn_Reads.j0,insn_Reads.j1,insn_Reads.j2,insn_Reads.j3,insn_Reads.j4,ck,hc,ps1,ps2]
 ·simp [rzReads.f,rzReads.j0,rzReads.j1,rzReads.j2,rzReads.j3,rck,hc,rs1,rs2,form_76]
theorem writes_76 (a b imm:Int) (k:Nat) (hc:chkD 76 a b imm=0):insn_Writes.f (k+400) 76 a b imm=some ([])∧rzWrites.f (k+400) 76 a b imm=some ([]):=by
 constructor
 ·simp [insn_Writes.f,insn_Writes.j0,insn_Writes.j1,ck,hc,ps1,ps2]
 ·simp [rzWrites.f,rzWrites.j0,rck,hc,rs1,rs2,form_76]
theorem op_in {op:Int} (h:nameM op≠[]):op=1∨op=2∨op=3∨op=4∨op=5∨op=6∨op=7∨op=8∨op=9∨op=10∨op=11∨op=12∨op=13∨op=14∨op=15∨op=16∨op=17∨op=18∨op=19∨op=20∨op=21∨op=22∨op=23∨op=24∨op=25∨op=26∨op=27∨op=28∨op=29∨op=30∨op=31∨op=32∨op=33∨op=34∨op=76:=by
 have h1:(1≤op∧op≤34)∨op=76:=by
  by_cases h:op=76
  ·exact .inr h
  ·refine .inl ?_
   rename_i hn
   unfold nameM kindM at hn
   rw [if_neg h] at hn
   by_cases c:op < 1∨35≤op
   ·rw [if_pos c] at hn;exact absurd rfl hn
   ·omega
 omega
theorem reads_both (op a b imm:Int) (k:Nat):∃ r,insn_Reads.f (k+400) op a b imm=some r∧rzReads.f (k+400) op a b imm=some r∧r.length≤8:=by
 by_cases hc:chkD op a b imm=0
 ·rcases op_in (chk_name hc) with rfl | rfl | rfl | rfl | rfl | rfl | rfl | rfl | rfl | rfl | rfl | rfl | rfl | rfl | rfl | rfl | rfl | rfl | rfl | rfl | rfl | rfl | rfl | rfl | rfl | rfl | rfl | rfl | rfl | rfl | rfl | rfl | rfl | rfl | rfl
  ·exact ⟨_,(reads_1 a b imm k hc).1,(reads_1 a b imm k hc).2,by simp⟩
  ·exact ⟨_,(reads_2 a b imm k hc).1,(reads_2 a b imm k hc).2,setL_len _⟩
  ·exact ⟨_,(reads_3 a b imm k hc).1,(reads_3 a b imm k hc).2,by simp⟩
  ·exact ⟨_,(reads_4 a b imm k hc).1,(reads_4 a b imm k hc).2,by simp⟩
  ·exact ⟨_,(reads_5 a b imm k hc).1,(reads_5 a b imm k hc).2,setL_len _⟩
  ·exact ⟨_,(reads_6 a b imm k hc).1,(reads_6 a b imm k hc).2,setL_len _⟩
  ·exact ⟨_,(reads_7 a b imm k hc).1,(reads_7 a b imm k hc).2,setL_len _⟩
  ·exact ⟨_,(reads_8 a b imm k hc).1,(reads_8 a b imm k hc).2,setL_len _⟩
  ·exact ⟨_,(reads_9 a b imm k hc).1,(reads_9 a b imm k hc).2,setL_len _⟩
  ·exact ⟨_,(reads_10 a b imm k hc).1,(reads_10 a b imm k hc).2,setL_len _⟩
  ·exact ⟨_,(reads_11 a b imm k hc).1,(reads_11 a b imm k hc).2,setL_len _⟩
  ·exact ⟨_,(reads_12 a b imm k hc).1,(reads_12 a b imm k hc).2,setL_len _⟩
  ·exact ⟨_,(reads_13 a b imm k hc).1,(reads_13 a b imm k hc).2,setL_len _⟩
  ·exact ⟨_,(reads_14 a b imm k hc).1,(reads_14 a b imm k hc).2,setL_len _⟩
  ·exact ⟨_,(reads_15 a b imm k hc).1,(reads_15 a b imm k hc).2,setL_len _⟩
  ·exact ⟨_,(reads_16 a b imm k hc).1,(reads_16 a b imm k hc).2,setL_len _⟩
  ·exact ⟨_,(reads_17 a b imm k hc).1,(reads_17 a b imm k hc).2,setL_len _⟩
  ·exact ⟨_,(reads_18 a b imm k hc).1,(reads_18 a b imm k hc).2,setL_len _⟩
  ·exact ⟨_,(reads_19 a b imm k hc).1,(reads_19 a b imm k hc).2,setL_len _⟩
  ·exact ⟨_,(reads_20 a b imm k hc).1,(reads_20 a b imm k hc).2,setL_len _⟩
  ·exact ⟨_,(reads_21 a b imm k hc).1,(reads_21 a b imm k hc).2,setL_len _⟩
  ·exact ⟨_,(reads_22 a b imm k hc).1,(reads_22 a b imm k hc).2,setL_len _⟩
  ·exact ⟨_,(reads_23 a b imm k hc).1,(reads_23 a b imm k hc).2,setL_len _⟩
  ·exact ⟨_,(reads_24 a b imm k hc).1,(reads_24 a b imm k hc).2,setL_len _⟩
  ·exact ⟨_,(reads_25 a b imm k hc).1,(reads_25 a b imm k hc).2,by simp⟩
  ·exact ⟨_,(reads_26 a b imm k hc).1,(reads_26 a b imm k hc).2,setL_len _⟩
  ·exact ⟨_,(reads_27 a b imm k hc).1,(reads_27 a b imm k hc).2,setL_len _⟩
  ·exact ⟨_,(reads_28 a b imm k hc).1,(reads_28 a b imm k hc).2,setL_len _⟩
  ·exact ⟨_,(reads_29 a b imm k hc).1,(reads_29 a b imm k hc).2,setL_len _⟩
  ·exact ⟨_,(reads_30 a b imm k hc).1,(reads_30 a b imm k hc).2,setL_len _⟩
  ·exact ⟨_,(reads_31 a b imm k hc).1,(reads_31 a b imm k hc).2,setL_len _⟩
  ·exact ⟨_,(reads_32 a b imm k hc).1,(reads_32 a b imm k hc).2,by simp⟩
  ·exact ⟨_,(reads_33 a b imm k hc).1,(reads_33 a b imm k hc).2,by simp⟩
  ·exact ⟨_,(reads_34 a b imm k hc).1,(reads_34 a b imm k hc).2,setL_len _⟩
  ·exact ⟨_,(reads_76 a b imm k hc).1,(reads_76 a b imm k hc).2,by simp⟩
 ·refine ⟨[],?_,?_,by simp⟩
  ·simp [insn_Reads.f,ck,hc]
  ·simp [rzReads.f,rck,hc]
theorem writes_both (op a b imm:Int) (k:Nat):∃ r,insn_Writes.f (k+400) op a b imm=some r∧rzWrites.f (k+400) op a b imm=some r∧r.length≤8:=by
 by_cases hc:chkD op a b imm=0
 ·rcases op_in (chk_name hc) with rfl | rfl | rfl | rfl | rfl | rfl | rfl | rfl | rfl | rfl | rfl | rfl | rfl | rfl | rfl | rfl | rfl | rfl | rfl | rfl | rfl | rfl | rfl | rfl | rfl | rfl | rfl | rfl | rfl | rfl | rfl | rfl | rfl | rfl | rfl
  ·exact ⟨_,(writes_1 a b imm k hc).1,(writes_1 a b imm k hc).2,by simp⟩
  ·exact ⟨_,(writes_2 a b imm k hc).1,(writes_2 a b imm k hc).2,setL_len _⟩
  ·exact ⟨_,(writes_3 a b imm k hc).1,(writes_3 a b imm k hc).2,setL_len _⟩
  ·exact ⟨_,(writes_4 a b imm k hc).1,(writes_4 a b imm k hc).2,setL_len _⟩
  ·exact ⟨_,(writes_5 a b imm k hc).1,(writes_5 a b imm k hc).2,setL_len _⟩
  ·exact ⟨_,(writes_6 a b imm k hc).1,(writes_6 a b imm k hc).2,setL_len _⟩
  ·exact ⟨_,(writes_7 a b imm k hc).1,(writes_7 a b imm k hc).2,setL_len _⟩
  ·exact ⟨_,(writes_8 a b imm k hc).1,(writes_8 a b imm k hc).2,setL_len _⟩
  ·exact ⟨_,(writes_9 a b imm k hc).1,(writes_9 a b imm k hc).2,setL_len _⟩
  ·exact ⟨_,(writes_10 a b imm k hc).1,(writes_10 a b imm k hc).2,setL_len _⟩
  ·exact ⟨_,(writes_11 a b imm k hc).1,(writes_11 a b imm k hc).2,setL_len _⟩
  ·exact ⟨_,(writes_12 a b imm k hc).1,(writes_12 a b imm k hc).2,setL_len _⟩
  ·exact ⟨_,(writes_13 a b imm k hc).1,(writes_13 a b imm k hc).2,setL_len _⟩
  ·exact ⟨_,(writes_14 a b imm k hc).1,(writes_14 a b imm k hc).2,setL_len _⟩
  ·exact ⟨_,(writes_15 a b imm k hc).1,(writes_15 a b imm k hc).2,setL_len _⟩
  ·exact ⟨_,(writes_16 a b imm k hc).1,(writes_16 a b imm k hc).2,setL_len _⟩
  ·exact ⟨_,(writes_17 a b imm k hc).1,(writes_17 a b imm k hc).2,setL_len _⟩
  ·exact ⟨_,(writes_18 a b imm k hc).1,(writes_18 a b imm k hc).2,setL_len _⟩
  ·exact ⟨_,(writes_19 a b imm k hc).1,(writes_19 a b imm k hc).2,by simp⟩
  ·exact ⟨_,(writes_20 a b imm k hc).1,(writes_20 a b imm k hc).2,by simp⟩
  ·exact ⟨_,(writes_21 a b imm k hc).1,(writes_21 a b imm k hc).2,by simp⟩
  ·exact ⟨_,(writes_22 a b imm k hc).1,(writes_22 a b imm k hc).2,by simp⟩
  ·exact ⟨_,(writes_23 a b imm k hc).1,(writes_23 a b imm k hc).2,by simp⟩
  ·exact ⟨_,(writes_24 a b imm k hc).1,(writes_24 a b imm k hc).2,by simp⟩
  ·exact ⟨_,(writes_25 a b imm k hc).1,(writes_25 a b imm k hc).2,by simp⟩
  ·exact ⟨_,(writes_26 a b imm k hc).1,(writes_26 a b imm k hc).2,by simp⟩
  ·exact ⟨_,(writes_27 a b imm k hc).1,(writes_27 a b imm k hc).2,setL_len _⟩
  ·exact ⟨_,(writes_28 a b imm k hc).1,(writes_28 a b imm k hc).2,setL_len _⟩
  ·exact ⟨_,(writes_29 a b imm k hc).1,(writes_29 a b imm k hc).2,setL_len _⟩
  ·exact ⟨_,(writes_30 a b imm k hc).1,(writes_30 a b imm k hc).2,setL_len _⟩
  ·exact ⟨_,(writes_31 a b imm k hc).1,(writes_31 a b imm k hc).2,setL_len _⟩
  ·exact ⟨_,(writes_32 a b imm k hc).1,(writes_32 a b imm k hc).2,setL_len _⟩
  ·exact ⟨_,(writes_33 a b imm k hc).1,(writes_33 a b imm k hc).2,by simp⟩
  ·exact ⟨_,(writes_34 a b imm k hc).1,(writes_34 a b imm k hc).2,setL_len _⟩
  ·exact ⟨_,(writes_76 a b imm k hc).1,(writes_76 a b imm k hc).2,by simp⟩
 ·refine ⟨[],?_,?_,by simp⟩
  ·simp [insn_Writes.f,ck,hc]
  ·simp [rzWrites.f,rck,hc]
theorem target_both (op a b imm next:Int) (k:Nat):∃ r,insn_Target.f (k+400) op a b imm next=some r∧rzTarget.f (k+400) op a b imm next=some r:=by
 obtain ⟨r,hf,_⟩:=form_any op
 have hf2:rzForm.f (k+400) op=some r:=hf (k+388)
 by_cases hc:chkD op a b imm=0
 ·rcases op_in (chk_name hc) with rfl | rfl | rfl | rfl | rfl | rfl | rfl | rfl | rfl | rfl | rfl | rfl | rfl | rfl | rfl | rfl | rfl | rfl | rfl | rfl | rfl | rfl | rfl | rfl | rfl | rfl | rfl | rfl | rfl | rfl | rfl | rfl | rfl | rfl | rfl
  ·exact ⟨(0,false),by simp [insn_Target.f,insn_isBranch.f,ck,hc],by simp [rzTarget.f,rck,hc,form_1]⟩
  ·exact ⟨(0,false),by simp [insn_Target.f,insn_isBranch.f,ck,hc],by simp [rzTarget.f,rck,hc,form_2]⟩
  ·exact ⟨(0,false),by simp [insn_Target.f,insn_isBranch.f,ck,hc],by simp [rzTarget.f,rck,hc,form_3]⟩
  ·exact ⟨(0,false),by simp [insn_Target.f,insn_isBranch.f,ck,hc],by simp [rzTarget.f,rck,hc,form_4]⟩
  ·exact ⟨(0,false),by simp [insn_Target.f,insn_isBranch.f,ck,hc],by simp [rzTarget.f,rck,hc,form_5]⟩
  ·exact ⟨(0,false),by simp [insn_Target.f,insn_isBranch.f,ck,hc],by simp [rzTarget.f,rck,hc,form_6]⟩
  ·exact ⟨(0,false),by simp [insn_Target.f,insn_isBranch.f,ck,hc],by simp [rzTarget.f,rck,hc,form_7]⟩
  ·exact ⟨(0,false),by simp [insn_Target.f,insn_isBranch.f,ck,hc],by simp [rzTarget.f,rck,hc,form_8]⟩
  ·exact ⟨(0,false),by simp [insn_Target.f,insn_isBranch.f,ck,hc],by simp [rzTarget.f,rck,hc,form_9]⟩
  ·exact ⟨(0,false),by simp [insn_Target.f,insn_isBranch.f,ck,hc],by simp [rzTarget.f,rck,hc,form_10]⟩
  ·exact ⟨(0,false),by simp [insn_Target.f,insn_isBranch.f,ck,hc],by simp [rzTarget.f,rck,hc,form_11]⟩
  ·exact ⟨(0,false),by simp [insn_Target.f,insn_isBranch.f,ck,hc],by simp [rzTarget.f,rck,hc,form_12]⟩
  ·exact ⟨(0,false),by simp [insn_Target.f,insn_isBranch.f,ck,hc],by simp [rzTarget.f,rck,hc,form_13]⟩
  ·exact ⟨(0,false),by simp [insn_Target.f,insn_isBranch.f,ck,hc],by simp [rzTarget.f,rck,hc,form_14]⟩
  ·exact ⟨(0,false),by simp [insn_Target.f,insn_isBranch.f,ck,hc],by simp [rzTarget.f,rck,hc,form_15]⟩
  ·exact ⟨(0,false),by simp [insn_Target.f,insn_isBranch.f,ck,hc],by simp [rzTarget.f,rck,hc,form_16]⟩
  ·exact ⟨(0,false),by simp [insn_Target.f,insn_isBranch.f,ck,hc],by simp [rzTarget.f,rck,hc,form_17]⟩
  ·exact ⟨(0,false),by simp [insn_Target.f,insn_isBranch.f,ck,hc],by simp [rzTarget.f,rck,hc,form_18]⟩
  ·exact ⟨(0,false),by simp [insn_Target.f,insn_isBranch.f,ck,hc],by simp [rzTarget.f,rck,hc,form_19]⟩
  ·exact ⟨(0,false),by simp [insn_Target.f,insn_isBranch.f,ck,hc],by simp [rzTarget.f,rck,hc,form_20]⟩
  ·exact ⟨(wrap64 (next+imm),true),by simp [insn_Target.f,insn_isBranch.f,ck,hc],by simp [rzTarget.f,rck,hc,form_21]⟩
  ·exact ⟨(wrap64 (next+imm),true),by simp [insn_Target.f,insn_isBranch.f,ck,hc],by simp [rzTarget.f,rck,hc,form_22]⟩
  ·exact ⟨(wrap64 (next+imm),true),by simp [insn_Target.f,insn_isBranch.f,ck,hc],by simp [rzTarget.f,rck,hc,form_23]⟩
  ·exact ⟨(wrap64 (next+imm),true),by simp [insn_Target.f,insn_isBranch.f,ck,hc],by simp [rzTarget.f,rck,hc,form_24]⟩
  ·exact ⟨(wrap64 (next+imm),true),by simp [insn_Target.f,insn_isBranch.f,ck,hc],by simp [rzTarget.f,rck,hc,form_25]⟩
  ·exact ⟨(0,false),by simp [insn_Target.f,insn_isBranch.f,ck,hc],by simp [rzTarget.f,rck,hc,form_26]⟩
  ·exact ⟨(wrap64 (next+imm),true),by simp [insn_Target.f,insn_isBranch.f,ck,hc],by simp [rzTarget.f,rck,hc,form_27]⟩
  ·exact ⟨(0,false),by simp [insn_Target.f,insn_isBranch.f,ck,hc],by simp [rzTarget.f,rck,hc,form_28]⟩
  ·exact ⟨(0,false),by simp [insn_Target.f,insn_isBranch.f,ck,hc],by simp [rzTarget.f,rck,hc,form_29]⟩
  ·exact ⟨(0,false),by simp [insn_Target.f,insn_isBranch.f,ck,hc],by simp [rzTarget.f,rck,hc,form_30]⟩
  ·exact ⟨(0,false),by simp [insn_Target.f,insn_isBranch.f,ck,hc],by simp [rzTarget.f,rck,hc,form_31]⟩
  ·exact ⟨(wrap64 (next+imm),true),by simp [insn_Target.f,insn_isBranch.f,ck,hc],by simp [rzTarget.f,rck,hc,form_32]⟩
  ·exact ⟨(0,false),by simp [insn_Target.f,insn_isBranch.f,ck,hc],by simp [rzTarget.f,rck,hc,form_33]⟩
  ·exact ⟨(0,false),by simp [insn_Target.f,insn_isBranch.f,ck,hc],by simp [rzTarget.f,rck,hc,form_34]⟩
  ·exact ⟨(0,false),by simp [insn_Target.f,insn_isBranch.f,ck,hc],by simp [rzTarget.f,rck,hc,form_76]⟩
 ·refine ⟨(0,false),?_,?_⟩
  ·simp [insn_Target.f,ck,hc]
  ·simp [rzTarget.f,rck,hc,hf2]
theorem relative_both (op a b imm:Int) (k:Nat):∃ r,insn_Relative.f (k+400) op a b imm=some r∧rzRelative.f (k+400) op a b imm=some r:=by
 obtain ⟨r,h1,h2⟩:=target_both op a b imm 0 k
 unfold insn_Relative.f rzRelative.f
 unfold insn_Target.f at h1
 rw [ck] at h1 ⊢
 rw [h2,rck]
 simp only [Option.bind_some] at h1 ⊢
 by_cases hc:chkD op a b imm=0
 ·rw [if_pos hc] at h1 ⊢
  rw [if_pos hc]
  cases hb:insn_isBranch.f op with
  | none=>rw [hb] at h1;cases h1
  | some v =>
   rw [hb] at h1
   simp only [Option.bind_some] at h1 ⊢
   cases v
   ·rw [if_neg (by decide)] at h1 ⊢
    obtain rfl:=Option.some.inj h1
    exact ⟨_,rfl,by simp⟩
   ·rw [if_pos rfl] at h1 ⊢
    obtain rfl:=Option.some.inj h1
    exact ⟨_,rfl,by simp⟩
 ·rw [if_neg hc] at h1 ⊢
  rw [if_neg hc]
  obtain rfl:=Option.some.inj h1
  exact ⟨_,rfl,by simp⟩
theorem len_f (op a b imm:Int) (k:Nat):insn_Len.f (k+400) op a b imm=some (if chkD op a b imm=0 then ((lenM (formM op):Int),0) else (0,chkD op a b imm)):=by
 unfold insn_Len.f insn_kindOf.f
 rw [ck,Option.bind_some]
 by_cases hc:chkD op a b imm=0
 ·rw [if_pos hc,if_pos hc,Option.bind_some,leO_up (f:=fun k=>insn_length.f k (formM op)) (insn_length.mono _) (length_f _) (k+399),Option.bind_some]
 ·rw [if_neg hc,if_neg hc]
theorem rlen_f (op a b imm:Int) (hn:nameM op≠[]) (k:Nat):rzLen.f (k+300) op a b imm=some (lenM (formM op):Int):=by
 obtain ⟨r,hf,hr⟩:=form_any op
 rcases hr with ⟨h0,_⟩ | ⟨_,hr,hp⟩
 ·exact absurd h0 hn
 have hb:=(bytes_ten (f:=formM op)).1
 unfold rzLen.f
 rw [show k+300=k+288+12 from rfl,hf,Option.bind_some,opnd_any hp,Option.bind_some]
 simp only
 have e1:wrap64 (1+(bytesM (formM op):Int))=((1+bytesM (formM op):Nat):Int):=by simp only [wrap64];omega
 rw [e1,wrap_succ (by omega),lenM_eq]
 by_cases cA:hasA (formM op)=true
 ·rw [if_pos cA,if_pos cA]
 ·rw [if_neg cA,if_neg cA];rfl
set_option maxHeartbeats 1000000 in
theorem InsnChecks_pure (op a b imm next:Int):lzInsnChecks.f 1000 op a b imm next=some true:=by
 obtain ⟨t,ht1,ht2⟩:=target_both op a b imm next 600
 obtain ⟨v,hv1,hv2⟩:=relative_both op a b imm 600
 have hj1:∀ k,400≤k→k≤2000→lzInsnChecks.j1 (k+1) true false op a b imm=some true:=by
  intro k h1 h2
  obtain ⟨k,rfl⟩:∃ m,k=m+400:=⟨k - 400,by omega⟩
  obtain ⟨r,hr1,hr2,hr3⟩:=reads_both op a b imm k
  obtain ⟨s,hs1,hs2,hs3⟩:=writes_both op a b imm k
  have e:∀ x:List Int,x.length≤8→lzsameInts.f (k+400) x x=some true:=by
   intro x hx
   unfold lzsameInts.f
   rw [if_pos rfl]
   exact ints_l0 x (by omega) x.length 0 (k+400) (by omega) (by omega)
  rw [lzInsnChecks.j1,if_neg (by decide),if_pos rfl,hr1,hr2,Option.bind_some,Option.bind_some,e r hr3,Option.bind_some,if_pos rfl,hs1,hs2,Option.bind_some,Option.bind_some,e s hs3,Option.bind_some]
 unfold lzInsnChecks.f
 rw [sane_true 900,Option.bind_some,ck op a b imm 900,Option.bind_some,len_f op a b imm 600,Option.bind_some,ht1,Option.bind_some,ht2,Option.bind_some,rck op a b imm 900,Option.bind_some,if_pos rfl]
 have hbd:=lenM_bd (formM op)
 by_cases hc:chkD op a b imm=0
 ·rw [if_pos hc]
  simp only
  rw [if_pos hc.symm,if_pos trivial,if_neg (by simp),hv1,hv2,Option.bind_some,Option.bind_some]
  show lzInsnChecks.j0 (999+1) _ _ _ _ _ _ _ _=_
  rw [lzInsnChecks.j0,if_neg (by simp),if_pos hc,rlen_f op a b imm (chk_name hc) 699,Option.bind_some,if_pos rfl,if_neg (by omega),if_neg (by omega)]
  exact hj1 998 (by omega) (by omega)
 ·rw [if_neg hc]
  simp only
  rw [if_pos trivial,if_pos trivial,if_neg (by simp),hv1,hv2,Option.bind_some,Option.bind_some]
  show lzInsnChecks.j0 (999+1) _ _ _ _ _ _ _ _=_
  rw [lzInsnChecks.j0,if_neg (by simp),if_neg hc]
  exact hj1 998 (by omega) (by omega)
theorem checks_any (a b c e n:Int) (w:World) (hgw:GW w) :
  Calls Tryz.prog 16 #[.agg #[.int .i64 a,.int .i64 b,.int .i64 c,.int .i64 e],.int .i64 n] w fun e w'=>e=.returned (.bool true)∧Below w.heap.size w w' :=
 lzInsnChecks.calls 1000 a b c e n true w (InsnChecks_pure a b c e n) hgw
end Go.Proofs.YtffojmgmpfjlhaaGreatDoor.Q
namespace Go.Proofs.YtffojmgmpfjlhaaGreatDoor.insnChecks
open Go.ChangeShapes Go.WideShapes Go.ChangeAt Go.RowKit
open Go.ChangeMaps (open_string shut_string)
set_option maxRecDepth 100000 in
theorem lifted (os:Os) (started:os.Started) (H:Type) (enc:TypeId × Value→H) :
  ReturnsInHanded {} Tryz.checked os 16 .any (fun w args=>(Rows.insnChecksSpec.pre enc Tryz.prog Tryz.f16 [] false w args∧laidMetH Tryz.prog insnLaid w)∧sizedMet enc Tryz.prog Tryz.f16 (OpenSpec.ofChange Rows.insnChecksSpec) false w args)
   (Rows.insnChecksSpec.post enc Tryz.prog Tryz.f16 false true false false):=by
 refine handed_and_shaped (C:=Tryz.checked) (X:=fun w _=>laidMetH Tryz.prog insnLaid w) (fun _ _ _ hh h=>h.of_heap hh) own started (by kernel_rfl) Tryz.func16
  (ChangeSpec.witness_shaped (enc:=enc) (C:=Tryz.checked) (os:=os) (X:=fun w _=>laidMetH Tryz.prog insnLaid w) false (World.laidAll Tryz.prog os insnLaid) #[.agg #[.int .i64 0,.int .i64 0,.int .i64 0,.int .i64 0],.int .i64 0] 8 rfl (laid_shaped os) (by kernel_rfl) (by kernel_rfl) (by kernel_rfl) (laid_met os _)) ?_
 intro W base args ds gs before hval0 hW hcnd hsz0 hL hsh _
 have hgw:=of_laid hL hsh
 clear hL hsh
 have hsz:(DataW.weightsEach Tryz.prog (Tryz.f16.params.toList ++ Rows.insnChecksSpec.plain.varTypes Tryz.prog) (ds ++ gs)).all (·≤reachBytes)=true:=hsz0
 have hval:∀ (j:Nat) t v,Tryz.f16.params[j]?=some t→args[j]?=some v→Value.okWide Tryz.prog W .any base t v:=hval0
 have hW':=hW
 obtain ⟨p,q,hA0,hV,rfl,hfz,hnd⟩:=hW
 have hA:DataW.TrodAll enc Tryz.prog W 0 (fun _=>true) true Tryz.f16.params.toList args.toList ds p:=hA0
 rw [Tryz.params16] at hA hval hsz
 obtain ⟨v0,vs0,d0,ds0,p0,q0,hargs,rfl,rfl,h0,r0⟩:=trodAll_cons hA
 obtain ⟨v1,vs1,d1,ds1,p1,q1,rfl,rfl,rfl,h1,r1⟩:=trodAll_cons r0
 obtain ⟨rfl,rfl,rfl⟩:=trodAll_nil r1
 obtain rfl:args=#[v0,v1]:=by cases args;simp_all
 obtain ⟨rfl,rfl⟩:=trodVars_none hV
 have k0:=h0
 have lt0:∀ x∈p0,x.block < W.heap.size:=by obtain ⟨m,hm⟩:=k0;exact DataW.trod_lt m _ _ _ hm
 obtain ⟨a0,b0,c0,e0,rfl,wa0,wb0,wc0,we0⟩:=Q.open_insn (hval 0 23 v0 rfl rfl) h0
 obtain ⟨a1,rfl,rfl,rfl,w1⟩:=open_int Tryz.underlying2 (hval 1 2 v1 rfl rfl) h1
 clear hA0 hval0 hsz0 hsz
 refine (Q.checks_any a0 b0 c0 e0 a1 W hgw).mono fun e W' ⟨he,bel⟩=>?_
 subst he
 exact ⟨_,rfl,_,_,_,[],_,[],hW',trodAll_mk1 (shut_bool Tryz.underlying4 _),(trodAll_cons_mk (Below.trod Q.laidOut (by kernel_rfl) (of_decide_eq_true (by kernel_rfl)) k0 bel lt0) (trodAll_cons_mk (shut_int Tryz.underlying2 w1) trodAll_mk0)),rfl,bel.frame _,fun h=>by cases h⟩
theorem over:Rows.InsnChecksSaid :=
 OpenClaim.holds_of_wide 16 Tryz.f16 rfl rfl rfl rfl rfl rfl rfl ⟨rfl,rfl,rfl,rfl,rfl⟩ rfl rfl rfl rfl rfl (by kernel_rfl) Tryz.func16 (by kernel_rfl)
  (of_decide_eq_true (by kernel_rfl)) (by unfold Func.isWrapper;first | (rw [if_pos (by decide +kernel)];kernel_rfl) | (rw [if_neg (by decide +kernel)];exact ⟨rfl,rfl⟩))
  (fun os started H enc _=>lifted os started H enc)
end Go.Proofs.YtffojmgmpfjlhaaGreatDoor.insnChecks
namespace Go.Proofs.YtffojmgmpfjlhaaGreatDoor
theorem insnChecks_card:Rows.InsnChecksCardSaid :=
 Claim7.holds_tied_plain_at .later [] [.data,.data,.data,.data,.sentinel,.sentinel,.data,.pinned] true (true, "80711ac449649a074bc558eb23188a5f300da04a61053c1048030e6933e8af92") true
  insnChecks.over (fun _ h=>by cases h) (by kernel_rfl) (fun _ h=>by cases h) insnChecks_row_tie rfl ⟨rfl,rfl⟩ (by kernel_rfl) rfl
  (fun f fn hf hfn=>by
   obtain rfl:f=16:=Option.some.inj ((show Tryz.prog.funcNamed "tapline/taplinelaw02.InsnChecks" = some 16 by kernel_rfl).symm.trans hf) |>.symm
   obtain rfl:fn=Tryz.f16:=(Option.some.inj (Tryz.func16.symm.trans hfn)).symm
   exact ⟨by kernel_rfl,fun j t ht=>by
    rw [Tryz.params16] at ht
    have hm:t∈[23,2]:=by simpa using Array.mem_of_getElem? ht
    have hall:([23,2].all fun u=>!Tryz.prog.wantsStandIn u)=true:=by kernel_rfl
    exact (show Tryz.prog.wantsStandIn t=false by simpa using List.all_eq_true.1 hall t hm)⟩)
  (by kernel_rfl)
#print axioms insnChecks_card
end Go.Proofs.YtffojmgmpfjlhaaGreatDoor
