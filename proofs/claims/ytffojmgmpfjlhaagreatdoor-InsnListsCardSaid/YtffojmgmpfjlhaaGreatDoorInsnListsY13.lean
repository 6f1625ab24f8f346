/- Parts of the proof of InsnLists. -/
import Derived.Test.YtffojmgmpfjlhaaGreatDoorInsnListsY12
import Derived.Deep.Slices
import Derived.Deep.Fields
import Derived.ChangeSame
import Derived.ChangeSlices
import Derived.ChangeArms
import Derived.Lib.SmallJoins
set_option maxHeartbeats 8000000
set_option maxRecDepth 100000
set_option linter.unusedVariables false
set_option linter.unusedSimpArgs false
namespace Go.Proofs.YtffojmgmpfjlhaaGreatDoor.Q
open Go.Proofs.Ix hiding rd
open Go Go.Proofs.YtffojmgmpfjlhaaGreatDoor Go.RowKit Go.Proofs.YtffojmgmpfjlhaaGreatDoorW.PrintWords
theorem xu64 {n:Int} (h0:0≤n) (h1:n < 18446744073709551616):IntKind.u64.wrap n=n:=IntWalk.u64_in n ⟨h0,by omega⟩
theorem one_num (x:Nat) (h:x < 10):strOfNums [(IntKind.u64.wrap (48+(x:Int))) % 256]=bS [UInt8.ofNat (48+x)]:=by
 have key:∀ i:Fin 10,strOfNums [(IntKind.u64.wrap (48+((i.val:Nat):Int))) % 256]=bS [UInt8.ofNat (48+i.val)]:=by decide +kernel
 exact key ⟨x,h⟩
theorem dec_more {n:Nat} (h:¬ n < 10):Lib.decDigits n=Lib.decDigits (n / 10) ++ [UInt8.ofNat (48+n % 10)]:=by rw [Lib.decDigits,dif_neg h]
theorem rdig_f:∀ (k n:Nat),n < 10 ^ (k+1)→n < 18446744073709551616→k < 100→rzDigits.f (k+1) (n:Int)=some (bS (Lib.decDigits n))∧(Lib.decDigits n).length≤k+1
 | 0,n,h,_,_=>by
  have h:n < 10:=by simpa using h
  rw [rzDigits.f,if_pos (by omega),one_num n h,Lib.decDigits_one h]
  exact ⟨rfl,by simp⟩
 | k+1,n,h,hu,hk=>by
  by_cases h10:n < 10
  ·rw [rzDigits.f,if_pos (by omega),one_num n h10,Lib.decDigits_one h10]
   exact ⟨rfl,by simp⟩
  ·have ih:=rdig_f k (n / 10) (by rw [Nat.pow_succ] at h;omega) (by omega) (by omega)
   have e1:Int.tdiv (n:Int) 10=((n / 10:Nat):Int):=by rw [Int.tdiv_eq_ediv_of_nonneg (by omega)];omega
   have e2:Int.tmod (n:Int) 10=((n % 10:Nat):Int):=by rw [Int.tmod_eq_emod_of_nonneg (by omega)];omega
   have hl:=ih.2
   rw [rzDigits.f,if_neg (by omega),e1,e2,xu64 (by omega) (by omega),ih.1,Option.bind_some,Option.bind_some,one_num _ (by omega),dec_more h10,if_pos (by rw [bS_len,bS_len,List.length_singleton];omega),bS_app,List.length_append,List.length_singleton]
   exact ⟨rfl,by omega⟩
theorem rdig_n (n:Nat) (h:n < 18446744073709551616) (k:Nat):rzDigits.f (k+25) (n:Int)=some (bS (Lib.decDigits n))∧(Lib.decDigits n).length≤25:=by
 have:=rdig_f 24 n (by omega) h (by omega)
 exact ⟨leO_up (rzDigits.mono _) this.1 k,this.2⟩
theorem rreg_f {x:Int} (h0:0≤x) (h7:x≤7) (k:Nat):rzregister.f (k+25) x=some (bS (regW x)):=by
 obtain ⟨n,rfl⟩:∃ n:Nat,x=(n:Int):=⟨x.toNat,by omega⟩
 have h:=rdig_n n (by omega) k
 unfold rzregister.f
 rw [xu64 (by omega) (by omega),h.1,Option.bind_some,if_pos (by rw [bS_len];have:=h.2;omega),b1,bS_app]
 rw [Lib.decDigits_one (by omega)]
 rfl
theorem rsize_f {v:Int} (h0:-9223372036854775808≤v) (h1:v≤9223372036854775807):rzsize.f v=some ((v.natAbs:Nat):Int):=by
 unfold rzsize.f
 have hw:∀ x:Int,IntKind.u64.wrap x=x % 18446744073709551616:=fun x=>rfl
 by_cases h:v < 0
 ·rw [if_pos h,hw,hw]
  congr 1
  omega
 ·rw [if_neg h,hw]
  congr 1
  omega
theorem rnum_f {v:Int} (h0:-9223372036854775808≤v) (h1:v≤9223372036854775807) (k:Nat):rzNumber.f (k+25) v=some (bS (numW v)):=by
 unfold rzNumber.f numW Lib.itoa
 by_cases h:v < 0
 ·have hd:=rdig_n v.natAbs (by omega) k
  rw [if_pos h,if_pos h,rsize_f h0 h1,Option.bind_some,hd.1,Option.bind_some,if_pos (by rw [bS_len];have:=hd.2;omega),b1,bS_app]
  rfl
 ·obtain ⟨n,rfl⟩:∃ n:Nat,v=(n:Int):=⟨v.toNat,by omega⟩
  have hd:=rdig_n n (by omega) k
  rw [if_neg h,if_neg h,xu64 (by omega) (by omega),hd.1,Option.bind_some,Int.toNat_natCast]
theorem rtgt_f {v:Int} (h0:-9223372036854775808≤v) (h1:v≤9223372036854775807) (k:Nat):rztarget.f (k+25) v=some (bS (distW v)):=by
 have hd:=rdig_n v.natAbs (by omega) k
 unfold rztarget.f distW numW Lib.itoa
 by_cases h:v < 0
 ·rw [if_pos h,if_pos h,if_pos h,rsize_f h0 h1,Option.bind_some,hd.1,Option.bind_some,if_pos (by rw [bS_len];have:=hd.2;omega)]
  exact congrArg some (bS_app [46,45] _)
 ·rw [if_neg h,if_neg h,if_neg h,rsize_f h0 h1,Option.bind_some,hd.1,Option.bind_some,if_pos (by rw [bS_len];have:=hd.2;omega),show v.toNat=v.natAbs by omega]
  exact congrArg some (bS_app [46,43] _)
theorem radr_f {op a b v:Int} (hb0:0≤b) (hb7:b≤7) (h0:-9223372036854775808≤v) (h1:v≤9223372036854775807) (k:Nat):rzaddress.f (k+25) op a b v=some (bS (addrW b v)):=by
 have hd:=rdig_n v.natAbs (by omega) k
 have hl:=hd.2
 unfold rzaddress.f addrW numW Lib.itoa
 simp only [b1,rreg_f hb0 hb7,rsize_f h0 h1,hd.1,Option.bind_some,bS_app,bS_len,List.length_append,List.length_cons,List.length_nil,show (regW b).length=2 from rfl]
 by_cases hz:v=0
 ·subst hz
  rw [if_pos rfl,if_pos (by omega),if_pos (by omega),if_neg (by omega),if_neg (by omega)]
  simp
 ·by_cases hn:v < 0
  ·rw [if_neg hz,if_pos hn,if_pos (by omega),if_pos (by omega),if_pos (by omega),if_pos (by omega),if_neg (by omega),if_pos hn,if_pos hn]
   simp
  ·rw [if_neg hz,if_neg hn,if_pos (by omega),if_pos (by omega),if_pos (by omega),if_pos (by omega),if_pos (by omega),if_neg hn,show v.toNat=v.natAbs by omega]
   simp
theorem mn_any {op:Int} (hv:nameM op≠[]):rzMnemonic.f op=some (bS (nameM op)):=by
 have:=op_valid hv
 obtain ⟨n,rfl⟩:∃ n:Nat,op=(n:Int):=⟨op.toNat,by omega⟩
 exact mn_f (by omega)
theorem b2_ (x y:UInt8):(⟨#[x,y]⟩:ByteArray)=bS [x,y]:=rfl
theorem b3_ (x y z:UInt8):(⟨#[x,y,z]⟩:ByteArray)=bS [x,y,z]:=rfl
theorem rprint_f {op a b v:Int} (hv:nameM op≠[]) (o:Ok1 op a b v) (k:Nat):rzPrint.f (k+30) op a b v=some (bS (printW op a b v)):=by
 have hop:=op_valid hv
 obtain ⟨i,rfl⟩:∃ n:Nat,op=(n:Int):=⟨op.toNat,by omega⟩
 have hi:i≤76:=by omega
 have h1:=cl_fin ⟨i,by omega⟩ hv
 unfold clB at h1
 cases hr:rzForm.f 12 (i:Int) with
 | none=>rw [hr] at h1;cases h1
 | some r =>
  rw [hr] at h1
  simp only [Bool.and_eq_true,decide_eq_true_eq] at h1
  obtain ⟨⟨hz,hp⟩,hc⟩:=h1
  have hf:∀ k,rzForm.f (k+12) (i:Int)=some r:=fun k=>leO_up (rzForm.mono _) hr k
  have hn:=name_len (i:Int)
  have hnum:=num_len o.v0 o.v1
  have hA:rzregister.f (k+30) a=some (bS (regW a)):=rreg_f o.a0 o.a7 (k+5)
  have hB:rzregister.f (k+30) b=some (bS (regW b)):=rreg_f o.b0 o.b7 (k+5)
  have hla:(rdW a b v .addr).length≤40:=rdW_len o .addr
  have hlt:(rdW a b v .target).length≤40:=rdW_len o .target
  have hla:(addrW b v).length≤40:=hla
  have hlt:(distW v).length≤40:=hlt
  have hlr:∀ x,(regW x).length=2:=fun _=>rfl
  unfold rzPrint.f
  rw [mn_any hv,Option.bind_some,hA,Option.bind_some,hB,Option.bind_some,show rzForm.f (k+30) (i:Int)=some r from hf (k+18),Option.bind_some]
  unfold printW
  have N0:∀ m,rzNumber.f (m+25) v=some (bS (numW v)):=rnum_f o.v0 o.v1
  have T0:∀ m,rztarget.f (m+25) v=some (bS (distW v)):=rtgt_f o.v0 o.v1
  have A0:∀ m,rzaddress.f (m+25) (i:Int) a b v=some (bS (addrW b v)):=radr_f o.b0 o.b7 o.v0 o.v1
  have hnum:(numW v).length≤21:=hnum
  generalize hst:stB (i:Int)=st at hc
  simp only [clT,List.mem_cons,List.not_mem_nil,or_false,Prod.mk.injEq] at hc
  have j0_:∀ x3 x4 x5 x17 x27 p q r s,rzPrint.j0 (k+30) x3 x4 x5 x17 x27 p q r s=rzPrint.j0 (k+29+1) x3 x4 x5 x17 x27 p q r s:=fun _ _ _ _ _ _ _ _ _=>rfl
  have j1_:∀ x3 x4 x48 p q r s,rzPrint.j1 (k+29) x3 x4 x48 p q r s=rzPrint.j1 (k+28+1) x3 x4 x48 p q r s:=fun _ _ _ _ _ _ _=>rfl
  rcases hc with ⟨rfl,rfl,hq⟩ | ⟨rfl,rfl,hq⟩ | ⟨rfl,rfl,hq⟩ | ⟨rfl,rfl,hq⟩ | ⟨rfl,rfl,hq⟩ | ⟨rfl,rfl,hq⟩ | ⟨rfl,rfl,hq⟩ | ⟨rfl,rfl,hq⟩ | ⟨rfl,rfl,hq⟩ | ⟨rfl,rfl,hq⟩ | ⟨rfl,rfl,hq⟩ | ⟨rfl,rfl,hq⟩
  ·have hrd:=map_rdN (m:=[]) hq
   rw [hrd]
   rw [if_neg (by decide),if_neg (by decide),j0_,rzPrint.j0]
   rw [if_neg (by decide)]
   rw [if_neg (by decide),if_neg (by decide),if_neg (by decide),if_neg (by decide),if_neg (by decide),if_neg (by decide),if_neg (by decide)]
   simp [opW,tailW,rdW,memW]
  ·have hrd:=map_rdN (m:=[.a,.b]) hq
   rw [hrd]
   rw [if_pos rfl]
   simp only [b1,b2_,b3_,bS_app,bS_len,List.length_append,List.length_cons,List.length_nil,hlr]
   rw [if_pos (by omega),if_pos (by omega),if_pos (by omega),if_pos (by omega)]
   simp [opW,tailW,rdW,memW]
  ·have hrd:=map_rdN (m:=[.a,.num]) hq
   rw [hrd]
   rw [if_neg (by decide),if_pos rfl,j0_,rzPrint.j0,if_pos (by rfl),N0 (k+4),Option.bind_some]
   simp only [b1,b2_,b3_,bS_app,bS_len,List.length_append,List.length_cons,List.length_nil,hlr]
   rw [if_pos (by omega),if_pos (by omega),if_pos (by omega),if_pos (by omega)]
   simp [opW,tailW,rdW,memW]
  ·have hrd:=map_rdN (m:=[.a,.num]) hq
   rw [hrd]
   rw [if_neg (by decide),if_neg (by decide),j0_,rzPrint.j0]
   rw [if_pos (by rfl),N0 (k+4),Option.bind_some]
   simp only [b1,b2_,b3_,bS_app,bS_len,List.length_append,List.length_cons,List.length_nil,hlr]
   rw [if_pos (by omega),if_pos (by omega),if_pos (by omega),if_pos (by omega)]
   simp [opW,tailW,rdW,memW]
  ·have hrd:=map_rdN (m:=[.a,.addr]) hq
   rw [hrd]
   rw [if_neg (by decide),if_neg (by decide),j0_,rzPrint.j0]
   rw [if_neg (by decide)]
   rw [if_pos rfl]
   have hst2:(if (i:Int)=19 then rzPrint.j1 (k+29) (bS (nameM (i:Int))) (bS (regW a)) true (i:Int) a b v else rzPrint.j1 (k+29) (bS (nameM (i:Int))) (bS (regW a)) ((i:Int) == 20) (i:Int) a b v)=rzPrint.j1 (k+29) (bS (nameM (i:Int))) (bS (regW a)) (stB (i:Int)) (i:Int) a b v:=by
    unfold stB
    by_cases h:(i:Int)=19
    ·rw [if_pos h,decide_eq_true h];rfl
    ·rw [if_neg h,decide_eq_false h];rfl
   rw [hst2,hst,j1_,rzPrint.j1,if_neg (by decide),A0 (k+3),Option.bind_some]
   simp only [b1,b2_,b3_,bS_app,bS_len,List.length_append,List.length_cons,List.length_nil,hlr]
   rw [if_pos (by omega),if_pos (by omega),if_pos (by omega),if_pos (by omega)]
   simp [opW,tailW,rdW,memW]
  ·have hrd:=map_rdN (m:=[.addr,.a]) hq
   rw [hrd]
   rw [if_neg (by decide),if_neg (by decide),j0_,rzPrint.j0]
   rw [if_neg (by decide)]
   rw [if_pos rfl]
   have hst2:(if (i:Int)=19 then rzPrint.j1 (k+29) (bS (nameM (i:Int))) (bS (regW a)) true (i:Int) a b v else rzPrint.j1 (k+29) (bS (nameM (i:Int))) (bS (regW a)) ((i:Int) == 20) (i:Int) a b v)=rzPrint.j1 (k+29) (bS (nameM (i:Int))) (bS (regW a)) (stB (i:Int)) (i:Int) a b v:=by
    unfold stB
    by_cases h:(i:Int)=19
    ·rw [if_pos h,decide_eq_true h];rfl
    ·rw [if_neg h,decide_eq_false h];rfl
   rw [hst2,hst,j1_,rzPrint.j1,if_pos rfl,A0 (k+3),Option.bind_some]
   simp only [b1,b2_,b3_,bS_app,bS_len,List.length_append,List.length_cons,List.length_nil,hlr]
   rw [if_pos (by omega),if_pos (by omega),if_pos (by omega),if_pos (by omega)]
   simp [opW,tailW,rdW,memW]
  ·have hrd:=map_rdN (m:=[.a,.b,.target]) hq
   rw [hrd]
   rw [if_neg (by decide),if_neg (by decide),j0_,rzPrint.j0]
   rw [if_neg (by decide)]
   rw [if_neg (by decide),if_pos rfl]
   rw [T0 (k+4),Option.bind_some]
   simp only [b1,b2_,b3_,bS_app,bS_len,List.length_append,List.length_cons,List.length_nil,hlr]
   rw [if_pos (by omega),if_pos (by omega),if_pos (by omega),if_pos (by omega),if_pos (by omega),if_pos (by omega)]
   simp [opW,tailW,rdW,memW]
  ·have hrd:=map_rdN (m:=[.target]) hq
   rw [hrd]
   rw [if_neg (by decide),if_neg (by decide),j0_,rzPrint.j0]
   rw [if_neg (by decide)]
   rw [if_neg (by decide),if_neg (by decide),if_pos rfl]
   rw [T0 (k+4),Option.bind_some]
   simp only [b1,b2_,b3_,bS_app,bS_len,List.length_append,List.length_cons,List.length_nil,hlr]
   rw [if_pos (by omega),if_pos (by omega)]
   simp [opW,tailW,rdW,memW]
  ·have hrd:=map_rdN (m:=[.a]) hq
   rw [hrd]
   rw [if_neg (by decide),if_neg (by decide),j0_,rzPrint.j0]
   rw [if_neg (by decide)]
   rw [if_neg (by decide),if_neg (by decide),if_neg (by decide),if_pos rfl]
   simp only [b1,b2_,b3_,bS_app,bS_len,List.length_append,List.length_cons,List.length_nil,hlr]
   rw [if_pos (by omega),if_pos (by omega)]
   simp [opW,tailW,rdW,memW]
  ·have hrd:=map_rdN (m:=[.a,.target]) hq
   rw [hrd]
   rw [if_neg (by decide),if_neg (by decide),j0_,rzPrint.j0]
   rw [if_neg (by decide)]
   rw [if_neg (by decide),if_neg (by decide),if_neg (by decide),if_neg (by decide),if_pos rfl]
   rw [T0 (k+4),Option.bind_some]
   simp only [b1,b2_,b3_,bS_app,bS_len,List.length_append,List.length_cons,List.length_nil,hlr]
   rw [if_pos (by omega),if_pos (by omega),if_pos (by omega),if_pos (by omega)]
   simp [opW,tailW,rdW,memW]
  ·have hrd:=map_rdN (m:=[.num]) hq
   rw [hrd]
   rw [if_neg (by decide),if_neg (by decide),j0_,rzPrint.j0]
   rw [if_neg (by decide)]
   rw [if_neg (by decide),if_neg (by decide),if_neg (by decide),if_neg (by decide),if_neg (by decide),if_pos rfl]
   rw [N0 (k+4),Option.bind_some]
   simp only [b1,b2_,b3_,bS_app,bS_len,List.length_append,List.length_cons,List.length_nil,hlr]
   rw [if_pos (by omega),if_pos (by omega)]
   simp [opW,tailW,rdW,memW]
  ·have hrd:=map_rdN (m:=[.a,.mem]) hq
   rw [hrd]
   rw [if_neg (by decide),if_neg (by decide),j0_,rzPrint.j0]
   rw [if_neg (by decide)]
   rw [if_neg (by decide),if_neg (by decide),if_neg (by decide),if_neg (by decide),if_neg (by decide),if_neg (by decide),if_pos rfl]
   simp only [b1,b2_,b3_,bS_app,bS_len,List.length_append,List.length_cons,List.length_nil,hlr]
   rw [if_pos (by omega),if_pos (by omega),if_pos (by omega),if_pos (by omega),if_pos (by omega)]
   simp [opW,tailW,rdW,memW]
end Go.Proofs.YtffojmgmpfjlhaaGreatDoor.Q
namespace Go.Proofs.YtffojmgmpfjlhaaGreatDoor.Q
open Go.Proofs.YtffojmgmpfjlhaaGreatDoor Go.RowKit Go.Proofs.YtffojmgmpfjlhaaGreatDoorW.PrintWords Go.Proofs.YtffojmgmpfjlhaaGreatDoorW.PrintLast Go.Proofs.YtffojmgmpfjlhaaGreatDoorW.PrintMore
attribute [local go_sem] max2_int min2_int max_two min_two max_three min_three max_four min_four
def rzSweep.l0:Nat→List Int→Int→List (S23)→List Int→Int→Option ((List (S23)) × List Int × Int)
 | 0,_,_,_,_,_=>none
 | k+1,x0,x4,x796000,x796001,x796002=>if x4 < (x0.length:Int) then (if 0≤x4 then (if x4≤(x0.length:Int) then ((rzDecode.f k (x0.drop (x4:Int).toNat)).bind fun bt797=>(if bt797.2.2.2.2.2=0 then (if x796000.length < 4398046511104 then (if x796001.length < 17592186044416 then (rzSweep.l0 k x0 (wrap64 (x4+bt797.2.2.2.2.1)) (x796000 ++ [(⟨bt797.1,bt797.2.1,bt797.2.2.1,bt797.2.2.2.1⟩:S23)]) (x796001 ++ [x4]) x796002) else (none)) else (none)) else (some (([]:List (S23)),([]:List Int),bt797.2.2.2.2.2)))) else (none)) else (none)) else (some (x796000,x796001,x796002))
def rzSweep.f (k:Nat) (l0:List Int):Option ((List (S23)) × List Int × Int):=if (l0.length:Int) > 2048 then (some (([]:List (S23)),([]:List Int),2)) else (rzSweep.l0 k l0 0 ([]:List (S23)) ([]:List Int) 0)
theorem rzSweep.mono_l:∀ k,(∀ y0 y1 y2 y3 y4,LeO (rzSweep.l0 k y0 y1 y2 y3 y4) (rzSweep.l0 (k+1) y0 y1 y2 y3 y4))
 | 0=>fun _ _ _ _ _ r h=>by simp [rzSweep.l0] at h
 | k+1=>by
  have ih0:=rzSweep.mono_l k
  ·intro y0 y1 y2 y3 y4;unfold rzSweep.l0;repeat' first | (with_reducible first | exact ih0 _ _ _ _ _ | exact rzDecode.mono _ _ | exact LeO.refl _ | exact LeO.none _ | refine LeO.ite ?_ ?_ | refine LeO.bind ?_ (fun _=>?_)) | exact LeO.none _ | refine LeO.ite ?_ ?_ | refine LeO.bind ?_ (fun _=>?_)
theorem rzSweep.mono:∀ a0 k,LeO (rzSweep.f k a0) (rzSweep.f (k+1) a0):=by
 intro a0 k;have ih0:=rzSweep.mono_l k;unfold rzSweep.f;repeat' first | (with_reducible first | exact ih0 _ _ _ _ _ | exact rzDecode.mono _ _ | exact LeO.refl _ | exact LeO.none _ | refine LeO.ite ?_ ?_ | refine LeO.bind ?_ (fun _=>?_)) | exact LeO.none _ | refine LeO.ite ?_ ?_ | refine LeO.bind ?_ (fun _=>?_)
theorem rzSweep.calls (k:Nat) (A0:Option Addr) (c0:Nat) (l0:List Int) (r1:List (S23)) (r2:List Int) (r3:Int) (w:World) (hr0:Kd.C (Kd.int .u8) w A0 l0.length l0) (hc0:l0.length≤c0) (h:rzSweep.f k l0=some (r1,r2,r3)) :
  Calls Tryz.prog 34 #[.slice A0 l0.length c0] w fun e w'=>∃ v0_ v1_:Value,e=.returned (.agg #[v0_,v1_,.int .i64 r3])∧Kd.R k23 23 w' w.heap.size (fun _=>True) v0_ r1∧Kd.R (Kd.int .i64) 3 w' w.heap.size (fun _=>True) v1_ r2∧Below w.heap.size w w':=by
 have hu70:=Tryz.underlying70;have hu35:=Tryz.underlying35;have hu23:=Tryz.underlying23;have HR0:=Aside0.mk hr0;have HC0:=Aside0.mk hc0;clear hr0 hc0;have HB:=Aside0.mk (Below.refl w.heap.size w);unfold rzSweep.f at h;have H:=h;clear h;by_cases c2:(l0.length:Int) > 2048
 ·rw [if_pos c2] at H;have c2b0:decide (2048 < (l0.length:Int))=true:=decide_eq_true c2;have c2b1:decide (2048 < l0.length)=true:=decide_eq_true (by omega);clear c2;simp only [Option.some.injEq,Prod.mk.injEq] at H;obtain ⟨rfl,rfl,rfl⟩:=H;go_enter Tryz.func34,Tryz.ntmps34
  go_wp2_with (first | ((with_reducible refine gate_dst (N:=2) rfl ?_);refine bxe (N:=2) (cs:=#[.slice none 0 0,.slice none 0 0,.int .i64 0]) (t:=70) ?_;intro gb794 hg w3 hbox hb;have BK794:=Aside0.mk hbox;have GW794:Aside0 (w.heap.size≤gb794):=⟨gwb⟩;have GE794:Aside0 (w.heap.size≤gb794):=⟨gwb⟩;replace HB:=Aside0.mk (below_step blw hb);clear hb hbox hg;obtain ⟨_,_,_,_,_,_⟩:=bz3 BK794.out))
  refine bodyPost_ret (results_cell_row rfl _ _ gb794 70 #[.slice none 0 0,.slice none 0 0,.int .i64 2] (0,0) _ rfl (by (with_reducible repeat (first | refine blk_drewN ?_ _ | refine blk_drew ?_ | refine blk_alloc ?_ _));refine blk_put (cs:=#[.slice none 0 0,.slice none 0 0,.int .i64 0]) ?_ 2 _ rfl;refine blk_put (cs:=#[.slice none 0 0,.slice none 0 0,.int .i64 0]) ?_ 1 _ rfl;refine blk_put (cs:=#[.slice none 0 0,.slice none 0 0,.int .i64 0]) ?_ 0 _ rfl;exact bko) Tryz.underlying70 rfl (by kernel_rfl)) rfl ?_;exact ⟨_,_,by first | rfl | (simp [errW_none,errW_some] <;> rfl) | (simp [*,errW_none,errW_some] <;> rfl),by first | exact Kd.R_nil _ _ _ _ _ | exact Kd.N_nil _ _ _ _ _ | exact Kd.V_nil _ _ _ _ _ | exact Kd.Q_nil _ _ _ _ _ | exact Kd.S_nil _ _ _ _ _,by first | exact Kd.R_nil _ _ _ _ _ | exact Kd.N_nil _ _ _ _ _ | exact Kd.V_nil _ _ _ _ _ | exact Kd.Q_nil _ _ _ _ _ | exact Kd.S_nil _ _ _ _ _,blw⟩
 ·rw [if_neg c2] at H;have c2b0:decide (2048 < (l0.length:Int))=false:=decide_eq_false c2;have c2b1:decide (2048 < l0.length)=false:=decide_eq_false (by omega);clear c2;have H':=Aside0.mk H;clear H;go_enter Tryz.func34,Tryz.ntmps34
  go_wp2_with (first | ((with_reducible refine gate_dst (N:=2) rfl ?_);refine bxe (N:=2) (cs:=#[.slice none 0 0,.slice none 0 0,.int .i64 0]) (t:=70) ?_;intro gb794 hg w5 hbox hb;have BK794:=Aside0.mk hbox;have GW794:Aside0 (w.heap.size≤gb794):=⟨gwb⟩;have GE794:Aside0 (w.heap.size≤gb794):=⟨gwb⟩;replace HB:=Aside0.mk (below_step blw hb);clear hb hbox hg) | ((with_reducible refine gate_dst (N:=3) rfl ?_);refine bxe (N:=3) (cs:=#[.slice none 0 0,.slice none 0 0,.int .i64 0]) (t:=70) ?_;intro gb795 hg w6 hbox hb;have BK795:=Aside0.mk hbox;have GW795:Aside0 (w.heap.size≤gb795):=⟨gwb⟩;have GE795:Aside0 (w.heap.size≤gb795):=⟨gwb⟩;replace HB:=Aside0.mk (below_step blw hb);have NB794_795:Aside0 (gb794≠gb795):=⟨nbk⟩;replace BK794:=Aside0.mk (blk_below (g:=gb794) bko hb);have NB795_794:=Aside0.mk NB794_795.out.symm;clear hb hbox hg))
  try simp only [Act.put,List.setIfInBounds_toArray,List.set_cons_zero,List.set_cons_succ]
  go_loopg [4] k (fun kq v4 w'=>∃ (x4_1:Int) (x795002_1:Int) (x796000_1:List (S23)) (x796001_1:List Int) (u796000:Value) (u796001:Value),v4=.int .i64 x4_1∧Aside0 (rzSweep.l0 kq l0 x4_1 x796000_1 x796001_1 0=some (r1,r2,r3))∧Aside0 (kq≤k)∧Aside0 (Kd.R k23 23 w' w.heap.size (fun _=>True) u796000 x796000_1)∧Aside0 (Kd.R (Kd.int .i64) 3 w' w.heap.size (fun _=>True) u796001 x796001_1)∧Aside0 (w'.heap[gb794]?=some (.cells #[(.slice none 0 0),(.slice none 0 0),.int .i64 x795002_1] 70 (0,0)))∧Aside0 (w'.heap[gb795]?=some (.cells #[u796000,u796001,.int .i64 0] 70 (0,0)))∧Aside0 (Below w.heap.size w w'))
  case atStart=>exact ⟨(0),(0),(([]:List (S23))),(([]:List Int)),(.slice none 0 0),(.slice none 0 0),rsd,H',⟨Nat.le_refl _⟩,⟨by first | exact Kd.R_nil _ _ _ _ _ | exact Kd.N_nil _ _ _ _ _ | exact Kd.V_nil _ _ _ _ _ | exact Kd.Q_nil _ _ _ _ _ | exact Kd.S_nil _ _ _ _ _⟩,⟨by first | exact Kd.R_nil _ _ _ _ _ | exact Kd.N_nil _ _ _ _ _ | exact Kd.V_nil _ _ _ _ _ | exact Kd.Q_nil _ _ _ _ _ | exact Kd.S_nil _ _ _ _ _⟩,⟨bko⟩,⟨bko⟩,⟨blw⟩⟩
  case round =>
   clear H';try clear c2b0
   try clear c2b1
   obtain ⟨x4_1,x795002_1,x796000_1,x796001_1,u796000,u796001,rfl,HA,HK1,HO_796000,HO_796001,BK794,BK795,HB⟩:=hrel;cases gk with
   | zero=>exact absurd HA.out (by simp [rzSweep.l0])
   | succ k1 =>
    have H:=HA.out;clear HA;simp only [rzSweep.l0] at H;by_cases c7:x4_1 < (l0.length:Int)
    ·rw [if_pos c7] at H;have c7b0:=decide_eq_true c7;clear c7;by_cases c8:0≤x4_1
     ·rw [if_pos c8] at H;have c8b0:=eq_true c8;have c8b1:=decide_eq_true c8;clear c8;by_cases c9:x4_1≤(l0.length:Int)
      ·rw [if_pos c9] at H;have c9b0:=eq_true c9;have c9b1:=decide_eq_true c9;clear c9;obtain ⟨⟨t797,t798,t799,t800,t801,t802⟩,A10,H⟩:=bas H;(try dsimp only at H);by_cases c11:t802=0
       ·rw [if_pos c11] at H;obtain ⟨c11b0,c11b1⟩:=bqt c11;clear c11;by_cases c12:x796000_1.length < 4398046511104
        ·rw [if_pos c12] at H;have LMc12:=Aside0.mk c12;clear c12;obtain ⟨y804,hy804⟩:∃ y_:List (S23),y_=(x796000_1 ++ [(⟨t797,t798,t799,t800⟩:S23)]):=⟨_,rfl⟩;replace H:(if x796001_1.length < 17592186044416 then (rzSweep.l0 k1 l0 (wrap64 (x4_1+t801)) y804 (x796001_1 ++ [x4_1]) 0) else (none))=some (r1,r2,r3):=by first | (rw [hy804];with_reducible exact H) | (have H2_:=(Option.bind_some _ _).symm.trans H;rw [hy804];with_reducible exact H2_) | (have H2_:=(Option.bind_some _ _).symm.trans H;with_reducible exact H2_) | with_reducible exact H | (rw [hy804];exact H) | exact H
         have Ny804:=Aside0.mk hy804;clear hy804;by_cases c13:x796001_1.length < 17592186044416
         ·rw [if_pos c13] at H;have LMc13:=Aside0.mk c13;clear c13;obtain ⟨y807,hy807⟩:∃ y_:List Int,y_=(x796001_1 ++ [x4_1]):=⟨_,rfl⟩;replace H:(rzSweep.l0 k1 l0 (wrap64 (x4_1+t801)) y804 y807 0)=some (r1,r2,r3):=by first | (rw [hy807];with_reducible exact H) | (have H2_:=(Option.bind_some _ _).symm.trans H;rw [hy807];with_reducible exact H2_) | (have H2_:=(Option.bind_some _ _).symm.trans H;with_reducible exact H2_) | with_reducible exact H | (rw [hy807];exact H) | exact H
          have Ny807:=Aside0.mk hy807;clear hy807;have H':=Aside0.mk H;clear H;obtain ⟨i014,hi014,_,hsz14,_⟩:=info_parts info5;obtain ⟨A14,hcut14,hA14,hC14⟩:=print_drop_of (P:=Tryz.prog) (Value.int .u8) 0 24 5 .i64 Tryz.underlying24 hi014 hsz14 A0 c0 l0 x4_1 (of_decide_eq_true asm) (of_decide_eq_true asm) HC0.out;have HR796:=Aside0.mk (Kd.C_of_reads (h1:=fun _=>rfl) (hA14 _ (Kd.reads_of_C HR0.out)));have HC796:=Aside0.mk hC14;clear hA14 hC14 hi014 hsz14;go_wp2_with (first | ((with_reducible refine gate_callee (f:=23) rfl ?_);refine goesL_ (some 17) rfl rfl Tryz.func23 (by kernel_rfl) rfl #[.slice A14 (l0.drop (x4_1:Int).toNat).length (c0 - x4_1.toNat)] rfl (by (try simp only [List.map_toArray,List.map_cons,List.map_nil]);first | done | (rw [show (l0.drop (x4_1:Int).toNat).length=(l0.length - x4_1.toNat) from List.length_drop] <;> rfl) | rfl | (simp only [List.length_drop,List.length_take];rfl)) ?_;(with_reducible refine (rzDecode.calls k1 _ _ (l0.drop (x4_1:Int).toNat) t797 t798 t799 t800 t801 t802 _ ?side1 ?side2 A10.out).mono ?_);(case side1=>repeat (first | exact (Kd.C_below HR796.out HB.out) | (with_reducible refine Kd.C_alloc ?_ _) | (with_reducible refine Kd.C_drewN ?_ _) | (with_reducible refine Kd.C_drew ?_)));(case side2=>exact HC796.out);rintro e w15 ⟨rfl,hb⟩;refine ⟨_,rfl,?_⟩;replace HO_796000:=Aside0.mk (Kd.R_below (kRd HO_796000.out) hb);replace HO_796001:=Aside0.mk (Kd.R_below (kRd HO_796001.out) hb);replace BK794:=Aside0.mk (blk_below (g:=gb794) bko hb);replace BK795:=Aside0.mk (blk_below (g:=gb795) bko hb);replace HB:=Aside0.mk (below_step blw hb);clear hb) | ((with_reducible refine gate_dst (N:=5) rfl ?_);refine bxe (N:=5) (cs:=#[.int .i64 0,.int .i64 0,.int .i64 0,.int .i64 0,.int .i64 0,.int .i64 0]) (t:=35) ?_;intro gb803 hg w16 hbox hb;replace HO_796000:=Aside0.mk (Kd.R_below (kRd HO_796000.out) hb);replace HO_796001:=Aside0.mk (Kd.R_below (kRd HO_796001.out) hb);have BK803:=Aside0.mk hbox;have GW803:Aside0 (w.heap.size≤gb803):=⟨gwb⟩;have GE803:Aside0 (w.heap.size≤gb803):=⟨gwb⟩;replace HB:=Aside0.mk (below_step blw hb);have NB794_803:Aside0 (gb794≠gb803):=⟨nbk⟩;replace BK794:=Aside0.mk (blk_below (g:=gb794) bko hb);have NB803_794:=Aside0.mk NB794_803.out.symm;have NB795_803:Aside0 (gb795≠gb803):=⟨nbk⟩;replace BK795:=Aside0.mk (blk_below (g:=gb795) bko hb);have NB803_795:=Aside0.mk NB795_803.out.symm;clear hb hbox hg;have:=NB803_794.out;have:=NB794_803.out;have:=NB803_795.out;have:=NB795_803.out;obtain ⟨_,_,_,_,_,_,_,_,_,_,_,_⟩:=bz6 BK803.out;have:=NB795_794.out;have:=NB794_795.out;obtain ⟨_,_,_,_,_,_⟩:=bz3 BK795.out) | ((with_reducible refine gate_builtin (b:=.append) (xs:=#[.tmp 25,.tmp 28]) rfl ?_);at_builtin;refine Kd.R_append k23 (w0:=w) w.heap.size rfl (.tmp 25) (.tmp 28) 65 23 (.agg #[(.int .i64 0),(.int .i64 0),(.int .i64 0),(.int .i64 0)]) 32 rfl Tryz.underlying65 info23 rfl (by decide) (by omega) u796000 x796000_1 (⟨t797,t798,t799,t800⟩:S23) [.int .i64 t797,.int .i64 t798,.int .i64 t799,.int .i64 t800] (fun _=>True) (fun _=>False) rfl (by first | (go_simp;done) | (go_simp;rfl)) ?aP (fun _ hk=>hk.elim) ?aF ?aO ?aB ?aS ?aL ?_;(case aP=>exact k23_mkM _ _ _ (⟨t797,t798,t799,t800⟩:S23));(case aB=>exact blw);(case aF=>exact (fun _ _=>trivial));(case aO=>exact (by (with_reducible repeat (first | apply Kd.R_alloc | apply Kd.R_drewN | apply Kd.R_drew));exact Kd.R_mono (Kd.R_far (p:=⟨gb803,5,none⟩) (Kd.R_far (p:=⟨gb803,4,none⟩) (Kd.R_far (p:=⟨gb803,3,none⟩) (Kd.R_far (p:=⟨gb803,2,none⟩) (Kd.R_far (p:=⟨gb803,1,none⟩) (Kd.R_far (p:=⟨gb803,0,none⟩) (Kd.R_types HO_796000.out BK803.out (by decide)) (fun _ hk=>hk.2) (.int .i64 t797)) (fun _ hk=>hk.2) (.int .i64 t798)) (fun _ hk=>hk.2) (.int .i64 t799)) (fun _ hk=>hk.2) (.int .i64 t800)) (fun _ hk=>hk.2) (.int .i64 t801)) (fun _ hk=>hk.2) (.int .i64 t802)) (fun _ hk=>trivial)));(case aS=>exact (below_size blw));(case aL=>have:=LMc12.out;omega);intro v805 w22 ho hb hg hat;rw [← Ny804.out] at ho;replace HO_796001:=Aside0.mk (Kd.R_over' (by (with_reducible repeat (first | apply Kd.R_alloc | apply Kd.R_drewN | apply Kd.R_drew));exact (Kd.R_mono (Kd.R_far (p:=⟨gb803,5,none⟩) (Kd.R_far (p:=⟨gb803,4,none⟩) (Kd.R_far (p:=⟨gb803,3,none⟩) (Kd.R_far (p:=⟨gb803,2,none⟩) (Kd.R_far (p:=⟨gb803,1,none⟩) (Kd.R_far (p:=⟨gb803,0,none⟩) (Kd.R_types HO_796001.out BK803.out (by decide)) (fun _ hk=>hk.2) (.int .i64 t797)) (fun _ hk=>hk.2) (.int .i64 t798)) (fun _ hk=>hk.2) (.int .i64 t799)) (fun _ hk=>hk.2) (.int .i64 t800)) (fun _ hk=>hk.2) (.int .i64 t801)) (fun _ hk=>hk.2) (.int .i64 t802)) (fun _ h_=>h_.1))) (Kd.R_typed (by (with_reducible repeat (first | apply Kd.R_alloc | apply Kd.R_drewN | apply Kd.R_drew));exact (Kd.R_mono (Kd.R_far (p:=⟨gb803,5,none⟩) (Kd.R_far (p:=⟨gb803,4,none⟩) (Kd.R_far (p:=⟨gb803,3,none⟩) (Kd.R_far (p:=⟨gb803,2,none⟩) (Kd.R_far (p:=⟨gb803,1,none⟩) (Kd.R_far (p:=⟨gb803,0,none⟩) (Kd.R_types HO_796000.out BK803.out (by decide)) (fun _ hk=>hk.2) (.int .i64 t797)) (fun _ hk=>hk.2) (.int .i64 t798)) (fun _ hk=>hk.2) (.int .i64 t799)) (fun _ hk=>hk.2) (.int .i64 t800)) (fun _ hk=>hk.2) (.int .i64 t801)) (fun _ hk=>hk.2) (.int .i64 t802)) (fun _ h_=>h_.1)))) (by decide) hg);replace BK794:=Aside0.mk (blk_grown (g:=gb794) (o:=.cells #[.slice none 0 0,.slice none 0 0,.int .i64 x795002_1] 70 (0,0)) bkf hg (Kd.R_ne HO_796000.out BK794.out (by decide)));replace BK795:=Aside0.mk (blk_grown (g:=gb795) (o:=.cells #[u796000,u796001,.int .i64 0] 70 (0,0)) bkf hg (Kd.R_ne HO_796000.out BK795.out (by decide)));replace BK803:=Aside0.mk (blk_grown (g:=gb803) (o:=.cells #[.int .i64 t797,.int .i64 t798,.int .i64 t799,.int .i64 t800,.int .i64 t801,.int .i64 t802] 35 (0,0)) (by (with_reducible repeat (first | refine blk_drewN ?_ _ | refine blk_drew ?_ | refine blk_alloc ?_ _));refine blk_put (cs:=#[.int .i64 t797,.int .i64 t798,.int .i64 t799,.int .i64 t800,.int .i64 t801,.int .i64 0]) ?_ 5 _ rfl;refine blk_put (cs:=#[.int .i64 t797,.int .i64 t798,.int .i64 t799,.int .i64 t800,.int .i64 0,.int .i64 0]) ?_ 4 _ rfl;refine blk_put (cs:=#[.int .i64 t797,.int .i64 t798,.int .i64 t799,.int .i64 0,.int .i64 0,.int .i64 0]) ?_ 3 _ rfl;refine blk_put (cs:=#[.int .i64 t797,.int .i64 t798,.int .i64 0,.int .i64 0,.int .i64 0,.int .i64 0]) ?_ 2 _ rfl;refine blk_put (cs:=#[.int .i64 t797,.int .i64 0,.int .i64 0,.int .i64 0,.int .i64 0,.int .i64 0]) ?_ 1 _ rfl;refine blk_put (cs:=#[.int .i64 0,.int .i64 0,.int .i64 0,.int .i64 0,.int .i64 0,.int .i64 0]) ?_ 0 _ rfl;exact bko) hg (Kd.R_ne HO_796000.out BK803.out (by decide)));replace HB:=Aside0.mk hb;have HO806:=Aside0.mk ho;clear ho hb hg hat;obtain ⟨Ao23,co23,eo23⟩:=Kd.R_slice HO806.out;subst eo23;obtain ⟨_,_,_,_,_,_⟩:=bz3 BK795.out) | ((with_reducible refine gate_builtin (b:=.append) (xs:=#[.tmp 32,.tmp 34]) rfl ?_);at_builtin;refine Kd.R_append (Kd.int .i64) (w0:=w) w.heap.size rfl (.tmp 32) (.tmp 34) 66 3 (.int .i64 0) 8 rfl Tryz.underlying66 info3 rfl (by decide) (by omega) u796001 x796001_1 x4_1 [.int .i64 x4_1] (fun _=>True) (fun _=>False) rfl (by first | (go_simp;done) | (go_simp;rfl)) ?aP (fun _ hk=>hk.elim) ?aF ?aO ?aB ?aS ?aL ?_;(case aP=>exact rfl);(case aB=>exact blw);(case aF=>exact (fun _ _=>trivial));(case aO=>exact (by (with_reducible repeat (first | apply Kd.R_alloc | apply Kd.R_drewN | apply Kd.R_drew));exact Kd.R_mono (Kd.R_far (p:=⟨gb795,0,none⟩) (Kd.R_types HO_796001.out BK795.out (by decide)) (fun _ hk=>hk.2) (.slice Ao23 y804.length co23)) (fun _ hk=>trivial)));(case aS=>exact (below_size blw));(case aL=>have:=LMc13.out;omega);intro v808 w25 ho hb hg hat;rw [← Ny807.out] at ho;replace BK794:=Aside0.mk (blk_grown (g:=gb794) (o:=.cells #[.slice none 0 0,.slice none 0 0,.int .i64 x795002_1] 70 (0,0)) bkf hg (Kd.R_ne HO_796001.out BK794.out (by decide)));replace BK803:=Aside0.mk (blk_grown (g:=gb803) (o:=.cells #[.int .i64 t797,.int .i64 t798,.int .i64 t799,.int .i64 t800,.int .i64 t801,.int .i64 t802] 35 (0,0)) bkf hg (Kd.R_ne HO_796001.out BK803.out (by decide)));replace HO806:=Aside0.mk (Kd.R_over' (by (with_reducible repeat (first | apply Kd.R_alloc | apply Kd.R_drewN | apply Kd.R_drew));exact (Kd.R_mono (Kd.R_far (p:=⟨gb795,0,none⟩) (Kd.R_types HO806.out BK795.out (by decide)) (fun _ hk=>hk.2) (.slice Ao23 y804.length co23)) (fun _ h_=>h_.1))) (Kd.R_typed (by (with_reducible repeat (first | apply Kd.R_alloc | apply Kd.R_drewN | apply Kd.R_drew));exact (Kd.R_mono (Kd.R_far (p:=⟨gb795,0,none⟩) (Kd.R_types HO_796001.out BK795.out (by decide)) (fun _ hk=>hk.2) (.slice Ao23 y804.length co23)) (fun _ h_=>h_.1)))) (by decide) hg);replace BK795:=Aside0.mk (blk_grown (g:=gb795) (o:=.cells #[.slice Ao23 y804.length co23,u796001,.int .i64 0] 70 (0,0)) (by (with_reducible repeat (first | refine blk_drewN ?_ _ | refine blk_drew ?_ | refine blk_alloc ?_ _));refine blk_put (cs:=#[u796000,u796001,.int .i64 0]) ?_ 0 _ rfl;exact bko) hg (Kd.R_ne HO_796001.out BK795.out (by decide)));replace HB:=Aside0.mk hb;have HO809:=Aside0.mk ho;clear ho hb hg hat;obtain ⟨Ao26,co26,eo26⟩:=Kd.R_slice HO809.out;subst eo26;obtain ⟨_,_,_,_,_,_⟩:=bz3 BK795.out;obtain ⟨_,_,_,_,_,_,_,_,_,_,_,_⟩:=bz6 BK803.out))
          go_roundg k1
          case measure=>have:=HK1.out;omega
          case rel=>exact ⟨(wrap64 (x4_1+t801)),(x795002_1),(y804),(y807),(.slice Ao23 y804.length co23),(.slice Ao26 y807.length co26),rsd,H',⟨by have:=HK1.out;omega⟩,⟨by (with_reducible repeat (first | apply Kd.R_alloc | apply Kd.R_drewN | apply Kd.R_drew));exact Kd.R_mono (Kd.R_far (p:=⟨gb795,1,none⟩) (Kd.R_types HO806.out BK795.out (by decide)) (fun _ hk=>hk.2) (.slice Ao26 y807.length co26)) (fun _ hk=>trivial)⟩,⟨by (with_reducible repeat (first | apply Kd.R_alloc | apply Kd.R_drewN | apply Kd.R_drew));exact Kd.R_mono (Kd.R_far (p:=⟨gb795,1,none⟩) (Kd.R_types HO809.out BK795.out (by decide)) (fun _ hk=>hk.2) (.slice Ao26 y807.length co26)) (fun _ hk=>trivial)⟩,⟨bkf⟩,⟨by (with_reducible repeat (first | refine blk_drewN ?_ _ | refine blk_drew ?_ | refine blk_alloc ?_ _));refine blk_put (cs:=#[.slice Ao23 y804.length co23,u796001,.int .i64 0]) ?_ 1 _ rfl;exact bko⟩,⟨blw⟩⟩
         ·rw [if_neg c13] at H;exact absurd H (by simp)
        ·rw [if_neg c12] at H;exact absurd H (by simp)
       ·rw [if_neg c11] at H;obtain ⟨c11b0,c11b1⟩:=bqf c11;simp only [Option.some.injEq,Prod.mk.injEq] at H;obtain ⟨rfl,rfl,rfl⟩:=H;obtain ⟨i029,hi029,_,hsz29,_⟩:=info_parts info5;obtain ⟨A29,hcut29,hA29,hC29⟩:=print_drop_of (P:=Tryz.prog) (Value.int .u8) 0 24 5 .i64 Tryz.underlying24 hi029 hsz29 A0 c0 l0 x4_1 (of_decide_eq_true asm) (of_decide_eq_true asm) HC0.out;have HR796:=Aside0.mk (Kd.C_of_reads (h1:=fun _=>rfl) (hA29 _ (Kd.reads_of_C HR0.out)));have HC796:=Aside0.mk hC29;clear hA29 hC29 hi029 hsz29;go_wp2_with (first | ((with_reducible refine gate_callee (f:=23) rfl ?_);refine goesL_ (some 17) rfl rfl Tryz.func23 (by kernel_rfl) rfl #[.slice A29 (l0.drop (x4_1:Int).toNat).length (c0 - x4_1.toNat)] rfl (by (try simp only [List.map_toArray,List.map_cons,List.map_nil]);first | done | (rw [show (l0.drop (x4_1:Int).toNat).length=(l0.length - x4_1.toNat) from List.length_drop] <;> rfl) | rfl | (simp only [List.length_drop,List.length_take];rfl)) ?_;(with_reducible refine (rzDecode.calls k1 _ _ (l0.drop (x4_1:Int).toNat) t797 t798 t799 t800 t801 t802 _ ?side1 ?side2 A10.out).mono ?_);(case side1=>repeat (first | exact (Kd.C_below HR796.out HB.out) | (with_reducible refine Kd.C_alloc ?_ _) | (with_reducible refine Kd.C_drewN ?_ _) | (with_reducible refine Kd.C_drew ?_)));(case side2=>exact HC796.out);rintro e w30 ⟨rfl,hb⟩;refine ⟨_,rfl,?_⟩;replace HO_796000:=Aside0.mk (Kd.R_below (kRd HO_796000.out) hb);replace HO_796001:=Aside0.mk (Kd.R_below (kRd HO_796001.out) hb);replace BK794:=Aside0.mk (blk_below (g:=gb794) bko hb);replace BK795:=Aside0.mk (blk_below (g:=gb795) bko hb);replace HB:=Aside0.mk (below_step blw hb);clear hb) | ((with_reducible refine gate_dst (N:=5) rfl ?_);refine bxe (N:=5) (cs:=#[.int .i64 0,.int .i64 0,.int .i64 0,.int .i64 0,.int .i64 0,.int .i64 0]) (t:=35) ?_;intro gb803 hg w31 hbox hb;replace HO_796000:=Aside0.mk (Kd.R_below (kRd HO_796000.out) hb);replace HO_796001:=Aside0.mk (Kd.R_below (kRd HO_796001.out) hb);have BK803:=Aside0.mk hbox;have GW803:Aside0 (w.heap.size≤gb803):=⟨gwb⟩;have GE803:Aside0 (w.heap.size≤gb803):=⟨gwb⟩;replace HB:=Aside0.mk (below_step blw hb);have NB794_803:Aside0 (gb794≠gb803):=⟨nbk⟩;replace BK794:=Aside0.mk (blk_below (g:=gb794) bko hb);have NB803_794:=Aside0.mk NB794_803.out.symm;have NB795_803:Aside0 (gb795≠gb803):=⟨nbk⟩;replace BK795:=Aside0.mk (blk_below (g:=gb795) bko hb);have NB803_795:=Aside0.mk NB795_803.out.symm;clear hb hbox hg;have:=NB803_794.out;have:=NB794_803.out;have:=NB803_795.out;have:=NB795_803.out;obtain ⟨_,_,_,_,_,_,_,_,_,_,_,_⟩:=bz6 BK803.out;have:=NB794_795.out;have:=NB795_794.out;obtain ⟨_,_,_,_,_,_⟩:=bz3 BK794.out))
        refine bodyPost_ret (results_cell_row rfl _ _ gb794 70 #[.slice none 0 0,.slice none 0 0,.int .i64 t802] (0,0) _ rfl (by (with_reducible repeat (first | refine blk_drewN ?_ _ | refine blk_drew ?_ | refine blk_alloc ?_ _));refine blk_put (cs:=#[.slice none 0 0,.slice none 0 0,.int .i64 x795002_1]) ?_ 2 _ rfl;refine blk_put (cs:=#[.slice none 0 0,.slice none 0 0,.int .i64 x795002_1]) ?_ 1 _ rfl;refine blk_put (cs:=#[.slice none 0 0,.slice none 0 0,.int .i64 x795002_1]) ?_ 0 _ rfl;exact bkf) Tryz.underlying70 rfl (by kernel_rfl)) rfl ?_;exact ⟨_,_,by first | rfl | (simp [errW_none,errW_some] <;> rfl) | (simp [*,errW_none,errW_some] <;> rfl),by first | exact Kd.R_nil _ _ _ _ _ | exact Kd.N_nil _ _ _ _ _ | exact Kd.V_nil _ _ _ _ _ | exact Kd.Q_nil _ _ _ _ _ | exact Kd.S_nil _ _ _ _ _,by first | exact Kd.R_nil _ _ _ _ _ | exact Kd.N_nil _ _ _ _ _ | exact Kd.V_nil _ _ _ _ _ | exact Kd.Q_nil _ _ _ _ _ | exact Kd.S_nil _ _ _ _ _,blw⟩
      ·rw [if_neg c9] at H;exact absurd H (by simp)
     ·rw [if_neg c8] at H;exact absurd H (by simp)
    ·rw [if_neg c7] at H;have c7b0:=decide_eq_false c7;clear c7;simp only [Option.some.injEq,Prod.mk.injEq] at H;obtain ⟨rfl,rfl,rfl⟩:=H;have:=NB795_794.out;have:=NB794_795.out;obtain ⟨_,_,_,_,_,_⟩:=bz3 BK795.out;obtain ⟨Ao39,co39,eo39⟩:=Kd.R_slice HO_796000.out;subst eo39;obtain ⟨_,_,_,_,_,_⟩:=bz3 BK794.out;obtain ⟨Ao41,co41,eo41⟩:=Kd.R_slice HO_796001.out;subst eo41;go_wp2;refine bodyPost_ret (results_cell_row rfl _ _ gb794 70 #[.slice Ao39 x796000_1.length co39,.slice Ao41 x796001_1.length co41,.int .i64 0] (0,0) _ rfl (by (with_reducible repeat (first | refine blk_drewN ?_ _ | refine blk_drew ?_ | refine blk_alloc ?_ _));refine blk_put (cs:=#[.slice Ao39 x796000_1.length co39,.slice Ao41 x796001_1.length co41,.int .i64 x795002_1]) ?_ 2 _ rfl;refine blk_put (cs:=#[.slice Ao39 x796000_1.length co39,.slice none 0 0,.int .i64 x795002_1]) ?_ 1 _ rfl;refine blk_put (cs:=#[.slice none 0 0,.slice none 0 0,.int .i64 x795002_1]) ?_ 0 _ rfl;exact bko) Tryz.underlying70 rfl (by kernel_rfl)) rfl ?_;exact ⟨_,_,by first | rfl | (simp [errW_none,errW_some] <;> rfl) | (simp [*,errW_none,errW_some] <;> rfl),by (with_reducible repeat (first | apply Kd.R_alloc | apply Kd.R_drewN | apply Kd.R_drew));exact Kd.R_mono (Kd.R_far (p:=⟨gb794,2,none⟩) (Kd.R_far (p:=⟨gb794,1,none⟩) (Kd.R_far (p:=⟨gb794,0,none⟩) (Kd.R_types HO_796000.out BK794.out (by decide)) (fun _ hk=>hk.2) (.slice Ao39 x796000_1.length co39)) (fun _ hk=>hk.2) (.slice Ao41 x796001_1.length co41)) (fun _ hk=>hk.2) (.int .i64 0)) (fun _ hk=>trivial),by (with_reducible repeat (first | apply Kd.R_alloc | apply Kd.R_drewN | apply Kd.R_drew));exact Kd.R_mono (Kd.R_far (p:=⟨gb794,2,none⟩) (Kd.R_far (p:=⟨gb794,1,none⟩) (Kd.R_far (p:=⟨gb794,0,none⟩) (Kd.R_types HO_796001.out BK794.out (by decide)) (fun _ hk=>hk.2) (.slice Ao39 x796000_1.length co39)) (fun _ hk=>hk.2) (.slice Ao41 x796001_1.length co41)) (fun _ hk=>hk.2) (.int .i64 0)) (fun _ hk=>trivial),blw⟩
end Go.Proofs.YtffojmgmpfjlhaaGreatDoor.Q
namespace Go.Proofs.YtffojmgmpfjlhaaGreatDoor.Q
open Go.Proofs.Ix hiding rd
open Go.Proofs.YtffojmgmpfjlhaaGreatDoor Go.RowKit Go.Proofs.YtffojmgmpfjlhaaGreatDoorW.PrintWords
theorem wrap_addn {i j:Nat} (h:i+j≤1000000):wrap64 ((i:Int)+((j:Nat):Int))=((i+j:Nat):Int):=by
 simp only [wrap64]
 omega
theorem sweep_both (l:List Int) (hb:Byt l) (hl:l.length≤2048):∀ (m i:Nat) (L:List S23) (A:List Int) (k:Nat),l.length - i < m→i≤l.length→L.length≤i→A.length≤i→m+200≤k →
  ∃ r,insn_Sweep.l0 k l L A (i:Int)=some r∧rzSweep.l0 k l (i:Int) L A 0=some r∧r.1.length≤2048∧r.2.1.length≤2048
 | 0,i,L,A,k,h1,h2,h3,h4,h5=>by omega
 | m+1,i,L,A,k,h1,h2,h3,h4,h5=>by
  obtain ⟨k,rfl⟩:∃ q,k=q+100+1:=⟨k - 101,by omega⟩
  unfold insn_Sweep.l0 rzSweep.l0
  by_cases c:i=l.length
  ·rw [if_neg (by omega),if_neg (by omega)]
   exact ⟨_,rfl,rfl,by show L.length≤_;omega,by show A.length≤_;omega⟩
  ·rw [if_pos (by omega),if_pos (by omega),if_pos (by omega),if_pos (by omega),if_pos (by omega),if_pos (by omega),Int.toNat_natCast,
    show k+100=(k+40)+60 from rfl,decode_f _ (by simp;omega),show k+40+60=k+100 from rfl,rdecode_f _ (hb.drop i) (by simp;omega),Option.bind_some,Option.bind_some]
   by_cases he:(decD (l.drop i)).2.2.2.2.2=0
   ·obtain ⟨n,hn,hn1,_,hnl,_⟩:=dec_ok he
    rw [List.length_drop] at hnl
    rw [if_pos he,if_pos he,if_pos (by omega),if_pos (by omega),if_pos (by omega),if_pos (by omega),hn,wrap_addn (by omega)]
    exact sweep_both l hb hl m (i+n) _ _ (k+100) (by omega) (by omega) (by simp;omega) (by simp;omega) (by omega)
   ·rw [if_neg he,if_neg he]
    exact ⟨_,rfl,rfl,Nat.zero_le _,Nat.zero_le _⟩
end Go.Proofs.YtffojmgmpfjlhaaGreatDoor.Q
namespace Go.Proofs.YtffojmgmpfjlhaaGreatDoor.Q
open Go.Joins Go.ChangeShapes Go.WideShapes Go.RowKit Go.Deep Go.Proofs.YtffojmgmpfjlhaaGreatDoor YtffojmgmpfjlhaaGreatDoorW.PrintWords YtffojmgmpfjlhaaGreatDoorW.PrintLast
section
variable {H:Type} {enc:TypeId × Value→H} {W:World}
theorem symFields:∃ f0 f1 f2:Field,Tryz.prog.underlying 61=some (.struct #[f0,f1,f2])∧(f0.type=9∧f1.type=2∧f2.type=2)∧f0.offset=0∧f1.offset=1∧f2.offset=2 :=
 ⟨_,_,_,Tryz.underlying61,⟨rfl,rfl,rfl⟩,rfl,rfl,rfl⟩
theorem symCells:Tryz.prog.cellsOf 61=3∧Tryz.prog.cellsOf 9=1∧Tryz.prog.cellsOf 2=1∧Tryz.prog.cellsOf 5=1∧Tryz.prog.cellsOf 86=3:=⟨by kernel_rfl,by kernel_rfl,by kernel_rfl,by kernel_rfl,by kernel_rfl⟩
def SymOk (x:S61):Prop:=(Lit.int .i64 x.f1).wf=true∧(Lit.int .i64 x.f2).wf=true
theorem open_sym {fuel:Nat} {cs:List Value} {y:DataW H × List MemPlace} (hl:cs.length=3) (h:DataW.trod enc Tryz.prog W 0 (fun _=>true) true fuel 61 cs=some y) :
  ∃ x:S61,cs=[.string x.f0,.int .i64 x.f1,.int .i64 x.f2]∧SymOk x:=by
 obtain ⟨g0,g1,g2,hs,⟨t0,t1,t2⟩,o0,o1,o2⟩:=symFields
 obtain ⟨_,c9,c2,_,_⟩:=symCells
 obtain ⟨ys,n,_,-,-,hyl,hf⟩:=DataW.trod_struct hs h
 have h0:=hf 0 g0 rfl
 have h1:=hf 1 g1 rfl
 have h2:=hf 2 g2 rfl
 rw [t0,o0,c9] at h0
 rw [t1,o1,c2] at h1
 rw [t2,o2,c2] at h2
 match cs,hl with
 | [v0,v1,v2],_ =>
  have h0:DataW.trod enc Tryz.prog W 0 (fun _=>true) true n 9 [v0]=ys[0]?:=h0
  have h1:DataW.trod enc Tryz.prog W 0 (fun _=>true) true n 2 [v1]=ys[1]?:=h1
  have h2:DataW.trod enc Tryz.prog W 0 (fun _=>true) true n 2 [v2]=ys[2]?:=h2
  rw [List.getElem?_eq_getElem (by rw [hyl];simp)] at h0 h1 h2
  obtain ⟨i0,r0,-,_⟩:=DataW.trod_string Tryz.underlying9 h0
  obtain ⟨i1,r1,-,p1⟩:=DataW.trod_int Tryz.underlying2 h1
  obtain ⟨i2,r2,-,p2⟩:=DataW.trod_int Tryz.underlying2 h2
  simp only [List.cons.injEq,and_true] at r0 r1 r2
  subst r0 r1 r2
  exact ⟨⟨i0,i1,i2⟩,rfl,p1,p2⟩
theorem open_syms {fuel:Nat} {v:Value} {y:DataW H × List MemPlace} (hf:DataW.trod enc Tryz.prog W 0 (fun _=>true) true fuel 47 [v]=some y) :
  ∃ (a:Option Addr) (cap:Nat) (l:List S61),v=.slice a l.length cap∧l.length≤cap∧Kd.C k61 W a l.length l∧∀ x∈l,SymOk x:=by
 rcases open_slice Tryz.underlying47 hf with ⟨hcs,_⟩ | ⟨x,len,c,m,n,D,Pl,hcs,_,hl,hm,hmm,hx,hi⟩
 ·simp only [List.cons.injEq,and_true] at hcs
  subst hcs
  exact ⟨none,0,[],rfl,Nat.le_refl _,⟨rfl,by simp,fun h=>absurd h (by simp)⟩,by simp⟩
 ·simp only [List.cons.injEq,and_true] at hcs
  subst hcs
  simp only [if_true] at hmm
  subst hmm
  rw [symCells.1] at hi
  have key:∀ i,∃ y:S61,i < len→(∀ j u,[Value.string y.f0,.int .i64 y.f1,.int .i64 y.f2][j]?=some u→W.cell? (x.add (i * 3+j))=some u)∧SymOk y:=by
   intro i
   by_cases hil:i < len
   ·obtain ⟨cs',hc,ht'⟩:=hi i (by omega)
    obtain ⟨_,hcl,hat⟩:=World.cells?_some hc
    obtain ⟨y,rfl,hy⟩:=open_sym hcl ht'
    refine ⟨y,fun _=>⟨fun j u hu=>?_,hy⟩⟩
    have hj:j < 3:=by
     have:=(List.getElem?_eq_some_iff.1 hu).1
     simpa using this
    rw [← Go.Deep.add_add,hat j hj,hu]
   ·exact ⟨z61,fun h=>absurd h hil⟩
  obtain ⟨f,hfs⟩:∃ f:Nat→S61,∀ i,i < len→(∀ j u,[Value.string (f i).f0,.int .i64 (f i).f1,.int .i64 (f i).f2][j]?=some u→W.cell? (x.add (i * 3+j))=some u)∧SymOk (f i) :=
   ⟨fun i=>Classical.choose (key i),fun i=>Classical.choose_spec (key i)⟩
  have hlen:((List.range len).map f).length=len:=by simp
  refine ⟨some x,m,(List.range len).map f,by rw [hlen],by rw [hlen];exact hl,⟨rfl,by rw [hlen];unfold maxLen at hm;omega,fun _=>⟨x,rfl,fun j y hj=>?_⟩⟩,fun y hy=>?_⟩
  ·have hjl:j < len:=by
    have:=(List.getElem?_eq_some_iff.1 hj).1
    simpa using this
   have hy:y=f j:=by
    rw [List.getElem?_map,List.getElem?_range hjl] at hj
    simpa using hj.symm
   refine ⟨_,rfl,k61_mk W y,fun i u hu=>?_⟩
   rw [hy] at hu
   exact (hfs j hjl).1 i u hu
  ·obtain ⟨i,hi2,rfl⟩:=List.mem_map.1 hy
   exact (hfs i (List.mem_range.1 hi2)).2
theorem open_bts {fuel:Nat} {v:Value} {y:DataW H × List MemPlace} (hf:DataW.trod enc Tryz.prog W 0 (fun _=>true) true fuel 24 [v]=some y) :
  ∃ (a:Option Addr) (cap:Nat) (l:List Int),v=.slice a l.length cap∧l.length≤cap∧Kd.C (Kd.int .u8) W a l.length l∧∀ n∈l,(Lit.int .u8 n).wf=true:=by
 rcases open_ints Tryz.underlying24 Tryz.underlying5 symCells.2.2.2.1 hf with ⟨hcs,_⟩ | ⟨x,l,c,zs,hcs,_,hl,hm,hz,hx,hcell,hwz⟩
 ·simp only [List.cons.injEq,and_true] at hcs
  subst hcs
  exact ⟨none,0,[],rfl,Nat.le_refl _,⟨rfl,by simp,fun h=>absurd h (by simp)⟩,by simp⟩
 ·simp only [List.cons.injEq,and_true] at hcs
  subst hcs
  simp only [if_true] at hz
  have hlen:(zs.take l).length=l:=by rw [List.length_take];omega
  refine ⟨some x,c,zs.take l,by rw [hlen],by rw [hlen];exact hl,⟨rfl,by rw [hlen];unfold maxLen at hm;omega,fun _=>⟨x,rfl,fun j y hj=>?_⟩⟩,fun n hn=>hwz n (List.mem_of_mem_take hn)⟩
  have hjl:j < l:=by
   have:=(List.getElem?_eq_some_iff.1 hj).1
   omega
  refine ⟨[.int .u8 y],rfl,rfl,fun i u hu=>?_⟩
  have hi:i=0:=by
   have:=(List.getElem?_eq_some_iff.1 hu).1
   simpa using this
  subst hi
  have e:zs.getD j 0=y:=by
   rw [List.getElem?_take_of_lt hjl] at hj
   rw [List.getD_eq_getElem?_getD,hj]
   rfl
  have h9:=hcell j (by omega)
  rw [e] at h9
  show W.cell? (x.add (j * 1+0))=some u
  rw [Nat.mul_one,Nat.add_zero,h9]
  simpa using hu
theorem objFields:∃ f0 f1 f2:Field,Tryz.prog.underlying 86=some (.struct #[f0,f1,f2])∧f0.type=24∧f1.type=2∧f2.type=47∧oneCellFields Tryz.prog #[f0,f1,f2]=true :=
 ⟨_,_,_,Tryz.underlying86,rfl,rfl,rfl,by kernel_rfl⟩
theorem open_obj {r:Reach} {b0:Nat} {v:Value} {d:DataW H} {p:List MemPlace} (hv:Value.okWide Tryz.prog W r b0 86 v) (h:DataW.Trod enc Tryz.prog W 0 (fun _=>true) true 86 v d p) :
  ∃ (a:Option Addr) (cap:Nat) (l:List Int) (at_:Int) (a2:Option Addr) (cap2:Nat) (L:List S61),v=.agg #[.slice a l.length cap,.int .i64 at_,.slice a2 L.length cap2]∧l.length≤cap∧Kd.C (Kd.int .u8) W a l.length l∧(∀ n∈l,(Lit.int .u8 n).wf=true) ∧
   (Lit.int .i64 at_).wf=true∧L.length≤cap2∧Kd.C k61 W a2 L.length L∧∀ x∈L,SymOk x:=by
 obtain ⟨f0,f1,f2,hs,e0,e1,e2,hone⟩:=objFields
 obtain ⟨v0,v1,v2,y0,y1,y2,n,rfl,rfl,rfl,g0,g1,g2⟩:=open_agg3 hs hone symCells.2.2.2.2 hv h
 rw [e0] at g0
 rw [e1] at g1
 rw [e2] at g2
 obtain ⟨a,cap,l,rfl,h1,h2,h3⟩:=open_bts g0
 obtain ⟨at_,r1,-,p1⟩:=DataW.trod_int Tryz.underlying2 g1
 obtain ⟨a2,cap2,L,rfl,q1,q2,q3⟩:=open_syms g2
 simp only [List.cons.injEq,and_true] at r1
 subst r1
 exact ⟨a,cap,l,at_,a2,cap2,L,rfl,h1,h2,h3,p1,q1,q2,q3⟩
end
end Go.Proofs.YtffojmgmpfjlhaaGreatDoor.Q
