/- Parts of the proof: InsnPrints: what Print and Parse answer is what the reference answers: the law returns true for every input; the inputs read as they did; the package-level variables hold what the program's text lays in them: the tied card. -/
import Derived.Test.YtffojmgmpfjlhaaGreatDoorInsnPrintsY12
import Derived.Test.YtffojmgmpfjlhaaGreatDoorInsnPrintsY14
set_option maxHeartbeats 8000000
set_option maxRecDepth 100000
set_option linter.unusedVariables false
set_option linter.unusedSimpArgs false
namespace Go.Proofs.YtffojmgmpfjlhaaGreatDoor.Q
open Go.Proofs.Ix hiding rd
open Go Go.Proofs.YtffojmgmpfjlhaaGreatDoor Go.RowKit Go.Proofs.YtffojmgmpfjlhaaGreatDoorW.PrintWords
theorem one_num (x:Nat) (h:x < 10):strOfNums [(IntKind.u64.wrap (48+(x:Int))) % 256]=bS [UInt8.ofNat (48+x)]:=by
 have key:∀ i:Fin 10,strOfNums [(IntKind.u64.wrap (48+((i.val:Nat):Int))) % 256]=bS [UInt8.ofNat (48+i.val)]:=by decide +kernel
 exact key ⟨x,h⟩
theorem dec_more {n:Nat} (h:¬ n < 10):Lib.decDigits n=Lib.decDigits (n / 10) ++ [UInt8.ofNat (48+n % 10)]:=by rw [Lib.decDigits,dif_neg h]
theorem rdig_f:∀ (k n:Nat),n < 10 ^ (k+1)→n < 18446744073709551616→k < 100→rzDigits.f (k+1) (n:Int)=some (bS (Lib.decDigits n))∧(Lib.decDigits n).length≤k+1
 | 0,n,h,_,_=>by
  have h:n < 10:=by simpa using h
  rw [rzDigits.f,if_pos (by omega),one_num n h,Lib.decDigits_one h]
  exact ⟨rfl,by simp⟩
 | k+1,n,h,hu,hk=>by
  by_cases h10:n < 10
  ·rw [rzDigits.f,if_pos (by omega),one_num n h10,Lib.decDigits_one h10]
   exact ⟨rfl,by simp⟩
  ·have ih:=rdig_f k (n / 10) (by rw [Nat.pow_succ] at h;omega) (by omega) (by omega)
   have e1:Int.tdiv (n:Int) 10=((n / 10:Nat):Int):=by rw [Int.tdiv_eq_ediv_of_nonneg (by omega)];omega
   have e2:Int.tmod (n:Int) 10=((n % 10:Nat):Int):=by rw [Int.tmod_eq_emod_of_nonneg (by omega)];omega
   have hl:=ih.2
   rw [rzDigits.f,if_neg (by omega),e1,e2,u64_in (by omega) (by omega),ih.1,Option.bind_some,Option.bind_some,one_num _ (by omega),dec_more h10,if_pos (by rw [bS_len,bS_len,List.length_singleton];omega),bS_app,List.length_append,List.length_singleton]
   exact ⟨rfl,by omega⟩
theorem rdig_n (n:Nat) (h:n < 18446744073709551616) (k:Nat):rzDigits.f (k+25) (n:Int)=some (bS (Lib.decDigits n))∧(Lib.decDigits n).length≤25:=by
 have:=rdig_f 24 n (by omega) h (by omega)
 exact ⟨leO_up (rzDigits.mono _) this.1 k,this.2⟩
theorem rreg_f {x:Int} (h0:0≤x) (h7:x≤7) (k:Nat):rzregister.f (k+25) x=some (bS (regW x)):=by
 obtain ⟨n,rfl⟩:∃ n:Nat,x=(n:Int):=⟨x.toNat,by omega⟩
 have h:=rdig_n n (by omega) k
 unfold rzregister.f
 rw [u64_in (by omega) (by omega),h.1,Option.bind_some,if_pos (by rw [bS_len];have:=h.2;omega),b1,bS_app]
 rw [Lib.decDigits_one (by omega)]
 rfl
theorem rsize_f {v:Int} (h0:-9223372036854775808≤v) (h1:v≤9223372036854775807):rzsize.f v=some ((v.natAbs:Nat):Int):=by
 unfold rzsize.f
 have hw:∀ x:Int,IntKind.u64.wrap x=x % 18446744073709551616:=fun x=>rfl
 by_cases h:v < 0
 ·rw [if_pos h,hw,hw]
  congr 1
  omega
 ·rw [if_neg h,hw]
  congr 1
  omega
theorem rnum_f {v:Int} (h0:-9223372036854775808≤v) (h1:v≤9223372036854775807) (k:Nat):rzNumber.f (k+25) v=some (bS (numW v)):=by
 unfold rzNumber.f numW Lib.itoa
 by_cases h:v < 0
 ·have hd:=rdig_n v.natAbs (by omega) k
  rw [if_pos h,if_pos h,rsize_f h0 h1,Option.bind_some,hd.1,Option.bind_some,if_pos (by rw [bS_len];have:=hd.2;omega),b1,bS_app]
  rfl
 ·obtain ⟨n,rfl⟩:∃ n:Nat,v=(n:Int):=⟨v.toNat,by omega⟩
  have hd:=rdig_n n (by omega) k
  rw [if_neg h,if_neg h,u64_in (by omega) (by omega),hd.1,Option.bind_some,Int.toNat_natCast]
theorem rtgt_f {v:Int} (h0:-9223372036854775808≤v) (h1:v≤9223372036854775807) (k:Nat):rztarget.f (k+25) v=some (bS (distW v)):=by
 have hd:=rdig_n v.natAbs (by omega) k
 unfold rztarget.f distW numW Lib.itoa
 by_cases h:v < 0
 ·rw [if_pos h,if_pos h,if_pos h,rsize_f h0 h1,Option.bind_some,hd.1,Option.bind_some,if_pos (by rw [bS_len];have:=hd.2;omega)]
  exact congrArg some (bS_app [46,45] _)
 ·rw [if_neg h,if_neg h,if_neg h,rsize_f h0 h1,Option.bind_some,hd.1,Option.bind_some,if_pos (by rw [bS_len];have:=hd.2;omega),show v.toNat=v.natAbs by omega]
  exact congrArg some (bS_app [46,43] _)
theorem radr_f {op a b v:Int} (hb0:0≤b) (hb7:b≤7) (h0:-9223372036854775808≤v) (h1:v≤9223372036854775807) (k:Nat):rzaddress.f (k+25) op a b v=some (bS (addrW b v)):=by
 have hd:=rdig_n v.natAbs (by omega) k
 have hl:=hd.2
 unfold rzaddress.f addrW numW Lib.itoa
 simp only [b1,rreg_f hb0 hb7,rsize_f h0 h1,hd.1,Option.bind_some,bS_app,bS_len,List.length_append,List.length_cons,List.length_nil,show (regW b).length=2 from rfl]
 by_cases hz:v=0
 ·subst hz
  rw [if_pos rfl,if_pos (by omega),if_pos (by omega),if_neg (by omega),if_neg (by omega)]
  simp
 ·by_cases hn:v < 0
  ·rw [if_neg hz,if_pos hn,if_pos (by omega),if_pos (by omega),if_pos (by omega),if_pos (by omega),if_neg (by omega),if_pos hn,if_pos hn]
   simp
  ·rw [if_neg hz,if_neg hn,if_pos (by omega),if_pos (by omega),if_pos (by omega),if_pos (by omega),if_pos (by omega),if_neg hn,show v.toNat=v.natAbs by omega]
   simp
theorem mn_any {op:Int} (hv:nameM op≠[]):rzMnemonic.f op=some (bS (nameM op)):=by
 have:=op_valid hv
 obtain ⟨n,rfl⟩:∃ n:Nat,op=(n:Int):=⟨op.toNat,by omega⟩
 exact mn_f (by omega)
theorem b2_ (x y:UInt8):(⟨#[x,y]⟩:ByteArray)=bS [x,y]:=rfl
theorem b3_ (x y z:UInt8):(⟨#[x,y,z]⟩:ByteArray)=bS [x,y,z]:=rfl
theorem rprint_f {op a b v:Int} (hv:nameM op≠[]) (o:Ok1 op a b v) (k:Nat):rzPrint.f (k+30) op a b v=some (bS (printW op a b v)):=by
 have hop:=op_valid hv
 obtain ⟨i,rfl⟩:∃ n:Nat,op=(n:Int):=⟨op.toNat,by omega⟩
 have hi:i≤76:=by omega
 have h1:=cl_fin ⟨i,by omega⟩ hv
 unfold clB at h1
 cases hr:rzForm.f 12 (i:Int) with
 | none=>rw [hr] at h1;cases h1
 | some r =>
  rw [hr] at h1
  simp only [Bool.and_eq_true,decide_eq_true_eq] at h1
  obtain ⟨⟨hz,hp⟩,hc⟩:=h1
  have hf:∀ k,rzForm.f (k+12) (i:Int)=some r:=fun k=>leO_up (rzForm.mono _) hr k
  have hn:=name_len (i:Int)
  have hnum:=num_len o.v0 o.v1
  have hA:rzregister.f (k+30) a=some (bS (regW a)):=rreg_f o.a0 o.a7 (k+5)
  have hB:rzregister.f (k+30) b=some (bS (regW b)):=rreg_f o.b0 o.b7 (k+5)
  have hla:(rdW a b v .addr).length≤40:=rdW_len o .addr
  have hlt:(rdW a b v .target).length≤40:=rdW_len o .target
  have hla:(addrW b v).length≤40:=hla
  have hlt:(distW v).length≤40:=hlt
  have hlr:∀ x,(regW x).length=2:=fun _=>rfl
  unfold rzPrint.f
  rw [mn_any hv,Option.bind_some,hA,Option.bind_some,hB,Option.bind_some,show rzForm.f (k+30) (i:Int)=some r from hf (k+18),Option.bind_some]
  unfold printW
  have N0:∀ m,rzNumber.f (m+25) v=some (bS (numW v)):=rnum_f o.v0 o.v1
  have T0:∀ m,rztarget.f (m+25) v=some (bS (distW v)):=rtgt_f o.v0 o.v1
  have A0:∀ m,rzaddress.f (m+25) (i:Int) a b v=some (bS (addrW b v)):=radr_f o.b0 o.b7 o.v0 o.v1
  have hnum:(numW v).length≤21:=hnum
  generalize hst:stB (i:Int)=st at hc
  simp only [clT,List.mem_cons,List.not_mem_nil,or_false,Prod.mk.injEq] at hc
  have j0_:∀ x3 x4 x5 x17 x27 p q r s,rzPrint.j0 (k+30) x3 x4 x5 x17 x27 p q r s=rzPrint.j0 (k+29+1) x3 x4 x5 x17 x27 p q r s:=fun _ _ _ _ _ _ _ _ _=>rfl
  have j1_:∀ x3 x4 x48 p q r s,rzPrint.j1 (k+29) x3 x4 x48 p q r s=rzPrint.j1 (k+28+1) x3 x4 x48 p q r s:=fun _ _ _ _ _ _ _=>rfl
  rcases hc with ⟨rfl,rfl,hq⟩ | ⟨rfl,rfl,hq⟩ | ⟨rfl,rfl,hq⟩ | ⟨rfl,rfl,hq⟩ | ⟨rfl,rfl,hq⟩ | ⟨rfl,rfl,hq⟩ | ⟨rfl,rfl,hq⟩ | ⟨rfl,rfl,hq⟩ | ⟨rfl,rfl,hq⟩ | ⟨rfl,rfl,hq⟩ | ⟨rfl,rfl,hq⟩ | ⟨rfl,rfl,hq⟩
  ·have hrd:=map_rdN (m:=[]) hq
   rw [hrd]
   rw [if_neg (by decide),if_neg (by decide),j0_,rzPrint.j0]
   rw [if_neg (by decide)]
   rw [if_neg (by decide),if_neg (by decide),if_neg (by decide),if_neg (by decide),if_neg (by decide),if_neg (by decide),if_neg (by decide)]
   simp [opW,tailW,rdW,memW]
  ·have hrd:=map_rdN (m:=[.a,.b]) hq
   rw [hrd]
   rw [if_pos rfl]
   simp only [b1,b2_,b3_,bS_app,bS_len,List.length_append,List.length_cons,List.length_nil,hlr]
   rw [if_pos (by omega),if_pos (by omega),if_pos (by omega),if_pos (by omega)]
   simp [opW,tailW,rdW,memW]
  ·have hrd:=map_rdN (m:=[.a,.num]) hq
   rw [hrd]
   rw [if_neg (by decide),if_pos rfl,j0_,rzPrint.j0,if_pos (by rfl),N0 (k+4),Option.bind_some]
   simp only [b1,b2_,b3_,bS_app,bS_len,List.length_append,List.length_cons,List.length_nil,hlr]
   rw [if_pos (by omega),if_pos (by omega),if_pos (by omega),if_pos (by omega)]
   simp [opW,tailW,rdW,memW]
  ·have hrd:=map_rdN (m:=[.a,.num]) hq
   rw [hrd]
   rw [if_neg (by decide),if_neg (by decide),j0_,rzPrint.j0]
   rw [if_pos (by rfl),N0 (k+4),Option.bind_some]
   simp only [b1,b2_,b3_,bS_app,bS_len,List.length_append,List.length_cons,List.length_nil,hlr]
   rw [if_pos (by omega),if_pos (by omega),if_pos (by omega),if_pos (by omega)]
   simp [opW,tailW,rdW,memW]
  ·have hrd:=map_rdN (m:=[.a,.addr]) hq
   rw [hrd]
   rw [if_neg (by decide),if_neg (by decide),j0_,rzPrint.j0]
   rw [if_neg (by decide)]
   rw [if_pos rfl]
   have hst2:(if (i:Int)=19 then rzPrint.j1 (k+29) (bS (nameM (i:Int))) (bS (regW a)) true (i:Int) a b v else rzPrint.j1 (k+29) (bS (nameM (i:Int))) (bS (regW a)) ((i:Int) == 20) (i:Int) a b v)=rzPrint.j1 (k+29) (bS (nameM (i:Int))) (bS (regW a)) (stB (i:Int)) (i:Int) a b v:=by
    unfold stB
    by_cases h:(i:Int)=19
    ·rw [if_pos h,decide_eq_true h];rfl
    ·rw [if_neg h,decide_eq_false h];rfl
   rw [hst2,hst,j1_,rzPrint.j1,if_neg (by decide),A0 (k+3),Option.bind_some]
   simp only [b1,b2_,b3_,bS_app,bS_len,List.length_append,List.length_cons,List.length_nil,hlr]
   rw [if_pos (by omega),if_pos (by omega),if_pos (by omega),if_pos (by omega)]
   simp [opW,tailW,rdW,memW]
  ·have hrd:=map_rdN (m:=[.addr,.a]) hq
   rw [hrd]
   rw [if_neg (by decide),if_neg (by decide),j0_,rzPrint.j0]
   rw [if_neg (by decide)]
   rw [if_pos rfl]
   have hst2:(if (i:Int)=19 then rzPrint.j1 (k+29) (bS (nameM (i:Int))) (bS (regW a)) true (i:Int) a b v else rzPrint.j1 (k+29) (bS (nameM (i:Int))) (bS (regW a)) ((i:Int) == 20) (i:Int) a b v)=rzPrint.j1 (k+29) (bS (nameM (i:Int))) (bS (regW a)) (stB (i:Int)) (i:Int) a b v:=by
    unfold stB
    by_cases h:(i:Int)=19
    ·rw [if_pos h,decide_eq_true h];rfl
    ·rw [if_neg h,decide_eq_false h];rfl
   rw [hst2,hst,j1_,rzPrint.j1,if_pos rfl,A0 (k+3),Option.bind_some]
   simp only [b1,b2_,b3_,bS_app,bS_len,List.length_append,List.length_cons,List.length_nil,hlr]
   rw [if_pos (by omega),if_pos (by omega),if_pos (by omega),if_pos (by omega)]
   simp [opW,tailW,rdW,memW]
  ·have hrd:=map_rdN (m:=[.a,.b,.target]) hq
   rw [hrd]
   rw [if_neg (by decide),if_neg (by decide),j0_,rzPrint.j0]
   rw [if_neg (by decide)]
   rw [if_neg (by decide),if_pos rfl]
   rw [T0 (k+4),Option.bind_some]
   simp only [b1,b2_,b3_,bS_app,bS_len,List.length_append,List.length_cons,List.length_nil,hlr]
   rw [if_pos (by omega),if_pos (by omega),if_pos (by omega),if_pos (by omega),if_pos (by omega),if_pos (by omega)]
   simp [opW,tailW,rdW,memW]
  ·have hrd:=map_rdN (m:=[.target]) hq
   rw [hrd]
   rw [if_neg (by decide),if_neg (by decide),j0_,rzPrint.j0]
   rw [if_neg (by decide)]
   rw [if_neg (by decide),if_neg (by decide),if_pos rfl]
   rw [T0 (k+4),Option.bind_some]
   simp only [b1,b2_,b3_,bS_app,bS_len,List.length_append,List.length_cons,List.length_nil,hlr]
   rw [if_pos (by omega),if_pos (by omega)]
   simp [opW,tailW,rdW,memW]
  ·have hrd:=map_rdN (m:=[.a]) hq
   rw [hrd]
   rw [if_neg (by decide),if_neg (by decide),j0_,rzPrint.j0]
   rw [if_neg (by decide)]
   rw [if_neg (by decide),if_neg (by decide),if_neg (by decide),if_pos rfl]
   simp only [b1,b2_,b3_,bS_app,bS_len,List.length_append,List.length_cons,List.length_nil,hlr]
   rw [if_pos (by omega),if_pos (by omega)]
   simp [opW,tailW,rdW,memW]
  ·have hrd:=map_rdN (m:=[.a,.target]) hq
   rw [hrd]
   rw [if_neg (by decide),if_neg (by decide),j0_,rzPrint.j0]
   rw [if_neg (by decide)]
   rw [if_neg (by decide),if_neg (by decide),if_neg (by decide),if_neg (by decide),if_pos rfl]
   rw [T0 (k+4),Option.bind_some]
   simp only [b1,b2_,b3_,bS_app,bS_len,List.length_append,List.length_cons,List.length_nil,hlr]
   rw [if_pos (by omega),if_pos (by omega),if_pos (by omega),if_pos (by omega)]
   simp [opW,tailW,rdW,memW]
  ·have hrd:=map_rdN (m:=[.num]) hq
   rw [hrd]
   rw [if_neg (by decide),if_neg (by decide),j0_,rzPrint.j0]
   rw [if_neg (by decide)]
   rw [if_neg (by decide),if_neg (by decide),if_neg (by decide),if_neg (by decide),if_neg (by decide),if_pos rfl]
   rw [N0 (k+4),Option.bind_some]
   simp only [b1,b2_,b3_,bS_app,bS_len,List.length_append,List.length_cons,List.length_nil,hlr]
   rw [if_pos (by omega),if_pos (by omega)]
   simp [opW,tailW,rdW,memW]
  ·have hrd:=map_rdN (m:=[.a,.mem]) hq
   rw [hrd]
   rw [if_neg (by decide),if_neg (by decide),j0_,rzPrint.j0]
   rw [if_neg (by decide)]
   rw [if_neg (by decide),if_neg (by decide),if_neg (by decide),if_neg (by decide),if_neg (by decide),if_neg (by decide),if_pos rfl]
   simp only [b1,b2_,b3_,bS_app,bS_len,List.length_append,List.length_cons,List.length_nil,hlr]
   rw [if_pos (by omega),if_pos (by omega),if_pos (by omega),if_pos (by omega),if_pos (by omega)]
   simp [opW,tailW,rdW,memW]
end Go.Proofs.YtffojmgmpfjlhaaGreatDoor.Q
namespace Go.Proofs.YtffojmgmpfjlhaaGreatDoor.Q
open Go.Proofs.Ix hiding rd
open Go Go.Proofs.YtffojmgmpfjlhaaGreatDoor Go.RowKit Go.Proofs.YtffojmgmpfjlhaaGreatDoorW.PrintWords Go.Proofs.YtffojmgmpfjlhaaGreatDoorW.PrintLast Go.Proofs.YtffojmgmpfjlhaaGreatDoorW.PrintMore
abbrev z5:Array Value:=#[.int .i64 0,.int .i64 0,.int .i64 0,.int .i64 0,.int .i64 0]
theorem five_put {w:World} {g:Nat} (h:w.heap[g]?=some (Obj.cells z5 44 (0,0))) (a b c d e:Value) :
  (((((w.setCell ⟨g,0,none⟩ a).setCell ⟨g,1,none⟩ b).setCell ⟨g,2,none⟩ c).setCell ⟨g,3,none⟩ d).setCell ⟨g,4,none⟩ e).heap[g]?=some (Obj.cells #[a,b,c,d,e] 44 (0,0)) :=
 blk_put (blk_put (blk_put (blk_put (blk_put h 0 a rfl) 1 b rfl) 2 c rfl) 3 d rfl) 4 e rfl
theorem rparse_any (s:ByteArray) (w:World):Calls Tryz.prog 27 #[.string s] w fun e w'=>e=.returned (.agg #[.int .i64 (parseR s).1,.int .i64 (parseR s).2.1,.int .i64 (parseR s).2.2.1,.int .i64 (parseR s).2.2.2.1,.int .i64 (parseR s).2.2.2.2])∧Below w.heap.size w w':=by
 have hu23:=Tryz.underlying23
 unfold parseR
 by_cases hlong:20000 < s.size
 ·rw [if_pos hlong]
  have h1:(20000:Int) < (s.size:Int):=by omega
  go_enter Tryz.func27,Tryz.ntmps27
  go_wp2
  refine bodyPost_ret (results_cell_row rfl _ _ w.heap.size 44 #[.int .i64 0,.int .i64 0,.int .i64 0,.int .i64 0,.int .i64 2] (0,0) _ rfl (heap_own w _) Tryz.underlying44 rfl (by kernel_rfl)) rfl ?_
  exact ⟨rfl,(Below.refl _ _).alloc (Nat.le_refl _) _⟩
 ·rw [if_neg hlong]
  have h1:¬ (20000:Int) < (s.size:Int):=by omega
  obtain ⟨op,a,b,v,bd,fr,lb',e,hl,hb1,hb2⟩:=rline s (by omega) ⟨#[]⟩ (2 * s.size+301) (by omega)
  have HL:=Aside0.mk hl
  have H1:=Aside0.mk hb1
  have H2:=Aside0.mk hb2
  clear hl hb1 hb2
  have hI:IsS117 w ((w.alloc (.cells z5 44)).alloc (.cells #[.string s,.int .i64 0,.bool false,.bool false,.bool false,.string ⟨#[]⟩] 117)) (w.heap.size+1) s 0 false false false ⟨#[]⟩:=by
   have:=IsS117.new w (w.alloc (.cells z5 44)) s 0 false false false ⟨#[]⟩ ((Below.refl _ _).alloc (Nat.le_refl _) _)
   rw [World.size_alloc] at this
   exact this
  have hB:Below w.heap.size w ((w.alloc (.cells z5 44)).alloc (.cells #[.string s,.int .i64 0,.bool false,.bool false,.bool false,.string ⟨#[]⟩] 117)):=((Below.refl _ _).alloc (Nat.le_refl _) _).alloc (by simp) _
  have hq0:((w.alloc (.cells z5 44)).alloc (.cells #[.string s,.int .i64 0,.bool false,.bool false,.bool false,.string ⟨#[]⟩] 117)).heap[w.heap.size]?=some (Obj.cells z5 44 (0,0)) :=
   (Below.heap_alloc _ _ _ (by simp)).trans (heap_own w _)
  have hI:=Aside0.mk hI
  have hB:=Aside0.mk hB
  have hq0:=Aside0.mk hq0
  rename_i hI' hB' hq0'
  clear hI' hB' hq0'
  cases bd with
  | true =>
   have hn:=H1.out rfl
   rw [hn]
   clear hn H1 H2
   go_enter Tryz.func27,Tryz.ntmps27
   go_wp2_with (go_at_call 70;refine (rzreader_line.calls (2 * s.size+301+20) (w.heap.size+1) s 0 false false false ⟨#[]⟩ op a b v s e _ _ false lb' w _ (by exact hI.out) (by exact hB.out) HL.out).mono ?_;rintro e w3 ⟨rfl,hi3,hb3,hk3⟩;have hq:=Below.heap_alloc w3 (.cells #[.int .i64 op,.int .i64 a,.int .i64 b,.int .i64 v] 23) w.heap.size (Nat.lt_of_lt_of_le (by simp;omega) (keep_size hk3)) |>.trans (KeepBut.blk hk3 (g':=w.heap.size) (o:=.cells z5 44 (0,0)) hq0.out (by omega) (by simp));have hb4:=hb3.alloc hb3.size (.cells #[.int .i64 op,.int .i64 a,.int .i64 b,.int .i64 v] 23);obtain ⟨HGz,hgz⟩:=IsS117.alloc hi3 (.cells #[.int .i64 op,.int .i64 a,.int .i64 b,.int .i64 v] 23);have hcz2:=cellS117_2 HGz;have hcz3:=cellS117_3 HGz;have hfz2:=blk_frozen HGz 2;have hfz3:=blk_frozen HGz 3;have c0:=(blk_cell hq 0).trans (rfl:_=some (Value.int .i64 0));have c1:=(blk_cell hq 1).trans (rfl:_=some (Value.int .i64 0));have c2:=(blk_cell hq 2).trans (rfl:_=some (Value.int .i64 0));have c3:=(blk_cell hq 3).trans (rfl:_=some (Value.int .i64 0));have c4:=(blk_cell hq 4).trans (rfl:_=some (Value.int .i64 0));have f0:=blk_frozen hq 0;have f1:=blk_frozen hq 1;have f2:=blk_frozen hq 2;have f3:=blk_frozen hq 3;have f4:=blk_frozen hq 4;clear HGz hgz)
   refine bodyPost_ret (results_cell_row rfl _ _ w.heap.size 44 #[.int .i64 0,.int .i64 0,.int .i64 0,.int .i64 0,.int .i64 22] (0,0) _ rfl (five_put hq _ _ _ _ _) Tryz.underlying44 rfl (by kernel_rfl)) rfl ?_
   exact ⟨rfl,((((hb4.setCell (Nat.le_refl _) _).setCell (Nat.le_refl _) _).setCell (Nat.le_refl _) _).setCell (Nat.le_refl _) _).setCell (Nat.le_refl _) _⟩
  | false =>
   obtain ⟨l,hl,hfr,hv⟩:=H2.out rfl
   rw [hl]
   have HV:=Aside0.mk hv
   clear H1 H2 hl
   cases fr with
   | true =>
    simp only [hfr,if_pos]
    clear hfr
    go_enter Tryz.func27,Tryz.ntmps27
    go_wp2_with (go_at_call 70;refine (rzreader_line.calls (2 * s.size+301+20) (w.heap.size+1) s 0 false false false ⟨#[]⟩ op a b v s e _ _ false lb' w _ (by exact hI.out) (by exact hB.out) HL.out).mono ?_;rintro e w3 ⟨rfl,hi3,hb3,hk3⟩;have hq:=Below.heap_alloc w3 (.cells #[.int .i64 op,.int .i64 a,.int .i64 b,.int .i64 v] 23) w.heap.size (Nat.lt_of_lt_of_le (by simp;omega) (keep_size hk3)) |>.trans (KeepBut.blk hk3 (g':=w.heap.size) (o:=.cells z5 44 (0,0)) hq0.out (by omega) (by simp));have hb4:=hb3.alloc hb3.size (.cells #[.int .i64 op,.int .i64 a,.int .i64 b,.int .i64 v] 23);obtain ⟨HGz,hgz⟩:=IsS117.alloc hi3 (.cells #[.int .i64 op,.int .i64 a,.int .i64 b,.int .i64 v] 23);have hcz2:=cellS117_2 HGz;have hcz3:=cellS117_3 HGz;have hfz2:=blk_frozen HGz 2;have hfz3:=blk_frozen HGz 3;have c0:=(blk_cell hq 0).trans (rfl:_=some (Value.int .i64 0));have c1:=(blk_cell hq 1).trans (rfl:_=some (Value.int .i64 0));have c2:=(blk_cell hq 2).trans (rfl:_=some (Value.int .i64 0));have c3:=(blk_cell hq 3).trans (rfl:_=some (Value.int .i64 0));have c4:=(blk_cell hq 4).trans (rfl:_=some (Value.int .i64 0));have f0:=blk_frozen hq 0;have f1:=blk_frozen hq 1;have f2:=blk_frozen hq 2;have f3:=blk_frozen hq 3;have f4:=blk_frozen hq 4;clear HGz hgz)
    refine bodyPost_ret (results_cell_row rfl _ _ w.heap.size 44 #[.int .i64 0,.int .i64 0,.int .i64 0,.int .i64 0,.int .i64 24] (0,0) _ rfl (five_put hq _ _ _ _ _) Tryz.underlying44 rfl (by kernel_rfl)) rfl ?_
    exact ⟨rfl,((((hb4.setCell (Nat.le_refl _) _).setCell (Nat.le_refl _) _).setCell (Nat.le_refl _) _).setCell (Nat.le_refl _) _).setCell (Nat.le_refl _) _⟩
   | false =>
    obtain ⟨v1,v2,v3,v4⟩:=HV.out rfl
    simp only [hfr,Bool.false_eq_true,if_false,v1,v2,v3,v4]
    clear hfr v1 v2 v3 v4
    go_enter Tryz.func27,Tryz.ntmps27
    go_wp2_with (go_at_call 70;refine (rzreader_line.calls (2 * s.size+301+20) (w.heap.size+1) s 0 false false false ⟨#[]⟩ op a b v s e _ _ false lb' w _ (by exact hI.out) (by exact hB.out) HL.out).mono ?_;rintro e w3 ⟨rfl,hi3,hb3,hk3⟩;have hq:=Below.heap_alloc w3 (.cells #[.int .i64 op,.int .i64 a,.int .i64 b,.int .i64 v] 23) w.heap.size (Nat.lt_of_lt_of_le (by simp;omega) (keep_size hk3)) |>.trans (KeepBut.blk hk3 (g':=w.heap.size) (o:=.cells z5 44 (0,0)) hq0.out (by omega) (by simp));have hb4:=hb3.alloc hb3.size (.cells #[.int .i64 op,.int .i64 a,.int .i64 b,.int .i64 v] 23);obtain ⟨HGz,hgz⟩:=IsS117.alloc hi3 (.cells #[.int .i64 op,.int .i64 a,.int .i64 b,.int .i64 v] 23);have hcz2:=cellS117_2 HGz;have hcz3:=cellS117_3 HGz;have hfz2:=blk_frozen HGz 2;have hfz3:=blk_frozen HGz 3;have c0:=(blk_cell hq 0).trans (rfl:_=some (Value.int .i64 0));have c1:=(blk_cell hq 1).trans (rfl:_=some (Value.int .i64 0));have c2:=(blk_cell hq 2).trans (rfl:_=some (Value.int .i64 0));have c3:=(blk_cell hq 3).trans (rfl:_=some (Value.int .i64 0));have c4:=(blk_cell hq 4).trans (rfl:_=some (Value.int .i64 0));have f0:=blk_frozen hq 0;have f1:=blk_frozen hq 1;have f2:=blk_frozen hq 2;have f3:=blk_frozen hq 3;have f4:=blk_frozen hq 4;clear HGz hgz)
    refine bodyPost_ret (results_cell_row rfl _ _ w.heap.size 44 #[.int .i64 op,.int .i64 a,.int .i64 b,.int .i64 v,.int .i64 0] (0,0) _ rfl (five_put hq _ _ _ _ _) Tryz.underlying44 rfl (by kernel_rfl)) rfl ?_
    exact ⟨rfl,((((hb4.setCell (Nat.le_refl _) _).setCell (Nat.le_refl _) _).setCell (Nat.le_refl _) _).setCell (Nat.le_refl _) _).setCell (Nat.le_refl _) _⟩
def rzParse.f (a0:ByteArray):Option (Int × Int × Int × Int × Int):=some (parseR a0)
theorem rzParse.calls (a0:ByteArray) (r1 r2 r3 r4 r5:Int) (w:World) (h:rzParse.f a0=some (r1,r2,r3,r4,r5)) :
  Calls Tryz.prog 27 #[.string a0] w fun e w'=>e=.returned (.agg #[.int .i64 r1,.int .i64 r2,.int .i64 r3,.int .i64 r4,.int .i64 r5])∧Below w.heap.size w w':=by
 have h1:parseR a0=(r1,r2,r3,r4,r5):=Option.some.inj h
 refine (rparse_any a0 w).mono ?_
 rw [h1]
 rintro e w' ⟨h2,h3⟩
 exact ⟨h2,h3⟩
end Go.Proofs.YtffojmgmpfjlhaaGreatDoor.Q
namespace Go.Proofs.YtffojmgmpfjlhaaGreatDoor.Q
open Go.Proofs.YtffojmgmpfjlhaaGreatDoor Go.RowKit Go.Proofs.YtffojmgmpfjlhaaGreatDoorW.PrintWords Go.Proofs.YtffojmgmpfjlhaaGreatDoorW.PrintLast Go.Proofs.YtffojmgmpfjlhaaGreatDoorW.PrintMore
attribute [local go_sem] max2_int min2_int max_two min_two max_three min_three max_four min_four
attribute [local go_sem high] eqA23
def lzInsnPrints.j0:Nat→ByteArray→Bool→Bool→Option (Bool)
 | 0,_,_,_=>none
 | k+1,x1,x5,x38=>if x38=true then (some false) else ((insn_Parse.f x1).bind fun bt443=>((rzParse.f x1).bind fun bt449=>(if x5=true then (if bt443.2.2.2.2=bt449.2.2.2.2 then (some (bt443.1 == bt449.1 && (bt443.2.1 == bt449.2.1 && (bt443.2.2.1 == bt449.2.2.1 && (bt443.2.2.2.1 == bt449.2.2.2.1))))) else (some false)) else (some false))))
def lzInsnPrints.f (k:Nat) (a0_0:Int) (a0_1:Int) (a0_2:Int) (a0_3:Int) (a1:ByteArray):Option (Bool):=(lzsane.f k).bind fun t438=>((insn_Print.f k a0_0 a0_1 a0_2 a0_3).bind fun bt439=>((rzCheck.f k a0_0 a0_1 a0_2 a0_3).bind fun t441=>(if bt439.2=t441 then (if bt439.2=0 then ((rzPrint.f k a0_0 a0_1 a0_2 a0_3).bind fun t442=>(if bt439.1.toList=t442.toList then (lzInsnPrints.j0 k a1 t438 false) else (lzInsnPrints.j0 k a1 t438 true))) else (lzInsnPrints.j0 k a1 t438 (bt439.1.toList != ([]:List UInt8)))) else (lzInsnPrints.j0 k a1 t438 true))))
theorem lzInsnPrints.mono_l:∀ k,(∀ y0 y1 y2,LeO (lzInsnPrints.j0 k y0 y1 y2) (lzInsnPrints.j0 (k+1) y0 y1 y2))
 | 0=>fun _ _ _ r h=>by simp [lzInsnPrints.j0] at h
 | k+1=>by
  have ih0:=lzInsnPrints.mono_l k
  ·intro y0 y1 y2;unfold lzInsnPrints.j0;repeat' first
   | (with_reducible exact ih0 _ _ _)
   | (with_reducible exact insn_Print.mono _ _ _ _ _)
   | (with_reducible exact lzsane.mono _)
   | (with_reducible exact rzCheck.mono _ _ _ _ _)
   | (with_reducible exact rzPrint.mono _ _ _ _ _)
   | (with_reducible exact LeO.refl _)
   | (with_reducible exact LeO.none _)
   | (with_reducible refine LeO.ite ?_ ?_)
   | (with_reducible refine LeO.bind ?_ (fun _=>?_))
   | exact LeO.none _
   | refine LeO.ite ?_ ?_
   | refine LeO.bind ?_ (fun _=>?_)
theorem lzInsnPrints.mono:∀ a0 a1 a2 a3 a4 k,LeO (lzInsnPrints.f k a0 a1 a2 a3 a4) (lzInsnPrints.f (k+1) a0 a1 a2 a3 a4):=by
 intro a0 a1 a2 a3 a4 k;have ih0:=lzInsnPrints.mono_l k;unfold lzInsnPrints.f;repeat' first
   | (with_reducible exact ih0 _ _ _)
   | (with_reducible exact insn_Print.mono _ _ _ _ _)
   | (with_reducible exact lzsane.mono _)
   | (with_reducible exact rzCheck.mono _ _ _ _ _)
   | (with_reducible exact rzPrint.mono _ _ _ _ _)
   | (with_reducible exact LeO.refl _)
   | (with_reducible exact LeO.none _)
   | (with_reducible refine LeO.ite ?_ ?_)
   | (with_reducible refine LeO.bind ?_ (fun _=>?_))
   | exact LeO.none _
   | refine LeO.ite ?_ ?_
   | refine LeO.bind ?_ (fun _=>?_)
theorem lzInsnPrints.calls (k:Nat) (a0_0:Int) (a0_1:Int) (a0_2:Int) (a0_3:Int) (a1:ByteArray) (r:Bool) (w:World) (h:lzInsnPrints.f k a0_0 a0_1 a0_2 a0_3 a1=some r) (hgw:GW w) (hrt:r=true:=by rfl) :
  Calls Tryz.prog 4 #[.agg #[.int .i64 a0_0,.int .i64 a0_1,.int .i64 a0_2,.int .i64 a0_3],.string a1] w fun e w'=>e=.returned (.bool r)∧Below w.heap.size w w':=by
 have HRT:=Aside0.mk hrt;clear hrt;have hu23:=Tryz.underlying23;have hu44:=Tryz.underlying44;have HB:=Aside0.mk (Below.refl w.heap.size w);unfold lzInsnPrints.f at h;have H:=h;clear h;obtain ⟨t438,A3,H⟩:=bas H;(try dsimp only at H);obtain ⟨⟨t439,t440⟩,A4,H⟩:=bas H;(try dsimp only at H);have HC5:=Aside0.mk H;clear H;go_enter Tryz.func4,Tryz.ntmps4
 go_upto_region 3 with (first | ((with_reducible refine gate_dst (N:=2) rfl ?_);refine bxe (N:=2) (cs:=#[.int .i64 a0_0,.int .i64 a0_1,.int .i64 a0_2,.int .i64 a0_3]) (t:=23) ?_;intro gb437 hg w6 hbox hb;have BK437:=Aside0.mk hbox;have GW437:Aside0 (w.heap.size≤gb437):=⟨gwb⟩;have GE437:Aside0 (w.heap.size≤gb437):=⟨gwb⟩;replace HB:=Aside0.mk (below_step blw hb);clear hb hbox hg) | ((with_reducible refine gate_callee (f:=17) rfl ?_);refine gl (some 11) Tryz.func17 #[] ?_;(with_reducible refine (lzsane.calls k  t438 _ A3.out gwy).mono ?_);rintro e w7 ⟨rfl,hb⟩;refine ⟨_,rfl,?_⟩;replace BK437:=Aside0.mk (blk_below (g:=gb437) bko hb);replace HB:=Aside0.mk (below_step blw hb);clear hb;obtain ⟨hcz8_0,hcz8_1,hcz8_2,hcz8_3,hfz8_0,hfz8_1,hfz8_2,hfz8_3⟩:=bz4 BK437.out) | ((with_reducible refine gate_callee (f:=24) rfl ?_);refine gl (some 14) Tryz.func24 #[.agg #[.int .i64 a0_0,.int .i64 a0_1,.int .i64 a0_2,.int .i64 a0_3]] ?_;(with_reducible refine (insn_Print.calls k a0_0 a0_1 a0_2 a0_3 _ _ _ A4.out gwy).mono ?_);rintro e w9 ⟨rfl,hb⟩;refine ⟨_,rfl,?_⟩;replace BK437:=Aside0.mk (blk_below (g:=gb437) bko hb);replace HB:=Aside0.mk (below_step blw hb);clear hb))
 (try simp only [Act.put,List.setIfInBounds_toArray,List.set_cons_zero,List.set_cons_succ]);go_cut [38] (fun v38 wc=>∃ (kq:Nat) (x38_4:Bool),v38=.bool x38_4∧Aside0 (lzInsnPrints.j0 kq a1 t438 x38_4=some r)∧Aside0 (kq≤k)∧Aside0 (wc.heap[gb437]?=some (.cells #[.int .i64 a0_0,.int .i64 a0_1,.int .i64 a0_2,.int .i64 a0_3] 23 (0,0)))∧Aside0 (Below w.heap.size w wc))
 case first =>
  have H:=HC5.out;clear HC5;obtain ⟨t441,A10,H⟩:=bas H;(try dsimp only at H);by_cases c11:t440=t441
  ·rw [if_pos c11] at H;obtain ⟨c11b0,c11b1⟩:=bqt c11;clear c11;(first | rw [c11b0] | (simp only [i64_w,i32_w];rw [c11b0]) | skip);by_cases c12:t440=0
   ·rw [if_pos c12] at H;obtain ⟨c12b0,c12b1⟩:=bqt c12;clear c12;obtain ⟨t442,A13,H⟩:=bas H;(try dsimp only at H);by_cases c14:t439.toList=t442.toList
    ·rw [if_pos c14] at H;obtain ⟨c14b0,c14b1⟩:=bqt c14;clear c14;have H':=Aside0.mk H;clear H;obtain ⟨_,_,_,_,_,_,_,_⟩:=bz4 BK437.out;go_wp2_with (first | ((with_reducible refine gate_callee (f:=19) rfl ?_);refine gl (some 19) Tryz.func19 #[.agg #[.int .i64 a0_0,.int .i64 a0_1,.int .i64 a0_2,.int .i64 a0_3]] ?_;(with_reducible refine (rzCheck.calls k a0_0 a0_1 a0_2 a0_3 _ _ A10.out).mono ?_);rintro e w16 ⟨rfl,hb⟩;refine ⟨_,rfl,?_⟩;replace BK437:=Aside0.mk (blk_below (g:=gb437) bko hb);replace HB:=Aside0.mk (below_step blw hb);clear hb;obtain ⟨_,_,_,_,_,_,_,_⟩:=bz4 BK437.out) | (go_at_call 25;(with_reducible refine (rzPrint.calls k a0_0 a0_1 a0_2 a0_3 _ _ A13.out).mono ?_);rintro e w18 ⟨rfl,hb⟩;replace BK437:=Aside0.mk (blk_below (g:=gb437) bko hb);replace HB:=Aside0.mk (below_step blw hb);clear hb))
     go_meet
     case rel=>exact ⟨_,(false),rsd,H',⟨by first | omega | exact Nat.le_refl _⟩,⟨bko⟩,⟨blw⟩⟩
    ·rw [if_neg c14] at H;obtain ⟨c14b0,c14b1⟩:=bqf c14;exact absurd (H.trans (congrArg some HRT.out)) (by cases k <;> simp [lzInsnPrints.j0])
   ·rw [if_neg c12] at H;obtain ⟨c12b0,c12b1⟩:=bqf c12;have H':=Aside0.mk H;clear H;obtain ⟨_,_,_,_,_,_,_,_⟩:=bz4 BK437.out;go_wp2_with (first | ((with_reducible refine gate_callee (f:=19) rfl ?_);refine gl (some 19) Tryz.func19 #[.agg #[.int .i64 a0_0,.int .i64 a0_1,.int .i64 a0_2,.int .i64 a0_3]] ?_;(with_reducible refine (rzCheck.calls k a0_0 a0_1 a0_2 a0_3 _ _ A10.out).mono ?_);rintro e w24 ⟨rfl,hb⟩;refine ⟨_,rfl,?_⟩;replace BK437:=Aside0.mk (blk_below (g:=gb437) bko hb);replace HB:=Aside0.mk (below_step blw hb);clear hb))
    go_meet
    case rel=>exact ⟨_,((t439.toList != ([]:List UInt8))),(by first | rfl | (show Value.bool (!t439.toList.isEmpty)=Value.bool (t439.toList != []);cases t439.toList <;> rfl) | (simp;cases t439.toList <;> rfl) | (simp;done) | (simp [*];done)),H',⟨by first | omega | exact Nat.le_refl _⟩,⟨bko⟩,⟨blw⟩⟩
  ·rw [if_neg c11] at H;obtain ⟨c11b0,c11b1⟩:=bqf c11;(first | rw [c11b0] | (simp only [i64_w,i32_w];rw [c11b0]) | skip);exact absurd (H.trans (congrArg some HRT.out)) (by cases k <;> simp [lzInsnPrints.j0])
 case rest =>
  clear HC5;try clear hcz8_0
  try clear hcz8_1
  try clear hcz8_2
  try clear hcz8_3
  try clear hfz8_0
  try clear hfz8_1
  try clear hfz8_2
  try clear hfz8_3
  obtain ⟨kq,x38_4,rfl,HA,HJ4,BK437,HB⟩:=hcut;cases kq with
  | zero=>exact absurd HA.out (by simp [lzInsnPrints.j0])
  | succ kj4 =>
   have H:=HA.out;clear HA;simp only [lzInsnPrints.j0] at H;by_cases c27:x38_4=true
   ·subst c27;rw [if_pos rfl] at H;exact absurd (H.trans (congrArg some HRT.out)) (by simp)
   ·replace c27:=Bool.eq_false_iff.mpr c27;subst c27;rw [if_neg (show ¬ (false=true) by decide)] at H;obtain ⟨⟨t443,t444,t445,t446,t447⟩,A28,H⟩:=bas H;(try dsimp only at H);obtain ⟨⟨t449,t450,t451,t452,t453⟩,A29,H⟩:=bas H;(try dsimp only at H);by_cases c30:t438=true
    ·subst c30;rw [if_pos rfl] at H;by_cases c31:t447=t453
     ·rw [if_pos c31] at H;obtain ⟨c31b0,c31b1⟩:=bqt c31;clear c31;obtain rfl:=Option.some.inj H;go_wp2_with (first | ((with_reducible refine gate_callee (f:=26) rfl ?_);refine gl (some 41) Tryz.func26 #[.string a1] ?_;(with_reducible refine (insn_Parse.calls a1 _ _ _ _ _ _ A28.out gwy).mono ?_);rintro e w32 ⟨rfl,hb⟩;refine ⟨_,rfl,?_⟩;replace BK437:=Aside0.mk (blk_below (g:=gb437) bko hb);replace HB:=Aside0.mk (below_step blw hb);clear hb) | ((with_reducible refine gate_dst (N:=8) rfl ?_);refine bxe (N:=8) (cs:=#[.int .i64 0,.int .i64 0,.int .i64 0,.int .i64 0]) (t:=23) ?_;intro gb448 hg w33 hbox hb;have BK448:=Aside0.mk hbox;have GW448:Aside0 (w.heap.size≤gb448):=⟨gwb⟩;have GE448:Aside0 (w.heap.size≤gb448):=⟨gwb⟩;replace HB:=Aside0.mk (below_step blw hb);have NB437_448:Aside0 (gb437≠gb448):=⟨nbk⟩;replace BK437:=Aside0.mk (blk_below (g:=gb437) bko hb);have NB448_437:=Aside0.mk NB437_448.out.symm;clear hb hbox hg;have:=NB448_437.out;have:=NB437_448.out;obtain ⟨_,_,_,_,_,_,_,_⟩:=bz4 BK448.out) | ((with_reducible refine gate_callee (f:=27) rfl ?_);refine gl (some 45) Tryz.func27 #[.string a1] ?_;(with_reducible refine (rzParse.calls a1 _ _ _ _ _ _ A29.out).mono ?_);rintro e w36 ⟨rfl,hb⟩;refine ⟨_,rfl,?_⟩;replace BK437:=Aside0.mk (blk_below (g:=gb437) (o:=.cells #[.int .i64 a0_0,.int .i64 a0_1,.int .i64 a0_2,.int .i64 a0_3] 23 (0,0)) bkf hb);replace BK448:=Aside0.mk (blk_below (g:=gb448) (o:=.cells #[.int .i64 t443,.int .i64 t444,.int .i64 t445,.int .i64 t446] 23 (0,0)) (by (with_reducible repeat (first | refine blk_drewN ?_ _ | refine blk_drew ?_ | refine blk_alloc ?_ _));refine blk_put (cs:=#[.int .i64 t443,.int .i64 t444,.int .i64 t445,.int .i64 0]) ?_ 3 _ rfl;refine blk_put (cs:=#[.int .i64 t443,.int .i64 t444,.int .i64 0,.int .i64 0]) ?_ 2 _ rfl;refine blk_put (cs:=#[.int .i64 t443,.int .i64 0,.int .i64 0,.int .i64 0]) ?_ 1 _ rfl;refine blk_put (cs:=#[.int .i64 0,.int .i64 0,.int .i64 0,.int .i64 0]) ?_ 0 _ rfl;exact bko) hb);replace HB:=Aside0.mk (below_step blw hb);clear hb) | ((with_reducible refine gate_dst (N:=10) rfl ?_);refine bxe (N:=10) (cs:=#[.int .i64 0,.int .i64 0,.int .i64 0,.int .i64 0,.int .i64 0]) (t:=44) ?_;intro gb454 hg w37 hbox hb;have BK454:=Aside0.mk hbox;have GW454:Aside0 (w.heap.size≤gb454):=⟨gwb⟩;have GE454:Aside0 (w.heap.size≤gb454):=⟨gwb⟩;replace HB:=Aside0.mk (below_step blw hb);have NB437_454:Aside0 (gb437≠gb454):=⟨nbk⟩;replace BK437:=Aside0.mk (blk_below (g:=gb437) bko hb);have NB454_437:=Aside0.mk NB437_454.out.symm;have NB448_454:Aside0 (gb448≠gb454):=⟨nbk⟩;replace BK448:=Aside0.mk (blk_below (g:=gb448) bko hb);have NB454_448:=Aside0.mk NB448_454.out.symm;clear hb hbox hg;have:=NB454_437.out;have:=NB437_454.out;have:=NB454_448.out;have:=NB448_454.out;have hcz40_0:w37.cell? ⟨gb454,0,none⟩=some (.int .i64 0):=(blk_cell BK454.out 0).trans rfl;have hcz40_1:w37.cell? ⟨gb454,1,none⟩=some (.int .i64 0):=(blk_cell BK454.out 1).trans rfl;have hcz40_2:w37.cell? ⟨gb454,2,none⟩=some (.int .i64 0):=(blk_cell BK454.out 2).trans rfl;have hcz40_3:w37.cell? ⟨gb454,3,none⟩=some (.int .i64 0):=(blk_cell BK454.out 3).trans rfl;have hcz40_4:w37.cell? ⟨gb454,4,none⟩=some (.int .i64 0):=(blk_cell BK454.out 4).trans rfl;have hfz40_0:=blk_frozen BK454.out 0;have hfz40_1:=blk_frozen BK454.out 1;have hfz40_2:=blk_frozen BK454.out 2;have hfz40_3:=blk_frozen BK454.out 3;have hfz40_4:=blk_frozen BK454.out 4;obtain ⟨_,_,_,_,_,_,_,_⟩:=bz4 BK448.out))
      go_ret;exact ⟨rew,blw⟩
     ·rw [if_neg c31] at H;obtain ⟨c31b0,c31b1⟩:=bqf c31;exact absurd (H.trans (congrArg some HRT.out)) (by simp)
    ·replace c30:=Bool.eq_false_iff.mpr c30;subst c30;rw [if_neg (show ¬ (false=true) by decide)] at H;exact absurd (H.trans (congrArg some HRT.out)) (by simp)
end Go.Proofs.YtffojmgmpfjlhaaGreatDoor.Q
namespace Go.Proofs.YtffojmgmpfjlhaaGreatDoor.Q
open Go.Proofs.Ix hiding rd
open Go Go.Proofs.YtffojmgmpfjlhaaGreatDoor Go.RowKit Go.Proofs.YtffojmgmpfjlhaaGreatDoorW.PrintWords
theorem prints_j0 (s:ByteArray):lzInsnPrints.j0 600 s true false=some true:=by
 show lzInsnPrints.j0 (599+1) s true false=_
 rw [lzInsnPrints.j0,if_neg (by decide)]
 unfold insn_Parse.f rzParse.f
 rw [Option.bind_some,Option.bind_some,if_pos rfl,if_pos rfl]
 simp
theorem InsnPrints_pure (op a b v:Int) (h0:-9223372036854775808≤v) (h1:v≤9223372036854775807) (s:ByteArray):lzInsnPrints.f 600 op a b v s=some true:=by
 unfold lzInsnPrints.f
 rw [sane_true 500,Option.bind_some]
 by_cases hc:chkD op a b v=0
 ·obtain ⟨hv,a0,a7,b0,b7,_,_,hF⟩:=chk_parts hc
  have o:Ok1 op a b v:=⟨a0,a7,b0,b7,h0,h1,hF⟩
  rw [print_f hv o hc 590,Option.bind_some,rcheck_f op a b v 600 (by omega),Option.bind_some]
  simp only
  rw [if_pos hc.symm,if_pos trivial,rprint_f hv o 570,Option.bind_some,if_pos rfl]
  exact prints_j0 s
 ·have hp:insn_Print.f 600 op a b v=some (⟨#[]⟩,chkD op a b v):=by
   unfold insn_Print.f
   rw [check_f _ _ _ _ _ (by omega),Option.bind_some,if_neg hc]
  rw [hp,Option.bind_some,rcheck_f op a b v 600 (by omega),Option.bind_some]
  simp only
  rw [if_pos trivial,if_neg hc,show ((⟨#[]⟩:ByteArray).toList != [])=false by decide +kernel]
  exact prints_j0 s
theorem prints_any (a b c e:Int) (s:ByteArray) (wa:(Lit.int .i64 a).wf=true) (wb:(Lit.int .i64 b).wf=true) (wc:(Lit.int .i64 c).wf=true) (we:(Lit.int .i64 e).wf=true) (w:World) (hgw:GW w) :
  Calls Tryz.prog 4 #[.agg #[.int .i64 a,.int .i64 b,.int .i64 c,.int .i64 e],.string s] w fun x w'=>x=.returned (.bool true)∧Below w.heap.size w w' :=
 lzInsnPrints.calls 600 a b c e s true w (InsnPrints_pure a b c e (wf64b we).1 (wf64b we).2 s) hgw
end Go.Proofs.YtffojmgmpfjlhaaGreatDoor.Q
