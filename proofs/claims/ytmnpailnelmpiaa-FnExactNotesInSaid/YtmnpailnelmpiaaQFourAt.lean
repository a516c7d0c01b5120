/- Parts. -/
import Derived.Test.YtmnpailnelmpiaaQFresh
import Derived.Test.YtmnpailnelmpiaaQW
import Derived.Lib.ConvBytes
import Derived.Lib.AtoiErrMem
set_option linter.unusedSimpArgs false
set_option linter.unusedVariables false
set_option maxRecDepth 100000
namespace Go.Proofs.Ytmnpailnelmpiaa
open Go.RowKit Go.Sort
def jbO (l:List UInt8):Int:=l.foldl (fun n c=>256*n+(c.toNat:Int)) 0
def kV (t:ByteArray) (k:Int):Int×Bool:=if 0≤k∧k≤(t.size:Int)-4 then (jbO ((t.data.toList.drop k.toNat).take 4),true) else (0,false)
theorem jl4 {B:List UInt8} {j:Nat} {u:UInt8} (h:B[j]?=some u):jbO (B.take (j+1))=256*jbO (B.take j)+(u.toNat:Int):=by
 rw [List.take_add_one,h,jbO,List.foldl_append];rfl
theorem jn3:∀(l:List UInt8) (a:Int) (n:Nat),0≤a→a<256^n→0≤l.foldl (fun n c=>256*n+(c.toNat:Int)) a∧l.foldl (fun n c=>256*n+(c.toNat:Int)) a<256^(n+l.length)
 |[],a,n,h0,h1=>⟨h0,h1⟩
 |c::l,a,n,h0,h1=>by
  have hc:(c.toNat:Int)<256:=by have:=UInt8.toNat_lt c;omega
  have:=jn3 l (256*a+(c.toNat:Int)) (n+1) (by omega) (by rw [Int.pow_succ];omega)
  rw [List.foldl_cons,List.length_cons,show n+(l.length+1)=n+1+l.length by omega]
  exact this
theorem jsE (l:List UInt8) (h:l.length≤4):0≤jbO l∧jbO l<4294967296:=by
 have h1:=jn3 l 0 0 (by omega) (by decide)
 refine ⟨h1.1,Int.lt_of_lt_of_le h1.2 ?_⟩;rw [Nat.zero_add];have:l.length=0∨l.length=1∨l.length=2∨l.length=3∨l.length=4:=by omega
 rcases this with e|e|e|e|e<;>rw [e]<;>decide
theorem jnZ (s:ByteArray) (k:Int) (w:World) (hs:s.size≤1000000000) (hk0:-1000000000≤k) (hk1:k≤1000000000):
 Calls Try.prog 109 #[.string s,.int .i64 k] w fun e w'=>e=.returned (.tuple #[.int .i64 (kV s k).1,.bool (kV s k).2])∧Below w.heap.size w w':=by
 have hS:=Lib.hid hs;have hw4:IntKind.i64.wrap ((s.size:Int)-4)=(s.size:Int)-4:=ji (by omega) (by omega)
 by_cases hin:0≤k∧k≤(s.size:Int)-4
 ·have hib:inb k 0 ((s.size:Int)-4)=true:=decide_eq_true hin
  obtain ⟨k,rfl⟩:=Int.eq_ofNat_of_zero_le hin.1;have hkz:k+4≤s.size:=by omega
  have hw5:IntKind.i64.wrap ((k:Int)+4)=((k+4:Nat):Int):=ji (by omega) (by omega)
  have hfa:kV s (k:Int)=(jbO ((s.data.toList.drop k).take 4),true):=by rw [kV,if_pos hin,Int.toNat_natCast]
  rw [hfa];generalize hB:(s.data.toList.drop k).take 4=B at*
  go_enter Try.func109,Try.ntmps109
  go_wp2_with (go_at_call 61;refine (jcf _ _ _ _).mono ?_;rintro e2 w2 ⟨rfl,hb2⟩)
  have hcv:=Lib.run_convert_string_bytes (P:=Try.prog) w2 9 47 5 (s.extract k (k+4)) (u:=.string) (by kernel_rfl) (by kernel_rfl) (by kernel_rfl)
  have hbw:=Lib.bytesWorld_below w2 5 (s.extract k (k+4));have hcl:=Lib.bytesWorld_cell w2 5 (s.extract k (k+4));generalize Lib.bytesWorld w2 5 (s.extract k (k+4))=W1 at hcv hbw hcl;have hez:(s.extract k (k+4)).size=4:=by rw [ByteArray.size_extract];omega
  have hed:(s.extract k (k+4)).data.toList=B:=by
   rw [←hB,ByteArray.data_extract,Array.toList_extract,List.extract_eq_take_drop]
   congr 1;omega
  rw [hez,hed] at hcl;rw [hez] at hcv
  have hBl:B.length=4:=by
   rw [←hB,List.length_take,List.length_drop,Array.length_toList];have:s.data.size=s.size:=rfl;omega
  rw [hcv];clear hcv hed hez hB
  go_wp2
  go_loopw [6,8,22] (fun n _ i wr=>∃j:Nat,j≤4∧i=.int .i64 j∧n=.int .i64 (jbO (B.take j))∧wr=W1) (fun _ _ i _=>4-(intOf i).toNat)
  case atStart=>exact ⟨0,by omega,rfl,rfl,rfl⟩
  case round=>
   obtain ⟨j,hj,rfl,rfl,rfl⟩:=hrel;by_cases hlt:j<4
   ·obtain ⟨u,hu⟩:=jg (show j<B.length by omega)
    have p0:=hcl j hlt;have hug:B.getD j 0=u:=by rw [List.getD,hu];rfl
    rw [hug] at p0;have hst:=jl4 hu;have hB4:(B.take j).length≤4:=by rw [List.length_take];omega
    have hb4:=jsE (B.take j) hB4;have hul:=UInt8.toNat_lt u;have hw1:IntKind.i64.wrap (256*jbO (B.take j))=256*jbO (B.take j):=ji (by omega) (by omega)
    have hw3:IntKind.i64.wrap (u.toNat:Int)=(u.toNat:Int):=ji (by omega) (by omega)
    have hw2:IntKind.i64.wrap (256*jbO (B.take j)+IntKind.i64.wrap (u.toNat:Int))=jbO (B.take (j+1)):=by rw [hw3,hst];exact ji (by omega) (by omega)
    clear hcl
    go_wp2
    go_roundw
    case rel=>exact ⟨j+1,by omega,by go_num,congrArg (Value.int .i64) hst.symm,trivial⟩
    case measure=>simp [intOf];omega
   ·obtain rfl:j=4:=by omega
    clear hcl;have hB4:B.take 4=B:=List.take_of_length_le (by omega)
    rw [hB4]
    go_wp2
    go_ret2
    exact ⟨by simp,jR hb2 hbw⟩
 ·have hib:inb k 0 ((s.size:Int)-4)=false:=decide_eq_false hin
  have hfa:kV s k=(0,false):=by rw [kV,if_neg hin]
  rw [hfa]
  go_enter Try.func109,Try.ntmps109
  go_wp2_with (go_at_call 61;refine (jcf _ _ _ _).mono ?_;rintro e2 w2 ⟨rfl,hb2⟩)
  go_ret2
  exact ⟨rfl,hb2⟩
theorem jgZ (t:ByteArray) (k:Int) (hs:t.size≤1000000000) (hk0:-1000000000≤k) (hk1:k≤1000000000):kg Try.prog 109 [.c (.val (.string t)),.c (.val (.int .i64 k))] (.tup [(false,[.val (.int .i64 (kV t k).1)]),(false,[.val (.bool (kV t k).2)])]):=by
 refine ⟨⟨_,Try.func109,by kernel_rfl,by kernel_rfl⟩,fun w xs hv=>?_⟩
 obtain ⟨a,xs,rfl,h1,hv⟩:=hv;obtain ⟨b,xs,rfl,h2,hv⟩:=hv;obtain rfl:xs=[]:=hv;rw [zx h1,zx h2];refine (jnZ t k w hs hk0 hk1).mono ?_;rintro e w' ⟨rfl,hb⟩;refine ⟨_,[],rfl,?_,Fresh.nil _,hb⟩;refine ⟨[.int .i64 (kV t k).1,.bool (kV t k).2],rfl,?_⟩;refine ⟨_,_,[.int .i64 (kV t k).1],[],[],rfl,rfl,⟨_,_,[],[],rfl,rfl,⟨rfl,rfl⟩,rfl,rfl⟩,rfl,?_⟩;exact ⟨_,_,[.bool (kV t k).2],[],[],rfl,rfl,⟨_,_,[],[],rfl,rfl,⟨rfl,rfl⟩,rfl,rfl⟩,rfl,rfl,rfl⟩
end Go.Proofs.Ytmnpailnelmpiaa
