/- Parts. -/
import Derived.Test.YtmnpailnelmpiaaGreatQW
import Derived.Lib.ConvBytes
import Derived.Lib.AtoiErrMem
set_option linter.unusedSimpArgs false
set_option linter.unusedVariables false
set_option maxRecDepth 100000
namespace Go.Proofs.YtmnpailnelmpiaaGreat
open Go.RowKit Go.Sort
def zD (l:List UInt8):Int:=l.foldl (fun n c=>256*n+(c.toNat:Int)) 0
def ki (t:ByteArray) (k:Int):Int×Bool:=if 0≤k∧k≤(t.size:Int)-4 then (zD ((t.data.toList.drop k.toNat).take 4),true) else (0,false)
theorem jub {B:List UInt8} {j:Nat} {u:UInt8} (h:B[j]?=some u):zD (B.take (j+1))=256*zD (B.take j)+(u.toNat:Int):=by
 rw [List.take_add_one,h,zD,List.foldl_append];rfl
theorem jwZ:∀(l:List UInt8) (a:Int) (n:Nat),0≤a→a<256^n→0≤l.foldl (fun n c=>256*n+(c.toNat:Int)) a∧l.foldl (fun n c=>256*n+(c.toNat:Int)) a<256^(n+l.length)
 |[],a,n,h0,h1=>⟨h0,h1⟩
 |c::l,a,n,h0,h1=>by
  have hc:(c.toNat:Int)<256:=by have:=UInt8.toNat_lt c;omega
  have:=jwZ l (256*a+(c.toNat:Int)) (n+1) (by omega) (by rw [Int.pow_succ];omega)
  rw [List.foldl_cons,List.length_cons,show n+(l.length+1)=n+1+l.length by omega]
  exact this
theorem jq5 (l:List UInt8) (h:l.length≤4):0≤zD l∧zD l<4294967296:=by
 have h1:=jwZ l 0 0 (by omega) (by decide)
 refine ⟨h1.1,Int.lt_of_lt_of_le h1.2 ?_⟩;rw [Nat.zero_add];have:l.length=0∨l.length=1∨l.length=2∨l.length=3∨l.length=4:=by omega
 rcases this with e|e|e|e|e<;>rw [e]<;>decide
theorem jwU (s:ByteArray) (k:Int) (w:World) (hs:s.size≤1000000000) (hk0:-1000000000≤k) (hk1:k≤1000000000):
 Calls Tryz.prog 92 #[.string s,.int .i64 k] w fun e w'=>e=.returned (.tuple #[.int .i64 (ki s k).1,.bool (ki s k).2])∧Below w.heap.size w w':=by
 have hS:=Lib.hid hs;have hw4:IntKind.i64.wrap ((s.size:Int)-4)=(s.size:Int)-4:=jj (by omega) (by omega)
 by_cases hin:0≤k∧k≤(s.size:Int)-4
 ·have hib:inb k 0 ((s.size:Int)-4)=true:=decide_eq_true hin
  obtain ⟨k,rfl⟩:=Int.eq_ofNat_of_zero_le hin.1;have hkz:k+4≤s.size:=by omega
  have hw5:IntKind.i64.wrap ((k:Int)+4)=((k+4:Nat):Int):=jj (by omega) (by omega)
  have hfa:ki s (k:Int)=(zD ((s.data.toList.drop k).take 4),true):=by rw [ki,if_pos hin,Int.toNat_natCast]
  rw [hfa];generalize hB:(s.data.toList.drop k).take 4=B at*
  go_enter Tryz.func92,Tryz.ntmps92
  go_wp2_with (go_at_call 78;refine (vm _ _ _ _).mono ?_;rintro e2 w2 ⟨rfl,hb2⟩)
  have hcv:=Lib.run_convert_string_bytes (P:=Tryz.prog) w2 9 99 5 (s.extract k (k+4)) (u:=.string) (by kernel_rfl) (by kernel_rfl) (by kernel_rfl)
  have hbw:=Lib.bytesWorld_below w2 5 (s.extract k (k+4));have hcl:=Lib.bytesWorld_cell w2 5 (s.extract k (k+4));generalize Lib.bytesWorld w2 5 (s.extract k (k+4))=W1 at hcv hbw hcl;have hez:(s.extract k (k+4)).size=4:=by rw [ByteArray.size_extract];omega
  have hed:(s.extract k (k+4)).data.toList=B:=by
   rw [←hB,ByteArray.data_extract,Array.toList_extract,List.extract_eq_take_drop]
   congr 1;omega
  rw [hez,hed] at hcl;rw [hez] at hcv
  have hBl:B.length=4:=by
   rw [←hB,List.length_take,List.length_drop,Array.length_toList];have:s.data.size=s.size:=rfl;omega
  rw [hcv];clear hcv hed hez hB
  go_wp2
  go_loopw [6,8,22] (fun n _ i wr=>∃j:Nat,j≤4∧i=.int .i64 j∧n=.int .i64 (zD (B.take j))∧wr=W1) (fun _ _ i _=>4-(intOf i).toNat)
  case atStart=>exact ⟨0,by omega,rfl,rfl,rfl⟩
  case round=>
   obtain ⟨j,hj,rfl,rfl,rfl⟩:=hrel;by_cases hlt:j<4
   ·obtain ⟨u,hu⟩:=je (show j<B.length by omega)
    have p0:=hcl j hlt;have hug:B.getD j 0=u:=by rw [List.getD,hu];rfl
    rw [hug] at p0;have hst:=jub hu;have hB4:(B.take j).length≤4:=by rw [List.length_take];omega
    have hb4:=jq5 (B.take j) hB4;have hul:=UInt8.toNat_lt u;have hw1:IntKind.i64.wrap (256*zD (B.take j))=256*zD (B.take j):=jj (by omega) (by omega)
    have hw3:IntKind.i64.wrap (u.toNat:Int)=(u.toNat:Int):=jj (by omega) (by omega)
    have hw2:IntKind.i64.wrap (256*zD (B.take j)+IntKind.i64.wrap (u.toNat:Int))=zD (B.take (j+1)):=by rw [hw3,hst];exact jj (by omega) (by omega)
    clear hcl
    go_wp2
    go_roundw
    case rel=>exact ⟨j+1,by omega,by go_num,congrArg (Value.int .i64) hst.symm,trivial⟩
    case measure=>simp [intOf];omega
   ·obtain rfl:j=4:=by omega
    clear hcl;have hB4:B.take 4=B:=List.take_of_length_le (by omega)
    rw [hB4]
    go_wp2
    go_ret2
    exact ⟨by simp,jD hb2 hbw⟩
 ·have hib:inb k 0 ((s.size:Int)-4)=false:=decide_eq_false hin
  have hfa:ki s k=(0,false):=by rw [ki,if_neg hin]
  rw [hfa]
  go_enter Tryz.func92,Tryz.ntmps92
  go_wp2_with (go_at_call 78;refine (vm _ _ _ _).mono ?_;rintro e2 w2 ⟨rfl,hb2⟩)
  go_ret2
  exact ⟨rfl,hb2⟩
theorem jnm (t:ByteArray) (k:Int) (hs:t.size≤1000000000) (hk0:-1000000000≤k) (hk1:k≤1000000000):jZ Tryz.prog 92 [.c (.val (.string t)),.c (.val (.int .i64 k))] (.tup [(false,[.val (.int .i64 (ki t k).1)]),(false,[.val (.bool (ki t k).2)])]):=by
 refine ⟨⟨_,Tryz.func92,by kernel_rfl,by kernel_rfl⟩,fun w xs hv=>?_⟩
 obtain ⟨a,xs,rfl,h1,hv⟩:=hv;obtain ⟨b,xs,rfl,h2,hv⟩:=hv;obtain rfl:xs=[]:=hv;rw [vv h1,vv h2];refine (jwU t k w hs hk0 hk1).mono ?_;rintro e w' ⟨rfl,hb⟩;refine ⟨_,[],rfl,?_,Fresh.nil _,hb⟩;refine ⟨[.int .i64 (ki t k).1,.bool (ki t k).2],rfl,?_⟩;refine ⟨_,_,[.int .i64 (ki t k).1],[],[],rfl,rfl,⟨_,_,[],[],rfl,rfl,⟨rfl,rfl⟩,rfl,rfl⟩,rfl,?_⟩;exact ⟨_,_,[.bool (ki t k).2],[],[],rfl,rfl,⟨_,_,[],[],rfl,rfl,⟨rfl,rfl⟩,rfl,rfl⟩,rfl,rfl,rfl⟩
end Go.Proofs.YtmnpailnelmpiaaGreat
