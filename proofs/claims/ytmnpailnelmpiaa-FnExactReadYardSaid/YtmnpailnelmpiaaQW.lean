/- Parts. -/
import Derived.Test.YtmnpailnelmpiaaQNoteB
import Derived.Laws.Strings
set_option linter.unusedSimpArgs false
set_option linter.unusedVariables false
set_option maxRecDepth 100000
namespace Go.Proofs.Ytmnpailnelmpiaa
open Go.RowKit Go.Sort
theorem jll {α:Type} {enc:α→List D} {size:Nat} (hs:∀x,(enc x).length=size) (l:List α) (k:Nat) (v:α):k<l.length→kD (l.flatMap enc) (k*size) (enc v)=(l.set k v).flatMap enc:=by
 intro hk;have h1:(l.flatMap enc).length=l.length*size:=jU hs l;have h2:(k+1)*size≤l.length*size:=Nat.mul_le_mul_right _ hk;rw [jgI _ _ _ (by rw [hs,h1,←Nat.succ_mul];exact h2),hs]
 have e:l=l.take k++l[k]::l.drop (k+1):=by rw [←List.drop_eq_getElem_cons hk,List.take_append_drop]
 have e2:l.set k v=l.take k++v::l.drop (k+1):=by rw [List.set_eq_take_append_cons_drop,if_pos hk]
 have h3:((l.take k).flatMap enc).length=k*size:=by rw [jU hs,List.length_take,Nat.min_eq_left (by omega)]
 have h4:l.flatMap enc=(l.take k++l[k]::l.drop (k+1)).flatMap enc:=congrArg (List.flatMap enc) e;rw [List.flatMap_append,List.flatMap_cons] at h4;rw [e2,h4,List.take_left' h3];simp only [List.flatMap_append,List.flatMap_cons,List.append_assoc]
 congr 2
 rw [←List.append_assoc,List.drop_left' (by rw [List.length_append,h3,hs])]
theorem jkt {α:Type} {enc:α→List D} {size ty:Nat} (hs:∀x,(enc x).length=size) {l:List α} {k:Nat} (v:α) (hk:k<l.length):D.put [] (k*size) (enc v) (.sl size ty (l.flatMap enc))=.sl size ty ((l.set k v).flatMap enc):=by
 simp only [D.put,jll hs l k v hk]
theorem zD {l:List Int} {k:Nat} (v:Int) (hk:k<l.length):D.put [] (k*1) [.val (.int .i64 v)] (jj l)=jj (l.set k v):=jkt (enc:=fun n=>[iv n]) (fun _=>rfl) v hk
abbrev jrn:TypeId:=4
def kC (l:List Bool):D:=.sl 1 jrn (l.flatMap (fun b=>[D.val (.bool b)]))
section
variable {P:Program} {β:Nat} {s:St}
theorem jig (l:List Bool):(kC l).len=l.length:=vm (enc:=fun b=>[D.val (.bool b)]) (fun _=>rfl) (by decide) _ _
theorem jcl {l:List Bool} {k:Nat} {x:Bool} (h:l[k]?=some x):(kC l).elem k=[D.val (.bool x)]:=vC (enc:=fun b=>[D.val (.bool b)]) (fun _=>rfl) h
theorem ji1 (l:List Bool):(kC l).isSl=true:=(rfl)
theorem jiZ (l:List Bool):(kC l).size=1:=(rfl)
theorem jia (l:List Bool) (g:Nat) (η:jm):(kC l).obj g η=[(g,.loose (kC l) η)]:=(rfl)
theorem jh7 (l:List Bool) (g c:Nat) (p:List Nat) (η:jm):(kC l).toOwn g c p η=.h g c p (η p):=(rfl)
theorem jf0 (l:List Bool):(kC l).cells=l.flatMap (fun b=>[D.val (.bool b)]):=(rfl)
theorem jbW {l:List Bool} {k:Nat} {x:Bool} (h:l[k]?=some x):((l.flatMap (fun b=>[D.val (.bool b)])).drop (k*1)).take 1=[D.val (.bool x)]:=jcl h
theorem zF {l:List Bool} {k:Nat} (h:k<l.length):k*1+1≤(l.flatMap (fun b=>[D.val (.bool b)])).length:=by rw [jU (enc:=fun b=>[D.val (.bool b)]) (size:=1) (fun _=>rfl)];omega
theorem jhU {l:List Bool} {k:Nat} (v:Bool) (hk:k<l.length):D.put [] (k*1) [D.val (.bool v)] (kC l)=kC (l.set k v):=jkt (enc:=fun b=>[D.val (.bool b)]) (fun _=>rfl) v hk
attribute [go_sem] jig ji1 jiZ jia jh7 jf0
theorem jbi (l:List Bool):kq (l.flatMap (fun b=>[D.val (.bool b)]))=true:=by
 induction l with
 |nil=>rfl
 |cons x l ih=>rw [List.flatMap_cons,jay,ih];rfl
attribute [go_sem] jbi
end
abbrev jtp:TypeId:=9
def kx (l:List ByteArray):D:=.sl 1 jtp (l.flatMap (fun b=>[D.val (.string b)]))
section
variable {P:Program} {β:Nat} {s:St}
theorem jjz (l:List ByteArray):(kx l).len=l.length:=vm (enc:=fun b=>[D.val (.string b)]) (fun _=>rfl) (by decide) _ _
theorem jle (l:List ByteArray):(kx l).isSl=true:=(rfl)
theorem jk7 (l:List ByteArray):(kx l).size=1:=(rfl)
theorem jjn (l:List ByteArray) (g:Nat) (η:jm):(kx l).obj g η=[(g,.loose (kx l) η)]:=(rfl)
theorem jjg (l:List ByteArray) (g c:Nat) (p:List Nat) (η:jm):(kx l).toOwn g c p η=.h g c p (η p):=(rfl)
theorem jhn (l:List ByteArray):(kx l).cells=l.flatMap (fun b=>[D.val (.string b)]):=(rfl)
theorem ji2 (l:List ByteArray) (e:Nat) (k:List D→Prop):slK (kx l) e 1 k=(jtp=e∧k (l.flatMap (fun b=>[D.val (.string b)]))):=by rw [show kx l=.sl 1 jtp (l.flatMap (fun b=>[D.val (.string b)])) from rfl,joS];simp
theorem jjW (l:List ByteArray):(l.flatMap (fun b=>[D.val (.string b)])).length/1=l.length:=by rw [jU (enc:=fun b=>[D.val (.string b)]) (size:=1) (fun _=>rfl)];exact Nat.mul_div_cancel _ (by decide)
theorem zP (l:List ByteArray) (x:ByteArray):D.sl 1 jtp (l.flatMap (fun b=>[D.val (.string b)])++[D.val (.string x)])=kx (l++[x]):=by simp [kx]
attribute [go_sem] jjz jle jk7 jjn jjg jhn ji2 jjW
end
theorem jex:∀{l:List D} (a b:Nat),kq l=true→kq ((l.drop a).take b)=true
 |[],a,b,_=>by simp [kq]
 |.sl _ _ _::l,a,b,h=>by simp [kq] at h
 |.val u::l,0,0,_=>rfl
 |.val u::l,0,b+1,h=>by
  simp only [kq,Bool.and_eq_true] at h;simp only [List.drop_zero,List.take_succ_cons,kq,h.1,Bool.true_and];exact jex (l:=l) 0 b h.2
 |.val u::l,a+1,b,h=>by
  simp only [kq,Bool.and_eq_true] at h;exact jex (l:=l) a b h.2
theorem jjS (l:List Int) (a b:Nat):kq (((l.flatMap (fun n=>[iv n])).drop a).take b)=true:=jex a b (jcj l)
attribute [go_sem] jjS
theorem jiw (l:List Bool) (a b:Nat):kq (((l.flatMap (fun b=>[D.val (.bool b)])).drop a).take b)=true:=jex a b (jbi l)
attribute [go_sem] jiw
theorem jr9 (n:Nat):D.sl 1 jiY (List.replicate n [D.val (.int .i64 0)]).flatten=jj (List.replicate n 0):=by simp [jj,List.flatMap,iv]
theorem jpV (n:Nat):D.sl 1 jrn (List.replicate n [D.val (.bool false)]).flatten=kC (List.replicate n false):=by simp [kC,List.flatMap]
theorem jix {α:Type} {enc:α→List D} {size:Nat} (hs:∀x,(enc x).length=size):∀(l:List α) (k:Nat),(l.flatMap enc).drop (k*size)=(l.drop k).flatMap enc
 |[],k=>by simp
 |x::l,0=>by simp
 |x::l,k+1=>by
  rw [List.flatMap_cons,List.drop_succ_cons,←jix hs l k,Nat.succ_mul,Nat.add_comm,←List.drop_drop,List.drop_left' (hs x)]
theorem jhG {α:Type} {enc:α→List D} {size:Nat} (hs:∀x,(enc x).length=size):∀(l:List α) (k:Nat),(l.flatMap enc).take (k*size)=(l.take k).flatMap enc
 |[],k=>by simp
 |x::l,0=>by simp
 |x::l,k+1=>by
  rw [List.flatMap_cons,List.take_succ_cons,List.flatMap_cons,←jhG hs l k,Nat.succ_mul,Nat.add_comm,List.take_append,hs,Nat.add_sub_cancel_left,List.take_of_length_le (by rw [hs];omega)]
theorem jpf {α:Type} {enc:α→List D} {size ty:Nat} (hs:∀x,(enc x).length=size) (l:List α) (a b:Nat):(D.sl size ty (l.flatMap enc)).sub a b=.sl size ty (((l.drop a).take (b-a)).flatMap enc):=by
 simp only [D.sub,jix hs,jhG hs]
theorem jk9 (l:List Ed) (a b:Nat):(jv l).sub a b=jv ((l.drop a).take (b-a)):=jpf (enc:=jF) (fun _=>rfl) l a b
attribute [go_sem] Nat.zero_le jk9 Nat.sub_zero List.drop_zero
def jfj {α:Type} (f:α→Bool):List α→Int
 |[]=>-1
 |x::l=>if f x then 0 else match jfj f l with
  |.ofNat k=>.ofNat (k+1)
  |.negSucc k=>.negSucc k
theorem ja4 {α:Type} {f:α→Bool}:∀{l:List α},(∀y∈l,f y=false)→jfj f l=-1
 |[],_=>rfl
 |x::l,h=>by rw [jfj,h x (by simp),ja4 fun y hy=>h y (by simp [hy])];rfl
theorem jck {α:Type} {f:α→Bool}:∀{l:List α} {k:Nat} {x:α},l[k]?=some x→f x=true→(∀y∈l.take k,f y=false)→jfj f l=k
 |[],_,_,h,_,_=>by simp at h
 |a::l,0,x,h,hx,_=>by simp at h;subst h;rw [jfj,hx];rfl
 |a::l,k+1,x,h,hx,hn=>by
  rw [jfj,hn a (by simp),jck (k:=k) (by simpa using h) hx fun y hy=>hn y (by simp [hy])];rfl
theorem jfi {α:Type} (f:α→Bool) (l:List α):(jfj f l=-1∧∀y∈l,f y=false)∨∃k x,jfj f l=((k:Nat):Int)∧l[k]?=some x∧f x=true∧∀y∈l.take k,f y=false:=by
 induction l with
 |nil=>exact .inl ⟨rfl,by simp⟩
 |cons a l ih=>
  cases ha:f a with
  |true=>exact .inr ⟨0,a,by rw [jfj,ha];rfl,rfl,ha,by simp⟩
  |false=>
   rcases ih with ⟨h1,h2⟩|⟨k,x,h1,h2,h3,h4⟩
   ·exact .inl ⟨ja4 (fun y hy=>by rcases List.mem_cons.1 hy with rfl|hy<;>simp_all),fun y hy=>by rcases List.mem_cons.1 hy with rfl|hy<;>simp_all⟩
   ·have h5:(a::l)[k+1]?=some x:=by simpa using h2
    have h6:∀y∈(a::l).take (k+1),f y=false:=fun y hy=>by
     rw [List.take_succ_cons] at hy;rcases List.mem_cons.1 hy with rfl|hy
     ·exact ha
     ·exact h4 y hy
    exact .inr ⟨k+1,x,jck h5 h3 h6,h5,h3,h6⟩
theorem jmE {α:Type} {f:α→Bool} {l:List α} {k:Nat} {x:α} (h:l[k]?=some x) (hx:f x=false) (hn:∀y∈l.take k,f y=false):∀y∈l.take (k+1),f y=false:=by
 intro y hy;rw [List.take_add_one,h] at hy;rcases List.mem_append.1 hy with hy|hy
 ·exact hn y hy
 ·simp at hy;subst hy;exact hx
theorem kP (l:List Int) (a:Int):D.sl 1 jiY (l.flatMap (fun n=>[iv n])++[.val (.int .i64 a)])=jj (l++[a]):=by simp [jj]
theorem jp7 (a:Int):D.sl 1 jiY [.val (.int .i64 a)]=jj [a]:=by simp [jj]
theorem stH_t (p:List Nat) (k n:Nat) (η:jm) (K:jm→Prop):stH true p k n η K=K η:=(rfl)
attribute [go_sem] stH_t jtq
def jcK:C:=iS [iA 2 (.mov (.c (.string ⟨⟨[]⟩⟩)))] (.seq (iS [iA 3 (iM 0),iA 4 (.call 66 [.t 3,.c (.int .i64 0),.c (.int .i64 4294967295)]),iA 5 (iU 4)] (iD 5 (iS [iA 2 (.mov (.c (.string ⟨⟨[]⟩⟩)))] .ret) .skip)) (iS [iA 6 (iM 0),iA 7 (iQ .quo 3 6 16777216),iA 8 (.cv (.num .u8) 0 (.t 7)),iA 9 (iM 0),iA 10 (iQ .quo 3 9 65536),iA 11 (iQ .rem 3 10 256),iA 12 (.cv (.num .u8) 0 (.t 11)),iA 13 (iM 0),iA 14 (iQ .quo 3 13 256),iA 15 (iQ .rem 3 14 256),iA 16 (.cv (.num .u8) 0 (.t 15)),iA 17 (iM 0),iA 18 (iQ .rem 3 17 256),iA 19 (.cv (.num .u8) 0 (.t 18)),iA 20 (.bsl 5 1 4 [none,none,none,none] [(0,1,.t 8),(1,1,.t 12),(2,1,.t 16),(3,1,.t 19)]),iA 21 (.cv .text 5 (.t 20)),iA 2 (iM 21)] .ret))
theorem jed:fnC Try.prog Try.f74=some (jcK,[.t 2],22):=by kernel_rfl
def jcT:C:=iS [iA 2 (.mov (.c (.string ⟨⟨[]⟩⟩)))] (.seq (iS [iA 3 (iM 0),iA 4 (.call 61 [.t 3,.c (.int .i64 0),.c (.int .i64 4294967295)]),iA 5 (iU 4)] (iD 5 (iS [iA 2 (.mov (.c (.string ⟨⟨[]⟩⟩)))] .ret) .skip)) (iS [iA 6 (iM 0),iA 7 (.bin .shr 3 (.t 6) (.c (.int .u64 24))),iA 8 (.cv (.num .u8) 0 (.t 7)),iA 9 (iM 0),iA 10 (.bin .shr 3 (.t 9) (.c (.int .u64 16))),iA 11 (.cv (.num .u8) 0 (.t 10)),iA 12 (iM 0),iA 13 (.bin .shr 3 (.t 12) (.c (.int .u64 8))),iA 14 (.cv (.num .u8) 0 (.t 13)),iA 15 (iM 0),iA 16 (.cv (.num .u8) 0 (.t 15)),iA 17 (.bsl 5 1 4 [none,none,none,none] [(0,1,.t 8),(1,1,.t 11),(2,1,.t 14),(3,1,.t 16)]),iA 18 (.cv .text 5 (.t 17)),iA 2 (iM 18)] .ret))
theorem jem:fnC Try.prog Try.f78=some (jcT,[.t 2],19):=by kernel_rfl
def jbt:C:=iS [iA 2 (.mov (.c (.string ⟨⟨[]⟩⟩)))] (.seq (iS [iA 3 (iM 0),iA 4 (.bin .eql 9 (.t 3) (.c (.string ⟨⟨[]⟩⟩))),iA 5 (iM 4),iB 6 5 false (iM 0),iB 7 5 false (.len true (.t 6)),iB 8 5 false (iQ .gtr 3 7 400),iA 9 (.pick (.t 5) (.c (.bool true)) (.t 8))] (iD 9 (iS [iA 2 (.mov (.c (.string ⟨⟨[]⟩⟩)))] .ret) .skip)) (iS [iA 10 (iM 0),iA 11 (.len true (.t 10)),iA 12 (.call 73 [.t 11]),iA 13 (iM 0),iA 14 (.call 75 [.t 13]),iA 15 (.call 74 [.t 14]),iA 16 (iP .add 9 12 15),iA 17 (iM 0),iA 18 (iP .add 9 16 17),iA 2 (iM 18)] .ret))
theorem jdt:fnC Try.prog Try.f38=some (jbt,[.t 2],19):=by kernel_rfl
def jbz:C:=iS [iA 2 (.mov (.c (.string ⟨⟨[]⟩⟩)))] (.seq (iS [iA 3 (iM 0),iA 4 (.len true (.t 3)),iA 5 (.call 61 [.t 4,.c (.int .i64 1),.c (.int .i64 400)]),iA 6 (iU 5)] (iD 6 (iS [iA 2 (.mov (.c (.string ⟨⟨[]⟩⟩)))] .ret) .skip)) (iS [iA 7 (iM 0),iA 8 (.len true (.t 7)),iA 9 (.call 77 [.t 8]),iA 10 (iM 0),iA 11 (.call 79 [.t 10]),iA 12 (.call 78 [.t 11]),iA 13 (iP .add 9 9 12),iA 14 (iM 0),iA 15 (iP .add 9 13 14),iA 2 (iM 15)] .ret))
theorem jdz:fnC Try.prog Try.f40=some (jbz,[.t 2],16):=by kernel_rfl
theorem jvn (b:ByteArray):(b.toList==ByteArray.toList ⟨⟨[]⟩⟩)=decide (b.size=0):=by
 rw [ByteArray.toList_eq,show ByteArray.toList ⟨⟨[]⟩⟩=[] from ByteArray.toList_eq _]
 rw [show b.size=b.data.toList.length from by cases b;rfl]
 cases b.data.toList<;>simp
def jhr (v:Int):UInt8:=UInt8.ofNat (v%256).toNat
theorem jq6 (v:Int):D.val (.int .u8 (IntKind.u8.wrap v))=kR (jhr v):=by
 have h1:0≤v%256:=Int.emod_nonneg _ (by decide)
 have h2:v%256<256:=Int.emod_lt_of_pos _ (by decide)
 obtain ⟨n,hn⟩:=Int.eq_ofNat_of_zero_le h1
 have hw:IntKind.u8.wrap v=v%256:=by
  rw [show IntKind.u8.wrap v=v%2^8 from by rw [IntKind.wrap_u8];rfl];rfl
 rw [hw,jhr,hn,Int.toNat_natCast,kR];have h3:n<256:=by omega
 simp [Nat.mod_eq_of_lt h3]
def jn2 (v:Int):List UInt8:=[jhr (v/16777216),jhr (v/65536),jhr (v/256),jhr v]
def jbN (v:Int):ByteArray:=if 0≤v∧v≤4294967295 then ⟨(jn2 v).toArray⟩ else ⟨⟨[]⟩⟩
theorem jhg (v:Int):(jbN v).size≤4:=by
 unfold jbN;split
 ·exact Nat.le_refl 4
 ·exact Nat.zero_le 4
theorem jiH (v:Int):jhr (v%256)=jhr v:=by
 unfold jhr;rw [Int.emod_emod_of_dvd _ (Int.dvd_refl 256)]
theorem jgS (v:Int):kg Try.prog 74 [.c (.val (.int .i64 v))] (.c (.val (.string (jbN v)))):=by
 refine jr Try.func74 jed (by simp) ?_
 unfold jcK;simp only [go_sem];refine jb (jy v 0 4294967295) (by simp only [go_sem]) fun η=>?_
 simp only [go_sem];cases h:decide (0≤v∧v≤4294967295)
 ·have h':=of_decide_eq_false h
  simp only [go_sem,h];simp [jbN,h']
 have h':=of_decide_eq_true h;have q1:IntKind.i64.wrap (v.tdiv 16777216)=v/16777216:=by rw [Int.tdiv_eq_ediv_of_nonneg h'.1];exact ji (by omega) (by omega)
 have q2:IntKind.i64.wrap (v.tdiv 65536)=v/65536:=by rw [Int.tdiv_eq_ediv_of_nonneg h'.1];exact ji (by omega) (by omega)
 have q3:IntKind.i64.wrap (v.tdiv 256)=v/256:=by rw [Int.tdiv_eq_ediv_of_nonneg h'.1];exact ji (by omega) (by omega)
 have r2:(v/65536).tmod 256=v/65536%256:=Int.tmod_eq_emod_of_nonneg (by omega)
 have r3:(v/256).tmod 256=v/256%256:=Int.tmod_eq_emod_of_nonneg (by omega)
 have r4:v.tmod 256=v%256:=Int.tmod_eq_emod_of_nonneg h'.1;simp only [go_sem,h,q1,q2,q3,r2,r3,r4];intro η;refine zK (bs:=jn2 v) rfl rfl ?_ ?_
 ·simp only [jn2,List.map_cons,List.map_nil,jq6,jiH]
 ·simp only [go_sem]
  simp [jbN,h']
theorem jgY (v:Int):kg Try.prog 78 [.c (.val (.int .i64 v))] (.c (.val (.string (jbN v)))):=by
 refine jr Try.func78 jem (by simp) ?_
 unfold jcT;simp only [go_sem];refine jb (ju v 0 4294967295) (by simp only [go_sem]) fun η=>?_
 simp only [go_sem];cases h:decide (0≤v∧v≤4294967295)
 ·have h':=of_decide_eq_false h
  simp only [go_sem,h];simp [jbN,h']
 have h':=of_decide_eq_true h;have s1:v.fdiv (2^min 24 64)=v/16777216:=by rw [show (2:Int)^(min 24 64)=16777216 from rfl,Int.fdiv_eq_ediv_of_nonneg _ (by decide)]
 have s2:v.fdiv (2^min 16 64)=v/65536:=by rw [show (2:Int)^(min 16 64)=65536 from rfl,Int.fdiv_eq_ediv_of_nonneg _ (by decide)]
 have s3:v.fdiv (2^min 8 64)=v/256:=by rw [show (2:Int)^(min 8 64)=256 from rfl,Int.fdiv_eq_ediv_of_nonneg _ (by decide)]
 simp only [go_sem,h,s1,s2,s3];intro η;refine zK (bs:=jn2 v) rfl rfl ?_ ?_
 ·simp only [jn2,List.map_cons,List.map_nil,jq6,jiH]
 ·simp only [go_sem]
  simp [jbN,h']
def kU (b:ByteArray):ByteArray:=if 1≤b.size∧b.size≤400 then zy b.size++jbN (jgF b)++b else ⟨⟨[]⟩⟩
theorem jff (b:ByteArray):(kU b).size≤409:=by
 unfold kU;split
 ·have h1:=jhg (jgF b)
  have h2:(zy b.size).size≤5:=jbD _;rw [ByteArray.size_append,ByteArray.size_append];omega
 ·exact Nat.zero_le _
theorem jbe (b:ByteArray):kg Try.prog 38 [.c (.val (.string b))] (.c (.val (.string (kU b)))):=by
 refine jr Try.func38 jdt (by simp) ?_
 unfold jbt;simp only [go_sem,jvn];by_cases h0:b.size=0
 ·have hf:kU b=⟨⟨[]⟩⟩:=by unfold kU;rw [if_neg (by omega)]
  simp only [go_sem,jvn,h0,hf]
 by_cases h4:b.size≤400;rotate_left
 ·have h4':(400:Int)<b.size:=by omega
  have hf:kU b=⟨⟨[]⟩⟩:=by unfold kU;rw [if_neg (by omega)]
  simp only [go_sem,jvn,h0,h4',hf]
 have h4':¬(400:Int)<b.size:=by omega
 have hf:kU b=zy b.size++jbN (jgF b)++b:=by unfold kU;rw [if_pos (by omega)]
 have h5:(zy b.size).size≤5:=jbD _;have h6:=jhg (jgF b);have h7:(zy b.size).size+(jbN (jgF b)).size≤maxLen:=by unfold maxLen;omega
 have h8:(zy b.size).size+(jbN (jgF b)).size+b.size≤maxLen:=by unfold maxLen;omega
 simp only [go_sem,jvn,h0,h4'];refine jb (vV b.size) (by simp only [go_sem]) fun η=>?_
 simp only [go_sem];refine jb (jdK b (by omega)) (by simp only [go_sem]) fun η=>?_
 simp only [go_sem];refine jb (jgS (jgF b)) (by simp only [go_sem]) fun η=>?_
 simp only [go_sem];simp only [go_sem,h7,h8,hf]
theorem jbf (b:ByteArray) (hb:b.size<9223372036854775807):kg Try.prog 40 [.c (.val (.string b))] (.c (.val (.string (kU b)))):=by
 refine jr Try.func40 jdz (by simp) ?_
 unfold jbz;simp only [go_sem];refine jb (ju b.size 1 400) (by simp only [go_sem]) fun η=>?_
 simp only [go_sem];cases h0:decide ((1:Int)≤b.size∧(b.size:Int)≤400)
 ·have h0':=of_decide_eq_false h0
  have hf:kU b=⟨⟨[]⟩⟩:=by unfold kU;rw [if_neg (by omega)]
  simp only [go_sem,h0,hf]
 have h0':=of_decide_eq_true h0;have hf:kU b=zy b.size++jbN (jgF b)++b:=by unfold kU;rw [if_pos (by omega)]
 have h5:(zy b.size).size≤5:=jbD _;have h6:=jhg (jgF b);have h7:(zy b.size).size+(jbN (jgF b)).size≤maxLen:=by unfold maxLen;omega
 have h8:(zy b.size).size+(jbN (jgF b)).size+b.size≤maxLen:=by unfold maxLen;omega
 simp only [go_sem,h0];refine jb (qT b.size) (by simp only [go_sem]) fun η=>?_
 simp only [go_sem];refine jb (jdM b (by omega)) (by simp only [go_sem]) fun η=>?_
 simp only [go_sem];refine jb (jgY (jgF b)) (by simp only [go_sem]) fun η=>?_
 simp only [go_sem];simp only [go_sem,h7,h8,hf]
end Go.Proofs.Ytmnpailnelmpiaa
