/- Parts. -/
import Derived.Test.YtmnpailnelmpiaaQE7
set_option linter.unusedSimpArgs false
set_option linter.unusedVariables false
set_option maxHeartbeats 4000000
set_option maxRecDepth 100000
namespace Go.Proofs.Ytmnpailnelmpiaa
open Go.RowKit Go.Sort
theorem jpe {α:Type} {enc:α→List D} {size:Nat} (hs:∀x,(enc x).length=size) (l:List α) (k:Nat) (v:α):k<l.length→kC (l.flatMap enc) (k*size) (enc v)=(l.set k v).flatMap enc:=by
 intro hk;have h1:(l.flatMap enc).length=l.length*size:=jG hs l;have h2:(k+1)*size≤l.length*size:=Nat.mul_le_mul_right _ hk;rw [jbZ _ _ _ (by rw [hs,h1,←Nat.succ_mul];exact h2),hs]
 have e:l=l.take k++l[k]::l.drop (k+1):=by rw [←List.drop_eq_getElem_cons hk,List.take_append_drop]
 have e2:l.set k v=l.take k++v::l.drop (k+1):=by rw [List.set_eq_take_append_cons_drop,if_pos hk]
 have h3:((l.take k).flatMap enc).length=k*size:=by rw [jG hs,List.length_take,Nat.min_eq_left (by omega)]
 have h4:l.flatMap enc=(l.take k++l[k]::l.drop (k+1)).flatMap enc:=congrArg (List.flatMap enc) e;rw [List.flatMap_append,List.flatMap_cons] at h4;rw [e2,h4,List.take_left' h3];simp only [List.flatMap_append,List.flatMap_cons,List.append_assoc]
 congr 2
 rw [←List.append_assoc,List.drop_left' (by rw [List.length_append,h3,hs])]
theorem jdG {α:Type} {enc:α→List D} {size ty:Nat} (hs:∀x,(enc x).length=size) {l:List α} {k:Nat} (v:α) (hk:k<l.length):D.put [] (k*size) (enc v) (.sl size ty (l.flatMap enc))=.sl size ty ((l.set k v).flatMap enc):=by
 simp only [D.put,jpe hs l k v hk]
theorem jmK {l:List Int} {k:Nat} (v:Int) (hk:k<l.length):D.put [] (k*1) [.val (.int .i64 v)] (jo l)=jo (l.set k v):=jdG (enc:=fun n=>[iv n]) (fun _=>rfl) v hk
abbrev jwo:TypeId:=4
def kN (l:List Bool):D:=.sl 1 jwo (l.flatMap (fun b=>[D.val (.bool b)]))
section
variable {P:Program} {β:Nat} {s:St}
theorem jlu (l:List Bool):(kN l).len=l.length:=vx (enc:=fun b=>[D.val (.bool b)]) (fun _=>rfl) (by decide) _ _
theorem jd0 {l:List Bool} {k:Nat} {x:Bool} (h:l[k]?=some x):(kN l).elem k=[D.val (.bool x)]:=qz (enc:=fun b=>[D.val (.bool b)]) (fun _=>rfl) h
theorem jmA (l:List Bool):(kN l).isSl=true:=(rfl)
theorem jmw (l:List Bool):(kN l).size=1:=(rfl)
theorem jln (l:List Bool) (g:Nat) (η:jm):(kN l).obj g η=[(g,.loose (kN l) η)]:=(rfl)
theorem jlm (l:List Bool) (g c:Nat) (p:List Nat) (η:jm):(kN l).toOwn g c p η=.h g c p (η p):=(rfl)
theorem jiH (l:List Bool):(kN l).cells=l.flatMap (fun b=>[D.val (.bool b)]):=(rfl)
theorem jdt {l:List Bool} {k:Nat} {x:Bool} (h:l[k]?=some x):((l.flatMap (fun b=>[D.val (.bool b)])).drop (k*1)).take 1=[D.val (.bool x)]:=jd0 h
theorem jax {l:List Bool} {k:Nat} (h:k<l.length):k*1+1≤(l.flatMap (fun b=>[D.val (.bool b)])).length:=by rw [jG (enc:=fun b=>[D.val (.bool b)]) (size:=1) (fun _=>rfl)];omega
theorem jlg {l:List Bool} {k:Nat} (v:Bool) (hk:k<l.length):D.put [] (k*1) [D.val (.bool v)] (kN l)=kN (l.set k v):=jdG (enc:=fun b=>[D.val (.bool b)]) (fun _=>rfl) v hk
attribute [go_sem] jlu jmA jmw jln jlm jiH
theorem jcv (l:List Bool):kf (l.flatMap (fun b=>[D.val (.bool b)]))=true:=by
 induction l with
 |nil=>rfl
 |cons x l ih=>rw [List.flatMap_cons,va,ih];rfl
attribute [go_sem] jcv
end
abbrev jyn:TypeId:=9
def kh (l:List ByteArray):D:=.sl 1 jyn (l.flatMap (fun b=>[D.val (.string b)]))
section
variable {P:Program} {β:Nat} {s:St}
theorem jm4 (l:List ByteArray):(kh l).len=l.length:=vx (enc:=fun b=>[D.val (.string b)]) (fun _=>rfl) (by decide) _ _
theorem jlZ {l:List ByteArray} {k:Nat} {x:ByteArray} (h:l[k]?=some x):(kh l).elem k=[D.val (.string x)]:=qz (enc:=fun b=>[D.val (.string b)]) (fun _=>rfl) h
theorem jo4 (l:List ByteArray):(kh l).isSl=true:=(rfl)
theorem joV (l:List ByteArray):(kh l).size=1:=(rfl)
theorem jpj (l:List ByteArray):(kh l).toRo=.ro (kh l):=(rfl)
theorem jmW (l:List ByteArray) (g:Nat) (η:jm):(kh l).obj g η=[(g,.loose (kh l) η)]:=(rfl)
theorem jmS (l:List ByteArray) (g c:Nat) (p:List Nat) (η:jm):(kh l).toOwn g c p η=.h g c p (η p):=(rfl)
theorem jkB (l:List ByteArray):(kh l).cells=l.flatMap (fun b=>[D.val (.string b)]):=(rfl)
theorem jmB (l:List ByteArray) (e:Nat) (k:List D→Prop):slK (kh l) e 1 k=(jyn=e∧k (l.flatMap (fun b=>[D.val (.string b)]))):=by rw [show kh l=.sl 1 jyn (l.flatMap (fun b=>[D.val (.string b)])) from rfl,jq3];simp
theorem jnl (l:List ByteArray):(l.flatMap (fun b=>[D.val (.string b)])).length/1=l.length:=by rw [jG (enc:=fun b=>[D.val (.string b)]) (size:=1) (fun _=>rfl)];exact Nat.mul_div_cancel _ (by decide)
theorem zm (l:List ByteArray) (x:ByteArray):D.sl 1 jyn (l.flatMap (fun b=>[D.val (.string b)])++[D.val (.string x)])=kh (l++[x]):=by simp [kh]
attribute [go_sem] jm4 jo4 joV jpj jmW jmS jkB jmB jnl
end
theorem jpn {l:List (Tk)} {k:Nat} (v:Tk) (hk:k<l.length):D.put [] (k*4) (ju v) (jI l)=jI (l.set k v):=jdG (enc:=ju) (fun _=>rfl) v hk
theorem jpp {l:List (Rn)} {k:Nat} (v:Rn) (hk:k<l.length):D.put [] (k*8) (jd v) (jN l)=jN (l.set k v):=jdG (enc:=jd) (fun _=>rfl) v hk
theorem jlf {l:List (List En)} {k:Nat} (v:List En) (hk:k<l.length):D.put [] (k*1) ([jv v]) (kL l)=kL (l.set k v):=jdG (enc:=fun es=>[jv es]) (fun _=>rfl) v hk
theorem jap {l:List Tk} {k:Nat} (a b c d:Int) (hk:k<l.length):D.put [] (k*4) [.val (.int .i64 a),.val (.int .i64 b),.val (.int .i64 c),.val (.int .i64 d)] (jI l)=jI (l.set k ⟨a,b,c,d⟩):=jpn ⟨a,b,c,d⟩ hk
theorem jgQ:∀{l:List D} (a b:Nat),kf l=true→kf ((l.drop a).take b)=true
 |[],a,b,_=>by simp [kf]
 |.sl _ _ _::l,a,b,h=>by simp [kf] at h
 |.val u::l,0,0,_=>rfl
 |.val u::l,0,b+1,h=>by
  simp only [kf,Bool.and_eq_true] at h;simp only [List.drop_zero,List.take_succ_cons,kf,h.1,Bool.true_and];exact jgQ (l:=l) 0 b h.2
 |.val u::l,a+1,b,h=>by
  simp only [kf,Bool.and_eq_true] at h;exact jgQ (l:=l) a b h.2
theorem jp3 (l:List Tk) (a b:Nat):kf (((l.flatMap (ju)).drop a).take b)=true:=jgQ a b (jfY l)
attribute [go_sem] jp3
theorem jlW (l:List Bool) (a b:Nat):kf (((l.flatMap (fun b=>[D.val (.bool b)])).drop a).take b)=true:=jgQ a b (jcv l)
attribute [go_sem] jlW
theorem jux (n:Nat):D.sl 1 jwo (List.replicate n [D.val (.bool false)]).flatten=kN (List.replicate n false):=by simp [kN,List.flatMap]
theorem jl0 {α:Type} {enc:α→List D} {size:Nat} (hs:∀x,(enc x).length=size):∀(l:List α) (k:Nat),(l.flatMap enc).drop (k*size)=(l.drop k).flatMap enc
 |[],k=>by simp
 |x::l,0=>by simp
 |x::l,k+1=>by
  rw [List.flatMap_cons,List.drop_succ_cons,←jl0 hs l k,Nat.succ_mul,Nat.add_comm,←List.drop_drop,List.drop_left' (hs x)]
theorem jkT {α:Type} {enc:α→List D} {size:Nat} (hs:∀x,(enc x).length=size):∀(l:List α) (k:Nat),(l.flatMap enc).take (k*size)=(l.take k).flatMap enc
 |[],k=>by simp
 |x::l,0=>by simp
 |x::l,k+1=>by
  rw [List.flatMap_cons,List.take_succ_cons,List.flatMap_cons,←jkT hs l k,Nat.succ_mul,Nat.add_comm,List.take_append,hs,Nat.add_sub_cancel_left,List.take_of_length_le (by rw [hs];omega)]
theorem jnB {α:Type} {enc:α→List D} {size ty:Nat} (hs:∀x,(enc x).length=size) (l:List α) (a b:Nat):(D.sl size ty (l.flatMap enc)).sub a b=.sl size ty (((l.drop a).take (b-a)).flatMap enc):=by
 simp only [D.sub,jl0 hs,jkT hs]
theorem joX (l:List En) (a b:Nat):(jv l).sub a b=jv ((l.drop a).take (b-a)):=jnB (enc:=jy) (fun _=>rfl) l a b
attribute [go_sem] Nat.zero_le joX Nat.sub_zero List.drop_zero
def jhJ {α:Type} (f:α→Bool):List α→Int
 |[]=>-1
 |x::l=>if f x then 0 else match jhJ f l with
  |.ofNat k=>.ofNat (k+1)
  |.negSucc k=>.negSucc k
theorem je5 {α:Type} {f:α→Bool}:∀{l:List α},(∀y∈l,f y=false)→jhJ f l=-1
 |[],_=>rfl
 |x::l,h=>by rw [jhJ,h x (by simp),je5 fun y hy=>h y (by simp [hy])];rfl
theorem jhH {α:Type} {f:α→Bool}:∀{l:List α} {k:Nat} {x:α},l[k]?=some x→f x=true→(∀y∈l.take k,f y=false)→jhJ f l=k
 |[],_,_,h,_,_=>by simp at h
 |a::l,0,x,h,hx,_=>by simp at h;subst h;rw [jhJ,hx];rfl
 |a::l,k+1,x,h,hx,hn=>by
  rw [jhJ,hn a (by simp),jhH (k:=k) (by simpa using h) hx fun y hy=>hn y (by simp [hy])];rfl
theorem jhI {α:Type} (f:α→Bool) (l:List α):(jhJ f l=-1∧∀y∈l,f y=false)∨∃k x,jhJ f l=((k:Nat):Int)∧l[k]?=some x∧f x=true∧∀y∈l.take k,f y=false:=by
 induction l with
 |nil=>exact .inl ⟨rfl,by simp⟩
 |cons a l ih=>
  cases ha:f a with
  |true=>exact .inr ⟨0,a,by rw [jhJ,ha];rfl,rfl,ha,by simp⟩
  |false=>
   rcases ih with ⟨h1,h2⟩|⟨k,x,h1,h2,h3,h4⟩
   ·exact .inl ⟨je5 (fun y hy=>by rcases List.mem_cons.1 hy with rfl|hy<;>simp_all),fun y hy=>by rcases List.mem_cons.1 hy with rfl|hy<;>simp_all⟩
   ·have h5:(a::l)[k+1]?=some x:=by simpa using h2
    have h6:∀y∈(a::l).take (k+1),f y=false:=fun y hy=>by
     rw [List.take_succ_cons] at hy;rcases List.mem_cons.1 hy with rfl|hy
     ·exact ha
     ·exact h4 y hy
    exact .inr ⟨k+1,x,jhH h5 h3 h6,h5,h3,h6⟩
theorem jwm {α:Type} {f:α→Bool} {l:List α} {k:Nat} {x:α} (h:l[k]?=some x) (hx:f x=false) (hn:∀y∈l.take k,f y=false):∀y∈l.take (k+1),f y=false:=by
 intro y hy;rw [List.take_add_one,h] at hy;rcases List.mem_append.1 hy with hy|hy
 ·exact hn y hy
 ·simp at hy;subst hy;exact hx
theorem zV (l:List Int) (a:Int):D.sl 1 joU (l.flatMap (fun n=>[iv n])++[.val (.int .i64 a)])=jo (l++[a]):=by simp [jo]
theorem juI (a:Int):D.sl 1 joU [.val (.int .i64 a)]=jo [a]:=by simp [jo]
theorem stH_t (p:List Nat) (k n:Nat) (η:jm) (K:jm→Prop):stH true p k n η K=K η:=(rfl)
attribute [go_sem] stH_t jyp
def jcR:C:=iS [iA 2 (iN 0)] (iS [iA 4 (iM 0),iA 5 (.call 73 [.t 4]),iA 3 (iM 5)] (.seq (iS [iA 6 (iM 3),iA 7 (.bin .eql 9 (.t 6) (.c (.string ⟨⟨[]⟩⟩)))] (iD 7 (iS [iA 2 (iN 0)] .ret) .skip)) (iS [iA 8 (iM 3),iA 9 (.call 75 [.t 8]),iA 10 (iQ .rem 3 9 4),iA 2 (iM 10)] .ret)))
theorem jfp:fnC Try.prog Try.f175=some (jcR,[.t 2],11):=by kernel_rfl
def jcO:C:=iS [iA 2 (.mov (.c (.string ⟨⟨[]⟩⟩)))] (.seq (iS [iA 4 (iM 0),iA 5 (.call 66 [.t 4,.c (.int .i64 0),.c (.int .i64 1000000000)]),iA 6 (iU 5)] (iD 6 (iS [iA 2 (.mov (.c (.string ⟨⟨[]⟩⟩)))] .ret) .skip)) (iS [iA 7 (.bsl 5 1 0 [] []),iA 3 (iM 7)] (.seq (.blk 0 (.loop (.seq (iS [iA 8 (iM 0),iA 9 (iQ .gtr 3 8 127)] (iD 9 .skip (.exit 0))) (.blk 1 (iS [iA 10 (iM 3),iA 11 (iM 0),iA 12 (iQ .rem 3 11 128),iA 13 (.bin .add 3 (.c (.int .i64 128)) (.t 12)),iA 14 (.cv (.num .u8) 0 (.t 13)),iA 15 (.bsl 5 1 1 [none] [(0,1,.t 14)]),iA 16 (.app 5 1 1 (.t 10) (.t 15)),iA 3 (iM 16)] (.reg [iA 17 (iM 0),iA 18 (iQ .quo 3 17 128),iA 0 (iM 18)])))))) (iS [iA 19 (iM 3),iA 20 (iM 0),iA 21 (.cv (.num .u8) 0 (.t 20)),iA 22 (.bsl 5 1 1 [none] [(0,1,.t 21)]),iA 23 (.app 5 1 1 (.t 19) (.t 22)),iA 24 (.cv .text 5 (.t 23)),iA 2 (iM 24)] .ret))))
theorem jfm:fnC Try.prog Try.f73=some (jcO,[.t 2],25):=by kernel_rfl
def jc0:C:=iS [iA 2 (.mov (.c (.string ⟨⟨[]⟩⟩)))] (.seq (iS [iA 4 (iM 0),iA 5 (.call 61 [.t 4,.c (.int .i64 0),.c (.int .i64 1000000000)]),iA 6 (iU 5)] (iD 6 (iS [iA 2 (.mov (.c (.string ⟨⟨[]⟩⟩)))] .ret) .skip)) (iS [iA 3 (.mov (.c (.slice none 0 0)))] (.seq (.blk 0 (.loop (.seq (iS [iA 7 (iM 0),iA 8 (iQ .geq 3 7 128)] (iD 8 .skip (.exit 0))) (.blk 1 (iS [iA 9 (iM 3),iA 10 (iM 0),iA 11 (iQ .rem 3 10 128),iA 12 (iQ .add 3 11 128),iA 13 (.cv (.num .u8) 0 (.t 12)),iA 14 (.bsl 5 1 1 [none] [(0,1,.t 13)]),iA 15 (.app 5 1 1 (.t 9) (.t 14)),iA 3 (iM 15)] (.reg [iA 16 (iM 0),iA 17 (iQ .quo 3 16 128),iA 0 (iM 17)])))))) (iS [iA 18 (iM 3),iA 19 (iM 0),iA 20 (.cv (.num .u8) 0 (.t 19)),iA 21 (.bsl 5 1 1 [none] [(0,1,.t 20)]),iA 22 (.app 5 1 1 (.t 18) (.t 21)),iA 23 (.cv .text 5 (.t 22)),iA 2 (iM 23)] .ret))))
theorem jfy:fnC Try.prog Try.f77=some (jc0,[.t 2],24):=by kernel_rfl
def jbF:C:=iS [iA 2 (iN 0)] (iS [iA 3 (iN 4294967295)] (.seq (iS [iA 4 (iN 0)] (.blk 0 (.loop (.seq (iS [iA 7 (iM 4),iA 8 (iM 0),iA 9 (.len true (.t 8)),iA 10 (iP .lss 3 7 9)] (iD 10 .skip (.exit 0))) (.seq (.blk 1 (iS [iA 13 (iM 3),iA 14 (iM 0),iA 15 (iM 4),iA 16 (.sidx (.t 14) (.t 15)),iA 17 (.cv (.num .i64) 0 (.t 16)),iA 18 (iP .xor 3 13 17),iA 3 (iM 18)] (iS [iA 5 (iN 0)] (.blk 2 (.loop (.seq (iS [iA 19 (iM 5),iA 20 (iQ .lss 3 19 8)] (iD 20 .skip (.exit 2))) (.seq (.blk 3 (iS [iA 23 (iM 3),iA 24 (iQ .rem 3 23 2),iA 25 (iQ .eql 3 24 1),iA 6 (iM 25)] (iS [iA 26 (iM 3),iA 27 (iQ .quo 3 26 2),iA 3 (iM 27)] (iS [iA 28 (iM 6)] (iD 28 (.reg [iA 29 (iM 3),iA 30 (iQ .xor 3 29 3988292384),iA 3 (iM 30)]) .skip))))) (.reg [iA 21 (iM 5),iA 22 (iQ .add 3 21 1),iA 5 (iM 22)])))))))) (.reg [iA 11 (iM 4),iA 12 (iQ .add 3 11 1),iA 4 (iM 12)])))))) (iS [iA 31 (iM 3),iA 32 (iQ .xor 3 31 4294967295),iA 2 (iM 32)] .ret)))
theorem jhV:fnC Try.prog Try.f75=some (jbF,[.t 2],33):=by kernel_rfl
def jme:C:=iS [iA 2 (iN 0)] (iS [iA 3 (iN 4294967295)] (.seq (iS [iA 4 (iN 0)] (.blk 0 (.loop (.seq (iS [iA 7 (iM 4),iA 8 (iM 0),iA 9 (.len true (.t 8)),iA 10 (iP .lss 3 7 9)] (iD 10 .skip (.exit 0))) (.seq (.blk 1 (iS [iA 13 (iM 3),iA 14 (iM 0),iA 15 (iM 4),iA 16 (.sidx (.t 14) (.t 15)),iA 17 (.cv (.num .i64) 0 (.t 16)),iA 18 (iP .xor 3 13 17),iA 3 (iM 18)] (iS [iA 5 (iN 0)] (.blk 2 (.loop (.seq (iS [iA 19 (iM 5),iA 20 (iQ .lss 3 19 8)] (iD 20 .skip (.exit 2))) (.seq (.blk 3 (iS [iA 23 (iM 3),iA 24 (iQ .rem 3 23 2),iA 25 (iQ .eql 3 24 1),iA 6 (iM 25)] (iS [iA 26 (iM 3),iA 27 (iQ .quo 3 26 2),iA 3 (iM 27)] (iS [iA 28 (iM 6)] (iD 28 (.reg [iA 29 (iM 3),iA 30 (iQ .xor 3 29 3988292384),iA 3 (iM 30)]) .skip))))) (.reg [iA 21 (iM 5),iA 22 (iQ .add 3 21 1),iA 5 (iM 22)])))))))) (.reg [iA 11 (iM 4),iA 12 (iQ .add 3 11 1),iA 4 (iM 12)])))))) (iS [iA 31 (iM 3),iA 32 (iQ .xor 3 31 4294967295),iA 2 (iM 32)] .ret)))
theorem jhZ:fnC Try.prog Try.f79=some (jme,[.t 2],33):=by kernel_rfl
def jfZ:C:=iS [iA 6 (iO false)] (iS [iA 7 (iM 0),iA 8 (iM 1),iA 9 (iP .geq 3 7 8),iA 10 (iM 9),iB 11 10 true (iM 0),iB 12 10 true (iM 2),iB 13 10 true (iP .leq 3 11 12),iA 14 (.pick (.t 10) (.t 13) (.c (.bool false))),iA 6 (iM 14)] .ret)
theorem jhS:fnC Try.prog Try.f66=some (jfZ,[.t 6],15):=by kernel_rfl
def jez:C:=iS [iA 6 (iO false)] (iS [iA 7 (iM 0),iA 8 (iM 1),iA 9 (iP .geq 3 7 8),iA 10 (iM 9),iB 11 10 true (iM 0),iB 12 10 true (iM 2),iB 13 10 true (iP .leq 3 11 12),iA 14 (.pick (.t 10) (.t 13) (.c (.bool false))),iA 6 (iM 14)] .ret)
theorem jgA:fnC Try.prog Try.f61=some (jez,[.t 6],15):=by kernel_rfl
theorem jw (a b c:Int):kl Try.prog 66 [.c (.val (.int .i64 a)),.c (.val (.int .i64 b)),.c (.val (.int .i64 c))] (.c (.val (.bool (decide (b≤a∧a≤c))))):=by
 refine jr Try.func66 jhS (by simp) ?_
 unfold jfZ;by_cases h:b≤a
 ·simp only [go_sem,h]
 ·simp only [go_sem,h]
theorem km (a b c:Int):kl Try.prog 61 [.c (.val (.int .i64 a)),.c (.val (.int .i64 b)),.c (.val (.int .i64 c))] (.c (.val (.bool (decide (b≤a∧a≤c))))):=by
 refine jr Try.func61 jgA (by simp) ?_
 unfold jez;by_cases h:b≤a
 ·simp only [go_sem,h]
 ·simp only [go_sem,h]
def kB (v:Nat):List UInt8:=if v<128 then [UInt8.ofNat v] else UInt8.ofNat (128+v%128)::kB (v/128)
termination_by v
decreasing_by omega
theorem jjx (v:Nat):(kB v).length≤v+1:=by
 induction v using Nat.strongRecOn with
 |_ v ih=>
  unfold kB;split
  ·simp
  ·have:=ih (v/128) (by omega)
   simp only [List.length_cons];omega
def zp (n:Int):ByteArray:=if 0≤n∧n≤1000000000 then ⟨(kB n.toNat).toArray⟩ else ⟨#[]⟩
theorem jvi {v:Nat} (h:v<256):D.val (.int .u8 (IntKind.u8.wrap (v:Int)))=kj (UInt8.ofNat v):=by
 have:IntKind.u8.wrap (v:Int)=v:=IntWalk.u8_in _ (by omega)
 rw [this];simp [kj,Nat.mod_eq_of_lt h]
theorem jjB (v:Nat):Int.tdiv (v:Int) 128=((v/128:Nat):Int):=rfl
theorem jjz (v:Nat):Int.tmod (v:Int) 128=((v%128:Nat):Int):=rfl
theorem ja7 {n:Nat} (h:n≤1000000000):zp (n:Int)=⟨(kB n).toArray⟩:=by simp [zp];omega
theorem vr (n:Int):kl Try.prog 73 [.c (.val (.int .i64 n))] (.c (.val (.string (zp n)))):=by
 refine jr Try.func73 jfm (by simp) ?_
 unfold jcO;simp only [go_sem];refine jb (jw n 0 1000000000) (by simp only [go_sem]) fun η=>?_
 by_cases h:0≤n∧n≤1000000000
 ·obtain ⟨n,rfl⟩:=Int.eq_ofNat_of_zero_le h.1
  have hn:n≤1000000000:=by omega
  rw [ja7 hn];simp only [go_sem,h];intro η1;have hl0:=jjx n;refine qB (fun s=>∃(l:List UInt8) (v:Nat) (g:Nat) (η:jm),l++kB v=kB n∧v≤n∧(g=700∨g=1600)∧s.t 0=.c (.v (.int .i64 v))∧s.t 3=.c (.h g 0 [] (η []))∧s.o g=.loose (.sl 1 5 (l.map kj)) η) (fun s=>s.n 0) ?_ ?_
  ·exact ⟨[],n,700,η1,rfl,Nat.le_refl _,.inl rfl,by simp only [go_sem],by simp only [go_sem],by simp only [go_sem]⟩
  ·rintro s ⟨l,v,g,η,hl,hv,hg,h0,h3,ho⟩
   have hll:l.length≤1000000001:=by have:=congrArg List.length hl;simp only [List.length_append] at this;omega
   by_cases hlt:128≤v
   ·have hlt':(127:Int)<v:=by omega
    have hw:IntKind.i64.wrap (128+((v%128:Nat):Int))=((128+v%128:Nat):Int):=by rw [jg (by omega) (by omega)];omega
    have hw2:IntKind.i64.wrap ((v/128:Nat):Int)=((v/128:Nat):Int):=jg (by omega) (by omega)
    have hb:=jvi (v:=128+v%128) (by omega)
    have e':l++kB v=(l++[UInt8.ofNat (128+v%128)])++kB (v/128):=by rw [kB,if_neg (by omega)];simp
    rcases hg with rfl|rfl
    ·simp only [go_sem,h0,h3,ho,hlt',jjB,jjz,hw,hw2]
     intro η2;refine ⟨by simp [maxLen];try omega,by simp;try omega,fun η3=>⟨⟨_,v/128,1600,η3,e'.symm.trans hl,by omega,.inr rfl,rfl,rfl,by simp only [go_sem,hb,List.map_append]⟩,?_⟩⟩
     rw [jdv (k:=.i64) (n:=((v/128:Nat):Int)) (by simp only [go_sem]),jdv h0];omega
    ·simp only [go_sem,h0,h3,ho,hlt',jjB,jjz,hw,hw2]
     intro η2;refine ⟨by simp [maxLen];try omega,by simp;try omega,fun η3=>⟨⟨_,v/128,1600,η3,e'.symm.trans hl,by omega,.inr rfl,rfl,rfl,by simp only [go_sem,hb,List.map_append]⟩,?_⟩⟩
     rw [jdv (k:=.i64) (n:=((v/128:Nat):Int)) (by simp only [go_sem]),jdv h0];omega
   ·have hlt':¬(127:Int)<v:=by omega
    have hb:=jvi (v:=v) (by omega)
    have e':l++kB v=l++[UInt8.ofNat v]:=by rw [kB,if_pos (by omega)]
    have hvl:kB n=l++[UInt8.ofNat v]:=by rw [←hl,e']
    rcases hg with rfl|rfl
    ·simp only [go_sem,h0,h3,ho,hlt']
     intro η2;refine ⟨by simp [maxLen];try omega,by simp;try omega,fun η3=>zz (bs:=kB n) rfl rfl (by rw [hvl];simp only [go_sem,hb,List.map_append]) ?_⟩
     simp only [go_sem]
    ·simp only [go_sem,h0,h3,ho,hlt']
     intro η2;refine ⟨by simp [maxLen];try omega,by simp;try omega,fun η3=>zz (bs:=kB n) rfl rfl (by rw [hvl];simp only [go_sem,hb,List.map_append]) ?_⟩
     simp only [go_sem]
 ·simp only [go_sem,h]
  simp [zp,h]
theorem vt (n:Int):kl Try.prog 77 [.c (.val (.int .i64 n))] (.c (.val (.string (zp n)))):=by
 refine jr Try.func77 jfy (by simp) ?_
 unfold jc0;simp only [go_sem];refine jb (km n 0 1000000000) (by simp only [go_sem]) fun η=>?_
 by_cases h:0≤n∧n≤1000000000
 ·obtain ⟨n,rfl⟩:=Int.eq_ofNat_of_zero_le h.1
  have hn:n≤1000000000:=by omega
  rw [ja7 hn];simp only [go_sem,h];have hl0:=jjx n;refine qB (fun s=>∃(l:List UInt8) (v:Nat),l++kB v=kB n∧v≤n∧s.t 0=.c (.v (.int .i64 v))∧((l=[]∧s.t 3=.c (.v (.slice none 0 0)))∨∃η,s.t 3=.c (.h 1500 0 [] (η []))∧s.o 1500=.loose (.sl 1 5 (l.map kj)) η)) (fun s=>s.n 0) ?_ ?_
  ·exact ⟨[],n,rfl,Nat.le_refl _,by simp only [go_sem],.inl ⟨rfl,by simp only [go_sem]⟩⟩
  ·rintro s ⟨l,v,hl,hv,h0,hg⟩
   have hll:l.length≤1000000001:=by have:=congrArg List.length hl;simp only [List.length_append] at this;omega
   by_cases hlt:128≤v
   ·have hlt':(128:Int)≤v:=by omega
    have hw:IntKind.i64.wrap (((v%128:Nat):Int)+128)=((128+v%128:Nat):Int):=by rw [jg (by omega) (by omega)];omega
    have hw2:IntKind.i64.wrap ((v/128:Nat):Int)=((v/128:Nat):Int):=jg (by omega) (by omega)
    have hb:=jvi (v:=128+v%128) (by omega)
    have e':l++kB v=(l++[UInt8.ofNat (128+v%128)])++kB (v/128):=by rw [kB,if_neg (by omega)];simp
    rcases hg with ⟨rfl,h3⟩|⟨η,h3,ho⟩
    ·simp only [go_sem,h0,h3,List.length_nil,hlt',maxLen,jjB,jjz,hw,hw2]
     intro η2;intro η3;refine ⟨⟨_,v/128,e'.symm.trans hl,by omega,rfl,.inr ⟨η3,rfl,by simp only [go_sem,hb,List.map_append]⟩⟩,?_⟩
     rw [jdv (k:=.i64) (n:=((v/128:Nat):Int)) (by simp only [go_sem]),jdv h0];omega
    ·simp only [go_sem,h0,h3,ho,hlt',jjB,jjz,hw,hw2]
     intro η2;refine ⟨by simp [maxLen];try omega,by simp;try omega,fun η3=>⟨⟨_,v/128,e'.symm.trans hl,by omega,rfl,.inr ⟨η3,rfl,by simp only [go_sem,hb,List.map_append]⟩⟩,?_⟩⟩
     rw [jdv (k:=.i64) (n:=((v/128:Nat):Int)) (by simp only [go_sem]),jdv h0];omega
   ·have hlt':¬(128:Int)≤v:=by omega
    have hb:=jvi (v:=v) (by omega)
    have e':l++kB v=l++[UInt8.ofNat v]:=by rw [kB,if_pos (by omega)]
    have hvl:kB n=l++[UInt8.ofNat v]:=by rw [←hl,e']
    rcases hg with ⟨rfl,h3⟩|⟨η,h3,ho⟩
    ·simp only [go_sem,h0,h3,List.length_nil,hlt',maxLen]
     intro η2 η3;refine zz (bs:=kB n) rfl rfl (by rw [hvl];simp only [go_sem,hb,List.map_append]) ?_
     simp only [go_sem]
    ·simp only [go_sem,h0,h3,ho,hlt']
     intro η2;refine ⟨by simp [maxLen];try omega,by simp;try omega,fun η3=>zz (bs:=kB n) rfl rfl (by rw [hvl];simp only [go_sem,hb,List.map_append]) ?_⟩
     simp only [go_sem]
 ·simp only [go_sem,h]
  simp [zp,h]
def joP (a b:Int):Int:=IntKind.i64.wrap ((BitVec.ofInt 64 a^^^BitVec.ofInt 64 b).toNat)
theorem jtJ (a b:Int):IntKind.i64.wrap ((BitVec.ofInt 64 a^^^BitVec.ofInt 64 b).toNat)=joP a b:=rfl
def jiO (c:Int):Int:=if (c.tmod 2==1)=true then joP (IntKind.i64.wrap (c.tdiv 2)) 3988292384 else IntKind.i64.wrap (c.tdiv 2)
def jlA:Nat→Int→Int
 |0,c=>c
 |n+1,c=>jiO (jlA n c)
def jvC (c:Int) (b:UInt8):Int:=jlA 8 (joP c (IntKind.i64.wrap b.toNat))
def jdu (b:ByteArray):Int:=joP (b.data.toList.foldl jvC 4294967295) 4294967295
theorem je2 {α β:Type} (f:β→α→β) (c:β) {l:List α} {k:Nat} {x:α} (h:l[k]?=some x):(l.take (k+1)).foldl f c=f ((l.take k).foldl f c) x:=by
 rw [List.take_add_one,h];simp
theorem jqD {P:Program} (b:ByteArray) (hb:b.size<9223372036854775807):wpC P 0 jbF (jwY [.t 2] (.c (.val (.int .i64 (jdu b))))) (St.init [.c (.val (.string b))]):=by
 unfold jbF;simp only [go_sem];refine qB (fun s=>∃k:Nat,k≤b.size∧s.t 0=.c (.v (.string b))∧s.t 4=.c (.v (.int .i64 k))∧s.t 3=.c (.v (.int .i64 ((b.data.toList.take k).foldl jvC 4294967295)))) (fun s=>b.size-s.n 4) ?_ ?_
 ·exact ⟨0,Nat.zero_le _,by simp only [go_sem],by simp only [go_sem]<;>rfl,by simp only [go_sem]<;>rfl⟩
 ·rintro s ⟨k,hk,h0,h4,h3⟩
  by_cases hlt:k<b.size
  ·have hlt':(k:Int)<b.size:=by omega
   obtain ⟨u,hu⟩:∃u,b[k]?=some u:=⟨b[k],by simp [hlt]⟩
   have hu':b.data.toList[k]?=some u:=by
    rw [←hu,getElem?_pos b k hlt];simp only [Array.getElem?_toList];exact getElem?_pos b.data k hlt
   have hw4:IntKind.i64.wrap ((k:Int)+1)=((k+1:Nat):Int):=jg (by omega) (by omega)
   simp only [go_sem,h0,h3,h4,hlt',jtJ];refine ⟨u,hu,?_⟩;refine qB (fun s=>∃j:Nat,j≤8∧s.t 0=.c (.v (.string b))∧s.t 4=.c (.v (.int .i64 k))∧s.t 5=.c (.v (.int .i64 j))∧s.t 3=.c (.v (.int .i64 (jlA j (joP ((b.data.toList.take k).foldl jvC 4294967295) (IntKind.i64.wrap u.toNat)))))) (fun s=>8-s.n 5) ?_ ?_
   ·exact ⟨0,Nat.zero_le _,by simp only [go_sem,h0],by simp only [go_sem,h4],by simp only [go_sem]<;>rfl,by simp only [go_sem]<;>rfl⟩
   ·rintro s' ⟨j,hj,h0',h4',h5',h3'⟩
    by_cases hj':j<8
    ·have hj2:(j:Int)<8:=by omega
     have hw:IntKind.i64.wrap ((j:Int)+1)=((j+1:Nat):Int):=jg (by omega) (by omega)
     cases hodd:(jlA j (joP ((b.data.toList.take k).foldl jvC 4294967295) (IntKind.i64.wrap u.toNat))).tmod 2==1 with
     |true=>
      simp only [go_sem,h0',h4',h5',h3',hj2,hodd,hw,jtJ];exact ⟨⟨j+1,by omega,rfl,by simp only [jlA,jiO,hodd,↓reduceIte];rfl⟩,by rw [jdv (k:=.i64) (n:=((j+1:Nat):Int)) (by simp only [go_sem]),jdv h5'];omega⟩
     |false=>
      simp only [go_sem,h0',h4',h5',h3',hj2,hodd,hw,jtJ];exact ⟨⟨j+1,by omega,rfl,by simp only [jlA,jiO,hodd,Bool.false_eq_true,↓reduceIte]⟩,by rw [jdv (k:=.i64) (n:=((j+1:Nat):Int)) (by simp only [go_sem]),jdv h5'];omega⟩
    ·have hj2:¬(j:Int)<8:=by omega
     have hj8:j=8:=by omega
     subst hj8;simp only [go_sem,h0',h4',h5',h3',hj2,hw4];exact ⟨⟨k+1,by omega,rfl,by rw [je2 _ _ hu'];rfl⟩,by rw [jdv (k:=.i64) (n:=((k+1:Nat):Int)) (by simp only [go_sem]),jdv h4];omega⟩
  ·have hlt':¬(k:Int)<b.size:=by omega
   have hkk:b.data.toList.take k=b.data.toList:=List.take_of_length_le (by simp only [Array.length_toList];exact Nat.le_of_not_lt hlt)
   simp only [go_sem,h0,h3,h4,hlt',jtJ,hkk];rfl
theorem jbm (b:ByteArray) (hb:b.size<9223372036854775807):kl Try.prog 75 [.c (.val (.string b))] (.c (.val (.int .i64 (jdu b)))):=
 jr Try.func75 jhV (by simp) (jqD b hb)
theorem jfS (b:ByteArray) (hb:b.size<9223372036854775807):kl Try.prog 79 [.c (.val (.string b))] (.c (.val (.int .i64 (jdu b)))):=
 jr Try.func79 jhZ (by simp) (jqD b hb)
def jfL (n:Int):Int:=if ((zp n).toList==ByteArray.toList ⟨⟨[]⟩⟩)=true then 0 else (jdu (zp n)).tmod 4
theorem joS (n:Int):(zp n).size<9223372036854775807:=by
 unfold zp;split
 ·have:=jjx n.toNat
  show (kB n.toNat).toArray.size<_;simp only [List.size_toArray];omega
 ·decide
theorem jcr (n:Int):kl Try.prog 175 [.c (.val (.int .i64 n))] (.c (.val (.int .i64 (jfL n)))):=by
 refine jr Try.func175 jfp (by simp) ?_
 unfold jcR;simp only [go_sem];refine jb (vr n) (by simp only [go_sem]) fun η=>?_
 cases he:(zp n).toList==ByteArray.toList ⟨⟨[]⟩⟩ with
 |true=>
  simp only [go_sem,he];simp only [jfL,he,if_true]
 |false=>
  simp only [go_sem,he];refine jb (jbm _ (joS n)) (by simp only [go_sem]) fun η=>?_
  simp only [go_sem];simp only [jfL,he,Bool.false_eq_true,if_false]
def jcI:C:=iS [iA 1 (.box 24 5 (.t 0)),iA 2 (iO false)] (iS [iA 3 (iF 3 1),iA 4 (iL 3),iA 5 (.call 66 [.t 4,.c (.int .i64 1),.c (.int .i64 12)]),iA 6 (iU 5),iA 7 (iM 6),iB 8 7 false (iF 4 1),iB 9 7 false (iL 8),iB 10 7 false (iG 9),iB 11 7 false (iQ .gtr 3 10 30),iA 12 (.pick (.t 7) (.c (.bool true)) (.t 11)),iA 13 (iM 12),iB 14 13 false (iF 0 1),iB 15 13 false (iL 14),iB 16 13 false (.call 66 [.t 15,.c (.int .i64 0),.c (.int .i64 9)]),iB 17 13 false (iU 16),iA 18 (.pick (.t 13) (.c (.bool true)) (.t 17)),iA 19 (iM 18),iB 20 19 false (iF 1 1),iB 21 19 false (iL 20),iB 22 19 false (.call 66 [.t 21,.c (.int .i64 1),.c (.int .i64 5)]),iB 23 19 false (iU 22),iA 24 (.pick (.t 19) (.c (.bool true)) (.t 23)),iA 25 (iM 24),iB 26 25 false (iF 2 1),iB 27 25 false (iL 26),iB 28 25 false (.call 66 [.t 27,.c (.int .i64 1),.c (.int .i64 20)]),iB 29 25 false (iU 28),iA 30 (.pick (.t 25) (.c (.bool true)) (.t 29)),iA 2 (iM 30)] .ret)
theorem jfg:fnC Try.prog Try.f132=some (jcI,[.t 2],31):=by kernel_rfl
def jcJ:C:=iS [iA 2 (.box 24 5 (.t 0)),iA 4 (.mov (.c (.slice none 0 0)))] (iS [iA 10 (iF 3 2),iA 11 (iL 10),iA 12 (.mks 4 1 1 [D.val (.bool false)] (.t 11) (.t 11)),iA 5 (iM 12)] (iS [iA 13 (iM 1),iA 14 (.bsl 3 1 1 [none] [(0,1,.t 13)]),iA 6 (iM 14)] (.seq (iS [iA 7 (iN 0)] (.blk 0 (.loop (.seq (iS [iA 15 (iM 7),iA 16 (iM 6),iA 17 (iG 16),iA 18 (iP .lss 3 15 17)] (iD 18 .skip (.exit 0))) (.seq (.blk 1 (iS [iA 8 (iN 0)] (.blk 2 (.loop (.seq (iS [iA 21 (iM 8),iA 22 (iF 4 2),iA 23 (iL 22),iA 24 (iG 23),iA 25 (iP .lss 3 21 24)] (iD 25 .skip (.exit 2))) (.seq (.blk 3 (iS [iA 28 (iF 4 2),iA 29 (iL 28),iA 30 (iM 8),iA 31 (iI 2 29 30),iA 32 (iT 2 31),iA 9 (.alloc 103 [.int .i64 0,.int .i64 0]),iC (.st 2 [none,none] (.t 9) (.t 32))] (.seq (.dreg (T.pure 0 (iA 33 (iF 0 9)) (T.pure 1 (iA 34 (iL 33)) (T.pure 2 (iA 35 (iM 6)) (T.pure 3 (iA 36 (iM 7)) (T.pure 4 (iA 37 (iI 1 35 36)) (T.pure 5 (iA 38 (iL 37)) (T.pure 6 (iA 39 (iP .eql 3 34 38)) (T.pure 7 (iA 40 (iM 39)) (T.pure 8 (iB 41 40 true (iM 5)) (T.pure 9 (iB 42 40 true (iF 1 9)) (T.pure 10 (iB 43 40 true (iL 42)) (T.pure 11 (iB 44 40 true (iI 1 41 43)) (T.pure 12 (iB 45 40 true (iL 44)) (T.pure 13 (iB 46 40 true (iU 45)) (T.pure 14 (iA 47 (.pick (.t 40) (.t 46) (.c (.bool false)))) T.done)))))))))))))))) (iD 47 (iS [iA 48 (iM 5),iA 49 (iF 1 9),iA 50 (iL 49),iA 51 (iI 1 48 50),iC (.st 1 [none] (.t 51) (.c (.bool true)))] (.reg [iA 52 (iM 6),iA 53 (iF 1 9),iA 54 (iL 53),iA 55 (.bsl 3 1 1 [none] [(0,1,.t 54)]),iA 56 (.app 3 1 8 (.t 52) (.t 55)),iA 6 (iM 56)])) .skip)))) (.reg [iA 26 (iM 8),iA 27 (iQ .add 3 26 1),iA 8 (iM 27)]))))))) (.reg [iA 19 (iM 7),iA 20 (iQ .add 3 19 1),iA 7 (iM 20)])))))) (iS [iA 57 (iM 5),iA 4 (iM 57)] .ret))))
theorem jfh:fnC Try.prog Try.f133=some (jcJ,[.t 4],58):=by kernel_rfl
def jaU:C:=iS [iA 1 (.box 24 5 (.t 0)),iA 2 (iN 0)] (.seq (iS [iA 7 (iT 5 1),iA 8 (.call 132 [.t 7])] (iD 8 (iS [iA 2 (iN 1)] .ret) .skip)) (.seq (iS [iA 3 (iN 0)] (.blk 0 (.loop (.seq (iS [iA 9 (iM 3),iA 10 (iF 4 1),iA 11 (iL 10),iA 12 (iG 11),iA 13 (iP .lss 3 9 12)] (iD 13 .skip (.exit 0))) (.seq (.blk 1 (.seq (.dreg (T.pure 0 (iA 16 (iF 4 1)) (T.pure 1 (iA 17 (iL 16)) (T.pure 2 (iA 18 (iM 3)) (T.pure 3 (iA 19 (iI 2 17 18)) (T.pure 4 (iA 20 (iF 0 19)) (T.pure 5 (iA 21 (iL 20)) (T.pure 6 (iA 22 (iF 3 1)) (T.pure 7 (iA 23 (iL 22)) (T.pure 8 (iA 24 (iQ .sub 3 23 1)) (T.alt (iA 25 (.call 66 [.t 21,.c (.int .i64 0),.t 24])) [] (T.pure 10 (iA 26 (iU 25)) (T.pure 11 (iA 27 (iM 26)) (T.pure 12 (iB 28 27 false (iF 4 1)) (T.pure 13 (iB 29 27 false (iL 28)) (T.pure 14 (iB 30 27 false (iM 3)) (T.pure 15 (iB 31 27 false (iI 2 29 30)) (T.pure 16 (iB 32 27 false (iF 1 31)) (T.pure 17 (iB 33 27 false (iL 32)) (T.pure 18 (iB 34 27 false (iF 3 1)) (T.pure 19 (iB 35 27 false (iL 34)) (T.pure 20 (iB 36 27 false (iQ .sub 3 35 1)) (T.alt (iB 37 27 false (.call 66 [.t 33,.c (.int .i64 0),.t 36])) [] (T.pure 22 (iB 38 27 false (iU 37)) (T.pure 23 (iA 39 (.pick (.t 27) (.c (.bool true)) (.t 38))) T.done)) T.stop)))))))))))) T.stop))))))))))) (iD 39 (iS [iA 2 (iN 2)] .ret) .skip))) (.reg [iA 14 (iM 3),iA 15 (iQ .add 3 14 1),iA 3 (iM 15)])))))) (.seq (iS [iA 4 (iN 0)] (.blk 2 (.loop (.seq (iS [iA 40 (iM 4),iA 41 (iF 4 1),iA 42 (iL 41),iA 43 (iG 42),iA 44 (iP .lss 3 40 43)] (iD 44 .skip (.exit 2))) (.seq (.blk 3 (iS [iA 5 (iN 0)] (.blk 4 (.loop (.seq (iS [iA 47 (iM 5),iA 48 (iM 4),iA 49 (iP .lss 3 47 48)] (iD 49 .skip (.exit 4))) (.seq (.blk 5 (.seq (.dreg (T.pure 0 (iA 52 (iF 4 1)) (T.pure 1 (iA 53 (iL 52)) (T.pure 2 (iA 54 (iM 4)) (T.pure 3 (iA 55 (iI 2 53 54)) (T.pure 4 (iA 56 (iT 2 55)) (T.pure 5 (iA 57 (iF 4 1)) (T.pure 6 (iA 58 (iL 57)) (T.pure 7 (iA 59 (iM 5)) (T.pure 8 (iA 60 (iI 2 58 59)) (T.pure 9 (iA 61 (iT 2 60)) (T.pure 10 (iA 62 (iP .eql 103 56 61)) T.done)))))))))))) (iD 62 (iS [iA 2 (iN 3)] .ret) .skip))) (.reg [iA 50 (iM 5),iA 51 (iQ .add 3 50 1),iA 5 (iM 51)]))))))) (.reg [iA 45 (iM 4),iA 46 (iQ .add 3 45 1),iA 4 (iM 46)])))))) (.seq (iS [iA 6 (iN 0)] (.blk 6 (.loop (.seq (iS [iA 63 (iM 6),iA 64 (iF 3 1),iA 65 (iL 64),iA 66 (iP .lss 3 63 65)] (iD 66 .skip (.exit 6))) (.seq (.blk 7 (iS [iA 69 (iT 5 1),iA 70 (iM 6),iA 71 (.call 133 [.t 69,.t 70]),iA 72 (iM 6),iA 73 (iI 1 71 72),iA 74 (iL 73)] (iD 74 (iS [iA 2 (iN 4)] .ret) .skip))) (.reg [iA 67 (iM 6),iA 68 (iQ .add 3 67 1),iA 6 (iM 68)])))))) (iS [iA 2 (iN 0)] .ret)))))
theorem jdn:fnC Try.prog Try.f111=some (jaU,[.t 2],75):=by kernel_rfl
theorem jik (p:Pl):kl Try.prog 132 [.agg (ja p)] (.c (.val (.bool (jav p)))):=by
 refine jr Try.func132 jfg (by simp) ?_
 unfold jcI;simp only [go_sem,ja];intro b;refine jb (jw p.tasks 1 12) (by simp only [go_sem,ja]) fun η=>?_
 simp only [go_sem,ja];cases h1:decide (1≤p.tasks∧p.tasks≤12)
 ·simp only [go_sem,ja,h1,jav,inB]
 ·by_cases h2:30<p.edges.length
  ·have h2':(p.edges.length:Int)>30:=by omega
   simp only [go_sem,ja,h1,h2,h2',jav,inB]
  ·have h2':¬(p.edges.length:Int)>30:=by omega
   simp only [go_sem,ja,h1,h2,h2'];refine jb (jw p.prio 0 9) (by simp only [go_sem,ja]) fun η=>?_
   simp only [go_sem,ja];cases h3:decide (0≤p.prio∧p.prio≤9)
   ·simp only [go_sem,ja,h1,h2,h2',h3,jav,inB]
   ·simp only [go_sem,ja,h1,h2,h2',h3]
    refine jb (jw p.most 1 5) (by simp only [go_sem,ja]) fun η=>?_
    simp only [go_sem,ja];cases h4:decide (1≤p.most∧p.most≤5)
    ·simp only [go_sem,ja,h1,h2,h2',h3,h4,jav,inB]
    ·simp only [go_sem,ja,h1,h2,h2',h3,h4]
     refine jb (jw p.wait 1 20) (by simp only [go_sem,ja]) fun η=>?_
     simp only [go_sem,ja];cases h5:decide (1≤p.wait∧p.wait≤20)
     ·simp only [go_sem,ja,h1,h2,h2',h3,h4,h5,jav,inB]
     ·simp only [go_sem,ja,h1,h2,h2',h3,h4,h5,jav,inB]
theorem jil (p:Pl) (n:Nat) (hn:p.tasks=n) (h12:n≤12) (h30:p.edges.length≤30) (hes:∀e∈p.edges,okE n e) (t:Nat) (ht:t<n):kl Try.prog 133 [.agg (ja p),.c (.val (.int .i64 t))] (.c (kN (jhC p.edges n t))):=by
 refine jr Try.func133 jfh (by simp) ?_
 unfold jcJ;have hm:1*n≤281474976710656:=by omega
 have hml:n≤maxLen:=by unfold maxLen;omega
 have hrep:D.sl 1 jwo (List.replicate n [D.val (.bool false)]).flatten=kN (jmj n []):=by
  rw [jux]
  congr 1
  apply List.ext_getElem?
  intro k;by_cases hk:k<n
  ·rw [jgS hk];simp [hk]
  ·rw [List.getElem?_eq_none (by simp;omega),List.getElem?_eq_none (by rw [vX];omega)]
 have hint:D.sl 1 joU [D.val (.int .i64 t)]=jo [(t:Int)]:=by simp [jo]
 simp only [go_sem,ja,hn];intro b;rw [jwD];refine ⟨.i64,.i64,n,by simp only [go_sem],by simp only [go_sem],hm,hml,fun η=>?_⟩
 simp only [go_sem,ja,hn,hrep,hint];intro η1;refine jq (fun i:Nat×List Int×jm×jm=>St.of [(2,Bx 200 b),(5,Hd 5 i.2.2.1),(6,Hd 6 i.2.2.2),(7,Ni i.1)] [(200,Bi b _ (ja p)),(5,.loose (kN (jmj n i.2.1)) i.2.2.1),(6,.loose (jo ((t:Int)::i.2.1)) i.2.2.2)]) (fun i=>jyc p.edges n t i.1 i.2.1) (fun i=>n+1-i.1) (0,[],η,η1) (jz0) (jl [some 200,some 1200,some 1400] (by simp only [go_sem,ja,hn]<;>and_intros<;>first|rfl|assumption|trivial)) ?_
 rintro ⟨h,r,η2,η3⟩ hb;dsimp only at hb;have hrl:=joG hb;have hll:((t:Int)::r).length=r.length+1:=rfl;by_cases hlt:h<r.length+1
 ·have hlt':(h:Int)<((r.length+1:Nat):Int):=by omega
  obtain ⟨x,hx⟩:=je (l:=(t:Int)::r) hlt;have hwh:IntKind.i64.wrap ((h:Int)+1)=((h+1:Nat):Int):=jg (by omega) (by omega)
  simp only [go_sem,hlt,hlt'];refine jq (fun i:Nat×List Int×jm×jm=>St.of [(2,Bx 200 b),(5,Hd 5 i.2.2.1),(6,Hd 6 i.2.2.2),(7,Ni h),(8,Ni i.1)] [(200,Bi b _ (ja p)),(5,.loose (kN (jmj n i.2.1)) i.2.2.1),(6,.loose (jo ((t:Int)::i.2.1)) i.2.2.2)]) (fun i=>BIn p.edges n t h x i.1 i.2.1∧i.1≤p.edges.length) (fun i=>p.edges.length-i.1) (0,r,η2,η3) (⟨bIn_0 hb hx,Nat.zero_le _⟩) (jl [some 200,some 5,some 6] (by simp only [go_sem,ja,hn]<;>and_intros<;>first|rfl|assumption|trivial)) ?_
  rintro ⟨j,r1,η4,η5⟩ ⟨hj,hjl⟩;dsimp only at hj hjl;have hrl1:=joG hj.1;have hll1:((t:Int)::r1).length=r1.length+1:=rfl;by_cases hjt:j<p.edges.length
  ·have hjt':(j:Int)<p.edges.length:=by omega
   obtain ⟨e,he⟩:=je hjt;obtain ⟨⟨e1,e2⟩,e3,e4⟩:=hes e (List.mem_of_getElem? he);have hwj:IntKind.i64.wrap ((j:Int)+1)=((j+1:Nat):Int):=jg (by omega) (by omega)
   have hqx:((t:Int)::r1)[h]?=some x:=hj.2.1;have hhl:h<((t:Int)::r1).length:=(List.getElem?_eq_some_iff.1 hqx).1;have hd:e.dst.toNat<n:=by omega
   have hdi:((e.dst.toNat:Nat):Int)=e.dst:=by omega
   have hgd:(jmj n r1)[e.dst.toNat]?=some (decide (e.dst∈r1)):=by rw [jgS hd,hdi]
   have hdl:e.dst.toNat<(jmj n r1).length:=by rw [vX];exact hd
   have hset:(jmj n r1).set e.dst.toNat true=jmj n (r1++[e.dst]):=by rw [jvr hd,hdi]
   have hone:1≤maxLen:=by unfold maxLen;omega
   have hq1:((t:Int)::r1).length+1≤maxLen:=by unfold maxLen;omega
   have hq2:(((t:Int)::r1).length+1)*8≤140737488355328:=by omega
   have hint2:D.sl 1 joU [D.val (.int .i64 e.dst)]=jo [e.dst]:=by simp [jo]
   dsimp only;generalize hq:(t:Int)::r1=q at hqx hhl hll1 hq1 hq2⊢;simp only [go_sem,ja,hn,hjt,hjt',jB he,jW,vX,e3,hd];intro b2;simp only [go_sem,ja,hn,jW,ji hqx,jj hhl,hhl,e3,hd,vX];cases hxe:(e.src==x)
   ·have hne:e.src≠x:=by simpa using hxe
    simp only [go_sem,hwj];exact ⟨(j+1,r1,η4,η5),⟨jv8 hj he fun h'=>absurd h' hne,by omega⟩,(jl [some 200,some 5,some 6] (by simp only [go_sem,ja,hn,←hq]<;>and_intros<;>first|rfl|assumption|trivial)),by (try dsimp only);omega⟩
   ·have hse:e.src=x:=by simpa using hxe
    simp only [go_sem,jW,e3,hd,vX,jdt hgd,jax hdl,jd0 hgd];by_cases hin:e.dst∈r1
    ·simp only [go_sem,hin,hwj]
     exact ⟨(j+1,r1,η4,η5),⟨jv8 hj he fun _=>hin,by omega⟩,(jl [some 200,some 5,some 6] (by simp only [go_sem,ja,hn,←hq]<;>and_intros<;>first|rfl|assumption|trivial)),by (try dsimp only);omega⟩
    ·simp only [go_sem,hin,hwj,jW,e3,hd,vX,jlg true hdl,jax hdl,hset,hq1,hq2,juI,zV]
     intro η6 η7;exact ⟨(j+1,r1++[e.dst],η4,η7),⟨jx7 hj he hse hin ⟨e3,e4⟩ (fun h0=>by subst h0;simpa using hj.2.1.symm),by omega⟩,(jl [some 200,some 5,some 5600] (by simp only [go_sem,ja,hn,←hq,List.cons_append]<;>and_intros<;>first|rfl|assumption|trivial)),by (try dsimp only);omega⟩
  ·have hjt':¬(j:Int)<p.edges.length:=by omega
   simp only [go_sem,ja,hn,hjt',hwh];exact ⟨(h+1,r1,η4,η5),jtm hj (by omega),(jl [some 200,some 5,some 6] (by simp only [go_sem,ja,hn]<;>and_intros<;>first|rfl|assumption|trivial)),by (try dsimp only);omega⟩
 ·have hlt':¬(h:Int)<((r.length+1:Nat):Int):=by omega
  simp only [go_sem,ja,hn,hlt',jtn hb (by omega)]
theorem jxm {p:Pl} (h:jav p=false):∃n:Nat,p.tasks=n∧1≤n∧n≤12∧p.edges.length≤30∧(0≤p.prio∧p.prio≤9)∧(1≤p.most∧p.most≤5)∧(1≤p.wait∧p.wait≤20):=by
 simp only [jav,inB,Bool.or_eq_false_iff,Bool.not_eq_false',decide_eq_true_eq,decide_eq_false_iff_not] at h;obtain ⟨⟨⟨⟨h1,h2⟩,h3⟩,h4⟩,h5⟩:=h;exact ⟨p.tasks.toNat,by omega,by omega,by omega,by omega,h3,h4,h5⟩
theorem jw5 {p:Pl} (h:jav p=true):jz p=1:=by simp [jz,h]
theorem jrP {p:Pl} (h:jav p=false) {e:Ed} (he:e∈p.edges) (h2:jmh p.tasks e=true):jz p=2:=by
 have:p.edges.any (jmh p.tasks)=true:=List.any_eq_true.2 ⟨e,he,h2⟩;simp [jz,h,this]
theorem jzd {p:Pl} (h:jav p=false) (h2:p.edges.any (jmh p.tasks)=false) (h3:¬p.edges.Nodup):jz p=3:=by simp [jz,h,h2,h3]
theorem jze {p:Pl} (h:jav p=false) (h2:p.edges.any (jmh p.tasks)=false) (h3:p.edges.Nodup) {t:Nat} (ht:(t:Int)<p.tasks) (h4:Rc p.edges t t):jz p=4:=by
 have:jzV p=true:=by simp only [jzV,decide_eq_true_eq];exact ⟨t,ht,h4⟩
 simp [jz,h,h2,h3,this]
theorem jzc {p:Pl} (h:jav p=false) (h2:p.edges.any (jmh p.tasks)=false) (h3:p.edges.Nodup) (h4:∀t:Nat,(t:Int)<p.tasks→¬Rc p.edges t t):jz p=0:=by
 have:jzV p=false:=by simp only [jzV,decide_eq_false_iff_not,not_exists,not_and];exact h4
 simp [jz,h,h2,h3,this]
theorem jvt {α:Type} {f:α→Bool} {l:List α} {k:Nat} {x:α} (h:l[k]?=some x) (hx:f x=false) (hn:(l.take k).any f=false):(l.take (k+1)).any f=false:=by
 rw [List.take_add_one,h];simp_all
theorem ju1 {l:List Ed} {k j:Nat} {x:Ed} (h:l[k]?=some x) (hj:j<k) (hx:l[j]?=some x):¬l.Nodup:=by
 intro hd;obtain ⟨h1,h2⟩:=List.getElem?_eq_some_iff.1 h;obtain ⟨h3,h4⟩:=List.getElem?_eq_some_iff.1 hx;exact List.pairwise_iff_getElem.1 hd j k h3 h1 hj (h4.trans h2.symm)
theorem jpI {l:List Ed} {k:Nat} {x:Ed} (h:l[k]?=some x) (hn:(l.take k).Nodup) (hx:x∉l.take k):(l.take (k+1)).Nodup:=by
 rw [List.take_add_one,h];simp only [Option.toList_some];rw [List.nodup_append];exact ⟨hn,by simp,fun a ha b hb e=>by simp at hb;subst hb;exact hx (e▸ha)⟩
theorem qD (p:Pl):kl Try.prog 111 [.agg (ja p)] (.c (.val (.int .i64 (jz p)))):=by
 refine jr Try.func111 jdn (by simp) ?_
 unfold jaU;simp only [go_sem,ja];intro b;refine jb (jik p) (by simp only [go_sem,ja]) fun η=>?_
 simp only [go_sem,ja];cases hm:jav p;rotate_left
 ·simp only [go_sem,ja,hm,jw5 hm]
 obtain ⟨n,hn,hn1,hn12,hel,-⟩:=jxm hm;have hw1:IntKind.i64.wrap ((n:Int)-1)=n-1:=jg (by omega) (by omega)
 simp only [go_sem,ja,hm];refine jq (fun i:Nat=>St.of [(1,Bx 100 b),(3,Ni i)] [(100,Bi b _ (ja p))]) (fun i=>i≤p.edges.length∧(p.edges.take i).any (jmh n)=false) (fun i=>p.edges.length-i) 0 (by (try dsimp only);first|omega|(simp;done)|(and_intros<;>first|omega|simp)) (jl [some 100] (by simp only [go_sem,ja]<;>and_intros<;>first|rfl|assumption|trivial)) ?_
 rintro k ⟨hk,hko⟩;by_cases hlt:k<p.edges.length
 ·have hlt':(k:Int)<p.edges.length:=by omega
  obtain ⟨e,he⟩:=je hlt;have hw:IntKind.i64.wrap ((k:Int)+1)=((k+1:Nat):Int):=jg (by omega) (by omega)
  simp only [go_sem,ja,hn,hlt,hlt',jB he,jW,hw1];refine jb (jw e.src 0 (n-1)) (by simp only [go_sem,ja,hlt,hlt',jB he,jW,hw1]) fun η=>?_
  simp only [go_sem,ja,hlt,hlt',jB he,jW,hw1];cases h1:decide (0≤e.src∧e.src≤n-1)
  ·have hbe:jmh p.tasks e=true:=by simp [jmh,inB,hn,h1]
   simp only [go_sem,ja,h1,jrP hm (List.mem_of_getElem? he) hbe]
  ·simp only [go_sem,ja,h1,hlt,hlt',jB he,jW,hw1,hn]
   refine jb (jw e.dst 0 (n-1)) (by simp only [go_sem,ja,hlt,hlt',jB he,jW,hw1]) fun η=>?_
   simp only [go_sem,ja,hlt,hlt',jB he,jW,hw1];cases h2:decide (0≤e.dst∧e.dst≤n-1)
   ·have hbe:jmh p.tasks e=true:=by simp [jmh,inB,hn,h2]
    simp only [go_sem,ja,h2,jrP hm (List.mem_of_getElem? he) hbe]
   ·have hbe:jmh n e=false:=by simp [jmh,inB,h1,h2]
    simp only [go_sem,ja,h2,hw];exact ⟨k+1,⟨hlt,jvt he hbe hko⟩,(jl [some 100] (by simp only [go_sem,ja]<;>and_intros<;>first|rfl|assumption|trivial)),by (try dsimp only);omega⟩
 have hlt':¬(k:Int)<p.edges.length:=by omega
 rw [List.take_of_length_le (by omega),←hn] at hko
 have hes:=jvO hko;simp only [go_sem,ja,hlt'];refine jq (fun i:Nat=>St.of [(1,Bx 100 b),(4,Ni i)] [(100,Bi b _ (ja p))]) (fun i=>i≤p.edges.length∧(p.edges.take i).Nodup) (fun i=>p.edges.length-i) 0 (by (try dsimp only);first|omega|(simp;done)|(and_intros<;>first|omega|simp)) (jl [some 100] (by simp only [go_sem,ja]<;>and_intros<;>first|rfl|assumption|trivial)) ?_
 rintro j ⟨hj,hjo⟩;by_cases hjl:j<p.edges.length
 ·have hjl':(j:Int)<p.edges.length:=by omega
  obtain ⟨e,he⟩:=je hjl;have hw:IntKind.i64.wrap ((j:Int)+1)=((j+1:Nat):Int):=jg (by omega) (by omega)
  simp only [go_sem,ja,hjl'];refine jq (fun i:Nat=>St.of [(1,Bx 100 b),(4,Ni j),(5,Ni i)] [(100,Bi b _ (ja p))]) (fun i=>i≤j∧e∉p.edges.take i) (fun i=>j-i) 0 (by (try dsimp only);first|omega|(simp;done)|(and_intros<;>first|omega|simp)) (jl [some 100] (by simp only [go_sem,ja]<;>and_intros<;>first|rfl|assumption|trivial)) ?_
  rintro m ⟨hm1,hmo⟩;by_cases hml:m<j
  ·have hml':(m:Int)<j:=by omega
   obtain ⟨e2,he2⟩:=je (show m<p.edges.length by omega)
   have hw2:IntKind.i64.wrap ((m:Int)+1)=((m+1:Nat):Int):=jg (by omega) (by omega)
   have hm3:m<p.edges.length:=by omega
   have hm3':(m:Int)<p.edges.length:=by omega
   by_cases heq:e=e2
   ·subst heq
    simp only [go_sem,ja,hml',hjl,hjl',hm3,hm3',jB he,jB he2,jW,jzd hm hko (ju1 he hml he2)]
   ·simp only [go_sem,ja,hml',hjl,hjl',hm3,hm3',jB he,jB he2,jW,heq,hw2]
    exact ⟨m+1,⟨hml,fun h'=>by rw [List.take_add_one,he2] at h';simp at h';rcases h' with h'|h';exact hmo h';exact heq h'⟩,(jl [some 100] (by simp only [go_sem,ja]<;>and_intros<;>first|rfl|assumption|trivial)),by (try dsimp only);omega⟩
  ·have hml':¬(m:Int)<j:=by omega
   obtain rfl:m=j:=by omega
   simp only [go_sem,ja,hml',hw];exact ⟨m+1,⟨hjl,jpI he hjo hmo⟩,(jl [some 100] (by simp only [go_sem,ja]<;>and_intros<;>first|rfl|assumption|trivial)),by (try dsimp only);omega⟩
 have hjl':¬(j:Int)<p.edges.length:=by omega
 rw [List.take_of_length_le (by omega)] at hjo
 simp only [go_sem,ja,hjl'];refine jq (fun i:Nat=>St.of [(1,Bx 100 b),(6,Ni i)] [(100,Bi b _ (ja p))]) (fun i=>i≤n∧∀t:Nat,t<i→¬Rc p.edges t t) (fun i=>n-i) 0 (by (try dsimp only);first|omega|(simp;done)|(and_intros<;>first|omega|simp)) (jl [some 100] (by simp only [go_sem,ja]<;>and_intros<;>first|rfl|assumption|trivial)) ?_
 rintro t ⟨ht,hto⟩;by_cases htl:t<n
 ·have htl':(t:Int)<n:=by omega
  have hw:IntKind.i64.wrap ((t:Int)+1)=((t+1:Nat):Int):=jg (by omega) (by omega)
  have hes':∀e∈p.edges,okE n e:=fun e he=>by have:=hes e he;rwa [hn,Int.toNat_natCast] at this
  simp only [go_sem,ja,hn,htl'];refine jb (jil p n hn hn12 hel hes' t htl) (by simp only [go_sem,ja,hn]) fun η=>?_
  simp only [go_sem,ja,hn];cases hr:rcB p.edges t t
  ·have hg:(jhC p.edges n t)[t]?=some false:=by rw [jlM htl,hr]
   simp only [go_sem,ja,htl,htl',jdY,jdt hg,jax (show t<(jhC p.edges n t).length by rw [jdY];exact htl),hw]
   exact ⟨t+1,⟨htl,fun s hs h'=>by rcases Nat.lt_or_ge s t with h2|h2;exact hto s h2 h';obtain rfl:s=t:=(by omega);rw [rcB_iff.2 h'] at hr;cases hr⟩,(jl [some 100] (by simp only [go_sem,ja]<;>and_intros<;>first|rfl|assumption|trivial)),by (try dsimp only);omega⟩
  ·have hg:(jhC p.edges n t)[t]?=some true:=by rw [jlM htl,hr]
   simp only [go_sem,ja,htl,htl',jdY,jdt hg,jax (show t<(jhC p.edges n t).length by rw [jdY];exact htl),hw,jze hm hko hjo (by rw [hn];exact htl') (rcB_iff.1 hr)]
 ·have htl':¬(t:Int)<n:=by omega
  simp only [go_sem,ja,hn,htl',jzc hm hko hjo (fun s hs=>hto s (by omega))]
end Go.Proofs.Ytmnpailnelmpiaa
