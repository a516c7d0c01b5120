/- Parts. -/
import Derived.Test.YtekegiiikglhbaaGreatQE7
import Derived.Test.YtekegiiikglhbaaGreatQRunP
set_option linter.all false
set_option maxHeartbeats 4000000
set_option maxRecDepth 100000
namespace Go.Proofs.YtekegiiikglhbaaGreat
open Go.RowKit Go.Sort
theorem jjd {α:Type} {enc:α->List D} {size:Nat} (hs:∀x,(enc x).length=size) (l:List α) (k:Nat) (v:α):k<l.length->kg (l.flatMap enc) (k*size) (enc v)=(l.set k v).flatMap enc:=by
 intro hk;have V:(l.flatMap enc).length=l.length*size:=jF hs l;have Y:(k+1)*size<=l.length*size:=aBY _ hk;rw [ja9 _ _ _ (by rw [hs,V,<-Nat.succ_mul];exact Y),hs]
 have e:l=l.take k++l[k]::l.drop (k+1):=by rw [<-aCN hk,aCO]
 have e2:l.set k v=l.take k++v::l.drop (k+1):=by rw [List.set_eq_take_append_cons_drop,if_pos hk]
 have h3:((l.take k).flatMap enc).length=k*size:=by rw [jF hs,aBA,aCW (by omega)]
 have h4:l.flatMap enc=(l.take k++l[k]::l.drop (k+1)).flatMap enc:=congrArg (List.flatMap enc) e;rw [aCB,aBI] at h4;rw [e2,h4,List.take_left' h3];simp only [aCB,aBI,aAZ]
 congr 2
 rw [<-aAZ,List.drop_left' (by rw [aBE,h3,hs])]
theorem jdJ {α:Type} {enc:α->List D} {size ty:Nat} (hs:∀x,(enc x).length=size) {l:List α} {k:Nat} (v:α) (hk:k<l.length):D.put [] (k*size) (enc v) (.sl size ty (l.flatMap enc))=.sl size ty ((l.set k v).flatMap enc):=by
 simp only [D.put,jjd hs l k v hk]
theorem vO {l:List Int} {k:Nat} (v:Int) (hk:k<l.length):D.put [] (k*1) [.val (.int .i64 v)] (jp l)=jp (l.set k v):=jdJ (enc:=λn=>[iv n]) (λ_=>rfl) v hk
abbrev jo0:TypeId:=4
def ki (l:List Bool):D:=.sl 1 jo0 (l.flatMap (λb=>[D.val (.bool b)]))
section
variable {P:Program} {β:Nat} {s:St}
theorem jgT (l:List Bool):(ki l).len=l.length:=qM (enc:=λb=>[D.val (.bool b)]) (λ_=>rfl) (by decide) _ _
theorem jbs {l:List Bool} {k:Nat} {x:Bool} (h:l[k]?=some x):(ki l).elem k=[D.val (.bool x)]:=qc (enc:=λb=>[D.val (.bool b)]) (λ_=>rfl) h
theorem jhE (l:List Bool):(ki l).isSl=true:=(rfl)
theorem jhA (l:List Bool):(ki l).size=1:=(rfl)
theorem jgK (l:List Bool) (g:Nat) (η:jl):(ki l).obj g η=[(g,.loose (ki l) η)]:=(rfl)
theorem jgH (l:List Bool) (g c:Nat) (p:List Nat) (η:jl):(ki l).toOwn g c p η=.h g c p (η p):=(rfl)
theorem je4 (l:List Bool):(ki l).cells=l.flatMap (λb=>[D.val (.bool b)]):=(rfl)
theorem ja2 {l:List Bool} {k:Nat} {x:Bool} (h:l[k]?=some x):((l.flatMap (λb=>[D.val (.bool b)])).drop (k*1)).take 1=[D.val (.bool x)]:=jbs h
theorem vP {l:List Bool} {k:Nat} (h:k<l.length):k*1+1<=(l.flatMap (λb=>[D.val (.bool b)])).length:=by rw [jF (enc:=λb=>[D.val (.bool b)]) (size:=1) (λ_=>rfl)];omega
theorem jgu {l:List Bool} {k:Nat} (v:Bool) (hk:k<l.length):D.put [] (k*1) [D.val (.bool v)] (ki l)=ki (l.set k v):=jdJ (enc:=λb=>[D.val (.bool b)]) (λ_=>rfl) v hk
attribute [go_sem] jgT jhE jhA jgK jgH je4
theorem jaq (l:List Bool):jT (l.flatMap (λb=>[D.val (.bool b)]))=true:=by
 induction l with
 |nil=>rfl
 |cons x l ih=>rw [aBI,qd,ih];rfl
attribute [go_sem] jaq
end
theorem jac:∀{l:List D} (a b:Nat),jT l=true->jT ((l.drop a).take b)=true
 |[],a,b,_=>by simp [jT]
 |.sl _ _ _::l,a,b,h=>by simp [jT] at h
 |.val u::l,0,0,_=>rfl
 |.val u::l,0,b+1,h=>by
  simp only [jT,aBH] at h;simp only [List.drop_zero,List.take_succ_cons,jT,h.1,Bool.true_and];exact jac (l:=l) 0 b h.2
 |.val u::l,a+1,b,h=>by
  simp only [jT,aBH] at h;exact jac (l:=l) a b h.2
theorem jid (l:List Int) (a b:Nat):jT (((l.flatMap (λn=>[iv n])).drop a).take b)=true:=jac a b (jbp l)
attribute [go_sem] jid
theorem jha (l:List Bool) (a b:Nat):jT (((l.flatMap (λb=>[D.val (.bool b)])).drop a).take b)=true:=jac a b (jaq l)
attribute [go_sem] jha
theorem jpP (n:Nat):D.sl 1 jmV (List.replicate n [D.val (.int .i64 0)]).flatten=jp (List.replicate n 0):=by simp [jp,List.flatMap,iv]
theorem jnO (n:Nat):D.sl 1 jo0 (List.replicate n [D.val (.bool false)]).flatten=ki (List.replicate n false):=by simp [ki,List.flatMap]
theorem jhd {α:Type} {enc:α->List D} {size:Nat} (hs:∀x,(enc x).length=size):∀(l:List α) (k:Nat),(l.flatMap enc).drop (k*size)=(l.drop k).flatMap enc
 |[],k=>by simp
 |x::l,0=>by simp
 |x::l,k+1=>by
  rw [aBI,List.drop_succ_cons,<-jhd hs l k,Nat.succ_mul,Nat.add_comm,<-List.drop_drop,List.drop_left' (hs x)]
theorem jgi {α:Type} {enc:α->List D} {size:Nat} (hs:∀x,(enc x).length=size):∀(l:List α) (k:Nat),(l.flatMap enc).take (k*size)=(l.take k).flatMap enc
 |[],k=>by simp
 |x::l,0=>by simp
 |x::l,k+1=>by
  rw [aBI,List.take_succ_cons,aBI,<-jgi hs l k,Nat.succ_mul,Nat.add_comm,List.take_append,hs,aCM,aAW (by rw [hs];omega)]
theorem jm2 {α:Type} {enc:α->List D} {size ty:Nat} (hs:∀x,(enc x).length=size) (l:List α) (a b:Nat):(D.sl size ty (l.flatMap enc)).sub a b=.sl size ty (((l.drop a).take (b-a)).flatMap enc):=by
 simp only [D.sub,jhd hs,jgi hs]
theorem ji7 (l:List Ed) (a b:Nat):(jL l).sub a b=jL ((l.drop a).take (b-a)):=jm2 (enc:=jy) (λ_=>rfl) l a b
attribute [go_sem] Nat.zero_le ji7 Nat.sub_zero List.drop_zero
def jaR {α:Type} (f:α->Bool):List α->Int
 |[]=>-1
 |x::l=>if f x then 0 else match jaR f l with
  |.ofNat k=>.ofNat (k+1)
  |.negSucc k=>.negSucc k
theorem qS {α:Type} {f:α->Bool}:∀{l:List α},(∀y∈l,f y=false)->jaR f l=-1
 |[],_=>rfl
 |x::l,h=>by rw [jaR,h x (by simp),qS λy hy=>h y (by simp [hy])];rfl
theorem vC {α:Type} {f:α->Bool}:∀{l:List α} {k:Nat} {x:α},l[k]?=some x->f x=true->(∀y∈l.take k,f y=false)->jaR f l=k
 |[],_,_,h,_,_=>by simp at h
 |a::l,0,x,h,hx,_=>by simp at h;subst h;rw [jaR,hx];rfl
 |a::l,k+1,x,h,hx,hn=>by
  rw [jaR,hn a (by simp),vC (k:=k) (by simpa using h) hx λy hy=>hn y (by simp [hy])];rfl
theorem vS {α:Type} (f:α->Bool) (l:List α):(jaR f l=-1/\∀y∈l,f y=false)\/∃k x,jaR f l=((k:Nat):Int)/\l[k]?=some x/\f x=true/\∀y∈l.take k,f y=false:=by
 induction l with
 |nil=>exact .inl ⟨rfl,by simp⟩
 |cons a l ih=>
  cases ha:f a with
  |true=>exact .inr ⟨0,a,by rw [jaR,ha];rfl,rfl,ha,by simp⟩
  |false=>
   rcases ih with ⟨V,Y⟩|⟨k,x,V,Y,h3,h4⟩
   ·exact .inl ⟨qS (λy hy=>by rcases aBB.1 hy with rfl|hy<;>simp_all),λy hy=>by rcases aBB.1 hy with rfl|hy<;>simp_all⟩
   ·have h5:(a::l)[k+1]?=some x:=by simpa using Y
    have h6:∀y∈(a::l).take (k+1),f y=false:=λy hy=>by
     rw [List.take_succ_cons] at hy;rcases aBB.1 hy with rfl|hy
     ·exact ha
     ·exact h4 y hy
    exact .inr ⟨k+1,x,vC h5 h3 h6,h5,h3,h6⟩
theorem jfu {α:Type} {f:α->Bool} {l:List α} {k:Nat} {x:α} (h:l[k]?=some x) (hx:f x=false) (hn:∀y∈l.take k,f y=false):∀y∈l.take (k+1),f y=false:=by
 intro y hy;rw [aAX,h] at hy;rcases aAS.1 hy with hy|hy
 ·exact hn y hy
 ·simp at hy;subst hy;exact hx
theorem vz (l:List Int) (a:Int):D.sl 1 jmV (l.flatMap (λn=>[iv n])++[.val (.int .i64 a)])=jp (l++[a]):=by simp [jp]
theorem jnW (a:Int):D.sl 1 jmV [.val (.int .i64 a)]=jp [a]:=by simp [jp]
theorem jgk (p:List Nat) (k n:Nat) (η:jl) (K:jl->Prop):stH true p k n η K=K η:=(rfl)
attribute [go_sem] jgk jqV
structure Fl where
 name:ByteArray
 data:ByteArray
 safe:Int
 deriving DecidableEq,Inhabited
structure Wt where
 call:Int
 code:Int
 run:Int
 aAI:Int
 tri:Int
 deriving DecidableEq,Inhabited
abbrev sv (b:ByteArray):D:=.val (.string b)
def jv (x:Fl):List D:=[sv x.name,sv x.data,iv x.safe]
def jQ (x:Wt):List D:=[iv x.call,iv x.code,iv x.run,iv x.aAI,iv x.tri]
abbrev tFl:TypeId:=80
def jm (l:List Fl):D:=.sl 3 tFl (l.flatMap (jv))
section
variable {P:Program} {β:Nat} {s:St}
theorem jjR (l:List Fl):(jm l).len=l.length:=qM (enc:=jv) (λ_=>rfl) (by decide) _ _
theorem jj {l:List Fl} {k:Nat} {x:Fl} (h:l[k]?=some x):(jm l).elem k=jv x:=qc (enc:=jv) (λ_=>rfl) h
theorem jkR (l:List Fl):(jm l).isSl=true:=(rfl)
theorem jkB (l:List Fl):(jm l).size=3:=(rfl)
theorem jlf (l:List Fl):(jm l).toRo=.ro (jm l):=(rfl)
theorem jjD (l:List Fl) (g:Nat) (η:jl):(jm l).obj g η=[(g,.loose (jm l) η)]:=(rfl)
theorem jjw (l:List Fl) (g c:Nat) (p:List Nat) (η:jl):(jm l).toOwn g c p η=.h g c p (η p):=(rfl)
theorem jhh (l:List Fl):(jm l).cells=l.flatMap (jv):=(rfl)
theorem jep (l:List Fl):D.sl 3 tFl (l.flatMap (jv))=jm l:=rfl
theorem jj7 (l:List Fl):(l.flatMap (jv)).length/3=l.length:=by rw [jF (enc:=jv) (size:=3) (λ_=>rfl)];exact aBP _ (by decide)
theorem qY {l:List Fl} {k:Nat} (h:k<l.length):k*3+3<=(l.flatMap (jv)).length:=by rw [jF (enc:=jv) (size:=3) (λ_=>rfl)];omega
theorem jjl {l:List Fl} {k:Nat} (v:Fl) (hk:k<l.length):D.put [] (k*3) (jv v) (jm l)=jm (l.set k v):=jdJ (enc:=jv) (λ_=>rfl) v hk
theorem jcW (l:List Fl):jT (l.flatMap (jv))=true:=by
 induction l with
 |nil=>rfl
 |cons x l ih=>rw [aBI,qd,ih];rfl
theorem jj2 (l:List Fl) (a b:Nat):jT (((l.flatMap (jv)).drop a).take b)=true:=jac a b (jcW l)
attribute [go_sem] jj2 jjR jkR jkB jlf jjD jjw jhh jj7 jcW
end
abbrev tWt:TypeId:=67
def jn (l:List Wt):D:=.sl 5 tWt (l.flatMap (jQ))
section
variable {P:Program} {β:Nat} {s:St}
theorem jjO (l:List Wt):(jn l).len=l.length:=qM (enc:=jQ) (λ_=>rfl) (by decide) _ _
theorem jz {l:List Wt} {k:Nat} {x:Wt} (h:l[k]?=some x):(jn l).elem k=jQ x:=qc (enc:=jQ) (λ_=>rfl) h
theorem jkO (l:List Wt):(jn l).isSl=true:=(rfl)
theorem jky (l:List Wt):(jn l).size=5:=(rfl)
theorem jlc (l:List Wt):(jn l).toRo=.ro (jn l):=(rfl)
theorem jjA (l:List Wt) (g:Nat) (η:jl):(jn l).obj g η=[(g,.loose (jn l) η)]:=(rfl)
theorem jjt (l:List Wt) (g c:Nat) (p:List Nat) (η:jl):(jn l).toOwn g c p η=.h g c p (η p):=(rfl)
theorem jhe (l:List Wt):(jn l).cells=l.flatMap (jQ):=(rfl)
theorem vc (l:List Wt):D.sl 5 tWt (l.flatMap (jQ))=jn l:=rfl
theorem jj4 (l:List Wt):(l.flatMap (jQ)).length/5=l.length:=by rw [jF (enc:=jQ) (size:=5) (λ_=>rfl)];exact aBP _ (by decide)
theorem jh3 (l:List Cell) (ds:List D):IsD (.a (.v (.slice none 0 0))::l) (jn []::ds)=IsD l ds:=jfS l _ _ ds
theorem jgZ {l:List Wt} {k:Nat} (h:k<l.length):k*5+5<=(l.flatMap (jQ)).length:=by rw [jF (enc:=jQ) (size:=5) (λ_=>rfl)];omega
theorem jjk {l:List Wt} {k:Nat} (v:Wt) (hk:k<l.length):D.put [] (k*5) (jQ v) (jn l)=jn (l.set k v):=jdJ (enc:=jQ) (λ_=>rfl) v hk
theorem jcV (l:List Wt):jT (l.flatMap (jQ))=true:=by
 induction l with
 |nil=>rfl
 |cons x l ih=>rw [aBI,qd,ih];rfl
theorem jj1 (l:List Wt) (a b:Nat):jT (((l.flatMap (jQ)).drop a).take b)=true:=jac a b (jcV l)
attribute [go_sem] jj1 jjO jkO jky jlc jjA jjt jhe jj4 jh3 jcV
end
theorem jr7 (n:Nat):D.sl 3 tFl (List.replicate n [D.val (.string ⟨#[]⟩),D.val (.string ⟨#[]⟩),D.val (.int .i64 0)]).flatten=jm (List.replicate n ⟨⟨#[]⟩,⟨#[]⟩,0⟩):=by simp [jm,List.flatMap,jv,iv,sv]
theorem jr6 (n:Nat):D.sl 5 tWt (List.replicate n [D.val (.int .i64 0),D.val (.int .i64 0),D.val (.int .i64 0),D.val (.int .i64 0),D.val (.int .i64 0)]).flatten=jn (List.replicate n ⟨0,0,0,0,0⟩):=by simp [jn,List.flatMap,jQ,iv]
theorem jpC {l:List Fl} {k:Nat} (a b:ByteArray) (c:Int) (hk:k<l.length):D.put [] (k*3) [.val (.string a),.val (.string b),.val (.int .i64 c)] (jm l)=jm (l.set k ⟨a,b,c⟩):=jjl ⟨a,b,c⟩ hk
theorem jpw {l:List Wt} {k:Nat} (a b c d e:Int) (hk:k<l.length):D.put [] (k*5) [.val (.int .i64 a),.val (.int .i64 b),.val (.int .i64 c),.val (.int .i64 d),.val (.int .i64 e)] (jn l)=jn (l.set k ⟨a,b,c,d,e⟩):=jjk ⟨a,b,c,d,e⟩ hk
structure Eg where
 yard:Yd
 disk:List Fl
 next:Int
 calls:Int
 waits:List Wt
 aAD:Int
 broken:Bool
def jh (x:Eg):List D:=[iv x.yard.now,iv x.yard.seq,jX x.yard.aAE,jC x.yard.aAG,jm x.disk,iv x.next,iv x.calls,jn x.waits,iv x.aAD,.val (.bool x.broken)]
abbrev tEg:TypeId:=42
def zj (x:Fl):Nat:=x.name.size+x.data.size
def kW (l:List Fl):Nat:=l.length+jP zj l
def jft (x:Eg):Nat:=jG x.yard+kW x.disk+x.waits.length
def zg:C:=iS [aO 2 false] (iS [aM 3 0,aM 4 0,aP 5 .neq 3 3 4,aM 2 5] .ret)
theorem ja1:fnC Tryz.prog Tryz.f158=some (zg,[.t 2],6):=by kernel_rfl
def zT:C:=iS [aO 4 false] (iS [aM 5 0,iA 6 (iK 158 [5]),aM 7 6,iB 8 7 true (iM 1),iB 9 7 true (iK 158 [8]),iB 10 7 true (iU 9),iA 11 (iY 7 (.t 10) (oF)),aM 12 11,iB 13 12 false (iM 0),iB 14 12 false (iM 1),iB 15 12 false (iP .lss 3 13 14),iA 16 (iY 12 (oT) (.t 15)),aM 4 16] .ret)
theorem jbM:fnC Tryz.prog Tryz.f148=some (zT,[.t 4],17):=by kernel_rfl
def kf:C:=iS [aM 8 1,aQ 9 .add 3 8 1,aM 6 9] (.blk 0 (.loop (.seq (iS [aM 10 6,aM 11 2,aP 12 .lss 3 10 11] (iD 12 .skip (.exit 0))) (.seq (.blk 1 (iS [aM 15 6,aM 7 15] (.blk 2 (.loop (.seq (.seq (.dreg (tA 0 16 (iM 7) (tA 1 17 (iM 1) (tA 2 18 (iP .gtr 3 16 17) (tA 3 19 (iM 18) (tB 4 20 19 true (iM 0) (tB 5 21 19 true (iM 7) (tB 6 22 19 true (iI 1 20 21) (tB 7 23 19 true (iL 22) (tB 8 24 19 true (iM 0) (tB 9 25 19 true (iM 7) (tB 10 26 19 true (iQ .sub 3 25 1) (tB 11 27 19 true (iI 1 24 26) (tB 12 28 19 true (iL 27) (.alt (iB 29 19 true (iK 148 [23,28])) [] (tA 14 30 (iY 19 (.t 29) (oF)) .done) .stop))))))))))))))) (iD 30 .skip (.exit 2))) (.seq (.blk 3 (.dreg (tA 0 33 (iM 0) (tA 1 34 (iM 7) (tA 2 35 (iM 0) (tA 3 36 (iM 7) (tA 4 37 (iQ .sub 3 36 1) (tA 5 38 (iM 0) (tA 6 39 (iM 7) (tA 7 40 (iQ .sub 3 39 1) (tA 8 41 (iI 1 38 40) (tA 9 42 (iL 41) (tA 10 43 (iM 0) (tA 11 44 (iM 7) (tA 12 45 (iI 1 43 44) (tA 13 46 (iL 45) (tA 14 47 (iI 1 33 34) (.alt (wAA 47 42) [4,3,2] (tA 16 48 (iI 1 35 37) (.alt (wAA 48 46) [] .done .stop)) .stop)))))))))))))))))) (.reg [aM 31 7,aQ 32 .sub 3 31 1,aM 7 32]))))))) (.reg [aM 13 6,aQ 14 .add 3 13 1,aM 6 14])))))
theorem kM:fnC Tryz.prog Tryz.f142=some (kf,[],49):=by kernel_rfl
def kA:C:=iS [aO 8 true] (iS [aO 9 true] (.blk 0 (.loop (.blk 1 (iS [aM 19 2,aM 20 1,aP 21 .sub 3 19 20,aM 10 21] (.seq (iS [aM 22 10,aQ 23 .leq 3 22 12] (iD 23 (iS [aM 24 0,aM 25 1,aM 26 2,iA 27 (iK 142 [24,25,26])] .ret) .skip)) (.seq (iS [aM 28 3,aQ 29 .eql 3 28 0] (iD 29 (iS [aM 30 0,aM 31 1,aM 32 2,iA 33 (iK 143 [30,31,32])] .ret) .skip)) (.seq (iS [aM 34 8,aU 35 34] (iD 35 (iS [aM 36 0,aM 37 1,aM 38 2,iA 39 (iK 144 [36,37,38])] (.reg [aM 40 3,aQ 41 .sub 3 40 1,aM 3 41])) .skip)) (iS [aM 43 0,aM 44 1,aM 45 2,iA 46 (iK 145 [43,44,45]),aM 42 46,aE 47 42 0,aE 48 42 1,aM 11 47,aM 12 48] (.seq (iS [aM 49 12,aQ 50 .eql 182 49 2] (iD 50 (iS [aM 51 0,aM 52 1,aM 53 2,iA 54 (iK 146 [51,52,53])] (iS [aM 55 2,aQ 56 .sub 3 55 1,aM 57 11,aM 58 1,aP 59 .sub 3 57 58,aP 60 .sub 3 56 59,aM 11 60] (.reg [aN 12 1]))) .skip)) (.seq (iS [aM 61 8,aM 62 61,iB 63 62 true (iM 9),iA 64 (iY 62 (.t 63) (oF)),aM 65 64,iB 66 65 true (iM 12),iB 67 65 true (iQ .eql 182 66 1),iA 68 (iY 65 (.t 67) (oF))] (iD 68 (iS [aM 69 0,aM 70 1,aM 71 2,iA 72 (iK 147 [69,70,71])] (iD 72 .ret .skip)) .skip)) (.seq (.seq (.dreg (tA 0 73 (iM 1) (tA 1 74 (iQ .gtr 3 73 0) (tA 2 75 (iM 74) (tB 3 76 75 true (iM 0) (tB 4 77 75 true (iM 1) (tB 5 78 75 true (iQ .sub 3 77 1) (tB 6 79 75 true (iI 1 76 78) (tB 7 80 75 true (iL 79) (tB 8 81 75 true (iM 0) (tB 9 82 75 true (iM 11) (tB 10 83 75 true (iI 1 81 82) (tB 11 84 75 true (iL 83) (.alt (iB 85 75 true (iK 148 [80,84])) [] (tB 13 86 75 true (iU 85) (tA 14 87 (iY 75 (.t 86) (oF)) .done)) .stop)))))))))))))) (iD 87 (iS [aM 88 0,aM 89 1,aM 90 2,aM 91 11,iA 92 (iK 149 [88,89,90,91]),aM 13 92] (iS [aM 93 13,aM 1 93] (.exit 1))) .skip)) (iS [aM 95 0,aM 96 1,aM 97 2,aM 98 11,iA 99 (iK 150 [95,96,97,98]),aM 94 99,aE 100 94 0,aE 101 94 1,aM 14 100,aM 15 101] (iS [aM 102 15,aM 9 102] (iS [aM 103 14,aM 104 1,aP 105 .sub 3 103 104,aM 106 2,aM 107 14,aP 108 .sub 3 106 107,aM 16 105,aM 17 108] (iS [aM 109 10,aQ 110 .quo 3 109 8,aM 18 110] (iS [aM 111 16,aM 112 17,aP 113 .lss 3 111 112] (iD 113 (iS [aM 114 16,aM 115 18,aP 116 .geq 3 114 115,aM 8 116] (iS [aM 117 0,aM 118 1,aM 119 14,aM 120 3,iA 121 (iK 140 [117,118,119,120])] (.reg [aM 122 14,aQ 123 .add 3 122 1,aM 1 123]))) (iS [aM 124 17,aM 125 18,aP 126 .geq 3 124 125,aM 8 126] (iS [aM 127 0,aM 128 14,aQ 129 .add 3 128 1,aM 130 2,aM 131 3,iA 132 (iK 140 [127,129,130,131])] (.reg [aM 133 14,aM 2 133])))))))))))))))))))))
theorem qq:fnC Tryz.prog Tryz.f140=some (kA,[],134):=by kernel_rfl
def qn:C:=iS [aM 3 0,aG 4 3,aM 2 4] (.reg [aM 5 0,aM 6 2,aM 7 2,iA 8 (.cv (.num .u64) 0 (.t 7)),iA 9 (iK 141 [8]),iA 10 (.call 140 [.t 5,oI 0,.t 6,.t 9])])
theorem vp:fnC Tryz.prog Tryz.f139=some (qn,[],11):=by kernel_rfl
def zE:C:=iS [aN 2 0] (.seq (.cond (oF) (iS [aM 3 0,iA 4 (.cv (.num .u32) 0 (.t 3)),iA 5 (iK 151 [4]),aM 2 5] .ret) .skip) (iS [aM 6 0,iA 7 (iK 152 [6]),aM 2 7] .ret))
theorem jby:fnC Tryz.prog Tryz.f141=some (zE,[.t 2],8):=by kernel_rfl
def jsa:ByteArray:=⟨(([0,1]:List UInt8)++List.replicate 2 2++List.replicate 4 3++List.replicate 8 4++List.replicate 16 5++List.replicate 32 6++List.replicate 64 7++List.replicate 128 8).toArray⟩
def vG:C:=iS [aN 2 0] (.seq (iS [aM 3 0,iA 4 (.bin .geq 193 (.t 3) (.c (.int .u64 4294967296)))] (iD 4 (iS [aM 5 0,iA 6 (.bin .shr 193 (.t 5) (.c (.int .u64 32))),aM 0 6] (.reg [aN 2 32])) .skip)) (.seq (iS [aM 7 0,iA 8 (.bin .geq 193 (.t 7) (.c (.int .u64 65536)))] (iD 8 (iS [aM 9 0,iA 10 (.bin .shr 193 (.t 9) (.c (.int .u64 16))),aM 0 10] (.reg [aM 11 2,aQ 12 .add 3 11 16,aM 2 12])) .skip)) (.seq (iS [aM 13 0,iA 14 (.bin .geq 193 (.t 13) (.c (.int .u64 256)))] (iD 14 (iS [aM 15 0,iA 16 (.bin .shr 193 (.t 15) (.c (.int .u64 8))),aM 0 16] (.reg [aM 17 2,aQ 18 .add 3 17 8,aM 2 18])) .skip)) (iS [aM 19 2,aM 20 0,iA 21 (.cv (.num .u8) 0 (.t 20)),iA 22 (.sidx (.c (.string jsa)) (.t 21)),iA 23 (.cv (.num .i64) 0 (.t 22)),aP 24 .add 3 19 23,aM 2 24] .ret))))
theorem jai:fnC Tryz.prog Tryz.f152=some (vG,[.t 2],25):=by kernel_rfl
theorem jpH (a:Int):jR Tryz.prog 158 [.c (.val (.int .i64 a))] (.c (.val (.bool false))):=by
 refine pf_ ja1 ?_;unfold zg;simp only [go_sem,aBG]
theorem jrT (a b:Int):jR Tryz.prog 148 [.c (.val (.int .i64 a)),.c (.val (.int .i64 b))] (.c (.val (.bool (decide (a<b))))):=by
 refine pf_ jbM ?_;unfold zT;simp only [go_sem];refine kt (jpH a) λη=>?_
 simp only [go_sem]
def up1 (o:Nat->Ob) (g:Nat) (ob:Ob):Nat->Ob:=λk=>if k=g then ob else o k
theorem jkt (o:Nat->Ob) (g:Nat) (ob:Ob):up1 o g ob g=ob:=by simp [up1]
theorem joW (o:Nat->Ob) (g:Nat) (a b:Ob):(λk=>if k=g then b else up1 o g a k)=up1 o g b:=by funext k;simp only [up1];split<;>rfl
theorem jqQ {o:Nat->Ob} {g:Nat} {ob:Ob} (h:o g=ob):o=up1 o g ob:=by
 funext k
 simp only [up1];split
 ·rename_i e;rw [e,h]
 ·rfl
theorem jna (s:St) (g:Nat) (ob:Ob):(s.setO g ob).o=up1 s.o g ob:=rfl
theorem up1_2 (o:Nat->Ob) (g:Nat) (a b:Ob):up1 (up1 o g a) g b=up1 o g b:=joW o g a b
theorem jrN (s:St) (d:Option Nat) (v:AV):(s.put d v).o=s.o:=by cases d<;>rfl
theorem jjW (A:List Int) (hA:A.length<=12) (o:Nat->Ob) (g:Nat) (η:jl) (ho:o g=.loose (jp A) η):Inl Tryz.prog 142 [Hd g η,Ni 0,Ni A.length] o (λav o'=>av=.tup []/\∃(l:List Int) (i:Nat),o'=up1 o g (.loose (jp l) η)/\SO A l i/\A.length<=i):=by
 refine jiF (β:=0) Tryz.func142 kM (by simp) ?_
 unfold kf;simp only [go_sem];refine ja5 (λs=>∃(l:List Int) (i:Nat),1<=i/\(i<=A.length\/i=1)/\SO A l i/\s.t 0=Hd g η/\s.t 1=Ni 0/\s.t 2=Ni A.length/\s.t 6=Ni i/\s.o=up1 o g (.loose (jp l) η)) (λs=>A.length-s.n 6) ?_ ?_
 ·exact ⟨A,1,by omega,.inr rfl,SO_1 A,by simp only [go_sem]<;>rfl,by simp only [go_sem]<;>rfl,by simp only [go_sem]<;>rfl,by simp only [go_sem]<;>rfl,jqQ ho⟩
 ·rintro s ⟨l,i,hi,sR,p9,h0,V,Y,h6,bL⟩
  have hm:s.n 6=i:=jkK h6;rw [hm];by_cases aC:i<A.length
  ·have aA:(i:Int)<A.length:=by omega
   have hw:=qg i;have oU:=p9.1.length_eq;simp only [go_sem,h0,V,Y,h6,bL,aA];refine ja5 (λs=>∃(l:List Int) (j:Nat),SI A l i j/\s.t 0=Hd g η/\s.t 1=Ni 0/\s.t 2=Ni A.length/\s.t 6=Ni i/\s.t 7=Ni j/\s.o=up1 o g (.loose (jp l) η)) (λs=>s.n 7) ?_ ?_
   ·exact ⟨l,i,SI_0 p9,by simp only [go_sem,h0,V,Y,h6,bL]<;>rfl,by simp only [go_sem,h0,V,Y,h6,bL]<;>rfl,by simp only [go_sem,h0,V,Y,h6,bL]<;>rfl,by simp only [go_sem,h0,V,Y,h6,bL]<;>rfl,by simp only [go_sem,h0,V,Y,h6,bL]<;>rfl,bL⟩
   ·clear h0 V Y h6 bL p9 oU hm
    rintro s ⟨l,j,n4,h0,V,Y,h6,h7,bL⟩;have oU:=n4.1.length_eq;have hY:=n4.2.1;have hm:s.n 7=j:=jkK h7;rw [hm];cases j with
    |zero=>
     simp only [go_sem,h0,V,Y,h6,h7,bL,hw];refine ⟨⟨l,i+1,by omega,.inl (by omega),joP n4 (.inl rfl),rfl,?_⟩,?_⟩
     ·exact bL
     ·rw [jkK (k:=.i64) (n:=((i+1:Nat):Int)) (by simp only [go_sem])];omega
    |succ j=>
     have o0:((j+1:Nat):Int)>0:=by omega
     have dX:IntKind.i64.wrap (((j+1:Nat):Int)-1)=(j:Int):=by rw [kh (by omega) (by omega)];omega
     have c8:l[j+1]?=some (l.getD (j+1) 0):=by rw [aBF,aAT (by omega)];rfl
     have pA:l[j]?=some (l.getD j 0):=by rw [aBF,aAT (by omega)];rfl
     have hZ:j+1<l.length:=by omega
     have mI:j<l.length:=by omega
     simp only [go_sem,h0,V,Y,h6,h7,bL,o0,dX,jf c8,jf pA,jkt,hZ,mI,je hZ,je mI];refine jg (jrT (l.getD (j+1) 0) (l.getD j 0)) (by simp only [go_sem,h0,V,Y,h6,h7,bL,o0,dX]) λη=>?_
     simp only [go_sem,h0,V,Y,h6,h7,bL,o0,dX];by_cases hc:l.getD (j+1) 0<l.getD j 0
     ·have n8:j<(l.set (j+1) (l.getD j 0)).length:=by rw [aCL];exact mI
      have bG:(l.set (j+1) (l.getD j 0)).set j (l.getD (j+1) 0)=swp l j:=rfl;simp only [go_sem,h0,V,Y,h6,h7,bL,o0,dX,hc,jf c8,jf pA,jkt,hZ,mI,je hZ,je mI,vO _ hZ,vO _ n8,je n8,n8,bG];refine ⟨⟨swp l j,j,jsO n4 (by omega) hc,?_⟩,?_⟩
      ·refine ⟨rfl,?_⟩
       simp only [jrN,jna,bL,up1_2]
      ·rw [jkK (k:=.i64) (n:=((j:Nat):Int)) (by simp only [go_sem])];omega
     ·simp only [go_sem,h0,V,Y,h6,h7,bL,o0,hw,hc]
      refine ⟨⟨l,i+1,by omega,.inl (by omega),joP n4 (.inr ⟨j,rfl,by omega⟩),rfl,?_⟩,?_⟩
      ·exact bL
      ·rw [jkK (k:=.i64) (n:=((i+1:Nat):Int)) (by simp only [go_sem])];omega
  ·have aA:¬(i:Int)<A.length:=by omega
   simp only [go_sem,h0,V,Y,h6,bL,aA];exact ⟨l,i,bL,p9,by omega⟩
theorem jfT {P:Program} {f:FuncId} {args:List AV} {o:Nat->Ob} {R R':AV->(Nat->Ob)->Prop} (h:Inl P f args o R) (hR:∀av o',R av o'->R' av o'):Inl P f args o R':=
 ⟨h.1,λB w F xs V Y=>(h.2 B w F xs V Y).mono λe w' ⟨v,av,o',F',k1,k2,k3,k4⟩=>⟨v,av,o',F',k1,k2,k3,hR _ _ k4⟩⟩
theorem wp_cf {P:Program} {β:Nat} {s:St} {Q:Ex->St->Prop} {a b:C}:wpC P β (.cond (.c (.bool false)) a b) Q s=wpC P β b Q s:=by
 apply propext
 constructor
 ·rintro ⟨t,V,Y,h3⟩
  have:t=false:=by cases t<;>first|rfl|cases V
  exact h3 this
 ·exact λh=>⟨false,rfl,λh'=>(by cases h'),λ_=>h⟩
def lenB (n:Nat):Int:=[0,1,2,2,3,3,3,3,4,4,4,4,4].getD n 0
theorem jhN (n:Nat) (hn:n<=12):jR Tryz.prog 152 [.c (.val (.int .u64 n))] (.c (.val (.int .i64 (lenB n)))):=by
 refine pf_ jai ?_;have:n=0\/n=1\/n=2\/n=3\/n=4\/n=5\/n=6\/n=7\/n=8\/n=9\/n=10\/n=11\/n=12:=by omega
 unfold vG;rcases this with rfl|rfl|rfl|rfl|rfl|rfl|rfl|rfl|rfl|rfl|rfl|rfl|rfl
 all_goals
  simp only [go_sem];exact ⟨_,rfl,rfl⟩
theorem jlD (n:Nat) (hn:n<=12):jR Tryz.prog 141 [.c (.val (.int .u64 n))] (.c (.val (.int .i64 (lenB n)))):=by
 refine pf_ jby ?_;unfold zE;simp only [go_sem,wp_cf];refine kt (jhN n hn) λη=>?_
 simp only [go_sem]
theorem jp8 (A:List Int) (hA:A.length<=12) (o:Nat->Ob) (g:Nat) (η:jl) (ho:o g=.loose (jp A) η) (v:Int):Inl Tryz.prog 140 [Hd g η,Ni 0,Ni A.length,Ni v] o (λav o'=>av=.tup []/\∃(l:List Int) (i:Nat),o'=up1 o g (.loose (jp l) η)/\SO A l i/\A.length<=i):=by
 refine jiF (β:=0) Tryz.func140 qq (by simp) ?_
 unfold kA;have dN:(A.length:Int)<=12:=by omega
 have hw:IntKind.i64.wrap ((A.length:Int)-0)=(A.length:Int):=by rw [Int.sub_zero];exact kh (by omega) (by omega)
 simp only [go_sem];refine jkl 0 ?_;simp only [go_sem,hw,dN];refine jfy (jfT (jjW A hA o g η ho) ?_);rintro av o' ⟨rfl,l,i,rfl,V,Y⟩;exact ⟨l,i,rfl,V,Y⟩
theorem jnY (A:List Int) (hA:A.length<=12) (o:Nat->Ob) (g:Nat) (η:jl) (ho:o g=.loose (jp A) η):Inl Tryz.prog 139 [Hd g η] o (λav o'=>av=.tup []/\∃(l:List Int) (i:Nat),o'=up1 o g (.loose (jp l) η)/\SO A l i/\A.length<=i):=by
 refine jiF (β:=0) Tryz.func139 vp (by simp) ?_
 unfold qn;have hw:IntKind.u64.wrap (A.length:Int)=(A.length:Int):=by generalize A.length=n at hA;have:n=0\/n=1\/n=2\/n=3\/n=4\/n=5\/n=6\/n=7\/n=8\/n=9\/n=10\/n=11\/n=12:=(by omega);rcases this with rfl|rfl|rfl|rfl|rfl|rfl|rfl|rfl|rfl|rfl|rfl|rfl|rfl<;>rfl
 simp only [go_sem,ho,hw];refine kt (jlD A.length hA) λbC=>?_
 simp only [go_sem];refine jfy (jfT (jp8 A hA _ g η (by simp only [go_sem,ho]) (lenB A.length)) ?_)
 rintro av o' ⟨rfl,l,i,rfl,V,Y⟩;exact ⟨l,i,rfl,V,Y⟩
