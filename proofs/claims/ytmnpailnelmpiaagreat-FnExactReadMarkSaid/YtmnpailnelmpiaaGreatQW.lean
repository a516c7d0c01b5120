/- Parts. -/
import Derived.Test.YtmnpailnelmpiaaGreatQDeedB
import Derived.Test.YtmnpailnelmpiaaGreatQRunP
import Derived.Laws.Strings
set_option linter.unusedSimpArgs false
set_option linter.unusedVariables false
set_option maxHeartbeats 4000000
set_option maxRecDepth 100000
namespace Go.Proofs.YtmnpailnelmpiaaGreat
open Go.RowKit Go.Sort
theorem jtc {α:Type} {enc:α→List D} {size:Nat} (hs:∀x,(enc x).length=size) (l:List α) (k:Nat) (v:α):k<l.length→kI (l.flatMap enc) (k*size) (enc v)=(l.set k v).flatMap enc:=by
 intro hk;have h1:(l.flatMap enc).length=l.length*size:=jM hs l;have h2:(k+1)*size≤l.length*size:=Nat.mul_le_mul_right _ hk;rw [qc _ _ _ (by rw [hs,h1,←Nat.succ_mul];exact h2),hs]
 have e:l=l.take k++l[k]::l.drop (k+1):=by rw [←List.drop_eq_getElem_cons hk,List.take_append_drop]
 have e2:l.set k v=l.take k++v::l.drop (k+1):=by rw [List.set_eq_take_append_cons_drop,if_pos hk]
 have h3:((l.take k).flatMap enc).length=k*size:=by rw [jM hs,List.length_take,Nat.min_eq_left (by omega)]
 have h4:l.flatMap enc=(l.take k++l[k]::l.drop (k+1)).flatMap enc:=congrArg (List.flatMap enc) e;rw [List.flatMap_append,List.flatMap_cons] at h4;rw [e2,h4,List.take_left' h3];simp only [List.flatMap_append,List.flatMap_cons,List.append_assoc]
 congr 2
 rw [←List.append_assoc,List.drop_left' (by rw [List.length_append,h3,hs])]
theorem jdW {α:Type} {enc:α→List D} {size ty:Nat} (hs:∀x,(enc x).length=size) {l:List α} {k:Nat} (v:α) (hk:k<l.length):D.put [] (k*size) (enc v) (.sl size ty (l.flatMap enc))=.sl size ty ((l.set k v).flatMap enc):=by
 simp only [D.put,jtc hs l k v hk]
theorem jb7 {l:List Int} {k:Nat} (v:Int) (hk:k<l.length):D.put [] (k*1) [.val (.int .i64 v)] (jh l)=jh (l.set k v):=jdW (enc:=fun n=>[iv n]) (fun _=>rfl) v hk
abbrev jBt:TypeId:=4
def qL (l:List Bool):D:=.sl 1 jBt (l.flatMap (fun b=>[D.val (.bool b)]))
section
variable {P:Program} {β:Nat} {s:St}
theorem jo7 (l:List Bool):(qL l).len=l.length:=jaf (enc:=fun b=>[D.val (.bool b)]) (fun _=>rfl) (by decide) _ _
theorem jgj {l:List Bool} {k:Nat} {x:Bool} (h:l[k]?=some x):(qL l).elem k=[D.val (.bool x)]:=za (enc:=fun b=>[D.val (.bool b)]) (fun _=>rfl) h
theorem jqb (l:List Bool):(qL l).isSl=true:=(rfl)
theorem jp9 (l:List Bool):(qL l).size=1:=(rfl)
theorem joW (l:List Bool) (g:Nat) (η:jq):(qL l).obj g η=[(g,.loose (qL l) η)]:=(rfl)
theorem joU (l:List Bool) (g c:Nat) (p:List Nat) (η:jq):(qL l).toOwn g c p η=.h g c p (η p):=(rfl)
theorem jlV (l:List Bool):(qL l).cells=l.flatMap (fun b=>[D.val (.bool b)]):=(rfl)
theorem jfB {l:List Bool} {k:Nat} {x:Bool} (h:l[k]?=some x):((l.flatMap (fun b=>[D.val (.bool b)])).drop (k*1)).take 1=[D.val (.bool x)]:=jgj h
theorem jcb {l:List Bool} {k:Nat} (h:k<l.length):k*1+1≤(l.flatMap (fun b=>[D.val (.bool b)])).length:=by rw [jM (enc:=fun b=>[D.val (.bool b)]) (size:=1) (fun _=>rfl)];omega
theorem joG {l:List Bool} {k:Nat} (v:Bool) (hk:k<l.length):D.put [] (k*1) [D.val (.bool v)] (qL l)=qL (l.set k v):=jdW (enc:=fun b=>[D.val (.bool b)]) (fun _=>rfl) v hk
attribute [go_sem] jo7 jqb jp9 joW joU jlV
theorem jeD (l:List Bool):jY (l.flatMap (fun b=>[D.val (.bool b)]))=true:=by
 induction l with
 |nil=>rfl
 |cons x l ih=>rw [List.flatMap_cons,zb,ih];rfl
attribute [go_sem] jeD
end
theorem jtq {l:List (En)} {k:Nat} (v:En) (hk:k<l.length):D.put [] (k*4) (jf v) (jk l)=jk (l.set k v):=jdW (enc:=jf) (fun _=>rfl) v hk
theorem jtn {l:List (Tk)} {k:Nat} (v:Tk) (hk:k<l.length):D.put [] (k*4) (jo v) (jy l)=jy (l.set k v):=jdW (enc:=jo) (fun _=>rfl) v hk
theorem jtp {l:List (Rn)} {k:Nat} (v:Rn) (hk:k<l.length):D.put [] (k*8) (jd v) (jN l)=jN (l.set k v):=jdW (enc:=jd) (fun _=>rfl) v hk
theorem joF {l:List (List En)} {k:Nat} (v:List En) (hk:k<l.length):D.put [] (k*1) ([jk v]) (kj l)=kj (l.set k v):=jdW (enc:=fun es=>[jk es]) (fun _=>rfl) v hk
theorem jb6 {l:List Tk} {k:Nat} (a b c d:Int) (hk:k<l.length):D.put [] (k*4) [.val (.int .i64 a),.val (.int .i64 b),.val (.int .i64 c),.val (.int .i64 d)] (jy l)=jy (l.set k ⟨a,b,c,d⟩):=jtn ⟨a,b,c,d⟩ hk
theorem jgi:∀{l:List D} (a b:Nat),jY l=true→jY ((l.drop a).take b)=true
 |[],a,b,_=>by simp [jY]
 |.sl _ _ _::l,a,b,h=>by simp [jY] at h
 |.val u::l,0,0,_=>rfl
 |.val u::l,0,b+1,h=>by
  simp only [jY,Bool.and_eq_true] at h;simp only [List.drop_zero,List.take_succ_cons,jY,h.1,Bool.true_and];exact jgi (l:=l) 0 b h.2
 |.val u::l,a+1,b,h=>by
  simp only [jY,Bool.and_eq_true] at h;exact jgi (l:=l) a b h.2
theorem jrb (l:List Int) (a b:Nat):jY (((l.flatMap (fun n=>[iv n])).drop a).take b)=true:=jgi a b (jgh l)
attribute [go_sem] jrb
theorem jue (l:List Tk) (a b:Nat):jY (((l.flatMap (jo)).drop a).take b)=true:=jgi a b (jix l)
attribute [go_sem] jue
theorem jpu (l:List Bool) (a b:Nat):jY (((l.flatMap (fun b=>[D.val (.bool b)])).drop a).take b)=true:=jgi a b (jeD l)
attribute [go_sem] jpu
theorem jCn (n:Nat):D.sl 1 jfc (List.replicate n [D.val (.int .i64 0)]).flatten=jh (List.replicate n 0):=by simp [jh,List.flatMap,iv]
theorem jzq (n:Nat):D.sl 1 jBt (List.replicate n [D.val (.bool false)]).flatten=qL (List.replicate n false):=by simp [qL,List.flatMap]
theorem jpw {α:Type} {enc:α→List D} {size:Nat} (hs:∀x,(enc x).length=size):∀(l:List α) (k:Nat),(l.flatMap enc).drop (k*size)=(l.drop k).flatMap enc
 |[],k=>by simp
 |x::l,0=>by simp
 |x::l,k+1=>by
  rw [List.flatMap_cons,List.drop_succ_cons,←jpw hs l k,Nat.succ_mul,Nat.add_comm,←List.drop_drop,List.drop_left' (hs x)]
theorem jok {α:Type} {enc:α→List D} {size:Nat} (hs:∀x,(enc x).length=size):∀(l:List α) (k:Nat),(l.flatMap enc).take (k*size)=(l.take k).flatMap enc
 |[],k=>by simp
 |x::l,0=>by simp
 |x::l,k+1=>by
  rw [List.flatMap_cons,List.take_succ_cons,List.flatMap_cons,←jok hs l k,Nat.succ_mul,Nat.add_comm,List.take_append,hs,Nat.add_sub_cancel_left,List.take_of_length_le (by rw [hs];omega)]
theorem jrD {α:Type} {enc:α→List D} {size ty:Nat} (hs:∀x,(enc x).length=size) (l:List α) (a b:Nat):(D.sl size ty (l.flatMap enc)).sub a b=.sl size ty (((l.drop a).take (b-a)).flatMap enc):=by
 simp only [D.sub,jpw hs,jok hs]
theorem js0 (l:List Ed) (a b:Nat):(ju l).sub a b=ju ((l.drop a).take (b-a)):=jrD (enc:=jJ) (fun _=>rfl) l a b
theorem jsZ (l:List En) (a b:Nat):(jk l).sub a b=jk ((l.drop a).take (b-a)):=jrD (enc:=jf) (fun _=>rfl) l a b
attribute [go_sem] Nat.zero_le js0 jsZ Nat.sub_zero List.drop_zero
def jed {α:Type} (f:α→Bool):List α→Int
 |[]=>-1
 |x::l=>if f x then 0 else match jed f l with
  |.ofNat k=>.ofNat (k+1)
  |.negSucc k=>.negSucc k
theorem jaO {α:Type} {f:α→Bool}:∀{l:List α},(∀y∈l,f y=false)→jed f l=-1
 |[],_=>rfl
 |x::l,h=>by rw [jed,h x (by simp),jaO fun y hy=>h y (by simp [hy])];rfl
theorem jbR {α:Type} {f:α→Bool}:∀{l:List α} {k:Nat} {x:α},l[k]?=some x→f x=true→(∀y∈l.take k,f y=false)→jed f l=k
 |[],_,_,h,_,_=>by simp at h
 |a::l,0,x,h,hx,_=>by simp at h;subst h;rw [jed,hx];rfl
 |a::l,k+1,x,h,hx,hn=>by
  rw [jed,hn a (by simp),jbR (k:=k) (by simpa using h) hx fun y hy=>hn y (by simp [hy])];rfl
theorem ja2 {α:Type} (f:α→Bool) (l:List α):(jed f l=-1∧∀y∈l,f y=false)∨∃k x,jed f l=((k:Nat):Int)∧l[k]?=some x∧f x=true∧∀y∈l.take k,f y=false:=by
 induction l with
 |nil=>exact .inl ⟨rfl,by simp⟩
 |cons a l ih=>
  cases ha:f a with
  |true=>exact .inr ⟨0,a,by rw [jed,ha];rfl,rfl,ha,by simp⟩
  |false=>
   rcases ih with ⟨h1,h2⟩|⟨k,x,h1,h2,h3,h4⟩
   ·exact .inl ⟨jaO (fun y hy=>by rcases List.mem_cons.1 hy with rfl|hy<;>simp_all),fun y hy=>by rcases List.mem_cons.1 hy with rfl|hy<;>simp_all⟩
   ·have h5:(a::l)[k+1]?=some x:=by simpa using h2
    have h6:∀y∈(a::l).take (k+1),f y=false:=fun y hy=>by
     rw [List.take_succ_cons] at hy;rcases List.mem_cons.1 hy with rfl|hy
     ·exact ha
     ·exact h4 y hy
    exact .inr ⟨k+1,x,jbR h5 h3 h6,h5,h3,h6⟩
theorem jmN {α:Type} {f:α→Bool} {l:List α} {k:Nat} {x:α} (h:l[k]?=some x) (hx:f x=false) (hn:∀y∈l.take k,f y=false):∀y∈l.take (k+1),f y=false:=by
 intro y hy;rw [List.take_add_one,h] at hy;rcases List.mem_append.1 hy with hy|hy
 ·exact hn y hy
 ·simp at hy;subst hy;exact hx
theorem ql (l:List Int) (a:Int):D.sl 1 jfc (l.flatMap (fun n=>[iv n])++[.val (.int .i64 a)])=jh (l++[a]):=by simp [jh]
theorem jzC (a:Int):D.sl 1 jfc [.val (.int .i64 a)]=jh [a]:=by simp [jh]
theorem stH_t (p:List Nat) (k n:Nat) (η:jq) (K:jq→Prop):stH true p k n η K=K η:=(rfl)
attribute [go_sem] stH_t jDN
def jcF:C:=iS [iA 2 (iO false)] (iS [iA 3 (iM 0),iA 4 (iM 0),iA 5 (iP .neq 3 3 4),iA 2 (iM 5)] .ret)
theorem jfA:fnC Tryz.prog Tryz.f315=some (jcF,[.t 2],6):=by kernel_rfl
def jdP:C:=iS [iA 4 (iO false)] (iS [iA 5 (iM 0),iA 6 (.call 315 [.t 5]),iA 7 (iM 6),iB 8 7 true (iM 1),iB 9 7 true (.call 315 [.t 8]),iB 10 7 true (iU 9),iA 11 (.pick (.t 7) (.t 10) (.c (.bool false))),iA 12 (iM 11),iB 13 12 false (iM 0),iB 14 12 false (iM 1),iB 15 12 false (iP .lss 3 13 14),iA 16 (.pick (.t 12) (.c (.bool true)) (.t 15)),iA 4 (iM 16)] .ret)
theorem jgH:fnC Tryz.prog Tryz.f304=some (jdP,[.t 4],17):=by kernel_rfl
def qq:C:=iS [iA 8 (iM 1),iA 9 (iQ .add 3 8 1),iA 6 (iM 9)] (.blk 0 (.loop (.seq (iS [iA 10 (iM 6),iA 11 (iM 2),iA 12 (iP .lss 3 10 11)] (iD 12 .skip (.exit 0))) (.seq (.blk 1 (iS [iA 15 (iM 6),iA 7 (iM 15)] (.blk 2 (.loop (.seq (.seq (.dreg (T.pure 0 (iA 16 (iM 7)) (T.pure 1 (iA 17 (iM 1)) (T.pure 2 (iA 18 (iP .gtr 3 16 17)) (T.pure 3 (iA 19 (iM 18)) (T.pure 4 (iB 20 19 true (iM 0)) (T.pure 5 (iB 21 19 true (iM 7)) (T.pure 6 (iB 22 19 true (iI 1 20 21)) (T.pure 7 (iB 23 19 true (iL 22)) (T.pure 8 (iB 24 19 true (iM 0)) (T.pure 9 (iB 25 19 true (iM 7)) (T.pure 10 (iB 26 19 true (iQ .sub 3 25 1)) (T.pure 11 (iB 27 19 true (iI 1 24 26)) (T.pure 12 (iB 28 19 true (iL 27)) (T.alt (iB 29 19 true (.call 304 [.t 23,.t 28])) [] (T.pure 14 (iA 30 (.pick (.t 19) (.t 29) (.c (.bool false)))) T.done) T.stop))))))))))))))) (iD 30 .skip (.exit 2))) (.seq (.blk 3 (.dreg (T.pure 0 (iA 33 (iM 0)) (T.pure 1 (iA 34 (iM 7)) (T.pure 2 (iA 35 (iM 0)) (T.pure 3 (iA 36 (iM 7)) (T.pure 4 (iA 37 (iQ .sub 3 36 1)) (T.pure 5 (iA 38 (iM 0)) (T.pure 6 (iA 39 (iM 7)) (T.pure 7 (iA 40 (iQ .sub 3 39 1)) (T.pure 8 (iA 41 (iI 1 38 40)) (T.pure 9 (iA 42 (iL 41)) (T.pure 10 (iA 43 (iM 0)) (T.pure 11 (iA 44 (iM 7)) (T.pure 12 (iA 45 (iI 1 43 44)) (T.pure 13 (iA 46 (iL 45)) (T.pure 14 (iA 47 (iI 1 33 34)) (T.alt (iC (.st 1 [none] (.t 47) (.t 42))) [4,3,2] (T.pure 16 (iA 48 (iI 1 35 37)) (T.alt (iC (.st 1 [none] (.t 48) (.t 46))) [] T.done T.stop)) T.stop)))))))))))))))))) (.reg [iA 31 (iM 7),iA 32 (iQ .sub 3 31 1),iA 7 (iM 32)]))))))) (.reg [iA 13 (iM 6),iA 14 (iQ .add 3 13 1),iA 6 (iM 14)])))))
theorem vR:fnC Tryz.prog Tryz.f298=some (qq,[],49):=by kernel_rfl
def vB:C:=iS [iA 8 (iO true)] (iS [iA 9 (iO true)] (.blk 0 (.loop (.blk 1 (iS [iA 19 (iM 2),iA 20 (iM 1),iA 21 (iP .sub 3 19 20),iA 10 (iM 21)] (.seq (iS [iA 22 (iM 10),iA 23 (iQ .leq 3 22 12)] (iD 23 (iS [iA 24 (iM 0),iA 25 (iM 1),iA 26 (iM 2),iA 27 (.call 298 [.t 24,.t 25,.t 26])] .ret) .skip)) (.seq (iS [iA 28 (iM 3),iA 29 (iQ .eql 3 28 0)] (iD 29 (iS [iA 30 (iM 0),iA 31 (iM 1),iA 32 (iM 2),iA 33 (.call 299 [.t 30,.t 31,.t 32])] .ret) .skip)) (.seq (iS [iA 34 (iM 8),iA 35 (iU 34)] (iD 35 (iS [iA 36 (iM 0),iA 37 (iM 1),iA 38 (iM 2),iA 39 (.call 300 [.t 36,.t 37,.t 38])] (.reg [iA 40 (iM 3),iA 41 (iQ .sub 3 40 1),iA 3 (iM 41)])) .skip)) (iS [iA 43 (iM 0),iA 44 (iM 1),iA 45 (iM 2),iA 46 (.call 301 [.t 43,.t 44,.t 45]),iA 42 (iM 46),iA 47 (iE 42 0),iA 48 (iE 42 1),iA 11 (iM 47),iA 12 (iM 48)] (.seq (iS [iA 49 (iM 12),iA 50 (iQ .eql 309 49 2)] (iD 50 (iS [iA 51 (iM 0),iA 52 (iM 1),iA 53 (iM 2),iA 54 (.call 302 [.t 51,.t 52,.t 53])] (iS [iA 55 (iM 2),iA 56 (iQ .sub 3 55 1),iA 57 (iM 11),iA 58 (iM 1),iA 59 (iP .sub 3 57 58),iA 60 (iP .sub 3 56 59),iA 11 (iM 60)] (.reg [iA 12 (iN 1)]))) .skip)) (.seq (iS [iA 61 (iM 8),iA 62 (iM 61),iB 63 62 true (iM 9),iA 64 (.pick (.t 62) (.t 63) (.c (.bool false))),iA 65 (iM 64),iB 66 65 true (iM 12),iB 67 65 true (iQ .eql 309 66 1),iA 68 (.pick (.t 65) (.t 67) (.c (.bool false)))] (iD 68 (iS [iA 69 (iM 0),iA 70 (iM 1),iA 71 (iM 2),iA 72 (.call 303 [.t 69,.t 70,.t 71])] (iD 72 .ret .skip)) .skip)) (.seq (.seq (.dreg (T.pure 0 (iA 73 (iM 1)) (T.pure 1 (iA 74 (iQ .gtr 3 73 0)) (T.pure 2 (iA 75 (iM 74)) (T.pure 3 (iB 76 75 true (iM 0)) (T.pure 4 (iB 77 75 true (iM 1)) (T.pure 5 (iB 78 75 true (iQ .sub 3 77 1)) (T.pure 6 (iB 79 75 true (iI 1 76 78)) (T.pure 7 (iB 80 75 true (iL 79)) (T.pure 8 (iB 81 75 true (iM 0)) (T.pure 9 (iB 82 75 true (iM 11)) (T.pure 10 (iB 83 75 true (iI 1 81 82)) (T.pure 11 (iB 84 75 true (iL 83)) (T.alt (iB 85 75 true (.call 304 [.t 80,.t 84])) [] (T.pure 13 (iB 86 75 true (iU 85)) (T.pure 14 (iA 87 (.pick (.t 75) (.t 86) (.c (.bool false)))) T.done)) T.stop)))))))))))))) (iD 87 (iS [iA 88 (iM 0),iA 89 (iM 1),iA 90 (iM 2),iA 91 (iM 11),iA 92 (.call 305 [.t 88,.t 89,.t 90,.t 91]),iA 13 (iM 92)] (iS [iA 93 (iM 13),iA 1 (iM 93)] (.exit 1))) .skip)) (iS [iA 95 (iM 0),iA 96 (iM 1),iA 97 (iM 2),iA 98 (iM 11),iA 99 (.call 306 [.t 95,.t 96,.t 97,.t 98]),iA 94 (iM 99),iA 100 (iE 94 0),iA 101 (iE 94 1),iA 14 (iM 100),iA 15 (iM 101)] (iS [iA 102 (iM 15),iA 9 (iM 102)] (iS [iA 103 (iM 14),iA 104 (iM 1),iA 105 (iP .sub 3 103 104),iA 106 (iM 2),iA 107 (iM 14),iA 108 (iP .sub 3 106 107),iA 16 (iM 105),iA 17 (iM 108)] (iS [iA 109 (iM 10),iA 110 (iQ .quo 3 109 8),iA 18 (iM 110)] (iS [iA 111 (iM 16),iA 112 (iM 17),iA 113 (iP .lss 3 111 112)] (iD 113 (iS [iA 114 (iM 16),iA 115 (iM 18),iA 116 (iP .geq 3 114 115),iA 8 (iM 116)] (iS [iA 117 (iM 0),iA 118 (iM 1),iA 119 (iM 14),iA 120 (iM 3),iA 121 (.call 294 [.t 117,.t 118,.t 119,.t 120])] (.reg [iA 122 (iM 14),iA 123 (iQ .add 3 122 1),iA 1 (iM 123)]))) (iS [iA 124 (iM 17),iA 125 (iM 18),iA 126 (iP .geq 3 124 125),iA 8 (iM 126)] (iS [iA 127 (iM 0),iA 128 (iM 14),iA 129 (iQ .add 3 128 1),iA 130 (iM 2),iA 131 (iM 3),iA 132 (.call 294 [.t 127,.t 129,.t 130,.t 131])] (.reg [iA 133 (iM 14),iA 2 (iM 133)])))))))))))))))))))))
theorem zV:fnC Tryz.prog Tryz.f294=some (vB,[],134):=by kernel_rfl
def zO:C:=iS [iA 3 (iM 0),iA 4 (iG 3),iA 2 (iM 4)] (.reg [iA 5 (iM 0),iA 6 (iM 2),iA 7 (iM 2),iA 8 (.cv (.num .u64) 0 (.t 7)),iA 9 (.call 295 [.t 8]),iA 10 (.call 294 [.t 5,.c (.int .i64 0),.t 6,.t 9])])
theorem jbx:fnC Tryz.prog Tryz.f288=some (zO,[],11):=by kernel_rfl
def jdz:C:=iS [iA 2 (iN 0)] (.seq (.cond (.c (.bool false)) (iS [iA 3 (iM 0),iA 4 (.cv (.num .u32) 0 (.t 3)),iA 5 (.call 307 [.t 4]),iA 2 (iM 5)] .ret) .skip) (iS [iA 6 (iM 0),iA 7 (.call 308 [.t 6]),iA 2 (iM 7)] .ret))
theorem jgt:fnC Tryz.prog Tryz.f295=some (jdz,[.t 2],8):=by kernel_rfl
def jFe:ByteArray:=⟨(([0,1]:List UInt8)++List.replicate 2 2++List.replicate 4 3++List.replicate 8 4++List.replicate 16 5++List.replicate 32 6++List.replicate 64 7++List.replicate 128 8).toArray⟩
def jbW:C:=iS [iA 2 (iN 0)] (.seq (iS [iA 3 (iM 0),iA 4 (.bin .geq 319 (.t 3) (.c (.int .u64 4294967296)))] (iD 4 (iS [iA 5 (iM 0),iA 6 (.bin .shr 319 (.t 5) (.c (.int .u64 32))),iA 0 (iM 6)] (.reg [iA 2 (iN 32)])) .skip)) (.seq (iS [iA 7 (iM 0),iA 8 (.bin .geq 319 (.t 7) (.c (.int .u64 65536)))] (iD 8 (iS [iA 9 (iM 0),iA 10 (.bin .shr 319 (.t 9) (.c (.int .u64 16))),iA 0 (iM 10)] (.reg [iA 11 (iM 2),iA 12 (iQ .add 3 11 16),iA 2 (iM 12)])) .skip)) (.seq (iS [iA 13 (iM 0),iA 14 (.bin .geq 319 (.t 13) (.c (.int .u64 256)))] (iD 14 (iS [iA 15 (iM 0),iA 16 (.bin .shr 319 (.t 15) (.c (.int .u64 8))),iA 0 (iM 16)] (.reg [iA 17 (iM 2),iA 18 (iQ .add 3 17 8),iA 2 (iM 18)])) .skip)) (iS [iA 19 (iM 2),iA 20 (iM 0),iA 21 (.cv (.num .u8) 0 (.t 20)),iA 22 (.sidx (.c (.string jFe)) (.t 21)),iA 23 (.cv (.num .i64) 0 (.t 22)),iA 24 (iP .add 3 19 23),iA 2 (iM 24)] .ret))))
theorem jej:fnC Tryz.prog Tryz.f308=some (jbW,[.t 2],25):=by kernel_rfl
theorem jCe (a:Int):jZ Tryz.prog 315 [.c (.val (.int .i64 a))] (.c (.val (.bool false))):=by
 refine jr Tryz.func315 jfA (by simp) ?_
 unfold jcF;simp only [go_sem,bne_self_eq_false]
theorem jEW (a b:Int):jZ Tryz.prog 304 [.c (.val (.int .i64 a)),.c (.val (.int .i64 b))] (.c (.val (.bool (decide (a<b))))):=by
 refine jr Tryz.func304 jgH (by simp) ?_
 unfold jdP;simp only [go_sem];refine jc (jCe a) (by simp only [go_sem]) fun η=>?_
 simp only [go_sem]
def up1 (o:Nat→Ob) (g:Nat) (ob:Ob):Nat→Ob:=fun k=>if k=g then ob else o k
theorem jrw (o:Nat→Ob) (g:Nat) (ob:Ob):up1 o g ob g=ob:=by simp [up1]
theorem jBn (o:Nat→Ob) (g:Nat) (a b:Ob):(fun k=>if k=g then b else up1 o g a k)=up1 o g b:=by funext k;simp only [up1];split<;>rfl
theorem jDD {o:Nat→Ob} {g:Nat} {ob:Ob} (h:o g=ob):o=up1 o g ob:=by
 funext k
 simp only [up1];split
 ·rename_i e;rw [e,h]
 ·rfl
theorem jyL (s:St) (g:Nat) (ob:Ob):(s.setO g ob).o=up1 s.o g ob:=rfl
theorem up1_2 (o:Nat→Ob) (g:Nat) (a b:Ob):up1 (up1 o g a) g b=up1 o g b:=jBn o g a b
theorem jEJ (s:St) (d:Option Nat) (v:AV):(s.put d v).o=s.o:=by cases d<;>rfl
theorem jt4 (A:List Int) (hA:A.length≤12) (o:Nat→Ob) (g:Nat) (η:jq) (ho:o g=.loose (jh A) η):Inl Tryz.prog 298 [Hd g η,Ni 0,Ni A.length] o (fun av o'=>av=.tup []∧∃(l:List Int) (i:Nat),o'=up1 o g (.loose (jh l) η)∧SO A l i∧A.length≤i):=by
 refine vn (β:=0) Tryz.func298 vR (by simp) ?_
 unfold qq;simp only [go_sem];refine vI (fun s=>∃(l:List Int) (i:Nat),1≤i∧(i≤A.length∨i=1)∧SO A l i∧s.t 0=Hd g η∧s.t 1=Ni 0∧s.t 2=Ni A.length∧s.t 6=Ni i∧s.o=up1 o g (.loose (jh l) η)) (fun s=>A.length-s.n 6) ?_ ?_
 ·exact ⟨A,1,by omega,.inr rfl,SO_1 A,by simp only [go_sem]<;>rfl,by simp only [go_sem]<;>rfl,by simp only [go_sem]<;>rfl,by simp only [go_sem]<;>rfl,jDD ho⟩
 ·rintro s ⟨l,i,hi,hi2,hso,h0,h1,h2,h6,hob⟩
  have hm:s.n 6=i:=jcR h6;rw [hm];by_cases hlt:i<A.length
  ·have hlt':(i:Int)<A.length:=by omega
   have hw:IntKind.i64.wrap ((i:Int)+1)=((i+1:Nat):Int):=jj (by omega) (by omega)
   have hll:=hso.1.length_eq;simp only [go_sem,h0,h1,h2,h6,hob,hlt'];refine vI (fun s=>∃(l:List Int) (j:Nat),SI A l i j∧s.t 0=Hd g η∧s.t 1=Ni 0∧s.t 2=Ni A.length∧s.t 6=Ni i∧s.t 7=Ni j∧s.o=up1 o g (.loose (jh l) η)) (fun s=>s.n 7) ?_ ?_
   ·exact ⟨l,i,SI_0 hso,by simp only [go_sem,h0,h1,h2,h6,hob]<;>rfl,by simp only [go_sem,h0,h1,h2,h6,hob]<;>rfl,by simp only [go_sem,h0,h1,h2,h6,hob]<;>rfl,by simp only [go_sem,h0,h1,h2,h6,hob]<;>rfl,by simp only [go_sem,h0,h1,h2,h6,hob]<;>rfl,hob⟩
   ·clear h0 h1 h2 h6 hob hso hll hm
    rintro s ⟨l,j,hsi,h0,h1,h2,h6,h7,hob⟩;have hll:=hsi.1.length_eq;have hji:=hsi.2.1;have hm:s.n 7=j:=jcR h7;rw [hm];cases j with
    |zero=>
     simp only [go_sem,h0,h1,h2,h6,h7,hob,hw];refine ⟨⟨l,i+1,by omega,.inl (by omega),jBc hsi (.inl rfl),rfl,?_⟩,?_⟩
     ·exact hob
     ·rw [jcR (k:=.i64) (n:=((i+1:Nat):Int)) (by simp only [go_sem])];omega
    |succ j=>
     have hj0:((j+1:Nat):Int)>0:=by omega
     have hw2:IntKind.i64.wrap (((j+1:Nat):Int)-1)=(j:Int):=by rw [jj (by omega) (by omega)];omega
     have hg1:l[j+1]?=some (l.getD (j+1) 0):=by rw [List.getD_eq_getElem?_getD,List.getElem?_eq_getElem (by omega)];rfl
     have hg0:l[j]?=some (l.getD j 0):=by rw [List.getD_eq_getElem?_getD,List.getElem?_eq_getElem (by omega)];rfl
     have hj1:j+1<l.length:=by omega
     have hj2:j<l.length:=by omega
     simp only [go_sem,h0,h1,h2,h6,h7,hob,hj0,hw2,jn hg1,jn hg0,jrw,hj1,hj2,jm hj1,jm hj2];refine jc (jEW (l.getD (j+1) 0) (l.getD j 0)) (by simp only [go_sem,h0,h1,h2,h6,h7,hob,hj0,hw2]) fun η=>?_
     simp only [go_sem,h0,h1,h2,h6,h7,hob,hj0,hw2];by_cases hc:l.getD (j+1) 0<l.getD j 0
     ·have hs2:j<(l.set (j+1) (l.getD j 0)).length:=by rw [List.length_set];exact hj2
      have hst:(l.set (j+1) (l.getD j 0)).set j (l.getD (j+1) 0)=swp l j:=rfl;simp only [go_sem,h0,h1,h2,h6,h7,hob,hj0,hw2,hc,jn hg1,jn hg0,jrw,hj1,hj2,jm hj1,jm hj2,jb7 _ hj1,jb7 _ hs2,jm hs2,hs2,hst];refine ⟨⟨swp l j,j,jF8 hsi (by omega) hc,?_⟩,?_⟩
      ·refine ⟨rfl,?_⟩
       simp only [jEJ,jyL,hob,up1_2]
      ·rw [jcR (k:=.i64) (n:=((j:Nat):Int)) (by simp only [go_sem])];omega
     ·simp only [go_sem,h0,h1,h2,h6,h7,hob,hj0,hw,hc]
      refine ⟨⟨l,i+1,by omega,.inl (by omega),jBc hsi (.inr ⟨j,rfl,by omega⟩),rfl,?_⟩,?_⟩
      ·exact hob
      ·rw [jcR (k:=.i64) (n:=((i+1:Nat):Int)) (by simp only [go_sem])];omega
  ·have hlt':¬(i:Int)<A.length:=by omega
   simp only [go_sem,h0,h1,h2,h6,hob,hlt'];exact ⟨l,i,hob,hso,by omega⟩
theorem jjM {P:Program} {f:FuncId} {args:List AV} {o:Nat→Ob} {R R':AV→(Nat→Ob)→Prop} (h:Inl P f args o R) (hR:∀av o',R av o'→R' av o'):Inl P f args o R':=
 ⟨h.1,fun B w F xs h1 h2=>(h.2 B w F xs h1 h2).mono fun e w' ⟨v,av,o',F',k1,k2,k3,k4⟩=>⟨v,av,o',F',k1,k2,k3,hR _ _ k4⟩⟩
theorem wp_cf {P:Program} {β:Nat} {s:St} {Q:Ex→St→Prop} {a b:C}:wpC P β (.cond (.c (.bool false)) a b) Q s=wpC P β b Q s:=by
 apply propext
 constructor
 ·rintro ⟨t,h1,h2,h3⟩
  have:t=false:=by cases t<;>first|rfl|cases h1
  exact h3 this
 ·exact fun h=>⟨false,rfl,fun h'=>(by cases h'),fun _=>h⟩
def lenB (n:Nat):Int:=[0,1,2,2,3,3,3,3,4,4,4,4,4].getD n 0
theorem jqC (n:Nat) (hn:n≤12):jZ Tryz.prog 308 [.c (.val (.int .u64 n))] (.c (.val (.int .i64 (lenB n)))):=by
 refine jr Tryz.func308 jej (by simp) ?_
 have:n=0∨n=1∨n=2∨n=3∨n=4∨n=5∨n=6∨n=7∨n=8∨n=9∨n=10∨n=11∨n=12:=by omega
 unfold jbW;rcases this with rfl|rfl|rfl|rfl|rfl|rfl|rfl|rfl|rfl|rfl|rfl|rfl|rfl
 all_goals
  simp only [go_sem];exact ⟨_,rfl,rfl⟩
theorem jwf (n:Nat) (hn:n≤12):jZ Tryz.prog 295 [.c (.val (.int .u64 n))] (.c (.val (.int .i64 (lenB n)))):=by
 refine jr Tryz.func295 jgt (by simp) ?_
 unfold jdz;simp only [go_sem,wp_cf];refine jc (jqC n hn) (by simp only [go_sem]) fun η=>?_
 simp only [go_sem]
theorem jCL (A:List Int) (hA:A.length≤12) (o:Nat→Ob) (g:Nat) (η:jq) (ho:o g=.loose (jh A) η) (v:Int):Inl Tryz.prog 294 [Hd g η,Ni 0,Ni A.length,Ni v] o (fun av o'=>av=.tup []∧∃(l:List Int) (i:Nat),o'=up1 o g (.loose (jh l) η)∧SO A l i∧A.length≤i):=by
 refine vn (β:=0) Tryz.func294 zV (by simp) ?_
 unfold vB;have h12:(A.length:Int)≤12:=by omega
 have hw:IntKind.i64.wrap ((A.length:Int)-0)=(A.length:Int):=by rw [Int.sub_zero];exact jj (by omega) (by omega)
 simp only [go_sem];refine vg 0 ?_;simp only [go_sem,hw,h12];refine qd (jjM (jt4 A hA o g η ho) ?_);rintro av o' ⟨rfl,l,i,rfl,h1,h2⟩;exact ⟨l,i,rfl,h1,h2⟩
theorem jsg (A:List Int) (hA:A.length≤12) (o:Nat→Ob) (g:Nat) (η:jq) (ho:o g=.loose (jh A) η):Inl Tryz.prog 288 [Hd g η] o (fun av o'=>av=.tup []∧∃(l:List Int) (i:Nat),o'=up1 o g (.loose (jh l) η)∧SO A l i∧A.length≤i):=by
 refine vn (β:=0) Tryz.func288 jbx (by simp) ?_
 unfold zO;have hw:IntKind.u64.wrap (A.length:Int)=(A.length:Int):=by generalize A.length=n at hA;have:n=0∨n=1∨n=2∨n=3∨n=4∨n=5∨n=6∨n=7∨n=8∨n=9∨n=10∨n=11∨n=12:=(by omega);rcases this with rfl|rfl|rfl|rfl|rfl|rfl|rfl|rfl|rfl|rfl|rfl|rfl|rfl<;>rfl
 simp only [go_sem,ho,hw];refine jc (jwf A.length hA) (by simp only [go_sem]) fun η2=>?_
 simp only [go_sem];refine qd (jjM (jCL A hA _ g η (by simp only [go_sem,ho]) (lenB A.length)) ?_)
 rintro av o' ⟨rfl,l,i,rfl,h1,h2⟩;exact ⟨l,i,rfl,h1,h2⟩
def jk9:C:=iS [iA 2 (.mov (.c (.string ⟨⟨[]⟩⟩)))] (iS [iA 3 (.mov (.c (.slice none 0 0)))] (.seq (iS [iA 6 (iM 0),iA 7 (iG 6),iA 8 (iN 0)] (.blk 0 (.loop (iS [iA 9 (iP .lss 3 8 7)] (.seq (iD 9 .skip (.exit 0)) (.seq (.blk 1 (iS [iA 10 (iI 1 6 8),iA 11 (iL 10),iA 5 (iM 11)] (.reg [iA 12 (iM 3),iA 13 (iM 5),iA 14 (.call 142 [.t 13]),iA 15 (.apps 5 (.t 12) (.t 14)),iA 3 (iM 15)]))) (.reg [iA 16 (iQ .add 3 8 1),iA 8 (iM 16)]))))))) (iS [iA 17 (iM 3),iA 18 (.cv .text 5 (.t 17)),iA 2 (iM 18)] .ret)))
theorem jlP:fnC Tryz.prog Tryz.f252=some (jk9,[.t 2],19):=by kernel_rfl
theorem jxu {d:Option Nat} {s:St} {K:St→Prop} (hk:K (s.put d (.c (.v (.string ⟨#[]⟩))))):cvK d s K .text (.c (.v (.slice none 0 0))):=
 ⟨_,⟨_,0,[],rfl,by simp [Is],rfl⟩,hk⟩
theorem jBm (k:Nat):∀v:Nat,v<128^(k+1)→(vq v).length≤k+1:=by
 induction k with
 |zero=>
  intro v h;rw [vq,if_pos (by simpa using h)];simp
 |succ k ih=>
  intro v h;rw [vq];split
  ·simp
  ·have:=ih (v/128) (by rw [Nat.pow_succ] at h;omega)
   simp only [List.length_cons];omega
theorem jp0 (n:Int):(jep n).data.toList.length≤5:=by
 unfold jep;split
 ·have:=jBm 4 n.toNat (by simp;omega)
  simpa using this
 ·simp
def vl (l:List Int):List UInt8:=l.flatMap fun n=>(jep n).data.toList
def jsR (l:List Int):ByteArray:=⟨(vl l).toArray⟩
theorem jru (l:List Int):(vl l).length≤5*l.length:=by
 induction l with
 |nil=>simp [vl]
 |cons x l ih=>
  have:=jp0 x;simp only [vl,List.flatMap_cons,List.length_append,List.length_cons] at ih⊢;omega
theorem jsT (l:List Int) (x:Int):vl (l++[x])=vl l++(jep x).data.toList:=by simp [vl]
theorem jsS {l:List Int} {k:Nat} {x:Int} (h:l[k]?=some x):vl (l.take (k+1))=vl (l.take k)++(jep x).data.toList:=by
 rw [List.take_add_one,h];exact jsT _ _
theorem jhm (l:List Int):(jsR l).size=(vl l).length:=by
 show (vl l).toArray.size=_;simp
theorem jqy (l:List Int) (hl:l.length≤20000000):jZ Tryz.prog 252 [.c (jh l)] (.c (.val (.string (jsR l)))):=by
 refine jr Tryz.func252 jlP (by simp) ?_
 unfold jk9;simp only [go_sem];refine vI (fun s=>∃k:Nat,k≤l.length∧s.t 6=.c (.ro (jh l))∧s.t 7=.c (.v (.int .i64 l.length))∧s.t 8=.c (.v (.int .i64 k))∧((k=0∧s.t 3=.c (.v (.slice none 0 0)))∨∃η,s.t 3=.c (.h 1500 0 [] (η []))∧s.o 1500=.loose (.sl 1 5 ((vl (l.take k)).map vu)) η)) (fun s=>l.length-s.n 8) ?_ ?_
 ·exact ⟨0,Nat.zero_le _,by simp only [go_sem]<;>rfl,by simp only [go_sem]<;>rfl,by simp only [go_sem]<;>rfl,.inl ⟨rfl,by simp only [go_sem]⟩⟩
 ·rintro s ⟨k,hk,h6,h7,h8,hg⟩
  by_cases hlt:k<l.length
  ·have hlt':(k:Int)<l.length:=by omega
   obtain ⟨x,hx⟩:=je hlt;have hw:IntKind.i64.wrap ((k:Int)+1)=((k+1:Nat):Int):=jj (by omega) (by omega)
   have h2:(jep x).size≤5:=jp0 x;have h1:=jru (l.take k);rw [List.length_take] at h1;have happ:(vl (l.take k)).map vu++strCells (jep x)=(vl (l.take (k+1))).map vu:=by rw [jsS hx,List.map_append];rfl
   have hln:((vl (l.take k)).map vu).length+(jep x).size≤140737488355328:=by rw [List.length_map];omega
   rcases hg with ⟨hk0,h3⟩|⟨η,h3,ho⟩
   ·have hln0:(jep x).size≤140737488355328:=by omega
    have happ0:strCells (jep x)=(vl (l.take (k+1))).map vu:=by rw [←happ,hk0];rfl
    simp only [go_sem,h3,h6,h7,h8,hlt,hlt',jak hx];refine jc (jad x) (by simp only [go_sem]) fun η=>?_
    simp only [go_sem,jrO,h3,h6,h7,h8,hw];refine ⟨_,rfl,?_⟩;simp only [go_sem,h3,h6,h7,h8,hw,hln0];intro η1;refine ⟨⟨k+1,by omega,rfl,.inr ⟨η1,rfl,by rw [happ0]⟩⟩,?_⟩
    rw [jcR (k:=.i64) (n:=((k+1:Nat):Int)) (by simp only [go_sem]),jcR h8];omega
   ·simp only [go_sem,h3,h6,h7,h8,ho,hlt,hlt',jak hx]
    refine jc (jad x) (by simp only [go_sem]) fun η=>?_
    simp only [go_sem,jrO,h3,h6,h7,h8,ho,hw];refine ⟨_,rfl,?_⟩;simp only [go_sem,h3,h6,h7,h8,ho,hw,hln];intro η1;refine ⟨⟨k+1,by omega,rfl,.inr ⟨η1,rfl,by rw [happ]⟩⟩,?_⟩
    rw [jcR (k:=.i64) (n:=((k+1:Nat):Int)) (by simp only [go_sem]),jcR h8];omega
  ·have hlt':¬(k:Int)<l.length:=by omega
   have hk':k=l.length:=by omega
   rcases hg with ⟨hk0,h3⟩|⟨η,h3,ho⟩
   ·have hl0:l=[]:=List.eq_nil_of_length_eq_zero (by omega)
    simp only [go_sem,h3,h6,h7,h8,hlt'];refine jxu ?_;simp only [go_sem];rw [hl0];rfl
   ·rw [List.take_of_length_le (by omega)] at ho
    simp only [go_sem,h3,h6,h7,h8,ho,hlt'];refine jd8 (ty:=5) (cs:=(vl l).map vu) (η:=η) (bs:=vl l) (by simp only [go_sem,ho]) rfl rfl ?_
    simp only [go_sem];rfl
def jg9:C:=iS [iA 2 (.mov (.c (.string ⟨⟨[]⟩⟩)))] (.seq (iS [iA 3 (iM 0),iA 4 (.call 78 [.t 3,.c (.int .i64 0),.c (.int .i64 4294967295)]),iA 5 (iU 4)] (iD 5 (iS [iA 2 (.mov (.c (.string ⟨⟨[]⟩⟩)))] .ret) .skip)) (iS [iA 6 (iM 0),iA 7 (.bin .shr 3 (.t 6) (.c (.int .u64 24))),iA 8 (.cv (.num .u8) 0 (.t 7)),iA 9 (iM 0),iA 10 (.bin .shr 3 (.t 9) (.c (.int .u64 16))),iA 11 (.cv (.num .u8) 0 (.t 10)),iA 12 (iM 0),iA 13 (.bin .shr 3 (.t 12) (.c (.int .u64 8))),iA 14 (.cv (.num .u8) 0 (.t 13)),iA 15 (iM 0),iA 16 (.cv (.num .u8) 0 (.t 15)),iA 17 (.bsl 5 1 4 [none,none,none,none] [(0,1,.t 8),(1,1,.t 11),(2,1,.t 14),(3,1,.t 16)]),iA 18 (.cv .text 5 (.t 17)),iA 2 (iM 18)] .ret))
theorem jjr:fnC Tryz.prog Tryz.f172=some (jg9,[.t 2],19):=by kernel_rfl
theorem str0 (b:ByteArray):(b.toList==ByteArray.toList ⟨⟨[]⟩⟩)=decide (b.size=0):=by
 rw [ByteArray.toList_eq,show ByteArray.toList ⟨⟨[]⟩⟩=[] from ByteArray.toList_eq _]
 rw [show b.size=b.data.toList.length from by cases b;rfl]
 cases b.data.toList<;>simp
def jlf (v:Int):UInt8:=UInt8.ofNat (v%256).toNat
theorem jFR (v:Int):D.val (.int .u8 (IntKind.u8.wrap v))=vu (jlf v):=by
 have h1:0≤v%256:=Int.emod_nonneg _ (by decide)
 have h2:v%256<256:=Int.emod_lt_of_pos _ (by decide)
 obtain ⟨n,hn⟩:=Int.eq_ofNat_of_zero_le h1
 have hw:IntKind.u8.wrap v=v%256:=by
  rw [show IntKind.u8.wrap v=v%2^8 from by rw [IntKind.wrap_u8];rfl];rfl
 rw [hw,jlf,hn,Int.toNat_natCast,vu];have h3:n<256:=by omega
 simp [Nat.mod_eq_of_lt h3]
def jnJ (v:Int):List UInt8:=[jlf (v/16777216),jlf (v/65536),jlf (v/256),jlf v]
def jcc (v:Int):ByteArray:=if 0≤v∧v≤4294967295 then ⟨(jnJ v).toArray⟩ else ⟨⟨[]⟩⟩
theorem jsm (v:Int):(jcc v).size≤4:=by
 unfold jcc;split
 ·exact Nat.le_refl 4
 ·exact Nat.zero_le 4
theorem jxF (v:Int):jlf (v%256)=jlf v:=by
 unfold jlf;rw [Int.emod_emod_of_dvd _ (Int.dvd_refl 256)]
theorem jf0 (v:Int):jZ Tryz.prog 172 [.c (.val (.int .i64 v))] (.c (.val (.string (jcc v)))):=by
 refine jr Tryz.func172 jjr (by simp) ?_
 unfold jg9;simp only [go_sem];refine jc (jC v 0 4294967295) (by simp only [go_sem]) fun η=>?_
 simp only [go_sem];cases h:decide (0≤v∧v≤4294967295)
 ·have h':=of_decide_eq_false h
  simp only [go_sem,h];simp [jcc,h']
 have h':=of_decide_eq_true h;have s1:v.fdiv (2^min 24 64)=v/16777216:=by rw [show (2:Int)^(min 24 64)=16777216 from rfl,Int.fdiv_eq_ediv_of_nonneg _ (by decide)]
 have s2:v.fdiv (2^min 16 64)=v/65536:=by rw [show (2:Int)^(min 16 64)=65536 from rfl,Int.fdiv_eq_ediv_of_nonneg _ (by decide)]
 have s3:v.fdiv (2^min 8 64)=v/256:=by rw [show (2:Int)^(min 8 64)=256 from rfl,Int.fdiv_eq_ediv_of_nonneg _ (by decide)]
 simp only [go_sem,h,s1,s2,s3];intro η;refine jd8 (bs:=jnJ v) rfl rfl ?_ ?_
 ·simp only [jnJ,List.map_cons,List.map_nil,jFR,jxF]
 ·simp only [go_sem]
  simp [jcc,h']
def enI (e:En):List Int:=[e.prio,e.seq,e.run,e.task]
def edI (e:Ed):List Int:=[e.src,e.dst]
def tkI (t:Tk):List Int:=[t.state,t.need,t.tri,t.til]
def plI (p:Pl):List Int:=[p.prio,p.most,p.wait,p.tasks,(p.edges.length:Int)]++p.edges.flatMap edI
def rnI (r:Rn):List Int:=(r.id::plI r.plan)++(r.state::r.tasks.flatMap tkI)
def shI (l:List En):List Int:=(l.length:Int)::l.flatMap enI
def jbs (y:Yd):List Int:=([y.now,y.seq]++y.shelf.flatMap shI)++((y.runs.length:Int)::y.runs.flatMap rnI)
noncomputable def zr (y:Yd):ByteArray:=if jB y=true then jsR (jbs y) else ⟨⟨[]⟩⟩
theorem jq8 {α β:Type} {f:α→List β} {c:Nat}:∀{L:List α},(∀x∈L,(f x).length≤c)→(L.flatMap f).length≤c*L.length
 |[],_=>by simp
 |x::L,h=>by
  have h1:=h x (by simp)
  have h2:=jq8 (L:=L) (c:=c) fun y hy=>h y (by simp [hy])
  rw [List.flatMap_cons,List.length_append,List.length_cons,Nat.mul_succ];omega
theorem jbQ {α β:Type} {f:α→List β} {c:Nat} {L:List α} (h:∀x∈L,(f x).length≤c) (k:Nat):((L.take k).flatMap f).length≤c*L.length:=by
 have h1:=jq8 (L:=L.take k) (c:=c) fun y hy=>h y (List.mem_of_mem_take hy)
 have h2:(L.take k).length≤L.length:=by rw [List.length_take];omega
 exact Nat.le_trans h1 (Nat.mul_le_mul_left _ h2)
theorem jkK {α β:Type} {f:α→List β} {L:List α} {k:Nat} {x:α} (h:L[k]?=some x):(L.take (k+1)).flatMap f=(L.take k).flatMap f++f x:=by
 rw [List.take_add_one,h];simp
theorem jAJ {p:Pl} (h:p.edges.length≤30):(plI p).length≤65:=by
 have:=jq8 (f:=edI) (c:=2) (L:=p.edges) fun _ _=>Nat.le_refl 2
 simp only [plI,List.length_append,List.length_cons,List.length_nil];omega
theorem jAC {r:Rn} (h:RunOkP r):(rnI r).length≤120:=by
 obtain ⟨n,hn,hn1,h12,h30,-⟩:=jiQ h.plan;have h1:=jAJ h30;have h2:=jq8 (f:=tkI) (c:=4) (L:=r.tasks) fun _ _=>Nat.le_refl 4
 have h3:=h.len;simp only [rnI,List.length_append,List.length_cons];omega
theorem jAx {l:List En} (h:je6 l):(shI l).length≤330:=by
 have:=jq8 (f:=enI) (c:=4) (L:=l) fun _ _=>Nat.le_refl 4
 have:=h.most;simp only [shI,List.length_cons];omega
theorem jya {y:Yd} (h:YardOkP y):(jbs y).length≤3000:=by
 have h1:=jq8 (f:=shI) (c:=330) (L:=y.shelf) fun l hl=>jAx (h.shelves l hl)
 have h2:=jq8 (f:=rnI) (c:=120) (L:=y.runs) fun r hr=>jAC (h.right r hr)
 have h3:=h.four;have h4:=h.eight;simp only [jbs,List.length_append,List.length_cons,List.length_nil];omega
theorem jmD (y:Yd):(zr y).size≤15000:=by
 unfold zr;split
 ·rename_i h
  have h1:=jya (yard_iff.1 h);have h2:=jru (jbs y);rw [jhm];omega
 ·exact Nat.zero_le _
noncomputable def jf3 (q:Int) (y:Yd):ByteArray:=if (0≤q∧q≤1000000000)∧(zr y).size≠0∧(zr y).size≤59992 then jcc q++jcc (jl1 (zr y))++zr y else ⟨⟨[]⟩⟩
noncomputable def jca (r:Rn):Rn:=if (kN r&&r.state==1)=true then ⟨r.id,r.plan,4,jau jX r.tasks r.tasks.length⟩ else r
theorem jjK {r:Rn} (h:(kN r&&r.state==1)=false):jca r=r:=by simp [jca,h]
theorem jo8 {r:Rn} (h:(kN r&&r.state==1)=true):jca r=⟨r.id,r.plan,4,jau jX r.tasks r.tasks.length⟩:=by simp [jca,h]
theorem jFd {r:Rn} (h:RunOkP r) (h1:r.state=1):cS 5 r.tasks=0:=by
 have h2:=h.state;rw [h1] at h2;unfold jlm at h2;split at h2
 ·omega
 split at h2
 ·omega
 split at h2
 ·omega
 split at h2
 ·rename_i h3;exact h3.1
 ·omega
theorem jtX {ts:List Tk} (h:cS 5 ts=0) (k:Nat):jau (qC (-1)) ts k=jau jX ts k:=by
 refine jml (fun j y hy=>?_) k
 have h5:y.state≠5:=jA6 h hy;have hj:(j:Int)≠-1:=by omega
 simp [qC,jX,h5,hj]
theorem jwy (r:Rn):kq (jca r)=kq r:=by
 unfold jca;split
 ·simp only [kq,jae]
 ·rfl
def jj4 (y:Yd) (k:Nat) (r:Rn):Yd:=⟨y.now,y.seq,y.shelf,y.runs.set k r⟩
theorem jyk {α:Type} {f:α→Nat} {l:List α} {k:Nat} {x v:α} (h:l[k]?=some x) (hv:f v=f x):ke f (l.set k v)=ke f l:=by
 obtain ⟨hk,hx⟩:=List.getElem?_eq_some_iff.1 h;have e:l=l.take k++x::l.drop (k+1):=by rw [←hx,←List.drop_eq_getElem_cons hk,List.take_append_drop]
 have e2:l.set k v=l.take k++v::l.drop (k+1):=by rw [List.set_eq_take_append_cons_drop,if_pos hk]
 rw [e2]
 conv=>rhs;rw [e]
 rw [jaQ,jaQ];simp only [ke,List.map_cons,List.sum_cons,hv]
theorem jtb {y:Yd} {k:Nat} {r r':Rn} (h:y.runs[k]?=some r) (hr:kq r'=kq r):jt (jj4 y k r')=jt y:=by
 simp only [jt,qx,jj4,List.length_set,jyk h hr]
noncomputable def qi (y:Yd) (id:Int):Int:=if jB y=false then 8 else if runAt y id<0 then 10 else if ((y.runs[(runAt y id).toNat]?).getD default).state=1 then 0 else 12
noncomputable def qh (y:Yd) (id:Int):Yd:=if qi y id=0 then jj4 y (runAt y id).toNat (jca ((y.runs[(runAt y id).toNat]?).getD default)) else y
end Go.Proofs.YtmnpailnelmpiaaGreat
