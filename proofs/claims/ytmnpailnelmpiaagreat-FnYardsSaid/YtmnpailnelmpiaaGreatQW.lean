/- Parts. -/
import Derived.Test.YtmnpailnelmpiaaGreatQAb
import Derived.Test.YtmnpailnelmpiaaGreatQRunP
set_option linter.unusedSimpArgs false
set_option linter.unusedVariables false
set_option maxHeartbeats 4000000
set_option maxRecDepth 100000
namespace Go.Proofs.YtmnpailnelmpiaaGreat
open Go.RowKit Go.Sort
theorem jq4 {α:Type} {enc:α→List D} {size:Nat} (hs:∀x,(enc x).length=size) (l:List α) (k:Nat) (v:α):k<l.length→kC (l.flatMap enc) (k*size) (enc v)=(l.set k v).flatMap enc:=by
 intro hk;have h1:(l.flatMap enc).length=l.length*size:=jG hs l;have h2:(k+1)*size≤l.length*size:=Nat.mul_le_mul_right _ hk;rw [kQ _ _ _ (by rw [hs,h1,←Nat.succ_mul];exact h2),hs]
 have e:l=l.take k++l[k]::l.drop (k+1):=by rw [←List.drop_eq_getElem_cons hk,List.take_append_drop]
 have e2:l.set k v=l.take k++v::l.drop (k+1):=by rw [List.set_eq_take_append_cons_drop,if_pos hk]
 have h3:((l.take k).flatMap enc).length=k*size:=by rw [jG hs,List.length_take,Nat.min_eq_left (by omega)]
 have h4:l.flatMap enc=(l.take k++l[k]::l.drop (k+1)).flatMap enc:=congrArg (List.flatMap enc) e;rw [List.flatMap_append,List.flatMap_cons] at h4;rw [e2,h4,List.take_left' h3];simp only [List.flatMap_append,List.flatMap_cons,List.append_assoc]
 congr 2
 rw [←List.append_assoc,List.drop_left' (by rw [List.length_append,h3,hs])]
theorem jc7 {α:Type} {enc:α→List D} {size ty:Nat} (hs:∀x,(enc x).length=size) {l:List α} {k:Nat} (v:α) (hk:k<l.length):D.put [] (k*size) (enc v) (.sl size ty (l.flatMap enc))=.sl size ty ((l.set k v).flatMap enc):=by
 simp only [D.put,jq4 hs l k v hk]
theorem jbv {l:List Int} {k:Nat} (v:Int) (hk:k<l.length):D.put [] (k*1) [.val (.int .i64 v)] (jh l)=jh (l.set k v):=jc7 (enc:=fun n=>[iv n]) (fun _=>rfl) v hk
abbrev jxw:TypeId:=4
def qu (l:List Bool):D:=.sl 1 jxw (l.flatMap (fun b=>[D.val (.bool b)]))
section
variable {P:Program} {β:Nat} {s:St}
theorem jnl (l:List Bool):(qu l).len=l.length:=jaH (enc:=fun b=>[D.val (.bool b)]) (fun _=>rfl) (by decide) _ _
theorem jfj {l:List Bool} {k:Nat} {x:Bool} (h:l[k]?=some x):(qu l).elem k=[D.val (.bool x)]:=zB (enc:=fun b=>[D.val (.bool b)]) (fun _=>rfl) h
theorem jok (l:List Bool):(qu l).isSl=true:=(rfl)
theorem joi (l:List Bool):(qu l).size=1:=(rfl)
theorem jnd (l:List Bool) (g:Nat) (η:jq):(qu l).obj g η=[(g,.loose (qu l) η)]:=(rfl)
theorem jnb (l:List Bool) (g c:Nat) (p:List Nat) (η:jq):(qu l).toOwn g c p η=.h g c p (η p):=(rfl)
theorem jki (l:List Bool):(qu l).cells=l.flatMap (fun b=>[D.val (.bool b)]):=(rfl)
theorem jeJ {l:List Bool} {k:Nat} {x:Bool} (h:l[k]?=some x):((l.flatMap (fun b=>[D.val (.bool b)])).drop (k*1)).take 1=[D.val (.bool x)]:=jfj h
theorem jbz {l:List Bool} {k:Nat} (h:k<l.length):k*1+1≤(l.flatMap (fun b=>[D.val (.bool b)])).length:=by rw [jG (enc:=fun b=>[D.val (.bool b)]) (size:=1) (fun _=>rfl)];omega
theorem jm0 {l:List Bool} {k:Nat} (v:Bool) (hk:k<l.length):D.put [] (k*1) [D.val (.bool v)] (qu l)=qu (l.set k v):=jc7 (enc:=fun b=>[D.val (.bool b)]) (fun _=>rfl) v hk
attribute [go_sem] jnl jok joi jnd jnb jki
theorem jdJ (l:List Bool):ka (l.flatMap (fun b=>[D.val (.bool b)]))=true:=by
 induction l with
 |nil=>rfl
 |cons x l ih=>rw [List.flatMap_cons,vB,ih];rfl
attribute [go_sem] jdJ
end
theorem jrh {l:List (En)} {k:Nat} (v:En) (hk:k<l.length):D.put [] (k*4) (jf v) (jm l)=jm (l.set k v):=jc7 (enc:=jf) (fun _=>rfl) v hk
theorem jre {l:List (Tk)} {k:Nat} (v:Tk) (hk:k<l.length):D.put [] (k*4) (jn v) (jI l)=jI (l.set k v):=jc7 (enc:=jn) (fun _=>rfl) v hk
theorem jrg {l:List (Rn)} {k:Nat} (v:Rn) (hk:k<l.length):D.put [] (k*8) (jd v) (jO l)=jO (l.set k v):=jc7 (enc:=jd) (fun _=>rfl) v hk
theorem jmZ {l:List (List En)} {k:Nat} (v:List En) (hk:k<l.length):D.put [] (k*1) ([jm v]) (kw l)=kw (l.set k v):=jc7 (enc:=fun es=>[jm es]) (fun _=>rfl) v hk
theorem jbu {l:List Tk} {k:Nat} (a b c d:Int) (hk:k<l.length):D.put [] (k*4) [.val (.int .i64 a),.val (.int .i64 b),.val (.int .i64 c),.val (.int .i64 d)] (jI l)=jI (l.set k ⟨a,b,c,d⟩):=jre ⟨a,b,c,d⟩ hk
theorem jfh:∀{l:List D} (a b:Nat),ka l=true→ka ((l.drop a).take b)=true
 |[],a,b,_=>by simp [ka]
 |.sl _ _ _::l,a,b,h=>by simp [ka] at h
 |.val u::l,0,0,_=>rfl
 |.val u::l,0,b+1,h=>by
  simp only [ka,Bool.and_eq_true] at h;simp only [List.drop_zero,List.take_succ_cons,ka,h.1,Bool.true_and];exact jfh (l:=l) 0 b h.2
 |.val u::l,a+1,b,h=>by
  simp only [ka,Bool.and_eq_true] at h;exact jfh (l:=l) a b h.2
theorem jo7 (l:List Int) (a b:Nat):ka (((l.flatMap (fun n=>[iv n])).drop a).take b)=true:=jfh a b (jfg l)
attribute [go_sem] jo7
theorem jrT (l:List Tk) (a b:Nat):ka (((l.flatMap (jn)).drop a).take b)=true:=jfh a b (jhi l)
attribute [go_sem] jrT
theorem jnG (l:List Bool) (a b:Nat):ka (((l.flatMap (fun b=>[D.val (.bool b)])).drop a).take b)=true:=jfh a b (jdJ l)
attribute [go_sem] jnG
theorem jyg (n:Nat):D.sl 1 jf5 (List.replicate n [D.val (.int .i64 0)]).flatten=jh (List.replicate n 0):=by simp [jh,List.flatMap,iv]
theorem jvM (n:Nat):D.sl 1 jxw (List.replicate n [D.val (.bool false)]).flatten=qu (List.replicate n false):=by simp [qu,List.flatMap]
theorem jnI {α:Type} {enc:α→List D} {size:Nat} (hs:∀x,(enc x).length=size):∀(l:List α) (k:Nat),(l.flatMap enc).drop (k*size)=(l.drop k).flatMap enc
 |[],k=>by simp
 |x::l,0=>by simp
 |x::l,k+1=>by
  rw [List.flatMap_cons,List.drop_succ_cons,←jnI hs l k,Nat.succ_mul,Nat.add_comm,←List.drop_drop,List.drop_left' (hs x)]
theorem jmA {α:Type} {enc:α→List D} {size:Nat} (hs:∀x,(enc x).length=size):∀(l:List α) (k:Nat),(l.flatMap enc).take (k*size)=(l.take k).flatMap enc
 |[],k=>by simp
 |x::l,0=>by simp
 |x::l,k+1=>by
  rw [List.flatMap_cons,List.take_succ_cons,List.flatMap_cons,←jmA hs l k,Nat.succ_mul,Nat.add_comm,List.take_append,hs,Nat.add_sub_cancel_left,List.take_of_length_le (by rw [hs];omega)]
theorem jps {α:Type} {enc:α→List D} {size ty:Nat} (hs:∀x,(enc x).length=size) (l:List α) (a b:Nat):(D.sl size ty (l.flatMap enc)).sub a b=.sl size ty (((l.drop a).take (b-a)).flatMap enc):=by
 simp only [D.sub,jnI hs,jmA hs]
theorem jqT (l:List Ed) (a b:Nat):(jy l).sub a b=jy ((l.drop a).take (b-a)):=jps (enc:=jP) (fun _=>rfl) l a b
theorem jqS (l:List En) (a b:Nat):(jm l).sub a b=jm ((l.drop a).take (b-a)):=jps (enc:=jf) (fun _=>rfl) l a b
attribute [go_sem] Nat.zero_le jqT jqS Nat.sub_zero List.drop_zero
def jdm {α:Type} (f:α→Bool):List α→Int
 |[]=>-1
 |x::l=>if f x then 0 else match jdm f l with
  |.ofNat k=>.ofNat (k+1)
  |.negSucc k=>.negSucc k
theorem jab {α:Type} {f:α→Bool}:∀{l:List α},(∀y∈l,f y=false)→jdm f l=-1
 |[],_=>rfl
 |x::l,h=>by rw [jdm,h x (by simp),jab fun y hy=>h y (by simp [hy])];rfl
theorem jbe {α:Type} {f:α→Bool}:∀{l:List α} {k:Nat} {x:α},l[k]?=some x→f x=true→(∀y∈l.take k,f y=false)→jdm f l=k
 |[],_,_,h,_,_=>by simp at h
 |a::l,0,x,h,hx,_=>by simp at h;subst h;rw [jdm,hx];rfl
 |a::l,k+1,x,h,hx,hn=>by
  rw [jdm,hn a (by simp),jbe (k:=k) (by simpa using h) hx fun y hy=>hn y (by simp [hy])];rfl
theorem zl {α:Type} (f:α→Bool) (l:List α):(jdm f l=-1∧∀y∈l,f y=false)∨∃k x,jdm f l=((k:Nat):Int)∧l[k]?=some x∧f x=true∧∀y∈l.take k,f y=false:=by
 induction l with
 |nil=>exact .inl ⟨rfl,by simp⟩
 |cons a l ih=>
  cases ha:f a with
  |true=>exact .inr ⟨0,a,by rw [jdm,ha];rfl,rfl,ha,by simp⟩
  |false=>
   rcases ih with ⟨h1,h2⟩|⟨k,x,h1,h2,h3,h4⟩
   ·exact .inl ⟨jab (fun y hy=>by rcases List.mem_cons.1 hy with rfl|hy<;>simp_all),fun y hy=>by rcases List.mem_cons.1 hy with rfl|hy<;>simp_all⟩
   ·have h5:(a::l)[k+1]?=some x:=by simpa using h2
    have h6:∀y∈(a::l).take (k+1),f y=false:=fun y hy=>by
     rw [List.take_succ_cons] at hy;rcases List.mem_cons.1 hy with rfl|hy
     ·exact ha
     ·exact h4 y hy
    exact .inr ⟨k+1,x,jbe h5 h3 h6,h5,h3,h6⟩
theorem jle {α:Type} {f:α→Bool} {l:List α} {k:Nat} {x:α} (h:l[k]?=some x) (hx:f x=false) (hn:∀y∈l.take k,f y=false):∀y∈l.take (k+1),f y=false:=by
 intro y hy;rw [List.take_add_one,h] at hy;rcases List.mem_append.1 hy with hy|hy
 ·exact hn y hy
 ·simp at hy;subst hy;exact hx
theorem vi (l:List Int) (a:Int):D.sl 1 jf5 (l.flatMap (fun n=>[iv n])++[.val (.int .i64 a)])=jh (l++[a]):=by simp [jh]
theorem jvU (a:Int):D.sl 1 jf5 [.val (.int .i64 a)]=jh [a]:=by simp [jh]
theorem stH_t (p:List Nat) (k n:Nat) (η:jq) (K:jq→Prop):stH true p k n η K=K η:=(rfl)
attribute [go_sem] stH_t jzk
def jbZ:C:=iS [iA 2 (iO false)] (iS [iA 3 (iM 0),iA 4 (iM 0),iA 5 (iP .neq 3 3 4),iA 2 (iM 5)] .ret)
theorem jeI:fnC Tryz.prog Tryz.f315=some (jbZ,[.t 2],6):=by kernel_rfl
def jc1:C:=iS [iA 4 (iO false)] (iS [iA 5 (iM 0),iA 6 (.call 315 [.t 5]),iA 7 (iM 6),iB 8 7 true (iM 1),iB 9 7 true (.call 315 [.t 8]),iB 10 7 true (iU 9),iA 11 (.pick (.t 7) (.t 10) (.c (.bool false))),iA 12 (iM 11),iB 13 12 false (iM 0),iB 14 12 false (iM 1),iB 15 12 false (iP .lss 3 13 14),iA 16 (.pick (.t 12) (.c (.bool true)) (.t 15)),iA 4 (iM 16)] .ret)
theorem jfA:fnC Tryz.prog Tryz.f304=some (jc1,[.t 4],17):=by kernel_rfl
def qd:C:=iS [iA 8 (iM 1),iA 9 (iQ .add 3 8 1),iA 6 (iM 9)] (.blk 0 (.loop (.seq (iS [iA 10 (iM 6),iA 11 (iM 2),iA 12 (iP .lss 3 10 11)] (iD 12 .skip (.exit 0))) (.seq (.blk 1 (iS [iA 15 (iM 6),iA 7 (iM 15)] (.blk 2 (.loop (.seq (.seq (.dreg (T.pure 0 (iA 16 (iM 7)) (T.pure 1 (iA 17 (iM 1)) (T.pure 2 (iA 18 (iP .gtr 3 16 17)) (T.pure 3 (iA 19 (iM 18)) (T.pure 4 (iB 20 19 true (iM 0)) (T.pure 5 (iB 21 19 true (iM 7)) (T.pure 6 (iB 22 19 true (iI 1 20 21)) (T.pure 7 (iB 23 19 true (iL 22)) (T.pure 8 (iB 24 19 true (iM 0)) (T.pure 9 (iB 25 19 true (iM 7)) (T.pure 10 (iB 26 19 true (iQ .sub 3 25 1)) (T.pure 11 (iB 27 19 true (iI 1 24 26)) (T.pure 12 (iB 28 19 true (iL 27)) (T.alt (iB 29 19 true (.call 304 [.t 23,.t 28])) [] (T.pure 14 (iA 30 (.pick (.t 19) (.t 29) (.c (.bool false)))) T.done) T.stop))))))))))))))) (iD 30 .skip (.exit 2))) (.seq (.blk 3 (.dreg (T.pure 0 (iA 33 (iM 0)) (T.pure 1 (iA 34 (iM 7)) (T.pure 2 (iA 35 (iM 0)) (T.pure 3 (iA 36 (iM 7)) (T.pure 4 (iA 37 (iQ .sub 3 36 1)) (T.pure 5 (iA 38 (iM 0)) (T.pure 6 (iA 39 (iM 7)) (T.pure 7 (iA 40 (iQ .sub 3 39 1)) (T.pure 8 (iA 41 (iI 1 38 40)) (T.pure 9 (iA 42 (iL 41)) (T.pure 10 (iA 43 (iM 0)) (T.pure 11 (iA 44 (iM 7)) (T.pure 12 (iA 45 (iI 1 43 44)) (T.pure 13 (iA 46 (iL 45)) (T.pure 14 (iA 47 (iI 1 33 34)) (T.alt (iC (.st 1 [none] (.t 47) (.t 42))) [4,3,2] (T.pure 16 (iA 48 (iI 1 35 37)) (T.alt (iC (.st 1 [none] (.t 48) (.t 46))) [] T.done T.stop)) T.stop)))))))))))))))))) (.reg [iA 31 (iM 7),iA 32 (iQ .sub 3 31 1),iA 7 (iM 32)]))))))) (.reg [iA 13 (iM 6),iA 14 (iQ .add 3 13 1),iA 6 (iM 14)])))))
theorem vr:fnC Tryz.prog Tryz.f298=some (qd,[],49):=by kernel_rfl
def qS:C:=iS [iA 8 (iO true)] (iS [iA 9 (iO true)] (.blk 0 (.loop (.blk 1 (iS [iA 19 (iM 2),iA 20 (iM 1),iA 21 (iP .sub 3 19 20),iA 10 (iM 21)] (.seq (iS [iA 22 (iM 10),iA 23 (iQ .leq 3 22 12)] (iD 23 (iS [iA 24 (iM 0),iA 25 (iM 1),iA 26 (iM 2),iA 27 (.call 298 [.t 24,.t 25,.t 26])] .ret) .skip)) (.seq (iS [iA 28 (iM 3),iA 29 (iQ .eql 3 28 0)] (iD 29 (iS [iA 30 (iM 0),iA 31 (iM 1),iA 32 (iM 2),iA 33 (.call 299 [.t 30,.t 31,.t 32])] .ret) .skip)) (.seq (iS [iA 34 (iM 8),iA 35 (iU 34)] (iD 35 (iS [iA 36 (iM 0),iA 37 (iM 1),iA 38 (iM 2),iA 39 (.call 300 [.t 36,.t 37,.t 38])] (.reg [iA 40 (iM 3),iA 41 (iQ .sub 3 40 1),iA 3 (iM 41)])) .skip)) (iS [iA 43 (iM 0),iA 44 (iM 1),iA 45 (iM 2),iA 46 (.call 301 [.t 43,.t 44,.t 45]),iA 42 (iM 46),iA 47 (iE 42 0),iA 48 (iE 42 1),iA 11 (iM 47),iA 12 (iM 48)] (.seq (iS [iA 49 (iM 12),iA 50 (iQ .eql 309 49 2)] (iD 50 (iS [iA 51 (iM 0),iA 52 (iM 1),iA 53 (iM 2),iA 54 (.call 302 [.t 51,.t 52,.t 53])] (iS [iA 55 (iM 2),iA 56 (iQ .sub 3 55 1),iA 57 (iM 11),iA 58 (iM 1),iA 59 (iP .sub 3 57 58),iA 60 (iP .sub 3 56 59),iA 11 (iM 60)] (.reg [iA 12 (iN 1)]))) .skip)) (.seq (iS [iA 61 (iM 8),iA 62 (iM 61),iB 63 62 true (iM 9),iA 64 (.pick (.t 62) (.t 63) (.c (.bool false))),iA 65 (iM 64),iB 66 65 true (iM 12),iB 67 65 true (iQ .eql 309 66 1),iA 68 (.pick (.t 65) (.t 67) (.c (.bool false)))] (iD 68 (iS [iA 69 (iM 0),iA 70 (iM 1),iA 71 (iM 2),iA 72 (.call 303 [.t 69,.t 70,.t 71])] (iD 72 .ret .skip)) .skip)) (.seq (.seq (.dreg (T.pure 0 (iA 73 (iM 1)) (T.pure 1 (iA 74 (iQ .gtr 3 73 0)) (T.pure 2 (iA 75 (iM 74)) (T.pure 3 (iB 76 75 true (iM 0)) (T.pure 4 (iB 77 75 true (iM 1)) (T.pure 5 (iB 78 75 true (iQ .sub 3 77 1)) (T.pure 6 (iB 79 75 true (iI 1 76 78)) (T.pure 7 (iB 80 75 true (iL 79)) (T.pure 8 (iB 81 75 true (iM 0)) (T.pure 9 (iB 82 75 true (iM 11)) (T.pure 10 (iB 83 75 true (iI 1 81 82)) (T.pure 11 (iB 84 75 true (iL 83)) (T.alt (iB 85 75 true (.call 304 [.t 80,.t 84])) [] (T.pure 13 (iB 86 75 true (iU 85)) (T.pure 14 (iA 87 (.pick (.t 75) (.t 86) (.c (.bool false)))) T.done)) T.stop)))))))))))))) (iD 87 (iS [iA 88 (iM 0),iA 89 (iM 1),iA 90 (iM 2),iA 91 (iM 11),iA 92 (.call 305 [.t 88,.t 89,.t 90,.t 91]),iA 13 (iM 92)] (iS [iA 93 (iM 13),iA 1 (iM 93)] (.exit 1))) .skip)) (iS [iA 95 (iM 0),iA 96 (iM 1),iA 97 (iM 2),iA 98 (iM 11),iA 99 (.call 306 [.t 95,.t 96,.t 97,.t 98]),iA 94 (iM 99),iA 100 (iE 94 0),iA 101 (iE 94 1),iA 14 (iM 100),iA 15 (iM 101)] (iS [iA 102 (iM 15),iA 9 (iM 102)] (iS [iA 103 (iM 14),iA 104 (iM 1),iA 105 (iP .sub 3 103 104),iA 106 (iM 2),iA 107 (iM 14),iA 108 (iP .sub 3 106 107),iA 16 (iM 105),iA 17 (iM 108)] (iS [iA 109 (iM 10),iA 110 (iQ .quo 3 109 8),iA 18 (iM 110)] (iS [iA 111 (iM 16),iA 112 (iM 17),iA 113 (iP .lss 3 111 112)] (iD 113 (iS [iA 114 (iM 16),iA 115 (iM 18),iA 116 (iP .geq 3 114 115),iA 8 (iM 116)] (iS [iA 117 (iM 0),iA 118 (iM 1),iA 119 (iM 14),iA 120 (iM 3),iA 121 (.call 294 [.t 117,.t 118,.t 119,.t 120])] (.reg [iA 122 (iM 14),iA 123 (iQ .add 3 122 1),iA 1 (iM 123)]))) (iS [iA 124 (iM 17),iA 125 (iM 18),iA 126 (iP .geq 3 124 125),iA 8 (iM 126)] (iS [iA 127 (iM 0),iA 128 (iM 14),iA 129 (iQ .add 3 128 1),iA 130 (iM 2),iA 131 (iM 3),iA 132 (.call 294 [.t 127,.t 129,.t 130,.t 131])] (.reg [iA 133 (iM 14),iA 2 (iM 133)])))))))))))))))))))))
theorem zn:fnC Tryz.prog Tryz.f294=some (qS,[],134):=by kernel_rfl
def ze:C:=iS [iA 3 (iM 0),iA 4 (iG 3),iA 2 (iM 4)] (.reg [iA 5 (iM 0),iA 6 (iM 2),iA 7 (iM 2),iA 8 (.cv (.num .u64) 0 (.t 7)),iA 9 (.call 295 [.t 8]),iA 10 (.call 294 [.t 5,.c (.int .i64 0),.t 6,.t 9])])
theorem jaU:fnC Tryz.prog Tryz.f288=some (ze,[],11):=by kernel_rfl
def jcR:C:=iS [iA 2 (iN 0)] (.seq (.cond (.c (.bool false)) (iS [iA 3 (iM 0),iA 4 (.cv (.num .u32) 0 (.t 3)),iA 5 (.call 307 [.t 4]),iA 2 (iM 5)] .ret) .skip) (iS [iA 6 (iM 0),iA 7 (.call 308 [.t 6]),iA 2 (iM 7)] .ret))
theorem jfs:fnC Tryz.prog Tryz.f295=some (jcR,[.t 2],8):=by kernel_rfl
def jAu:ByteArray:=⟨(([0,1]:List UInt8)++List.replicate 2 2++List.replicate 4 3++List.replicate 8 4++List.replicate 16 5++List.replicate 32 6++List.replicate 64 7++List.replicate 128 8).toArray⟩
def jbk:C:=iS [iA 2 (iN 0)] (.seq (iS [iA 3 (iM 0),iA 4 (.bin .geq 319 (.t 3) (.c (.int .u64 4294967296)))] (iD 4 (iS [iA 5 (iM 0),iA 6 (.bin .shr 319 (.t 5) (.c (.int .u64 32))),iA 0 (iM 6)] (.reg [iA 2 (iN 32)])) .skip)) (.seq (iS [iA 7 (iM 0),iA 8 (.bin .geq 319 (.t 7) (.c (.int .u64 65536)))] (iD 8 (iS [iA 9 (iM 0),iA 10 (.bin .shr 319 (.t 9) (.c (.int .u64 16))),iA 0 (iM 10)] (.reg [iA 11 (iM 2),iA 12 (iQ .add 3 11 16),iA 2 (iM 12)])) .skip)) (.seq (iS [iA 13 (iM 0),iA 14 (.bin .geq 319 (.t 13) (.c (.int .u64 256)))] (iD 14 (iS [iA 15 (iM 0),iA 16 (.bin .shr 319 (.t 15) (.c (.int .u64 8))),iA 0 (iM 16)] (.reg [iA 17 (iM 2),iA 18 (iQ .add 3 17 8),iA 2 (iM 18)])) .skip)) (iS [iA 19 (iM 2),iA 20 (iM 0),iA 21 (.cv (.num .u8) 0 (.t 20)),iA 22 (.sidx (.c (.string jAu)) (.t 21)),iA 23 (.cv (.num .i64) 0 (.t 22)),iA 24 (iP .add 3 19 23),iA 2 (iM 24)] .ret))))
theorem jds:fnC Tryz.prog Tryz.f308=some (jbk,[.t 2],25):=by kernel_rfl
theorem jx8 (a:Int):kp Tryz.prog 315 [.c (.val (.int .i64 a))] (.c (.val (.bool false))):=by
 refine js Tryz.func315 jeI (by simp) ?_
 unfold jbZ;simp only [go_sem,bne_self_eq_false]
theorem jAd (a b:Int):kp Tryz.prog 304 [.c (.val (.int .i64 a)),.c (.val (.int .i64 b))] (.c (.val (.bool (decide (a<b))))):=by
 refine js Tryz.func304 jfA (by simp) ?_
 unfold jc1;simp only [go_sem];refine jc (jx8 a) (by simp only [go_sem]) fun η=>?_
 simp only [go_sem]
def up1 (o:Nat→Ob) (g:Nat) (ob:Ob):Nat→Ob:=fun k=>if k=g then ob else o k
theorem jpm (o:Nat→Ob) (g:Nat) (ob:Ob):up1 o g ob g=ob:=by simp [up1]
theorem jxq (o:Nat→Ob) (g:Nat) (a b:Ob):(fun k=>if k=g then b else up1 o g a k)=up1 o g b:=by funext k;simp only [up1];split<;>rfl
theorem jzd {o:Nat→Ob} {g:Nat} {ob:Ob} (h:o g=ob):o=up1 o g ob:=by
 funext k
 simp only [up1];split
 ·rename_i e;rw [e,h]
 ·rfl
theorem jvl (s:St) (g:Nat) (ob:Ob):(s.setO g ob).o=up1 s.o g ob:=rfl
theorem up1_2 (o:Nat→Ob) (g:Nat) (a b:Ob):up1 (up1 o g a) g b=up1 o g b:=jxq o g a b
theorem jz6 (s:St) (d:Option Nat) (v:AV):(s.put d v).o=s.o:=by cases d<;>rfl
theorem jrL (A:List Int) (hA:A.length≤12) (o:Nat→Ob) (g:Nat) (η:jq) (ho:o g=.loose (jh A) η):Inl Tryz.prog 298 [Hd g η,Ni 0,Ni A.length] o (fun av o'=>av=.tup []∧∃(l:List Int) (i:Nat),o'=up1 o g (.loose (jh l) η)∧SO A l i∧A.length≤i):=by
 refine ql (β:=0) Tryz.func298 vr (by simp) ?_
 unfold qd;simp only [go_sem];refine qQ (fun s=>∃(l:List Int) (i:Nat),1≤i∧(i≤A.length∨i=1)∧SO A l i∧s.t 0=Hd g η∧s.t 1=Ni 0∧s.t 2=Ni A.length∧s.t 6=Ni i∧s.o=up1 o g (.loose (jh l) η)) (fun s=>A.length-s.n 6) ?_ ?_
 ·exact ⟨A,1,by omega,.inr rfl,SO_1 A,by simp only [go_sem]<;>rfl,by simp only [go_sem]<;>rfl,by simp only [go_sem]<;>rfl,by simp only [go_sem]<;>rfl,jzd ho⟩
 ·rintro s ⟨l,i,hi,hi2,hso,h0,h1,h2,h6,hob⟩
  have hm:s.n 6=i:=jaP h6;rw [hm];by_cases hlt:i<A.length
  ·have hlt':(i:Int)<A.length:=by omega
   have hw:IntKind.i64.wrap ((i:Int)+1)=((i+1:Nat):Int):=jg (by omega) (by omega)
   have hll:=hso.1.length_eq;simp only [go_sem,h0,h1,h2,h6,hob,hlt'];refine qQ (fun s=>∃(l:List Int) (j:Nat),SI A l i j∧s.t 0=Hd g η∧s.t 1=Ni 0∧s.t 2=Ni A.length∧s.t 6=Ni i∧s.t 7=Ni j∧s.o=up1 o g (.loose (jh l) η)) (fun s=>s.n 7) ?_ ?_
   ·exact ⟨l,i,SI_0 hso,by simp only [go_sem,h0,h1,h2,h6,hob]<;>rfl,by simp only [go_sem,h0,h1,h2,h6,hob]<;>rfl,by simp only [go_sem,h0,h1,h2,h6,hob]<;>rfl,by simp only [go_sem,h0,h1,h2,h6,hob]<;>rfl,by simp only [go_sem,h0,h1,h2,h6,hob]<;>rfl,hob⟩
   ·clear h0 h1 h2 h6 hob hso hll hm
    rintro s ⟨l,j,hsi,h0,h1,h2,h6,h7,hob⟩;have hll:=hsi.1.length_eq;have hji:=hsi.2.1;have hm:s.n 7=j:=jaP h7;rw [hm];cases j with
    |zero=>
     simp only [go_sem,h0,h1,h2,h6,h7,hob,hw];refine ⟨⟨l,i+1,by omega,.inl (by omega),jxj hsi (.inl rfl),rfl,?_⟩,?_⟩
     ·exact hob
     ·rw [jaP (k:=.i64) (n:=((i+1:Nat):Int)) (by simp only [go_sem])];omega
    |succ j=>
     have hj0:((j+1:Nat):Int)>0:=by omega
     have hw2:IntKind.i64.wrap (((j+1:Nat):Int)-1)=(j:Int):=by rw [jg (by omega) (by omega)];omega
     have hg1:l[j+1]?=some (l.getD (j+1) 0):=by rw [List.getD_eq_getElem?_getD,List.getElem?_eq_getElem (by omega)];rfl
     have hg0:l[j]?=some (l.getD j 0):=by rw [List.getD_eq_getElem?_getD,List.getElem?_eq_getElem (by omega)];rfl
     have hj1:j+1<l.length:=by omega
     have hj2:j<l.length:=by omega
     simp only [go_sem,h0,h1,h2,h6,h7,hob,hj0,hw2,jk hg1,jk hg0,jpm,hj1,hj2,ji hj1,ji hj2];refine jc (jAd (l.getD (j+1) 0) (l.getD j 0)) (by simp only [go_sem,h0,h1,h2,h6,h7,hob,hj0,hw2]) fun η=>?_
     simp only [go_sem,h0,h1,h2,h6,h7,hob,hj0,hw2];by_cases hc:l.getD (j+1) 0<l.getD j 0
     ·have hs2:j<(l.set (j+1) (l.getD j 0)).length:=by rw [List.length_set];exact hj2
      have hst:(l.set (j+1) (l.getD j 0)).set j (l.getD (j+1) 0)=swp l j:=rfl;simp only [go_sem,h0,h1,h2,h6,h7,hob,hj0,hw2,hc,jk hg1,jk hg0,jpm,hj1,hj2,ji hj1,ji hj2,jbv _ hj1,jbv _ hs2,ji hs2,hs2,hst];refine ⟨⟨swp l j,j,jBk hsi (by omega) hc,?_⟩,?_⟩
      ·refine ⟨rfl,?_⟩
       simp only [jz6,jvl,hob,up1_2]
      ·rw [jaP (k:=.i64) (n:=((j:Nat):Int)) (by simp only [go_sem])];omega
     ·simp only [go_sem,h0,h1,h2,h6,h7,hob,hj0,hw,hc]
      refine ⟨⟨l,i+1,by omega,.inl (by omega),jxj hsi (.inr ⟨j,rfl,by omega⟩),rfl,?_⟩,?_⟩
      ·exact hob
      ·rw [jaP (k:=.i64) (n:=((i+1:Nat):Int)) (by simp only [go_sem])];omega
  ·have hlt':¬(i:Int)<A.length:=by omega
   simp only [go_sem,h0,h1,h2,h6,hob,hlt'];exact ⟨l,i,hob,hso,by omega⟩
theorem jio {P:Program} {f:FuncId} {args:List AV} {o:Nat→Ob} {R R':AV→(Nat→Ob)→Prop} (h:Inl P f args o R) (hR:∀av o',R av o'→R' av o'):Inl P f args o R':=
 ⟨h.1,fun B w F xs h1 h2=>(h.2 B w F xs h1 h2).mono fun e w' ⟨v,av,o',F',k1,k2,k3,k4⟩=>⟨v,av,o',F',k1,k2,k3,hR _ _ k4⟩⟩
theorem wp_cf {P:Program} {β:Nat} {s:St} {Q:Ex→St→Prop} {a b:C}:wpC P β (.cond (.c (.bool false)) a b) Q s=wpC P β b Q s:=by
 apply propext
 constructor
 ·rintro ⟨t,h1,h2,h3⟩
  have:t=false:=by cases t<;>first|rfl|cases h1
  exact h3 this
 ·exact fun h=>⟨false,rfl,fun h'=>(by cases h'),fun _=>h⟩
def lenB (n:Nat):Int:=[0,1,2,2,3,3,3,3,4,4,4,4,4].getD n 0
theorem joF (n:Nat) (hn:n≤12):kp Tryz.prog 308 [.c (.val (.int .u64 n))] (.c (.val (.int .i64 (lenB n)))):=by
 refine js Tryz.func308 jds (by simp) ?_
 have:n=0∨n=1∨n=2∨n=3∨n=4∨n=5∨n=6∨n=7∨n=8∨n=9∨n=10∨n=11∨n=12:=by omega
 unfold jbk;rcases this with rfl|rfl|rfl|rfl|rfl|rfl|rfl|rfl|rfl|rfl|rfl|rfl|rfl
 all_goals
  simp only [go_sem];exact ⟨_,rfl,rfl⟩
theorem jtm (n:Nat) (hn:n≤12):kp Tryz.prog 295 [.c (.val (.int .u64 n))] (.c (.val (.int .i64 (lenB n)))):=by
 refine js Tryz.func295 jfs (by simp) ?_
 unfold jcR;simp only [go_sem,wp_cf];refine jc (joF n hn) (by simp only [go_sem]) fun η=>?_
 simp only [go_sem]
theorem jyA (A:List Int) (hA:A.length≤12) (o:Nat→Ob) (g:Nat) (η:jq) (ho:o g=.loose (jh A) η) (v:Int):Inl Tryz.prog 294 [Hd g η,Ni 0,Ni A.length,Ni v] o (fun av o'=>av=.tup []∧∃(l:List Int) (i:Nat),o'=up1 o g (.loose (jh l) η)∧SO A l i∧A.length≤i):=by
 refine ql (β:=0) Tryz.func294 zn (by simp) ?_
 unfold qS;have h12:(A.length:Int)≤12:=by omega
 have hw:IntKind.i64.wrap ((A.length:Int)-0)=(A.length:Int):=by rw [Int.sub_zero];exact jg (by omega) (by omega)
 simp only [go_sem];refine zy 0 ?_;simp only [go_sem,hw,h12];refine kS (jio (jrL A hA o g η ho) ?_);rintro av o' ⟨rfl,l,i,rfl,h1,h2⟩;exact ⟨l,i,rfl,h1,h2⟩
theorem jp4 (A:List Int) (hA:A.length≤12) (o:Nat→Ob) (g:Nat) (η:jq) (ho:o g=.loose (jh A) η):Inl Tryz.prog 288 [Hd g η] o (fun av o'=>av=.tup []∧∃(l:List Int) (i:Nat),o'=up1 o g (.loose (jh l) η)∧SO A l i∧A.length≤i):=by
 refine ql (β:=0) Tryz.func288 jaU (by simp) ?_
 unfold ze;have hw:IntKind.u64.wrap (A.length:Int)=(A.length:Int):=by generalize A.length=n at hA;have:n=0∨n=1∨n=2∨n=3∨n=4∨n=5∨n=6∨n=7∨n=8∨n=9∨n=10∨n=11∨n=12:=(by omega);rcases this with rfl|rfl|rfl|rfl|rfl|rfl|rfl|rfl|rfl|rfl|rfl|rfl|rfl<;>rfl
 simp only [go_sem,ho,hw];refine jc (jtm A.length hA) (by simp only [go_sem]) fun η2=>?_
 simp only [go_sem];refine kS (jio (jyA A hA _ g η (by simp only [go_sem,ho]) (lenB A.length)) ?_)
 rintro av o' ⟨rfl,l,i,rfl,h1,h2⟩;exact ⟨l,i,rfl,h1,h2⟩
end Go.Proofs.YtmnpailnelmpiaaGreat
