/- Parts. -/
import Derived.Test.YtcehjhiglmifjaaGreatQTurnP
set_option linter.unusedSimpArgs false
set_option linter.unusedVariables false
set_option maxHeartbeats 16000000
set_option maxRecDepth 100000
namespace Go.Proofs.YtcehjhiglmifjaaGreat
open Go.RowKit Go.Sort
theorem jis {h:Nat} (hh:h<4) (draw:Int):∃a b c:Nat,jhK h draw=[(a:Int),(b:Int),(c:Int)]∧a<4∧b<4∧c<4∧a≠h∧b≠h∧c≠h:=by
 have hb:brI (h:Int) 0 3=h:=by
  unfold brI;rw [if_neg (by omega),if_neg (by omega)]
 have hd:0≤(if draw<0 then 0 else draw):=by split<;>omega
 obtain ⟨v0,v1,v2⟩:=js0 h draw h _ hb rfl (by omega)
 have e:∀j:Nat,((h:Int)+(j:Int)).tmod 4=(((h+j)%4:Nat):Int):=fun j=>by
  rw [Int.tmod_eq_emod_of_nonneg (by omega)];omega
 have e1:=e 1;have e2:=e 2;have e3:=e 3;simp only [Int.natCast_one,Int.cast_ofNat_Int] at e1 e2 e3;rcases jyc hd with h3|h3|h3
 ·exact ⟨(h+1)%4,(h+2)%4,(h+3)%4,by rw [v0 h3,e1,e2,e3],by omega,by omega,by omega,by omega,by omega,by omega⟩
 ·exact ⟨(h+2)%4,(h+3)%4,(h+1)%4,by rw [v1 h3,e1,e2,e3],by omega,by omega,by omega,by omega,by omega,by omega⟩
 ·exact ⟨(h+3)%4,(h+1)%4,(h+2)%4,by rw [v2 h3,e1,e2,e3],by omega,by omega,by omega,by omega,by omega,by omega⟩
theorem jsr {y z:Yd} (h:z.runs=y.runs) (e:En):jU z e=jU y e:=by
 cases y;cases z;dsimp only at h;subst h;rfl
def pollV (z:Yd) (home v:Nat):Yd:=
 let s:=(ze z v).shelf
 ⟨z.now,z.seq,(s.set v (jaF ((s[v]?).getD []))).set home (qb ((s[home]?).getD []) (vh ((s[v]?).getD []))),z.runs⟩
def pollF (home:Nat):List Int→Yd→Yd
 |[],z=>z
 |v::vs,z=>if ((z.shelf[home]?).getD []).length=0 then pollF home vs (pollV z home v.toNat) else z
structure PollI (y:Yd) (home:Nat) (z:Yd):Prop where
 four:z.shelf.length=4
 runs:z.runs=y.runs
 now:z.now=y.now
 seq:z.seq=y.seq
 tot:jJ z≤jJ y
 frs:∀l,z.shelf[home]?=some l→∀e∈l,jU y e=true
theorem jqp {l:List En} {e x:En} (h:x∈jb8 l e):x∈l∨x=e:=by
 rw [jb8,jk8] at h;rcases List.mem_append.1 h with h|h
 ·exact .inl (List.mem_of_mem_take h)
 ·rcases List.mem_cons.1 h with h|h
  ·exact .inr h
  ·exact .inl (List.mem_of_mem_drop h)
theorem jqt:∀{b a:List En} {x:En},x∈b.foldl jb8 a→x∈a∨x∈b
 |[],a,x,h=>.inl h
 |e::b,a,x,h=>by
  rcases jqt (b:=b) h with h|h
  ·rcases jqp h with h|h
   ·exact .inl h
   ·exact .inr (by simp [h])
  ·exact .inr (by simp [h])
theorem jsb {a b:List En} {x:En} (h:x∈qb a b):x∈a∨x∈b:=by
 unfold qb at h;split at h
 ·exact .inl h
 ·exact jqt h
theorem jiU {y:Yd} {k:Nat} {l l2:List En} (hl:y.shelf[k]?=some l):jJ ⟨y.now,y.seq,y.shelf.set k l2,y.runs⟩+l.length=jJ y+l2.length:=by
 have h4:∀l:List En,zW l=l.length:=fun _=>rfl
 have h2:=qV (f:=zW) l2 hl;simp only [jJ,jbv,List.length_set] at*;rw [h4,h4] at h2;omega
theorem PollI.start {y:Yd} (hP:YardOkP y) {h:Nat} (hh:h<4):PollI y h (ze y h):=by
 obtain ⟨l,hl⟩:=je (l:=y.shelf) (k:=h) (by have:=hP.four;omega)
 have hs:=je5 hl;have ht:=jiU (l2:=l.filter (jU y)) hl;have hf:=List.length_filter_le (jU y) l;rw [hs];refine ⟨by simp [hP.four],rfl,rfl,rfl,by omega,fun l' hl' e he=>?_⟩
 dsimp only at hl';rw [List.getElem?_set_self (by have:=hP.four;omega)] at hl'
 obtain rfl:=Option.some.inj hl';exact (List.mem_filter.1 he).2
theorem jiC {z:Yd} {h v:Nat} {l a:List En} (hv:z.shelf[v]?=some l) (hhm:z.shelf[h]?=some a) (hne:v≠h):ze z v=⟨z.now,z.seq,z.shelf.set v (l.filter (jU z)),z.runs⟩∧pollV z h v=⟨z.now,z.seq,(z.shelf.set v (jaF (l.filter (jU z)))).set h (qb a (vh (l.filter (jU z)))),z.runs⟩:=by
 have hs:=je5 hv;refine ⟨hs,?_⟩;have hvl:=(List.getElem?_eq_some_iff.1 hv).1;have e1:(z.shelf.set v (l.filter (jU z)))[v]?=some (l.filter (jU z)):=List.getElem?_set_self hvl;have e2:(z.shelf.set v (l.filter (jU z)))[h]?=some a:=by rw [List.getElem?_set_ne hne];exact hhm
 simp only [pollV,hs,e1,e2,Option.getD_some,List.set_set]
theorem PollI.step {y z:Yd} {h v:Nat} (hI:PollI y h z) (hv:v<4) (hh:h<4) (hne:v≠h):PollI y h (pollV z h v):=by
 have h4:=hI.four;obtain ⟨l,hl⟩:=je (l:=z.shelf) (k:=v) (by omega)
 obtain ⟨a,ha⟩:=je (l:=z.shelf) (k:=h) (by omega)
 rw [(jiC hl ha hne).2];have hf:=List.length_filter_le (jU z) l;generalize hL:l.filter (jU z)=L at*;have ha2:(z.shelf.set v (jaF L))[h]?=some a:=by rw [List.getElem?_set_ne hne];exact ha
 have t1:=jiU (l2:=jaF L) hl;have t2:=jiU (y:=⟨z.now,z.seq,z.shelf.set v (jaF L),z.runs⟩) (l2:=qb a (vh L)) ha2;have t3:=jsc a (vh L);have t4:(vh L).length+(jaF L).length=L.length:=by rw [vh,jaF,←List.length_append,List.take_append_drop]
 have t5:=hI.tot;dsimp only at t1 t2;refine ⟨by simp [h4],hI.runs,hI.now,hI.seq,by omega,fun l' hl' e he=>?_⟩
 dsimp only at hl';rw [List.getElem?_set_self (by rw [List.length_set];omega)] at hl'
 obtain rfl:=Option.some.inj hl';rcases jsb he with he|he
 ·exact hI.frs a ha e he
 ·have:=List.mem_of_mem_take he
  rw [←hL] at this;rw [←jsr hI.runs];exact (List.mem_filter.1 this).2
noncomputable def pollZ (y:Yd) (h:Nat) (draw:Int):Yd:=pollF h (jhK h draw) (ze y h)
noncomputable def jjd (y:Yd) (h:Nat) (draw:Int):List En:=((pollZ y h draw).shelf[h]?).getD []
noncomputable def jbd (y:Yd) (worker draw:Int):Int:=if jD y=false then 8 else if¬(0≤worker∧worker≤99) then 5 else if (jjd y (worker.tmod 4).toNat draw).length=0 then 9 else 0
noncomputable def jkr (z:Yd) (h:Nat) (e:En) (l:List En):Yd:=⟨z.now,z.seq,z.shelf.set h l,z.runs.set (runAt z e.run).toNat (kT ((z.runs[(runAt z e.run).toNat]?).getD default) e.task.toNat (((((z.runs[(runAt z e.run).toNat]?).getD default).tasks)[e.task.toNat]?).getD default) z.now)⟩
noncomputable def jpA (z:Yd) (e:En):Int:=IntKind.i64.wrap (((((((z.runs[(runAt z e.run).toNat]?).getD default).tasks)[e.task.toNat]?).getD default)).tri+1)
noncomputable def zQ (y:Yd) (worker draw:Int):Yd:=
 if jD y=false∨¬(0≤worker∧worker≤99) then y
 else match jjd y (worker.tmod 4).toNat draw with
  |[]=>pollZ y (worker.tmod 4).toNat draw
  |e::l=>jkr (pollZ y (worker.tmod 4).toNat draw) (worker.tmod 4).toNat e l
noncomputable def jb9 (y:Yd) (worker draw:Int):List D:=
 if jbd y worker draw≠0 then [iv (jbd y worker draw),iv 0,iv 0,iv 0]
 else match jjd y (worker.tmod 4).toNat draw with
  |[]=>[iv 0,iv 0,iv 0,iv 0]
  |e::l=>[iv 0,iv e.run,iv e.task,iv (jpA (pollZ y (worker.tmod 4).toNat draw) e)]
theorem jmp {y:Yd} {e:En} (h:jU y e=true):∃(k t:Nat) (r:Rn) (x:Tk),runAt y e.run=k∧y.runs[k]?=some r∧e.task=t∧r.tasks[t]?=some x∧x.state=2:=by
 unfold jU at h;rcases vJ y e.run e.task with ⟨_,h2⟩|⟨k,r,h1,h2,⟨_,h3⟩|⟨j,x,hj,hx,h3⟩⟩
 ·rw [h2] at h;cases h
 ·rw [h3] at h;cases h
 ·rw [h3] at h
  exact ⟨k,j,r,x,h1,h2,hj,hx,by simpa using h⟩
section
variable {sh:List (List En)} {n:Nat} {l:List En}
theorem zY (h:n<sh.length):n+1≤(sh.flatMap fun es=>[jm es]).length:=by have:=jaM h;rwa [Nat.mul_one] at this
theorem jab (h:sh[n]?=some l):((sh.flatMap fun es=>[jm es]).drop n).take 1=[jm l]:=by have:=jbJ h;rwa [Nat.mul_one] at this
end
def jbH:C:=iS [iA 3 (.box 27 4 (.t 0)),iA 6 (.alloc 27 [.int .i64 0,.int .i64 0,.slice none 0 0,.slice none 0 0]),iA 7 (.alloc 32 [.int .i64 0,.int .i64 0,.int .i64 0,.int .i64 0])] (.seq (iS [iA 18 (iT 4 3),iA 19 (.call 66 [.t 18]),iA 20 (iU 19)] (iD 20 (iS [iA 21 (iT 4 3),iA 22 (.call 67 [.t 21]),iA 23 (.bld [.int .i64 0,.int .i64 0,.int .i64 0,.int .i64 0] [(0,1,.c (.int .i64 8))]),iC (.st 4 [none,none,some (1,35),some (8,52)] (.t 6) (.t 22)),iC (.st 4 [none,none,none,none] (.t 7) (.t 23))] .ret) .skip)) (.seq (iS [iA 24 (iM 1),iA 25 (.call 68 [.t 24,.c (.int .i64 0),.c (.int .i64 99)]),iA 26 (iU 25)] (iD 26 (iS [iA 27 (iT 4 3),iA 28 (.call 67 [.t 27]),iA 29 (.bld [.int .i64 0,.int .i64 0,.int .i64 0,.int .i64 0] [(0,1,.c (.int .i64 5))]),iC (.st 4 [none,none,some (1,35),some (8,52)] (.t 6) (.t 28)),iC (.st 4 [none,none,none,none] (.t 7) (.t 29))] .ret) .skip)) (iS [iA 30 (iM 1),iA 31 (iQ .rem 3 30 4),iA 8 (iM 31)] (iS [iA 32 (iT 4 3),iA 33 (iM 8),iA 34 (.call 23 [.t 32,.t 33]),iA 9 (.alloc 27 [.int .i64 0,.int .i64 0,.slice none 0 0,.slice none 0 0]),iC (.st 4 [none,none,some (1,35),some (8,52)] (.t 9) (.t 34))] (iS [iA 35 (iM 8),iA 36 (iM 2),iA 37 (.call 69 [.t 35,.t 36]),iA 10 (iM 37)] (.seq (iS [iA 11 (iN 0)] (.blk 0 (.loop (.seq (iS [iA 38 (iM 11),iA 39 (iM 10),iA 40 (iG 39),iA 41 (iP .lss 3 38 40),iA 42 (iM 41),iB 43 42 true (iF 2 9),iB 44 42 true (iL 43),iB 45 42 true (iM 8),iB 46 42 true (iI 1 44 45),iB 47 42 true (iL 46),iB 48 42 true (iG 47),iB 49 42 true (iQ .eql 3 48 0),iA 50 (.pick (.t 42) (.t 49) (.c (.bool false)))] (iD 50 .skip (.exit 0))) (.seq (.blk 1 (.seq (.dreg (T.pure 0 (iA 53 (iT 4 9)) (T.pure 1 (iA 54 (iM 10)) (T.pure 2 (iA 55 (iM 11)) (T.pure 3 (iA 56 (iI 1 54 55)) (T.pure 4 (iA 57 (iL 56)) (T.alt (iA 58 (.call 23 [.t 53,.t 57])) [] (T.alt (iC (.st 4 [none,none,some (1,35),some (8,52)] (.t 9) (.t 58))) [] T.done T.stop) T.stop))))))) (.seq (.dreg (T.pure 0 (iA 60 (iF 2 9)) (T.pure 1 (iA 61 (iL 60)) (T.pure 2 (iA 62 (iM 10)) (T.pure 3 (iA 63 (iM 11)) (T.pure 4 (iA 64 (iI 1 62 63)) (T.pure 5 (iA 65 (iL 64)) (T.pure 6 (iA 66 (iI 1 61 65)) (T.pure 7 (iA 67 (iL 66)) (T.alt (iA 68 (.call 70 [.t 67])) [] (T.pure 9 (iA 59 (iM 68)) (T.pure 10 (iA 69 (iE 59 0)) (T.pure 11 (iA 70 (iE 59 1)) (T.pure 12 (iA 12 (iM 69)) (T.pure 13 (iA 13 (iM 70)) T.done))))) T.stop)))))))))) (.seq (.dreg (T.pure 0 (iA 71 (iF 2 9)) (T.pure 1 (iA 72 (iL 71)) (T.pure 2 (iA 73 (iM 10)) (T.pure 3 (iA 74 (iM 11)) (T.pure 4 (iA 75 (iI 1 73 74)) (T.pure 5 (iA 76 (iL 75)) (T.pure 6 (iA 77 (iM 13)) (T.pure 7 (iA 78 (iI 1 72 76)) (T.alt (iC (.st 1 [some (4,44)] (.t 78) (.t 77))) [] T.done T.stop)))))))))) (.dreg (T.pure 0 (iA 79 (iF 2 9)) (T.pure 1 (iA 80 (iL 79)) (T.pure 2 (iA 81 (iM 8)) (T.pure 3 (iA 82 (iF 2 9)) (T.pure 4 (iA 83 (iL 82)) (T.pure 5 (iA 84 (iM 8)) (T.pure 6 (iA 85 (iI 1 83 84)) (T.pure 7 (iA 86 (iL 85)) (T.pure 8 (iA 87 (iM 12)) (T.alt (iA 88 (.call 71 [.t 86,.t 87])) [2,1,0] (T.pure 10 (iA 89 (iI 1 80 81)) (T.alt (iC (.st 1 [some (4,44)] (.t 89) (.t 88))) [] T.done T.stop)) T.stop))))))))))))))) (.reg [iA 51 (iM 11),iA 52 (iQ .add 3 51 1),iA 11 (iM 52)])))))) (iS [iA 91 (iF 2 9),iA 92 (iL 91),iA 93 (iM 8),iA 94 (iI 1 92 93),iA 95 (iL 94),iA 96 (.call 72 [.t 95]),iA 90 (iM 96),iA 97 (iE 90 0),iA 98 (iE 90 1),iA 99 (iE 90 2),iA 14 (.alloc 44 [.int .i64 0,.int .i64 0,.int .i64 0,.int .i64 0]),iC (.st 4 [none,none,none,none] (.t 14) (.t 97)),iA 15 (iM 98),iA 16 (iM 99)] (.seq (iS [iA 100 (iM 16),iA 101 (iU 100)] (iD 101 (iS [iA 102 (iT 4 9),iA 103 (.bld [.int .i64 0,.int .i64 0,.int .i64 0,.int .i64 0] [(0,1,.c (.int .i64 9))]),iC (.st 4 [none,none,some (1,35),some (8,52)] (.t 6) (.t 102)),iC (.st 4 [none,none,none,none] (.t 7) (.t 103))] .ret) .skip)) (iS [iA 104 (iF 2 9),iA 105 (iL 104),iA 106 (iM 8),iA 107 (iM 15),iA 108 (iI 1 105 106),iC (.st 1 [some (4,44)] (.t 108) (.t 107))] (iS [iA 109 (iT 4 9),iA 110 (iF 2 14),iA 111 (iL 110),iA 112 (.call 26 [.t 109,.t 111]),iA 17 (iM 112)] (.seq (.dreg (T.pure 0 (iA 113 (iF 3 9)) (T.pure 1 (iA 114 (iL 113)) (T.pure 2 (iA 115 (iM 17)) (T.pure 3 (iA 116 (iF 3 9)) (T.pure 4 (iA 117 (iL 116)) (T.pure 5 (iA 118 (iM 17)) (T.pure 6 (iA 119 (iI 8 117 118)) (T.pure 7 (iA 120 (iT 8 119)) (T.pure 8 (iA 121 (iF 3 14)) (T.pure 9 (iA 122 (iL 121)) (T.pure 10 (iA 123 (iF 0 9)) (T.pure 11 (iA 124 (iL 123)) (T.alt (iA 125 (.call 73 [.t 120,.t 122,.t 124])) [2,1,0] (T.pure 13 (iA 126 (iI 8 114 115)) (T.alt (iC (.st 8 [none,none,none,none,none,some (2,161),none,some (4,46)] (.t 126) (.t 125))) [] T.done T.stop)) T.stop)))))))))))))) (.seq (.dreg (T.pure 0 (iA 127 (iT 4 9)) (T.pure 1 (iA 128 (iF 2 14)) (T.pure 2 (iA 129 (iL 128)) (T.pure 3 (iA 130 (iF 3 14)) (T.pure 4 (iA 131 (iL 130)) (T.pure 5 (iA 132 (iF 3 9)) (T.pure 6 (iA 133 (iL 132)) (T.pure 7 (iA 134 (iM 17)) (T.pure 8 (iA 135 (iI 8 133 134)) (T.pure 9 (iA 136 (iF 7 135)) (T.pure 10 (iA 137 (iL 136)) (T.pure 11 (iA 138 (iF 3 14)) (T.pure 12 (iA 139 (iL 138)) (T.pure 13 (iA 140 (iI 4 137 139)) (T.pure 14 (iA 141 (iF 2 140)) (T.pure 15 (iA 142 (iL 141)) (T.pure 16 (iA 143 (.bld [.int .i64 0,.int .i64 0,.int .i64 0,.int .i64 0] [(1,1,.t 129),(2,1,.t 131),(3,1,.t 142)])) (T.alt (iC (.st 4 [none,none,some (1,35),some (8,52)] (.t 6) (.t 127))) [16,15,14,13,12,11,10,9,8,7,6,5,4,3,2,1] (T.alt (iC (.st 4 [none,none,none,none] (.t 7) (.t 143))) [] T.done T.stop) T.stop))))))))))))))))))) .ret))))))))))))
theorem jku:fnC Tryz.prog Tryz.f15=some (jbH,[.cell 6 true 4,.cell 7 true 4],144):=by kernel_rfl
def jbI:C:=iS [iA 3 (.box 27 4 (.t 0)),iA 6 (.alloc 27 [.int .i64 0,.int .i64 0,.slice none 0 0,.slice none 0 0]),iA 7 (.alloc 32 [.int .i64 0,.int .i64 0,.int .i64 0,.int .i64 0])] (.seq (.blk 0 (iS [iA 20 (iT 4 3),iA 21 (.call 18 [.t 20]),iA 22 (iU 21),iA 19 (iM 22)] (iD 19 (iS [iA 23 (iT 4 3),iA 24 (.call 61 [.t 23]),iA 25 (.bld [.int .i64 0,.int .i64 0,.int .i64 0,.int .i64 0] [(0,1,.c (.int .i64 8))]),iC (.st 4 [none,none,some (1,35),some (8,52)] (.t 6) (.t 24)),iC (.st 4 [none,none,none,none] (.t 7) (.t 25))] .ret) (iS [iA 27 (iM 1),iA 28 (.call 62 [.t 27,.c (.int .i64 0),.c (.int .i64 99)]),iA 29 (iU 28),iA 26 (iM 29)] (iD 26 (iS [iA 30 (iT 4 3),iA 31 (.call 61 [.t 30]),iA 32 (.bld [.int .i64 0,.int .i64 0,.int .i64 0,.int .i64 0] [(0,1,.c (.int .i64 5))]),iC (.st 4 [none,none,some (1,35),some (8,52)] (.t 6) (.t 31)),iC (.st 4 [none,none,none,none] (.t 7) (.t 32))] .ret) .skip))))) (iS [iA 33 (iM 1),iA 34 (iQ .rem 3 33 4),iA 8 (iM 34)] (iS [iA 35 (iT 4 3),iA 36 (iM 8),iA 37 (.call 24 [.t 35,.t 36]),iA 9 (.alloc 27 [.int .i64 0,.int .i64 0,.slice none 0 0,.slice none 0 0]),iC (.st 4 [none,none,some (1,35),some (8,52)] (.t 9) (.t 37))] (.seq (iS [iA 38 (iM 8),iA 39 (iM 2),iA 40 (.call 19 [.t 38,.t 39]),iA 41 (iG 40),iA 42 (iN 0)] (.blk 1 (.loop (iS [iA 43 (iP .lss 3 42 41)] (.seq (iD 43 .skip (.exit 1)) (.seq (.blk 2 (iS [iA 44 (iI 1 40 42),iA 45 (iL 44),iA 11 (iM 45)] (.seq (iS [iA 46 (iF 2 9),iA 47 (iL 46),iA 48 (iM 8),iA 49 (iI 1 47 48),iA 50 (iL 49),iA 51 (iG 50),iA 52 (iQ .gtr 3 51 0)] (iD 52 (.exit 1) .skip)) (iS [iA 53 (iT 4 9),iA 54 (iM 11),iA 55 (.call 24 [.t 53,.t 54]),iC (.st 4 [none,none,some (1,35),some (8,52)] (.t 9) (.t 55))] (iS [iA 57 (iF 2 9),iA 58 (iL 57),iA 59 (iM 11),iA 60 (iI 1 58 59),iA 61 (iL 60),iA 62 (.call 63 [.t 61]),iA 56 (iM 62),iA 63 (iE 56 0),iA 64 (iE 56 1),iA 12 (iM 63),iA 13 (iM 64)] (.seq (.dreg (T.pure 0 (iA 65 (iF 2 9)) (T.pure 1 (iA 66 (iL 65)) (T.pure 2 (iA 67 (iM 8)) (T.pure 3 (iA 68 (iF 2 9)) (T.pure 4 (iA 69 (iL 68)) (T.pure 5 (iA 70 (iM 8)) (T.pure 6 (iA 71 (iI 1 69 70)) (T.pure 7 (iA 72 (iL 71)) (T.pure 8 (iA 73 (iM 12)) (T.alt (iA 74 (.call 64 [.t 72,.t 73])) [2,1,0] (T.pure 10 (iA 75 (iI 1 66 67)) (T.alt (iC (.st 1 [some (4,44)] (.t 75) (.t 74))) [] T.done T.stop)) T.stop))))))))))) (.reg [iA 76 (iF 2 9),iA 77 (iL 76),iA 78 (iM 11),iA 79 (iM 13),iA 80 (iI 1 77 78),iC (.st 1 [some (4,44)] (.t 80) (.t 79))]))))))) (.reg [iA 81 (iQ .add 3 42 1),iA 42 (iM 81)]))))))) (iS [iA 83 (iF 2 9),iA 84 (iL 83),iA 85 (iM 8),iA 86 (iI 1 84 85),iA 87 (iL 86),iA 88 (.call 65 [.t 87]),iA 82 (iM 88),iA 89 (iE 82 0),iA 90 (iE 82 1),iA 91 (iE 82 2),iA 14 (.alloc 44 [.int .i64 0,.int .i64 0,.int .i64 0,.int .i64 0]),iC (.st 4 [none,none,none,none] (.t 14) (.t 89)),iA 15 (iM 90),iA 16 (iM 91)] (.seq (iS [iA 92 (iM 16),iA 93 (iU 92)] (iD 93 (iS [iA 94 (iT 4 9),iA 95 (.bld [.int .i64 0,.int .i64 0,.int .i64 0,.int .i64 0] [(0,1,.c (.int .i64 9))]),iC (.st 4 [none,none,some (1,35),some (8,52)] (.t 6) (.t 94)),iC (.st 4 [none,none,none,none] (.t 7) (.t 95))] .ret) .skip)) (iS [iA 96 (iF 2 9),iA 97 (iL 96),iA 98 (iM 8),iA 99 (iM 15),iA 100 (iI 1 97 98),iC (.st 1 [some (4,44)] (.t 100) (.t 99))] (.seq (.dreg (T.pure 0 (iA 101 (iF 3 9)) (T.pure 1 (iA 102 (iL 101)) (T.pure 2 (iA 103 (iT 4 9)) (T.pure 3 (iA 104 (iF 2 14)) (T.pure 4 (iA 105 (iL 104)) (T.alt (iA 106 (.call 25 [.t 103,.t 105])) [1,0] (T.pure 6 (iA 107 (iI 8 102 106)) (T.pure 7 (iA 17 (iM 107)) T.done)) T.stop))))))) (.seq (.dreg (T.pure 0 (iA 108 (iM 17)) (T.pure 1 (iA 109 (iF 0 108)) (T.pure 2 (iA 110 (iF 7 109)) (T.pure 3 (iA 111 (iL 110)) (T.pure 4 (iA 112 (iF 3 14)) (T.pure 5 (iA 113 (iL 112)) (T.pure 6 (iA 114 (iI 4 111 113)) (T.pure 7 (iA 18 (iM 114)) T.done))))))))) (iS [iA 115 (iM 18),iA 116 (iF 0 115),iA 117 (iF 0 116),iC (.st 1 [none] (.t 117) (.c (.int .i64 3)))] (iS [iA 118 (iM 18),iA 119 (iF 0 118),iA 120 (iF 2 119),iA 121 (iL 120),iA 122 (iQ .add 3 121 1),iA 123 (iF 0 118),iA 124 (iF 2 123),iC (.st 1 [none] (.t 124) (.t 122))] (.seq (.dreg (T.pure 0 (iA 125 (iM 18)) (T.pure 1 (iA 126 (iF 0 9)) (T.pure 2 (iA 127 (iL 126)) (T.pure 3 (iA 128 (iM 17)) (T.pure 4 (iA 129 (iF 0 128)) (T.pure 5 (iA 130 (iF 1 129)) (T.pure 6 (iA 131 (iF 2 130)) (T.pure 7 (iA 132 (iL 131)) (T.pure 8 (iA 133 (iP .add 3 127 132)) (T.pure 9 (iA 134 (iF 0 125)) (T.pure 10 (iA 135 (iF 3 134)) (T.alt (iC (.st 1 [none] (.t 135) (.t 133))) [] T.done T.stop))))))))))))) (.seq (.dreg (T.pure 0 (iA 136 (iT 4 9)) (T.pure 1 (iA 137 (iF 2 14)) (T.pure 2 (iA 138 (iL 137)) (T.pure 3 (iA 139 (iF 3 14)) (T.pure 4 (iA 140 (iL 139)) (T.pure 5 (iA 141 (iM 18)) (T.pure 6 (iA 142 (iF 0 141)) (T.pure 7 (iA 143 (iF 2 142)) (T.pure 8 (iA 144 (iL 143)) (T.pure 9 (iA 145 (.bld [.int .i64 0,.int .i64 0,.int .i64 0,.int .i64 0] [(1,1,.t 138),(2,1,.t 140),(3,1,.t 144)])) (T.alt (iC (.st 4 [none,none,some (1,35),some (8,52)] (.t 6) (.t 136))) [9,8,7,6,5,4,3,2,1] (T.alt (iC (.st 4 [none,none,none,none] (.t 7) (.t 145))) [] T.done T.stop) T.stop)))))))))))) .ret)))))))))))))
theorem jkz:fnC Tryz.prog Tryz.f14=some (jbI,[.cell 6 true 4,.cell 7 true 4],146):=by kernel_rfl
theorem jqu {y:Yd} {worker draw:Int} {h:Nat} {Z:Yd} (hP:YardOkP y) (hw:0≤worker∧worker≤99) (hhn:(worker.tmod 4).toNat=h) (hZ:pollZ y h draw=Z) (ha:Z.shelf[h]?=some []):zQ y worker draw=Z∧jb9 y worker draw=[iv 9,iv 0,iv 0,iv 0]:=by
 have hE:jjd y (worker.tmod 4).toNat draw=[]:=by rw [hhn,jjd,hZ,ha,Option.getD_some]
 have hok:=zu hP;have hK:jbd y worker draw=9:=by rw [jbd,if_neg (by rw [hok];decide),if_neg (by simpa using hw),hE];rfl
 refine ⟨?_,by rw [jb9,if_pos (by rw [hK];decide),hK]⟩
 rw [zQ,if_neg (by rintro (h|h);(rw [hok] at h;cases h);exact h hw),hE]
 dsimp only;rw [hhn,hZ]
theorem jnr {y:Yd} {worker draw:Int} {h:Nat} {Z:Yd} {e:En} {l:List En} (hP:YardOkP y) (hw:0≤worker∧worker≤99) (hhn:(worker.tmod 4).toNat=h) (hZ:pollZ y h draw=Z) (ha:Z.shelf[h]?=some (e::l)):zQ y worker draw=jkr Z h e l∧jb9 y worker draw=[iv 0,iv e.run,iv e.task,iv (jpA Z e)]:=by
 have hE:jjd y (worker.tmod 4).toNat draw=e::l:=by rw [hhn,jjd,hZ,ha,Option.getD_some]
 have hok:=zu hP;have hK:jbd y worker draw=0:=by rw [jbd,if_neg (by rw [hok];decide),if_neg (by simpa using hw),hE,if_neg (by simp)]
 refine ⟨?_,?_⟩
 ·rw [zQ,if_neg (by rintro (h|h);(rw [hok] at h;cases h);exact h hw),hE]
  dsimp only;rw [hhn,hZ]
 ·rw [jb9,if_neg (by rw [hK];decide),hE]
  dsimp only;rw [hhn,hZ]
abbrev ZRp (b ty:Nat):Ob:=.box b ty [.a (.v (.int .i64 0)),.a (.v (.int .i64 0)),.a (.v (.int .i64 0)),.a (.v (.int .i64 0))]
theorem jBs {g sz n:Nat} {d:D} {η:js} (hd:d.isSl=true) (hs:d.size=sz) (hn:d.len=n) (hp:0<sz):∀s:St,s.o g=.loose d η→∃dd,Is s (.hs g 0 [] (η []) sz 0 n) dd:=by
 intro s ho;subst hs hn;exact ⟨d.sub 0 (0+d.len),d,η,d,by rw [ho];rfl,rfl,jcA d,hd,rfl,hp,by omega,rfl⟩
theorem jdE {y:Yd} {worker draw:Int} {h:Nat} {Z:Yd} {a:List En} {b6 b7 b9 t7:Nat} {f2 f3:js} (ht:jJ y≤2000000) (hP:YardOkP y) (hw:0≤worker∧worker≤99) (hhn:(worker.tmod 4).toNat=h) (hh4:h<4) (hZ:pollZ y h draw=Z) (hI:PollI y h Z) (ha:Z.shelf[h]?=some a) (hal:a.length≤2000000):
 wpC Tryz.prog 0 (C.sub [1,1,1,1,1,1,1] (C.ghs [[1,1,1,1,1,1,1,1,1,1,1,1,0],[1,1,1,1,1,1,1,1,1,1,1,1,1]] jbH)) (jxx [.cell 6 true 4,.cell 7 true 4] (.tup [(true,jb (zQ y worker draw)),(true,jb9 y worker draw)])) (St.of [(6,Bx 600 b6),(7,Bx 700 b7),(8,Ni h),(9,Bx 900 b9)] [(600,ZYd b6 tYd),(700,ZRp b7 t7),(900,kq b9 tYd Z.now Z.seq Z.shelf f2 Z.runs f3)]):=by
 unfold jbH;simp only [C.ghs,C.ghAt,List.foldr,C.sub];have h4:=hI.four;have hhl:=(List.getElem?_eq_some_iff.1 ha).1;have h0h:(h:Int)≥0:=by omega
 simp only [go_sem,hhl,h0h,Nat.mul_one,jab ha,zY hhl,ko ha];cases a with
 |nil=>
  obtain ⟨e1,e2⟩:=jqu hP hw hhn hZ ha;rw [e1,e2];refine jc (jbO [] (by simp)) (by simp only [go_sem,ko ha,jk,jp2,je4,List.headD_nil,List.isEmpty_nil,List.tail_nil]) fun ηt=>?_
  simp only [go_sem,ko ha,jk,jp2,je4,List.headD_nil,List.isEmpty_nil,List.tail_nil];intro b14;simp only [ve];refine jt _ _ _ _ _ ?_;simp only [go_sem,jC,true_or];refine jt _ _ _ _ _ ?_;simp only [go_sem,jC,jW,jN,true_or,jb]
 |cons e l=>
  obtain ⟨e1,e2⟩:=jnr hP hw hhn hZ ha;rw [e1,e2];refine jc (jbO (e::l) (by omega)) (by simp only [go_sem,ko ha,jk,jp2,je4,List.headD_cons,List.isEmpty_cons,List.tail_cons]) fun ηt=>?_
  simp only [go_sem,ko ha,jk,jp2,je4,List.headD_cons,List.isEmpty_cons,List.tail_cons];intro b14;simp only [go_sem,hhl,h0h,Nat.mul_one,zY hhl,jab ha,jao];refine fun g1 hg1=>?_
  obtain ⟨k,t,r,x,hrk,hr,het,hx,hxs⟩:=jmp (hI.frs _ ha e (by simp))
  rw [←hI.runs] at hr
  have hrz:runAt ⟨Z.now,Z.seq,Z.shelf.set h l,Z.runs⟩ e.run=(k:Int):=by
   rw [←hrk];unfold runAt;rw [hI.runs]
  have hrz2:runAt Z e.run=(k:Int):=hrz;have hkl:=(List.getElem?_eq_some_iff.1 hr).1;have htl:=(List.getElem?_eq_some_iff.1 hx).1;have h0k:(k:Int)≥0:=by omega
  have h0t:(t:Int)≥0:=by omega
  have hrb:=jco (y:=Z) (by have:=hI.tot;omega) (List.mem_of_getElem? hr)
  have hH:jkr Z h e l=⟨Z.now,Z.seq,Z.shelf.set h l,Z.runs.set k (kT r t x Z.now)⟩:=by
   simp only [jkr,hrz2,het,Int.toNat_natCast,hr,hx,Option.getD_some]
  have hT:jpA Z e=IntKind.i64.wrap (x.tri+1):=by
   simp only [jpA,hrz2,het,Int.toNat_natCast,hr,hx,Option.getD_some]
  rw [hH,hT,het];refine jc (qj ⟨Z.now,Z.seq,Z.shelf.set h l,Z.runs⟩ e.run) (by simp only [go_sem,jb]) fun η=>?_
  simp only [go_sem,jb];rw [hrz];simp only [go_sem,hkl,h0k,jhl hr,jcy hr,jd,ja,het];refine jc (jgF r t x Z.now hx hrb.1 hrb.2) (by simp only [go_sem,jd,ja,jZ hr,ke hr]) fun ηq=>?_
  simp only [go_sem,jd,ja,jZ hr,ke hr];simp only [go_sem,hkl,h0k,jcy hr,jo7 (kT r t x Z.now) hkl];refine fun g3 hg3=>?_
  have hr2:(Z.runs.set k (kT r t x Z.now))[k]?=some (kT r t x Z.now):=List.getElem?_set_self hkl;have hkl2:k<(Z.runs.set k (kT r t x Z.now)).length:=by rw [List.length_set];exact hkl
  have hx2:(kT r t x Z.now).tasks[t]?=some ⟨3,x.need,IntKind.i64.wrap (x.tri+1),IntKind.i64.wrap (Z.now+r.plan.wait)⟩:=List.getElem?_set_self htl;have htl2:t<(kT r t x Z.now).tasks.length:=(List.getElem?_eq_some_iff.1 hx2).1;have hstt:(kT r t x Z.now).tasks[t]?=some ⟨3,x.need,IntKind.i64.wrap (x.tri+1),IntKind.i64.wrap (Z.now+r.plan.wait)⟩:=hx2;generalize kT r t x Z.now=r2 at*;refine kY ?_;refine WkK.wk (s':=St.of [(6,Bx 600 b6),(7,Bx 700 b7),(9,Bx 900 b9),(14,Bx 1400 b14),(17,Ni k)] [(600,ZYd b6 tYd),(700,ZRp b7 t7),(900,kq b9 tYd Z.now Z.seq (Z.shelf.set h l) g1 (Z.runs.set k r2) g3),(1400,.box b14 tEn [.a (.v (.int .i64 e.prio)),.a (.v (.int .i64 e.seq)),.a (.v (.int .i64 e.run)),.a (.v (.int .i64 e.task))])]) (jg [some 600,some 700,some 900,some 1400] (by simp only [go_sem,het]<;>and_intros<;>first|rfl|assumption|trivial)) ?_
  refine jgq 900 2 94 rfl rfl rfl (by decide) (Nat.zero_lt_succ 0) ?_
  refine jgq 900 3 95 rfl rfl rfl (by decide) (Nat.zero_lt_succ 7) ?_
  have hEx:=jBs (g:=95) (sz:=8) (d:=jK (Z.runs.set k r2)) (η:=g3) rfl rfl (vf _) (by decide)
  refine WkK.wk (s':=St.of [(6,Bx 600 b6),(7,Bx 700 b7),(9,Bx 900 b9),(14,Bx 1400 b14),(17,Ni k)] [(600,ZYd b6 tYd),(700,ZRp b7 t7),(900,.box b9 tYd [.a (.v (.int .i64 Z.now)),.a (.v (.int .i64 Z.seq)),.a (.hs 94 0 [] (g1 []) 1 0 (Z.shelf.set h l).length),.a (.hs 95 0 [] (g3 []) 8 0 (Z.runs.set k r2).length)]),(94,.loose (ku (Z.shelf.set h l)) g1),(95,.loose (jK (Z.runs.set k r2)) g3),(1400,.box b14 tEn [.a (.v (.int .i64 e.prio)),.a (.v (.int .i64 e.seq)),.a (.v (.int .i64 e.run)),.a (.v (.int .i64 e.task))])]) (jg [some 600,some 700,some 900,some 94,some 95,some 1400] (by simp only [go_sem]<;>and_intros<;>first|rfl|assumption|trivial)) ?_
  refine WkK.of ?_;simp only [go_sem,hkl2,h0k,Nat.add_zero,hEx,qY hr2,vm hr2,jX hr2,htl2,h0t,jlq hx2,jla hx2,het];refine kY ?_;refine WkK.wk (s':=St.of [(6,Bx 600 b6),(7,Bx 700 b7)] [(600,.box b6 tYd [.a (.v (.int .i64 Z.now)),.a (.v (.int .i64 Z.seq)),.a (.hs 94 0 [] (g1 []) 1 0 (Z.shelf.set h l).length),.a (.hs 95 0 [] (g3 []) 8 0 (Z.runs.set k r2).length)]),(700,.box b7 t7 [.a (.v (.int .i64 0)),.a (.v (.int .i64 e.run)),.a (.v (.int .i64 t)),.a (.v (.int .i64 (IntKind.i64.wrap (x.tri+1))))]),(94,.loose (ku (Z.shelf.set h l)) g1),(95,.loose (jK (Z.runs.set k r2)) g3)]) (jg [some 600,some 700,some 94,some 95] (by simp only [go_sem]<;>and_intros<;>first|rfl|assumption|trivial)) ?_
  refine ja2 600 2 94 (d:=ku (Z.shelf.set h l)) (η:=g1) rfl rfl rfl rfl (jas _).symm rfl (Nat.zero_lt_succ 0) ?_;refine ja2 600 3 95 (d:=jK (Z.runs.set k r2)) (η:=g3) rfl rfl rfl rfl (vf _).symm rfl (Nat.zero_lt_succ 7) ?_;refine WkK.of ?_;simp only [go_sem];simp only [ve];refine jt _ _ _ _ _ ?_;simp only [go_sem,jC,true_or];refine jt _ _ _ _ _ ?_;simp only [go_sem,jC,jW,jN,true_or,jb]
theorem jo4 (y:Yd) (worker draw:Int) (ht:jJ y≤2000000):kj Tryz.prog 15 [.agg (jb y),.c (.val (.int .i64 worker)),.c (.val (.int .i64 draw))] (.tup [(true,jb (zQ y worker draw)),(true,jb9 y worker draw)]):=by
 refine zn [[1,1,1,1,1,1,1],[1,1,1,1,1,1,1,1,1,1,1,1,0],[1,1,1,1,1,1,1,1,1,1,1,1,1]] Tryz.func15 jku (by simp) ?_
 unfold jbH;simp only [C.ghs,C.ghAt,List.foldr];simp only [go_sem,jb];intro b3 b6 b7;refine jc (qi y ht) (by simp only [go_sem,jb]) fun η=>?_
 simp only [go_sem,jb];cases hok:jD y
 ·have hy:zQ y worker draw=y:=by rw [zQ,if_pos (.inl hok)]
  have hc:jbd y worker draw=8:=by rw [jbd,if_pos hok]
  have hr:jb9 y worker draw=[iv 8,iv 0,iv 0,iv 0]:=by rw [jb9,if_pos (by rw [hc];decide),hc]
  rw [hy,hr];simp only [go_sem,jb,hok];refine jc (kx y ht) (by simp only [go_sem,jb]) fun ηc=>?_
  simp only [go_sem,jb];simp only [ve];refine jt _ _ _ _ _ ?_;simp only [go_sem,jC,true_or];refine jt _ _ _ _ _ ?_;simp only [go_sem,jC,jW,jN,true_or,jb]
 have hP:=yard_iff.1 hok;simp only [go_sem,jb,hok];refine jc (jL worker 0 99) (by simp only [go_sem,jb]) fun η=>?_
 simp only [go_sem,jb];cases hw:decide (0≤worker∧worker≤99)
 ·have hw':=of_decide_eq_false hw
  have hy:zQ y worker draw=y:=by rw [zQ,if_pos (.inr hw')]
  have hc:jbd y worker draw=5:=by rw [jbd,if_neg (by rw [hok];decide),if_pos hw']
  have hr:jb9 y worker draw=[iv 5,iv 0,iv 0,iv 0]:=by rw [jb9,if_pos (by rw [hc];decide),hc]
  rw [hy,hr];simp only [go_sem,jb,hw];refine jc (kx y ht) (by simp only [go_sem,jb]) fun ηc=>?_
  simp only [go_sem,jb];simp only [ve];refine jt _ _ _ _ _ ?_;simp only [go_sem,jC,true_or];refine jt _ _ _ _ _ ?_;simp only [go_sem,jC,jW,jN,true_or,jb]
 have hw':=of_decide_eq_true hw;obtain ⟨h,hh⟩:∃h:Nat,worker.tmod 4=(h:Int):=⟨(worker.tmod 4).toNat,by rw [Int.tmod_eq_emod_of_nonneg hw'.1];omega⟩
 have hh4:h<4:=by rw [Int.tmod_eq_emod_of_nonneg hw'.1] at hh;omega
 have hwr:IntKind.i64.wrap (worker.tmod 4)=(h:Int):=by rw [hh];exact jf (by omega) (by omega)
 have h0h:(h:Int)≥0:=by omega
 simp only [go_sem,jb,hw,hh];refine jc (jhs y h ht) (by simp only [go_sem,jb]) fun ηs=>?_
 simp only [go_sem,jb];intro b9;refine jc (jhP h draw) (by simp only [go_sem,jb]) fun ηv=>?_
 simp only [go_sem,jb];have hI0:=PollI.start hP hh4;obtain ⟨v0,v1,v2,hv,w0,w1,w2,n0,n1,n2⟩:=jis hh4 draw;have hZ:pollZ y h draw=pollF h (jhK h draw) (ze y h):=rfl;generalize hz0:ze y h=z0 at*;generalize jhK h draw=V at*;have hVl:V.length=3:=by rw [hv];rfl
 have hVm:∀(i:Nat) (v:Int),V[i]?=some v→∃n:Nat,v=n∧n<4∧n≠h:=fun i v hi=>by
  have:=List.mem_of_getElem? hi;rw [hv] at this;simp at this;rcases this with rfl|rfl|rfl
  ·exact ⟨v0,rfl,w0,n0⟩
  ·exact ⟨v1,rfl,w1,n1⟩
  ·exact ⟨v2,rfl,w2,n2⟩
 obtain ⟨Z,hZe⟩:∃Z,pollF h V z0=Z:=⟨_,rfl⟩;have hPZ:pollZ y h draw=Z:=by rw [hZ,hZe]
 have hhn:(worker.tmod 4).toNat=h:=by rw [hh];omega
 have hpk:jbd y worker draw=if ((Z.shelf[h]?).getD []).length=0 then 9 else 0:=by rw [jbd,if_neg (by rw [hok];decide),if_neg (by simpa using hw'),hhn,jjd,hPZ]
 refine jn (fun i:Nat×Yd×js×js=>St.of [(6,Bx 600 b6),(7,Bx 700 b7),(8,Ni h),(9,Bx 900 b9),(10,Hd 10 (ηv 0)),(11,Ni i.1)] [(600,ZYd b6 _),(700,ZRp b7 _),(900,kq b9 _ i.2.1.now i.2.1.seq i.2.1.shelf i.2.2.1 i.2.1.runs i.2.2.2),(10,.loose (jh V) (ηv 0))]) (fun i=>i.1≤V.length∧PollI y h i.2.1∧pollF h (V.drop i.1) i.2.1=Z) (fun i=>V.length-i.1) (0,z0,ηs 2,ηs 3) (⟨Nat.zero_le _,hI0,hZe⟩) (jg [some 600,some 700,some 900,some 3700] (by simp only [go_sem,jb]<;>and_intros<;>first|rfl|assumption|trivial)) ?_
 rintro ⟨i,z,f2,f3⟩ ⟨hi,hI,hF⟩;dsimp only at hi hI hF;have h4:=hI.four;obtain ⟨a,ha⟩:=je (l:=z.shelf) (k:=h) (by omega)
 have hhl:=(List.getElem?_eq_some_iff.1 ha).1;have hal:=vU (y:=z) (by have:=hI.tot;omega) (List.mem_of_getElem? ha)
 have hend:(i=V.length∨a.length≠0)→z=Z:=fun hc=>by
  rcases hc with hc|hc
  ·rw [←hF,hc,List.drop_length];rfl
  ·rw [←hF]
   cases hd:V.drop i with
   |nil=>rfl
   |cons v vs=>rw [pollF,ha,Option.getD_some,if_neg hc]
 by_cases hlt:i<V.length
 ·have hlt':(i:Int)<V.length:=by omega
  have h0i:(i:Int)≥0:=by omega
  have hwi:IntKind.i64.wrap ((i:Int)+1)=((i+1:Nat):Int):=jf (by omega) (by omega)
  cases he:((a.length:Nat):Int)==0
  ·obtain rfl:=hend (.inr (by intro h0;rw [h0] at he;cases he))
   simp only [go_sem,hlt',hhl,h0h,Nat.mul_one,jab ha,zY hhl,ko ha,he];refine kY ?_;refine WkK.wk (s':=St.of [(6,Bx 600 b6),(7,Bx 700 b7),(8,Ni h),(9,Bx 900 b9)] [(600,ZYd b6 _),(700,ZRp b7 _),(900,kq b9 _ z.now z.seq z.shelf f2 z.runs f3)]) (jg [some 600,some 700,some 900] (by simp only [go_sem]<;>and_intros<;>first|rfl|assumption|trivial)) ?_
   exact WkK.of (jdE ht hP hw' hhn hh4 hPZ hI ha hal)
  ·have ha0:a.length=0:=by simp only [beq_iff_eq] at he;omega
   obtain ⟨v,hv⟩:=je hlt;obtain ⟨n,rfl,hn4,hnh⟩:=hVm i v hv;have hvn:0≤(n:Int):=by omega
   have hxa:((V.flatMap fun n=>[iv n]).drop i).take 1=[iv (n:Int)]:=by have:=jj hv;rwa [Nat.mul_one] at this
   have hxi:i+1≤(V.flatMap fun n=>[iv n]).length:=by have:=ji hlt;rwa [Nat.mul_one] at this
   obtain ⟨l,hl⟩:=je (l:=z.shelf) (k:=n) (by omega)
   obtain ⟨e1,e2⟩:=jiC hl ha hnh;have hstep:=hI.step hn4 hh4 hnh
   have hFn:pollF h (V.drop (i+1)) (pollV z h n)=Z:=by
    rw [←hF,List.drop_eq_getElem_cons hlt,pollF,ha,Option.getD_some,if_pos ha0];have:V[i]=(n:Int):=by rw [List.getElem?_eq_getElem hlt] at hv;exact Option.some.inj hv
    rw [this,Int.toNat_natCast]
   have hlf:=List.length_filter_le (jU z) l;have hll:=vU (y:=z) (by have:=hI.tot;omega) (List.mem_of_getElem? hl)
   rw [e2] at hFn hstep;simp only [go_sem,hlt',hlt,hhl,h0h,h0i,Nat.mul_one,jab ha,zY hhl,ko ha,he,hxa,hxi];refine jc (jhs z n (by have:=hI.tot;omega)) (by simp only [go_sem,jb]) fun ηw=>?_
   simp only [go_sem,jb];rw [e1];generalize l.filter (jU z)=L at*;have q1:(z.shelf.set n L)[n]?=some L:=List.getElem?_set_self (by omega)
   have q2:n<(z.shelf.set n L).length:=by rw [List.length_set];omega
   have q0:(n:Int)≥0:=hvn;simp only [go_sem,hlt,h0i,Nat.mul_one,hxa,hxi,jab q1,zY q2,ko q1,q2,q0];refine jc (jlV L (by omega)) (by simp only [go_sem,ko q1]) fun ηh=>?_
   simp only [go_sem,ko q1];simp only [go_sem,hlt,h0i,Nat.mul_one,hxa,hxi,zY q2,jab q1,q2,q0,jao,List.set_set];refine fun g' hg'=>?_
   have q3:(z.shelf.set n (jaF L))[h]?=some a:=by rw [List.getElem?_set_ne hnh];exact ha
   have q4:h<(z.shelf.set n (jaF L)).length:=by rw [List.length_set];omega
   have q5:(vh L).length≤L.length:=by rw [vh,List.length_take];omega
   simp only [go_sem,h0h,Nat.mul_one,zY q4,jab q3,q4,ko q3];refine jc (jlU a (vh L) (by omega)) (by simp only [go_sem,ko q3]) fun ηm=>?_
   simp only [go_sem,ko q3];simp only [go_sem,h0h,Nat.mul_one,zY q4,jab q3,q4,jao,hwi];refine fun g2' hg2'=>?_
   exact ⟨(i+1,⟨z.now,z.seq,(z.shelf.set n (jaF L)).set h (qb a (vh L)),z.runs⟩,g2',ηw 3),⟨hlt,hstep,hFn⟩,(jg [some 600,some 700,some 900,some 10] (by simp only [go_sem]<;>and_intros<;>first|rfl|assumption|trivial)),by (try dsimp only);omega⟩
 ·have hlt':¬(i:Int)<V.length:=by omega
  obtain rfl:=hend (.inl (by omega))
  simp only [go_sem,hlt'];refine kY ?_;refine WkK.wk (s':=St.of [(6,Bx 600 b6),(7,Bx 700 b7),(8,Ni h),(9,Bx 900 b9)] [(600,ZYd b6 _),(700,ZRp b7 _),(900,kq b9 _ z.now z.seq z.shelf f2 z.runs f3)]) (jg [some 600,some 700,some 900] (by simp only [go_sem]<;>and_intros<;>first|rfl|assumption|trivial)) ?_
  exact WkK.of (jdE ht hP hw' hhn hh4 hPZ hI ha hal)
theorem jbP (l:List En) (hl:l.length≤4000000):kj Tryz.prog 65 [.c (jm l)] (.tup [(true,jk (jp2 l)),(false,[jm l.tail]),(false,[.val (.bool (je4 l))])]):=by
 refine jq Tryz.func65 jeS (by simp) ?_
 unfold jb3;cases l with
 |nil=>
  simp only [go_sem,jk,jp2,je4,List.headD_nil,List.isEmpty_nil,List.tail_nil];intro b2;simp only [ve];refine jt _ _ _ _ _ ?_;simp only [go_sem,jC,jkV,jkU,jW,jN,true_or,jdf]
 |cons x l=>
  have hle:l.length≤4000000:=by rw [List.length_cons] at hl;omega
  have h0:(x::l)[0]?=some x:=rfl;have h1:(((l.length+1:Nat):Int)==0)=false:=by simp only [beq_eq_false_iff_ne,ne_eq];omega
  have h2:1≤l.length+1:=by omega
  have h3:0<l.length+1:=by omega
  have hd:List.take l.length l=l:=List.take_length;simp only [go_sem,jk,jp2,je4,List.headD_cons,List.isEmpty_cons,List.tail_cons,h1];intro b2;simp only [go_sem,h2,h3,jI h0,jk,hd,Nat.le_refl,Nat.add_sub_cancel];refine jc (ki l hle) (by simp only [go_sem,hd,jk]) fun ηa=>?_
  simp only [go_sem,hd,jk];simp only [ve];refine jt _ _ _ _ _ ?_;simp only [go_sem,jC,jkV,jkU,jW,jN,true_or]
section
variable {l:List Rn} {k:Nat} {r:Rn}
theorem jBW (h:l[k]?=some r):((l.flatMap jd).drop (k*8+1+2)).take 1=[.val (.int .i64 r.plan.wait)]:=qw (enc:=jd) (size:=8) (fun _=>rfl) h (j:=3) (n:=1) (by decide)
theorem jBn (h:l[k]?=some r):k*8+1+2+1≤(l.flatMap jd).length:=qu (enc:=jd) (size:=8) (fun _=>rfl) h (j:=3) (n:=1) (by decide)
end
theorem jdF {y:Yd} {worker draw:Int} {h:Nat} {Z:Yd} {a:List En} {b6 b7 b9 t7:Nat} {f2 f3:js} (ht:jJ y≤2000000) (hP:YardOkP y) (hw:0≤worker∧worker≤99) (hhn:(worker.tmod 4).toNat=h) (hh4:h<4) (hZ:pollZ y h draw=Z) (hI:PollI y h Z) (ha:Z.shelf[h]?=some a) (hal:a.length≤2000000):
 wpC Tryz.prog 0 (C.sub [1,1,1,1,1] (C.ghs [[1,1,1,1,1,1,1,1,1,1,1,1,1,0],[1,1,1,1,1,1,1,1,1,1,1,1,1,1]] jbI)) (jxx [.cell 6 true 4,.cell 7 true 4] (.tup [(true,jb (zQ y worker draw)),(true,jb9 y worker draw)])) (St.of [(6,Bx 600 b6),(7,Bx 700 b7),(8,Ni h),(9,Bx 900 b9)] [(600,ZYd b6 tYd),(700,ZRp b7 t7),(900,kq b9 tYd Z.now Z.seq Z.shelf f2 Z.runs f3)]):=by
 unfold jbI;simp only [C.ghs,C.ghAt,List.foldr,C.sub];have h4:=hI.four;have hhl:=(List.getElem?_eq_some_iff.1 ha).1;have h0h:(h:Int)≥0:=by omega
 simp only [go_sem,hhl,h0h,Nat.mul_one,jab ha,zY hhl,ko ha];cases a with
 |nil=>
  obtain ⟨e1,e2⟩:=jqu hP hw hhn hZ ha;rw [e1,e2];refine jc (jbP [] (by simp)) (by simp only [go_sem,ko ha,jk,jp2,je4,List.headD_nil,List.isEmpty_nil,List.tail_nil]) fun ηt=>?_
  simp only [go_sem,ko ha,jk,jp2,je4,List.headD_nil,List.isEmpty_nil,List.tail_nil];intro b14;simp only [ve];refine jt _ _ _ _ _ ?_;simp only [go_sem,jC,true_or];refine jt _ _ _ _ _ ?_;simp only [go_sem,jC,jW,jN,true_or,jb]
 |cons e l=>
  obtain ⟨e1,e2⟩:=jnr hP hw hhn hZ ha;rw [e1,e2];refine jc (jbP (e::l) (by omega)) (by simp only [go_sem,ko ha,jk,jp2,je4,List.headD_cons,List.isEmpty_cons,List.tail_cons]) fun ηt=>?_
  simp only [go_sem,ko ha,jk,jp2,je4,List.headD_cons,List.isEmpty_cons,List.tail_cons];intro b14;simp only [go_sem,hhl,h0h,Nat.mul_one,zY hhl,jab ha,jao];refine fun g1 hg1=>?_
  obtain ⟨k,t,r,x,hrk,hr,het,hx,hxs⟩:=jmp (hI.frs _ ha e (by simp))
  rw [←hI.runs] at hr
  have hrz:runAt ⟨Z.now,Z.seq,Z.shelf.set h l,Z.runs⟩ e.run=(k:Int):=by
   rw [←hrk];unfold runAt;rw [hI.runs]
  have hrz2:runAt Z e.run=(k:Int):=hrz;have hkl:=(List.getElem?_eq_some_iff.1 hr).1;have htl:=(List.getElem?_eq_some_iff.1 hx).1;have h0k:(k:Int)≥0:=by omega
  have h0t:(t:Int)≥0:=by omega
  have hrb:=jco (y:=Z) (by have:=hI.tot;omega) (List.mem_of_getElem? hr)
  have hH:jkr Z h e l=⟨Z.now,Z.seq,Z.shelf.set h l,Z.runs.set k (kT r t x Z.now)⟩:=by
   simp only [jkr,hrz2,het,Int.toNat_natCast,hr,hx,Option.getD_some]
  have hT:jpA Z e=IntKind.i64.wrap (x.tri+1):=by
   simp only [jpA,hrz2,het,Int.toNat_natCast,hr,hx,Option.getD_some]
  rw [hH,hT,het];refine jc (ql ⟨Z.now,Z.seq,Z.shelf.set h l,Z.runs⟩ e.run) (by simp only [go_sem,jb]) fun η=>?_
  simp only [go_sem,jb];rw [hrz];have hS:∀r':Rn,(Z.runs.set k r')[k]?=some r':=fun r'=>List.getElem?_set_self hkl
  have hSl:∀r':Rn,k<(Z.runs.set k r').length:=fun r'=>by rw [List.length_set];exact hkl
  have x1:(r.tasks.set t ⟨3,x.need,x.tri,x.til⟩)[t]?=some ⟨3,x.need,x.tri,x.til⟩:=List.getElem?_set_self htl;have x2:(r.tasks.set t ⟨3,x.need,IntKind.i64.wrap (x.tri+1),x.til⟩)[t]?=some ⟨3,x.need,IntKind.i64.wrap (x.tri+1),x.til⟩:=List.getElem?_set_self htl;have x3:(r.tasks.set t ⟨3,x.need,IntKind.i64.wrap (x.tri+1),IntKind.i64.wrap (Z.now+r.plan.wait)⟩)[t]?=some ⟨3,x.need,IntKind.i64.wrap (x.tri+1),IntKind.i64.wrap (Z.now+r.plan.wait)⟩:=List.getElem?_set_self htl;have r1:=hS ⟨r.id,r.plan,r.state,r.tasks.set t ⟨3,x.need,x.tri,x.til⟩⟩;have r2:=hS ⟨r.id,r.plan,r.state,r.tasks.set t ⟨3,x.need,IntKind.i64.wrap (x.tri+1),x.til⟩⟩;have r3:=hS ⟨r.id,r.plan,r.state,r.tasks.set t ⟨3,x.need,IntKind.i64.wrap (x.tri+1),IntKind.i64.wrap (Z.now+r.plan.wait)⟩⟩;have hst:kT r t x Z.now=⟨r.id,r.plan,r.state,r.tasks.set t ⟨3,x.need,IntKind.i64.wrap (x.tri+1),IntKind.i64.wrap (Z.now+r.plan.wait)⟩⟩:=rfl;rw [hst]
  generalize htri:IntKind.i64.wrap (x.tri+1)=tri at*;generalize htil:IntKind.i64.wrap (Z.now+r.plan.wait)=til at*;simp only [go_sem,hkl,h0k,het,Nat.add_zero,qY hr,vm hr,jX hr,htl,h0t,vl hx,qz hx,qJ hr (jaW hx 3),qJ hr (zA hx 3),qY r1,jX r1,jlq x1,jla x1,htri,qJ r1 (jyN x1 tri),List.set_set,jBW r2,jBn r2,htil,jX r2,jjt x2,qJ r2 (jeA x2 til)];refine kY ?_;generalize hL:Z.runs.set k ⟨r.id,r.plan,r.state,r.tasks.set t ⟨3,x.need,tri,til⟩⟩=L at*;refine WkK.wk (s':=St.of [(6,Bx 600 b6),(7,Bx 700 b7),(9,Bx 900 b9),(14,Bx 1400 b14),(18,.c (.ep 900 3 [k*8+7] (t*4) (f3 [k*8+7])))] [(600,ZYd b6 tYd),(700,ZRp b7 t7),(900,kq b9 tYd Z.now Z.seq (Z.shelf.set h l) g1 L f3),(1400,.box b14 tEn [.a (.v (.int .i64 e.prio)),.a (.v (.int .i64 e.seq)),.a (.v (.int .i64 e.run)),.a (.v (.int .i64 e.task))])]) (jg [some 600,some 700,some 900,some 1400] (by simp only [go_sem,het]<;>and_intros<;>first|rfl|assumption|trivial)) ?_
  refine jgq 900 2 94 rfl rfl rfl (by decide) (Nat.zero_lt_succ 0) ?_
  refine jgq 900 3 95 rfl rfl rfl (by decide) (Nat.zero_lt_succ 7) ?_
  refine WkK.wk (s':=St.of [(6,Bx 600 b6),(7,Bx 700 b7),(9,Bx 900 b9),(14,Bx 1400 b14),(18,.c (.ep 95 0 [k*8+7] (t*4) (f3 [k*8+7])))] [(600,ZYd b6 tYd),(700,ZRp b7 t7),(900,.box b9 tYd [.a (.v (.int .i64 Z.now)),.a (.v (.int .i64 Z.seq)),.a (.hs 94 0 [] (g1 []) 1 0 (Z.shelf.set h l).length),.a (.hs 95 0 [] (f3 []) 8 0 L.length)]),(94,.loose (ku (Z.shelf.set h l)) g1),(95,.loose (jK L) f3),(1400,.box b14 tEn [.a (.v (.int .i64 e.prio)),.a (.v (.int .i64 e.seq)),.a (.v (.int .i64 e.run)),.a (.v (.int .i64 e.task))])]) (jg [some 600,some 700,some 900,some 94,some 95,some 1400] (by simp only [go_sem]<;>and_intros<;>first|rfl|assumption|trivial)) ?_
  refine WkK.of ?_;simp only [go_sem,Nat.add_zero,h0k,h0t,het,jX r3,jlq x3,jla x3];refine kY ?_;refine WkK.wk (s':=St.of [(6,Bx 600 b6),(7,Bx 700 b7)] [(600,.box b6 tYd [.a (.v (.int .i64 Z.now)),.a (.v (.int .i64 Z.seq)),.a (.hs 94 0 [] (g1 []) 1 0 (Z.shelf.set h l).length),.a (.hs 95 0 [] (f3 []) 8 0 L.length)]),(700,.box b7 t7 [.a (.v (.int .i64 0)),.a (.v (.int .i64 e.run)),.a (.v (.int .i64 t)),.a (.v (.int .i64 tri))]),(94,.loose (ku (Z.shelf.set h l)) g1),(95,.loose (jK L) f3)]) (jg [some 600,some 700,some 94,some 95] (by simp only [go_sem]<;>and_intros<;>first|rfl|assumption|trivial)) ?_
  refine ja2 600 2 94 (d:=ku (Z.shelf.set h l)) (η:=g1) rfl rfl rfl rfl (jas _).symm rfl (Nat.zero_lt_succ 0) ?_;refine ja2 600 3 95 (d:=jK L) (η:=f3) rfl rfl rfl rfl (vf _).symm rfl (Nat.zero_lt_succ 7) ?_;refine WkK.of ?_;simp only [go_sem];simp only [ve];refine jt _ _ _ _ _ ?_;simp only [go_sem,jC,true_or];refine jt _ _ _ _ _ ?_;simp only [go_sem,jC,jW,jN,true_or,jb]
theorem jo5 (y:Yd) (worker draw:Int) (ht:jJ y≤2000000):kj Tryz.prog 14 [.agg (jb y),.c (.val (.int .i64 worker)),.c (.val (.int .i64 draw))] (.tup [(true,jb (zQ y worker draw)),(true,jb9 y worker draw)]):=by
 refine zn [[1,1,1,1,1],[1,1,1,1,1,1,1,1,1,1,1,1,1,0],[1,1,1,1,1,1,1,1,1,1,1,1,1,1]] Tryz.func14 jkz (by simp) ?_
 unfold jbI;simp only [C.ghs,C.ghAt,List.foldr];simp only [go_sem,jb];intro b3 b6 b7;refine jc (kI y ht) (by simp only [go_sem,jb]) fun η=>?_
 simp only [go_sem,jb];cases hok:jD y
 ·have hy:zQ y worker draw=y:=by rw [zQ,if_pos (.inl hok)]
  have hc:jbd y worker draw=8:=by rw [jbd,if_pos hok]
  have hr:jb9 y worker draw=[iv 8,iv 0,iv 0,iv 0]:=by rw [jb9,if_pos (by rw [hc];decide),hc]
  rw [hy,hr];simp only [go_sem,jb,hok];refine jc (kn y ht) (by simp only [go_sem,jb]) fun ηc=>?_
  simp only [go_sem,jb];simp only [ve];refine jt _ _ _ _ _ ?_;simp only [go_sem,jC,true_or];refine jt _ _ _ _ _ ?_;simp only [go_sem,jC,jW,jN,true_or,jb]
 have hP:=yard_iff.1 hok;simp only [go_sem,jb,hok];refine jc (jE worker 0 99) (by simp only [go_sem,jb]) fun η=>?_
 simp only [go_sem,jb];cases hw:decide (0≤worker∧worker≤99)
 ·have hw':=of_decide_eq_false hw
  have hy:zQ y worker draw=y:=by rw [zQ,if_pos (.inr hw')]
  have hc:jbd y worker draw=5:=by rw [jbd,if_neg (by rw [hok];decide),if_pos hw']
  have hr:jb9 y worker draw=[iv 5,iv 0,iv 0,iv 0]:=by rw [jb9,if_pos (by rw [hc];decide),hc]
  rw [hy,hr];simp only [go_sem,jb,hw];refine jc (kn y ht) (by simp only [go_sem,jb]) fun ηc=>?_
  simp only [go_sem,jb];simp only [ve];refine jt _ _ _ _ _ ?_;simp only [go_sem,jC,true_or];refine jt _ _ _ _ _ ?_;simp only [go_sem,jC,jW,jN,true_or,jb]
 have hw':=of_decide_eq_true hw;obtain ⟨h,hh⟩:∃h:Nat,worker.tmod 4=(h:Int):=⟨(worker.tmod 4).toNat,by rw [Int.tmod_eq_emod_of_nonneg hw'.1];omega⟩
 have hh4:h<4:=by rw [Int.tmod_eq_emod_of_nonneg hw'.1] at hh;omega
 have hwr:IntKind.i64.wrap (worker.tmod 4)=(h:Int):=by rw [hh];exact jf (by omega) (by omega)
 have h0h:(h:Int)≥0:=by omega
 simp only [go_sem,jb,hw,hh];refine jc (jhu y h ht) (by simp only [go_sem,jb]) fun ηs=>?_
 simp only [go_sem,jb];intro b9;refine jc (jhQ h draw) (by simp only [go_sem,jb]) fun ηv=>?_
 simp only [go_sem,jb];have hI0:=PollI.start hP hh4;obtain ⟨v0,v1,v2,hv,w0,w1,w2,n0,n1,n2⟩:=jis hh4 draw;have hZ:pollZ y h draw=pollF h (jhK h draw) (ze y h):=rfl;generalize hz0:ze y h=z0 at*;generalize jhK h draw=V at*;have hVl:V.length=3:=by rw [hv];rfl
 have hVm:∀(i:Nat) (v:Int),V[i]?=some v→∃n:Nat,v=n∧n<4∧n≠h:=fun i v hi=>by
  have:=List.mem_of_getElem? hi;rw [hv] at this;simp at this;rcases this with rfl|rfl|rfl
  ·exact ⟨v0,rfl,w0,n0⟩
  ·exact ⟨v1,rfl,w1,n1⟩
  ·exact ⟨v2,rfl,w2,n2⟩
 obtain ⟨Z,hZe⟩:∃Z,pollF h V z0=Z:=⟨_,rfl⟩;have hPZ:pollZ y h draw=Z:=by rw [hZ,hZe]
 have hhn:(worker.tmod 4).toNat=h:=by rw [hh];omega
 have hpk:jbd y worker draw=if ((Z.shelf[h]?).getD []).length=0 then 9 else 0:=by rw [jbd,if_neg (by rw [hok];decide),if_neg (by simpa using hw'),hhn,jjd,hPZ]
 refine jn (fun i:Nat×Yd×js×js=>St.of [(6,Bx 600 b6),(7,Bx 700 b7),(8,Ni h),(9,Bx 900 b9),(40,Hd 10 (ηv 0)),(41,Ni V.length),(42,Ni i.1)] [(600,ZYd b6 _),(700,ZRp b7 _),(900,kq b9 _ i.2.1.now i.2.1.seq i.2.1.shelf i.2.2.1 i.2.1.runs i.2.2.2),(10,.loose (jh V) (ηv 0))]) (fun i=>i.1≤V.length∧PollI y h i.2.1∧pollF h (V.drop i.1) i.2.1=Z) (fun i=>V.length-i.1) (0,z0,ηs 2,ηs 3) (⟨Nat.zero_le _,hI0,hZe⟩) (jg [some 600,some 700,some 900,some 4000] (by simp only [go_sem,jb]<;>and_intros<;>first|rfl|assumption|trivial)) ?_
 rintro ⟨i,z,f2,f3⟩ ⟨hi,hI,hF⟩;dsimp only at hi hI hF;have h4:=hI.four;obtain ⟨a,ha⟩:=je (l:=z.shelf) (k:=h) (by omega)
 have hhl:=(List.getElem?_eq_some_iff.1 ha).1;have hal:=vU (y:=z) (by have:=hI.tot;omega) (List.mem_of_getElem? ha)
 have hend:(i=V.length∨a.length≠0)→z=Z:=fun hc=>by
  rcases hc with hc|hc
  ·rw [←hF,hc,List.drop_length];rfl
  ·rw [←hF]
   cases hd:V.drop i with
   |nil=>rfl
   |cons v vs=>rw [pollF,ha,Option.getD_some,if_neg hc]
 by_cases hlt:i<V.length
 ·have hlt':(i:Int)<V.length:=by omega
  have h0i:(i:Int)≥0:=by omega
  have hwi:IntKind.i64.wrap ((i:Int)+1)=((i+1:Nat):Int):=jf (by omega) (by omega)
  obtain ⟨v,hv⟩:=je hlt;obtain ⟨n,rfl,hn4,hnh⟩:=hVm i v hv;have hvn:0≤(n:Int):=by omega
  have hxa:((V.flatMap fun n=>[iv n]).drop i).take 1=[iv (n:Int)]:=by have:=jj hv;rwa [Nat.mul_one] at this
  have hxi:i+1≤(V.flatMap fun n=>[iv n]).length:=by have:=ji hlt;rwa [Nat.mul_one] at this
  by_cases ha0:a.length=0
  ·have he:¬((a.length:Nat):Int)>0:=by omega
   obtain ⟨l,hl⟩:=je (l:=z.shelf) (k:=n) (by omega)
   obtain ⟨e1,e2⟩:=jiC hl ha hnh;have hstep:=hI.step hn4 hh4 hnh
   have hFn:pollF h (V.drop (i+1)) (pollV z h n)=Z:=by
    rw [←hF,List.drop_eq_getElem_cons hlt,pollF,ha,Option.getD_some,if_pos ha0];have:V[i]=(n:Int):=by rw [List.getElem?_eq_getElem hlt] at hv;exact Option.some.inj hv
    rw [this,Int.toNat_natCast]
   have hlf:=List.length_filter_le (jU z) l;have hll:=vU (y:=z) (by have:=hI.tot;omega) (List.mem_of_getElem? hl)
   rw [e2,List.set_comm _ _ hnh] at hFn hstep;simp only [go_sem,hlt',hlt,hhl,h0h,h0i,Nat.mul_one,jab ha,zY hhl,ko ha,he,hxa,hxi];refine jc (jhu z n (by have:=hI.tot;omega)) (by simp only [go_sem,jb]) fun ηw=>?_
   simp only [go_sem,jb];rw [e1];generalize l.filter (jU z)=L at*;have q1:(z.shelf.set n L)[n]?=some L:=List.getElem?_set_self (by omega)
   have q2:n<(z.shelf.set n L).length:=by rw [List.length_set];omega
   have q0:(n:Int)≥0:=hvn;have q3:(z.shelf.set n L)[h]?=some a:=by rw [List.getElem?_set_ne hnh];exact ha
   have q4:h<(z.shelf.set n L).length:=by rw [List.length_set];omega
   have q5:(vh L).length≤L.length:=by rw [vh,List.length_take];omega
   simp only [go_sem,hlt,h0i,Nat.mul_one,jab q1,zY q2,ko q1,q2,q0];refine jc (jl6 L (by omega)) (by simp only [go_sem,ko q1]) fun ηh=>?_
   simp only [go_sem,ko q1];simp only [go_sem,h0h,Nat.mul_one,zY q4,jab q3,q4,ko q3];refine jc (jl5 a (vh L) (by omega)) (by simp only [go_sem,ko q3]) fun ηm=>?_
   simp only [go_sem,ko q3];simp only [go_sem,h0h,Nat.mul_one,zY q4,jab q3,q4,jao];refine fun g' hg'=>?_
   have q6:n<((z.shelf.set n L).set h (qb a (vh L))).length:=by rw [List.length_set];exact q2
   have q7:((z.shelf.set n L).set h (qb a (vh L)))[n]?=some L:=by rw [List.getElem?_set_ne (Ne.symm hnh)];exact q1
   have q8:((z.shelf.set n L).set h (qb a (vh L))).set n (jaF L)=(z.shelf.set h (qb a (vh L))).set n (jaF L):=by
    rw [List.set_comm _ _ hnh,List.set_set]
   simp only [go_sem,Nat.mul_one,q0,q6,zY q6,jab q7,jao,q8,hwi];refine fun g2' hg2'=>?_
   exact ⟨(i+1,⟨z.now,z.seq,(z.shelf.set h (qb a (vh L))).set n (jaF L),z.runs⟩,g2',ηw 3),⟨hlt,hstep,hFn⟩,(jg [some 600,some 700,some 900,some 10] (by simp only [go_sem]<;>and_intros<;>first|rfl|assumption|trivial)),by (try dsimp only);omega⟩
  ·have he:((a.length:Nat):Int)>0:=by omega
   obtain rfl:=hend (.inr ha0);simp only [go_sem,hlt',hlt,hhl,h0h,h0i,Nat.mul_one,jab ha,zY hhl,ko ha,he,hxa,hxi];refine kY ?_;refine WkK.wk (s':=St.of [(6,Bx 600 b6),(7,Bx 700 b7),(8,Ni h),(9,Bx 900 b9)] [(600,ZYd b6 _),(700,ZRp b7 _),(900,kq b9 _ z.now z.seq z.shelf f2 z.runs f3)]) (jg [some 600,some 700,some 900] (by simp only [go_sem]<;>and_intros<;>first|rfl|assumption|trivial)) ?_
   exact WkK.of (jdF ht hP hw' hhn hh4 hPZ hI ha hal)
 ·have hlt':¬(i:Int)<V.length:=by omega
  obtain rfl:=hend (.inl (by omega))
  simp only [go_sem,hlt'];refine kY ?_;refine WkK.wk (s':=St.of [(6,Bx 600 b6),(7,Bx 700 b7),(8,Ni h),(9,Bx 900 b9)] [(600,ZYd b6 _),(700,ZRp b7 _),(900,kq b9 _ z.now z.seq z.shelf f2 z.runs f3)]) (jg [some 600,some 700,some 900] (by simp only [go_sem]<;>and_intros<;>first|rfl|assumption|trivial)) ?_
  exact WkK.of (jdF ht hP hw' hhn hh4 hPZ hI ha hal)
structure Rp where
 code:Int
 run:Int
 task:Int
 tri:Int
 deriving DecidableEq,Inhabited
abbrev jgJ (r:Rp):List D:=[iv r.code,iv r.run,iv r.task,iv r.tri]
noncomputable def jo9 (y:Yd) (worker draw:Int):Rp:=
 if jbd y worker draw≠0 then ⟨jbd y worker draw,0,0,0⟩
 else match jjd y (worker.tmod 4).toNat draw with
  |[]=>⟨0,0,0,0⟩
  |e::l=>⟨0,e.run,e.task,jpA (pollZ y (worker.tmod 4).toNat draw) e⟩
theorem jxB (y:Yd) (worker draw:Int):jb9 y worker draw=jgJ (jo9 y worker draw):=by
 unfold jb9 jo9;split
 ·rfl
 ·split<;>rfl
theorem jpa (y:Yd) (worker draw:Int) (ht:jJ y≤2000000):kj Tryz.prog 15 [.agg (jb y),.c (.val (.int .i64 worker)),.c (.val (.int .i64 draw))] (.tup [(true,jb (zQ y worker draw)),(true,jgJ (jo9 y worker draw))]):=by
 rw [←jxB];exact jo4 y worker draw ht
theorem jpe (y:Yd) (worker draw:Int) (ht:jJ y≤2000000):kj Tryz.prog 14 [.agg (jb y),.c (.val (.int .i64 worker)),.c (.val (.int .i64 draw))] (.tup [(true,jb (zQ y worker draw)),(true,jgJ (jo9 y worker draw))]):=by
 rw [←jxB];exact jo5 y worker draw ht
theorem jtX {y:Yd} {h:Nat} (hh:h<4):∀(vs:List Int) (z:Yd),(∀v∈vs,∃n:Nat,v=n∧n<4∧n≠h)→PollI y h z→PollI y h (pollF h vs z)
 |[],_,_,hI=>hI
 |v::vs,z,hv,hI=>by
  rw [pollF];split
  ·obtain ⟨n,rfl,h1,h2⟩:=hv v (by simp)
   exact jtX hh vs _ (fun v hv'=>hv v (by simp [hv'])) (by rw [Int.toNat_natCast];exact hI.step h1 hh h2)
  ·exact hI
theorem jtW {y:Yd} (hP:YardOkP y) {h:Nat} (hh:h<4) (draw:Int):PollI y h (pollZ y h draw):=by
 obtain ⟨v0,v1,v2,hv,w0,w1,w2,n0,n1,n2⟩:=jis hh draw;refine jtX hh _ _ (fun v hm=>?_) (PollI.start hP hh)
 rw [hv] at hm;simp at hm;rcases hm with rfl|rfl|rfl
 ·exact ⟨v0,rfl,w0,n0⟩
 ·exact ⟨v1,rfl,w1,n1⟩
 ·exact ⟨v2,rfl,w2,n2⟩
end Go.Proofs.YtcehjhiglmifjaaGreat
