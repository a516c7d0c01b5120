/- Parts. -/
import Derived.Test.YtmnpailnelmpiaaQReadV
set_option linter.unusedSimpArgs false
set_option linter.unusedVariables false
set_option maxHeartbeats 16000000
set_option maxRecDepth 100000
namespace Go.Proofs.Ytmnpailnelmpiaa
open Go.RowKit Go.Sort
theorem jjt {h:Nat} (hh:h<4) (draw:Int):∃a b c:Nat,jju h draw=[(a:Int),(b:Int),(c:Int)]∧a<4∧b<4∧c<4∧a≠h∧b≠h∧c≠h:=by
 have hb:brI (h:Int) 0 3=h:=by
  unfold brI;rw [if_neg (by omega),if_neg (by omega)]
 have hd:0≤(if draw<0 then 0 else draw):=by split<;>omega
 obtain ⟨v0,v1,v2⟩:=jvA h draw h _ hb rfl (by omega)
 have e:∀j:Nat,((h:Int)+(j:Int)).tmod 4=(((h+j)%4:Nat):Int):=fun j=>by
  rw [Int.tmod_eq_emod_of_nonneg (by omega)];omega
 have e1:=e 1;have e2:=e 2;have e3:=e 3;simp only [Int.natCast_one,Int.cast_ofNat_Int] at e1 e2 e3;rcases jyj hd with h3|h3|h3
 ·exact ⟨(h+1)%4,(h+2)%4,(h+3)%4,by rw [v0 h3,e1,e2,e3],by omega,by omega,by omega,by omega,by omega,by omega⟩
 ·exact ⟨(h+2)%4,(h+3)%4,(h+1)%4,by rw [v1 h3,e1,e2,e3],by omega,by omega,by omega,by omega,by omega,by omega⟩
 ·exact ⟨(h+3)%4,(h+1)%4,(h+2)%4,by rw [v2 h3,e1,e2,e3],by omega,by omega,by omega,by omega,by omega,by omega⟩
theorem jpY {y z:Yd} (h:z.runs=y.runs) (e:En):jM z e=jM y e:=by
 cases y;cases z;dsimp only at h;subst h;rfl
def pollV (z:Yd) (home v:Nat):Yd:=
 let s:=(zM z v).shelf
 ⟨z.now,z.seq,(s.set v (jbt ((s[v]?).getD []))).set home (qH ((s[home]?).getD []) (vU ((s[v]?).getD []))),z.runs⟩
def pollF (home:Nat):List Int→Yd→Yd
 |[],z=>z
 |v::vs,z=>if ((z.shelf[home]?).getD []).length=0 then pollF home vs (pollV z home v.toNat) else z
structure PollI (y:Yd) (home:Nat) (z:Yd):Prop where
 four:z.shelf.length=4
 runs:z.runs=y.runs
 now:z.now=y.now
 seq:z.seq=y.seq
 tot:jS z≤jS y
 frs:∀l,z.shelf[home]?=some l→∀e∈l,jM y e=true
theorem jnV {l:List En} {e x:En} (h:x∈jdc l e):x∈l∨x=e:=by
 rw [jdc,jye] at h;rcases List.mem_append.1 h with h|h
 ·exact .inl (List.mem_of_mem_take h)
 ·rcases List.mem_cons.1 h with h|h
  ·exact .inr h
  ·exact .inl (List.mem_of_mem_drop h)
theorem jnZ:∀{b a:List En} {x:En},x∈b.foldl jdc a→x∈a∨x∈b
 |[],a,x,h=>.inl h
 |e::b,a,x,h=>by
  rcases jnZ (b:=b) h with h|h
  ·rcases jnV h with h|h
   ·exact .inl h
   ·exact .inr (by simp [h])
  ·exact .inr (by simp [h])
theorem jpL {a b:List En} {x:En} (h:x∈qH a b):x∈a∨x∈b:=by
 unfold qH at h;split at h
 ·exact .inl h
 ·exact jnZ h
theorem jg0 {y:Yd} {k:Nat} {l l2:List En} (hl:y.shelf[k]?=some l):jS ⟨y.now,y.seq,y.shelf.set k l2,y.runs⟩+l.length=jS y+l2.length:=by
 have h4:∀l:List En,jaG l=l.length:=fun _=>rfl
 have h2:=qj (f:=jaG) l2 hl;simp only [jS,jeJ,List.length_set] at*;rw [h4,h4] at h2;omega
theorem PollI.start {y:Yd} (hP:YardOkP y) {h:Nat} (hh:h<4):PollI y h (zM y h):=by
 obtain ⟨l,hl⟩:=je (l:=y.shelf) (k:=h) (by have:=hP.four;omega)
 have hs:=jg2 hl;have ht:=jg0 (l2:=l.filter (jM y)) hl;have hf:=List.length_filter_le (jM y) l;rw [hs];refine ⟨by simp [hP.four],rfl,rfl,rfl,by omega,fun l' hl' e he=>?_⟩
 dsimp only at hl';rw [List.getElem?_set_self (by have:=hP.four;omega)] at hl'
 obtain rfl:=Option.some.inj hl';exact (List.mem_filter.1 he).2
theorem jjQ {z:Yd} {h v:Nat} {l a:List En} (hv:z.shelf[v]?=some l) (hhm:z.shelf[h]?=some a) (hne:v≠h):zM z v=⟨z.now,z.seq,z.shelf.set v (l.filter (jM z)),z.runs⟩∧pollV z h v=⟨z.now,z.seq,(z.shelf.set v (jbt (l.filter (jM z)))).set h (qH a (vU (l.filter (jM z)))),z.runs⟩:=by
 have hs:=jg2 hv;refine ⟨hs,?_⟩;have hvl:=(List.getElem?_eq_some_iff.1 hv).1;have e1:(z.shelf.set v (l.filter (jM z)))[v]?=some (l.filter (jM z)):=List.getElem?_set_self hvl;have e2:(z.shelf.set v (l.filter (jM z)))[h]?=some a:=by rw [List.getElem?_set_ne hne];exact hhm
 simp only [pollV,hs,e1,e2,Option.getD_some,List.set_set]
theorem PollI.step {y z:Yd} {h v:Nat} (hI:PollI y h z) (hv:v<4) (hh:h<4) (hne:v≠h):PollI y h (pollV z h v):=by
 have h4:=hI.four;obtain ⟨l,hl⟩:=je (l:=z.shelf) (k:=v) (by omega)
 obtain ⟨a,ha⟩:=je (l:=z.shelf) (k:=h) (by omega)
 rw [(jjQ hl ha hne).2];have hf:=List.length_filter_le (jM z) l;generalize hL:l.filter (jM z)=L at*;have ha2:(z.shelf.set v (jbt L))[h]?=some a:=by rw [List.getElem?_set_ne hne];exact ha
 have t1:=jg0 (l2:=jbt L) hl;have t2:=jg0 (y:=⟨z.now,z.seq,z.shelf.set v (jbt L),z.runs⟩) (l2:=qH a (vU L)) ha2;have t3:=jpM a (vU L);have t4:(vU L).length+(jbt L).length=L.length:=by rw [vU,jbt,←List.length_append,List.take_append_drop]
 have t5:=hI.tot;dsimp only at t1 t2;refine ⟨by simp [h4],hI.runs,hI.now,hI.seq,by omega,fun l' hl' e he=>?_⟩
 dsimp only at hl';rw [List.getElem?_set_self (by rw [List.length_set];omega)] at hl'
 obtain rfl:=Option.some.inj hl';rcases jpL he with he|he
 ·exact hI.frs a ha e he
 ·have:=List.mem_of_mem_take he
  rw [←hL] at this;rw [←jpY hI.runs];exact (List.mem_filter.1 this).2
noncomputable def pollZ (y:Yd) (h:Nat) (draw:Int):Yd:=pollF h (jju h draw) (zM y h)
noncomputable def jii (y:Yd) (h:Nat) (draw:Int):List En:=((pollZ y h draw).shelf[h]?).getD []
noncomputable def jdH (y:Yd) (worker draw:Int):Int:=if jJ y=false then 8 else if¬(0≤worker∧worker≤99) then 5 else if (jii y (worker.tmod 4).toNat draw).length=0 then 9 else 0
noncomputable def jlI (z:Yd) (h:Nat) (e:En) (l:List En):Yd:=⟨z.now,z.seq,z.shelf.set h l,z.runs.set (runAt z e.run).toNat (kz ((z.runs[(runAt z e.run).toNat]?).getD default) e.task.toNat (((((z.runs[(runAt z e.run).toNat]?).getD default).tasks)[e.task.toNat]?).getD default) z.now)⟩
noncomputable def jsy (z:Yd) (e:En):Int:=IntKind.i64.wrap (((((((z.runs[(runAt z e.run).toNat]?).getD default).tasks)[e.task.toNat]?).getD default)).tri+1)
noncomputable def jcb (y:Yd) (worker draw:Int):Yd:=
 if jJ y=false∨¬(0≤worker∧worker≤99) then y
 else match jii y (worker.tmod 4).toNat draw with
  |[]=>pollZ y (worker.tmod 4).toNat draw
  |e::l=>jlI (pollZ y (worker.tmod 4).toNat draw) (worker.tmod 4).toNat e l
noncomputable def jf9 (y:Yd) (worker draw:Int):List D:=
 if jdH y worker draw≠0 then [iv (jdH y worker draw),iv 0,iv 0,iv 0]
 else match jii y (worker.tmod 4).toNat draw with
  |[]=>[iv 0,iv 0,iv 0,iv 0]
  |e::l=>[iv 0,iv e.run,iv e.task,iv (jsy (pollZ y (worker.tmod 4).toNat draw) e)]
theorem jon {y:Yd} {e:En} (h:jM y e=true):∃(k t:Nat) (r:Rn) (x:Tk),runAt y e.run=k∧y.runs[k]?=some r∧e.task=t∧r.tasks[t]?=some x∧x.state=2:=by
 unfold jM at h;rcases zq y e.run e.task with ⟨_,h2⟩|⟨k,r,h1,h2,⟨_,h3⟩|⟨j,x,hj,hx,h3⟩⟩
 ·rw [h2] at h;cases h
 ·rw [h3] at h;cases h
 ·rw [h3] at h
  exact ⟨k,j,r,x,h1,h2,hj,hx,by simpa using h⟩
section
variable {sh:List (List En)} {n:Nat} {l:List En}
theorem jfW (h:n<sh.length):n+1≤(sh.flatMap fun es=>[jv es]).length:=by have:=jdV h;rwa [Nat.mul_one] at this
theorem jf6 (h:sh[n]?=some l):((sh.flatMap fun es=>[jv es]).drop n).take 1=[jv l]:=by have:=jgT h;rwa [Nat.mul_one] at this
end
def jaE:C:=iS [iA 3 (.box 42 4 (.t 0)),iA 6 (.alloc 42 [.int .i64 0,.int .i64 0,.slice none 0 0,.slice none 0 0]),iA 7 (.alloc 145 [.int .i64 0,.int .i64 0,.int .i64 0,.int .i64 0])] (.seq (iS [iA 18 (iT 4 3),iA 19 (.call 45 [.t 18]),iA 20 (iU 19)] (iD 20 (iS [iA 21 (iT 4 3),iA 22 (.call 143 [.t 21]),iA 23 (.bld [.int .i64 0,.int .i64 0,.int .i64 0,.int .i64 0] [(0,1,.c (.int .i64 8))]),iC (.st 4 [none,none,some (1,74),some (8,78)] (.t 6) (.t 22)),iC (.st 4 [none,none,none,none] (.t 7) (.t 23))] .ret) .skip)) (.seq (iS [iA 24 (iM 1),iA 25 (.call 66 [.t 24,.c (.int .i64 0),.c (.int .i64 99)]),iA 26 (iU 25)] (iD 26 (iS [iA 27 (iT 4 3),iA 28 (.call 143 [.t 27]),iA 29 (.bld [.int .i64 0,.int .i64 0,.int .i64 0,.int .i64 0] [(0,1,.c (.int .i64 5))]),iC (.st 4 [none,none,some (1,74),some (8,78)] (.t 6) (.t 28)),iC (.st 4 [none,none,none,none] (.t 7) (.t 29))] .ret) .skip)) (iS [iA 30 (iM 1),iA 31 (iQ .rem 3 30 4),iA 8 (iM 31)] (iS [iA 32 (iT 4 3),iA 33 (iM 8),iA 34 (.call 161 [.t 32,.t 33]),iA 9 (.alloc 42 [.int .i64 0,.int .i64 0,.slice none 0 0,.slice none 0 0]),iC (.st 4 [none,none,some (1,74),some (8,78)] (.t 9) (.t 34))] (iS [iA 35 (iM 8),iA 36 (iM 2),iA 37 (.call 162 [.t 35,.t 36]),iA 10 (iM 37)] (.seq (iS [iA 11 (iN 0)] (.blk 0 (.loop (.seq (iS [iA 38 (iM 11),iA 39 (iM 10),iA 40 (iG 39),iA 41 (iP .lss 3 38 40),iA 42 (iM 41),iB 43 42 true (iF 2 9),iB 44 42 true (iL 43),iB 45 42 true (iM 8),iB 46 42 true (iI 1 44 45),iB 47 42 true (iL 46),iB 48 42 true (iG 47),iB 49 42 true (iQ .eql 3 48 0),iA 50 (.pick (.t 42) (.t 49) (.c (.bool false)))] (iD 50 .skip (.exit 0))) (.seq (.blk 1 (.seq (.dreg (T.pure 0 (iA 53 (iT 4 9)) (T.pure 1 (iA 54 (iM 10)) (T.pure 2 (iA 55 (iM 11)) (T.pure 3 (iA 56 (iI 1 54 55)) (T.pure 4 (iA 57 (iL 56)) (T.alt (iA 58 (.call 161 [.t 53,.t 57])) [] (T.alt (iC (.st 4 [none,none,some (1,74),some (8,78)] (.t 9) (.t 58))) [] T.done T.stop) T.stop))))))) (.seq (.dreg (T.pure 0 (iA 60 (iF 2 9)) (T.pure 1 (iA 61 (iL 60)) (T.pure 2 (iA 62 (iM 10)) (T.pure 3 (iA 63 (iM 11)) (T.pure 4 (iA 64 (iI 1 62 63)) (T.pure 5 (iA 65 (iL 64)) (T.pure 6 (iA 66 (iI 1 61 65)) (T.pure 7 (iA 67 (iL 66)) (T.alt (iA 68 (.call 163 [.t 67])) [] (T.pure 9 (iA 59 (iM 68)) (T.pure 10 (iA 69 (iE 59 0)) (T.pure 11 (iA 70 (iE 59 1)) (T.pure 12 (iA 12 (iM 69)) (T.pure 13 (iA 13 (iM 70)) T.done))))) T.stop)))))))))) (.seq (.dreg (T.pure 0 (iA 71 (iF 2 9)) (T.pure 1 (iA 72 (iL 71)) (T.pure 2 (iA 73 (iM 10)) (T.pure 3 (iA 74 (iM 11)) (T.pure 4 (iA 75 (iI 1 73 74)) (T.pure 5 (iA 76 (iL 75)) (T.pure 6 (iA 77 (iM 13)) (T.pure 7 (iA 78 (iI 1 72 76)) (T.alt (iC (.st 1 [some (4,82)] (.t 78) (.t 77))) [] T.done T.stop)))))))))) (.dreg (T.pure 0 (iA 79 (iF 2 9)) (T.pure 1 (iA 80 (iL 79)) (T.pure 2 (iA 81 (iM 8)) (T.pure 3 (iA 82 (iF 2 9)) (T.pure 4 (iA 83 (iL 82)) (T.pure 5 (iA 84 (iM 8)) (T.pure 6 (iA 85 (iI 1 83 84)) (T.pure 7 (iA 86 (iL 85)) (T.pure 8 (iA 87 (iM 12)) (T.alt (iA 88 (.call 164 [.t 86,.t 87])) [2,1,0] (T.pure 10 (iA 89 (iI 1 80 81)) (T.alt (iC (.st 1 [some (4,82)] (.t 89) (.t 88))) [] T.done T.stop)) T.stop))))))))))))))) (.reg [iA 51 (iM 11),iA 52 (iQ .add 3 51 1),iA 11 (iM 52)])))))) (iS [iA 91 (iF 2 9),iA 92 (iL 91),iA 93 (iM 8),iA 94 (iI 1 92 93),iA 95 (iL 94),iA 96 (.call 165 [.t 95]),iA 90 (iM 96),iA 97 (iE 90 0),iA 98 (iE 90 1),iA 99 (iE 90 2),iA 14 (.alloc 82 [.int .i64 0,.int .i64 0,.int .i64 0,.int .i64 0]),iC (.st 4 [none,none,none,none] (.t 14) (.t 97)),iA 15 (iM 98),iA 16 (iM 99)] (.seq (iS [iA 100 (iM 16),iA 101 (iU 100)] (iD 101 (iS [iA 102 (iT 4 9),iA 103 (.bld [.int .i64 0,.int .i64 0,.int .i64 0,.int .i64 0] [(0,1,.c (.int .i64 9))]),iC (.st 4 [none,none,some (1,74),some (8,78)] (.t 6) (.t 102)),iC (.st 4 [none,none,none,none] (.t 7) (.t 103))] .ret) .skip)) (iS [iA 104 (iF 2 9),iA 105 (iL 104),iA 106 (iM 8),iA 107 (iM 15),iA 108 (iI 1 105 106),iC (.st 1 [some (4,82)] (.t 108) (.t 107))] (iS [iA 109 (iT 4 9),iA 110 (iF 2 14),iA 111 (iL 110),iA 112 (.call 82 [.t 109,.t 111]),iA 17 (iM 112)] (.seq (.dreg (T.pure 0 (iA 113 (iF 3 9)) (T.pure 1 (iA 114 (iL 113)) (T.pure 2 (iA 115 (iM 17)) (T.pure 3 (iA 116 (iF 3 9)) (T.pure 4 (iA 117 (iL 116)) (T.pure 5 (iA 118 (iM 17)) (T.pure 6 (iA 119 (iI 8 117 118)) (T.pure 7 (iA 120 (iT 8 119)) (T.pure 8 (iA 121 (iF 3 14)) (T.pure 9 (iA 122 (iL 121)) (T.pure 10 (iA 123 (iF 0 9)) (T.pure 11 (iA 124 (iL 123)) (T.alt (iA 125 (.call 166 [.t 120,.t 122,.t 124])) [2,1,0] (T.pure 13 (iA 126 (iI 8 114 115)) (T.alt (iC (.st 8 [none,none,none,none,none,some (2,103),none,some (4,84)] (.t 126) (.t 125))) [] T.done T.stop)) T.stop)))))))))))))) (.seq (.dreg (T.pure 0 (iA 127 (iT 4 9)) (T.pure 1 (iA 128 (iF 2 14)) (T.pure 2 (iA 129 (iL 128)) (T.pure 3 (iA 130 (iF 3 14)) (T.pure 4 (iA 131 (iL 130)) (T.pure 5 (iA 132 (iF 3 9)) (T.pure 6 (iA 133 (iL 132)) (T.pure 7 (iA 134 (iM 17)) (T.pure 8 (iA 135 (iI 8 133 134)) (T.pure 9 (iA 136 (iF 7 135)) (T.pure 10 (iA 137 (iL 136)) (T.pure 11 (iA 138 (iF 3 14)) (T.pure 12 (iA 139 (iL 138)) (T.pure 13 (iA 140 (iI 4 137 139)) (T.pure 14 (iA 141 (iF 2 140)) (T.pure 15 (iA 142 (iL 141)) (T.pure 16 (iA 143 (.bld [.int .i64 0,.int .i64 0,.int .i64 0,.int .i64 0] [(1,1,.t 129),(2,1,.t 131),(3,1,.t 142)])) (T.alt (iC (.st 4 [none,none,some (1,74),some (8,78)] (.t 6) (.t 127))) [16,15,14,13,12,11,10,9,8,7,6,5,4,3,2,1] (T.alt (iC (.st 4 [none,none,none,none] (.t 7) (.t 143))) [] T.done T.stop) T.stop))))))))))))))))))) .ret))))))))))))
theorem jiE:fnC Try.prog Try.f145=some (jaE,[.cell 6 true 4,.cell 7 true 4],144):=by kernel_rfl
theorem jun {y:Yd} {worker draw:Int} {h:Nat} {Z:Yd} (hP:YardOkP y) (hw:0≤worker∧worker≤99) (hhn:(worker.tmod 4).toNat=h) (hZ:pollZ y h draw=Z) (ha:Z.shelf[h]?=some []):jcb y worker draw=Z∧jf9 y worker draw=[iv 9,iv 0,iv 0,iv 0]:=by
 have hE:jii y (worker.tmod 4).toNat draw=[]:=by rw [hhn,jii,hZ,ha,Option.getD_some]
 have hok:=jdx hP;have hK:jdH y worker draw=9:=by rw [jdH,if_neg (by rw [hok];decide),if_neg (by simpa using hw),hE];rfl
 refine ⟨?_,by rw [jf9,if_pos (by rw [hK];decide),hK]⟩
 rw [jcb,if_neg (by rintro (h|h);(rw [hok] at h;cases h);exact h hw),hE]
 dsimp only;rw [hhn,hZ]
theorem jrI {y:Yd} {worker draw:Int} {h:Nat} {Z:Yd} {e:En} {l:List En} (hP:YardOkP y) (hw:0≤worker∧worker≤99) (hhn:(worker.tmod 4).toNat=h) (hZ:pollZ y h draw=Z) (ha:Z.shelf[h]?=some (e::l)):jcb y worker draw=jlI Z h e l∧jf9 y worker draw=[iv 0,iv e.run,iv e.task,iv (jsy Z e)]:=by
 have hE:jii y (worker.tmod 4).toNat draw=e::l:=by rw [hhn,jii,hZ,ha,Option.getD_some]
 have hok:=jdx hP;have hK:jdH y worker draw=0:=by rw [jdH,if_neg (by rw [hok];decide),if_neg (by simpa using hw),hE,if_neg (by simp)]
 refine ⟨?_,?_⟩
 ·rw [jcb,if_neg (by rintro (h|h);(rw [hok] at h;cases h);exact h hw),hE]
  dsimp only;rw [hhn,hZ]
 ·rw [jf9,if_neg (by rw [hK];decide),hE]
  dsimp only;rw [hhn,hZ]
abbrev ZRp (b ty:Nat):Ob:=.box b ty [.a (.v (.int .i64 0)),.a (.v (.int .i64 0)),.a (.v (.int .i64 0)),.a (.v (.int .i64 0))]
theorem jzB {g sz n:Nat} {d:D} {η:jm} (hd:d.isSl=true) (hs:d.size=sz) (hn:d.len=n) (hp:0<sz):∀s:St,s.o g=.loose d η→∃dd,Is s (.hs g 0 [] (η []) sz 0 n) dd:=by
 intro s ho;subst hs hn;exact ⟨d.sub 0 (0+d.len),d,η,d,by rw [ho];rfl,rfl,jay d,hd,rfl,hp,by omega,rfl⟩
theorem jcn {y:Yd} {worker draw:Int} {h:Nat} {Z:Yd} {a:List En} {b6 b7 b9 t7:Nat} {f2 f3:jm} (ht:jS y≤2000000) (hP:YardOkP y) (hw:0≤worker∧worker≤99) (hhn:(worker.tmod 4).toNat=h) (hh4:h<4) (hZ:pollZ y h draw=Z) (hI:PollI y h Z) (ha:Z.shelf[h]?=some a) (hal:a.length≤2000000):
 wpC Try.prog 0 (C.sub [1,1,1,1,1,1,1] (C.ghs [[1,1,1,1,1,1,1,1,1,1,1,1,0],[1,1,1,1,1,1,1,1,1,1,1,1,1]] jaE)) (jwY [.cell 6 true 4,.cell 7 true 4] (.tup [(true,jc (jcb y worker draw)),(true,jf9 y worker draw)])) (St.of [(6,Bx 600 b6),(7,Bx 700 b7),(8,Ni h),(9,Bx 900 b9)] [(600,ZYd b6 tYd),(700,ZRp b7 t7),(900,ve b9 tYd Z.now Z.seq Z.shelf f2 Z.runs f3)]):=by
 unfold jaE;simp only [C.ghs,C.ghAt,List.foldr,C.sub];have h4:=hI.four;have hhl:=(List.getElem?_eq_some_iff.1 ha).1;have h0h:(h:Int)≥0:=by omega
 simp only [go_sem,hhl,h0h,Nat.mul_one,jf6 ha,jfW hhl,qL ha];cases a with
 |nil=>
  obtain ⟨e1,e2⟩:=jun hP hw hhn hZ ha;rw [e1,e2];refine jb (jaL [] (by simp)) (by simp only [go_sem,qL ha,jy,jwn,jmv,List.headD_nil,List.isEmpty_nil,List.tail_nil]) fun ηt=>?_
  simp only [go_sem,qL ha,jy,jwn,jmv,List.headD_nil,List.isEmpty_nil,List.tail_nil];intro b14;simp only [zR];refine jD _ _ _ _ _ ?_;simp only [go_sem,jZ,true_or];refine jD _ _ _ _ _ ?_;simp only [go_sem,jZ,kn,jX,true_or,jc]
 |cons e l=>
  obtain ⟨e1,e2⟩:=jrI hP hw hhn hZ ha;rw [e1,e2];refine jb (jaL (e::l) (by omega)) (by simp only [go_sem,qL ha,jy,jwn,jmv,List.headD_cons,List.isEmpty_cons,List.tail_cons]) fun ηt=>?_
  simp only [go_sem,qL ha,jy,jwn,jmv,List.headD_cons,List.isEmpty_cons,List.tail_cons];intro b14;simp only [go_sem,hhl,h0h,Nat.mul_one,jfW hhl,jf6 ha,jeP];refine fun g1 hg1=>?_
  obtain ⟨k,t,r,x,hrk,hr,het,hx,hxs⟩:=jon (hI.frs _ ha e (by simp))
  rw [←hI.runs] at hr
  have hrz:runAt ⟨Z.now,Z.seq,Z.shelf.set h l,Z.runs⟩ e.run=(k:Int):=by
   rw [←hrk];unfold runAt;rw [hI.runs]
  have hrz2:runAt Z e.run=(k:Int):=hrz;have hkl:=(List.getElem?_eq_some_iff.1 hr).1;have htl:=(List.getElem?_eq_some_iff.1 hx).1;have h0k:(k:Int)≥0:=by omega
  have h0t:(t:Int)≥0:=by omega
  have hrb:=jhc (y:=Z) (by have:=hI.tot;omega) (List.mem_of_getElem? hr)
  have hH:jlI Z h e l=⟨Z.now,Z.seq,Z.shelf.set h l,Z.runs.set k (kz r t x Z.now)⟩:=by
   simp only [jlI,hrz2,het,Int.toNat_natCast,hr,hx,Option.getD_some]
  have hT:jsy Z e=IntKind.i64.wrap (x.tri+1):=by
   simp only [jsy,hrz2,het,Int.toNat_natCast,hr,hx,Option.getD_some]
  rw [hH,hT,het];refine jb (kF ⟨Z.now,Z.seq,Z.shelf.set h l,Z.runs⟩ e.run) (by simp only [go_sem,jc]) fun η=>?_
  simp only [go_sem,jc];rw [hrz];simp only [go_sem,hkl,h0k,jnp hr,jkh hr,jd,ja,het];refine jb (jeS r t x Z.now hx hrb.1 hrb.2) (by simp only [go_sem,jd,ja,qa hr,kZ hr]) fun ηq=>?_
  simp only [go_sem,jd,ja,qa hr,kZ hr];simp only [go_sem,hkl,h0k,jkh hr,jrC (kz r t x Z.now) hkl];refine fun g3 hg3=>?_
  have hr2:(Z.runs.set k (kz r t x Z.now))[k]?=some (kz r t x Z.now):=List.getElem?_set_self hkl;have hkl2:k<(Z.runs.set k (kz r t x Z.now)).length:=by rw [List.length_set];exact hkl
  have hx2:(kz r t x Z.now).tasks[t]?=some ⟨3,x.need,IntKind.i64.wrap (x.tri+1),IntKind.i64.wrap (Z.now+r.plan.wait)⟩:=List.getElem?_set_self htl;have htl2:t<(kz r t x Z.now).tasks.length:=(List.getElem?_eq_some_iff.1 hx2).1;have hstt:(kz r t x Z.now).tasks[t]?=some ⟨3,x.need,IntKind.i64.wrap (x.tri+1),IntKind.i64.wrap (Z.now+r.plan.wait)⟩:=hx2;generalize kz r t x Z.now=r2 at*;refine kK ?_;refine WkK.wk (s':=St.of [(6,Bx 600 b6),(7,Bx 700 b7),(9,Bx 900 b9),(14,Bx 1400 b14),(17,Ni k)] [(600,ZYd b6 tYd),(700,ZRp b7 t7),(900,ve b9 tYd Z.now Z.seq (Z.shelf.set h l) g1 (Z.runs.set k r2) g3),(1400,.box b14 tEn [.a (.v (.int .i64 e.prio)),.a (.v (.int .i64 e.seq)),.a (.v (.int .i64 e.run)),.a (.v (.int .i64 e.task))])]) (jl [some 600,some 700,some 900,some 1400] (by simp only [go_sem,het]<;>and_intros<;>first|rfl|assumption|trivial)) ?_
  refine jgW 900 2 94 rfl rfl rfl (by decide) (Nat.zero_lt_succ 0) ?_
  refine jgW 900 3 95 rfl rfl rfl (by decide) (Nat.zero_lt_succ 7) ?_
  have hEx:=jzB (g:=95) (sz:=8) (d:=jN (Z.runs.set k r2)) (η:=g3) rfl rfl (zU _) (by decide)
  refine WkK.wk (s':=St.of [(6,Bx 600 b6),(7,Bx 700 b7),(9,Bx 900 b9),(14,Bx 1400 b14),(17,Ni k)] [(600,ZYd b6 tYd),(700,ZRp b7 t7),(900,.box b9 tYd [.a (.v (.int .i64 Z.now)),.a (.v (.int .i64 Z.seq)),.a (.hs 94 0 [] (g1 []) 1 0 (Z.shelf.set h l).length),.a (.hs 95 0 [] (g3 []) 8 0 (Z.runs.set k r2).length)]),(94,.loose (kL (Z.shelf.set h l)) g1),(95,.loose (jN (Z.runs.set k r2)) g3),(1400,.box b14 tEn [.a (.v (.int .i64 e.prio)),.a (.v (.int .i64 e.seq)),.a (.v (.int .i64 e.run)),.a (.v (.int .i64 e.task))])]) (jl [some 600,some 700,some 900,some 94,some 95,some 1400] (by simp only [go_sem]<;>and_intros<;>first|rfl|assumption|trivial)) ?_
  refine WkK.of ?_;simp only [go_sem,hkl2,h0k,Nat.add_zero,hEx,jmk hr2,jlE hr2,zx hr2,htl2,h0t,jto hx2,jsr hx2,het];refine kK ?_;refine WkK.wk (s':=St.of [(6,Bx 600 b6),(7,Bx 700 b7)] [(600,.box b6 tYd [.a (.v (.int .i64 Z.now)),.a (.v (.int .i64 Z.seq)),.a (.hs 94 0 [] (g1 []) 1 0 (Z.shelf.set h l).length),.a (.hs 95 0 [] (g3 []) 8 0 (Z.runs.set k r2).length)]),(700,.box b7 t7 [.a (.v (.int .i64 0)),.a (.v (.int .i64 e.run)),.a (.v (.int .i64 t)),.a (.v (.int .i64 (IntKind.i64.wrap (x.tri+1))))]),(94,.loose (kL (Z.shelf.set h l)) g1),(95,.loose (jN (Z.runs.set k r2)) g3)]) (jl [some 600,some 700,some 94,some 95] (by simp only [go_sem]<;>and_intros<;>first|rfl|assumption|trivial)) ?_
  refine jdy 600 2 94 (d:=kL (Z.shelf.set h l)) (η:=g1) rfl rfl rfl rfl (jhw _).symm rfl (Nat.zero_lt_succ 0) ?_;refine jdy 600 3 95 (d:=jN (Z.runs.set k r2)) (η:=g3) rfl rfl rfl rfl (zU _).symm rfl (Nat.zero_lt_succ 7) ?_;refine WkK.of ?_;simp only [go_sem];simp only [zR];refine jD _ _ _ _ _ ?_;simp only [go_sem,jZ,true_or];refine jD _ _ _ _ _ ?_;simp only [go_sem,jZ,kn,jX,true_or,jc]
theorem jmI (y:Yd) (worker draw:Int) (ht:jS y≤2000000):kl Try.prog 145 [.agg (jc y),.c (.val (.int .i64 worker)),.c (.val (.int .i64 draw))] (.tup [(true,jc (jcb y worker draw)),(true,jf9 y worker draw)]):=by
 refine jaq [[1,1,1,1,1,1,1],[1,1,1,1,1,1,1,1,1,1,1,1,0],[1,1,1,1,1,1,1,1,1,1,1,1,1]] Try.func145 jiE (by simp) ?_
 unfold jaE;simp only [C.ghs,C.ghAt,List.foldr];simp only [go_sem,jc];intro b3 b6 b7;refine jb (kE y ht) (by simp only [go_sem,jc]) fun η=>?_
 simp only [go_sem,jc];cases hok:jJ y
 ·have hy:jcb y worker draw=y:=by rw [jcb,if_pos (.inl hok)]
  have hc:jdH y worker draw=8:=by rw [jdH,if_pos hok]
  have hr:jf9 y worker draw=[iv 8,iv 0,iv 0,iv 0]:=by rw [jf9,if_pos (by rw [hc];decide),hc]
  rw [hy,hr];simp only [go_sem,jc,hok];refine jb (jT y ht) (by simp only [go_sem,jc]) fun ηc=>?_
  simp only [go_sem,jc];simp only [zR];refine jD _ _ _ _ _ ?_;simp only [go_sem,jZ,true_or];refine jD _ _ _ _ _ ?_;simp only [go_sem,jZ,kn,jX,true_or,jc]
 have hP:=yard_iff.1 hok;simp only [go_sem,jc,hok];refine jb (jw worker 0 99) (by simp only [go_sem,jc]) fun η=>?_
 simp only [go_sem,jc];cases hw:decide (0≤worker∧worker≤99)
 ·have hw':=of_decide_eq_false hw
  have hy:jcb y worker draw=y:=by rw [jcb,if_pos (.inr hw')]
  have hc:jdH y worker draw=5:=by rw [jdH,if_neg (by rw [hok];decide),if_pos hw']
  have hr:jf9 y worker draw=[iv 5,iv 0,iv 0,iv 0]:=by rw [jf9,if_pos (by rw [hc];decide),hc]
  rw [hy,hr];simp only [go_sem,jc,hw];refine jb (jT y ht) (by simp only [go_sem,jc]) fun ηc=>?_
  simp only [go_sem,jc];simp only [zR];refine jD _ _ _ _ _ ?_;simp only [go_sem,jZ,true_or];refine jD _ _ _ _ _ ?_;simp only [go_sem,jZ,kn,jX,true_or,jc]
 have hw':=of_decide_eq_true hw;obtain ⟨h,hh⟩:∃h:Nat,worker.tmod 4=(h:Int):=⟨(worker.tmod 4).toNat,by rw [Int.tmod_eq_emod_of_nonneg hw'.1];omega⟩
 have hh4:h<4:=by rw [Int.tmod_eq_emod_of_nonneg hw'.1] at hh;omega
 have hwr:IntKind.i64.wrap (worker.tmod 4)=(h:Int):=by rw [hh];exact jg (by omega) (by omega)
 have h0h:(h:Int)≥0:=by omega
 simp only [go_sem,jc,hw,hh];refine jb (jfP y h ht) (by simp only [go_sem,jc]) fun ηs=>?_
 simp only [go_sem,jc];intro b9;refine jb (jgb h draw) (by simp only [go_sem,jc]) fun ηv=>?_
 simp only [go_sem,jc];have hI0:=PollI.start hP hh4;obtain ⟨v0,v1,v2,hv,w0,w1,w2,n0,n1,n2⟩:=jjt hh4 draw;have hZ:pollZ y h draw=pollF h (jju h draw) (zM y h):=rfl;generalize hz0:zM y h=z0 at*;generalize jju h draw=V at*;have hVl:V.length=3:=by rw [hv];rfl
 have hVm:∀(i:Nat) (v:Int),V[i]?=some v→∃n:Nat,v=n∧n<4∧n≠h:=fun i v hi=>by
  have:=List.mem_of_getElem? hi;rw [hv] at this;simp at this;rcases this with rfl|rfl|rfl
  ·exact ⟨v0,rfl,w0,n0⟩
  ·exact ⟨v1,rfl,w1,n1⟩
  ·exact ⟨v2,rfl,w2,n2⟩
 obtain ⟨Z,hZe⟩:∃Z,pollF h V z0=Z:=⟨_,rfl⟩;have hPZ:pollZ y h draw=Z:=by rw [hZ,hZe]
 have hhn:(worker.tmod 4).toNat=h:=by rw [hh];omega
 have hpk:jdH y worker draw=if ((Z.shelf[h]?).getD []).length=0 then 9 else 0:=by rw [jdH,if_neg (by rw [hok];decide),if_neg (by simpa using hw'),hhn,jii,hPZ]
 refine jq (fun i:Nat×Yd×jm×jm=>St.of [(6,Bx 600 b6),(7,Bx 700 b7),(8,Ni h),(9,Bx 900 b9),(10,Hd 10 (ηv 0)),(11,Ni i.1)] [(600,ZYd b6 _),(700,ZRp b7 _),(900,ve b9 _ i.2.1.now i.2.1.seq i.2.1.shelf i.2.2.1 i.2.1.runs i.2.2.2),(10,.loose (jo V) (ηv 0))]) (fun i=>i.1≤V.length∧PollI y h i.2.1∧pollF h (V.drop i.1) i.2.1=Z) (fun i=>V.length-i.1) (0,z0,ηs 2,ηs 3) (⟨Nat.zero_le _,hI0,hZe⟩) (jl [some 600,some 700,some 900,some 3700] (by simp only [go_sem,jc]<;>and_intros<;>first|rfl|assumption|trivial)) ?_
 rintro ⟨i,z,f2,f3⟩ ⟨hi,hI,hF⟩;dsimp only at hi hI hF;have h4:=hI.four;obtain ⟨a,ha⟩:=je (l:=z.shelf) (k:=h) (by omega)
 have hhl:=(List.getElem?_eq_some_iff.1 ha).1;have hal:=jbe (y:=z) (by have:=hI.tot;omega) (List.mem_of_getElem? ha)
 have hend:(i=V.length∨a.length≠0)→z=Z:=fun hc=>by
  rcases hc with hc|hc
  ·rw [←hF,hc,List.drop_length];rfl
  ·rw [←hF]
   cases hd:V.drop i with
   |nil=>rfl
   |cons v vs=>rw [pollF,ha,Option.getD_some,if_neg hc]
 by_cases hlt:i<V.length
 ·have hlt':(i:Int)<V.length:=by omega
  have h0i:(i:Int)≥0:=by omega
  have hwi:IntKind.i64.wrap ((i:Int)+1)=((i+1:Nat):Int):=jg (by omega) (by omega)
  cases he:((a.length:Nat):Int)==0
  ·obtain rfl:=hend (.inr (by intro h0;rw [h0] at he;cases he))
   simp only [go_sem,hlt',hhl,h0h,Nat.mul_one,jf6 ha,jfW hhl,qL ha,he];refine kK ?_;refine WkK.wk (s':=St.of [(6,Bx 600 b6),(7,Bx 700 b7),(8,Ni h),(9,Bx 900 b9)] [(600,ZYd b6 _),(700,ZRp b7 _),(900,ve b9 _ z.now z.seq z.shelf f2 z.runs f3)]) (jl [some 600,some 700,some 900] (by simp only [go_sem]<;>and_intros<;>first|rfl|assumption|trivial)) ?_
   exact WkK.of (jcn ht hP hw' hhn hh4 hPZ hI ha hal)
  ·have ha0:a.length=0:=by simp only [beq_iff_eq] at he;omega
   obtain ⟨v,hv⟩:=je hlt;obtain ⟨n,rfl,hn4,hnh⟩:=hVm i v hv;have hvn:0≤(n:Int):=by omega
   have hxa:((V.flatMap fun n=>[iv n]).drop i).take 1=[iv (n:Int)]:=by have:=ji hv;rwa [Nat.mul_one] at this
   have hxi:i+1≤(V.flatMap fun n=>[iv n]).length:=by have:=jj hlt;rwa [Nat.mul_one] at this
   obtain ⟨l,hl⟩:=je (l:=z.shelf) (k:=n) (by omega)
   obtain ⟨e1,e2⟩:=jjQ hl ha hnh;have hstep:=hI.step hn4 hh4 hnh
   have hFn:pollF h (V.drop (i+1)) (pollV z h n)=Z:=by
    rw [←hF,List.drop_eq_getElem_cons hlt,pollF,ha,Option.getD_some,if_pos ha0];have:V[i]=(n:Int):=by rw [List.getElem?_eq_getElem hlt] at hv;exact Option.some.inj hv
    rw [this,Int.toNat_natCast]
   have hlf:=List.length_filter_le (jM z) l;have hll:=jbe (y:=z) (by have:=hI.tot;omega) (List.mem_of_getElem? hl)
   rw [e2] at hFn hstep;simp only [go_sem,hlt',hlt,hhl,h0h,h0i,Nat.mul_one,jf6 ha,jfW hhl,qL ha,he,hxa,hxi];refine jb (jfP z n (by have:=hI.tot;omega)) (by simp only [go_sem,jc]) fun ηw=>?_
   simp only [go_sem,jc];rw [e1];generalize l.filter (jM z)=L at*;have q1:(z.shelf.set n L)[n]?=some L:=List.getElem?_set_self (by omega)
   have q2:n<(z.shelf.set n L).length:=by rw [List.length_set];omega
   have q0:(n:Int)≥0:=hvn;simp only [go_sem,hlt,h0i,Nat.mul_one,hxa,hxi,jf6 q1,jfW q2,qL q1,q2,q0];refine jb (jjY L (by omega)) (by simp only [go_sem,qL q1]) fun ηh=>?_
   simp only [go_sem,qL q1];simp only [go_sem,hlt,h0i,Nat.mul_one,hxa,hxi,jfW q2,jf6 q1,q2,q0,jeP,List.set_set];refine fun g' hg'=>?_
   have q3:(z.shelf.set n (jbt L))[h]?=some a:=by rw [List.getElem?_set_ne hnh];exact ha
   have q4:h<(z.shelf.set n (jbt L)).length:=by rw [List.length_set];omega
   have q5:(vU L).length≤L.length:=by rw [vU,List.length_take];omega
   simp only [go_sem,h0h,Nat.mul_one,jfW q4,jf6 q3,q4,qL q3];refine jb (jjW a (vU L) (by omega)) (by simp only [go_sem,qL q3]) fun ηm=>?_
   simp only [go_sem,qL q3];simp only [go_sem,h0h,Nat.mul_one,jfW q4,jf6 q3,q4,jeP,hwi];refine fun g2' hg2'=>?_
   exact ⟨(i+1,⟨z.now,z.seq,(z.shelf.set n (jbt L)).set h (qH a (vU L)),z.runs⟩,g2',ηw 3),⟨hlt,hstep,hFn⟩,(jl [some 600,some 700,some 900,some 10] (by simp only [go_sem]<;>and_intros<;>first|rfl|assumption|trivial)),by (try dsimp only);omega⟩
 ·have hlt':¬(i:Int)<V.length:=by omega
  obtain rfl:=hend (.inl (by omega))
  simp only [go_sem,hlt'];refine kK ?_;refine WkK.wk (s':=St.of [(6,Bx 600 b6),(7,Bx 700 b7),(8,Ni h),(9,Bx 900 b9)] [(600,ZYd b6 _),(700,ZRp b7 _),(900,ve b9 _ z.now z.seq z.shelf f2 z.runs f3)]) (jl [some 600,some 700,some 900] (by simp only [go_sem]<;>and_intros<;>first|rfl|assumption|trivial)) ?_
  exact WkK.of (jcn ht hP hw' hhn hh4 hPZ hI ha hal)
structure Rp where
 code:Int
 run:Int
 task:Int
 tri:Int
 deriving DecidableEq,Inhabited
abbrev jkt (r:Rp):List D:=[iv r.code,iv r.run,iv r.task,iv r.tri]
noncomputable def jrK (y:Yd) (worker draw:Int):Rp:=
 if jdH y worker draw≠0 then ⟨jdH y worker draw,0,0,0⟩
 else match jii y (worker.tmod 4).toNat draw with
  |[]=>⟨0,0,0,0⟩
  |e::l=>⟨0,e.run,e.task,jsy (pollZ y (worker.tmod 4).toNat draw) e⟩
theorem jy9 (y:Yd) (worker draw:Int):jf9 y worker draw=jkt (jrK y worker draw):=by
 unfold jf9 jrK;split
 ·rfl
 ·split<;>rfl
theorem jmN (y:Yd) (worker draw:Int) (ht:jS y≤2000000):kl Try.prog 145 [.agg (jc y),.c (.val (.int .i64 worker)),.c (.val (.int .i64 draw))] (.tup [(true,jc (jcb y worker draw)),(true,jkt (jrK y worker draw))]):=by
 rw [←jy9];exact jmI y worker draw ht
theorem jrL {y:Yd} {h:Nat} (hh:h<4):∀(vs:List Int) (z:Yd),(∀v∈vs,∃n:Nat,v=n∧n<4∧n≠h)→PollI y h z→PollI y h (pollF h vs z)
 |[],_,_,hI=>hI
 |v::vs,z,hv,hI=>by
  rw [pollF];split
  ·obtain ⟨n,rfl,h1,h2⟩:=hv v (by simp)
   exact jrL hh vs _ (fun v hv'=>hv v (by simp [hv'])) (by rw [Int.toNat_natCast];exact hI.step h1 hh h2)
  ·exact hI
theorem jrJ {y:Yd} (hP:YardOkP y) {h:Nat} (hh:h<4) (draw:Int):PollI y h (pollZ y h draw):=by
 obtain ⟨v0,v1,v2,hv,w0,w1,w2,n0,n1,n2⟩:=jjt hh draw;refine jrL hh _ _ (fun v hm=>?_) (PollI.start hP hh)
 rw [hv] at hm;simp at hm;rcases hm with rfl|rfl|rfl
 ·exact ⟨v0,rfl,w0,n0⟩
 ·exact ⟨v1,rfl,w1,n1⟩
 ·exact ⟨v2,rfl,w2,n2⟩
end Go.Proofs.Ytmnpailnelmpiaa
