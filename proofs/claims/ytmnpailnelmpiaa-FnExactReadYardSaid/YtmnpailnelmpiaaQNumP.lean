/- Parts. -/
import Derived.Test.YtmnpailnelmpiaaQHolds
set_option linter.unusedSimpArgs false
set_option linter.unusedVariables false
set_option maxHeartbeats 4000000
set_option maxRecDepth 100000
namespace Go.Proofs.Ytmnpailnelmpiaa
open Go.RowKit Go.Sort
theorem jM {L:List Int} {s:Nat×Bool} (h:s.1≤L.length):(kE L s).2.1≤L.length:=by
 unfold kE;split
 ·rename_i v hv;have:=(List.getElem?_eq_some_iff.1 hv).1;dsimp only;omega
 ·exact h
theorem jjq {L:List Int} {s:Nat×Bool} (h:∀n∈L,qG n):qG (kE L s).1:=by
 unfold kE;split
 ·rename_i v hv;exact h v (List.mem_of_getElem? hv)
 ·exact ⟨Int.le_refl _,by show (0:Int)≤_;omega⟩
structure RowsAt {σ α:Type} (bd:σ→Bool) (rd:σ→α×σ) (m:Nat) (s0:σ) (i:Nat) (E:List α) (s:σ):Prop where
 le:i≤m
 len:E.length=i
 eq:kb bd rd m ([],s0)=kb bd rd (m-i) (E,s)
theorem RowsAt.start {σ α:Type} {bd:σ→Bool} {rd:σ→α×σ} (m:Nat) (s0:σ):RowsAt bd rd m s0 0 [] s0:=⟨Nat.zero_le _,rfl,rfl⟩
theorem RowsAt.next {σ α:Type} {bd:σ→Bool} {rd:σ→α×σ} {m i:Nat} {s0 s:σ} {E:List α} (h:RowsAt bd rd m s0 i E s) (hi:i<m) (hb:bd s=false):RowsAt bd rd m s0 (i+1) (E++[(rd s).1]) (rd s).2:=by
 refine ⟨hi,by simp [h.len],?_⟩
 rw [h.eq,show m-i=m-(i+1)+1 by omega,kb,if_neg (by rw [hb];decide)]
theorem RowsAt.stop {σ α:Type} {bd:σ→Bool} {rd:σ→α×σ} {m i:Nat} {s0 s:σ} {E:List α} (h:RowsAt bd rd m s0 i E s) (hs:i=m∨bd s=true):kb bd rd m ([],s0)=(E,s):=by
 rw [h.eq];rcases hs with rfl|hb
 ·rw [Nat.sub_self];rfl
 ·exact qy hb _
abbrev js5 (b ty:Nat) (p m w t:Int) (E:List Ed) (η:jm):Ob:=.box b ty [.a (.v (.int .i64 p)),.a (.v (.int .i64 m)),.a (.v (.int .i64 w)),.a (.v (.int .i64 t)),.own (jv E) η]
abbrev ZPl (b ty:Nat):Ob:=.box b ty [.a (.v (.int .i64 0)),.a (.v (.int .i64 0)),.a (.v (.int .i64 0)),.a (.v (.int .i64 0)),.a (.v (.slice none 0 0))]
theorem jkM (l:List Ed) (a b:Int):D.sl 2 tEd (l.flatMap jF++[.val (.int .i64 a),.val (.int .i64 b)])=jv (l++[⟨a,b⟩]):=jmm l ⟨a,b⟩
def vg:C:=iS [iA 2 (.alloc 24 [.int .i64 0,.int .i64 0,.int .i64 0,.int .i64 0,.slice none 0 0])] (iS [iA 6 (iM 0),iA 7 (.call 32 [.t 6]),iA 8 (iM 0),iA 9 (.call 32 [.t 8]),iA 10 (iM 0),iA 11 (.call 32 [.t 10]),iA 12 (iM 0),iA 13 (.call 32 [.t 12]),iA 14 (.bld [.int .i64 0,.int .i64 0,.int .i64 0,.int .i64 0,.slice none 0 0] [(0,1,.t 7),(1,1,.t 9),(2,1,.t 11),(3,1,.t 13)]),iA 3 (.alloc 24 [.int .i64 0,.int .i64 0,.int .i64 0,.int .i64 0,.slice none 0 0]),iC (.st 5 [none,none,none,none,some (2,103)] (.t 3) (.t 14))] (iS [iA 15 (iM 0),iA 16 (.call 32 [.t 15]),iA 4 (iM 16)] (.seq (iS [iA 5 (iN 0)] (.blk 0 (.loop (.seq (iS [iA 17 (iM 5),iA 18 (iM 4),iA 19 (iP .lss 3 17 18),iA 20 (iM 19),iB 21 20 true (iM 0),iB 22 20 true (iF 0 21),iB 23 20 true (iF 1 22),iB 24 20 true (iL 23),iB 25 20 true (iU 24),iA 26 (.pick (.t 20) (.t 25) (.c (.bool false)))] (iD 26 .skip (.exit 0))) (.seq (.blk 1 (.dreg (T.pure 0 (iA 29 (iF 4 3)) (T.pure 1 (iA 30 (iL 29)) (T.pure 2 (iA 31 (iM 0)) (T.pure 4 (iA 33 (iM 0)) (T.alt (iA 32 (.call 32 [.t 31])) [4,1,0] (T.alt (iA 34 (.call 32 [.t 33])) [1,0] (T.pure 6 (iA 35 (.bld [.int .i64 0,.int .i64 0] [(0,1,.t 32),(1,1,.t 34)])) (T.alt (iA 36 (.bsl 103 2 1 [none,none] [(0,2,.t 35)])) [1,0] (T.alt (iA 37 (.app 103 2 16 (.t 30) (.t 36))) [] (T.pure 9 (iA 38 (iF 4 3)) (T.alt (iC (.st 1 [some (2,103)] (.t 38) (.t 37))) [] T.done T.stop)) T.stop) T.stop)) T.stop) T.stop))))))) (.reg [iA 27 (iM 5),iA 28 (iQ .add 3 27 1),iA 5 (iM 28)])))))) (iS [iA 39 (iT 5 3),iC (.st 5 [none,none,none,none,some (2,103)] (.t 2) (.t 39))] .ret))))
theorem zN:fnC Try.prog Try.f33=some (vg,[.cell 2 true 5],40):=by kernel_rfl
theorem jkB (L:List Int) (hin:∀n∈L,qG n) (hLl:L.length≤1000000000) (s:Nat×Bool) (b:Nat) (η:jm) (o:Nat→Ob) (hs:s.1≤L.length) (ho:o 88=kn b 63 η L s) (hL:o 87=.loose (jj L) η) (h86:o 86=.none):
 Inl Try.prog 33 [Bx 88 b] o fun av o2=>∃(p:Pl) (s':Nat×Bool) (e:jm),rdPl none (kE L) (·.2) (fun s=>(s.1,true)) s=(p,s')∧s'.1≤L.length∧
  av=.agg [.v (.int .i64 p.prio),.v (.int .i64 p.most),.v (.int .i64 p.wait),.v (.int .i64 p.tasks),.v (e [])]∧(e []).oneCell'=true∧o2 86=.loose (jv p.edges) e∧o2 88=kn b 63 η L s'∧∀g,g<900000000→g≠86→g≠88→o2 g=o g:=by
 refine jim (β:=9000000) [[1,1,1,1,0]] Try.func33 zN (by simp) ?_
 unfold vg;simp only [C.ghs,C.ghAt,List.foldr];simp only [go_sem];intro b2;refine jl (jA L s b η _ hs (by simp only [go_sem,ho]) (by simp only [go_sem,hL])) (by simp only [go_sem]) ?_
 have s1:=jM hs;generalize hq1:kE L s=q1 at*;simp only [go_sem];refine jl (jA L q1.2 b η _ s1 (by simp only [go_sem]) (by simp only [go_sem,hL])) (by simp only [go_sem]) ?_
 have s2:=jM s1;generalize hq2:kE L q1.2=q2 at*;simp only [go_sem];refine jl (jA L q2.2 b η _ s2 (by simp only [go_sem]) (by simp only [go_sem,hL])) (by simp only [go_sem]) ?_
 have s3:=jM s2;generalize hq3:kE L q2.2=q3 at*;simp only [go_sem];refine jl (jA L q3.2 b η _ s3 (by simp only [go_sem]) (by simp only [go_sem,hL])) (by simp only [go_sem]) ?_
 have s4:=jM s3;generalize hq4:kE L q3.2=q4 at*;simp only [go_sem];intro b3;refine jl (jA L q4.2 b η _ s4 (by simp only [go_sem]) (by simp only [go_sem,hL])) (by simp only [go_sem]) ?_
 have s5:=jM s4;have hm:=jjq (s:=q4.2) hin;generalize hq5:kE L q4.2=q5 at*;simp only [go_sem];obtain ⟨m,hm0⟩:=Int.eq_ofNat_of_zero_le hm.1;have hm1:=hm.2;rw [hm0] at hm1;have hm':q5.1=(m:Int):=hm0;rw [hm'];refine jp (fun i:(Nat×List Ed×(Nat×Bool))×jm=>St.ofB [(0,Bx 88 b),(2,Bx 900000200 b2),(3,Bx 900000300 b3),(4,Ni m),(5,Ni i.1.1)] [(900000200,ZPl b2 24),(900000300,js5 b3 24 q1.1 q2.1 q3.1 q4.1 i.1.2.1 i.2)] 900000000 (fun j=>if j=88 then kn b 63 η L i.1.2.2 else o j)) (fun i=>RowsAt (·.2) (jhT (kE L)) m q5.2 i.1.1 i.1.2.1 i.1.2.2∧i.1.2.2.1≤L.length) (fun i=>m-i.1.1) ((0,[],q5.2),jad) (⟨RowsAt.start _ _,s5⟩) (jah [some 900000200,some 900000300] (by simp only [go_sem,jt]<;>and_intros<;>first|rfl|assumption|trivial) (fun j hj=>by by_cases e88:j=88<;>simp only [go_sem,e88,hj,if_true,if_false,ko hj 900000200 (by omega),ko hj 900000300 (by omega),jt]) (by decide)) ?_
 rintro ⟨⟨i,E,q⟩,e0⟩ ⟨hR,hq⟩;dsimp only at hR hq;have hle:=hR.le;have hlen:=hR.len;by_cases hlt:i<m;rotate_left
 ·have hlt':¬(i:Int)<(m:Int):=by omega
  have hst:=hR.stop (.inl (by omega))
  have hrd:rdPl none (kE L) (·.2) (fun s=>(s.1,true)) s=(⟨q1.1,q2.1,q3.1,q4.1,E⟩,q):=by
   simp only [rdPl,hq1,hq2,hq3,hq4,hq5,zb,hm',Int.toNat_natCast,hst]
  simp only [go_sem,hlt'];refine qW ?_;refine jc0 900000300 4 86 (d:=jv E) (η:=e0) (by simp only [go_sem]) (by simp only [go_sem,h86]) (by decide) fun hx=>?_
  refine WkK.of ?_;simp only [go_sem,hx];exact ⟨_,_,e0,hrd,hq,rfl,hx,rfl,rfl,fun g g1 g2 g3=>by simp only [g2,g3,g1,ko g1 900000200 (by omega),ko g1 900000300 (by omega),if_true,if_false]⟩
 have hlt':(i:Int)<(m:Int):=by omega
 obtain ⟨k,bad⟩:=q;cases bad;rotate_left
 ·have hst:=hR.stop (.inr rfl)
  have hrd:rdPl none (kE L) (·.2) (fun s=>(s.1,true)) s=(⟨q1.1,q2.1,q3.1,q4.1,E⟩,(k,true)):=by
   simp only [rdPl,hq1,hq2,hq3,hq4,hq5,zb,hm',Int.toNat_natCast,hst]
  simp only [go_sem,hlt',kn,Bool.not_true];refine qW ?_;refine jc0 900000300 4 86 (d:=jv E) (η:=e0) (by simp only [go_sem]) (by simp only [go_sem,h86]) (by decide) fun hx=>?_
  refine WkK.of ?_;simp only [go_sem,hx];exact ⟨_,_,e0,hrd,hq,rfl,hx,rfl,rfl,fun g g1 g2 g3=>by simp only [g2,g3,g1,ko g1 900000200 (by omega),ko g1 900000300 (by omega),if_true,if_false]⟩
 ·have hnx:=hR.next hlt rfl
  simp only [go_sem,hlt',kn,Bool.not_false];refine jl (jA L (k,false) b η _ hq (by simp only [go_sem,kn]) (by simp only [go_sem,hL])) (by simp only [go_sem]) ?_
  have t1:=jM hq;simp only [jhT] at hnx;generalize hr1:kE L (k,false)=r1 at*;simp only [go_sem,hlen];refine jl (jA L r1.2 b η _ t1 (by simp only [go_sem]) (by simp only [go_sem,hL])) (by simp only [go_sem]) ?_
  have t2:=jM t1;generalize hr2:kE L r1.2=r2 at*;have hw:IntKind.i64.wrap ((i:Int)+1)=((i+1:Nat):Int):=ji (by omega) (by omega)
  simp only [go_sem];intro e1;refine ⟨by unfold maxLen;omega,by omega,fun e2=>?_⟩
  exact ⟨((i+1,E++[⟨r1.1,r2.1⟩],r2.2),e2),⟨hnx,t2⟩,(jah [some 900000200,some 900000300] (by simp only [go_sem,jkM,hw,kn]<;>and_intros<;>first|rfl|assumption|trivial) (fun j hj=>by by_cases e88:j=88<;>simp only [go_sem,e88,hj,if_true,if_false,ko hj 900000200 (by omega),ko hj 900000300 (by omega),ko hj 900003600 (by omega),ko hj 900003700 (by omega),jkM,hw,kn]) (by decide)),by (try dsimp only);omega⟩
theorem jf5 (t:ByteArray) (k:Int) (hk:k≤t.size):(vAt t k).2≤t.size∧qG (vAt t k).1:=by
 rw [vAt];split
 ·exact ⟨by show (-1:Int)≤_;omega,by show (0:Int)≤0;omega,by show (0:Int)≤_;omega⟩
 ·cases hv:vS (t.data.toList.drop k.toNat) with
  |none=>exact ⟨by show (-1:Int)≤_;omega,by show (0:Int)≤0;omega,by show (0:Int)≤_;omega⟩
  |some p=>
   obtain ⟨v,m⟩:=p;obtain ⟨h1,q,h2,rfl⟩:=qN hv;have hl:=congrArg List.length h2;rw [List.length_drop,List.length_append,Array.length_toList] at hl;have hz:t.data.size=t.size:=rfl;have:=List.length_pos_iff.2 (jc2 v);refine ⟨?_,?_,?_⟩<;>dsimp only<;>omega
theorem jL {t:ByteArray} {s:Int×Bool} (h:s.1≤t.size):(kh t s).2.1≤t.size:=by
 unfold kh;split
 ·exact h
 ·split
  ·exact h
  ·exact (jf5 t s.1 h).1
theorem jjp {s:Int×Bool} (t:ByteArray) (h:s.1≤t.size):qG (kh t s).1:=by
 unfold kh;split
 ·exact ⟨by show (0:Int)≤0;omega,by show (0:Int)≤_;omega⟩
 ·split
  ·exact ⟨by show (0:Int)≤0;omega,by show (0:Int)≤_;omega⟩
  ·exact (jf5 t s.1 h).2
def jbk:C:=iS [iA 2 (.alloc 24 [.int .i64 0,.int .i64 0,.int .i64 0,.int .i64 0,.slice none 0 0])] (iS [iA 6 (iM 0),iA 7 (.call 28 [.t 6]),iA 8 (iM 0),iA 9 (.call 28 [.t 8]),iA 10 (iM 0),iA 11 (.call 28 [.t 10]),iA 12 (iM 0),iA 13 (.call 28 [.t 12]),iA 14 (.bld [.int .i64 0,.int .i64 0,.int .i64 0,.int .i64 0,.slice none 0 0] [(0,1,.t 7),(1,1,.t 9),(2,1,.t 11),(3,1,.t 13)]),iA 3 (.alloc 24 [.int .i64 0,.int .i64 0,.int .i64 0,.int .i64 0,.slice none 0 0]),iC (.st 5 [none,none,none,none,some (2,103)] (.t 3) (.t 14))] (iS [iA 15 (iM 0),iA 16 (.call 28 [.t 15]),iA 4 (iM 16)] (.seq (iS [iA 17 (iM 4),iA 18 (iQ .gtr 3 17 31)] (iD 18 (.reg [iA 19 (iM 0),iA 20 (iF 0 19),iA 21 (iF 2 20),iC (.st 1 [none] (.t 21) (.c (.bool true)))]) .skip)) (.seq (iS [iA 5 (iN 0)] (.blk 0 (.loop (.seq (iS [iA 22 (iM 5),iA 23 (iM 4),iA 24 (iP .lss 3 22 23),iA 25 (iM 24),iB 26 25 true (iM 0),iB 27 25 true (iF 0 26),iB 28 25 true (iF 2 27),iB 29 25 true (iL 28),iB 30 25 true (iU 29),iA 31 (.pick (.t 25) (.t 30) (.c (.bool false)))] (iD 31 .skip (.exit 0))) (.seq (.blk 1 (.dreg (T.pure 0 (iA 34 (iF 4 3)) (T.pure 1 (iA 35 (iL 34)) (T.pure 2 (iA 36 (iM 0)) (T.pure 4 (iA 38 (iM 0)) (T.alt (iA 37 (.call 28 [.t 36])) [4,1,0] (T.alt (iA 39 (.call 28 [.t 38])) [1,0] (T.pure 6 (iA 40 (.bld [.int .i64 0,.int .i64 0] [(0,1,.t 37),(1,1,.t 39)])) (T.alt (iA 41 (.bsl 103 2 1 [none,none] [(0,2,.t 40)])) [1,0] (T.alt (iA 42 (.app 103 2 16 (.t 35) (.t 41))) [] (T.pure 9 (iA 43 (iF 4 3)) (T.alt (iC (.st 1 [some (2,103)] (.t 43) (.t 42))) [] T.done T.stop)) T.stop) T.stop)) T.stop) T.stop))))))) (.reg [iA 32 (iM 5),iA 33 (iQ .add 3 32 1),iA 5 (iM 33)])))))) (iS [iA 44 (iT 5 3),iC (.st 5 [none,none,none,none,some (2,103)] (.t 2) (.t 44))] .ret)))))
theorem jdk:fnC Try.prog Try.f29=some (jbk,[.cell 2 true 5],45):=by kernel_rfl
theorem jil (t:ByteArray) (ht:t.size≤1000000000) (s:Int×Bool) (b:Nat) (o:Nat→Ob) (hs:s.1≤t.size) (ho:o 89=jK b 56 t s) (h86:o 86=.none):
 Inl Try.prog 29 [Bx 89 b] o fun av o2=>∃(p:Pl) (s':Int×Bool) (e:jm),rdPl (some 31) (kh t) (·.2) (fun s=>(s.1,true)) s=(p,s')∧s'.1≤t.size∧
  av=.agg [.v (.int .i64 p.prio),.v (.int .i64 p.most),.v (.int .i64 p.wait),.v (.int .i64 p.tasks),.v (e [])]∧(e []).oneCell'=true∧o2 86=.loose (jv p.edges) e∧o2 89=jK b 56 t s'∧∀g,g<900000000→g≠86→g≠89→o2 g=o g:=by
 refine jim (β:=9000000) [[1,1,1,1,1,0]] Try.func29 jdk (by simp) ?_
 unfold jbk;simp only [C.ghs,C.ghAt,List.foldr];simp only [go_sem];intro b2;refine jl (jN t ht s b _ (by omega) (by simp only [go_sem,ho])) (by simp only [go_sem]) ?_
 have s1:=jL hs;generalize hq1:kh t s=q1 at*;simp only [go_sem];refine jl (jN t ht q1.2 b _ (by omega) (by simp only [go_sem])) (by simp only [go_sem]) ?_
 have s2:=jL s1;generalize hq2:kh t q1.2=q2 at*;simp only [go_sem];refine jl (jN t ht q2.2 b _ (by omega) (by simp only [go_sem])) (by simp only [go_sem]) ?_
 have s3:=jL s2;generalize hq3:kh t q2.2=q3 at*;simp only [go_sem];refine jl (jN t ht q3.2 b _ (by omega) (by simp only [go_sem])) (by simp only [go_sem]) ?_
 have s4:=jL s3;generalize hq4:kh t q3.2=q4 at*;simp only [go_sem];intro b3;refine jl (jN t ht q4.2 b _ (by omega) (by simp only [go_sem])) (by simp only [go_sem]) ?_
 have s5:=jL s4;have hm:=jjp t s4;generalize hq5:kh t q4.2=q5 at*;simp only [go_sem];obtain ⟨m,hm0⟩:=Int.eq_ofNat_of_zero_le hm.1;have hm1:=hm.2;rw [hm0] at hm1;have hm':q5.1=(m:Int):=hm0;rw [hm'];obtain ⟨q5v,k5,b5⟩:=q5;dsimp only at hm' hm0 s5 hm;by_cases hcap:(m:Int)>31
 ·have hcap':(31:Int)<(m:Int):=hcap
  have h0m:(0:Int)<(m:Int):=by omega
  have hst:kb (·.2) (jhT (kh t)) m ([],(k5,true))=([],(k5,true)):=qy rfl _
  have hrd:rdPl (some 31) (kh t) (·.2) (fun s=>(s.1,true)) s=(⟨q1.1,q2.1,q3.1,q4.1,[]⟩,(k5,true)):=by
   simp only [rdPl,hq1,hq2,hq3,hq4,hq5,zb,hm',Int.toNat_natCast,if_pos hcap,hst]
  simp only [go_sem,hcap',jK];refine jag 1 ?_;simp only [go_sem,h0m,Bool.not_true];refine qW ?_;refine WkK.wk (s':=St.ofB [(0,Bx 89 b),(2,Bx 900000200 b2),(3,Bx 900000300 b3)] [(900000200,ZPl b2 24),(900000300,js5 b3 24 q1.1 q2.1 q3.1 q4.1 [] jad)] 900000000 (fun j=>if j=89 then jK b 56 t (k5,true) else o j)) (jah [some 900000200,some 900000300] (by simp only [go_sem,jt,jK]<;>and_intros<;>first|rfl|assumption|trivial) (fun j hj=>by by_cases e89:j=89<;>simp only [go_sem,e89,hj,if_true,if_false,ko hj 900000200 (by omega),ko hj 900000300 (by omega),jt,jK]) (by decide)) ?_
  refine jc0 900000300 4 86 (d:=jv []) (η:=jad) (by simp only [go_sem]) (by simp only [go_sem,h86]) (by decide) fun hx=>?_
  refine WkK.of ?_;simp only [go_sem,hx];exact ⟨_,_,jad,hrd,s5,rfl,hx,rfl,rfl,fun g g1 g2 g3=>by simp only [g2,g3,g1,ko g1 900000200 (by omega),ko g1 900000300 (by omega),if_true,if_false]⟩
 have hcap':¬(31:Int)<(m:Int):=hcap;simp only [go_sem,hcap'];refine jp (fun i:(Nat×List Ed×(Int×Bool))×jm=>St.ofB [(0,Bx 89 b),(2,Bx 900000200 b2),(3,Bx 900000300 b3),(4,Ni m),(5,Ni i.1.1)] [(900000200,ZPl b2 24),(900000300,js5 b3 24 q1.1 q2.1 q3.1 q4.1 i.1.2.1 i.2)] 900000000 (fun j=>if j=89 then jK b 56 t i.1.2.2 else o j)) (fun i=>RowsAt (·.2) (jhT (kh t)) m (k5,b5) i.1.1 i.1.2.1 i.1.2.2∧i.1.2.2.1≤t.size) (fun i=>m-i.1.1) ((0,[],(k5,b5)),jad) (⟨RowsAt.start _ _,s5⟩) (jah [some 900000200,some 900000300] (by simp only [go_sem,jt]<;>and_intros<;>first|rfl|assumption|trivial) (fun j hj=>by by_cases e89:j=89<;>simp only [go_sem,e89,hj,if_true,if_false,ko hj 900000200 (by omega),ko hj 900000300 (by omega),jt]) (by decide)) ?_
 rintro ⟨⟨i,E,q⟩,e0⟩ ⟨hR,hq⟩;dsimp only at hR hq;have hle:=hR.le;have hlen:=hR.len;by_cases hlt:i<m;rotate_left
 ·have hlt':¬(i:Int)<(m:Int):=by omega
  have hst:=hR.stop (.inl (by omega))
  have hrd:rdPl (some 31) (kh t) (·.2) (fun s=>(s.1,true)) s=(⟨q1.1,q2.1,q3.1,q4.1,E⟩,q):=by
   simp only [rdPl,hq1,hq2,hq3,hq4,hq5,zb,hm',Int.toNat_natCast,if_neg hcap,hst]
  simp only [go_sem,hlt'];refine qW ?_;refine jc0 900000300 4 86 (d:=jv E) (η:=e0) (by simp only [go_sem]) (by simp only [go_sem,h86]) (by decide) fun hx=>?_
  refine WkK.of ?_;simp only [go_sem,hx];exact ⟨_,_,e0,hrd,hq,rfl,hx,rfl,rfl,fun g g1 g2 g3=>by simp only [g2,g3,g1,ko g1 900000200 (by omega),ko g1 900000300 (by omega),if_true,if_false]⟩
 have hlt':(i:Int)<(m:Int):=by omega
 obtain ⟨k,bad⟩:=q;cases bad;rotate_left
 ·have hst:=hR.stop (.inr rfl)
  have hrd:rdPl (some 31) (kh t) (·.2) (fun s=>(s.1,true)) s=(⟨q1.1,q2.1,q3.1,q4.1,E⟩,(k,true)):=by
   simp only [rdPl,hq1,hq2,hq3,hq4,hq5,zb,hm',Int.toNat_natCast,if_neg hcap,hst]
  simp only [go_sem,hlt',jK,Bool.not_true];refine qW ?_;refine jc0 900000300 4 86 (d:=jv E) (η:=e0) (by simp only [go_sem]) (by simp only [go_sem,h86]) (by decide) fun hx=>?_
  refine WkK.of ?_;simp only [go_sem,hx];exact ⟨_,_,e0,hrd,hq,rfl,hx,rfl,rfl,fun g g1 g2 g3=>by simp only [g2,g3,g1,ko g1 900000200 (by omega),ko g1 900000300 (by omega),if_true,if_false]⟩
 ·have hnx:=hR.next hlt rfl
  simp only [go_sem,hlt',jK,Bool.not_false];refine jl (jN t ht (k,false) b _ (by omega) (by simp only [go_sem,jK])) (by simp only [go_sem]) ?_
  have t1:=jL hq;simp only [jhT] at hnx;generalize hr1:kh t (k,false)=r1 at*;simp only [go_sem,hlen];refine jl (jN t ht r1.2 b _ (by omega) (by simp only [go_sem])) (by simp only [go_sem]) ?_
  have t2:=jL t1;generalize hr2:kh t r1.2=r2 at*;have hw:IntKind.i64.wrap ((i:Int)+1)=((i+1:Nat):Int):=ji (by omega) (by omega)
  simp only [go_sem];intro e1;refine ⟨by unfold maxLen;omega,by omega,fun e2=>?_⟩
  exact ⟨((i+1,E++[⟨r1.1,r2.1⟩],r2.2),e2),⟨hnx,t2⟩,(jah [some 900000200,some 900000300] (by simp only [go_sem,jkM,hw,jK]<;>and_intros<;>first|rfl|assumption|trivial) (fun j hj=>by by_cases e89:j=89<;>simp only [go_sem,e89,hj,if_true,if_false,ko hj 900000200 (by omega),ko hj 900000300 (by omega),ko hj 900004100 (by omega),ko hj 900004200 (by omega),jkM,hw,jK]) (by decide)),by (try dsimp only);omega⟩
end Go.Proofs.Ytmnpailnelmpiaa
