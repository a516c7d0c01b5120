/- Parts. -/
import Derived.Test.YtmnpailnelmpiaaQReadV
set_option linter.unusedSimpArgs false
set_option linter.unusedVariables false
set_option maxHeartbeats 4000000
set_option maxRecDepth 100000
namespace Go.Proofs.Ytmnpailnelmpiaa
open Go.RowKit Go.Sort
theorem kQ {L:List Int} {s:Nat×Bool} (h:s.1≤L.length):(vd L s).2.1≤L.length:=by
 unfold vd;split
 ·rename_i v hv;have:=(List.getElem?_eq_some_iff.1 hv).1;dsimp only;omega
 ·exact h
theorem jxd {L:List Int} {s:Nat×Bool} (h:∀n∈L,jar n):jar (vd L s).1:=by
 unfold vd;split
 ·rename_i v hv;exact h v (List.mem_of_getElem? hv)
 ·exact ⟨Int.le_refl _,by show (0:Int)≤_;omega⟩
structure RowsAt {σ α:Type} (bd:σ→Bool) (rd:σ→α×σ) (m:Nat) (s0:σ) (i:Nat) (E:List α) (s:σ):Prop where
 le:i≤m
 len:E.length=i
 eq:jda bd rd m ([],s0)=jda bd rd (m-i) (E,s)
theorem RowsAt.start {σ α:Type} {bd:σ→Bool} {rd:σ→α×σ} (m:Nat) (s0:σ):RowsAt bd rd m s0 0 [] s0:=⟨Nat.zero_le _,rfl,rfl⟩
theorem RowsAt.next {σ α:Type} {bd:σ→Bool} {rd:σ→α×σ} {m i:Nat} {s0 s:σ} {E:List α} (h:RowsAt bd rd m s0 i E s) (hi:i<m) (hb:bd s=false):RowsAt bd rd m s0 (i+1) (E++[(rd s).1]) (rd s).2:=by
 refine ⟨hi,by simp [h.len],?_⟩
 rw [h.eq,show m-i=m-(i+1)+1 by omega,jda,if_neg (by rw [hb];decide)]
theorem RowsAt.stop {σ α:Type} {bd:σ→Bool} {rd:σ→α×σ} {m i:Nat} {s0 s:σ} {E:List α} (h:RowsAt bd rd m s0 i E s) (hs:i=m∨bd s=true):jda bd rd m ([],s0)=(E,s):=by
 rw [h.eq];rcases hs with rfl|hb
 ·rw [Nat.sub_self];rfl
 ·exact jld hb _
abbrev jns (b ty:Nat) (p m w t:Int) (E:List Ed) (η:jm):Ob:=.box b ty [.a (.v (.int .i64 p)),.a (.v (.int .i64 m)),.a (.v (.int .i64 w)),.a (.v (.int .i64 t)),.own (jt E) η]
abbrev ZPl (b ty:Nat):Ob:=.box b ty [.a (.v (.int .i64 0)),.a (.v (.int .i64 0)),.a (.v (.int .i64 0)),.a (.v (.int .i64 0)),.a (.v (.slice none 0 0))]
theorem jot (l:List Ed) (a b:Int):D.sl 2 tEd (l.flatMap jW++[.val (.int .i64 a),.val (.int .i64 b)])=jt (l++[⟨a,b⟩]):=jjq l ⟨a,b⟩
def vO:C:=iS [iA 2 (.alloc 24 [.int .i64 0,.int .i64 0,.int .i64 0,.int .i64 0,.slice none 0 0])] (iS [iA 6 (iM 0),iA 7 (.call 32 [.t 6]),iA 8 (iM 0),iA 9 (.call 32 [.t 8]),iA 10 (iM 0),iA 11 (.call 32 [.t 10]),iA 12 (iM 0),iA 13 (.call 32 [.t 12]),iA 14 (.bld [.int .i64 0,.int .i64 0,.int .i64 0,.int .i64 0,.slice none 0 0] [(0,1,.t 7),(1,1,.t 9),(2,1,.t 11),(3,1,.t 13)]),iA 3 (.alloc 24 [.int .i64 0,.int .i64 0,.int .i64 0,.int .i64 0,.slice none 0 0]),iC (.st 5 [none,none,none,none,some (2,103)] (.t 3) (.t 14))] (iS [iA 15 (iM 0),iA 16 (.call 32 [.t 15]),iA 4 (iM 16)] (.seq (iS [iA 5 (iN 0)] (.blk 0 (.loop (.seq (iS [iA 17 (iM 5),iA 18 (iM 4),iA 19 (iP .lss 3 17 18),iA 20 (iM 19),iB 21 20 true (iM 0),iB 22 20 true (iF 0 21),iB 23 20 true (iF 1 22),iB 24 20 true (iL 23),iB 25 20 true (iU 24),iA 26 (.pick (.t 20) (.t 25) (.c (.bool false)))] (iD 26 .skip (.exit 0))) (.seq (.blk 1 (.dreg (T.pure 0 (iA 29 (iF 4 3)) (T.pure 1 (iA 30 (iL 29)) (T.pure 2 (iA 31 (iM 0)) (T.pure 4 (iA 33 (iM 0)) (T.alt (iA 32 (.call 32 [.t 31])) [4,1,0] (T.alt (iA 34 (.call 32 [.t 33])) [1,0] (T.pure 6 (iA 35 (.bld [.int .i64 0,.int .i64 0] [(0,1,.t 32),(1,1,.t 34)])) (T.alt (iA 36 (.bsl 103 2 1 [none,none] [(0,2,.t 35)])) [1,0] (T.alt (iA 37 (.app 103 2 16 (.t 30) (.t 36))) [] (T.pure 9 (iA 38 (iF 4 3)) (T.alt (iC (.st 1 [some (2,103)] (.t 38) (.t 37))) [] T.done T.stop)) T.stop) T.stop)) T.stop) T.stop))))))) (.reg [iA 27 (iM 5),iA 28 (iQ .add 3 27 1),iA 5 (iM 28)])))))) (iS [iA 39 (iT 5 3),iC (.st 5 [none,none,none,none,some (2,103)] (.t 2) (.t 39))] .ret))))
theorem jaB:fnC Try.prog Try.f33=some (vO,[.cell 2 true 5],40):=by kernel_rfl
theorem juK (L:List Int) (hin:∀n∈L,jar n) (hLl:L.length≤1000000000) (s:Nat×Bool) (b:Nat) (η:jm) (o:Nat→Ob) (hs:s.1≤L.length) (ho:o 88=zF b 63 η L s) (hL:o 87=.loose (jo L) η) (h86:o 86=.none):
 Inl Try.prog 33 [Bx 88 b] o fun av o2=>∃(p:Pl) (s':Nat×Bool) (e:jm),rdPl none (vd L) (·.2) (fun s=>(s.1,true)) s=(p,s')∧s'.1≤L.length∧
  av=.agg [.v (.int .i64 p.prio),.v (.int .i64 p.most),.v (.int .i64 p.wait),.v (.int .i64 p.tasks),.v (e [])]∧(e []).oneCell'=true∧o2 86=.loose (jt p.edges) e∧o2 88=zF b 63 η L s'∧∀g,g<900000000→g≠86→g≠88→o2 g=o g:=by
 refine jfV (β:=9000000) [[1,1,1,1,0]] Try.func33 jaB (by simp) ?_
 unfold vO;simp only [C.ghs,C.ghAt,List.foldr];simp only [go_sem];intro b2;refine jn (kp L s b η _ hs (by simp only [go_sem,ho]) (by simp only [go_sem,hL])) (by simp only [go_sem]) ?_
 have s1:=kQ hs;generalize hq1:vd L s=q1 at*;simp only [go_sem];refine jn (kp L q1.2 b η _ s1 (by simp only [go_sem]) (by simp only [go_sem,hL])) (by simp only [go_sem]) ?_
 have s2:=kQ s1;generalize hq2:vd L q1.2=q2 at*;simp only [go_sem];refine jn (kp L q2.2 b η _ s2 (by simp only [go_sem]) (by simp only [go_sem,hL])) (by simp only [go_sem]) ?_
 have s3:=kQ s2;generalize hq3:vd L q2.2=q3 at*;simp only [go_sem];refine jn (kp L q3.2 b η _ s3 (by simp only [go_sem]) (by simp only [go_sem,hL])) (by simp only [go_sem]) ?_
 have s4:=kQ s3;generalize hq4:vd L q3.2=q4 at*;simp only [go_sem];intro b3;refine jn (kp L q4.2 b η _ s4 (by simp only [go_sem]) (by simp only [go_sem,hL])) (by simp only [go_sem]) ?_
 have s5:=kQ s4;have hm:=jxd (s:=q4.2) hin;generalize hq5:vd L q4.2=q5 at*;simp only [go_sem];obtain ⟨m,hm0⟩:=Int.eq_ofNat_of_zero_le hm.1;have hm1:=hm.2;rw [hm0] at hm1;have hm':q5.1=(m:Int):=hm0;rw [hm'];refine jq (fun i:(Nat×List Ed×(Nat×Bool))×jm=>St.ofB [(0,Bx 88 b),(2,Bx 900000200 b2),(3,Bx 900000300 b3),(4,Ni m),(5,Ni i.1.1)] [(900000200,ZPl b2 24),(900000300,jns b3 24 q1.1 q2.1 q3.1 q4.1 i.1.2.1 i.2)] 900000000 (fun j=>if j=88 then zF b 63 η L i.1.2.2 else o j)) (fun i=>RowsAt (·.2) (jrA (vd L)) m q5.2 i.1.1 i.1.2.1 i.1.2.2∧i.1.2.2.1≤L.length) (fun i=>m-i.1.1) ((0,[],q5.2),vT) (⟨RowsAt.start _ _,s5⟩) (jR [some 900000200,some 900000300] (by simp only [go_sem,jk]<;>and_intros<;>first|rfl|assumption|trivial) (fun j hj=>by by_cases e88:j=88<;>simp only [go_sem,e88,hj,if_true,if_false,jp hj 900000200 (by omega),jp hj 900000300 (by omega),jk]) (by decide)) ?_
 rintro ⟨⟨i,E,q⟩,e0⟩ ⟨hR,hq⟩;dsimp only at hR hq;have hle:=hR.le;have hlen:=hR.len;by_cases hlt:i<m;rotate_left
 ·have hlt':¬(i:Int)<(m:Int):=by omega
  have hst:=hR.stop (.inl (by omega))
  have hrd:rdPl none (vd L) (·.2) (fun s=>(s.1,true)) s=(⟨q1.1,q2.1,q3.1,q4.1,E⟩,q):=by
   simp only [rdPl,hq1,hq2,hq3,hq4,hq5,js7,hm',Int.toNat_natCast,hst]
  simp only [go_sem,hlt'];refine kK ?_;refine qh 900000300 4 86 (d:=jt E) (η:=e0) (by simp only [go_sem]) (by simp only [go_sem,h86]) (by decide) fun hx=>?_
  refine WkK.of ?_;simp only [go_sem,hx];exact ⟨_,_,e0,hrd,hq,rfl,hx,rfl,rfl,fun g g1 g2 g3=>by simp only [g2,g3,g1,jp g1 900000200 (by omega),jp g1 900000300 (by omega),if_true,if_false]⟩
 have hlt':(i:Int)<(m:Int):=by omega
 obtain ⟨k,bad⟩:=q;cases bad;rotate_left
 ·have hst:=hR.stop (.inr rfl)
  have hrd:rdPl none (vd L) (·.2) (fun s=>(s.1,true)) s=(⟨q1.1,q2.1,q3.1,q4.1,E⟩,(k,true)):=by
   simp only [rdPl,hq1,hq2,hq3,hq4,hq5,js7,hm',Int.toNat_natCast,hst]
  simp only [go_sem,hlt',zF,Bool.not_true];refine kK ?_;refine qh 900000300 4 86 (d:=jt E) (η:=e0) (by simp only [go_sem]) (by simp only [go_sem,h86]) (by decide) fun hx=>?_
  refine WkK.of ?_;simp only [go_sem,hx];exact ⟨_,_,e0,hrd,hq,rfl,hx,rfl,rfl,fun g g1 g2 g3=>by simp only [g2,g3,g1,jp g1 900000200 (by omega),jp g1 900000300 (by omega),if_true,if_false]⟩
 ·have hnx:=hR.next hlt rfl
  simp only [go_sem,hlt',zF,Bool.not_false];refine jn (kp L (k,false) b η _ hq (by simp only [go_sem,zF]) (by simp only [go_sem,hL])) (by simp only [go_sem]) ?_
  have t1:=kQ hq;simp only [jrA] at hnx;generalize hr1:vd L (k,false)=r1 at*;simp only [go_sem,hlen];refine jn (kp L r1.2 b η _ t1 (by simp only [go_sem]) (by simp only [go_sem,hL])) (by simp only [go_sem]) ?_
  have t2:=kQ t1;generalize hr2:vd L r1.2=r2 at*;have hw:IntKind.i64.wrap ((i:Int)+1)=((i+1:Nat):Int):=jg (by omega) (by omega)
  simp only [go_sem];intro e1;refine ⟨by unfold maxLen;omega,by omega,fun e2=>?_⟩
  exact ⟨((i+1,E++[⟨r1.1,r2.1⟩],r2.2),e2),⟨hnx,t2⟩,(jR [some 900000200,some 900000300] (by simp only [go_sem,jot,hw,zF]<;>and_intros<;>first|rfl|assumption|trivial) (fun j hj=>by by_cases e88:j=88<;>simp only [go_sem,e88,hj,if_true,if_false,jp hj 900000200 (by omega),jp hj 900000300 (by omega),jp hj 900003600 (by omega),jp hj 900003700 (by omega),jot,hw,zF]) (by decide)),by (try dsimp only);omega⟩
theorem jiL (t:ByteArray) (k:Int) (hk:k≤t.size):(vAt t k).2≤t.size∧jar (vAt t k).1:=by
 rw [vAt];split
 ·exact ⟨by show (-1:Int)≤_;omega,by show (0:Int)≤0;omega,by show (0:Int)≤_;omega⟩
 ·cases hv:jai (t.data.toList.drop k.toNat) with
  |none=>exact ⟨by show (-1:Int)≤_;omega,by show (0:Int)≤0;omega,by show (0:Int)≤_;omega⟩
  |some p=>
   obtain ⟨v,m⟩:=p;obtain ⟨h1,q,h2,rfl⟩:=zI hv;have hl:=congrArg List.length h2;rw [List.length_drop,List.length_append,Array.length_toList] at hl;have hz:t.data.size=t.size:=rfl;have:=List.length_pos_iff.2 (jah v);refine ⟨?_,?_,?_⟩<;>dsimp only<;>omega
theorem kP {t:ByteArray} {s:Int×Bool} (h:s.1≤t.size):(qP t s).2.1≤t.size:=by
 unfold qP;split
 ·exact h
 ·split
  ·exact h
  ·exact (jiL t s.1 h).1
theorem jxc {s:Int×Bool} (t:ByteArray) (h:s.1≤t.size):jar (qP t s).1:=by
 unfold qP;split
 ·exact ⟨by show (0:Int)≤0;omega,by show (0:Int)≤_;omega⟩
 ·split
  ·exact ⟨by show (0:Int)≤0;omega,by show (0:Int)≤_;omega⟩
  ·exact (jiL t s.1 h).2
def jcy:C:=iS [iA 2 (.alloc 24 [.int .i64 0,.int .i64 0,.int .i64 0,.int .i64 0,.slice none 0 0])] (iS [iA 6 (iM 0),iA 7 (.call 28 [.t 6]),iA 8 (iM 0),iA 9 (.call 28 [.t 8]),iA 10 (iM 0),iA 11 (.call 28 [.t 10]),iA 12 (iM 0),iA 13 (.call 28 [.t 12]),iA 14 (.bld [.int .i64 0,.int .i64 0,.int .i64 0,.int .i64 0,.slice none 0 0] [(0,1,.t 7),(1,1,.t 9),(2,1,.t 11),(3,1,.t 13)]),iA 3 (.alloc 24 [.int .i64 0,.int .i64 0,.int .i64 0,.int .i64 0,.slice none 0 0]),iC (.st 5 [none,none,none,none,some (2,103)] (.t 3) (.t 14))] (iS [iA 15 (iM 0),iA 16 (.call 28 [.t 15]),iA 4 (iM 16)] (.seq (iS [iA 17 (iM 4),iA 18 (iQ .gtr 3 17 31)] (iD 18 (.reg [iA 19 (iM 0),iA 20 (iF 0 19),iA 21 (iF 2 20),iC (.st 1 [none] (.t 21) (.c (.bool true)))]) .skip)) (.seq (iS [iA 5 (iN 0)] (.blk 0 (.loop (.seq (iS [iA 22 (iM 5),iA 23 (iM 4),iA 24 (iP .lss 3 22 23),iA 25 (iM 24),iB 26 25 true (iM 0),iB 27 25 true (iF 0 26),iB 28 25 true (iF 2 27),iB 29 25 true (iL 28),iB 30 25 true (iU 29),iA 31 (.pick (.t 25) (.t 30) (.c (.bool false)))] (iD 31 .skip (.exit 0))) (.seq (.blk 1 (.dreg (T.pure 0 (iA 34 (iF 4 3)) (T.pure 1 (iA 35 (iL 34)) (T.pure 2 (iA 36 (iM 0)) (T.pure 4 (iA 38 (iM 0)) (T.alt (iA 37 (.call 28 [.t 36])) [4,1,0] (T.alt (iA 39 (.call 28 [.t 38])) [1,0] (T.pure 6 (iA 40 (.bld [.int .i64 0,.int .i64 0] [(0,1,.t 37),(1,1,.t 39)])) (T.alt (iA 41 (.bsl 103 2 1 [none,none] [(0,2,.t 40)])) [1,0] (T.alt (iA 42 (.app 103 2 16 (.t 35) (.t 41))) [] (T.pure 9 (iA 43 (iF 4 3)) (T.alt (iC (.st 1 [some (2,103)] (.t 43) (.t 42))) [] T.done T.stop)) T.stop) T.stop)) T.stop) T.stop))))))) (.reg [iA 32 (iM 5),iA 33 (iQ .add 3 32 1),iA 5 (iM 33)])))))) (iS [iA 44 (iT 5 3),iC (.st 5 [none,none,none,none,some (2,103)] (.t 2) (.t 44))] .ret)))))
theorem je6:fnC Try.prog Try.f29=some (jcy,[.cell 2 true 5],45):=by kernel_rfl
theorem jsm (t:ByteArray) (ht:t.size≤1000000000) (s:Int×Bool) (b:Nat) (o:Nat→Ob) (hs:s.1≤t.size) (ho:o 89=vK b 56 t s) (h86:o 86=.none):
 Inl Try.prog 29 [Bx 89 b] o fun av o2=>∃(p:Pl) (s':Int×Bool) (e:jm),rdPl (some 31) (qP t) (·.2) (fun s=>(s.1,true)) s=(p,s')∧s'.1≤t.size∧
  av=.agg [.v (.int .i64 p.prio),.v (.int .i64 p.most),.v (.int .i64 p.wait),.v (.int .i64 p.tasks),.v (e [])]∧(e []).oneCell'=true∧o2 86=.loose (jt p.edges) e∧o2 89=vK b 56 t s'∧∀g,g<900000000→g≠86→g≠89→o2 g=o g:=by
 refine jfV (β:=9000000) [[1,1,1,1,1,0]] Try.func29 je6 (by simp) ?_
 unfold jcy;simp only [C.ghs,C.ghAt,List.foldr];simp only [go_sem];intro b2;refine jn (kR t ht s b _ (by omega) (by simp only [go_sem,ho])) (by simp only [go_sem]) ?_
 have s1:=kP hs;generalize hq1:qP t s=q1 at*;simp only [go_sem];refine jn (kR t ht q1.2 b _ (by omega) (by simp only [go_sem])) (by simp only [go_sem]) ?_
 have s2:=kP s1;generalize hq2:qP t q1.2=q2 at*;simp only [go_sem];refine jn (kR t ht q2.2 b _ (by omega) (by simp only [go_sem])) (by simp only [go_sem]) ?_
 have s3:=kP s2;generalize hq3:qP t q2.2=q3 at*;simp only [go_sem];refine jn (kR t ht q3.2 b _ (by omega) (by simp only [go_sem])) (by simp only [go_sem]) ?_
 have s4:=kP s3;generalize hq4:qP t q3.2=q4 at*;simp only [go_sem];intro b3;refine jn (kR t ht q4.2 b _ (by omega) (by simp only [go_sem])) (by simp only [go_sem]) ?_
 have s5:=kP s4;have hm:=jxc t s4;generalize hq5:qP t q4.2=q5 at*;simp only [go_sem];obtain ⟨m,hm0⟩:=Int.eq_ofNat_of_zero_le hm.1;have hm1:=hm.2;rw [hm0] at hm1;have hm':q5.1=(m:Int):=hm0;rw [hm'];obtain ⟨q5v,k5,b5⟩:=q5;dsimp only at hm' hm0 s5 hm;by_cases hcap:(m:Int)>31
 ·have hcap':(31:Int)<(m:Int):=hcap
  have h0m:(0:Int)<(m:Int):=by omega
  have hst:jda (·.2) (jrA (qP t)) m ([],(k5,true))=([],(k5,true)):=jld rfl _
  have hrd:rdPl (some 31) (qP t) (·.2) (fun s=>(s.1,true)) s=(⟨q1.1,q2.1,q3.1,q4.1,[]⟩,(k5,true)):=by
   simp only [rdPl,hq1,hq2,hq3,hq4,hq5,js7,hm',Int.toNat_natCast,if_pos hcap,hst]
  simp only [go_sem,hcap',vK];refine ja6 1 ?_;simp only [go_sem,h0m,Bool.not_true];refine kK ?_;refine WkK.wk (s':=St.ofB [(0,Bx 89 b),(2,Bx 900000200 b2),(3,Bx 900000300 b3)] [(900000200,ZPl b2 24),(900000300,jns b3 24 q1.1 q2.1 q3.1 q4.1 [] vT)] 900000000 (fun j=>if j=89 then vK b 56 t (k5,true) else o j)) (jR [some 900000200,some 900000300] (by simp only [go_sem,jk,vK]<;>and_intros<;>first|rfl|assumption|trivial) (fun j hj=>by by_cases e89:j=89<;>simp only [go_sem,e89,hj,if_true,if_false,jp hj 900000200 (by omega),jp hj 900000300 (by omega),jk,vK]) (by decide)) ?_
  refine qh 900000300 4 86 (d:=jt []) (η:=vT) (by simp only [go_sem]) (by simp only [go_sem,h86]) (by decide) fun hx=>?_
  refine WkK.of ?_;simp only [go_sem,hx];exact ⟨_,_,vT,hrd,s5,rfl,hx,rfl,rfl,fun g g1 g2 g3=>by simp only [g2,g3,g1,jp g1 900000200 (by omega),jp g1 900000300 (by omega),if_true,if_false]⟩
 have hcap':¬(31:Int)<(m:Int):=hcap;simp only [go_sem,hcap'];refine jq (fun i:(Nat×List Ed×(Int×Bool))×jm=>St.ofB [(0,Bx 89 b),(2,Bx 900000200 b2),(3,Bx 900000300 b3),(4,Ni m),(5,Ni i.1.1)] [(900000200,ZPl b2 24),(900000300,jns b3 24 q1.1 q2.1 q3.1 q4.1 i.1.2.1 i.2)] 900000000 (fun j=>if j=89 then vK b 56 t i.1.2.2 else o j)) (fun i=>RowsAt (·.2) (jrA (qP t)) m (k5,b5) i.1.1 i.1.2.1 i.1.2.2∧i.1.2.2.1≤t.size) (fun i=>m-i.1.1) ((0,[],(k5,b5)),vT) (⟨RowsAt.start _ _,s5⟩) (jR [some 900000200,some 900000300] (by simp only [go_sem,jk]<;>and_intros<;>first|rfl|assumption|trivial) (fun j hj=>by by_cases e89:j=89<;>simp only [go_sem,e89,hj,if_true,if_false,jp hj 900000200 (by omega),jp hj 900000300 (by omega),jk]) (by decide)) ?_
 rintro ⟨⟨i,E,q⟩,e0⟩ ⟨hR,hq⟩;dsimp only at hR hq;have hle:=hR.le;have hlen:=hR.len;by_cases hlt:i<m;rotate_left
 ·have hlt':¬(i:Int)<(m:Int):=by omega
  have hst:=hR.stop (.inl (by omega))
  have hrd:rdPl (some 31) (qP t) (·.2) (fun s=>(s.1,true)) s=(⟨q1.1,q2.1,q3.1,q4.1,E⟩,q):=by
   simp only [rdPl,hq1,hq2,hq3,hq4,hq5,js7,hm',Int.toNat_natCast,if_neg hcap,hst]
  simp only [go_sem,hlt'];refine kK ?_;refine qh 900000300 4 86 (d:=jt E) (η:=e0) (by simp only [go_sem]) (by simp only [go_sem,h86]) (by decide) fun hx=>?_
  refine WkK.of ?_;simp only [go_sem,hx];exact ⟨_,_,e0,hrd,hq,rfl,hx,rfl,rfl,fun g g1 g2 g3=>by simp only [g2,g3,g1,jp g1 900000200 (by omega),jp g1 900000300 (by omega),if_true,if_false]⟩
 have hlt':(i:Int)<(m:Int):=by omega
 obtain ⟨k,bad⟩:=q;cases bad;rotate_left
 ·have hst:=hR.stop (.inr rfl)
  have hrd:rdPl (some 31) (qP t) (·.2) (fun s=>(s.1,true)) s=(⟨q1.1,q2.1,q3.1,q4.1,E⟩,(k,true)):=by
   simp only [rdPl,hq1,hq2,hq3,hq4,hq5,js7,hm',Int.toNat_natCast,if_neg hcap,hst]
  simp only [go_sem,hlt',vK,Bool.not_true];refine kK ?_;refine qh 900000300 4 86 (d:=jt E) (η:=e0) (by simp only [go_sem]) (by simp only [go_sem,h86]) (by decide) fun hx=>?_
  refine WkK.of ?_;simp only [go_sem,hx];exact ⟨_,_,e0,hrd,hq,rfl,hx,rfl,rfl,fun g g1 g2 g3=>by simp only [g2,g3,g1,jp g1 900000200 (by omega),jp g1 900000300 (by omega),if_true,if_false]⟩
 ·have hnx:=hR.next hlt rfl
  simp only [go_sem,hlt',vK,Bool.not_false];refine jn (kR t ht (k,false) b _ (by omega) (by simp only [go_sem,vK])) (by simp only [go_sem]) ?_
  have t1:=kP hq;simp only [jrA] at hnx;generalize hr1:qP t (k,false)=r1 at*;simp only [go_sem,hlen];refine jn (kR t ht r1.2 b _ (by omega) (by simp only [go_sem])) (by simp only [go_sem]) ?_
  have t2:=kP t1;generalize hr2:qP t r1.2=r2 at*;have hw:IntKind.i64.wrap ((i:Int)+1)=((i+1:Nat):Int):=jg (by omega) (by omega)
  simp only [go_sem];intro e1;refine ⟨by unfold maxLen;omega,by omega,fun e2=>?_⟩
  exact ⟨((i+1,E++[⟨r1.1,r2.1⟩],r2.2),e2),⟨hnx,t2⟩,(jR [some 900000200,some 900000300] (by simp only [go_sem,jot,hw,vK]<;>and_intros<;>first|rfl|assumption|trivial) (fun j hj=>by by_cases e89:j=89<;>simp only [go_sem,e89,hj,if_true,if_false,jp hj 900000200 (by omega),jp hj 900000300 (by omega),jp hj 900004100 (by omega),jp hj 900004200 (by omega),jot,hw,vK]) (by decide)),by (try dsimp only);omega⟩
theorem jsE {t:ByteArray} {k:Nat} (h:k+4≤t.size):∃a b c d:UInt8,(t.data.toList.drop k).take 4=[a,b,c,d]∧t[k]?=some a∧t[k+1]?=some b∧t[k+2]?=some c∧t[k+3]?=some d:=by
 have hl:(t.data.toList.drop k).length=t.size-k:=by rw [List.length_drop,Array.length_toList];rfl
 rcases hd:t.data.toList.drop k with _|⟨a,_|⟨b,_|⟨c,_|⟨d,r⟩⟩⟩⟩<;>rw [hd] at hl<;>simp at hl
 all_goals first|omega|skip
 refine ⟨a,b,c,d,by simp,?_,jae (i:=1) (by rw [hd];rfl),jae (i:=2) (by rw [hd];rfl),jae (i:=3) (by rw [hd];rfl)⟩
 exact jae (i:=0) (by rw [hd];rfl)
def jev:C:=iS [iA 4 (iN 0),iA 5 (iO false)] (.seq (iS [iA 6 (iM 1),iA 7 (iQ .lss 3 6 0),iA 8 (iM 7),iB 9 8 false (iM 1),iB 10 8 false (iM 0),iB 11 8 false (.len true (.t 10)),iB 12 8 false (iQ .sub 3 11 4),iB 13 8 false (iP .gtr 3 9 12),iA 14 (.pick (.t 8) (.c (.bool true)) (.t 13))] (iD 14 (iS [iA 4 (iN 0),iA 5 (iO false)] .ret) .skip)) (.seq (.dreg (T.pure 0 (iA 15 (iM 0)) (T.pure 1 (iA 16 (iM 1)) (T.pure 2 (iA 17 (.sidx (.t 15) (.t 16))) (T.pure 3 (iA 18 (.cv (.num .i64) 0 (.t 17))) (T.pure 4 (iA 19 (iQ .mul 3 18 16777216)) (T.pure 5 (iA 20 (iM 0)) (T.pure 6 (iA 21 (iM 1)) (T.pure 7 (iA 22 (iQ .add 3 21 1)) (T.pure 8 (iA 23 (.sidx (.t 20) (.t 22))) (T.pure 9 (iA 24 (.cv (.num .i64) 0 (.t 23))) (T.pure 10 (iA 25 (iQ .mul 3 24 65536)) (T.pure 11 (iA 26 (iP .add 3 19 25)) (T.pure 12 (iA 27 (iM 0)) (T.pure 13 (iA 28 (iM 1)) (T.pure 14 (iA 29 (iQ .add 3 28 2)) (T.pure 15 (iA 30 (.sidx (.t 27) (.t 29))) (T.pure 16 (iA 31 (.cv (.num .i64) 0 (.t 30))) (T.pure 17 (iA 32 (iQ .mul 3 31 256)) (T.pure 18 (iA 33 (iP .add 3 26 32)) (T.pure 19 (iA 34 (iM 0)) (T.pure 20 (iA 35 (iM 1)) (T.pure 21 (iA 36 (iQ .add 3 35 3)) (T.pure 22 (iA 37 (.sidx (.t 34) (.t 36))) (T.pure 23 (iA 38 (.cv (.num .i64) 0 (.t 37))) (T.pure 24 (iA 39 (iP .add 3 33 38)) (T.pure 25 (iA 4 (iM 39)) (T.pure 26 (iA 5 (iO true)) T.done)))))))))))))))))))))))))))) .ret))
theorem jgw:fnC Try.prog Try.f108=some (jev,[.t 4,.t 5],40):=by kernel_rfl
theorem jiu (t:ByteArray) (k:Nat) (hs:t.size≤1000000000) (hk1:k≤1000000000):kl Try.prog 108 [.c (.val (.string t)),.c (.val (.int .i64 (k:Int)))] (.tup [(false,[.val (.int .i64 (kV t k).1)]),(false,[.val (.bool (kV t k).2)])]):=by
 refine jr Try.func108 jgw (by simp) ?_
 unfold jev;have hneg:¬(k:Int)<0:=by omega
 have hw4:IntKind.i64.wrap ((t.size:Int)-4)=(t.size:Int)-4:=jg (by omega) (by omega)
 by_cases hin:(t.size:Int)-4<(k:Int)
 ·have hf:kV t (k:Int)=(0,false):=by rw [kV,if_neg (by omega)]
  rw [hf];simp only [go_sem,hneg,hw4,hin];exact kX _ _ _ _ (by simp only [go_sem]) (by simp only [go_sem])
 ·have hf:kV t (k:Int)=(jbw ((t.data.toList.drop k).take 4),true):=by rw [kV,if_pos (by omega),Int.toNat_natCast]
  obtain ⟨a,b,c,d,hB,ha,hb,hc,hd⟩:=jsE (t:=t) (k:=k) (by omega)
  have hv:jbw [a,b,c,d]=(a.toNat:Int)*16777216+(b.toNat:Int)*65536+(c.toNat:Int)*256+(d.toNat:Int):=by simp only [jbw,List.foldl];omega
  rw [hf,hB,hv];have la:=UInt8.toNat_lt a;have lb:=UInt8.toNat_lt b;have lc:=UInt8.toNat_lt c;have ld:=UInt8.toNat_lt d;have w1:IntKind.i64.wrap ((a.toNat:Int)*16777216)=(a.toNat:Int)*16777216:=jg (by omega) (by omega)
  have w2:IntKind.i64.wrap ((b.toNat:Int)*65536)=(b.toNat:Int)*65536:=jg (by omega) (by omega)
  have w3:IntKind.i64.wrap ((c.toNat:Int)*256)=(c.toNat:Int)*256:=jg (by omega) (by omega)
  have w4:IntKind.i64.wrap ((a.toNat:Int)*16777216+(b.toNat:Int)*65536)=(a.toNat:Int)*16777216+(b.toNat:Int)*65536:=jg (by omega) (by omega)
  have w5:IntKind.i64.wrap ((a.toNat:Int)*16777216+(b.toNat:Int)*65536+(c.toNat:Int)*256)=(a.toNat:Int)*16777216+(b.toNat:Int)*65536+(c.toNat:Int)*256:=jg (by omega) (by omega)
  have w6:IntKind.i64.wrap ((a.toNat:Int)*16777216+(b.toNat:Int)*65536+(c.toNat:Int)*256+(d.toNat:Int))=(a.toNat:Int)*16777216+(b.toNat:Int)*65536+(c.toNat:Int)*256+(d.toNat:Int):=jg (by omega) (by omega)
  have k1:IntKind.i64.wrap ((k:Int)+1)=((k+1:Nat):Int):=jg (by omega) (by omega)
  have k2:IntKind.i64.wrap ((k:Int)+2)=((k+2:Nat):Int):=jg (by omega) (by omega)
  have k3:IntKind.i64.wrap ((k:Int)+3)=((k+3:Nat):Int):=jg (by omega) (by omega)
  simp only [go_sem,hneg,hw4,hin,Int.toNat_natCast,ha,hb,hc,hd,jl2,w1,w2,w3,w4,w5,w6,k1,k2,k3];refine ⟨a,rfl,b,rfl,c,rfl,d,rfl,?_⟩;exact kX _ _ _ _ (by simp only [go_sem,w1,w2,w3,w4,w5,w6]) (by simp only [go_sem])
abbrev jz8:ByteArray:=⟨⟨[]⟩⟩
def jU (t:ByteArray) (k:Int):ByteArray×Int:=
 if (vAt t k).2<0∨(vAt t k).1<1∨400<(vAt t k).1∨(t.size:Int)-(vAt t k).2-4<(vAt t k).1 then (jz8,-1)
 else if jdu (t.extract ((vAt t k).2.toNat+4) ((vAt t k).2.toNat+4+(vAt t k).1.toNat))≠(kV t (vAt t k).2).1 then (jz8,-1)
 else (t.extract ((vAt t k).2.toNat+4) ((vAt t k).2.toNat+4+(vAt t k).1.toNat),(((vAt t k).2.toNat+4+(vAt t k).1.toNat:Nat):Int))
theorem jb8 {t:ByteArray} {k:Int} (h:¬(jU t k).2<0):k+5≤(jU t k).2∧(jU t k).2≤t.size∧1≤(jU t k).1.size∧(jU t k).1.size≤400:=by
 unfold jU at h⊢;split at h
 ·exact absurd (show (-1:Int)<0 by decide) h
 ·rename_i h1
  split at h
  ·exact absurd (show (-1:Int)<0 by decide) h
  ·rename_i h2
   rw [if_neg h1,if_neg h2];have h3:=jkQ t k (by omega)
   refine ⟨by dsimp only;omega,by dsimp only;omega,?_⟩
   rw [ByteArray.size_extract];omega
structure FrN (t:ByteArray) (k:Int) (n a:Nat):Prop where
 v1:(vAt t k).1=n
 v2:(vAt t k).2=a
 n1:1≤n
 n4:n≤400
 le:a+4+n≤t.size
 fr:jU t k=if jdu (t.extract (a+4) (a+4+n))≠(kV t a).1 then (jz8,-1) else (t.extract (a+4) (a+4+n),((a+4+n:Nat):Int))
theorem jvZ {t:ByteArray} {k:Int} (h1:¬(vAt t k).2<0) (h2:¬(vAt t k).1<1) (h3:¬400<(vAt t k).1) (h4:¬(t.size:Int)-(vAt t k).2-4<(vAt t k).1):∃n a,FrN t k n a:=by
 have h5:=jkQ t k h1;refine ⟨(vAt t k).1.toNat,(vAt t k).2.toNat,by omega,by omega,by omega,by omega,by omega,?_⟩
 rw [jU,if_neg (by omega),show (((vAt t k).2.toNat:Nat):Int)=(vAt t k).2 by omega]
theorem vv {t:ByteArray} {k:Int} (h:(vAt t k).2<0∨(vAt t k).1<1∨400<(vAt t k).1∨(t.size:Int)-(vAt t k).2-4<(vAt t k).1):jU t k=(jz8,-1):=by rw [jU,if_pos h]
def jc3:C:=iS [iA 4 (.mov (.c (.string ⟨⟨[]⟩⟩))),iA 5 (iN 0)] (iS [iA 12 (iM 0),iA 13 (iM 1),iA 14 (.call 68 [.t 12,.t 13]),iA 11 (iM 14),iA 15 (iE 11 0),iA 16 (iE 11 1),iA 6 (iM 15),iA 7 (iM 16)] (.seq (iS [iA 17 (iM 7),iA 18 (iQ .lss 3 17 0),iA 19 (iM 18),iB 20 19 false (iM 6),iB 21 19 false (.call 61 [.t 20,.c (.int .i64 1),.c (.int .i64 400)]),iB 22 19 false (iU 21),iA 23 (.pick (.t 19) (.c (.bool true)) (.t 22)),iA 24 (iM 23),iB 25 24 false (iM 6),iB 26 24 false (iM 0),iB 27 24 false (.len true (.t 26)),iB 28 24 false (iM 7),iB 29 24 false (iP .sub 3 27 28),iB 30 24 false (iQ .sub 3 29 4),iB 31 24 false (iP .gtr 3 25 30),iA 32 (.pick (.t 24) (.c (.bool true)) (.t 31))] (iD 32 (iS [iA 4 (.mov (.c (.string ⟨⟨[]⟩⟩))),iA 5 (iN (-1))] .ret) .skip)) (iS [iA 34 (iM 0),iA 35 (iM 7),iA 36 (.call 109 [.t 34,.t 35]),iA 33 (iM 36),iA 37 (iE 33 0),iA 38 (iE 33 1),iA 8 (iM 37),iA 9 (iM 38)] (iS [iA 39 (iM 0),iA 40 (iM 7),iA 41 (iQ .add 3 40 4),iA 42 (iM 7),iA 43 (iQ .add 3 42 4),iA 44 (iM 6),iA 45 (iP .add 3 43 44),iA 46 (.sl 0 (.t 39) (some (.t 41)) (some (.t 45))),iA 10 (iM 46)] (.seq (iS [iA 47 (iM 10),iA 48 (.call 79 [.t 47]),iA 49 (iM 8),iA 50 (iP .neq 3 48 49)] (iD 50 (iS [iA 4 (.mov (.c (.string ⟨⟨[]⟩⟩))),iA 5 (iN (-1))] .ret) .skip)) (iS [iA 51 (iM 10),iA 52 (iM 7),iA 53 (iQ .add 3 52 4),iA 54 (iM 6),iA 55 (iP .add 3 53 54),iA 4 (iM 51),iA 5 (iM 55)] .ret))))))
theorem jfB:fnC Try.prog Try.f76=some (jc3,[.t 4,.t 5],56):=by kernel_rfl
def jcX:C:=iS [iA 4 (.mov (.c (.string ⟨⟨[]⟩⟩))),iA 5 (iN 0)] (iS [iA 12 (iM 0),iA 13 (iM 1),iA 14 (.call 64 [.t 12,.t 13]),iA 11 (iM 14),iA 15 (iE 11 0),iA 16 (iE 11 1),iA 6 (iM 15),iA 7 (iM 16)] (.seq (iS [iA 17 (iM 7),iA 18 (iQ .lss 3 17 0),iA 19 (iM 18),iB 20 19 false (iM 6),iB 21 19 false (iQ .lss 3 20 1),iA 22 (.pick (.t 19) (.c (.bool true)) (.t 21)),iA 23 (iM 22),iB 24 23 false (iM 6),iB 25 23 false (iQ .gtr 3 24 400),iA 26 (.pick (.t 23) (.c (.bool true)) (.t 25))] (iD 26 (iS [iA 4 (.mov (.c (.string ⟨⟨[]⟩⟩))),iA 5 (iN (-1))] .ret) .skip)) (iS [iA 28 (iM 0),iA 29 (iM 7),iA 30 (.call 108 [.t 28,.t 29]),iA 27 (iM 30),iA 31 (iE 27 0),iA 32 (iE 27 1),iA 8 (iM 31),iA 9 (iM 32)] (.seq (iS [iA 33 (iM 9),iA 34 (iU 33),iA 35 (iM 34),iB 36 35 false (iM 6),iB 37 35 false (iM 0),iB 38 35 false (.len true (.t 37)),iB 39 35 false (iM 7),iB 40 35 false (iP .sub 3 38 39),iB 41 35 false (iQ .sub 3 40 4),iB 42 35 false (iP .gtr 3 36 41),iA 43 (.pick (.t 35) (.c (.bool true)) (.t 42))] (iD 43 (iS [iA 4 (.mov (.c (.string ⟨⟨[]⟩⟩))),iA 5 (iN (-1))] .ret) .skip)) (iS [iA 44 (iM 0),iA 45 (iM 7),iA 46 (iQ .add 3 45 4),iA 47 (iM 7),iA 48 (iQ .add 3 47 4),iA 49 (iM 6),iA 50 (iP .add 3 48 49),iA 51 (.sl 0 (.t 44) (some (.t 46)) (some (.t 50))),iA 10 (iM 51)] (.seq (iS [iA 52 (iM 10),iA 53 (.call 75 [.t 52]),iA 54 (iM 8),iA 55 (iP .neq 3 53 54)] (iD 55 (iS [iA 4 (.mov (.c (.string ⟨⟨[]⟩⟩))),iA 5 (iN (-1))] .ret) .skip)) (iS [iA 56 (iM 10),iA 57 (iM 7),iA 58 (iQ .add 3 57 4),iA 59 (iM 6),iA 60 (iP .add 3 58 59),iA 4 (iM 56),iA 5 (iM 60)] .ret)))))))
theorem jfv:fnC Try.prog Try.f72=some (jcX,[.t 4,.t 5],61):=by kernel_rfl
theorem jiv (t:ByteArray) (k:Int) (ht:t.size≤1000000) (hk0:0≤k) (hk:k≤t.size):kl Try.prog 76 [.c (.val (.string t)),.c (.val (.int .i64 k))] (.tup [(false,[.val (.string (jU t k).1)]),(false,[.val (.int .i64 (jU t k).2)])]):=by
 refine jr Try.func76 jfB (by simp) ?_
 unfold jc3;simp only [go_sem];refine jb (jfR t k (by omega) (by omega)) (by simp only [go_sem]) fun η=>?_
 simp only [go_sem];have hv2:=(jiL t k hk).1;have hvn:=(jiL t k hk).2;by_cases h1:(vAt t k).2<0
 ·rw [vv (.inl h1)]
  simp only [go_sem,h1];exact kX _ _ _ _ (by simp only [go_sem]) (by simp only [go_sem])
 have h1':=jkQ t k h1;simp only [go_sem,h1];refine jb (km (vAt t k).1 1 400) (by simp only [go_sem,h1]) fun η=>?_
 simp only [go_sem,h1];cases h2:decide (1≤(vAt t k).1∧(vAt t k).1≤400)
 ·rw [vv (by have:=of_decide_eq_false h2;omega)]
  simp only [go_sem,h2];exact kX _ _ _ _ (by simp only [go_sem]) (by simp only [go_sem])
 have h2':=of_decide_eq_true h2;have w1:IntKind.i64.wrap ((t.size:Int)-(vAt t k).2)=(t.size:Int)-(vAt t k).2:=jg (by omega) (by omega)
 have w2:IntKind.i64.wrap ((t.size:Int)-(vAt t k).2-4)=(t.size:Int)-(vAt t k).2-4:=jg (by omega) (by omega)
 by_cases h3:(t.size:Int)-(vAt t k).2-4<(vAt t k).1
 ·rw [vv (by omega)]
  simp only [go_sem,h2,w1,w2,h3];exact kX _ _ _ _ (by simp only [go_sem]) (by simp only [go_sem])
 simp only [go_sem,h2,w1,w2,h3];obtain ⟨n,a,hF⟩:=jvZ h1 (by omega) (by omega) h3
 have hle:=hF.le;have hn4:=hF.n4;rw [hF.v1,hF.v2];have e1:IntKind.i64.wrap ((a:Int)+4)=((a+4:Nat):Int):=jg (by omega) (by omega)
 have e2:IntKind.i64.wrap (((a+4:Nat):Int)+(n:Int))=((a+4+n:Nat):Int):=jg (by omega) (by omega)
 have hle2:a+4≤a+4+n:=by omega
 refine jb (jj4 t (a:Int) (by omega) (by omega) (by omega)) (by simp only [go_sem]) fun η=>?_
 simp only [go_sem];simp only [go_sem,e1,e2,hle,hle2];refine jb (jfS (t.extract (a+4) (a+4+n)) (by rw [ByteArray.size_extract];omega)) (by simp only [go_sem]) fun η=>?_
 simp only [go_sem];cases hs:jdu (t.extract (a+4) (a+4+n)) !=(kV t a).1
 ·rw [hF.fr,if_neg (by simpa using hs)]
  simp only [go_sem,hs,e1,e2];exact kX _ _ _ _ (by simp only [go_sem]) (by simp only [go_sem])
 ·rw [hF.fr,if_pos (by simpa using hs)]
  simp only [go_sem,hs];exact kX _ _ _ _ (by simp only [go_sem]) (by simp only [go_sem])
theorem jit (t:ByteArray) (k:Int) (ht:t.size≤1000000) (hk0:0≤k) (hk:k≤t.size):kl Try.prog 72 [.c (.val (.string t)),.c (.val (.int .i64 k))] (.tup [(false,[.val (.string (jU t k).1)]),(false,[.val (.int .i64 (jU t k).2)])]):=by
 refine jr Try.func72 jfv (by simp) ?_
 unfold jcX;simp only [go_sem];refine jb (jfO t k (by omega) (by omega)) (by simp only [go_sem]) fun η=>?_
 simp only [go_sem];have hv2:=(jiL t k hk).1;have hvn:=(jiL t k hk).2;by_cases h1:(vAt t k).2<0
 ·rw [vv (.inl h1)]
  simp only [go_sem,h1];exact kX _ _ _ _ (by simp only [go_sem]) (by simp only [go_sem])
 have h1':=jkQ t k h1;by_cases h2:(vAt t k).1<1
 ·rw [vv (.inr (.inl h2))]
  simp only [go_sem,h1,h2];exact kX _ _ _ _ (by simp only [go_sem]) (by simp only [go_sem])
 by_cases h5:400<(vAt t k).1
 ·rw [vv (.inr (.inr (.inl h5)))]
  simp only [go_sem,h1,h2,h5];exact kX _ _ _ _ (by simp only [go_sem]) (by simp only [go_sem])
 simp only [go_sem,h1,h2,h5];obtain ⟨a,ha⟩:=Int.eq_ofNat_of_zero_le (show 0≤(vAt t k).2 by omega)
 have haz:a≤t.size:=by omega
 rw [ha];refine jb (jiu t a (by omega) (by omega)) (by simp only [go_sem]) fun η=>?_
 simp only [go_sem];have w1:IntKind.i64.wrap ((t.size:Int)-(a:Int))=(t.size:Int)-(a:Int):=jg (by omega) (by omega)
 have w2:IntKind.i64.wrap ((t.size:Int)-(a:Int)-4)=(t.size:Int)-(a:Int)-4:=jg (by omega) (by omega)
 cases h4:(kV t a).2
 ·have:¬(0≤(a:Int)∧(a:Int)≤(t.size:Int)-4):=fun h=>by rw [kV,if_pos h] at h4;cases h4
  rw [vv (.inr (.inr (.inr (by rw [ha];omega))))]
  simp only [go_sem,h4];exact kX _ _ _ _ (by simp only [go_sem]) (by simp only [go_sem])
 by_cases h3:(t.size:Int)-(a:Int)-4<(vAt t k).1
 ·rw [vv (.inr (.inr (.inr (by rw [ha];exact h3))))]
  simp only [go_sem,h4,w1,w2,h3];exact kX _ _ _ _ (by simp only [go_sem]) (by simp only [go_sem])
 simp only [go_sem,h4,w1,w2,h3];obtain ⟨n,a',hF⟩:=jvZ h1 h2 h5 (by rw [ha];exact h3)
 obtain rfl:a=a':=by have:=hF.v2;omega
 have hle:=hF.le;have hn4:=hF.n4;rw [hF.v1];have e1:IntKind.i64.wrap ((a:Int)+4)=((a+4:Nat):Int):=jg (by omega) (by omega)
 have e2:IntKind.i64.wrap (((a+4:Nat):Int)+(n:Int))=((a+4+n:Nat):Int):=jg (by omega) (by omega)
 have hle2:a+4≤a+4+n:=by omega
 simp only [go_sem,e1,e2,hle,hle2];refine jb (jbm (t.extract (a+4) (a+4+n)) (by rw [ByteArray.size_extract];omega)) (by simp only [go_sem]) fun η=>?_
 simp only [go_sem];cases hs:jdu (t.extract (a+4) (a+4+n)) !=(kV t a).1
 ·rw [hF.fr,if_neg (by simpa using hs)]
  simp only [go_sem,hs,e1,e2];exact kX _ _ _ _ (by simp only [go_sem]) (by simp only [go_sem])
 ·rw [hF.fr,if_pos (by simpa using hs)]
  simp only [go_sem,hs];exact kX _ _ _ _ (by simp only [go_sem]) (by simp only [go_sem])
def jc7 (t:ByteArray):Nat→Nat→List ByteArray→List ByteArray×Nat
 |0,k,l=>(l,k)
 |f+1,k,l=>if (jU t k).2<0 then (l,k) else jc7 t f (jU t k).2.toNat (l++[(jU t k).1])
def jal (t:ByteArray):List ByteArray×Nat:=if 60000<t.size then ([],0) else jc7 t (t.size+1) 0 []
structure ScTo (t:ByteArray) (k:Nat) (l:List ByteArray):Prop where
 le:k≤t.size
 len:5*l.length≤k
 szs:∀b∈l,1≤b.size∧b.size≤400
 eq:∃f,t.size-k<f∧jc7 t (t.size+1) 0 []=jc7 t f k l
theorem ScTo.start (t:ByteArray):ScTo t 0 []:=⟨Nat.zero_le _,Nat.le_refl _,by simp,t.size+1,by omega,rfl⟩
theorem ScTo.next {t:ByteArray} {k:Nat} {l:List ByteArray} (h:ScTo t k l) (hn:¬(jU t k).2<0):k<(jU t k).2.toNat∧ScTo t (jU t k).2.toNat (l++[(jU t k).1]):=by
 obtain ⟨h1,h2,h3,f,h4,h5⟩:=h;obtain ⟨a1,a2,a3⟩:=jb8 hn;obtain ⟨f,rfl⟩:∃g,f=g+1:=⟨f-1,by omega⟩
 refine ⟨by omega,by omega,by simp;omega,fun b hb=>?_,f,by omega,?_⟩
 ·rcases List.mem_append.1 hb with hb|hb
  ·exact h3 b hb
  ·simp at hb;subst hb;exact a3
 ·rw [h5,jc7,if_neg hn]
theorem ScTo.stop {t:ByteArray} {k:Nat} {l:List ByteArray} (h:ScTo t k l) (hn:(jU t k).2<0):jc7 t (t.size+1) 0 []=(l,k):=by
 obtain ⟨h1,h2,h3,f,h4,h5⟩:=h;obtain ⟨f,rfl⟩:∃g,f=g+1:=⟨f-1,by omega⟩
 rw [h5,jc7,if_pos hn]
theorem jhD (t:ByteArray) {k:Nat} (h:¬k<t.size):(jU t k).2<0:=by
 refine Classical.byContradiction fun hn=>?_
 have:=jb8 hn;omega
def jeA:C:=iS [iA 2 (.mov (.c (.slice none 0 0))),iA 3 (iN 0)] (.seq (iS [iA 8 (iM 0),iA 9 (.len true (.t 8)),iA 10 (iQ .gtr 3 9 60000)] (iD 10 (iS [iA 2 (.mov (.c (.slice none 0 0))),iA 3 (iN 0)] .ret) .skip)) (iS [iA 4 (.mov (.c (.slice none 0 0)))] (iS [iA 5 (iN 0)] (.blk 0 (.loop (.blk 1 (iS [iA 12 (iM 0),iA 13 (iM 5),iA 14 (.call 76 [.t 12,.t 13]),iA 11 (iM 14),iA 15 (iE 11 0),iA 16 (iE 11 1),iA 6 (iM 15),iA 7 (iM 16)] (.seq (iS [iA 17 (iM 7),iA 18 (iQ .lss 3 17 0)] (iD 18 (iS [iA 19 (iM 4),iA 20 (iM 5),iA 2 (iM 19),iA 3 (iM 20)] .ret) .skip)) (iS [iA 21 (iM 4),iA 22 (iM 6),iA 23 (.bsl 9 1 1 [none] [(0,1,.t 22)]),iA 24 (.app 9 1 16 (.t 21) (.t 23)),iA 4 (iM 24)] (.reg [iA 25 (iM 7),iA 5 (iM 25)]))))))))))
theorem jgB:fnC Try.prog Try.f39=some (jeA,[.t 2,.t 3],26):=by kernel_rfl
def jep:C:=iS [iA 2 (.mov (.c (.slice none 0 0))),iA 3 (iN 0)] (iS [iA 8 (.bsl 9 1 0 [] []),iA 4 (iM 8)] (.seq (iS [iA 9 (iM 0),iA 10 (.len true (.t 9)),iA 11 (iQ .gtr 3 10 60000)] (iD 11 (iS [iA 12 (iM 4),iA 2 (iM 12),iA 3 (iN 0)] .ret) .skip)) (iS [iA 5 (iN 0)] (.seq (.blk 0 (.loop (.seq (iS [iA 13 (iM 5),iA 14 (iM 0),iA 15 (.len true (.t 14)),iA 16 (iP .lss 3 13 15)] (iD 16 .skip (.exit 0))) (.blk 1 (iS [iA 18 (iM 0),iA 19 (iM 5),iA 20 (.call 72 [.t 18,.t 19]),iA 17 (iM 20),iA 21 (iE 17 0),iA 22 (iE 17 1),iA 6 (iM 21),iA 7 (iM 22)] (.seq (iS [iA 23 (iM 7),iA 24 (iQ .lss 3 23 0)] (iD 24 (.exit 0) .skip)) (iS [iA 25 (iM 4),iA 26 (iM 6),iA 27 (.bsl 9 1 1 [none] [(0,1,.t 26)]),iA 28 (.app 9 1 16 (.t 25) (.t 27)),iA 4 (iM 28)] (.reg [iA 29 (iM 7),iA 5 (iM 29)])))))))) (iS [iA 30 (iM 4),iA 31 (iM 5),iA 2 (iM 30),iA 3 (iM 31)] .ret)))))
theorem jgq:fnC Try.prog Try.f37=some (jep,[.t 2,.t 3],32):=by kernel_rfl
theorem jfT:D.sl 1 jyn []=kh []:=rfl
theorem jj2 (t:ByteArray) (ht:t.size≤1048576):kl Try.prog 39 [.c (.val (.string t))] (.tup [(false,[kh (jal t).1]),(false,[.val (.int .i64 ((jal t).2:Nat))])]):=by
 refine jr Try.func39 jgB (by simp) ?_
 unfold jeA;by_cases hbig:(60000:Int)<(t.size:Int)
 ·have hr:jal t=([],0):=by rw [jal,if_pos (by omega)]
  rw [hr];simp only [go_sem,hbig];exact jvK (by simp only [go_sem]) (by simp only [go_sem])
 have hr:jal t=jc7 t (t.size+1) 0 []:=by rw [jal,if_neg (by omega)]
 rw [hr];simp only [go_sem,hbig];refine jq (fun i:(List ByteArray×Nat)×jm=>St.of [(0,.c (.v (.string t))),(4,Hd 4 i.2),(5,Ni i.1.2)] [(4,.loose (kh i.1.1) i.2)]) (fun i=>ScTo t i.1.2 i.1.1) (fun i=>t.size-i.1.2) (([],0),vT) (ScTo.start t) (jl [none] (by simp only [go_sem]<;>and_intros<;>first|rfl|assumption|trivial)) ?_
 rintro ⟨⟨l,k⟩,η⟩ hi;dsimp only at hi;have hle:=hi.le;have hlen:=hi.len;simp only [go_sem];refine jb (jiv t (k:Int) (by omega) (by omega) (by omega)) (by simp only [go_sem]) fun ηf=>?_
 simp only [go_sem];by_cases hneg:(jU t k).2<0
 ·rw [hi.stop hneg]
  simp only [go_sem,hneg];exact jbj (g:=4) (c:=0) (d:=kh l) (η:=η) (x:=η []) (by simp only [go_sem]) (by simp only [go_sem]) rfl (by simp only [go_sem])
 ·obtain ⟨hk,hn⟩:=hi.next hneg
  have hup:=jb8 hneg;obtain ⟨m,hm⟩:=Int.eq_ofNat_of_zero_le (show 0≤(jU t k).2 by omega)
  rw [hm,Int.toNat_natCast] at hk hn;have hm1:l.length+1≤maxLen:=by unfold maxLen;omega
  have hm2:(l.length+1)*16≤140737488355328:=by omega
  have hnle:=hn.le;have hmn:¬(m:Int)<0:=by omega
  simp only [go_sem,hmn,hm,hm1,hm2,zm];intro η2 η3;exact ⟨((l++[(jU t k).1],m),η3),hn,(jl [some 2400] (by simp only [go_sem,zm]<;>and_intros<;>first|rfl|assumption|trivial)),by (try dsimp only);omega⟩
theorem jjU (t:ByteArray) (ht:t.size≤1048576):kl Try.prog 37 [.c (.val (.string t))] (.tup [(false,[kh (jal t).1]),(false,[.val (.int .i64 ((jal t).2:Nat))])]):=by
 refine jr Try.func37 jgq (by simp) ?_
 unfold jep;simp only [go_sem];intro η8;by_cases hbig:(60000:Int)<(t.size:Int)
 ·have hr:jal t=([],0):=by rw [jal,if_pos (by omega)]
  rw [hr];simp only [go_sem,hbig,jfT];exact jbj (g:=800) (c:=0) (d:=kh []) (η:=η8) (x:=η8 []) (by simp only [go_sem]) (by simp only [go_sem]) rfl (by simp only [go_sem])
 have hr:jal t=jc7 t (t.size+1) 0 []:=by rw [jal,if_neg (by omega)]
 rw [hr];simp only [go_sem,hbig];refine jq (fun i:(List ByteArray×Nat)×jm=>St.of [(0,.c (.v (.string t))),(4,Hd 4 i.2),(5,Ni i.1.2)] [(4,.loose (kh i.1.1) i.2)]) (fun i=>ScTo t i.1.2 i.1.1) (fun i=>t.size-i.1.2) (([],0),η8) (ScTo.start t) (jl [some 800] (by simp only [go_sem,jfT]<;>and_intros<;>first|rfl|assumption|trivial)) ?_
 rintro ⟨⟨l,k⟩,η⟩ hi;dsimp only at hi;have hle:=hi.le;have hlen:=hi.len;by_cases hlt:k<t.size;rotate_left
 ·have hlt':¬(k:Int)<(t.size:Int):=by omega
  rw [hi.stop (jhD t hlt)];simp only [go_sem,hlt'];exact jbj (g:=4) (c:=0) (d:=kh l) (η:=η) (x:=η []) (by simp only [go_sem]) (by simp only [go_sem]) rfl (by simp only [go_sem])
 have hlt':(k:Int)<(t.size:Int):=by omega
 simp only [go_sem,hlt'];refine jb (jit t (k:Int) (by omega) (by omega) (by omega)) (by simp only [go_sem]) fun ηf=>?_
 simp only [go_sem];by_cases hneg:(jU t k).2<0
 ·rw [hi.stop hneg]
  simp only [go_sem,hneg];exact jbj (g:=4) (c:=0) (d:=kh l) (η:=η) (x:=η []) (by simp only [go_sem]) (by simp only [go_sem]) rfl (by simp only [go_sem])
 ·obtain ⟨hk,hn⟩:=hi.next hneg
  have hup:=jb8 hneg;obtain ⟨m,hm⟩:=Int.eq_ofNat_of_zero_le (show 0≤(jU t k).2 by omega)
  rw [hm,Int.toNat_natCast] at hk hn;have hm1:l.length+1≤maxLen:=by unfold maxLen;omega
  have hm2:(l.length+1)*16≤140737488355328:=by omega
  have hnle:=hn.le;have hmn:¬(m:Int)<0:=by omega
  simp only [go_sem,hmn,hm,hm1,hm2,zm];intro η2 η3;exact ⟨((l++[(jU t k).1],m),η3),hn,(jl [some 2800] (by simp only [go_sem,zm]<;>and_intros<;>first|rfl|assumption|trivial)),by (try dsimp only);omega⟩
end Go.Proofs.Ytmnpailnelmpiaa
