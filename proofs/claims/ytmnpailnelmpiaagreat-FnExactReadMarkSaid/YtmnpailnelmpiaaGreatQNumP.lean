/- Parts. -/
import Derived.Test.YtmnpailnelmpiaaGreatQNumI
set_option linter.unusedSimpArgs false
set_option linter.unusedVariables false
set_option maxHeartbeats 4000000
set_option maxRecDepth 100000
namespace Go.Proofs.YtmnpailnelmpiaaGreat
open Go.RowKit Go.Sort
theorem qJ {L:List Int} {s:Nat×Bool} (h:s.1≤L.length):(jai L s).2.1≤L.length:=by
 unfold jai;split
 ·rename_i v hv;have:=(List.getElem?_eq_some_iff.1 hv).1;dsimp only;omega
 ·exact h
theorem jqK {L:List Int} {s:Nat×Bool} (h:∀n∈L,jcK n):jcK (jai L s).1:=by
 unfold jai;split
 ·rename_i v hv;exact h v (List.mem_of_getElem? hv)
 ·exact ⟨Int.le_refl _,by show (0:Int)≤_;omega⟩
structure RowsAt {σ α:Type} (bd:σ→Bool) (rd:σ→α×σ) (m:Nat) (s0:σ) (i:Nat) (E:List α) (s:σ):Prop where
 le:i≤m
 len:E.length=i
 eq:kX bd rd m ([],s0)=kX bd rd (m-i) (E,s)
theorem RowsAt.start {σ α:Type} {bd:σ→Bool} {rd:σ→α×σ} (m:Nat) (s0:σ):RowsAt bd rd m s0 0 [] s0:=⟨Nat.zero_le _,rfl,rfl⟩
theorem RowsAt.next {σ α:Type} {bd:σ→Bool} {rd:σ→α×σ} {m i:Nat} {s0 s:σ} {E:List α} (h:RowsAt bd rd m s0 i E s) (hi:i<m) (hb:bd s=false):RowsAt bd rd m s0 (i+1) (E++[(rd s).1]) (rd s).2:=by
 refine ⟨hi,by simp [h.len],?_⟩
 rw [h.eq,show m-i=m-(i+1)+1 by omega,kX,if_neg (by rw [hb];decide)]
theorem RowsAt.stop {σ α:Type} {bd:σ→Bool} {rd:σ→α×σ} {m i:Nat} {s0 s:σ} {E:List α} (h:RowsAt bd rd m s0 i E s) (hs:i=m∨bd s=true):kX bd rd m ([],s0)=(E,s):=by
 rw [h.eq];rcases hs with rfl|hb
 ·rw [Nat.sub_self];rfl
 ·exact zy hb _
abbrev jDr (b ty:Nat) (p m w t:Int) (E:List Ed) (η:jq):Ob:=.box b ty [.a (.v (.int .i64 p)),.a (.v (.int .i64 m)),.a (.v (.int .i64 w)),.a (.v (.int .i64 t)),.own (ju E) η]
abbrev ZPl (b ty:Nat):Ob:=.box b ty [.a (.v (.int .i64 0)),.a (.v (.int .i64 0)),.a (.v (.int .i64 0)),.a (.v (.int .i64 0)),.a (.v (.slice none 0 0))]
theorem jsv (l:List Ed) (a b:Int):D.sl 2 tEd (l.flatMap jJ++[.val (.int .i64 a),.val (.int .i64 b)])=ju (l++[⟨a,b⟩]):=jux l ⟨a,b⟩
def jax:C:=iS [iA 2 (.alloc 71 [.int .i64 0,.int .i64 0,.int .i64 0,.int .i64 0,.slice none 0 0])] (iS [iA 6 (iM 0),iA 7 (.call 169 [.t 6]),iA 8 (iM 0),iA 9 (.call 169 [.t 8]),iA 10 (iM 0),iA 11 (.call 169 [.t 10]),iA 12 (iM 0),iA 13 (.call 169 [.t 12]),iA 14 (.bld [.int .i64 0,.int .i64 0,.int .i64 0,.int .i64 0,.slice none 0 0] [(0,1,.t 7),(1,1,.t 9),(2,1,.t 11),(3,1,.t 13)]),iA 3 (.alloc 71 [.int .i64 0,.int .i64 0,.int .i64 0,.int .i64 0,.slice none 0 0]),iC (.st 5 [none,none,none,none,some (2,253)] (.t 3) (.t 14))] (iS [iA 15 (iM 0),iA 16 (.call 169 [.t 15]),iA 4 (iM 16)] (.seq (iS [iA 5 (iN 0)] (.blk 0 (.loop (.seq (iS [iA 17 (iM 5),iA 18 (iM 4),iA 19 (iP .lss 3 17 18),iA 20 (iM 19),iB 21 20 true (iM 0),iB 22 20 true (iF 0 21),iB 23 20 true (iF 1 22),iB 24 20 true (iL 23),iB 25 20 true (iU 24),iA 26 (.pick (.t 20) (.t 25) (.c (.bool false)))] (iD 26 .skip (.exit 0))) (.seq (.blk 1 (.dreg (T.pure 0 (iA 29 (iF 4 3)) (T.pure 1 (iA 30 (iL 29)) (T.pure 2 (iA 31 (iM 0)) (T.pure 4 (iA 33 (iM 0)) (T.alt (iA 32 (.call 169 [.t 31])) [4,1,0] (T.alt (iA 34 (.call 169 [.t 33])) [1,0] (T.pure 6 (iA 35 (.bld [.int .i64 0,.int .i64 0] [(0,1,.t 32),(1,1,.t 34)])) (T.alt (iA 36 (.bsl 253 2 1 [none,none] [(0,2,.t 35)])) [1,0] (T.alt (iA 37 (.app 253 2 16 (.t 30) (.t 36))) [] (T.pure 9 (iA 38 (iF 4 3)) (T.alt (iC (.st 1 [some (2,253)] (.t 38) (.t 37))) [] T.done T.stop)) T.stop) T.stop)) T.stop) T.stop))))))) (.reg [iA 27 (iM 5),iA 28 (iQ .add 3 27 1),iA 5 (iM 28)])))))) (iS [iA 39 (iT 5 3),iC (.st 5 [none,none,none,none,some (2,253)] (.t 2) (.t 39))] .ret))))
theorem jch:fnC Tryz.prog Tryz.f170=some (jax,[.cell 2 true 5],40):=by kernel_rfl
theorem jzF (L:List Int) (hin:∀n∈L,jcK n) (hLl:L.length≤1000000000) (s:Nat×Bool) (b:Nat) (η:jq) (o:Nat→Ob) (hs:s.1≤L.length) (ho:o 88=qR b 204 η L s) (hL:o 87=.loose (jh L) η) (h86:o 86=.none):
 Inl Tryz.prog 170 [Bx 88 b] o fun av o2=>∃(p:Pl) (s':Nat×Bool) (e:jq),rdPl none (jai L) (·.2) (fun s=>(s.1,true)) s=(p,s')∧s'.1≤L.length∧
  av=.agg [.v (.int .i64 p.prio),.v (.int .i64 p.most),.v (.int .i64 p.wait),.v (.int .i64 p.tasks),.v (e [])]∧(e []).oneCell'=true∧o2 86=.loose (ju p.edges) e∧o2 88=qR b 204 η L s'∧∀g,g<900000000→g≠86→g≠88→o2 g=o g:=by
 refine jkC (β:=9000000) [[1,1,1,1,0]] Tryz.func170 jch (by simp) ?_
 unfold jax;simp only [C.ghs,C.ghAt,List.foldr];simp only [go_sem];intro b2;refine jP (kV L s b η _ hs (by simp only [go_sem,ho]) (by simp only [go_sem,hL])) (by simp only [go_sem]) ?_
 have s1:=qJ hs;generalize hq1:jai L s=q1 at*;simp only [go_sem];refine jP (kV L q1.2 b η _ s1 (by simp only [go_sem]) (by simp only [go_sem,hL])) (by simp only [go_sem]) ?_
 have s2:=qJ s1;generalize hq2:jai L q1.2=q2 at*;simp only [go_sem];refine jP (kV L q2.2 b η _ s2 (by simp only [go_sem]) (by simp only [go_sem,hL])) (by simp only [go_sem]) ?_
 have s3:=qJ s2;generalize hq3:jai L q2.2=q3 at*;simp only [go_sem];refine jP (kV L q3.2 b η _ s3 (by simp only [go_sem]) (by simp only [go_sem,hL])) (by simp only [go_sem]) ?_
 have s4:=qJ s3;generalize hq4:jai L q3.2=q4 at*;simp only [go_sem];intro b3;refine jP (kV L q4.2 b η _ s4 (by simp only [go_sem]) (by simp only [go_sem,hL])) (by simp only [go_sem]) ?_
 have s5:=qJ s4;have hm:=jqK (s:=q4.2) hin;generalize hq5:jai L q4.2=q5 at*;simp only [go_sem];obtain ⟨m,hm0⟩:=Int.eq_ofNat_of_zero_le hm.1;have hm1:=hm.2;rw [hm0] at hm1;have hm':q5.1=(m:Int):=hm0;rw [hm'];refine jp (fun i:(Nat×List Ed×(Nat×Bool))×jq=>St.ofB [(0,Bx 88 b),(2,Bx 900000200 b2),(3,Bx 900000300 b3),(4,Ni m),(5,Ni i.1.1)] [(900000200,ZPl b2 71),(900000300,jDr b3 71 q1.1 q2.1 q3.1 q4.1 i.1.2.1 i.2)] 900000000 (fun j=>if j=88 then qR b 204 η L i.1.2.2 else o j)) (fun i=>RowsAt (·.2) (joE (jai L)) m q5.2 i.1.1 i.1.2.1 i.1.2.2∧i.1.2.2.1≤L.length) (fun i=>m-i.1.1) ((0,[],q5.2),jeA) (⟨RowsAt.start _ _,s5⟩) (jcM [some 900000200,some 900000300] (by simp only [go_sem,jaM]<;>and_intros<;>first|rfl|assumption|trivial) (fun j hj=>by by_cases e88:j=88<;>simp only [go_sem,e88,hj,if_true,if_false,qk hj 900000200 (by omega),qk hj 900000300 (by omega),jaM]) (by decide)) ?_
 rintro ⟨⟨i,E,q⟩,e0⟩ ⟨hR,hq⟩;dsimp only at hR hq;have hle:=hR.le;have hlen:=hR.len;by_cases hlt:i<m;rotate_left
 ·have hlt':¬(i:Int)<(m:Int):=by omega
  have hst:=hR.stop (.inl (by omega))
  have hrd:rdPl none (jai L) (·.2) (fun s=>(s.1,true)) s=(⟨q1.1,q2.1,q3.1,q4.1,E⟩,q):=by
   simp only [rdPl,hq1,hq2,hq3,hq4,hq5,jbA,hm',Int.toNat_natCast,hst]
  simp only [go_sem,hlt'];refine kQ ?_;refine qF 900000300 4 86 (d:=ju E) (η:=e0) (by simp only [go_sem]) (by simp only [go_sem,h86]) (by decide) fun hx=>?_
  refine WkK.of ?_;simp only [go_sem,hx];exact ⟨_,_,e0,hrd,hq,rfl,hx,rfl,rfl,fun g g1 g2 g3=>by simp only [g2,g3,g1,qk g1 900000200 (by omega),qk g1 900000300 (by omega),if_true,if_false]⟩
 have hlt':(i:Int)<(m:Int):=by omega
 obtain ⟨k,bad⟩:=q;cases bad;rotate_left
 ·have hst:=hR.stop (.inr rfl)
  have hrd:rdPl none (jai L) (·.2) (fun s=>(s.1,true)) s=(⟨q1.1,q2.1,q3.1,q4.1,E⟩,(k,true)):=by
   simp only [rdPl,hq1,hq2,hq3,hq4,hq5,jbA,hm',Int.toNat_natCast,hst]
  simp only [go_sem,hlt',qR,Bool.not_true];refine kQ ?_;refine qF 900000300 4 86 (d:=ju E) (η:=e0) (by simp only [go_sem]) (by simp only [go_sem,h86]) (by decide) fun hx=>?_
  refine WkK.of ?_;simp only [go_sem,hx];exact ⟨_,_,e0,hrd,hq,rfl,hx,rfl,rfl,fun g g1 g2 g3=>by simp only [g2,g3,g1,qk g1 900000200 (by omega),qk g1 900000300 (by omega),if_true,if_false]⟩
 ·have hnx:=hR.next hlt rfl
  simp only [go_sem,hlt',qR,Bool.not_false];refine jP (kV L (k,false) b η _ hq (by simp only [go_sem,qR]) (by simp only [go_sem,hL])) (by simp only [go_sem]) ?_
  have t1:=qJ hq;simp only [joE] at hnx;generalize hr1:jai L (k,false)=r1 at*;simp only [go_sem,hlen];refine jP (kV L r1.2 b η _ t1 (by simp only [go_sem]) (by simp only [go_sem,hL])) (by simp only [go_sem]) ?_
  have t2:=qJ t1;generalize hr2:jai L r1.2=r2 at*;have hw:IntKind.i64.wrap ((i:Int)+1)=((i+1:Nat):Int):=jj (by omega) (by omega)
  simp only [go_sem];intro e1;refine ⟨by unfold maxLen;omega,by omega,fun e2=>?_⟩
  exact ⟨((i+1,E++[⟨r1.1,r2.1⟩],r2.2),e2),⟨hnx,t2⟩,(jcM [some 900000200,some 900000300] (by simp only [go_sem,jsv,hw,qR]<;>and_intros<;>first|rfl|assumption|trivial) (fun j hj=>by by_cases e88:j=88<;>simp only [go_sem,e88,hj,if_true,if_false,qk hj 900000200 (by omega),qk hj 900000300 (by omega),qk hj 900003600 (by omega),qk hj 900003700 (by omega),jsv,hw,qR]) (by decide)),by (try dsimp only);omega⟩
theorem jAq (t:ByteArray) (k:Int) (hk:k≤t.size):(vAt t k).2≤t.size∧jcK (vAt t k).1:=by
 rw [vAt];split
 ·exact ⟨by show (-1:Int)≤_;omega,by show (0:Int)≤0;omega,by show (0:Int)≤_;omega⟩
 ·cases hv:jbt (t.data.toList.drop k.toNat) with
  |none=>exact ⟨by show (-1:Int)≤_;omega,by show (0:Int)≤0;omega,by show (0:Int)≤_;omega⟩
  |some p=>
   obtain ⟨v,m⟩:=p;obtain ⟨h1,q,h2,rfl⟩:=zR hv;have hl:=congrArg List.length h2;rw [List.length_drop,List.length_append,Array.length_toList] at hl;have hz:t.data.size=t.size:=rfl;have:=List.length_pos_iff.2 (je9 v);refine ⟨?_,?_,?_⟩<;>dsimp only<;>omega
theorem qI {t:ByteArray} {s:Int×Bool} (h:s.1≤t.size):(vC t s).2.1≤t.size:=by
 unfold vC;split
 ·exact h
 ·split
  ·exact h
  ·exact (jAq t s.1 h).1
theorem jqJ {s:Int×Bool} (t:ByteArray) (h:s.1≤t.size):jcK (vC t s).1:=by
 unfold vC;split
 ·exact ⟨by show (0:Int)≤0;omega,by show (0:Int)≤_;omega⟩
 ·split
  ·exact ⟨by show (0:Int)≤0;omega,by show (0:Int)≤_;omega⟩
  ·exact (jAq t s.1 h).2
def jeE:C:=iS [iA 2 (.alloc 71 [.int .i64 0,.int .i64 0,.int .i64 0,.int .i64 0,.slice none 0 0])] (iS [iA 6 (iM 0),iA 7 (.call 165 [.t 6]),iA 8 (iM 0),iA 9 (.call 165 [.t 8]),iA 10 (iM 0),iA 11 (.call 165 [.t 10]),iA 12 (iM 0),iA 13 (.call 165 [.t 12]),iA 14 (.bld [.int .i64 0,.int .i64 0,.int .i64 0,.int .i64 0,.slice none 0 0] [(0,1,.t 7),(1,1,.t 9),(2,1,.t 11),(3,1,.t 13)]),iA 3 (.alloc 71 [.int .i64 0,.int .i64 0,.int .i64 0,.int .i64 0,.slice none 0 0]),iC (.st 5 [none,none,none,none,some (2,253)] (.t 3) (.t 14))] (iS [iA 15 (iM 0),iA 16 (.call 165 [.t 15]),iA 4 (iM 16)] (.seq (iS [iA 17 (iM 4),iA 18 (iQ .gtr 3 17 31)] (iD 18 (.reg [iA 19 (iM 0),iA 20 (iF 0 19),iA 21 (iF 2 20),iC (.st 1 [none] (.t 21) (.c (.bool true)))]) .skip)) (.seq (iS [iA 5 (iN 0)] (.blk 0 (.loop (.seq (iS [iA 22 (iM 5),iA 23 (iM 4),iA 24 (iP .lss 3 22 23),iA 25 (iM 24),iB 26 25 true (iM 0),iB 27 25 true (iF 0 26),iB 28 25 true (iF 2 27),iB 29 25 true (iL 28),iB 30 25 true (iU 29),iA 31 (.pick (.t 25) (.t 30) (.c (.bool false)))] (iD 31 .skip (.exit 0))) (.seq (.blk 1 (.dreg (T.pure 0 (iA 34 (iF 4 3)) (T.pure 1 (iA 35 (iL 34)) (T.pure 2 (iA 36 (iM 0)) (T.pure 4 (iA 38 (iM 0)) (T.alt (iA 37 (.call 165 [.t 36])) [4,1,0] (T.alt (iA 39 (.call 165 [.t 38])) [1,0] (T.pure 6 (iA 40 (.bld [.int .i64 0,.int .i64 0] [(0,1,.t 37),(1,1,.t 39)])) (T.alt (iA 41 (.bsl 253 2 1 [none,none] [(0,2,.t 40)])) [1,0] (T.alt (iA 42 (.app 253 2 16 (.t 35) (.t 41))) [] (T.pure 9 (iA 43 (iF 4 3)) (T.alt (iC (.st 1 [some (2,253)] (.t 43) (.t 42))) [] T.done T.stop)) T.stop) T.stop)) T.stop) T.stop))))))) (.reg [iA 32 (iM 5),iA 33 (iQ .add 3 32 1),iA 5 (iM 33)])))))) (iS [iA 44 (iT 5 3),iC (.st 5 [none,none,none,none,some (2,253)] (.t 2) (.t 44))] .ret)))))
theorem jhM:fnC Tryz.prog Tryz.f249=some (jeE,[.cell 2 true 5],45):=by kernel_rfl
theorem jwN (t:ByteArray) (ht:t.size≤1000000000) (s:Int×Bool) (b:Nat) (o:Nat→Ob) (hs:s.1≤t.size) (ho:o 89=kC b 196 t s) (h86:o 86=.none):
 Inl Tryz.prog 249 [Bx 89 b] o fun av o2=>∃(p:Pl) (s':Int×Bool) (e:jq),rdPl (some 31) (vC t) (·.2) (fun s=>(s.1,true)) s=(p,s')∧s'.1≤t.size∧
  av=.agg [.v (.int .i64 p.prio),.v (.int .i64 p.most),.v (.int .i64 p.wait),.v (.int .i64 p.tasks),.v (e [])]∧(e []).oneCell'=true∧o2 86=.loose (ju p.edges) e∧o2 89=kC b 196 t s'∧∀g,g<900000000→g≠86→g≠89→o2 g=o g:=by
 refine jkC (β:=9000000) [[1,1,1,1,1,0]] Tryz.func249 jhM (by simp) ?_
 unfold jeE;simp only [C.ghs,C.ghAt,List.foldr];simp only [go_sem];intro b2;refine jP (qK t ht s b _ (by omega) (by simp only [go_sem,ho])) (by simp only [go_sem]) ?_
 have s1:=qI hs;generalize hq1:vC t s=q1 at*;simp only [go_sem];refine jP (qK t ht q1.2 b _ (by omega) (by simp only [go_sem])) (by simp only [go_sem]) ?_
 have s2:=qI s1;generalize hq2:vC t q1.2=q2 at*;simp only [go_sem];refine jP (qK t ht q2.2 b _ (by omega) (by simp only [go_sem])) (by simp only [go_sem]) ?_
 have s3:=qI s2;generalize hq3:vC t q2.2=q3 at*;simp only [go_sem];refine jP (qK t ht q3.2 b _ (by omega) (by simp only [go_sem])) (by simp only [go_sem]) ?_
 have s4:=qI s3;generalize hq4:vC t q3.2=q4 at*;simp only [go_sem];intro b3;refine jP (qK t ht q4.2 b _ (by omega) (by simp only [go_sem])) (by simp only [go_sem]) ?_
 have s5:=qI s4;have hm:=jqJ t s4;generalize hq5:vC t q4.2=q5 at*;simp only [go_sem];obtain ⟨m,hm0⟩:=Int.eq_ofNat_of_zero_le hm.1;have hm1:=hm.2;rw [hm0] at hm1;have hm':q5.1=(m:Int):=hm0;rw [hm'];obtain ⟨q5v,k5,b5⟩:=q5;dsimp only at hm' hm0 s5 hm;by_cases hcap:(m:Int)>31
 ·have hcap':(31:Int)<(m:Int):=hcap
  have h0m:(0:Int)<(m:Int):=by omega
  have hst:kX (·.2) (joE (vC t)) m ([],(k5,true))=([],(k5,true)):=zy rfl _
  have hrd:rdPl (some 31) (vC t) (·.2) (fun s=>(s.1,true)) s=(⟨q1.1,q2.1,q3.1,q4.1,[]⟩,(k5,true)):=by
   simp only [rdPl,hq1,hq2,hq3,hq4,hq5,jbA,hm',Int.toNat_natCast,if_pos hcap,hst]
  simp only [go_sem,hcap',kC];refine vg 1 ?_;simp only [go_sem,h0m,Bool.not_true];refine kQ ?_;refine WkK.wk (s':=St.ofB [(0,Bx 89 b),(2,Bx 900000200 b2),(3,Bx 900000300 b3)] [(900000200,ZPl b2 71),(900000300,jDr b3 71 q1.1 q2.1 q3.1 q4.1 [] jeA)] 900000000 (fun j=>if j=89 then kC b 196 t (k5,true) else o j)) (jcM [some 900000200,some 900000300] (by simp only [go_sem,jaM,kC]<;>and_intros<;>first|rfl|assumption|trivial) (fun j hj=>by by_cases e89:j=89<;>simp only [go_sem,e89,hj,if_true,if_false,qk hj 900000200 (by omega),qk hj 900000300 (by omega),jaM,kC]) (by decide)) ?_
  refine qF 900000300 4 86 (d:=ju []) (η:=jeA) (by simp only [go_sem]) (by simp only [go_sem,h86]) (by decide) fun hx=>?_
  refine WkK.of ?_;simp only [go_sem,hx];exact ⟨_,_,jeA,hrd,s5,rfl,hx,rfl,rfl,fun g g1 g2 g3=>by simp only [g2,g3,g1,qk g1 900000200 (by omega),qk g1 900000300 (by omega),if_true,if_false]⟩
 have hcap':¬(31:Int)<(m:Int):=hcap;simp only [go_sem,hcap'];refine jp (fun i:(Nat×List Ed×(Int×Bool))×jq=>St.ofB [(0,Bx 89 b),(2,Bx 900000200 b2),(3,Bx 900000300 b3),(4,Ni m),(5,Ni i.1.1)] [(900000200,ZPl b2 71),(900000300,jDr b3 71 q1.1 q2.1 q3.1 q4.1 i.1.2.1 i.2)] 900000000 (fun j=>if j=89 then kC b 196 t i.1.2.2 else o j)) (fun i=>RowsAt (·.2) (joE (vC t)) m (k5,b5) i.1.1 i.1.2.1 i.1.2.2∧i.1.2.2.1≤t.size) (fun i=>m-i.1.1) ((0,[],(k5,b5)),jeA) (⟨RowsAt.start _ _,s5⟩) (jcM [some 900000200,some 900000300] (by simp only [go_sem,jaM]<;>and_intros<;>first|rfl|assumption|trivial) (fun j hj=>by by_cases e89:j=89<;>simp only [go_sem,e89,hj,if_true,if_false,qk hj 900000200 (by omega),qk hj 900000300 (by omega),jaM]) (by decide)) ?_
 rintro ⟨⟨i,E,q⟩,e0⟩ ⟨hR,hq⟩;dsimp only at hR hq;have hle:=hR.le;have hlen:=hR.len;by_cases hlt:i<m;rotate_left
 ·have hlt':¬(i:Int)<(m:Int):=by omega
  have hst:=hR.stop (.inl (by omega))
  have hrd:rdPl (some 31) (vC t) (·.2) (fun s=>(s.1,true)) s=(⟨q1.1,q2.1,q3.1,q4.1,E⟩,q):=by
   simp only [rdPl,hq1,hq2,hq3,hq4,hq5,jbA,hm',Int.toNat_natCast,if_neg hcap,hst]
  simp only [go_sem,hlt'];refine kQ ?_;refine qF 900000300 4 86 (d:=ju E) (η:=e0) (by simp only [go_sem]) (by simp only [go_sem,h86]) (by decide) fun hx=>?_
  refine WkK.of ?_;simp only [go_sem,hx];exact ⟨_,_,e0,hrd,hq,rfl,hx,rfl,rfl,fun g g1 g2 g3=>by simp only [g2,g3,g1,qk g1 900000200 (by omega),qk g1 900000300 (by omega),if_true,if_false]⟩
 have hlt':(i:Int)<(m:Int):=by omega
 obtain ⟨k,bad⟩:=q;cases bad;rotate_left
 ·have hst:=hR.stop (.inr rfl)
  have hrd:rdPl (some 31) (vC t) (·.2) (fun s=>(s.1,true)) s=(⟨q1.1,q2.1,q3.1,q4.1,E⟩,(k,true)):=by
   simp only [rdPl,hq1,hq2,hq3,hq4,hq5,jbA,hm',Int.toNat_natCast,if_neg hcap,hst]
  simp only [go_sem,hlt',kC,Bool.not_true];refine kQ ?_;refine qF 900000300 4 86 (d:=ju E) (η:=e0) (by simp only [go_sem]) (by simp only [go_sem,h86]) (by decide) fun hx=>?_
  refine WkK.of ?_;simp only [go_sem,hx];exact ⟨_,_,e0,hrd,hq,rfl,hx,rfl,rfl,fun g g1 g2 g3=>by simp only [g2,g3,g1,qk g1 900000200 (by omega),qk g1 900000300 (by omega),if_true,if_false]⟩
 ·have hnx:=hR.next hlt rfl
  simp only [go_sem,hlt',kC,Bool.not_false];refine jP (qK t ht (k,false) b _ (by omega) (by simp only [go_sem,kC])) (by simp only [go_sem]) ?_
  have t1:=qI hq;simp only [joE] at hnx;generalize hr1:vC t (k,false)=r1 at*;simp only [go_sem,hlen];refine jP (qK t ht r1.2 b _ (by omega) (by simp only [go_sem])) (by simp only [go_sem]) ?_
  have t2:=qI t1;generalize hr2:vC t r1.2=r2 at*;have hw:IntKind.i64.wrap ((i:Int)+1)=((i+1:Nat):Int):=jj (by omega) (by omega)
  simp only [go_sem];intro e1;refine ⟨by unfold maxLen;omega,by omega,fun e2=>?_⟩
  exact ⟨((i+1,E++[⟨r1.1,r2.1⟩],r2.2),e2),⟨hnx,t2⟩,(jcM [some 900000200,some 900000300] (by simp only [go_sem,jsv,hw,kC]<;>and_intros<;>first|rfl|assumption|trivial) (fun j hj=>by by_cases e89:j=89<;>simp only [go_sem,e89,hj,if_true,if_false,qk hj 900000200 (by omega),qk hj 900000300 (by omega),qk hj 900004100 (by omega),qk hj 900004200 (by omega),jsv,hw,kC]) (by decide)),by (try dsimp only);omega⟩
end Go.Proofs.YtmnpailnelmpiaaGreat
