/- Parts. -/
import Derived.Test.YtmnpailnelmpiaaQFresh
set_option linter.unusedSimpArgs false
set_option linter.unusedVariables false
set_option maxHeartbeats 16000000
set_option maxRecDepth 100000
namespace Go.Proofs.Ytmnpailnelmpiaa
open Go.RowKit Go.Sort
def jf3:C:=iS [iA 2 (.box 82 4 (.t 0)),iA 3 (.box 82 4 (.t 1)),iA 4 (iO false)] (iS [iA 5 (iF 0 2),iA 6 (iL 5),iA 7 (iF 0 3),iA 8 (iL 7),iA 9 (iP .gtr 3 6 8),iA 10 (iM 9),iB 11 10 false (iF 0 2),iB 12 10 false (iL 11),iB 13 10 false (iF 0 3),iB 14 10 false (iL 13),iB 15 10 false (iP .eql 3 12 14),iB 16 10 false (iM 15),iB 17 16 true (iF 1 2),iB 18 16 true (iL 17),iB 19 16 true (iF 1 3),iB 20 16 true (iL 19),iB 21 16 true (iP .lss 3 18 20),iB 22 10 false (.pick (.t 16) (.t 21) (.c (.bool false))),iA 23 (.pick (.t 10) (.c (.bool true)) (.t 22)),iA 4 (iM 23)] .ret)
theorem jhX:fnC Try.prog Try.f131=some (jf3,[.t 4],24):=by kernel_rfl
def jcQ:C:=iS [iA 2 (iO false)] (.seq (iS [iA 4 (iM 0),iA 5 (iG 4),iA 6 (iQ .gtr 3 5 80)] (iD 6 (iS [iA 2 (iO false)] .ret) .skip)) (.seq (iS [iA 3 (iN 1)] (.blk 0 (.loop (.seq (iS [iA 7 (iM 3),iA 8 (iM 0),iA 9 (iG 8),iA 10 (iP .lss 3 7 9)] (iD 10 .skip (.exit 0))) (.seq (.blk 1 (.seq (.dreg (T.pure 0 (iA 13 (iM 0)) (T.pure 1 (iA 14 (iM 3)) (T.pure 2 (iA 15 (iQ .sub 3 14 1)) (T.pure 3 (iA 16 (iI 4 13 15)) (T.pure 4 (iA 17 (iT 4 16)) (T.pure 5 (iA 18 (iM 0)) (T.pure 6 (iA 19 (iM 3)) (T.pure 7 (iA 20 (iI 4 18 19)) (T.pure 8 (iA 21 (iT 4 20)) (T.alt (iA 22 (.call 131 [.t 17,.t 21])) [] (T.pure 10 (iA 23 (iU 22)) T.done) T.stop))))))))))) (iD 23 (iS [iA 2 (iO false)] .ret) .skip))) (.reg [iA 11 (iM 3),iA 12 (iQ .add 3 11 1),iA 3 (iM 12)])))))) (iS [iA 2 (iO true)] .ret)))
theorem jfo:fnC Try.prog Try.f110=some (jcQ,[.t 2],24):=by kernel_rfl
theorem jfQ (x y:En):kl Try.prog 131 [.agg (jy x),.agg (jy y)] (.c (.val (.bool (kv x y)))):=by
 refine jr Try.func131 jhX (by simp) ?_
 unfold jf3;simp only [go_sem,jy];intro b b2;by_cases h1:x.prio>y.prio
 ·have hb:kv x y=true:=by simp [kv,h1]
  simp only [go_sem,jy,h1,hb]
 ·cases h2:x.prio==y.prio
  ·have hb:kv x y=false:=by
    have:¬x.prio=y.prio:=by simpa using h2
    simp only [kv,decide_eq_false_iff_not];omega
   simp only [go_sem,jy,h1,h2,hb]
  ·have hb:kv x y=decide (x.seq<y.seq):=by
    have:x.prio=y.prio:=by simpa using h2
    simp only [kv,this,Int.lt_irrefl,gt_iff_lt,false_or,true_and]
   simp only [go_sem,jy,h1,h2,hb]
theorem jio (l:List En) (hl:l.length≤4000000):kl Try.prog 110 [.c (jv l)] (.c (.val (.bool (jbd l)))):=by
 refine jr Try.func110 jfo (by simp) ?_
 unfold jcQ;simp only [go_sem];by_cases h80:80<l.length
 ·have h80':(l.length:Int)>80:=by omega
  have hb:jbd l=false:=jnF fun h=>by have:=h.most;omega
  simp only [go_sem,h80',hb]
 have h80':¬(l.length:Int)>80:=by omega
 simp only [go_sem,h80'];refine jq (fun i:Nat=>St.of [(0,Ro (jv l)),(3,Ni i)] []) (fun i=>1≤i∧(i≤l.length∨i=1)∧∀(k:Nat) (a b:En),k+1<i→l[k]?=some a→l[k+1]?=some b→kv a b=true) (fun i=>l.length-i) 1 (⟨by omega,.inr rfl,fun k a b h=>by omega⟩) (jl [] (by simp only [go_sem]<;>and_intros<;>first|rfl|assumption|trivial)) ?_
 rintro i ⟨hi1,hi2,hio⟩;by_cases hlt:i<l.length
 ·have hlt':(i:Int)<l.length:=by omega
  obtain ⟨j,rfl⟩:∃j,i=j+1:=⟨i-1,by omega⟩
  obtain ⟨x,hx⟩:=je (show j<l.length by omega)
  obtain ⟨y,hy⟩:=je hlt;have hjl:j<l.length:=by omega
  have hw:IntKind.i64.wrap (((j+1:Nat):Int)+1)=((j+1+1:Nat):Int):=jg (by omega) (by omega)
  have hw1:IntKind.i64.wrap (((j+1:Nat):Int)-1)=(j:Int):=by rw [jg (by omega) (by omega)];omega
  simp only [go_sem,hlt',hlt,hjl,hw1,ke hx,ke hy,jy];refine jb (jfQ x y) (by simp only [go_sem,jy]) fun η=>?_
  simp only [go_sem,jy];cases ha:kv x y
  ·have hb:jbd l=false:=jnF fun h=>by have:=h.ahead j x y hx hy;rw [ha] at this;cases this
   simp only [go_sem,ha,hb]
  ·simp only [go_sem,ha,hw]
   exact ⟨j+1+1,⟨by omega,.inl (by omega),fun k a b hk ha' hb'=>by rcases Nat.lt_or_ge (k+1) (j+1) with h'|h';exact hio k a b h' ha' hb';obtain rfl:k=j:=(by omega);rw [hx] at ha';rw [hy] at hb';cases ha';cases hb';exact ha⟩,(jl [] (by simp only [go_sem]<;>and_intros<;>first|rfl|assumption|trivial)),by (try dsimp only);omega⟩
 have hlt':¬(i:Int)<l.length:=by omega
 have hb:jbd l=true:=jk0 ⟨by omega,fun k a b ha hb=>hio k a b (by have:=(List.getElem?_eq_some_iff.1 hb).1;omega) ha hb⟩
 simp only [go_sem,hlt',hb]
def jel:C:=iS [iA 3 (.box 42 4 (.t 0)),iA 4 (.box 78 8 (.t 1)),iA 6 (iO false)] (.seq (iS [iA 7 (iN 0)] (.blk 0 (.loop (.seq (iS [iA 10 (iM 7),iA 11 (iF 7 4),iA 12 (iL 11),iA 13 (iG 12),iA 14 (iP .lss 3 10 13)] (iD 14 .skip (.exit 0))) (.seq (.blk 1 (iS [iA 8 (iN 0)] (.seq (iS [iA 9 (iN 0)] (.blk 2 (.loop (.seq (iS [iA 17 (iM 9),iA 18 (iM 2),iA 19 (iG 18),iA 20 (iP .lss 3 17 19)] (iD 20 .skip (.exit 2))) (.seq (.blk 3 (.seq (.dreg (T.pure 0 (iA 23 (iM 2)) (T.pure 1 (iA 24 (iM 9)) (T.pure 2 (iA 25 (iI 4 23 24)) (T.pure 3 (iA 26 (iF 2 25)) (T.pure 4 (iA 27 (iL 26)) (T.pure 5 (iA 28 (iF 0 4)) (T.pure 6 (iA 29 (iL 28)) (T.pure 7 (iA 30 (iP .eql 3 27 29)) (T.pure 8 (iA 31 (iM 30)) (T.pure 9 (iB 32 31 true (iM 2)) (T.pure 10 (iB 33 31 true (iM 9)) (T.pure 11 (iB 34 31 true (iI 4 32 33)) (T.pure 12 (iB 35 31 true (iF 3 34)) (T.pure 13 (iB 36 31 true (iL 35)) (T.pure 14 (iB 37 31 true (iM 7)) (T.pure 15 (iB 38 31 true (iP .eql 3 36 37)) (T.pure 16 (iA 39 (.pick (.t 31) (.t 38) (.c (.bool false)))) T.done)))))))))))))))))) (iD 39 (iS [iA 40 (iM 8),iA 41 (iQ .add 3 40 1),iA 8 (iM 41)] (.seq (.dreg (T.pure 0 (iA 42 (iF 7 4)) (T.pure 1 (iA 43 (iL 42)) (T.pure 2 (iA 44 (iM 7)) (T.pure 3 (iA 45 (iI 4 43 44)) (T.pure 4 (iA 46 (iF 0 45)) (T.pure 5 (iA 47 (iL 46)) (T.pure 6 (iA 48 (iQ .eql 3 47 2)) (T.pure 7 (iA 49 (iM 48)) (T.pure 8 (iB 50 49 true (iM 2)) (T.pure 9 (iB 51 49 true (iM 9)) (T.pure 10 (iB 52 49 true (iI 4 50 51)) (T.pure 11 (iB 53 49 true (iF 0 52)) (T.pure 12 (iB 54 49 true (iL 53)) (T.pure 13 (iB 55 49 true (iF 1 4)) (T.pure 14 (iB 56 49 true (iF 0 55)) (T.pure 15 (iB 57 49 true (iL 56)) (T.pure 16 (iB 58 49 true (iP .neq 3 54 57)) (T.pure 17 (iA 59 (.pick (.t 49) (.t 58) (.c (.bool false)))) T.done))))))))))))))))))) (iD 59 (iS [iA 6 (iO false)] .ret) .skip))) .skip))) (.reg [iA 21 (iM 9),iA 22 (iQ .add 3 21 1),iA 9 (iM 22)])))))) (.seq (.dreg (T.pure 0 (iA 60 (iF 7 4)) (T.pure 1 (iA 61 (iL 60)) (T.pure 2 (iA 62 (iM 7)) (T.pure 3 (iA 63 (iI 4 61 62)) (T.pure 4 (iA 64 (iF 0 63)) (T.pure 5 (iA 65 (iL 64)) (T.pure 6 (iA 66 (iQ .eql 3 65 2)) (T.pure 7 (iA 67 (iM 66)) (T.pure 8 (iB 68 67 true (iM 8)) (T.pure 9 (iB 69 67 true (iQ .neq 3 68 1)) (T.pure 10 (iA 70 (.pick (.t 67) (.t 69) (.c (.bool false)))) (T.pure 11 (iA 71 (iM 70)) (T.pure 12 (iB 72 71 false (iF 7 4)) (T.pure 13 (iB 73 71 false (iL 72)) (T.pure 14 (iB 74 71 false (iM 7)) (T.pure 15 (iB 75 71 false (iI 4 73 74)) (T.pure 16 (iB 76 71 false (iF 0 75)) (T.pure 17 (iB 77 71 false (iL 76)) (T.pure 18 (iB 78 71 false (iQ .eql 3 77 3)) (T.pure 19 (iB 79 71 false (iM 78)) (T.pure 20 (iB 80 79 true (iF 7 4)) (T.pure 21 (iB 81 79 true (iL 80)) (T.pure 22 (iB 82 79 true (iM 7)) (T.pure 23 (iB 83 79 true (iI 4 81 82)) (T.pure 24 (iB 84 79 true (iF 3 83)) (T.pure 25 (iB 85 79 true (iL 84)) (T.pure 26 (iB 86 79 true (iF 0 3)) (T.pure 27 (iB 87 79 true (iL 86)) (T.pure 28 (iB 88 79 true (iQ .add 3 87 1)) (T.pure 29 (iB 89 79 true (iF 0 3)) (T.pure 30 (iB 90 79 true (iL 89)) (T.pure 31 (iB 91 79 true (iF 1 4)) (T.pure 32 (iB 92 79 true (iF 2 91)) (T.pure 33 (iB 93 79 true (iL 92)) (T.pure 34 (iB 94 79 true (iP .add 3 90 93)) (T.alt (iB 95 79 true (.call 66 [.t 85,.t 88,.t 94])) [] (T.pure 36 (iB 96 79 true (iU 95)) (T.pure 37 (iB 97 71 false (.pick (.t 79) (.t 96) (.c (.bool false)))) (T.pure 38 (iA 98 (.pick (.t 71) (.c (.bool true)) (.t 97))) T.done))) T.stop))))))))))))))))))))))))))))))))))))) (iD 98 (iS [iA 6 (iO false)] .ret) .skip))))) (.reg [iA 15 (iM 7),iA 16 (iQ .add 3 15 1),iA 7 (iM 16)])))))) (iS [iA 6 (iO true)] .ret))
theorem jgm:fnC Try.prog Try.f84=some (jel,[.t 6],99):=by kernel_rfl
theorem jjS (y:Yd) (r:Rn) (l:List En) (hl:l.length≤4000000) (ht:r.tasks.length≤4000000) (hy:0≤y.now∧y.now≤999999980) (hwt:1≤r.plan.wait∧r.plan.wait≤20):kl Try.prog 84 [.agg (jc y),.agg (jd r),.c (jv l)] (.c (.val (.bool (jaH y r l)))):=by
 refine jr Try.func84 jgm (by simp) ?_
 unfold jel;have hwn:IntKind.i64.wrap (y.now+1)=y.now+1:=jg (by omega) (by omega)
 have hww:IntKind.i64.wrap (y.now+r.plan.wait)=y.now+r.plan.wait:=jg (by omega) (by omega)
 simp only [go_sem,jc,jd,ja,ju,jy];intro b3 b4;refine jq (fun i:Nat=>St.of [(2,Ro (jv l)),(3,Bx 300 b3),(4,Bx 400 b4),(7,Ni i)] [(300,Bi b3 _ (jc y)),(400,Bi b4 _ (jd r))]) (fun i=>i≤r.tasks.length∧∀(t:Nat) (x:Tk),t<i→r.tasks[t]?=some x→jnz y r l t x) (fun i=>r.tasks.length-i) 0 (by (try dsimp only);first|omega|(simp;done)|(and_intros<;>first|omega|simp)) (jl [some 300,some 400] (by simp only [go_sem,jc,jd,ja,ju,jy]<;>and_intros<;>first|rfl|assumption|trivial)) ?_
 rintro k ⟨hk,hko⟩;by_cases hlt:k<r.tasks.length
 ·have hlt':(k:Int)<r.tasks.length:=by omega
  have h0k:(k:Int)≥0:=by omega
  obtain ⟨x,hx⟩:=je hlt;have hw:IntKind.i64.wrap ((k:Int)+1)=((k+1:Nat):Int):=jg (by omega) (by omega)
  simp only [go_sem,jc,jd,ja,ju,jy,hlt'];refine jq (fun i:Nat=>St.of [(2,Ro (jv l)),(3,Bx 300 b3),(4,Bx 400 b4),(7,Ni k),(8,Ni (zo r.id k (l.take i))),(9,Ni i)] [(300,Bi b3 _ (jc y)),(400,Bi b4 _ (jd r))]) (fun i=>i≤l.length∧(x.state=2→∀e∈l.take i,e.run=r.id→e.task=k→e.prio=r.plan.prio)) (fun i=>l.length-i) 0 (by (try dsimp only);first|omega|(simp;done)|(and_intros<;>first|omega|simp)) (jl [some 300,some 400] (by simp only [go_sem,jc,jd,ja,ju,jy,List.take_zero,zo,List.filter_nil,List.length_nil]<;>and_intros<;>first|rfl|assumption|trivial)) ?_
  rintro j ⟨hj,hjo⟩;by_cases hjl:j<l.length
  ·as_aux_lemma=>
    have hjl':(j:Int)<l.length:=by omega
    obtain ⟨e,he⟩:=je hjl;have hwj:IntKind.i64.wrap ((j:Int)+1)=((j+1:Nat):Int):=jg (by omega) (by omega)
    have hcl:=jx1 (l.take j) r.id k;rw [List.length_take] at hcl;have hwc:IntKind.i64.wrap ((zo r.id k (l.take j):Int)+1)=((zo r.id k (l.take j)+1:Nat):Int):=jg (by omega) (by omega)
    have hnx:¬(e.run=r.id∧e.task=k)→(x.state=2→∀e∈l.take (j+1),e.run=r.id→e.task=k→e.prio=r.plan.prio):=fun hno h2 e2 he2 h3 h4=>by
     rw [List.take_add_one,he] at he2;rcases List.mem_append.1 he2 with he2|he2
     ·exact hjo h2 e2 he2 h3 h4
     ·simp at he2;subst he2;exact absurd ⟨h3,h4⟩ hno
    simp only [go_sem,jc,jd,ja,ju,jy,hjl,hjl',ke he];cases hr:e.run==r.id
    ·have hs:=js2 (id:=r.id) (t:=k) he (fun h=>by have:=h.1;simp [this] at hr)
     simp only [go_sem,jc,jd,ja,ju,jy,hjl,hjl',ke he,hr,hwj];exact ⟨j+1,⟨hjl,hnx (fun h=>by have:=h.1;simp [this] at hr)⟩,(jl [some 300,some 400] (by simp only [go_sem,jc,jd,ja,ju,jy,hs]<;>and_intros<;>first|rfl|assumption|trivial)),by (try dsimp only);omega⟩
    have hr':e.run=r.id:=by simpa using hr
    cases htk:e.task==(k:Int)
    ·have hs:=js2 (id:=r.id) (t:=k) he (fun h=>by have:=h.2;simp [this] at htk)
     simp only [go_sem,jc,jd,ja,ju,jy,hjl,hjl',ke he,hr,htk,hwj];exact ⟨j+1,⟨hjl,hnx (fun h=>by have:=h.2;simp [this] at htk)⟩,(jl [some 300,some 400] (by simp only [go_sem,jc,jd,ja,ju,jy,hs]<;>and_intros<;>first|rfl|assumption|trivial)),by (try dsimp only);omega⟩
    have htk':e.task=k:=by simpa using htk
    have hs:=jvf he hr' htk';simp only [go_sem,jc,jd,ja,ju,jy,hjl,hjl',ke he,hr,htk,hwc,hlt,hlt',h0k,kb hx];cases h2:x.state==2
    ·simp only [go_sem,jc,jd,ja,ju,jy,hjl,hjl',ke he,h2,hwj,hwc]
     exact ⟨j+1,⟨hjl,fun h=>by simp [h] at h2⟩,(jl [some 300,some 400] (by simp only [go_sem,jc,jd,ja,ju,jy,hs]<;>and_intros<;>first|rfl|assumption|trivial)),by (try dsimp only);omega⟩
    have h2':x.state=2:=by simpa using h2
    cases hp:e.prio !=r.plan.prio
    ·have hp':e.prio=r.plan.prio:=by simpa using hp
     simp only [go_sem,jc,jd,ja,ju,jy,hjl,hjl',ke he,h2,hp,hwj,hwc];exact ⟨j+1,⟨hjl,fun _ e2 he2 h3 h4=>by rw [List.take_add_one,he] at he2;rcases List.mem_append.1 he2 with he2|he2;exact hjo h2' e2 he2 h3 h4;simp at he2;subst he2;exact hp'⟩,(jl [some 300,some 400] (by simp only [go_sem,jc,jd,ja,ju,jy,hs]<;>and_intros<;>first|rfl|assumption|trivial)),by (try dsimp only);omega⟩
    ·have hb:jaH y r l=false:=jjJ fun h=>by
      have:=((h k x hx).1 h2').1 e (List.mem_of_getElem? he) hr' htk';simp [this] at hp
     simp only [go_sem,jc,jd,ja,ju,jy,hjl,hjl',ke he,h2,hp,hb]
  as_aux_lemma=>
   have hjl':¬(j:Int)<l.length:=by omega
   rw [List.take_of_length_le (by omega)] at hjo
   rw [List.take_of_length_le (by omega)]
   have hnx2:jnz y r l k x→∀(t:Nat) (z:Tk),t<k+1→r.tasks[t]?=some z→jnz y r l t z:=fun h t z ht hz=>by
    rcases Nat.lt_or_ge t k with h'|h'
    ·exact hko t z h' hz
    ·obtain rfl:t=k:=by omega
     rw [hx] at hz;cases hz;exact h
   cases h2:x.state==2;rotate_left
   ·have h2':x.state=2:=by simpa using h2
    have h3:(x.state==3)=false:=by simp [h2']
    cases hc:((zo r.id k l:Nat):Int) !=1
    ·as_aux_lemma=>
      have hc':zo r.id k l=1:=by have:((zo r.id k l:Nat):Int)=1:=by simpa only [bne_eq_false_iff_eq] using hc
                                 omega
      simp only [go_sem,jc,jd,ja,ju,jy,hjl',hlt,hlt',h0k,kb hx,h2,hc,h3,hw];exact ⟨k+1,⟨hlt,hnx2 ⟨fun _=>⟨hjo h2',hc'⟩,fun h=>by omega⟩⟩,(jl [some 300,some 400] (by simp only [go_sem,jc,jd,ja,ju,jy]<;>and_intros<;>first|rfl|assumption|trivial)),by (try dsimp only);omega⟩
    ·as_aux_lemma=>
      have hb:jaH y r l=false:=jjJ fun h=>by
       have:=((h k x hx).1 h2').2;rw [this] at hc;cases hc
      simp only [go_sem,jc,jd,ja,ju,jy,hjl',hlt,hlt',h0k,kb hx,h2,hc,hb]
   ·have h2':¬x.state=2:=by simpa using h2
    cases h3:x.state==3
    ·as_aux_lemma=>
      have h3':¬x.state=3:=by simpa using h3
      simp only [go_sem,jc,jd,ja,ju,jy,hjl',hlt,hlt',h0k,kb hx,h2,h3,hw];exact ⟨k+1,⟨hlt,hnx2 ⟨fun h=>absurd h h2',fun h=>absurd h h3'⟩⟩,(jl [some 300,some 400] (by simp only [go_sem,jc,jd,ja,ju,jy]<;>and_intros<;>first|rfl|assumption|trivial)),by (try dsimp only);omega⟩
    ·have h3':x.state=3:=by simpa using h3
     as_aux_lemma=>
      simp only [go_sem,jc,jd,ja,ju,jy,hjl',hlt,hlt',h0k,kb hx,h2,h3,hwn,hww];refine jb (jw x.til (y.now+1) (y.now+r.plan.wait)) (by simp only [go_sem,jc,jd,ja,ju,jy,hwn,hww]) fun η=>?_
      simp only [go_sem,jc,jd,ja,ju,jy,hwn,hww];cases ht:decide (y.now+1≤x.til∧x.til≤y.now+r.plan.wait)
      ·have hb:jaH y r l=false:=jjJ fun h=>by
        have:=(h k x hx).2 h3';simp [this] at ht
       simp only [go_sem,jc,jd,ja,ju,jy,ht,hb]
      ·have ht':y.now+1≤x.til∧x.til≤y.now+r.plan.wait:=of_decide_eq_true ht
       simp only [go_sem,jc,jd,ja,ju,jy,ht,hw];exact ⟨k+1,⟨hlt,hnx2 ⟨fun h=>absurd h h2',fun _=>ht'⟩⟩,(jl [some 300,some 400] (by simp only [go_sem,jc,jd,ja,ju,jy]<;>and_intros<;>first|rfl|assumption|trivial)),by (try dsimp only);omega⟩
 have hlt':¬(k:Int)<r.tasks.length:=by omega
 have hb:jaH y r l=true:=jk8 fun t x hx=>hko t x (by have:=(List.getElem?_eq_some_iff.1 hx).1;omega) hx
 simp only [go_sem,jc,jd,ja,ju,jy,hlt',hb]
def jaa:C:=iS [iA 1 (.box 42 4 (.t 0)),iA 2 (iO false)] (.seq (iS [iA 7 (iF 2 1),iA 8 (iL 7),iA 9 (iG 8),iA 10 (iQ .neq 3 9 4)] (iD 10 (iS [iA 2 (iO false)] .ret) .skip)) (.seq (iS [iA 3 (iN 0)] (.blk 0 (.loop (.seq (iS [iA 11 (iM 3),iA 12 (iF 2 1),iA 13 (iL 12),iA 14 (iG 13),iA 15 (iP .lss 3 11 14)] (iD 15 .skip (.exit 0))) (.seq (.blk 1 (iS [iA 18 (iF 2 1),iA 19 (iL 18),iA 20 (iM 3),iA 21 (iI 1 19 20),iA 22 (iL 21),iA 23 (.call 110 [.t 22]),iA 24 (iU 23)] (iD 24 (iS [iA 2 (iO false)] .ret) .skip))) (.reg [iA 16 (iM 3),iA 17 (iQ .add 3 16 1),iA 3 (iM 17)])))))) (iS [iA 25 (iT 4 1),iA 26 (.call 83 [.t 25]),iA 4 (iM 26)] (.seq (iS [iA 5 (iN 0)] (.blk 2 (.loop (.seq (iS [iA 27 (iM 5),iA 28 (iM 4),iA 29 (iG 28),iA 30 (iP .lss 3 27 29)] (iD 30 .skip (.exit 2))) (.seq (.blk 3 (.seq (.seq (.dreg (T.pure 0 (iA 33 (iM 4)) (T.pure 1 (iA 34 (iM 5)) (T.pure 2 (iA 35 (iI 4 33 34)) (T.pure 3 (iA 36 (iF 1 35)) (T.pure 4 (iA 37 (iL 36)) (T.pure 5 (iA 38 (iF 1 1)) (T.pure 6 (iA 39 (iL 38)) (T.pure 7 (iA 40 (iQ .sub 3 39 1)) (T.alt (iA 41 (.call 66 [.t 37,.c (.int .i64 1),.t 40])) [] (T.pure 9 (iA 42 (iU 41)) T.done) T.stop)))))))))) (iD 42 (iS [iA 2 (iO false)] .ret) .skip)) (iS [iA 6 (iN 0)] (.blk 4 (.loop (.seq (iS [iA 43 (iM 6),iA 44 (iM 5),iA 45 (iP .lss 3 43 44)] (iD 45 .skip (.exit 4))) (.seq (.blk 5 (.seq (.dreg (T.pure 0 (iA 48 (iM 4)) (T.pure 1 (iA 49 (iM 6)) (T.pure 2 (iA 50 (iI 4 48 49)) (T.pure 3 (iA 51 (iF 1 50)) (T.pure 4 (iA 52 (iL 51)) (T.pure 5 (iA 53 (iM 4)) (T.pure 6 (iA 54 (iM 5)) (T.pure 7 (iA 55 (iI 4 53 54)) (T.pure 8 (iA 56 (iF 1 55)) (T.pure 9 (iA 57 (iL 56)) (T.pure 10 (iA 58 (iP .eql 3 52 57)) T.done)))))))))))) (iD 58 (iS [iA 2 (iO false)] .ret) .skip))) (.reg [iA 46 (iM 6),iA 47 (iQ .add 3 46 1),iA 6 (iM 47)])))))))) (.reg [iA 31 (iM 5),iA 32 (iQ .add 3 31 1),iA 5 (iM 32)])))))) (iS [iA 2 (iO true)] .ret)))))
theorem jch:fnC Try.prog Try.f80=some (jaa,[.t 2],59):=by kernel_rfl
def jen:C:=iS [iA 1 (.box 42 4 (.t 0)),iA 2 (iO false)] (.seq (iS [iA 6 (iF 0 1),iA 7 (iL 6),iA 8 (.call 66 [.t 7,.c (.int .i64 0),.c (.int .i64 999999980)]),iA 9 (iU 8),iA 10 (iM 9),iB 11 10 false (iF 1 1),iB 12 10 false (iL 11),iB 13 10 false (.call 66 [.t 12,.c (.int .i64 1),.c (.int .i64 1000000000)]),iB 14 10 false (iU 13),iA 15 (.pick (.t 10) (.c (.bool true)) (.t 14)),iA 16 (iM 15),iB 17 16 false (iF 3 1),iB 18 16 false (iL 17),iB 19 16 false (iG 18),iB 20 16 false (iQ .gtr 3 19 8),iA 21 (.pick (.t 16) (.c (.bool true)) (.t 20)),iA 22 (iM 21),iB 23 22 false (iT 4 1),iB 24 22 false (.call 80 [.t 23]),iB 25 22 false (iU 24),iA 26 (.pick (.t 22) (.c (.bool true)) (.t 25))] (iD 26 (iS [iA 2 (iO false)] .ret) .skip)) (.seq (iS [iA 3 (iN 0)] (.blk 0 (.loop (.seq (iS [iA 27 (iM 3),iA 28 (iF 3 1),iA 29 (iL 28),iA 30 (iG 29),iA 31 (iP .lss 3 27 30)] (iD 31 .skip (.exit 0))) (.seq (.blk 1 (.seq (.dreg (T.pure 0 (iA 34 (iF 3 1)) (T.pure 1 (iA 35 (iL 34)) (T.pure 2 (iA 36 (iM 3)) (T.pure 3 (iA 37 (iI 8 35 36)) (T.pure 4 (iA 38 (iT 8 37)) (T.alt (iA 39 (.call 81 [.t 38])) [] (T.pure 6 (iA 40 (iU 39)) (T.pure 7 (iA 41 (iM 40)) (T.pure 8 (iB 42 41 false (iT 4 1)) (T.pure 9 (iB 43 41 false (iF 3 1)) (T.pure 10 (iB 44 41 false (iL 43)) (T.pure 11 (iB 45 41 false (iM 3)) (T.pure 12 (iB 46 41 false (iI 8 44 45)) (T.pure 13 (iB 47 41 false (iF 0 46)) (T.pure 14 (iB 48 41 false (iL 47)) (T.pure 16 (iB 50 41 false (iM 3)) (T.alt (iB 49 41 false (.call 82 [.t 42,.t 48])) [16] (T.pure 17 (iB 51 41 false (iP .neq 3 49 50)) (T.pure 18 (iA 52 (.pick (.t 41) (.c (.bool true)) (.t 51))) T.done)) T.stop))))))))))) T.stop))))))) (iD 52 (iS [iA 2 (iO false)] .ret) .skip))) (.reg [iA 32 (iM 3),iA 33 (iQ .add 3 32 1),iA 3 (iM 33)])))))) (iS [iA 53 (iT 4 1),iA 54 (.call 83 [.t 53]),iA 4 (iM 54)] (.seq (iS [iA 5 (iN 0)] (.blk 2 (.loop (.seq (iS [iA 55 (iM 5),iA 56 (iF 3 1),iA 57 (iL 56),iA 58 (iG 57),iA 59 (iP .lss 3 55 58)] (iD 59 .skip (.exit 2))) (.seq (.blk 3 (.seq (.dreg (T.pure 0 (iA 62 (iT 4 1)) (T.pure 1 (iA 63 (iF 3 1)) (T.pure 2 (iA 64 (iL 63)) (T.pure 3 (iA 65 (iM 5)) (T.pure 4 (iA 66 (iI 8 64 65)) (T.pure 5 (iA 67 (iT 8 66)) (T.pure 6 (iA 68 (iM 4)) (T.alt (iA 69 (.call 84 [.t 62,.t 67,.t 68])) [] (T.pure 8 (iA 70 (iU 69)) T.done) T.stop))))))))) (iD 70 (iS [iA 2 (iO false)] .ret) .skip))) (.reg [iA 60 (iM 5),iA 61 (iQ .add 3 60 1),iA 5 (iM 61)])))))) (iS [iA 71 (iT 4 1),iA 72 (.call 85 [.t 71]),iA 73 (iQ .leq 3 72 40),iA 2 (iM 73)] .ret)))))
theorem jgo:fnC Try.prog Try.f45=some (jen,[.t 2],74):=by kernel_rfl
theorem kF (y:Yd) (id:Int):kl Try.prog 82 [.agg (jc y),.c (.val (.int .i64 id))] (.c (.val (.int .i64 (runAt y id)))):=jrF ⟨_,Try.func82,by kernel_rfl,by kernel_rfl⟩ fun w a b ⟨S,ha⟩ hb=>by rw [jbU hb];exact zr y id a S w false ha
theorem jin (y:Yd) (ht:jS y≤2000000):kl Try.prog 85 [.agg (jc y)] (.c (.val (.int .i64 (qF y)))):=pure1 ⟨_,Try.func85,by kernel_rfl,by kernel_rfl⟩ fun w a ⟨S,ha⟩=>jiW y a S w false ha ht
structure jgV (y:Yd):Prop where
 four:y.shelf.length=4
 shelves:∀l∈y.shelf,jic l
 seqs:SeqP y.seq y.shelf.flatten
open Classical in
noncomputable def qn (y:Yd):Bool:=decide (jgV y)
theorem jg3 {y:Yd} (h:jgV y):qn y=true:=by simp [qn,h]
theorem jbY {y:Yd} (h:¬jgV y):qn y=false:=by simp [qn,h]
theorem shelves_iff {y:Yd}:qn y=true↔jgV y:=by simp [qn]
theorem jq8 {y:Yd} (ht:jS y≤2000000) {l:List En} (h:l∈y.shelf):l.length≤4000000:=by
 obtain ⟨k,hk,rfl⟩:=List.getElem_of_mem h;have h1:=jlQ (List.getElem?_eq_getElem hk);have h2:=jfX y.shelf (k+1);have h3:=zO ht;rw [h1,List.length_append] at h2;omega
theorem jeR (y:Yd) (ht:jS y≤2000000) (hq:1≤y.seq∧y.seq≤1000000000):kl Try.prog 80 [.agg (jc y)] (.c (.val (.bool (qn y)))):=by
 refine jr Try.func80 jch (by simp) ?_
 unfold jaa;have hsf:=zO ht;have hws:IntKind.i64.wrap (y.seq-1)=y.seq-1:=jg (by omega) (by omega)
 simp only [go_sem,jc];intro b;cases h4:(y.shelf.length:Int) !=4;rotate_left
 ·have hb:qn y=false:=jbY fun h=>by have:=h.four;rw [this] at h4;cases h4
  simp only [go_sem,jc,h4,hb]
 have h4':y.shelf.length=4:=by have:(y.shelf.length:Int)=4:=by simpa only [bne_eq_false_iff_eq] using h4
                               omega
 simp only [go_sem,jc,h4];refine jq (fun i:Nat=>St.of [(1,Bx 100 b),(3,Ni i)] [(100,Bi b _ (jc y))]) (fun i=>i≤y.shelf.length∧∀l∈y.shelf.take i,jic l) (fun i=>y.shelf.length-i) 0 (by (try dsimp only);first|omega|(simp;done)|(and_intros<;>first|omega|simp)) (jl [some 100] (by simp only [go_sem,jc]<;>and_intros<;>first|rfl|assumption|trivial)) ?_
 rintro k ⟨hk,hko⟩;by_cases hlt:k<y.shelf.length
 ·have hlt':(k:Int)<y.shelf.length:=by omega
  obtain ⟨l,hl⟩:=je hlt;have hlm:=List.mem_of_getElem? hl;have hw:IntKind.i64.wrap ((k:Int)+1)=((k+1:Nat):Int):=jg (by omega) (by omega)
  simp only [go_sem,jc,hlt,hlt',vm hl];refine jb (jio l (jq8 ht hlm)) (by simp only [go_sem,jc]) fun η=>?_
  simp only [go_sem,jc];cases hs:jbd l
  ·have hb:qn y=false:=jbY fun h=>by have:=jk0 (h.shelves l hlm);rw [hs] at this;cases this
   simp only [go_sem,jc,hs,hb]
  ·simp only [go_sem,jc,hs,hw]
   exact ⟨k+1,⟨hlt,fun l2 h2=>by rw [List.take_add_one,hl] at h2;rcases List.mem_append.1 h2 with h2|h2;exact hko l2 h2;simp at h2;subst h2;exact shelf_iff.1 hs⟩,(jl [some 100] (by simp only [go_sem,jc]<;>and_intros<;>first|rfl|assumption|trivial)),by (try dsimp only);omega⟩
 have hlt':¬(k:Int)<y.shelf.length:=by omega
 rw [List.take_of_length_le (by omega)] at hko
 simp only [go_sem,jc,hlt'];refine jb (zS y ht) (by simp only [go_sem,jc]) fun ηe=>?_
 simp only [go_sem,jc];generalize hF:y.shelf.flatten=F at*;refine jq (fun i:Nat=>St.of [(1,Bx 100 b),(4,Hd 4 (ηe 0)),(5,Ni i)] [(100,Bi b _ (jc y)),(4,.loose (jv F) (ηe 0))]) (fun i=>i≤F.length∧(∀e∈F.take i,1≤e.seq∧e.seq≤y.seq-1)∧((F.take i).map (·.seq)).Nodup) (fun i=>F.length-i) 0 (by (try dsimp only);first|omega|(simp;done)|(and_intros<;>first|omega|simp)) (jl [some 100,some 2600] (by simp only [go_sem,jc]<;>and_intros<;>first|rfl|assumption|trivial)) ?_
 rintro j ⟨hj,hjo,hjd⟩;by_cases hjl:j<F.length
 ·have hjl':(j:Int)<F.length:=by omega
  have h0j:(j:Int)≥0:=by omega
  obtain ⟨e,he⟩:=je hjl;have hw:IntKind.i64.wrap ((j:Int)+1)=((j+1:Nat):Int):=jg (by omega) (by omega)
  simp only [go_sem,jc,hjl,hjl',h0j,jmm he,jlG he,hws];refine jb (jw e.seq 1 (y.seq-1)) (by simp only [go_sem,jc]) fun η=>?_
  simp only [go_sem,jc];cases hr:decide (1≤e.seq∧e.seq≤y.seq-1)
  ·have hb:qn y=false:=jbY fun h=>by
    have:=h.seqs.range e (by rw [hF];exact List.mem_of_getElem? he)
    simp [this] at hr
   simp only [go_sem,jc,hr,hb]
  have hr':1≤e.seq∧e.seq≤y.seq-1:=of_decide_eq_true hr;simp only [go_sem,jc,hr];refine jq (fun i:Nat=>St.of [(1,Bx 100 b),(4,Hd 4 (ηe 0)),(5,Ni j),(6,Ni i)] [(100,Bi b _ (jc y)),(4,.loose (jv F) (ηe 0))]) (fun i=>i≤j∧∀e2∈F.take i,e2.seq≠e.seq) (fun i=>j-i) 0 (by (try dsimp only);first|omega|(simp;done)|(and_intros<;>first|omega|simp)) (jl [some 100,some 4] (by simp only [go_sem,jc]<;>and_intros<;>first|rfl|assumption|trivial)) ?_
  rintro m ⟨hm,hmo⟩;by_cases hml:m<j
  ·have hml':(m:Int)<j:=by omega
   have h0m:(m:Int)≥0:=by omega
   have hml2:m<F.length:=by omega
   obtain ⟨e2,he2⟩:=je hml2;have hwm:IntKind.i64.wrap ((m:Int)+1)=((m+1:Nat):Int):=jg (by omega) (by omega)
   cases hse:e2.seq==e.seq
   ·have hse':¬e2.seq=e.seq:=by simpa using hse
    simp only [go_sem,jc,hml',hml2,h0m,hjl,h0j,jmm he,jlG he,jmm he2,jlG he2,hse,hwm];exact ⟨m+1,⟨hml,fun e3 h3=>by rw [List.take_add_one,he2] at h3;rcases List.mem_append.1 h3 with h3|h3;exact hmo e3 h3;simp at h3;subst h3;exact hse'⟩,(jl [some 100,some 4] (by simp only [go_sem,jc]<;>and_intros<;>first|rfl|assumption|trivial)),by (try dsimp only);omega⟩
   ·have hse':e2.seq=e.seq:=by simpa using hse
    have hb:qn y=false:=jbY fun h=>jwz he hml he2 hse' (by rw [←hF];exact h.seqs.apart)
    simp only [go_sem,jc,hml',hml2,h0m,hjl,h0j,jmm he,jlG he,jmm he2,jlG he2,hse,hb]
  ·have hml':¬(m:Int)<j:=by omega
   obtain rfl:m=j:=by omega
   simp only [go_sem,jc,hml',hw];exact ⟨m+1,⟨hjl,fun e2 h2=>by rw [List.take_add_one,he] at h2;rcases List.mem_append.1 h2 with h2|h2;exact hjo e2 h2;simp at h2;subst h2;exact hr',jwy he hjd hmo⟩,(jl [some 100,some 4] (by simp only [go_sem,jc]<;>and_intros<;>first|rfl|assumption|trivial)),by (try dsimp only);omega⟩
 have hjl':¬(j:Int)<F.length:=by omega
 rw [List.take_of_length_le (by omega)] at hjo hjd
 have hb:qn y=true:=jg3 ⟨h4',hko,by rw [hF];exact ⟨hjo,hjd⟩⟩
 simp only [go_sem,hjl',hb]
theorem kE (y:Yd) (ht:jS y≤2000000):kl Try.prog 45 [.agg (jc y)] (.c (.val (.bool (jJ y)))):=by
 refine jr Try.func45 jgo (by simp) ?_
 unfold jen;have hsf:=zO ht;have hrl:=jmE ht;simp only [go_sem,jc];intro b;refine jb (jw y.now 0 999999980) (by simp only [go_sem,jc]) fun η=>?_
 simp only [go_sem,jc];cases h1:decide (0≤y.now∧y.now≤999999980)
 ·have hb:jJ y=false:=ja5 fun h=>by have:=h.now;simp [this] at h1
  simp only [go_sem,jc,h1,hb]
 have hnow:=of_decide_eq_true h1;simp only [go_sem,jc,h1];refine jb (jw y.seq 1 1000000000) (by simp only [go_sem,jc]) fun η=>?_
 simp only [go_sem,jc];cases h2:decide (1≤y.seq∧y.seq≤1000000000)
 ·have hb:jJ y=false:=ja5 fun h=>by have:=h.seq;simp [this] at h2
  simp only [go_sem,jc,h2,hb]
 have hseq:=of_decide_eq_true h2;by_cases h8:8<y.runs.length
 ·have h8':(y.runs.length:Int)>8:=by omega
  have hb:jJ y=false:=ja5 fun h=>by have:=h.eight;omega
  simp only [go_sem,jc,h2,h8',hb]
 have h8':¬(y.runs.length:Int)>8:=by omega
 simp only [go_sem,jc,h2,h8'];refine jb (jeR y ht hseq) (by simp only [go_sem,jc]) fun η=>?_
 simp only [go_sem,jc];cases hsh:qn y
 ·have hb:jJ y=false:=ja5 fun h=>by have:=jg3 ⟨h.four,h.shelves,h.seqs⟩;rw [hsh] at this;cases this
  simp only [go_sem,jc,hsh,hb]
 have hshP:=shelves_iff.1 hsh;simp only [go_sem,jc,hsh];refine jq (fun i:Nat=>St.of [(1,Bx 100 b),(3,Ni i)] [(100,Bi b _ (jc y))]) (fun i=>i≤y.runs.length∧∀(k:Nat) (r:Rn),k<i→y.runs[k]?=some r→RunOkP r∧runAt y r.id=k) (fun i=>y.runs.length-i) 0 (by (try dsimp only);first|omega|(simp;done)|(and_intros<;>first|omega|simp)) (jl [some 100] (by simp only [go_sem,jc]<;>and_intros<;>first|rfl|assumption|trivial)) ?_
 rintro k ⟨hk,hko⟩;by_cases hlt:k<y.runs.length
 ·have hlt':(k:Int)<y.runs.length:=by omega
  obtain ⟨r,hr⟩:=je hlt;have hw:IntKind.i64.wrap ((k:Int)+1)=((k+1:Nat):Int):=jg (by omega) (by omega)
  simp only [go_sem,jc,hlt,hlt',kr hr,jd,ja];refine jb (jbn r) (by simp only [go_sem,jc,jd,ja]) fun η=>?_
  simp only [go_sem,jc,jd,ja];cases hs:qu r
  ·have hb:jJ y=false:=ja5 fun h=>by have:=runOk_iff.2 (h.right r (List.mem_of_getElem? hr));rw [hs] at this;cases this
   simp only [go_sem,jc,hs,hb]
  simp only [go_sem,jc,hs,hlt,hlt',kr hr,jd,ja];refine jb (kF y r.id) (by simp only [go_sem,jc]) fun η=>?_
  simp only [go_sem,jc];cases hat:runAt y r.id !=(k:Int)
  ·have hat':runAt y r.id=k:=by simpa using hat
   simp only [go_sem,jc,hat,hw];exact ⟨k+1,⟨hlt,fun k2 r2 h2 hr2=>by rcases Nat.lt_or_ge k2 k with h'|h';exact hko k2 r2 h' hr2;obtain rfl:k2=k:=(by omega);rw [hr] at hr2;cases hr2;exact ⟨runOk_iff.1 hs,hat'⟩⟩,(jl [some 100] (by simp only [go_sem,jc]<;>and_intros<;>first|rfl|assumption|trivial)),by (try dsimp only);omega⟩
  ·have hb:jJ y=false:=ja5 fun h=>by have:=h.place k r hr;simp [this] at hat
   simp only [go_sem,jc,hat,hb]
 have hlt':¬(k:Int)<y.runs.length:=by omega
 have hall:∀(k:Nat) (r:Rn),y.runs[k]?=some r→RunOkP r∧runAt y r.id=k:=fun k r h=>hko k r (by have:=(List.getElem?_eq_some_iff.1 h).1;omega) h
 simp only [go_sem,jc,hlt'];refine jb (zS y ht) (by simp only [go_sem,jc]) fun ηe=>?_
 simp only [go_sem,jc];generalize hF:y.shelf.flatten=F at*;refine jq (fun i:Nat=>St.of [(1,Bx 100 b),(4,Hd 4 (ηe 0)),(5,Ni i)] [(100,Bi b _ (jc y)),(4,.loose (jv F) (ηe 0))]) (fun i=>i≤y.runs.length∧∀(k:Nat) (r:Rn),k<i→y.runs[k]?=some r→jqq y r F) (fun i=>y.runs.length-i) 0 (by (try dsimp only);first|omega|(simp;done)|(and_intros<;>first|omega|simp)) (jl [some 100,some 5400] (by simp only [go_sem,jc]<;>and_intros<;>first|rfl|assumption|trivial)) ?_
 rintro j ⟨hj,hjo⟩;by_cases hjl:j<y.runs.length
 ·have hjl':(j:Int)<y.runs.length:=by omega
  obtain ⟨r,hr⟩:=je hjl;have hw:IntKind.i64.wrap ((j:Int)+1)=((j+1:Nat):Int):=jg (by omega) (by omega)
  have hrP:=(hall j r hr).1;obtain ⟨n,hn,hn1,h12,h30,hes,hnd,-,-,hwt⟩:=jgL hrP.plan;have hlen:=hrP.len;simp only [go_sem,jc,hjl,hjl',kr hr,jd,ja];refine jb (jjS y r F (by omega) (by omega) hnow hwt) (by simp only [go_sem,jc,jd,ja]) fun η=>?_
  simp only [go_sem,jc,jd,ja];cases hs:jaH y r F
  ·have hb:jJ y=false:=ja5 fun h=>by have:=jk8 (h.runs r (List.mem_of_getElem? hr));rw [hF,hs] at this;cases this
   simp only [go_sem,jc,hs,hb]
  ·simp only [go_sem,jc,hs,hw]
   exact ⟨j+1,⟨hjl,fun k2 r2 h2 hr2=>by rcases Nat.lt_or_ge k2 j with h'|h';exact hjo k2 r2 h' hr2;obtain rfl:k2=j:=(by omega);rw [hr] at hr2;cases hr2;exact runIn_iff.1 hs⟩,(jl [some 100,some 4] (by simp only [go_sem,jc]<;>and_intros<;>first|rfl|assumption|trivial)),by (try dsimp only);omega⟩
 have hjl':¬(j:Int)<y.runs.length:=by omega
 simp only [go_sem,jc,hjl'];refine jb (jin y ht) (by simp only [go_sem,jc]) fun η=>?_
 simp only [go_sem,jc]
 have hb:jJ y=decide (qF y≤40):=by
  by_cases h40:qF y≤40
  ·rw [jdx ⟨hnow,hseq,hshP.four,by omega,hshP.shelves,hshP.seqs,fun r hr=>by obtain ⟨k,hk,rfl⟩:=List.getElem_of_mem hr;exact (hall k _ (List.getElem?_eq_getElem hk)).1,fun k r hr=>(hall k r hr).2,fun r hr=>by obtain ⟨k,hk,rfl⟩:=List.getElem_of_mem hr;rw [hF];exact hjo k _ (by omega) (List.getElem?_eq_getElem hk),h40⟩]
   simp [h40]
  ·rw [ja5 fun h=>h40 h.slots];simp [h40]
 simp only [go_sem,hb]
end Go.Proofs.Ytmnpailnelmpiaa
