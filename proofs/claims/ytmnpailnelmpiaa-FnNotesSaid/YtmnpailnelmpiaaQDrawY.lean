/- Parts. -/
import Derived.Test.YtmnpailnelmpiaaQDrawH
set_option linter.unusedSimpArgs false
set_option linter.unusedVariables false
set_option maxHeartbeats 16000000
set_option maxRecDepth 100000
namespace Go.Proofs.Ytmnpailnelmpiaa
open Go.RowKit Go.Sort
theorem jhk:kl Try.prog 125 [] (.agg (jc newYd)):=jrG ⟨_,Try.func125,by kernel_rfl,by kernel_rfl⟩ fun w=>jpg w
section
variable {s:St} {K:St→Prop}
theorem jwf {o':Nat→Ob} (h:jvx o' s.o) (hk:WkK ⟨s.t,o'⟩ K):WkK s K:=fun B N w0 w a F hr=>by
 obtain ⟨F',h1,_⟩:=hr.less h;exact hk B N w0 w a F' h1
theorem jtM (g:Nat) (hk:WkK ⟨s.t,fun j=>if j=g then .none else s.o j⟩ K):WkK s K:=jwf (fun j=>by
 by_cases e:j=g
 ·rw [if_pos e];exact .inr rfl
 ·rw [if_neg e];exact .inl rfl) hk
theorem jwX {a n k g c b ty:Nat} {x:A0} {cs:List Cell} {K:AV→(Nat→Ob)→Prop} (ha:s.t a=.c x) (hn:s.t n=.c (.bp g c b)) (ho:s.o g=.box b ty cs) (hl:c+k≤cs.length) (h:K (.tup [(false,[x]),(true,jdS g c ((cs.drop c).take k))]) s.o):jtI [.t a,.cell n true k] K s:=by
 simp only [jtI,jgK,ha,hn];exact ⟨_,⟨ty,cs,ho,hl,rfl⟩,.inl trivial,h⟩
end
abbrev ddH (d:Dd) (x:Value):List D:=[.val (.int .i64 d.kind),.val (.int .i64 d.run),.val (.int .i64 d.plan.prio),.val (.int .i64 d.plan.most),.val (.int .i64 d.plan.wait),.val (.int .i64 d.plan.tasks),jm0 (some (2,tEd)) x,.val (.int .i64 d.task),.val (.int .i64 d.tri),.val (.int .i64 d.worker),.val (.int .i64 d.draw)]
abbrev DdRH (b ty:Nat) (d:Dd) (x:Value):Ob:=.box b ty [.a (.v (.int .i64 d.kind)),.a (.v (.int .i64 d.run)),.a (.v (.int .i64 d.plan.prio)),.a (.v (.int .i64 d.plan.most)),.a (.v (.int .i64 d.plan.wait)),.a (.v (.int .i64 d.plan.tasks)),.a (.v x),.a (.v (.int .i64 d.task)),.a (.v (.int .i64 d.tri)),.a (.v (.int .i64 d.worker)),.a (.v (.int .i64 d.draw))]
theorem jhL (l:List Dd):(l.flatMap jf).length=l.length*11:=jG (enc:=jf) (size:=11) (fun _=>rfl) l
theorem jzU (l:List Dd) (row:List D) (j:Nat):(l.flatMap jf++row)[l.length*11+j]?=row[j]?:=by
 rw [List.getElem?_append_right (by rw [jhL];omega),jhL,Nat.add_sub_cancel_left]
theorem jxT (l:List Dd) (row:List D) (j:Nat) (d:D):(l.flatMap jf++row).set (l.length*11+j) d=l.flatMap jf++row.set j d:=by
 rw [List.set_append_right _ _ (by rw [jhL];omega),jhL,Nat.add_sub_cancel_left]
theorem jsX (l:List Dd) (d:Dd):D.sl 11 tDd (l.flatMap jf++jf d)=jcw (l++[d]):=by simp [jcw]
def jbC:C:=iS [iA 4 (.mov (.c (.slice none 0 0))),iA 5 (.alloc 42 [.int .i64 0,.int .i64 0,.slice none 0 0,.slice none 0 0])] (iS [iA 10 (.call 125 []),iA 6 (.alloc 42 [.int .i64 0,.int .i64 0,.slice none 0 0,.slice none 0 0]),iC (.st 4 [none,none,some (1,74),some (8,78)] (.t 6) (.t 10))] (iS [iA 11 (.bsl 26 11 0 [] []),iA 7 (iM 11)] (.seq (iS [iA 8 (iN 0)] (.blk 0 (.loop (.seq (iS [iA 12 (iM 8),iA 13 (iM 1),iA 14 (iP .lss 3 12 13)] (iD 14 .skip (.exit 0))) (.seq (.blk 1 (iS [iA 17 (iM 0),iA 18 (iT 4 6),iA 19 (.call 126 [.t 17,.t 18]),iA 9 (.alloc 26 [.int .i64 0,.int .i64 0,.int .i64 0,.int .i64 0,.int .i64 0,.int .i64 0,.slice none 0 0,.int .i64 0,.int .i64 0,.int .i64 0,.int .i64 0]),iC (.st 11 [none,none,none,none,none,none,some (2,103),none,none,none,none] (.t 9) (.t 19))] (iS [iA 20 (iM 7),iA 21 (iT 11 9),iA 22 (.bsl 26 11 1 [none,none,none,none,none,none,some (2,103),none,none,none,none] [(0,11,.t 21)]),iA 23 (.app 26 11 104 (.t 20) (.t 22)),iA 7 (iM 23)] (.reg [iA 25 (iT 4 6),iA 26 (iT 11 9),iA 27 (.call 127 [.t 25,.t 26]),iA 24 (iM 27),iA 28 (iE 24 0),iA 29 (iE 24 1),iC (.st 4 [none,none,some (1,74),some (8,78)] (.t 6) (.t 28))])))) (.reg [iA 15 (iM 8),iA 16 (iQ .add 3 15 1),iA 8 (iM 16)])))))) (.seq (.dreg (T.pure 0 (iA 30 (iM 7)) (T.pure 1 (iA 31 (iT 4 6)) (T.pure 2 (iA 4 (iM 30)) (T.alt (iC (.st 4 [none,none,some (1,74),some (8,78)] (.t 5) (.t 31))) [] T.done T.stop))))) .ret))))
theorem jd3:fnC Try.prog Try.f100=some (jbC,[.t 4,.cell 5 true 4],32):=by kernel_rfl
theorem jsq (c:List UInt8) (hc:c.length≤1048576) (m:Nat) (hm:m≤1000) (s:Cu) (b:Nat) (o:Nat→Ob) (hs:s.1≤c.length) (ho:o 89=ku b 125 c s) (h86:o 86=.none) (h94:o 94=.none) (h95:o 95=.none):
 Inl Try.prog 100 [Bx 89 b,Ni m] o fun av o2=>∃(e e2 e3:jm) (b5:Nat),av=.tup [(false,[.h 600000700 0 [] (e [])]),(true,[.v (.int .i64 (qm c m ([],newYd,s)).2.1.now),.v (.int .i64 (qm c m ([],newYd,s)).2.1.seq),.h 600000500 2 [] (e2 []),.h 600000500 3 [] (e3 [])])]∧o2 600000700=.loose (jcw (qm c m ([],newYd,s)).1) e∧
  o2 600000500=ve b5 tYd (qm c m ([],newYd,s)).2.1.now (qm c m ([],newYd,s)).2.1.seq (qm c m ([],newYd,s)).2.1.shelf e2 (qm c m ([],newYd,s)).2.1.runs e3∧o2 89=ku b 125 c (qm c m ([],newYd,s)).2.2∧∀g,g<600000000→g≠89→o2 g=o g:=by
 refine jfV (β:=6000000) [[1,1,1,0,1,0,0,1,0,0,0],[1,1,1,0,1,0,0,1,0,0,1],[1,1,1,0,1,0,0,1,0,0,1,1],[1,1,1,0,1,0,0,1,1],[1,1,1,1,0]] Try.func100 jd3 (by simp) ?_
 unfold jbC;simp only [C.ghs,C.ghAt,List.foldr];simp only [go_sem];intro b5;refine jb (jhk) (by simp only [go_sem,jc]) fun ηn=>?_
 simp only [go_sem,jc];intro b6 η11;generalize hX:qm c m ([],newYd,s)=X at*;refine jq (fun i:(Nat×(List Dd×Yd×Cu))×jm×jm×jm=>St.ofB [(0,Bx 89 b),(1,Ni m),(5,Bx 600000500 b5),(6,Bx 600000600 b6),(7,Hd 600000700 i.2.1),(8,Ni i.1.1)] [(600000500,ZYd b5 tYd),(600000600,ve b6 tYd i.1.2.2.1.now i.1.2.2.1.seq i.1.2.2.1.shelf i.2.2.1 i.1.2.2.1.runs i.2.2.2),(600000700,.loose (jcw i.1.2.1) i.2.1)] 600000000 (fun j=>if j=89 then ku b 125 c i.1.2.2.2 else if j=94 then .none else if j=95 then .none else if j=86 then .none else o j)) (fun i=>i.1.1≤m∧DdsI c i.1.1 i.1.2∧X=qm c (m-i.1.1) i.1.2) (fun i=>m-i.1.1) ((0,([],newYd,s)),η11,ηn 2,ηn 3) (⟨Nat.zero_le _,.start hs,hX.symm⟩) (jR [some 600000500,some 600000600,some 600001100] (by simp only [go_sem,ji9,jc,ho,h86,h94,h95]<;>and_intros<;>first|rfl|assumption|trivial) (fun j hj=>by by_cases e89:j=89<;>by_cases e94:j=94<;>by_cases e95:j=95<;>by_cases e86:j=86<;>simp only [go_sem,e89,e94,e95,e86,hj,if_true,if_false,jp hj 600000500 (by omega),jp hj 600000600 (by omega),jp hj 600001100 (by omega),jp hj 600001002 (by omega),jp hj 600001003 (by omega),ji9,jc,ho,h86,h94,h95]) (by decide)) ?_
 rintro ⟨⟨i,l,y,u⟩,e,e2,e3⟩ ⟨hi,hD,hXi⟩;dsimp only at hi hD hXi;by_cases hlt:i<m;rotate_left
 ·have hlt':¬(i:Int)<(m:Int):=by omega
  have h0:m-i=0:=by omega
  rw [h0,qm] at hXi;subst hXi;simp only [go_sem,hlt'];refine kK (WkK.of ?_);simp only [go_sem];refine jwX (x:=.h 600000700 0 [] (e [])) (g:=600000500) (c:=0) (b:=b5) (ty:=tYd) (cs:=[.a (.v (.int .i64 y.now)),.a (.v (.int .i64 y.seq)),.own (kL y.shelf) e2,.own (jN y.runs) e3]) (by simp only [go_sem]) (by simp only [go_sem]) (by simp only [go_sem]) (by simp) ?_
  simp only [go_sem];refine ⟨e,e2,e3,b5,rfl,rfl,rfl,fun g g1 g2=>?_⟩
  by_cases e94:g=94
  ·subst e94;simp only [go_sem,h94]
  by_cases e95:g=95
  ·subst e95;simp only [go_sem,h95]
  by_cases e86:g=86
  ·subst e86;simp only [go_sem,h86]
  simp only [go_sem,g1,g2,e94,e95,e86,jp g1 600000500 (by omega),jp g1 600000600 (by omega),jp g1 600000700 (by omega),if_true,if_false]
 have hlt':(i:Int)<(m:Int):=by omega
 obtain ⟨f,hf⟩:∃f,m-i=f+1:=⟨m-i-1,by omega⟩
 rw [hf,qm] at hXi;dsimp only at hXi;have hDn:=hD.next;have hat:=hD.at_;have hyI:=hD.yd;have hll:=hD.len;have hdt:=jhP c y u;dsimp only at hDn hat hyI hll;have hyt:=(hyI.ok (by have:=hD.seq;dsimp only at this;omega)).small
 simp only [go_sem,hlt'];refine kK ?_;refine jgW 600000600 2 94 rfl rfl rfl (by decide) (Nat.zero_lt_succ 0) ?_
 refine jgW 600000600 3 95 rfl rfl rfl (by decide) (Nat.zero_lt_succ 7) ?_
 refine WkK.wk (s':=St.ofB [(0,Bx 89 b),(1,Ni m),(5,Bx 600000500 b5),(6,Bx 600000600 b6),(7,Hd 600000700 e),(8,Ni i)] [(600000500,ZYd b5 tYd),(600000600,.box b6 tYd [.a (.v (.int .i64 y.now)),.a (.v (.int .i64 y.seq)),.a (.hs 94 0 [] (e2 []) 1 0 y.shelf.length),.a (.hs 95 0 [] (e3 []) 8 0 y.runs.length)]),(600000700,.loose (jcw l) e)] 600000000 (fun j=>if j=89 then ku b 125 c u else if j=94 then .loose (kL y.shelf) e2 else if j=95 then .loose (jN y.runs) e3 else if j=86 then .none else o j)) (jR [some 600000500,some 600000600,some 600000700] (by simp only [go_sem]<;>and_intros<;>first|rfl|assumption|trivial) (fun j hj=>by by_cases e89:j=89<;>by_cases e94:j=94<;>by_cases e95:j=95<;>by_cases e86:j=86<;>simp only [go_sem,e89,e94,e95,e86,hj,if_true,if_false,jp hj 600000500 (by omega),jp hj 600000600 (by omega),jp hj 600000700 (by omega)]) (by decide)) ?_
 refine WkK.of ?_;simp only [go_sem];refine qo (by simp only [go_sem]) (juL c hc y hyI u b _ e2 e3 hat (by simp only [go_sem]) (by simp only [go_sem]) (by simp only [go_sem]) (by simp only [go_sem])) fun av o' ⟨ed,b4,hav,ho4,o2,hk⟩=>?_
 subst hav;have k5:=hk 600000500 (by decide) (by decide) (by decide)
 have k6:=hk 600000600 (by decide) (by decide) (by decide)
 have k7:=hk 600000700 (by decide) (by decide) (by decide)
 have kall:∀g,g<600000000→g≠86→o' g=if g=89 then ku b 125 c (kS c y u).2 else if g=94 then .loose (kL y.shelf) e2 else if g=95 then .loose (jN y.runs) e3 else o g:=fun g hg h2=>by
  by_cases h1:g=89
  ·subst h1;rw [o2];rfl
  ·rw [hk g (by omega) h2 h1,if_neg h1]
   simp only [go_sem,hg,h1,h2,if_true,if_false]
 simp only [go_sem] at k5 k6 k7;simp only [go_sem,ho4];intro b9;refine kK ?_;refine jtM 86 ?_;generalize hdd:(kS c y u).1=d at*;refine WkK.wk (s':=St.ofB [(0,Bx 89 b),(1,Ni m),(5,Bx 600000500 b5),(6,Bx 600000600 b6),(7,Hd 600000700 e),(8,Ni i),(9,Bx 600000900 b9)] [(600000500,ZYd b5 tYd),(600000600,.box b6 tYd [.a (.v (.int .i64 y.now)),.a (.v (.int .i64 y.seq)),.a (.hs 94 0 [] (e2 []) 1 0 y.shelf.length),.a (.hs 95 0 [] (e3 []) 8 0 y.runs.length)]),(600000700,.loose (jcw l) e),(600000900,DdR b9 26 d ed)] 600000000 (fun j=>if j=89 then ku b 125 c (kS c y u).2 else if j=94 then .loose (kL y.shelf) e2 else if j=95 then .loose (jN y.runs) e3 else if j=86 then .none else o j)) (jR [some 600000500,some 600000600,some 600000700,some 600000900] (by simp only [go_sem,k5,k6,k7,ho4,kall]<;>and_intros<;>first|rfl|assumption|trivial) (fun j hj=>by by_cases e89:j=89<;>by_cases e94:j=94<;>by_cases e95:j=95<;>by_cases e86:j=86<;>simp only [go_sem,e89,e94,e95,e86,hj,if_true,if_false,jp hj 600000500 (by omega),jp hj 600000600 (by omega),jp hj 600000700 (by omega),jp hj 600000900 (by omega),jp hj 700000400 (by omega),k5,k6,k7,ho4,kall]) (by decide)) ?_
 refine qh 600000900 6 600090100 (d:=jt d.plan.edges) (η:=ed) (by simp only [go_sem]) (by simp only [go_sem]) (by decide) fun hx6=>?_
 refine WkK.of ?_;have m1:l.length+1≤maxLen:=by unfold maxLen;omega
 have m2:(l.length+1)*104≤140737488355328:=by omega
 simp only [go_sem,hx6];intro η22;refine jnq (fun ηR=>St.ofB [(0,Bx 89 b),(1,Ni m),(5,Bx 600000500 b5),(6,Bx 600000600 b6),(7,Hd 600000700 ηR),(8,Ni i),(9,Bx 600000900 b9)] [(600000500,ZYd b5 tYd),(600000600,.box b6 tYd [.a (.v (.int .i64 y.now)),.a (.v (.int .i64 y.seq)),.a (.hs 94 0 [] (e2 []) 1 0 y.shelf.length),.a (.hs 95 0 [] (e3 []) 8 0 y.runs.length)]),(600000700,.loose (.sl 11 tDd (l.flatMap jf++ddH d (ed []))) ηR),(600000900,DdRH b9 26 d (ed [])),(600090100,.loose (jt d.plan.edges) ed)] 600000000 (fun j=>if j=89 then ku b 125 c (kS c y u).2 else if j=94 then .loose (kL y.shelf) e2 else if j=95 then .loose (jN y.runs) e3 else if j=86 then .none else o j)) m1 m2 ?_ (fun ηR=>(jR [some 600000500,some 600000600,some 600002300,some 600000900,some 600090100] (by simp only [go_sem]<;>and_intros<;>first|rfl|assumption|trivial) (fun j hj=>by by_cases e89:j=89<;>by_cases e94:j=94<;>by_cases e95:j=95<;>by_cases e86:j=86<;>simp only [go_sem,e89,e94,e95,e86,hj,if_true,if_false,jp hj 600000500 (by omega),jp hj 600000600 (by omega),jp hj 600002300 (by omega),jp hj 600000900 (by omega),jp hj 600090100 (by omega),jp hj 600000700 (by omega),jp hj 600002200 (by omega)]) (by decide))) (fun ηR=>(jR [some 600000500,some 600000600,some 600002300,some 600000900,some 600090100] (by simp only [go_sem]<;>and_intros<;>first|rfl|assumption|trivial) (fun j hj=>by by_cases e89:j=89<;>by_cases e94:j=94<;>by_cases e95:j=95<;>by_cases e86:j=86<;>simp only [go_sem,e89,e94,e95,e86,hj,if_true,if_false,jp hj 600000500 (by omega),jp hj 600000600 (by omega),jp hj 600002300 (by omega),jp hj 600000900 (by omega),jp hj 600090100 (by omega),jp hj 600000700 (by omega),jp hj 600002200 (by omega)]) (by decide))) ?_
 ·simp only [jj6 _ hx6,jiy];rfl
 intro ηR;refine jdy 600000600 2 94 (d:=kL y.shelf) (η:=e2) rfl rfl rfl rfl (jhw _).symm rfl (Nat.zero_lt_succ 0) ?_;refine jdy 600000600 3 95 (d:=jN y.runs) (η:=e3) rfl rfl rfl rfl (zU _).symm rfl (Nat.zero_lt_succ 7) ?_;refine qg 600000900 6 600090100 (d:=jt d.plan.edges) (η:=ed) rfl rfl rfl ?_;generalize hdR:D.sl 11 tDd (l.flatMap jf++ddH d (ed []))=dR;refine WkK.wk (s':=St.ofB [(0,Bx 89 b),(1,Ni m),(5,Bx 600000500 b5),(6,Bx 600000600 b6),(7,Hd 600000700 ηR),(8,Ni i),(9,Bx 600000900 b9)] [(600000500,ZYd b5 tYd),(600000600,ve b6 tYd y.now y.seq y.shelf e2 y.runs e3),(600000700,.loose dR ηR),(600000900,DdR b9 26 d ed)] 600000000 (fun j=>if j=89 then ku b 125 c (kS c y u).2 else if j=94 then .none else if j=95 then .none else if j=86 then .none else o j)) (jR [some 600000500,some 600000600,some 600000700,some 600000900] (by simp only [go_sem]<;>and_intros<;>first|rfl|assumption|trivial) (fun j hj=>by by_cases e89:j=89<;>by_cases e94:j=94<;>by_cases e95:j=95<;>by_cases e86:j=86<;>simp only [go_sem,e89,e94,e95,e86,hj,if_true,if_false,jp hj 600000500 (by omega),jp hj 600000600 (by omega),jp hj 600000700 (by omega),jp hj 600000900 (by omega),jp hj 600090100 (by omega)]) (by decide)) ?_
 refine WkK.of ?_;simp only [go_sem];refine jb (jrQ y d (by omega) (by simp only [ja1,jeK];omega)) (by simp only [go_sem,jc,jf,ja,jkt]) fun ηo=>?_
 simp only [go_sem,jc,jf,ja,jkt];generalize hy':doY y d=y' at*;refine kK ?_;subst hdR;refine WkK.wk (s':=St.ofB [(0,Bx 89 b),(1,Ni m),(5,Bx 600000500 b5),(6,Bx 600000600 b6),(7,Hd 600000700 ηR),(8,Ni i)] [(600000500,ZYd b5 tYd),(600000600,ve b6 tYd y'.now y'.seq y'.shelf (ηo 2) y'.runs (ηo 3)),(600000700,.loose (.sl 11 tDd (l.flatMap jf++ddH d (ed []))) ηR),(600000900,DdR b9 26 d ed)] 600000000 (fun j=>if j=89 then ku b 125 c (kS c y u).2 else if j=94 then .none else if j=95 then .none else if j=86 then .none else o j)) (jR [some 600000500,some 600000600,some 600000700,some 600000900] (by simp only [go_sem,jc,jkt]<;>and_intros<;>first|rfl|assumption|trivial) (fun j hj=>by by_cases e89:j=89<;>by_cases e94:j=94<;>by_cases e95:j=95<;>by_cases e86:j=86<;>simp only [go_sem,e89,e94,e95,e86,hj,if_true,if_false,jp hj 600000500 (by omega),jp hj 600000600 (by omega),jp hj 600000700 (by omega),jp hj 600000900 (by omega),jp hj 600002702 (by omega),jp hj 600002703 (by omega),jc,jkt]) (by decide)) ?_
 refine qh 600000900 6 600090100 (d:=jt d.plan.edges) (η:=ed) (by simp only [go_sem]) (by simp only [go_sem]) (by decide) fun _=>?_
 refine vA 600000700 0 (l.length*11+6) 600090100 (η:=ηR) (η2:=ed) (cs:=d.plan.edges.flatMap jW) rfl (jzU _ _ 6) (.inr rfl) rfl (by decide) fun ηA hηA=>?_
 rw [jxT];refine WkK.of ?_;have hsn:D.sl 11 tDd (l.flatMap jf++(ddH d (ed [])).set 6 (.sl 2 tEd (d.plan.edges.flatMap jW)))=jcw (l++[d]):=jsX l d;have hw:IntKind.i64.wrap ((i:Int)+1)=((i+1:Nat):Int):=jg (by omega) (by omega)
 simp only [go_sem,hw];exact ⟨((i+1,(l++[d],y',(kS c y u).2)),ηA,ηo 2,ηo 3),⟨by dsimp only;omega,hDn,by rw [show m-(i+1)=f by omega];exact hXi⟩,(jR [some 600000500,some 600000600,some 600000700] (by simp only [go_sem,hw,hsn,hηA]<;>and_intros<;>first|rfl|assumption|trivial) (fun j hj=>by by_cases e89:j=89<;>by_cases e94:j=94<;>by_cases e95:j=95<;>by_cases e86:j=86<;>simp only [go_sem,e89,e94,e95,e86,hj,if_true,if_false,jp hj 600000500 (by omega),jp hj 600000600 (by omega),jp hj 600000700 (by omega),jp hj 600000900 (by omega),jp hj 600090100 (by omega),hw,hsn,hηA]) (by decide)),by (try dsimp only);omega⟩
def jxj (h:Int) (u:UInt8):Int:=joK (IntKind.i64.wrap (IntKind.i64.wrap (IntKind.i64.wrap (h*131)+(u.toNat:Int))+7)) 1073741823
theorem jzr (c:List UInt8):jz6 c=(c.take 4000).foldl jxj (94701+(c.length:Int)):=rfl
theorem jsG {α β:Type} {f:β→α→β} {l:List α} {k:Nat} {x:α} (h:l[k]?=some x) (a:β):(l.take (k+1)).foldl f a=f ((l.take k).foldl f a) x:=by
 rw [List.take_add_one,h,List.foldl_append];rfl
theorem jso (c:List UInt8) (hc:c.length≤1048576) (o:Nat→Ob):Inl Try.prog 55 [.c (.ro (zi c))] o fun av o2=>∃b,av=Bx 800003100 b∧o2 800003100=ku b 125 c (jjk c)∧∀g,g<800000000→o2 g=o g:=by
 refine qZ (β:=8000000) Try.func55 jgn (by simp) ?_
 unfold jem;have hw:IntKind.i64.wrap (94701+(c.length:Int))=94701+(c.length:Int):=jg (by omega) (by omega)
 simp only [go_sem,qy,hw];refine jq (fun i:Nat=>St.ofB [(0,.c (.ro (zi c))),(3,Ni ((c.take i).foldl jxj (94701+(c.length:Int)))),(4,Ni i)] [] 800000000 (fun j=>o j)) (fun i=>i≤c.length∧i≤4000) (fun i=>c.length-i) 0 (⟨Nat.zero_le _,Nat.zero_le _⟩) (jR [] (by simp only [go_sem,hw,List.take_zero,List.foldl_nil]<;>and_intros<;>first|rfl|assumption|trivial) (fun j hj=>by simp only [go_sem,hj,if_true,if_false,hw,List.take_zero,List.foldl_nil]) (by decide)) ?_
 rintro k ⟨hk,hk4⟩;by_cases hlt:k<c.length;rotate_left
 ·have hlt':¬(k:Int)<(c.length:Int):=by omega
  have hf:(c.take k).foldl jxj (94701+(c.length:Int))=jz6 c:=by
   rw [jzr,List.take_of_length_le (by omega),List.take_of_length_le (by omega)]
  rw [hf];simp only [go_sem,qy,hlt']
  exact fun b=>⟨b,rfl,rfl,fun g hg=>by
   have hg':¬g=800003100:=by omega
   simp only [hg',hg,if_true,if_false]⟩
 have hlt':(k:Int)<(c.length:Int):=by omega
 have h0k:(k:Int)≥0:=by omega
 by_cases hl4:k<4000;rotate_left
 ·have hl4':¬(k:Int)<4000:=by omega
  have hf:(c.take k).foldl jxj (94701+(c.length:Int))=jz6 c:=by
   rw [show k=4000 by omega,jzr]
  rw [hf];simp only [go_sem,qy,hlt',hl4']
  exact fun b=>⟨b,rfl,rfl,fun g hg=>by
   have hg':¬g=800003100:=by omega
   simp only [hg',hg,if_true,if_false]⟩
 have hl4':(k:Int)<4000:=by omega
 obtain ⟨u,hu⟩:=je hlt;have hst:=jsG (f:=jxj) hu (94701+(c.length:Int));have hwk:IntKind.i64.wrap ((k:Int)+1)=((k+1:Nat):Int):=jg (by omega) (by omega)
 simp only [go_sem,qy,hlt',hl4',hlt,h0k,jjg hu,jl2];exact ⟨k+1,by (try dsimp only);first|omega|assumption|(and_intros<;>first|omega|assumption),(jR [] (by simp only [go_sem,hwk,hst,jxj]<;>and_intros<;>first|rfl|assumption|trivial) (fun j hj=>by simp only [go_sem,hj,if_true,if_false,hwk,hst,jxj]) (by decide)),by (try dsimp only);omega⟩
def jjn:C:=iS [iA 2 (iO false)] (iS [iA 3 (iM 0),iA 4 (iG 3),iA 5 (iQ .gtr 3 4 1048576),iA 2 (iM 5)] .ret)
theorem jkz:fnC Try.prog Try.f22=some (jjn,[.t 2],6):=by kernel_rfl
theorem p_big (c:List UInt8):kl Try.prog 22 [.c (zi c)] (.c (.val (.bool (decide ((1048576:Int)<(c.length:Int)))))):=by
 refine jr Try.func22 jkz (by simp) ?_
 unfold jjn;have hro:(zi c).toRo=.ro (zi c):=rfl;simp only [go_sem,hro,qy]
def jaX:C:=iS [iA 4 (iO false)] (.seq (iS [iA 6 (iM 0),iA 7 (iG 6),iA 8 (iM 1),iA 9 (iG 8),iA 10 (iP .neq 3 7 9)] (iD 10 (iS [iA 4 (iO false)] .ret) .skip)) (.seq (iS [iA 5 (iN 0)] (.blk 0 (.loop (.seq (iS [iA 11 (iM 5),iA 12 (iM 0),iA 13 (iG 12),iA 14 (iP .lss 3 11 13)] (iD 14 .skip (.exit 0))) (.seq (.blk 1 (.seq (.dreg (T.pure 0 (iA 17 (iM 0)) (T.pure 1 (iA 18 (iM 5)) (T.pure 2 (iA 19 (iI 2 17 18)) (T.pure 3 (iA 20 (iT 2 19)) (T.pure 4 (iA 21 (iM 1)) (T.pure 5 (iA 22 (iM 5)) (T.pure 6 (iA 23 (iI 2 21 22)) (T.pure 7 (iA 24 (iT 2 23)) (T.pure 8 (iA 25 (iP .neq 103 20 24)) T.done)))))))))) (iD 25 (iS [iA 4 (iO false)] .ret) .skip))) (.reg [iA 15 (iM 5),iA 16 (iQ .add 3 15 1),iA 5 (iM 16)])))))) (iS [iA 4 (iO true)] .ret)))
theorem jdq:fnC Try.prog Try.f152=some (jaX,[.t 4],26):=by kernel_rfl
theorem jll (xs:List Ed) (hl:xs.length≤2000000):kl Try.prog 152 [.c (jt xs),.c (jt xs)] (.c (.val (.bool true))):=by
 refine jr Try.func152 jdq (by simp) ?_
 unfold jaX;have hro:(jt xs).toRo=.ro (jt xs):=rfl;simp only [go_sem,hro,jb4,bne_self_eq_false];refine jq (fun i:Nat=>St.of [(0,.c (.ro (jt xs))),(1,.c (.ro (jt xs))),(5,Ni i)] []) (fun i=>i≤xs.length) (fun i=>xs.length-i) 0 ((Nat.zero_le _)) (jl [] (by simp only [go_sem]<;>and_intros<;>first|rfl|assumption|trivial)) ?_
 rintro k hk;by_cases hlt:k<xs.length;rotate_left
 ·have hlt':¬(k:Int)<(xs.length:Int):=by omega
  simp only [go_sem,hlt',jb4]
 have hlt':(k:Int)<(xs.length:Int):=by omega
 obtain ⟨x,hx⟩:=je hlt;have hw:IntKind.i64.wrap ((k:Int)+1)=((k+1:Nat):Int):=jg (by omega) (by omega)
 simp only [go_sem,hlt',hlt,jB hx,jb4,jW,bne_self_eq_false,hw];exact ⟨k+1,by (try dsimp only);first|omega|assumption|(and_intros<;>first|omega|assumption),(jl [] (by simp only [go_sem,hw]<;>and_intros<;>first|rfl|assumption|trivial)),by (try dsimp only);omega⟩
def jbL:C:=iS [iA 2 (.box 24 5 (.t 0)),iA 3 (.box 24 5 (.t 1)),iA 4 (iO false)] (iS [iA 5 (iF 0 2),iA 6 (iL 5),iA 7 (iF 0 3),iA 8 (iL 7),iA 9 (iP .eql 3 6 8),iA 10 (iM 9),iB 11 10 true (iF 1 2),iB 12 10 true (iL 11),iB 13 10 true (iF 1 3),iB 14 10 true (iL 13),iB 15 10 true (iP .eql 3 12 14),iA 16 (.pick (.t 10) (.t 15) (.c (.bool false))),iA 17 (iM 16),iB 18 17 true (iF 2 2),iB 19 17 true (iL 18),iB 20 17 true (iF 2 3),iB 21 17 true (iL 20),iB 22 17 true (iP .eql 3 19 21),iA 23 (.pick (.t 17) (.t 22) (.c (.bool false))),iA 24 (iM 23),iB 25 24 true (iF 3 2),iB 26 24 true (iL 25),iB 27 24 true (iF 3 3),iB 28 24 true (iL 27),iB 29 24 true (iP .eql 3 26 28),iA 30 (.pick (.t 24) (.t 29) (.c (.bool false))),iA 31 (iM 30),iB 32 31 true (iF 4 2),iB 33 31 true (iL 32),iB 34 31 true (iF 4 3),iB 35 31 true (iL 34),iB 36 31 true (.call 152 [.t 33,.t 35]),iA 37 (.pick (.t 31) (.t 36) (.c (.bool false))),iA 4 (iM 37)] .ret)
theorem jeb:fnC Try.prog Try.f128=some (jbL,[.t 4],38):=by kernel_rfl
theorem jmP (p:Pl) (hl:p.edges.length≤2000000):kl Try.prog 128 [.agg (ja p),.agg (ja p)] (.c (.val (.bool true))):=by
 refine jr Try.func128 jeb (by simp) ?_
 unfold jbL;simp only [go_sem,ja,beq_self_eq_true];intro b2 b3;refine jb (jll p.edges hl) (by simp only [go_sem,ja]) fun η0=>?_
 simp only [go_sem,ja]
def jbN:C:=iS [iA 2 (.box 26 11 (.t 0)),iA 3 (.box 26 11 (.t 1)),iA 4 (iO false)] (iS [iA 5 (iF 0 2),iA 6 (iL 5),iA 7 (iF 0 3),iA 8 (iL 7),iA 9 (iP .eql 3 6 8),iA 10 (iM 9),iB 11 10 true (iF 1 2),iB 12 10 true (iL 11),iB 13 10 true (iF 1 3),iB 14 10 true (iL 13),iB 15 10 true (iP .eql 3 12 14),iA 16 (.pick (.t 10) (.t 15) (.c (.bool false))),iA 17 (iM 16),iB 18 17 true (iF 2 2),iB 19 17 true (iT 5 18),iB 20 17 true (iF 2 3),iB 21 17 true (iT 5 20),iB 22 17 true (.call 128 [.t 19,.t 21]),iA 23 (.pick (.t 17) (.t 22) (.c (.bool false))),iA 24 (iM 23),iB 25 24 true (iF 7 2),iB 26 24 true (iL 25),iB 27 24 true (iF 7 3),iB 28 24 true (iL 27),iB 29 24 true (iP .eql 3 26 28),iA 30 (.pick (.t 24) (.t 29) (.c (.bool false))),iA 31 (iM 30),iB 32 31 true (iF 8 2),iB 33 31 true (iL 32),iB 34 31 true (iF 8 3),iB 35 31 true (iL 34),iB 36 31 true (iP .eql 3 33 35),iA 37 (.pick (.t 31) (.t 36) (.c (.bool false))),iA 38 (iM 37),iB 39 38 true (iF 9 2),iB 40 38 true (iL 39),iB 41 38 true (iF 9 3),iB 42 38 true (iL 41),iB 43 38 true (iP .eql 3 40 42),iA 44 (.pick (.t 38) (.t 43) (.c (.bool false))),iA 45 (iM 44),iB 46 45 true (iF 10 2),iB 47 45 true (iL 46),iB 48 45 true (iF 10 3),iB 49 45 true (iL 48),iB 50 45 true (iP .eql 3 47 49),iA 51 (.pick (.t 45) (.t 50) (.c (.bool false))),iA 4 (iM 51)] .ret)
theorem jed:fnC Try.prog Try.f101=some (jbN,[.t 4],52):=by kernel_rfl
theorem jmR (d:Dd) (hl:d.plan.edges.length≤2000000):kl Try.prog 101 [.agg (jf d),.agg (jf d)] (.c (.val (.bool true))):=by
 refine jr Try.func101 jed (by simp) ?_
 unfold jbN;simp only [go_sem,jf,ja,beq_self_eq_true];intro b2 b3;refine jb (jmP d.plan hl) (by simp only [go_sem,jf,ja]) fun η0=>?_
 simp only [go_sem,jf,ja];simp only [go_sem,beq_self_eq_true]
def jbM:C:=iS [iA 2 (.box 28 12 (.t 0)),iA 3 (.box 28 12 (.t 1)),iA 4 (iO false)] (iS [iA 5 (iF 0 2),iA 6 (iL 5),iA 7 (iF 0 3),iA 8 (iL 7),iA 9 (iP .eql 3 6 8),iA 10 (iM 9),iB 11 10 true (iF 1 2),iB 12 10 true (iT 11 11),iB 13 10 true (iF 1 3),iB 14 10 true (iT 11 13),iB 15 10 true (.call 101 [.t 12,.t 14]),iA 16 (.pick (.t 10) (.t 15) (.c (.bool false))),iA 4 (iM 16)] .ret)
theorem jec:fnC Try.prog Try.f59=some (jbM,[.t 4],17):=by kernel_rfl
theorem jmQ (n:Nt) (hl:n.deed.plan.edges.length≤2000000):kl Try.prog 59 [.agg (jE n),.agg (jE n)] (.c (.val (.bool true))):=by
 refine jr Try.func59 jec (by simp) ?_
 unfold jbM;simp only [go_sem,jE,jf,ja,beq_self_eq_true];intro b2 b3;refine jb (jmR n.deed hl) (by simp only [go_sem,jE,jf,ja]) fun η0=>?_
 simp only [go_sem,jE,jf,ja]
def jaW:C:=iS [iA 4 (iO false)] (.seq (iS [iA 6 (iM 0),iA 7 (iG 6),iA 8 (iM 1),iA 9 (iG 8),iA 10 (iP .neq 3 7 9)] (iD 10 (iS [iA 4 (iO false)] .ret) .skip)) (.seq (iS [iA 5 (iN 0)] (.blk 0 (.loop (.seq (iS [iA 11 (iM 5),iA 12 (iM 0),iA 13 (iG 12),iA 14 (iP .lss 3 11 13)] (iD 14 .skip (.exit 0))) (.seq (.blk 1 (.seq (.dreg (T.pure 0 (iA 17 (iM 0)) (T.pure 1 (iA 18 (iM 5)) (T.pure 2 (iA 19 (iI 12 17 18)) (T.pure 3 (iA 20 (iT 12 19)) (T.pure 4 (iA 21 (iM 1)) (T.pure 5 (iA 22 (iM 5)) (T.pure 6 (iA 23 (iI 12 21 22)) (T.pure 7 (iA 24 (iT 12 23)) (T.alt (iA 25 (.call 59 [.t 20,.t 24])) [] (T.pure 9 (iA 26 (iU 25)) T.done) T.stop)))))))))) (iD 26 (iS [iA 4 (iO false)] .ret) .skip))) (.reg [iA 15 (iM 5),iA 16 (iQ .add 3 15 1),iA 5 (iM 16)])))))) (iS [iA 4 (iO true)] .ret)))
theorem jdp:fnC Try.prog Try.f26=some (jaW,[.t 4],27):=by kernel_rfl
theorem jbo (xs:List Nt) (hl:zK xs≤2000000):kl Try.prog 26 [.c (jH xs),.c (jH xs)] (.c (.val (.bool true))):=by
 refine jr Try.func26 jdp (by simp) ?_
 unfold jaW;have hll:xs.length≤2000000:=Nat.le_trans (Nat.le_add_right _ _) hl;have hro:(jH xs).toRo=.ro (jH xs):=rfl;simp only [go_sem,hro,vY,bne_self_eq_false];refine jq (fun i:Nat=>St.of [(0,.c (.ro (jH xs))),(1,.c (.ro (jH xs))),(5,Ni i)] []) (fun i=>i≤xs.length) (fun i=>xs.length-i) 0 ((Nat.zero_le _)) (jl [] (by simp only [go_sem]<;>and_intros<;>first|rfl|assumption|trivial)) ?_
 rintro k hk;by_cases hlt:k<xs.length;rotate_left
 ·have hlt':¬(k:Int)<(xs.length:Int):=by omega
  simp only [go_sem,hlt',vY]
 have hlt':(k:Int)<(xs.length:Int):=by omega
 obtain ⟨x,hx⟩:=je hlt;have hw:IntKind.i64.wrap ((k:Int)+1)=((k+1:Nat):Int):=jg (by omega) (by omega)
 have hx2:zC x≤2000000:=by
  have h1:=vZ (tot:=zC) hx;have h2:=jaj zC xs (k+1);simp only [zK] at hl;omega
 simp only [go_sem,hlt',hlt,jdg hx,vY,jE,jf,ja];refine jb (jmQ x (by simp only [zC,ja1,jeK] at hx2;omega)) (by simp only [go_sem,jE,jf,ja]) fun η0=>?_
 simp only [go_sem,jE,jf,ja];simp only [go_sem,hw];exact ⟨k+1,by (try dsimp only);first|omega|assumption|(and_intros<;>first|omega|assumption),(jl [] (by simp only [go_sem,hw]<;>and_intros<;>first|rfl|assumption|trivial)),by (try dsimp only);omega⟩
noncomputable def jmL (c:List UInt8):Nat→List Int×Cu→List Int×Cu
 |0,x=>x
 |n+1,x=>let y:=jmL c n x;(y.1++[(jh c 10000 y.2).1],(jh c 10000 y.2).2)
noncomputable def jbk (c:List UInt8):List Int:=(jmL c 12 ([],(ki c (jjk c)).2)).1
theorem jrN (c:List UInt8):∀(n:Nat) {x:List Int×Cu},x.2.1≤c.length→(jmL c n x).2.1≤c.length
 |0,x,h=>h
 |n+1,x,h=>js (jrN c n h)
theorem jjR (c:List UInt8):∀(n:Nat) (x:List Int×Cu),(jmL c n x).1.length=x.1.length+n
 |0,x=>rfl
 |n+1,x=>by
  have:=jjR c n x;simp only [jmL,List.length_append,List.length_singleton];omega
theorem jrM (c:List UInt8):∀(n:Nat) (x:List Int×Cu),(∀v∈x.1,0≤v∧v<10000)→∀v∈(jmL c n x).1,0≤v∧v<10000
 |0,x,h=>h
 |n+1,x,h=>fun v hv=>by
  rcases List.mem_append.1 hv with hv|hv
  ·exact jrM c n x h v hv
  ·rw [List.mem_singleton.1 hv]
   exact jA c (n:=10000) _ (by omega)
theorem jrO (c:List UInt8) {k:Nat} (h:k<12):∃v:Nat,(jbk c)[k]?=some (v:Int)∧v<10000:=by
 have hl:(jbk c).length=12:=by rw [jbk,jjR];rfl
 obtain ⟨v,hv⟩:=je (show k<(jbk c).length by omega)
 have:=jrM c 12 ([],(ki c (jjk c)).2) (by simp) v (List.mem_of_getElem? hv)
 exact ⟨v.toNat,by rw [hv];congr 1;omega,by omega⟩
def jad:C:=iS [iA 2 (.mov (.c (.slice none 0 0)))] (iS [iA 6 (iM 0),iA 7 (.call 55 [.t 6]),iA 3 (iM 7)] (iS [iA 8 (iM 3),iA 9 (.call 57 [.t 8])] (iS [iA 10 (.bsl 3 1 0 [] []),iA 4 (iM 10)] (.seq (iS [iA 5 (iN 0)] (.blk 0 (.loop (.seq (iS [iA 11 (iM 5),iA 12 (iQ .lss 3 11 12)] (iD 12 .skip (.exit 0))) (.seq (.blk 1 (.reg [iA 15 (iM 4),iA 16 (iM 3),iA 17 (.call 58 [.t 16,.c (.int .i64 10000)]),iA 18 (.bsl 3 1 1 [none] [(0,1,.t 17)]),iA 19 (.app 3 1 8 (.t 15) (.t 18)),iA 4 (iM 19)])) (.reg [iA 13 (iM 5),iA 14 (iQ .add 3 13 1),iA 5 (iM 14)])))))) (iS [iA 20 (iM 4),iA 2 (iM 20)] .ret)))))
theorem jck:fnC Try.prog Try.f25=some (jad,[.t 2],21):=by kernel_rfl
theorem jeT (c:List UInt8) (hc:c.length≤1048576):kl Try.prog 25 [.c (zi c)] (.c (jo (jbk c))):=by
 refine jaq [[1,1,0]] Try.func25 jck (by simp) ?_
 unfold jad;simp only [C.ghs,C.ghAt,List.foldr];simp only [go_sem];have hro:(zi c).toRo=.ro (zi c):=rfl;rw [hro];refine qo (by simp only [go_sem]) (jso c hc _) fun av o' ⟨b,hav,ho,hk⟩=>?_
 subst hav;simp only [go_sem];refine kK ?_;refine WkK.wk (s':=St.of [(3,Bx 89 b)] [(89,ku b 125 c (jjk c))]) (jl [some 800003100] (by simp only [go_sem,ho,kO]<;>and_intros<;>first|rfl|assumption|trivial)) ?_
 refine WkK.of ?_;simp only [go_sem];refine jn (jb5 c hc (jjk c) b _ (Nat.zero_le _) (by simp only [go_sem])) (by simp only [go_sem]) ?_
 have s1:=vW (c:=c) (s:=jjk c) (Nat.zero_le _);have hP:jbk c=(jmL c 12 ([],(ki c (jjk c)).2)).1:=rfl;generalize (ki c (jjk c)).2=s0 at*;intro η0;refine jq (fun i:Nat×jm=>St.of [(3,Bx 89 b),(4,Hd 1000 i.2),(5,Ni i.1)] [(89,ku b 125 c (jmL c i.1 ([],s0)).2),(1000,.loose (jo (jmL c i.1 ([],s0)).1) i.2)]) (fun i=>i.1≤12) (fun i=>12-i.1) (0,η0) ((Nat.zero_le _)) (jl [some 89,some 1000] (by simp only [go_sem,jmL]<;>and_intros<;>first|rfl|assumption|trivial)) ?_
 rintro ⟨i,η⟩ hi;dsimp only at hi;have hat:=jrN c i (x:=([],s0)) s1;have hlen:=jjR c i ([],s0);by_cases hlt:i<12;rotate_left
 ·have hlt':¬(i:Int)<12:=by omega
  obtain rfl:i=12:=by omega
  rw [hP];simp only [go_sem,hlt']
 have hlt':(i:Int)<12:=by omega
 have hw:IntKind.i64.wrap ((i:Int)+1)=((i+1:Nat):Int):=jg (by omega) (by omega)
 have hs2:jmL c (i+1) ([],s0)=((jmL c i ([],s0)).1++[(jh c 10000 (jmL c i ([],s0)).2).1],(jh c 10000 (jmL c i ([],s0)).2).2):=rfl;generalize jmL c i ([],s0)=z at*;simp only [go_sem,hlt'];refine jn (jP c hc 10000 z.2 b _ hat (by simp only [go_sem])) (by simp only [go_sem]) ?_
 have hm1:z.1.length+1≤maxLen:=by rw [hlen];unfold maxLen;simp;omega
 have hm2:(z.1.length+1)*8≤140737488355328:=by rw [hlen];simp;omega
 simp only [go_sem,hm1,hm2,zV,hw];intro η18 η19;exact ⟨(i+1,η19),by (try dsimp only);first|omega|assumption|(and_intros<;>first|omega|assumption),(jl [some 89,some 1900] (by simp only [go_sem,hw,hs2]<;>and_intros<;>first|rfl|assumption|trivial)),by (try dsimp only);omega⟩
end Go.Proofs.Ytmnpailnelmpiaa
