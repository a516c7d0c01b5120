/- Parts. -/
import Derived.Test.YtmnpailnelmpiaaGreatQDo
import Derived.Test.YtmnpailnelmpiaaGreatQDrawH
import Derived.Below
import Derived.OpenShut
set_option linter.unusedSimpArgs false
set_option linter.unusedVariables false
set_option maxHeartbeats 16000000
set_option maxRecDepth 100000
namespace Go.Proofs.YtmnpailnelmpiaaGreat
open Go.RowKit Go.Sort
theorem jiM:kr Tryz.prog 279 [] (.agg (jb newYd)):=jtj ⟨_,Tryz.func279,by kernel_rfl,by kernel_rfl⟩ fun w=>jq7 w
section
variable {s:St} {K:St→Prop}
theorem jxt {o':Nat→Ob} (h:jwN o' s.o) (hk:WkK ⟨s.t,o'⟩ K):WkK s K:=fun B N w0 w a F hr=>by
 obtain ⟨F',h1,_⟩:=hr.less h;exact hk B N w0 w a F' h1
theorem ju7 (g:Nat) (hk:WkK ⟨s.t,fun j=>if j=g then .none else s.o j⟩ K):WkK s K:=jxt (fun j=>by
 by_cases e:j=g
 ·rw [if_pos e];exact .inr rfl
 ·rw [if_neg e];exact .inl rfl) hk
theorem jx7 {a n k g c b ty:Nat} {x:A0} {cs:List Cell} {K:AV→(Nat→Ob)→Prop} (ha:s.t a=.c x) (hn:s.t n=.c (.bp g c b)) (ho:s.o g=.box b ty cs) (hl:c+k≤cs.length) (h:K (.tup [(false,[x]),(true,jdf g c ((cs.drop c).take k))]) s.o):jsh [.t a,.cell n true k] K s:=by
 simp only [jsh,jhm,ha,hn];exact ⟨_,⟨ty,cs,ho,hl,rfl⟩,.inl trivial,h⟩
end
abbrev ddH (d:Dd) (x:Value):List D:=[.val (.int .i64 d.kind),.val (.int .i64 d.run),.val (.int .i64 d.plan.prio),.val (.int .i64 d.plan.most),.val (.int .i64 d.plan.wait),.val (.int .i64 d.plan.tasks),jpZ (some (2,tEd)) x,.val (.int .i64 d.task),.val (.int .i64 d.tri),.val (.int .i64 d.worker),.val (.int .i64 d.draw)]
abbrev DdRH (b ty:Nat) (d:Dd) (x:Value):Ob:=.box b ty [.a (.v (.int .i64 d.kind)),.a (.v (.int .i64 d.run)),.a (.v (.int .i64 d.plan.prio)),.a (.v (.int .i64 d.plan.most)),.a (.v (.int .i64 d.plan.wait)),.a (.v (.int .i64 d.plan.tasks)),.a (.v x),.a (.v (.int .i64 d.task)),.a (.v (.int .i64 d.tri)),.a (.v (.int .i64 d.worker)),.a (.v (.int .i64 d.draw))]
theorem jme (l:List Dd):(l.flatMap jo).length=l.length*11:=jH (enc:=jo) (size:=11) (fun _=>rfl) l
theorem jA7 (l:List Dd) (row:List D) (j:Nat):(l.flatMap jo++row)[l.length*11+j]?=row[j]?:=by
 rw [List.getElem?_append_right (by rw [jme];omega),jme,Nat.add_sub_cancel_left]
theorem jyW (l:List Dd) (row:List D) (j:Nat) (d:D):(l.flatMap jo++row).set (l.length*11+j) d=l.flatMap jo++row.set j d:=by
 rw [List.set_append_right _ _ (by rw [jme];omega),jme,Nat.add_sub_cancel_left]
theorem jus (l:List Dd) (d:Dd):D.sl 11 tDd (l.flatMap jo++jo d)=jdD (l++[d]):=by simp [jdD]
def jcF:C:=iS [iA 4 (.mov (.c (.slice none 0 0))),iA 5 (.alloc 37 [.int .i64 0,.int .i64 0,.slice none 0 0,.slice none 0 0])] (iS [iA 10 (.call 279 []),iA 6 (.alloc 37 [.int .i64 0,.int .i64 0,.slice none 0 0,.slice none 0 0]),iC (.st 4 [none,none,some (1,102),some (8,108)] (.t 6) (.t 10))] (iS [iA 11 (.bsl 73 11 0 [] []),iA 7 (iM 11)] (.seq (iS [iA 8 (iN 0)] (.blk 0 (.loop (.seq (iS [iA 12 (iM 8),iA 13 (iM 1),iA 14 (iP .lss 3 12 13)] (iD 14 .skip (.exit 0))) (.seq (.blk 1 (iS [iA 17 (iM 0),iA 18 (iT 4 6),iA 19 (.call 280 [.t 17,.t 18]),iA 9 (.alloc 73 [.int .i64 0,.int .i64 0,.int .i64 0,.int .i64 0,.int .i64 0,.int .i64 0,.slice none 0 0,.int .i64 0,.int .i64 0,.int .i64 0,.int .i64 0]),iC (.st 11 [none,none,none,none,none,none,some (2,253),none,none,none,none] (.t 9) (.t 19))] (iS [iA 20 (iM 7),iA 21 (iT 11 9),iA 22 (.bsl 73 11 1 [none,none,none,none,none,none,some (2,253),none,none,none,none] [(0,11,.t 21)]),iA 23 (.app 73 11 104 (.t 20) (.t 22)),iA 7 (iM 23)] (.reg [iA 25 (iT 4 6),iA 26 (iT 11 9),iA 27 (.call 30 [.t 25,.t 26]),iA 24 (iM 27),iA 28 (iE 24 0),iA 29 (iE 24 1),iC (.st 4 [none,none,some (1,102),some (8,108)] (.t 6) (.t 28))])))) (.reg [iA 15 (iM 8),iA 16 (iQ .add 3 15 1),iA 8 (iM 16)])))))) (.seq (.dreg (T.pure 0 (iA 30 (iM 7)) (T.pure 1 (iA 31 (iT 4 6)) (T.pure 2 (iA 4 (iM 30)) (T.alt (iC (.st 4 [none,none,some (1,102),some (8,108)] (.t 5) (.t 31))) [] T.done T.stop))))) .ret))))
theorem jfg:fnC Tryz.prog Tryz.f231=some (jcF,[.t 4,.cell 5 true 4],32):=by kernel_rfl
theorem jtW (c:List UInt8) (hc:c.length≤1048576) (m:Nat) (hm:m≤1000) (s:Cu) (b:Nat) (o:Nat→Ob) (hs:s.1≤c.length) (ho:o 89=qq b 258 c s) (h86:o 86=.none) (h94:o 94=.none) (h95:o 95=.none):
 Inl Tryz.prog 231 [Bx 89 b,Ni m] o fun av o2=>∃(e e2 e3:jr) (b5:Nat),av=.tup [(false,[.h 600000700 0 [] (e [])]),(true,[.v (.int .i64 (za c m ([],newYd,s)).2.1.now),.v (.int .i64 (za c m ([],newYd,s)).2.1.seq),.h 600000500 2 [] (e2 []),.h 600000500 3 [] (e3 [])])]∧o2 600000700=.loose (jdD (za c m ([],newYd,s)).1) e∧
  o2 600000500=kv b5 tYd (za c m ([],newYd,s)).2.1.now (za c m ([],newYd,s)).2.1.seq (za c m ([],newYd,s)).2.1.shelf e2 (za c m ([],newYd,s)).2.1.runs e3∧o2 89=qq b 258 c (za c m ([],newYd,s)).2.2∧∀g,g<600000000→g≠89→o2 g=o g:=by
 refine jkQ (β:=6000000) [[1,1,1,0,1,0,0,1,0,0,0],[1,1,1,0,1,0,0,1,0,0,1],[1,1,1,0,1,0,0,1,0,0,1,1],[1,1,1,0,1,0,0,1,1],[1,1,1,1,0]] Tryz.func231 jfg (by simp) ?_
 unfold jcF;simp only [C.ghs,C.ghAt,List.foldr];simp only [go_sem];intro b5;refine jc (jiM) (by simp only [go_sem,jb]) fun ηn=>?_
 simp only [go_sem,jb];intro b6 η11;generalize hX:za c m ([],newYd,s)=X at*;refine jp (fun i:(Nat×(List Dd×Yd×Cu))×jr×jr×jr=>St.ofB [(0,Bx 89 b),(1,Ni m),(5,Bx 600000500 b5),(6,Bx 600000600 b6),(7,Hd 600000700 i.2.1),(8,Ni i.1.1)] [(600000500,ZYd b5 tYd),(600000600,kv b6 tYd i.1.2.2.1.now i.1.2.2.1.seq i.1.2.2.1.shelf i.2.2.1 i.1.2.2.1.runs i.2.2.2),(600000700,.loose (jdD i.1.2.1) i.2.1)] 600000000 (fun j=>if j=89 then qq b 258 c i.1.2.2.2 else if j=94 then .none else if j=95 then .none else if j=86 then .none else o j)) (fun i=>i.1.1≤m∧DdsI c i.1.1 i.1.2∧X=za c (m-i.1.1) i.1.2) (fun i=>m-i.1.1) ((0,([],newYd,s)),η11,ηn 2,ηn 3) (⟨Nat.zero_le _,.start hs,hX.symm⟩) (kU [some 600000500,some 600000600,some 600001100] (by simp only [go_sem,jkJ,jb,ho,h86,h94,h95]<;>and_intros<;>first|rfl|assumption|trivial) (fun j hj=>by by_cases e89:j=89<;>by_cases e94:j=94<;>by_cases e95:j=95<;>by_cases e86:j=86<;>simp only [go_sem,e89,e94,e95,e86,hj,if_true,if_false,jA hj 600000500 (by omega),jA hj 600000600 (by omega),jA hj 600001100 (by omega),jA hj 600001002 (by omega),jA hj 600001003 (by omega),jkJ,jb,ho,h86,h94,h95]) (by decide)) ?_
 rintro ⟨⟨i,l,y,u⟩,e,e2,e3⟩ ⟨hi,hD,hXi⟩;dsimp only at hi hD hXi;by_cases hlt:i<m;rotate_left
 ·have hlt':¬(i:Int)<(m:Int):=by omega
  have h0:m-i=0:=by omega
  rw [h0,za] at hXi;subst hXi;simp only [go_sem,hlt'];refine kZ (WkK.of ?_);simp only [go_sem];refine jx7 (x:=.h 600000700 0 [] (e [])) (g:=600000500) (c:=0) (b:=b5) (ty:=tYd) (cs:=[.a (.v (.int .i64 y.now)),.a (.v (.int .i64 y.seq)),.own (kz y.shelf) e2,.own (jN y.runs) e3]) (by simp only [go_sem]) (by simp only [go_sem]) (by simp only [go_sem]) (by simp) ?_
  simp only [go_sem];refine ⟨e,e2,e3,b5,rfl,rfl,rfl,fun g g1 g2=>?_⟩
  by_cases e94:g=94
  ·subst e94;simp only [go_sem,h94]
  by_cases e95:g=95
  ·subst e95;simp only [go_sem,h95]
  by_cases e86:g=86
  ·subst e86;simp only [go_sem,h86]
  simp only [go_sem,g1,g2,e94,e95,e86,jA g1 600000500 (by omega),jA g1 600000600 (by omega),jA g1 600000700 (by omega),if_true,if_false]
 have hlt':(i:Int)<(m:Int):=by omega
 obtain ⟨f,hf⟩:∃f,m-i=f+1:=⟨m-i-1,by omega⟩
 rw [hf,za] at hXi;dsimp only at hXi;have hDn:=hD.next;have hat:=hD.at_;have hyI:=hD.yd;have hll:=hD.len;have hdt:=jjf c y u;dsimp only at hDn hat hyI hll;have hyt:=(hyI.ok (by have:=hD.seq;dsimp only at this;omega)).small
 simp only [go_sem,hlt'];refine kZ ?_;refine jf4 600000600 2 94 rfl rfl rfl (by decide) (Nat.zero_lt_succ 0) ?_
 refine jf4 600000600 3 95 rfl rfl rfl (by decide) (Nat.zero_lt_succ 7) ?_
 refine WkK.wk (s':=St.ofB [(0,Bx 89 b),(1,Ni m),(5,Bx 600000500 b5),(6,Bx 600000600 b6),(7,Hd 600000700 e),(8,Ni i)] [(600000500,ZYd b5 tYd),(600000600,.box b6 tYd [.a (.v (.int .i64 y.now)),.a (.v (.int .i64 y.seq)),.a (.hs 94 0 [] (e2 []) 1 0 y.shelf.length),.a (.hs 95 0 [] (e3 []) 8 0 y.runs.length)]),(600000700,.loose (jdD l) e)] 600000000 (fun j=>if j=89 then qq b 258 c u else if j=94 then .loose (kz y.shelf) e2 else if j=95 then .loose (jN y.runs) e3 else if j=86 then .none else o j)) (kU [some 600000500,some 600000600,some 600000700] (by simp only [go_sem]<;>and_intros<;>first|rfl|assumption|trivial) (fun j hj=>by by_cases e89:j=89<;>by_cases e94:j=94<;>by_cases e95:j=95<;>by_cases e86:j=86<;>simp only [go_sem,e89,e94,e95,e86,hj,if_true,if_false,jA hj 600000500 (by omega),jA hj 600000600 (by omega),jA hj 600000700 (by omega)]) (by decide)) ?_
 refine WkK.of ?_;simp only [go_sem];refine kS (by simp only [go_sem]) (jv4 c hc y hyI u b _ e2 e3 hat (by simp only [go_sem]) (by simp only [go_sem]) (by simp only [go_sem]) (by simp only [go_sem])) fun av o' ⟨ed,b4,hav,ho4,o2,hk⟩=>?_
 subst hav;have k5:=hk 600000500 (by decide) (by decide) (by decide)
 have k6:=hk 600000600 (by decide) (by decide) (by decide)
 have k7:=hk 600000700 (by decide) (by decide) (by decide)
 have kall:∀g,g<600000000→g≠86→o' g=if g=89 then qq b 258 c (qp c y u).2 else if g=94 then .loose (kz y.shelf) e2 else if g=95 then .loose (jN y.runs) e3 else o g:=fun g hg h2=>by
  by_cases h1:g=89
  ·subst h1;rw [o2];rfl
  ·rw [hk g (by omega) h2 h1,if_neg h1]
   simp only [go_sem,hg,h1,h2,if_true,if_false]
 simp only [go_sem] at k5 k6 k7;simp only [go_sem,ho4];intro b9;refine kZ ?_;refine ju7 86 ?_;generalize hdd:(qp c y u).1=d at*;refine WkK.wk (s':=St.ofB [(0,Bx 89 b),(1,Ni m),(5,Bx 600000500 b5),(6,Bx 600000600 b6),(7,Hd 600000700 e),(8,Ni i),(9,Bx 600000900 b9)] [(600000500,ZYd b5 tYd),(600000600,.box b6 tYd [.a (.v (.int .i64 y.now)),.a (.v (.int .i64 y.seq)),.a (.hs 94 0 [] (e2 []) 1 0 y.shelf.length),.a (.hs 95 0 [] (e3 []) 8 0 y.runs.length)]),(600000700,.loose (jdD l) e),(600000900,DdR b9 73 d ed)] 600000000 (fun j=>if j=89 then qq b 258 c (qp c y u).2 else if j=94 then .loose (kz y.shelf) e2 else if j=95 then .loose (jN y.runs) e3 else if j=86 then .none else o j)) (kU [some 600000500,some 600000600,some 600000700,some 600000900] (by simp only [go_sem,k5,k6,k7,ho4,kall]<;>and_intros<;>first|rfl|assumption|trivial) (fun j hj=>by by_cases e89:j=89<;>by_cases e94:j=94<;>by_cases e95:j=95<;>by_cases e86:j=86<;>simp only [go_sem,e89,e94,e95,e86,hj,if_true,if_false,jA hj 600000500 (by omega),jA hj 600000600 (by omega),jA hj 600000700 (by omega),jA hj 600000900 (by omega),jA hj 700000400 (by omega),k5,k6,k7,ho4,kall]) (by decide)) ?_
 refine qG 600000900 6 600090100 (d:=jz d.plan.edges) (η:=ed) (by simp only [go_sem]) (by simp only [go_sem]) (by decide) fun hx6=>?_
 refine WkK.of ?_;have m1:l.length+1≤maxLen:=by unfold maxLen;omega
 have m2:(l.length+1)*104≤140737488355328:=by omega
 simp only [go_sem,hx6];intro η22;refine jpj (fun ηR=>St.ofB [(0,Bx 89 b),(1,Ni m),(5,Bx 600000500 b5),(6,Bx 600000600 b6),(7,Hd 600000700 ηR),(8,Ni i),(9,Bx 600000900 b9)] [(600000500,ZYd b5 tYd),(600000600,.box b6 tYd [.a (.v (.int .i64 y.now)),.a (.v (.int .i64 y.seq)),.a (.hs 94 0 [] (e2 []) 1 0 y.shelf.length),.a (.hs 95 0 [] (e3 []) 8 0 y.runs.length)]),(600000700,.loose (.sl 11 tDd (l.flatMap jo++ddH d (ed []))) ηR),(600000900,DdRH b9 73 d (ed [])),(600090100,.loose (jz d.plan.edges) ed)] 600000000 (fun j=>if j=89 then qq b 258 c (qp c y u).2 else if j=94 then .loose (kz y.shelf) e2 else if j=95 then .loose (jN y.runs) e3 else if j=86 then .none else o j)) m1 m2 ?_ (fun ηR=>(kU [some 600000500,some 600000600,some 600002300,some 600000900,some 600090100] (by simp only [go_sem]<;>and_intros<;>first|rfl|assumption|trivial) (fun j hj=>by by_cases e89:j=89<;>by_cases e94:j=94<;>by_cases e95:j=95<;>by_cases e86:j=86<;>simp only [go_sem,e89,e94,e95,e86,hj,if_true,if_false,jA hj 600000500 (by omega),jA hj 600000600 (by omega),jA hj 600002300 (by omega),jA hj 600000900 (by omega),jA hj 600090100 (by omega),jA hj 600000700 (by omega),jA hj 600002200 (by omega)]) (by decide))) (fun ηR=>(kU [some 600000500,some 600000600,some 600002300,some 600000900,some 600090100] (by simp only [go_sem]<;>and_intros<;>first|rfl|assumption|trivial) (fun j hj=>by by_cases e89:j=89<;>by_cases e94:j=94<;>by_cases e95:j=95<;>by_cases e86:j=86<;>simp only [go_sem,e89,e94,e95,e86,hj,if_true,if_false,jA hj 600000500 (by omega),jA hj 600000600 (by omega),jA hj 600002300 (by omega),jA hj 600000900 (by omega),jA hj 600090100 (by omega),jA hj 600000700 (by omega),jA hj 600002200 (by omega)]) (by decide))) ?_
 ·simp only [jiU _ hx6,jiV];rfl
 intro ηR;refine jaV 600000600 2 94 (d:=kz y.shelf) (η:=e2) rfl rfl rfl rfl (jeW _).symm rfl (Nat.zero_lt_succ 0) ?_;refine jaV 600000600 3 95 (d:=jN y.runs) (η:=e3) rfl rfl rfl rfl (jah _).symm rfl (Nat.zero_lt_succ 7) ?_;refine qK 600000900 6 600090100 (d:=jz d.plan.edges) (η:=ed) rfl rfl rfl ?_;generalize hdR:D.sl 11 tDd (l.flatMap jo++ddH d (ed []))=dR;refine WkK.wk (s':=St.ofB [(0,Bx 89 b),(1,Ni m),(5,Bx 600000500 b5),(6,Bx 600000600 b6),(7,Hd 600000700 ηR),(8,Ni i),(9,Bx 600000900 b9)] [(600000500,ZYd b5 tYd),(600000600,kv b6 tYd y.now y.seq y.shelf e2 y.runs e3),(600000700,.loose dR ηR),(600000900,DdR b9 73 d ed)] 600000000 (fun j=>if j=89 then qq b 258 c (qp c y u).2 else if j=94 then .none else if j=95 then .none else if j=86 then .none else o j)) (kU [some 600000500,some 600000600,some 600000700,some 600000900] (by simp only [go_sem]<;>and_intros<;>first|rfl|assumption|trivial) (fun j hj=>by by_cases e89:j=89<;>by_cases e94:j=94<;>by_cases e95:j=95<;>by_cases e86:j=86<;>simp only [go_sem,e89,e94,e95,e86,hj,if_true,if_false,jA hj 600000500 (by omega),jA hj 600000600 (by omega),jA hj 600000700 (by omega),jA hj 600000900 (by omega),jA hj 600090100 (by omega)]) (by decide)) ?_
 refine WkK.of ?_;simp only [go_sem];refine jc (jto y d (by omega) (by simp only [jhl,jjL];omega)) (by simp only [go_sem,jb,jo,ja,jgm]) fun ηo=>?_
 simp only [go_sem,jb,jo,ja,jgm];generalize hy':doY y d=y' at*;refine kZ ?_;subst hdR;refine WkK.wk (s':=St.ofB [(0,Bx 89 b),(1,Ni m),(5,Bx 600000500 b5),(6,Bx 600000600 b6),(7,Hd 600000700 ηR),(8,Ni i)] [(600000500,ZYd b5 tYd),(600000600,kv b6 tYd y'.now y'.seq y'.shelf (ηo 2) y'.runs (ηo 3)),(600000700,.loose (.sl 11 tDd (l.flatMap jo++ddH d (ed []))) ηR),(600000900,DdR b9 73 d ed)] 600000000 (fun j=>if j=89 then qq b 258 c (qp c y u).2 else if j=94 then .none else if j=95 then .none else if j=86 then .none else o j)) (kU [some 600000500,some 600000600,some 600000700,some 600000900] (by simp only [go_sem,jb,jgm]<;>and_intros<;>first|rfl|assumption|trivial) (fun j hj=>by by_cases e89:j=89<;>by_cases e94:j=94<;>by_cases e95:j=95<;>by_cases e86:j=86<;>simp only [go_sem,e89,e94,e95,e86,hj,if_true,if_false,jA hj 600000500 (by omega),jA hj 600000600 (by omega),jA hj 600000700 (by omega),jA hj 600000900 (by omega),jA hj 600002702 (by omega),jA hj 600002703 (by omega),jb,jgm]) (by decide)) ?_
 refine qG 600000900 6 600090100 (d:=jz d.plan.edges) (η:=ed) (by simp only [go_sem]) (by simp only [go_sem]) (by decide) fun _=>?_
 refine qx 600000700 0 (l.length*11+6) 600090100 (η:=ηR) (η2:=ed) (cs:=d.plan.edges.flatMap jQ) rfl (jA7 _ _ 6) (.inr rfl) rfl (by decide) fun ηA hηA=>?_
 rw [jyW];refine WkK.of ?_;have hsn:D.sl 11 tDd (l.flatMap jo++(ddH d (ed [])).set 6 (.sl 2 tEd (d.plan.edges.flatMap jQ)))=jdD (l++[d]):=jus l d;have hw:IntKind.i64.wrap ((i:Int)+1)=((i+1:Nat):Int):=jg (by omega) (by omega)
 simp only [go_sem,hw];exact ⟨((i+1,(l++[d],y',(qp c y u).2)),ηA,ηo 2,ηo 3),⟨by dsimp only;omega,hDn,by rw [show m-(i+1)=f by omega];exact hXi⟩,(kU [some 600000500,some 600000600,some 600000700] (by simp only [go_sem,hw,hsn,hηA]<;>and_intros<;>first|rfl|assumption|trivial) (fun j hj=>by by_cases e89:j=89<;>by_cases e94:j=94<;>by_cases e95:j=95<;>by_cases e86:j=86<;>simp only [go_sem,e89,e94,e95,e86,hj,if_true,if_false,jA hj 600000500 (by omega),jA hj 600000600 (by omega),jA hj 600000700 (by omega),jA hj 600000900 (by omega),jA hj 600090100 (by omega),hw,hsn,hηA]) (by decide)),by (try dsimp only);omega⟩
def jyk (h:Int) (u:UInt8):Int:=jqI (IntKind.i64.wrap (IntKind.i64.wrap (IntKind.i64.wrap (h*131)+(u.toNat:Int))+7)) 1073741823
theorem jAz (c:List UInt8):jBw c=(c.take 4000).foldl jyk (94701+(c.length:Int)):=rfl
theorem jt8 {α β:Type} {f:β→α→β} {l:List α} {k:Nat} {x:α} (h:l[k]?=some x) (a:β):(l.take (k+1)).foldl f a=f ((l.take k).foldl f a) x:=by
 rw [List.take_add_one,h,List.foldl_append];rfl
theorem jyH (c:List UInt8) (hc:c.length≤1048576) (o:Nat→Ob):Inl Tryz.prog 132 [.c (.ro (jcy c))] o fun av o2=>∃b,av=Bx 800003100 b∧o2 800003100=qq b 258 c (jws c)∧∀g,g<800000000→o2 g=o g:=by
 refine qn (β:=8000000) Tryz.func132 jhy (by simp) ?_
 unfold jfz;have hw:IntKind.i64.wrap (94701+(c.length:Int))=94701+(c.length:Int):=jg (by omega) (by omega)
 simp only [go_sem,jas,hw];refine jp (fun i:Nat=>St.ofB [(0,.c (.ro (jcy c))),(3,Ni ((c.take i).foldl jyk (94701+(c.length:Int)))),(4,Ni i)] [] 800000000 (fun j=>o j)) (fun i=>i≤c.length∧i≤4000) (fun i=>c.length-i) 0 (⟨Nat.zero_le _,Nat.zero_le _⟩) (kU [] (by simp only [go_sem,hw,List.take_zero,List.foldl_nil]<;>and_intros<;>first|rfl|assumption|trivial) (fun j hj=>by simp only [go_sem,hj,if_true,if_false,hw,List.take_zero,List.foldl_nil]) (by decide)) ?_
 rintro k ⟨hk,hk4⟩;by_cases hlt:k<c.length;rotate_left
 ·have hlt':¬(k:Int)<(c.length:Int):=by omega
  have hf:(c.take k).foldl jyk (94701+(c.length:Int))=jBw c:=by
   rw [jAz,List.take_of_length_le (by omega),List.take_of_length_le (by omega)]
  rw [hf];simp only [go_sem,jas,hlt']
  exact fun b=>⟨b,rfl,rfl,fun g hg=>by
   have hg':¬g=800003100:=by omega
   simp only [hg',hg,if_true,if_false]⟩
 have hlt':(k:Int)<(c.length:Int):=by omega
 have h0k:(k:Int)≥0:=by omega
 by_cases hl4:k<4000;rotate_left
 ·have hl4':¬(k:Int)<4000:=by omega
  have hf:(c.take k).foldl jyk (94701+(c.length:Int))=jBw c:=by
   rw [show k=4000 by omega,jAz]
  rw [hf];simp only [go_sem,jas,hlt',hl4']
  exact fun b=>⟨b,rfl,rfl,fun g hg=>by
   have hg':¬g=800003100:=by omega
   simp only [hg',hg,if_true,if_false]⟩
 have hl4':(k:Int)<4000:=by omega
 obtain ⟨u,hu⟩:=je hlt;have hst:=jt8 (f:=jyk) hu (94701+(c.length:Int));have hwk:IntKind.i64.wrap ((k:Int)+1)=((k+1:Nat):Int):=jg (by omega) (by omega)
 simp only [go_sem,jas,hlt',hl4',hlt,h0k,jkX hu,jxg];exact ⟨k+1,by (try dsimp only);first|omega|assumption|(and_intros<;>first|omega|assumption),(kU [] (by simp only [go_sem,hwk,hst,jyk]<;>and_intros<;>first|rfl|assumption|trivial) (fun j hj=>by simp only [go_sem,hj,if_true,if_false,hwk,hst,jyk]) (by decide)),by (try dsimp only);omega⟩
def jdE:C:=iS [iA 2 (.alloc 37 [.int .i64 0,.int .i64 0,.slice none 0 0,.slice none 0 0])] (iS [iA 6 (iM 0),iA 7 (iM 0),iA 8 (.call 232 [.t 7,.c (.int .i64 26)]),iA 9 (.call 231 [.t 6,.t 8]),iA 5 (iM 9),iA 10 (iE 5 0),iA 11 (iE 5 1),iA 4 (.alloc 37 [.int .i64 0,.int .i64 0,.slice none 0 0,.slice none 0 0]),iA 3 (iM 10),iC (.st 4 [none,none,some (1,102),some (8,108)] (.t 4) (.t 11))] (iS [iA 12 (iT 4 4),iC (.st 4 [none,none,some (1,102),some (8,108)] (.t 2) (.t 12))] .ret))
theorem jgn:fnC Tryz.prog Tryz.f131=some (jdE,[.cell 2 true 4],13):=by kernel_rfl
theorem jv3 (c:List UInt8) (hc:c.length≤1048576) (s:Cu) (b:Nat) (o:Nat→Ob) (hs:s.1≤c.length) (ho:o 89=qq b 258 c s) (h86:o 86=.none) (h94:o 94=.none) (h95:o 95=.none):
 Inl Tryz.prog 131 [Bx 89 b] o fun av o2=>∃(e2 e3:jr) (b2:Nat),av=.agg [.v (.int .i64 (jjb c s).1.now),.v (.int .i64 (jjb c s).1.seq),.h 500000200 2 [] (e2 []),.h 500000200 3 [] (e3 [])]∧
  o2 500000200=kv b2 tYd (jjb c s).1.now (jjb c s).1.seq (jjb c s).1.shelf e2 (jjb c s).1.runs e3∧∀g,g<500000000→g≠89→o2 g=o g:=by
 refine qn (β:=5000000) Tryz.func131 jgn (by simp) ?_
 unfold jdE;simp only [go_sem];intro b2;refine kg (kC c hc 26 s b _ hs (by simp only [go_sem,ho])) (by simp only [go_sem]) ?_
 have s1:=ju (n:=26) hs;have x1:=jR c (n:=26) s (by omega)
 have hY:jjb c s=(za c (jq c 26 s).1.toNat ([],newYd,(jq c 26 s).2)).2:=rfl;generalize hq1:jq c 26 s=q1 at*;obtain ⟨m,hm⟩:∃m:Nat,q1.1=(m:Int):=⟨q1.1.toNat,by omega⟩
 rw [show q1.1.toNat=m by omega] at hY
 simp only [go_sem,hm];refine kS (by simp only [go_sem]) (jtW c hc m (by omega) q1.2 b _ s1 (by simp only [go_sem]) (by simp only [go_sem,h86]) (by simp only [go_sem,h94]) (by simp only [go_sem,h95])) fun av o' ⟨e,e2,e3,b5,hav,hl,hy,o2,hk⟩=>?_
 subst hav;have k2:=hk 500000200 (by decide) (by decide)
 simp only [go_sem] at k2;generalize hX:za c m ([],newYd,q1.2)=X at*;simp only [go_sem,k2,hy];refine fun b1=>⟨e2,e3,b2,by rw [hY],by rw [hY],fun g g1 g2=>?_⟩
 simp only [jA g1 500000200 (by omega),jA g1 500000400 (by omega),jA g1 600000500 (by omega),if_false]
 rw [hk g (by omega) g2]
 simp only [go_sem,g2,jA g1 500000200 (by omega),if_false]
def jcL:C:=iS [iA 2 (.alloc 37 [.int .i64 0,.int .i64 0,.slice none 0 0,.slice none 0 0])] (iS [iA 3 (iM 0),iA 4 (.call 132 [.t 3]),iA 5 (.call 131 [.t 4]),iC (.st 4 [none,none,some (1,102),some (8,108)] (.t 2) (.t 5))] .ret)
theorem jfl:fnC Tryz.prog Tryz.f53=some (jcL,[.cell 2 true 4],6):=by kernel_rfl
theorem jiN (c:List UInt8) (hc:c.length≤1048576):kr Tryz.prog 53 [.c (jcy c)] (.agg (jb (jjb c (jws c)).1)):=by
 refine js Tryz.func53 jfl (by simp) ?_
 unfold jcL;simp only [go_sem];intro b2;have hro:(jcy c).toRo=.ro (jcy c):=rfl;rw [hro];refine kS (by simp only [go_sem]) (jyH c hc _) fun av o' ⟨b,hav,ho,hk⟩=>?_
 subst hav;have k2:=hk 200 (by decide)
 simp only [go_sem] at k2;refine jam [some 800003100,some 200] [(89,qq b 258 c (jws c)),(200,ZYd b2 tYd)] [Bx 89 b] (by simp only [go_sem]<;>and_intros<;>rfl) (by simp only [go_sem]<;>and_intros<;>first|rfl|(rw [ho];exact of_eq_true (jW _))|(rw [k2];exact of_eq_true (jW _))) (jv3 c hc (jws c) b _ (Nat.zero_le _) rfl rfl rfl rfl) ?_
 rintro av o2 ⟨e2,e3,b3,hav,ho2,hk2⟩;subst hav;have q2:=hk2 200 (by decide) (by decide)
 simp only [go_sem] at q2;generalize (jjb c (jws c)).1=y at*;simp only [go_sem,q2,ho2,jb]
def idsLe (y:Yd):Prop:=∀r∈y.runs,r.id≤9
theorem zH {y z:Yd} (h:idsLe y) (he:z.runs.map (·.id)=y.runs.map (·.id)):idsLe z:=fun r hr=>by
 have:r.id∈y.runs.map (·.id):=he▸List.mem_map_of_mem hr
 obtain ⟨r',h1,h2⟩:=List.mem_map.1 this;rw [←h2];exact h r' h1
theorem jia {rs:List Rn} {k:Nat} {f:Rn→Rn} (hf:∀r,(f r).id=r.id):(rs.set k (f ((rs[k]?).getD default))).map (·.id)=rs.map (·.id):=by
 cases hr:rs[k]? with
 |none=>rw [List.set_eq_of_length_le (List.getElem?_eq_none_iff.1 hr)]
 |some r=>rw [Option.getD_some,jlr hr (hf r)]
theorem joo (r:Rn) (t:Int):(qf r t).id=r.id:=by
 unfold qf;split<;>rfl
theorem jnl (r:Rn):(vI r).id=r.id:=by
 unfold vI;split<;>rfl
theorem idsLe.restT {z:Yd} (h:idsLe z) (k:Nat):∀t,idsLe (restT z k t)
 |0=>h
 |t+1=>zH (idsLe.restT h k t) (jja _ _ _)
theorem idsLe.restR {y:Yd} (h:idsLe y):∀k,idsLe (restR y k)
 |0=>h
 |k+1=>(idsLe.restR h k).restT k _
theorem idsLe.stepF:∀(L:List (List Int)) {z:Yd},idsLe z→idsLe (L.foldl jlk z)
 |[],z,h=>h
 |l::L,z,h=>idsLe.stepF L (zH h (jja _ _ _))
theorem jrk (z:Yd) (h v:Nat):(pollV z h v).runs=z.runs:=rfl
theorem jkE (h:Nat):∀(vs:List Int) (z:Yd),(pollF h vs z).runs=z.runs
 |[],z=>rfl
 |v::vs,z=>by
  unfold pollF;split
  ·rw [jkE h vs,jrk]
  ·rfl
theorem joj (y:Yd) (k:Int):(ze y k).runs=y.runs:=by unfold ze;split<;>rfl
theorem jkD (y:Yd) (h:Nat) (d:Int):(pollZ y h d).runs=y.runs:=by rw [pollZ,jkE,joj]
theorem idsLe.poll {y:Yd} (h:idsLe y) (w d:Int):idsLe (zE y w d):=by
 unfold zE;split
 ·exact h
 ·split
  ·exact zH h (by rw [jkD])
  ·refine zH (y:=pollZ y (w.tmod 4).toNat d) (zH h (by rw [jkD])) ?_
   exact jia (f:=fun r=>kQ r _ _ _) fun r=>rfl
theorem idsLe.do {y:Yd} (h:idsLe y) {d:Dd} (hd:d.kind=1→d.run≤9):idsLe (doY y d):=by
 unfold doY;split
 ·exact h
 split
 ·rename_i h1
  unfold jeg;split
  ·intro r hr
   rcases List.mem_append.1 hr with hr|hr
   ·exact h r hr
   ·obtain rfl:=List.mem_singleton.1 hr
    exact hd h1
  ·exact h
 split
 ·exact h.poll _ _
 split
 ·unfold jcz
  split
  ·exact zH h (jia (f:=fun r=>qf r _) fun r=>joo r _)
  ·exact h
 split
 ·unfold jcx
  split
  ·exact zH h (jia (f:=fun r=>jD r _) fun r=>(jbt r _).1)
  ·exact h
 split
 ·unfold jbp
  split
  ·exact fun r hr=>idsLe.stepF _ h r hr
  ·exact h
 split
 ·unfold jO
  split
  ·exact zH h (jia (f:=vI) jnl)
  ·exact h
 split
 ·unfold qO
  split
  ·exact fun r hr=>h r (List.mem_of_mem_eraseIdx hr)
  ·exact h
 ·unfold jcj
  split
  ·exact h.restR _
  ·exact h
theorem juv (c:List UInt8) (y:Yd) (s:Cu):(qp c y s).1.kind=1→(qp c y s).1.run≤9:=by
 unfold qp;dsimp only;have x2:=(jR c (n:=9) (jq c 20 s).2 (by omega)).2
 repeat' split
 all_goals first
  |(intro h;dsimp only at h⊢;omega)
  |(intro h;exact absurd h (by decide))
theorem jk1 (c:List UInt8):∀(n:Nat) {x:List Dd×Yd×Cu},idsLe x.2.1→idsLe (za c n x).2.1
 |0,x,h=>h
 |n+1,x,h=>jk1 c n (h.do (juv c x.2.1 x.2.2))
theorem jAw {y:Yd} {id:Int} (h:idsLe y) (h8:y.runs.length≤8) (hid:9<id):runAt y id=-1:=by
 rw [runAt,if_neg (by omega)]
 exact ja5 fun j _ z hz he=>by have:=h z (List.mem_of_getElem? hz);omega
theorem jh8 {y:Yd} (h:YdI y):ky y+jan y.runs=(vq kF y.runs:Int)+y.shelf.flatten.length:=by
 have hf:=ji6 h.rns.eight h.rns.ids h.ens
 have hst:qd y (zN y)+(y.shelf.flatten.filter (jT y)).length=y.shelf.flatten.length:=by
  simp only [qd,zN,List.countP_eq_length_filter];have:=List.length_eq_countP_add_countP (jT y) (l:=y.shelf.flatten);simp only [List.countP_eq_length_filter] at this;have e:y.shelf.flatten.filter (fun e=>!jT y e)=y.shelf.flatten.filter (fun a=>decide ¬jT y a=true):=List.filter_congr fun a _=>by cases jT y a<;>rfl
  rw [e];omega
 simp only [ky];omega
theorem jle {l:List Rn} {k:Nat} {r:Rn} (hr:l[k]?=some r) (f:Rn→Nat):vq f (l.eraseIdx k)+f r=vq f l∧∀r2,vq f (l.set k r2)+f r=vq f l+f r2:=by
 obtain ⟨hk,e⟩:=List.getElem?_eq_some_iff.1 hr;have h1:l=l.take k++r::l.drop (k+1):=by rw [←e];simp
 have h2:l.eraseIdx k=l.take k++l.drop (k+1):=List.eraseIdx_eq_take_drop_succ _ _;refine ⟨?_,fun r2=>?_⟩
 ·rw [h2]
  conv=>rhs;rw [h1]
  simp only [vq,List.map_append,List.sum_append,List.map_cons,List.sum_cons];omega
 ·have h3:l.set k r2=l.take k++r2::l.drop (k+1):=by rw [List.set_eq_take_append_cons_drop,if_pos hk]
  rw [h3]
  conv=>rhs;rw [h1]
  simp only [vq,List.map_append,List.sum_append,List.map_cons,List.sum_cons];omega
theorem jtG {r:Rn} (h:RunOkP r) (hs:r.state=1):vI r=⟨r.id,r.plan,4,qS jy r.tasks r.tasks.length⟩:=jiY (by rw [runOk_iff.2 h,hs];rfl)
structure AwayP (y:Yd) (r:Rn):Prop where
 cc:kI y r.id=if r.state=1 then 0 else 12
 fc:vJ (jO y r.id) r.id=0
 fy:vJ y r.id=if r.state=1 then 13 else 0
 okc:YardOkP (jO y r.id)
 okf:YardOkP (qO (jO y r.id) r.id)
 gone:runAt (qO (jO y r.id) r.id) r.id=-1
 slots:ky (qO (jO y r.id) r.id)≤ky y
 over:r.id∈jiT y↔r.state≠1
theorem away {y:Yd} (hI:YdI y) (hq:y.seq≤100000) {i:Nat} {r:Rn} (hr:y.runs[i]?=some r):AwayP y r:=by
 have hok:=vD (hI.ok (by omega))
 have hk:=jk8 hI.rns.eight hI.rns.ids hr;have hneg:¬runAt y r.id<0:=by omega
 have hg:(y.runs[(runAt y r.id).toNat]?).getD default=r:=by rw [hk,Int.toNat_natCast,hr];rfl
 have hR:=hI.rns.right r (List.mem_of_getElem? hr)
 have cc:kI y r.id=if r.state=1 then 0 else 12:=by
  unfold kI;rw [if_neg (by simp [hok]),if_neg hneg,hg]
 have fy:vJ y r.id=if r.state=1 then 13 else 0:=by
  unfold vJ;rw [if_neg (by simp [hok]),if_neg hneg,hg]
 have hz:∃r',(jO y r.id).runs[i]?=some r'∧r'.id=r.id∧r'.state≠1∧(jO y r.id).seq=y.seq∧ky (jO y r.id)≤ky y:=by
  have hZ:=hI.cancel r.id;by_cases hs:r.state=1
  ·have hc0:kI y r.id=0:=by rw [cc,if_pos hs]
   have hcy:jO y r.id=jdu y i (vI r):=by rw [jO,if_pos hc0,hg,hk,Int.toNat_natCast]
   have s1:=jh8 hZ;have s2:=jh8 hI;rw [hcy] at s1⊢;have hi:=(List.getElem?_eq_some_iff.1 hr).1;refine ⟨vI r,List.getElem?_set_self hi,jnl r,by rw [jtG hR hs];simp,rfl,?_⟩
   have t1:=(jle hr kF).2 (vI r);have t2:=(jle hr fun r=>cS 2 r.tasks).2 (vI r)
   have hl:=zo hR;have hl0:kF (vI r)=0:=by rw [jtG hR hs];simp [kF]
   simp only [jdu,jan] at s1 s2⊢;omega
  ·have hcy:jO y r.id=y:=by rw [jO,if_neg (by rw [cc,if_neg hs];decide)]
   rw [hcy];exact ⟨r,hr,rfl,hs,rfl,Int.le_refl _⟩
 obtain ⟨r',hr',hid,hs',hsq,hsl⟩:=hz;have hZ:=hI.cancel r.id;generalize hzz:jO y r.id=z at*;have hokz:=hZ.ok (by omega)
 have hkz:=jk8 hZ.rns.eight hZ.rns.ids hr';rw [hid] at hkz;have hgz:(z.runs[(runAt z r.id).toNat]?).getD default=r':=by rw [hkz,Int.toNat_natCast,hr'];rfl
 have fc:vJ z r.id=0:=by
  unfold vJ;rw [if_neg (by simp [vD hokz]),if_neg (by omega),hgz,if_neg hs']
 have hW:=hZ.forget r.id;have hwy:qO z r.id=⟨z.now,z.seq,z.shelf.map (fun l=>l.filter (jbn r.id)),z.runs.eraseIdx i⟩:=by rw [qO,if_pos fc,hkz,Int.toNat_natCast]
 have hwz:∀x∈(qO z r.id).runs,x.id≠r.id:=by
  rw [hwy];intro x hx he;obtain ⟨j,hjk,hj⟩:=List.mem_eraseIdx_iff_getElem?.1 hx;exact hjk (jnw hZ.rns.ids hj hr' (he.trans hid.symm))
 refine ⟨cc,by rw [hzz];exact fc,fy,by rw [hzz];exact hokz,by rw [hzz];exact hW.ok (by rw [hwy];dsimp only;omega),?_,?_,?_⟩
 ·rw [hzz,runAt,if_neg (by have:=hW.rns.eight;omega)]
  exact ja5 fun j _ x hx=>hwz x (List.mem_of_getElem? hx)
 ·rw [hzz]
  have s1:=jh8 hW;have s2:=jh8 hZ;rw [hwy] at s1⊢;have hfl:(z.shelf.map fun l=>l.filter (jbn r.id)).flatten=z.shelf.flatten.filter (jbn r.id):=by rw [List.filter_flatten]
  have hlen:(z.shelf.flatten.filter (jbn r.id)).length≤z.shelf.flatten.length:=List.length_filter_le _ _;have t1:=(jle hr' kF).1;have t2:=(jle hr' fun r=>cS 2 r.tasks).1
  have hl:=zo (hZ.rns.right r' (List.mem_of_getElem? hr'));have hl0:kF r'=0:=by rw [kF,if_neg hs']
  simp only [jan] at s1 s2;rw [hfl] at s1;omega
 ·simp only [jiT,jgj,List.mem_map,List.mem_filter,bne_iff_ne]
  constructor
  ·rintro ⟨x,⟨hx,hxs⟩,he⟩
   rwa [←jik hI.rns.ids hx (List.mem_of_getElem? hr) he]
  ·intro h
   exact ⟨r,⟨List.mem_of_getElem? hr,h⟩,rfl⟩
def jk4:C:=iS [iA 2 (iO false)] (iS [iA 3 (iM 0),iA 4 (iG 3),iA 5 (iQ .gtr 3 4 1048576),iA 2 (iM 5)] .ret)
theorem jmi:fnC Tryz.prog Tryz.f52=some (jk4,[.t 2],6):=by kernel_rfl
theorem p_big (c:List UInt8):kr Tryz.prog 52 [.c (jcy c)] (.c (.val (.bool (decide ((1048576:Int)<(c.length:Int)))))):=by
 refine js Tryz.func52 jmi (by simp) ?_
 unfold jk4;have hro:(jcy c).toRo=.ro (jcy c):=rfl;simp only [go_sem,hro,jas]
def jfJ:C:=iS [iA 4 (iO false)] (.seq (iS [iA 5 (iN 0)] (.blk 0 (.loop (.seq (iS [iA 6 (iM 5),iA 7 (iM 0),iA 8 (iG 7),iA 9 (iP .lss 3 6 8)] (iD 9 .skip (.exit 0))) (.seq (.blk 1 (iS [iA 12 (iM 0),iA 13 (iM 5),iA 14 (iI 1 12 13),iA 15 (iL 14),iA 16 (iM 1),iA 17 (iP .eql 3 15 16)] (iD 17 (iS [iA 4 (iO true)] .ret) .skip))) (.reg [iA 10 (iM 5),iA 11 (iQ .add 3 10 1),iA 5 (iM 11)])))))) (iS [iA 4 (iO false)] .ret))
theorem jhI:fnC Tryz.prog Tryz.f69=some (jfJ,[.t 4],18):=by kernel_rfl
theorem jpT (xs:List Int) (v:Int) (hl:xs.length≤2000000):kr Tryz.prog 69 [.c (jf xs),.c (.val (.int .i64 v))] (.c (.val (.bool (decide (v∈xs))))):=by
 refine js Tryz.func69 jhI (by simp) ?_
 unfold jfJ;simp only [go_sem];refine jp (fun i:Nat=>St.of [(0,.c (.ro (jf xs))),(1,Ni v),(5,Ni i)] []) (fun i=>i≤xs.length∧v∉xs.take i) (fun i=>xs.length-i) 0 (⟨Nat.zero_le _,by simp⟩) (ji [] (by simp only [go_sem]<;>and_intros<;>first|rfl|assumption|trivial)) ?_
 rintro k ⟨hk,hno⟩;by_cases hlt:k<xs.length;rotate_left
 ·have hlt':¬(k:Int)<(xs.length:Int):=by omega
  rw [List.take_of_length_le (by omega)] at hno
  simp only [go_sem,hlt',hno]
 have hlt':(k:Int)<(xs.length:Int):=by omega
 obtain ⟨x,hx⟩:=je hlt;have hw:IntKind.i64.wrap ((k:Int)+1)=((k+1:Nat):Int):=jg (by omega) (by omega)
 by_cases e:x=v
 ·have hin:v∈xs:=e▸List.mem_of_getElem? hx
  simp only [go_sem,hlt',hlt,zJ hx,e,hin,beq_self_eq_true]
 have hno':v∉xs.take (k+1):=by
  rw [List.take_add_one,hx];simp [hno,Ne.symm e]
 have eb:(x==v)=false:=by simp [e]
 simp only [go_sem,hlt',hlt,zJ hx,eb,hw];exact ⟨k+1,⟨by omega,hno'⟩,(ji [] (by simp only [go_sem,hw]<;>and_intros<;>first|rfl|assumption|trivial)),by (try dsimp only);omega⟩
noncomputable def dY (c:List UInt8):Yd:=(jjb c (jws c)).1
theorem dY_I (c:List UInt8):YdI (dY c)∧(dY c).seq≤100000:=by
 have s1:=ju (c:=c) (n:=26) (s:=jws c) (Nat.zero_le _);have x1:=jR c (n:=26) (jws c) (by omega)
 have h:=jqs (c:=c) (jq c 26 (jws c)).1.toNat 0 (.start s1);refine ⟨h.yd,?_⟩;have:=h.seq;simp only [dY,jjb];omega
theorem jA9 (c:List UInt8):idsLe (dY c):=jk1 c _ (fun r hr=>by simp [newYd] at hr)
def jd1:C:=iS [iA 2 (iO false)] (.seq (iS [iA 19 (iM 0),iA 20 (.call 52 [.t 19])] (iD 20 (iS [iA 2 (iO true)] .ret) .skip)) (iS [iA 21 (iM 0),iA 22 (.call 53 [.t 21]),iA 3 (.alloc 37 [.int .i64 0,.int .i64 0,.slice none 0 0,.slice none 0 0]),iC (.st 4 [none,none,some (1,102),some (8,108)] (.t 3) (.t 22))] (iS [iA 23 (iM 0),iA 24 (.call 53 [.t 23]),iA 4 (.alloc 37 [.int .i64 0,.int .i64 0,.slice none 0 0,.slice none 0 0]),iC (.st 4 [none,none,some (1,102),some (8,108)] (.t 4) (.t 24))] (iS [iA 25 (iT 4 3),iA 26 (.call 66 [.t 25]),iA 5 (iM 26)] (.seq (iS [iA 6 (iN 0)] (.blk 0 (.loop (.seq (iS [iA 27 (iM 6),iA 28 (iF 3 4),iA 29 (iL 28),iA 30 (iG 29),iA 31 (iP .lss 3 27 30)] (iD 31 .skip (.exit 0))) (.seq (.blk 1 (iS [iA 34 (iF 3 4),iA 35 (iL 34),iA 36 (iM 6),iA 37 (iI 8 35 36),iA 38 (iF 0 37),iA 39 (iL 38),iA 7 (iM 39)] (iS [iA 40 (iF 3 4),iA 41 (iL 40),iA 42 (iM 6),iA 43 (iI 8 41 42),iA 44 (iF 6 43),iA 45 (iL 44),iA 46 (iQ .eql 3 45 1),iA 8 (iM 46)] (iS [iA 48 (iT 4 3),iA 49 (iM 7),iA 50 (.call 67 [.t 48,.t 49]),iA 47 (iM 50),iA 51 (iE 47 0),iA 52 (iE 47 1),iA 9 (.alloc 37 [.int .i64 0,.int .i64 0,.slice none 0 0,.slice none 0 0]),iC (.st 4 [none,none,some (1,102),some (8,108)] (.t 9) (.t 51)),iA 10 (iM 52)] (iS [iA 54 (iT 4 9),iA 55 (iM 7),iA 56 (.call 68 [.t 54,.t 55]),iA 53 (iM 56),iA 57 (iE 53 0),iA 58 (iE 53 1),iA 11 (.alloc 37 [.int .i64 0,.int .i64 0,.slice none 0 0,.slice none 0 0]),iC (.st 4 [none,none,some (1,102),some (8,108)] (.t 11) (.t 57)),iA 12 (iM 58)] (iS [iA 60 (iT 4 3),iA 61 (iM 7),iA 62 (.call 68 [.t 60,.t 61]),iA 59 (iM 62),iA 63 (iE 59 0),iA 64 (iE 59 1),iA 13 (.alloc 37 [.int .i64 0,.int .i64 0,.slice none 0 0,.slice none 0 0]),iC (.st 4 [none,none,some (1,102),some (8,108)] (.t 13) (.t 63)),iA 14 (iM 64)] (.seq (.dreg (T.pure 0 (iA 65 (iM 10)) (T.pure 1 (iA 66 (iQ .eql 3 65 0)) (T.pure 2 (iA 67 (iM 8)) (T.pure 3 (iA 68 (.beq true (.t 66) (.t 67))) (T.pure 4 (iA 69 (iM 68)) (T.pure 5 (iB 70 69 false (iM 10)) (T.pure 6 (iB 71 69 false (iQ .eql 3 70 12)) (T.pure 7 (iB 72 69 false (iM 8)) (T.pure 8 (iB 73 69 false (.beq false (.t 71) (.t 72))) (T.pure 9 (iA 74 (.pick (.t 69) (.c (.bool true)) (.t 73))) (T.pure 10 (iA 75 (iM 74)) (T.pure 11 (iB 76 75 false (iM 12)) (T.pure 12 (iB 77 75 false (iQ .neq 3 76 0)) (T.pure 13 (iA 78 (.pick (.t 75) (.c (.bool true)) (.t 77))) (T.pure 14 (iA 79 (iM 78)) (T.pure 15 (iB 80 79 false (iM 14)) (T.pure 16 (iB 81 79 false (iQ .eql 3 80 13)) (T.pure 17 (iB 82 79 false (iM 8)) (T.pure 18 (iB 83 79 false (.beq true (.t 81) (.t 82))) (T.pure 19 (iA 84 (.pick (.t 79) (.c (.bool true)) (.t 83))) (T.pure 20 (iA 85 (iM 84)) (T.pure 21 (iB 86 85 false (iM 5)) (T.pure 22 (iB 87 85 false (iM 7)) (T.pure 24 (iB 89 85 false (iM 8)) (T.alt (iB 88 85 false (.call 69 [.t 86,.t 87])) [24] (T.pure 25 (iB 90 85 false (.beq false (.t 88) (.t 89))) (T.pure 26 (iA 91 (.pick (.t 85) (.c (.bool true)) (.t 90))) (T.pure 27 (iA 92 (iM 91)) (T.pure 28 (iB 93 92 false (iT 4 9)) (T.alt (iB 94 92 false (.call 59 [.t 93])) [] (T.pure 30 (iB 95 92 false (iU 94)) (T.pure 31 (iA 96 (.pick (.t 92) (.c (.bool true)) (.t 95))) (T.pure 32 (iA 97 (iM 96)) (T.pure 33 (iB 98 97 false (iT 4 11)) (T.alt (iB 99 97 false (.call 59 [.t 98])) [] (T.pure 35 (iB 100 97 false (iU 99)) (T.pure 36 (iA 101 (.pick (.t 97) (.c (.bool true)) (.t 100))) (T.pure 37 (iA 102 (iM 101)) (T.pure 38 (iB 103 102 false (iT 4 11)) (T.pure 39 (iB 104 102 false (iM 7)) (T.alt (iB 105 102 false (.call 56 [.t 103,.t 104])) [] (T.pure 41 (iB 106 102 false (iQ .neq 3 105 (-1))) (T.pure 42 (iA 107 (.pick (.t 102) (.c (.bool true)) (.t 106))) (T.pure 43 (iA 108 (iM 107)) (T.pure 44 (iB 109 108 false (iT 4 11)) (T.pure 46 (iB 111 108 false (iT 4 3)) (T.alt (iB 110 108 false (.call 62 [.t 109])) [46] (T.alt (iB 112 108 false (.call 62 [.t 111])) [] (T.pure 48 (iB 113 108 false (iP .gtr 3 110 112)) (T.pure 49 (iA 114 (.pick (.t 108) (.c (.bool true)) (.t 113))) T.done)) T.stop) T.stop)))))) T.stop)))))) T.stop))))) T.stop))))) T.stop)))))))))))))))))))))))))) (iD 114 (iS [iA 2 (iO false)] .ret) .skip)))))))) (.reg [iA 32 (iM 6),iA 33 (iQ .add 3 32 1),iA 6 (iM 33)])))))) (iS [iA 116 (iT 4 3),iA 117 (.call 67 [.t 116,.c (.int .i64 5000)]),iA 115 (iM 117),iA 118 (iE 115 0),iA 119 (iE 115 1),iA 15 (.alloc 37 [.int .i64 0,.int .i64 0,.slice none 0 0,.slice none 0 0]),iC (.st 4 [none,none,some (1,102),some (8,108)] (.t 15) (.t 118)),iA 16 (iM 119)] (iS [iA 121 (iT 4 3),iA 122 (.call 68 [.t 121,.c (.int .i64 5000)]),iA 120 (iM 122),iA 123 (iE 120 0),iA 124 (iE 120 1),iA 17 (.alloc 37 [.int .i64 0,.int .i64 0,.slice none 0 0,.slice none 0 0]),iC (.st 4 [none,none,some (1,102),some (8,108)] (.t 17) (.t 123)),iA 18 (iM 124)] (iS [iA 125 (iM 16),iA 126 (iQ .eql 3 125 10),iA 127 (iM 126),iB 128 127 true (iM 18),iB 129 127 true (iQ .eql 3 128 10),iA 130 (.pick (.t 127) (.t 129) (.c (.bool false))),iA 2 (iM 130)] .ret))))))))
theorem jgK:fnC Tryz.prog Tryz.f10=some (jd1,[.t 2],131):=by kernel_rfl
theorem jrl (c:List UInt8):kr Tryz.prog 10 [.c (jcy c)] (.c (.val (.bool true))):=by
 refine js Tryz.func10 jgK (by simp) ?_
 unfold jd1;simp only [go_sem];have hro:(jcy c).toRo=.ro (jcy c):=rfl;refine jc (p_big c) (by simp only [go_sem,hro]) fun η0=>?_
 simp only [go_sem,hro];by_cases hbig:(1048576:Int)<(c.length:Int)
 ·simp only [go_sem,hbig]
 have hc:c.length≤1048576:=by omega
 simp only [go_sem,hbig];obtain ⟨hI,hq⟩:=dY_I c;have hids:=jA9 c;have pD:=jiN c hc;change kr _ _ _ (.agg (jb (dY c))) at pD;generalize dY c=y at*;have hok:=hI.ok (by omega)
 have hs700:=hok.small;have ht:jK y≤2000000:=by omega
 refine jc (pD) (by simp only [go_sem,hro]) fun η1=>?_
 simp only [go_sem,hro];simp only [go_sem,jb];intro b3;refine jc (pD) (by simp only [go_sem,hro]) fun η2=>?_
 simp only [go_sem,hro];simp only [go_sem,jb];intro b4;refine jc (jlP y ht) (by simp only [go_sem,jb]) fun η3=>?_
 simp only [go_sem,jb];have hrun8:=hok.eight
 have hov:(jiT y).length≤2000000:=by
  have:=List.length_filter_le (fun r:Rn=>r.state !=1) y.runs
  simp only [jiT,jgj,List.length_map];omega
 refine jp (fun i:Nat=>St.of [(3,Bx 300 b3),(4,Bx 400 b4),(5,Hd 2600 (η3 0)),(6,Ni i)] [(300,kv b3 tYd y.now y.seq y.shelf (η1 2) y.runs (η1 3)),(400,kv b4 tYd y.now y.seq y.shelf (η2 2) y.runs (η2 3)),(2600,.loose (jf (jiT y)) (η3 0))]) (fun i=>i≤y.runs.length) (fun i=>y.runs.length-i) 0 ((Nat.zero_le _)) (ji [some 300,some 400,some 2600] (by simp only [go_sem]<;>and_intros<;>first|rfl|assumption|trivial)) ?_
 rintro i hi;by_cases hlt:i<y.runs.length;rotate_left
 ·have hlt':¬(i:Int)<(y.runs.length:Int):=by omega
  have hno:=jAw (id:=5000) hids hrun8 (by decide)
  have hc5:kI y 5000=10:=by unfold kI;rw [if_neg (by simp [vD hok]),if_pos (by omega)]
  have hf5:vJ y 5000=10:=by unfold vJ;rw [if_neg (by simp [vD hok]),if_pos (by omega)]
  simp only [go_sem,hlt'];refine jc (jbx y 5000 ht) (by simp only [go_sem,jb]) fun ηc=>?_
  simp only [go_sem,jb];intro b15;refine jc (jad y 5000 ht) (by simp only [go_sem,jb]) fun ηf=>?_
  simp only [go_sem,jb];intro b17;simp only [go_sem,hc5,hf5,beq_self_eq_true]
 have hlt':(i:Int)<(y.runs.length:Int):=by omega
 have h0i:(i:Int)≥0:=by omega
 obtain ⟨r,hr⟩:=je hlt;have hA:=away hI hq hr;have hw:IntKind.i64.wrap ((i:Int)+1)=((i+1:Nat):Int):=jg (by omega) (by omega)
 have tz:jK (jO y r.id)≤2000000:=by have:=hA.okc.small;omega
 have tw:jK (qO (jO y r.id) r.id)≤2000000:=by have:=hA.okf.small;omega
 simp only [go_sem,hlt',hlt,h0i,Nat.add_zero,juP hr,jtZ hr,juO hr,jtY hr,jd,ja];refine jc (jbx y r.id ht) (by simp only [go_sem,jb]) fun ηc=>?_
 simp only [go_sem,jb];intro b9;refine jc (jad (jO y r.id) r.id tz) (by simp only [go_sem,jb]) fun ηf=>?_
 simp only [go_sem,jb];intro b11;refine jc (jad y r.id ht) (by simp only [go_sem,jb]) fun ηg=>?_
 simp only [go_sem,jb];intro b13;have ov:=hA.over;have hft:(false==true)=false:=rfl;have htf:(true==false)=false:=rfl;have hok1:=vD hA.okc;have hok2:=vD hA.okf;have hgo:=hA.gone;have hsl:¬ky y<ky (qO (jO y r.id) r.id):=by have:=hA.slots;omega
 have e3:=hA.fc;have e1:=hA.cc;have e2:=hA.fy;by_cases hs:r.state=1
 ·rw [if_pos hs] at e1 e2
  have e4:decide (r.id∈jiT y)=false:=by simp [ov,hs]
  simp only [go_sem,e1,e2,e3,hs,beq_self_eq_true,hft,htf];refine jc (jpT (jiT y) r.id hov) (by simp only [go_sem]) fun ηh=>?_
  simp only [go_sem];simp only [go_sem,e4,hft,htf,beq_self_eq_true];refine jc (kw (jO y r.id) tz) (by simp only [go_sem,jb]) fun ηi=>?_
  simp only [go_sem,jb];simp only [go_sem,hok1];refine jc (kw (qO (jO y r.id) r.id) tw) (by simp only [go_sem,jb]) fun ηj=>?_
  simp only [go_sem,jb];simp only [go_sem,hok2];refine jc (kN (qO (jO y r.id) r.id) r.id) (by simp only [go_sem,jb]) fun ηk=>?_
  simp only [go_sem,jb];simp only [go_sem,hgo,bne_self_eq_false];refine jc (vx (qO (jO y r.id) r.id) tw) (by simp only [go_sem,jb]) fun ηl=>?_
  simp only [go_sem,jb];refine jc (vx y ht) (by simp only [go_sem,jb]) fun ηm=>?_
  simp only [go_sem,jb];simp only [go_sem,hsl,hw];exact ⟨i+1,by (try dsimp only);first|omega|assumption|(and_intros<;>first|omega|assumption),(ji [some 300,some 400,some 2600] (by simp only [go_sem,hw]<;>and_intros<;>first|rfl|assumption|trivial)),by (try dsimp only);omega⟩
 rw [if_neg hs] at e1 e2;have hs':(r.state==1)=false:=by simp [hs]
 have e4:decide (r.id∈jiT y)=true:=by simp [ov,hs]
 simp only [go_sem,e1,e2,e3,hs',beq_self_eq_true,hft,htf];refine jc (jpT (jiT y) r.id hov) (by simp only [go_sem]) fun ηh=>?_
 simp only [go_sem];simp only [go_sem,e4,hft,htf,beq_self_eq_true];refine jc (kw (jO y r.id) tz) (by simp only [go_sem,jb]) fun ηi=>?_
 simp only [go_sem,jb];simp only [go_sem,hok1];refine jc (kw (qO (jO y r.id) r.id) tw) (by simp only [go_sem,jb]) fun ηj=>?_
 simp only [go_sem,jb];simp only [go_sem,hok2];refine jc (kN (qO (jO y r.id) r.id) r.id) (by simp only [go_sem,jb]) fun ηk=>?_
 simp only [go_sem,jb];simp only [go_sem,hgo,bne_self_eq_false];refine jc (vx (qO (jO y r.id) r.id) tw) (by simp only [go_sem,jb]) fun ηl=>?_
 simp only [go_sem,jb];refine jc (vx y ht) (by simp only [go_sem,jb]) fun ηm=>?_
 simp only [go_sem,jb];simp only [go_sem,hsl,hw];exact ⟨i+1,by (try dsimp only);first|omega|assumption|(and_intros<;>first|omega|assumption),(ji [some 300,some 400,some 2600] (by simp only [go_sem,hw]<;>and_intros<;>first|rfl|assumption|trivial)),by (try dsimp only);omega⟩
open Go.ChangeShapes Go.WideShapes Go.ChangeAt Go.RowKit
theorem own:ownKnob Tryz.prog.godebug=none:=by kernel_rfl
theorem laid:laidOutB Tryz.prog=true:=by kernel_rfl
section
variable {H:Type} {enc:TypeId×Value→H} {P:Program}
theorem jrj {f:Func} {s:ChangeSpec} {apart jT handsOn again:Bool} {W W':World} {args:Array Value} {v:Value} {ds gs:List (DataW H)} {before pa pv:List MemPlace}
 (hW:DataW.Whole enc P f.params.toList s.vars apart W args.toList ds gs before)
 (hres:∀(b:Nat) (sp:Nat→Bool) (hd:Bool),DataW.TrodAll enc P W' b sp hd f.resultTypes.toList (v.resultList f.resultTypes.size) (s.fn H (ds++gs)).results [])
 (hargs:∀sp:Nat→Bool,(∀p∈before,sp p.block=true)→DataW.TrodAll enc P W' 0 sp true f.params.toList args.toList (s.fn H (ds++gs)).args pa)
 (hvars:∀sp:Nat→Bool,(∀p∈before,sp p.block=true)→DataW.TrodVars enc P W' sp s.vars (s.fn H (ds++gs)).vars pv)
 (hps:before=pa++pv) (hb:Below W.heap.size W W')
 (hok:∀(j:Nat) (t:TypeId) (r:Value),f.resultTypes[j]?=some t→(v.resultList f.resultTypes.size)[j]?=some r→Value.okWide P W' .any 0 t r):
 s.post enc P f apart jT handsOn again W args v W':=by
 have hlt:∀p∈before,p.block<W.heap.size:=fun p hp=>hW.lt p hp
 have hold:∀p∈before,(fun b=>decide (b<W.heap.size)) p.block=true:=fun p hp=>by simpa using hlt p hp
 refine ⟨ds,gs,before,[],pa,pv,hW,hres _ _ _,hargs _ hold,hvars _ hold,World.keptBut_mono (fun p hp=>⟨hp,?_⟩) (hb.frame (· ∈before)),fun _=>?_⟩
 ·rw [hps,List.mem_append] at hp
  exact Or.inr hp
 ·obtain ⟨_,_,_,_,_,hz,hn⟩:=hW
  refine ⟨hok,_,_,([]++pa)++pv,⟨[]++pa,pv,trodAll_append (hargs _ (fun _ _=>rfl)) (hres _ _ _),hvars _ (fun _ _=>rfl),rfl,?_,?_⟩,?_⟩
  ·intro b off hp
   have hin:MemPlace.cell b off∈before:=by rw [hps];simpa using hp
   rw [hb.frozen (hlt _ hin)];exact hz b off hin
  ·intro ha
   have:=hn ha;rw [hps] at this;simpa using this
  ·intro p hp _
   rw [hps];simpa using hp
theorem juT {t:TypeId} (hl:laidOutB P=true) (hr:P.readableRec t=true) (hrow:t<P.types.size) {W W':World} {v:Value} {d:DataW H} {ps:List MemPlace} {sp:Nat→Bool}
 (h:DataW.Trod enc P W 0 (fun _=>true) true t v d ps) (hb:Below W.heap.size W W') (hlt:∀x∈ps,x.block<W.heap.size) (hsp:∀x∈ps,sp x.block=true):
 DataW.Trod enc P W' 0 sp true t v d ps:=
 WideElems.Trod_stays hl hr hrow h (fun x hx=>hb.same (hlt x hx)) (fun x hx=>hsp x hx)
end
theorem jyg {H:Type} {enc:TypeId×Value→H} {P:Program} {t e:TypeId} {α:Type} {E:α→D} {X:α→Prop} (hra:ReadsAs P t (fun x=>[E x]) X) (ht:P.underlying t=some (.slice e))
 {W:World} {v:Value} {d:DataW H} {p:List MemPlace} {base:Nat} {spare:Nat→Bool} {held:Bool} {r:_root_.Go.Reach} {b0:Nat} (hv:Value.okWide P W r b0 t v) (h:DataW.Trod enc P W base spare held t v d p):
 ∃x,X x∧∃S,Rep W false (E x) v S:=by
 obtain ⟨a,len,cap,rfl⟩:=okWide_slice ht hv;obtain ⟨fuel,hf⟩:=h;obtain ⟨x,hx,S,hr⟩:=hra _ _ _ _ _ _ _ _ _ hf;obtain ⟨u,us,S1,S2,h1,rfl,h2,rfl,rfl⟩:=hr;have h1':[Value.slice a len cap]=[u]:=h1;cases h1';exact ⟨x,hx,S1,h2⟩
theorem jtK {P:Program} {f:FuncId} {vs:List View} {args:List Value} {w:World} (h:kr P f vs (.c (.val (.bool true)))) (hv:zC w vs args):
 Calls P f args.toArray w fun e w'=>e=.returned (.bool true)∧Below w.heap.size w w':=
 (h.2 w args hv).mono fun e w' ⟨v,S,he,hr,_,hb⟩=>⟨by rw [he,show v=_ from hr.1],hb⟩
end Go.Proofs.YtmnpailnelmpiaaGreat
namespace Go.Proofs.YtmnpailnelmpiaaGreat.lawAways
open Go.ChangeShapes Go.WideShapes Go.ChangeAt Go.RowKit
set_option maxRecDepth 100000 in
theorem lifted (os:Os) (started:os.Started) (H:Type) (enc:TypeId×Value→H):
 ReturnsInHanded {} Tryz.checked os 10 .any (Rows.fnAwaysSpec.pre6 enc Tryz.prog Tryz.f10 Rows.fnAwaysRow.domain false) (Rows.fnAwaysSpec.post enc Tryz.prog Tryz.f10 false true false false):=by
 refine returnsInHanded_of_change (C:=Tryz.checked) own started (by kernel_rfl) Tryz.func10
  (ChangeSpec.witness6 (enc:=enc) (C:=Tryz.checked) false ⟨#[],#[.slice none 0 0],[]⟩ 8 (by kernel_rfl) (by kernel_rfl) (by kernel_rfl) (by kernel_rfl)) ?_
 intro W base args ds gs before hval0 hW hcnd _;have hval:∀(j:Nat) t v,Tryz.f10.params[j]?=some t→args[j]?=some v→Value.okWide Tryz.prog W .any base t v:=hval0;have hW':=hW;obtain ⟨p,q,hA0,hV,rfl,hfz,hnd⟩:=hW;have hA:DataW.TrodAll enc Tryz.prog W 0 (fun _=>true) true Tryz.f10.params.toList args.toList ds p:=hA0
 rw [Tryz.params10] at hA hval;obtain ⟨v0,vs0,d0,ds0,p0,q0,hargs,rfl,rfl,h0,r0⟩:=trodAll_cons hA;obtain ⟨rfl,rfl,rfl⟩:=trodAll_nil r0;obtain rfl:args=#[v0]:=by cases args;simp_all
 obtain ⟨rfl,rfl⟩:=trodVars_none hV;obtain ⟨b0,-,S0,hy0⟩:=jyg jAc Tryz.underlying99 (hval 0 _ v0 rfl rfl) h0;clear hA0 hval0;simp only [List.append_nil] at hW';refine (jtK (args:=[v0]) (jrl b0) ⟨_,_,rfl,⟨_,hy0⟩,rfl⟩).mono fun e W' ⟨he,hb⟩=>?_
 subst he;have hlt0:∀x∈p0,x.block<W.heap.size:=fun x hx=>hW'.lt x (by simp [hx])
 exact ⟨_,rfl,jrj (pa:=(p0++[])) (pv:=[]) hW' (fun _ _ _=>trodAll_mk1 (shut_bool Tryz.underlying4 _)) (fun sp hsp=>(trodAll_cons_mk (juT laid (by kernel_rfl) (of_decide_eq_true (by kernel_rfl)) h0 hb hlt0 (fun x hx=>hsp x (by simp [hx]))) trodAll_mk0)) (fun _ _=>rfl) (by simp) hb (ok_one (by kernel_rfl) rfl (okWide_bool_mk Tryz.underlying4 _))⟩
theorem proved:Rows.FnAwaysSaid:=
 OpenClaim.holds_of_wide 10 Tryz.f10 rfl rfl rfl rfl rfl rfl rfl ⟨rfl,rfl,rfl,rfl,rfl⟩ rfl rfl rfl rfl rfl (by as_aux_lemma=>kernel_rfl) Tryz.func10 (by unfold joinedFacts;(repeat' (with_reducible refine Bool.and_eq_true_iff.mpr ⟨?_,?_⟩));all_goals (as_aux_lemma=>kernel_rfl))
  (of_decide_eq_true (by as_aux_lemma=>kernel_rfl)) (by unfold Func.isWrapper;first|(rw [if_pos (by decide+kernel)];kernel_rfl)|(rw [if_neg (by decide+kernel)];exact ⟨rfl,rfl⟩))
  (fun os started H enc _=>lifted os started H enc)
end Go.Proofs.YtmnpailnelmpiaaGreat.lawAways
