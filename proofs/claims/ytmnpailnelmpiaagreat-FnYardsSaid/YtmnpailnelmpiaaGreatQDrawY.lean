/- Parts. -/
import Derived.Test.YtmnpailnelmpiaaGreatQDo
import Derived.Test.YtmnpailnelmpiaaGreatQDrawH
import Derived.Below
import Derived.OpenShut
set_option linter.unusedSimpArgs false
set_option linter.unusedVariables false
set_option maxHeartbeats 16000000
set_option maxRecDepth 100000
namespace Go.Proofs.YtmnpailnelmpiaaGreat
open Go.RowKit Go.Sort
theorem jiQ:kp Tryz.prog 279 [] (.agg (jb newYd)):=jm3 ⟨_,Tryz.func279,by kernel_rfl,by kernel_rfl⟩ fun w=>jq7 w
section
variable {s:St} {K:St→Prop}
theorem jxo {o':Nat→Ob} (h:jwG o' s.o) (hk:WkK ⟨s.t,o'⟩ K):WkK s K:=fun B N w0 w a F hr=>by
 obtain ⟨F',h1,_⟩:=hr.less h;exact hk B N w0 w a F' h1
theorem ju1 (g:Nat) (hk:WkK ⟨s.t,fun j=>if j=g then .none else s.o j⟩ K):WkK s K:=jxo (fun j=>by
 by_cases e:j=g
 ·rw [if_pos e];exact .inr rfl
 ·rw [if_neg e];exact .inl rfl) hk
theorem jx1 {a n k g c b ty:Nat} {x:A0} {cs:List Cell} {K:AV→(Nat→Ob)→Prop} (ha:s.t a=.c x) (hn:s.t n=.c (.bp g c b)) (ho:s.o g=.box b ty cs) (hl:c+k≤cs.length) (h:K (.tup [(false,[x]),(true,jdl g c ((cs.drop c).take k))]) s.o):jse [.t a,.cell n true k] K s:=by
 simp only [jse,jhv,ha,hn];exact ⟨_,⟨ty,cs,ho,hl,rfl⟩,.inl trivial,h⟩
end
abbrev ddH (d:Dd) (x:Value):List D:=[.val (.int .i64 d.kind),.val (.int .i64 d.run),.val (.int .i64 d.plan.prio),.val (.int .i64 d.plan.most),.val (.int .i64 d.plan.wait),.val (.int .i64 d.plan.tasks),jpV (some (2,tEd)) x,.val (.int .i64 d.task),.val (.int .i64 d.tri),.val (.int .i64 d.worker),.val (.int .i64 d.draw)]
abbrev DdRH (b ty:Nat) (d:Dd) (x:Value):Ob:=.box b ty [.a (.v (.int .i64 d.kind)),.a (.v (.int .i64 d.run)),.a (.v (.int .i64 d.plan.prio)),.a (.v (.int .i64 d.plan.most)),.a (.v (.int .i64 d.plan.wait)),.a (.v (.int .i64 d.plan.tasks)),.a (.v x),.a (.v (.int .i64 d.task)),.a (.v (.int .i64 d.tri)),.a (.v (.int .i64 d.worker)),.a (.v (.int .i64 d.draw))]
theorem jmd (l:List Dd):(l.flatMap jo).length=l.length*11:=jG (enc:=jo) (size:=11) (fun _=>rfl) l
theorem jA1 (l:List Dd) (row:List D) (j:Nat):(l.flatMap jo++row)[l.length*11+j]?=row[j]?:=by
 rw [List.getElem?_append_right (by rw [jmd];omega),jmd,Nat.add_sub_cancel_left]
theorem jyQ (l:List Dd) (row:List D) (j:Nat) (d:D):(l.flatMap jo++row).set (l.length*11+j) d=l.flatMap jo++row.set j d:=by
 rw [List.set_append_right _ _ (by rw [jmd];omega),jmd,Nat.add_sub_cancel_left]
theorem jun (l:List Dd) (d:Dd):D.sl 11 tDd (l.flatMap jo++jo d)=jdK (l++[d]):=by simp [jdK]
def jcJ:C:=iS [iA 4 (.mov (.c (.slice none 0 0))),iA 5 (.alloc 37 [.int .i64 0,.int .i64 0,.slice none 0 0,.slice none 0 0])] (iS [iA 10 (.call 279 []),iA 6 (.alloc 37 [.int .i64 0,.int .i64 0,.slice none 0 0,.slice none 0 0]),iC (.st 4 [none,none,some (1,102),some (8,108)] (.t 6) (.t 10))] (iS [iA 11 (.bsl 73 11 0 [] []),iA 7 (iM 11)] (.seq (iS [iA 8 (iN 0)] (.blk 0 (.loop (.seq (iS [iA 12 (iM 8),iA 13 (iM 1),iA 14 (iP .lss 3 12 13)] (iD 14 .skip (.exit 0))) (.seq (.blk 1 (iS [iA 17 (iM 0),iA 18 (iT 4 6),iA 19 (.call 280 [.t 17,.t 18]),iA 9 (.alloc 73 [.int .i64 0,.int .i64 0,.int .i64 0,.int .i64 0,.int .i64 0,.int .i64 0,.slice none 0 0,.int .i64 0,.int .i64 0,.int .i64 0,.int .i64 0]),iC (.st 11 [none,none,none,none,none,none,some (2,253),none,none,none,none] (.t 9) (.t 19))] (iS [iA 20 (iM 7),iA 21 (iT 11 9),iA 22 (.bsl 73 11 1 [none,none,none,none,none,none,some (2,253),none,none,none,none] [(0,11,.t 21)]),iA 23 (.app 73 11 104 (.t 20) (.t 22)),iA 7 (iM 23)] (.reg [iA 25 (iT 4 6),iA 26 (iT 11 9),iA 27 (.call 30 [.t 25,.t 26]),iA 24 (iM 27),iA 28 (iE 24 0),iA 29 (iE 24 1),iC (.st 4 [none,none,some (1,102),some (8,108)] (.t 6) (.t 28))])))) (.reg [iA 15 (iM 8),iA 16 (iQ .add 3 15 1),iA 8 (iM 16)])))))) (.seq (.dreg (T.pure 0 (iA 30 (iM 7)) (T.pure 1 (iA 31 (iT 4 6)) (T.pure 2 (iA 4 (iM 30)) (T.alt (iC (.st 4 [none,none,some (1,102),some (8,108)] (.t 5) (.t 31))) [] T.done T.stop))))) .ret))))
theorem jfl:fnC Tryz.prog Tryz.f231=some (jcJ,[.t 4,.cell 5 true 4],32):=by kernel_rfl
theorem jtR (c:List UInt8) (hc:c.length≤1048576) (m:Nat) (hm:m≤1000) (s:Cu) (b:Nat) (o:Nat→Ob) (hs:s.1≤c.length) (ho:o 89=qn b 258 c s) (h86:o 86=.none) (h94:o 94=.none) (h95:o 95=.none):
 Inl Tryz.prog 231 [Bx 89 b,Ni m] o fun av o2=>∃(e e2 e3:jq) (b5:Nat),av=.tup [(false,[.h 600000700 0 [] (e [])]),(true,[.v (.int .i64 (zc c m ([],newYd,s)).2.1.now),.v (.int .i64 (zc c m ([],newYd,s)).2.1.seq),.h 600000500 2 [] (e2 []),.h 600000500 3 [] (e3 [])])]∧o2 600000700=.loose (jdK (zc c m ([],newYd,s)).1) e∧
  o2 600000500=kt b5 tYd (zc c m ([],newYd,s)).2.1.now (zc c m ([],newYd,s)).2.1.seq (zc c m ([],newYd,s)).2.1.shelf e2 (zc c m ([],newYd,s)).2.1.runs e3∧o2 89=qn b 258 c (zc c m ([],newYd,s)).2.2∧∀g,g<600000000→g≠89→o2 g=o g:=by
 refine jkQ (β:=6000000) [[1,1,1,0,1,0,0,1,0,0,0],[1,1,1,0,1,0,0,1,0,0,1],[1,1,1,0,1,0,0,1,0,0,1,1],[1,1,1,0,1,0,0,1,1],[1,1,1,1,0]] Tryz.func231 jfl (by simp) ?_
 unfold jcJ;simp only [C.ghs,C.ghAt,List.foldr];simp only [go_sem];intro b5;refine jc (jiQ) (by simp only [go_sem,jb]) fun ηn=>?_
 simp only [go_sem,jb];intro b6 η11;generalize hX:zc c m ([],newYd,s)=X at*;refine jp (fun i:(Nat×(List Dd×Yd×Cu))×jq×jq×jq=>St.ofB [(0,Bx 89 b),(1,Ni m),(5,Bx 600000500 b5),(6,Bx 600000600 b6),(7,Hd 600000700 i.2.1),(8,Ni i.1.1)] [(600000500,ZYd b5 tYd),(600000600,kt b6 tYd i.1.2.2.1.now i.1.2.2.1.seq i.1.2.2.1.shelf i.2.2.1 i.1.2.2.1.runs i.2.2.2),(600000700,.loose (jdK i.1.2.1) i.2.1)] 600000000 (fun j=>if j=89 then qn b 258 c i.1.2.2.2 else if j=94 then .none else if j=95 then .none else if j=86 then .none else o j)) (fun i=>i.1.1≤m∧DdsI c i.1.1 i.1.2∧X=zc c (m-i.1.1) i.1.2) (fun i=>m-i.1.1) ((0,([],newYd,s)),η11,ηn 2,ηn 3) (⟨Nat.zero_le _,.start hs,hX.symm⟩) (kO [some 600000500,some 600000600,some 600001100] (by simp only [go_sem,jkJ,jb,ho,h86,h94,h95]<;>and_intros<;>first|rfl|assumption|trivial) (fun j hj=>by by_cases e89:j=89<;>by_cases e94:j=94<;>by_cases e95:j=95<;>by_cases e86:j=86<;>simp only [go_sem,e89,e94,e95,e86,hj,if_true,if_false,jz hj 600000500 (by omega),jz hj 600000600 (by omega),jz hj 600001100 (by omega),jz hj 600001002 (by omega),jz hj 600001003 (by omega),jkJ,jb,ho,h86,h94,h95]) (by decide)) ?_
 rintro ⟨⟨i,l,y,u⟩,e,e2,e3⟩ ⟨hi,hD,hXi⟩;dsimp only at hi hD hXi;by_cases hlt:i<m;rotate_left
 ·have hlt':¬(i:Int)<(m:Int):=by omega
  have h0:m-i=0:=by omega
  rw [h0,zc] at hXi;subst hXi;simp only [go_sem,hlt'];refine kX (WkK.of ?_);simp only [go_sem];refine jx1 (x:=.h 600000700 0 [] (e [])) (g:=600000500) (c:=0) (b:=b5) (ty:=tYd) (cs:=[.a (.v (.int .i64 y.now)),.a (.v (.int .i64 y.seq)),.own (kw y.shelf) e2,.own (jO y.runs) e3]) (by simp only [go_sem]) (by simp only [go_sem]) (by simp only [go_sem]) (by simp) ?_
  simp only [go_sem];refine ⟨e,e2,e3,b5,rfl,rfl,rfl,fun g g1 g2=>?_⟩
  by_cases e94:g=94
  ·subst e94;simp only [go_sem,h94]
  by_cases e95:g=95
  ·subst e95;simp only [go_sem,h95]
  by_cases e86:g=86
  ·subst e86;simp only [go_sem,h86]
  simp only [go_sem,g1,g2,e94,e95,e86,jz g1 600000500 (by omega),jz g1 600000600 (by omega),jz g1 600000700 (by omega),if_true,if_false]
 have hlt':(i:Int)<(m:Int):=by omega
 obtain ⟨f,hf⟩:∃f,m-i=f+1:=⟨m-i-1,by omega⟩
 rw [hf,zc] at hXi;dsimp only at hXi;have hDn:=hD.next;have hat:=hD.at_;have hyI:=hD.yd;have hll:=hD.len;have hdt:=jji c y u;dsimp only at hDn hat hyI hll;have hyt:=(hyI.ok (by have:=hD.seq;dsimp only at this;omega)).small
 simp only [go_sem,hlt'];refine kX ?_;refine jf8 600000600 2 94 rfl rfl rfl (by decide) (Nat.zero_lt_succ 0) ?_
 refine jf8 600000600 3 95 rfl rfl rfl (by decide) (Nat.zero_lt_succ 7) ?_
 refine WkK.wk (s':=St.ofB [(0,Bx 89 b),(1,Ni m),(5,Bx 600000500 b5),(6,Bx 600000600 b6),(7,Hd 600000700 e),(8,Ni i)] [(600000500,ZYd b5 tYd),(600000600,.box b6 tYd [.a (.v (.int .i64 y.now)),.a (.v (.int .i64 y.seq)),.a (.hs 94 0 [] (e2 []) 1 0 y.shelf.length),.a (.hs 95 0 [] (e3 []) 8 0 y.runs.length)]),(600000700,.loose (jdK l) e)] 600000000 (fun j=>if j=89 then qn b 258 c u else if j=94 then .loose (kw y.shelf) e2 else if j=95 then .loose (jO y.runs) e3 else if j=86 then .none else o j)) (kO [some 600000500,some 600000600,some 600000700] (by simp only [go_sem]<;>and_intros<;>first|rfl|assumption|trivial) (fun j hj=>by by_cases e89:j=89<;>by_cases e94:j=94<;>by_cases e95:j=95<;>by_cases e86:j=86<;>simp only [go_sem,e89,e94,e95,e86,hj,if_true,if_false,jz hj 600000500 (by omega),jz hj 600000600 (by omega),jz hj 600000700 (by omega)]) (by decide)) ?_
 refine WkK.of ?_;simp only [go_sem];refine kM (by simp only [go_sem]) (jvY c hc y hyI u b _ e2 e3 hat (by simp only [go_sem]) (by simp only [go_sem]) (by simp only [go_sem]) (by simp only [go_sem])) fun av o' ⟨ed,b4,hav,ho4,o2,hk⟩=>?_
 subst hav;have k5:=hk 600000500 (by decide) (by decide) (by decide)
 have k6:=hk 600000600 (by decide) (by decide) (by decide)
 have k7:=hk 600000700 (by decide) (by decide) (by decide)
 have kall:∀g,g<600000000→g≠86→o' g=if g=89 then qn b 258 c (qz c y u).2 else if g=94 then .loose (kw y.shelf) e2 else if g=95 then .loose (jO y.runs) e3 else o g:=fun g hg h2=>by
  by_cases h1:g=89
  ·subst h1;rw [o2];rfl
  ·rw [hk g (by omega) h2 h1,if_neg h1]
   simp only [go_sem,hg,h1,h2,if_true,if_false]
 simp only [go_sem] at k5 k6 k7;simp only [go_sem,ho4];intro b9;refine kX ?_;refine ju1 86 ?_;generalize hdd:(qz c y u).1=d at*;refine WkK.wk (s':=St.ofB [(0,Bx 89 b),(1,Ni m),(5,Bx 600000500 b5),(6,Bx 600000600 b6),(7,Hd 600000700 e),(8,Ni i),(9,Bx 600000900 b9)] [(600000500,ZYd b5 tYd),(600000600,.box b6 tYd [.a (.v (.int .i64 y.now)),.a (.v (.int .i64 y.seq)),.a (.hs 94 0 [] (e2 []) 1 0 y.shelf.length),.a (.hs 95 0 [] (e3 []) 8 0 y.runs.length)]),(600000700,.loose (jdK l) e),(600000900,DdR b9 73 d ed)] 600000000 (fun j=>if j=89 then qn b 258 c (qz c y u).2 else if j=94 then .loose (kw y.shelf) e2 else if j=95 then .loose (jO y.runs) e3 else if j=86 then .none else o j)) (kO [some 600000500,some 600000600,some 600000700,some 600000900] (by simp only [go_sem,k5,k6,k7,ho4,kall]<;>and_intros<;>first|rfl|assumption|trivial) (fun j hj=>by by_cases e89:j=89<;>by_cases e94:j=94<;>by_cases e95:j=95<;>by_cases e86:j=86<;>simp only [go_sem,e89,e94,e95,e86,hj,if_true,if_false,jz hj 600000500 (by omega),jz hj 600000600 (by omega),jz hj 600000700 (by omega),jz hj 600000900 (by omega),jz hj 700000400 (by omega),k5,k6,k7,ho4,kall]) (by decide)) ?_
 refine qH 600000900 6 600090100 (d:=jy d.plan.edges) (η:=ed) (by simp only [go_sem]) (by simp only [go_sem]) (by decide) fun hx6=>?_
 refine WkK.of ?_;have m1:l.length+1≤maxLen:=by unfold maxLen;omega
 have m2:(l.length+1)*104≤140737488355328:=by omega
 simp only [go_sem,hx6];intro η22;refine jph (fun ηR=>St.ofB [(0,Bx 89 b),(1,Ni m),(5,Bx 600000500 b5),(6,Bx 600000600 b6),(7,Hd 600000700 ηR),(8,Ni i),(9,Bx 600000900 b9)] [(600000500,ZYd b5 tYd),(600000600,.box b6 tYd [.a (.v (.int .i64 y.now)),.a (.v (.int .i64 y.seq)),.a (.hs 94 0 [] (e2 []) 1 0 y.shelf.length),.a (.hs 95 0 [] (e3 []) 8 0 y.runs.length)]),(600000700,.loose (.sl 11 tDd (l.flatMap jo++ddH d (ed []))) ηR),(600000900,DdRH b9 73 d (ed [])),(600090100,.loose (jy d.plan.edges) ed)] 600000000 (fun j=>if j=89 then qn b 258 c (qz c y u).2 else if j=94 then .loose (kw y.shelf) e2 else if j=95 then .loose (jO y.runs) e3 else if j=86 then .none else o j)) m1 m2 ?_ (fun ηR=>(kO [some 600000500,some 600000600,some 600002300,some 600000900,some 600090100] (by simp only [go_sem]<;>and_intros<;>first|rfl|assumption|trivial) (fun j hj=>by by_cases e89:j=89<;>by_cases e94:j=94<;>by_cases e95:j=95<;>by_cases e86:j=86<;>simp only [go_sem,e89,e94,e95,e86,hj,if_true,if_false,jz hj 600000500 (by omega),jz hj 600000600 (by omega),jz hj 600002300 (by omega),jz hj 600000900 (by omega),jz hj 600090100 (by omega),jz hj 600000700 (by omega),jz hj 600002200 (by omega)]) (by decide))) (fun ηR=>(kO [some 600000500,some 600000600,some 600002300,some 600000900,some 600090100] (by simp only [go_sem]<;>and_intros<;>first|rfl|assumption|trivial) (fun j hj=>by by_cases e89:j=89<;>by_cases e94:j=94<;>by_cases e95:j=95<;>by_cases e86:j=86<;>simp only [go_sem,e89,e94,e95,e86,hj,if_true,if_false,jz hj 600000500 (by omega),jz hj 600000600 (by omega),jz hj 600002300 (by omega),jz hj 600000900 (by omega),jz hj 600090100 (by omega),jz hj 600000700 (by omega),jz hj 600002200 (by omega)]) (by decide))) ?_
 ·simp only [jiY _ hx6,jiZ];rfl
 intro ηR;refine jaX 600000600 2 94 (d:=kw y.shelf) (η:=e2) rfl rfl rfl rfl (jcu _).symm rfl (Nat.zero_lt_succ 0) ?_;refine jaX 600000600 3 95 (d:=jO y.runs) (η:=e3) rfl rfl rfl rfl (jaa _).symm rfl (Nat.zero_lt_succ 7) ?_;refine qM 600000900 6 600090100 (d:=jy d.plan.edges) (η:=ed) rfl rfl rfl ?_;generalize hdR:D.sl 11 tDd (l.flatMap jo++ddH d (ed []))=dR;refine WkK.wk (s':=St.ofB [(0,Bx 89 b),(1,Ni m),(5,Bx 600000500 b5),(6,Bx 600000600 b6),(7,Hd 600000700 ηR),(8,Ni i),(9,Bx 600000900 b9)] [(600000500,ZYd b5 tYd),(600000600,kt b6 tYd y.now y.seq y.shelf e2 y.runs e3),(600000700,.loose dR ηR),(600000900,DdR b9 73 d ed)] 600000000 (fun j=>if j=89 then qn b 258 c (qz c y u).2 else if j=94 then .none else if j=95 then .none else if j=86 then .none else o j)) (kO [some 600000500,some 600000600,some 600000700,some 600000900] (by simp only [go_sem]<;>and_intros<;>first|rfl|assumption|trivial) (fun j hj=>by by_cases e89:j=89<;>by_cases e94:j=94<;>by_cases e95:j=95<;>by_cases e86:j=86<;>simp only [go_sem,e89,e94,e95,e86,hj,if_true,if_false,jz hj 600000500 (by omega),jz hj 600000600 (by omega),jz hj 600000700 (by omega),jz hj 600000900 (by omega),jz hj 600090100 (by omega)]) (by decide)) ?_
 refine WkK.of ?_;simp only [go_sem];refine jc (jtj y d (by omega) (by simp only [jhu,jjN];omega)) (by simp only [go_sem,jb,jo,ja,jgq]) fun ηo=>?_
 simp only [go_sem,jb,jo,ja,jgq];generalize hy':doY y d=y' at*;refine kX ?_;subst hdR;refine WkK.wk (s':=St.ofB [(0,Bx 89 b),(1,Ni m),(5,Bx 600000500 b5),(6,Bx 600000600 b6),(7,Hd 600000700 ηR),(8,Ni i)] [(600000500,ZYd b5 tYd),(600000600,kt b6 tYd y'.now y'.seq y'.shelf (ηo 2) y'.runs (ηo 3)),(600000700,.loose (.sl 11 tDd (l.flatMap jo++ddH d (ed []))) ηR),(600000900,DdR b9 73 d ed)] 600000000 (fun j=>if j=89 then qn b 258 c (qz c y u).2 else if j=94 then .none else if j=95 then .none else if j=86 then .none else o j)) (kO [some 600000500,some 600000600,some 600000700,some 600000900] (by simp only [go_sem,jb,jgq]<;>and_intros<;>first|rfl|assumption|trivial) (fun j hj=>by by_cases e89:j=89<;>by_cases e94:j=94<;>by_cases e95:j=95<;>by_cases e86:j=86<;>simp only [go_sem,e89,e94,e95,e86,hj,if_true,if_false,jz hj 600000500 (by omega),jz hj 600000600 (by omega),jz hj 600000700 (by omega),jz hj 600000900 (by omega),jz hj 600002702 (by omega),jz hj 600002703 (by omega),jb,jgq]) (by decide)) ?_
 refine qH 600000900 6 600090100 (d:=jy d.plan.edges) (η:=ed) (by simp only [go_sem]) (by simp only [go_sem]) (by decide) fun _=>?_
 refine qw 600000700 0 (l.length*11+6) 600090100 (η:=ηR) (η2:=ed) (cs:=d.plan.edges.flatMap jP) rfl (jA1 _ _ 6) (.inr rfl) rfl (by decide) fun ηA hηA=>?_
 rw [jyQ];refine WkK.of ?_;have hsn:D.sl 11 tDd (l.flatMap jo++(ddH d (ed [])).set 6 (.sl 2 tEd (d.plan.edges.flatMap jP)))=jdK (l++[d]):=jun l d;have hw:IntKind.i64.wrap ((i:Int)+1)=((i+1:Nat):Int):=jg (by omega) (by omega)
 simp only [go_sem,hw];exact ⟨((i+1,(l++[d],y',(qz c y u).2)),ηA,ηo 2,ηo 3),⟨by dsimp only;omega,hDn,by rw [show m-(i+1)=f by omega];exact hXi⟩,(kO [some 600000500,some 600000600,some 600000700] (by simp only [go_sem,hw,hsn,hηA]<;>and_intros<;>first|rfl|assumption|trivial) (fun j hj=>by by_cases e89:j=89<;>by_cases e94:j=94<;>by_cases e95:j=95<;>by_cases e86:j=86<;>simp only [go_sem,e89,e94,e95,e86,hj,if_true,if_false,jz hj 600000500 (by omega),jz hj 600000600 (by omega),jz hj 600000700 (by omega),jz hj 600000900 (by omega),jz hj 600090100 (by omega),hw,hsn,hηA]) (by decide)),by (try dsimp only);omega⟩
def jye (h:Int) (u:UInt8):Int:=jqI (IntKind.i64.wrap (IntKind.i64.wrap (IntKind.i64.wrap (h*131)+(u.toNat:Int))+7)) 1073741823
theorem jAr (c:List UInt8):jBq c=(c.take 4000).foldl jye (94701+(c.length:Int)):=rfl
theorem jt2 {α β:Type} {f:β→α→β} {l:List α} {k:Nat} {x:α} (h:l[k]?=some x) (a:β):(l.take (k+1)).foldl f a=f ((l.take k).foldl f a) x:=by
 rw [List.take_add_one,h,List.foldl_append];rfl
theorem jyB (c:List UInt8) (hc:c.length≤1048576) (o:Nat→Ob):Inl Tryz.prog 132 [.c (.ro (jcB c))] o fun av o2=>∃b,av=Bx 800003100 b∧o2 800003100=qn b 258 c (jwm c)∧∀g,g<800000000→o2 g=o g:=by
 refine ql (β:=8000000) Tryz.func132 jhH (by simp) ?_
 unfold jfE;have hw:IntKind.i64.wrap (94701+(c.length:Int))=94701+(c.length:Int):=jg (by omega) (by omega)
 simp only [go_sem,jak,hw];refine jp (fun i:Nat=>St.ofB [(0,.c (.ro (jcB c))),(3,Ni ((c.take i).foldl jye (94701+(c.length:Int)))),(4,Ni i)] [] 800000000 (fun j=>o j)) (fun i=>i≤c.length∧i≤4000) (fun i=>c.length-i) 0 (⟨Nat.zero_le _,Nat.zero_le _⟩) (kO [] (by simp only [go_sem,hw,List.take_zero,List.foldl_nil]<;>and_intros<;>first|rfl|assumption|trivial) (fun j hj=>by simp only [go_sem,hj,if_true,if_false,hw,List.take_zero,List.foldl_nil]) (by decide)) ?_
 rintro k ⟨hk,hk4⟩;by_cases hlt:k<c.length;rotate_left
 ·have hlt':¬(k:Int)<(c.length:Int):=by omega
  have hf:(c.take k).foldl jye (94701+(c.length:Int))=jBq c:=by
   rw [jAr,List.take_of_length_le (by omega),List.take_of_length_le (by omega)]
  rw [hf];simp only [go_sem,jak,hlt']
  exact fun b=>⟨b,rfl,rfl,fun g hg=>by
   have hg':¬g=800003100:=by omega
   simp only [hg',hg,if_true,if_false]⟩
 have hlt':(k:Int)<(c.length:Int):=by omega
 have h0k:(k:Int)≥0:=by omega
 by_cases hl4:k<4000;rotate_left
 ·have hl4':¬(k:Int)<4000:=by omega
  have hf:(c.take k).foldl jye (94701+(c.length:Int))=jBq c:=by
   rw [show k=4000 by omega,jAr]
  rw [hf];simp only [go_sem,jak,hlt',hl4']
  exact fun b=>⟨b,rfl,rfl,fun g hg=>by
   have hg':¬g=800003100:=by omega
   simp only [hg',hg,if_true,if_false]⟩
 have hl4':(k:Int)<4000:=by omega
 obtain ⟨u,hu⟩:=je hlt;have hst:=jt2 (f:=jye) hu (94701+(c.length:Int));have hwk:IntKind.i64.wrap ((k:Int)+1)=((k+1:Nat):Int):=jg (by omega) (by omega)
 simp only [go_sem,jak,hlt',hl4',hlt,h0k,jkX hu,jxa];exact ⟨k+1,by (try dsimp only);first|omega|assumption|(and_intros<;>first|omega|assumption),(kO [] (by simp only [go_sem,hwk,hst,jye]<;>and_intros<;>first|rfl|assumption|trivial) (fun j hj=>by simp only [go_sem,hj,if_true,if_false,hwk,hst,jye]) (by decide)),by (try dsimp only);omega⟩
def jdL:C:=iS [iA 2 (.alloc 37 [.int .i64 0,.int .i64 0,.slice none 0 0,.slice none 0 0])] (iS [iA 6 (iM 0),iA 7 (iM 0),iA 8 (.call 232 [.t 7,.c (.int .i64 26)]),iA 9 (.call 231 [.t 6,.t 8]),iA 5 (iM 9),iA 10 (iE 5 0),iA 11 (iE 5 1),iA 4 (.alloc 37 [.int .i64 0,.int .i64 0,.slice none 0 0,.slice none 0 0]),iA 3 (iM 10),iC (.st 4 [none,none,some (1,102),some (8,108)] (.t 4) (.t 11))] (iS [iA 12 (iT 4 4),iC (.st 4 [none,none,some (1,102),some (8,108)] (.t 2) (.t 12))] .ret))
theorem jgr:fnC Tryz.prog Tryz.f131=some (jdL,[.cell 2 true 4],13):=by kernel_rfl
theorem jvX (c:List UInt8) (hc:c.length≤1048576) (s:Cu) (b:Nat) (o:Nat→Ob) (hs:s.1≤c.length) (ho:o 89=qn b 258 c s) (h86:o 86=.none) (h94:o 94=.none) (h95:o 95=.none):
 Inl Tryz.prog 131 [Bx 89 b] o fun av o2=>∃(e2 e3:jq) (b2:Nat),av=.agg [.v (.int .i64 (jje c s).1.now),.v (.int .i64 (jje c s).1.seq),.h 500000200 2 [] (e2 []),.h 500000200 3 [] (e3 [])]∧
  o2 500000200=kt b2 tYd (jje c s).1.now (jje c s).1.seq (jje c s).1.shelf e2 (jje c s).1.runs e3∧∀g,g<500000000→g≠89→o2 g=o g:=by
 refine ql (β:=5000000) Tryz.func131 jgr (by simp) ?_
 unfold jdL;simp only [go_sem];intro b2;refine kg (kx c hc 26 s b _ hs (by simp only [go_sem,ho])) (by simp only [go_sem]) ?_
 have s1:=ju (n:=26) hs;have x1:=jS c (n:=26) s (by omega)
 have hY:jje c s=(zc c (jr c 26 s).1.toNat ([],newYd,(jr c 26 s).2)).2:=rfl;generalize hq1:jr c 26 s=q1 at*;obtain ⟨m,hm⟩:∃m:Nat,q1.1=(m:Int):=⟨q1.1.toNat,by omega⟩
 rw [show q1.1.toNat=m by omega] at hY
 simp only [go_sem,hm];refine kM (by simp only [go_sem]) (jtR c hc m (by omega) q1.2 b _ s1 (by simp only [go_sem]) (by simp only [go_sem,h86]) (by simp only [go_sem,h94]) (by simp only [go_sem,h95])) fun av o' ⟨e,e2,e3,b5,hav,hl,hy,o2,hk⟩=>?_
 subst hav;have k2:=hk 500000200 (by decide) (by decide)
 simp only [go_sem] at k2;generalize hX:zc c m ([],newYd,q1.2)=X at*;simp only [go_sem,k2,hy];refine fun b1=>⟨e2,e3,b2,by rw [hY],by rw [hY],fun g g1 g2=>?_⟩
 simp only [jz g1 500000200 (by omega),jz g1 500000400 (by omega),jz g1 600000500 (by omega),if_false]
 rw [hk g (by omega) g2]
 simp only [go_sem,g2,jz g1 500000200 (by omega),if_false]
def jcP:C:=iS [iA 2 (.alloc 37 [.int .i64 0,.int .i64 0,.slice none 0 0,.slice none 0 0])] (iS [iA 3 (iM 0),iA 4 (.call 132 [.t 3]),iA 5 (.call 131 [.t 4]),iC (.st 4 [none,none,some (1,102),some (8,108)] (.t 2) (.t 5))] .ret)
theorem jfq:fnC Tryz.prog Tryz.f53=some (jcP,[.cell 2 true 4],6):=by kernel_rfl
theorem jiR (c:List UInt8) (hc:c.length≤1048576):kp Tryz.prog 53 [.c (jcB c)] (.agg (jb (jje c (jwm c)).1)):=by
 refine js Tryz.func53 jfq (by simp) ?_
 unfold jcP;simp only [go_sem];intro b2;have hro:(jcB c).toRo=.ro (jcB c):=rfl;rw [hro];refine kM (by simp only [go_sem]) (jyB c hc _) fun av o' ⟨b,hav,ho,hk⟩=>?_
 subst hav;have k2:=hk 200 (by decide)
 simp only [go_sem] at k2;refine jaf [some 800003100,some 200] [(89,qn b 258 c (jwm c)),(200,ZYd b2 tYd)] [Bx 89 b] (by simp only [go_sem]<;>and_intros<;>rfl) (by simp only [go_sem]<;>and_intros<;>first|rfl|(rw [ho];exact of_eq_true (jU _))|(rw [k2];exact of_eq_true (jU _))) (jvX c hc (jwm c) b _ (Nat.zero_le _) rfl rfl rfl rfl) ?_
 rintro av o2 ⟨e2,e3,b3,hav,ho2,hk2⟩;subst hav;have q2:=hk2 200 (by decide) (by decide)
 simp only [go_sem] at q2;generalize (jje c (jwm c)).1=y at*;simp only [go_sem,q2,ho2,jb]
def jk3:C:=iS [iA 2 (iO false)] (iS [iA 3 (iM 0),iA 4 (iG 3),iA 5 (iQ .gtr 3 4 1048576),iA 2 (iM 5)] .ret)
theorem jmh:fnC Tryz.prog Tryz.f52=some (jk3,[.t 2],6):=by kernel_rfl
theorem p_big (c:List UInt8):kp Tryz.prog 52 [.c (jcB c)] (.c (.val (.bool (decide ((1048576:Int)<(c.length:Int)))))):=by
 refine js Tryz.func52 jmh (by simp) ?_
 unfold jk3;have hro:(jcB c).toRo=.ro (jcB c):=rfl;simp only [go_sem,hro,jak]
def jaL:C:=iS [iA 4 (iO false)] (.seq (iS [iA 6 (iM 0),iA 7 (iG 6),iA 8 (iM 1),iA 9 (iG 8),iA 10 (iP .neq 3 7 9)] (iD 10 (iS [iA 4 (iO false)] .ret) .skip)) (.seq (iS [iA 5 (iN 0)] (.blk 0 (.loop (.seq (iS [iA 11 (iM 5),iA 12 (iM 0),iA 13 (iG 12),iA 14 (iP .lss 3 11 13)] (iD 14 .skip (.exit 0))) (.seq (.blk 1 (.seq (.dreg (T.pure 0 (iA 17 (iM 0)) (T.pure 1 (iA 18 (iM 5)) (T.pure 2 (iA 19 (iI 4 17 18)) (T.pure 3 (iA 20 (iT 4 19)) (T.pure 4 (iA 21 (iM 1)) (T.pure 5 (iA 22 (iM 5)) (T.pure 6 (iA 23 (iI 4 21 22)) (T.pure 7 (iA 24 (iT 4 23)) (T.pure 8 (iA 25 (iP .neq 111 20 24)) T.done)))))))))) (iD 25 (iS [iA 4 (iO false)] .ret) .skip))) (.reg [iA 15 (iM 5),iA 16 (iQ .add 3 15 1),iA 5 (iM 16)])))))) (iS [iA 4 (iO true)] .ret)))
theorem jcE:fnC Tryz.prog Tryz.f60=some (jaL,[.t 4],26):=by kernel_rfl
theorem jtk (xs:List En) (hl:xs.length≤2000000):kp Tryz.prog 60 [.c (jm xs),.c (jm xs)] (.c (.val (.bool true))):=by
 refine js Tryz.func60 jcE (by simp) ?_
 unfold jaL;simp only [go_sem,jmU,jdd,bne_self_eq_false];refine jp (fun i:Nat=>St.of [(0,.c (.ro (jm xs))),(1,.c (.ro (jm xs))),(5,Ni i)] []) (fun i=>i≤xs.length) (fun i=>xs.length-i) 0 ((Nat.zero_le _)) (jj [] (by simp only [go_sem]<;>and_intros<;>first|rfl|assumption|trivial)) ?_
 rintro k hk;by_cases hlt:k<xs.length;rotate_left
 ·have hlt':¬(k:Int)<(xs.length:Int):=by omega
  simp only [go_sem,hlt',jdd]
 have hlt':(k:Int)<(xs.length:Int):=by omega
 obtain ⟨x,hx⟩:=je hlt;have hw:IntKind.i64.wrap ((k:Int)+1)=((k+1:Nat):Int):=jg (by omega) (by omega)
 simp only [go_sem,hlt',hlt,jH hx,jdd,jf,bne_self_eq_false,hw];exact ⟨k+1,by (try dsimp only);first|omega|assumption|(and_intros<;>first|omega|assumption),(jj [] (by simp only [go_sem,hw]<;>and_intros<;>first|rfl|assumption|trivial)),by (try dsimp only);omega⟩
noncomputable def dY (c:List UInt8):Yd:=(jje c (jwm c)).1
theorem dY_I (c:List UInt8):YdI (dY c)∧(dY c).seq≤100000:=by
 have s1:=ju (c:=c) (n:=26) (s:=jwm c) (Nat.zero_le _);have x1:=jS c (n:=26) (jwm c) (by omega)
 have h:=jqq (c:=c) (jr c 26 (jwm c)).1.toNat 0 (.start s1);refine ⟨h.yd,?_⟩;have:=h.seq;simp only [dY,jje];omega
theorem jvA (rs:List Rn):qr (rs.take 0)=0:=rfl
theorem jos {rs:List Rn} {k:Nat} {r:Rn} (h:rs[k]?=some r):qr (rs.take (k+1))=qr (rs.take k)+(qB 2 r.tasks).length:=by
 simp only [qr,vM];rw [List.take_add_one,h];simp [cS]
theorem jA5 {r:Rn} (h:RunOkP r) (s:Int):cS s r.tasks≤12:=by
 obtain ⟨n,hn,_,h12,_⟩:=jck h.plan;have:=vd s r.tasks r.tasks.length;have h2:=h.len;simp only [cS,qB];omega
theorem jmY {rs:List Rn} (h:∀r∈rs,RunOkP r) (h8:rs.length≤8) (i:Nat):qr (rs.take i)≤96:=by
 have h1:=jbp (fun r=>cS 2 r.tasks) 12 (rs.take i) fun r hr=>jA5 (h r (List.mem_of_mem_take hr)) 2
 have h2:(rs.take i).length≤8:=by rw [List.length_take];omega
 simp only [qr];omega
theorem jiU:kp Tryz.prog 58 [] (.agg (jb newYd)):=jm3 ⟨_,Tryz.func58,by kernel_rfl,by kernel_rfl⟩ fun w=>jrN w
def jd9:C:=iS [iA 2 (iO false)] (.seq (iS [iA 10 (iM 0),iA 11 (.call 52 [.t 10])] (iD 11 (iS [iA 2 (iO true)] .ret) .skip)) (iS [iA 12 (iM 0),iA 13 (.call 53 [.t 12]),iA 3 (.alloc 37 [.int .i64 0,.int .i64 0,.slice none 0 0,.slice none 0 0]),iC (.st 4 [none,none,some (1,102),some (8,108)] (.t 3) (.t 13))] (iS [iA 14 (iM 0),iA 15 (.call 53 [.t 14]),iA 4 (.alloc 37 [.int .i64 0,.int .i64 0,.slice none 0 0,.slice none 0 0]),iC (.st 4 [none,none,some (1,102),some (8,108)] (.t 4) (.t 15))] (iS [iA 16 (iT 4 3),iA 17 (.call 54 [.t 16]),iA 5 (iM 17)] (iS [iA 6 (iN 0)] (.seq (iS [iA 7 (iN 0)] (.blk 0 (.loop (.seq (iS [iA 18 (iM 7),iA 19 (iF 3 4),iA 20 (iL 19),iA 21 (iG 20),iA 22 (iP .lss 3 18 21)] (iD 22 .skip (.exit 0))) (.seq (.blk 1 (iS [iA 25 (iM 6),iA 26 (iF 3 4),iA 27 (iL 26),iA 28 (iM 7),iA 29 (iI 8 27 28),iA 30 (iT 8 29),iA 31 (.call 55 [.t 30,.c (.int .i64 2)]),iA 32 (iG 31),iA 33 (iP .add 3 25 32),iA 6 (iM 33)] (.seq (.dreg (T.pure 0 (iA 34 (iT 4 3)) (T.pure 1 (iA 35 (iF 3 4)) (T.pure 2 (iA 36 (iL 35)) (T.pure 3 (iA 37 (iM 7)) (T.pure 4 (iA 38 (iI 8 36 37)) (T.pure 5 (iA 39 (iF 0 38)) (T.pure 6 (iA 40 (iL 39)) (T.pure 8 (iA 42 (iM 7)) (T.alt (iA 41 (.call 56 [.t 34,.t 40])) [8] (T.pure 9 (iA 43 (iP .neq 3 41 42)) T.done) T.stop)))))))))) (iD 43 (iS [iA 2 (iO false)] .ret) .skip)))) (.reg [iA 23 (iM 7),iA 24 (iQ .add 3 23 1),iA 7 (iM 24)])))))) (.seq (iS [iA 8 (iN 0)] (.blk 2 (.loop (.seq (iS [iA 44 (iM 8),iA 45 (iM 5),iA 46 (iG 45),iA 47 (iP .lss 3 44 46)] (iD 47 .skip (.exit 2))) (.seq (.blk 3 (.seq (.dreg (T.pure 0 (iA 50 (iT 4 3)) (T.pure 1 (iA 51 (iM 5)) (T.pure 2 (iA 52 (iM 8)) (T.pure 3 (iA 53 (iI 4 51 52)) (T.pure 4 (iA 54 (iT 4 53)) (T.alt (iA 55 (.call 57 [.t 50,.t 54])) [] (T.pure 6 (iA 56 (iU 55)) T.done) T.stop))))))) (iD 56 (iS [iA 2 (iO false)] .ret) .skip))) (.reg [iA 48 (iM 8),iA 49 (iQ .add 3 48 1),iA 8 (iM 49)])))))) (iS [iA 57 (.call 58 []),iA 9 (.alloc 37 [.int .i64 0,.int .i64 0,.slice none 0 0,.slice none 0 0]),iC (.st 4 [none,none,some (1,102),some (8,108)] (.t 9) (.t 57))] (.seq (.dreg (T.pure 0 (iA 58 (iT 4 3)) (T.alt (iA 59 (.call 59 [.t 58])) [] (T.pure 2 (iA 60 (iM 59)) (T.pure 3 (iB 61 60 true (iM 5)) (T.pure 4 (iB 62 60 true (iG 61)) (T.pure 5 (iB 63 60 true (iM 6)) (T.pure 6 (iB 64 60 true (iP .eql 3 62 63)) (T.pure 7 (iA 65 (.pick (.t 60) (.t 64) (.c (.bool false)))) (T.pure 8 (iA 66 (iM 65)) (T.pure 9 (iB 67 66 true (iM 5)) (T.pure 10 (iB 68 66 true (iT 4 4)) (T.alt (iB 69 66 true (.call 61 [.t 68])) [9] (T.alt (iB 70 66 true (.call 60 [.t 67,.t 69])) [] (T.pure 13 (iA 71 (.pick (.t 66) (.t 70) (.c (.bool false)))) (T.pure 14 (iA 72 (iM 71)) (T.pure 15 (iB 73 72 true (iT 4 3)) (T.pure 17 (iB 75 72 true (iT 4 4)) (T.alt (iB 74 72 true (.call 62 [.t 73])) [17] (T.alt (iB 76 72 true (.call 63 [.t 75])) [] (T.pure 19 (iB 77 72 true (iP .eql 3 74 76)) (T.pure 20 (iA 78 (.pick (.t 72) (.t 77) (.c (.bool false)))) (T.pure 21 (iA 79 (iM 78)) (T.pure 22 (iB 80 79 true (iT 4 3)) (T.alt (iB 81 79 true (.call 62 [.t 80])) [] (T.pure 24 (iB 82 79 true (iQ .leq 3 81 40)) (T.pure 25 (iA 83 (.pick (.t 79) (.t 82) (.c (.bool false)))) (T.pure 26 (iA 84 (iM 83)) (T.pure 27 (iB 85 84 true (iT 4 9)) (T.alt (iB 86 84 true (.call 59 [.t 85])) [] (T.pure 29 (iA 87 (.pick (.t 84) (.t 86) (.c (.bool false)))) (T.pure 30 (iA 88 (iM 87)) (T.pure 31 (iB 89 88 true (iF 2 9)) (T.pure 32 (iB 90 88 true (iL 89)) (T.pure 33 (iB 91 88 true (iG 90)) (T.pure 34 (iB 92 88 true (iQ .eql 3 91 4)) (T.pure 35 (iA 93 (.pick (.t 88) (.t 92) (.c (.bool false)))) (T.pure 36 (iA 94 (iM 93)) (T.pure 37 (iB 95 94 true (iM 6)) (T.pure 38 (iB 96 94 true (iQ .add 3 95 1)) (T.pure 40 (iB 98 94 true (iM 6)) (T.pure 41 (iB 99 94 true (iQ .add 3 98 1)) (T.alt (iB 97 94 true (.call 64 [.t 96])) [41,40] (T.alt (iB 100 94 true (.call 65 [.t 99])) [] (T.pure 43 (iB 101 94 true (iP .eql 3 97 100)) (T.pure 44 (iA 102 (.pick (.t 94) (.t 101) (.c (.bool false)))) (T.pure 45 (iA 2 (iM 102)) T.done))) T.stop) T.stop))))))))))))) T.stop))))) T.stop))))) T.stop) T.stop))))) T.stop) T.stop)))))))))) T.stop))) .ret)))))))))
theorem jgP:fnC Tryz.prog Tryz.f9=some (jd9,[.t 2],103):=by kernel_rfl
theorem jrk (c:List UInt8):kp Tryz.prog 9 [.c (jcB c)] (.c (.val (.bool true))):=by
 refine js Tryz.func9 jgP (by simp) ?_
 unfold jd9;simp only [go_sem];have hro:(jcB c).toRo=.ro (jcB c):=rfl;refine jc (p_big c) (by simp only [go_sem,hro]) fun η0=>?_
 simp only [go_sem,hro];by_cases hbig:(1048576:Int)<(c.length:Int)
 ·simp only [go_sem,hbig]
 have hc:c.length≤1048576:=by omega
 simp only [go_sem,hbig];obtain ⟨hI,hq⟩:=dY_I c;have pD:=jiR c hc;change kp _ _ _ (.agg (jb (dY c))) at pD;generalize dY c=y at*;have hok:=hI.ok (by omega)
 have ht:jK y≤2000000:=by have:=hok.small;omega
 refine jc (pD) (by simp only [go_sem,hro]) fun η1=>?_
 simp only [go_sem,hro];simp only [go_sem,jb];intro b3;refine jc (pD) (by simp only [go_sem,hro]) fun η2=>?_
 simp only [go_sem,hro];simp only [go_sem,jb];intro b4;refine jc (jj3 y ht) (by simp only [go_sem,jb]) fun η3=>?_
 simp only [go_sem,jb];generalize hR:jkD y=R at*;have hrun8:=hok.eight;refine jp (fun i:Nat=>St.of [(3,Bx 300 b3),(4,Bx 400 b4),(5,Hd 1700 (η3 0)),(6,Ni (qr (y.runs.take i))),(7,Ni i)] [(300,kt b3 tYd y.now y.seq y.shelf (η1 2) y.runs (η1 3)),(400,kt b4 tYd y.now y.seq y.shelf (η2 2) y.runs (η2 3)),(1700,.loose (jm R) (η3 0))]) (fun i=>i≤y.runs.length) (fun i=>y.runs.length-i) 0 ((Nat.zero_le _)) (jj [some 300,some 400,some 1700] (by simp only [go_sem,jvA]<;>and_intros<;>first|rfl|assumption|trivial)) ?_
 ·rintro i hi
  by_cases hlt:i<y.runs.length
  ·have hlt':(i:Int)<(y.runs.length:Int):=by omega
   have h0i:(i:Int)≥0:=by omega
   obtain ⟨r,hr⟩:=je hlt;have hplace:=hok.place i r hr;have htl:r.tasks.length≤2000000:=by have:=(hok.right r (List.mem_of_getElem? hr)).len;obtain ⟨n,hn,_,h12,_⟩:=jck (hok.right r (List.mem_of_getElem? hr)).plan;omega
   simp only [go_sem,hlt',hlt,h0i,Nat.add_zero,jg3 hr,jcv hr,jd,ja];refine jc (jdF r 2 htl) (by simp only [go_sem,jd,ja,jbA hr,jZ hr,kb hr,kn hr]) fun ηt=>?_
   simp only [go_sem,jd,ja,jbA hr,jZ hr,kb hr,kn hr];have hrd:=jos hr;have hlt2:(qB 2 r.tasks).length≤12:=jA5 (hok.right r (List.mem_of_getElem? hr)) 2;have hrl:=jmY hok.right hrun8 i;have hwr:IntKind.i64.wrap ((qr (y.runs.take i):Int)+((qB 2 r.tasks).length:Int))=(qr (y.runs.take (i+1)):Int):=by rw [hrd];rw [jg (by omega) (by omega)];push_cast;rfl
   have hw:IntKind.i64.wrap ((i:Int)+1)=((i+1:Nat):Int):=jg (by omega) (by omega)
   simp only [go_sem,hlt',hlt,h0i,Nat.add_zero,jg3 hr,jcv hr,juJ hr,jtT hr,jd,ja,ji2,hwr];refine jc (kW y r.id) (by simp only [go_sem,jb]) fun ηa=>?_
   simp only [go_sem,jb];simp only [go_sem,hplace,bne_self_eq_false,hw];exact ⟨i+1,by (try dsimp only);first|omega|assumption|(and_intros<;>first|omega|assumption),(jj [some 300,some 400,some 1700] (by simp only [go_sem,hw,hwr]<;>and_intros<;>first|rfl|assumption|trivial)),by (try dsimp only);omega⟩
  have hlt':¬(i:Int)<(y.runs.length:Int):=by omega
  obtain rfl:i=y.runs.length:=by omega
  rw [List.take_length];simp only [go_sem,hlt'];have hRl:R.length=qr y.runs:=by rw [←hR];exact jja hI.rns.eight hI.rns.ids hI.ens
  have hN:qr y.runs≤96:=by have:=jmY hok.right hrun8 y.runs.length;rwa [List.take_length] at this
  have hRf:∀x∈R,jN y x=true:=fun x hx=>by rw [←hR,jkD] at hx;exact (List.mem_filter.1 hx).2
  have hsh:=jlm ht;refine jp (fun i:Nat=>St.of [(3,Bx 300 b3),(4,Bx 400 b4),(5,Hd 1700 (η3 0)),(6,Ni (qr y.runs)),(8,Ni i)] [(300,kt b3 tYd y.now y.seq y.shelf (η1 2) y.runs (η1 3)),(400,kt b4 tYd y.now y.seq y.shelf (η2 2) y.runs (η2 3)),(1700,.loose (jm R) (η3 0))]) (fun i=>i≤R.length) (fun i=>R.length-i) 0 ((Nat.zero_le _)) (jj [some 300,some 400,some 1700] (by simp only [go_sem]<;>and_intros<;>first|rfl|assumption|trivial)) ?_
  rintro i hi;by_cases hlt:i<R.length
  ·have hlt':(i:Int)<(R.length:Int):=by omega
   have h0i:(i:Int)≥0:=by omega
   obtain ⟨x,hx⟩:=je hlt;have hf:=hRf x (List.mem_of_getElem? hx);have hw:IntKind.i64.wrap ((i:Int)+1)=((i+1:Nat):Int):=jg (by omega) (by omega)
   simp only [go_sem,hlt',hlt,h0i,Nat.add_zero,jc2 hx,jcw hlt,jf];refine jc (jaD y x) (by simp only [go_sem,jb,jf]) fun ηf=>?_
   simp only [go_sem,jb,jf];simp only [go_sem,hf,hw];exact ⟨i+1,by (try dsimp only);first|omega|assumption|(and_intros<;>first|omega|assumption),(jj [some 300,some 400,some 1700] (by simp only [go_sem,hw]<;>and_intros<;>first|rfl|assumption|trivial)),by (try dsimp only);omega⟩
  have hlt2:¬(i:Int)<(R.length:Int):=by omega
  simp only [go_sem,hlt2];refine jc (jiU) (by simp only [go_sem]) fun ηn=>?_
  simp only [go_sem];simp only [go_sem,jb];intro b9;refine jc (kI y ht) (by simp only [go_sem,jb]) fun ηo=>?_
  simp only [go_sem,jb];have hyes:=jay hok;have hnew:=jay (YdI.new.ok (by decide))
  have htn:jK newYd≤2000000:=by decide
  have hn4:newYd.shelf.length=4:=YdI.new.four;simp only [go_sem,hyes,hRl,beq_self_eq_true];have pR:=jjX y ht;rw [hR] at pR;refine jc (pR) (by simp only [go_sem,jb]) fun ηr=>?_
  simp only [go_sem,jb];refine jc (jtk R (by omega)) (by simp only [go_sem]) fun ηs=>?_
  simp only [go_sem];refine jc (jaS y ht) (by simp only [go_sem,jb]) fun ηa=>?_
  simp only [go_sem,jb];refine jc (jdG y ht) (by simp only [go_sem,jb]) fun ηb=>?_
  simp only [go_sem,jb];simp only [go_sem,beq_self_eq_true];refine jc (jaS y ht) (by simp only [go_sem,jb]) fun ηc=>?_
  simp only [go_sem,jb];have h40:=hok.slots;simp only [go_sem,h40];refine jc (kI newYd htn) (by simp only [go_sem,jb]) fun ηd=>?_
  simp only [go_sem,jb];simp only [go_sem,hnew,jcu,hn4,beq_self_eq_true];have hwn:IntKind.i64.wrap ((qr y.runs:Int)+1)=((qr y.runs:Int)+1):=jg (by omega) (by omega)
  refine jc (jaT ((qr y.runs:Int)+1)) (by simp only [go_sem,hwn]) fun ηe=>?_
  simp only [go_sem,hwn];refine jc (jaR ((qr y.runs:Int)+1)) (by simp only [go_sem,hwn]) fun ηg=>?_
  simp only [go_sem,hwn];simp only [go_sem,beq_self_eq_true]
open Go.ChangeShapes Go.WideShapes Go.ChangeAt Go.RowKit
theorem own:ownKnob Tryz.prog.godebug=none:=by kernel_rfl
theorem laid:laidOutB Tryz.prog=true:=by kernel_rfl
section
variable {H:Type} {enc:TypeId×Value→H} {P:Program}
theorem jrj {f:Func} {s:ChangeSpec} {apart jN handsOn again:Bool} {W W':World} {args:Array Value} {v:Value} {ds gs:List (DataW H)} {before pa pv:List MemPlace}
 (hW:DataW.Whole enc P f.params.toList s.vars apart W args.toList ds gs before)
 (hres:∀(b:Nat) (sp:Nat→Bool) (hd:Bool),DataW.TrodAll enc P W' b sp hd f.resultTypes.toList (v.resultList f.resultTypes.size) (s.fn H (ds++gs)).results [])
 (hargs:∀sp:Nat→Bool,(∀p∈before,sp p.block=true)→DataW.TrodAll enc P W' 0 sp true f.params.toList args.toList (s.fn H (ds++gs)).args pa)
 (hvars:∀sp:Nat→Bool,(∀p∈before,sp p.block=true)→DataW.TrodVars enc P W' sp s.vars (s.fn H (ds++gs)).vars pv)
 (hps:before=pa++pv) (hb:Below W.heap.size W W')
 (hok:∀(j:Nat) (t:TypeId) (r:Value),f.resultTypes[j]?=some t→(v.resultList f.resultTypes.size)[j]?=some r→Value.okWide P W' .any 0 t r):
 s.post enc P f apart jN handsOn again W args v W':=by
 have hlt:∀p∈before,p.block<W.heap.size:=fun p hp=>hW.lt p hp
 have hold:∀p∈before,(fun b=>decide (b<W.heap.size)) p.block=true:=fun p hp=>by simpa using hlt p hp
 refine ⟨ds,gs,before,[],pa,pv,hW,hres _ _ _,hargs _ hold,hvars _ hold,World.keptBut_mono (fun p hp=>⟨hp,?_⟩) (hb.frame (· ∈before)),fun _=>?_⟩
 ·rw [hps,List.mem_append] at hp
  exact Or.inr hp
 ·obtain ⟨_,_,_,_,_,hz,hn⟩:=hW
  refine ⟨hok,_,_,([]++pa)++pv,⟨[]++pa,pv,trodAll_append (hargs _ (fun _ _=>rfl)) (hres _ _ _),hvars _ (fun _ _=>rfl),rfl,?_,?_⟩,?_⟩
  ·intro b off hp
   have hin:MemPlace.cell b off∈before:=by rw [hps];simpa using hp
   rw [hb.frozen (hlt _ hin)];exact hz b off hin
  ·intro ha
   have:=hn ha;rw [hps] at this;simpa using this
  ·intro p hp _
   rw [hps];simpa using hp
theorem juN {t:TypeId} (hl:laidOutB P=true) (hr:P.readableRec t=true) (hrow:t<P.types.size) {W W':World} {v:Value} {d:DataW H} {ps:List MemPlace} {sp:Nat→Bool}
 (h:DataW.Trod enc P W 0 (fun _=>true) true t v d ps) (hb:Below W.heap.size W W') (hlt:∀x∈ps,x.block<W.heap.size) (hsp:∀x∈ps,sp x.block=true):
 DataW.Trod enc P W' 0 sp true t v d ps:=
 WideElems.Trod_stays hl hr hrow h (fun x hx=>hb.same (hlt x hx)) (fun x hx=>hsp x hx)
end
theorem jya {H:Type} {enc:TypeId×Value→H} {P:Program} {t e:TypeId} {α:Type} {E:α→D} {X:α→Prop} (hra:ReadsAs P t (fun x=>[E x]) X) (ht:P.underlying t=some (.slice e))
 {W:World} {v:Value} {d:DataW H} {p:List MemPlace} {base:Nat} {spare:Nat→Bool} {held:Bool} {r:_root_.Go.Reach} {b0:Nat} (hv:Value.okWide P W r b0 t v) (h:DataW.Trod enc P W base spare held t v d p):
 ∃x,X x∧∃S,Rep W false (E x) v S:=by
 obtain ⟨a,len,cap,rfl⟩:=okWide_slice ht hv;obtain ⟨fuel,hf⟩:=h;obtain ⟨x,hx,S,hr⟩:=hra _ _ _ _ _ _ _ _ _ hf;obtain ⟨u,us,S1,S2,h1,rfl,h2,rfl,rfl⟩:=hr;have h1':[Value.slice a len cap]=[u]:=h1;cases h1';exact ⟨x,hx,S1,h2⟩
theorem jtF {P:Program} {f:FuncId} {vs:List View} {args:List Value} {w:World} (h:kp P f vs (.c (.val (.bool true)))) (hv:zx w vs args):
 Calls P f args.toArray w fun e w'=>e=.returned (.bool true)∧Below w.heap.size w w':=
 (h.2 w args hv).mono fun e w' ⟨v,S,he,hr,_,hb⟩=>⟨by rw [he,show v=_ from hr.1],hb⟩
end Go.Proofs.YtmnpailnelmpiaaGreat
namespace Go.Proofs.YtmnpailnelmpiaaGreat.lawYards
open Go.ChangeShapes Go.WideShapes Go.ChangeAt Go.RowKit
set_option maxRecDepth 100000 in
theorem lifted (os:Os) (started:os.Started) (H:Type) (enc:TypeId×Value→H):
 ReturnsInHanded {} Tryz.checked os 9 .any (Rows.fnYardsSpec.pre6 enc Tryz.prog Tryz.f9 Rows.fnYardsRow.domain false) (Rows.fnYardsSpec.post enc Tryz.prog Tryz.f9 false true false false):=by
 refine returnsInHanded_of_change (C:=Tryz.checked) own started (by kernel_rfl) Tryz.func9
  (ChangeSpec.witness6 (enc:=enc) (C:=Tryz.checked) false ⟨#[],#[.slice none 0 0],[]⟩ 8 (by kernel_rfl) (by kernel_rfl) (by kernel_rfl) (by kernel_rfl)) ?_
 intro W base args ds gs before hval0 hW hcnd _;have hval:∀(j:Nat) t v,Tryz.f9.params[j]?=some t→args[j]?=some v→Value.okWide Tryz.prog W .any base t v:=hval0;have hW':=hW;obtain ⟨p,q,hA0,hV,rfl,hfz,hnd⟩:=hW;have hA:DataW.TrodAll enc Tryz.prog W 0 (fun _=>true) true Tryz.f9.params.toList args.toList ds p:=hA0
 rw [Tryz.params9] at hA hval;obtain ⟨v0,vs0,d0,ds0,p0,q0,hargs,rfl,rfl,h0,r0⟩:=trodAll_cons hA;obtain ⟨rfl,rfl,rfl⟩:=trodAll_nil r0;obtain rfl:args=#[v0]:=by cases args;simp_all
 obtain ⟨rfl,rfl⟩:=trodVars_none hV;obtain ⟨b0,-,S0,hy0⟩:=jya jz5 Tryz.underlying99 (hval 0 _ v0 rfl rfl) h0;clear hA0 hval0;simp only [List.append_nil] at hW';refine (jtF (args:=[v0]) (jrk b0) ⟨_,_,rfl,⟨_,hy0⟩,rfl⟩).mono fun e W' ⟨he,hb⟩=>?_
 subst he;have hlt0:∀x∈p0,x.block<W.heap.size:=fun x hx=>hW'.lt x (by simp [hx])
 exact ⟨_,rfl,jrj (pa:=(p0++[])) (pv:=[]) hW' (fun _ _ _=>trodAll_mk1 (shut_bool Tryz.underlying4 _)) (fun sp hsp=>(trodAll_cons_mk (juN laid (by kernel_rfl) (of_decide_eq_true (by kernel_rfl)) h0 hb hlt0 (fun x hx=>hsp x (by simp [hx]))) trodAll_mk0)) (fun _ _=>rfl) (by simp) hb (ok_one (by kernel_rfl) rfl (okWide_bool_mk Tryz.underlying4 _))⟩
theorem proved:Rows.FnYardsSaid:=
 OpenClaim.holds_of_wide 9 Tryz.f9 rfl rfl rfl rfl rfl rfl rfl ⟨rfl,rfl,rfl,rfl,rfl⟩ rfl rfl rfl rfl rfl (by as_aux_lemma=>kernel_rfl) Tryz.func9 (by unfold joinedFacts;(repeat' (with_reducible refine Bool.and_eq_true_iff.mpr ⟨?_,?_⟩));all_goals (as_aux_lemma=>kernel_rfl))
  (of_decide_eq_true (by as_aux_lemma=>kernel_rfl)) (by unfold Func.isWrapper;first|(rw [if_pos (by decide+kernel)];kernel_rfl)|(rw [if_neg (by decide+kernel)];exact ⟨rfl,rfl⟩))
  (fun os started H enc _=>lifted os started H enc)
end Go.Proofs.YtmnpailnelmpiaaGreat.lawYards
