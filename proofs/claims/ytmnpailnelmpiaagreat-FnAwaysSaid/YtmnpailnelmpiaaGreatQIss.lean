/- Parts. -/
import Derived.Test.YtmnpailnelmpiaaGreatQRunD
import Derived.Deep.RegionWith
set_option linter.unusedSimpArgs false
set_option linter.unusedVariables false
set_option maxHeartbeats 8000000
set_option maxRecDepth 100000
namespace Go.Proofs.YtmnpailnelmpiaaGreat
open Go.RowKit Go.Sort
def jgj (l:List Rn):List Int:=(l.filter fun r=>r.state !=1).map (·.id)
def jiT (y:Yd):List Int:=jgj y.runs
theorem jrr {l:List Rn} {k:Nat} {x:Rn} (h:l[k]?=some x):jgj (l.take (k+1))=if (x.state !=1)=true then jgj (l.take k)++[x.id] else jgj (l.take k):=by
 rw [List.take_add_one,h];unfold jgj;cases hx:x.state !=1<;>simp [List.filter_append,hx]
theorem jvK (l:List Rn):(jgj l).length≤l.length:=by
 unfold jgj;rw [List.length_map];exact List.length_filter_le _ _
theorem jeh {y:Yd} (h:jK y≤2000000):y.runs.length≤2000000:=by
 simp only [jK,jb9] at h;omega
theorem jpA {y:Yd} (h:jK y≤2000000):y.shelf.length≤2000000:=by
 simp only [jK,jb8] at h;omega
theorem flat_le (l:List (List En)):l.flatten.length≤jb8 l:=by
 induction l with
 |nil=>simp
 |cons x l ih=>
  simp only [List.flatten_cons,List.length_append,jb8,List.length_cons,vq,List.map_cons,List.sum_cons,jbI] at ih⊢;omega
theorem ji8 {l:List (List En)} {k:Nat} {x:List En} (h:l[k]?=some x):(l.take (k+1)).flatten=(l.take k).flatten++x:=by
 rw [List.take_add_one,h];simp
theorem jcv (l:List (List En)) (k:Nat):(l.take k).flatten.length≤l.flatten.length:=by
 have h:l.flatten=(l.take k).flatten++(l.drop k).flatten:=by rw [←List.flatten_append,List.take_append_drop]
 rw [h,List.length_append];omega
theorem zk {y:Yd} (h:jK y≤2000000):y.shelf.flatten.length≤2000000:=by
 have:=flat_le y.shelf;simp only [jK] at h;omega
theorem jo5 {α:Type} {f:α→Bool} {l:List α} {k:Nat} {x:α} (h:l[k]?=some x):(l.take (k+1)).filter f=if f x=true then (l.take k).filter f++[x] else (l.take k).filter f:=by
 rw [List.take_add_one,h];cases hx:f x<;>simp [List.filter_append,hx]
def jaP:C:=iS [iA 2 (.mov (.c (.slice none 0 0)))] (iS [iA 3 (iM 0),iA 4 (.app 111 4 32 (.c (.slice none 0 0)) (.t 3)),iA 2 (iM 4)] .ret)
theorem jcE:fnC Tryz.prog Tryz.f208=some (jaP,[.t 2],5):=by kernel_rfl
def jcQ:C:=iS [iA 1 (.box 37 4 (.t 0)),iA 2 (.alloc 37 [.int .i64 0,.int .i64 0,.slice none 0 0,.slice none 0 0])] (iS [iA 8 (iF 0 1),iA 9 (iL 8),iA 10 (iF 1 1),iA 11 (iL 10),iA 12 (.bld [.int .i64 0,.int .i64 0,.slice none 0 0,.slice none 0 0] [(0,1,.t 9),(1,1,.t 11)]),iA 3 (.alloc 37 [.int .i64 0,.int .i64 0,.slice none 0 0,.slice none 0 0]),iC (.st 4 [none,none,some (1,102),some (8,108)] (.t 3) (.t 12))] (.seq (iS [iA 13 (iF 2 1),iA 14 (iL 13),iA 15 (iG 14),iA 16 (iN 0)] (.blk 0 (.loop (iS [iA 17 (iP .lss 3 16 15)] (.seq (iD 17 .skip (.exit 0)) (.seq (.blk 1 (iS [iA 18 (iI 1 14 16),iA 19 (iL 18),iA 5 (iM 19)] (.dreg (T.pure 0 (iA 20 (iF 2 3)) (T.pure 1 (iA 21 (iL 20)) (T.pure 2 (iA 22 (iM 5)) (T.alt (iA 23 (.call 208 [.t 22])) [1,0] (T.alt (iA 24 (.bsl 102 1 1 [some (4,111)] [(0,1,.t 23)])) [1,0] (T.alt (iA 25 (.app 102 1 24 (.t 21) (.t 24))) [] (T.pure 6 (iA 26 (iF 2 3)) (T.alt (iC (.st 1 [some (1,102)] (.t 26) (.t 25))) [] T.done T.stop)) T.stop) T.stop) T.stop))))))) (.reg [iA 27 (iQ .add 3 16 1),iA 16 (iM 27)]))))))) (.seq (iS [iA 28 (iF 3 1),iA 29 (iL 28),iA 30 (iG 29),iA 31 (iN 0)] (.blk 2 (.loop (iS [iA 32 (iP .lss 3 31 30)] (.seq (iD 32 .skip (.exit 2)) (.seq (.blk 3 (iS [iA 33 (iI 8 29 31),iA 34 (iT 8 33),iA 7 (.alloc 108 [.int .i64 0,.int .i64 0,.int .i64 0,.int .i64 0,.int .i64 0,.slice none 0 0,.int .i64 0,.slice none 0 0]),iC (.st 8 [none,none,none,none,none,some (2,253),none,some (4,172)] (.t 7) (.t 34))] (.dreg (T.pure 0 (iA 35 (iF 3 3)) (T.pure 1 (iA 36 (iL 35)) (T.pure 2 (iA 37 (iT 8 7)) (T.alt (iA 38 (.call 209 [.t 37])) [1,0] (T.alt (iA 39 (.bsl 108 8 1 [none,none,none,none,none,some (2,253),none,some (4,172)] [(0,8,.t 38)])) [1,0] (T.alt (iA 40 (.app 108 8 96 (.t 36) (.t 39))) [] (T.pure 6 (iA 41 (iF 3 3)) (T.alt (iC (.st 1 [some (8,108)] (.t 41) (.t 40))) [] T.done T.stop)) T.stop) T.stop) T.stop))))))) (.reg [iA 42 (iQ .add 3 31 1),iA 31 (iM 42)]))))))) (iS [iA 43 (iT 4 3),iC (.st 4 [none,none,some (1,102),some (8,108)] (.t 2) (.t 43))] .ret))))
theorem jfo:fnC Tryz.prog Tryz.f118=some (jcQ,[.cell 2 true 4],44):=by kernel_rfl
def jdJ:C:=iS [iA 1 (.box 37 4 (.t 0)),iA 2 (.alloc 37 [.int .i64 0,.int .i64 0,.slice none 0 0,.slice none 0 0])] (iS [iA 6 (iF 0 1),iA 7 (iL 6),iA 8 (iF 1 1),iA 9 (iL 8),iA 10 (.bld [.int .i64 0,.int .i64 0,.slice none 0 0,.slice none 0 0] [(0,1,.t 7),(1,1,.t 9)]),iA 3 (.alloc 37 [.int .i64 0,.int .i64 0,.slice none 0 0,.slice none 0 0]),iC (.st 4 [none,none,some (1,102),some (8,108)] (.t 3) (.t 10))] (.seq (iS [iA 4 (iN 0)] (.blk 0 (.loop (.seq (iS [iA 11 (iM 4),iA 12 (iF 2 1),iA 13 (iL 12),iA 14 (iG 13),iA 15 (iP .lss 3 11 14)] (iD 15 .skip (.exit 0))) (.seq (.blk 1 (.dreg (T.pure 0 (iA 18 (iF 2 3)) (T.pure 1 (iA 19 (iL 18)) (T.pure 3 (iA 21 (iF 2 1)) (T.pure 4 (iA 22 (iL 21)) (T.pure 5 (iA 23 (iM 4)) (T.pure 6 (iA 24 (iI 1 22 23)) (T.pure 7 (iA 25 (iL 24)) (T.alt (iA 20 (.bsl 111 4 0 [] [])) [7,6,5,4,3,1,0] (T.alt (iA 26 (.app 111 4 32 (.t 20) (.t 25))) [1,0] (T.alt (iA 27 (.bsl 102 1 1 [some (4,111)] [(0,1,.t 26)])) [1,0] (T.alt (iA 28 (.app 102 1 24 (.t 19) (.t 27))) [] (T.pure 11 (iA 29 (iF 2 3)) (T.alt (iC (.st 1 [some (1,102)] (.t 29) (.t 28))) [] T.done T.stop)) T.stop) T.stop) T.stop) T.stop)))))))))) (.reg [iA 16 (iM 4),iA 17 (iQ .add 3 16 1),iA 4 (iM 17)])))))) (.seq (iS [iA 5 (iN 0)] (.blk 2 (.loop (.seq (iS [iA 30 (iM 5),iA 31 (iF 3 1),iA 32 (iL 31),iA 33 (iG 32),iA 34 (iP .lss 3 30 33)] (iD 34 .skip (.exit 2))) (.seq (.blk 3 (.dreg (T.pure 0 (iA 37 (iF 3 3)) (T.pure 1 (iA 38 (iL 37)) (T.pure 2 (iA 39 (iF 3 1)) (T.pure 3 (iA 40 (iL 39)) (T.pure 4 (iA 41 (iM 5)) (T.pure 5 (iA 42 (iI 8 40 41)) (T.pure 6 (iA 43 (iT 8 42)) (T.alt (iA 44 (.call 185 [.t 43])) [1,0] (T.alt (iA 45 (.bsl 108 8 1 [none,none,none,none,none,some (2,253),none,some (4,172)] [(0,8,.t 44)])) [1,0] (T.alt (iA 46 (.app 108 8 96 (.t 38) (.t 45))) [] (T.pure 10 (iA 47 (iF 3 3)) (T.alt (iC (.st 1 [some (8,108)] (.t 47) (.t 46))) [] T.done T.stop)) T.stop) T.stop) T.stop)))))))))) (.reg [iA 35 (iM 5),iA 36 (iQ .add 3 35 1),iA 5 (iM 36)])))))) (iS [iA 48 (iT 4 3),iC (.st 4 [none,none,some (1,102),some (8,108)] (.t 2) (.t 48))] .ret))))
theorem jgs:fnC Tryz.prog Tryz.f105=some (jdJ,[.cell 2 true 4],49):=by kernel_rfl
abbrev kv (b ty:Nat) (now seq:Int) (sh:List (List En)) (e1:jr) (rn:List Rn) (e2:jr):Ob:=.box b ty [.a (.v (.int .i64 now)),.a (.v (.int .i64 seq)),.own (kz sh) e1,.own (jN rn) e2]
abbrev ZYd (b ty:Nat):Ob:=.box b ty [.a (.v (.int .i64 0)),.a (.v (.int .i64 0)),.a (.v (.slice none 0 0)),.a (.v (.slice none 0 0))]
theorem ko (l:List En):D.sl 4 tEn (l.flatMap jk)=jm l:=rfl
theorem jsQ (l:List (List En)) (x:List En):D.sl 1 jqQ (l.flatMap (fun es=>[jm es])++[jm x])=kz (l++[x]):=by simp [kz]
theorem jpG (l:List Rn) (r:Rn):D.sl 8 tRn (l.flatMap jd++[.val (.int .i64 r.id),.val (.int .i64 r.plan.prio),.val (.int .i64 r.plan.most),.val (.int .i64 r.plan.wait),.val (.int .i64 r.plan.tasks),jz r.plan.edges,.val (.int .i64 r.state),jG r.tasks])=jN (l++[r]):=by simp [jN,jd,ja]
theorem ja2 {y:Yd} (ht:jK y≤2000000) {l:List En} (h:l∈y.shelf):l.length≤4000000:=by
 obtain ⟨k,hk,rfl⟩:=List.getElem_of_mem h;have h1:=List.getElem?_eq_getElem hk;have h2:=jaj (tot:=jbI) h1;have h3:=jbo jbI y.shelf (k+1);simp only [jK,jb8,jbI] at*;omega
theorem jci {y:Yd} (ht:jK y≤2000000) {r:Rn} (h:r∈y.runs):r.plan.edges.length≤4000000∧r.tasks.length≤4000000:=by
 obtain ⟨k,hk,rfl⟩:=List.getElem_of_mem h;have h1:=List.getElem?_eq_getElem hk;have h2:=jaj (tot:=vo) h1;have h3:=jbo vo y.runs (k+1);simp only [jK,jb9,vo,jjL] at*;omega
theorem kh (l:List En) (hl:l.length≤4000000):kr Tryz.prog 208 [.c (jm l)] (.c (jm l)):=by
 refine js Tryz.func208 jcE (by simp) ?_
 unfold jaP;have h1:l.length≤maxLen:=by unfold maxLen;omega
 have h2:l.length*32≤140737488355328:=by omega
 simp only [go_sem,h1,h2,ko]
theorem km (y:Yd) (ht:jK y≤2000000):kr Tryz.prog 118 [.agg (jb y)] (.agg (jb y)):=by
 refine js Tryz.func118 jfo (by simp) ?_
 unfold jcQ;have hsl:y.shelf.length≤2000000:=by simp only [jK,jb8] at ht;omega
 have hrl:=jeh ht;simp only [go_sem,jb];intro b1 b2 b3;refine jp (fun i:Nat×jr=>St.of [(1,Bx 100 b1),(2,Bx 200 b2),(3,Bx 300 b3),(14,Ro (kz y.shelf)),(15,Ni y.shelf.length),(16,Ni i.1)] [(100,Bi b1 _ (jb y)),(200,ZYd b2 _),(300,.box b3 _ [.a (.v (.int .i64 y.now)),.a (.v (.int .i64 y.seq)),.own (kz (y.shelf.take i.1)) i.2,.a (.v (.slice none 0 0))])]) (fun i=>i.1≤y.shelf.length) (fun i=>y.shelf.length-i.1) (0,jb5) (by (try dsimp only);first|omega|(simp;done)|(and_intros<;>first|omega|simp)) (ji [some 100,some 200,some 300] (by simp only [go_sem,jb,List.take_zero]<;>and_intros<;>first|rfl|assumption|trivial)) ?_
 rintro ⟨k,η⟩ hk;dsimp only at hk;by_cases hlt:k<y.shelf.length
 ·have hlt':(k:Int)<y.shelf.length:=by omega
  obtain ⟨l,hl⟩:=je hlt;have hw:IntKind.i64.wrap ((k:Int)+1)=((k+1:Nat):Int):=jg (by omega) (by omega)
  have hm1:k+1≤maxLen:=by unfold maxLen;omega
  have hm2:(k+1)*24≤140737488355328:=by omega
  have htk:(y.shelf.take k).length=k:=by rw [List.length_take];omega
  have hts:y.shelf.take (k+1)=y.shelf.take k++[l]:=by rw [List.take_add_one,hl];rfl
  generalize y.shelf.take k=M at*;simp only [go_sem,jb,hlt,hlt',qa hl];refine jc (kh l (ja2 ht (List.mem_of_getElem? hl))) (by simp only [go_sem,jb]) fun η=>?_
  simp only [go_sem,jb];simp only [go_sem,htk,hm1,hm2,jsQ];intro η7 η8;simp only [go_sem,hw];exact ⟨(k+1,η8),by (try dsimp only);first|omega|assumption|(and_intros<;>first|omega|assumption),(ji [some 100,some 200,some 300] (by simp only [go_sem,jb,hts]<;>and_intros<;>first|rfl|assumption|trivial)),by (try dsimp only);omega⟩
 have hlt':¬(k:Int)<y.shelf.length:=by omega
 rw [List.take_of_length_le (by omega)]
 simp only [go_sem,jb,hlt'];refine jp (fun i:Nat×jr=>St.of [(1,Bx 100 b1),(2,Bx 200 b2),(3,Bx 300 b3),(29,Ro (jN y.runs)),(30,Ni y.runs.length),(31,Ni i.1)] [(100,Bi b1 _ (jb y)),(200,ZYd b2 _),(300,kv b3 _ y.now y.seq y.shelf η (y.runs.take i.1) i.2)]) (fun i=>i.1≤y.runs.length) (fun i=>y.runs.length-i.1) (0,jb5) (by (try dsimp only);first|omega|(simp;done)|(and_intros<;>first|omega|simp)) (ji [some 100,some 200,some 300] (by simp only [go_sem,jb,List.take_zero]<;>and_intros<;>first|rfl|assumption|trivial)) ?_
 rintro ⟨j,η2⟩ hj;dsimp only at hj;by_cases hjl:j<y.runs.length
 ·have hjl':(j:Int)<y.runs.length:=by omega
  obtain ⟨r,hr⟩:=je hjl;have hw:IntKind.i64.wrap ((j:Int)+1)=((j+1:Nat):Int):=jg (by omega) (by omega)
  have hm1:j+1≤maxLen:=by unfold maxLen;omega
  have hm2:(j+1)*96≤140737488355328:=by omega
  have hjk:(y.runs.take j).length=j:=by rw [List.length_take];omega
  have hjs:y.runs.take (j+1)=y.runs.take j++[r]:=by rw [List.take_add_one,hr];rfl
  have hrb:=jci ht (List.mem_of_getElem? hr);generalize y.runs.take j=M at*;simp only [go_sem,jb,hjl,hjl',jP hr,jd,ja];intro b7;refine jc (jdz r hrb.1 hrb.2) (by simp only [go_sem,jb,jd,ja]) fun η=>?_
  simp only [go_sem,jb,jd,ja];simp only [go_sem,hjk,hm1,hm2,jpG];intro η7 η8;simp only [go_sem,hw];exact ⟨(j+1,η8),by (try dsimp only);first|omega|assumption|(and_intros<;>first|omega|assumption),(ji [some 100,some 200,some 300] (by simp only [go_sem,jb,hjs]<;>and_intros<;>first|rfl|assumption|trivial)),by (try dsimp only);omega⟩
 have hjl':¬(j:Int)<y.runs.length:=by omega
 rw [List.take_of_length_le (by omega)]
 simp only [go_sem,jb,hjl']
theorem kt (y:Yd) (ht:jK y≤2000000):kr Tryz.prog 105 [.agg (jb y)] (.agg (jb y)):=by
 refine js Tryz.func105 jgs (by simp) ?_
 unfold jdJ;have hsl:y.shelf.length≤2000000:=by simp only [jK,jb8] at ht;omega
 have hrl:=jeh ht;simp only [go_sem,jb];intro b1 b2 b3;refine jp (fun i:Nat×jr=>St.of [(1,Bx 100 b1),(2,Bx 200 b2),(3,Bx 300 b3),(4,Ni i.1)] [(100,Bi b1 _ (jb y)),(200,ZYd b2 _),(300,.box b3 _ [.a (.v (.int .i64 y.now)),.a (.v (.int .i64 y.seq)),.own (kz (y.shelf.take i.1)) i.2,.a (.v (.slice none 0 0))])]) (fun i=>i.1≤y.shelf.length) (fun i=>y.shelf.length-i.1) (0,jb5) (by (try dsimp only);first|omega|(simp;done)|(and_intros<;>first|omega|simp)) (ji [some 100,some 200,some 300] (by simp only [go_sem,jb,List.take_zero]<;>and_intros<;>first|rfl|assumption|trivial)) ?_
 rintro ⟨k,η⟩ hk;dsimp only at hk;by_cases hlt:k<y.shelf.length
 ·have hlt':(k:Int)<y.shelf.length:=by omega
  have h0k:(k:Int)≥0:=by omega
  obtain ⟨l,hl⟩:=je hlt;have hll:=ja2 ht (List.mem_of_getElem? hl);have hw:IntKind.i64.wrap ((k:Int)+1)=((k+1:Nat):Int):=jg (by omega) (by omega)
  have hm1:k+1≤maxLen:=by unfold maxLen;omega
  have hm2:(k+1)*24≤140737488355328:=by omega
  have hm3:l.length≤maxLen:=by unfold maxLen;omega
  have hm4:l.length*32≤140737488355328:=by omega
  have htk:(y.shelf.take k).length=k:=by rw [List.length_take];omega
  have hts:y.shelf.take (k+1)=y.shelf.take k++[l]:=by rw [List.take_add_one,hl];rfl
  generalize y.shelf.take k=M at*;simp only [go_sem,jb,hlt,hlt',h0k,qa hl,hm3,hm4,ko];intro η5 η6;simp only [go_sem,htk,hm1,hm2,hm3,hm4,ko,jsQ];intro η7 η8;simp only [go_sem,hw];exact ⟨(k+1,η8),by (try dsimp only);first|omega|assumption|(and_intros<;>first|omega|assumption),(ji [some 100,some 200,some 300] (by simp only [go_sem,jb,hts]<;>and_intros<;>first|rfl|assumption|trivial)),by (try dsimp only);omega⟩
 have hlt':¬(k:Int)<y.shelf.length:=by omega
 rw [List.take_of_length_le (by omega)]
 simp only [go_sem,jb,hlt'];refine jp (fun i:Nat×jr=>St.of [(1,Bx 100 b1),(2,Bx 200 b2),(3,Bx 300 b3),(5,Ni i.1)] [(100,Bi b1 _ (jb y)),(200,ZYd b2 _),(300,kv b3 _ y.now y.seq y.shelf η (y.runs.take i.1) i.2)]) (fun i=>i.1≤y.runs.length) (fun i=>y.runs.length-i.1) (0,jb5) (by (try dsimp only);first|omega|(simp;done)|(and_intros<;>first|omega|simp)) (ji [some 100,some 200,some 300] (by simp only [go_sem,jb,List.take_zero]<;>and_intros<;>first|rfl|assumption|trivial)) ?_
 rintro ⟨j,η2⟩ hj;dsimp only at hj;by_cases hjl:j<y.runs.length
 ·have hjl':(j:Int)<y.runs.length:=by omega
  have h0j:(j:Int)≥0:=by omega
  obtain ⟨r,hr⟩:=je hjl;have hw:IntKind.i64.wrap ((j:Int)+1)=((j+1:Nat):Int):=jg (by omega) (by omega)
  have hm1:j+1≤maxLen:=by unfold maxLen;omega
  have hm2:(j+1)*96≤140737488355328:=by omega
  have hjk:(y.runs.take j).length=j:=by rw [List.length_take];omega
  have hjs:y.runs.take (j+1)=y.runs.take j++[r]:=by rw [List.take_add_one,hr];rfl
  have hrb:=jci ht (List.mem_of_getElem? hr);generalize y.runs.take j=M at*;simp only [go_sem,jb,hjl,hjl',h0j,jP hr,jd,ja];refine jc (vu r hrb.1 hrb.2) (by simp only [go_sem,jb,jd,ja]) fun η=>?_
  simp only [go_sem,jb,jd,ja];simp only [go_sem,hjk,hm1,hm2,jpG];intro η7 η8;simp only [go_sem,hw];exact ⟨(j+1,η8),by (try dsimp only);first|omega|assumption|(and_intros<;>first|omega|assumption),(ji [some 100,some 200,some 300] (by simp only [go_sem,jb,hjs]<;>and_intros<;>first|rfl|assumption|trivial)),by (try dsimp only);omega⟩
 have hjl':¬(j:Int)<y.runs.length:=by omega
 rw [List.take_of_length_le (by omega)]
 simp only [go_sem,jb,hjl']
open Go.RowKit Go.Sort Go.BigFrame
open Go.RowKit Go.Sort Go.BigFrame
open Go.RowKit Go.Sort Go.BigFrame
open Go.RowKit Go.Sort Go.BigFrame
theorem ci {P:Program} {f:FuncId} {args:Array Value} {w:World} {b b':Int} (h:Calls P f args w fun e w'=>e=.returned (.int .i64 b)∧Below w.heap.size w w') (hb:b=b'):Calls P f args w fun e w'=>e=.returned (.int .i64 b')∧Below w.heap.size w w':=by subst hb;exact h
section
variable {w w':World} {own:Bool} {d:D} {v:Value} {S:List Nat}
theorem upA (h:Rep w own d v S) (o:Obj):Rep (w.alloc o) own d v S:=Rep.keep d h fun b hb=>Below.heap_alloc w o b (Rep.lt d h b hb)
theorem up (h:Rep w own d v S) (hb:Below w.heap.size w w'):Rep w' own d v S:=h.below hb (Nat.le_refl _)
theorem upB {w0:World} (h:Below w0.heap.size w0 w) (o:Obj):Below w0.heap.size w0 (w.alloc o):=h.alloc h.size o
end
open Go.RowKit Go.Sort Go.BigFrame
theorem cto {w w1:World} {b o:Nat} {v:Value} (hB:Below w.heap.size w w1) (h:w.cell? ⟨b,o,none⟩=some v):w1.cell? ⟨b,o,none⟩=some v:=
 (hB.cell (p:=⟨b,o,none⟩) (World.block_lt_of_cell? w _ h)).trans h
@[go_sem high] theorem equalEd (w:World) (x y:Ed):(Op.equalIn 10000 253 (.agg #[.int .i64 x.src,.int .i64 x.dst]) (.agg #[.int .i64 y.src,.int .i64 y.dst])).run Tryz.prog w=.ok (decide (x=y)) w:=by
  have u3:=Tryz.underlying3;have a3:=Tryz.isAgg3;have z3:=Tryz.sizeOf3;rw [show (10000:Nat)=9999+1 from rfl,run_equalIn_agg w 9999 253 _ _ (by kernel_rfl) (by kernel_rfl)]
  simp only [Program.fieldsOf,Tryz.underlying253];obtain ⟨xsrc,xdst⟩:=x;obtain ⟨ysrc,ydst⟩:=y
  go_simp
  by_cases h0:xsrc=ysrc<;>by_cases h1:xdst=ydst<;>simp [h0,h1]
theorem jrS (l m:List Ed) (a b:Value) (S S':List Nat) (w:World) (own own':Bool) (ha:Rep w own (jz l) a S) (hb:Rep w own' (jz m) b S'):
 Calls Tryz.prog 286 #[a,b] w fun e w'=>e=.returned (.bool (decide (l=m)))∧Below w.heap.size w w':=by
 obtain ⟨A,c,rfl,hc1,hc2,hca⟩:=Rep.open_ (size:=2) (enc:=jQ) (fun _=>rfl) (by decide) ha
 obtain ⟨B,d,rfl,hd1,hd2,hdb⟩:=Rep.open_ (size:=2) (enc:=jQ) (fun _=>rfl) (by decide) hb
 unfold maxLen at hc2 hd2;have hl1:l.length≤9223372036854775807:=by omega
 have hl2:m.length≤9223372036854775807:=by omega
 clear ha hb;by_cases hlen:l.length=m.length
 ·have HL:=Lib.hid hlen
  have hne:((l.length:Int) !=(m.length:Int))=false:=by rw [hlen];simp
  clear hlen
  go_enter Tryz.func286,Tryz.ntmps286
  go_wp2
  go_loopw [5,13] (fun _ i wr=>∃k:Nat,k≤l.length∧i=.int .i64 k∧l.take k=m.take k∧Below w.heap.size w wr) (fun _ i _=>l.length-(intOf i).toNat)
  case atStart=>exact ⟨0,by omega,rfl,rfl,Below.refl _ _⟩
  case round=>
   obtain ⟨k,hk,rfl,heq,hbel⟩:=hrel;have HQ:=Lib.hid heq;clear heq;by_cases hlt:k<l.length
   ·have hlt':k<m.length:=by have:=HL.out;omega
    obtain ⟨x,hx⟩:=je hlt;obtain ⟨y,hy⟩:=je hlt';obtain ⟨b1,o1,vk1,T1,rfl,-,hr1,-,-,hb1,hx1⟩:=hca k x hx;obtain ⟨b2,o2,vk2,T2,rfl,-,hr2,-,-,hb2,hx2⟩:=hdb k y hy;clear hca hdb;obtain ⟨rfl,rfl⟩:=jqn hr1;obtain ⟨rfl,rfl⟩:=jqn hr2;have HX:=Lib.hid hx;have HY:=Lib.hid hy;clear hx hy;have p0:=cell_regrown (cto (b:=b1) (o:=o1+k*2) hbel (hx1 0 _ rfl));have q0:=cell_regrown (cto (b:=b2) (o:=o2+k*2) hbel (hx2 0 _ rfl));have p1:=cell_regrown (cto (b:=b1) (o:=o1+k*2+1) hbel (hx1 1 _ rfl));have q1:=cell_regrown (cto (b:=b2) (o:=o2+k*2+1) hbel (hx2 1 _ rfl));clear hx1 hx2 hr1 hr2;by_cases hxy:x=y
    ·have HXY:=Lib.hid hxy
     have hd:decide (x=y)=true:=decide_eq_true hxy;clear hxy
     go_wp2
     refine wp_region_quiet_below (by kernel_rfl) (by kernel_rfl) ?_
     repeat (go_big_quiet_step (fail))
     refine wpQuiet_nil ?_;intro _ hw';obtain ⟨⟨dq,osq⟩,hw''⟩:=hw';subst hw'';have hbel2:=hbel.trans ((below_regrown wr dq osq).mono hbel.size)
     go_wp2
     go_roundw
     case rel=>exact ⟨k+1,by omega,by go_num,jwi HX.out (HXY.out▸HY.out) HQ.out,hbel2⟩
     case measure=>simp [intOf];omega
    ·have HXY:=Lib.hid hxy
     have hd:decide (x=y)=false:=decide_eq_false hxy;clear hxy
     go_wp2
     refine wp_region_quiet_below (by kernel_rfl) (by kernel_rfl) ?_
     repeat (go_big_quiet_step (fail))
     refine wpQuiet_nil ?_;intro _ hw';obtain ⟨⟨dq,osq⟩,hw''⟩:=hw';subst hw'';have hbel2:=hbel.trans ((below_regrown wr dq osq).mono hbel.size)
     go_wp2
     go_ret
     exact ⟨jZ (decide_eq_false (jA0 HX.out HY.out HXY.out)).symm,hbel2⟩
   ·clear hca hdb
    go_wp2
    go_ret
    exact ⟨jZ (decide_eq_true (jwj (k:=k) (by omega) (by have:=HL.out;omega) HQ.out)).symm,hbel⟩
 ·have hne:((l.length:Int) !=(m.length:Int))=true:=bne_iff_ne.2 (by omega)
  clear hca hdb
  go_enter Tryz.func286,Tryz.ntmps286
  go_wp2
  go_ret
  exact ⟨jZ (decide_eq_false (fun e=>hlen (by rw [e]))).symm,Below.refl _ _⟩
theorem joX (x y:Pl) (a b:Value) (S S':List Nat) (w:World) (own own':Bool) (ha:AggRep w own (ja x) a S) (hb:AggRep w own' (ja y) b S'):
 Calls Tryz.prog 269 #[a,b] w fun e w'=>e=.returned (.bool (decide (x=y)))∧Below w.heap.size w w':=by
 obtain ⟨_,rfl,ha⟩:=ha;obtain ⟨_,rfl,hb⟩:=hb;obtain ⟨av0,rfl,ah0⟩:=jc3 ha;obtain ⟨bv0,rfl,bh0⟩:=jc3 hb;clear ha hb;obtain ⟨xprio,xmost,xwait,xtasks,xedges⟩:=x;obtain ⟨yprio,ymost,ywait,ytasks,yedges⟩:=y
 go_enter Tryz.func269,Tryz.ntmps269
 go_wp2_with (first
  |(go_at_call 286;refine (jrS xedges yedges _ _ _ _ _ _ _ (ah0.below (by repeat (first|exact Below.refl _ _|assumption|refine Below.alloc ?_ (by simp;try omega) _|refine kp ?_ (by assumption))) (Nat.le_refl _)) (bh0.below (by repeat (first|exact Below.refl _ _|assumption|refine Below.alloc ?_ (by simp;try omega) _|refine kp ?_ (by assumption))) (Nat.le_refl _))).mono ?_;rintro e w1 ⟨rfl,hb1⟩;obtain ⟨hc1,hf1⟩:=zS hb1))
 all_goals go_ret
 all_goals refine ⟨?_,(by repeat (first|exact Below.refl _ _|assumption|refine Below.alloc ?_ (by simp;try omega) _|refine kp ?_ (by assumption)))⟩
 all_goals (simp_all<;>rfl)
theorem joY (x y:Dd) (a b:Value) (S S':List Nat) (w:World) (own own':Bool) (ha:AggRep w own (jo x) a S) (hb:AggRep w own' (jo y) b S'):
 Calls Tryz.prog 205 #[a,b] w fun e w'=>e=.returned (.bool (decide (x=y)))∧Below w.heap.size w w':=by
 obtain ⟨_,rfl,ha⟩:=ha;obtain ⟨_,rfl,hb⟩:=hb;obtain ⟨av0,rfl,ah0⟩:=jqq ha;obtain ⟨bv0,rfl,bh0⟩:=jqq hb;clear ha hb;obtain ⟨xkind,xrun,xplan,xtask,xtri,xworker,xdraw⟩:=x;obtain ⟨ykind,yrun,yplan,ytask,ytri,yworker,ydraw⟩:=y
 go_enter Tryz.func205,Tryz.ntmps205
 go_wp2_with (first
  |(go_at_call 269;refine (joX xplan yplan _ _ _ _ _ own own' ⟨_,rfl,jAi (ah0.below (by repeat (first|exact Below.refl _ _|assumption|refine Below.alloc ?_ (by simp;try omega) _|refine kp ?_ (by assumption))) (Nat.le_refl _))⟩ ⟨_,rfl,jAi (bh0.below (by repeat (first|exact Below.refl _ _|assumption|refine Below.alloc ?_ (by simp;try omega) _|refine kp ?_ (by assumption))) (Nat.le_refl _))⟩).mono ?_;rintro e w1 ⟨rfl,hb1⟩;obtain ⟨hc1,hf1⟩:=zS hb1))
 all_goals go_ret
 all_goals refine ⟨?_,(by repeat (first|exact Below.refl _ _|assumption|refine Below.alloc ?_ (by simp;try omega) _|refine kp ?_ (by assumption)))⟩
 all_goals (simp_all<;>rfl)
abbrev tIs:TypeId:=104
def qE (l:List (List Int)):D:=.sl 1 tIs (l.flatMap fun es=>[jf es])
section
variable {P:Program} {β:Nat} {s:St}
theorem jrE (l:List (List Int)):(qE l).len=l.length:=jaK (enc:=fun es=>[jf es]) (fun _=>rfl) (by decide) _ _
theorem jpb {l:List (List Int)} {k:Nat} {x:List Int} (h:l[k]?=some x):(qE l).elem k=[jf x]:=zI (enc:=fun es=>[jf es]) (fun _=>rfl) h
theorem jsI (l:List (List Int)):(qE l).isSl=true:=(rfl)
theorem jsx (l:List (List Int)):(qE l).size=1:=(rfl)
theorem jrv (l:List (List Int)) (g:Nat) (η:jr):(qE l).obj g η=[(g,.loose (qE l) η)]:=(rfl)
theorem jro (l:List (List Int)) (g c:Nat) (p:List Nat) (η:jr):(qE l).toOwn g c p η=.h g c p (η p):=(rfl)
theorem jnQ (l:List (List Int)):(qE l).cells=l.flatMap (fun es=>[jf es]):=(rfl)
theorem jqZ (l:List (List Int)) (e:Nat) (k:List D→Prop):slK (qE l) e 1 k=(tIs=e∧k (l.flatMap (fun es=>[jf es]))):=by rw [show qE l=.sl 1 tIs (l.flatMap (fun es=>[jf es])) from rfl,jvm];simp
theorem jr2 (l:List (List Int)):(l.flatMap (fun es=>[jf es])).length/1=l.length:=by rw [jH (enc:=fun es=>[jf es]) (size:=1) (fun _=>rfl)];exact Nat.mul_div_cancel _ (by decide)
theorem juR {l:List (List Int)} {k:Nat} {x:List Int} (h:l[k]?=some x):((l.flatMap (fun es=>[jf es])).drop (k*1)).take 1=[jf x]:=jpb h
theorem jt1 {l:List (List Int)} {k:Nat} (h:k<l.length):k*1+1≤(l.flatMap (fun es=>[jf es])).length:=by rw [jH (enc:=fun es=>[jf es]) (size:=1) (fun _=>rfl)];omega
attribute [go_sem] jrE jsI jsx jrv jro jnQ jqZ jr2
end
def jae (now id:Int) (t:Tk) (k:Nat):Option (List Int):=if (t.state==3&&decide (t.til≤now∨t.til-1=now))=true then some [id,k,t.tri] else none
def zG (now:Int) (r:Rn):Nat→List Tk→List (List Int)
 |_,[]=>[]
 |k,t::ts=>(jae now r.id t k).toList++zG now r (k+1) ts
def kH (y:Yd):List (List Int):=y.runs.flatMap fun r=>zG y.now r 0 r.tasks
open Go.RowKit Go.Sort Go.BigFrame
open Go.RowKit Go.Sort Go.BigFrame
def c4 (l:List En):Nat:=4*l.length
open Go.RowKit Go.Sort Go.BigFrame
open Go.RowKit Go.Sort Go.BigFrame
theorem jkO (now:Int) (r:Rn) (x:Tk):∀(ts:List Tk) (k:Nat),zG now r k (ts++[x])=zG now r k ts++(jae now r.id x (k+ts.length)).toList
 |[],k=>by simp [zG]
 |t::ts,k=>by
  rw [List.cons_append,zG,zG,jkO now r x ts (k+1),List.append_assoc]
  congr 3
  simp only [List.length_cons];congr 1;omega
theorem jkN {now:Int} {r:Rn} {ts:List Tk} {k:Nat} {x:Tk} (h:ts[k]?=some x):zG now r 0 (ts.take (k+1))=zG now r 0 (ts.take k)++(jae now r.id x k).toList:=by
 have hk:k<ts.length:=(List.getElem?_eq_some_iff.1 h).1;rw [List.take_add_one,h];have:=jkO now r x (ts.take k) 0;rw [List.length_take,Nat.min_eq_left (by omega),Nat.zero_add] at this
 exact this
theorem jeZ (now:Int) (r:Rn):∀(ts:List Tk) (k:Nat),(zG now r k ts).length≤ts.length
 |[],k=>by simp [zG]
 |t::ts,k=>by
  have:=jeZ now r ts (k+1)
  have h2:(jae now r.id t k).toList.length≤1:=by
   unfold jae;split<;>simp
  rw [zG,List.length_append,List.length_cons];omega
def ji0 (now:Int) (r:Rn):List (List Int):=zG now r 0 r.tasks
theorem jp6 (y:Yd):kH y=y.runs.flatMap (ji0 y.now):=rfl
theorem jnm {now:Int} {l:List Rn} {k:Nat} {r:Rn} (h:l[k]?=some r):(l.take (k+1)).flatMap (ji0 now)=(l.take k).flatMap (ji0 now)++ji0 now r:=by
 rw [List.take_add_one,h];simp
theorem jtL (now:Int) (l:List Rn):(l.flatMap (ji0 now)).length≤vq vo l:=by
 induction l with
 |nil=>simp
 |cons r l ih=>
  have:=jeZ now r r.tasks 0;simp only [List.flatMap_cons,List.length_append,ji0,vq,List.map_cons,List.sum_cons,vo] at ih⊢;omega
def jfT:C:=iS [iA 1 (.box 37 4 (.t 0)),iA 2 (.mov (.c (.slice none 0 0)))] (iS [iA 3 (.mov (.c (.slice none 0 0)))] (.seq (iS [iA 6 (iF 3 1),iA 7 (iL 6),iA 8 (iG 7),iA 9 (iN 0)] (.blk 0 (.loop (iS [iA 10 (iP .lss 3 9 8)] (.seq (iD 10 .skip (.exit 0)) (.seq (.blk 1 (iS [iA 11 (iI 8 7 9),iA 12 (iT 8 11),iA 5 (.alloc 108 [.int .i64 0,.int .i64 0,.int .i64 0,.int .i64 0,.int .i64 0,.slice none 0 0,.int .i64 0,.slice none 0 0]),iC (.st 8 [none,none,none,none,none,some (2,253),none,some (4,172)] (.t 5) (.t 12))] (iS [iA 13 (iF 6 5),iA 14 (iL 13),iA 15 (iQ .neq 3 14 1)] (iD 15 (.reg [iA 16 (iM 3),iA 17 (iF 0 5),iA 18 (iL 17),iA 19 (.bsl 3 1 1 [none] [(0,1,.t 18)]),iA 20 (.app 3 1 8 (.t 16) (.t 19)),iA 3 (iM 20)]) .skip)))) (.reg [iA 21 (iQ .add 3 9 1),iA 9 (iM 21)]))))))) (iS [iA 22 (iM 3),iA 2 (iM 22)] .ret)))
theorem jhS:fnC Tryz.prog Tryz.f66=some (jfT,[.t 2],23):=by kernel_rfl
theorem jrN (l:List Int) (a:Int):D.sl 1 jeD (l.flatMap (fun n=>[iv n])++[iv a])=jf (l++[a]):=by simp [jf]
theorem jlP (y:Yd) (ht:jK y≤2000000):kr Tryz.prog 66 [.agg (jb y)] (.c (jf (jiT y))):=by
 refine js Tryz.func66 jhS (by simp) ?_
 unfold jfT;have hl:=jeh ht;simp only [go_sem,jb];intro b;refine vd (fun s=>∃k:Nat,k≤y.runs.length∧s.t 7=.c (.ro (jN y.runs))∧s.t 8=.c (.v (.int .i64 y.runs.length))∧s.t 9=.c (.v (.int .i64 k))∧((jgj (y.runs.take k)=[]∧s.t 3=.c (.v (.slice none 0 0)))∨∃η:jr,s.t 3=.c (.h 2000 0 [] (η []))∧s.o 2000=.loose (jf (jgj (y.runs.take k))) η)) (fun s=>y.runs.length-s.n 9) ?_ ?_
 ·exact ⟨0,Nat.zero_le _,by simp only [go_sem]<;>rfl,by simp only [go_sem]<;>rfl,by simp only [go_sem]<;>rfl,.inl ⟨rfl,by simp only [go_sem]⟩⟩
 ·rintro s ⟨k,hk,h7,h8,h9,hg⟩
  by_cases hlt:k<y.runs.length
  ·have hlt':(k:Int)<y.runs.length:=by omega
   obtain ⟨x,hx⟩:=je hlt;have hw:IntKind.i64.wrap ((k:Int)+1)=((k+1:Nat):Int):=jg (by omega) (by omega)
   have hn:=jrr hx
   have hle:(jgj (y.runs.take k)).length≤k:=by
    have:=jvK (y.runs.take k);rw [List.length_take] at this;omega
   generalize jgj (y.runs.take k)=l at*;have h1':l.length+1≤maxLen:=by unfold maxLen;omega
   have h2':(l.length+1)*8≤140737488355328:=by omega
   have hone:D.sl 1 jeD [iv x.id]=jf [x.id]:=rfl;have hmax:1≤maxLen:=by unfold maxLen;omega
   cases hne:x.state !=1
   ·rw [hne,if_neg (by simp)] at hn
    rcases hg with ⟨hnil,h3⟩|⟨η,h3,hob⟩
    ·simp only [go_sem,h7,h8,h9,h3,hlt,hlt',jP hx,jd,ja,hne,hw]
     intros;refine ⟨⟨k+1,by omega,rfl,.inl (by rw [hn,hnil])⟩,?_⟩
     rw [jbr (k:=.i64) (n:=((k+1:Nat):Int)) (by simp only [go_sem]),jbr h9];omega
    ·simp only [go_sem,h7,h8,h9,h3,hob,hlt,hlt',jP hx,jd,ja,hne,hw]
     intros;refine ⟨⟨k+1,by omega,rfl,.inr ⟨η,rfl,by rw [hn]⟩⟩,?_⟩
     rw [jbr (k:=.i64) (n:=((k+1:Nat):Int)) (by simp only [go_sem]),jbr h9];omega
   ·rw [hne,if_pos rfl] at hn
    rcases hg with ⟨hnil,h3⟩|⟨η,h3,hob⟩
    ·rw [hnil,List.nil_append] at hn
     simp only [go_sem,h7,h8,h9,h3,hlt,hlt',jP hx,jd,ja,hne,hw,hone,hmax];intro b1 η1 η2;refine ⟨⟨k+1,by omega,rfl,.inr ⟨η2,rfl,by rw [hn]⟩⟩,?_⟩
     rw [jbr (k:=.i64) (n:=((k+1:Nat):Int)) (by simp only [go_sem]),jbr h9];omega
    ·simp only [go_sem,h7,h8,h9,h3,hob,hlt,hlt',jP hx,jd,ja,hne,hw,h1',h2',jrN]
     intro b1 η1 η2;refine ⟨⟨k+1,by omega,rfl,.inr ⟨η2,rfl,by rw [hn]⟩⟩,?_⟩
     rw [jbr (k:=.i64) (n:=((k+1:Nat):Int)) (by simp only [go_sem]),jbr h9];omega
  ·have hlt':¬(k:Int)<y.runs.length:=by omega
   have hk':y.runs.take k=y.runs:=List.take_of_length_le (by omega)
   rcases hg with ⟨hnil,h3⟩|⟨η,h3,hob⟩
   ·rw [hk'] at hnil
    have e:jiT y=[]:=hnil;simp only [go_sem,h7,h8,h9,h3,hlt',e]
   ·rw [hk'] at hob
    simp only [go_sem,h7,h8,h9,h3,hob,hlt'];rfl
end Go.Proofs.YtmnpailnelmpiaaGreat
