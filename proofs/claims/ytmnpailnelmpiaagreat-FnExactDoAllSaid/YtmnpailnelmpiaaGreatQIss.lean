/- Parts. -/
import Derived.Test.YtmnpailnelmpiaaGreatQRunD
set_option linter.unusedSimpArgs false
set_option linter.unusedVariables false
set_option maxHeartbeats 8000000
set_option maxRecDepth 100000
namespace Go.Proofs.YtmnpailnelmpiaaGreat
open Go.RowKit Go.Sort
theorem jfJ {y:Yd} (h:jt y≤2000000):y.runs.length≤2000000:=by
 simp only [jt,qA] at h;omega
theorem joX {y:Yd} (h:jt y≤2000000):y.shelf.length≤2000000:=by
 simp only [jt,vP] at h;omega
theorem jyG (l:List (List En)):l.flatten.length≤vP l:=by
 induction l with
 |nil=>simp
 |cons x l ih=>
  simp only [List.flatten_cons,List.length_append,vP,List.length_cons,kj,List.map_cons,List.sum_cons,kO] at ih⊢;omega
theorem jiI {l:List (List En)} {k:Nat} {x:List En} (h:l[k]?=some x):(l.take (k+1)).flatten=(l.take k).flatten++x:=by
 rw [List.take_add_one,h];simp
theorem jcc (l:List (List En)) (k:Nat):(l.take k).flatten.length≤l.flatten.length:=by
 have h:l.flatten=(l.take k).flatten++(l.drop k).flatten:=by rw [←List.flatten_append,List.take_append_drop]
 rw [h,List.length_append];omega
theorem zk {y:Yd} (h:jt y≤2000000):y.shelf.flatten.length≤2000000:=by
 have:=jyG y.shelf;simp only [jt] at h;omega
theorem jos {α:Type} {f:α→Bool} {l:List α} {k:Nat} {x:α} (h:l[k]?=some x):(l.take (k+1)).filter f=if f x=true then (l.take k).filter f++[x] else (l.take k).filter f:=by
 rw [List.take_add_one,h];cases hx:f x<;>simp [List.filter_append,hx]
def jaI:C:=iS [iA 2 (.mov (.c (.slice none 0 0)))] (iS [iA 3 (iM 0),iA 4 (.app 111 4 32 (.c (.slice none 0 0)) (.t 3)),iA 2 (iM 4)] .ret)
theorem jcl:fnC Tryz.prog Tryz.f208=some (jaI,[.t 2],5):=by kernel_rfl
def jcv:C:=iS [iA 1 (.box 37 4 (.t 0)),iA 2 (.alloc 37 [.int .i64 0,.int .i64 0,.slice none 0 0,.slice none 0 0])] (iS [iA 8 (iF 0 1),iA 9 (iL 8),iA 10 (iF 1 1),iA 11 (iL 10),iA 12 (.bld [.int .i64 0,.int .i64 0,.slice none 0 0,.slice none 0 0] [(0,1,.t 9),(1,1,.t 11)]),iA 3 (.alloc 37 [.int .i64 0,.int .i64 0,.slice none 0 0,.slice none 0 0]),iC (.st 4 [none,none,some (1,102),some (8,108)] (.t 3) (.t 12))] (.seq (iS [iA 13 (iF 2 1),iA 14 (iL 13),iA 15 (iG 14),iA 16 (iN 0)] (.blk 0 (.loop (iS [iA 17 (iP .lss 3 16 15)] (.seq (iD 17 .skip (.exit 0)) (.seq (.blk 1 (iS [iA 18 (iI 1 14 16),iA 19 (iL 18),iA 5 (iM 19)] (.dreg (T.pure 0 (iA 20 (iF 2 3)) (T.pure 1 (iA 21 (iL 20)) (T.pure 2 (iA 22 (iM 5)) (T.alt (iA 23 (.call 208 [.t 22])) [1,0] (T.alt (iA 24 (.bsl 102 1 1 [some (4,111)] [(0,1,.t 23)])) [1,0] (T.alt (iA 25 (.app 102 1 24 (.t 21) (.t 24))) [] (T.pure 6 (iA 26 (iF 2 3)) (T.alt (iC (.st 1 [some (1,102)] (.t 26) (.t 25))) [] T.done T.stop)) T.stop) T.stop) T.stop))))))) (.reg [iA 27 (iQ .add 3 16 1),iA 16 (iM 27)]))))))) (.seq (iS [iA 28 (iF 3 1),iA 29 (iL 28),iA 30 (iG 29),iA 31 (iN 0)] (.blk 2 (.loop (iS [iA 32 (iP .lss 3 31 30)] (.seq (iD 32 .skip (.exit 2)) (.seq (.blk 3 (iS [iA 33 (iI 8 29 31),iA 34 (iT 8 33),iA 7 (.alloc 108 [.int .i64 0,.int .i64 0,.int .i64 0,.int .i64 0,.int .i64 0,.slice none 0 0,.int .i64 0,.slice none 0 0]),iC (.st 8 [none,none,none,none,none,some (2,253),none,some (4,172)] (.t 7) (.t 34))] (.dreg (T.pure 0 (iA 35 (iF 3 3)) (T.pure 1 (iA 36 (iL 35)) (T.pure 2 (iA 37 (iT 8 7)) (T.alt (iA 38 (.call 209 [.t 37])) [1,0] (T.alt (iA 39 (.bsl 108 8 1 [none,none,none,none,none,some (2,253),none,some (4,172)] [(0,8,.t 38)])) [1,0] (T.alt (iA 40 (.app 108 8 96 (.t 36) (.t 39))) [] (T.pure 6 (iA 41 (iF 3 3)) (T.alt (iC (.st 1 [some (8,108)] (.t 41) (.t 40))) [] T.done T.stop)) T.stop) T.stop) T.stop))))))) (.reg [iA 42 (iQ .add 3 31 1),iA 31 (iM 42)]))))))) (iS [iA 43 (iT 4 3),iC (.st 4 [none,none,some (1,102),some (8,108)] (.t 2) (.t 43))] .ret))))
theorem je0:fnC Tryz.prog Tryz.f118=some (jcv,[.cell 2 true 4],44):=by kernel_rfl
def jdo:C:=iS [iA 1 (.box 37 4 (.t 0)),iA 2 (.alloc 37 [.int .i64 0,.int .i64 0,.slice none 0 0,.slice none 0 0])] (iS [iA 6 (iF 0 1),iA 7 (iL 6),iA 8 (iF 1 1),iA 9 (iL 8),iA 10 (.bld [.int .i64 0,.int .i64 0,.slice none 0 0,.slice none 0 0] [(0,1,.t 7),(1,1,.t 9)]),iA 3 (.alloc 37 [.int .i64 0,.int .i64 0,.slice none 0 0,.slice none 0 0]),iC (.st 4 [none,none,some (1,102),some (8,108)] (.t 3) (.t 10))] (.seq (iS [iA 4 (iN 0)] (.blk 0 (.loop (.seq (iS [iA 11 (iM 4),iA 12 (iF 2 1),iA 13 (iL 12),iA 14 (iG 13),iA 15 (iP .lss 3 11 14)] (iD 15 .skip (.exit 0))) (.seq (.blk 1 (.dreg (T.pure 0 (iA 18 (iF 2 3)) (T.pure 1 (iA 19 (iL 18)) (T.pure 3 (iA 21 (iF 2 1)) (T.pure 4 (iA 22 (iL 21)) (T.pure 5 (iA 23 (iM 4)) (T.pure 6 (iA 24 (iI 1 22 23)) (T.pure 7 (iA 25 (iL 24)) (T.alt (iA 20 (.bsl 111 4 0 [] [])) [7,6,5,4,3,1,0] (T.alt (iA 26 (.app 111 4 32 (.t 20) (.t 25))) [1,0] (T.alt (iA 27 (.bsl 102 1 1 [some (4,111)] [(0,1,.t 26)])) [1,0] (T.alt (iA 28 (.app 102 1 24 (.t 19) (.t 27))) [] (T.pure 11 (iA 29 (iF 2 3)) (T.alt (iC (.st 1 [some (1,102)] (.t 29) (.t 28))) [] T.done T.stop)) T.stop) T.stop) T.stop) T.stop)))))))))) (.reg [iA 16 (iM 4),iA 17 (iQ .add 3 16 1),iA 4 (iM 17)])))))) (.seq (iS [iA 5 (iN 0)] (.blk 2 (.loop (.seq (iS [iA 30 (iM 5),iA 31 (iF 3 1),iA 32 (iL 31),iA 33 (iG 32),iA 34 (iP .lss 3 30 33)] (iD 34 .skip (.exit 2))) (.seq (.blk 3 (.dreg (T.pure 0 (iA 37 (iF 3 3)) (T.pure 1 (iA 38 (iL 37)) (T.pure 2 (iA 39 (iF 3 1)) (T.pure 3 (iA 40 (iL 39)) (T.pure 4 (iA 41 (iM 5)) (T.pure 5 (iA 42 (iI 8 40 41)) (T.pure 6 (iA 43 (iT 8 42)) (T.alt (iA 44 (.call 185 [.t 43])) [1,0] (T.alt (iA 45 (.bsl 108 8 1 [none,none,none,none,none,some (2,253),none,some (4,172)] [(0,8,.t 44)])) [1,0] (T.alt (iA 46 (.app 108 8 96 (.t 38) (.t 45))) [] (T.pure 10 (iA 47 (iF 3 3)) (T.alt (iC (.st 1 [some (8,108)] (.t 47) (.t 46))) [] T.done T.stop)) T.stop) T.stop) T.stop)))))))))) (.reg [iA 35 (iM 5),iA 36 (iQ .add 3 35 1),iA 5 (iM 36)])))))) (iS [iA 48 (iT 4 3),iC (.st 4 [none,none,some (1,102),some (8,108)] (.t 2) (.t 48))] .ret))))
theorem jf6:fnC Tryz.prog Tryz.f105=some (jdo,[.cell 2 true 4],49):=by kernel_rfl
abbrev ky (b ty:Nat) (now seq:Int) (sh:List (List En)) (e1:jp) (rn:List Rn) (e2:jp):Ob:=.box b ty [.a (.v (.int .i64 now)),.a (.v (.int .i64 seq)),.own (kt sh) e1,.own (jM rn) e2]
abbrev ZYd (b ty:Nat):Ob:=.box b ty [.a (.v (.int .i64 0)),.a (.v (.int .i64 0)),.a (.v (.slice none 0 0)),.a (.v (.slice none 0 0))]
theorem kf (l:List En):D.sl 4 tEn (l.flatMap jf)=ji l:=rfl
theorem jsn (l:List (List En)) (x:List En):D.sl 1 jnB (l.flatMap (fun es=>[ji es])++[ji x])=kt (l++[x]):=by simp [kt]
theorem jo2 (l:List Rn) (r:Rn):D.sl 8 tRn (l.flatMap jd++[.val (.int .i64 r.id),.val (.int .i64 r.plan.prio),.val (.int .i64 r.plan.most),.val (.int .i64 r.plan.wait),.val (.int .i64 r.plan.tasks),jB r.plan.edges,.val (.int .i64 r.state),jw r.tasks])=jM (l++[r]):=by simp [jM,jd,ja]
theorem jaU {y:Yd} (ht:jt y≤2000000) {l:List En} (h:l∈y.shelf):l.length≤4000000:=by
 obtain ⟨k,hk,rfl⟩:=List.getElem_of_mem h;have h1:=List.getElem?_eq_getElem hk;have h2:=kL (tot:=kO) h1;have h3:=qE kO y.shelf (k+1);simp only [jt,vP,kO] at*;omega
theorem jbX {y:Yd} (ht:jt y≤2000000) {r:Rn} (h:r∈y.runs):r.plan.edges.length≤4000000∧r.tasks.length≤4000000:=by
 obtain ⟨k,hk,rfl⟩:=List.getElem_of_mem h;have h1:=List.getElem?_eq_getElem hk;have h2:=kL (tot:=kn) h1;have h3:=qE kn y.runs (k+1);simp only [jt,qA,kn,zR] at*;omega
theorem jY (l:List En) (hl:l.length≤4000000):ka Tryz.prog 208 [.c (ji l)] (.c (ji l)):=by
 refine jr Tryz.func208 jcl (by simp) ?_
 unfold jaI;have h1:l.length≤maxLen:=by unfold maxLen;omega
 have h2:l.length*32≤140737488355328:=by omega
 simp only [go_sem,h1,h2,kf]
theorem jW (y:Yd) (ht:jt y≤2000000):ka Tryz.prog 118 [.agg (jb y)] (.agg (jb y)):=by
 refine jr Tryz.func118 je0 (by simp) ?_
 unfold jcv;have hsl:y.shelf.length≤2000000:=by simp only [jt,vP] at ht;omega
 have hrl:=jfJ ht;simp only [go_sem,jb];intro b1 b2 b3;refine jq (fun i:Nat×jp=>St.of [(1,Bx 100 b1),(2,Bx 200 b2),(3,Bx 300 b3),(14,Ro (kt y.shelf)),(15,Ni y.shelf.length),(16,Ni i.1)] [(100,Bi b1 _ (jb y)),(200,ZYd b2 _),(300,.box b3 _ [.a (.v (.int .i64 y.now)),.a (.v (.int .i64 y.seq)),.own (kt (y.shelf.take i.1)) i.2,.a (.v (.slice none 0 0))])]) (fun i=>i.1≤y.shelf.length) (fun i=>y.shelf.length-i.1) (0,jli) (by (try dsimp only);first|omega|(simp;done)|(and_intros<;>first|omega|simp)) (jk [some 100,some 200,some 300] (by simp only [go_sem,jb,List.take_zero]<;>and_intros<;>first|rfl|assumption|trivial)) ?_
 rintro ⟨k,η⟩ hk;dsimp only at hk;by_cases hlt:k<y.shelf.length
 ·have hlt':(k:Int)<y.shelf.length:=by omega
  obtain ⟨l,hl⟩:=je hlt;have hw:IntKind.i64.wrap ((k:Int)+1)=((k+1:Nat):Int):=jo (by omega) (by omega)
  have hm1:k+1≤maxLen:=by unfold maxLen;omega
  have hm2:(k+1)*24≤140737488355328:=by omega
  have htk:(y.shelf.take k).length=k:=by rw [List.length_take];omega
  have hts:y.shelf.take (k+1)=y.shelf.take k++[l]:=by rw [List.take_add_one,hl];rfl
  generalize y.shelf.take k=M at*;simp only [go_sem,jb,hlt,hlt',kX hl];refine jc (jY l (jaU ht (List.mem_of_getElem? hl))) (by simp only [go_sem,jb]) fun η=>?_
  simp only [go_sem,jb];simp only [go_sem,htk,hm1,hm2,jsn];intro η7 η8;simp only [go_sem,hw];exact ⟨(k+1,η8),by (try dsimp only);first|omega|assumption|(and_intros<;>first|omega|assumption),(jk [some 100,some 200,some 300] (by simp only [go_sem,jb,hts]<;>and_intros<;>first|rfl|assumption|trivial)),by (try dsimp only);omega⟩
 have hlt':¬(k:Int)<y.shelf.length:=by omega
 rw [List.take_of_length_le (by omega)]
 simp only [go_sem,jb,hlt'];refine jq (fun i:Nat×jp=>St.of [(1,Bx 100 b1),(2,Bx 200 b2),(3,Bx 300 b3),(29,Ro (jM y.runs)),(30,Ni y.runs.length),(31,Ni i.1)] [(100,Bi b1 _ (jb y)),(200,ZYd b2 _),(300,ky b3 _ y.now y.seq y.shelf η (y.runs.take i.1) i.2)]) (fun i=>i.1≤y.runs.length) (fun i=>y.runs.length-i.1) (0,jli) (by (try dsimp only);first|omega|(simp;done)|(and_intros<;>first|omega|simp)) (jk [some 100,some 200,some 300] (by simp only [go_sem,jb,List.take_zero]<;>and_intros<;>first|rfl|assumption|trivial)) ?_
 rintro ⟨j,η2⟩ hj;dsimp only at hj;by_cases hjl:j<y.runs.length
 ·have hjl':(j:Int)<y.runs.length:=by omega
  obtain ⟨r,hr⟩:=je hjl;have hw:IntKind.i64.wrap ((j:Int)+1)=((j+1:Nat):Int):=jo (by omega) (by omega)
  have hm1:j+1≤maxLen:=by unfold maxLen;omega
  have hm2:(j+1)*96≤140737488355328:=by omega
  have hjk:(y.runs.take j).length=j:=by rw [List.length_take];omega
  have hjs:y.runs.take (j+1)=y.runs.take j++[r]:=by rw [List.take_add_one,hr];rfl
  have hrb:=jbX ht (List.mem_of_getElem? hr);generalize y.runs.take j=M at*;simp only [go_sem,jb,hjl,hjl',jU hr,jd,ja];intro b7;refine jc (jdh r hrb.1 hrb.2) (by simp only [go_sem,jb,jd,ja]) fun η=>?_
  simp only [go_sem,jb,jd,ja];simp only [go_sem,hjk,hm1,hm2,jo2];intro η7 η8;simp only [go_sem,hw];exact ⟨(j+1,η8),by (try dsimp only);first|omega|assumption|(and_intros<;>first|omega|assumption),(jk [some 100,some 200,some 300] (by simp only [go_sem,jb,hjs]<;>and_intros<;>first|rfl|assumption|trivial)),by (try dsimp only);omega⟩
 have hjl':¬(j:Int)<y.runs.length:=by omega
 rw [List.take_of_length_le (by omega)]
 simp only [go_sem,jb,hjl']
theorem kg (y:Yd) (ht:jt y≤2000000):ka Tryz.prog 105 [.agg (jb y)] (.agg (jb y)):=by
 refine jr Tryz.func105 jf6 (by simp) ?_
 unfold jdo;have hsl:y.shelf.length≤2000000:=by simp only [jt,vP] at ht;omega
 have hrl:=jfJ ht;simp only [go_sem,jb];intro b1 b2 b3;refine jq (fun i:Nat×jp=>St.of [(1,Bx 100 b1),(2,Bx 200 b2),(3,Bx 300 b3),(4,Ni i.1)] [(100,Bi b1 _ (jb y)),(200,ZYd b2 _),(300,.box b3 _ [.a (.v (.int .i64 y.now)),.a (.v (.int .i64 y.seq)),.own (kt (y.shelf.take i.1)) i.2,.a (.v (.slice none 0 0))])]) (fun i=>i.1≤y.shelf.length) (fun i=>y.shelf.length-i.1) (0,jli) (by (try dsimp only);first|omega|(simp;done)|(and_intros<;>first|omega|simp)) (jk [some 100,some 200,some 300] (by simp only [go_sem,jb,List.take_zero]<;>and_intros<;>first|rfl|assumption|trivial)) ?_
 rintro ⟨k,η⟩ hk;dsimp only at hk;by_cases hlt:k<y.shelf.length
 ·have hlt':(k:Int)<y.shelf.length:=by omega
  have h0k:(k:Int)≥0:=by omega
  obtain ⟨l,hl⟩:=je hlt;have hll:=jaU ht (List.mem_of_getElem? hl);have hw:IntKind.i64.wrap ((k:Int)+1)=((k+1:Nat):Int):=jo (by omega) (by omega)
  have hm1:k+1≤maxLen:=by unfold maxLen;omega
  have hm2:(k+1)*24≤140737488355328:=by omega
  have hm3:l.length≤maxLen:=by unfold maxLen;omega
  have hm4:l.length*32≤140737488355328:=by omega
  have htk:(y.shelf.take k).length=k:=by rw [List.length_take];omega
  have hts:y.shelf.take (k+1)=y.shelf.take k++[l]:=by rw [List.take_add_one,hl];rfl
  generalize y.shelf.take k=M at*;simp only [go_sem,jb,hlt,hlt',h0k,kX hl,hm3,hm4,kf];intro η5 η6;simp only [go_sem,htk,hm1,hm2,hm3,hm4,kf,jsn];intro η7 η8;simp only [go_sem,hw];exact ⟨(k+1,η8),by (try dsimp only);first|omega|assumption|(and_intros<;>first|omega|assumption),(jk [some 100,some 200,some 300] (by simp only [go_sem,jb,hts]<;>and_intros<;>first|rfl|assumption|trivial)),by (try dsimp only);omega⟩
 have hlt':¬(k:Int)<y.shelf.length:=by omega
 rw [List.take_of_length_le (by omega)]
 simp only [go_sem,jb,hlt'];refine jq (fun i:Nat×jp=>St.of [(1,Bx 100 b1),(2,Bx 200 b2),(3,Bx 300 b3),(5,Ni i.1)] [(100,Bi b1 _ (jb y)),(200,ZYd b2 _),(300,ky b3 _ y.now y.seq y.shelf η (y.runs.take i.1) i.2)]) (fun i=>i.1≤y.runs.length) (fun i=>y.runs.length-i.1) (0,jli) (by (try dsimp only);first|omega|(simp;done)|(and_intros<;>first|omega|simp)) (jk [some 100,some 200,some 300] (by simp only [go_sem,jb,List.take_zero]<;>and_intros<;>first|rfl|assumption|trivial)) ?_
 rintro ⟨j,η2⟩ hj;dsimp only at hj;by_cases hjl:j<y.runs.length
 ·have hjl':(j:Int)<y.runs.length:=by omega
  have h0j:(j:Int)≥0:=by omega
  obtain ⟨r,hr⟩:=je hjl;have hw:IntKind.i64.wrap ((j:Int)+1)=((j+1:Nat):Int):=jo (by omega) (by omega)
  have hm1:j+1≤maxLen:=by unfold maxLen;omega
  have hm2:(j+1)*96≤140737488355328:=by omega
  have hjk:(y.runs.take j).length=j:=by rw [List.length_take];omega
  have hjs:y.runs.take (j+1)=y.runs.take j++[r]:=by rw [List.take_add_one,hr];rfl
  have hrb:=jbX ht (List.mem_of_getElem? hr);generalize y.runs.take j=M at*;simp only [go_sem,jb,hjl,hjl',h0j,jU hr,jd,ja];refine jc (vu r hrb.1 hrb.2) (by simp only [go_sem,jb,jd,ja]) fun η=>?_
  simp only [go_sem,jb,jd,ja];simp only [go_sem,hjk,hm1,hm2,jo2];intro η7 η8;simp only [go_sem,hw];exact ⟨(j+1,η8),by (try dsimp only);first|omega|assumption|(and_intros<;>first|omega|assumption),(jk [some 100,some 200,some 300] (by simp only [go_sem,jb,hjs]<;>and_intros<;>first|rfl|assumption|trivial)),by (try dsimp only);omega⟩
 have hjl':¬(j:Int)<y.runs.length:=by omega
 rw [List.take_of_length_le (by omega)]
 simp only [go_sem,jb,hjl']
def ja4:C:=iS [iA 1 (.box 37 4 (.t 0)),iA 2 (.mov (.c (.slice none 0 0)))] (iS [iA 5 (.bsl 111 4 0 [] []),iA 3 (iM 5)] (.seq (iS [iA 4 (iN 0)] (.blk 0 (.loop (.seq (iS [iA 6 (iM 4),iA 7 (iF 2 1),iA 8 (iL 7),iA 9 (iG 8),iA 10 (iP .lss 3 6 9)] (iD 10 .skip (.exit 0))) (.seq (.blk 1 (.reg [iA 13 (iM 3),iA 14 (iF 2 1),iA 15 (iL 14),iA 16 (iM 4),iA 17 (iI 1 15 16),iA 18 (iL 17),iA 19 (.app 111 4 32 (.t 13) (.t 18)),iA 3 (iM 19)])) (.reg [iA 11 (iM 4),iA 12 (iQ .add 3 11 1),iA 4 (iM 12)])))))) (iS [iA 20 (iM 3),iA 2 (iM 20)] .ret)))
theorem jc2:fnC Tryz.prog Tryz.f140=some (ja4,[.t 2],21):=by kernel_rfl
def ja7:C:=iS [iA 1 (.box 37 4 (.t 0)),iA 2 (.mov (.c (.slice none 0 0)))] (iS [iA 3 (.mov (.c (.slice none 0 0)))] (.seq (iS [iA 6 (iF 2 1),iA 7 (iL 6),iA 8 (iG 7),iA 9 (iN 0)] (.blk 0 (.loop (iS [iA 10 (iP .lss 3 9 8)] (.seq (iD 10 .skip (.exit 0)) (.seq (.blk 1 (iS [iA 11 (iI 1 7 9),iA 12 (iL 11),iA 5 (iM 12)] (.reg [iA 13 (iM 3),iA 14 (iM 5),iA 15 (.app 111 4 32 (.t 13) (.t 14)),iA 3 (iM 15)]))) (.reg [iA 16 (iQ .add 3 9 1),iA 9 (iM 16)]))))))) (iS [iA 17 (iM 3),iA 2 (iM 17)] .ret)))
theorem jc5:fnC Tryz.prog Tryz.f133=some (ja7,[.t 2],18):=by kernel_rfl
theorem jmr (y:Yd) (e:En):ka Tryz.prog 57 [.agg (jb y),.agg (jf e)] (.c (.val (.bool (kr y e)))):=jfQ ⟨_,Tryz.func57,by kernel_rfl,by kernel_rfl⟩ fun w a b ⟨S,ha⟩ ⟨S2,hb⟩=>jlq y e a b S S2 w false false ha hb
theorem jmn (y:Yd) (e:En):ka Tryz.prog 141 [.agg (jb y),.agg (jf e)] (.c (.val (.bool (kr y e)))):=jfQ ⟨_,Tryz.func141,by kernel_rfl,by kernel_rfl⟩ fun w a b ⟨S,ha⟩ ⟨S2,hb⟩=>joY y e a b S S2 w false false ha hb
theorem jtO (l m:List En):D.sl 4 tEn (l.flatMap jf++m.flatMap jf)=ji (l++m):=by simp [ji]
theorem jaY (y:Yd) (ht:jt y≤2000000):ka Tryz.prog 140 [.agg (jb y)] (.c (ji y.shelf.flatten)):=by
 refine jr Tryz.func140 jc2 (by simp) ?_
 unfold ja4;have hl:=joX ht;have hf:=zk ht;simp only [go_sem,jb];intro b η0;refine vD (fun s=>∃(k g ty:Nat) (η:jp),k≤y.shelf.length∧(g=500∨g=1900)∧s.t 1=.c (.bp 100 0 b)∧s.o 100=.box b ty ((jb y).map fun x=>.a x.toRo)∧s.t 4=.c (.v (.int .i64 k))∧s.t 3=.c (.h g 0 [] (η []))∧s.o g=.loose (ji (y.shelf.take k).flatten) η) (fun s=>y.shelf.length-s.n 4) ?_ ?_
 ·exact ⟨0,500,_,η0,Nat.zero_le _,.inl rfl,by simp only [go_sem]<;>rfl,by simp only [go_sem]<;>rfl,by simp only [go_sem]<;>rfl,by simp only [go_sem]<;>rfl,by simp only [go_sem]<;>rfl⟩
 ·rintro s ⟨k,g,ty,η,hk,hg,h1,ho1,h4,h3,hob⟩
  by_cases hlt:k<y.shelf.length
  ·have hlt':(k:Int)<y.shelf.length:=by omega
   obtain ⟨x,hx⟩:=je hlt;have hw:IntKind.i64.wrap ((k:Int)+1)=((k+1:Nat):Int):=jo (by omega) (by omega)
   have hn:=jiI hx;have hle:=jcc y.shelf (k+1);rw [hn,List.length_append] at hle;generalize (y.shelf.take k).flatten=l at*;have h1':l.length+x.length≤maxLen:=by unfold maxLen;omega
   have h2':(l.length+x.length)*32≤140737488355328:=by omega
   rcases hg with rfl|rfl
   all_goals
    simp only [go_sem,h1,ho1,h4,h3,hob,jb,hlt,hlt',kX hx,h1',h2',hw,jtO];intro η2;refine ⟨⟨k+1,1900,ty,η2,?_⟩,?_⟩
    ·and_intros<;>first|rfl|omega|exact .inr rfl|(rw [hn];rfl)
    ·rw [jdR (k:=.i64) (n:=((k+1:Nat):Int)) (by simp only [go_sem]),jdR h4];omega
  ·have hlt':¬(k:Int)<y.shelf.length:=by omega
   rw [List.take_of_length_le (by omega)] at hob
   rcases hg with rfl|rfl
   all_goals
    simp only [go_sem,h1,ho1,h4,h3,hob,jb,hlt']
theorem jfW (y:Yd) (ht:jt y≤2000000):ka Tryz.prog 133 [.agg (jb y)] (.c (ji y.shelf.flatten)):=by
 refine jr Tryz.func133 jc5 (by simp) ?_
 unfold ja7;have hl:=joX ht;have hf:=zk ht;simp only [go_sem,jb];intro b;refine vD (fun s=>∃k:Nat,k≤y.shelf.length∧s.t 7=.c (.ro (kt y.shelf))∧s.t 8=.c (.v (.int .i64 y.shelf.length))∧s.t 9=.c (.v (.int .i64 k))∧(((y.shelf.take k).flatten=[]∧s.t 3=.c (.v (.slice none 0 0)))∨∃η:jp,s.t 3=.c (.h 1500 0 [] (η []))∧s.o 1500=.loose (ji (y.shelf.take k).flatten) η)) (fun s=>y.shelf.length-s.n 9) ?_ ?_
 ·exact ⟨0,Nat.zero_le _,by simp only [go_sem]<;>rfl,by simp only [go_sem]<;>rfl,by simp only [go_sem]<;>rfl,.inl ⟨rfl,by simp only [go_sem]⟩⟩
 ·rintro s ⟨k,hk,h7,h8,h9,hg⟩
  by_cases hlt:k<y.shelf.length
  ·have hlt':(k:Int)<y.shelf.length:=by omega
   obtain ⟨x,hx⟩:=je hlt;have hw:IntKind.i64.wrap ((k:Int)+1)=((k+1:Nat):Int):=jo (by omega) (by omega)
   have hn:=jiI hx;have hle:=jcc y.shelf (k+1);rw [hn,List.length_append] at hle;generalize (y.shelf.take k).flatten=l at*;have h1':l.length+x.length≤maxLen:=by unfold maxLen;omega
   have h2':(l.length+x.length)*32≤140737488355328:=by omega
   rcases hg with ⟨hnil,h3⟩|⟨η,h3,hob⟩
   ·have h3':x.length≤maxLen:=by unfold maxLen;omega
    have h4':x.length*32≤140737488355328:=by omega
    rw [hnil,List.nil_append] at hn;simp only [go_sem,h7,h8,h9,h3,hlt,hlt',kX hx,hw,h3',h4',jor];intro η2;refine ⟨⟨k+1,by omega,rfl,.inr ⟨η2,rfl,by rw [hn]⟩⟩,?_⟩
    rw [jdR (k:=.i64) (n:=((k+1:Nat):Int)) (by simp only [go_sem]),jdR h9];omega
   ·simp only [go_sem,h7,h8,h9,h3,hob,hlt,hlt',kX hx,hw,h1',h2',jtO]
    intro η2;refine ⟨⟨k+1,by omega,rfl,.inr ⟨η2,rfl,by rw [hn]⟩⟩,?_⟩
    rw [jdR (k:=.i64) (n:=((k+1:Nat):Int)) (by simp only [go_sem]),jdR h9];omega
  ·have hlt':¬(k:Int)<y.shelf.length:=by omega
   have hk':y.shelf.take k=y.shelf:=List.take_of_length_le (by omega)
   rcases hg with ⟨hnil,h3⟩|⟨η,h3,hob⟩
   ·rw [hk'] at hnil
    simp only [go_sem,h7,h8,h9,h3,hlt',hnil]
   ·rw [hk'] at hob
    simp only [go_sem,h7,h8,h9,h3,hob,hlt']
abbrev tIs:TypeId:=104
def qC (l:List (List Int)):D:=.sl 1 tIs (l.flatMap fun es=>[jh es])
section
variable {P:Program} {β:Nat} {s:St}
theorem jqR (l:List (List Int)):(qC l).len=l.length:=zz (enc:=fun es=>[jh es]) (fun _=>rfl) (by decide) _ _
theorem jox {l:List (List Int)} {k:Nat} {x:List Int} (h:l[k]?=some x):(qC l).elem k=[jh x]:=vA (enc:=fun es=>[jh es]) (fun _=>rfl) h
theorem jse (l:List (List Int)):(qC l).isSl=true:=(rfl)
theorem jrW (l:List (List Int)):(qC l).size=1:=(rfl)
theorem jqE (l:List (List Int)) (g:Nat) (η:jp):(qC l).obj g η=[(g,.loose (qC l) η)]:=(rfl)
theorem jqw (l:List (List Int)) (g c:Nat) (p:List Nat) (η:jp):(qC l).toOwn g c p η=.h g c p (η p):=(rfl)
theorem jnb (l:List (List Int)):(qC l).cells=l.flatMap (fun es=>[jh es]):=(rfl)
theorem jp7 (l:List (List Int)) (e:Nat) (k:List D→Prop):slK (qC l) e 1 k=(tIs=e∧k (l.flatMap (fun es=>[jh es]))):=by rw [show qC l=.sl 1 tIs (l.flatMap (fun es=>[jh es])) from rfl,jwE];simp
theorem jrh (l:List (List Int)):(l.flatMap (fun es=>[jh es])).length/1=l.length:=by rw [jG (enc:=fun es=>[jh es]) (size:=1) (fun _=>rfl)];exact Nat.mul_div_cancel _ (by decide)
theorem juo {l:List (List Int)} {k:Nat} {x:List Int} (h:l[k]?=some x):((l.flatMap (fun es=>[jh es])).drop (k*1)).take 1=[jh x]:=jox h
theorem jtx {l:List (List Int)} {k:Nat} (h:k<l.length):k*1+1≤(l.flatMap (fun es=>[jh es])).length:=by rw [jG (enc:=fun es=>[jh es]) (size:=1) (fun _=>rfl)];omega
attribute [go_sem] jqR jse jrW jqE jqw jnb jp7 jrh
end
def jau (now id:Int) (t:Tk) (k:Nat):Option (List Int):=if (t.state==3&&decide (t.til≤now∨t.til-1=now))=true then some [id,k,t.tri] else none
def zX (now:Int) (r:Rn):Nat→List Tk→List (List Int)
 |_,[]=>[]
 |k,t::ts=>(jau now r.id t k).toList++zX now r (k+1) ts
def kN (y:Yd):List (List Int):=y.runs.flatMap fun r=>zX y.now r 0 r.tasks
open Go.RowKit Go.Sort Go.BigFrame
theorem jkg (now:Int) (r:Rn) (x:Tk):∀(ts:List Tk) (k:Nat),zX now r k (ts++[x])=zX now r k ts++(jau now r.id x (k+ts.length)).toList
 |[],k=>by simp [zX]
 |t::ts,k=>by
  rw [List.cons_append,zX,zX,jkg now r x ts (k+1),List.append_assoc]
  congr 3
  simp only [List.length_cons];congr 1;omega
theorem jkf {now:Int} {r:Rn} {ts:List Tk} {k:Nat} {x:Tk} (h:ts[k]?=some x):zX now r 0 (ts.take (k+1))=zX now r 0 (ts.take k)++(jau now r.id x k).toList:=by
 have hk:k<ts.length:=(List.getElem?_eq_some_iff.1 h).1;rw [List.take_add_one,h];have:=jkg now r x (ts.take k) 0;rw [List.length_take,Nat.min_eq_left (by omega),Nat.zero_add] at this
 exact this
theorem jeF (now:Int) (r:Rn):∀(ts:List Tk) (k:Nat),(zX now r k ts).length≤ts.length
 |[],k=>by simp [zX]
 |t::ts,k=>by
  have:=jeF now r ts (k+1)
  have h2:(jau now r.id t k).toList.length≤1:=by
   unfold jau;split<;>simp
  rw [zX,List.length_append,List.length_cons];omega
def jiA (now:Int) (r:Rn):List (List Int):=zX now r 0 r.tasks
theorem jpm (y:Yd):kN y=y.runs.flatMap (jiA y.now):=rfl
theorem jmI {now:Int} {l:List Rn} {k:Nat} {r:Rn} (h:l[k]?=some r):(l.take (k+1)).flatMap (jiA now)=(l.take k).flatMap (jiA now)++jiA now r:=by
 rw [List.take_add_one,h];simp
theorem jtk (now:Int) (l:List Rn):(l.flatMap (jiA now)).length≤kj kn l:=by
 induction l with
 |nil=>simp
 |cons r l ih=>
  have:=jeF now r r.tasks 0;simp only [List.flatMap_cons,List.length_append,jiA,kj,List.map_cons,List.sum_cons,kn] at ih⊢;omega
def jff:C:=iS [iA 1 (.box 37 4 (.t 0)),iA 2 (.mov (.c (.slice none 0 0)))] (iS [iA 7 (.bsl 104 1 0 [] []),iA 3 (iM 7)] (.seq (iS [iA 4 (iN 0)] (.blk 0 (.loop (.seq (iS [iA 8 (iM 4),iA 9 (iF 3 1),iA 10 (iL 9),iA 11 (iG 10),iA 12 (iP .lss 3 8 11)] (iD 12 .skip (.exit 0))) (.seq (.blk 1 (iS [iA 5 (iN 0)] (.blk 2 (.loop (.seq (iS [iA 15 (iM 5),iA 16 (iF 3 1),iA 17 (iL 16),iA 18 (iM 4),iA 19 (iI 8 17 18),iA 20 (iF 7 19),iA 21 (iL 20),iA 22 (iG 21),iA 23 (iP .lss 3 15 22)] (iD 23 .skip (.exit 2))) (.seq (.blk 3 (iS [iA 26 (iF 3 1),iA 27 (iL 26),iA 28 (iM 4),iA 29 (iI 8 27 28),iA 30 (iF 7 29),iA 31 (iL 30),iA 32 (iM 5),iA 33 (iI 4 31 32),iA 34 (iT 4 33),iA 6 (.alloc 172 [.int .i64 0,.int .i64 0,.int .i64 0,.int .i64 0]),iC (.st 4 [none,none,none,none] (.t 6) (.t 34))] (iS [iA 35 (iF 0 6),iA 36 (iL 35),iA 37 (iQ .eql 3 36 3),iA 38 (iM 37),iB 39 38 true (iF 3 6),iB 40 38 true (iL 39),iB 41 38 true (iF 0 1),iB 42 38 true (iL 41),iB 43 38 true (iP .leq 3 40 42),iB 44 38 true (iM 43),iB 45 44 false (iF 3 6),iB 46 44 false (iL 45),iB 47 44 false (iQ .sub 3 46 1),iB 48 44 false (iF 0 1),iB 49 44 false (iL 48),iB 50 44 false (iP .leq 3 47 49),iB 51 38 true (.pick (.t 44) (.c (.bool true)) (.t 50)),iA 52 (.pick (.t 38) (.t 51) (.c (.bool false)))] (iD 52 (.dreg (T.pure 0 (iA 53 (iM 3)) (T.pure 1 (iA 54 (iF 3 1)) (T.pure 2 (iA 55 (iL 54)) (T.pure 3 (iA 56 (iM 4)) (T.pure 4 (iA 57 (iI 8 55 56)) (T.pure 5 (iA 58 (iF 0 57)) (T.pure 6 (iA 59 (iL 58)) (T.pure 7 (iA 60 (iM 5)) (T.pure 8 (iA 61 (iF 2 6)) (T.pure 9 (iA 62 (iL 61)) (T.alt (iA 63 (.bsl 3 1 3 [none,none,none] [(0,1,.t 59),(1,1,.t 60),(2,1,.t 62)])) [0] (T.alt (iA 64 (.bsl 104 1 1 [some (1,3)] [(0,1,.t 63)])) [0] (T.alt (iA 65 (.app 104 1 24 (.t 53) (.t 64))) [] (T.pure 13 (iA 3 (iM 65)) T.done) T.stop) T.stop) T.stop)))))))))))) .skip)))) (.reg [iA 24 (iM 5),iA 25 (iQ .add 3 24 1),iA 5 (iM 25)]))))))) (.reg [iA 13 (iM 4),iA 14 (iQ .add 3 13 1),iA 4 (iM 14)])))))) (iS [iA 66 (iM 3),iA 2 (iM 66)] .ret)))
theorem jhi:fnC Tryz.prog Tryz.f200=some (jff,[.t 2],67):=by kernel_rfl
def jfu:C:=iS [iA 1 (.box 37 4 (.t 0)),iA 2 (.mov (.c (.slice none 0 0)))] (iS [iA 3 (.mov (.c (.slice none 0 0)))] (.seq (iS [iA 8 (iF 3 1),iA 9 (iL 8),iA 10 (iG 9),iA 11 (iN 0)] (.blk 0 (.loop (iS [iA 12 (iP .lss 3 11 10)] (.seq (iD 12 .skip (.exit 0)) (.seq (.blk 1 (iS [iA 13 (iI 8 9 11),iA 14 (iT 8 13),iA 5 (.alloc 108 [.int .i64 0,.int .i64 0,.int .i64 0,.int .i64 0,.int .i64 0,.slice none 0 0,.int .i64 0,.slice none 0 0]),iC (.st 8 [none,none,none,none,none,some (2,253),none,some (4,172)] (.t 5) (.t 14))] (iS [iA 15 (iF 7 5),iA 16 (iL 15),iA 17 (iG 16),iA 18 (iN 0)] (.blk 2 (.loop (iS [iA 19 (iP .lss 3 18 17)] (.seq (iD 19 .skip (.exit 2)) (.seq (.blk 3 (iS [iA 20 (iM 18),iA 21 (iI 4 16 18),iA 22 (iT 4 21),iA 7 (.alloc 172 [.int .i64 0,.int .i64 0,.int .i64 0,.int .i64 0]),iA 6 (iM 20),iC (.st 4 [none,none,none,none] (.t 7) (.t 22))] (iS [iA 23 (iF 0 7),iA 24 (iL 23),iA 25 (iQ .eql 3 24 3),iA 26 (iM 25),iB 27 26 true (iF 3 7),iB 28 26 true (iL 27),iB 29 26 true (iF 0 1),iB 30 26 true (iL 29),iB 31 26 true (iP .leq 3 28 30),iB 32 26 true (iM 31),iB 33 32 false (iF 3 7),iB 34 32 false (iL 33),iB 35 32 false (iQ .sub 3 34 1),iB 36 32 false (iF 0 1),iB 37 32 false (iL 36),iB 38 32 false (iP .eql 3 35 37),iB 39 26 true (.pick (.t 32) (.c (.bool true)) (.t 38)),iA 40 (.pick (.t 26) (.t 39) (.c (.bool false)))] (iD 40 (.reg [iA 41 (iM 3),iA 42 (iF 0 5),iA 43 (iL 42),iA 44 (iM 6),iA 45 (iF 2 7),iA 46 (iL 45),iA 47 (.bsl 3 1 3 [none,none,none] [(0,1,.t 43),(1,1,.t 44),(2,1,.t 46)]),iA 48 (.bsl 104 1 1 [some (1,3)] [(0,1,.t 47)]),iA 49 (.app 104 1 24 (.t 41) (.t 48)),iA 3 (iM 49)]) .skip)))) (.reg [iA 50 (iQ .add 3 18 1),iA 18 (iM 50)]))))))))) (.reg [iA 51 (iQ .add 3 11 1),iA 11 (iM 51)]))))))) (iS [iA 52 (iM 3),iA 2 (iM 52)] .ret)))
theorem jhx:fnC Tryz.prog Tryz.f226=some (jfu,[.t 2],53):=by kernel_rfl
def wfL (y:Yd):Prop:=inR y.now∧∀r∈y.runs,∀x∈r.tasks,inR x.til
theorem jeG (l:List (List Int)) (a b c:Int):D.sl 1 tIs (l.flatMap (fun es=>[jh es])++[D.sl 1 jfI [iv a,iv b,iv c]])=qC (l++[[a,b,c]]):=by simp [qC,jh]
theorem jk0 (y:Yd) (ht:jt y≤2000000) (wf:wfL y):ka Tryz.prog 200 [.agg (jb y)] (.c (qC (kN y))):=by
 refine jr Tryz.func200 jhi (by simp) ?_
 unfold jff;have hl:=jfJ ht;have htr:kj kn y.runs≤2000000:=by simp only [jt,qA] at ht;omega
 rw [jpm];simp only [go_sem,jb];intro b η0;refine jq (fun i:Nat×jp=>St.of [(1,Bx 100 b),(3,Hd 700 i.2),(4,Ni i.1)] [(100,Bi b _ (jb y)),(700,.loose (qC ((y.runs.take i.1).flatMap (jiA y.now))) i.2)]) (fun i=>i.1≤y.runs.length) (fun i=>y.runs.length-i.1) (0,η0) (Nat.zero_le _) (jk [some 100,some 700] (by simp only [go_sem,jb]<;>and_intros<;>rfl)) ?_
 rintro ⟨i,η⟩ hi;dsimp only at hi;by_cases hlt:i<y.runs.length
 ·have hlt':(i:Int)<y.runs.length:=by omega
  obtain ⟨r,hr⟩:=je hlt;have hrw:=wf.2 r (List.mem_of_getElem? hr);have hwi:IntKind.i64.wrap ((i:Int)+1)=((i+1:Nat):Int):=jo (by omega) (by omega)
  have hbi:=jtk y.now (y.runs.take i);have hts:=kL (tot:=kn) hr;have htl:=qE kn y.runs (i+1);have hrt:r.tasks.length≤kn r:=by simp only [kn];omega
  have hnx:=jmI (now:=y.now) hr;simp only [go_sem,jb,hlt,hlt'];generalize hL:(y.runs.take i).flatMap (jiA y.now)=L at*;refine jq (fun k:Nat×jp=>St.of [(1,Bx 100 b),(3,Hd 700 k.2),(4,Ni i),(5,Ni k.1)] [(100,Bi b _ (jb y)),(700,.loose (qC (L++zX y.now r 0 (r.tasks.take k.1))) k.2)]) (fun k=>k.1≤r.tasks.length) (fun k=>r.tasks.length-k.1) (0,η) (Nat.zero_le _) (jk [some 100,some 700] (by simp only [go_sem,jb,List.take_zero,zX,List.append_nil]<;>and_intros<;>rfl)) ?_
  rintro ⟨j,η1⟩ hj;dsimp only at hj;by_cases hjt:j<r.tasks.length
  ·have hjt':(j:Int)<r.tasks.length:=by omega
   obtain ⟨x,hx⟩:=je hjt;have hxw:=hrw x (List.mem_of_getElem? hx);have hwj:IntKind.i64.wrap ((j:Int)+1)=((j+1:Nat):Int):=jo (by omega) (by omega)
   have hlr:=jeF y.now r (r.tasks.take j) 0;have hn:=jkf (now:=y.now) (r:=r) hx;rw [List.length_take] at hlr;obtain ⟨hx1,hx2⟩:=hxw;obtain ⟨⟨hy1,hy2⟩,-⟩:=wf;simp only [go_sem,jb,hlt,hlt',hjt,hjt',jU hr,jd,ja,jT hx,jn];generalize hM:zX y.now r 0 (r.tasks.take j)=M at*;have hone:1≤maxLen:=by unfold maxLen;omega
   have h3m:3≤maxLen:=by unfold maxLen;omega
   have hm1:(L++M).length+1≤maxLen:=by rw [List.length_append];unfold maxLen;omega
   have hm2:((L++M).length+1)*24≤140737488355328:=by rw [List.length_append];omega
   intro b2;by_cases hs:x.state=3
   ·by_cases hle:x.til≤y.now
    ·have hlate:jau y.now r.id x j=some [r.id,j,x.tri]:=by simp [jau,hs,hle]
     rw [hlate] at hn;simp only [go_sem,jb,jn,hs,hle,beq_self_eq_true,jU hr,hlt,hlt',jd,ja,hm1,hm2,jeG,hwj];intro η2 η3 η4;exact ⟨(j+1,η4),by dsimp only;omega,jk [some 100,some 6500] (by simp only [go_sem,jb,hn,Option.toList,List.append_assoc]<;>and_intros<;>rfl),by dsimp only;omega⟩
    ·by_cases heq:x.til-1=y.now
     ·have hlate:jau y.now r.id x j=some [r.id,j,x.tri]:=by simp [jau,hs,heq]
      have hsub:IntKind.i64.wrap (x.til-1)=x.til-1:=jo (by omega) (by omega)
      have hle2:x.til-1≤y.now:=by omega
      rw [hlate] at hn;simp only [go_sem,jb,jn,hs,hle,hsub,hle2,beq_self_eq_true,jU hr,hlt,hlt',jd,ja,hm1,hm2,jeG,hwj];intro η2 η3 η4;exact ⟨(j+1,η4),by dsimp only;omega,jk [some 100,some 6500] (by simp only [go_sem,jb,hn,Option.toList,List.append_assoc]<;>and_intros<;>rfl),by dsimp only;omega⟩
     ·have hlate:jau y.now r.id x j=none:=by simp [jau,hle,heq]
      have hsub:IntKind.i64.wrap (x.til-1)=x.til-1:=jo (by omega) (by omega)
      have hle2:¬x.til-1≤y.now:=by omega
      rw [hlate] at hn;simp only [go_sem,jb,jn,hs,hle,hsub,hle2,beq_self_eq_true,hlt,hlt',hwj];exact ⟨(j+1,η1),by dsimp only;omega,jk [some 100,some 700] (by simp only [go_sem,jb,hn,Option.toList,List.append_nil]<;>and_intros<;>rfl),by dsimp only;omega⟩
   ·have hlate:jau y.now r.id x j=none:=by simp [jau,hs]
    have hs':(x.state==3)=false:=by simpa using hs
    rw [hlate] at hn;simp only [go_sem,jb,jn,hs',hwj];exact ⟨(j+1,η1),by dsimp only;omega,jk [some 100,some 700] (by simp only [go_sem,jb,hn,Option.toList,List.append_nil]<;>and_intros<;>rfl),by dsimp only;omega⟩
  ·have hjt':¬(j:Int)<r.tasks.length:=by omega
   rw [List.take_of_length_le (by omega)]
   simp only [go_sem,jb,hlt,hlt',jU hr,jd,ja,hjt',hwi];exact ⟨(i+1,η1),by dsimp only;omega,jk [some 100,some 700] (by simp only [go_sem,jb,hnx]<;>and_intros<;>rfl),by dsimp only;omega⟩
 ·have hlt':¬(i:Int)<y.runs.length:=by omega
  rw [List.take_of_length_le (by omega)]
  simp only [go_sem,jb,hlt']
theorem jlb (y:Yd) (ht:jt y≤2000000) (wf:wfL y):ka Tryz.prog 226 [.agg (jb y)] (.c (qC (kN y))):=by
 refine jr Tryz.func226 jhx (by simp) ?_
 unfold jfu;have hl:=jfJ ht;have htr:kj kn y.runs≤2000000:=by simp only [jt,qA] at ht;omega
 rw [jpm];simp only [go_sem,jb];intro b;refine jq (fun i:Nat×jp=>St.of [(1,Bx 100 b),(3,Hd 7 i.2),(9,Ro (jM y.runs)),(10,Ni y.runs.length),(11,Ni i.1)] [(100,Bi b _ (jb y)),(7,.loose (qC ((y.runs.take i.1).flatMap (jiA y.now))) i.2)]) (fun i=>i.1≤y.runs.length) (fun i=>y.runs.length-i.1) (0,jli) (by (try dsimp only);first|omega|(simp;done)|(and_intros<;>first|omega|simp)) (jk [some 100,none] (by simp only [go_sem,jb]<;>and_intros<;>first|rfl|assumption|trivial)) ?_
 rintro ⟨i0,η⟩ hi;dsimp only at hi;by_cases hlt:i0<y.runs.length
 ·have hlt':(i0:Int)<y.runs.length:=by omega
  obtain ⟨r,hr⟩:=je hlt;have hrw:=wf.2 r (List.mem_of_getElem? hr);have hwi:IntKind.i64.wrap ((i0:Int)+1)=((i0+1:Nat):Int):=jo (by omega) (by omega)
  have hbi:=jtk y.now (y.runs.take i0);have hts:=kL (tot:=kn) hr;have htl:=qE kn y.runs (i0+1);have hrt:r.tasks.length≤kn r:=by simp only [kn];omega
  have hnx:=jmI (now:=y.now) hr;simp only [go_sem,jb,hlt,hlt',jU hr,jd,ja];generalize hL:(y.runs.take i0).flatMap (jiA y.now)=L at*;intro b2;refine jq (fun i:Nat×jp=>St.of [(1,Bx 100 b),(3,Hd 7 i.2),(5,Bx 500 b2),(9,Ro (jM y.runs)),(10,Ni y.runs.length),(11,Ni i0),(16,Ro (jw r.tasks)),(17,Ni r.tasks.length),(18,Ni i.1)] [(100,Bi b _ (jb y)),(500,Bi b2 _ (jd r)),(7,.loose (qC (L++zX y.now r 0 (r.tasks.take i.1))) i.2)]) (fun i=>i.1≤r.tasks.length) (fun i=>r.tasks.length-i.1) (0,η) (by (try dsimp only);first|omega|(simp;done)|(and_intros<;>first|omega|simp)) (jk [some 100,some 500,some 7] (by simp only [go_sem,jb,jd,ja,List.take_zero,zX,List.append_nil]<;>and_intros<;>first|rfl|assumption|trivial)) ?_
  rintro ⟨j,η1⟩ hj;dsimp only at hj;by_cases hjt:j<r.tasks.length
  ·have hjt':(j:Int)<r.tasks.length:=by omega
   obtain ⟨x,hx⟩:=je hjt;have hxw:=hrw x (List.mem_of_getElem? hx);have hwj:IntKind.i64.wrap ((j:Int)+1)=((j+1:Nat):Int):=jo (by omega) (by omega)
   have hlr:=jeF y.now r (r.tasks.take j) 0;have hn:=jkf (now:=y.now) (r:=r) hx;rw [List.length_take] at hlr;obtain ⟨hx1,hx2⟩:=hxw;obtain ⟨⟨hy1,hy2⟩,-⟩:=wf;simp only [go_sem,jb,hjt,hjt',jT hx,jn];generalize hM:zX y.now r 0 (r.tasks.take j)=M at*;have hm1:(L++M).length+1≤maxLen:=by rw [List.length_append];unfold maxLen;omega
   have hm2:((L++M).length+1)*24≤140737488355328:=by rw [List.length_append];omega
   intro b3;by_cases hs:x.state=3
   ·by_cases hle:x.til≤y.now
    ·have hlate:jau y.now r.id x j=some [r.id,j,x.tri]:=by simp [jau,hs,hle]
     rw [hlate] at hn;simp only [go_sem,jb,jn,jd,ja,hs,hle,beq_self_eq_true,hm1,hm2,jeG,hwj];intro η2 η3 η4;exact ⟨(j+1,η4),by (try dsimp only);first|omega|assumption|(and_intros<;>first|omega|assumption),(jk [some 100,some 500,some 4900] (by simp only [go_sem,jb,jd,ja,hn,Option.toList,List.append_assoc]<;>and_intros<;>first|rfl|assumption|trivial)),by (try dsimp only);omega⟩
    ·by_cases heq:x.til-1=y.now
     ·have hlate:jau y.now r.id x j=some [r.id,j,x.tri]:=by simp [jau,hs,heq]
      have heq':(x.til-1==y.now)=true:=by simpa using heq
      have hsub:IntKind.i64.wrap (x.til-1)=x.til-1:=jo (by omega) (by omega)
      rw [hlate] at hn;simp only [go_sem,jb,jn,jd,ja,hs,hle,hsub,heq',beq_self_eq_true,hm1,hm2,jeG,hwj];intro η2 η3 η4;exact ⟨(j+1,η4),by (try dsimp only);first|omega|assumption|(and_intros<;>first|omega|assumption),(jk [some 100,some 500,some 4900] (by simp only [go_sem,jb,jd,ja,hn,Option.toList,List.append_assoc]<;>and_intros<;>first|rfl|assumption|trivial)),by (try dsimp only);omega⟩
     ·have hlate:jau y.now r.id x j=none:=by simp [jau,hle,heq]
      have hsub:IntKind.i64.wrap (x.til-1)=x.til-1:=jo (by omega) (by omega)
      have heq':(x.til-1==y.now)=false:=by simpa using heq
      rw [hlate] at hn;simp only [go_sem,jb,jn,hs,hle,hsub,heq',beq_self_eq_true,hwj];exact ⟨(j+1,η1),by (try dsimp only);first|omega|assumption|(and_intros<;>first|omega|assumption),(jk [some 100,some 500,some 7] (by simp only [go_sem,jb,jd,ja,hn,Option.toList,List.append_nil]<;>and_intros<;>first|rfl|assumption|trivial)),by (try dsimp only);omega⟩
   ·have hlate:jau y.now r.id x j=none:=by simp [jau,hs]
    have hs':(x.state==3)=false:=by simpa using hs
    rw [hlate] at hn;simp only [go_sem,jb,jn,hs',hwj];exact ⟨(j+1,η1),by (try dsimp only);first|omega|assumption|(and_intros<;>first|omega|assumption),(jk [some 100,some 500,some 7] (by simp only [go_sem,jb,jd,ja,hn,Option.toList,List.append_nil]<;>and_intros<;>first|rfl|assumption|trivial)),by (try dsimp only);omega⟩
  ·have hjt':¬(j:Int)<r.tasks.length:=by omega
   rw [List.take_of_length_le (by omega)]
   simp only [go_sem,hjt',hwi];exact ⟨(i0+1,η1),by (try dsimp only);first|omega|assumption|(and_intros<;>first|omega|assumption),(jk [some 100,some 7] (by simp only [go_sem,jb,hnx,jiA]<;>and_intros<;>first|rfl|assumption|trivial)),by (try dsimp only);omega⟩
 ·have hlt':¬(i0:Int)<y.runs.length:=by omega
  rw [List.take_of_length_le (by omega)]
  simp only [go_sem,jb,hlt']
end Go.Proofs.YtmnpailnelmpiaaGreat
