/- Parts. -/
import Derived.Test.YtmnpailnelmpiaaGreatQFresh
import Derived.Test.YtmnpailnelmpiaaGreatQRunD
set_option linter.unusedSimpArgs false
set_option linter.unusedVariables false
set_option maxHeartbeats 8000000
set_option maxRecDepth 100000
namespace Go.Proofs.YtmnpailnelmpiaaGreat
open Go.RowKit Go.Sort
def jaH:C:=iS [iA 2 (.mov (.c (.slice none 0 0)))] (iS [iA 3 (iM 0),iA 4 (.app 111 4 32 (.c (.slice none 0 0)) (.t 3)),iA 2 (iM 4)] .ret)
theorem jcl:fnC Tryz.prog Tryz.f208=some (jaH,[.t 2],5):=by kernel_rfl
def jcu:C:=iS [iA 1 (.box 37 4 (.t 0)),iA 2 (.alloc 37 [.int .i64 0,.int .i64 0,.slice none 0 0,.slice none 0 0])] (iS [iA 8 (iF 0 1),iA 9 (iL 8),iA 10 (iF 1 1),iA 11 (iL 10),iA 12 (.bld [.int .i64 0,.int .i64 0,.slice none 0 0,.slice none 0 0] [(0,1,.t 9),(1,1,.t 11)]),iA 3 (.alloc 37 [.int .i64 0,.int .i64 0,.slice none 0 0,.slice none 0 0]),iC (.st 4 [none,none,some (1,102),some (8,108)] (.t 3) (.t 12))] (.seq (iS [iA 13 (iF 2 1),iA 14 (iL 13),iA 15 (iG 14),iA 16 (iN 0)] (.blk 0 (.loop (iS [iA 17 (iP .lss 3 16 15)] (.seq (iD 17 .skip (.exit 0)) (.seq (.blk 1 (iS [iA 18 (iI 1 14 16),iA 19 (iL 18),iA 5 (iM 19)] (.dreg (T.pure 0 (iA 20 (iF 2 3)) (T.pure 1 (iA 21 (iL 20)) (T.pure 2 (iA 22 (iM 5)) (T.alt (iA 23 (.call 208 [.t 22])) [1,0] (T.alt (iA 24 (.bsl 102 1 1 [some (4,111)] [(0,1,.t 23)])) [1,0] (T.alt (iA 25 (.app 102 1 24 (.t 21) (.t 24))) [] (T.pure 6 (iA 26 (iF 2 3)) (T.alt (iC (.st 1 [some (1,102)] (.t 26) (.t 25))) [] T.done T.stop)) T.stop) T.stop) T.stop))))))) (.reg [iA 27 (iQ .add 3 16 1),iA 16 (iM 27)]))))))) (.seq (iS [iA 28 (iF 3 1),iA 29 (iL 28),iA 30 (iG 29),iA 31 (iN 0)] (.blk 2 (.loop (iS [iA 32 (iP .lss 3 31 30)] (.seq (iD 32 .skip (.exit 2)) (.seq (.blk 3 (iS [iA 33 (iI 8 29 31),iA 34 (iT 8 33),iA 7 (.alloc 108 [.int .i64 0,.int .i64 0,.int .i64 0,.int .i64 0,.int .i64 0,.slice none 0 0,.int .i64 0,.slice none 0 0]),iC (.st 8 [none,none,none,none,none,some (2,253),none,some (4,172)] (.t 7) (.t 34))] (.dreg (T.pure 0 (iA 35 (iF 3 3)) (T.pure 1 (iA 36 (iL 35)) (T.pure 2 (iA 37 (iT 8 7)) (T.alt (iA 38 (.call 209 [.t 37])) [1,0] (T.alt (iA 39 (.bsl 108 8 1 [none,none,none,none,none,some (2,253),none,some (4,172)] [(0,8,.t 38)])) [1,0] (T.alt (iA 40 (.app 108 8 96 (.t 36) (.t 39))) [] (T.pure 6 (iA 41 (iF 3 3)) (T.alt (iC (.st 1 [some (8,108)] (.t 41) (.t 40))) [] T.done T.stop)) T.stop) T.stop) T.stop))))))) (.reg [iA 42 (iQ .add 3 31 1),iA 31 (iM 42)]))))))) (iS [iA 43 (iT 4 3),iC (.st 4 [none,none,some (1,102),some (8,108)] (.t 2) (.t 43))] .ret))))
theorem jeT:fnC Tryz.prog Tryz.f118=some (jcu,[.cell 2 true 4],44):=by kernel_rfl
def jdn:C:=iS [iA 1 (.box 37 4 (.t 0)),iA 2 (.alloc 37 [.int .i64 0,.int .i64 0,.slice none 0 0,.slice none 0 0])] (iS [iA 6 (iF 0 1),iA 7 (iL 6),iA 8 (iF 1 1),iA 9 (iL 8),iA 10 (.bld [.int .i64 0,.int .i64 0,.slice none 0 0,.slice none 0 0] [(0,1,.t 7),(1,1,.t 9)]),iA 3 (.alloc 37 [.int .i64 0,.int .i64 0,.slice none 0 0,.slice none 0 0]),iC (.st 4 [none,none,some (1,102),some (8,108)] (.t 3) (.t 10))] (.seq (iS [iA 4 (iN 0)] (.blk 0 (.loop (.seq (iS [iA 11 (iM 4),iA 12 (iF 2 1),iA 13 (iL 12),iA 14 (iG 13),iA 15 (iP .lss 3 11 14)] (iD 15 .skip (.exit 0))) (.seq (.blk 1 (.dreg (T.pure 0 (iA 18 (iF 2 3)) (T.pure 1 (iA 19 (iL 18)) (T.pure 3 (iA 21 (iF 2 1)) (T.pure 4 (iA 22 (iL 21)) (T.pure 5 (iA 23 (iM 4)) (T.pure 6 (iA 24 (iI 1 22 23)) (T.pure 7 (iA 25 (iL 24)) (T.alt (iA 20 (.bsl 111 4 0 [] [])) [7,6,5,4,3,1,0] (T.alt (iA 26 (.app 111 4 32 (.t 20) (.t 25))) [1,0] (T.alt (iA 27 (.bsl 102 1 1 [some (4,111)] [(0,1,.t 26)])) [1,0] (T.alt (iA 28 (.app 102 1 24 (.t 19) (.t 27))) [] (T.pure 11 (iA 29 (iF 2 3)) (T.alt (iC (.st 1 [some (1,102)] (.t 29) (.t 28))) [] T.done T.stop)) T.stop) T.stop) T.stop) T.stop)))))))))) (.reg [iA 16 (iM 4),iA 17 (iQ .add 3 16 1),iA 4 (iM 17)])))))) (.seq (iS [iA 5 (iN 0)] (.blk 2 (.loop (.seq (iS [iA 30 (iM 5),iA 31 (iF 3 1),iA 32 (iL 31),iA 33 (iG 32),iA 34 (iP .lss 3 30 33)] (iD 34 .skip (.exit 2))) (.seq (.blk 3 (.dreg (T.pure 0 (iA 37 (iF 3 3)) (T.pure 1 (iA 38 (iL 37)) (T.pure 2 (iA 39 (iF 3 1)) (T.pure 3 (iA 40 (iL 39)) (T.pure 4 (iA 41 (iM 5)) (T.pure 5 (iA 42 (iI 8 40 41)) (T.pure 6 (iA 43 (iT 8 42)) (T.alt (iA 44 (.call 185 [.t 43])) [1,0] (T.alt (iA 45 (.bsl 108 8 1 [none,none,none,none,none,some (2,253),none,some (4,172)] [(0,8,.t 44)])) [1,0] (T.alt (iA 46 (.app 108 8 96 (.t 38) (.t 45))) [] (T.pure 10 (iA 47 (iF 3 3)) (T.alt (iC (.st 1 [some (8,108)] (.t 47) (.t 46))) [] T.done T.stop)) T.stop) T.stop) T.stop)))))))))) (.reg [iA 35 (iM 5),iA 36 (iQ .add 3 35 1),iA 5 (iM 36)])))))) (iS [iA 48 (iT 4 3),iC (.st 4 [none,none,some (1,102),some (8,108)] (.t 2) (.t 48))] .ret))))
theorem jf2:fnC Tryz.prog Tryz.f105=some (jdn,[.cell 2 true 4],49):=by kernel_rfl
abbrev ky (b ty:Nat) (now seq:Int) (sh:List (List En)) (e1:jp) (rn:List Rn) (e2:jp):Ob:=.box b ty [.a (.v (.int .i64 now)),.a (.v (.int .i64 seq)),.own (kt sh) e1,.own (jM rn) e2]
abbrev ZYd (b ty:Nat):Ob:=.box b ty [.a (.v (.int .i64 0)),.a (.v (.int .i64 0)),.a (.v (.slice none 0 0)),.a (.v (.slice none 0 0))]
theorem ke (l:List En):D.sl 4 tEn (l.flatMap jf)=ji l:=rfl
theorem jr4 (l:List (List En)) (x:List En):D.sl 1 jno (l.flatMap (fun es=>[ji es])++[ji x])=kt (l++[x]):=by simp [kt]
theorem joP (l:List Rn) (r:Rn):D.sl 8 tRn (l.flatMap jd++[.val (.int .i64 r.id),.val (.int .i64 r.plan.prio),.val (.int .i64 r.plan.most),.val (.int .i64 r.plan.wait),.val (.int .i64 r.plan.tasks),jA r.plan.edges,.val (.int .i64 r.state),jx r.tasks])=jM (l++[r]):=by simp [jM,jd,ja]
theorem jaT {y:Yd} (ht:jt y≤2000000) {l:List En} (h:l∈y.shelf):l.length≤4000000:=by
 obtain ⟨k,hk,rfl⟩:=List.getElem_of_mem h;have h1:=List.getElem?_eq_getElem hk;have h2:=kJ (tot:=kO) h1;have h3:=qD kO y.shelf (k+1);simp only [jt,vL,kO] at*;omega
theorem jbY {y:Yd} (ht:jt y≤2000000) {r:Rn} (h:r∈y.runs):r.plan.edges.length≤4000000∧r.tasks.length≤4000000:=by
 obtain ⟨k,hk,rfl⟩:=List.getElem_of_mem h;have h1:=List.getElem?_eq_getElem hk;have h2:=kJ (tot:=km) h1;have h3:=qD km y.runs (k+1);simp only [jt,qz,km,zP] at*;omega
theorem jZ (l:List En) (hl:l.length≤4000000):kf Tryz.prog 208 [.c (ji l)] (.c (ji l)):=by
 refine jr Tryz.func208 jcl (by simp) ?_
 unfold jaH;have h1:l.length≤maxLen:=by unfold maxLen;omega
 have h2:l.length*32≤140737488355328:=by omega
 simp only [go_sem,h1,h2,ke]
theorem jX (y:Yd) (ht:jt y≤2000000):kf Tryz.prog 118 [.agg (jb y)] (.agg (jb y)):=by
 refine jr Tryz.func118 jeT (by simp) ?_
 unfold jcu;have hsl:y.shelf.length≤2000000:=by simp only [jt,vL] at ht;omega
 have hrl:=jfF ht;simp only [go_sem,jb];intro b1 b2 b3;refine jq (fun i:Nat×jp=>St.of [(1,Bx 100 b1),(2,Bx 200 b2),(3,Bx 300 b3),(14,Ro (kt y.shelf)),(15,Ni y.shelf.length),(16,Ni i.1)] [(100,Bi b1 _ (jb y)),(200,ZYd b2 _),(300,.box b3 _ [.a (.v (.int .i64 y.now)),.a (.v (.int .i64 y.seq)),.own (kt (y.shelf.take i.1)) i.2,.a (.v (.slice none 0 0))])]) (fun i=>i.1≤y.shelf.length) (fun i=>y.shelf.length-i.1) (0,jlF) (by (try dsimp only);first|omega|(simp;done)|(and_intros<;>first|omega|simp)) (jk [some 100,some 200,some 300] (by simp only [go_sem,jb,List.take_zero]<;>and_intros<;>first|rfl|assumption)) ?_
 rintro ⟨k,η⟩ hk;dsimp only at hk;by_cases hlt:k<y.shelf.length
 ·have hlt':(k:Int)<y.shelf.length:=by omega
  obtain ⟨l,hl⟩:=je hlt;have hw:IntKind.i64.wrap ((k:Int)+1)=((k+1:Nat):Int):=jo (by omega) (by omega)
  have hm1:k+1≤maxLen:=by unfold maxLen;omega
  have hm2:(k+1)*24≤140737488355328:=by omega
  have htk:(y.shelf.take k).length=k:=by rw [List.length_take];omega
  have hts:y.shelf.take (k+1)=y.shelf.take k++[l]:=by rw [List.take_add_one,hl];rfl
  generalize y.shelf.take k=M at*;simp only [go_sem,jb,hlt,hlt',kY hl];refine jc (jZ l (jaT ht (List.mem_of_getElem? hl))) (by simp only [go_sem,jb]) fun η=>?_
  simp only [go_sem,jb];simp only [go_sem,htk,hm1,hm2,jr4];intro η7 η8;simp only [go_sem,hw];exact ⟨(k+1,η8),by (try dsimp only);first|omega|assumption|(and_intros<;>first|omega|assumption),(jk [some 100,some 200,some 300] (by simp only [go_sem,jb,hts]<;>and_intros<;>first|rfl|assumption)),by (try dsimp only);omega⟩
 have hlt':¬(k:Int)<y.shelf.length:=by omega
 rw [List.take_of_length_le (by omega)]
 simp only [go_sem,jb,hlt'];refine jq (fun i:Nat×jp=>St.of [(1,Bx 100 b1),(2,Bx 200 b2),(3,Bx 300 b3),(29,Ro (jM y.runs)),(30,Ni y.runs.length),(31,Ni i.1)] [(100,Bi b1 _ (jb y)),(200,ZYd b2 _),(300,ky b3 _ y.now y.seq y.shelf η (y.runs.take i.1) i.2)]) (fun i=>i.1≤y.runs.length) (fun i=>y.runs.length-i.1) (0,jlF) (by (try dsimp only);first|omega|(simp;done)|(and_intros<;>first|omega|simp)) (jk [some 100,some 200,some 300] (by simp only [go_sem,jb,List.take_zero]<;>and_intros<;>first|rfl|assumption)) ?_
 rintro ⟨j,η2⟩ hj;dsimp only at hj;by_cases hjl:j<y.runs.length
 ·have hjl':(j:Int)<y.runs.length:=by omega
  obtain ⟨r,hr⟩:=je hjl;have hw:IntKind.i64.wrap ((j:Int)+1)=((j+1:Nat):Int):=jo (by omega) (by omega)
  have hm1:j+1≤maxLen:=by unfold maxLen;omega
  have hm2:(j+1)*96≤140737488355328:=by omega
  have hjk:(y.runs.take j).length=j:=by rw [List.length_take];omega
  have hjs:y.runs.take (j+1)=y.runs.take j++[r]:=by rw [List.take_add_one,hr];rfl
  have hrb:=jbY ht (List.mem_of_getElem? hr);generalize y.runs.take j=M at*;simp only [go_sem,jb,hjl,hjl',jV hr,jd,ja];intro b7;refine jc (jdg r hrb.1 hrb.2) (by simp only [go_sem,jb,jd,ja]) fun η=>?_
  simp only [go_sem,jb,jd,ja];simp only [go_sem,hjk,hm1,hm2,joP];intro η7 η8;simp only [go_sem,hw];exact ⟨(j+1,η8),by (try dsimp only);first|omega|assumption|(and_intros<;>first|omega|assumption),(jk [some 100,some 200,some 300] (by simp only [go_sem,jb,hjs]<;>and_intros<;>first|rfl|assumption)),by (try dsimp only);omega⟩
 have hjl':¬(j:Int)<y.runs.length:=by omega
 rw [List.take_of_length_le (by omega)]
 simp only [go_sem,jb,hjl']
theorem kg (y:Yd) (ht:jt y≤2000000):kf Tryz.prog 105 [.agg (jb y)] (.agg (jb y)):=by
 refine jr Tryz.func105 jf2 (by simp) ?_
 unfold jdn;have hsl:y.shelf.length≤2000000:=by simp only [jt,vL] at ht;omega
 have hrl:=jfF ht;simp only [go_sem,jb];intro b1 b2 b3;refine jq (fun i:Nat×jp=>St.of [(1,Bx 100 b1),(2,Bx 200 b2),(3,Bx 300 b3),(4,Ni i.1)] [(100,Bi b1 _ (jb y)),(200,ZYd b2 _),(300,.box b3 _ [.a (.v (.int .i64 y.now)),.a (.v (.int .i64 y.seq)),.own (kt (y.shelf.take i.1)) i.2,.a (.v (.slice none 0 0))])]) (fun i=>i.1≤y.shelf.length) (fun i=>y.shelf.length-i.1) (0,jlF) (by (try dsimp only);first|omega|(simp;done)|(and_intros<;>first|omega|simp)) (jk [some 100,some 200,some 300] (by simp only [go_sem,jb,List.take_zero]<;>and_intros<;>first|rfl|assumption)) ?_
 rintro ⟨k,η⟩ hk;dsimp only at hk;by_cases hlt:k<y.shelf.length
 ·have hlt':(k:Int)<y.shelf.length:=by omega
  have h0k:(k:Int)≥0:=by omega
  obtain ⟨l,hl⟩:=je hlt;have hll:=jaT ht (List.mem_of_getElem? hl);have hw:IntKind.i64.wrap ((k:Int)+1)=((k+1:Nat):Int):=jo (by omega) (by omega)
  have hm1:k+1≤maxLen:=by unfold maxLen;omega
  have hm2:(k+1)*24≤140737488355328:=by omega
  have hm3:l.length≤maxLen:=by unfold maxLen;omega
  have hm4:l.length*32≤140737488355328:=by omega
  have htk:(y.shelf.take k).length=k:=by rw [List.length_take];omega
  have hts:y.shelf.take (k+1)=y.shelf.take k++[l]:=by rw [List.take_add_one,hl];rfl
  generalize y.shelf.take k=M at*;simp only [go_sem,jb,hlt,hlt',h0k,kY hl,hm3,hm4,ke];intro η5 η6;simp only [go_sem,htk,hm1,hm2,hm3,hm4,ke,jr4];intro η7 η8;simp only [go_sem,hw];exact ⟨(k+1,η8),by (try dsimp only);first|omega|assumption|(and_intros<;>first|omega|assumption),(jk [some 100,some 200,some 300] (by simp only [go_sem,jb,hts]<;>and_intros<;>first|rfl|assumption)),by (try dsimp only);omega⟩
 have hlt':¬(k:Int)<y.shelf.length:=by omega
 rw [List.take_of_length_le (by omega)]
 simp only [go_sem,jb,hlt'];refine jq (fun i:Nat×jp=>St.of [(1,Bx 100 b1),(2,Bx 200 b2),(3,Bx 300 b3),(5,Ni i.1)] [(100,Bi b1 _ (jb y)),(200,ZYd b2 _),(300,ky b3 _ y.now y.seq y.shelf η (y.runs.take i.1) i.2)]) (fun i=>i.1≤y.runs.length) (fun i=>y.runs.length-i.1) (0,jlF) (by (try dsimp only);first|omega|(simp;done)|(and_intros<;>first|omega|simp)) (jk [some 100,some 200,some 300] (by simp only [go_sem,jb,List.take_zero]<;>and_intros<;>first|rfl|assumption)) ?_
 rintro ⟨j,η2⟩ hj;dsimp only at hj;by_cases hjl:j<y.runs.length
 ·have hjl':(j:Int)<y.runs.length:=by omega
  have h0j:(j:Int)≥0:=by omega
  obtain ⟨r,hr⟩:=je hjl;have hw:IntKind.i64.wrap ((j:Int)+1)=((j+1:Nat):Int):=jo (by omega) (by omega)
  have hm1:j+1≤maxLen:=by unfold maxLen;omega
  have hm2:(j+1)*96≤140737488355328:=by omega
  have hjk:(y.runs.take j).length=j:=by rw [List.length_take];omega
  have hjs:y.runs.take (j+1)=y.runs.take j++[r]:=by rw [List.take_add_one,hr];rfl
  have hrb:=jbY ht (List.mem_of_getElem? hr);generalize y.runs.take j=M at*;simp only [go_sem,jb,hjl,hjl',h0j,jV hr,jd,ja];refine jc (vr r hrb.1 hrb.2) (by simp only [go_sem,jb,jd,ja]) fun η=>?_
  simp only [go_sem,jb,jd,ja];simp only [go_sem,hjk,hm1,hm2,joP];intro η7 η8;simp only [go_sem,hw];exact ⟨(j+1,η8),by (try dsimp only);first|omega|assumption|(and_intros<;>first|omega|assumption),(jk [some 100,some 200,some 300] (by simp only [go_sem,jb,hjs]<;>and_intros<;>first|rfl|assumption)),by (try dsimp only);omega⟩
 have hjl':¬(j:Int)<y.runs.length:=by omega
 rw [List.take_of_length_le (by omega)]
 simp only [go_sem,jb,hjl']
end Go.Proofs.YtmnpailnelmpiaaGreat
