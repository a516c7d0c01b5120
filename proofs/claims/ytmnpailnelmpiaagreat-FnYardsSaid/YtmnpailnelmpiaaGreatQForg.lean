/- Parts. -/
import Derived.Test.YtmnpailnelmpiaaGreatQTurnP
set_option linter.unusedSimpArgs false
set_option linter.unusedVariables false
set_option maxHeartbeats 16000000
set_option maxRecDepth 100000
namespace Go.Proofs.YtmnpailnelmpiaaGreat
open Go.RowKit Go.Sort
def jb6 (id:Int) (e:En):Bool:=e.run !=id
noncomputable def jal (y:Yd) (id:Int):Int:=if jC y=false then 8 else if runAt y id<0 then 10 else if ((y.runs[(runAt y id).toNat]?).getD default).state=1 then 13 else 0
noncomputable def jaw (y:Yd) (id:Int):Yd:=if jal y id=0 then ⟨y.now,y.seq,y.shelf.map (fun l=>l.filter (jb6 id)),y.runs.eraseIdx (runAt y id).toNat⟩ else y
def jdk {α:Type} (f:α→α) (l:List α) (i:Nat):List α:=(l.take i).map f++l.drop i
section
variable {α:Type} {f:α→α} {l:List α} {i:Nat} {x:α}
theorem jtz:jdk f l 0=l:=rfl
theorem jng:(jdk f l i).length=l.length:=by
 simp only [jdk,List.length_append,List.length_map,List.length_take,List.length_drop];omega
theorem jni:jdk f l l.length=l.map f:=by simp [jdk]
theorem jnh (h:l[i]?=some x):(jdk f l i)[i]?=some x:=by
 have hi:=(List.getElem?_eq_some_iff.1 h).1;have hl:((l.take i).map f).length=i:=by rw [List.length_map,List.length_take];omega
 rw [jdk,List.getElem?_append_right (by omega),hl,Nat.sub_self,List.getElem?_drop,Nat.add_zero,h]
theorem jnf (h:l[i]?=some x):(jdk f l i).set i (f x)=jdk f l (i+1):=by
 have hi:=(List.getElem?_eq_some_iff.1 h).1;have hl:((l.take i).map f).length=i:=by rw [List.length_map,List.length_take];omega
 have hx:l[i]=x:=by rw [List.getElem?_eq_getElem hi] at h;exact Option.some.inj h
 rw [jdk,List.set_append_right _ _ (by omega),hl,Nat.sub_self,List.drop_eq_getElem_cons hi,List.set_cons_zero,jdk,List.take_add_one,h]
 simp
end
theorem jt6 {l:List En} {k:Nat} {e:En} (p:En→Bool) (h:l[k]?=some e):(l.take (k+1)).filter p=(l.take k).filter p++(if p e then [e] else []):=by
 rw [List.take_add_one,h,List.filter_append];cases hp:p e<;>simp [hp]
section
variable {l:List En} {k:Nat} {x:En}
theorem jxi (hx:l[k]?=some x):((l.flatMap jf).drop (k*4+2)).take 1=[.val (.int .i64 x.run)]:=qv (enc:=jf) (size:=4) (fun _=>rfl) hx (j:=2) (n:=1) (by decide)
theorem jw3 (hx:l[k]?=some x):k*4+2+1≤(l.flatMap jf).length:=qs (enc:=jf) (size:=4) (fun _=>rfl) hx (j:=2) (n:=1) (by decide)
end
section
variable {sh:List (List En)} {n:Nat} {l:List En}
theorem jp7 (h:n<sh.length):n+1≤(sh.flatMap fun es=>[jm es]).length:=by have:=jaF h;rwa [Nat.mul_one] at this
theorem jqE (h:sh[n]?=some l):((sh.flatMap fun es=>[jm es]).drop n).take 1=[jm l]:=by have:=jbF h;rwa [Nat.mul_one] at this
end
theorem jjd {rows:List D} (h:ka rows=true) (n m:Nat):ka (rows.take n)=true∧ka (rows.drop m)=true:=by
 have e1:ka (rows.take n++rows.drop n)=true:=by rw [List.take_append_drop];exact h
 have e2:ka (rows.take m++rows.drop m)=true:=by rw [List.take_append_drop];exact h
 rw [vB,Bool.and_eq_true] at e1 e2;exact ⟨e1.1,e2.2⟩
def jfL:C:=iS [iA 2 (.box 37 4 (.t 0)),iA 4 (.alloc 37 [.int .i64 0,.int .i64 0,.slice none 0 0,.slice none 0 0]),iA 5 (iN 0)] (iS [iA 11 (iT 4 2),iA 12 (.call 105 [.t 11]),iA 6 (.alloc 37 [.int .i64 0,.int .i64 0,.slice none 0 0,.slice none 0 0]),iC (.st 4 [none,none,some (1,102),some (8,108)] (.t 6) (.t 12))] (iS [iA 13 (iT 4 2),iA 14 (iM 1),iA 15 (.call 152 [.t 13,.t 14]),iA 7 (iM 15)] (.seq (.blk 0 (iS [iA 17 (iT 4 2),iA 18 (.call 72 [.t 17]),iA 19 (iU 18),iA 16 (iM 19)] (iD 16 (iS [iA 20 (iT 4 6),iC (.st 4 [none,none,some (1,102),some (8,108)] (.t 4) (.t 20)),iA 5 (iN 8)] .ret) (iS [iA 22 (iM 7),iA 23 (iQ .lss 3 22 0),iA 21 (iM 23)] (iD 21 (iS [iA 24 (iT 4 6),iC (.st 4 [none,none,some (1,102),some (8,108)] (.t 4) (.t 24)),iA 5 (iN 10)] .ret) (iS [iA 26 (iF 3 2),iA 27 (iL 26),iA 28 (iM 7),iA 29 (iI 8 27 28),iA 30 (iF 6 29),iA 31 (iL 30),iA 32 (iQ .eql 3 31 1),iA 25 (iM 32)] (iD 25 (iS [iA 33 (iT 4 6),iC (.st 4 [none,none,some (1,102),some (8,108)] (.t 4) (.t 33)),iA 5 (iN 13)] .ret) .skip))))))) (.seq (.dreg (T.pure 1 (iA 35 (iF 3 6)) (T.pure 2 (iA 36 (iL 35)) (T.pure 3 (iA 37 (iM 7)) (T.pure 4 (iA 38 (.sl 8 (.t 36) none (some (.t 37)))) (T.pure 6 (iA 40 (iF 3 6)) (T.pure 7 (iA 41 (iL 40)) (T.pure 8 (iA 42 (iM 7)) (T.pure 9 (iA 43 (iQ .add 3 42 1)) (T.pure 10 (iA 44 (.sl 8 (.t 41) (some (.t 43)) none)) (T.alt (iA 34 (.bsl 108 8 0 [] [])) [10,9,8,7,6,4,3,2,1] (T.alt (iA 39 (.app 108 8 96 (.t 34) (.t 38))) [10,9,8,7,6] (T.alt (iA 45 (.app 108 8 96 (.t 39) (.t 44))) [] (T.pure 12 (iA 46 (iF 3 6)) (T.alt (iC (.st 1 [some (8,108)] (.t 46) (.t 45))) [] T.done T.stop)) T.stop) T.stop) T.stop))))))))))) (.seq (iS [iA 8 (iN 0)] (.blk 1 (.loop (.seq (iS [iA 47 (iM 8),iA 48 (iF 2 6),iA 49 (iL 48),iA 50 (iG 49),iA 51 (iP .lss 3 47 50)] (iD 51 .skip (.exit 1))) (.seq (.blk 2 (iS [iA 54 (.bsl 111 4 0 [] []),iA 9 (iM 54)] (.seq (iS [iA 10 (iN 0)] (.blk 3 (.loop (.seq (iS [iA 55 (iM 10),iA 56 (iF 2 6),iA 57 (iL 56),iA 58 (iM 8),iA 59 (iI 1 57 58),iA 60 (iL 59),iA 61 (iG 60),iA 62 (iP .lss 3 55 61)] (iD 62 .skip (.exit 3))) (.seq (.blk 4 (iS [iA 65 (iF 2 6),iA 66 (iL 65),iA 67 (iM 8),iA 68 (iI 1 66 67),iA 69 (iL 68),iA 70 (iM 10),iA 71 (iI 4 69 70),iA 72 (iF 2 71),iA 73 (iL 72),iA 74 (iM 1),iA 75 (iP .neq 3 73 74)] (iD 75 (.reg [iA 76 (iM 9),iA 77 (iF 2 6),iA 78 (iL 77),iA 79 (iM 8),iA 80 (iI 1 78 79),iA 81 (iL 80),iA 82 (iM 10),iA 83 (iI 4 81 82),iA 84 (iT 4 83),iA 85 (.bsl 111 4 1 [none,none,none,none] [(0,4,.t 84)]),iA 86 (.app 111 4 32 (.t 76) (.t 85)),iA 9 (iM 86)]) .skip))) (.reg [iA 63 (iM 10),iA 64 (iQ .add 3 63 1),iA 10 (iM 64)])))))) (.reg [iA 87 (iF 2 6),iA 88 (iL 87),iA 89 (iM 8),iA 90 (iM 9),iA 91 (iI 1 88 89),iC (.st 1 [some (4,111)] (.t 91) (.t 90))])))) (.reg [iA 52 (iM 8),iA 53 (iQ .add 3 52 1),iA 8 (iM 53)])))))) (iS [iA 92 (iT 4 6),iC (.st 4 [none,none,some (1,102),some (8,108)] (.t 4) (.t 92)),iA 5 (iN 0)] .ret))))))
theorem jhO:fnC Tryz.prog Tryz.f112=some (jfL,[.cell 4 true 4,.t 5],93):=by kernel_rfl
def jf0:C:=iS [iA 2 (.box 37 4 (.t 0)),iA 3 (.box 3 1 (.t 1)),iA 4 (.alloc 37 [.int .i64 0,.int .i64 0,.slice none 0 0,.slice none 0 0]),iA 5 (iN 0)] (iS [iA 9 (iT 4 2),iA 10 (.call 118 [.t 9]),iA 6 (.alloc 37 [.int .i64 0,.int .i64 0,.slice none 0 0,.slice none 0 0]),iC (.st 4 [none,none,some (1,102),some (8,108)] (.t 6) (.t 10))] (iS [iA 11 (iT 4 2),iA 12 (iL 3),iA 13 (.call 56 [.t 11,.t 12]),iA 7 (iM 13)] (.seq (.blk 0 (iS [iA 15 (iT 4 2),iA 16 (.call 59 [.t 15]),iA 17 (iU 16),iA 14 (iM 17)] (iD 14 (iS [iA 18 (iT 4 6),iC (.st 4 [none,none,some (1,102),some (8,108)] (.t 4) (.t 18)),iA 5 (iN 8)] .ret) (iS [iA 20 (iM 7),iA 21 (iQ .lss 3 20 0),iA 19 (iM 21)] (iD 19 (iS [iA 22 (iT 4 6),iC (.st 4 [none,none,some (1,102),some (8,108)] (.t 4) (.t 22)),iA 5 (iN 10)] .ret) (iS [iA 24 (iF 3 2),iA 25 (iL 24),iA 26 (iM 7),iA 27 (iI 8 25 26),iA 28 (iF 6 27),iA 29 (iL 28),iA 30 (iQ .eql 3 29 1),iA 23 (iM 30)] (iD 23 (iS [iA 31 (iT 4 6),iC (.st 4 [none,none,some (1,102),some (8,108)] (.t 4) (.t 31)),iA 5 (iN 13)] .ret) .skip))))))) (iS [iA 32 (iF 3 6),iA 33 (iL 32),iA 34 (iM 7),iA 35 (iM 7),iA 36 (iQ .add 3 35 1),iA 37 (.call 146 [.t 33,.t 34,.t 36]),iA 38 (iF 3 6),iC (.st 1 [some (8,108)] (.t 38) (.t 37))] (.seq (iS [iA 39 (iF 2 6),iA 40 (iL 39),iA 41 (iG 40),iA 42 (iN 0)] (.blk 1 (.loop (iS [iA 43 (iP .lss 3 42 41)] (.seq (iD 43 .skip (.exit 1)) (.seq (.blk 2 (iS [iA 44 (iM 42),iA 8 (iM 44)] (.dreg (T.pure 0 (iA 45 (iF 2 6)) (T.pure 1 (iA 46 (iL 45)) (T.pure 2 (iA 47 (iM 8)) (T.pure 3 (iA 48 (iF 2 6)) (T.pure 4 (iA 49 (iL 48)) (T.pure 5 (iA 50 (iM 8)) (T.pure 6 (iA 51 (iI 1 49 50)) (T.pure 7 (iA 52 (iL 51)) (T.pure 8 (iA 53 (.mkf 148 [.t 3])) (T.alt (iA 54 (.call 147 [.t 52,.t 53])) [2,1,0] (T.pure 10 (iA 55 (iI 1 46 47)) (T.alt (iC (.st 1 [some (4,111)] (.t 55) (.t 54))) [] T.done T.stop)) T.stop))))))))))))) (.reg [iA 56 (iQ .add 3 42 1),iA 42 (iM 56)]))))))) (iS [iA 57 (iT 4 6),iC (.st 4 [none,none,some (1,102),some (8,108)] (.t 4) (.t 57)),iA 5 (iN 0)] .ret))))))
theorem jh3:fnC Tryz.prog Tryz.f68=some (jf0,[.cell 4 true 4,.t 5],58):=by kernel_rfl
def jcX:C:=iS [iA 2 (.box 111 4 (.t 0)),iA 3 (iO false)] (iS [iA 4 (iF 2 2),iA 5 (iL 4),iA 6 (iL 1),iA 7 (iP .eql 3 5 6),iA 3 (iM 7)] .ret)
theorem jfw:fnC Tryz.prog Tryz.f148=some (jcX,[.t 3],8):=by kernel_rfl
theorem jlD (y:Yd) (id:Int) (ht:jK y≤2000000):kp Tryz.prog 112 [.agg (jb y),.c (.val (.int .i64 id))] (.tup [(true,jb (jaw y id)),(false,[.val (.int .i64 (jal y id))])]):=by
 refine zh [[1,1,1,1,0],[1,1,1,1,1,0,0]] Tryz.func112 jhO (by simp) ?_
 unfold jfL;simp only [C.ghs,C.ghAt,List.foldr];simp only [go_sem,jb];intro b2 b4;refine jc (ku y ht) (by simp only [go_sem,jb]) fun ηc=>?_
 simp only [go_sem,jb];intro b6;refine jc (qi y id) (by simp only [go_sem,jb]) fun η=>?_
 simp only [go_sem,jb];refine jc (qh y ht) (by simp only [go_sem,jb]) fun η=>?_
 simp only [go_sem,jb];cases hok:jC y
 ·have hc:jal y id=8:=by simp [jal,hok]
  have hy:jaw y id=y:=by rw [jaw,if_neg (by rw [hc];decide)]
  simp only [go_sem,jb,hok,hc,hy];refine qg _ _ _ _ _ ?_;simp only [go_sem,jb]
 have hP:=yard_iff.1 hok;by_cases hneg:runAt y id<0
 ·have hc:jal y id=10:=by rw [jal,if_neg (by rw [hok];decide),if_pos hneg]
  have hy:jaw y id=y:=by rw [jaw,if_neg (by rw [hc];decide)]
  simp only [go_sem,jb,hok,hneg,hc,hy];refine qg _ _ _ _ _ ?_;simp only [go_sem,jb]
 obtain ⟨k,r,hrk,hr,hid,h8⟩:=qN hneg;have hk:=(List.getElem?_eq_some_iff.1 hr).1;have h0k:(k:Int)≥0:=by omega
 have hk0:¬(k:Int)<0:=by omega
 have hget:((y.runs[(runAt y id).toNat]?).getD default)=r:=by rw [hrk,Int.toNat_natCast,hr,Option.getD_some]
 cases hst:r.state==1;rotate_left
 ·have hs1:r.state=1:=by simpa using hst
  have hc:jal y id=13:=by rw [jal,if_neg (by rw [hok];decide),if_neg hneg,hget,if_pos hs1]
  have hy:jaw y id=y:=by rw [jaw,if_neg (by rw [hc];decide)]
  simp only [go_sem,jb,hok,hrk,hk0,h0k,hk,jY hr,jd,ja,hst,hc,hy];refine qg _ _ _ _ _ ?_;simp only [go_sem,jb]
 have hs1:¬r.state=1:=by simpa using hst
 have hc:jal y id=0:=by rw [jal,if_neg (by rw [hok];decide),if_neg hneg,hget,if_neg hs1]
 rw [hc,jaw,if_pos hc,hrk,Int.toNat_natCast];simp only [go_sem,jb,hok,hrk,hk0,h0k,hk,jY hr,jd,ja,hst];refine kX ?_;generalize ηc 2=η2 at*;generalize ηc 3=η3 at*;refine WkK.wk (s':=St.of [(1,Ni id),(4,Bx 92 b4),(6,Bx 90 b6),(7,Ni k)] [(92,ZYd b4 tYd),(90,kt b6 tYd y.now y.seq y.shelf η2 y.runs η3)]) (jj [some 400,some 600] (by simp only [go_sem,jb]<;>and_intros<;>first|rfl|assumption|trivial)) ?_
 refine jiw 90 3 y.runs [] 1000000000000 _ η3 rfl (by decide) (fun j hj=>by
  show (if j=92 then _ else if j=90 then _ else Ob.none)=Ob.none
  rw [if_neg (by omega),if_neg (by omega)]) fun rows fam η' hcr hη=>?_
 refine WkK.wk (jmt [some 92,some 90] (T:=[(1,Ni id),(4,Bx 92 b4),(6,Bx 90 b6),(7,Ni k)]) (O:=[(92,ZYd b4 tYd),(90,va b6 tYd y.now y.seq y.shelf η2 (.sl 8 tRn rows) η')]) (b:=1000000000000) (fam:=fam) (by simp only [go_sem]<;>and_intros<;>first|rfl|assumption) (fun j hj=>by
  show (if 1000000000000≤j then _ else _)=_
  rw [if_pos hj]) (by decide)) ?_
 refine WkK.of ?_;have hrl:=hcr.len;have hfl:=hcr.flat;obtain ⟨hf1,hf2⟩:=jjd hfl (k*8) ((k+1)*8)
 have hdl:(D.sl 8 tRn rows).len=y.runs.length:=by
  simp only [D.len,D.cells,D.size,hrl];exact Nat.mul_div_cancel _ (by decide)
 have hw1:IntKind.i64.wrap ((k:Int)+1)=((k+1:Nat):Int):=jg (by omega) (by omega)
 have hkl2:k+1≤y.runs.length:=hk;have hkl3:k≤y.runs.length:=by omega
 have h0k1:((k+1:Nat):Int)≥0:=by omega
 have htd:List.take ((k+1+(y.runs.length-(k+1))-(k+1))*8) (List.drop ((k+1)*8) rows)=List.drop ((k+1)*8) rows:=List.take_of_length_le (by rw [List.length_drop,hrl];omega)
 have hnn:k+1+(y.runs.length-(k+1))≤y.runs.length:=by omega
 have hd1:(List.take (k*8) rows).length/8=k:=by rw [List.length_take,hrl,Nat.min_eq_left (by omega)];exact Nat.mul_div_cancel _ (by decide)
 have hd2:(List.drop ((k+1)*8) rows).length/8=y.runs.length-(k+1):=by
  rw [List.length_drop,hrl,show y.runs.length*8-(k+1)*8=(y.runs.length-(k+1))*8 by omega];exact Nat.mul_div_cancel _ (by decide)
 have m1:k≤maxLen:=by unfold maxLen;omega
 have m2:k*96≤140737488355328:=by omega
 have m3:k+(y.runs.length-(k+1))≤maxLen:=by unfold maxLen;omega
 have m4:(k+(y.runs.length-(k+1)))*96≤140737488355328:=by omega
 simp only [go_sem,hdl,hw1,hkl2,hkl3,h0k,h0k1,hf1,hf2,Nat.le_refl,htd,hnn,hd1,hd2,m1,m2,m3,m4];intro η34 η39 η45;refine kX ?_
 refine WkK.wk (jmt [some 92,some 90] (T:=[(1,Ni id),(4,Bx 92 b4),(6,Bx 90 b6)]) (O:=[(92,ZYd b4 tYd),(90,va b6 tYd y.now y.seq y.shelf η2 (.sl 8 tRn (rows.take (k*8)++rows.drop ((k+1)*8))) η45)]) (b:=1000000000000) (fam:=fam) (by simp only [go_sem]<;>and_intros<;>first|rfl|assumption) (fun j hj=>by
  simp only [go_sem]
  repeat rw [if_neg (by omega)]
  rw [if_pos hj]) (by decide)) ?_
 refine WkK.wk (jmu (b:=1000000000000) (fam:=fam) (fun j=>if j<2*k then j else j+2) (fun i j h=>by
  split at h<;>split at h<;>omega) (fun j hj=>by
  show (if 1000000000000≤j then _ else _)=_
  rw [if_pos hj])) ?_
 refine jel 90 3 (y.runs.eraseIdx k) [] 1000000000000 _ η45 (rows.take (k*8)++rows.drop ((k+1)*8)) _ (hcr.erase hk) rfl (by decide) (fun j hj=>by
  show (if 1000000000000≤j then _ else _)=_
  rw [if_pos hj]) fun η9 _=>?_
 generalize y.runs.eraseIdx k=R at*;refine WkK.wk (s':=St.of [(1,Ni id),(4,Bx 92 b4),(6,Bx 90 b6)] [(92,ZYd b4 tYd),(90,kt b6 tYd y.now y.seq y.shelf η2 R η9)]) (jj [some 92,some 90] (by simp only [go_sem]<;>and_intros<;>first|rfl|assumption|trivial)) ?_
 refine WkK.of ?_;have hsl:y.shelf.length=4:=hP.four;simp only [go_sem];refine jp (fun i:Nat×jq=>St.of [(1,Ni id),(4,Bx 92 b4),(6,Bx 90 b6),(8,Ni i.1)] [(92,ZYd b4 tYd),(90,kt b6 tYd y.now y.seq (jdk (fun l=>l.filter (jb6 id)) y.shelf i.1) i.2 R η9)]) (fun i=>i.1≤y.shelf.length) (fun i=>y.shelf.length-i.1) (0,η2) (by (try dsimp only);first|omega|(simp;done)|(and_intros<;>first|omega|simp)) (jj [some 92,some 90] (by simp only [go_sem,jtz]<;>and_intros<;>first|rfl|assumption|trivial)) ?_
 rintro ⟨n,η⟩ hn;dsimp only at hn;have hml:=jng (f:=fun l=>List.filter (jb6 id) l) (l:=y.shelf) (i:=n)
 by_cases hlt:n<y.shelf.length
 ·obtain ⟨l,hl⟩:=je hlt
  have hSi:=jnh (f:=fun l=>List.filter (jb6 id) l) hl
  have hSs:=jnf (f:=fun l=>List.filter (jb6 id) l) hl
  have hll:=vR ht (List.mem_of_getElem? hl);have hwi:IntKind.i64.wrap ((n:Int)+1)=((n+1:Nat):Int):=jg (by omega) (by omega)
  have h0i:(n:Int)≥0:=by omega
  generalize hS:jdk (fun l=>List.filter (jb6 id) l) y.shelf n=S at*
  have hli:n<S.length:=by omega
  have hlt':(n:Int)<S.length:=by omega
  simp only [go_sem,hlt'];intro ηe;refine jp (fun i:Nat×jq=>St.of [(1,Ni id),(4,Bx 92 b4),(6,Bx 90 b6),(8,Ni n),(9,Hd 9 i.2),(10,Ni i.1)] [(92,ZYd b4 tYd),(90,kt b6 tYd y.now y.seq S η R η9),(9,.loose (jm ((l.take i.1).filter (jb6 id))) i.2)]) (fun i=>i.1≤l.length) (fun i=>l.length-i.1) (0,ηe) (by (try dsimp only);first|omega|(simp;done)|(and_intros<;>first|omega|simp)) (jj [some 92,some 90,some 5400] (by simp only [go_sem,List.take_zero,List.filter_nil,jda]<;>and_intros<;>first|rfl|assumption|trivial)) ?_
  rintro ⟨j,η8⟩ hj;dsimp only at hj;by_cases hjt:j<l.length
  ·have hjt':(j:Int)<l.length:=by omega
   have h0j:(j:Int)≥0:=by omega
   obtain ⟨e,he⟩:=je hjt;have hwj:IntKind.i64.wrap ((j:Int)+1)=((j+1:Nat):Int):=jg (by omega) (by omega)
   have hft:=jt6 (jb6 id) he;have hFl:((l.take j).filter (jb6 id)).length≤l.length:=Nat.le_trans (List.length_filter_le _ _) (by rw [List.length_take];omega)
   generalize (l.take j).filter (jb6 id)=F at*;have n1:F.length+1≤maxLen:=by unfold maxLen;omega
   have n2:(F.length+1)*32≤140737488355328:=by omega
   cases hc2:e.run !=id
   ·have hp:jb6 id e=false:=hc2
    rw [hp,if_neg (by decide),List.append_nil] at hft
    simp only [go_sem,hli,h0i,Nat.mul_one,jqE hSi,jp7 hli,km hSi,hjt',hjt,h0j,jxi he,jw3 he,hc2,hwj];exact ⟨(j+1,η8),by (try dsimp only);first|omega|assumption|(and_intros<;>first|omega|assumption),(jj [some 92,some 90,some 9] (by simp only [go_sem,hft]<;>and_intros<;>first|rfl|assumption|trivial)),by (try dsimp only);omega⟩
   ·have hp:jb6 id e=true:=hc2
    rw [hp,if_pos rfl] at hft;simp only [go_sem,hli,h0i,Nat.mul_one,jqE hSi,jp7 hli,km hSi,hjt',hjt,h0j,jxi he,jw3 he,hc2,hwj,jr9 he,jrM he,jf,n1,n2,jub,ko];intro ηx ηy;exact ⟨(j+1,ηy),by (try dsimp only);first|omega|assumption|(and_intros<;>first|omega|assumption),(jj [some 92,some 90,some 8600] (by simp only [go_sem,hft]<;>and_intros<;>first|rfl|assumption|trivial)),by (try dsimp only);omega⟩
  ·have hjt':¬(j:Int)<l.length:=by omega
   obtain rfl:j=l.length:=by omega
   rw [List.take_length];simp only [go_sem,hli,h0i,Nat.mul_one,jqE hSi,jp7 hli,km hSi,hjt',jag,hSs,hwi];refine fun g' hg'=>?_
   exact ⟨(n+1,g'),by (try dsimp only);first|omega|assumption|(and_intros<;>first|omega|assumption),(jj [some 92,some 90] (by simp only [go_sem]<;>and_intros<;>first|rfl|assumption|trivial)),by (try dsimp only);omega⟩
 ·have hlt':¬(n:Int)<(jdk (fun l=>List.filter (jb6 id) l) y.shelf n).length:=by omega
  obtain rfl:n=y.shelf.length:=by omega
  simp only [go_sem,hlt'];rw [jni];refine qg _ _ _ _ _ ?_;simp only [go_sem,jb]
theorem jto (id:Int) (e:En):kp Tryz.prog 148 [.agg (jf e),.ptr [iv id]] (.c (.val (.bool (!jb6 id e)))):=by
 refine js Tryz.func148 jfw (by simp) ?_
 unfold jcX;have hb:(!jb6 id e)=(e.run==id):=by simp [jb6,bne]
 simp only [go_sem,jf,hb]
theorem jlO (y:Yd) (id:Int) (ht:jK y≤2000000):kp Tryz.prog 68 [.agg (jb y),.c (.val (.int .i64 id))] (.tup [(true,jb (jaw y id)),(false,[.val (.int .i64 (jal y id))])]):=by
 refine zh [[1,1,1,1,0],[1,1,1,1,1,0,0]] Tryz.func68 jh3 (by simp) ?_
 unfold jf0;simp only [C.ghs,C.ghAt,List.foldr];simp only [go_sem,jb];intro b2 b3 b4;refine jc (kj y ht) (by simp only [go_sem,jb]) fun ηc=>?_
 simp only [go_sem,jb];intro b6;refine jc (kW y id) (by simp only [go_sem,jb]) fun η=>?_
 simp only [go_sem,jb];refine jc (kI y ht) (by simp only [go_sem,jb]) fun η=>?_
 simp only [go_sem,jb];cases hok:jC y
 ·have hc:jal y id=8:=by simp [jal,hok]
  have hy:jaw y id=y:=by rw [jaw,if_neg (by rw [hc];decide)]
  simp only [go_sem,jb,hok,hc,hy];refine qg _ _ _ _ _ ?_;simp only [go_sem,jb]
 have hP:=yard_iff.1 hok;by_cases hneg:runAt y id<0
 ·have hc:jal y id=10:=by rw [jal,if_neg (by rw [hok];decide),if_pos hneg]
  have hy:jaw y id=y:=by rw [jaw,if_neg (by rw [hc];decide)]
  simp only [go_sem,jb,hok,hneg,hc,hy];refine qg _ _ _ _ _ ?_;simp only [go_sem,jb]
 obtain ⟨k,r,hrk,hr,hid,h8⟩:=qN hneg;have hk:=(List.getElem?_eq_some_iff.1 hr).1;have h0k:(k:Int)≥0:=by omega
 have hk0:¬(k:Int)<0:=by omega
 have hget:((y.runs[(runAt y id).toNat]?).getD default)=r:=by rw [hrk,Int.toNat_natCast,hr,Option.getD_some]
 cases hst:r.state==1;rotate_left
 ·have hs1:r.state=1:=by simpa using hst
  have hc:jal y id=13:=by rw [jal,if_neg (by rw [hok];decide),if_neg hneg,hget,if_pos hs1]
  have hy:jaw y id=y:=by rw [jaw,if_neg (by rw [hc];decide)]
  simp only [go_sem,jb,hok,hrk,hk0,h0k,hk,jY hr,jd,ja,hst,hc,hy];refine qg _ _ _ _ _ ?_;simp only [go_sem,jb]
 have hs1:¬r.state=1:=by simpa using hst
 have hc:jal y id=0:=by rw [jal,if_neg (by rw [hok];decide),if_neg hneg,hget,if_neg hs1]
 rw [hc,jaw,if_pos hc,hrk,Int.toNat_natCast];simp only [go_sem,jb,hok,hrk,hk0,h0k,hk,jY hr,jd,ja,hst];refine kX ?_;generalize ηc 2=η2 at*;generalize ηc 3=η3 at*;refine WkK.wk (s':=St.of [(3,Bx 91 b3),(4,Bx 92 b4),(6,Bx 90 b6),(7,Ni k)] [(91,.box b3 jf5 [.a (.v (.int .i64 id))]),(92,ZYd b4 tYd),(90,kt b6 tYd y.now y.seq y.shelf η2 y.runs η3)]) (jj [some 300,some 400,some 600] (by simp only [go_sem,jb]<;>and_intros<;>first|rfl|assumption|trivial)) ?_
 refine jiw 90 3 y.runs [] 1000000000000 _ η3 rfl (by decide) (fun j hj=>by
  show (if j=91 then _ else if j=92 then _ else if j=90 then _ else Ob.none)=Ob.none
  rw [if_neg (by omega),if_neg (by omega),if_neg (by omega)]) fun rows fam η' hcr hη=>?_
 refine WkK.wk (jmt [some 91,some 92,some 90] (T:=[(3,Bx 91 b3),(4,Bx 92 b4),(6,Bx 90 b6),(7,Ni k)]) (O:=[(91,.box b3 jf5 [.a (.v (.int .i64 id))]),(92,ZYd b4 tYd),(90,va b6 tYd y.now y.seq y.shelf η2 (.sl 8 tRn rows) η')]) (b:=1000000000000) (fam:=fam) (by simp only [go_sem]<;>and_intros<;>first|rfl|assumption) (fun j hj=>by
  show (if 1000000000000≤j then _ else _)=_
  rw [if_pos hj]) (by decide)) ?_
 refine qH 90 3 95 (d:=.sl 8 tRn rows) (η:=η') rfl rfl (by decide) fun hone=>?_
 refine WkK.wk (jmt [some 91,some 92,some 90,some 95] (T:=[(3,Bx 91 b3),(4,Bx 92 b4),(6,Bx 90 b6),(7,Ni k)]) (O:=[(91,.box b3 jf5 [.a (.v (.int .i64 id))]),(92,ZYd b4 tYd),(90,.box b6 tYd [.a (.v (.int .i64 y.now)),.a (.v (.int .i64 y.seq)),.own (kw y.shelf) η2,.a (.v (η' []))]),(95,.loose (.sl 8 tRn rows) η')]) (b:=1000000000000) (fam:=fam) (by simp only [go_sem]<;>and_intros<;>first|rfl|assumption) (fun j hj=>by
  simp only [go_sem]
  repeat rw [if_neg (by omega)]
  rw [if_pos hj]) (by decide)) ?_
 refine WkK.of ?_;have hrl:=hcr.len;have hfl:=hcr.flat;obtain ⟨hf1,hf2⟩:=jjd hfl (k*8) ((k+1)*8)
 have hdl:(D.sl 8 tRn rows).len=y.runs.length:=by
  simp only [D.len,D.cells,D.size,hrl];exact Nat.mul_div_cancel _ (by decide)
 have hw1:IntKind.i64.wrap ((k:Int)+1)=(k:Int)+1:=jg (by omega) (by omega)
 have hkl2:k+1≤y.runs.length:=hk;have hkl3:k≤y.runs.length:=by omega
 have h0k1:((k+1:Nat):Int)≥0:=by omega
 have htd:List.take ((k+1+(y.runs.length-(k+1))-(k+1))*8) (List.drop ((k+1)*8) rows)=List.drop ((k+1)*8) rows:=List.take_of_length_le (by rw [List.length_drop,hrl];omega)
 have hnn:k+1+(y.runs.length-(k+1))≤y.runs.length:=by omega
 have hd1:(List.take (k*8) rows).length/8=k:=by rw [List.length_take,hrl,Nat.min_eq_left (by omega)];exact Nat.mul_div_cancel _ (by decide)
 have hd2:(List.drop ((k+1)*8) rows).length/8=y.runs.length-(k+1):=by
  rw [List.length_drop,hrl,show y.runs.length*8-(k+1)*8=(y.runs.length-(k+1))*8 by omega];exact Nat.mul_div_cancel _ (by decide)
 have m1:k≤maxLen:=by unfold maxLen;omega
 have m2:k*96≤140737488355328:=by omega
 have m3:k+(y.runs.length-(k+1))≤maxLen:=by unfold maxLen;omega
 have m4:(k+(y.runs.length-(k+1)))*96≤140737488355328:=by omega
 have hf3:ka (rows.take (k*8)++rows.drop ((k+1)*8))=true:=by rw [vB,hf1,hf2];rfl
 simp only [go_sem,hw1]
 refine jeV (R:=fun rt o'=>rt=.c (.sl 8 tRn (rows.take (k*8)++rows.drop ((k+1)*8)))∧o' 90=.box b6 tYd [.a (.v (.int .i64 y.now)),.a (.v (.int .i64 y.seq)),.own (kw y.shelf) η2,.a (.v (η' []))]∧o' 91=.box b3 jf5 [.a (.v (.int .i64 id))]∧o' 92=ZYd b4 tYd∧∀j,1000000000000≤j→o' j=fam (j-1000000000000)) (by
  simp only [go_sem];refine (ju7 rows y.runs.length k hfl hf3 hrl hk (g:=95) (η:=η') (by simp only [go_sem])).mono fun rt o' h=>?_
  obtain ⟨h1,rfl⟩:=h;refine ⟨h1,by simp only [go_sem],by simp only [go_sem],by simp only [go_sem],fun j hj=>?_⟩
  simp only [go_sem]
  repeat rw [if_neg (by omega)]
  rw [if_pos hj]) fun rt o' hR η37=>?_
 obtain ⟨rfl,j90,j91,j92,jF⟩:=hR;simp only [go_sem,j90];refine kX ?_
 refine WkK.wk (jmt [some 91,some 92,some 90] (T:=[(3,Bx 91 b3),(4,Bx 92 b4),(6,Bx 90 b6)]) (O:=[(91,.box b3 jf5 [.a (.v (.int .i64 id))]),(92,ZYd b4 tYd),(90,va b6 tYd y.now y.seq y.shelf η2 (.sl 8 tRn (rows.take (k*8)++rows.drop ((k+1)*8))) (η37 0))]) (b:=1000000000000) (fam:=fam) (by simp only [go_sem,j90,j91,j92]<;>and_intros<;>first|rfl|assumption) (fun j hj=>by
  simp only [go_sem]
  repeat rw [if_neg (by omega)]
  exact jF j hj) (by decide)) ?_
 refine WkK.wk (jmu (b:=1000000000000) (fam:=fam) (fun j=>if j<2*k then j else j+2) (fun i j h=>by
  split at h<;>split at h<;>omega) (fun j hj=>by
  show (if 1000000000000≤j then _ else _)=_
  rw [if_pos hj])) ?_
 refine jel 90 3 (y.runs.eraseIdx k) [] 1000000000000 _ (η37 0) (rows.take (k*8)++rows.drop ((k+1)*8)) _ (hcr.erase hk) rfl (by decide) (fun j hj=>by
  show (if 1000000000000≤j then _ else _)=_
  rw [if_pos hj]) fun η9 _=>?_
 generalize y.runs.eraseIdx k=R at*;refine WkK.wk (s':=St.of [(3,Bx 91 b3),(4,Bx 92 b4),(6,Bx 90 b6)] [(91,.box b3 jf5 [.a (.v (.int .i64 id))]),(92,ZYd b4 tYd),(90,kt b6 tYd y.now y.seq y.shelf η2 R η9)]) (jj [some 91,some 92,some 90] (by simp only [go_sem]<;>and_intros<;>first|rfl|assumption|trivial)) ?_
 refine WkK.of ?_;have hsl:y.shelf.length=4:=hP.four;simp only [go_sem];refine jp (fun i:Nat×jq=>St.of [(3,Bx 91 b3),(4,Bx 92 b4),(6,Bx 90 b6),(41,Ni y.shelf.length),(42,Ni i.1)] [(91,.box b3 jf5 [.a (.v (.int .i64 id))]),(92,ZYd b4 tYd),(90,kt b6 tYd y.now y.seq (jdk (fun l=>l.filter (jb6 id)) y.shelf i.1) i.2 R η9)]) (fun i=>i.1≤y.shelf.length) (fun i=>y.shelf.length-i.1) (0,η2) (by (try dsimp only);first|omega|(simp;done)|(and_intros<;>first|omega|simp)) (jj [some 91,some 92,some 90] (by simp only [go_sem,jtz]<;>and_intros<;>first|rfl|assumption|trivial)) ?_
 rintro ⟨n,η⟩ hnl;dsimp only at hnl;have hml:=jng (f:=fun l=>List.filter (jb6 id) l) (l:=y.shelf) (i:=n)
 by_cases hlt:n<y.shelf.length
 ·have hlt':(n:Int)<y.shelf.length:=by omega
  obtain ⟨l,hl⟩:=je hlt;have hSi:=jnh (f:=fun l=>List.filter (jb6 id) l) hl
  have hSs:=jnf (f:=fun l=>List.filter (jb6 id) l) hl
  have hll:=ja4 ht (List.mem_of_getElem? hl);have hwn:IntKind.i64.wrap ((n:Int)+1)=((n+1:Nat):Int):=jg (by omega) (by omega)
  have h0n:(n:Int)≥0:=by omega
  generalize hS:jdk (fun l=>List.filter (jb6 id) l) y.shelf n=S at*
  have hn:n<S.length:=by omega
  have hi1:=jp7 hn;have ha1:=jqE hSi;simp only [go_sem,hlt',hn,h0n,kY hSi,ha1,hi1,Nat.mul_one];refine kS (jtS ?_);refine ql (β:=7000000) Tryz.func147 ky (by simp) ?_
  unfold ke;simp only [go_sem];refine jc (jbw l _ [iv id] (fun e=>!jb6 id e) (fun x=>jto id x) hll) (by simp only [go_sem,km hSi]) fun ηq=>?_
  simp only [go_sem]
  have hcut:∀(L:List En) (m:Nat),m≤L.length→(L.flatMap jf).take (m*4)=(L.take m).flatMap jf:=fun L m hm=>by
   have e1:L.flatMap jf=(L.take m).flatMap jf++(L.drop m).flatMap jf:=by rw [←List.flatMap_append,List.take_append_drop]
   rw [e1,List.take_left' (by rw [jG jqk,List.length_take,Nat.min_eq_left hm])]
  rcases zl (fun e=>!jb6 id e) l with ⟨h1,h2⟩|⟨i0,x0,h1,h2,h3,h4⟩
  ·have hfl:l.filter (jb6 id)=l:=List.filter_eq_self.2 fun e he=>by have:=h2 e he;simpa using this
   rw [hfl] at hSs;simp only [go_sem,h1,beq_self_eq_true];refine ⟨90,2,n,777,l.length,4,tEn,jqQ,l.flatMap jf,_,η,.inr ⟨rfl,(jG jqk l).symm⟩,by simp only [go_sem];rfl,ji8 hSi,by simp only [go_sem],by decide,by decide,by rw [jG jqk];exact Nat.le_refl _,fun η2' η'' hη2=>?_⟩
   rw [hcut l l.length (Nat.le_refl _),List.take_length];simp only [go_sem,jkT,jfe,hη2,jlk,jlg,jil,hn,h0n,Nat.mul_one,jdi,hi1,jih _ l hn,ko,hwn];refine ⟨hn,fun g' hg'=>?_⟩
   exact ⟨(n+1,g'),by (try dsimp only);first|omega|assumption|(and_intros<;>first|omega|assumption),(jj [some 91,some 92,some 90] (by simp only [go_sem,jkT,hSs]<;>and_intros<;>first|rfl|assumption|trivial)),by (try dsimp only);omega⟩
  ·have hi0:=(List.getElem?_eq_some_iff.1 h2).1
   have hne:((i0:Int)==-1)=false:=by simp
   have hw0:IntKind.i64.wrap ((i0:Int)+1)=((i0+1:Nat):Int):=jg (by omega) (by omega)
   have hset0:=zS hSi;simp only [go_sem,h1,hne,hw0];refine jp (fun i:Nat×Nat×List En=>St.of [(0,.c (.h 90 2 [n] (η [n]))),(1,.fn 148 [.bp 91 0 b3]),(5,Ni i.1),(6,Ni i.2.1)] [(91,.box b3 jf5 [.a (.v (.int .i64 id))]),(92,ZYd b4 tYd),(90,kt b6 tYd y.now y.seq (S.set n i.2.2) η R η9)]) (fun i=>jxl (fun e=>!jb6 id e) l i.2.2 i.1 i.2.1) (fun i=>l.length-i.2.1) (i0,i0+1,l) (jA0 h2 h3 h4) (jj [some 91,some 92,some 90] (by simp only [go_sem,hset0]<;>and_intros<;>first|rfl|assumption|trivial)) ?_
   rintro ⟨i,j,L⟩ hd;dsimp only at hd;have hL:(S.set n L)[n]?=some L:=List.getElem?_set_self hn;have hLl:=hd.len;have hij:=hd.ij;have hjl:=hd.jl;have h0i:(i:Int)≥0:=by omega
   by_cases hjt:j<l.length
   ·have hjt':(j:Int)<l.length:=by omega
    have h0j:(j:Int)≥0:=by omega
    obtain ⟨e,he⟩:=je hjt;have heL:L[j]?=some e:=by rw [hd.suf j (Nat.le_refl _)];exact he
    have hiL:i<L.length:=by omega
    have hjL:j<L.length:=by omega
    obtain ⟨xi,hxi⟩:=je hiL;have hw:IntKind.i64.wrap ((j:Int)+1)=((j+1:Nat):Int):=jg (by omega) (by omega)
    have hwi:IntKind.i64.wrap ((i:Int)+1)=((i+1:Nat):Int):=jg (by omega) (by omega)
    simp only [go_sem,km hL,hLl,hjt,hjt',h0j,jr9 heL,jrM heL,jf];intro b7;refine jiK (by simp only [go_sem];rfl) (jto id e) (by simp only [go_sem,jf]) fun η=>?_
    cases hf:jb6 id e
    ·simp only [go_sem,jf,hf,hw]
     exact ⟨(i,j+1,L),jw8 hd he (by simp [hf]),(jj [some 91,some 92,some 90] (by simp only [go_sem]<;>and_intros<;>first|rfl|assumption|trivial)),by (try dsimp only);omega⟩
    ·simp only [go_sem,jf,hf,hw,hwi,km hL,hLl,h0i,jr9 hxi,jrM hxi,jpH e hL hiL,List.set_set,(show i<l.length by omega)]
     exact ⟨(i+1,j+1,L.set i e),jul hd he (by simp [hf]),(jj [some 91,some 92,some 90] (by simp only [go_sem]<;>and_intros<;>first|rfl|assumption|trivial)),by (try dsimp only);omega⟩
   ·have hjt':¬(j:Int)<l.length:=by omega
    obtain rfl:j=l.length:=by omega
    have hde:=jum hd;have hfe:l.filter (fun e=>!!jb6 id e)=l.filter (jb6 id):=by simp
    rw [hfe] at hde;have hin:i≤l.length:=by omega
    have hpos:0<l.length-i:=by omega
    have hsum:i+(l.length-i)=l.length:=by omega
    have hsum2:i+(l.length-i)=L.length:=by omega
    have hrf:ka ((List.replicate (l.length-i) jdx).flatMap jf)=true:=jaI _;obtain ⟨L2,hL2⟩:∃L2,L2=L.take i++List.replicate (l.length-i) jdx:=⟨_,rfl⟩;have hL2l:L2.length=l.length:=by rw [hL2];simp;omega
    have hL2t:L2.take i=l.filter (jb6 id):=by rw [hL2,List.take_left' (by rw [List.length_take];omega),hde]
    have hp2:D.put [n] (i*4) ((List.replicate (l.length-i) jdx).flatMap jf) (kw (S.set n L))=kw (S.set n L2):=by rw [jov hL (jxc hsum2),List.set_set,hL2]
    have hg2:(S.set n L2)[n]?=some L2:=List.getElem?_set_self hn;have hns:n<(S.set n L2).length:=by rw [List.length_set];exact hn
    simp only [go_sem,km hL,hLl,hjt',h0i,hin,Nat.le_refl,hpos,hsum,jwT,jnC,hrf,hp2,km hg2,hL2l];refine ⟨90,2,n,777,i,4,tEn,jqQ,L2.flatMap jf,_,η,.inl rfl,by simp only [go_sem];rfl,ji8 hg2,by simp only [go_sem],by decide,by decide,by rw [jG jqk];omega,fun η2' η'' hη2=>?_⟩
    rw [hcut L2 i (by omega),hL2t]
    simp only [go_sem,jkT,jfe,hη2,jlk,jlg,jil,hns,h0n,Nat.mul_one,jdi,jih _ (l.filter (jb6 id)) hns,ko,List.set_set,List.length_set,hn,hwn];refine ⟨hn,fun g' hg'=>?_⟩
    exact ⟨(n+1,g'),by (try dsimp only);first|omega|assumption|(and_intros<;>first|omega|assumption),(jj [some 91,some 92,some 90] (by simp only [go_sem,jkT,hSs]<;>and_intros<;>first|rfl|assumption|trivial)),by (try dsimp only);omega⟩
 ·have hlt':¬(n:Int)<y.shelf.length:=by omega
  obtain rfl:n=y.shelf.length:=by omega
  simp only [go_sem,hlt'];rw [jni];refine qg _ _ _ _ _ ?_;simp only [go_sem,jb]
end Go.Proofs.YtmnpailnelmpiaaGreat
