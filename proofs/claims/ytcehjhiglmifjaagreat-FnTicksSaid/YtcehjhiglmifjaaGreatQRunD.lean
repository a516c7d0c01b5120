/- Parts. -/
import Derived.Test.YtcehjhiglmifjaaGreatQRunOk
import Derived.Deep.RegionWith
set_option linter.unusedSimpArgs false
set_option linter.unusedVariables false
set_option maxHeartbeats 8000000
set_option maxRecDepth 100000
namespace Go.Proofs.YtcehjhiglmifjaaGreat
open Go.RowKit Go.Sort
theorem jm6 {α:Type} {A B C v:List α} {o j:Nat} (ho:o=A.length+j) (hj:j+v.length≤B.length):kD (A++(B++C)) o v=A++(kD B j v++C):=by
 subst ho;rw [kU _ _ _ (by simp only [List.length_append];omega),kU _ _ _ hj]
 have h1:(A++(B++C)).take (A.length+j)=A++B.take j:=by
  rw [List.take_append,List.take_of_length_le (by omega),Nat.add_sub_cancel_left,List.take_append_of_le_length (by omega)]
 have h2:(A++(B++C)).drop (A.length+j+v.length)=B.drop (j+v.length)++C:=by
  rw [List.drop_append,List.drop_eq_nil_of_le (by omega),List.nil_append,show A.length+j+v.length-A.length=j+v.length by omega,List.drop_append_of_le_length (by omega)]
 rw [h1,h2];simp only [List.append_assoc]
section
variable {α:Type} {enc:α→List D} {size ty:Nat} {l:List α} {k:Nat} {x:α}
theorem ja8 (hx:l[k]?=some x):l.flatMap enc=(l.take k).flatMap enc++(enc x++(l.drop (k+1)).flatMap enc):=by
 obtain ⟨hk,he⟩:=List.getElem?_eq_some_iff.1 hx;have e:l=l.take k++x::l.drop (k+1):=by rw [←he,←List.drop_eq_getElem_cons hk,List.take_append_drop]
 have h2:=congrArg (List.flatMap enc) e;rw [h2,List.flatMap_append,List.flatMap_cons]
theorem jiv (hs:∀x,(enc x).length=size) (hx:l[k]?=some x):((l.take k).flatMap enc).length=k*size:=by
 have hk:=(List.getElem?_eq_some_iff.1 hx).1;rw [jH hs,List.length_take,Nat.min_eq_left (by omega)]
theorem jbc (hs:∀x,(enc x).length=size) (hx:l[k]?=some x) {y:α} {j:Nat} {v:List D} (hy:kD (enc x) j v=enc y) (hj:j+v.length≤size):D.put [] (k*size+j) v (.sl size ty (l.flatMap enc))=.sl size ty ((l.set k y).flatMap enc):=by
 have hk:=(List.getElem?_eq_some_iff.1 hx).1;have h2:(l.set k y)[k]?=some y:=List.getElem?_set_self hk;have e1:(l.set k y).take k=l.take k:=List.take_set_of_le (Nat.le_refl k);have e2:(l.set k y).drop (k+1)=l.drop (k+1):=List.drop_set_of_lt (Nat.lt_succ_self k);simp only [D.put];rw [ja8 hx,jm6 (by rw [jiv hs hx]) (by rw [hs];exact hj),hy,ja8 h2,e1,e2]
theorem qw (hs:∀x,(enc x).length=size) (hx:l[k]?=some x) {j n:Nat} (hj:j+n≤size):((l.flatMap enc).drop (k*size+j)).take n=((enc x).drop j).take n:=by
 rw [ja8 hx,←List.drop_drop,List.drop_left' (jiv hs hx),List.drop_append_of_le_length (by rw [hs];omega),List.take_append_of_le_length (by rw [List.length_drop,hs];omega)]
theorem qu (hs:∀x,(enc x).length=size) (hx:l[k]?=some x) {j n:Nat} (hj:j+n≤size):k*size+j+n≤(l.flatMap enc).length:=by
 have hk:=(List.getElem?_eq_some_iff.1 hx).1;rw [jH hs];have:(k+1)*size≤l.length*size:=Nat.mul_le_mul_right _ hk;rw [Nat.succ_mul] at this;omega
end
section
variable {l:List Tk} {k:Nat} {x:Tk}
theorem jaW (hx:l[k]?=some x) (v:Int):D.put [] (k*4) [.val (.int .i64 v)] (jB l)=jB (l.set k ⟨v,x.need,x.tri,x.til⟩):=jbc (enc:=jo) (size:=4) (fun _=>rfl) hx (j:=0) rfl (by simp)
theorem zA (hx:l[k]?=some x) (v:Int):D.put [] (k*4+0) [.val (.int .i64 v)] (jB l)=jB (l.set k ⟨v,x.need,x.tri,x.til⟩):=jbc (enc:=jo) (size:=4) (fun _=>rfl) hx (j:=0) rfl (by simp)
theorem jtP (hx:l[k]?=some x) (v:Int):D.put [] (k*4+1) [.val (.int .i64 v)] (jB l)=jB (l.set k ⟨x.state,v,x.tri,x.til⟩):=jbc (enc:=jo) (size:=4) (fun _=>rfl) hx (j:=1) rfl (by simp)
theorem jyN (hx:l[k]?=some x) (v:Int):D.put [] (k*4+2) [.val (.int .i64 v)] (jB l)=jB (l.set k ⟨x.state,x.need,v,x.til⟩):=jbc (enc:=jo) (size:=4) (fun _=>rfl) hx (j:=2) rfl (by simp)
theorem jeA (hx:l[k]?=some x) (v:Int):D.put [] (k*4+3) [.val (.int .i64 v)] (jB l)=jB (l.set k ⟨x.state,x.need,x.tri,v⟩):=jbc (enc:=jo) (size:=4) (fun _=>rfl) hx (j:=3) rfl (by simp)
theorem jsJ (hx:l[k]?=some x):((l.flatMap jo).drop (k*4)).take 4=jo x:=qw (enc:=jo) (size:=4) (fun _=>rfl) hx (j:=0) (n:=4) (by decide)
theorem jaa (hx:l[k]?=some x):((l.flatMap jo).drop (k*4)).take 1=[.val (.int .i64 x.state)]:=qw (enc:=jo) (size:=4) (fun _=>rfl) hx (j:=0) (n:=1) (by decide)
theorem zb (hx:l[k]?=some x):((l.flatMap jo).drop (k*4+0)).take 1=[.val (.int .i64 x.state)]:=qw (enc:=jo) (size:=4) (fun _=>rfl) hx (j:=0) (n:=1) (by decide)
theorem jrg (hx:l[k]?=some x):((l.flatMap jo).drop (k*4+1)).take 1=[.val (.int .i64 x.need)]:=qw (enc:=jo) (size:=4) (fun _=>rfl) hx (j:=1) (n:=1) (by decide)
theorem jlq (hx:l[k]?=some x):((l.flatMap jo).drop (k*4+2)).take 1=[.val (.int .i64 x.tri)]:=qw (enc:=jo) (size:=4) (fun _=>rfl) hx (j:=2) (n:=1) (by decide)
theorem jvn (hx:l[k]?=some x):((l.flatMap jo).drop (k*4+3)).take 1=[.val (.int .i64 x.til)]:=qw (enc:=jo) (size:=4) (fun _=>rfl) hx (j:=3) (n:=1) (by decide)
theorem jhR (hx:l[k]?=some x):k*4+4≤(l.flatMap jo).length:=qu (enc:=jo) (size:=4) (fun _=>rfl) hx (j:=0) (n:=4) (by decide)
theorem vl (hx:l[k]?=some x):k*4+1≤(l.flatMap jo).length:=qu (enc:=jo) (size:=4) (fun _=>rfl) hx (j:=0) (n:=1) (by decide)
theorem qz (hx:l[k]?=some x):k*4+0+1≤(l.flatMap jo).length:=qu (enc:=jo) (size:=4) (fun _=>rfl) hx (j:=0) (n:=1) (by decide)
theorem jqL (hx:l[k]?=some x):k*4+1+1≤(l.flatMap jo).length:=qu (enc:=jo) (size:=4) (fun _=>rfl) hx (j:=1) (n:=1) (by decide)
theorem jla (hx:l[k]?=some x):k*4+2+1≤(l.flatMap jo).length:=qu (enc:=jo) (size:=4) (fun _=>rfl) hx (j:=2) (n:=1) (by decide)
theorem jjt (hx:l[k]?=some x):k*4+3+1≤(l.flatMap jo).length:=qu (enc:=jo) (size:=4) (fun _=>rfl) hx (j:=3) (n:=1) (by decide)
end
section
variable {l:List En} {k:Nat} {x:En}
theorem jsK (hx:l[k]?=some x):((l.flatMap jk).drop (k*4)).take 4=jk x:=qw (enc:=jk) (size:=4) (fun _=>rfl) hx (j:=0) (n:=4) (by decide)
theorem joE (hx:l[k]?=some x):((l.flatMap jk).drop (k*4+1)).take 1=[.val (.int .i64 x.seq)]:=qw (enc:=jk) (size:=4) (fun _=>rfl) hx (j:=1) (n:=1) (by decide)
theorem jso (hx:l[k]?=some x):k*4+4≤(l.flatMap jk).length:=qu (enc:=jk) (size:=4) (fun _=>rfl) hx (j:=0) (n:=4) (by decide)
theorem jn2 (hx:l[k]?=some x):k*4+1+1≤(l.flatMap jk).length:=qu (enc:=jk) (size:=4) (fun _=>rfl) hx (j:=1) (n:=1) (by decide)
end
abbrev jaz (b ty:Nat) (r:Rn) (e1 e2:js):Ob:=.box b ty [.a (.v (.int .i64 r.id)),.a (.v (.int .i64 r.plan.prio)),.a (.v (.int .i64 r.plan.most)),.a (.v (.int .i64 r.plan.wait)),.a (.v (.int .i64 r.plan.tasks)),.own (jy r.plan.edges) e1,.a (.v (.int .i64 r.state)),.own (jB r.tasks) e2]
abbrev ZRn (b ty:Nat):Ob:=.box b ty [.a (.v (.int .i64 0)),.a (.v (.int .i64 0)),.a (.v (.int .i64 0)),.a (.v (.int .i64 0)),.a (.v (.int .i64 0)),.a (.v (.slice none 0 0)),.a (.v (.int .i64 0)),.a (.v (.slice none 0 0))]
theorem jhy (l:List Tk):D.sl 4 tTk (l.flatMap jo)=jB l:=rfl
def jdZ:C:=iS [iA 1 (.box 52 8 (.t 0)),iA 2 (.alloc 52 [.int .i64 0,.int .i64 0,.int .i64 0,.int .i64 0,.int .i64 0,.slice none 0 0,.int .i64 0,.slice none 0 0])] (iS [iA 3 (iF 1 1),iA 4 (iT 5 3),iA 5 (.call 168 [.t 4]),iA 6 (iF 1 1),iC (.st 5 [none,none,none,none,some (2,161)] (.t 6) (.t 5))] (iS [iA 7 (.bsl 46 4 0 [] []),iA 8 (iF 7 1),iA 9 (iL 8),iA 10 (.app 46 4 32 (.t 7) (.t 9)),iA 11 (iF 7 1),iC (.st 1 [some (4,46)] (.t 11) (.t 10))] (iS [iA 12 (iT 8 1),iC (.st 8 [none,none,none,none,none,some (2,161),none,some (4,46)] (.t 2) (.t 12))] .ret)))
theorem jgS:fnC Tryz.prog Tryz.f133=some (jdZ,[.cell 2 true 8],13):=by kernel_rfl
def jeg:C:=iS [iA 1 (.box 52 8 (.t 0)),iA 2 (.alloc 52 [.int .i64 0,.int .i64 0,.int .i64 0,.int .i64 0,.int .i64 0,.slice none 0 0,.int .i64 0,.slice none 0 0])] (iS [iA 3 (iF 1 1),iA 4 (iT 5 3),iA 5 (.call 163 [.t 4]),iA 6 (iF 1 1),iC (.st 5 [none,none,none,none,some (2,161)] (.t 6) (.t 5))] (iS [iA 7 (iF 7 1),iA 8 (iL 7),iA 9 (.app 46 4 32 (.c (.slice none 0 0)) (.t 8)),iA 10 (iF 7 1),iC (.st 1 [some (4,46)] (.t 10) (.t 9))] (iS [iA 11 (iT 8 1),iC (.st 8 [none,none,none,none,none,some (2,161),none,some (4,46)] (.t 2) (.t 11))] .ret)))
theorem jg9:fnC Tryz.prog Tryz.f127=some (jeg,[.cell 2 true 8],12):=by kernel_rfl
theorem jdM (r:Rn) (hb:r.plan.edges.length≤4000000) (ht:r.tasks.length≤4000000):kj Tryz.prog 127 [.agg (jd r)] (.agg (jd r)):=by
 refine jq Tryz.func127 jg9 (by simp) ?_
 unfold jeg;have h1:r.tasks.length≤maxLen:=by unfold maxLen;omega
 have h2:r.tasks.length*32≤140737488355328:=by omega
 simp only [go_sem,jd,ja];intro b b2;refine jc (jcs r.plan hb) (by simp only [go_sem,jd,ja]) fun η=>?_
 simp only [go_sem,jd,ja];simp only [go_sem,jd,ja,h1,h2,jhy]
theorem vr (r:Rn) (hb:r.plan.edges.length≤4000000) (ht:r.tasks.length≤4000000):kj Tryz.prog 133 [.agg (jd r)] (.agg (jd r)):=by
 refine jq Tryz.func133 jgS (by simp) ?_
 unfold jdZ;have h1:r.tasks.length≤maxLen:=by unfold maxLen;omega
 have h2:r.tasks.length*32≤140737488355328:=by omega
 simp only [go_sem,jd,ja];intro b b2;refine jc (jdJ r.plan hb) (by simp only [go_sem,jd,ja]) fun η=>?_
 simp only [go_sem,jd,ja];simp only [go_sem,jd,ja,h1,h2,jhy]
def jdY:C:=iS [iA 2 (.box 52 8 (.t 0)),iA 4 (iO false)] (iS [iA 5 (iT 8 2),iA 6 (.call 130 [.t 5]),iA 7 (iM 6),iB 8 7 true (iM 1),iB 9 7 true (iF 7 2),iB 10 7 true (iL 9),iB 11 7 true (iG 10),iB 12 7 true (iQ .sub 3 11 1),iB 13 7 true (.call 68 [.t 8,.c (.int .i64 0),.t 12]),iA 14 (.pick (.t 7) (.t 13) (.c (.bool false))),iA 15 (iM 14),iB 16 15 true (iF 7 2),iB 17 15 true (iL 16),iB 18 15 true (iM 1),iB 19 15 true (iI 4 17 18),iB 20 15 true (iF 0 19),iB 21 15 true (iL 20),iB 22 15 true (iQ .eql 3 21 3),iA 23 (.pick (.t 15) (.t 22) (.c (.bool false))),iA 4 (iM 23)] .ret)
theorem jgR:fnC Tryz.prog Tryz.f172=some (jdY,[.t 4],24):=by kernel_rfl
def jeb:C:=iS [iA 2 (.box 52 8 (.t 0)),iA 4 (.alloc 52 [.int .i64 0,.int .i64 0,.int .i64 0,.int .i64 0,.int .i64 0,.slice none 0 0,.int .i64 0,.slice none 0 0])] (iS [iA 9 (iT 8 2),iA 10 (.call 133 [.t 9]),iA 5 (.alloc 52 [.int .i64 0,.int .i64 0,.int .i64 0,.int .i64 0,.int .i64 0,.slice none 0 0,.int .i64 0,.slice none 0 0]),iC (.st 8 [none,none,none,none,none,some (2,161),none,some (4,46)] (.t 5) (.t 10))] (.seq (iS [iA 11 (iT 8 2),iA 12 (iM 1),iA 13 (.call 172 [.t 11,.t 12]),iA 14 (iU 13)] (iD 14 (iS [iA 15 (iT 8 5),iC (.st 8 [none,none,none,none,none,some (2,161),none,some (4,46)] (.t 4) (.t 15))] .ret) .skip)) (iS [iA 16 (iF 7 5),iA 17 (iL 16),iA 18 (iM 1),iA 19 (iI 4 17 18),iA 20 (iF 0 19),iC (.st 1 [none] (.t 20) (.c (.int .i64 4)))] (iS [iA 21 (iF 7 5),iA 22 (iL 21),iA 23 (iM 1),iA 24 (iI 4 22 23),iA 25 (iF 3 24),iC (.st 1 [none] (.t 25) (.c (.int .i64 0)))] (iS [iA 26 (iF 1 2),iA 27 (iT 5 26),iA 28 (iM 1),iA 29 (.call 201 [.t 27,.t 28]),iA 6 (iM 29)] (.seq (iS [iA 7 (iN 0)] (.blk 0 (.loop (.seq (iS [iA 30 (iM 7),iA 31 (iM 6),iA 32 (iG 31),iA 33 (iP .lss 3 30 32)] (iD 33 .skip (.exit 0))) (.seq (.blk 1 (.seq (.dreg (T.pure 0 (iA 36 (iF 7 5)) (T.pure 1 (iA 37 (iL 36)) (T.pure 2 (iA 38 (iM 6)) (T.pure 3 (iA 39 (iM 7)) (T.pure 4 (iA 40 (iI 1 38 39)) (T.pure 5 (iA 41 (iL 40)) (T.pure 6 (iA 42 (iI 4 37 41)) (T.pure 7 (iA 43 (iT 4 42)) (T.alt (iA 8 (.alloc 46 [.int .i64 0,.int .i64 0,.int .i64 0,.int .i64 0])) [7,6,5,4,3,2,1,0] (T.alt (iC (.st 4 [none,none,none,none] (.t 8) (.t 43))) [] T.done T.stop) T.stop)))))))))) (iS [iA 44 (iF 1 8),iA 45 (iL 44),iA 46 (iQ .sub 3 45 1),iA 47 (iF 1 8),iC (.st 1 [none] (.t 47) (.t 46))] (.seq (iS [iA 48 (iF 1 8),iA 49 (iL 48),iA 50 (iQ .eql 3 49 0)] (iD 50 (.reg [iA 51 (iF 0 8),iC (.st 1 [none] (.t 51) (.c (.int .i64 2)))]) .skip)) (.dreg (T.pure 0 (iA 52 (iF 7 5)) (T.pure 1 (iA 53 (iL 52)) (T.pure 2 (iA 54 (iM 6)) (T.pure 3 (iA 55 (iM 7)) (T.pure 4 (iA 56 (iI 1 54 55)) (T.pure 5 (iA 57 (iL 56)) (T.pure 6 (iA 58 (iT 4 8)) (T.pure 7 (iA 59 (iI 4 53 57)) (T.alt (iC (.st 4 [none,none,none,none] (.t 59) (.t 58))) [] T.done T.stop)))))))))))))) (.reg [iA 34 (iM 7),iA 35 (iQ .add 3 34 1),iA 7 (iM 35)])))))) (iS [iA 60 (iT 8 5),iA 61 (.call 179 [.t 60]),iA 62 (iF 6 5),iC (.st 1 [none] (.t 62) (.t 61))] (iS [iA 63 (iT 8 5),iC (.st 8 [none,none,none,none,none,some (2,161),none,some (4,46)] (.t 4) (.t 63))] .ret))))))))
theorem jg4:fnC Tryz.prog Tryz.f190=some (jeb,[.cell 4 true 8],64):=by kernel_rfl
def jjV:C:=iS [iA 7 (iM 0),iA 8 (iF 0 7),iA 9 (iF 7 8),iA 10 (iL 9),iA 11 (iM 1),iA 12 (iI 4 10 11),iA 13 (iF 0 12),iC (.st 1 [none] (.t 13) (.c (.int .i64 4)))] (iS [iA 14 (iM 0),iA 15 (iF 0 14),iA 16 (iF 7 15),iA 17 (iL 16),iA 18 (iM 1),iA 19 (iI 4 17 18),iA 20 (iF 3 19),iC (.st 1 [none] (.t 20) (.c (.int .i64 0)))] (.seq (iS [iA 21 (iM 0),iA 22 (iF 0 21),iA 23 (iF 1 22),iA 24 (iT 5 23),iA 25 (iM 1),iA 26 (.call 174 [.t 24,.t 25]),iA 27 (iG 26),iA 28 (iN 0)] (.blk 0 (.loop (iS [iA 29 (iP .lss 3 28 27)] (.seq (iD 29 .skip (.exit 0)) (.seq (.blk 1 (iS [iA 30 (iI 1 26 28),iA 31 (iL 30),iA 5 (iM 31)] (iS [iA 32 (iM 0),iA 33 (iF 0 32),iA 34 (iF 7 33),iA 35 (iL 34),iA 36 (iM 5),iA 37 (iI 4 35 36),iA 6 (iM 37)] (iS [iA 38 (iM 6),iA 39 (iF 0 38),iA 40 (iF 1 39),iA 41 (iL 40),iA 42 (iQ .sub 3 41 1),iA 43 (iF 0 38),iA 44 (iF 1 43),iC (.st 1 [none] (.t 44) (.t 42))] (iS [iA 45 (iM 6),iA 46 (iF 0 45),iA 47 (iF 1 46),iA 48 (iL 47),iA 49 (iQ .eql 3 48 0)] (iD 49 (.reg [iA 50 (iM 6),iA 51 (iF 0 50),iA 52 (iF 0 51),iC (.st 1 [none] (.t 52) (.c (.int .i64 2)))]) .skip)))))) (.reg [iA 53 (iQ .add 3 28 1),iA 28 (iM 53)]))))))) (.seq (.dreg (T.pure 0 (iA 54 (iM 0)) (T.pure 1 (iA 55 (iF 0 54)) (T.pure 2 (iA 56 (iT 8 55)) (T.pure 5 (iA 59 (iM 0)) (T.pure 6 (iA 60 (iF 0 59)) (T.pure 7 (iA 61 (iF 7 60)) (T.pure 8 (iA 62 (iL 61)) (T.pure 9 (iA 63 (iG 62)) (T.alt (iA 57 (.call 47 [.t 56,.c (.int .i64 4)])) [9,8,7,6,5] (T.pure 4 (iA 58 (iG 57)) (T.pure 10 (iA 64 (iP .eql 3 58 63)) T.done)) T.stop)))))))))) (iD 64 (.reg [iA 65 (iM 0),iA 66 (iF 0 65),iA 67 (iF 6 66),iC (.st 1 [none] (.t 67) (.c (.int .i64 2)))]) .skip))))
theorem jkx:fnC Tryz.prog Tryz.f124=some (jjV,[],68):=by kernel_rfl
theorem jdI (r:Rn) (t:Int):kj Tryz.prog 172 [.agg (jd r),.c (.val (.int .i64 t))] (.c (.val (.bool (vq r t)))):=by
 refine jq Tryz.func172 jgR (by simp) ?_
 unfold jdY;simp only [go_sem,jd,ja];intro b;refine jc (jcq r) (by simp only [go_sem,jd,ja]) fun η=>?_
 simp only [go_sem,jd,ja];cases h:kF r
 ·have hb:vq r t=false:=by simp [vq,h]
  simp only [go_sem,jd,ja,h,hb]
 have hP:=runOk_iff.1 h;obtain ⟨n,hn,hn1,h12,-⟩:=jcb hP.plan;have hlen:=hP.len;have hw:IntKind.i64.wrap ((r.tasks.length:Int)-1)=(r.tasks.length:Int)-1:=jf (by omega) (by omega)
 simp only [go_sem,jd,ja,h,hw];refine jc (jL t 0 (r.tasks.length-1)) (by simp only [go_sem,jd,ja]) fun η=>?_
 simp only [go_sem,jd,ja];cases h1:decide (0≤t∧t≤(r.tasks.length:Int)-1)
 ·have hb:vq r t=false:=by simp [vq,inB,h1]
  simp only [go_sem,jd,ja,h1,hb]
 have h1':0≤t∧t≤(r.tasks.length:Int)-1:=by simpa using h1
 have h0t:0≤t:=h1'.1;have htl:t.toNat<r.tasks.length:=by omega
 obtain ⟨x,hx⟩:=je htl;have hb:vq r t=(x.state==3):=by simp [vq,inB,h1',jlE hx,h]
 simp only [go_sem,jd,ja,h1,h0t,htl,jQ hx,jo,hb]
theorem jp6 {ts:List Tk} {v:Int} {y:Tk} (hy:ts[v.toNat]?=some y):jaB ts v=ts.set v.toNat ⟨if IntKind.i64.wrap (y.need-1)=0 then 2 else y.state,IntKind.i64.wrap (y.need-1),y.tri,y.til⟩:=by simp [jaB,hy]
theorem jle {l:List Int} {k:Nat} {v:Int} (hv:l[k]?=some v) (ts:List Tk):(l.take (k+1)).foldl jaB ts=jaB ((l.take k).foldl jaB ts) v:=by
 rw [List.take_add_one,hv];simp
theorem jkg (r:Rn) (t:Int) (hsz:r.plan.edges.length≤4000000) (ht:r.tasks.length≤4000000):kj Tryz.prog 190 [.agg (jd r),.c (.val (.int .i64 t))] (.agg (jd (qI r t))):=by
 refine jq Tryz.func190 jg4 (by simp) ?_
 unfold jeb;simp only [go_sem,jd,ja];intro b b4;refine jc (vr r hsz ht) (by simp only [go_sem,jd,ja]) fun ηc=>?_
 simp only [go_sem,jd,ja];intro b5;refine jc (jdI r t) (by simp only [go_sem,jd,ja]) fun η=>?_
 simp only [go_sem,jd,ja];cases h:vq r t
 ·simp only [go_sem,jd,ja,h,jrN h]
 obtain ⟨k,x,rfl,hx,hs,hP⟩:=jaJ h;obtain ⟨n,hn,hn1,h12,h30,hes,hnd,-⟩:=jcb hP.plan;have hlen:=hP.len;have hkl:=(List.getElem?_eq_some_iff.1 hx).1;have h0t:(k:Int)≥0:=by omega
 have hx2:(r.tasks.set k ⟨4,x.need,x.tri,x.til⟩)[k]?=some ⟨4,x.need,x.tri,x.til⟩:=List.getElem?_set_self hkl;have hkl2:k<(r.tasks.set k ⟨4,x.need,x.tri,x.til⟩).length:=by rw [List.length_set];exact hkl
 have hn1':Int.toNat (k:Int)=k:=Int.toNat_natCast k;simp only [go_sem,jd,ja,h,hkl,h0t,jaW hx,zA hx,vl hx,qz hx,hkl2,jjt hx2,jeA hx2,List.set_set];refine jc (jhO r.plan k n hn h12 h30) (by simp only [go_sem,jd,ja]) fun ηb=>?_
 simp only [go_sem,jd,ja];have hbl:=jrc hn h12 h30 k;generalize hts:r.tasks.set k ⟨4,x.need,x.tri,0⟩=ts0 at*;have htl:ts0.length=r.tasks.length:=by rw [←hts,List.length_set]
 have hdn:vI r.plan r.tasks k x=(jbu r.plan k).foldl jaB ts0:=by rw [←hts];rfl
 have hst0:∀z∈ts0,1≤z.state∧z.state≤6:=by rw [←hts];exact jhp (q:=fun s=>1≤s∧s≤6) (by simp) hP.st
 refine jn (fun i:Nat=>St.of [(4,Bx 400 b4),(5,Bx 500 b5),(6,Hd 6 (ηb 0)),(7,Ni i)] [(400,ZRn b4 tRn),(500,jaz b5 tRn ⟨r.id,r.plan,r.state,((jbu r.plan k).take i).foldl jaB ts0⟩ (ηc 5) (ηc 7)),(6,.loose (jh (jbu r.plan k)) (ηb 0))]) (fun i=>i≤(jbu r.plan k).length) (fun i=>(jbu r.plan k).length-i) 0 (by (try dsimp only);first|omega|(simp;done)|(and_intros<;>first|omega|simp)) (jg [some 400,some 500,some 2900] (by simp only [go_sem,jd,ja,List.take_zero,List.foldl_nil]<;>and_intros<;>first|rfl|assumption|trivial)) ?_
 rintro j hj;by_cases hlt:j<(jbu r.plan k).length
 ·have hlt':(j:Int)<(jbu r.plan k).length:=by omega
  obtain ⟨v,hv⟩:=je hlt;have hvb:=jpO hn (List.mem_of_getElem? hv);have hfl:=jfu ((jbu r.plan k).take j) ts0;have hft:=jle hv ts0;generalize ((jbu r.plan k).take j).foldl jaB ts0=ts at*;have hvl:v.toNat<ts.length:=by omega
  have hv0:=hvb.1;obtain ⟨y,hy⟩:=je hvl;have hw:IntKind.i64.wrap ((j:Int)+1)=((j+1:Nat):Int):=jf (by omega) (by omega)
  rw [jp6 hy] at hft;simp only [go_sem,jd,ja,hlt,hlt',jj hv,ji hlt,hvl,hv0,jsJ hy,jhR hy,jo];intro b8;generalize IntKind.i64.wrap (y.need-1)=nd at*;cases hz:nd==0
  ·have hz':¬nd=0:=by simpa using hz
   rw [if_neg hz'] at hft;simp only [go_sem,jd,ja,hlt,hlt',jj hv,ji hlt,hvl,hv0,jsJ hy,jhR hy,jo,hz,jbz y.state nd y.tri y.til hvl,hw];exact ⟨j+1,by (try dsimp only);first|omega|assumption|(and_intros<;>first|omega|assumption),(jg [some 400,some 500,some 6] (by simp only [go_sem,jd,ja,hft]<;>and_intros<;>first|rfl|assumption|trivial)),by (try dsimp only);omega⟩
  ·have hz':nd=0:=by simpa using hz
   rw [if_pos hz'] at hft;simp only [go_sem,jd,ja,hlt,hlt',jj hv,ji hlt,hvl,hv0,jsJ hy,jhR hy,jo,hz,jbz 2 nd y.tri y.til hvl,hw];exact ⟨j+1,by (try dsimp only);first|omega|assumption|(and_intros<;>first|omega|assumption),(jg [some 400,some 500,some 6] (by simp only [go_sem,jd,ja,hft]<;>and_intros<;>first|rfl|assumption|trivial)),by (try dsimp only);omega⟩
 have hlt':¬(j:Int)<(jbu r.plan k).length:=by omega
 rw [List.take_of_length_le (by omega)]
 have hds:=jli hP hx hs;have hR:qI r k=jhV r k x:=jey hx h;have hlD:(vI r.plan r.tasks k x).length=r.tasks.length:=jbk _ _ _ _;have hstD:∀z∈vI r.plan r.tasks k x,1≤z.state∧z.state≤6:=jmv (q:=fun s=>1≤s∧s≤6) (by decide) (by decide) hP.st
 rw [hR,←hdn];have hrr:jhV r k x=⟨r.id,r.plan,jgo (vI r.plan r.tasks k x),vI r.plan r.tasks k x⟩:=by rw [hds];rfl
 rw [hrr];generalize vI r.plan r.tasks k x=tD at*;simp only [go_sem,jd,ja,hlt'];refine jc (jcp ⟨r.id,r.plan,r.state,tD⟩ hstD (by simp only;omega)) (by simp only [go_sem,jd,ja]) fun η=>?_
 simp only [go_sem,jd,ja]
def jaw:C:=iS [iA 2 (.box 52 8 (.t 0)),iA 4 (.alloc 52 [.int .i64 0,.int .i64 0,.int .i64 0,.int .i64 0,.int .i64 0,.slice none 0 0,.int .i64 0,.slice none 0 0])] (.seq (iS [iA 5 (iN 0)] (.blk 0 (.loop (.seq (iS [iA 7 (iM 5),iA 8 (iF 7 2),iA 9 (iL 8),iA 10 (iG 9),iA 11 (iP .lss 3 7 10)] (iD 11 .skip (.exit 0))) (.seq (.blk 1 (iS [iA 14 (iF 7 2),iA 15 (iL 14),iA 16 (iM 5),iA 17 (iI 4 15 16),iA 18 (iT 4 17),iA 6 (.alloc 46 [.int .i64 0,.int .i64 0,.int .i64 0,.int .i64 0]),iC (.st 4 [none,none,none,none] (.t 6) (.t 18))] (.seq (iS [iA 19 (iF 0 6),iA 20 (iL 19),iA 21 (iQ .neq 3 20 4),iA 22 (iM 21),iB 23 22 true (iF 0 6),iB 24 22 true (iL 23),iB 25 22 true (iQ .neq 3 24 5),iA 26 (.pick (.t 22) (.t 25) (.c (.bool false)))] (iD 26 (iS [iA 27 (iF 0 6),iC (.st 1 [none] (.t 27) (.c (.int .i64 6)))] (.reg [iA 28 (iF 3 6),iC (.st 1 [none] (.t 28) (.c (.int .i64 0)))])) .skip)) (.reg [iA 29 (iF 7 2),iA 30 (iL 29),iA 31 (iM 5),iA 32 (iT 4 6),iA 33 (iI 4 30 31),iC (.st 4 [none,none,none,none] (.t 33) (.t 32))])))) (.reg [iA 12 (iM 5),iA 13 (iQ .add 3 12 1),iA 5 (iM 13)])))))) (iS [iA 34 (iM 1),iA 35 (iF 6 2),iC (.st 1 [none] (.t 35) (.t 34))] (iS [iA 36 (iT 8 2),iC (.st 8 [none,none,none,none,none,some (2,161),none,some (4,46)] (.t 4) (.t 36))] .ret)))
theorem jaR:fnC Tryz.prog Tryz.f173=some (jaw,[.cell 4 true 8],37):=by kernel_rfl
def jcQ:C:=iS [iA 2 (.box 52 8 (.t 0)),iA 4 (.alloc 52 [.int .i64 0,.int .i64 0,.int .i64 0,.int .i64 0,.int .i64 0,.slice none 0 0,.int .i64 0,.slice none 0 0])] (iS [iA 6 (iT 8 2),iA 7 (.call 133 [.t 6]),iA 5 (.alloc 52 [.int .i64 0,.int .i64 0,.int .i64 0,.int .i64 0,.int .i64 0,.slice none 0 0,.int .i64 0,.slice none 0 0]),iC (.st 8 [none,none,none,none,none,some (2,161),none,some (4,46)] (.t 5) (.t 7))] (.seq (iS [iA 8 (iT 8 2),iA 9 (iM 1),iA 10 (.call 172 [.t 8,.t 9]),iA 11 (iU 10)] (iD 11 (iS [iA 12 (iT 8 5),iC (.st 8 [none,none,none,none,none,some (2,161),none,some (4,46)] (.t 4) (.t 12))] .ret) .skip)) (iS [iA 13 (iF 7 5),iA 14 (iL 13),iA 15 (iM 1),iA 16 (iI 4 14 15),iA 17 (iF 3 16),iC (.st 1 [none] (.t 17) (.c (.int .i64 0)))] (iS [iA 18 (iF 7 5),iA 19 (iL 18),iA 20 (iM 1),iA 21 (iI 4 19 20),iA 22 (iF 0 21),iC (.st 1 [none] (.t 22) (.c (.int .i64 2)))] (.seq (.seq (.dreg (T.pure 0 (iA 23 (iF 7 5)) (T.pure 1 (iA 24 (iL 23)) (T.pure 2 (iA 25 (iM 1)) (T.pure 3 (iA 26 (iI 4 24 25)) (T.pure 4 (iA 27 (iF 2 26)) (T.pure 5 (iA 28 (iL 27)) (T.pure 6 (iA 29 (iF 1 2)) (T.pure 7 (iA 30 (iF 1 29)) (T.pure 8 (iA 31 (iL 30)) (T.pure 9 (iA 32 (iP .lss 3 28 31)) T.done))))))))))) (iD 32 (iS [iA 33 (iT 8 5),iC (.st 8 [none,none,none,none,none,some (2,161),none,some (4,46)] (.t 4) (.t 33))] .ret) .skip)) (iS [iA 34 (iF 7 5),iA 35 (iL 34),iA 36 (iM 1),iA 37 (iI 4 35 36),iA 38 (iF 0 37),iC (.st 1 [none] (.t 38) (.c (.int .i64 5)))] (iS [iA 39 (iT 8 5),iA 40 (.call 173 [.t 39,.c (.int .i64 3)]),iC (.st 8 [none,none,none,none,none,some (2,161),none,some (4,46)] (.t 4) (.t 40))] .ret)))))))
theorem jfD:fnC Tryz.prog Tryz.f120=some (jcQ,[.cell 4 true 8],41):=by kernel_rfl
def jcZ:C:=iS [iA 6 (iM 0),iA 7 (iF 0 6),iA 8 (iF 7 7),iA 9 (iL 8),iA 10 (iG 9),iA 11 (iN 0)] (.blk 0 (.loop (iS [iA 12 (iP .lss 3 11 10)] (.seq (iD 12 .skip (.exit 0)) (.seq (.blk 1 (iS [iA 13 (iM 11),iA 4 (iM 13)] (iS [iA 14 (iM 0),iA 15 (iF 0 14),iA 16 (iF 7 15),iA 17 (iL 16),iA 18 (iM 4),iA 19 (iI 4 17 18),iA 5 (iM 19)] (iS [iA 20 (iM 4),iA 21 (iM 1),iA 22 (iP .neq 3 20 21),iA 23 (iM 22),iB 24 23 true (iM 5),iB 25 23 true (iF 0 24),iB 26 23 true (iF 0 25),iB 27 23 true (iL 26),iB 28 23 true (iQ .neq 3 27 4),iA 29 (.pick (.t 23) (.t 28) (.c (.bool false)))] (iD 29 (iS [iA 30 (iM 5),iA 31 (iF 0 30),iA 32 (iF 0 31),iC (.st 1 [none] (.t 32) (.c (.int .i64 6)))] (.reg [iA 33 (iM 5),iA 34 (iF 0 33),iA 35 (iF 3 34),iC (.st 1 [none] (.t 35) (.c (.int .i64 0)))])) .skip))))) (.reg [iA 36 (iQ .add 3 11 1),iA 11 (iM 36)]))))))
theorem jcJ:fnC Tryz.prog Tryz.f171=some (jcZ,[],37):=by kernel_rfl
def jhF:C:=iS [iA 5 (iM 0),iA 6 (iF 0 5),iA 7 (iF 7 6),iA 8 (iL 7),iA 9 (iM 1),iA 10 (iI 4 8 9),iA 4 (iM 10)] (iS [iA 11 (iM 4),iA 12 (iF 0 11),iA 13 (iF 3 12),iC (.st 1 [none] (.t 13) (.c (.int .i64 0)))] (.seq (.seq (.dreg (T.pure 0 (iA 14 (iM 4)) (T.pure 1 (iA 15 (iF 0 14)) (T.pure 2 (iA 16 (iF 2 15)) (T.pure 3 (iA 17 (iL 16)) (T.pure 4 (iA 18 (iM 0)) (T.pure 5 (iA 19 (iF 0 18)) (T.pure 6 (iA 20 (iF 1 19)) (T.pure 7 (iA 21 (iF 1 20)) (T.pure 8 (iA 22 (iL 21)) (T.pure 9 (iA 23 (iP .lss 3 17 22)) T.done))))))))))) (iD 23 (iS [iA 24 (iM 4),iA 25 (iF 0 24),iA 26 (iF 0 25),iC (.st 1 [none] (.t 26) (.c (.int .i64 2)))] .ret) .skip)) (iS [iA 27 (iM 4),iA 28 (iF 0 27),iA 29 (iF 0 28),iC (.st 1 [none] (.t 29) (.c (.int .i64 5)))] (iS [iA 30 (iM 0),iA 31 (iM 1),iA 32 (.call 171 [.t 30,.t 31])] (.reg [iA 33 (iM 0),iA 34 (iF 0 33),iA 35 (iF 6 34),iC (.st 1 [none] (.t 35) (.c (.int .i64 3)))])))))
theorem jjN:fnC Tryz.prog Tryz.f118=some (jhF,[],36):=by kernel_rfl
theorem jap (r:Rn) (t:Int) (hsz:r.plan.edges.length≤4000000) (ht:r.tasks.length≤4000000):kj Tryz.prog 120 [.agg (jd r),.c (.val (.int .i64 t))] (.agg (jd (jG r t))):=by
 refine jq Tryz.func120 jfD (by simp) ?_
 unfold jcQ;simp only [go_sem,jd,ja];intro b b4;refine jc (vr r hsz ht) (by simp only [go_sem,jd,ja]) fun ηc=>?_
 simp only [go_sem,jd,ja];intro b5;refine jc (jdI r t) (by simp only [go_sem,jd,ja]) fun η=>?_
 simp only [go_sem,jd,ja];cases h:vq r t
 ·simp only [go_sem,jd,ja,h,jew h]
 obtain ⟨k,x,rfl,hx,hs,hP⟩:=jaJ h;obtain ⟨n,hn,hn1,h12,h30,hes,hnd,-⟩:=jcb hP.plan;have hlen:=hP.len;have hkl:=(List.getElem?_eq_some_iff.1 hx).1;have h0t:(k:Int)≥0:=by omega
 have hx2:(r.tasks.set k ⟨x.state,x.need,x.tri,0⟩)[k]?=some ⟨x.state,x.need,x.tri,0⟩:=List.getElem?_set_self hkl;have hx3:(r.tasks.set k ⟨2,x.need,x.tri,0⟩)[k]?=some ⟨2,x.need,x.tri,0⟩:=List.getElem?_set_self hkl;have hkl2:k<(r.tasks.set k ⟨x.state,x.need,x.tri,0⟩).length:=by rw [List.length_set];exact hkl
 have hkl3:k<(r.tasks.set k ⟨2,x.need,x.tri,0⟩).length:=by rw [List.length_set];exact hkl
 simp only [go_sem,jd,ja,Nat.add_zero,h,hkl,h0t,jeA hx,jjt hx,hkl2,vl hx2,qz hx2,jaW hx2,zA hx2,List.set_set,hkl3,jlq hx3,jla hx3,vl hx3,qz hx3];by_cases hm:x.tri<r.plan.most
 ·have hR:jG r k=⟨r.id,r.plan,r.state,r.tasks.set k ⟨2,x.need,x.tri,0⟩⟩:=by rw [qC hx h,zg,if_pos hm]
  simp only [go_sem,jd,ja,Nat.add_zero,hm,hR]
 have hR:jG r k=⟨r.id,r.plan,3,qU jA (r.tasks.set k ⟨5,x.need,x.tri,0⟩) r.tasks.length⟩:=by rw [qC hx h,zg,if_neg hm]
 rw [hR];simp only [go_sem,jd,ja,Nat.add_zero,hm,hkl3,h0t,jaW hx3,zA hx3,vl hx3,qz hx3,List.set_set];have htl:(r.tasks.set k ⟨5,x.need,x.tri,0⟩).length=r.tasks.length:=by rw [List.length_set]
 generalize r.tasks.set k ⟨5,x.need,x.tri,0⟩=ts0 at*;refine kV (qn (β:=7000000) Tryz.func173 jaR (by simp) ?_)
 unfold jaw;simp only [go_sem,jd,ja];intro b72 b74;refine jn (fun i:Nat=>St.of [(1,Ni 3),(2,Bx 2 b72),(4,Bx 4 b74),(5,Ni i)] [(400,ZRn b4 tRn),(2,jaz b72 tRn ⟨r.id,r.plan,r.state,qU jA ts0 i⟩ (ηc 5) (ηc 7)),(4,ZRn b74 tRn)]) (fun i=>i≤ts0.length) (fun i=>ts0.length-i) 0 (by (try dsimp only);first|omega|(simp;done)|(and_intros<;>first|omega|simp)) (jg [some 400,some 700000200,some 700000400] (by simp only [go_sem,jd,ja,jqD]<;>and_intros<;>first|rfl|assumption|trivial)) ?_
 rintro j hj;have hml:=vX (f:=jA) (ts:=ts0) (k:=j);by_cases hlt:j<ts0.length
 ·have hlt':(j:Int)<ts0.length:=by omega
  have h0j:(j:Int)≥0:=by omega
  obtain ⟨y,hy⟩:=je hlt;have hyk:=jfg (f:=jA) hy;have hset:=jff (f:=jA) hy;generalize qU jA ts0 j=M at*;have hlm:j<M.length:=by omega
  have hw:IntKind.i64.wrap ((j:Int)+1)=((j+1:Nat):Int):=jf (by omega) (by omega)
  simp only [go_sem,jd,ja,hml,hlt',h0j,hlt,jsJ hyk,jhR hyk,jo];intro b6;cases hc4:y.state !=4
  ·have hst4:y.state=4:=by simpa using hc4
   have hg0:jA j y=y:=by simp [jA,hst4]
   have hg:jA j y=⟨y.state,y.need,y.tri,y.til⟩:=hg0;rw [hg] at hset;simp only [go_sem,jd,ja,Nat.add_zero,hml,hlt',h0j,hlt,hc4,jbz y.state y.need y.tri y.til hlm,hset,jhR hyk,hw];exact ⟨j+1,by (try dsimp only);first|omega|assumption|(and_intros<;>first|omega|assumption),(jg [some 400,some 2,some 4] (by simp only [go_sem,jd,ja]<;>and_intros<;>first|rfl|assumption|trivial)),by (try dsimp only);omega⟩
  cases hc5:y.state !=5
  ·have hst5:y.state=5:=by simpa using hc5
   have hg0:jA j y=y:=by simp [jA,hst5]
   have hg:jA j y=⟨y.state,y.need,y.tri,y.til⟩:=hg0;rw [hg] at hset;simp only [go_sem,jd,ja,Nat.add_zero,hml,hlt',h0j,hlt,hc4,hc5,jbz y.state y.need y.tri y.til hlm,hset,jhR hyk,hw];exact ⟨j+1,by (try dsimp only);first|omega|assumption|(and_intros<;>first|omega|assumption),(jg [some 400,some 2,some 4] (by simp only [go_sem,jd,ja]<;>and_intros<;>first|rfl|assumption|trivial)),by (try dsimp only);omega⟩
  ·have hg:jA j y=⟨6,y.need,y.tri,0⟩:=by
    have h1:¬y.state=4:=by simpa using hc4
    have h2:¬y.state=5:=by simpa using hc5
    simp [jA,h1,h2]
   rw [hg] at hset;simp only [go_sem,jd,ja,Nat.add_zero,hml,hlt',h0j,hlt,hc4,hc5,jbz 6 y.need y.tri 0 hlm,hset,jhR hyk,hw];exact ⟨j+1,by (try dsimp only);first|omega|assumption|(and_intros<;>first|omega|assumption),(jg [some 400,some 2,some 4] (by simp only [go_sem,jd,ja]<;>and_intros<;>first|rfl|assumption|trivial)),by (try dsimp only);omega⟩
 have hlt':¬(j:Int)<ts0.length:=by omega
 obtain rfl:j=ts0.length:=by omega
 rw [←htl];generalize qU jA ts0 ts0.length=M at*;simp only [go_sem,jd,ja,Nat.add_zero,hml,hlt']
theorem jgt {y:Yd} (h:jJ y≤2000000):y.runs.length≤2000000:=by
 simp only [jJ,ja5] at h;omega
theorem jqa {y:Yd} (h:jJ y≤2000000):y.shelf.length≤2000000:=by
 simp only [jJ,jbv] at h;omega
theorem flat_le (l:List (List En)):l.flatten.length≤jbv l:=by
 induction l with
 |nil=>simp
 |cons x l ih=>
  simp only [List.flatten_cons,List.length_append,jbv,List.length_cons,vT,List.map_cons,List.sum_cons,zW] at ih⊢;omega
theorem jjy {l:List (List En)} {k:Nat} {x:List En} (h:l[k]?=some x):(l.take (k+1)).flatten=(l.take k).flatten++x:=by
 rw [List.take_add_one,h];simp
theorem jcB (l:List (List En)) (k:Nat):(l.take k).flatten.length≤l.flatten.length:=by
 have h:l.flatten=(l.take k).flatten++(l.drop k).flatten:=by rw [←List.flatten_append,List.take_append_drop]
 rw [h,List.length_append];omega
theorem zl {y:Yd} (h:jJ y≤2000000):y.shelf.flatten.length≤2000000:=by
 have:=flat_le y.shelf;simp only [jJ] at h;omega
theorem jpE {α:Type} {f:α→Bool} {l:List α} {k:Nat} {x:α} (h:l[k]?=some x):(l.take (k+1)).filter f=if f x=true then (l.take k).filter f++[x] else (l.take k).filter f:=by
 rw [List.take_add_one,h];cases hx:f x<;>simp [List.filter_append,hx]
def jaU:C:=iS [iA 2 (.mov (.c (.slice none 0 0)))] (iS [iA 3 (iM 0),iA 4 (.app 44 4 32 (.c (.slice none 0 0)) (.t 3)),iA 2 (iM 4)] .ret)
theorem jcL:fnC Tryz.prog Tryz.f126=some (jaU,[.t 2],5):=by kernel_rfl
def jc0:C:=iS [iA 1 (.box 27 4 (.t 0)),iA 2 (.alloc 27 [.int .i64 0,.int .i64 0,.slice none 0 0,.slice none 0 0])] (iS [iA 8 (iF 0 1),iA 9 (iL 8),iA 10 (iF 1 1),iA 11 (iL 10),iA 12 (.bld [.int .i64 0,.int .i64 0,.slice none 0 0,.slice none 0 0] [(0,1,.t 9),(1,1,.t 11)]),iA 3 (.alloc 27 [.int .i64 0,.int .i64 0,.slice none 0 0,.slice none 0 0]),iC (.st 4 [none,none,some (1,35),some (8,52)] (.t 3) (.t 12))] (.seq (iS [iA 13 (iF 2 1),iA 14 (iL 13),iA 15 (iG 14),iA 16 (iN 0)] (.blk 0 (.loop (iS [iA 17 (iP .lss 3 16 15)] (.seq (iD 17 .skip (.exit 0)) (.seq (.blk 1 (iS [iA 18 (iI 1 14 16),iA 19 (iL 18),iA 5 (iM 19)] (.dreg (T.pure 0 (iA 20 (iF 2 3)) (T.pure 1 (iA 21 (iL 20)) (T.pure 2 (iA 22 (iM 5)) (T.alt (iA 23 (.call 126 [.t 22])) [1,0] (T.alt (iA 24 (.bsl 35 1 1 [some (4,44)] [(0,1,.t 23)])) [1,0] (T.alt (iA 25 (.app 35 1 24 (.t 21) (.t 24))) [] (T.pure 6 (iA 26 (iF 2 3)) (T.alt (iC (.st 1 [some (1,35)] (.t 26) (.t 25))) [] T.done T.stop)) T.stop) T.stop) T.stop))))))) (.reg [iA 27 (iQ .add 3 16 1),iA 16 (iM 27)]))))))) (.seq (iS [iA 28 (iF 3 1),iA 29 (iL 28),iA 30 (iG 29),iA 31 (iN 0)] (.blk 2 (.loop (iS [iA 32 (iP .lss 3 31 30)] (.seq (iD 32 .skip (.exit 2)) (.seq (.blk 3 (iS [iA 33 (iI 8 29 31),iA 34 (iT 8 33),iA 7 (.alloc 52 [.int .i64 0,.int .i64 0,.int .i64 0,.int .i64 0,.int .i64 0,.slice none 0 0,.int .i64 0,.slice none 0 0]),iC (.st 8 [none,none,none,none,none,some (2,161),none,some (4,46)] (.t 7) (.t 34))] (.dreg (T.pure 0 (iA 35 (iF 3 3)) (T.pure 1 (iA 36 (iL 35)) (T.pure 2 (iA 37 (iT 8 7)) (T.alt (iA 38 (.call 127 [.t 37])) [1,0] (T.alt (iA 39 (.bsl 52 8 1 [none,none,none,none,none,some (2,161),none,some (4,46)] [(0,8,.t 38)])) [1,0] (T.alt (iA 40 (.app 52 8 96 (.t 36) (.t 39))) [] (T.pure 6 (iA 41 (iF 3 3)) (T.alt (iC (.st 1 [some (8,52)] (.t 41) (.t 40))) [] T.done T.stop)) T.stop) T.stop) T.stop))))))) (.reg [iA 42 (iQ .add 3 31 1),iA 31 (iM 42)]))))))) (iS [iA 43 (iT 4 3),iC (.st 4 [none,none,some (1,35),some (8,52)] (.t 2) (.t 43))] .ret))))
theorem jfL:fnC Tryz.prog Tryz.f61=some (jc0,[.cell 2 true 4],44):=by kernel_rfl
def jdW:C:=iS [iA 1 (.box 27 4 (.t 0)),iA 2 (.alloc 27 [.int .i64 0,.int .i64 0,.slice none 0 0,.slice none 0 0])] (iS [iA 6 (iF 0 1),iA 7 (iL 6),iA 8 (iF 1 1),iA 9 (iL 8),iA 10 (.bld [.int .i64 0,.int .i64 0,.slice none 0 0,.slice none 0 0] [(0,1,.t 7),(1,1,.t 9)]),iA 3 (.alloc 27 [.int .i64 0,.int .i64 0,.slice none 0 0,.slice none 0 0]),iC (.st 4 [none,none,some (1,35),some (8,52)] (.t 3) (.t 10))] (.seq (iS [iA 4 (iN 0)] (.blk 0 (.loop (.seq (iS [iA 11 (iM 4),iA 12 (iF 2 1),iA 13 (iL 12),iA 14 (iG 13),iA 15 (iP .lss 3 11 14)] (iD 15 .skip (.exit 0))) (.seq (.blk 1 (.dreg (T.pure 0 (iA 18 (iF 2 3)) (T.pure 1 (iA 19 (iL 18)) (T.pure 3 (iA 21 (iF 2 1)) (T.pure 4 (iA 22 (iL 21)) (T.pure 5 (iA 23 (iM 4)) (T.pure 6 (iA 24 (iI 1 22 23)) (T.pure 7 (iA 25 (iL 24)) (T.alt (iA 20 (.bsl 44 4 0 [] [])) [7,6,5,4,3,1,0] (T.alt (iA 26 (.app 44 4 32 (.t 20) (.t 25))) [1,0] (T.alt (iA 27 (.bsl 35 1 1 [some (4,44)] [(0,1,.t 26)])) [1,0] (T.alt (iA 28 (.app 35 1 24 (.t 19) (.t 27))) [] (T.pure 11 (iA 29 (iF 2 3)) (T.alt (iC (.st 1 [some (1,35)] (.t 29) (.t 28))) [] T.done T.stop)) T.stop) T.stop) T.stop) T.stop)))))))))) (.reg [iA 16 (iM 4),iA 17 (iQ .add 3 16 1),iA 4 (iM 17)])))))) (.seq (iS [iA 5 (iN 0)] (.blk 2 (.loop (.seq (iS [iA 30 (iM 5),iA 31 (iF 3 1),iA 32 (iL 31),iA 33 (iG 32),iA 34 (iP .lss 3 30 33)] (iD 34 .skip (.exit 2))) (.seq (.blk 3 (.dreg (T.pure 0 (iA 37 (iF 3 3)) (T.pure 1 (iA 38 (iL 37)) (T.pure 2 (iA 39 (iF 3 1)) (T.pure 3 (iA 40 (iL 39)) (T.pure 4 (iA 41 (iM 5)) (T.pure 5 (iA 42 (iI 8 40 41)) (T.pure 6 (iA 43 (iT 8 42)) (T.alt (iA 44 (.call 133 [.t 43])) [1,0] (T.alt (iA 45 (.bsl 52 8 1 [none,none,none,none,none,some (2,161),none,some (4,46)] [(0,8,.t 44)])) [1,0] (T.alt (iA 46 (.app 52 8 96 (.t 38) (.t 45))) [] (T.pure 10 (iA 47 (iF 3 3)) (T.alt (iC (.st 1 [some (8,52)] (.t 47) (.t 46))) [] T.done T.stop)) T.stop) T.stop) T.stop)))))))))) (.reg [iA 35 (iM 5),iA 36 (iQ .add 3 35 1),iA 5 (iM 36)])))))) (iS [iA 48 (iT 4 3),iC (.st 4 [none,none,some (1,35),some (8,52)] (.t 2) (.t 48))] .ret))))
theorem jgP:fnC Tryz.prog Tryz.f67=some (jdW,[.cell 2 true 4],49):=by kernel_rfl
abbrev kq (b ty:Nat) (now seq:Int) (sh:List (List En)) (e1:js) (rn:List Rn) (e2:js):Ob:=.box b ty [.a (.v (.int .i64 now)),.a (.v (.int .i64 seq)),.own (ku sh) e1,.own (jK rn) e2]
abbrev ZYd (b ty:Nat):Ob:=.box b ty [.a (.v (.int .i64 0)),.a (.v (.int .i64 0)),.a (.v (.slice none 0 0)),.a (.v (.slice none 0 0))]
theorem kp (l:List En):D.sl 4 tEn (l.flatMap jk)=jm l:=rfl
theorem jtq (l:List (List En)) (x:List En):D.sl 1 jrs (l.flatMap (fun es=>[jm es])++[jm x])=ku (l++[x]):=by simp [ku]
theorem jqg (l:List Rn) (r:Rn):D.sl 8 tRn (l.flatMap jd++[.val (.int .i64 r.id),.val (.int .i64 r.plan.prio),.val (.int .i64 r.plan.most),.val (.int .i64 r.plan.wait),.val (.int .i64 r.plan.tasks),jy r.plan.edges,.val (.int .i64 r.state),jB r.tasks])=jK (l++[r]):=by simp [jK,jd,ja]
theorem ja9 {y:Yd} (ht:jJ y≤2000000) {l:List En} (h:l∈y.shelf):l.length≤4000000:=by
 obtain ⟨k,hk,rfl⟩:=List.getElem_of_mem h;have h1:=List.getElem?_eq_getElem hk;have h2:=vS (tot:=zW) h1;have h3:=jal zW y.shelf (k+1);simp only [jJ,jbv,zW] at*;omega
theorem jco {y:Yd} (ht:jJ y≤2000000) {r:Rn} (h:r∈y.runs):r.plan.edges.length≤4000000∧r.tasks.length≤4000000:=by
 obtain ⟨k,hk,rfl⟩:=List.getElem_of_mem h;have h1:=List.getElem?_eq_getElem hk;have h2:=vS (tot:=qO) h1;have h3:=jal qO y.runs (k+1);simp only [jJ,ja5,qO,jhL] at*;omega
theorem ki (l:List En) (hl:l.length≤4000000):kj Tryz.prog 126 [.c (jm l)] (.c (jm l)):=by
 refine jq Tryz.func126 jcL (by simp) ?_
 unfold jaU;have h1:l.length≤maxLen:=by unfold maxLen;omega
 have h2:l.length*32≤140737488355328:=by omega
 simp only [go_sem,h1,h2,kp]
theorem kn (y:Yd) (ht:jJ y≤2000000):kj Tryz.prog 61 [.agg (jb y)] (.agg (jb y)):=by
 refine jq Tryz.func61 jfL (by simp) ?_
 unfold jc0;have hsl:y.shelf.length≤2000000:=by simp only [jJ,jbv] at ht;omega
 have hrl:=jgt ht;simp only [go_sem,jb];intro b1 b2 b3;refine jn (fun i:Nat×js=>St.of [(1,Bx 100 b1),(2,Bx 200 b2),(3,Bx 300 b3),(14,Ro (ku y.shelf)),(15,Ni y.shelf.length),(16,Ni i.1)] [(100,Bi b1 _ (jb y)),(200,ZYd b2 _),(300,.box b3 _ [.a (.v (.int .i64 y.now)),.a (.v (.int .i64 y.seq)),.own (ku (y.shelf.take i.1)) i.2,.a (.v (.slice none 0 0))])]) (fun i=>i.1≤y.shelf.length) (fun i=>y.shelf.length-i.1) (0,jcc) (by (try dsimp only);first|omega|(simp;done)|(and_intros<;>first|omega|simp)) (jg [some 100,some 200,some 300] (by simp only [go_sem,jb,List.take_zero]<;>and_intros<;>first|rfl|assumption|trivial)) ?_
 rintro ⟨k,η⟩ hk;dsimp only at hk;by_cases hlt:k<y.shelf.length
 ·have hlt':(k:Int)<y.shelf.length:=by omega
  obtain ⟨l,hl⟩:=je hlt;have hw:IntKind.i64.wrap ((k:Int)+1)=((k+1:Nat):Int):=jf (by omega) (by omega)
  have hm1:k+1≤maxLen:=by unfold maxLen;omega
  have hm2:(k+1)*24≤140737488355328:=by omega
  have htk:(y.shelf.take k).length=k:=by rw [List.length_take];omega
  have hts:y.shelf.take (k+1)=y.shelf.take k++[l]:=by rw [List.take_add_one,hl];rfl
  generalize y.shelf.take k=M at*;simp only [go_sem,jb,hlt,hlt',kO hl];refine jc (ki l (ja9 ht (List.mem_of_getElem? hl))) (by simp only [go_sem,jb]) fun η=>?_
  simp only [go_sem,jb];simp only [go_sem,htk,hm1,hm2,jtq];intro η7 η8;simp only [go_sem,hw];exact ⟨(k+1,η8),by (try dsimp only);first|omega|assumption|(and_intros<;>first|omega|assumption),(jg [some 100,some 200,some 300] (by simp only [go_sem,jb,hts]<;>and_intros<;>first|rfl|assumption|trivial)),by (try dsimp only);omega⟩
 have hlt':¬(k:Int)<y.shelf.length:=by omega
 rw [List.take_of_length_le (by omega)]
 simp only [go_sem,jb,hlt'];refine jn (fun i:Nat×js=>St.of [(1,Bx 100 b1),(2,Bx 200 b2),(3,Bx 300 b3),(29,Ro (jK y.runs)),(30,Ni y.runs.length),(31,Ni i.1)] [(100,Bi b1 _ (jb y)),(200,ZYd b2 _),(300,kq b3 _ y.now y.seq y.shelf η (y.runs.take i.1) i.2)]) (fun i=>i.1≤y.runs.length) (fun i=>y.runs.length-i.1) (0,jcc) (by (try dsimp only);first|omega|(simp;done)|(and_intros<;>first|omega|simp)) (jg [some 100,some 200,some 300] (by simp only [go_sem,jb,List.take_zero]<;>and_intros<;>first|rfl|assumption|trivial)) ?_
 rintro ⟨j,η2⟩ hj;dsimp only at hj;by_cases hjl:j<y.runs.length
 ·have hjl':(j:Int)<y.runs.length:=by omega
  obtain ⟨r,hr⟩:=je hjl;have hw:IntKind.i64.wrap ((j:Int)+1)=((j+1:Nat):Int):=jf (by omega) (by omega)
  have hm1:j+1≤maxLen:=by unfold maxLen;omega
  have hm2:(j+1)*96≤140737488355328:=by omega
  have hjk:(y.runs.take j).length=j:=by rw [List.length_take];omega
  have hjs:y.runs.take (j+1)=y.runs.take j++[r]:=by rw [List.take_add_one,hr];rfl
  have hrb:=jco ht (List.mem_of_getElem? hr);generalize y.runs.take j=M at*;simp only [go_sem,jb,hjl,hjl',jV hr,jd,ja];intro b7;refine jc (jdM r hrb.1 hrb.2) (by simp only [go_sem,jb,jd,ja]) fun η=>?_
  simp only [go_sem,jb,jd,ja];simp only [go_sem,hjk,hm1,hm2,jqg];intro η7 η8;simp only [go_sem,hw];exact ⟨(j+1,η8),by (try dsimp only);first|omega|assumption|(and_intros<;>first|omega|assumption),(jg [some 100,some 200,some 300] (by simp only [go_sem,jb,hjs]<;>and_intros<;>first|rfl|assumption|trivial)),by (try dsimp only);omega⟩
 have hjl':¬(j:Int)<y.runs.length:=by omega
 rw [List.take_of_length_le (by omega)]
 simp only [go_sem,jb,hjl']
theorem kx (y:Yd) (ht:jJ y≤2000000):kj Tryz.prog 67 [.agg (jb y)] (.agg (jb y)):=by
 refine jq Tryz.func67 jgP (by simp) ?_
 unfold jdW;have hsl:y.shelf.length≤2000000:=by simp only [jJ,jbv] at ht;omega
 have hrl:=jgt ht;simp only [go_sem,jb];intro b1 b2 b3;refine jn (fun i:Nat×js=>St.of [(1,Bx 100 b1),(2,Bx 200 b2),(3,Bx 300 b3),(4,Ni i.1)] [(100,Bi b1 _ (jb y)),(200,ZYd b2 _),(300,.box b3 _ [.a (.v (.int .i64 y.now)),.a (.v (.int .i64 y.seq)),.own (ku (y.shelf.take i.1)) i.2,.a (.v (.slice none 0 0))])]) (fun i=>i.1≤y.shelf.length) (fun i=>y.shelf.length-i.1) (0,jcc) (by (try dsimp only);first|omega|(simp;done)|(and_intros<;>first|omega|simp)) (jg [some 100,some 200,some 300] (by simp only [go_sem,jb,List.take_zero]<;>and_intros<;>first|rfl|assumption|trivial)) ?_
 rintro ⟨k,η⟩ hk;dsimp only at hk;by_cases hlt:k<y.shelf.length
 ·have hlt':(k:Int)<y.shelf.length:=by omega
  have h0k:(k:Int)≥0:=by omega
  obtain ⟨l,hl⟩:=je hlt;have hll:=ja9 ht (List.mem_of_getElem? hl);have hw:IntKind.i64.wrap ((k:Int)+1)=((k+1:Nat):Int):=jf (by omega) (by omega)
  have hm1:k+1≤maxLen:=by unfold maxLen;omega
  have hm2:(k+1)*24≤140737488355328:=by omega
  have hm3:l.length≤maxLen:=by unfold maxLen;omega
  have hm4:l.length*32≤140737488355328:=by omega
  have htk:(y.shelf.take k).length=k:=by rw [List.length_take];omega
  have hts:y.shelf.take (k+1)=y.shelf.take k++[l]:=by rw [List.take_add_one,hl];rfl
  generalize y.shelf.take k=M at*;simp only [go_sem,jb,hlt,hlt',h0k,kO hl,hm3,hm4,kp];intro η5 η6;simp only [go_sem,htk,hm1,hm2,hm3,hm4,kp,jtq];intro η7 η8;simp only [go_sem,hw];exact ⟨(k+1,η8),by (try dsimp only);first|omega|assumption|(and_intros<;>first|omega|assumption),(jg [some 100,some 200,some 300] (by simp only [go_sem,jb,hts]<;>and_intros<;>first|rfl|assumption|trivial)),by (try dsimp only);omega⟩
 have hlt':¬(k:Int)<y.shelf.length:=by omega
 rw [List.take_of_length_le (by omega)]
 simp only [go_sem,jb,hlt'];refine jn (fun i:Nat×js=>St.of [(1,Bx 100 b1),(2,Bx 200 b2),(3,Bx 300 b3),(5,Ni i.1)] [(100,Bi b1 _ (jb y)),(200,ZYd b2 _),(300,kq b3 _ y.now y.seq y.shelf η (y.runs.take i.1) i.2)]) (fun i=>i.1≤y.runs.length) (fun i=>y.runs.length-i.1) (0,jcc) (by (try dsimp only);first|omega|(simp;done)|(and_intros<;>first|omega|simp)) (jg [some 100,some 200,some 300] (by simp only [go_sem,jb,List.take_zero]<;>and_intros<;>first|rfl|assumption|trivial)) ?_
 rintro ⟨j,η2⟩ hj;dsimp only at hj;by_cases hjl:j<y.runs.length
 ·have hjl':(j:Int)<y.runs.length:=by omega
  have h0j:(j:Int)≥0:=by omega
  obtain ⟨r,hr⟩:=je hjl;have hw:IntKind.i64.wrap ((j:Int)+1)=((j+1:Nat):Int):=jf (by omega) (by omega)
  have hm1:j+1≤maxLen:=by unfold maxLen;omega
  have hm2:(j+1)*96≤140737488355328:=by omega
  have hjk:(y.runs.take j).length=j:=by rw [List.length_take];omega
  have hjs:y.runs.take (j+1)=y.runs.take j++[r]:=by rw [List.take_add_one,hr];rfl
  have hrb:=jco ht (List.mem_of_getElem? hr);generalize y.runs.take j=M at*;simp only [go_sem,jb,hjl,hjl',h0j,jV hr,jd,ja];refine jc (vr r hrb.1 hrb.2) (by simp only [go_sem,jb,jd,ja]) fun η=>?_
  simp only [go_sem,jb,jd,ja];simp only [go_sem,hjk,hm1,hm2,jqg];intro η7 η8;simp only [go_sem,hw];exact ⟨(j+1,η8),by (try dsimp only);first|omega|assumption|(and_intros<;>first|omega|assumption),(jg [some 100,some 200,some 300] (by simp only [go_sem,jb,hjs]<;>and_intros<;>first|rfl|assumption|trivial)),by (try dsimp only);omega⟩
 have hjl':¬(j:Int)<y.runs.length:=by omega
 rw [List.take_of_length_le (by omega)]
 simp only [go_sem,jb,hjl']
open Go.RowKit Go.Sort Go.BigFrame
open Go.RowKit Go.Sort Go.BigFrame
open Go.RowKit Go.Sort Go.BigFrame
open Go.RowKit Go.Sort Go.BigFrame
theorem ci {P:Program} {f:FuncId} {args:Array Value} {w:World} {b b':Int} (h:Calls P f args w fun e w'=>e=.returned (.int .i64 b)∧Below w.heap.size w w') (hb:b=b'):Calls P f args w fun e w'=>e=.returned (.int .i64 b')∧Below w.heap.size w w':=by subst hb;exact h
section
variable {w w':World} {own:Bool} {d:D} {v:Value} {S:List Nat}
theorem upA (h:Rep w own d v S) (o:Obj):Rep (w.alloc o) own d v S:=Rep.keep d h fun b hb=>Below.heap_alloc w o b (Rep.lt d h b hb)
theorem up (h:Rep w own d v S) (hb:Below w.heap.size w w'):Rep w' own d v S:=h.below hb (Nat.le_refl _)
theorem upB {w0:World} (h:Below w0.heap.size w0 w) (o:Obj):Below w0.heap.size w0 (w.alloc o):=h.alloc h.size o
end
open Go.RowKit Go.Sort Go.BigFrame
theorem cto {w w1:World} {b o:Nat} {v:Value} (hB:Below w.heap.size w w1) (h:w.cell? ⟨b,o,none⟩=some v):w1.cell? ⟨b,o,none⟩=some v:=
 (hB.cell (p:=⟨b,o,none⟩) (World.block_lt_of_cell? w _ h)).trans h
@[go_sem high] theorem equalEd (w:World) (x y:Ed):(Op.equalIn 10000 161 (.agg #[.int .i64 x.src,.int .i64 x.dst]) (.agg #[.int .i64 y.src,.int .i64 y.dst])).run Tryz.prog w=.ok (decide (x=y)) w:=by
  have u3:=Tryz.underlying3;have a3:=Tryz.isAgg3;have z3:=Tryz.sizeOf3;rw [show (10000:Nat)=9999+1 from rfl,run_equalIn_agg w 9999 161 _ _ (by kernel_rfl) (by kernel_rfl)]
  simp only [Program.fieldsOf,Tryz.underlying161];obtain ⟨xsrc,xdst⟩:=x;obtain ⟨ysrc,ydst⟩:=y
  go_simp
  by_cases h0:xsrc=ysrc<;>by_cases h1:xdst=ydst<;>simp [h0,h1]
theorem jsq (l m:List Ed) (a b:Value) (S S':List Nat) (w:World) (own own':Bool) (ha:Rep w own (jy l) a S) (hb:Rep w own' (jy m) b S'):
 Calls Tryz.prog 185 #[a,b] w fun e w'=>e=.returned (.bool (decide (l=m)))∧Below w.heap.size w w':=by
 obtain ⟨A,c,rfl,hc1,hc2,hca⟩:=Rep.open_ (size:=2) (enc:=jO) (fun _=>rfl) (by decide) ha
 obtain ⟨B,d,rfl,hd1,hd2,hdb⟩:=Rep.open_ (size:=2) (enc:=jO) (fun _=>rfl) (by decide) hb
 unfold maxLen at hc2 hd2;have hl1:l.length≤9223372036854775807:=by omega
 have hl2:m.length≤9223372036854775807:=by omega
 clear ha hb;by_cases hlen:l.length=m.length
 ·have HL:=Lib.hid hlen
  have hne:((l.length:Int) !=(m.length:Int))=false:=by rw [hlen];simp
  clear hlen
  go_enter Tryz.func185,Tryz.ntmps185
  go_wp2
  go_loopw [5,13] (fun _ i wr=>∃k:Nat,k≤l.length∧i=.int .i64 k∧l.take k=m.take k∧Below w.heap.size w wr) (fun _ i _=>l.length-(intOf i).toNat)
  case atStart=>exact ⟨0,by omega,rfl,rfl,Below.refl _ _⟩
  case round=>
   obtain ⟨k,hk,rfl,heq,hbel⟩:=hrel;have HQ:=Lib.hid heq;clear heq;by_cases hlt:k<l.length
   ·have hlt':k<m.length:=by have:=HL.out;omega
    obtain ⟨x,hx⟩:=je hlt;obtain ⟨y,hy⟩:=je hlt';obtain ⟨b1,o1,vk1,T1,rfl,-,hr1,-,-,hb1,hx1⟩:=hca k x hx;obtain ⟨b2,o2,vk2,T2,rfl,-,hr2,-,-,hb2,hx2⟩:=hdb k y hy;clear hca hdb;obtain ⟨rfl,rfl⟩:=jqZ hr1;obtain ⟨rfl,rfl⟩:=jqZ hr2;have HX:=Lib.hid hx;have HY:=Lib.hid hy;clear hx hy;have p0:=cell_regrown (cto (b:=b1) (o:=o1+k*2) hbel (hx1 0 _ rfl));have q0:=cell_regrown (cto (b:=b2) (o:=o2+k*2) hbel (hx2 0 _ rfl));have p1:=cell_regrown (cto (b:=b1) (o:=o1+k*2+1) hbel (hx1 1 _ rfl));have q1:=cell_regrown (cto (b:=b2) (o:=o2+k*2+1) hbel (hx2 1 _ rfl));clear hx1 hx2 hr1 hr2;by_cases hxy:x=y
    ·have HXY:=Lib.hid hxy
     have hd:decide (x=y)=true:=decide_eq_true hxy;clear hxy
     go_wp2
     refine wp_region_quiet_below (by kernel_rfl) (by kernel_rfl) ?_
     repeat (go_big_quiet_step (fail))
     refine wpQuiet_nil ?_;intro _ hw';obtain ⟨⟨dq,osq⟩,hw''⟩:=hw';subst hw'';have hbel2:=hbel.trans ((below_regrown wr dq osq).mono hbel.size)
     go_wp2
     go_roundw
     case rel=>exact ⟨k+1,by omega,by go_num,jwR HX.out (HXY.out▸HY.out) HQ.out,hbel2⟩
     case measure=>simp [intOf];omega
    ·have HXY:=Lib.hid hxy
     have hd:decide (x=y)=false:=decide_eq_false hxy;clear hxy
     go_wp2
     refine wp_region_quiet_below (by kernel_rfl) (by kernel_rfl) ?_
     repeat (go_big_quiet_step (fail))
     refine wpQuiet_nil ?_;intro _ hw';obtain ⟨⟨dq,osq⟩,hw''⟩:=hw';subst hw'';have hbel2:=hbel.trans ((below_regrown wr dq osq).mono hbel.size)
     go_wp2
     go_ret
     exact ⟨ka (decide_eq_false (jBE HX.out HY.out HXY.out)).symm,hbel2⟩
   ·clear hca hdb
    go_wp2
    go_ret
    exact ⟨ka (decide_eq_true (jwS (k:=k) (by omega) (by have:=HL.out;omega) HQ.out)).symm,hbel⟩
 ·have hne:((l.length:Int) !=(m.length:Int))=true:=bne_iff_ne.2 (by omega)
  clear hca hdb
  go_enter Tryz.func185,Tryz.ntmps185
  go_wp2
  go_ret
  exact ⟨ka (decide_eq_false (fun e=>hlen (by rw [e]))).symm,Below.refl _ _⟩
theorem jpw (x y:Pl) (a b:Value) (S S':List Nat) (w:World) (own own':Bool) (ha:AggRep w own (ja x) a S) (hb:AggRep w own' (ja y) b S'):
 Calls Tryz.prog 146 #[a,b] w fun e w'=>e=.returned (.bool (decide (x=y)))∧Below w.heap.size w w':=by
 obtain ⟨_,rfl,ha⟩:=ha;obtain ⟨_,rfl,hb⟩:=hb;obtain ⟨av0,rfl,ah0⟩:=jdd ha;obtain ⟨bv0,rfl,bh0⟩:=jdd hb;clear ha hb;obtain ⟨xprio,xmost,xwait,xtasks,xedges⟩:=x;obtain ⟨yprio,ymost,ywait,ytasks,yedges⟩:=y
 go_enter Tryz.func146,Tryz.ntmps146
 go_wp2_with (first
  |(go_at_call 185;refine (jsq xedges yedges _ _ _ _ _ _ _ (ah0.below (by repeat (first|exact Below.refl _ _|assumption|refine Below.alloc ?_ (by simp;try omega) _|refine kr ?_ (by assumption))) (Nat.le_refl _)) (bh0.below (by repeat (first|exact Below.refl _ _|assumption|refine Below.alloc ?_ (by simp;try omega) _|refine kr ?_ (by assumption))) (Nat.le_refl _))).mono ?_;rintro e w1 ⟨rfl,hb1⟩;obtain ⟨hc1,hf1⟩:=zU hb1))
 all_goals go_ret
 all_goals refine ⟨?_,(by repeat (first|exact Below.refl _ _|assumption|refine Below.alloc ?_ (by simp;try omega) _|refine kr ?_ (by assumption)))⟩
 all_goals (simp_all<;>rfl)
theorem jpx (x y:Dd) (a b:Value) (S S':List Nat) (w:World) (own own':Bool) (ha:AggRep w own (jp x) a S) (hb:AggRep w own' (jp y) b S'):
 Calls Tryz.prog 92 #[a,b] w fun e w'=>e=.returned (.bool (decide (x=y)))∧Below w.heap.size w w':=by
 obtain ⟨_,rfl,ha⟩:=ha;obtain ⟨_,rfl,hb⟩:=hb;obtain ⟨av0,rfl,ah0⟩:=jq2 ha;obtain ⟨bv0,rfl,bh0⟩:=jq2 hb;clear ha hb;obtain ⟨xkind,xrun,xplan,xtask,xtri,xworker,xdraw⟩:=x;obtain ⟨ykind,yrun,yplan,ytask,ytri,yworker,ydraw⟩:=y
 go_enter Tryz.func92,Tryz.ntmps92
 go_wp2_with (first
  |(go_at_call 146;refine (jpw xplan yplan _ _ _ _ _ own own' ⟨_,rfl,jAV (ah0.below (by repeat (first|exact Below.refl _ _|assumption|refine Below.alloc ?_ (by simp;try omega) _|refine kr ?_ (by assumption))) (Nat.le_refl _))⟩ ⟨_,rfl,jAV (bh0.below (by repeat (first|exact Below.refl _ _|assumption|refine Below.alloc ?_ (by simp;try omega) _|refine kr ?_ (by assumption))) (Nat.le_refl _))⟩).mono ?_;rintro e w1 ⟨rfl,hb1⟩;obtain ⟨hc1,hf1⟩:=zU hb1))
 all_goals go_ret
 all_goals refine ⟨?_,(by repeat (first|exact Below.refl _ _|assumption|refine Below.alloc ?_ (by simp;try omega) _|refine kr ?_ (by assumption)))⟩
 all_goals (simp_all<;>rfl)
abbrev tIs:TypeId:=29
def qp (l:List (List Int)):D:=.sl 1 tIs (l.flatMap fun es=>[jh es])
section
variable {P:Program} {β:Nat} {s:St}
theorem jse (l:List (List Int)):(qp l).len=l.length:=jaO (enc:=fun es=>[jh es]) (fun _=>rfl) (by decide) _ _
theorem jpK {l:List (List Int)} {k:Nat} {x:List Int} (h:l[k]?=some x):(qp l).elem k=[jh x]:=zJ (enc:=fun es=>[jh es]) (fun _=>rfl) h
theorem jti (l:List (List Int)):(qp l).isSl=true:=(rfl)
theorem js7 (l:List (List Int)):(qp l).size=1:=(rfl)
theorem jr6 (l:List (List Int)) (g:Nat) (η:js):(qp l).obj g η=[(g,.loose (qp l) η)]:=(rfl)
theorem jr0 (l:List (List Int)) (g c:Nat) (p:List Nat) (η:js):(qp l).toOwn g c p η=.h g c p (η p):=(rfl)
theorem joo (l:List (List Int)):(qp l).cells=l.flatMap (fun es=>[jh es]):=(rfl)
theorem jrC (l:List (List Int)) (e:Nat) (k:List D→Prop):slK (qp l) e 1 k=(tIs=e∧k (l.flatMap (fun es=>[jh es]))):=by rw [show qp l=.sl 1 tIs (l.flatMap (fun es=>[jh es])) from rfl,jvT];simp
theorem jsA (l:List (List Int)):(l.flatMap (fun es=>[jh es])).length/1=l.length:=by rw [jH (enc:=fun es=>[jh es]) (size:=1) (fun _=>rfl)];exact Nat.mul_div_cancel _ (by decide)
theorem jvo {l:List (List Int)} {k:Nat} {x:List Int} (h:l[k]?=some x):((l.flatMap (fun es=>[jh es])).drop (k*1)).take 1=[jh x]:=jpK h
theorem juy {l:List (List Int)} {k:Nat} (h:k<l.length):k*1+1≤(l.flatMap (fun es=>[jh es])).length:=by rw [jH (enc:=fun es=>[jh es]) (size:=1) (fun _=>rfl)];omega
attribute [go_sem] jse jti js7 jr6 jr0 joo jrC jsA
end
def zR (now id:Int) (t:Tk) (k:Nat):Option (List Int):=if (t.state==3&&decide (t.til≤now∨t.til-1=now))=true then some [id,k,t.tri] else none
def vY (now:Int) (r:Rn):Nat→List Tk→List (List Int)
 |_,[]=>[]
 |k,t::ts=>(zR now r.id t k).toList++vY now r (k+1) ts
def kv (y:Yd):List (List Int):=y.runs.flatMap fun r=>vY y.now r 0 r.tasks
open Go.RowKit Go.Sort Go.BigFrame
open Go.RowKit Go.Sort Go.BigFrame
def c4 (l:List En):Nat:=4*l.length
open Go.RowKit Go.Sort Go.BigFrame
open Go.RowKit Go.Sort Go.BigFrame
theorem jk7 (now:Int) (r:Rn) (x:Tk):∀(ts:List Tk) (k:Nat),vY now r k (ts++[x])=vY now r k ts++(zR now r.id x (k+ts.length)).toList
 |[],k=>by simp [vY]
 |t::ts,k=>by
  rw [List.cons_append,vY,vY,jk7 now r x ts (k+1),List.append_assoc]
  congr 3
  simp only [List.length_cons];congr 1;omega
theorem jk6 {now:Int} {r:Rn} {ts:List Tk} {k:Nat} {x:Tk} (h:ts[k]?=some x):vY now r 0 (ts.take (k+1))=vY now r 0 (ts.take k)++(zR now r.id x k).toList:=by
 have hk:k<ts.length:=(List.getElem?_eq_some_iff.1 h).1;rw [List.take_add_one,h];have:=jk7 now r x (ts.take k) 0;rw [List.length_take,Nat.min_eq_left (by omega),Nat.zero_add] at this
 exact this
theorem jfk (now:Int) (r:Rn):∀(ts:List Tk) (k:Nat),(vY now r k ts).length≤ts.length
 |[],k=>by simp [vY]
 |t::ts,k=>by
  have:=jfk now r ts (k+1)
  have h2:(zR now r.id t k).toList.length≤1:=by
   unfold zR;split<;>simp
  rw [vY,List.length_append,List.length_cons];omega
def jjq (now:Int) (r:Rn):List (List Int):=vY now r 0 r.tasks
theorem jqH (y:Yd):kv y=y.runs.flatMap (jjq y.now):=rfl
theorem jnR {now:Int} {l:List Rn} {k:Nat} {r:Rn} (h:l[k]?=some r):(l.take (k+1)).flatMap (jjq now)=(l.take k).flatMap (jjq now)++jjq now r:=by
 rw [List.take_add_one,h];simp
theorem jul (now:Int) (l:List Rn):(l.flatMap (jjq now)).length≤vT qO l:=by
 induction l with
 |nil=>simp
 |cons r l ih=>
  have:=jfk now r r.tasks 0;simp only [List.flatMap_cons,List.length_append,jjq,vT,List.map_cons,List.sum_cons,qO] at ih⊢;omega
open Go.RowKit Go.Sort Go.BigFrame
def newYd:Yd:=⟨0,1,List.replicate 4 [],[]⟩
theorem jzR (w:World):Calls Tryz.prog 28 #[] w (jvy w (jb newYd)):=by
 go_enter Tryz.func28,Tryz.ntmps28
 go_wp2_with (at_make;refine jiQ (enc:=(fun es=>[jm es])) rfl _ _ rfl jAa ([]:List En) zEnS .i64 .i64 4 4 4 rfl rfl rfl rfl (by omega) (by unfold maxLen;omega) ?_;intro w1 A1 hr1 hb1;obtain ⟨hc1,hf1⟩:=zU hb1;(have hz1:=hb1.size);simp at hz1;(have hx1:=(by omega:w.heap.size<w1.heap.size)))
 refine bodyPost_ret (v:=.agg #[.int .i64 0,.int .i64 1,.slice A1 4 4,.slice none 0 0]) (by simp [results,Tryz.results28,go_sem,hc1]) rfl ?_
 refine ⟨_,[w.heap.size+1],rfl,⟨_,rfl,jaA (y:=newYd) (S1:=[w.heap.size+1]) (S2:=[]) ?_ ?_⟩,?_,?_⟩
 ·have hr1':Rep w1 true (ku newYd.shelf) (.slice A1 4 4) [w.heap.size+1]:=by have h:=hr1;simp at h;exact h
  repeat (first|(with_reducible exact hr1')|((with_reducible refine jmh ?_ ?_);rotate_left;focus (intro b hb;simp at hb⊢;omega)))
 ·exact Rep.nil_ _ _ _
 ·exact ⟨by simp,by simp⟩
 ·repeat (first|(with_reducible exact Below.refl _ _)|(with_reducible assumption)|((with_reducible refine Below.alloc ?_ ?_ _);rotate_left;focus (simp;try omega))|((with_reducible refine Below.setCell ?_ ?_ _);rotate_left;focus (simp;try omega))|(with_reducible refine kr ?_ (by assumption)))
theorem jkY {S:List Nat} {w w1 w':World} (ho:Only S w1 w') (hb:Below w.heap.size w w1) {b:Nat} (h:b<w.heap.size) (hS:b∉S):(∀o,w'.cell? ⟨b,o,none⟩=w.cell? ⟨b,o,none⟩)∧(∀o,w'.frozen? ⟨b,o,none⟩=w.frozen? ⟨b,o,none⟩):=by
 have e:w'.heap[b]?=w.heap[b]?:=(ho.block b (Nat.lt_of_lt_of_le h hb.size) hS).trans (hb.block b h);exact ⟨fun o=>World.cell?_of_block (w:=w) (a:=⟨b,o,none⟩) e,fun o=>World.frozen?_of_block (w:=w) (a:=⟨b,o,none⟩) e⟩
theorem jtN (w:World):Rep (w.alloc (.cells #[] tEn)) true (jm []) (.slice (some ⟨w.heap.size,0,none⟩) 0 0) [w.heap.size]:=
 Rep.of_own (size:=4) (enc:=jk) (xs:=[]) (World.ownsRow_made w #[] 0 (Nat.zero_le _) (by unfold maxLen;omega) rfl) RepL.nil_
theorem jwn (w:World) {o:Obj} {x:Value} {t:TypeId}:∀ad,(some ⟨w.heap.size+1,0,none⟩:Option Addr)=some ad→∀j u,[x][j]?=some u→((w.alloc o).alloc (.cells #[x] t)).cell? (ad.add j)=some u:=by
 intro ad h j u hu;cases h
 obtain rfl:j=0:=by
  have:=(List.getElem?_eq_some_iff.1 hu).1;simpa using this
 simp at hu;subst hu;simp [go_sem,Addr.add]
set_option maxRecDepth 4000 in
theorem jrK (w:World):Calls Tryz.prog 33 #[] w (jvy w (jb newYd)):=by
 go_enter Tryz.func33,Tryz.ntmps33
 go_wp2
 go_loopw [2] (fun i wr=>∃(k:Nat) (sv:Value) (S:List Nat),k≤4∧i=.int .i64 k∧Rep wr true (ku (List.replicate k [])) sv S∧Fresh (w.heap.size+2) S∧Below w.heap.size w wr∧w.heap.size+2≤wr.heap.size∧
  wr.cell? ⟨w.heap.size+1,0,none⟩=some (.int .i64 0)∧wr.cell? ⟨w.heap.size+1,1,none⟩=some (.int .i64 1)∧wr.cell? ⟨w.heap.size+1,2,none⟩=some sv∧wr.cell? ⟨w.heap.size+1,3,none⟩=some (.slice none 0 0)∧wr.frozen? ⟨w.heap.size+1,2,none⟩=false∧
  (∃u,wr.cell? ⟨w.heap.size,0,none⟩=some u)∧(∃u,wr.cell? ⟨w.heap.size,1,none⟩=some u)∧(∃u,wr.cell? ⟨w.heap.size,2,none⟩=some u)∧(∃u,wr.cell? ⟨w.heap.size,3,none⟩=some u)∧
  wr.frozen? ⟨w.heap.size,0,none⟩=false∧wr.frozen? ⟨w.heap.size,1,none⟩=false∧wr.frozen? ⟨w.heap.size,2,none⟩=false∧wr.frozen? ⟨w.heap.size,3,none⟩=false) (fun i _=>4-(intOf i).toNat)
 case atStart=>
  refine ⟨0,_,[],by omega,rfl,Rep.nil_ _ _ _,Fresh.nil _,?_,by simp,?_⟩
  ·repeat (first|(with_reducible exact Below.refl _ _)|(with_reducible assumption)|((with_reducible refine Below.alloc ?_ ?_ _);rotate_left;focus (simp;try omega))|((with_reducible refine Below.setCell ?_ ?_ _);rotate_left;focus (simp;try omega)))
  ·simp [go_sem]
 case round=>
  obtain ⟨k,sv,S,hk,rfl,hrep,hF,hbel,hsz,c0,c1,c2,c3,f2,⟨u0,r0⟩,⟨u1,r1⟩,⟨u2,r2⟩,⟨u3,r3⟩,g0,g1,g2,g3⟩:=hrel;by_cases hlt:k<4
  ·have hbox:w.heap.size+1∉S:=fun h=>by have:=hF.2 _ h;omega
   have hres:w.heap.size∉S:=fun h=>by have:=hF.2 _ h;omega
   obtain ⟨A0,n0,m0,rfl⟩:=Rep.form hrep
   go_wp2_with ((with_reducible refine joF (.tmp 9) (.tmp 11) ?_);refine ja1 (enc:=(fun es=>[jm es])) (xs:=List.replicate k ([]:List En)) (ys:=[[]]) rfl _ _ rfl jAa (fun _=>rfl) rfl (upA (upA hrep _) _) (some ⟨wr.heap.size+1,0,none⟩) 1 1 [.slice (some ⟨wr.heap.size,0,none⟩) 0 0] rfl (RepL.cons_ (upA (jtN wr) _) RepL.nil_) rfl (by simp) (jwn wr) jsw (w.heap.size+2) (by simp;omega) (by simpa using Fresh.join hF (Fresh.one wr.heap.size wr.heap.size (Nat.le_refl _)) hsz (fun s hs=>Rep.lt _ hrep s hs)) (by unfold maxLen;simp;omega) (by simp;omega) ?_;intro v' w' S' hrep' hF' ho' _;obtain ⟨A1,n1,m1,rfl⟩:=Rep.form hrep';obtain ⟨hd,hd'⟩:=jkY ho' (upB (upB (Below.refl wr.heap.size wr) _) _) (by omega) hbox;obtain ⟨he,he'⟩:=jkY ho' (upB (upB (Below.refl wr.heap.size wr) _) _) (by omega) hres;(have hz:=ho'.size);simp at hz;(have hz1:=(by omega:w.heap.size+1<w'.heap.size)))
   go_roundw
   case rel=>
    refine ⟨k+1,.slice A1 n1 m1,S',by omega,by go_num,?_,hF',?_,by simp;omega,?_⟩
    ·refine jmh ?_ (fun b hb=>by have:=hF'.2 b hb;simp;omega)
     rw [List.replicate_succ'];exact hrep'
    ·exact ((upB (upB hbel _) _).trans (ho'.below (fun s hs=>by have:=hF.2 s hs;omega) (by simp;omega))).setCell (by simp) _
    ·simp [go_sem,hd,hd',he,he',c0,c1,c2,c3,f2,r0,r1,r2,r3,g0,g1,g2,g3]
   case measure=>simp [intOf];omega
  ·obtain rfl:k=4:=by omega
   obtain ⟨A0,n0,m0,rfl⟩:=Rep.form hrep
   go_wp2
   refine bodyPost_ret (v:=.agg #[.int .i64 0,.int .i64 1,.slice A0 n0 m0,.slice none 0 0]) (by simp [results,Tryz.results33,go_sem,r0,r1,r2,r3]) rfl ?_
   refine ⟨_,S++[],rfl,⟨_,rfl,jaA (y:=newYd) ?_ (Rep.nil_ _ _ _)⟩,?_,?_⟩
   ·have hrep4:Rep wr true (ku newYd.shelf) (.slice A0 n0 m0) S:=hrep
    repeat (first|(with_reducible exact hrep4)|((with_reducible refine jmh ?_ ?_);rotate_left;focus (intro b hb;have:=hF.2 b hb;simp;try omega)))
   ·rw [List.append_nil];exact hF.mono (by omega)
   ·repeat (first|(with_reducible assumption)|((with_reducible refine Below.setCell ?_ ?_ _);rotate_left;focus (simp;try omega)))
end Go.Proofs.YtcehjhiglmifjaaGreat
