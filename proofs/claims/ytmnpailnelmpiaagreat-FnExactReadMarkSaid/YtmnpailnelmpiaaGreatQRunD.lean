/- Parts. -/
import Derived.Test.YtmnpailnelmpiaaGreatQRunOk
set_option linter.unusedSimpArgs false
set_option linter.unusedVariables false
set_option maxHeartbeats 8000000
set_option maxRecDepth 100000
namespace Go.Proofs.YtmnpailnelmpiaaGreat
open Go.RowKit Go.Sort
theorem jow {α:Type} {A B C v:List α} {o j:Nat} (ho:o=A.length+j) (hj:j+v.length≤B.length):kI (A++(B++C)) o v=A++(kI B j v++C):=by
 subst ho;rw [qc _ _ _ (by simp only [List.length_append];omega),qc _ _ _ hj]
 have h1:(A++(B++C)).take (A.length+j)=A++B.take j:=by
  rw [List.take_append,List.take_of_length_le (by omega),Nat.add_sub_cancel_left,List.take_append_of_le_length (by omega)]
 have h2:(A++(B++C)).drop (A.length+j+v.length)=B.drop (j+v.length)++C:=by
  rw [List.drop_append,List.drop_eq_nil_of_le (by omega),List.nil_append,show A.length+j+v.length-A.length=j+v.length by omega,List.drop_append_of_le_length (by omega)]
 rw [h1,h2];simp only [List.append_assoc]
section
variable {α:Type} {enc:α→List D} {size ty:Nat} {l:List α} {k:Nat} {x:α}
theorem jbE (hx:l[k]?=some x):l.flatMap enc=(l.take k).flatMap enc++(enc x++(l.drop (k+1)).flatMap enc):=by
 obtain ⟨hk,he⟩:=List.getElem?_eq_some_iff.1 hx;have e:l=l.take k++x::l.drop (k+1):=by rw [←he,←List.drop_eq_getElem_cons hk,List.take_append_drop]
 have h2:=congrArg (List.flatMap enc) e;rw [h2,List.flatMap_append,List.flatMap_cons]
theorem jjA (hs:∀x,(enc x).length=size) (hx:l[k]?=some x):((l.take k).flatMap enc).length=k*size:=by
 have hk:=(List.getElem?_eq_some_iff.1 hx).1;rw [jM hs,List.length_take,Nat.min_eq_left (by omega)]
theorem jbK (hs:∀x,(enc x).length=size) (hx:l[k]?=some x) {y:α} {j:Nat} {v:List D} (hy:kI (enc x) j v=enc y) (hj:j+v.length≤size):D.put [] (k*size+j) v (.sl size ty (l.flatMap enc))=.sl size ty ((l.set k y).flatMap enc):=by
 have hk:=(List.getElem?_eq_some_iff.1 hx).1;have h2:(l.set k y)[k]?=some y:=List.getElem?_set_self hk;have e1:(l.set k y).take k=l.take k:=List.take_set_of_le (Nat.le_refl k);have e2:(l.set k y).drop (k+1)=l.drop (k+1):=List.drop_set_of_lt (Nat.lt_succ_self k);simp only [D.put];rw [jbE hx,jow (by rw [jjA hs hx]) (by rw [hs];exact hj),hy,jbE h2,e1,e2]
theorem vf (hs:∀x,(enc x).length=size) (hx:l[k]?=some x) {j n:Nat} (hj:j+n≤size):((l.flatMap enc).drop (k*size+j)).take n=((enc x).drop j).take n:=by
 rw [jbE hx,←List.drop_drop,List.drop_left' (jjA hs hx),List.drop_append_of_le_length (by rw [hs];omega),List.take_append_of_le_length (by rw [List.length_drop,hs];omega)]
theorem vd (hs:∀x,(enc x).length=size) (hx:l[k]?=some x) {j n:Nat} (hj:j+n≤size):k*size+j+n≤(l.flatMap enc).length:=by
 have hk:=(List.getElem?_eq_some_iff.1 hx).1;rw [jM hs];have:(k+1)*size≤l.length*size:=Nat.mul_le_mul_right _ hk;rw [Nat.succ_mul] at this;omega
end
section
variable {l:List Tk} {k:Nat} {x:Tk}
theorem jbu (hx:l[k]?=some x) (v:Int):D.put [] (k*4) [.val (.int .i64 v)] (jy l)=jy (l.set k ⟨v,x.need,x.tri,x.til⟩):=jbK (enc:=jo) (size:=4) (fun _=>rfl) hx (j:=0) rfl (by simp)
theorem jac (hx:l[k]?=some x) (v:Int):D.put [] (k*4+0) [.val (.int .i64 v)] (jy l)=jy (l.set k ⟨v,x.need,x.tri,x.til⟩):=jbK (enc:=jo) (size:=4) (fun _=>rfl) hx (j:=0) rfl (by simp)
theorem jv1 (hx:l[k]?=some x) (v:Int):D.put [] (k*4+1) [.val (.int .i64 v)] (jy l)=jy (l.set k ⟨x.state,v,x.tri,x.til⟩):=jbK (enc:=jo) (size:=4) (fun _=>rfl) hx (j:=1) rfl (by simp)
theorem jB7 (hx:l[k]?=some x) (v:Int):D.put [] (k*4+2) [.val (.int .i64 v)] (jy l)=jy (l.set k ⟨x.state,x.need,v,x.til⟩):=jbK (enc:=jo) (size:=4) (fun _=>rfl) hx (j:=2) rfl (by simp)
theorem jfg (hx:l[k]?=some x) (v:Int):D.put [] (k*4+3) [.val (.int .i64 v)] (jy l)=jy (l.set k ⟨x.state,x.need,x.tri,v⟩):=jbK (enc:=jo) (size:=4) (fun _=>rfl) hx (j:=3) rfl (by simp)
theorem jut (hx:l[k]?=some x):((l.flatMap jo).drop (k*4)).take 4=jo x:=vf (enc:=jo) (size:=4) (fun _=>rfl) hx (j:=0) (n:=4) (by decide)
theorem jaz (hx:l[k]?=some x):((l.flatMap jo).drop (k*4)).take 1=[.val (.int .i64 x.state)]:=vf (enc:=jo) (size:=4) (fun _=>rfl) hx (j:=0) (n:=1) (by decide)
theorem zG (hx:l[k]?=some x):((l.flatMap jo).drop (k*4+0)).take 1=[.val (.int .i64 x.state)]:=vf (enc:=jo) (size:=4) (fun _=>rfl) hx (j:=0) (n:=1) (by decide)
theorem jsK (hx:l[k]?=some x):((l.flatMap jo).drop (k*4+1)).take 1=[.val (.int .i64 x.need)]:=vf (enc:=jo) (size:=4) (fun _=>rfl) hx (j:=1) (n:=1) (by decide)
theorem jpQ (hx:l[k]?=some x):((l.flatMap jo).drop (k*4+2)).take 1=[.val (.int .i64 x.tri)]:=vf (enc:=jo) (size:=4) (fun _=>rfl) hx (j:=2) (n:=1) (by decide)
theorem jxP (hx:l[k]?=some x):((l.flatMap jo).drop (k*4+3)).take 1=[.val (.int .i64 x.til)]:=vf (enc:=jo) (size:=4) (fun _=>rfl) hx (j:=3) (n:=1) (by decide)
theorem jiW (hx:l[k]?=some x):k*4+4≤(l.flatMap jo).length:=vd (enc:=jo) (size:=4) (fun _=>rfl) hx (j:=0) (n:=4) (by decide)
theorem vM (hx:l[k]?=some x):k*4+1≤(l.flatMap jo).length:=vd (enc:=jo) (size:=4) (fun _=>rfl) hx (j:=0) (n:=1) (by decide)
theorem qQ (hx:l[k]?=some x):k*4+0+1≤(l.flatMap jo).length:=vd (enc:=jo) (size:=4) (fun _=>rfl) hx (j:=0) (n:=1) (by decide)
theorem jsh (hx:l[k]?=some x):k*4+1+1≤(l.flatMap jo).length:=vd (enc:=jo) (size:=4) (fun _=>rfl) hx (j:=1) (n:=1) (by decide)
theorem jpi (hx:l[k]?=some x):k*4+2+1≤(l.flatMap jo).length:=vd (enc:=jo) (size:=4) (fun _=>rfl) hx (j:=2) (n:=1) (by decide)
theorem jkD (hx:l[k]?=some x):k*4+3+1≤(l.flatMap jo).length:=vd (enc:=jo) (size:=4) (fun _=>rfl) hx (j:=3) (n:=1) (by decide)
end
section
variable {l:List En} {k:Nat} {x:En}
theorem juu (hx:l[k]?=some x):((l.flatMap jf).drop (k*4)).take 4=jf x:=vf (enc:=jf) (size:=4) (fun _=>rfl) hx (j:=0) (n:=4) (by decide)
theorem jpR (hx:l[k]?=some x):((l.flatMap jf).drop (k*4+1)).take 1=[.val (.int .i64 x.seq)]:=vf (enc:=jf) (size:=4) (fun _=>rfl) hx (j:=1) (n:=1) (by decide)
theorem jt5 (hx:l[k]?=some x):k*4+4≤(l.flatMap jf).length:=vd (enc:=jf) (size:=4) (fun _=>rfl) hx (j:=0) (n:=4) (by decide)
theorem jpj (hx:l[k]?=some x):k*4+1+1≤(l.flatMap jf).length:=vd (enc:=jf) (size:=4) (fun _=>rfl) hx (j:=1) (n:=1) (by decide)
end
abbrev ja8 (b ty:Nat) (r:Rn) (e1 e2:jq):Ob:=.box b ty [.a (.v (.int .i64 r.id)),.a (.v (.int .i64 r.plan.prio)),.a (.v (.int .i64 r.plan.most)),.a (.v (.int .i64 r.plan.wait)),.a (.v (.int .i64 r.plan.tasks)),.own (ju r.plan.edges) e1,.a (.v (.int .i64 r.state)),.own (jy r.tasks) e2]
abbrev ZRn (b ty:Nat):Ob:=.box b ty [.a (.v (.int .i64 0)),.a (.v (.int .i64 0)),.a (.v (.int .i64 0)),.a (.v (.int .i64 0)),.a (.v (.int .i64 0)),.a (.v (.slice none 0 0)),.a (.v (.int .i64 0)),.a (.v (.slice none 0 0))]
theorem jiw (l:List Tk):D.sl 4 tTk (l.flatMap jo)=jy l:=rfl
def jeK:C:=iS [iA 1 (.box 108 8 (.t 0)),iA 2 (.alloc 108 [.int .i64 0,.int .i64 0,.int .i64 0,.int .i64 0,.int .i64 0,.slice none 0 0,.int .i64 0,.slice none 0 0])] (iS [iA 3 (iF 1 1),iA 4 (iT 5 3),iA 5 (.call 256 [.t 4]),iA 6 (iF 1 1),iC (.st 5 [none,none,none,none,some (2,253)] (.t 6) (.t 5))] (iS [iA 7 (.bsl 172 4 0 [] []),iA 8 (iF 7 1),iA 9 (iL 8),iA 10 (.app 172 4 32 (.t 7) (.t 9)),iA 11 (iF 7 1),iC (.st 1 [some (4,172)] (.t 11) (.t 10))] (iS [iA 12 (iT 8 1),iC (.st 8 [none,none,none,none,none,some (2,253),none,some (4,172)] (.t 2) (.t 12))] .ret)))
theorem jhS:fnC Tryz.prog Tryz.f185=some (jeK,[.cell 2 true 8],13):=by kernel_rfl
def jeW:C:=iS [iA 1 (.box 108 8 (.t 0)),iA 2 (.alloc 108 [.int .i64 0,.int .i64 0,.int .i64 0,.int .i64 0,.int .i64 0,.slice none 0 0,.int .i64 0,.slice none 0 0])] (iS [iA 3 (iF 1 1),iA 4 (iT 5 3),iA 5 (.call 270 [.t 4]),iA 6 (iF 1 1),iC (.st 5 [none,none,none,none,some (2,253)] (.t 6) (.t 5))] (iS [iA 7 (iF 7 1),iA 8 (iL 7),iA 9 (.app 172 4 32 (.c (.slice none 0 0)) (.t 8)),iA 10 (iF 7 1),iC (.st 1 [some (4,172)] (.t 10) (.t 9))] (iS [iA 11 (iT 8 1),iC (.st 8 [none,none,none,none,none,some (2,253),none,some (4,172)] (.t 2) (.t 11))] .ret)))
theorem jh4:fnC Tryz.prog Tryz.f209=some (jeW,[.cell 2 true 8],12):=by kernel_rfl
theorem jey (r:Rn) (hb:r.plan.edges.length≤4000000) (ht:r.tasks.length≤4000000):jZ Tryz.prog 209 [.agg (jd r)] (.agg (jd r)):=by
 refine jr Tryz.func209 jh4 (by simp) ?_
 unfold jeW;have h1:r.tasks.length≤maxLen:=by unfold maxLen;omega
 have h2:r.tasks.length*32≤140737488355328:=by omega
 simp only [go_sem,jd,ja];intro b b2;refine jc (jc0 r.plan hb) (by simp only [go_sem,jd,ja]) fun η=>?_
 simp only [go_sem,jd,ja];simp only [go_sem,jd,ja,h1,h2,jiw]
theorem vX (r:Rn) (hb:r.plan.edges.length≤4000000) (ht:r.tasks.length≤4000000):jZ Tryz.prog 185 [.agg (jd r)] (.agg (jd r)):=by
 refine jr Tryz.func185 jhS (by simp) ?_
 unfold jeK;have h1:r.tasks.length≤maxLen:=by unfold maxLen;omega
 have h2:r.tasks.length*32≤140737488355328:=by omega
 simp only [go_sem,jd,ja];intro b b2;refine jc (jev r.plan hb) (by simp only [go_sem,jd,ja]) fun η=>?_
 simp only [go_sem,jd,ja];simp only [go_sem,jd,ja,h1,h2,jiw]
def jeJ:C:=iS [iA 2 (.box 108 8 (.t 0)),iA 4 (iO false)] (iS [iA 5 (iT 8 2),iA 6 (.call 151 [.t 5]),iA 7 (iM 6),iB 8 7 true (iM 1),iB 9 7 true (iF 7 2),iB 10 7 true (iL 9),iB 11 7 true (iG 10),iB 12 7 true (iQ .sub 3 11 1),iB 13 7 true (.call 74 [.t 8,.c (.int .i64 0),.t 12]),iA 14 (.pick (.t 7) (.t 13) (.c (.bool false))),iA 15 (iM 14),iB 16 15 true (iF 7 2),iB 17 15 true (iL 16),iB 18 15 true (iM 1),iB 19 15 true (iI 4 17 18),iB 20 15 true (iF 0 19),iB 21 15 true (iL 20),iB 22 15 true (iQ .eql 3 21 3),iA 23 (.pick (.t 15) (.t 22) (.c (.bool false))),iA 4 (iM 23)] .ret)
theorem jhR:fnC Tryz.prog Tryz.f263=some (jeJ,[.t 4],24):=by kernel_rfl
def jeS:C:=iS [iA 2 (.box 108 8 (.t 0)),iA 4 (.alloc 108 [.int .i64 0,.int .i64 0,.int .i64 0,.int .i64 0,.int .i64 0,.slice none 0 0,.int .i64 0,.slice none 0 0])] (iS [iA 9 (iT 8 2),iA 10 (.call 185 [.t 9]),iA 5 (.alloc 108 [.int .i64 0,.int .i64 0,.int .i64 0,.int .i64 0,.int .i64 0,.slice none 0 0,.int .i64 0,.slice none 0 0]),iC (.st 8 [none,none,none,none,none,some (2,253),none,some (4,172)] (.t 5) (.t 10))] (.seq (iS [iA 11 (iT 8 2),iA 12 (iM 1),iA 13 (.call 263 [.t 11,.t 12]),iA 14 (iU 13)] (iD 14 (iS [iA 15 (iT 8 5),iC (.st 8 [none,none,none,none,none,some (2,253),none,some (4,172)] (.t 4) (.t 15))] .ret) .skip)) (iS [iA 16 (iF 7 5),iA 17 (iL 16),iA 18 (iM 1),iA 19 (iI 4 17 18),iA 20 (iF 0 19),iC (.st 1 [none] (.t 20) (.c (.int .i64 4)))] (iS [iA 21 (iF 7 5),iA 22 (iL 21),iA 23 (iM 1),iA 24 (iI 4 22 23),iA 25 (iF 3 24),iC (.st 1 [none] (.t 25) (.c (.int .i64 0)))] (iS [iA 26 (iF 1 2),iA 27 (iT 5 26),iA 28 (iM 1),iA 29 (.call 264 [.t 27,.t 28]),iA 6 (iM 29)] (.seq (iS [iA 7 (iN 0)] (.blk 0 (.loop (.seq (iS [iA 30 (iM 7),iA 31 (iM 6),iA 32 (iG 31),iA 33 (iP .lss 3 30 32)] (iD 33 .skip (.exit 0))) (.seq (.blk 1 (.seq (.dreg (T.pure 0 (iA 36 (iF 7 5)) (T.pure 1 (iA 37 (iL 36)) (T.pure 2 (iA 38 (iM 6)) (T.pure 3 (iA 39 (iM 7)) (T.pure 4 (iA 40 (iI 1 38 39)) (T.pure 5 (iA 41 (iL 40)) (T.pure 6 (iA 42 (iI 4 37 41)) (T.pure 7 (iA 43 (iT 4 42)) (T.alt (iA 8 (.alloc 172 [.int .i64 0,.int .i64 0,.int .i64 0,.int .i64 0])) [7,6,5,4,3,2,1,0] (T.alt (iC (.st 4 [none,none,none,none] (.t 8) (.t 43))) [] T.done T.stop) T.stop)))))))))) (iS [iA 44 (iF 1 8),iA 45 (iL 44),iA 46 (iQ .sub 3 45 1),iA 47 (iF 1 8),iC (.st 1 [none] (.t 47) (.t 46))] (.seq (iS [iA 48 (iF 1 8),iA 49 (iL 48),iA 50 (iQ .eql 3 49 0)] (iD 50 (.reg [iA 51 (iF 0 8),iC (.st 1 [none] (.t 51) (.c (.int .i64 2)))]) .skip)) (.dreg (T.pure 0 (iA 52 (iF 7 5)) (T.pure 1 (iA 53 (iL 52)) (T.pure 2 (iA 54 (iM 6)) (T.pure 3 (iA 55 (iM 7)) (T.pure 4 (iA 56 (iI 1 54 55)) (T.pure 5 (iA 57 (iL 56)) (T.pure 6 (iA 58 (iT 4 8)) (T.pure 7 (iA 59 (iI 4 53 57)) (T.alt (iC (.st 4 [none,none,none,none] (.t 59) (.t 58))) [] T.done T.stop)))))))))))))) (.reg [iA 34 (iM 7),iA 35 (iQ .add 3 34 1),iA 7 (iM 35)])))))) (iS [iA 60 (iT 8 5),iA 61 (.call 241 [.t 60]),iA 62 (iF 6 5),iC (.st 1 [none] (.t 62) (.t 61))] (iS [iA 63 (iT 8 5),iC (.st 8 [none,none,none,none,none,some (2,253),none,some (4,172)] (.t 4) (.t 63))] .ret))))))))
theorem jh0:fnC Tryz.prog Tryz.f198=some (jeS,[.cell 4 true 8],64):=by kernel_rfl
def jlb:C:=iS [iA 7 (iM 0),iA 8 (iF 0 7),iA 9 (iF 7 8),iA 10 (iL 9),iA 11 (iM 1),iA 12 (iI 4 10 11),iA 13 (iF 0 12),iC (.st 1 [none] (.t 13) (.c (.int .i64 4)))] (iS [iA 14 (iM 0),iA 15 (iF 0 14),iA 16 (iF 7 15),iA 17 (iL 16),iA 18 (iM 1),iA 19 (iI 4 17 18),iA 20 (iF 3 19),iC (.st 1 [none] (.t 20) (.c (.int .i64 0)))] (.seq (iS [iA 21 (iM 0),iA 22 (iF 0 21),iA 23 (iF 1 22),iA 24 (iT 5 23),iA 25 (iM 1),iA 26 (.call 277 [.t 24,.t 25]),iA 27 (iG 26),iA 28 (iN 0)] (.blk 0 (.loop (iS [iA 29 (iP .lss 3 28 27)] (.seq (iD 29 .skip (.exit 0)) (.seq (.blk 1 (iS [iA 30 (iI 1 26 28),iA 31 (iL 30),iA 5 (iM 31)] (iS [iA 32 (iM 0),iA 33 (iF 0 32),iA 34 (iF 7 33),iA 35 (iL 34),iA 36 (iM 5),iA 37 (iI 4 35 36),iA 6 (iM 37)] (iS [iA 38 (iM 6),iA 39 (iF 0 38),iA 40 (iF 1 39),iA 41 (iL 40),iA 42 (iQ .sub 3 41 1),iA 43 (iF 0 38),iA 44 (iF 1 43),iC (.st 1 [none] (.t 44) (.t 42))] (iS [iA 45 (iM 6),iA 46 (iF 0 45),iA 47 (iF 1 46),iA 48 (iL 47),iA 49 (iQ .eql 3 48 0)] (iD 49 (.reg [iA 50 (iM 6),iA 51 (iF 0 50),iA 52 (iF 0 51),iC (.st 1 [none] (.t 52) (.c (.int .i64 2)))]) .skip)))))) (.reg [iA 53 (iQ .add 3 28 1),iA 28 (iM 53)]))))))) (.seq (.dreg (T.pure 0 (iA 54 (iM 0)) (T.pure 1 (iA 55 (iF 0 54)) (T.pure 2 (iA 56 (iT 8 55)) (T.pure 5 (iA 59 (iM 0)) (T.pure 6 (iA 60 (iF 0 59)) (T.pure 7 (iA 61 (iF 7 60)) (T.pure 8 (iA 62 (iL 61)) (T.pure 9 (iA 63 (iG 62)) (T.alt (iA 57 (.call 214 [.t 56,.c (.int .i64 4)])) [9,8,7,6,5] (T.pure 4 (iA 58 (iG 57)) (T.pure 10 (iA 64 (iP .eql 3 58 63)) T.done)) T.stop)))))))))) (iD 64 (.reg [iA 65 (iM 0),iA 66 (iF 0 65),iA 67 (iF 6 66),iC (.st 1 [none] (.t 67) (.c (.int .i64 2)))]) .skip))))
theorem jlR:fnC Tryz.prog Tryz.f223=some (jlb,[],68):=by kernel_rfl
theorem jeu (r:Rn) (t:Int):jZ Tryz.prog 263 [.agg (jd r),.c (.val (.int .i64 t))] (.c (.val (.bool (zx r t)))):=by
 refine jr Tryz.func263 jhR (by simp) ?_
 unfold jeJ;simp only [go_sem,jd,ja];intro b;refine jc (jcZ r) (by simp only [go_sem,jd,ja]) fun η=>?_
 simp only [go_sem,jd,ja];cases h:kN r
 ·have hb:zx r t=false:=by simp [zx,h]
  simp only [go_sem,jd,ja,h,hb]
 have hP:=runOk_iff.1 h;obtain ⟨n,hn,hn1,h12,-⟩:=jiQ hP.plan;have hlen:=hP.len;have hw:IntKind.i64.wrap ((r.tasks.length:Int)-1)=(r.tasks.length:Int)-1:=jj (by omega) (by omega)
 simp only [go_sem,jd,ja,h,hw];refine jc (jO t 0 (r.tasks.length-1)) (by simp only [go_sem,jd,ja]) fun η=>?_
 simp only [go_sem,jd,ja];cases h1:decide (0≤t∧t≤(r.tasks.length:Int)-1)
 ·have hb:zx r t=false:=by simp [zx,inB,h1]
  simp only [go_sem,jd,ja,h1,hb]
 have h1':0≤t∧t≤(r.tasks.length:Int)-1:=by simpa using h1
 have h0t:0≤t:=h1'.1;have htl:t.toNat<r.tasks.length:=by omega
 obtain ⟨x,hx⟩:=je htl;have hb:zx r t=(x.state==3):=by simp [zx,inB,h1',jmQ hx,h]
 simp only [go_sem,jd,ja,h1,h0t,htl,jV hx,jo,hb]
theorem jrF {ts:List Tk} {v:Int} {y:Tk} (hy:ts[v.toNat]?=some y):jb2 ts v=ts.set v.toNat ⟨if IntKind.i64.wrap (y.need-1)=0 then 2 else y.state,IntKind.i64.wrap (y.need-1),y.tri,y.til⟩:=by simp [jb2,hy]
theorem jmu {l:List Int} {k:Nat} {v:Int} (hv:l[k]?=some v) (ts:List Tk):(l.take (k+1)).foldl jb2 ts=jb2 ((l.take k).foldl jb2 ts) v:=by
 rw [List.take_add_one,hv];simp
theorem jlw (r:Rn) (t:Int) (hsz:r.plan.edges.length≤4000000) (ht:r.tasks.length≤4000000):jZ Tryz.prog 198 [.agg (jd r),.c (.val (.int .i64 t))] (.agg (jd (qO r t))):=by
 refine jr Tryz.func198 jh0 (by simp) ?_
 unfold jeS;simp only [go_sem,jd,ja];intro b b4;refine jc (vX r hsz ht) (by simp only [go_sem,jd,ja]) fun ηc=>?_
 simp only [go_sem,jd,ja];intro b5;refine jc (jeu r t) (by simp only [go_sem,jd,ja]) fun η=>?_
 simp only [go_sem,jd,ja];cases h:zx r t
 ·simp only [go_sem,jd,ja,h,jtj h]
 obtain ⟨k,x,rfl,hx,hs,hP⟩:=jdS h;obtain ⟨n,hn,hn1,h12,h30,hes,hnd,-⟩:=jiQ hP.plan;have hlen:=hP.len;have hkl:=(List.getElem?_eq_some_iff.1 hx).1;have h0t:(k:Int)≥0:=by omega
 have hx2:(r.tasks.set k ⟨4,x.need,x.tri,x.til⟩)[k]?=some ⟨4,x.need,x.tri,x.til⟩:=List.getElem?_set_self hkl;have hkl2:k<(r.tasks.set k ⟨4,x.need,x.tri,x.til⟩).length:=by rw [List.length_set];exact hkl
 have hn1':Int.toNat (k:Int)=k:=Int.toNat_natCast k;simp only [go_sem,jd,ja,h,hkl,h0t,jbu hx,jac hx,vM hx,qQ hx,hkl2,jkD hx2,jfg hx2,List.set_set];refine jc (jiR r.plan k n hn h12 h30) (by simp only [go_sem,jd,ja]) fun ηb=>?_
 simp only [go_sem,jd,ja];have hbl:=jsF hn h12 h30 k;generalize hts:r.tasks.set k ⟨4,x.need,x.tri,0⟩=ts0 at*;have htl:ts0.length=r.tasks.length:=by rw [←hts,List.length_set]
 have hdn:jdj r.plan r.tasks k x=(jhe r.plan k).foldl jb2 ts0:=by rw [←hts];rfl
 have hst0:∀z∈ts0,1≤z.state∧z.state≤6:=by rw [←hts];exact jot (q:=fun s=>1≤s∧s≤6) (by simp) hP.st
 refine jp (fun i:Nat=>St.of [(4,Bx 400 b4),(5,Bx 500 b5),(6,Hd 6 (ηb 0)),(7,Ni i)] [(400,ZRn b4 tRn),(500,ja8 b5 tRn ⟨r.id,r.plan,r.state,((jhe r.plan k).take i).foldl jb2 ts0⟩ (ηc 5) (ηc 7)),(6,.loose (jh (jhe r.plan k)) (ηb 0))]) (fun i=>i≤(jhe r.plan k).length) (fun i=>(jhe r.plan k).length-i) 0 (by (try dsimp only);first|omega|(simp;done)|(and_intros<;>first|omega|simp)) (ji [some 400,some 500,some 2900] (by simp only [go_sem,jd,ja,List.take_zero,List.foldl_nil]<;>and_intros<;>first|rfl|assumption|trivial)) ?_
 rintro j hj;by_cases hlt:j<(jhe r.plan k).length
 ·have hlt':(j:Int)<(jhe r.plan k).length:=by omega
  obtain ⟨v,hv⟩:=je hlt;have hvb:=jxJ hn (List.mem_of_getElem? hv);have hfl:=jgg ((jhe r.plan k).take j) ts0;have hft:=jmu hv ts0;generalize ((jhe r.plan k).take j).foldl jb2 ts0=ts at*;have hvl:v.toNat<ts.length:=by omega
  have hv0:=hvb.1;obtain ⟨y,hy⟩:=je hvl;have hw:IntKind.i64.wrap ((j:Int)+1)=((j+1:Nat):Int):=jj (by omega) (by omega)
  rw [jrF hy] at hft;simp only [go_sem,jd,ja,hlt,hlt',jn hv,jm hlt,hvl,hv0,jut hy,jiW hy,jo];intro b8;generalize IntKind.i64.wrap (y.need-1)=nd at*;cases hz:nd==0
  ·have hz':¬nd=0:=by simpa using hz
   rw [if_neg hz'] at hft;simp only [go_sem,jd,ja,hlt,hlt',jn hv,jm hlt,hvl,hv0,jut hy,jiW hy,jo,hz,jb6 y.state nd y.tri y.til hvl,hw];exact ⟨j+1,by (try dsimp only);first|omega|assumption|(and_intros<;>first|omega|assumption),(ji [some 400,some 500,some 6] (by simp only [go_sem,jd,ja,hft]<;>and_intros<;>first|rfl|assumption|trivial)),by (try dsimp only);omega⟩
  ·have hz':nd=0:=by simpa using hz
   rw [if_pos hz'] at hft;simp only [go_sem,jd,ja,hlt,hlt',jn hv,jm hlt,hvl,hv0,jut hy,jiW hy,jo,hz,jb6 2 nd y.tri y.til hvl,hw];exact ⟨j+1,by (try dsimp only);first|omega|assumption|(and_intros<;>first|omega|assumption),(ji [some 400,some 500,some 6] (by simp only [go_sem,jd,ja,hft]<;>and_intros<;>first|rfl|assumption|trivial)),by (try dsimp only);omega⟩
 have hlt':¬(j:Int)<(jhe r.plan k).length:=by omega
 rw [List.take_of_length_le (by omega)]
 have hds:=jug hP hx hs;have hR:qO r k=jlL r k x:=jkb hx h;have hlD:(jdj r.plan r.tasks k x).length=r.tasks.length:=jdi _ _ _ _;have hstD:∀z∈jdj r.plan r.tasks k x,1≤z.state∧z.state≤6:=jnP (q:=fun s=>1≤s∧s≤6) (by decide) (by decide) hP.st
 rw [hR,←hdn];have hrr:jlL r k x=⟨r.id,r.plan,jlm (jdj r.plan r.tasks k x),jdj r.plan r.tasks k x⟩:=by rw [hds];rfl
 rw [hrr];generalize jdj r.plan r.tasks k x=tD at*;simp only [go_sem,jd,ja,hlt'];refine jc (jcY ⟨r.id,r.plan,r.state,tD⟩ hstD (by simp only;omega)) (by simp only [go_sem,jd,ja]) fun η=>?_
 simp only [go_sem,jd,ja]
def ja4:C:=iS [iA 2 (.box 108 8 (.t 0)),iA 4 (.alloc 108 [.int .i64 0,.int .i64 0,.int .i64 0,.int .i64 0,.int .i64 0,.slice none 0 0,.int .i64 0,.slice none 0 0])] (.seq (iS [iA 5 (iN 0)] (.blk 0 (.loop (.seq (iS [iA 7 (iM 5),iA 8 (iF 7 2),iA 9 (iL 8),iA 10 (iG 9),iA 11 (iP .lss 3 7 10)] (iD 11 .skip (.exit 0))) (.seq (.blk 1 (iS [iA 14 (iF 7 2),iA 15 (iL 14),iA 16 (iM 5),iA 17 (iI 4 15 16),iA 18 (iT 4 17),iA 6 (.alloc 172 [.int .i64 0,.int .i64 0,.int .i64 0,.int .i64 0]),iC (.st 4 [none,none,none,none] (.t 6) (.t 18))] (.seq (iS [iA 19 (iF 0 6),iA 20 (iL 19),iA 21 (iQ .neq 3 20 4),iA 22 (iM 21),iB 23 22 true (iF 0 6),iB 24 22 true (iL 23),iB 25 22 true (iQ .neq 3 24 5),iA 26 (.pick (.t 22) (.t 25) (.c (.bool false)))] (iD 26 (iS [iA 27 (iF 0 6),iC (.st 1 [none] (.t 27) (.c (.int .i64 6)))] (.reg [iA 28 (iF 3 6),iC (.st 1 [none] (.t 28) (.c (.int .i64 0)))])) .skip)) (.reg [iA 29 (iF 7 2),iA 30 (iL 29),iA 31 (iM 5),iA 32 (iT 4 6),iA 33 (iI 4 30 31),iC (.st 4 [none,none,none,none] (.t 33) (.t 32))])))) (.reg [iA 12 (iM 5),iA 13 (iQ .add 3 12 1),iA 5 (iM 13)])))))) (iS [iA 34 (iM 1),iA 35 (iF 6 2),iC (.st 1 [none] (.t 35) (.t 34))] (iS [iA 36 (iT 8 2),iC (.st 8 [none,none,none,none,none,some (2,253),none,some (4,172)] (.t 4) (.t 36))] .ret)))
theorem jbm:fnC Tryz.prog Tryz.f265=some (ja4,[.cell 4 true 8],37):=by kernel_rfl
def jdu:C:=iS [iA 2 (.box 108 8 (.t 0)),iA 4 (.alloc 108 [.int .i64 0,.int .i64 0,.int .i64 0,.int .i64 0,.int .i64 0,.slice none 0 0,.int .i64 0,.slice none 0 0])] (iS [iA 6 (iT 8 2),iA 7 (.call 185 [.t 6]),iA 5 (.alloc 108 [.int .i64 0,.int .i64 0,.int .i64 0,.int .i64 0,.int .i64 0,.slice none 0 0,.int .i64 0,.slice none 0 0]),iC (.st 8 [none,none,none,none,none,some (2,253),none,some (4,172)] (.t 5) (.t 7))] (.seq (iS [iA 8 (iT 8 2),iA 9 (iM 1),iA 10 (.call 263 [.t 8,.t 9]),iA 11 (iU 10)] (iD 11 (iS [iA 12 (iT 8 5),iC (.st 8 [none,none,none,none,none,some (2,253),none,some (4,172)] (.t 4) (.t 12))] .ret) .skip)) (iS [iA 13 (iF 7 5),iA 14 (iL 13),iA 15 (iM 1),iA 16 (iI 4 14 15),iA 17 (iF 3 16),iC (.st 1 [none] (.t 17) (.c (.int .i64 0)))] (iS [iA 18 (iF 7 5),iA 19 (iL 18),iA 20 (iM 1),iA 21 (iI 4 19 20),iA 22 (iF 0 21),iC (.st 1 [none] (.t 22) (.c (.int .i64 2)))] (.seq (.seq (.dreg (T.pure 0 (iA 23 (iF 7 5)) (T.pure 1 (iA 24 (iL 23)) (T.pure 2 (iA 25 (iM 1)) (T.pure 3 (iA 26 (iI 4 24 25)) (T.pure 4 (iA 27 (iF 2 26)) (T.pure 5 (iA 28 (iL 27)) (T.pure 6 (iA 29 (iF 1 2)) (T.pure 7 (iA 30 (iF 1 29)) (T.pure 8 (iA 31 (iL 30)) (T.pure 9 (iA 32 (iP .lss 3 28 31)) T.done))))))))))) (iD 32 (iS [iA 33 (iT 8 5),iC (.st 8 [none,none,none,none,none,some (2,253),none,some (4,172)] (.t 4) (.t 33))] .ret) .skip)) (iS [iA 34 (iF 7 5),iA 35 (iL 34),iA 36 (iM 1),iA 37 (iI 4 35 36),iA 38 (iF 0 37),iC (.st 1 [none] (.t 38) (.c (.int .i64 5)))] (iS [iA 39 (iT 8 5),iA 40 (.call 265 [.t 39,.c (.int .i64 3)]),iC (.st 8 [none,none,none,none,none,some (2,253),none,some (4,172)] (.t 4) (.t 40))] .ret)))))))
theorem jgo:fnC Tryz.prog Tryz.f199=some (jdu,[.cell 4 true 8],41):=by kernel_rfl
def jdD:C:=iS [iA 6 (iM 0),iA 7 (iF 0 6),iA 8 (iF 7 7),iA 9 (iL 8),iA 10 (iG 9),iA 11 (iN 0)] (.blk 0 (.loop (iS [iA 12 (iP .lss 3 11 10)] (.seq (iD 12 .skip (.exit 0)) (.seq (.blk 1 (iS [iA 13 (iM 11),iA 4 (iM 13)] (iS [iA 14 (iM 0),iA 15 (iF 0 14),iA 16 (iF 7 15),iA 17 (iL 16),iA 18 (iM 4),iA 19 (iI 4 17 18),iA 5 (iM 19)] (iS [iA 20 (iM 4),iA 21 (iM 1),iA 22 (iP .neq 3 20 21),iA 23 (iM 22),iB 24 23 true (iM 5),iB 25 23 true (iF 0 24),iB 26 23 true (iF 0 25),iB 27 23 true (iL 26),iB 28 23 true (iQ .neq 3 27 4),iA 29 (.pick (.t 23) (.t 28) (.c (.bool false)))] (iD 29 (iS [iA 30 (iM 5),iA 31 (iF 0 30),iA 32 (iF 0 31),iC (.st 1 [none] (.t 32) (.c (.int .i64 6)))] (.reg [iA 33 (iM 5),iA 34 (iF 0 33),iA 35 (iF 3 34),iC (.st 1 [none] (.t 35) (.c (.int .i64 0)))])) .skip))))) (.reg [iA 36 (iQ .add 3 11 1),iA 11 (iM 36)]))))))
theorem jdn:fnC Tryz.prog Tryz.f236=some (jdD,[],37):=by kernel_rfl
def jiF:C:=iS [iA 5 (iM 0),iA 6 (iF 0 5),iA 7 (iF 7 6),iA 8 (iL 7),iA 9 (iM 1),iA 10 (iI 4 8 9),iA 4 (iM 10)] (iS [iA 11 (iM 4),iA 12 (iF 0 11),iA 13 (iF 3 12),iC (.st 1 [none] (.t 13) (.c (.int .i64 0)))] (.seq (.seq (.dreg (T.pure 0 (iA 14 (iM 4)) (T.pure 1 (iA 15 (iF 0 14)) (T.pure 2 (iA 16 (iF 2 15)) (T.pure 3 (iA 17 (iL 16)) (T.pure 4 (iA 18 (iM 0)) (T.pure 5 (iA 19 (iF 0 18)) (T.pure 6 (iA 20 (iF 1 19)) (T.pure 7 (iA 21 (iF 1 20)) (T.pure 8 (iA 22 (iL 21)) (T.pure 9 (iA 23 (iP .lss 3 17 22)) T.done))))))))))) (iD 23 (iS [iA 24 (iM 4),iA 25 (iF 0 24),iA 26 (iF 0 25),iC (.st 1 [none] (.t 26) (.c (.int .i64 2)))] .ret) .skip)) (iS [iA 27 (iM 4),iA 28 (iF 0 27),iA 29 (iF 0 28),iC (.st 1 [none] (.t 29) (.c (.int .i64 5)))] (iS [iA 30 (iM 0),iA 31 (iM 1),iA 32 (.call 236 [.t 30,.t 31])] (.reg [iA 33 (iM 0),iA 34 (iF 0 33),iA 35 (iF 6 34),iC (.st 1 [none] (.t 35) (.c (.int .i64 3)))])))))
theorem jkY:fnC Tryz.prog Tryz.f225=some (jiF,[],36):=by kernel_rfl
theorem jaX (r:Rn) (t:Int) (hsz:r.plan.edges.length≤4000000) (ht:r.tasks.length≤4000000):jZ Tryz.prog 199 [.agg (jd r),.c (.val (.int .i64 t))] (.agg (jd (jK r t))):=by
 refine jr Tryz.func199 jgo (by simp) ?_
 unfold jdu;simp only [go_sem,jd,ja];intro b b4;refine jc (vX r hsz ht) (by simp only [go_sem,jd,ja]) fun ηc=>?_
 simp only [go_sem,jd,ja];intro b5;refine jc (jeu r t) (by simp only [go_sem,jd,ja]) fun η=>?_
 simp only [go_sem,jd,ja];cases h:zx r t
 ·simp only [go_sem,jd,ja,h,jfe h]
 obtain ⟨k,x,rfl,hx,hs,hP⟩:=jdS h;obtain ⟨n,hn,hn1,h12,h30,hes,hnd,-⟩:=jiQ hP.plan;have hlen:=hP.len;have hkl:=(List.getElem?_eq_some_iff.1 hx).1;have h0t:(k:Int)≥0:=by omega
 have hx2:(r.tasks.set k ⟨x.state,x.need,x.tri,0⟩)[k]?=some ⟨x.state,x.need,x.tri,0⟩:=List.getElem?_set_self hkl;have hx3:(r.tasks.set k ⟨2,x.need,x.tri,0⟩)[k]?=some ⟨2,x.need,x.tri,0⟩:=List.getElem?_set_self hkl;have hkl2:k<(r.tasks.set k ⟨x.state,x.need,x.tri,0⟩).length:=by rw [List.length_set];exact hkl
 have hkl3:k<(r.tasks.set k ⟨2,x.need,x.tri,0⟩).length:=by rw [List.length_set];exact hkl
 simp only [go_sem,jd,ja,Nat.add_zero,h,hkl,h0t,jfg hx,jkD hx,hkl2,vM hx2,qQ hx2,jbu hx2,jac hx2,List.set_set,hkl3,jpQ hx3,jpi hx3,vM hx3,qQ hx3];by_cases hm:x.tri<r.plan.most
 ·have hR:jK r k=⟨r.id,r.plan,r.state,r.tasks.set k ⟨2,x.need,x.tri,0⟩⟩:=by rw [zi hx h,jcr,if_pos hm]
  simp only [go_sem,jd,ja,Nat.add_zero,hm,hR]
 have hR:jK r k=⟨r.id,r.plan,3,jau jX (r.tasks.set k ⟨5,x.need,x.tri,0⟩) r.tasks.length⟩:=by rw [zi hx h,jcr,if_neg hm]
 rw [hR];simp only [go_sem,jd,ja,Nat.add_zero,hm,hkl3,h0t,jbu hx3,jac hx3,vM hx3,qQ hx3,List.set_set];have htl:(r.tasks.set k ⟨5,x.need,x.tri,0⟩).length=r.tasks.length:=by rw [List.length_set]
 generalize r.tasks.set k ⟨5,x.need,x.tri,0⟩=ts0 at*;refine qd (vn (β:=7000000) Tryz.func265 jbm (by simp) ?_)
 unfold ja4;simp only [go_sem,jd,ja];intro b72 b74;refine jp (fun i:Nat=>St.of [(1,Ni 3),(2,Bx 2 b72),(4,Bx 4 b74),(5,Ni i)] [(400,ZRn b4 tRn),(2,ja8 b72 tRn ⟨r.id,r.plan,r.state,jau jX ts0 i⟩ (ηc 5) (ηc 7)),(4,ZRn b74 tRn)]) (fun i=>i≤ts0.length) (fun i=>ts0.length-i) 0 (by (try dsimp only);first|omega|(simp;done)|(and_intros<;>first|omega|simp)) (ji [some 400,some 700000200,some 700000400] (by simp only [go_sem,jd,ja,jsb]<;>and_intros<;>first|rfl|assumption|trivial)) ?_
 rintro j hj;have hml:=jae (f:=jX) (ts:=ts0) (k:=j);by_cases hlt:j<ts0.length
 ·have hlt':(j:Int)<ts0.length:=by omega
  have h0j:(j:Int)≥0:=by omega
  obtain ⟨y,hy⟩:=je hlt;have hyk:=jf5 (f:=jX) hy;have hset:=jf4 (f:=jX) hy;generalize jau jX ts0 j=M at*;have hlm:j<M.length:=by omega
  have hw:IntKind.i64.wrap ((j:Int)+1)=((j+1:Nat):Int):=jj (by omega) (by omega)
  simp only [go_sem,jd,ja,hml,hlt',h0j,hlt,jut hyk,jiW hyk,jo];intro b6;cases hc4:y.state !=4
  ·have hst4:y.state=4:=by simpa using hc4
   have hg0:jX j y=y:=by simp [jX,hst4]
   have hg:jX j y=⟨y.state,y.need,y.tri,y.til⟩:=hg0;rw [hg] at hset;simp only [go_sem,jd,ja,Nat.add_zero,hml,hlt',h0j,hlt,hc4,jb6 y.state y.need y.tri y.til hlm,hset,jiW hyk,hw];exact ⟨j+1,by (try dsimp only);first|omega|assumption|(and_intros<;>first|omega|assumption),(ji [some 400,some 2,some 4] (by simp only [go_sem,jd,ja]<;>and_intros<;>first|rfl|assumption|trivial)),by (try dsimp only);omega⟩
  cases hc5:y.state !=5
  ·have hst5:y.state=5:=by simpa using hc5
   have hg0:jX j y=y:=by simp [jX,hst5]
   have hg:jX j y=⟨y.state,y.need,y.tri,y.til⟩:=hg0;rw [hg] at hset;simp only [go_sem,jd,ja,Nat.add_zero,hml,hlt',h0j,hlt,hc4,hc5,jb6 y.state y.need y.tri y.til hlm,hset,jiW hyk,hw];exact ⟨j+1,by (try dsimp only);first|omega|assumption|(and_intros<;>first|omega|assumption),(ji [some 400,some 2,some 4] (by simp only [go_sem,jd,ja]<;>and_intros<;>first|rfl|assumption|trivial)),by (try dsimp only);omega⟩
  ·have hg:jX j y=⟨6,y.need,y.tri,0⟩:=by
    have h1:¬y.state=4:=by simpa using hc4
    have h2:¬y.state=5:=by simpa using hc5
    simp [jX,h1,h2]
   rw [hg] at hset;simp only [go_sem,jd,ja,Nat.add_zero,hml,hlt',h0j,hlt,hc4,hc5,jb6 6 y.need y.tri 0 hlm,hset,jiW hyk,hw];exact ⟨j+1,by (try dsimp only);first|omega|assumption|(and_intros<;>first|omega|assumption),(ji [some 400,some 2,some 4] (by simp only [go_sem,jd,ja]<;>and_intros<;>first|rfl|assumption|trivial)),by (try dsimp only);omega⟩
 have hlt':¬(j:Int)<ts0.length:=by omega
 obtain rfl:j=ts0.length:=by omega
 rw [←htl];generalize jau jX ts0 ts0.length=M at*;simp only [go_sem,jd,ja,Nat.add_zero,hml,hlt']
theorem jho {y:Yd} (h:jt y≤2000000):y.runs.length≤2000000:=by
 simp only [jt,qx] at h;omega
theorem jrJ {y:Yd} (h:jt y≤2000000):y.shelf.length≤2000000:=by
 simp only [jt,vP] at h;omega
theorem jCV (l:List (List En)):l.flatten.length≤vP l:=by
 induction l with
 |nil=>simp
 |cons x l ih=>
  simp only [List.flatten_cons,List.length_append,vP,List.length_cons,ke,List.map_cons,List.sum_cons,kH] at ih⊢;omega
theorem jkI {l:List (List En)} {k:Nat} {x:List En} (h:l[k]?=some x):(l.take (k+1)).flatten=(l.take k).flatten++x:=by
 rw [List.take_add_one,h];simp
theorem jdg (l:List (List En)) (k:Nat):(l.take k).flatten.length≤l.flatten.length:=by
 have h:l.flatten=(l.take k).flatten++(l.drop k).flatten:=by rw [←List.flatten_append,List.take_append_drop]
 rw [h,List.length_append];omega
theorem zS {y:Yd} (h:jt y≤2000000):y.shelf.flatten.length≤2000000:=by
 have:=jCV y.shelf;simp only [jt] at h;omega
theorem jq9 {α:Type} {f:α→Bool} {l:List α} {k:Nat} {x:α} (h:l[k]?=some x):(l.take (k+1)).filter f=if f x=true then (l.take k).filter f++[x] else (l.take k).filter f:=by
 rw [List.take_add_one,h];cases hx:f x<;>simp [List.filter_append,hx]
def jbp:C:=iS [iA 2 (.mov (.c (.slice none 0 0)))] (iS [iA 3 (iM 0),iA 4 (.app 111 4 32 (.c (.slice none 0 0)) (.t 3)),iA 2 (iM 4)] .ret)
theorem jdp:fnC Tryz.prog Tryz.f208=some (jbp,[.t 2],5):=by kernel_rfl
def jdE:C:=iS [iA 1 (.box 37 4 (.t 0)),iA 2 (.alloc 37 [.int .i64 0,.int .i64 0,.slice none 0 0,.slice none 0 0])] (iS [iA 8 (iF 0 1),iA 9 (iL 8),iA 10 (iF 1 1),iA 11 (iL 10),iA 12 (.bld [.int .i64 0,.int .i64 0,.slice none 0 0,.slice none 0 0] [(0,1,.t 9),(1,1,.t 11)]),iA 3 (.alloc 37 [.int .i64 0,.int .i64 0,.slice none 0 0,.slice none 0 0]),iC (.st 4 [none,none,some (1,102),some (8,108)] (.t 3) (.t 12))] (.seq (iS [iA 13 (iF 2 1),iA 14 (iL 13),iA 15 (iG 14),iA 16 (iN 0)] (.blk 0 (.loop (iS [iA 17 (iP .lss 3 16 15)] (.seq (iD 17 .skip (.exit 0)) (.seq (.blk 1 (iS [iA 18 (iI 1 14 16),iA 19 (iL 18),iA 5 (iM 19)] (.dreg (T.pure 0 (iA 20 (iF 2 3)) (T.pure 1 (iA 21 (iL 20)) (T.pure 2 (iA 22 (iM 5)) (T.alt (iA 23 (.call 208 [.t 22])) [1,0] (T.alt (iA 24 (.bsl 102 1 1 [some (4,111)] [(0,1,.t 23)])) [1,0] (T.alt (iA 25 (.app 102 1 24 (.t 21) (.t 24))) [] (T.pure 6 (iA 26 (iF 2 3)) (T.alt (iC (.st 1 [some (1,102)] (.t 26) (.t 25))) [] T.done T.stop)) T.stop) T.stop) T.stop))))))) (.reg [iA 27 (iQ .add 3 16 1),iA 16 (iM 27)]))))))) (.seq (iS [iA 28 (iF 3 1),iA 29 (iL 28),iA 30 (iG 29),iA 31 (iN 0)] (.blk 2 (.loop (iS [iA 32 (iP .lss 3 31 30)] (.seq (iD 32 .skip (.exit 2)) (.seq (.blk 3 (iS [iA 33 (iI 8 29 31),iA 34 (iT 8 33),iA 7 (.alloc 108 [.int .i64 0,.int .i64 0,.int .i64 0,.int .i64 0,.int .i64 0,.slice none 0 0,.int .i64 0,.slice none 0 0]),iC (.st 8 [none,none,none,none,none,some (2,253),none,some (4,172)] (.t 7) (.t 34))] (.dreg (T.pure 0 (iA 35 (iF 3 3)) (T.pure 1 (iA 36 (iL 35)) (T.pure 2 (iA 37 (iT 8 7)) (T.alt (iA 38 (.call 209 [.t 37])) [1,0] (T.alt (iA 39 (.bsl 108 8 1 [none,none,none,none,none,some (2,253),none,some (4,172)] [(0,8,.t 38)])) [1,0] (T.alt (iA 40 (.app 108 8 96 (.t 36) (.t 39))) [] (T.pure 6 (iA 41 (iF 3 3)) (T.alt (iC (.st 1 [some (8,108)] (.t 41) (.t 40))) [] T.done T.stop)) T.stop) T.stop) T.stop))))))) (.reg [iA 42 (iQ .add 3 31 1),iA 31 (iM 42)]))))))) (iS [iA 43 (iT 4 3),iC (.st 4 [none,none,some (1,102),some (8,108)] (.t 2) (.t 43))] .ret))))
theorem jgw:fnC Tryz.prog Tryz.f118=some (jdE,[.cell 2 true 4],44):=by kernel_rfl
def jeH:C:=iS [iA 1 (.box 37 4 (.t 0)),iA 2 (.alloc 37 [.int .i64 0,.int .i64 0,.slice none 0 0,.slice none 0 0])] (iS [iA 6 (iF 0 1),iA 7 (iL 6),iA 8 (iF 1 1),iA 9 (iL 8),iA 10 (.bld [.int .i64 0,.int .i64 0,.slice none 0 0,.slice none 0 0] [(0,1,.t 7),(1,1,.t 9)]),iA 3 (.alloc 37 [.int .i64 0,.int .i64 0,.slice none 0 0,.slice none 0 0]),iC (.st 4 [none,none,some (1,102),some (8,108)] (.t 3) (.t 10))] (.seq (iS [iA 4 (iN 0)] (.blk 0 (.loop (.seq (iS [iA 11 (iM 4),iA 12 (iF 2 1),iA 13 (iL 12),iA 14 (iG 13),iA 15 (iP .lss 3 11 14)] (iD 15 .skip (.exit 0))) (.seq (.blk 1 (.dreg (T.pure 0 (iA 18 (iF 2 3)) (T.pure 1 (iA 19 (iL 18)) (T.pure 3 (iA 21 (iF 2 1)) (T.pure 4 (iA 22 (iL 21)) (T.pure 5 (iA 23 (iM 4)) (T.pure 6 (iA 24 (iI 1 22 23)) (T.pure 7 (iA 25 (iL 24)) (T.alt (iA 20 (.bsl 111 4 0 [] [])) [7,6,5,4,3,1,0] (T.alt (iA 26 (.app 111 4 32 (.t 20) (.t 25))) [1,0] (T.alt (iA 27 (.bsl 102 1 1 [some (4,111)] [(0,1,.t 26)])) [1,0] (T.alt (iA 28 (.app 102 1 24 (.t 19) (.t 27))) [] (T.pure 11 (iA 29 (iF 2 3)) (T.alt (iC (.st 1 [some (1,102)] (.t 29) (.t 28))) [] T.done T.stop)) T.stop) T.stop) T.stop) T.stop)))))))))) (.reg [iA 16 (iM 4),iA 17 (iQ .add 3 16 1),iA 4 (iM 17)])))))) (.seq (iS [iA 5 (iN 0)] (.blk 2 (.loop (.seq (iS [iA 30 (iM 5),iA 31 (iF 3 1),iA 32 (iL 31),iA 33 (iG 32),iA 34 (iP .lss 3 30 33)] (iD 34 .skip (.exit 2))) (.seq (.blk 3 (.dreg (T.pure 0 (iA 37 (iF 3 3)) (T.pure 1 (iA 38 (iL 37)) (T.pure 2 (iA 39 (iF 3 1)) (T.pure 3 (iA 40 (iL 39)) (T.pure 4 (iA 41 (iM 5)) (T.pure 5 (iA 42 (iI 8 40 41)) (T.pure 6 (iA 43 (iT 8 42)) (T.alt (iA 44 (.call 185 [.t 43])) [1,0] (T.alt (iA 45 (.bsl 108 8 1 [none,none,none,none,none,some (2,253),none,some (4,172)] [(0,8,.t 44)])) [1,0] (T.alt (iA 46 (.app 108 8 96 (.t 38) (.t 45))) [] (T.pure 10 (iA 47 (iF 3 3)) (T.alt (iC (.st 1 [some (8,108)] (.t 47) (.t 46))) [] T.done T.stop)) T.stop) T.stop) T.stop)))))))))) (.reg [iA 35 (iM 5),iA 36 (iQ .add 3 35 1),iA 5 (iM 36)])))))) (iS [iA 48 (iT 4 3),iC (.st 4 [none,none,some (1,102),some (8,108)] (.t 2) (.t 48))] .ret))))
theorem jhP:fnC Tryz.prog Tryz.f105=some (jeH,[.cell 2 true 4],49):=by kernel_rfl
abbrev kw (b ty:Nat) (now seq:Int) (sh:List (List En)) (e1:jq) (rn:List Rn) (e2:jq):Ob:=.box b ty [.a (.v (.int .i64 now)),.a (.v (.int .i64 seq)),.own (kj sh) e1,.own (jN rn) e2]
abbrev ZYd (b ty:Nat):Ob:=.box b ty [.a (.v (.int .i64 0)),.a (.v (.int .i64 0)),.a (.v (.slice none 0 0)),.a (.v (.slice none 0 0))]
theorem ko (l:List En):D.sl 4 tEn (l.flatMap jf)=jk l:=rfl
theorem jqd (l:List (List En)) (x:List En):D.sl 1 jn2 (l.flatMap (fun es=>[jk es])++[jk x])=kj (l++[x]):=by simp [kj]
theorem jjF (l:List Rn) (r:Rn):D.sl 8 tRn (l.flatMap jd++[.val (.int .i64 r.id),.val (.int .i64 r.plan.prio),.val (.int .i64 r.plan.most),.val (.int .i64 r.plan.wait),.val (.int .i64 r.plan.tasks),ju r.plan.edges,.val (.int .i64 r.state),jy r.tasks])=jN (l++[r]):=by simp [jN,jd,ja]
theorem jbF {y:Yd} (ht:jt y≤2000000) {l:List En} (h:l∈y.shelf):l.length≤4000000:=by
 obtain ⟨k,hk,rfl⟩:=List.getElem_of_mem h;have h1:=List.getElem?_eq_getElem hk;have h2:=kW (tot:=kH) h1;have h3:=qW kH y.shelf (k+1);simp only [jt,vP,kH] at*;omega
theorem jcW {y:Yd} (ht:jt y≤2000000) {r:Rn} (h:r∈y.runs):r.plan.edges.length≤4000000∧r.tasks.length≤4000000:=by
 obtain ⟨k,hk,rfl⟩:=List.getElem_of_mem h;have h1:=List.getElem?_eq_getElem hk;have h2:=kW (tot:=kq) h1;have h3:=qW kq y.runs (k+1);simp only [jt,qx,kq,jah] at*;omega
theorem kg (l:List En) (hl:l.length≤4000000):jZ Tryz.prog 208 [.c (jk l)] (.c (jk l)):=by
 refine jr Tryz.func208 jdp (by simp) ?_
 unfold jbp;have h1:l.length≤maxLen:=by unfold maxLen;omega
 have h2:l.length*32≤140737488355328:=by omega
 simp only [go_sem,h1,h2,ko]
theorem ka (y:Yd) (ht:jt y≤2000000):jZ Tryz.prog 118 [.agg (jb y)] (.agg (jb y)):=by
 refine jr Tryz.func118 jgw (by simp) ?_
 unfold jdE;have hsl:y.shelf.length≤2000000:=by simp only [jt,vP] at ht;omega
 have hrl:=jho ht;simp only [go_sem,jb];intro b1 b2 b3;refine jp (fun i:Nat×jq=>St.of [(1,Bx 100 b1),(2,Bx 200 b2),(3,Bx 300 b3),(14,Ro (kj y.shelf)),(15,Ni y.shelf.length),(16,Ni i.1)] [(100,Bi b1 _ (jb y)),(200,ZYd b2 _),(300,.box b3 _ [.a (.v (.int .i64 y.now)),.a (.v (.int .i64 y.seq)),.own (kj (y.shelf.take i.1)) i.2,.a (.v (.slice none 0 0))])]) (fun i=>i.1≤y.shelf.length) (fun i=>y.shelf.length-i.1) (0,jeA) (by (try dsimp only);first|omega|(simp;done)|(and_intros<;>first|omega|simp)) (ji [some 100,some 200,some 300] (by simp only [go_sem,jb,List.take_zero]<;>and_intros<;>first|rfl|assumption|trivial)) ?_
 rintro ⟨k,η⟩ hk;dsimp only at hk;by_cases hlt:k<y.shelf.length
 ·have hlt':(k:Int)<y.shelf.length:=by omega
  obtain ⟨l,hl⟩:=je hlt;have hw:IntKind.i64.wrap ((k:Int)+1)=((k+1:Nat):Int):=jj (by omega) (by omega)
  have hm1:k+1≤maxLen:=by unfold maxLen;omega
  have hm2:(k+1)*24≤140737488355328:=by omega
  have htk:(y.shelf.take k).length=k:=by rw [List.length_take];omega
  have hts:y.shelf.take (k+1)=y.shelf.take k++[l]:=by rw [List.take_add_one,hl];rfl
  generalize y.shelf.take k=M at*;simp only [go_sem,jb,hlt,hlt',kY hl];refine jc (kg l (jbF ht (List.mem_of_getElem? hl))) (by simp only [go_sem,jb]) fun η=>?_
  simp only [go_sem,jb];simp only [go_sem,htk,hm1,hm2,jqd];intro η7 η8;simp only [go_sem,hw];exact ⟨(k+1,η8),by (try dsimp only);first|omega|assumption|(and_intros<;>first|omega|assumption),(ji [some 100,some 200,some 300] (by simp only [go_sem,jb,hts]<;>and_intros<;>first|rfl|assumption|trivial)),by (try dsimp only);omega⟩
 have hlt':¬(k:Int)<y.shelf.length:=by omega
 rw [List.take_of_length_le (by omega)]
 simp only [go_sem,jb,hlt'];refine jp (fun i:Nat×jq=>St.of [(1,Bx 100 b1),(2,Bx 200 b2),(3,Bx 300 b3),(29,Ro (jN y.runs)),(30,Ni y.runs.length),(31,Ni i.1)] [(100,Bi b1 _ (jb y)),(200,ZYd b2 _),(300,kw b3 _ y.now y.seq y.shelf η (y.runs.take i.1) i.2)]) (fun i=>i.1≤y.runs.length) (fun i=>y.runs.length-i.1) (0,jeA) (by (try dsimp only);first|omega|(simp;done)|(and_intros<;>first|omega|simp)) (ji [some 100,some 200,some 300] (by simp only [go_sem,jb,List.take_zero]<;>and_intros<;>first|rfl|assumption|trivial)) ?_
 rintro ⟨j,η2⟩ hj;dsimp only at hj;by_cases hjl:j<y.runs.length
 ·have hjl':(j:Int)<y.runs.length:=by omega
  obtain ⟨r,hr⟩:=je hjl;have hw:IntKind.i64.wrap ((j:Int)+1)=((j+1:Nat):Int):=jj (by omega) (by omega)
  have hm1:j+1≤maxLen:=by unfold maxLen;omega
  have hm2:(j+1)*96≤140737488355328:=by omega
  have hjk:(y.runs.take j).length=j:=by rw [List.length_take];omega
  have hjs:y.runs.take (j+1)=y.runs.take j++[r]:=by rw [List.take_add_one,hr];rfl
  have hrb:=jcW ht (List.mem_of_getElem? hr);generalize y.runs.take j=M at*;simp only [go_sem,jb,hjl,hjl',jW hr,jd,ja];intro b7;refine jc (jey r hrb.1 hrb.2) (by simp only [go_sem,jb,jd,ja]) fun η=>?_
  simp only [go_sem,jb,jd,ja];simp only [go_sem,hjk,hm1,hm2,jjF];intro η7 η8;simp only [go_sem,hw];exact ⟨(j+1,η8),by (try dsimp only);first|omega|assumption|(and_intros<;>first|omega|assumption),(ji [some 100,some 200,some 300] (by simp only [go_sem,jb,hjs]<;>and_intros<;>first|rfl|assumption|trivial)),by (try dsimp only);omega⟩
 have hjl':¬(j:Int)<y.runs.length:=by omega
 rw [List.take_of_length_le (by omega)]
 simp only [go_sem,jb,hjl']
theorem kp (y:Yd) (ht:jt y≤2000000):jZ Tryz.prog 105 [.agg (jb y)] (.agg (jb y)):=by
 refine jr Tryz.func105 jhP (by simp) ?_
 unfold jeH;have hsl:y.shelf.length≤2000000:=by simp only [jt,vP] at ht;omega
 have hrl:=jho ht;simp only [go_sem,jb];intro b1 b2 b3;refine jp (fun i:Nat×jq=>St.of [(1,Bx 100 b1),(2,Bx 200 b2),(3,Bx 300 b3),(4,Ni i.1)] [(100,Bi b1 _ (jb y)),(200,ZYd b2 _),(300,.box b3 _ [.a (.v (.int .i64 y.now)),.a (.v (.int .i64 y.seq)),.own (kj (y.shelf.take i.1)) i.2,.a (.v (.slice none 0 0))])]) (fun i=>i.1≤y.shelf.length) (fun i=>y.shelf.length-i.1) (0,jeA) (by (try dsimp only);first|omega|(simp;done)|(and_intros<;>first|omega|simp)) (ji [some 100,some 200,some 300] (by simp only [go_sem,jb,List.take_zero]<;>and_intros<;>first|rfl|assumption|trivial)) ?_
 rintro ⟨k,η⟩ hk;dsimp only at hk;by_cases hlt:k<y.shelf.length
 ·have hlt':(k:Int)<y.shelf.length:=by omega
  have h0k:(k:Int)≥0:=by omega
  obtain ⟨l,hl⟩:=je hlt;have hll:=jbF ht (List.mem_of_getElem? hl);have hw:IntKind.i64.wrap ((k:Int)+1)=((k+1:Nat):Int):=jj (by omega) (by omega)
  have hm1:k+1≤maxLen:=by unfold maxLen;omega
  have hm2:(k+1)*24≤140737488355328:=by omega
  have hm3:l.length≤maxLen:=by unfold maxLen;omega
  have hm4:l.length*32≤140737488355328:=by omega
  have htk:(y.shelf.take k).length=k:=by rw [List.length_take];omega
  have hts:y.shelf.take (k+1)=y.shelf.take k++[l]:=by rw [List.take_add_one,hl];rfl
  generalize y.shelf.take k=M at*;simp only [go_sem,jb,hlt,hlt',h0k,kY hl,hm3,hm4,ko];intro η5 η6;simp only [go_sem,htk,hm1,hm2,hm3,hm4,ko,jqd];intro η7 η8;simp only [go_sem,hw];exact ⟨(k+1,η8),by (try dsimp only);first|omega|assumption|(and_intros<;>first|omega|assumption),(ji [some 100,some 200,some 300] (by simp only [go_sem,jb,hts]<;>and_intros<;>first|rfl|assumption|trivial)),by (try dsimp only);omega⟩
 have hlt':¬(k:Int)<y.shelf.length:=by omega
 rw [List.take_of_length_le (by omega)]
 simp only [go_sem,jb,hlt'];refine jp (fun i:Nat×jq=>St.of [(1,Bx 100 b1),(2,Bx 200 b2),(3,Bx 300 b3),(5,Ni i.1)] [(100,Bi b1 _ (jb y)),(200,ZYd b2 _),(300,kw b3 _ y.now y.seq y.shelf η (y.runs.take i.1) i.2)]) (fun i=>i.1≤y.runs.length) (fun i=>y.runs.length-i.1) (0,jeA) (by (try dsimp only);first|omega|(simp;done)|(and_intros<;>first|omega|simp)) (ji [some 100,some 200,some 300] (by simp only [go_sem,jb,List.take_zero]<;>and_intros<;>first|rfl|assumption|trivial)) ?_
 rintro ⟨j,η2⟩ hj;dsimp only at hj;by_cases hjl:j<y.runs.length
 ·have hjl':(j:Int)<y.runs.length:=by omega
  have h0j:(j:Int)≥0:=by omega
  obtain ⟨r,hr⟩:=je hjl;have hw:IntKind.i64.wrap ((j:Int)+1)=((j+1:Nat):Int):=jj (by omega) (by omega)
  have hm1:j+1≤maxLen:=by unfold maxLen;omega
  have hm2:(j+1)*96≤140737488355328:=by omega
  have hjk:(y.runs.take j).length=j:=by rw [List.length_take];omega
  have hjs:y.runs.take (j+1)=y.runs.take j++[r]:=by rw [List.take_add_one,hr];rfl
  have hrb:=jcW ht (List.mem_of_getElem? hr);generalize y.runs.take j=M at*;simp only [go_sem,jb,hjl,hjl',h0j,jW hr,jd,ja];refine jc (vX r hrb.1 hrb.2) (by simp only [go_sem,jb,jd,ja]) fun η=>?_
  simp only [go_sem,jb,jd,ja];simp only [go_sem,hjk,hm1,hm2,jjF];intro η7 η8;simp only [go_sem,hw];exact ⟨(j+1,η8),by (try dsimp only);first|omega|assumption|(and_intros<;>first|omega|assumption),(ji [some 100,some 200,some 300] (by simp only [go_sem,jb,hjs]<;>and_intros<;>first|rfl|assumption|trivial)),by (try dsimp only);omega⟩
 have hjl':¬(j:Int)<y.runs.length:=by omega
 rw [List.take_of_length_le (by omega)]
 simp only [go_sem,jb,hjl']
def jbU:C:=iS [iA 1 (.box 37 4 (.t 0)),iA 2 (.mov (.c (.slice none 0 0)))] (iS [iA 5 (.bsl 111 4 0 [] []),iA 3 (iM 5)] (.seq (iS [iA 4 (iN 0)] (.blk 0 (.loop (.seq (iS [iA 6 (iM 4),iA 7 (iF 2 1),iA 8 (iL 7),iA 9 (iG 8),iA 10 (iP .lss 3 6 9)] (iD 10 .skip (.exit 0))) (.seq (.blk 1 (.reg [iA 13 (iM 3),iA 14 (iF 2 1),iA 15 (iL 14),iA 16 (iM 4),iA 17 (iI 1 15 16),iA 18 (iL 17),iA 19 (.app 111 4 32 (.t 13) (.t 18)),iA 3 (iM 19)])) (.reg [iA 11 (iM 4),iA 12 (iQ .add 3 11 1),iA 4 (iM 12)])))))) (iS [iA 20 (iM 3),iA 2 (iM 20)] .ret)))
theorem jeh:fnC Tryz.prog Tryz.f140=some (jbU,[.t 2],21):=by kernel_rfl
def jbX:C:=iS [iA 1 (.box 37 4 (.t 0)),iA 2 (.mov (.c (.slice none 0 0)))] (iS [iA 3 (.mov (.c (.slice none 0 0)))] (.seq (iS [iA 6 (iF 2 1),iA 7 (iL 6),iA 8 (iG 7),iA 9 (iN 0)] (.blk 0 (.loop (iS [iA 10 (iP .lss 3 9 8)] (.seq (iD 10 .skip (.exit 0)) (.seq (.blk 1 (iS [iA 11 (iI 1 7 9),iA 12 (iL 11),iA 5 (iM 12)] (.reg [iA 13 (iM 3),iA 14 (iM 5),iA 15 (.app 111 4 32 (.t 13) (.t 14)),iA 3 (iM 15)]))) (.reg [iA 16 (iQ .add 3 9 1),iA 9 (iM 16)]))))))) (iS [iA 17 (iM 3),iA 2 (iM 17)] .ret)))
theorem jek:fnC Tryz.prog Tryz.f133=some (jbX,[.t 2],18):=by kernel_rfl
theorem joR (y:Yd) (e:En):jZ Tryz.prog 57 [.agg (jb y),.agg (jf e)] (.c (.val (.bool (kD y e)))):=jhw ⟨_,Tryz.func57,by kernel_rfl,by kernel_rfl⟩ fun w a b ⟨S,ha⟩ ⟨S2,hb⟩=>jnB y e a b S S2 w false false ha hb
theorem joN (y:Yd) (e:En):jZ Tryz.prog 141 [.agg (jb y),.agg (jf e)] (.c (.val (.bool (kD y e)))):=jhw ⟨_,Tryz.func141,by kernel_rfl,by kernel_rfl⟩ fun w a b ⟨S,ha⟩ ⟨S2,hb⟩=>jrL y e a b S S2 w false false ha hb
theorem jxc (l m:List En):D.sl 4 tEn (l.flatMap jf++m.flatMap jf)=jk (l++m):=by simp [jk]
theorem jbL (y:Yd) (ht:jt y≤2000000):jZ Tryz.prog 140 [.agg (jb y)] (.c (jk y.shelf.flatten)):=by
 refine jr Tryz.func140 jeh (by simp) ?_
 unfold jbU;have hl:=jrJ ht;have hf:=zS ht;simp only [go_sem,jb];intro b η0;refine vI (fun s=>∃(k g ty:Nat) (η:jq),k≤y.shelf.length∧(g=500∨g=1900)∧s.t 1=.c (.bp 100 0 b)∧s.o 100=.box b ty ((jb y).map fun x=>.a x.toRo)∧s.t 4=.c (.v (.int .i64 k))∧s.t 3=.c (.h g 0 [] (η []))∧s.o g=.loose (jk (y.shelf.take k).flatten) η) (fun s=>y.shelf.length-s.n 4) ?_ ?_
 ·exact ⟨0,500,_,η0,Nat.zero_le _,.inl rfl,by simp only [go_sem]<;>rfl,by simp only [go_sem]<;>rfl,by simp only [go_sem]<;>rfl,by simp only [go_sem]<;>rfl,by simp only [go_sem]<;>rfl⟩
 ·rintro s ⟨k,g,ty,η,hk,hg,h1,ho1,h4,h3,hob⟩
  by_cases hlt:k<y.shelf.length
  ·have hlt':(k:Int)<y.shelf.length:=by omega
   obtain ⟨x,hx⟩:=je hlt;have hw:IntKind.i64.wrap ((k:Int)+1)=((k+1:Nat):Int):=jj (by omega) (by omega)
   have hn:=jkI hx;have hle:=jdg y.shelf (k+1);rw [hn,List.length_append] at hle;generalize (y.shelf.take k).flatten=l at*;have h1':l.length+x.length≤maxLen:=by unfold maxLen;omega
   have h2':(l.length+x.length)*32≤140737488355328:=by omega
   rcases hg with rfl|rfl
   all_goals
    simp only [go_sem,h1,ho1,h4,h3,hob,jb,hlt,hlt',kY hx,h1',h2',hw,jxc];intro η2;refine ⟨⟨k+1,1900,ty,η2,?_⟩,?_⟩
    ·and_intros<;>first|rfl|omega|exact .inr rfl|(rw [hn];rfl)
    ·rw [jcR (k:=.i64) (n:=((k+1:Nat):Int)) (by simp only [go_sem]),jcR h4];omega
  ·have hlt':¬(k:Int)<y.shelf.length:=by omega
   rw [List.take_of_length_le (by omega)] at hob
   rcases hg with rfl|rfl
   all_goals
    simp only [go_sem,h1,ho1,h4,h3,hob,jb,hlt']
theorem jhC (y:Yd) (ht:jt y≤2000000):jZ Tryz.prog 133 [.agg (jb y)] (.c (jk y.shelf.flatten)):=by
 refine jr Tryz.func133 jek (by simp) ?_
 unfold jbX;have hl:=jrJ ht;have hf:=zS ht;simp only [go_sem,jb];intro b;refine vI (fun s=>∃k:Nat,k≤y.shelf.length∧s.t 7=.c (.ro (kj y.shelf))∧s.t 8=.c (.v (.int .i64 y.shelf.length))∧s.t 9=.c (.v (.int .i64 k))∧(((y.shelf.take k).flatten=[]∧s.t 3=.c (.v (.slice none 0 0)))∨∃η:jq,s.t 3=.c (.h 1500 0 [] (η []))∧s.o 1500=.loose (jk (y.shelf.take k).flatten) η)) (fun s=>y.shelf.length-s.n 9) ?_ ?_
 ·exact ⟨0,Nat.zero_le _,by simp only [go_sem]<;>rfl,by simp only [go_sem]<;>rfl,by simp only [go_sem]<;>rfl,.inl ⟨rfl,by simp only [go_sem]⟩⟩
 ·rintro s ⟨k,hk,h7,h8,h9,hg⟩
  by_cases hlt:k<y.shelf.length
  ·have hlt':(k:Int)<y.shelf.length:=by omega
   obtain ⟨x,hx⟩:=je hlt;have hw:IntKind.i64.wrap ((k:Int)+1)=((k+1:Nat):Int):=jj (by omega) (by omega)
   have hn:=jkI hx;have hle:=jdg y.shelf (k+1);rw [hn,List.length_append] at hle;generalize (y.shelf.take k).flatten=l at*;have h1':l.length+x.length≤maxLen:=by unfold maxLen;omega
   have h2':(l.length+x.length)*32≤140737488355328:=by omega
   rcases hg with ⟨hnil,h3⟩|⟨η,h3,hob⟩
   ·have h3':x.length≤maxLen:=by unfold maxLen;omega
    have h4':x.length*32≤140737488355328:=by omega
    rw [hnil,List.nil_append] at hn;simp only [go_sem,h7,h8,h9,h3,hlt,hlt',kY hx,hw,h3',h4',jq7];intro η2;refine ⟨⟨k+1,by omega,rfl,.inr ⟨η2,rfl,by rw [hn]⟩⟩,?_⟩
    rw [jcR (k:=.i64) (n:=((k+1:Nat):Int)) (by simp only [go_sem]),jcR h9];omega
   ·simp only [go_sem,h7,h8,h9,h3,hob,hlt,hlt',kY hx,hw,h1',h2',jxc]
    intro η2;refine ⟨⟨k+1,by omega,rfl,.inr ⟨η2,rfl,by rw [hn]⟩⟩,?_⟩
    rw [jcR (k:=.i64) (n:=((k+1:Nat):Int)) (by simp only [go_sem]),jcR h9];omega
  ·have hlt':¬(k:Int)<y.shelf.length:=by omega
   have hk':y.shelf.take k=y.shelf:=List.take_of_length_le (by omega)
   rcases hg with ⟨hnil,h3⟩|⟨η,h3,hob⟩
   ·rw [hk'] at hnil
    simp only [go_sem,h7,h8,h9,h3,hlt',hnil]
   ·rw [hk'] at hob
    simp only [go_sem,h7,h8,h9,h3,hob,hlt']
end Go.Proofs.YtmnpailnelmpiaaGreat
