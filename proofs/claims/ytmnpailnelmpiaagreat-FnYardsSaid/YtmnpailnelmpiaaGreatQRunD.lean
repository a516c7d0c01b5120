/- Parts. -/
import Derived.Test.YtmnpailnelmpiaaGreatQRunOk
set_option linter.unusedSimpArgs false
set_option linter.unusedVariables false
set_option maxHeartbeats 8000000
set_option maxRecDepth 100000
namespace Go.Proofs.YtmnpailnelmpiaaGreat
open Go.RowKit Go.Sort
theorem jmM {α:Type} {A B C v:List α} {o j:Nat} (ho:o=A.length+j) (hj:j+v.length≤B.length):kC (A++(B++C)) o v=A++(kC B j v++C):=by
 subst ho;rw [kQ _ _ _ (by simp only [List.length_append];omega),kQ _ _ _ hj]
 have h1:(A++(B++C)).take (A.length+j)=A++B.take j:=by
  rw [List.take_append,List.take_of_length_le (by omega),Nat.add_sub_cancel_left,List.take_append_of_le_length (by omega)]
 have h2:(A++(B++C)).drop (A.length+j+v.length)=B.drop (j+v.length)++C:=by
  rw [List.drop_append,List.drop_eq_nil_of_le (by omega),List.nil_append,show A.length+j+v.length-A.length=j+v.length by omega,List.drop_append_of_le_length (by omega)]
 rw [h1,h2];simp only [List.append_assoc]
section
variable {α:Type} {enc:α→List D} {size ty:Nat} {l:List α} {k:Nat} {x:α}
theorem ja3 (hx:l[k]?=some x):l.flatMap enc=(l.take k).flatMap enc++(enc x++(l.drop (k+1)).flatMap enc):=by
 obtain ⟨hk,he⟩:=List.getElem?_eq_some_iff.1 hx;have e:l=l.take k++x::l.drop (k+1):=by rw [←he,←List.drop_eq_getElem_cons hk,List.take_append_drop]
 have h2:=congrArg (List.flatMap enc) e;rw [h2,List.flatMap_append,List.flatMap_cons]
theorem jic (hs:∀x,(enc x).length=size) (hx:l[k]?=some x):((l.take k).flatMap enc).length=k*size:=by
 have hk:=(List.getElem?_eq_some_iff.1 hx).1;rw [jG hs,List.length_take,Nat.min_eq_left (by omega)]
theorem ja7 (hs:∀x,(enc x).length=size) (hx:l[k]?=some x) {y:α} {j:Nat} {v:List D} (hy:kC (enc x) j v=enc y) (hj:j+v.length≤size):D.put [] (k*size+j) v (.sl size ty (l.flatMap enc))=.sl size ty ((l.set k y).flatMap enc):=by
 have hk:=(List.getElem?_eq_some_iff.1 hx).1;have h2:(l.set k y)[k]?=some y:=List.getElem?_set_self hk;have e1:(l.set k y).take k=l.take k:=List.take_set_of_le (Nat.le_refl k);have e2:(l.set k y).drop (k+1)=l.drop (k+1):=List.drop_set_of_lt (Nat.lt_succ_self k);simp only [D.put];rw [ja3 hx,jmM (by rw [jic hs hx]) (by rw [hs];exact hj),hy,ja3 h2,e1,e2]
theorem qv (hs:∀x,(enc x).length=size) (hx:l[k]?=some x) {j n:Nat} (hj:j+n≤size):((l.flatMap enc).drop (k*size+j)).take n=((enc x).drop j).take n:=by
 rw [ja3 hx,←List.drop_drop,List.drop_left' (jic hs hx),List.drop_append_of_le_length (by rw [hs];omega),List.take_append_of_le_length (by rw [List.length_drop,hs];omega)]
theorem qs (hs:∀x,(enc x).length=size) (hx:l[k]?=some x) {j n:Nat} (hj:j+n≤size):k*size+j+n≤(l.flatMap enc).length:=by
 have hk:=(List.getElem?_eq_some_iff.1 hx).1;rw [jG hs];have:(k+1)*size≤l.length*size:=Nat.mul_le_mul_right _ hk;rw [Nat.succ_mul] at this;omega
end
section
variable {l:List Tk} {k:Nat} {x:Tk}
theorem jaQ (hx:l[k]?=some x) (v:Int):D.put [] (k*4) [.val (.int .i64 v)] (jI l)=jI (l.set k ⟨v,x.need,x.tri,x.til⟩):=ja7 (enc:=jn) (size:=4) (fun _=>rfl) hx (j:=0) rfl (by simp)
theorem zu (hx:l[k]?=some x) (v:Int):D.put [] (k*4+0) [.val (.int .i64 v)] (jI l)=jI (l.set k ⟨v,x.need,x.tri,x.til⟩):=ja7 (enc:=jn) (size:=4) (fun _=>rfl) hx (j:=0) rfl (by simp)
theorem jtb (hx:l[k]?=some x) (v:Int):D.put [] (k*4+1) [.val (.int .i64 v)] (jI l)=jI (l.set k ⟨x.state,v,x.tri,x.til⟩):=ja7 (enc:=jn) (size:=4) (fun _=>rfl) hx (j:=1) rfl (by simp)
theorem jx3 (hx:l[k]?=some x) (v:Int):D.put [] (k*4+2) [.val (.int .i64 v)] (jI l)=jI (l.set k ⟨x.state,x.need,v,x.til⟩):=ja7 (enc:=jn) (size:=4) (fun _=>rfl) hx (j:=2) rfl (by simp)
theorem jes (hx:l[k]?=some x) (v:Int):D.put [] (k*4+3) [.val (.int .i64 v)] (jI l)=jI (l.set k ⟨x.state,x.need,x.tri,v⟩):=ja7 (enc:=jn) (size:=4) (fun _=>rfl) hx (j:=3) rfl (by simp)
theorem jr8 (hx:l[k]?=some x):((l.flatMap jn).drop (k*4)).take 4=jn x:=qv (enc:=jn) (size:=4) (fun _=>rfl) hx (j:=0) (n:=4) (by decide)
theorem zP (hx:l[k]?=some x):((l.flatMap jn).drop (k*4)).take 1=[.val (.int .i64 x.state)]:=qv (enc:=jn) (size:=4) (fun _=>rfl) hx (j:=0) (n:=1) (by decide)
theorem vY (hx:l[k]?=some x):((l.flatMap jn).drop (k*4+0)).take 1=[.val (.int .i64 x.state)]:=qv (enc:=jn) (size:=4) (fun _=>rfl) hx (j:=0) (n:=1) (by decide)
theorem jqD (hx:l[k]?=some x):((l.flatMap jn).drop (k*4+1)).take 1=[.val (.int .i64 x.need)]:=qv (enc:=jn) (size:=4) (fun _=>rfl) hx (j:=1) (n:=1) (by decide)
theorem jk6 (hx:l[k]?=some x):((l.flatMap jn).drop (k*4+2)).take 1=[.val (.int .i64 x.tri)]:=qv (enc:=jn) (size:=4) (fun _=>rfl) hx (j:=2) (n:=1) (by decide)
theorem juI (hx:l[k]?=some x):((l.flatMap jn).drop (k*4+3)).take 1=[.val (.int .i64 x.til)]:=qv (enc:=jn) (size:=4) (fun _=>rfl) hx (j:=3) (n:=1) (by decide)
theorem jhz (hx:l[k]?=some x):k*4+4≤(l.flatMap jn).length:=qs (enc:=jn) (size:=4) (fun _=>rfl) hx (j:=0) (n:=4) (by decide)
theorem vn (hx:l[k]?=some x):k*4+1≤(l.flatMap jn).length:=qs (enc:=jn) (size:=4) (fun _=>rfl) hx (j:=0) (n:=1) (by decide)
theorem qy (hx:l[k]?=some x):k*4+0+1≤(l.flatMap jn).length:=qs (enc:=jn) (size:=4) (fun _=>rfl) hx (j:=0) (n:=1) (by decide)
theorem jp6 (hx:l[k]?=some x):k*4+1+1≤(l.flatMap jn).length:=qs (enc:=jn) (size:=4) (fun _=>rfl) hx (j:=1) (n:=1) (by decide)
theorem jkR (hx:l[k]?=some x):k*4+2+1≤(l.flatMap jn).length:=qs (enc:=jn) (size:=4) (fun _=>rfl) hx (j:=2) (n:=1) (by decide)
theorem ji7 (hx:l[k]?=some x):k*4+3+1≤(l.flatMap jn).length:=qs (enc:=jn) (size:=4) (fun _=>rfl) hx (j:=3) (n:=1) (by decide)
end
section
variable {l:List En} {k:Nat} {x:En}
theorem jr9 (hx:l[k]?=some x):((l.flatMap jf).drop (k*4)).take 4=jf x:=qv (enc:=jf) (size:=4) (fun _=>rfl) hx (j:=0) (n:=4) (by decide)
theorem jn4 (hx:l[k]?=some x):((l.flatMap jf).drop (k*4+1)).take 1=[.val (.int .i64 x.seq)]:=qv (enc:=jf) (size:=4) (fun _=>rfl) hx (j:=1) (n:=1) (by decide)
theorem jrM (hx:l[k]?=some x):k*4+4≤(l.flatMap jf).length:=qs (enc:=jf) (size:=4) (fun _=>rfl) hx (j:=0) (n:=4) (by decide)
theorem jnw (hx:l[k]?=some x):k*4+1+1≤(l.flatMap jf).length:=qs (enc:=jf) (size:=4) (fun _=>rfl) hx (j:=1) (n:=1) (by decide)
end
abbrev jap (b ty:Nat) (r:Rn) (e1 e2:jq):Ob:=.box b ty [.a (.v (.int .i64 r.id)),.a (.v (.int .i64 r.plan.prio)),.a (.v (.int .i64 r.plan.most)),.a (.v (.int .i64 r.plan.wait)),.a (.v (.int .i64 r.plan.tasks)),.own (jy r.plan.edges) e1,.a (.v (.int .i64 r.state)),.own (jI r.tasks) e2]
abbrev ZRn (b ty:Nat):Ob:=.box b ty [.a (.v (.int .i64 0)),.a (.v (.int .i64 0)),.a (.v (.int .i64 0)),.a (.v (.int .i64 0)),.a (.v (.int .i64 0)),.a (.v (.slice none 0 0)),.a (.v (.int .i64 0)),.a (.v (.slice none 0 0))]
theorem jhh (l:List Tk):D.sl 4 tTk (l.flatMap jn)=jI l:=rfl
def jdT:C:=iS [iA 1 (.box 108 8 (.t 0)),iA 2 (.alloc 108 [.int .i64 0,.int .i64 0,.int .i64 0,.int .i64 0,.int .i64 0,.slice none 0 0,.int .i64 0,.slice none 0 0])] (iS [iA 3 (iF 1 1),iA 4 (iT 5 3),iA 5 (.call 256 [.t 4]),iA 6 (iF 1 1),iC (.st 5 [none,none,none,none,some (2,253)] (.t 6) (.t 5))] (iS [iA 7 (.bsl 172 4 0 [] []),iA 8 (iF 7 1),iA 9 (iL 8),iA 10 (.app 172 4 32 (.t 7) (.t 9)),iA 11 (iF 7 1),iC (.st 1 [some (4,172)] (.t 11) (.t 10))] (iS [iA 12 (iT 8 1),iC (.st 8 [none,none,none,none,none,some (2,253),none,some (4,172)] (.t 2) (.t 12))] .ret)))
theorem jgz:fnC Tryz.prog Tryz.f185=some (jdT,[.cell 2 true 8],13):=by kernel_rfl
def jea:C:=iS [iA 1 (.box 108 8 (.t 0)),iA 2 (.alloc 108 [.int .i64 0,.int .i64 0,.int .i64 0,.int .i64 0,.int .i64 0,.slice none 0 0,.int .i64 0,.slice none 0 0])] (iS [iA 3 (iF 1 1),iA 4 (iT 5 3),iA 5 (.call 270 [.t 4]),iA 6 (iF 1 1),iC (.st 5 [none,none,none,none,some (2,253)] (.t 6) (.t 5))] (iS [iA 7 (iF 7 1),iA 8 (iL 7),iA 9 (.app 172 4 32 (.c (.slice none 0 0)) (.t 8)),iA 10 (iF 7 1),iC (.st 1 [some (4,172)] (.t 10) (.t 9))] (iS [iA 11 (iT 8 1),iC (.st 8 [none,none,none,none,none,some (2,253),none,some (4,172)] (.t 2) (.t 11))] .ret)))
theorem jgQ:fnC Tryz.prog Tryz.f209=some (jea,[.cell 2 true 8],12):=by kernel_rfl
theorem jdH (r:Rn) (hb:r.plan.edges.length≤4000000) (ht:r.tasks.length≤4000000):kp Tryz.prog 209 [.agg (jd r)] (.agg (jd r)):=by
 refine js Tryz.func209 jgQ (by simp) ?_
 unfold jea;have h1:r.tasks.length≤maxLen:=by unfold maxLen;omega
 have h2:r.tasks.length*32≤140737488355328:=by omega
 simp only [go_sem,jd,ja];intro b b2;refine jc (jcn r.plan hb) (by simp only [go_sem,jd,ja]) fun η=>?_
 simp only [go_sem,jd,ja];simp only [go_sem,jd,ja,h1,h2,jhh]
theorem vv (r:Rn) (hb:r.plan.edges.length≤4000000) (ht:r.tasks.length≤4000000):kp Tryz.prog 185 [.agg (jd r)] (.agg (jd r)):=by
 refine js Tryz.func185 jgz (by simp) ?_
 unfold jdT;have h1:r.tasks.length≤maxLen:=by unfold maxLen;omega
 have h2:r.tasks.length*32≤140737488355328:=by omega
 simp only [go_sem,jd,ja];intro b b2;refine jc (jdE r.plan hb) (by simp only [go_sem,jd,ja]) fun η=>?_
 simp only [go_sem,jd,ja];simp only [go_sem,jd,ja,h1,h2,jhh]
def jdS:C:=iS [iA 2 (.box 108 8 (.t 0)),iA 4 (iO false)] (iS [iA 5 (iT 8 2),iA 6 (.call 151 [.t 5]),iA 7 (iM 6),iB 8 7 true (iM 1),iB 9 7 true (iF 7 2),iB 10 7 true (iL 9),iB 11 7 true (iG 10),iB 12 7 true (iQ .sub 3 11 1),iB 13 7 true (.call 74 [.t 8,.c (.int .i64 0),.t 12]),iA 14 (.pick (.t 7) (.t 13) (.c (.bool false))),iA 15 (iM 14),iB 16 15 true (iF 7 2),iB 17 15 true (iL 16),iB 18 15 true (iM 1),iB 19 15 true (iI 4 17 18),iB 20 15 true (iF 0 19),iB 21 15 true (iL 20),iB 22 15 true (iQ .eql 3 21 3),iA 23 (.pick (.t 15) (.t 22) (.c (.bool false))),iA 4 (iM 23)] .ret)
theorem jgy:fnC Tryz.prog Tryz.f263=some (jdS,[.t 4],24):=by kernel_rfl
def jd5:C:=iS [iA 2 (.box 108 8 (.t 0)),iA 4 (.alloc 108 [.int .i64 0,.int .i64 0,.int .i64 0,.int .i64 0,.int .i64 0,.slice none 0 0,.int .i64 0,.slice none 0 0])] (iS [iA 9 (iT 8 2),iA 10 (.call 185 [.t 9]),iA 5 (.alloc 108 [.int .i64 0,.int .i64 0,.int .i64 0,.int .i64 0,.int .i64 0,.slice none 0 0,.int .i64 0,.slice none 0 0]),iC (.st 8 [none,none,none,none,none,some (2,253),none,some (4,172)] (.t 5) (.t 10))] (.seq (iS [iA 11 (iT 8 2),iA 12 (iM 1),iA 13 (.call 263 [.t 11,.t 12]),iA 14 (iU 13)] (iD 14 (iS [iA 15 (iT 8 5),iC (.st 8 [none,none,none,none,none,some (2,253),none,some (4,172)] (.t 4) (.t 15))] .ret) .skip)) (iS [iA 16 (iF 7 5),iA 17 (iL 16),iA 18 (iM 1),iA 19 (iI 4 17 18),iA 20 (iF 0 19),iC (.st 1 [none] (.t 20) (.c (.int .i64 4)))] (iS [iA 21 (iF 7 5),iA 22 (iL 21),iA 23 (iM 1),iA 24 (iI 4 22 23),iA 25 (iF 3 24),iC (.st 1 [none] (.t 25) (.c (.int .i64 0)))] (iS [iA 26 (iF 1 2),iA 27 (iT 5 26),iA 28 (iM 1),iA 29 (.call 264 [.t 27,.t 28]),iA 6 (iM 29)] (.seq (iS [iA 7 (iN 0)] (.blk 0 (.loop (.seq (iS [iA 30 (iM 7),iA 31 (iM 6),iA 32 (iG 31),iA 33 (iP .lss 3 30 32)] (iD 33 .skip (.exit 0))) (.seq (.blk 1 (.seq (.dreg (T.pure 0 (iA 36 (iF 7 5)) (T.pure 1 (iA 37 (iL 36)) (T.pure 2 (iA 38 (iM 6)) (T.pure 3 (iA 39 (iM 7)) (T.pure 4 (iA 40 (iI 1 38 39)) (T.pure 5 (iA 41 (iL 40)) (T.pure 6 (iA 42 (iI 4 37 41)) (T.pure 7 (iA 43 (iT 4 42)) (T.alt (iA 8 (.alloc 172 [.int .i64 0,.int .i64 0,.int .i64 0,.int .i64 0])) [7,6,5,4,3,2,1,0] (T.alt (iC (.st 4 [none,none,none,none] (.t 8) (.t 43))) [] T.done T.stop) T.stop)))))))))) (iS [iA 44 (iF 1 8),iA 45 (iL 44),iA 46 (iQ .sub 3 45 1),iA 47 (iF 1 8),iC (.st 1 [none] (.t 47) (.t 46))] (.seq (iS [iA 48 (iF 1 8),iA 49 (iL 48),iA 50 (iQ .eql 3 49 0)] (iD 50 (.reg [iA 51 (iF 0 8),iC (.st 1 [none] (.t 51) (.c (.int .i64 2)))]) .skip)) (.dreg (T.pure 0 (iA 52 (iF 7 5)) (T.pure 1 (iA 53 (iL 52)) (T.pure 2 (iA 54 (iM 6)) (T.pure 3 (iA 55 (iM 7)) (T.pure 4 (iA 56 (iI 1 54 55)) (T.pure 5 (iA 57 (iL 56)) (T.pure 6 (iA 58 (iT 4 8)) (T.pure 7 (iA 59 (iI 4 53 57)) (T.alt (iC (.st 4 [none,none,none,none] (.t 59) (.t 58))) [] T.done T.stop)))))))))))))) (.reg [iA 34 (iM 7),iA 35 (iQ .add 3 34 1),iA 7 (iM 35)])))))) (iS [iA 60 (iT 8 5),iA 61 (.call 241 [.t 60]),iA 62 (iF 6 5),iC (.st 1 [none] (.t 62) (.t 61))] (iS [iA 63 (iT 8 5),iC (.st 8 [none,none,none,none,none,some (2,253),none,some (4,172)] (.t 4) (.t 63))] .ret))))))))
theorem jgL:fnC Tryz.prog Tryz.f198=some (jd5,[.cell 4 true 8],64):=by kernel_rfl
def jjA:C:=iS [iA 7 (iM 0),iA 8 (iF 0 7),iA 9 (iF 7 8),iA 10 (iL 9),iA 11 (iM 1),iA 12 (iI 4 10 11),iA 13 (iF 0 12),iC (.st 1 [none] (.t 13) (.c (.int .i64 4)))] (iS [iA 14 (iM 0),iA 15 (iF 0 14),iA 16 (iF 7 15),iA 17 (iL 16),iA 18 (iM 1),iA 19 (iI 4 17 18),iA 20 (iF 3 19),iC (.st 1 [none] (.t 20) (.c (.int .i64 0)))] (.seq (iS [iA 21 (iM 0),iA 22 (iF 0 21),iA 23 (iF 1 22),iA 24 (iT 5 23),iA 25 (iM 1),iA 26 (.call 277 [.t 24,.t 25]),iA 27 (iG 26),iA 28 (iN 0)] (.blk 0 (.loop (iS [iA 29 (iP .lss 3 28 27)] (.seq (iD 29 .skip (.exit 0)) (.seq (.blk 1 (iS [iA 30 (iI 1 26 28),iA 31 (iL 30),iA 5 (iM 31)] (iS [iA 32 (iM 0),iA 33 (iF 0 32),iA 34 (iF 7 33),iA 35 (iL 34),iA 36 (iM 5),iA 37 (iI 4 35 36),iA 6 (iM 37)] (iS [iA 38 (iM 6),iA 39 (iF 0 38),iA 40 (iF 1 39),iA 41 (iL 40),iA 42 (iQ .sub 3 41 1),iA 43 (iF 0 38),iA 44 (iF 1 43),iC (.st 1 [none] (.t 44) (.t 42))] (iS [iA 45 (iM 6),iA 46 (iF 0 45),iA 47 (iF 1 46),iA 48 (iL 47),iA 49 (iQ .eql 3 48 0)] (iD 49 (.reg [iA 50 (iM 6),iA 51 (iF 0 50),iA 52 (iF 0 51),iC (.st 1 [none] (.t 52) (.c (.int .i64 2)))]) .skip)))))) (.reg [iA 53 (iQ .add 3 28 1),iA 28 (iM 53)]))))))) (.seq (.dreg (T.pure 0 (iA 54 (iM 0)) (T.pure 1 (iA 55 (iF 0 54)) (T.pure 2 (iA 56 (iT 8 55)) (T.pure 5 (iA 59 (iM 0)) (T.pure 6 (iA 60 (iF 0 59)) (T.pure 7 (iA 61 (iF 7 60)) (T.pure 8 (iA 62 (iL 61)) (T.pure 9 (iA 63 (iG 62)) (T.alt (iA 57 (.call 214 [.t 56,.c (.int .i64 4)])) [9,8,7,6,5] (T.pure 4 (iA 58 (iG 57)) (T.pure 10 (iA 64 (iP .eql 3 58 63)) T.done)) T.stop)))))))))) (iD 64 (.reg [iA 65 (iM 0),iA 66 (iF 0 65),iA 67 (iF 6 66),iC (.st 1 [none] (.t 67) (.c (.int .i64 2)))]) .skip))))
theorem jke:fnC Tryz.prog Tryz.f223=some (jjA,[],68):=by kernel_rfl
theorem jdD (r:Rn) (t:Int):kp Tryz.prog 263 [.agg (jd r),.c (.val (.int .i64 t))] (.c (.val (.bool (vu r t)))):=by
 refine js Tryz.func263 jgy (by simp) ?_
 unfold jdS;simp only [go_sem,jd,ja];intro b;refine jc (jcm r) (by simp only [go_sem,jd,ja]) fun η=>?_
 simp only [go_sem,jd,ja];cases h:kF r
 ·have hb:vu r t=false:=by simp [vu,h]
  simp only [go_sem,jd,ja,h,hb]
 have hP:=runOk_iff.1 h;obtain ⟨n,hn,hn1,h12,-⟩:=jck hP.plan;have hlen:=hP.len;have hw:IntKind.i64.wrap ((r.tasks.length:Int)-1)=(r.tasks.length:Int)-1:=jg (by omega) (by omega)
 simp only [go_sem,jd,ja,h,hw];refine jc (jJ t 0 (r.tasks.length-1)) (by simp only [go_sem,jd,ja]) fun η=>?_
 simp only [go_sem,jd,ja];cases h1:decide (0≤t∧t≤(r.tasks.length:Int)-1)
 ·have hb:vu r t=false:=by simp [vu,inB,h1]
  simp only [go_sem,jd,ja,h1,hb]
 have h1':0≤t∧t≤(r.tasks.length:Int)-1:=by simpa using h1
 have h0t:0≤t:=h1'.1;have htl:t.toNat<r.tasks.length:=by omega
 obtain ⟨x,hx⟩:=je htl;have hb:vu r t=(x.state==3):=by simp [vu,inB,h1',jli hx,h]
 simp only [go_sem,jd,ja,h1,h0t,htl,jT hx,jn,hb]
theorem jpu {ts:List Tk} {v:Int} {y:Tk} (hy:ts[v.toNat]?=some y):jar ts v=ts.set v.toNat ⟨if IntKind.i64.wrap (y.need-1)=0 then 2 else y.state,IntKind.i64.wrap (y.need-1),y.tri,y.til⟩:=by simp [jar,hy]
theorem jkV {l:List Int} {k:Nat} {v:Int} (hv:l[k]?=some v) (ts:List Tk):(l.take (k+1)).foldl jar ts=jar ((l.take k).foldl jar ts) v:=by
 rw [List.take_add_one,hv];simp
theorem jjU (r:Rn) (t:Int) (hsz:r.plan.edges.length≤4000000) (ht:r.tasks.length≤4000000):kp Tryz.prog 198 [.agg (jd r),.c (.val (.int .i64 t))] (.agg (jd (qJ r t))):=by
 refine js Tryz.func198 jgL (by simp) ?_
 unfold jd5;simp only [go_sem,jd,ja];intro b b4;refine jc (vv r hsz ht) (by simp only [go_sem,jd,ja]) fun ηc=>?_
 simp only [go_sem,jd,ja];intro b5;refine jc (jdD r t) (by simp only [go_sem,jd,ja]) fun η=>?_
 simp only [go_sem,jd,ja];cases h:vu r t
 ·simp only [go_sem,jd,ja,h,jra h]
 obtain ⟨k,x,rfl,hx,hs,hP⟩:=jaB h;obtain ⟨n,hn,hn1,h12,h30,hes,hnd,-⟩:=jck hP.plan;have hlen:=hP.len;have hkl:=(List.getElem?_eq_some_iff.1 hx).1;have h0t:(k:Int)≥0:=by omega
 have hx2:(r.tasks.set k ⟨4,x.need,x.tri,x.til⟩)[k]?=some ⟨4,x.need,x.tri,x.til⟩:=List.getElem?_set_self hkl;have hkl2:k<(r.tasks.set k ⟨4,x.need,x.tri,x.til⟩).length:=by rw [List.length_set];exact hkl
 have hn1':Int.toNat (k:Int)=k:=Int.toNat_natCast k;simp only [go_sem,jd,ja,h,hkl,h0t,jaQ hx,zu hx,vn hx,qy hx,hkl2,ji7 hx2,jes hx2,List.set_set];refine jc (jhw r.plan k n hn h12 h30) (by simp only [go_sem,jd,ja]) fun ηb=>?_
 simp only [go_sem,jd,ja];have hbl:=jqz hn h12 h30 k;generalize hts:r.tasks.set k ⟨4,x.need,x.tri,0⟩=ts0 at*;have htl:ts0.length=r.tasks.length:=by rw [←hts,List.length_set]
 have hdn:vG r.plan r.tasks k x=(jbo r.plan k).foldl jar ts0:=by rw [←hts];rfl
 have hst0:∀z∈ts0,1≤z.state∧z.state≤6:=by rw [←hts];exact jg7 (q:=fun s=>1≤s∧s≤6) (by simp) hP.st
 refine jp (fun i:Nat=>St.of [(4,Bx 400 b4),(5,Bx 500 b5),(6,Hd 6 (ηb 0)),(7,Ni i)] [(400,ZRn b4 tRn),(500,jap b5 tRn ⟨r.id,r.plan,r.state,((jbo r.plan k).take i).foldl jar ts0⟩ (ηc 5) (ηc 7)),(6,.loose (jh (jbo r.plan k)) (ηb 0))]) (fun i=>i≤(jbo r.plan k).length) (fun i=>(jbo r.plan k).length-i) 0 (by (try dsimp only);first|omega|(simp;done)|(and_intros<;>first|omega|simp)) (jj [some 400,some 500,some 2900] (by simp only [go_sem,jd,ja,List.take_zero,List.foldl_nil]<;>and_intros<;>first|rfl|assumption|trivial)) ?_
 rintro j hj;by_cases hlt:j<(jbo r.plan k).length
 ·have hlt':(j:Int)<(jbo r.plan k).length:=by omega
  obtain ⟨v,hv⟩:=je hlt;have hvb:=jpd hn (List.mem_of_getElem? hv);have hfl:=jff ((jbo r.plan k).take j) ts0;have hft:=jkV hv ts0;generalize ((jbo r.plan k).take j).foldl jar ts0=ts at*;have hvl:v.toNat<ts.length:=by omega
  have hv0:=hvb.1;obtain ⟨y,hy⟩:=je hvl;have hw:IntKind.i64.wrap ((j:Int)+1)=((j+1:Nat):Int):=jg (by omega) (by omega)
  rw [jpu hy] at hft;simp only [go_sem,jd,ja,hlt,hlt',jk hv,ji hlt,hvl,hv0,jr8 hy,jhz hy,jn];intro b8;generalize IntKind.i64.wrap (y.need-1)=nd at*;cases hz:nd==0
  ·have hz':¬nd=0:=by simpa using hz
   rw [if_neg hz'] at hft;simp only [go_sem,jd,ja,hlt,hlt',jk hv,ji hlt,hvl,hv0,jr8 hy,jhz hy,jn,hz,jbu y.state nd y.tri y.til hvl,hw];exact ⟨j+1,by (try dsimp only);first|omega|assumption|(and_intros<;>first|omega|assumption),(jj [some 400,some 500,some 6] (by simp only [go_sem,jd,ja,hft]<;>and_intros<;>first|rfl|assumption|trivial)),by (try dsimp only);omega⟩
  ·have hz':nd=0:=by simpa using hz
   rw [if_pos hz'] at hft;simp only [go_sem,jd,ja,hlt,hlt',jk hv,ji hlt,hvl,hv0,jr8 hy,jhz hy,jn,hz,jbu 2 nd y.tri y.til hvl,hw];exact ⟨j+1,by (try dsimp only);first|omega|assumption|(and_intros<;>first|omega|assumption),(jj [some 400,some 500,some 6] (by simp only [go_sem,jd,ja,hft]<;>and_intros<;>first|rfl|assumption|trivial)),by (try dsimp only);omega⟩
 have hlt':¬(j:Int)<(jbo r.plan k).length:=by omega
 rw [List.take_of_length_le (by omega)]
 have hds:=jkZ hP hx hs;have hR:qJ r k=jhD r k x:=jeq hx h;have hlD:(vG r.plan r.tasks k x).length=r.tasks.length:=jbf _ _ _ _;have hstD:∀z∈vG r.plan r.tasks k x,1≤z.state∧z.state≤6:=jmc (q:=fun s=>1≤s∧s≤6) (by decide) (by decide) hP.st
 rw [hR,←hdn];have hrr:jhD r k x=⟨r.id,r.plan,jf6 (vG r.plan r.tasks k x),vG r.plan r.tasks k x⟩:=by rw [hds];rfl
 rw [hrr];generalize vG r.plan r.tasks k x=tD at*;simp only [go_sem,jd,ja,hlt'];refine jc (jcl ⟨r.id,r.plan,r.state,tD⟩ hstD (by simp only;omega)) (by simp only [go_sem,jd,ja]) fun η=>?_
 simp only [go_sem,jd,ja]
def jam:C:=iS [iA 2 (.box 108 8 (.t 0)),iA 4 (.alloc 108 [.int .i64 0,.int .i64 0,.int .i64 0,.int .i64 0,.int .i64 0,.slice none 0 0,.int .i64 0,.slice none 0 0])] (.seq (iS [iA 5 (iN 0)] (.blk 0 (.loop (.seq (iS [iA 7 (iM 5),iA 8 (iF 7 2),iA 9 (iL 8),iA 10 (iG 9),iA 11 (iP .lss 3 7 10)] (iD 11 .skip (.exit 0))) (.seq (.blk 1 (iS [iA 14 (iF 7 2),iA 15 (iL 14),iA 16 (iM 5),iA 17 (iI 4 15 16),iA 18 (iT 4 17),iA 6 (.alloc 172 [.int .i64 0,.int .i64 0,.int .i64 0,.int .i64 0]),iC (.st 4 [none,none,none,none] (.t 6) (.t 18))] (.seq (iS [iA 19 (iF 0 6),iA 20 (iL 19),iA 21 (iQ .neq 3 20 4),iA 22 (iM 21),iB 23 22 true (iF 0 6),iB 24 22 true (iL 23),iB 25 22 true (iQ .neq 3 24 5),iA 26 (.pick (.t 22) (.t 25) (.c (.bool false)))] (iD 26 (iS [iA 27 (iF 0 6),iC (.st 1 [none] (.t 27) (.c (.int .i64 6)))] (.reg [iA 28 (iF 3 6),iC (.st 1 [none] (.t 28) (.c (.int .i64 0)))])) .skip)) (.reg [iA 29 (iF 7 2),iA 30 (iL 29),iA 31 (iM 5),iA 32 (iT 4 6),iA 33 (iI 4 30 31),iC (.st 4 [none,none,none,none] (.t 33) (.t 32))])))) (.reg [iA 12 (iM 5),iA 13 (iQ .add 3 12 1),iA 5 (iM 13)])))))) (iS [iA 34 (iM 1),iA 35 (iF 6 2),iC (.st 1 [none] (.t 35) (.t 34))] (iS [iA 36 (iT 8 2),iC (.st 8 [none,none,none,none,none,some (2,253),none,some (4,172)] (.t 4) (.t 36))] .ret)))
theorem jaK:fnC Tryz.prog Tryz.f265=some (jam,[.cell 4 true 8],37):=by kernel_rfl
def jcN:C:=iS [iA 2 (.box 108 8 (.t 0)),iA 4 (.alloc 108 [.int .i64 0,.int .i64 0,.int .i64 0,.int .i64 0,.int .i64 0,.slice none 0 0,.int .i64 0,.slice none 0 0])] (iS [iA 6 (iT 8 2),iA 7 (.call 185 [.t 6]),iA 5 (.alloc 108 [.int .i64 0,.int .i64 0,.int .i64 0,.int .i64 0,.int .i64 0,.slice none 0 0,.int .i64 0,.slice none 0 0]),iC (.st 8 [none,none,none,none,none,some (2,253),none,some (4,172)] (.t 5) (.t 7))] (.seq (iS [iA 8 (iT 8 2),iA 9 (iM 1),iA 10 (.call 263 [.t 8,.t 9]),iA 11 (iU 10)] (iD 11 (iS [iA 12 (iT 8 5),iC (.st 8 [none,none,none,none,none,some (2,253),none,some (4,172)] (.t 4) (.t 12))] .ret) .skip)) (iS [iA 13 (iF 7 5),iA 14 (iL 13),iA 15 (iM 1),iA 16 (iI 4 14 15),iA 17 (iF 3 16),iC (.st 1 [none] (.t 17) (.c (.int .i64 0)))] (iS [iA 18 (iF 7 5),iA 19 (iL 18),iA 20 (iM 1),iA 21 (iI 4 19 20),iA 22 (iF 0 21),iC (.st 1 [none] (.t 22) (.c (.int .i64 2)))] (.seq (.seq (.dreg (T.pure 0 (iA 23 (iF 7 5)) (T.pure 1 (iA 24 (iL 23)) (T.pure 2 (iA 25 (iM 1)) (T.pure 3 (iA 26 (iI 4 24 25)) (T.pure 4 (iA 27 (iF 2 26)) (T.pure 5 (iA 28 (iL 27)) (T.pure 6 (iA 29 (iF 1 2)) (T.pure 7 (iA 30 (iF 1 29)) (T.pure 8 (iA 31 (iL 30)) (T.pure 9 (iA 32 (iP .lss 3 28 31)) T.done))))))))))) (iD 32 (iS [iA 33 (iT 8 5),iC (.st 8 [none,none,none,none,none,some (2,253),none,some (4,172)] (.t 4) (.t 33))] .ret) .skip)) (iS [iA 34 (iF 7 5),iA 35 (iL 34),iA 36 (iM 1),iA 37 (iI 4 35 36),iA 38 (iF 0 37),iC (.st 1 [none] (.t 38) (.c (.int .i64 5)))] (iS [iA 39 (iT 8 5),iA 40 (.call 265 [.t 39,.c (.int .i64 3)]),iC (.st 8 [none,none,none,none,none,some (2,253),none,some (4,172)] (.t 4) (.t 40))] .ret)))))))
theorem jfo:fnC Tryz.prog Tryz.f199=some (jcN,[.cell 4 true 8],41):=by kernel_rfl
def jcT:C:=iS [iA 6 (iM 0),iA 7 (iF 0 6),iA 8 (iF 7 7),iA 9 (iL 8),iA 10 (iG 9),iA 11 (iN 0)] (.blk 0 (.loop (iS [iA 12 (iP .lss 3 11 10)] (.seq (iD 12 .skip (.exit 0)) (.seq (.blk 1 (iS [iA 13 (iM 11),iA 4 (iM 13)] (iS [iA 14 (iM 0),iA 15 (iF 0 14),iA 16 (iF 7 15),iA 17 (iL 16),iA 18 (iM 4),iA 19 (iI 4 17 18),iA 5 (iM 19)] (iS [iA 20 (iM 4),iA 21 (iM 1),iA 22 (iP .neq 3 20 21),iA 23 (iM 22),iB 24 23 true (iM 5),iB 25 23 true (iF 0 24),iB 26 23 true (iF 0 25),iB 27 23 true (iL 26),iB 28 23 true (iQ .neq 3 27 4),iA 29 (.pick (.t 23) (.t 28) (.c (.bool false)))] (iD 29 (iS [iA 30 (iM 5),iA 31 (iF 0 30),iA 32 (iF 0 31),iC (.st 1 [none] (.t 32) (.c (.int .i64 6)))] (.reg [iA 33 (iM 5),iA 34 (iF 0 33),iA 35 (iF 3 34),iC (.st 1 [none] (.t 35) (.c (.int .i64 0)))])) .skip))))) (.reg [iA 36 (iQ .add 3 11 1),iA 11 (iM 36)]))))))
theorem jcG:fnC Tryz.prog Tryz.f236=some (jcT,[],37):=by kernel_rfl
def jho:C:=iS [iA 5 (iM 0),iA 6 (iF 0 5),iA 7 (iF 7 6),iA 8 (iL 7),iA 9 (iM 1),iA 10 (iI 4 8 9),iA 4 (iM 10)] (iS [iA 11 (iM 4),iA 12 (iF 0 11),iA 13 (iF 3 12),iC (.st 1 [none] (.t 13) (.c (.int .i64 0)))] (.seq (.seq (.dreg (T.pure 0 (iA 14 (iM 4)) (T.pure 1 (iA 15 (iF 0 14)) (T.pure 2 (iA 16 (iF 2 15)) (T.pure 3 (iA 17 (iL 16)) (T.pure 4 (iA 18 (iM 0)) (T.pure 5 (iA 19 (iF 0 18)) (T.pure 6 (iA 20 (iF 1 19)) (T.pure 7 (iA 21 (iF 1 20)) (T.pure 8 (iA 22 (iL 21)) (T.pure 9 (iA 23 (iP .lss 3 17 22)) T.done))))))))))) (iD 23 (iS [iA 24 (iM 4),iA 25 (iF 0 24),iA 26 (iF 0 25),iC (.st 1 [none] (.t 26) (.c (.int .i64 2)))] .ret) .skip)) (iS [iA 27 (iM 4),iA 28 (iF 0 27),iA 29 (iF 0 28),iC (.st 1 [none] (.t 29) (.c (.int .i64 5)))] (iS [iA 30 (iM 0),iA 31 (iM 1),iA 32 (.call 236 [.t 30,.t 31])] (.reg [iA 33 (iM 0),iA 34 (iF 0 33),iA 35 (iF 6 34),iC (.st 1 [none] (.t 35) (.c (.int .i64 3)))])))))
theorem jjs:fnC Tryz.prog Tryz.f225=some (jho,[],36):=by kernel_rfl
theorem jah (r:Rn) (t:Int) (hsz:r.plan.edges.length≤4000000) (ht:r.tasks.length≤4000000):kp Tryz.prog 199 [.agg (jd r),.c (.val (.int .i64 t))] (.agg (jd (jE r t))):=by
 refine js Tryz.func199 jfo (by simp) ?_
 unfold jcN;simp only [go_sem,jd,ja];intro b b4;refine jc (vv r hsz ht) (by simp only [go_sem,jd,ja]) fun ηc=>?_
 simp only [go_sem,jd,ja];intro b5;refine jc (jdD r t) (by simp only [go_sem,jd,ja]) fun η=>?_
 simp only [go_sem,jd,ja];cases h:vu r t
 ·simp only [go_sem,jd,ja,h,jeo h]
 obtain ⟨k,x,rfl,hx,hs,hP⟩:=jaB h;obtain ⟨n,hn,hn1,h12,h30,hes,hnd,-⟩:=jck hP.plan;have hlen:=hP.len;have hkl:=(List.getElem?_eq_some_iff.1 hx).1;have h0t:(k:Int)≥0:=by omega
 have hx2:(r.tasks.set k ⟨x.state,x.need,x.tri,0⟩)[k]?=some ⟨x.state,x.need,x.tri,0⟩:=List.getElem?_set_self hkl;have hx3:(r.tasks.set k ⟨2,x.need,x.tri,0⟩)[k]?=some ⟨2,x.need,x.tri,0⟩:=List.getElem?_set_self hkl;have hkl2:k<(r.tasks.set k ⟨x.state,x.need,x.tri,0⟩).length:=by rw [List.length_set];exact hkl
 have hkl3:k<(r.tasks.set k ⟨2,x.need,x.tri,0⟩).length:=by rw [List.length_set];exact hkl
 simp only [go_sem,jd,ja,Nat.add_zero,h,hkl,h0t,jes hx,ji7 hx,hkl2,vn hx2,qy hx2,jaQ hx2,zu hx2,List.set_set,hkl3,jk6 hx3,jkR hx3,vn hx3,qy hx3];by_cases hm:x.tri<r.plan.most
 ·have hR:jE r k=⟨r.id,r.plan,r.state,r.tasks.set k ⟨2,x.need,x.tri,0⟩⟩:=by rw [qD hx h,zb,if_pos hm]
  simp only [go_sem,jd,ja,Nat.add_zero,hm,hR]
 have hR:jE r k=⟨r.id,r.plan,3,qV jA (r.tasks.set k ⟨5,x.need,x.tri,0⟩) r.tasks.length⟩:=by rw [qD hx h,zb,if_neg hm]
 rw [hR];simp only [go_sem,jd,ja,Nat.add_zero,hm,hkl3,h0t,jaQ hx3,zu hx3,vn hx3,qy hx3,List.set_set];have htl:(r.tasks.set k ⟨5,x.need,x.tri,0⟩).length=r.tasks.length:=by rw [List.length_set]
 generalize r.tasks.set k ⟨5,x.need,x.tri,0⟩=ts0 at*;refine kS (ql (β:=7000000) Tryz.func265 jaK (by simp) ?_)
 unfold jam;simp only [go_sem,jd,ja];intro b72 b74;refine jp (fun i:Nat=>St.of [(1,Ni 3),(2,Bx 2 b72),(4,Bx 4 b74),(5,Ni i)] [(400,ZRn b4 tRn),(2,jap b72 tRn ⟨r.id,r.plan,r.state,qV jA ts0 i⟩ (ηc 5) (ηc 7)),(4,ZRn b74 tRn)]) (fun i=>i≤ts0.length) (fun i=>ts0.length-i) 0 (by (try dsimp only);first|omega|(simp;done)|(and_intros<;>first|omega|simp)) (jj [some 400,some 700000200,some 700000400] (by simp only [go_sem,jd,ja,jpY]<;>and_intros<;>first|rfl|assumption|trivial)) ?_
 rintro j hj;have hml:=vV (f:=jA) (ts:=ts0) (k:=j);by_cases hlt:j<ts0.length
 ·have hlt':(j:Int)<ts0.length:=by omega
  have h0j:(j:Int)≥0:=by omega
  obtain ⟨y,hy⟩:=je hlt;have hyk:=je1 (f:=jA) hy;have hset:=je0 (f:=jA) hy;generalize qV jA ts0 j=M at*;have hlm:j<M.length:=by omega
  have hw:IntKind.i64.wrap ((j:Int)+1)=((j+1:Nat):Int):=jg (by omega) (by omega)
  simp only [go_sem,jd,ja,hml,hlt',h0j,hlt,jr8 hyk,jhz hyk,jn];intro b6;cases hc4:y.state !=4
  ·have hst4:y.state=4:=by simpa using hc4
   have hg0:jA j y=y:=by simp [jA,hst4]
   have hg:jA j y=⟨y.state,y.need,y.tri,y.til⟩:=hg0;rw [hg] at hset;simp only [go_sem,jd,ja,Nat.add_zero,hml,hlt',h0j,hlt,hc4,jbu y.state y.need y.tri y.til hlm,hset,jhz hyk,hw];exact ⟨j+1,by (try dsimp only);first|omega|assumption|(and_intros<;>first|omega|assumption),(jj [some 400,some 2,some 4] (by simp only [go_sem,jd,ja]<;>and_intros<;>first|rfl|assumption|trivial)),by (try dsimp only);omega⟩
  cases hc5:y.state !=5
  ·have hst5:y.state=5:=by simpa using hc5
   have hg0:jA j y=y:=by simp [jA,hst5]
   have hg:jA j y=⟨y.state,y.need,y.tri,y.til⟩:=hg0;rw [hg] at hset;simp only [go_sem,jd,ja,Nat.add_zero,hml,hlt',h0j,hlt,hc4,hc5,jbu y.state y.need y.tri y.til hlm,hset,jhz hyk,hw];exact ⟨j+1,by (try dsimp only);first|omega|assumption|(and_intros<;>first|omega|assumption),(jj [some 400,some 2,some 4] (by simp only [go_sem,jd,ja]<;>and_intros<;>first|rfl|assumption|trivial)),by (try dsimp only);omega⟩
  ·have hg:jA j y=⟨6,y.need,y.tri,0⟩:=by
    have h1:¬y.state=4:=by simpa using hc4
    have h2:¬y.state=5:=by simpa using hc5
    simp [jA,h1,h2]
   rw [hg] at hset;simp only [go_sem,jd,ja,Nat.add_zero,hml,hlt',h0j,hlt,hc4,hc5,jbu 6 y.need y.tri 0 hlm,hset,jhz hyk,hw];exact ⟨j+1,by (try dsimp only);first|omega|assumption|(and_intros<;>first|omega|assumption),(jj [some 400,some 2,some 4] (by simp only [go_sem,jd,ja]<;>and_intros<;>first|rfl|assumption|trivial)),by (try dsimp only);omega⟩
 have hlt':¬(j:Int)<ts0.length:=by omega
 obtain rfl:j=ts0.length:=by omega
 rw [←htl];generalize qV jA ts0 ts0.length=M at*;simp only [go_sem,jd,ja,Nat.add_zero,hml,hlt']
end Go.Proofs.YtmnpailnelmpiaaGreat
