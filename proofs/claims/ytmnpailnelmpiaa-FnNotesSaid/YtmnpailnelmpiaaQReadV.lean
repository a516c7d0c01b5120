/- Parts. -/
import Derived.Test.YtmnpailnelmpiaaQSub
import Derived.Test.YtmnpailnelmpiaaQVarAt
set_option linter.unusedSimpArgs false
set_option linter.unusedVariables false
set_option maxHeartbeats 8000000
set_option maxRecDepth 100000
namespace Go.Proofs.Ytmnpailnelmpiaa
open Go.RowKit Go.Sort
def qi (y:Yd) (k:Nat) (r:Rn):Yd:=jqs ⟨y.now,y.seq,y.shelf,y.runs.set k r⟩ r (vu ((y.runs[k]?).getD default).tasks r.tasks r.tasks.length)
def jdb (l:List Rn) (k:Nat) (row:List D):List D:=(l.take k).flatMap jd++(row++(l.drop (k+1)).flatMap jd)
abbrev rnV (r:Rn) (x5 x7:Value):List D:=[.val (.int .i64 r.id),.val (.int .i64 r.plan.prio),.val (.int .i64 r.plan.most),.val (.int .i64 r.plan.wait),.val (.int .i64 r.plan.tasks),.val x5,.val (.int .i64 r.state),.val x7]
section
variable {l:List Rn} {k:Nat} {r:Rn} {row row':List D}
theorem kU (hk:k<l.length):((l.take k).flatMap jd).length=k*8:=by rw [jeO,List.length_take,Nat.min_eq_left (Nat.le_of_lt hk)]
theorem jnQ (h:l[k]?=some r):l.flatMap jd=jdb l k (jd r):=zN (enc:=jd) h
theorem jgJ (hk:k<l.length) (j:Nat) (hj:j<row.length):(jdb l k row)[k*8+j]?=row[j]?:=by
 rw [jdb,List.getElem?_append_right (by rw [kU hk];omega),kU hk,Nat.add_sub_cancel_left,List.getElem?_append_left hj]
theorem jgI (hk:k<l.length) (j:Nat) (hj:j<row.length) (d:D):(jdb l k row).set (k*8+j) d=jdb l k (row.set j d):=by
 rw [jdb,List.set_append_right _ _ (by rw [kU hk];omega),kU hk,Nat.add_sub_cancel_left,List.set_append_left _ _ hj];rfl
theorem jwV (hk:k<l.length) (h8:row.length=8):((jdb l k row).drop (k*8)).take 8=row:=by
 rw [jdb,List.drop_append_of_le_length (by rw [kU hk];exact Nat.le_refl _),List.drop_eq_nil_of_le (by rw [kU hk];exact Nat.le_refl _),List.nil_append,←h8,List.take_left]
theorem jjL (hk:k<l.length) (h8:row.length=8):(jdb l k row).length=l.length*8:=by
 have h1:=jeO (l.drop (k+1));rw [List.length_drop] at h1;rw [jdb,List.length_append,List.length_append,kU hk,h1,h8];omega
theorem jug (hk:k<l.length) (h8:row.length=8) (h8':row'.length=8):kC (jdb l k row) (k*8) row'=jdb l k row':=by
 have h1:=kU hk;have h2:=jjL hk h8;rw [jbZ _ _ _ (by rw [h2,h8'];omega),jdb,List.take_left' h1,h8']
 have:((l.take k).flatMap jd++(row++(l.drop (k+1)).flatMap jd)).drop (k*8+8)=(l.drop (k+1)).flatMap jd:=by
  rw [←List.append_assoc];exact List.drop_left' (by rw [List.length_append,h1,h8])
 rw [this,jdb,List.append_assoc]
theorem jrp (hk:k<l.length) (h8:row.length=8):(D.sl 8 tRn (jdb l k row)).len=l.length:=by
 simp only [D.len,D.cells,D.size,jjL hk h8];exact Nat.mul_div_cancel _ (by decide)
theorem jwU (hk:k<l.length):D.sl 8 tRn (jdb l k (jd r))=jN (l.set k r):=by
 have h1:(l.set k r)[k]?=some r:=List.getElem?_set_self hk;have h2:=jnQ h1
 have h3:jdb (l.set k r) k (jd r)=jdb l k (jd r):=by
  rw [jdb,jdb,List.take_set_of_le (Nat.le_refl _),List.drop_set_of_lt (Nat.lt_succ_self k)]
 rw [jN,h2,h3]
end
theorem jwt {flat:Bool} {p:List Nat} {k n:Nat} {η:jm} {K:jm→Prop} (h:∀η',K η'):stH flat p k n η K:=by
 cases flat with
 |true=>exact h _
 |false=>exact fun η' _=>h η'
theorem jhb (r:Rn) (t:Int):(qV r t).tasks.length=r.tasks.length:=by
 unfold qV;split
 ·simp only [jiA,jby]
 ·rfl
theorem qk (r:Rn) (t:Int):(jK r t).tasks.length=r.tasks.length:=by
 unfold jK;split
 ·unfold vM
  split
  ·simp only [List.length_set]
  ·simp only [zt,List.length_set]
 ·rfl
theorem RunOkP.le12 {r:Rn} (h:RunOkP r):r.tasks.length≤12:=by
 obtain ⟨n,h1,_,h2,_⟩:=jgL h.plan;have:=h.len;omega
theorem jxk {was ts:List Tk} {k:Nat} {x z:Tk} (h:ts[k]?=some x) (hz:was[k]?=some z):jm1 was ts k=((x.state==2)&&!(z.state==2)):=by
 have:=(List.getElem?_eq_some_iff.1 hz).1;simp [jm1,kq h,kq hz,this]
section
variable {P:Program} {β:Nat} {s:St} {K:St→Prop} {d:Option Nat} {g:Option (Nat×Bool)}
theorem Inl.weak {f:FuncId} {args:List AV} {o:Nat→Ob} {R R':AV→(Nat→Ob)→Prop} (h:Inl P f args o R) (hk:∀av o',R av o'→R' av o'):Inl P f args o R':=
 ⟨h.1,fun B w F xs h1 h2=>(h.2 B w F xs h1 h2).mono fun e w' ⟨v,av,o',F',k1,k2,k3,k4⟩=>⟨v,av,o',F',k1,k2,k3,hk _ _ k4⟩⟩
theorem jiX {f:Nat} {args:List X} {R:AV→(Nat→Ob)→Prop} (h:Inl P f (args.map s.ev) s.o R) (hk:∀av o',R av o'→K (St.put ⟨s.t,o'⟩ d av)):qC P β ⟨d,g,.call f args⟩ s K:=qU (h.weak hk)
theorem qo {f:Nat} {args:List X} {vs:List AV} {R:AV→(Nat→Ob)→Prop} (ha:args.map s.ev=vs) (h:Inl P f vs s.o R) (hk:∀av o',R av o'→K (St.put ⟨s.t,o'⟩ d av)):qC P β ⟨d,g,.call f args⟩ s K:=by subst ha;exact jiX h hk
theorem jq7 (x:A0):x.sim x=True:=by cases x<;>simp [A0.sim]
theorem jkY (x:Cell):x.sim x=True:=by cases x<;>simp [Cell.sim,jq7]
theorem jkZ:∀l:List Cell,simC l l=True
 |[]=>rfl
 |x::l=>by simp [simC,jkY,jkZ l]
theorem kO (x:Ob):x.sim x=True:=by cases x<;>simp [Ob.sim,jkZ]
end
section
variable {l:List Rn} {k:Nat} {r:Rn}
theorem jmk (h:l[k]?=some r):((l.flatMap jd).drop (k*8+7)).take 1=[jI r.tasks]:=qs (enc:=jd) (size:=8) (fun _=>rfl) h (j:=7) (n:=1) (by decide)
theorem jlE (h:l[k]?=some r):k*8+7+1≤(l.flatMap jd).length:=qr (enc:=jd) (size:=8) (fun _=>rfl) h (j:=7) (n:=1) (by decide)
end
theorem jxD {P:Program} {f:FuncId} {args:List AV} {o:Nat→Ob} {R:AV→(Nat→Ob)→Prop} (h:Inl P f args o fun av o'=>WkK (.only o') fun s'=>R av s'.o):Inl P f args o R:=
 ⟨h.1,fun B w F xs h1 h2=>(h.2 B w F xs h1 h2).mono fun e w' ⟨v,av,o',F',k1,k2,k3,k4⟩=>by
  obtain ⟨s',F2,k5,k6⟩:=k4 _ _ _ _ _ _ k2;exact ⟨v,av,s'.o,F2,k1,⟨k5.below,k5.hB,k5.df,k5.sz,fun _=>trivial,k5.ob,k5.fr,k5.dj⟩,k3,k6⟩⟩
def simAs:List AV→List AV→Prop
 |[],[]=>True
 |a::l,b::m=>a.sim b∧simAs l m
 |_,_=>False
theorem jq6:simAs [] []=True:=(rfl)
theorem jpd (a b:AV) (l m:List AV):simAs (a::l) (b::m)=(a.sim b∧simAs l m):=(rfl)
theorem simAs.rel {B:Nat} {w:World}:∀{l m:List AV} {xs:List Value},simAs l m→jib B w l xs→jib B w m xs
 |[],[],_,_,h=>h
 |_::_,_::_,_,⟨h1,h2⟩,⟨x,xs',e,h3,h4⟩=>⟨x,xs',e,h1.rel h3,h2.rel h4⟩
theorem jxE {P:Program} {f:FuncId} {vs vs2:List AV} {o o2:Nat→Ob} {R:AV→(Nat→Ob)→Prop} (hw:Wk (.only o) (.only o2)) (hs:simAs vs vs2) (h:Inl P f vs2 o2 R):Inl P f vs o R:=
 ⟨h.1,fun B w F xs h1 h2=>by
  obtain ⟨F2,h3,_⟩:=hw _ _ _ _ _ _ h1;exact h.2 B w F2 xs h3 (hs.rel h2)⟩
theorem zc {P:Program} {β:Nat} {s:St} {K:St→Prop} {d:Option Nat} {g:Option (Nat×Bool)} {f:Nat} {args:List X} {R:AV→(Nat→Ob)→Prop} (ks:List (Option Nat)) (O:List (Nat×Ob)) (vs2:List AV) (hs:simAs (args.map s.ev) vs2) (hf:joq s ks O) (h:Inl P f vs2 (lkO O) R) (hk:∀av o',R av o'→K (St.put ⟨s.t,o'⟩ d av)) (hn:jh8 (jo3 ks)=true:=by decide):qC P β ⟨d,g,.call f args⟩ s K:=by
 refine qU (jxE (o2:=lkO O) ?_ hs (h.weak hk))
 have hf':∀{ks:List (Option Nat)} {O:List (Nat×Ob)},joq s ks O→joq (.only s.o) ks O:=by
  intro ks
  induction ks with
  |nil=>intro O h;cases O<;>first|exact h|exact h.elim
  |cons k ks ih=>
   intro O h;cases O with
   |nil=>cases k<;>exact h.elim
   |cons p O=>cases k<;>exact ⟨h.1,ih h.2⟩
 exact jl (s:=.only s.o) ks (T:=[]) ⟨trivial,hf' hf⟩ hn
attribute [go_sem] jq6 jpd
def jcB:C:=iS [iA 3 (.box 42 4 (.t 0)),iA 5 (.box 78 8 (.t 2)),iA 6 (.alloc 42 [.int .i64 0,.int .i64 0,.slice none 0 0,.slice none 0 0])] (iS [iA 8 (iF 3 3),iA 9 (iL 8),iA 10 (iM 1),iA 11 (iI 8 9 10),iA 12 (iT 8 11),iA 7 (.alloc 78 [.int .i64 0,.int .i64 0,.int .i64 0,.int .i64 0,.int .i64 0,.slice none 0 0,.int .i64 0,.slice none 0 0]),iC (.st 8 [none,none,none,none,none,some (2,103),none,some (4,84)] (.t 7) (.t 12))] (iS [iA 13 (iF 3 3),iA 14 (iL 13),iA 15 (iM 1),iA 16 (iT 8 5),iA 17 (iI 8 14 15),iC (.st 8 [none,none,none,none,none,some (2,103),none,some (4,84)] (.t 17) (.t 16))] (iS [iA 18 (iT 4 3),iA 19 (iT 8 7),iA 20 (iT 8 5),iA 21 (.call 160 [.t 18,.t 19,.t 20]),iC (.st 4 [none,none,some (1,74),some (8,78)] (.t 6) (.t 21))] .ret)))
theorem je9:fnC Try.prog Try.f168=some (jcB,[.cell 6 true 4],22):=by kernel_rfl
abbrev jeE (b ty:Nat) (now seq:Int) (x2 x3:Value):Ob:=.box b ty [.a (.v (.int .i64 now)),.a (.v (.int .i64 seq)),.a (.v x2),.a (.v x3)]
theorem jdU {k b:Nat} {y:Yd} {r r2:Rn} (hr:y.runs[k]?=some r) (hrl:r2.tasks.length=r.tasks.length) (hr12:r.tasks.length≤12) (h4:y.shelf.length=4) (hq:1≤y.seq∧y.seq≤4000000000) (ht:jS y≤2000000)
 {o:Nat→Ob} {η2 η3 η5 η7:jm} (h90:o 90=ve b tYd y.now y.seq y.shelf η2 y.runs η3) (h97:o 97=.loose (jt r2.plan.edges) η5) (h98:o 98=.loose (jI r2.tasks) η7):
 Inl Try.prog 168 [.agg [.v (.int .i64 y.now),.v (.int .i64 y.seq),.h 90 2 [] (η2 []),.h 90 3 [] (η3 [])],Ni k,.agg [.v (.int .i64 r2.id),.v (.int .i64 r2.plan.prio),.v (.int .i64 r2.plan.most),.v (.int .i64 r2.plan.wait),.v (.int .i64 r2.plan.tasks),.h 97 0 [] (η5 []),.v (.int .i64 r2.state),.h 98 0 [] (η7 [])]] o
  fun av o'=>∃c e2 e3 x2 x3,av=.agg [.v (.int .i64 (qi y k r2).now),.v (.int .i64 (qi y k r2).seq),.h 66 2 [] (e2 []),.h 66 3 [] (e3 [])]∧o' 66=ve c tYd (qi y k r2).now (qi y k r2).seq (qi y k r2).shelf e2 (qi y k r2).runs e3∧o' 90=jeE b tYd y.now y.seq x2 x3∧o' 91=o 91∧o' 92=o 92∧o' 93=o 93∧o' 94=o 94∧o' 95=o 95∧o' 96=o 96:=by
 have hk:=(List.getElem?_eq_some_iff.1 hr).1;have h0k:(k:Int)≥0:=by omega
 refine jxD ?_;refine jfV (β:=5000000) [[1,0],[1,1,0],[1,1,1,0],[1,1,1,1]] Try.func168 je9 (by simp) ?_
 unfold jcB;simp only [C.ghs,C.ghAt,List.foldr];simp only [go_sem,h90,h97,h98];intro c3 c5 c6;refine kK ?_;have hR:jN y.runs=.sl 8 tRn (jdb y.runs k (jd r)):=by rw [jN,jnQ hr]
 refine WkK.wk (s':=St.of [(1,Ni k),(3,Bx 3 c3),(5,Bx 5 c5),(6,Bx 66 c6)] [(90,jeE b tYd y.now y.seq (η2 []) (η3 [])),(91,o 91),(92,o 92),(93,o 93),(94,o 94),(95,o 95),(96,o 96),(3,jaf c3 _ y.now y.seq y.shelf η2 (jN y.runs) η3),(5,jbT c5 _ r2 η5 η7),(66,ZYd c6 _)]) (jl [some 90,some 91,some 92,some 93,some 94,some 95,some 96,some 500000300,some 500000500,some 500000600] (by simp only [go_sem,jc,ja,jd,kO,h90]<;>and_intros<;>first|rfl|assumption|trivial)) ?_
 rw [hR];refine jgY 3 3 (k*8+5) 901 (η:=η3) (cs:=r.plan.edges.flatMap jW) rfl (jgJ hk 5 (by simp [jd,ja])) rfl (by decide) fun ηa ηA hA1 hA2 hA3=>?_
 rw [jgI hk 5 (by simp [jd,ja])]
 refine jgY 3 3 (k*8+7) 902 (η:=ηA) (cs:=r.tasks.flatMap ju) rfl (jgJ hk 7 (by simp [jd,ja])) rfl (by decide) fun ηb ηB hB1 hB2 hB3=>?_
 rw [jgI hk 7 (by simp [jd,ja])]
 rw [←hA2,←hB2];rw [←hA2] at hA3;rw [←hB2] at hB3;have hV:((jd r).set 5 (.val (ηa []))).set 7 (.val (ηb []))=rnV r (ηa []) (ηb []):=rfl;rw [hV];refine WkK.wk (s':=St.of [(1,Ni k),(3,Bx 3 c3),(5,Bx 5 c5),(6,Bx 66 c6)] [(90,jeE b tYd y.now y.seq (η2 []) (η3 [])),(91,o 91),(92,o 92),(93,o 93),(94,o 94),(95,o 95),(96,o 96),(3,jaf c3 _ y.now y.seq y.shelf η2 (.sl 8 tRn (jdb y.runs k (rnV r (ηa []) (ηb [])))) ηB),(5,jbT c5 _ r2 η5 η7),(66,ZYd c6 _),(901,.loose (jt r.plan.edges) ηa),(902,.loose (jI r.tasks) ηb)]) (jl [some 90,some 91,some 92,some 93,some 94,some 95,some 96,some 3,some 5,some 66,some 901,some 902] (by simp only [go_sem,jc,ja,jd,kO]<;>and_intros<;>first|rfl|assumption|trivial)) ?_
 refine WkK.of ?_;have hl1:(jdb y.runs k (rnV r (ηa []) (ηb []))).length=y.runs.length*8:=jjL hk rfl;have hd8:y.runs.length*8/8=y.runs.length:=Nat.mul_div_cancel _ (by decide)
 have ha1:((jdb y.runs k (rnV r (ηa []) (ηb []))).drop (k*8)).take 8=rnV r (ηa []) (ηb []):=jwV hk rfl;have hi8:k*8+8≤y.runs.length*8:=by omega
 have hdl:(D.sl 8 tRn (jdb y.runs k (rnV r (ηa []) (ηb [])))).len=y.runs.length:=jrp hk rfl;simp only [go_sem,hl1,hdl,ha1,hi8,hk,h0k,hA3,hB3];intro c7;refine kK ?_;refine WkK.wk (s':=St.of [(1,Ni k),(3,Bx 3 c3),(5,Bx 5 c5),(6,Bx 66 c6),(7,Bx 7 c7)] [(90,jeE b tYd y.now y.seq (η2 []) (η3 [])),(91,o 91),(92,o 92),(93,o 93),(94,o 94),(95,o 95),(96,o 96),(3,jaf c3 _ y.now y.seq y.shelf η2 (.sl 8 tRn (jdb y.runs k (rnV r (ηa []) (ηb [])))) ηB),(5,jbT c5 _ r2 η5 η7),(66,ZYd c6 _),(7,jtG c7 _ r (ηa []) (ηb [])),(901,.loose (jt r.plan.edges) ηa),(902,.loose (jI r.tasks) ηb)]) (jl [some 90,some 91,some 92,some 93,some 94,some 95,some 96,some 3,some 5,some 66,some 500000700,some 901,some 902] (by simp only [go_sem,jc,ja,jd,kO]<;>and_intros<;>first|rfl|assumption|trivial)) ?_
 refine qg 7 5 901 (d:=jt r.plan.edges) (η:=ηa) rfl rfl rfl ?_;refine qg 7 7 902 (d:=jI r.tasks) (η:=ηb) rfl rfl rfl ?_;refine qh 5 5 903 (d:=jt r2.plan.edges) (η:=η5) rfl rfl (by decide) fun hx5=>?_
 refine qh 5 7 904 (d:=jI r2.tasks) (η:=η7) rfl rfl (by decide) fun hx7=>?_
 refine WkK.of ?_;simp only [go_sem,hl1,hdl,ha1,hi8,hk,h0k,hx5,hx7];refine jwt fun ηC=>?_
 have hput:D.put [] (k*8) (rnH r2 (η5 []) (η7 [])) (.sl 8 tRn (jdb y.runs k (rnV r (ηa []) (ηb []))))=.sl 8 tRn (jdb y.runs k (rnH r2 (η5 []) (η7 []))):=by
  simp only [D.put];rw [jug hk rfl rfl]
 refine kK ?_;refine WkK.wk (s':=St.of [(1,Ni k),(3,Bx 3 c3),(5,Bx 5 c5),(6,Bx 66 c6),(7,Bx 7 c7)] [(90,jeE b tYd y.now y.seq (η2 []) (η3 [])),(91,o 91),(92,o 92),(93,o 93),(94,o 94),(95,o 95),(96,o 96),(3,jaf c3 _ y.now y.seq y.shelf η2 (.sl 8 tRn (jdb y.runs k (rnH r2 (η5 []) (η7 [])))) ηC),(5,jtG c5 _ r2 (η5 []) (η7 [])),(66,ZYd c6 _),(7,jbT c7 _ r ηa ηb),(903,.loose (jt r2.plan.edges) η5),(904,.loose (jI r2.tasks) η7)]) (jl [some 90,some 91,some 92,some 93,some 94,some 95,some 96,some 3,some 5,some 66,some 7,some 903,some 904] (by simp only [go_sem,jc,ja,jd,hput,kO]<;>and_intros<;>first|rfl|assumption|trivial)) ?_
 refine qg 5 5 903 (d:=jt r2.plan.edges) (η:=η5) rfl rfl rfl ?_;refine qg 5 7 904 (d:=jI r2.tasks) (η:=η7) rfl rfl rfl ?_;generalize hdR:D.sl 8 tRn (jdb y.runs k (rnH r2 (η5 []) (η7 [])))=dR at*;refine WkK.wk (s':=St.of [(1,Ni k),(3,Bx 3 c3),(5,Bx 5 c5),(6,Bx 66 c6),(7,Bx 7 c7)] [(90,jeE b tYd y.now y.seq (η2 []) (η3 [])),(91,o 91),(92,o 92),(93,o 93),(94,o 94),(95,o 95),(96,o 96),(3,jaf c3 _ y.now y.seq y.shelf η2 dR ηC),(5,jbT c5 _ r2 η5 η7),(66,ZYd c6 _),(7,jbT c7 _ r ηa ηb)]) (jl [some 90,some 91,some 92,some 93,some 94,some 95,some 96,some 3,some 5,some 66,some 7] (by simp only [go_sem,jc,ja,jd,kO]<;>and_intros<;>first|rfl|assumption|trivial)) ?_
 refine WkK.of ?_;simp only [go_sem,jc,ja,jd];refine qU (qZ (β:=7000000) Try.func160 jaN (by simp) ?_)
 unfold jaD;simp only [go_sem,jy,ju];intro d3 d4 d5 d6;refine jb (jcr r2.id) (by simp only [go_sem,jd,ja]) fun η=>?_
 simp only [go_sem,jd,ja];obtain ⟨hsn,hs4⟩:=jyF r2.id;rw [hsn];have hLY:qi y k r2=⟨y.now,(zw r2.plan.prio r2.id (vu r.tasks r2.tasks r2.tasks.length) ((y.shelf[shN r2.id]?).getD default,y.seq)).2,y.shelf.set (shN r2.id) (zw r2.plan.prio r2.id (vu r.tasks r2.tasks r2.tasks.length) ((y.shelf[shN r2.id]?).getD default,y.seq)).1,y.runs.set k r2⟩:=by rw [qi,hr,Option.getD_some];rfl
 rw [hLY];generalize shN r2.id=n at*;have hn:n<y.shelf.length:=by omega
 have h0n:(n:Int)≥0:=by omega
 obtain ⟨l,hl⟩:=je hn;have hll:=jbe ht (List.mem_of_getElem? hl);rw [hl,Option.getD_some];refine jq (fun i:Nat×jm=>St.of [(3,Bx 3 d3),(4,Bx 4 d4),(5,Bx 5 d5),(6,Bx 6 d6),(7,Ni n),(8,Ni i.1)] [(90,jeE b tYd y.now y.seq (η2 []) (η3 [])),(91,o 91),(92,o 92),(93,o 93),(94,o 94),(95,o 95),(96,o 96),(66,ZYd c6 _),(3,jaf d3 _ y.now (zw r2.plan.prio r2.id (vu r.tasks r2.tasks i.1) (l,y.seq)).2 (y.shelf.set n (zw r2.plan.prio r2.id (vu r.tasks r2.tasks i.1) (l,y.seq)).1) i.2 dR ηC),(4,jbT d4 _ r ηa ηb),(5,jbT d5 _ r2 η5 η7),(6,ZYd d6 _)]) (fun i=>i.1≤r2.tasks.length) (fun i=>r2.tasks.length-i.1) (0,η2) (by (try dsimp only);first|omega|(simp;done)|(and_intros<;>first|omega|simp)) (jl [some 90,some 91,some 92,some 93,some 94,some 95,some 96,some 66,some 700000300,some 700000400,some 700000500,some 700000600] (by simp only [go_sem,jc,ja,jd,jvS,jkd,jjF hl,kO]<;>and_intros<;>first|rfl|assumption|trivial)) ?_
 rintro ⟨j,η⟩ hj;dsimp only at hj;have hsq:=zu r2.plan.prio r2.id (vu r.tasks r2.tasks j) (l,y.seq);have hle:=jgM r2.plan.prio r2.id (vu r.tasks r2.tasks j) (l,y.seq);have hnl:=jdP r.tasks r2.tasks j;have hsnoc:=jlv r2.plan.prio r2.id (vu r.tasks r2.tasks j) j (l,y.seq);have hnx:=jvR r.tasks r2.tasks j;dsimp only at hsq hle;by_cases hlt:j<r2.tasks.length
 ·have hlt':(j:Int)<r2.tasks.length:=by omega
  have hltw:j<r.tasks.length:=by omega
  have hltw':(j:Int)<r.tasks.length:=by omega
  have h0j:(j:Int)≥0:=by omega
  obtain ⟨x,hx⟩:=je hlt;obtain ⟨z,hz⟩:=je hltw;have hw:IntKind.i64.wrap ((j:Int)+1)=((j+1:Nat):Int):=jg (by omega) (by omega)
  rw [jxk hx hz] at hnx;have hw2:IntKind.i64.wrap ((zw r2.plan.prio r2.id (vu r.tasks r2.tasks j) (l,y.seq)).2+1)=(zw r2.plan.prio r2.id (vu r.tasks r2.tasks j) (l,y.seq)).2+1:=jg (by omega) (by omega)
  generalize hPe:zw r2.plan.prio r2.id (vu r.tasks r2.tasks j) (l,y.seq)=P at*;obtain ⟨sh,hsh⟩:∃s,y.shelf.set n P.1=s:=⟨_,rfl⟩;have hSl:sh[n]?=some P.1:=by rw [←hsh];exact List.getElem?_set_self hn
  have hns:n<sh.length:=by rw [←hsh,List.length_set];exact hn
  have hss:∀L,sh.set n L=y.shelf.set n L:=fun L=>by rw [←hsh,List.set_set]
  have hi1:n+1≤(sh.flatMap fun es=>[jv es]).length:=by have:=jdV hns;rwa [Nat.mul_one] at this
  have hb1:((sh.flatMap fun es=>[jv es]).drop n).take 1=[jv P.1]:=by have:=jgT hSl;rwa [Nat.mul_one] at this
  rw [hsh];cases h2:x.state !=2
  ·have h2':(x.state==2)=true:=by have:x.state=2:=by simpa using h2
                                  simp [this]
   rw [h2',Bool.true_and] at hnx;cases h3:z.state==2
   ·rw [h3,Bool.not_false,if_pos rfl] at hnx
    rw [←hnx] at hsnoc;simp only [go_sem,ja,jd,ju,hlt',h0j,hlt,hltw,hltw',jeD hx,zW hx,jds hx,zh hx,jeD hz,zW hz,jds hz,zh hz,h2,h3];simp only [go_sem,hns,Nat.mul_one,hb1,hi1,h0n];refine jb (ze P.1 ⟨r2.plan.prio,P.2,r2.id,j⟩ (by omega)) (by simp only [go_sem,jy,qL hSl]) fun ηp=>?_
    simp only [go_sem,jy,qL hSl];simp only [go_sem,hns,Nat.mul_one,hi1,hb1,h0n,jeP,hw2,hw,hss];refine fun η' hη'=>?_
    exact ⟨(j+1,η'),by (try dsimp only);first|omega|assumption|(and_intros<;>first|omega|assumption),(jl [some 90,some 91,some 92,some 93,some 94,some 95,some 96,some 66,some 3,some 4,some 5,some 6] (by simp only [go_sem,jc,ja,jd,hsnoc,kO]<;>and_intros<;>first|rfl|assumption|trivial)),by (try dsimp only);omega⟩
   ·rw [h3,Bool.not_true,if_neg (by decide),List.append_nil] at hnx
    simp only [go_sem,ja,jd,ju,hlt',h0j,hlt,hltw,hltw',jeD hx,zW hx,jds hx,zh hx,jeD hz,zW hz,jds hz,zh hz,h2,h3,hw];exact ⟨(j+1,η),by (try dsimp only);first|omega|assumption|(and_intros<;>first|omega|assumption),(jl [some 90,some 91,some 92,some 93,some 94,some 95,some 96,some 66,some 3,some 4,some 5,some 6] (by simp only [go_sem,jc,ja,jd,hnx,hPe,hsh,kO]<;>and_intros<;>first|rfl|assumption|trivial)),by (try dsimp only);omega⟩
  ·have h2':(x.state==2)=false:=by simpa using h2
   rw [h2',Bool.false_and,if_neg (by decide),List.append_nil] at hnx
   simp only [go_sem,ja,jd,ju,hlt',h0j,hlt,jeD hx,zW hx,jds hx,zh hx,h2,hw];exact ⟨(j+1,η),by (try dsimp only);first|omega|assumption|(and_intros<;>first|omega|assumption),(jl [some 90,some 91,some 92,some 93,some 94,some 95,some 96,some 66,some 3,some 4,some 5,some 6] (by simp only [go_sem,jc,ja,jd,hnx,hPe,hsh,kO]<;>and_intros<;>first|rfl|assumption|trivial)),by (try dsimp only);omega⟩
 obtain rfl:j=r2.tasks.length:=by omega
 have hlt':¬((r2.tasks.length:Nat):Int)<r2.tasks.length:=by omega
 generalize zw r2.plan.prio r2.id (vu r.tasks r2.tasks r2.tasks.length) (l,y.seq)=P at*;simp only [go_sem,hlt',ja,jd];refine kK ?_;subst hdR;refine WkK.wk (s':=St.of [(6,Bx 66 c6)] [(90,jeE b tYd y.now y.seq (η2 []) (η3 [])),(91,o 91),(92,o 92),(93,o 93),(94,o 94),(95,o 95),(96,o 96),(66,jaf c6 _ y.now P.2 (y.shelf.set n P.1) η (.sl 8 tRn (jdb y.runs k (rnH r2 (η5 []) (η7 [])))) ηC),(5,jbT d5 _ r2 η5 η7)]) (jl [some 90,some 91,some 92,some 93,some 94,some 95,some 96,some 66,some 5] (by simp only [go_sem,ja,jd,kO]<;>and_intros<;>first|rfl|assumption|trivial)) ?_
 refine qh 5 5 901 (d:=jt r2.plan.edges) (η:=η5) rfl rfl (by decide) fun _=>?_
 refine qh 5 7 902 (d:=jI r2.tasks) (η:=η7) rfl rfl (by decide) fun _=>?_
 refine vA 66 3 (k*8+5) 901 (η:=ηC) (η2:=η5) (cs:=r2.plan.edges.flatMap jW) rfl (jgJ hk 5 (by simp)) (.inr rfl) rfl (by decide) fun ηD _=>?_
 rw [jgI hk 5 (by simp)]
 refine vA 66 3 (k*8+7) 902 (η:=ηD) (η2:=η7) (cs:=r2.tasks.flatMap ju) rfl (jgJ hk 7 (by simp)) (.inr rfl) rfl (by decide) fun ηE _=>?_
 rw [jgI hk 7 (by simp)]
 have hrow:(List.set (List.set (rnH r2 (η5 []) (η7 [])) 5 (.sl 2 tEd (r2.plan.edges.flatMap jW))) 7 (.sl 4 tTk (r2.tasks.flatMap ju)))=jd r2:=rfl;rw [hrow,jwU hk];refine WkK.of ?_;simp only [go_sem,jc];refine WkK.wk (s':=St.of [] [(66,ve c6 tYd y.now P.2 (y.shelf.set n P.1) η (y.runs.set k r2) ηE),(90,jeE b tYd y.now y.seq (η2 []) (η3 [])),(91,o 91),(92,o 92),(93,o 93),(94,o 94),(95,o 95),(96,o 96)]) (jl [some 66,some 90,some 91,some 92,some 93,some 94,some 95,some 96] (by simp only [go_sem,kO]<;>and_intros<;>first|rfl|assumption)) ?_
 refine WkK.of ⟨c6,η,ηE,η2 [],η3 [],rfl,rfl,rfl,rfl,rfl,rfl,rfl,rfl,rfl⟩
section
variable {s:St} {K:St→Prop}
theorem jqJ (g c sz lo n:Nat) (p:List Nat) (x:Value) (l:List A0) (R:List Cell→St→Prop):kM s (.hs g c p x sz lo n::l) R=kM s l (fun cs s'=>R (.a (.hs g c p x sz lo n)::cs) s'):=by simp [kM,A0.one]
theorem jnC {w:World} {d:D} {u:Value} {S:List Nat} (hd:d.isSl=true) (hs:0<d.size) (h:Rep w true d u S):joY u d.size 0 d.len=u:=by
 cases d with
 |val _=>cases hd
 |sl size ty cs=>
  obtain ⟨vs,T,S',hr,hl,_⟩:=h;have hlen:=RepL.length _ hl;rcases kY hr with ⟨rfl,rfl⟩|⟨g,n,c,rfl,_,h3,_⟩
  ·have:cs=[]:=List.eq_nil_of_length_eq_zero (by simpa using hlen.symm)
   subst this;simp [joY,D.len,D.cells,D.size]
  ·have e:(D.sl size ty cs).len=n:=by
    simp only [D.len,D.cells,D.size];rw [←hlen,h3];exact Nat.mul_div_cancel _ hs
   rw [e];simp only [joY,Nat.zero_mul,Nat.sub_zero];split
   ·rfl
   ·simp [Addr.add_lit]
theorem jh3 {B:Nat} {w:World} {a a':A0} (h:∀u,A0Rel B w a u→A0Rel B w a' u):∀{c:Nat} {l:List Cell} {us:List Value} {S:List Nat},CRel B w l us S→l[c]?=some (.a a)→CRel B w (l.set c (.a a')) us S
 |_,[],_,_,_,hc=>by simp at hc
 |0,.a x::l,_,S,⟨v,us',e,h1,h2⟩,hc=>by
  simp at hc;subst hc;exact ⟨v,us',e,h _ h1,h2⟩
 |0,.own e ε::l,_,_,_,hc=>by simp at hc
 |c+1,.a x::l,_,S,⟨v,us',e,h1,h2⟩,hc=>by
  simp at hc;exact ⟨v,us',e,h1,jh3 h h2 hc⟩
 |c+1,.own e ε::l,_,_,⟨v,us',T1,T2,e1,e2,h1,h2,h3,h4⟩,hc=>by
  simp at hc;exact ⟨v,us',T1,T2,e1,e2,h1,h2,h3,jh3 h h4 hc⟩
theorem jkJ (g c:Nat) {b ty:Nat} {cs:List Cell} {a a':A0} (hb:s.o g=.box b ty cs) (hc:cs[c]?=some (.a a)) (h:∀(B N:Nat) (w0 w:World) (act:Act) (F:Nat→List Nat),RelF B w0 N s act w F→∀u,A0Rel B w a u→A0Rel B w a' u) (hk:WkK (s.setO g (.box b ty (cs.set c (.a a')))) K):WkK s K:=by
 intro B N w0 w act F hr;have h4:=hr.ob g;rw [hb] at h4;obtain ⟨us,S1,q1,q2,q3⟩:=h4;refine hk _ _ _ _ _ _ (hr.setO (g:=g) (ob:=.box b ty (cs.set c (.a a'))) (S:=F g) ⟨us,S1,q1,jh3 (h _ _ _ _ _ _ hr) q2 hc,q3⟩ (hr.fr g) fun g' hg' x hx hx'=>hr.dj g' g hg' x hx' hx)
theorem jgW (g c g2:Nat) {b ty:Nat} {cs:List Cell} {d:D} {η:jm} (hb:s.o g=.box b ty cs) (hc:cs[c]?=some (.own d η)) (h2:s.o g2=.none) (hne:g2≠g) (hsz:0<d.size)
 (hk:WkK (((s.rm g c).setO g2 (.loose d η)).setO g (.box b ty (cs.set c (.a (.hs g2 0 [] (η []) d.size 0 d.len))))) K):WkK s K:=by
 have hcl:=(List.getElem?_eq_some_iff.1 hc).1;have ho:(s.o g).own c=some (d,η):=by rw [hb];simp [Ob.own,hc]
 refine qh g c g2 ho h2 hne fun hone=>?_
 have hrm:(s.rm g c).o g=.box b ty (cs.set c (.a (.v (η [])))):=by
  show (if g=g then (s.o g).rm c else _)=_
  rw [if_pos rfl,hb];simp only [Ob.rm,hc,rmC]
 refine jkJ g c (a:=.v (η [])) (b:=b) (ty:=ty) (cs:=cs.set c (.a (.v (η [])))) (by
  show (if g=g2 then _ else (s.rm g c).o g)=_
  rw [if_neg (Ne.symm hne)];exact hrm) (List.getElem?_set_self hcl) (a':=.hs g2 0 [] (η []) d.size 0 d.len) (fun B N w0 w act F hr u hu=>?_) ?_
 ·have h3:=hr.ob g2
  have e:((s.rm g c).setO g2 (.loose d η)).o g2=.loose d η:=by show (if g2=g2 then _ else _)=_;rw [if_pos rfl]
  rw [e] at h3;obtain ⟨k1,u',k2,k3⟩:=h3;have e2:η []=u':=by rw [k3,vL k1]
  have hu':u=η []:=hu;rw [hu'];exact ⟨.inl (by rw [e2,jnC k1 hsz k2]),hone⟩
 ·rw [List.set_set];exact hk
theorem jdy (g c g2:Nat) {g3 sz n b ty:Nat} {cs:List Cell} {d:D} {η:jm} {x:Value} (hb:s.o g=.box b ty cs) (hc:cs[c]?=some (.a (.hs g3 0 [] x sz 0 n))) (hx:x=η []) (hs:sz=d.size) (hn:n=d.len) (h2:s.o g2=.loose d η) (hsz:0<d.size)
 (hk:WkK (((s.setO g (.box b ty (cs.set c (.a (.v (η [])))))).setO g2 .none).setO g (.box b ty (cs.set c (.own d η)))) K):WkK s K:=by
 have hcl:=(List.getElem?_eq_some_iff.1 hc).1;have hne:g2≠g:=fun e=>by rw [e,hb] at h2;cases h2
 subst hx hs hn;refine jkJ g c (a:=.hs g3 0 [] (η []) d.size 0 d.len) hb hc (a':=.v (η [])) (fun B N w0 w act F hr u hu=>?_) ?_
 ·have h3:=hr.ob g2
  rw [h2] at h3;obtain ⟨k1,u',k2,k3⟩:=h3;have e2:η []=u':=by rw [k3,vL k1]
  obtain ⟨h5,_⟩:=hu;have h5:=h5.resolve_right fun h=>absurd h.1 (Nat.lt_irrefl 0)
  show u=η [];rw [h5,e2,jnC k1 hsz k2]
 ·refine qg g c g2 (b:=b) (ty:=ty) (cs:=cs.set c (.a (.v (η [])))) (d:=d) (η:=η) (by show (if g=g then _ else _)=_;rw [if_pos rfl]) (List.getElem?_set_self hcl) (by show (if g2=g then _ else s.o g2)=_;rw [if_neg hne];exact h2) ?_
  rw [List.set_set];exact hk
end
attribute [go_sem] jqJ
theorem jnL:∀(f g:Nat) (l:List UInt8),l.length≤f→l.length≤g→rvF f l=rvF g l
 |f,g,[],_,_=>by cases f<;>cases g<;>rfl
 |0,_,_::_,h,_=>by simp at h
 |_,0,_::_,_,h=>by simp at h
 |f+1,g+1,b::l,h1,h2=>by
  simp only [rvF];cases hv:jai (b::l) with
  |none=>rfl
  |some p=>
   obtain ⟨v,k⟩:=p;obtain ⟨_,q,h5,rfl⟩:=zI hv;have hne:=List.length_pos_iff.2 (jah v);simp only [List.length_cons] at h1 h2;dsimp only;rw [jnL f g]
   ·rw [List.length_drop,List.length_cons];omega
   ·rw [List.length_drop,List.length_cons];omega
structure RvTo (t:ByteArray) (k:Nat) (L:List Int):Prop where
 le:k≤t.size
 len:L.length≤k
 eq:rvF t.size t.data.toList=(rvF t.size (t.data.toList.drop k)).map fun r=>L++r
theorem RvTo.start (t:ByteArray):RvTo t 0 []:=⟨Nat.zero_le _,Nat.le_refl _,by simp⟩
theorem RvTo.step {t:ByteArray} {k:Nat} {L:List Int} (h:RvTo t k L) (hk:k<t.size):
 (vAt t (k:Int)).2=-1∧rvF t.size t.data.toList=none∨∃v m:Nat,vAt t (k:Int)=((v:Int),(m:Int))∧k<m∧RvTo t m (L++[(v:Int)]):=by
 have hs:t.data.toList.length=t.size:=by rw [Array.length_toList];rfl
 have hv:vAt t (k:Int)=match jai (t.data.toList.drop k) with
  |some (v,m)=>((v:Int),(k:Int)+(m:Int))
  |none=>(0,-1):=by rw [vAt,if_neg (by omega),Int.toNat_natCast];rfl
 have hl:(t.data.toList.drop k).length=t.size-k:=by rw [List.length_drop,hs]
 have heq:=h.eq;cases hd:t.data.toList.drop k with
 |nil=>rw [hd] at hl;simp at hl;omega
 |cons b l=>
  rw [hd] at hv hl heq;obtain ⟨f,hf⟩:∃f,t.size=f+1:=⟨t.size-1,by omega⟩
  cases hh:jai (b::l) with
  |none=>
   left;rw [hv,hh];refine ⟨rfl,?_⟩;rw [heq,hf];simp only [rvF,hh,Option.map_none]
  |some p=>
   obtain ⟨v,m⟩:=p;right;obtain ⟨_,q,h5,rfl⟩:=zI hh;have hne:=List.length_pos_iff.2 (jah v);have hlq:=congrArg List.length h5;rw [List.length_append] at hlq;refine ⟨v,k+(kB v).length,?_,by omega,by omega,?_,?_⟩
   ·rw [hv,hh];simp
   ·have:=h.len;simp;omega
   ·have e1:rvF (f+1) (b::l)=(rvF f ((b::l).drop (kB v).length)).map fun r=>(v:Int)::r:=by simp only [rvF,hh]
    rw [heq]
    conv=>lhs;rw [hf,e1]
    rw [←List.drop_drop,hd,jnL f t.size ((b::l).drop (kB v).length) (by rw [List.length_drop];omega) (by rw [List.length_drop];omega),Option.map_map]
    congr 1
    funext r
    simp
theorem RvTo.done {t:ByteArray} {k:Nat} {L:List Int} (h:RvTo t k L) (hk:¬k<t.size):rvF t.size t.data.toList=some L:=by
 have hs:t.data.toList.length=t.size:=by rw [Array.length_toList];rfl
 rw [h.eq,List.drop_eq_nil_of_le (by omega)]
 cases t.size<;>simp [rvF]
theorem juH (l:List Int) (a:Int):D.sl 1 joU (l.flatMap (fun n=>[iv n])++[iv a])=jo (l++[a]):=by simp [jo]
def rvR (t:ByteArray):List Int×Bool:=match rvF t.size t.data.toList with
 |some L=>(L,true)
 |none=>([],false)
theorem jbj {s:St} {a b g c:Nat} {x u:Value} {d:D} {η:jm} (ha:s.t a=.c (.h g c [] x)) (ho:(s.o g).own c=some (d,η)) (hx:η []=x) (hb:s.t b=.c (.v u)) (hu:u.oneCell'=true:=by rfl):jqv [.t a,.t b] (.tup [(false,[d]),(false,[.val u])]) s:=by
 simp only [zR,ji2,ha,hb,ji1,kn,jX];refine ⟨by simp,?_⟩
 simp [kM,A0.one,hu,ho,IsD,RT.flat];exact ⟨_,_,⟨rfl,rfl⟩,hx,rfl⟩
theorem jvK {s:St} {a b:Nat} {u:Value} {size:Nat} {ty:TypeId} (ha:s.t a=.c (.v (.slice none 0 0))) (hb:s.t b=.c (.v u)) (hu:u.oneCell'=true:=by rfl):jqv [.t a,.t b] (.tup [(false,[.sl size ty []]),(false,[.val u])]) s:=by
 simp only [zR,ji2,ha,hb,ji1,kn,jX];refine ⟨by simp,?_⟩
 simp only [List.flatMap_cons,List.flatMap_nil,List.append_nil,List.cons_append,List.nil_append,kM,A0.one,hu,RT.flat,IsD];simp [juG,IsD];rfl
theorem jhp (t:ByteArray) (ht:t.size≤1000000000):kl Try.prog 31 [.c (.val (.string t))] (.tup [(false,[jo (rvR t).1]),(false,[.val (.bool (rvR t).2)])]):=by
 refine jr Try.func31 jee (by simp) ?_
 unfold jbO;simp only [go_sem];refine jq (fun i:(List Int×Nat)×jm=>St.of [(0,.c (.v (.string t))),(4,Hd 7 i.2),(5,Ni i.1.2)] [(7,.loose (jo i.1.1) i.2)]) (fun i=>RvTo t i.1.2 i.1.1) (fun i=>t.size-i.1.2) (([],0),vT) (RvTo.start t) (jl [none] (by simp only [go_sem]<;>and_intros<;>first|rfl|assumption|trivial)) ?_
 rintro ⟨⟨L,k⟩,η⟩ hi;dsimp only at hi;have hle:=hi.le;have hlen:=hi.len;by_cases hlt:k<t.size;rotate_left
 ·have hlt':¬(k:Int)<(t.size:Int):=by omega
  have hr:rvR t=(L,true):=by rw [rvR,hi.done hlt]
  rw [hr];simp only [go_sem,hlt'];exact jbj (g:=7) (c:=0) (d:=jo L) (η:=η) (x:=η []) (by simp only [go_sem]) (by simp only [go_sem]) rfl (by simp only [go_sem])
 have hlt':(k:Int)<(t.size:Int):=by omega
 have hm1:L.length+1≤maxLen:=by unfold maxLen;omega
 have hm2:(L.length+1)*8≤140737488355328:=by omega
 simp only [go_sem,hlt'];refine jb (jfR t (k:Int) ht (by omega)) (by simp only [go_sem]) fun η=>?_
 simp only [go_sem];rcases hi.step hlt with ⟨e1,e2⟩|⟨v,m,e1,hkm,hn⟩
 ·have hr:rvR t=([],false):=by rw [rvR,e2]
  have hneg:(-1:Int)<0:=by omega
  rw [hr];simp only [go_sem,e1,hneg];exact jvK (by simp only [go_sem]) (by simp only [go_sem])
 ·have hneg:¬(m:Int)<0:=by omega
  have hmle:=hn.le;simp only [go_sem,e1,hneg,hm1,hm2];intro η2 η3;exact ⟨((L++[(v:Int)],m),η3),hn,(jl [some 2300] (by simp only [go_sem,juH]<;>and_intros<;>first|rfl|assumption|trivial)),by (try dsimp only);omega⟩
section
variable {P:Program} {β N B:Nat} {s:St} {K:St→Prop} {d:Option Nat} {gd:Option (Nat×Bool)} {a:Act} {w w0:World} {F:Nat→List Nat}
def jvx (o' o:Nat→Ob):Prop:=∀g,o' g=o g∨o' g=.none
open Classical in
theorem RelF.less (h:RelF B w0 N s a w F) {o':Nat→Ob} (ho:jvx o' s.o):∃F':Nat→List Nat,RelF B w0 N ⟨s.t,o'⟩ a w F'∧∀g,∀b∈F' g,b∈F g:=by
 have hs:∀g,∀b∈(if o' g=s.o g then F g else []),b∈F g:=fun g b hb=>by
  split at hb
  ·exact hb
  ·simp at hb
 refine ⟨fun g=>if o' g=s.o g then F g else [],⟨h.below,h.hB,h.df,h.sz,h.sl,fun g=>?_,fun g=>?_,fun g g' hne b hb hb'=>h.dj g g' hne b (hs g b hb) (hs g' b hb')⟩,hs⟩
 ·show ORel B w (o' g) _
  by_cases e:o' g=s.o g
  ·rw [if_pos e,e];exact h.ob g
  ·rw [if_neg e,(ho g).resolve_left e];rfl
 ·by_cases e:o' g=s.o g
  ·rw [if_pos e];exact h.fr g
  ·rw [if_neg e];exact Fresh.nil _
def jya (P:Program) (f:FuncId) (args:List AV) (o:Nat→Ob) (A:AV) (o':Nat→Ob):Prop:=Inl P f args o fun av o2=>av=A∧o2=o'
theorem jhA {f:FuncId} {args:List AV} {o o':Nat→Ob} {A:AV} (h:Inl P f args o fun av o2=>av=A∧jvx o' o2):jya P f args o A o':=
 ⟨h.1,fun B w F xs h1 h2=>(h.2 B w F xs h1 h2).mono fun e w' ⟨v,av,o2,F',k1,k2,k3,k4,k5⟩=>by
  obtain ⟨F2,r,_⟩:=k2.less (o':=o') k5;exact ⟨v,av,o',F2,k1,r,k3,k4,rfl⟩⟩
theorem jn {f:Nat} {args:List X} {vs:List AV} {A:AV} {o':Nat→Ob} (h:jya P f vs s.o A o') (ha:args.map s.ev=vs) (hk:K (St.put ⟨s.t,o'⟩ d A)):qC P β ⟨d,gd,.call f args⟩ s K:=by
 subst ha;exact jiX h fun av o2 ⟨h1,h2⟩=>by subst h1 h2;exact hk
theorem jp {g M:Nat} (h:g<M) (n:Nat) (hn:M≤n):(g=n)=False:=eq_false (by omega)
end
def jwi (o:Nat→Ob) (g:Nat) (ob:Ob):Nat→Ob:=fun k=>if k=g then ob else o k
theorem jyi (o:Nat→Ob) (g:Nat) (ob:Ob) (k:Nat):jwi o g ob k=if k=g then ob else o k:=(rfl)
theorem ql {g:Nat} {o o2:Nat→Ob} {ob:Ob} (h1:o2 g=ob) (h2:∀k,k≠g→o2 k=o k):jvx (jwi o g ob) o2:=fun k=>by
 rw [jyi];by_cases e:k=g
 ·rw [if_pos e,e];exact .inl h1.symm
 ·rw [if_neg e];exact .inl (h2 k e).symm
attribute [go_sem] jyi
def St.ofB (T:List (Nat×AV)) (O:List (Nat×Ob)) (M:Nat) (ob:Nat→Ob):St:=⟨lkT T,fun j=>if j<M then ob j else lkO O j⟩
theorem ofB_t (T:List (Nat×AV)) (O:List (Nat×Ob)) (M:Nat) (ob:Nat→Ob) (n:Nat):(St.ofB T O M ob).t n=lkT T n:=(rfl)
theorem ofB_o (T:List (Nat×AV)) (O:List (Nat×Ob)) (M:Nat) (ob:Nat→Ob) (n:Nat):(St.ofB T O M ob).o n=if n<M then ob n else lkO O n:=(rfl)
attribute [go_sem] ofB_t ofB_o
theorem jR {s:St} {T:List (Nat×AV)} {O:List (Nat×Ob)} {M:Nat} {ob:Nat→Ob} (ks:List (Option Nat)) (h:jv1 s T∧joq s ks O) (hf:∀j,j<M→s.o j=ob j) (hk:∀k∈jo3 ks,M≤k) (hn:jh8 (jo3 ks)=true:=by decide):Wk s (St.ofB T O M ob):=fun B N w0 w a F hr=>by
 have hob:=jsC hr.ob h.2;have hdj:=juQ (ks:=ks) (O:=O) hr.dj (jaF hn);refine ⟨fun j=>if j<M then F j else fp F ks O j,⟨hr.below,hr.hB,hr.df,hr.sz,juT hr.sl h.1,fun g=>?_,fun g=>?_,fun g g' hne x hx hx'=>?_⟩,fun g x hx=>?_⟩
 ·by_cases c:g<M
  ·simp only [St.ofB,if_pos c];rw [←hf g c];exact hr.ob g
  ·simp only [St.ofB,if_neg c];exact hob g
 ·by_cases c:g<M
  ·simp only [if_pos c];exact hr.fr g
  ·simp only [if_neg c];exact juP hr.fr ks O g
 ·by_cases c:g<M
  ·simp only [if_pos c] at hx
   by_cases c':g'<M
   ·simp only [if_pos c'] at hx';exact hr.dj g g' hne x hx hx'
   ·simp only [if_neg c'] at hx'
    obtain ⟨k,h1,h2⟩:=jdZ hx';exact hr.dj g k (by have:=hk k h1;omega) x hx h2
  ·simp only [if_neg c] at hx
   by_cases c':g'<M
   ·simp only [if_pos c'] at hx'
    obtain ⟨k,h1,h2⟩:=jdZ hx;exact hr.dj k g' (by have:=hk k h1;omega) x h2 hx'
   ·simp only [if_neg c'] at hx';exact hdj g g' hne x hx hx'
 ·by_cases c:g<M
  ·simp only [if_pos c] at hx;exact ⟨g,hx⟩
  ·simp only [if_neg c] at hx
   obtain ⟨k,_,h2⟩:=jdZ hx;exact ⟨k,h2⟩
theorem jlt:∀L:List Int,(L.flatMap fun n=>[iv n]).length=L.length
 |[]=>rfl
 |a::L=>by rw [List.flatMap_cons,List.length_append,jlt L];simp;omega
theorem jzK {s:St} (k c:Nat) (p:List Nat) (x:Value) (sz lo n:Nat):(∃dd,Is s (.hs k c p x sz lo n) dd)=jix ((s.o k).own c) fun d0 η=>η p=x∧jpX (D.get p d0) fun dd=>(dd.isSl=true∧dd.size=sz∧0<sz∧lo+n≤dd.len)∧True:=by
 have:=jzv (s:=s) k c p x sz lo n fun _=>True
 rw [←this];simp only [and_true]
def vP:C:=iS [iA 2 (iN 0)] (.seq (iS [iA 4 (iM 0),iA 5 (iF 0 4),iA 6 (iF 0 5),iA 7 (iL 6),iA 8 (iG 7),iA 9 (iQ .eql 3 8 0)] (iD 9 (iS [iA 10 (iM 0),iA 11 (iF 0 10),iA 12 (iF 1 11),iC (.st 1 [none] (.t 12) (.c (.bool true)))] (iS [iA 2 (iN 0)] .ret)) .skip)) (iS [iA 13 (iM 0),iA 14 (iF 0 13),iA 15 (iF 0 14),iA 16 (iL 15),iA 17 (.ia 1 (.t 16) (.c (.int .i64 0))),iA 18 (iL 17),iA 3 (iM 18)] (iS [iA 19 (iM 0),iA 20 (iM 0),iA 21 (iF 0 20),iA 22 (iF 0 21),iA 23 (iL 22),iA 24 (.sl 1 (.t 23) (some (.c (.int .i64 1))) none),iA 25 (iF 0 19),iA 26 (iF 0 25),iC (.st 1 [some (1,3)] (.t 26) (.t 24))] (iS [iA 27 (iM 3),iA 2 (iM 27)] .ret))))
theorem jaC:fnC Try.prog Try.f32=some (vP,[.t 2],28):=by kernel_rfl
def zF (b ty:Nat) (η:jm) (L:List Int) (s:Nat×Bool):Ob:=.box b ty [.a (.hs 87 0 [] (η []) 1 s.1 (L.length-s.1)),.a (.v (.bool s.2))]
theorem kp (L:List Int) (s:Nat×Bool) (b:Nat) (η:jm) (o:Nat→Ob) (hs:s.1≤L.length) (ho:o 88=zF b 63 η L s) (hL:o 87=.loose (jo L) η):
 jya Try.prog 32 [Bx 88 b] o (Ni (vd L s).1) (jwi o 88 (zF b 63 η L (vd L s).2)):=by
 obtain ⟨k,bad⟩:=s;dsimp only at hs;refine jhA ?_;refine qZ (β:=8000000) Try.func32 jaC (by simp) ?_
 unfold vP;unfold zF at ho;by_cases hlt:k<L.length
 ·obtain ⟨x,hx⟩:=je hlt
  have he:(((L.length-k:Nat):Int)==0)=false:=by simp;omega
  have h1:1≤L.length-k:=by omega
  have hr:vd L (k,bad)=(x,(k+1,bad)):=by simp only [vd,hx]
  have hpos:0<L.length-k:=by omega
  have hkl:k+(L.length-k)≤L.length:=by omega
  have hk1:k+1≤L.length:=by omega
  have hat:=ji hx;have hfl:(L.flatMap fun n=>[iv n]).length=L.length:=jlt L
  rw [Nat.mul_one] at hat;have hsub:L.length-k-1=L.length-(k+1):=by omega
  simp only [go_sem,ho,hL,he,h1,jzK,hpos,hkl,hk1,Nat.add_zero,hat,Nat.mul_one,hfl,Nat.le_refl,hsub,jqJ,jnA];rw [hr];refine ⟨rfl,ql (by simp only [go_sem,zF]) fun g g2=>?_⟩
  simp only [go_sem,eq_false g2,if_false]
 ·have hk:L.length-k=0:=by omega
  have he:(((0:Nat):Int)==0)=true:=rfl;have hr:vd L (k,bad)=(0,(k,true)):=by simp only [vd,List.getElem?_eq_none (by omega:L.length≤k)]
  have hkl:k+0≤L.length:=by omega
  rw [hk] at ho;simp only [go_sem,ho,hL,he,jzK,hkl];rw [hr];refine ⟨rfl,ql (by simp only [go_sem,zF,hk]) fun g g2=>?_⟩
  simp only [go_sem,eq_false g2,if_false]
def jei:C:=iS [iA 2 (iN 0)] (.seq (iS [iA 5 (iM 0),iA 6 (iF 0 5),iA 7 (iF 2 6),iA 8 (iL 7)] (iD 8 (iS [iA 2 (iN 0)] .ret) .skip)) (.seq (.dreg (T.pure 0 (iA 10 (iM 0)) (T.pure 1 (iA 11 (iF 0 10)) (T.pure 2 (iA 12 (iF 0 11)) (T.pure 3 (iA 13 (iL 12)) (T.pure 4 (iA 14 (iM 0)) (T.pure 5 (iA 15 (iF 0 14)) (T.pure 6 (iA 16 (iF 1 15)) (T.pure 7 (iA 17 (iL 16)) (T.alt (iA 18 (.call 64 [.t 13,.t 17])) [] (T.pure 9 (iA 9 (iM 18)) (T.pure 10 (iA 19 (iE 9 0)) (T.pure 11 (iA 20 (iE 9 1)) (T.pure 12 (iA 3 (iM 19)) (T.pure 13 (iA 4 (iM 20)) T.done))))) T.stop)))))))))) (.seq (iS [iA 21 (iM 4),iA 22 (iQ .lss 3 21 0)] (iD 22 (iS [iA 23 (iM 0),iA 24 (iF 0 23),iA 25 (iF 2 24),iC (.st 1 [none] (.t 25) (.c (.bool true)))] (iS [iA 2 (iN 0)] .ret)) .skip)) (iS [iA 26 (iM 0),iA 27 (iM 4),iA 28 (iF 0 26),iA 29 (iF 1 28),iC (.st 1 [none] (.t 29) (.t 27))] (iS [iA 30 (iM 3),iA 2 (iM 30)] .ret)))))
theorem jgj:fnC Try.prog Try.f28=some (jei,[.t 2],31):=by kernel_rfl
def vK (b ty:Nat) (t:ByteArray) (s:Int×Bool):Ob:=.box b ty [.a (.v (.string t)),.a (.v (.int .i64 s.1)),.a (.v (.bool s.2))]
theorem kR (t:ByteArray) (ht:t.size≤1000000000) (s:Int×Bool) (b:Nat) (o:Nat→Ob) (hs:s.1≤1000000000) (ho:o 89=vK b 56 t s):
 jya Try.prog 28 [Bx 89 b] o (Ni (qP t s).1) (jwi o 89 (vK b 56 t (qP t s).2)):=by
 obtain ⟨k,bad⟩:=s;dsimp only at hs;refine jhA ?_;refine qZ (β:=8000000) Try.func28 jgj (by simp) ?_
 unfold jei;unfold vK at ho;dsimp only at ho;cases bad;rotate_left
 ·have hr:qP t (k,true)=(0,(k,true)):=by simp only [qP,if_true]
  simp only [go_sem,ho];rw [hr];refine ⟨rfl,ql (by simp only [go_sem,vK,ho]) fun g g2=>?_⟩
  simp only [go_sem,eq_false g2,if_false]
 ·simp only [go_sem,ho]
  refine jb (jfO t k ht hs) (by simp only [go_sem,ho]) fun η=>?_
  simp only [go_sem,ho];by_cases hneg:(vAt t k).2<0
  ·have hr:qP t (k,false)=(0,(k,true)):=by simp only [qP,Bool.false_eq_true,if_false,if_pos hneg]
   simp only [go_sem,hneg,ho];rw [hr];refine ⟨rfl,ql (by simp only [go_sem,vK]) fun g g2=>?_⟩
   simp only [go_sem,eq_false g2,if_false]
  ·have hr:qP t (k,false)=((vAt t k).1,((vAt t k).2,false)):=by simp only [qP,Bool.false_eq_true,if_false,if_neg hneg]
   simp only [go_sem,hneg,ho];rw [hr];refine ⟨rfl,ql (by simp only [go_sem,vK]) fun g g2=>?_⟩
   simp only [go_sem,eq_false g2,if_false]
section
variable {σ:Type} {nx:σ→Int×σ} {bd:σ→Bool} {sb:σ→σ} {φ:σ→Nat}
structure Pot (nx:σ→Int×σ) (bd:σ→Bool) (sb:σ→σ) (φ:σ→Nat):Prop where
 le:∀s,φ (nx s).2≤φ s
 lt:∀s,bd s=false→φ (nx s).2+1≤φ s
 sb:∀s,φ (sb s)≤φ s
theorem Pot.cap (h:Pot nx bd sb φ) (c:Option Int) (m:Int) (s:σ):φ (js7 c sb m s)≤φ s:=by
 unfold js7;split
 ·split
  ·exact h.sb s
  ·exact Nat.le_refl _
 ·exact Nat.le_refl _
theorem jqG {α:Type} (w:α→Nat) (l:List α) (x:α):qE w (l++[x])=qE w l+w x:=by simp [qE]
theorem jlc {α:Type} {rd:σ→α×σ} (w:α→Nat) (h:∀s,bd s=false→φ (rd s).2+w (rd s).1≤φ s):∀(n:Nat) (acc:List α) (s:σ),qE w (jda bd rd n (acc,s)).1+φ (jda bd rd n (acc,s)).2≤qE w acc+φ s
 |0,acc,s=>Nat.le_refl _
 |n+1,acc,s=>by
  rw [jda];split
  ·exact Nat.le_refl _
  ·rename_i hb
   have h1:=jlc w h n (acc++[(rd s).1]) (rd s).2;have h2:=h s (by cases hq:bd s with|false=>rfl|true=>exact absurd hq hb)
   rw [jqG] at h1;dsimp only at h1⊢;omega
theorem jnw {α:Type}:∀l:List α,qE (fun _=>1) l=l.length
 |[]=>rfl
 |a::l=>by have:=jnw l;simp [qE] at this⊢;omega
theorem Pot.nx2 (h:Pot nx bd sb φ) (s:σ):φ (nx (nx s).2).2≤φ s:=Nat.le_trans (h.le _) (h.le s)
theorem Pot.rdPl (h:Pot nx bd sb φ) (c:Option Int) (s:σ):φ (rdPl c nx bd sb s).2+jeK (rdPl c nx bd sb s).1≤φ s:=by
 have h1:=fun n s=>jlc (rd:=jrA nx) (bd:=bd) (φ:=φ) (fun _=>1) (fun s hs=>by
  have a1:=h.lt s hs;have a2:=h.le (nx s).2;simp only [jrA];omega) n [] s
 simp only [Go.Proofs.Ytmnpailnelmpiaa.rdPl,jeK];have h3:=h.nx2 s;have h4:=h.nx2 (nx (nx s).2).2;have h5:=h.le (nx (nx (nx (nx s).2).2).2).2;have h2:=h.cap c (nx (nx (nx (nx (nx s).2).2).2).2).1 (nx (nx (nx (nx (nx s).2).2).2).2).2;have h1':=h1 (nx (nx (nx (nx (nx s).2).2).2).2).1.toNat (js7 c sb (nx (nx (nx (nx (nx s).2).2).2).2).1 (nx (nx (nx (nx (nx s).2).2).2).2).2);rw [jnw] at h1';have:qE (fun _:Ed=>1) []=0:=rfl
 omega
end
def jr9 (L:List Int) (s:Nat×Bool):Nat:=L.length-s.1+if s.2 then 0 else 1
def jpR (t:ByteArray) (s:Int×Bool):Nat:=(t.size-s.1).toNat+if s.2 then 0 else 1
theorem pot_L (L:List Int):Pot (vd L) (·.2) (fun s=>(s.1,true)) (jr9 L):=by
 refine ⟨fun s=>?_,fun s hs=>?_,fun s=>?_⟩
 ·unfold vd jr9
  split
  ·dsimp only;omega
  ·dsimp only;simp
 ·obtain ⟨k,b⟩:=s
  dsimp only at hs;subst hs;unfold vd jr9;split
  ·rename_i v hv
   have:=(List.getElem?_eq_some_iff.1 hv).1;simp at this⊢;omega
  ·simp
 ·unfold jr9;simp
theorem jkQ (t:ByteArray) (k:Int) (h:¬(vAt t k).2<0):0≤k∧k+1≤(vAt t k).2∧(vAt t k).2≤t.size:=by
 rw [vAt] at h⊢;split at h
 ·dsimp only at h;omega
 ·rename_i hk
  rw [if_neg hk];cases hv:jai (t.data.toList.drop k.toNat) with
  |none=>rw [hv] at h;exact absurd (show (-1:Int)<0 by decide) h
  |some p=>
   obtain ⟨v,m⟩:=p;have hp:=jkP hv;rw [List.length_drop,Array.length_toList] at hp;have hz:t.data.size=t.size:=rfl;dsimp only;omega
theorem pot_S (t:ByteArray):Pot (qP t) (·.2) (fun s=>(s.1,true)) (jpR t):=by
 have key:∀s:Int×Bool,s.2=false→jpR t (qP t s).2+1≤jpR t s:=fun s hs=>by
  obtain ⟨k,b⟩:=s;dsimp only at hs;subst hs;unfold qP jpR;simp only [Bool.false_eq_true,if_false];split
  ·simp
  ·rename_i hn
   have:=jkQ t k hn;simp;omega
 refine ⟨fun s=>?_,key,fun s=>?_⟩
 ·cases hs:s.2 with
  |false=>have:=key s hs;omega
  |true=>unfold qP;rw [if_pos hs];exact Nat.le_refl _
 ·unfold jpR;simp
theorem jrd:∀(f:Nat) (l:List UInt8) (L:List Int),rvF f l=some L→L.length≤l.length
 |0,[],L,h=>by simp [rvF] at h;subst h;simp
 |_+1,[],L,h=>by simp [rvF] at h;subst h;simp
 |0,_::_,L,h=>by simp [rvF] at h
 |f+1,b::l,L,h=>by
  simp only [rvF] at h;cases hv:jai (b::l) with
  |none=>rw [hv] at h;simp at h
  |some p=>
   obtain ⟨v,k⟩:=p;rw [hv] at h;simp only [Option.map_eq_some_iff] at h;obtain ⟨r,h1,rfl⟩:=h;have h2:=jrd f _ _ h1;have h3:=jkP hv;rw [List.length_drop] at h2;simp only [List.length_cons] at*;omega
theorem jh7 (a b:ByteArray):(a.toList==b.toList)=decide (a=b):=by
 rw [ByteArray.toList_eq,ByteArray.toList_eq,Bool.eq_iff_iff,beq_iff_eq,decide_eq_true_iff];constructor
 ·intro h;cases a;cases b;congr 1;exact Array.toList_inj.1 h
 ·rintro rfl;rfl
end Go.Proofs.Ytmnpailnelmpiaa
