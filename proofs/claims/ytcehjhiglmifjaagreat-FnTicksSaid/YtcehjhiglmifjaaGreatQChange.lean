/- Parts. -/
import Derived.Test.YtcehjhiglmifjaaGreatQTurnP
set_option linter.unusedSimpArgs false
set_option linter.unusedVariables false
set_option maxHeartbeats 8000000
set_option maxRecDepth 100000
namespace Go.Proofs.YtcehjhiglmifjaaGreat
open Go.RowKit Go.Sort
theorem juu {P:Program} {f:FuncId} {args:List AV} {o:Nat→Ob} {R:AV→(Nat→Ob)→Prop} (h:Inl P f args o fun av o'=>WkK (.only o') fun s'=>R av s'.o):Inl P f args o R:=
 ⟨h.1,fun B w F xs h1 h2=>(h.2 B w F xs h1 h2).mono fun e w' ⟨v,av,o',F',k1,k2,k3,k4⟩=>by
  obtain ⟨s',F2,k5,k6⟩:=k4 _ _ _ _ _ _ k2;exact ⟨v,av,s'.o,F2,k1,⟨k5.below,k5.hB,k5.df,k5.sz,fun _=>trivial,k5.ob,k5.fr,k5.dj⟩,k3,k6⟩⟩
def frP (was:List Tk) (v:Int):Bool:=!decide (v∈qM 2 was)
theorem jwr {s:Int} {ts:List Tk} {j:Nat}:(j:Int)∈qM s ts↔j<ts.length∧(stT ts (j:Int)==s)=true:=by
 simp only [qM,vO,List.mem_map,List.mem_filter,List.mem_range];constructor
 ·rintro ⟨i,h,he⟩
  obtain rfl:i=j:=by omega
  exact h
 ·exact fun h=>⟨j,h,rfl⟩
theorem jBt (was ts:List Tk):(qM 2 ts).filter (frP was)=vP was ts ts.length:=by
 simp only [qM,vO,vP,List.filter_map,List.filter_filter]
 congr 1
 refine List.filter_congr fun j _=>?_
 have h:frP was (j:Int)=!(decide (j<was.length)&&(stT was (j:Int)==2)):=by
  simp only [frP,jwr]
  congr 1
  cases (stT was (j:Int)==2)<;>simp
 simp only [Function.comp,h,joO];rw [Bool.and_comm]
theorem jzq {l:List Int} {k:Nat} {v:Int} (p:Int→Bool) (h:l[k]?=some v):(l.take (k+1)).filter p=(l.take k).filter p++(if p v then [v] else []):=by
 rw [List.take_add_one,h,List.filter_append];cases hp:p v<;>simp [hp]
def jga:C:=iS [iA 10 (iM 0),iA 11 (iF 0 10),iA 12 (iF 3 11),iA 13 (iL 12),iA 14 (iM 1),iA 15 (iI 8 13 14),iA 16 (iT 8 15),iA 17 (.call 47 [.t 16,.c (.int .i64 2)]),iA 6 (iM 17)] (iS [iA 18 (iM 2),iA 19 (iM 0),iA 20 (iF 0 19),iA 21 (iF 3 20),iA 22 (iL 21),iA 23 (iM 1),iA 24 (iI 8 22 23),iA 25 (.callv (.t 18) [.t 24])] (iS [iA 7 (.mov (.c (.slice none 0 0)))] (.seq (iS [iA 26 (iM 0),iA 27 (iF 0 26),iA 28 (iF 3 27),iA 29 (iL 28),iA 30 (iM 1),iA 31 (iI 8 29 30),iA 32 (iT 8 31),iA 33 (.call 47 [.t 32,.c (.int .i64 2)]),iA 34 (iG 33),iA 35 (iN 0)] (.blk 0 (.loop (iS [iA 36 (iP .lss 3 35 34)] (.seq (iD 36 .skip (.exit 0)) (.seq (.blk 1 (iS [iA 37 (iI 1 33 35),iA 38 (iL 37),iA 9 (iM 38)] (iS [iA 39 (iM 6),iA 40 (iM 9),iA 41 (.call 80 [.t 39,.t 40]),iA 42 (iU 41)] (iD 42 (.reg [iA 43 (iM 7),iA 44 (iM 9),iA 45 (.bsl 3 1 1 [none] [(0,1,.t 44)]),iA 46 (.app 3 1 8 (.t 43) (.t 45)),iA 7 (iM 46)]) .skip)))) (.reg [iA 47 (iQ .add 3 35 1),iA 35 (iM 47)]))))))) (.reg [iA 48 (iM 0),iA 49 (iM 0),iA 50 (iF 0 49),iA 51 (iF 3 50),iA 52 (iL 51),iA 53 (iM 1),iA 54 (iI 8 52 53),iA 55 (iT 8 54),iA 56 (iM 7),iA 57 (.call 111 [.t 48,.t 55,.t 56])]))))
theorem jie:fnC Tryz.prog Tryz.f116=some (jga,[],58):=by kernel_rfl
theorem jdm {k b:Nat} {y:Yd} {r r2:Rn} {f:FuncId} {caps:List A0} {H:Ob} (hr:y.runs[k]?=some r) (hl2:r2.tasks.length=r.tasks.length) (hl12:r.tasks.length≤12) (h4:y.shelf.length=4) (hq:1≤y.seq∧y.seq≤4000000000) (ht:jJ y≤2000000)
 (hc:jvz Tryz.prog f caps H k y r2) {o:Nat→Ob} {e2 e3:js} (h90:o 90=kq b tYd y.now y.seq y.shelf e2 y.runs e3) (h91:o 91=H):
 Inl Tryz.prog 116 [Bx 90 b,Ni k,.fn f caps] o fun av o'=>av=.tup []∧(∃e2' e3',o' 90=kq b tYd (kM y k r2).now (kM y k r2).seq (kM y k r2).shelf e2' (kM y k r2).runs e3')∧o' 91=H∧o' 92=o 92∧o' 93=o 93∧o' 94=o 94∧o' 95=o 95∧o' 96=o 96:=by
 refine juu ?_;refine jk9 (β:=5000000) [[1,0],[1,1,1,1]] Tryz.func116 jie (by simp) ?_
 unfold jga;simp only [C.ghs,C.ghAt,List.foldr];have hk:=(List.getElem?_eq_some_iff.1 hr).1;have h0k:(k:Int)≥0:=by omega
 simp only [go_sem,h90,Nat.add_zero,hk,h0k,jhl hr,jcy hr,jd,ja];refine jc (kJ r 2 (by omega)) (by simp only [go_sem,h90,jd,ja,jZ hr,ke hr]) fun ηi=>?_
 simp only [go_sem,h90,jd,ja,jZ hr,ke hr];refine kY ?_;refine WkK.wk (s':=St.of [(0,Bx 90 b),(1,Ni k),(2,.fn f caps),(6,Hd 97 (ηi 0))] [(90,kq b tYd y.now y.seq y.shelf e2 y.runs e3),(91,o 91),(92,o 92),(93,o 93),(94,o 94),(95,o 95),(96,o 96),(97,.loose (jh (qM 2 r.tasks)) (ηi 0))]) (jg [some 90,some 91,some 92,some 93,some 94,some 95,some 96,some 500001700] (by simp only [go_sem,h90,jT,jm0]<;>and_intros<;>first|rfl|assumption|trivial)) ?_
 refine WkK.of ?_;simp only [go_sem,Nat.add_zero,hk,h0k,jcy hr];refine jtx (f:=f) (caps:=caps) (by simp only [go_sem]) (hc _ b e2 e3 (by simp only [go_sem]) (by simp only [go_sem];exact h91)) ?_
 rintro _ o1 ⟨rfl,j90,j91,j92,j93,j94,j95,j96,j97⟩ η;simp only [go_sem] at j92 j93 j94 j95 j96 j97;have hr2:(y.runs.set k r2)[k]?=some r2:=List.getElem?_set_self hk;have hk2:k<(y.runs.set k r2).length:=by rw [List.length_set];exact hk
 simp only [go_sem,j90,Nat.add_zero,hk2,h0k,jhl hr2,jcy hr2,jd,ja];refine jc (kJ r2 2 (by omega)) (by simp only [go_sem,j90,jd,ja,jZ hr2,ke hr2]) fun ηj=>?_
 simp only [go_sem,j90,jd,ja,jZ hr2,ke hr2]
 have hn0:∀v:Int,v∈qM 2 r2.tasks→0≤v:=fun v hv=>by
  simp only [qM,vO,List.mem_map] at hv;obtain ⟨a,_,rfl⟩:=hv;omega
 have hfn:=jBt r.tasks r2.tasks;have hLl:(qM 2 r2.tasks).length≤12:=Nat.le_trans (vC _ _ _) (by omega)
 have hBl:(qM 2 r.tasks).length≤12:=Nat.le_trans (vC _ _ _) hl12;generalize qM 2 r2.tasks=L2 at*;refine jn (fun i:Nat×js=>St.of [(0,Bx 90 b),(1,Ni k),(6,Hd 97 (ηi 0)),(7,Hd 7 i.2),(33,Hd 33 (ηj 0)),(34,Ni L2.length),(35,Ni i.1)] [(90,kq b tYd y.now y.seq y.shelf e2 (y.runs.set k r2) e3),(91,H),(92,o 92),(93,o 93),(94,o 94),(95,o 95),(96,o 96),(97,.loose (jh (qM 2 r.tasks)) (ηi 0)),(7,.loose (jh ((L2.take i.1).filter (frP r.tasks))) i.2),(33,.loose (jh L2) (ηj 0))]) (fun i=>i.1≤L2.length) (fun i=>L2.length-i.1) (0,jcc) (by (try dsimp only);first|omega|(simp;done)|(and_intros<;>first|omega|simp)) (jg [some 90,some 91,some 92,some 93,some 94,some 95,some 96,some 97,none,some 500003300] (by simp only [go_sem,j90,j91,j92,j93,j94,j95,j96,j97,List.take_zero,List.filter_nil,jT]<;>and_intros<;>first|rfl|assumption|trivial)) ?_
 rintro ⟨i,η7⟩ hi;dsimp only at hi;by_cases hlt:i<L2.length
 ·have hlt':(i:Int)<L2.length:=by omega
  obtain ⟨v,hv⟩:=je hlt;have hw:IntKind.i64.wrap ((i:Int)+1)=((i+1:Nat):Int):=jf (by omega) (by omega)
  have hft:=jzq (frP r.tasks) hv;have hFl:((L2.take i).filter (frP r.tasks)).length≤12:=Nat.le_trans (List.length_filter_le _ _) (by rw [List.length_take];omega)
  generalize (L2.take i).filter (frP r.tasks)=F at*;have m1:F.length+1≤maxLen:=by unfold maxLen;omega
  have m2:(F.length+1)*8≤140737488355328:=by omega
  simp only [go_sem,hlt',hlt,jj hv,ji hlt];refine jc (jjk (qM 2 r.tasks) v (by omega)) (by simp only [go_sem]) fun η=>?_
  simp only [go_sem];cases hd:decide (v∈qM 2 r.tasks)
  ·have hp:frP r.tasks v=true:=by rw [frP,hd];rfl
   rw [hp,if_pos rfl] at hft;simp only [go_sem,hd,m1,m2,vg,hw];intro η1 η8;exact ⟨(i+1,η8),by (try dsimp only);first|omega|assumption|(and_intros<;>first|omega|assumption),(jg [some 90,some 91,some 92,some 93,some 94,some 95,some 96,some 97,some 500004600,some 33] (by simp only [go_sem,hft,jT]<;>and_intros<;>first|rfl|assumption|trivial)),by (try dsimp only);omega⟩
  ·have hp:frP r.tasks v=false:=by rw [frP,hd];rfl
   rw [hp,if_neg (by decide),List.append_nil] at hft
   simp only [go_sem,hd,hw];exact ⟨(i+1,η7),by (try dsimp only);first|omega|assumption|(and_intros<;>first|omega|assumption),(jg [some 90,some 91,some 92,some 93,some 94,some 95,some 96,some 97,some 7,some 33] (by simp only [go_sem,hft,jT]<;>and_intros<;>first|rfl|assumption|trivial)),by (try dsimp only);omega⟩
 have hlt':¬(i:Int)<L2.length:=by omega
 rw [List.take_of_length_le (by omega),hfn]
 simp only [go_sem,hlt'];refine kY ?_;have hR:jK (y.runs.set k r2)=.sl 8 tRn (jby y.runs k (jd r2)):=(jlL hk).symm;have hid:(vP r.tasks r2.tasks r2.tasks.length).length≤12:=Nat.le_trans (jdg _ _ _) (by omega)
 have hLY:kM y k r2=⟨y.now,(vQ r2.plan.prio r2.id (vP r.tasks r2.tasks r2.tasks.length) ((y.shelf[shN r2.id]?).getD default,y.seq)).2,y.shelf.set (shN r2.id) (vQ r2.plan.prio r2.id (vP r.tasks r2.tasks r2.tasks.length) ((y.shelf[shN r2.id]?).getD default,y.seq)).1,y.runs.set k r2⟩:=by rw [kM,hr,Option.getD_some];rfl
 generalize vP r.tasks r2.tasks r2.tasks.length=ids at*;refine WkK.wk (s':=St.of [(0,Bx 90 b),(1,Ni k),(7,Hd 97 η7)] [(90,qZ b tYd y.now y.seq y.shelf e2 (jK (y.runs.set k r2)) e3),(91,H),(92,o 92),(93,o 93),(94,o 94),(95,o 95),(96,o 96),(97,.loose (jh ids) η7)]) (jg [some 90,some 91,some 92,some 93,some 94,some 95,some 96,some 7] (by simp only [go_sem,jT]<;>and_intros<;>first|rfl|assumption|trivial)) ?_
 rw [hR];refine jer 90 3 (k*8+5) 98 (η:=e3) (cs:=r2.plan.edges.flatMap jO) rfl (jaK hk 5 (by simp [jd,ja])) rfl (by decide) fun ηa ηA hA1 hA2 hA3=>?_
 rw [jae hk 5 (by simp [jd,ja])]
 refine jer 90 3 (k*8+7) 99 (η:=ηA) (cs:=r2.tasks.flatMap jo) rfl (jaK hk 7 (by simp [jd,ja])) rfl (by decide) fun ηb ηB hB1 hB2 hB3=>?_
 rw [jae hk 7 (by simp [jd,ja])]
 rw [←hA2,←hB2];rw [←hA2] at hA3;rw [←hB2] at hB3;have hV:((jd r2).set 5 (.val (ηa []))).set 7 (.val (ηb []))=rnV r2 (ηa []) (ηb []):=rfl;rw [hV];obtain ⟨dR,hdR⟩:∃dR,D.sl 8 tRn (jby y.runs k (rnV r2 (ηa []) (ηb [])))=dR:=⟨_,rfl⟩;refine WkK.wk (s':=St.of [(0,Bx 90 b),(1,Ni k),(7,Hd 97 η7)] [(90,qZ b tYd y.now y.seq y.shelf e2 (.sl 8 tRn (jby y.runs k (rnV r2 (ηa []) (ηb [])))) ηB),(91,H),(92,o 92),(93,o 93),(94,o 94),(95,o 95),(96,o 96),(97,.loose (jh ids) η7),(98,.loose (jy r2.plan.edges) ηa),(99,.loose (jB r2.tasks) ηb)]) (jg [some 90,some 91,some 92,some 93,some 94,some 95,some 96,some 97,some 98,some 99] (by simp only [go_sem,jT,jy,jB]<;>and_intros<;>first|rfl|assumption|trivial)) ?_
 refine WkK.of ?_;have hl1:(jby y.runs k (rnV r2 (ηa []) (ηb []))).length=y.runs.length*8:=jiz hk rfl;have ha1:((jby y.runs k (rnV r2 (ηa []) (ηb []))).drop (k*8)).take 8=rnV r2 (ηa []) (ηb []):=jtG hk rfl;have hi8:k*8+8≤y.runs.length*8:=by omega
 have hdl:(D.sl 8 tRn (jby y.runs k (rnV r2 (ηa []) (ηb [])))).len=y.runs.length:=jnf hk rfl;simp only [go_sem,hl1,hdl,ha1,hi8,hk,h0k,hA3,hB3,Nat.add_zero];refine kV (qn (β:=8000000) Tryz.func111 jcI (by simp) ?_)
 unfold jcY;simp only [go_sem,hA3,hB3];intro b74;refine jc (jdN r2.id) (by simp only [go_sem]) fun η=>?_
 simp only [go_sem];obtain ⟨hsn,hs4⟩:=jym r2.id;rw [hsn];rw [hLY];generalize shN r2.id=n at*;have hn:n<y.shelf.length:=by omega
 have h0n:(n:Int)≥0:=by omega
 obtain ⟨l,hl⟩:=je hn;have hll:=vU ht (List.mem_of_getElem? hl);rw [hl,Option.getD_some];rw [hdR];refine jn (fun i:Nat×js=>St.of [(0,Bx 90 b),(4,Bx 4 b74),(6,Ni n),(12,Hd 97 η7),(13,Ni ids.length),(14,Ni i.1)] [(90,qZ b tYd y.now (vQ r2.plan.prio r2.id (ids.take i.1) (l,y.seq)).2 (y.shelf.set n (vQ r2.plan.prio r2.id (ids.take i.1) (l,y.seq)).1) i.2 dR ηB),(91,H),(92,o 92),(93,o 93),(94,o 94),(95,o 95),(96,o 96),(97,.loose (jh ids) η7),(98,.loose (jy r2.plan.edges) ηa),(99,.loose (jB r2.tasks) ηb),(4,joK b74 tRn r2 (ηa []) (ηb []))]) (fun i=>i.1≤ids.length) (fun i=>ids.length-i.1) (0,e2) (by (try dsimp only);first|omega|(simp;done)|(and_intros<;>first|omega|simp)) (jg [some 90,some 91,some 92,some 93,some 94,some 95,some 96,some 97,some 98,some 99,some 800000400] (by simp only [go_sem,List.take_zero,jfj,jad hl,jT]<;>and_intros<;>first|rfl|assumption|trivial)) ?_
 rintro ⟨i,η⟩ hi;dsimp only at hi;have hsq:=zB r2.plan.prio r2.id (ids.take i) (l,y.seq);have hle:=jdl r2.plan.prio r2.id (ids.take i) (l,y.seq);have hnl:(ids.take i).length=i:=by rw [List.length_take];omega
 dsimp only at hsq hle;by_cases hlt:i<ids.length
 ·have hlt':(i:Int)<ids.length:=by omega
  have h0i:(i:Int)≥0:=by omega
  obtain ⟨x,hx⟩:=je hlt;have hsnoc:=jfi r2.plan.prio r2.id (ids.take i) x (l,y.seq);have hnx:ids.take (i+1)=ids.take i++[x]:=by rw [List.take_add_one,hx];rfl
  rw [←hnx] at hsnoc;have hw:IntKind.i64.wrap ((i:Int)+1)=((i+1:Nat):Int):=jf (by omega) (by omega)
  have hw2:IntKind.i64.wrap ((vQ r2.plan.prio r2.id (ids.take i) (l,y.seq)).2+1)=(vQ r2.plan.prio r2.id (ids.take i) (l,y.seq)).2+1:=jf (by omega) (by omega)
  generalize hPe:vQ r2.plan.prio r2.id (ids.take i) (l,y.seq)=P at*;obtain ⟨sh,hsh⟩:∃s,y.shelf.set n P.1=s:=⟨_,rfl⟩;have hSl:sh[n]?=some P.1:=by rw [←hsh];exact List.getElem?_set_self hn
  have hns:n<sh.length:=by rw [←hsh,List.length_set];exact hn
  have hss:∀L,sh.set n L=y.shelf.set n L:=fun L=>by rw [←hsh,List.set_set]
  have hi1:n+1≤(sh.flatMap fun es=>[jm es]).length:=by have:=jaM hns;rwa [Nat.mul_one] at this
  have hb1:((sh.flatMap fun es=>[jm es]).drop n).take 1=[jm P.1]:=by have:=jbJ hSl;rwa [Nat.mul_one] at this
  have hxi:i+1≤(ids.flatMap fun n=>[iv n]).length:=by have:=ji hlt;rwa [Nat.mul_one] at this
  have hxa:((ids.flatMap fun n=>[iv n]).drop i).take 1=[iv x]:=by have:=jj hx;rwa [Nat.mul_one] at this
  rw [hsh];simp only [go_sem,ja,jd,hlt',h0i,hlt,hxa,hxi,Nat.add_zero,hns,Nat.mul_one,hb1,hi1,h0n];refine jc (jar P.1 ⟨r2.plan.prio,P.2,r2.id,x⟩ (by omega)) (by simp only [go_sem,jk,ko hSl]) fun ηp=>?_
  simp only [go_sem,jk,ko hSl];simp only [go_sem,hns,Nat.mul_one,hi1,hb1,h0n,jao,hw2,hw,hss,Nat.add_zero];refine fun η' hη'=>?_
  exact ⟨(i+1,η'),by (try dsimp only);first|omega|assumption|(and_intros<;>first|omega|assumption),(jg [some 90,some 91,some 92,some 93,some 94,some 95,some 96,some 97,some 98,some 99,some 4] (by simp only [go_sem,ja,jd,hsnoc,jT]<;>and_intros<;>first|rfl|assumption|trivial)),by (try dsimp only);omega⟩
 obtain rfl:i=ids.length:=by omega
 have hlt':¬((ids.length:Nat):Int)<ids.length:=by omega
 rw [List.take_length];generalize vQ r2.plan.prio r2.id ids (l,y.seq)=P at*;subst hdR;simp only [go_sem,hlt'];refine WkK.wk (s':=St.of [] [(90,qZ b tYd y.now P.2 (y.shelf.set n P.1) η (.sl 8 tRn (jby y.runs k (rnV r2 (ηa []) (ηb [])))) ηB),(91,H),(92,o 92),(93,o 93),(94,o 94),(95,o 95),(96,o 96),(98,.loose (jy r2.plan.edges) ηa),(99,.loose (jB r2.tasks) ηb)]) (jg [some 90,some 91,some 92,some 93,some 94,some 95,some 96,some 98,some 99] (by simp only [go_sem,jT]<;>and_intros<;>first|rfl|assumption)) ?_
 refine qx 90 3 (k*8+5) 98 (η:=ηB) (η2:=ηa) (cs:=r2.plan.edges.flatMap jO) rfl (jaK hk 5 (by simp)) (.inl rfl) rfl (by decide) fun ηD _=>?_
 rw [jae hk 5 (by simp)]
 refine qx 90 3 (k*8+7) 99 (η:=ηD) (η2:=ηb) (cs:=r2.tasks.flatMap jo) rfl (jaK hk 7 (by simp)) (.inl rfl) rfl (by decide) fun ηE _=>?_
 rw [jae hk 7 (by simp)]
 have hrow:(List.set (List.set (rnV r2 (ηa []) (ηb [])) 5 (.sl 2 tEd (r2.plan.edges.flatMap jO))) 7 (.sl 4 tTk (r2.tasks.flatMap jo)))=jd r2:=rfl;rw [hrow,jlL hk];refine WkK.of ?_;exact ⟨⟨η,ηE,rfl⟩,rfl,rfl,rfl,rfl,rfl,rfl⟩
def simAs:List AV→List AV→Prop
 |[],[]=>True
 |a::l,b::m=>a.sim b∧simAs l m
 |_,_=>False
theorem jto:simAs [] []=True:=(rfl)
theorem jrG (a b:AV) (l m:List AV):simAs (a::l) (b::m)=(a.sim b∧simAs l m):=(rfl)
theorem simAs.rel {B:Nat} {w:World}:∀{l m:List AV} {xs:List Value},simAs l m→jj5 B w l xs→jj5 B w m xs
 |[],[],_,_,h=>h
 |_::_,_::_,_,⟨h1,h2⟩,⟨x,xs',e,h3,h4⟩=>⟨x,xs',e,h1.rel h3,h2.rel h4⟩
theorem jzi {P:Program} {f:FuncId} {vs vs2:List AV} {o o2:Nat→Ob} {R:AV→(Nat→Ob)→Prop} (hw:Wk (.only o) (.only o2)) (hs:simAs vs vs2) (h:Inl P f vs2 o2 R):Inl P f vs o R:=
 ⟨h.1,fun B w F xs h1 h2=>by
  obtain ⟨F2,h3,_⟩:=hw _ _ _ _ _ _ h1;exact h.2 B w F2 xs h3 (hs.rel h2)⟩
theorem jan {P:Program} {β:Nat} {s:St} {K:St→Prop} {d:Option Nat} {g:Option (Nat×Bool)} {f:Nat} {args:List X} {R:AV→(Nat→Ob)→Prop} (ks:List (Option Nat)) (O:List (Nat×Ob)) (vs2:List AV) (hs:simAs (args.map s.ev) vs2) (hf:jqU s ks O) (h:Inl P f vs2 (lkO O) R) (hk:∀av o',R av o'→K (St.put ⟨s.t,o'⟩ d av)) (hn:jj2 (jry ks)=true:=by decide):vd P β ⟨d,g,.call f args⟩ s K:=by
 refine kV (jzi (o2:=lkO O) ?_ hs (h.weak hk))
 have hf':∀{ks:List (Option Nat)} {O:List (Nat×Ob)},jqU s ks O→jqU (.only s.o) ks O:=by
  intro ks
  induction ks with
  |nil=>intro O h;cases O<;>first|exact h|exact h.elim
  |cons k ks ih=>
   intro O h;cases O with
   |nil=>cases k<;>exact h.elim
   |cons p O=>cases k<;>exact ⟨h.1,ih h.2⟩
 exact jg (s:=.only s.o) ks (T:=[]) ⟨trivial,hf' hf⟩ hn
attribute [go_sem] jto jrG
def jdU:C:=iS [iA 3 (.box 27 4 (.t 0)),iA 5 (.box 52 8 (.t 2)),iA 6 (.alloc 27 [.int .i64 0,.int .i64 0,.slice none 0 0,.slice none 0 0])] (iS [iA 8 (iF 3 3),iA 9 (iL 8),iA 10 (iM 1),iA 11 (iI 8 9 10),iA 12 (iT 8 11),iA 7 (.alloc 52 [.int .i64 0,.int .i64 0,.int .i64 0,.int .i64 0,.int .i64 0,.slice none 0 0,.int .i64 0,.slice none 0 0]),iC (.st 8 [none,none,none,none,none,some (2,161),none,some (4,46)] (.t 7) (.t 12))] (iS [iA 13 (iF 3 3),iA 14 (iL 13),iA 15 (iM 1),iA 16 (iT 8 5),iA 17 (iI 8 14 15),iC (.st 8 [none,none,none,none,none,some (2,161),none,some (4,46)] (.t 17) (.t 16))] (iS [iA 18 (iT 4 3),iA 19 (iT 8 7),iA 20 (iT 8 5),iA 21 (.call 115 [.t 18,.t 19,.t 20]),iC (.st 4 [none,none,some (1,35),some (8,52)] (.t 6) (.t 21))] .ret)))
theorem jgN:fnC Tryz.prog Tryz.f119=some (jdU,[.cell 6 true 4],22):=by kernel_rfl
abbrev jgm (b ty:Nat) (now seq:Int) (x2 x3:Value):Ob:=.box b ty [.a (.v (.int .i64 now)),.a (.v (.int .i64 seq)),.a (.v x2),.a (.v x3)]
theorem jfn {k b:Nat} {y:Yd} {r r2:Rn} (hr:y.runs[k]?=some r) (hrl:r2.tasks.length=r.tasks.length) (hr12:r.tasks.length≤12) (h4:y.shelf.length=4) (hq:1≤y.seq∧y.seq≤4000000000) (ht:jJ y≤2000000)
 {o:Nat→Ob} {η2 η3 η5 η7:js} (h90:o 90=kq b tYd y.now y.seq y.shelf η2 y.runs η3) (h97:o 97=.loose (jy r2.plan.edges) η5) (h98:o 98=.loose (jB r2.tasks) η7):
 Inl Tryz.prog 119 [.agg [.v (.int .i64 y.now),.v (.int .i64 y.seq),.h 90 2 [] (η2 []),.h 90 3 [] (η3 [])],Ni k,.agg [.v (.int .i64 r2.id),.v (.int .i64 r2.plan.prio),.v (.int .i64 r2.plan.most),.v (.int .i64 r2.plan.wait),.v (.int .i64 r2.plan.tasks),.h 97 0 [] (η5 []),.v (.int .i64 r2.state),.h 98 0 [] (η7 [])]] o
  fun av o'=>∃c e2 e3 x2 x3,av=.agg [.v (.int .i64 (kM y k r2).now),.v (.int .i64 (kM y k r2).seq),.h 66 2 [] (e2 []),.h 66 3 [] (e3 [])]∧o' 66=kq c tYd (kM y k r2).now (kM y k r2).seq (kM y k r2).shelf e2 (kM y k r2).runs e3∧o' 90=jgm b tYd y.now y.seq x2 x3∧o' 91=o 91∧o' 92=o 92∧o' 93=o 93∧o' 94=o 94∧o' 95=o 95∧o' 96=o 96:=by
 have hk:=(List.getElem?_eq_some_iff.1 hr).1;have h0k:(k:Int)≥0:=by omega
 refine juu ?_;refine jk9 (β:=5000000) [[1,0],[1,1,0],[1,1,1,0],[1,1,1,1]] Tryz.func119 jgN (by simp) ?_
 unfold jdU;simp only [C.ghs,C.ghAt,List.foldr];simp only [go_sem,h90,h97,h98];intro c3 c5 c6;refine kY ?_;have hR:jK y.runs=.sl 8 tRn (jby y.runs k (jd r)):=by rw [jK,jlM hr]
 refine WkK.wk (s':=St.of [(1,Ni k),(3,Bx 3 c3),(5,Bx 5 c5),(6,Bx 66 c6)] [(90,jgm b tYd y.now y.seq (η2 []) (η3 [])),(91,o 91),(92,o 92),(93,o 93),(94,o 94),(95,o 95),(96,o 96),(3,qZ c3 _ y.now y.seq y.shelf η2 (jK y.runs) η3),(5,jaz c5 _ r2 η5 η7),(66,ZYd c6 _)]) (jg [some 90,some 91,some 92,some 93,some 94,some 95,some 96,some 500000300,some 500000500,some 500000600] (by simp only [go_sem,jb,ja,jd,jT,h90]<;>and_intros<;>first|rfl|assumption|trivial)) ?_
 rw [hR];refine jer 3 3 (k*8+5) 901 (η:=η3) (cs:=r.plan.edges.flatMap jO) rfl (jaK hk 5 (by simp [jd,ja])) rfl (by decide) fun ηa ηA hA1 hA2 hA3=>?_
 rw [jae hk 5 (by simp [jd,ja])]
 refine jer 3 3 (k*8+7) 902 (η:=ηA) (cs:=r.tasks.flatMap jo) rfl (jaK hk 7 (by simp [jd,ja])) rfl (by decide) fun ηb ηB hB1 hB2 hB3=>?_
 rw [jae hk 7 (by simp [jd,ja])]
 rw [←hA2,←hB2];rw [←hA2] at hA3;rw [←hB2] at hB3;have hV:((jd r).set 5 (.val (ηa []))).set 7 (.val (ηb []))=rnV r (ηa []) (ηb []):=rfl;rw [hV];refine WkK.wk (s':=St.of [(1,Ni k),(3,Bx 3 c3),(5,Bx 5 c5),(6,Bx 66 c6)] [(90,jgm b tYd y.now y.seq (η2 []) (η3 [])),(91,o 91),(92,o 92),(93,o 93),(94,o 94),(95,o 95),(96,o 96),(3,qZ c3 _ y.now y.seq y.shelf η2 (.sl 8 tRn (jby y.runs k (rnV r (ηa []) (ηb [])))) ηB),(5,jaz c5 _ r2 η5 η7),(66,ZYd c6 _),(901,.loose (jy r.plan.edges) ηa),(902,.loose (jB r.tasks) ηb)]) (jg [some 90,some 91,some 92,some 93,some 94,some 95,some 96,some 3,some 5,some 66,some 901,some 902] (by simp only [go_sem,jb,ja,jd,jT]<;>and_intros<;>first|rfl|assumption|trivial)) ?_
 refine WkK.of ?_;have hl1:(jby y.runs k (rnV r (ηa []) (ηb []))).length=y.runs.length*8:=jiz hk rfl;have hd8:y.runs.length*8/8=y.runs.length:=Nat.mul_div_cancel _ (by decide)
 have ha1:((jby y.runs k (rnV r (ηa []) (ηb []))).drop (k*8)).take 8=rnV r (ηa []) (ηb []):=jtG hk rfl;have hi8:k*8+8≤y.runs.length*8:=by omega
 have hdl:(D.sl 8 tRn (jby y.runs k (rnV r (ηa []) (ηb [])))).len=y.runs.length:=jnf hk rfl;simp only [go_sem,hl1,hdl,ha1,hi8,hk,h0k,hA3,hB3];intro c7;refine kY ?_;refine WkK.wk (s':=St.of [(1,Ni k),(3,Bx 3 c3),(5,Bx 5 c5),(6,Bx 66 c6),(7,Bx 7 c7)] [(90,jgm b tYd y.now y.seq (η2 []) (η3 [])),(91,o 91),(92,o 92),(93,o 93),(94,o 94),(95,o 95),(96,o 96),(3,qZ c3 _ y.now y.seq y.shelf η2 (.sl 8 tRn (jby y.runs k (rnV r (ηa []) (ηb [])))) ηB),(5,jaz c5 _ r2 η5 η7),(66,ZYd c6 _),(7,joK c7 _ r (ηa []) (ηb [])),(901,.loose (jy r.plan.edges) ηa),(902,.loose (jB r.tasks) ηb)]) (jg [some 90,some 91,some 92,some 93,some 94,some 95,some 96,some 3,some 5,some 66,some 500000700,some 901,some 902] (by simp only [go_sem,jb,ja,jd,jT]<;>and_intros<;>first|rfl|assumption|trivial)) ?_
 refine qN 7 5 901 (d:=jy r.plan.edges) (η:=ηa) rfl rfl rfl ?_;refine qN 7 7 902 (d:=jB r.tasks) (η:=ηb) rfl rfl rfl ?_;refine qG 5 5 903 (d:=jy r2.plan.edges) (η:=η5) rfl rfl (by decide) fun hx5=>?_
 refine qG 5 7 904 (d:=jB r2.tasks) (η:=η7) rfl rfl (by decide) fun hx7=>?_
 refine WkK.of ?_;simp only [go_sem,hl1,hdl,ha1,hi8,hk,h0k,hx5,hx7];refine jyj fun ηC=>?_
 have hput:D.put [] (k*8) (rnH r2 (η5 []) (η7 [])) (.sl 8 tRn (jby y.runs k (rnV r (ηa []) (ηb []))))=.sl 8 tRn (jby y.runs k (rnH r2 (η5 []) (η7 []))):=by
  simp only [D.put];rw [jv6 hk rfl rfl]
 refine kY ?_;refine WkK.wk (s':=St.of [(1,Ni k),(3,Bx 3 c3),(5,Bx 5 c5),(6,Bx 66 c6),(7,Bx 7 c7)] [(90,jgm b tYd y.now y.seq (η2 []) (η3 [])),(91,o 91),(92,o 92),(93,o 93),(94,o 94),(95,o 95),(96,o 96),(3,qZ c3 _ y.now y.seq y.shelf η2 (.sl 8 tRn (jby y.runs k (rnH r2 (η5 []) (η7 [])))) ηC),(5,joK c5 _ r2 (η5 []) (η7 [])),(66,ZYd c6 _),(7,jaz c7 _ r ηa ηb),(903,.loose (jy r2.plan.edges) η5),(904,.loose (jB r2.tasks) η7)]) (jg [some 90,some 91,some 92,some 93,some 94,some 95,some 96,some 3,some 5,some 66,some 7,some 903,some 904] (by simp only [go_sem,jb,ja,jd,hput,jT]<;>and_intros<;>first|rfl|assumption|trivial)) ?_
 refine qN 5 5 903 (d:=jy r2.plan.edges) (η:=η5) rfl rfl rfl ?_;refine qN 5 7 904 (d:=jB r2.tasks) (η:=η7) rfl rfl rfl ?_;generalize hdR:D.sl 8 tRn (jby y.runs k (rnH r2 (η5 []) (η7 [])))=dR at*;refine WkK.wk (s':=St.of [(1,Ni k),(3,Bx 3 c3),(5,Bx 5 c5),(6,Bx 66 c6),(7,Bx 7 c7)] [(90,jgm b tYd y.now y.seq (η2 []) (η3 [])),(91,o 91),(92,o 92),(93,o 93),(94,o 94),(95,o 95),(96,o 96),(3,qZ c3 _ y.now y.seq y.shelf η2 dR ηC),(5,jaz c5 _ r2 η5 η7),(66,ZYd c6 _),(7,jaz c7 _ r ηa ηb)]) (jg [some 90,some 91,some 92,some 93,some 94,some 95,some 96,some 3,some 5,some 66,some 7] (by simp only [go_sem,jb,ja,jd,jT]<;>and_intros<;>first|rfl|assumption|trivial)) ?_
 refine WkK.of ?_;simp only [go_sem,jb,ja,jd];refine kV (qn (β:=7000000) Tryz.func115 jbQ (by simp) ?_)
 unfold jbG;simp only [go_sem,jk,jo];intro d3 d4 d5 d6;refine jc (jdK r2.id) (by simp only [go_sem,jd,ja]) fun η=>?_
 simp only [go_sem,jd,ja];obtain ⟨hsn,hs4⟩:=jym r2.id;rw [hsn];have hLY:kM y k r2=⟨y.now,(vQ r2.plan.prio r2.id (vP r.tasks r2.tasks r2.tasks.length) ((y.shelf[shN r2.id]?).getD default,y.seq)).2,y.shelf.set (shN r2.id) (vQ r2.plan.prio r2.id (vP r.tasks r2.tasks r2.tasks.length) ((y.shelf[shN r2.id]?).getD default,y.seq)).1,y.runs.set k r2⟩:=by rw [kM,hr,Option.getD_some];rfl
 rw [hLY];generalize shN r2.id=n at*;have hn:n<y.shelf.length:=by omega
 have h0n:(n:Int)≥0:=by omega
 obtain ⟨l,hl⟩:=je hn;have hll:=vU ht (List.mem_of_getElem? hl);rw [hl,Option.getD_some];refine jn (fun i:Nat×js=>St.of [(3,Bx 3 d3),(4,Bx 4 d4),(5,Bx 5 d5),(6,Bx 6 d6),(7,Ni n),(8,Ni i.1)] [(90,jgm b tYd y.now y.seq (η2 []) (η3 [])),(91,o 91),(92,o 92),(93,o 93),(94,o 94),(95,o 95),(96,o 96),(66,ZYd c6 _),(3,qZ d3 _ y.now (vQ r2.plan.prio r2.id (vP r.tasks r2.tasks i.1) (l,y.seq)).2 (y.shelf.set n (vQ r2.plan.prio r2.id (vP r.tasks r2.tasks i.1) (l,y.seq)).1) i.2 dR ηC),(4,jaz d4 _ r ηa ηb),(5,jaz d5 _ r2 η5 η7),(6,ZYd d6 _)]) (fun i=>i.1≤r2.tasks.length) (fun i=>r2.tasks.length-i.1) (0,η2) (by (try dsimp only);first|omega|(simp;done)|(and_intros<;>first|omega|simp)) (jg [some 90,some 91,some 92,some 93,some 94,some 95,some 96,some 66,some 700000300,some 700000400,some 700000500,some 700000600] (by simp only [go_sem,jb,ja,jd,jxF,jfj,jad hl,jT]<;>and_intros<;>first|rfl|assumption|trivial)) ?_
 rintro ⟨j,η⟩ hj;dsimp only at hj;have hsq:=zB r2.plan.prio r2.id (vP r.tasks r2.tasks j) (l,y.seq);have hle:=jdl r2.plan.prio r2.id (vP r.tasks r2.tasks j) (l,y.seq);have hnl:=jdg r.tasks r2.tasks j;have hsnoc:=jfi r2.plan.prio r2.id (vP r.tasks r2.tasks j) j (l,y.seq);have hnx:=jxE r.tasks r2.tasks j;dsimp only at hsq hle;by_cases hlt:j<r2.tasks.length
 ·have hlt':(j:Int)<r2.tasks.length:=by omega
  have hltw:j<r.tasks.length:=by omega
  have hltw':(j:Int)<r.tasks.length:=by omega
  have h0j:(j:Int)≥0:=by omega
  obtain ⟨x,hx⟩:=je hlt;obtain ⟨z,hz⟩:=je hltw;have hw:IntKind.i64.wrap ((j:Int)+1)=((j+1:Nat):Int):=jf (by omega) (by omega)
  rw [jyY hx hz] at hnx;have hw2:IntKind.i64.wrap ((vQ r2.plan.prio r2.id (vP r.tasks r2.tasks j) (l,y.seq)).2+1)=(vQ r2.plan.prio r2.id (vP r.tasks r2.tasks j) (l,y.seq)).2+1:=jf (by omega) (by omega)
  generalize hPe:vQ r2.plan.prio r2.id (vP r.tasks r2.tasks j) (l,y.seq)=P at*;obtain ⟨sh,hsh⟩:∃s,y.shelf.set n P.1=s:=⟨_,rfl⟩;have hSl:sh[n]?=some P.1:=by rw [←hsh];exact List.getElem?_set_self hn
  have hns:n<sh.length:=by rw [←hsh,List.length_set];exact hn
  have hss:∀L,sh.set n L=y.shelf.set n L:=fun L=>by rw [←hsh,List.set_set]
  have hi1:n+1≤(sh.flatMap fun es=>[jm es]).length:=by have:=jaM hns;rwa [Nat.mul_one] at this
  have hb1:((sh.flatMap fun es=>[jm es]).drop n).take 1=[jm P.1]:=by have:=jbJ hSl;rwa [Nat.mul_one] at this
  rw [hsh];cases h2:x.state !=2
  ·have h2':(x.state==2)=true:=by have:x.state=2:=by simpa using h2
                                  simp [this]
   rw [h2',Bool.true_and] at hnx;cases h3:z.state==2
   ·rw [h3,Bool.not_false,if_pos rfl] at hnx
    rw [←hnx] at hsnoc;simp only [go_sem,ja,jd,jo,hlt',h0j,hlt,hltw,hltw',jaa hx,vl hx,zb hx,qz hx,jaa hz,vl hz,zb hz,qz hz,h2,h3];simp only [go_sem,hns,Nat.mul_one,hb1,hi1,h0n];refine jc (jaq P.1 ⟨r2.plan.prio,P.2,r2.id,j⟩ (by omega)) (by simp only [go_sem,jk,ko hSl]) fun ηp=>?_
    simp only [go_sem,jk,ko hSl];simp only [go_sem,hns,Nat.mul_one,hi1,hb1,h0n,jao,hw2,hw,hss];refine fun η' hη'=>?_
    exact ⟨(j+1,η'),by (try dsimp only);first|omega|assumption|(and_intros<;>first|omega|assumption),(jg [some 90,some 91,some 92,some 93,some 94,some 95,some 96,some 66,some 3,some 4,some 5,some 6] (by simp only [go_sem,jb,ja,jd,hsnoc,jT]<;>and_intros<;>first|rfl|assumption|trivial)),by (try dsimp only);omega⟩
   ·rw [h3,Bool.not_true,if_neg (by decide),List.append_nil] at hnx
    simp only [go_sem,ja,jd,jo,hlt',h0j,hlt,hltw,hltw',jaa hx,vl hx,zb hx,qz hx,jaa hz,vl hz,zb hz,qz hz,h2,h3,hw];exact ⟨(j+1,η),by (try dsimp only);first|omega|assumption|(and_intros<;>first|omega|assumption),(jg [some 90,some 91,some 92,some 93,some 94,some 95,some 96,some 66,some 3,some 4,some 5,some 6] (by simp only [go_sem,jb,ja,jd,hnx,hPe,hsh,jT]<;>and_intros<;>first|rfl|assumption|trivial)),by (try dsimp only);omega⟩
  ·have h2':(x.state==2)=false:=by simpa using h2
   rw [h2',Bool.false_and,if_neg (by decide),List.append_nil] at hnx
   simp only [go_sem,ja,jd,jo,hlt',h0j,hlt,jaa hx,vl hx,zb hx,qz hx,h2,hw];exact ⟨(j+1,η),by (try dsimp only);first|omega|assumption|(and_intros<;>first|omega|assumption),(jg [some 90,some 91,some 92,some 93,some 94,some 95,some 96,some 66,some 3,some 4,some 5,some 6] (by simp only [go_sem,jb,ja,jd,hnx,hPe,hsh,jT]<;>and_intros<;>first|rfl|assumption|trivial)),by (try dsimp only);omega⟩
 obtain rfl:j=r2.tasks.length:=by omega
 have hlt':¬((r2.tasks.length:Nat):Int)<r2.tasks.length:=by omega
 generalize vQ r2.plan.prio r2.id (vP r.tasks r2.tasks r2.tasks.length) (l,y.seq)=P at*;simp only [go_sem,hlt',ja,jd];refine kY ?_;subst hdR;refine WkK.wk (s':=St.of [(6,Bx 66 c6)] [(90,jgm b tYd y.now y.seq (η2 []) (η3 [])),(91,o 91),(92,o 92),(93,o 93),(94,o 94),(95,o 95),(96,o 96),(66,qZ c6 _ y.now P.2 (y.shelf.set n P.1) η (.sl 8 tRn (jby y.runs k (rnH r2 (η5 []) (η7 [])))) ηC),(5,jaz d5 _ r2 η5 η7)]) (jg [some 90,some 91,some 92,some 93,some 94,some 95,some 96,some 66,some 5] (by simp only [go_sem,ja,jd,jT]<;>and_intros<;>first|rfl|assumption|trivial)) ?_
 refine qG 5 5 901 (d:=jy r2.plan.edges) (η:=η5) rfl rfl (by decide) fun _=>?_
 refine qG 5 7 902 (d:=jB r2.tasks) (η:=η7) rfl rfl (by decide) fun _=>?_
 refine qx 66 3 (k*8+5) 901 (η:=ηC) (η2:=η5) (cs:=r2.plan.edges.flatMap jO) rfl (jaK hk 5 (by simp)) (.inr rfl) rfl (by decide) fun ηD _=>?_
 rw [jae hk 5 (by simp)]
 refine qx 66 3 (k*8+7) 902 (η:=ηD) (η2:=η7) (cs:=r2.tasks.flatMap jo) rfl (jaK hk 7 (by simp)) (.inr rfl) rfl (by decide) fun ηE _=>?_
 rw [jae hk 7 (by simp)]
 have hrow:(List.set (List.set (rnH r2 (η5 []) (η7 [])) 5 (.sl 2 tEd (r2.plan.edges.flatMap jO))) 7 (.sl 4 tTk (r2.tasks.flatMap jo)))=jd r2:=rfl;rw [hrow,jlL hk];refine WkK.of ?_;simp only [go_sem,jb];refine WkK.wk (s':=St.of [] [(66,kq c6 tYd y.now P.2 (y.shelf.set n P.1) η (y.runs.set k r2) ηE),(90,jgm b tYd y.now y.seq (η2 []) (η3 [])),(91,o 91),(92,o 92),(93,o 93),(94,o 94),(95,o 95),(96,o 96)]) (jg [some 66,some 90,some 91,some 92,some 93,some 94,some 95,some 96] (by simp only [go_sem,jT]<;>and_intros<;>first|rfl|assumption)) ?_
 refine WkK.of ⟨c6,η,ηE,η2 [],η3 [],rfl,rfl,rfl,rfl,rfl,rfl,rfl,rfl,rfl⟩
noncomputable def jcF (y:Yd) (id task tri:Int):Yd:=if jaV y id task tri=0 then kM y (runAt y id).toNat (qI ((y.runs[(runAt y id).toNat]?).getD default) task) else y
def jcT:C:=iS [iA 4 (.box 27 4 (.t 0)),iA 8 (.alloc 27 [.int .i64 0,.int .i64 0,.slice none 0 0,.slice none 0 0]),iA 9 (iN 0)] (iS [iA 13 (iT 4 4),iA 14 (.call 67 [.t 13]),iA 10 (.alloc 27 [.int .i64 0,.int .i64 0,.slice none 0 0,.slice none 0 0]),iC (.st 4 [none,none,some (1,35),some (8,52)] (.t 10) (.t 14))] (iS [iA 15 (iT 4 4),iA 16 (iM 1),iA 17 (iM 2),iA 18 (iM 3),iA 19 (.call 189 [.t 15,.t 16,.t 17,.t 18]),iA 11 (iM 19)] (.seq (iS [iA 20 (iM 11),iA 21 (iQ .neq 3 20 0)] (iD 21 (iS [iA 22 (iT 4 10),iA 23 (iM 11),iC (.st 4 [none,none,some (1,35),some (8,52)] (.t 8) (.t 22)),iA 9 (iM 23)] .ret) .skip)) (iS [iA 24 (iT 4 4),iA 25 (iM 1),iA 26 (.call 26 [.t 24,.t 25]),iA 12 (iM 26)] (.seq (.dreg (T.pure 0 (iA 27 (iT 4 10)) (T.pure 1 (iA 28 (iM 12)) (T.pure 2 (iA 29 (iF 3 10)) (T.pure 3 (iA 30 (iL 29)) (T.pure 4 (iA 31 (iM 12)) (T.pure 5 (iA 32 (iI 8 30 31)) (T.pure 6 (iA 33 (iT 8 32)) (T.pure 7 (iA 34 (iM 2)) (T.alt (iA 35 (.call 190 [.t 33,.t 34])) [1,0] (T.alt (iA 36 (.call 119 [.t 27,.t 28,.t 35])) [] (T.alt (iC (.st 4 [none,none,some (1,35),some (8,52)] (.t 8) (.t 36))) [] (T.pure 11 (iA 9 (iN 0)) T.done) T.stop) T.stop) T.stop)))))))))) .ret)))))
theorem jfG:fnC Tryz.prog Tryz.f148=some (jcT,[.cell 8 true 4,.t 9],37):=by kernel_rfl
theorem jjg (y:Yd) (id task tri:Int) (ht:jJ y≤2000000):kj Tryz.prog 148 [.agg (jb y),.c (.val (.int .i64 id)),.c (.val (.int .i64 task)),.c (.val (.int .i64 tri))] (.tup [(true,jb (jcF y id task tri)),(false,[.val (.int .i64 (jaV y id task tri))])]):=by
 refine zn [[1,1,1,1,1,0]] Tryz.func148 jfG (by simp) ?_
 unfold jcT;simp only [C.ghs,C.ghAt,List.foldr];simp only [go_sem,jb];intro b4 b8;refine jc (kx y ht) (by simp only [go_sem,jb]) fun ηc=>?_
 simp only [go_sem,jb];intro b10;refine jc (jfc y id task tri ht) (by simp only [go_sem,jb]) fun η=>?_
 simp only [go_sem,jb];cases h0:jaV y id task tri !=0;rotate_left
 ·have hy:jcF y id task tri=y:=by rw [jcF,if_neg (by simpa using h0)]
  simp only [go_sem,jb,h0,hy];refine qh _ _ _ _ _ ?_;simp only [go_sem,jb]
 have h0':jaV y id task tri=0:=by simpa using h0
 obtain ⟨hok,hneg⟩:=joG h0';obtain ⟨k,r,hrk,hr,hid,h8⟩:=qP hneg;have hk:=(List.getElem?_eq_some_iff.1 hr).1;have h0k:(k:Int)≥0:=by omega
 have hk0:¬(k:Int)<0:=by omega
 have hY:jcF y id task tri=kM y k (qI r task):=by rw [jcF,if_pos h0',hrk,Int.toNat_natCast,hr,Option.getD_some]
 rw [hY,h0'];simp only [go_sem,jb,h0];refine jc (qj y id) (by simp only [go_sem,jb]) fun η=>?_
 simp only [go_sem,jb];refine kY ?_;refine WkK.wk (s':=St.of [(2,Ni task),(8,Bx 92 b8),(10,Bx 90 b10),(12,Ni k)] [(92,ZYd b8 tYd),(90,kq b10 tYd y.now y.seq y.shelf (ηc 2) y.runs (ηc 3))]) (jg [some 800,some 1000] (by simp only [go_sem,jb,hrk]<;>and_intros<;>first|rfl|assumption|trivial)) ?_
 refine WkK.of ?_;have hrb:=jco ht (List.mem_of_getElem? hr);simp only [go_sem,jb,hk0,h0k,hk,jhl hr,jcy hr,jd,ja];refine jc (jkg r task hrb.1 hrb.2) (by simp only [go_sem,jb,jd,ja,jZ hr,ke hr]) fun ηr=>?_
 simp only [go_sem,jb,jd,ja,jZ hr,ke hr];have hrl:(qI r task).tasks.length=r.tasks.length:=jez r task;have hr12:r.tasks.length≤12:=(hok.right r (List.mem_of_getElem? hr)).le12;generalize qI r task=r2 at*;refine jan [some 90,some 92,some 3505,some 3507] [(90,kq b10 tYd y.now y.seq y.shelf (ηc 2) y.runs (ηc 3)),(92,ZYd b8 tYd),(97,.loose (jy r2.plan.edges) (ηr 5)),(98,.loose (jB r2.tasks) (ηr 7))] [.agg [.v (.int .i64 y.now),.v (.int .i64 y.seq),.h 90 2 [] (ηc 2 []),.h 90 3 [] (ηc 3 [])],Ni k,.agg [.v (.int .i64 r2.id),.v (.int .i64 r2.plan.prio),.v (.int .i64 r2.plan.most),.v (.int .i64 r2.plan.wait),.v (.int .i64 r2.plan.tasks),.h 97 0 [] (ηr 5 []),.v (.int .i64 r2.state),.h 98 0 [] (ηr 7 [])]] (by simp only [go_sem]<;>and_intros<;>rfl) (by simp only [go_sem]<;>and_intros<;>rfl) (jfn hr hrl hr12 hok.four (by have:=hok.seq;omega) ht rfl rfl rfl) ?_
 rintro _ o1 ⟨c,g2,g3,x2,x3,rfl,j99,j90,j91,j92,j93,j94,j95,j96⟩;have j92':o1 92=ZYd b8 tYd:=j92;generalize kM y k r2=z2 at*;simp only [go_sem,j99,j90,j92'];refine qh _ _ _ _ _ ?_;simp only [go_sem,jb,j99,j90,j92']
theorem jbD {p:Pl} {ts ts':List Tk} (h:∀b:Int,(stT ts' b !=4)=(stT ts b !=4)) (t:Int):jaD p ts' t=jaD p ts t:=by
 simp only [jaD,h]
theorem joV {ts:List Tk} {t:Nat} {x y:Tk} (hx:ts[t]?=some x) (h:(y.state !=4)=(x.state !=4)) (b:Int):(stT (ts.set t y) b !=4)=(stT ts b !=4):=by
 have ht:=(List.getElem?_eq_some_iff.1 hx).1;simp only [stT,List.getElem?_set];by_cases e:t=b.toNat
 ·rw [if_pos e,←e,if_pos ht,hx];exact h
 ·rw [if_neg e]
theorem jBQ {s:Int} {ts:List Tk} {t:Nat} (ht:t<ts.length) (h1:∀(j:Nat) (x:Tk),ts[j]?=some x→(x.state=s↔j=t)):cS s ts=1:=by
 have e:(List.range ts.length).filter (fun (j:Nat)=>stT ts (j:Int)==s)=(List.range ts.length).filter (fun j=>j==t):=by
  refine List.filter_congr fun j hj=>?_
  rw [List.mem_range] at hj;have hx:ts[j]?=some ts[j]:=List.getElem?_eq_getElem hj;rw [kw hx,Bool.eq_iff_iff,beq_iff_eq,beq_iff_eq];exact h1 j _ hx
 have:(List.range ts.length).count t=1:=by rw [List.count_range,if_pos ht]
 simp only [cS,qM,vO,e,List.length_map];rw [←this,List.count_eq_length_filter]
theorem jqF (j:Nat) (x:Tk):((jA j x).state !=4)=(x.state !=4):=by
 unfold jA;split
 ·rename_i h
  have:(x.state !=4)=true:=by simpa using h.1
  rw [this];rfl
 ·rfl
theorem jfh {f:Nat→Tk→Tk} {ts:List Tk} {j:Nat} {z:Tk} (h:(qU f ts ts.length)[j]?=some z):∃x,ts[j]?=some x∧z=f j x:=by
 simp only [qU,List.getElem?_mapIdx,Option.map_eq_some_iff] at h;obtain ⟨x,hx,rfl⟩:=h;exact ⟨x,hx,by rw [if_pos (List.getElem?_eq_some_iff.1 hx).1]⟩
theorem taskB_iff {p:Pl} {ts:List Tk} {t:Nat} {x:Tk}:jS p ts t x=true↔(1≤x.state∧x.state≤6)∧x.need=jaD p ts t∧(0≤x.tri∧x.tri≤p.most)∧ja6 x=true∧qT p x=true:=by
 simp only [jS,inB,Bool.and_eq_true,decide_eq_true_eq,beq_iff_eq,and_assoc]
theorem joe {r:Rn} {t:Nat} {x:Tk} (h:RunOkP r) (hx:r.tasks[t]?=some x) (hs:x.state=3):RunOkP (zg r t x):=by
 obtain ⟨e1,e2,e3,e4⟩:=h.runs hx hs;have ht:=(List.getElem?_eq_some_iff.1 hx).1;have hx1:=taskB_iff.1 (h.tasks t x hx);have hl:=hx1.2.2.2.2
 have hl3:x.need=0∧1≤x.tri:=by
  simpa [qT,hs] using hl
 unfold zg;split
 ·rename_i hm
  have hN:∀j:Int,jaD r.plan (r.tasks.set t ⟨2,x.need,x.tri,0⟩) j=jaD r.plan r.tasks j:=jbD (joV hx (by simp [hs]))
  have c5:cS 5 (r.tasks.set t ⟨2,x.need,x.tri,0⟩)=0:=jdB (jhp (q:=fun s=>s≠5) (by simp) fun y hy=>by obtain ⟨k,hk,rfl⟩:=List.getElem_of_mem hy;exact jrb e2 (List.getElem?_eq_getElem hk))
  have c6:cS 6 (r.tasks.set t ⟨2,x.need,x.tri,0⟩)=0:=jdB (jhp (q:=fun s=>s≠6) (by simp) fun y hy=>by obtain ⟨k,hk,rfl⟩:=List.getElem_of_mem hy;exact jrb e3 (List.getElem?_eq_getElem hk))
  have hst:∀z∈r.tasks.set t ⟨2,x.need,x.tri,0⟩,1≤z.state∧z.state≤6:=jhp (q:=fun s=>1≤s∧s≤6) (by simp) h.st
  have c2:=jra (s:=2) (List.getElem?_set_self ht:(r.tasks.set t ⟨2,x.need,x.tri,0⟩)[t]?=some _) rfl;have hsum:=jcg hst _ (Nat.le_refl _);change cS 1 _+cS 2 _+cS 3 _+cS 4 _+cS 5 _+cS 6 _=_ at hsum;refine ⟨h.id,h.plan,by rw [List.length_set];exact h.len,fun j z hz=>?_,?_,h.live⟩
  ·dsimp only at hz⊢
   rw [List.getElem?_set] at hz;by_cases e:t=j
   ·subst e
    rw [if_pos rfl,if_pos ht] at hz;obtain rfl:=Option.some.inj hz;rw [taskB_iff,hN];exact ⟨by simp,hx1.2.1,hx1.2.2.1,rfl,by simp [qT,hl3.1,hm]⟩
   ·rw [if_neg e] at hz
    have:=taskB_iff.1 (h.tasks j z hz);rw [taskB_iff,hN];exact this
  ·dsimp only
   rw [e1,jgo,if_neg (by omega),c5,c6,if_neg (by omega),if_neg (by omega),if_pos ⟨rfl,rfl⟩]
 ·rename_i hm
  generalize hT:r.tasks.set t ⟨5,x.need,x.tri,0⟩=T;have hTl:T.length=r.tasks.length:=by rw [←hT,List.length_set]
  have hTt:T[t]?=some ⟨5,x.need,x.tri,0⟩:=by rw [←hT];exact List.getElem?_set_self ht
  have hTj:∀j,t≠j→T[j]?=r.tasks[j]?:=fun j hj=>by rw [←hT,List.getElem?_set_ne hj]
  rw [←hTl]
  have hM:∀(j:Nat) (z:Tk),(qU jA T T.length)[j]?=some z→(j=t∧z=⟨5,x.need,x.tri,0⟩)∨j≠t∧∃y,r.tasks[j]?=some y∧((y.state=4∧z=y)∨(y.state≠4∧z=⟨6,y.need,y.tri,0⟩)):=by
   intro j z hz;obtain ⟨y,hy,rfl⟩:=jfh hz;by_cases e:t=j
   ·subst e
    rw [hTt] at hy;obtain rfl:=Option.some.inj hy;exact .inl ⟨rfl,by simp [jA]⟩
   ·rw [hTj j e] at hy
    have h5:y.state≠5:=jrb e2 hy;refine .inr ⟨fun e'=>e e'.symm,y,hy,?_⟩
    by_cases e4:y.state=4
    ·exact .inl ⟨e4,by simp [jA,e4]⟩
    ·exact .inr ⟨e4,by simp [jA,e4,h5]⟩
  have hst4:∀b:Int,(stT (qU jA T T.length) b !=4)=(stT r.tasks b !=4):=by
   intro b;rw [←joV hx (y:=⟨5,x.need,x.tri,0⟩) (by simp [hs]),hT]
   simp only [stT,qU,List.getElem?_mapIdx];cases hb:T[b.toNat]? with
   |none=>rfl
   |some z=>simp only [Option.map_some,Option.getD_some,if_pos (List.getElem?_eq_some_iff.1 hb).1,jqF]
  have hN:=fun j=>jbD (p:=r.plan) hst4 j
  have hlen:(qU jA T T.length).length=T.length:=vX
  have hst:∀z∈qU jA T T.length,4≤z.state∧z.state≤6:=fun z hz=>by
   obtain ⟨k,hk,rfl⟩:=List.getElem_of_mem hz;rcases hM k _ (List.getElem?_eq_getElem hk) with ⟨_,h1⟩|⟨_,y,_,⟨h1,h2⟩|⟨_,h2⟩⟩
   ·rw [h1];simp
   ·rw [h2];omega
   ·rw [h2];simp
  have c1:cS 1 (qU jA T T.length)=0:=jdB fun z hz=>by have:=hst z hz;omega
  have c2:cS 2 (qU jA T T.length)=0:=jdB fun z hz=>by have:=hst z hz;omega
  have c3:cS 3 (qU jA T T.length)=0:=jdB fun z hz=>by have:=hst z hz;omega
  have c5:cS 5 (qU jA T T.length)=1:=by
   refine jBQ (t:=t) (by rw [hlen,hTl];exact ht) fun j z hz=>?_
   rcases hM j z hz with ⟨h1,h2⟩|⟨h1,y,_,⟨h2,h3⟩|⟨_,h3⟩⟩
   ·rw [h2];simp [h1]
   ·rw [h3];simp [h1,h2]
   ·rw [h3];simp [h1]
  have hsum:=jcg (fun z hz=>by have:=hst z hz;omega) _ (Nat.le_refl (qU jA T T.length).length)
  change cS 1 _+cS 2 _+cS 3 _+cS 4 _+cS 5 _+cS 6 _=_ at hsum;refine ⟨h.id,h.plan,by dsimp only;rw [hlen,hTl];exact h.len,fun j z hz=>?_,?_,by simp⟩
  ·dsimp only at hz⊢
   rw [taskB_iff,hN];rcases hM j z hz with ⟨rfl,rfl⟩|⟨h1,y,hy,⟨h2,rfl⟩|⟨h2,rfl⟩⟩
   ·exact ⟨by simp,hx1.2.1,hx1.2.2.1,rfl,by simp [qT,hl3.1,hl3.2]⟩
   ·exact taskB_iff.1 (h.tasks j _ hy)
   ·have h3:=taskB_iff.1 (h.tasks j _ hy)
    exact ⟨by simp,h3.2.1,h3.2.2.1,rfl,by simp [qT]⟩
  ·dsimp only
   rw [jgo,if_neg (by omega),if_pos ⟨c5,by omega⟩]
theorem joZ {r:Rn} (t:Int) (h:RunOkP r):RunOkP (jG r t):=by
 cases hr:vq r t with
 |false=>rw [jew hr];exact h
 |true=>
  obtain ⟨k,x,rfl,hx,hs,_⟩:=jaJ hr;rw [qC hx hr];exact joe h hx hs
theorem jgs {r:Rn} {t:Nat} {x:Tk} (h:RunOkP r) (hx:r.tasks[t]?=some x) (hs:x.state=3):vq r t=true:=by
 have ht:=(List.getElem?_eq_some_iff.1 hx).1;simp only [vq,inB,Bool.and_eq_true,decide_eq_true_eq,beq_iff_eq,kw hx,runOk_iff];exact ⟨⟨by omega,hs⟩,h⟩
theorem jkS {r:Rn} {t:Int} {j:Nat} {z:Tk} (hz:(jG r t).tasks[j]?=some z) (hs:z.state=3):r.tasks[j]?=some z:=by
 cases hr:vq r t with
 |false=>rwa [jew hr] at hz
 |true=>
  obtain ⟨k,x,rfl,hx,hs',_⟩:=jaJ hr;rw [qC hx hr,zg] at hz;have hk:=(List.getElem?_eq_some_iff.1 hx).1;split at hz
  ·dsimp only at hz
   rw [List.getElem?_set] at hz;by_cases e:k=j
   ·subst e
    rw [if_pos rfl,if_pos hk] at hz;obtain rfl:=Option.some.inj hz;cases hs
   ·rw [if_neg e] at hz;exact hz
  ·dsimp only at hz
   have e:r.tasks.length=(r.tasks.set k ⟨5,x.need,x.tri,0⟩).length:=by rw [List.length_set]
   rw [e] at hz;obtain ⟨y,hy,rfl⟩:=jfh hz;unfold jA at hs;split at hs
   ·cases hs
   ·rename_i h
    exact absurd ⟨by omega,by omega⟩ h
theorem jex (r:Rn) (t:Int):(jG r t).id=r.id∧(jG r t).plan=r.plan:=by
 unfold jG;split
 ·unfold zg;split<;>exact ⟨rfl,rfl⟩
 ·exact ⟨rfl,rfl⟩
structure LaterP (y z:Yd):Prop where
 len:z.runs.length=y.runs.length
 runs:∀(k:Nat) (r:Rn),y.runs[k]?=some r→∃r',z.runs[k]?=some r'∧r'.id=r.id∧r'.plan=r.plan∧RunOkP r'∧r'.tasks.length=r.tasks.length∧∀(t:Nat) (x:Tk),r'.tasks[t]?=some x→x.state=3→r.tasks[t]?=some x
theorem LaterP.refl {y:Yd} (h:YardOkP y):LaterP y y:=⟨rfl,fun k r hr=>⟨r,hr,rfl,rfl,h.right r (List.mem_of_getElem? hr),rfl,fun _ _ h _=>h⟩⟩
theorem jv4:∀{l m:List Rn} (id:Int),l.map (·.id)=m.map (·.id)→jgv l id=jgv m id:=by
 intro l m id h;have e:∀l:List Rn,l.findIdx? (fun r=>r.id==id)=(l.map (·.id)).findIdx? (· ==id):=fun l=>by rw [List.findIdx?_map];rfl
 simp only [jgv,e,h]
theorem LaterP.ids {y z:Yd} (h:LaterP y z):z.runs.map (·.id)=y.runs.map (·.id):=by
 apply List.ext_getElem?
 intro k;simp only [List.getElem?_map];cases hr:y.runs[k]? with
 |none=>
  have:z.runs[k]?=none:=by rw [List.getElem?_eq_none_iff] at hr⊢;rw [h.len];exact hr
  rw [this]
 |some r=>
  obtain ⟨r',h1,h2,_⟩:=h.runs k r hr;rw [h1];simp [h2]
theorem LaterP.runAt {y z:Yd} (h:LaterP y z) (id:Int):runAt z id=runAt y id:=by
 unfold Go.Proofs.YtcehjhiglmifjaaGreat.runAt;rw [h.len,jv4 id h.ids]
noncomputable def failK (y:Yd) (k t:Nat):Yd:=if stT ((y.runs[k]?).getD default).tasks t==3 then kM y k (jG ((y.runs[k]?).getD default) t) else y
theorem jcf (y:Yd) (k:Nat) (r:Rn):(kM y k r).runs=y.runs.set k r:=rfl
theorem LaterP.fail {y z:Yd} (h:LaterP y z) (k t:Nat):LaterP y (failK z k t):=by
 unfold failK;split
 ·cases hk:y.runs[k]? with
  |none=>
   have hk2:z.runs[k]?=none:=by rw [List.getElem?_eq_none_iff] at hk⊢;rw [h.len];exact hk
   rename_i hs;rw [hk2] at hs;simp [stT] at hs;cases hs
  |some r=>
   obtain ⟨r',h1,h2,h3,h4,h5,h6⟩:=h.runs k r hk;have hk':=(List.getElem?_eq_some_iff.1 h1).1;rw [h1,Option.getD_some];refine ⟨by rw [jcf,List.length_set];exact h.len,fun j q hq=>?_⟩
   rw [jcf,List.getElem?_set];by_cases e:k=j
   ·subst e
    rw [hk] at hq;obtain rfl:=Option.some.inj hq;rw [if_pos rfl,if_pos hk'];have hi:=jex r' t;refine ⟨_,rfl,by rw [hi.1];exact h2,by rw [hi.2];exact h3,joZ _ h4,by rw [kX];exact h5,fun i x hx hs=>h6 i x (jkS hx hs) hs⟩
   ·rw [if_neg e];exact h.runs j q hq
 ·exact h
structure StepI (y z:Yd) (i:Nat):Prop where
 later:LaterP y z
 four:z.shelf.length=4
 seq:1≤z.seq∧z.seq≤1000000000+12*i
 tot:jJ z≤jJ y+12*i
 now:z.now=y.now
theorem StepI.refl {y:Yd} (h:YardOkP y):StepI y y 0:=⟨.refl h,h.four,by have:=h.seq;omega,Nat.le_refl _,rfl⟩
theorem StepI.mono {y z:Yd} {i j:Nat} (h:StepI y z i) (hij:i≤j):StepI y z j:=⟨h.later,h.four,by have:=h.seq;omega,by have:=h.tot;omega,h.now⟩
theorem jvF {y:Yd} {k:Nat} {r r2:Rn} (hr:y.runs[k]?=some r) (ht:qO r2=qO r) (hl:r2.tasks.length≤12):jJ (kM y k r2)≤jJ y+12:=by
 have h1:=jyb (y:=⟨y.now,y.seq,y.shelf,y.runs.set k r2⟩) (r:=r2) (ids:=vP ((y.runs[k]?).getD default).tasks r2.tasks r2.tasks.length);have h2:=jdg ((y.runs[k]?).getD default).tasks r2.tasks r2.tasks.length;have h3:=qV (f:=qO) r2 hr
 have h4:jJ ⟨y.now,y.seq,y.shelf,y.runs.set k r2⟩=jJ y:=by
  simp only [jJ,ja5,List.length_set];omega
 rw [kM];omega
theorem jvZ (y:Yd) (k:Nat) (r2:Rn):y.seq≤(kM y k r2).seq∧(kM y k r2).seq≤y.seq+r2.tasks.length:=by
 have h2:=jdg ((y.runs[k]?).getD default).tasks r2.tasks r2.tasks.length;have h1:=zB r2.plan.prio r2.id (vP ((y.runs[k]?).getD default).tasks r2.tasks r2.tasks.length) ((y.shelf[shN r2.id]?).getD default,y.seq);have e:(kM y k r2).seq=(vQ r2.plan.prio r2.id (vP ((y.runs[k]?).getD default).tasks r2.tasks r2.tasks.length) ((y.shelf[shN r2.id]?).getD default,y.seq)).2:=rfl;rw [e,h1];dsimp only;omega
theorem juD (y:Yd) (k:Nat) (r2:Rn):(kM y k r2).shelf.length=y.shelf.length:=by
 have e:(kM y k r2).shelf=y.shelf.set (shN r2.id) (vQ r2.plan.prio r2.id (vP ((y.runs[k]?).getD default).tasks r2.tasks r2.tasks.length) ((y.shelf[shN r2.id]?).getD default,y.seq)).1:=rfl;rw [e,List.length_set]
theorem StepI.fail {y z:Yd} {i:Nat} (h:StepI y z i) (k t:Nat):StepI y (failK z k t) (i+1):=by
 have hL:=h.later.fail k t;cases hc:(stT ((z.runs[k]?).getD default).tasks t==3) with
 |false=>
  have e:failK z k t=z:=by unfold failK;rw [hc];rfl
  rw [e];exact h.mono (Nat.le_succ i)
 |true=>
  have e:failK z k t=kM z k (jG ((z.runs[k]?).getD default) t):=by unfold failK;rw [hc];rfl
  cases hk:y.runs[k]? with
  |none=>
   have hk2:z.runs[k]?=none:=by rw [List.getElem?_eq_none_iff] at hk⊢;rw [h.later.len];exact hk
   rw [hk2] at hc;simp [stT] at hc;cases hc
  |some r=>
   obtain ⟨r',h1,h2,h3,h4,h5,h6⟩:=h.later.runs k r hk;rw [h1,Option.getD_some] at e;have hl:=kX r' t;have h12:=h4.le12;have hs:=jvZ z k (jG r' t);have:=h.seq;have:=h.tot;have hT:=jvF (r2:=jG r' t) h1 (jnc r' t) (by omega)
   rw [e] at hL⊢;exact ⟨hL,by rw [juD];exact h.four,by omega,by omega,h.now⟩
theorem jld {y z:Yd} (h:LaterP y z) {k t:Nat} {r:Rn} {x:Tk} (hk:y.runs[k]?=some r) (hra:runAt y r.id=k) (hx:r.tasks[t]?=some x):qK z r.id t x.tri=(stT ((z.runs[k]?).getD default).tasks t==3):=by
 obtain ⟨r',h1,h2,h3,h4,h5,h6⟩:=h.runs k r hk;have ht:=(List.getElem?_eq_some_iff.1 hx).1;have hx':r'.tasks[t]?=some r'.tasks[t]:=List.getElem?_eq_getElem (by omega)
 have hn:¬((k:Int)<0):=by omega
 have hT:zF z r.id t=some r'.tasks[t]:=by
  simp only [zF,h.runAt,hra,hn,if_false,Int.toNat_natCast,h1];rw [if_pos (by omega)];exact hx'
 rw [h1,Option.getD_some,kw hx'];simp only [qK,hT];cases hs:(r'.tasks[t].state==3) with
 |false=>rfl
 |true=>
  have hs':r'.tasks[t].state=3:=by simpa using hs
  have:=h6 t _ hx' hs';rw [hx] at this;rw [Option.some.inj this];simp
noncomputable def restT (z:Yd) (k:Nat):Nat→Yd
 |0=>z
 |t+1=>failK (restT z k t) k t
noncomputable def restR (y:Yd):Nat→Yd
 |0=>y
 |k+1=>restT (restR y k) k ((y.runs[k]?).getD default).tasks.length
theorem StepI.restT {y z:Yd} {i:Nat} (h:StepI y z i) (k:Nat):∀t,StepI y (restT z k t) (i+t)
 |0=>h
 |t+1=>(StepI.restT h k t).fail k t
theorem StepI.restR {y:Yd} (h:YardOkP y):∀k,StepI y (restR y k) (12*k)
 |0=>.refl h
 |k+1=>by
  refine ((StepI.restR h k).restT k _).mono ?_;cases hk:y.runs[k]? with
  |none=>rw [Option.getD_none];have:(default:Rn).tasks.length=0:=rfl;omega
  |some r=>
   have:=(h.right r (List.mem_of_getElem? hk)).le12;rw [Option.getD_some];omega
noncomputable def zG (y:Yd):Yd:=if jD y then restR y y.runs.length else y
theorem jqO {y:Yd} {id task tri:Int} {k:Nat} {r:Rn} (h:jaV y id task tri=0) (hk:runAt y id=(k:Int)) (hr:y.runs[k]?=some r):∃t:Nat,task=(t:Int)∧vq r task=true:=by
 have hok:=(joG h).1
 have hh:qK y id task tri=true:=by
  unfold jaV at h;split at h
  ·cases h
  split at h
  ·cases h
  split at h
  ·cases h
  ·rename_i h3;simpa using h3
 unfold qK at hh;rcases vJ y id task with ⟨_,h2⟩|⟨k',r',h1,h2,⟨_,h3⟩|⟨j,x,hj,hx,h3⟩⟩
 ·rw [h2] at hh;cases hh
 ·rw [h3] at hh;cases hh
 ·rw [h3] at hh
  obtain rfl:k=k':=by omega
  obtain rfl:r=r':=by rw [hr] at h2;exact Option.some.inj h2
  refine ⟨j,hj,?_⟩;subst hj;have hl:=(List.getElem?_eq_some_iff.1 hx).1;simp only [Bool.and_eq_true,beq_iff_eq] at hh;have hR:=hok.right r (List.mem_of_getElem? hr);simp only [vq,inB,Bool.and_eq_true,decide_eq_true_eq,beq_iff_eq,kw hx,runOk_iff];exact ⟨⟨by omega,hh.1⟩,hR⟩
def jc4:C:=iS [iA 4 (.box 27 4 (.t 0)),iA 6 (.box 3 1 (.t 2)),iA 8 (.alloc 27 [.int .i64 0,.int .i64 0,.slice none 0 0,.slice none 0 0]),iA 9 (iN 0)] (iS [iA 12 (iT 4 4),iA 13 (.call 61 [.t 12]),iA 10 (.alloc 27 [.int .i64 0,.int .i64 0,.slice none 0 0,.slice none 0 0]),iC (.st 4 [none,none,some (1,35),some (8,52)] (.t 10) (.t 13))] (iS [iA 14 (iT 4 4),iA 15 (iM 1),iA 16 (iL 6),iA 17 (iM 3),iA 18 (.call 122 [.t 14,.t 15,.t 16,.t 17]),iA 11 (iM 18)] (.seq (iS [iA 19 (iM 11),iA 20 (iQ .eql 3 19 0)] (iD 20 (.reg [iA 21 (iT 4 4),iA 22 (iM 1),iA 23 (.call 25 [.t 21,.t 22]),iA 24 (.mkf 123 [.t 6]),iA 25 (.call 116 [.t 10,.t 23,.t 24])]) .skip)) (iS [iA 26 (iT 4 10),iA 27 (iM 11),iC (.st 4 [none,none,some (1,35),some (8,52)] (.t 8) (.t 26)),iA 9 (iM 27)] .ret))))
theorem jfP:fnC Tryz.prog Tryz.f55=some (jc4,[.cell 8 true 4,.t 9],28):=by kernel_rfl
def jbt:C:=.reg [iA 3 (iM 0),iA 4 (iL 1),iA 5 (.call 124 [.t 3,.t 4])]
theorem jdA:fnC Tryz.prog Tryz.f123=some (jbt,[],6):=by kernel_rfl
theorem jmD {k t b6:Nat} {y:Yd} {r:Rn} (hr:y.runs[k]?=some r) (hrun:vq r t=true):jvz Tryz.prog 123 [.bp 91 0 b6] (.box b6 jgn [.a (.v (.int .i64 t))]) k y (qI r t):=by
 intro o b e2 e3 h90 h91;refine jit (β:=6000000) Tryz.func123 jdA (by simp) ?_
 unfold jbt;simp only [go_sem,h91];refine kN (by simp only [go_sem]) (jzs hr hrun _ b e2 e3 (by simp only [go_sem];exact h90)) ?_
 rintro _ o1 ⟨rfl,j90,j91,j92,j93,j94,j95,j96,j97⟩;simp only [go_sem] at j91 j92 j93 j94 j95 j96 j97;rw [h91] at j91;exact ⟨.tup [],⟨by decide,rfl⟩,rfl,rfl,j90,j91,j92,j93,j94,j95,j96,j97⟩
theorem jji (y:Yd) (id task tri:Int) (ht:jJ y≤2000000):kj Tryz.prog 55 [.agg (jb y),.c (.val (.int .i64 id)),.c (.val (.int .i64 task)),.c (.val (.int .i64 tri))] (.tup [(true,jb (jcF y id task tri)),(false,[.val (.int .i64 (jaV y id task tri))])]):=by
 refine zn [[1,1,1,0,1,0]] Tryz.func55 jfP (by simp) ?_
 unfold jc4;simp only [C.ghs,C.ghAt,List.foldr];simp only [go_sem,jb];intro b4 b6 b8;refine jc (kn y ht) (by simp only [go_sem,jb]) fun ηc=>?_
 simp only [go_sem,jb];intro b10;refine jc (jjh y id task tri ht) (by simp only [go_sem,jb]) fun η=>?_
 simp only [go_sem,jb];cases h0:jaV y id task tri==0
 ·have hy:jcF y id task tri=y:=by rw [jcF,if_neg (by simpa using h0)]
  simp only [go_sem,jb,h0,hy];refine qh _ _ _ _ _ ?_;simp only [go_sem,jb]
 have h0':jaV y id task tri=0:=by simpa using h0
 obtain ⟨hok,hneg⟩:=joG h0';obtain ⟨k,r,hrk,hr,hid,h8⟩:=qP hneg;obtain ⟨t,rfl,hrun⟩:=jqO h0' hrk hr;have hY:jcF y id t tri=kM y k (qI r t):=by rw [jcF,if_pos h0',hrk,Int.toNat_natCast,hr,Option.getD_some]
 have hr12:r.tasks.length≤12:=(hok.right r (List.mem_of_getElem? hr)).le12;rw [hY,h0'];simp only [go_sem,jb,h0];refine kY ?_;generalize ηc 2=η2 at*;generalize ηc 3=η3 at*;refine WkK.wk (s':=St.of [(1,Ni id),(4,Bx 93 b4),(6,Bx 91 b6),(8,Bx 92 b8),(10,Bx 90 b10),(11,Ni 0)] [(93,Bi b4 tYd (jb y)),(91,.box b6 jgn [.a (.v (.int .i64 t))]),(92,ZYd b8 tYd),(90,kq b10 tYd y.now y.seq y.shelf η2 y.runs η3)]) (jg [some 400,some 600,some 800,some 1000] (by simp only [go_sem,jb]<;>and_intros<;>first|rfl|assumption|trivial)) ?_
 refine WkK.of ?_;simp only [go_sem,jb];refine jc (ql y id) (by simp only [go_sem,jb]) fun η=>?_
 simp only [go_sem,jb];rw [hrk];refine kN (vs:=[Bx 90 b10,Ni k,.fn 123 [.bp 91 0 b6]]) (by simp only [go_sem]) (jdm hr (jez r t) hr12 hok.four (by have:=hok.seq;omega) ht (jmD hr hrun) (e2:=η2) (e3:=η3) (by simp only [go_sem]) (by simp only [go_sem])) ?_
 rintro _ o1 ⟨rfl,⟨e2',e3',j90⟩,j91,j92,j93,j94,j95,j96⟩;simp only [go_sem] at j92;generalize kM y k (qI r t)=y2 at*;simp only [go_sem,j90,j92];refine qh _ _ _ _ _ ?_;simp only [go_sem,jb]
def jec:C:=iS [iA 1 (.box 27 4 (.t 0)),iA 2 (.alloc 27 [.int .i64 0,.int .i64 0,.slice none 0 0,.slice none 0 0])] (iS [iA 6 (iT 4 1),iA 7 (.call 67 [.t 6]),iA 3 (.alloc 27 [.int .i64 0,.int .i64 0,.slice none 0 0,.slice none 0 0]),iC (.st 4 [none,none,some (1,35),some (8,52)] (.t 3) (.t 7))] (.seq (iS [iA 8 (iT 4 1),iA 9 (.call 66 [.t 8]),iA 10 (iU 9)] (iD 10 (iS [iA 11 (iT 4 3),iC (.st 4 [none,none,some (1,35),some (8,52)] (.t 2) (.t 11))] .ret) .skip)) (.seq (iS [iA 4 (iN 0)] (.blk 0 (.loop (.seq (iS [iA 12 (iM 4),iA 13 (iF 3 3),iA 14 (iL 13),iA 15 (iG 14),iA 16 (iP .lss 3 12 15)] (iD 16 .skip (.exit 0))) (.seq (.blk 1 (iS [iA 5 (iN 0)] (.blk 2 (.loop (.seq (iS [iA 19 (iM 5),iA 20 (iF 3 3),iA 21 (iL 20),iA 22 (iM 4),iA 23 (iI 8 21 22),iA 24 (iF 7 23),iA 25 (iL 24),iA 26 (iG 25),iA 27 (iP .lss 3 19 26)] (iD 27 .skip (.exit 2))) (.seq (.blk 3 (iS [iA 30 (iF 3 3),iA 31 (iL 30),iA 32 (iM 4),iA 33 (iI 8 31 32),iA 34 (iF 7 33),iA 35 (iL 34),iA 36 (iM 5),iA 37 (iI 4 35 36),iA 38 (iF 0 37),iA 39 (iL 38),iA 40 (iQ .eql 3 39 3)] (iD 40 (.dreg (T.pure 0 (iA 41 (iT 4 3)) (T.pure 1 (iA 42 (iM 4)) (T.pure 2 (iA 43 (iF 3 3)) (T.pure 3 (iA 44 (iL 43)) (T.pure 4 (iA 45 (iM 4)) (T.pure 5 (iA 46 (iI 8 44 45)) (T.pure 6 (iA 47 (iT 8 46)) (T.pure 7 (iA 48 (iM 5)) (T.alt (iA 49 (.call 120 [.t 47,.t 48])) [1,0] (T.alt (iA 50 (.call 119 [.t 41,.t 42,.t 49])) [] (T.alt (iC (.st 4 [none,none,some (1,35),some (8,52)] (.t 3) (.t 50))) [] T.done T.stop) T.stop) T.stop)))))))))) .skip))) (.reg [iA 28 (iM 5),iA 29 (iQ .add 3 28 1),iA 5 (iM 29)]))))))) (.reg [iA 17 (iM 4),iA 18 (iQ .add 3 17 1),iA 4 (iM 18)])))))) (iS [iA 51 (iT 4 3),iC (.st 4 [none,none,some (1,35),some (8,52)] (.t 2) (.t 51))] .ret))))
theorem jg5:fnC Tryz.prog Tryz.f49=some (jec,[.cell 2 true 4],52):=by kernel_rfl
def jen:C:=iS [iA 1 (.box 27 4 (.t 0)),iA 2 (.alloc 27 [.int .i64 0,.int .i64 0,.slice none 0 0,.slice none 0 0])] (iS [iA 8 (iT 4 1),iA 9 (.call 61 [.t 8]),iA 3 (.alloc 27 [.int .i64 0,.int .i64 0,.slice none 0 0,.slice none 0 0]),iC (.st 4 [none,none,some (1,35),some (8,52)] (.t 3) (.t 9))] (.seq (iS [iA 10 (iT 4 1),iA 11 (.call 18 [.t 10]),iA 12 (iU 11)] (iD 12 (iS [iA 13 (iT 4 3),iC (.st 4 [none,none,some (1,35),some (8,52)] (.t 2) (.t 13))] .ret) .skip)) (.seq (iS [iA 14 (iF 3 1),iA 15 (iL 14),iA 16 (iG 15),iA 17 (iN 0)] (.blk 0 (.loop (iS [iA 18 (iP .lss 3 17 16)] (.seq (iD 18 .skip (.exit 0)) (.seq (.blk 1 (iS [iA 19 (iM 17),iA 20 (iI 8 15 17),iA 21 (iT 8 20),iA 5 (.alloc 52 [.int .i64 0,.int .i64 0,.int .i64 0,.int .i64 0,.int .i64 0,.slice none 0 0,.int .i64 0,.slice none 0 0]),iA 4 (iM 19),iC (.st 8 [none,none,none,none,none,some (2,161),none,some (4,46)] (.t 5) (.t 21))] (iS [iA 22 (iF 7 5),iA 23 (iL 22),iA 24 (iG 23),iA 25 (iN 0)] (.blk 2 (.loop (iS [iA 26 (iP .lss 3 25 24)] (.seq (iD 26 .skip (.exit 2)) (.seq (.blk 3 (iS [iA 27 (iM 25),iA 28 (iI 4 23 25),iA 29 (iT 4 28),iA 6 (.alloc 3 [.int .i64 0]),iA 7 (.alloc 46 [.int .i64 0,.int .i64 0,.int .i64 0,.int .i64 0]),iC (.st 1 [none] (.t 6) (.t 27)),iC (.st 4 [none,none,none,none] (.t 7) (.t 29))] (iS [iA 30 (iT 4 3),iA 31 (iF 0 5),iA 32 (iL 31),iA 33 (iL 6),iA 34 (iF 2 7),iA 35 (iL 34),iA 36 (.call 53 [.t 30,.t 32,.t 33,.t 35])] (iD 36 (.reg [iA 37 (iM 4),iA 38 (.mkf 117 [.t 6]),iA 39 (.call 116 [.t 3,.t 37,.t 38])]) .skip)))) (.reg [iA 40 (iQ .add 3 25 1),iA 25 (iM 40)]))))))))) (.reg [iA 41 (iQ .add 3 17 1),iA 17 (iM 41)]))))))) (iS [iA 42 (iT 4 3),iC (.st 4 [none,none,some (1,35),some (8,52)] (.t 2) (.t 42))] .ret))))
theorem jhg:fnC Tryz.prog Tryz.f48=some (jen,[.cell 2 true 4],43):=by kernel_rfl
def jb4:C:=.reg [iA 3 (iM 0),iA 4 (iL 1),iA 5 (.call 118 [.t 3,.t 4])]
theorem jeT:fnC Tryz.prog Tryz.f117=some (jb4,[],6):=by kernel_rfl
theorem jdL (y:Yd) (ht:jJ y≤1990000):kj Tryz.prog 49 [.agg (jb y)] (.agg (jb (zG y))):=by
 refine jq Tryz.func49 jg5 (by simp) ?_
 unfold jec;have ht2:jJ y≤2000000:=by omega
 simp only [go_sem,jb];intro b1 b2;refine jc (kx y ht2) (by simp only [go_sem,jb]) fun ηc=>?_
 simp only [go_sem,jb];intro b3;refine jc (qi y ht2) (by simp only [go_sem,jb]) fun η=>?_
 simp only [go_sem,jb];cases hok:jD y
 ·have hy:zG y=y:=by simp [zG,hok]
  simp only [go_sem,jb,hok,hy]
 have hP:=yard_iff.1 hok;have hy:zG y=restR y y.runs.length:=by simp [zG,hok]
 rw [hy];simp only [go_sem,jb,hok];have h8:=hP.eight;refine jn (fun i:Nat×js×js=>St.of [(2,Bx 92 b2),(3,Bx 90 b3),(4,Ni i.1)] [(92,ZYd b2 tYd),(90,kq b3 tYd (restR y i.1).now (restR y i.1).seq (restR y i.1).shelf i.2.1 (restR y i.1).runs i.2.2)]) (fun i=>i.1≤y.runs.length) (fun i=>y.runs.length-i.1) (0,ηc 2,ηc 3) (by (try dsimp only);first|omega|(simp;done)|(and_intros<;>first|omega|simp)) (jg [some 200,some 300] (by simp only [go_sem,jb,restR]<;>and_intros<;>first|rfl|assumption|trivial)) ?_
 rintro ⟨k,e2,e3⟩ hk;dsimp only at hk;have hI:=StepI.restR hP k;by_cases hlt:k<y.runs.length
 ·obtain ⟨r0,hr0⟩:=je hlt
  have hr012:=(hP.right r0 (List.mem_of_getElem? hr0)).le12;have hnx:restR y (k+1)=restT (restR y k) k r0.tasks.length:=by rw [restR,hr0,Option.getD_some]
  have hIt:=hI.restT k;have hw:IntKind.i64.wrap ((k:Int)+1)=((k+1:Nat):Int):=jf (by omega) (by omega)
  have hlz:(restR y k).runs.length=y.runs.length:=hI.later.len;have hlt':(k:Int)<(restR y k).runs.length:=by omega
  generalize restR y k=z0 at*;simp only [go_sem,hlt'];refine jn (fun i:Nat×js×js=>St.of [(2,Bx 92 b2),(3,Bx 90 b3),(4,Ni k),(5,Ni i.1)] [(92,ZYd b2 tYd),(90,kq b3 tYd (restT z0 k i.1).now (restT z0 k i.1).seq (restT z0 k i.1).shelf i.2.1 (restT z0 k i.1).runs i.2.2)]) (fun i=>i.1≤r0.tasks.length) (fun i=>r0.tasks.length-i.1) (0,e2,e3) (by (try dsimp only);first|omega|(simp;done)|(and_intros<;>first|omega|simp)) (jg [some 92,some 90] (by simp only [go_sem,restT]<;>and_intros<;>first|rfl|assumption|trivial)) ?_
  rintro ⟨t,f2,f3⟩ hti;dsimp only at hti;have hJ:=hIt t;have hnt:restT z0 k (t+1)=failK (restT z0 k t) k t:=rfl;generalize hz:restT z0 k t=z at*;obtain ⟨r,hr,hid,hpl,hR,hrl,hr3⟩:=hJ.later.runs k r0 hr0;have hkl:=(List.getElem?_eq_some_iff.1 hr).1;have h0k:(k:Int)≥0:=by omega
  have h12:=hR.le12;by_cases hlt2:t<r0.tasks.length
  ·have hlt3:t<r.tasks.length:=by omega
   have hlt3':(t:Int)<r.tasks.length:=by omega
   have h0t:(t:Int)≥0:=by omega
   obtain ⟨x,hx⟩:=je hlt3;have hwt:IntKind.i64.wrap ((t:Int)+1)=((t+1:Nat):Int):=jf (by omega) (by omega)
   have hfy:failK z k t=if x.state==3 then kM z k (jG r t) else z:=by rw [failK,hr,Option.getD_some,kw hx]
   simp only [go_sem,Nat.add_zero,hkl,h0k,qY hr,vm hr,jX hr,hlt3',hlt3,h0t,jaa hx,vl hx];cases hs:x.state==3
   ·rw [hs,if_neg (by decide)] at hfy
    rw [hfy] at hnt;simp only [go_sem,hs,hwt];exact ⟨(t+1,f2,f3),by (try dsimp only);first|omega|assumption|(and_intros<;>first|omega|assumption),(jg [some 92,some 90] (by simp only [go_sem,hnt]<;>and_intros<;>first|rfl|assumption|trivial)),by (try dsimp only);omega⟩
   ·rw [hs,if_pos rfl] at hfy
    rw [hfy] at hnt;simp only [go_sem,hs,Nat.add_zero,hkl,h0k,jhl hr,jcy hr,jd,ja];refine jc (jap r t (by have:=jcb hR.plan;obtain ⟨n,_,_,_,h30,_⟩:=this;omega) (by omega)) (by simp only [go_sem,jd,ja,jZ hr,ke hr]) fun ηr=>?_
    simp only [go_sem,jd,ja,jZ hr,ke hr];have hl2:=kX r t;generalize jG r t=r2 at*;refine jan [some 90,some 92,some 4905,some 4907] [(90,kq b3 tYd z.now z.seq z.shelf f2 z.runs f3),(92,ZYd b2 tYd),(97,.loose (jy r2.plan.edges) (ηr 5)),(98,.loose (jB r2.tasks) (ηr 7))] [.agg [.v (.int .i64 z.now),.v (.int .i64 z.seq),.h 90 2 [] (f2 []),.h 90 3 [] (f3 [])],Ni k,.agg [.v (.int .i64 r2.id),.v (.int .i64 r2.plan.prio),.v (.int .i64 r2.plan.most),.v (.int .i64 r2.plan.wait),.v (.int .i64 r2.plan.tasks),.h 97 0 [] (ηr 5 []),.v (.int .i64 r2.state),.h 98 0 [] (ηr 7 [])]] (by simp only [go_sem]<;>and_intros<;>rfl) (by simp only [go_sem]<;>and_intros<;>rfl) (jfn hr hl2 h12 hJ.four (by have:=hJ.seq;omega) (by have:=hJ.tot;omega) rfl rfl rfl) ?_
    rintro _ o1 ⟨c,g2,g3,x2,x3,rfl,j99,j90,j91,j92,j93,j94,j95,j96⟩;have j92':o1 92=ZYd b2 tYd:=j92;generalize kM z k r2=z2 at*;simp only [go_sem,j99,j90,j92',hwt];exact ⟨(t+1,g2,g3),by (try dsimp only);first|omega|assumption|(and_intros<;>first|omega|assumption),(jg [some 92,some 90] (by simp only [go_sem,hnt,j90,j92']<;>and_intros<;>first|rfl|assumption|trivial)),by (try dsimp only);omega⟩
  ·have hlt3':¬(t:Int)<r.tasks.length:=by omega
   obtain rfl:t=r0.tasks.length:=by omega
   rw [hz] at hnx;simp only [go_sem,Nat.add_zero,hkl,h0k,qY hr,vm hr,jX hr,hlt3',hw];exact ⟨(k+1,f2,f3),by (try dsimp only);first|omega|assumption|(and_intros<;>first|omega|assumption),(jg [some 92,some 90] (by simp only [go_sem,hnx]<;>and_intros<;>first|rfl|assumption|trivial)),by (try dsimp only);omega⟩
 have hlz:(restR y k).runs.length=y.runs.length:=hI.later.len;have hlt':¬(k:Int)<(restR y k).runs.length:=by omega
 obtain rfl:k=y.runs.length:=by omega
 generalize restR y y.runs.length=z at*;simp only [go_sem,hlt',jb]
theorem jol {k t b6:Nat} {y:Yd} {r:Rn} (hr:y.runs[k]?=some r) (hrun:vq r t=true):jvz Tryz.prog 117 [.bp 91 0 b6] (.box b6 jgn [.a (.v (.int .i64 t))]) k y (jG r t):=by
 intro o b e2 e3 h90 h91;refine jit (β:=6000000) Tryz.func117 jeT (by simp) ?_
 unfold jb4;simp only [go_sem,h91];refine kN (by simp only [go_sem]) (jmu hr hrun _ b e2 e3 (by simp only [go_sem];exact h90)) ?_
 rintro _ o1 ⟨rfl,j90,j91,j92,j93,j94,j95,j96,j97⟩;simp only [go_sem] at j91 j92 j93 j94 j95 j96 j97;rw [h91] at j91;exact ⟨.tup [],⟨by decide,rfl⟩,rfl,rfl,j90,j91,j92,j93,j94,j95,j96,j97⟩
theorem jaX (y:Yd) (ht:jJ y≤1990000):kj Tryz.prog 48 [.agg (jb y)] (.agg (jb (zG y))):=by
 refine zn [[1,1,1,0,1,0,0,1,1,0,0,1,1,0,0,1,1,0,0,1,1,0]] Tryz.func48 jhg (by simp) ?_
 unfold jen;simp only [C.ghs,C.ghAt,List.foldr];have ht2:jJ y≤2000000:=by omega
 simp only [go_sem,jb];intro b1 b2;refine jc (kn y ht2) (by simp only [go_sem,jb]) fun ηc=>?_
 simp only [go_sem,jb];intro b3;refine jc (kI y ht2) (by simp only [go_sem,jb]) fun η=>?_
 simp only [go_sem,jb];cases hok:jD y
 ·have hy:zG y=y:=by simp [zG,hok]
  simp only [go_sem,jb,hok,hy]
 have hP:=yard_iff.1 hok;have hy:zG y=restR y y.runs.length:=by simp [zG,hok]
 rw [hy];simp only [go_sem,jb,hok];have h8:=hP.eight;refine jn (fun i:Nat×js×js=>St.of [(2,Bx 92 b2),(3,Bx 90 b3),(15,Ro (jK y.runs)),(16,Ni y.runs.length),(17,Ni i.1)] [(92,ZYd b2 tYd),(90,kq b3 tYd (restR y i.1).now (restR y i.1).seq (restR y i.1).shelf i.2.1 (restR y i.1).runs i.2.2)]) (fun i=>i.1≤y.runs.length) (fun i=>y.runs.length-i.1) (0,ηc 2,ηc 3) (by (try dsimp only);first|omega|(simp;done)|(and_intros<;>first|omega|simp)) (jg [some 200,some 300] (by simp only [go_sem,jb,restR]<;>and_intros<;>first|rfl|assumption|trivial)) ?_
 rintro ⟨k,e2,e3⟩ hk;dsimp only at hk;have hI:=StepI.restR hP k;by_cases hlt:k<y.runs.length
 ·have hlt':(k:Int)<y.runs.length:=by omega
  obtain ⟨r0,hr0⟩:=je hlt;have hr012:=(hP.right r0 (List.mem_of_getElem? hr0)).le12;have hpl0:=hP.place k r0 hr0;have hnx:restR y (k+1)=restT (restR y k) k r0.tasks.length:=by rw [restR,hr0,Option.getD_some]
  have hIt:=hI.restT k;have hw:IntKind.i64.wrap ((k:Int)+1)=((k+1:Nat):Int):=jf (by omega) (by omega)
  generalize restR y k=z0 at*;simp only [go_sem,hlt',hlt,jV hr0,jd,ja];intro b5;refine jn (fun i:Nat×js×js=>St.of [(2,Bx 92 b2),(3,Bx 90 b3),(4,Ni k),(5,Bx 93 b5),(15,Ro (jK y.runs)),(16,Ni y.runs.length),(17,Ni k),(23,Ro (jB r0.tasks)),(24,Ni r0.tasks.length),(25,Ni i.1)] [(92,ZYd b2 tYd),(93,Bi b5 tRn (jd r0)),(90,kq b3 tYd (restT z0 k i.1).now (restT z0 k i.1).seq (restT z0 k i.1).shelf i.2.1 (restT z0 k i.1).runs i.2.2)]) (fun i=>i.1≤r0.tasks.length) (fun i=>r0.tasks.length-i.1) (0,e2,e3) (by (try dsimp only);first|omega|(simp;done)|(and_intros<;>first|omega|simp)) (jg [some 92,some 500,some 90] (by simp only [go_sem,restT,jd,ja]<;>and_intros<;>first|rfl|assumption|trivial)) ?_
  rintro ⟨t,f2,f3⟩ hti;dsimp only at hti;have hJ:=hIt t;have hnt:restT z0 k (t+1)=failK (restT z0 k t) k t:=rfl;generalize hz:restT z0 k t=z at*;obtain ⟨r,hr,hid,hpl,hR,hrl,hr3⟩:=hJ.later.runs k r0 hr0;have h12:=hR.le12;by_cases hlt2:t<r0.tasks.length
  ·have hlt2':(t:Int)<r0.tasks.length:=by omega
   have hlt3:t<r.tasks.length:=by omega
   obtain ⟨x,hx⟩:=je hlt3;obtain ⟨x0,hx0⟩:=je hlt2;have hwt:IntKind.i64.wrap ((t:Int)+1)=((t+1:Nat):Int):=jf (by omega) (by omega)
   have hfy:failK z k t=if x.state==3 then kM z k (jG r t) else z:=by rw [failK,hr,Option.getD_some,kw hx]
   have hho:qK z r0.id t x0.tri=(x.state==3):=by rw [jld hJ.later hr0 hpl0 hx0,hr,Option.getD_some,kw hx]
   simp only [go_sem,hlt2',hlt2,jQ hx0,jo];intro b6 b7;simp only [go_sem,jd,ja];refine jc (zH z r0.id t x0.tri) (by simp only [go_sem,jb]) fun η=>?_
   simp only [go_sem,jb];rw [hho];cases hs:x.state==3
   ·rw [hs,if_neg (by decide)] at hfy
    rw [hfy] at hnt;simp only [go_sem,hs,hwt];exact ⟨(t+1,f2,f3),by (try dsimp only);first|omega|assumption|(and_intros<;>first|omega|assumption),(jg [some 92,some 93,some 90] (by simp only [go_sem,hnt,jd,ja]<;>and_intros<;>first|rfl|assumption|trivial)),by (try dsimp only);omega⟩
   ·rw [hs,if_pos rfl] at hfy
    rw [hfy] at hnt;have hs':x.state=3:=by simpa using hs
    simp only [go_sem,hs];refine kY ?_;refine WkK.wk (s':=St.of [(2,Bx 92 b2),(3,Bx 90 b3),(4,Ni k),(5,Bx 93 b5),(6,Bx 91 b6),(15,Ro (jK y.runs)),(16,Ni y.runs.length),(17,Ni k),(23,Ro (jB r0.tasks)),(24,Ni r0.tasks.length),(25,Ni t)] [(92,ZYd b2 tYd),(93,Bi b5 tRn (jd r0)),(90,kq b3 tYd z.now z.seq z.shelf f2 z.runs f3),(91,.box b6 jgn [.a (.v (.int .i64 t))])]) (jg [some 92,some 93,some 90,some 600] (by simp only [go_sem,jd,ja]<;>and_intros<;>first|rfl|assumption|trivial)) ?_
    refine WkK.of ?_;simp only [go_sem];refine kN (vs:=[Bx 90 b3,Ni k,.fn 117 [.bp 91 0 b6]]) (by simp only [go_sem]) (jdm hr (kX r t) h12 hJ.four (by have:=hJ.seq;omega) (by have:=hJ.tot;omega) (jol hr (jgs hR hx hs')) (e2:=f2) (e3:=f3) (by simp only [go_sem]) (by simp only [go_sem])) ?_
    rintro _ o1 ⟨rfl,⟨g2,g3,j90⟩,j91,j92,j93,j94,j95,j96⟩;have j92':o1 92=ZYd b2 tYd:=j92;have j93':o1 93=Bi b5 tRn (jd r0):=j93;generalize kM z k (jG r t)=z2 at*;simp only [go_sem,hwt];exact ⟨(t+1,g2,g3),by (try dsimp only);first|omega|assumption|(and_intros<;>first|omega|assumption),(jg [some 92,some 93,some 90] (by simp only [go_sem,hnt,j90,j92',j93',jd,ja]<;>and_intros<;>first|rfl|assumption|trivial)),by (try dsimp only);omega⟩
  ·have hlt2':¬(t:Int)<r0.tasks.length:=by omega
   obtain rfl:t=r0.tasks.length:=by omega
   rw [hz] at hnx;simp only [go_sem,hlt2',hw];exact ⟨(k+1,f2,f3),by (try dsimp only);first|omega|assumption|(and_intros<;>first|omega|assumption),(jg [some 92,some 90] (by simp only [go_sem,hnx]<;>and_intros<;>first|rfl|assumption|trivial)),by (try dsimp only);omega⟩
 have hlt':¬(k:Int)<y.runs.length:=by omega
 obtain rfl:k=y.runs.length:=by omega
 generalize restR y y.runs.length=z at*;simp only [go_sem,hlt',jb]
end Go.Proofs.YtcehjhiglmifjaaGreat
