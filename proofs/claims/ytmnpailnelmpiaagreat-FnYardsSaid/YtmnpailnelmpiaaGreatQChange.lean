/- Parts. -/
import Derived.Test.YtmnpailnelmpiaaGreatQTurnP
set_option linter.unusedSimpArgs false
set_option linter.unusedVariables false
set_option maxHeartbeats 8000000
set_option maxRecDepth 100000
namespace Go.Proofs.YtmnpailnelmpiaaGreat
open Go.RowKit Go.Sort
theorem jtP {P:Program} {f:FuncId} {args:List AV} {o:Nat→Ob} {R:AV→(Nat→Ob)→Prop} (h:Inl P f args o fun av o'=>WkK (.only o') fun s'=>R av s'.o):Inl P f args o R:=
 ⟨h.1,fun B w F xs h1 h2=>(h.2 B w F xs h1 h2).mono fun e w' ⟨v,av,o',F',k1,k2,k3,k4⟩=>by
  obtain ⟨s',F2,k5,k6⟩:=k4 _ _ _ _ _ _ k2;exact ⟨v,av,s'.o,F2,k1,⟨k5.below,k5.hB,k5.df,k5.sz,fun _=>trivial,k5.ob,k5.fr,k5.dj⟩,k3,k6⟩⟩
def frP (was:List Tk) (v:Int):Bool:=!decide (v∈qB 2 was)
theorem jvN {s:Int} {ts:List Tk} {j:Nat}:(j:Int)∈qB s ts↔j<ts.length∧(stT ts (j:Int)==s)=true:=by
 simp only [qB,vN,List.mem_map,List.mem_filter,List.mem_range];constructor
 ·rintro ⟨i,h,he⟩
  obtain rfl:i=j:=by omega
  exact h
 ·exact fun h=>⟨j,h,rfl⟩
theorem jAH (was ts:List Tk):(qB 2 ts).filter (frP was)=vO was ts ts.length:=by
 simp only [qB,vN,vO,List.filter_map,List.filter_filter]
 congr 1
 refine List.filter_congr fun j _=>?_
 have h:frP was (j:Int)=!(decide (j<was.length)&&(stT was (j:Int)==2)):=by
  simp only [frP,jvN]
  congr 1
  cases (stT was (j:Int)==2)<;>simp
 simp only [Function.comp,h,jod];rw [Bool.and_comm]
theorem jyH {l:List Int} {k:Nat} {v:Int} (p:Int→Bool) (h:l[k]?=some v):(l.take (k+1)).filter p=(l.take k).filter p++(if p v then [v] else []):=by
 rw [List.take_add_one,h,List.filter_append];cases hp:p v<;>simp [hp]
def jfS:C:=iS [iA 10 (iM 0),iA 11 (iF 0 10),iA 12 (iF 3 11),iA 13 (iL 12),iA 14 (iM 1),iA 15 (iI 8 13 14),iA 16 (iT 8 15),iA 17 (.call 214 [.t 16,.c (.int .i64 2)]),iA 6 (iM 17)] (iS [iA 18 (iM 2),iA 19 (iM 0),iA 20 (iF 0 19),iA 21 (iF 3 20),iA 22 (iL 21),iA 23 (iM 1),iA 24 (iI 8 22 23),iA 25 (.callv (.t 18) [.t 24])] (iS [iA 7 (.mov (.c (.slice none 0 0)))] (.seq (iS [iA 26 (iM 0),iA 27 (iF 0 26),iA 28 (iF 3 27),iA 29 (iL 28),iA 30 (iM 1),iA 31 (iI 8 29 30),iA 32 (iT 8 31),iA 33 (.call 214 [.t 32,.c (.int .i64 2)]),iA 34 (iG 33),iA 35 (iN 0)] (.blk 0 (.loop (iS [iA 36 (iP .lss 3 35 34)] (.seq (iD 36 .skip (.exit 0)) (.seq (.blk 1 (iS [iA 37 (iI 1 33 35),iA 38 (iL 37),iA 9 (iM 38)] (iS [iA 39 (iM 6),iA 40 (iM 9),iA 41 (.call 137 [.t 39,.t 40]),iA 42 (iU 41)] (iD 42 (.reg [iA 43 (iM 7),iA 44 (iM 9),iA 45 (.bsl 3 1 1 [none] [(0,1,.t 44)]),iA 46 (.app 3 1 8 (.t 43) (.t 45)),iA 7 (iM 46)]) .skip)))) (.reg [iA 47 (iQ .add 3 35 1),iA 35 (iM 47)]))))))) (.reg [iA 48 (iM 0),iA 49 (iM 0),iA 50 (iF 0 49),iA 51 (iF 3 50),iA 52 (iL 51),iA 53 (iM 1),iA 54 (iI 8 52 53),iA 55 (iT 8 54),iA 56 (iM 7),iA 57 (.call 213 [.t 48,.t 55,.t 56])]))))
theorem jhV:fnC Tryz.prog Tryz.f221=some (jfS,[],58):=by kernel_rfl
theorem jdf {k b:Nat} {y:Yd} {r r2:Rn} {f:FuncId} {caps:List A0} {H:Ob} (hr:y.runs[k]?=some r) (hl2:r2.tasks.length=r.tasks.length) (hl12:r.tasks.length≤12) (h4:y.shelf.length=4) (hq:1≤y.seq∧y.seq≤4000000000) (ht:jK y≤2000000)
 (hc:juX Tryz.prog f caps H k y r2) {o:Nat→Ob} {e2 e3:jq} (h90:o 90=kt b tYd y.now y.seq y.shelf e2 y.runs e3) (h91:o 91=H):
 Inl Tryz.prog 221 [Bx 90 b,Ni k,.fn f caps] o fun av o'=>av=.tup []∧(∃e2' e3',o' 90=kt b tYd (kL y k r2).now (kL y k r2).seq (kL y k r2).shelf e2' (kL y k r2).runs e3')∧o' 91=H∧o' 92=o 92∧o' 93=o 93∧o' 94=o 94∧o' 95=o 95∧o' 96=o 96:=by
 refine jtP ?_;refine jkQ (β:=5000000) [[1,0],[1,1,1,1]] Tryz.func221 jhV (by simp) ?_
 unfold jfS;simp only [C.ghs,C.ghAt,List.foldr];have hk:=(List.getElem?_eq_some_iff.1 hr).1;have h0k:(k:Int)≥0:=by omega
 simp only [go_sem,h90,Nat.add_zero,hk,h0k,jg3 hr,jcv hr,jd,ja];refine jc (qo r 2 (by omega)) (by simp only [go_sem,h90,jd,ja,kb hr,kn hr]) fun ηi=>?_
 simp only [go_sem,h90,jd,ja,kb hr,kn hr];refine kX ?_;refine WkK.wk (s':=St.of [(0,Bx 90 b),(1,Ni k),(2,.fn f caps),(6,Hd 97 (ηi 0))] [(90,kt b tYd y.now y.seq y.shelf e2 y.runs e3),(91,o 91),(92,o 92),(93,o 93),(94,o 94),(95,o 95),(96,o 96),(97,.loose (jh (qB 2 r.tasks)) (ηi 0))]) (jj [some 90,some 91,some 92,some 93,some 94,some 95,some 96,some 500001700] (by simp only [go_sem,h90,jU,jmG]<;>and_intros<;>first|rfl|assumption|trivial)) ?_
 refine WkK.of ?_;simp only [go_sem,Nat.add_zero,hk,h0k,jcv hr];refine jsT (f:=f) (caps:=caps) (by simp only [go_sem]) (hc _ b e2 e3 (by simp only [go_sem]) (by simp only [go_sem];exact h91)) ?_
 rintro _ o1 ⟨rfl,j90,j91,j92,j93,j94,j95,j96,j97⟩ η;simp only [go_sem] at j92 j93 j94 j95 j96 j97;have hr2:(y.runs.set k r2)[k]?=some r2:=List.getElem?_set_self hk;have hk2:k<(y.runs.set k r2).length:=by rw [List.length_set];exact hk
 simp only [go_sem,j90,Nat.add_zero,hk2,h0k,jg3 hr2,jcv hr2,jd,ja];refine jc (qo r2 2 (by omega)) (by simp only [go_sem,j90,jd,ja,kb hr2,kn hr2]) fun ηj=>?_
 simp only [go_sem,j90,jd,ja,kb hr2,kn hr2]
 have hn0:∀v:Int,v∈qB 2 r2.tasks→0≤v:=fun v hv=>by
  simp only [qB,vN,List.mem_map] at hv;obtain ⟨a,_,rfl⟩:=hv;omega
 have hfn:=jAH r.tasks r2.tasks;have hLl:(qB 2 r2.tasks).length≤12:=Nat.le_trans (vd _ _ _) (by omega)
 have hBl:(qB 2 r.tasks).length≤12:=Nat.le_trans (vd _ _ _) hl12;generalize qB 2 r2.tasks=L2 at*;refine jp (fun i:Nat×jq=>St.of [(0,Bx 90 b),(1,Ni k),(6,Hd 97 (ηi 0)),(7,Hd 7 i.2),(33,Hd 33 (ηj 0)),(34,Ni L2.length),(35,Ni i.1)] [(90,kt b tYd y.now y.seq y.shelf e2 (y.runs.set k r2) e3),(91,H),(92,o 92),(93,o 93),(94,o 94),(95,o 95),(96,o 96),(97,.loose (jh (qB 2 r.tasks)) (ηi 0)),(7,.loose (jh ((L2.take i.1).filter (frP r.tasks))) i.2),(33,.loose (jh L2) (ηj 0))]) (fun i=>i.1≤L2.length) (fun i=>L2.length-i.1) (0,jb5) (by (try dsimp only);first|omega|(simp;done)|(and_intros<;>first|omega|simp)) (jj [some 90,some 91,some 92,some 93,some 94,some 95,some 96,some 97,none,some 500003300] (by simp only [go_sem,j90,j91,j92,j93,j94,j95,j96,j97,List.take_zero,List.filter_nil,jU]<;>and_intros<;>first|rfl|assumption|trivial)) ?_
 rintro ⟨i,η7⟩ hi;dsimp only at hi;by_cases hlt:i<L2.length
 ·have hlt':(i:Int)<L2.length:=by omega
  obtain ⟨v,hv⟩:=je hlt;have hw:IntKind.i64.wrap ((i:Int)+1)=((i+1:Nat):Int):=jg (by omega) (by omega)
  have hft:=jyH (frP r.tasks) hv;have hFl:((L2.take i).filter (frP r.tasks)).length≤12:=Nat.le_trans (List.length_filter_le _ _) (by rw [List.length_take];omega)
  generalize (L2.take i).filter (frP r.tasks)=F at*;have m1:F.length+1≤maxLen:=by unfold maxLen;omega
  have m2:(F.length+1)*8≤140737488355328:=by omega
  simp only [go_sem,hlt',hlt,jk hv,ji hlt];refine jc (jiX (qB 2 r.tasks) v (by omega)) (by simp only [go_sem]) fun η=>?_
  simp only [go_sem];cases hd:decide (v∈qB 2 r.tasks)
  ·have hp:frP r.tasks v=true:=by rw [frP,hd];rfl
   rw [hp,if_pos rfl] at hft;simp only [go_sem,hd,m1,m2,vi,hw];intro η1 η8;exact ⟨(i+1,η8),by (try dsimp only);first|omega|assumption|(and_intros<;>first|omega|assumption),(jj [some 90,some 91,some 92,some 93,some 94,some 95,some 96,some 97,some 500004600,some 33] (by simp only [go_sem,hft,jU]<;>and_intros<;>first|rfl|assumption|trivial)),by (try dsimp only);omega⟩
  ·have hp:frP r.tasks v=false:=by rw [frP,hd];rfl
   rw [hp,if_neg (by decide),List.append_nil] at hft
   simp only [go_sem,hd,hw];exact ⟨(i+1,η7),by (try dsimp only);first|omega|assumption|(and_intros<;>first|omega|assumption),(jj [some 90,some 91,some 92,some 93,some 94,some 95,some 96,some 97,some 7,some 33] (by simp only [go_sem,hft,jU]<;>and_intros<;>first|rfl|assumption|trivial)),by (try dsimp only);omega⟩
 have hlt':¬(i:Int)<L2.length:=by omega
 rw [List.take_of_length_le (by omega),hfn]
 simp only [go_sem,hlt'];refine kX ?_;have hR:jO (y.runs.set k r2)=.sl 8 tRn (jbt y.runs k (jd r2)):=(jlr hk).symm;have hid:(vO r.tasks r2.tasks r2.tasks.length).length≤12:=Nat.le_trans (jdb _ _ _) (by omega)
 have hLY:kL y k r2=⟨y.now,(vP r2.plan.prio r2.id (vO r.tasks r2.tasks r2.tasks.length) ((y.shelf[shN r2.id]?).getD default,y.seq)).2,y.shelf.set (shN r2.id) (vP r2.plan.prio r2.id (vO r.tasks r2.tasks r2.tasks.length) ((y.shelf[shN r2.id]?).getD default,y.seq)).1,y.runs.set k r2⟩:=by rw [kL,hr,Option.getD_some];rfl
 generalize vO r.tasks r2.tasks r2.tasks.length=ids at*;refine WkK.wk (s':=St.of [(0,Bx 90 b),(1,Ni k),(7,Hd 97 η7)] [(90,va b tYd y.now y.seq y.shelf e2 (jO (y.runs.set k r2)) e3),(91,H),(92,o 92),(93,o 93),(94,o 94),(95,o 95),(96,o 96),(97,.loose (jh ids) η7)]) (jj [some 90,some 91,some 92,some 93,some 94,some 95,some 96,some 7] (by simp only [go_sem,jU]<;>and_intros<;>first|rfl|assumption|trivial)) ?_
 rw [hR];refine jem 90 3 (k*8+5) 98 (η:=e3) (cs:=r2.plan.edges.flatMap jP) rfl (jaC hk 5 (by simp [jd,ja])) rfl (by decide) fun ηa ηA hA1 hA2 hA3=>?_
 rw [zT hk 5 (by simp [jd,ja])]
 refine jem 90 3 (k*8+7) 99 (η:=ηA) (cs:=r2.tasks.flatMap jn) rfl (jaC hk 7 (by simp [jd,ja])) rfl (by decide) fun ηb ηB hB1 hB2 hB3=>?_
 rw [zT hk 7 (by simp [jd,ja])]
 rw [←hA2,←hB2];rw [←hA2] at hA3;rw [←hB2] at hB3;have hV:((jd r2).set 5 (.val (ηa []))).set 7 (.val (ηb []))=rnV r2 (ηa []) (ηb []):=rfl;rw [hV];obtain ⟨dR,hdR⟩:∃dR,D.sl 8 tRn (jbt y.runs k (rnV r2 (ηa []) (ηb [])))=dR:=⟨_,rfl⟩;refine WkK.wk (s':=St.of [(0,Bx 90 b),(1,Ni k),(7,Hd 97 η7)] [(90,va b tYd y.now y.seq y.shelf e2 (.sl 8 tRn (jbt y.runs k (rnV r2 (ηa []) (ηb [])))) ηB),(91,H),(92,o 92),(93,o 93),(94,o 94),(95,o 95),(96,o 96),(97,.loose (jh ids) η7),(98,.loose (jy r2.plan.edges) ηa),(99,.loose (jI r2.tasks) ηb)]) (jj [some 90,some 91,some 92,some 93,some 94,some 95,some 96,some 97,some 98,some 99] (by simp only [go_sem,jU,jy,jI]<;>and_intros<;>first|rfl|assumption|trivial)) ?_
 refine WkK.of ?_;have hl1:(jbt y.runs k (rnV r2 (ηa []) (ηb []))).length=y.runs.length*8:=jig hk rfl;have ha1:((jbt y.runs k (rnV r2 (ηa []) (ηb []))).drop (k*8)).take 8=rnV r2 (ηa []) (ηb []):=js2 hk rfl;have hi8:k*8+8≤y.runs.length*8:=by omega
 have hdl:(D.sl 8 tRn (jbt y.runs k (rnV r2 (ηa []) (ηb [])))).len=y.runs.length:=jmV hk rfl;simp only [go_sem,hl1,hdl,ha1,hi8,hk,h0k,hA3,hB3,Nat.add_zero];refine kS (ql (β:=8000000) Tryz.func213 jcF (by simp) ?_)
 unfold jcS;simp only [go_sem,hA3,hB3];intro b74;refine jc (jaT r2.id) (by simp only [go_sem]) fun η=>?_
 simp only [go_sem];obtain ⟨hsn,hs4⟩:=jxD r2.id;rw [hsn];rw [hLY];generalize shN r2.id=n at*;have hn:n<y.shelf.length:=by omega
 have h0n:(n:Int)≥0:=by omega
 obtain ⟨l,hl⟩:=je hn;have hll:=vR ht (List.mem_of_getElem? hl);rw [hl,Option.getD_some];rw [hdR];refine jp (fun i:Nat×jq=>St.of [(0,Bx 90 b),(4,Bx 4 b74),(6,Ni n),(12,Hd 97 η7),(13,Ni ids.length),(14,Ni i.1)] [(90,va b tYd y.now (vP r2.plan.prio r2.id (ids.take i.1) (l,y.seq)).2 (y.shelf.set n (vP r2.plan.prio r2.id (ids.take i.1) (l,y.seq)).1) i.2 dR ηB),(91,H),(92,o 92),(93,o 93),(94,o 94),(95,o 95),(96,o 96),(97,.loose (jh ids) η7),(98,.loose (jy r2.plan.edges) ηa),(99,.loose (jI r2.tasks) ηb),(4,jn9 b74 tRn r2 (ηa []) (ηb []))]) (fun i=>i.1≤ids.length) (fun i=>ids.length-i.1) (0,e2) (by (try dsimp only);first|omega|(simp;done)|(and_intros<;>first|omega|simp)) (jj [some 90,some 91,some 92,some 93,some 94,some 95,some 96,some 97,some 98,some 99,some 800000400] (by simp only [go_sem,List.take_zero,je4,zS hl,jU]<;>and_intros<;>first|rfl|assumption|trivial)) ?_
 rintro ⟨i,η⟩ hi;dsimp only at hi;have hsq:=zw r2.plan.prio r2.id (ids.take i) (l,y.seq);have hle:=jde r2.plan.prio r2.id (ids.take i) (l,y.seq);have hnl:(ids.take i).length=i:=by rw [List.length_take];omega
 dsimp only at hsq hle;by_cases hlt:i<ids.length
 ·have hlt':(i:Int)<ids.length:=by omega
  have h0i:(i:Int)≥0:=by omega
  obtain ⟨x,hx⟩:=je hlt;have hsnoc:=je3 r2.plan.prio r2.id (ids.take i) x (l,y.seq);have hnx:ids.take (i+1)=ids.take i++[x]:=by rw [List.take_add_one,hx];rfl
  rw [←hnx] at hsnoc;have hw:IntKind.i64.wrap ((i:Int)+1)=((i+1:Nat):Int):=jg (by omega) (by omega)
  have hw2:IntKind.i64.wrap ((vP r2.plan.prio r2.id (ids.take i) (l,y.seq)).2+1)=(vP r2.plan.prio r2.id (ids.take i) (l,y.seq)).2+1:=jg (by omega) (by omega)
  generalize hPe:vP r2.plan.prio r2.id (ids.take i) (l,y.seq)=P at*;obtain ⟨sh,hsh⟩:∃s,y.shelf.set n P.1=s:=⟨_,rfl⟩;have hSl:sh[n]?=some P.1:=by rw [←hsh];exact List.getElem?_set_self hn
  have hns:n<sh.length:=by rw [←hsh,List.length_set];exact hn
  have hss:∀L,sh.set n L=y.shelf.set n L:=fun L=>by rw [←hsh,List.set_set]
  have hi1:n+1≤(sh.flatMap fun es=>[jm es]).length:=by have:=jaF hns;rwa [Nat.mul_one] at this
  have hb1:((sh.flatMap fun es=>[jm es]).drop n).take 1=[jm P.1]:=by have:=jbF hSl;rwa [Nat.mul_one] at this
  have hxi:i+1≤(ids.flatMap fun n=>[iv n]).length:=by have:=ji hlt;rwa [Nat.mul_one] at this
  have hxa:((ids.flatMap fun n=>[iv n]).drop i).take 1=[iv x]:=by have:=jk hx;rwa [Nat.mul_one] at this
  rw [hsh];simp only [go_sem,ja,jd,hlt',h0i,hlt,hxa,hxi,Nat.add_zero,hns,Nat.mul_one,hb1,hi1,h0n];refine jc (jaj P.1 ⟨r2.plan.prio,P.2,r2.id,x⟩ (by omega)) (by simp only [go_sem,jf,km hSl]) fun ηp=>?_
  simp only [go_sem,jf,km hSl];simp only [go_sem,hns,Nat.mul_one,hi1,hb1,h0n,jag,hw2,hw,hss,Nat.add_zero];refine fun η' hη'=>?_
  exact ⟨(i+1,η'),by (try dsimp only);first|omega|assumption|(and_intros<;>first|omega|assumption),(jj [some 90,some 91,some 92,some 93,some 94,some 95,some 96,some 97,some 98,some 99,some 4] (by simp only [go_sem,ja,jd,hsnoc,jU]<;>and_intros<;>first|rfl|assumption|trivial)),by (try dsimp only);omega⟩
 obtain rfl:i=ids.length:=by omega
 have hlt':¬((ids.length:Nat):Int)<ids.length:=by omega
 rw [List.take_length];generalize vP r2.plan.prio r2.id ids (l,y.seq)=P at*;subst hdR;simp only [go_sem,hlt'];refine WkK.wk (s':=St.of [] [(90,va b tYd y.now P.2 (y.shelf.set n P.1) η (.sl 8 tRn (jbt y.runs k (rnV r2 (ηa []) (ηb [])))) ηB),(91,H),(92,o 92),(93,o 93),(94,o 94),(95,o 95),(96,o 96),(98,.loose (jy r2.plan.edges) ηa),(99,.loose (jI r2.tasks) ηb)]) (jj [some 90,some 91,some 92,some 93,some 94,some 95,some 96,some 98,some 99] (by simp only [go_sem,jU]<;>and_intros<;>first|rfl|assumption)) ?_
 refine qw 90 3 (k*8+5) 98 (η:=ηB) (η2:=ηa) (cs:=r2.plan.edges.flatMap jP) rfl (jaC hk 5 (by simp)) (.inl rfl) rfl (by decide) fun ηD _=>?_
 rw [zT hk 5 (by simp)]
 refine qw 90 3 (k*8+7) 99 (η:=ηD) (η2:=ηb) (cs:=r2.tasks.flatMap jn) rfl (jaC hk 7 (by simp)) (.inl rfl) rfl (by decide) fun ηE _=>?_
 rw [zT hk 7 (by simp)]
 have hrow:(List.set (List.set (rnV r2 (ηa []) (ηb [])) 5 (.sl 2 tEd (r2.plan.edges.flatMap jP))) 7 (.sl 4 tTk (r2.tasks.flatMap jn)))=jd r2:=rfl;rw [hrow,jlr hk];refine WkK.of ?_;exact ⟨⟨η,ηE,rfl⟩,rfl,rfl,rfl,rfl,rfl,rfl⟩
def simAs:List AV→List AV→Prop
 |[],[]=>True
 |a::l,b::m=>a.sim b∧simAs l m
 |_,_=>False
theorem jsL:simAs [] []=True:=(rfl)
theorem jq3 (a b:AV) (l m:List AV):simAs (a::l) (b::m)=(a.sim b∧simAs l m):=(rfl)
theorem simAs.rel {B:Nat} {w:World}:∀{l m:List AV} {xs:List Value},simAs l m→jjK B w l xs→jjK B w m xs
 |[],[],_,_,h=>h
 |_::_,_::_,_,⟨h1,h2⟩,⟨x,xs',e,h3,h4⟩=>⟨x,xs',e,h1.rel h3,h2.rel h4⟩
theorem jyz {P:Program} {f:FuncId} {vs vs2:List AV} {o o2:Nat→Ob} {R:AV→(Nat→Ob)→Prop} (hw:Wk (.only o) (.only o2)) (hs:simAs vs vs2) (h:Inl P f vs2 o2 R):Inl P f vs o R:=
 ⟨h.1,fun B w F xs h1 h2=>by
  obtain ⟨F2,h3,_⟩:=hw _ _ _ _ _ _ h1;exact h.2 B w F2 xs h3 (hs.rel h2)⟩
theorem jaf {P:Program} {β:Nat} {s:St} {K:St→Prop} {d:Option Nat} {g:Option (Nat×Bool)} {f:Nat} {args:List X} {R:AV→(Nat→Ob)→Prop} (ks:List (Option Nat)) (O:List (Nat×Ob)) (vs2:List AV) (hs:simAs (args.map s.ev) vs2) (hf:jqf s ks O) (h:Inl P f vs2 (lkO O) R) (hk:∀av o',R av o'→K (St.put ⟨s.t,o'⟩ d av)) (hn:jjH (jqV ks)=true:=by decide):vg P β ⟨d,g,.call f args⟩ s K:=by
 refine kS (jyz (o2:=lkO O) ?_ hs (h.weak hk))
 have hf':∀{ks:List (Option Nat)} {O:List (Nat×Ob)},jqf s ks O→jqf (.only s.o) ks O:=by
  intro ks
  induction ks with
  |nil=>intro O h;cases O<;>first|exact h|exact h.elim
  |cons k ks ih=>
   intro O h;cases O with
   |nil=>cases k<;>exact h.elim
   |cons p O=>cases k<;>exact ⟨h.1,ih h.2⟩
 exact jj (s:=.only s.o) ks (T:=[]) ⟨trivial,hf' hf⟩ hn
attribute [go_sem] jsL jq3
def jdO:C:=iS [iA 3 (.box 37 4 (.t 0)),iA 5 (.box 108 8 (.t 2)),iA 6 (.alloc 37 [.int .i64 0,.int .i64 0,.slice none 0 0,.slice none 0 0])] (iS [iA 8 (iF 3 3),iA 9 (iL 8),iA 10 (iM 1),iA 11 (iI 8 9 10),iA 12 (iT 8 11),iA 7 (.alloc 108 [.int .i64 0,.int .i64 0,.int .i64 0,.int .i64 0,.int .i64 0,.slice none 0 0,.int .i64 0,.slice none 0 0]),iC (.st 8 [none,none,none,none,none,some (2,253),none,some (4,172)] (.t 7) (.t 12))] (iS [iA 13 (iF 3 3),iA 14 (iL 13),iA 15 (iM 1),iA 16 (iT 8 5),iA 17 (iI 8 14 15),iC (.st 8 [none,none,none,none,none,some (2,253),none,some (4,172)] (.t 17) (.t 16))] (iS [iA 18 (iT 4 3),iA 19 (iT 8 7),iA 20 (iT 8 5),iA 21 (.call 189 [.t 18,.t 19,.t 20]),iC (.st 4 [none,none,some (1,102),some (8,108)] (.t 6) (.t 21))] .ret)))
theorem jgu:fnC Tryz.prog Tryz.f197=some (jdO,[.cell 6 true 4],22):=by kernel_rfl
abbrev jf4 (b ty:Nat) (now seq:Int) (x2 x3:Value):Ob:=.box b ty [.a (.v (.int .i64 now)),.a (.v (.int .i64 seq)),.a (.v x2),.a (.v x3)]
theorem je8 {k b:Nat} {y:Yd} {r r2:Rn} (hr:y.runs[k]?=some r) (hrl:r2.tasks.length=r.tasks.length) (hr12:r.tasks.length≤12) (h4:y.shelf.length=4) (hq:1≤y.seq∧y.seq≤4000000000) (ht:jK y≤2000000)
 {o:Nat→Ob} {η2 η3 η5 η7:jq} (h90:o 90=kt b tYd y.now y.seq y.shelf η2 y.runs η3) (h97:o 97=.loose (jy r2.plan.edges) η5) (h98:o 98=.loose (jI r2.tasks) η7):
 Inl Tryz.prog 197 [.agg [.v (.int .i64 y.now),.v (.int .i64 y.seq),.h 90 2 [] (η2 []),.h 90 3 [] (η3 [])],Ni k,.agg [.v (.int .i64 r2.id),.v (.int .i64 r2.plan.prio),.v (.int .i64 r2.plan.most),.v (.int .i64 r2.plan.wait),.v (.int .i64 r2.plan.tasks),.h 97 0 [] (η5 []),.v (.int .i64 r2.state),.h 98 0 [] (η7 [])]] o
  fun av o'=>∃c e2 e3 x2 x3,av=.agg [.v (.int .i64 (kL y k r2).now),.v (.int .i64 (kL y k r2).seq),.h 66 2 [] (e2 []),.h 66 3 [] (e3 [])]∧o' 66=kt c tYd (kL y k r2).now (kL y k r2).seq (kL y k r2).shelf e2 (kL y k r2).runs e3∧o' 90=jf4 b tYd y.now y.seq x2 x3∧o' 91=o 91∧o' 92=o 92∧o' 93=o 93∧o' 94=o 94∧o' 95=o 95∧o' 96=o 96:=by
 have hk:=(List.getElem?_eq_some_iff.1 hr).1;have h0k:(k:Int)≥0:=by omega
 refine jtP ?_;refine jkQ (β:=5000000) [[1,0],[1,1,0],[1,1,1,0],[1,1,1,1]] Tryz.func197 jgu (by simp) ?_
 unfold jdO;simp only [C.ghs,C.ghAt,List.foldr];simp only [go_sem,h90,h97,h98];intro c3 c5 c6;refine kX ?_;have hR:jO y.runs=.sl 8 tRn (jbt y.runs k (jd r)):=by rw [jO,jls hr]
 refine WkK.wk (s':=St.of [(1,Ni k),(3,Bx 3 c3),(5,Bx 5 c5),(6,Bx 66 c6)] [(90,jf4 b tYd y.now y.seq (η2 []) (η3 [])),(91,o 91),(92,o 92),(93,o 93),(94,o 94),(95,o 95),(96,o 96),(3,va c3 _ y.now y.seq y.shelf η2 (jO y.runs) η3),(5,jap c5 _ r2 η5 η7),(66,ZYd c6 _)]) (jj [some 90,some 91,some 92,some 93,some 94,some 95,some 96,some 500000300,some 500000500,some 500000600] (by simp only [go_sem,jb,ja,jd,jU,h90]<;>and_intros<;>first|rfl|assumption|trivial)) ?_
 rw [hR];refine jem 3 3 (k*8+5) 901 (η:=η3) (cs:=r.plan.edges.flatMap jP) rfl (jaC hk 5 (by simp [jd,ja])) rfl (by decide) fun ηa ηA hA1 hA2 hA3=>?_
 rw [zT hk 5 (by simp [jd,ja])]
 refine jem 3 3 (k*8+7) 902 (η:=ηA) (cs:=r.tasks.flatMap jn) rfl (jaC hk 7 (by simp [jd,ja])) rfl (by decide) fun ηb ηB hB1 hB2 hB3=>?_
 rw [zT hk 7 (by simp [jd,ja])]
 rw [←hA2,←hB2];rw [←hA2] at hA3;rw [←hB2] at hB3;have hV:((jd r).set 5 (.val (ηa []))).set 7 (.val (ηb []))=rnV r (ηa []) (ηb []):=rfl;rw [hV];refine WkK.wk (s':=St.of [(1,Ni k),(3,Bx 3 c3),(5,Bx 5 c5),(6,Bx 66 c6)] [(90,jf4 b tYd y.now y.seq (η2 []) (η3 [])),(91,o 91),(92,o 92),(93,o 93),(94,o 94),(95,o 95),(96,o 96),(3,va c3 _ y.now y.seq y.shelf η2 (.sl 8 tRn (jbt y.runs k (rnV r (ηa []) (ηb [])))) ηB),(5,jap c5 _ r2 η5 η7),(66,ZYd c6 _),(901,.loose (jy r.plan.edges) ηa),(902,.loose (jI r.tasks) ηb)]) (jj [some 90,some 91,some 92,some 93,some 94,some 95,some 96,some 3,some 5,some 66,some 901,some 902] (by simp only [go_sem,jb,ja,jd,jU]<;>and_intros<;>first|rfl|assumption|trivial)) ?_
 refine WkK.of ?_;have hl1:(jbt y.runs k (rnV r (ηa []) (ηb []))).length=y.runs.length*8:=jig hk rfl;have hd8:y.runs.length*8/8=y.runs.length:=Nat.mul_div_cancel _ (by decide)
 have ha1:((jbt y.runs k (rnV r (ηa []) (ηb []))).drop (k*8)).take 8=rnV r (ηa []) (ηb []):=js2 hk rfl;have hi8:k*8+8≤y.runs.length*8:=by omega
 have hdl:(D.sl 8 tRn (jbt y.runs k (rnV r (ηa []) (ηb [])))).len=y.runs.length:=jmV hk rfl;simp only [go_sem,hl1,hdl,ha1,hi8,hk,h0k,hA3,hB3];intro c7;refine kX ?_;refine WkK.wk (s':=St.of [(1,Ni k),(3,Bx 3 c3),(5,Bx 5 c5),(6,Bx 66 c6),(7,Bx 7 c7)] [(90,jf4 b tYd y.now y.seq (η2 []) (η3 [])),(91,o 91),(92,o 92),(93,o 93),(94,o 94),(95,o 95),(96,o 96),(3,va c3 _ y.now y.seq y.shelf η2 (.sl 8 tRn (jbt y.runs k (rnV r (ηa []) (ηb [])))) ηB),(5,jap c5 _ r2 η5 η7),(66,ZYd c6 _),(7,jn9 c7 _ r (ηa []) (ηb [])),(901,.loose (jy r.plan.edges) ηa),(902,.loose (jI r.tasks) ηb)]) (jj [some 90,some 91,some 92,some 93,some 94,some 95,some 96,some 3,some 5,some 66,some 500000700,some 901,some 902] (by simp only [go_sem,jb,ja,jd,jU]<;>and_intros<;>first|rfl|assumption|trivial)) ?_
 refine qM 7 5 901 (d:=jy r.plan.edges) (η:=ηa) rfl rfl rfl ?_;refine qM 7 7 902 (d:=jI r.tasks) (η:=ηb) rfl rfl rfl ?_;refine qH 5 5 903 (d:=jy r2.plan.edges) (η:=η5) rfl rfl (by decide) fun hx5=>?_
 refine qH 5 7 904 (d:=jI r2.tasks) (η:=η7) rfl rfl (by decide) fun hx7=>?_
 refine WkK.of ?_;simp only [go_sem,hl1,hdl,ha1,hi8,hk,h0k,hx5,hx7];refine jxA fun ηC=>?_
 have hput:D.put [] (k*8) (rnH r2 (η5 []) (η7 [])) (.sl 8 tRn (jbt y.runs k (rnV r (ηa []) (ηb []))))=.sl 8 tRn (jbt y.runs k (rnH r2 (η5 []) (η7 []))):=by
  simp only [D.put];rw [jvt hk rfl rfl]
 refine kX ?_;refine WkK.wk (s':=St.of [(1,Ni k),(3,Bx 3 c3),(5,Bx 5 c5),(6,Bx 66 c6),(7,Bx 7 c7)] [(90,jf4 b tYd y.now y.seq (η2 []) (η3 [])),(91,o 91),(92,o 92),(93,o 93),(94,o 94),(95,o 95),(96,o 96),(3,va c3 _ y.now y.seq y.shelf η2 (.sl 8 tRn (jbt y.runs k (rnH r2 (η5 []) (η7 [])))) ηC),(5,jn9 c5 _ r2 (η5 []) (η7 [])),(66,ZYd c6 _),(7,jap c7 _ r ηa ηb),(903,.loose (jy r2.plan.edges) η5),(904,.loose (jI r2.tasks) η7)]) (jj [some 90,some 91,some 92,some 93,some 94,some 95,some 96,some 3,some 5,some 66,some 7,some 903,some 904] (by simp only [go_sem,jb,ja,jd,hput,jU]<;>and_intros<;>first|rfl|assumption|trivial)) ?_
 refine qM 5 5 903 (d:=jy r2.plan.edges) (η:=η5) rfl rfl rfl ?_;refine qM 5 7 904 (d:=jI r2.tasks) (η:=η7) rfl rfl rfl ?_;generalize hdR:D.sl 8 tRn (jbt y.runs k (rnH r2 (η5 []) (η7 [])))=dR at*;refine WkK.wk (s':=St.of [(1,Ni k),(3,Bx 3 c3),(5,Bx 5 c5),(6,Bx 66 c6),(7,Bx 7 c7)] [(90,jf4 b tYd y.now y.seq (η2 []) (η3 [])),(91,o 91),(92,o 92),(93,o 93),(94,o 94),(95,o 95),(96,o 96),(3,va c3 _ y.now y.seq y.shelf η2 dR ηC),(5,jap c5 _ r2 η5 η7),(66,ZYd c6 _),(7,jap c7 _ r ηa ηb)]) (jj [some 90,some 91,some 92,some 93,some 94,some 95,some 96,some 3,some 5,some 66,some 7] (by simp only [go_sem,jb,ja,jd,jU]<;>and_intros<;>first|rfl|assumption|trivial)) ?_
 refine WkK.of ?_;simp only [go_sem,jb,ja,jd];refine kS (ql (β:=7000000) Tryz.func189 jbM (by simp) ?_)
 unfold jbC;simp only [go_sem,jf,jn];intro d3 d4 d5 d6;refine jc (jaR r2.id) (by simp only [go_sem,jd,ja]) fun η=>?_
 simp only [go_sem,jd,ja];obtain ⟨hsn,hs4⟩:=jxD r2.id;rw [hsn];have hLY:kL y k r2=⟨y.now,(vP r2.plan.prio r2.id (vO r.tasks r2.tasks r2.tasks.length) ((y.shelf[shN r2.id]?).getD default,y.seq)).2,y.shelf.set (shN r2.id) (vP r2.plan.prio r2.id (vO r.tasks r2.tasks r2.tasks.length) ((y.shelf[shN r2.id]?).getD default,y.seq)).1,y.runs.set k r2⟩:=by rw [kL,hr,Option.getD_some];rfl
 rw [hLY];generalize shN r2.id=n at*;have hn:n<y.shelf.length:=by omega
 have h0n:(n:Int)≥0:=by omega
 obtain ⟨l,hl⟩:=je hn;have hll:=vR ht (List.mem_of_getElem? hl);rw [hl,Option.getD_some];refine jp (fun i:Nat×jq=>St.of [(3,Bx 3 d3),(4,Bx 4 d4),(5,Bx 5 d5),(6,Bx 6 d6),(7,Ni n),(8,Ni i.1)] [(90,jf4 b tYd y.now y.seq (η2 []) (η3 [])),(91,o 91),(92,o 92),(93,o 93),(94,o 94),(95,o 95),(96,o 96),(66,ZYd c6 _),(3,va d3 _ y.now (vP r2.plan.prio r2.id (vO r.tasks r2.tasks i.1) (l,y.seq)).2 (y.shelf.set n (vP r2.plan.prio r2.id (vO r.tasks r2.tasks i.1) (l,y.seq)).1) i.2 dR ηC),(4,jap d4 _ r ηa ηb),(5,jap d5 _ r2 η5 η7),(6,ZYd d6 _)]) (fun i=>i.1≤r2.tasks.length) (fun i=>r2.tasks.length-i.1) (0,η2) (by (try dsimp only);first|omega|(simp;done)|(and_intros<;>first|omega|simp)) (jj [some 90,some 91,some 92,some 93,some 94,some 95,some 96,some 66,some 700000300,some 700000400,some 700000500,some 700000600] (by simp only [go_sem,jb,ja,jd,jwZ,je4,zS hl,jU]<;>and_intros<;>first|rfl|assumption|trivial)) ?_
 rintro ⟨j,η⟩ hj;dsimp only at hj;have hsq:=zw r2.plan.prio r2.id (vO r.tasks r2.tasks j) (l,y.seq);have hle:=jde r2.plan.prio r2.id (vO r.tasks r2.tasks j) (l,y.seq);have hnl:=jdb r.tasks r2.tasks j;have hsnoc:=je3 r2.plan.prio r2.id (vO r.tasks r2.tasks j) j (l,y.seq);have hnx:=jwY r.tasks r2.tasks j;dsimp only at hsq hle;by_cases hlt:j<r2.tasks.length
 ·have hlt':(j:Int)<r2.tasks.length:=by omega
  have hltw:j<r.tasks.length:=by omega
  have hltw':(j:Int)<r.tasks.length:=by omega
  have h0j:(j:Int)≥0:=by omega
  obtain ⟨x,hx⟩:=je hlt;obtain ⟨z,hz⟩:=je hltw;have hw:IntKind.i64.wrap ((j:Int)+1)=((j+1:Nat):Int):=jg (by omega) (by omega)
  rw [jyf hx hz] at hnx;have hw2:IntKind.i64.wrap ((vP r2.plan.prio r2.id (vO r.tasks r2.tasks j) (l,y.seq)).2+1)=(vP r2.plan.prio r2.id (vO r.tasks r2.tasks j) (l,y.seq)).2+1:=jg (by omega) (by omega)
  generalize hPe:vP r2.plan.prio r2.id (vO r.tasks r2.tasks j) (l,y.seq)=P at*;obtain ⟨sh,hsh⟩:∃s,y.shelf.set n P.1=s:=⟨_,rfl⟩;have hSl:sh[n]?=some P.1:=by rw [←hsh];exact List.getElem?_set_self hn
  have hns:n<sh.length:=by rw [←hsh,List.length_set];exact hn
  have hss:∀L,sh.set n L=y.shelf.set n L:=fun L=>by rw [←hsh,List.set_set]
  have hi1:n+1≤(sh.flatMap fun es=>[jm es]).length:=by have:=jaF hns;rwa [Nat.mul_one] at this
  have hb1:((sh.flatMap fun es=>[jm es]).drop n).take 1=[jm P.1]:=by have:=jbF hSl;rwa [Nat.mul_one] at this
  rw [hsh];cases h2:x.state !=2
  ·have h2':(x.state==2)=true:=by have:x.state=2:=by simpa using h2
                                  simp [this]
   rw [h2',Bool.true_and] at hnx;cases h3:z.state==2
   ·rw [h3,Bool.not_false,if_pos rfl] at hnx
    rw [←hnx] at hsnoc;simp only [go_sem,ja,jd,jn,hlt',h0j,hlt,hltw,hltw',zP hx,vn hx,vY hx,qy hx,zP hz,vn hz,vY hz,qy hz,h2,h3];simp only [go_sem,hns,Nat.mul_one,hb1,hi1,h0n];refine jc (jai P.1 ⟨r2.plan.prio,P.2,r2.id,j⟩ (by omega)) (by simp only [go_sem,jf,km hSl]) fun ηp=>?_
    simp only [go_sem,jf,km hSl];simp only [go_sem,hns,Nat.mul_one,hi1,hb1,h0n,jag,hw2,hw,hss];refine fun η' hη'=>?_
    exact ⟨(j+1,η'),by (try dsimp only);first|omega|assumption|(and_intros<;>first|omega|assumption),(jj [some 90,some 91,some 92,some 93,some 94,some 95,some 96,some 66,some 3,some 4,some 5,some 6] (by simp only [go_sem,jb,ja,jd,hsnoc,jU]<;>and_intros<;>first|rfl|assumption|trivial)),by (try dsimp only);omega⟩
   ·rw [h3,Bool.not_true,if_neg (by decide),List.append_nil] at hnx
    simp only [go_sem,ja,jd,jn,hlt',h0j,hlt,hltw,hltw',zP hx,vn hx,vY hx,qy hx,zP hz,vn hz,vY hz,qy hz,h2,h3,hw];exact ⟨(j+1,η),by (try dsimp only);first|omega|assumption|(and_intros<;>first|omega|assumption),(jj [some 90,some 91,some 92,some 93,some 94,some 95,some 96,some 66,some 3,some 4,some 5,some 6] (by simp only [go_sem,jb,ja,jd,hnx,hPe,hsh,jU]<;>and_intros<;>first|rfl|assumption|trivial)),by (try dsimp only);omega⟩
  ·have h2':(x.state==2)=false:=by simpa using h2
   rw [h2',Bool.false_and,if_neg (by decide),List.append_nil] at hnx
   simp only [go_sem,ja,jd,jn,hlt',h0j,hlt,zP hx,vn hx,vY hx,qy hx,h2,hw];exact ⟨(j+1,η),by (try dsimp only);first|omega|assumption|(and_intros<;>first|omega|assumption),(jj [some 90,some 91,some 92,some 93,some 94,some 95,some 96,some 66,some 3,some 4,some 5,some 6] (by simp only [go_sem,jb,ja,jd,hnx,hPe,hsh,jU]<;>and_intros<;>first|rfl|assumption|trivial)),by (try dsimp only);omega⟩
 obtain rfl:j=r2.tasks.length:=by omega
 have hlt':¬((r2.tasks.length:Nat):Int)<r2.tasks.length:=by omega
 generalize vP r2.plan.prio r2.id (vO r.tasks r2.tasks r2.tasks.length) (l,y.seq)=P at*;simp only [go_sem,hlt',ja,jd];refine kX ?_;subst hdR;refine WkK.wk (s':=St.of [(6,Bx 66 c6)] [(90,jf4 b tYd y.now y.seq (η2 []) (η3 [])),(91,o 91),(92,o 92),(93,o 93),(94,o 94),(95,o 95),(96,o 96),(66,va c6 _ y.now P.2 (y.shelf.set n P.1) η (.sl 8 tRn (jbt y.runs k (rnH r2 (η5 []) (η7 [])))) ηC),(5,jap d5 _ r2 η5 η7)]) (jj [some 90,some 91,some 92,some 93,some 94,some 95,some 96,some 66,some 5] (by simp only [go_sem,ja,jd,jU]<;>and_intros<;>first|rfl|assumption|trivial)) ?_
 refine qH 5 5 901 (d:=jy r2.plan.edges) (η:=η5) rfl rfl (by decide) fun _=>?_
 refine qH 5 7 902 (d:=jI r2.tasks) (η:=η7) rfl rfl (by decide) fun _=>?_
 refine qw 66 3 (k*8+5) 901 (η:=ηC) (η2:=η5) (cs:=r2.plan.edges.flatMap jP) rfl (jaC hk 5 (by simp)) (.inr rfl) rfl (by decide) fun ηD _=>?_
 rw [zT hk 5 (by simp)]
 refine qw 66 3 (k*8+7) 902 (η:=ηD) (η2:=η7) (cs:=r2.tasks.flatMap jn) rfl (jaC hk 7 (by simp)) (.inr rfl) rfl (by decide) fun ηE _=>?_
 rw [zT hk 7 (by simp)]
 have hrow:(List.set (List.set (rnH r2 (η5 []) (η7 [])) 5 (.sl 2 tEd (r2.plan.edges.flatMap jP))) 7 (.sl 4 tTk (r2.tasks.flatMap jn)))=jd r2:=rfl;rw [hrow,jlr hk];refine WkK.of ?_;simp only [go_sem,jb];refine WkK.wk (s':=St.of [] [(66,kt c6 tYd y.now P.2 (y.shelf.set n P.1) η (y.runs.set k r2) ηE),(90,jf4 b tYd y.now y.seq (η2 []) (η3 [])),(91,o 91),(92,o 92),(93,o 93),(94,o 94),(95,o 95),(96,o 96)]) (jj [some 66,some 90,some 91,some 92,some 93,some 94,some 95,some 96] (by simp only [go_sem,jU]<;>and_intros<;>first|rfl|assumption)) ?_
 refine WkK.of ⟨c6,η,ηE,η2 [],η3 [],rfl,rfl,rfl,rfl,rfl,rfl,rfl,rfl,rfl⟩
end Go.Proofs.YtmnpailnelmpiaaGreat
