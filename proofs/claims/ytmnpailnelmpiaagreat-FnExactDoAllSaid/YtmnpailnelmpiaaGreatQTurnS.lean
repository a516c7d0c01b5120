/- Parts. -/
import Derived.Test.YtmnpailnelmpiaaGreatQTurnP
set_option linter.unusedSimpArgs false
set_option linter.unusedVariables false
set_option maxHeartbeats 8000000
set_option maxRecDepth 100000
namespace Go.Proofs.YtmnpailnelmpiaaGreat
open Go.RowKit Go.Sort
def simAs:List AV→List AV→Prop
 |[],[]=>True
 |a::l,b::m=>a.sim b∧simAs l m
 |_,_=>False
theorem jsl:simAs [] []=True:=(rfl)
theorem jp9 (a b:AV) (l m:List AV):simAs (a::l) (b::m)=(a.sim b∧simAs l m):=(rfl)
theorem simAs.rel {B:Nat} {w:World}:∀{l m:List AV} {xs:List Value},simAs l m→jje B w l xs→jje B w m xs
 |[],[],_,_,h=>h
 |_::_,_::_,_,⟨h1,h2⟩,⟨x,xs',e,h3,h4⟩=>⟨x,xs',e,h1.rel h3,h2.rel h4⟩
theorem jyt {P:Program} {f:FuncId} {vs vs2:List AV} {o o2:Nat→Ob} {R:AV→(Nat→Ob)→Prop} (hw:Wk (.only o) (.only o2)) (hs:simAs vs vs2) (h:Inl P f vs2 o2 R):Inl P f vs o R:=
 ⟨h.1,fun B w F xs h1 h2=>by
  obtain ⟨F2,h3,_⟩:=hw _ _ _ _ _ _ h1;exact h.2 B w F2 xs h3 (hs.rel h2)⟩
theorem jbd {P:Program} {β:Nat} {s:St} {K:St→Prop} {d:Option Nat} {g:Option (Nat×Bool)} {f:Nat} {args:List X} {R:AV→(Nat→Ob)→Prop} (ks:List (Option Nat)) (O:List (Nat×Ob)) (vs2:List AV) (hs:simAs (args.map s.ev) vs2) (hf:jra s ks O) (h:Inl P f vs2 (lkO O) R) (hk:∀av o',R av o'→K (St.put ⟨s.t,o'⟩ d av)) (hn:jkt (jsa ks)=true:=by decide):qV P β ⟨d,g,.call f args⟩ s K:=by
 refine kS (jyt (o2:=lkO O) ?_ hs (h.weak hk))
 have hf':∀{ks:List (Option Nat)} {O:List (Nat×Ob)},jra s ks O→jra (.only s.o) ks O:=by
  intro ks
  induction ks with
  |nil=>intro O h;cases O<;>first|exact h|exact h.elim
  |cons k ks ih=>
   intro O h;cases O with
   |nil=>cases k<;>exact h.elim
   |cons p O=>cases k<;>exact ⟨h.1,ih h.2⟩
 exact jk (s:=.only s.o) ks (T:=[]) ⟨trivial,hf' hf⟩ hn
attribute [go_sem] jsl jp9
def jdn:C:=iS [iA 3 (.box 37 4 (.t 0)),iA 5 (.box 108 8 (.t 2)),iA 6 (.alloc 37 [.int .i64 0,.int .i64 0,.slice none 0 0,.slice none 0 0])] (iS [iA 8 (iF 3 3),iA 9 (iL 8),iA 10 (iM 1),iA 11 (iI 8 9 10),iA 12 (iT 8 11),iA 7 (.alloc 108 [.int .i64 0,.int .i64 0,.int .i64 0,.int .i64 0,.int .i64 0,.slice none 0 0,.int .i64 0,.slice none 0 0]),iC (.st 8 [none,none,none,none,none,some (2,253),none,some (4,172)] (.t 7) (.t 12))] (iS [iA 13 (iF 3 3),iA 14 (iL 13),iA 15 (iM 1),iA 16 (iT 8 5),iA 17 (iI 8 14 15),iC (.st 8 [none,none,none,none,none,some (2,253),none,some (4,172)] (.t 17) (.t 16))] (iS [iA 18 (iT 4 3),iA 19 (iT 8 7),iA 20 (iT 8 5),iA 21 (.call 189 [.t 18,.t 19,.t 20]),iC (.st 4 [none,none,some (1,102),some (8,108)] (.t 6) (.t 21))] .ret)))
theorem jf5:fnC Tryz.prog Tryz.f197=some (jdn,[.cell 6 true 4],22):=by kernel_rfl
abbrev jfE (b ty:Nat) (now seq:Int) (x2 x3:Value):Ob:=.box b ty [.a (.v (.int .i64 now)),.a (.v (.int .i64 seq)),.a (.v x2),.a (.v x3)]
theorem jeI {k b:Nat} {y:Yd} {r r2:Rn} (hr:y.runs[k]?=some r) (hrl:r2.tasks.length=r.tasks.length) (hr12:r.tasks.length≤12) (h4:y.shelf.length=4) (hq:1≤y.seq∧y.seq≤4000000000) (ht:jt y≤2000000)
 {o:Nat→Ob} {η2 η3 η5 η7:jp} (h90:o 90=ky b tYd y.now y.seq y.shelf η2 y.runs η3) (h97:o 97=.loose (jB r2.plan.edges) η5) (h98:o 98=.loose (jw r2.tasks) η7):
 Inl Tryz.prog 197 [.agg [.v (.int .i64 y.now),.v (.int .i64 y.seq),.h 90 2 [] (η2 []),.h 90 3 [] (η3 [])],Ni k,.agg [.v (.int .i64 r2.id),.v (.int .i64 r2.plan.prio),.v (.int .i64 r2.plan.most),.v (.int .i64 r2.plan.wait),.v (.int .i64 r2.plan.tasks),.h 97 0 [] (η5 []),.v (.int .i64 r2.state),.h 98 0 [] (η7 [])]] o
  fun av o'=>∃c e2 e3 x2 x3,av=.agg [.v (.int .i64 (qd y k r2).now),.v (.int .i64 (qd y k r2).seq),.h 66 2 [] (e2 []),.h 66 3 [] (e3 [])]∧o' 66=ky c tYd (qd y k r2).now (qd y k r2).seq (qd y k r2).shelf e2 (qd y k r2).runs e3∧o' 90=jfE b tYd y.now y.seq x2 x3∧o' 91=o 91∧o' 92=o 92∧o' 93=o 93∧o' 94=o 94∧o' 95=o 95∧o' 96=o 96:=by
 have hk:=(List.getElem?_eq_some_iff.1 hr).1;have h0k:(k:Int)≥0:=by omega
 refine jtt ?_;refine jtu (β:=5000000) [[1,0],[1,1,0],[1,1,1,0],[1,1,1,1]] Tryz.func197 jf5 (by simp) ?_
 unfold jdn;simp only [C.ghs,C.ghAt,List.foldr];simp only [go_sem,h90,h97,h98];intro c3 c5 c6;refine vl ?_;have hR:jM y.runs=.sl 8 tRn (jbe y.runs k (jd r)):=by rw [jM,jkQ hr]
 refine WkK.wk (s':=St.of [(1,Ni k),(3,Bx 3 c3),(5,Bx 5 c5),(6,Bx 66 c6)] [(90,jfE b tYd y.now y.seq (η2 []) (η3 [])),(91,o 91),(92,o 92),(93,o 93),(94,o 94),(95,o 95),(96,o 96),(3,qZ c3 _ y.now y.seq y.shelf η2 (jM y.runs) η3),(5,jar c5 _ r2 η5 η7),(66,ZYd c6 _)]) (jk [some 90,some 91,some 92,some 93,some 94,some 95,some 96,some 500000300,some 500000500,some 500000600] (by simp only [go_sem,jb,ja,jd,jQ,h90]<;>and_intros<;>first|rfl|assumption|trivial)) ?_
 rw [hR];refine jdO 3 3 (k*8+5) 901 (η:=η3) (cs:=r.plan.edges.flatMap jI) rfl (jaB hk 5 (by simp [jd,ja])) rfl (by decide) fun ηa ηA hA1 hA2 hA3=>?_
 rw [zU hk 5 (by simp [jd,ja])]
 refine jdO 3 3 (k*8+7) 902 (η:=ηA) (cs:=r.tasks.flatMap jn) rfl (jaB hk 7 (by simp [jd,ja])) rfl (by decide) fun ηb ηB hB1 hB2 hB3=>?_
 rw [zU hk 7 (by simp [jd,ja])]
 rw [←hA2,←hB2];rw [←hA2] at hA3;rw [←hB2] at hB3;have hV:((jd r).set 5 (.val (ηa []))).set 7 (.val (ηb []))=rnV r (ηa []) (ηb []):=rfl;rw [hV];refine WkK.wk (s':=St.of [(1,Ni k),(3,Bx 3 c3),(5,Bx 5 c5),(6,Bx 66 c6)] [(90,jfE b tYd y.now y.seq (η2 []) (η3 [])),(91,o 91),(92,o 92),(93,o 93),(94,o 94),(95,o 95),(96,o 96),(3,qZ c3 _ y.now y.seq y.shelf η2 (.sl 8 tRn (jbe y.runs k (rnV r (ηa []) (ηb [])))) ηB),(5,jar c5 _ r2 η5 η7),(66,ZYd c6 _),(901,.loose (jB r.plan.edges) ηa),(902,.loose (jw r.tasks) ηb)]) (jk [some 90,some 91,some 92,some 93,some 94,some 95,some 96,some 3,some 5,some 66,some 901,some 902] (by simp only [go_sem,jb,ja,jd,jQ]<;>and_intros<;>first|rfl|assumption|trivial)) ?_
 refine WkK.of ?_;have hl1:(jbe y.runs k (rnV r (ηa []) (ηb []))).length=y.runs.length*8:=jhO hk rfl;have hd8:y.runs.length*8/8=y.runs.length:=Nat.mul_div_cancel _ (by decide)
 have ha1:((jbe y.runs k (rnV r (ηa []) (ηb []))).drop (k*8)).take 8=rnV r (ηa []) (ηb []):=jsF hk rfl;have hi8:k*8+8≤y.runs.length*8:=by omega
 have hdl:(D.sl 8 tRn (jbe y.runs k (rnV r (ηa []) (ηb [])))).len=y.runs.length:=jmd hk rfl;simp only [go_sem,hl1,hdl,ha1,hi8,hk,h0k,hA3,hB3];intro c7;refine vl ?_;refine WkK.wk (s':=St.of [(1,Ni k),(3,Bx 3 c3),(5,Bx 5 c5),(6,Bx 66 c6),(7,Bx 7 c7)] [(90,jfE b tYd y.now y.seq (η2 []) (η3 [])),(91,o 91),(92,o 92),(93,o 93),(94,o 94),(95,o 95),(96,o 96),(3,qZ c3 _ y.now y.seq y.shelf η2 (.sl 8 tRn (jbe y.runs k (rnV r (ηa []) (ηb [])))) ηB),(5,jar c5 _ r2 η5 η7),(66,ZYd c6 _),(7,jnt c7 _ r (ηa []) (ηb [])),(901,.loose (jB r.plan.edges) ηa),(902,.loose (jw r.tasks) ηb)]) (jk [some 90,some 91,some 92,some 93,some 94,some 95,some 96,some 3,some 5,some 66,some 500000700,some 901,some 902] (by simp only [go_sem,jb,ja,jd,jQ]<;>and_intros<;>first|rfl|assumption|trivial)) ?_
 refine vq 7 5 901 (d:=jB r.plan.edges) (η:=ηa) rfl rfl rfl ?_;refine vq 7 7 902 (d:=jw r.tasks) (η:=ηb) rfl rfl rfl ?_;refine vm 5 5 903 (d:=jB r2.plan.edges) (η:=η5) rfl rfl (by decide) fun hx5=>?_
 refine vm 5 7 904 (d:=jw r2.tasks) (η:=η7) rfl rfl (by decide) fun hx7=>?_
 refine WkK.of ?_;simp only [go_sem,hl1,hdl,ha1,hi8,hk,h0k,hx5,hx7];refine jxs fun ηC=>?_
 have hput:D.put [] (k*8) (rnH r2 (η5 []) (η7 [])) (.sl 8 tRn (jbe y.runs k (rnV r (ηa []) (ηb []))))=.sl 8 tRn (jbe y.runs k (rnH r2 (η5 []) (η7 []))):=by
  simp only [D.put];rw [jvj hk rfl rfl]
 refine vl ?_;refine WkK.wk (s':=St.of [(1,Ni k),(3,Bx 3 c3),(5,Bx 5 c5),(6,Bx 66 c6),(7,Bx 7 c7)] [(90,jfE b tYd y.now y.seq (η2 []) (η3 [])),(91,o 91),(92,o 92),(93,o 93),(94,o 94),(95,o 95),(96,o 96),(3,qZ c3 _ y.now y.seq y.shelf η2 (.sl 8 tRn (jbe y.runs k (rnH r2 (η5 []) (η7 [])))) ηC),(5,jnt c5 _ r2 (η5 []) (η7 [])),(66,ZYd c6 _),(7,jar c7 _ r ηa ηb),(903,.loose (jB r2.plan.edges) η5),(904,.loose (jw r2.tasks) η7)]) (jk [some 90,some 91,some 92,some 93,some 94,some 95,some 96,some 3,some 5,some 66,some 7,some 903,some 904] (by simp only [go_sem,jb,ja,jd,hput,jQ]<;>and_intros<;>first|rfl|assumption|trivial)) ?_
 refine vq 5 5 903 (d:=jB r2.plan.edges) (η:=η5) rfl rfl rfl ?_;refine vq 5 7 904 (d:=jw r2.tasks) (η:=η7) rfl rfl rfl ?_;generalize hdR:D.sl 8 tRn (jbe y.runs k (rnH r2 (η5 []) (η7 [])))=dR at*;refine WkK.wk (s':=St.of [(1,Ni k),(3,Bx 3 c3),(5,Bx 5 c5),(6,Bx 66 c6),(7,Bx 7 c7)] [(90,jfE b tYd y.now y.seq (η2 []) (η3 [])),(91,o 91),(92,o 92),(93,o 93),(94,o 94),(95,o 95),(96,o 96),(3,qZ c3 _ y.now y.seq y.shelf η2 dR ηC),(5,jar c5 _ r2 η5 η7),(66,ZYd c6 _),(7,jar c7 _ r ηa ηb)]) (jk [some 90,some 91,some 92,some 93,some 94,some 95,some 96,some 3,some 5,some 66,some 7] (by simp only [go_sem,jb,ja,jd,jQ]<;>and_intros<;>first|rfl|assumption|trivial)) ?_
 refine WkK.of ?_;simp only [go_sem,jb,ja,jd];refine kS (qY (β:=7000000) Tryz.func189 jbx (by simp) ?_)
 unfold jbp;simp only [go_sem,jf,jn];intro d3 d4 d5 d6;refine jc (jdg r2.id) (by simp only [go_sem,jd,ja]) fun η=>?_
 simp only [go_sem,jd,ja];obtain ⟨hsn,hs4⟩:=jBu r2.id;rw [hsn];have hLY:qd y k r2=⟨y.now,(zW r2.plan.prio r2.id (jbi r.tasks r2.tasks r2.tasks.length) ((y.shelf[shN r2.id]?).getD default,y.seq)).2,y.shelf.set (shN r2.id) (zW r2.plan.prio r2.id (jbi r.tasks r2.tasks r2.tasks.length) ((y.shelf[shN r2.id]?).getD default,y.seq)).1,y.runs.set k r2⟩:=by rw [qd,hr,Option.getD_some];rfl
 rw [hLY];generalize shN r2.id=n at*;have hn:n<y.shelf.length:=by omega
 have h0n:(n:Int)≥0:=by omega
 obtain ⟨l,hl⟩:=je hn;have hll:=vU ht (List.mem_of_getElem? hl);rw [hl,Option.getD_some];refine jq (fun i:Nat×jp=>St.of [(3,Bx 3 d3),(4,Bx 4 d4),(5,Bx 5 d5),(6,Bx 6 d6),(7,Ni n),(8,Ni i.1)] [(90,jfE b tYd y.now y.seq (η2 []) (η3 [])),(91,o 91),(92,o 92),(93,o 93),(94,o 94),(95,o 95),(96,o 96),(66,ZYd c6 _),(3,qZ d3 _ y.now (zW r2.plan.prio r2.id (jbi r.tasks r2.tasks i.1) (l,y.seq)).2 (y.shelf.set n (zW r2.plan.prio r2.id (jbi r.tasks r2.tasks i.1) (l,y.seq)).1) i.2 dR ηC),(4,jar d4 _ r ηa ηb),(5,jar d5 _ r2 η5 η7),(6,ZYd d6 _)]) (fun i=>i.1≤r2.tasks.length) (fun i=>r2.tasks.length-i.1) (0,η2) (by (try dsimp only);first|omega|(simp;done)|(and_intros<;>first|omega|simp)) (jk [some 90,some 91,some 92,some 93,some 94,some 95,some 96,some 66,some 700000300,some 700000400,some 700000500,some 700000600] (by simp only [go_sem,jb,ja,jd,jwQ,jhX,zT hl,jQ]<;>and_intros<;>first|rfl|assumption|trivial)) ?_
 rintro ⟨j,η⟩ hj;dsimp only at hj;have hsq:=jcN r2.plan.prio r2.id (jbi r.tasks r2.tasks j) (l,y.seq);have hle:=jcO r2.plan.prio r2.id (jbi r.tasks r2.tasks j) (l,y.seq);have hnl:=jeB r.tasks r2.tasks j;have hsnoc:=jeE r2.plan.prio r2.id (jbi r.tasks r2.tasks j) j (l,y.seq);have hnx:=jwP r.tasks r2.tasks j;dsimp only at hsq hle;by_cases hlt:j<r2.tasks.length
 ·have hlt':(j:Int)<r2.tasks.length:=by omega
  have hltw:j<r.tasks.length:=by omega
  have hltw':(j:Int)<r.tasks.length:=by omega
  have h0j:(j:Int)≥0:=by omega
  obtain ⟨x,hx⟩:=je hlt;obtain ⟨z,hz⟩:=je hltw;have hw:IntKind.i64.wrap ((j:Int)+1)=((j+1:Nat):Int):=jo (by omega) (by omega)
  rw [jx6 hx hz] at hnx;have hw2:IntKind.i64.wrap ((zW r2.plan.prio r2.id (jbi r.tasks r2.tasks j) (l,y.seq)).2+1)=(zW r2.plan.prio r2.id (jbi r.tasks r2.tasks j) (l,y.seq)).2+1:=jo (by omega) (by omega)
  generalize hPe:zW r2.plan.prio r2.id (jbi r.tasks r2.tasks j) (l,y.seq)=P at*;obtain ⟨sh,hsh⟩:∃s,y.shelf.set n P.1=s:=⟨_,rfl⟩;have hSl:sh[n]?=some P.1:=by rw [←hsh];exact List.getElem?_set_self hn
  have hns:n<sh.length:=by rw [←hsh,List.length_set];exact hn
  have hss:∀L,sh.set n L=y.shelf.set n L:=fun L=>by rw [←hsh,List.set_set]
  have hi1:n+1≤(sh.flatMap fun es=>[ji es]).length:=by have:=jaD hns;rwa [Nat.mul_one] at this
  have hb1:((sh.flatMap fun es=>[ji es]).drop n).take 1=[ji P.1]:=by have:=jbs hSl;rwa [Nat.mul_one] at this
  rw [hsh];cases h2:x.state !=2
  ·have h2':(x.state==2)=true:=by have:x.state=2:=by simpa using h2
                                  simp [this]
   rw [h2',Bool.true_and] at hnx;cases h3:z.state==2
   ·rw [h3,Bool.not_false,if_pos rfl] at hnx
    rw [←hnx] at hsnoc;simp only [go_sem,ja,jd,jn,hlt',h0j,hlt,hltw,hltw',zN hx,vg hx,zc hx,qy hx,zN hz,vg hz,zc hz,qy hz,h2,h3];simp only [go_sem,hns,Nat.mul_one,hb1,hi1,h0n];refine jc (jai P.1 ⟨r2.plan.prio,P.2,r2.id,j⟩ (by omega)) (by simp only [go_sem,jf,ke hSl]) fun ηp=>?_
    simp only [go_sem,jf,ke hSl];simp only [go_sem,hns,Nat.mul_one,hi1,hb1,h0n,jag,hw2,hw,hss];refine fun η' hη'=>?_
    exact ⟨(j+1,η'),by (try dsimp only);first|omega|assumption|(and_intros<;>first|omega|assumption),(jk [some 90,some 91,some 92,some 93,some 94,some 95,some 96,some 66,some 3,some 4,some 5,some 6] (by simp only [go_sem,jb,ja,jd,hsnoc,jQ]<;>and_intros<;>first|rfl|assumption|trivial)),by (try dsimp only);omega⟩
   ·rw [h3,Bool.not_true,if_neg (by decide),List.append_nil] at hnx
    simp only [go_sem,ja,jd,jn,hlt',h0j,hlt,hltw,hltw',zN hx,vg hx,zc hx,qy hx,zN hz,vg hz,zc hz,qy hz,h2,h3,hw];exact ⟨(j+1,η),by (try dsimp only);first|omega|assumption|(and_intros<;>first|omega|assumption),(jk [some 90,some 91,some 92,some 93,some 94,some 95,some 96,some 66,some 3,some 4,some 5,some 6] (by simp only [go_sem,jb,ja,jd,hnx,hPe,hsh,jQ]<;>and_intros<;>first|rfl|assumption|trivial)),by (try dsimp only);omega⟩
  ·have h2':(x.state==2)=false:=by simpa using h2
   rw [h2',Bool.false_and,if_neg (by decide),List.append_nil] at hnx
   simp only [go_sem,ja,jd,jn,hlt',h0j,hlt,zN hx,vg hx,zc hx,qy hx,h2,hw];exact ⟨(j+1,η),by (try dsimp only);first|omega|assumption|(and_intros<;>first|omega|assumption),(jk [some 90,some 91,some 92,some 93,some 94,some 95,some 96,some 66,some 3,some 4,some 5,some 6] (by simp only [go_sem,jb,ja,jd,hnx,hPe,hsh,jQ]<;>and_intros<;>first|rfl|assumption|trivial)),by (try dsimp only);omega⟩
 obtain rfl:j=r2.tasks.length:=by omega
 have hlt':¬((r2.tasks.length:Nat):Int)<r2.tasks.length:=by omega
 generalize zW r2.plan.prio r2.id (jbi r.tasks r2.tasks r2.tasks.length) (l,y.seq)=P at*;simp only [go_sem,hlt',ja,jd];refine vl ?_;subst hdR;refine WkK.wk (s':=St.of [(6,Bx 66 c6)] [(90,jfE b tYd y.now y.seq (η2 []) (η3 [])),(91,o 91),(92,o 92),(93,o 93),(94,o 94),(95,o 95),(96,o 96),(66,qZ c6 _ y.now P.2 (y.shelf.set n P.1) η (.sl 8 tRn (jbe y.runs k (rnH r2 (η5 []) (η7 [])))) ηC),(5,jar d5 _ r2 η5 η7)]) (jk [some 90,some 91,some 92,some 93,some 94,some 95,some 96,some 66,some 5] (by simp only [go_sem,ja,jd,jQ]<;>and_intros<;>first|rfl|assumption|trivial)) ?_
 refine vm 5 5 901 (d:=jB r2.plan.edges) (η:=η5) rfl rfl (by decide) fun _=>?_
 refine vm 5 7 902 (d:=jw r2.tasks) (η:=η7) rfl rfl (by decide) fun _=>?_
 refine qN 66 3 (k*8+5) 901 (η:=ηC) (η2:=η5) (cs:=r2.plan.edges.flatMap jI) rfl (jaB hk 5 (by simp)) (.inr rfl) rfl (by decide) fun ηD _=>?_
 rw [zU hk 5 (by simp)]
 refine qN 66 3 (k*8+7) 902 (η:=ηD) (η2:=η7) (cs:=r2.tasks.flatMap jn) rfl (jaB hk 7 (by simp)) (.inr rfl) rfl (by decide) fun ηE _=>?_
 rw [zU hk 7 (by simp)]
 have hrow:(List.set (List.set (rnH r2 (η5 []) (η7 [])) 5 (.sl 2 tEd (r2.plan.edges.flatMap jI))) 7 (.sl 4 tTk (r2.tasks.flatMap jn)))=jd r2:=rfl;rw [hrow,jkP hk];refine WkK.of ?_;simp only [go_sem,jb];refine WkK.wk (s':=St.of [] [(66,ky c6 tYd y.now P.2 (y.shelf.set n P.1) η (y.runs.set k r2) ηE),(90,jfE b tYd y.now y.seq (η2 []) (η3 [])),(91,o 91),(92,o 92),(93,o 93),(94,o 94),(95,o 95),(96,o 96)]) (jk [some 66,some 90,some 91,some 92,some 93,some 94,some 95,some 96] (by simp only [go_sem,jQ]<;>and_intros<;>first|rfl|assumption)) ?_
 refine WkK.of ⟨c6,η,ηE,η2 [],η3 [],rfl,rfl,rfl,rfl,rfl,rfl,rfl,rfl,rfl⟩
noncomputable def jc0 (y:Yd) (id task tri:Int):Yd:=if jaJ y id task tri=0 then qd y (runAt y id).toNat (qw ((y.runs[(runAt y id).toNat]?).getD default) task) else y
def jcq:C:=iS [iA 4 (.box 37 4 (.t 0)),iA 8 (.alloc 37 [.int .i64 0,.int .i64 0,.slice none 0 0,.slice none 0 0]),iA 9 (iN 0)] (iS [iA 13 (iT 4 4),iA 14 (.call 105 [.t 13]),iA 10 (.alloc 37 [.int .i64 0,.int .i64 0,.slice none 0 0,.slice none 0 0]),iC (.st 4 [none,none,some (1,102),some (8,108)] (.t 10) (.t 14))] (iS [iA 15 (iT 4 4),iA 16 (iM 1),iA 17 (iM 2),iA 18 (iM 3),iA 19 (.call 196 [.t 15,.t 16,.t 17,.t 18]),iA 11 (iM 19)] (.seq (iS [iA 20 (iM 11),iA 21 (iQ .neq 3 20 0)] (iD 21 (iS [iA 22 (iT 4 10),iA 23 (iM 11),iC (.st 4 [none,none,some (1,102),some (8,108)] (.t 8) (.t 22)),iA 9 (iM 23)] .ret) .skip)) (iS [iA 24 (iT 4 4),iA 25 (iM 1),iA 26 (.call 152 [.t 24,.t 25]),iA 12 (iM 26)] (.seq (.dreg (T.pure 0 (iA 27 (iT 4 10)) (T.pure 1 (iA 28 (iM 12)) (T.pure 2 (iA 29 (iF 3 10)) (T.pure 3 (iA 30 (iL 29)) (T.pure 4 (iA 31 (iM 12)) (T.pure 5 (iA 32 (iI 8 30 31)) (T.pure 6 (iA 33 (iT 8 32)) (T.pure 7 (iA 34 (iM 2)) (T.alt (iA 35 (.call 198 [.t 33,.t 34])) [1,0] (T.alt (iA 36 (.call 197 [.t 27,.t 28,.t 35])) [] (T.alt (iC (.st 4 [none,none,some (1,102),some (8,108)] (.t 8) (.t 36))) [] (T.pure 11 (iA 9 (iN 0)) T.done) T.stop) T.stop) T.stop)))))))))) .ret)))))
theorem jeX:fnC Tryz.prog Tryz.f108=some (jcq,[.cell 8 true 4,.t 9],37):=by kernel_rfl
theorem jio (y:Yd) (id task tri:Int) (ht:jt y≤2000000):ka Tryz.prog 108 [.agg (jb y),.c (.val (.int .i64 id)),.c (.val (.int .i64 task)),.c (.val (.int .i64 tri))] (.tup [(true,jb (jc0 y id task tri)),(false,[.val (.int .i64 (jaJ y id task tri))])]):=by
 refine zl [[1,1,1,1,1,0]] Tryz.func108 jeX (by simp) ?_
 unfold jcq;simp only [C.ghs,C.ghAt,List.foldr];simp only [go_sem,jb];intro b4 b8;refine jc (kg y ht) (by simp only [go_sem,jb]) fun ηc=>?_
 simp only [go_sem,jb];intro b10;refine jc (jez y id task tri ht) (by simp only [go_sem,jb]) fun η=>?_
 simp only [go_sem,jb];cases h0:jaJ y id task tri !=0;rotate_left
 ·have hy:jc0 y id task tri=y:=by rw [jc0,if_neg (by simpa using h0)]
  simp only [go_sem,jb,h0,hy];refine kZ _ _ _ _ _ ?_;simp only [go_sem,jb]
 have h0':jaJ y id task tri=0:=by simpa using h0
 obtain ⟨hok,hneg⟩:=joF h0';obtain ⟨k,r,hrk,hr,hid,h8⟩:=qW hneg;have hk:=(List.getElem?_eq_some_iff.1 hr).1;have h0k:(k:Int)≥0:=by omega
 have hk0:¬(k:Int)<0:=by omega
 have hY:jc0 y id task tri=qd y k (qw r task):=by rw [jc0,if_pos h0',hrk,Int.toNat_natCast,hr,Option.getD_some]
 rw [hY,h0'];simp only [go_sem,jb,h0];refine jc (qj y id) (by simp only [go_sem,jb]) fun η=>?_
 simp only [go_sem,jb];refine vl ?_;refine WkK.wk (s':=St.of [(2,Ni task),(8,Bx 92 b8),(10,Bx 90 b10),(12,Ni k)] [(92,ZYd b8 tYd),(90,ky b10 tYd y.now y.seq y.shelf (ηc 2) y.runs (ηc 3))]) (jk [some 800,some 1000] (by simp only [go_sem,jb,hrk]<;>and_intros<;>first|rfl|assumption|trivial)) ?_
 refine WkK.of ?_;have hrb:=jbX ht (List.mem_of_getElem? hr);simp only [go_sem,jb,hk0,h0k,hk,jjQ hr,jeJ hr,jd,ja];refine jc (jjr r task hrb.1 hrb.2) (by simp only [go_sem,jb,jd,ja,jZ hr,ko hr]) fun ηr=>?_
 simp only [go_sem,jb,jd,ja,jZ hr,ko hr];have hrl:(qw r task).tasks.length=r.tasks.length:=jdU r task;have hr12:r.tasks.length≤12:=(hok.right r (List.mem_of_getElem? hr)).le12;generalize qw r task=r2 at*;refine jbd [some 90,some 92,some 3505,some 3507] [(90,ky b10 tYd y.now y.seq y.shelf (ηc 2) y.runs (ηc 3)),(92,ZYd b8 tYd),(97,.loose (jB r2.plan.edges) (ηr 5)),(98,.loose (jw r2.tasks) (ηr 7))] [.agg [.v (.int .i64 y.now),.v (.int .i64 y.seq),.h 90 2 [] (ηc 2 []),.h 90 3 [] (ηc 3 [])],Ni k,.agg [.v (.int .i64 r2.id),.v (.int .i64 r2.plan.prio),.v (.int .i64 r2.plan.most),.v (.int .i64 r2.plan.wait),.v (.int .i64 r2.plan.tasks),.h 97 0 [] (ηr 5 []),.v (.int .i64 r2.state),.h 98 0 [] (ηr 7 [])]] (by simp only [go_sem]<;>and_intros<;>rfl) (by simp only [go_sem]<;>and_intros<;>rfl) (jeI hr hrl hr12 hok.four (by have:=hok.seq;omega) ht rfl rfl rfl) ?_
 rintro _ o1 ⟨c,g2,g3,x2,x3,rfl,j99,j90,j91,j92,j93,j94,j95,j96⟩;have j92':o1 92=ZYd b8 tYd:=j92;generalize qd y k r2=z2 at*;simp only [go_sem,j99,j90,j92'];refine kZ _ _ _ _ _ ?_;simp only [go_sem,jb,j99,j90,j92']
theorem jit {p:Pl} {ts ts':List Tk} (h:∀b:Int,(stT ts' b !=4)=(stT ts b !=4)) (t:Int):jlj p ts' t=jlj p ts t:=by
 simp only [jlj,h]
theorem jr8 {ts:List Tk} {t:Nat} {x y:Tk} (hx:ts[t]?=some x) (h:(y.state !=4)=(x.state !=4)) (b:Int):(stT (ts.set t y) b !=4)=(stT ts b !=4):=by
 have ht:=(List.getElem?_eq_some_iff.1 hx).1;simp only [stT,List.getElem?_set];by_cases e:t=b.toNat
 ·rw [if_pos e,←e,if_pos ht,hx];exact h
 ·rw [if_neg e]
theorem jBb {s:Int} {ts:List Tk} {t:Nat} (ht:t<ts.length) (h1:∀(j:Nat) (x:Tk),ts[j]?=some x→(x.state=s↔j=t)):cS s ts=1:=by
 have e:(List.range ts.length).filter (fun (j:Nat)=>stT ts (j:Int)==s)=(List.range ts.length).filter (fun j=>j==t):=by
  refine List.filter_congr fun j hj=>?_
  rw [List.mem_range] at hj;have hx:ts[j]?=some ts[j]:=List.getElem?_eq_getElem hj;rw [vn hx,Bool.eq_iff_iff,beq_iff_eq,beq_iff_eq];exact h1 j _ hx
 have:(List.range ts.length).count t=1:=by rw [List.count_range,if_pos ht]
 simp only [cS,zq,zD,e,List.length_map];rw [←this,List.count_eq_length_filter]
theorem jvR (j:Nat) (x:Tk):((jS j x).state !=4)=(x.state !=4):=by
 unfold jS;split
 ·rename_i h
  have:(x.state !=4)=true:=by simpa using h.1
  rw [this];rfl
 ·rfl
theorem jpi {f:Nat→Tk→Tk} {ts:List Tk} {j:Nat} {z:Tk} (h:(zJ f ts ts.length)[j]?=some z):∃x,ts[j]?=some x∧z=f j x:=by
 simp only [zJ,List.getElem?_mapIdx,Option.map_eq_some_iff] at h;obtain ⟨x,hx,rfl⟩:=h;exact ⟨x,hx,by rw [if_pos (List.getElem?_eq_some_iff.1 hx).1]⟩
theorem taskB_iff {p:Pl} {ts:List Tk} {t:Nat} {x:Tk}:jP p ts t x=true↔(1≤x.state∧x.state≤6)∧x.need=jlj p ts t∧(0≤x.tri∧x.tri≤p.most)∧jbR x=true∧zC p x=true:=by
 simp only [jP,inB,Bool.and_eq_true,decide_eq_true_eq,beq_iff_eq,and_assoc]
theorem jtH {r:Rn} {t:Nat} {x:Tk} (h:RunOkP r) (hx:r.tasks[t]?=some x) (hs:x.state=3):RunOkP (jbw r t x):=by
 obtain ⟨e1,e2,e3,e4⟩:=h.runs hx hs;have ht:=(List.getElem?_eq_some_iff.1 hx).1;have hx1:=taskB_iff.1 (h.tasks t x hx);have hl:=hx1.2.2.2.2
 have hl3:x.need=0∧1≤x.tri:=by
  simpa [zC,hs] using hl
 unfold jbw;split
 ·rename_i hm
  have hN:∀j:Int,jlj r.plan (r.tasks.set t ⟨2,x.need,x.tri,0⟩) j=jlj r.plan r.tasks j:=jit (jr8 hx (by simp [hs]))
  have c5:cS 5 (r.tasks.set t ⟨2,x.need,x.tri,0⟩)=0:=joA (jl7 (q:=fun s=>s≠5) (by simp) fun y hy=>by obtain ⟨k,hk,rfl⟩:=List.getElem_of_mem hy;exact jw4 e2 (List.getElem?_eq_getElem hk))
  have c6:cS 6 (r.tasks.set t ⟨2,x.need,x.tri,0⟩)=0:=joA (jl7 (q:=fun s=>s≠6) (by simp) fun y hy=>by obtain ⟨k,hk,rfl⟩:=List.getElem_of_mem hy;exact jw4 e3 (List.getElem?_eq_getElem hk))
  have hst:∀z∈r.tasks.set t ⟨2,x.need,x.tri,0⟩,1≤z.state∧z.state≤6:=jl7 (q:=fun s=>1≤s∧s≤6) (by simp) h.st
  have c2:=jw3 (s:=2) (List.getElem?_set_self ht:(r.tasks.set t ⟨2,x.need,x.tri,0⟩)[t]?=some _) rfl;have hsum:=jh7 hst _ (Nat.le_refl _);change cS 1 _+cS 2 _+cS 3 _+cS 4 _+cS 5 _+cS 6 _=_ at hsum;refine ⟨h.id,h.plan,by rw [List.length_set];exact h.len,fun j z hz=>?_,?_,h.live⟩
  ·dsimp only at hz⊢
   rw [List.getElem?_set] at hz;by_cases e:t=j
   ·subst e
    rw [if_pos rfl,if_pos ht] at hz;obtain rfl:=Option.some.inj hz;rw [taskB_iff,hN];exact ⟨by simp,hx1.2.1,hx1.2.2.1,rfl,by simp [zC,hl3.1,hm]⟩
   ·rw [if_neg e] at hz
    have:=taskB_iff.1 (h.tasks j z hz);rw [taskB_iff,hN];exact this
  ·dsimp only
   rw [e1,jjf,if_neg (by omega),c5,c6,if_neg (by omega),if_neg (by omega),if_pos ⟨rfl,rfl⟩]
 ·rename_i hm
  generalize hT:r.tasks.set t ⟨5,x.need,x.tri,0⟩=T;have hTl:T.length=r.tasks.length:=by rw [←hT,List.length_set]
  have hTt:T[t]?=some ⟨5,x.need,x.tri,0⟩:=by rw [←hT];exact List.getElem?_set_self ht
  have hTj:∀j,t≠j→T[j]?=r.tasks[j]?:=fun j hj=>by rw [←hT,List.getElem?_set_ne hj]
  rw [←hTl]
  have hM:∀(j:Nat) (z:Tk),(zJ jS T T.length)[j]?=some z→(j=t∧z=⟨5,x.need,x.tri,0⟩)∨j≠t∧∃y,r.tasks[j]?=some y∧((y.state=4∧z=y)∨(y.state≠4∧z=⟨6,y.need,y.tri,0⟩)):=by
   intro j z hz;obtain ⟨y,hy,rfl⟩:=jpi hz;by_cases e:t=j
   ·subst e
    rw [hTt] at hy;obtain rfl:=Option.some.inj hy;exact .inl ⟨rfl,by simp [jS]⟩
   ·rw [hTj j e] at hy
    have h5:y.state≠5:=jw4 e2 hy;refine .inr ⟨fun e'=>e e'.symm,y,hy,?_⟩
    by_cases e4:y.state=4
    ·exact .inl ⟨e4,by simp [jS,e4]⟩
    ·exact .inr ⟨e4,by simp [jS,e4,h5]⟩
  have hst4:∀b:Int,(stT (zJ jS T T.length) b !=4)=(stT r.tasks b !=4):=by
   intro b;rw [←jr8 hx (y:=⟨5,x.need,x.tri,0⟩) (by simp [hs]),hT]
   simp only [stT,zJ,List.getElem?_mapIdx];cases hb:T[b.toNat]? with
   |none=>rfl
   |some z=>simp only [Option.map_some,Option.getD_some,if_pos (List.getElem?_eq_some_iff.1 hb).1,jvR]
  have hN:=fun j=>jit (p:=r.plan) hst4 j
  have hlen:(zJ jS T T.length).length=T.length:=zy
  have hst:∀z∈zJ jS T T.length,4≤z.state∧z.state≤6:=fun z hz=>by
   obtain ⟨k,hk,rfl⟩:=List.getElem_of_mem hz;rcases hM k _ (List.getElem?_eq_getElem hk) with ⟨_,h1⟩|⟨_,y,_,⟨h1,h2⟩|⟨_,h2⟩⟩
   ·rw [h1];simp
   ·rw [h2];omega
   ·rw [h2];simp
  have c1:cS 1 (zJ jS T T.length)=0:=joA fun z hz=>by have:=hst z hz;omega
  have c2:cS 2 (zJ jS T T.length)=0:=joA fun z hz=>by have:=hst z hz;omega
  have c3:cS 3 (zJ jS T T.length)=0:=joA fun z hz=>by have:=hst z hz;omega
  have c5:cS 5 (zJ jS T T.length)=1:=by
   refine jBb (t:=t) (by rw [hlen,hTl];exact ht) fun j z hz=>?_
   rcases hM j z hz with ⟨h1,h2⟩|⟨h1,y,_,⟨h2,h3⟩|⟨_,h3⟩⟩
   ·rw [h2];simp [h1]
   ·rw [h3];simp [h1,h2]
   ·rw [h3];simp [h1]
  have hsum:=jh7 (fun z hz=>by have:=hst z hz;omega) _ (Nat.le_refl (zJ jS T T.length).length)
  change cS 1 _+cS 2 _+cS 3 _+cS 4 _+cS 5 _+cS 6 _=_ at hsum;refine ⟨h.id,h.plan,by dsimp only;rw [hlen,hTl];exact h.len,fun j z hz=>?_,?_,by simp⟩
  ·dsimp only at hz⊢
   rw [taskB_iff,hN];rcases hM j z hz with ⟨rfl,rfl⟩|⟨h1,y,hy,⟨h2,rfl⟩|⟨h2,rfl⟩⟩
   ·exact ⟨by simp,hx1.2.1,hx1.2.2.1,rfl,by simp [zC,hl3.1,hl3.2]⟩
   ·exact taskB_iff.1 (h.tasks j _ hy)
   ·have h3:=taskB_iff.1 (h.tasks j _ hy)
    exact ⟨by simp,h3.2.1,h3.2.2.1,rfl,by simp [zC]⟩
  ·dsimp only
   rw [jjf,if_neg (by omega),if_pos ⟨c5,by omega⟩]
theorem jnG {r:Rn} (t:Int) (h:RunOkP r):RunOkP (jE r t):=by
 cases hr:vW r t with
 |false=>rw [jdT hr];exact h
 |true=>
  obtain ⟨k,x,rfl,hx,hs,_⟩:=jcF hr;rw [vK hx hr];exact jtH h hx hs
theorem jst {r:Rn} {t:Nat} {x:Tk} (h:RunOkP r) (hx:r.tasks[t]?=some x) (hs:x.state=3):vW r t=true:=by
 have ht:=(List.getElem?_eq_some_iff.1 hx).1;simp only [vW,inB,Bool.and_eq_true,decide_eq_true_eq,beq_iff_eq,vn hx,runOk_iff];exact ⟨⟨by omega,hs⟩,h⟩
theorem jqi {r:Rn} {t:Int} {j:Nat} {z:Tk} (hz:(jE r t).tasks[j]?=some z) (hs:z.state=3):r.tasks[j]?=some z:=by
 cases hr:vW r t with
 |false=>rwa [jdT hr] at hz
 |true=>
  obtain ⟨k,x,rfl,hx,hs',_⟩:=jcF hr;rw [vK hx hr,jbw] at hz;have hk:=(List.getElem?_eq_some_iff.1 hx).1;split at hz
  ·dsimp only at hz
   rw [List.getElem?_set] at hz;by_cases e:k=j
   ·subst e
    rw [if_pos rfl,if_pos hk] at hz;obtain rfl:=Option.some.inj hz;cases hs
   ·rw [if_neg e] at hz;exact hz
  ·dsimp only at hz
   have e:r.tasks.length=(r.tasks.set k ⟨5,x.need,x.tri,0⟩).length:=by rw [List.length_set]
   rw [e] at hz;obtain ⟨y,hy,rfl⟩:=jpi hz;unfold jS at hs;split at hs
   ·cases hs
   ·rename_i h
    exact absurd ⟨by omega,by omega⟩ h
theorem jnH (r:Rn) (t:Int):(jE r t).id=r.id∧(jE r t).plan=r.plan:=by
 unfold jE;split
 ·unfold jbw;split<;>exact ⟨rfl,rfl⟩
 ·exact ⟨rfl,rfl⟩
structure LaterP (y z:Yd):Prop where
 len:z.runs.length=y.runs.length
 runs:∀(k:Nat) (r:Rn),y.runs[k]?=some r→∃r',z.runs[k]?=some r'∧r'.id=r.id∧r'.plan=r.plan∧RunOkP r'∧r'.tasks.length=r.tasks.length∧∀(t:Nat) (x:Tk),r'.tasks[t]?=some x→x.state=3→r.tasks[t]?=some x
theorem LaterP.refl {y:Yd} (h:YardOkP y):LaterP y y:=⟨rfl,fun k r hr=>⟨r,hr,rfl,rfl,h.right r (List.mem_of_getElem? hr),rfl,fun _ _ h _=>h⟩⟩
theorem jvg:∀{l m:List Rn} (id:Int),l.map (·.id)=m.map (·.id)→jfL l id=jfL m id:=by
 intro l m id h;have e:∀l:List Rn,l.findIdx? (fun r=>r.id==id)=(l.map (·.id)).findIdx? (· ==id):=fun l=>by rw [List.findIdx?_map];rfl
 simp only [jfL,e,h]
theorem LaterP.ids {y z:Yd} (h:LaterP y z):z.runs.map (·.id)=y.runs.map (·.id):=by
 apply List.ext_getElem?
 intro k;simp only [List.getElem?_map];cases hr:y.runs[k]? with
 |none=>
  have:z.runs[k]?=none:=by rw [List.getElem?_eq_none_iff] at hr⊢;rw [h.len];exact hr
  rw [this]
 |some r=>
  obtain ⟨r',h1,h2,_⟩:=h.runs k r hr;rw [h1];simp [h2]
theorem LaterP.runAt {y z:Yd} (h:LaterP y z) (id:Int):runAt z id=runAt y id:=by
 unfold Go.Proofs.YtmnpailnelmpiaaGreat.runAt;rw [h.len,jvg id h.ids]
noncomputable def jaM (y:Yd) (k t:Nat):Yd:=if stT ((y.runs[k]?).getD default).tasks t==3 then qd y k (jE ((y.runs[k]?).getD default) t) else y
theorem jlX (y:Yd) (k:Nat) (r:Rn):(qd y k r).runs=y.runs.set k r:=rfl
theorem LaterP.fail {y z:Yd} (h:LaterP y z) (k t:Nat):LaterP y (jaM z k t):=by
 unfold jaM;split
 ·cases hk:y.runs[k]? with
  |none=>
   have hk2:z.runs[k]?=none:=by rw [List.getElem?_eq_none_iff] at hk⊢;rw [h.len];exact hk
   rename_i hs;rw [hk2] at hs;simp [stT] at hs;cases hs
  |some r=>
   obtain ⟨r',h1,h2,h3,h4,h5,h6⟩:=h.runs k r hk;have hk':=(List.getElem?_eq_some_iff.1 h1).1;rw [h1,Option.getD_some];refine ⟨by rw [jlX,List.length_set];exact h.len,fun j q hq=>?_⟩
   rw [jlX,List.getElem?_set];by_cases e:k=j
   ·subst e
    rw [hk] at hq;obtain rfl:=Option.some.inj hq;rw [if_pos rfl,if_pos hk'];have hi:=jnH r' t;refine ⟨_,rfl,by rw [hi.1];exact h2,by rw [hi.2];exact h3,jnG _ h4,by rw [qh];exact h5,fun i x hx hs=>h6 i x (jqi hx hs) hs⟩
   ·rw [if_neg e];exact h.runs j q hq
 ·exact h
structure StepI (y z:Yd) (i:Nat):Prop where
 later:LaterP y z
 four:z.shelf.length=4
 seq:1≤z.seq∧z.seq≤1000000000+12*i
 tot:jt z≤jt y+12*i
 now:z.now=y.now
theorem StepI.refl {y:Yd} (h:YardOkP y):StepI y y 0:=⟨.refl h,h.four,by have:=h.seq;omega,Nat.le_refl _,rfl⟩
theorem StepI.mono {y z:Yd} {i j:Nat} (h:StepI y z i) (hij:i≤j):StepI y z j:=⟨h.later,h.four,by have:=h.seq;omega,by have:=h.tot;omega,h.now⟩
theorem jkA {y:Yd} {k:Nat} {r r2:Rn} (hr:y.runs[k]?=some r) (ht:kn r2=kn r) (hl:r2.tasks.length≤12):jt (qd y k r2)≤jt y+12:=by
 have h1:=jrL (y:=⟨y.now,y.seq,y.shelf,y.runs.set k r2⟩) (r:=r2) (ids:=jbi ((y.runs[k]?).getD default).tasks r2.tasks r2.tasks.length);have h2:=jeB ((y.runs[k]?).getD default).tasks r2.tasks r2.tasks.length;have h3:=jab (f:=kn) r2 hr
 have h4:jt ⟨y.now,y.seq,y.shelf,y.runs.set k r2⟩=jt y:=by
  simp only [jt,qA,List.length_set];omega
 rw [qd];omega
theorem jvb (y:Yd) (k:Nat) (r2:Rn):y.seq≤(qd y k r2).seq∧(qd y k r2).seq≤y.seq+r2.tasks.length:=by
 have h2:=jeB ((y.runs[k]?).getD default).tasks r2.tasks r2.tasks.length;have h1:=jcN r2.plan.prio r2.id (jbi ((y.runs[k]?).getD default).tasks r2.tasks r2.tasks.length) ((y.shelf[shN r2.id]?).getD default,y.seq);have e:(qd y k r2).seq=(zW r2.plan.prio r2.id (jbi ((y.runs[k]?).getD default).tasks r2.tasks r2.tasks.length) ((y.shelf[shN r2.id]?).getD default,y.seq)).2:=rfl;rw [e,h1];dsimp only;omega
theorem jtB (y:Yd) (k:Nat) (r2:Rn):(qd y k r2).shelf.length=y.shelf.length:=by
 have e:(qd y k r2).shelf=y.shelf.set (shN r2.id) (zW r2.plan.prio r2.id (jbi ((y.runs[k]?).getD default).tasks r2.tasks r2.tasks.length) ((y.shelf[shN r2.id]?).getD default,y.seq)).1:=rfl;rw [e,List.length_set]
theorem StepI.fail {y z:Yd} {i:Nat} (h:StepI y z i) (k t:Nat):StepI y (jaM z k t) (i+1):=by
 have hL:=h.later.fail k t;cases hc:(stT ((z.runs[k]?).getD default).tasks t==3) with
 |false=>
  have e:jaM z k t=z:=by unfold jaM;rw [hc];rfl
  rw [e];exact h.mono (Nat.le_succ i)
 |true=>
  have e:jaM z k t=qd z k (jE ((z.runs[k]?).getD default) t):=by unfold jaM;rw [hc];rfl
  cases hk:y.runs[k]? with
  |none=>
   have hk2:z.runs[k]?=none:=by rw [List.getElem?_eq_none_iff] at hk⊢;rw [h.later.len];exact hk
   rw [hk2] at hc;simp [stT] at hc;cases hc
  |some r=>
   obtain ⟨r',h1,h2,h3,h4,h5,h6⟩:=h.later.runs k r hk;rw [h1,Option.getD_some] at e;have hl:=qh r' t;have h12:=h4.le12;have hs:=jvb z k (jE r' t);have:=h.seq;have:=h.tot;have hT:=jkA (r2:=jE r' t) h1 (jgC r' t) (by omega)
   rw [e] at hL⊢;exact ⟨hL,by rw [jtB];exact h.four,by omega,by omega,h.now⟩
theorem jkj {y z:Yd} (h:LaterP y z) {k t:Nat} {r:Rn} {x:Tk} (hk:y.runs[k]?=some r) (hra:runAt y r.id=k) (hx:r.tasks[t]?=some x):vS z r.id t x.tri=(stT ((z.runs[k]?).getD default).tasks t==3):=by
 obtain ⟨r',h1,h2,h3,h4,h5,h6⟩:=h.runs k r hk;have ht:=(List.getElem?_eq_some_iff.1 hx).1;have hx':r'.tasks[t]?=some r'.tasks[t]:=List.getElem?_eq_getElem (by omega)
 have hn:¬((k:Int)<0):=by omega
 have hT:jda z r.id t=some r'.tasks[t]:=by
  simp only [jda,h.runAt,hra,hn,if_false,Int.toNat_natCast,h1];rw [if_pos (by omega)];exact hx'
 rw [h1,Option.getD_some,vn hx'];simp only [vS,hT];cases hs:(r'.tasks[t].state==3) with
 |false=>rfl
 |true=>
  have hs':r'.tasks[t].state=3:=by simpa using hs
  have:=h6 t _ hx' hs';rw [hx] at this;rw [Option.some.inj this];simp
noncomputable def restT (z:Yd) (k:Nat):Nat→Yd
 |0=>z
 |t+1=>jaM (restT z k t) k t
noncomputable def restR (y:Yd):Nat→Yd
 |0=>y
 |k+1=>restT (restR y k) k ((y.runs[k]?).getD default).tasks.length
theorem StepI.restT {y z:Yd} {i:Nat} (h:StepI y z i) (k:Nat):∀t,StepI y (restT z k t) (i+t)
 |0=>h
 |t+1=>(StepI.restT h k t).fail k t
theorem StepI.restR {y:Yd} (h:YardOkP y):∀k,StepI y (restR y k) (12*k)
 |0=>.refl h
 |k+1=>by
  refine ((StepI.restR h k).restT k _).mono ?_;cases hk:y.runs[k]? with
  |none=>rw [Option.getD_none];have:(default:Rn).tasks.length=0:=rfl;omega
  |some r=>
   have:=(h.right r (List.mem_of_getElem? hk)).le12;rw [Option.getD_some];omega
noncomputable def jcV (y:Yd):Yd:=if jD y then restR y y.runs.length else y
theorem jpr {y:Yd} {id task tri:Int} {k:Nat} {r:Rn} (h:jaJ y id task tri=0) (hk:runAt y id=(k:Int)) (hr:y.runs[k]?=some r):∃t:Nat,task=(t:Int)∧vW r task=true:=by
 have hok:=(joF h).1
 have hh:vS y id task tri=true:=by
  unfold jaJ at h;split at h
  ·cases h
  split at h
  ·cases h
  split at h
  ·cases h
  ·rename_i h3;simpa using h3
 unfold vS at hh;rcases vI y id task with ⟨_,h2⟩|⟨k',r',h1,h2,⟨_,h3⟩|⟨j,x,hj,hx,h3⟩⟩
 ·rw [h2] at hh;cases hh
 ·rw [h3] at hh;cases hh
 ·rw [h3] at hh
  obtain rfl:k=k':=by omega
  obtain rfl:r=r':=by rw [hr] at h2;exact Option.some.inj h2
  refine ⟨j,hj,?_⟩;subst hj;have hl:=(List.getElem?_eq_some_iff.1 hx).1;simp only [Bool.and_eq_true,beq_iff_eq] at hh;have hR:=hok.right r (List.mem_of_getElem? hr);simp only [vW,inB,Bool.and_eq_true,decide_eq_true_eq,beq_iff_eq,vn hx,runOk_iff];exact ⟨⟨by omega,hh.1⟩,hR⟩
def jcz:C:=iS [iA 4 (.box 37 4 (.t 0)),iA 6 (.box 3 1 (.t 2)),iA 8 (.alloc 37 [.int .i64 0,.int .i64 0,.slice none 0 0,.slice none 0 0]),iA 9 (iN 0)] (iS [iA 12 (iT 4 4),iA 13 (.call 118 [.t 12]),iA 10 (.alloc 37 [.int .i64 0,.int .i64 0,.slice none 0 0,.slice none 0 0]),iC (.st 4 [none,none,some (1,102),some (8,108)] (.t 10) (.t 13))] (iS [iA 14 (iT 4 4),iA 15 (iM 1),iA 16 (iL 6),iA 17 (iM 3),iA 18 (.call 220 [.t 14,.t 15,.t 16,.t 17]),iA 11 (iM 18)] (.seq (iS [iA 19 (iM 11),iA 20 (iQ .eql 3 19 0)] (iD 20 (.reg [iA 21 (iT 4 4),iA 22 (iM 1),iA 23 (.call 56 [.t 21,.t 22]),iA 24 (.mkf 222 [.t 6]),iA 25 (.call 221 [.t 10,.t 23,.t 24])]) .skip)) (iS [iA 26 (iT 4 10),iA 27 (iM 11),iC (.st 4 [none,none,some (1,102),some (8,108)] (.t 8) (.t 26)),iA 9 (iM 27)] .ret))))
theorem je4:fnC Tryz.prog Tryz.f121=some (jcz,[.cell 8 true 4,.t 9],28):=by kernel_rfl
def ja9:C:=.reg [iA 3 (iM 0),iA 4 (iL 1),iA 5 (.call 223 [.t 3,.t 4])]
theorem jc7:fnC Tryz.prog Tryz.f222=some (ja9,[],6):=by kernel_rfl
theorem jlH {k t b6:Nat} {y:Yd} {r:Rn} (hr:y.runs[k]?=some r) (hrun:vW r t=true):juA Tryz.prog 222 [.bp 91 0 b6] (.box b6 jfI [.a (.v (.int .i64 t))]) k y (qw r t):=by
 intro o b e2 e3 h90 h91;refine jhG (β:=6000000) Tryz.func222 jc7 (by simp) ?_
 unfold ja9;simp only [go_sem,h91];refine vJ (by simp only [go_sem]) (jyL hr hrun _ b e2 e3 (by simp only [go_sem];exact h90)) ?_
 rintro _ o1 ⟨rfl,j90,j91,j92,j93,j94,j95,j96,j97⟩;simp only [go_sem] at j91 j92 j93 j94 j95 j96 j97;rw [h91] at j91;exact ⟨.tup [],⟨by decide,rfl⟩,rfl,rfl,j90,j91,j92,j93,j94,j95,j96,j97⟩
theorem jiq (y:Yd) (id task tri:Int) (ht:jt y≤2000000):ka Tryz.prog 121 [.agg (jb y),.c (.val (.int .i64 id)),.c (.val (.int .i64 task)),.c (.val (.int .i64 tri))] (.tup [(true,jb (jc0 y id task tri)),(false,[.val (.int .i64 (jaJ y id task tri))])]):=by
 refine zl [[1,1,1,0,1,0]] Tryz.func121 je4 (by simp) ?_
 unfold jcz;simp only [C.ghs,C.ghAt,List.foldr];simp only [go_sem,jb];intro b4 b6 b8;refine jc (jW y ht) (by simp only [go_sem,jb]) fun ηc=>?_
 simp only [go_sem,jb];intro b10;refine jc (jip y id task tri ht) (by simp only [go_sem,jb]) fun η=>?_
 simp only [go_sem,jb];cases h0:jaJ y id task tri==0
 ·have hy:jc0 y id task tri=y:=by rw [jc0,if_neg (by simpa using h0)]
  simp only [go_sem,jb,h0,hy];refine kZ _ _ _ _ _ ?_;simp only [go_sem,jb]
 have h0':jaJ y id task tri=0:=by simpa using h0
 obtain ⟨hok,hneg⟩:=joF h0';obtain ⟨k,r,hrk,hr,hid,h8⟩:=qW hneg;obtain ⟨t,rfl,hrun⟩:=jpr h0' hrk hr;have hY:jc0 y id t tri=qd y k (qw r t):=by rw [jc0,if_pos h0',hrk,Int.toNat_natCast,hr,Option.getD_some]
 have hr12:r.tasks.length≤12:=(hok.right r (List.mem_of_getElem? hr)).le12;rw [hY,h0'];simp only [go_sem,jb,h0];refine vl ?_;generalize ηc 2=η2 at*;generalize ηc 3=η3 at*;refine WkK.wk (s':=St.of [(1,Ni id),(4,Bx 93 b4),(6,Bx 91 b6),(8,Bx 92 b8),(10,Bx 90 b10),(11,Ni 0)] [(93,Bi b4 tYd (jb y)),(91,.box b6 jfI [.a (.v (.int .i64 t))]),(92,ZYd b8 tYd),(90,ky b10 tYd y.now y.seq y.shelf η2 y.runs η3)]) (jk [some 400,some 600,some 800,some 1000] (by simp only [go_sem,jb]<;>and_intros<;>first|rfl|assumption|trivial)) ?_
 refine WkK.of ?_;simp only [go_sem,jb];refine jc (qm y id) (by simp only [go_sem,jb]) fun η=>?_
 simp only [go_sem,jb];rw [hrk];refine vJ (vs:=[Bx 90 b10,Ni k,.fn 222 [.bp 91 0 b6]]) (by simp only [go_sem]) (jcQ hr (jdU r t) hr12 hok.four (by have:=hok.seq;omega) ht (jlH hr hrun) (e2:=η2) (e3:=η3) (by simp only [go_sem]) (by simp only [go_sem])) ?_
 rintro _ o1 ⟨rfl,⟨e2',e3',j90⟩,j91,j92,j93,j94,j95,j96⟩;simp only [go_sem] at j92;generalize qd y k (qw r t)=y2 at*;simp only [go_sem,j90,j92];refine kZ _ _ _ _ _ ?_;simp only [go_sem,jb]
end Go.Proofs.YtmnpailnelmpiaaGreat
