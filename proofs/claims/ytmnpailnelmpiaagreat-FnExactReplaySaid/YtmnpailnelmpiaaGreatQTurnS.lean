/- Parts. -/
import Derived.Test.YtmnpailnelmpiaaGreatQTurnP
set_option linter.unusedSimpArgs false
set_option linter.unusedVariables false
set_option maxHeartbeats 8000000
set_option maxRecDepth 100000
namespace Go.Proofs.YtmnpailnelmpiaaGreat
open Go.RowKit Go.Sort
def simAs:List AV→List AV→Prop
 |[],[]=>True
 |a::l,b::m=>a.sim b∧simAs l m
 |_,_=>False
theorem jr2:simAs [] []=True:=(rfl)
theorem jpV (a b:AV) (l m:List AV):simAs (a::l) (b::m)=(a.sim b∧simAs l m):=(rfl)
theorem simAs.rel {B:Nat} {w:World}:∀{l m:List AV} {xs:List Value},simAs l m→ji3 B w l xs→ji3 B w m xs
 |[],[],_,_,h=>h
 |_::_,_::_,_,⟨h1,h2⟩,⟨x,xs',e,h3,h4⟩=>⟨x,xs',e,h1.rel h3,h2.rel h4⟩
theorem jx8 {P:Program} {f:FuncId} {vs vs2:List AV} {o o2:Nat→Ob} {R:AV→(Nat→Ob)→Prop} (hw:Wk (.only o) (.only o2)) (hs:simAs vs vs2) (h:Inl P f vs2 o2 R):Inl P f vs o R:=
 ⟨h.1,fun B w F xs h1 h2=>by
  obtain ⟨F2,h3,_⟩:=hw _ _ _ _ _ _ h1;exact h.2 B w F2 xs h3 (hs.rel h2)⟩
theorem jbd {P:Program} {β:Nat} {s:St} {K:St→Prop} {d:Option Nat} {g:Option (Nat×Bool)} {f:Nat} {args:List X} {R:AV→(Nat→Ob)→Prop} (ks:List (Option Nat)) (O:List (Nat×Ob)) (vs2:List AV) (hs:simAs (args.map s.ev) vs2) (hf:jqT s ks O) (h:Inl P f vs2 (lkO O) R) (hk:∀av o',R av o'→K (St.put ⟨s.t,o'⟩ d av)) (hn:jkk (jrS ks)=true:=by decide):qT P β ⟨d,g,.call f args⟩ s K:=by
 refine kT (jx8 (o2:=lkO O) ?_ hs (h.weak hk))
 have hf':∀{ks:List (Option Nat)} {O:List (Nat×Ob)},jqT s ks O→jqT (.only s.o) ks O:=by
  intro ks
  induction ks with
  |nil=>intro O h;cases O<;>first|exact h|exact h.elim
  |cons k ks ih=>
   intro O h;cases O with
   |nil=>cases k<;>exact h.elim
   |cons p O=>cases k<;>exact ⟨h.1,ih h.2⟩
 exact jk (s:=.only s.o) ks (T:=[]) ⟨trivial,hf' hf⟩ hn
attribute [go_sem] jr2 jpV
def jdm:C:=iS [iA 3 (.box 37 4 (.t 0)),iA 5 (.box 108 8 (.t 2)),iA 6 (.alloc 37 [.int .i64 0,.int .i64 0,.slice none 0 0,.slice none 0 0])] (iS [iA 8 (iF 3 3),iA 9 (iL 8),iA 10 (iM 1),iA 11 (iI 8 9 10),iA 12 (iT 8 11),iA 7 (.alloc 108 [.int .i64 0,.int .i64 0,.int .i64 0,.int .i64 0,.int .i64 0,.slice none 0 0,.int .i64 0,.slice none 0 0]),iC (.st 8 [none,none,none,none,none,some (2,253),none,some (4,172)] (.t 7) (.t 12))] (iS [iA 13 (iF 3 3),iA 14 (iL 13),iA 15 (iM 1),iA 16 (iT 8 5),iA 17 (iI 8 14 15),iC (.st 8 [none,none,none,none,none,some (2,253),none,some (4,172)] (.t 17) (.t 16))] (iS [iA 18 (iT 4 3),iA 19 (iT 8 7),iA 20 (iT 8 5),iA 21 (.call 189 [.t 18,.t 19,.t 20]),iC (.st 4 [none,none,some (1,102),some (8,108)] (.t 6) (.t 21))] .ret)))
theorem jf1:fnC Tryz.prog Tryz.f197=some (jdm,[.cell 6 true 4],22):=by kernel_rfl
abbrev jfz (b ty:Nat) (now seq:Int) (x2 x3:Value):Ob:=.box b ty [.a (.v (.int .i64 now)),.a (.v (.int .i64 seq)),.a (.v x2),.a (.v x3)]
theorem jeD {k b:Nat} {y:Yd} {r r2:Rn} (hr:y.runs[k]?=some r) (hrl:r2.tasks.length=r.tasks.length) (hr12:r.tasks.length≤12) (h4:y.shelf.length=4) (hq:1≤y.seq∧y.seq≤4000000000) (ht:jt y≤2000000)
 {o:Nat→Ob} {η2 η3 η5 η7:jp} (h90:o 90=ky b tYd y.now y.seq y.shelf η2 y.runs η3) (h97:o 97=.loose (jA r2.plan.edges) η5) (h98:o 98=.loose (jx r2.tasks) η7):
 Inl Tryz.prog 197 [.agg [.v (.int .i64 y.now),.v (.int .i64 y.seq),.h 90 2 [] (η2 []),.h 90 3 [] (η3 [])],Ni k,.agg [.v (.int .i64 r2.id),.v (.int .i64 r2.plan.prio),.v (.int .i64 r2.plan.most),.v (.int .i64 r2.plan.wait),.v (.int .i64 r2.plan.tasks),.h 97 0 [] (η5 []),.v (.int .i64 r2.state),.h 98 0 [] (η7 [])]] o
  fun av o'=>∃c e2 e3 x2 x3,av=.agg [.v (.int .i64 (qc y k r2).now),.v (.int .i64 (qc y k r2).seq),.h 66 2 [] (e2 []),.h 66 3 [] (e3 [])]∧o' 66=ky c tYd (qc y k r2).now (qc y k r2).seq (qc y k r2).shelf e2 (qc y k r2).runs e3∧o' 90=jfz b tYd y.now y.seq x2 x3∧o' 91=o 91∧o' 92=o 92∧o' 93=o 93∧o' 94=o 94∧o' 95=o 95∧o' 96=o 96:=by
 have hk:=(List.getElem?_eq_some_iff.1 hr).1;have h0k:(k:Int)≥0:=by omega
 refine js7 ?_;refine js8 (β:=5000000) [[1,0],[1,1,0],[1,1,1,0],[1,1,1,1]] Tryz.func197 jf1 (by simp) ?_
 unfold jdm;simp only [C.ghs,C.ghAt,List.foldr];simp only [go_sem,h90,h97,h98];intro c3 c5 c6;refine vh ?_;have hR:jM y.runs=.sl 8 tRn (jbe y.runs k (jd r)):=by rw [jM,jkH hr]
 refine WkK.wk (s':=St.of [(1,Ni k),(3,Bx 3 c3),(5,Bx 5 c5),(6,Bx 66 c6)] [(90,jfz b tYd y.now y.seq (η2 []) (η3 [])),(91,o 91),(92,o 92),(93,o 93),(94,o 94),(95,o 95),(96,o 96),(3,qX c3 _ y.now y.seq y.shelf η2 (jM y.runs) η3),(5,jap c5 _ r2 η5 η7),(66,ZYd c6 _)]) (jk [some 90,some 91,some 92,some 93,some 94,some 95,some 96,some 500000300,some 500000500,some 500000600] (by simp only [go_sem,jb,ja,jd,jQ,h90]<;>and_intros<;>first|rfl|assumption)) ?_
 rw [hR];refine jdM 3 3 (k*8+5) 901 (η:=η3) (cs:=r.plan.edges.flatMap jH) rfl (jaz hk 5 (by simp [jd,ja])) rfl (by decide) fun ηa ηA hA1 hA2 hA3=>?_
 rw [zS hk 5 (by simp [jd,ja])]
 refine jdM 3 3 (k*8+7) 902 (η:=ηA) (cs:=r.tasks.flatMap jn) rfl (jaz hk 7 (by simp [jd,ja])) rfl (by decide) fun ηb ηB hB1 hB2 hB3=>?_
 rw [zS hk 7 (by simp [jd,ja])]
 rw [←hA2,←hB2];rw [←hA2] at hA3;rw [←hB2] at hB3;have hV:((jd r).set 5 (.val (ηa []))).set 7 (.val (ηb []))=rnV r (ηa []) (ηb []):=rfl;rw [hV];refine WkK.wk (s':=St.of [(1,Ni k),(3,Bx 3 c3),(5,Bx 5 c5),(6,Bx 66 c6)] [(90,jfz b tYd y.now y.seq (η2 []) (η3 [])),(91,o 91),(92,o 92),(93,o 93),(94,o 94),(95,o 95),(96,o 96),(3,qX c3 _ y.now y.seq y.shelf η2 (.sl 8 tRn (jbe y.runs k (rnV r (ηa []) (ηb [])))) ηB),(5,jap c5 _ r2 η5 η7),(66,ZYd c6 _),(901,.loose (jA r.plan.edges) ηa),(902,.loose (jx r.tasks) ηb)]) (jk [some 90,some 91,some 92,some 93,some 94,some 95,some 96,some 3,some 5,some 66,some 901,some 902] (by simp only [go_sem,jb,ja,jd,jQ]<;>and_intros<;>first|rfl|assumption)) ?_
 refine WkK.of ?_;have hl1:(jbe y.runs k (rnV r (ηa []) (ηb []))).length=y.runs.length*8:=jhK hk rfl;have hd8:y.runs.length*8/8=y.runs.length:=Nat.mul_div_cancel _ (by decide)
 have ha1:((jbe y.runs k (rnV r (ηa []) (ηb []))).drop (k*8)).take 8=rnV r (ηa []) (ηb []):=jsl hk rfl;have hi8:k*8+8≤y.runs.length*8:=by omega
 have hdl:(D.sl 8 tRn (jbe y.runs k (rnV r (ηa []) (ηb [])))).len=y.runs.length:=jl5 hk rfl;simp only [go_sem,hl1,hdl,ha1,hi8,hk,h0k,hA3,hB3];intro c7;refine vh ?_;refine WkK.wk (s':=St.of [(1,Ni k),(3,Bx 3 c3),(5,Bx 5 c5),(6,Bx 66 c6),(7,Bx 7 c7)] [(90,jfz b tYd y.now y.seq (η2 []) (η3 [])),(91,o 91),(92,o 92),(93,o 93),(94,o 94),(95,o 95),(96,o 96),(3,qX c3 _ y.now y.seq y.shelf η2 (.sl 8 tRn (jbe y.runs k (rnV r (ηa []) (ηb [])))) ηB),(5,jap c5 _ r2 η5 η7),(66,ZYd c6 _),(7,jng c7 _ r (ηa []) (ηb [])),(901,.loose (jA r.plan.edges) ηa),(902,.loose (jx r.tasks) ηb)]) (jk [some 90,some 91,some 92,some 93,some 94,some 95,some 96,some 3,some 5,some 66,some 500000700,some 901,some 902] (by simp only [go_sem,jb,ja,jd,jQ]<;>and_intros<;>first|rfl|assumption)) ?_
 refine vo 7 5 901 (d:=jA r.plan.edges) (η:=ηa) rfl rfl rfl ?_;refine vo 7 7 902 (d:=jx r.tasks) (η:=ηb) rfl rfl rfl ?_;refine vi 5 5 903 (d:=jA r2.plan.edges) (η:=η5) rfl rfl (by decide) fun hx5=>?_
 refine vi 5 7 904 (d:=jx r2.tasks) (η:=η7) rfl rfl (by decide) fun hx7=>?_
 refine WkK.of ?_;simp only [go_sem,hl1,hdl,ha1,hi8,hk,h0k,hx5,hx7];refine jw7 fun ηC=>?_
 have hput:D.put [] (k*8) (rnH r2 (η5 []) (η7 [])) (.sl 8 tRn (jbe y.runs k (rnV r (ηa []) (ηb []))))=.sl 8 tRn (jbe y.runs k (rnH r2 (η5 []) (η7 []))):=by
  simp only [D.put];rw [juX hk rfl rfl]
 refine vh ?_;refine WkK.wk (s':=St.of [(1,Ni k),(3,Bx 3 c3),(5,Bx 5 c5),(6,Bx 66 c6),(7,Bx 7 c7)] [(90,jfz b tYd y.now y.seq (η2 []) (η3 [])),(91,o 91),(92,o 92),(93,o 93),(94,o 94),(95,o 95),(96,o 96),(3,qX c3 _ y.now y.seq y.shelf η2 (.sl 8 tRn (jbe y.runs k (rnH r2 (η5 []) (η7 [])))) ηC),(5,jng c5 _ r2 (η5 []) (η7 [])),(66,ZYd c6 _),(7,jap c7 _ r ηa ηb),(903,.loose (jA r2.plan.edges) η5),(904,.loose (jx r2.tasks) η7)]) (jk [some 90,some 91,some 92,some 93,some 94,some 95,some 96,some 3,some 5,some 66,some 7,some 903,some 904] (by simp only [go_sem,jb,ja,jd,hput,jQ]<;>and_intros<;>first|rfl|assumption)) ?_
 refine vo 5 5 903 (d:=jA r2.plan.edges) (η:=η5) rfl rfl rfl ?_;refine vo 5 7 904 (d:=jx r2.tasks) (η:=η7) rfl rfl rfl ?_;generalize hdR:D.sl 8 tRn (jbe y.runs k (rnH r2 (η5 []) (η7 [])))=dR at*;refine WkK.wk (s':=St.of [(1,Ni k),(3,Bx 3 c3),(5,Bx 5 c5),(6,Bx 66 c6),(7,Bx 7 c7)] [(90,jfz b tYd y.now y.seq (η2 []) (η3 [])),(91,o 91),(92,o 92),(93,o 93),(94,o 94),(95,o 95),(96,o 96),(3,qX c3 _ y.now y.seq y.shelf η2 dR ηC),(5,jap c5 _ r2 η5 η7),(66,ZYd c6 _),(7,jap c7 _ r ηa ηb)]) (jk [some 90,some 91,some 92,some 93,some 94,some 95,some 96,some 3,some 5,some 66,some 7] (by simp only [go_sem,jb,ja,jd,jQ]<;>and_intros<;>first|rfl|assumption)) ?_
 refine WkK.of ?_;simp only [go_sem,jb,ja,jd];refine kT (qW (β:=7000000) Tryz.func189 jbz (by simp) ?_)
 unfold jbr;simp only [go_sem,jf,jn];intro d3 d4 d5 d6;refine jc (jdf r2.id) (by simp only [go_sem,jd,ja]) fun η=>?_
 simp only [go_sem,jd,ja];obtain ⟨hsn,hs4⟩:=jA9 r2.id;rw [hsn];have hLY:qc y k r2=⟨y.now,(zU r2.plan.prio r2.id (jbi r.tasks r2.tasks r2.tasks.length) ((y.shelf[shN r2.id]?).getD default,y.seq)).2,y.shelf.set (shN r2.id) (zU r2.plan.prio r2.id (jbi r.tasks r2.tasks r2.tasks.length) ((y.shelf[shN r2.id]?).getD default,y.seq)).1,y.runs.set k r2⟩:=by rw [qc,hr,Option.getD_some];rfl
 rw [hLY];generalize shN r2.id=n at*;have hn:n<y.shelf.length:=by omega
 have h0n:(n:Int)≥0:=by omega
 obtain ⟨l,hl⟩:=je hn;have hll:=vQ ht (List.mem_of_getElem? hl);rw [hl,Option.getD_some];refine jq (fun i:Nat×jp=>St.of [(3,Bx 3 d3),(4,Bx 4 d4),(5,Bx 5 d5),(6,Bx 6 d6),(7,Ni n),(8,Ni i.1)] [(90,jfz b tYd y.now y.seq (η2 []) (η3 [])),(91,o 91),(92,o 92),(93,o 93),(94,o 94),(95,o 95),(96,o 96),(66,ZYd c6 _),(3,qX d3 _ y.now (zU r2.plan.prio r2.id (jbi r.tasks r2.tasks i.1) (l,y.seq)).2 (y.shelf.set n (zU r2.plan.prio r2.id (jbi r.tasks r2.tasks i.1) (l,y.seq)).1) i.2 dR ηC),(4,jap d4 _ r ηa ηb),(5,jap d5 _ r2 η5 η7),(6,ZYd d6 _)]) (fun i=>i.1≤r2.tasks.length) (fun i=>r2.tasks.length-i.1) (0,η2) (by (try dsimp only);first|omega|(simp;done)|(and_intros<;>first|omega|simp)) (jk [some 90,some 91,some 92,some 93,some 94,some 95,some 96,some 66,some 700000300,some 700000400,some 700000500,some 700000600] (by simp only [go_sem,jb,ja,jd,jwx,jhS,zR hl,jQ]<;>and_intros<;>first|rfl|assumption)) ?_
 rintro ⟨j,η⟩ hj;dsimp only at hj;have hsq:=jcN r2.plan.prio r2.id (jbi r.tasks r2.tasks j) (l,y.seq);have hle:=jcO r2.plan.prio r2.id (jbi r.tasks r2.tasks j) (l,y.seq);have hnl:=jew r.tasks r2.tasks j;have hsnoc:=jez r2.plan.prio r2.id (jbi r.tasks r2.tasks j) j (l,y.seq);have hnx:=jww r.tasks r2.tasks j;dsimp only at hsq hle;by_cases hlt:j<r2.tasks.length
 ·have hlt':(j:Int)<r2.tasks.length:=by omega
  have hltw:j<r.tasks.length:=by omega
  have hltw':(j:Int)<r.tasks.length:=by omega
  have h0j:(j:Int)≥0:=by omega
  obtain ⟨x,hx⟩:=je hlt;obtain ⟨z,hz⟩:=je hltw;have hw:IntKind.i64.wrap ((j:Int)+1)=((j+1:Nat):Int):=jo (by omega) (by omega)
  rw [jxL hx hz] at hnx;have hw2:IntKind.i64.wrap ((zU r2.plan.prio r2.id (jbi r.tasks r2.tasks j) (l,y.seq)).2+1)=(zU r2.plan.prio r2.id (jbi r.tasks r2.tasks j) (l,y.seq)).2+1:=jo (by omega) (by omega)
  generalize hPe:zU r2.plan.prio r2.id (jbi r.tasks r2.tasks j) (l,y.seq)=P at*;obtain ⟨sh,hsh⟩:∃s,y.shelf.set n P.1=s:=⟨_,rfl⟩;have hSl:sh[n]?=some P.1:=by rw [←hsh];exact List.getElem?_set_self hn
  have hns:n<sh.length:=by rw [←hsh,List.length_set];exact hn
  have hss:∀L,sh.set n L=y.shelf.set n L:=fun L=>by rw [←hsh,List.set_set]
  have hi1:n+1≤(sh.flatMap fun es=>[ji es]).length:=by have:=jaB hns;rwa [Nat.mul_one] at this
  have hb1:((sh.flatMap fun es=>[ji es]).drop n).take 1=[ji P.1]:=by have:=jbu hSl;rwa [Nat.mul_one] at this
  rw [hsh];cases h2:x.state !=2
  ·have h2':(x.state==2)=true:=by have:x.state=2:=by simpa using h2
                                  simp [this]
   rw [h2',Bool.true_and] at hnx;cases h3:z.state==2
   ·rw [h3,Bool.not_false,if_pos rfl] at hnx
    rw [←hnx] at hsnoc;simp only [go_sem,ja,jd,jn,hlt',h0j,hlt,hltw,hltw',zK hx,ve hx,vZ hx,qx hx,zK hz,ve hz,vZ hz,qx hz,h2,h3];simp only [go_sem,hns,Nat.mul_one,hb1,hi1,h0n];refine jc (jah P.1 ⟨r2.plan.prio,P.2,r2.id,j⟩ (by omega)) (by simp only [go_sem,jf,kb hSl]) fun ηp=>?_
    simp only [go_sem,jf,kb hSl];simp only [go_sem,hns,Nat.mul_one,hi1,hb1,h0n,jaf,hw2,hw,hss];refine fun η' hη'=>?_
    exact ⟨(j+1,η'),by (try dsimp only);first|omega|assumption|(and_intros<;>first|omega|assumption),(jk [some 90,some 91,some 92,some 93,some 94,some 95,some 96,some 66,some 3,some 4,some 5,some 6] (by simp only [go_sem,jb,ja,jd,hsnoc,jQ]<;>and_intros<;>first|rfl|assumption)),by (try dsimp only);omega⟩
   ·rw [h3,Bool.not_true,if_neg (by decide),List.append_nil] at hnx
    simp only [go_sem,ja,jd,jn,hlt',h0j,hlt,hltw,hltw',zK hx,ve hx,vZ hx,qx hx,zK hz,ve hz,vZ hz,qx hz,h2,h3,hw];exact ⟨(j+1,η),by (try dsimp only);first|omega|assumption|(and_intros<;>first|omega|assumption),(jk [some 90,some 91,some 92,some 93,some 94,some 95,some 96,some 66,some 3,some 4,some 5,some 6] (by simp only [go_sem,jb,ja,jd,hnx,hPe,hsh,jQ]<;>and_intros<;>first|rfl|assumption)),by (try dsimp only);omega⟩
  ·have h2':(x.state==2)=false:=by simpa using h2
   rw [h2',Bool.false_and,if_neg (by decide),List.append_nil] at hnx
   simp only [go_sem,ja,jd,jn,hlt',h0j,hlt,zK hx,ve hx,vZ hx,qx hx,h2,hw];exact ⟨(j+1,η),by (try dsimp only);first|omega|assumption|(and_intros<;>first|omega|assumption),(jk [some 90,some 91,some 92,some 93,some 94,some 95,some 96,some 66,some 3,some 4,some 5,some 6] (by simp only [go_sem,jb,ja,jd,hnx,hPe,hsh,jQ]<;>and_intros<;>first|rfl|assumption)),by (try dsimp only);omega⟩
 obtain rfl:j=r2.tasks.length:=by omega
 have hlt':¬((r2.tasks.length:Nat):Int)<r2.tasks.length:=by omega
 generalize zU r2.plan.prio r2.id (jbi r.tasks r2.tasks r2.tasks.length) (l,y.seq)=P at*;simp only [go_sem,hlt',ja,jd];refine vh ?_;subst hdR;refine WkK.wk (s':=St.of [(6,Bx 66 c6)] [(90,jfz b tYd y.now y.seq (η2 []) (η3 [])),(91,o 91),(92,o 92),(93,o 93),(94,o 94),(95,o 95),(96,o 96),(66,qX c6 _ y.now P.2 (y.shelf.set n P.1) η (.sl 8 tRn (jbe y.runs k (rnH r2 (η5 []) (η7 [])))) ηC),(5,jap d5 _ r2 η5 η7)]) (jk [some 90,some 91,some 92,some 93,some 94,some 95,some 96,some 66,some 5] (by simp only [go_sem,ja,jd,jQ]<;>and_intros<;>first|rfl|assumption)) ?_
 refine vi 5 5 901 (d:=jA r2.plan.edges) (η:=η5) rfl rfl (by decide) fun _=>?_
 refine vi 5 7 902 (d:=jx r2.tasks) (η:=η7) rfl rfl (by decide) fun _=>?_
 refine qM 66 3 (k*8+5) 901 (η:=ηC) (η2:=η5) (cs:=r2.plan.edges.flatMap jH) rfl (jaz hk 5 (by simp)) (.inr rfl) rfl (by decide) fun ηD _=>?_
 rw [zS hk 5 (by simp)]
 refine qM 66 3 (k*8+7) 902 (η:=ηD) (η2:=η7) (cs:=r2.tasks.flatMap jn) rfl (jaz hk 7 (by simp)) (.inr rfl) rfl (by decide) fun ηE _=>?_
 rw [zS hk 7 (by simp)]
 have hrow:(List.set (List.set (rnH r2 (η5 []) (η7 [])) 5 (.sl 2 tEd (r2.plan.edges.flatMap jH))) 7 (.sl 4 tTk (r2.tasks.flatMap jn)))=jd r2:=rfl;rw [hrow,jkG hk];refine WkK.of ?_;simp only [go_sem,jb];refine WkK.wk (s':=St.of [] [(66,ky c6 tYd y.now P.2 (y.shelf.set n P.1) η (y.runs.set k r2) ηE),(90,jfz b tYd y.now y.seq (η2 []) (η3 [])),(91,o 91),(92,o 92),(93,o 93),(94,o 94),(95,o 95),(96,o 96)]) (jk [some 66,some 90,some 91,some 92,some 93,some 94,some 95,some 96] (by simp only [go_sem,jQ]<;>and_intros<;>first|rfl|assumption)) ?_
 refine WkK.of ⟨c6,η,ηE,η2 [],η3 [],rfl,rfl,rfl,rfl,rfl,rfl,rfl,rfl,rfl⟩
end Go.Proofs.YtmnpailnelmpiaaGreat
