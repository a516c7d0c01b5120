/- The law FnExactCommit holds for every input: the program's Commit returns what the reference's returns. No condition. -/
import Derived.Test.YtekegiiikglhbaaGreatQDatE
import Derived.Below
import Derived.OpenShut
set_option linter.all false
set_option maxHeartbeats 8000000
set_option maxRecDepth 100000
namespace Go.Proofs.YtekegiiikglhbaaGreat
open Go.RowKit Go.Sort
theorem joU {s:St} {K:St->Prop} (n:Nat) {g c:Nat} {p:List Nat} {x:Value} (h:s.t n=.c (.h g c p x)) (hk:x.oneCell'=true->WkK ⟨λk=>if k=n then .c (.v x) else s.t k,s.o⟩ K):WkK s K:=by
 intro B N w0 w a F hr;have V:=hr.sl n;rw [h] at V;obtain ⟨e1,e2⟩:_=x/\x.oneCell'=true:=V;refine hk e2 _ _ _ _ _ _ ⟨hr.below,hr.hB,hr.df,hr.sz,λk=>?_,hr.ob,hr.fr,hr.dj⟩
 by_cases e:k=n
 ·subst e;simp only [if_pos];exact e1
 ·simp only [if_neg e];exact hr.sl k
def qH:C:=iS [iA 1 (.box 31 10 (.t 0)),aO 2 false] (iS [aN 3 1048576] (iS [aT 14 10 1,aM 15 3,iA 16 (iK 4 [14,15]),aM 3 16] (.seq (iS [aM 17 3,aQ 18 .lss 3 17 0] (iD 18 (iS [aO 2 true] .ret) .skip)) (iS [aT 20 10 1,iA 21 (iK 6 [20]),iA 22 (iK 5 [21]),aM 19 22,aE 23 19 0,aE 24 19 1,iA 4 wAL,wAB 4 23,aM 5 24] (iS [aT 25 10 1,iA 26 (iK 6 [25]),iA 6 wAL,wAB 6 26] (iS [aT 28 10 6,iA 29 (iK 7 [28]),aM 27 29,aE 30 27 0,aE 31 27 1,iA 7 wAL,wAB 7 30,aM 8 31] (.seq (iS [aT 32 10 7,aT 33 10 4,iA 34 (iK 8 [32,33]),aU 35 34,aM 36 35,iB 37 36 false (iM 8),iB 38 36 false (iM 5),iB 39 36 false (iK 9 [37,38]),iB 40 36 false (iU 39),iA 41 (iY 36 (oT) (.t 40))] (iD 41 (iS [aO 2 false] .ret) .skip)) (.seq (.seq (.dreg (tA 0 42 (iT 10 6) (tA 1 43 (iT 10 1) (tC 44 (iK 6 [43]) [0] (tC 45 (iK 8 [42,44]) [] (tA 4 46 (iU 45) .done) .stop) .stop)))) (iD 46 (iS [aO 2 false] .ret) .skip)) (iS [aN 9 1] (iS [aT 47 10 6,aM 48 9,iA 49 (iK 10 [47,48]),aM 9 49] (.seq (iS [aM 50 9,aQ 51 .lss 3 50 0,aM 52 51,iB 53 52 false (iT 10 7),iB 54 52 false (iT 10 4),iB 55 52 false (iK 8 [53,54]),iB 56 52 false (iU 55),iA 57 (iY 52 (oT) (.t 56)),aM 58 57,iB 59 58 false (iM 8),iB 60 58 false (iM 5),iB 61 58 false (iK 9 [59,60]),iB 62 58 false (iU 61),iA 63 (iY 58 (oT) (.t 62))] (iD 63 (iS [aO 2 false] .ret) .skip)) (iS [aN 10 1] (iS [aT 64 10 7,aM 65 10,iA 66 (iK 10 [64,65]),aM 10 66] (iS [aM 67 8,aM 68 10,iA 69 (iK 11 [67,68]),aM 10 69] (iS [aN 11 1] (iS [aT 70 10 7,aM 71 11,iA 72 (iK 12 [70,71]),aM 11 72] (.seq (iS [aM 73 11,aQ 74 .lss 3 73 0] (iD 74 (iS [aO 2 false] .ret) .skip)) (iS [aM 75 8,aM 76 11,iA 77 (iK 13 [75,76]),aM 11 77] (.seq (iS [aM 78 11,aQ 79 .lss 3 78 0] (iD 79 (iS [aO 2 false] .ret) .skip)) (.seq (iS [aM 80 11,aM 81 10,aP 82 .neq 3 80 81] (iD 82 (iS [aO 2 false] .ret) .skip)) (iS [aT 84 10 1,iA 85 (iK 6 [84]),iA 86 (iK 7 [85]),aM 83 86,aE 87 83 0,aE 88 83 1,iA 12 wAL,wAB 12 87,aM 13 88] (.seq (iS [aT 89 10 12,aT 90 10 4,iA 91 (iK 8 [89,90]),aU 92 91,aM 93 92,iB 94 93 false (iM 13),iB 95 93 false (iM 5),iB 96 93 false (iK 9 [94,95]),iB 97 93 false (iU 96),iA 98 (iY 93 (oT) (.t 97))] (iD 98 (iS [aO 2 false] .ret) .skip)) (iS [aN 11 1] (iS [aT 99 10 7,aM 100 11,iA 101 (iK 12 [99,100]),aM 11 101] (.seq (iS [aM 102 11,aQ 103 .lss 3 102 0] (iD 103 (iS [aO 2 false] .ret) .skip)) (iS [aM 104 8,aM 105 11,iA 106 (iK 13 [104,105]),aM 11 106] (.seq (iS [aM 107 11,aQ 108 .lss 3 107 0] (iD 108 (iS [aO 2 false] .ret) .skip)) (.seq (iS [aM 109 11,aM 110 10,aP 111 .neq 3 109 110] (iD 111 (iS [aO 2 false] .ret) .skip)) (iS [aO 2 true] .ret)))))))))))))))))))))))))))))
theorem vU:fnC Tryz.prog Tryz.f3=some (qH,[.t 2],112):=by kernel_rfl
abbrev EgO (x:Eg) (e2 e3 e4 e7:jl):List Cell:=[.a (.v (.int .i64 x.yard.now)),.a (.v (.int .i64 x.yard.seq)),.own (jX x.yard.aAE) e2,.own (jC x.yard.aAG) e3,.own (jm x.disk) e4,.a (.v (.int .i64 x.next)),.a (.v (.int .i64 x.calls)),.own (jn x.waits) e7,.a (.v (.int .i64 x.aAD)),.a (.v (.bool x.broken))]
theorem jnF (x:Eg) (hz:egOk x):jR Tryz.prog 3 [.agg (jh x)] (.c (.val (.bool true))):=by
 refine jhJ [[1,1,1,1,1,1,1,1,1,1,0],[1,1,1,1,1,1,1,1,1,1,1,0],[1,1,1,1,1,1,1,1,1,1,1,1,1,0],[1,1,1,1,1,1,1,1,1,1,1,1,1,1,0],[1,1,1,1,1,1,1,1,1,1,1,1,1,1,1,0]] Tryz.func3 vU (by simp) ?_
 unfold qH;simp only [C.ghs,C.ghAt,List.foldr];obtain ⟨z1,z2,z3⟩:=hz;simp only [go_sem,jh];intro b1;refine jg (jjq x 1048576 (by omega) (by omega) z1 z2 z3) (by simp only [go_sem,jh]) λη=>?_
 simp only [go_sem,jh];rcases jO (jft x) (1048576) with ⟨sM,fD⟩|⟨sM,fD⟩;rotate_left
 ·have h7:((-1:Int)<0)=True:=by simp
  simp only [go_sem,fD,h7]
 have hT:jft x=jG x.yard+kW x.disk+x.waits.length:=rfl;have hF:kW x.disk=x.disk.length+jP zj x.disk:=rfl;have rQ:jG x.yard<=2000000:=by omega
 have uW:x.disk.length<=2000000:=by omega
 have t8:x.waits.length<=2000000:=by omega
 have yD:=b_yd x.yard;have wW:x.yard.aAE.length<=jG x.yard:=by simp only [jG,vl];omega
 have w7:x.yard.aAG.length<=jG x.yard:=by simp only [jG,qE];omega
 have z9:((cE x:Nat):Int)=(cYd x.yard:Nat)+3*(x.disk.length:Int)+5*(x.waits.length:Int):=by simp only [cE];omega
 have hU:¬(1048576-(jft x:Int)<0):=by omega
 have pS:=jfE x rQ uW t8;have pI:=jfL x rQ uW t8;have tT:(jeu x).1.disk.length=x.disk.length:=by unfold jeu;split<;>(try split)<;>first|rfl|exact jkG _ _
 have yK:(jeu x).1.waits.length<=x.waits.length:=by unfold jeu;split<;>(try split)<;>simp [jqt]
 have yL:(jeu x).2.length<=x.waits.length:=by unfold jeu;split<;>(try split)<;>simp
 have rF:(jeu x).1.yard=x.yard:=by unfold jeu;split<;>(try split)<;>rfl
 generalize jeu x=rc at*;obtain ⟨r,ws⟩:=rc;dsimp only at tT yK yL rF pS pI;have z8:((cE r:Nat):Int)<=(cE x:Nat):=by simp only [cE,tT,rF];omega
 have yV:r.yard.aAE.length<=4000000:=by rw [rF];omega
 have yW:r.yard.aAG.length<=4000000:=by rw [rF];omega
 have pT:=jjp x rQ (by omega) (by omega)
 have pE:=jee r (by rw [tT];omega) (by omega)
 have pX:=jee x (by omega) (by omega)
 have pW:=jgF ws ws (by omega)
 rw [show decide (ws=ws)=true from decide_eq_true rfl] at pW
 simp only [go_sem,fD,hU,jh];refine jg (pT) (by simp only [go_sem,jh]) λeI=>?_
 simp only [go_sem,jh];refine jg (pS) (by simp only [go_sem,jh]) λbC=>?_
 simp only [go_sem,jh];intro b4;refine jg (pT) (by simp only [go_sem,jh]) λdE=>?_
 simp only [go_sem,jh];intro b5;refine jg (pI) (by simp only [go_sem,jh]) λbD=>?_
 simp only [go_sem,jh];intro b6;refine jg (pE) (by simp only [go_sem,jh,Bool.not_true]) λgR=>?_
 simp only [go_sem,jh,Bool.not_true];refine jg (pW) (by simp only [go_sem,Bool.not_true]) λpN=>?_
 simp only [go_sem,Bool.not_true];refine jg (pT) (by simp only [go_sem,jh]) λrH=>?_
 simp only [go_sem,jh];refine jg (pX) (by simp only [go_sem,jh,Bool.not_true]) λlP=>?_
 simp only [go_sem,jh,Bool.not_true];refine jdS ?_;refine WkK.wk (s':=St.of [(1,Bx 90 b1),(4,Bx 91 b4),(5,Hd 88 (bC 10)),(6,Bx 87 b5),(7,Bx 93 b6),(8,Hd 92 (bD 10)),(9,Ni 1)] [(90,Bi b1 _ (jh x)),(91,.box b4 tEg (EgO r (bC 2) (bC 3) (bC 4) (bC 7))),(87,.box b5 tEg (EgO x (dE 2) (dE 3) (dE 4) (dE 7))),(93,.box b6 tEg (EgO r (bD 2) (bD 3) (bD 4) (bD 7))),(88,.loose (jn ws) (bC 10)),(92,.loose (jn ws) (bD 10))]) (jJ [100,400,600,700,2210,2910] (by simp only [go_sem,EgO,EgC,jh,jH]<;>trivial)) ?_
 refine qT 87 2 94 (d:=jX x.yard.aAE) (η:=dE 2) rfl rfl (by decide) λx2=>?_
 refine qT 87 3 95 (d:=jC x.yard.aAG) (η:=dE 3) rfl rfl (by decide) λx3=>?_
 refine qT 87 4 96 (d:=jm x.disk) (η:=dE 4) rfl rfl (by decide) λx4=>?_
 refine qT 87 7 97 (d:=jn x.waits) (η:=dE 7) rfl rfl (by decide) λx7=>?_
 refine WkK.wk (s':=St.of [(1,Bx 90 b1),(4,Bx 91 b4),(5,Hd 88 (bC 10)),(6,Bx 87 b5),(7,Bx 93 b6),(8,Hd 92 (bD 10)),(9,Ni 1)] [(90,Bi b1 _ (jh x)),(91,.box b4 tEg (EgO r (bC 2) (bC 3) (bC 4) (bC 7))),(87,.box b5 tEg (EgC x (dE 2 []) (dE 3 []) (dE 4 []) (dE 7 []))),(93,.box b6 tEg (EgO r (bD 2) (bD 3) (bD 4) (bD 7))),(88,.loose (jn ws) (bC 10)),(92,.loose (jn ws) (bD 10)),(94,.loose (jX x.yard.aAE) (dE 2)),(95,.loose (jC x.yard.aAG) (dE 3)),(96,.loose (jm x.disk) (dE 4)),(97,.loose (jn x.waits) (dE 7))]) (jJ [90,91,87,93,88,92,94,95,96,97] (by simp only [go_sem,EgO,EgC,jh,jH]<;>trivial)) ?_
 refine WkK.of ?_;simp only [go_sem,EgC,x2,x3,x4,x7];refine qQ (by simp only [go_sem,EgV]) (jap x 1 _ (dE 2) (dE 3) (dE 4) (dE 7) (by omega) (by omega) (by omega) (by omega) (by simp only [go_sem]) (by simp only [go_sem]) (by simp only [go_sem]) (by simp only [go_sem]) x2 x3 x4 x7) λava oa ⟨tM,⟨f2a,f3a,xY,xX,p4a,p5a⟩,p6a,p7a,p90a,p91a,p92a,p93a,p88a⟩=>?_
 simp only [go_sem] at p90a p91a p92a p93a p88a;subst tM;refine jdS ?_;refine WkK.wk (s':=St.of [(1,Bx 90 b1),(4,Bx 91 b4),(5,Hd 88 (bC 10)),(7,Bx 93 b6),(8,Hd 92 (bD 10)),(9,Ni (1+((cE x:Nat):Int)))] [(90,Bi b1 _ (jh x)),(91,.box b4 tEg (EgO r (bC 2) (bC 3) (bC 4) (bC 7))),(93,.box b6 tEg (EgO r (bD 2) (bD 3) (bD 4) (bD 7))),(88,.loose (jn ws) (bC 10)),(92,.loose (jn ws) (bD 10))]) (jJ [90,91,93,88,92] (by simp only [go_sem,EgO,EgC,jh,jH,p90a,p91a,p92a,p93a,p88a]<;>trivial)) ?_
 refine WkK.of ?_;have dB:¬(1+((cE x:Nat):Int)<0):=by omega
 have gA:¬(1+((cE r:Nat):Int)<0):=by omega
 have nD:¬(1+((cE r:Nat):Int)+5*(ws.length:Int)<0):=by omega
 simp only [go_sem,dB,EgO];refine jg (pE) (by simp only [go_sem,jh,Bool.not_true]) λfQ=>?_
 simp only [go_sem,jh,Bool.not_true];refine jg (pW) (by simp only [go_sem,Bool.not_true]) λyR=>?_
 simp only [go_sem,Bool.not_true];refine jdS ?_;refine WkK.wk (s':=St.of [(1,Bx 90 b1),(4,Bx 91 b4),(5,Hd 88 (bC 10)),(7,Bx 93 b6),(8,Hd 92 (bD 10)),(10,Ni 1)] [(90,Bi b1 _ (jh x)),(91,.box b4 tEg (EgO r (bC 2) (bC 3) (bC 4) (bC 7))),(93,.box b6 tEg (EgO r (bD 2) (bD 3) (bD 4) (bD 7))),(88,.loose (jn ws) (bC 10)),(92,.loose (jn ws) (bD 10))]) (jJ [90,91,93,88,92] (by simp only [go_sem,EgO,EgC,jh,jH]<;>trivial)) ?_
 refine qT 93 2 94 (d:=jX r.yard.aAE) (η:=bD 2) rfl rfl (by decide) λy2=>?_
 refine qT 93 3 95 (d:=jC r.yard.aAG) (η:=bD 3) rfl rfl (by decide) λy3=>?_
 refine qT 93 4 96 (d:=jm r.disk) (η:=bD 4) rfl rfl (by decide) λy4=>?_
 refine qT 93 7 97 (d:=jn r.waits) (η:=bD 7) rfl rfl (by decide) λy7=>?_
 refine WkK.wk (s':=St.of [(1,Bx 90 b1),(4,Bx 91 b4),(5,Hd 88 (bC 10)),(7,Bx 93 b6),(8,Hd 92 (bD 10)),(10,Ni 1)] [(90,Bi b1 _ (jh x)),(91,.box b4 tEg (EgO r (bC 2) (bC 3) (bC 4) (bC 7))),(93,.box b6 tEg (EgC r (bD 2 []) (bD 3 []) (bD 4 []) (bD 7 []))),(88,.loose (jn ws) (bC 10)),(92,.loose (jn ws) (bD 10)),(94,.loose (jX r.yard.aAE) (bD 2)),(95,.loose (jC r.yard.aAG) (bD 3)),(96,.loose (jm r.disk) (bD 4)),(97,.loose (jn r.waits) (bD 7))]) (jJ [90,91,93,88,92,94,95,96,97] (by simp only [go_sem,EgO,EgC,jh,jH]<;>trivial)) ?_
 refine WkK.of ?_;simp only [go_sem,EgC,y2,y3,y4,y7];refine qQ (by simp only [go_sem,EgV]) (jap r 1 _ (bD 2) (bD 3) (bD 4) (bD 7) (by omega) (by omega) (by omega) (by omega) (by simp only [go_sem]) (by simp only [go_sem]) (by simp only [go_sem]) (by simp only [go_sem]) y2 y3 y4 y7) λavb ob ⟨tL,⟨f2b,f3b,sX,sW,p4b,p5b⟩,p6b,p7b,p90b,p91b,p92b,p93b,p88b⟩=>?_
 simp only [go_sem] at p90b p91b p92b p93b p88b;subst tL;refine jdS ?_;refine WkK.wk (s':=St.of [(1,Bx 90 b1),(4,Bx 91 b4),(5,Hd 88 (bC 10)),(7,Bx 93 b6),(8,Hd 92 (bD 10)),(10,Ni (1+((cE r:Nat):Int)))] [(90,Bi b1 _ (jh x)),(91,.box b4 tEg (EgO r (bC 2) (bC 3) (bC 4) (bC 7))),(93,.box b6 tEg (EgC r (f2b []) (f3b []) (bD 4 []) (bD 7 []))),(88,.loose (jn ws) (bC 10)),(92,.loose (jn ws) (bD 10)),(94,.loose (jX (jhx r 1).yard.aAE) f2b),(95,.loose (jC (jhx r 1).yard.aAG) f3b),(96,.loose (jm (jhx r 1).disk) (bD 4)),(97,.loose (jn (jhx r 1).waits) (bD 7))]) (jJ [90,91,93,88,92,94,95,96,97] (by simp only [go_sem,EgO,EgC,jh,jH,p90b,p91b,p92b,p93b,p88b,p4b,p5b,p6b,p7b,sX,sW]<;>trivial)) ?_
 refine vq 93 2 94 (d:=jX (jhx r 1).yard.aAE) (η:=f2b) rfl rfl rfl ?_;refine vq 93 3 95 (d:=jC (jhx r 1).yard.aAG) (η:=f3b) rfl rfl rfl ?_;refine vq 93 4 96 (d:=jm (jhx r 1).disk) (η:=bD 4) rfl rfl rfl ?_;refine vq 93 7 97 (d:=jn (jhx r 1).waits) (η:=bD 7) rfl rfl rfl ?_;refine joU 8 rfl λx8=>?_
 refine WkK.wk (s':=St.of [(1,Bx 90 b1),(4,Bx 91 b4),(5,Hd 88 (bC 10)),(7,Bx 93 b6),(8,.c (.v (bD 10 []))),(10,Ni (1+((cE r:Nat):Int)))] [(90,Bi b1 _ (jh x)),(91,.box b4 tEg (EgO r (bC 2) (bC 3) (bC 4) (bC 7))),(93,.box b6 tEg (EgO (jhx r 1) f2b f3b (bD 4) (bD 7))),(88,.loose (jn ws) (bC 10)),(97,.loose (jn ws) (bD 10))]) (jJ [90,91,93,88,92] (by simp only [go_sem,EgO,EgC,jh,jH]<;>trivial)) ?_
 refine WkK.of ?_;simp only [go_sem,x8];refine qQ (by simp only [go_sem]) (jbl ws (1+((cE r:Nat):Int)) _ (bD 10) (by omega) (by omega) (by simp only [go_sem]) x8) λavc oc ⟨tK,sB,⟨k89,k90,k91,k92,k93,k94,k95,k88⟩,k96⟩=>?_
 simp only [go_sem] at k90 k91 k93 k88;subst tK;refine jdS ?_;refine WkK.wk (s':=St.of [(1,Bx 90 b1),(4,Bx 91 b4),(5,Hd 88 (bC 10)),(7,Bx 93 b6),(8,Hd 97 (bD 10)),(10,Ni (1+((cE r:Nat):Int)+5*(ws.length:Int)))] [(90,Bi b1 _ (jh x)),(91,.box b4 tEg (EgO r (bC 2) (bC 3) (bC 4) (bC 7))),(93,.box b6 tEg (EgO (jhx r 1) f2b f3b (bD 4) (bD 7))),(88,.loose (jn ws) (bC 10)),(97,.loose (jn (jef ws (1+((cE r:Nat):Int)))) (bD 10))]) (jJ [90,91,93,88,97] (by simp only [go_sem,EgO,EgC,jh,jH,k90,k91,k93,k88,sB,x8]<;>trivial)) ?_
 refine WkK.of ?_;have pH:=jgE r 1 (by omega) (by omega) (by omega) (by omega)
 have pV:=jed ws (1+((cE r:Nat):Int)) (by omega) (by omega)
 simp only [go_sem,EgO];refine jg (pH) (by simp only [go_sem,jh,gA]) λyS=>?_
 simp only [go_sem,jh,gA];refine jg (pV) (by simp only [go_sem,nD,aBG]) λyP=>?_
 simp only [go_sem,nD,aBG];refine jg (pT) (by simp only [go_sem,jh]) λwC=>?_
 simp only [go_sem,jh];refine jg (pI) (by simp only [go_sem,jh]) λv9=>?_
 simp only [go_sem,jh];intro b10;refine jg (pE) (by simp only [go_sem,jh,Bool.not_true]) λv8=>?_
 simp only [go_sem,jh,Bool.not_true];refine jg (pW) (by simp only [go_sem,Bool.not_true]) λyO=>?_
 simp only [go_sem,Bool.not_true];refine jg (pH) (by simp only [go_sem,jh,gA]) λv6=>?_
 simp only [go_sem,jh,gA];refine jg (pV) (by simp only [go_sem,nD,aBG]) λyQ=>?_
 simp only [go_sem,nD,aBG]
open Go.ChangeShapes Go.WideShapes Go.ChangeAt Go.RowKit
theorem own:ownKnob Tryz.prog.godebug=none:=by kernel_rfl
theorem laid:laidOutB Tryz.prog=true:=by kernel_rfl
section
variable {H:Type} {enc:TypeId×Value->H} {P:Program}
theorem jjn {f:Func} {s:ChangeSpec} {apart vb iR again:Bool} {W W':World} {args:Array Value} {v:Value} {ds gs:List (DataW H)} {before pa pv:List MemPlace}
 (hW:DataW.Whole enc P f.params.toList s.vars apart W args.toList ds gs before)
 (oA:∀(b:Nat) (sp:Nat->Bool) (hd:Bool),DataW.TrodAll enc P W' b sp hd f.resultTypes.toList (v.resultList f.resultTypes.size) (s.fn H (ds++gs)).results [])
 (bO:∀sp:Nat->Bool,(∀p∈before,sp p.block=true)->DataW.TrodAll enc P W' 0 sp true f.params.toList args.toList (s.fn H (ds++gs)).args pa)
 (i8:∀sp:Nat->Bool,(∀p∈before,sp p.block=true)->DataW.TrodVars enc P W' sp s.vars (s.fn H (ds++gs)).vars pv)
 (lC:before=pa++pv) (Z:Below W.heap.size W W')
 (xE:∀(j:Nat) (t:TypeId) (r:Value),f.resultTypes[j]?=some t->(v.resultList f.resultTypes.size)[j]?=some r->Value.okWide P W' .any 0 t r):
 s.post enc P f apart vb iR again W args v W':=by
 have aC:∀p∈before,p.block<W.heap.size:=λp hp=>hW.lt p hp
 have oD:∀p∈before,(λb=>decide (b<W.heap.size)) p.block=true:=λp hp=>by simpa using aC p hp
 refine ⟨ds,gs,before,[],pa,pv,hW,oA _ _ _,bO _ oD,i8 _ oD,World.keptBut_mono (λp hp=>⟨hp,?_⟩) (Z.frame (· ∈before)),λ_=>?_⟩
 ·rw [lC,aAS] at hp
  exact Or.inr hp
 ·obtain ⟨_,_,_,_,_,hz,hn⟩:=hW
  refine ⟨xE,_,_,([]++pa)++pv,⟨[]++pa,pv,trodAll_append (bO _ (λ_ _=>rfl)) (oA _ _ _),i8 _ (λ_ _=>rfl),rfl,?_,?_⟩,?_⟩
  ·intro b off hp
   have dM:MemPlace.cell b off∈before:=by rw [lC];simpa using hp
   rw [Z.frozen (aC _ dM)];exact hz b off dM
  ·intro ha
   have:=hn ha;rw [lC] at this;simpa using this
  ·intro p hp _
   rw [lC];simpa using hp
theorem jmx {t:TypeId} (hl:laidOutB P=true) (hr:P.readableRec t=true) (dF:t<P.types.size) {W W':World} {v:Value} {d:DataW H} {ps:List MemPlace} {sp:Nat->Bool}
 (h:DataW.Trod enc P W 0 (λ_=>true) true t v d ps) (Z:Below W.heap.size W W') (aC:∀x∈ps,x.block<W.heap.size) (fE:∀x∈ps,sp x.block=true):
 DataW.Trod enc P W' 0 sp true t v d ps:=
 WideElems.Trod_stays hl hr dF h (λx hx=>Z.same (aC x hx)) (λx hx=>fE x hx)
end
theorem jlH {H:Type} {enc:TypeId×Value->H} {P:Program} {t:TypeId} {α:Type} {E:α->List D} {X:α->Prop} (l7:ReadsAs P t E X) {fs:Array Field} (ht:P.underlying t=some (.struct fs))
 {W:World} {v:Value} {d:DataW H} {p:List MemPlace} {base:Nat} {spare:Nat->Bool} {bN:Bool} {r:_root_.Go.Reach} {b0:Nat} (hv:Value.okWide P W r b0 t v) (h:DataW.Trod enc P W base spare bN t v d p):
 ∃x,X x/\∃S,AggRep W false (E x) v S:=by
 obtain ⟨cs,rfl,_⟩:=okWide_struct ht hv;obtain ⟨fuel,hf⟩:=h;obtain ⟨x,hx,S,hr⟩:=l7 _ _ _ _ _ _ _ _ _ hf;exact ⟨x,hx,S,_,by simp [Value.cells],hr⟩
theorem jlQ {P:Program} {f:FuncId} {vs:List View} {args:List Value} {w:World} (h:jR P f vs (.c (.val (.bool true)))) (hv:qw w vs args):
 Calls P f args.toArray w λe w'=>e=.returned (.bool true)/\Below w.heap.size w w':=
 (h.2 w args hv).mono λe w' ⟨v,S,he,hr,_,Z⟩=>⟨by rw [he,show v=_ from hr.1],Z⟩
end Go.Proofs.YtekegiiikglhbaaGreat
namespace Go.Proofs.YtekegiiikglhbaaGreat.lawCommit
open Go.ChangeShapes Go.WideShapes Go.ChangeAt Go.RowKit
set_option maxRecDepth 100000 in
theorem lifted (os:Os) (started:os.Started) (H:Type) (enc:TypeId×Value->H):
 ReturnsInHanded {} Tryz.checked os 3 .any (Rows.fnExactCommitSpec.pre6 enc Tryz.prog Tryz.f3 Rows.fnExactCommitRow.domain false) (Rows.fnExactCommitSpec.post enc Tryz.prog Tryz.f3 false true false false):=by
 refine returnsInHanded_of_change (C:=Tryz.checked) own started (by kernel_rfl) Tryz.func3
  (ChangeSpec.witness6 (enc:=enc) (C:=Tryz.checked) false ⟨#[],#[.agg #[.int .i64 0,.int .i64 0,.slice none 0 0,.slice none 0 0,.slice none 0 0,.int .i64 0,.int .i64 0,.slice none 0 0,.int .i64 0,.bool false]],[]⟩ 8 (by kernel_rfl) (by kernel_rfl) (by kernel_rfl) (by kernel_rfl)) ?_
 intro W base args ds gs before i9 hW x9 _;have nQ:∀(j:Nat) t v,Tryz.f3.params[j]?=some t->args[j]?=some v->Value.okWide Tryz.prog W .any base t v:=i9;have tQ:=hW;obtain ⟨p,q,u6,hV,rfl,uS,aY⟩:=hW;have hA:DataW.TrodAll enc Tryz.prog W 0 (λ_=>true) true Tryz.f3.params.toList args.toList ds p:=u6
 rw [Tryz.params3] at hA nQ;obtain ⟨v0,vs0,d0,ds0,p0,q0,bO,rfl,rfl,h0,r0⟩:=trodAll_cons hA;obtain ⟨rfl,rfl,rfl⟩:=trodAll_nil r0;obtain rfl:args=#[v0]:=by cases args;simp_all
 obtain ⟨rfl,rfl⟩:=trodVars_none hV;obtain ⟨b0,wf0,S0,nL⟩:=jlH jpv Tryz.underlying31 (nQ 0 _ v0 rfl rfl) h0;clear u6 i9;simp only [aBO] at tQ;refine (jlQ (args:=[v0]) (jnF b0 wf0) ⟨_,_,rfl,⟨_,nL⟩,rfl⟩).mono λe W' ⟨he,Z⟩=>?_
 subst he;have sJ:∀x∈p0,x.block<W.heap.size:=λx hx=>tQ.lt x (by simp [hx])
 exact ⟨_,rfl,jjn (pa:=(p0++[])) (pv:=[]) tQ (λ_ _ _=>trodAll_mk1 (shut_bool Tryz.underlying4 _)) (λsp fE=>(trodAll_cons_mk (jmx laid (by kernel_rfl) (aBX (by kernel_rfl)) h0 Z sJ (λx hx=>fE x (by simp [hx]))) trodAll_mk0)) (λ_ _=>rfl) (by simp) Z (ok_one (by kernel_rfl) rfl (okWide_bool_mk Tryz.underlying4 _))⟩
theorem proved:Rows.FnExactCommitSaid:=
 OpenClaim.holds_of_wide 3 Tryz.f3 rfl rfl rfl rfl rfl rfl rfl ⟨rfl,rfl,rfl,rfl,rfl⟩ rfl rfl rfl rfl rfl (by as_aux_lemma=>kernel_rfl) Tryz.func3 (by as_aux_lemma=>kernel_rfl)
  (aBX (by as_aux_lemma=>kernel_rfl)) (by unfold Func.isWrapper;first|(rw [if_pos (by decide+kernel)];kernel_rfl)|(rw [if_neg (by decide+kernel)];exact ⟨rfl,rfl⟩))
  (λos started H enc _=>lifted os started H enc)
end Go.Proofs.YtekegiiikglhbaaGreat.lawCommit
