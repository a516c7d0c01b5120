/- Parts. -/
import Derived.Test.YtcehjhiglmifjaaGreatQNumZ
import Derived.Test.YtcehjhiglmifjaaGreatQTextY
set_option linter.all false
set_option maxHeartbeats 8000000
set_option maxRecDepth 100000
namespace Go.Proofs.YtcehjhiglmifjaaGreat
open Go.RowKit Go.Sort
structure RowsNAt {σ α:Type} (rd:σ->α×σ) (m:Nat) (s0:σ) (i:Nat) (E:List α) (s:σ):Prop where
 le:i<=m
 len:E.length=i
 eq:jas rd m ([],s0)=jas rd (m-i) (E,s)
theorem RowsNAt.start {σ α:Type} {rd:σ->α×σ} (m:Nat) (s0:σ):RowsNAt rd m s0 0 [] s0:=⟨aPP _,rfl,rfl⟩
theorem RowsNAt.next {σ α:Type} {rd:σ->α×σ} {m i:Nat} {s0 s:σ} {E:List α} (h:RowsNAt rd m s0 i E s) (hi:i<m):RowsNAt rd m s0 (i+1) (E++[(rd s).1]) (rd s).2:=by
 refine ⟨hi,by simp [h.len],?_⟩
 rw [h.eq,show m-i=m-(i+1)+1 by omega,jas]
theorem RowsNAt.stop {σ α:Type} {rd:σ->α×σ} {m i:Nat} {s0 s:σ} {E:List α} (h:RowsNAt rd m s0 i E s) (hs:i=m):jas rd m ([],s0)=(E,s):=by
 rw [h.eq,hs,aSK];rfl
abbrev jul (L:List Int):=rdSh none (jai L) (λs:Nat×Bool=>s.2) (λs=>(s.1,true))
abbrev jzl (L:List Int):=rdRn none none (jai L) (λs:Nat×Bool=>s.2) (λs=>(s.1,true))
def shR (S:List (List En)) (E:List En):List (List En):=S++E::List.replicate (3-S.length) []
theorem jBW {S:List (List En)} {E:List En} (h:S.length<4):(shR S E).length=4:=by simp only [shR,aOU,aPI,aRW];omega
theorem jBX (S:List (List En)) (E:List En):(shR S E)[S.length]?=some E:=by simp [shR]
theorem jBV (S:List (List En)) (E E':List En):(shR S E).set S.length E'=shR S E':=by simp [shR]
def shQ (S:List (List En)):List (List En):=S++List.replicate (4-S.length) []
theorem shQ_R {S:List (List En)} (h:S.length<4):shQ S=shR S []:=by
 have e:4-S.length=(3-S.length)+1:=by omega
 simp only [shQ,shR,e,List.replicate_succ]
theorem shR_Q {S:List (List En)} (E:List En) (h:S.length<4):shR S E=shQ (S++[E]):=by
 have e:4-(S++[E]).length=3-S.length:=by rw [aOU];show 4-(S.length+1)=_;omega
 rw [shQ,e,shR,aPH];rfl
theorem shQ_4 {S:List (List En)} (h:S.length=4):shQ S=S:=by simp [shQ,h]
theorem jDg {s:St} {g c k:Nat} {x:Value} {R:List D->St->Prop} {η:jg} {sh:List (List En)} {l:List En} (h:sh[k]?=some l):slkK s g c k tEn 4 x R η (ke sh)=(η [k]=x/\∀aH,aH []=η []->R (l.flatMap jj) (s.setO g ((s.o g).putOwn c (jeT sh k x) aH))):=by
 rw [show ke sh=.sl 1 jq4 (sh.flatMap λes=>[jf es]) from rfl,jyW,jii h,jFu,jyw]
 simp only [true_and,and_self];rfl
theorem jwh (l:List Rn) (id st:Int) (p:Pl) (T:List Tk):D.sl 8 tRn (l.flatMap jd++[.val (.int .i64 id),.val (.int .i64 p.aOL),.val (.int .i64 p.aOQ),.val (.int .i64 p.aOP),.val (.int .i64 p.aOD),jn p.aOI,.val (.int .i64 st),ju T])=jG (l++[⟨id,p,st,T⟩]):=jnO l ⟨id,p,st,T⟩
abbrev jyr (b ty:Nat) (id:Int) (p:Pl) (f:jg) (st:Int) (T:List Tk) (η:jg):Ob:=.box b ty [.a (.v (.int .i64 id)),.a (.v (.int .i64 p.aOL)),.a (.v (.int .i64 p.aOQ)),.a (.v (.int .i64 p.aOP)),.a (.v (.int .i64 p.aOD)),.own (jn p.aOI) f,.a (.v (.int .i64 st)),.own (ju T) η]
theorem mks_n {P:Program} {β:Nat} {s:St} {K:St->Prop} {d:Option Nat} {gd:Option (Nat×Bool)} {e size bytes:Nat} {zs:List D} {l c:X} (n:Nat) (h1:s.ev l=.c (.v (.int .i64 (n:Int)))) (h2:s.ev c=.c (.v (.int .i64 (n:Int)))) (h3:bytes*n<=281474976710656) (h4:n<=maxLen)
 (h5:∀η,K ((s.addO [(100*(β+d.getD 0),.loose (.sl size e ((List.replicate n zs).flatten)) η)]).put d (.c (.h (100*(β+d.getD 0)) 0 [] (η []))))):vp P β ⟨d,gd,.mks e size bytes zs l c⟩ s K:=by
 rw [jra];exact ⟨_,_,n,h1,h2,h3,h4,h5⟩
abbrev jGi (b ty:Nat) (now seq:Int) (sh:List (List En)) (e1:jg):Ob:=.box b ty [.a (.v (.int .i64 now)),.a (.v (.int .i64 seq)),.own (ke sh) e1,.a (.v (.slice none 0 0))]
def jdZ:C:=iS [iA 2 wAL,aO 3 false] (iS [aM 16 0,iA 17 (iK 102 [16]),aM 15 17,aE 18 15 0,aE 19 15 1,aM 4 18,aM 5 19] (.seq (iS [aM 20 5,aU 21 20] (iD 21 (iS [iA 22 (wAU []),wAA 2 22,aO 3 false] .ret) .skip)) (iS [aM 23 4,iA 24 (.bld [.slice none 0 0,.bool false] [(0,1,.t 23)]),iA 25 (.box 128 2 (.t 24)),aM 6 25] (.seq (.dreg (tA 0 26 (iM 6) (tA 2 28 (iM 6) (tC 27 (iK 103 [26]) [2] (tC 29 (iK 103 [28]) [] (tC 30 (.mks 35 1 24 [D.sl 4 44 []] (oI 4) (oI 4)) [2,0] (tA 5 31 (wAU [(0,1,.t 27),(1,1,.t 29),(2,1,.t 30)]) (tC 7 wAL [5,2,0] (.alt (wAA 7 31) [] .done .stop) .stop)) (tC 7 wAL [2,0] (tC 30 (.mks 35 1 24 [D.sl 4 44 []] (oI 4) (oI 4)) [2,0] (tA 5 31 (wAU [(0,1,.t 27),(1,1,.t 29),(2,1,.t 30)]) (.alt (wAA 7 31) [] .done .stop)) .stop) .stop)) (tC 30 (.mks 35 1 24 [D.sl 4 44 []] (oI 4) (oI 4)) [2,0] (tC 29 (iK 103 [28]) [] (tA 5 31 (wAU [(0,1,.t 27),(1,1,.t 29),(2,1,.t 30)]) (tC 7 wAL [5,2,0] (.alt (wAA 7 31) [] .done .stop) .stop)) (tC 7 wAL [2,0] (tC 29 (iK 103 [28]) [] (tA 5 31 (wAU [(0,1,.t 27),(1,1,.t 29),(2,1,.t 30)]) (.alt (wAA 7 31) [] .done .stop)) .stop) .stop)) (tC 7 wAL [2,0] (tC 29 (iK 103 [28]) [] (tC 30 (.mks 35 1 24 [D.sl 4 44 []] (oI 4) (oI 4)) [2,0] (tA 5 31 (wAU [(0,1,.t 27),(1,1,.t 29),(2,1,.t 30)]) (.alt (wAA 7 31) [] .done .stop)) .stop) (tC 30 (.mks 35 1 24 [D.sl 4 44 []] (oI 4) (oI 4)) [2,0] (tC 29 (iK 103 [28]) [] (tA 5 31 (wAU [(0,1,.t 27),(1,1,.t 29),(2,1,.t 30)]) (.alt (wAA 7 31) [] .done .stop)) .stop) .stop)) .stop))) (tC 30 (.mks 35 1 24 [D.sl 4 44 []] (oI 4) (oI 4)) [2,0] (tC 27 (iK 103 [26]) [2] (tC 29 (iK 103 [28]) [] (tA 5 31 (wAU [(0,1,.t 27),(1,1,.t 29),(2,1,.t 30)]) (tC 7 wAL [5,2,0] (.alt (wAA 7 31) [] .done .stop) .stop)) (tC 7 wAL [2,0] (tC 29 (iK 103 [28]) [] (tA 5 31 (wAU [(0,1,.t 27),(1,1,.t 29),(2,1,.t 30)]) (.alt (wAA 7 31) [] .done .stop)) .stop) .stop)) (tC 7 wAL [2,0] (tC 27 (iK 103 [26]) [2] (tC 29 (iK 103 [28]) [] (tA 5 31 (wAU [(0,1,.t 27),(1,1,.t 29),(2,1,.t 30)]) (.alt (wAA 7 31) [] .done .stop)) .stop) .stop) .stop)) (tC 7 wAL [2,0] (tC 27 (iK 103 [26]) [2] (tC 29 (iK 103 [28]) [] (tC 30 (.mks 35 1 24 [D.sl 4 44 []] (oI 4) (oI 4)) [2,0] (tA 5 31 (wAU [(0,1,.t 27),(1,1,.t 29),(2,1,.t 30)]) (.alt (wAA 7 31) [] .done .stop)) .stop) (tC 30 (.mks 35 1 24 [D.sl 4 44 []] (oI 4) (oI 4)) [2,0] (tC 29 (iK 103 [28]) [] (tA 5 31 (wAU [(0,1,.t 27),(1,1,.t 29),(2,1,.t 30)]) (.alt (wAA 7 31) [] .done .stop)) .stop) .stop)) (tC 30 (.mks 35 1 24 [D.sl 4 44 []] (oI 4) (oI 4)) [2,0] (tC 27 (iK 103 [26]) [2] (tC 29 (iK 103 [28]) [] (tA 5 31 (wAU [(0,1,.t 27),(1,1,.t 29),(2,1,.t 30)]) (.alt (wAA 7 31) [] .done .stop)) .stop) .stop) .stop)) .stop)))))) (.seq (iS [aF 32 2 7,aL 33 32,aG 34 33,aN 35 0] (.blk 0 (.loop (iS [aP 36 .lss 3 35 34] (.seq (iD 36 .skip (.exit 0)) (.seq (.blk 1 (iS [aM 37 35,aM 8 37] (iS [aM 38 6,iA 39 (iK 103 [38]),aM 9 39] (iS [aN 10 0] (.blk 2 (.loop (.seq (iS [aM 40 10,aM 41 9,aP 42 .lss 3 40 41,aM 43 42,iB 44 43 true (iM 6),iB 45 43 true (iF 0 44),iB 46 43 true (iF 1 45),iB 47 43 true (iL 46),iB 48 43 true (iU 47),iA 49 (iY 43 (.t 48) (oF))] (iD 49 .skip (.exit 2))) (.seq (.blk 3 (.dreg (tA 0 52 (iF 2 7) (tA 1 53 (iL 52) (tA 2 54 (iM 8) (tA 3 55 (iF 2 7) (tA 4 56 (iL 55) (tA 5 57 (iM 8) (tA 6 58 (iI 1 56 57) (tA 7 59 (iL 58) (tA 8 60 (iM 6) (tA 10 62 (iM 6) (tA 12 64 (iM 6) (tA 14 66 (iM 6) (tC 61 (iK 103 [60]) [14,12,10,7,6,5,4,3,2,1,0] (tC 63 (iK 103 [62]) [14,12,7,6,5,4,3,2,1,0] (tC 65 (iK 103 [64]) [14,7,6,5,4,3,2,1,0] (tC 67 (iK 103 [66]) [7,6,5,4,3,2,1,0] (tA 16 68 (wAT [(0,1,.t 61),(1,1,.t 63),(2,1,.t 65),(3,1,.t 67)]) (tC 69 (wA0 [(0,4,.t 68)]) [7,6,5,4,3,2,1,0] (tC 70 (wA8 59 69) [2,1,0] (tA 19 71 (iI 1 53 54) (.alt (wAE 71 70) [] .done .stop)) .stop) .stop)) .stop) .stop) .stop) .stop))))))))))))))) (.reg [aM 50 10,aQ 51 .add 3 50 1,aM 10 51]))))))))) (.reg [aQ 72 .add 3 35 1,aM 35 72]))))))) (iS [aM 73 6,iA 74 (iK 103 [73]),aM 11 74] (.seq (iS [aN 12 0] (.blk 4 (.loop (.seq (iS [aM 75 12,aM 76 11,aP 77 .lss 3 75 76,aM 78 77,iB 79 78 true (iM 6),iB 80 78 true (iF 0 79),iB 81 78 true (iF 1 80),iB 82 78 true (iL 81),iB 83 78 true (iU 82),iA 84 (iY 78 (.t 83) (oF))] (iD 84 .skip (.exit 4))) (.seq (.blk 5 (iS [aM 87 6,iA 88 (iK 103 [87]),iA 89 (wAW [(0,1,.t 88)]),iA 13 wAM,wAC 13 89] (iS [aM 90 6,iA 91 (iK 104 [90]),aF 92 1 13,wAF 92 91] (iS [aM 93 6,iA 94 (iK 103 [93]),aF 95 6 13,wAD 95 94] (.seq (iS [aN 14 0] (.blk 6 (.loop (.seq (iS [aM 96 14,aF 97 1 13,aF 98 3 97,aL 99 98,aP 100 .lss 3 96 99,aM 101 100,iB 102 101 true (iM 6),iB 103 101 true (iF 0 102),iB 104 101 true (iF 1 103),iB 105 101 true (iL 104),iB 106 101 true (iU 105),iA 107 (iY 101 (.t 106) (oF))] (iD 107 .skip (.exit 6))) (.seq (.blk 7 (.dreg (tA 0 110 (iF 7 13) (tA 1 111 (iL 110) (tA 2 112 (iM 6) (tA 4 114 (iM 6) (tA 6 116 (iM 6) (tA 8 118 (iM 6) (tC 113 (iK 103 [112]) [8,6,4,1,0] (tC 115 (iK 103 [114]) [8,6,1,0] (tC 117 (iK 103 [116]) [8,1,0] (tC 119 (iK 103 [118]) [1,0] (tA 10 120 (wAT [(0,1,.t 113),(1,1,.t 115),(2,1,.t 117),(3,1,.t 119)]) (tC 121 (wA6 [(0,4,.t 120)]) [1,0] (tC 122 (.app 46 4 32 (.t 111) (.t 121)) [] (tA 13 123 (iF 7 13) (.alt (wAJ 123 122) [] .done .stop)) .stop) .stop)) .stop) .stop) .stop) .stop))))))))) (.reg [aM 108 14,aQ 109 .add 3 108 1,aM 14 109])))))) (.reg [aF 124 3 7,aL 125 124,aT 126 8 13,iA 127 (wA3 [(0,8,.t 126)]),iA 128 (wA9 125 127),aF 129 3 7,wAI 129 128])))))) (.reg [aM 85 12,aQ 86 .add 3 85 1,aM 12 86])))))) (.seq (iS [aM 130 6,aF 131 0 130,aF 132 1 131,aL 133 132,aM 134 133,iB 135 134 false (iT 4 7),iB 136 134 false (iK 18 [135]),iB 137 134 false (iU 136),iA 138 (iY 134 (oT) (.t 137)),aM 139 138,iB 140 139 false (iT 4 7),iB 141 139 false (iK 39 [140]),iB 142 139 false (iM 0),iB 143 139 false (iP .neq 9 141 142),iA 144 (iY 139 (oT) (.t 143))] (iD 144 (iS [iA 145 (wAU []),wAA 2 145,aO 3 false] .ret) .skip)) (iS [aT 146 4 7,wAA 2 146,aO 3 true] .ret)))))))))
theorem jhd:fnC Tryz.prog Tryz.f40=some (jdZ,[.cell 2 true 4,.t 3],147):=by kernel_rfl
theorem jk0 (t:ByteArray) (ht:t.size<=1048576):jZ Tryz.prog 40 [.c (.val (.string t))] (.tup [(true,jb (jaA t).1),(false,[.val (.bool (jaA t).2)])]):=by
 refine vx [[1,1,1,1],[1,1,1,1,1],[1,1,1,1,1,0,1,0,0,1,1],[1,1,1,1,1,0,1,0,0,1,1,1],[1,1,1,1,1,1,1],[1,1,1,1,1,1,1,0,1,0,0,1,0,0,1,1],[1,1,1,1,1,1,1,0,1,0,0,1,0,0,1,1,1],[1,1,1,1,1,1,1,0,1,0,0,1,0,0,1,1,1,1],[1,1,1,1,1,1,1,1]] Tryz.func40 jhd (by simp) ?_
 unfold jdZ;simp only [C.ghs,C.ghAt,List.foldr];have ht9:t.size<=1000000000:=by omega
 simp only [go_sem];intro b2;refine jk (jkY t ht9) λnL=>?_
 simp only [go_sem];cases oB:rvF t.size t.data.toList with
 |none=>
  have hr:jaA t=(ydZ,false):=by rw [jaA,oB]
  have sV:rvR t=([],false):=by rw [rvR,oB]
  rw [hr];simp only [go_sem,sV,jb]
  apply qa
  simp only [go_sem]
 |some L=>
 have sV:rvR t=(L,true):=by rw [rvR,oB]
 have hLt:L.length<=t.size:=by have:=jv8 _ _ _ oB;rwa [aRM] at this
 have cJ:=(jnL _ _ _ oB).2;have hL9:L.length<=1000000000:=by omega
 simp only [go_sem,sV];intro b25;refine ky ?_;refine WkK.wk (s':=St.of [(0,.c (.v (.string t))),(2,Bx 200 b2),(6,Bx 88 b25)] [(200,ZYd b2 tYd),(88,.box b25 128 [.own (jc L) (nL 0),.a (.v (.bool false))])]) (js [200,2500]) ?_;generalize nL 0=dC;refine jfA 88 0 87 (d:=jc L) (η:=dC) rfl rfl rfl (by decide) (show 0<1 from Nat.zero_lt_one) ?_
 refine WkK.wk (s':=St.of [(0,.c (.v (.string t))),(2,Bx 200 b2),(6,Bx 88 b25)] [(200,ZYd b2 tYd),(88,vm b25 128 dC L (0,false)),(87,.loose (jc L) dC)]) (js [200,88,87] (by simp only [go_sem,vm,Nat.sub_zero]<;>trivial)) ?_
 refine WkK.of ?_;have s0:((0,false):Nat×Bool).1<=L.length:=aPP _;have s1:=qE s0;generalize gK:jai L (0,false)=q1 at*;have s2:=qE s1;generalize gS:jai L q1.2=q2 at*;have bH:D.sl 1 jq4 (List.replicate 4 [D.sl 4 tEn []]).flatten=ke (shQ []):=rfl;refine jaU (λi:Nat×jg=>St.of [(0,.c (.v (.string t))),(2,Bx 200 b2),(6,Bx 88 b25),(7,Bx 700 i.1)] [(200,ZYd b2 tYd),(88,vm b25 128 dC L q2.2),(87,.loose (jc L) dC),(700,jGi i.1 tYd q1.1 q2.1 (shQ []) i.2)]) ?_ ?_
 ·simp only [go_sem]
  repeat' first
   |refine And.intro ?_ ?_
   |refine mks_n 4 rfl rfl (by decide) (by unfold maxLen;omega) λ_=>?_
   |(refine jv (kM L (0,false) b25 dC _ s0 rfl rfl) rfl ?_;rw [gK])
   |(refine jv (kM L q1.2 b25 dC _ s1 rfl rfl) rfl ?_;rw [gS])
   |intro _
   |(simp only [go_sem,bH])
  all_goals exact ⟨(_,_),js [200,88,87,700]⟩
 rintro ⟨b7,e7⟩;have wM:(shQ []).length=4:=rfl;simp only [go_sem,wM];refine kh (λi:(Nat×List (List En)×(Nat×Bool))×jg=>St.of [(0,.c (.v (.string t))),(2,Bx 200 b2),(6,Bx 88 b25),(7,Bx 700 b7),(34,Ni 4),(35,Ni i.1.1)] [(200,ZYd b2 tYd),(88,vm b25 128 dC L i.1.2.2),(87,.loose (jc L) dC),(700,jGi b7 tYd q1.1 q2.1 (shQ i.1.2.1) i.2)]) (λi=>RowsNAt (jul L) 4 q2.2 i.1.1 i.1.2.1 i.1.2.2/\i.1.2.2.1<=L.length) (λi=>4-i.1.1) ((0,[],q2.2),e7) (⟨RowsNAt.start _ _,s2⟩) (js [200,88,87,700]) ?_
 rintro ⟨⟨k,S,q⟩,e0⟩ ⟨hR,hq⟩;dsimp only at hR hq;have cR:=hR.le;obtain rfl:S.length=k:=hR.len;by_cases aB:S.length<4
 ·have aA:(S.length:Int)<(4:Int):=by omega
  have bL:(0:Int)<=(S.length:Int):=by omega
  have cE:=hR.next aB;have hw:IntKind.i64.wrap ((S.length:Int)+1)=((S.length+1:Nat):Int):=zm;simp only [go_sem,aA];refine ky (WkK.of ?_);refine jaU (λi:{i:(List En×(Nat×Bool))×jg//jul L q=i.1/\i.1.2.1<=L.length}=>St.of [(0,.c (.v (.string t))),(2,Bx 200 b2),(6,Bx 88 b25),(7,Bx 700 b7),(34,Ni 4),(35,Ni S.length)] [(200,ZYd b2 tYd),(88,vm b25 128 dC L i.1.1.2),(87,.loose (jc L) dC),(700,jGi b7 tYd q1.1 q2.1 (shR S i.1.1.1) i.1.2)]) ?_ ?_
  ·simp only [go_sem]
   refine jv (kM L q b25 dC _ hq (by simp only [go_sem]) (by simp only [go_sem])) (by simp only [go_sem]) ?_
   have s9:=qE hq;have hm:=jrC (s:=q) cJ;generalize hq9:jai L q=q9 at*;obtain ⟨m,o0⟩:=Int.eq_ofNat_of_zero_le hm.1;have dU:=hm.2;rw [o0] at dU;have fY:q9.1=(m:Int):=o0;have hsQ:=shQ_R aB;simp only [go_sem,fY];refine kh (λi:(Nat×List En×(Nat×Bool))×jg=>St.of [(0,.c (.v (.string t))),(2,Bx 200 b2),(6,Bx 88 b25),(7,Bx 700 b7),(8,Ni S.length),(9,Ni m),(10,Ni i.1.1),(34,Ni 4),(35,Ni S.length)] [(200,ZYd b2 tYd),(88,vm b25 128 dC L i.1.2.2),(87,.loose (jc L) dC),(700,jGi b7 tYd q1.1 q2.1 (shR S i.1.2.1) i.2)]) (λi=>RowsAt (·.2) (jvp (jai L)) m q9.2 i.1.1 i.1.2.1 i.1.2.2/\i.1.2.2.1<=L.length) (λi=>m-i.1.1) ((0,[],q9.2),e0) (⟨RowsAt.start _ _,s9⟩) (js [200,88,87,700] (by simp only [go_sem,hsQ]<;>trivial)) ?_
   rintro ⟨⟨i,E,p⟩,e1⟩ ⟨mE,hp⟩;dsimp only at mE hp;have o6:=mE.le;have hlen2:=mE.len;by_cases mN:i<m;rotate_left
   ·have dZ:¬(i:Int)<(m:Int):=by omega
    have aJ:=mE.stop (.inl (by omega))
    have eD:jul L q=(E,p):=by simp only [jul,rdSh,hq9,jhW,fY,aPB,aJ]
    simp only [go_sem,dZ];exact ⟨⟨((E,p),e1),eD,hp⟩,js [200,88,87,700]⟩
   have dZ:(i:Int)<(m:Int):=by omega
   obtain ⟨k,bad⟩:=p;cases bad;rotate_left
   ·have aJ:=mE.stop (.inr rfl)
    have eD:jul L q=(E,(k,true)):=by simp only [jul,rdSh,hq9,jhW,fY,aPB,aJ]
    simp only [go_sem,dZ,vm,Bool.not_true];exact ⟨⟨((E,(k,true)),e1),eD,hp⟩,js [200,88,87,700]⟩
   ·have fD:=mE.next mN rfl
    have hl4:(shR S E).length=4:=jBW aB;have l8:=jBX S E;have gE:S.length<(shR S E).length:=by omega
    have gX:S.length+1<=((shR S E).flatMap λes=>[jf es]).length:=by have:=jaK gE;rwa [aPK] at this
    have nG:(((shR S E).flatMap λes=>[jf es]).drop S.length).take 1=[jf E]:=by have:=jbs l8;rwa [aPK] at this
    have bX:=kw i;have bA:E.length+1<=maxLen:=vT;have bG:(E.length+1)*32<=140737488355328:=by omega
    simp only [go_sem,dZ,vm,Bool.not_false,bL,gE,aPK,nG,gX];refine jv (kM L (k,false) b25 dC _ hp (by simp only [go_sem,vm]) (by simp only [go_sem])) (by simp only [go_sem]) ?_
    have t1:=qE hp;simp only [jvp] at fD;generalize cK:jai L (k,false)=r1 at*;simp only [go_sem];refine jv (kM L r1.2 b25 dC _ t1 (by simp only [go_sem]) (by simp only [go_sem])) (by simp only [go_sem]) ?_
    have t2:=qE t1;generalize bZ:jai L r1.2=r2 at*;simp only [go_sem];refine jv (kM L r2.2 b25 dC _ t2 (by simp only [go_sem]) (by simp only [go_sem])) (by simp only [go_sem]) ?_
    have t3:=qE t2;generalize p9:jai L r2.2=r3 at*;simp only [go_sem];refine jv (kM L r3.2 b25 dC _ t3 (by simp only [go_sem]) (by simp only [go_sem])) (by simp only [go_sem]) ?_
    have t4:=qE t3;generalize hr4:jai L r3.2=r4 at*;simp only [go_sem,jDg l8,bA,bG];intro cO bI hηc ηd;simp only [go_sem,hηc,jkD,jkx,jgw,jb1,gE,aPK,jgn,jC8];refine ⟨by omega,λi7 hηe=>?_⟩
    exact ⟨((i+1,E++[⟨r1.1,r2.1,r3.1,r4.1⟩],r4.2),i7),⟨fD,t4⟩,(js [200,88,87,700] (by simp only [go_sem,bX,vm,jBV]<;>trivial)),by (try dsimp only);omega⟩
  rintro ⟨⟨⟨E,p⟩,e1⟩,eD,hp⟩;dsimp only at eD hp;rw [eD] at cE;dsimp only at cE;have hrq:=shR_Q E aB;simp only [go_sem,hw];exact ⟨((S.length+1,S++[E],p),e1),⟨cE,hp⟩,(js [200,88,87,700] (by simp only [go_sem,hrq]<;>trivial)),by (try dsimp only);omega⟩
 have hS4:S.length=4:=by omega
 have aCL:=hR.stop hS4;have aA:¬(S.length:Int)<(4:Int):=by omega
 rw [shQ_4 hS4];simp only [go_sem,aA];refine jv (kM L q b25 dC _ hq (by simp only [go_sem]) (by simp only [go_sem])) (by simp only [go_sem]) ?_
 have s3:=qE hq;have hm:=jrC (s:=q) cJ;generalize s7:jai L q=q3 at*;obtain ⟨m,o0⟩:=Int.eq_ofNat_of_zero_le hm.1;have dU:=hm.2;rw [o0] at dU;have fY:q3.1=(m:Int):=o0;simp only [go_sem,fY];refine ky (WkK.of ?_);refine jaU (λi:{i:(List Rn×(Nat×Bool))×jg//vt (·.2) (jzl L) m ([],q3.2)=i.1/\i.1.2.1<=L.length}=>St.of [(0,.c (.v (.string t))),(2,Bx 200 b2),(6,Bx 88 b25),(7,Bx 700 b7)] [(200,ZYd b2 tYd),(88,vm b25 128 dC L i.1.1.2),(87,.loose (jc L) dC),(700,jX b7 tYd q1.1 q2.1 S e0 i.1.1.1 i.1.2)]) ?_ ?_
 ·simp only [go_sem]
  refine kh (λi:(Nat×List Rn×(Nat×Bool))×jg=>St.of [(0,.c (.v (.string t))),(2,Bx 200 b2),(6,Bx 88 b25),(7,Bx 700 b7),(11,Ni m),(12,Ni i.1.1)] [(200,ZYd b2 tYd),(88,vm b25 128 dC L i.1.2.2),(87,.loose (jc L) dC),(700,jX b7 tYd q1.1 q2.1 S e0 i.1.2.1 i.2)]) (λi=>RowsAt (·.2) (jzl L) m q3.2 i.1.1 i.1.2.1 i.1.2.2/\i.1.2.2.1<=L.length) (λi=>m-i.1.1) ((0,[],q3.2),jcb) (⟨RowsAt.start _ _,s3⟩) (js [200,88,87,700]) ?_
  rintro ⟨⟨i0,E,p⟩,e1⟩ ⟨mE,hp⟩;dsimp only at mE hp;have o6:=mE.le;have hlen2:=mE.len;by_cases mN:i0<m;rotate_left
  ·have dZ:¬(i0:Int)<(m:Int):=by omega
   have aJ:=mE.stop (.inl (by omega))
   simp only [go_sem,dZ];exact ⟨⟨((E,p),e1),aJ,hp⟩,js [200,88,87,700]⟩
  have dZ:(i0:Int)<(m:Int):=by omega
  obtain ⟨k,bad⟩:=p;cases bad;rotate_left
  ·have aJ:=mE.stop (.inr rfl)
   simp only [go_sem,dZ,vm,Bool.not_true];exact ⟨⟨((E,(k,true)),e1),aJ,hp⟩,js [200,88,87,700]⟩
  have fD:=mE.next mN rfl;simp only [go_sem,dZ,vm,Bool.not_false];refine jv (kM L (k,false) b25 dC _ hp (by simp only [go_sem,vm]) (by simp only [go_sem])) (by simp only [go_sem]) ?_
  have t1:=qE hp;generalize cK:jai L (k,false)=r1 at*;simp only [go_sem];intro b13;refine ku (by simp only [go_sem]) (jzQ L cJ hL9 r1.2 b25 dC _ t1 (by simp only [go_sem]) (by simp only [go_sem]) (by simp only [go_sem])) λav o' ⟨p,q',f,gL,hq',g8,bA,o1,o2,hk⟩=>?_
  subst g8;have k2:=hk 200 (by decide) (by decide) (by decide)
  have k7:=hk 700 (by decide) (by decide) (by decide)
  have k87:=hk 87 (by decide) (by decide) (by decide)
  have k13:=hk 1300 (by decide) (by decide) (by decide)
  simp only [go_sem] at k2 k7 k87 k13
  have hpt:jds p.aOD:=by
   have e:p.aOD=(rdPl none (jai L) (λs:Nat×Bool=>s.2) (λs=>(s.1,true)) r1.2).1.aOD:=by rw [gL]
   rw [e];exact joh cJ _
  simp only [go_sem,k13,bA];refine ky ?_;refine WkK.wk (s':=St.of [(0,.c (.v (.string t))),(2,Bx 200 b2),(6,Bx 88 b25),(7,Bx 700 b7),(11,Ni m),(12,Ni i0),(13,Bx 1300 b13)] [(200,ZYd b2 tYd),(88,vm b25 128 dC L q'),(87,.loose (jc L) dC),(700,jX b7 tYd q1.1 q2.1 S e0 E e1),(86,.loose (jn p.aOI) f),(1300,.box b13 tRn [.a (.v (.int .i64 r1.1)),.a (.v (.int .i64 p.aOL)),.a (.v (.int .i64 p.aOQ)),.a (.v (.int .i64 p.aOP)),.a (.v (.int .i64 p.aOD)),.a (.v (f [])),.a (.v (.int .i64 0)),.a (.v (.slice none 0 0))])]) (js [200,88,87,700,86,1300] (by simp only [go_sem,k2,k7,k87,o1,o2]<;>trivial)) ?_
  refine qx 1300 5 86 (d:=jn p.aOI) (η:=f) rfl rfl rfl ?_;refine WkK.of ?_;simp only [go_sem];refine jv (kM L q' b25 dC _ hq' (by simp only [go_sem]) (by simp only [go_sem])) (by simp only [go_sem]) ?_
  have t3:=qE hq';generalize p9:jai L q'=r3 at*;obtain ⟨mt,x6⟩:=Int.eq_ofNat_of_zero_le hpt.1;have aDD:=hpt.2;rw [x6] at aDD;have mL:p.aOD=(mt:Int):=x6;simp only [go_sem];refine ky (WkK.of ?_);refine jaU (λj:{j:(List Tk×(Nat×Bool))×jg//vt (·.2) (jrh (jai L)) mt ([],r3.2)=j.1/\j.1.2.1<=L.length}=>St.of [(0,.c (.v (.string t))),(2,Bx 200 b2),(6,Bx 88 b25),(7,Bx 700 b7),(11,Ni m),(12,Ni i0),(13,Bx 1300 b13)] [(200,ZYd b2 tYd),(88,vm b25 128 dC L j.1.1.2),(87,.loose (jc L) dC),(700,jX b7 tYd q1.1 q2.1 S e0 E e1),(1300,jyr b13 tRn r1.1 p f r3.1 j.1.1.1 j.1.2)]) ?_ ?_
  ·simp only [go_sem]
   refine kh (λi:(Nat×List Tk×(Nat×Bool))×jg=>St.of [(0,.c (.v (.string t))),(2,Bx 200 b2),(6,Bx 88 b25),(7,Bx 700 b7),(11,Ni m),(12,Ni i0),(13,Bx 1300 b13),(14,Ni i.1.1)] [(200,ZYd b2 tYd),(88,vm b25 128 dC L i.1.2.2),(87,.loose (jc L) dC),(700,jX b7 tYd q1.1 q2.1 S e0 E e1),(1300,jyr b13 tRn r1.1 p f r3.1 i.1.2.1 i.2)]) (λi=>RowsAt (·.2) (jrh (jai L)) mt r3.2 i.1.1 i.1.2.1 i.1.2.2/\i.1.2.2.1<=L.length) (λi=>mt-i.1.1) ((0,[],r3.2),jcb) (⟨RowsAt.start _ _,t3⟩) (js [200,88,87,700,1300]) ?_
   rintro ⟨⟨j,T,u⟩,e3⟩ ⟨v5,hu⟩;dsimp only at v5 hu;have aKB:=v5.le;have aGE:=v5.len;by_cases gF:j<mt;rotate_left
   ·have fO:¬(j:Int)<(mt:Int):=by omega
    have aJ:=v5.stop (.inl (by omega))
    simp only [go_sem,mL,fO];exact ⟨⟨((T,u),e3),aJ,hu⟩,js [200,88,87,700,1300] (by simp only [go_sem,mL]<;>trivial)⟩
   have fO:(j:Int)<(mt:Int):=by omega
   obtain ⟨k',bad⟩:=u;cases bad;rotate_left
   ·have aJ:=v5.stop (.inr rfl)
    simp only [go_sem,mL,fO,vm,Bool.not_true];exact ⟨⟨((T,(k',true)),e3),aJ,hu⟩,js [200,88,87,700,1300] (by simp only [go_sem,mL]<;>trivial)⟩
   have xV:=v5.next gF rfl;simp only [go_sem,mL,fO,vm,Bool.not_false];refine jv (kM L (k',false) b25 dC _ hu (by simp only [go_sem,vm]) (by simp only [go_sem])) (by simp only [go_sem]) ?_
   have u1:=qE hu;simp only [jrh] at xV;generalize gQ:jai L (k',false)=v1 at*;simp only [go_sem];refine jv (kM L v1.2 b25 dC _ u1 (by simp only [go_sem]) (by simp only [go_sem])) (by simp only [go_sem]) ?_
   have u2:=qE u1;generalize n8:jai L v1.2=v2 at*;simp only [go_sem];refine jv (kM L v2.2 b25 dC _ u2 (by simp only [go_sem]) (by simp only [go_sem])) (by simp only [go_sem]) ?_
   have u3:=qE u2;generalize hv3:jai L v2.2=v3 at*;simp only [go_sem];refine jv (kM L v3.2 b25 dC _ u3 (by simp only [go_sem]) (by simp only [go_sem])) (by simp only [go_sem]) ?_
   have u4:=qE u3;generalize hv4:jai L v3.2=v4 at*;have hw3:=kw j;have sO:T.length+1<=maxLen:=vT;have hx4:(T.length+1)*32<=140737488355328:=by omega
   simp only [go_sem,sO,hx4];intro ηx ηy;exact ⟨((j+1,T++[⟨v1.1,v2.1,v3.1,v4.1⟩],v4.2),ηy),⟨xV,u4⟩,(js [200,88,87,700,1300] (by simp only [go_sem,jBI,hw3,vm,mL]<;>trivial)),by (try dsimp only);omega⟩
  rintro ⟨⟨⟨T,q''⟩,e3⟩,hT,xQ⟩;dsimp only at hT xQ
  have hrn:jzl L (k,false)=(⟨r1.1,p,r3.1,T⟩,q''):=by
   simp only [jzl,rdRn,cK,gL,p9,jhW,mL,aPB,hT]
  rw [hrn] at fD;dsimp only at fD;have aBV:i0+1<=maxLen:=vT;have bG:(i0+1)*96<=140737488355328:=by omega
  have bX:=kw i0;simp only [go_sem,hlen2,aBV,bG];intro bK mA;simp only [go_sem,bX];exact ⟨((i0+1,E++[⟨r1.1,p,r3.1,T⟩],q''),mA),⟨fD,xQ⟩,(js [200,88,87,700] (by simp only [go_sem,jwh]<;>trivial)),by (try dsimp only);omega⟩
 rintro ⟨⟨⟨R,q⟩,e1⟩,xI,hq⟩;dsimp only at xI hq
 have hn:nI L=(⟨q1.1,q2.1,S,R⟩,q):=by
  simp only [nI,rdYI,gK,gS,aCL,s7,fY,aPB,xI]
 have xE:=jDR L;rw [hn] at xE;dsimp only at xE;obtain ⟨k,bad⟩:=q;cases bad;rotate_left
 ·have hr:jaA t=(ydZ,false):=by simp only [jaA,oB,hn,true_or,if_true]
  rw [hr];simp only [go_sem,vm,jb]
  apply qa
  simp only [go_sem]
 simp only [go_sem,vm,jb];refine jk (kn ⟨q1.1,q2.1,S,R⟩ (by omega)) λη=>?_
 simp only [go_sem];cases aR:jt ⟨q1.1,q2.1,S,R⟩
 ·have hr:jaA t=(ydZ,false):=by
   simp only [jaA,oB,hn];rw [if_pos (.inr (.inl aR))]
  rw [hr];simp only [go_sem]
  apply qa
  simp only [go_sem]
 simp only [go_sem];refine jk (jdl ⟨q1.1,q2.1,S,R⟩ (by omega)) λη=>?_
 simp only [go_sem];by_cases he:qh ⟨q1.1,q2.1,S,R⟩=t;rotate_left
 ·have hr:jaA t=(ydZ,false):=by
   simp only [jaA,oB,hn];rw [if_pos (.inr (.inr he))]
  have eS:decide (qh ⟨q1.1,q2.1,S,R⟩=t)=false:=decide_eq_false he;rw [hr];simp only [go_sem,jBr,eS]
  apply qa
  simp only [go_sem]
 ·have hr:jaA t=(⟨q1.1,q2.1,S,R⟩,true):=by
   simp only [jaA,oB,hn];rw [if_neg];rintro (g|g|g)
   ·cases g
   ·rw [aR] at g;cases g
   ·exact g he
  have eS:decide (qh ⟨q1.1,q2.1,S,R⟩=t)=true:=decide_eq_true he;rw [hr];simp only [go_sem,jBr,eS]
  apply qa
  simp only [go_sem]
