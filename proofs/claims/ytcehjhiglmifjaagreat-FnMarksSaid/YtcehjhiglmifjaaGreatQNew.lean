/- Parts. -/
import Derived.Test.YtcehjhiglmifjaaGreatQRunOk
set_option linter.all false
set_option maxHeartbeats 8000000
set_option maxRecDepth 100000
namespace Go.Proofs.YtcehjhiglmifjaaGreat
open Go.RowKit Go.Sort
theorem jhW {y:Yd} (h:jn y<=2000000):y.aNE.length<=2000000:=by
 simp only [jn,zn] at h;omega
theorem js0 {y:Yd} (h:jn y<=2000000):y.aNC.length<=2000000:=by
 simp only [jn,jbp] at h;omega
theorem flat_le (l:List (List En)):l.flatten.length<=jbp l:=by
 induction l with
 |nil=>simp
 |cons x l ih=>
  simp only [aQY,aNR,jbp,aOD,qh,aPB,aQD,vh] at ih⊢;omega
theorem jlj {l:List (List En)} {k:Nat} {x:List En} (h:l[k]?=some x):(l.take (k+1)).flatten=(l.take k).flatten++x:=by
 rw [aOA,h];simp
theorem jdy (l:List (List En)) (k:Nat):(l.take k).flatten.length<=l.flatten.length:=by
 have h:l.flatten=(l.take k).flatten++(l.drop k).flatten:=by rw [<-List.flatten_append,aPF]
 rw [h,aNR];omega
theorem zI {y:Yd} (h:jn y<=2000000):y.aNC.flatten.length<=2000000:=by
 have:=flat_le y.aNC;simp only [jn] at h;omega
theorem jsq {α:Type} {f:α->Bool} {l:List α} {k:Nat} {x:α} (h:l[k]?=some x):(l.take (k+1)).filter f=if f x=true then (l.take k).filter f++[x] else (l.take k).filter f:=by
 rw [aOA,h];cases hx:f x<;>simp [aQA,hx]
def jbn:C:=iS [iA 2 (.mov (.c (.slice none 0 0)))] (iS [aM 3 0,iA 4 (.app 44 4 32 (.c (.slice none 0 0)) (.t 3)),aM 2 4] .ret)
theorem jdG:fnC Tryz.prog Tryz.f126=some (jbn,[.t 2],5):=by kernel_rfl
def jdW:C:=iS [iA 1 (.box 27 4 (.t 0)),iA 2 wAM] (iS [aF 8 0 1,aL 9 8,aF 10 1 1,aL 11 10,iA 12 (wAW [(0,1,.t 9),(1,1,.t 11)]),iA 3 wAM,wAA 3 12] (.seq (iS [aF 13 2 1,aL 14 13,aG 15 14,aN 16 0] (.blk 0 (.loop (iS [aP 17 .lss 3 16 15] (.seq (iD 17 .skip (.exit 0)) (.seq (.blk 1 (iS [aI 18 1 14 16,aL 19 18,aM 5 19] (.dreg (tA 0 20 (iF 2 3) (tA 1 21 (iL 20) (tA 2 22 (iM 5) (tC 23 (iK 126 [22]) [1,0] (tC 24 (.bsl 35 1 1 [some (4,44)] [(0,1,.t 23)]) [1,0] (tC 25 (.app 35 1 24 (.t 21) (.t 24)) [] (tA 6 26 (iF 2 3) (.alt (iC (.st 1 [some (1,35)] (.t 26) (.t 25))) [] .done .stop)) .stop) .stop) .stop))))))) (.reg [aQ 27 .add 3 16 1,aM 16 27]))))))) (.seq (iS [aF 28 3 1,aL 29 28,aG 30 29,aN 31 0] (.blk 2 (.loop (iS [aP 32 .lss 3 31 30] (.seq (iD 32 .skip (.exit 2)) (.seq (.blk 3 (iS [aI 33 8 29 31,aT 34 8 33,iA 7 wAN,wAC 7 34] (.dreg (tA 0 35 (iF 3 3) (tA 1 36 (iL 35) (tA 2 37 (iT 8 7) (tC 38 (iK 127 [37]) [1,0] (tC 39 (wA5 [(0,8,.t 38)]) [1,0] (tC 40 (wBC 36 39) [] (tA 6 41 (iF 3 3) (.alt (wAI 41 40) [] .done .stop)) .stop) .stop) .stop))))))) (.reg [aQ 42 .add 3 31 1,aM 31 42]))))))) (iS [aT 43 4 3,wAA 2 43] .ret))))
theorem jg0:fnC Tryz.prog Tryz.f61=some (jdW,[.cell 2 true 4],44):=by kernel_rfl
def je5:C:=iS [iA 1 (.box 27 4 (.t 0)),iA 2 wAM] (iS [aF 6 0 1,aL 7 6,aF 8 1 1,aL 9 8,iA 10 (wAW [(0,1,.t 7),(1,1,.t 9)]),iA 3 wAM,wAA 3 10] (.seq (iS [aN 4 0] (.blk 0 (.loop (.seq (iS [aM 11 4,aF 12 2 1,aL 13 12,aG 14 13,aP 15 .lss 3 11 14] (iD 15 .skip (.exit 0))) (.seq (.blk 1 (.dreg (tA 0 18 (iF 2 3) (tA 1 19 (iL 18) (tA 3 21 (iF 2 1) (tA 4 22 (iL 21) (tA 5 23 (iM 4) (tA 6 24 (iI 1 22 23) (tA 7 25 (iL 24) (tC 20 (wA2 []) [7,6,5,4,3,1,0] (tC 26 (wBB 20 25) [1,0] (tC 27 (.bsl 35 1 1 [some (4,44)] [(0,1,.t 26)]) [1,0] (tC 28 (.app 35 1 24 (.t 19) (.t 27)) [] (tA 11 29 (iF 2 3) (.alt (iC (.st 1 [some (1,35)] (.t 29) (.t 28))) [] .done .stop)) .stop) .stop) .stop) .stop)))))))))) (.reg [aM 16 4,aQ 17 .add 3 16 1,aM 4 17])))))) (.seq (iS [aN 5 0] (.blk 2 (.loop (.seq (iS [aM 30 5,aF 31 3 1,aL 32 31,aG 33 32,aP 34 .lss 3 30 33] (iD 34 .skip (.exit 2))) (.seq (.blk 3 (.dreg (tA 0 37 (iF 3 3) (tA 1 38 (iL 37) (tA 2 39 (iF 3 1) (tA 3 40 (iL 39) (tA 4 41 (iM 5) (tA 5 42 (iI 8 40 41) (tA 6 43 (iT 8 42) (tC 44 (iK 133 [43]) [1,0] (tC 45 (wA5 [(0,8,.t 44)]) [1,0] (tC 46 (wBC 38 45) [] (tA 10 47 (iF 3 3) (.alt (wAI 47 46) [] .done .stop)) .stop) .stop) .stop)))))))))) (.reg [aM 35 5,aQ 36 .add 3 35 1,aM 5 36])))))) (iS [aT 48 4 3,wAA 2 48] .ret))))
theorem jir:fnC Tryz.prog Tryz.f67=some (je5,[.cell 2 true 4],49):=by kernel_rfl
abbrev kb (b ty:Nat) (now seq:Int) (sh:List (List En)) (e1:jf) (rn:List Rn) (e2:jf):Ob:=.box b ty [.a (.v (.int .i64 now)),.a (.v (.int .i64 seq)),.own (ki sh) e1,.own (jE rn) e2]
abbrev ZYd (b ty:Nat):Ob:=.box b ty [.a (.v (.int .i64 0)),.a (.v (.int .i64 0)),.a (.v (.slice none 0 0)),.a (.v (.slice none 0 0))]
theorem kC (l:List En):D.sl 4 tEn (l.flatMap jk)=jg l:=rfl
theorem jwU (l:List (List En)) (x:List En):D.sl 1 jro (l.flatMap (λes=>[jg es])++[jg x])=ki (l++[x]):=by simp [ki]
theorem jnR (l:List Rn) (r:Rn):D.sl 8 tRn (l.flatMap je++[.val (.int .i64 r.id),.val (.int .i64 r.aNB.aNI),.val (.int .i64 r.aNB.aNN),.val (.int .i64 r.aNB.aNM),.val (.int .i64 r.aNB.aNA),js r.aNB.aNF,.val (.int .i64 r.aND),jx r.aNA])=jE (l++[r]):=by simp [jE,je,jd]
theorem jbC {y:Yd} (ht:jn y<=2000000) {l:List En} (h:l∈y.aNC):l.length<=4000000:=by
 obtain ⟨k,hk,rfl⟩:=aOZ h;have h1:=aNS hk;have h2:=vd (tot:=vh) h1;have h3:=zm vh y.aNC (k+1);simp only [jn,jbp,vh] at*;omega
theorem jdh {y:Yd} (ht:jn y<=2000000) {r:Rn} (h:r∈y.aNE):r.aNB.aNF.length<=4000000/\r.aNA.length<=4000000:=by
 obtain ⟨k,hk,rfl⟩:=aOZ h;have h1:=aNS hk;have h2:=vd (tot:=kz) h1;have h3:=zm kz y.aNE (k+1);simp only [jn,zn,kz,jc4] at*;omega
theorem kh (l:List En) (hl:l.length<=4000000):jW Tryz.prog 126 [.c (jg l)] (.c (jg l)):=by
 refine pf_ jdG ?_;unfold jbn;have h1:l.length<=maxLen:=zy;have h2:l.length*32<=140737488355328:=by omega
 simp only [go_sem,h1,h2,kC]
theorem jY (y:Yd) (ht:jn y<=2000000):jW Tryz.prog 61 [.agg (jc y)] (.agg (jc y)):=by
 refine pf_ jg0 ?_;unfold jdW;have fJ:y.aNC.length<=2000000:=by simp only [jn,jbp] at ht;omega
 have bR:=jhW ht;simp only [go_sem,jc];intro b1 b2 b3;refine qY (λi:Nat×jf=>St.of [(1,Bx 100 b1),(2,Bx 200 b2),(3,Bx 300 b3),(14,Ro (ki y.aNC)),(15,Ni y.aNC.length),(16,Ni i.1)] [(100,Bi b1 _ (jc y)),(200,ZYd b2 _),(300,.box b3 _ [.a (.v (.int .i64 y.now)),.a (.v (.int .i64 y.seq)),.own (ki (y.aNC.take i.1)) i.2,.a (.v (.slice none 0 0))])]) (λi=>i.1<=y.aNC.length) (λi=>y.aNC.length-i.1) (0,jbL) (jt [100,200,300] (by simp only [go_sem,jc,aOW]<;>trivial)) ?_
 rintro ⟨k,η⟩ hk;dsimp only at hk;by_cases aB:k<y.aNC.length
 ·have aA:(k:Int)<y.aNC.length:=by omega
  obtain ⟨l,hl⟩:=ja aB;have hw:=kx k;have dI:k+1<=maxLen:=zy;have eB:(k+1)*24<=140737488355328:=by omega
  have dV:(y.aNC.take k).length=k:=by rw [aNV];omega
  have gB:y.aNC.take (k+1)=y.aNC.take k++[l]:=by rw [aOA,hl];rfl
  generalize y.aNC.take k=M at*;simp only [go_sem,jc,aB,aA,qg hl];refine jm (kh l (jbC ht (aNQ hl))) λη=>?_
  simp only [go_sem];simp only [go_sem,dV,dI,eB,jwU];intro bF l6;simp only [go_sem,hw];exact qf (k+1,l6) (jt [100,200,300] (by simp only [go_sem,gB]<;>trivial))
 have aA:¬(k:Int)<y.aNC.length:=by omega
 rw [aNU (by omega)]
 simp only [go_sem,jc,aA];refine qY (λi:Nat×jf=>St.of [(1,Bx 100 b1),(2,Bx 200 b2),(3,Bx 300 b3),(29,Ro (jE y.aNE)),(30,Ni y.aNE.length),(31,Ni i.1)] [(100,Bi b1 _ (jc y)),(200,ZYd b2 _),(300,kb b3 _ y.now y.seq y.aNC η (y.aNE.take i.1) i.2)]) (λi=>i.1<=y.aNE.length) (λi=>y.aNE.length-i.1) (0,jbL) (jt [100,200,300] (by simp only [go_sem,jc,aOW]<;>trivial)) ?_
 rintro ⟨j,aS⟩ hj;dsimp only at hj;by_cases bN:j<y.aNE.length
 ·have a9:(j:Int)<y.aNE.length:=by omega
  obtain ⟨r,hr⟩:=ja bN;have hw:=kx j;have dI:j+1<=maxLen:=zy;have eB:(j+1)*96<=140737488355328:=by omega
  have nZ:(y.aNE.take j).length=j:=by rw [aNV];omega
  have xY:y.aNE.take (j+1)=y.aNE.take j++[r]:=by rw [aOA,hr];rfl
  have fK:=jdh ht (aNQ hr);generalize y.aNE.take j=M at*;simp only [go_sem,jc,bN,a9,jT hr,je,jd];intro b7;refine jm (jeW r fK.1 fK.2) λη=>?_
  simp only [go_sem,je,jd];simp only [go_sem,nZ,dI,eB,jnR];intro bF l6;simp only [go_sem,hw];exact qf (j+1,l6) (jt [100,200,300] (by simp only [go_sem,xY]<;>trivial))
 have a9:¬(j:Int)<y.aNE.length:=by omega
 rw [aNU (by omega)]
 simp only [go_sem,jc,a9]
theorem km (y:Yd) (ht:jn y<=2000000):jW Tryz.prog 67 [.agg (jc y)] (.agg (jc y)):=by
 refine pf_ jir ?_;unfold je5;have fJ:y.aNC.length<=2000000:=by simp only [jn,jbp] at ht;omega
 have bR:=jhW ht;simp only [go_sem,jc];intro b1 b2 b3;refine qY (λi:Nat×jf=>St.of [(1,Bx 100 b1),(2,Bx 200 b2),(3,Bx 300 b3),(4,Ni i.1)] [(100,Bi b1 _ (jc y)),(200,ZYd b2 _),(300,.box b3 _ [.a (.v (.int .i64 y.now)),.a (.v (.int .i64 y.seq)),.own (ki (y.aNC.take i.1)) i.2,.a (.v (.slice none 0 0))])]) (λi=>i.1<=y.aNC.length) (λi=>y.aNC.length-i.1) (0,jbL) (jt [100,200,300] (by simp only [go_sem,jc,aOW]<;>trivial)) ?_
 rintro ⟨k,η⟩ hk;dsimp only at hk;by_cases aB:k<y.aNC.length
 ·have aA:(k:Int)<y.aNC.length:=by omega
  have bJ:=qX k;obtain ⟨l,hl⟩:=ja aB;have eQ:=jbC ht (aNQ hl);have hw:=kx k;have dI:k+1<=maxLen:=zy;have eB:(k+1)*24<=140737488355328:=by omega
  have z7:l.length<=maxLen:=zy;have hm4:l.length*32<=140737488355328:=by omega
  have dV:(y.aNC.take k).length=k:=by rw [aNV];omega
  have gB:y.aNC.take (k+1)=y.aNC.take k++[l]:=by rw [aOA,hl];rfl
  generalize y.aNC.take k=M at*;simp only [go_sem,jc,aB,aA,bJ,qg hl,z7,hm4,kC];intro bP y1;simp only [go_sem,dV,dI,eB,jwU];intro bF l6;simp only [go_sem,hw];exact qf (k+1,l6) (jt [100,200,300] (by simp only [go_sem,gB]<;>trivial))
 have aA:¬(k:Int)<y.aNC.length:=by omega
 rw [aNU (by omega)]
 simp only [go_sem,jc,aA];refine qY (λi:Nat×jf=>St.of [(1,Bx 100 b1),(2,Bx 200 b2),(3,Bx 300 b3),(5,Ni i.1)] [(100,Bi b1 _ (jc y)),(200,ZYd b2 _),(300,kb b3 _ y.now y.seq y.aNC η (y.aNE.take i.1) i.2)]) (λi=>i.1<=y.aNE.length) (λi=>y.aNE.length-i.1) (0,jbL) (jt [100,200,300] (by simp only [go_sem,jc,aOW]<;>trivial)) ?_
 rintro ⟨j,aS⟩ hj;dsimp only at hj;by_cases bN:j<y.aNE.length
 ·have a9:(j:Int)<y.aNE.length:=by omega
  have dX:=qX j;obtain ⟨r,hr⟩:=ja bN;have hw:=kx j;have dI:j+1<=maxLen:=zy;have eB:(j+1)*96<=140737488355328:=by omega
  have nZ:(y.aNE.take j).length=j:=by rw [aNV];omega
  have xY:y.aNE.take (j+1)=y.aNE.take j++[r]:=by rw [aOA,hr];rfl
  have fK:=jdh ht (aNQ hr);generalize y.aNE.take j=M at*;simp only [go_sem,jc,bN,a9,dX,jT hr,je,jd];refine jm (vI r fK.1 fK.2) λη=>?_
  simp only [go_sem,je,jd];simp only [go_sem,nZ,dI,eB,jnR];intro bF l6;simp only [go_sem,hw];exact qf (j+1,l6) (jt [100,200,300] (by simp only [go_sem,xY]<;>trivial))
 have a9:¬(j:Int)<y.aNE.length:=by omega
 rw [aNU (by omega)]
 simp only [go_sem,jc,a9]
open Go.RowKit Go.Sort Go.BigFrame
theorem jiW {w w1:World} {b o:Nat} {v:Value} (hB:Below w.heap.size w w1) (h:w.cell? ⟨b,o,none⟩=some v) (d:Nat) (os:Array Obj):(grow (redrawn w1 d) os).cell? ⟨b,o,none⟩=some v:=
 cell_regrown ((hB.cell (p:=⟨b,o,none⟩) (World.block_lt_of_cell? w _ h)).trans h) d os
theorem jr {w w1:World} {b o:Nat} {v:Value} (hB:Below w.heap.size w w1) (h:w.cell? ⟨b,o,none⟩=some v):w1.cell? ⟨b,o,none⟩=some v:=
 (hB.cell (p:=⟨b,o,none⟩) (World.block_lt_of_cell? w _ h)).trans h
def inb (n low high:Int):Bool:=decide (low<=n/\n<=high)
theorem jbg {n low high:Int} (h:low<=n/\n<=high):inb n low high=true:=decide_eq_true h
theorem vK {n low high:Int} (h:¬(low<=n/\n<=high)):inb n low high=false:=decide_eq_false h
theorem ve (a b c:Int) (w:World):Calls Tryz.prog 62 #[.int .i64 a,.int .i64 b,.int .i64 c] w λe w'=>e=.returned (.bool (inb a b c))/\Below w.heap.size w w':=by
 by_cases h1:b<=a
 ·by_cases h2:a<=c
  ·have H:Hid (inb a b c=true):=jbg ⟨h1,h2⟩
   go_enter Tryz.func62,Tryz.ntmps62
   go_wp2
   go_ret
   exact ⟨jX H.out.symm,Below.refl _ _⟩
  ·have H:Hid (inb a b c=false):=vK λh=>h2 h.2
   go_enter Tryz.func62,Tryz.ntmps62
   go_wp2
   go_ret
   exact ⟨jX H.out.symm,Below.refl _ _⟩
 ·have H:Hid (inb a b c=false):=vK λh=>h1 h.1
  go_enter Tryz.func62,Tryz.ntmps62
  go_wp2
  go_ret
  exact ⟨jX H.out.symm,Below.refl _ _⟩
theorem zV (a b c:Int) (w:World):Calls Tryz.prog 68 #[.int .i64 a,.int .i64 b,.int .i64 c] w λe w'=>e=.returned (.bool (inb a b c))/\Below w.heap.size w w':=by
 by_cases h1:b<=a
 ·by_cases h2:a<=c
  ·have H:Hid (inb a b c=true):=jbg ⟨h1,h2⟩
   go_enter Tryz.func68,Tryz.ntmps68
   go_wp2
   go_ret
   exact ⟨jX H.out.symm,Below.refl _ _⟩
  ·have H:Hid (inb a b c=false):=vK λh=>h2 h.2
   go_enter Tryz.func68,Tryz.ntmps68
   go_wp2
   go_ret
   exact ⟨jX H.out.symm,Below.refl _ _⟩
 ·have H:Hid (inb a b c=false):=vK λh=>h1 h.1
  go_enter Tryz.func68,Tryz.ntmps68
  go_wp2
  go_ret
  exact ⟨jX H.out.symm,Below.refl _ _⟩
theorem joA (y:Yd) (e:En) (a b:Value) (S S':List Nat) (w:World) (own own':Bool) (ha:AggRep w own (jc y) a S) (hb:AggRep w own' (jk e) b S'):
 Calls Tryz.prog 84 #[a,b] w λe1 w'=>e1=.returned (.bool (jU y e))/\Below w.heap.size w w':=by
 obtain ⟨_,rfl,ha⟩:=ha;obtain ⟨_,rfl,hb⟩:=hb;obtain ⟨rfl,rfl⟩:=jgL hb;obtain ⟨sv,rv,S1,S2,rfl,ah0,ah1,rfl⟩:=zl ha;clear ha hb;rcases vZ y e.run e.aNH with ⟨hr,ht⟩|⟨k,r,hr,hx,⟨eK,ht⟩|⟨j,t,hj,l8,ht⟩⟩
 ·have HR:=Lib.hid hr
  have HF:Hid (jU y e=false):=by unfold jU;rw [ht];rfl
  clear hr ht
  go_enter Tryz.func84,Tryz.ntmps84
  go_wp2_with (go_at_call 25;refine (ci (jbh y e.run _ _ _ own ⟨_,rfl,ja3 (upA (upA ah0 _) _) (upA (upA ah1 _) _)⟩) HR.out).mono ?_;rintro e1 w1 ⟨rfl,aY⟩;obtain ⟨c9,gT⟩:=jao aY)
  refine wp_region_quiet_below (by kernel_rfl) (by kernel_rfl) ?_
  repeat (go_big_quiet_step (fail))
  refine wpQuiet_nil ?_;intro _ hw';obtain ⟨⟨dq,osq⟩,hw''⟩:=hw';subst hw''
  go_wp2
  go_ret
  exact ⟨jX (by rw [HF.out]),kj (kj (((Below.refl _ _).alloc (by simp) _).alloc (by simp) _) aY) (below_regrown w1 dq osq)⟩
 all_goals
  have HR:=Lib.hid hr;obtain ⟨A,c,rfl,c9,dL,d7⟩:=Rep.open_ (size:=8) (enc:=je) (λ_=>rfl) (by decide) ah1
  have hk:k<y.aNE.length:=(aNP.1 hx).1;unfold maxLen at dL;have lR:y.aNE.length<=9223372036854775807:=by omega
  obtain ⟨b1,o1,vk1,T1,rfl,-,dC,-,-,uO,bL⟩:=d7 k r hx;clear d7;obtain ⟨v0,v1,U0,U1,rfl,-,gB,-⟩:=jaz dC;have p7:=bL 7 _ rfl;clear bL dC;obtain ⟨B,d,rfl,o3,gF,eS⟩:=Rep.open_ (size:=4) (enc:=jH) (λ_=>rfl) (by decide) gB
  unfold maxLen at gF;have nD:r.aNA.length<=9223372036854775807:=by omega
  have cB:decide ((k:Int)>=0)=true:=by simp
  have oV:decide ((k:Int)<0)=false:=by simp
  clear hr hx
 ·clear eS
  have HF:Hid (jU y e=false):=by unfold jU;rw [ht];rfl
  have HW:Hid (inb e.aNH 0 ((r.aNA.length:Int)-1)=false):=vK eK;clear ht eK
  go_enter Tryz.func84,Tryz.ntmps84
  go_wp2_with (go_at_call 25;refine (ci (jbh y e.run _ _ _ own ⟨_,rfl,ja3 (upA (upA ah0 _) _) (upA (upA ah1 _) _)⟩) HR.out).mono ?_;rintro e1 w1 ⟨rfl,aY⟩;obtain ⟨c9,gT⟩:=jao aY)
  have cY:Below w.heap.size w w1:=kj (((Below.refl _ _).alloc (by simp) _).alloc (by simp) _) aY
  have p7':=jiW cY p7;have q3:∀(d:Nat) (os:Array Obj),(grow (redrawn w1 d) os).cell? ⟨w.heap.size,3,none⟩=some (.slice (some ⟨b1,o1,none⟩) y.aNE.length c):=λd os=>cell_regrown ((c9 _ _ (by simp;try omega)).trans (by simp [go_sem])) d os
  have r3:∀(d:Nat) (os:Array Obj),(grow (redrawn w1 d) os).cell? ⟨w.heap.size+1,3,none⟩=some (.int .i64 e.aNH):=λd os=>cell_regrown ((c9 _ _ (by simp;try omega)).trans (by simp [go_sem])) d os
  refine wp_region_quiet_below (by kernel_rfl) (by kernel_rfl) ?_
  repeat (go_big_quiet_step (exact Calls.regrown_of (cb (ve _ _ _ _) HW.out)))
  refine wpQuiet_nil ?_;intro _ hw';obtain ⟨⟨dq,osq⟩,hw''⟩:=hw';subst hw''
  go_wp2
  go_ret
  exact ⟨jX (by rw [HF.out]),kj cY (below_regrown w1 dq osq)⟩
 ·obtain ⟨b2,o2,vk2,T2,rfl,-,cR,-,-,uN,cG⟩:=eS j t l8
  clear eS;obtain ⟨rfl,rfl⟩:=jkf cR;have p0:w.cell? ⟨b2,o2+j*4,none⟩=some (.int .i64 t.aND):=cG 0 _ rfl;have bN:j<r.aNA.length:=(aNP.1 l8).1;clear cG cR l8;obtain ⟨e1,e2,e3,e4⟩:=e;simp only at hj HR ht;subst hj;have HW:Hid (inb (j:Int) 0 ((r.aNA.length:Int)-1)=true):=jbg (by omega)
  by_cases aH:t.aND=2
  all_goals
   first|(have hs:(t.aND==2)=true:=by simpa using aH)|(have hs:(t.aND==2)=false:=by simpa using aH)
   have HF:=Lib.hid (show jU y ⟨e1,e2,e3,j⟩=(t.aND==2) by unfold jU;rw [ht])
   clear ht aH
   go_enter Tryz.func84,Tryz.ntmps84
   go_wp2_with (go_at_call 25;refine (ci (jbh y e3 _ _ _ own ⟨_,rfl,ja3 (upA (upA ah0 _) _) (upA (upA ah1 _) _)⟩) HR.out).mono ?_;rintro e1 w1 ⟨rfl,aY⟩;obtain ⟨c9,gT⟩:=jao aY)
   have cY:Below w.heap.size w w1:=kj (((Below.refl _ _).alloc (by simp) _).alloc (by simp) _) aY
   have p7':=jiW cY p7;have q3:∀(d:Nat) (os:Array Obj),(grow (redrawn w1 d) os).cell? ⟨w.heap.size,3,none⟩=some (.slice (some ⟨b1,o1,none⟩) y.aNE.length c):=λd os=>cell_regrown ((c9 _ _ (by simp;try omega)).trans (by simp [go_sem])) d os
   have r3:∀(d:Nat) (os:Array Obj),(grow (redrawn w1 d) os).cell? ⟨w.heap.size+1,3,none⟩=some (.int .i64 j):=λd os=>cell_regrown ((c9 _ _ (by simp;try omega)).trans (by simp [go_sem])) d os
   have p0':=jiW cY p0;refine wp_region_quiet_below (by kernel_rfl) (by kernel_rfl) ?_
   repeat (go_big_quiet_step (exact Calls.regrown_of (cb (ve _ _ _ _) HW.out)))
   refine wpQuiet_nil ?_;intro _ hw';obtain ⟨⟨dq,osq⟩,hw''⟩:=hw';subst hw''
   go_wp2
   go_ret
   exact ⟨jX (by rw [HF.out,hs]),kj cY (below_regrown w1 dq osq)⟩
theorem js1 (y:Yd) (e:En) (a b:Value) (S S':List Nat) (w:World) (own own':Bool) (ha:AggRep w own (jc y) a S) (hb:AggRep w own' (jk e) b S'):
 Calls Tryz.prog 75 #[a,b] w λe1 w'=>e1=.returned (.bool (jU y e))/\Below w.heap.size w w':=by
 obtain ⟨_,rfl,ha⟩:=ha;obtain ⟨_,rfl,hb⟩:=hb;obtain ⟨rfl,rfl⟩:=jgL hb;obtain ⟨sv,rv,S1,S2,rfl,ah0,ah1,rfl⟩:=zl ha;clear ha hb;rcases vZ y e.run e.aNH with ⟨hr,ht⟩|⟨k,r,hr,hx,⟨eK,ht⟩|⟨j,t,hj,l8,ht⟩⟩
 ·have HR:=Lib.hid hr
  have HF:Hid (jU y e=false):=by unfold jU;rw [ht];rfl
  clear hr ht
  go_enter Tryz.func75,Tryz.ntmps75
  go_wp2_with (go_at_call 26;refine (ci (jbb y e.run _ _ _ own ⟨_,rfl,ja3 (upA (upA ah0 _) _) (upA (upA ah1 _) _)⟩) HR.out).mono ?_;rintro e1 w1 ⟨rfl,aY⟩;obtain ⟨c9,gT⟩:=jao aY)
  refine wp_region_quiet_below (by kernel_rfl) (by kernel_rfl) ?_
  repeat (go_big_quiet_step (fail))
  refine wpQuiet_nil ?_;intro _ hw';obtain ⟨⟨dq,osq⟩,hw''⟩:=hw';subst hw''
  go_wp2
  go_ret
  exact ⟨jX (by rw [HF.out]),kj (kj (((Below.refl _ _).alloc (by simp) _).alloc (by simp) _) aY) (below_regrown w1 dq osq)⟩
 all_goals
  have HR:=Lib.hid hr;obtain ⟨A,c,rfl,c9,dL,d7⟩:=Rep.open_ (size:=8) (enc:=je) (λ_=>rfl) (by decide) ah1
  have hk:k<y.aNE.length:=(aNP.1 hx).1;unfold maxLen at dL;have lR:y.aNE.length<=9223372036854775807:=by omega
  obtain ⟨b1,o1,vk1,T1,rfl,-,dC,-,-,uO,bL⟩:=d7 k r hx;clear d7;obtain ⟨v0,v1,U0,U1,rfl,-,gB,-⟩:=jaz dC;have p7:=bL 7 _ rfl;clear bL dC;obtain ⟨B,d,rfl,o3,gF,eS⟩:=Rep.open_ (size:=4) (enc:=jH) (λ_=>rfl) (by decide) gB
  unfold maxLen at gF;have nD:r.aNA.length<=9223372036854775807:=by omega
  have cB:decide ((k:Int)>=0)=true:=by simp
  have oV:decide ((k:Int)<0)=false:=by simp
  clear hr hx
 ·clear eS
  have HF:Hid (jU y e=false):=by unfold jU;rw [ht];rfl
  have HW:Hid (inb e.aNH 0 ((r.aNA.length:Int)-1)=false):=vK eK;clear ht eK
  go_enter Tryz.func75,Tryz.ntmps75
  go_wp2_with (go_at_call 26;refine (ci (jbb y e.run _ _ _ own ⟨_,rfl,ja3 (upA (upA ah0 _) _) (upA (upA ah1 _) _)⟩) HR.out).mono ?_;rintro e1 w1 ⟨rfl,aY⟩;obtain ⟨c9,gT⟩:=jao aY)
  have cY:Below w.heap.size w w1:=kj (((Below.refl _ _).alloc (by simp) _).alloc (by simp) _) aY
  have p7':=jiW cY p7;have q3:∀(d:Nat) (os:Array Obj),(grow (redrawn w1 d) os).cell? ⟨w.heap.size,3,none⟩=some (.slice (some ⟨b1,o1,none⟩) y.aNE.length c):=λd os=>cell_regrown ((c9 _ _ (by simp;try omega)).trans (by simp [go_sem])) d os
  have r3:∀(d:Nat) (os:Array Obj),(grow (redrawn w1 d) os).cell? ⟨w.heap.size+1,3,none⟩=some (.int .i64 e.aNH):=λd os=>cell_regrown ((c9 _ _ (by simp;try omega)).trans (by simp [go_sem])) d os
  refine wp_region_quiet_below (by kernel_rfl) (by kernel_rfl) ?_
  repeat (go_big_quiet_step (exact Calls.regrown_of (cb (zV _ _ _ _) HW.out)))
  refine wpQuiet_nil ?_;intro _ hw';obtain ⟨⟨dq,osq⟩,hw''⟩:=hw';subst hw''
  go_wp2
  go_ret
  exact ⟨jX (by rw [HF.out]),kj cY (below_regrown w1 dq osq)⟩
 ·obtain ⟨b2,o2,vk2,T2,rfl,-,cR,-,-,uN,cG⟩:=eS j t l8
  clear eS;obtain ⟨rfl,rfl⟩:=jkf cR;have p0:w.cell? ⟨b2,o2+j*4,none⟩=some (.int .i64 t.aND):=cG 0 _ rfl;have bN:j<r.aNA.length:=(aNP.1 l8).1;clear cG cR l8;obtain ⟨e1,e2,e3,e4⟩:=e;simp only at hj HR ht;subst hj;have HW:Hid (inb (j:Int) 0 ((r.aNA.length:Int)-1)=true):=jbg (by omega)
  by_cases aH:t.aND=2
  all_goals
   first|(have hs:(t.aND==2)=true:=by simpa using aH)|(have hs:(t.aND==2)=false:=by simpa using aH)
   have HF:=Lib.hid (show jU y ⟨e1,e2,e3,j⟩=(t.aND==2) by unfold jU;rw [ht])
   clear ht aH
   go_enter Tryz.func75,Tryz.ntmps75
   go_wp2_with (go_at_call 26;refine (ci (jbb y e3 _ _ _ own ⟨_,rfl,ja3 (upA (upA ah0 _) _) (upA (upA ah1 _) _)⟩) HR.out).mono ?_;rintro e1 w1 ⟨rfl,aY⟩;obtain ⟨c9,gT⟩:=jao aY)
   have cY:Below w.heap.size w w1:=kj (((Below.refl _ _).alloc (by simp) _).alloc (by simp) _) aY
   have p7':=jiW cY p7;have q3:∀(d:Nat) (os:Array Obj),(grow (redrawn w1 d) os).cell? ⟨w.heap.size,3,none⟩=some (.slice (some ⟨b1,o1,none⟩) y.aNE.length c):=λd os=>cell_regrown ((c9 _ _ (by simp;try omega)).trans (by simp [go_sem])) d os
   have r3:∀(d:Nat) (os:Array Obj),(grow (redrawn w1 d) os).cell? ⟨w.heap.size+1,3,none⟩=some (.int .i64 j):=λd os=>cell_regrown ((c9 _ _ (by simp;try omega)).trans (by simp [go_sem])) d os
   have p0':=jiW cY p0;refine wp_region_quiet_below (by kernel_rfl) (by kernel_rfl) ?_
   repeat (go_big_quiet_step (exact Calls.regrown_of (cb (zV _ _ _ _) HW.out)))
   refine wpQuiet_nil ?_;intro _ hw';obtain ⟨⟨dq,osq⟩,hw''⟩:=hw';subst hw''
   go_wp2
   go_ret
   exact ⟨jX (by rw [HF.out,hs]),kj cY (below_regrown w1 dq osq)⟩
def jbY:C:=iS [iA 1 (.box 27 4 (.t 0)),iA 2 (.mov (.c (.slice none 0 0)))] (iS [iA 5 (wA2 []),aM 3 5] (.seq (iS [aN 4 0] (.blk 0 (.loop (.seq (iS [aM 6 4,aF 7 2 1,aL 8 7,aG 9 8,aP 10 .lss 3 6 9] (iD 10 .skip (.exit 0))) (.seq (.blk 1 (.reg [aM 13 3,aF 14 2 1,aL 15 14,aM 16 4,aI 17 1 15 16,aL 18 17,iA 19 (wBB 13 18),aM 3 19])) (.reg [aM 11 4,aQ 12 .add 3 11 1,aM 4 12])))))) (iS [aM 20 3,aM 2 20] .ret)))
theorem jeD:fnC Tryz.prog Tryz.f74=some (jbY,[.t 2],21):=by kernel_rfl
def jb2:C:=iS [iA 1 (.box 27 4 (.t 0)),iA 2 (.mov (.c (.slice none 0 0)))] (iS [iA 3 (.mov (.c (.slice none 0 0)))] (.seq (iS [aF 6 2 1,aL 7 6,aG 8 7,aN 9 0] (.blk 0 (.loop (iS [aP 10 .lss 3 9 8] (.seq (iD 10 .skip (.exit 0)) (.seq (.blk 1 (iS [aI 11 1 7 9,aL 12 11,aM 5 12] (.reg [aM 13 3,aM 14 5,iA 15 (wBB 13 14),aM 3 15]))) (.reg [aQ 16 .add 3 9 1,aM 9 16]))))))) (iS [aM 17 3,aM 2 17] .ret)))
theorem jeH:fnC Tryz.prog Tryz.f79=some (jb2,[.t 2],18):=by kernel_rfl
theorem jpZ (y:Yd) (e:En):jW Tryz.prog 84 [.agg (jc y),.agg (jk e)] (.c (.val (.bool (jU y e)))):=jrH ⟨_,Tryz.func84,by kernel_rfl,by kernel_rfl⟩ λw a b ⟨S,ha⟩ ⟨S2,hb⟩=>joA y e a b S S2 w false false ha hb
theorem jpQ (y:Yd) (e:En):jW Tryz.prog 75 [.agg (jc y),.agg (jk e)] (.c (.val (.bool (jU y e)))):=jrH ⟨_,Tryz.func75,by kernel_rfl,by kernel_rfl⟩ λw a b ⟨S,ha⟩ ⟨S2,hb⟩=>js1 y e a b S S2 w false false ha hb
theorem jyz (l m:List En):D.sl 4 tEn (l.flatMap jk++m.flatMap jk)=jg (l++m):=by simp [jg]
theorem jbK (y:Yd) (ht:jn y<=2000000):jW Tryz.prog 74 [.agg (jc y)] (.c (jg y.aNC.flatten)):=by
 refine pf_ jeD ?_;unfold jbY;have hl:=js0 ht;have hf:=zI ht;simp only [go_sem,jc];intro b fB;refine qT (λs=>∃(k g ty:Nat) (η:jf),k<=y.aNC.length/\(g=500\/g=1900)/\s.t 1=.c (.bp 100 0 b)/\s.o 100=.box b ty ((jc y).map λx=>.a x.toRo)/\s.t 4=.c (.v (.int .i64 k))/\s.t 3=.c (.h g 0 [] (η []))/\s.o g=.loose (jg (y.aNC.take k).flatten) η) (λs=>y.aNC.length-s.n 4) ?_ ?_
 ·exact ⟨0,500,_,fB,aOL _,.inl rfl,by simp only [go_sem]<;>rfl,by simp only [go_sem]<;>rfl,by simp only [go_sem]<;>rfl,by simp only [go_sem]<;>rfl,by simp only [go_sem]<;>rfl⟩
 ·rintro s ⟨k,g,ty,η,hk,hg,h1,rL,h4,h3,bS⟩
  by_cases aB:k<y.aNC.length
  ·have aA:(k:Int)<y.aNC.length:=by omega
   obtain ⟨x,hx⟩:=ja aB;have hw:=kx k;have hn:=jlj hx;have cE:=jdy y.aNC (k+1);rw [hn,aNR] at cE;generalize (y.aNC.take k).flatten=l at*;have cW:l.length+x.length<=maxLen:=zy;have bI:(l.length+x.length)*32<=140737488355328:=by omega
   rcases hg with rfl|rfl
   all_goals
    simp only [go_sem,h1,rL,h4,h3,bS,jc,aB,aA,qg hx,cW,bI,hw,jyz];intro aS;refine ⟨⟨k+1,1900,ty,aS,?_⟩,?_⟩
    ·and_intros<;>first|rfl|omega|exact .inr rfl|(rw [hn];rfl)
    ·rw [jbr (k:=.i64) (n:=((k+1:Nat):Int)) (by simp only [go_sem]),jbr h4];omega
  ·have aA:¬(k:Int)<y.aNC.length:=by omega
   rw [aNU (by omega)] at bS
   rcases hg with rfl|rfl
   all_goals
    simp only [go_sem,h1,rL,h4,h3,bS,jc,aA]
theorem jib (y:Yd) (ht:jn y<=2000000):jW Tryz.prog 79 [.agg (jc y)] (.c (jg y.aNC.flatten)):=by
 refine pf_ jeH ?_;unfold jb2;have hl:=js0 ht;have hf:=zI ht;simp only [go_sem,jc];intro b;refine qT (λs=>∃k:Nat,k<=y.aNC.length/\s.t 7=.c (.ro (ki y.aNC))/\s.t 8=.c (.v (.int .i64 y.aNC.length))/\s.t 9=.c (.v (.int .i64 k))/\(((y.aNC.take k).flatten=[]/\s.t 3=.c (.v (.slice none 0 0)))\/∃η:jf,s.t 3=.c (.h 1500 0 [] (η []))/\s.o 1500=.loose (jg (y.aNC.take k).flatten) η)) (λs=>y.aNC.length-s.n 9) ?_ ?_
 ·exact ⟨0,aOL _,by simp only [go_sem]<;>rfl,by simp only [go_sem]<;>rfl,by simp only [go_sem]<;>rfl,.inl ⟨rfl,by simp only [go_sem]⟩⟩
 ·rintro s ⟨k,hk,h7,h8,h9,hg⟩
  by_cases aB:k<y.aNC.length
  ·have aA:(k:Int)<y.aNC.length:=by omega
   obtain ⟨x,hx⟩:=ja aB;have hw:=kx k;have hn:=jlj hx;have cE:=jdy y.aNC (k+1);rw [hn,aNR] at cE;generalize (y.aNC.take k).flatten=l at*;have cW:l.length+x.length<=maxLen:=zy;have bI:(l.length+x.length)*32<=140737488355328:=by omega
   rcases hg with ⟨lO,h3⟩|⟨η,h3,bS⟩
   ·have lG:x.length<=maxLen:=zy
    have sD:x.length*32<=140737488355328:=by omega
    rw [lO,aOQ] at hn;simp only [go_sem,h7,h8,h9,h3,aB,aA,qg hx,hw,lG,sD,jsn];intro aS;refine ⟨⟨k+1,by omega,rfl,.inr ⟨aS,rfl,by rw [hn]⟩⟩,?_⟩
    rw [jbr (k:=.i64) (n:=((k+1:Nat):Int)) (by simp only [go_sem]),jbr h9];omega
   ·simp only [go_sem,h7,h8,h9,h3,bS,aB,aA,qg hx,hw,cW,bI,jyz]
    intro aS;refine ⟨⟨k+1,by omega,rfl,.inr ⟨aS,rfl,by rw [hn]⟩⟩,?_⟩
    rw [jbr (k:=.i64) (n:=((k+1:Nat):Int)) (by simp only [go_sem]),jbr h9];omega
  ·have aA:¬(k:Int)<y.aNC.length:=by omega
   have xW:y.aNC.take k=y.aNC:=aNU (by omega)
   rcases hg with ⟨lO,h3⟩|⟨η,h3,bS⟩
   ·rw [xW] at lO
    simp only [go_sem,h8,h9,h3,aA,lO]
   ·rw [xW] at bS
    simp only [go_sem,h8,h9,h3,bS,aA]
open Go.RowKit Go.Sort Go.BigFrame
theorem joW {w w1:World} {b o:Nat} {v:Value} (hB:Below w.heap.size w w1) (h:w.cell? ⟨b,o+0,none⟩=some v):w1.cell? ⟨b,o,none⟩=some v:=jr hB h
theorem jGG:∀(x:En),∀d∈jk x,∃u,d=.val u:=by intro y d hd;simp [jk] at hd;rcases hd with rfl|rfl|rfl|rfl<;>exact ⟨_,rfl⟩
theorem joz (y:Yd) (a:Value) (S:List Nat) (w:World) (own:Bool) (ha:AggRep w own (jc y) a S) (cP:jn y<=2000000):
 Calls Tryz.prog 79 #[a] w (jHl w (jg (jaH y))):=by
 obtain ⟨_,rfl,ha⟩:=ha;obtain ⟨sv,rv,S1,S2,rfl,ah0,ah1,rfl⟩:=zl ha;clear ha ah1;obtain ⟨A,c,rfl,c9,dL,d7⟩:=Rep.open_ (size:=1) (enc:=λes=>[jg es]) (λ_=>rfl) (by decide) ah0
 unfold maxLen at dL;have lR:y.aNC.length<=9223372036854775807:=by omega
 have hsm:y.aNC.flatten.length<=2000000:=by rw [vt];simp only [jn,jbp] at cP;omega
 go_enter Tryz.func79,Tryz.ntmps79
 go_wp2
 go_loopw [3,5,9] (λv _ i wr=>∃k:Nat,k<=y.aNC.length/\i=.int .i64 k/\Fill jk 4 tEn w (y.aNC.take k).flatten v wr) (λ_ _ i _=>y.aNC.length-(intOf i).toNat)
 case atStart=>exact ⟨0,by omega,rfl,[],Rep.nil_ _ _ _,Fresh.nil _,(Below.refl _ _).alloc (by simp) _⟩
 case round=>
  obtain ⟨k,hk,rfl,S3,bE,hF,aX⟩:=hrel;by_cases aB:k<y.aNC.length
  ·obtain ⟨es,hx⟩:=ja aB
   obtain ⟨b1,o1,vk1,T1,rfl,-,dC,-,-,aY,bL⟩:=d7 k es hx;clear d7;obtain ⟨u,_,U0,U1,rfl,rfl,hu,rfl,rfl⟩:=dC;have p0:=(aX.cell (p:=⟨b1,o1+k,none⟩) aY).trans (by simpa using bL 0 _ rfl:w.cell? ⟨b1,o1+k,none⟩=_)
   obtain ⟨A2,c2,news,rfl,d9,rM,hn3⟩:=Rep.src (enc:=jk) (size:=4) (λ_=>rfl) (by decide) jGG (hu.below aX (aOC _))
   have dV:=jbO hx
   have cE:(y.aNC.take (k+1)).flatten.length<=2000000:=by
    have:(y.aNC.take (k+1)).flatten.length<=y.aNC.flatten.length:=by rw [vt,vt];exact zm _ _ _
    omega
   rw [dV,aNR] at cE;have HK:=Lib.hid dV;clear hx bL dV
   go_wp2_with ((with_reducible refine jq7 (.tmp 13) (.tmp 14) ?_);refine jbw (enc:=jk) (xs:=(y.aNC.take k).flatten) (ys:=es) rfl _ _ rfl slEn (λ_=>rfl) rfl bE A2 es.length c2 news rfl d9 rfl rM hn3 jyC w.heap.size aX.size (by simpa using hF) (by unfold maxLen;omega) (by omega) ?_;intro v' w' S' eP uY fL _)
   go_roundw
   case rel=>
    refine ⟨k+1,by omega,by go_num,S',?_,uY,aX.trans (fL.below (λs hs=>hF.2 s hs) aX.size)⟩
    rw [HK.out];exact eP
   case measure=>simp [intOf];omega
  ·obtain rfl:k=y.aNC.length:=by omega
   clear d7
   go_wp2
   go_ret
   exact ⟨_,S3,rfl,by rw [aPP] at bE;exact bE,hF,aX⟩
theorem jnc (y:Yd) (a:Value) (S:List Nat) (w:World) (own:Bool) (ha:AggRep w own (jc y) a S) (cP:jn y<=2000000):
 Calls Tryz.prog 21 #[a] w λe w'=>e=.returned (.int .i64 (qj y))/\Below w.heap.size w w':=by
 obtain ⟨_,rfl,ha⟩:=ha;obtain ⟨sv,rv,S1,S2,rfl,ah0,ah1,rfl⟩:=zl ha;clear ha;obtain ⟨A,c,rfl,c9,dL,d7⟩:=Rep.open_ (size:=8) (enc:=je) (λ_=>rfl) (by decide) ah1
 unfold maxLen at dL;have lR:y.aNE.length<=9223372036854775807:=by omega
 have sV:qh kQ y.aNE<=2000000:=by have:=jkA y.aNE;simp only [jn,zn] at cP;omega
 have cX:(jaH y).length<=2000000:=by unfold jaH;rw [vt];simp only [jn,jbp] at cP;omega
 obtain ⟨svA,svn,svc,rfl⟩:=Rep.form ah0;have tI:=upB (Below.refl w.heap.size w) (.cells #[.int .i64 y.now,.int .i64 y.seq,.slice svA svn svc,.slice A y.aNE.length c] tYd)
 go_enter Tryz.func21,Tryz.ntmps21
 go_wp2
 go_loopw [3,5,11] (λn _ i wr=>∃k:Nat,k<=y.aNE.length/\i=.int .i64 k/\n=.int .i64 (qh kQ (y.aNE.take k):Nat)/\Below (w.alloc (.cells #[.int .i64 y.now,.int .i64 y.seq,.slice svA svn svc,.slice A y.aNE.length c] tYd)).heap.size (w.alloc (.cells #[.int .i64 y.now,.int .i64 y.seq,.slice svA svn svc,.slice A y.aNE.length c] tYd)) wr) (λ_ _ i _=>y.aNE.length-(intOf i).toNat)
 case atStart=>exact ⟨0,by omega,rfl,rfl,Below.refl _ _⟩
 case round=>
  obtain ⟨k,hk,rfl,rfl,aX⟩:=hrel;have hB:=kj tI aX;by_cases aB:k<y.aNE.length
  ·obtain ⟨x,hx⟩:=ja aB
   obtain ⟨b1,o1,vk1,T1,rfl,-,dC,-,-,aY,bL⟩:=d7 k x hx;clear d7;obtain ⟨v0,v1,U0,U1,rfl,fU,htv,-⟩:=jaz dC;obtain ⟨_,_,_,rfl⟩:=Rep.form fU;obtain ⟨B,d,rfl,o3,gF,eS⟩:=Rep.open_ (size:=4) (enc:=jH) (λ_=>rfl) (by decide) htv
   unfold maxLen at gF;have nD:x.aNA.length<=9223372036854775807:=by omega
   have p0:=joW hB (bL 0 _ rfl);have p1:=jr hB (bL 1 _ rfl);have p2:=jr hB (bL 2 _ rfl);have p3:=jr hB (bL 3 _ rfl);have p4:=jr hB (bL 4 _ rfl);have p5:=jr hB (bL 5 _ rfl);have p6:=jr hB (bL 6 _ rfl);have p7:=jr hB (bL 7 _ rfl);have dV:=vd (tot:=kQ) hx;have dB:=zm kQ y.aNE (k+1);have mS:kQ x=if x.aND=1 then x.aNA.length else 0:=rfl
   have HK:=Lib.hid dV;have HL:=Lib.hid mS;have nC:(qh kQ (y.aNE.take k):Int)<=2000000:=by omega
   have d9:x.aNA.length<=2000000\/x.aND≠1:=by by_cases h:x.aND=1;left;rw [if_pos h] at mS;omega;exact .inr h
   clear hx bL dC dV mS eS dB;by_cases aH:x.aND=1
   ·have hs:(x.aND==1)=true:=by simpa using aH
    have rM:x.aNA.length<=2000000:=by rcases d9 with h|h;exact h;exact absurd aH h
    have HS:=Lib.hid aH;clear aH d9
    go_wp2
    go_roundw
    case rel=>
     refine ⟨k+1,by omega,by go_num,?_,?_⟩
     ·rw [HK.out,HL.out,if_pos HS.out];go_num
     ·exact aX.trans (((Below.refl _ _).alloc (aOC _) _).mono aX.size)
    case measure=>simp [intOf];omega
   ·have hs:(x.aND==1)=false:=by simpa using aH
    have HS:=Lib.hid aH;clear aH d9
    go_wp2
    go_roundw
    case rel=>
     refine ⟨k+1,by omega,by go_num,?_,?_⟩
     ·rw [HK.out,HL.out,if_neg HS.out];rfl
     ·exact aX.trans (((Below.refl _ _).alloc (aOC _) _).mono aX.size)
    case measure=>simp [intOf];omega
  ·obtain rfl:k=y.aNE.length:=by omega
   clear d7;rw [aPP];obtain ⟨eT,gE⟩:=jao aX;have q0:wr.cell? ⟨w.heap.size,0,none⟩=some (.int .i64 y.now):=(eT _ _ (by simp)).trans (by simp [go_sem])
   have q1:wr.cell? ⟨w.heap.size,1,none⟩=some (.int .i64 y.seq):=(eT _ _ (by simp)).trans (by simp [go_sem])
   have q2:wr.cell? ⟨w.heap.size,2,none⟩=some (.slice svA svn svc):=(eT _ _ (by simp)).trans (by simp [go_sem])
   have q3:wr.cell? ⟨w.heap.size,3,none⟩=some (.slice A y.aNE.length c):=(eT _ _ (by simp)).trans (by simp [go_sem])
   clear eT gE aX
   go_wp2_with fail
   refine (joz y _ _ _ own ⟨_,rfl,ja3 (up ah0 hB) (up ah1 hB)⟩ cP).mono ?_;rintro e w1 ⟨ev,T1,rfl,nX,-,aY⟩;obtain ⟨B,d,rfl,o3,gF,eS⟩:=Rep.open_ (size:=4) (enc:=jk) (λ_=>rfl) (by decide) nX
   unfold maxLen at gF;have sA:=kj hB aY
   replace q0:=jr aY q0
   replace q1:=jr aY q1
   replace q2:=jr aY q2
   replace q3:=jr aY q3
   clear aY nX
   go_wp2_with fail
   go_loopw [3,7,27] (λn _ i wr=>∃k:Nat,k<=(jaH y).length/\i=.int .i64 k/\n=.int .i64 ((qh kQ y.aNE:Int)+qE y ((jaH y).take k))/\Below w1.heap.size w1 wr) (λ_ _ i _=>(jaH y).length-(intOf i).toNat)
   case atStart=>exact ⟨0,by omega,rfl,by simp [qE],Below.refl _ _⟩
   case round=>
    obtain ⟨k,hk,rfl,rfl,aX⟩:=hrel;have dO:=kj sA aX;by_cases aB:k<(jaH y).length
    ·obtain ⟨x,hx⟩:=ja aB
     obtain ⟨b1,o1,vk1,T2,rfl,-,dC,-,-,aY,bL⟩:=eS k x hx;clear eS;obtain ⟨rfl,rfl⟩:=jgL dC;have p0:=joW aX (bL 0 _ rfl);have p1:=jr aX (bL 1 _ rfl);have p2:=jr aX (bL 2 _ rfl);have p3:=jr aX (bL 3 _ rfl);have r0:=jr aX q0;have r1:=jr aX q1;have r2:=jr aX q2;have r3:=jr aX q3;have oP:=World.block_lt_of_cell? wr _ r0;simp only at oP;have gZ:=jmJ (y:=y) hx;have aH:=jmI y (jaH y) (k+1);have hsa:=jnK y (jaH y);have nC:(qh kQ y.aNE:Int)+qE y ((jaH y).take k)<=4000000:=by split at gZ<;>omega
     have HS:=Lib.hid gZ;clear hx bL gZ aH hsa;by_cases gE:jU y x=true
     ·have HF:=Lib.hid gE
      clear gE
      go_wp2_with (go_at_call 84;refine (cb (joA y x _ _ _ _ _ own own ⟨_,rfl,ja3 (upA (up ah0 dO) _) (upA (up ah1 dO) _)⟩ ⟨_,rfl,jBc _ _ x⟩) HF.out).mono ?_;rintro e w2 ⟨rfl,bM⟩)
      go_roundw
      case rel=>
       refine ⟨k+1,by omega,by go_num,?_,kj (upB aX _) bM⟩
       rw [HS.out,if_pos HF.out];rfl
      case measure=>simp [intOf];omega
     ·have oY:jU y x=false:=by simpa using gE
      have HF:=Lib.hid oY;clear gE oY
      go_wp2_with (go_at_call 84;refine (cb (joA y x _ _ _ _ _ own own ⟨_,rfl,ja3 (upA (up ah0 dO) _) (upA (up ah1 dO) _)⟩ ⟨_,rfl,jBc _ _ x⟩) HF.out).mono ?_;rintro e w2 ⟨rfl,bM⟩)
      go_roundw
      case rel=>
       refine ⟨k+1,by omega,by go_num,?_,kj (upB aX _) bM⟩
       rw [HS.out,HF.out];simp;omega
      case measure=>simp [intOf];omega
    ·obtain rfl:k=(jaH y).length:=by omega
     clear eS;rw [aPP];have fJ:qj y=(qh kQ y.aNE:Int)+qE y (jaH y):=rfl;have HSL:=Lib.hid fJ;clear fJ
     go_wp2
     go_ret
     exact ⟨jh0 HSL.out.symm,dO⟩
open Go.RowKit Go.Sort Go.BigFrame
theorem ji1 (y:Yd) (a b:List En):qE y (a++b)=qE y a+qE y b:=by simp [qE]
theorem jmR (y:Yd) (a:Value) (S:List Nat) (w:World) (own:Bool) (ha:AggRep w own (jc y) a S) (cP:jn y<=2000000):
 Calls Tryz.prog 132 #[a] w λe w'=>e=.returned (.int .i64 (qj y))/\Below w.heap.size w w':=by
 obtain ⟨_,rfl,ha⟩:=ha;obtain ⟨sv,rv,S1,S2,rfl,ah0,ah1,rfl⟩:=zl ha;clear ha;obtain ⟨A,c,rfl,c9,dL,d7⟩:=Rep.open_ (size:=8) (enc:=je) (λ_=>rfl) (by decide) ah1
 obtain ⟨C,f,rfl,gT,nK,pY⟩:=Rep.open_ (size:=1) (enc:=λes=>[jg es]) (λ_=>rfl) (by decide) ah0
 unfold maxLen at dL nK;have lR:y.aNE.length<=9223372036854775807:=by omega
 have nD:y.aNC.length<=9223372036854775807:=by omega
 have sV:qh kQ y.aNE<=2000000:=by have:=jkA y.aNE;simp only [jn,zn] at cP;omega
 have cX:(jaH y).length<=2000000:=by unfold jaH;rw [vt];simp only [jn,jbp] at cP;omega
 have tI:=upB (Below.refl w.heap.size w) (.cells #[.int .i64 y.now,.int .i64 y.seq,.slice C y.aNC.length f,.slice A y.aNE.length c] tYd)
 go_enter Tryz.func132,Tryz.ntmps132
 go_wp2
 go_loop [3,4] (λn i=>∃k:Nat,k<=y.aNE.length/\i=.int .i64 k/\n=.int .i64 (qh kQ (y.aNE.take k):Nat)) (λ_ i=>y.aNE.length-(intOf i).toNat)
 case atStart=>exact ⟨0,by omega,rfl,rfl⟩
 case round=>
  obtain ⟨k,hk,rfl,rfl⟩:=hrel;by_cases aB:k<y.aNE.length
  ·obtain ⟨x,hx⟩:=ja aB
   obtain ⟨b1,o1,vk1,T1,rfl,-,dC,-,-,aY,bL⟩:=d7 k x hx;clear d7 pY;obtain ⟨v0,v1,U0,U1,rfl,fU,htv,-⟩:=jaz dC;obtain ⟨B,d,rfl,o3,gF,eS⟩:=Rep.open_ (size:=4) (enc:=jH) (λ_=>rfl) (by decide) htv
   unfold maxLen at gF;have xV:x.aNA.length<=9223372036854775807:=by omega
   have p6:=bL 6 _ rfl;have p7:=bL 7 _ rfl;have dV:=vd (tot:=kQ) hx;have dB:=zm kQ y.aNE (k+1);have mS:kQ x=if x.aND=1 then x.aNA.length else 0:=rfl
   have HK:=Lib.hid dV;have HL:=Lib.hid mS;have nC:(qh kQ (y.aNE.take k):Int)<=2000000:=by omega
   have d9:x.aNA.length<=2000000\/x.aND≠1:=by by_cases h:x.aND=1;left;rw [if_pos h] at mS;omega;exact .inr h
   clear hx bL dC dV mS eS dB;by_cases aH:x.aND=1
   ·have hs:(x.aND==1)=true:=by simpa using aH
    have rM:x.aNA.length<=2000000:=by rcases d9 with h|h;exact h;exact absurd aH h
    have HS:=Lib.hid aH;clear aH d9
    go_wp2
    go_round
    case rel=>
     refine ⟨k+1,by omega,by go_num,?_⟩
     rw [HK.out,HL.out,if_pos HS.out];go_num
    case measure=>simp [intOf];omega
   ·have hs:(x.aND==1)=false:=by simpa using aH
    have HS:=Lib.hid aH;clear aH d9
    go_wp2
    go_round
    case rel=>
     refine ⟨k+1,by omega,by go_num,?_⟩
     rw [HK.out,HL.out,if_neg HS.out];rfl
    case measure=>simp [intOf];omega
  ·obtain rfl:k=y.aNE.length:=by omega
   clear d7;rw [aPP]
   go_wp2
   go_loopw [3,5,6] (λn i _ wr=>∃k:Nat,k<=y.aNC.length/\i=.int .i64 k/\n=.int .i64 ((qh kQ y.aNE:Int)+qE y (y.aNC.take k).flatten)/\Below (w.alloc (.cells #[.int .i64 y.now,.int .i64 y.seq,.slice C y.aNC.length f,.slice A y.aNE.length c] tYd)).heap.size (w.alloc (.cells #[.int .i64 y.now,.int .i64 y.seq,.slice C y.aNC.length f,.slice A y.aNE.length c] tYd)) wr) (λ_ i _ _=>y.aNC.length-(intOf i).toNat)
   case atStart=>exact ⟨0,by omega,rfl,by simp [qE],Below.refl _ _⟩
   case round=>
    obtain ⟨k,hk,rfl,rfl,aX⟩:=hrel;obtain ⟨wo,rfl⟩:∃wo:World,wo=wr:=⟨_,rfl⟩;have dO:=kj tI aX;obtain ⟨eT,gE⟩:=jao aX;have q0:wo.cell? ⟨w.heap.size,0,none⟩=some (.int .i64 y.now):=(eT _ _ (by simp)).trans (by simp [go_sem])
    have q1:wo.cell? ⟨w.heap.size,1,none⟩=some (.int .i64 y.seq):=(eT _ _ (by simp)).trans (by simp [go_sem])
    have q2:wo.cell? ⟨w.heap.size,2,none⟩=some (.slice C y.aNC.length f):=(eT _ _ (by simp)).trans (by simp [go_sem])
    have q3:wo.cell? ⟨w.heap.size,3,none⟩=some (.slice A y.aNE.length c):=(eT _ _ (by simp)).trans (by simp [go_sem])
    clear eT gE;by_cases aB:k<y.aNC.length
    ·obtain ⟨es,hx⟩:=ja aB
     obtain ⟨b1,o1,vk1,T2,rfl,-,dC,-,-,aY,bL⟩:=pY k es hx;clear pY;obtain ⟨u,_,U0,U1,rfl,rfl,hu,rfl,rfl⟩:=dC;have p0:w.cell? ⟨b1,o1+k,none⟩=some u:=by simpa using bL 0 _ rfl
     have hfs:=jbO hx
     have mM:∀j,qE y (y.aNC.take k).flatten+qE y (es.take j)<=2000000:=λj=>by
      have h1:=jmI y es j;have h2:=ji1 y (y.aNC.take k).flatten es;rw [<-hfs] at h2;have h3:=jnK y (y.aNC.take (k+1)).flatten;have h4:(y.aNC.take (k+1)).flatten.length<=(jaH y).length:=by unfold jaH;rw [vt,vt];exact zm _ _ _
      omega
     obtain ⟨B,d,rfl,o3,gF,eS⟩:=Rep.open_ (size:=4) (enc:=jk) (λ_=>rfl) (by decide) hu
     unfold maxLen at gF;have xV:es.length<=9223372036854775807:=by omega
     have p0':=jr dO p0;have HFS:=Lib.hid hfs;clear hx bL hfs
     go_wp2
     go_loopw [3,6] (λn i wr=>∃j:Nat,j<=es.length/\i=.int .i64 j/\n=.int .i64 ((qh kQ y.aNE:Int)+qE y (y.aNC.take k).flatten+qE y (es.take j))/\Below wo.heap.size wo wr) (λ_ i _=>es.length-(intOf i).toNat)
     case atStart=>exact ⟨0,by omega,rfl,by simp [qE],Below.refl _ _⟩
     case round=>
      obtain ⟨j,hj,rfl,rfl,gH⟩:=hrel;have mF:=kj dO gH;have r2:=jr gH q2;have p0'':=jr gH p0';by_cases bN:j<es.length
      ·obtain ⟨x,hx⟩:=ja bN
       obtain ⟨b2,o2,vk2,T3,rfl,-,cR,-,-,bM,cG⟩:=eS j x hx;clear eS;obtain ⟨rfl,rfl⟩:=jgL cR;have hsj:=mM j;have gZ:=jmJ (y:=y) hx;have HS:=Lib.hid gZ;have c0:=cell_regrown (joW mF (cG 0 _ rfl));have c1:=cell_regrown (jr mF (cG 1 _ rfl));have c2:=cell_regrown (jr mF (cG 2 _ rfl));have c3:=cell_regrown (jr mF (cG 3 _ rfl));have g0:=cell_regrown (jr gH q0);have g1:=cell_regrown (jr gH q1);have g2:=cell_regrown r2;have g3:=cell_regrown (jr gH q3);have gp:=cell_regrown p0'';have dK:=λ(W:World) (hW:Below wr.heap.size wr W)=>js1 y x _ _ _ _ W own own ⟨_,rfl,ja3 (up (up ah0 mF) hW) (up (up ah1 mF) hW)⟩ ⟨_,rfl,jBc _ _ x⟩
       clear hx cG gZ mM;by_cases gE:jU y x=true
       ·have HF:=Lib.hid gE
        clear gE
        go_wp2
        refine wp_region_quiet_below (by kernel_rfl) (by kernel_rfl) ?_
        repeat (go_big_quiet_step (exact Calls.regrown_of (cb (dK _ (below_regrown wr _ _)) HF.out)))
        refine wpQuiet_nil ?_;intro _ hw';obtain ⟨⟨dq,osq⟩,hw''⟩:=hw';subst hw''
        go_wp2
        go_roundw
        case rel=>
         refine ⟨j+1,by omega,by go_num,?_,kj gH (below_regrown wr dq osq)⟩
         rw [HS.out,if_pos HF.out];rfl
        case measure=>simp [intOf];omega
       ·have oY:jU y x=false:=by simpa using gE
        have HF:=Lib.hid oY;clear gE oY
        go_wp2
        refine wp_region_quiet_below (by kernel_rfl) (by kernel_rfl) ?_
        repeat (go_big_quiet_step (exact Calls.regrown_of (cb (dK _ (below_regrown wr _ _)) HF.out)))
        refine wpQuiet_nil ?_;intro _ hw';obtain ⟨⟨dq,osq⟩,hw''⟩:=hw';subst hw''
        go_wp2
        go_roundw
        case rel=>
         refine ⟨j+1,by omega,by go_num,?_,kj gH (below_regrown wr dq osq)⟩
         rw [HS.out,HF.out];simp;omega
        case measure=>simp [intOf];omega
      ·obtain rfl:j=es.length:=by omega
       clear eS mM;rw [aPP]
       go_wp2
       go_roundw
       case rel=>
        refine ⟨k+1,by omega,by go_num,?_,kj aX gH⟩
        rw [HFS.out,ji1];simp;omega
       case measure=>simp [intOf];omega
    ·obtain rfl:k=y.aNC.length:=by omega
     clear pY;rw [aPP];have fJ:qj y=(qh kQ y.aNE:Int)+qE y y.aNC.flatten:=rfl;have HSL:=Lib.hid fJ;clear fJ
     go_wp2
     go_ret
     exact ⟨jh0 HSL.out.symm,dO⟩
open Go.RowKit Go.Sort Go.BigFrame
theorem jsZ {y:Yd} (h:jn y<=2000000):0<=qj y/\qj y<=4000000:=by
 have sV:qh kQ y.aNE<=2000000:=by have:=jkA y.aNE;simp only [jn,zn] at h;omega
 have cX:(jaH y).length<=2000000:=by unfold jaH;rw [vt];simp only [jn,jbp] at h;omega
 have aH:=jnK y (jaH y);unfold qj;omega
theorem jvu (y:Yd) (p:Pl) (a b:Value) (S S':List Nat) (w:World) (own own':Bool) (ha:AggRep w own (jc y) a S) (hb:AggRep w own' (jd p) b S') (cP:jn y<=2000000):
 Calls Tryz.prog 46 #[a,b] w λe1 w'=>e1=.returned (.bool (zJ y p))/\Below w.heap.size w w':=by
 obtain ⟨_,rfl,ha⟩:=ha;obtain ⟨_,rfl,hb⟩:=hb;obtain ⟨ev,rfl,fU⟩:=jel hb;obtain ⟨sv,rv,S1,S2,rfl,ah0,ah1,rfl⟩:=zl ha;clear ha hb;obtain ⟨A,c,rfl,c9,dL,-⟩:=Rep.open_ (size:=8) (enc:=je) (λ_=>rfl) (by decide) ah1
 unfold maxLen at dL;have lR:y.aNE.length<=9223372036854775807:=by omega
 have fJ:=jsZ cP
 have dK:∀w',Below w.heap.size w w'->Calls Tryz.prog 21 #[.agg #[.int .i64 y.now,.int .i64 y.seq,sv,.slice A y.aNE.length c]] w' λe w''=>e=.returned (.int .i64 (qj y))/\Below w'.heap.size w' w'':=
  λw' hw=>jnc y _ _ w' own ⟨_,rfl,ja3 (up ah0 hw) (up ah1 hw)⟩ cP
 have yS:zJ y p=(decide (y.aNE.length<8)&&(decide (0<=p.aNA/\p.aNA<=12)&&(decide (qj y+p.aNA<=40)&&decide (y.seq<=1000000000-1000-p.aNA)))):=rfl;have HB:=Lib.hid yS;clear yS;generalize qj y=s at*;obtain ⟨bo,uM⟩:∃bo,bo=zJ y p:=⟨_,rfl⟩;rw [<-uM];have HRF:Hid (bo=(decide (y.aNE.length<8)&&(decide (0<=p.aNA/\p.aNA<=12)&&(decide (s+p.aNA<=40)&&decide (y.seq<=1000000000-1000-p.aNA))))):=Lib.hid (uM.trans HB.out);clear uM HB;obtain ⟨w2,bV⟩:∃w2,w2=((w.alloc (.cells #[.int .i64 y.now,.int .i64 y.seq,sv,.slice A y.aNE.length c] tYd)).alloc (.cells #[.int .i64 p.aNI,.int .i64 p.aNN,.int .i64 p.aNM,.int .i64 p.aNA,ev] tPl)):=⟨_,rfl⟩;have dO:Below w.heap.size w w2:=by subst bV;exact upB (upB (Below.refl w.heap.size w) _) _
 have q3:∀(d:Nat) (os:Array Obj),(grow (redrawn w2 d) os).cell? ⟨w.heap.size,3,none⟩=some (.slice A y.aNE.length c):=λd os=>cell_regrown (by subst bV;simp [go_sem]) d os
 have r3:∀(d:Nat) (os:Array Obj),(grow (redrawn w2 d) os).cell? ⟨w.heap.size+1,3,none⟩=some (.int .i64 p.aNA):=λd os=>cell_regrown (by subst bV;simp [go_sem]) d os
 have q0:∀(d:Nat) (os:Array Obj),(grow (redrawn w2 d) os).cell? ⟨w.heap.size,0,none⟩=some (.int .i64 y.now):=λd os=>cell_regrown (by subst bV;simp [go_sem]) d os
 have q1:∀(d:Nat) (os:Array Obj),(grow (redrawn w2 d) os).cell? ⟨w.heap.size,1,none⟩=some (.int .i64 y.seq):=λd os=>cell_regrown (by subst bV;simp [go_sem]) d os
 have q2:∀(d:Nat) (os:Array Obj),(grow (redrawn w2 d) os).cell? ⟨w.heap.size,2,none⟩=some sv:=λd os=>cell_regrown (by subst bV;simp [go_sem]) d os
 by_cases h1:y.aNE.length<8;rotate_left
 ·have g1:decide ((y.aNE.length:Int)<8)=false:=by simp;omega
  have HD:=Lib.hid (show bo=false by rw [HRF.out];simp only [Bool.and_eq_false_iff,aOV];omega)
  clear h1 HRF
  go_enter Tryz.func46,Tryz.ntmps46
  go_wp2
  rw [<-bV];clear bV;refine wp_region_quiet_below (by kernel_rfl) (by kernel_rfl) ?_
  repeat (go_big_quiet_step (first|exact Calls.regrown_of (cb (ve _ _ _ _) HW.out)|exact Calls.regrown_of (dK _ (kj dO (below_regrown w2 _ _)))))
  refine wpQuiet_nil ?_;intro _ hw';obtain ⟨⟨dq,osq⟩,hw''⟩:=hw';subst hw''
  go_wp2
  go_ret
  exact ⟨jX (by rw [HD.out]),kj dO (below_regrown w2 dq osq)⟩
 have g1:decide ((y.aNE.length:Int)<8)=true:=by simp;omega
 by_cases h2:0<=p.aNA/\p.aNA<=12;rotate_left
 ·have HD:=Lib.hid (show bo=false by rw [HRF.out];simp only [Bool.and_eq_false_iff,aOV];omega)
  have HW:Hid (inb p.aNA 0 12=false):=vK h2;clear h1 h2 HRF
  go_enter Tryz.func46,Tryz.ntmps46
  go_wp2
  rw [<-bV];clear bV;refine wp_region_quiet_below (by kernel_rfl) (by kernel_rfl) ?_
  repeat (go_big_quiet_step (first|exact Calls.regrown_of (cb (ve _ _ _ _) HW.out)|exact Calls.regrown_of (dK _ (kj dO (below_regrown w2 _ _)))))
  refine wpQuiet_nil ?_;intro _ hw';obtain ⟨⟨dq,osq⟩,hw''⟩:=hw';subst hw''
  go_wp2
  go_ret
  exact ⟨jX (by rw [HD.out]),kj dO (below_regrown w2 dq osq)⟩
 have HW:Hid (inb p.aNA 0 12=true):=jbg h2;obtain ⟨h2a,h2b⟩:=h2;by_cases h3:s+p.aNA<=40;rotate_left
 ·have g3:decide (s+p.aNA<=40)=false:=by simp;omega
  have HD:=Lib.hid (show bo=false by rw [HRF.out];simp only [Bool.and_eq_false_iff,aOV];omega)
  clear h1 h3 HRF
  go_enter Tryz.func46,Tryz.ntmps46
  go_wp2
  rw [<-bV];clear bV;refine wp_region_quiet_below (by kernel_rfl) (by kernel_rfl) ?_
  repeat (go_big_quiet_step (first|exact Calls.regrown_of (cb (ve _ _ _ _) HW.out)|exact Calls.regrown_of (dK _ (kj dO (below_regrown w2 _ _)))))
  refine wpQuiet_nil ?_;intro _ hw';obtain ⟨⟨dq,osq⟩,hw''⟩:=hw';subst hw''
  go_wp2
  go_ret
  exact ⟨jX (by rw [HD.out]),kj dO (below_regrown w2 dq osq)⟩
 have g3:decide (s+p.aNA<=40)=true:=by simp;omega
 by_cases h4:y.seq<=999999000-p.aNA
 ·have g4:decide (y.seq<=999999000-p.aNA)=true:=by simp;omega
  have HD:=Lib.hid (show bo=true by rw [HRF.out];simp only [aOF,aOJ];omega)
  clear h1 h3 h4 HRF
  go_enter Tryz.func46,Tryz.ntmps46
  go_wp2
  rw [<-bV];clear bV;refine wp_region_quiet_below (by kernel_rfl) (by kernel_rfl) ?_
  repeat (go_big_quiet_step (first|exact Calls.regrown_of (cb (ve _ _ _ _) HW.out)|exact Calls.regrown_of (dK _ (kj dO (below_regrown w2 _ _)))))
  refine wpQuiet_nil ?_;intro _ hw';obtain ⟨⟨dq,osq⟩,hw''⟩:=hw';subst hw''
  go_wp2
  go_ret
  exact ⟨jX (by rw [HD.out]),kj dO (below_regrown w2 dq osq)⟩
 ·have g4:decide (y.seq<=999999000-p.aNA)=false:=by simp;omega
  have HD:=Lib.hid (show bo=false by rw [HRF.out];simp only [Bool.and_eq_false_iff,aOV];omega)
  clear h1 h3 h4 HRF
  go_enter Tryz.func46,Tryz.ntmps46
  go_wp2
  rw [<-bV];clear bV;refine wp_region_quiet_below (by kernel_rfl) (by kernel_rfl) ?_
  repeat (go_big_quiet_step (first|exact Calls.regrown_of (cb (ve _ _ _ _) HW.out)|exact Calls.regrown_of (dK _ (kj dO (below_regrown w2 _ _)))))
  refine wpQuiet_nil ?_;intro _ hw';obtain ⟨⟨dq,osq⟩,hw''⟩:=hw';subst hw''
  go_wp2
  go_ret
  exact ⟨jX (by rw [HD.out]),kj dO (below_regrown w2 dq osq)⟩
theorem juJ (y:Yd) (p:Pl) (a b:Value) (S S':List Nat) (w:World) (own own':Bool) (ha:AggRep w own (jc y) a S) (hb:AggRep w own' (jd p) b S') (cP:jn y<=2000000):
 Calls Tryz.prog 113 #[a,b] w λe1 w'=>e1=.returned (.bool (zJ y p))/\Below w.heap.size w w':=by
 obtain ⟨_,rfl,ha⟩:=ha;obtain ⟨_,rfl,hb⟩:=hb;obtain ⟨ev,rfl,fU⟩:=jel hb;obtain ⟨sv,rv,S1,S2,rfl,ah0,ah1,rfl⟩:=zl ha;clear ha hb;obtain ⟨A,c,rfl,c9,dL,-⟩:=Rep.open_ (size:=8) (enc:=je) (λ_=>rfl) (by decide) ah1
 unfold maxLen at dL;have lR:y.aNE.length<=9223372036854775807:=by omega
 have fJ:=jsZ cP
 have dK:∀w',Below w.heap.size w w'->Calls Tryz.prog 132 #[.agg #[.int .i64 y.now,.int .i64 y.seq,sv,.slice A y.aNE.length c]] w' λe w''=>e=.returned (.int .i64 (qj y))/\Below w'.heap.size w' w'':=
  λw' hw=>jmR y _ _ w' own ⟨_,rfl,ja3 (up ah0 hw) (up ah1 hw)⟩ cP
 have yS:zJ y p=(decide (y.aNE.length<8)&&(decide (0<=p.aNA/\p.aNA<=12)&&(decide (qj y+p.aNA<=40)&&decide (y.seq<=1000000000-1000-p.aNA)))):=rfl;have HB:=Lib.hid yS;clear yS;generalize qj y=s at*;obtain ⟨bo,uM⟩:∃bo,bo=zJ y p:=⟨_,rfl⟩;rw [<-uM];have HRF:Hid (bo=(decide (y.aNE.length<8)&&(decide (0<=p.aNA/\p.aNA<=12)&&(decide (s+p.aNA<=40)&&decide (y.seq<=1000000000-1000-p.aNA))))):=Lib.hid (uM.trans HB.out);clear uM HB;obtain ⟨w2,bV⟩:∃w2,w2=((w.alloc (.cells #[.int .i64 y.now,.int .i64 y.seq,sv,.slice A y.aNE.length c] tYd)).alloc (.cells #[.int .i64 p.aNI,.int .i64 p.aNN,.int .i64 p.aNM,.int .i64 p.aNA,ev] tPl)):=⟨_,rfl⟩;have dO:Below w.heap.size w w2:=by subst bV;exact upB (upB (Below.refl w.heap.size w) _) _
 have q3:∀(d:Nat) (os:Array Obj),(grow (redrawn w2 d) os).cell? ⟨w.heap.size,3,none⟩=some (.slice A y.aNE.length c):=λd os=>cell_regrown (by subst bV;simp [go_sem]) d os
 have r3:∀(d:Nat) (os:Array Obj),(grow (redrawn w2 d) os).cell? ⟨w.heap.size+1,3,none⟩=some (.int .i64 p.aNA):=λd os=>cell_regrown (by subst bV;simp [go_sem]) d os
 have q0:∀(d:Nat) (os:Array Obj),(grow (redrawn w2 d) os).cell? ⟨w.heap.size,0,none⟩=some (.int .i64 y.now):=λd os=>cell_regrown (by subst bV;simp [go_sem]) d os
 have q1:∀(d:Nat) (os:Array Obj),(grow (redrawn w2 d) os).cell? ⟨w.heap.size,1,none⟩=some (.int .i64 y.seq):=λd os=>cell_regrown (by subst bV;simp [go_sem]) d os
 have q2:∀(d:Nat) (os:Array Obj),(grow (redrawn w2 d) os).cell? ⟨w.heap.size,2,none⟩=some sv:=λd os=>cell_regrown (by subst bV;simp [go_sem]) d os
 by_cases h1:y.aNE.length<8;rotate_left
 ·have g1:decide ((y.aNE.length:Int)<8)=false:=by simp;omega
  have HD:=Lib.hid (show bo=false by rw [HRF.out];simp only [Bool.and_eq_false_iff,aOV];omega)
  clear h1 HRF
  go_enter Tryz.func113,Tryz.ntmps113
  go_wp2
  rw [<-bV];clear bV;refine wp_region_quiet_below (by kernel_rfl) (by kernel_rfl) ?_
  repeat (go_big_quiet_step (first|exact Calls.regrown_of (cb (zV _ _ _ _) HW.out)|exact Calls.regrown_of (dK _ (kj dO (below_regrown w2 _ _)))))
  refine wpQuiet_nil ?_;intro _ hw';obtain ⟨⟨dq,osq⟩,hw''⟩:=hw';subst hw''
  go_wp2
  go_ret
  exact ⟨jX (by rw [HD.out]),kj dO (below_regrown w2 dq osq)⟩
 have g1:decide ((y.aNE.length:Int)<8)=true:=by simp;omega
 by_cases h2:0<=p.aNA/\p.aNA<=12;rotate_left
 ·have HD:=Lib.hid (show bo=false by rw [HRF.out];simp only [Bool.and_eq_false_iff,aOV];omega)
  have HW:Hid (inb p.aNA 0 12=false):=vK h2;clear h1 h2 HRF
  go_enter Tryz.func113,Tryz.ntmps113
  go_wp2
  rw [<-bV];clear bV;refine wp_region_quiet_below (by kernel_rfl) (by kernel_rfl) ?_
  repeat (go_big_quiet_step (first|exact Calls.regrown_of (cb (zV _ _ _ _) HW.out)|exact Calls.regrown_of (dK _ (kj dO (below_regrown w2 _ _)))))
  refine wpQuiet_nil ?_;intro _ hw';obtain ⟨⟨dq,osq⟩,hw''⟩:=hw';subst hw''
  go_wp2
  go_ret
  exact ⟨jX (by rw [HD.out]),kj dO (below_regrown w2 dq osq)⟩
 have HW:Hid (inb p.aNA 0 12=true):=jbg h2;obtain ⟨h2a,h2b⟩:=h2;by_cases h3:s+p.aNA<=40;rotate_left
 ·have g3:decide (s+p.aNA<=40)=false:=by simp;omega
  have HD:=Lib.hid (show bo=false by rw [HRF.out];simp only [Bool.and_eq_false_iff,aOV];omega)
  clear h1 h3 HRF
  go_enter Tryz.func113,Tryz.ntmps113
  go_wp2
  rw [<-bV];clear bV;refine wp_region_quiet_below (by kernel_rfl) (by kernel_rfl) ?_
  repeat (go_big_quiet_step (first|exact Calls.regrown_of (cb (zV _ _ _ _) HW.out)|exact Calls.regrown_of (dK _ (kj dO (below_regrown w2 _ _)))))
  refine wpQuiet_nil ?_;intro _ hw';obtain ⟨⟨dq,osq⟩,hw''⟩:=hw';subst hw''
  go_wp2
  go_ret
  exact ⟨jX (by rw [HD.out]),kj dO (below_regrown w2 dq osq)⟩
 have g3:decide (s+p.aNA<=40)=true:=by simp;omega
 by_cases h4:y.seq<=999999000-p.aNA
 ·have g4:decide (y.seq<=999999000-p.aNA)=true:=by simp;omega
  have HD:=Lib.hid (show bo=true by rw [HRF.out];simp only [aOF,aOJ];omega)
  clear h1 h3 h4 HRF
  go_enter Tryz.func113,Tryz.ntmps113
  go_wp2
  rw [<-bV];clear bV;refine wp_region_quiet_below (by kernel_rfl) (by kernel_rfl) ?_
  repeat (go_big_quiet_step (first|exact Calls.regrown_of (cb (zV _ _ _ _) HW.out)|exact Calls.regrown_of (dK _ (kj dO (below_regrown w2 _ _)))))
  refine wpQuiet_nil ?_;intro _ hw';obtain ⟨⟨dq,osq⟩,hw''⟩:=hw';subst hw''
  go_wp2
  go_ret
  exact ⟨jX (by rw [HD.out]),kj dO (below_regrown w2 dq osq)⟩
 ·have g4:decide (y.seq<=999999000-p.aNA)=false:=by simp;omega
  have HD:=Lib.hid (show bo=false by rw [HRF.out];simp only [Bool.and_eq_false_iff,aOV];omega)
  clear h1 h3 h4 HRF
  go_enter Tryz.func113,Tryz.ntmps113
  go_wp2
  rw [<-bV];clear bV;refine wp_region_quiet_below (by kernel_rfl) (by kernel_rfl) ?_
  repeat (go_big_quiet_step (first|exact Calls.regrown_of (cb (zV _ _ _ _) HW.out)|exact Calls.regrown_of (dK _ (kj dO (below_regrown w2 _ _)))))
  refine wpQuiet_nil ?_;intro _ hw';obtain ⟨⟨dq,osq⟩,hw''⟩:=hw';subst hw''
  go_wp2
  go_ret
  exact ⟨jX (by rw [HD.out]),kj dO (below_regrown w2 dq osq)⟩
open Go.RowKit Go.Sort Go.BigFrame
theorem jAU (y:Yd) (id aNH tri:Int) (a:Value) (S:List Nat) (w:World) (own:Bool) (ha:AggRep w own (jc y) a S):
 Calls Tryz.prog 53 #[a,.int .i64 id,.int .i64 aNH,.int .i64 tri] w λe1 w'=>e1=.returned (.bool (vo y id aNH tri))/\Below w.heap.size w w':=by
 obtain ⟨_,rfl,ha⟩:=ha;obtain ⟨sv,rv,S1,S2,rfl,ah0,ah1,rfl⟩:=zl ha;clear ha;rcases vZ y id aNH with ⟨hr,ht⟩|⟨k,r,hr,hx,⟨eK,ht⟩|⟨j,t,hj,l8,ht⟩⟩
 ·have HR:=Lib.hid hr
  have HF:Hid (vo y id aNH tri=false):=by unfold vo;rw [ht];rfl
  clear hr ht
  go_enter Tryz.func53,Tryz.ntmps53
  go_wp2_with (go_at_call 25;refine (ci (jbh y id _ _ _ own ⟨_,rfl,ja3 (upA ah0 _) (upA ah1 _)⟩) HR.out).mono ?_;rintro e1 w1 ⟨rfl,aY⟩;obtain ⟨c9,gT⟩:=jao aY)
  go_ret
  exact ⟨jX (by rw [HF.out]),kj ((Below.refl _ _).alloc (by simp) _) aY⟩
 all_goals
  have HR:=Lib.hid hr;obtain ⟨A,c,rfl,c9,dL,d7⟩:=Rep.open_ (size:=8) (enc:=je) (λ_=>rfl) (by decide) ah1
  have hk:k<y.aNE.length:=(aNP.1 hx).1;unfold maxLen at dL;have lR:y.aNE.length<=9223372036854775807:=by omega
  obtain ⟨b1,o1,vk1,T1,rfl,-,dC,-,-,uO,bL⟩:=d7 k r hx;clear d7;obtain ⟨v0,v1,U0,U1,rfl,-,gB,-⟩:=jaz dC;have p7:=bL 7 _ rfl;clear bL dC;obtain ⟨B,d,rfl,o3,gF,eS⟩:=Rep.open_ (size:=4) (enc:=jH) (λ_=>rfl) (by decide) gB
  unfold maxLen at gF;have nD:r.aNA.length<=9223372036854775807:=by omega
  have cB:decide ((k:Int)>=0)=true:=by simp
  have oV:decide ((k:Int)<0)=false:=by simp
  clear hr hx
 ·clear eS
  have HF:Hid (vo y id aNH tri=false):=by unfold vo;rw [ht];rfl
  have HW:Hid (inb aNH 0 ((r.aNA.length:Int)-1)=false):=vK eK;clear ht eK
  go_enter Tryz.func53,Tryz.ntmps53
  go_wp2_with fail
  refine (ci (jbh y id _ _ _ own ⟨_,rfl,ja3 (upA ah0 _) (upA ah1 _)⟩) HR.out).mono ?_;rintro e1 w1 ⟨rfl,aY⟩;obtain ⟨c9,gT⟩:=jao aY;have cY:Below w.heap.size w w1:=kj ((Below.refl _ _).alloc (by simp) _) aY
  have p7':=jr cY p7;have q3:w1.cell? ⟨w.heap.size,3,none⟩=some (.slice (some ⟨b1,o1,none⟩) y.aNE.length c):=(c9 _ _ (by simp)).trans (by simp [go_sem])
  go_wp2_with (go_at_call 62;refine (cb (ve _ _ _ _) HW.out).mono ?_;rintro e2 w2 ⟨rfl,bM⟩;obtain ⟨dL,nK⟩:=jao bM)
  go_ret
  exact ⟨jX (by rw [HF.out]),kj cY bM⟩
 ·obtain ⟨b2,o2,vk2,T2,rfl,-,cR,-,-,uN,cG⟩:=eS j t l8
  clear eS;obtain ⟨rfl,rfl⟩:=jkf cR;have p0:w.cell? ⟨b2,o2+j*4,none⟩=some (.int .i64 t.aND):=cG 0 _ rfl;have p1:=cG 1 _ rfl;have p2:=cG 2 _ rfl;have p3:=cG 3 _ rfl;have bN:j<r.aNA.length:=(aNP.1 l8).1;clear cG cR l8;subst hj;have HW:Hid (inb (j:Int) 0 ((r.aNA.length:Int)-1)=true):=jbg (by omega)
  by_cases aH:t.aND=3
  ·have hs:(t.aND==3)=true:=by simpa using aH
   by_cases iV:t.tri=tri
   all_goals
    first|(have cZ:(t.tri==tri)=true:=by simpa using iV)|(have cZ:(t.tri==tri)=false:=by simpa using iV)
    have HF:=Lib.hid (show vo y id j tri=(t.tri==tri) by unfold vo;rw [ht];simp [hs])
    clear ht aH iV
    go_enter Tryz.func53,Tryz.ntmps53
    go_wp2_with fail
    refine (ci (jbh y id _ _ _ own ⟨_,rfl,ja3 (upA ah0 _) (upA ah1 _)⟩) HR.out).mono ?_;rintro e1 w1 ⟨rfl,aY⟩;obtain ⟨c9,gT⟩:=jao aY;have cY:Below w.heap.size w w1:=kj ((Below.refl _ _).alloc (by simp) _) aY
    have p7':=jr cY p7;have q3:w1.cell? ⟨w.heap.size,3,none⟩=some (.slice (some ⟨b1,o1,none⟩) y.aNE.length c):=(c9 _ _ (by simp)).trans (by simp [go_sem])
    go_wp2_with fail
    refine (cb (ve _ _ _ _) HW.out).mono ?_;rintro e2 w2 ⟨rfl,bM⟩;obtain ⟨dL,nK⟩:=jao bM
    replace p7':=jr bM p7'
    replace q3:=jr bM q3
    have p0':=jr bM (jr cY p0);have p1':=jr bM (jr cY p1);have p2':=jr bM (jr cY p2);have p3':=jr bM (jr cY p3)
    go_wp2
    go_ret
    exact ⟨jX (by rw [HF.out,cZ]),by repeat (first|(with_reducible exact kj cY bM)|((with_reducible refine Below.alloc ?_ ?_ _);rotate_left;focus (exact (kj cY bM).size)))⟩
  ·have hs:(t.aND==3)=false:=by simpa using aH
   have HF:=Lib.hid (show vo y id j tri=false by unfold vo;rw [ht];simp [hs])
   clear ht aH
   go_enter Tryz.func53,Tryz.ntmps53
   go_wp2_with fail
   refine (ci (jbh y id _ _ _ own ⟨_,rfl,ja3 (upA ah0 _) (upA ah1 _)⟩) HR.out).mono ?_;rintro e1 w1 ⟨rfl,aY⟩;obtain ⟨c9,gT⟩:=jao aY;have cY:Below w.heap.size w w1:=kj ((Below.refl _ _).alloc (by simp) _) aY
   have p7':=jr cY p7;have q3:w1.cell? ⟨w.heap.size,3,none⟩=some (.slice (some ⟨b1,o1,none⟩) y.aNE.length c):=(c9 _ _ (by simp)).trans (by simp [go_sem])
   go_wp2_with fail
   refine (cb (ve _ _ _ _) HW.out).mono ?_;rintro e2 w2 ⟨rfl,bM⟩;obtain ⟨dL,nK⟩:=jao bM
   replace p7':=jr bM p7'
   replace q3:=jr bM q3
   have p0':=jr bM (jr cY p0);have p1':=jr bM (jr cY p1);have p2':=jr bM (jr cY p2);have p3':=jr bM (jr cY p3)
   go_wp2
   go_ret
   exact ⟨jX (by rw [HF.out]),by repeat (first|(with_reducible exact kj cY bM)|((with_reducible refine Below.alloc ?_ ?_ _);rotate_left;focus (exact (kj cY bM).size)))⟩
theorem jz9 (y:Yd) (id aNH tri:Int) (a:Value) (S:List Nat) (w:World) (own:Bool) (ha:AggRep w own (jc y) a S):
 Calls Tryz.prog 200 #[a,.int .i64 id,.int .i64 aNH,.int .i64 tri] w λe1 w'=>e1=.returned (.bool (vo y id aNH tri))/\Below w.heap.size w w':=by
 obtain ⟨_,rfl,ha⟩:=ha;obtain ⟨sv,rv,S1,S2,rfl,ah0,ah1,rfl⟩:=zl ha;clear ha;rcases vZ y id aNH with ⟨hr,ht⟩|⟨k,r,hr,hx,⟨eK,ht⟩|⟨j,t,hj,l8,ht⟩⟩
 ·have HR:=Lib.hid hr
  have HF:Hid (vo y id aNH tri=false):=by unfold vo;rw [ht];rfl
  clear hr ht
  go_enter Tryz.func200,Tryz.ntmps200
  go_wp2_with (go_at_call 26;refine (ci (jbb y id _ _ _ own ⟨_,rfl,ja3 (upA ah0 _) (upA ah1 _)⟩) HR.out).mono ?_;rintro e1 w1 ⟨rfl,aY⟩;obtain ⟨c9,gT⟩:=jao aY)
  go_ret
  exact ⟨jX (by rw [HF.out]),kj ((Below.refl _ _).alloc (by simp) _) aY⟩
 all_goals
  have HR:=Lib.hid hr;obtain ⟨A,c,rfl,c9,dL,d7⟩:=Rep.open_ (size:=8) (enc:=je) (λ_=>rfl) (by decide) ah1
  have hk:k<y.aNE.length:=(aNP.1 hx).1;unfold maxLen at dL;have lR:y.aNE.length<=9223372036854775807:=by omega
  obtain ⟨b1,o1,vk1,T1,rfl,-,dC,-,-,uO,bL⟩:=d7 k r hx;clear d7;obtain ⟨v0,v1,U0,U1,rfl,-,gB,-⟩:=jaz dC;have p7:=bL 7 _ rfl;clear bL dC;obtain ⟨B,d,rfl,o3,gF,eS⟩:=Rep.open_ (size:=4) (enc:=jH) (λ_=>rfl) (by decide) gB
  unfold maxLen at gF;have nD:r.aNA.length<=9223372036854775807:=by omega
  have cB:decide ((k:Int)>=0)=true:=by simp
  have oV:decide ((k:Int)<0)=false:=by simp
  clear hr hx
 ·clear eS
  have HF:Hid (vo y id aNH tri=false):=by unfold vo;rw [ht];rfl
  have HW:Hid (inb aNH 0 ((r.aNA.length:Int)-1)=false):=vK eK;clear ht eK
  go_enter Tryz.func200,Tryz.ntmps200
  go_wp2_with fail
  refine (ci (jbb y id _ _ _ own ⟨_,rfl,ja3 (upA ah0 _) (upA ah1 _)⟩) HR.out).mono ?_;rintro e1 w1 ⟨rfl,aY⟩;obtain ⟨c9,gT⟩:=jao aY;have cY:Below w.heap.size w w1:=kj ((Below.refl _ _).alloc (by simp) _) aY
  have p7':=jr cY p7;have q3:w1.cell? ⟨w.heap.size,3,none⟩=some (.slice (some ⟨b1,o1,none⟩) y.aNE.length c):=(c9 _ _ (by simp)).trans (by simp [go_sem])
  go_wp2_with (go_at_call 68;refine (cb (zV _ _ _ _) HW.out).mono ?_;rintro e2 w2 ⟨rfl,bM⟩;obtain ⟨dL,nK⟩:=jao bM)
  go_ret
  exact ⟨jX (by rw [HF.out]),kj cY bM⟩
 ·obtain ⟨b2,o2,vk2,T2,rfl,-,cR,-,-,uN,cG⟩:=eS j t l8
  clear eS;obtain ⟨rfl,rfl⟩:=jkf cR;have p0:w.cell? ⟨b2,o2+j*4,none⟩=some (.int .i64 t.aND):=cG 0 _ rfl;have p1:=cG 1 _ rfl;have p2:=cG 2 _ rfl;have p3:=cG 3 _ rfl;have bN:j<r.aNA.length:=(aNP.1 l8).1;clear cG cR l8;subst hj;have HW:Hid (inb (j:Int) 0 ((r.aNA.length:Int)-1)=true):=jbg (by omega)
  by_cases aH:t.aND=3
  ·have hs:(t.aND==3)=true:=by simpa using aH
   by_cases iV:t.tri=tri
   all_goals
    first|(have cZ:(t.tri==tri)=true:=by simpa using iV)|(have cZ:(t.tri==tri)=false:=by simpa using iV)
    have HF:=Lib.hid (show vo y id j tri=(t.tri==tri) by unfold vo;rw [ht];simp [hs])
    clear ht aH iV
    go_enter Tryz.func200,Tryz.ntmps200
    go_wp2_with fail
    refine (ci (jbb y id _ _ _ own ⟨_,rfl,ja3 (upA ah0 _) (upA ah1 _)⟩) HR.out).mono ?_;rintro e1 w1 ⟨rfl,aY⟩;obtain ⟨c9,gT⟩:=jao aY;have cY:Below w.heap.size w w1:=kj ((Below.refl _ _).alloc (by simp) _) aY
    have p7':=jr cY p7;have q3:w1.cell? ⟨w.heap.size,3,none⟩=some (.slice (some ⟨b1,o1,none⟩) y.aNE.length c):=(c9 _ _ (by simp)).trans (by simp [go_sem])
    go_wp2_with fail
    refine (cb (zV _ _ _ _) HW.out).mono ?_;rintro e2 w2 ⟨rfl,bM⟩;obtain ⟨dL,nK⟩:=jao bM
    replace p7':=jr bM p7'
    replace q3:=jr bM q3
    have p0':=jr bM (jr cY p0);have p1':=jr bM (jr cY p1);have p2':=jr bM (jr cY p2);have p3':=jr bM (jr cY p3)
    go_wp2
    go_ret
    exact ⟨jX (by rw [HF.out,cZ]),by repeat (first|(with_reducible exact kj cY bM)|((with_reducible refine Below.alloc ?_ ?_ _);rotate_left;focus (exact (kj cY bM).size)))⟩
  ·have hs:(t.aND==3)=false:=by simpa using aH
   have HF:=Lib.hid (show vo y id j tri=false by unfold vo;rw [ht];simp [hs])
   clear ht aH
   go_enter Tryz.func200,Tryz.ntmps200
   go_wp2_with fail
   refine (ci (jbb y id _ _ _ own ⟨_,rfl,ja3 (upA ah0 _) (upA ah1 _)⟩) HR.out).mono ?_;rintro e1 w1 ⟨rfl,aY⟩;obtain ⟨c9,gT⟩:=jao aY;have cY:Below w.heap.size w w1:=kj ((Below.refl _ _).alloc (by simp) _) aY
   have p7':=jr cY p7;have q3:w1.cell? ⟨w.heap.size,3,none⟩=some (.slice (some ⟨b1,o1,none⟩) y.aNE.length c):=(c9 _ _ (by simp)).trans (by simp [go_sem])
   go_wp2_with fail
   refine (cb (zV _ _ _ _) HW.out).mono ?_;rintro e2 w2 ⟨rfl,bM⟩;obtain ⟨dL,nK⟩:=jao bM
   replace p7':=jr bM p7'
   replace q3:=jr bM q3
   have p0':=jr bM (jr cY p0);have p1':=jr bM (jr cY p1);have p2':=jr bM (jr cY p2);have p3':=jr bM (jr cY p3)
   go_wp2
   go_ret
   exact ⟨jX (by rw [HF.out]),by repeat (first|(with_reducible exact kj cY bM)|((with_reducible refine Below.alloc ?_ ?_ _);rotate_left;focus (exact (kj cY bM).size)))⟩
abbrev tIs:TypeId:=29
def qQ (l:List (List Int)):D:=.sl 1 tIs (l.flatMap λes=>[jb es])
section
variable {P:Program} {β:Nat} {s:St}
theorem jvj (l:List (List Int)):(qQ l).len=l.length:=jaa (enc:=λes=>[jb es]) (λ_=>rfl) (by decide) _ _
theorem jsw {l:List (List Int)} {k:Nat} {x:List Int} (h:l[k]?=some x):(qQ l).elem k=[jb x]:=vN (enc:=λes=>[jb es]) (λ_=>rfl) h
theorem jwL (l:List (List Int)):(qQ l).isSl=true:=(rfl)
theorem jwy (l:List (List Int)):(qQ l).size=1:=(rfl)
theorem jva (l:List (List Int)) (g:Nat) (η:jf):(qQ l).obj g η=[(g,.loose (qQ l) η)]:=(rfl)
theorem ju1 (l:List (List Int)) (g c:Nat) (p:List Nat) (η:jf):(qQ l).toOwn g c p η=.h g c p (η p):=(rfl)
theorem jqR (l:List (List Int)):(qQ l).cells=l.flatMap (λes=>[jb es]):=(rfl)
theorem juA (l:List (List Int)) (e:Nat) (k:List D->Prop):slK (qQ l) e 1 k=(tIs=e/\k (l.flatMap (λes=>[jb es]))):=by rw [show qQ l=.sl 1 tIs (l.flatMap (λes=>[jb es])) from rfl,jvZ];simp
theorem jvI (l:List (List Int)):(l.flatMap (λes=>[jb es])).length/1=l.length:=by rw [jC (enc:=λes=>[jb es]) (size:=1) (λ_=>rfl)];exact aOS _ (by decide)
theorem jzk {l:List (List Int)} {k:Nat} {x:List Int} (h:l[k]?=some x):((l.flatMap (λes=>[jb es])).drop (k*1)).take 1=[jb x]:=jsw h
theorem jyc {l:List (List Int)} {k:Nat} (h:k<l.length):k*1+1<=(l.flatMap (λes=>[jb es])).length:=by rw [jC (enc:=λes=>[jb es]) (size:=1) (λ_=>rfl)];omega
attribute [go_sem] jvj jwL jwy jva ju1 jqR juA jvI
end
def jaC (now id:Int) (t:Tk) (k:Nat):Option (List Int):=if (t.aND==3&&decide (t.til<=now\/t.til-1=now))=true then some [id,k,t.tri] else none
def jag (now:Int) (r:Rn):Nat->List Tk->List (List Int)
 |_,[]=>[]
 |k,t::ts=>(jaC now r.id t k).toList++jag now r (k+1) ts
def kq (y:Yd):List (List Int):=y.aNE.flatMap λr=>jag y.now r 0 r.aNA
open Go.RowKit Go.Sort Go.BigFrame
open Go.RowKit Go.Sort Go.BigFrame
def c4 (l:List En):Nat:=4*l.length
open Go.RowKit Go.Sort Go.BigFrame
open Go.RowKit Go.Sort Go.BigFrame
theorem jm7 (now:Int) (r:Rn) (x:Tk):∀(ts:List Tk) (k:Nat),jag now r k (ts++[x])=jag now r k ts++(jaC now r.id x (k+ts.length)).toList
 |[],k=>by simp [jag]
 |t::ts,k=>by
  rw [aOU,jag,jag,jm7 now r x ts (k+1),aOB]
  congr 3
  simp only [aOD];congr 1;omega
theorem jm6 {now:Int} {r:Rn} {ts:List Tk} {k:Nat} {x:Tk} (h:ts[k]?=some x):jag now r 0 (ts.take (k+1))=jag now r 0 (ts.take k)++(jaC now r.id x k).toList:=by
 have hk:k<ts.length:=(aNP.1 h).1;rw [aOA,h];have:=jm7 now r x (ts.take k) 0;rw [aNV,aPD (by omega),aPH] at this
 exact this
theorem jgz (now:Int) (r:Rn):∀(ts:List Tk) (k:Nat),(jag now r k ts).length<=ts.length
 |[],k=>by simp [jag]
 |t::ts,k=>by
  have:=jgz now r ts (k+1)
  have h2:(jaC now r.id t k).toList.length<=1:=by
   unfold jaC;split<;>simp
  rw [jag,aNR,aOD];omega
def jlc (now:Int) (r:Rn):List (List Int):=jag now r 0 r.aNA
theorem jtC (y:Yd):kq y=y.aNE.flatMap (jlc y.now):=rfl
theorem jqh {now:Int} {l:List Rn} {k:Nat} {r:Rn} (h:l[k]?=some r):(l.take (k+1)).flatMap (jlc now)=(l.take k).flatMap (jlc now)++jlc now r:=by
 rw [aOA,h];simp
theorem jxZ (now:Int) (l:List Rn):(l.flatMap (jlc now)).length<=qh kz l:=by
 induction l with
 |nil=>simp
 |cons r l ih=>
  have:=jgz now r r.aNA 0;simp only [aOM,aNR,jlc,qh,aPB,aQD,kz] at ih⊢;omega
open Go.RowKit Go.Sort Go.BigFrame
def newYd:Yd:=⟨0,1,List.replicate 4 [],[]⟩
theorem jvt (w:World):Calls Tryz.prog 28 #[] w (jzw w (jc newYd)):=by
 go_enter Tryz.func28,Tryz.ntmps28
 go_wp2_with (at_make;refine jky (enc:=(λes=>[jg es])) rfl _ _ rfl jE5 ([]:List En) zEnS .i64 .i64 4 4 4 rfl rfl rfl rfl (by omega) (by unfold maxLen;omega) ?_;intro w1 A1 dC aY;obtain ⟨c9,gT⟩:=jao aY;(have wR:=aY.size);simp at wR;(have bL:=(by omega:w.heap.size<w1.heap.size)))
 refine bodyPost_ret (v:=.agg #[.int .i64 0,.int .i64 1,.slice A1 4 4,.slice none 0 0]) (by simp [results,Tryz.results28,go_sem,c9]) rfl ?_
 refine ⟨_,[w.heap.size+1],rfl,⟨_,rfl,ja3 (y:=newYd) (S1:=[w.heap.size+1]) (S2:=[]) ?_ ?_⟩,?_,?_⟩
 ·have aCC:Rep w1 true (ki newYd.aNC) (.slice A1 4 4) [w.heap.size+1]:=by have h:=dC;simp at h;exact h
  repeat (first|(with_reducible exact aCC)|((with_reducible refine jou ?_ ?_);rotate_left;focus (intro b hb;simp at hb⊢;omega)))
 ·exact Rep.nil_ _ _ _
 ·exact ⟨by simp,by simp⟩
 ·repeat (first|(with_reducible exact Below.refl _ _)|(with_reducible assumption)|((with_reducible refine Below.alloc ?_ ?_ _);rotate_left;focus (simp;try omega))|((with_reducible refine Below.setCell ?_ ?_ _);rotate_left;focus (simp;try omega))|(with_reducible refine kj ?_ (by assumption)))
theorem jmY {S:List Nat} {w w1 w':World} (ho:Only S w1 w') (hb:Below w.heap.size w w1) {b:Nat} (h:b<w.heap.size) (hS:b∉S):(∀o,w'.cell? ⟨b,o,none⟩=w.cell? ⟨b,o,none⟩)/\(∀o,w'.frozen? ⟨b,o,none⟩=w.frozen? ⟨b,o,none⟩):=by
 have e:w'.heap[b]?=w.heap[b]?:=(ho.block b (Nat.lt_of_lt_of_le h hb.size) hS).trans (hb.block b h);exact ⟨λo=>World.cell?_of_block (w:=w) (a:=⟨b,o,none⟩) e,λo=>World.frozen?_of_block (w:=w) (a:=⟨b,o,none⟩) e⟩
theorem jxk (w:World):Rep (w.alloc (.cells #[] tEn)) true (jg []) (.slice (some ⟨w.heap.size,0,none⟩) 0 0) [w.heap.size]:=
 Rep.of_own (size:=4) (enc:=jk) (xs:=[]) (World.ownsRow_made w #[] 0 (aOL _) (by unfold maxLen;omega) rfl) RepL.nil_
theorem jAC (w:World) {o:Obj} {x:Value} {t:TypeId}:∀ad,(some ⟨w.heap.size+1,0,none⟩:Option Addr)=some ad->∀j u,[x][j]?=some u->((w.alloc o).alloc (.cells #[x] t)).cell? (ad.add j)=some u:=by
 intro ad h j u hu;cases h
 obtain rfl:j=0:=by
  have:=(aNP.1 hu).1;simpa using this
 simp at hu;subst hu;simp [go_sem,Addr.add]
set_option maxRecDepth 4000 in
theorem jmQ (w:World):Calls Tryz.prog 33 #[] w (jzw w (jc newYd)):=by
 go_enter Tryz.func33,Tryz.ntmps33
 go_wp2
 go_loopw [2] (λi wr=>∃(k:Nat) (sv:Value) (S:List Nat),k<=4/\i=.int .i64 k/\Rep wr true (ki (List.replicate k [])) sv S/\Fresh (w.heap.size+2) S/\Below w.heap.size w wr/\w.heap.size+2<=wr.heap.size/\
  wr.cell? ⟨w.heap.size+1,0,none⟩=some (.int .i64 0)/\wr.cell? ⟨w.heap.size+1,1,none⟩=some (.int .i64 1)/\wr.cell? ⟨w.heap.size+1,2,none⟩=some sv/\wr.cell? ⟨w.heap.size+1,3,none⟩=some (.slice none 0 0)/\wr.frozen? ⟨w.heap.size+1,2,none⟩=false/\
  (∃u,wr.cell? ⟨w.heap.size,0,none⟩=some u)/\(∃u,wr.cell? ⟨w.heap.size,1,none⟩=some u)/\(∃u,wr.cell? ⟨w.heap.size,2,none⟩=some u)/\(∃u,wr.cell? ⟨w.heap.size,3,none⟩=some u)/\
  wr.frozen? ⟨w.heap.size,0,none⟩=false/\wr.frozen? ⟨w.heap.size,1,none⟩=false/\wr.frozen? ⟨w.heap.size,2,none⟩=false/\wr.frozen? ⟨w.heap.size,3,none⟩=false) (λi _=>4-(intOf i).toNat)
 case atStart=>
  refine ⟨0,_,[],by omega,rfl,Rep.nil_ _ _ _,Fresh.nil _,?_,by simp,?_⟩
  ·repeat (first|(with_reducible exact Below.refl _ _)|(with_reducible assumption)|((with_reducible refine Below.alloc ?_ ?_ _);rotate_left;focus (simp;try omega))|((with_reducible refine Below.setCell ?_ ?_ _);rotate_left;focus (simp;try omega)))
  ·simp [go_sem]
 case round=>
  obtain ⟨k,sv,S,hk,rfl,bE,hF,aX,cP,c0,c1,c2,c3,f2,⟨u0,r0⟩,⟨u1,r1⟩,⟨u2,r2⟩,⟨u3,r3⟩,g0,g1,g2,g3⟩:=hrel;by_cases aB:k<4
  ·have aDQ:w.heap.size+1∉S:=λh=>by have:=hF.2 _ h;omega
   have rI:w.heap.size∉S:=λh=>by have:=hF.2 _ h;omega
   obtain ⟨A0,n0,m0,rfl⟩:=Rep.form bE
   go_wp2_with ((with_reducible refine jq7 (.tmp 9) (.tmp 11) ?_);refine jbw (enc:=(λes=>[jg es])) (xs:=List.replicate k ([]:List En)) (ys:=[[]]) rfl _ _ rfl jE5 (λ_=>rfl) rfl (upA (upA bE _) _) (some ⟨wr.heap.size+1,0,none⟩) 1 1 [.slice (some ⟨wr.heap.size,0,none⟩) 0 0] rfl (RepL.cons_ (upA (jxk wr) _) RepL.nil_) rfl (by simp) (jAC wr) jvC (w.heap.size+2) (by simp;omega) (by simpa using Fresh.join hF (Fresh.one wr.heap.size wr.heap.size (aOC _)) cP (λs hs=>Rep.lt _ bE s hs)) (by unfold maxLen;simp;omega) (by simp;omega) ?_;intro v' w' S' eP uY fL _;obtain ⟨A1,n1,m1,rfl⟩:=Rep.form eP;obtain ⟨hd,n5⟩:=jmY fL (upB (upB (Below.refl wr.heap.size wr) _) _) (by omega) aDQ;obtain ⟨he,eZ⟩:=jmY fL (upB (upB (Below.refl wr.heap.size wr) _) _) (by omega) rI;(have hz:=fL.size);simp at hz;(have wR:=(by omega:w.heap.size+1<w'.heap.size)))
   go_roundw
   case rel=>
    refine ⟨k+1,.slice A1 n1 m1,S',by omega,by go_num,?_,uY,?_,by simp;omega,?_⟩
    ·refine jou ?_ (λb hb=>by have:=uY.2 b hb;simp;omega)
     rw [List.replicate_succ'];exact eP
    ·exact ((upB (upB aX _) _).trans (fL.below (λs hs=>by have:=hF.2 s hs;omega) (by simp;omega))).setCell (by simp) _
    ·simp [go_sem,hd,n5,he,eZ,c0,c1,c2,c3,f2,r0,r1,r2,r3,g0,g1,g2,g3]
   case measure=>simp [intOf];omega
  ·obtain rfl:k=4:=by omega
   obtain ⟨A0,n0,m0,rfl⟩:=Rep.form bE
   go_wp2
   refine bodyPost_ret (v:=.agg #[.int .i64 0,.int .i64 1,.slice A0 n0 m0,.slice none 0 0]) (by simp [results,Tryz.results33,go_sem,r0,r1,r2,r3]) rfl ?_
   refine ⟨_,S++[],rfl,⟨_,rfl,ja3 (y:=newYd) ?_ (Rep.nil_ _ _ _)⟩,?_,?_⟩
   ·have xE:Rep wr true (ki newYd.aNC) (.slice A0 n0 m0) S:=bE
    repeat (first|(with_reducible exact xE)|((with_reducible refine jou ?_ ?_);rotate_left;focus (intro b hb;have:=hF.2 b hb;simp;try omega)))
   ·rw [aOP];exact hF.mono (by omega)
   ·repeat (first|(with_reducible assumption)|((with_reducible refine Below.setCell ?_ ?_ _);rotate_left;focus (simp;try omega)))
theorem jdo:jW Tryz.prog 28 [] (.agg (jc newYd)):=jkV ⟨_,Tryz.func28,by kernel_rfl,by kernel_rfl⟩ λw=>jvt w
theorem jkX:jW Tryz.prog 33 [] (.agg (jc newYd)):=jkV ⟨_,Tryz.func33,by kernel_rfl,by kernel_rfl⟩ λw=>jmQ w
