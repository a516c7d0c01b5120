/- Parts. -/
import Derived.Test.YtekegiiikglhbaaGreatQE7
set_option linter.all false
set_option maxHeartbeats 4000000
set_option maxRecDepth 100000
namespace Go.Proofs.YtekegiiikglhbaaGreat
open Go.RowKit Go.Sort
theorem jfw {y:Yd} (h:jG y<=2000000):y.aAG.length<=2000000:=by
 simp only [jG,qE] at h;omega
theorem jiv {y:Yd} (h:jG y<=2000000):y.aAE.length<=2000000:=by
 simp only [jG,vl] at h;omega
theorem jqh (l:List (List En)):l.flatten.length<=vl l:=by
 induction l with
 |nil=>simp
 |cons x l ih=>
  simp only [aDB,aBE,vl,aCG,jP,aCE,List.sum_cons,kJ] at ih⊢;omega
theorem jer {l:List (List En)} {k:Nat} {x:List En} (h:l[k]?=some x):(l.take (k+1)).flatten=(l.take k).flatten++x:=by
 rw [aAX,h];simp
theorem zu (l:List (List En)) (k:Nat):(l.take k).flatten.length<=l.flatten.length:=by
 have h:l.flatten=(l.take k).flatten++(l.drop k).flatten:=by rw [<-List.flatten_append,aCO]
 rw [h,aBE];omega
theorem qP {y:Yd} (h:jG y<=2000000):y.aAE.flatten.length<=2000000:=by
 have:=jqh y.aAE;simp only [jG] at h;omega
open Go.RowKit Go.Sort Go.BigFrame
theorem jcN {w w1:World} {b o:Nat} {v:Value} (hB:Below w.heap.size w w1) (h:w.cell? ⟨b,o,none⟩=some v) (d:Nat) (os:Array Obj):(grow (redrawn w1 d) os).cell? ⟨b,o,none⟩=some v:=
 cell_regrown ((hB.cell (p:=⟨b,o,none⟩) (World.block_lt_of_cell? w _ h)).trans h) d os
theorem jN {w w1:World} {b o:Nat} {v:Value} (hB:Below w.heap.size w w1) (h:w.cell? ⟨b,o,none⟩=some v):w1.cell? ⟨b,o,none⟩=some v:=
 (hB.cell (p:=⟨b,o,none⟩) (World.block_lt_of_cell? w _ h)).trans h
def inb (n low high:Int):Bool:=decide (low<=n/\n<=high)
theorem jdK {n low high:Int} (h:low<=n/\n<=high):inb n low high=true:=decide_eq_true h
theorem vA {n low high:Int} (h:¬(low<=n/\n<=high)):inb n low high=false:=decide_eq_false h
theorem jgW (a b c:Int) (w:World):Calls Tryz.prog 51 #[.int .i64 a,.int .i64 b,.int .i64 c] w λe w'=>e=.returned (.bool (inb a b c))/\Below w.heap.size w w':=by
 by_cases V:b<=a
 ·by_cases Y:a<=c
  ·have H:Hid (inb a b c=true):=jdK ⟨V,Y⟩
   go_enter Tryz.func51,Tryz.ntmps51
   go_wp2
   go_ret
   exact ⟨jD H.out.symm,Below.refl _ _⟩
  ·have H:Hid (inb a b c=false):=vA λh=>Y h.2
   go_enter Tryz.func51,Tryz.ntmps51
   go_wp2
   go_ret
   exact ⟨jD H.out.symm,Below.refl _ _⟩
 ·have H:Hid (inb a b c=false):=vA λh=>V h.1
  go_enter Tryz.func51,Tryz.ntmps51
  go_wp2
  go_ret
  exact ⟨jD H.out.symm,Below.refl _ _⟩
theorem jiu (a b c:Int) (w:World):Calls Tryz.prog 41 #[.int .i64 a,.int .i64 b,.int .i64 c] w λe w'=>e=.returned (.bool (inb a b c))/\Below w.heap.size w w':=by
 by_cases V:b<=a
 ·by_cases Y:a<=c
  ·have H:Hid (inb a b c=true):=jdK ⟨V,Y⟩
   go_enter Tryz.func41,Tryz.ntmps41
   go_wp2
   go_ret
   exact ⟨jD H.out.symm,Below.refl _ _⟩
  ·have H:Hid (inb a b c=false):=vA λh=>Y h.2
   go_enter Tryz.func41,Tryz.ntmps41
   go_wp2
   go_ret
   exact ⟨jD H.out.symm,Below.refl _ _⟩
 ·have H:Hid (inb a b c=false):=vA λh=>V h.1
  go_enter Tryz.func41,Tryz.ntmps41
  go_wp2
  go_ret
  exact ⟨jD H.out.symm,Below.refl _ _⟩
theorem jiI (y:Yd) (e:En) (a b:Value) (S S':List Nat) (w:World) (own own':Bool) (ha:AggRep w own (jb y) a S) (Z:AggRep w own' (jk e) b S'):
 Calls Tryz.prog 119 #[a,b] w λe1 w'=>e1=.returned (.bool (vb y e))/\Below w.heap.size w w':=by
 obtain ⟨_,rfl,ha⟩:=ha;obtain ⟨_,rfl,Z⟩:=Z;obtain ⟨rfl,rfl⟩:=kr Z;obtain ⟨sv,rv,S1,S2,rfl,ah0,ah1,rfl⟩:=kE ha;clear ha Z;rcases jcQ y e.run e.aAI with ⟨hr,ht⟩|⟨k,r,hr,hx,⟨bQ,ht⟩|⟨j,t,hj,lW,ht⟩⟩
 ·have HR:=Lib.hid hr
  have HF:Hid (vb y e=false):=by unfold vb;rw [ht];rfl
  clear hr ht
  go_enter Tryz.func119,Tryz.ntmps119
  go_wp2_with (go_at_call 84;refine (ci (jdL y e.run _ _ _ own ⟨_,rfl,jc6 (upA (upA ah0 _) _) (upA (upA ah1 _) _)⟩) HR.out).mono ?_;rintro e1 w1 ⟨rfl,aH⟩;obtain ⟨bK,d5⟩:=qr aH)
  refine wp_region_quiet_below (by kernel_rfl) (by kernel_rfl) ?_
  repeat (go_big_quiet_step (fail))
  refine wpQuiet_nil ?_;intro _ hw';obtain ⟨⟨dq,osq⟩,hw''⟩:=hw';subst hw''
  go_wp2
  go_ret
  exact ⟨jD (by rw [HF.out]),jB (jB (((Below.refl _ _).alloc (by simp) _).alloc (by simp) _) aH) (below_regrown w1 dq osq)⟩
 all_goals
  have HR:=Lib.hid hr;obtain ⟨A,c,rfl,bK,bI,aV⟩:=Rep.open_ (size:=8) (enc:=jc) (λ_=>rfl) (by decide) ah1
  have hk:k<y.aAG.length:=(aAR.1 hx).1;unfold maxLen at bI;have dO:y.aAG.length<=9223372036854775807:=by omega
  obtain ⟨b1,o1,vk1,T1,rfl,-,aX,-,-,tG,aK⟩:=aV k r hx;clear aV;obtain ⟨v0,v1,U0,U1,rfl,-,eE,-⟩:=jI aX;have p7:=aK 7 _ rfl;clear aK aX;obtain ⟨B,d,rfl,gI,dQ,bX⟩:=Rep.open_ (size:=4) (enc:=ji) (λ_=>rfl) (by decide) eE
  unfold maxLen at dQ;have lG:r.aAB.length<=9223372036854775807:=by omega
  have xR:decide ((k:Int)>=0)=true:=by simp
  have xQ:decide ((k:Int)<0)=false:=by simp
  clear hr hx
 ·clear bX
  have HF:Hid (vb y e=false):=by unfold vb;rw [ht];rfl
  have HW:Hid (inb e.aAI 0 ((r.aAB.length:Int)-1)=false):=vA bQ;clear ht bQ
  go_enter Tryz.func119,Tryz.ntmps119
  go_wp2_with (go_at_call 84;refine (ci (jdL y e.run _ _ _ own ⟨_,rfl,jc6 (upA (upA ah0 _) _) (upA (upA ah1 _) _)⟩) HR.out).mono ?_;rintro e1 w1 ⟨rfl,aH⟩;obtain ⟨bK,d5⟩:=qr aH)
  have fK:Below w.heap.size w w1:=jB (((Below.refl _ _).alloc (by simp) _).alloc (by simp) _) aH
  have p7':=jcN fK p7;have q3:∀(d:Nat) (os:Array Obj),(grow (redrawn w1 d) os).cell? ⟨w.heap.size,3,none⟩=some (.slice (some ⟨b1,o1,none⟩) y.aAG.length c):=λd os=>cell_regrown ((bK _ _ (by simp;try omega)).trans (by simp [go_sem])) d os
  have r3:∀(d:Nat) (os:Array Obj),(grow (redrawn w1 d) os).cell? ⟨w.heap.size+1,3,none⟩=some (.int .i64 e.aAI):=λd os=>cell_regrown ((bK _ _ (by simp;try omega)).trans (by simp [go_sem])) d os
  refine wp_region_quiet_below (by kernel_rfl) (by kernel_rfl) ?_
  repeat (go_big_quiet_step (exact Calls.regrown_of (cb (jgW _ _ _ _) HW.out)))
  refine wpQuiet_nil ?_;intro _ hw';obtain ⟨⟨dq,osq⟩,hw''⟩:=hw';subst hw''
  go_wp2
  go_ret
  exact ⟨jD (by rw [HF.out]),jB fK (below_regrown w1 dq osq)⟩
 ·obtain ⟨b2,o2,vk2,T2,rfl,-,bV,-,-,tF,cB⟩:=bX j t lW
  clear bX;obtain ⟨rfl,rfl⟩:=kF bV;have p0:w.cell? ⟨b2,o2+j*4,none⟩=some (.int .i64 t.aAD):=cB 0 _ rfl;have bE:j<r.aAB.length:=(aAR.1 lW).1;clear cB bV lW;obtain ⟨e1,e2,e3,e4⟩:=e;simp only at hj HR ht;subst hj;have HW:Hid (inb (j:Int) 0 ((r.aAB.length:Int)-1)=true):=jdK (by omega)
  by_cases bG:t.aAD=2
  all_goals
   first|(have hs:(t.aAD==2)=true:=by simpa using bG)|(have hs:(t.aAD==2)=false:=by simpa using bG)
   have HF:=Lib.hid (show vb y ⟨e1,e2,e3,j⟩=(t.aAD==2) by unfold vb;rw [ht])
   clear ht bG
   go_enter Tryz.func119,Tryz.ntmps119
   go_wp2_with (go_at_call 84;refine (ci (jdL y e3 _ _ _ own ⟨_,rfl,jc6 (upA (upA ah0 _) _) (upA (upA ah1 _) _)⟩) HR.out).mono ?_;rintro e1 w1 ⟨rfl,aH⟩;obtain ⟨bK,d5⟩:=qr aH)
   have fK:Below w.heap.size w w1:=jB (((Below.refl _ _).alloc (by simp) _).alloc (by simp) _) aH
   have p7':=jcN fK p7;have q3:∀(d:Nat) (os:Array Obj),(grow (redrawn w1 d) os).cell? ⟨w.heap.size,3,none⟩=some (.slice (some ⟨b1,o1,none⟩) y.aAG.length c):=λd os=>cell_regrown ((bK _ _ (by simp;try omega)).trans (by simp [go_sem])) d os
   have r3:∀(d:Nat) (os:Array Obj),(grow (redrawn w1 d) os).cell? ⟨w.heap.size+1,3,none⟩=some (.int .i64 j):=λd os=>cell_regrown ((bK _ _ (by simp;try omega)).trans (by simp [go_sem])) d os
   have p0':=jcN fK p0;refine wp_region_quiet_below (by kernel_rfl) (by kernel_rfl) ?_
   repeat (go_big_quiet_step (exact Calls.regrown_of (cb (jgW _ _ _ _) HW.out)))
   refine wpQuiet_nil ?_;intro _ hw';obtain ⟨⟨dq,osq⟩,hw''⟩:=hw';subst hw''
   go_wp2
   go_ret
   exact ⟨jD (by rw [HF.out,hs]),jB fK (below_regrown w1 dq osq)⟩
theorem jnb (y:Yd) (e:En) (a b:Value) (S S':List Nat) (w:World) (own own':Bool) (ha:AggRep w own (jb y) a S) (Z:AggRep w own' (jk e) b S'):
 Calls Tryz.prog 107 #[a,b] w λe1 w'=>e1=.returned (.bool (vb y e))/\Below w.heap.size w w':=by
 obtain ⟨_,rfl,ha⟩:=ha;obtain ⟨_,rfl,Z⟩:=Z;obtain ⟨rfl,rfl⟩:=kr Z;obtain ⟨sv,rv,S1,S2,rfl,ah0,ah1,rfl⟩:=kE ha;clear ha Z;rcases jcQ y e.run e.aAI with ⟨hr,ht⟩|⟨k,r,hr,hx,⟨bQ,ht⟩|⟨j,t,hj,lW,ht⟩⟩
 ·have HR:=Lib.hid hr
  have HF:Hid (vb y e=false):=by unfold vb;rw [ht];rfl
  clear hr ht
  go_enter Tryz.func107,Tryz.ntmps107
  go_wp2_with (go_at_call 69;refine (ci (jdI y e.run _ _ _ own ⟨_,rfl,jc6 (upA (upA ah0 _) _) (upA (upA ah1 _) _)⟩) HR.out).mono ?_;rintro e1 w1 ⟨rfl,aH⟩;obtain ⟨bK,d5⟩:=qr aH)
  refine wp_region_quiet_below (by kernel_rfl) (by kernel_rfl) ?_
  repeat (go_big_quiet_step (fail))
  refine wpQuiet_nil ?_;intro _ hw';obtain ⟨⟨dq,osq⟩,hw''⟩:=hw';subst hw''
  go_wp2
  go_ret
  exact ⟨jD (by rw [HF.out]),jB (jB (((Below.refl _ _).alloc (by simp) _).alloc (by simp) _) aH) (below_regrown w1 dq osq)⟩
 all_goals
  have HR:=Lib.hid hr;obtain ⟨A,c,rfl,bK,bI,aV⟩:=Rep.open_ (size:=8) (enc:=jc) (λ_=>rfl) (by decide) ah1
  have hk:k<y.aAG.length:=(aAR.1 hx).1;unfold maxLen at bI;have dO:y.aAG.length<=9223372036854775807:=by omega
  obtain ⟨b1,o1,vk1,T1,rfl,-,aX,-,-,tG,aK⟩:=aV k r hx;clear aV;obtain ⟨v0,v1,U0,U1,rfl,-,eE,-⟩:=jI aX;have p7:=aK 7 _ rfl;clear aK aX;obtain ⟨B,d,rfl,gI,dQ,bX⟩:=Rep.open_ (size:=4) (enc:=ji) (λ_=>rfl) (by decide) eE
  unfold maxLen at dQ;have lG:r.aAB.length<=9223372036854775807:=by omega
  have xR:decide ((k:Int)>=0)=true:=by simp
  have xQ:decide ((k:Int)<0)=false:=by simp
  clear hr hx
 ·clear bX
  have HF:Hid (vb y e=false):=by unfold vb;rw [ht];rfl
  have HW:Hid (inb e.aAI 0 ((r.aAB.length:Int)-1)=false):=vA bQ;clear ht bQ
  go_enter Tryz.func107,Tryz.ntmps107
  go_wp2_with (go_at_call 69;refine (ci (jdI y e.run _ _ _ own ⟨_,rfl,jc6 (upA (upA ah0 _) _) (upA (upA ah1 _) _)⟩) HR.out).mono ?_;rintro e1 w1 ⟨rfl,aH⟩;obtain ⟨bK,d5⟩:=qr aH)
  have fK:Below w.heap.size w w1:=jB (((Below.refl _ _).alloc (by simp) _).alloc (by simp) _) aH
  have p7':=jcN fK p7;have q3:∀(d:Nat) (os:Array Obj),(grow (redrawn w1 d) os).cell? ⟨w.heap.size,3,none⟩=some (.slice (some ⟨b1,o1,none⟩) y.aAG.length c):=λd os=>cell_regrown ((bK _ _ (by simp;try omega)).trans (by simp [go_sem])) d os
  have r3:∀(d:Nat) (os:Array Obj),(grow (redrawn w1 d) os).cell? ⟨w.heap.size+1,3,none⟩=some (.int .i64 e.aAI):=λd os=>cell_regrown ((bK _ _ (by simp;try omega)).trans (by simp [go_sem])) d os
  refine wp_region_quiet_below (by kernel_rfl) (by kernel_rfl) ?_
  repeat (go_big_quiet_step (exact Calls.regrown_of (cb (jiu _ _ _ _) HW.out)))
  refine wpQuiet_nil ?_;intro _ hw';obtain ⟨⟨dq,osq⟩,hw''⟩:=hw';subst hw''
  go_wp2
  go_ret
  exact ⟨jD (by rw [HF.out]),jB fK (below_regrown w1 dq osq)⟩
 ·obtain ⟨b2,o2,vk2,T2,rfl,-,bV,-,-,tF,cB⟩:=bX j t lW
  clear bX;obtain ⟨rfl,rfl⟩:=kF bV;have p0:w.cell? ⟨b2,o2+j*4,none⟩=some (.int .i64 t.aAD):=cB 0 _ rfl;have bE:j<r.aAB.length:=(aAR.1 lW).1;clear cB bV lW;obtain ⟨e1,e2,e3,e4⟩:=e;simp only at hj HR ht;subst hj;have HW:Hid (inb (j:Int) 0 ((r.aAB.length:Int)-1)=true):=jdK (by omega)
  by_cases bG:t.aAD=2
  all_goals
   first|(have hs:(t.aAD==2)=true:=by simpa using bG)|(have hs:(t.aAD==2)=false:=by simpa using bG)
   have HF:=Lib.hid (show vb y ⟨e1,e2,e3,j⟩=(t.aAD==2) by unfold vb;rw [ht])
   clear ht bG
   go_enter Tryz.func107,Tryz.ntmps107
   go_wp2_with (go_at_call 69;refine (ci (jdI y e3 _ _ _ own ⟨_,rfl,jc6 (upA (upA ah0 _) _) (upA (upA ah1 _) _)⟩) HR.out).mono ?_;rintro e1 w1 ⟨rfl,aH⟩;obtain ⟨bK,d5⟩:=qr aH)
   have fK:Below w.heap.size w w1:=jB (((Below.refl _ _).alloc (by simp) _).alloc (by simp) _) aH
   have p7':=jcN fK p7;have q3:∀(d:Nat) (os:Array Obj),(grow (redrawn w1 d) os).cell? ⟨w.heap.size,3,none⟩=some (.slice (some ⟨b1,o1,none⟩) y.aAG.length c):=λd os=>cell_regrown ((bK _ _ (by simp;try omega)).trans (by simp [go_sem])) d os
   have r3:∀(d:Nat) (os:Array Obj),(grow (redrawn w1 d) os).cell? ⟨w.heap.size+1,3,none⟩=some (.int .i64 j):=λd os=>cell_regrown ((bK _ _ (by simp;try omega)).trans (by simp [go_sem])) d os
   have p0':=jcN fK p0;refine wp_region_quiet_below (by kernel_rfl) (by kernel_rfl) ?_
   repeat (go_big_quiet_step (exact Calls.regrown_of (cb (jiu _ _ _ _) HW.out)))
   refine wpQuiet_nil ?_;intro _ hw';obtain ⟨⟨dq,osq⟩,hw''⟩:=hw';subst hw''
   go_wp2
   go_ret
   exact ⟨jD (by rw [HF.out,hs]),jB fK (below_regrown w1 dq osq)⟩
def vF:C:=iS [iA 1 (.box 36 4 (.t 0)),iA 2 (.mov (.c (.slice none 0 0)))] (iS [iA 5 (.bsl 127 4 0 [] []),aM 3 5] (.seq (iS [aN 4 0] (.blk 0 (.loop (.seq (iS [aM 6 4,aF 7 2 1,aL 8 7,aG 9 8,aP 10 .lss 3 6 9] (iD 10 .skip (.exit 0))) (.seq (.blk 1 (.reg [aM 13 3,aF 14 2 1,aL 15 14,aM 16 4,aI 17 1 15 16,aL 18 17,iA 19 (.app 127 4 32 (.t 13) (.t 18)),aM 3 19])) (.reg [aM 11 4,aQ 12 .add 3 11 1,aM 4 12])))))) (iS [aM 20 3,aM 2 20] .ret)))
theorem jah:fnC Tryz.prog Tryz.f70=some (vF,[.t 2],21):=by kernel_rfl
def vK:C:=iS [iA 1 (.box 36 4 (.t 0)),iA 2 (.mov (.c (.slice none 0 0)))] (iS [iA 3 (.mov (.c (.slice none 0 0)))] (.seq (iS [aF 6 2 1,aL 7 6,aG 8 7,aN 9 0] (.blk 0 (.loop (iS [aP 10 .lss 3 9 8] (.seq (iD 10 .skip (.exit 0)) (.seq (.blk 1 (iS [aI 11 1 7 9,aL 12 11,aM 5 12] (.reg [aM 13 3,aM 14 5,iA 15 (.app 127 4 32 (.t 13) (.t 14)),aM 3 15]))) (.reg [aQ 16 .add 3 9 1,aM 9 16]))))))) (iS [aM 17 3,aM 2 17] .ret)))
theorem jam:fnC Tryz.prog Tryz.f81=some (vK,[.t 2],18):=by kernel_rfl
theorem jl6 (l m:List En):D.sl 4 tEn (l.flatMap jk++m.flatMap jk)=jo (l++m):=by simp [jo]
theorem vv (y:Yd) (ht:jG y<=2000000):jR Tryz.prog 70 [.agg (jb y)] (.c (jo y.aAE.flatten)):=by
 refine pf_ jah ?_;unfold vF;have hl:=jiv ht;have hf:=qP ht;simp only [go_sem,jb];intro b eJ;refine ja5 (λs=>∃(k g ty:Nat) (η:jl),k<=y.aAE.length/\(g=500\/g=1900)/\s.t 1=.c (.bp 100 0 b)/\s.o 100=.box b ty ((jb y).map λx=>.a x.toRo)/\s.t 4=.c (.v (.int .i64 k))/\s.t 3=.c (.h g 0 [] (η []))/\s.o g=.loose (jo (y.aAE.take k).flatten) η) (λs=>y.aAE.length-s.n 4) ?_ ?_
 ·exact ⟨0,500,_,eJ,aBR _,.inl rfl,by simp only [go_sem]<;>rfl,by simp only [go_sem]<;>rfl,by simp only [go_sem]<;>rfl,by simp only [go_sem]<;>rfl,by simp only [go_sem]<;>rfl⟩
 ·rintro s ⟨k,g,ty,η,hk,hg,V,dJ,h4,h3,bL⟩
  by_cases aC:k<y.aAE.length
  ·have aA:(k:Int)<y.aAE.length:=by omega
   obtain ⟨x,hx⟩:=jd aC;have hw:=qg k;have hn:=jer hx;have d2:=zu y.aAE (k+1);rw [hn,aBE] at d2;generalize (y.aAE.take k).flatten=l at*;have dD:l.length+x.length<=maxLen:=jco;have bP:(l.length+x.length)*32<=140737488355328:=by omega
   rcases hg with rfl|rfl
   all_goals
    simp only [go_sem,V,dJ,h4,h3,bL,jb,aC,aA,qo hx,dD,bP,hw,jl6];intro bC;refine ⟨⟨k+1,1900,ty,bC,?_⟩,?_⟩
    ·and_intros<;>first|rfl|omega|exact .inr rfl|(rw [hn];rfl)
    ·rw [jkK (k:=.i64) (n:=((k+1:Nat):Int)) (by simp only [go_sem]),jkK h4];omega
  ·have aA:¬(k:Int)<y.aAE.length:=by omega
   rw [aAW (by omega)] at bL
   rcases hg with rfl|rfl
   all_goals
    simp only [go_sem,V,dJ,h4,h3,bL,jb,aA]
theorem jcm (y:Yd) (ht:jG y<=2000000):jR Tryz.prog 81 [.agg (jb y)] (.c (jo y.aAE.flatten)):=by
 refine pf_ jam ?_;unfold vK;have hl:=jiv ht;have hf:=qP ht;simp only [go_sem,jb];intro b;refine ja5 (λs=>∃k:Nat,k<=y.aAE.length/\s.t 7=.c (.ro (jX y.aAE))/\s.t 8=.c (.v (.int .i64 y.aAE.length))/\s.t 9=.c (.v (.int .i64 k))/\(((y.aAE.take k).flatten=[]/\s.t 3=.c (.v (.slice none 0 0)))\/∃η:jl,s.t 3=.c (.h 1500 0 [] (η []))/\s.o 1500=.loose (jo (y.aAE.take k).flatten) η)) (λs=>y.aAE.length-s.n 9) ?_ ?_
 ·exact ⟨0,aBR _,by simp only [go_sem]<;>rfl,by simp only [go_sem]<;>rfl,by simp only [go_sem]<;>rfl,.inl ⟨rfl,by simp only [go_sem]⟩⟩
 ·rintro s ⟨k,hk,h7,h8,h9,hg⟩
  by_cases aC:k<y.aAE.length
  ·have aA:(k:Int)<y.aAE.length:=by omega
   obtain ⟨x,hx⟩:=jd aC;have hw:=qg k;have hn:=jer hx;have d2:=zu y.aAE (k+1);rw [hn,aBE] at d2;generalize (y.aAE.take k).flatten=l at*;have dD:l.length+x.length<=maxLen:=jco;have bP:(l.length+x.length)*32<=140737488355328:=by omega
   rcases hg with ⟨d9,h3⟩|⟨η,h3,bL⟩
   ·have eH:x.length<=maxLen:=jco
    have pM:x.length*32<=140737488355328:=by omega
    rw [d9,aCA] at hn;simp only [go_sem,h7,h8,h9,h3,aC,aA,qo hx,hw,eH,pM,jib];intro bC;refine ⟨⟨k+1,by omega,rfl,.inr ⟨bC,rfl,by rw [hn]⟩⟩,?_⟩
    rw [jkK (k:=.i64) (n:=((k+1:Nat):Int)) (by simp only [go_sem]),jkK h9];omega
   ·simp only [go_sem,h7,h8,h9,h3,bL,aC,aA,qo hx,hw,dD,bP,jl6]
    intro bC;refine ⟨⟨k+1,by omega,rfl,.inr ⟨bC,rfl,by rw [hn]⟩⟩,?_⟩
    rw [jkK (k:=.i64) (n:=((k+1:Nat):Int)) (by simp only [go_sem]),jkK h9];omega
  ·have aA:¬(k:Int)<y.aAE.length:=by omega
   have eX:y.aAE.take k=y.aAE:=aAW (by omega)
   rcases hg with ⟨d9,h3⟩|⟨η,h3,bL⟩
   ·rw [eX] at d9
    simp only [go_sem,h7,h8,h9,h3,aA,d9]
   ·rw [eX] at bL
    simp only [go_sem,h7,h8,h9,h3,bL,aA]
open Go.RowKit Go.Sort Go.BigFrame
theorem jf6 {w w1:World} {b o:Nat} {v:Value} (hB:Below w.heap.size w w1) (h:w.cell? ⟨b,o+0,none⟩=some v):w1.cell? ⟨b,o,none⟩=some v:=jN hB h
theorem jsn:∀(x:En),∀d∈jk x,∃u,d=.val u:=by intro y d hd;simp [jk] at hd;rcases hd with rfl|rfl|rfl|rfl<;>exact ⟨_,rfl⟩
theorem jfV (y:Yd) (a:Value) (S:List Nat) (w:World) (own:Bool) (ha:AggRep w own (jb y) a S) (bT:jG y<=2000000):
 Calls Tryz.prog 81 #[a] w (jfr w (jo (zV y))):=by
 obtain ⟨_,rfl,ha⟩:=ha;obtain ⟨sv,rv,S1,S2,rfl,ah0,ah1,rfl⟩:=kE ha;clear ha ah1;obtain ⟨A,c,rfl,bK,bI,aV⟩:=Rep.open_ (size:=1) (enc:=λes=>[jo es]) (λ_=>rfl) (by decide) ah0
 unfold maxLen at bI;have dO:y.aAE.length<=9223372036854775807:=by omega
 have wV:y.aAE.flatten.length<=2000000:=by rw [kU];simp only [jG,vl] at bT;omega
 go_enter Tryz.func81,Tryz.ntmps81
 go_wp2
 go_loopw [3,5,9] (λv _ i wr=>∃k:Nat,k<=y.aAE.length/\i=.int .i64 k/\jqM jk 4 tEn w (y.aAE.take k).flatten v wr) (λ_ _ i _=>y.aAE.length-(intOf i).toNat)
 case atStart=>exact ⟨0,by omega,rfl,[],Rep.nil_ _ _ _,Fresh.nil _,(Below.refl _ _).alloc (by simp) _⟩
 case round=>
  obtain ⟨k,hk,rfl,S3,aD,hF,aB⟩:=hrel;by_cases aC:k<y.aAE.length
  ·obtain ⟨es,hx⟩:=jd aC
   obtain ⟨b1,o1,vk1,T1,rfl,-,aX,-,-,aH,aK⟩:=aV k es hx;clear aV;obtain ⟨u,_,U0,U1,rfl,rfl,hu,rfl,rfl⟩:=aX;have p0:=(aB.cell (p:=⟨b1,o1+k,none⟩) aH).trans (by simpa using aK 0 _ rfl:w.cell? ⟨b1,o1+k,none⟩=_)
   obtain ⟨A2,c2,news,rfl,dB,gA,nD⟩:=Rep.src (enc:=jk) (size:=4) (λ_=>rfl) (by decide) jsn (hu.below aB (aAV _))
   have cG:=vB hx
   have d2:(y.aAE.take (k+1)).flatten.length<=2000000:=by
    have:(y.aAE.take (k+1)).flatten.length<=y.aAE.flatten.length:=by rw [kU,kU];exact kS _ _ _
    omega
   rw [cG,aBE] at d2;have HK:=Lib.hid cG;clear hx aK cG
   go_wp2_with ((with_reducible refine jmv (.tmp 13) (.tmp 14) ?_);refine jce (enc:=jk) (xs:=(y.aAE.take k).flatten) (ys:=es) rfl _ _ rfl slEn (λ_=>rfl) rfl aD A2 es.length c2 news rfl dB rfl gA nD jhc w.heap.size aB.size (by simpa using hF) (by unfold maxLen;omega) (by omega) ?_;intro v' w' S' cO e9 cF _)
   go_roundw
   case rel=>
    refine ⟨k+1,by omega,by go_num,S',?_,e9,aB.trans (cF.below (λs hs=>hF.2 s hs) aB.size)⟩
    rw [HK.out];exact cO
   case measure=>simp [intOf];omega
  ·obtain rfl:k=y.aAE.length:=by omega
   clear aV
   go_wp2
   go_ret
   exact ⟨_,S3,rfl,by rw [aBL] at aD;exact aD,hF,aB⟩
theorem jjX (y:Yd) (a:Value) (S:List Nat) (w:World) (own:Bool) (ha:AggRep w own (jb y) a S) (bT:jG y<=2000000):
 Calls Tryz.prog 86 #[a] w λe w'=>e=.returned (.int .i64 (qW y))/\Below w.heap.size w w':=by
 obtain ⟨_,rfl,ha⟩:=ha;obtain ⟨sv,rv,S1,S2,rfl,ah0,ah1,rfl⟩:=kE ha;clear ha;obtain ⟨A,c,rfl,bK,bI,aV⟩:=Rep.open_ (size:=8) (enc:=jc) (λ_=>rfl) (by decide) ah1
 unfold maxLen at bI;have dO:y.aAG.length<=9223372036854775807:=by omega
 have oW:jP ve y.aAG<=2000000:=by have:=jgh y.aAG;simp only [jG,qE] at bT;omega
 have bU:(zV y).length<=2000000:=by unfold zV;rw [kU];simp only [jG,vl] at bT;omega
 obtain ⟨svA,svn,svc,rfl⟩:=Rep.form ah0;have iX:=upB (Below.refl w.heap.size w) (.cells #[.int .i64 y.now,.int .i64 y.seq,.slice svA svn svc,.slice A y.aAG.length c] tYd)
 go_enter Tryz.func86,Tryz.ntmps86
 go_wp2
 go_loopw [3,5,11] (λn _ i wr=>∃k:Nat,k<=y.aAG.length/\i=.int .i64 k/\n=.int .i64 (jP ve (y.aAG.take k):Nat)/\Below (w.alloc (.cells #[.int .i64 y.now,.int .i64 y.seq,.slice svA svn svc,.slice A y.aAG.length c] tYd)).heap.size (w.alloc (.cells #[.int .i64 y.now,.int .i64 y.seq,.slice svA svn svc,.slice A y.aAG.length c] tYd)) wr) (λ_ _ i _=>y.aAG.length-(intOf i).toNat)
 case atStart=>exact ⟨0,by omega,rfl,rfl,Below.refl _ _⟩
 case round=>
  obtain ⟨k,hk,rfl,rfl,aB⟩:=hrel;have hB:=jB iX aB;by_cases aC:k<y.aAG.length
  ·obtain ⟨x,hx⟩:=jd aC
   obtain ⟨b1,o1,vk1,T1,rfl,-,aX,-,-,aH,aK⟩:=aV k x hx;clear aV;obtain ⟨v0,v1,U0,U1,rfl,dS,rP,-⟩:=jI aX;obtain ⟨_,_,_,rfl⟩:=Rep.form dS;obtain ⟨B,d,rfl,gI,dQ,bX⟩:=Rep.open_ (size:=4) (enc:=ji) (λ_=>rfl) (by decide) rP
   unfold maxLen at dQ;have lG:x.aAB.length<=9223372036854775807:=by omega
   have p0:=jf6 hB (aK 0 _ rfl);have p1:=jN hB (aK 1 _ rfl);have p2:=jN hB (aK 2 _ rfl);have p3:=jN hB (aK 3 _ rfl);have p4:=jN hB (aK 4 _ rfl);have p5:=jN hB (aK 5 _ rfl);have p6:=jN hB (aK 6 _ rfl);have p7:=jN hB (aK 7 _ rfl);have cG:=kj (tot:=ve) hx;have cT:=kS ve y.aAG (k+1);have mG:ve x=if x.aAD=1 then x.aAB.length else 0:=rfl
   have HK:=Lib.hid cG;have HL:=Lib.hid mG;have hU:(jP ve (y.aAG.take k):Int)<=2000000:=by omega
   have dB:x.aAB.length<=2000000\/x.aAD≠1:=by by_cases h:x.aAD=1;left;rw [if_pos h] at mG;omega;exact .inr h
   clear hx aK aX cG mG bX cT;by_cases bG:x.aAD=1
   ·have hs:(x.aAD==1)=true:=by simpa using bG
    have gA:x.aAB.length<=2000000:=by rcases dB with h|h;exact h;exact absurd bG h
    have HS:=Lib.hid bG;clear bG dB
    go_wp2
    go_roundw
    case rel=>
     refine ⟨k+1,by omega,by go_num,?_,?_⟩
     ·rw [HK.out,HL.out,if_pos HS.out];go_num
     ·exact aB.trans (((Below.refl _ _).alloc (aAV _) _).mono aB.size)
    case measure=>simp [intOf];omega
   ·have hs:(x.aAD==1)=false:=by simpa using bG
    have HS:=Lib.hid bG;clear bG dB
    go_wp2
    go_roundw
    case rel=>
     refine ⟨k+1,by omega,by go_num,?_,?_⟩
     ·rw [HK.out,HL.out,if_neg HS.out];rfl
     ·exact aB.trans (((Below.refl _ _).alloc (aAV _) _).mono aB.size)
    case measure=>simp [intOf];omega
  ·obtain rfl:k=y.aAG.length:=by omega
   clear aV;rw [aBL];obtain ⟨gJ,eG⟩:=qr aB;have q0:wr.cell? ⟨w.heap.size,0,none⟩=some (.int .i64 y.now):=(gJ _ _ (by simp)).trans (by simp [go_sem])
   have q1:wr.cell? ⟨w.heap.size,1,none⟩=some (.int .i64 y.seq):=(gJ _ _ (by simp)).trans (by simp [go_sem])
   have q2:wr.cell? ⟨w.heap.size,2,none⟩=some (.slice svA svn svc):=(gJ _ _ (by simp)).trans (by simp [go_sem])
   have q3:wr.cell? ⟨w.heap.size,3,none⟩=some (.slice A y.aAG.length c):=(gJ _ _ (by simp)).trans (by simp [go_sem])
   clear gJ eG aB
   go_wp2_with fail
   refine (jfV y _ _ _ own ⟨_,rfl,jc6 (up ah0 hB) (up ah1 hB)⟩ bT).mono ?_;rintro e w1 ⟨ev,T1,rfl,uB,-,aH⟩;obtain ⟨B,d,rfl,gI,dQ,bX⟩:=Rep.open_ (size:=4) (enc:=jk) (λ_=>rfl) (by decide) uB
   unfold maxLen at dQ;have yM:=jB hB aH
   replace q0:=jN aH q0
   replace q1:=jN aH q1
   replace q2:=jN aH q2
   replace q3:=jN aH q3
   clear aH uB
   go_wp2_with fail
   go_loopw [3,7,27] (λn _ i wr=>∃k:Nat,k<=(zV y).length/\i=.int .i64 k/\n=.int .i64 ((jP ve y.aAG:Int)+ky y ((zV y).take k))/\Below w1.heap.size w1 wr) (λ_ _ i _=>(zV y).length-(intOf i).toNat)
   case atStart=>exact ⟨0,by omega,rfl,by simp [ky],Below.refl _ _⟩
   case round=>
    obtain ⟨k,hk,rfl,rfl,aB⟩:=hrel;have iW:=jB yM aB;by_cases aC:k<(zV y).length
    ·obtain ⟨x,hx⟩:=jd aC
     obtain ⟨b1,o1,vk1,T2,rfl,-,aX,-,-,aH,aK⟩:=bX k x hx;clear bX;obtain ⟨rfl,rfl⟩:=kr aX;have p0:=jf6 aB (aK 0 _ rfl);have p1:=jN aB (aK 1 _ rfl);have p2:=jN aB (aK 2 _ rfl);have p3:=jN aB (aK 3 _ rfl);have r0:=jN aB q0;have r1:=jN aB q1;have r2:=jN aB q2;have r3:=jN aB q3;have sI:=World.block_lt_of_cell? wr _ r0;simp only at sI;have fN:=je9 (y:=y) hx;have bG:=je8 y (zV y) (k+1);have wX:=jir y (zV y);have hU:(jP ve y.aAG:Int)+ky y ((zV y).take k)<=4000000:=by split at fN<;>omega
     have HS:=Lib.hid fN;clear hx aK fN bG wX;by_cases eG:vb y x=true
     ·have HF:=Lib.hid eG
      clear eG
      go_wp2_with (go_at_call 119;refine (cb (jiI y x _ _ _ _ _ own own ⟨_,rfl,jc6 (upA (up ah0 iW) _) (upA (up ah1 iW) _)⟩ ⟨_,rfl,jf2 _ _ x⟩) HF.out).mono ?_;rintro e w2 ⟨rfl,bA⟩)
      go_roundw
      case rel=>
       refine ⟨k+1,by omega,by go_num,?_,jB (upB aB _) bA⟩
       rw [HS.out,if_pos HF.out];rfl
      case measure=>simp [intOf];omega
     ·have gE:vb y x=false:=by simpa using eG
      have HF:=Lib.hid gE;clear eG gE
      go_wp2_with (go_at_call 119;refine (cb (jiI y x _ _ _ _ _ own own ⟨_,rfl,jc6 (upA (up ah0 iW) _) (upA (up ah1 iW) _)⟩ ⟨_,rfl,jf2 _ _ x⟩) HF.out).mono ?_;rintro e w2 ⟨rfl,bA⟩)
      go_roundw
      case rel=>
       refine ⟨k+1,by omega,by go_num,?_,jB (upB aB _) bA⟩
       rw [HS.out,HF.out];simp;omega
      case measure=>simp [intOf];omega
    ·obtain rfl:k=(zV y).length:=by omega
     clear bX;rw [aBL];have eF:qW y=(jP ve y.aAG:Int)+ky y (zV y):=rfl;have HSL:=Lib.hid eF;clear eF
     go_wp2
     go_ret
     exact ⟨km HSL.out.symm,iW⟩
open Go.RowKit Go.Sort Go.BigFrame
theorem jcR (y:Yd) (a b:List En):ky y (a++b)=ky y a+ky y b:=by simp [ky]
theorem jjf (y:Yd) (a:Value) (S:List Nat) (w:World) (own:Bool) (ha:AggRep w own (jb y) a S) (bT:jG y<=2000000):
 Calls Tryz.prog 72 #[a] w λe w'=>e=.returned (.int .i64 (qW y))/\Below w.heap.size w w':=by
 obtain ⟨_,rfl,ha⟩:=ha;obtain ⟨sv,rv,S1,S2,rfl,ah0,ah1,rfl⟩:=kE ha;clear ha;obtain ⟨A,c,rfl,bK,bI,aV⟩:=Rep.open_ (size:=8) (enc:=jc) (λ_=>rfl) (by decide) ah1
 obtain ⟨C,f,rfl,d5,nG,rD⟩:=Rep.open_ (size:=1) (enc:=λes=>[jo es]) (λ_=>rfl) (by decide) ah0
 unfold maxLen at bI nG;have dO:y.aAG.length<=9223372036854775807:=by omega
 have lG:y.aAE.length<=9223372036854775807:=by omega
 have oW:jP ve y.aAG<=2000000:=by have:=jgh y.aAG;simp only [jG,qE] at bT;omega
 have bU:(zV y).length<=2000000:=by unfold zV;rw [kU];simp only [jG,vl] at bT;omega
 have iX:=upB (Below.refl w.heap.size w) (.cells #[.int .i64 y.now,.int .i64 y.seq,.slice C y.aAE.length f,.slice A y.aAG.length c] tYd)
 go_enter Tryz.func72,Tryz.ntmps72
 go_wp2
 go_loop [3,4] (λn i=>∃k:Nat,k<=y.aAG.length/\i=.int .i64 k/\n=.int .i64 (jP ve (y.aAG.take k):Nat)) (λ_ i=>y.aAG.length-(intOf i).toNat)
 case atStart=>exact ⟨0,by omega,rfl,rfl⟩
 case round=>
  obtain ⟨k,hk,rfl,rfl⟩:=hrel;by_cases aC:k<y.aAG.length
  ·obtain ⟨x,hx⟩:=jd aC
   obtain ⟨b1,o1,vk1,T1,rfl,-,aX,-,-,aH,aK⟩:=aV k x hx;clear aV rD;obtain ⟨v0,v1,U0,U1,rfl,dS,rP,-⟩:=jI aX;obtain ⟨B,d,rfl,gI,dQ,bX⟩:=Rep.open_ (size:=4) (enc:=ji) (λ_=>rfl) (by decide) rP
   unfold maxLen at dQ;have xL:x.aAB.length<=9223372036854775807:=by omega
   have p6:=aK 6 _ rfl;have p7:=aK 7 _ rfl;have cG:=kj (tot:=ve) hx;have cT:=kS ve y.aAG (k+1);have mG:ve x=if x.aAD=1 then x.aAB.length else 0:=rfl
   have HK:=Lib.hid cG;have HL:=Lib.hid mG;have hU:(jP ve (y.aAG.take k):Int)<=2000000:=by omega
   have dB:x.aAB.length<=2000000\/x.aAD≠1:=by by_cases h:x.aAD=1;left;rw [if_pos h] at mG;omega;exact .inr h
   clear hx aK aX cG mG bX cT;by_cases bG:x.aAD=1
   ·have hs:(x.aAD==1)=true:=by simpa using bG
    have gA:x.aAB.length<=2000000:=by rcases dB with h|h;exact h;exact absurd bG h
    have HS:=Lib.hid bG;clear bG dB
    go_wp2
    go_round
    case rel=>
     refine ⟨k+1,by omega,by go_num,?_⟩
     rw [HK.out,HL.out,if_pos HS.out];go_num
    case measure=>simp [intOf];omega
   ·have hs:(x.aAD==1)=false:=by simpa using bG
    have HS:=Lib.hid bG;clear bG dB
    go_wp2
    go_round
    case rel=>
     refine ⟨k+1,by omega,by go_num,?_⟩
     rw [HK.out,HL.out,if_neg HS.out];rfl
    case measure=>simp [intOf];omega
  ·obtain rfl:k=y.aAG.length:=by omega
   clear aV;rw [aBL]
   go_wp2
   go_loopw [3,5,6] (λn i _ wr=>∃k:Nat,k<=y.aAE.length/\i=.int .i64 k/\n=.int .i64 ((jP ve y.aAG:Int)+ky y (y.aAE.take k).flatten)/\Below (w.alloc (.cells #[.int .i64 y.now,.int .i64 y.seq,.slice C y.aAE.length f,.slice A y.aAG.length c] tYd)).heap.size (w.alloc (.cells #[.int .i64 y.now,.int .i64 y.seq,.slice C y.aAE.length f,.slice A y.aAG.length c] tYd)) wr) (λ_ i _ _=>y.aAE.length-(intOf i).toNat)
   case atStart=>exact ⟨0,by omega,rfl,by simp [ky],Below.refl _ _⟩
   case round=>
    obtain ⟨k,hk,rfl,rfl,aB⟩:=hrel;obtain ⟨wo,rfl⟩:∃wo:World,wo=wr:=⟨_,rfl⟩;have iW:=jB iX aB;obtain ⟨gJ,eG⟩:=qr aB;have q0:wo.cell? ⟨w.heap.size,0,none⟩=some (.int .i64 y.now):=(gJ _ _ (by simp)).trans (by simp [go_sem])
    have q1:wo.cell? ⟨w.heap.size,1,none⟩=some (.int .i64 y.seq):=(gJ _ _ (by simp)).trans (by simp [go_sem])
    have q2:wo.cell? ⟨w.heap.size,2,none⟩=some (.slice C y.aAE.length f):=(gJ _ _ (by simp)).trans (by simp [go_sem])
    have q3:wo.cell? ⟨w.heap.size,3,none⟩=some (.slice A y.aAG.length c):=(gJ _ _ (by simp)).trans (by simp [go_sem])
    clear gJ eG;by_cases aC:k<y.aAE.length
    ·obtain ⟨es,hx⟩:=jd aC
     obtain ⟨b1,o1,vk1,T2,rfl,-,aX,-,-,aH,aK⟩:=rD k es hx;clear rD;obtain ⟨u,_,U0,U1,rfl,rfl,hu,rfl,rfl⟩:=aX;have p0:w.cell? ⟨b1,o1+k,none⟩=some u:=by simpa using aK 0 _ rfl
     have sV:=vB hx
     have eS:∀j,ky y (y.aAE.take k).flatten+ky y (es.take j)<=2000000:=λj=>by
      have V:=je8 y es j;have Y:=jcR y (y.aAE.take k).flatten es;rw [<-sV] at Y;have h3:=jir y (y.aAE.take (k+1)).flatten;have h4:(y.aAE.take (k+1)).flatten.length<=(zV y).length:=by unfold zV;rw [kU,kU];exact kS _ _ _
      omega
     obtain ⟨B,d,rfl,gI,dQ,bX⟩:=Rep.open_ (size:=4) (enc:=jk) (λ_=>rfl) (by decide) hu
     unfold maxLen at dQ;have xL:es.length<=9223372036854775807:=by omega
     have p0':=jN iW p0;have HFS:=Lib.hid sV;clear hx aK sV
     go_wp2
     go_loopw [3,6] (λn i wr=>∃j:Nat,j<=es.length/\i=.int .i64 j/\n=.int .i64 ((jP ve y.aAG:Int)+ky y (y.aAE.take k).flatten+ky y (es.take j))/\Below wo.heap.size wo wr) (λ_ i _=>es.length-(intOf i).toNat)
     case atStart=>exact ⟨0,by omega,rfl,by simp [ky],Below.refl _ _⟩
     case round=>
      obtain ⟨j,hj,rfl,rfl,dT⟩:=hrel;have nJ:=jB iW dT;have r2:=jN dT q2;have p0'':=jN dT p0';by_cases bE:j<es.length
      ·obtain ⟨x,hx⟩:=jd bE
       obtain ⟨b2,o2,vk2,T3,rfl,-,bV,-,-,bA,cB⟩:=bX j x hx;clear bX;obtain ⟨rfl,rfl⟩:=kr bV;have yU:=eS j;have fN:=je9 (y:=y) hx;have HS:=Lib.hid fN;have c0:=cell_regrown (jf6 nJ (cB 0 _ rfl));have c1:=cell_regrown (jN nJ (cB 1 _ rfl));have c2:=cell_regrown (jN nJ (cB 2 _ rfl));have c3:=cell_regrown (jN nJ (cB 3 _ rfl));have g0:=cell_regrown (jN dT q0);have g1:=cell_regrown (jN dT q1);have g2:=cell_regrown r2;have g3:=cell_regrown (jN dT q3);have gp:=cell_regrown p0'';have bS:=λ(W:World) (hW:Below wr.heap.size wr W)=>jnb y x _ _ _ _ W own own ⟨_,rfl,jc6 (up (up ah0 nJ) hW) (up (up ah1 nJ) hW)⟩ ⟨_,rfl,jf2 _ _ x⟩
       clear hx cB fN eS;by_cases eG:vb y x=true
       ·have HF:=Lib.hid eG
        clear eG
        go_wp2
        refine wp_region_quiet_below (by kernel_rfl) (by kernel_rfl) ?_
        repeat (go_big_quiet_step (exact Calls.regrown_of (cb (bS _ (below_regrown wr _ _)) HF.out)))
        refine wpQuiet_nil ?_;intro _ hw';obtain ⟨⟨dq,osq⟩,hw''⟩:=hw';subst hw''
        go_wp2
        go_roundw
        case rel=>
         refine ⟨j+1,by omega,by go_num,?_,jB dT (below_regrown wr dq osq)⟩
         rw [HS.out,if_pos HF.out];rfl
        case measure=>simp [intOf];omega
       ·have gE:vb y x=false:=by simpa using eG
        have HF:=Lib.hid gE;clear eG gE
        go_wp2
        refine wp_region_quiet_below (by kernel_rfl) (by kernel_rfl) ?_
        repeat (go_big_quiet_step (exact Calls.regrown_of (cb (bS _ (below_regrown wr _ _)) HF.out)))
        refine wpQuiet_nil ?_;intro _ hw';obtain ⟨⟨dq,osq⟩,hw''⟩:=hw';subst hw''
        go_wp2
        go_roundw
        case rel=>
         refine ⟨j+1,by omega,by go_num,?_,jB dT (below_regrown wr dq osq)⟩
         rw [HS.out,HF.out];simp;omega
        case measure=>simp [intOf];omega
      ·obtain rfl:j=es.length:=by omega
       clear bX eS;rw [aBL]
       go_wp2
       go_roundw
       case rel=>
        refine ⟨k+1,by omega,by go_num,?_,jB aB dT⟩
        rw [HFS.out,jcR];simp;omega
       case measure=>simp [intOf];omega
    ·obtain rfl:k=y.aAE.length:=by omega
     clear rD;rw [aBL];have eF:qW y=(jP ve y.aAG:Int)+ky y y.aAE.flatten:=rfl;have HSL:=Lib.hid eF;clear eF
     go_wp2
     go_ret
     exact ⟨km HSL.out.symm,iW⟩
