/- Parts. -/
import Derived.Test.YtcehjhiglmifjaaGreatQAb
set_option linter.all false
set_option maxHeartbeats 4000000
set_option maxRecDepth 100000
namespace Go.Proofs.YtcehjhiglmifjaaGreat
open Go.RowKit Go.Sort Go.BigFrame
theorem jiZ {w w1:World} {b o:Nat} {v:Value} (hB:Below w.heap.size w w1) (h:w.cell? ⟨b,o,none⟩=some v) (d:Nat) (os:Array Obj):(grow (redrawn w1 d) os).cell? ⟨b,o,none⟩=some v:=
 cell_regrown ((hB.cell (p:=⟨b,o,none⟩) (World.block_lt_of_cell? w _ h)).trans h) d os
theorem jr {w w1:World} {b o:Nat} {v:Value} (hB:Below w.heap.size w w1) (h:w.cell? ⟨b,o,none⟩=some v):w1.cell? ⟨b,o,none⟩=some v:=
 (hB.cell (p:=⟨b,o,none⟩) (World.block_lt_of_cell? w _ h)).trans h
def inb (n low high:Int):Bool:=decide (low<=n/\n<=high)
theorem jbj {n low high:Int} (h:low<=n/\n<=high):inb n low high=true:=decide_eq_true h
theorem vO {n low high:Int} (h:¬(low<=n/\n<=high)):inb n low high=false:=decide_eq_false h
theorem vN (a b c:Int) (w:World):Calls Tryz.prog 62 #[.int .i64 a,.int .i64 b,.int .i64 c] w λe w'=>e=.returned (.bool (inb a b c))/\Below w.heap.size w w':=by
 by_cases h1:b<=a
 ·by_cases h2:a<=c
  ·have H:Hid (inb a b c=true):=jbj ⟨h1,h2⟩
   go_enter Tryz.func62,Tryz.ntmps62
   go_wp2
   go_ret
   exact ⟨jH H.out.symm,Below.refl _ _⟩
  ·have H:Hid (inb a b c=false):=vO λh=>h2 h.2
   go_enter Tryz.func62,Tryz.ntmps62
   go_wp2
   go_ret
   exact ⟨jH H.out.symm,Below.refl _ _⟩
 ·have H:Hid (inb a b c=false):=vO λh=>h1 h.1
  go_enter Tryz.func62,Tryz.ntmps62
  go_wp2
  go_ret
  exact ⟨jH H.out.symm,Below.refl _ _⟩
theorem jab (a b c:Int) (w:World):Calls Tryz.prog 68 #[.int .i64 a,.int .i64 b,.int .i64 c] w λe w'=>e=.returned (.bool (inb a b c))/\Below w.heap.size w w':=by
 by_cases h1:b<=a
 ·by_cases h2:a<=c
  ·have H:Hid (inb a b c=true):=jbj ⟨h1,h2⟩
   go_enter Tryz.func68,Tryz.ntmps68
   go_wp2
   go_ret
   exact ⟨jH H.out.symm,Below.refl _ _⟩
  ·have H:Hid (inb a b c=false):=vO λh=>h2 h.2
   go_enter Tryz.func68,Tryz.ntmps68
   go_wp2
   go_ret
   exact ⟨jH H.out.symm,Below.refl _ _⟩
 ·have H:Hid (inb a b c=false):=vO λh=>h1 h.1
  go_enter Tryz.func68,Tryz.ntmps68
  go_wp2
  go_ret
  exact ⟨jH H.out.symm,Below.refl _ _⟩
theorem jot (y:Yd) (e:En) (a b:Value) (S S':List Nat) (w:World) (own own':Bool) (ha:AggRep w own (jb y) a S) (hb:AggRep w own' (jj e) b S'):
 Calls Tryz.prog 84 #[a,b] w λe1 w'=>e1=.returned (.bool (jJ y e))/\Below w.heap.size w w':=by
 obtain ⟨_,rfl,ha⟩:=ha;obtain ⟨_,rfl,hb⟩:=hb;obtain ⟨rfl,rfl⟩:=jco hb;obtain ⟨sv,rv,S1,S2,rfl,ah0,ah1,rfl⟩:=qW ha;clear ha hb;rcases zc y e.run e.aOK with ⟨hr,ht⟩|⟨k,r,hr,hx,⟨eA,ht⟩|⟨j,t,hj,mH,ht⟩⟩
 ·have HR:=Lib.hid hr
  have HF:Hid (jJ y e=false):=by unfold jJ;rw [ht];rfl
  clear hr ht
  go_enter Tryz.func84,Tryz.ntmps84
  go_wp2_with (go_at_call 25;refine (ci (jbk y e.run _ _ _ own ⟨_,rfl,jaF (upA (upA ah0 _) _) (upA (upA ah1 _) _)⟩) HR.out).mono ?_;rintro e1 w1 ⟨rfl,aZ⟩;obtain ⟨cT,fU⟩:=zC aZ)
  refine wp_region_quiet_below (by kernel_rfl) (by kernel_rfl) ?_
  repeat (go_big_quiet_step (fail))
  refine wpQuiet_nil ?_;intro _ hw';obtain ⟨⟨dq,osq⟩,hw''⟩:=hw';subst hw''
  go_wp2
  go_ret
  exact ⟨jH (by rw [HF.out]),jW (jW (((Below.refl _ _).alloc (by simp) _).alloc (by simp) _) aZ) (below_regrown w1 dq osq)⟩
 all_goals
  have HR:=Lib.hid hr;obtain ⟨A,c,rfl,cT,cY,cM⟩:=Rep.open_ (size:=8) (enc:=jd) (λ_=>rfl) (by decide) ah1
  have hk:k<y.aOH.length:=(aOS.1 hx).1;unfold maxLen at cY;have gM:y.aOH.length<=9223372036854775807:=by omega
  obtain ⟨b1,o1,vk1,T1,rfl,-,cK,-,-,uV,bA⟩:=cM k r hx;clear cM;obtain ⟨v0,v1,U0,U1,rfl,-,gJ,-⟩:=vE cK;have p7:=bA 7 _ rfl;clear bA cK;obtain ⟨B,d,rfl,mQ,fC,dA⟩:=Rep.open_ (size:=4) (enc:=jz) (λ_=>rfl) (by decide) gJ
  unfold maxLen at fC;have mC:r.aOD.length<=9223372036854775807:=by omega
  have cI:decide ((k:Int)>=0)=true:=by simp
  have lZ:decide ((k:Int)<0)=false:=by simp
  clear hr hx
 ·clear dA
  have HF:Hid (jJ y e=false):=by unfold jJ;rw [ht];rfl
  have HW:Hid (inb e.aOK 0 ((r.aOD.length:Int)-1)=false):=vO eA;clear ht eA
  go_enter Tryz.func84,Tryz.ntmps84
  go_wp2_with (go_at_call 25;refine (ci (jbk y e.run _ _ _ own ⟨_,rfl,jaF (upA (upA ah0 _) _) (upA (upA ah1 _) _)⟩) HR.out).mono ?_;rintro e1 w1 ⟨rfl,aZ⟩;obtain ⟨cT,fU⟩:=zC aZ)
  have dB:Below w.heap.size w w1:=jW (((Below.refl _ _).alloc (by simp) _).alloc (by simp) _) aZ
  have p7':=jiZ dB p7;have q3:∀(d:Nat) (os:Array Obj),(grow (redrawn w1 d) os).cell? ⟨w.heap.size,3,none⟩=some (.slice (some ⟨b1,o1,none⟩) y.aOH.length c):=λd os=>cell_regrown ((cT _ _ (by simp;try omega)).trans (by simp [go_sem])) d os
  have r3:∀(d:Nat) (os:Array Obj),(grow (redrawn w1 d) os).cell? ⟨w.heap.size+1,3,none⟩=some (.int .i64 e.aOK):=λd os=>cell_regrown ((cT _ _ (by simp;try omega)).trans (by simp [go_sem])) d os
  refine wp_region_quiet_below (by kernel_rfl) (by kernel_rfl) ?_
  repeat (go_big_quiet_step (exact Calls.regrown_of (cb (vN _ _ _ _) HW.out)))
  refine wpQuiet_nil ?_;intro _ hw';obtain ⟨⟨dq,osq⟩,hw''⟩:=hw';subst hw''
  go_wp2
  go_ret
  exact ⟨jH (by rw [HF.out]),jW dB (below_regrown w1 dq osq)⟩
 ·obtain ⟨b2,o2,vk2,T2,rfl,-,bZ,-,-,uU,bG⟩:=dA j t mH
  clear dA;obtain ⟨rfl,rfl⟩:=jea bZ;have p0:w.cell? ⟨b2,o2+j*4,none⟩=some (.int .i64 t.aOG):=bG 0 _ rfl;have bJ:j<r.aOD.length:=(aOS.1 mH).1;clear bG bZ mH;obtain ⟨e1,e2,e3,e4⟩:=e;simp only at hj HR ht;subst hj;have HW:Hid (inb (j:Int) 0 ((r.aOD.length:Int)-1)=true):=jbj (by omega)
  by_cases aJ:t.aOG=2
  all_goals
   first|(have hs:(t.aOG==2)=true:=by simpa using aJ)|(have hs:(t.aOG==2)=false:=by simpa using aJ)
   have HF:=Lib.hid (show jJ y ⟨e1,e2,e3,j⟩=(t.aOG==2) by unfold jJ;rw [ht])
   clear ht aJ
   go_enter Tryz.func84,Tryz.ntmps84
   go_wp2_with (go_at_call 25;refine (ci (jbk y e3 _ _ _ own ⟨_,rfl,jaF (upA (upA ah0 _) _) (upA (upA ah1 _) _)⟩) HR.out).mono ?_;rintro e1 w1 ⟨rfl,aZ⟩;obtain ⟨cT,fU⟩:=zC aZ)
   have dB:Below w.heap.size w w1:=jW (((Below.refl _ _).alloc (by simp) _).alloc (by simp) _) aZ
   have p7':=jiZ dB p7;have q3:∀(d:Nat) (os:Array Obj),(grow (redrawn w1 d) os).cell? ⟨w.heap.size,3,none⟩=some (.slice (some ⟨b1,o1,none⟩) y.aOH.length c):=λd os=>cell_regrown ((cT _ _ (by simp;try omega)).trans (by simp [go_sem])) d os
   have r3:∀(d:Nat) (os:Array Obj),(grow (redrawn w1 d) os).cell? ⟨w.heap.size+1,3,none⟩=some (.int .i64 j):=λd os=>cell_regrown ((cT _ _ (by simp;try omega)).trans (by simp [go_sem])) d os
   have p0':=jiZ dB p0;refine wp_region_quiet_below (by kernel_rfl) (by kernel_rfl) ?_
   repeat (go_big_quiet_step (exact Calls.regrown_of (cb (vN _ _ _ _) HW.out)))
   refine wpQuiet_nil ?_;intro _ hw';obtain ⟨⟨dq,osq⟩,hw''⟩:=hw';subst hw''
   go_wp2
   go_ret
   exact ⟨jH (by rw [HF.out,hs]),jW dB (below_regrown w1 dq osq)⟩
theorem jsC (y:Yd) (e:En) (a b:Value) (S S':List Nat) (w:World) (own own':Bool) (ha:AggRep w own (jb y) a S) (hb:AggRep w own' (jj e) b S'):
 Calls Tryz.prog 75 #[a,b] w λe1 w'=>e1=.returned (.bool (jJ y e))/\Below w.heap.size w w':=by
 obtain ⟨_,rfl,ha⟩:=ha;obtain ⟨_,rfl,hb⟩:=hb;obtain ⟨rfl,rfl⟩:=jco hb;obtain ⟨sv,rv,S1,S2,rfl,ah0,ah1,rfl⟩:=qW ha;clear ha hb;rcases zc y e.run e.aOK with ⟨hr,ht⟩|⟨k,r,hr,hx,⟨eA,ht⟩|⟨j,t,hj,mH,ht⟩⟩
 ·have HR:=Lib.hid hr
  have HF:Hid (jJ y e=false):=by unfold jJ;rw [ht];rfl
  clear hr ht
  go_enter Tryz.func75,Tryz.ntmps75
  go_wp2_with (go_at_call 26;refine (ci (jbg y e.run _ _ _ own ⟨_,rfl,jaF (upA (upA ah0 _) _) (upA (upA ah1 _) _)⟩) HR.out).mono ?_;rintro e1 w1 ⟨rfl,aZ⟩;obtain ⟨cT,fU⟩:=zC aZ)
  refine wp_region_quiet_below (by kernel_rfl) (by kernel_rfl) ?_
  repeat (go_big_quiet_step (fail))
  refine wpQuiet_nil ?_;intro _ hw';obtain ⟨⟨dq,osq⟩,hw''⟩:=hw';subst hw''
  go_wp2
  go_ret
  exact ⟨jH (by rw [HF.out]),jW (jW (((Below.refl _ _).alloc (by simp) _).alloc (by simp) _) aZ) (below_regrown w1 dq osq)⟩
 all_goals
  have HR:=Lib.hid hr;obtain ⟨A,c,rfl,cT,cY,cM⟩:=Rep.open_ (size:=8) (enc:=jd) (λ_=>rfl) (by decide) ah1
  have hk:k<y.aOH.length:=(aOS.1 hx).1;unfold maxLen at cY;have gM:y.aOH.length<=9223372036854775807:=by omega
  obtain ⟨b1,o1,vk1,T1,rfl,-,cK,-,-,uV,bA⟩:=cM k r hx;clear cM;obtain ⟨v0,v1,U0,U1,rfl,-,gJ,-⟩:=vE cK;have p7:=bA 7 _ rfl;clear bA cK;obtain ⟨B,d,rfl,mQ,fC,dA⟩:=Rep.open_ (size:=4) (enc:=jz) (λ_=>rfl) (by decide) gJ
  unfold maxLen at fC;have mC:r.aOD.length<=9223372036854775807:=by omega
  have cI:decide ((k:Int)>=0)=true:=by simp
  have lZ:decide ((k:Int)<0)=false:=by simp
  clear hr hx
 ·clear dA
  have HF:Hid (jJ y e=false):=by unfold jJ;rw [ht];rfl
  have HW:Hid (inb e.aOK 0 ((r.aOD.length:Int)-1)=false):=vO eA;clear ht eA
  go_enter Tryz.func75,Tryz.ntmps75
  go_wp2_with (go_at_call 26;refine (ci (jbg y e.run _ _ _ own ⟨_,rfl,jaF (upA (upA ah0 _) _) (upA (upA ah1 _) _)⟩) HR.out).mono ?_;rintro e1 w1 ⟨rfl,aZ⟩;obtain ⟨cT,fU⟩:=zC aZ)
  have dB:Below w.heap.size w w1:=jW (((Below.refl _ _).alloc (by simp) _).alloc (by simp) _) aZ
  have p7':=jiZ dB p7;have q3:∀(d:Nat) (os:Array Obj),(grow (redrawn w1 d) os).cell? ⟨w.heap.size,3,none⟩=some (.slice (some ⟨b1,o1,none⟩) y.aOH.length c):=λd os=>cell_regrown ((cT _ _ (by simp;try omega)).trans (by simp [go_sem])) d os
  have r3:∀(d:Nat) (os:Array Obj),(grow (redrawn w1 d) os).cell? ⟨w.heap.size+1,3,none⟩=some (.int .i64 e.aOK):=λd os=>cell_regrown ((cT _ _ (by simp;try omega)).trans (by simp [go_sem])) d os
  refine wp_region_quiet_below (by kernel_rfl) (by kernel_rfl) ?_
  repeat (go_big_quiet_step (exact Calls.regrown_of (cb (jab _ _ _ _) HW.out)))
  refine wpQuiet_nil ?_;intro _ hw';obtain ⟨⟨dq,osq⟩,hw''⟩:=hw';subst hw''
  go_wp2
  go_ret
  exact ⟨jH (by rw [HF.out]),jW dB (below_regrown w1 dq osq)⟩
 ·obtain ⟨b2,o2,vk2,T2,rfl,-,bZ,-,-,uU,bG⟩:=dA j t mH
  clear dA;obtain ⟨rfl,rfl⟩:=jea bZ;have p0:w.cell? ⟨b2,o2+j*4,none⟩=some (.int .i64 t.aOG):=bG 0 _ rfl;have bJ:j<r.aOD.length:=(aOS.1 mH).1;clear bG bZ mH;obtain ⟨e1,e2,e3,e4⟩:=e;simp only at hj HR ht;subst hj;have HW:Hid (inb (j:Int) 0 ((r.aOD.length:Int)-1)=true):=jbj (by omega)
  by_cases aJ:t.aOG=2
  all_goals
   first|(have hs:(t.aOG==2)=true:=by simpa using aJ)|(have hs:(t.aOG==2)=false:=by simpa using aJ)
   have HF:=Lib.hid (show jJ y ⟨e1,e2,e3,j⟩=(t.aOG==2) by unfold jJ;rw [ht])
   clear ht aJ
   go_enter Tryz.func75,Tryz.ntmps75
   go_wp2_with (go_at_call 26;refine (ci (jbg y e3 _ _ _ own ⟨_,rfl,jaF (upA (upA ah0 _) _) (upA (upA ah1 _) _)⟩) HR.out).mono ?_;rintro e1 w1 ⟨rfl,aZ⟩;obtain ⟨cT,fU⟩:=zC aZ)
   have dB:Below w.heap.size w w1:=jW (((Below.refl _ _).alloc (by simp) _).alloc (by simp) _) aZ
   have p7':=jiZ dB p7;have q3:∀(d:Nat) (os:Array Obj),(grow (redrawn w1 d) os).cell? ⟨w.heap.size,3,none⟩=some (.slice (some ⟨b1,o1,none⟩) y.aOH.length c):=λd os=>cell_regrown ((cT _ _ (by simp;try omega)).trans (by simp [go_sem])) d os
   have r3:∀(d:Nat) (os:Array Obj),(grow (redrawn w1 d) os).cell? ⟨w.heap.size+1,3,none⟩=some (.int .i64 j):=λd os=>cell_regrown ((cT _ _ (by simp;try omega)).trans (by simp [go_sem])) d os
   have p0':=jiZ dB p0;refine wp_region_quiet_below (by kernel_rfl) (by kernel_rfl) ?_
   repeat (go_big_quiet_step (exact Calls.regrown_of (cb (jab _ _ _ _) HW.out)))
   refine wpQuiet_nil ?_;intro _ hw';obtain ⟨⟨dq,osq⟩,hw''⟩:=hw';subst hw''
   go_wp2
   go_ret
   exact ⟨jH (by rw [HF.out,hs]),jW dB (below_regrown w1 dq osq)⟩
def jb3:C:=iS [iA 1 (.box 27 4 (.t 0)),iA 2 (.mov (.c (.slice none 0 0)))] (iS [iA 5 (wAZ []),aM 3 5] (.seq (iS [aN 4 0] (.blk 0 (.loop (.seq (iS [aM 6 4,aF 7 2 1,aL 8 7,aG 9 8,aP 10 .lss 3 6 9] (iD 10 .skip (.exit 0))) (.seq (.blk 1 (.reg [aM 13 3,aF 14 2 1,aL 15 14,aM 16 4,aI 17 1 15 16,aL 18 17,iA 19 (wA8 13 18),aM 3 19])) (.reg [aM 11 4,aQ 12 .add 3 11 1,aM 4 12])))))) (iS [aM 20 3,aM 2 20] .ret)))
theorem jez:fnC Tryz.prog Tryz.f74=some (jb3,[.t 2],21):=by kernel_rfl
def jb7:C:=iS [iA 1 (.box 27 4 (.t 0)),iA 2 (.mov (.c (.slice none 0 0)))] (iS [iA 3 (.mov (.c (.slice none 0 0)))] (.seq (iS [aF 6 2 1,aL 7 6,aG 8 7,aN 9 0] (.blk 0 (.loop (iS [aP 10 .lss 3 9 8] (.seq (iD 10 .skip (.exit 0)) (.seq (.blk 1 (iS [aI 11 1 7 9,aL 12 11,aM 5 12] (.reg [aM 13 3,aM 14 5,iA 15 (wA8 13 14),aM 3 15]))) (.reg [aQ 16 .add 3 9 1,aM 9 16]))))))) (iS [aM 17 3,aM 2 17] .ret)))
theorem jeD:fnC Tryz.prog Tryz.f79=some (jb7,[.t 2],18):=by kernel_rfl
def jfk:C:=iS [iA 1 (.box 27 4 (.t 0)),iA 2 (.mov (.c (.slice none 0 0)))] (iS [iA 6 (wAZ []),aM 3 6] (iS [aT 7 4 1,iA 8 (iK 74 [7]),aM 4 8] (.seq (iS [aN 5 0] (.blk 0 (.loop (.seq (iS [aM 9 5,aM 10 4,aG 11 10,aP 12 .lss 3 9 11] (iD 12 .skip (.exit 0))) (.seq (.blk 1 (.seq (.dreg (tA 0 15 (iT 4 1) (tA 1 16 (iM 4) (tA 2 17 (iM 5) (tA 3 18 (iI 4 16 17) (tA 4 19 (iT 4 18) (tC 20 (iK 75 [15,19]) [] .done .stop))))))) (iD 20 (.reg [aM 21 3,aM 22 4,aM 23 5,aI 24 4 22 23,aT 25 4 24,iA 26 (wA0 [(0,4,.t 25)]),iA 27 (wA8 21 26),aM 3 27]) .skip))) (.reg [aM 13 5,aQ 14 .add 3 13 1,aM 5 14])))))) (iS [aM 28 3,aM 2 28] .ret))))
theorem jiJ:fnC Tryz.prog Tryz.f16=some (jfk,[.t 2],29):=by kernel_rfl
def jfx:C:=iS [iA 1 (.box 27 4 (.t 0)),iA 2 (.mov (.c (.slice none 0 0)))] (iS [iA 3 (.mov (.c (.slice none 0 0)))] (.seq (iS [aT 6 4 1,iA 7 (iK 79 [6]),aG 8 7,aN 9 0] (.blk 0 (.loop (iS [aP 10 .lss 3 9 8] (.seq (iD 10 .skip (.exit 0)) (.seq (.blk 1 (iS [aI 11 4 7 9,aT 12 4 11,iA 5 wAP,wAB 5 12] (iS [aT 13 4 1,aT 14 4 5,iA 15 (iK 84 [13,14])] (iD 15 (.reg [aM 16 3,aT 17 4 5,iA 18 (wA0 [(0,4,.t 17)]),iA 19 (wA8 16 18),aM 3 19]) .skip)))) (.reg [aQ 20 .add 3 9 1,aM 9 20]))))))) (iS [aM 21 3,aM 2 21] .ret)))
theorem jiW:fnC Tryz.prog Tryz.f22=some (jfx,[.t 2],22):=by kernel_rfl
theorem jdo (y:Yd) (e:En):jZ Tryz.prog 84 [.agg (jb y),.agg (jj e)] (.c (.val (.bool (jJ y e)))):=jpB ⟨_,Tryz.func84,by kernel_rfl,by kernel_rfl⟩ λw a b ⟨S,ha⟩ ⟨S2,hb⟩=>jot y e a b S S2 w false false ha hb
theorem ji7 (y:Yd) (e:En):jZ Tryz.prog 75 [.agg (jb y),.agg (jj e)] (.c (.val (.bool (jJ y e)))):=jpB ⟨_,Tryz.func75,by kernel_rfl,by kernel_rfl⟩ λw a b ⟨S,ha⟩ ⟨S2,hb⟩=>jsC y e a b S S2 w false false ha hb
theorem jxA (l m:List En):D.sl 4 tEn (l.flatMap jj++m.flatMap jj)=jf (l++m):=by simp [jf]
theorem jtp (l:List En) (x:En):D.sl 4 tEn (l.flatMap jj++jj x)=jf (l++[x]):=by simp [jf]
theorem zS (y:Yd) (ht:jB y<=2000000):jZ Tryz.prog 74 [.agg (jb y)] (.c (jf y.aOE.flatten)):=by
 refine pf_ jez ?_;unfold jb3;have hl:=jsB ht;have hf:=vi ht;simp only [go_sem,jb];intro b eP;refine qI (λs=>∃(k g ty:Nat) (η:jg),k<=y.aOE.length/\(g=500\/g=1900)/\s.t 1=.c (.bp 100 0 b)/\s.o 100=.box b ty ((jb y).map λx=>.a x.toRo)/\s.t 4=.c (.v (.int .i64 k))/\s.t 3=.c (.h g 0 [] (η []))/\s.o g=.loose (jf (y.aOE.take k).flatten) η) (λs=>y.aOE.length-s.n 4) ?_ ?_
 ·exact ⟨0,500,_,eP,aPP _,.inl rfl,by simp only [go_sem]<;>rfl,by simp only [go_sem]<;>rfl,by simp only [go_sem]<;>rfl,by simp only [go_sem]<;>rfl,by simp only [go_sem]<;>rfl⟩
 ·rintro s ⟨k,g,ty,η,hk,hg,h1,iR,h4,h3,bT⟩
  by_cases aB:k<y.aOE.length
  ·have aA:(k:Int)<y.aOE.length:=by omega
   obtain ⟨x,hx⟩:=ja aB;have hw:=kw k;have hn:=jlk hx;have cR:=jdw y.aOE (k+1);rw [hn,aOU] at cR;generalize (y.aOE.take k).flatten=l at*;have dG:l.length+x.length<=maxLen:=vT;have bP:(l.length+x.length)*32<=140737488355328:=by omega
   rcases hg with rfl|rfl
   all_goals
    simp only [go_sem,h1,iR,h4,h3,bT,jb,aB,aA,kC hx,dG,bP,hw,jxA];intro aS;refine ⟨⟨k+1,1900,ty,aS,?_⟩,?_⟩
    ·and_intros<;>first|rfl|omega|exact .inr rfl|(rw [hn];rfl)
    ·rw [jaG (k:=.i64) (n:=((k+1:Nat):Int)) (by simp only [go_sem]),jaG h4];omega
  ·have aA:¬(k:Int)<y.aOE.length:=by omega
   rw [aOW (by omega)] at bT
   rcases hg with rfl|rfl
   all_goals
    simp only [go_sem,h1,iR,h4,h3,bT,jb,aA]
theorem jbQ (y:Yd) (ht:jB y<=2000000):jZ Tryz.prog 79 [.agg (jb y)] (.c (jf y.aOE.flatten)):=by
 refine pf_ jeD ?_;unfold jb7;have hl:=jsB ht;have hf:=vi ht;simp only [go_sem,jb];intro b;refine qI (λs=>∃k:Nat,k<=y.aOE.length/\s.t 7=.c (.ro (ke y.aOE))/\s.t 8=.c (.v (.int .i64 y.aOE.length))/\s.t 9=.c (.v (.int .i64 k))/\(((y.aOE.take k).flatten=[]/\s.t 3=.c (.v (.slice none 0 0)))\/∃η:jg,s.t 3=.c (.h 1500 0 [] (η []))/\s.o 1500=.loose (jf (y.aOE.take k).flatten) η)) (λs=>y.aOE.length-s.n 9) ?_ ?_
 ·exact ⟨0,aPP _,by simp only [go_sem]<;>rfl,by simp only [go_sem]<;>rfl,by simp only [go_sem]<;>rfl,.inl ⟨rfl,by simp only [go_sem]⟩⟩
 ·rintro s ⟨k,hk,h7,h8,h9,hg⟩
  by_cases aB:k<y.aOE.length
  ·have aA:(k:Int)<y.aOE.length:=by omega
   obtain ⟨x,hx⟩:=ja aB;have hw:=kw k;have hn:=jlk hx;have cR:=jdw y.aOE (k+1);rw [hn,aOU] at cR;generalize (y.aOE.take k).flatten=l at*;have dG:l.length+x.length<=maxLen:=vT;have bP:(l.length+x.length)*32<=140737488355328:=by omega
   rcases hg with ⟨gV,h3⟩|⟨η,h3,bT⟩
   ·have lL:x.length<=maxLen:=vT
    have sI:x.length*32<=140737488355328:=by omega
    rw [gV,aQG] at hn;simp only [go_sem,h7,h8,h9,h3,aB,aA,kC hx,hw,lL,sI,jrX];intro aS;refine ⟨⟨k+1,by omega,rfl,.inr ⟨aS,rfl,by rw [hn]⟩⟩,?_⟩
    rw [jaG (k:=.i64) (n:=((k+1:Nat):Int)) (by simp only [go_sem]),jaG h9];omega
   ·simp only [go_sem,h7,h8,h9,h3,bT,aB,aA,kC hx,hw,dG,bP,jxA]
    intro aS;refine ⟨⟨k+1,by omega,rfl,.inr ⟨aS,rfl,by rw [hn]⟩⟩,?_⟩
    rw [jaG (k:=.i64) (n:=((k+1:Nat):Int)) (by simp only [go_sem]),jaG h9];omega
  ·have aA:¬(k:Int)<y.aOE.length:=by omega
   have tM:y.aOE.take k=y.aOE:=aOW (by omega)
   rcases hg with ⟨gV,h3⟩|⟨η,h3,bT⟩
   ·rw [tM] at gV
    simp only [go_sem,h8,h9,h3,aA,gV]
   ·rw [tM] at bT
    simp only [go_sem,h8,h9,h3,bT,aA]
theorem jeQ (y:Yd) (ht:jB y<=2000000):jZ Tryz.prog 16 [.agg (jb y)] (.c (jf (ql y))):=by
 refine pf_ jiJ ?_;unfold jfk;have hf:=vi ht;simp only [go_sem,jb];intro b eP;refine jk (zS y ht) λdF=>?_
 unfold ql;generalize y.aOE.flatten=L at*;simp only [go_sem];refine qI (λs=>∃(k g ty:Nat) (η dC:jg),k<=L.length/\(g=600\/g=2700)/\s.t 1=.c (.bp 100 0 b)/\s.o 100=.box b ty ((jb y).map λx=>.a x.toRo)/\s.t 4=.c (.h 800 0 [] (dC []))/\s.o 800=.loose (jf L) dC/\s.t 5=.c (.v (.int .i64 k))/\s.t 3=.c (.h g 0 [] (η []))/\s.o g=.loose (jf ((L.take k).filter (jJ y))) η) (λs=>L.length-s.n 5) ?_ ?_
 ·exact ⟨0,600,_,eP,dF 0,aPP _,.inl rfl,by simp only [go_sem]<;>rfl,by simp only [go_sem]<;>rfl,by simp only [go_sem]<;>rfl,by simp only [go_sem]<;>rfl,by simp only [go_sem]<;>rfl,by simp only [go_sem]<;>rfl,by simp only [go_sem]<;>rfl⟩
 ·rintro s ⟨k,g,ty,η,dC,hk,hg,h1,iR,h4,ho8,h5,h3,bT⟩
  by_cases aB:k<L.length
  ·have aA:(k:Int)<L.length:=by omega
   obtain ⟨x,hx⟩:=ja aB;have hw:=kw k;have hn:=jfK (f:=jJ y) hx
   have cR:((L.take k).filter (jJ y)).length<=k:=by
    have:=aPT (jJ y) (L.take k);rw [aOZ] at this;omega
   generalize (L.take k).filter (jJ y)=l at*;have dG:l.length+1<=maxLen:=vT;have bP:(l.length+1)*32<=140737488355328:=by omega
   have lI:=jtp l x;simp only [jj] at lI;simp only [go_sem,h1,iR,h4,ho8,h5,jb,aB,aA,jhS hx,jgG aB,jj];refine jk (ji7 y x) λaS=>?_
   cases fA:jJ y x
   ·rw [fA,if_neg (by simp)] at hn
    simp only [go_sem,h1,iR,h4,ho8,h5,h3,hw];refine ⟨⟨k+1,g,ty,η,dC,?_⟩,?_⟩
    ·and_intros<;>first|rfl|assumption|omega|(rw [hn];assumption)
    ·rw [jaG (k:=.i64) (n:=((k+1:Nat):Int)) (by simp only [go_sem]),jaG h5];omega
   ·rw [fA,if_pos rfl] at hn
    rcases hg with rfl|rfl
    all_goals
     simp only [go_sem,h1,iR,h4,ho8,h5,h3,bT,aB,jhS hx,jgG aB,jj,hw,dG,bP,lI];intro bY eO;refine ⟨⟨k+1,2700,ty,eO,dC,?_⟩,?_⟩
     ·and_intros<;>first|rfl|assumption|omega|exact .inr rfl|(rw [hn];rfl)
     ·rw [jaG (k:=.i64) (n:=((k+1:Nat):Int)) (by simp only [go_sem]),jaG h5];omega
  ·have aA:¬(k:Int)<L.length:=by omega
   rw [aOW (by omega)] at bT
   rcases hg with rfl|rfl
   all_goals
    simp only [go_sem,h4,ho8,h5,h3,bT,aA]
theorem jaf (y:Yd) (ht:jB y<=2000000):jZ Tryz.prog 22 [.agg (jb y)] (.c (jf (ql y))):=by
 refine pf_ jiW ?_;unfold jfx;have hf:=vi ht;simp only [go_sem,jb];intro b;refine jk (jbQ y ht) λdF=>?_
 unfold ql;generalize y.aOE.flatten=L at*;simp only [go_sem];refine qI (λs=>∃(k ty:Nat) (dC:jg),k<=L.length/\s.t 1=.c (.bp 100 0 b)/\s.o 100=.box b ty ((jb y).map λx=>.a x.toRo)/\s.t 7=.c (.h 700 0 [] (dC []))/\s.o 700=.loose (jf L) dC/\s.t 8=.c (.v (.int .i64 L.length))/\s.t 9=.c (.v (.int .i64 k))/\(((L.take k).filter (jJ y)=[]/\s.t 3=.c (.v (.slice none 0 0)))\/∃η:jg,s.t 3=.c (.h 1900 0 [] (η []))/\s.o 1900=.loose (jf ((L.take k).filter (jJ y))) η)) (λs=>L.length-s.n 9) ?_ ?_
 ·exact ⟨0,_,dF 0,aPP _,by simp only [go_sem]<;>rfl,by simp only [go_sem]<;>rfl,by simp only [go_sem]<;>rfl,by simp only [go_sem]<;>rfl,by simp only [go_sem]<;>rfl,by simp only [go_sem]<;>rfl,.inl ⟨rfl,by simp only [go_sem]⟩⟩
 ·rintro s ⟨k,ty,dC,hk,h1,iR,h7,wN,h8,h9,hg⟩
  by_cases aB:k<L.length
  ·have aA:(k:Int)<L.length:=by omega
   obtain ⟨x,hx⟩:=ja aB;have hw:=kw k;have hn:=jfK (f:=jJ y) hx
   have cR:((L.take k).filter (jJ y)).length<=k:=by
    have:=aPT (jJ y) (L.take k);rw [aOZ] at this;omega
   generalize (L.take k).filter (jJ y)=l at*;have dG:l.length+1<=maxLen:=vT;have bP:(l.length+1)*32<=140737488355328:=by omega
   have aDE:1<=maxLen:=vT;have lI:=jtp l x;have eK:D.sl 4 tEn (jj x)=jf [x]:=by simp [jf]
   simp only [jj] at lI eK;rcases hg with ⟨gV,h3⟩|⟨η,h3,bT⟩
   ·simp only [go_sem,h1,iR,h7,wN,h8,h9,jb,aB,aA,jhS hx,jgG aB,jj]
    intro b1;refine jk (jdo y x) λaS=>?_
    cases fA:jJ y x
    ·rw [fA,if_neg (by simp)] at hn
     simp only [go_sem,h1,iR,h7,wN,h8,h9,h3,hw];refine ⟨⟨k+1,ty,dC,by omega,rfl,rfl,rfl,rfl,.inl (by rw [hn,gV])⟩,?_⟩
     rw [jaG (k:=.i64) (n:=((k+1:Nat):Int)) (by simp only [go_sem]),jaG h9];omega
    ·rw [fA,if_pos rfl,gV,aQG] at hn
     simp only [go_sem,h1,iR,h7,wN,h8,h9,h3,hw,aDE,eK];intro bY eO;refine ⟨⟨k+1,ty,dC,by omega,rfl,rfl,rfl,rfl,.inr ⟨eO,rfl,by rw [hn]⟩⟩,?_⟩
     rw [jaG (k:=.i64) (n:=((k+1:Nat):Int)) (by simp only [go_sem]),jaG h9];omega
   ·simp only [go_sem,h1,iR,h7,wN,h8,h9,jb,aB,aA,jhS hx,jgG aB,jj]
    intro b1;refine jk (jdo y x) λaS=>?_
    cases fA:jJ y x
    ·rw [fA,if_neg (by simp)] at hn
     simp only [go_sem,h1,iR,h7,wN,h8,h9,h3,bT,hw];refine ⟨⟨k+1,ty,dC,by omega,rfl,rfl,rfl,rfl,.inr ⟨η,rfl,by rw [hn]⟩⟩,?_⟩
     rw [jaG (k:=.i64) (n:=((k+1:Nat):Int)) (by simp only [go_sem]),jaG h9];omega
    ·rw [fA,if_pos rfl] at hn
     simp only [go_sem,h1,iR,h7,wN,h8,h9,h3,bT,hw,dG,bP,lI];intro bY eO;refine ⟨⟨k+1,ty,dC,by omega,rfl,rfl,rfl,rfl,.inr ⟨eO,rfl,by rw [hn]⟩⟩,?_⟩
     rw [jaG (k:=.i64) (n:=((k+1:Nat):Int)) (by simp only [go_sem]),jaG h9];omega
  ·have aA:¬(k:Int)<L.length:=by omega
   have tM:L.take k=L:=aOW (by omega)
   rcases hg with ⟨gV,h3⟩|⟨η,h3,bT⟩
   ·rw [tM] at gV
    simp only [go_sem,h8,h9,h3,aA,gV]
   ·rw [tM] at bT
    simp only [go_sem,h8,h9,h3,bT,aA]
open Go.RowKit Go.Sort Go.BigFrame
theorem joN {w w1:World} {b o:Nat} {v:Value} (hB:Below w.heap.size w w1) (h:w.cell? ⟨b,o+0,none⟩=some v):w1.cell? ⟨b,o,none⟩=some v:=jr hB h
theorem jFy:∀(x:En),∀d∈jj x,∃u,d=.val u:=by intro y d hd;simp [jj] at hd;rcases hd with rfl|rfl|rfl|rfl<;>exact ⟨_,rfl⟩
theorem jos (y:Yd) (a:Value) (S:List Nat) (w:World) (own:Bool) (ha:AggRep w own (jb y) a S) (cW:jB y<=2000000):
 Calls Tryz.prog 79 #[a] w (jGc w (jf (zY y))):=by
 obtain ⟨_,rfl,ha⟩:=ha;obtain ⟨sv,rv,S1,S2,rfl,ah0,ah1,rfl⟩:=qW ha;clear ha ah1;obtain ⟨A,c,rfl,cT,cY,cM⟩:=Rep.open_ (size:=1) (enc:=λes=>[jf es]) (λ_=>rfl) (by decide) ah0
 unfold maxLen at cY;have gM:y.aOE.length<=9223372036854775807:=by omega
 have hsm:y.aOE.flatten.length<=2000000:=by rw [vz];simp only [jB,jbG] at cW;omega
 go_enter Tryz.func79,Tryz.ntmps79
 go_wp2
 go_loopw [3,5,9] (λv _ i wr=>∃k:Nat,k<=y.aOE.length/\i=.int .i64 k/\Fill jj 4 tEn w (y.aOE.take k).flatten v wr) (λ_ _ i _=>y.aOE.length-(intOf i).toNat)
 case atStart=>exact ⟨0,by omega,rfl,[],Rep.nil_ _ _ _,Fresh.nil _,(Below.refl _ _).alloc (by simp) _⟩
 case round=>
  obtain ⟨k,hk,rfl,S3,bH,hF,aD⟩:=hrel;by_cases aB:k<y.aOE.length
  ·obtain ⟨es,hx⟩:=ja aB
   obtain ⟨b1,o1,vk1,T1,rfl,-,cK,-,-,aZ,bA⟩:=cM k es hx;clear cM;obtain ⟨u,_,U0,U1,rfl,rfl,hu,rfl,rfl⟩:=cK;have p0:=(aD.cell (p:=⟨b1,o1+k,none⟩) aZ).trans (by simpa using bA 0 _ rfl:w.cell? ⟨b1,o1+k,none⟩=_)
   obtain ⟨A2,c2,news,rfl,eB,rW,hn3⟩:=Rep.src (enc:=jj) (size:=4) (λ_=>rfl) (by decide) jFy (hu.below aD (aPD _))
   have dV:=jbU hx
   have cR:(y.aOE.take (k+1)).flatten.length<=2000000:=by
    have:(y.aOE.take (k+1)).flatten.length<=y.aOE.flatten.length:=by rw [vz,vz];exact jaP _ _ _
    omega
   rw [dV,aOU] at cR;have HK:=Lib.hid dV;clear hx bA dV
   go_wp2_with ((with_reducible refine jqP (.tmp 13) (.tmp 14) ?_);refine jbC (enc:=jj) (xs:=(y.aOE.take k).flatten) (ys:=es) rfl _ _ rfl slEn (λ_=>rfl) rfl bH A2 es.length c2 news rfl eB rfl rW hn3 jxC w.heap.size aD.size (by simpa using hF) (by unfold maxLen;omega) (by omega) ?_;intro v' w' S' eQ wC fR _)
   go_roundw
   case rel=>
    refine ⟨k+1,by omega,by go_num,S',?_,wC,aD.trans (fR.below (λs hs=>hF.2 s hs) aD.size)⟩
    rw [HK.out];exact eQ
   case measure=>simp [intOf];omega
  ·obtain rfl:k=y.aOE.length:=by omega
   clear cM
   go_wp2
   go_ret
   exact ⟨_,S3,rfl,by rw [aRC] at bH;exact bH,hF,aD⟩
theorem jm9 (y:Yd) (a:Value) (S:List Nat) (w:World) (own:Bool) (ha:AggRep w own (jb y) a S) (cW:jB y<=2000000):
 Calls Tryz.prog 21 #[a] w λe w'=>e=.returned (.int .i64 (kG y))/\Below w.heap.size w w':=by
 obtain ⟨_,rfl,ha⟩:=ha;obtain ⟨sv,rv,S1,S2,rfl,ah0,ah1,rfl⟩:=qW ha;clear ha;obtain ⟨A,c,rfl,cT,cY,cM⟩:=Rep.open_ (size:=8) (enc:=jd) (λ_=>rfl) (by decide) ah1
 unfold maxLen at cY;have gM:y.aOH.length<=9223372036854775807:=by omega
 have tL:vh kL y.aOH<=2000000:=by have:=jkt y.aOH;simp only [jB,jaQ] at cW;omega
 have cV:(zY y).length<=2000000:=by unfold zY;rw [vz];simp only [jB,jbG] at cW;omega
 obtain ⟨svA,svn,svc,rfl⟩:=Rep.form ah0;have tT:=upB (Below.refl w.heap.size w) (.cells #[.int .i64 y.now,.int .i64 y.seq,.slice svA svn svc,.slice A y.aOH.length c] tYd)
 go_enter Tryz.func21,Tryz.ntmps21
 go_wp2
 go_loopw [3,5,11] (λn _ i wr=>∃k:Nat,k<=y.aOH.length/\i=.int .i64 k/\n=.int .i64 (vh kL (y.aOH.take k):Nat)/\Below (w.alloc (.cells #[.int .i64 y.now,.int .i64 y.seq,.slice svA svn svc,.slice A y.aOH.length c] tYd)).heap.size (w.alloc (.cells #[.int .i64 y.now,.int .i64 y.seq,.slice svA svn svc,.slice A y.aOH.length c] tYd)) wr) (λ_ _ i _=>y.aOH.length-(intOf i).toNat)
 case atStart=>exact ⟨0,by omega,rfl,rfl,Below.refl _ _⟩
 case round=>
  obtain ⟨k,hk,rfl,rfl,aD⟩:=hrel;have hB:=jW tT aD;by_cases aB:k<y.aOH.length
  ·obtain ⟨x,hx⟩:=ja aB
   obtain ⟨b1,o1,vk1,T1,rfl,-,cK,-,-,aZ,bA⟩:=cM k x hx;clear cM;obtain ⟨v0,v1,U0,U1,rfl,gA,htv,-⟩:=vE cK;obtain ⟨_,_,_,rfl⟩:=Rep.form gA;obtain ⟨B,d,rfl,mQ,fC,dA⟩:=Rep.open_ (size:=4) (enc:=jz) (λ_=>rfl) (by decide) htv
   unfold maxLen at fC;have mC:x.aOD.length<=9223372036854775807:=by omega
   have p0:=joN hB (bA 0 _ rfl);have p1:=jr hB (bA 1 _ rfl);have p2:=jr hB (bA 2 _ rfl);have p3:=jr hB (bA 3 _ rfl);have p4:=jr hB (bA 4 _ rfl);have p5:=jr hB (bA 5 _ rfl);have p6:=jr hB (bA 6 _ rfl);have p7:=jr hB (bA 7 _ rfl);have dV:=zp (tot:=kL) hx;have dD:=jaP kL y.aOH (k+1);have nD:kL x=if x.aOG=1 then x.aOD.length else 0:=rfl
   have HK:=Lib.hid dV;have HL:=Lib.hid nD;have nC:(vh kL (y.aOH.take k):Int)<=2000000:=by omega
   have eB:x.aOD.length<=2000000\/x.aOG≠1:=by by_cases h:x.aOG=1;left;rw [if_pos h] at nD;omega;exact .inr h
   clear hx bA cK dV nD dA dD;by_cases aJ:x.aOG=1
   ·have hs:(x.aOG==1)=true:=by simpa using aJ
    have rW:x.aOD.length<=2000000:=by rcases eB with h|h;exact h;exact absurd aJ h
    have HS:=Lib.hid aJ;clear aJ eB
    go_wp2
    go_roundw
    case rel=>
     refine ⟨k+1,by omega,by go_num,?_,?_⟩
     ·rw [HK.out,HL.out,if_pos HS.out];go_num
     ·exact aD.trans (((Below.refl _ _).alloc (aPD _) _).mono aD.size)
    case measure=>simp [intOf];omega
   ·have hs:(x.aOG==1)=false:=by simpa using aJ
    have HS:=Lib.hid aJ;clear aJ eB
    go_wp2
    go_roundw
    case rel=>
     refine ⟨k+1,by omega,by go_num,?_,?_⟩
     ·rw [HK.out,HL.out,if_neg HS.out];rfl
     ·exact aD.trans (((Below.refl _ _).alloc (aPD _) _).mono aD.size)
    case measure=>simp [intOf];omega
  ·obtain rfl:k=y.aOH.length:=by omega
   clear cM;rw [aRC];obtain ⟨gG,fA⟩:=zC aD;have q0:wr.cell? ⟨w.heap.size,0,none⟩=some (.int .i64 y.now):=(gG _ _ (by simp)).trans (by simp [go_sem])
   have q1:wr.cell? ⟨w.heap.size,1,none⟩=some (.int .i64 y.seq):=(gG _ _ (by simp)).trans (by simp [go_sem])
   have q2:wr.cell? ⟨w.heap.size,2,none⟩=some (.slice svA svn svc):=(gG _ _ (by simp)).trans (by simp [go_sem])
   have q3:wr.cell? ⟨w.heap.size,3,none⟩=some (.slice A y.aOH.length c):=(gG _ _ (by simp)).trans (by simp [go_sem])
   clear gG fA aD
   go_wp2_with fail
   refine (jos y _ _ _ own ⟨_,rfl,jaF (up ah0 hB) (up ah1 hB)⟩ cW).mono ?_;rintro e w1 ⟨ev,T1,rfl,oB,-,aZ⟩;obtain ⟨B,d,rfl,mQ,fC,dA⟩:=Rep.open_ (size:=4) (enc:=jj) (λ_=>rfl) (by decide) oB
   unfold maxLen at fC;have z1:=jW hB aZ
   replace q0:=jr aZ q0
   replace q1:=jr aZ q1
   replace q2:=jr aZ q2
   replace q3:=jr aZ q3
   clear aZ oB
   go_wp2_with fail
   go_loopw [3,7,27] (λn _ i wr=>∃k:Nat,k<=(zY y).length/\i=.int .i64 k/\n=.int .i64 ((vh kL y.aOH:Int)+qi y ((zY y).take k))/\Below w1.heap.size w1 wr) (λ_ _ i _=>(zY y).length-(intOf i).toNat)
   case atStart=>exact ⟨0,by omega,rfl,by simp [qi],Below.refl _ _⟩
   case round=>
    obtain ⟨k,hk,rfl,rfl,aD⟩:=hrel;have d8:=jW z1 aD;by_cases aB:k<(zY y).length
    ·obtain ⟨x,hx⟩:=ja aB
     obtain ⟨b1,o1,vk1,T2,rfl,-,cK,-,-,aZ,bA⟩:=dA k x hx;clear dA;obtain ⟨rfl,rfl⟩:=jco cK;have p0:=joN aD (bA 0 _ rfl);have p1:=jr aD (bA 1 _ rfl);have p2:=jr aD (bA 2 _ rfl);have p3:=jr aD (bA 3 _ rfl);have r0:=jr aD q0;have r1:=jr aD q1;have r2:=jr aD q2;have r3:=jr aD q3;have o3:=World.block_lt_of_cell? wr _ r0;simp only at o3;have iJ:=jmH (y:=y) hx;have aJ:=jmG y (zY y) (k+1);have hsa:=jnF y (zY y);have nC:(vh kL y.aOH:Int)+qi y ((zY y).take k)<=4000000:=by split at iJ<;>omega
     have HS:=Lib.hid iJ;clear hx bA iJ aJ hsa;by_cases fA:jJ y x=true
     ·have HF:=Lib.hid fA
      clear fA
      go_wp2_with (go_at_call 84;refine (cb (jot y x _ _ _ _ _ own own ⟨_,rfl,jaF (upA (up ah0 d8) _) (upA (up ah1 d8) _)⟩ ⟨_,rfl,jz8 _ _ x⟩) HF.out).mono ?_;rintro e w2 ⟨rfl,bF⟩)
      go_roundw
      case rel=>
       refine ⟨k+1,by omega,by go_num,?_,jW (upB aD _) bF⟩
       rw [HS.out,if_pos HF.out];rfl
      case measure=>simp [intOf];omega
     ·have pE:jJ y x=false:=by simpa using fA
      have HF:=Lib.hid pE;clear fA pE
      go_wp2_with (go_at_call 84;refine (cb (jot y x _ _ _ _ _ own own ⟨_,rfl,jaF (upA (up ah0 d8) _) (upA (up ah1 d8) _)⟩ ⟨_,rfl,jz8 _ _ x⟩) HF.out).mono ?_;rintro e w2 ⟨rfl,bF⟩)
      go_roundw
      case rel=>
       refine ⟨k+1,by omega,by go_num,?_,jW (upB aD _) bF⟩
       rw [HS.out,HF.out];simp;omega
      case measure=>simp [intOf];omega
    ·obtain rfl:k=(zY y).length:=by omega
     clear dA;rw [aRC];have fH:kG y=(vh kL y.aOH:Int)+qi y (zY y):=rfl;have HSL:=Lib.hid fH;clear fH
     go_wp2
     go_ret
     exact ⟨jh4 HSL.out.symm,d8⟩
open Go.RowKit Go.Sort Go.BigFrame
theorem ji3 (y:Yd) (a b:List En):qi y (a++b)=qi y a+qi y b:=by simp [qi]
theorem jmN (y:Yd) (a:Value) (S:List Nat) (w:World) (own:Bool) (ha:AggRep w own (jb y) a S) (cW:jB y<=2000000):
 Calls Tryz.prog 132 #[a] w λe w'=>e=.returned (.int .i64 (kG y))/\Below w.heap.size w w':=by
 obtain ⟨_,rfl,ha⟩:=ha;obtain ⟨sv,rv,S1,S2,rfl,ah0,ah1,rfl⟩:=qW ha;clear ha;obtain ⟨A,c,rfl,cT,cY,cM⟩:=Rep.open_ (size:=8) (enc:=jd) (λ_=>rfl) (by decide) ah1
 obtain ⟨C,f,rfl,fU,l0,wQ⟩:=Rep.open_ (size:=1) (enc:=λes=>[jf es]) (λ_=>rfl) (by decide) ah0
 unfold maxLen at cY l0;have gM:y.aOH.length<=9223372036854775807:=by omega
 have mC:y.aOE.length<=9223372036854775807:=by omega
 have tL:vh kL y.aOH<=2000000:=by have:=jkt y.aOH;simp only [jB,jaQ] at cW;omega
 have cV:(zY y).length<=2000000:=by unfold zY;rw [vz];simp only [jB,jbG] at cW;omega
 have tT:=upB (Below.refl w.heap.size w) (.cells #[.int .i64 y.now,.int .i64 y.seq,.slice C y.aOE.length f,.slice A y.aOH.length c] tYd)
 go_enter Tryz.func132,Tryz.ntmps132
 go_wp2
 go_loop [3,4] (λn i=>∃k:Nat,k<=y.aOH.length/\i=.int .i64 k/\n=.int .i64 (vh kL (y.aOH.take k):Nat)) (λ_ i=>y.aOH.length-(intOf i).toNat)
 case atStart=>exact ⟨0,by omega,rfl,rfl⟩
 case round=>
  obtain ⟨k,hk,rfl,rfl⟩:=hrel;by_cases aB:k<y.aOH.length
  ·obtain ⟨x,hx⟩:=ja aB
   obtain ⟨b1,o1,vk1,T1,rfl,-,cK,-,-,aZ,bA⟩:=cM k x hx;clear cM wQ;obtain ⟨v0,v1,U0,U1,rfl,gA,htv,-⟩:=vE cK;obtain ⟨B,d,rfl,mQ,fC,dA⟩:=Rep.open_ (size:=4) (enc:=jz) (λ_=>rfl) (by decide) htv
   unfold maxLen at fC;have yE:x.aOD.length<=9223372036854775807:=by omega
   have p6:=bA 6 _ rfl;have p7:=bA 7 _ rfl;have dV:=zp (tot:=kL) hx;have dD:=jaP kL y.aOH (k+1);have nD:kL x=if x.aOG=1 then x.aOD.length else 0:=rfl
   have HK:=Lib.hid dV;have HL:=Lib.hid nD;have nC:(vh kL (y.aOH.take k):Int)<=2000000:=by omega
   have eB:x.aOD.length<=2000000\/x.aOG≠1:=by by_cases h:x.aOG=1;left;rw [if_pos h] at nD;omega;exact .inr h
   clear hx bA cK dV nD dA dD;by_cases aJ:x.aOG=1
   ·have hs:(x.aOG==1)=true:=by simpa using aJ
    have rW:x.aOD.length<=2000000:=by rcases eB with h|h;exact h;exact absurd aJ h
    have HS:=Lib.hid aJ;clear aJ eB
    go_wp2
    go_round
    case rel=>
     refine ⟨k+1,by omega,by go_num,?_⟩
     rw [HK.out,HL.out,if_pos HS.out];go_num
    case measure=>simp [intOf];omega
   ·have hs:(x.aOG==1)=false:=by simpa using aJ
    have HS:=Lib.hid aJ;clear aJ eB
    go_wp2
    go_round
    case rel=>
     refine ⟨k+1,by omega,by go_num,?_⟩
     rw [HK.out,HL.out,if_neg HS.out];rfl
    case measure=>simp [intOf];omega
  ·obtain rfl:k=y.aOH.length:=by omega
   clear cM;rw [aRC]
   go_wp2
   go_loopw [3,5,6] (λn i _ wr=>∃k:Nat,k<=y.aOE.length/\i=.int .i64 k/\n=.int .i64 ((vh kL y.aOH:Int)+qi y (y.aOE.take k).flatten)/\Below (w.alloc (.cells #[.int .i64 y.now,.int .i64 y.seq,.slice C y.aOE.length f,.slice A y.aOH.length c] tYd)).heap.size (w.alloc (.cells #[.int .i64 y.now,.int .i64 y.seq,.slice C y.aOE.length f,.slice A y.aOH.length c] tYd)) wr) (λ_ i _ _=>y.aOE.length-(intOf i).toNat)
   case atStart=>exact ⟨0,by omega,rfl,by simp [qi],Below.refl _ _⟩
   case round=>
    obtain ⟨k,hk,rfl,rfl,aD⟩:=hrel;obtain ⟨wo,rfl⟩:∃wo:World,wo=wr:=⟨_,rfl⟩;have d8:=jW tT aD;obtain ⟨gG,fA⟩:=zC aD;have q0:wo.cell? ⟨w.heap.size,0,none⟩=some (.int .i64 y.now):=(gG _ _ (by simp)).trans (by simp [go_sem])
    have q1:wo.cell? ⟨w.heap.size,1,none⟩=some (.int .i64 y.seq):=(gG _ _ (by simp)).trans (by simp [go_sem])
    have q2:wo.cell? ⟨w.heap.size,2,none⟩=some (.slice C y.aOE.length f):=(gG _ _ (by simp)).trans (by simp [go_sem])
    have q3:wo.cell? ⟨w.heap.size,3,none⟩=some (.slice A y.aOH.length c):=(gG _ _ (by simp)).trans (by simp [go_sem])
    clear gG fA;by_cases aB:k<y.aOE.length
    ·obtain ⟨es,hx⟩:=ja aB
     obtain ⟨b1,o1,vk1,T2,rfl,-,cK,-,-,aZ,bA⟩:=wQ k es hx;clear wQ;obtain ⟨u,_,U0,U1,rfl,rfl,hu,rfl,rfl⟩:=cK;have p0:w.cell? ⟨b1,o1+k,none⟩=some u:=by simpa using bA 0 _ rfl
     have hfs:=jbU hx
     have m8:∀j,qi y (y.aOE.take k).flatten+qi y (es.take j)<=2000000:=λj=>by
      have h1:=jmG y es j;have h2:=ji3 y (y.aOE.take k).flatten es;rw [<-hfs] at h2;have h3:=jnF y (y.aOE.take (k+1)).flatten;have h4:(y.aOE.take (k+1)).flatten.length<=(zY y).length:=by unfold zY;rw [vz,vz];exact jaP _ _ _
      omega
     obtain ⟨B,d,rfl,mQ,fC,dA⟩:=Rep.open_ (size:=4) (enc:=jj) (λ_=>rfl) (by decide) hu
     unfold maxLen at fC;have yE:es.length<=9223372036854775807:=by omega
     have p0':=jr d8 p0;have HFS:=Lib.hid hfs;clear hx bA hfs
     go_wp2
     go_loopw [3,6] (λn i wr=>∃j:Nat,j<=es.length/\i=.int .i64 j/\n=.int .i64 ((vh kL y.aOH:Int)+qi y (y.aOE.take k).flatten+qi y (es.take j))/\Below wo.heap.size wo wr) (λ_ i _=>es.length-(intOf i).toNat)
     case atStart=>exact ⟨0,by omega,rfl,by simp [qi],Below.refl _ _⟩
     case round=>
      obtain ⟨j,hj,rfl,rfl,gN⟩:=hrel;have mT:=jW d8 gN;have r2:=jr gN q2;have p0'':=jr gN p0';by_cases bJ:j<es.length
      ·obtain ⟨x,hx⟩:=ja bJ
       obtain ⟨b2,o2,vk2,T3,rfl,-,bZ,-,-,bF,bG⟩:=dA j x hx;clear dA;obtain ⟨rfl,rfl⟩:=jco bZ;have hsj:=m8 j;have iJ:=jmH (y:=y) hx;have HS:=Lib.hid iJ;have c0:=cell_regrown (joN mT (bG 0 _ rfl));have c1:=cell_regrown (jr mT (bG 1 _ rfl));have c2:=cell_regrown (jr mT (bG 2 _ rfl));have c3:=cell_regrown (jr mT (bG 3 _ rfl));have g0:=cell_regrown (jr gN q0);have g1:=cell_regrown (jr gN q1);have g2:=cell_regrown r2;have g3:=cell_regrown (jr gN q3);have gp:=cell_regrown p0'';have cF:=λ(W:World) (hW:Below wr.heap.size wr W)=>jsC y x _ _ _ _ W own own ⟨_,rfl,jaF (up (up ah0 mT) hW) (up (up ah1 mT) hW)⟩ ⟨_,rfl,jz8 _ _ x⟩
       clear hx bG iJ m8;by_cases fA:jJ y x=true
       ·have HF:=Lib.hid fA
        clear fA
        go_wp2
        refine wp_region_quiet_below (by kernel_rfl) (by kernel_rfl) ?_
        repeat (go_big_quiet_step (exact Calls.regrown_of (cb (cF _ (below_regrown wr _ _)) HF.out)))
        refine wpQuiet_nil ?_;intro _ hw';obtain ⟨⟨dq,osq⟩,hw''⟩:=hw';subst hw''
        go_wp2
        go_roundw
        case rel=>
         refine ⟨j+1,by omega,by go_num,?_,jW gN (below_regrown wr dq osq)⟩
         rw [HS.out,if_pos HF.out];rfl
        case measure=>simp [intOf];omega
       ·have pE:jJ y x=false:=by simpa using fA
        have HF:=Lib.hid pE;clear fA pE
        go_wp2
        refine wp_region_quiet_below (by kernel_rfl) (by kernel_rfl) ?_
        repeat (go_big_quiet_step (exact Calls.regrown_of (cb (cF _ (below_regrown wr _ _)) HF.out)))
        refine wpQuiet_nil ?_;intro _ hw';obtain ⟨⟨dq,osq⟩,hw''⟩:=hw';subst hw''
        go_wp2
        go_roundw
        case rel=>
         refine ⟨j+1,by omega,by go_num,?_,jW gN (below_regrown wr dq osq)⟩
         rw [HS.out,HF.out];simp;omega
        case measure=>simp [intOf];omega
      ·obtain rfl:j=es.length:=by omega
       clear dA m8;rw [aRC]
       go_wp2
       go_roundw
       case rel=>
        refine ⟨k+1,by omega,by go_num,?_,jW aD gN⟩
        rw [HFS.out,ji3];simp;omega
       case measure=>simp [intOf];omega
    ·obtain rfl:k=y.aOE.length:=by omega
     clear wQ;rw [aRC];have fH:kG y=(vh kL y.aOH:Int)+qi y y.aOE.flatten:=rfl;have HSL:=Lib.hid fH;clear fH
     go_wp2
     go_ret
     exact ⟨jh4 HSL.out.symm,d8⟩
open Go.RowKit Go.Sort Go.BigFrame
theorem jsz {y:Yd} (h:jB y<=2000000):0<=kG y/\kG y<=4000000:=by
 have tL:vh kL y.aOH<=2000000:=by have:=jkt y.aOH;simp only [jB,jaQ] at h;omega
 have cV:(zY y).length<=2000000:=by unfold zY;rw [vz];simp only [jB,jbG] at h;omega
 have aJ:=jnF y (zY y);unfold kG;omega
theorem juW (y:Yd) (p:Pl) (a b:Value) (S S':List Nat) (w:World) (own own':Bool) (ha:AggRep w own (jb y) a S) (hb:AggRep w own' (je p) b S') (cW:jB y<=2000000):
 Calls Tryz.prog 46 #[a,b] w λe1 w'=>e1=.returned (.bool (kX y p))/\Below w.heap.size w w':=by
 obtain ⟨_,rfl,ha⟩:=ha;obtain ⟨_,rfl,hb⟩:=hb;obtain ⟨ev,rfl,gA⟩:=jeh hb;obtain ⟨sv,rv,S1,S2,rfl,ah0,ah1,rfl⟩:=qW ha;clear ha hb;obtain ⟨A,c,rfl,cT,cY,-⟩:=Rep.open_ (size:=8) (enc:=jd) (λ_=>rfl) (by decide) ah1
 unfold maxLen at cY;have gM:y.aOH.length<=9223372036854775807:=by omega
 have fH:=jsz cW
 have cF:∀w',Below w.heap.size w w'->Calls Tryz.prog 21 #[.agg #[.int .i64 y.now,.int .i64 y.seq,sv,.slice A y.aOH.length c]] w' λe w''=>e=.returned (.int .i64 (kG y))/\Below w'.heap.size w' w'':=
  λw' hw=>jm9 y _ _ w' own ⟨_,rfl,jaF (up ah0 hw) (up ah1 hw)⟩ cW
 have y8:kX y p=(decide (y.aOH.length<8)&&(decide (0<=p.aOD/\p.aOD<=12)&&(decide (kG y+p.aOD<=40)&&decide (y.seq<=1000000000-1000-p.aOD)))):=rfl;have HB:=Lib.hid y8;clear y8;generalize kG y=s at*;obtain ⟨bo,uT⟩:∃bo,bo=kX y p:=⟨_,rfl⟩;rw [<-uT];have HRF:Hid (bo=(decide (y.aOH.length<8)&&(decide (0<=p.aOD/\p.aOD<=12)&&(decide (s+p.aOD<=40)&&decide (y.seq<=1000000000-1000-p.aOD))))):=Lib.hid (uT.trans HB.out);clear uT HB;obtain ⟨w2,bX⟩:∃w2,w2=((w.alloc (.cells #[.int .i64 y.now,.int .i64 y.seq,sv,.slice A y.aOH.length c] tYd)).alloc (.cells #[.int .i64 p.aOL,.int .i64 p.aOQ,.int .i64 p.aOP,.int .i64 p.aOD,ev] tPl)):=⟨_,rfl⟩;have d8:Below w.heap.size w w2:=by subst bX;exact upB (upB (Below.refl w.heap.size w) _) _
 have q3:∀(d:Nat) (os:Array Obj),(grow (redrawn w2 d) os).cell? ⟨w.heap.size,3,none⟩=some (.slice A y.aOH.length c):=λd os=>cell_regrown (by subst bX;simp [go_sem]) d os
 have r3:∀(d:Nat) (os:Array Obj),(grow (redrawn w2 d) os).cell? ⟨w.heap.size+1,3,none⟩=some (.int .i64 p.aOD):=λd os=>cell_regrown (by subst bX;simp [go_sem]) d os
 have q0:∀(d:Nat) (os:Array Obj),(grow (redrawn w2 d) os).cell? ⟨w.heap.size,0,none⟩=some (.int .i64 y.now):=λd os=>cell_regrown (by subst bX;simp [go_sem]) d os
 have q1:∀(d:Nat) (os:Array Obj),(grow (redrawn w2 d) os).cell? ⟨w.heap.size,1,none⟩=some (.int .i64 y.seq):=λd os=>cell_regrown (by subst bX;simp [go_sem]) d os
 have q2:∀(d:Nat) (os:Array Obj),(grow (redrawn w2 d) os).cell? ⟨w.heap.size,2,none⟩=some sv:=λd os=>cell_regrown (by subst bX;simp [go_sem]) d os
 by_cases h1:y.aOH.length<8;rotate_left
 ·have g1:decide ((y.aOH.length:Int)<8)=false:=by simp;omega
  have HD:=Lib.hid (show bo=false by rw [HRF.out];simp only [Bool.and_eq_false_iff,aPX];omega)
  clear h1 HRF
  go_enter Tryz.func46,Tryz.ntmps46
  go_wp2
  rw [<-bX];clear bX;refine wp_region_quiet_below (by kernel_rfl) (by kernel_rfl) ?_
  repeat (go_big_quiet_step (first|exact Calls.regrown_of (cb (vN _ _ _ _) HW.out)|exact Calls.regrown_of (cF _ (jW d8 (below_regrown w2 _ _)))))
  refine wpQuiet_nil ?_;intro _ hw';obtain ⟨⟨dq,osq⟩,hw''⟩:=hw';subst hw''
  go_wp2
  go_ret
  exact ⟨jH (by rw [HD.out]),jW d8 (below_regrown w2 dq osq)⟩
 have g1:decide ((y.aOH.length:Int)<8)=true:=by simp;omega
 by_cases h2:0<=p.aOD/\p.aOD<=12;rotate_left
 ·have HD:=Lib.hid (show bo=false by rw [HRF.out];simp only [Bool.and_eq_false_iff,aPX];omega)
  have HW:Hid (inb p.aOD 0 12=false):=vO h2;clear h1 h2 HRF
  go_enter Tryz.func46,Tryz.ntmps46
  go_wp2
  rw [<-bX];clear bX;refine wp_region_quiet_below (by kernel_rfl) (by kernel_rfl) ?_
  repeat (go_big_quiet_step (first|exact Calls.regrown_of (cb (vN _ _ _ _) HW.out)|exact Calls.regrown_of (cF _ (jW d8 (below_regrown w2 _ _)))))
  refine wpQuiet_nil ?_;intro _ hw';obtain ⟨⟨dq,osq⟩,hw''⟩:=hw';subst hw''
  go_wp2
  go_ret
  exact ⟨jH (by rw [HD.out]),jW d8 (below_regrown w2 dq osq)⟩
 have HW:Hid (inb p.aOD 0 12=true):=jbj h2;obtain ⟨h2a,h2b⟩:=h2;by_cases h3:s+p.aOD<=40;rotate_left
 ·have g3:decide (s+p.aOD<=40)=false:=by simp;omega
  have HD:=Lib.hid (show bo=false by rw [HRF.out];simp only [Bool.and_eq_false_iff,aPX];omega)
  clear h1 h3 HRF
  go_enter Tryz.func46,Tryz.ntmps46
  go_wp2
  rw [<-bX];clear bX;refine wp_region_quiet_below (by kernel_rfl) (by kernel_rfl) ?_
  repeat (go_big_quiet_step (first|exact Calls.regrown_of (cb (vN _ _ _ _) HW.out)|exact Calls.regrown_of (cF _ (jW d8 (below_regrown w2 _ _)))))
  refine wpQuiet_nil ?_;intro _ hw';obtain ⟨⟨dq,osq⟩,hw''⟩:=hw';subst hw''
  go_wp2
  go_ret
  exact ⟨jH (by rw [HD.out]),jW d8 (below_regrown w2 dq osq)⟩
 have g3:decide (s+p.aOD<=40)=true:=by simp;omega
 by_cases h4:y.seq<=999999000-p.aOD
 ·have g4:decide (y.seq<=999999000-p.aOD)=true:=by simp;omega
  have HD:=Lib.hid (show bo=true by rw [HRF.out];simp only [aPG,aPM];omega)
  clear h1 h3 h4 HRF
  go_enter Tryz.func46,Tryz.ntmps46
  go_wp2
  rw [<-bX];clear bX;refine wp_region_quiet_below (by kernel_rfl) (by kernel_rfl) ?_
  repeat (go_big_quiet_step (first|exact Calls.regrown_of (cb (vN _ _ _ _) HW.out)|exact Calls.regrown_of (cF _ (jW d8 (below_regrown w2 _ _)))))
  refine wpQuiet_nil ?_;intro _ hw';obtain ⟨⟨dq,osq⟩,hw''⟩:=hw';subst hw''
  go_wp2
  go_ret
  exact ⟨jH (by rw [HD.out]),jW d8 (below_regrown w2 dq osq)⟩
 ·have g4:decide (y.seq<=999999000-p.aOD)=false:=by simp;omega
  have HD:=Lib.hid (show bo=false by rw [HRF.out];simp only [Bool.and_eq_false_iff,aPX];omega)
  clear h1 h3 h4 HRF
  go_enter Tryz.func46,Tryz.ntmps46
  go_wp2
  rw [<-bX];clear bX;refine wp_region_quiet_below (by kernel_rfl) (by kernel_rfl) ?_
  repeat (go_big_quiet_step (first|exact Calls.regrown_of (cb (vN _ _ _ _) HW.out)|exact Calls.regrown_of (cF _ (jW d8 (below_regrown w2 _ _)))))
  refine wpQuiet_nil ?_;intro _ hw';obtain ⟨⟨dq,osq⟩,hw''⟩:=hw';subst hw''
  go_wp2
  go_ret
  exact ⟨jH (by rw [HD.out]),jW d8 (below_regrown w2 dq osq)⟩
theorem jud (y:Yd) (p:Pl) (a b:Value) (S S':List Nat) (w:World) (own own':Bool) (ha:AggRep w own (jb y) a S) (hb:AggRep w own' (je p) b S') (cW:jB y<=2000000):
 Calls Tryz.prog 113 #[a,b] w λe1 w'=>e1=.returned (.bool (kX y p))/\Below w.heap.size w w':=by
 obtain ⟨_,rfl,ha⟩:=ha;obtain ⟨_,rfl,hb⟩:=hb;obtain ⟨ev,rfl,gA⟩:=jeh hb;obtain ⟨sv,rv,S1,S2,rfl,ah0,ah1,rfl⟩:=qW ha;clear ha hb;obtain ⟨A,c,rfl,cT,cY,-⟩:=Rep.open_ (size:=8) (enc:=jd) (λ_=>rfl) (by decide) ah1
 unfold maxLen at cY;have gM:y.aOH.length<=9223372036854775807:=by omega
 have fH:=jsz cW
 have cF:∀w',Below w.heap.size w w'->Calls Tryz.prog 132 #[.agg #[.int .i64 y.now,.int .i64 y.seq,sv,.slice A y.aOH.length c]] w' λe w''=>e=.returned (.int .i64 (kG y))/\Below w'.heap.size w' w'':=
  λw' hw=>jmN y _ _ w' own ⟨_,rfl,jaF (up ah0 hw) (up ah1 hw)⟩ cW
 have y8:kX y p=(decide (y.aOH.length<8)&&(decide (0<=p.aOD/\p.aOD<=12)&&(decide (kG y+p.aOD<=40)&&decide (y.seq<=1000000000-1000-p.aOD)))):=rfl;have HB:=Lib.hid y8;clear y8;generalize kG y=s at*;obtain ⟨bo,uT⟩:∃bo,bo=kX y p:=⟨_,rfl⟩;rw [<-uT];have HRF:Hid (bo=(decide (y.aOH.length<8)&&(decide (0<=p.aOD/\p.aOD<=12)&&(decide (s+p.aOD<=40)&&decide (y.seq<=1000000000-1000-p.aOD))))):=Lib.hid (uT.trans HB.out);clear uT HB;obtain ⟨w2,bX⟩:∃w2,w2=((w.alloc (.cells #[.int .i64 y.now,.int .i64 y.seq,sv,.slice A y.aOH.length c] tYd)).alloc (.cells #[.int .i64 p.aOL,.int .i64 p.aOQ,.int .i64 p.aOP,.int .i64 p.aOD,ev] tPl)):=⟨_,rfl⟩;have d8:Below w.heap.size w w2:=by subst bX;exact upB (upB (Below.refl w.heap.size w) _) _
 have q3:∀(d:Nat) (os:Array Obj),(grow (redrawn w2 d) os).cell? ⟨w.heap.size,3,none⟩=some (.slice A y.aOH.length c):=λd os=>cell_regrown (by subst bX;simp [go_sem]) d os
 have r3:∀(d:Nat) (os:Array Obj),(grow (redrawn w2 d) os).cell? ⟨w.heap.size+1,3,none⟩=some (.int .i64 p.aOD):=λd os=>cell_regrown (by subst bX;simp [go_sem]) d os
 have q0:∀(d:Nat) (os:Array Obj),(grow (redrawn w2 d) os).cell? ⟨w.heap.size,0,none⟩=some (.int .i64 y.now):=λd os=>cell_regrown (by subst bX;simp [go_sem]) d os
 have q1:∀(d:Nat) (os:Array Obj),(grow (redrawn w2 d) os).cell? ⟨w.heap.size,1,none⟩=some (.int .i64 y.seq):=λd os=>cell_regrown (by subst bX;simp [go_sem]) d os
 have q2:∀(d:Nat) (os:Array Obj),(grow (redrawn w2 d) os).cell? ⟨w.heap.size,2,none⟩=some sv:=λd os=>cell_regrown (by subst bX;simp [go_sem]) d os
 by_cases h1:y.aOH.length<8;rotate_left
 ·have g1:decide ((y.aOH.length:Int)<8)=false:=by simp;omega
  have HD:=Lib.hid (show bo=false by rw [HRF.out];simp only [Bool.and_eq_false_iff,aPX];omega)
  clear h1 HRF
  go_enter Tryz.func113,Tryz.ntmps113
  go_wp2
  rw [<-bX];clear bX;refine wp_region_quiet_below (by kernel_rfl) (by kernel_rfl) ?_
  repeat (go_big_quiet_step (first|exact Calls.regrown_of (cb (jab _ _ _ _) HW.out)|exact Calls.regrown_of (cF _ (jW d8 (below_regrown w2 _ _)))))
  refine wpQuiet_nil ?_;intro _ hw';obtain ⟨⟨dq,osq⟩,hw''⟩:=hw';subst hw''
  go_wp2
  go_ret
  exact ⟨jH (by rw [HD.out]),jW d8 (below_regrown w2 dq osq)⟩
 have g1:decide ((y.aOH.length:Int)<8)=true:=by simp;omega
 by_cases h2:0<=p.aOD/\p.aOD<=12;rotate_left
 ·have HD:=Lib.hid (show bo=false by rw [HRF.out];simp only [Bool.and_eq_false_iff,aPX];omega)
  have HW:Hid (inb p.aOD 0 12=false):=vO h2;clear h1 h2 HRF
  go_enter Tryz.func113,Tryz.ntmps113
  go_wp2
  rw [<-bX];clear bX;refine wp_region_quiet_below (by kernel_rfl) (by kernel_rfl) ?_
  repeat (go_big_quiet_step (first|exact Calls.regrown_of (cb (jab _ _ _ _) HW.out)|exact Calls.regrown_of (cF _ (jW d8 (below_regrown w2 _ _)))))
  refine wpQuiet_nil ?_;intro _ hw';obtain ⟨⟨dq,osq⟩,hw''⟩:=hw';subst hw''
  go_wp2
  go_ret
  exact ⟨jH (by rw [HD.out]),jW d8 (below_regrown w2 dq osq)⟩
 have HW:Hid (inb p.aOD 0 12=true):=jbj h2;obtain ⟨h2a,h2b⟩:=h2;by_cases h3:s+p.aOD<=40;rotate_left
 ·have g3:decide (s+p.aOD<=40)=false:=by simp;omega
  have HD:=Lib.hid (show bo=false by rw [HRF.out];simp only [Bool.and_eq_false_iff,aPX];omega)
  clear h1 h3 HRF
  go_enter Tryz.func113,Tryz.ntmps113
  go_wp2
  rw [<-bX];clear bX;refine wp_region_quiet_below (by kernel_rfl) (by kernel_rfl) ?_
  repeat (go_big_quiet_step (first|exact Calls.regrown_of (cb (jab _ _ _ _) HW.out)|exact Calls.regrown_of (cF _ (jW d8 (below_regrown w2 _ _)))))
  refine wpQuiet_nil ?_;intro _ hw';obtain ⟨⟨dq,osq⟩,hw''⟩:=hw';subst hw''
  go_wp2
  go_ret
  exact ⟨jH (by rw [HD.out]),jW d8 (below_regrown w2 dq osq)⟩
 have g3:decide (s+p.aOD<=40)=true:=by simp;omega
 by_cases h4:y.seq<=999999000-p.aOD
 ·have g4:decide (y.seq<=999999000-p.aOD)=true:=by simp;omega
  have HD:=Lib.hid (show bo=true by rw [HRF.out];simp only [aPG,aPM];omega)
  clear h1 h3 h4 HRF
  go_enter Tryz.func113,Tryz.ntmps113
  go_wp2
  rw [<-bX];clear bX;refine wp_region_quiet_below (by kernel_rfl) (by kernel_rfl) ?_
  repeat (go_big_quiet_step (first|exact Calls.regrown_of (cb (jab _ _ _ _) HW.out)|exact Calls.regrown_of (cF _ (jW d8 (below_regrown w2 _ _)))))
  refine wpQuiet_nil ?_;intro _ hw';obtain ⟨⟨dq,osq⟩,hw''⟩:=hw';subst hw''
  go_wp2
  go_ret
  exact ⟨jH (by rw [HD.out]),jW d8 (below_regrown w2 dq osq)⟩
 ·have g4:decide (y.seq<=999999000-p.aOD)=false:=by simp;omega
  have HD:=Lib.hid (show bo=false by rw [HRF.out];simp only [Bool.and_eq_false_iff,aPX];omega)
  clear h1 h3 h4 HRF
  go_enter Tryz.func113,Tryz.ntmps113
  go_wp2
  rw [<-bX];clear bX;refine wp_region_quiet_below (by kernel_rfl) (by kernel_rfl) ?_
  repeat (go_big_quiet_step (first|exact Calls.regrown_of (cb (jab _ _ _ _) HW.out)|exact Calls.regrown_of (cF _ (jW d8 (below_regrown w2 _ _)))))
  refine wpQuiet_nil ?_;intro _ hw';obtain ⟨⟨dq,osq⟩,hw''⟩:=hw';subst hw''
  go_wp2
  go_ret
  exact ⟨jH (by rw [HD.out]),jW d8 (below_regrown w2 dq osq)⟩
open Go.RowKit Go.Sort Go.BigFrame
theorem jzS (y:Yd) (id aOK tri:Int) (a:Value) (S:List Nat) (w:World) (own:Bool) (ha:AggRep w own (jb y) a S):
 Calls Tryz.prog 53 #[a,.int .i64 id,.int .i64 aOK,.int .i64 tri] w λe1 w'=>e1=.returned (.bool (vu y id aOK tri))/\Below w.heap.size w w':=by
 obtain ⟨_,rfl,ha⟩:=ha;obtain ⟨sv,rv,S1,S2,rfl,ah0,ah1,rfl⟩:=qW ha;clear ha;rcases zc y id aOK with ⟨hr,ht⟩|⟨k,r,hr,hx,⟨eA,ht⟩|⟨j,t,hj,mH,ht⟩⟩
 ·have HR:=Lib.hid hr
  have HF:Hid (vu y id aOK tri=false):=by unfold vu;rw [ht];rfl
  clear hr ht
  go_enter Tryz.func53,Tryz.ntmps53
  go_wp2_with (go_at_call 25;refine (ci (jbk y id _ _ _ own ⟨_,rfl,jaF (upA ah0 _) (upA ah1 _)⟩) HR.out).mono ?_;rintro e1 w1 ⟨rfl,aZ⟩;obtain ⟨cT,fU⟩:=zC aZ)
  go_ret
  exact ⟨jH (by rw [HF.out]),jW ((Below.refl _ _).alloc (by simp) _) aZ⟩
 all_goals
  have HR:=Lib.hid hr;obtain ⟨A,c,rfl,cT,cY,cM⟩:=Rep.open_ (size:=8) (enc:=jd) (λ_=>rfl) (by decide) ah1
  have hk:k<y.aOH.length:=(aOS.1 hx).1;unfold maxLen at cY;have gM:y.aOH.length<=9223372036854775807:=by omega
  obtain ⟨b1,o1,vk1,T1,rfl,-,cK,-,-,uV,bA⟩:=cM k r hx;clear cM;obtain ⟨v0,v1,U0,U1,rfl,-,gJ,-⟩:=vE cK;have p7:=bA 7 _ rfl;clear bA cK;obtain ⟨B,d,rfl,mQ,fC,dA⟩:=Rep.open_ (size:=4) (enc:=jz) (λ_=>rfl) (by decide) gJ
  unfold maxLen at fC;have mC:r.aOD.length<=9223372036854775807:=by omega
  have cI:decide ((k:Int)>=0)=true:=by simp
  have lZ:decide ((k:Int)<0)=false:=by simp
  clear hr hx
 ·clear dA
  have HF:Hid (vu y id aOK tri=false):=by unfold vu;rw [ht];rfl
  have HW:Hid (inb aOK 0 ((r.aOD.length:Int)-1)=false):=vO eA;clear ht eA
  go_enter Tryz.func53,Tryz.ntmps53
  go_wp2_with fail
  refine (ci (jbk y id _ _ _ own ⟨_,rfl,jaF (upA ah0 _) (upA ah1 _)⟩) HR.out).mono ?_;rintro e1 w1 ⟨rfl,aZ⟩;obtain ⟨cT,fU⟩:=zC aZ;have dB:Below w.heap.size w w1:=jW ((Below.refl _ _).alloc (by simp) _) aZ
  have p7':=jr dB p7;have q3:w1.cell? ⟨w.heap.size,3,none⟩=some (.slice (some ⟨b1,o1,none⟩) y.aOH.length c):=(cT _ _ (by simp)).trans (by simp [go_sem])
  go_wp2_with (go_at_call 62;refine (cb (vN _ _ _ _) HW.out).mono ?_;rintro e2 w2 ⟨rfl,bF⟩;obtain ⟨cY,l0⟩:=zC bF)
  go_ret
  exact ⟨jH (by rw [HF.out]),jW dB bF⟩
 ·obtain ⟨b2,o2,vk2,T2,rfl,-,bZ,-,-,uU,bG⟩:=dA j t mH
  clear dA;obtain ⟨rfl,rfl⟩:=jea bZ;have p0:w.cell? ⟨b2,o2+j*4,none⟩=some (.int .i64 t.aOG):=bG 0 _ rfl;have p1:=bG 1 _ rfl;have p2:=bG 2 _ rfl;have p3:=bG 3 _ rfl;have bJ:j<r.aOD.length:=(aOS.1 mH).1;clear bG bZ mH;subst hj;have HW:Hid (inb (j:Int) 0 ((r.aOD.length:Int)-1)=true):=jbj (by omega)
  by_cases aJ:t.aOG=3
  ·have hs:(t.aOG==3)=true:=by simpa using aJ
   by_cases i9:t.tri=tri
   all_goals
    first|(have fM:(t.tri==tri)=true:=by simpa using i9)|(have fM:(t.tri==tri)=false:=by simpa using i9)
    have HF:=Lib.hid (show vu y id j tri=(t.tri==tri) by unfold vu;rw [ht];simp [hs])
    clear ht aJ i9
    go_enter Tryz.func53,Tryz.ntmps53
    go_wp2_with fail
    refine (ci (jbk y id _ _ _ own ⟨_,rfl,jaF (upA ah0 _) (upA ah1 _)⟩) HR.out).mono ?_;rintro e1 w1 ⟨rfl,aZ⟩;obtain ⟨cT,fU⟩:=zC aZ;have dB:Below w.heap.size w w1:=jW ((Below.refl _ _).alloc (by simp) _) aZ
    have p7':=jr dB p7;have q3:w1.cell? ⟨w.heap.size,3,none⟩=some (.slice (some ⟨b1,o1,none⟩) y.aOH.length c):=(cT _ _ (by simp)).trans (by simp [go_sem])
    go_wp2_with fail
    refine (cb (vN _ _ _ _) HW.out).mono ?_;rintro e2 w2 ⟨rfl,bF⟩;obtain ⟨cY,l0⟩:=zC bF
    replace p7':=jr bF p7'
    replace q3:=jr bF q3
    have p0':=jr bF (jr dB p0);have p1':=jr bF (jr dB p1);have p2':=jr bF (jr dB p2);have p3':=jr bF (jr dB p3)
    go_wp2
    go_ret
    exact ⟨jH (by rw [HF.out,fM]),by repeat (first|(with_reducible exact jW dB bF)|((with_reducible refine Below.alloc ?_ ?_ _);rotate_left;focus (exact (jW dB bF).size)))⟩
  ·have hs:(t.aOG==3)=false:=by simpa using aJ
   have HF:=Lib.hid (show vu y id j tri=false by unfold vu;rw [ht];simp [hs])
   clear ht aJ
   go_enter Tryz.func53,Tryz.ntmps53
   go_wp2_with fail
   refine (ci (jbk y id _ _ _ own ⟨_,rfl,jaF (upA ah0 _) (upA ah1 _)⟩) HR.out).mono ?_;rintro e1 w1 ⟨rfl,aZ⟩;obtain ⟨cT,fU⟩:=zC aZ;have dB:Below w.heap.size w w1:=jW ((Below.refl _ _).alloc (by simp) _) aZ
   have p7':=jr dB p7;have q3:w1.cell? ⟨w.heap.size,3,none⟩=some (.slice (some ⟨b1,o1,none⟩) y.aOH.length c):=(cT _ _ (by simp)).trans (by simp [go_sem])
   go_wp2_with fail
   refine (cb (vN _ _ _ _) HW.out).mono ?_;rintro e2 w2 ⟨rfl,bF⟩;obtain ⟨cY,l0⟩:=zC bF
   replace p7':=jr bF p7'
   replace q3:=jr bF q3
   have p0':=jr bF (jr dB p0);have p1':=jr bF (jr dB p1);have p2':=jr bF (jr dB p2);have p3':=jr bF (jr dB p3)
   go_wp2
   go_ret
   exact ⟨jH (by rw [HF.out]),by repeat (first|(with_reducible exact jW dB bF)|((with_reducible refine Below.alloc ?_ ?_ _);rotate_left;focus (exact (jW dB bF).size)))⟩
theorem jy5 (y:Yd) (id aOK tri:Int) (a:Value) (S:List Nat) (w:World) (own:Bool) (ha:AggRep w own (jb y) a S):
 Calls Tryz.prog 200 #[a,.int .i64 id,.int .i64 aOK,.int .i64 tri] w λe1 w'=>e1=.returned (.bool (vu y id aOK tri))/\Below w.heap.size w w':=by
 obtain ⟨_,rfl,ha⟩:=ha;obtain ⟨sv,rv,S1,S2,rfl,ah0,ah1,rfl⟩:=qW ha;clear ha;rcases zc y id aOK with ⟨hr,ht⟩|⟨k,r,hr,hx,⟨eA,ht⟩|⟨j,t,hj,mH,ht⟩⟩
 ·have HR:=Lib.hid hr
  have HF:Hid (vu y id aOK tri=false):=by unfold vu;rw [ht];rfl
  clear hr ht
  go_enter Tryz.func200,Tryz.ntmps200
  go_wp2_with (go_at_call 26;refine (ci (jbg y id _ _ _ own ⟨_,rfl,jaF (upA ah0 _) (upA ah1 _)⟩) HR.out).mono ?_;rintro e1 w1 ⟨rfl,aZ⟩;obtain ⟨cT,fU⟩:=zC aZ)
  go_ret
  exact ⟨jH (by rw [HF.out]),jW ((Below.refl _ _).alloc (by simp) _) aZ⟩
 all_goals
  have HR:=Lib.hid hr;obtain ⟨A,c,rfl,cT,cY,cM⟩:=Rep.open_ (size:=8) (enc:=jd) (λ_=>rfl) (by decide) ah1
  have hk:k<y.aOH.length:=(aOS.1 hx).1;unfold maxLen at cY;have gM:y.aOH.length<=9223372036854775807:=by omega
  obtain ⟨b1,o1,vk1,T1,rfl,-,cK,-,-,uV,bA⟩:=cM k r hx;clear cM;obtain ⟨v0,v1,U0,U1,rfl,-,gJ,-⟩:=vE cK;have p7:=bA 7 _ rfl;clear bA cK;obtain ⟨B,d,rfl,mQ,fC,dA⟩:=Rep.open_ (size:=4) (enc:=jz) (λ_=>rfl) (by decide) gJ
  unfold maxLen at fC;have mC:r.aOD.length<=9223372036854775807:=by omega
  have cI:decide ((k:Int)>=0)=true:=by simp
  have lZ:decide ((k:Int)<0)=false:=by simp
  clear hr hx
 ·clear dA
  have HF:Hid (vu y id aOK tri=false):=by unfold vu;rw [ht];rfl
  have HW:Hid (inb aOK 0 ((r.aOD.length:Int)-1)=false):=vO eA;clear ht eA
  go_enter Tryz.func200,Tryz.ntmps200
  go_wp2_with fail
  refine (ci (jbg y id _ _ _ own ⟨_,rfl,jaF (upA ah0 _) (upA ah1 _)⟩) HR.out).mono ?_;rintro e1 w1 ⟨rfl,aZ⟩;obtain ⟨cT,fU⟩:=zC aZ;have dB:Below w.heap.size w w1:=jW ((Below.refl _ _).alloc (by simp) _) aZ
  have p7':=jr dB p7;have q3:w1.cell? ⟨w.heap.size,3,none⟩=some (.slice (some ⟨b1,o1,none⟩) y.aOH.length c):=(cT _ _ (by simp)).trans (by simp [go_sem])
  go_wp2_with (go_at_call 68;refine (cb (jab _ _ _ _) HW.out).mono ?_;rintro e2 w2 ⟨rfl,bF⟩;obtain ⟨cY,l0⟩:=zC bF)
  go_ret
  exact ⟨jH (by rw [HF.out]),jW dB bF⟩
 ·obtain ⟨b2,o2,vk2,T2,rfl,-,bZ,-,-,uU,bG⟩:=dA j t mH
  clear dA;obtain ⟨rfl,rfl⟩:=jea bZ;have p0:w.cell? ⟨b2,o2+j*4,none⟩=some (.int .i64 t.aOG):=bG 0 _ rfl;have p1:=bG 1 _ rfl;have p2:=bG 2 _ rfl;have p3:=bG 3 _ rfl;have bJ:j<r.aOD.length:=(aOS.1 mH).1;clear bG bZ mH;subst hj;have HW:Hid (inb (j:Int) 0 ((r.aOD.length:Int)-1)=true):=jbj (by omega)
  by_cases aJ:t.aOG=3
  ·have hs:(t.aOG==3)=true:=by simpa using aJ
   by_cases i9:t.tri=tri
   all_goals
    first|(have fM:(t.tri==tri)=true:=by simpa using i9)|(have fM:(t.tri==tri)=false:=by simpa using i9)
    have HF:=Lib.hid (show vu y id j tri=(t.tri==tri) by unfold vu;rw [ht];simp [hs])
    clear ht aJ i9
    go_enter Tryz.func200,Tryz.ntmps200
    go_wp2_with fail
    refine (ci (jbg y id _ _ _ own ⟨_,rfl,jaF (upA ah0 _) (upA ah1 _)⟩) HR.out).mono ?_;rintro e1 w1 ⟨rfl,aZ⟩;obtain ⟨cT,fU⟩:=zC aZ;have dB:Below w.heap.size w w1:=jW ((Below.refl _ _).alloc (by simp) _) aZ
    have p7':=jr dB p7;have q3:w1.cell? ⟨w.heap.size,3,none⟩=some (.slice (some ⟨b1,o1,none⟩) y.aOH.length c):=(cT _ _ (by simp)).trans (by simp [go_sem])
    go_wp2_with fail
    refine (cb (jab _ _ _ _) HW.out).mono ?_;rintro e2 w2 ⟨rfl,bF⟩;obtain ⟨cY,l0⟩:=zC bF
    replace p7':=jr bF p7'
    replace q3:=jr bF q3
    have p0':=jr bF (jr dB p0);have p1':=jr bF (jr dB p1);have p2':=jr bF (jr dB p2);have p3':=jr bF (jr dB p3)
    go_wp2
    go_ret
    exact ⟨jH (by rw [HF.out,fM]),by repeat (first|(with_reducible exact jW dB bF)|((with_reducible refine Below.alloc ?_ ?_ _);rotate_left;focus (exact (jW dB bF).size)))⟩
  ·have hs:(t.aOG==3)=false:=by simpa using aJ
   have HF:=Lib.hid (show vu y id j tri=false by unfold vu;rw [ht];simp [hs])
   clear ht aJ
   go_enter Tryz.func200,Tryz.ntmps200
   go_wp2_with fail
   refine (ci (jbg y id _ _ _ own ⟨_,rfl,jaF (upA ah0 _) (upA ah1 _)⟩) HR.out).mono ?_;rintro e1 w1 ⟨rfl,aZ⟩;obtain ⟨cT,fU⟩:=zC aZ;have dB:Below w.heap.size w w1:=jW ((Below.refl _ _).alloc (by simp) _) aZ
   have p7':=jr dB p7;have q3:w1.cell? ⟨w.heap.size,3,none⟩=some (.slice (some ⟨b1,o1,none⟩) y.aOH.length c):=(cT _ _ (by simp)).trans (by simp [go_sem])
   go_wp2_with fail
   refine (cb (jab _ _ _ _) HW.out).mono ?_;rintro e2 w2 ⟨rfl,bF⟩;obtain ⟨cY,l0⟩:=zC bF
   replace p7':=jr bF p7'
   replace q3:=jr bF q3
   have p0':=jr bF (jr dB p0);have p1':=jr bF (jr dB p1);have p2':=jr bF (jr dB p2);have p3':=jr bF (jr dB p3)
   go_wp2
   go_ret
   exact ⟨jH (by rw [HF.out]),by repeat (first|(with_reducible exact jW dB bF)|((with_reducible refine Below.alloc ?_ ?_ _);rotate_left;focus (exact (jW dB bF).size)))⟩
