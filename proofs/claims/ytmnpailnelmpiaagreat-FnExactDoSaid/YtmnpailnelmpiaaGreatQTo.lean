/- Parts. -/
import Derived.Test.YtmnpailnelmpiaaGreatQTy
set_option linter.unusedSimpArgs false
set_option linter.unusedVariables false
set_option maxHeartbeats 2000000
namespace Go.Proofs.YtmnpailnelmpiaaGreat
open Go.RowKit Go.Sort Go.BigFrame
theorem jt4 (x:Ed) (a:Value) (S:List Nat) (w:World) (own:Bool) (ha:AggRep w own (jH x) a S):
 Calls Tryz.prog 268 #[a] w (jgD w (jH x)):=by
 obtain ⟨_,rfl,ha⟩:=ha;obtain ⟨rfl,rfl⟩:=vW ha;clear ha
 go_enter Tryz.func268,Tryz.ntmps268
 go_wp2
 exact bodyPost_ret (v:=.agg #[.int .i64 x.src,.int .i64 x.dst]) (by simp [results,Tryz.results268,go_sem]) rfl ⟨_,[],rfl,⟨_,rfl,jvp _ _ _⟩,Fresh.nil _,by repeat (first|(with_reducible exact Below.refl _ _)|(with_reducible assumption)|((with_reducible refine Below.alloc ?_ ?_ _);rotate_left;focus (simp;try omega))|((with_reducible refine Below.setCell ?_ ?_ _);rotate_left;focus (simp;try omega))|(with_reducible refine jx ?_ (by assumption)))⟩
theorem jrm (l:List (Ed)) (a:Value) (S:List Nat) (w:World) (own:Bool) (ha:Rep w own (jC l) a S) (hsz:l.length≤2000000):
 Calls Tryz.prog 204 #[a] w (jkb w (jC l)):=by
 obtain ⟨A,c,rfl,hc1,hc2,hca⟩:=Rep.open_ (size:=2) (enc:=jH) (fun _=>rfl) (by decide) ha
 clear ha;have hszl:=hsz
 go_enter Tryz.func204,Tryz.ntmps204
 go_wp2_with (at_make;refine qO (enc:=jH) rfl _ _ rfl slEd (⟨0,0⟩:Ed) zEd .i64 .i64 _ _ l.length rfl rfl rfl rfl (by omega) (by unfold maxLen;omega) ?_;intro w1 A1 hr1 hb1)
 go_loopw [4] (fun i wr=>∃k:Nat,k≤l.length∧i=.int .i64 k∧jyn jH 2 tEd w (jhC l (⟨0,0⟩:Ed) k) (.slice A1 l.length l.length) wr) (fun i _=>l.length-(intOf i).toNat)
 case atStart=>exact ⟨0,by omega,rfl,[w.heap.size],by rw [jb1];exact hr1,Fresh.one _ _ (Nat.le_refl _),hb1⟩
 case round=>
  obtain ⟨k,hk,rfl,S1,hrep,hF,hbel⟩:=hrel;clear hr1 hb1;by_cases hlt:k<l.length
  ·obtain ⟨x,hx⟩:=je hlt
   obtain ⟨b1,o1,vk1,T1,rfl,-,hr1,-,-,hb1,hx1⟩:=hca k x hx;clear hca;have HX:=Lib.hid hx;clear hx;obtain ⟨rfl,rfl⟩:=vW hr1;obtain ⟨g,rfl,-,hg1,hg,-⟩:=Rep.head (enc:=jH) (size:=2) (xs:=jhC l (⟨0,0⟩:Ed) k) (fun _=>rfl) (by decide) hrep (by rw [vV _ _ _ hk];omega)
   ·skip
    have p0:=(hbel.cell (p:=⟨b1,o1+k*2,none⟩) hb1).trans (hx1 0 _ rfl:w.cell? ⟨b1,o1+k*2,none⟩=_);have p1:=(hbel.cell (p:=⟨b1,o1+k*2+1,none⟩) hb1).trans (hx1 1 _ rfl:w.cell? ⟨b1,o1+k*2+1,none⟩=_);clear hx1
    go_wp2_with (first
    |(go_at_call 268;refine (jt4 x _ _ _ _ ⟨_,rfl,hr1.below hbel (Nat.le_refl _)⟩).mono ?_;rintro e w2 ⟨_,Sx,rfl,⟨vsx,rfl,hrx⟩,hFx,hb2⟩)
    |((with_reducible refine jhF 253 21 20 ?_);refine vz (enc:=jH) (size:=2) (xs:=jhC l (⟨0,0⟩:Ed) k) rfl _ _ _ rfl (fun _=>rfl) (by decide) szEd jta (hrep.below hb2 (Nat.le_refl _)) (k:=k) (by rw [vV _ _ _ hk];omega) rfl rfl _ rfl x (by simpa using hrx) w.heap.size (Fresh.join hF hFx hbel.size (fun s hs=>Rep.lt _ hrep s hs)) ?_;intro S' hr' hF' ho' _ _))
    go_roundw
    case rel=>
     rw [jeC HX.out] at hr';refine ⟨k+1,by omega,by go_num,S',hr',hF',?_⟩
     exact (jx hbel hb2).trans (ho'.below (by simpa using hF.2 g hg1) (Nat.le_trans hbel.size hb2.size))
    case measure=>simp [intOf];omega
  ·obtain rfl:k=l.length:=by omega
   clear hca
   go_wp2
   go_ret
   exact ⟨_,S1,rfl,by rw [jeD] at hrep;exact hrep,hF,hbel⟩
theorem jop (x:Pl) (a:Value) (S:List Nat) (w:World) (own:Bool) (ha:AggRep w own (ja x) a S) (hsz:zK x≤2000000):
 Calls Tryz.prog 116 #[a] w (jgD w (ja x)):=by
 obtain ⟨_,rfl,ha⟩:=ha;obtain ⟨av0,rfl,ah0⟩:=qL ha;clear ha;have hsz1:x.edges.length≤2000000:=by simp only [zK] at hsz;omega
 go_enter Tryz.func116,Tryz.ntmps116
 go_wp2_with (first
  |(go_at_call 204;refine (jrm x.edges _ _ _ _ (ah0.below (by repeat (first|(with_reducible exact Below.refl _ _)|(with_reducible assumption)|((with_reducible refine Below.alloc ?_ ?_ _);rotate_left;focus (simp;try omega))|((with_reducible refine Below.setCell ?_ ?_ _);rotate_left;focus (simp;try omega))|(with_reducible refine jx ?_ (by assumption)))) (Nat.le_refl _)) hsz1).mono ?_;rintro e w1 ⟨r1v0,S1,rfl,r1h0,hF1,hb1⟩;obtain ⟨r1v0A,r1v0n,r1v0c,rfl⟩:=Rep.form r1h0;obtain ⟨hc1,hf1⟩:=kU hb1;(have hz1:=hb1.size);simp at hz1;(have hx1:=(by omega:w.heap.size<w1.heap.size));(have hy1:=(by omega:w.heap.size+1<w1.heap.size));(have hw1:=(by omega:w.heap.size+1+1<w1.heap.size))))
 refine bodyPost_ret (v:=.agg #[.int .i64 x.prio,.int .i64 x.most,.int .i64 x.wait,.int .i64 x.tasks,.slice r1v0A r1v0n r1v0c]) (by simp [results,Tryz.results116,go_sem,hc1]) rfl ?_
 simp at hF1;refine ⟨_,S1,rfl,⟨_,rfl,jdP ?_⟩,?_,?_⟩
 ·repeat (first|(with_reducible exact r1h0)|((with_reducible refine jcH ?_ ?_);rotate_left;focus (intro b hb;have:=hF1.2 b hb;simp;try omega))|(with_reducible refine Rep.below ?_ (by assumption) (Nat.le_refl _)))
 ·exact hF1.mono (by omega)
 ·repeat (first|(with_reducible exact Below.refl _ _)|(with_reducible assumption)|((with_reducible refine Below.alloc ?_ ?_ _);rotate_left;focus (simp;try omega))|((with_reducible refine Below.setCell ?_ ?_ _);rotate_left;focus (simp;try omega))|(with_reducible refine jx ?_ (by assumption)))
theorem jrl (x:En) (a:Value) (S:List Nat) (w:World) (own:Bool) (ha:AggRep w own (jf x) a S):
 Calls Tryz.prog 266 #[a] w (jgD w (jf x)):=by
 obtain ⟨_,rfl,ha⟩:=ha;obtain ⟨rfl,rfl⟩:=qo ha;clear ha
 go_enter Tryz.func266,Tryz.ntmps266
 go_wp2
 exact bodyPost_ret (v:=.agg #[.int .i64 x.prio,.int .i64 x.seq,.int .i64 x.run,.int .i64 x.task]) (by simp [results,Tryz.results266,go_sem]) rfl ⟨_,[],rfl,⟨_,rfl,jjk _ _ _⟩,Fresh.nil _,by repeat (first|(with_reducible exact Below.refl _ _)|(with_reducible assumption)|((with_reducible refine Below.alloc ?_ ?_ _);rotate_left;focus (simp;try omega))|((with_reducible refine Below.setCell ?_ ?_ _);rotate_left;focus (simp;try omega))|(with_reducible refine jx ?_ (by assumption)))⟩
theorem jpz (l:List (En)) (a:Value) (S:List Nat) (w:World) (own:Bool) (ha:Rep w own (ji l) a S) (hsz:l.length≤2000000):
 Calls Tryz.prog 202 #[a] w (jkb w (ji l)):=by
 obtain ⟨A,c,rfl,hc1,hc2,hca⟩:=Rep.open_ (size:=4) (enc:=jf) (fun _=>rfl) (by decide) ha
 clear ha;have hszl:=hsz
 go_enter Tryz.func202,Tryz.ntmps202
 go_wp2_with (at_make;refine qO (enc:=jf) rfl _ _ rfl slEn (⟨0,0,0,0⟩:En) zEn .i64 .i64 _ _ l.length rfl rfl rfl rfl (by omega) (by unfold maxLen;omega) ?_;intro w1 A1 hr1 hb1)
 go_loopw [4] (fun i wr=>∃k:Nat,k≤l.length∧i=.int .i64 k∧jyn jf 4 tEn w (jhC l (⟨0,0,0,0⟩:En) k) (.slice A1 l.length l.length) wr) (fun i _=>l.length-(intOf i).toNat)
 case atStart=>exact ⟨0,by omega,rfl,[w.heap.size],by rw [jb1];exact hr1,Fresh.one _ _ (Nat.le_refl _),hb1⟩
 case round=>
  obtain ⟨k,hk,rfl,S1,hrep,hF,hbel⟩:=hrel;clear hr1 hb1;by_cases hlt:k<l.length
  ·obtain ⟨x,hx⟩:=je hlt
   obtain ⟨b1,o1,vk1,T1,rfl,-,hr1,-,-,hb1,hx1⟩:=hca k x hx;clear hca;have HX:=Lib.hid hx;clear hx;obtain ⟨rfl,rfl⟩:=qo hr1;obtain ⟨g,rfl,-,hg1,hg,-⟩:=Rep.head (enc:=jf) (size:=4) (xs:=jhC l (⟨0,0,0,0⟩:En) k) (fun _=>rfl) (by decide) hrep (by rw [vV _ _ _ hk];omega)
   ·skip
    have p0:=(hbel.cell (p:=⟨b1,o1+k*4,none⟩) hb1).trans (hx1 0 _ rfl:w.cell? ⟨b1,o1+k*4,none⟩=_);have p1:=(hbel.cell (p:=⟨b1,o1+k*4+1,none⟩) hb1).trans (hx1 1 _ rfl:w.cell? ⟨b1,o1+k*4+1,none⟩=_);have p2:=(hbel.cell (p:=⟨b1,o1+k*4+2,none⟩) hb1).trans (hx1 2 _ rfl:w.cell? ⟨b1,o1+k*4+2,none⟩=_);have p3:=(hbel.cell (p:=⟨b1,o1+k*4+3,none⟩) hb1).trans (hx1 3 _ rfl:w.cell? ⟨b1,o1+k*4+3,none⟩=_);clear hx1
    go_wp2_with (first
    |(go_at_call 266;refine (jrl x _ _ _ _ ⟨_,rfl,hr1.below hbel (Nat.le_refl _)⟩).mono ?_;rintro e w2 ⟨_,Sx,rfl,⟨vsx,rfl,hrx⟩,hFx,hb2⟩)
    |((with_reducible refine jhF 111 21 20 ?_);refine vz (enc:=jf) (size:=4) (xs:=jhC l (⟨0,0,0,0⟩:En) k) rfl _ _ _ rfl (fun _=>rfl) (by decide) jyx jmI (hrep.below hb2 (Nat.le_refl _)) (k:=k) (by rw [vV _ _ _ hk];omega) rfl rfl _ rfl x (by simpa using hrx) w.heap.size (Fresh.join hF hFx hbel.size (fun s hs=>Rep.lt _ hrep s hs)) ?_;intro S' hr' hF' ho' _ _))
    go_roundw
    case rel=>
     rw [jeC HX.out] at hr';refine ⟨k+1,by omega,by go_num,S',hr',hF',?_⟩
     exact (jx hbel hb2).trans (ho'.below (by simpa using hF.2 g hg1) (Nat.le_trans hbel.size hb2.size))
    case measure=>simp [intOf];omega
  ·obtain rfl:k=l.length:=by omega
   clear hca
   go_wp2
   go_ret
   exact ⟨_,S1,rfl,by rw [jeD] at hrep;exact hrep,hF,hbel⟩
theorem jne (l:List (List En)) (a:Value) (S:List Nat) (w:World) (own:Bool) (ha:Rep w own (ko l) a S) (hsz:vJ l≤2000000):
 Calls Tryz.prog 114 #[a] w (jkb w (ko l)):=by
 obtain ⟨A,c,rfl,hc1,hc2,hca⟩:=Rep.open_ (size:=1) (enc:=(fun es=>[ji es])) (fun _=>rfl) (by decide) ha
 clear ha;have hszl:l.length≤2000000:=by simp only [vJ] at hsz;omega
 go_enter Tryz.func114,Tryz.ntmps114
 go_wp2_with (at_make;refine qO (enc:=(fun es=>[ji es])) rfl _ _ rfl slEnS ([]:List En) zEnS .i64 .i64 _ _ l.length rfl rfl rfl rfl (by omega) (by unfold maxLen;omega) ?_;intro w1 A1 hr1 hb1)
 go_loopw [4] (fun i wr=>∃k:Nat,k≤l.length∧i=.int .i64 k∧jyn (fun es=>[ji es]) 1 jng w (jhC l ([]:List En) k) (.slice A1 l.length l.length) wr) (fun i _=>l.length-(intOf i).toNat)
 case atStart=>exact ⟨0,by omega,rfl,[w.heap.size],by rw [jb1];exact hr1,Fresh.one _ _ (Nat.le_refl _),hb1⟩
 case round=>
  obtain ⟨k,hk,rfl,S1,hrep,hF,hbel⟩:=hrel;clear hr1 hb1;by_cases hlt:k<l.length
  ·obtain ⟨x,hx⟩:=je hlt
   obtain ⟨b1,o1,vk1,T1,rfl,-,hr1,-,-,hb1,hx1⟩:=hca k x hx;clear hca;have HX:=Lib.hid hx;clear hx;obtain ⟨au,_,aS0,aS1,rfl,rfl,ah0,rfl,rfl⟩:=hr1;obtain ⟨g,rfl,-,hg1,hg,-⟩:=Rep.head (enc:=(fun es=>[ji es])) (size:=1) (xs:=jhC l ([]:List En) k) (fun _=>rfl) (by decide) hrep (by rw [vV _ _ _ hk];omega)
   ·skip
    have hszx:kS x≤2000000:=by have:=joo (tot:=kS) HX.out;simp only [vJ] at hsz;omega
    have p0:=(hbel.cell (p:=⟨b1,o1+k,none⟩) hb1).trans (by simpa using hx1 0 _ rfl:w.cell? ⟨b1,o1+k,none⟩=_)
    clear hx1
    go_wp2_with (first
    |(go_at_call 202;refine (jpz x _ _ _ _ (ah0.below hbel (Nat.le_refl _)) (by simpa [kS] using hszx)).mono ?_;rintro e w2 ⟨_,Sx,rfl,hrx,hFx,hb2⟩;obtain ⟨rA,rn,rc,rfl⟩:=Rep.form hrx;obtain ⟨hcx,hfx⟩:=juL (enc:=(fun es=>[ji es])) (xs:=jhC l ([]:List En) k) (fun _=>rfl) (hrep.below hb2 (Nat.le_refl _)) (by rw [vV _ _ _ hk];omega);obtain ⟨ux,hcx⟩:=hcx))
    go_roundw
    case rel=>
     obtain ⟨S',hr',hF',ho',_,_⟩:=Rep.setElem (enc:=(fun es=>[ji es])) (size:=1) (fun _=>rfl) (by decide) (hrep.below hb2 (Nat.le_refl _)) (by rw [vV _ _ _ hk];omega) (RepL.cons_ hrx RepL.nil_) (Fresh.join hF (by simpa using hFx) hbel.size (fun s hs=>Rep.lt _ hrep s hs))
     rw [Nat.mul_one,jeC HX.out] at hr';rw [Nat.mul_one] at ho';refine ⟨k+1,by omega,by go_num,S',hr',hF',?_⟩
     exact (jx hbel hb2).trans (ho'.below (by simpa using hF.2 g hg1) (Nat.le_trans hbel.size hb2.size))
    case measure=>simp [intOf];omega
  ·obtain rfl:k=l.length:=by omega
   clear hca
   go_wp2
   go_ret
   exact ⟨_,S1,rfl,by rw [jeD] at hrep;exact hrep,hF,hbel⟩
theorem jt2 (x:Tk) (a:Value) (S:List Nat) (w:World) (own:Bool) (ha:AggRep w own (jm x) a S):
 Calls Tryz.prog 285 #[a] w (jgD w (jm x)):=by
 obtain ⟨_,rfl,ha⟩:=ha;obtain ⟨rfl,rfl⟩:=qy ha;clear ha
 go_enter Tryz.func285,Tryz.ntmps285
 go_wp2
 exact bodyPost_ret (v:=.agg #[.int .i64 x.state,.int .i64 x.need,.int .i64 x.tri,.int .i64 x.til]) (by simp [results,Tryz.results285,go_sem]) rfl ⟨_,[],rfl,⟨_,rfl,jpA _ _ _⟩,Fresh.nil _,by repeat (first|(with_reducible exact Below.refl _ _)|(with_reducible assumption)|((with_reducible refine Below.alloc ?_ ?_ _);rotate_left;focus (simp;try omega))|((with_reducible refine Below.setCell ?_ ?_ _);rotate_left;focus (simp;try omega))|(with_reducible refine jx ?_ (by assumption)))⟩
theorem jrk (l:List (Tk)) (a:Value) (S:List Nat) (w:World) (own:Bool) (ha:Rep w own (jw l) a S) (hsz:l.length≤2000000):
 Calls Tryz.prog 267 #[a] w (jkb w (jw l)):=by
 obtain ⟨A,c,rfl,hc1,hc2,hca⟩:=Rep.open_ (size:=4) (enc:=jm) (fun _=>rfl) (by decide) ha
 clear ha;have hszl:=hsz
 go_enter Tryz.func267,Tryz.ntmps267
 go_wp2_with (at_make;refine qO (enc:=jm) rfl _ _ rfl slTk (⟨0,0,0,0⟩:Tk) zTk .i64 .i64 _ _ l.length rfl rfl rfl rfl (by omega) (by unfold maxLen;omega) ?_;intro w1 A1 hr1 hb1)
 go_loopw [4] (fun i wr=>∃k:Nat,k≤l.length∧i=.int .i64 k∧jyn jm 4 tTk w (jhC l (⟨0,0,0,0⟩:Tk) k) (.slice A1 l.length l.length) wr) (fun i _=>l.length-(intOf i).toNat)
 case atStart=>exact ⟨0,by omega,rfl,[w.heap.size],by rw [jb1];exact hr1,Fresh.one _ _ (Nat.le_refl _),hb1⟩
 case round=>
  obtain ⟨k,hk,rfl,S1,hrep,hF,hbel⟩:=hrel;clear hr1 hb1;by_cases hlt:k<l.length
  ·obtain ⟨x,hx⟩:=je hlt
   obtain ⟨b1,o1,vk1,T1,rfl,-,hr1,-,-,hb1,hx1⟩:=hca k x hx;clear hca;have HX:=Lib.hid hx;clear hx;obtain ⟨rfl,rfl⟩:=qy hr1;obtain ⟨g,rfl,-,hg1,hg,-⟩:=Rep.head (enc:=jm) (size:=4) (xs:=jhC l (⟨0,0,0,0⟩:Tk) k) (fun _=>rfl) (by decide) hrep (by rw [vV _ _ _ hk];omega)
   ·skip
    have p0:=(hbel.cell (p:=⟨b1,o1+k*4,none⟩) hb1).trans (hx1 0 _ rfl:w.cell? ⟨b1,o1+k*4,none⟩=_);have p1:=(hbel.cell (p:=⟨b1,o1+k*4+1,none⟩) hb1).trans (hx1 1 _ rfl:w.cell? ⟨b1,o1+k*4+1,none⟩=_);have p2:=(hbel.cell (p:=⟨b1,o1+k*4+2,none⟩) hb1).trans (hx1 2 _ rfl:w.cell? ⟨b1,o1+k*4+2,none⟩=_);have p3:=(hbel.cell (p:=⟨b1,o1+k*4+3,none⟩) hb1).trans (hx1 3 _ rfl:w.cell? ⟨b1,o1+k*4+3,none⟩=_);clear hx1
    go_wp2_with (first
    |(go_at_call 285;refine (jt2 x _ _ _ _ ⟨_,rfl,hr1.below hbel (Nat.le_refl _)⟩).mono ?_;rintro e w2 ⟨_,Sx,rfl,⟨vsx,rfl,hrx⟩,hFx,hb2⟩)
    |((with_reducible refine jhF 172 21 20 ?_);refine vz (enc:=jm) (size:=4) (xs:=jhC l (⟨0,0,0,0⟩:Tk) k) rfl _ _ _ rfl (fun _=>rfl) (by decide) szTk js7 (hrep.below hb2 (Nat.le_refl _)) (k:=k) (by rw [vV _ _ _ hk];omega) rfl rfl _ rfl x (by simpa using hrx) w.heap.size (Fresh.join hF hFx hbel.size (fun s hs=>Rep.lt _ hrep s hs)) ?_;intro S' hr' hF' ho' _ _))
    go_roundw
    case rel=>
     rw [jeC HX.out] at hr';refine ⟨k+1,by omega,by go_num,S',hr',hF',?_⟩
     exact (jx hbel hb2).trans (ho'.below (by simpa using hF.2 g hg1) (Nat.le_trans hbel.size hb2.size))
    case measure=>simp [intOf];omega
  ·obtain rfl:k=l.length:=by omega
   clear hca
   go_wp2
   go_ret
   exact ⟨_,S1,rfl,by rw [jeD] at hrep;exact hrep,hF,hbel⟩
theorem jwt (x:Rn) (a:Value) (S:List Nat) (w:World) (own:Bool) (ha:AggRep w own (jd x) a S) (hsz:kh x≤2000000):
 Calls Tryz.prog 203 #[a] w (jgD w (jd x)):=by
 obtain ⟨_,rfl,ha⟩:=ha;obtain ⟨av0,av1,aS0,aS1,rfl,ah0,ah1,rfl⟩:=ke ha;clear ha;have hsz1:zK x.plan≤2000000:=by simp only [kh] at hsz;omega
 have hsz2:x.tasks.length≤2000000:=by simp only [kh] at hsz;omega
 go_enter Tryz.func203,Tryz.ntmps203
 go_wp2_with (first
  |(go_at_call 116;refine (jop x.plan _ _ _ _ ⟨_,rfl,jdP (ah0.below (by repeat (first|(with_reducible exact Below.refl _ _)|(with_reducible assumption)|((with_reducible refine Below.alloc ?_ ?_ _);rotate_left;focus (simp;try omega))|((with_reducible refine Below.setCell ?_ ?_ _);rotate_left;focus (simp;try omega))|(with_reducible refine jx ?_ (by assumption)))) (Nat.le_refl _))⟩ hsz1).mono ?_;rintro e w1 ⟨_,S1,rfl,⟨_,rfl,hr1⟩,hF1,hb1⟩;obtain ⟨r1v0,rfl,r1h0⟩:=qL hr1;obtain ⟨r1v0A,r1v0n,r1v0c,rfl⟩:=Rep.form r1h0;obtain ⟨hc1,hf1⟩:=kU hb1;(have hz1:=hb1.size);simp at hz1;(have hx1:=(by omega:w.heap.size<w1.heap.size));(have hy1:=(by omega:w.heap.size+1<w1.heap.size));(have hw1:=(by omega:w.heap.size+1+1<w1.heap.size)))
  |(go_at_call 267;refine (jrk x.tasks _ _ _ _ (ah1.below (by repeat (first|(with_reducible exact Below.refl _ _)|(with_reducible assumption)|((with_reducible refine Below.alloc ?_ ?_ _);rotate_left;focus (simp;try omega))|((with_reducible refine Below.setCell ?_ ?_ _);rotate_left;focus (simp;try omega))|(with_reducible refine jx ?_ (by assumption)))) (Nat.le_refl _)) hsz2).mono ?_;rintro e w2 ⟨r2v0,S2,rfl,r2h0,hF2,hb2⟩;obtain ⟨r2v0A,r2v0n,r2v0c,rfl⟩:=Rep.form r2h0;obtain ⟨hc2,hf2⟩:=kU hb2;(have hz2:=hb2.size);simp at hz2;(have hx2:=(by omega:w.heap.size<w2.heap.size));(have hy2:=(by omega:w.heap.size+1<w2.heap.size));(have hw2:=(by omega:w.heap.size+1+1<w2.heap.size))))
 refine bodyPost_ret (v:=.agg #[.int .i64 x.id,.int .i64 x.plan.prio,.int .i64 x.plan.most,.int .i64 x.plan.wait,.int .i64 x.plan.tasks,.slice r1v0A r1v0n r1v0c,.int .i64 x.state,.slice r2v0A r2v0n r2v0c]) (by simp [results,Tryz.results203,go_sem,hc1,hc2,hy1]) rfl ?_
 simp at hF1;simp at hF2;refine ⟨_,S1++S2,rfl,⟨_,rfl,jiY ?_ ?_⟩,?_,?_⟩
 ·repeat (first|(with_reducible exact r1h0)|((with_reducible refine jcH ?_ ?_);rotate_left;focus (intro b hb;have:=hF1.2 b hb;simp;try omega))|(with_reducible refine Rep.below ?_ (by assumption) (Nat.le_refl _)))
 ·repeat (first|(with_reducible exact r2h0)|((with_reducible refine jcH ?_ ?_);rotate_left;focus (intro b hb;have:=hF2.2 b hb;simp;try omega))|(with_reducible refine Rep.below ?_ (by assumption) (Nat.le_refl _)))
 ·exact Fresh.join (hF1.mono (by omega)) hF2 (by omega) (fun s hs=>Rep.lt _ r1h0 s hs)
 ·repeat (first|(with_reducible exact Below.refl _ _)|(with_reducible assumption)|((with_reducible refine Below.alloc ?_ ?_ _);rotate_left;focus (simp;try omega))|((with_reducible refine Below.setCell ?_ ?_ _);rotate_left;focus (simp;try omega))|(with_reducible refine jx ?_ (by assumption)))
theorem jt3 (l:List (Rn)) (a:Value) (S:List Nat) (w:World) (own:Bool) (ha:Rep w own (jM l) a S) (hsz:qu l≤2000000):
 Calls Tryz.prog 115 #[a] w (jkb w (jM l)):=by
 obtain ⟨A,c,rfl,hc1,hc2,hca⟩:=Rep.open_ (size:=8) (enc:=jd) (fun _=>rfl) (by decide) ha
 clear ha;have hszl:l.length≤2000000:=by simp only [qu] at hsz;omega
 go_enter Tryz.func115,Tryz.ntmps115
 go_wp2_with (at_make;refine qO (enc:=jd) rfl _ _ rfl slRn (⟨0,⟨0,0,0,0,[]⟩,0,[]⟩:Rn) zRn .i64 .i64 _ _ l.length rfl rfl rfl rfl (by omega) (by unfold maxLen;omega) ?_;intro w1 A1 hr1 hb1)
 go_loopw [4] (fun i wr=>∃k:Nat,k≤l.length∧i=.int .i64 k∧jyn jd 8 tRn w (jhC l (⟨0,⟨0,0,0,0,[]⟩,0,[]⟩:Rn) k) (.slice A1 l.length l.length) wr) (fun i _=>l.length-(intOf i).toNat)
 case atStart=>exact ⟨0,by omega,rfl,[w.heap.size],by rw [jb1];exact hr1,Fresh.one _ _ (Nat.le_refl _),hb1⟩
 case round=>
  obtain ⟨k,hk,rfl,S1,hrep,hF,hbel⟩:=hrel;clear hr1 hb1;by_cases hlt:k<l.length
  ·obtain ⟨x,hx⟩:=je hlt
   obtain ⟨b1,o1,vk1,T1,rfl,-,hr1,-,-,hb1,hx1⟩:=hca k x hx;clear hca;have HX:=Lib.hid hx;clear hx;obtain ⟨av0,av1,aS0,aS1,rfl,ah0,ah1,rfl⟩:=ke hr1;obtain ⟨g,rfl,-,hg1,hg,-⟩:=Rep.head (enc:=jd) (size:=8) (xs:=jhC l (⟨0,⟨0,0,0,0,[]⟩,0,[]⟩:Rn) k) (fun _=>rfl) (by decide) hrep (by rw [vV _ _ _ hk];omega)
   ·skip
    have hszx:kh x≤2000000:=by have:=joo (tot:=kh) HX.out;simp only [qu] at hsz;omega
    have p0:=(hbel.cell (p:=⟨b1,o1+k*8,none⟩) hb1).trans (hx1 0 _ rfl:w.cell? ⟨b1,o1+k*8,none⟩=_);have p1:=(hbel.cell (p:=⟨b1,o1+k*8+1,none⟩) hb1).trans (hx1 1 _ rfl:w.cell? ⟨b1,o1+k*8+1,none⟩=_);have p2:=(hbel.cell (p:=⟨b1,o1+k*8+2,none⟩) hb1).trans (hx1 2 _ rfl:w.cell? ⟨b1,o1+k*8+2,none⟩=_);have p3:=(hbel.cell (p:=⟨b1,o1+k*8+3,none⟩) hb1).trans (hx1 3 _ rfl:w.cell? ⟨b1,o1+k*8+3,none⟩=_);have p4:=(hbel.cell (p:=⟨b1,o1+k*8+4,none⟩) hb1).trans (hx1 4 _ rfl:w.cell? ⟨b1,o1+k*8+4,none⟩=_);have p5:=(hbel.cell (p:=⟨b1,o1+k*8+5,none⟩) hb1).trans (hx1 5 _ rfl:w.cell? ⟨b1,o1+k*8+5,none⟩=_);have p6:=(hbel.cell (p:=⟨b1,o1+k*8+6,none⟩) hb1).trans (hx1 6 _ rfl:w.cell? ⟨b1,o1+k*8+6,none⟩=_);have p7:=(hbel.cell (p:=⟨b1,o1+k*8+7,none⟩) hb1).trans (hx1 7 _ rfl:w.cell? ⟨b1,o1+k*8+7,none⟩=_);clear hx1
    go_wp2_with (first
    |(go_at_call 203;refine (jwt x _ _ _ _ ⟨_,rfl,hr1.below hbel (Nat.le_refl _)⟩ hszx).mono ?_;rintro e w2 ⟨_,Sx,rfl,⟨vsx,rfl,hrx⟩,hFx,hb2⟩)
    |((with_reducible refine jhF 108 21 20 ?_);refine vz (enc:=jd) (size:=8) (xs:=jhC l (⟨0,⟨0,0,0,0,[]⟩,0,[]⟩:Rn) k) rfl _ _ _ rfl (fun _=>rfl) (by decide) szRn js8 (hrep.below hb2 (Nat.le_refl _)) (k:=k) (by rw [vV _ _ _ hk];omega) rfl rfl _ rfl x (by simpa using hrx) w.heap.size (Fresh.join hF hFx hbel.size (fun s hs=>Rep.lt _ hrep s hs)) ?_;intro S' hr' hF' ho' _ _))
    go_roundw
    case rel=>
     rw [jeC HX.out] at hr';refine ⟨k+1,by omega,by go_num,S',hr',hF',?_⟩
     exact (jx hbel hb2).trans (ho'.below (by simpa using hF.2 g hg1) (Nat.le_trans hbel.size hb2.size))
    case measure=>simp [intOf];omega
  ·obtain rfl:k=l.length:=by omega
   clear hca
   go_wp2
   go_ret
   exact ⟨_,S1,rfl,by rw [jeD] at hrep;exact hrep,hF,hbel⟩
theorem jt1 (x:Yd) (a:Value) (S:List Nat) (w:World) (own:Bool) (ha:AggRep w own (jb x) a S) (hsz:jt x≤2000000):
 Calls Tryz.prog 31 #[a] w (jgD w (jb x)):=by
 obtain ⟨_,rfl,ha⟩:=ha;obtain ⟨av0,av1,aS0,aS1,rfl,ah0,ah1,rfl⟩:=kY ha;clear ha;have hsz1:vJ x.shelf≤2000000:=by simp only [jt] at hsz;omega
 have hsz2:qu x.runs≤2000000:=by simp only [jt] at hsz;omega
 go_enter Tryz.func31,Tryz.ntmps31
 go_wp2_with (first
  |(go_at_call 114;refine (jne x.shelf _ _ _ _ (ah0.below (by repeat (first|(with_reducible exact Below.refl _ _)|(with_reducible assumption)|((with_reducible refine Below.alloc ?_ ?_ _);rotate_left;focus (simp;try omega))|((with_reducible refine Below.setCell ?_ ?_ _);rotate_left;focus (simp;try omega))|(with_reducible refine jx ?_ (by assumption)))) (Nat.le_refl _)) hsz1).mono ?_;rintro e w1 ⟨r1v0,S1,rfl,r1h0,hF1,hb1⟩;obtain ⟨r1v0A,r1v0n,r1v0c,rfl⟩:=Rep.form r1h0;obtain ⟨hc1,hf1⟩:=kU hb1;(have hz1:=hb1.size);simp at hz1;(have hx1:=(by omega:w.heap.size<w1.heap.size));(have hy1:=(by omega:w.heap.size+1<w1.heap.size));(have hw1:=(by omega:w.heap.size+1+1<w1.heap.size)))
  |(go_at_call 115;refine (jt3 x.runs _ _ _ _ (ah1.below (by repeat (first|(with_reducible exact Below.refl _ _)|(with_reducible assumption)|((with_reducible refine Below.alloc ?_ ?_ _);rotate_left;focus (simp;try omega))|((with_reducible refine Below.setCell ?_ ?_ _);rotate_left;focus (simp;try omega))|(with_reducible refine jx ?_ (by assumption)))) (Nat.le_refl _)) hsz2).mono ?_;rintro e w2 ⟨r2v0,S2,rfl,r2h0,hF2,hb2⟩;obtain ⟨r2v0A,r2v0n,r2v0c,rfl⟩:=Rep.form r2h0;obtain ⟨hc2,hf2⟩:=kU hb2;(have hz2:=hb2.size);simp at hz2;(have hx2:=(by omega:w.heap.size<w2.heap.size));(have hy2:=(by omega:w.heap.size+1<w2.heap.size));(have hw2:=(by omega:w.heap.size+1+1<w2.heap.size))))
 refine bodyPost_ret (v:=.agg #[.int .i64 x.now,.int .i64 x.seq,.slice r1v0A r1v0n r1v0c,.slice r2v0A r2v0n r2v0c]) (by simp [results,Tryz.results31,go_sem,hc1,hc2,hy1]) rfl ?_
 simp at hF1;simp at hF2;refine ⟨_,S1++S2,rfl,⟨_,rfl,jao ?_ ?_⟩,?_,?_⟩
 ·repeat (first|(with_reducible exact r1h0)|((with_reducible refine jcH ?_ ?_);rotate_left;focus (intro b hb;have:=hF1.2 b hb;simp;try omega))|(with_reducible refine Rep.below ?_ (by assumption) (Nat.le_refl _)))
 ·repeat (first|(with_reducible exact r2h0)|((with_reducible refine jcH ?_ ?_);rotate_left;focus (intro b hb;have:=hF2.2 b hb;simp;try omega))|(with_reducible refine Rep.below ?_ (by assumption) (Nat.le_refl _)))
 ·exact Fresh.join (hF1.mono (by omega)) hF2 (by omega) (fun s hs=>Rep.lt _ r1h0 s hs)
 ·repeat (first|(with_reducible exact Below.refl _ _)|(with_reducible assumption)|((with_reducible refine Below.alloc ?_ ?_ _);rotate_left;focus (simp;try omega))|((with_reducible refine Below.setCell ?_ ?_ _);rotate_left;focus (simp;try omega))|(with_reducible refine jx ?_ (by assumption)))
theorem jt5 (x:Dd) (a:Value) (S:List Nat) (w:World) (own:Bool) (ha:AggRep w own (jg x) a S) (hsz:zX x≤2000000):
 Calls Tryz.prog 32 #[a] w (jgD w (jg x)):=by
 obtain ⟨_,rfl,ha⟩:=ha;obtain ⟨av0,rfl,ah0⟩:=jbh ha;clear ha;have hsz1:zK x.plan≤2000000:=by simp only [zX] at hsz;omega
 go_enter Tryz.func32,Tryz.ntmps32
 go_wp2_with (first
  |(go_at_call 116;refine (jop x.plan _ _ _ _ ⟨_,rfl,jdP (ah0.below (by repeat (first|(with_reducible exact Below.refl _ _)|(with_reducible assumption)|((with_reducible refine Below.alloc ?_ ?_ _);rotate_left;focus (simp;try omega))|((with_reducible refine Below.setCell ?_ ?_ _);rotate_left;focus (simp;try omega))|(with_reducible refine jx ?_ (by assumption)))) (Nat.le_refl _))⟩ hsz1).mono ?_;rintro e w1 ⟨_,S1,rfl,⟨_,rfl,hr1⟩,hF1,hb1⟩;obtain ⟨r1v0,rfl,r1h0⟩:=qL hr1;obtain ⟨r1v0A,r1v0n,r1v0c,rfl⟩:=Rep.form r1h0;obtain ⟨hc1,hf1⟩:=kU hb1;(have hz1:=hb1.size);simp at hz1;(have hx1:=(by omega:w.heap.size<w1.heap.size));(have hy1:=(by omega:w.heap.size+1<w1.heap.size));(have hw1:=(by omega:w.heap.size+1+1<w1.heap.size))))
 refine bodyPost_ret (v:=.agg #[.int .i64 x.kind,.int .i64 x.run,.int .i64 x.plan.prio,.int .i64 x.plan.most,.int .i64 x.plan.wait,.int .i64 x.plan.tasks,.slice r1v0A r1v0n r1v0c,.int .i64 x.task,.int .i64 x.tri,.int .i64 x.worker,.int .i64 x.draw]) (by simp [results,Tryz.results32,go_sem,hc1]) rfl ?_
 simp at hF1;refine ⟨_,S1,rfl,⟨_,rfl,jAh ?_⟩,?_,?_⟩
 ·repeat (first|(with_reducible exact r1h0)|((with_reducible refine jcH ?_ ?_);rotate_left;focus (intro b hb;have:=hF1.2 b hb;simp;try omega))|(with_reducible refine Rep.below ?_ (by assumption) (Nat.le_refl _)))
 ·exact hF1.mono (by omega)
 ·repeat (first|(with_reducible exact Below.refl _ _)|(with_reducible assumption)|((with_reducible refine Below.alloc ?_ ?_ _);rotate_left;focus (simp;try omega))|((with_reducible refine Below.setCell ?_ ?_ _);rotate_left;focus (simp;try omega))|(with_reducible refine jx ?_ (by assumption)))
end Go.Proofs.YtmnpailnelmpiaaGreat
