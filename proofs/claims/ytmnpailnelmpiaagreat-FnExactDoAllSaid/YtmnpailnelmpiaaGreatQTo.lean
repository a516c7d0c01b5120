/- Parts. -/
import Derived.Test.YtmnpailnelmpiaaGreatQData
set_option linter.unusedSimpArgs false
set_option linter.unusedVariables false
set_option maxHeartbeats 2000000
namespace Go.Proofs.YtmnpailnelmpiaaGreat
open Go.RowKit Go.Sort Go.BigFrame
theorem juQ (x:Ed) (a:Value) (S:List Nat) (w:World) (own:Bool) (ha:AggRep w own (jI x) a S):
 Calls Tryz.prog 268 #[a] w (jg2 w (jI x)):=by
 obtain ⟨_,rfl,ha⟩:=ha;obtain ⟨rfl,rfl⟩:=za ha;clear ha
 go_enter Tryz.func268,Tryz.ntmps268
 go_wp2
 exact bodyPost_ret (v:=.agg #[.int .i64 x.src,.int .i64 x.dst]) (by simp [results,Tryz.results268,go_sem]) rfl ⟨_,[],rfl,⟨_,rfl,jwd _ _ _⟩,Fresh.nil _,by repeat (first|(with_reducible exact Below.refl _ _)|(with_reducible assumption)|((with_reducible refine Below.alloc ?_ ?_ _);rotate_left;focus (simp;try omega))|((with_reducible refine Below.setCell ?_ ?_ _);rotate_left;focus (simp;try omega))|(with_reducible refine jy ?_ (by assumption)))⟩
theorem jrR (l:List (Ed)) (a:Value) (S:List Nat) (w:World) (own:Bool) (ha:Rep w own (jB l) a S) (hsz:l.length≤2000000):
 Calls Tryz.prog 204 #[a] w (jg0 w (jB l)):=by
 obtain ⟨A,c,rfl,hc1,hc2,hca⟩:=Rep.open_ (size:=2) (enc:=jI) (fun _=>rfl) (by decide) ha
 clear ha;have hszl:=hsz
 go_enter Tryz.func204,Tryz.ntmps204
 go_wp2_with (at_make;refine qv (enc:=jI) rfl _ _ rfl slEd (⟨0,0⟩:Ed) zEd .i64 .i64 _ _ l.length rfl rfl rfl rfl (by omega) (by unfold maxLen;omega) ?_;intro w1 A1 hr1 hb1)
 go_loopw [4] (fun i wr=>∃k:Nat,k≤l.length∧i=.int .i64 k∧jy9 jI 2 tEd w (jf1 l (⟨0,0⟩:Ed) k) (.slice A1 l.length l.length) wr) (fun i _=>l.length-(intOf i).toNat)
 case atStart=>exact ⟨0,by omega,rfl,[w.heap.size],by rw [ja0];exact hr1,Fresh.one _ _ (Nat.le_refl _),hb1⟩
 case round=>
  obtain ⟨k,hk,rfl,S1,hrep,hF,hbel⟩:=hrel;clear hr1 hb1;by_cases hlt:k<l.length
  ·obtain ⟨x,hx⟩:=je hlt
   obtain ⟨b1,o1,vk1,T1,rfl,-,hr1,-,-,hb1,hx1⟩:=hca k x hx;clear hca;have HX:=Lib.hid hx;clear hx;obtain ⟨rfl,rfl⟩:=za hr1;obtain ⟨g,rfl,-,hg1,hg,-⟩:=Rep.head (enc:=jI) (size:=2) (xs:=jf1 l (⟨0,0⟩:Ed) k) (fun _=>rfl) (by decide) hrep (by rw [ve _ _ _ hk];omega)
   ·skip
    have p0:=(hbel.cell (p:=⟨b1,o1+k*2,none⟩) hb1).trans (hx1 0 _ rfl:w.cell? ⟨b1,o1+k*2,none⟩=_);have p1:=(hbel.cell (p:=⟨b1,o1+k*2+1,none⟩) hb1).trans (hx1 1 _ rfl:w.cell? ⟨b1,o1+k*2+1,none⟩=_);clear hx1
    go_wp2_with (first
    |(go_at_call 268;refine (juQ x _ _ _ _ ⟨_,rfl,hr1.below hbel (Nat.le_refl _)⟩).mono ?_;rintro e w2 ⟨_,Sx,rfl,⟨vsx,rfl,hrx⟩,hFx,hb2⟩)
    |((with_reducible refine jfD 253 21 20 ?_);refine qM (enc:=jI) (size:=2) (xs:=jf1 l (⟨0,0⟩:Ed) k) rfl _ _ _ rfl (fun _=>rfl) (by decide) szEd jtT (hrep.below hb2 (Nat.le_refl _)) (k:=k) (by rw [ve _ _ _ hk];omega) rfl rfl _ rfl x (by simpa using hrx) w.heap.size (Fresh.join hF hFx hbel.size (fun s hs=>Rep.lt _ hrep s hs)) ?_;intro S' hr' hF' ho' _ _))
    go_roundw
    case rel=>
     rw [jcS HX.out] at hr';refine ⟨k+1,by omega,by go_num,S',hr',hF',?_⟩
     exact (jy hbel hb2).trans (ho'.below (by simpa using hF.2 g hg1) (Nat.le_trans hbel.size hb2.size))
    case measure=>simp [intOf];omega
  ·obtain rfl:k=l.length:=by omega
   clear hca
   go_wp2
   go_ret
   exact ⟨_,S1,rfl,by rw [jcT] at hrep;exact hrep,hF,hbel⟩
theorem joM (x:Pl) (a:Value) (S:List Nat) (w:World) (own:Bool) (ha:AggRep w own (ja x) a S) (hsz:zR x≤2000000):
 Calls Tryz.prog 116 #[a] w (jg2 w (ja x)):=by
 obtain ⟨_,rfl,ha⟩:=ha;obtain ⟨av0,rfl,ah0⟩:=vF ha;clear ha;have hsz1:x.edges.length≤2000000:=by simp only [zR] at hsz;omega
 go_enter Tryz.func116,Tryz.ntmps116
 go_wp2_with (first
  |(go_at_call 204;refine (jrR x.edges _ _ _ _ (ah0.below (by repeat (first|(with_reducible exact Below.refl _ _)|(with_reducible assumption)|((with_reducible refine Below.alloc ?_ ?_ _);rotate_left;focus (simp;try omega))|((with_reducible refine Below.setCell ?_ ?_ _);rotate_left;focus (simp;try omega))|(with_reducible refine jy ?_ (by assumption)))) (Nat.le_refl _)) hsz1).mono ?_;rintro e w1 ⟨r1v0,S1,rfl,r1h0,hF1,hb1⟩;obtain ⟨r1v0A,r1v0n,r1v0c,rfl⟩:=Rep.form r1h0;obtain ⟨hc1,hf1⟩:=qa hb1;(have hz1:=hb1.size);simp at hz1;(have hx1:=(by omega:w.heap.size<w1.heap.size));(have hy1:=(by omega:w.heap.size+1<w1.heap.size));(have hw1:=(by omega:w.heap.size+1+1<w1.heap.size))))
 refine bodyPost_ret (v:=.agg #[.int .i64 x.prio,.int .i64 x.most,.int .i64 x.wait,.int .i64 x.tasks,.slice r1v0A r1v0n r1v0c]) (by simp [results,Tryz.results116,go_sem,hc1]) rfl ?_
 simp at hF1;refine ⟨_,S1,rfl,⟨_,rfl,jfS ?_⟩,?_,?_⟩
 ·repeat (first|(with_reducible exact r1h0)|((with_reducible refine jcP ?_ ?_);rotate_left;focus (intro b hb;have:=hF1.2 b hb;simp;try omega))|(with_reducible refine Rep.below ?_ (by assumption) (Nat.le_refl _)))
 ·exact hF1.mono (by omega)
 ·repeat (first|(with_reducible exact Below.refl _ _)|(with_reducible assumption)|((with_reducible refine Below.alloc ?_ ?_ _);rotate_left;focus (simp;try omega))|((with_reducible refine Below.setCell ?_ ?_ _);rotate_left;focus (simp;try omega))|(with_reducible refine jy ?_ (by assumption)))
theorem jrQ (x:En) (a:Value) (S:List Nat) (w:World) (own:Bool) (ha:AggRep w own (jf x) a S):
 Calls Tryz.prog 266 #[a] w (jg2 w (jf x)):=by
 obtain ⟨_,rfl,ha⟩:=ha;obtain ⟨rfl,rfl⟩:=qu ha;clear ha
 go_enter Tryz.func266,Tryz.ntmps266
 go_wp2
 exact bodyPost_ret (v:=.agg #[.int .i64 x.prio,.int .i64 x.seq,.int .i64 x.run,.int .i64 x.task]) (by simp [results,Tryz.results266,go_sem]) rfl ⟨_,[],rfl,⟨_,rfl,jjF _ _ _⟩,Fresh.nil _,by repeat (first|(with_reducible exact Below.refl _ _)|(with_reducible assumption)|((with_reducible refine Below.alloc ?_ ?_ _);rotate_left;focus (simp;try omega))|((with_reducible refine Below.setCell ?_ ?_ _);rotate_left;focus (simp;try omega))|(with_reducible refine jy ?_ (by assumption)))⟩
theorem jpW (l:List (En)) (a:Value) (S:List Nat) (w:World) (own:Bool) (ha:Rep w own (ji l) a S) (hsz:l.length≤2000000):
 Calls Tryz.prog 202 #[a] w (jg0 w (ji l)):=by
 obtain ⟨A,c,rfl,hc1,hc2,hca⟩:=Rep.open_ (size:=4) (enc:=jf) (fun _=>rfl) (by decide) ha
 clear ha;have hszl:=hsz
 go_enter Tryz.func202,Tryz.ntmps202
 go_wp2_with (at_make;refine qv (enc:=jf) rfl _ _ rfl slEn (⟨0,0,0,0⟩:En) zEn .i64 .i64 _ _ l.length rfl rfl rfl rfl (by omega) (by unfold maxLen;omega) ?_;intro w1 A1 hr1 hb1)
 go_loopw [4] (fun i wr=>∃k:Nat,k≤l.length∧i=.int .i64 k∧jy9 jf 4 tEn w (jf1 l (⟨0,0,0,0⟩:En) k) (.slice A1 l.length l.length) wr) (fun i _=>l.length-(intOf i).toNat)
 case atStart=>exact ⟨0,by omega,rfl,[w.heap.size],by rw [ja0];exact hr1,Fresh.one _ _ (Nat.le_refl _),hb1⟩
 case round=>
  obtain ⟨k,hk,rfl,S1,hrep,hF,hbel⟩:=hrel;clear hr1 hb1;by_cases hlt:k<l.length
  ·obtain ⟨x,hx⟩:=je hlt
   obtain ⟨b1,o1,vk1,T1,rfl,-,hr1,-,-,hb1,hx1⟩:=hca k x hx;clear hca;have HX:=Lib.hid hx;clear hx;obtain ⟨rfl,rfl⟩:=qu hr1;obtain ⟨g,rfl,-,hg1,hg,-⟩:=Rep.head (enc:=jf) (size:=4) (xs:=jf1 l (⟨0,0,0,0⟩:En) k) (fun _=>rfl) (by decide) hrep (by rw [ve _ _ _ hk];omega)
   ·skip
    have p0:=(hbel.cell (p:=⟨b1,o1+k*4,none⟩) hb1).trans (hx1 0 _ rfl:w.cell? ⟨b1,o1+k*4,none⟩=_);have p1:=(hbel.cell (p:=⟨b1,o1+k*4+1,none⟩) hb1).trans (hx1 1 _ rfl:w.cell? ⟨b1,o1+k*4+1,none⟩=_);have p2:=(hbel.cell (p:=⟨b1,o1+k*4+2,none⟩) hb1).trans (hx1 2 _ rfl:w.cell? ⟨b1,o1+k*4+2,none⟩=_);have p3:=(hbel.cell (p:=⟨b1,o1+k*4+3,none⟩) hb1).trans (hx1 3 _ rfl:w.cell? ⟨b1,o1+k*4+3,none⟩=_);clear hx1
    go_wp2_with (first
    |(go_at_call 266;refine (jrQ x _ _ _ _ ⟨_,rfl,hr1.below hbel (Nat.le_refl _)⟩).mono ?_;rintro e w2 ⟨_,Sx,rfl,⟨vsx,rfl,hrx⟩,hFx,hb2⟩)
    |((with_reducible refine jfD 111 21 20 ?_);refine qM (enc:=jf) (size:=4) (xs:=jf1 l (⟨0,0,0,0⟩:En) k) rfl _ _ _ rfl (fun _=>rfl) (by decide) jzm jm3 (hrep.below hb2 (Nat.le_refl _)) (k:=k) (by rw [ve _ _ _ hk];omega) rfl rfl _ rfl x (by simpa using hrx) w.heap.size (Fresh.join hF hFx hbel.size (fun s hs=>Rep.lt _ hrep s hs)) ?_;intro S' hr' hF' ho' _ _))
    go_roundw
    case rel=>
     rw [jcS HX.out] at hr';refine ⟨k+1,by omega,by go_num,S',hr',hF',?_⟩
     exact (jy hbel hb2).trans (ho'.below (by simpa using hF.2 g hg1) (Nat.le_trans hbel.size hb2.size))
    case measure=>simp [intOf];omega
  ·obtain rfl:k=l.length:=by omega
   clear hca
   go_wp2
   go_ret
   exact ⟨_,S1,rfl,by rw [jcT] at hrep;exact hrep,hF,hbel⟩
theorem jnz (l:List (List En)) (a:Value) (S:List Nat) (w:World) (own:Bool) (ha:Rep w own (kt l) a S) (hsz:vP l≤2000000):
 Calls Tryz.prog 114 #[a] w (jg0 w (kt l)):=by
 obtain ⟨A,c,rfl,hc1,hc2,hca⟩:=Rep.open_ (size:=1) (enc:=(fun es=>[ji es])) (fun _=>rfl) (by decide) ha
 clear ha;have hszl:l.length≤2000000:=by simp only [vP] at hsz;omega
 go_enter Tryz.func114,Tryz.ntmps114
 go_wp2_with (at_make;refine qv (enc:=(fun es=>[ji es])) rfl _ _ rfl slEnS ([]:List En) zEnS .i64 .i64 _ _ l.length rfl rfl rfl rfl (by omega) (by unfold maxLen;omega) ?_;intro w1 A1 hr1 hb1)
 go_loopw [4] (fun i wr=>∃k:Nat,k≤l.length∧i=.int .i64 k∧jy9 (fun es=>[ji es]) 1 jnB w (jf1 l ([]:List En) k) (.slice A1 l.length l.length) wr) (fun i _=>l.length-(intOf i).toNat)
 case atStart=>exact ⟨0,by omega,rfl,[w.heap.size],by rw [ja0];exact hr1,Fresh.one _ _ (Nat.le_refl _),hb1⟩
 case round=>
  obtain ⟨k,hk,rfl,S1,hrep,hF,hbel⟩:=hrel;clear hr1 hb1;by_cases hlt:k<l.length
  ·obtain ⟨x,hx⟩:=je hlt
   obtain ⟨b1,o1,vk1,T1,rfl,-,hr1,-,-,hb1,hx1⟩:=hca k x hx;clear hca;have HX:=Lib.hid hx;clear hx;obtain ⟨au,_,aS0,aS1,rfl,rfl,ah0,rfl,rfl⟩:=hr1;obtain ⟨g,rfl,-,hg1,hg,-⟩:=Rep.head (enc:=(fun es=>[ji es])) (size:=1) (xs:=jf1 l ([]:List En) k) (fun _=>rfl) (by decide) hrep (by rw [ve _ _ _ hk];omega)
   ·skip
    have hszx:kO x≤2000000:=by have:=jkz (tot:=kO) HX.out;simp only [vP] at hsz;omega
    have p0:=(hbel.cell (p:=⟨b1,o1+k,none⟩) hb1).trans (by simpa using hx1 0 _ rfl:w.cell? ⟨b1,o1+k,none⟩=_)
    clear hx1
    go_wp2_with (first
    |(go_at_call 202;refine (jpW x _ _ _ _ (ah0.below hbel (Nat.le_refl _)) (by simpa [kO] using hszx)).mono ?_;rintro e w2 ⟨_,Sx,rfl,hrx,hFx,hb2⟩;obtain ⟨rA,rn,rc,rfl⟩:=Rep.form hrx;obtain ⟨hcx,hfx⟩:=jvy (enc:=(fun es=>[ji es])) (xs:=jf1 l ([]:List En) k) (fun _=>rfl) (hrep.below hb2 (Nat.le_refl _)) (by rw [ve _ _ _ hk];omega);obtain ⟨ux,hcx⟩:=hcx))
    go_roundw
    case rel=>
     obtain ⟨S',hr',hF',ho',_,_⟩:=Rep.setElem (enc:=(fun es=>[ji es])) (size:=1) (fun _=>rfl) (by decide) (hrep.below hb2 (Nat.le_refl _)) (by rw [ve _ _ _ hk];omega) (RepL.cons_ hrx RepL.nil_) (Fresh.join hF (by simpa using hFx) hbel.size (fun s hs=>Rep.lt _ hrep s hs))
     rw [Nat.mul_one,jcS HX.out] at hr';rw [Nat.mul_one] at ho';refine ⟨k+1,by omega,by go_num,S',hr',hF',?_⟩
     exact (jy hbel hb2).trans (ho'.below (by simpa using hF.2 g hg1) (Nat.le_trans hbel.size hb2.size))
    case measure=>simp [intOf];omega
  ·obtain rfl:k=l.length:=by omega
   clear hca
   go_wp2
   go_ret
   exact ⟨_,S1,rfl,by rw [jcT] at hrep;exact hrep,hF,hbel⟩
theorem juO (x:Tk) (a:Value) (S:List Nat) (w:World) (own:Bool) (ha:AggRep w own (jn x) a S):
 Calls Tryz.prog 285 #[a] w (jg2 w (jn x)):=by
 obtain ⟨_,rfl,ha⟩:=ha;obtain ⟨rfl,rfl⟩:=qF ha;clear ha
 go_enter Tryz.func285,Tryz.ntmps285
 go_wp2
 exact bodyPost_ret (v:=.agg #[.int .i64 x.state,.int .i64 x.need,.int .i64 x.tri,.int .i64 x.til]) (by simp [results,Tryz.results285,go_sem]) rfl ⟨_,[],rfl,⟨_,rfl,jpX _ _ _⟩,Fresh.nil _,by repeat (first|(with_reducible exact Below.refl _ _)|(with_reducible assumption)|((with_reducible refine Below.alloc ?_ ?_ _);rotate_left;focus (simp;try omega))|((with_reducible refine Below.setCell ?_ ?_ _);rotate_left;focus (simp;try omega))|(with_reducible refine jy ?_ (by assumption)))⟩
theorem jrP (l:List (Tk)) (a:Value) (S:List Nat) (w:World) (own:Bool) (ha:Rep w own (jw l) a S) (hsz:l.length≤2000000):
 Calls Tryz.prog 267 #[a] w (jg0 w (jw l)):=by
 obtain ⟨A,c,rfl,hc1,hc2,hca⟩:=Rep.open_ (size:=4) (enc:=jn) (fun _=>rfl) (by decide) ha
 clear ha;have hszl:=hsz
 go_enter Tryz.func267,Tryz.ntmps267
 go_wp2_with (at_make;refine qv (enc:=jn) rfl _ _ rfl slTk (⟨0,0,0,0⟩:Tk) zTk .i64 .i64 _ _ l.length rfl rfl rfl rfl (by omega) (by unfold maxLen;omega) ?_;intro w1 A1 hr1 hb1)
 go_loopw [4] (fun i wr=>∃k:Nat,k≤l.length∧i=.int .i64 k∧jy9 jn 4 tTk w (jf1 l (⟨0,0,0,0⟩:Tk) k) (.slice A1 l.length l.length) wr) (fun i _=>l.length-(intOf i).toNat)
 case atStart=>exact ⟨0,by omega,rfl,[w.heap.size],by rw [ja0];exact hr1,Fresh.one _ _ (Nat.le_refl _),hb1⟩
 case round=>
  obtain ⟨k,hk,rfl,S1,hrep,hF,hbel⟩:=hrel;clear hr1 hb1;by_cases hlt:k<l.length
  ·obtain ⟨x,hx⟩:=je hlt
   obtain ⟨b1,o1,vk1,T1,rfl,-,hr1,-,-,hb1,hx1⟩:=hca k x hx;clear hca;have HX:=Lib.hid hx;clear hx;obtain ⟨rfl,rfl⟩:=qF hr1;obtain ⟨g,rfl,-,hg1,hg,-⟩:=Rep.head (enc:=jn) (size:=4) (xs:=jf1 l (⟨0,0,0,0⟩:Tk) k) (fun _=>rfl) (by decide) hrep (by rw [ve _ _ _ hk];omega)
   ·skip
    have p0:=(hbel.cell (p:=⟨b1,o1+k*4,none⟩) hb1).trans (hx1 0 _ rfl:w.cell? ⟨b1,o1+k*4,none⟩=_);have p1:=(hbel.cell (p:=⟨b1,o1+k*4+1,none⟩) hb1).trans (hx1 1 _ rfl:w.cell? ⟨b1,o1+k*4+1,none⟩=_);have p2:=(hbel.cell (p:=⟨b1,o1+k*4+2,none⟩) hb1).trans (hx1 2 _ rfl:w.cell? ⟨b1,o1+k*4+2,none⟩=_);have p3:=(hbel.cell (p:=⟨b1,o1+k*4+3,none⟩) hb1).trans (hx1 3 _ rfl:w.cell? ⟨b1,o1+k*4+3,none⟩=_);clear hx1
    go_wp2_with (first
    |(go_at_call 285;refine (juO x _ _ _ _ ⟨_,rfl,hr1.below hbel (Nat.le_refl _)⟩).mono ?_;rintro e w2 ⟨_,Sx,rfl,⟨vsx,rfl,hrx⟩,hFx,hb2⟩)
    |((with_reducible refine jfD 172 21 20 ?_);refine qM (enc:=jn) (size:=4) (xs:=jf1 l (⟨0,0,0,0⟩:Tk) k) rfl _ _ _ rfl (fun _=>rfl) (by decide) szTk jtQ (hrep.below hb2 (Nat.le_refl _)) (k:=k) (by rw [ve _ _ _ hk];omega) rfl rfl _ rfl x (by simpa using hrx) w.heap.size (Fresh.join hF hFx hbel.size (fun s hs=>Rep.lt _ hrep s hs)) ?_;intro S' hr' hF' ho' _ _))
    go_roundw
    case rel=>
     rw [jcS HX.out] at hr';refine ⟨k+1,by omega,by go_num,S',hr',hF',?_⟩
     exact (jy hbel hb2).trans (ho'.below (by simpa using hF.2 g hg1) (Nat.le_trans hbel.size hb2.size))
    case measure=>simp [intOf];omega
  ·obtain rfl:k=l.length:=by omega
   clear hca
   go_wp2
   go_ret
   exact ⟨_,S1,rfl,by rw [jcT] at hrep;exact hrep,hF,hbel⟩
theorem jxj (x:Rn) (a:Value) (S:List Nat) (w:World) (own:Bool) (ha:AggRep w own (jd x) a S) (hsz:kn x≤2000000):
 Calls Tryz.prog 203 #[a] w (jg2 w (jd x)):=by
 obtain ⟨_,rfl,ha⟩:=ha;obtain ⟨av0,av1,aS0,aS1,rfl,ah0,ah1,rfl⟩:=kh ha;clear ha;have hsz1:zR x.plan≤2000000:=by simp only [kn] at hsz;omega
 have hsz2:x.tasks.length≤2000000:=by simp only [kn] at hsz;omega
 go_enter Tryz.func203,Tryz.ntmps203
 go_wp2_with (first
  |(go_at_call 116;refine (joM x.plan _ _ _ _ ⟨_,rfl,jfS (ah0.below (by repeat (first|(with_reducible exact Below.refl _ _)|(with_reducible assumption)|((with_reducible refine Below.alloc ?_ ?_ _);rotate_left;focus (simp;try omega))|((with_reducible refine Below.setCell ?_ ?_ _);rotate_left;focus (simp;try omega))|(with_reducible refine jy ?_ (by assumption)))) (Nat.le_refl _))⟩ hsz1).mono ?_;rintro e w1 ⟨_,S1,rfl,⟨_,rfl,hr1⟩,hF1,hb1⟩;obtain ⟨r1v0,rfl,r1h0⟩:=vF hr1;obtain ⟨r1v0A,r1v0n,r1v0c,rfl⟩:=Rep.form r1h0;obtain ⟨hc1,hf1⟩:=qa hb1;(have hz1:=hb1.size);simp at hz1;(have hx1:=(by omega:w.heap.size<w1.heap.size));(have hy1:=(by omega:w.heap.size+1<w1.heap.size));(have hw1:=(by omega:w.heap.size+1+1<w1.heap.size)))
  |(go_at_call 267;refine (jrP x.tasks _ _ _ _ (ah1.below (by repeat (first|(with_reducible exact Below.refl _ _)|(with_reducible assumption)|((with_reducible refine Below.alloc ?_ ?_ _);rotate_left;focus (simp;try omega))|((with_reducible refine Below.setCell ?_ ?_ _);rotate_left;focus (simp;try omega))|(with_reducible refine jy ?_ (by assumption)))) (Nat.le_refl _)) hsz2).mono ?_;rintro e w2 ⟨r2v0,S2,rfl,r2h0,hF2,hb2⟩;obtain ⟨r2v0A,r2v0n,r2v0c,rfl⟩:=Rep.form r2h0;obtain ⟨hc2,hf2⟩:=qa hb2;(have hz2:=hb2.size);simp at hz2;(have hx2:=(by omega:w.heap.size<w2.heap.size));(have hy2:=(by omega:w.heap.size+1<w2.heap.size));(have hw2:=(by omega:w.heap.size+1+1<w2.heap.size))))
 refine bodyPost_ret (v:=.agg #[.int .i64 x.id,.int .i64 x.plan.prio,.int .i64 x.plan.most,.int .i64 x.plan.wait,.int .i64 x.plan.tasks,.slice r1v0A r1v0n r1v0c,.int .i64 x.state,.slice r2v0A r2v0n r2v0c]) (by simp [results,Tryz.results203,go_sem,hc1,hc2,hy1]) rfl ?_
 simp at hF1;simp at hF2;refine ⟨_,S1++S2,rfl,⟨_,rfl,jjj ?_ ?_⟩,?_,?_⟩
 ·repeat (first|(with_reducible exact r1h0)|((with_reducible refine jcP ?_ ?_);rotate_left;focus (intro b hb;have:=hF1.2 b hb;simp;try omega))|(with_reducible refine Rep.below ?_ (by assumption) (Nat.le_refl _)))
 ·repeat (first|(with_reducible exact r2h0)|((with_reducible refine jcP ?_ ?_);rotate_left;focus (intro b hb;have:=hF2.2 b hb;simp;try omega))|(with_reducible refine Rep.below ?_ (by assumption) (Nat.le_refl _)))
 ·exact Fresh.join (hF1.mono (by omega)) hF2 (by omega) (fun s hs=>Rep.lt _ r1h0 s hs)
 ·repeat (first|(with_reducible exact Below.refl _ _)|(with_reducible assumption)|((with_reducible refine Below.alloc ?_ ?_ _);rotate_left;focus (simp;try omega))|((with_reducible refine Below.setCell ?_ ?_ _);rotate_left;focus (simp;try omega))|(with_reducible refine jy ?_ (by assumption)))
theorem juP (l:List (Rn)) (a:Value) (S:List Nat) (w:World) (own:Bool) (ha:Rep w own (jM l) a S) (hsz:qA l≤2000000):
 Calls Tryz.prog 115 #[a] w (jg0 w (jM l)):=by
 obtain ⟨A,c,rfl,hc1,hc2,hca⟩:=Rep.open_ (size:=8) (enc:=jd) (fun _=>rfl) (by decide) ha
 clear ha;have hszl:l.length≤2000000:=by simp only [qA] at hsz;omega
 go_enter Tryz.func115,Tryz.ntmps115
 go_wp2_with (at_make;refine qv (enc:=jd) rfl _ _ rfl slRn (⟨0,⟨0,0,0,0,[]⟩,0,[]⟩:Rn) zRn .i64 .i64 _ _ l.length rfl rfl rfl rfl (by omega) (by unfold maxLen;omega) ?_;intro w1 A1 hr1 hb1)
 go_loopw [4] (fun i wr=>∃k:Nat,k≤l.length∧i=.int .i64 k∧jy9 jd 8 tRn w (jf1 l (⟨0,⟨0,0,0,0,[]⟩,0,[]⟩:Rn) k) (.slice A1 l.length l.length) wr) (fun i _=>l.length-(intOf i).toNat)
 case atStart=>exact ⟨0,by omega,rfl,[w.heap.size],by rw [ja0];exact hr1,Fresh.one _ _ (Nat.le_refl _),hb1⟩
 case round=>
  obtain ⟨k,hk,rfl,S1,hrep,hF,hbel⟩:=hrel;clear hr1 hb1;by_cases hlt:k<l.length
  ·obtain ⟨x,hx⟩:=je hlt
   obtain ⟨b1,o1,vk1,T1,rfl,-,hr1,-,-,hb1,hx1⟩:=hca k x hx;clear hca;have HX:=Lib.hid hx;clear hx;obtain ⟨av0,av1,aS0,aS1,rfl,ah0,ah1,rfl⟩:=kh hr1;obtain ⟨g,rfl,-,hg1,hg,-⟩:=Rep.head (enc:=jd) (size:=8) (xs:=jf1 l (⟨0,⟨0,0,0,0,[]⟩,0,[]⟩:Rn) k) (fun _=>rfl) (by decide) hrep (by rw [ve _ _ _ hk];omega)
   ·skip
    have hszx:kn x≤2000000:=by have:=jkz (tot:=kn) HX.out;simp only [qA] at hsz;omega
    have p0:=(hbel.cell (p:=⟨b1,o1+k*8,none⟩) hb1).trans (hx1 0 _ rfl:w.cell? ⟨b1,o1+k*8,none⟩=_);have p1:=(hbel.cell (p:=⟨b1,o1+k*8+1,none⟩) hb1).trans (hx1 1 _ rfl:w.cell? ⟨b1,o1+k*8+1,none⟩=_);have p2:=(hbel.cell (p:=⟨b1,o1+k*8+2,none⟩) hb1).trans (hx1 2 _ rfl:w.cell? ⟨b1,o1+k*8+2,none⟩=_);have p3:=(hbel.cell (p:=⟨b1,o1+k*8+3,none⟩) hb1).trans (hx1 3 _ rfl:w.cell? ⟨b1,o1+k*8+3,none⟩=_);have p4:=(hbel.cell (p:=⟨b1,o1+k*8+4,none⟩) hb1).trans (hx1 4 _ rfl:w.cell? ⟨b1,o1+k*8+4,none⟩=_);have p5:=(hbel.cell (p:=⟨b1,o1+k*8+5,none⟩) hb1).trans (hx1 5 _ rfl:w.cell? ⟨b1,o1+k*8+5,none⟩=_);have p6:=(hbel.cell (p:=⟨b1,o1+k*8+6,none⟩) hb1).trans (hx1 6 _ rfl:w.cell? ⟨b1,o1+k*8+6,none⟩=_);have p7:=(hbel.cell (p:=⟨b1,o1+k*8+7,none⟩) hb1).trans (hx1 7 _ rfl:w.cell? ⟨b1,o1+k*8+7,none⟩=_);clear hx1
    go_wp2_with (first
    |(go_at_call 203;refine (jxj x _ _ _ _ ⟨_,rfl,hr1.below hbel (Nat.le_refl _)⟩ hszx).mono ?_;rintro e w2 ⟨_,Sx,rfl,⟨vsx,rfl,hrx⟩,hFx,hb2⟩)
    |((with_reducible refine jfD 108 21 20 ?_);refine qM (enc:=jd) (size:=8) (xs:=jf1 l (⟨0,⟨0,0,0,0,[]⟩,0,[]⟩:Rn) k) rfl _ _ _ rfl (fun _=>rfl) (by decide) szRn jtR (hrep.below hb2 (Nat.le_refl _)) (k:=k) (by rw [ve _ _ _ hk];omega) rfl rfl _ rfl x (by simpa using hrx) w.heap.size (Fresh.join hF hFx hbel.size (fun s hs=>Rep.lt _ hrep s hs)) ?_;intro S' hr' hF' ho' _ _))
    go_roundw
    case rel=>
     rw [jcS HX.out] at hr';refine ⟨k+1,by omega,by go_num,S',hr',hF',?_⟩
     exact (jy hbel hb2).trans (ho'.below (by simpa using hF.2 g hg1) (Nat.le_trans hbel.size hb2.size))
    case measure=>simp [intOf];omega
  ·obtain rfl:k=l.length:=by omega
   clear hca
   go_wp2
   go_ret
   exact ⟨_,S1,rfl,by rw [jcT] at hrep;exact hrep,hF,hbel⟩
theorem juN (x:Yd) (a:Value) (S:List Nat) (w:World) (own:Bool) (ha:AggRep w own (jb x) a S) (hsz:jt x≤2000000):
 Calls Tryz.prog 31 #[a] w (jg2 w (jb x)):=by
 obtain ⟨_,rfl,ha⟩:=ha;obtain ⟨av0,av1,aS0,aS1,rfl,ah0,ah1,rfl⟩:=qf ha;clear ha;have hsz1:vP x.shelf≤2000000:=by simp only [jt] at hsz;omega
 have hsz2:qA x.runs≤2000000:=by simp only [jt] at hsz;omega
 go_enter Tryz.func31,Tryz.ntmps31
 go_wp2_with (first
  |(go_at_call 114;refine (jnz x.shelf _ _ _ _ (ah0.below (by repeat (first|(with_reducible exact Below.refl _ _)|(with_reducible assumption)|((with_reducible refine Below.alloc ?_ ?_ _);rotate_left;focus (simp;try omega))|((with_reducible refine Below.setCell ?_ ?_ _);rotate_left;focus (simp;try omega))|(with_reducible refine jy ?_ (by assumption)))) (Nat.le_refl _)) hsz1).mono ?_;rintro e w1 ⟨r1v0,S1,rfl,r1h0,hF1,hb1⟩;obtain ⟨r1v0A,r1v0n,r1v0c,rfl⟩:=Rep.form r1h0;obtain ⟨hc1,hf1⟩:=qa hb1;(have hz1:=hb1.size);simp at hz1;(have hx1:=(by omega:w.heap.size<w1.heap.size));(have hy1:=(by omega:w.heap.size+1<w1.heap.size));(have hw1:=(by omega:w.heap.size+1+1<w1.heap.size)))
  |(go_at_call 115;refine (juP x.runs _ _ _ _ (ah1.below (by repeat (first|(with_reducible exact Below.refl _ _)|(with_reducible assumption)|((with_reducible refine Below.alloc ?_ ?_ _);rotate_left;focus (simp;try omega))|((with_reducible refine Below.setCell ?_ ?_ _);rotate_left;focus (simp;try omega))|(with_reducible refine jy ?_ (by assumption)))) (Nat.le_refl _)) hsz2).mono ?_;rintro e w2 ⟨r2v0,S2,rfl,r2h0,hF2,hb2⟩;obtain ⟨r2v0A,r2v0n,r2v0c,rfl⟩:=Rep.form r2h0;obtain ⟨hc2,hf2⟩:=qa hb2;(have hz2:=hb2.size);simp at hz2;(have hx2:=(by omega:w.heap.size<w2.heap.size));(have hy2:=(by omega:w.heap.size+1<w2.heap.size));(have hw2:=(by omega:w.heap.size+1+1<w2.heap.size))))
 refine bodyPost_ret (v:=.agg #[.int .i64 x.now,.int .i64 x.seq,.slice r1v0A r1v0n r1v0c,.slice r2v0A r2v0n r2v0c]) (by simp [results,Tryz.results31,go_sem,hc1,hc2,hy1]) rfl ?_
 simp at hF1;simp at hF2;refine ⟨_,S1++S2,rfl,⟨_,rfl,jas ?_ ?_⟩,?_,?_⟩
 ·repeat (first|(with_reducible exact r1h0)|((with_reducible refine jcP ?_ ?_);rotate_left;focus (intro b hb;have:=hF1.2 b hb;simp;try omega))|(with_reducible refine Rep.below ?_ (by assumption) (Nat.le_refl _)))
 ·repeat (first|(with_reducible exact r2h0)|((with_reducible refine jcP ?_ ?_);rotate_left;focus (intro b hb;have:=hF2.2 b hb;simp;try omega))|(with_reducible refine Rep.below ?_ (by assumption) (Nat.le_refl _)))
 ·exact Fresh.join (hF1.mono (by omega)) hF2 (by omega) (fun s hs=>Rep.lt _ r1h0 s hs)
 ·repeat (first|(with_reducible exact Below.refl _ _)|(with_reducible assumption)|((with_reducible refine Below.alloc ?_ ?_ _);rotate_left;focus (simp;try omega))|((with_reducible refine Below.setCell ?_ ?_ _);rotate_left;focus (simp;try omega))|(with_reducible refine jy ?_ (by assumption)))
theorem juR (x:Dd) (a:Value) (S:List Nat) (w:World) (own:Bool) (ha:AggRep w own (jg x) a S) (hsz:vQ x≤2000000):
 Calls Tryz.prog 32 #[a] w (jg2 w (jg x)):=by
 obtain ⟨_,rfl,ha⟩:=ha;obtain ⟨av0,rfl,ah0⟩:=kE ha;clear ha;have hsz1:zR x.plan≤2000000:=by simp only [vQ] at hsz;omega
 go_enter Tryz.func32,Tryz.ntmps32
 go_wp2_with (first
  |(go_at_call 116;refine (joM x.plan _ _ _ _ ⟨_,rfl,jfS (ah0.below (by repeat (first|(with_reducible exact Below.refl _ _)|(with_reducible assumption)|((with_reducible refine Below.alloc ?_ ?_ _);rotate_left;focus (simp;try omega))|((with_reducible refine Below.setCell ?_ ?_ _);rotate_left;focus (simp;try omega))|(with_reducible refine jy ?_ (by assumption)))) (Nat.le_refl _))⟩ hsz1).mono ?_;rintro e w1 ⟨_,S1,rfl,⟨_,rfl,hr1⟩,hF1,hb1⟩;obtain ⟨r1v0,rfl,r1h0⟩:=vF hr1;obtain ⟨r1v0A,r1v0n,r1v0c,rfl⟩:=Rep.form r1h0;obtain ⟨hc1,hf1⟩:=qa hb1;(have hz1:=hb1.size);simp at hz1;(have hx1:=(by omega:w.heap.size<w1.heap.size));(have hy1:=(by omega:w.heap.size+1<w1.heap.size));(have hw1:=(by omega:w.heap.size+1+1<w1.heap.size))))
 refine bodyPost_ret (v:=.agg #[.int .i64 x.kind,.int .i64 x.run,.int .i64 x.plan.prio,.int .i64 x.plan.most,.int .i64 x.plan.wait,.int .i64 x.plan.tasks,.slice r1v0A r1v0n r1v0c,.int .i64 x.task,.int .i64 x.tri,.int .i64 x.worker,.int .i64 x.draw]) (by simp [results,Tryz.results32,go_sem,hc1]) rfl ?_
 simp at hF1;refine ⟨_,S1,rfl,⟨_,rfl,jf3 ?_⟩,?_,?_⟩
 ·repeat (first|(with_reducible exact r1h0)|((with_reducible refine jcP ?_ ?_);rotate_left;focus (intro b hb;have:=hF1.2 b hb;simp;try omega))|(with_reducible refine Rep.below ?_ (by assumption) (Nat.le_refl _)))
 ·exact hF1.mono (by omega)
 ·repeat (first|(with_reducible exact Below.refl _ _)|(with_reducible assumption)|((with_reducible refine Below.alloc ?_ ?_ _);rotate_left;focus (simp;try omega))|((with_reducible refine Below.setCell ?_ ?_ _);rotate_left;focus (simp;try omega))|(with_reducible refine jy ?_ (by assumption)))
end Go.Proofs.YtmnpailnelmpiaaGreat
