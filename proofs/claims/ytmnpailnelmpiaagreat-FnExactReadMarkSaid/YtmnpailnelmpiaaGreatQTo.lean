/- Parts. -/
import Derived.Test.YtmnpailnelmpiaaGreatQTy
import Derived.Deep.RegionWith
import Derived.Laws.StructEq
set_option linter.unusedSimpArgs false
set_option linter.unusedVariables false
set_option maxHeartbeats 2000000
namespace Go.Proofs.YtmnpailnelmpiaaGreat
open Go.RowKit Go.Sort Go.BigFrame
theorem jyp (x:Ed) (a:Value) (S:List Nat) (w:World) (own:Bool) (ha:AggRep w own (jJ x) a S):
 Calls Tryz.prog 268 #[a] w (jiO w (jJ x)):=by
 obtain ⟨_,rfl,ha⟩:=ha;obtain ⟨rfl,rfl⟩:=zE ha;clear ha
 go_enter Tryz.func268,Tryz.ntmps268
 go_wp2
 exact bodyPost_ret (v:=.agg #[.int .i64 x.src,.int .i64 x.dst]) (by simp [results,Tryz.results268,go_sem]) rfl ⟨_,[],rfl,⟨_,rfl,jz2 _ _ _⟩,Fresh.nil _,by repeat (first|(with_reducible exact Below.refl _ _)|(with_reducible assumption)|((with_reducible refine Below.alloc ?_ ?_ _);rotate_left;focus (simp;try omega))|((with_reducible refine Below.setCell ?_ ?_ _);rotate_left;focus (simp;try omega))|(with_reducible refine jD ?_ (by assumption)))⟩
theorem juX (l:List (Ed)) (a:Value) (S:List Nat) (w:World) (own:Bool) (ha:Rep w own (ju l) a S) (hsz:l.length≤2000000):
 Calls Tryz.prog 204 #[a] w (jiM w (ju l)):=by
 obtain ⟨A,c,rfl,hc1,hc2,hca⟩:=Rep.open_ (size:=2) (enc:=jJ) (fun _=>rfl) (by decide) ha
 clear ha;have hszl:=hsz
 go_enter Tryz.func204,Tryz.ntmps204
 go_wp2_with (at_make;refine qN (enc:=jJ) rfl _ _ rfl slEd (⟨0,0⟩:Ed) zEd .i64 .i64 _ _ l.length rfl rfl rfl rfl (by omega) (by unfold maxLen;omega) ?_;intro w1 A1 hr1 hb1)
 go_loopw [4] (fun i wr=>∃k:Nat,k≤l.length∧i=.int .i64 k∧jDt jJ 2 tEd w (jhI l (⟨0,0⟩:Ed) k) (.slice A1 l.length l.length) wr) (fun i _=>l.length-(intOf i).toNat)
 case atStart=>exact ⟨0,by omega,rfl,[w.heap.size],by rw [jbO];exact hr1,Fresh.one _ _ (Nat.le_refl _),hb1⟩
 case round=>
  obtain ⟨k,hk,rfl,S1,hrep,hF,hbel⟩:=hrel;clear hr1 hb1;by_cases hlt:k<l.length
  ·obtain ⟨x,hx⟩:=je hlt
   obtain ⟨b1,o1,vk1,T1,rfl,-,hr1,-,-,hb1,hx1⟩:=hca k x hx;clear hca;have HX:=Lib.hid hx;clear hx;obtain ⟨rfl,rfl⟩:=zE hr1;obtain ⟨g,rfl,-,hg1,hg,-⟩:=Rep.head (enc:=jJ) (size:=2) (xs:=jhI l (⟨0,0⟩:Ed) k) (fun _=>rfl) (by decide) hrep (by rw [vK _ _ _ hk];omega)
   ·skip
    have p0:=(hbel.cell (p:=⟨b1,o1+k*2,none⟩) hb1).trans (hx1 0 _ rfl:w.cell? ⟨b1,o1+k*2,none⟩=_);have p1:=(hbel.cell (p:=⟨b1,o1+k*2+1,none⟩) hb1).trans (hx1 1 _ rfl:w.cell? ⟨b1,o1+k*2+1,none⟩=_);clear hx1
    go_wp2_with (first
    |(go_at_call 268;refine (jyp x _ _ _ _ ⟨_,rfl,hr1.below hbel (Nat.le_refl _)⟩).mono ?_;rintro e w2 ⟨_,Sx,rfl,⟨vsx,rfl,hrx⟩,hFx,hb2⟩)
    |((with_reducible refine jhh 253 21 20 ?_);refine vh (enc:=jJ) (size:=2) (xs:=jhI l (⟨0,0⟩:Ed) k) rfl _ _ _ rfl (fun _=>rfl) (by decide) szEd jxh (hrep.below hb2 (Nat.le_refl _)) (k:=k) (by rw [vK _ _ _ hk];omega) rfl rfl _ rfl x (by simpa using hrx) w.heap.size (Fresh.join hF hFx hbel.size (fun s hs=>Rep.lt _ hrep s hs)) ?_;intro S' hr' hF' ho' _ _))
    go_roundw
    case rel=>
     rw [jd6 HX.out] at hr';refine ⟨k+1,by omega,by go_num,S',hr',hF',?_⟩
     exact (jD hbel hb2).trans (ho'.below (by simpa using hF.2 g hg1) (Nat.le_trans hbel.size hb2.size))
    case measure=>simp [intOf];omega
  ·obtain rfl:k=l.length:=by omega
   clear hca
   go_wp2
   go_ret
   exact ⟨_,S1,rfl,by rw [jd7] at hrep;exact hrep,hF,hbel⟩
theorem jrx (x:Pl) (a:Value) (S:List Nat) (w:World) (own:Bool) (ha:AggRep w own (ja x) a S) (hsz:jah x≤2000000):
 Calls Tryz.prog 116 #[a] w (jiO w (ja x)):=by
 obtain ⟨_,rfl,ha⟩:=ha;obtain ⟨av0,rfl,ah0⟩:=zd ha;clear ha;have hsz1:x.edges.length≤2000000:=by simp only [jah] at hsz;omega
 go_enter Tryz.func116,Tryz.ntmps116
 go_wp2_with (first
  |(go_at_call 204;refine (juX x.edges _ _ _ _ (ah0.below (by repeat (first|(with_reducible exact Below.refl _ _)|(with_reducible assumption)|((with_reducible refine Below.alloc ?_ ?_ _);rotate_left;focus (simp;try omega))|((with_reducible refine Below.setCell ?_ ?_ _);rotate_left;focus (simp;try omega))|(with_reducible refine jD ?_ (by assumption)))) (Nat.le_refl _)) hsz1).mono ?_;rintro e w1 ⟨r1v0,S1,rfl,r1h0,hF1,hb1⟩;obtain ⟨r1v0A,r1v0n,r1v0c,rfl⟩:=Rep.form r1h0;obtain ⟨hc1,hf1⟩:=qo hb1;(have hz1:=hb1.size);simp at hz1;(have hx1:=(by omega:w.heap.size<w1.heap.size));(have hy1:=(by omega:w.heap.size+1<w1.heap.size));(have hw1:=(by omega:w.heap.size+1+1<w1.heap.size))))
 refine bodyPost_ret (v:=.agg #[.int .i64 x.prio,.int .i64 x.most,.int .i64 x.wait,.int .i64 x.tasks,.slice r1v0A r1v0n r1v0c]) (by simp [results,Tryz.results116,go_sem,hc1]) rfl ?_
 simp at hF1;refine ⟨_,S1,rfl,⟨_,rfl,jhy ?_⟩,?_,?_⟩
 ·repeat (first|(with_reducible exact r1h0)|((with_reducible refine jd3 ?_ ?_);rotate_left;focus (intro b hb;have:=hF1.2 b hb;simp;try omega))|(with_reducible refine Rep.below ?_ (by assumption) (Nat.le_refl _)))
 ·exact hF1.mono (by omega)
 ·repeat (first|(with_reducible exact Below.refl _ _)|(with_reducible assumption)|((with_reducible refine Below.alloc ?_ ?_ _);rotate_left;focus (simp;try omega))|((with_reducible refine Below.setCell ?_ ?_ _);rotate_left;focus (simp;try omega))|(with_reducible refine jD ?_ (by assumption)))
theorem juW (x:En) (a:Value) (S:List Nat) (w:World) (own:Bool) (ha:AggRep w own (jf x) a S):
 Calls Tryz.prog 266 #[a] w (jiO w (jf x)):=by
 obtain ⟨_,rfl,ha⟩:=ha;obtain ⟨rfl,rfl⟩:=qM ha;clear ha
 go_enter Tryz.func266,Tryz.ntmps266
 go_wp2
 exact bodyPost_ret (v:=.agg #[.int .i64 x.prio,.int .i64 x.seq,.int .i64 x.run,.int .i64 x.task]) (by simp [results,Tryz.results266,go_sem]) rfl ⟨_,[],rfl,⟨_,rfl,jlK _ _ _⟩,Fresh.nil _,by repeat (first|(with_reducible exact Below.refl _ _)|(with_reducible assumption)|((with_reducible refine Below.alloc ?_ ?_ _);rotate_left;focus (simp;try omega))|((with_reducible refine Below.setCell ?_ ?_ _);rotate_left;focus (simp;try omega))|(with_reducible refine jD ?_ (by assumption)))⟩
theorem jsV (l:List (En)) (a:Value) (S:List Nat) (w:World) (own:Bool) (ha:Rep w own (jk l) a S) (hsz:l.length≤2000000):
 Calls Tryz.prog 202 #[a] w (jiM w (jk l)):=by
 obtain ⟨A,c,rfl,hc1,hc2,hca⟩:=Rep.open_ (size:=4) (enc:=jf) (fun _=>rfl) (by decide) ha
 clear ha;have hszl:=hsz
 go_enter Tryz.func202,Tryz.ntmps202
 go_wp2_with (at_make;refine qN (enc:=jf) rfl _ _ rfl slEn (⟨0,0,0,0⟩:En) zEn .i64 .i64 _ _ l.length rfl rfl rfl rfl (by omega) (by unfold maxLen;omega) ?_;intro w1 A1 hr1 hb1)
 go_loopw [4] (fun i wr=>∃k:Nat,k≤l.length∧i=.int .i64 k∧jDt jf 4 tEn w (jhI l (⟨0,0,0,0⟩:En) k) (.slice A1 l.length l.length) wr) (fun i _=>l.length-(intOf i).toNat)
 case atStart=>exact ⟨0,by omega,rfl,[w.heap.size],by rw [jbO];exact hr1,Fresh.one _ _ (Nat.le_refl _),hb1⟩
 case round=>
  obtain ⟨k,hk,rfl,S1,hrep,hF,hbel⟩:=hrel;clear hr1 hb1;by_cases hlt:k<l.length
  ·obtain ⟨x,hx⟩:=je hlt
   obtain ⟨b1,o1,vk1,T1,rfl,-,hr1,-,-,hb1,hx1⟩:=hca k x hx;clear hca;have HX:=Lib.hid hx;clear hx;obtain ⟨rfl,rfl⟩:=qM hr1;obtain ⟨g,rfl,-,hg1,hg,-⟩:=Rep.head (enc:=jf) (size:=4) (xs:=jhI l (⟨0,0,0,0⟩:En) k) (fun _=>rfl) (by decide) hrep (by rw [vK _ _ _ hk];omega)
   ·skip
    have p0:=(hbel.cell (p:=⟨b1,o1+k*4,none⟩) hb1).trans (hx1 0 _ rfl:w.cell? ⟨b1,o1+k*4,none⟩=_);have p1:=(hbel.cell (p:=⟨b1,o1+k*4+1,none⟩) hb1).trans (hx1 1 _ rfl:w.cell? ⟨b1,o1+k*4+1,none⟩=_);have p2:=(hbel.cell (p:=⟨b1,o1+k*4+2,none⟩) hb1).trans (hx1 2 _ rfl:w.cell? ⟨b1,o1+k*4+2,none⟩=_);have p3:=(hbel.cell (p:=⟨b1,o1+k*4+3,none⟩) hb1).trans (hx1 3 _ rfl:w.cell? ⟨b1,o1+k*4+3,none⟩=_);clear hx1
    go_wp2_with (first
    |(go_at_call 266;refine (juW x _ _ _ _ ⟨_,rfl,hr1.below hbel (Nat.le_refl _)⟩).mono ?_;rintro e w2 ⟨_,Sx,rfl,⟨vsx,rfl,hrx⟩,hFx,hb2⟩)
    |((with_reducible refine jhh 111 21 20 ?_);refine vh (enc:=jf) (size:=4) (xs:=jhI l (⟨0,0,0,0⟩:En) k) rfl _ _ _ rfl (fun _=>rfl) (by decide) jDL jpv (hrep.below hb2 (Nat.le_refl _)) (k:=k) (by rw [vK _ _ _ hk];omega) rfl rfl _ rfl x (by simpa using hrx) w.heap.size (Fresh.join hF hFx hbel.size (fun s hs=>Rep.lt _ hrep s hs)) ?_;intro S' hr' hF' ho' _ _))
    go_roundw
    case rel=>
     rw [jd6 HX.out] at hr';refine ⟨k+1,by omega,by go_num,S',hr',hF',?_⟩
     exact (jD hbel hb2).trans (ho'.below (by simpa using hF.2 g hg1) (Nat.le_trans hbel.size hb2.size))
    case measure=>simp [intOf];omega
  ·obtain rfl:k=l.length:=by omega
   clear hca
   go_wp2
   go_ret
   exact ⟨_,S1,rfl,by rw [jd7] at hrep;exact hrep,hF,hbel⟩
theorem jp6 (l:List (List En)) (a:Value) (S:List Nat) (w:World) (own:Bool) (ha:Rep w own (kj l) a S) (hsz:vP l≤2000000):
 Calls Tryz.prog 114 #[a] w (jiM w (kj l)):=by
 obtain ⟨A,c,rfl,hc1,hc2,hca⟩:=Rep.open_ (size:=1) (enc:=(fun es=>[jk es])) (fun _=>rfl) (by decide) ha
 clear ha;have hszl:l.length≤2000000:=by simp only [vP] at hsz;omega
 go_enter Tryz.func114,Tryz.ntmps114
 go_wp2_with (at_make;refine qN (enc:=(fun es=>[jk es])) rfl _ _ rfl slEnS ([]:List En) zEnS .i64 .i64 _ _ l.length rfl rfl rfl rfl (by omega) (by unfold maxLen;omega) ?_;intro w1 A1 hr1 hb1)
 go_loopw [4] (fun i wr=>∃k:Nat,k≤l.length∧i=.int .i64 k∧jDt (fun es=>[jk es]) 1 jn2 w (jhI l ([]:List En) k) (.slice A1 l.length l.length) wr) (fun i _=>l.length-(intOf i).toNat)
 case atStart=>exact ⟨0,by omega,rfl,[w.heap.size],by rw [jbO];exact hr1,Fresh.one _ _ (Nat.le_refl _),hb1⟩
 case round=>
  obtain ⟨k,hk,rfl,S1,hrep,hF,hbel⟩:=hrel;clear hr1 hb1;by_cases hlt:k<l.length
  ·obtain ⟨x,hx⟩:=je hlt
   obtain ⟨b1,o1,vk1,T1,rfl,-,hr1,-,-,hb1,hx1⟩:=hca k x hx;clear hca;have HX:=Lib.hid hx;clear hx;obtain ⟨au,_,aS0,aS1,rfl,rfl,ah0,rfl,rfl⟩:=hr1;obtain ⟨g,rfl,-,hg1,hg,-⟩:=Rep.head (enc:=(fun es=>[jk es])) (size:=1) (xs:=jhI l ([]:List En) k) (fun _=>rfl) (by decide) hrep (by rw [vK _ _ _ hk];omega)
   ·skip
    have hszx:kH x≤2000000:=by have:=jmJ (tot:=kH) HX.out;simp only [vP] at hsz;omega
    have p0:=(hbel.cell (p:=⟨b1,o1+k,none⟩) hb1).trans (by simpa using hx1 0 _ rfl:w.cell? ⟨b1,o1+k,none⟩=_)
    clear hx1
    go_wp2_with (first
    |(go_at_call 202;refine (jsV x _ _ _ _ (ah0.below hbel (Nat.le_refl _)) (by simpa [kH] using hszx)).mono ?_;rintro e w2 ⟨_,Sx,rfl,hrx,hFx,hb2⟩;obtain ⟨rA,rn,rc,rfl⟩:=Rep.form hrx;obtain ⟨hcx,hfx⟩:=jzd (enc:=(fun es=>[jk es])) (xs:=jhI l ([]:List En) k) (fun _=>rfl) (hrep.below hb2 (Nat.le_refl _)) (by rw [vK _ _ _ hk];omega);obtain ⟨ux,hcx⟩:=hcx))
    go_roundw
    case rel=>
     obtain ⟨S',hr',hF',ho',_,_⟩:=Rep.setElem (enc:=(fun es=>[jk es])) (size:=1) (fun _=>rfl) (by decide) (hrep.below hb2 (Nat.le_refl _)) (by rw [vK _ _ _ hk];omega) (RepL.cons_ hrx RepL.nil_) (Fresh.join hF (by simpa using hFx) hbel.size (fun s hs=>Rep.lt _ hrep s hs))
     rw [Nat.mul_one,jd6 HX.out] at hr';rw [Nat.mul_one] at ho';refine ⟨k+1,by omega,by go_num,S',hr',hF',?_⟩
     exact (jD hbel hb2).trans (ho'.below (by simpa using hF.2 g hg1) (Nat.le_trans hbel.size hb2.size))
    case measure=>simp [intOf];omega
  ·obtain rfl:k=l.length:=by omega
   clear hca
   go_wp2
   go_ret
   exact ⟨_,S1,rfl,by rw [jd7] at hrep;exact hrep,hF,hbel⟩
theorem jyn (x:Tk) (a:Value) (S:List Nat) (w:World) (own:Bool) (ha:AggRep w own (jo x) a S):
 Calls Tryz.prog 285 #[a] w (jiO w (jo x)):=by
 obtain ⟨_,rfl,ha⟩:=ha;obtain ⟨rfl,rfl⟩:=qX ha;clear ha
 go_enter Tryz.func285,Tryz.ntmps285
 go_wp2
 exact bodyPost_ret (v:=.agg #[.int .i64 x.state,.int .i64 x.need,.int .i64 x.tri,.int .i64 x.til]) (by simp [results,Tryz.results285,go_sem]) rfl ⟨_,[],rfl,⟨_,rfl,jsW _ _ _⟩,Fresh.nil _,by repeat (first|(with_reducible exact Below.refl _ _)|(with_reducible assumption)|((with_reducible refine Below.alloc ?_ ?_ _);rotate_left;focus (simp;try omega))|((with_reducible refine Below.setCell ?_ ?_ _);rotate_left;focus (simp;try omega))|(with_reducible refine jD ?_ (by assumption)))⟩
theorem juV (l:List (Tk)) (a:Value) (S:List Nat) (w:World) (own:Bool) (ha:Rep w own (jy l) a S) (hsz:l.length≤2000000):
 Calls Tryz.prog 267 #[a] w (jiM w (jy l)):=by
 obtain ⟨A,c,rfl,hc1,hc2,hca⟩:=Rep.open_ (size:=4) (enc:=jo) (fun _=>rfl) (by decide) ha
 clear ha;have hszl:=hsz
 go_enter Tryz.func267,Tryz.ntmps267
 go_wp2_with (at_make;refine qN (enc:=jo) rfl _ _ rfl slTk (⟨0,0,0,0⟩:Tk) zTk .i64 .i64 _ _ l.length rfl rfl rfl rfl (by omega) (by unfold maxLen;omega) ?_;intro w1 A1 hr1 hb1)
 go_loopw [4] (fun i wr=>∃k:Nat,k≤l.length∧i=.int .i64 k∧jDt jo 4 tTk w (jhI l (⟨0,0,0,0⟩:Tk) k) (.slice A1 l.length l.length) wr) (fun i _=>l.length-(intOf i).toNat)
 case atStart=>exact ⟨0,by omega,rfl,[w.heap.size],by rw [jbO];exact hr1,Fresh.one _ _ (Nat.le_refl _),hb1⟩
 case round=>
  obtain ⟨k,hk,rfl,S1,hrep,hF,hbel⟩:=hrel;clear hr1 hb1;by_cases hlt:k<l.length
  ·obtain ⟨x,hx⟩:=je hlt
   obtain ⟨b1,o1,vk1,T1,rfl,-,hr1,-,-,hb1,hx1⟩:=hca k x hx;clear hca;have HX:=Lib.hid hx;clear hx;obtain ⟨rfl,rfl⟩:=qX hr1;obtain ⟨g,rfl,-,hg1,hg,-⟩:=Rep.head (enc:=jo) (size:=4) (xs:=jhI l (⟨0,0,0,0⟩:Tk) k) (fun _=>rfl) (by decide) hrep (by rw [vK _ _ _ hk];omega)
   ·skip
    have p0:=(hbel.cell (p:=⟨b1,o1+k*4,none⟩) hb1).trans (hx1 0 _ rfl:w.cell? ⟨b1,o1+k*4,none⟩=_);have p1:=(hbel.cell (p:=⟨b1,o1+k*4+1,none⟩) hb1).trans (hx1 1 _ rfl:w.cell? ⟨b1,o1+k*4+1,none⟩=_);have p2:=(hbel.cell (p:=⟨b1,o1+k*4+2,none⟩) hb1).trans (hx1 2 _ rfl:w.cell? ⟨b1,o1+k*4+2,none⟩=_);have p3:=(hbel.cell (p:=⟨b1,o1+k*4+3,none⟩) hb1).trans (hx1 3 _ rfl:w.cell? ⟨b1,o1+k*4+3,none⟩=_);clear hx1
    go_wp2_with (first
    |(go_at_call 285;refine (jyn x _ _ _ _ ⟨_,rfl,hr1.below hbel (Nat.le_refl _)⟩).mono ?_;rintro e w2 ⟨_,Sx,rfl,⟨vsx,rfl,hrx⟩,hFx,hb2⟩)
    |((with_reducible refine jhh 172 21 20 ?_);refine vh (enc:=jo) (size:=4) (xs:=jhI l (⟨0,0,0,0⟩:Tk) k) rfl _ _ _ rfl (fun _=>rfl) (by decide) szTk jxe (hrep.below hb2 (Nat.le_refl _)) (k:=k) (by rw [vK _ _ _ hk];omega) rfl rfl _ rfl x (by simpa using hrx) w.heap.size (Fresh.join hF hFx hbel.size (fun s hs=>Rep.lt _ hrep s hs)) ?_;intro S' hr' hF' ho' _ _))
    go_roundw
    case rel=>
     rw [jd6 HX.out] at hr';refine ⟨k+1,by omega,by go_num,S',hr',hF',?_⟩
     exact (jD hbel hb2).trans (ho'.below (by simpa using hF.2 g hg1) (Nat.le_trans hbel.size hb2.size))
    case measure=>simp [intOf];omega
  ·obtain rfl:k=l.length:=by omega
   clear hca
   go_wp2
   go_ret
   exact ⟨_,S1,rfl,by rw [jd7] at hrep;exact hrep,hF,hbel⟩
theorem jBp (x:Rn) (a:Value) (S:List Nat) (w:World) (own:Bool) (ha:AggRep w own (jd x) a S) (hsz:kq x≤2000000):
 Calls Tryz.prog 203 #[a] w (jiO w (jd x)):=by
 obtain ⟨_,rfl,ha⟩:=ha;obtain ⟨av0,av1,aS0,aS1,rfl,ah0,ah1,rfl⟩:=kr ha;clear ha;have hsz1:jah x.plan≤2000000:=by simp only [kq] at hsz;omega
 have hsz2:x.tasks.length≤2000000:=by simp only [kq] at hsz;omega
 go_enter Tryz.func203,Tryz.ntmps203
 go_wp2_with (first
  |(go_at_call 116;refine (jrx x.plan _ _ _ _ ⟨_,rfl,jhy (ah0.below (by repeat (first|(with_reducible exact Below.refl _ _)|(with_reducible assumption)|((with_reducible refine Below.alloc ?_ ?_ _);rotate_left;focus (simp;try omega))|((with_reducible refine Below.setCell ?_ ?_ _);rotate_left;focus (simp;try omega))|(with_reducible refine jD ?_ (by assumption)))) (Nat.le_refl _))⟩ hsz1).mono ?_;rintro e w1 ⟨_,S1,rfl,⟨_,rfl,hr1⟩,hF1,hb1⟩;obtain ⟨r1v0,rfl,r1h0⟩:=zd hr1;obtain ⟨r1v0A,r1v0n,r1v0c,rfl⟩:=Rep.form r1h0;obtain ⟨hc1,hf1⟩:=qo hb1;(have hz1:=hb1.size);simp at hz1;(have hx1:=(by omega:w.heap.size<w1.heap.size));(have hy1:=(by omega:w.heap.size+1<w1.heap.size));(have hw1:=(by omega:w.heap.size+1+1<w1.heap.size)))
  |(go_at_call 267;refine (juV x.tasks _ _ _ _ (ah1.below (by repeat (first|(with_reducible exact Below.refl _ _)|(with_reducible assumption)|((with_reducible refine Below.alloc ?_ ?_ _);rotate_left;focus (simp;try omega))|((with_reducible refine Below.setCell ?_ ?_ _);rotate_left;focus (simp;try omega))|(with_reducible refine jD ?_ (by assumption)))) (Nat.le_refl _)) hsz2).mono ?_;rintro e w2 ⟨r2v0,S2,rfl,r2h0,hF2,hb2⟩;obtain ⟨r2v0A,r2v0n,r2v0c,rfl⟩:=Rep.form r2h0;obtain ⟨hc2,hf2⟩:=qo hb2;(have hz2:=hb2.size);simp at hz2;(have hx2:=(by omega:w.heap.size<w2.heap.size));(have hy2:=(by omega:w.heap.size+1<w2.heap.size));(have hw2:=(by omega:w.heap.size+1+1<w2.heap.size))))
 refine bodyPost_ret (v:=.agg #[.int .i64 x.id,.int .i64 x.plan.prio,.int .i64 x.plan.most,.int .i64 x.plan.wait,.int .i64 x.plan.tasks,.slice r1v0A r1v0n r1v0c,.int .i64 x.state,.slice r2v0A r2v0n r2v0c]) (by simp [results,Tryz.results203,go_sem,hc1,hc2,hy1]) rfl ?_
 simp at hF1;simp at hF2;refine ⟨_,S1++S2,rfl,⟨_,rfl,jlp ?_ ?_⟩,?_,?_⟩
 ·repeat (first|(with_reducible exact r1h0)|((with_reducible refine jd3 ?_ ?_);rotate_left;focus (intro b hb;have:=hF1.2 b hb;simp;try omega))|(with_reducible refine Rep.below ?_ (by assumption) (Nat.le_refl _)))
 ·repeat (first|(with_reducible exact r2h0)|((with_reducible refine jd3 ?_ ?_);rotate_left;focus (intro b hb;have:=hF2.2 b hb;simp;try omega))|(with_reducible refine Rep.below ?_ (by assumption) (Nat.le_refl _)))
 ·exact Fresh.join (hF1.mono (by omega)) hF2 (by omega) (fun s hs=>Rep.lt _ r1h0 s hs)
 ·repeat (first|(with_reducible exact Below.refl _ _)|(with_reducible assumption)|((with_reducible refine Below.alloc ?_ ?_ _);rotate_left;focus (simp;try omega))|((with_reducible refine Below.setCell ?_ ?_ _);rotate_left;focus (simp;try omega))|(with_reducible refine jD ?_ (by assumption)))
theorem jyo (l:List (Rn)) (a:Value) (S:List Nat) (w:World) (own:Bool) (ha:Rep w own (jN l) a S) (hsz:qx l≤2000000):
 Calls Tryz.prog 115 #[a] w (jiM w (jN l)):=by
 obtain ⟨A,c,rfl,hc1,hc2,hca⟩:=Rep.open_ (size:=8) (enc:=jd) (fun _=>rfl) (by decide) ha
 clear ha;have hszl:l.length≤2000000:=by simp only [qx] at hsz;omega
 go_enter Tryz.func115,Tryz.ntmps115
 go_wp2_with (at_make;refine qN (enc:=jd) rfl _ _ rfl slRn (⟨0,⟨0,0,0,0,[]⟩,0,[]⟩:Rn) zRn .i64 .i64 _ _ l.length rfl rfl rfl rfl (by omega) (by unfold maxLen;omega) ?_;intro w1 A1 hr1 hb1)
 go_loopw [4] (fun i wr=>∃k:Nat,k≤l.length∧i=.int .i64 k∧jDt jd 8 tRn w (jhI l (⟨0,⟨0,0,0,0,[]⟩,0,[]⟩:Rn) k) (.slice A1 l.length l.length) wr) (fun i _=>l.length-(intOf i).toNat)
 case atStart=>exact ⟨0,by omega,rfl,[w.heap.size],by rw [jbO];exact hr1,Fresh.one _ _ (Nat.le_refl _),hb1⟩
 case round=>
  obtain ⟨k,hk,rfl,S1,hrep,hF,hbel⟩:=hrel;clear hr1 hb1;by_cases hlt:k<l.length
  ·obtain ⟨x,hx⟩:=je hlt
   obtain ⟨b1,o1,vk1,T1,rfl,-,hr1,-,-,hb1,hx1⟩:=hca k x hx;clear hca;have HX:=Lib.hid hx;clear hx;obtain ⟨av0,av1,aS0,aS1,rfl,ah0,ah1,rfl⟩:=kr hr1;obtain ⟨g,rfl,-,hg1,hg,-⟩:=Rep.head (enc:=jd) (size:=8) (xs:=jhI l (⟨0,⟨0,0,0,0,[]⟩,0,[]⟩:Rn) k) (fun _=>rfl) (by decide) hrep (by rw [vK _ _ _ hk];omega)
   ·skip
    have hszx:kq x≤2000000:=by have:=jmJ (tot:=kq) HX.out;simp only [qx] at hsz;omega
    have p0:=(hbel.cell (p:=⟨b1,o1+k*8,none⟩) hb1).trans (hx1 0 _ rfl:w.cell? ⟨b1,o1+k*8,none⟩=_);have p1:=(hbel.cell (p:=⟨b1,o1+k*8+1,none⟩) hb1).trans (hx1 1 _ rfl:w.cell? ⟨b1,o1+k*8+1,none⟩=_);have p2:=(hbel.cell (p:=⟨b1,o1+k*8+2,none⟩) hb1).trans (hx1 2 _ rfl:w.cell? ⟨b1,o1+k*8+2,none⟩=_);have p3:=(hbel.cell (p:=⟨b1,o1+k*8+3,none⟩) hb1).trans (hx1 3 _ rfl:w.cell? ⟨b1,o1+k*8+3,none⟩=_);have p4:=(hbel.cell (p:=⟨b1,o1+k*8+4,none⟩) hb1).trans (hx1 4 _ rfl:w.cell? ⟨b1,o1+k*8+4,none⟩=_);have p5:=(hbel.cell (p:=⟨b1,o1+k*8+5,none⟩) hb1).trans (hx1 5 _ rfl:w.cell? ⟨b1,o1+k*8+5,none⟩=_);have p6:=(hbel.cell (p:=⟨b1,o1+k*8+6,none⟩) hb1).trans (hx1 6 _ rfl:w.cell? ⟨b1,o1+k*8+6,none⟩=_);have p7:=(hbel.cell (p:=⟨b1,o1+k*8+7,none⟩) hb1).trans (hx1 7 _ rfl:w.cell? ⟨b1,o1+k*8+7,none⟩=_);clear hx1
    go_wp2_with (first
    |(go_at_call 203;refine (jBp x _ _ _ _ ⟨_,rfl,hr1.below hbel (Nat.le_refl _)⟩ hszx).mono ?_;rintro e w2 ⟨_,Sx,rfl,⟨vsx,rfl,hrx⟩,hFx,hb2⟩)
    |((with_reducible refine jhh 108 21 20 ?_);refine vh (enc:=jd) (size:=8) (xs:=jhI l (⟨0,⟨0,0,0,0,[]⟩,0,[]⟩:Rn) k) rfl _ _ _ rfl (fun _=>rfl) (by decide) szRn jxf (hrep.below hb2 (Nat.le_refl _)) (k:=k) (by rw [vK _ _ _ hk];omega) rfl rfl _ rfl x (by simpa using hrx) w.heap.size (Fresh.join hF hFx hbel.size (fun s hs=>Rep.lt _ hrep s hs)) ?_;intro S' hr' hF' ho' _ _))
    go_roundw
    case rel=>
     rw [jd6 HX.out] at hr';refine ⟨k+1,by omega,by go_num,S',hr',hF',?_⟩
     exact (jD hbel hb2).trans (ho'.below (by simpa using hF.2 g hg1) (Nat.le_trans hbel.size hb2.size))
    case measure=>simp [intOf];omega
  ·obtain rfl:k=l.length:=by omega
   clear hca
   go_wp2
   go_ret
   exact ⟨_,S1,rfl,by rw [jd7] at hrep;exact hrep,hF,hbel⟩
theorem jym (x:Yd) (a:Value) (S:List Nat) (w:World) (own:Bool) (ha:AggRep w own (jb x) a S) (hsz:jt x≤2000000):
 Calls Tryz.prog 31 #[a] w (jiO w (jb x)):=by
 obtain ⟨_,rfl,ha⟩:=ha;obtain ⟨av0,av1,aS0,aS1,rfl,ah0,ah1,rfl⟩:=qv ha;clear ha;have hsz1:vP x.shelf≤2000000:=by simp only [jt] at hsz;omega
 have hsz2:qx x.runs≤2000000:=by simp only [jt] at hsz;omega
 go_enter Tryz.func31,Tryz.ntmps31
 go_wp2_with (first
  |(go_at_call 114;refine (jp6 x.shelf _ _ _ _ (ah0.below (by repeat (first|(with_reducible exact Below.refl _ _)|(with_reducible assumption)|((with_reducible refine Below.alloc ?_ ?_ _);rotate_left;focus (simp;try omega))|((with_reducible refine Below.setCell ?_ ?_ _);rotate_left;focus (simp;try omega))|(with_reducible refine jD ?_ (by assumption)))) (Nat.le_refl _)) hsz1).mono ?_;rintro e w1 ⟨r1v0,S1,rfl,r1h0,hF1,hb1⟩;obtain ⟨r1v0A,r1v0n,r1v0c,rfl⟩:=Rep.form r1h0;obtain ⟨hc1,hf1⟩:=qo hb1;(have hz1:=hb1.size);simp at hz1;(have hx1:=(by omega:w.heap.size<w1.heap.size));(have hy1:=(by omega:w.heap.size+1<w1.heap.size));(have hw1:=(by omega:w.heap.size+1+1<w1.heap.size)))
  |(go_at_call 115;refine (jyo x.runs _ _ _ _ (ah1.below (by repeat (first|(with_reducible exact Below.refl _ _)|(with_reducible assumption)|((with_reducible refine Below.alloc ?_ ?_ _);rotate_left;focus (simp;try omega))|((with_reducible refine Below.setCell ?_ ?_ _);rotate_left;focus (simp;try omega))|(with_reducible refine jD ?_ (by assumption)))) (Nat.le_refl _)) hsz2).mono ?_;rintro e w2 ⟨r2v0,S2,rfl,r2h0,hF2,hb2⟩;obtain ⟨r2v0A,r2v0n,r2v0c,rfl⟩:=Rep.form r2h0;obtain ⟨hc2,hf2⟩:=qo hb2;(have hz2:=hb2.size);simp at hz2;(have hx2:=(by omega:w.heap.size<w2.heap.size));(have hy2:=(by omega:w.heap.size+1<w2.heap.size));(have hw2:=(by omega:w.heap.size+1+1<w2.heap.size))))
 refine bodyPost_ret (v:=.agg #[.int .i64 x.now,.int .i64 x.seq,.slice r1v0A r1v0n r1v0c,.slice r2v0A r2v0n r2v0c]) (by simp [results,Tryz.results31,go_sem,hc1,hc2,hy1]) rfl ?_
 simp at hF1;simp at hF2;refine ⟨_,S1++S2,rfl,⟨_,rfl,ja9 ?_ ?_⟩,?_,?_⟩
 ·repeat (first|(with_reducible exact r1h0)|((with_reducible refine jd3 ?_ ?_);rotate_left;focus (intro b hb;have:=hF1.2 b hb;simp;try omega))|(with_reducible refine Rep.below ?_ (by assumption) (Nat.le_refl _)))
 ·repeat (first|(with_reducible exact r2h0)|((with_reducible refine jd3 ?_ ?_);rotate_left;focus (intro b hb;have:=hF2.2 b hb;simp;try omega))|(with_reducible refine Rep.below ?_ (by assumption) (Nat.le_refl _)))
 ·exact Fresh.join (hF1.mono (by omega)) hF2 (by omega) (fun s hs=>Rep.lt _ r1h0 s hs)
 ·repeat (first|(with_reducible exact Below.refl _ _)|(with_reducible assumption)|((with_reducible refine Below.alloc ?_ ?_ _);rotate_left;focus (simp;try omega))|((with_reducible refine Below.setCell ?_ ?_ _);rotate_left;focus (simp;try omega))|(with_reducible refine jD ?_ (by assumption)))
theorem jyq (x:Dd) (a:Value) (S:List Nat) (w:World) (own:Bool) (ha:AggRep w own (jg x) a S) (hsz:zn x≤2000000):
 Calls Tryz.prog 32 #[a] w (jiO w (jg x)):=by
 obtain ⟨_,rfl,ha⟩:=ha;obtain ⟨av0,rfl,ah0⟩:=kM ha;clear ha;have hsz1:jah x.plan≤2000000:=by simp only [zn] at hsz;omega
 go_enter Tryz.func32,Tryz.ntmps32
 go_wp2_with (first
  |(go_at_call 116;refine (jrx x.plan _ _ _ _ ⟨_,rfl,jhy (ah0.below (by repeat (first|(with_reducible exact Below.refl _ _)|(with_reducible assumption)|((with_reducible refine Below.alloc ?_ ?_ _);rotate_left;focus (simp;try omega))|((with_reducible refine Below.setCell ?_ ?_ _);rotate_left;focus (simp;try omega))|(with_reducible refine jD ?_ (by assumption)))) (Nat.le_refl _))⟩ hsz1).mono ?_;rintro e w1 ⟨_,S1,rfl,⟨_,rfl,hr1⟩,hF1,hb1⟩;obtain ⟨r1v0,rfl,r1h0⟩:=zd hr1;obtain ⟨r1v0A,r1v0n,r1v0c,rfl⟩:=Rep.form r1h0;obtain ⟨hc1,hf1⟩:=qo hb1;(have hz1:=hb1.size);simp at hz1;(have hx1:=(by omega:w.heap.size<w1.heap.size));(have hy1:=(by omega:w.heap.size+1<w1.heap.size));(have hw1:=(by omega:w.heap.size+1+1<w1.heap.size))))
 refine bodyPost_ret (v:=.agg #[.int .i64 x.kind,.int .i64 x.run,.int .i64 x.plan.prio,.int .i64 x.plan.most,.int .i64 x.plan.wait,.int .i64 x.plan.tasks,.slice r1v0A r1v0n r1v0c,.int .i64 x.task,.int .i64 x.tri,.int .i64 x.worker,.int .i64 x.draw]) (by simp [results,Tryz.results32,go_sem,hc1]) rfl ?_
 simp at hF1;refine ⟨_,S1,rfl,⟨_,rfl,jhL ?_⟩,?_,?_⟩
 ·repeat (first|(with_reducible exact r1h0)|((with_reducible refine jd3 ?_ ?_);rotate_left;focus (intro b hb;have:=hF1.2 b hb;simp;try omega))|(with_reducible refine Rep.below ?_ (by assumption) (Nat.le_refl _)))
 ·exact hF1.mono (by omega)
 ·repeat (first|(with_reducible exact Below.refl _ _)|(with_reducible assumption)|((with_reducible refine Below.alloc ?_ ?_ _);rotate_left;focus (simp;try omega))|((with_reducible refine Below.setCell ?_ ?_ _);rotate_left;focus (simp;try omega))|(with_reducible refine jD ?_ (by assumption)))
open Go.RowKit Go.Sort Go.BigFrame
theorem ci {P:Program} {f:FuncId} {args:Array Value} {w:World} {b b':Int} (h:Calls P f args w fun e w'=>e=.returned (.int .i64 b)∧Below w.heap.size w w') (hb:b=b'):Calls P f args w fun e w'=>e=.returned (.int .i64 b')∧Below w.heap.size w w':=by subst hb;exact h
section
variable {w w':World} {own:Bool} {d:D} {v:Value} {S:List Nat}
theorem upA (h:Rep w own d v S) (o:Obj):Rep (w.alloc o) own d v S:=Rep.keep d h fun b hb=>Below.heap_alloc w o b (Rep.lt d h b hb)
theorem up (h:Rep w own d v S) (hb:Below w.heap.size w w'):Rep w' own d v S:=h.below hb (Nat.le_refl _)
theorem upB {w0:World} (h:Below w0.heap.size w0 w) (o:Obj):Below w0.heap.size w0 (w.alloc o):=h.alloc h.size o
end
open Go.RowKit Go.Sort Go.BigFrame
theorem jid {w w1:World} {b o:Nat} {v:Value} (hB:Below w.heap.size w w1) (h:w.cell? ⟨b,o,none⟩=some v) (d:Nat) (os:Array Obj):(grow (redrawn w1 d) os).cell? ⟨b,o,none⟩=some v:=
 cell_regrown ((hB.cell (p:=⟨b,o,none⟩) (World.block_lt_of_cell? w _ h)).trans h) d os
theorem jx {w w1:World} {b o:Nat} {v:Value} (hB:Below w.heap.size w w1) (h:w.cell? ⟨b,o,none⟩=some v):w1.cell? ⟨b,o,none⟩=some v:=
 (hB.cell (p:=⟨b,o,none⟩) (World.block_lt_of_cell? w _ h)).trans h
def inb (n low high:Int):Bool:=decide (low≤n∧n≤high)
theorem jbj {n low high:Int} (h:low≤n∧n≤high):inb n low high=true:=decide_eq_true h
theorem vY {n low high:Int} (h:¬(low≤n∧n≤high)):inb n low high=false:=decide_eq_false h
theorem vm (a b c:Int) (w:World):Calls Tryz.prog 78 #[.int .i64 a,.int .i64 b,.int .i64 c] w fun e w'=>e=.returned (.bool (inb a b c))∧Below w.heap.size w w':=by
 by_cases h1:b≤a
 ·by_cases h2:a≤c
  ·have H:Hid (inb a b c=true):=jbj ⟨h1,h2⟩
   go_enter Tryz.func78,Tryz.ntmps78
   go_wp2
   go_ret
   exact ⟨jE H.out.symm,Below.refl _ _⟩
  ·have H:Hid (inb a b c=false):=vY fun h=>h2 h.2
   go_enter Tryz.func78,Tryz.ntmps78
   go_wp2
   go_ret
   exact ⟨jE H.out.symm,Below.refl _ _⟩
 ·have H:Hid (inb a b c=false):=vY fun h=>h1 h.1
  go_enter Tryz.func78,Tryz.ntmps78
  go_wp2
  go_ret
  exact ⟨jE H.out.symm,Below.refl _ _⟩
theorem zZ (a b c:Int) (w:World):Calls Tryz.prog 74 #[.int .i64 a,.int .i64 b,.int .i64 c] w fun e w'=>e=.returned (.bool (inb a b c))∧Below w.heap.size w w':=by
 by_cases h1:b≤a
 ·by_cases h2:a≤c
  ·have H:Hid (inb a b c=true):=jbj ⟨h1,h2⟩
   go_enter Tryz.func74,Tryz.ntmps74
   go_wp2
   go_ret
   exact ⟨jE H.out.symm,Below.refl _ _⟩
  ·have H:Hid (inb a b c=false):=vY fun h=>h2 h.2
   go_enter Tryz.func74,Tryz.ntmps74
   go_wp2
   go_ret
   exact ⟨jE H.out.symm,Below.refl _ _⟩
 ·have H:Hid (inb a b c=false):=vY fun h=>h1 h.1
  go_enter Tryz.func74,Tryz.ntmps74
  go_wp2
  go_ret
  exact ⟨jE H.out.symm,Below.refl _ _⟩
theorem jnB (y:Yd) (e:En) (a b:Value) (S S':List Nat) (w:World) (own own':Bool) (ha:AggRep w own (jb y) a S) (hb:AggRep w own' (jf e) b S'):
 Calls Tryz.prog 57 #[a,b] w fun e1 w'=>e1=.returned (.bool (kD y e))∧Below w.heap.size w w':=by
 obtain ⟨_,rfl,ha⟩:=ha;obtain ⟨_,rfl,hb⟩:=hb;obtain ⟨rfl,rfl⟩:=qM hb;obtain ⟨sv,rv,S1,S2,rfl,ah0,ah1,rfl⟩:=qv ha;clear ha hb;rcases zh y e.run e.task with ⟨hr,ht⟩|⟨k,r,hr,hx,⟨hno,ht⟩|⟨j,t,hj,htx,ht⟩⟩
 ·have HR:=Lib.hid hr
  have HF:Hid (kD y e=false):=by unfold kD;rw [ht];rfl
  clear hr ht
  go_enter Tryz.func57,Tryz.ntmps57
  go_wp2_with (go_at_call 56;refine (ci (jbk y e.run _ _ _ own ⟨_,rfl,ja9 (upA (upA ah0 _) _) (upA (upA ah1 _) _)⟩) HR.out).mono ?_;rintro e1 w1 ⟨rfl,hb1⟩;obtain ⟨hc1,hf1⟩:=qo hb1)
  refine wp_region_quiet_below (by kernel_rfl) (by kernel_rfl) ?_
  repeat (go_big_quiet_step (fail))
  refine wpQuiet_nil ?_;intro _ hw';obtain ⟨⟨dq,osq⟩,hw''⟩:=hw';subst hw''
  go_wp2
  go_ret
  exact ⟨jE (by rw [HF.out]),jD (jD (((Below.refl _ _).alloc (by simp) _).alloc (by simp) _) hb1) (below_regrown w1 dq osq)⟩
 all_goals
  have HR:=Lib.hid hr;obtain ⟨A,c,rfl,hc1,hc2,hca⟩:=Rep.open_ (size:=8) (enc:=jd) (fun _=>rfl) (by decide) ah1
  have hk:k<y.runs.length:=(List.getElem?_eq_some_iff.1 hx).1;unfold maxLen at hc2;have hl1:y.runs.length≤9223372036854775807:=by omega
  obtain ⟨b1,o1,vk1,T1,rfl,-,hr1,-,-,hbl,hx1⟩:=hca k r hx;clear hca;obtain ⟨v0,v1,U0,U1,rfl,-,hts,-⟩:=kr hr1;have p7:=hx1 7 _ rfl;clear hx1 hr1;obtain ⟨B,d,rfl,hd1,hd2,hdb⟩:=Rep.open_ (size:=4) (enc:=jo) (fun _=>rfl) (by decide) hts
  unfold maxLen at hd2;have hl2:r.tasks.length≤9223372036854775807:=by omega
  have hk0:decide ((k:Int)≥0)=true:=by simp
  have hk1:decide ((k:Int)<0)=false:=by simp
  clear hr hx
 ·clear hdb
  have HF:Hid (kD y e=false):=by unfold kD;rw [ht];rfl
  have HW:Hid (inb e.task 0 ((r.tasks.length:Int)-1)=false):=vY hno;clear ht hno
  go_enter Tryz.func57,Tryz.ntmps57
  go_wp2_with (go_at_call 56;refine (ci (jbk y e.run _ _ _ own ⟨_,rfl,ja9 (upA (upA ah0 _) _) (upA (upA ah1 _) _)⟩) HR.out).mono ?_;rintro e1 w1 ⟨rfl,hb1⟩;obtain ⟨hc1,hf1⟩:=qo hb1)
  have hBw:Below w.heap.size w w1:=jD (((Below.refl _ _).alloc (by simp) _).alloc (by simp) _) hb1
  have p7':=jid hBw p7;have q3:∀(d:Nat) (os:Array Obj),(grow (redrawn w1 d) os).cell? ⟨w.heap.size,3,none⟩=some (.slice (some ⟨b1,o1,none⟩) y.runs.length c):=fun d os=>cell_regrown ((hc1 _ _ (by simp;try omega)).trans (by simp [go_sem])) d os
  have r3:∀(d:Nat) (os:Array Obj),(grow (redrawn w1 d) os).cell? ⟨w.heap.size+1,3,none⟩=some (.int .i64 e.task):=fun d os=>cell_regrown ((hc1 _ _ (by simp;try omega)).trans (by simp [go_sem])) d os
  refine wp_region_quiet_below (by kernel_rfl) (by kernel_rfl) ?_
  repeat (go_big_quiet_step (exact Calls.regrown_of (cb (vm _ _ _ _) HW.out)))
  refine wpQuiet_nil ?_;intro _ hw';obtain ⟨⟨dq,osq⟩,hw''⟩:=hw';subst hw''
  go_wp2
  go_ret
  exact ⟨jE (by rw [HF.out]),jD hBw (below_regrown w1 dq osq)⟩
 ·obtain ⟨b2,o2,vk2,T2,rfl,-,hr2,-,-,hbl2,hx2⟩:=hdb j t htx
  clear hdb;obtain ⟨rfl,rfl⟩:=qX hr2;have p0:w.cell? ⟨b2,o2+j*4,none⟩=some (.int .i64 t.state):=hx2 0 _ rfl;have hjl:j<r.tasks.length:=(List.getElem?_eq_some_iff.1 htx).1;clear hx2 hr2 htx;obtain ⟨e1,e2,e3,e4⟩:=e;simp only at hj HR ht;subst hj;have HW:Hid (inb (j:Int) 0 ((r.tasks.length:Int)-1)=true):=jbj (by omega)
  by_cases hst:t.state=2
  all_goals
   first|(have hs:(t.state==2)=true:=by simpa using hst)|(have hs:(t.state==2)=false:=by simpa using hst)
   have HF:=Lib.hid (show kD y ⟨e1,e2,e3,j⟩=(t.state==2) by unfold kD;rw [ht])
   clear ht hst
   go_enter Tryz.func57,Tryz.ntmps57
   go_wp2_with (go_at_call 56;refine (ci (jbk y e3 _ _ _ own ⟨_,rfl,ja9 (upA (upA ah0 _) _) (upA (upA ah1 _) _)⟩) HR.out).mono ?_;rintro e1 w1 ⟨rfl,hb1⟩;obtain ⟨hc1,hf1⟩:=qo hb1)
   have hBw:Below w.heap.size w w1:=jD (((Below.refl _ _).alloc (by simp) _).alloc (by simp) _) hb1
   have p7':=jid hBw p7;have q3:∀(d:Nat) (os:Array Obj),(grow (redrawn w1 d) os).cell? ⟨w.heap.size,3,none⟩=some (.slice (some ⟨b1,o1,none⟩) y.runs.length c):=fun d os=>cell_regrown ((hc1 _ _ (by simp;try omega)).trans (by simp [go_sem])) d os
   have r3:∀(d:Nat) (os:Array Obj),(grow (redrawn w1 d) os).cell? ⟨w.heap.size+1,3,none⟩=some (.int .i64 j):=fun d os=>cell_regrown ((hc1 _ _ (by simp;try omega)).trans (by simp [go_sem])) d os
   have p0':=jid hBw p0;refine wp_region_quiet_below (by kernel_rfl) (by kernel_rfl) ?_
   repeat (go_big_quiet_step (exact Calls.regrown_of (cb (vm _ _ _ _) HW.out)))
   refine wpQuiet_nil ?_;intro _ hw';obtain ⟨⟨dq,osq⟩,hw''⟩:=hw';subst hw''
   go_wp2
   go_ret
   exact ⟨jE (by rw [HF.out,hs]),jD hBw (below_regrown w1 dq osq)⟩
theorem jrL (y:Yd) (e:En) (a b:Value) (S S':List Nat) (w:World) (own own':Bool) (ha:AggRep w own (jb y) a S) (hb:AggRep w own' (jf e) b S'):
 Calls Tryz.prog 141 #[a,b] w fun e1 w'=>e1=.returned (.bool (kD y e))∧Below w.heap.size w w':=by
 obtain ⟨_,rfl,ha⟩:=ha;obtain ⟨_,rfl,hb⟩:=hb;obtain ⟨rfl,rfl⟩:=qM hb;obtain ⟨sv,rv,S1,S2,rfl,ah0,ah1,rfl⟩:=qv ha;clear ha hb;rcases zh y e.run e.task with ⟨hr,ht⟩|⟨k,r,hr,hx,⟨hno,ht⟩|⟨j,t,hj,htx,ht⟩⟩
 ·have HR:=Lib.hid hr
  have HF:Hid (kD y e=false):=by unfold kD;rw [ht];rfl
  clear hr ht
  go_enter Tryz.func141,Tryz.ntmps141
  go_wp2_with (go_at_call 152;refine (ci (jbh y e.run _ _ _ own ⟨_,rfl,ja9 (upA (upA ah0 _) _) (upA (upA ah1 _) _)⟩) HR.out).mono ?_;rintro e1 w1 ⟨rfl,hb1⟩;obtain ⟨hc1,hf1⟩:=qo hb1)
  refine wp_region_quiet_below (by kernel_rfl) (by kernel_rfl) ?_
  repeat (go_big_quiet_step (fail))
  refine wpQuiet_nil ?_;intro _ hw';obtain ⟨⟨dq,osq⟩,hw''⟩:=hw';subst hw''
  go_wp2
  go_ret
  exact ⟨jE (by rw [HF.out]),jD (jD (((Below.refl _ _).alloc (by simp) _).alloc (by simp) _) hb1) (below_regrown w1 dq osq)⟩
 all_goals
  have HR:=Lib.hid hr;obtain ⟨A,c,rfl,hc1,hc2,hca⟩:=Rep.open_ (size:=8) (enc:=jd) (fun _=>rfl) (by decide) ah1
  have hk:k<y.runs.length:=(List.getElem?_eq_some_iff.1 hx).1;unfold maxLen at hc2;have hl1:y.runs.length≤9223372036854775807:=by omega
  obtain ⟨b1,o1,vk1,T1,rfl,-,hr1,-,-,hbl,hx1⟩:=hca k r hx;clear hca;obtain ⟨v0,v1,U0,U1,rfl,-,hts,-⟩:=kr hr1;have p7:=hx1 7 _ rfl;clear hx1 hr1;obtain ⟨B,d,rfl,hd1,hd2,hdb⟩:=Rep.open_ (size:=4) (enc:=jo) (fun _=>rfl) (by decide) hts
  unfold maxLen at hd2;have hl2:r.tasks.length≤9223372036854775807:=by omega
  have hk0:decide ((k:Int)≥0)=true:=by simp
  have hk1:decide ((k:Int)<0)=false:=by simp
  clear hr hx
 ·clear hdb
  have HF:Hid (kD y e=false):=by unfold kD;rw [ht];rfl
  have HW:Hid (inb e.task 0 ((r.tasks.length:Int)-1)=false):=vY hno;clear ht hno
  go_enter Tryz.func141,Tryz.ntmps141
  go_wp2_with (go_at_call 152;refine (ci (jbh y e.run _ _ _ own ⟨_,rfl,ja9 (upA (upA ah0 _) _) (upA (upA ah1 _) _)⟩) HR.out).mono ?_;rintro e1 w1 ⟨rfl,hb1⟩;obtain ⟨hc1,hf1⟩:=qo hb1)
  have hBw:Below w.heap.size w w1:=jD (((Below.refl _ _).alloc (by simp) _).alloc (by simp) _) hb1
  have p7':=jid hBw p7;have q3:∀(d:Nat) (os:Array Obj),(grow (redrawn w1 d) os).cell? ⟨w.heap.size,3,none⟩=some (.slice (some ⟨b1,o1,none⟩) y.runs.length c):=fun d os=>cell_regrown ((hc1 _ _ (by simp;try omega)).trans (by simp [go_sem])) d os
  have r3:∀(d:Nat) (os:Array Obj),(grow (redrawn w1 d) os).cell? ⟨w.heap.size+1,3,none⟩=some (.int .i64 e.task):=fun d os=>cell_regrown ((hc1 _ _ (by simp;try omega)).trans (by simp [go_sem])) d os
  refine wp_region_quiet_below (by kernel_rfl) (by kernel_rfl) ?_
  repeat (go_big_quiet_step (exact Calls.regrown_of (cb (zZ _ _ _ _) HW.out)))
  refine wpQuiet_nil ?_;intro _ hw';obtain ⟨⟨dq,osq⟩,hw''⟩:=hw';subst hw''
  go_wp2
  go_ret
  exact ⟨jE (by rw [HF.out]),jD hBw (below_regrown w1 dq osq)⟩
 ·obtain ⟨b2,o2,vk2,T2,rfl,-,hr2,-,-,hbl2,hx2⟩:=hdb j t htx
  clear hdb;obtain ⟨rfl,rfl⟩:=qX hr2;have p0:w.cell? ⟨b2,o2+j*4,none⟩=some (.int .i64 t.state):=hx2 0 _ rfl;have hjl:j<r.tasks.length:=(List.getElem?_eq_some_iff.1 htx).1;clear hx2 hr2 htx;obtain ⟨e1,e2,e3,e4⟩:=e;simp only at hj HR ht;subst hj;have HW:Hid (inb (j:Int) 0 ((r.tasks.length:Int)-1)=true):=jbj (by omega)
  by_cases hst:t.state=2
  all_goals
   first|(have hs:(t.state==2)=true:=by simpa using hst)|(have hs:(t.state==2)=false:=by simpa using hst)
   have HF:=Lib.hid (show kD y ⟨e1,e2,e3,j⟩=(t.state==2) by unfold kD;rw [ht])
   clear ht hst
   go_enter Tryz.func141,Tryz.ntmps141
   go_wp2_with (go_at_call 152;refine (ci (jbh y e3 _ _ _ own ⟨_,rfl,ja9 (upA (upA ah0 _) _) (upA (upA ah1 _) _)⟩) HR.out).mono ?_;rintro e1 w1 ⟨rfl,hb1⟩;obtain ⟨hc1,hf1⟩:=qo hb1)
   have hBw:Below w.heap.size w w1:=jD (((Below.refl _ _).alloc (by simp) _).alloc (by simp) _) hb1
   have p7':=jid hBw p7;have q3:∀(d:Nat) (os:Array Obj),(grow (redrawn w1 d) os).cell? ⟨w.heap.size,3,none⟩=some (.slice (some ⟨b1,o1,none⟩) y.runs.length c):=fun d os=>cell_regrown ((hc1 _ _ (by simp;try omega)).trans (by simp [go_sem])) d os
   have r3:∀(d:Nat) (os:Array Obj),(grow (redrawn w1 d) os).cell? ⟨w.heap.size+1,3,none⟩=some (.int .i64 j):=fun d os=>cell_regrown ((hc1 _ _ (by simp;try omega)).trans (by simp [go_sem])) d os
   have p0':=jid hBw p0;refine wp_region_quiet_below (by kernel_rfl) (by kernel_rfl) ?_
   repeat (go_big_quiet_step (exact Calls.regrown_of (cb (zZ _ _ _ _) HW.out)))
   refine wpQuiet_nil ?_;intro _ hw';obtain ⟨⟨dq,osq⟩,hw''⟩:=hw';subst hw''
   go_wp2
   go_ret
   exact ⟨jE (by rw [HF.out,hs]),jD hBw (below_regrown w1 dq osq)⟩
open Go.RowKit Go.Sort Go.BigFrame
theorem cto {w w1:World} {b o:Nat} {v:Value} (hB:Below w.heap.size w w1) (h:w.cell? ⟨b,o,none⟩=some v):w1.cell? ⟨b,o,none⟩=some v:=
 (hB.cell (p:=⟨b,o,none⟩) (World.block_lt_of_cell? w _ h)).trans h
@[go_sem high] theorem equalEd (w:World) (x y:Ed):(Op.equalIn 10000 253 (.agg #[.int .i64 x.src,.int .i64 x.dst]) (.agg #[.int .i64 y.src,.int .i64 y.dst])).run Tryz.prog w=.ok (decide (x=y)) w:=by
  have u3:=Tryz.underlying3;have a3:=Tryz.isAgg3;have z3:=Tryz.sizeOf3;rw [show (10000:Nat)=9999+1 from rfl,run_equalIn_agg w 9999 253 _ _ (by kernel_rfl) (by kernel_rfl)]
  simp only [Program.fieldsOf,Tryz.underlying253];obtain ⟨xsrc,xdst⟩:=x;obtain ⟨ysrc,ydst⟩:=y
  go_simp
  by_cases h0:xsrc=ysrc<;>by_cases h1:xdst=ydst<;>simp [h0,h1]
theorem jt7 (l m:List Ed) (a b:Value) (S S':List Nat) (w:World) (own own':Bool) (ha:Rep w own (ju l) a S) (hb:Rep w own' (ju m) b S'):
 Calls Tryz.prog 286 #[a,b] w fun e w'=>e=.returned (.bool (decide (l=m)))∧Below w.heap.size w w':=by
 obtain ⟨A,c,rfl,hc1,hc2,hca⟩:=Rep.open_ (size:=2) (enc:=jJ) (fun _=>rfl) (by decide) ha
 obtain ⟨B,d,rfl,hd1,hd2,hdb⟩:=Rep.open_ (size:=2) (enc:=jJ) (fun _=>rfl) (by decide) hb
 unfold maxLen at hc2 hd2;have hl1:l.length≤9223372036854775807:=by omega
 have hl2:m.length≤9223372036854775807:=by omega
 clear ha hb;by_cases hlen:l.length=m.length
 ·have HL:=Lib.hid hlen
  have hne:((l.length:Int) !=(m.length:Int))=false:=by rw [hlen];simp
  clear hlen
  go_enter Tryz.func286,Tryz.ntmps286
  go_wp2
  go_loopw [5,13] (fun _ i wr=>∃k:Nat,k≤l.length∧i=.int .i64 k∧l.take k=m.take k∧Below w.heap.size w wr) (fun _ i _=>l.length-(intOf i).toNat)
  case atStart=>exact ⟨0,by omega,rfl,rfl,Below.refl _ _⟩
  case round=>
   obtain ⟨k,hk,rfl,heq,hbel⟩:=hrel;have HQ:=Lib.hid heq;clear heq;by_cases hlt:k<l.length
   ·have hlt':k<m.length:=by have:=HL.out;omega
    obtain ⟨x,hx⟩:=je hlt;obtain ⟨y,hy⟩:=je hlt';obtain ⟨b1,o1,vk1,T1,rfl,-,hr1,-,-,hb1,hx1⟩:=hca k x hx;obtain ⟨b2,o2,vk2,T2,rfl,-,hr2,-,-,hb2,hx2⟩:=hdb k y hy;clear hca hdb;obtain ⟨rfl,rfl⟩:=zE hr1;obtain ⟨rfl,rfl⟩:=zE hr2;have HX:=Lib.hid hx;have HY:=Lib.hid hy;clear hx hy;have p0:=cell_regrown (cto (b:=b1) (o:=o1+k*2) hbel (hx1 0 _ rfl));have q0:=cell_regrown (cto (b:=b2) (o:=o2+k*2) hbel (hx2 0 _ rfl));have p1:=cell_regrown (cto (b:=b1) (o:=o1+k*2+1) hbel (hx1 1 _ rfl));have q1:=cell_regrown (cto (b:=b2) (o:=o2+k*2+1) hbel (hx2 1 _ rfl));clear hx1 hx2 hr1 hr2;by_cases hxy:x=y
    ·have HXY:=Lib.hid hxy
     have hd:decide (x=y)=true:=decide_eq_true hxy;clear hxy
     go_wp2
     refine wp_region_quiet_below (by kernel_rfl) (by kernel_rfl) ?_
     repeat (go_big_quiet_step (fail))
     refine wpQuiet_nil ?_;intro _ hw';obtain ⟨⟨dq,osq⟩,hw''⟩:=hw';subst hw'';have hbel2:=hbel.trans ((below_regrown wr dq osq).mono hbel.size)
     go_wp2
     go_roundw
     case rel=>exact ⟨k+1,by omega,by go_num,jcd HX.out (HXY.out▸HY.out) HQ.out,hbel2⟩
     case measure=>simp [intOf];omega
    ·have HXY:=Lib.hid hxy
     have hd:decide (x=y)=false:=decide_eq_false hxy;clear hxy
     go_wp2
     refine wp_region_quiet_below (by kernel_rfl) (by kernel_rfl) ?_
     repeat (go_big_quiet_step (fail))
     refine wpQuiet_nil ?_;intro _ hw';obtain ⟨⟨dq,osq⟩,hw''⟩:=hw';subst hw'';have hbel2:=hbel.trans ((below_regrown wr dq osq).mono hbel.size)
     go_wp2
     go_ret
     exact ⟨jE (decide_eq_false (jkM HX.out HY.out HXY.out)).symm,hbel2⟩
   ·clear hca hdb
    go_wp2
    go_ret
    exact ⟨jE (decide_eq_true (jce (k:=k) (by omega) (by have:=HL.out;omega) HQ.out)).symm,hbel⟩
 ·have hne:((l.length:Int) !=(m.length:Int))=true:=bne_iff_ne.2 (by omega)
  clear hca hdb
  go_enter Tryz.func286,Tryz.ntmps286
  go_wp2
  go_ret
  exact ⟨jE (decide_eq_false (fun e=>hlen (by rw [e]))).symm,Below.refl _ _⟩
theorem jqX (x y:Pl) (a b:Value) (S S':List Nat) (w:World) (own own':Bool) (ha:AggRep w own (ja x) a S) (hb:AggRep w own' (ja y) b S'):
 Calls Tryz.prog 269 #[a,b] w fun e w'=>e=.returned (.bool (decide (x=y)))∧Below w.heap.size w w':=by
 obtain ⟨_,rfl,ha⟩:=ha;obtain ⟨_,rfl,hb⟩:=hb;obtain ⟨av0,rfl,ah0⟩:=zd ha;obtain ⟨bv0,rfl,bh0⟩:=zd hb;clear ha hb;obtain ⟨xprio,xmost,xwait,xtasks,xedges⟩:=x;obtain ⟨yprio,ymost,ywait,ytasks,yedges⟩:=y
 go_enter Tryz.func269,Tryz.ntmps269
 go_wp2_with (first
  |(go_at_call 286;refine (jt7 xedges yedges _ _ _ _ _ _ _ (ah0.below (by repeat (first|exact Below.refl _ _|assumption|refine Below.alloc ?_ (by simp;try omega) _|refine jD ?_ (by assumption))) (Nat.le_refl _)) (bh0.below (by repeat (first|exact Below.refl _ _|assumption|refine Below.alloc ?_ (by simp;try omega) _|refine jD ?_ (by assumption))) (Nat.le_refl _))).mono ?_;rintro e w1 ⟨rfl,hb1⟩;obtain ⟨hc1,hf1⟩:=qo hb1))
 all_goals go_ret
 all_goals refine ⟨?_,(by repeat (first|exact Below.refl _ _|assumption|refine Below.alloc ?_ (by simp;try omega) _|refine jD ?_ (by assumption)))⟩
 all_goals (simp_all<;>rfl)
theorem jqY (x y:Dd) (a b:Value) (S S':List Nat) (w:World) (own own':Bool) (ha:AggRep w own (jg x) a S) (hb:AggRep w own' (jg y) b S'):
 Calls Tryz.prog 205 #[a,b] w fun e w'=>e=.returned (.bool (decide (x=y)))∧Below w.heap.size w w':=by
 obtain ⟨_,rfl,ha⟩:=ha;obtain ⟨_,rfl,hb⟩:=hb;obtain ⟨av0,rfl,ah0⟩:=kM ha;obtain ⟨bv0,rfl,bh0⟩:=kM hb;clear ha hb;obtain ⟨xkind,xrun,xplan,xtask,xtri,xworker,xdraw⟩:=x;obtain ⟨ykind,yrun,yplan,ytask,ytri,yworker,ydraw⟩:=y
 go_enter Tryz.func205,Tryz.ntmps205
 go_wp2_with (first
  |(go_at_call 269;refine (jqX xplan yplan _ _ _ _ _ own own' ⟨_,rfl,jhy (ah0.below (by repeat (first|exact Below.refl _ _|assumption|refine Below.alloc ?_ (by simp;try omega) _|refine jD ?_ (by assumption))) (Nat.le_refl _))⟩ ⟨_,rfl,jhy (bh0.below (by repeat (first|exact Below.refl _ _|assumption|refine Below.alloc ?_ (by simp;try omega) _|refine jD ?_ (by assumption))) (Nat.le_refl _))⟩).mono ?_;rintro e w1 ⟨rfl,hb1⟩;obtain ⟨hc1,hf1⟩:=qo hb1))
 all_goals go_ret
 all_goals refine ⟨?_,(by repeat (first|exact Below.refl _ _|assumption|refine Below.alloc ?_ (by simp;try omega) _|refine jD ?_ (by assumption)))⟩
 all_goals (simp_all<;>rfl)
open Go.RowKit Go.Sort Go.BigFrame
theorem jzG (y:Yd) (id task tri:Int) (a:Value) (S:List Nat) (w:World) (own:Bool) (ha:AggRep w own (jb y) a S):
 Calls Tryz.prog 227 #[a,.int .i64 id,.int .i64 task,.int .i64 tri] w fun e1 w'=>e1=.returned (.bool (zq y id task tri))∧Below w.heap.size w w':=by
 obtain ⟨_,rfl,ha⟩:=ha;obtain ⟨sv,rv,S1,S2,rfl,ah0,ah1,rfl⟩:=qv ha;clear ha;rcases zh y id task with ⟨hr,ht⟩|⟨k,r,hr,hx,⟨hno,ht⟩|⟨j,t,hj,htx,ht⟩⟩
 ·have HR:=Lib.hid hr
  have HF:Hid (zq y id task tri=false):=by unfold zq;rw [ht];rfl
  clear hr ht
  go_enter Tryz.func227,Tryz.ntmps227
  go_wp2_with (go_at_call 56;refine (ci (jbk y id _ _ _ own ⟨_,rfl,ja9 (upA ah0 _) (upA ah1 _)⟩) HR.out).mono ?_;rintro e1 w1 ⟨rfl,hb1⟩;obtain ⟨hc1,hf1⟩:=qo hb1)
  go_ret
  exact ⟨jE (by rw [HF.out]),jD ((Below.refl _ _).alloc (by simp) _) hb1⟩
 all_goals
  have HR:=Lib.hid hr;obtain ⟨A,c,rfl,hc1,hc2,hca⟩:=Rep.open_ (size:=8) (enc:=jd) (fun _=>rfl) (by decide) ah1
  have hk:k<y.runs.length:=(List.getElem?_eq_some_iff.1 hx).1;unfold maxLen at hc2;have hl1:y.runs.length≤9223372036854775807:=by omega
  obtain ⟨b1,o1,vk1,T1,rfl,-,hr1,-,-,hbl,hx1⟩:=hca k r hx;clear hca;obtain ⟨v0,v1,U0,U1,rfl,-,hts,-⟩:=kr hr1;have p7:=hx1 7 _ rfl;clear hx1 hr1;obtain ⟨B,d,rfl,hd1,hd2,hdb⟩:=Rep.open_ (size:=4) (enc:=jo) (fun _=>rfl) (by decide) hts
  unfold maxLen at hd2;have hl2:r.tasks.length≤9223372036854775807:=by omega
  have hk0:decide ((k:Int)≥0)=true:=by simp
  have hk1:decide ((k:Int)<0)=false:=by simp
  clear hr hx
 ·clear hdb
  have HF:Hid (zq y id task tri=false):=by unfold zq;rw [ht];rfl
  have HW:Hid (inb task 0 ((r.tasks.length:Int)-1)=false):=vY hno;clear ht hno
  go_enter Tryz.func227,Tryz.ntmps227
  go_wp2_with fail
  refine (ci (jbk y id _ _ _ own ⟨_,rfl,ja9 (upA ah0 _) (upA ah1 _)⟩) HR.out).mono ?_;rintro e1 w1 ⟨rfl,hb1⟩;obtain ⟨hc1,hf1⟩:=qo hb1;have hBw:Below w.heap.size w w1:=jD ((Below.refl _ _).alloc (by simp) _) hb1
  have p7':=jx hBw p7;have q3:w1.cell? ⟨w.heap.size,3,none⟩=some (.slice (some ⟨b1,o1,none⟩) y.runs.length c):=(hc1 _ _ (by simp)).trans (by simp [go_sem])
  go_wp2_with (go_at_call 78;refine (cb (vm _ _ _ _) HW.out).mono ?_;rintro e2 w2 ⟨rfl,hb2⟩;obtain ⟨hc2,hf2⟩:=qo hb2)
  go_ret
  exact ⟨jE (by rw [HF.out]),jD hBw hb2⟩
 ·obtain ⟨b2,o2,vk2,T2,rfl,-,hr2,-,-,hbl2,hx2⟩:=hdb j t htx
  clear hdb;obtain ⟨rfl,rfl⟩:=qX hr2;have p0:w.cell? ⟨b2,o2+j*4,none⟩=some (.int .i64 t.state):=hx2 0 _ rfl;have p1:=hx2 1 _ rfl;have p2:=hx2 2 _ rfl;have p3:=hx2 3 _ rfl;have hjl:j<r.tasks.length:=(List.getElem?_eq_some_iff.1 htx).1;clear hx2 hr2 htx;subst hj;have HW:Hid (inb (j:Int) 0 ((r.tasks.length:Int)-1)=true):=jbj (by omega)
  by_cases hst:t.state=3
  ·have hs:(t.state==3)=true:=by simpa using hst
   by_cases htr:t.tri=tri
   all_goals
    first|(have hs2:(t.tri==tri)=true:=by simpa using htr)|(have hs2:(t.tri==tri)=false:=by simpa using htr)
    have HF:=Lib.hid (show zq y id j tri=(t.tri==tri) by unfold zq;rw [ht];simp [hs])
    clear ht hst htr
    go_enter Tryz.func227,Tryz.ntmps227
    go_wp2_with fail
    refine (ci (jbk y id _ _ _ own ⟨_,rfl,ja9 (upA ah0 _) (upA ah1 _)⟩) HR.out).mono ?_;rintro e1 w1 ⟨rfl,hb1⟩;obtain ⟨hc1,hf1⟩:=qo hb1;have hBw:Below w.heap.size w w1:=jD ((Below.refl _ _).alloc (by simp) _) hb1
    have p7':=jx hBw p7;have q3:w1.cell? ⟨w.heap.size,3,none⟩=some (.slice (some ⟨b1,o1,none⟩) y.runs.length c):=(hc1 _ _ (by simp)).trans (by simp [go_sem])
    go_wp2_with fail
    refine (cb (vm _ _ _ _) HW.out).mono ?_;rintro e2 w2 ⟨rfl,hb2⟩;obtain ⟨hc2,hf2⟩:=qo hb2
    replace p7':=jx hb2 p7'
    replace q3:=jx hb2 q3
    have p0':=jx hb2 (jx hBw p0);have p1':=jx hb2 (jx hBw p1);have p2':=jx hb2 (jx hBw p2);have p3':=jx hb2 (jx hBw p3)
    go_wp2
    go_ret
    exact ⟨jE (by rw [HF.out,hs2]),by repeat (first|(with_reducible exact jD hBw hb2)|((with_reducible refine Below.alloc ?_ ?_ _);rotate_left;focus (exact (jD hBw hb2).size)))⟩
  ·have hs:(t.state==3)=false:=by simpa using hst
   have HF:=Lib.hid (show zq y id j tri=false by unfold zq;rw [ht];simp [hs])
   clear ht hst
   go_enter Tryz.func227,Tryz.ntmps227
   go_wp2_with fail
   refine (ci (jbk y id _ _ _ own ⟨_,rfl,ja9 (upA ah0 _) (upA ah1 _)⟩) HR.out).mono ?_;rintro e1 w1 ⟨rfl,hb1⟩;obtain ⟨hc1,hf1⟩:=qo hb1;have hBw:Below w.heap.size w w1:=jD ((Below.refl _ _).alloc (by simp) _) hb1
   have p7':=jx hBw p7;have q3:w1.cell? ⟨w.heap.size,3,none⟩=some (.slice (some ⟨b1,o1,none⟩) y.runs.length c):=(hc1 _ _ (by simp)).trans (by simp [go_sem])
   go_wp2_with fail
   refine (cb (vm _ _ _ _) HW.out).mono ?_;rintro e2 w2 ⟨rfl,hb2⟩;obtain ⟨hc2,hf2⟩:=qo hb2
   replace p7':=jx hb2 p7'
   replace q3:=jx hb2 q3
   have p0':=jx hb2 (jx hBw p0);have p1':=jx hb2 (jx hBw p1);have p2':=jx hb2 (jx hBw p2);have p3':=jx hb2 (jx hBw p3)
   go_wp2
   go_ret
   exact ⟨jE (by rw [HF.out]),by repeat (first|(with_reducible exact jD hBw hb2)|((with_reducible refine Below.alloc ?_ ?_ _);rotate_left;focus (exact (jD hBw hb2).size)))⟩
theorem jyN (y:Yd) (id task tri:Int) (a:Value) (S:List Nat) (w:World) (own:Bool) (ha:AggRep w own (jb y) a S):
 Calls Tryz.prog 262 #[a,.int .i64 id,.int .i64 task,.int .i64 tri] w fun e1 w'=>e1=.returned (.bool (zq y id task tri))∧Below w.heap.size w w':=by
 obtain ⟨_,rfl,ha⟩:=ha;obtain ⟨sv,rv,S1,S2,rfl,ah0,ah1,rfl⟩:=qv ha;clear ha;rcases zh y id task with ⟨hr,ht⟩|⟨k,r,hr,hx,⟨hno,ht⟩|⟨j,t,hj,htx,ht⟩⟩
 ·have HR:=Lib.hid hr
  have HF:Hid (zq y id task tri=false):=by unfold zq;rw [ht];rfl
  clear hr ht
  go_enter Tryz.func262,Tryz.ntmps262
  go_wp2_with (go_at_call 152;refine (ci (jbh y id _ _ _ own ⟨_,rfl,ja9 (upA ah0 _) (upA ah1 _)⟩) HR.out).mono ?_;rintro e1 w1 ⟨rfl,hb1⟩;obtain ⟨hc1,hf1⟩:=qo hb1)
  go_ret
  exact ⟨jE (by rw [HF.out]),jD ((Below.refl _ _).alloc (by simp) _) hb1⟩
 all_goals
  have HR:=Lib.hid hr;obtain ⟨A,c,rfl,hc1,hc2,hca⟩:=Rep.open_ (size:=8) (enc:=jd) (fun _=>rfl) (by decide) ah1
  have hk:k<y.runs.length:=(List.getElem?_eq_some_iff.1 hx).1;unfold maxLen at hc2;have hl1:y.runs.length≤9223372036854775807:=by omega
  obtain ⟨b1,o1,vk1,T1,rfl,-,hr1,-,-,hbl,hx1⟩:=hca k r hx;clear hca;obtain ⟨v0,v1,U0,U1,rfl,-,hts,-⟩:=kr hr1;have p7:=hx1 7 _ rfl;clear hx1 hr1;obtain ⟨B,d,rfl,hd1,hd2,hdb⟩:=Rep.open_ (size:=4) (enc:=jo) (fun _=>rfl) (by decide) hts
  unfold maxLen at hd2;have hl2:r.tasks.length≤9223372036854775807:=by omega
  have hk0:decide ((k:Int)≥0)=true:=by simp
  have hk1:decide ((k:Int)<0)=false:=by simp
  clear hr hx
 ·clear hdb
  have HF:Hid (zq y id task tri=false):=by unfold zq;rw [ht];rfl
  have HW:Hid (inb task 0 ((r.tasks.length:Int)-1)=false):=vY hno;clear ht hno
  go_enter Tryz.func262,Tryz.ntmps262
  go_wp2_with fail
  refine (ci (jbh y id _ _ _ own ⟨_,rfl,ja9 (upA ah0 _) (upA ah1 _)⟩) HR.out).mono ?_;rintro e1 w1 ⟨rfl,hb1⟩;obtain ⟨hc1,hf1⟩:=qo hb1;have hBw:Below w.heap.size w w1:=jD ((Below.refl _ _).alloc (by simp) _) hb1
  have p7':=jx hBw p7;have q3:w1.cell? ⟨w.heap.size,3,none⟩=some (.slice (some ⟨b1,o1,none⟩) y.runs.length c):=(hc1 _ _ (by simp)).trans (by simp [go_sem])
  go_wp2_with (go_at_call 74;refine (cb (zZ _ _ _ _) HW.out).mono ?_;rintro e2 w2 ⟨rfl,hb2⟩;obtain ⟨hc2,hf2⟩:=qo hb2)
  go_ret
  exact ⟨jE (by rw [HF.out]),jD hBw hb2⟩
 ·obtain ⟨b2,o2,vk2,T2,rfl,-,hr2,-,-,hbl2,hx2⟩:=hdb j t htx
  clear hdb;obtain ⟨rfl,rfl⟩:=qX hr2;have p0:w.cell? ⟨b2,o2+j*4,none⟩=some (.int .i64 t.state):=hx2 0 _ rfl;have p1:=hx2 1 _ rfl;have p2:=hx2 2 _ rfl;have p3:=hx2 3 _ rfl;have hjl:j<r.tasks.length:=(List.getElem?_eq_some_iff.1 htx).1;clear hx2 hr2 htx;subst hj;have HW:Hid (inb (j:Int) 0 ((r.tasks.length:Int)-1)=true):=jbj (by omega)
  by_cases hst:t.state=3
  ·have hs:(t.state==3)=true:=by simpa using hst
   by_cases htr:t.tri=tri
   all_goals
    first|(have hs2:(t.tri==tri)=true:=by simpa using htr)|(have hs2:(t.tri==tri)=false:=by simpa using htr)
    have HF:=Lib.hid (show zq y id j tri=(t.tri==tri) by unfold zq;rw [ht];simp [hs])
    clear ht hst htr
    go_enter Tryz.func262,Tryz.ntmps262
    go_wp2_with fail
    refine (ci (jbh y id _ _ _ own ⟨_,rfl,ja9 (upA ah0 _) (upA ah1 _)⟩) HR.out).mono ?_;rintro e1 w1 ⟨rfl,hb1⟩;obtain ⟨hc1,hf1⟩:=qo hb1;have hBw:Below w.heap.size w w1:=jD ((Below.refl _ _).alloc (by simp) _) hb1
    have p7':=jx hBw p7;have q3:w1.cell? ⟨w.heap.size,3,none⟩=some (.slice (some ⟨b1,o1,none⟩) y.runs.length c):=(hc1 _ _ (by simp)).trans (by simp [go_sem])
    go_wp2_with fail
    refine (cb (zZ _ _ _ _) HW.out).mono ?_;rintro e2 w2 ⟨rfl,hb2⟩;obtain ⟨hc2,hf2⟩:=qo hb2
    replace p7':=jx hb2 p7'
    replace q3:=jx hb2 q3
    have p0':=jx hb2 (jx hBw p0);have p1':=jx hb2 (jx hBw p1);have p2':=jx hb2 (jx hBw p2);have p3':=jx hb2 (jx hBw p3)
    go_wp2
    go_ret
    exact ⟨jE (by rw [HF.out,hs2]),by repeat (first|(with_reducible exact jD hBw hb2)|((with_reducible refine Below.alloc ?_ ?_ _);rotate_left;focus (exact (jD hBw hb2).size)))⟩
  ·have hs:(t.state==3)=false:=by simpa using hst
   have HF:=Lib.hid (show zq y id j tri=false by unfold zq;rw [ht];simp [hs])
   clear ht hst
   go_enter Tryz.func262,Tryz.ntmps262
   go_wp2_with fail
   refine (ci (jbh y id _ _ _ own ⟨_,rfl,ja9 (upA ah0 _) (upA ah1 _)⟩) HR.out).mono ?_;rintro e1 w1 ⟨rfl,hb1⟩;obtain ⟨hc1,hf1⟩:=qo hb1;have hBw:Below w.heap.size w w1:=jD ((Below.refl _ _).alloc (by simp) _) hb1
   have p7':=jx hBw p7;have q3:w1.cell? ⟨w.heap.size,3,none⟩=some (.slice (some ⟨b1,o1,none⟩) y.runs.length c):=(hc1 _ _ (by simp)).trans (by simp [go_sem])
   go_wp2_with fail
   refine (cb (zZ _ _ _ _) HW.out).mono ?_;rintro e2 w2 ⟨rfl,hb2⟩;obtain ⟨hc2,hf2⟩:=qo hb2
   replace p7':=jx hb2 p7'
   replace q3:=jx hb2 q3
   have p0':=jx hb2 (jx hBw p0);have p1':=jx hb2 (jx hBw p1);have p2':=jx hb2 (jx hBw p2);have p3':=jx hb2 (jx hBw p3)
   go_wp2
   go_ret
   exact ⟨jE (by rw [HF.out]),by repeat (first|(with_reducible exact jD hBw hb2)|((with_reducible refine Below.alloc ?_ ?_ _);rotate_left;focus (exact (jD hBw hb2).size)))⟩
end Go.Proofs.YtmnpailnelmpiaaGreat
