/- Parts. -/
import Derived.Test.YtekegiiikglhbaaGreatQEq
import Derived.ProofKit
import Derived.Deep.Slices
import Derived.ChangeSame
import Derived.Deep.RegionWith
set_option linter.all false
set_option maxHeartbeats 2000000
namespace Go.Proofs.YtekegiiikglhbaaGreat
open Go.RowKit Go.Sort Go.BigFrame
theorem jmS (x:Ed) (a:Value) (S:List Nat) (w:World) (own:Bool) (ha:AggRep w own (jy x) a S):
 Calls Tryz.prog 135 #[a] w (jeJ w (jy x)):=by
 obtain ⟨_,rfl,ha⟩:=ha;obtain ⟨rfl,rfl⟩:=qN ha;clear ha
 go_enter Tryz.func135,Tryz.ntmps135
 go_wp2
 exact bodyPost_ret (v:=.agg #[.int .i64 x.src,.int .i64 x.dst]) (by simp [results,Tryz.results135,go_sem]) rfl ⟨_,[],rfl,⟨_,rfl,jod _ _ _⟩,Fresh.nil _,by repeat (first|(with_reducible exact Below.refl _ _)|(with_reducible assumption)|((with_reducible refine Below.alloc ?_ ?_ _);rotate_left;focus (simp;try omega))|((with_reducible refine Below.setCell ?_ ?_ _);rotate_left;focus (simp;try omega))|(with_reducible refine jB ?_ (by assumption)))⟩
theorem jkw (l:List (Ed)) (a:Value) (S:List Nat) (w:World) (own:Bool) (ha:Rep w own (jL l) a S) (bT:l.length<=2000000):
 Calls Tryz.prog 128 #[a] w (jfr w (jL l)):=by
 obtain ⟨A,c,rfl,bK,bI,aV⟩:=Rep.open_ (size:=2) (enc:=jy) (λ_=>rfl) (by decide) ha
 clear ha;have g8:=bT
 go_enter Tryz.func128,Tryz.ntmps128
 go_wp2_with (at_make;refine kB (enc:=jy) rfl _ _ rfl slEd (⟨0,0⟩:Ed) zEd .i64 .i64 _ _ l.length rfl rfl rfl rfl (by omega) (by unfold maxLen;omega) ?_;intro w1 A1 aX aH)
 go_loopw [4] (λi wr=>∃k:Nat,k<=l.length/\i=.int .i64 k/\jqM jy 2 tEd w (jcd l (⟨0,0⟩:Ed) k) (.slice A1 l.length l.length) wr) (λi _=>l.length-(intOf i).toNat)
 case atStart=>exact ⟨0,by omega,rfl,[w.heap.size],by rw [va];exact aX,Fresh.one _ _ (aAV _),aH⟩
 case round=>
  obtain ⟨k,hk,rfl,S1,aD,hF,aB⟩:=hrel;clear aX aH;by_cases aC:k<l.length
  ·obtain ⟨x,hx⟩:=jd aC
   obtain ⟨b1,o1,vk1,T1,rfl,-,aX,-,-,aH,aK⟩:=aV k x hx;clear aV;have HX:=Lib.hid hx;clear hx;obtain ⟨rfl,rfl⟩:=qN aX;obtain ⟨g,rfl,-,c8,hg,-⟩:=Rep.head (enc:=jy) (size:=2) (xs:=jcd l (⟨0,0⟩:Ed) k) (λ_=>rfl) (by decide) aD (by rw [kH _ _ _ hk];omega)
   ·skip
    have p0:=(aB.cell (p:=⟨b1,o1+k*2,none⟩) aH).trans (aK 0 _ rfl:w.cell? ⟨b1,o1+k*2,none⟩=_);have p1:=(aB.cell (p:=⟨b1,o1+k*2+1,none⟩) aH).trans (aK 1 _ rfl:w.cell? ⟨b1,o1+k*2+1,none⟩=_);clear aK
    go_wp2_with (first
    |(go_at_call 135;refine (jmS x _ _ _ _ ⟨_,rfl,aX.below aB (aAV _)⟩).mono ?_;rintro e w2 ⟨_,Sx,rfl,⟨vsx,rfl,fO⟩,iV,bA⟩)
    |((with_reducible refine jdN 158 21 20 ?_);refine kR (enc:=jy) (size:=2) (xs:=jcd l (⟨0,0⟩:Ed) k) rfl _ _ _ rfl (λ_=>rfl) (by decide) szEd jmb (aD.below bA (aAV _)) (k:=k) (by rw [kH _ _ _ hk];omega) rfl rfl _ rfl x (by simpa using fO) w.heap.size (Fresh.join hF iV aB.size (λs hs=>Rep.lt _ aD s hs)) ?_;intro S' cM e9 cF _ _))
    go_roundw
    case rel=>
     rw [vQ HX.out] at cM;refine ⟨k+1,by omega,by go_num,S',cM,e9,?_⟩
     exact (jB aB bA).trans (cF.below (by simpa using hF.2 g c8) (aBU aB.size bA.size))
    case measure=>simp [intOf];omega
  ·obtain rfl:k=l.length:=by omega
   clear aV
   go_wp2
   go_ret
   exact ⟨_,S1,rfl,by rw [vR] at aD;exact aD,hF,aB⟩
theorem jmR (x:Pl) (a:Value) (S:List Nat) (w:World) (own:Bool) (ha:AggRep w own (ja x) a S) (bT:jcf x<=2000000):
 Calls Tryz.prog 109 #[a] w (jeJ w (ja x)):=by
 obtain ⟨_,rfl,ha⟩:=ha;obtain ⟨av0,rfl,ah0⟩:=zZ ha;clear ha;have fU:x.aAC.length<=2000000:=by simp only [jcf] at bT;omega
 go_enter Tryz.func109,Tryz.ntmps109
 go_wp2_with (first
  |(go_at_call 128;refine (jkw x.aAC _ _ _ _ (ah0.below (by repeat (first|(with_reducible exact Below.refl _ _)|(with_reducible assumption)|((with_reducible refine Below.alloc ?_ ?_ _);rotate_left;focus (simp;try omega))|((with_reducible refine Below.setCell ?_ ?_ _);rotate_left;focus (simp;try omega))|(with_reducible refine jB ?_ (by assumption)))) (aAV _)) fU).mono ?_;rintro e w1 ⟨r1v0,S1,rfl,r1h0,dU,aH⟩;obtain ⟨r1v0A,r1v0n,r1v0c,rfl⟩:=Rep.form r1h0;obtain ⟨bK,d5⟩:=qr aH;(have gZ:=aH.size);simp at gZ;(have aK:=(by omega:w.heap.size<w1.heap.size));(have pR:=(by omega:w.heap.size+1<w1.heap.size));(have dY:=(by omega:w.heap.size+1+1<w1.heap.size))))
 refine bodyPost_ret (v:=.agg #[.int .i64 x.aAH,.int .i64 x.aAK,.int .i64 x.aAJ,.int .i64 x.aAB,.slice r1v0A r1v0n r1v0c]) (by simp [results,Tryz.results109,go_sem,bK]) rfl ?_
 simp at dU;refine ⟨_,S1,rfl,⟨_,rfl,jjo ?_⟩,?_,?_⟩
 ·repeat (first|(with_reducible exact r1h0)|((with_reducible refine jbj ?_ ?_);rotate_left;focus (intro b Z;have:=dU.2 b Z;simp;try omega))|(with_reducible refine Rep.below ?_ (by assumption) (aAV _)))
 ·exact dU.mono (by omega)
 ·repeat (first|(with_reducible exact Below.refl _ _)|(with_reducible assumption)|((with_reducible refine Below.alloc ?_ ?_ _);rotate_left;focus (simp;try omega))|((with_reducible refine Below.setCell ?_ ?_ _);rotate_left;focus (simp;try omega))|(with_reducible refine jB ?_ (by assumption)))
theorem jkv (x:En) (a:Value) (S:List Nat) (w:World) (own:Bool) (ha:AggRep w own (jk x) a S):
 Calls Tryz.prog 108 #[a] w (jeJ w (jk x)):=by
 obtain ⟨_,rfl,ha⟩:=ha;obtain ⟨rfl,rfl⟩:=kr ha;clear ha
 go_enter Tryz.func108,Tryz.ntmps108
 go_wp2
 exact bodyPost_ret (v:=.agg #[.int .i64 x.aAH,.int .i64 x.seq,.int .i64 x.run,.int .i64 x.aAI]) (by simp [results,Tryz.results108,go_sem]) rfl ⟨_,[],rfl,⟨_,rfl,jf2 _ _ _⟩,Fresh.nil _,by repeat (first|(with_reducible exact Below.refl _ _)|(with_reducible assumption)|((with_reducible refine Below.alloc ?_ ?_ _);rotate_left;focus (simp;try omega))|((with_reducible refine Below.setCell ?_ ?_ _);rotate_left;focus (simp;try omega))|(with_reducible refine jB ?_ (by assumption)))⟩
theorem ji3 (l:List (En)) (a:Value) (S:List Nat) (w:World) (own:Bool) (ha:Rep w own (jo l) a S) (bT:l.length<=2000000):
 Calls Tryz.prog 74 #[a] w (jfr w (jo l)):=by
 obtain ⟨A,c,rfl,bK,bI,aV⟩:=Rep.open_ (size:=4) (enc:=jk) (λ_=>rfl) (by decide) ha
 clear ha;have g8:=bT
 go_enter Tryz.func74,Tryz.ntmps74
 go_wp2_with (at_make;refine kB (enc:=jk) rfl _ _ rfl slEn (⟨0,0,0,0⟩:En) zEn .i64 .i64 _ _ l.length rfl rfl rfl rfl (by omega) (by unfold maxLen;omega) ?_;intro w1 A1 aX aH)
 go_loopw [4] (λi wr=>∃k:Nat,k<=l.length/\i=.int .i64 k/\jqM jk 4 tEn w (jcd l (⟨0,0,0,0⟩:En) k) (.slice A1 l.length l.length) wr) (λi _=>l.length-(intOf i).toNat)
 case atStart=>exact ⟨0,by omega,rfl,[w.heap.size],by rw [va];exact aX,Fresh.one _ _ (aAV _),aH⟩
 case round=>
  obtain ⟨k,hk,rfl,S1,aD,hF,aB⟩:=hrel;clear aX aH;by_cases aC:k<l.length
  ·obtain ⟨x,hx⟩:=jd aC
   obtain ⟨b1,o1,vk1,T1,rfl,-,aX,-,-,aH,aK⟩:=aV k x hx;clear aV;have HX:=Lib.hid hx;clear hx;obtain ⟨rfl,rfl⟩:=kr aX;obtain ⟨g,rfl,-,c8,hg,-⟩:=Rep.head (enc:=jk) (size:=4) (xs:=jcd l (⟨0,0,0,0⟩:En) k) (λ_=>rfl) (by decide) aD (by rw [kH _ _ _ hk];omega)
   ·skip
    have p0:=(aB.cell (p:=⟨b1,o1+k*4,none⟩) aH).trans (aK 0 _ rfl:w.cell? ⟨b1,o1+k*4,none⟩=_);have p1:=(aB.cell (p:=⟨b1,o1+k*4+1,none⟩) aH).trans (aK 1 _ rfl:w.cell? ⟨b1,o1+k*4+1,none⟩=_);have p2:=(aB.cell (p:=⟨b1,o1+k*4+2,none⟩) aH).trans (aK 2 _ rfl:w.cell? ⟨b1,o1+k*4+2,none⟩=_);have p3:=(aB.cell (p:=⟨b1,o1+k*4+3,none⟩) aH).trans (aK 3 _ rfl:w.cell? ⟨b1,o1+k*4+3,none⟩=_);clear aK
    go_wp2_with (first
    |(go_at_call 108;refine (jkv x _ _ _ _ ⟨_,rfl,aX.below aB (aAV _)⟩).mono ?_;rintro e w2 ⟨_,Sx,rfl,⟨vsx,rfl,fO⟩,iV,bA⟩)
    |((with_reducible refine jdN 127 21 20 ?_);refine kR (enc:=jk) (size:=4) (xs:=jcd l (⟨0,0,0,0⟩:En) k) rfl _ _ _ rfl (λ_=>rfl) (by decide) szEn jhc (aD.below bA (aAV _)) (k:=k) (by rw [kH _ _ _ hk];omega) rfl rfl _ rfl x (by simpa using fO) w.heap.size (Fresh.join hF iV aB.size (λs hs=>Rep.lt _ aD s hs)) ?_;intro S' cM e9 cF _ _))
    go_roundw
    case rel=>
     rw [vQ HX.out] at cM;refine ⟨k+1,by omega,by go_num,S',cM,e9,?_⟩
     exact (jB aB bA).trans (cF.below (by simpa using hF.2 g c8) (aBU aB.size bA.size))
    case measure=>simp [intOf];omega
  ·obtain rfl:k=l.length:=by omega
   clear aV
   go_wp2
   go_ret
   exact ⟨_,S1,rfl,by rw [vR] at aD;exact aD,hF,aB⟩
theorem jhz (l:List (List En)) (a:Value) (S:List Nat) (w:World) (own:Bool) (ha:Rep w own (jX l) a S) (bT:vl l<=2000000):
 Calls Tryz.prog 43 #[a] w (jfr w (jX l)):=by
 obtain ⟨A,c,rfl,bK,bI,aV⟩:=Rep.open_ (size:=1) (enc:=(λes=>[jo es])) (λ_=>rfl) (by decide) ha
 clear ha;have g8:l.length<=2000000:=by simp only [vl] at bT;omega
 go_enter Tryz.func43,Tryz.ntmps43
 go_wp2_with (at_make;refine kB (enc:=(λes=>[jo es])) rfl _ _ rfl slEnS ([]:List En) zEnS .i64 .i64 _ _ l.length rfl rfl rfl rfl (by omega) (by unfold maxLen;omega) ?_;intro w1 A1 aX aH)
 go_loopw [4] (λi wr=>∃k:Nat,k<=l.length/\i=.int .i64 k/\jqM (λes=>[jo es]) 1 jmW w (jcd l ([]:List En) k) (.slice A1 l.length l.length) wr) (λi _=>l.length-(intOf i).toNat)
 case atStart=>exact ⟨0,by omega,rfl,[w.heap.size],by rw [va];exact aX,Fresh.one _ _ (aAV _),aH⟩
 case round=>
  obtain ⟨k,hk,rfl,S1,aD,hF,aB⟩:=hrel;clear aX aH;by_cases aC:k<l.length
  ·obtain ⟨x,hx⟩:=jd aC
   obtain ⟨b1,o1,vk1,T1,rfl,-,aX,-,-,aH,aK⟩:=aV k x hx;clear aV;have HX:=Lib.hid hx;clear hx;obtain ⟨au,_,aS0,aS1,rfl,rfl,ah0,rfl,rfl⟩:=aX;obtain ⟨g,rfl,-,c8,hg,-⟩:=Rep.head (enc:=(λes=>[jo es])) (size:=1) (xs:=jcd l ([]:List En) k) (λ_=>rfl) (by decide) aD (by rw [kH _ _ _ hk];omega)
   ·skip
    have lX:kJ x<=2000000:=by have:=jio (tot:=kJ) HX.out;simp only [vl] at bT;omega
    have p0:=(aB.cell (p:=⟨b1,o1+k,none⟩) aH).trans (by simpa using aK 0 _ rfl:w.cell? ⟨b1,o1+k,none⟩=_)
    clear aK
    go_wp2_with (first
    |(go_at_call 74;refine (ji3 x _ _ _ _ (ah0.below aB (aAV _)) (by simpa [kJ] using lX)).mono ?_;rintro e w2 ⟨_,Sx,rfl,fO,iV,bA⟩;obtain ⟨rA,rn,rc,rfl⟩:=Rep.form fO;obtain ⟨nH,z7⟩:=jnH (enc:=(λes=>[jo es])) (xs:=jcd l ([]:List En) k) (λ_=>rfl) (aD.below bA (aAV _)) (by rw [kH _ _ _ hk];omega);obtain ⟨ux,nH⟩:=nH))
    go_roundw
    case rel=>
     obtain ⟨S',cM,e9,cF,_,_⟩:=Rep.setElem (enc:=(λes=>[jo es])) (size:=1) (λ_=>rfl) (by decide) (aD.below bA (aAV _)) (by rw [kH _ _ _ hk];omega) (RepL.cons_ fO RepL.nil_) (Fresh.join hF (by simpa using iV) aB.size (λs hs=>Rep.lt _ aD s hs))
     rw [Nat.mul_one,vQ HX.out] at cM;rw [Nat.mul_one] at cF;refine ⟨k+1,by omega,by go_num,S',cM,e9,?_⟩
     exact (jB aB bA).trans (cF.below (by simpa using hF.2 g c8) (aBU aB.size bA.size))
    case measure=>simp [intOf];omega
  ·obtain rfl:k=l.length:=by omega
   clear aV
   go_wp2
   go_ret
   exact ⟨_,S1,rfl,by rw [vR] at aD;exact aD,hF,aB⟩
theorem jmP (x:Tk) (a:Value) (S:List Nat) (w:World) (own:Bool) (ha:AggRep w own (ji x) a S):
 Calls Tryz.prog 129 #[a] w (jeJ w (ji x)):=by
 obtain ⟨_,rfl,ha⟩:=ha;obtain ⟨rfl,rfl⟩:=kF ha;clear ha
 go_enter Tryz.func129,Tryz.ntmps129
 go_wp2
 exact bodyPost_ret (v:=.agg #[.int .i64 x.aAD,.int .i64 x.aAL,.int .i64 x.tri,.int .i64 x.til]) (by simp [results,Tryz.results129,go_sem]) rfl ⟨_,[],rfl,⟨_,rfl,ji4 _ _ _⟩,Fresh.nil _,by repeat (first|(with_reducible exact Below.refl _ _)|(with_reducible assumption)|((with_reducible refine Below.alloc ?_ ?_ _);rotate_left;focus (simp;try omega))|((with_reducible refine Below.setCell ?_ ?_ _);rotate_left;focus (simp;try omega))|(with_reducible refine jB ?_ (by assumption)))⟩
theorem jku (l:List (Tk)) (a:Value) (S:List Nat) (w:World) (own:Bool) (ha:Rep w own (ke l) a S) (bT:l.length<=2000000):
 Calls Tryz.prog 110 #[a] w (jfr w (ke l)):=by
 obtain ⟨A,c,rfl,bK,bI,aV⟩:=Rep.open_ (size:=4) (enc:=ji) (λ_=>rfl) (by decide) ha
 clear ha;have g8:=bT
 go_enter Tryz.func110,Tryz.ntmps110
 go_wp2_with (at_make;refine kB (enc:=ji) rfl _ _ rfl slTk (⟨0,0,0,0⟩:Tk) zTk .i64 .i64 _ _ l.length rfl rfl rfl rfl (by omega) (by unfold maxLen;omega) ?_;intro w1 A1 aX aH)
 go_loopw [4] (λi wr=>∃k:Nat,k<=l.length/\i=.int .i64 k/\jqM ji 4 tTk w (jcd l (⟨0,0,0,0⟩:Tk) k) (.slice A1 l.length l.length) wr) (λi _=>l.length-(intOf i).toNat)
 case atStart=>exact ⟨0,by omega,rfl,[w.heap.size],by rw [va];exact aX,Fresh.one _ _ (aAV _),aH⟩
 case round=>
  obtain ⟨k,hk,rfl,S1,aD,hF,aB⟩:=hrel;clear aX aH;by_cases aC:k<l.length
  ·obtain ⟨x,hx⟩:=jd aC
   obtain ⟨b1,o1,vk1,T1,rfl,-,aX,-,-,aH,aK⟩:=aV k x hx;clear aV;have HX:=Lib.hid hx;clear hx;obtain ⟨rfl,rfl⟩:=kF aX;obtain ⟨g,rfl,-,c8,hg,-⟩:=Rep.head (enc:=ji) (size:=4) (xs:=jcd l (⟨0,0,0,0⟩:Tk) k) (λ_=>rfl) (by decide) aD (by rw [kH _ _ _ hk];omega)
   ·skip
    have p0:=(aB.cell (p:=⟨b1,o1+k*4,none⟩) aH).trans (aK 0 _ rfl:w.cell? ⟨b1,o1+k*4,none⟩=_);have p1:=(aB.cell (p:=⟨b1,o1+k*4+1,none⟩) aH).trans (aK 1 _ rfl:w.cell? ⟨b1,o1+k*4+1,none⟩=_);have p2:=(aB.cell (p:=⟨b1,o1+k*4+2,none⟩) aH).trans (aK 2 _ rfl:w.cell? ⟨b1,o1+k*4+2,none⟩=_);have p3:=(aB.cell (p:=⟨b1,o1+k*4+3,none⟩) aH).trans (aK 3 _ rfl:w.cell? ⟨b1,o1+k*4+3,none⟩=_);clear aK
    go_wp2_with (first
    |(go_at_call 129;refine (jmP x _ _ _ _ ⟨_,rfl,aX.below aB (aAV _)⟩).mono ?_;rintro e w2 ⟨_,Sx,rfl,⟨vsx,rfl,fO⟩,iV,bA⟩)
    |((with_reducible refine jdN 143 21 20 ?_);refine kR (enc:=ji) (size:=4) (xs:=jcd l (⟨0,0,0,0⟩:Tk) k) rfl _ _ _ rfl (λ_=>rfl) (by decide) szTk jl8 (aD.below bA (aAV _)) (k:=k) (by rw [kH _ _ _ hk];omega) rfl rfl _ rfl x (by simpa using fO) w.heap.size (Fresh.join hF iV aB.size (λs hs=>Rep.lt _ aD s hs)) ?_;intro S' cM e9 cF _ _))
    go_roundw
    case rel=>
     rw [vQ HX.out] at cM;refine ⟨k+1,by omega,by go_num,S',cM,e9,?_⟩
     exact (jB aB bA).trans (cF.below (by simpa using hF.2 g c8) (aBU aB.size bA.size))
    case measure=>simp [intOf];omega
  ·obtain rfl:k=l.length:=by omega
   clear aV
   go_wp2
   go_ret
   exact ⟨_,S1,rfl,by rw [vR] at aD;exact aD,hF,aB⟩
theorem joY (x:Rn) (a:Value) (S:List Nat) (w:World) (own:Bool) (ha:AggRep w own (jc x) a S) (bT:qh x<=2000000):
 Calls Tryz.prog 75 #[a] w (jeJ w (jc x)):=by
 obtain ⟨_,rfl,ha⟩:=ha;obtain ⟨av0,av1,aS0,aS1,rfl,ah0,ah1,rfl⟩:=jI ha;clear ha;have fU:jcf x.aAF<=2000000:=by simp only [qh] at bT;omega
 have lY:x.aAB.length<=2000000:=by simp only [qh] at bT;omega
 go_enter Tryz.func75,Tryz.ntmps75
 go_wp2_with (first
  |(go_at_call 109;refine (jmR x.aAF _ _ _ _ ⟨_,rfl,jjo (ah0.below (by repeat (first|(with_reducible exact Below.refl _ _)|(with_reducible assumption)|((with_reducible refine Below.alloc ?_ ?_ _);rotate_left;focus (simp;try omega))|((with_reducible refine Below.setCell ?_ ?_ _);rotate_left;focus (simp;try omega))|(with_reducible refine jB ?_ (by assumption)))) (aAV _))⟩ fU).mono ?_;rintro e w1 ⟨_,S1,rfl,⟨_,rfl,aX⟩,dU,aH⟩;obtain ⟨r1v0,rfl,r1h0⟩:=zZ aX;obtain ⟨r1v0A,r1v0n,r1v0c,rfl⟩:=Rep.form r1h0;obtain ⟨bK,d5⟩:=qr aH;(have gZ:=aH.size);simp at gZ;(have aK:=(by omega:w.heap.size<w1.heap.size));(have pR:=(by omega:w.heap.size+1<w1.heap.size));(have dY:=(by omega:w.heap.size+1+1<w1.heap.size)))
  |(go_at_call 110;refine (jku x.aAB _ _ _ _ (ah1.below (by repeat (first|(with_reducible exact Below.refl _ _)|(with_reducible assumption)|((with_reducible refine Below.alloc ?_ ?_ _);rotate_left;focus (simp;try omega))|((with_reducible refine Below.setCell ?_ ?_ _);rotate_left;focus (simp;try omega))|(with_reducible refine jB ?_ (by assumption)))) (aAV _)) lY).mono ?_;rintro e w2 ⟨r2v0,S2,rfl,r2h0,mV,bA⟩;obtain ⟨r2v0A,r2v0n,r2v0c,rfl⟩:=Rep.form r2h0;obtain ⟨bI,nG⟩:=qr bA;(have nK:=bA.size);simp at nK;(have cB:=(by omega:w.heap.size<w2.heap.size));(have m8:=(by omega:w.heap.size+1<w2.heap.size));(have dX:=(by omega:w.heap.size+1+1<w2.heap.size))))
 refine bodyPost_ret (v:=.agg #[.int .i64 x.id,.int .i64 x.aAF.aAH,.int .i64 x.aAF.aAK,.int .i64 x.aAF.aAJ,.int .i64 x.aAF.aAB,.slice r1v0A r1v0n r1v0c,.int .i64 x.aAD,.slice r2v0A r2v0n r2v0c]) (by simp [results,Tryz.results75,go_sem,bK,bI,pR]) rfl ?_
 simp at dU;simp at mV;refine ⟨_,S1++S2,rfl,⟨_,rfl,jeM ?_ ?_⟩,?_,?_⟩
 ·repeat (first|(with_reducible exact r1h0)|((with_reducible refine jbj ?_ ?_);rotate_left;focus (intro b Z;have:=dU.2 b Z;simp;try omega))|(with_reducible refine Rep.below ?_ (by assumption) (aAV _)))
 ·repeat (first|(with_reducible exact r2h0)|((with_reducible refine jbj ?_ ?_);rotate_left;focus (intro b Z;have:=mV.2 b Z;simp;try omega))|(with_reducible refine Rep.below ?_ (by assumption) (aAV _)))
 ·exact Fresh.join (dU.mono (by omega)) mV (by omega) (λs hs=>Rep.lt _ r1h0 s hs)
 ·repeat (first|(with_reducible exact Below.refl _ _)|(with_reducible assumption)|((with_reducible refine Below.alloc ?_ ?_ _);rotate_left;focus (simp;try omega))|((with_reducible refine Below.setCell ?_ ?_ _);rotate_left;focus (simp;try omega))|(with_reducible refine jB ?_ (by assumption)))
theorem jmQ (l:List (Rn)) (a:Value) (S:List Nat) (w:World) (own:Bool) (ha:Rep w own (jC l) a S) (bT:qE l<=2000000):
 Calls Tryz.prog 44 #[a] w (jfr w (jC l)):=by
 obtain ⟨A,c,rfl,bK,bI,aV⟩:=Rep.open_ (size:=8) (enc:=jc) (λ_=>rfl) (by decide) ha
 clear ha;have g8:l.length<=2000000:=by simp only [qE] at bT;omega
 go_enter Tryz.func44,Tryz.ntmps44
 go_wp2_with (at_make;refine kB (enc:=jc) rfl _ _ rfl slRn (⟨0,⟨0,0,0,0,[]⟩,0,[]⟩:Rn) zRn .i64 .i64 _ _ l.length rfl rfl rfl rfl (by omega) (by unfold maxLen;omega) ?_;intro w1 A1 aX aH)
 go_loopw [4] (λi wr=>∃k:Nat,k<=l.length/\i=.int .i64 k/\jqM jc 8 tRn w (jcd l (⟨0,⟨0,0,0,0,[]⟩,0,[]⟩:Rn) k) (.slice A1 l.length l.length) wr) (λi _=>l.length-(intOf i).toNat)
 case atStart=>exact ⟨0,by omega,rfl,[w.heap.size],by rw [va];exact aX,Fresh.one _ _ (aAV _),aH⟩
 case round=>
  obtain ⟨k,hk,rfl,S1,aD,hF,aB⟩:=hrel;clear aX aH;by_cases aC:k<l.length
  ·obtain ⟨x,hx⟩:=jd aC
   obtain ⟨b1,o1,vk1,T1,rfl,-,aX,-,-,aH,aK⟩:=aV k x hx;clear aV;have HX:=Lib.hid hx;clear hx;obtain ⟨av0,av1,aS0,aS1,rfl,ah0,ah1,rfl⟩:=jI aX;obtain ⟨g,rfl,-,c8,hg,-⟩:=Rep.head (enc:=jc) (size:=8) (xs:=jcd l (⟨0,⟨0,0,0,0,[]⟩,0,[]⟩:Rn) k) (λ_=>rfl) (by decide) aD (by rw [kH _ _ _ hk];omega)
   ·skip
    have lX:qh x<=2000000:=by have:=jio (tot:=qh) HX.out;simp only [qE] at bT;omega
    have p0:=(aB.cell (p:=⟨b1,o1+k*8,none⟩) aH).trans (aK 0 _ rfl:w.cell? ⟨b1,o1+k*8,none⟩=_);have p1:=(aB.cell (p:=⟨b1,o1+k*8+1,none⟩) aH).trans (aK 1 _ rfl:w.cell? ⟨b1,o1+k*8+1,none⟩=_);have p2:=(aB.cell (p:=⟨b1,o1+k*8+2,none⟩) aH).trans (aK 2 _ rfl:w.cell? ⟨b1,o1+k*8+2,none⟩=_);have p3:=(aB.cell (p:=⟨b1,o1+k*8+3,none⟩) aH).trans (aK 3 _ rfl:w.cell? ⟨b1,o1+k*8+3,none⟩=_);have p4:=(aB.cell (p:=⟨b1,o1+k*8+4,none⟩) aH).trans (aK 4 _ rfl:w.cell? ⟨b1,o1+k*8+4,none⟩=_);have p5:=(aB.cell (p:=⟨b1,o1+k*8+5,none⟩) aH).trans (aK 5 _ rfl:w.cell? ⟨b1,o1+k*8+5,none⟩=_);have p6:=(aB.cell (p:=⟨b1,o1+k*8+6,none⟩) aH).trans (aK 6 _ rfl:w.cell? ⟨b1,o1+k*8+6,none⟩=_);have p7:=(aB.cell (p:=⟨b1,o1+k*8+7,none⟩) aH).trans (aK 7 _ rfl:w.cell? ⟨b1,o1+k*8+7,none⟩=_);clear aK
    go_wp2_with (first
    |(go_at_call 75;refine (joY x _ _ _ _ ⟨_,rfl,aX.below aB (aAV _)⟩ lX).mono ?_;rintro e w2 ⟨_,Sx,rfl,⟨vsx,rfl,fO⟩,iV,bA⟩)
    |((with_reducible refine jdN 112 21 20 ?_);refine kR (enc:=jc) (size:=8) (xs:=jcd l (⟨0,⟨0,0,0,0,[]⟩,0,[]⟩:Rn) k) rfl _ _ _ rfl (λ_=>rfl) (by decide) szRn jl9 (aD.below bA (aAV _)) (k:=k) (by rw [kH _ _ _ hk];omega) rfl rfl _ rfl x (by simpa using fO) w.heap.size (Fresh.join hF iV aB.size (λs hs=>Rep.lt _ aD s hs)) ?_;intro S' cM e9 cF _ _))
    go_roundw
    case rel=>
     rw [vQ HX.out] at cM;refine ⟨k+1,by omega,by go_num,S',cM,e9,?_⟩
     exact (jB aB bA).trans (cF.below (by simpa using hF.2 g c8) (aBU aB.size bA.size))
    case measure=>simp [intOf];omega
  ·obtain rfl:k=l.length:=by omega
   clear aV
   go_wp2
   go_ret
   exact ⟨_,S1,rfl,by rw [vR] at aD;exact aD,hF,aB⟩
theorem jmO (x:Yd) (a:Value) (S:List Nat) (w:World) (own:Bool) (ha:AggRep w own (jb x) a S) (bT:jG x<=2000000):
 Calls Tryz.prog 20 #[a] w (jeJ w (jb x)):=by
 obtain ⟨_,rfl,ha⟩:=ha;obtain ⟨av0,av1,aS0,aS1,rfl,ah0,ah1,rfl⟩:=kE ha;clear ha;have fU:vl x.aAE<=2000000:=by simp only [jG] at bT;omega
 have lY:qE x.aAG<=2000000:=by simp only [jG] at bT;omega
 go_enter Tryz.func20,Tryz.ntmps20
 go_wp2_with (first
  |(go_at_call 43;refine (jhz x.aAE _ _ _ _ (ah0.below (by repeat (first|(with_reducible exact Below.refl _ _)|(with_reducible assumption)|((with_reducible refine Below.alloc ?_ ?_ _);rotate_left;focus (simp;try omega))|((with_reducible refine Below.setCell ?_ ?_ _);rotate_left;focus (simp;try omega))|(with_reducible refine jB ?_ (by assumption)))) (aAV _)) fU).mono ?_;rintro e w1 ⟨r1v0,S1,rfl,r1h0,dU,aH⟩;obtain ⟨r1v0A,r1v0n,r1v0c,rfl⟩:=Rep.form r1h0;obtain ⟨bK,d5⟩:=qr aH;(have gZ:=aH.size);simp at gZ;(have aK:=(by omega:w.heap.size<w1.heap.size));(have pR:=(by omega:w.heap.size+1<w1.heap.size));(have dY:=(by omega:w.heap.size+1+1<w1.heap.size)))
  |(go_at_call 44;refine (jmQ x.aAG _ _ _ _ (ah1.below (by repeat (first|(with_reducible exact Below.refl _ _)|(with_reducible assumption)|((with_reducible refine Below.alloc ?_ ?_ _);rotate_left;focus (simp;try omega))|((with_reducible refine Below.setCell ?_ ?_ _);rotate_left;focus (simp;try omega))|(with_reducible refine jB ?_ (by assumption)))) (aAV _)) lY).mono ?_;rintro e w2 ⟨r2v0,S2,rfl,r2h0,mV,bA⟩;obtain ⟨r2v0A,r2v0n,r2v0c,rfl⟩:=Rep.form r2h0;obtain ⟨bI,nG⟩:=qr bA;(have nK:=bA.size);simp at nK;(have cB:=(by omega:w.heap.size<w2.heap.size));(have m8:=(by omega:w.heap.size+1<w2.heap.size));(have dX:=(by omega:w.heap.size+1+1<w2.heap.size))))
 refine bodyPost_ret (v:=.agg #[.int .i64 x.now,.int .i64 x.seq,.slice r1v0A r1v0n r1v0c,.slice r2v0A r2v0n r2v0c]) (by simp [results,Tryz.results20,go_sem,bK,bI,pR]) rfl ?_
 simp at dU;simp at mV;refine ⟨_,S1++S2,rfl,⟨_,rfl,jc6 ?_ ?_⟩,?_,?_⟩
 ·repeat (first|(with_reducible exact r1h0)|((with_reducible refine jbj ?_ ?_);rotate_left;focus (intro b Z;have:=dU.2 b Z;simp;try omega))|(with_reducible refine Rep.below ?_ (by assumption) (aAV _)))
 ·repeat (first|(with_reducible exact r2h0)|((with_reducible refine jbj ?_ ?_);rotate_left;focus (intro b Z;have:=mV.2 b Z;simp;try omega))|(with_reducible refine Rep.below ?_ (by assumption) (aAV _)))
 ·exact Fresh.join (dU.mono (by omega)) mV (by omega) (λs hs=>Rep.lt _ r1h0 s hs)
 ·repeat (first|(with_reducible exact Below.refl _ _)|(with_reducible assumption)|((with_reducible refine Below.alloc ?_ ?_ _);rotate_left;focus (simp;try omega))|((with_reducible refine Below.setCell ?_ ?_ _);rotate_left;focus (simp;try omega))|(with_reducible refine jB ?_ (by assumption)))
open Go.RowKit Go.ChangeShapes Go.WideShapes Go.Deep Go.ChangeAt
def inR (n:Int):Prop:=-9223372036854775808<=n/\n<=9223372036854775807
def Pl.wf (p:Pl):Prop:=inR p.aAH/\inR p.aAK/\inR p.aAJ/\inR p.aAB/\∀e∈p.aAC,inR e.src/\inR e.dst
def En.wf (e:En):Prop:=inR e.aAH/\inR e.seq/\inR e.run/\inR e.aAI
def Tk.wf (e:Tk):Prop:=inR e.aAD/\inR e.aAL/\inR e.tri/\inR e.til
def Rn.wf (r:Rn):Prop:=inR r.id/\r.aAF.wf/\inR r.aAD/\∀t∈r.aAB,t.wf
def Yd.wf (y:Yd):Prop:=inR y.now/\inR y.seq/\(∀l∈y.aAE,∀e∈l,e.wf)/\∀r∈y.aAG,r.wf
def ReadsAs (P:Program) (t:TypeId) {α:Type} (E:α->List D) (W:α->Prop):Prop:=
 ∀(H:Type) (enc:TypeId×Value->H) (w:World) (base:Nat) (spare:Nat->Bool) (bN:Bool) (n:Nat) (cs:List Value) (y:DataW H×List MemPlace),
  DataW.trod enc P w base spare bN n t cs=some y->∃x,W x/\∃S,RepL w false (E x) cs S
def jov (H:Type) (enc:TypeId×Value->H) (P:Program) (w:World) (base:Nat) (spare:Nat->Bool) (bN:Bool) (n:Nat):List Field->List Value->Prop
 |[],cs=>cs=[]
 |f::l,cs=>(∃y,DataW.trod enc P w base spare bN n f.type (cs.take (P.cellsOf f.type))=some y)/\jov H enc P w base spare bN n l (cs.drop (P.cellsOf f.type))
def jdR (P:Program) (l:List Field) {α:Type} (E:α->List D) (W:α->Prop):Prop:=
 ∀(H:Type) (enc:TypeId×Value->H) (w:World) (base:Nat) (spare:Nat->Bool) (bN:Bool) (n:Nat) (cs:List Value),jov H enc P w base spare bN n l cs->∃x,W x/\∃S,RepL w false (E x) cs S
def jk4 (P:Program):List Field->Nat->Nat->Bool
 |[],off,tot=>off==tot
 |f::l,off,tot=>f.offset==off&&jk4 P l (off+P.cellsOf f.type) tot
section
variable {P:Program} {t e:TypeId} {α β:Type} {E:α->List D} {E':β->List D} {W:α->Prop} {W':β->Prop}
theorem ReadsAs.map (h:ReadsAs P t E W) (g:α->β) (hE:∀a,E' (g a)=E a) (hW:∀a,W a->W' (g a)):ReadsAs P t E' W':=by
 intro H enc w base spare bN n cs y hy;obtain ⟨x,hx,S,hr⟩:=h H enc w base spare bN n cs y hy;exact ⟨g x,hW x hx,S,by rw [hE];exact hr⟩
theorem jrC (ht:P.underlying t=some (.int .i64)):ReadsAs P t (λn=>[iv n]) inR:=by
 intro H enc w base spare bN n cs y hy;obtain ⟨i,rfl,_,hw⟩:=DataW.trod_int ht hy;refine ⟨i,?_,[],RepL.val_ RepL.nil_⟩;simpa [Lit.wf,IntKind.min,IntKind.max,IntKind.signed,IntKind.bits,inR] using hw
theorem zx:jdR P [] (λ_:Unit=>[]) (λ_=>True):=by
 intro H enc w base spare bN n cs h;cases cs with
 |nil=>exact ⟨(),trivial,[],RepL.nil_⟩
 |cons c cs=>exact absurd h (by simp [jov])
theorem jw {f:Field} {l:List Field} (h:ReadsAs P f.type E W) (k:jdR P l E' W'):jdR P (f::l) (λp:α×β=>E p.1++E' p.2) (λp=>W p.1/\W' p.2):=by
 intro H enc w base spare bN n cs hs;obtain ⟨⟨y,hy⟩,hs⟩:=hs;obtain ⟨x,hx,S,hr⟩:=h H enc w base spare bN n _ y hy;obtain ⟨x',cL,S',cM⟩:=k H enc w base spare bN n _ hs;refine ⟨(x,x'),⟨hx,cL⟩,S++S',?_⟩;have:=RepL.append_ _ hr cM
 rwa [aCO] at this
theorem joD {H:Type} {enc:TypeId×Value->H} {w:World} {base:Nat} {spare:Nat->Bool} {bN:Bool} {n:Nat}:∀(l:List Field) (off tot:Nat) (cs:List Value),jk4 P l off tot=true->cs.length=tot->
 (∀f∈l,∃y,DataW.trod enc P w base spare bN n f.type ((cs.drop f.offset).take (P.cellsOf f.type))=some y)->jov H enc P w base spare bN n l (cs.drop off)
 |[],off,tot,cs,h,hl,_=>by
  simp [jk4] at h;exact List.drop_eq_nil_of_le (by omega)
 |f::l,off,tot,cs,h,hl,hf=>by
  simp only [jk4,aBH,aDH] at h;obtain ⟨y,hy⟩:=hf f (by simp)
  rw [h.1] at hy;refine ⟨⟨y,hy⟩,?_⟩;rw [List.drop_drop];exact joD l _ tot cs h.2 hl λg hg=>hf g (by simp [hg])
theorem kC {fs:Array Field} (ht:P.underlying t=some (.struct fs)) (hs:jk4 P fs.toList 0 (P.cellsOf t)=true) (h:jdR P fs.toList E W):ReadsAs P t E W:=by
 intro H enc w base spare bN n cs y hy;obtain ⟨xs,m,_,_,aJ,i7,hf⟩:=DataW.trod_struct ht hy
 have:=joD (H:=H) (enc:=enc) (w:=w) (base:=base) (spare:=spare) (bN:=bN) (n:=m) fs.toList 0 _ cs hs aJ (λf xZ=>by
  obtain ⟨i,hi,rfl⟩:=aBS xZ;have eP:i<fs.size:=by simpa using hi
  refine ⟨xs[i]'(by omega),?_⟩
  have V:=hf i fs[i] (Array.getElem?_eq_getElem eP);rw [aAT (by omega)] at V
  simpa using V)
 rw [List.drop_zero] at this;exact h H enc w base spare bN m cs this
theorem jml {w:World} {a:Addr} {v:Value} (h:w.cell? a=some v):a=⟨a.block,a.off,none⟩:=by
 obtain ⟨b,o,s⟩:=a;cases s with
 |none=>rfl
 |some s=>simp only [World.cell?] at h;split at h<;>simp at h
theorem vN {size:Nat} {ty:TypeId} (ht:P.underlying t=some (.slice e)) (h:ReadsAs P e E W) (hc:P.cellsOf e=size) (hl:∀x,(E x).length=size) (_hs:0<size):
 ReadsAs P t (λxs:List α=>[.sl size ty (xs.flatMap E)]) (λxs=>∀x∈xs,W x):=by
 intro H enc w base spare bN n cs y hy;rcases open_slice ht hy with ⟨rfl,_⟩|⟨a,len,cap,m,n',D',Pl,rfl,Z,oX,gW,hm,_,hi⟩
 ·have aD:Rep w false (.sl size ty (List.flatMap E [])) (.slice none 0 0) []:=⟨[],[],[],⟨by simp,none,0,0,rfl,by simp,aAV _,aBR _,λ_=>rfl,by simp⟩,RepL.nil_,rfl⟩
  exact ⟨[],by simp,[],RepL.cons_ aD RepL.nil_⟩
 ·have nE:len<=m:=by rw [hm];split<;>omega
  have key:∀k,k<=len->∃(xs:List α) (vs:List Value) (S:List Nat),xs.length=k/\(∀x∈xs,W x)/\RepL w false (xs.flatMap E) vs S/\∀j u,vs[j]?=some u->w.cell? (a.add j)=some u:=by
   intro k
   induction k with
   |zero=>exact λ_=>⟨[],[],[],rfl,by simp,RepL.nil_,by simp⟩
   |succ k ih=>
    intro hk;obtain ⟨xs,vs,S,i7,hW,hr,aZ⟩:=ih (by omega)
    obtain ⟨cs',lL,bZ⟩:=hi k (by omega)
    obtain ⟨x,hx,S',cM⟩:=h H enc w base spare bN n' cs' _ bZ;obtain ⟨_,cJ,e8⟩:=World.cells?_some lL;rw [hc] at e8 cJ;have cQ:vs.length=k*size:=by rw [RepL.length _ hr,jF hl,i7]
    refine ⟨xs++[x],vs++cs',S++S',by simp [i7],?_,?_,?_⟩
    ·intro z hz
     rcases aAS.1 hz with hz|hz
     ·exact hW z hz
     ·simp at hz;subst hz;exact hx
    ·rw [aCB]
     exact RepL.append_ _ hr (by simpa using cM)
    ·intro j u hu
     by_cases hj:j<vs.length
     ·rw [aBZ hj] at hu
      exact aZ j u hu
     ·rw [aBT (by omega)] at hu
      have bE:j-vs.length<cs'.length:=(aAR.1 hu).1;have Y:=e8 (j-vs.length) (by omega)
      rw [hu,add_add,show k*size+(j-vs.length)=j by omega] at Y
      exact Y
  obtain ⟨xs,vs,S,i7,hW,hr,aZ⟩:=key len (aAV _);have cQ:vs.length=len*size:=by rw [RepL.length _ hr,jF hl,i7]
  refine ⟨xs,hW,?_⟩;by_cases a7:vs=[]
  ·subst a7
   refine ⟨S,?_⟩;have aD:Rep w false (.sl size ty (xs.flatMap E)) (.slice (some a) len cap) S:=⟨[],[],S,⟨by simp,some a,len,cap,rfl,cQ,oX,gW,(λe=>nomatch e),by simp⟩,hr,rfl⟩
   have:=RepL.cons_ aD (RepL.nil_ (w:=w) (own:=false));simpa using this
  ·obtain ⟨u,us,rfl⟩:=List.exists_cons_of_ne_nil a7
   have h0:=aZ 0 u rfl;have ha:a.add 0=a:=by simp [Addr.add]
   rw [ha] at h0;have fE:=jml h0;have aC:=World.block_lt_of_cell? w _ h0;refine ⟨[a.block]++S,?_⟩
   have aD:Rep w false (.sl size ty (xs.flatMap E)) (.slice (some a) len cap) ([a.block]++S):=by
    refine ⟨u::us,[a.block],S,⟨by simpa using aC,some a,len,cap,rfl,cQ,oX,gW,(λe=>nomatch e),λ_=>⟨a.block,a.off,by rw [<-fE],rfl,λj v hv=>?_⟩⟩,hr,rfl⟩
    have:=aZ j v hv;rw [fE] at this
    rwa [Addr.add_mid] at this
   have:=RepL.cons_ aD (RepL.nil_ (w:=w) (own:=false));simpa using this
end
theorem jci:ReadsAs Tryz.prog 3 (λn=>[iv n]) inR:=jrC (by kernel_rfl)
theorem rEdge:ReadsAs Tryz.prog 174 jy (λe=>inR e.src/\inR e.dst):=
 (kC Tryz.underlying174 (by kernel_rfl) (jw jci (jw jci zx))).map (λp=>⟨p.1,p.2.1⟩) (λ_=>rfl) (λ_ h=>⟨h.1,h.2.1⟩)
theorem jrM:ReadsAs Tryz.prog 98 (λl=>[jL l]) (λl=>∀e∈l,inR e.src/\inR e.dst):=
 vN (size:=2) (ty:=tEd) Tryz.underlying98 rEdge (by kernel_rfl) (λ_=>rfl) (by decide)
theorem rPlan:ReadsAs Tryz.prog 100 ja Pl.wf:=
 (kC Tryz.underlying100 (by kernel_rfl) (jw jci (jw jci (jw jci (jw jci (jw jrM zx)))))).map (λp=>⟨p.1,p.2.1,p.2.2.1,p.2.2.2.1,p.2.2.2.2.1⟩) (λ_=>rfl) (λ_ h=>⟨h.1,h.2.1,h.2.2.1,h.2.2.2.1,h.2.2.2.2.1⟩)
theorem jrL:ReadsAs Tryz.prog 148 jk En.wf:=
 (kC Tryz.underlying148 (by kernel_rfl) (jw jci (jw jci (jw jci (jw jci zx))))).map (λp=>⟨p.1,p.2.1,p.2.2.1,p.2.2.2.1⟩) (λ_=>rfl) (λ_ h=>⟨h.1,h.2.1,h.2.2.1,h.2.2.2.1⟩)
theorem jpu:ReadsAs Tryz.prog 96 (λl=>[jo l]) (λl=>∀e∈l,En.wf e):=
 vN (size:=4) (ty:=tEn) Tryz.underlying96 jrL (by kernel_rfl) (λ_=>rfl) (by decide)
theorem jnq:ReadsAs Tryz.prog 22 (λl=>[jX l]) (λl=>∀es∈l,∀e∈es,En.wf e):=
 vN (size:=1) (ty:=jmW) Tryz.underlying22 jpu (by kernel_rfl) (λ_=>rfl) (by decide)
theorem rTask:ReadsAs Tryz.prog 167 ji Tk.wf:=
 (kC Tryz.underlying167 (by kernel_rfl) (jw jci (jw jci (jw jci (jw jci zx))))).map (λp=>⟨p.1,p.2.1,p.2.2.1,p.2.2.2.1⟩) (λ_=>rfl) (λ_ h=>⟨h.1,h.2.1,h.2.2.1,h.2.2.2.1⟩)
theorem jrI:ReadsAs Tryz.prog 101 (λl=>[ke l]) (λl=>∀e∈l,Tk.wf e):=
 vN (size:=4) (ty:=tTk) Tryz.underlying101 rTask (by kernel_rfl) (λ_=>rfl) (by decide)
theorem rRun:ReadsAs Tryz.prog 103 jc Rn.wf:=
 (kC Tryz.underlying103 (by kernel_rfl) (jw jci (jw rPlan (jw jci (jw jrI zx))))).map (λp=>⟨p.1,p.2.1,p.2.2.1,p.2.2.2.1⟩) (λ_=>rfl) (λ_ h=>⟨h.1,h.2.1,h.2.2.1,h.2.2.2.1⟩)
theorem rRunS:ReadsAs Tryz.prog 23 (λl=>[jC l]) (λl=>∀e∈l,Rn.wf e):=
 vN (size:=8) (ty:=tRn) Tryz.underlying23 rRun (by kernel_rfl) jma (by decide)
theorem rYard:ReadsAs Tryz.prog 25 jb Yd.wf:=
 (kC Tryz.underlying25 (by kernel_rfl) (jw jci (jw jci (jw jnq (jw rRunS zx))))).map (λp=>⟨p.1,p.2.1,p.2.2.1,p.2.2.2.1⟩) (λ_=>rfl) (λ_ h=>⟨h.1,h.2.1,h.2.2.1,h.2.2.2.1⟩)
open Go.RowKit Go.Sort Go.BigFrame
theorem ci {P:Program} {f:FuncId} {args:Array Value} {w:World} {b b':Int} (h:Calls P f args w λe w'=>e=.returned (.int .i64 b)/\Below w.heap.size w w') (Z:b=b'):Calls P f args w λe w'=>e=.returned (.int .i64 b')/\Below w.heap.size w w':=by subst Z;exact h
section
variable {w w':World} {own:Bool} {d:D} {v:Value} {S:List Nat}
theorem upA (h:Rep w own d v S) (o:Obj):Rep (w.alloc o) own d v S:=Rep.keep d h λb Z=>Below.heap_alloc w o b (Rep.lt d h b Z)
theorem up (h:Rep w own d v S) (Z:Below w.heap.size w w'):Rep w' own d v S:=h.below Z (aAV _)
theorem upB {w0:World} (h:Below w0.heap.size w0 w) (o:Obj):Below w0.heap.size w0 (w.alloc o):=h.alloc h.size o
end
