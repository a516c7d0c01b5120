/- Parts. -/
import Derived.Test.YtmnpailnelmpiaaGreatQData
set_option linter.unusedSimpArgs false
set_option linter.unusedVariables false
set_option maxHeartbeats 1000000
namespace Go.Proofs.YtmnpailnelmpiaaGreat
open Go.RowKit Go.Sort Go.BigFrame
theorem jrK (l:List Ed) (a:Value) (S:List Nat) (w:World) (own:Bool) (left:Int) (ha:Rep w own (jA l) a S) (h0:0≤left) (h1:left≤1048576):
 Calls Tryz.prog 182 #[a,.int .i64 left] w fun e w'=>e=.returned (.int .i64 (szf l.length left))∧Below w.heap.size w w':=by
 obtain ⟨A,c,rfl,hc1,hc2,hca⟩:=Rep.open_ (size:=2) (enc:=jH) (fun _=>rfl) (by decide) ha
 clear ha hca;unfold maxLen at hc2;have hl1:l.length≤9223372036854775807:=by omega
 have hs:=kz l.length left
 go_enter Tryz.func182,Tryz.ntmps182
 go_wp2
 all_goals go_ret
 all_goals exact ⟨kM (by omega),Below.refl _ _⟩
theorem joC (x:Pl) (a:Value) (S:List Nat) (w:World) (own:Bool) (left:Int) (ha:AggRep w own (ja x) a S) (h0:0≤left) (h1:left≤1048576):
 Calls Tryz.prog 103 #[a,.int .i64 left] w fun e w'=>e=.returned (.int .i64 (szf (zP x) left))∧Below w.heap.size w w':=by
 obtain ⟨_,rfl,ha⟩:=ha;obtain ⟨av0,rfl,ah0⟩:=vB ha;clear ha;have hs0:=kz (x.edges.length) (left);have hs:=kz (zP x) left;have ht:zP x=x.edges.length:=rfl;rw [ht] at hs;have HT:=Lib.hid ht;clear ht
 go_enter Tryz.func103,Tryz.ntmps103
 go_wp2_with (first
  |(go_at_call 182;refine (jrK x.edges _ _ _ _ _ (ah0.below (by repeat (first|(with_reducible exact Below.refl _ _)|(with_reducible assumption)|((with_reducible refine Below.alloc ?_ ?_ _);rotate_left;focus (simp;try omega))|((with_reducible refine Below.setCell ?_ ?_ _);rotate_left;focus (simp;try omega))|(with_reducible refine jv ?_ (by assumption)))) (Nat.le_refl _)) (by omega) (by omega)).mono ?_;rintro e w1 ⟨rfl,hb1⟩;obtain ⟨hc1,hf1⟩:=kX hb1))
 all_goals go_ret
 all_goals exact ⟨kM (HT.out▸(by omega)),by repeat (first|(with_reducible exact Below.refl _ _)|(with_reducible assumption)|((with_reducible refine Below.alloc ?_ ?_ _);rotate_left;focus (simp;try omega))|((with_reducible refine Below.setCell ?_ ?_ _);rotate_left;focus (simp;try omega))|(with_reducible refine jv ?_ (by assumption)))⟩
theorem jpM (l:List En) (a:Value) (S:List Nat) (w:World) (own:Bool) (left:Int) (ha:Rep w own (ji l) a S) (h0:0≤left) (h1:left≤1048576):
 Calls Tryz.prog 180 #[a,.int .i64 left] w fun e w'=>e=.returned (.int .i64 (szf l.length left))∧Below w.heap.size w w':=by
 obtain ⟨A,c,rfl,hc1,hc2,hca⟩:=Rep.open_ (size:=4) (enc:=jf) (fun _=>rfl) (by decide) ha
 clear ha hca;unfold maxLen at hc2;have hl1:l.length≤9223372036854775807:=by omega
 have hs:=kz l.length left
 go_enter Tryz.func180,Tryz.ntmps180
 go_wp2
 all_goals go_ret
 all_goals exact ⟨kM (by omega),Below.refl _ _⟩
theorem jnq (l:List (List En)) (a:Value) (S:List Nat) (w:World) (own:Bool) (left:Int) (ha:Rep w own (kt l) a S) (h0:0≤left) (h1:left≤1048576):
 Calls Tryz.prog 101 #[a,.int .i64 left] w fun e w'=>e=.returned (.int .i64 (szf (vL l) left))∧Below w.heap.size w w':=by
 obtain ⟨A,c,rfl,hc1,hc2,hca⟩:=Rep.open_ (size:=1) (enc:=(fun es=>[ji es])) (fun _=>rfl) (by decide) ha
 clear ha;unfold maxLen at hc2;have hl1:l.length≤9223372036854775807:=by omega
 have hs:=kz (vL l) left;have ht:vL l=l.length+kj kO l:=rfl;rw [ht] at hs;have HT:=Lib.hid ht;clear ht;by_cases hneg:left-(l.length:Int)<0
 ·clear hca
  go_enter Tryz.func101,Tryz.ntmps101
  go_wp2
  go_ret
  exact ⟨kM (by rw [HT.out];omega),Below.refl _ _⟩
 ·go_enter Tryz.func101,Tryz.ntmps101
  go_wp2
  go_loopw [1,5] (fun q i wr=>∃(k:Nat) (v:Int),k≤l.length∧i=.int .i64 k∧q=.int .i64 v∧0≤v∧v=left-l.length-kj kO (l.take k)∧Below w.heap.size w wr) (fun _ i _=>l.length-(intOf i).toNat)
  case atStart=>exact ⟨0,left-l.length,by omega,rfl,rfl,by omega,by simp [kj],Below.refl _ _⟩
  case round=>
   obtain ⟨k,v,hk,rfl,rfl,hv0,hv,hbel⟩:=hrel;by_cases hlt:k<l.length
   ·obtain ⟨x,hx⟩:=je hlt
    obtain ⟨b1,o1,vk1,T1,rfl,-,hr1,-,-,hb1,hx1⟩:=hca k x hx;clear hca;obtain ⟨au,_,aS0,aS1,rfl,rfl,ah0,rfl,rfl⟩:=hr1;have htk:=kJ (tot:=kO) hx;have htl:=qD kO l (k+1);have hsx:=kz (kO x) v;have hv1:v≤1048576:=by omega
    have HV:=Lib.hid hv;have HK:=Lib.hid htk;clear hx hv htk;have p0:=(hbel.cell (p:=⟨b1,o1+k,none⟩) hb1).trans (by simpa using hx1 0 _ rfl:w.cell? ⟨b1,o1+k,none⟩=_)
    clear hx1
    go_wp2_with (go_at_call 180;refine (jpM x _ _ _ _ _ (ah0.below hbel (Nat.le_refl _)) (by omega) (by omega)).mono ?_;rintro e w2 ⟨rfl,hb2⟩)
    ·go_ret
     have hv:=HV.out;have htk:=HK.out;exact ⟨kM (by rw [HT.out];(try simp only [kO] at*);omega),jv hbel hb2⟩
    ·go_roundw
     case rel=>
      have hv:=HV.out;have htk:=HK.out;refine ⟨k+1,_,by omega,by go_num,rfl,by omega,?_,jv hbel hb2⟩
      try simp only [kO] at*
      omega
     case measure=>simp [intOf];omega
   ·obtain rfl:k=l.length:=by omega
    clear hca;rw [List.take_length] at hv;have HV:=Lib.hid hv;clear hv
    go_wp2
    go_ret
    have hv:=HV.out;exact ⟨kM (by rw [HT.out];omega),hbel⟩
theorem jrI (l:List Tk) (a:Value) (S:List Nat) (w:World) (own:Bool) (left:Int) (ha:Rep w own (jx l) a S) (h0:0≤left) (h1:left≤1048576):
 Calls Tryz.prog 255 #[a,.int .i64 left] w fun e w'=>e=.returned (.int .i64 (szf l.length left))∧Below w.heap.size w w':=by
 obtain ⟨A,c,rfl,hc1,hc2,hca⟩:=Rep.open_ (size:=4) (enc:=jn) (fun _=>rfl) (by decide) ha
 clear ha hca;unfold maxLen at hc2;have hl1:l.length≤9223372036854775807:=by omega
 have hs:=kz l.length left
 go_enter Tryz.func255,Tryz.ntmps255
 go_wp2
 all_goals go_ret
 all_goals exact ⟨kM (by omega),Below.refl _ _⟩
theorem jw3 (x:Rn) (a:Value) (S:List Nat) (w:World) (own:Bool) (left:Int) (ha:AggRep w own (jd x) a S) (h0:0≤left) (h1:left≤1048576):
 Calls Tryz.prog 181 #[a,.int .i64 left] w fun e w'=>e=.returned (.int .i64 (szf (km x) left))∧Below w.heap.size w w':=by
 obtain ⟨_,rfl,ha⟩:=ha;obtain ⟨av0,av1,aS0,aS1,rfl,ah0,ah1,rfl⟩:=kh ha;clear ha;have hs0:=kz (zP x.plan) (left);have hs1:=kz (x.tasks.length) (szf (zP x.plan) (left));have hs:=kz (km x) left;have ht:km x=zP x.plan+x.tasks.length:=rfl;rw [ht] at hs;have HT:=Lib.hid ht;clear ht
 go_enter Tryz.func181,Tryz.ntmps181
 go_wp2_with (first
  |(go_at_call 103;refine (joC x.plan _ _ _ _ _ ⟨_,rfl,jfN (ah0.below (by repeat (first|(with_reducible exact Below.refl _ _)|(with_reducible assumption)|((with_reducible refine Below.alloc ?_ ?_ _);rotate_left;focus (simp;try omega))|((with_reducible refine Below.setCell ?_ ?_ _);rotate_left;focus (simp;try omega))|(with_reducible refine jv ?_ (by assumption)))) (Nat.le_refl _))⟩ (by omega) (by omega)).mono ?_;rintro e w1 ⟨rfl,hb1⟩;obtain ⟨hc1,hf1⟩:=kX hb1)
  |(go_at_call 255;refine (jrI x.tasks _ _ _ _ _ (ah1.below (by repeat (first|(with_reducible exact Below.refl _ _)|(with_reducible assumption)|((with_reducible refine Below.alloc ?_ ?_ _);rotate_left;focus (simp;try omega))|((with_reducible refine Below.setCell ?_ ?_ _);rotate_left;focus (simp;try omega))|(with_reducible refine jv ?_ (by assumption)))) (Nat.le_refl _)) (by omega) (by omega)).mono ?_;rintro e w2 ⟨rfl,hb2⟩;obtain ⟨hc2,hf2⟩:=kX hb2))
 all_goals go_ret
 all_goals exact ⟨kM (HT.out▸(by omega)),by repeat (first|(with_reducible exact Below.refl _ _)|(with_reducible assumption)|((with_reducible refine Below.alloc ?_ ?_ _);rotate_left;focus (simp;try omega))|((with_reducible refine Below.setCell ?_ ?_ _);rotate_left;focus (simp;try omega))|(with_reducible refine jv ?_ (by assumption)))⟩
theorem juC (l:List (Rn)) (a:Value) (S:List Nat) (w:World) (own:Bool) (left:Int) (ha:Rep w own (jM l) a S) (h0:0≤left) (h1:left≤1048576):
 Calls Tryz.prog 102 #[a,.int .i64 left] w fun e w'=>e=.returned (.int .i64 (szf (qz l) left))∧Below w.heap.size w w':=by
 obtain ⟨A,c,rfl,hc1,hc2,hca⟩:=Rep.open_ (size:=8) (enc:=jd) (fun _=>rfl) (by decide) ha
 clear ha;unfold maxLen at hc2;have hl1:l.length≤9223372036854775807:=by omega
 have hs:=kz (qz l) left;have ht:qz l=l.length+kj km l:=rfl;rw [ht] at hs;have HT:=Lib.hid ht;clear ht;by_cases hneg:left-(l.length:Int)<0
 ·clear hca
  go_enter Tryz.func102,Tryz.ntmps102
  go_wp2
  go_ret
  exact ⟨kM (by rw [HT.out];omega),Below.refl _ _⟩
 ·go_enter Tryz.func102,Tryz.ntmps102
  go_wp2
  go_loopw [1,5] (fun q i wr=>∃(k:Nat) (v:Int),k≤l.length∧i=.int .i64 k∧q=.int .i64 v∧0≤v∧v=left-l.length-kj km (l.take k)∧Below w.heap.size w wr) (fun _ i _=>l.length-(intOf i).toNat)
  case atStart=>exact ⟨0,left-l.length,by omega,rfl,rfl,by omega,by simp [kj],Below.refl _ _⟩
  case round=>
   obtain ⟨k,v,hk,rfl,rfl,hv0,hv,hbel⟩:=hrel;by_cases hlt:k<l.length
   ·obtain ⟨x,hx⟩:=je hlt
    obtain ⟨b1,o1,vk1,T1,rfl,-,hr1,-,-,hb1,hx1⟩:=hca k x hx;clear hca;obtain ⟨av0,av1,aS0,aS1,rfl,ah0,ah1,rfl⟩:=kh hr1;have htk:=kJ (tot:=km) hx;have htl:=qD km l (k+1);have hsx:=kz (km x) v;have hv1:v≤1048576:=by omega
    have HV:=Lib.hid hv;have HK:=Lib.hid htk;clear hx hv htk;have p0:=(hbel.cell (p:=⟨b1,o1+k*8,none⟩) hb1).trans (hx1 0 _ rfl:w.cell? ⟨b1,o1+k*8,none⟩=_);have p1:=(hbel.cell (p:=⟨b1,o1+k*8+1,none⟩) hb1).trans (hx1 1 _ rfl:w.cell? ⟨b1,o1+k*8+1,none⟩=_);have p2:=(hbel.cell (p:=⟨b1,o1+k*8+2,none⟩) hb1).trans (hx1 2 _ rfl:w.cell? ⟨b1,o1+k*8+2,none⟩=_);have p3:=(hbel.cell (p:=⟨b1,o1+k*8+3,none⟩) hb1).trans (hx1 3 _ rfl:w.cell? ⟨b1,o1+k*8+3,none⟩=_);have p4:=(hbel.cell (p:=⟨b1,o1+k*8+4,none⟩) hb1).trans (hx1 4 _ rfl:w.cell? ⟨b1,o1+k*8+4,none⟩=_);have p5:=(hbel.cell (p:=⟨b1,o1+k*8+5,none⟩) hb1).trans (hx1 5 _ rfl:w.cell? ⟨b1,o1+k*8+5,none⟩=_);have p6:=(hbel.cell (p:=⟨b1,o1+k*8+6,none⟩) hb1).trans (hx1 6 _ rfl:w.cell? ⟨b1,o1+k*8+6,none⟩=_);have p7:=(hbel.cell (p:=⟨b1,o1+k*8+7,none⟩) hb1).trans (hx1 7 _ rfl:w.cell? ⟨b1,o1+k*8+7,none⟩=_);clear hx1
    go_wp2_with (go_at_call 181;refine (jw3 x _ _ _ _ _ ⟨_,rfl,hr1.below hbel (Nat.le_refl _)⟩ (by omega) (by omega)).mono ?_;rintro e w2 ⟨rfl,hb2⟩)
    ·go_ret
     have hv:=HV.out;have htk:=HK.out;exact ⟨kM (by rw [HT.out];(try simp only [kO] at*);omega),jv hbel hb2⟩
    ·go_roundw
     case rel=>
      have hv:=HV.out;have htk:=HK.out;refine ⟨k+1,_,by omega,by go_num,rfl,by omega,?_,jv hbel hb2⟩
      try simp only [kO] at*
      omega
     case measure=>simp [intOf];omega
   ·obtain rfl:k=l.length:=by omega
    clear hca;rw [List.take_length] at hv;have HV:=Lib.hid hv;clear hv
    go_wp2
    go_ret
    have hv:=HV.out;exact ⟨kM (by rw [HT.out];omega),hbel⟩
theorem juB (x:Yd) (a:Value) (S:List Nat) (w:World) (own:Bool) (left:Int) (ha:AggRep w own (jb x) a S) (h0:0≤left) (h1:left≤1048576):
 Calls Tryz.prog 28 #[a,.int .i64 left] w fun e w'=>e=.returned (.int .i64 (szf (jt x) left))∧Below w.heap.size w w':=by
 obtain ⟨_,rfl,ha⟩:=ha;obtain ⟨av0,av1,aS0,aS1,rfl,ah0,ah1,rfl⟩:=qe ha;clear ha;have hs0:=kz (vL x.shelf) (left);have hs1:=kz (qz x.runs) (szf (vL x.shelf) (left));have hs:=kz (jt x) left;have ht:jt x=vL x.shelf+qz x.runs:=rfl;rw [ht] at hs;have HT:=Lib.hid ht;clear ht
 go_enter Tryz.func28,Tryz.ntmps28
 go_wp2_with (first
  |(go_at_call 101;refine (jnq x.shelf _ _ _ _ _ (ah0.below (by repeat (first|(with_reducible exact Below.refl _ _)|(with_reducible assumption)|((with_reducible refine Below.alloc ?_ ?_ _);rotate_left;focus (simp;try omega))|((with_reducible refine Below.setCell ?_ ?_ _);rotate_left;focus (simp;try omega))|(with_reducible refine jv ?_ (by assumption)))) (Nat.le_refl _)) (by omega) (by omega)).mono ?_;rintro e w1 ⟨rfl,hb1⟩;obtain ⟨hc1,hf1⟩:=kX hb1)
  |(go_at_call 102;refine (juC x.runs _ _ _ _ _ (ah1.below (by repeat (first|(with_reducible exact Below.refl _ _)|(with_reducible assumption)|((with_reducible refine Below.alloc ?_ ?_ _);rotate_left;focus (simp;try omega))|((with_reducible refine Below.setCell ?_ ?_ _);rotate_left;focus (simp;try omega))|(with_reducible refine jv ?_ (by assumption)))) (Nat.le_refl _)) (by omega) (by omega)).mono ?_;rintro e w2 ⟨rfl,hb2⟩;obtain ⟨hc2,hf2⟩:=kX hb2))
 all_goals go_ret
 all_goals exact ⟨kM (HT.out▸(by omega)),by repeat (first|(with_reducible exact Below.refl _ _)|(with_reducible assumption)|((with_reducible refine Below.alloc ?_ ?_ _);rotate_left;focus (simp;try omega))|((with_reducible refine Below.setCell ?_ ?_ _);rotate_left;focus (simp;try omega))|(with_reducible refine jv ?_ (by assumption)))⟩
theorem juE (x:Dd) (a:Value) (S:List Nat) (w:World) (own:Bool) (left:Int) (ha:AggRep w own (jh x) a S) (h0:0≤left) (h1:left≤1048576):
 Calls Tryz.prog 29 #[a,.int .i64 left] w fun e w'=>e=.returned (.int .i64 (szf (jac x) left))∧Below w.heap.size w w':=by
 obtain ⟨_,rfl,ha⟩:=ha;obtain ⟨av0,rfl,ah0⟩:=jaE ha;clear ha;have hs0:=kz (zP x.plan) (left);have hs:=kz (jac x) left;have ht:jac x=zP x.plan:=rfl;rw [ht] at hs;have HT:=Lib.hid ht;clear ht
 go_enter Tryz.func29,Tryz.ntmps29
 go_wp2_with (first
  |(go_at_call 103;refine (joC x.plan _ _ _ _ _ ⟨_,rfl,jfN (ah0.below (by repeat (first|(with_reducible exact Below.refl _ _)|(with_reducible assumption)|((with_reducible refine Below.alloc ?_ ?_ _);rotate_left;focus (simp;try omega))|((with_reducible refine Below.setCell ?_ ?_ _);rotate_left;focus (simp;try omega))|(with_reducible refine jv ?_ (by assumption)))) (Nat.le_refl _))⟩ (by omega) (by omega)).mono ?_;rintro e w1 ⟨rfl,hb1⟩;obtain ⟨hc1,hf1⟩:=kX hb1))
 all_goals go_ret
 all_goals exact ⟨kM (HT.out▸(by omega)),by repeat (first|(with_reducible exact Below.refl _ _)|(with_reducible assumption)|((with_reducible refine Below.alloc ?_ ?_ _);rotate_left;focus (simp;try omega))|((with_reducible refine Below.setCell ?_ ?_ _);rotate_left;focus (simp;try omega))|(with_reducible refine jv ?_ (by assumption)))⟩
theorem juD (x:Nt) (a:Value) (S:List Nat) (w:World) (own:Bool) (left:Int) (ha:AggRep w own (jN x) a S) (h0:0≤left) (h1:left≤1048576):
 Calls Tryz.prog 128 #[a,.int .i64 left] w fun e w'=>e=.returned (.int .i64 (szf (jba x) left))∧Below w.heap.size w w':=by
 obtain ⟨_,rfl,ha⟩:=ha;obtain ⟨av0,rfl,ah0⟩:=kH ha;clear ha;have hs0:=kz (jac x.deed) (left);have hs:=kz (jba x) left;have ht:jba x=jac x.deed:=rfl;rw [ht] at hs;have HT:=Lib.hid ht;clear ht
 go_enter Tryz.func128,Tryz.ntmps128
 go_wp2_with (first
  |(go_at_call 29;refine (juE x.deed _ _ _ _ _ ⟨_,rfl,jq2 (ah0.below (by repeat (first|(with_reducible exact Below.refl _ _)|(with_reducible assumption)|((with_reducible refine Below.alloc ?_ ?_ _);rotate_left;focus (simp;try omega))|((with_reducible refine Below.setCell ?_ ?_ _);rotate_left;focus (simp;try omega))|(with_reducible refine jv ?_ (by assumption)))) (Nat.le_refl _))⟩ (by omega) (by omega)).mono ?_;rintro e w1 ⟨rfl,hb1⟩;obtain ⟨hc1,hf1⟩:=kX hb1))
 all_goals go_ret
 all_goals exact ⟨kM (HT.out▸(by omega)),by repeat (first|(with_reducible exact Below.refl _ _)|(with_reducible assumption)|((with_reducible refine Below.alloc ?_ ?_ _);rotate_left;focus (simp;try omega))|((with_reducible refine Below.setCell ?_ ?_ _);rotate_left;focus (simp;try omega))|(with_reducible refine jv ?_ (by assumption)))⟩
theorem jrJ (l:List (Nt)) (a:Value) (S:List Nat) (w:World) (own:Bool) (left:Int) (ha:Rep w own (qa l) a S) (h0:0≤left) (h1:left≤1048576):
 Calls Tryz.prog 46 #[a,.int .i64 left] w fun e w'=>e=.returned (.int .i64 (szf (zb l) left))∧Below w.heap.size w w':=by
 obtain ⟨A,c,rfl,hc1,hc2,hca⟩:=Rep.open_ (size:=12) (enc:=jN) (fun _=>rfl) (by decide) ha
 clear ha;unfold maxLen at hc2;have hl1:l.length≤9223372036854775807:=by omega
 have hs:=kz (zb l) left;have ht:zb l=l.length+kj jba l:=rfl;rw [ht] at hs;have HT:=Lib.hid ht;clear ht;by_cases hneg:left-(l.length:Int)<0
 ·clear hca
  go_enter Tryz.func46,Tryz.ntmps46
  go_wp2
  go_ret
  exact ⟨kM (by rw [HT.out];omega),Below.refl _ _⟩
 ·go_enter Tryz.func46,Tryz.ntmps46
  go_wp2
  go_loopw [1,5] (fun q i wr=>∃(k:Nat) (v:Int),k≤l.length∧i=.int .i64 k∧q=.int .i64 v∧0≤v∧v=left-l.length-kj jba (l.take k)∧Below w.heap.size w wr) (fun _ i _=>l.length-(intOf i).toNat)
  case atStart=>exact ⟨0,left-l.length,by omega,rfl,rfl,by omega,by simp [kj],Below.refl _ _⟩
  case round=>
   obtain ⟨k,v,hk,rfl,rfl,hv0,hv,hbel⟩:=hrel;by_cases hlt:k<l.length
   ·obtain ⟨x,hx⟩:=je hlt
    obtain ⟨b1,o1,vk1,T1,rfl,-,hr1,-,-,hb1,hx1⟩:=hca k x hx;clear hca;obtain ⟨av0,rfl,ah0⟩:=kH hr1;have htk:=kJ (tot:=jba) hx;have htl:=qD jba l (k+1);have hsx:=kz (jba x) v;have hv1:v≤1048576:=by omega
    have HV:=Lib.hid hv;have HK:=Lib.hid htk;clear hx hv htk;have p0:=(hbel.cell (p:=⟨b1,o1+k*12,none⟩) hb1).trans (hx1 0 _ rfl:w.cell? ⟨b1,o1+k*12,none⟩=_);have p1:=(hbel.cell (p:=⟨b1,o1+k*12+1,none⟩) hb1).trans (hx1 1 _ rfl:w.cell? ⟨b1,o1+k*12+1,none⟩=_);have p2:=(hbel.cell (p:=⟨b1,o1+k*12+2,none⟩) hb1).trans (hx1 2 _ rfl:w.cell? ⟨b1,o1+k*12+2,none⟩=_);have p3:=(hbel.cell (p:=⟨b1,o1+k*12+3,none⟩) hb1).trans (hx1 3 _ rfl:w.cell? ⟨b1,o1+k*12+3,none⟩=_);have p4:=(hbel.cell (p:=⟨b1,o1+k*12+4,none⟩) hb1).trans (hx1 4 _ rfl:w.cell? ⟨b1,o1+k*12+4,none⟩=_);have p5:=(hbel.cell (p:=⟨b1,o1+k*12+5,none⟩) hb1).trans (hx1 5 _ rfl:w.cell? ⟨b1,o1+k*12+5,none⟩=_);have p6:=(hbel.cell (p:=⟨b1,o1+k*12+6,none⟩) hb1).trans (hx1 6 _ rfl:w.cell? ⟨b1,o1+k*12+6,none⟩=_);have p7:=(hbel.cell (p:=⟨b1,o1+k*12+7,none⟩) hb1).trans (hx1 7 _ rfl:w.cell? ⟨b1,o1+k*12+7,none⟩=_);have p8:=(hbel.cell (p:=⟨b1,o1+k*12+8,none⟩) hb1).trans (hx1 8 _ rfl:w.cell? ⟨b1,o1+k*12+8,none⟩=_)
    have p9:=(hbel.cell (p:=⟨b1,o1+k*12+9,none⟩) hb1).trans (hx1 9 _ rfl:w.cell? ⟨b1,o1+k*12+9,none⟩=_);have p10:=(hbel.cell (p:=⟨b1,o1+k*12+10,none⟩) hb1).trans (hx1 10 _ rfl:w.cell? ⟨b1,o1+k*12+10,none⟩=_);have p11:=(hbel.cell (p:=⟨b1,o1+k*12+11,none⟩) hb1).trans (hx1 11 _ rfl:w.cell? ⟨b1,o1+k*12+11,none⟩=_);clear hx1
    go_wp2_with (go_at_call 128;refine (juD x _ _ _ _ _ ⟨_,rfl,hr1.below hbel (Nat.le_refl _)⟩ (by omega) (by omega)).mono ?_;rintro e w2 ⟨rfl,hb2⟩)
    ·go_ret
     have hv:=HV.out;have htk:=HK.out;exact ⟨kM (by rw [HT.out];(try simp only [kO] at*);omega),jv hbel hb2⟩
    ·go_roundw
     case rel=>
      have hv:=HV.out;have htk:=HK.out;refine ⟨k+1,_,by omega,by go_num,rfl,by omega,?_,jv hbel hb2⟩
      try simp only [kO] at*
      omega
     case measure=>simp [intOf];omega
   ·obtain rfl:k=l.length:=by omega
    clear hca;rw [List.take_length] at hv;have HV:=Lib.hid hv;clear hv
    go_wp2
    go_ret
    have hv:=HV.out;exact ⟨kM (by rw [HT.out];omega),hbel⟩
end Go.Proofs.YtmnpailnelmpiaaGreat
