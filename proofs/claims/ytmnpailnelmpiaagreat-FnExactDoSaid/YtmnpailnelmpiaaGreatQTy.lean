/- Parts. -/
import Derived.Test.YtmnpailnelmpiaaGreatQData
import Derived.Test.YtmnpailnelmpiaaGreatRows
set_option linter.unusedSimpArgs false
set_option linter.unusedVariables false
set_option maxHeartbeats 1000000
namespace Go.Proofs.YtmnpailnelmpiaaGreat
open Go.RowKit
theorem iEd:(Tryz.prog.info? tEd).map (fun i=>(i.zero,i.size,i.bytes))=some (some (.agg #[.int .i64 0,.int .i64 0]),2,16):=by kernel_rfl
theorem slEd:SlT Tryz.prog tEdS tEd 2 16 [.int .i64 0,.int .i64 0]:=⟨by kernel_rfl,jik iEd,rfl,by decide⟩
theorem szEd:(Tryz.prog.info? tEd).map (·.size)=some 2:=by kernel_rfl
theorem iEn:(Tryz.prog.info? tEn).map (fun i=>(i.zero,i.size,i.bytes))=some (some (.agg #[.int .i64 0,.int .i64 0,.int .i64 0,.int .i64 0]),4,32):=by kernel_rfl
theorem slEn:SlT Tryz.prog jng tEn 4 32 [.int .i64 0,.int .i64 0,.int .i64 0,.int .i64 0]:=⟨by kernel_rfl,jik iEn,rfl,by decide⟩
theorem jyx:(Tryz.prog.info? tEn).map (·.size)=some 4:=by kernel_rfl
theorem iTk:(Tryz.prog.info? tTk).map (fun i=>(i.zero,i.size,i.bytes))=some (some (.agg #[.int .i64 0,.int .i64 0,.int .i64 0,.int .i64 0]),4,32):=by kernel_rfl
theorem slTk:SlT Tryz.prog tTkS tTk 4 32 [.int .i64 0,.int .i64 0,.int .i64 0,.int .i64 0]:=⟨by kernel_rfl,jik iTk,rfl,by decide⟩
theorem szTk:(Tryz.prog.info? tTk).map (·.size)=some 4:=by kernel_rfl
theorem iEnS:(Tryz.prog.info? jng).map (fun i=>(i.zero,i.size,i.bytes))=some (some (.slice none 0 0),1,24):=by kernel_rfl
theorem slEnS:SlT Tryz.prog tSh jng 1 24 [.slice none 0 0]:=⟨by kernel_rfl,jik iEnS,rfl,by decide⟩
theorem iRn:(Tryz.prog.info? tRn).map (fun i=>(i.zero,i.size,i.bytes))=some (some (.agg #[.int .i64 0,.int .i64 0,.int .i64 0,.int .i64 0,.int .i64 0,.slice none 0 0,.int .i64 0,.slice none 0 0]),8,96):=by kernel_rfl
theorem slRn:SlT Tryz.prog jyw tRn 8 96 [.int .i64 0,.int .i64 0,.int .i64 0,.int .i64 0,.int .i64 0,.slice none 0 0,.int .i64 0,.slice none 0 0]:=⟨by kernel_rfl,jik iRn,rfl,by decide⟩
theorem szRn:(Tryz.prog.info? tRn).map (·.size)=some 8:=by kernel_rfl
theorem jta:∀(y:Ed),∀d∈jH y,d.one:=by intro y d hd;simp [jH] at hd;rcases hd with rfl|rfl<;>trivial
theorem jmI:∀(y:En),∀d∈jf y,d.one:=by intro y d hd;simp [jf] at hd;rcases hd with rfl|rfl|rfl|rfl<;>trivial
theorem js7:∀(y:Tk),∀d∈jm y,d.one:=by intro y d hd;simp [jm] at hd;rcases hd with rfl|rfl|rfl|rfl<;>trivial
theorem js8:∀(y:Rn),∀d∈jd y,d.one:=by intro y d hd;simp [jd,ja,jC,jw] at hd;rcases hd with rfl|rfl|rfl|rfl|rfl|rfl|rfl|rfl<;>trivial
theorem zRn (w:World):RepL w true (jd ⟨0,⟨0,0,0,0,[]⟩,0,[]⟩) [.int .i64 0,.int .i64 0,.int .i64 0,.int .i64 0,.int .i64 0,.slice none 0 0,.int .i64 0,.slice none 0 0] []:=jiY (r:=⟨0,⟨0,0,0,0,[]⟩,0,[]⟩) (Rep.nil_ w 2 tEd) (Rep.nil_ w 4 tTk)
theorem zEn (w:World):RepL w true (jf ⟨0,0,0,0⟩) [.int .i64 0,.int .i64 0,.int .i64 0,.int .i64 0] []:=jjk w true ⟨0,0,0,0⟩
theorem zTk (w:World):RepL w true (jm ⟨0,0,0,0⟩) [.int .i64 0,.int .i64 0,.int .i64 0,.int .i64 0] []:=jpA w true ⟨0,0,0,0⟩
theorem zEd (w:World):RepL w true (jH ⟨0,0⟩) [.int .i64 0,.int .i64 0] []:=jvp w true ⟨0,0⟩
theorem zEnS (w:World):RepL w true [ji []] [.slice none 0 0] []:=RepL.cons_ (Rep.nil_ w 4 tEn) RepL.nil_
open Go.RowKit Go.Sort Go.BigFrame
theorem jaw (y:Yd) (id:Int) (a:Value) (S:List Nat) (w:World) (own:Bool) (ha:AggRep w own (jb y) a S):
 Calls Tryz.prog 152 #[a,.int .i64 id] w fun e w'=>e=.returned (.int .i64 (runAt y id))∧Below w.heap.size w w':=by
 obtain ⟨_,rfl,ha⟩:=ha;obtain ⟨sv,rv,S1,S2,rfl,ah0,ah1,rfl⟩:=kY ha;clear ha ah0;obtain ⟨A,c,rfl,hc1,hc2,hca⟩:=Rep.open_ (size:=8) (enc:=jd) (fun _=>rfl) (by decide) ah1
 unfold maxLen at hc2;have hl1:y.runs.length≤9223372036854775807:=by omega
 by_cases h8:8<y.runs.length
 ·clear hca
  have hr:runAt y id=-1:=by simp [runAt,h8]
  rw [hr];clear hr
  go_enter Tryz.func152,Tryz.ntmps152
  go_wp2
  go_loop [5] (fun i=>i=.int .i64 0) (fun _=>0)
  case atStart=>rfl
  case round=>
   subst hrel
   go_wp2
   all_goals go_ret
   all_goals exact ⟨rfl,(Below.refl _ _).alloc (by simp) _⟩
 ·have hr:runAt y id=jfA y.runs id:=by simp [runAt,h8]
  rw [hr];clear hr
  go_enter Tryz.func152,Tryz.ntmps152
  go_wp2
  go_loop [5] (fun i=>∃k:Nat,k≤y.runs.length∧i=.int .i64 k∧∀j,j<k→∀z,y.runs[j]?=some z→z.id≠id) (fun i=>y.runs.length-(intOf i).toNat)
  case atStart=>exact ⟨0,by omega,rfl,by simp⟩
  case round=>
   obtain ⟨k,hk,rfl,hno⟩:=hrel;have HN:=Lib.hid hno;clear hno;by_cases hlt:k<y.runs.length
   ·obtain ⟨x,hx⟩:=je hlt
    obtain ⟨b1,o1,vk1,T1,rfl,-,hr1,-,-,hb1,hx1⟩:=hca k x hx;clear hca;obtain ⟨v0,v1,U0,U1,rfl,-,-,-⟩:=ke hr1;have HX:=Lib.hid hx;clear hx;have p0:w.cell? ⟨b1,o1+k*8,none⟩=some (.int .i64 x.id):=hx1 0 _ rfl;clear hx1 hr1;by_cases he:x.id=id
    ·have hb:(x.id==id)=true:=by simpa using he
     have HE:=Lib.hid he;clear he
     go_wp2
     go_ret
     exact ⟨ql (jdK HX.out HE.out HN.out).symm,(Below.refl _ _).alloc (by simp) _⟩
    ·have hb:(x.id==id)=false:=by simpa using he
     have HE:=Lib.hid he;clear he
     go_wp2
     go_round
     case rel=>
      refine ⟨k+1,by omega,by go_num,fun j hj z hz=>?_⟩
      by_cases hjk:j=k
      ·subst hjk
       have:=HX.out;rw [hz] at this;cases this;exact HE.out
      ·exact HN.out j (by omega) z hz
     case measure=>simp [intOf];omega
   ·obtain rfl:k=y.runs.length:=by omega
    clear hca
    go_wp2
    go_ret
    exact ⟨ql (jfz HN.out).symm,(Below.refl _ _).alloc (by simp) _⟩
theorem jmy (x:Rn) (id:Int) (a:Value) (S:List Nat) (g:Nat) (w:World) (own:Bool) (ha:AggRep w own (jd x) a S) (hg:w.cell? ⟨g,0,none⟩=some (.int .i64 id)):
 Calls Tryz.prog 135 #[a,.pointer (some ⟨g,0,none⟩)] w fun e w'=>e=.returned (.bool (x.id==id))∧Below w.heap.size w w':=by
 obtain ⟨_,rfl,ha⟩:=ha;obtain ⟨v0,v1,U0,U1,rfl,-,-,-⟩:=ke ha;clear ha;have hlt:=World.block_lt_of_cell? w _ hg
 go_enter Tryz.func135,Tryz.ntmps135
 go_wp2
 go_ret
 exact ⟨rfl,(Below.refl _ _).alloc (by simp) _⟩
theorem jnY (rs:List Rn) (id:Int) (a:Value) (S:List Nat) (g:Nat) (w:World) (own:Bool) (ha:Rep w own (jM rs) a S) (hg:w.cell? ⟨g,0,none⟩=some (.int .i64 id)):
 Calls Tryz.prog 134 #[a,.func (.func 135) #[] #[.pointer (some ⟨g,0,none⟩)]] w fun e w'=>e=.returned (.int .i64 (jfA rs id))∧Below w.heap.size w w':=by
 obtain ⟨A,c,rfl,hc1,hc2,hca⟩:=Rep.open_ (size:=8) (enc:=jd) (fun _=>rfl) (by decide) ha
 unfold maxLen at hc2;have hl1:rs.length≤9223372036854775807:=by omega
 have hglt:=World.block_lt_of_cell? w _ hg;clear ha
 go_enter Tryz.func134,Tryz.ntmps134
 go_wp2
 go_loopw [5,8] (fun _ i wr=>∃k:Nat,k≤rs.length∧i=.int .i64 k∧(∀j,j<k→∀z,rs[j]?=some z→z.id≠id)∧Below w.heap.size w wr) (fun _ i _=>rs.length-(intOf i).toNat)
 case atStart=>exact ⟨0,by omega,rfl,by simp,Below.refl _ _⟩
 case round=>
  obtain ⟨k,hk,rfl,hno,hbel⟩:=hrel;have HN:=Lib.hid hno;clear hno;have hgr:wr.cell? ⟨g,0,none⟩=some (.int .i64 id):=(hbel.cell (p:=⟨g,0,none⟩) hglt).trans hg;by_cases hlt:k<rs.length
  ·obtain ⟨x,hx⟩:=je hlt
   obtain ⟨b1,o1,vk1,T1,rfl,-,hr1,-,-,hb1,hx1⟩:=hca k x hx;clear hca;obtain ⟨v0,v1,U0,U1,rfl,-,-,-⟩:=ke hr1;have HX:=Lib.hid hx;clear hx;have p0:=(hbel.cell (p:=⟨b1,o1+k*8,none⟩) hb1).trans (hx1 0 _ rfl:w.cell? ⟨b1,o1+k*8,none⟩=_);have p1:=(hbel.cell (p:=⟨b1,o1+k*8+1,none⟩) hb1).trans (hx1 1 _ rfl);have p2:=(hbel.cell (p:=⟨b1,o1+k*8+2,none⟩) hb1).trans (hx1 2 _ rfl);have p3:=(hbel.cell (p:=⟨b1,o1+k*8+3,none⟩) hb1).trans (hx1 3 _ rfl);have p4:=(hbel.cell (p:=⟨b1,o1+k*8+4,none⟩) hb1).trans (hx1 4 _ rfl);have p5:=(hbel.cell (p:=⟨b1,o1+k*8+5,none⟩) hb1).trans (hx1 5 _ rfl);have p6:=(hbel.cell (p:=⟨b1,o1+k*8+6,none⟩) hb1).trans (hx1 6 _ rfl);have p7:=(hbel.cell (p:=⟨b1,o1+k*8+7,none⟩) hb1).trans (hx1 7 _ rfl);clear hx1;by_cases he:x.id=id
   ·have hb:(x.id==id)=true:=by simpa using he
    have HE:=Lib.hid he;clear he
    go_wp2_with (go_at_call 135;refine (jmy x id _ _ _ _ own ⟨_,rfl,hr1.below hbel (Nat.le_refl _)⟩ hgr).mono ?_;rintro e w2 ⟨rfl,hb2⟩)
    go_ret
    exact ⟨ql (jdK HX.out HE.out HN.out).symm,jx hbel hb2⟩
   ·have hb:(x.id==id)=false:=by simpa using he
    have HE:=Lib.hid he;clear he
    go_wp2_with (go_at_call 135;refine (jmy x id _ _ _ _ own ⟨_,rfl,hr1.below hbel (Nat.le_refl _)⟩ hgr).mono ?_;rintro e w2 ⟨rfl,hb2⟩)
    go_roundw
    case rel=>
     refine ⟨k+1,by omega,by go_num,fun j hj z hz=>?_,jx hbel hb2⟩
     by_cases hjk:j=k
     ·subst hjk
      have:=HX.out;rw [hz] at this;cases this;exact HE.out
     ·exact HN.out j (by omega) z hz
    case measure=>simp [intOf];omega
  ·obtain rfl:k=rs.length:=by omega
   clear hca
   go_wp2
   go_ret
   exact ⟨ql (jfz HN.out).symm,hbel⟩
theorem jaA (y:Yd) (id:Int) (a:Value) (S:List Nat) (w:World) (own:Bool) (ha:AggRep w own (jb y) a S):
 Calls Tryz.prog 56 #[a,.int .i64 id] w fun e w'=>e=.returned (.int .i64 (runAt y id))∧Below w.heap.size w w':=by
 obtain ⟨_,rfl,ha⟩:=ha;obtain ⟨sv,rv,S1,S2,rfl,ah0,ah1,rfl⟩:=kY ha;clear ha ah0;obtain ⟨A,c,rfl,hc1,hc2,hca⟩:=Rep.open_ (size:=8) (enc:=jd) (fun _=>rfl) (by decide) ah1
 unfold maxLen at hc2;have hl1:y.runs.length≤9223372036854775807:=by omega
 clear hca;by_cases h8:8<y.runs.length
 ·have hr:runAt y id=-1:=by simp [runAt,h8]
  rw [hr];clear hr
  go_enter Tryz.func56,Tryz.ntmps56
  go_wp2
  go_ret
  exact ⟨rfl,((Below.refl _ _).alloc (by simp) _).alloc (by simp) _⟩
 ·have hr:runAt y id=jfA y.runs id:=by simp [runAt,h8]
  rw [hr];clear hr
  go_enter Tryz.func56,Tryz.ntmps56
  go_wp2_with (go_at_call 134;refine (jnY y.runs id _ _ _ _ own (ah1.below (((Below.refl _ _).alloc (by simp) _).alloc (by simp) _) (Nat.le_refl _)) (by simp [go_sem])).mono ?_;rintro e w2 ⟨rfl,hb2⟩)
  go_ret
  exact ⟨rfl,jx (((Below.refl _ _).alloc (by simp) _).alloc (by simp) _) hb2⟩
open Go.RowKit Go.Sort Go.BigFrame
theorem jrt (l:List Ed) (a:Value) (S:List Nat) (w:World) (own:Bool) (left:Int) (ha:Rep w own (jC l) a S) (h0:0≤left) (h1:left≤1048576):
 Calls Tryz.prog 182 #[a,.int .i64 left] w fun e w'=>e=.returned (.int .i64 (szf l.length left))∧Below w.heap.size w w':=by
 obtain ⟨A,c,rfl,hc1,hc2,hca⟩:=Rep.open_ (size:=2) (enc:=jH) (fun _=>rfl) (by decide) ha
 clear ha hca;unfold maxLen at hc2;have hl1:l.length≤9223372036854775807:=by omega
 have hs:=kK l.length left
 go_enter Tryz.func182,Tryz.ntmps182
 go_wp2
 all_goals go_ret
 all_goals exact ⟨ql (by omega),Below.refl _ _⟩
theorem jos (x:Pl) (a:Value) (S:List Nat) (w:World) (own:Bool) (left:Int) (ha:AggRep w own (ja x) a S) (h0:0≤left) (h1:left≤1048576):
 Calls Tryz.prog 103 #[a,.int .i64 left] w fun e w'=>e=.returned (.int .i64 (szf (zK x) left))∧Below w.heap.size w w':=by
 obtain ⟨_,rfl,ha⟩:=ha;obtain ⟨av0,rfl,ah0⟩:=qL ha;clear ha;have hs0:=kK (x.edges.length) (left);have hs:=kK (zK x) left;have ht:zK x=x.edges.length:=rfl;rw [ht] at hs;have HT:=Lib.hid ht;clear ht
 go_enter Tryz.func103,Tryz.ntmps103
 go_wp2_with (first
  |(go_at_call 182;refine (jrt x.edges _ _ _ _ _ (ah0.below (by repeat (first|(with_reducible exact Below.refl _ _)|(with_reducible assumption)|((with_reducible refine Below.alloc ?_ ?_ _);rotate_left;focus (simp;try omega))|((with_reducible refine Below.setCell ?_ ?_ _);rotate_left;focus (simp;try omega))|(with_reducible refine jx ?_ (by assumption)))) (Nat.le_refl _)) (by omega) (by omega)).mono ?_;rintro e w1 ⟨rfl,hb1⟩;obtain ⟨hc1,hf1⟩:=kU hb1))
 all_goals go_ret
 all_goals exact ⟨ql (HT.out▸(by omega)),by repeat (first|(with_reducible exact Below.refl _ _)|(with_reducible assumption)|((with_reducible refine Below.alloc ?_ ?_ _);rotate_left;focus (simp;try omega))|((with_reducible refine Below.setCell ?_ ?_ _);rotate_left;focus (simp;try omega))|(with_reducible refine jx ?_ (by assumption)))⟩
theorem jpC (l:List En) (a:Value) (S:List Nat) (w:World) (own:Bool) (left:Int) (ha:Rep w own (ji l) a S) (h0:0≤left) (h1:left≤1048576):
 Calls Tryz.prog 180 #[a,.int .i64 left] w fun e w'=>e=.returned (.int .i64 (szf l.length left))∧Below w.heap.size w w':=by
 obtain ⟨A,c,rfl,hc1,hc2,hca⟩:=Rep.open_ (size:=4) (enc:=jf) (fun _=>rfl) (by decide) ha
 clear ha hca;unfold maxLen at hc2;have hl1:l.length≤9223372036854775807:=by omega
 have hs:=kK l.length left
 go_enter Tryz.func180,Tryz.ntmps180
 go_wp2
 all_goals go_ret
 all_goals exact ⟨ql (by omega),Below.refl _ _⟩
theorem jni (l:List (List En)) (a:Value) (S:List Nat) (w:World) (own:Bool) (left:Int) (ha:Rep w own (ko l) a S) (h0:0≤left) (h1:left≤1048576):
 Calls Tryz.prog 101 #[a,.int .i64 left] w fun e w'=>e=.returned (.int .i64 (szf (vJ l) left))∧Below w.heap.size w w':=by
 obtain ⟨A,c,rfl,hc1,hc2,hca⟩:=Rep.open_ (size:=1) (enc:=(fun es=>[ji es])) (fun _=>rfl) (by decide) ha
 clear ha;unfold maxLen at hc2;have hl1:l.length≤9223372036854775807:=by omega
 have hs:=kK (vJ l) left;have ht:vJ l=l.length+kt kS l:=rfl;rw [ht] at hs;have HT:=Lib.hid ht;clear ht;by_cases hneg:left-(l.length:Int)<0
 ·clear hca
  go_enter Tryz.func101,Tryz.ntmps101
  go_wp2
  go_ret
  exact ⟨ql (by rw [HT.out];omega),Below.refl _ _⟩
 ·go_enter Tryz.func101,Tryz.ntmps101
  go_wp2
  go_loopw [1,5] (fun q i wr=>∃(k:Nat) (v:Int),k≤l.length∧i=.int .i64 k∧q=.int .i64 v∧0≤v∧v=left-l.length-kt kS (l.take k)∧Below w.heap.size w wr) (fun _ i _=>l.length-(intOf i).toNat)
  case atStart=>exact ⟨0,left-l.length,by omega,rfl,rfl,by omega,by simp [kt],Below.refl _ _⟩
  case round=>
   obtain ⟨k,v,hk,rfl,rfl,hv0,hv,hbel⟩:=hrel;by_cases hlt:k<l.length
   ·obtain ⟨x,hx⟩:=je hlt
    obtain ⟨b1,o1,vk1,T1,rfl,-,hr1,-,-,hb1,hx1⟩:=hca k x hx;clear hca;obtain ⟨au,_,aS0,aS1,rfl,rfl,ah0,rfl,rfl⟩:=hr1;have htk:=kZ (tot:=kS) hx;have htl:=vf kS l (k+1);have hsx:=kK (kS x) v;have hv1:v≤1048576:=by omega
    have HV:=Lib.hid hv;have HK:=Lib.hid htk;clear hx hv htk;have p0:=(hbel.cell (p:=⟨b1,o1+k,none⟩) hb1).trans (by simpa using hx1 0 _ rfl:w.cell? ⟨b1,o1+k,none⟩=_)
    clear hx1
    go_wp2_with (go_at_call 180;refine (jpC x _ _ _ _ _ (ah0.below hbel (Nat.le_refl _)) (by omega) (by omega)).mono ?_;rintro e w2 ⟨rfl,hb2⟩)
    ·go_ret
     have hv:=HV.out;have htk:=HK.out;exact ⟨ql (by rw [HT.out];(try simp only [kS] at*);omega),jx hbel hb2⟩
    ·go_roundw
     case rel=>
      have hv:=HV.out;have htk:=HK.out;refine ⟨k+1,_,by omega,by go_num,rfl,by omega,?_,jx hbel hb2⟩
      try simp only [kS] at*
      omega
     case measure=>simp [intOf];omega
   ·obtain rfl:k=l.length:=by omega
    clear hca;rw [List.take_length] at hv;have HV:=Lib.hid hv;clear hv
    go_wp2
    go_ret
    have hv:=HV.out;exact ⟨ql (by rw [HT.out];omega),hbel⟩
theorem jrs (l:List Tk) (a:Value) (S:List Nat) (w:World) (own:Bool) (left:Int) (ha:Rep w own (jw l) a S) (h0:0≤left) (h1:left≤1048576):
 Calls Tryz.prog 255 #[a,.int .i64 left] w fun e w'=>e=.returned (.int .i64 (szf l.length left))∧Below w.heap.size w w':=by
 obtain ⟨A,c,rfl,hc1,hc2,hca⟩:=Rep.open_ (size:=4) (enc:=jm) (fun _=>rfl) (by decide) ha
 clear ha hca;unfold maxLen at hc2;have hl1:l.length≤9223372036854775807:=by omega
 have hs:=kK l.length left
 go_enter Tryz.func255,Tryz.ntmps255
 go_wp2
 all_goals go_ret
 all_goals exact ⟨ql (by omega),Below.refl _ _⟩
theorem jwy (x:Rn) (a:Value) (S:List Nat) (w:World) (own:Bool) (left:Int) (ha:AggRep w own (jd x) a S) (h0:0≤left) (h1:left≤1048576):
 Calls Tryz.prog 181 #[a,.int .i64 left] w fun e w'=>e=.returned (.int .i64 (szf (kh x) left))∧Below w.heap.size w w':=by
 obtain ⟨_,rfl,ha⟩:=ha;obtain ⟨av0,av1,aS0,aS1,rfl,ah0,ah1,rfl⟩:=ke ha;clear ha;have hs0:=kK (zK x.plan) (left);have hs1:=kK (x.tasks.length) (szf (zK x.plan) (left));have hs:=kK (kh x) left;have ht:kh x=zK x.plan+x.tasks.length:=rfl;rw [ht] at hs;have HT:=Lib.hid ht;clear ht
 go_enter Tryz.func181,Tryz.ntmps181
 go_wp2_with (first
  |(go_at_call 103;refine (jos x.plan _ _ _ _ _ ⟨_,rfl,jdP (ah0.below (by repeat (first|(with_reducible exact Below.refl _ _)|(with_reducible assumption)|((with_reducible refine Below.alloc ?_ ?_ _);rotate_left;focus (simp;try omega))|((with_reducible refine Below.setCell ?_ ?_ _);rotate_left;focus (simp;try omega))|(with_reducible refine jx ?_ (by assumption)))) (Nat.le_refl _))⟩ (by omega) (by omega)).mono ?_;rintro e w1 ⟨rfl,hb1⟩;obtain ⟨hc1,hf1⟩:=kU hb1)
  |(go_at_call 255;refine (jrs x.tasks _ _ _ _ _ (ah1.below (by repeat (first|(with_reducible exact Below.refl _ _)|(with_reducible assumption)|((with_reducible refine Below.alloc ?_ ?_ _);rotate_left;focus (simp;try omega))|((with_reducible refine Below.setCell ?_ ?_ _);rotate_left;focus (simp;try omega))|(with_reducible refine jx ?_ (by assumption)))) (Nat.le_refl _)) (by omega) (by omega)).mono ?_;rintro e w2 ⟨rfl,hb2⟩;obtain ⟨hc2,hf2⟩:=kU hb2))
 all_goals go_ret
 all_goals exact ⟨ql (HT.out▸(by omega)),by repeat (first|(with_reducible exact Below.refl _ _)|(with_reducible assumption)|((with_reducible refine Below.alloc ?_ ?_ _);rotate_left;focus (simp;try omega))|((with_reducible refine Below.setCell ?_ ?_ _);rotate_left;focus (simp;try omega))|(with_reducible refine jx ?_ (by assumption)))⟩
theorem juc (l:List (Rn)) (a:Value) (S:List Nat) (w:World) (own:Bool) (left:Int) (ha:Rep w own (jM l) a S) (h0:0≤left) (h1:left≤1048576):
 Calls Tryz.prog 102 #[a,.int .i64 left] w fun e w'=>e=.returned (.int .i64 (szf (qu l) left))∧Below w.heap.size w w':=by
 obtain ⟨A,c,rfl,hc1,hc2,hca⟩:=Rep.open_ (size:=8) (enc:=jd) (fun _=>rfl) (by decide) ha
 clear ha;unfold maxLen at hc2;have hl1:l.length≤9223372036854775807:=by omega
 have hs:=kK (qu l) left;have ht:qu l=l.length+kt kh l:=rfl;rw [ht] at hs;have HT:=Lib.hid ht;clear ht;by_cases hneg:left-(l.length:Int)<0
 ·clear hca
  go_enter Tryz.func102,Tryz.ntmps102
  go_wp2
  go_ret
  exact ⟨ql (by rw [HT.out];omega),Below.refl _ _⟩
 ·go_enter Tryz.func102,Tryz.ntmps102
  go_wp2
  go_loopw [1,5] (fun q i wr=>∃(k:Nat) (v:Int),k≤l.length∧i=.int .i64 k∧q=.int .i64 v∧0≤v∧v=left-l.length-kt kh (l.take k)∧Below w.heap.size w wr) (fun _ i _=>l.length-(intOf i).toNat)
  case atStart=>exact ⟨0,left-l.length,by omega,rfl,rfl,by omega,by simp [kt],Below.refl _ _⟩
  case round=>
   obtain ⟨k,v,hk,rfl,rfl,hv0,hv,hbel⟩:=hrel;by_cases hlt:k<l.length
   ·obtain ⟨x,hx⟩:=je hlt
    obtain ⟨b1,o1,vk1,T1,rfl,-,hr1,-,-,hb1,hx1⟩:=hca k x hx;clear hca;obtain ⟨av0,av1,aS0,aS1,rfl,ah0,ah1,rfl⟩:=ke hr1;have htk:=kZ (tot:=kh) hx;have htl:=vf kh l (k+1);have hsx:=kK (kh x) v;have hv1:v≤1048576:=by omega
    have HV:=Lib.hid hv;have HK:=Lib.hid htk;clear hx hv htk;have p0:=(hbel.cell (p:=⟨b1,o1+k*8,none⟩) hb1).trans (hx1 0 _ rfl:w.cell? ⟨b1,o1+k*8,none⟩=_);have p1:=(hbel.cell (p:=⟨b1,o1+k*8+1,none⟩) hb1).trans (hx1 1 _ rfl:w.cell? ⟨b1,o1+k*8+1,none⟩=_);have p2:=(hbel.cell (p:=⟨b1,o1+k*8+2,none⟩) hb1).trans (hx1 2 _ rfl:w.cell? ⟨b1,o1+k*8+2,none⟩=_);have p3:=(hbel.cell (p:=⟨b1,o1+k*8+3,none⟩) hb1).trans (hx1 3 _ rfl:w.cell? ⟨b1,o1+k*8+3,none⟩=_);have p4:=(hbel.cell (p:=⟨b1,o1+k*8+4,none⟩) hb1).trans (hx1 4 _ rfl:w.cell? ⟨b1,o1+k*8+4,none⟩=_);have p5:=(hbel.cell (p:=⟨b1,o1+k*8+5,none⟩) hb1).trans (hx1 5 _ rfl:w.cell? ⟨b1,o1+k*8+5,none⟩=_);have p6:=(hbel.cell (p:=⟨b1,o1+k*8+6,none⟩) hb1).trans (hx1 6 _ rfl:w.cell? ⟨b1,o1+k*8+6,none⟩=_);have p7:=(hbel.cell (p:=⟨b1,o1+k*8+7,none⟩) hb1).trans (hx1 7 _ rfl:w.cell? ⟨b1,o1+k*8+7,none⟩=_);clear hx1
    go_wp2_with (go_at_call 181;refine (jwy x _ _ _ _ _ ⟨_,rfl,hr1.below hbel (Nat.le_refl _)⟩ (by omega) (by omega)).mono ?_;rintro e w2 ⟨rfl,hb2⟩)
    ·go_ret
     have hv:=HV.out;have htk:=HK.out;exact ⟨ql (by rw [HT.out];(try simp only [kS] at*);omega),jx hbel hb2⟩
    ·go_roundw
     case rel=>
      have hv:=HV.out;have htk:=HK.out;refine ⟨k+1,_,by omega,by go_num,rfl,by omega,?_,jx hbel hb2⟩
      try simp only [kS] at*
      omega
     case measure=>simp [intOf];omega
   ·obtain rfl:k=l.length:=by omega
    clear hca;rw [List.take_length] at hv;have HV:=Lib.hid hv;clear hv
    go_wp2
    go_ret
    have hv:=HV.out;exact ⟨ql (by rw [HT.out];omega),hbel⟩
theorem jub (x:Yd) (a:Value) (S:List Nat) (w:World) (own:Bool) (left:Int) (ha:AggRep w own (jb x) a S) (h0:0≤left) (h1:left≤1048576):
 Calls Tryz.prog 28 #[a,.int .i64 left] w fun e w'=>e=.returned (.int .i64 (szf (jt x) left))∧Below w.heap.size w w':=by
 obtain ⟨_,rfl,ha⟩:=ha;obtain ⟨av0,av1,aS0,aS1,rfl,ah0,ah1,rfl⟩:=kY ha;clear ha;have hs0:=kK (vJ x.shelf) (left);have hs1:=kK (qu x.runs) (szf (vJ x.shelf) (left));have hs:=kK (jt x) left;have ht:jt x=vJ x.shelf+qu x.runs:=rfl;rw [ht] at hs;have HT:=Lib.hid ht;clear ht
 go_enter Tryz.func28,Tryz.ntmps28
 go_wp2_with (first
  |(go_at_call 101;refine (jni x.shelf _ _ _ _ _ (ah0.below (by repeat (first|(with_reducible exact Below.refl _ _)|(with_reducible assumption)|((with_reducible refine Below.alloc ?_ ?_ _);rotate_left;focus (simp;try omega))|((with_reducible refine Below.setCell ?_ ?_ _);rotate_left;focus (simp;try omega))|(with_reducible refine jx ?_ (by assumption)))) (Nat.le_refl _)) (by omega) (by omega)).mono ?_;rintro e w1 ⟨rfl,hb1⟩;obtain ⟨hc1,hf1⟩:=kU hb1)
  |(go_at_call 102;refine (juc x.runs _ _ _ _ _ (ah1.below (by repeat (first|(with_reducible exact Below.refl _ _)|(with_reducible assumption)|((with_reducible refine Below.alloc ?_ ?_ _);rotate_left;focus (simp;try omega))|((with_reducible refine Below.setCell ?_ ?_ _);rotate_left;focus (simp;try omega))|(with_reducible refine jx ?_ (by assumption)))) (Nat.le_refl _)) (by omega) (by omega)).mono ?_;rintro e w2 ⟨rfl,hb2⟩;obtain ⟨hc2,hf2⟩:=kU hb2))
 all_goals go_ret
 all_goals exact ⟨ql (HT.out▸(by omega)),by repeat (first|(with_reducible exact Below.refl _ _)|(with_reducible assumption)|((with_reducible refine Below.alloc ?_ ?_ _);rotate_left;focus (simp;try omega))|((with_reducible refine Below.setCell ?_ ?_ _);rotate_left;focus (simp;try omega))|(with_reducible refine jx ?_ (by assumption)))⟩
theorem jud (x:Dd) (a:Value) (S:List Nat) (w:World) (own:Bool) (left:Int) (ha:AggRep w own (jg x) a S) (h0:0≤left) (h1:left≤1048576):
 Calls Tryz.prog 29 #[a,.int .i64 left] w fun e w'=>e=.returned (.int .i64 (szf (zX x) left))∧Below w.heap.size w w':=by
 obtain ⟨_,rfl,ha⟩:=ha;obtain ⟨av0,rfl,ah0⟩:=jbh ha;clear ha;have hs0:=kK (zK x.plan) (left);have hs:=kK (zX x) left;have ht:zX x=zK x.plan:=rfl;rw [ht] at hs;have HT:=Lib.hid ht;clear ht
 go_enter Tryz.func29,Tryz.ntmps29
 go_wp2_with (first
  |(go_at_call 103;refine (jos x.plan _ _ _ _ _ ⟨_,rfl,jdP (ah0.below (by repeat (first|(with_reducible exact Below.refl _ _)|(with_reducible assumption)|((with_reducible refine Below.alloc ?_ ?_ _);rotate_left;focus (simp;try omega))|((with_reducible refine Below.setCell ?_ ?_ _);rotate_left;focus (simp;try omega))|(with_reducible refine jx ?_ (by assumption)))) (Nat.le_refl _))⟩ (by omega) (by omega)).mono ?_;rintro e w1 ⟨rfl,hb1⟩;obtain ⟨hc1,hf1⟩:=kU hb1))
 all_goals go_ret
 all_goals exact ⟨ql (HT.out▸(by omega)),by repeat (first|(with_reducible exact Below.refl _ _)|(with_reducible assumption)|((with_reducible refine Below.alloc ?_ ?_ _);rotate_left;focus (simp;try omega))|((with_reducible refine Below.setCell ?_ ?_ _);rotate_left;focus (simp;try omega))|(with_reducible refine jx ?_ (by assumption)))⟩
end Go.Proofs.YtmnpailnelmpiaaGreat
