/- Parts. -/
import Derived.Test.YtmnpailnelmpiaaGreatQE4h
import Derived.ProofKit
import Derived.Deep.Slices
import Derived.ChangeSame
import Derived.Test.YtmnpailnelmpiaaGreatProg
import Derived.Below
import Derived.OpenShut
set_option linter.unusedSimpArgs false
set_option linter.unusedVariables false
set_option maxHeartbeats 1000000
namespace Go.Proofs.YtmnpailnelmpiaaGreat
open Go.RowKit
theorem iEd:(Tryz.prog.info? tEd).map (fun i=>(i.zero,i.size,i.bytes))=some (some (.agg #[.int .i64 0,.int .i64 0]),2,16):=by kernel_rfl
theorem slEd:SlT Tryz.prog tEdS tEd 2 16 [.int .i64 0,.int .i64 0]:=⟨by kernel_rfl,jhH iEd,rfl,by decide⟩
theorem szEd:(Tryz.prog.info? tEd).map (·.size)=some 2:=by kernel_rfl
theorem iEn:(Tryz.prog.info? tEn).map (fun i=>(i.zero,i.size,i.bytes))=some (some (.agg #[.int .i64 0,.int .i64 0,.int .i64 0,.int .i64 0]),4,32):=by kernel_rfl
theorem slEn:SlT Tryz.prog jn2 tEn 4 32 [.int .i64 0,.int .i64 0,.int .i64 0,.int .i64 0]:=⟨by kernel_rfl,jhH iEn,rfl,by decide⟩
theorem jDL:(Tryz.prog.info? tEn).map (·.size)=some 4:=by kernel_rfl
theorem iTk:(Tryz.prog.info? tTk).map (fun i=>(i.zero,i.size,i.bytes))=some (some (.agg #[.int .i64 0,.int .i64 0,.int .i64 0,.int .i64 0]),4,32):=by kernel_rfl
theorem slTk:SlT Tryz.prog tTkS tTk 4 32 [.int .i64 0,.int .i64 0,.int .i64 0,.int .i64 0]:=⟨by kernel_rfl,jhH iTk,rfl,by decide⟩
theorem szTk:(Tryz.prog.info? tTk).map (·.size)=some 4:=by kernel_rfl
theorem iEnS:(Tryz.prog.info? jn2).map (fun i=>(i.zero,i.size,i.bytes))=some (some (.slice none 0 0),1,24):=by kernel_rfl
theorem slEnS:SlT Tryz.prog tSh jn2 1 24 [.slice none 0 0]:=⟨by kernel_rfl,jhH iEnS,rfl,by decide⟩
theorem iRn:(Tryz.prog.info? tRn).map (fun i=>(i.zero,i.size,i.bytes))=some (some (.agg #[.int .i64 0,.int .i64 0,.int .i64 0,.int .i64 0,.int .i64 0,.slice none 0 0,.int .i64 0,.slice none 0 0]),8,96):=by kernel_rfl
theorem slRn:SlT Tryz.prog jDK tRn 8 96 [.int .i64 0,.int .i64 0,.int .i64 0,.int .i64 0,.int .i64 0,.slice none 0 0,.int .i64 0,.slice none 0 0]:=⟨by kernel_rfl,jhH iRn,rfl,by decide⟩
theorem szRn:(Tryz.prog.info? tRn).map (·.size)=some 8:=by kernel_rfl
theorem iDd:(Tryz.prog.info? tDd).map (fun i=>(i.zero,i.size,i.bytes))=some (some (.agg #[.int .i64 0,.int .i64 0,.int .i64 0,.int .i64 0,.int .i64 0,.int .i64 0,.slice none 0 0,.int .i64 0,.int .i64 0,.int .i64 0,.int .i64 0]),11,104):=by kernel_rfl
theorem slDd:SlT Tryz.prog tDdS tDd 11 104 [.int .i64 0,.int .i64 0,.int .i64 0,.int .i64 0,.int .i64 0,.int .i64 0,.slice none 0 0,.int .i64 0,.int .i64 0,.int .i64 0,.int .i64 0]:=⟨by kernel_rfl,jhH iDd,rfl,by decide⟩
theorem szDd:(Tryz.prog.info? tDd).map (·.size)=some 11:=by kernel_rfl
theorem jxh:∀(y:Ed),∀d∈jJ y,d.one:=by intro y d hd;simp [jJ] at hd;rcases hd with rfl|rfl<;>trivial
theorem jpv:∀(y:En),∀d∈jf y,d.one:=by intro y d hd;simp [jf] at hd;rcases hd with rfl|rfl|rfl|rfl<;>trivial
theorem jxe:∀(y:Tk),∀d∈jo y,d.one:=by intro y d hd;simp [jo] at hd;rcases hd with rfl|rfl|rfl|rfl<;>trivial
theorem jxf:∀(y:Rn),∀d∈jd y,d.one:=by intro y d hd;simp [jd,ja,ju,jy] at hd;rcases hd with rfl|rfl|rfl|rfl|rfl|rfl|rfl|rfl<;>trivial
theorem jxi:∀(y:Dd),∀d∈jg y,d.one:=by intro y d hd;simp [jg,ja,ju] at hd;rcases hd with rfl|rfl|rfl|rfl|rfl|rfl|rfl|rfl|rfl|rfl|rfl<;>trivial
theorem zRn (w:World):RepL w true (jd ⟨0,⟨0,0,0,0,[]⟩,0,[]⟩) [.int .i64 0,.int .i64 0,.int .i64 0,.int .i64 0,.int .i64 0,.slice none 0 0,.int .i64 0,.slice none 0 0] []:=jlp (r:=⟨0,⟨0,0,0,0,[]⟩,0,[]⟩) (Rep.nil_ w 2 tEd) (Rep.nil_ w 4 tTk)
theorem zDd (w:World):RepL w true (jg ⟨0,0,⟨0,0,0,0,[]⟩,0,0,0,0⟩) [.int .i64 0,.int .i64 0,.int .i64 0,.int .i64 0,.int .i64 0,.int .i64 0,.slice none 0 0,.int .i64 0,.int .i64 0,.int .i64 0,.int .i64 0] []:=jhL (d:=⟨0,0,⟨0,0,0,0,[]⟩,0,0,0,0⟩) (Rep.nil_ w 2 tEd)
theorem zEn (w:World):RepL w true (jf ⟨0,0,0,0⟩) [.int .i64 0,.int .i64 0,.int .i64 0,.int .i64 0] []:=jlK w true ⟨0,0,0,0⟩
theorem zTk (w:World):RepL w true (jo ⟨0,0,0,0⟩) [.int .i64 0,.int .i64 0,.int .i64 0,.int .i64 0] []:=jsW w true ⟨0,0,0,0⟩
theorem zEd (w:World):RepL w true (jJ ⟨0,0⟩) [.int .i64 0,.int .i64 0] []:=jz2 w true ⟨0,0⟩
theorem zEnS (w:World):RepL w true [jk []] [.slice none 0 0] []:=RepL.cons_ (Rep.nil_ w 4 tEn) RepL.nil_
open Go.RowKit Go.Sort Go.BigFrame
theorem jbh (y:Yd) (id:Int) (a:Value) (S:List Nat) (w:World) (own:Bool) (ha:AggRep w own (jb y) a S):
 Calls Tryz.prog 152 #[a,.int .i64 id] w fun e w'=>e=.returned (.int .i64 (runAt y id))∧Below w.heap.size w w':=by
 obtain ⟨_,rfl,ha⟩:=ha;obtain ⟨sv,rv,S1,S2,rfl,ah0,ah1,rfl⟩:=qv ha;clear ha ah0;obtain ⟨A,c,rfl,hc1,hc2,hca⟩:=Rep.open_ (size:=8) (enc:=jd) (fun _=>rfl) (by decide) ah1
 unfold maxLen at hc2;have hl1:y.runs.length≤9223372036854775807:=by omega
 by_cases h8:8<y.runs.length
 ·clear hca
  have hr:runAt y id=-1:=by simp [runAt,h8]
  rw [hr];clear hr
  go_enter Tryz.func152,Tryz.ntmps152
  go_wp2
  go_loop [5] (fun i=>i=.int .i64 0) (fun _=>0)
  case atStart=>rfl
  case round=>
   subst hrel
   go_wp2
   all_goals go_ret
   all_goals exact ⟨rfl,(Below.refl _ _).alloc (by simp) _⟩
 ·have hr:runAt y id=jhq y.runs id:=by simp [runAt,h8]
  rw [hr];clear hr
  go_enter Tryz.func152,Tryz.ntmps152
  go_wp2
  go_loop [5] (fun i=>∃k:Nat,k≤y.runs.length∧i=.int .i64 k∧∀j,j<k→∀z,y.runs[j]?=some z→z.id≠id) (fun i=>y.runs.length-(intOf i).toNat)
  case atStart=>exact ⟨0,by omega,rfl,by simp⟩
  case round=>
   obtain ⟨k,hk,rfl,hno⟩:=hrel;have HN:=Lib.hid hno;clear hno;by_cases hlt:k<y.runs.length
   ·obtain ⟨x,hx⟩:=je hlt
    obtain ⟨b1,o1,vk1,T1,rfl,-,hr1,-,-,hb1,hx1⟩:=hca k x hx;clear hca;obtain ⟨v0,v1,U0,U1,rfl,-,-,-⟩:=kr hr1;have HX:=Lib.hid hx;clear hx;have p0:w.cell? ⟨b1,o1+k*8,none⟩=some (.int .i64 x.id):=hx1 0 _ rfl;clear hx1 hr1;by_cases he:x.id=id
    ·have hb:(x.id==id)=true:=by simpa using he
     have HE:=Lib.hid he;clear he
     go_wp2
     go_ret
     exact ⟨qe (jfd HX.out HE.out HN.out).symm,(Below.refl _ _).alloc (by simp) _⟩
    ·have hb:(x.id==id)=false:=by simpa using he
     have HE:=Lib.hid he;clear he
     go_wp2
     go_round
     case rel=>
      refine ⟨k+1,by omega,by go_num,fun j hj z hz=>?_⟩
      by_cases hjk:j=k
      ·subst hjk
       have:=HX.out;rw [hz] at this;cases this;exact HE.out
      ·exact HN.out j (by omega) z hz
     case measure=>simp [intOf];omega
   ·obtain rfl:k=y.runs.length:=by omega
    clear hca
    go_wp2
    go_ret
    exact ⟨qe (jhp HN.out).symm,(Below.refl _ _).alloc (by simp) _⟩
theorem jpk (x:Rn) (id:Int) (a:Value) (S:List Nat) (g:Nat) (w:World) (own:Bool) (ha:AggRep w own (jd x) a S) (hg:w.cell? ⟨g,0,none⟩=some (.int .i64 id)):
 Calls Tryz.prog 135 #[a,.pointer (some ⟨g,0,none⟩)] w fun e w'=>e=.returned (.bool (x.id==id))∧Below w.heap.size w w':=by
 obtain ⟨_,rfl,ha⟩:=ha;obtain ⟨v0,v1,U0,U1,rfl,-,-,-⟩:=kr ha;clear ha;have hlt:=World.block_lt_of_cell? w _ hg
 go_enter Tryz.func135,Tryz.ntmps135
 go_wp2
 go_ret
 exact ⟨rfl,(Below.refl _ _).alloc (by simp) _⟩
theorem jqZ (rs:List Rn) (id:Int) (a:Value) (S:List Nat) (g:Nat) (w:World) (own:Bool) (ha:Rep w own (jN rs) a S) (hg:w.cell? ⟨g,0,none⟩=some (.int .i64 id)):
 Calls Tryz.prog 134 #[a,.func (.func 135) #[] #[.pointer (some ⟨g,0,none⟩)]] w fun e w'=>e=.returned (.int .i64 (jhq rs id))∧Below w.heap.size w w':=by
 obtain ⟨A,c,rfl,hc1,hc2,hca⟩:=Rep.open_ (size:=8) (enc:=jd) (fun _=>rfl) (by decide) ha
 unfold maxLen at hc2;have hl1:rs.length≤9223372036854775807:=by omega
 have hglt:=World.block_lt_of_cell? w _ hg;clear ha
 go_enter Tryz.func134,Tryz.ntmps134
 go_wp2
 go_loopw [5,8] (fun _ i wr=>∃k:Nat,k≤rs.length∧i=.int .i64 k∧(∀j,j<k→∀z,rs[j]?=some z→z.id≠id)∧Below w.heap.size w wr) (fun _ i _=>rs.length-(intOf i).toNat)
 case atStart=>exact ⟨0,by omega,rfl,by simp,Below.refl _ _⟩
 case round=>
  obtain ⟨k,hk,rfl,hno,hbel⟩:=hrel;have HN:=Lib.hid hno;clear hno;have hgr:wr.cell? ⟨g,0,none⟩=some (.int .i64 id):=(hbel.cell (p:=⟨g,0,none⟩) hglt).trans hg;by_cases hlt:k<rs.length
  ·obtain ⟨x,hx⟩:=je hlt
   obtain ⟨b1,o1,vk1,T1,rfl,-,hr1,-,-,hb1,hx1⟩:=hca k x hx;clear hca;obtain ⟨v0,v1,U0,U1,rfl,-,-,-⟩:=kr hr1;have HX:=Lib.hid hx;clear hx;have p0:=(hbel.cell (p:=⟨b1,o1+k*8,none⟩) hb1).trans (hx1 0 _ rfl:w.cell? ⟨b1,o1+k*8,none⟩=_);have p1:=(hbel.cell (p:=⟨b1,o1+k*8+1,none⟩) hb1).trans (hx1 1 _ rfl);have p2:=(hbel.cell (p:=⟨b1,o1+k*8+2,none⟩) hb1).trans (hx1 2 _ rfl);have p3:=(hbel.cell (p:=⟨b1,o1+k*8+3,none⟩) hb1).trans (hx1 3 _ rfl);have p4:=(hbel.cell (p:=⟨b1,o1+k*8+4,none⟩) hb1).trans (hx1 4 _ rfl);have p5:=(hbel.cell (p:=⟨b1,o1+k*8+5,none⟩) hb1).trans (hx1 5 _ rfl);have p6:=(hbel.cell (p:=⟨b1,o1+k*8+6,none⟩) hb1).trans (hx1 6 _ rfl);have p7:=(hbel.cell (p:=⟨b1,o1+k*8+7,none⟩) hb1).trans (hx1 7 _ rfl);clear hx1;by_cases he:x.id=id
   ·have hb:(x.id==id)=true:=by simpa using he
    have HE:=Lib.hid he;clear he
    go_wp2_with (go_at_call 135;refine (jpk x id _ _ _ _ own ⟨_,rfl,hr1.below hbel (Nat.le_refl _)⟩ hgr).mono ?_;rintro e w2 ⟨rfl,hb2⟩)
    go_ret
    exact ⟨qe (jfd HX.out HE.out HN.out).symm,jD hbel hb2⟩
   ·have hb:(x.id==id)=false:=by simpa using he
    have HE:=Lib.hid he;clear he
    go_wp2_with (go_at_call 135;refine (jpk x id _ _ _ _ own ⟨_,rfl,hr1.below hbel (Nat.le_refl _)⟩ hgr).mono ?_;rintro e w2 ⟨rfl,hb2⟩)
    go_roundw
    case rel=>
     refine ⟨k+1,by omega,by go_num,fun j hj z hz=>?_,jD hbel hb2⟩
     by_cases hjk:j=k
     ·subst hjk
      have:=HX.out;rw [hz] at this;cases this;exact HE.out
     ·exact HN.out j (by omega) z hz
    case measure=>simp [intOf];omega
  ·obtain rfl:k=rs.length:=by omega
   clear hca
   go_wp2
   go_ret
   exact ⟨qe (jhp HN.out).symm,hbel⟩
theorem jbk (y:Yd) (id:Int) (a:Value) (S:List Nat) (w:World) (own:Bool) (ha:AggRep w own (jb y) a S):
 Calls Tryz.prog 56 #[a,.int .i64 id] w fun e w'=>e=.returned (.int .i64 (runAt y id))∧Below w.heap.size w w':=by
 obtain ⟨_,rfl,ha⟩:=ha;obtain ⟨sv,rv,S1,S2,rfl,ah0,ah1,rfl⟩:=qv ha;clear ha ah0;obtain ⟨A,c,rfl,hc1,hc2,hca⟩:=Rep.open_ (size:=8) (enc:=jd) (fun _=>rfl) (by decide) ah1
 unfold maxLen at hc2;have hl1:y.runs.length≤9223372036854775807:=by omega
 clear hca;by_cases h8:8<y.runs.length
 ·have hr:runAt y id=-1:=by simp [runAt,h8]
  rw [hr];clear hr
  go_enter Tryz.func56,Tryz.ntmps56
  go_wp2
  go_ret
  exact ⟨rfl,((Below.refl _ _).alloc (by simp) _).alloc (by simp) _⟩
 ·have hr:runAt y id=jhq y.runs id:=by simp [runAt,h8]
  rw [hr];clear hr
  go_enter Tryz.func56,Tryz.ntmps56
  go_wp2_with (go_at_call 134;refine (jqZ y.runs id _ _ _ _ own (ah1.below (((Below.refl _ _).alloc (by simp) _).alloc (by simp) _) (Nat.le_refl _)) (by simp [go_sem])).mono ?_;rintro e w2 ⟨rfl,hb2⟩)
  go_ret
  exact ⟨rfl,jD (((Below.refl _ _).alloc (by simp) _).alloc (by simp) _) hb2⟩
open Go.RowKit Go.Sort Go.BigFrame
theorem ju9 (l:List Ed) (a:Value) (S:List Nat) (w:World) (own:Bool) (left:Int) (ha:Rep w own (ju l) a S) (h0:0≤left) (h1:left≤1048576):
 Calls Tryz.prog 182 #[a,.int .i64 left] w fun e w'=>e=.returned (.int .i64 (szf l.length left))∧Below w.heap.size w w':=by
 obtain ⟨A,c,rfl,hc1,hc2,hca⟩:=Rep.open_ (size:=2) (enc:=jJ) (fun _=>rfl) (by decide) ha
 clear ha hca;unfold maxLen at hc2;have hl1:l.length≤9223372036854775807:=by omega
 have hs:=kS l.length left
 go_enter Tryz.func182,Tryz.ntmps182
 go_wp2
 all_goals go_ret
 all_goals exact ⟨qe (by omega),Below.refl _ _⟩
theorem jrB (x:Pl) (a:Value) (S:List Nat) (w:World) (own:Bool) (left:Int) (ha:AggRep w own (ja x) a S) (h0:0≤left) (h1:left≤1048576):
 Calls Tryz.prog 103 #[a,.int .i64 left] w fun e w'=>e=.returned (.int .i64 (szf (jah x) left))∧Below w.heap.size w w':=by
 obtain ⟨_,rfl,ha⟩:=ha;obtain ⟨av0,rfl,ah0⟩:=zd ha;clear ha;have hs0:=kS (x.edges.length) (left);have hs:=kS (jah x) left;have ht:jah x=x.edges.length:=rfl;rw [ht] at hs;have HT:=Lib.hid ht;clear ht
 go_enter Tryz.func103,Tryz.ntmps103
 go_wp2_with (first
  |(go_at_call 182;refine (ju9 x.edges _ _ _ _ _ (ah0.below (by repeat (first|(with_reducible exact Below.refl _ _)|(with_reducible assumption)|((with_reducible refine Below.alloc ?_ ?_ _);rotate_left;focus (simp;try omega))|((with_reducible refine Below.setCell ?_ ?_ _);rotate_left;focus (simp;try omega))|(with_reducible refine jD ?_ (by assumption)))) (Nat.le_refl _)) (by omega) (by omega)).mono ?_;rintro e w1 ⟨rfl,hb1⟩;obtain ⟨hc1,hf1⟩:=qo hb1))
 all_goals go_ret
 all_goals exact ⟨qe (HT.out▸(by omega)),by repeat (first|(with_reducible exact Below.refl _ _)|(with_reducible assumption)|((with_reducible refine Below.alloc ?_ ?_ _);rotate_left;focus (simp;try omega))|((with_reducible refine Below.setCell ?_ ?_ _);rotate_left;focus (simp;try omega))|(with_reducible refine jD ?_ (by assumption)))⟩
theorem jsY (l:List En) (a:Value) (S:List Nat) (w:World) (own:Bool) (left:Int) (ha:Rep w own (jk l) a S) (h0:0≤left) (h1:left≤1048576):
 Calls Tryz.prog 180 #[a,.int .i64 left] w fun e w'=>e=.returned (.int .i64 (szf l.length left))∧Below w.heap.size w w':=by
 obtain ⟨A,c,rfl,hc1,hc2,hca⟩:=Rep.open_ (size:=4) (enc:=jf) (fun _=>rfl) (by decide) ha
 clear ha hca;unfold maxLen at hc2;have hl1:l.length≤9223372036854775807:=by omega
 have hs:=kS l.length left
 go_enter Tryz.func180,Tryz.ntmps180
 go_wp2
 all_goals go_ret
 all_goals exact ⟨qe (by omega),Below.refl _ _⟩
theorem jqa (l:List (List En)) (a:Value) (S:List Nat) (w:World) (own:Bool) (left:Int) (ha:Rep w own (kj l) a S) (h0:0≤left) (h1:left≤1048576):
 Calls Tryz.prog 101 #[a,.int .i64 left] w fun e w'=>e=.returned (.int .i64 (szf (vP l) left))∧Below w.heap.size w w':=by
 obtain ⟨A,c,rfl,hc1,hc2,hca⟩:=Rep.open_ (size:=1) (enc:=(fun es=>[jk es])) (fun _=>rfl) (by decide) ha
 clear ha;unfold maxLen at hc2;have hl1:l.length≤9223372036854775807:=by omega
 have hs:=kS (vP l) left;have ht:vP l=l.length+ke kH l:=rfl;rw [ht] at hs;have HT:=Lib.hid ht;clear ht;by_cases hneg:left-(l.length:Int)<0
 ·clear hca
  go_enter Tryz.func101,Tryz.ntmps101
  go_wp2
  go_ret
  exact ⟨qe (by rw [HT.out];omega),Below.refl _ _⟩
 ·go_enter Tryz.func101,Tryz.ntmps101
  go_wp2
  go_loopw [1,5] (fun q i wr=>∃(k:Nat) (v:Int),k≤l.length∧i=.int .i64 k∧q=.int .i64 v∧0≤v∧v=left-l.length-ke kH (l.take k)∧Below w.heap.size w wr) (fun _ i _=>l.length-(intOf i).toNat)
  case atStart=>exact ⟨0,left-l.length,by omega,rfl,rfl,by omega,by simp [ke],Below.refl _ _⟩
  case round=>
   obtain ⟨k,v,hk,rfl,rfl,hv0,hv,hbel⟩:=hrel;by_cases hlt:k<l.length
   ·obtain ⟨x,hx⟩:=je hlt
    obtain ⟨b1,o1,vk1,T1,rfl,-,hr1,-,-,hb1,hx1⟩:=hca k x hx;clear hca;obtain ⟨au,_,aS0,aS1,rfl,rfl,ah0,rfl,rfl⟩:=hr1;have htk:=kW (tot:=kH) hx;have htl:=qW kH l (k+1);have hsx:=kS (kH x) v;have hv1:v≤1048576:=by omega
    have HV:=Lib.hid hv;have HK:=Lib.hid htk;clear hx hv htk;have p0:=(hbel.cell (p:=⟨b1,o1+k,none⟩) hb1).trans (by simpa using hx1 0 _ rfl:w.cell? ⟨b1,o1+k,none⟩=_)
    clear hx1
    go_wp2_with (go_at_call 180;refine (jsY x _ _ _ _ _ (ah0.below hbel (Nat.le_refl _)) (by omega) (by omega)).mono ?_;rintro e w2 ⟨rfl,hb2⟩)
    ·go_ret
     have hv:=HV.out;have htk:=HK.out;exact ⟨qe (by rw [HT.out];(try simp only [kH] at*);omega),jD hbel hb2⟩
    ·go_roundw
     case rel=>
      have hv:=HV.out;have htk:=HK.out;refine ⟨k+1,_,by omega,by go_num,rfl,by omega,?_,jD hbel hb2⟩
      try simp only [kH] at*
      omega
     case measure=>simp [intOf];omega
   ·obtain rfl:k=l.length:=by omega
    clear hca;rw [List.take_length] at hv;have HV:=Lib.hid hv;clear hv
    go_wp2
    go_ret
    have hv:=HV.out;exact ⟨qe (by rw [HT.out];omega),hbel⟩
theorem ju8 (l:List Tk) (a:Value) (S:List Nat) (w:World) (own:Bool) (left:Int) (ha:Rep w own (jy l) a S) (h0:0≤left) (h1:left≤1048576):
 Calls Tryz.prog 255 #[a,.int .i64 left] w fun e w'=>e=.returned (.int .i64 (szf l.length left))∧Below w.heap.size w w':=by
 obtain ⟨A,c,rfl,hc1,hc2,hca⟩:=Rep.open_ (size:=4) (enc:=jo) (fun _=>rfl) (by decide) ha
 clear ha hca;unfold maxLen at hc2;have hl1:l.length≤9223372036854775807:=by omega
 have hs:=kS l.length left
 go_enter Tryz.func255,Tryz.ntmps255
 go_wp2
 all_goals go_ret
 all_goals exact ⟨qe (by omega),Below.refl _ _⟩
theorem jBu (x:Rn) (a:Value) (S:List Nat) (w:World) (own:Bool) (left:Int) (ha:AggRep w own (jd x) a S) (h0:0≤left) (h1:left≤1048576):
 Calls Tryz.prog 181 #[a,.int .i64 left] w fun e w'=>e=.returned (.int .i64 (szf (kq x) left))∧Below w.heap.size w w':=by
 obtain ⟨_,rfl,ha⟩:=ha;obtain ⟨av0,av1,aS0,aS1,rfl,ah0,ah1,rfl⟩:=kr ha;clear ha;have hs0:=kS (jah x.plan) (left);have hs1:=kS (x.tasks.length) (szf (jah x.plan) (left));have hs:=kS (kq x) left;have ht:kq x=jah x.plan+x.tasks.length:=rfl;rw [ht] at hs;have HT:=Lib.hid ht;clear ht
 go_enter Tryz.func181,Tryz.ntmps181
 go_wp2_with (first
  |(go_at_call 103;refine (jrB x.plan _ _ _ _ _ ⟨_,rfl,jhy (ah0.below (by repeat (first|(with_reducible exact Below.refl _ _)|(with_reducible assumption)|((with_reducible refine Below.alloc ?_ ?_ _);rotate_left;focus (simp;try omega))|((with_reducible refine Below.setCell ?_ ?_ _);rotate_left;focus (simp;try omega))|(with_reducible refine jD ?_ (by assumption)))) (Nat.le_refl _))⟩ (by omega) (by omega)).mono ?_;rintro e w1 ⟨rfl,hb1⟩;obtain ⟨hc1,hf1⟩:=qo hb1)
  |(go_at_call 255;refine (ju8 x.tasks _ _ _ _ _ (ah1.below (by repeat (first|(with_reducible exact Below.refl _ _)|(with_reducible assumption)|((with_reducible refine Below.alloc ?_ ?_ _);rotate_left;focus (simp;try omega))|((with_reducible refine Below.setCell ?_ ?_ _);rotate_left;focus (simp;try omega))|(with_reducible refine jD ?_ (by assumption)))) (Nat.le_refl _)) (by omega) (by omega)).mono ?_;rintro e w2 ⟨rfl,hb2⟩;obtain ⟨hc2,hf2⟩:=qo hb2))
 all_goals go_ret
 all_goals exact ⟨qe (HT.out▸(by omega)),by repeat (first|(with_reducible exact Below.refl _ _)|(with_reducible assumption)|((with_reducible refine Below.alloc ?_ ?_ _);rotate_left;focus (simp;try omega))|((with_reducible refine Below.setCell ?_ ?_ _);rotate_left;focus (simp;try omega))|(with_reducible refine jD ?_ (by assumption)))⟩
theorem jyx (l:List (Rn)) (a:Value) (S:List Nat) (w:World) (own:Bool) (left:Int) (ha:Rep w own (jN l) a S) (h0:0≤left) (h1:left≤1048576):
 Calls Tryz.prog 102 #[a,.int .i64 left] w fun e w'=>e=.returned (.int .i64 (szf (qx l) left))∧Below w.heap.size w w':=by
 obtain ⟨A,c,rfl,hc1,hc2,hca⟩:=Rep.open_ (size:=8) (enc:=jd) (fun _=>rfl) (by decide) ha
 clear ha;unfold maxLen at hc2;have hl1:l.length≤9223372036854775807:=by omega
 have hs:=kS (qx l) left;have ht:qx l=l.length+ke kq l:=rfl;rw [ht] at hs;have HT:=Lib.hid ht;clear ht;by_cases hneg:left-(l.length:Int)<0
 ·clear hca
  go_enter Tryz.func102,Tryz.ntmps102
  go_wp2
  go_ret
  exact ⟨qe (by rw [HT.out];omega),Below.refl _ _⟩
 ·go_enter Tryz.func102,Tryz.ntmps102
  go_wp2
  go_loopw [1,5] (fun q i wr=>∃(k:Nat) (v:Int),k≤l.length∧i=.int .i64 k∧q=.int .i64 v∧0≤v∧v=left-l.length-ke kq (l.take k)∧Below w.heap.size w wr) (fun _ i _=>l.length-(intOf i).toNat)
  case atStart=>exact ⟨0,left-l.length,by omega,rfl,rfl,by omega,by simp [ke],Below.refl _ _⟩
  case round=>
   obtain ⟨k,v,hk,rfl,rfl,hv0,hv,hbel⟩:=hrel;by_cases hlt:k<l.length
   ·obtain ⟨x,hx⟩:=je hlt
    obtain ⟨b1,o1,vk1,T1,rfl,-,hr1,-,-,hb1,hx1⟩:=hca k x hx;clear hca;obtain ⟨av0,av1,aS0,aS1,rfl,ah0,ah1,rfl⟩:=kr hr1;have htk:=kW (tot:=kq) hx;have htl:=qW kq l (k+1);have hsx:=kS (kq x) v;have hv1:v≤1048576:=by omega
    have HV:=Lib.hid hv;have HK:=Lib.hid htk;clear hx hv htk;have p0:=(hbel.cell (p:=⟨b1,o1+k*8,none⟩) hb1).trans (hx1 0 _ rfl:w.cell? ⟨b1,o1+k*8,none⟩=_);have p1:=(hbel.cell (p:=⟨b1,o1+k*8+1,none⟩) hb1).trans (hx1 1 _ rfl:w.cell? ⟨b1,o1+k*8+1,none⟩=_);have p2:=(hbel.cell (p:=⟨b1,o1+k*8+2,none⟩) hb1).trans (hx1 2 _ rfl:w.cell? ⟨b1,o1+k*8+2,none⟩=_);have p3:=(hbel.cell (p:=⟨b1,o1+k*8+3,none⟩) hb1).trans (hx1 3 _ rfl:w.cell? ⟨b1,o1+k*8+3,none⟩=_);have p4:=(hbel.cell (p:=⟨b1,o1+k*8+4,none⟩) hb1).trans (hx1 4 _ rfl:w.cell? ⟨b1,o1+k*8+4,none⟩=_);have p5:=(hbel.cell (p:=⟨b1,o1+k*8+5,none⟩) hb1).trans (hx1 5 _ rfl:w.cell? ⟨b1,o1+k*8+5,none⟩=_);have p6:=(hbel.cell (p:=⟨b1,o1+k*8+6,none⟩) hb1).trans (hx1 6 _ rfl:w.cell? ⟨b1,o1+k*8+6,none⟩=_);have p7:=(hbel.cell (p:=⟨b1,o1+k*8+7,none⟩) hb1).trans (hx1 7 _ rfl:w.cell? ⟨b1,o1+k*8+7,none⟩=_);clear hx1
    go_wp2_with (go_at_call 181;refine (jBu x _ _ _ _ _ ⟨_,rfl,hr1.below hbel (Nat.le_refl _)⟩ (by omega) (by omega)).mono ?_;rintro e w2 ⟨rfl,hb2⟩)
    ·go_ret
     have hv:=HV.out;have htk:=HK.out;exact ⟨qe (by rw [HT.out];(try simp only [kH] at*);omega),jD hbel hb2⟩
    ·go_roundw
     case rel=>
      have hv:=HV.out;have htk:=HK.out;refine ⟨k+1,_,by omega,by go_num,rfl,by omega,?_,jD hbel hb2⟩
      try simp only [kH] at*
      omega
     case measure=>simp [intOf];omega
   ·obtain rfl:k=l.length:=by omega
    clear hca;rw [List.take_length] at hv;have HV:=Lib.hid hv;clear hv
    go_wp2
    go_ret
    have hv:=HV.out;exact ⟨qe (by rw [HT.out];omega),hbel⟩
theorem jyw (x:Yd) (a:Value) (S:List Nat) (w:World) (own:Bool) (left:Int) (ha:AggRep w own (jb x) a S) (h0:0≤left) (h1:left≤1048576):
 Calls Tryz.prog 28 #[a,.int .i64 left] w fun e w'=>e=.returned (.int .i64 (szf (jt x) left))∧Below w.heap.size w w':=by
 obtain ⟨_,rfl,ha⟩:=ha;obtain ⟨av0,av1,aS0,aS1,rfl,ah0,ah1,rfl⟩:=qv ha;clear ha;have hs0:=kS (vP x.shelf) (left);have hs1:=kS (qx x.runs) (szf (vP x.shelf) (left));have hs:=kS (jt x) left;have ht:jt x=vP x.shelf+qx x.runs:=rfl;rw [ht] at hs;have HT:=Lib.hid ht;clear ht
 go_enter Tryz.func28,Tryz.ntmps28
 go_wp2_with (first
  |(go_at_call 101;refine (jqa x.shelf _ _ _ _ _ (ah0.below (by repeat (first|(with_reducible exact Below.refl _ _)|(with_reducible assumption)|((with_reducible refine Below.alloc ?_ ?_ _);rotate_left;focus (simp;try omega))|((with_reducible refine Below.setCell ?_ ?_ _);rotate_left;focus (simp;try omega))|(with_reducible refine jD ?_ (by assumption)))) (Nat.le_refl _)) (by omega) (by omega)).mono ?_;rintro e w1 ⟨rfl,hb1⟩;obtain ⟨hc1,hf1⟩:=qo hb1)
  |(go_at_call 102;refine (jyx x.runs _ _ _ _ _ (ah1.below (by repeat (first|(with_reducible exact Below.refl _ _)|(with_reducible assumption)|((with_reducible refine Below.alloc ?_ ?_ _);rotate_left;focus (simp;try omega))|((with_reducible refine Below.setCell ?_ ?_ _);rotate_left;focus (simp;try omega))|(with_reducible refine jD ?_ (by assumption)))) (Nat.le_refl _)) (by omega) (by omega)).mono ?_;rintro e w2 ⟨rfl,hb2⟩;obtain ⟨hc2,hf2⟩:=qo hb2))
 all_goals go_ret
 all_goals exact ⟨qe (HT.out▸(by omega)),by repeat (first|(with_reducible exact Below.refl _ _)|(with_reducible assumption)|((with_reducible refine Below.alloc ?_ ?_ _);rotate_left;focus (simp;try omega))|((with_reducible refine Below.setCell ?_ ?_ _);rotate_left;focus (simp;try omega))|(with_reducible refine jD ?_ (by assumption)))⟩
theorem jyy (x:Dd) (a:Value) (S:List Nat) (w:World) (own:Bool) (left:Int) (ha:AggRep w own (jg x) a S) (h0:0≤left) (h1:left≤1048576):
 Calls Tryz.prog 29 #[a,.int .i64 left] w fun e w'=>e=.returned (.int .i64 (szf (zn x) left))∧Below w.heap.size w w':=by
 obtain ⟨_,rfl,ha⟩:=ha;obtain ⟨av0,rfl,ah0⟩:=kM ha;clear ha;have hs0:=kS (jah x.plan) (left);have hs:=kS (zn x) left;have ht:zn x=jah x.plan:=rfl;rw [ht] at hs;have HT:=Lib.hid ht;clear ht
 go_enter Tryz.func29,Tryz.ntmps29
 go_wp2_with (first
  |(go_at_call 103;refine (jrB x.plan _ _ _ _ _ ⟨_,rfl,jhy (ah0.below (by repeat (first|(with_reducible exact Below.refl _ _)|(with_reducible assumption)|((with_reducible refine Below.alloc ?_ ?_ _);rotate_left;focus (simp;try omega))|((with_reducible refine Below.setCell ?_ ?_ _);rotate_left;focus (simp;try omega))|(with_reducible refine jD ?_ (by assumption)))) (Nat.le_refl _))⟩ (by omega) (by omega)).mono ?_;rintro e w1 ⟨rfl,hb1⟩;obtain ⟨hc1,hf1⟩:=qo hb1))
 all_goals go_ret
 all_goals exact ⟨qe (HT.out▸(by omega)),by repeat (first|(with_reducible exact Below.refl _ _)|(with_reducible assumption)|((with_reducible refine Below.alloc ?_ ?_ _);rotate_left;focus (simp;try omega))|((with_reducible refine Below.setCell ?_ ?_ _);rotate_left;focus (simp;try omega))|(with_reducible refine jD ?_ (by assumption)))⟩
open Go.RowKit Go.ChangeShapes Go.WideShapes Go.Deep Go.ChangeAt
def inR (n:Int):Prop:=-9223372036854775808≤n∧n≤9223372036854775807
def Pl.wf (p:Pl):Prop:=inR p.prio∧inR p.most∧inR p.wait∧inR p.tasks∧∀e∈p.edges,inR e.src∧inR e.dst
def En.wf (e:En):Prop:=inR e.prio∧inR e.seq∧inR e.run∧inR e.task
def Tk.wf (e:Tk):Prop:=inR e.state∧inR e.need∧inR e.tri∧inR e.til
def Rn.wf (r:Rn):Prop:=inR r.id∧r.plan.wf∧inR r.state∧∀t∈r.tasks,t.wf
def Yd.wf (y:Yd):Prop:=inR y.now∧inR y.seq∧(∀l∈y.shelf,∀e∈l,e.wf)∧∀r∈y.runs,r.wf
def Dd.wf (d:Dd):Prop:=inR d.kind∧inR d.run∧d.plan.wf∧inR d.task∧inR d.tri∧inR d.worker∧inR d.draw
def Nt.wf (n:Nt):Prop:=inR n.seq∧n.deed.wf
def ReadsAs (P:Program) (t:TypeId) {α:Type} (E:α→List D) (W:α→Prop):Prop:=
 ∀(H:Type) (enc:TypeId×Value→H) (w:World) (base:Nat) (spare:Nat→Bool) (held:Bool) (n:Nat) (cs:List Value) (y:DataW H×List MemPlace),
  DataW.trod enc P w base spare held n t cs=some y→∃x,W x∧∃S,RepL w false (E x) cs S
def jAm (H:Type) (enc:TypeId×Value→H) (P:Program) (w:World) (base:Nat) (spare:Nat→Bool) (held:Bool) (n:Nat):List Field→List Value→Prop
 |[],cs=>cs=[]
 |f::l,cs=>(∃y,DataW.trod enc P w base spare held n f.type (cs.take (P.cellsOf f.type))=some y)∧jAm H enc P w base spare held n l (cs.drop (P.cellsOf f.type))
def jjR (P:Program) (l:List Field) {α:Type} (E:α→List D) (W:α→Prop):Prop:=
 ∀(H:Type) (enc:TypeId×Value→H) (w:World) (base:Nat) (spare:Nat→Bool) (held:Bool) (n:Nat) (cs:List Value),jAm H enc P w base spare held n l cs→∃x,W x∧∃S,RepL w false (E x) cs S
def jvB (P:Program):List Field→Nat→Nat→Bool
 |[],off,tot=>off==tot
 |f::l,off,tot=>f.offset==off&&jvB P l (off+P.cellsOf f.type) tot
section
variable {P:Program} {t e:TypeId} {α β:Type} {E:α→List D} {E':β→List D} {W:α→Prop} {W':β→Prop}
theorem ReadsAs.map (h:ReadsAs P t E W) (g:α→β) (hE:∀a,E' (g a)=E a) (hW:∀a,W a→W' (g a)):ReadsAs P t E' W':=by
 intro H enc w base spare held n cs y hy;obtain ⟨x,hx,S,hr⟩:=h H enc w base spare held n cs y hy;exact ⟨g x,hW x hx,S,by rw [hE];exact hr⟩
theorem jEz (ht:P.underlying t=some (.int .i64)):ReadsAs P t (fun n=>[iv n]) inR:=by
 intro H enc w base spare held n cs y hy;obtain ⟨i,rfl,_,hw⟩:=DataW.trod_int ht hy;refine ⟨i,?_,[],RepL.val_ RepL.nil_⟩;simpa [Lit.wf,IntKind.min,IntKind.max,IntKind.signed,IntKind.bits,inR] using hw
theorem jkL:jjR P [] (fun _:Unit=>[]) (fun _=>True):=by
 intro H enc w base spare held n cs h;cases cs with
 |nil=>exact ⟨(),trivial,[],RepL.nil_⟩
 |cons c cs=>exact absurd h (by simp [jAm])
theorem kF {f:Field} {l:List Field} (h:ReadsAs P f.type E W) (k:jjR P l E' W'):jjR P (f::l) (fun p:α×β=>E p.1++E' p.2) (fun p=>W p.1∧W' p.2):=by
 intro H enc w base spare held n cs hs;obtain ⟨⟨y,hy⟩,hs⟩:=hs;obtain ⟨x,hx,S,hr⟩:=h H enc w base spare held n _ y hy;obtain ⟨x',hx',S',hr'⟩:=k H enc w base spare held n _ hs;refine ⟨(x,x'),⟨hx,hx'⟩,S++S',?_⟩;have:=RepL.append_ _ hr hr'
 rwa [List.take_append_drop] at this
theorem jAy {H:Type} {enc:TypeId×Value→H} {w:World} {base:Nat} {spare:Nat→Bool} {held:Bool} {n:Nat}:∀(l:List Field) (off tot:Nat) (cs:List Value),jvB P l off tot=true→cs.length=tot→
 (∀f∈l,∃y,DataW.trod enc P w base spare held n f.type ((cs.drop f.offset).take (P.cellsOf f.type))=some y)→jAm H enc P w base spare held n l (cs.drop off)
 |[],off,tot,cs,h,hl,_=>by
  simp [jvB] at h;exact List.drop_eq_nil_of_le (by omega)
 |f::l,off,tot,cs,h,hl,hf=>by
  simp only [jvB,Bool.and_eq_true,beq_iff_eq] at h;obtain ⟨y,hy⟩:=hf f (by simp)
  rw [h.1] at hy;refine ⟨⟨y,hy⟩,?_⟩;rw [List.drop_drop];exact jAy l _ tot cs h.2 hl fun g hg=>hf g (by simp [hg])
theorem jaV {fs:Array Field} (ht:P.underlying t=some (.struct fs)) (hs:jvB P fs.toList 0 (P.cellsOf t)=true) (h:jjR P fs.toList E W):ReadsAs P t E W:=by
 intro H enc w base spare held n cs y hy;obtain ⟨xs,m,_,_,hlen,hxl,hf⟩:=DataW.trod_struct ht hy
 have:=jAy (H:=H) (enc:=enc) (w:=w) (base:=base) (spare:=spare) (held:=held) (n:=m) fs.toList 0 _ cs hs hlen (fun f hf'=>by
  obtain ⟨i,hi,rfl⟩:=List.getElem_of_mem hf';have hi':i<fs.size:=by simpa using hi
  refine ⟨xs[i]'(by omega),?_⟩
  have h1:=hf i fs[i] (Array.getElem?_eq_getElem hi');rw [List.getElem?_eq_getElem (by omega)] at h1
  simpa using h1)
 rw [List.drop_zero] at this;exact h H enc w base spare held m cs this
theorem jxB {w:World} {a:Addr} {v:Value} (h:w.cell? a=some v):a=⟨a.block,a.off,none⟩:=by
 obtain ⟨b,o,s⟩:=a;cases s with
 |none=>rfl
 |some s=>simp only [World.cell?] at h;split at h<;>simp at h
theorem jdV {size:Nat} {ty:TypeId} (ht:P.underlying t=some (.slice e)) (h:ReadsAs P e E W) (hc:P.cellsOf e=size) (hl:∀x,(E x).length=size) (_hs:0<size):
 ReadsAs P t (fun xs:List α=>[.sl size ty (xs.flatMap E)]) (fun xs=>∀x∈xs,W x):=by
 intro H enc w base spare held n cs y hy;rcases open_slice ht hy with ⟨rfl,_⟩|⟨a,len,cap,m,n',D',Pl,rfl,hb,hlc,hcm,hm,_,hi⟩
 ·have hrep:Rep w false (.sl size ty (List.flatMap E [])) (.slice none 0 0) []:=⟨[],[],[],⟨by simp,none,0,0,rfl,by simp,Nat.le_refl _,Nat.zero_le _,fun _=>rfl,by simp⟩,RepL.nil_,rfl⟩
  exact ⟨[],by simp,[],RepL.cons_ hrep RepL.nil_⟩
 ·have hlm:len≤m:=by rw [hm];split<;>omega
  have key:∀k,k≤len→∃(xs:List α) (vs:List Value) (S:List Nat),xs.length=k∧(∀x∈xs,W x)∧RepL w false (xs.flatMap E) vs S∧∀j u,vs[j]?=some u→w.cell? (a.add j)=some u:=by
   intro k
   induction k with
   |zero=>exact fun _=>⟨[],[],[],rfl,by simp,RepL.nil_,by simp⟩
   |succ k ih=>
    intro hk;obtain ⟨xs,vs,S,hxl,hW,hr,hcell⟩:=ih (by omega)
    obtain ⟨cs',hcs,htr⟩:=hi k (by omega)
    obtain ⟨x,hx,S',hr'⟩:=h H enc w base spare held n' cs' _ htr;obtain ⟨_,hcl,hat⟩:=World.cells?_some hcs;rw [hc] at hat hcl;have hvl:vs.length=k*size:=by rw [RepL.length _ hr,jM hl,hxl]
    refine ⟨xs++[x],vs++cs',S++S',by simp [hxl],?_,?_,?_⟩
    ·intro z hz
     rcases List.mem_append.1 hz with hz|hz
     ·exact hW z hz
     ·simp at hz;subst hz;exact hx
    ·rw [List.flatMap_append]
     exact RepL.append_ _ hr (by simpa using hr')
    ·intro j u hu
     by_cases hj:j<vs.length
     ·rw [List.getElem?_append_left hj] at hu
      exact hcell j u hu
     ·rw [List.getElem?_append_right (by omega)] at hu
      have hjl:j-vs.length<cs'.length:=(List.getElem?_eq_some_iff.1 hu).1;have h2:=hat (j-vs.length) (by omega)
      rw [hu,add_add,show k*size+(j-vs.length)=j by omega] at h2
      exact h2
  obtain ⟨xs,vs,S,hxl,hW,hr,hcell⟩:=key len (Nat.le_refl _);have hvl:vs.length=len*size:=by rw [RepL.length _ hr,jM hl,hxl]
  refine ⟨xs,hW,?_⟩;by_cases hne:vs=[]
  ·subst hne
   refine ⟨S,?_⟩;have hrep:Rep w false (.sl size ty (xs.flatMap E)) (.slice (some a) len cap) S:=⟨[],[],S,⟨by simp,some a,len,cap,rfl,hvl,hlc,hcm,(fun e=>nomatch e),by simp⟩,hr,rfl⟩
   have:=RepL.cons_ hrep (RepL.nil_ (w:=w) (own:=false));simpa using this
  ·obtain ⟨u,us,rfl⟩:=List.exists_cons_of_ne_nil hne
   have h0:=hcell 0 u rfl;have ha:a.add 0=a:=by simp [Addr.add]
   rw [ha] at h0;have hsp:=jxB h0;have hlt:=World.block_lt_of_cell? w _ h0;refine ⟨[a.block]++S,?_⟩
   have hrep:Rep w false (.sl size ty (xs.flatMap E)) (.slice (some a) len cap) ([a.block]++S):=by
    refine ⟨u::us,[a.block],S,⟨by simpa using hlt,some a,len,cap,rfl,hvl,hlc,hcm,(fun e=>nomatch e),fun _=>⟨a.block,a.off,by rw [←hsp],rfl,fun j v hv=>?_⟩⟩,hr,rfl⟩
    have:=hcell j v hv;rw [hsp] at this
    rwa [Addr.add_mid] at this
   have:=RepL.cons_ hrep (RepL.nil_ (w:=w) (own:=false));simpa using this
end
theorem jjH:ReadsAs Tryz.prog 3 (fun n=>[iv n]) inR:=jEz (by kernel_rfl)
theorem rEdge:ReadsAs Tryz.prog 289 jJ (fun e=>inR e.src∧inR e.dst):=
 (jaV Tryz.underlying289 (by kernel_rfl) (kF jjH (kF jjH jkL))).map (fun p=>⟨p.1,p.2.1⟩) (fun _=>rfl) (fun _ h=>⟨h.1,h.2.1⟩)
theorem jEH:ReadsAs Tryz.prog 57 (fun l=>[ju l]) (fun l=>∀e∈l,inR e.src∧inR e.dst):=
 jdV (size:=2) (ty:=tEd) Tryz.underlying57 rEdge (by kernel_rfl) (fun _=>rfl) (by decide)
theorem jEF:ReadsAs Tryz.prog 59 ja Pl.wf:=
 (jaV Tryz.underlying59 (by kernel_rfl) (kF jjH (kF jjH (kF jjH (kF jjH (kF jEH jkL)))))).map (fun p=>⟨p.1,p.2.1,p.2.2.1,p.2.2.2.1,p.2.2.2.2.1⟩) (fun _=>rfl) (fun _ h=>⟨h.1,h.2.1,h.2.2.1,h.2.2.2.1,h.2.2.2.2.1⟩)
theorem jEG:ReadsAs Tryz.prog 286 jf En.wf:=
 (jaV Tryz.underlying286 (by kernel_rfl) (kF jjH (kF jjH (kF jjH (kF jjH jkL))))).map (fun p=>⟨p.1,p.2.1,p.2.2.1,p.2.2.2.1⟩) (fun _=>rfl) (fun _ h=>⟨h.1,h.2.1,h.2.2.1,h.2.2.2.1⟩)
theorem jB6:ReadsAs Tryz.prog 212 (fun l=>[jk l]) (fun l=>∀e∈l,En.wf e):=
 jdV (size:=4) (ty:=tEn) Tryz.underlying212 jEG (by kernel_rfl) (fun _=>rfl) (by decide)
theorem jy4:ReadsAs Tryz.prog 22 (fun l=>[kj l]) (fun l=>∀es∈l,∀e∈es,En.wf e):=
 jdV (size:=1) (ty:=jn2) Tryz.underlying22 jB6 (by kernel_rfl) (fun _=>rfl) (by decide)
theorem rTask:ReadsAs Tryz.prog 297 jo Tk.wf:=
 (jaV Tryz.underlying297 (by kernel_rfl) (kF jjH (kF jjH (kF jjH (kF jjH jkL))))).map (fun p=>⟨p.1,p.2.1,p.2.2.1,p.2.2.2.1⟩) (fun _=>rfl) (fun _ h=>⟨h.1,h.2.1,h.2.2.1,h.2.2.2.1⟩)
theorem jEE:ReadsAs Tryz.prog 214 (fun l=>[jy l]) (fun l=>∀e∈l,Tk.wf e):=
 jdV (size:=4) (ty:=tTk) Tryz.underlying214 rTask (by kernel_rfl) (fun _=>rfl) (by decide)
theorem rRun:ReadsAs Tryz.prog 216 jd Rn.wf:=
 (jaV Tryz.underlying216 (by kernel_rfl) (kF jjH (kF jEF (kF jjH (kF jEE jkL))))).map (fun p=>⟨p.1,p.2.1,p.2.2.1,p.2.2.2.1⟩) (fun _=>rfl) (fun _ h=>⟨h.1,h.2.1,h.2.2.1,h.2.2.2.1⟩)
theorem rRunS:ReadsAs Tryz.prog 23 (fun l=>[jN l]) (fun l=>∀e∈l,Rn.wf e):=
 jdV (size:=8) (ty:=tRn) Tryz.underlying23 rRun (by kernel_rfl) jxg (by decide)
theorem rYard:ReadsAs Tryz.prog 25 jb Yd.wf:=
 (jaV Tryz.underlying25 (by kernel_rfl) (kF jjH (kF jjH (kF jy4 (kF rRunS jkL))))).map (fun p=>⟨p.1,p.2.1,p.2.2.1,p.2.2.2.1⟩) (fun _=>rfl) (fun _ h=>⟨h.1,h.2.1,h.2.2.1,h.2.2.2.1⟩)
theorem rDeed:ReadsAs Tryz.prog 61 jg Dd.wf:=
 (jaV Tryz.underlying61 (by kernel_rfl) (kF jjH (kF jjH (kF jEF (kF jjH (kF jjH (kF jjH (kF jjH jkL)))))))).map (fun p=>⟨p.1,p.2.1,p.2.2.1,p.2.2.2.1,p.2.2.2.2.1,p.2.2.2.2.2.1,p.2.2.2.2.2.2.1⟩) (fun _=>rfl) (fun _ h=>⟨h.1,h.2.1,h.2.2.1,h.2.2.2.1,h.2.2.2.2.1,h.2.2.2.2.2.1,h.2.2.2.2.2.2.1⟩)
theorem jEI:ReadsAs Tryz.prog 79 (fun l=>[qp l]) (fun l=>∀e∈l,Dd.wf e):=
 jdV (size:=11) (ty:=tDd) Tryz.underlying79 rDeed (by kernel_rfl) jxj (by decide)
open Go.ChangeShapes Go.WideShapes Go.ChangeAt Go.RowKit
theorem own:ownKnob Tryz.prog.godebug=none:=by kernel_rfl
theorem laid:laidOutB Tryz.prog=true:=by kernel_rfl
section
variable {H:Type} {enc:TypeId×Value→H} {P:Program}
theorem jmg {f:Func} {s:ChangeSpec} {apart kD handsOn again:Bool} {W W':World} {args:Array Value} {v:Value} {ds gs:List (DataW H)} {before pa pv:List MemPlace}
 (hW:DataW.Whole enc P f.params.toList s.vars apart W args.toList ds gs before)
 (hres:∀(b:Nat) (sp:Nat→Bool) (hd:Bool),DataW.TrodAll enc P W' b sp hd f.resultTypes.toList (v.resultList f.resultTypes.size) (s.fn H (ds++gs)).results [])
 (hargs:∀sp:Nat→Bool,(∀p∈before,sp p.block=true)→DataW.TrodAll enc P W' 0 sp true f.params.toList args.toList (s.fn H (ds++gs)).args pa)
 (hvars:∀sp:Nat→Bool,(∀p∈before,sp p.block=true)→DataW.TrodVars enc P W' sp s.vars (s.fn H (ds++gs)).vars pv)
 (hps:before=pa++pv) (hb:Below W.heap.size W W')
 (hok:∀(j:Nat) (t:TypeId) (r:Value),f.resultTypes[j]?=some t→(v.resultList f.resultTypes.size)[j]?=some r→Value.okWide P W' .any 0 t r):
 s.post enc P f apart kD handsOn again W args v W':=by
 have hlt:∀p∈before,p.block<W.heap.size:=fun p hp=>hW.lt p hp
 have hold:∀p∈before,(fun b=>decide (b<W.heap.size)) p.block=true:=fun p hp=>by simpa using hlt p hp
 refine ⟨ds,gs,before,[],pa,pv,hW,hres _ _ _,hargs _ hold,hvars _ hold,World.keptBut_mono (fun p hp=>⟨hp,?_⟩) (hb.frame (· ∈before)),fun _=>?_⟩
 ·rw [hps,List.mem_append] at hp
  exact Or.inr hp
 ·obtain ⟨_,_,_,_,_,hz,hn⟩:=hW
  refine ⟨hok,_,_,([]++pa)++pv,⟨[]++pa,pv,trodAll_append (hargs _ (fun _ _=>rfl)) (hres _ _ _),hvars _ (fun _ _=>rfl),rfl,?_,?_⟩,?_⟩
  ·intro b off hp
   have hin:MemPlace.cell b off∈before:=by rw [hps];simpa using hp
   rw [hb.frozen (hlt _ hin)];exact hz b off hin
  ·intro ha
   have:=hn ha;rw [hps] at this;simpa using this
  ·intro p hp _
   rw [hps];simpa using hp
theorem jpS {t:TypeId} (hl:laidOutB P=true) (hr:P.readableRec t=true) (hrow:t<P.types.size) {W W':World} {v:Value} {d:DataW H} {ps:List MemPlace} {sp:Nat→Bool}
 (h:DataW.Trod enc P W 0 (fun _=>true) true t v d ps) (hb:Below W.heap.size W W') (hlt:∀x∈ps,x.block<W.heap.size) (hsp:∀x∈ps,sp x.block=true):
 DataW.Trod enc P W' 0 sp true t v d ps:=
 WideElems.Trod_stays hl hr hrow h (fun x hx=>hb.same (hlt x hx)) (fun x hx=>hsp x hx)
end
theorem jwk {H:Type} {enc:TypeId×Value→H} {P:Program} {t:TypeId} {α:Type} {E:α→List D} {X:α→Prop} (hra:ReadsAs P t E X) {fs:Array Field} (ht:P.underlying t=some (.struct fs))
 {W:World} {v:Value} {d:DataW H} {p:List MemPlace} {base:Nat} {spare:Nat→Bool} {held:Bool} {r:_root_.Go.Reach} {b0:Nat} (hv:Value.okWide P W r b0 t v) (h:DataW.Trod enc P W base spare held t v d p):
 ∃x,X x∧∃S,AggRep W false (E x) v S:=by
 obtain ⟨cs,rfl,_⟩:=okWide_struct ht hv;obtain ⟨fuel,hf⟩:=h;obtain ⟨x,hx,S,hr⟩:=hra _ _ _ _ _ _ _ _ _ hf;exact ⟨x,hx,S,_,by simp [Value.cells],hr⟩
theorem jCh {H:Type} {enc:TypeId×Value→H} {P:Program} {t e:TypeId} {α:Type} {E:α→D} {X:α→Prop} (hra:ReadsAs P t (fun x=>[E x]) X) (ht:P.underlying t=some (.slice e))
 {W:World} {v:Value} {d:DataW H} {p:List MemPlace} {base:Nat} {spare:Nat→Bool} {held:Bool} {r:_root_.Go.Reach} {b0:Nat} (hv:Value.okWide P W r b0 t v) (h:DataW.Trod enc P W base spare held t v d p):
 ∃x,X x∧∃S,Rep W false (E x) v S:=by
 obtain ⟨a,len,cap,rfl⟩:=okWide_slice ht hv;obtain ⟨fuel,hf⟩:=h;obtain ⟨x,hx,S,hr⟩:=hra _ _ _ _ _ _ _ _ _ hf;obtain ⟨u,us,S1,S2,h1,rfl,h2,rfl,rfl⟩:=hr;have h1':[Value.slice a len cap]=[u]:=h1;cases h1';exact ⟨x,hx,S1,h2⟩
theorem jo9 {P:Program} {f:FuncId} {vs:List View} {args:List Value} {w:World} (h:jZ P f vs (.c (.val (.bool true)))) (hv:jag w vs args):
 Calls P f args.toArray w fun e w'=>e=.returned (.bool true)∧Below w.heap.size w w':=
 (h.2 w args hv).mono fun e w' ⟨v,S,he,hr,_,hb⟩=>⟨by rw [he,show v=_ from hr.1],hb⟩
end Go.Proofs.YtmnpailnelmpiaaGreat
