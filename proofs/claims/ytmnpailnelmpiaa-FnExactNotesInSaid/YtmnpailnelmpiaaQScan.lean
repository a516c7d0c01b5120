/- Parts. -/
import Derived.Test.YtmnpailnelmpiaaQFourAt
import Derived.Test.YtmnpailnelmpiaaQNumP
set_option linter.unusedSimpArgs false
set_option linter.unusedVariables false
set_option maxHeartbeats 4000000
set_option maxRecDepth 100000
namespace Go.Proofs.Ytmnpailnelmpiaa
open Go.RowKit Go.Sort
theorem jn1 {t:ByteArray} {k:Nat} (h:k+4≤t.size):∃a b c d:UInt8,(t.data.toList.drop k).take 4=[a,b,c,d]∧t[k]?=some a∧t[k+1]?=some b∧t[k+2]?=some c∧t[k+3]?=some d:=by
 have hl:(t.data.toList.drop k).length=t.size-k:=by rw [List.length_drop,Array.length_toList];rfl
 rcases hd:t.data.toList.drop k with _|⟨a,_|⟨b,_|⟨c,_|⟨d,r⟩⟩⟩⟩<;>rw [hd] at hl<;>simp at hl
 all_goals first|omega|skip
 refine ⟨a,b,c,d,by simp,?_,zu (i:=1) (by rw [hd];rfl),zu (i:=2) (by rw [hd];rfl),zu (i:=3) (by rw [hd];rfl)⟩
 exact zu (i:=0) (by rw [hd];rfl)
def jcL:C:=iS [iA 4 (iN 0),iA 5 (iO false)] (.seq (iS [iA 6 (iM 1),iA 7 (iQ .lss 3 6 0),iA 8 (iM 7),iB 9 8 false (iM 1),iB 10 8 false (iM 0),iB 11 8 false (.len true (.t 10)),iB 12 8 false (iQ .sub 3 11 4),iB 13 8 false (iP .gtr 3 9 12),iA 14 (.pick (.t 8) (.c (.bool true)) (.t 13))] (iD 14 (iS [iA 4 (iN 0),iA 5 (iO false)] .ret) .skip)) (.seq (.dreg (T.pure 0 (iA 15 (iM 0)) (T.pure 1 (iA 16 (iM 1)) (T.pure 2 (iA 17 (.sidx (.t 15) (.t 16))) (T.pure 3 (iA 18 (.cv (.num .i64) 0 (.t 17))) (T.pure 4 (iA 19 (iQ .mul 3 18 16777216)) (T.pure 5 (iA 20 (iM 0)) (T.pure 6 (iA 21 (iM 1)) (T.pure 7 (iA 22 (iQ .add 3 21 1)) (T.pure 8 (iA 23 (.sidx (.t 20) (.t 22))) (T.pure 9 (iA 24 (.cv (.num .i64) 0 (.t 23))) (T.pure 10 (iA 25 (iQ .mul 3 24 65536)) (T.pure 11 (iA 26 (iP .add 3 19 25)) (T.pure 12 (iA 27 (iM 0)) (T.pure 13 (iA 28 (iM 1)) (T.pure 14 (iA 29 (iQ .add 3 28 2)) (T.pure 15 (iA 30 (.sidx (.t 27) (.t 29))) (T.pure 16 (iA 31 (.cv (.num .i64) 0 (.t 30))) (T.pure 17 (iA 32 (iQ .mul 3 31 256)) (T.pure 18 (iA 33 (iP .add 3 26 32)) (T.pure 19 (iA 34 (iM 0)) (T.pure 20 (iA 35 (iM 1)) (T.pure 21 (iA 36 (iQ .add 3 35 3)) (T.pure 22 (iA 37 (.sidx (.t 34) (.t 36))) (T.pure 23 (iA 38 (.cv (.num .i64) 0 (.t 37))) (T.pure 24 (iA 39 (iP .add 3 33 38)) (T.pure 25 (iA 4 (iM 39)) (T.pure 26 (iA 5 (iO true)) T.done)))))))))))))))))))))))))))) .ret))
theorem jee:fnC Try.prog Try.f108=some (jcL,[.t 4,.t 5],40):=by kernel_rfl
theorem jfS (t:ByteArray) (k:Nat) (hs:t.size≤1000000000) (hk1:k≤1000000000):kg Try.prog 108 [.c (.val (.string t)),.c (.val (.int .i64 (k:Int)))] (.tup [(false,[.val (.int .i64 (kV t k).1)]),(false,[.val (.bool (kV t k).2)])]):=by
 refine jr Try.func108 jee (by simp) ?_
 unfold jcL;have hneg:¬(k:Int)<0:=by omega
 have hw4:IntKind.i64.wrap ((t.size:Int)-4)=(t.size:Int)-4:=ji (by omega) (by omega)
 by_cases hin:(t.size:Int)-4<(k:Int)
 ·have hf:kV t (k:Int)=(0,false):=by rw [kV,if_neg (by omega)]
  rw [hf];simp only [go_sem,hneg,hw4,hin];exact kM _ _ _ _ (by simp only [go_sem]) (by simp only [go_sem])
 ·have hf:kV t (k:Int)=(jbO ((t.data.toList.drop k).take 4),true):=by rw [kV,if_pos (by omega),Int.toNat_natCast]
  obtain ⟨a,b,c,d,hB,ha,hb,hc,hd⟩:=jn1 (t:=t) (k:=k) (by omega)
  have hv:jbO [a,b,c,d]=(a.toNat:Int)*16777216+(b.toNat:Int)*65536+(c.toNat:Int)*256+(d.toNat:Int):=by simp only [jbO,List.foldl];omega
  rw [hf,hB,hv];have la:=UInt8.toNat_lt a;have lb:=UInt8.toNat_lt b;have lc:=UInt8.toNat_lt c;have ld:=UInt8.toNat_lt d;have w1:IntKind.i64.wrap ((a.toNat:Int)*16777216)=(a.toNat:Int)*16777216:=ji (by omega) (by omega)
  have w2:IntKind.i64.wrap ((b.toNat:Int)*65536)=(b.toNat:Int)*65536:=ji (by omega) (by omega)
  have w3:IntKind.i64.wrap ((c.toNat:Int)*256)=(c.toNat:Int)*256:=ji (by omega) (by omega)
  have w4:IntKind.i64.wrap ((a.toNat:Int)*16777216+(b.toNat:Int)*65536)=(a.toNat:Int)*16777216+(b.toNat:Int)*65536:=ji (by omega) (by omega)
  have w5:IntKind.i64.wrap ((a.toNat:Int)*16777216+(b.toNat:Int)*65536+(c.toNat:Int)*256)=(a.toNat:Int)*16777216+(b.toNat:Int)*65536+(c.toNat:Int)*256:=ji (by omega) (by omega)
  have w6:IntKind.i64.wrap ((a.toNat:Int)*16777216+(b.toNat:Int)*65536+(c.toNat:Int)*256+(d.toNat:Int))=(a.toNat:Int)*16777216+(b.toNat:Int)*65536+(c.toNat:Int)*256+(d.toNat:Int):=ji (by omega) (by omega)
  have k1:IntKind.i64.wrap ((k:Int)+1)=((k+1:Nat):Int):=ji (by omega) (by omega)
  have k2:IntKind.i64.wrap ((k:Int)+2)=((k+2:Nat):Int):=ji (by omega) (by omega)
  have k3:IntKind.i64.wrap ((k:Int)+3)=((k+3:Nat):Int):=ji (by omega) (by omega)
  simp only [go_sem,hneg,hw4,hin,Int.toNat_natCast,ha,hb,hc,hd,jon,w1,w2,w3,w4,w5,w6,k1,k2,k3];refine ⟨a,rfl,b,rfl,c,rfl,d,rfl,?_⟩;exact kM _ _ _ _ (by simp only [go_sem,w1,w2,w3,w4,w5,w6]) (by simp only [go_sem])
abbrev jvt:ByteArray:=⟨⟨[]⟩⟩
def jV (t:ByteArray) (k:Int):ByteArray×Int:=
 if (vAt t k).2<0∨(vAt t k).1<1∨400<(vAt t k).1∨(t.size:Int)-(vAt t k).2-4<(vAt t k).1 then (jvt,-1)
 else if jgF (t.extract ((vAt t k).2.toNat+4) ((vAt t k).2.toNat+4+(vAt t k).1.toNat))≠(kV t (vAt t k).2).1 then (jvt,-1)
 else (t.extract ((vAt t k).2.toNat+4) ((vAt t k).2.toNat+4+(vAt t k).1.toNat),(((vAt t k).2.toNat+4+(vAt t k).1.toNat:Nat):Int))
theorem ja3 {t:ByteArray} {k:Int} (h:¬(jV t k).2<0):k+5≤(jV t k).2∧(jV t k).2≤t.size∧1≤(jV t k).1.size∧(jV t k).1.size≤400:=by
 unfold jV at h⊢;split at h
 ·exact absurd (show (-1:Int)<0 by decide) h
 ·rename_i h1
  split at h
  ·exact absurd (show (-1:Int)<0 by decide) h
  ·rename_i h2
   rw [if_neg h1,if_neg h2];have h3:=jhC t k (by omega)
   refine ⟨by dsimp only;omega,by dsimp only;omega,?_⟩
   rw [ByteArray.size_extract];omega
structure FrN (t:ByteArray) (k:Int) (n a:Nat):Prop where
 v1:(vAt t k).1=n
 v2:(vAt t k).2=a
 n1:1≤n
 n4:n≤400
 le:a+4+n≤t.size
 fr:jV t k=if jgF (t.extract (a+4) (a+4+n))≠(kV t a).1 then (jvt,-1) else (t.extract (a+4) (a+4+n),((a+4+n:Nat):Int))
theorem jq1 {t:ByteArray} {k:Int} (h1:¬(vAt t k).2<0) (h2:¬(vAt t k).1<1) (h3:¬400<(vAt t k).1) (h4:¬(t.size:Int)-(vAt t k).2-4<(vAt t k).1):∃n a,FrN t k n a:=by
 have h5:=jhC t k h1;refine ⟨(vAt t k).1.toNat,(vAt t k).2.toNat,by omega,by omega,by omega,by omega,by omega,?_⟩
 rw [jV,if_neg (by omega),show (((vAt t k).2.toNat:Nat):Int)=(vAt t k).2 by omega]
theorem vO {t:ByteArray} {k:Int} (h:(vAt t k).2<0∨(vAt t k).1<1∨400<(vAt t k).1∨(t.size:Int)-(vAt t k).2-4<(vAt t k).1):jV t k=(jvt,-1):=by rw [jV,if_pos h]
def jbA:C:=iS [iA 4 (.mov (.c (.string ⟨⟨[]⟩⟩))),iA 5 (iN 0)] (iS [iA 12 (iM 0),iA 13 (iM 1),iA 14 (.call 68 [.t 12,.t 13]),iA 11 (iM 14),iA 15 (iE 11 0),iA 16 (iE 11 1),iA 6 (iM 15),iA 7 (iM 16)] (.seq (iS [iA 17 (iM 7),iA 18 (iQ .lss 3 17 0),iA 19 (iM 18),iB 20 19 false (iM 6),iB 21 19 false (.call 61 [.t 20,.c (.int .i64 1),.c (.int .i64 400)]),iB 22 19 false (iU 21),iA 23 (.pick (.t 19) (.c (.bool true)) (.t 22)),iA 24 (iM 23),iB 25 24 false (iM 6),iB 26 24 false (iM 0),iB 27 24 false (.len true (.t 26)),iB 28 24 false (iM 7),iB 29 24 false (iP .sub 3 27 28),iB 30 24 false (iQ .sub 3 29 4),iB 31 24 false (iP .gtr 3 25 30),iA 32 (.pick (.t 24) (.c (.bool true)) (.t 31))] (iD 32 (iS [iA 4 (.mov (.c (.string ⟨⟨[]⟩⟩))),iA 5 (iN (-1))] .ret) .skip)) (iS [iA 34 (iM 0),iA 35 (iM 7),iA 36 (.call 109 [.t 34,.t 35]),iA 33 (iM 36),iA 37 (iE 33 0),iA 38 (iE 33 1),iA 8 (iM 37),iA 9 (iM 38)] (iS [iA 39 (iM 0),iA 40 (iM 7),iA 41 (iQ .add 3 40 4),iA 42 (iM 7),iA 43 (iQ .add 3 42 4),iA 44 (iM 6),iA 45 (iP .add 3 43 44),iA 46 (.sl 0 (.t 39) (some (.t 41)) (some (.t 45))),iA 10 (iM 46)] (.seq (iS [iA 47 (iM 10),iA 48 (.call 79 [.t 47]),iA 49 (iM 8),iA 50 (iP .neq 3 48 49)] (iD 50 (iS [iA 4 (.mov (.c (.string ⟨⟨[]⟩⟩))),iA 5 (iN (-1))] .ret) .skip)) (iS [iA 51 (iM 10),iA 52 (iM 7),iA 53 (iQ .add 3 52 4),iA 54 (iM 6),iA 55 (iP .add 3 53 54),iA 4 (iM 51),iA 5 (iM 55)] .ret))))))
theorem jdA:fnC Try.prog Try.f76=some (jbA,[.t 4,.t 5],56):=by kernel_rfl
def jbu:C:=iS [iA 4 (.mov (.c (.string ⟨⟨[]⟩⟩))),iA 5 (iN 0)] (iS [iA 12 (iM 0),iA 13 (iM 1),iA 14 (.call 64 [.t 12,.t 13]),iA 11 (iM 14),iA 15 (iE 11 0),iA 16 (iE 11 1),iA 6 (iM 15),iA 7 (iM 16)] (.seq (iS [iA 17 (iM 7),iA 18 (iQ .lss 3 17 0),iA 19 (iM 18),iB 20 19 false (iM 6),iB 21 19 false (iQ .lss 3 20 1),iA 22 (.pick (.t 19) (.c (.bool true)) (.t 21)),iA 23 (iM 22),iB 24 23 false (iM 6),iB 25 23 false (iQ .gtr 3 24 400),iA 26 (.pick (.t 23) (.c (.bool true)) (.t 25))] (iD 26 (iS [iA 4 (.mov (.c (.string ⟨⟨[]⟩⟩))),iA 5 (iN (-1))] .ret) .skip)) (iS [iA 28 (iM 0),iA 29 (iM 7),iA 30 (.call 108 [.t 28,.t 29]),iA 27 (iM 30),iA 31 (iE 27 0),iA 32 (iE 27 1),iA 8 (iM 31),iA 9 (iM 32)] (.seq (iS [iA 33 (iM 9),iA 34 (iU 33),iA 35 (iM 34),iB 36 35 false (iM 6),iB 37 35 false (iM 0),iB 38 35 false (.len true (.t 37)),iB 39 35 false (iM 7),iB 40 35 false (iP .sub 3 38 39),iB 41 35 false (iQ .sub 3 40 4),iB 42 35 false (iP .gtr 3 36 41),iA 43 (.pick (.t 35) (.c (.bool true)) (.t 42))] (iD 43 (iS [iA 4 (.mov (.c (.string ⟨⟨[]⟩⟩))),iA 5 (iN (-1))] .ret) .skip)) (iS [iA 44 (iM 0),iA 45 (iM 7),iA 46 (iQ .add 3 45 4),iA 47 (iM 7),iA 48 (iQ .add 3 47 4),iA 49 (iM 6),iA 50 (iP .add 3 48 49),iA 51 (.sl 0 (.t 44) (some (.t 46)) (some (.t 50))),iA 10 (iM 51)] (.seq (iS [iA 52 (iM 10),iA 53 (.call 75 [.t 52]),iA 54 (iM 8),iA 55 (iP .neq 3 53 54)] (iD 55 (iS [iA 4 (.mov (.c (.string ⟨⟨[]⟩⟩))),iA 5 (iN (-1))] .ret) .skip)) (iS [iA 56 (iM 10),iA 57 (iM 7),iA 58 (iQ .add 3 57 4),iA 59 (iM 6),iA 60 (iP .add 3 58 59),iA 4 (iM 56),iA 5 (iM 60)] .ret)))))))
theorem jdu:fnC Try.prog Try.f72=some (jbu,[.t 4,.t 5],61):=by kernel_rfl
theorem jfW (t:ByteArray) (k:Int) (ht:t.size≤1000000) (hk0:0≤k) (hk:k≤t.size):kg Try.prog 76 [.c (.val (.string t)),.c (.val (.int .i64 k))] (.tup [(false,[.val (.string (jV t k).1)]),(false,[.val (.int .i64 (jV t k).2)])]):=by
 refine jr Try.func76 jdA (by simp) ?_
 unfold jbA;simp only [go_sem];refine jb (jdL t k (by omega) (by omega)) (by simp only [go_sem]) fun η=>?_
 simp only [go_sem];have hv2:=(jf5 t k hk).1;have hvn:=(jf5 t k hk).2;by_cases h1:(vAt t k).2<0
 ·rw [vO (.inl h1)]
  simp only [go_sem,h1];exact kM _ _ _ _ (by simp only [go_sem]) (by simp only [go_sem])
 have h1':=jhC t k h1;simp only [go_sem,h1];refine jb (ju (vAt t k).1 1 400) (by simp only [go_sem,h1]) fun η=>?_
 simp only [go_sem,h1];cases h2:decide (1≤(vAt t k).1∧(vAt t k).1≤400)
 ·rw [vO (by have:=of_decide_eq_false h2;omega)]
  simp only [go_sem,h2];exact kM _ _ _ _ (by simp only [go_sem]) (by simp only [go_sem])
 have h2':=of_decide_eq_true h2;have w1:IntKind.i64.wrap ((t.size:Int)-(vAt t k).2)=(t.size:Int)-(vAt t k).2:=ji (by omega) (by omega)
 have w2:IntKind.i64.wrap ((t.size:Int)-(vAt t k).2-4)=(t.size:Int)-(vAt t k).2-4:=ji (by omega) (by omega)
 by_cases h3:(t.size:Int)-(vAt t k).2-4<(vAt t k).1
 ·rw [vO (by omega)]
  simp only [go_sem,h2,w1,w2,h3];exact kM _ _ _ _ (by simp only [go_sem]) (by simp only [go_sem])
 simp only [go_sem,h2,w1,w2,h3];obtain ⟨n,a,hF⟩:=jq1 h1 (by omega) (by omega) h3
 have hle:=hF.le;have hn4:=hF.n4;rw [hF.v1,hF.v2];have e1:IntKind.i64.wrap ((a:Int)+4)=((a+4:Nat):Int):=ji (by omega) (by omega)
 have e2:IntKind.i64.wrap (((a+4:Nat):Int)+(n:Int))=((a+4+n:Nat):Int):=ji (by omega) (by omega)
 have hle2:a+4≤a+4+n:=by omega
 refine jb (jgZ t (a:Int) (by omega) (by omega) (by omega)) (by simp only [go_sem]) fun η=>?_
 simp only [go_sem];simp only [go_sem,e1,e2,hle,hle2];refine jb (jdM (t.extract (a+4) (a+4+n)) (by rw [ByteArray.size_extract];omega)) (by simp only [go_sem]) fun η=>?_
 simp only [go_sem];cases hs:jgF (t.extract (a+4) (a+4+n)) !=(kV t a).1
 ·rw [hF.fr,if_neg (by simpa using hs)]
  simp only [go_sem,hs,e1,e2];exact kM _ _ _ _ (by simp only [go_sem]) (by simp only [go_sem])
 ·rw [hF.fr,if_pos (by simpa using hs)]
  simp only [go_sem,hs];exact kM _ _ _ _ (by simp only [go_sem]) (by simp only [go_sem])
theorem jfR (t:ByteArray) (k:Int) (ht:t.size≤1000000) (hk0:0≤k) (hk:k≤t.size):kg Try.prog 72 [.c (.val (.string t)),.c (.val (.int .i64 k))] (.tup [(false,[.val (.string (jV t k).1)]),(false,[.val (.int .i64 (jV t k).2)])]):=by
 refine jr Try.func72 jdu (by simp) ?_
 unfold jbu;simp only [go_sem];refine jb (jdJ t k (by omega) (by omega)) (by simp only [go_sem]) fun η=>?_
 simp only [go_sem];have hv2:=(jf5 t k hk).1;have hvn:=(jf5 t k hk).2;by_cases h1:(vAt t k).2<0
 ·rw [vO (.inl h1)]
  simp only [go_sem,h1];exact kM _ _ _ _ (by simp only [go_sem]) (by simp only [go_sem])
 have h1':=jhC t k h1;by_cases h2:(vAt t k).1<1
 ·rw [vO (.inr (.inl h2))]
  simp only [go_sem,h1,h2];exact kM _ _ _ _ (by simp only [go_sem]) (by simp only [go_sem])
 by_cases h5:400<(vAt t k).1
 ·rw [vO (.inr (.inr (.inl h5)))]
  simp only [go_sem,h1,h2,h5];exact kM _ _ _ _ (by simp only [go_sem]) (by simp only [go_sem])
 simp only [go_sem,h1,h2,h5];obtain ⟨a,ha⟩:=Int.eq_ofNat_of_zero_le (show 0≤(vAt t k).2 by omega)
 have haz:a≤t.size:=by omega
 rw [ha];refine jb (jfS t a (by omega) (by omega)) (by simp only [go_sem]) fun η=>?_
 simp only [go_sem];have w1:IntKind.i64.wrap ((t.size:Int)-(a:Int))=(t.size:Int)-(a:Int):=ji (by omega) (by omega)
 have w2:IntKind.i64.wrap ((t.size:Int)-(a:Int)-4)=(t.size:Int)-(a:Int)-4:=ji (by omega) (by omega)
 cases h4:(kV t a).2
 ·have:¬(0≤(a:Int)∧(a:Int)≤(t.size:Int)-4):=fun h=>by rw [kV,if_pos h] at h4;cases h4
  rw [vO (.inr (.inr (.inr (by rw [ha];omega))))]
  simp only [go_sem,h4];exact kM _ _ _ _ (by simp only [go_sem]) (by simp only [go_sem])
 by_cases h3:(t.size:Int)-(a:Int)-4<(vAt t k).1
 ·rw [vO (.inr (.inr (.inr (by rw [ha];exact h3))))]
  simp only [go_sem,h4,w1,w2,h3];exact kM _ _ _ _ (by simp only [go_sem]) (by simp only [go_sem])
 simp only [go_sem,h4,w1,w2,h3];obtain ⟨n,a',hF⟩:=jq1 h1 h2 h5 (by rw [ha];exact h3)
 obtain rfl:a=a':=by have:=hF.v2;omega
 have hle:=hF.le;have hn4:=hF.n4;rw [hF.v1];have e1:IntKind.i64.wrap ((a:Int)+4)=((a+4:Nat):Int):=ji (by omega) (by omega)
 have e2:IntKind.i64.wrap (((a+4:Nat):Int)+(n:Int))=((a+4+n:Nat):Int):=ji (by omega) (by omega)
 have hle2:a+4≤a+4+n:=by omega
 simp only [go_sem,e1,e2,hle,hle2];refine jb (jdK (t.extract (a+4) (a+4+n)) (by rw [ByteArray.size_extract];omega)) (by simp only [go_sem]) fun η=>?_
 simp only [go_sem];cases hs:jgF (t.extract (a+4) (a+4+n)) !=(kV t a).1
 ·rw [hF.fr,if_neg (by simpa using hs)]
  simp only [go_sem,hs,e1,e2];exact kM _ _ _ _ (by simp only [go_sem]) (by simp only [go_sem])
 ·rw [hF.fr,if_pos (by simpa using hs)]
  simp only [go_sem,hs];exact kM _ _ _ _ (by simp only [go_sem]) (by simp only [go_sem])
def jeP (t:ByteArray):Nat→Nat→List ByteArray→List ByteArray×Nat
 |0,k,l=>(l,k)
 |f+1,k,l=>if (jV t k).2<0 then (l,k) else jeP t f (jV t k).2.toNat (l++[(jV t k).1])
def zC (t:ByteArray):List ByteArray×Nat:=if 60000<t.size then ([],0) else jeP t (t.size+1) 0 []
structure ScTo (t:ByteArray) (k:Nat) (l:List ByteArray):Prop where
 le:k≤t.size
 len:5*l.length≤k
 szs:∀b∈l,1≤b.size∧b.size≤400
 eq:∃f,t.size-k<f∧jeP t (t.size+1) 0 []=jeP t f k l
theorem ScTo.start (t:ByteArray):ScTo t 0 []:=⟨Nat.zero_le _,Nat.le_refl _,by simp,t.size+1,by omega,rfl⟩
theorem ScTo.next {t:ByteArray} {k:Nat} {l:List ByteArray} (h:ScTo t k l) (hn:¬(jV t k).2<0):k<(jV t k).2.toNat∧ScTo t (jV t k).2.toNat (l++[(jV t k).1]):=by
 obtain ⟨h1,h2,h3,f,h4,h5⟩:=h;obtain ⟨a1,a2,a3⟩:=ja3 hn;obtain ⟨f,rfl⟩:∃g,f=g+1:=⟨f-1,by omega⟩
 refine ⟨by omega,by omega,by simp;omega,fun b hb=>?_,f,by omega,?_⟩
 ·rcases List.mem_append.1 hb with hb|hb
  ·exact h3 b hb
  ·simp at hb;subst hb;exact a3
 ·rw [h5,jeP,if_neg hn]
theorem ScTo.stop {t:ByteArray} {k:Nat} {l:List ByteArray} (h:ScTo t k l) (hn:(jV t k).2<0):jeP t (t.size+1) 0 []=(l,k):=by
 obtain ⟨h1,h2,h3,f,h4,h5⟩:=h;obtain ⟨f,rfl⟩:∃g,f=g+1:=⟨f-1,by omega⟩
 rw [h5,jeP,if_pos hn]
theorem jjN (t:ByteArray) {k:Nat} (h:¬k<t.size):(jV t k).2<0:=by
 refine Classical.byContradiction fun hn=>?_
 have:=ja3 hn;omega
def jcS:C:=iS [iA 2 (.mov (.c (.slice none 0 0))),iA 3 (iN 0)] (.seq (iS [iA 8 (iM 0),iA 9 (.len true (.t 8)),iA 10 (iQ .gtr 3 9 60000)] (iD 10 (iS [iA 2 (.mov (.c (.slice none 0 0))),iA 3 (iN 0)] .ret) .skip)) (iS [iA 4 (.mov (.c (.slice none 0 0)))] (iS [iA 5 (iN 0)] (.blk 0 (.loop (.blk 1 (iS [iA 12 (iM 0),iA 13 (iM 5),iA 14 (.call 76 [.t 12,.t 13]),iA 11 (iM 14),iA 15 (iE 11 0),iA 16 (iE 11 1),iA 6 (iM 15),iA 7 (iM 16)] (.seq (iS [iA 17 (iM 7),iA 18 (iQ .lss 3 17 0)] (iD 18 (iS [iA 19 (iM 4),iA 20 (iM 5),iA 2 (iM 19),iA 3 (iM 20)] .ret) .skip)) (iS [iA 21 (iM 4),iA 22 (iM 6),iA 23 (.bsl 9 1 1 [none] [(0,1,.t 22)]),iA 24 (.app 9 1 16 (.t 21) (.t 23)),iA 4 (iM 24)] (.reg [iA 25 (iM 7),iA 5 (iM 25)]))))))))))
theorem jel:fnC Try.prog Try.f39=some (jcS,[.t 2,.t 3],26):=by kernel_rfl
def jcJ:C:=iS [iA 2 (.mov (.c (.slice none 0 0))),iA 3 (iN 0)] (iS [iA 8 (.bsl 9 1 0 [] []),iA 4 (iM 8)] (.seq (iS [iA 9 (iM 0),iA 10 (.len true (.t 9)),iA 11 (iQ .gtr 3 10 60000)] (iD 11 (iS [iA 12 (iM 4),iA 2 (iM 12),iA 3 (iN 0)] .ret) .skip)) (iS [iA 5 (iN 0)] (.seq (.blk 0 (.loop (.seq (iS [iA 13 (iM 5),iA 14 (iM 0),iA 15 (.len true (.t 14)),iA 16 (iP .lss 3 13 15)] (iD 16 .skip (.exit 0))) (.blk 1 (iS [iA 18 (iM 0),iA 19 (iM 5),iA 20 (.call 72 [.t 18,.t 19]),iA 17 (iM 20),iA 21 (iE 17 0),iA 22 (iE 17 1),iA 6 (iM 21),iA 7 (iM 22)] (.seq (iS [iA 23 (iM 7),iA 24 (iQ .lss 3 23 0)] (iD 24 (.exit 0) .skip)) (iS [iA 25 (iM 4),iA 26 (iM 6),iA 27 (.bsl 9 1 1 [none] [(0,1,.t 26)]),iA 28 (.app 9 1 16 (.t 25) (.t 27)),iA 4 (iM 28)] (.reg [iA 29 (iM 7),iA 5 (iM 29)])))))))) (iS [iA 30 (iM 4),iA 31 (iM 5),iA 2 (iM 30),iA 3 (iM 31)] .ret)))))
theorem jec:fnC Try.prog Try.f37=some (jcJ,[.t 2,.t 3],32):=by kernel_rfl
theorem jdN:D.sl 1 jtp []=kx []:=rfl
theorem jgX (t:ByteArray) (ht:t.size≤1048576):kg Try.prog 39 [.c (.val (.string t))] (.tup [(false,[kx (zC t).1]),(false,[.val (.int .i64 ((zC t).2:Nat))])]):=by
 refine jr Try.func39 jel (by simp) ?_
 unfold jcS;by_cases hbig:(60000:Int)<(t.size:Int)
 ·have hr:zC t=([],0):=by rw [zC,if_pos (by omega)]
  rw [hr];simp only [go_sem,hbig];exact jqS (by simp only [go_sem]) (by simp only [go_sem])
 have hr:zC t=jeP t (t.size+1) 0 []:=by rw [zC,if_neg (by omega)]
 rw [hr];simp only [go_sem,hbig];refine jp (fun i:(List ByteArray×Nat)×jm=>St.of [(0,.c (.v (.string t))),(4,Hd 4 i.2),(5,Ni i.1.2)] [(4,.loose (kx i.1.1) i.2)]) (fun i=>ScTo t i.1.2 i.1.1) (fun i=>t.size-i.1.2) (([],0),jad) (ScTo.start t) (jo [none] (by simp only [go_sem]<;>and_intros<;>first|rfl|assumption|trivial)) ?_
 rintro ⟨⟨l,k⟩,η⟩ hi;dsimp only at hi;have hle:=hi.le;have hlen:=hi.len;simp only [go_sem];refine jb (jfW t (k:Int) (by omega) (by omega) (by omega)) (by simp only [go_sem]) fun ηf=>?_
 simp only [go_sem];by_cases hneg:(jV t k).2<0
 ·rw [hi.stop hneg]
  simp only [go_sem,hneg];exact jap (g:=4) (c:=0) (d:=kx l) (η:=η) (x:=η []) (by simp only [go_sem]) (by simp only [go_sem]) rfl (by simp only [go_sem])
 ·obtain ⟨hk,hn⟩:=hi.next hneg
  have hup:=ja3 hneg;obtain ⟨m,hm⟩:=Int.eq_ofNat_of_zero_le (show 0≤(jV t k).2 by omega)
  rw [hm,Int.toNat_natCast] at hk hn;have hm1:l.length+1≤maxLen:=by unfold maxLen;omega
  have hm2:(l.length+1)*16≤140737488355328:=by omega
  have hnle:=hn.le;have hmn:¬(m:Int)<0:=by omega
  simp only [go_sem,hmn,hm,hm1,hm2,zP];intro η2 η3;exact ⟨((l++[(jV t k).1],m),η3),hn,(jo [some 2400] (by simp only [go_sem,zP]<;>and_intros<;>first|rfl|assumption|trivial)),by (try dsimp only);omega⟩
theorem jgR (t:ByteArray) (ht:t.size≤1048576):kg Try.prog 37 [.c (.val (.string t))] (.tup [(false,[kx (zC t).1]),(false,[.val (.int .i64 ((zC t).2:Nat))])]):=by
 refine jr Try.func37 jec (by simp) ?_
 unfold jcJ;simp only [go_sem];intro η8;by_cases hbig:(60000:Int)<(t.size:Int)
 ·have hr:zC t=([],0):=by rw [zC,if_pos (by omega)]
  rw [hr];simp only [go_sem,hbig,jdN];exact jap (g:=800) (c:=0) (d:=kx []) (η:=η8) (x:=η8 []) (by simp only [go_sem]) (by simp only [go_sem]) rfl (by simp only [go_sem])
 have hr:zC t=jeP t (t.size+1) 0 []:=by rw [zC,if_neg (by omega)]
 rw [hr];simp only [go_sem,hbig];refine jp (fun i:(List ByteArray×Nat)×jm=>St.of [(0,.c (.v (.string t))),(4,Hd 4 i.2),(5,Ni i.1.2)] [(4,.loose (kx i.1.1) i.2)]) (fun i=>ScTo t i.1.2 i.1.1) (fun i=>t.size-i.1.2) (([],0),η8) (ScTo.start t) (jo [some 800] (by simp only [go_sem,jdN]<;>and_intros<;>first|rfl|assumption|trivial)) ?_
 rintro ⟨⟨l,k⟩,η⟩ hi;dsimp only at hi;have hle:=hi.le;have hlen:=hi.len;by_cases hlt:k<t.size;rotate_left
 ·have hlt':¬(k:Int)<(t.size:Int):=by omega
  rw [hi.stop (jjN t hlt)];simp only [go_sem,hlt'];exact jap (g:=4) (c:=0) (d:=kx l) (η:=η) (x:=η []) (by simp only [go_sem]) (by simp only [go_sem]) rfl (by simp only [go_sem])
 have hlt':(k:Int)<(t.size:Int):=by omega
 simp only [go_sem,hlt'];refine jb (jfR t (k:Int) (by omega) (by omega) (by omega)) (by simp only [go_sem]) fun ηf=>?_
 simp only [go_sem];by_cases hneg:(jV t k).2<0
 ·rw [hi.stop hneg]
  simp only [go_sem,hneg];exact jap (g:=4) (c:=0) (d:=kx l) (η:=η) (x:=η []) (by simp only [go_sem]) (by simp only [go_sem]) rfl (by simp only [go_sem])
 ·obtain ⟨hk,hn⟩:=hi.next hneg
  have hup:=ja3 hneg;obtain ⟨m,hm⟩:=Int.eq_ofNat_of_zero_le (show 0≤(jV t k).2 by omega)
  rw [hm,Int.toNat_natCast] at hk hn;have hm1:l.length+1≤maxLen:=by unfold maxLen;omega
  have hm2:(l.length+1)*16≤140737488355328:=by omega
  have hnle:=hn.le;have hmn:¬(m:Int)<0:=by omega
  simp only [go_sem,hmn,hm,hm1,hm2,zP];intro η2 η3;exact ⟨((l++[(jV t k).1],m),η3),hn,(jo [some 2800] (by simp only [go_sem,zP]<;>and_intros<;>first|rfl|assumption|trivial)),by (try dsimp only);omega⟩
end Go.Proofs.Ytmnpailnelmpiaa
