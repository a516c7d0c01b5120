/- Parts. -/
import Derived.Test.YtmnpailnelmpiaaQDeedB
set_option linter.unusedSimpArgs false
set_option linter.unusedVariables false
set_option maxHeartbeats 4000000
set_option maxRecDepth 100000
namespace Go.Proofs.Ytmnpailnelmpiaa
open Go.RowKit Go.Sort
def jcL:C:=iS [iA 2 (.mov (.c (.string ⟨⟨[]⟩⟩)))] (iS [iA 3 (.mov (.c (.string ⟨⟨[]⟩⟩)))] (.seq (iS [iA 4 (iN 0)] (.blk 0 (.loop (.seq (iS [iA 5 (iM 4),iA 6 (iM 0),iA 7 (iG 6),iA 8 (iP .lss 3 5 7)] (iD 8 .skip (.exit 0))) (.seq (.blk 1 (.reg [iA 11 (iM 3),iA 12 (iM 0),iA 13 (iM 4),iA 14 (iI 1 12 13),iA 15 (iL 14),iA 16 (.call 73 [.t 15]),iA 17 (iP .add 9 11 16),iA 3 (iM 17)])) (.reg [iA 9 (iM 4),iA 10 (iQ .add 3 9 1),iA 4 (iM 10)])))))) (iS [iA 18 (iM 3),iA 2 (iM 18)] .ret)))
theorem jfj:fnC Try.prog Try.f67=some (jcL,[.t 2],19):=by kernel_rfl
def jh2:C:=iS [iA 2 (.mov (.c (.string ⟨⟨[]⟩⟩)))] (iS [iA 3 (.mov (.c (.slice none 0 0)))] (.seq (iS [iA 6 (iM 0),iA 7 (iG 6),iA 8 (iN 0)] (.blk 0 (.loop (iS [iA 9 (iP .lss 3 8 7)] (.seq (iD 9 .skip (.exit 0)) (.seq (.blk 1 (iS [iA 10 (iI 1 6 8),iA 11 (iL 10),iA 5 (iM 11)] (.reg [iA 12 (iM 3),iA 13 (iM 5),iA 14 (.call 77 [.t 13]),iA 15 (.apps 5 (.t 12) (.t 14)),iA 3 (iM 15)]))) (.reg [iA 16 (iQ .add 3 8 1),iA 8 (iM 16)]))))))) (iS [iA 17 (iM 3),iA 18 (.cv .text 5 (.t 17)),iA 2 (iM 18)] .ret)))
theorem jiG:fnC Try.prog Try.f62=some (jh2,[.t 2],19):=by kernel_rfl
theorem js0 {d:Option Nat} {s:St} {K:St→Prop} (hk:K (s.put d (.c (.v (.string ⟨#[]⟩))))):cvK d s K .text (.c (.v (.slice none 0 0))):=
 ⟨_,⟨_,0,[],rfl,by simp [Is],rfl⟩,hk⟩
theorem jwh (k:Nat):∀v:Nat,v<128^(k+1)→(kB v).length≤k+1:=by
 induction k with
 |zero=>
  intro v h;rw [kB,if_pos (by simpa using h)];simp
 |succ k ih=>
  intro v h;rw [kB];split
  ·simp
  ·have:=ih (v/128) (by rw [Nat.pow_succ] at h;omega)
   simp only [List.length_cons];omega
theorem jc5 (n:Int):(zp n).data.toList.length≤5:=by
 unfold zp;split
 ·have:=jwh 4 n.toNat (by simp;omega)
  simpa using this
 ·simp
def qc (l:List Int):List UInt8:=l.flatMap fun n=>(zp n).data.toList
def kT (l:List Int):ByteArray:=⟨(qc l).toArray⟩
theorem jjv (l:List Int):(qc l).length≤5*l.length:=by
 induction l with
 |nil=>simp [qc]
 |cons x l ih=>
  have:=jc5 x;simp only [qc,List.flatMap_cons,List.length_append,List.length_cons] at ih⊢;omega
theorem joR (l:List Int) (x:Int):qc (l++[x])=qc l++(zp x).data.toList:=by simp [qc]
theorem jiK {l:List Int} {k:Nat} {x:Int} (h:l[k]?=some x):qc (l.take (k+1))=qc (l.take k)++(zp x).data.toList:=by
 rw [List.take_add_one,h];exact joR _ _
theorem jbV (l:List Int):(kT l).size=(qc l).length:=by
 show (qc l).toArray.size=_;simp
theorem joQ {l:List Int} {k:Nat} {x:Int} (h:l[k]?=some x):kT (l.take k)++zp x=kT (l.take (k+1)):=by
 apply ByteArray.ext
 rw [ByteArray.data_append];show (qc (l.take k)).toArray++(zp x).data=(qc (l.take (k+1))).toArray;rw [jiK h];simp
theorem kI (l:List Int) (hl:l.length≤20000000):kl Try.prog 67 [.c (jo l)] (.c (.val (.string (kT l)))):=by
 refine jr Try.func67 jfj (by simp) ?_
 unfold jcL;simp only [go_sem];refine qB (fun s=>∃k:Nat,k≤l.length∧s.t 0=.c (.ro (jo l))∧s.t 4=.c (.v (.int .i64 k))∧s.t 3=.c (.v (.string (kT (l.take k))))) (fun s=>l.length-s.n 4) ?_ ?_
 ·exact ⟨0,Nat.zero_le _,by simp only [go_sem]<;>rfl,by simp only [go_sem]<;>rfl,by simp only [go_sem]<;>rfl⟩
 ·rintro s ⟨k,hk,h0,h4,h3⟩
  by_cases hlt:k<l.length
  ·have hlt':(k:Int)<l.length:=by omega
   obtain ⟨x,hx⟩:=je hlt;have hw:IntKind.i64.wrap ((k:Int)+1)=((k+1:Nat):Int):=jg (by omega) (by omega)
   have hsz:(kT (l.take k)).size+(zp x).size≤maxLen:=by
    have h1:=jjv (l.take k);have h2:=jc5 x;rw [←jbV,List.length_take] at h1;have h2':(zp x).size≤5:=h2;unfold maxLen;omega
   simp only [go_sem,h0,h4,h3,hlt,hlt',zy hx];refine jb (vr x) (by simp only [go_sem]) fun η=>?_
   simp only [go_sem,h0,h4,h3,hw,joQ hx,hsz];refine ⟨⟨k+1,?_⟩,?_⟩
   ·and_intros<;>first|rfl|omega
   ·rw [jdv (k:=.i64) (n:=((k+1:Nat):Int)) (by simp only [go_sem]),jdv h4];omega
  ·have hlt':¬(k:Int)<l.length:=by omega
   rw [List.take_of_length_le (by omega)] at h3
   simp only [go_sem,h0,h4,h3,hlt']
theorem jho (l:List Int) (hl:l.length≤20000000):kl Try.prog 62 [.c (jo l)] (.c (.val (.string (kT l)))):=by
 refine jr Try.func62 jiG (by simp) ?_
 unfold jh2;simp only [go_sem];refine qB (fun s=>∃k:Nat,k≤l.length∧s.t 6=.c (.ro (jo l))∧s.t 7=.c (.v (.int .i64 l.length))∧s.t 8=.c (.v (.int .i64 k))∧((k=0∧s.t 3=.c (.v (.slice none 0 0)))∨∃η,s.t 3=.c (.h 1500 0 [] (η []))∧s.o 1500=.loose (.sl 1 5 ((qc (l.take k)).map kj)) η)) (fun s=>l.length-s.n 8) ?_ ?_
 ·exact ⟨0,Nat.zero_le _,by simp only [go_sem]<;>rfl,by simp only [go_sem]<;>rfl,by simp only [go_sem]<;>rfl,.inl ⟨rfl,by simp only [go_sem]⟩⟩
 ·rintro s ⟨k,hk,h6,h7,h8,hg⟩
  by_cases hlt:k<l.length
  ·have hlt':(k:Int)<l.length:=by omega
   obtain ⟨x,hx⟩:=je hlt;have hw:IntKind.i64.wrap ((k:Int)+1)=((k+1:Nat):Int):=jg (by omega) (by omega)
   have h2:(zp x).size≤5:=jc5 x;have h1:=jjv (l.take k);rw [List.length_take] at h1;have happ:(qc (l.take k)).map kj++strCells (zp x)=(qc (l.take (k+1))).map kj:=by rw [jiK hx,List.map_append];rfl
   have hln:((qc (l.take k)).map kj).length+(zp x).size≤140737488355328:=by rw [List.length_map];omega
   rcases hg with ⟨hk0,h3⟩|⟨η,h3,ho⟩
   ·have hln0:(zp x).size≤140737488355328:=by omega
    have happ0:strCells (zp x)=(qc (l.take (k+1))).map kj:=by rw [←happ,hk0];rfl
    simp only [go_sem,h3,h6,h7,h8,hlt,hlt',zy hx];refine jb (vt x) (by simp only [go_sem]) fun η=>?_
    simp only [go_sem,jjI,h3,h6,h7,h8,hw];refine ⟨_,rfl,?_⟩;simp only [go_sem,h3,h6,h7,h8,hw,hln0];intro η1;refine ⟨⟨k+1,by omega,rfl,.inr ⟨η1,rfl,by rw [happ0]⟩⟩,?_⟩
    rw [jdv (k:=.i64) (n:=((k+1:Nat):Int)) (by simp only [go_sem]),jdv h8];omega
   ·simp only [go_sem,h3,h6,h7,h8,ho,hlt,hlt',zy hx]
    refine jb (vt x) (by simp only [go_sem]) fun η=>?_
    simp only [go_sem,jjI,h3,h6,h7,h8,ho,hw];refine ⟨_,rfl,?_⟩;simp only [go_sem,h3,h6,h7,h8,ho,hw,hln];intro η1;refine ⟨⟨k+1,by omega,rfl,.inr ⟨η1,rfl,by rw [happ]⟩⟩,?_⟩
    rw [jdv (k:=.i64) (n:=((k+1:Nat):Int)) (by simp only [go_sem]),jdv h8];omega
  ·have hlt':¬(k:Int)<l.length:=by omega
   have hk':k=l.length:=by omega
   rcases hg with ⟨hk0,h3⟩|⟨η,h3,ho⟩
   ·have hl0:l=[]:=List.eq_nil_of_length_eq_zero (by omega)
    simp only [go_sem,h3,h6,h7,h8,hlt'];refine js0 ?_;simp only [go_sem];rw [hl0];rfl
   ·rw [List.take_of_length_le (by omega)] at ho
    simp only [go_sem,h3,h6,h7,h8,ho,hlt'];refine zz (ty:=5) (cs:=(qc l).map kj) (η:=η) (bs:=qc l) (by simp only [go_sem,ho]) rfl rfl ?_
    simp only [go_sem];rfl
def jat (n:Nt):List Int:=n.seq::n.deed.kind::kw n.deed
def jgR (b:ByteArray):ByteArray:=if 400<b.size then ⟨⟨[]⟩⟩ else b
def jV (n:Nt):ByteArray:=if (jF n.deed&&decide (1≤n.seq∧n.seq≤1000000000))=true then jgR (kT (jat n)) else ⟨⟨[]⟩⟩
theorem jur (d:Dd) (hb:ja1 d≤2000000):(kw d).length≤5000000:=by
 have hp:d.plan.edges.length≤2000000:=hb;unfold kw;split
 ·rw [List.length_append,jlU];simp;omega
 ·split
  ·simp
  ·split
   ·simp
   ·split<;>simp
def jbQ:C:=iS [iA 1 (.box 28 12 (.t 0)),iA 2 (.mov (.c (.string ⟨⟨[]⟩⟩)))] (.seq (iS [iA 4 (iF 1 1),iA 5 (iT 11 4),iA 6 (.call 60 [.t 5]),iA 7 (iU 6),iA 8 (iM 7),iB 9 8 false (iF 0 1),iB 10 8 false (iL 9),iB 11 8 false (.call 61 [.t 10,.c (.int .i64 1),.c (.int .i64 1000000000)]),iB 12 8 false (iU 11),iA 13 (.pick (.t 8) (.c (.bool true)) (.t 12))] (iD 13 (iS [iA 2 (.mov (.c (.string ⟨⟨[]⟩⟩)))] .ret) .skip)) (.seq (.dreg (T.pure 0 (iA 14 (iF 0 1)) (T.pure 1 (iA 15 (iL 14)) (T.pure 2 (iA 16 (iF 1 1)) (T.pure 3 (iA 17 (iF 0 16)) (T.pure 4 (iA 18 (iL 17)) (T.pure 6 (iA 20 (iF 1 1)) (T.pure 7 (iA 21 (iT 11 20)) (T.alt (iA 19 (.bsl 3 1 2 [none,none] [(0,1,.t 15),(1,1,.t 18)])) [7,6] (T.alt (iA 22 (.call 63 [.t 21])) [4,3,2,1,0] (T.alt (iA 23 (.app 3 1 8 (.t 19) (.t 22))) [] (T.alt (iA 24 (.call 62 [.t 23])) [] (T.pure 11 (iA 3 (iM 24)) T.done) T.stop) T.stop) T.stop) (T.alt (iA 22 (.call 63 [.t 21])) [4,3,2,1,0] (T.alt (iA 19 (.bsl 3 1 2 [none,none] [(0,1,.t 15),(1,1,.t 18)])) [7,6] (T.alt (iA 23 (.app 3 1 8 (.t 19) (.t 22))) [] (T.alt (iA 24 (.call 62 [.t 23])) [] (T.pure 11 (iA 3 (iM 24)) T.done) T.stop) T.stop) T.stop) T.stop)))))))))) (.seq (iS [iA 25 (iM 3),iA 26 (.len true (.t 25)),iA 27 (iQ .gtr 3 26 400)] (iD 27 (iS [iA 2 (.mov (.c (.string ⟨⟨[]⟩⟩)))] .ret) .skip)) (iS [iA 28 (iM 3),iA 2 (iM 28)] .ret))))
theorem jeg:fnC Try.prog Try.f27=some (jbQ,[.t 2],29):=by kernel_rfl
theorem zf (n:Nt) (hb:zC n≤2000000):kl Try.prog 27 [.agg (jE n)] (.c (.val (.string (jV n)))):=by
 refine jr Try.func27 jeg (by simp) ?_
 unfold jbQ;obtain ⟨seq,kind,run,plan,task,tri,worker,draw⟩:=n;have hb':ja1 ⟨kind,run,plan,task,tri,worker,draw⟩≤2000000:=hb;have hnl:=jur _ hb';simp only [go_sem,jE,jf,ja];intro b;refine jb (jj5 ⟨kind,run,plan,task,tri,worker,draw⟩ hb') (by simp only [go_sem,jf,ja]) fun η=>?_
 cases hd:jF ⟨kind,run,plan,task,tri,worker,draw⟩
 ·simp only [go_sem]
  simp [jV,hd]
 simp only [go_sem];refine jb (km seq 1 1000000000) (by simp only [go_sem]) fun η=>?_
 by_cases hs:1≤seq∧seq≤1000000000
 ·have e:jV ⟨seq,kind,run,plan,task,tri,worker,draw⟩=jgR (kT (seq::kind::kw ⟨kind,run,plan,task,tri,worker,draw⟩)):=by simp [jV,hd,hs,jat]
  rw [e];simp only [go_sem,hs];have hpd:=jdL ⟨kind,run,plan,task,tri,worker,draw⟩ hb';generalize kw ⟨kind,run,plan,task,tri,worker,draw⟩=l at*;have m1:2+l.length≤maxLen:=by unfold maxLen;omega
  have m2:(2+l.length)*8≤140737488355328:=by omega
  have m3:D.sl 1 joU (iv seq::iv kind::l.flatMap (fun n=>[iv n]))=jo (seq::kind::l):=rfl
  refine ⟨fun η1=>jb hpd (by simp only [go_sem,jf,ja]) fun η2=>?_,jb hpd (by simp only [go_sem,jf,ja]) fun η2=>?_⟩
  ·simp only [go_sem,m1,m2,m3]
   intro η3;refine jb (jho (seq::kind::l) (by simp only [List.length_cons];omega)) (by simp only [go_sem]) fun η4=>?_
   by_cases h4:400<(kT (seq::kind::l)).size
   ·have h4':(400:Int)<(kT (seq::kind::l)).size:=by omega
    simp only [go_sem,h4'];simp [jgR,h4]
   ·have h4':¬(400:Int)<(kT (seq::kind::l)).size:=by omega
    simp only [go_sem,h4'];simp [jgR,h4]
  ·simp only [go_sem,m1,m2,m3]
   intro η1 η3;refine jb (jho (seq::kind::l) (by simp only [List.length_cons];omega)) (by simp only [go_sem]) fun η4=>?_
   by_cases h4:400<(kT (seq::kind::l)).size
   ·have h4':(400:Int)<(kT (seq::kind::l)).size:=by omega
    simp only [go_sem,h4'];simp [jgR,h4]
   ·have h4':¬(400:Int)<(kT (seq::kind::l)).size:=by omega
    simp only [go_sem,h4'];simp [jgR,h4]
 ·simp only [go_sem,hs]
  simp [jV,hs]
def jbJ:C:=iS [iA 1 (.box 28 12 (.t 0)),iA 2 (.mov (.c (.string ⟨⟨[]⟩⟩)))] (iS [iA 7 (iF 1 1),iA 8 (iT 11 7),iA 3 (.alloc 26 [.int .i64 0,.int .i64 0,.int .i64 0,.int .i64 0,.int .i64 0,.int .i64 0,.slice none 0 0,.int .i64 0,.int .i64 0,.int .i64 0,.int .i64 0]),iC (.st 11 [none,none,none,none,none,none,some (2,103),none,none,none,none] (.t 3) (.t 8))] (.seq (iS [iA 9 (iT 11 3),iA 10 (.call 65 [.t 9]),iA 11 (iU 10),iA 12 (iM 11),iB 13 12 false (iF 0 1),iB 14 12 false (iL 13),iB 15 12 false (.call 66 [.t 14,.c (.int .i64 1),.c (.int .i64 1000000000)]),iB 16 12 false (iU 15),iA 17 (.pick (.t 12) (.c (.bool true)) (.t 16))] (iD 17 (iS [iA 2 (.mov (.c (.string ⟨⟨[]⟩⟩)))] .ret) .skip)) (iS [iA 18 (iF 0 1),iA 19 (iL 18),iA 20 (iF 0 3),iA 21 (iL 20),iA 22 (.bsl 3 1 2 [none,none] [(0,1,.t 19),(1,1,.t 21)]),iA 4 (iM 22)] (.seq (iS [iA 23 (iF 0 3),iA 24 (iL 23)] (.blk 0 (iS [iA 26 (iQ .eql 3 24 1),iA 25 (iM 26)] (iD 25 (iS [iA 27 (iM 4),iA 28 (iF 1 3),iA 29 (iL 28),iA 30 (iF 2 3),iA 31 (iF 0 30),iA 32 (iL 31),iA 33 (iF 2 3),iA 34 (iF 1 33),iA 35 (iL 34),iA 36 (iF 2 3),iA 37 (iF 2 36),iA 38 (iL 37),iA 39 (iF 2 3),iA 40 (iF 3 39),iA 41 (iL 40),iA 42 (iF 2 3),iA 43 (iF 4 42),iA 44 (iL 43),iA 45 (iG 44),iA 46 (.bsl 3 1 6 [none,none,none,none,none,none] [(0,1,.t 29),(1,1,.t 32),(2,1,.t 35),(3,1,.t 38),(4,1,.t 41),(5,1,.t 45)]),iA 47 (.app 3 1 8 (.t 27) (.t 46)),iA 4 (iM 47)] (iS [iA 5 (iN 0)] (.blk 1 (.loop (.seq (iS [iA 48 (iM 5),iA 49 (iF 2 3),iA 50 (iF 4 49),iA 51 (iL 50),iA 52 (iG 51),iA 53 (iP .lss 3 48 52)] (iD 53 .skip (.exit 1))) (.seq (.blk 2 (.dreg (T.pure 0 (iA 56 (iM 4)) (T.pure 1 (iA 57 (iF 2 3)) (T.pure 2 (iA 58 (iF 4 57)) (T.pure 3 (iA 59 (iL 58)) (T.pure 4 (iA 60 (iM 5)) (T.pure 5 (iA 61 (iI 2 59 60)) (T.pure 6 (iA 62 (iF 0 61)) (T.pure 7 (iA 63 (iL 62)) (T.pure 8 (iA 64 (iF 2 3)) (T.pure 9 (iA 65 (iF 4 64)) (T.pure 10 (iA 66 (iL 65)) (T.pure 11 (iA 67 (iM 5)) (T.pure 12 (iA 68 (iI 2 66 67)) (T.pure 13 (iA 69 (iF 1 68)) (T.pure 14 (iA 70 (iL 69)) (T.alt (iA 71 (.bsl 3 1 2 [none,none] [(0,1,.t 63),(1,1,.t 70)])) [0] (T.alt (iA 72 (.app 3 1 8 (.t 56) (.t 71))) [] (T.pure 17 (iA 4 (iM 72)) T.done) T.stop) T.stop)))))))))))))))))) (.reg [iA 54 (iM 5),iA 55 (iQ .add 3 54 1),iA 5 (iM 55)]))))))) (iS [iA 74 (iQ .eql 3 24 2),iA 73 (iM 74)] (iD 73 (.reg [iA 75 (iM 4),iA 76 (iF 9 3),iA 77 (iL 76),iA 78 (iF 10 3),iA 79 (iL 78),iA 80 (.bsl 3 1 2 [none,none] [(0,1,.t 77),(1,1,.t 79)]),iA 81 (.app 3 1 8 (.t 75) (.t 80)),iA 4 (iM 81)]) (.seq (iS [iA 83 (iQ .eql 3 24 3),iA 82 (iM 83)] (iD 82 .skip (.reg [iA 84 (iQ .eql 3 24 4),iA 82 (iM 84)]))) (iD 82 (.reg [iA 85 (iM 4),iA 86 (iF 1 3),iA 87 (iL 86),iA 88 (iF 7 3),iA 89 (iL 88),iA 90 (iF 8 3),iA 91 (iL 90),iA 92 (.bsl 3 1 3 [none,none,none] [(0,1,.t 87),(1,1,.t 89),(2,1,.t 91)]),iA 93 (.app 3 1 8 (.t 85) (.t 92)),iA 4 (iM 93)]) (.seq (iS [iA 95 (iQ .eql 3 24 6),iA 94 (iM 95)] (iD 94 .skip (.reg [iA 96 (iQ .eql 3 24 7),iA 94 (iM 96)]))) (iD 94 (.reg [iA 97 (iM 4),iA 98 (iF 1 3),iA 99 (iL 98),iA 100 (.bsl 3 1 1 [none] [(0,1,.t 99)]),iA 101 (.app 3 1 8 (.t 97) (.t 100)),iA 4 (iM 101)]) .skip)))))))))) (iS [iA 102 (iM 4),iA 103 (.call 67 [.t 102]),iA 6 (iM 103)] (.seq (iS [iA 104 (iM 6),iA 105 (.len true (.t 104)),iA 106 (iQ .gtr 3 105 400)] (iD 106 (iS [iA 2 (.mov (.c (.string ⟨⟨[]⟩⟩)))] .ret) .skip)) (iS [iA 107 (iM 6),iA 2 (iM 107)] .ret)))))))
theorem jd9:fnC Try.prog Try.f30=some (jbJ,[.t 2],108):=by kernel_rfl
theorem jhm (n:Nt) (hb:zC n≤2000000):kl Try.prog 30 [.agg (jE n)] (.c (.val (.string (jV n)))):=by
 refine jr Try.func30 jd9 (by simp) ?_
 unfold jbJ;obtain ⟨seq,kind,run,plan,task,tri,worker,draw⟩:=n;have hb':ja1 ⟨kind,run,plan,task,tri,worker,draw⟩≤2000000:=hb;have hp:plan.edges.length≤2000000:=hb;simp only [go_sem,jE,jf,ja];intro b1 b3;refine jb (jdK ⟨kind,run,plan,task,tri,worker,draw⟩ hb') (by simp only [go_sem,jf,ja]) fun η=>?_
 cases hd:jF ⟨kind,run,plan,task,tri,worker,draw⟩
 ·simp only [go_sem]
  simp [jV,hd]
 simp only [go_sem];refine jb (jw seq 1 1000000000) (by simp only [go_sem]) fun η=>?_
 by_cases hs:1≤seq∧seq≤1000000000
 ·have e:jV ⟨seq,kind,run,plan,task,tri,worker,draw⟩=jgR (kT (seq::kind::kw ⟨kind,run,plan,task,tri,worker,draw⟩)):=by simp [jV,hd,hs,jat]
  rw [e];by_cases k1:kind=1
  ·subst k1
   have e2:seq::1::kw ⟨1,run,plan,task,tri,worker,draw⟩=[seq,1,run,plan.prio,plan.most,plan.wait,plan.tasks,(plan.edges.length:Int)]++plan.edges.flatMap fun e=>[e.src,e.dst]:=rfl
   generalize seq::1::kw ⟨1,run,plan,task,tri,worker,draw⟩=L at*;simp only [go_sem,hs,jf,ja];intro η1 η2;refine ⟨by unfold maxLen;omega,fun η3=>?_⟩
   refine qB (fun s=>∃(k g ty:Nat) (η:jm),k≤plan.edges.length∧(g=4700∨g=7200)∧s.t 3=.c (.bp 300 0 b3)∧s.o 300=.box b3 ty ((jf ⟨1,run,plan,task,tri,worker,draw⟩).map fun x=>.a x.toRo)∧s.t 5=.c (.v (.int .i64 k))∧s.t 4=.c (.h g 0 [] (η []))∧
    s.o g=.loose (jo ([seq,1,run,plan.prio,plan.most,plan.wait,plan.tasks,(plan.edges.length:Int)]++(plan.edges.take k).flatMap fun e=>[e.src,e.dst])) η) (fun s=>plan.edges.length-s.n 5) ?_ ?_
   ·exact ⟨0,4700,26,η3,Nat.zero_le _,.inl rfl,by simp only [go_sem]<;>rfl,by simp only [go_sem]<;>rfl,by simp only [go_sem]<;>rfl,by simp only [go_sem]<;>rfl,by simp only [go_sem]<;>rfl⟩
   ·rintro s ⟨k,g,ty,η,hk,hg,h3,ho3,h5,h4,hob⟩
    by_cases hlt:k<plan.edges.length
    ·have hlt':(k:Int)<plan.edges.length:=by omega
     obtain ⟨x,hx⟩:=je hlt;have hw:IntKind.i64.wrap ((k:Int)+1)=((k+1:Nat):Int):=jg (by omega) (by omega)
     generalize hl:[seq,1,run,plan.prio,plan.most,plan.wait,plan.tasks,(plan.edges.length:Int)]++(plan.edges.take k).flatMap (fun e=>[e.src,e.dst])=l at hob
     have hll:l.length=8+2*k:=by rw [←hl,List.length_append,jlU,List.length_take,Nat.min_eq_left hk];rfl
     have h1':l.length+2≤maxLen:=by unfold maxLen;omega
     have h2':(l.length+2)*8≤140737488355328:=by omega
     have hnext:l++[x.src,x.dst]=[seq,1,run,plan.prio,plan.most,plan.wait,plan.tasks,(plan.edges.length:Int)]++(plan.edges.take (k+1)).flatMap (fun e=>[e.src,e.dst]):=by
      rw [←hl,List.take_add_one,hx];simp
     rcases hg with rfl|rfl
     all_goals
      simp only [go_sem,h3,ho3,h5,h4,hob,jf,ja,hlt,hlt',jB hx,jW,h1',h2',hw,jjd];intro η6 η7;refine ⟨⟨k+1,7200,ty,η7,?_⟩,?_⟩
      ·and_intros<;>first|rfl|omega|exact .inr rfl|(rw [hnext];rfl)
      ·rw [jdv (k:=.i64) (n:=((k+1:Nat):Int)) (by simp only [go_sem]),jdv h5];omega
    ·have hlt':¬(k:Int)<plan.edges.length:=by omega
     rw [List.take_of_length_le (by omega),←e2] at hob
     have hL:L.length≤20000000:=by rw [e2,List.length_append,jlU];simp only [List.length_cons,List.length_nil];omega
     rcases hg with rfl|rfl
     all_goals
      simp only [go_sem,h3,ho3,h5,h4,hob,jf,ja,hlt'];refine jb (kI L hL) (by simp only [go_sem,hob]) fun η4=>?_
      by_cases h4:400<(kT L).size
      ·have h4':(400:Int)<(kT L).size:=by omega
       simp only [go_sem,h4'];simp [jgR,h4]
      ·have h4':¬(400:Int)<(kT L).size:=by omega
       simp only [go_sem,h4'];simp [jgR,h4]
  ·have g1:(kind==1)=false:=by simpa using k1
   by_cases k2:kind=2
   ·subst k2
    simp only [go_sem,hs,jf,ja];intros;refine ⟨by unfold maxLen;omega,fun η5=>?_⟩
    have e1:seq::2::kw ⟨2,run,plan,task,tri,worker,draw⟩=[seq,2,worker,draw]:=rfl;rw [e1];refine jb (kI [seq,2,worker,draw] (by simp only [List.length_cons,List.length_nil];omega)) (by simp only [go_sem];rfl) fun η4=>?_
    by_cases h4:400<(kT [seq,2,worker,draw]).size
    ·have h4':(400:Int)<(kT [seq,2,worker,draw]).size:=by omega
     simp only [go_sem,h4'];simp [jgR,h4]
    ·have h4':¬(400:Int)<(kT [seq,2,worker,draw]).size:=by omega
     simp only [go_sem,h4'];simp [jgR,h4]
   ·have g2:(kind==2)=false:=by simpa using k2
    by_cases k3:kind=3
    ·subst k3
     simp only [go_sem,hs,jf,ja];intros;refine ⟨by unfold maxLen;omega,fun η5=>?_⟩
     have e1:seq::3::kw ⟨3,run,plan,task,tri,worker,draw⟩=[seq,3,run,task,tri]:=rfl;rw [e1];refine jb (kI [seq,3,run,task,tri] (by simp only [List.length_cons,List.length_nil];omega)) (by simp only [go_sem];rfl) fun η4=>?_
     by_cases h4:400<(kT [seq,3,run,task,tri]).size
     ·have h4':(400:Int)<(kT [seq,3,run,task,tri]).size:=by omega
      simp only [go_sem,h4'];simp [jgR,h4]
     ·have h4':¬(400:Int)<(kT [seq,3,run,task,tri]).size:=by omega
      simp only [go_sem,h4'];simp [jgR,h4]
    ·have g3:(kind==3)=false:=by simpa using k3
     by_cases k4:kind=4
     ·subst k4
      simp only [go_sem,hs,jf,ja];intros;refine ⟨by unfold maxLen;omega,fun η5=>?_⟩
      have e1:seq::4::kw ⟨4,run,plan,task,tri,worker,draw⟩=[seq,4,run,task,tri]:=rfl;rw [e1];refine jb (kI [seq,4,run,task,tri] (by simp only [List.length_cons,List.length_nil];omega)) (by simp only [go_sem];rfl) fun η4=>?_
      by_cases h4:400<(kT [seq,4,run,task,tri]).size
      ·have h4':(400:Int)<(kT [seq,4,run,task,tri]).size:=by omega
       simp only [go_sem,h4'];simp [jgR,h4]
      ·have h4':¬(400:Int)<(kT [seq,4,run,task,tri]).size:=by omega
       simp only [go_sem,h4'];simp [jgR,h4]
     ·have g4:(kind==4)=false:=by simpa using k4
      by_cases k6:kind=6
      ·subst k6
       simp only [go_sem,hs,jf,ja];intros;refine ⟨by unfold maxLen;omega,fun η5=>?_⟩
       have e1:seq::6::kw ⟨6,run,plan,task,tri,worker,draw⟩=[seq,6,run]:=rfl;rw [e1];refine jb (kI [seq,6,run] (by simp only [List.length_cons,List.length_nil];omega)) (by simp only [go_sem];rfl) fun η4=>?_
       by_cases h4:400<(kT [seq,6,run]).size
       ·have h4':(400:Int)<(kT [seq,6,run]).size:=by omega
        simp only [go_sem,h4'];simp [jgR,h4]
       ·have h4':¬(400:Int)<(kT [seq,6,run]).size:=by omega
        simp only [go_sem,h4'];simp [jgR,h4]
      ·have g6:(kind==6)=false:=by simpa using k6
       by_cases k7:kind=7
       ·subst k7
        simp only [go_sem,hs,jf,ja];intros;refine ⟨by unfold maxLen;omega,fun η5=>?_⟩
        have e1:seq::7::kw ⟨7,run,plan,task,tri,worker,draw⟩=[seq,7,run]:=rfl;rw [e1];refine jb (kI [seq,7,run] (by simp only [List.length_cons,List.length_nil];omega)) (by simp only [go_sem];rfl) fun η4=>?_
        by_cases h4:400<(kT [seq,7,run]).size
        ·have h4':(400:Int)<(kT [seq,7,run]).size:=by omega
         simp only [go_sem,h4'];simp [jgR,h4]
        ·have h4':¬(400:Int)<(kT [seq,7,run]).size:=by omega
         simp only [go_sem,h4'];simp [jgR,h4]
       ·have g7:(kind==7)=false:=by simpa using k7
        have e1:kw ⟨kind,run,plan,task,tri,worker,draw⟩=[]:=by simp [kw,k1,k2,k3,k4,k6,k7]
        rw [e1];simp only [go_sem,hs,jf,ja,g1,g2,g3,g4,g6,g7];intros;refine jb (kI [seq,kind] (by simp only [List.length_cons,List.length_nil];omega)) (by simp only [go_sem];rfl) fun η4=>?_
        by_cases h4:400<(kT [seq,kind]).size
        ·have h4':(400:Int)<(kT [seq,kind]).size:=by omega
         simp only [go_sem,h4'];simp [jgR,h4]
        ·have h4':¬(400:Int)<(kT [seq,kind]).size:=by omega
         simp only [go_sem,h4'];simp [jgR,h4]
 ·simp only [go_sem,hs]
  simp [jV,hs]
end Go.Proofs.Ytmnpailnelmpiaa
