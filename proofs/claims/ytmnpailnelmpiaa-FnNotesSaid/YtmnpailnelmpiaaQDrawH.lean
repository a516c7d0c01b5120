/- Parts. -/
import Derived.Test.YtmnpailnelmpiaaQDrawB
import Derived.Test.YtmnpailnelmpiaaQReadN
set_option linter.unusedSimpArgs false
set_option linter.unusedVariables false
set_option maxHeartbeats 8000000
set_option maxRecDepth 100000
namespace Go.Proofs.Ytmnpailnelmpiaa
open Go.RowKit Go.Sort
abbrev YdHs (y:Yd) (x2 x3:Value):AV:=.agg [.v (.int .i64 y.now),.v (.int .i64 y.seq),.hs 94 0 [] x2 1 0 y.shelf.length,.hs 95 0 [] x3 8 0 y.runs.length]
abbrev tup3 (a b c:Int):AV:=.tup [(false,[.v (.int .i64 a)]),(false,[.v (.int .i64 b)]),(false,[.v (.int .i64 c)])]
theorem jv9 {l:List Rn} {k:Nat} {r:Rn} (h:l[k]?=some r):((l.flatMap jd).drop (k*8)).take 1=[.val (.int .i64 r.id)]:=qs (enc:=jd) (size:=8) (fun _=>rfl) h (j:=0) (n:=1) (by decide)
theorem jvX {l:List Rn} {k:Nat} {r:Rn} (h:l[k]?=some r):k*8+1≤(l.flatMap jd).length:=qr (enc:=jd) (size:=8) (fun _=>rfl) h (j:=0) (n:=1) (by decide)
theorem jru {s:St} {a b c:Nat} {x y z:A0} {K:AV→(Nat→Ob)→Prop} (ha:s.t a=.c x) (hb:s.t b=.c y) (hc:s.t c=.c z) (h:K (.tup [(false,[x]),(false,[y]),(false,[z])]) s.o):jtI [.t a,.t b,.t c] K s:=by
 simp only [jtI,jgK,ha,hb,hc];exact h
def jcP:C:=iS [iA 2 (.box 78 8 (.t 0)),iA 4 (.mov (.c (.slice none 0 0)))] (iS [iA 7 (.bsl 3 1 0 [] []),iA 5 (iM 7)] (.seq (iS [iA 6 (iN 0)] (.blk 0 (.loop (.seq (iS [iA 8 (iM 6),iA 9 (iF 7 2),iA 10 (iL 9),iA 11 (iG 10),iA 12 (iP .lss 3 8 11)] (iD 12 .skip (.exit 0))) (.seq (.blk 1 (iS [iA 15 (iF 7 2),iA 16 (iL 15),iA 17 (iM 6),iA 18 (iI 4 16 17),iA 19 (iF 0 18),iA 20 (iL 19),iA 21 (iM 1),iA 22 (iP .eql 3 20 21)] (iD 22 (.reg [iA 23 (iM 5),iA 24 (iM 6),iA 25 (.bsl 3 1 1 [none] [(0,1,.t 24)]),iA 26 (.app 3 1 8 (.t 23) (.t 25)),iA 5 (iM 26)]) .skip))) (.reg [iA 13 (iM 6),iA 14 (iQ .add 3 13 1),iA 6 (iM 14)])))))) (iS [iA 27 (iM 5),iA 4 (iM 27)] .ret)))
theorem jfn:fnC Try.prog Try.f156=some (jcP,[.t 4],28):=by kernel_rfl
def jcC:C:=iS [iA 3 (.box 42 4 (.t 1)),iA 4 (iN 0),iA 5 (iN 0),iA 6 (iN 0)] (.seq (iS [iA 7 (iN 0)] (.blk 0 (.loop (.seq (iS [iA 11 (iM 7),iA 12 (iF 3 3),iA 13 (iL 12),iA 14 (iG 13),iA 15 (iP .lss 3 11 14)] (iD 15 .skip (.exit 0))) (.seq (.blk 1 (iS [iA 18 (iF 3 3),iA 19 (iL 18),iA 20 (iM 7),iA 21 (iI 8 19 20),iA 22 (iT 8 21),iA 23 (.call 156 [.t 22,.c (.int .i64 3)]),iA 8 (iM 23)] (iS [iA 24 (iM 8),iA 25 (iG 24),iA 26 (iQ .gtr 3 25 0),iA 27 (iM 26),iB 28 27 true (iM 0),iB 29 27 true (.call 142 [.t 28,.c (.int .i64 5)]),iB 30 27 true (iU 29),iA 31 (.pick (.t 27) (.t 30) (.c (.bool false)))] (iD 31 (iS [iA 32 (iM 8),iA 33 (iM 0),iA 34 (iM 8),iA 35 (iG 34),iA 36 (.call 58 [.t 33,.t 35]),iA 37 (iI 1 32 36),iA 38 (iL 37),iA 9 (iM 38)] (iS [iA 39 (iF 3 3),iA 40 (iL 39),iA 41 (iM 7),iA 42 (iI 8 40 41),iA 43 (iF 7 42),iA 44 (iL 43),iA 45 (iM 9),iA 46 (iI 4 44 45),iA 47 (iF 2 46),iA 48 (iL 47),iA 10 (iM 48)] (.seq (iS [iA 49 (iM 0),iA 50 (.call 142 [.t 49,.c (.int .i64 8)])] (iD 50 (.reg [iA 51 (iM 10),iA 52 (iQ .sub 3 51 1),iA 53 (iM 0),iA 54 (.call 58 [.t 53,.c (.int .i64 2)]),iA 55 (.bin .mul 3 (.c (.int .i64 2)) (.t 54)),iA 56 (iP .add 3 52 55),iA 10 (iM 56)]) .skip)) (iS [iA 57 (iF 3 3),iA 58 (iL 57),iA 59 (iM 7),iA 60 (iI 8 58 59),iA 61 (iF 0 60),iA 62 (iL 61),iA 63 (iM 9),iA 64 (iM 10),iA 4 (iM 62),iA 5 (iM 63),iA 6 (iM 64)] .ret)))) .skip)))) (.reg [iA 16 (iM 7),iA 17 (iQ .add 3 16 1),iA 7 (iM 17)])))))) (iS [iA 65 (iM 0),iA 66 (.call 58 [.t 65,.c (.int .i64 5)]),iA 67 (.bin .add 3 (.c (.int .i64 1)) (.t 66)),iA 68 (iM 0),iA 69 (.call 58 [.t 68,.c (.int .i64 6)]),iA 70 (iQ .sub 3 69 1),iA 71 (iM 0),iA 72 (.call 58 [.t 71,.c (.int .i64 4)]),iA 4 (iM 67),iA 5 (iM 70),iA 6 (iM 72)] .ret))
theorem jfa:fnC Try.prog Try.f140=some (jcC,[.t 4,.t 5,.t 6],73):=by kernel_rfl
theorem jim (r:Rn) (s:Int) (hl:r.tasks.length≤2000000):kl Try.prog 156 [.agg (jd r),.c (.val (.int .i64 s))] (.c (jo (ja4 s r.tasks))):=by
 refine jr Try.func156 jfn (by simp) ?_
 unfold jcP;simp only [go_sem,jd,ja];intro b η0;refine jq (fun i:Nat×jm=>St.of [(1,Ni s),(2,Bx 200 b),(5,Hd 5 i.2),(6,Ni i.1)] [(200,Bi b _ (jd r)),(5,.loose (jo (vh s r.tasks i.1)) i.2)]) (fun i=>i.1≤r.tasks.length) (fun i=>r.tasks.length-i.1) (0,η0) (by (try dsimp only);first|omega|(simp;done)|(and_intros<;>first|omega|simp)) (jl [some 200,some 700] (by simp only [go_sem,jd,ja,jyk,jmZ]<;>and_intros<;>first|rfl|assumption|trivial)) ?_
 rintro ⟨k,η⟩ hk;dsimp only at hk;by_cases hlt:k<r.tasks.length
 ·have hlt':(k:Int)<r.tasks.length:=by omega
  have h0k:(k:Int)≥0:=by omega
  obtain ⟨x,hx⟩:=je hlt;have hw:IntKind.i64.wrap ((k:Int)+1)=((k+1:Nat):Int):=jg (by omega) (by omega)
  have hc:=jdB hx s;have hle:=jdC s r.tasks k;generalize vh s r.tasks k=R at*;have hm1:R.length+1≤maxLen:=by unfold maxLen;omega
  have hm2:(R.length+1)*8≤140737488355328:=by omega
  by_cases h2:x.state=s
  ·have h2':(x.state==s)=true:=by simpa using h2
   rw [if_pos h2] at hc;simp only [go_sem,jd,ja,hlt,hlt',h0k,kb hx,ju,h2',hm1,hm2,zV];intro η3 η4;simp only [go_sem,hw];exact ⟨(k+1,η4),by (try dsimp only);first|omega|assumption|(and_intros<;>first|omega|assumption),(jl [some 200,some 2600] (by simp only [go_sem,jd,ja,hc]<;>and_intros<;>first|rfl|assumption|trivial)),by (try dsimp only);omega⟩
  ·have h2':(x.state==s)=false:=by simpa using h2
   rw [if_neg h2,List.append_nil] at hc;simp only [go_sem,jd,ja,hlt,hlt',h0k,kb hx,ju,h2',hw];exact ⟨(k+1,η),by (try dsimp only);first|omega|assumption|(and_intros<;>first|omega|assumption),(jl [some 200,some 5] (by simp only [go_sem,jd,ja,hc]<;>and_intros<;>first|rfl|assumption|trivial)),by (try dsimp only);omega⟩
 have hlt':¬(k:Int)<r.tasks.length:=by omega
 obtain rfl:k=r.tasks.length:=by omega
 simp only [go_sem,jd,ja,hlt',ja4]
theorem joh (c:List UInt8) (hc:c.length≤1048576) (y:Yd) (hy:YdI y) (s:Cu) (b:Nat) (o:Nat→Ob) (f2 f3:jm) (hs:s.1≤c.length) (ho:o 89=ku b 125 c s) (h94:o 94=.loose (kL y.shelf) f2) (h95:o 95=.loose (jN y.runs) f3):
 Inl Try.prog 140 [Bx 89 b,YdHs y (f2 []) (f3 [])] o fun av o2=>av=tup3 (kJ c y s).1.1 (kJ c y s).1.2.1 (kJ c y s).1.2.2∧o2 89=ku b 125 c (kJ c y s).2∧∀g,g<800000000→g≠89→o2 g=o g:=by
 refine qZ (β:=8000000) Try.func140 jfa (by simp) ?_
 unfold jcC;have h8:=hy.rns.eight;simp only [go_sem];intro b3;have hEx:=jzB (g:=95) (sz:=8) (d:=jN y.runs) (η:=f3) rfl rfl (zU _) (by decide)
 have hfin:∀r s',zZ c y.runs s=(r,s')→kJ c y s=match (r,s') with
  |(some x,s)=>(x,s)
  |(none,s)=>let a:=jh c 5 s;let b:=jh c 6 a.2;let d:=jh c 4 b.2;((1+a.1,b.1-1,d.1),d.2):=fun r s' h=>by rw [kJ,h];rfl
 refine jq (fun i:Nat×Cu=>St.ofB [(0,Bx 89 b),(3,Bx 800000300 b3),(7,Ni i.1)] [(800000300,.box b3 tYd [.a (.v (.int .i64 y.now)),.a (.v (.int .i64 y.seq)),.a (.hs 94 0 [] (f2 []) 1 0 y.shelf.length),.a (.hs 95 0 [] (f3 []) 8 0 y.runs.length)])] 800000000 (fun j=>if j=89 then ku b 125 c i.2 else o j)) (fun i=>i.1≤y.runs.length∧i.2.1≤c.length∧zZ c y.runs s=zZ c (y.runs.drop i.1) i.2) (fun i=>y.runs.length-i.1) (0,s) (⟨Nat.zero_le _,hs,rfl⟩) (jR [some 800000300] (by simp only [go_sem,ho]<;>and_intros<;>first|rfl|assumption|trivial) (fun j hj=>by by_cases e89:j=89<;>simp only [go_sem,e89,hj,if_true,if_false,jp hj 800000300 (by omega),ho]) (by decide)) ?_
 rintro ⟨k,u⟩ ⟨hk,hu,hH⟩;dsimp only at hk hu hH;by_cases hlt:k<y.runs.length;rotate_left
 ·have hlt':¬(k:Int)<y.runs.length:=by omega
  rw [List.drop_eq_nil_of_le (by omega),zZ] at hH
  rw [hfin _ _ hH];dsimp only;simp only [go_sem,hlt',hEx,h95];refine jn (jP c hc 5 u b _ hu (by simp only [go_sem])) (by simp only [go_sem]) ?_
  have u1:=js (n:=5) hu;have x1:=jA c (n:=5) u (by omega)
  generalize jh c 5 u=p1 at*;have w1:IntKind.i64.wrap (1+p1.1)=1+p1.1:=jg (by omega) (by omega)
  simp only [go_sem,w1];refine jn (jP c hc 6 p1.2 b _ u1 (by simp only [go_sem])) (by simp only [go_sem]) ?_
  have u2:=js (n:=6) u1;have x2:=jA c (n:=6) p1.2 (by omega)
  generalize jh c 6 p1.2=p2 at*;have w2:IntKind.i64.wrap (p2.1-1)=p2.1-1:=jg (by omega) (by omega)
  simp only [go_sem,w2];refine jn (jP c hc 4 p2.2 b _ u2 (by simp only [go_sem])) (by simp only [go_sem]) ?_
  have x3:=jA c (n:=4) p2.2 (by omega)
  generalize jh c 4 p2.2=p3 at*;simp only [go_sem,w1,w2];exact jru (by simp only [go_sem,w1]) (by simp only [go_sem,w2]) (by simp only [go_sem]) ⟨rfl,by simp only [go_sem],fun g g1 g2=>by simp only [go_sem,g1,g2,jp g1 800000300 (by omega),if_true,if_false]⟩
 have hlt':(k:Int)<y.runs.length:=by omega
 have h0k:(k:Int)≥0:=by omega
 obtain ⟨r,hr⟩:=je hlt;have h12:=(hy.rns.right r (List.mem_of_getElem? hr)).le12;simp only [go_sem,hlt',hEx,h95,hlt,h0k,Nat.add_zero,jnp hr,jkh hr,jd,ja];refine jb (jim r 3 (by omega)) (by simp only [go_sem,jd,ja,h95,jkl hr,zx hr]) fun ηt=>?_
 simp only [go_sem,jd,ja,h95,jkl hr,zx hr];have hwk:IntKind.i64.wrap ((k:Int)+1)=((k+1:Nat):Int):=jg (by omega) (by omega)
 have hd:y.runs.drop k=r::y.runs.drop (k+1):=by
  obtain ⟨hk,rfl⟩:=List.getElem?_eq_some_iff.1 hr;exact List.drop_eq_getElem_cons hk
 rw [hd,zZ] at hH;dsimp only at hH;have hml:=fun v:Int=>@tinL_mem 3 r.tasks v
 have htl:=jdC 3 r.tasks r.tasks.length;rw [show vh 3 r.tasks r.tasks.length=ja4 3 r.tasks from rfl] at htl
 generalize ja4 3 r.tasks=L at*;by_cases hL:L=[]
 ·subst hL
  rw [if_pos rfl] at hH;have hz:¬((([]:List Int).length:Int)>0):=by simp
  simp only [go_sem,hz,hwk];exact ⟨(k+1,u),⟨hlt,hu,hH⟩,(jR [some 800000300] (by simp only [go_sem,hwk]<;>and_intros<;>first|rfl|assumption|trivial) (fun j hj=>by by_cases e89:j=89<;>simp only [go_sem,e89,hj,if_true,if_false,jp hj 800000300 (by omega),jp hj 800002300 (by omega),hwk]) (by decide)),by (try dsimp only);omega⟩
 rw [if_neg hL] at hH;have hLp:0<L.length:=List.length_pos_iff.2 hL;have hz:((L.length:Int)>0):=by omega
 simp only [go_sem,hz];refine jn (jgO c hc 5 u b _ hu (by simp only [go_sem])) (by simp only [go_sem]) ?_
 have u1:=js (n:=5) hu;generalize jh c 5 u=p1 at*;by_cases h5:p1.1=0
 ·have h5':(p1.1==0)=true:=by simp [h5]
  rw [if_pos h5] at hH;simp only [go_sem,h5',hwk];exact ⟨(k+1,p1.2),⟨hlt,u1,hH⟩,(jR [some 800000300] (by simp only [go_sem,hwk]<;>and_intros<;>first|rfl|assumption|trivial) (fun j hj=>by by_cases e89:j=89<;>simp only [go_sem,e89,hj,if_true,if_false,jp hj 800000300 (by omega),jp hj 800002300 (by omega),hwk]) (by decide)),by (try dsimp only);omega⟩
 have h5':(p1.1==0)=false:=by simp [h5]
 rw [if_neg h5] at hH;simp only [go_sem,h5'];refine jn (jP c hc L.length p1.2 b _ u1 (by simp only [go_sem])) (by simp only [go_sem]) ?_
 have u2:=js (n:=(L.length:Int)) u1;have x2:=jA c (n:=(L.length:Int)) p1.2 (by omega)
 generalize jh c L.length p1.2=p2 at*;obtain ⟨j,hj⟩:=Int.eq_ofNat_of_zero_le x2.1;rw [hj] at x2;have hjl:j<L.length:=by omega
 have h0j:(j:Int)≥0:=by omega
 obtain ⟨v,hv⟩:=je hjl;obtain ⟨t,x,hvt,hx,hxs⟩:=(hml v).1 (List.mem_of_getElem? hv);have htl2:=(List.getElem?_eq_some_iff.1 hx).1;have h0t:(t:Int)≥0:=by omega
 rw [hj,Int.toNat_natCast,hv,Option.getD_some,hvt,Int.toNat_natCast,hx] at hH;rw [hvt] at hv;have hxi:j+1≤(L.flatMap fun n=>[iv n]).length:=by have:=jj hjl;rwa [Nat.mul_one] at this
 have hxa:((L.flatMap fun n=>[iv n]).drop j).take 1=[iv (t:Int)]:=by have:=ji hv;rwa [Nat.mul_one] at this
 simp only [go_sem,hj,h0j,hjl,hxi,hxa,Nat.mul_one,hEx,h95,hlt,h0k,Nat.add_zero,jmk hr,jlE hr,zx hr,htl2,h0t,jto hx,jsr hx];simp only [Option.map_some,Option.getD_some] at hH;refine jn (jgO c hc 8 p2.2 b _ u2 (by simp only [go_sem])) (by simp only [go_sem]) ?_
 have u3:=js (n:=8) u2;generalize jh c 8 p2.2=p3 at*;by_cases h8':p3.1=0
 ·have h8b:(p3.1==0)=true:=by simp [h8']
  rw [if_pos h8'] at hH;simp only [go_sem,h8b];refine jn (jP c hc 2 p3.2 b _ u3 (by simp only [go_sem])) (by simp only [go_sem]) ?_
  have x4:=jA c (n:=2) p3.2 (by omega)
  generalize jh c 2 p3.2=p4 at*;have w4:IntKind.i64.wrap (2*p4.1)=2*p4.1:=jg (by omega) (by omega)
  rw [hfin _ _ hH];dsimp only;simp only [go_sem,w4,hEx,h95,hlt,h0k,Nat.add_zero,jv9 hr,jvX hr];exact jru (by simp only [go_sem]) (by simp only [go_sem]) (by simp only [go_sem,w4]) ⟨rfl,by simp only [go_sem],fun g g1 g2=>by simp only [go_sem,g1,g2,jp g1 800000300 (by omega),jp g1 800002300 (by omega),if_true,if_false]⟩
 ·have h8b:(p3.1==0)=false:=by simp [h8']
  rw [if_neg h8'] at hH;rw [hfin _ _ hH];dsimp only;simp only [go_sem,h8b,hEx,h95,hlt,h0k,Nat.add_zero,jv9 hr,jvX hr];exact jru (by simp only [go_sem]) (by simp only [go_sem]) (by simp only [go_sem]) ⟨rfl,by simp only [go_sem],fun g g1 g2=>by simp only [go_sem,g1,g2,jp g1 800000300 (by omega),jp g1 800002300 (by omega),if_true,if_false]⟩
abbrev DdAV (d:Dd) (g:Nat) (e:jm):AV:=.agg [.v (.int .i64 d.kind),.v (.int .i64 d.run),.v (.int .i64 d.plan.prio),.v (.int .i64 d.plan.most),.v (.int .i64 d.plan.wait),.v (.int .i64 d.plan.tasks),.h g 6 [] (e []),.v (.int .i64 d.task),.v (.int .i64 d.tri),.v (.int .i64 d.worker),.v (.int .i64 d.draw)]
def jcA:C:=iS [iA 3 (.box 42 4 (.t 1)),iA 4 (.alloc 26 [.int .i64 0,.int .i64 0,.int .i64 0,.int .i64 0,.int .i64 0,.int .i64 0,.slice none 0 0,.int .i64 0,.int .i64 0,.int .i64 0,.int .i64 0])] (iS [iA 12 (iM 0),iA 13 (.call 58 [.t 12,.c (.int .i64 20)]),iA 5 (iM 13)] (.seq (.blk 0 (iS [iA 15 (iM 5),iA 16 (iQ .lss 3 15 6),iA 14 (iM 16)] (iD 14 (iS [iA 17 (iM 0),iA 18 (.call 58 [.t 17,.c (.int .i64 8)]),iA 19 (iM 0),iA 20 (.call 58 [.t 19,.c (.int .i64 7)]),iA 21 (.bld [.int .i64 0,.int .i64 0,.int .i64 0,.int .i64 0,.int .i64 0,.int .i64 0,.slice none 0 0,.int .i64 0,.int .i64 0,.int .i64 0,.int .i64 0] [(0,1,.c (.int .i64 2)),(9,1,.t 18),(10,1,.t 20)]),iC (.st 11 [none,none,none,none,none,none,some (2,103),none,none,none,none] (.t 4) (.t 21))] .ret) (iS [iA 23 (iM 5),iA 24 (iQ .lss 3 23 10),iA 22 (iM 24)] (iD 22 (iS [iA 25 (iM 0),iA 26 (.call 58 [.t 25,.c (.int .i64 9)]),iA 27 (.bin .add 3 (.c (.int .i64 1)) (.t 26)),iA 28 (iM 0),iA 29 (.call 139 [.t 28]),iA 30 (.bld [.int .i64 0,.int .i64 0,.int .i64 0,.int .i64 0,.int .i64 0,.int .i64 0,.slice none 0 0,.int .i64 0,.int .i64 0,.int .i64 0,.int .i64 0] [(0,1,.c (.int .i64 1)),(1,1,.t 27),(2,5,.t 29)]),iC (.st 11 [none,none,none,none,none,none,some (2,103),none,none,none,none] (.t 4) (.t 30))] .ret) (iS [iA 32 (iM 5),iA 33 (iQ .lss 3 32 15),iA 31 (iM 33)] (iD 31 (iS [iA 35 (iM 0),iA 36 (iT 4 3),iA 37 (.call 140 [.t 35,.t 36]),iA 34 (iM 37),iA 38 (iE 34 0),iA 39 (iE 34 1),iA 40 (iE 34 2),iA 6 (iM 38),iA 7 (iM 39),iA 8 (iM 40)] (iS [iA 41 (iM 6),iA 42 (iM 7),iA 43 (.call 141 [.t 42,.c (.int .i64 0),.c (.int .i64 99)]),iA 44 (iM 8),iA 45 (.call 141 [.t 44,.c (.int .i64 0),.c (.int .i64 99)]),iA 46 (.bld [.int .i64 0,.int .i64 0,.int .i64 0,.int .i64 0,.int .i64 0,.int .i64 0,.slice none 0 0,.int .i64 0,.int .i64 0,.int .i64 0,.int .i64 0] [(0,1,.c (.int .i64 3)),(1,1,.t 41),(7,1,.t 43),(8,1,.t 45)]),iC (.st 11 [none,none,none,none,none,none,some (2,103),none,none,none,none] (.t 4) (.t 46))] .ret)) (iS [iA 48 (iM 5),iA 49 (iQ .eql 3 48 15),iA 47 (iM 49)] (iD 47 (iS [iA 51 (iM 0),iA 52 (iT 4 3),iA 53 (.call 140 [.t 51,.t 52]),iA 50 (iM 53),iA 54 (iE 50 0),iA 55 (iE 50 1),iA 56 (iE 50 2),iA 9 (iM 54),iA 10 (iM 55),iA 11 (iM 56)] (iS [iA 57 (iM 9),iA 58 (iM 10),iA 59 (.call 141 [.t 58,.c (.int .i64 0),.c (.int .i64 99)]),iA 60 (iM 11),iA 61 (.call 141 [.t 60,.c (.int .i64 0),.c (.int .i64 99)]),iA 62 (.bld [.int .i64 0,.int .i64 0,.int .i64 0,.int .i64 0,.int .i64 0,.int .i64 0,.slice none 0 0,.int .i64 0,.int .i64 0,.int .i64 0,.int .i64 0] [(0,1,.c (.int .i64 4)),(1,1,.t 57),(7,1,.t 59),(8,1,.t 61)]),iC (.st 11 [none,none,none,none,none,none,some (2,103),none,none,none,none] (.t 4) (.t 62))] .ret)) (iS [iA 64 (iM 5),iA 65 (iQ .eql 3 64 16),iA 63 (iM 65)] (iD 63 (iS [iA 66 (.bld [.int .i64 0,.int .i64 0,.int .i64 0,.int .i64 0,.int .i64 0,.int .i64 0,.slice none 0 0,.int .i64 0,.int .i64 0,.int .i64 0,.int .i64 0] [(0,1,.c (.int .i64 5))]),iC (.st 11 [none,none,none,none,none,none,some (2,103),none,none,none,none] (.t 4) (.t 66))] .ret) (iS [iA 68 (iM 5),iA 69 (iQ .eql 3 68 17),iA 67 (iM 69)] (iD 67 (iS [iA 70 (iM 0),iA 71 (.call 58 [.t 70,.c (.int .i64 9)]),iA 72 (.bin .add 3 (.c (.int .i64 1)) (.t 71)),iA 73 (.bld [.int .i64 0,.int .i64 0,.int .i64 0,.int .i64 0,.int .i64 0,.int .i64 0,.slice none 0 0,.int .i64 0,.int .i64 0,.int .i64 0,.int .i64 0] [(0,1,.c (.int .i64 6)),(1,1,.t 72)]),iC (.st 11 [none,none,none,none,none,none,some (2,103),none,none,none,none] (.t 4) (.t 73))] .ret) (iS [iA 75 (iM 5),iA 76 (iQ .eql 3 75 18),iA 74 (iM 76)] (iD 74 (iS [iA 77 (iM 0),iA 78 (.call 58 [.t 77,.c (.int .i64 9)]),iA 79 (.bin .add 3 (.c (.int .i64 1)) (.t 78)),iA 80 (.bld [.int .i64 0,.int .i64 0,.int .i64 0,.int .i64 0,.int .i64 0,.int .i64 0,.slice none 0 0,.int .i64 0,.int .i64 0,.int .i64 0,.int .i64 0] [(0,1,.c (.int .i64 7)),(1,1,.t 79)]),iC (.st 11 [none,none,none,none,none,none,some (2,103),none,none,none,none] (.t 4) (.t 80))] .ret) .skip))))))))))))))) (.seq (iS [iA 81 (iM 0),iA 82 (.call 142 [.t 81,.c (.int .i64 3)])] (iD 82 (iS [iA 83 (.bld [.int .i64 0,.int .i64 0,.int .i64 0,.int .i64 0,.int .i64 0,.int .i64 0,.slice none 0 0,.int .i64 0,.int .i64 0,.int .i64 0,.int .i64 0] [(0,1,.c (.int .i64 8))]),iC (.st 11 [none,none,none,none,none,none,some (2,103),none,none,none,none] (.t 4) (.t 83))] .ret) .skip)) (iS [iA 84 (.bld [.int .i64 0,.int .i64 0,.int .i64 0,.int .i64 0,.int .i64 0,.int .i64 0,.slice none 0 0,.int .i64 0,.int .i64 0,.int .i64 0,.int .i64 0] [(0,1,.c (.int .i64 5))]),iC (.st 11 [none,none,none,none,none,none,some (2,103),none,none,none,none] (.t 4) (.t 84))] .ret))))
theorem je8:fnC Try.prog Try.f126=some (jcA,[.cell 4 true 11],85):=by kernel_rfl
theorem juL (c:List UInt8) (hc:c.length≤1048576) (y:Yd) (hy:YdI y) (s:Cu) (b:Nat) (o:Nat→Ob) (f2 f3:jm) (hs:s.1≤c.length) (ho:o 89=ku b 125 c s) (h86:o 86=.none) (h94:o 94=.loose (kL y.shelf) f2) (h95:o 95=.loose (jN y.runs) f3):
 Inl Try.prog 126 [Bx 89 b,YdHs y (f2 []) (f3 [])] o fun av o2=>∃(e:jm) (b4:Nat),av=DdAV (kS c y s).1 700000400 e∧o2 700000400=DdR b4 26 (kS c y s).1 e∧o2 89=ku b 125 c (kS c y s).2∧∀g,g<700000000→g≠86→g≠89→o2 g=o g:=by
 refine jfV (β:=7000000) [[1,1,0,0,1,0,1],[1,1,0,0,1,1,1,0,1],[1,1,0,0,1,1,1,1,1,0,1,1],[1,1,0,0,1,1,1,1,1,1,1,0,1,1],[1,1,0,0,1,1,1,1,1,1,1,1,1,0,1],[1,1,0,0,1,1,1,1,1,1,1,1,1,1,1,0,1],[1,1,0,0,1,1,1,1,1,1,1,1,1,1,1,1,1,0,1],[1,1,1,0,1,0,1],[1,1,1,1,1]] Try.func126 je8 (by simp) ?_
 unfold jcA;simp only [C.ghs,C.ghAt,List.foldr];simp only [go_sem];intro b3 b4;refine jn (jP c hc 20 s b _ hs (by simp only [go_sem,ho])) (by simp only [go_sem]) ?_
 have s1:=js (n:=20) hs;have x1:=jA c (n:=20) s (by omega)
 generalize hq1:jh c 20 s=q1 at*;by_cases c1:q1.1<6
 ·simp only [go_sem,c1]
  refine jn (jP c hc 8 q1.2 b _ s1 (by simp only [go_sem])) (by simp only [go_sem]) ?_
  have s2:=js (n:=8) s1;have x2:=jA c (n:=8) q1.2 (by omega)
  generalize hq2:jh c 8 q1.2=q2 at*;simp only [go_sem];refine jn (jP c hc 7 q2.2 b _ s2 (by simp only [go_sem])) (by simp only [go_sem]) ?_
  have s3:=js (n:=7) s2;have x3:=jA c (n:=7) q2.2 (by omega)
  generalize hq3:jh c 7 q2.2=q3 at*;have hd:kS c y s=(⟨2,0,plZ,0,0,q2.1,q3.1⟩,q3.2):=by simp only [kS,hq1,if_pos c1,hq2,hq3]
  rw [hd];simp only [go_sem,ho];refine kK ?_;refine WkK.wk (s':=St.ofB [(4,Bx 700000400 b4)] [(700000400,DdR b4 26 ⟨2,0,plZ,0,0,q2.1,q3.1⟩ vT)] 700000000 (fun j=>if j=89 then ku b 125 c q3.2 else o j)) (jR [some 700000400] (by simp only [go_sem,jk,ho]<;>and_intros<;>first|rfl|assumption|trivial) (fun j hj=>by by_cases e89:j=89<;>simp only [go_sem,e89,hj,if_true,if_false,jp hj 700000400 (by omega),jp hj 700000300 (by omega),jk,ho]) (by decide)) ?_
  refine WkK.of ?_;simp only [go_sem];exact ⟨vT,b4,rfl,rfl,fun g g1 g2 g3=>by simp only [g1,g3,jp g1 700000400 (by omega),if_true,if_false]⟩
 by_cases c2:q1.1<10
 ·simp only [go_sem,c1,c2]
  refine jn (jP c hc 9 q1.2 b _ s1 (by simp only [go_sem])) (by simp only [go_sem]) ?_
  have s2:=js (n:=9) s1;have x2:=jA c (n:=9) q1.2 (by omega)
  generalize hq2:jh c 9 q1.2=q2 at*;have w2:IntKind.i64.wrap (1+q2.1)=1+q2.1:=jg (by omega) (by omega)
  simp only [go_sem,w2];refine qo (by simp only [go_sem]) (jsp c hc q2.2 b _ s2 (by simp only [go_sem]) (by simp only [go_sem,h86])) fun av o' ⟨e,hav,hx1,o1,o2,hk⟩=>?_
  subst hav;have k4:=hk 700000400 (by decide) (by decide) (by decide)
  have kall:∀g,g<700000000→o' g=if g=89 then ku b 125 c (ja3 c q2.2).2 else if g=86 then .loose (jt (ja3 c q2.2).1.edges) e else o g:=fun g hg=>by
   by_cases h1:g=89
   ·subst h1;rw [o2];rfl
   ·by_cases h2:g=86
    ·subst h2;rw [o1];rfl
    ·rw [hk g (by omega) h2 h1,if_neg h1,if_neg h2]
     simp only [go_sem,h1,h2,jp hg 700000300 (by omega),jp hg 700000400 (by omega),if_false]
  simp only [go_sem] at k4;have hd:kS c y s=(⟨1,1+q2.1,(ja3 c q2.2).1,0,0,0,0⟩,(ja3 c q2.2).2):=by simp only [kS,hq1,if_neg c1,if_pos c2,hq2]
  rw [hd];generalize ja3 c q2.2=p at*;simp only [go_sem,k4,hx1,w2];refine kK ?_;refine WkK.wk (s':=St.ofB [(4,Bx 700000400 b4)] [(700000400,.box b4 26 [.a (.v (.int .i64 1)),.a (.v (.int .i64 (1+q2.1))),.a (.v (.int .i64 p.1.prio)),.a (.v (.int .i64 p.1.most)),.a (.v (.int .i64 p.1.wait)),.a (.v (.int .i64 p.1.tasks)),.a (.v (e [])),.a (.v (.int .i64 0)),.a (.v (.int .i64 0)),.a (.v (.int .i64 0)),.a (.v (.int .i64 0))])] 700000000 (fun j=>if j=89 then ku b 125 c p.2 else if j=86 then .loose (jt p.1.edges) e else o j)) (jR [some 700000400] (by simp only [go_sem,w2,kall]<;>and_intros<;>first|rfl|assumption|trivial) (fun j hj=>by by_cases e89:j=89<;>by_cases e86:j=86<;>simp only [go_sem,e89,e86,hj,if_true,if_false,jp hj 700000400 (by omega),w2,kall]) (by decide)) ?_
  refine qg 700000400 6 86 (d:=jt p.1.edges) (η:=e) rfl rfl rfl ?_;refine WkK.of ?_;simp only [go_sem];exact ⟨e,b4,rfl,rfl,fun g g1 g2 g3=>by simp only [g1,g2,g3,jp g1 700000400 (by omega),if_true,if_false]⟩
 by_cases c3:q1.1<15
 ·simp only [go_sem,c1,c2,c3]
  refine qo (by simp only [go_sem]) (joh c hc y hy q1.2 b _ f2 f3 s1 (by simp only [go_sem]) (by simp only [go_sem,h94]) (by simp only [go_sem,h95])) fun av o' ⟨hav,o2,hk⟩=>?_
  subst hav;have k4:=hk 700000400 (by decide) (by decide)
  have kall:∀g,g<700000000→o' g=if g=89 then ku b 125 c (kJ c y q1.2).2 else o g:=fun g hg=>by
   by_cases h1:g=89
   ·subst h1;rw [o2];rfl
   ·rw [hk g (by omega) h1,if_neg h1]
    simp only [go_sem,h1,jp hg 700000300 (by omega),jp hg 700000400 (by omega),if_false]
  simp only [go_sem] at k4;simp only [go_sem];refine jb (qx (kJ c y q1.2).1.2.1 0 99) (by simp only [go_sem]) fun η=>?_
  simp only [go_sem];refine jb (qx (kJ c y q1.2).1.2.2 0 99) (by simp only [go_sem]) fun η=>?_
  simp only [go_sem];have hd:kS c y s=(⟨3,(kJ c y q1.2).1.1,plZ,brI (kJ c y q1.2).1.2.1 0 99,brI (kJ c y q1.2).1.2.2 0 99,0,0⟩,(kJ c y q1.2).2):=by simp only [kS,hq1,if_neg c1,if_neg c2,if_pos c3]
  rw [hd];simp only [go_sem,k4,kall];refine kK ?_;refine WkK.wk (s':=St.ofB [(4,Bx 700000400 b4)] [(700000400,DdR b4 26 ⟨3,(kJ c y q1.2).1.1,plZ,brI (kJ c y q1.2).1.2.1 0 99,brI (kJ c y q1.2).1.2.2 0 99,0,0⟩ vT)] 700000000 (fun j=>if j=89 then ku b 125 c (kJ c y q1.2).2 else o j)) (jR [some 700000400] (by simp only [go_sem,jk,k4,kall]<;>and_intros<;>first|rfl|assumption|trivial) (fun j hj=>by by_cases e89:j=89<;>simp only [go_sem,e89,hj,if_true,if_false,jp hj 700000400 (by omega),jp hj 700000300 (by omega),jk,k4,kall]) (by decide)) ?_
  refine WkK.of ?_;simp only [go_sem];exact ⟨vT,b4,rfl,rfl,fun g g1 g2 g3=>by simp only [g1,g3,jp g1 700000400 (by omega),if_true,if_false]⟩
 by_cases c4:q1.1=15
 ·have b4':(q1.1==15)=true:=by simp [c4]
  simp only [go_sem,c1,c2,c3,b4'];refine qo (by simp only [go_sem]) (joh c hc y hy q1.2 b _ f2 f3 s1 (by simp only [go_sem]) (by simp only [go_sem,h94]) (by simp only [go_sem,h95])) fun av o' ⟨hav,o2,hk⟩=>?_
  subst hav;have k4:=hk 700000400 (by decide) (by decide)
  have kall:∀g,g<700000000→o' g=if g=89 then ku b 125 c (kJ c y q1.2).2 else o g:=fun g hg=>by
   by_cases h1:g=89
   ·subst h1;rw [o2];rfl
   ·rw [hk g (by omega) h1,if_neg h1]
    simp only [go_sem,h1,jp hg 700000300 (by omega),jp hg 700000400 (by omega),if_false]
  simp only [go_sem] at k4;simp only [go_sem];refine jb (qx (kJ c y q1.2).1.2.1 0 99) (by simp only [go_sem]) fun η=>?_
  simp only [go_sem];refine jb (qx (kJ c y q1.2).1.2.2 0 99) (by simp only [go_sem]) fun η=>?_
  simp only [go_sem];have hd:kS c y s=(⟨4,(kJ c y q1.2).1.1,plZ,brI (kJ c y q1.2).1.2.1 0 99,brI (kJ c y q1.2).1.2.2 0 99,0,0⟩,(kJ c y q1.2).2):=by simp only [kS,hq1,if_neg c1,if_neg c2,if_neg c3,if_pos c4]
  rw [hd];simp only [go_sem,k4,kall];refine kK ?_;refine WkK.wk (s':=St.ofB [(4,Bx 700000400 b4)] [(700000400,DdR b4 26 ⟨4,(kJ c y q1.2).1.1,plZ,brI (kJ c y q1.2).1.2.1 0 99,brI (kJ c y q1.2).1.2.2 0 99,0,0⟩ vT)] 700000000 (fun j=>if j=89 then ku b 125 c (kJ c y q1.2).2 else o j)) (jR [some 700000400] (by simp only [go_sem,jk,k4,kall]<;>and_intros<;>first|rfl|assumption|trivial) (fun j hj=>by by_cases e89:j=89<;>simp only [go_sem,e89,hj,if_true,if_false,jp hj 700000400 (by omega),jp hj 700000300 (by omega),jk,k4,kall]) (by decide)) ?_
  refine WkK.of ?_;simp only [go_sem];exact ⟨vT,b4,rfl,rfl,fun g g1 g2 g3=>by simp only [g1,g3,jp g1 700000400 (by omega),if_true,if_false]⟩
 have b4':(q1.1==15)=false:=by simp [c4]
 by_cases c5:q1.1=16
 ·have b5':(q1.1==16)=true:=by simp [c5]
  have hd:kS c y s=(⟨5,0,plZ,0,0,0,0⟩,q1.2):=by simp only [kS,hq1,if_neg c1,if_neg c2,if_neg c3,if_neg c4,if_pos c5]
  rw [hd];simp only [go_sem,c1,c2,c3,b4',b5',ho];refine kK ?_;refine WkK.wk (s':=St.ofB [(4,Bx 700000400 b4)] [(700000400,DdR b4 26 ⟨5,0,plZ,0,0,0,0⟩ vT)] 700000000 (fun j=>if j=89 then ku b 125 c q1.2 else o j)) (jR [some 700000400] (by simp only [go_sem,jk,c1,c2,c3,b4',b5',ho]<;>and_intros<;>first|rfl|assumption|trivial) (fun j hj=>by by_cases e89:j=89<;>simp only [go_sem,e89,hj,if_true,if_false,jp hj 700000400 (by omega),jp hj 700000300 (by omega),jk,c1,c2,c3,b4',b5',ho]) (by decide)) ?_
  refine WkK.of ?_;simp only [go_sem];exact ⟨vT,b4,rfl,rfl,fun g g1 g2 g3=>by simp only [g1,g3,jp g1 700000400 (by omega),if_true,if_false]⟩
 have b5':(q1.1==16)=false:=by simp [c5]
 by_cases c6:q1.1=17
 ·have b6':(q1.1==17)=true:=by simp [c6]
  simp only [go_sem,c1,c2,c3,b4',b5',b6'];refine jn (jP c hc 9 q1.2 b _ s1 (by simp only [go_sem])) (by simp only [go_sem]) ?_
  have s2:=js (n:=9) s1;have x2:=jA c (n:=9) q1.2 (by omega)
  generalize hq2:jh c 9 q1.2=q2 at*;have w2:IntKind.i64.wrap (1+q2.1)=1+q2.1:=jg (by omega) (by omega)
  have hd:kS c y s=(⟨6,1+q2.1,plZ,0,0,0,0⟩,q2.2):=by simp only [kS,hq1,if_neg c1,if_neg c2,if_neg c3,if_neg c4,if_neg c5,if_pos c6,hq2]
  rw [hd];simp only [go_sem,w2,ho];refine kK ?_;refine WkK.wk (s':=St.ofB [(4,Bx 700000400 b4)] [(700000400,DdR b4 26 ⟨6,1+q2.1,plZ,0,0,0,0⟩ vT)] 700000000 (fun j=>if j=89 then ku b 125 c q2.2 else o j)) (jR [some 700000400] (by simp only [go_sem,jk,w2,ho]<;>and_intros<;>first|rfl|assumption|trivial) (fun j hj=>by by_cases e89:j=89<;>simp only [go_sem,e89,hj,if_true,if_false,jp hj 700000400 (by omega),jp hj 700000300 (by omega),jk,w2,ho]) (by decide)) ?_
  refine WkK.of ?_;simp only [go_sem];exact ⟨vT,b4,rfl,rfl,fun g g1 g2 g3=>by simp only [g1,g3,jp g1 700000400 (by omega),if_true,if_false]⟩
 have b6':(q1.1==17)=false:=by simp [c6]
 by_cases c7:q1.1=18
 ·have b7':(q1.1==18)=true:=by simp [c7]
  simp only [go_sem,c1,c2,c3,b4',b5',b6',b7'];refine jn (jP c hc 9 q1.2 b _ s1 (by simp only [go_sem])) (by simp only [go_sem]) ?_
  have s2:=js (n:=9) s1;have x2:=jA c (n:=9) q1.2 (by omega)
  generalize hq2:jh c 9 q1.2=q2 at*;have w2:IntKind.i64.wrap (1+q2.1)=1+q2.1:=jg (by omega) (by omega)
  have hd:kS c y s=(⟨7,1+q2.1,plZ,0,0,0,0⟩,q2.2):=by simp only [kS,hq1,if_neg c1,if_neg c2,if_neg c3,if_neg c4,if_neg c5,if_neg c6,if_pos c7,hq2]
  rw [hd];simp only [go_sem,w2,ho];refine kK ?_;refine WkK.wk (s':=St.ofB [(4,Bx 700000400 b4)] [(700000400,DdR b4 26 ⟨7,1+q2.1,plZ,0,0,0,0⟩ vT)] 700000000 (fun j=>if j=89 then ku b 125 c q2.2 else o j)) (jR [some 700000400] (by simp only [go_sem,jk,w2,ho]<;>and_intros<;>first|rfl|assumption|trivial) (fun j hj=>by by_cases e89:j=89<;>simp only [go_sem,e89,hj,if_true,if_false,jp hj 700000400 (by omega),jp hj 700000300 (by omega),jk,w2,ho]) (by decide)) ?_
  refine WkK.of ?_;simp only [go_sem];exact ⟨vT,b4,rfl,rfl,fun g g1 g2 g3=>by simp only [g1,g3,jp g1 700000400 (by omega),if_true,if_false]⟩
 have b7':(q1.1==18)=false:=by simp [c7]
 simp only [go_sem,c1,c2,c3,b4',b5',b6',b7'];refine jn (jgO c hc 3 q1.2 b _ s1 (by simp only [go_sem])) (by simp only [go_sem]) ?_
 have s2:=js (n:=3) s1;generalize hq2:jh c 3 q1.2=q2 at*;by_cases c8:q2.1=0
 ·have b8':(q2.1==0)=true:=by simp [c8]
  have hd:kS c y s=(⟨8,0,plZ,0,0,0,0⟩,q2.2):=by simp only [kS,hq1,if_neg c1,if_neg c2,if_neg c3,if_neg c4,if_neg c5,if_neg c6,if_neg c7,hq2,if_pos c8]
  rw [hd];simp only [go_sem,b8',ho];refine kK ?_;refine WkK.wk (s':=St.ofB [(4,Bx 700000400 b4)] [(700000400,DdR b4 26 ⟨8,0,plZ,0,0,0,0⟩ vT)] 700000000 (fun j=>if j=89 then ku b 125 c q2.2 else o j)) (jR [some 700000400] (by simp only [go_sem,jk,b8',ho]<;>and_intros<;>first|rfl|assumption|trivial) (fun j hj=>by by_cases e89:j=89<;>simp only [go_sem,e89,hj,if_true,if_false,jp hj 700000400 (by omega),jp hj 700000300 (by omega),jk,b8',ho]) (by decide)) ?_
  refine WkK.of ?_;simp only [go_sem];exact ⟨vT,b4,rfl,rfl,fun g g1 g2 g3=>by simp only [g1,g3,jp g1 700000400 (by omega),if_true,if_false]⟩
 ·have b8':(q2.1==0)=false:=by simp [c8]
  have hd:kS c y s=(⟨5,0,plZ,0,0,0,0⟩,q2.2):=by simp only [kS,hq1,if_neg c1,if_neg c2,if_neg c3,if_neg c4,if_neg c5,if_neg c6,if_neg c7,hq2,if_neg c8]
  rw [hd];simp only [go_sem,b8',ho];refine kK ?_;refine WkK.wk (s':=St.ofB [(4,Bx 700000400 b4)] [(700000400,DdR b4 26 ⟨5,0,plZ,0,0,0,0⟩ vT)] 700000000 (fun j=>if j=89 then ku b 125 c q2.2 else o j)) (jR [some 700000400] (by simp only [go_sem,jk,b8',ho]<;>and_intros<;>first|rfl|assumption|trivial) (fun j hj=>by by_cases e89:j=89<;>simp only [go_sem,e89,hj,if_true,if_false,jp hj 700000400 (by omega),jp hj 700000300 (by omega),jk,b8',ho]) (by decide)) ?_
  refine WkK.of ?_;simp only [go_sem];exact ⟨vT,b4,rfl,rfl,fun g g1 g2 g3=>by simp only [g1,g3,jp g1 700000400 (by omega),if_true,if_false]⟩
end Go.Proofs.Ytmnpailnelmpiaa
