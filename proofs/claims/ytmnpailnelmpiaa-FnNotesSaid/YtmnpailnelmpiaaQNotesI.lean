/- Parts. -/
import Derived.Test.YtmnpailnelmpiaaQDrawY
set_option linter.unusedSimpArgs false
set_option linter.unusedVariables false
set_option maxHeartbeats 8000000
set_option maxRecDepth 100000
namespace Go.Proofs.Ytmnpailnelmpiaa
def qQ:Int→List Dd→List Nt
 |_,[]=>[]
 |j,d::l=>⟨j+1,d⟩::qQ (j+1) l
theorem jas:∀(l:List Dd) (j:Int),(qQ j l).length=l.length
 |[],_=>rfl
 |d::l,j=>by simp [qQ,jas l]
theorem jrY:∀{l:List Dd} {k:Nat} {d:Dd} (j:Int),l[k]?=some d→(qQ j l)[k]?=some ⟨j+k+1,d⟩
 |[],_,_,_,h=>by simp at h
 |a::l,0,d,j,h=>by simp at h;subst h;simp [qQ]
 |a::l,k+1,d,j,h=>by
  have:=jrY (l:=l) (k:=k) (d:=d) (j+1) (by simpa using h)
  rw [qQ,List.getElem?_cons_succ,this]
  congr 2;push_cast;omega
theorem jlo:∀(l:List Dd) (d:Dd) (j:Int),qQ j (l++[d])=qQ j l++[⟨j+l.length+1,d⟩]
 |[],d,j=>by simp [qQ]
 |a::l,d,j=>by
  rw [List.cons_append,qQ,jlo l d (j+1),qQ,List.cons_append,List.length_cons]
  congr 4;push_cast;omega
noncomputable def jox (c:List UInt8) (s:Cu):List Dd×Int:=((qm c (jh c 9 s).1.toNat ([],newYd,(jh c 9 s).2)).1,(jh c 200 (qm c (jh c 9 s).1.toNat ([],newYd,(jh c 9 s).2)).2.2).1)
theorem jzT (pre:List D) (d:Dd) (rest:List D):(pre++(jf d++rest))[pre.length+6]?=some (jt d.plan.edges):=by
 rw [List.getElem?_append_right (by omega),Nat.add_sub_cancel_left];rfl
theorem jxS (pre:List D) (d:Dd) (rest:List D) (x:D):(pre++(jf d++rest)).set (pre.length+6) x=pre++((jf d).set 6 x++rest):=by
 rw [List.set_append_right _ _ (by omega),Nat.add_sub_cancel_left,List.set_append_left _ _ (by simp [jf,ja])]
theorem jji {α:Type} {l:List α} {k:Nat} {x:α} (h:l[k]?=some x):l.drop k=x::l.drop (k+1):=by
 obtain ⟨hk,rfl⟩:=List.getElem?_eq_some_iff.1 h;exact List.drop_eq_getElem_cons hk
abbrev ntH (q:Int) (d:Dd) (x:Value):List D:=.val (.int .i64 q)::[.val (.int .i64 d.kind),.val (.int .i64 d.run),.val (.int .i64 d.plan.prio),.val (.int .i64 d.plan.most),.val (.int .i64 d.plan.wait),.val (.int .i64 d.plan.tasks),jm0 (some (2,tEd)) x,.val (.int .i64 d.task),.val (.int .i64 d.tri),.val (.int .i64 d.worker),.val (.int .i64 d.draw)]
theorem jj7 (l:List Nt):(l.flatMap jE).length=l.length*12:=jG (enc:=jE) (size:=12) jhK l
theorem jzn (l:List Nt) (row:List D) (j:Nat):(l.flatMap jE++row)[l.length*12+j]?=row[j]?:=by
 rw [List.getElem?_append_right (by rw [jj7];omega),jj7,Nat.add_sub_cancel_left]
theorem jxg (l:List Nt) (row:List D) (j:Nat) (d:D):(l.flatMap jE++row).set (l.length*12+j) d=l.flatMap jE++row.set j d:=by
 rw [List.set_append_right _ _ (by rw [jj7];omega),jj7,Nat.add_sub_cancel_left]
theorem jrZ (l:List Nt) (n:Nt):D.sl 12 tNt (l.flatMap jE++jE n)=jH (l++[n]):=by simp [jH]
def jbB:C:=iS [iA 2 (.mov (.c (.slice none 0 0)))] (iS [iA 9 (iM 0),iA 10 (iM 0),iA 11 (.call 58 [.t 10,.c (.int .i64 9)]),iA 12 (.call 100 [.t 9,.t 11]),iA 8 (iM 12),iA 13 (iE 8 0),iA 14 (iE 8 1),iA 4 (.alloc 42 [.int .i64 0,.int .i64 0,.slice none 0 0,.slice none 0 0]),iA 3 (iM 13),iC (.st 4 [none,none,some (1,74),some (8,78)] (.t 4) (.t 14))] (iS [iA 15 (.bsl 28 12 0 [] []),iA 5 (iM 15)] (iS [iA 16 (iM 0),iA 17 (.call 58 [.t 16,.c (.int .i64 200)]),iA 18 (.bin .add 3 (.c (.int .i64 1)) (.t 17)),iA 6 (iM 18)] (.seq (iS [iA 7 (iN 0)] (.blk 0 (.loop (.seq (iS [iA 19 (iM 7),iA 20 (iM 3),iA 21 (iG 20),iA 22 (iP .lss 3 19 21)] (iD 22 .skip (.exit 0))) (.seq (.blk 1 (.reg [iA 25 (iM 5),iA 26 (iM 6),iA 27 (iM 7),iA 28 (iP .add 3 26 27),iA 29 (iM 3),iA 30 (iM 7),iA 31 (iI 11 29 30),iA 32 (iT 11 31),iA 33 (.bld [.int .i64 0,.int .i64 0,.int .i64 0,.int .i64 0,.int .i64 0,.int .i64 0,.int .i64 0,.slice none 0 0,.int .i64 0,.int .i64 0,.int .i64 0,.int .i64 0] [(0,1,.t 28),(1,11,.t 32)]),iA 34 (.bsl 28 12 1 [none,none,none,none,none,none,none,some (2,103),none,none,none,none] [(0,12,.t 33)]),iA 35 (.app 28 12 112 (.t 25) (.t 34)),iA 5 (iM 35)])) (.reg [iA 23 (iM 7),iA 24 (iQ .add 3 23 1),iA 7 (iM 24)])))))) (iS [iA 36 (iM 5),iA 2 (iM 36)] .ret)))))
theorem jd2:fnC Try.prog Try.f54=some (jbB,[.t 2],37):=by kernel_rfl
theorem jsn (c:List UInt8) (hc:c.length≤1048576) (s:Cu) (b:Nat) (o:Nat→Ob) (hs:s.1≤c.length) (ho:o 89=ku b 125 c s) (h86:o 86=.none) (h94:o 94=.none) (h95:o 95=.none):
 Inl Try.prog 54 [Bx 89 b] o fun av o2=>∃(e:jm),av=.c (.h 500000500 0 [] (e []))∧o2 500000500=.loose (jH (qQ (jox c s).2 (jox c s).1)) e:=by
 refine jfV (β:=5000000) [[1,1,1,1,0,1,0,0,1,0,0],[1,1,1,1,0,1,0,0,1,1]] Try.func54 jd2 (by simp) ?_
 unfold jbB;simp only [C.ghs,C.ghAt,List.foldr];simp only [go_sem];refine jn (jP c hc 9 s b _ hs (by simp only [go_sem,ho])) (by simp only [go_sem]) ?_
 have s1:=js (n:=9) hs;have x1:=jA c (n:=9) s (by omega)
 have hY:jox c s=((qm c (jh c 9 s).1.toNat ([],newYd,(jh c 9 s).2)).1,(jh c 200 (qm c (jh c 9 s).1.toNat ([],newYd,(jh c 9 s).2)).2.2).1):=rfl;generalize hq1:jh c 9 s=q1 at*;obtain ⟨m,hm⟩:∃m:Nat,q1.1=(m:Int):=⟨q1.1.toNat,by omega⟩
 rw [show q1.1.toNat=m by omega] at hY
 have hDI:=jkw (c:=c) m 0 (.start s1);simp only [go_sem,hm];refine qo (by simp only [go_sem]) (jsq c hc m (by omega) q1.2 b _ s1 (by simp only [go_sem]) (by simp only [go_sem,h86]) (by simp only [go_sem,h94]) (by simp only [go_sem,h95])) fun av o' ⟨e,e2,e3,b5,hav,hl,hy,o2,hk⟩=>?_
 subst hav;generalize hX:qm c m ([],newYd,q1.2)=X at*;simp only [go_sem,hy];intro b4 η15
 have kall:∀g,g<500000000→o' g=if g=89 then ku b 125 c X.2.2 else o g:=fun g hg=>by
  by_cases h1:g=89
  ·subst h1;rw [o2];rfl
  ·rw [hk g (by omega) h1,if_neg h1]
   simp only [go_sem,h1,if_false]
 have s2:X.2.2.1≤c.length:=hDI.at_;refine jn (jP c hc 200 X.2.2 b _ s2 (by simp only [go_sem,o2])) (by simp only [go_sem]) ?_
 have x2:=jA c (n:=200) X.2.2 (by omega)
 generalize hq2:jh c 200 X.2.2=q2 at*;have hw1:IntKind.i64.wrap (1+q2.1)=1+q2.1:=jg (by omega) (by omega)
 have hlen:X.1.length=m:=by have:=hDI.len;simpa using this
 generalize hl1:X.1=l at*;simp only [go_sem,hw1];refine jq (fun i:(Nat×List D)×jm×jm=>St.ofB [(3,Hd 500000300 i.2.1),(5,Hd 500000500 i.2.2),(6,Ni (1+q2.1)),(7,Ni i.1.1)] [(500000300,.loose (.sl 11 tDd (i.1.2++(l.drop i.1.1).flatMap jf)) i.2.1),(500000500,.loose (jH (qQ q2.1 (l.take i.1.1))) i.2.2)] 500000000 (fun j=>if j=89 then ku b 125 c q2.2 else o j)) (fun i=>i.1.1≤l.length∧i.1.2.length=i.1.1*11) (fun i=>l.length-i.1.1) ((0,[]),e,η15) (⟨Nat.zero_le _,rfl⟩) (jR [some 600000700,some 500001500] (by simp only [go_sem,hl,kall,hw1,qQ]<;>and_intros<;>first|rfl|assumption|trivial) (fun j hj=>by by_cases e89:j=89<;>simp only [go_sem,e89,hj,if_true,if_false,jp hj 600000700 (by omega),jp hj 500001500 (by omega),jp hj 500000400 (by omega),jp hj 600000500 (by omega),hl,kall,hw1,qQ]) (by decide)) ?_
 rintro ⟨⟨i,pre⟩,eL,eO⟩ ⟨hi,hpre⟩;dsimp only at hi hpre;by_cases hlt:i<l.length;rotate_left
 ·have hlt':¬(i:Int)<(l.length:Int):=by omega
  have hf:i=l.length:=by omega
  have hlenD:(D.sl 11 tDd (pre++(l.drop i).flatMap jf)).len=l.length:=by
   simp only [D.len,D.cells,D.size,hf,List.drop_length,List.flatMap_nil,List.append_nil,hpre];omega
  simp only [go_sem,hlenD,hlt'];refine ⟨eO,rfl,?_⟩;rw [hY,hf,List.take_length]
 have hlt':(i:Int)<(l.length:Int):=by omega
 obtain ⟨d,hd⟩:=je hlt
 have hdrop:(l.drop i).flatMap jf=jf d++(l.drop (i+1)).flatMap jf:=by
  rw [jji hd,List.flatMap_cons]
 have hw2:IntKind.i64.wrap ((i:Int)+1)=((i+1:Nat):Int):=jg (by omega) (by omega)
 have hw3:IntKind.i64.wrap (1+q2.1+(i:Int))=1+q2.1+(i:Int):=jg (by omega) (by omega)
 have hlenR:((l.drop (i+1)).flatMap jf).length=(l.length-(i+1))*11:=by rw [jhL,List.length_drop]
 rw [hdrop];generalize hrest:(l.drop (i+1)).flatMap jf=rest at*
 have hlenD:(D.sl 11 tDd (pre++(jf d++rest))).len=l.length:=by
  simp only [D.len,D.cells,D.size,List.length_append,hpre,hlenR,jlY];omega
 simp only [go_sem,hlenD,hlt'];refine kK ?_;refine jgY 500000300 0 (pre.length+6) 500090100 (η:=eL) (sz:=11) (tyo:=tDd) (cs:=d.plan.edges.flatMap jW) (by simp only [go_sem]) (jzT pre d rest) (by simp only [go_sem]) (by decide) fun ed eL2 h1 h2 h3=>?_
 rw [jxS,←h2];rw [←h2] at h3;generalize hrow:(jf d).set 6 (D.val (ed []))=row at*;have hrl:row.length=11:=by rw [←hrow,List.length_set,jlY]
 have hrE:row=[.val (.int .i64 d.kind),.val (.int .i64 d.run),.val (.int .i64 d.plan.prio),.val (.int .i64 d.plan.most),.val (.int .i64 d.plan.wait),.val (.int .i64 d.plan.tasks),.val (ed []),.val (.int .i64 d.task),.val (.int .i64 d.tri),.val (.int .i64 d.worker),.val (.int .i64 d.draw)]:=by rw [←hrow];rfl
 have hat:((pre++(row++rest)).drop (i*11)).take 11=row:=by
  rw [←hpre,List.drop_left,←hrl,List.take_left]
 have hat:=hat.trans hrE;have hin:i*11+11≤(pre++(row++rest)).length:=by simp only [List.length_append];omega
 have hlenD2:(D.sl 11 tDd (pre++(row++rest))).len=l.length:=by
  simp only [D.len,D.cells,D.size,List.length_append,hpre,hlenR,hrl];omega
 refine WkK.wk (s':=St.ofB [(3,Hd 500000300 eL2),(5,Hd 500000500 eO),(6,Ni (1+q2.1)),(7,Ni i)] [(500000300,.loose (.sl 11 tDd (pre++(row++rest))) eL2),(500000500,.loose (jH (qQ q2.1 (l.take i))) eO),(500090100,.loose (jt d.plan.edges) ed)] 500000000 (fun j=>if j=89 then ku b 125 c q2.2 else o j)) (jR [some 500000300,some 500000500,some 500090100] (by simp only [go_sem,h1]<;>and_intros<;>first|rfl|assumption|trivial) (fun j hj=>by by_cases e89:j=89<;>simp only [go_sem,e89,hj,if_true,if_false,jp hj 500000300 (by omega),jp hj 500000500 (by omega),jp hj 500090100 (by omega),h1]) (by decide)) ?_
 refine WkK.of ?_;have hm1:(qQ q2.1 (l.take i)).length+1≤maxLen:=by rw [jas,List.length_take];unfold maxLen;omega
 have hm2:((qQ q2.1 (l.take i)).length+1)*112≤140737488355328:=by rw [jas,List.length_take];omega
 have h0i:(i:Int)≥0:=by omega
 simp only [go_sem,hw3,hlt,hlt',h0i,hlenD2,hat,hin,Nat.add_zero,h3];intro η34;generalize hN:qQ q2.1 (l.take i)=N at*;refine jnq (fun ηR=>St.ofB [(3,Hd 500000300 eL2),(5,Hd 500000500 ηR),(6,Ni (1+q2.1)),(7,Ni i)] [(500000300,.loose (.sl 11 tDd (pre++(row++rest))) eL2),(500000500,.loose (.sl 12 tNt (N.flatMap jE++ntH (1+q2.1+(i:Int)) d (ed []))) ηR),(500090100,.loose (jt d.plan.edges) ed)] 500000000 (fun j=>if j=89 then ku b 125 c q2.2 else o j)) hm1 hm2 ?_ (fun ηR=>(jR [some 500000300,some 500003500,some 500090100] (by simp only [go_sem]<;>and_intros<;>first|rfl|assumption|trivial) (fun j hj=>by by_cases e89:j=89<;>simp only [go_sem,e89,hj,if_true,if_false,jp hj 500000300 (by omega),jp hj 500000500 (by omega),jp hj 500003400 (by omega),jp hj 500003500 (by omega),jp hj 500090100 (by omega)]) (by decide))) (fun ηR=>(jR [some 500000300,some 500003500,some 500090100] (by simp only [go_sem]<;>and_intros<;>first|rfl|assumption|trivial) (fun j hj=>by by_cases e89:j=89<;>simp only [go_sem,e89,hj,if_true,if_false,jp hj 500000300 (by omega),jp hj 500000500 (by omega),jp hj 500003400 (by omega),jp hj 500003500 (by omega),jp hj 500090100 (by omega)]) (by decide))) ?_
 ·simp only [jj6 _ h3,jiy];rfl
 intro ηR;refine vA 500000500 0 (N.length*12+7) 500090100 (η:=ηR) (η2:=ed) (cs:=d.plan.edges.flatMap jW) rfl (jzn _ _ 7) (.inr rfl) rfl (by decide) fun ηA hηA=>?_
 rw [jxg];refine WkK.of ?_
 have hN2:qQ q2.1 (l.take (i+1))=N++[⟨1+q2.1+(i:Int),d⟩]:=by
  rw [List.take_add_one,hd,Option.toList_some,jlo,hN,List.length_take,Nat.min_eq_left (by omega)]
  congr 3;omega
 have hsn:D.sl 12 tNt (N.flatMap jE++(ntH (1+q2.1+(i:Int)) d (ed [])).set 7 (.sl 2 tEd (d.plan.edges.flatMap jW)))=jH (qQ q2.1 (l.take (i+1))):=by
  rw [hN2];exact jrZ N ⟨1+q2.1+(i:Int),d⟩
 simp only [go_sem,hw2];exact ⟨((i+1,pre++row),eL2,ηA),⟨by dsimp only;omega,by dsimp only;rw [List.length_append,hpre,hrl];omega⟩,(jR [some 500000300,some 500000500] (by simp only [go_sem,hw2,hsn,hηA,hrest,List.append_assoc]<;>and_intros<;>first|rfl|assumption|trivial) (fun j hj=>by by_cases e89:j=89<;>simp only [go_sem,e89,hj,if_true,if_false,jp hj 500000300 (by omega),jp hj 500000500 (by omega),jp hj 500090100 (by omega),hw2,hsn,hηA,hrest,List.append_assoc]) (by decide)),by (try dsimp only);omega⟩
noncomputable def dN (c:List UInt8):List Dd×Int:=jox c (jjk c)
def jaV:C:=iS [iA 2 (.mov (.c (.slice none 0 0)))] (iS [iA 3 (iM 0),iA 4 (.call 55 [.t 3]),iA 5 (.call 54 [.t 4]),iA 2 (iM 5)] .ret)
theorem jdo:fnC Try.prog Try.f23=some (jaV,[.t 2],6):=by kernel_rfl
theorem jgd (c:List UInt8) (hc:c.length≤1048576):kl Try.prog 23 [.c (zi c)] (.c (jH (qQ (dN c).2 (dN c).1))):=by
 refine jr Try.func23 jdo (by simp) ?_
 unfold jaV;simp only [go_sem];have hro:(zi c).toRo=.ro (zi c):=rfl;rw [hro];refine qo (by simp only [go_sem]) (jso c hc _) fun av o' ⟨b,hav,ho,hk⟩=>?_
 subst hav;refine zc [some 800003100] [(89,ku b 125 c (jjk c))] [Bx 89 b] (by simp only [go_sem]<;>and_intros<;>rfl) (by simp only [go_sem]<;>and_intros<;>first|rfl|(rw [ho];exact of_eq_true (kO _))) (jsn c hc (jjk c) b _ (Nat.zero_le _) rfl rfl rfl rfl) ?_
 rintro av o2 ⟨e,hav,ho2⟩;subst hav;change o2 500000500=.loose (jH (qQ (dN c).2 (dN c).1)) e at ho2;generalize qQ (dN c).2 (dN c).1=N at*;simp only [go_sem,ho2]
theorem jgc (t:ByteArray) (ht:t.size≤1048576):kl Try.prog 7 [.c (.val (.string t))] (.tup [(true,jE (qp t).1),(false,[.val (.bool (qp t).2)])]):=by
 rw [←jul];exact jhl t ht
theorem vJ (t:ByteArray) (ht:t.size≤1048576):kl Try.prog 8 [.c (.val (.string t))] (.tup [(true,jE (qp t).1),(false,[.val (.bool (qp t).2)])]):=by
 rw [←jnS];exact jhq t ht
theorem jus {t:ByteArray} (h:(qp t).2=true):jV (qp t).1=t∧t.size≠0:=by
 unfold qp at h⊢;split
 ·rename_i hx;exact hx.choose_spec
 ·rename_i hx;rw [dif_neg hx] at h;cases h
theorem jhs {t:ByteArray} (h:(qp t).2=true):0≤(qp t).1.seq∧(qp t).1.seq≤1000000000∧zC (qp t).1≤31:=by
 obtain ⟨h1,h2⟩:=jus h;obtain ⟨h3,h4,-⟩:=jj8 h1 h2;have h5:=h4 (qp t).1.seq (by simp [jat])
 refine ⟨h5.1,h5.2,?_⟩;generalize (qp t).1=n at*;have hd:=h3;unfold jF at hd;simp only [zC,ja1,jeK];split at hd
 ·simp only [jcc,Bool.and_eq_true,decide_eq_true_eq] at hd;omega
 ·have hno:qd n.deed.plan=true→n.deed.plan.edges.length=0:=fun hp=>by
   simp only [qd,Bool.and_eq_true,beq_iff_eq] at hp;omega
  have:qd n.deed.plan=true:=by
   repeat' split at hd
   all_goals first|(simp only [Bool.and_eq_true] at hd;exact hd.2)|cases hd
  have:=hno this;omega
def jhF (l:List Nt) (n:Nt):Bool:=match l.getLast? with
 |none=>true
 |some m=>n.seq==m.seq+1
noncomputable def jbr:List ByteArray→List Nt×Nat→List Nt×Nat
 |[],x=>x
 |b::l,x=>if (qp b).2=false∨jhF x.1 (qp b).1=false then x else jbr l (x.1++[(qp b).1],x.2+(jO b).size)
noncomputable def jbq (t:ByteArray):List Nt×Nat:=jbr (jal t).1 ([],0)
structure NiTo (bs:List ByteArray) (k:Nat) (l:List Nt) (z:Nat):Prop where
 le:k≤bs.length
 len:l.length=k
 sz:z≤409*k
 ok:∀n∈l,0≤n.seq∧n.seq≤1000000000∧zC n≤31
 eq:jbr bs ([],0)=jbr (bs.drop k) (l,z)
theorem NiTo.start (bs:List ByteArray):NiTo bs 0 [] 0:=⟨Nat.zero_le _,rfl,Nat.le_refl _,by simp,rfl⟩
theorem NiTo.next {bs:List ByteArray} {k z:Nat} {l:List Nt} {b:ByteArray} (h:NiTo bs k l z) (hb:bs[k]?=some b) (h1:(qp b).2=true) (h2:jhF l (qp b).1=true):NiTo bs (k+1) (l++[(qp b).1]) (z+(jO b).size):=by
 have hk:=(List.getElem?_eq_some_iff.1 hb).1
 have hd:bs.drop k=b::bs.drop (k+1):=by
  obtain ⟨hk,rfl⟩:=List.getElem?_eq_some_iff.1 hb;exact List.drop_eq_getElem_cons hk
 have hf:=zY b;refine ⟨hk,by simp [h.len],by have:=h.sz;omega,fun n hn=>?_,?_⟩
 ·rcases List.mem_append.1 hn with hn|hn
  ·exact h.ok n hn
  ·simp at hn;subst hn;exact jhs h1
 ·rw [h.eq,hd,jbr,if_neg]
  rw [h1,h2];simp
theorem NiTo.stop {bs:List ByteArray} {k z:Nat} {l:List Nt} {b:ByteArray} (h:NiTo bs k l z) (hb:bs[k]?=some b) (h1:(qp b).2=false∨jhF l (qp b).1=false):jbr bs ([],0)=(l,z):=by
 have hd:bs.drop k=b::bs.drop (k+1):=by
  obtain ⟨hk,rfl⟩:=List.getElem?_eq_some_iff.1 hb;exact List.drop_eq_getElem_cons hk
 rw [h.eq,hd,jbr,if_pos h1]
theorem NiTo.done {bs:List ByteArray} {k z:Nat} {l:List Nt} (h:NiTo bs k l z) (hk:¬k<bs.length):jbr bs ([],0)=(l,z):=by
 rw [h.eq,List.drop_eq_nil_of_le (by omega)];rfl
theorem jk7 (t:ByteArray) (ht:t.size≤1048576):(∀b∈(jal t).1,1≤b.size∧b.size≤400)∧(jal t).1.length≤12000:=by
 unfold jal;split
 ·simp
 ·have key:∀(f k:Nat) (l:List ByteArray),ScTo t k l→t.size-k<f→∃k',ScTo t k' (jc7 t f k l).1:=by
   intro f
   induction f with
   |zero=>intro k l _ h;omega
   |succ f ih=>
    intro k l h hf;rw [jc7];split
    ·exact ⟨k,h⟩
    ·rename_i hn
     obtain ⟨h1,h2⟩:=h.next hn;exact ih _ _ h2 (by have:=h2.le;omega)
  obtain ⟨k',h⟩:=key (t.size+1) 0 [] (.start t) (by omega)
  refine ⟨h.szs,?_⟩;have:=h.len;have:=h.le;omega
theorem jeU (l:List Nt) (n:Nt):D.sl 12 tNt (l.flatMap jE++[.val (.int .i64 n.seq),.val (.int .i64 n.deed.kind),.val (.int .i64 n.deed.run),.val (.int .i64 n.deed.plan.prio),.val (.int .i64 n.deed.plan.most),.val (.int .i64 n.deed.plan.wait),.val (.int .i64 n.deed.plan.tasks),jt n.deed.plan.edges,.val (.int .i64 n.deed.task),.val (.int .i64 n.deed.tri),.val (.int .i64 n.deed.worker),.val (.int .i64 n.deed.draw)])=jH (l++[n]):=jqn l n
theorem jfG {l:List ByteArray} {k:Nat} {b:ByteArray} (h:l[k]?=some b):((l.flatMap fun b=>[D.val (.string b)]).drop k).take 1=[D.val (.string b)]:=by
 have:=qs (enc:=fun b=>[D.val (.string b)]) (size:=1) (fun _=>rfl) h (j:=0) (n:=1) (by decide)
 simpa using this
theorem jeX {l:List ByteArray} {k:Nat} {b:ByteArray} (h:l[k]?=some b):k+1≤(l.flatMap fun b=>[D.val (.string b)]).length:=by
 have:=qr (enc:=fun b=>[D.val (.string b)]) (size:=1) (fun _=>rfl) h (j:=0) (n:=1) (by decide)
 simpa using this
theorem joH {l:List Nt} {k:Nat} {m:Nt} (h:l[k]?=some m):((l.flatMap jE).drop (k*12)).take 1=[.val (.int .i64 m.seq)]:=qs (enc:=jE) (size:=12) (fun _=>rfl) h (j:=0) (n:=1) (by decide)
theorem joi {l:List Nt} {k:Nat} {m:Nt} (h:l[k]?=some m):k*12+1≤(l.flatMap jE).length:=qr (enc:=jE) (size:=12) (fun _=>rfl) h (j:=0) (n:=1) (by decide)
theorem jv0 {l:List Nt} {k:Nat} {m:Nt} (hl:l.length=k+1) (h:l[k]?=some m) (n:Nt):jhF l n=(n.seq==m.seq+1):=by
 have:l.getLast?=some m:=by rw [List.getLast?_eq_getElem?,hl];exact h
 simp only [jhF,this]
def jc1:C:=iS [iA 2 (.mov (.c (.slice none 0 0))),iA 3 (iN 0)] (iS [iA 4 (.mov (.c (.slice none 0 0)))] (iS [iA 13 (iM 0),iA 14 (.call 39 [.t 13]),iA 12 (iM 14),iA 15 (iE 12 0),iA 16 (iE 12 1),iA 5 (iM 15),iA 6 (iM 16)] (iS [iA 7 (iN 0)] (.seq (iS [iA 17 (iM 5),iA 18 (iG 17),iA 19 (iN 0)] (.blk 0 (.loop (iS [iA 20 (iP .lss 3 19 18)] (.seq (iD 20 .skip (.exit 0)) (.seq (.blk 1 (iS [iA 21 (iI 1 17 19),iA 22 (iL 21),iA 9 (iM 22)] (iS [iA 24 (iM 9),iA 25 (.call 8 [.t 24]),iA 23 (iM 25),iA 26 (iE 23 0),iA 27 (iE 23 1),iA 10 (.alloc 28 [.int .i64 0,.int .i64 0,.int .i64 0,.int .i64 0,.int .i64 0,.int .i64 0,.int .i64 0,.slice none 0 0,.int .i64 0,.int .i64 0,.int .i64 0,.int .i64 0]),iC (.st 12 [none,none,none,none,none,none,none,some (2,103),none,none,none,none] (.t 10) (.t 26)),iA 11 (iM 27)] (.seq (.seq (.dreg (T.pure 0 (iA 28 (iM 11)) (T.pure 1 (iA 29 (iU 28)) (T.pure 2 (iA 30 (iM 29)) (T.pure 3 (iB 31 30 false (iM 4)) (T.pure 4 (iB 32 30 false (iG 31)) (T.pure 5 (iB 33 30 false (iQ .gtr 3 32 0)) (T.pure 6 (iB 34 30 false (iM 33)) (T.pure 7 (iB 35 34 true (iF 0 10)) (T.pure 8 (iB 36 34 true (iL 35)) (T.pure 9 (iB 37 34 true (iM 4)) (T.pure 10 (iB 38 34 true (iM 4)) (T.pure 11 (iB 39 34 true (iG 38)) (T.pure 12 (iB 40 34 true (iQ .sub 3 39 1)) (T.pure 13 (iB 41 34 true (iI 12 37 40)) (T.pure 14 (iB 42 34 true (iF 0 41)) (T.pure 15 (iB 43 34 true (iL 42)) (T.pure 16 (iB 44 34 true (iQ .add 3 43 1)) (T.pure 17 (iB 45 34 true (iP .neq 3 36 44)) (T.pure 18 (iB 46 30 false (.pick (.t 34) (.t 45) (.c (.bool false)))) (T.pure 19 (iA 47 (.pick (.t 30) (.c (.bool true)) (.t 46))) T.done))))))))))))))))))))) (iD 47 (.exit 0) .skip)) (iS [iA 48 (iM 4),iA 49 (iT 12 10),iA 50 (.bsl 28 12 1 [none,none,none,none,none,none,none,some (2,103),none,none,none,none] [(0,12,.t 49)]),iA 51 (.app 28 12 112 (.t 48) (.t 50)),iA 4 (iM 51)] (.reg [iA 52 (iM 7),iA 53 (iM 9),iA 54 (.call 40 [.t 53]),iA 55 (.len true (.t 54)),iA 56 (iP .add 3 52 55),iA 7 (iM 56)])))))) (.reg [iA 57 (iQ .add 3 19 1),iA 19 (iM 57)]))))))) (iS [iA 58 (iM 4),iA 59 (iM 7),iA 2 (iM 58),iA 3 (iM 59)] .ret)))))
theorem jfz:fnC Try.prog Try.f13=some (jc1,[.t 2,.t 3],60):=by kernel_rfl
def jcV:C:=iS [iA 2 (.mov (.c (.slice none 0 0))),iA 3 (iN 0)] (iS [iA 11 (.bsl 28 12 0 [] []),iA 4 (iM 11)] (iS [iA 13 (iM 0),iA 14 (.call 37 [.t 13]),iA 12 (iM 14),iA 15 (iE 12 0),iA 16 (iE 12 1),iA 5 (iM 15),iA 6 (iM 16)] (iS [iA 7 (iN 0)] (.seq (iS [iA 8 (iN 0)] (.blk 0 (.loop (.seq (iS [iA 17 (iM 8),iA 18 (iM 5),iA 19 (iG 18),iA 20 (iP .lss 3 17 19)] (iD 20 .skip (.exit 0))) (.seq (.blk 1 (iS [iA 24 (iM 5),iA 25 (iM 8),iA 26 (iI 1 24 25),iA 27 (iL 26),iA 28 (.call 7 [.t 27]),iA 23 (iM 28),iA 29 (iE 23 0),iA 30 (iE 23 1),iA 9 (.alloc 28 [.int .i64 0,.int .i64 0,.int .i64 0,.int .i64 0,.int .i64 0,.int .i64 0,.int .i64 0,.slice none 0 0,.int .i64 0,.int .i64 0,.int .i64 0,.int .i64 0]),iC (.st 12 [none,none,none,none,none,none,none,some (2,103),none,none,none,none] (.t 9) (.t 29)),iA 10 (iM 30)] (.seq (.seq (.dreg (T.pure 0 (iA 31 (iM 10)) (T.pure 1 (iA 32 (iU 31)) (T.pure 2 (iA 33 (iM 32)) (T.pure 3 (iB 34 33 false (iM 8)) (T.pure 4 (iB 35 33 false (iQ .gtr 3 34 0)) (T.pure 5 (iB 36 33 false (iM 35)) (T.pure 6 (iB 37 36 true (iF 0 9)) (T.pure 7 (iB 38 36 true (iL 37)) (T.pure 8 (iB 39 36 true (iM 4)) (T.pure 9 (iB 40 36 true (iM 8)) (T.pure 10 (iB 41 36 true (iQ .sub 3 40 1)) (T.pure 11 (iB 42 36 true (iI 12 39 41)) (T.pure 12 (iB 43 36 true (iF 0 42)) (T.pure 13 (iB 44 36 true (iL 43)) (T.pure 14 (iB 45 36 true (iQ .add 3 44 1)) (T.pure 15 (iB 46 36 true (iP .neq 3 38 45)) (T.pure 16 (iB 47 33 false (.pick (.t 36) (.t 46) (.c (.bool false)))) (T.pure 17 (iA 48 (.pick (.t 33) (.c (.bool true)) (.t 47))) T.done))))))))))))))))))) (iD 48 (.exit 0) .skip)) (iS [iA 49 (iM 4),iA 50 (iT 12 9),iA 51 (.bsl 28 12 1 [none,none,none,none,none,none,none,some (2,103),none,none,none,none] [(0,12,.t 50)]),iA 52 (.app 28 12 112 (.t 49) (.t 51)),iA 4 (iM 52)] (.reg [iA 53 (iM 7),iA 54 (iM 5),iA 55 (iM 8),iA 56 (iI 1 54 55),iA 57 (iL 56),iA 58 (.call 38 [.t 57]),iA 59 (.len true (.t 58)),iA 60 (iP .add 3 53 59),iA 7 (iM 60)]))))) (.reg [iA 21 (iM 8),iA 22 (iQ .add 3 21 1),iA 8 (iM 22)])))))) (iS [iA 61 (iM 4),iA 62 (iM 7),iA 2 (iM 61),iA 3 (iM 62)] .ret)))))
theorem jft:fnC Try.prog Try.f12=some (jcV,[.t 2,.t 3],63):=by kernel_rfl
theorem jtH (t:ByteArray) (ht:t.size≤1048576):kl Try.prog 12 [.c (.val (.string t))] (.tup [(false,[jH (jbq t).1]),(false,[.val (.int .i64 ((jbq t).2:Nat))])]):=by
 refine jr Try.func12 jft (by simp) ?_
 unfold jcV;obtain ⟨hsz,hcl⟩:=jk7 t ht;unfold jbq;simp only [go_sem];intro η11;refine jb (jjU t ht) (by simp only [go_sem]) fun η14=>?_
 simp only [go_sem];generalize (jal t).1=bs at*;refine jq (fun i:(List Nt×Nat×Nat)×jm=>St.of [(4,Hd 4 i.2),(5,Hd 5 (η14 0)),(7,Ni i.1.2.2),(8,Ni i.1.2.1)] [(4,.loose (jH i.1.1) i.2),(5,.loose (kh bs) (η14 0))]) (fun i=>NiTo bs i.1.2.1 i.1.1 i.1.2.2) (fun i=>bs.length-i.1.2.1) (([],0,0),η11) (NiTo.start bs) (jl [some 1100,some 1400] (by simp only [go_sem,ji8]<;>and_intros<;>first|rfl|assumption|trivial)) ?_
 rintro ⟨⟨l,k,z⟩,η⟩ hi;dsimp only at hi;by_cases hlt:k<bs.length;rotate_left
 ·have hlt':¬(k:Int)<bs.length:=by omega
  rw [hi.done hlt];simp only [go_sem,hlt'];exact jbj (g:=4) (c:=0) (d:=jH l) (η:=η) (x:=η []) (by simp only [go_sem]) (by simp only [go_sem]) rfl (by simp only [go_sem])
 have hlt':(k:Int)<bs.length:=by omega
 obtain ⟨b,hb⟩:=je hlt;have hbz:=hsz b (List.mem_of_getElem? hb);have hw:IntKind.i64.wrap ((k:Int)+1)=((k+1:Nat):Int):=jg (by omega) (by omega)
 have hlen:=hi.len;have hzz:=hi.sz;have hfz:=zY b;have hwz:IntKind.i64.wrap ((z:Int)+((jO b).size:Int))=((z+(jO b).size:Nat):Int):=jg (by omega) (by omega)
 have hm1:k+1≤maxLen:=by unfold maxLen;omega
 have hm2:(k+1)*112≤140737488355328:=by omega
 have hk0:(k:Int)≥0:=by omega
 simp only [go_sem,hlt',hlt,hk0,Nat.mul_one,jfG hb,jeX hb];refine jb (jgc b (by omega)) (by simp only [go_sem,jE,jf,ja]) fun ηn=>?_
 simp only [go_sem,jE,jf,ja];intro b9;cases hok:(qp b).2
 ·rw [hi.stop hb (.inl hok)]
  simp only [go_sem,hok];exact jbj (g:=4) (c:=0) (d:=jH l) (η:=η) (x:=η []) (by simp only [go_sem]) (by simp only [go_sem]) rfl (by simp only [go_sem])
 have hnx:=fun h=>hi.next hb hok h
 have hst:=fun h=>hi.stop hb (.inr h)
 have hsq:=jhs hok;generalize (qp b).1=n at*;rcases k with _|k
 ·obtain rfl:l=[]:=List.eq_nil_of_length_eq_zero hlen
  have h00:¬((0:Nat):Int)>0:=by omega
  have hb0:((bs.flatMap fun b=>[D.val (.string b)]).take 1)=[D.val (.string b)]:=by simpa using jfG hb
  have hb1:1≤(bs.flatMap fun b=>[D.val (.string b)]).length:=by simpa using jeX hb
  have hsn:=jeU [] n;rw [List.flatMap_nil,List.nil_append] at hsn;simp only [go_sem,hok,h00,List.flatMap_nil,List.length_nil,hm1,hm2,hlt,hb0,hb1,hsn];intro η1 η2;refine jb (jcs b) (by simp only [go_sem]) fun η=>?_
  simp only [go_sem];simp only [go_sem,hw,hwz];exact ⟨(([]++[n],0+1,z+(jO b).size),η2),hnx rfl,(jl [some 5200,some 5] (by simp only [go_sem,jeU,hw,hwz]<;>and_intros<;>first|rfl|assumption|trivial)),by (try dsimp only);omega⟩
 ·obtain ⟨m,hm⟩:=je (show k<l.length by omega)
  have hfo:=jv0 hlen hm n;have hms:=hi.ok m (List.mem_of_getElem? hm);have hkp:(((k+1:Nat):Int))>0:=by omega
  have hw1:IntKind.i64.wrap (((k+1:Nat):Int)-1)=(k:Int):=by rw [jg (by omega) (by omega)];omega
  have hk1:(k:Int)≥0:=by omega
  have hkl:k<l.length:=by omega
  have hwq:IntKind.i64.wrap (m.seq+1)=m.seq+1:=jg (by omega) (by omega)
  cases hf:n.seq !=m.seq+1
  ·have hf2:jhF l n=true:=by rw [hfo];simpa using hf
   simp only [go_sem,hok,hkp,hw1,hk1,hkl,Nat.add_zero,joH hm,joi hm,hwq,hf,hlen,hm1,hm2,hlt,hk0,Nat.mul_one,jfG hb,jeX hb];intro η1 η2;refine jb (jcs b) (by simp only [go_sem]) fun η=>?_
   simp only [go_sem];simp only [go_sem,hw,hwz];exact ⟨((l++[n],k+1+1,z+(jO b).size),η2),hnx hf2,(jl [some 5200,some 5] (by simp only [go_sem,jeU,hw,hwz]<;>and_intros<;>first|rfl|assumption|trivial)),by (try dsimp only);omega⟩
  ·have hf2:jhF l n=false:=by rw [hfo];simpa using hf
   rw [hst hf2];simp only [go_sem,hok,hlen,hkp,hw1,hk1,hkl,Nat.lt_add_one,Nat.add_zero,joH hm,joi hm,hwq,hf];exact jbj (g:=4) (c:=0) (d:=jH l) (η:=η) (x:=η []) (by simp only [go_sem]) (by simp only [go_sem]) rfl (by simp only [go_sem])
theorem jct (t:ByteArray) (ht:t.size≤1048576):kl Try.prog 13 [.c (.val (.string t))] (.tup [(false,[jH (jbq t).1]),(false,[.val (.int .i64 ((jbq t).2:Nat))])]):=by
 refine jr Try.func13 jfz (by simp) ?_
 unfold jc1;obtain ⟨hsz,hcl⟩:=jk7 t ht;unfold jbq;simp only [go_sem];refine jb (jj2 t ht) (by simp only [go_sem]) fun η14=>?_
 simp only [go_sem];generalize (jal t).1=bs at*;refine jq (fun i:(List Nt×Nat×Nat)×jm=>St.of [(4,Hd 4 i.2),(7,Ni i.1.2.2),(17,Hd 17 (η14 0)),(18,Ni bs.length),(19,Ni i.1.2.1)] [(4,.loose (jH i.1.1) i.2),(17,.loose (kh bs) (η14 0))]) (fun i=>NiTo bs i.1.2.1 i.1.1 i.1.2.2) (fun i=>bs.length-i.1.2.1) (([],0,0),vT) (NiTo.start bs) (jl [none,some 1400] (by simp only [go_sem,ji8]<;>and_intros<;>first|rfl|assumption|trivial)) ?_
 rintro ⟨⟨l,k,z⟩,η⟩ hi;dsimp only at hi;by_cases hlt:k<bs.length;rotate_left
 ·have hlt':¬(k:Int)<bs.length:=by omega
  rw [hi.done hlt];simp only [go_sem,hlt'];exact jbj (g:=4) (c:=0) (d:=jH l) (η:=η) (x:=η []) (by simp only [go_sem]) (by simp only [go_sem]) rfl (by simp only [go_sem])
 have hlt':(k:Int)<bs.length:=by omega
 obtain ⟨b,hb⟩:=je hlt;have hbz:=hsz b (List.mem_of_getElem? hb);have hw:IntKind.i64.wrap ((k:Int)+1)=((k+1:Nat):Int):=jg (by omega) (by omega)
 have hlen:=hi.len;have hzz:=hi.sz;have hfz:=zY b;have hwz:IntKind.i64.wrap ((z:Int)+((jO b).size:Int))=((z+(jO b).size:Nat):Int):=jg (by omega) (by omega)
 have hm1:k+1≤maxLen:=by unfold maxLen;omega
 have hm2:(k+1)*112≤140737488355328:=by omega
 have hk0:(k:Int)≥0:=by omega
 simp only [go_sem,hlt',hlt,hk0,Nat.mul_one,jfG hb,jeX hb];refine jb (vJ b (by omega)) (by simp only [go_sem,jE,jf,ja]) fun ηn=>?_
 simp only [go_sem,jE,jf,ja];intro b10;cases hok:(qp b).2
 ·rw [hi.stop hb (.inl hok)]
  simp only [go_sem,hok];exact jbj (g:=4) (c:=0) (d:=jH l) (η:=η) (x:=η []) (by simp only [go_sem]) (by simp only [go_sem]) rfl (by simp only [go_sem])
 have hnx:=fun h=>hi.next hb hok h
 have hst:=fun h=>hi.stop hb (.inr h)
 have hsq:=jhs hok;generalize (qp b).1=n at*;rcases k with _|k
 ·obtain rfl:l=[]:=List.eq_nil_of_length_eq_zero hlen
  have h00:¬((0:Nat):Int)>0:=by omega
  have hb0:((bs.flatMap fun b=>[D.val (.string b)]).take 1)=[D.val (.string b)]:=by simpa using jfG hb
  have hb1:1≤(bs.flatMap fun b=>[D.val (.string b)]).length:=by simpa using jeX hb
  have hsn:=jeU [] n;rw [List.flatMap_nil,List.nil_append] at hsn;simp only [go_sem,hok,h00,List.flatMap_nil,List.length_nil,hm1,hm2,hlt,hb0,hb1,hsn];intro η1 η2;refine jb (zE b (by omega)) (by simp only [go_sem]) fun η=>?_
  simp only [go_sem];simp only [go_sem,hw,hwz];exact ⟨(([]++[n],0+1,z+(jO b).size),η2),hnx rfl,(jl [some 5100,some 17] (by simp only [go_sem,jeU,hw,hwz]<;>and_intros<;>first|rfl|assumption|trivial)),by (try dsimp only);omega⟩
 ·obtain ⟨m,hm⟩:=je (show k<l.length by omega)
  have hfo:=jv0 hlen hm n;have hms:=hi.ok m (List.mem_of_getElem? hm);have hkp:(((k+1:Nat):Int))>0:=by omega
  have hw1:IntKind.i64.wrap (((k+1:Nat):Int)-1)=(k:Int):=by rw [jg (by omega) (by omega)];omega
  have hk1:(k:Int)≥0:=by omega
  have hkl:k<l.length:=by omega
  have hwq:IntKind.i64.wrap (m.seq+1)=m.seq+1:=jg (by omega) (by omega)
  cases hf:n.seq !=m.seq+1
  ·have hf2:jhF l n=true:=by rw [hfo];simpa using hf
   simp only [go_sem,hok,hkp,hw1,hk1,hkl,Nat.add_zero,joH hm,joi hm,hwq,hf,hlen,hm1,hm2,hlt,hk0,Nat.mul_one,jfG hb,jeX hb];intro η1 η2;refine jb (zE b (by omega)) (by simp only [go_sem]) fun η=>?_
   simp only [go_sem];simp only [go_sem,hw,hwz];exact ⟨((l++[n],k+1+1,z+(jO b).size),η2),hnx hf2,(jl [some 5100,some 17] (by simp only [go_sem,jeU,hw,hwz]<;>and_intros<;>first|rfl|assumption|trivial)),by (try dsimp only);omega⟩
  ·have hf2:jhF l n=false:=by rw [hfo];simpa using hf
   rw [hst hf2];simp only [go_sem,hok,hlen,hkp,hw1,hk1,hkl,Nat.lt_add_one,Nat.add_zero,joH hm,joi hm,hwq,hf];exact jbj (g:=4) (c:=0) (d:=jH l) (η:=η) (x:=η []) (by simp only [go_sem]) (by simp only [go_sem]) rfl (by simp only [go_sem])
theorem jtk {a b:ByteArray} (h:a.data.toList=b.data.toList):a=b:=by
 cases a;cases b;congr 1;exact Array.toList_inj.1 h
theorem jtl (a b:ByteArray):(a++b).data.toList=a.data.toList++b.data.toList:=by simp
theorem jbS (a:ByteArray):a.data.toList.length=a.size:=by rw [Array.length_toList];rfl
theorem juR {v:Int} (h:0≤v∧v<4294967296):(jbv v).data.toList=jcg v:=by rw [jbv,if_pos (by omega)]
theorem jca (n:Nat):jh4 (n:Int)=UInt8.ofNat (n%256):=by
 unfold jh4;congr 1
theorem jpZ {v:Int} (h:0≤v∧v<4294967296):jbw (jcg v)=v:=by
 obtain ⟨n,rfl⟩:=Int.eq_ofNat_of_zero_le h.1;have e1:(n:Int)/16777216=((n/16777216:Nat):Int):=by omega
 have e2:(n:Int)/65536=((n/65536:Nat):Int):=by omega
 have e3:(n:Int)/256=((n/256:Nat):Int):=by omega
 rw [jcg,e1,e2,e3,jca,jca,jca,jca];simp only [jbw,List.foldl];have t:∀m:Nat,(UInt8.ofNat (m%256)).toNat=m%256:=fun m=>by simp
 rw [t,t,t,t];omega
def frL (b:ByteArray):List UInt8:=kB b.size++(jcg (jdu b)++b.data.toList)
theorem jsB {b:ByteArray} (h1:1≤b.size) (h2:b.size≤400):(jO b).data.toList=frL b:=by
 have hs:=jqQ b;rw [jO,if_pos ⟨h1,h2⟩,jtl,jtl,ja7 (by omega),juR hs,List.append_assoc];rfl
theorem jhE (b:ByteArray):(frL b).length=(kB b.size).length+4+b.size:=by
 have:=jbS b;simp only [frL,List.length_append,this];simp [jcg];omega
theorem jxM {t:ByteArray} {p q r:List UInt8} (h:t.data.toList=p++(q++r)) {b:ByteArray} (hb:b.data.toList=q):t.extract p.length (p.length+q.length)=b:=by
 refine jtk ?_;rw [ByteArray.data_extract,Array.toList_extract,List.extract_eq_take_drop,h,hb,List.drop_left];rw [show p.length+q.length-p.length=q.length by omega,List.take_left]
theorem jnd {t b:ByteArray} {p r:List UInt8} (h1:1≤b.size) (h2:b.size≤400) (h:t.data.toList=p++(frL b++r)):jU t (p.length:Int)=(b,((p.length+(frL b).length:Nat):Int)):=by
 have hs:=jqQ b;have hb:=jbS b;have ht:=jbS t;have e1:t.data.toList=p++(kB b.size++(jcg (jdu b)++(b.data.toList++r))):=by rw [h];simp [frL]
 have hv:vAt t (p.length:Int)=((b.size:Int),((p.length+(kB b.size).length:Nat):Int)):=by
  rw [vAt,if_neg (by omega),Int.toNat_natCast,e1,List.drop_left,jdA (by omega)]
  dsimp only
  congr 1
 have hl:=congrArg List.length h;rw [ht,List.length_append,List.length_append,jhE] at hl
 have hf:kV t ((p.length+(kB b.size).length:Nat):Int)=(jdu b,true):=by
  rw [kV,if_pos (by omega),Int.toNat_natCast]
  have e2:t.data.toList=(p++kB b.size)++(jcg (jdu b)++(b.data.toList++r)):=by rw [e1,List.append_assoc]
  have e3:(p.length+(kB b.size).length)=(p++kB b.size).length:=by rw [List.length_append]
  rw [e3,e2,List.drop_left]
  have e4:(jcg (jdu b)++(b.data.toList++r)).take 4=jcg (jdu b):=by
   have:(jcg (jdu b)).length=4:=rfl
   conv=>lhs;rw [←this]
   exact List.take_left
  rw [e4,jpZ hs]
 have he:t.extract (p.length+(kB b.size).length+4) (p.length+(kB b.size).length+4+b.size)=b:=by
  have e2:t.data.toList=(p++kB b.size++jcg (jdu b))++(b.data.toList++r):=by rw [e1];simp
  have:=jxM e2 rfl;rw [List.length_append,List.length_append,hb] at this;exact this
 rw [jU,hv];dsimp only;rw [if_neg (by omega),hf,Int.toNat_natCast,Int.toNat_natCast,he,if_neg (by simp),jhE]
 congr 2
 omega
theorem jsA {t b:ByteArray} {p q r:List UInt8} (h1:1≤b.size) (h2:b.size≤400) (h:t.data.toList=p++q) (hq:frL b=q++r) (hr:r≠ []):(jU t (p.length:Int)).2<0:=by
 have ht:=jbS t;have hl:=congrArg List.length h;rw [ht,List.length_append] at hl;have hl2:=congrArg List.length hq;rw [jhE,List.length_append] at hl2;have hrp:=List.length_pos_iff.2 hr;by_cases hc:(kB b.size).length≤q.length
 ·have hq2:q=kB b.size++q.drop (kB b.size).length:=by
   have e:(frL b).take (kB b.size).length=kB b.size:=by rw [frL,List.take_left]
   rw [hq,List.take_append_of_le_length hc] at e
   conv=>lhs;rw [←List.take_append_drop (kB b.size).length q,e]
  have hv:vAt t (p.length:Int)=((b.size:Int),((p.length+(kB b.size).length:Nat):Int)):=by
   rw [vAt,if_neg (by omega),Int.toNat_natCast,h,List.drop_left,hq2,jdA (by omega)]
   dsimp only
   congr 1
  rw [vv (by rw [hv];dsimp only;omega)]
  decide
 ·obtain ⟨x,c,h3,h4,h5⟩:=jeY _ (jkO b.size).1
  have hqx:∀d∈q,128≤d.toNat:=fun d hd=>by
   have e:q=x.take q.length:=by
    have e2:=congrArg (List.take q.length) hq;rw [List.take_left,frL,h3] at e2;have hxl:q.length≤x.length:=by rw [h3,List.length_append,List.length_singleton] at hc;omega
    rw [List.append_assoc,List.take_append_of_le_length hxl] at e2;exact e2.symm
   rw [e] at hd;exact h4 d (List.mem_of_mem_take hd)
  have hn:jai q=none:=jjy 5 q 0 0 fun d hd=>hqx d (List.mem_of_mem_take hd)
  have hv:vAt t (p.length:Int)=(0,-1):=by
   rw [vAt,if_neg (by omega),Int.toNat_natCast,h,List.drop_left,hn]
  rw [vv (by rw [hv];left;decide)]
  decide
theorem jeZ (b:ByteArray) (B:List ByteArray):(b::B).flatMap frL=frL b++B.flatMap frL:=rfl
theorem jnH {t:ByteArray}:∀(B:List ByteArray) (f:Nat) (p q r:List UInt8) (l:List ByteArray),(∀b∈B,1≤b.size∧b.size≤400)→t.data.toList=p++q→B.flatMap frL=q++r→q.length<f→
 ∃j,j≤B.length∧jc7 t f p.length l=(l++B.take j,p.length+((B.take j).flatMap frL).length)∧((B.take j).flatMap frL).length≤q.length∧(r=[]→j=B.length)
 |_,0,_,_,_,_,_,_,_,hf=>absurd hf (Nat.not_lt_zero _)
 |[],f+1,p,q,r,l,_,ht,hB,_=>by
  have hq:q=[]:=(List.append_eq_nil_iff.1 hB.symm).1;subst hq;have hlen:=jbS t;rw [ht,List.append_nil] at hlen;have:=jhD t (k:=p.length) (by omega)
  refine ⟨0,Nat.le_refl _,?_,Nat.le_refl _,fun _=>rfl⟩
  rw [jc7,if_pos this];simp
 |b::B,f+1,p,q,r,l,hs,ht,hB,hf=>by
  obtain ⟨h1,h2⟩:=hs b (by simp)
  rw [jeZ] at hB;by_cases hc:(frL b).length≤q.length
  ·have hq2:q=frL b++q.drop (frL b).length:=by
    have e:=congrArg (List.take (frL b).length) hB;rw [List.take_left,List.take_append_of_le_length hc] at e
    conv=>lhs;rw [←List.take_append_drop (frL b).length q,←e]
   generalize q.drop (frL b).length=q' at hq2;subst hq2;rw [List.append_assoc] at hB;have hB':=List.append_cancel_left hB;have hw:=jnd (r:=q') h1 h2 ht;have hfl:1≤(frL b).length:=by rw [jhE];omega
   rw [List.length_append] at hf;obtain ⟨j,g1,g2,g3,g4⟩:=jnH B f (p++frL b) q' r (l++[b]) (fun x hx=>hs x (by simp [hx])) (by rw [ht,List.append_assoc]) hB' (by omega)
   refine ⟨j+1,by simp;omega,?_,?_,fun hr=>by rw [g4 hr];simp⟩
   ·rw [jc7,hw]
    dsimp only;rw [if_neg (by omega),Int.toNat_natCast,←List.length_append,g2,List.take_succ_cons,jeZ,List.length_append,List.length_append]
    simp only [List.append_assoc,List.singleton_append,Prod.mk.injEq,true_and];omega
   ·rw [List.take_succ_cons,jeZ,List.length_append,List.length_append];omega
  ·have hr:∃r',r'≠ []∧frL b=q++r':=by
    have e:=congrArg (List.take q.length) hB;rw [List.take_left,List.take_append_of_le_length (by omega)] at e
    refine ⟨(frL b).drop q.length,fun h=>?_,by conv=>lhs;rw [←List.take_append_drop q.length (frL b),e]⟩
    have:=congrArg List.length h;rw [List.length_drop,List.length_nil] at this;omega
   obtain ⟨r',hr1,hr2⟩:=hr;have hcut:=jsA h1 h2 ht hr2 hr1;refine ⟨0,Nat.zero_le _,?_,Nat.zero_le _,fun hr=>?_⟩
   ·rw [jc7,if_pos hcut];simp
   ·exfalso
    subst hr;have:=congrArg List.length hB;rw [List.append_nil,List.length_append] at this;omega
theorem jn5 {n:Nt} (h:(jV n).size≠0):qp (jV n)=(n,true):=by rw [←jnS];exact jvQ rfl h
theorem ji7:∀(l:List Dd) (j:Int) (acc:List Nt) (z:Nat),(∀n∈qQ j l,1≤(jV n).size)→(acc=[]∨∃m,acc.getLast?=some m∧m.seq=j)→
 jbr ((qQ j l).map jV) (acc,z)=(acc++qQ j l,z+(((qQ j l).map jV).flatMap frL).length)
 |[],j,acc,z,_,_=>by simp [qQ,jbr]
 |d::l,j,acc,z,hs,hl=>by
  have h1:=hs ⟨j+1,d⟩ (by simp [qQ])
  have hn:=jn5 (n:=⟨j+1,d⟩) (by omega)
  have hf:jhF acc ⟨j+1,d⟩=true:=by
   rcases hl with rfl|⟨m,hm,hj⟩
   ·rfl
   ·simp only [jhF,hm,hj,beq_self_eq_true]
  have hfl:(jO (jV ⟨j+1,d⟩)).size=(frL (jV ⟨j+1,d⟩)).length:=by
   rw [←jsB h1 (jdN _),jbS]
  rw [qQ,List.map_cons,jbr,hn,if_neg (by rw [hf];simp)]
  dsimp only;have ih:=ji7 l (j+1) (acc++[(⟨j+1,d⟩:Nt)]) (z+(frL (jV ⟨j+1,d⟩)).length) (fun n hn=>hs n (by simp [qQ,hn])) (.inr ⟨⟨j+1,d⟩,by simp,rfl⟩)
  rw [hfl,ih,jeZ,List.length_append];simp only [List.append_assoc,List.singleton_append,Prod.mk.injEq,true_and];omega
theorem jdM:∀(l:List Dd) (i:Nat) (j:Int),(qQ j l).take i=qQ j (l.take i)
 |_,0,_=>rfl
 |[],i+1,_=>rfl
 |d::l,i+1,j=>by rw [qQ,List.take_succ_cons,List.take_succ_cons,qQ,jdM l i]
theorem jom:∀(B:List ByteArray) (a:List UInt8),(∀b∈B,1≤b.size∧b.size≤400)→a.length+409*B.length≤60000→B.foldl jid (some a)=some (a++B.flatMap frL)
 |[],a,_,_=>by simp
 |b::B,a,hs,hl=>by
  obtain ⟨h1,h2⟩:=hs b (by simp)
  have hf:=jsB h1 h2;have hle:=zY b;have hfl:(jO b).size=(frL b).length:=by rw [←hf,jbS]
  have hp:1≤(frL b).length:=by rw [jhE];omega
  rw [List.length_cons] at hl;rw [List.foldl_cons,jid,if_neg (by omega),hf,jom B (a++frL b) (fun x hx=>hs x (by simp [hx])) (by rw [List.length_append];omega),jeZ,List.append_assoc]
def jxf (j:Int) (l:List Dd):Prop:=l.length≤100∧∀n∈qQ j l,1≤(jV n).size
theorem jqI {j:Int} {l:List Dd} (h:jxf j l):(ko (qQ j l)).data.toList=((qQ j l).map jV).flatMap frL∧(ko (qQ j l)).size≤60000:=by
 obtain ⟨h1,h2⟩:=h;have hl:=jas l j
 have hb:∀b∈(qQ j l).map jV,1≤b.size∧b.size≤400:=fun b hb=>by
  obtain ⟨n,hn,rfl⟩:=List.mem_map.1 hb;exact ⟨h2 n hn,jdN n⟩
 have hF:=jom ((qQ j l).map jV) [] hb (by rw [List.length_map,List.length_nil];omega)
 have e:(ko (qQ j l)).data.toList=((qQ j l).map jV).flatMap frL:=by
  rw [ko,if_neg (by omega),jde,hF,List.nil_append];rfl
 refine ⟨e,?_⟩;rw [←jbS,e]
 have:∀B:List ByteArray,(∀b∈B,1≤b.size∧b.size≤400)→(B.flatMap frL).length≤409*B.length:=by
  intro B
  induction B with
  |nil=>intro _;simp
  |cons b B ih=>
   intro hB;obtain ⟨h1,h2⟩:=hB b (by simp)
   have:=ih fun x hx=>hB x (by simp [hx])
   have hle:=zY b;have hfl:(jO b).size=(frL b).length:=by rw [←jsB h1 h2,jbS]
   rw [jeZ,List.length_append,List.length_cons];omega
 have:=this _ hb;rw [List.length_map] at this;omega
theorem jn4 {t:ByteArray} {j:Int} {l:List Dd} {r:List UInt8} (h:jxf j l) (ht:t.size≤60000) (hr:(ko (qQ j l)).data.toList=t.data.toList++r):
 ∃i n,i≤l.length∧jbq t=(qQ j (l.take i),n)∧n≤t.size∧(r=[]→i=l.length∧n=t.size):=by
 obtain ⟨e,_⟩:=jqI h;rw [e] at hr
 have hb:∀b∈(qQ j l).map jV,1≤b.size∧b.size≤400:=fun b hb=>by
  obtain ⟨n,hn,rfl⟩:=List.mem_map.1 hb;exact ⟨h.2 n hn,jdN n⟩
 have hlt:=jbS t;obtain ⟨i,g1,g2,g3,g4⟩:=jnH (t:=t) ((qQ j l).map jV) (t.size+1) [] t.data.toList r [] hb rfl hr (by omega)
 rw [List.length_map,jas] at g1 g4;rw [List.length_nil,List.nil_append,Nat.zero_add] at g2;have ht2:((qQ j l).map jV).take i=(qQ j (l.take i)).map jV:=by rw [←List.map_take,jdM]
 rw [ht2] at g2 g3;have hN:=ji7 (l.take i) j [] 0 (fun n hn=>h.2 n (by rw [←jdM] at hn;exact List.mem_of_mem_take hn)) (.inl rfl)
 rw [List.nil_append,Nat.zero_add] at hN;refine ⟨i,(((qQ j (l.take i)).map jV).flatMap frL).length,g1,?_,by omega,fun hr0=>?_⟩
 ·rw [jbq,jal,if_neg (by omega),g2]
  exact hN
 ·have hi:=g4 hr0
  refine ⟨hi,?_⟩;subst hr0;rw [hi,List.take_length,hr,List.append_nil,hlt]
theorem jsR:∀E:List Ed,(E.flatMap fun e=>[e.src,e.dst]).length=E.length*2
 |[]=>rfl
 |e::E=>by rw [List.flatMap_cons,List.length_append,jsR E];simp;omega
theorem jt2 {n:Nt} (h1:jF n.deed=true) (h2:n.deed.plan.edges.length≤9) (h3:1≤n.seq∧n.seq≤1000000000):1≤(jV n).size:=by
 have hl:(kT (jat n)).size≤400:=by
  rw [jbV];have h4:=jjv (jat n)
  have h5:(jat n).length≤26:=by
   have:(kw n.deed).length≤24:=by
    unfold kw
    repeat' split
    ·have:(n.deed.plan.edges.flatMap fun e=>[e.src,e.dst]).length=n.deed.plan.edges.length*2:=jsR _
     rw [List.length_append,this];simp;omega
    all_goals simp
   simp only [jat,List.length_cons];omega
  omega
 have hc:(jF n.deed&&decide (1≤n.seq∧n.seq≤1000000000))=true:=by rw [h1,decide_eq_true h3];rfl
 rw [jV,if_pos hc,jgR,if_neg (by omega),jbV,jat,vg]
 obtain ⟨v,e1,e2,e3⟩:=jdz (n:=n.seq) ⟨by omega,by omega⟩
 rw [e3,List.length_append];have:=List.length_pos_iff.2 (jah v);omega
end Go.Proofs.Ytmnpailnelmpiaa
