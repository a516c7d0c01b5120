/- Parts. -/
import Derived.Test.YtmnpailnelmpiaaQNotesI
import Derived.Below
import Derived.OpenShut
set_option linter.unusedSimpArgs false
set_option linter.unusedVariables false
set_option maxHeartbeats 8000000
set_option maxRecDepth 100000
namespace Go.Proofs.Ytmnpailnelmpiaa
open Go.RowKit Go.Sort
theorem dN_ok (c:List UInt8):jxf (dN c).2 (dN c).1∧(dN c).1.length≤8∧0≤(dN c).2∧(dN c).2<200∧(∀d∈(dN c).1,jF d=true∧d.plan.edges.length≤9):=by
 have s1:=js (c:=c) (n:=9) (s:=jjk c) (Nat.zero_le _);have x1:=jA c (n:=9) (jjk c) (by omega)
 have h:=jkw (c:=c) (jh c 9 (jjk c)).1.toNat 0 (.start s1);have hl:=h.len;have x2:=jA c (n:=200) (qm c (jh c 9 (jjk c)).1.toNat ([],newYd,(jh c 9 (jjk c)).2)).2.2 (by omega)
 have e1:(dN c).1=(qm c (jh c 9 (jjk c)).1.toNat ([],newYd,(jh c 9 (jjk c)).2)).1:=rfl;have e2:(dN c).2=(jh c 200 (qm c (jh c 9 (jjk c)).1.toNat ([],newYd,(jh c 9 (jjk c)).2)).2.2).1:=rfl;have h1:=h.ok;have h2:=h.edges;rw [←e1] at hl h1 h2;rw [←e2] at x2;generalize (dN c).1=l at*;generalize (dN c).2=j at*;have hl8:l.length≤8:=by omega
 refine ⟨⟨by omega,fun n hn=>?_⟩,hl8,x2.1,x2.2,fun d hd=>⟨h1 d hd,h2 d hd⟩⟩
 obtain ⟨k,hk⟩:=List.getElem?_of_mem hn;have hkl:=(List.getElem?_eq_some_iff.1 hk).1;rw [jas] at hkl;obtain ⟨d,hd⟩:=je hkl;rw [jrY j hd] at hk;obtain rfl:=(Option.some.inj hk).symm;have hdm:=List.mem_of_getElem? hd;exact jt2 (h1 d hdm) (h2 d hdm) (by dsimp only;omega)
theorem jlp:∀(l:List Dd) (j:Int),(∀d∈l,d.plan.edges.length≤9)→zK (qQ j l)≤40*l.length
 |[],_,_=>by simp [qQ,zK,qE]
 |d::l,j,h=>by
  have ih:=jlp l (j+1) fun x hx=>h x (by simp [hx])
  have hd:=h d (by simp)
  simp only [qQ,zK,qE,List.map_cons,List.sum_cons,List.length_cons,zC,ja1,jeK] at ih⊢;omega
theorem jxe {l:List Nt} {k:Nat} {n:Nt} (h:l[k]?=some n):(l.flatMap jE)[k*12+7]?=some (jt n.deed.plan.edges):=by
 have h1:=qs (enc:=jE) (size:=12) jhK h (j:=7) (n:=1) (by decide)
 have h2:=congrArg (·[0]?) h1
 simpa [List.getElem?_take,List.getElem?_drop,jE,jf,ja] using h2
theorem jkm {l:List Nt} {k:Nat} {n:Nt} (h:l[k]?=some n):D.get [k*12+7] (jH l)=some (jt n.deed.plan.edges):=by
 have:=jxe h;simp [jH,D.get,this,jay]
theorem jlJ {l:List Nt} {k:Nat} {n:Nt} (h:l[k]?=some n):D.get [k*12+1+1+1+1+1+1+1] (jH l)=some (jt n.deed.plan.edges):=jkm h
theorem jiP (l:List Nt) (a b:Nat):(jH l).sub a b=jH ((l.drop a).take (b-a)):=jnB (enc:=jE) jhK l a b
theorem jpH:(qp ⟨⟨[0]⟩⟩).2=false:=by
 rw [qp,dif_neg];rintro ⟨n,h1,h2⟩;obtain ⟨-,h3,h4,-⟩:=jj8 h1 h2;obtain ⟨v,e1,e2,e3⟩:=jdz (h3 n.seq (by simp [jat]))
 obtain ⟨w,f1,f2,f3⟩:=jdz (h3 n.deed.kind (by simp [jat]))
 have h5:=congrArg ByteArray.size h4;rw [jbV,jat,vg,vg,e3,f3,List.length_append,List.length_append] at h5;have g1:=List.length_pos_iff.2 (jah v);have g2:=List.length_pos_iff.2 (jah w);have g3:ByteArray.size ⟨⟨[0]⟩⟩=1:=rfl;omega
theorem jvb (t:ByteArray) {k:Nat} (h:k≤t.size):t.data.toList=(t.extract 0 k).data.toList++t.data.toList.drop k∧(t.extract 0 k).size=k:=by
 have e:(t.extract 0 k).data.toList=t.data.toList.take k:=by
  rw [ByteArray.data_extract,Array.toList_extract,List.extract_eq_take_drop,List.drop_zero,Nat.sub_zero]
 refine ⟨by rw [e,List.take_append_drop],?_⟩
 rw [ByteArray.size_extract];omega
def jcZ:C:=iS [iA 2 (iO false)] (.seq (iS [iA 17 (iM 0),iA 18 (.call 22 [.t 17])] (iD 18 (iS [iA 2 (iO true)] .ret) .skip)) (iS [iA 19 (iM 0),iA 20 (.call 23 [.t 19]),iA 3 (iM 20)] (iS [iA 21 (iM 0),iA 22 (.call 23 [.t 21]),iA 4 (iM 22)] (iS [iA 23 (iM 3),iA 24 (.call 24 [.t 23]),iA 5 (iM 24)] (iS [iA 25 (iM 0),iA 26 (.call 25 [.t 25]),iA 6 (iM 26)] (iS [iA 28 (iM 5),iA 29 (.call 13 [.t 28]),iA 27 (iM 29),iA 30 (iE 27 0),iA 31 (iE 27 1),iA 7 (iM 30),iA 8 (iM 31)] (.seq (iS [iA 32 (iM 7),iA 33 (iM 4),iA 34 (.call 26 [.t 32,.t 33]),iA 35 (iU 34),iA 36 (iM 35),iB 37 36 false (iM 8),iB 38 36 false (iM 5),iB 39 36 false (.len true (.t 38)),iB 40 36 false (iP .neq 3 37 39),iA 41 (.pick (.t 36) (.c (.bool true)) (.t 40))] (iD 41 (iS [iA 2 (iO false)] .ret) .skip)) (.seq (iS [iA 9 (iN 0)] (.blk 0 (.loop (.seq (iS [iA 42 (iM 9),iA 43 (iM 4),iA 44 (iG 43),iA 45 (iP .lss 3 42 44)] (iD 45 .skip (.exit 0))) (.seq (.blk 1 (iS [iA 49 (iM 3),iA 50 (iM 9),iA 51 (iI 12 49 50),iA 52 (iT 12 51),iA 53 (.call 27 [.t 52]),iA 54 (.call 8 [.t 53]),iA 48 (iM 54),iA 55 (iE 48 0),iA 56 (iE 48 1),iA 10 (.alloc 28 [.int .i64 0,.int .i64 0,.int .i64 0,.int .i64 0,.int .i64 0,.int .i64 0,.int .i64 0,.slice none 0 0,.int .i64 0,.int .i64 0,.int .i64 0,.int .i64 0]),iC (.st 12 [none,none,none,none,none,none,none,some (2,103),none,none,none,none] (.t 10) (.t 55)),iA 11 (iM 56)] (.seq (.dreg (T.pure 0 (iA 57 (iM 11)) (T.pure 1 (iA 58 (iU 57)) (T.pure 2 (iA 59 (iM 58)) (T.pure 3 (iB 60 59 false (iT 12 10)) (T.pure 5 (iB 62 59 false (iM 4)) (T.pure 6 (iB 63 59 false (iM 9)) (T.pure 7 (iB 64 59 false (iM 9)) (T.pure 8 (iB 65 59 false (iQ .add 3 64 1)) (T.pure 9 (iB 66 59 false (.sl 12 (.t 62) (some (.t 63)) (some (.t 65)))) (T.alt (iB 61 59 false (.bsl 28 12 1 [none,none,none,none,none,none,none,some (2,103),none,none,none,none] [(0,12,.t 60)])) [9,8,7,6,5] (T.alt (iB 67 59 false (.call 26 [.t 61,.t 66])) [] (T.pure 11 (iB 68 59 false (iU 67)) (T.pure 12 (iA 69 (.pick (.t 59) (.c (.bool true)) (.t 68))) T.done)) T.stop) T.stop))))))))))) (iD 69 (iS [iA 2 (iO false)] .ret) .skip)))) (.reg [iA 46 (iM 9),iA 47 (iQ .add 3 46 1),iA 9 (iM 47)])))))) (iS [iA 70 (iM 6),iA 71 (.ia 1 (.t 70) (.c (.int .i64 0))),iA 72 (iL 71),iA 73 (iM 5),iA 74 (.len true (.t 73)),iA 75 (iQ .add 3 74 1),iA 76 (iP .rem 3 72 75),iA 12 (iM 76)] (iS [iA 78 (iM 5),iA 79 (iM 12),iA 80 (.sl 0 (.t 78) none (some (.t 79))),iA 81 (.call 13 [.t 80]),iA 77 (iM 81),iA 82 (iE 77 0),iA 83 (iE 77 1),iA 13 (iM 82),iA 14 (iM 83)] (iS [iA 85 (.call 8 [.c (.string ⟨⟨[0]⟩⟩)]),iA 84 (iM 85),iA 86 (iE 84 0),iA 87 (iE 84 1),iA 15 (.alloc 28 [.int .i64 0,.int .i64 0,.int .i64 0,.int .i64 0,.int .i64 0,.int .i64 0,.int .i64 0,.slice none 0 0,.int .i64 0,.int .i64 0,.int .i64 0,.int .i64 0]),iC (.st 12 [none,none,none,none,none,none,none,some (2,103),none,none,none,none] (.t 15) (.t 86)),iA 16 (iM 87)] (iS [iA 88 (iM 13),iA 89 (iG 88),iA 90 (iM 4),iA 91 (iG 90),iA 92 (iP .leq 3 89 91),iA 93 (iM 92),iB 94 93 true (iM 13),iB 95 93 true (iM 4),iB 96 93 true (iM 13),iB 97 93 true (iG 96),iB 98 93 true (.sl 12 (.t 95) none (some (.t 97))),iB 99 93 true (.call 26 [.t 94,.t 98]),iA 100 (.pick (.t 93) (.t 99) (.c (.bool false))),iA 101 (iM 100),iB 102 101 true (iM 14),iB 103 101 true (iM 12),iB 104 101 true (iP .leq 3 102 103),iA 105 (.pick (.t 101) (.t 104) (.c (.bool false))),iA 106 (iM 105),iB 107 106 true (iM 16),iB 108 106 true (iU 107),iA 109 (.pick (.t 106) (.t 108) (.c (.bool false))),iA 110 (iM 109),iB 111 110 true (iM 12),iB 112 110 true (iM 5),iB 113 110 true (.len true (.t 112)),iB 114 110 true (iP .lss 3 111 113),iB 115 110 true (iM 114),iB 116 115 false (iM 13),iB 117 115 false (iG 116),iB 118 115 false (iM 4),iB 119 115 false (iG 118),iB 120 115 false (iP .eql 3 117 119),iB 121 110 true (.pick (.t 115) (.c (.bool true)) (.t 120)),iA 122 (.pick (.t 110) (.t 121) (.c (.bool false))),iA 2 (iM 122)] .ret))))))))))))
theorem jfx:fnC Try.prog Try.f6=some (jcZ,[.t 2],123):=by kernel_rfl
theorem jps (c:List UInt8):kl Try.prog 6 [.c (zi c)] (.c (.val (.bool true))):=by
 refine jr Try.func6 jfx (by simp) ?_
 unfold jcZ;simp only [go_sem];have hro:(zi c).toRo=.ro (zi c):=rfl;refine jb (p_big c) (by simp only [go_sem,hro]) fun η0=>?_
 simp only [go_sem,hro];by_cases hbig:(1048576:Int)<(c.length:Int)
 ·simp only [go_sem,hbig]
 have hc:c.length≤1048576:=by omega
 simp only [go_sem,hbig];obtain ⟨hO,h8,hj0,hj2,hdd⟩:=dN_ok c;have pD:=jgd c hc;generalize (dN c).1=l at*;generalize (dN c).2=j at*;have htot:=jlp l j fun d hd=>(hdd d hd).2
 have hNl:=jas l j;obtain ⟨hS,hS6⟩:=jqI hO;refine jb (pD) (by simp only [go_sem,hro]) fun η1=>?_
 simp only [go_sem,hro];refine jb (pD) (by simp only [go_sem,hro]) fun η2=>?_
 simp only [go_sem,hro];refine jb (jge (qQ j l) (by omega)) (by simp only [go_sem]) fun η3=>?_
 simp only [go_sem];refine jb (jeT c hc) (by simp only [go_sem,hro]) fun η4=>?_
 simp only [go_sem,hro];have hin:=jn4 (t:=ko (qQ j l)) (r:=[]) hO hS6 (by rw [List.append_nil])
 obtain ⟨i0,n0,g1,g2,g3,g4⟩:=hin;obtain ⟨rfl,rfl⟩:=g4 rfl;rw [List.take_length] at g2;have pIn:=jct (ko (qQ j l)) (by omega)
 rw [g2] at pIn;refine jb (pIn) (by simp only [go_sem]) fun η5=>?_
 simp only [go_sem];refine jb (jbo (qQ j l) (by omega)) (by simp only [go_sem]) fun η6=>?_
 simp only [go_sem];simp only [go_sem,bne_self_eq_false];have hRN:∀(k:Nat) (n:Nt),(qQ j l)[k]?=some n→qp (jV n)=(n,true):=fun k n hn=>jn5 (by have:=hO.2 n (List.mem_of_getElem? hn);omega)
 generalize hNN:qQ j l=N at*;refine jq (fun i:Nat=>St.of [(3,Hd 2000 (η1 0)),(4,Hd 2200 (η2 0)),(5,.c (.v (.string (ko N)))),(6,Hd 2600 (η4 0)),(9,Ni i)] [(2000,.loose (jH N) (η1 0)),(2200,.loose (jH N) (η2 0)),(2600,.loose (jo (jbk c)) (η4 0))]) (fun i=>i≤N.length) (fun i=>N.length-i) 0 ((Nat.zero_le _)) (jl [some 2000,some 2200,some 2600] (by simp only [go_sem]<;>and_intros<;>first|rfl|assumption|trivial)) ?_
 rintro i hi;by_cases hlt:i<N.length
 ·have hlt':(i:Int)<(N.length:Int):=by omega
  have h0i:(i:Int)≥0:=by omega
  obtain ⟨n,hn⟩:=je hlt;have hw:IntKind.i64.wrap ((i:Int)+1)=((i+1:Nat):Int):=jg (by omega) (by omega)
  have hnt:=jvP (by omega:zK N≤2000000) (List.mem_of_getElem? hn)
  simp only [go_sem,hlt',hlt,h0i,Nat.add_zero,jtr hn,jsu hlt,jE,jf,ja];refine jb (zf n hnt) (by simp only [go_sem,jE,jf,ja,jkm hn,jlJ hn]) fun ηa=>?_
  simp only [go_sem,jE,jf,ja,jkm hn,jlJ hn];have pR:=vJ (jV n) (by have:=jdN n;omega)
  rw [hRN i n hn] at pR;refine jb (pR) (by simp only [go_sem,jE,jf,ja]) fun ηb=>?_
  simp only [go_sem,jE,jf,ja];intro b10;have hle:i+1≤N.length:=hlt;have h01:(0:Int)≤((i+1:Nat):Int):=by omega
  have hii:i≤i+1:=by omega
  simp only [go_sem,hw,hle,h01,hii,Int.toNat_natCast];intro η61;have hsub:(N.drop i).take 1=[n]:=by rw [jji hn];rfl
  have hone:D.sl 12 28 [D.val (.int .i64 n.seq),.val (.int .i64 n.deed.kind),.val (.int .i64 n.deed.run),.val (.int .i64 n.deed.plan.prio),.val (.int .i64 n.deed.plan.most),.val (.int .i64 n.deed.plan.wait),.val (.int .i64 n.deed.plan.tasks),jt n.deed.plan.edges,.val (.int .i64 n.deed.task),.val (.int .i64 n.deed.tri),.val (.int .i64 n.deed.worker),.val (.int .i64 n.deed.draw)]=jH [n]:=by simp [jH,jE,jf,ja]
  have ht1:zK [n]≤2000000:=by
   have h1:=vZ (tot:=zC) hn;have h2:=jaj zC N (i+1);simp only [zK,qE,List.map_cons,List.map_nil,List.sum_cons,List.sum_nil,List.length_cons,List.length_nil] at htot h1 h2⊢;omega
  refine jb (jbo [n] ht1) ?_ fun ηc=>?_
  ·simp only [go_sem,hone]
   exact ⟨jH N,η2 0,jH N,by simp only [go_sem],rfl,rfl,rfl,rfl,by decide,by rw [vY];omega,by rw [jiP,show i+(i+1-i)-i=1 by omega,hsub]⟩
  simp only [go_sem,hw];exact ⟨i+1,by (try dsimp only);first|omega|assumption|(and_intros<;>first|omega|assumption),(jl [some 2000,some 2200,some 2600] (by simp only [go_sem,hw]<;>and_intros<;>first|rfl|assumption|trivial)),by (try dsimp only);omega⟩
 have hlt':¬(i:Int)<(N.length:Int):=by omega
 obtain ⟨v,hv,hv2⟩:=jrO c (k:=0) (by decide)
 have hpl:0<(jbk c).length:=(List.getElem?_eq_some_iff.1 hv).1;have hw1:IntKind.i64.wrap (((ko N).size:Int)+1)=(((ko N).size+1:Nat):Int):=jg (by omega) (by omega)
 have hrem:(v:Int).tmod (((ko N).size+1:Nat):Int)=((v%((ko N).size+1):Nat):Int):=by rw [Int.tmod_eq_emod_of_nonneg (by omega)];omega
 have hkk:v%((ko N).size+1)≤(ko N).size:=by have:=Nat.mod_lt v (show 0<(ko N).size+1 by omega);omega
 have hw2:IntKind.i64.wrap (((v%((ko N).size+1):Nat):Int))=((v%((ko N).size+1):Nat):Int):=jg (by omega) (by omega)
 have hne:¬(((ko N).size+1:Nat):Int)=0:=by omega
 generalize hk:v%((ko N).size+1)=k at*;have at0:(((jbk c).flatMap (fun n=>[iv n])).drop (0*1)).take 1=[iv (v:Int)]:=ji hv
 have in0:0*1+1≤((jbk c).flatMap (fun n=>[iv n])).length:=jj hpl
 have at0:((jbk c).flatMap (fun n=>[iv n])).take 1=[iv (v:Int)]:=by simpa only [Nat.zero_mul,List.drop_zero] using at0
 simp only [go_sem,hlt',at0,in0,hpl,hw1,hrem,hw2,hne,hkk];obtain ⟨hc1,hc2⟩:=jvb (ko N) hkk;have hcut:=jn4 (t:=(ko N).extract 0 k) (r:=(ko N).data.toList.drop k) hO (by omega) (by rw [hNN];exact hc1)
 obtain ⟨i1,n1,f1,f2,f3,f4⟩:=hcut;have hNi:qQ j (l.take i1)=N.take i1:=by rw [←jdM,hNN]
 rw [hNi] at f2;have pIn2:=jct ((ko N).extract 0 k) (by omega)
 rw [f2] at pIn2
 have hfull:k<(ko N).size∨i1=N.length:=by
  by_cases hlt2:k<(ko N).size
  ·exact .inl hlt2
  ·right
   have:(ko N).data.toList.drop k=[]:=List.drop_eq_nil_of_le (by rw [jbS];omega)
   rw [(f4 this).1,hNl]
 rw [hc2] at f3;refine jb (pIn2) (by simp only [go_sem]) fun η7=>?_
 simp only [go_sem];have pZ:=vJ ⟨⟨[0]⟩⟩ (by decide)
 rw [jpH] at pZ;generalize (qp ⟨⟨[0]⟩⟩).1=nz at*;have hclen:(N.take i1).length=i1:=by rw [List.length_take];omega
 have hi1:i1≤N.length:=by omega
 have hi1':(i1:Int)≤(N.length:Int):=by omega
 have h01:(0:Int)≤(i1:Int):=by omega
 refine jb (pZ) (by simp only [go_sem,jE,jf,ja,hclen,hi1']) fun η8=>?_
 simp only [go_sem,jE,jf,ja,hclen,hi1'];intro b15;simp only [go_sem,hclen,hi1,hi1',h01,Int.toNat_natCast,Nat.zero_le]
 have htc:zK (N.take i1)≤2000000:=by
  have:=jaj zC N i1;simp only [zK,hclen] at htot⊢;omega
 refine jb (jbo (N.take i1) htc) ?_ fun η9=>?_
 ·simp only [go_sem]
  exact ⟨jH N,η2 0,jH N,by simp only [go_sem],rfl,rfl,rfl,rfl,by decide,by rw [vY];omega,by rw [jiP];simp⟩
 have hn1:(n1:Int)≤(k:Int):=by omega
 by_cases hks:k<(ko N).size
 ·have hks':(k:Int)<((ko N).size:Int):=by omega
  simp only [go_sem,hn1,hks',hclen]
 ·have hks':¬(k:Int)<((ko N).size:Int):=by omega
  have hi2:i1=N.length:=hfull.resolve_left hks;have hb:((i1:Int)==(N.length:Int))=true:=by rw [hi2];simp
  simp only [go_sem,hn1,hks',hclen,hb]
open Go.RowKit Go.ChangeShapes Go.WideShapes Go.Deep Go.ChangeAt
theorem rByte:ReadsAs Try.prog 5 (fun u:UInt8=>[kj u]) (fun _=>True):=by
 intro H enc w base spare held n cs y hy;obtain ⟨i,rfl,_,hw⟩:=DataW.trod_int (k:=.u8) (by kernel_rfl) hy
 have hi:0≤i∧i≤255:=by simpa [Lit.wf,IntKind.min,IntKind.max,IntKind.signed,IntKind.bits] using hw
 refine ⟨UInt8.ofNat i.toNat,trivial,[],?_⟩
 have he:((UInt8.ofNat i.toNat).toNat:Int)=i:=by
  rw [UInt8.toNat_ofNat'];omega
 have hb:kj (UInt8.ofNat i.toNat)=D.val (.int .u8 i):=by simp only [kj];rw [he]
 dsimp only;rw [hb];exact RepL.val_ RepL.nil_
theorem jy7:ReadsAs Try.prog 47 (fun l=>[zi l]) (fun l=>∀e∈l,True):=by
 have h:=jum (size:=1) (ty:=5) (P:=Try.prog) (t:=47) (e:=5) (by kernel_rfl) rByte (by kernel_rfl) (fun _=>rfl) (by decide)
 refine h.map id (fun l=>?_) (fun _ h=>h)
 have e:l.flatMap (fun u=>[kj u])=l.map kj:=by
  induction l with
  |nil=>rfl
  |cons x l ih=>simp only [List.flatMap_cons,List.map_cons,ih];rfl
 simp only [zi,id];rw [e]
open Go.ChangeShapes Go.WideShapes Go.ChangeAt Go.RowKit
theorem own:ownKnob Try.prog.godebug=none:=by kernel_rfl
theorem laid:laidOutB Try.prog=true:=by kernel_rfl
section
variable {H:Type} {enc:TypeId×Value→H} {P:Program}
theorem jpr {f:Func} {s:ChangeSpec} {apart jM handsOn again:Bool} {W W':World} {args:Array Value} {v:Value} {ds gs:List (DataW H)} {before pa pv:List MemPlace}
 (hW:DataW.Whole enc P f.params.toList s.vars apart W args.toList ds gs before)
 (hres:∀(b:Nat) (sp:Nat→Bool) (hd:Bool),DataW.TrodAll enc P W' b sp hd f.resultTypes.toList (v.resultList f.resultTypes.size) (s.fn H (ds++gs)).results [])
 (hargs:∀sp:Nat→Bool,(∀p∈before,sp p.block=true)→DataW.TrodAll enc P W' 0 sp true f.params.toList args.toList (s.fn H (ds++gs)).args pa)
 (hvars:∀sp:Nat→Bool,(∀p∈before,sp p.block=true)→DataW.TrodVars enc P W' sp s.vars (s.fn H (ds++gs)).vars pv)
 (hps:before=pa++pv) (hb:Below W.heap.size W W')
 (hok:∀(j:Nat) (t:TypeId) (r:Value),f.resultTypes[j]?=some t→(v.resultList f.resultTypes.size)[j]?=some r→Value.okWide P W' .any 0 t r):
 s.post enc P f apart jM handsOn again W args v W':=by
 have hlt:∀p∈before,p.block<W.heap.size:=fun p hp=>hW.lt p hp
 have hold:∀p∈before,(fun b=>decide (b<W.heap.size)) p.block=true:=fun p hp=>by simpa using hlt p hp
 refine ⟨ds,gs,before,[],pa,pv,hW,hres _ _ _,hargs _ hold,hvars _ hold,World.keptBut_mono (fun p hp=>⟨hp,?_⟩) (hb.frame (· ∈before)),fun _=>?_⟩
 ·rw [hps,List.mem_append] at hp
  exact Or.inr hp
 ·obtain ⟨_,_,_,_,_,hz,hn⟩:=hW
  refine ⟨hok,_,_,([]++pa)++pv,⟨[]++pa,pv,trodAll_append (hargs _ (fun _ _=>rfl)) (hres _ _ _),hvars _ (fun _ _=>rfl),rfl,?_,?_⟩,?_⟩
  ·intro b off hp
   have hin:MemPlace.cell b off∈before:=by rw [hps];simpa using hp
   rw [hb.frozen (hlt _ hin)];exact hz b off hin
  ·intro ha
   have:=hn ha;rw [hps] at this;simpa using this
  ·intro p hp _
   rw [hps];simpa using hp
theorem jtw {t:TypeId} (hl:laidOutB P=true) (hr:P.readableRec t=true) (hrow:t<P.types.size) {W W':World} {v:Value} {d:DataW H} {ps:List MemPlace} {sp:Nat→Bool}
 (h:DataW.Trod enc P W 0 (fun _=>true) true t v d ps) (hb:Below W.heap.size W W') (hlt:∀x∈ps,x.block<W.heap.size) (hsp:∀x∈ps,sp x.block=true):
 DataW.Trod enc P W' 0 sp true t v d ps:=
 WideElems.Trod_stays hl hr hrow h (fun x hx=>hb.same (hlt x hx)) (fun x hx=>hsp x hx)
end
theorem jw7 {H:Type} {enc:TypeId×Value→H} {P:Program} {t e:TypeId} {α:Type} {E:α→D} {X:α→Prop} (hra:ReadsAs P t (fun x=>[E x]) X) (ht:P.underlying t=some (.slice e))
 {W:World} {v:Value} {d:DataW H} {p:List MemPlace} {base:Nat} {spare:Nat→Bool} {held:Bool} {r:_root_.Go.Reach} {b0:Nat} (hv:Value.okWide P W r b0 t v) (h:DataW.Trod enc P W base spare held t v d p):
 ∃x,X x∧∃S,Rep W false (E x) v S:=by
 obtain ⟨a,len,cap,rfl⟩:=okWide_slice ht hv;obtain ⟨fuel,hf⟩:=h;obtain ⟨x,hx,S,hr⟩:=hra _ _ _ _ _ _ _ _ _ hf;obtain ⟨u,us,S1,S2,h1,rfl,h2,rfl,rfl⟩:=hr;have h1':[Value.slice a len cap]=[u]:=h1;cases h1';exact ⟨x,hx,S1,h2⟩
theorem jsc {P:Program} {f:FuncId} {vs:List View} {args:List Value} {w:World} (h:kl P f vs (.c (.val (.bool true)))) (hv:vz w vs args):
 Calls P f args.toArray w fun e w'=>e=.returned (.bool true)∧Below w.heap.size w w':=
 (h.2 w args hv).mono fun e w' ⟨v,S,he,hr,_,hb⟩=>⟨by rw [he,show v=_ from hr.1],hb⟩
end Go.Proofs.Ytmnpailnelmpiaa
namespace Go.Proofs.Ytmnpailnelmpiaa.lawNotes
open Go.ChangeShapes Go.WideShapes Go.ChangeAt Go.RowKit
set_option maxRecDepth 100000 in
theorem lifted (os:Os) (started:os.Started) (H:Type) (enc:TypeId×Value→H):
 ReturnsInHanded {} Try.checked os 6 .any (Rows.fnNotesSpec.pre6 enc Try.prog Try.f6 Rows.fnNotesRow.domain false) (Rows.fnNotesSpec.post enc Try.prog Try.f6 false true false false):=by
 refine returnsInHanded_of_change (C:=Try.checked) own started (by kernel_rfl) Try.func6
  (ChangeSpec.witness6 (enc:=enc) (C:=Try.checked) false ⟨#[],#[.slice none 0 0],[]⟩ 8 (by kernel_rfl) (by kernel_rfl) (by kernel_rfl) (by kernel_rfl)) ?_
 intro W base args ds gs before hval0 hW hcnd _;have hval:∀(j:Nat) t v,Try.f6.params[j]?=some t→args[j]?=some v→Value.okWide Try.prog W .any base t v:=hval0;have hW':=hW;obtain ⟨p,q,hA0,hV,rfl,hfz,hnd⟩:=hW;have hA:DataW.TrodAll enc Try.prog W 0 (fun _=>true) true Try.f6.params.toList args.toList ds p:=hA0
 rw [Try.params6] at hA hval;obtain ⟨v0,vs0,d0,ds0,p0,q0,hargs,rfl,rfl,h0,r0⟩:=trodAll_cons hA;obtain ⟨rfl,rfl,rfl⟩:=trodAll_nil r0;obtain rfl:args=#[v0]:=by cases args;simp_all
 obtain ⟨rfl,rfl⟩:=trodVars_none hV;obtain ⟨b0,-,S0,hy0⟩:=jw7 jy7 Try.underlying47 (hval 0 _ v0 rfl rfl) h0;clear hA0 hval0;simp only [List.append_nil] at hW';refine (jsc (args:=[v0]) (jps b0) ⟨_,_,rfl,⟨_,hy0⟩,rfl⟩).mono fun e W' ⟨he,hb⟩=>?_
 subst he;have hlt0:∀x∈p0,x.block<W.heap.size:=fun x hx=>hW'.lt x (by simp [hx])
 exact ⟨_,rfl,jpr (pa:=(p0++[])) (pv:=[]) hW' (fun _ _ _=>trodAll_mk1 (shut_bool Try.underlying4 _)) (fun sp hsp=>(trodAll_cons_mk (jtw laid (by kernel_rfl) (of_decide_eq_true (by kernel_rfl)) h0 hb hlt0 (fun x hx=>hsp x (by simp [hx]))) trodAll_mk0)) (fun _ _=>rfl) (by simp) hb (ok_one (by kernel_rfl) rfl (okWide_bool_mk Try.underlying4 _))⟩
theorem proved:Rows.FnNotesSaid:=
 OpenClaim.holds_of_wide 6 Try.f6 rfl rfl rfl rfl rfl rfl rfl ⟨rfl,rfl,rfl,rfl,rfl⟩ rfl rfl rfl rfl rfl (by as_aux_lemma=>kernel_rfl) Try.func6 (by unfold joinedFacts;(repeat' (with_reducible refine Bool.and_eq_true_iff.mpr ⟨?_,?_⟩));all_goals (as_aux_lemma=>kernel_rfl))
  (of_decide_eq_true (by as_aux_lemma=>kernel_rfl)) (by unfold Func.isWrapper;first|(rw [if_pos (by decide+kernel)];kernel_rfl)|(rw [if_neg (by decide+kernel)];exact ⟨rfl,rfl⟩))
  (fun os started H enc _=>lifted os started H enc)
end Go.Proofs.Ytmnpailnelmpiaa.lawNotes
