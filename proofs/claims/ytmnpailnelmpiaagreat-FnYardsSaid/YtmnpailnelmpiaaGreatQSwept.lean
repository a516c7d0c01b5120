/- Parts. -/
import Derived.Test.YtmnpailnelmpiaaGreatQInsert
set_option linter.unusedSimpArgs false
set_option linter.unusedVariables false
set_option maxHeartbeats 8000000
set_option maxRecDepth 100000
namespace Go.Proofs.YtmnpailnelmpiaaGreat
open Go.RowKit Go.Sort
structure jxl (p:En→Bool) (l L:List En) (i j:Nat):Prop where
 len:L.length=l.length
 ij:i<j
 jl:j≤l.length
 pre:L.take i=(l.take j).filter fun e=>!p e
 suf:∀q,j≤q→L[q]?=l[q]?
section
variable {p:En→Bool} {l L:List En} {i j:Nat} {e:En}
theorem jA0 (h:l[i]?=some e) (he:p e=true) (hn:∀y∈l.take i,p y=false):jxl p l l i (i+1):=by
 refine ⟨rfl,by omega,(List.getElem?_eq_some_iff.1 h).1,?_,fun _ _=>rfl⟩
 rw [List.take_add_one,h,List.filter_append];simp only [Option.toList_some,List.filter_cons,he,Bool.not_true,Bool.false_eq_true,if_false,List.filter_nil,List.append_nil];exact (List.filter_eq_self.2 fun y hy=>by rw [hn y hy];rfl).symm
theorem jw8 (hd:jxl p l L i j) (h:l[j]?=some e) (he:p e=true):jxl p l L i (j+1):=by
 refine ⟨hd.len,by have:=hd.ij;omega,(List.getElem?_eq_some_iff.1 h).1,?_,fun q hq=>hd.suf q (by omega)⟩
 rw [hd.pre,List.take_add_one,h,List.filter_append];simp [he]
theorem jul (hd:jxl p l L i j) (h:l[j]?=some e) (he:p e=false):jxl p l (L.set i e) (i+1) (j+1):=by
 have hj:=(List.getElem?_eq_some_iff.1 h).1;have h1:=hd.ij;have h2:=hd.len;refine ⟨by rw [List.length_set];exact h2,by omega,hj,?_,fun q hq=>?_⟩
 ·rw [List.take_add_one,List.getElem?_set_self (by omega),List.take_set_of_le (Nat.le_refl _),hd.pre,List.take_add_one,h,List.filter_append]
  simp [he]
 ·rw [List.getElem?_set_ne (by omega)];exact hd.suf q (by omega)
theorem jum (hd:jxl p l L i l.length):L.take i=l.filter fun e=>!p e:=by rw [hd.pre,List.take_length]
end
def kG:C:=iS [iA 4 (iN 0)] (.seq (iS [iA 6 (iM 0),iA 7 (iG 6),iA 8 (iN 0)] (.blk 0 (.loop (iS [iA 9 (iP .lss 3 8 7)] (.seq (iD 9 .skip (.exit 0)) (.seq (.blk 1 (iS [iA 10 (iM 8),iA 5 (iM 10)] (iS [iA 11 (iM 1),iA 12 (iM 0),iA 13 (iM 5),iA 14 (iI 4 12 13),iA 15 (iT 4 14),iA 16 (.callv (.t 11) [.t 15])] (iD 16 (iS [iA 17 (iM 5),iA 4 (iM 17)] .ret) .skip)))) (.reg [iA 18 (iQ .add 3 8 1),iA 8 (iM 18)]))))))) (iS [iA 4 (iN (-1))] .ret))
theorem qC:fnC Tryz.prog Tryz.f237=some (kG,[.t 4],19):=by kernel_rfl
theorem jbw (l:List En) (f:Nat) (cd:List D) (p:En→Bool) (hf:∀x,kp Tryz.prog f [.agg (jf x),.ptr cd] (.c (.val (.bool (p x))))) (hl:l.length≤4000000):kp Tryz.prog 237 [.c (jm l),.fn f [cd]] (.c (.val (.int .i64 (jdm p l)))):=by
 refine js Tryz.func237 qC (by simp) ?_
 unfold kG;simp only [go_sem];refine jp (fun i:Nat=>St.of [(0,Ro (jm l)),(1,.fn f [.rp cd]),(7,Ni l.length),(8,Ni i)] []) (fun i=>i≤l.length∧∀y∈l.take i,p y=false) (fun i=>l.length-i) 0 (by (try dsimp only);first|omega|(simp;done)|(and_intros<;>first|omega|simp)) (jj [] (by simp only [go_sem]<;>and_intros<;>first|rfl|assumption|trivial)) ?_
 rintro k ⟨hk,hko⟩;by_cases hlt:k<l.length
 ·have hlt':(k:Int)<l.length:=by omega
  have h0k:(k:Int)≥0:=by omega
  obtain ⟨x,hx⟩:=je hlt;have hw:IntKind.i64.wrap ((k:Int)+1)=((k+1:Nat):Int):=jg (by omega) (by omega)
  simp only [go_sem,hlt,hlt',h0k,jH hx,jf];refine jiK (by simp only [go_sem];rfl) (hf x) (by simp only [go_sem,jf]) fun η=>?_
  cases hp:p x
  ·simp only [go_sem,hp,hw]
   exact ⟨k+1,⟨hlt,jle hx hp hko⟩,(jj [] (by simp only [go_sem]<;>and_intros<;>first|rfl|assumption|trivial)),by (try dsimp only);omega⟩
  ·simp only [go_sem,hp,jbe hx hp hko]
 ·have hlt':¬(k:Int)<l.length:=by omega
  rw [List.take_of_length_le (by omega)] at hko
  simp only [go_sem,hlt',jab hko]
def zK (y:Yd) (k:Int):Yd:=if 0≤k∧k≤(y.shelf.length:Int)-1 then ⟨y.now,y.seq,y.shelf.set k.toNat (((y.shelf[k.toNat]?).getD []).filter (jN y)),y.runs⟩ else y
theorem jpr {y:Yd} {k:Int} (h:¬(0≤k∧k≤(y.shelf.length:Int)-1)):zK y k=y:=by rw [zK,if_neg h]
theorem jeS {y:Yd} {k:Nat} {l:List En} (h:y.shelf[k]?=some l):zK y k=⟨y.now,y.seq,y.shelf.set k (l.filter (jN y)),y.runs⟩:=by
 have:=(List.getElem?_eq_some_iff.1 h).1;rw [zK,if_pos (by omega)]
 simp [h]
theorem jrf {l:List (List En)} {k:Nat} (v:List En) (hk:k<l.length):D.put [] k [jm v] (kw l)=kw (l.set k v):=by
 have:=jmZ v hk
 rwa [Nat.mul_one] at this
theorem jua (l:List En) (a:En):D.sl 4 tEn (l.flatMap jf++[.val (.int .i64 a.prio),.val (.int .i64 a.seq),.val (.int .i64 a.run),.val (.int .i64 a.task)])=jm (l++[a]):=by simp [jm,jf]
theorem jku (sh:List (List En)):(sh.flatMap fun es=>[jm es])=sh.map jm:=by induction sh<;>simp_all
theorem ji8 {sh:List (List En)} {k:Nat} {l:List En} (h:sh[k]?=some l):(sh.flatMap fun es=>[jm es])[k]?=some (.sl 4 tEn (l.flatMap jf)):=by
 rw [jku,List.getElem?_map,h];rfl
theorem jov {sh:List (List En)} {k i:Nat} {l l2:List En} {ds:List D} (h:sh[k]?=some l) (hp:D.put [] i ds (jm l)=jm l2):D.put [k] i ds (kw sh)=kw (sh.set k l2):=by
 have hd:(sh.flatMap fun es=>[jm es])[k]?=some (jm l):=ji8 h
 simp only [kw,D.put,hd,hp];simp only [jku,List.map_set]
theorem jpH {sh:List (List En)} {k i:Nat} {l:List En} (e:En) (h:sh[k]?=some l) (hi:i<l.length):D.put [k] (i*4) [.val (.int .i64 e.prio),.val (.int .i64 e.seq),.val (.int .i64 e.run),.val (.int .i64 e.task)] (kw sh)=kw (sh.set k (l.set i e)):=jov h (jrh e hi)
def jdx:En:=⟨0,0,0,0⟩
theorem jwT (n:Nat):(List.replicate n [D.val (.int .i64 0),D.val (.int .i64 0),D.val (.int .i64 0),D.val (.int .i64 0)]).flatten=(List.replicate n jdx).flatMap jf:=by
 rw [List.flatMap_replicate];rfl
theorem jxc {l:List En} {i n:Nat} (h:i+n=l.length):D.put [] (i*4) ((List.replicate n jdx).flatMap jf) (jm l)=jm (l.take i++List.replicate n jdx):=by
 have h4:∀x:En,(jf x).length=4:=fun _=>rfl
 have e1:l.flatMap jf=(l.take i).flatMap jf++(l.drop i).flatMap jf:=by rw [←List.flatMap_append,List.take_append_drop]
 have l1:((l.take i).flatMap jf).length=i*4:=by rw [jG h4,List.length_take,Nat.min_eq_left (by omega)]
 have l2:((l.drop i).flatMap jf).length=n*4:=by rw [jG h4,List.length_drop];congr 1;omega
 have l3:((List.replicate n jdx).flatMap jf).length=n*4:=by rw [jG h4,List.length_replicate]
 simp only [jm,D.put];rw [kQ _ _ _ (by rw [e1,List.length_append];omega),e1,List.take_left' l1,l3,List.drop_eq_nil_of_le (by rw [List.length_append];omega),List.append_nil,List.flatMap_append]
theorem jv6:∀{l m:List D},(∀x∈m,x∈l)→ka l=true→ka m=true:=by
 intro l m h hl
 have key:∀{l:List D},ka l=true↔∀x∈l,∃u,x=.val u∧u.oneCell'=true:=by
  intro l
  induction l with
  |nil=>simp [ka]
  |cons a l ih=>
   cases a with
   |val u=>
    simp only [ka,Bool.and_eq_true,ih,List.mem_cons];constructor
    ·rintro ⟨h1,h2⟩ x (rfl|hx)
     ·exact ⟨u,rfl,h1⟩
     ·exact h2 x hx
    ·intro h
     refine ⟨?_,fun x hx=>h x (.inr hx)⟩
     obtain ⟨v,h1,h2⟩:=h _ (.inl rfl);cases h1;exact h2
   |sl a b c=>
    simp only [ka,Bool.false_eq_true,false_iff];intro h;obtain ⟨v,h1,_⟩:=h _ (List.mem_cons_self);cases h1
 exact key.2 fun x hx=>key.1 hl x (h x hx)
theorem jnC (l:List En) (a b:Nat):ka (((l.flatMap jf).drop a).take b)=true:=jv6 (fun x hx=>List.mem_of_mem_drop (List.mem_of_mem_take hx)) (jaI l)
def jfa (sh:List (List En)) (n:Nat) (v:Value):D:=.sl 1 jqQ ((sh.flatMap fun es=>[jm es]).set n (.val v))
theorem jfe (sh:List (List En)) (n:Nat) (v:Value):D.sl 1 jqQ ((sh.flatMap fun es=>[jm es]).set n (.val v))=jfa sh n v:=rfl
theorem jlk (sh:List (List En)) (n:Nat) (v:Value):(jfa sh n v).isSl=true:=rfl
theorem jlg (sh:List (List En)) (n:Nat) (v:Value):(jfa sh n v).size=1:=rfl
theorem jil (sh:List (List En)) (n:Nat) (v:Value):(jfa sh n v).len=sh.length:=by simp [jfa,D.len,D.cells,D.size,jku]
theorem jdi (sh:List (List En)) (n:Nat) (v:Value):(jfa sh n v).cells.length=sh.length:=by simp [jfa,D.cells,jku]
theorem jih {sh:List (List En)} {n:Nat} (v:Value) (l:List En) (h:n<sh.length):D.put [] n [jm l] (jfa sh n v)=kw (sh.set n l):=by
 simp only [jfa,D.put,kC,kw,jku,List.set_set,List.map_set]
theorem jkT (o:Nat→Ob) (g c g2:Nat) (d:D) (η':jq) (d2:D) (η2:jq) (j:Nat):jyD o g c g2 d η' d2 η2 j=if j=g2 then .loose d2 η2 else if j=g then (o g).putOwn c d η' else o j:=rfl
theorem zS {α:Type} {l:List α} {k:Nat} {x:α} (h:l[k]?=some x):l.set k x=l:=by
 apply List.ext_getElem?
 intro j;by_cases e:k=j
 ·subst e;rw [List.getElem?_set_self (List.getElem?_eq_some_iff.1 h).1,h]
 ·rw [List.getElem?_set_ne e]
def jhk:C:=iS [iA 2 (.box 37 4 (.t 0)),iA 4 (.alloc 37 [.int .i64 0,.int .i64 0,.slice none 0 0,.slice none 0 0])] (iS [iA 8 (iT 4 2),iA 9 (.call 105 [.t 8]),iA 5 (.alloc 37 [.int .i64 0,.int .i64 0,.slice none 0 0,.slice none 0 0]),iC (.st 4 [none,none,some (1,102),some (8,108)] (.t 5) (.t 9))] (.seq (iS [iA 10 (iM 1),iA 11 (iF 2 2),iA 12 (iL 11),iA 13 (iG 12),iA 14 (iQ .sub 3 13 1),iA 15 (.call 74 [.t 10,.c (.int .i64 0),.t 14]),iA 16 (iU 15)] (iD 16 (iS [iA 17 (iT 4 5),iC (.st 4 [none,none,some (1,102),some (8,108)] (.t 4) (.t 17))] .ret) .skip)) (iS [iA 18 (.bsl 111 4 0 [] []),iA 6 (iM 18)] (.seq (iS [iA 7 (iN 0)] (.blk 0 (.loop (.seq (iS [iA 19 (iM 7),iA 20 (iF 2 2),iA 21 (iL 20),iA 22 (iM 1),iA 23 (iI 1 21 22),iA 24 (iL 23),iA 25 (iG 24),iA 26 (iP .lss 3 19 25)] (iD 26 .skip (.exit 0))) (.seq (.blk 1 (.seq (.dreg (T.pure 0 (iA 29 (iT 4 2)) (T.pure 1 (iA 30 (iF 2 2)) (T.pure 2 (iA 31 (iL 30)) (T.pure 3 (iA 32 (iM 1)) (T.pure 4 (iA 33 (iI 1 31 32)) (T.pure 5 (iA 34 (iL 33)) (T.pure 6 (iA 35 (iM 7)) (T.pure 7 (iA 36 (iI 4 34 35)) (T.pure 8 (iA 37 (iT 4 36)) (T.alt (iA 38 (.call 141 [.t 29,.t 37])) [] T.done T.stop))))))))))) (iD 38 (.reg [iA 39 (iM 6),iA 40 (iF 2 2),iA 41 (iL 40),iA 42 (iM 1),iA 43 (iI 1 41 42),iA 44 (iL 43),iA 45 (iM 7),iA 46 (iI 4 44 45),iA 47 (iT 4 46),iA 48 (.bsl 111 4 1 [none,none,none,none] [(0,4,.t 47)]),iA 49 (.app 111 4 32 (.t 39) (.t 48)),iA 6 (iM 49)]) .skip))) (.reg [iA 27 (iM 7),iA 28 (iQ .add 3 27 1),iA 7 (iM 28)])))))) (iS [iA 50 (iF 2 5),iA 51 (iL 50),iA 52 (iM 1),iA 53 (iM 6),iA 54 (iI 1 51 52),iC (.st 1 [some (4,111)] (.t 54) (.t 53))] (iS [iA 55 (iT 4 5),iC (.st 4 [none,none,some (1,102),some (8,108)] (.t 4) (.t 55))] .ret))))))
theorem jjn:fnC Tryz.prog Tryz.f190=some (jhk,[.cell 4 true 4],56):=by kernel_rfl
def jed:C:=iS [iA 2 (.box 111 4 (.t 0)),iA 3 (iO false)] (iS [iA 4 (iT 4 1),iA 5 (iT 4 2),iA 6 (.call 57 [.t 4,.t 5]),iA 7 (iU 6),iA 3 (iM 7)] .ret)
theorem jgT:fnC Tryz.prog Tryz.f275=some (jed,[.t 3],8):=by kernel_rfl
def jhp:C:=iS [iA 2 (.box 37 4 (.t 0)),iA 4 (.alloc 37 [.int .i64 0,.int .i64 0,.slice none 0 0,.slice none 0 0])] (iS [iA 6 (iT 4 2),iA 7 (.call 118 [.t 6]),iA 5 (.alloc 37 [.int .i64 0,.int .i64 0,.slice none 0 0,.slice none 0 0]),iC (.st 4 [none,none,some (1,102),some (8,108)] (.t 5) (.t 7))] (.seq (iS [iA 8 (iM 1),iA 9 (iF 2 2),iA 10 (iL 9),iA 11 (iG 10),iA 12 (iQ .sub 3 11 1),iA 13 (.call 78 [.t 8,.c (.int .i64 0),.t 12]),iA 14 (iU 13)] (iD 14 (iS [iA 15 (iT 4 5),iC (.st 4 [none,none,some (1,102),some (8,108)] (.t 4) (.t 15))] .ret) .skip)) (.seq (.dreg (T.pure 0 (iA 16 (iF 2 5)) (T.pure 1 (iA 17 (iL 16)) (T.pure 2 (iA 18 (iM 1)) (T.pure 3 (iA 19 (iF 2 5)) (T.pure 4 (iA 20 (iL 19)) (T.pure 5 (iA 21 (iM 1)) (T.pure 6 (iA 22 (iI 1 20 21)) (T.pure 7 (iA 23 (iL 22)) (T.pure 8 (iA 24 (.mkf 275 [.t 2])) (T.alt (iA 25 (.call 147 [.t 23,.t 24])) [2,1,0] (T.pure 10 (iA 26 (iI 1 17 18)) (T.alt (iC (.st 1 [some (4,111)] (.t 26) (.t 25))) [] T.done T.stop)) T.stop))))))))))) (iS [iA 27 (iT 4 5),iC (.st 4 [none,none,some (1,102),some (8,108)] (.t 4) (.t 27))] .ret))))
theorem jjt:fnC Tryz.prog Tryz.f215=some (jhp,[.cell 4 true 4],28):=by kernel_rfl
def ke:C:=iS [iA 4 (.mov (.c (.slice none 0 0)))] (iS [iA 8 (iM 0),iA 9 (iM 1),iA 10 (.call 237 [.t 8,.t 9]),iA 5 (iM 10)] (.seq (iS [iA 11 (iM 5),iA 12 (iQ .eql 3 11 (-1))] (iD 12 (iS [iA 13 (iM 0),iA 4 (iM 13)] .ret) .skip)) (.seq (iS [iA 14 (iM 5),iA 15 (iQ .add 3 14 1),iA 6 (iM 15)] (.blk 0 (.loop (.seq (iS [iA 16 (iM 6),iA 17 (iM 0),iA 18 (iG 17),iA 19 (iP .lss 3 16 18)] (iD 19 .skip (.exit 0))) (.seq (.blk 1 (iS [iA 22 (iM 0),iA 23 (iM 6),iA 24 (iI 4 22 23),iA 25 (iT 4 24),iA 7 (.alloc 111 [.int .i64 0,.int .i64 0,.int .i64 0,.int .i64 0]),iC (.st 4 [none,none,none,none] (.t 7) (.t 25))] (iS [iA 26 (iM 1),iA 27 (iT 4 7),iA 28 (.callv (.t 26) [.t 27]),iA 29 (iU 28)] (iD 29 (iS [iA 30 (iM 0),iA 31 (iM 5),iA 32 (iT 4 7),iA 33 (iI 4 30 31),iC (.st 4 [none,none,none,none] (.t 33) (.t 32))] (.reg [iA 34 (iM 5),iA 35 (iQ .add 3 34 1),iA 5 (iM 35)])) .skip)))) (.reg [iA 20 (iM 6),iA 21 (iQ .add 3 20 1),iA 6 (iM 21)])))))) (iS [iA 36 (iM 0),iA 37 (iM 5),iA 38 (.sl 4 (.t 36) (some (.t 37)) none),iC (.clr 4 [D.val (.int .i64 0),D.val (.int .i64 0),D.val (.int .i64 0),D.val (.int .i64 0)] (.t 38))] (iS [iA 39 (iM 0),iA 40 (iM 5),iA 41 (.sl 4 (.t 39) none (some (.t 40))),iA 4 (iM 41)] .ret)))))
theorem ky:fnC Tryz.prog Tryz.f147=some (ke,[.t 4],42):=by kernel_rfl
theorem jha (y:Yd) (k:Int) (ht:jK y≤2000000):kp Tryz.prog 190 [.agg (jb y),.c (.val (.int .i64 k))] (.agg (jb (zK y k))):=by
 refine js Tryz.func190 jjn (by simp) ?_
 unfold jhk;have hsl:y.shelf.length≤2000000:=by simp only [jK,jb9] at ht;omega
 have hws:IntKind.i64.wrap ((y.shelf.length:Int)-1)=(y.shelf.length:Int)-1:=jg (by omega) (by omega)
 simp only [go_sem,jb];intro b2 b4;refine jc (ku y ht) (by simp only [go_sem,jb]) fun ηc=>?_
 simp only [go_sem,jb];intro b5;simp only [go_sem,jb,hws];refine jc (jJ k 0 (y.shelf.length-1)) (by simp only [go_sem,jb,hws]) fun η=>?_
 simp only [go_sem,jb,hws];cases h:decide (0≤k∧k≤(y.shelf.length:Int)-1)
 ·simp only [go_sem,jb,h,jpr (of_decide_eq_false h)]
 have h':=of_decide_eq_true h;obtain ⟨n,rfl⟩:=Int.eq_ofNat_of_zero_le h'.1;have hn:n<y.shelf.length:=by omega
 have h0n:(n:Int)≥0:=by omega
 obtain ⟨l,hl⟩:=je hn;have hll:=ja4 ht (List.mem_of_getElem? hl);rw [jeS hl];simp only [go_sem,jb,h,jda];intro η18;refine jp (fun i:Nat×jq=>St.of [(1,Ni n),(2,Bx 200 b2),(4,Bx 400 b4),(5,Bx 500 b5),(6,Hd 6 i.2),(7,Ni i.1)] [(200,Bi b2 _ (jb y)),(400,ZYd b4 _),(500,kt b5 _ y.now y.seq y.shelf (ηc 2) y.runs (ηc 3)),(6,.loose (jm ((l.take i.1).filter (jN y))) i.2)]) (fun i=>i.1≤l.length) (fun i=>l.length-i.1) (0,η18) (by (try dsimp only);first|omega|(simp;done)|(and_intros<;>first|omega|simp)) (jj [some 200,some 400,some 500,some 1800] (by simp only [go_sem,jb,List.take_zero,List.filter_nil]<;>and_intros<;>first|rfl|assumption|trivial)) ?_
 rintro ⟨j,ηj⟩ hj;dsimp only at hj;by_cases hlt:j<l.length
 ·have hlt':(j:Int)<l.length:=by omega
  have h0j:(j:Int)≥0:=by omega
  obtain ⟨e,he⟩:=je hlt;have hw:IntKind.i64.wrap ((j:Int)+1)=((j+1:Nat):Int):=jg (by omega) (by omega)
  have hft:=jev (f:=jN y) he;have hfl:((l.take j).filter (jN y)).length≤4000000:=Nat.le_trans (List.length_filter_le _ _) (by rw [List.length_take];omega)
  generalize (l.take j).filter (jN y)=M at*;have m1:M.length+1≤maxLen:=by unfold maxLen;omega
  have m2:(M.length+1)*32≤140737488355328:=by omega
  simp only [go_sem,jb,hn,h0n,kY hl,hlt,hlt',h0j,jH he,jf];refine jc (jhb y e) (by simp only [go_sem,jb,jf]) fun η=>?_
  simp only [go_sem,jb,jf];cases hf:jN y e
  ·rw [hf] at hft
   simp only [Bool.false_eq_true,if_false] at hft;simp only [go_sem,jb,hf,hw];exact ⟨(j+1,ηj),by (try dsimp only);first|omega|assumption|(and_intros<;>first|omega|assumption),(jj [some 200,some 400,some 500,some 6] (by simp only [go_sem,jb,hft]<;>and_intros<;>first|rfl|assumption|trivial)),by (try dsimp only);omega⟩
  ·rw [hf] at hft
   simp only [if_true] at hft;simp only [go_sem,jb,hn,h0n,kY hl,hlt,hlt',h0j,jH he,jf,hf,m1,m2,jua,hw];intro η48 η49;exact ⟨(j+1,η49),by (try dsimp only);first|omega|assumption|(and_intros<;>first|omega|assumption),(jj [some 200,some 400,some 500,some 4900] (by simp only [go_sem,jb,hft]<;>and_intros<;>first|rfl|assumption|trivial)),by (try dsimp only);omega⟩
 have hlt':¬(j:Int)<l.length:=by omega
 rw [List.take_of_length_le (by omega)]
 generalize l.filter (jN y)=M at*;simp only [go_sem,jb,hn,h0n,kY hl,hlt',jaF hn,jmZ M hn,jrf M hn];exact fun _ _=>trivial
theorem jpQ (y:Yd) (e:En):kp Tryz.prog 275 [.agg (jf e),.ptr (jb y)] (.c (.val (.bool (!jN y e)))):=by
 refine js Tryz.func275 jgT (by simp) ?_
 unfold jed;simp only [go_sem,jb,jf];intro b2;refine jc (jaD y e) (by simp only [go_sem,jb,jf]) fun η=>?_
 simp only [go_sem,jb,jf]
theorem jhd (y:Yd) (k:Int) (ht:jK y≤2000000):kp Tryz.prog 215 [.agg (jb y),.c (.val (.int .i64 k))] (.agg (jb (zK y k))):=by
 refine js Tryz.func215 jjt (by simp) ?_
 unfold jhp;have hsl:y.shelf.length≤2000000:=by simp only [jK,jb9] at ht;omega
 have hws:IntKind.i64.wrap ((y.shelf.length:Int)-1)=(y.shelf.length:Int)-1:=jg (by omega) (by omega)
 simp only [go_sem,jb];intro b2 b4;refine jc (kj y ht) (by simp only [go_sem,jb]) fun ηc=>?_
 simp only [go_sem,jb];intro b5;simp only [go_sem,jb,hws];refine jc (jD k 0 (y.shelf.length-1)) (by simp only [go_sem,jb,hws]) fun η=>?_
 simp only [go_sem,jb,hws];cases h:decide (0≤k∧k≤(y.shelf.length:Int)-1)
 ·simp only [go_sem,jb,h,jpr (of_decide_eq_false h)]
 have h':=of_decide_eq_true h;obtain ⟨n,rfl⟩:=Int.eq_ofNat_of_zero_le h'.1;have hn:n<y.shelf.length:=by omega
 have h0n:(n:Int)≥0:=by omega
 obtain ⟨l,hl⟩:=je hn;have hll:=ja4 ht (List.mem_of_getElem? hl);rw [jeS hl];have hi1:n+1≤(y.shelf.flatMap fun es=>[jm es]).length:=by have:=jaF hn;rwa [Nat.mul_one] at this
 have ha1:((y.shelf.flatMap fun es=>[jm es]).drop n).take 1=[jm l]:=by have:=jbF hl;rwa [Nat.mul_one] at this
 simp only [go_sem,jb,h,hn,h0n,kY hl,ha1,hi1,Nat.mul_one];refine kS (jtS ?_);refine ql (β:=7000000) Tryz.func147 ky (by simp) ?_
 unfold ke;simp only [go_sem,jb];refine jc (jbw l _ (jb y) (fun e=>!jN y e) (fun x=>jpQ y x) hll) (by simp only [go_sem,jb,km hl]) fun η=>?_
 simp only [go_sem,jb]
 have hcut:∀(L:List En) (m:Nat),m≤L.length→(L.flatMap jf).take (m*4)=(L.take m).flatMap jf:=fun L m hm=>by
  have e1:L.flatMap jf=(L.take m).flatMap jf++(L.drop m).flatMap jf:=by rw [←List.flatMap_append,List.take_append_drop]
  rw [e1,List.take_left' (by rw [jG jqk,List.length_take,Nat.min_eq_left hm])]
 rcases zl (fun e=>!jN y e) l with ⟨h1,h2⟩|⟨i0,x0,h1,h2,h3,h4⟩
 ·have hfl:l.filter (jN y)=l:=List.filter_eq_self.2 fun e he=>by have:=h2 e he;simpa using this
  simp only [go_sem,jb,h1,beq_self_eq_true];refine ⟨500,2,n,777,l.length,4,tEn,jqQ,l.flatMap jf,_,ηc 2,.inr ⟨rfl,(jG jqk l).symm⟩,by simp only [go_sem];rfl,ji8 hl,by simp only [go_sem],by decide,by decide,by rw [jG jqk];exact Nat.le_refl _,fun η2 η' hη=>?_⟩
  rw [hcut l l.length (Nat.le_refl _),List.take_length,hfl];simp only [go_sem,jkT,jfe,hη,jlk,jlg,jil,hn,h0n,Nat.mul_one,jdi,hi1,jih _ l hn,ko];exact ⟨hn,fun _ _=>trivial⟩
 ·have hi0:=(List.getElem?_eq_some_iff.1 h2).1
  have hne:((i0:Int)==-1)=false:=by simp
  have hw0:IntKind.i64.wrap ((i0:Int)+1)=((i0+1:Nat):Int):=jg (by omega) (by omega)
  have hset0:=zS hl;simp only [go_sem,jb,h1,hne,hw0];refine jp (fun i:Nat×Nat×List En=>St.of [(0,.c (.h 500 2 [n] (ηc 2 [n]))),(1,.fn 275 [.bp 200 0 b2]),(5,Ni i.1),(6,Ni i.2.1)] [(200,Bi b2 _ (jb y)),(400,ZYd b4 _),(500,kt b5 _ y.now y.seq (y.shelf.set n i.2.2) (ηc 2) y.runs (ηc 3))]) (fun i=>jxl (fun e=>!jN y e) l i.2.2 i.1 i.2.1) (fun i=>l.length-i.2.1) (i0,i0+1,l) (jA0 h2 h3 h4) (jj [some 200,some 400,some 500] (by simp only [go_sem,jb,hset0]<;>and_intros<;>first|rfl|assumption|trivial)) ?_
  rintro ⟨i,j,L⟩ hd;dsimp only at hd;have hL:(y.shelf.set n L)[n]?=some L:=List.getElem?_set_self hn;have hLl:=hd.len;have hij:=hd.ij;have hjl:=hd.jl;have h0i:(i:Int)≥0:=by omega
  by_cases hlt:j<l.length
  ·have hlt':(j:Int)<l.length:=by omega
   have h0j:(j:Int)≥0:=by omega
   obtain ⟨e,he⟩:=je hlt;have heL:L[j]?=some e:=by rw [hd.suf j (Nat.le_refl _)];exact he
   have hiL:i<L.length:=by omega
   have hjL:j<L.length:=by omega
   obtain ⟨xi,hxi⟩:=je hiL;have hw:IntKind.i64.wrap ((j:Int)+1)=((j+1:Nat):Int):=jg (by omega) (by omega)
   have hwi:IntKind.i64.wrap ((i:Int)+1)=((i+1:Nat):Int):=jg (by omega) (by omega)
   simp only [go_sem,jb,km hL,hLl,hlt,hlt',h0j,jr9 heL,jrM heL,jf];intro b7;refine jiK (by simp only [go_sem];rfl) (jpQ y e) (by simp only [go_sem,jb,jf]) fun η=>?_
   cases hf:jN y e
   ·simp only [go_sem,jb,jf,hf,hw]
    exact ⟨(i,j+1,L),jw8 hd he (by simp [hf]),(jj [some 200,some 400,some 500] (by simp only [go_sem,jb]<;>and_intros<;>first|rfl|assumption|trivial)),by (try dsimp only);omega⟩
   ·simp only [go_sem,jb,jf,hf,hw,hwi,km hL,hLl,h0i,jr9 hxi,jrM hxi,jpH e hL hiL,List.set_set,(show i<l.length by omega)]
    exact ⟨(i+1,j+1,L.set i e),jul hd he (by simp [hf]),(jj [some 200,some 400,some 500] (by simp only [go_sem,jb]<;>and_intros<;>first|rfl|assumption|trivial)),by (try dsimp only);omega⟩
  ·have hlt':¬(j:Int)<l.length:=by omega
   obtain rfl:j=l.length:=by omega
   have hde:=jum hd;have hfe:l.filter (fun e=>!!jN y e)=l.filter (jN y):=by simp
   rw [hfe] at hde;have hin:i≤l.length:=by omega
   have hpos:0<l.length-i:=by omega
   have hsum:i+(l.length-i)=l.length:=by omega
   have hsum2:i+(l.length-i)=L.length:=by omega
   have hrf:ka ((List.replicate (l.length-i) jdx).flatMap jf)=true:=jaI _;obtain ⟨L2,hL2⟩:∃L2,L2=L.take i++List.replicate (l.length-i) jdx:=⟨_,rfl⟩;have hL2l:L2.length=l.length:=by rw [hL2];simp;omega
   have hL2t:L2.take i=l.filter (jN y):=by rw [hL2,List.take_left' (by rw [List.length_take];omega),hde]
   have hp2:D.put [n] (i*4) ((List.replicate (l.length-i) jdx).flatMap jf) (kw (y.shelf.set n L))=kw (y.shelf.set n L2):=by rw [jov hL (jxc hsum2),List.set_set,hL2]
   have hg2:(y.shelf.set n L2)[n]?=some L2:=List.getElem?_set_self hn;have hns:n<(y.shelf.set n L2).length:=by rw [List.length_set];exact hn
   simp only [go_sem,jb,km hL,hLl,hlt',h0i,hin,Nat.le_refl,hpos,hsum,jwT,jnC,hrf,hp2,km hg2,hL2l];refine ⟨500,2,n,777,i,4,tEn,jqQ,L2.flatMap jf,_,ηc 2,.inl rfl,by simp only [go_sem];rfl,ji8 hg2,by simp only [go_sem],by decide,by decide,by rw [jG jqk];omega,fun η2 η' hη=>?_⟩
   rw [hcut L2 i (by omega),hL2t]
   simp only [go_sem,jkT,jfe,hη,jlk,jlg,jil,hns,h0n,Nat.mul_one,jdi,jih _ (l.filter (jN y)) hns,ko,List.set_set,List.length_set,hn];exact ⟨hn,fun _ _=>trivial⟩
def jjM (l:List En) (e:En):Nat:=if jdm (fun x=>!kr x e) l<0 then l.length else (jdm (fun x=>!kr x e) l).toNat
def jb2 (l:List En) (e:En):List En:=jkP l (jjM l e) e
theorem jx4 {l:List En} {e x:En} {k:Nat} (h:l[k]?=some x) (hx:kr x e=false) (hn:∀y∈l.take k,(fun x=>!kr x e) y=false):jjM l e=k:=by
 have h1:=jbe (f:=fun x=>!kr x e) h (by simp [hx]) hn
 rw [jjM,h1,if_neg (by omega)];exact Int.toNat_natCast k
theorem jpM {l:List En} {e:En} (hn:∀y∈l,(fun x=>!kr x e) y=false):jjM l e=l.length:=by
 rw [jjM,jab hn];rfl
theorem jte (l:List En) (e:En):jjM l e≤l.length:=by
 rcases zl (fun x=>!kr x e) l with ⟨_,h2⟩|⟨k,x,h1,h2,h3,h4⟩
 ·rw [jpM h2];exact Nat.le_refl _
 ·rw [jjM,h1,if_neg (by omega),Int.toNat_natCast];exact Nat.le_of_lt (List.getElem?_eq_some_iff.1 h2).1
theorem jpL (l:List En) (e:En):(jb2 l e).length=l.length+1:=by
 have:=jte l e;simp [jb2,jkP];omega
theorem jj9 (e:En):D.sl 4 tEn [.val (.int .i64 e.prio),.val (.int .i64 e.seq),.val (.int .i64 e.run),.val (.int .i64 e.task)]=jm [e]:=rfl
theorem jub (l:List En) (e:En):l.flatMap jf++[.val (.int .i64 e.prio),.val (.int .i64 e.seq),.val (.int .i64 e.run),.val (.int .i64 e.task)]=(l++[e]).flatMap jf:=by simp [jf]
theorem jw7 (l m:List En):l.flatMap jf++m.flatMap jf=(l++m).flatMap jf:=List.flatMap_append.symm
def jcO:C:=iS [iA 3 (.box 111 4 (.t 1)),iA 4 (.mov (.c (.slice none 0 0)))] (iS [iA 5 (iN 0)] (.seq (.blk 0 (.loop (.seq (.seq (.dreg (T.pure 0 (iA 7 (iM 5)) (T.pure 1 (iA 8 (iM 0)) (T.pure 2 (iA 9 (iG 8)) (T.pure 3 (iA 10 (iP .lss 3 7 9)) (T.pure 4 (iA 11 (iM 10)) (T.pure 5 (iB 12 11 true (iM 0)) (T.pure 6 (iB 13 11 true (iM 5)) (T.pure 7 (iB 14 11 true (iI 4 12 13)) (T.pure 8 (iB 15 11 true (iT 4 14)) (T.pure 9 (iB 16 11 true (iT 4 3)) (T.alt (iB 17 11 true (.call 283 [.t 15,.t 16])) [] (T.pure 11 (iA 18 (.pick (.t 11) (.t 17) (.c (.bool false)))) T.done) T.stop)))))))))))) (iD 18 .skip (.exit 0))) (.blk 1 (.reg [iA 19 (iM 5),iA 20 (iQ .add 3 19 1),iA 5 (iM 20)]))))) (iS [iA 21 (.bsl 111 4 0 [] []),iA 22 (iM 0),iA 23 (iM 5),iA 24 (.sl 4 (.t 22) none (some (.t 23))),iA 25 (.app 111 4 32 (.t 21) (.t 24)),iA 6 (iM 25)] (iS [iA 26 (iM 6),iA 27 (iT 4 3),iA 28 (.bsl 111 4 1 [none,none,none,none] [(0,4,.t 27)]),iA 29 (.app 111 4 32 (.t 26) (.t 28)),iA 6 (iM 29)] (iS [iA 30 (iM 6),iA 31 (iM 0),iA 32 (iM 5),iA 33 (.sl 4 (.t 31) (some (.t 32)) none),iA 34 (.app 111 4 32 (.t 30) (.t 33)),iA 4 (iM 34)] .ret)))))
theorem jfp:fnC Tryz.prog Tryz.f260=some (jcO,[.t 4],35):=by kernel_rfl
def jcW:C:=iS [iA 3 (.box 111 4 (.t 1)),iA 4 (.mov (.c (.slice none 0 0)))] (iS [iA 6 (iM 0),iA 7 (.mkf 289 [.t 3]),iA 8 (.call 237 [.t 6,.t 7]),iA 5 (iM 8)] (.seq (iS [iA 9 (iM 5),iA 10 (iQ .lss 3 9 0)] (iD 10 (.reg [iA 11 (iM 0),iA 12 (iG 11),iA 5 (iM 12)]) .skip)) (.seq (.dreg (T.pure 0 (iA 13 (iM 0)) (T.pure 2 (iA 15 (iM 5)) (T.pure 3 (iA 16 (iT 4 3)) (T.alt (iA 14 (.call 208 [.t 13])) [3,2] (T.alt (iA 17 (.bsl 111 4 1 [none,none,none,none] [(0,4,.t 16)])) [2,0] (T.alt (iA 18 (.call 290 [.t 14,.t 15,.t 17])) [] (T.pure 6 (iA 4 (iM 18)) T.done) T.stop) T.stop) (T.alt (iA 17 (.bsl 111 4 1 [none,none,none,none] [(0,4,.t 16)])) [2,0] (T.alt (iA 14 (.call 208 [.t 13])) [3,2] (T.alt (iA 18 (.call 290 [.t 14,.t 15,.t 17])) [] (T.pure 6 (iA 4 (iM 18)) T.done) T.stop) T.stop) T.stop)))))) .ret)))
theorem jfv:fnC Tryz.prog Tryz.f274=some (jcW,[.t 4],19):=by kernel_rfl
def jbm:C:=iS [iA 2 (.box 111 4 (.t 0)),iA 3 (iO false)] (iS [iA 4 (iT 4 2),iA 5 (iT 4 1),iA 6 (.call 233 [.t 4,.t 5]),iA 7 (iU 6),iA 3 (iM 7)] .ret)
theorem jdu:fnC Tryz.prog Tryz.f289=some (jbm,[.t 3],8):=by kernel_rfl
theorem jai (l:List En) (e:En) (hl:l.length≤4000000):kp Tryz.prog 260 [.c (jm l),.agg (jf e)] (.c (jm (jb2 l e))):=by
 refine js Tryz.func260 jfp (by simp) ?_
 unfold jcO;simp only [go_sem,jf];intro b3;refine jp (fun i:Nat=>St.of [(0,Ro (jm l)),(3,Bx 300 b3),(5,Ni i)] [(300,Bi b3 _ (jf e))]) (fun i=>i≤l.length∧∀y∈l.take i,(fun x=>!kr x e) y=false) (fun i=>l.length-i) 0 (by (try dsimp only);first|omega|(simp;done)|(and_intros<;>first|omega|simp)) (jj [some 300] (by simp only [go_sem,jf]<;>and_intros<;>first|rfl|assumption|trivial)) ?_
 rintro k ⟨hk,hko⟩;have h0k:(k:Int)≥0:=by omega
 have hkl:=hk;have htd:(l.drop k).take (l.length-k)=l.drop k:=List.take_of_length_le (by rw [List.length_drop];omega)
 obtain ⟨A,hA⟩:∃A,l.take k++[e]=A:=⟨_,rfl⟩;have hAl:A.length=k+1:=by rw [←hA,List.length_append,List.length_take,Nat.min_eq_left hk];rfl
 have hM:∀(hp:jjM l e=k),jm (jb2 l e)=jm (A++l.drop k):=fun hp=>by rw [jb2,hp,jkP,←hA];simp
 have l1:(l.take k).length≤4000000:=by rw [List.length_take];omega
 have l2:(l.drop k).length≤4000000:=by rw [List.length_drop];omega
 have m1:(l.take k).length≤maxLen:=by unfold maxLen;omega
 have m2:(l.take k).length*32≤140737488355328:=by omega
 have m3:(l.take k).length+1≤maxLen:=by unfold maxLen;omega
 have m4:((l.take k).length+1)*32≤140737488355328:=by omega
 have m5:A.length+(l.drop k).length≤maxLen:=by unfold maxLen;omega
 have m6:(A.length+(l.drop k).length)*32≤140737488355328:=by omega
 by_cases hlt:k<l.length
 ·have hlt':(k:Int)<l.length:=by omega
  obtain ⟨x,hx⟩:=je hlt;have hw:IntKind.i64.wrap ((k:Int)+1)=((k+1:Nat):Int):=jg (by omega) (by omega)
  simp only [go_sem,jf,hlt,hlt',h0k,jH hx];refine jc (jhc x e) (by simp only [go_sem,jf]) fun η=>?_
  simp only [go_sem,jf];cases ha:kr x e
  ·rw [hM (jx4 hx ha hko)]
   simp only [go_sem,jf,ha,hk,h0k,Nat.le_refl,htd,m1,m2,m3,m4,jub,hA,m5,m6,jw7,ko]
  ·simp only [go_sem,jf,ha,hw]
   exact ⟨k+1,⟨hlt,jle hx (by simp [ha]) hko⟩,(jj [some 300] (by simp only [go_sem,jf]<;>and_intros<;>first|rfl|assumption|trivial)),by (try dsimp only);omega⟩
 have hlt':¬(k:Int)<l.length:=by omega
 have hko':∀y∈l,(fun x=>!kr x e) y=false:=by rw [List.take_of_length_le (by omega)] at hko;exact hko
 rw [hM (by rw [jpM hko'];omega)]
 simp only [go_sem,jf,hlt',hk,h0k,Nat.le_refl,htd,m1,m2,m3,m4,jub,hA,m5,m6,jw7,ko]
theorem jAf (x e:En):kp Tryz.prog 289 [.agg (jf x),.ptr (jf e)] (.c (.val (.bool (!kr x e)))):=by
 refine js Tryz.func289 jdu (by simp) ?_
 unfold jbm;simp only [go_sem,jf];intro b2;refine jc (jhf x e) (by simp only [go_sem,jf]) fun η=>?_
 simp only [go_sem,jf]
theorem jaj (l:List En) (e:En) (hl:l.length≤4000000):kp Tryz.prog 274 [.c (jm l),.agg (jf e)] (.c (jm (jb2 l e))):=by
 refine js Tryz.func274 jfv (by simp) ?_
 unfold jcW;simp only [go_sem,jf];intro b3;refine jc (jbw l _ (jf e) (fun x=>!kr x e) (fun x=>jAf x e) hl) (by simp only [go_sem,jf]) fun η=>?_
 have hkl:=jte l e;have hfin:∀(n:Nat),jjM l e=n→jb2 l e=jkP l n e:=fun n h=>by rw [jb2,h]
 by_cases hneg:jdm (fun x=>!kr x e) l<0
 ·have hp:jjM l e=l.length:=by rw [jjM,if_pos hneg]
  rw [hfin _ hp];simp only [go_sem,jf,hneg];refine ⟨?_,?_⟩
  ·refine jc (kh l hl) (by simp only [go_sem,jf,jj9]) fun ηa=>?_
   simp only [go_sem,jf,jj9];intro η17;refine jeV (R:=fun rt _=>rt=.c (jm (jkP l l.length e))) (by simp only [go_sem];exact (jid l l.length e (by omega) hl (by simp only [go_sem]) (by simp only [go_sem]) (by decide)).mono fun rt o' h=>h.1) fun rt o' hR η=>?_
   subst hR;simp only [go_sem]
  ·simp only [go_sem,jf,jj9]
   intro η17;refine jc (kh l hl) (by simp only [go_sem,jf,jj9]) fun ηa=>?_
   simp only [go_sem,jf,jj9];refine jeV (R:=fun rt _=>rt=.c (jm (jkP l l.length e))) (by simp only [go_sem];exact (jid l l.length e (by omega) hl (by simp only [go_sem]) (by simp only [go_sem]) (by decide)).mono fun rt o' h=>h.1) fun rt o' hR η=>?_
   subst hR;simp only [go_sem]
 ·have hn:jdm (fun x=>!kr x e) l=((jjM l e:Nat):Int):=by rw [jjM,if_neg hneg];omega
  rw [hfin _ rfl];generalize jjM l e=n at*;have hn0:¬(n:Int)<0:=by omega
  rw [hn];simp only [go_sem,jf,hn0];refine ⟨?_,?_⟩
  ·refine jc (kh l hl) (by simp only [go_sem,jf,jj9]) fun ηa=>?_
   simp only [go_sem,jf,jj9];intro η17;refine jeV (R:=fun rt _=>rt=.c (jm (jkP l n e))) (by simp only [go_sem];exact (jid l n e (by omega) hl (by simp only [go_sem]) (by simp only [go_sem]) (by decide)).mono fun rt o' h=>h.1) fun rt o' hR η=>?_
   subst hR;simp only [go_sem]
  ·simp only [go_sem,jf,jj9]
   intro η17;refine jc (kh l hl) (by simp only [go_sem,jf,jj9]) fun ηa=>?_
   simp only [go_sem,jf,jj9];refine jeV (R:=fun rt _=>rt=.c (jm (jkP l n e))) (by simp only [go_sem];exact (jid l n e (by omega) hl (by simp only [go_sem]) (by simp only [go_sem]) (by decide)).mono fun rt o' h=>h.1) fun rt o' hR η=>?_
   subst hR;simp only [go_sem]
def C.sub:List Nat→C→C
 |[],c=>c
 |0::p,.seq a _=>a.sub p
 |_::p,.seq _ b=>b.sub p
 |0::p,.cond _ a _=>a.sub p
 |_::p,.cond _ _ b=>b.sub p
 |_::p,.blk _ a=>a.sub p
 |_::p,.loop a=>a.sub p
 |_,c=>c
section
variable {s:St}
def resT (s:St) (rs:List R) (K:List (Bool×List A0)→Prop):AV→Prop
 |.agg l=>jhv s rs fun ps=>K ((true,l)::ps)
 |.c a=>jhv s rs fun ps=>K ((false,[a])::ps)
 |_=>False
def resC (s:St) (agg:Bool) (size:Nat) (rs:List R) (K:List (Bool×List A0)→Prop):AV→Prop
 |.c (.bp g c b)=>ldB (s.o g) g c b size fun l=>(agg=true∨l.length=1)∧jhv s rs fun ps=>K ((agg,l)::ps)
 |_=>False
theorem vh (rs:List R) (rt:RT):jwD rs rt s=jhv s rs fun ps=>jao rt ps∧qA s (ps.flatMap (·.2)) fun cs _=>IsD cs rt.flat:=rfl
theorem jV (K:List (Bool×List A0)→Prop):jhv s [] K=K []:=rfl
theorem jkC (n:Nat) (rs:List R) (K:List (Bool×List A0)→Prop):jhv s (.t n::rs) K=resT s rs K (s.t n):=by
 simp only [jhv,resT];split<;>simp_all
theorem jkB (rs:List R) (K:List (Bool×List A0)→Prop) (a:A0):resT s rs K (.c a)=jhv s rs fun ps=>K ((false,[a])::ps):=rfl
theorem jB (agg:Bool) (size:Nat) (rs:List R) (K:List (Bool×List A0)→Prop) (g c b:Nat):resC s agg size rs K (.c (.bp g c b))=ldB (s.o g) g c b size fun l=>(agg=true∨l.length=1)∧jhv s rs fun ps=>K ((agg,l)::ps):=rfl
theorem jt (n:Nat) (agg:Bool) (size:Nat) (rs:List R) (K:List (Bool×List A0)→Prop) (h:resC s agg size rs K (s.t n)):jhv s (.cell n agg size::rs) K:=by
 unfold resC at h;split at h
 ·rename_i g c b he
  simp only [ldB] at h;split at h
  ·rename_i b' ty cs ho
   obtain ⟨e1,e2,e3,e4⟩:=h;subst e1;simp only [jhv,he];exact ⟨_,⟨ty,cs,ho,e2,rfl⟩,e3,e4⟩
  ·exact h.elim
 ·exact h.elim
theorem jM (l:List (Bool×List D)) (ps:List (Bool×List A0)):jao (.tup l) ps=(ps.length≠1∧ps.map (fun p=>(p.1,p.2.length))=l.map (fun p=>(p.1,p.2.length))):=rfl
end
def vl (l:List En):List En:=l.take ((l.length+1)/2)
def jav (l:List En):List En:=l.drop ((l.length+1)/2)
def jfK:C:=iS [iA 2 (.mov (.c (.slice none 0 0))),iA 3 (.mov (.c (.slice none 0 0)))] (iS [iA 5 (iM 0),iA 6 (iG 5),iA 7 (iQ .add 3 6 1),iA 8 (iQ .quo 3 7 2),iA 4 (iM 8)] (.seq (.dreg (T.pure 1 (iA 10 (iM 0)) (T.pure 2 (iA 11 (iM 4)) (T.pure 3 (iA 12 (.sl 4 (.t 10) none (some (.t 11)))) (T.pure 6 (iA 15 (iM 0)) (T.pure 7 (iA 16 (iM 4)) (T.pure 8 (iA 17 (.sl 4 (.t 15) (some (.t 16)) none)) (T.alt (iA 9 (.bsl 111 4 0 [] [])) [8,7,6,3,2,1] (T.alt (iA 13 (.app 111 4 32 (.t 9) (.t 12))) [8,7,6] (T.alt (iA 14 (.bsl 111 4 0 [] [])) [8,7,6,3,2,1] (T.alt (iA 18 (.app 111 4 32 (.t 14) (.t 17))) [] (T.pure 10 (iA 2 (iM 13)) (T.pure 11 (iA 3 (iM 18)) T.done)) T.stop) T.stop) (T.alt (iA 14 (.bsl 111 4 0 [] [])) [8,7,6,3,2,1] (T.alt (iA 13 (.app 111 4 32 (.t 9) (.t 12))) [8,7,6] (T.alt (iA 18 (.app 111 4 32 (.t 14) (.t 17))) [] (T.pure 10 (iA 2 (iM 13)) (T.pure 11 (iA 3 (iM 18)) T.done)) T.stop) T.stop) T.stop)) (T.alt (iA 14 (.bsl 111 4 0 [] [])) [8,7,6,3,2,1] (T.alt (iA 9 (.bsl 111 4 0 [] [])) [8,7,6,3,2,1] (T.alt (iA 13 (.app 111 4 32 (.t 9) (.t 12))) [8,7,6] (T.alt (iA 18 (.app 111 4 32 (.t 14) (.t 17))) [] (T.pure 10 (iA 2 (iM 13)) (T.pure 11 (iA 3 (iM 18)) T.done)) T.stop) T.stop) T.stop) T.stop))))))))) .ret))
theorem jhN:fnC Tryz.prog Tryz.f192=some (jfK,[.t 2,.t 3],19):=by kernel_rfl
def jfZ:C:=iS [iA 2 (.mov (.c (.slice none 0 0))),iA 3 (.mov (.c (.slice none 0 0)))] (iS [iA 5 (iM 0),iA 6 (iG 5),iA 7 (iQ .add 3 6 1),iA 8 (iQ .quo 3 7 2),iA 4 (iM 8)] (.seq (.dreg (T.pure 0 (iA 9 (iM 0)) (T.pure 1 (iA 10 (iM 4)) (T.pure 2 (iA 11 (.sl 4 (.t 9) none (some (.t 10)))) (T.pure 4 (iA 13 (iM 0)) (T.pure 5 (iA 14 (iM 4)) (T.pure 6 (iA 15 (.sl 4 (.t 13) (some (.t 14)) none)) (T.alt (iA 12 (.call 208 [.t 11])) [6,5,4] (T.alt (iA 16 (.call 208 [.t 15])) [] (T.pure 8 (iA 2 (iM 12)) (T.pure 9 (iA 3 (iM 16)) T.done)) T.stop) T.stop)))))))) .ret))
theorem jh2:fnC Tryz.prog Tryz.f217=some (jfZ,[.t 2,.t 3],17):=by kernel_rfl
theorem jlC (l:List En) (hl:l.length≤4000000):kp Tryz.prog 192 [.c (jm l)] (.tup [(false,[jm (vl l)]),(false,[jm (jav l)])]):=by
 refine js Tryz.func192 jhN (by simp) ?_
 unfold jfK;have hw:IntKind.i64.wrap ((l.length:Int)+1)=(l.length:Int)+1:=jg (by omega) (by omega)
 have hq:IntKind.i64.wrap (((l.length:Int)+1).tdiv 2)=(((l.length+1)/2:Nat):Int):=by
  rw [Int.tdiv_eq_ediv_of_nonneg (by omega)];exact jg (by omega) (by omega)|>.trans (by omega)
 have hn:(l.length+1)/2≤l.length∨l.length=0:=by omega
 have hn2:(l.length+1)/2≤l.length:=by omega
 unfold vl jav;generalize (l.length+1)/2=n at*;have h0n:(n:Int)≥0:=by omega
 have m1:(l.take n).length≤maxLen:=by unfold maxLen;rw [List.length_take];omega
 have m2:(l.take n).length*32≤140737488355328:=by rw [List.length_take];omega
 have m3:(l.drop n).length≤maxLen:=by unfold maxLen;rw [List.length_drop];omega
 have m4:(l.drop n).length*32≤140737488355328:=by rw [List.length_drop];omega
 have htd:(l.drop n).take (l.length-n)=l.drop n:=List.take_of_length_le (by rw [List.length_drop];omega)
 simp only [go_sem,hw,hq,hn2,h0n,Nat.le_refl,htd,m1,m2,m3,m4,ko];simp only [go_sem,vh,jkC,jkB,jV,jM]
theorem jlN (l:List En) (hl:l.length≤4000000):kp Tryz.prog 217 [.c (jm l)] (.tup [(false,[jm (vl l)]),(false,[jm (jav l)])]):=by
 refine js Tryz.func217 jh2 (by simp) ?_
 unfold jfZ;have hw:IntKind.i64.wrap ((l.length:Int)+1)=(l.length:Int)+1:=jg (by omega) (by omega)
 have hq:IntKind.i64.wrap (((l.length:Int)+1).tdiv 2)=(((l.length+1)/2:Nat):Int):=by
  rw [Int.tdiv_eq_ediv_of_nonneg (by omega)];exact jg (by omega) (by omega)|>.trans (by omega)
 have hn2:(l.length+1)/2≤l.length:=by omega
 unfold vl jav;generalize (l.length+1)/2=n at*;have h0n:(n:Int)≥0:=by omega
 have htd:(l.drop n).take (l.length-n)=l.drop n:=List.take_of_length_le (by rw [List.length_drop];omega)
 simp only [go_sem,hw,hq,hn2,h0n,Nat.le_refl,htd];refine jc (kh (l.take n) (by rw [List.length_take];omega)) (by simp only [go_sem,Nat.le_refl,htd]) fun ηa=>?_
 simp only [go_sem,Nat.le_refl,htd];refine jc (kh (l.drop n) (by rw [List.length_drop];omega)) (by simp only [go_sem,Nat.le_refl,htd]) fun ηb=>?_
 simp only [go_sem,Nat.le_refl,htd];simp only [go_sem,vh,jkC,jkB,jV,jM]
def qa (a b:List En):List En:=if a.length+b.length>80 then a else b.foldl jb2 a
theorem jii:∀(b a:List En),(b.foldl jb2 a).length=a.length+b.length
 |[],a=>by simp
 |e::b,a=>by rw [List.foldl_cons,jii b,jpL,List.length_cons];omega
theorem jrz (a b:List En):(qa a b).length≤a.length+b.length:=by
 unfold qa;split
 ·omega
 ·rw [jii];exact Nat.le_refl _
theorem jm2 {b:List En} {k:Nat} {e:En} (h:b[k]?=some e) (a:List En):(b.take (k+1)).foldl jb2 a=jb2 ((b.take k).foldl jb2 a) e:=by
 rw [List.take_add_one,h];simp
def jfI:C:=iS [iA 4 (.mov (.c (.slice none 0 0)))] (iS [iA 7 (.bsl 111 4 0 [] []),iA 8 (iM 0),iA 9 (.app 111 4 32 (.t 7) (.t 8)),iA 5 (iM 9)] (.seq (iS [iA 10 (iM 0),iA 11 (iG 10),iA 12 (iM 1),iA 13 (iG 12),iA 14 (iP .add 3 11 13),iA 15 (iQ .gtr 3 14 80)] (iD 15 (iS [iA 16 (iM 5),iA 4 (iM 16)] .ret) .skip)) (.seq (iS [iA 6 (iN 0)] (.blk 0 (.loop (.seq (iS [iA 17 (iM 6),iA 18 (iM 1),iA 19 (iG 18),iA 20 (iP .lss 3 17 19)] (iD 20 .skip (.exit 0))) (.seq (.blk 1 (.reg [iA 23 (iM 5),iA 24 (iM 1),iA 25 (iM 6),iA 26 (iI 4 24 25),iA 27 (iT 4 26),iA 28 (.call 260 [.t 23,.t 27]),iA 5 (iM 28)])) (.reg [iA 21 (iM 6),iA 22 (iQ .add 3 21 1),iA 6 (iM 22)])))))) (iS [iA 29 (iM 5),iA 4 (iM 29)] .ret))))
theorem jhL:fnC Tryz.prog Tryz.f193=some (jfI,[.t 4],30):=by kernel_rfl
def jfX:C:=iS [iA 4 (.mov (.c (.slice none 0 0)))] (iS [iA 8 (iM 0),iA 9 (.call 208 [.t 8]),iA 5 (iM 9)] (.seq (iS [iA 10 (iM 0),iA 11 (iG 10),iA 12 (iM 1),iA 13 (iG 12),iA 14 (iP .add 3 11 13),iA 15 (iQ .gtr 3 14 80)] (iD 15 (iS [iA 16 (iM 5),iA 4 (iM 16)] .ret) .skip)) (.seq (iS [iA 17 (iM 1),iA 18 (iG 17),iA 19 (iN 0)] (.blk 0 (.loop (iS [iA 20 (iP .lss 3 19 18)] (.seq (iD 20 .skip (.exit 0)) (.seq (.blk 1 (iS [iA 21 (iI 4 17 19),iA 22 (iT 4 21),iA 7 (.alloc 111 [.int .i64 0,.int .i64 0,.int .i64 0,.int .i64 0]),iC (.st 4 [none,none,none,none] (.t 7) (.t 22))] (.reg [iA 23 (iM 5),iA 24 (iT 4 7),iA 25 (.call 274 [.t 23,.t 24]),iA 5 (iM 25)]))) (.reg [iA 26 (iQ .add 3 19 1),iA 19 (iM 26)]))))))) (iS [iA 27 (iM 5),iA 4 (iM 27)] .ret))))
theorem jh0:fnC Tryz.prog Tryz.f218=some (jfX,[.t 4],28):=by kernel_rfl
theorem jlA (a b:List En) (hl:a.length+b.length≤4000000):kp Tryz.prog 193 [.c (jm a),.c (jm b)] (.c (jm (qa a b))):=by
 refine js Tryz.func193 jhL (by simp) ?_
 unfold jfI;have m1:a.length≤maxLen:=by unfold maxLen;omega
 have m2:a.length*32≤140737488355328:=by omega
 have hw:IntKind.i64.wrap ((a.length:Int)+b.length)=((a.length+b.length:Nat):Int):=by rw [jg (by omega) (by omega)];omega
 simp only [go_sem,m1,m2,ko];intro η0 η1;by_cases hgt:a.length+b.length>80
 ·have hgt':((a.length+b.length:Nat):Int)>80:=by omega
  have e:qa a b=a:=if_pos hgt;simp only [go_sem,hw,hgt',e,ko]
 have hgt':¬((a.length+b.length:Nat):Int)>80:=by omega
 have e:qa a b=b.foldl jb2 a:=if_neg hgt;simp only [go_sem,hw,hgt'];refine jp (fun i:Nat×jq=>St.of [(1,Ro (jm b)),(5,Hd 5 i.2),(6,Ni i.1)] [(5,.loose (jm ((b.take i.1).foldl jb2 a)) i.2)]) (fun i=>i.1≤b.length) (fun i=>b.length-i.1) (0,η1) (by (try dsimp only);first|omega|(simp;done)|(and_intros<;>first|omega|simp)) (jj [some 900] (by simp only [go_sem,List.take_zero,List.foldl_nil,ko]<;>and_intros<;>first|rfl|assumption|trivial)) ?_
 rintro ⟨k,η⟩ hk;dsimp only at hk;by_cases hlt:k<b.length
 ·have hlt':(k:Int)<b.length:=by omega
  have h0k:(k:Int)≥0:=by omega
  obtain ⟨x,hx⟩:=je hlt;have hwk:IntKind.i64.wrap ((k:Int)+1)=((k+1:Nat):Int):=jg (by omega) (by omega)
  have hnx:=jm2 hx a;have hln:=jii (b.take k) a;rw [List.length_take] at hln;generalize (b.take k).foldl jb2 a=L at*;simp only [go_sem,hlt',hlt,h0k,jH hx,jf];refine jc (jai L x (by omega)) (by simp only [go_sem,jf]) fun ηp=>?_
  simp only [go_sem,jf];simp only [go_sem,hwk];exact ⟨(k+1,ηp 0),by (try dsimp only);first|omega|assumption|(and_intros<;>first|omega|assumption),(jj [some 2800] (by simp only [go_sem,hnx]<;>and_intros<;>first|rfl|assumption|trivial)),by (try dsimp only);omega⟩
 have hlt':¬(k:Int)<b.length:=by omega
 rw [List.take_of_length_le (by omega),e]
 simp only [go_sem,hlt']
theorem jlL (a b:List En) (hl:a.length+b.length≤4000000):kp Tryz.prog 218 [.c (jm a),.c (jm b)] (.c (jm (qa a b))):=by
 refine js Tryz.func218 jh0 (by simp) ?_
 unfold jfX;have hw:IntKind.i64.wrap ((a.length:Int)+b.length)=((a.length+b.length:Nat):Int):=by rw [jg (by omega) (by omega)];omega
 simp only [go_sem];refine jc (kh a (by omega)) (by simp only [go_sem]) fun ηa=>?_
 simp only [go_sem];by_cases hgt:a.length+b.length>80
 ·have hgt':((a.length+b.length:Nat):Int)>80:=by omega
  have e:qa a b=a:=if_pos hgt;simp only [go_sem,hw,hgt',e]
 have hgt':¬((a.length+b.length:Nat):Int)>80:=by omega
 have e:qa a b=b.foldl jb2 a:=if_neg hgt;simp only [go_sem,hw,hgt'];refine jp (fun i:Nat×jq=>St.of [(5,Hd 5 i.2),(17,Ro (jm b)),(18,Ni b.length),(19,Ni i.1)] [(5,.loose (jm ((b.take i.1).foldl jb2 a)) i.2)]) (fun i=>i.1≤b.length) (fun i=>b.length-i.1) (0,ηa 0) (by (try dsimp only);first|omega|(simp;done)|(and_intros<;>first|omega|simp)) (jj [some 900] (by simp only [go_sem,List.take_zero,List.foldl_nil]<;>and_intros<;>first|rfl|assumption|trivial)) ?_
 rintro ⟨k,η⟩ hk;dsimp only at hk;by_cases hlt:k<b.length
 ·have hlt':(k:Int)<b.length:=by omega
  have h0k:(k:Int)≥0:=by omega
  obtain ⟨x,hx⟩:=je hlt;have hwk:IntKind.i64.wrap ((k:Int)+1)=((k+1:Nat):Int):=jg (by omega) (by omega)
  have hnx:=jm2 hx a;have hln:=jii (b.take k) a;rw [List.length_take] at hln;generalize (b.take k).foldl jb2 a=L at*;simp only [go_sem,hlt',hlt,h0k,jH hx,jf];intro b7;refine jc (jaj L x (by omega)) (by simp only [go_sem,jf]) fun ηp=>?_
  simp only [go_sem,jf];simp only [go_sem,hwk];exact ⟨(k+1,ηp 0),by (try dsimp only);first|omega|assumption|(and_intros<;>first|omega|assumption),(jj [some 2500] (by simp only [go_sem,hnx]<;>and_intros<;>first|rfl|assumption|trivial)),by (try dsimp only);omega⟩
 have hlt':¬(k:Int)<b.length:=by omega
 rw [List.take_of_length_le (by omega),e]
 simp only [go_sem,hlt']
def jpq (l:List En):En:=l.headD ⟨0,0,0,0⟩
def jeR (l:List En):Bool:=!l.isEmpty
def jbT:C:=iS [iA 2 (.alloc 111 [.int .i64 0,.int .i64 0,.int .i64 0,.int .i64 0]),iA 3 (.mov (.c (.slice none 0 0))),iA 4 (iO false)] (.seq (iS [iA 5 (iM 0),iA 6 (iG 5),iA 7 (iQ .eql 3 6 0)] (iD 7 (iS [iA 8 (.bld [.int .i64 0,.int .i64 0,.int .i64 0,.int .i64 0] []),iA 9 (.bsl 111 4 0 [] []),iC (.st 4 [none,none,none,none] (.t 2) (.t 8)),iA 3 (iM 9),iA 4 (iO false)] .ret) .skip)) (.seq (.dreg (T.pure 0 (iA 10 (iM 0)) (T.pure 1 (iA 11 (.ia 4 (.t 10) (.c (.int .i64 0)))) (T.pure 2 (iA 12 (iT 4 11)) (T.pure 4 (iA 14 (iM 0)) (T.pure 5 (iA 15 (.sl 4 (.t 14) (some (.c (.int .i64 1))) none)) (T.alt (iA 13 (.bsl 111 4 0 [] [])) [5,4,2,1,0] (T.alt (iA 16 (.app 111 4 32 (.t 13) (.t 15))) [2,1,0] (T.alt (iC (.st 4 [none,none,none,none] (.t 2) (.t 12))) [] (T.pure 8 (iA 3 (iM 16)) (T.pure 9 (iA 4 (iO true)) T.done)) T.stop) T.stop) T.stop))))))) .ret))
theorem jeC:fnC Tryz.prog Tryz.f194=some (jbT,[.cell 2 true 4,.t 3,.t 4],17):=by kernel_rfl
def jbW:C:=iS [iA 2 (.alloc 111 [.int .i64 0,.int .i64 0,.int .i64 0,.int .i64 0]),iA 3 (.mov (.c (.slice none 0 0))),iA 4 (iO false)] (.seq (iS [iA 5 (iM 0),iA 6 (iG 5),iA 7 (iQ .eql 3 6 0)] (iD 7 (iS [iA 8 (.bld [.int .i64 0,.int .i64 0,.int .i64 0,.int .i64 0] []),iC (.st 4 [none,none,none,none] (.t 2) (.t 8)),iA 3 (.mov (.c (.slice none 0 0))),iA 4 (iO false)] .ret) .skip)) (.seq (.dreg (T.pure 0 (iA 9 (iM 0)) (T.pure 1 (iA 10 (.ia 4 (.t 9) (.c (.int .i64 0)))) (T.pure 2 (iA 11 (iT 4 10)) (T.pure 3 (iA 12 (iM 0)) (T.pure 4 (iA 13 (.sl 4 (.t 12) (some (.c (.int .i64 1))) none)) (T.alt (iA 14 (.call 208 [.t 13])) [2,1,0] (T.alt (iC (.st 4 [none,none,none,none] (.t 2) (.t 11))) [] (T.pure 7 (iA 3 (iM 14)) (T.pure 8 (iA 4 (iO true)) T.done)) T.stop) T.stop))))))) .ret))
theorem jeF:fnC Tryz.prog Tryz.f219=some (jbW,[.cell 2 true 4,.t 3,.t 4],15):=by kernel_rfl
theorem jbK (l:List En) (hl:l.length≤4000000):kp Tryz.prog 194 [.c (jm l)] (.tup [(true,jf (jpq l)),(false,[jm l.tail]),(false,[.val (.bool (jeR l))])]):=by
 refine js Tryz.func194 jeC (by simp) ?_
 unfold jbT;cases l with
 |nil=>
  simp only [go_sem,jf,jpq,jeR,List.headD_nil,List.isEmpty_nil,List.tail_nil];intro b2 η0;simp only [vh];refine jt _ _ _ _ _ ?_;simp only [go_sem,jB,jkC,jkB,jV,jM,true_or,jda]
 |cons x l=>
  have hle:l.length≤4000000:=by rw [List.length_cons] at hl;omega
  have h0:(x::l)[0]?=some x:=rfl;have h1:(((l.length+1:Nat):Int)==0)=false:=by simp only [beq_eq_false_iff_ne,ne_eq];omega
  have h2:1≤l.length+1:=by omega
  have h3:0<l.length+1:=by omega
  have m1:l.length≤maxLen:=by unfold maxLen;omega
  have m2:l.length*32≤140737488355328:=by omega
  have hd:List.take l.length l=l:=List.take_length;simp only [go_sem,jf,jpq,jeR,List.headD_cons,List.isEmpty_cons,List.tail_cons,h1];intro b2;simp only [go_sem,h2,h3,jH h0,jf,hd,Nat.le_refl,m1,m2,ko,Nat.add_sub_cancel];intro η η1;simp only [vh];refine jt _ _ _ _ _ ?_;simp only [go_sem,jB,jkC,jkB,jV,jM,true_or]
def jsC (ts:List Tk) (t:Nat) (x:Tk) (til:Int):List Tk:=ts.set t ⟨3,x.need,IntKind.i64.wrap (x.tri+1),til⟩
def kP (r:Rn) (t:Nat) (x:Tk) (now:Int):Rn:=⟨r.id,r.plan,r.state,jsC r.tasks t x (IntKind.i64.wrap (now+r.plan.wait))⟩
def jbj:C:=iS [iA 3 (.box 108 8 (.t 0)),iA 6 (.alloc 108 [.int .i64 0,.int .i64 0,.int .i64 0,.int .i64 0,.int .i64 0,.slice none 0 0,.int .i64 0,.slice none 0 0])] (iS [iA 9 (iT 8 3),iA 10 (.call 185 [.t 9]),iA 7 (.alloc 108 [.int .i64 0,.int .i64 0,.int .i64 0,.int .i64 0,.int .i64 0,.slice none 0 0,.int .i64 0,.slice none 0 0]),iC (.st 8 [none,none,none,none,none,some (2,253),none,some (4,172)] (.t 7) (.t 10))] (iS [iA 11 (iF 7 7),iA 12 (iL 11),iA 13 (iM 1),iA 14 (iI 4 12 13),iA 15 (iT 4 14),iA 8 (.alloc 172 [.int .i64 0,.int .i64 0,.int .i64 0,.int .i64 0]),iC (.st 4 [none,none,none,none] (.t 8) (.t 15))] (iS [iA 16 (iF 0 8),iC (.st 1 [none] (.t 16) (.c (.int .i64 3)))] (iS [iA 17 (iF 2 8),iA 18 (iL 17),iA 19 (iQ .add 3 18 1),iA 20 (iF 2 8),iC (.st 1 [none] (.t 20) (.t 19))] (iS [iA 21 (iM 2),iA 22 (iF 1 3),iA 23 (iF 2 22),iA 24 (iL 23),iA 25 (iP .add 3 21 24),iA 26 (iF 3 8),iC (.st 1 [none] (.t 26) (.t 25))] (iS [iA 27 (iF 7 7),iA 28 (iL 27),iA 29 (iM 1),iA 30 (iT 4 8),iA 31 (iI 4 28 29),iC (.st 4 [none,none,none,none] (.t 31) (.t 30))] (iS [iA 32 (iT 8 7),iC (.st 8 [none,none,none,none,none,some (2,253),none,some (4,172)] (.t 6) (.t 32))] .ret)))))))
theorem jdr:fnC Tryz.prog Tryz.f195=some (jbj,[.cell 6 true 8],33):=by kernel_rfl
theorem jgn (r:Rn) (t:Nat) (x:Tk) (now:Int) (hx:r.tasks[t]?=some x) (hsz:r.plan.edges.length≤4000000) (ht:r.tasks.length≤4000000):kp Tryz.prog 195 [.agg (jd r),.c (.val (.int .i64 t)),.c (.val (.int .i64 now))] (.agg (jd (kP r t x now))):=by
 refine js Tryz.func195 jdr (by simp) ?_
 unfold jbj;have htl:=(List.getElem?_eq_some_iff.1 hx).1;have h0t:(t:Int)≥0:=by omega
 simp only [go_sem,jd,ja];intro b3 b6;refine jc (vv r hsz ht) (by simp only [go_sem,jd,ja]) fun ηc=>?_
 simp only [go_sem,jd,ja];intro b7;simp only [go_sem,Nat.add_zero,htl,h0t,jr8 hx,jhz hx,jn,kP,jsC,jbu 3 x.need (IntKind.i64.wrap (x.tri+1)) (IntKind.i64.wrap (now+r.plan.wait)) htl]
end Go.Proofs.YtmnpailnelmpiaaGreat
