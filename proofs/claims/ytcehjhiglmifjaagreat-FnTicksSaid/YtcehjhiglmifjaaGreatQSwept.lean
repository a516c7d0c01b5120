/- Parts. -/
import Derived.Test.YtcehjhiglmifjaaGreatQHole
set_option linter.unusedSimpArgs false
set_option linter.unusedVariables false
set_option maxHeartbeats 8000000
set_option maxRecDepth 100000
namespace Go.Proofs.YtcehjhiglmifjaaGreat
open Go.RowKit Go.Sort
structure jx4 (p:En→Bool) (l L:List En) (i j:Nat):Prop where
 len:L.length=l.length
 ij:i<j
 jl:j≤l.length
 pre:L.take i=(l.take j).filter fun e=>!p e
 suf:∀q,j≤q→L[q]?=l[q]?
section
variable {p:En→Bool} {l L:List En} {i j:Nat} {e:En}
theorem jBL (h:l[i]?=some e) (he:p e=true) (hn:∀y∈l.take i,p y=false):jx4 p l l i (i+1):=by
 refine ⟨rfl,by omega,(List.getElem?_eq_some_iff.1 h).1,?_,fun _ _=>rfl⟩
 rw [List.take_add_one,h,List.filter_append];simp only [Option.toList_some,List.filter_cons,he,Bool.not_true,Bool.false_eq_true,if_false,List.filter_nil,List.append_nil];exact (List.filter_eq_self.2 fun y hy=>by rw [hn y hy];rfl).symm
theorem jxQ (hd:jx4 p l L i j) (h:l[j]?=some e) (he:p e=true):jx4 p l L i (j+1):=by
 refine ⟨hd.len,by have:=hd.ij;omega,(List.getElem?_eq_some_iff.1 h).1,?_,fun q hq=>hd.suf q (by omega)⟩
 rw [hd.pre,List.take_add_one,h,List.filter_append];simp [he]
theorem juY (hd:jx4 p l L i j) (h:l[j]?=some e) (he:p e=false):jx4 p l (L.set i e) (i+1) (j+1):=by
 have hj:=(List.getElem?_eq_some_iff.1 h).1;have h1:=hd.ij;have h2:=hd.len;refine ⟨by rw [List.length_set];exact h2,by omega,hj,?_,fun q hq=>?_⟩
 ·rw [List.take_add_one,List.getElem?_set_self (by omega),List.take_set_of_le (Nat.le_refl _),hd.pre,List.take_add_one,h,List.filter_append]
  simp [he]
 ·rw [List.getElem?_set_ne (by omega)];exact hd.suf q (by omega)
theorem juZ (hd:jx4 p l L i l.length):L.take i=l.filter fun e=>!p e:=by rw [hd.pre,List.take_length]
end
def kG:C:=iS [iA 4 (iN 0)] (.seq (iS [iA 6 (iM 0),iA 7 (iG 6),iA 8 (iN 0)] (.blk 0 (.loop (iS [iA 9 (iP .lss 3 8 7)] (.seq (iD 9 .skip (.exit 0)) (.seq (.blk 1 (iS [iA 10 (iM 8),iA 5 (iM 10)] (iS [iA 11 (iM 1),iA 12 (iM 0),iA 13 (iM 5),iA 14 (iI 4 12 13),iA 15 (iT 4 14),iA 16 (.callv (.t 11) [.t 15])] (iD 16 (iS [iA 17 (iM 5),iA 4 (iM 17)] .ret) .skip)))) (.reg [iA 18 (iQ .add 3 8 1),iA 8 (iM 18)]))))))) (iS [iA 4 (iN (-1))] .ret))
theorem qB:fnC Tryz.prog Tryz.f141=some (kG,[.t 4],19):=by kernel_rfl
theorem jbB (l:List En) (f:Nat) (cd:List D) (p:En→Bool) (hf:∀x,kj Tryz.prog f [.agg (jk x),.ptr cd] (.c (.val (.bool (p x))))) (hl:l.length≤4000000):kj Tryz.prog 141 [.c (jm l),.fn f [cd]] (.c (.val (.int .i64 (jds p l)))):=by
 refine jq Tryz.func141 qB (by simp) ?_
 unfold kG;simp only [go_sem];refine jn (fun i:Nat=>St.of [(0,Ro (jm l)),(1,.fn f [.rp cd]),(7,Ni l.length),(8,Ni i)] []) (fun i=>i≤l.length∧∀y∈l.take i,p y=false) (fun i=>l.length-i) 0 (by (try dsimp only);first|omega|(simp;done)|(and_intros<;>first|omega|simp)) (jg [] (by simp only [go_sem]<;>and_intros<;>first|rfl|assumption|trivial)) ?_
 rintro k ⟨hk,hko⟩;by_cases hlt:k<l.length
 ·have hlt':(k:Int)<l.length:=by omega
  have h0k:(k:Int)≥0:=by omega
  obtain ⟨x,hx⟩:=je hlt;have hw:IntKind.i64.wrap ((k:Int)+1)=((k+1:Nat):Int):=jf (by omega) (by omega)
  simp only [go_sem,hlt,hlt',h0k,jI hx,jk];refine ji6 (by simp only [go_sem];rfl) (hf x) (by simp only [go_sem,jk]) fun η=>?_
  cases hp:p x
  ·simp only [go_sem,hp,hw]
   exact ⟨k+1,⟨hlt,jlA hx hp hko⟩,(jg [] (by simp only [go_sem]<;>and_intros<;>first|rfl|assumption|trivial)),by (try dsimp only);omega⟩
  ·simp only [go_sem,hp,jbj hx hp hko]
 ·have hlt':¬(k:Int)<l.length:=by omega
  rw [List.take_of_length_le (by omega)] at hko
  simp only [go_sem,hlt',jak hko]
def ze (y:Yd) (k:Int):Yd:=if 0≤k∧k≤(y.shelf.length:Int)-1 then ⟨y.now,y.seq,y.shelf.set k.toNat (((y.shelf[k.toNat]?).getD []).filter (jU y)),y.runs⟩ else y
theorem jp3 {y:Yd} {k:Int} (h:¬(0≤k∧k≤(y.shelf.length:Int)-1)):ze y k=y:=by rw [ze,if_neg h]
theorem je5 {y:Yd} {k:Nat} {l:List En} (h:y.shelf[k]?=some l):ze y k=⟨y.now,y.seq,y.shelf.set k (l.filter (jU y)),y.runs⟩:=by
 have:=(List.getElem?_eq_some_iff.1 h).1;rw [ze,if_pos (by omega)]
 simp [h]
theorem jrS {l:List (List En)} {k:Nat} (v:List En) (hk:k<l.length):D.put [] k [jm v] (ku l)=ku (l.set k v):=by
 have:=jnm v hk
 rwa [Nat.mul_one] at this
theorem juN (l:List En) (a:En):D.sl 4 tEn (l.flatMap jk++[.val (.int .i64 a.prio),.val (.int .i64 a.seq),.val (.int .i64 a.run),.val (.int .i64 a.task)])=jm (l++[a]):=by simp [jm,jk]
theorem jkN (sh:List (List En)):(sh.flatMap fun es=>[jm es])=sh.map jm:=by induction sh<;>simp_all
theorem jju {sh:List (List En)} {k:Nat} {l:List En} (h:sh[k]?=some l):(sh.flatMap fun es=>[jm es])[k]?=some (.sl 4 tEn (l.flatMap jk)):=by
 rw [jkN,List.getElem?_map,h];rfl
theorem jo6 {sh:List (List En)} {k i:Nat} {l l2:List En} {ds:List D} (h:sh[k]?=some l) (hp:D.put [] i ds (jm l)=jm l2):D.put [k] i ds (ku sh)=ku (sh.set k l2):=by
 have hd:(sh.flatMap fun es=>[jm es])[k]?=some (jm l):=jju h
 simp only [ku,D.put,hd,hp];simp only [jkN,List.map_set]
theorem jqm {sh:List (List En)} {k i:Nat} {l:List En} (e:En) (h:sh[k]?=some l) (hi:i<l.length):D.put [k] (i*4) [.val (.int .i64 e.prio),.val (.int .i64 e.seq),.val (.int .i64 e.run),.val (.int .i64 e.task)] (ku sh)=ku (sh.set k (l.set i e)):=jo6 h (jrU e hi)
def jdC:En:=⟨0,0,0,0⟩
theorem jxy (n:Nat):(List.replicate n [D.val (.int .i64 0),D.val (.int .i64 0),D.val (.int .i64 0),D.val (.int .i64 0)]).flatten=(List.replicate n jdC).flatMap jk:=by
 rw [List.flatMap_replicate];rfl
theorem jxU {l:List En} {i n:Nat} (h:i+n=l.length):D.put [] (i*4) ((List.replicate n jdC).flatMap jk) (jm l)=jm (l.take i++List.replicate n jdC):=by
 have h4:∀x:En,(jk x).length=4:=fun _=>rfl
 have e1:l.flatMap jk=(l.take i).flatMap jk++(l.drop i).flatMap jk:=by rw [←List.flatMap_append,List.take_append_drop]
 have l1:((l.take i).flatMap jk).length=i*4:=by rw [jH h4,List.length_take,Nat.min_eq_left (by omega)]
 have l2:((l.drop i).flatMap jk).length=n*4:=by rw [jH h4,List.length_drop];congr 1;omega
 have l3:((List.replicate n jdC).flatMap jk).length=n*4:=by rw [jH h4,List.length_replicate]
 simp only [jm,D.put];rw [kU _ _ _ (by rw [e1,List.length_append];omega),e1,List.take_left' l1,l3,List.drop_eq_nil_of_le (by rw [List.length_append];omega),List.append_nil,List.flatMap_append]
theorem jwK:∀{l m:List D},(∀x∈m,x∈l)→kb l=true→kb m=true:=by
 intro l m h hl
 have key:∀{l:List D},kb l=true↔∀x∈l,∃u,x=.val u∧u.oneCell'=true:=by
  intro l
  induction l with
  |nil=>simp [kb]
  |cons a l ih=>
   cases a with
   |val u=>
    simp only [kb,Bool.and_eq_true,ih,List.mem_cons];constructor
    ·rintro ⟨h1,h2⟩ x (rfl|hx)
     ·exact ⟨u,rfl,h1⟩
     ·exact h2 x hx
    ·intro h
     refine ⟨?_,fun x hx=>h x (.inr hx)⟩
     obtain ⟨v,h1,h2⟩:=h _ (.inl rfl);cases h1;exact h2
   |sl a b c=>
    simp only [kb,Bool.false_eq_true,false_iff];intro h;obtain ⟨v,h1,_⟩:=h _ (List.mem_cons_self);cases h1
 exact key.2 fun x hx=>key.1 hl x (h x hx)
theorem jn9 (l:List En) (a b:Nat):kb (((l.flatMap jk).drop a).take b)=true:=jwK (fun x hx=>List.mem_of_mem_drop (List.mem_of_mem_take hx)) (jaP l)
def jfp (sh:List (List En)) (n:Nat) (v:Value):D:=.sl 1 jrs ((sh.flatMap fun es=>[jm es]).set n (.val v))
theorem jft (sh:List (List En)) (n:Nat) (v:Value):D.sl 1 jrs ((sh.flatMap fun es=>[jm es]).set n (.val v))=jfp sh n v:=rfl
theorem jlG (sh:List (List En)) (n:Nat) (v:Value):(jfp sh n v).isSl=true:=rfl
theorem jlC (sh:List (List En)) (n:Nat) (v:Value):(jfp sh n v).size=1:=rfl
theorem jiE (sh:List (List En)) (n:Nat) (v:Value):(jfp sh n v).len=sh.length:=by simp [jfp,D.len,D.cells,D.size,jkN]
theorem jdp (sh:List (List En)) (n:Nat) (v:Value):(jfp sh n v).cells.length=sh.length:=by simp [jfp,D.cells,jkN]
theorem jiA {sh:List (List En)} {n:Nat} (v:Value) (l:List En) (h:n<sh.length):D.put [] n [jm l] (jfp sh n v)=ku (sh.set n l):=by
 simp only [jfp,D.put,kD,ku,jkN,List.set_set,List.map_set]
theorem jlc (o:Nat→Ob) (g c g2:Nat) (d:D) (η':js) (d2:D) (η2:js) (j:Nat):jzm o g c g2 d η' d2 η2 j=if j=g2 then .loose d2 η2 else if j=g then (o g).putOwn c d η' else o j:=rfl
theorem jad {α:Type} {l:List α} {k:Nat} {x:α} (h:l[k]?=some x):l.set k x=l:=by
 apply List.ext_getElem?
 intro j;by_cases e:k=j
 ·subst e;rw [List.getElem?_set_self (List.getElem?_eq_some_iff.1 h).1,h]
 ·rw [List.getElem?_set_ne e]
def jhB:C:=iS [iA 2 (.box 27 4 (.t 0)),iA 4 (.alloc 27 [.int .i64 0,.int .i64 0,.slice none 0 0,.slice none 0 0])] (iS [iA 8 (iT 4 2),iA 9 (.call 67 [.t 8]),iA 5 (.alloc 27 [.int .i64 0,.int .i64 0,.slice none 0 0,.slice none 0 0]),iC (.st 4 [none,none,some (1,35),some (8,52)] (.t 5) (.t 9))] (.seq (iS [iA 10 (iM 1),iA 11 (iF 2 2),iA 12 (iL 11),iA 13 (iG 12),iA 14 (iQ .sub 3 13 1),iA 15 (.call 68 [.t 10,.c (.int .i64 0),.t 14]),iA 16 (iU 15)] (iD 16 (iS [iA 17 (iT 4 5),iC (.st 4 [none,none,some (1,35),some (8,52)] (.t 4) (.t 17))] .ret) .skip)) (iS [iA 18 (.bsl 44 4 0 [] []),iA 6 (iM 18)] (.seq (iS [iA 7 (iN 0)] (.blk 0 (.loop (.seq (iS [iA 19 (iM 7),iA 20 (iF 2 2),iA 21 (iL 20),iA 22 (iM 1),iA 23 (iI 1 21 22),iA 24 (iL 23),iA 25 (iG 24),iA 26 (iP .lss 3 19 25)] (iD 26 .skip (.exit 0))) (.seq (.blk 1 (.seq (.dreg (T.pure 0 (iA 29 (iT 4 2)) (T.pure 1 (iA 30 (iF 2 2)) (T.pure 2 (iA 31 (iL 30)) (T.pure 3 (iA 32 (iM 1)) (T.pure 4 (iA 33 (iI 1 31 32)) (T.pure 5 (iA 34 (iL 33)) (T.pure 6 (iA 35 (iM 7)) (T.pure 7 (iA 36 (iI 4 34 35)) (T.pure 8 (iA 37 (iT 4 36)) (T.alt (iA 38 (.call 75 [.t 29,.t 37])) [] T.done T.stop))))))))))) (iD 38 (.reg [iA 39 (iM 6),iA 40 (iF 2 2),iA 41 (iL 40),iA 42 (iM 1),iA 43 (iI 1 41 42),iA 44 (iL 43),iA 45 (iM 7),iA 46 (iI 4 44 45),iA 47 (iT 4 46),iA 48 (.bsl 44 4 1 [none,none,none,none] [(0,4,.t 47)]),iA 49 (.app 44 4 32 (.t 39) (.t 48)),iA 6 (iM 49)]) .skip))) (.reg [iA 27 (iM 7),iA 28 (iQ .add 3 27 1),iA 7 (iM 28)])))))) (iS [iA 50 (iF 2 5),iA 51 (iL 50),iA 52 (iM 1),iA 53 (iM 6),iA 54 (iI 1 51 52),iC (.st 1 [some (4,44)] (.t 54) (.t 53))] (iS [iA 55 (iT 4 5),iC (.st 4 [none,none,some (1,35),some (8,52)] (.t 4) (.t 55))] .ret))))))
theorem jjI:fnC Tryz.prog Tryz.f23=some (jhB,[.cell 4 true 4],56):=by kernel_rfl
def jej:C:=iS [iA 2 (.box 44 4 (.t 0)),iA 3 (iO false)] (iS [iA 4 (iT 4 1),iA 5 (iT 4 2),iA 6 (.call 84 [.t 4,.t 5]),iA 7 (iU 6),iA 3 (iM 7)] .ret)
theorem jhc:fnC Tryz.prog Tryz.f86=some (jej,[.t 3],8):=by kernel_rfl
def jhG:C:=iS [iA 2 (.box 27 4 (.t 0)),iA 4 (.alloc 27 [.int .i64 0,.int .i64 0,.slice none 0 0,.slice none 0 0])] (iS [iA 6 (iT 4 2),iA 7 (.call 61 [.t 6]),iA 5 (.alloc 27 [.int .i64 0,.int .i64 0,.slice none 0 0,.slice none 0 0]),iC (.st 4 [none,none,some (1,35),some (8,52)] (.t 5) (.t 7))] (.seq (iS [iA 8 (iM 1),iA 9 (iF 2 2),iA 10 (iL 9),iA 11 (iG 10),iA 12 (iQ .sub 3 11 1),iA 13 (.call 62 [.t 8,.c (.int .i64 0),.t 12]),iA 14 (iU 13)] (iD 14 (iS [iA 15 (iT 4 5),iC (.st 4 [none,none,some (1,35),some (8,52)] (.t 4) (.t 15))] .ret) .skip)) (.seq (.dreg (T.pure 0 (iA 16 (iF 2 5)) (T.pure 1 (iA 17 (iL 16)) (T.pure 2 (iA 18 (iM 1)) (T.pure 3 (iA 19 (iF 2 5)) (T.pure 4 (iA 20 (iL 19)) (T.pure 5 (iA 21 (iM 1)) (T.pure 6 (iA 22 (iI 1 20 21)) (T.pure 7 (iA 23 (iL 22)) (T.pure 8 (iA 24 (.mkf 86 [.t 2])) (T.alt (iA 25 (.call 85 [.t 23,.t 24])) [2,1,0] (T.pure 10 (iA 26 (iI 1 17 18)) (T.alt (iC (.st 1 [some (4,44)] (.t 26) (.t 25))) [] T.done T.stop)) T.stop))))))))))) (iS [iA 27 (iT 4 5),iC (.st 4 [none,none,some (1,35),some (8,52)] (.t 4) (.t 27))] .ret))))
theorem jjO:fnC Tryz.prog Tryz.f24=some (jhG,[.cell 4 true 4],28):=by kernel_rfl
def kg:C:=iS [iA 4 (.mov (.c (.slice none 0 0)))] (iS [iA 8 (iM 0),iA 9 (iM 1),iA 10 (.call 141 [.t 8,.t 9]),iA 5 (iM 10)] (.seq (iS [iA 11 (iM 5),iA 12 (iQ .eql 3 11 (-1))] (iD 12 (iS [iA 13 (iM 0),iA 4 (iM 13)] .ret) .skip)) (.seq (iS [iA 14 (iM 5),iA 15 (iQ .add 3 14 1),iA 6 (iM 15)] (.blk 0 (.loop (.seq (iS [iA 16 (iM 6),iA 17 (iM 0),iA 18 (iG 17),iA 19 (iP .lss 3 16 18)] (iD 19 .skip (.exit 0))) (.seq (.blk 1 (iS [iA 22 (iM 0),iA 23 (iM 6),iA 24 (iI 4 22 23),iA 25 (iT 4 24),iA 7 (.alloc 44 [.int .i64 0,.int .i64 0,.int .i64 0,.int .i64 0]),iC (.st 4 [none,none,none,none] (.t 7) (.t 25))] (iS [iA 26 (iM 1),iA 27 (iT 4 7),iA 28 (.callv (.t 26) [.t 27]),iA 29 (iU 28)] (iD 29 (iS [iA 30 (iM 0),iA 31 (iM 5),iA 32 (iT 4 7),iA 33 (iI 4 30 31),iC (.st 4 [none,none,none,none] (.t 33) (.t 32))] (.reg [iA 34 (iM 5),iA 35 (iQ .add 3 34 1),iA 5 (iM 35)])) .skip)))) (.reg [iA 20 (iM 6),iA 21 (iQ .add 3 20 1),iA 6 (iM 21)])))))) (iS [iA 36 (iM 0),iA 37 (iM 5),iA 38 (.sl 4 (.t 36) (some (.t 37)) none),iC (.clr 4 [D.val (.int .i64 0),D.val (.int .i64 0),D.val (.int .i64 0),D.val (.int .i64 0)] (.t 38))] (iS [iA 39 (iM 0),iA 40 (iM 5),iA 41 (.sl 4 (.t 39) none (some (.t 40))),iA 4 (iM 41)] .ret)))))
theorem kC:fnC Tryz.prog Tryz.f85=some (kg,[.t 4],42):=by kernel_rfl
theorem jhs (y:Yd) (k:Int) (ht:jJ y≤2000000):kj Tryz.prog 23 [.agg (jb y),.c (.val (.int .i64 k))] (.agg (jb (ze y k))):=by
 refine jq Tryz.func23 jjI (by simp) ?_
 unfold jhB;have hsl:y.shelf.length≤2000000:=by simp only [jJ,jbv] at ht;omega
 have hws:IntKind.i64.wrap ((y.shelf.length:Int)-1)=(y.shelf.length:Int)-1:=jf (by omega) (by omega)
 simp only [go_sem,jb];intro b2 b4;refine jc (kx y ht) (by simp only [go_sem,jb]) fun ηc=>?_
 simp only [go_sem,jb];intro b5;simp only [go_sem,jb,hws];refine jc (jL k 0 (y.shelf.length-1)) (by simp only [go_sem,jb,hws]) fun η=>?_
 simp only [go_sem,jb,hws];cases h:decide (0≤k∧k≤(y.shelf.length:Int)-1)
 ·simp only [go_sem,jb,h,jp3 (of_decide_eq_false h)]
 have h':=of_decide_eq_true h;obtain ⟨n,rfl⟩:=Int.eq_ofNat_of_zero_le h'.1;have hn:n<y.shelf.length:=by omega
 have h0n:(n:Int)≥0:=by omega
 obtain ⟨l,hl⟩:=je hn;have hll:=ja9 ht (List.mem_of_getElem? hl);rw [je5 hl];simp only [go_sem,jb,h,jdf];intro η18;refine jn (fun i:Nat×js=>St.of [(1,Ni n),(2,Bx 200 b2),(4,Bx 400 b4),(5,Bx 500 b5),(6,Hd 6 i.2),(7,Ni i.1)] [(200,Bi b2 _ (jb y)),(400,ZYd b4 _),(500,kq b5 _ y.now y.seq y.shelf (ηc 2) y.runs (ηc 3)),(6,.loose (jm ((l.take i.1).filter (jU y))) i.2)]) (fun i=>i.1≤l.length) (fun i=>l.length-i.1) (0,η18) (by (try dsimp only);first|omega|(simp;done)|(and_intros<;>first|omega|simp)) (jg [some 200,some 400,some 500,some 1800] (by simp only [go_sem,jb,List.take_zero,List.filter_nil]<;>and_intros<;>first|rfl|assumption|trivial)) ?_
 rintro ⟨j,ηj⟩ hj;dsimp only at hj;by_cases hlt:j<l.length
 ·have hlt':(j:Int)<l.length:=by omega
  have h0j:(j:Int)≥0:=by omega
  obtain ⟨e,he⟩:=je hlt;have hw:IntKind.i64.wrap ((j:Int)+1)=((j+1:Nat):Int):=jf (by omega) (by omega)
  have hft:=jpE (f:=jU y) he;have hfl:((l.take j).filter (jU y)).length≤4000000:=Nat.le_trans (List.length_filter_le _ _) (by rw [List.length_take];omega)
  generalize (l.take j).filter (jU y)=M at*;have m1:M.length+1≤maxLen:=by unfold maxLen;omega
  have m2:(M.length+1)*32≤140737488355328:=by omega
  simp only [go_sem,jb,hn,h0n,kO hl,hlt,hlt',h0j,jI he,jk];refine jc (jnw y e) (by simp only [go_sem,jb,jk]) fun η=>?_
  simp only [go_sem,jb,jk];cases hf:jU y e
  ·rw [hf] at hft
   simp only [Bool.false_eq_true,if_false] at hft;simp only [go_sem,jb,hf,hw];exact ⟨(j+1,ηj),by (try dsimp only);first|omega|assumption|(and_intros<;>first|omega|assumption),(jg [some 200,some 400,some 500,some 6] (by simp only [go_sem,jb,hft]<;>and_intros<;>first|rfl|assumption|trivial)),by (try dsimp only);omega⟩
  ·rw [hf] at hft
   simp only [if_true] at hft;simp only [go_sem,jb,hn,h0n,kO hl,hlt,hlt',h0j,jI he,jk,hf,m1,m2,juN,hw];intro η48 η49;exact ⟨(j+1,η49),by (try dsimp only);first|omega|assumption|(and_intros<;>first|omega|assumption),(jg [some 200,some 400,some 500,some 4900] (by simp only [go_sem,jb,hft]<;>and_intros<;>first|rfl|assumption|trivial)),by (try dsimp only);omega⟩
 have hlt':¬(j:Int)<l.length:=by omega
 rw [List.take_of_length_le (by omega)]
 generalize l.filter (jU y)=M at*;simp only [go_sem,jb,hn,h0n,kO hl,hlt',jaM hn,jnm M hn,jrS M hn];exact fun _ _=>trivial
theorem jqv (y:Yd) (e:En):kj Tryz.prog 86 [.agg (jk e),.ptr (jb y)] (.c (.val (.bool (!jU y e)))):=by
 refine jq Tryz.func86 jhc (by simp) ?_
 unfold jej;simp only [go_sem,jb,jk];intro b2;refine jc (jnC y e) (by simp only [go_sem,jb,jk]) fun η=>?_
 simp only [go_sem,jb,jk]
theorem jhu (y:Yd) (k:Int) (ht:jJ y≤2000000):kj Tryz.prog 24 [.agg (jb y),.c (.val (.int .i64 k))] (.agg (jb (ze y k))):=by
 refine jq Tryz.func24 jjO (by simp) ?_
 unfold jhG;have hsl:y.shelf.length≤2000000:=by simp only [jJ,jbv] at ht;omega
 have hws:IntKind.i64.wrap ((y.shelf.length:Int)-1)=(y.shelf.length:Int)-1:=jf (by omega) (by omega)
 simp only [go_sem,jb];intro b2 b4;refine jc (kn y ht) (by simp only [go_sem,jb]) fun ηc=>?_
 simp only [go_sem,jb];intro b5;simp only [go_sem,jb,hws];refine jc (jE k 0 (y.shelf.length-1)) (by simp only [go_sem,jb,hws]) fun η=>?_
 simp only [go_sem,jb,hws];cases h:decide (0≤k∧k≤(y.shelf.length:Int)-1)
 ·simp only [go_sem,jb,h,jp3 (of_decide_eq_false h)]
 have h':=of_decide_eq_true h;obtain ⟨n,rfl⟩:=Int.eq_ofNat_of_zero_le h'.1;have hn:n<y.shelf.length:=by omega
 have h0n:(n:Int)≥0:=by omega
 obtain ⟨l,hl⟩:=je hn;have hll:=ja9 ht (List.mem_of_getElem? hl);rw [je5 hl];have hi1:n+1≤(y.shelf.flatMap fun es=>[jm es]).length:=by have:=jaM hn;rwa [Nat.mul_one] at this
 have ha1:((y.shelf.flatMap fun es=>[jm es]).drop n).take 1=[jm l]:=by have:=jbJ hl;rwa [Nat.mul_one] at this
 simp only [go_sem,jb,h,hn,h0n,kO hl,ha1,hi1,Nat.mul_one];refine kV (jux ?_);refine qn (β:=7000000) Tryz.func85 kC (by simp) ?_
 unfold kg;simp only [go_sem,jb];refine jc (jbB l _ (jb y) (fun e=>!jU y e) (fun x=>jqv y x) hll) (by simp only [go_sem,jb,ko hl]) fun η=>?_
 simp only [go_sem,jb]
 have hcut:∀(L:List En) (m:Nat),m≤L.length→(L.flatMap jk).take (m*4)=(L.take m).flatMap jk:=fun L m hm=>by
  have e1:L.flatMap jk=(L.take m).flatMap jk++(L.drop m).flatMap jk:=by rw [←List.flatMap_append,List.take_append_drop]
  rw [e1,List.take_left' (by rw [jH jqY,List.length_take,Nat.min_eq_left hm])]
 rcases zq (fun e=>!jU y e) l with ⟨h1,h2⟩|⟨i0,x0,h1,h2,h3,h4⟩
 ·have hfl:l.filter (jU y)=l:=List.filter_eq_self.2 fun e he=>by have:=h2 e he;simpa using this
  simp only [go_sem,jb,h1,beq_self_eq_true];refine ⟨500,2,n,777,l.length,4,tEn,jrs,l.flatMap jk,_,ηc 2,.inr ⟨rfl,(jH jqY l).symm⟩,by simp only [go_sem];rfl,jju hl,by simp only [go_sem],by decide,by decide,by rw [jH jqY];exact Nat.le_refl _,fun η2 η' hη=>?_⟩
  rw [hcut l l.length (Nat.le_refl _),List.take_length,hfl];simp only [go_sem,jlc,jft,hη,jlG,jlC,jiE,hn,h0n,Nat.mul_one,jdp,hi1,jiA _ l hn,kp];exact ⟨hn,fun _ _=>trivial⟩
 ·have hi0:=(List.getElem?_eq_some_iff.1 h2).1
  have hne:((i0:Int)==-1)=false:=by simp
  have hw0:IntKind.i64.wrap ((i0:Int)+1)=((i0+1:Nat):Int):=jf (by omega) (by omega)
  have hset0:=jad hl;simp only [go_sem,jb,h1,hne,hw0];refine jn (fun i:Nat×Nat×List En=>St.of [(0,.c (.h 500 2 [n] (ηc 2 [n]))),(1,.fn 86 [.bp 200 0 b2]),(5,Ni i.1),(6,Ni i.2.1)] [(200,Bi b2 _ (jb y)),(400,ZYd b4 _),(500,kq b5 _ y.now y.seq (y.shelf.set n i.2.2) (ηc 2) y.runs (ηc 3))]) (fun i=>jx4 (fun e=>!jU y e) l i.2.2 i.1 i.2.1) (fun i=>l.length-i.2.1) (i0,i0+1,l) (jBL h2 h3 h4) (jg [some 200,some 400,some 500] (by simp only [go_sem,jb,hset0]<;>and_intros<;>first|rfl|assumption|trivial)) ?_
  rintro ⟨i,j,L⟩ hd;dsimp only at hd;have hL:(y.shelf.set n L)[n]?=some L:=List.getElem?_set_self hn;have hLl:=hd.len;have hij:=hd.ij;have hjl:=hd.jl;have h0i:(i:Int)≥0:=by omega
  by_cases hlt:j<l.length
  ·have hlt':(j:Int)<l.length:=by omega
   have h0j:(j:Int)≥0:=by omega
   obtain ⟨e,he⟩:=je hlt;have heL:L[j]?=some e:=by rw [hd.suf j (Nat.le_refl _)];exact he
   have hiL:i<L.length:=by omega
   have hjL:j<L.length:=by omega
   obtain ⟨xi,hxi⟩:=je hiL;have hw:IntKind.i64.wrap ((j:Int)+1)=((j+1:Nat):Int):=jf (by omega) (by omega)
   have hwi:IntKind.i64.wrap ((i:Int)+1)=((i+1:Nat):Int):=jf (by omega) (by omega)
   simp only [go_sem,jb,ko hL,hLl,hlt,hlt',h0j,jsK heL,jso heL,jk];intro b7;refine ji6 (by simp only [go_sem];rfl) (jqv y e) (by simp only [go_sem,jb,jk]) fun η=>?_
   cases hf:jU y e
   ·simp only [go_sem,jb,jk,hf,hw]
    exact ⟨(i,j+1,L),jxQ hd he (by simp [hf]),(jg [some 200,some 400,some 500] (by simp only [go_sem,jb]<;>and_intros<;>first|rfl|assumption|trivial)),by (try dsimp only);omega⟩
   ·simp only [go_sem,jb,jk,hf,hw,hwi,ko hL,hLl,h0i,jsK hxi,jso hxi,jqm e hL hiL,List.set_set,(show i<l.length by omega)]
    exact ⟨(i+1,j+1,L.set i e),juY hd he (by simp [hf]),(jg [some 200,some 400,some 500] (by simp only [go_sem,jb]<;>and_intros<;>first|rfl|assumption|trivial)),by (try dsimp only);omega⟩
  ·have hlt':¬(j:Int)<l.length:=by omega
   obtain rfl:j=l.length:=by omega
   have hde:=juZ hd;have hfe:l.filter (fun e=>!!jU y e)=l.filter (jU y):=by simp
   rw [hfe] at hde;have hin:i≤l.length:=by omega
   have hpos:0<l.length-i:=by omega
   have hsum:i+(l.length-i)=l.length:=by omega
   have hsum2:i+(l.length-i)=L.length:=by omega
   have hrf:kb ((List.replicate (l.length-i) jdC).flatMap jk)=true:=jaP _;obtain ⟨L2,hL2⟩:∃L2,L2=L.take i++List.replicate (l.length-i) jdC:=⟨_,rfl⟩;have hL2l:L2.length=l.length:=by rw [hL2];simp;omega
   have hL2t:L2.take i=l.filter (jU y):=by rw [hL2,List.take_left' (by rw [List.length_take];omega),hde]
   have hp2:D.put [n] (i*4) ((List.replicate (l.length-i) jdC).flatMap jk) (ku (y.shelf.set n L))=ku (y.shelf.set n L2):=by rw [jo6 hL (jxU hsum2),List.set_set,hL2]
   have hg2:(y.shelf.set n L2)[n]?=some L2:=List.getElem?_set_self hn;have hns:n<(y.shelf.set n L2).length:=by rw [List.length_set];exact hn
   simp only [go_sem,jb,ko hL,hLl,hlt',h0i,hin,Nat.le_refl,hpos,hsum,jxy,jn9,hrf,hp2,ko hg2,hL2l];refine ⟨500,2,n,777,i,4,tEn,jrs,L2.flatMap jk,_,ηc 2,.inl rfl,by simp only [go_sem];rfl,jju hg2,by simp only [go_sem],by decide,by decide,by rw [jH jqY];omega,fun η2 η' hη=>?_⟩
   rw [hcut L2 i (by omega),hL2t]
   simp only [go_sem,jlc,jft,hη,jlG,jlC,jiE,hns,h0n,Nat.mul_one,jdp,jiA _ (l.filter (jU y)) hns,kp,List.set_set,List.length_set,hn];exact ⟨hn,fun _ _=>trivial⟩
def jj7 (l:List En) (e:En):Nat:=if jds (fun x=>!kt x e) l<0 then l.length else (jds (fun x=>!kt x e) l).toNat
def jb8 (l:List En) (e:En):List En:=jk8 l (jj7 l e) e
theorem jyO {l:List En} {e x:En} {k:Nat} (h:l[k]?=some x) (hx:kt x e=false) (hn:∀y∈l.take k,(fun x=>!kt x e) y=false):jj7 l e=k:=by
 have h1:=jbj (f:=fun x=>!kt x e) h (by simp [hx]) hn
 rw [jj7,h1,if_neg (by omega)];exact Int.toNat_natCast k
theorem jqr {l:List En} {e:En} (hn:∀y∈l,(fun x=>!kt x e) y=false):jj7 l e=l.length:=by
 rw [jj7,jak hn];rfl
theorem jtS (l:List En) (e:En):jj7 l e≤l.length:=by
 rcases zq (fun x=>!kt x e) l with ⟨_,h2⟩|⟨k,x,h1,h2,h3,h4⟩
 ·rw [jqr h2];exact Nat.le_refl _
 ·rw [jj7,h1,if_neg (by omega),Int.toNat_natCast];exact Nat.le_of_lt (List.getElem?_eq_some_iff.1 h2).1
theorem jqq (l:List En) (e:En):(jb8 l e).length=l.length+1:=by
 have:=jtS l e;simp [jb8,jk8];omega
theorem jks (e:En):D.sl 4 tEn [.val (.int .i64 e.prio),.val (.int .i64 e.seq),.val (.int .i64 e.run),.val (.int .i64 e.task)]=jm [e]:=rfl
theorem juO (l:List En) (e:En):l.flatMap jk++[.val (.int .i64 e.prio),.val (.int .i64 e.seq),.val (.int .i64 e.run),.val (.int .i64 e.task)]=(l++[e]).flatMap jk:=by simp [jk]
theorem jxP (l m:List En):l.flatMap jk++m.flatMap jk=(l++m).flatMap jk:=List.flatMap_append.symm
def jcR:C:=iS [iA 3 (.box 44 4 (.t 1)),iA 4 (.mov (.c (.slice none 0 0)))] (iS [iA 5 (iN 0)] (.seq (.blk 0 (.loop (.seq (.seq (.dreg (T.pure 0 (iA 7 (iM 5)) (T.pure 1 (iA 8 (iM 0)) (T.pure 2 (iA 9 (iG 8)) (T.pure 3 (iA 10 (iP .lss 3 7 9)) (T.pure 4 (iA 11 (iM 10)) (T.pure 5 (iB 12 11 true (iM 0)) (T.pure 6 (iB 13 11 true (iM 5)) (T.pure 7 (iB 14 11 true (iI 4 12 13)) (T.pure 8 (iB 15 11 true (iT 4 14)) (T.pure 9 (iB 16 11 true (iT 4 3)) (T.alt (iB 17 11 true (.call 180 [.t 15,.t 16])) [] (T.pure 11 (iA 18 (.pick (.t 11) (.t 17) (.c (.bool false)))) T.done) T.stop)))))))))))) (iD 18 .skip (.exit 0))) (.blk 1 (.reg [iA 19 (iM 5),iA 20 (iQ .add 3 19 1),iA 5 (iM 20)]))))) (iS [iA 21 (.bsl 44 4 0 [] []),iA 22 (iM 0),iA 23 (iM 5),iA 24 (.sl 4 (.t 22) none (some (.t 23))),iA 25 (.app 44 4 32 (.t 21) (.t 24)),iA 6 (iM 25)] (iS [iA 26 (iM 6),iA 27 (iT 4 3),iA 28 (.bsl 44 4 1 [none,none,none,none] [(0,4,.t 27)]),iA 29 (.app 44 4 32 (.t 26) (.t 28)),iA 6 (iM 29)] (iS [iA 30 (iM 6),iA 31 (iM 0),iA 32 (iM 5),iA 33 (.sl 4 (.t 31) (some (.t 32)) none),iA 34 (.app 44 4 32 (.t 30) (.t 33)),iA 4 (iM 34)] .ret)))))
theorem jfE:fnC Tryz.prog Tryz.f135=some (jcR,[.t 4],35):=by kernel_rfl
def jc2:C:=iS [iA 3 (.box 44 4 (.t 1)),iA 4 (.mov (.c (.slice none 0 0)))] (iS [iA 6 (iM 0),iA 7 (.mkf 175 [.t 3]),iA 8 (.call 141 [.t 6,.t 7]),iA 5 (iM 8)] (.seq (iS [iA 9 (iM 5),iA 10 (iQ .lss 3 9 0)] (iD 10 (.reg [iA 11 (iM 0),iA 12 (iG 11),iA 5 (iM 12)]) .skip)) (.seq (.dreg (T.pure 0 (iA 13 (iM 0)) (T.pure 2 (iA 15 (iM 5)) (T.pure 3 (iA 16 (iT 4 3)) (T.alt (iA 14 (.call 126 [.t 13])) [3,2] (T.alt (iA 17 (.bsl 44 4 1 [none,none,none,none] [(0,4,.t 16)])) [2,0] (T.alt (iA 18 (.call 176 [.t 14,.t 15,.t 17])) [] (T.pure 6 (iA 4 (iM 18)) T.done) T.stop) T.stop) (T.alt (iA 17 (.bsl 44 4 1 [none,none,none,none] [(0,4,.t 16)])) [2,0] (T.alt (iA 14 (.call 126 [.t 13])) [3,2] (T.alt (iA 18 (.call 176 [.t 14,.t 15,.t 17])) [] (T.pure 6 (iA 4 (iM 18)) T.done) T.stop) T.stop) T.stop)))))) .ret)))
theorem jfN:fnC Tryz.prog Tryz.f128=some (jc2,[.t 4],19):=by kernel_rfl
def jbs:C:=iS [iA 2 (.box 44 4 (.t 0)),iA 3 (iO false)] (iS [iA 4 (iT 4 2),iA 5 (iT 4 1),iA 6 (.call 138 [.t 4,.t 5]),iA 7 (iU 6),iA 3 (iM 7)] .ret)
theorem jdz:fnC Tryz.prog Tryz.f175=some (jbs,[.t 3],8):=by kernel_rfl
theorem jaq (l:List En) (e:En) (hl:l.length≤4000000):kj Tryz.prog 135 [.c (jm l),.agg (jk e)] (.c (jm (jb8 l e))):=by
 refine jq Tryz.func135 jfE (by simp) ?_
 unfold jcR;simp only [go_sem,jk];intro b3;refine jn (fun i:Nat=>St.of [(0,Ro (jm l)),(3,Bx 300 b3),(5,Ni i)] [(300,Bi b3 _ (jk e))]) (fun i=>i≤l.length∧∀y∈l.take i,(fun x=>!kt x e) y=false) (fun i=>l.length-i) 0 (by (try dsimp only);first|omega|(simp;done)|(and_intros<;>first|omega|simp)) (jg [some 300] (by simp only [go_sem,jk]<;>and_intros<;>first|rfl|assumption|trivial)) ?_
 rintro k ⟨hk,hko⟩;have h0k:(k:Int)≥0:=by omega
 have hkl:=hk;have htd:(l.drop k).take (l.length-k)=l.drop k:=List.take_of_length_le (by rw [List.length_drop];omega)
 obtain ⟨A,hA⟩:∃A,l.take k++[e]=A:=⟨_,rfl⟩;have hAl:A.length=k+1:=by rw [←hA,List.length_append,List.length_take,Nat.min_eq_left hk];rfl
 have hM:∀(hp:jj7 l e=k),jm (jb8 l e)=jm (A++l.drop k):=fun hp=>by rw [jb8,hp,jk8,←hA];simp
 have l1:(l.take k).length≤4000000:=by rw [List.length_take];omega
 have l2:(l.drop k).length≤4000000:=by rw [List.length_drop];omega
 have m1:(l.take k).length≤maxLen:=by unfold maxLen;omega
 have m2:(l.take k).length*32≤140737488355328:=by omega
 have m3:(l.take k).length+1≤maxLen:=by unfold maxLen;omega
 have m4:((l.take k).length+1)*32≤140737488355328:=by omega
 have m5:A.length+(l.drop k).length≤maxLen:=by unfold maxLen;omega
 have m6:(A.length+(l.drop k).length)*32≤140737488355328:=by omega
 by_cases hlt:k<l.length
 ·have hlt':(k:Int)<l.length:=by omega
  obtain ⟨x,hx⟩:=je hlt;have hw:IntKind.i64.wrap ((k:Int)+1)=((k+1:Nat):Int):=jf (by omega) (by omega)
  simp only [go_sem,jk,hlt,hlt',h0k,jI hx];refine jc (jht x e) (by simp only [go_sem,jk]) fun η=>?_
  simp only [go_sem,jk];cases ha:kt x e
  ·rw [hM (jyO hx ha hko)]
   simp only [go_sem,jk,ha,hk,h0k,Nat.le_refl,htd,m1,m2,m3,m4,juO,hA,m5,m6,jxP,kp]
  ·simp only [go_sem,jk,ha,hw]
   exact ⟨k+1,⟨hlt,jlA hx (by simp [ha]) hko⟩,(jg [some 300] (by simp only [go_sem,jk]<;>and_intros<;>first|rfl|assumption|trivial)),by (try dsimp only);omega⟩
 have hlt':¬(k:Int)<l.length:=by omega
 have hko':∀y∈l,(fun x=>!kt x e) y=false:=by rw [List.take_of_length_le (by omega)] at hko;exact hko
 rw [hM (by rw [jqr hko'];omega)]
 simp only [go_sem,jk,hlt',hk,h0k,Nat.le_refl,htd,m1,m2,m3,m4,juO,hA,m5,m6,jxP,kp]
theorem jA0 (x e:En):kj Tryz.prog 175 [.agg (jk x),.ptr (jk e)] (.c (.val (.bool (!kt x e)))):=by
 refine jq Tryz.func175 jdz (by simp) ?_
 unfold jbs;simp only [go_sem,jk];intro b2;refine jc (jhw x e) (by simp only [go_sem,jk]) fun η=>?_
 simp only [go_sem,jk]
theorem jar (l:List En) (e:En) (hl:l.length≤4000000):kj Tryz.prog 128 [.c (jm l),.agg (jk e)] (.c (jm (jb8 l e))):=by
 refine jq Tryz.func128 jfN (by simp) ?_
 unfold jc2;simp only [go_sem,jk];intro b3;refine jc (jbB l _ (jk e) (fun x=>!kt x e) (fun x=>jA0 x e) hl) (by simp only [go_sem,jk]) fun η=>?_
 have hkl:=jtS l e;have hfin:∀(n:Nat),jj7 l e=n→jb8 l e=jk8 l n e:=fun n h=>by rw [jb8,h]
 by_cases hneg:jds (fun x=>!kt x e) l<0
 ·have hp:jj7 l e=l.length:=by rw [jj7,if_pos hneg]
  rw [hfin _ hp];simp only [go_sem,jk,hneg];refine ⟨?_,?_⟩
  ·refine jc (ki l hl) (by simp only [go_sem,jk,jks]) fun ηa=>?_
   simp only [go_sem,jk,jks];intro η17;refine je8 (R:=fun rt _=>rt=.c (jm (jk8 l l.length e))) (by simp only [go_sem];exact (jiw l l.length e (by omega) hl (by simp only [go_sem]) (by simp only [go_sem]) (by decide)).mono fun rt o' h=>h.1) fun rt o' hR η=>?_
   subst hR;simp only [go_sem]
  ·simp only [go_sem,jk,jks]
   intro η17;refine jc (ki l hl) (by simp only [go_sem,jk,jks]) fun ηa=>?_
   simp only [go_sem,jk,jks];refine je8 (R:=fun rt _=>rt=.c (jm (jk8 l l.length e))) (by simp only [go_sem];exact (jiw l l.length e (by omega) hl (by simp only [go_sem]) (by simp only [go_sem]) (by decide)).mono fun rt o' h=>h.1) fun rt o' hR η=>?_
   subst hR;simp only [go_sem]
 ·have hn:jds (fun x=>!kt x e) l=((jj7 l e:Nat):Int):=by rw [jj7,if_neg hneg];omega
  rw [hfin _ rfl];generalize jj7 l e=n at*;have hn0:¬(n:Int)<0:=by omega
  rw [hn];simp only [go_sem,jk,hn0];refine ⟨?_,?_⟩
  ·refine jc (ki l hl) (by simp only [go_sem,jk,jks]) fun ηa=>?_
   simp only [go_sem,jk,jks];intro η17;refine je8 (R:=fun rt _=>rt=.c (jm (jk8 l n e))) (by simp only [go_sem];exact (jiw l n e (by omega) hl (by simp only [go_sem]) (by simp only [go_sem]) (by decide)).mono fun rt o' h=>h.1) fun rt o' hR η=>?_
   subst hR;simp only [go_sem]
  ·simp only [go_sem,jk,jks]
   intro η17;refine jc (ki l hl) (by simp only [go_sem,jk,jks]) fun ηa=>?_
   simp only [go_sem,jk,jks];refine je8 (R:=fun rt _=>rt=.c (jm (jk8 l n e))) (by simp only [go_sem];exact (jiw l n e (by omega) hl (by simp only [go_sem]) (by simp only [go_sem]) (by decide)).mono fun rt o' h=>h.1) fun rt o' hR η=>?_
   subst hR;simp only [go_sem]
section
variable {P:Program} {β:Nat} {s:St} {K:St→Prop} {Q:Ex→St→Prop}
theorem kY {a:C} (h:WkK s (wpC P β a Q)):wpC P β (.gh a) Q s:=h
theorem WkK.of {K:St→Prop} (h:K s):WkK s K:=fun _ _ _ _ _ F hr=>⟨s,F,hr,h⟩
theorem WkK.wk {s':St} (h:Wk s s') (hk:WkK s' K):WkK s K:=fun B N w0 w a F hr=>let ⟨F',h1,_⟩:=h B N w0 w a F hr;hk B N w0 w a F' h1
theorem jmY {u:Value} (h:∃A n c,u=.slice A n c):u.oneCell'=true:=by obtain ⟨_,_,_,rfl⟩:=h;rfl
theorem juq {w:World} {own:Bool} {d:D} {u:Value} {S:List Nat} (hd:d.isSl=true) (h:Rep w own d u S):∃A n c,u=.slice A n c:=by
 cases d with
 |val _=>cases hd
 |sl _ _ _=>exact vV h
theorem qG (g c g2:Nat) {d:D} {η:js} (ho:(s.o g).own c=some (d,η)) (h2:s.o g2=.none) (hne:g2≠g) (hk:(η []).oneCell'=true→WkK ((s.rm g c).setO g2 (.loose d η)) K):WkK s K:=by
 intro B N w0 w a F h;obtain ⟨u,S,F',j1,j2,j3,j4,j5,j6,j7,j8⟩:=h.rm ho;have e:η []=u:=by rw [j3,zS j1]
 exact hk (e▸jmY (juq j1 j2)) _ _ _ _ _ _ (j5.setO (g:=g2) (ob:=.loose d η) (S:=S) ⟨j1,u,j2,j3⟩ j4 (fun g' _ b hb=>j6 g' b hb))
theorem jmH {B:Nat} {w:World} {d:D} {η:js} {u:Value} {S2:List Nat} (hd:d.isSl=true) (hr:Rep w true d u S2) (hh:∀p,η p=hdr w p d u):∀{c:Nat} {l:List Cell} {us:List Value} {S:List Nat},CRel B w l us S→l[c]?=some (.a (.v u))→
 ∃S',CRel B w (l.set c (.own d η)) us S'∧S'.Perm (S++S2)
 |_,[],_,_,_,h=>by simp at h
 |0,.a x::l,_,S,⟨v,us',rfl,h1,h2⟩,h=>by
  simp at h;subst h;have:v=u:=h1;subst this;exact ⟨S2++S,⟨v,us',S2,S,rfl,rfl,hd,hr,hh,h2⟩,List.perm_append_comm⟩
 |0,.own e ε::l,_,_,_,h=>by simp at h
 |c+1,.a x::l,_,S,⟨v,us',rfl,h1,h2⟩,h=>by
  simp at h;obtain ⟨S',a1,a2⟩:=jmH hd hr hh h2 h;exact ⟨S',⟨v,us',rfl,h1,a1⟩,a2⟩
 |c+1,.own e ε::l,_,_,⟨v,us',T1,T2,rfl,rfl,h1,h2,h3,h4⟩,h=>by
  simp at h;obtain ⟨S',a1,a2⟩:=jmH hd hr hh h4 h;exact ⟨T1++S',⟨v,us',T1,S',rfl,rfl,h1,h2,h3,a1⟩,by rw [List.append_assoc];exact List.Perm.append_left _ a2⟩
theorem qN (g c g2:Nat) {b ty:Nat} {cs:List Cell} {d:D} {η:js} (hb:s.o g=.box b ty cs) (hc:cs[c]?=some (.a (.v (η [])))) (h2:s.o g2=.loose d η) (hk:WkK ((s.setO g2 .none).setO g (.box b ty (cs.set c (.own d η)))) K):WkK s K:=by
 intro B N w0 w a F h;have hne:g2≠g:=fun e=>by rw [e,hb] at h2;cases h2
 have h3:=h.ob g2;rw [h2] at h3;obtain ⟨k1,u,k2,k3⟩:=h3;have e:η []=u:=by rw [k3,zS k1]
 rw [e] at hc;have h4:=h.ob g;rw [hb] at h4;obtain ⟨us,S1,q1,q2,q3⟩:=h4;obtain ⟨S',q4,q5⟩:=jmH k1 k2 k3 q2 hc;have t1:=h.setO (g:=g2) (ob:=.none) (S:=[]) rfl (Fresh.nil _) (by simp)
 have hp:(b::S').Perm (F g++F g2):=by rw [q3];exact q5.cons b
 have hnd:(F g++F g2).Nodup:=List.nodup_append.2 ⟨(h.fr g).1,(h.fr g2).1,fun x hx y hy e=>h.dj g g2 (fun e=>hne e.symm) x hx (e▸hy)⟩
 refine hk _ _ _ _ _ _ (t1.setO (g:=g) (ob:=.box b ty (cs.set c (.own d η))) (S:=b::S') ⟨us,S',q1,q4,rfl⟩ ⟨hp.nodup_iff.2 hnd,fun x hx=>?_⟩ (fun g' hg' x hx=>?_))
 ·rcases List.mem_append.1 (hp.mem_iff.1 hx) with hx|hx
  ·exact (h.fr g).2 x hx
  ·exact (h.fr g2).2 x hx
 ·split
  ·simp
  ·rename_i hg2
   intro hh;rcases List.mem_append.1 (hp.mem_iff.1 hx) with hx|hx
   ·exact h.dj g' g hg' x hh hx
   ·exact h.dj g' g2 hg2 x hh hx
theorem jer (g c k g2:Nat) {sz tyo size ty:Nat} {ds0 cs:List D} {η:js} (ho:(s.o g).own c=some (.sl sz tyo ds0,η)) (hk:ds0[k]?=some (.sl size ty cs)) (h2:s.o g2=.none) (hne:g2≠g)
 (hK:∀η2 η',η' []=η []→η2 []=η [k]→(η [k]).oneCell'=true→WkK ((s.setO g ((s.o g).putOwn c (.sl sz tyo (ds0.set k (.val (η [k])))) η')).setO g2 (.loose (.sl size ty cs) η2)) K):WkK s K:=by
 intro B N w0 w a F h;obtain ⟨v,Sk,a1,a2,_,a4,a5,a6⟩:=jmx (h.ob g) ho hk;have hv:=a2 rfl;obtain ⟨η',S',b1,b2,R,b3,b4⟩:=a6 (.val v) [] ⟨rfl,rfl⟩;rw [List.append_nil] at b4;have hnd:=b3.nodup_iff.1 (h.fr g).1;have hsub:∀b∈S',b∈F g:=fun b hb=>b3.mem_iff.2 (List.mem_append.2 (.inl (b4.mem_iff.1 hb)))
 have t1:=h.setO (g:=g) b1 ⟨b4.nodup_iff.2 (List.nodup_append.1 hnd).1,fun b hb=>(h.fr g).2 b (hsub b hb)⟩ (fun g' hg' b hb hh=>h.dj g' g hg' b hh (hsub b hb))
 have t2:=t1.setO (g:=g2) (ob:=.loose (.sl size ty cs) (fun p=>hdr w p (.sl size ty cs) v)) (S:=Sk) ⟨rfl,v,a1,fun _=>rfl⟩ ⟨(List.nodup_append.1 hnd).2.1,fun b hb=>(h.fr g).2 b (a4 b hb)⟩ (fun g' _ b hb=>by
  split
  ·exact fun hh=>(List.nodup_append.1 hnd).2.2 b (b4.mem_iff.1 hh) b hb rfl
  ·rename_i hgg
   exact fun hh=>h.dj g' g hgg b hh (a4 b hb))
 have:=hK (fun p=>hdr w p (.sl size ty cs) v) η' b2 (by rw [hv];rfl) (by rw [hv];exact jmY (vV a1))
 rw [hv] at this;exact this _ _ _ _ _ _ t2
theorem qx (g c k g2:Nat) {sz tyo size ty:Nat} {ds0 cs:List D} {e:D} {η η2:js} (ho:(s.o g).own c=some (.sl sz tyo ds0,η)) (hk:ds0[k]?=some e) (he:e=.val (η2 [])∨e=jqA (some (size,ty)) (η2 [])) (h2:s.o g2=.loose (.sl size ty cs) η2) (hne:g2≠g)
 (hK:∀η',η' []=η []→WkK ((s.setO g2 .none).setO g ((s.o g).putOwn c (.sl sz tyo (ds0.set k (.sl size ty cs))) η')) K):WkK s K:=by
 intro B N w0 w a F h;have h3:=h.ob g2;rw [h2] at h3;obtain ⟨_,u,k2,k3⟩:=h3;have eu:η2 []=u:=by rw [k3];rfl
 rw [eu] at he;obtain ⟨v,Sk,a1,a2,a3,a4,a5,a6⟩:=jmx (h.ob g) ho hk
 have hX:∃X,Rep w true (.sl size ty cs) v X∧(X=F g2∨X=Sk):=by
  by_cases hn:u=.slice none 0 0∧e=jqA (some (size,ty)) u
  ·obtain ⟨hu,he'⟩:=hn
   subst hu
   have hcs:cs=[]:=by
    obtain ⟨vs,T,S',hrow,hrl,_⟩:=k2;rcases qy hrow with ⟨_,rfl⟩|⟨gg,nn,c2,e2,_⟩
    ·exact List.eq_nil_of_length_eq_zero (RepL.length _ hrl).symm
    ·cases e2
   subst hcs;subst he';exact ⟨Sk,a1,.inr rfl⟩
  ·refine ⟨F g2,?_,.inl rfl⟩
   have hvu:v=u:=by
    rcases he with he|he
    ·exact a3 u he
    ·refine a3 _ ?_
     by_cases hn':u=.slice none 0 0
     ·exact absurd ⟨hn',he⟩ hn
     ·rw [he]
      obtain ⟨A,n,cc,rfl⟩:=vV k2;unfold jqA;split
      ·rename_i e1;exact absurd e1 hn'
      ·rfl
   exact hvu▸k2
 obtain ⟨X,hX1,hX2⟩:=hX;obtain ⟨η',S',b1,b2,R,b3,b4⟩:=a6 (.sl size ty cs) X hX1;have t1:=h.setO (g:=g2) (ob:=.none) (S:=[]) rfl (Fresh.nil _) (by simp)
 have hnd:=b3.nodup_iff.1 (h.fr g).1;have hR:∀b∈R,b∈F g:=fun b hb=>b3.mem_iff.2 (List.mem_append.2 (.inl hb))
 have hX3:∀b∈X,b∈F g∨b∈F g2:=fun b hb=>by
  rcases hX2 with rfl|rfl
  ·exact .inr hb
  ·exact .inl (a4 b hb)
 have hnd2:(R++X).Nodup:=by
  rcases hX2 with rfl|rfl
  ·exact List.nodup_append.2 ⟨(List.nodup_append.1 hnd).1,(h.fr g2).1,fun x hx y hy e=>h.dj g g2 (fun e=>hne e.symm) x (hR x hx) (e▸hy)⟩
  ·exact hnd
 refine hK η' b2 _ _ _ _ _ _ (t1.setO (g:=g) (ob:=(s.o g).putOwn c (.sl sz tyo (ds0.set k (.sl size ty cs))) η') b1 ⟨b4.nodup_iff.2 hnd2,fun x hx=>?_⟩ (fun g' hg' x hx=>?_))
 ·rcases List.mem_append.1 (b4.mem_iff.1 hx) with hx|hx
  ·exact (h.fr g).2 x (hR x hx)
  ·rcases hX3 x hx with hx|hx
   ·exact (h.fr g).2 x hx
   ·exact (h.fr g2).2 x hx
 ·split
  ·simp
  ·rename_i hg2
   intro hh;rcases List.mem_append.1 (b4.mem_iff.1 hx) with hx|hx
   ·exact h.dj g' g hg' x hh (hR x hx)
   ·rcases hX3 x hx with hx|hx
    ·exact h.dj g' g hg' x hh hx
    ·exact h.dj g' g2 hg2 x hh hx
end
theorem jsS {a b:Int} (ha:0≤a∧a<4294967296) (hb:0≤b∧b<4294967296):0≤jro a b∧jro a b<4294967296:=by
 obtain ⟨a,rfl⟩:=Int.eq_ofNat_of_zero_le ha.1;obtain ⟨b,rfl⟩:=Int.eq_ofNat_of_zero_le hb.1;have h1:a^^^b<2^32:=Nat.xor_lt_two_pow (by omega) (by omega)
 have h2:(BitVec.ofInt 64 (a:Int)^^^BitVec.ofInt 64 (b:Int)).toNat=a^^^b:=by
  rw [BitVec.toNat_xor,BitVec.ofInt_natCast,BitVec.ofInt_natCast,BitVec.toNat_ofNat,BitVec.toNat_ofNat,Nat.mod_eq_of_lt (by omega),Nat.mod_eq_of_lt (by omega)]
 rw [jro,h2,jf (by omega) (by omega)]
 omega
theorem jvN {c:Int} (h:0≤c∧c<4294967296):0≤jkH c∧jkH c<4294967296:=by
 have h2:c.tdiv 2=c/2:=Int.tdiv_eq_ediv_of_nonneg h.1;have h3:IntKind.i64.wrap (c.tdiv 2)=c/2:=by rw [h2];exact jf (by omega) (by omega)
 rw [jkH,h3];split
 ·exact jsS (by omega) (by omega)
 ·omega
theorem jup {c:Int} (h:0≤c∧c<4294967296):∀n,0≤jnW n c∧jnW n c<4294967296
 |0=>h
 |n+1=>jvN (jup h n)
theorem jz5 {c:Int} (h:0≤c∧c<4294967296) (b:UInt8):0≤jxo c b∧jxo c b<4294967296:=by
 have:=b.toNat_lt;refine jup (jsS h ?_) 8;rw [jf (by omega) (by omega)]
 omega
theorem jz4 (b:ByteArray):0≤jzQ b∧jzQ b<4294967296:=by
 refine jsS ?_ (by omega)
 have:∀(l:List UInt8) (c:Int),0≤c∧c<4294967296→0≤l.foldl jxo c∧l.foldl jxo c<4294967296:=by
  intro l
  induction l with
  |nil=>exact fun c h=>h
  |cons x l ih=>exact fun c h=>ih _ (jz5 h x)
 exact this _ _ (by omega)
def shN (id:Int):Nat:=(jck id).toNat
theorem jym (id:Int):jck id=(shN id:Int)∧shN id<4:=by
 have h:=jz4 (jrp id)
 have h1:0≤jck id∧jck id<4:=by
  unfold jck;split
  ·omega
  ·rw [Int.tmod_eq_emod_of_nonneg h.1];omega
 unfold shN;omega
def vQ (prio id:Int) (ids:List Int) (s:List En×Int):List En×Int:=ids.foldl (fun s t=>(jb8 s.1 ⟨prio,s.2,id,t⟩,s.2+1)) s
theorem jfi (prio id:Int) (ids:List Int) (t:Int) (s:List En×Int):vQ prio id (ids++[t]) s=(jb8 (vQ prio id ids s).1 ⟨prio,(vQ prio id ids s).2,id,t⟩,(vQ prio id ids s).2+1):=by simp [vQ]
theorem jfj (prio id:Int) (s:List En×Int):vQ prio id [] s=s:=rfl
theorem zB (prio id:Int):∀(ids:List Int) (s:List En×Int),(vQ prio id ids s).2=s.2+ids.length
 |[],s=>by simp [vQ]
 |t::ids,s=>by
  have:=zB prio id ids (jb8 s.1 ⟨prio,s.2,id,t⟩,s.2+1);simp only [vQ,List.foldl_cons,List.length_cons] at this⊢;rw [this];omega
theorem jdl (prio id:Int):∀(ids:List Int) (s:List En×Int),(vQ prio id ids s).1.length=s.1.length+ids.length
 |[],s=>by simp [vQ]
 |t::ids,s=>by
  have:=jdl prio id ids (jb8 s.1 ⟨prio,s.2,id,t⟩,s.2+1);simp only [vQ,List.foldl_cons,List.length_cons] at this⊢;rw [this,jqq];omega
def joO (was ts:List Tk) (k:Nat):Bool:=(stT ts k==2)&&!(decide (k<was.length)&&(stT was k==2))
def vP (was ts:List Tk) (k:Nat):List Int:=((List.range k).filter (joO was ts)).map fun (j:Nat)=>(j:Int)
theorem jxF (was ts:List Tk):vP was ts 0=[]:=rfl
theorem jxE (was ts:List Tk) (k:Nat):vP was ts (k+1)=vP was ts k++(if joO was ts k then [(k:Int)] else []):=by
 cases h:joO was ts k<;>simp [vP,List.range_succ,h]
theorem jdg (was ts:List Tk) (k:Nat):(vP was ts k).length≤k:=by
 simp only [vP,List.length_map];exact Nat.le_trans (List.length_filter_le _ _) (by simp)
theorem jwo (ts:List Tk) (k:Nat):vP [] ts k=vO 2 ts k:=by
 have:joO [] ts=fun (j:Nat)=>stT ts (j:Int)==2:=by funext j;simp [joO]
 simp [vP,vO,this]
def jsg (y:Yd) (r:Rn) (ids:List Int):Yd:=
 let p:=vQ r.plan.prio r.id ids ((y.shelf[shN r.id]?).getD default,y.seq)
 ⟨y.now,p.2,y.shelf.set (shN r.id) p.1,y.runs⟩
abbrev rnH (r:Rn) (x5 x7:Value):List D:=[.val (.int .i64 r.id),.val (.int .i64 r.plan.prio),.val (.int .i64 r.plan.most),.val (.int .i64 r.plan.wait),.val (.int .i64 r.plan.tasks),jqA (some (2,tEd)) x5,.val (.int .i64 r.state),jqA (some (4,tTk)) x7]
abbrev joK (b ty:Nat) (r:Rn) (x5 x7:Value):Ob:=.box b ty [.a (.v (.int .i64 r.id)),.a (.v (.int .i64 r.plan.prio)),.a (.v (.int .i64 r.plan.most)),.a (.v (.int .i64 r.plan.wait)),.a (.v (.int .i64 r.plan.tasks)),.a (.v x5),.a (.v (.int .i64 r.state)),.a (.v x7)]
abbrev qZ (b ty:Nat) (now seq:Int) (sh:List (List En)) (e1:js) (d:D) (e2:js):Ob:=.box b ty [.a (.v (.int .i64 now)),.a (.v (.int .i64 seq)),.own (ku sh) e1,.own d e2]
theorem jjl (k:Nat×Nat) {x:Value} (h:x.oneCell'=true) (l:List D):jjm (jqA (some k) x::l)=jjm l:=by
 unfold jqA;split<;>simp [jjm, *]
theorem jpS {P:Program} {β:Nat} {fl:Prop} [Decidable fl] {m1 m2 o:Prop} {a:C} {Q:Ex→St→Prop} {f g:js→St} (st:js→St) (h1:m1) (h2:m2) (ho:o) (hf:∀η,Wk (f η) (st η)) (hg:∀η,Wk (g η) (st η)) (key:∀η,WkK (st η) (wpC P β a Q)):
 if fl then m1∧m2∧∀η,wpC P β (.gh a) Q (f η) else o∧m1∧m2∧∀η,wpC P β (.gh a) Q (g η):=by
 split
 ·exact ⟨h1,h2,fun η=>kY (WkK.wk (hf η) (key η))⟩
 ·exact ⟨ho,h1,h2,fun η=>kY (WkK.wk (hg η) (key η))⟩
theorem jao {sh:List (List En)} {n:Nat} (l:List En):D.put [] n [jm l] (ku sh)=ku (sh.set n l):=by
 simp only [ku,D.put,kD,jkN,List.map_set]
theorem jwp {ts:List Tk} {k:Nat} {x:Tk} (h:ts[k]?=some x):joO [] ts k=(x.state==2):=by
 simp [joO,kw h]
theorem jjn {α:Type} {l:List α}:∀{L:List (List α)},l∈L→l.length≤L.flatten.length
 |[],h=>by simp at h
 |x::L,h=>by
  rcases List.mem_cons.1 h with rfl|h
  ·simp
  ·have:=jjn h
   simp only [List.flatten_cons,List.length_append];omega
theorem vU {y:Yd} (ht:jJ y≤2000000) {l:List En} (h:l∈y.shelf):l.length≤2000000:=Nat.le_trans (jjn h) (zl ht)
theorem jgw (l:List Rn):(l.flatMap jd).length=l.length*8:=jH (enc:=jd) (fun _=>rfl) l
theorem jqi (l:List Rn) (row:List D) (j:Nat):(l.flatMap jd++row)[l.length*8+j]?=row[j]?:=by
 rw [List.getElem?_append_right (by rw [jgw];omega),jgw,Nat.add_sub_cancel_left]
theorem jlN (l:List Rn) (row:List D) (j:Nat) (d:D):(l.flatMap jd++row).set (l.length*8+j) d=l.flatMap jd++row.set j d:=by
 rw [List.set_append_right _ _ (by rw [jgw];omega),jgw,Nat.add_sub_cancel_left]
theorem jng (l:List Rn) (r:Rn):D.sl 8 tRn (l.flatMap jd++jd r)=jK (l++[r]):=by simp [jK]
theorem jtt {P:Program} {β:Nat} {a b:C} {Q:Ex→St→Prop} {s:St} {ι:Type} (mk:ι→St) (h1:wpC P β a (Ex.thn (fun s'=>∃i,Wk s' (mk i)) Q) s) (h2:∀i,wpC P β b Q (mk i)):wpC P β (.seq a (.gh b)) Q s:=by
 rw [joP];exact zw a (je3 (fun s' ⟨i,h⟩=>wp_gh (mk i) h (h2 i)) fun _ _ h=>h) h1
theorem jkh (y:Yd) (p:Pl) (ht:jJ y≤2000000):kj Tryz.prog 113 [.agg (jb y),.agg (ja p)] (.c (.val (.bool (zm y p)))):=jo8 ⟨_,Tryz.func113,by kernel_rfl,by kernel_rfl⟩ fun w a b ⟨S,ha⟩ ⟨S',hb⟩=>jrL y p a b S S' w false false ha hb ht
theorem jkm (y:Yd) (p:Pl) (ht:jJ y≤2000000):kj Tryz.prog 46 [.agg (jb y),.agg (ja p)] (.c (.val (.bool (zm y p)))):=jo8 ⟨_,Tryz.func46,by kernel_rfl,by kernel_rfl⟩ fun w a b ⟨S,ha⟩ ⟨S',hb⟩=>jsp y p a b S S' w false false ha hb ht
open Classical in
noncomputable def jdG (y:Yd) (id:Int) (p:Pl):Int:=if jD y=false then 8 else if¬(1≤id∧id≤9999) then 5 else if 0≤runAt y id then 6 else if jw p≠0 then jw p else if zm y p=false then 7 else 0
noncomputable def jeu (y:Yd) (id:Int) (p:Pl):Yd:=if jdG y id p=0 then jsg ⟨y.now,y.seq,y.shelf,y.runs++[jY id p]⟩ (jY id p) (qM 2 (jY id p).tasks) else y
def jfY:C:=iS [iA 3 (.box 27 4 (.t 0)),iA 5 (.box 49 5 (.t 2)),iA 6 (.alloc 27 [.int .i64 0,.int .i64 0,.slice none 0 0,.slice none 0 0]),iA 7 (iN 0)] (iS [iA 11 (iT 4 3),iA 12 (.call 67 [.t 11]),iA 8 (.alloc 27 [.int .i64 0,.int .i64 0,.slice none 0 0,.slice none 0 0]),iC (.st 4 [none,none,some (1,35),some (8,52)] (.t 8) (.t 12))] (.seq (.blk 0 (iS [iA 14 (iT 4 3),iA 15 (.call 66 [.t 14]),iA 16 (iU 15),iA 13 (iM 16)] (iD 13 (iS [iA 17 (iT 4 8),iC (.st 4 [none,none,some (1,35),some (8,52)] (.t 6) (.t 17)),iA 7 (iN 8)] .ret) (iS [iA 19 (iM 1),iA 20 (.call 68 [.t 19,.c (.int .i64 1),.c (.int .i64 9999)]),iA 21 (iU 20),iA 18 (iM 21)] (iD 18 (iS [iA 22 (iT 4 8),iC (.st 4 [none,none,some (1,35),some (8,52)] (.t 6) (.t 22)),iA 7 (iN 5)] .ret) (iS [iA 24 (iT 4 3),iA 25 (iM 1),iA 26 (.call 26 [.t 24,.t 25]),iA 27 (iQ .geq 3 26 0),iA 23 (iM 27)] (iD 23 (iS [iA 28 (iT 4 8),iC (.st 4 [none,none,some (1,35),some (8,52)] (.t 6) (.t 28)),iA 7 (iN 6)] .ret) (iS [iA 30 (iT 5 5),iA 31 (.call 112 [.t 30]),iA 32 (iQ .neq 3 31 0),iA 29 (iM 32)] (iD 29 (.seq (.dreg (T.pure 0 (iA 33 (iT 4 8)) (T.pure 1 (iA 34 (iT 5 5)) (T.alt (iA 35 (.call 112 [.t 34])) [0] (T.alt (iC (.st 4 [none,none,some (1,35),some (8,52)] (.t 6) (.t 33))) [] (T.pure 4 (iA 7 (iM 35)) T.done) T.stop) T.stop)))) .ret) (iS [iA 37 (iT 4 3),iA 38 (iT 5 5),iA 39 (.call 113 [.t 37,.t 38]),iA 40 (iU 39),iA 36 (iM 40)] (iD 36 (iS [iA 41 (iT 4 8),iC (.st 4 [none,none,some (1,35),some (8,52)] (.t 6) (.t 41)),iA 7 (iN 7)] .ret) .skip))))))))))) (iS [iA 43 (iM 1),iA 44 (iT 5 5),iA 45 (.call 114 [.t 43,.t 44]),iA 42 (iM 45),iA 46 (iE 42 0),iA 47 (iE 42 1),iA 9 (.alloc 52 [.int .i64 0,.int .i64 0,.int .i64 0,.int .i64 0,.int .i64 0,.slice none 0 0,.int .i64 0,.slice none 0 0]),iC (.st 8 [none,none,none,none,none,some (2,161),none,some (4,46)] (.t 9) (.t 46)),iA 10 (iM 47)] (iS [iA 48 (iF 3 8),iA 49 (iL 48),iA 50 (iT 8 9),iA 51 (.bsl 52 8 1 [none,none,none,none,none,some (2,161),none,some (4,46)] [(0,8,.t 50)]),iA 52 (.app 52 8 96 (.t 49) (.t 51)),iA 53 (iF 3 8),iC (.st 1 [some (8,52)] (.t 53) (.t 52))] (iS [iA 54 (iT 4 8),iA 55 (.bld [.int .i64 0,.int .i64 0,.int .i64 0,.int .i64 0,.int .i64 0,.slice none 0 0,.int .i64 0,.slice none 0 0] []),iA 56 (iT 8 9),iA 57 (.call 115 [.t 54,.t 55,.t 56]),iC (.st 4 [none,none,some (1,35),some (8,52)] (.t 6) (.t 57)),iA 7 (iN 0)] .ret)))))
theorem jh2:fnC Tryz.prog Tryz.f45=some (jfY,[.cell 6 true 4,.t 7],58):=by kernel_rfl
def jbG:C:=iS [iA 3 (.box 27 4 (.t 0)),iA 4 (.box 52 8 (.t 1)),iA 5 (.box 52 8 (.t 2)),iA 6 (.alloc 27 [.int .i64 0,.int .i64 0,.slice none 0 0,.slice none 0 0])] (iS [iA 9 (iF 0 5),iA 10 (iL 9),iA 11 (.call 170 [.t 10]),iA 7 (iM 11)] (.seq (iS [iA 8 (iN 0)] (.blk 0 (.loop (.seq (iS [iA 12 (iM 8),iA 13 (iF 7 5),iA 14 (iL 13),iA 15 (iG 14),iA 16 (iP .lss 3 12 15)] (iD 16 .skip (.exit 0))) (.seq (.blk 1 (.seq (iS [iA 19 (iF 7 5),iA 20 (iL 19),iA 21 (iM 8),iA 22 (iI 4 20 21),iA 23 (iF 0 22),iA 24 (iL 23),iA 25 (iQ .neq 3 24 2),iA 26 (iM 25),iB 27 26 false (iM 8),iB 28 26 false (iF 7 4),iB 29 26 false (iL 28),iB 30 26 false (iG 29),iB 31 26 false (iP .lss 3 27 30),iB 32 26 false (iM 31),iB 33 32 true (iF 7 4),iB 34 32 true (iL 33),iB 35 32 true (iM 8),iB 36 32 true (iI 4 34 35),iB 37 32 true (iF 0 36),iB 38 32 true (iL 37),iB 39 32 true (iQ .eql 3 38 2),iB 40 26 false (.pick (.t 32) (.t 39) (.c (.bool false))),iA 41 (.pick (.t 26) (.c (.bool true)) (.t 40))] (iD 41 (.exit 1) .skip)) (.seq (.dreg (T.pure 0 (iA 42 (iF 2 3)) (T.pure 1 (iA 43 (iL 42)) (T.pure 2 (iA 44 (iM 7)) (T.pure 3 (iA 45 (iF 2 3)) (T.pure 4 (iA 46 (iL 45)) (T.pure 5 (iA 47 (iM 7)) (T.pure 6 (iA 48 (iI 1 46 47)) (T.pure 7 (iA 49 (iL 48)) (T.pure 8 (iA 50 (iF 1 5)) (T.pure 9 (iA 51 (iF 0 50)) (T.pure 10 (iA 52 (iL 51)) (T.pure 11 (iA 53 (iF 1 3)) (T.pure 12 (iA 54 (iL 53)) (T.pure 13 (iA 55 (iF 0 5)) (T.pure 14 (iA 56 (iL 55)) (T.pure 15 (iA 57 (iM 8)) (T.pure 16 (iA 58 (.bld [.int .i64 0,.int .i64 0,.int .i64 0,.int .i64 0] [(0,1,.t 52),(1,1,.t 54),(2,1,.t 56),(3,1,.t 57)])) (T.alt (iA 59 (.call 135 [.t 49,.t 58])) [2,1,0] (T.pure 18 (iA 60 (iI 1 43 44)) (T.alt (iC (.st 1 [some (4,44)] (.t 60) (.t 59))) [] T.done T.stop)) T.stop))))))))))))))))))) (.reg [iA 61 (iF 1 3),iA 62 (iL 61),iA 63 (iQ .add 3 62 1),iA 64 (iF 1 3),iC (.st 1 [none] (.t 64) (.t 63))])))) (.reg [iA 17 (iM 8),iA 18 (iQ .add 3 17 1),iA 8 (iM 18)])))))) (iS [iA 65 (iT 4 3),iC (.st 4 [none,none,some (1,35),some (8,52)] (.t 6) (.t 65))] .ret)))
theorem jbQ:fnC Tryz.prog Tryz.f115=some (jbG,[.cell 6 true 4],66):=by kernel_rfl
theorem jlS (y:Yd) (id:Int) (p:Pl) (ht:jJ y≤2000000) (hp:p.edges.length≤4000000):kj Tryz.prog 45 [.agg (jb y),.c (.val (.int .i64 id)),.agg (ja p)] (.tup [(true,jb (jeu y id p)),(false,[.val (.int .i64 (jdG y id p))])]):=by
 refine zn [[1,1,1,1,0],[1,1,1,1,1,0],[1,1,1,1,1,1]] Tryz.func45 jh2 (by simp) ?_
 unfold jfY;simp only [C.ghs,C.ghAt,List.foldr];simp only [go_sem,jb,ja];intro b3 b5 b6;refine jc (kx y ht) (by simp only [go_sem,jb,ja]) fun ηc=>?_
 simp only [go_sem,jb,ja];intro b8;refine jc (qi y ht) (by simp only [go_sem,jb,ja]) fun η=>?_
 simp only [go_sem,jb,ja];cases hok:jD y
 ·have hc:jdG y id p=8:=by simp [jdG,hok]
  have hy:jeu y id p=y:=by simp [jeu,hc]
  simp only [go_sem,jb,ja,hok,hc,hy];refine qh _ _ _ _ _ ?_;simp only [go_sem,jb,ja]
 simp only [go_sem,jb,ja,hok];refine jc (jL id 1 9999) (by simp only [go_sem,jb,ja]) fun η=>?_
 simp only [go_sem,jb,ja];cases hid:decide (1≤id∧id≤9999)
 ·have hc:jdG y id p=5:=by simp [jdG,hok,of_decide_eq_false hid]
  have hy:jeu y id p=y:=by simp [jeu,hc]
  simp only [go_sem,jb,ja,hid,hc,hy];refine qh _ _ _ _ _ ?_;simp only [go_sem,jb,ja]
 have hid':=of_decide_eq_true hid;simp only [go_sem,jb,ja,hid];refine jc (qj y id) (by simp only [go_sem,jb,ja]) fun η=>?_
 simp only [go_sem,jb,ja];by_cases hge:runAt y id≥0
 ·have hc:jdG y id p=6:=by unfold jdG;rw [if_neg (by simp [hok]),if_neg (by omega),if_pos hge]
  have hy:jeu y id p=y:=by simp [jeu,hc]
  simp only [go_sem,jb,ja,hge,hc,hy];refine qh _ _ _ _ _ ?_;simp only [go_sem,jb,ja]
 simp only [go_sem,jb,ja,hge];refine jc (vD p) (by simp only [go_sem,jb,ja]) fun η=>?_
 simp only [go_sem,jb,ja];cases hpf:jw p !=0;rotate_left
 ·have hpf':jw p≠0:=by simpa using hpf
  have hc:jdG y id p=jw p:=by unfold jdG;rw [if_neg (by simp [hok]),if_neg (by omega),if_neg (by omega),if_pos hpf']
  have hy:jeu y id p=y:=by rw [jeu,if_neg (by rw [hc];exact hpf')]
  simp only [go_sem,jb,ja,hpf];refine jc (vD p) (by simp only [go_sem,jb,ja]) fun η=>?_
  simp only [go_sem,jb,ja];rw [hc,hy];refine qh _ _ _ _ _ ?_;simp only [go_sem,jb,ja]
 have hpf':jw p=0:=by simpa using hpf
 simp only [go_sem,jb,ja,hpf];refine jc (jkh y p ht) (by simp only [go_sem,jb,ja]) fun η=>?_
 simp only [go_sem,jb,ja];cases hrf:zm y p
 ·have hc:jdG y id p=7:=by unfold jdG;rw [if_neg (by simp [hok]),if_neg (by omega),if_neg (by omega),if_neg (by simp [hpf']),if_pos hrf]
  have hy:jeu y id p=y:=by simp [jeu,hc]
  simp only [go_sem,jb,ja,hrf,hc,hy];refine qh _ _ _ _ _ ?_;simp only [go_sem,jb,ja]
 have hc:jdG y id p=0:=by unfold jdG;rw [if_neg (by simp [hok]),if_neg (by omega),if_neg (by omega),if_neg (by simp [hpf']),if_neg (by simp [hrf])]
 rw [hc,jeu,if_pos hc];simp only [go_sem,jb,ja,hrf];refine jc (jlT id p hid' hpf') (by simp only [go_sem,jb,ja,jd]) fun ηr=>?_
 simp only [go_sem,jb,ja,jd];intro b9;refine kY ?_;obtain ⟨r,hr⟩:∃r,jY id p=r:=⟨_,rfl⟩;have hri:r.id=id:=by rw [←hr];rfl
 refine WkK.wk (s':=St.of [(6,Bx 600 b6),(8,Bx 800 b8),(9,Bx 900 b9)] [(600,ZYd b6 _),(800,kq b8 _ y.now y.seq y.shelf (ηc 2) y.runs (ηc 3)),(900,jaz b9 _ r (ηr 5) (ηr 7))]) (jg [some 600,some 800,some 900] (by simp only [go_sem,jb,ja,jd,hr]<;>and_intros<;>first|rfl|assumption|trivial)) ?_
 refine qG 900 5 901 (d:=jy r.plan.edges) (η:=ηr 5) (by simp only [go_sem]) (by simp only [go_sem]) (by decide) fun hx5=>?_
 refine qG 900 7 902 (d:=jB r.tasks) (η:=ηr 7) (by simp only [go_sem]) (by simp only [go_sem]) (by decide) fun hx7=>?_
 refine WkK.of ?_;generalize ηr 5=η5 at*;generalize ηr 7=η7 at*;simp only [go_sem,hx5,hx7];have m1:y.runs.length+1≤maxLen:=by unfold maxLen;have:=(yard_iff.1 hok).eight;omega
 have m2:(y.runs.length+1)*96≤140737488355328:=by have:=(yard_iff.1 hok).eight;omega
 intro η51;refine jpS (fun ηR=>St.of [(6,Bx 600 b6),(8,Bx 800 b8),(9,Bx 900 b9)] [(600,ZYd b6 tYd),(800,qZ b8 tYd y.now y.seq y.shelf (ηc 2) (.sl 8 tRn (y.runs.flatMap jd++rnH r (η5 []) (η7 []))) ηR),(900,joK b9 tRn r (η5 []) (η7 [])),(901,.loose (jy r.plan.edges) η5),(902,.loose (jB r.tasks) η7)]) m1 m2 ?_ (fun ηR=>jg [some 600,some 800,some 900,some 901,some 902] (by simp only [go_sem]<;>and_intros<;>first|rfl|assumption)) (fun ηR=>jg [some 600,some 800,some 900,some 901,some 902] (by simp only [go_sem]<;>and_intros<;>first|rfl|assumption)) ?_
 ·simp only [jjl _ hx5,jjl _ hx7,jjm];rfl
 intro ηR;rw [hr];generalize hdR:D.sl 8 tRn (y.runs.flatMap jd++rnH r (η5 []) (η7 []))=dR;refine qN 900 5 901 (d:=jy r.plan.edges) (η:=η5) rfl rfl rfl ?_;refine qN 900 7 902 (d:=jB r.tasks) (η:=η7) rfl rfl rfl ?_;refine WkK.wk (s':=St.of [(6,Bx 600 b6),(8,Bx 800 b8),(9,Bx 900 b9)] [(600,ZYd b6 _),(800,qZ b8 _ y.now y.seq y.shelf (ηc 2) dR ηR),(900,jaz b9 _ r η5 η7)]) (jg [some 600,some 800,some 900] (by simp only [go_sem,jb,ja,jd]<;>and_intros<;>first|rfl|assumption|trivial)) ?_
 refine WkK.of ?_;simp only [go_sem];refine kV (qn (β:=7000000) Tryz.func115 jbQ (by simp) ?_)
 unfold jbG;simp only [go_sem,jk,jo];intro b73 b74 b75 b76;refine jc (jdK r.id) (by simp only [go_sem]) fun η=>?_
 simp only [go_sem];obtain ⟨hsn,hs4⟩:=jym r.id;rw [hsn];have hLY:jsg ⟨y.now,y.seq,y.shelf,y.runs++[r]⟩ r (qM 2 r.tasks)=⟨y.now,(vQ r.plan.prio r.id (qM 2 r.tasks) ((y.shelf[shN r.id]?).getD default,y.seq)).2,y.shelf.set (shN r.id) (vQ r.plan.prio r.id (qM 2 r.tasks) ((y.shelf[shN r.id]?).getD default,y.seq)).1,y.runs++[r]⟩:=rfl;rw [hLY];generalize shN r.id=n at*;have h4:=(yard_iff.1 hok).four;have hq:=(yard_iff.1 hok).seq;have hn:n<y.shelf.length:=by omega
 have h0n:(n:Int)≥0:=by omega
 obtain ⟨l,hl⟩:=je hn;have hll:=vU ht (List.mem_of_getElem? hl);rw [hl,Option.getD_some];obtain ⟨t0,ht0,-,h12,-⟩:=jcb hpf';have hrt:r.tasks.length≤12:=by rw [←hr,jY,jcw];omega
 have htin:vP [] r.tasks r.tasks.length=qM 2 r.tasks:=jwo _ _;refine jn (fun i:Nat×js=>St.of [(3,Bx 3 b73),(4,Bx 4 b74),(5,Bx 5 b75),(6,Bx 66 b76),(7,Ni n),(8,Ni i.1)] [(600,ZYd b6 _),(3,qZ b73 _ y.now (vQ r.plan.prio r.id (vP [] r.tasks i.1) (l,y.seq)).2 (y.shelf.set n (vQ r.plan.prio r.id (vP [] r.tasks i.1) (l,y.seq)).1) i.2 dR ηR),(4,ZRn b74 _),(5,jaz b75 _ r η5 η7),(66,ZYd b76 _)]) (fun i=>i.1≤r.tasks.length) (fun i=>r.tasks.length-i.1) (0,ηc 2) (by (try dsimp only);first|omega|(simp;done)|(and_intros<;>first|omega|simp)) (jg [some 600,some 700000300,some 700000400,some 700000500,some 700000600] (by simp only [go_sem,jb,ja,jd,jxF,jfj,jad hl]<;>and_intros<;>first|rfl|assumption|trivial)) ?_
 rintro ⟨k,η⟩ hk;dsimp only at hk;have hsq:=zB r.plan.prio r.id (vP [] r.tasks k) (l,y.seq);have hle:=jdl r.plan.prio r.id (vP [] r.tasks k) (l,y.seq);have hnl:=jdg [] r.tasks k;have hsnoc:=jfi r.plan.prio r.id (vP [] r.tasks k) k (l,y.seq);have hnx:=jxE [] r.tasks k;dsimp only at hsq hle;by_cases hlt:k<r.tasks.length
 ·have hlt':(k:Int)<r.tasks.length:=by omega
  have h0k:(k:Int)≥0:=by omega
  have hk0:¬(k:Int)<0:=by omega
  obtain ⟨x,hx⟩:=je hlt;have hw:IntKind.i64.wrap ((k:Int)+1)=((k+1:Nat):Int):=jf (by omega) (by omega)
  rw [jwp hx] at hnx;have hw2:IntKind.i64.wrap ((vQ r.plan.prio r.id (vP [] r.tasks k) (l,y.seq)).2+1)=(vQ r.plan.prio r.id (vP [] r.tasks k) (l,y.seq)).2+1:=jf (by omega) (by omega)
  generalize hPe:vQ r.plan.prio r.id (vP [] r.tasks k) (l,y.seq)=P at*;obtain ⟨sh,hsh⟩:∃s,y.shelf.set n P.1=s:=⟨_,rfl⟩;have hSl:sh[n]?=some P.1:=by rw [←hsh];exact List.getElem?_set_self hn
  have hns:n<sh.length:=by rw [←hsh,List.length_set];exact hn
  have hss:∀L,sh.set n L=y.shelf.set n L:=fun L=>by rw [←hsh,List.set_set]
  have hi1:n+1≤(sh.flatMap fun es=>[jm es]).length:=by have:=jaM hns;rwa [Nat.mul_one] at this
  have ha1:((sh.flatMap fun es=>[jm es]).drop n).take 1=[jm P.1]:=by have:=jbJ hSl;rwa [Nat.mul_one] at this
  rw [hsh];cases h2:x.state !=2
  ·have h2':(x.state==2)=true:=by have:x.state=2:=by simpa using h2
                                  simp [this]
   rw [h2',if_pos rfl] at hnx;rw [←hnx] at hsnoc;simp only [go_sem,ja,jd,jo,hlt',h0k,hk0,hlt,jaa hx,vl hx,zb hx,qz hx,h2];simp only [go_sem,hns,Nat.mul_one,ha1,hi1,h0n];refine jc (jaq P.1 ⟨r.plan.prio,P.2,r.id,k⟩ (by omega)) (by simp only [go_sem,jk,ko hSl]) fun ηp=>?_
   simp only [go_sem,jk,ko hSl];simp only [go_sem,hns,Nat.mul_one,hi1,ha1,h0n,jao,hw2,hw,hss];refine fun η' hη'=>?_
   exact ⟨(k+1,η'),by (try dsimp only);first|omega|assumption|(and_intros<;>first|omega|assumption),(jg [some 600,some 3,some 4,some 5,some 66] (by simp only [go_sem,jb,ja,jd,hsnoc]<;>and_intros<;>first|rfl|assumption|trivial)),by (try dsimp only);omega⟩
  ·have h2':(x.state==2)=false:=by simpa using h2
   rw [h2'] at hnx;simp only [Bool.false_eq_true,if_false,List.append_nil] at hnx;simp only [go_sem,ja,jd,jo,hlt',h0k,hk0,hlt,jaa hx,vl hx,zb hx,qz hx,h2,hw];exact ⟨(k+1,η),by (try dsimp only);first|omega|assumption|(and_intros<;>first|omega|assumption),(jg [some 600,some 3,some 4,some 5,some 66] (by simp only [go_sem,jb,ja,jd,hnx,hPe,hsh]<;>and_intros<;>first|rfl|assumption|trivial)),by (try dsimp only);omega⟩
 obtain rfl:k=r.tasks.length:=by omega
 have hlt':¬((r.tasks.length:Nat):Int)<r.tasks.length:=by omega
 rw [htin];generalize vQ r.plan.prio r.id (qM 2 r.tasks) (l,y.seq)=P at*;simp only [go_sem,hlt',ja,jd];refine kY ?_;subst hdR;refine WkK.wk (s':=St.of [(6,Bx 600 b6),(7,Ni 0)] [(600,qZ b6 _ y.now P.2 (y.shelf.set n P.1) η (.sl 8 tRn (y.runs.flatMap jd++rnH r (η5 []) (η7 []))) ηR),(5,jaz b75 _ r η5 η7)]) (jg [some 600,some 5] (by simp only [go_sem,ja,jd]<;>and_intros<;>first|rfl|assumption|trivial)) ?_
 refine qG 5 5 901 (d:=jy r.plan.edges) (η:=η5) rfl rfl (by decide) fun _=>?_
 refine qG 5 7 902 (d:=jB r.tasks) (η:=η7) rfl rfl (by decide) fun _=>?_
 refine qx 600 3 (y.runs.length*8+5) 901 (η:=ηR) (η2:=η5) (cs:=r.plan.edges.flatMap jO) rfl (jqi _ _ 5) (.inr rfl) rfl (by decide) fun ηA _=>?_
 rw [jlN];refine qx 600 3 (y.runs.length*8+7) 902 (η:=ηA) (η2:=η7) (cs:=r.tasks.flatMap jo) rfl (jqi _ _ 7) (.inr rfl) rfl (by decide) fun ηB _=>?_
 rw [jlN];refine WkK.of ?_;have hrow:(List.set (List.set (rnH r (η5 []) (η7 [])) 5 (.sl 2 tEd (r.plan.edges.flatMap jO))) 7 (.sl 4 tTk (r.tasks.flatMap jo)))=jd r:=rfl;rw [hrow,jng];refine qh _ _ _ _ _ ?_;simp only [go_sem,jb]
def jgd:C:=iS [iA 3 (.box 27 4 (.t 0)),iA 5 (.box 49 5 (.t 2)),iA 6 (.alloc 27 [.int .i64 0,.int .i64 0,.slice none 0 0,.slice none 0 0]),iA 7 (iN 0)] (iS [iA 11 (iT 4 3),iA 12 (.call 61 [.t 11]),iA 8 (.alloc 27 [.int .i64 0,.int .i64 0,.slice none 0 0,.slice none 0 0]),iC (.st 4 [none,none,some (1,35),some (8,52)] (.t 8) (.t 12))] (.seq (.blk 0 (iS [iA 14 (iT 4 3),iA 15 (.call 18 [.t 14]),iA 16 (iU 15),iA 13 (iM 16)] (iD 13 (iS [iA 17 (iT 4 8),iC (.st 4 [none,none,some (1,35),some (8,52)] (.t 6) (.t 17)),iA 7 (iN 8)] .ret) (iS [iA 19 (iM 1),iA 20 (.call 62 [.t 19,.c (.int .i64 1),.c (.int .i64 9999)]),iA 21 (iU 20),iA 18 (iM 21)] (iD 18 (iS [iA 22 (iT 4 8),iC (.st 4 [none,none,some (1,35),some (8,52)] (.t 6) (.t 22)),iA 7 (iN 5)] .ret) (iS [iA 24 (iT 4 3),iA 25 (iM 1),iA 26 (.call 25 [.t 24,.t 25]),iA 27 (iQ .geq 3 26 0),iA 23 (iM 27)] (iD 23 (iS [iA 28 (iT 4 8),iC (.st 4 [none,none,some (1,35),some (8,52)] (.t 6) (.t 28)),iA 7 (iN 6)] .ret) (iS [iA 30 (iT 5 5),iA 31 (.call 109 [.t 30]),iA 32 (iQ .neq 3 31 0),iA 29 (iM 32)] (iD 29 (.seq (.dreg (T.pure 0 (iA 33 (iT 4 8)) (T.pure 1 (iA 34 (iT 5 5)) (T.alt (iA 35 (.call 109 [.t 34])) [0] (T.alt (iC (.st 4 [none,none,some (1,35),some (8,52)] (.t 6) (.t 33))) [] (T.pure 4 (iA 7 (iM 35)) T.done) T.stop) T.stop)))) .ret) (iS [iA 37 (iT 4 3),iA 38 (iT 5 5),iA 39 (.call 46 [.t 37,.t 38]),iA 40 (iU 39),iA 36 (iM 40)] (iD 36 (iS [iA 41 (iT 4 8),iC (.st 4 [none,none,some (1,35),some (8,52)] (.t 6) (.t 41)),iA 7 (iN 7)] .ret) .skip))))))))))) (iS [iA 43 (iM 1),iA 44 (iT 5 5),iA 45 (.call 110 [.t 43,.t 44]),iA 42 (iM 45),iA 46 (iE 42 0),iA 47 (iE 42 1),iA 9 (.alloc 52 [.int .i64 0,.int .i64 0,.int .i64 0,.int .i64 0,.int .i64 0,.slice none 0 0,.int .i64 0,.slice none 0 0]),iC (.st 8 [none,none,none,none,none,some (2,161),none,some (4,46)] (.t 9) (.t 46)),iA 10 (iM 47)] (iS [iA 48 (iF 3 8),iA 49 (iL 48),iA 50 (iT 8 9),iA 51 (.bsl 52 8 1 [none,none,none,none,none,some (2,161),none,some (4,46)] [(0,8,.t 50)]),iA 52 (.app 52 8 96 (.t 49) (.t 51)),iA 53 (iF 3 8),iC (.st 1 [some (8,52)] (.t 53) (.t 52))] (.seq (.dreg (T.pure 0 (iA 54 (iT 8 9)) (T.pure 1 (iA 55 (iT 8 9)) (T.alt (iA 56 (.call 47 [.t 55,.c (.int .i64 2)])) [0] (T.alt (iA 57 (.call 111 [.t 8,.t 54,.t 56])) [] T.done T.stop) T.stop)))) (iS [iA 58 (iT 4 8),iC (.st 4 [none,none,some (1,35),some (8,52)] (.t 6) (.t 58)),iA 7 (iN 0)] .ret))))))
theorem jih:fnC Tryz.prog Tryz.f44=some (jgd,[.cell 6 true 4,.t 7],59):=by kernel_rfl
def jcY:C:=iS [iA 4 (.box 52 8 (.t 1))] (iS [iA 9 (iF 0 4),iA 10 (iL 9),iA 11 (.call 165 [.t 10]),iA 6 (iM 11)] (iS [iA 12 (iM 2),iA 13 (iG 12),iA 14 (iN 0)] (.blk 0 (.loop (iS [iA 15 (iP .lss 3 14 13)] (.seq (iD 15 .skip (.exit 0)) (.seq (.blk 1 (iS [iA 16 (iI 1 12 14),iA 17 (iL 16),iA 8 (iM 17)] (.seq (.dreg (T.pure 0 (iA 18 (iM 0)) (T.pure 1 (iA 19 (iF 0 18)) (T.pure 2 (iA 20 (iF 2 19)) (T.pure 3 (iA 21 (iL 20)) (T.pure 4 (iA 22 (iM 6)) (T.pure 5 (iA 23 (iM 0)) (T.pure 6 (iA 24 (iF 0 23)) (T.pure 7 (iA 25 (iF 2 24)) (T.pure 8 (iA 26 (iL 25)) (T.pure 9 (iA 27 (iM 6)) (T.pure 10 (iA 28 (iI 1 26 27)) (T.pure 11 (iA 29 (iL 28)) (T.pure 12 (iA 30 (iF 1 4)) (T.pure 13 (iA 31 (iF 0 30)) (T.pure 14 (iA 32 (iL 31)) (T.pure 15 (iA 33 (iM 0)) (T.pure 16 (iA 34 (iF 0 33)) (T.pure 17 (iA 35 (iF 1 34)) (T.pure 18 (iA 36 (iL 35)) (T.pure 19 (iA 37 (iF 0 4)) (T.pure 20 (iA 38 (iL 37)) (T.pure 21 (iA 39 (iM 8)) (T.pure 22 (iA 40 (.bld [.int .i64 0,.int .i64 0,.int .i64 0,.int .i64 0] [(0,1,.t 32),(1,1,.t 36),(2,1,.t 38),(3,1,.t 39)])) (T.alt (iA 41 (.call 128 [.t 29,.t 40])) [4,3,2,1,0] (T.pure 24 (iA 42 (iI 1 21 22)) (T.alt (iC (.st 1 [some (4,44)] (.t 42) (.t 41))) [] T.done T.stop)) T.stop))))))))))))))))))))))))) (.reg [iA 43 (iM 0),iA 44 (iF 0 43),iA 45 (iF 1 44),iA 46 (iL 45),iA 47 (iQ .add 3 46 1),iA 48 (iF 0 43),iA 49 (iF 1 48),iC (.st 1 [none] (.t 49) (.t 47))])))) (.reg [iA 50 (iQ .add 3 14 1),iA 14 (iM 50)]))))))))
theorem jcI:fnC Tryz.prog Tryz.f111=some (jcY,[],51):=by kernel_rfl
theorem jl3 (y:Yd) (id:Int) (p:Pl) (ht:jJ y≤2000000) (hp:p.edges.length≤4000000):kj Tryz.prog 44 [.agg (jb y),.c (.val (.int .i64 id)),.agg (ja p)] (.tup [(true,jb (jeu y id p)),(false,[.val (.int .i64 (jdG y id p))])]):=by
 refine zn [[1,1,1,1,0],[1,1,1,1,1,0],[1,1,1,1,1,1,1]] Tryz.func44 jih (by simp) ?_
 unfold jgd;simp only [C.ghs,C.ghAt,List.foldr];simp only [go_sem,jb,ja];intro b3 b5 b6;refine jc (kn y ht) (by simp only [go_sem,jb,ja]) fun ηc=>?_
 simp only [go_sem,jb,ja];intro b8;refine jc (kI y ht) (by simp only [go_sem,jb,ja]) fun η=>?_
 simp only [go_sem,jb,ja];cases hok:jD y
 ·have hc:jdG y id p=8:=by simp [jdG,hok]
  have hy:jeu y id p=y:=by simp [jeu,hc]
  simp only [go_sem,jb,ja,hok,hc,hy];refine qh _ _ _ _ _ ?_;simp only [go_sem,jb,ja]
 simp only [go_sem,jb,ja,hok];refine jc (jE id 1 9999) (by simp only [go_sem,jb,ja]) fun η=>?_
 simp only [go_sem,jb,ja];cases hid:decide (1≤id∧id≤9999)
 ·have hc:jdG y id p=5:=by simp [jdG,hok,of_decide_eq_false hid]
  have hy:jeu y id p=y:=by simp [jeu,hc]
  simp only [go_sem,jb,ja,hid,hc,hy];refine qh _ _ _ _ _ ?_;simp only [go_sem,jb,ja]
 have hid':=of_decide_eq_true hid;simp only [go_sem,jb,ja,hid];refine jc (ql y id) (by simp only [go_sem,jb,ja]) fun η=>?_
 simp only [go_sem,jb,ja];by_cases hge:runAt y id≥0
 ·have hc:jdG y id p=6:=by unfold jdG;rw [if_neg (by simp [hok]),if_neg (by omega),if_pos hge]
  have hy:jeu y id p=y:=by simp [jeu,hc]
  simp only [go_sem,jb,ja,hge,hc,hy];refine qh _ _ _ _ _ ?_;simp only [go_sem,jb,ja]
 simp only [go_sem,jb,ja,hge];refine jc (qg p hp) (by simp only [go_sem,jb,ja]) fun η=>?_
 simp only [go_sem,jb,ja];cases hpf:jw p !=0;rotate_left
 ·have hpf':jw p≠0:=by simpa using hpf
  have hc:jdG y id p=jw p:=by unfold jdG;rw [if_neg (by simp [hok]),if_neg (by omega),if_neg (by omega),if_pos hpf']
  have hy:jeu y id p=y:=by rw [jeu,if_neg (by rw [hc];exact hpf')]
  simp only [go_sem,jb,ja,hpf];refine jc (qg p hp) (by simp only [go_sem,jb,ja]) fun η=>?_
  simp only [go_sem,jb,ja];rw [hc,hy];refine qh _ _ _ _ _ ?_;simp only [go_sem,jb,ja]
 have hpf':jw p=0:=by simpa using hpf
 simp only [go_sem,jb,ja,hpf];refine jc (jkm y p ht) (by simp only [go_sem,jb,ja]) fun η=>?_
 simp only [go_sem,jb,ja];cases hrf:zm y p
 ·have hc:jdG y id p=7:=by unfold jdG;rw [if_neg (by simp [hok]),if_neg (by omega),if_neg (by omega),if_neg (by simp [hpf']),if_pos hrf]
  have hy:jeu y id p=y:=by simp [jeu,hc]
  simp only [go_sem,jb,ja,hrf,hc,hy];refine qh _ _ _ _ _ ?_;simp only [go_sem,jb,ja]
 have hc:jdG y id p=0:=by unfold jdG;rw [if_neg (by simp [hok]),if_neg (by omega),if_neg (by omega),if_neg (by simp [hpf']),if_neg (by simp [hrf])]
 rw [hc,jeu,if_pos hc];simp only [go_sem,jb,ja,hrf];refine jc (jl4 id p hid' hpf') (by simp only [go_sem,jb,ja,jd]) fun ηr=>?_
 simp only [go_sem,jb,ja,jd];intro b9;refine kY ?_;obtain ⟨r,hr⟩:∃r,jY id p=r:=⟨_,rfl⟩;have hri:r.id=id:=by rw [←hr];rfl
 refine WkK.wk (s':=St.of [(6,Bx 600 b6),(8,Bx 800 b8),(9,Bx 900 b9)] [(600,ZYd b6 _),(800,kq b8 _ y.now y.seq y.shelf (ηc 2) y.runs (ηc 3)),(900,jaz b9 _ r (ηr 5) (ηr 7))]) (jg [some 600,some 800,some 900] (by simp only [go_sem,jb,ja,jd,hr]<;>and_intros<;>first|rfl|assumption|trivial)) ?_
 refine qG 900 5 901 (d:=jy r.plan.edges) (η:=ηr 5) (by simp only [go_sem]) (by simp only [go_sem]) (by decide) fun hx5=>?_
 refine qG 900 7 902 (d:=jB r.tasks) (η:=ηr 7) (by simp only [go_sem]) (by simp only [go_sem]) (by decide) fun hx7=>?_
 refine WkK.of ?_;generalize ηr 5=η5 at*;generalize ηr 7=η7 at*;simp only [go_sem,hx5,hx7];have m1:y.runs.length+1≤maxLen:=by unfold maxLen;have:=(yard_iff.1 hok).eight;omega
 have m2:(y.runs.length+1)*96≤140737488355328:=by have:=(yard_iff.1 hok).eight;omega
 intro η51;refine jpS (fun ηR=>St.of [(6,Bx 600 b6),(8,Bx 800 b8),(9,Bx 900 b9)] [(600,ZYd b6 tYd),(800,qZ b8 tYd y.now y.seq y.shelf (ηc 2) (.sl 8 tRn (y.runs.flatMap jd++rnH r (η5 []) (η7 []))) ηR),(900,joK b9 tRn r (η5 []) (η7 [])),(901,.loose (jy r.plan.edges) η5),(902,.loose (jB r.tasks) η7)]) m1 m2 ?_ (fun ηR=>jg [some 600,some 800,some 900,some 901,some 902] (by simp only [go_sem]<;>and_intros<;>first|rfl|assumption)) (fun ηR=>jg [some 600,some 800,some 900,some 901,some 902] (by simp only [go_sem]<;>and_intros<;>first|rfl|assumption)) ?_
 ·simp only [jjl _ hx5,jjl _ hx7,jjm];rfl
 intro ηR;rw [hr];generalize hdR:D.sl 8 tRn (y.runs.flatMap jd++rnH r (η5 []) (η7 []))=dR;refine qN 900 5 901 (d:=jy r.plan.edges) (η:=η5) rfl rfl rfl ?_;refine qN 900 7 902 (d:=jB r.tasks) (η:=η7) rfl rfl rfl ?_;refine WkK.wk (s':=St.of [(6,Bx 600 b6),(8,Bx 800 b8),(9,Bx 900 b9)] [(600,ZYd b6 _),(800,qZ b8 _ y.now y.seq y.shelf (ηc 2) dR ηR),(900,jaz b9 _ r η5 η7)]) (jg [some 600,some 800,some 900] (by simp only [go_sem,jb,ja,jd]<;>and_intros<;>first|rfl|assumption|trivial)) ?_
 refine WkK.of ?_;obtain ⟨t0,ht0,-,h12,-⟩:=jcb hpf';have hrt:r.tasks.length≤12:=by rw [←hr,jY,jcw];omega
 simp only [go_sem,jb,ja,jd];refine jc (kJ r 2 (by omega)) (by simp only [go_sem,ja,jd]) fun ηi=>?_
 simp only [go_sem,ja,jd];refine kV (qn (β:=7000000) Tryz.func111 jcI (by simp) ?_)
 unfold jcY;simp only [go_sem,ja,jd];intro b74;refine jc (jdN r.id) (by simp only [go_sem]) fun η=>?_
 simp only [go_sem];obtain ⟨hsn,hs4⟩:=jym r.id;rw [hsn];have hLY:jsg ⟨y.now,y.seq,y.shelf,y.runs++[r]⟩ r (qM 2 r.tasks)=⟨y.now,(vQ r.plan.prio r.id (qM 2 r.tasks) ((y.shelf[shN r.id]?).getD default,y.seq)).2,y.shelf.set (shN r.id) (vQ r.plan.prio r.id (qM 2 r.tasks) ((y.shelf[shN r.id]?).getD default,y.seq)).1,y.runs++[r]⟩:=rfl;rw [hLY];generalize shN r.id=n at*;have h4:=(yard_iff.1 hok).four;have hq:=(yard_iff.1 hok).seq;have hn:n<y.shelf.length:=by omega
 have h0n:(n:Int)≥0:=by omega
 obtain ⟨l,hl⟩:=je hn;have hll:=vU ht (List.mem_of_getElem? hl);rw [hl,Option.getD_some];have hil:(qM 2 r.tasks).length≤12:=Nat.le_trans (vC _ _ _) hrt;generalize qM 2 r.tasks=ids at*;refine jn (fun i:Nat×js=>St.of [(0,Bx 800 b8),(4,Bx 4 b74),(6,Ni n),(12,Hd 56 (ηi 0)),(13,Ni ids.length),(14,Ni i.1)] [(600,ZYd b6 _),(800,qZ b8 _ y.now (vQ r.plan.prio r.id (ids.take i.1) (l,y.seq)).2 (y.shelf.set n (vQ r.plan.prio r.id (ids.take i.1) (l,y.seq)).1) i.2 dR ηR),(4,jaz b74 _ r η5 η7),(56,.loose (jh ids) (ηi 0))]) (fun i=>i.1≤ids.length) (fun i=>ids.length-i.1) (0,ηc 2) (by (try dsimp only);first|omega|(simp;done)|(and_intros<;>first|omega|simp)) (jg [some 600,some 800,some 700000400,some 5600] (by simp only [go_sem,jb,ja,jd,List.take_zero,jfj,jad hl]<;>and_intros<;>first|rfl|assumption|trivial)) ?_
 rintro ⟨k,η⟩ hk;dsimp only at hk;have hsq:=zB r.plan.prio r.id (ids.take k) (l,y.seq);have hle:=jdl r.plan.prio r.id (ids.take k) (l,y.seq);have hnl:(ids.take k).length=k:=by rw [List.length_take];omega
 dsimp only at hsq hle;by_cases hlt:k<ids.length
 ·have hlt':(k:Int)<ids.length:=by omega
  have h0k:(k:Int)≥0:=by omega
  obtain ⟨x,hx⟩:=je hlt;have hsnoc:=jfi r.plan.prio r.id (ids.take k) x (l,y.seq);have hnx:ids.take (k+1)=ids.take k++[x]:=by rw [List.take_add_one,hx];rfl
  rw [←hnx] at hsnoc;have hw:IntKind.i64.wrap ((k:Int)+1)=((k+1:Nat):Int):=jf (by omega) (by omega)
  have hw2:IntKind.i64.wrap ((vQ r.plan.prio r.id (ids.take k) (l,y.seq)).2+1)=(vQ r.plan.prio r.id (ids.take k) (l,y.seq)).2+1:=jf (by omega) (by omega)
  generalize hPe:vQ r.plan.prio r.id (ids.take k) (l,y.seq)=P at*;obtain ⟨sh,hsh⟩:∃s,y.shelf.set n P.1=s:=⟨_,rfl⟩;have hSl:sh[n]?=some P.1:=by rw [←hsh];exact List.getElem?_set_self hn
  have hns:n<sh.length:=by rw [←hsh,List.length_set];exact hn
  have hss:∀L,sh.set n L=y.shelf.set n L:=fun L=>by rw [←hsh,List.set_set]
  have hi1:n+1≤(sh.flatMap fun es=>[jm es]).length:=by have:=jaM hns;rwa [Nat.mul_one] at this
  have ha1:((sh.flatMap fun es=>[jm es]).drop n).take 1=[jm P.1]:=by have:=jbJ hSl;rwa [Nat.mul_one] at this
  have hxi:k+1≤(ids.flatMap fun n=>[iv n]).length:=by have:=ji hlt;rwa [Nat.mul_one] at this
  have hxa:((ids.flatMap fun n=>[iv n]).drop k).take 1=[iv x]:=by have:=jj hx;rwa [Nat.mul_one] at this
  rw [hsh];simp only [go_sem,ja,jd,hlt',h0k,hlt,hxa,hxi,Nat.add_zero,hns,Nat.mul_one,ha1,hi1,h0n];refine jc (jar P.1 ⟨r.plan.prio,P.2,r.id,x⟩ (by omega)) (by simp only [go_sem,jk,ko hSl]) fun ηp=>?_
  simp only [go_sem,jk,ko hSl];simp only [go_sem,hns,Nat.mul_one,hi1,ha1,h0n,jao,hw2,hw,hss,Nat.add_zero];refine fun η' hη'=>?_
  exact ⟨(k+1,η'),by (try dsimp only);first|omega|assumption|(and_intros<;>first|omega|assumption),(jg [some 600,some 800,some 4,some 56] (by simp only [go_sem,jb,ja,jd,hsnoc]<;>and_intros<;>first|rfl|assumption|trivial)),by (try dsimp only);omega⟩
 obtain rfl:k=ids.length:=by omega
 have hlt':¬((ids.length:Nat):Int)<ids.length:=by omega
 rw [List.take_length];generalize vQ r.plan.prio r.id ids (l,y.seq)=P at*;simp only [go_sem,hlt',ja,jd];refine kY ?_;subst hdR;refine WkK.wk (s':=St.of [(6,Bx 600 b6),(7,Ni 0)] [(600,qZ b6 _ y.now P.2 (y.shelf.set n P.1) η (.sl 8 tRn (y.runs.flatMap jd++rnH r (η5 []) (η7 []))) ηR),(5,jaz b74 _ r η5 η7)]) (jg [some 600,some 4] (by simp only [go_sem,ja,jd]<;>and_intros<;>first|rfl|assumption|trivial)) ?_
 refine qG 5 5 901 (d:=jy r.plan.edges) (η:=η5) rfl rfl (by decide) fun _=>?_
 refine qG 5 7 902 (d:=jB r.tasks) (η:=η7) rfl rfl (by decide) fun _=>?_
 refine qx 600 3 (y.runs.length*8+5) 901 (η:=ηR) (η2:=η5) (cs:=r.plan.edges.flatMap jO) rfl (jqi _ _ 5) (.inr rfl) rfl (by decide) fun ηA _=>?_
 rw [jlN];refine qx 600 3 (y.runs.length*8+7) 902 (η:=ηA) (η2:=η7) (cs:=r.tasks.flatMap jo) rfl (jqi _ _ 7) (.inr rfl) rfl (by decide) fun ηB _=>?_
 rw [jlN];refine WkK.of ?_;have hrow:(List.set (List.set (rnH r (η5 []) (η7 [])) 5 (.sl 2 tEd (r.plan.edges.flatMap jO))) 7 (.sl 4 tTk (r.tasks.flatMap jo)))=jd r:=rfl;rw [hrow,jng];refine qh _ _ _ _ _ ?_;simp only [go_sem,jb]
theorem qV {α:Type} {f:α→Nat} (v:α):∀{l:List α} {k:Nat} {x:α},l[k]?=some x→vT f (l.set k v)+f x=vT f l+f v
 |[],_,_,h=>by simp at h
 |y::l,0,x,h=>by
  simp at h;subst h;simp only [vT,List.set_cons_zero,List.map_cons,List.sum_cons];omega
 |y::l,k+1,x,h=>by
  have:=qV (f:=f) v (l:=l) (k:=k) (by simpa using h)
  simp only [vT,List.set_cons_succ,List.map_cons,List.sum_cons] at this⊢;omega
theorem jyb {y:Yd} {r:Rn} {ids:List Int}:jJ (jsg y r ids)≤jJ y+ids.length:=by
 have h4:∀l:List En,zW l=l.length:=fun _=>rfl
 cases h:y.shelf[shN r.id]? with
 |none=>
  have:y.shelf.set (shN r.id) (vQ r.plan.prio r.id ids ((y.shelf[shN r.id]?).getD default,y.seq)).1=y.shelf:=List.set_eq_of_length_le (List.getElem?_eq_none_iff.1 h);simp only [jJ,jbv,jsg,this];omega
 |some l=>
  have h1:=jdl r.plan.prio r.id ids ((y.shelf[shN r.id]?).getD default,y.seq);have h2:=qV (f:=zW) (vQ r.plan.prio r.id ids ((y.shelf[shN r.id]?).getD default,y.seq)).1 h;simp only [jJ,jbv,jsg,List.length_set] at*;rw [h4,h4] at h2;rw [h,Option.getD_some] at*;omega
def C.sub:List Nat→C→C
 |[],c=>c
 |0::p,.seq a _=>a.sub p
 |_::p,.seq _ b=>b.sub p
 |0::p,.cond _ a _=>a.sub p
 |_::p,.cond _ _ b=>b.sub p
 |_::p,.blk _ a=>a.sub p
 |_::p,.loop a=>a.sub p
 |_,c=>c
section
variable {s:St}
def resT (s:St) (rs:List R) (K:List (Bool×List A0)→Prop):AV→Prop
 |.agg l=>jhN s rs fun ps=>K ((true,l)::ps)
 |.c a=>jhN s rs fun ps=>K ((false,[a])::ps)
 |_=>False
def resC (s:St) (agg:Bool) (size:Nat) (rs:List R) (K:List (Bool×List A0)→Prop):AV→Prop
 |.c (.bp g c b)=>ldB (s.o g) g c b size fun l=>(agg=true∨l.length=1)∧jhN s rs fun ps=>K ((agg,l)::ps)
 |_=>False
theorem ve (rs:List R) (rt:RT):jxi rs rt s=jhN s rs fun ps=>jay rt ps∧qA s (ps.flatMap (·.2)) fun cs _=>IsD cs rt.flat:=rfl
theorem jW (K:List (Bool×List A0)→Prop):jhN s [] K=K []:=rfl
theorem jkV (n:Nat) (rs:List R) (K:List (Bool×List A0)→Prop):jhN s (.t n::rs) K=resT s rs K (s.t n):=by
 simp only [jhN,resT];split<;>simp_all
theorem jkU (rs:List R) (K:List (Bool×List A0)→Prop) (a:A0):resT s rs K (.c a)=jhN s rs fun ps=>K ((false,[a])::ps):=rfl
theorem jC (agg:Bool) (size:Nat) (rs:List R) (K:List (Bool×List A0)→Prop) (g c b:Nat):resC s agg size rs K (.c (.bp g c b))=ldB (s.o g) g c b size fun l=>(agg=true∨l.length=1)∧jhN s rs fun ps=>K ((agg,l)::ps):=rfl
theorem jt (n:Nat) (agg:Bool) (size:Nat) (rs:List R) (K:List (Bool×List A0)→Prop) (h:resC s agg size rs K (s.t n)):jhN s (.cell n agg size::rs) K:=by
 unfold resC at h;split at h
 ·rename_i g c b he
  simp only [ldB] at h;split at h
  ·rename_i b' ty cs ho
   obtain ⟨e1,e2,e3,e4⟩:=h;subst e1;simp only [jhN,he];exact ⟨_,⟨ty,cs,ho,e2,rfl⟩,e3,e4⟩
  ·exact h.elim
 ·exact h.elim
theorem jN (l:List (Bool×List D)) (ps:List (Bool×List A0)):jay (.tup l) ps=(ps.length≠1∧ps.map (fun p=>(p.1,p.2.length))=l.map (fun p=>(p.1,p.2.length))):=rfl
end
def vh (l:List En):List En:=l.take ((l.length+1)/2)
def jaF (l:List En):List En:=l.drop ((l.length+1)/2)
def jf2:C:=iS [iA 2 (.mov (.c (.slice none 0 0))),iA 3 (.mov (.c (.slice none 0 0)))] (iS [iA 5 (iM 0),iA 6 (iG 5),iA 7 (iQ .add 3 6 1),iA 8 (iQ .quo 3 7 2),iA 4 (iM 8)] (.seq (.dreg (T.pure 1 (iA 10 (iM 0)) (T.pure 2 (iA 11 (iM 4)) (T.pure 3 (iA 12 (.sl 4 (.t 10) none (some (.t 11)))) (T.pure 6 (iA 15 (iM 0)) (T.pure 7 (iA 16 (iM 4)) (T.pure 8 (iA 17 (.sl 4 (.t 15) (some (.t 16)) none)) (T.alt (iA 9 (.bsl 44 4 0 [] [])) [8,7,6,3,2,1] (T.alt (iA 13 (.app 44 4 32 (.t 9) (.t 12))) [8,7,6] (T.alt (iA 14 (.bsl 44 4 0 [] [])) [8,7,6,3,2,1] (T.alt (iA 18 (.app 44 4 32 (.t 14) (.t 17))) [] (T.pure 10 (iA 2 (iM 13)) (T.pure 11 (iA 3 (iM 18)) T.done)) T.stop) T.stop) (T.alt (iA 14 (.bsl 44 4 0 [] [])) [8,7,6,3,2,1] (T.alt (iA 13 (.app 44 4 32 (.t 9) (.t 12))) [8,7,6] (T.alt (iA 18 (.app 44 4 32 (.t 14) (.t 17))) [] (T.pure 10 (iA 2 (iM 13)) (T.pure 11 (iA 3 (iM 18)) T.done)) T.stop) T.stop) T.stop)) (T.alt (iA 14 (.bsl 44 4 0 [] [])) [8,7,6,3,2,1] (T.alt (iA 9 (.bsl 44 4 0 [] [])) [8,7,6,3,2,1] (T.alt (iA 13 (.app 44 4 32 (.t 9) (.t 12))) [8,7,6] (T.alt (iA 18 (.app 44 4 32 (.t 14) (.t 17))) [] (T.pure 10 (iA 2 (iM 13)) (T.pure 11 (iA 3 (iM 18)) T.done)) T.stop) T.stop) T.stop) T.stop))))))))) .ret))
theorem jh6:fnC Tryz.prog Tryz.f70=some (jf2,[.t 2,.t 3],19):=by kernel_rfl
def jgh:C:=iS [iA 2 (.mov (.c (.slice none 0 0))),iA 3 (.mov (.c (.slice none 0 0)))] (iS [iA 5 (iM 0),iA 6 (iG 5),iA 7 (iQ .add 3 6 1),iA 8 (iQ .quo 3 7 2),iA 4 (iM 8)] (.seq (.dreg (T.pure 0 (iA 9 (iM 0)) (T.pure 1 (iA 10 (iM 4)) (T.pure 2 (iA 11 (.sl 4 (.t 9) none (some (.t 10)))) (T.pure 4 (iA 13 (iM 0)) (T.pure 5 (iA 14 (iM 4)) (T.pure 6 (iA 15 (.sl 4 (.t 13) (some (.t 14)) none)) (T.alt (iA 12 (.call 126 [.t 11])) [6,5,4] (T.alt (iA 16 (.call 126 [.t 15])) [] (T.pure 8 (iA 2 (iM 12)) (T.pure 9 (iA 3 (iM 16)) T.done)) T.stop) T.stop)))))))) .ret))
theorem jil:fnC Tryz.prog Tryz.f63=some (jgh,[.t 2,.t 3],17):=by kernel_rfl
theorem jlV (l:List En) (hl:l.length≤4000000):kj Tryz.prog 70 [.c (jm l)] (.tup [(false,[jm (vh l)]),(false,[jm (jaF l)])]):=by
 refine jq Tryz.func70 jh6 (by simp) ?_
 unfold jf2;have hw:IntKind.i64.wrap ((l.length:Int)+1)=(l.length:Int)+1:=jf (by omega) (by omega)
 have hq:IntKind.i64.wrap (((l.length:Int)+1).tdiv 2)=(((l.length+1)/2:Nat):Int):=by
  rw [Int.tdiv_eq_ediv_of_nonneg (by omega)];exact jf (by omega) (by omega)|>.trans (by omega)
 have hn:(l.length+1)/2≤l.length∨l.length=0:=by omega
 have hn2:(l.length+1)/2≤l.length:=by omega
 unfold vh jaF;generalize (l.length+1)/2=n at*;have h0n:(n:Int)≥0:=by omega
 have m1:(l.take n).length≤maxLen:=by unfold maxLen;rw [List.length_take];omega
 have m2:(l.take n).length*32≤140737488355328:=by rw [List.length_take];omega
 have m3:(l.drop n).length≤maxLen:=by unfold maxLen;rw [List.length_drop];omega
 have m4:(l.drop n).length*32≤140737488355328:=by rw [List.length_drop];omega
 have htd:(l.drop n).take (l.length-n)=l.drop n:=List.take_of_length_le (by rw [List.length_drop];omega)
 simp only [go_sem,hw,hq,hn2,h0n,Nat.le_refl,htd,m1,m2,m3,m4,kp];simp only [go_sem,ve,jkV,jkU,jW,jN]
theorem jl6 (l:List En) (hl:l.length≤4000000):kj Tryz.prog 63 [.c (jm l)] (.tup [(false,[jm (vh l)]),(false,[jm (jaF l)])]):=by
 refine jq Tryz.func63 jil (by simp) ?_
 unfold jgh;have hw:IntKind.i64.wrap ((l.length:Int)+1)=(l.length:Int)+1:=jf (by omega) (by omega)
 have hq:IntKind.i64.wrap (((l.length:Int)+1).tdiv 2)=(((l.length+1)/2:Nat):Int):=by
  rw [Int.tdiv_eq_ediv_of_nonneg (by omega)];exact jf (by omega) (by omega)|>.trans (by omega)
 have hn2:(l.length+1)/2≤l.length:=by omega
 unfold vh jaF;generalize (l.length+1)/2=n at*;have h0n:(n:Int)≥0:=by omega
 have htd:(l.drop n).take (l.length-n)=l.drop n:=List.take_of_length_le (by rw [List.length_drop];omega)
 simp only [go_sem,hw,hq,hn2,h0n,Nat.le_refl,htd];refine jc (ki (l.take n) (by rw [List.length_take];omega)) (by simp only [go_sem,Nat.le_refl,htd]) fun ηa=>?_
 simp only [go_sem,Nat.le_refl,htd];refine jc (ki (l.drop n) (by rw [List.length_drop];omega)) (by simp only [go_sem,Nat.le_refl,htd]) fun ηb=>?_
 simp only [go_sem,Nat.le_refl,htd];simp only [go_sem,ve,jkV,jkU,jW,jN]
def qb (a b:List En):List En:=if a.length+b.length>80 then a else b.foldl jb8 a
theorem jiB:∀(b a:List En),(b.foldl jb8 a).length=a.length+b.length
 |[],a=>by simp
 |e::b,a=>by rw [List.foldl_cons,jiB b,jqq,List.length_cons];omega
theorem jsc (a b:List En):(qb a b).length≤a.length+b.length:=by
 unfold qb;split
 ·omega
 ·rw [jiB];exact Nat.le_refl _
theorem jnp {b:List En} {k:Nat} {e:En} (h:b[k]?=some e) (a:List En):(b.take (k+1)).foldl jb8 a=jb8 ((b.take k).foldl jb8 a) e:=by
 rw [List.take_add_one,h];simp
def jf0:C:=iS [iA 4 (.mov (.c (.slice none 0 0)))] (iS [iA 7 (.bsl 44 4 0 [] []),iA 8 (iM 0),iA 9 (.app 44 4 32 (.t 7) (.t 8)),iA 5 (iM 9)] (.seq (iS [iA 10 (iM 0),iA 11 (iG 10),iA 12 (iM 1),iA 13 (iG 12),iA 14 (iP .add 3 11 13),iA 15 (iQ .gtr 3 14 80)] (iD 15 (iS [iA 16 (iM 5),iA 4 (iM 16)] .ret) .skip)) (.seq (iS [iA 6 (iN 0)] (.blk 0 (.loop (.seq (iS [iA 17 (iM 6),iA 18 (iM 1),iA 19 (iG 18),iA 20 (iP .lss 3 17 19)] (iD 20 .skip (.exit 0))) (.seq (.blk 1 (.reg [iA 23 (iM 5),iA 24 (iM 1),iA 25 (iM 6),iA 26 (iI 4 24 25),iA 27 (iT 4 26),iA 28 (.call 135 [.t 23,.t 27]),iA 5 (iM 28)])) (.reg [iA 21 (iM 6),iA 22 (iQ .add 3 21 1),iA 6 (iM 22)])))))) (iS [iA 29 (iM 5),iA 4 (iM 29)] .ret))))
theorem jh4:fnC Tryz.prog Tryz.f71=some (jf0,[.t 4],30):=by kernel_rfl
def jgf:C:=iS [iA 4 (.mov (.c (.slice none 0 0)))] (iS [iA 8 (iM 0),iA 9 (.call 126 [.t 8]),iA 5 (iM 9)] (.seq (iS [iA 10 (iM 0),iA 11 (iG 10),iA 12 (iM 1),iA 13 (iG 12),iA 14 (iP .add 3 11 13),iA 15 (iQ .gtr 3 14 80)] (iD 15 (iS [iA 16 (iM 5),iA 4 (iM 16)] .ret) .skip)) (.seq (iS [iA 17 (iM 1),iA 18 (iG 17),iA 19 (iN 0)] (.blk 0 (.loop (iS [iA 20 (iP .lss 3 19 18)] (.seq (iD 20 .skip (.exit 0)) (.seq (.blk 1 (iS [iA 21 (iI 4 17 19),iA 22 (iT 4 21),iA 7 (.alloc 44 [.int .i64 0,.int .i64 0,.int .i64 0,.int .i64 0]),iC (.st 4 [none,none,none,none] (.t 7) (.t 22))] (.reg [iA 23 (iM 5),iA 24 (iT 4 7),iA 25 (.call 128 [.t 23,.t 24]),iA 5 (iM 25)]))) (.reg [iA 26 (iQ .add 3 19 1),iA 19 (iM 26)]))))))) (iS [iA 27 (iM 5),iA 4 (iM 27)] .ret))))
theorem jij:fnC Tryz.prog Tryz.f64=some (jgf,[.t 4],28):=by kernel_rfl
theorem jlU (a b:List En) (hl:a.length+b.length≤4000000):kj Tryz.prog 71 [.c (jm a),.c (jm b)] (.c (jm (qb a b))):=by
 refine jq Tryz.func71 jh4 (by simp) ?_
 unfold jf0;have m1:a.length≤maxLen:=by unfold maxLen;omega
 have m2:a.length*32≤140737488355328:=by omega
 have hw:IntKind.i64.wrap ((a.length:Int)+b.length)=((a.length+b.length:Nat):Int):=by rw [jf (by omega) (by omega)];omega
 simp only [go_sem,m1,m2,kp];intro η0 η1;by_cases hgt:a.length+b.length>80
 ·have hgt':((a.length+b.length:Nat):Int)>80:=by omega
  have e:qb a b=a:=if_pos hgt;simp only [go_sem,hw,hgt',e,kp]
 have hgt':¬((a.length+b.length:Nat):Int)>80:=by omega
 have e:qb a b=b.foldl jb8 a:=if_neg hgt;simp only [go_sem,hw,hgt'];refine jn (fun i:Nat×js=>St.of [(1,Ro (jm b)),(5,Hd 5 i.2),(6,Ni i.1)] [(5,.loose (jm ((b.take i.1).foldl jb8 a)) i.2)]) (fun i=>i.1≤b.length) (fun i=>b.length-i.1) (0,η1) (by (try dsimp only);first|omega|(simp;done)|(and_intros<;>first|omega|simp)) (jg [some 900] (by simp only [go_sem,List.take_zero,List.foldl_nil,kp]<;>and_intros<;>first|rfl|assumption|trivial)) ?_
 rintro ⟨k,η⟩ hk;dsimp only at hk;by_cases hlt:k<b.length
 ·have hlt':(k:Int)<b.length:=by omega
  have h0k:(k:Int)≥0:=by omega
  obtain ⟨x,hx⟩:=je hlt;have hwk:IntKind.i64.wrap ((k:Int)+1)=((k+1:Nat):Int):=jf (by omega) (by omega)
  have hnx:=jnp hx a;have hln:=jiB (b.take k) a;rw [List.length_take] at hln;generalize (b.take k).foldl jb8 a=L at*;simp only [go_sem,hlt',hlt,h0k,jI hx,jk];refine jc (jaq L x (by omega)) (by simp only [go_sem,jk]) fun ηp=>?_
  simp only [go_sem,jk];simp only [go_sem,hwk];exact ⟨(k+1,ηp 0),by (try dsimp only);first|omega|assumption|(and_intros<;>first|omega|assumption),(jg [some 2800] (by simp only [go_sem,hnx]<;>and_intros<;>first|rfl|assumption|trivial)),by (try dsimp only);omega⟩
 have hlt':¬(k:Int)<b.length:=by omega
 rw [List.take_of_length_le (by omega),e]
 simp only [go_sem,hlt']
theorem jl5 (a b:List En) (hl:a.length+b.length≤4000000):kj Tryz.prog 64 [.c (jm a),.c (jm b)] (.c (jm (qb a b))):=by
 refine jq Tryz.func64 jij (by simp) ?_
 unfold jgf;have hw:IntKind.i64.wrap ((a.length:Int)+b.length)=((a.length+b.length:Nat):Int):=by rw [jf (by omega) (by omega)];omega
 simp only [go_sem];refine jc (ki a (by omega)) (by simp only [go_sem]) fun ηa=>?_
 simp only [go_sem];by_cases hgt:a.length+b.length>80
 ·have hgt':((a.length+b.length:Nat):Int)>80:=by omega
  have e:qb a b=a:=if_pos hgt;simp only [go_sem,hw,hgt',e]
 have hgt':¬((a.length+b.length:Nat):Int)>80:=by omega
 have e:qb a b=b.foldl jb8 a:=if_neg hgt;simp only [go_sem,hw,hgt'];refine jn (fun i:Nat×js=>St.of [(5,Hd 5 i.2),(17,Ro (jm b)),(18,Ni b.length),(19,Ni i.1)] [(5,.loose (jm ((b.take i.1).foldl jb8 a)) i.2)]) (fun i=>i.1≤b.length) (fun i=>b.length-i.1) (0,ηa 0) (by (try dsimp only);first|omega|(simp;done)|(and_intros<;>first|omega|simp)) (jg [some 900] (by simp only [go_sem,List.take_zero,List.foldl_nil]<;>and_intros<;>first|rfl|assumption|trivial)) ?_
 rintro ⟨k,η⟩ hk;dsimp only at hk;by_cases hlt:k<b.length
 ·have hlt':(k:Int)<b.length:=by omega
  have h0k:(k:Int)≥0:=by omega
  obtain ⟨x,hx⟩:=je hlt;have hwk:IntKind.i64.wrap ((k:Int)+1)=((k+1:Nat):Int):=jf (by omega) (by omega)
  have hnx:=jnp hx a;have hln:=jiB (b.take k) a;rw [List.length_take] at hln;generalize (b.take k).foldl jb8 a=L at*;simp only [go_sem,hlt',hlt,h0k,jI hx,jk];intro b7;refine jc (jar L x (by omega)) (by simp only [go_sem,jk]) fun ηp=>?_
  simp only [go_sem,jk];simp only [go_sem,hwk];exact ⟨(k+1,ηp 0),by (try dsimp only);first|omega|assumption|(and_intros<;>first|omega|assumption),(jg [some 2500] (by simp only [go_sem,hnx]<;>and_intros<;>first|rfl|assumption|trivial)),by (try dsimp only);omega⟩
 have hlt':¬(k:Int)<b.length:=by omega
 rw [List.take_of_length_le (by omega),e]
 simp only [go_sem,hlt']
def jp2 (l:List En):En:=l.headD ⟨0,0,0,0⟩
def je4 (l:List En):Bool:=!l.isEmpty
def jbX:C:=iS [iA 2 (.alloc 44 [.int .i64 0,.int .i64 0,.int .i64 0,.int .i64 0]),iA 3 (.mov (.c (.slice none 0 0))),iA 4 (iO false)] (.seq (iS [iA 5 (iM 0),iA 6 (iG 5),iA 7 (iQ .eql 3 6 0)] (iD 7 (iS [iA 8 (.bld [.int .i64 0,.int .i64 0,.int .i64 0,.int .i64 0] []),iA 9 (.bsl 44 4 0 [] []),iC (.st 4 [none,none,none,none] (.t 2) (.t 8)),iA 3 (iM 9),iA 4 (iO false)] .ret) .skip)) (.seq (.dreg (T.pure 0 (iA 10 (iM 0)) (T.pure 1 (iA 11 (.ia 4 (.t 10) (.c (.int .i64 0)))) (T.pure 2 (iA 12 (iT 4 11)) (T.pure 4 (iA 14 (iM 0)) (T.pure 5 (iA 15 (.sl 4 (.t 14) (some (.c (.int .i64 1))) none)) (T.alt (iA 13 (.bsl 44 4 0 [] [])) [5,4,2,1,0] (T.alt (iA 16 (.app 44 4 32 (.t 13) (.t 15))) [2,1,0] (T.alt (iC (.st 4 [none,none,none,none] (.t 2) (.t 12))) [] (T.pure 8 (iA 3 (iM 16)) (T.pure 9 (iA 4 (iO true)) T.done)) T.stop) T.stop) T.stop))))))) .ret))
theorem jeM:fnC Tryz.prog Tryz.f72=some (jbX,[.cell 2 true 4,.t 3,.t 4],17):=by kernel_rfl
def jb3:C:=iS [iA 2 (.alloc 44 [.int .i64 0,.int .i64 0,.int .i64 0,.int .i64 0]),iA 3 (.mov (.c (.slice none 0 0))),iA 4 (iO false)] (.seq (iS [iA 5 (iM 0),iA 6 (iG 5),iA 7 (iQ .eql 3 6 0)] (iD 7 (iS [iA 8 (.bld [.int .i64 0,.int .i64 0,.int .i64 0,.int .i64 0] []),iC (.st 4 [none,none,none,none] (.t 2) (.t 8)),iA 3 (.mov (.c (.slice none 0 0))),iA 4 (iO false)] .ret) .skip)) (.seq (.dreg (T.pure 0 (iA 9 (iM 0)) (T.pure 1 (iA 10 (.ia 4 (.t 9) (.c (.int .i64 0)))) (T.pure 2 (iA 11 (iT 4 10)) (T.pure 3 (iA 12 (iM 0)) (T.pure 4 (iA 13 (.sl 4 (.t 12) (some (.c (.int .i64 1))) none)) (T.alt (iA 14 (.call 126 [.t 13])) [2,1,0] (T.alt (iC (.st 4 [none,none,none,none] (.t 2) (.t 11))) [] (T.pure 7 (iA 3 (iM 14)) (T.pure 8 (iA 4 (iO true)) T.done)) T.stop) T.stop))))))) .ret))
theorem jeS:fnC Tryz.prog Tryz.f65=some (jb3,[.cell 2 true 4,.t 3,.t 4],15):=by kernel_rfl
theorem jbO (l:List En) (hl:l.length≤4000000):kj Tryz.prog 72 [.c (jm l)] (.tup [(true,jk (jp2 l)),(false,[jm l.tail]),(false,[.val (.bool (je4 l))])]):=by
 refine jq Tryz.func72 jeM (by simp) ?_
 unfold jbX;cases l with
 |nil=>
  simp only [go_sem,jk,jp2,je4,List.headD_nil,List.isEmpty_nil,List.tail_nil];intro b2 η0;simp only [ve];refine jt _ _ _ _ _ ?_;simp only [go_sem,jC,jkV,jkU,jW,jN,true_or,jdf]
 |cons x l=>
  have hle:l.length≤4000000:=by rw [List.length_cons] at hl;omega
  have h0:(x::l)[0]?=some x:=rfl;have h1:(((l.length+1:Nat):Int)==0)=false:=by simp only [beq_eq_false_iff_ne,ne_eq];omega
  have h2:1≤l.length+1:=by omega
  have h3:0<l.length+1:=by omega
  have m1:l.length≤maxLen:=by unfold maxLen;omega
  have m2:l.length*32≤140737488355328:=by omega
  have hd:List.take l.length l=l:=List.take_length;simp only [go_sem,jk,jp2,je4,List.headD_cons,List.isEmpty_cons,List.tail_cons,h1];intro b2;simp only [go_sem,h2,h3,jI h0,jk,hd,Nat.le_refl,m1,m2,kp,Nat.add_sub_cancel];intro η η1;simp only [ve];refine jt _ _ _ _ _ ?_;simp only [go_sem,jC,jkV,jkU,jW,jN,true_or]
def jtf (ts:List Tk) (t:Nat) (x:Tk) (til:Int):List Tk:=ts.set t ⟨3,x.need,IntKind.i64.wrap (x.tri+1),til⟩
def kT (r:Rn) (t:Nat) (x:Tk) (now:Int):Rn:=⟨r.id,r.plan,r.state,jtf r.tasks t x (IntKind.i64.wrap (now+r.plan.wait))⟩
def jbo:C:=iS [iA 3 (.box 52 8 (.t 0)),iA 6 (.alloc 52 [.int .i64 0,.int .i64 0,.int .i64 0,.int .i64 0,.int .i64 0,.slice none 0 0,.int .i64 0,.slice none 0 0])] (iS [iA 9 (iT 8 3),iA 10 (.call 133 [.t 9]),iA 7 (.alloc 52 [.int .i64 0,.int .i64 0,.int .i64 0,.int .i64 0,.int .i64 0,.slice none 0 0,.int .i64 0,.slice none 0 0]),iC (.st 8 [none,none,none,none,none,some (2,161),none,some (4,46)] (.t 7) (.t 10))] (iS [iA 11 (iF 7 7),iA 12 (iL 11),iA 13 (iM 1),iA 14 (iI 4 12 13),iA 15 (iT 4 14),iA 8 (.alloc 46 [.int .i64 0,.int .i64 0,.int .i64 0,.int .i64 0]),iC (.st 4 [none,none,none,none] (.t 8) (.t 15))] (iS [iA 16 (iF 0 8),iC (.st 1 [none] (.t 16) (.c (.int .i64 3)))] (iS [iA 17 (iF 2 8),iA 18 (iL 17),iA 19 (iQ .add 3 18 1),iA 20 (iF 2 8),iC (.st 1 [none] (.t 20) (.t 19))] (iS [iA 21 (iM 2),iA 22 (iF 1 3),iA 23 (iF 2 22),iA 24 (iL 23),iA 25 (iP .add 3 21 24),iA 26 (iF 3 8),iC (.st 1 [none] (.t 26) (.t 25))] (iS [iA 27 (iF 7 7),iA 28 (iL 27),iA 29 (iM 1),iA 30 (iT 4 8),iA 31 (iI 4 28 29),iC (.st 4 [none,none,none,none] (.t 31) (.t 30))] (iS [iA 32 (iT 8 7),iC (.st 8 [none,none,none,none,none,some (2,161),none,some (4,46)] (.t 6) (.t 32))] .ret)))))))
theorem jdv:fnC Tryz.prog Tryz.f73=some (jbo,[.cell 6 true 8],33):=by kernel_rfl
theorem jgF (r:Rn) (t:Nat) (x:Tk) (now:Int) (hx:r.tasks[t]?=some x) (hsz:r.plan.edges.length≤4000000) (ht:r.tasks.length≤4000000):kj Tryz.prog 73 [.agg (jd r),.c (.val (.int .i64 t)),.c (.val (.int .i64 now))] (.agg (jd (kT r t x now))):=by
 refine jq Tryz.func73 jdv (by simp) ?_
 unfold jbo;have htl:=(List.getElem?_eq_some_iff.1 hx).1;have h0t:(t:Int)≥0:=by omega
 simp only [go_sem,jd,ja];intro b3 b6;refine jc (vr r hsz ht) (by simp only [go_sem,jd,ja]) fun ηc=>?_
 simp only [go_sem,jd,ja];intro b7;simp only [go_sem,Nat.add_zero,htl,h0t,jsJ hx,jhR hx,jo,kT,jtf,jbz 3 x.need (IntKind.i64.wrap (x.tri+1)) (IntKind.i64.wrap (now+r.plan.wait)) htl]
end Go.Proofs.YtcehjhiglmifjaaGreat
