/- Parts. -/
import Derived.Test.YtmnpailnelmpiaaGreatQCopyY
import Derived.Test.YtmnpailnelmpiaaGreatQFresh
import Derived.Test.YtmnpailnelmpiaaGreatQHole
set_option linter.unusedSimpArgs false
set_option linter.unusedVariables false
set_option maxHeartbeats 8000000
set_option maxRecDepth 100000
namespace Go.Proofs.YtmnpailnelmpiaaGreat
open Go.RowKit Go.Sort
structure jwS (p:En→Bool) (l L:List En) (i j:Nat):Prop where
 len:L.length=l.length
 ij:i<j
 jl:j≤l.length
 pre:L.take i=(l.take j).filter fun e=>!p e
 suf:∀q,j≤q→L[q]?=l[q]?
section
variable {p:En→Bool} {l L:List En} {i j:Nat} {e:En}
theorem jAN (h:l[i]?=some e) (he:p e=true) (hn:∀y∈l.take i,p y=false):jwS p l l i (i+1):=by
 refine ⟨rfl,by omega,(List.getElem?_eq_some_iff.1 h).1,?_,fun _ _=>rfl⟩
 rw [List.take_add_one,h,List.filter_append];simp only [Option.toList_some,List.filter_cons,he,Bool.not_true,Bool.false_eq_true,if_false,List.filter_nil,List.append_nil];exact (List.filter_eq_self.2 fun y hy=>by rw [hn y hy];rfl).symm
theorem jwE (hd:jwS p l L i j) (h:l[j]?=some e) (he:p e=true):jwS p l L i (j+1):=by
 refine ⟨hd.len,by have:=hd.ij;omega,(List.getElem?_eq_some_iff.1 h).1,?_,fun q hq=>hd.suf q (by omega)⟩
 rw [hd.pre,List.take_add_one,h,List.filter_append];simp [he]
theorem jtE (hd:jwS p l L i j) (h:l[j]?=some e) (he:p e=false):jwS p l (L.set i e) (i+1) (j+1):=by
 have hj:=(List.getElem?_eq_some_iff.1 h).1;have h1:=hd.ij;have h2:=hd.len;refine ⟨by rw [List.length_set];exact h2,by omega,hj,?_,fun q hq=>?_⟩
 ·rw [List.take_add_one,List.getElem?_set_self (by omega),List.take_set_of_le (Nat.le_refl _),hd.pre,List.take_add_one,h,List.filter_append]
  simp [he]
 ·rw [List.getElem?_set_ne (by omega)];exact hd.suf q (by omega)
theorem jtF (hd:jwS p l L i l.length):L.take i=l.filter fun e=>!p e:=by rw [hd.pre,List.take_length]
end
def kF:C:=iS [iA 4 (iN 0)] (.seq (iS [iA 6 (iM 0),iA 7 (iG 6),iA 8 (iN 0)] (.blk 0 (.loop (iS [iA 9 (iP .lss 3 8 7)] (.seq (iD 9 .skip (.exit 0)) (.seq (.blk 1 (iS [iA 10 (iM 8),iA 5 (iM 10)] (iS [iA 11 (iM 1),iA 12 (iM 0),iA 13 (iM 5),iA 14 (iI 4 12 13),iA 15 (iT 4 14),iA 16 (.callv (.t 11) [.t 15])] (iD 16 (iS [iA 17 (iM 5),iA 4 (iM 17)] .ret) .skip)))) (.reg [iA 18 (iQ .add 3 8 1),iA 8 (iM 18)]))))))) (iS [iA 4 (iN (-1))] .ret))
theorem qy:fnC Tryz.prog Tryz.f237=some (kF,[.t 4],19):=by kernel_rfl
theorem jbh (l:List En) (f:Nat) (cd:List D) (p:En→Bool) (hf:∀x,kf Tryz.prog f [.agg (jf x),.ptr cd] (.c (.val (.bool (p x))))) (hl:l.length≤4000000):kf Tryz.prog 237 [.c (ji l),.fn f [cd]] (.c (.val (.int .i64 (jcX p l)))):=by
 refine jr Tryz.func237 qy (by simp) ?_
 unfold kF;simp only [go_sem];refine jq (fun i:Nat=>St.of [(0,Ro (ji l)),(1,.fn f [.rp cd]),(7,Ni l.length),(8,Ni i)] []) (fun i=>i≤l.length∧∀y∈l.take i,p y=false) (fun i=>l.length-i) 0 (by (try dsimp only);first|omega|(simp;done)|(and_intros<;>first|omega|simp)) (jk [] (by simp only [go_sem]<;>and_intros<;>first|rfl|assumption)) ?_
 rintro k ⟨hk,hko⟩;by_cases hlt:k<l.length
 ·have hlt':(k:Int)<l.length:=by omega
  have h0k:(k:Int)≥0:=by omega
  obtain ⟨x,hx⟩:=je hlt;have hw:IntKind.i64.wrap ((k:Int)+1)=((k+1:Nat):Int):=jo (by omega) (by omega)
  simp only [go_sem,hlt,hlt',h0k,jI hx,jf];refine jib (by simp only [go_sem];rfl) (hf x) (by simp only [go_sem,jf]) fun η=>?_
  cases hp:p x
  ·simp only [go_sem,hp,hw]
   exact ⟨k+1,⟨hlt,jku hx hp hko⟩,(jk [] (by simp only [go_sem]<;>and_intros<;>first|rfl|assumption)),by (try dsimp only);omega⟩
  ·simp only [go_sem,hp,ja1 hx hp hko]
 ·have hlt':¬(k:Int)<l.length:=by omega
  rw [List.take_of_length_le (by omega)] at hko
  simp only [go_sem,hlt',zZ hko]
def jax (y:Yd) (k:Int):Yd:=if 0≤k∧k≤(y.shelf.length:Int)-1 then ⟨y.now,y.seq,y.shelf.set k.toNat (((y.shelf[k.toNat]?).getD []).filter (kr y)),y.runs⟩ else y
theorem joD {y:Yd} {k:Int} (h:¬(0≤k∧k≤(y.shelf.length:Int)-1)):jax y k=y:=by rw [jax,if_neg h]
theorem jeo {y:Yd} {k:Nat} {l:List En} (h:y.shelf[k]?=some l):jax y k=⟨y.now,y.seq,y.shelf.set k (l.filter (kr y)),y.runs⟩:=by
 have:=(List.getElem?_eq_some_iff.1 h).1;rw [jax,if_pos (by omega)]
 simp [h]
theorem jp9 {l:List (List En)} {k:Nat} (v:List En) (hk:k<l.length):D.put [] k [ji v] (kt l)=kt (l.set k v):=by
 have:=jl7 v hk
 rwa [Nat.mul_one] at this
theorem jtq (l:List En) (a:En):D.sl 4 tEn (l.flatMap jf++[.val (.int .i64 a.prio),.val (.int .i64 a.seq),.val (.int .i64 a.run),.val (.int .i64 a.task)])=ji (l++[a]):=by simp [ji,jf]
theorem jjQ (sh:List (List En)):(sh.flatMap fun es=>[ji es])=sh.map ji:=by induction sh<;>simp_all
theorem jix {sh:List (List En)} {k:Nat} {l:List En} (h:sh[k]?=some l):(sh.flatMap fun es=>[ji es])[k]?=some (.sl 4 tEn (l.flatMap jf)):=by
 rw [jjQ,List.getElem?_map,h];rfl
theorem jnC {sh:List (List En)} {k i:Nat} {l l2:List En} {ds:List D} (h:sh[k]?=some l) (hp:D.put [] i ds (ji l)=ji l2):D.put [k] i ds (kt sh)=kt (sh.set k l2):=by
 have hd:(sh.flatMap fun es=>[ji es])[k]?=some (ji l):=jix h
 simp only [kt,D.put,hd,hp];simp only [jjQ,List.map_set]
theorem joT {sh:List (List En)} {k i:Nat} {l:List En} (e:En) (h:sh[k]?=some l) (hi:i<l.length):D.put [k] (i*4) [.val (.int .i64 e.prio),.val (.int .i64 e.seq),.val (.int .i64 e.run),.val (.int .i64 e.task)] (kt sh)=kt (sh.set k (l.set i e)):=jnC h (jqb e hi)
def jc7:En:=⟨0,0,0,0⟩
theorem jwp (n:Nat):(List.replicate n [D.val (.int .i64 0),D.val (.int .i64 0),D.val (.int .i64 0),D.val (.int .i64 0)]).flatten=(List.replicate n jc7).flatMap jf:=by
 rw [List.flatMap_replicate];rfl
theorem jwG {l:List En} {i n:Nat} (h:i+n=l.length):D.put [] (i*4) ((List.replicate n jc7).flatMap jf) (ji l)=ji (l.take i++List.replicate n jc7):=by
 have h4:∀x:En,(jf x).length=4:=fun _=>rfl
 have e1:l.flatMap jf=(l.take i).flatMap jf++(l.drop i).flatMap jf:=by rw [←List.flatMap_append,List.take_append_drop]
 have l1:((l.take i).flatMap jf).length=i*4:=by rw [jJ h4,List.length_take,Nat.min_eq_left (by omega)]
 have l2:((l.drop i).flatMap jf).length=n*4:=by rw [jJ h4,List.length_drop];congr 1;omega
 have l3:((List.replicate n jc7).flatMap jf).length=n*4:=by rw [jJ h4,List.length_replicate]
 simp only [ji,D.put];rw [kS _ _ _ (by rw [e1,List.length_append];omega),e1,List.take_left' l1,l3,List.drop_eq_nil_of_le (by rw [List.length_append];omega),List.append_nil,List.flatMap_append]
theorem jvH:∀{l m:List D},(∀x∈m,x∈l)→jW l=true→jW m=true:=by
 intro l m h hl
 have key:∀{l:List D},jW l=true↔∀x∈l,∃u,x=.val u∧u.oneCell'=true:=by
  intro l
  induction l with
  |nil=>simp [jW]
  |cons a l ih=>
   cases a with
   |val u=>
    simp only [jW,Bool.and_eq_true,ih,List.mem_cons];constructor
    ·rintro ⟨h1,h2⟩ x (rfl|hx)
     ·exact ⟨u,rfl,h1⟩
     ·exact h2 x hx
    ·intro h
     refine ⟨?_,fun x hx=>h x (.inr hx)⟩
     obtain ⟨v,h1,h2⟩:=h _ (.inl rfl);cases h1;exact h2
   |sl a b c=>
    simp only [jW,Bool.false_eq_true,false_iff];intro h;obtain ⟨v,h1,_⟩:=h _ (List.mem_cons_self);cases h1
 exact key.2 fun x hx=>key.1 hl x (h x hx)
theorem jmN (l:List En) (a b:Nat):jW (((l.flatMap jf).drop a).take b)=true:=jvH (fun x hx=>List.mem_of_mem_drop (List.mem_of_mem_take hx)) (jaD l)
def jeF (sh:List (List En)) (n:Nat) (v:Value):D:=.sl 1 jno ((sh.flatMap fun es=>[ji es]).set n (.val v))
theorem jeI (sh:List (List En)) (n:Nat) (v:Value):D.sl 1 jno ((sh.flatMap fun es=>[ji es]).set n (.val v))=jeF sh n v:=rfl
theorem jkA (sh:List (List En)) (n:Nat) (v:Value):(jeF sh n v).isSl=true:=rfl
theorem jkw (sh:List (List En)) (n:Nat) (v:Value):(jeF sh n v).size=1:=rfl
theorem jhQ (sh:List (List En)) (n:Nat) (v:Value):(jeF sh n v).len=sh.length:=by simp [jeF,D.len,D.cells,D.size,jjQ]
theorem jcT (sh:List (List En)) (n:Nat) (v:Value):(jeF sh n v).cells.length=sh.length:=by simp [jeF,D.cells,jjQ]
theorem jhL {sh:List (List En)} {n:Nat} (v:Value) (l:List En) (h:n<sh.length):D.put [] n [ji l] (jeF sh n v)=kt (sh.set n l):=by
 simp only [jeF,D.put,kC,kt,jjQ,List.set_set,List.map_set]
theorem jka (o:Nat→Ob) (g c g2:Nat) (d:D) (η':jp) (d2:D) (η2:jp) (j:Nat):jyb o g c g2 d η' d2 η2 j=if j=g2 then .loose d2 η2 else if j=g then (o g).putOwn c d η' else o j:=rfl
theorem zR {α:Type} {l:List α} {k:Nat} {x:α} (h:l[k]?=some x):l.set k x=l:=by
 apply List.ext_getElem?
 intro j;by_cases e:k=j
 ·subst e;rw [List.getElem?_set_self (List.getElem?_eq_some_iff.1 h).1,h]
 ·rw [List.getElem?_set_ne e]
def jgJ:C:=iS [iA 2 (.box 37 4 (.t 0)),iA 4 (.alloc 37 [.int .i64 0,.int .i64 0,.slice none 0 0,.slice none 0 0])] (iS [iA 8 (iT 4 2),iA 9 (.call 105 [.t 8]),iA 5 (.alloc 37 [.int .i64 0,.int .i64 0,.slice none 0 0,.slice none 0 0]),iC (.st 4 [none,none,some (1,102),some (8,108)] (.t 5) (.t 9))] (.seq (iS [iA 10 (iM 1),iA 11 (iF 2 2),iA 12 (iL 11),iA 13 (iG 12),iA 14 (iQ .sub 3 13 1),iA 15 (.call 74 [.t 10,.c (.int .i64 0),.t 14]),iA 16 (iU 15)] (iD 16 (iS [iA 17 (iT 4 5),iC (.st 4 [none,none,some (1,102),some (8,108)] (.t 4) (.t 17))] .ret) .skip)) (iS [iA 18 (.bsl 111 4 0 [] []),iA 6 (iM 18)] (.seq (iS [iA 7 (iN 0)] (.blk 0 (.loop (.seq (iS [iA 19 (iM 7),iA 20 (iF 2 2),iA 21 (iL 20),iA 22 (iM 1),iA 23 (iI 1 21 22),iA 24 (iL 23),iA 25 (iG 24),iA 26 (iP .lss 3 19 25)] (iD 26 .skip (.exit 0))) (.seq (.blk 1 (.seq (.dreg (T.pure 0 (iA 29 (iT 4 2)) (T.pure 1 (iA 30 (iF 2 2)) (T.pure 2 (iA 31 (iL 30)) (T.pure 3 (iA 32 (iM 1)) (T.pure 4 (iA 33 (iI 1 31 32)) (T.pure 5 (iA 34 (iL 33)) (T.pure 6 (iA 35 (iM 7)) (T.pure 7 (iA 36 (iI 4 34 35)) (T.pure 8 (iA 37 (iT 4 36)) (T.alt (iA 38 (.call 141 [.t 29,.t 37])) [] T.done T.stop))))))))))) (iD 38 (.reg [iA 39 (iM 6),iA 40 (iF 2 2),iA 41 (iL 40),iA 42 (iM 1),iA 43 (iI 1 41 42),iA 44 (iL 43),iA 45 (iM 7),iA 46 (iI 4 44 45),iA 47 (iT 4 46),iA 48 (.bsl 111 4 1 [none,none,none,none] [(0,4,.t 47)]),iA 49 (.app 111 4 32 (.t 39) (.t 48)),iA 6 (iM 49)]) .skip))) (.reg [iA 27 (iM 7),iA 28 (iQ .add 3 27 1),iA 7 (iM 28)])))))) (iS [iA 50 (iF 2 5),iA 51 (iL 50),iA 52 (iM 1),iA 53 (iM 6),iA 54 (iI 1 51 52),iC (.st 1 [some (4,111)] (.t 54) (.t 53))] (iS [iA 55 (iT 4 5),iC (.st 4 [none,none,some (1,102),some (8,108)] (.t 4) (.t 55))] .ret))))))
theorem jiH:fnC Tryz.prog Tryz.f190=some (jgJ,[.cell 4 true 4],56):=by kernel_rfl
def jdE:C:=iS [iA 2 (.box 111 4 (.t 0)),iA 3 (iO false)] (iS [iA 4 (iT 4 1),iA 5 (iT 4 2),iA 6 (.call 57 [.t 4,.t 5]),iA 7 (iU 6),iA 3 (iM 7)] .ret)
theorem jgj:fnC Tryz.prog Tryz.f275=some (jdE,[.t 3],8):=by kernel_rfl
def jgO:C:=iS [iA 2 (.box 37 4 (.t 0)),iA 4 (.alloc 37 [.int .i64 0,.int .i64 0,.slice none 0 0,.slice none 0 0])] (iS [iA 6 (iT 4 2),iA 7 (.call 118 [.t 6]),iA 5 (.alloc 37 [.int .i64 0,.int .i64 0,.slice none 0 0,.slice none 0 0]),iC (.st 4 [none,none,some (1,102),some (8,108)] (.t 5) (.t 7))] (.seq (iS [iA 8 (iM 1),iA 9 (iF 2 2),iA 10 (iL 9),iA 11 (iG 10),iA 12 (iQ .sub 3 11 1),iA 13 (.call 78 [.t 8,.c (.int .i64 0),.t 12]),iA 14 (iU 13)] (iD 14 (iS [iA 15 (iT 4 5),iC (.st 4 [none,none,some (1,102),some (8,108)] (.t 4) (.t 15))] .ret) .skip)) (.seq (.dreg (T.pure 0 (iA 16 (iF 2 5)) (T.pure 1 (iA 17 (iL 16)) (T.pure 2 (iA 18 (iM 1)) (T.pure 3 (iA 19 (iF 2 5)) (T.pure 4 (iA 20 (iL 19)) (T.pure 5 (iA 21 (iM 1)) (T.pure 6 (iA 22 (iI 1 20 21)) (T.pure 7 (iA 23 (iL 22)) (T.pure 8 (iA 24 (.mkf 275 [.t 2])) (T.alt (iA 25 (.call 147 [.t 23,.t 24])) [2,1,0] (T.pure 10 (iA 26 (iI 1 17 18)) (T.alt (iC (.st 1 [some (4,111)] (.t 26) (.t 25))) [] T.done T.stop)) T.stop))))))))))) (iS [iA 27 (iT 4 5),iC (.st 4 [none,none,some (1,102),some (8,108)] (.t 4) (.t 27))] .ret))))
theorem jiN:fnC Tryz.prog Tryz.f215=some (jgO,[.cell 4 true 4],28):=by kernel_rfl
def jY:C:=iS [iA 4 (.mov (.c (.slice none 0 0)))] (iS [iA 8 (iM 0),iA 9 (iM 1),iA 10 (.call 237 [.t 8,.t 9]),iA 5 (iM 10)] (.seq (iS [iA 11 (iM 5),iA 12 (iQ .eql 3 11 (-1))] (iD 12 (iS [iA 13 (iM 0),iA 4 (iM 13)] .ret) .skip)) (.seq (iS [iA 14 (iM 5),iA 15 (iQ .add 3 14 1),iA 6 (iM 15)] (.blk 0 (.loop (.seq (iS [iA 16 (iM 6),iA 17 (iM 0),iA 18 (iG 17),iA 19 (iP .lss 3 16 18)] (iD 19 .skip (.exit 0))) (.seq (.blk 1 (iS [iA 22 (iM 0),iA 23 (iM 6),iA 24 (iI 4 22 23),iA 25 (iT 4 24),iA 7 (.alloc 111 [.int .i64 0,.int .i64 0,.int .i64 0,.int .i64 0]),iC (.st 4 [none,none,none,none] (.t 7) (.t 25))] (iS [iA 26 (iM 1),iA 27 (iT 4 7),iA 28 (.callv (.t 26) [.t 27]),iA 29 (iU 28)] (iD 29 (iS [iA 30 (iM 0),iA 31 (iM 5),iA 32 (iT 4 7),iA 33 (iI 4 30 31),iC (.st 4 [none,none,none,none] (.t 33) (.t 32))] (.reg [iA 34 (iM 5),iA 35 (iQ .add 3 34 1),iA 5 (iM 35)])) .skip)))) (.reg [iA 20 (iM 6),iA 21 (iQ .add 3 20 1),iA 6 (iM 21)])))))) (iS [iA 36 (iM 0),iA 37 (iM 5),iA 38 (.sl 4 (.t 36) (some (.t 37)) none),iC (.clr 4 [D.val (.int .i64 0),D.val (.int .i64 0),D.val (.int .i64 0),D.val (.int .i64 0)] (.t 38))] (iS [iA 39 (iM 0),iA 40 (iM 5),iA 41 (.sl 4 (.t 39) none (some (.t 40))),iA 4 (iM 41)] .ret)))))
theorem ku:fnC Tryz.prog Tryz.f147=some (jY,[.t 4],42):=by kernel_rfl
theorem jgz (y:Yd) (k:Int) (ht:jt y≤2000000):kf Tryz.prog 190 [.agg (jb y),.c (.val (.int .i64 k))] (.agg (jb (jax y k))):=by
 refine jr Tryz.func190 jiH (by simp) ?_
 unfold jgJ;have hsl:y.shelf.length≤2000000:=by simp only [jt,vL] at ht;omega
 have hws:IntKind.i64.wrap ((y.shelf.length:Int)-1)=(y.shelf.length:Int)-1:=jo (by omega) (by omega)
 simp only [go_sem,jb];intro b2 b4;refine jc (kg y ht) (by simp only [go_sem,jb]) fun ηc=>?_
 simp only [go_sem,jb];intro b5;simp only [go_sem,jb,hws];refine jc (jG k 0 (y.shelf.length-1)) (by simp only [go_sem,jb,hws]) fun η=>?_
 simp only [go_sem,jb,hws];cases h:decide (0≤k∧k≤(y.shelf.length:Int)-1)
 ·simp only [go_sem,jb,h,joD (of_decide_eq_false h)]
 have h':=of_decide_eq_true h;obtain ⟨n,rfl⟩:=Int.eq_ofNat_of_zero_le h'.1;have hn:n<y.shelf.length:=by omega
 have h0n:(n:Int)≥0:=by omega
 obtain ⟨l,hl⟩:=je hn;have hll:=jaT ht (List.mem_of_getElem? hl);rw [jeo hl];simp only [go_sem,jb,h,jcL];intro η18;refine jq (fun i:Nat×jp=>St.of [(1,Ni n),(2,Bx 200 b2),(4,Bx 400 b4),(5,Bx 500 b5),(6,Hd 6 i.2),(7,Ni i.1)] [(200,Bi b2 _ (jb y)),(400,ZYd b4 _),(500,ky b5 _ y.now y.seq y.shelf (ηc 2) y.runs (ηc 3)),(6,.loose (ji ((l.take i.1).filter (kr y))) i.2)]) (fun i=>i.1≤l.length) (fun i=>l.length-i.1) (0,η18) (by (try dsimp only);first|omega|(simp;done)|(and_intros<;>first|omega|simp)) (jk [some 200,some 400,some 500,some 1800] (by simp only [go_sem,jb,List.take_zero,List.filter_nil]<;>and_intros<;>first|rfl|assumption)) ?_
 rintro ⟨j,ηj⟩ hj;dsimp only at hj;by_cases hlt:j<l.length
 ·have hlt':(j:Int)<l.length:=by omega
  have h0j:(j:Int)≥0:=by omega
  obtain ⟨e,he⟩:=je hlt;have hw:IntKind.i64.wrap ((j:Int)+1)=((j+1:Nat):Int):=jo (by omega) (by omega)
  have hft:=jof (f:=kr y) he;have hfl:((l.take j).filter (kr y)).length≤4000000:=Nat.le_trans (List.length_filter_le _ _) (by rw [List.length_take];omega)
  generalize (l.take j).filter (kr y)=M at*;have m1:M.length+1≤maxLen:=by unfold maxLen;omega
  have m2:(M.length+1)*32≤140737488355328:=by omega
  simp only [go_sem,jb,hn,h0n,kY hl,hlt,hlt',h0j,jI he,jf];refine jc (jmf y e) (by simp only [go_sem,jb,jf]) fun η=>?_
  simp only [go_sem,jb,jf];cases hf:kr y e
  ·rw [hf] at hft
   simp only [Bool.false_eq_true,if_false] at hft;simp only [go_sem,jb,hf,hw];exact ⟨(j+1,ηj),by (try dsimp only);first|omega|assumption|(and_intros<;>first|omega|assumption),(jk [some 200,some 400,some 500,some 6] (by simp only [go_sem,jb,hft]<;>and_intros<;>first|rfl|assumption)),by (try dsimp only);omega⟩
  ·rw [hf] at hft
   simp only [if_true] at hft;simp only [go_sem,jb,hn,h0n,kY hl,hlt,hlt',h0j,jI he,jf,hf,m1,m2,jtq,hw];intro η48 η49;exact ⟨(j+1,η49),by (try dsimp only);first|omega|assumption|(and_intros<;>first|omega|assumption),(jk [some 200,some 400,some 500,some 4900] (by simp only [go_sem,jb,hft]<;>and_intros<;>first|rfl|assumption)),by (try dsimp only);omega⟩
 have hlt':¬(j:Int)<l.length:=by omega
 rw [List.take_of_length_le (by omega)]
 generalize l.filter (kr y)=M at*;simp only [go_sem,jb,hn,h0n,kY hl,hlt',jaB hn,jl7 M hn,jp9 M hn];exact fun _ _=>trivial
theorem jo0 (y:Yd) (e:En):kf Tryz.prog 275 [.agg (jf e),.ptr (jb y)] (.c (.val (.bool (!kr y e)))):=by
 refine jr Tryz.func275 jgj (by simp) ?_
 unfold jdE;simp only [go_sem,jb,jf];intro b2;refine jc (jmi y e) (by simp only [go_sem,jb,jf]) fun η=>?_
 simp only [go_sem,jb,jf]
theorem jgB (y:Yd) (k:Int) (ht:jt y≤2000000):kf Tryz.prog 215 [.agg (jb y),.c (.val (.int .i64 k))] (.agg (jb (jax y k))):=by
 refine jr Tryz.func215 jiN (by simp) ?_
 unfold jgO;have hsl:y.shelf.length≤2000000:=by simp only [jt,vL] at ht;omega
 have hws:IntKind.i64.wrap ((y.shelf.length:Int)-1)=(y.shelf.length:Int)-1:=jo (by omega) (by omega)
 simp only [go_sem,jb];intro b2 b4;refine jc (jX y ht) (by simp only [go_sem,jb]) fun ηc=>?_
 simp only [go_sem,jb];intro b5;simp only [go_sem,jb,hws];refine jc (jC k 0 (y.shelf.length-1)) (by simp only [go_sem,jb,hws]) fun η=>?_
 simp only [go_sem,jb,hws];cases h:decide (0≤k∧k≤(y.shelf.length:Int)-1)
 ·simp only [go_sem,jb,h,joD (of_decide_eq_false h)]
 have h':=of_decide_eq_true h;obtain ⟨n,rfl⟩:=Int.eq_ofNat_of_zero_le h'.1;have hn:n<y.shelf.length:=by omega
 have h0n:(n:Int)≥0:=by omega
 obtain ⟨l,hl⟩:=je hn;have hll:=jaT ht (List.mem_of_getElem? hl);rw [jeo hl];have hi1:n+1≤(y.shelf.flatMap fun es=>[ji es]).length:=by have:=jaB hn;rwa [Nat.mul_one] at this
 have ha1:((y.shelf.flatMap fun es=>[ji es]).drop n).take 1=[ji l]:=by have:=jbu hl;rwa [Nat.mul_one] at this
 simp only [go_sem,jb,h,hn,h0n,kY hl,ha1,hi1,Nat.mul_one];refine kT (js9 ?_);refine qW (β:=7000000) Tryz.func147 ku (by simp) ?_
 unfold jY;simp only [go_sem,jb];refine jc (jbh l _ (jb y) (fun e=>!kr y e) (fun x=>jo0 y x) hll) (by simp only [go_sem,jb,kb hl]) fun η=>?_
 simp only [go_sem,jb]
 have hcut:∀(L:List En) (m:Nat),m≤L.length→(L.flatMap jf).take (m*4)=(L.take m).flatMap jf:=fun L m hm=>by
  have e1:L.flatMap jf=(L.take m).flatMap jf++(L.drop m).flatMap jf:=by rw [←List.flatMap_append,List.take_append_drop]
  rw [e1,List.take_left' (by rw [jJ jpo,List.length_take,Nat.min_eq_left hm])]
 rcases jal (fun e=>!kr y e) l with ⟨h1,h2⟩|⟨i0,x0,h1,h2,h3,h4⟩
 ·have hfl:l.filter (kr y)=l:=List.filter_eq_self.2 fun e he=>by have:=h2 e he;simpa using this
  simp only [go_sem,jb,h1,beq_self_eq_true];refine ⟨500,2,n,777,l.length,4,tEn,jno,l.flatMap jf,_,ηc 2,.inr ⟨rfl,(jJ jpo l).symm⟩,by simp only [go_sem];rfl,jix hl,by simp only [go_sem],by decide,by decide,by rw [jJ jpo];exact Nat.le_refl _,fun η2 η' hη=>?_⟩
  rw [hcut l l.length (Nat.le_refl _),List.take_length,hfl];simp only [go_sem,jka,jeI,hη,jkA,jkw,jhQ,hn,h0n,Nat.mul_one,jcT,hi1,jhL _ l hn,ke];exact ⟨hn,fun _ _=>trivial⟩
 ·have hi0:=(List.getElem?_eq_some_iff.1 h2).1
  have hne:((i0:Int)==-1)=false:=by simp
  have hw0:IntKind.i64.wrap ((i0:Int)+1)=((i0+1:Nat):Int):=jo (by omega) (by omega)
  have hset0:=zR hl;simp only [go_sem,jb,h1,hne,hw0];refine jq (fun i:Nat×Nat×List En=>St.of [(0,.c (.h 500 2 [n] (ηc 2 [n]))),(1,.fn 275 [.bp 200 0 b2]),(5,Ni i.1),(6,Ni i.2.1)] [(200,Bi b2 _ (jb y)),(400,ZYd b4 _),(500,ky b5 _ y.now y.seq (y.shelf.set n i.2.2) (ηc 2) y.runs (ηc 3))]) (fun i=>jwS (fun e=>!kr y e) l i.2.2 i.1 i.2.1) (fun i=>l.length-i.2.1) (i0,i0+1,l) (jAN h2 h3 h4) (jk [some 200,some 400,some 500] (by simp only [go_sem,jb,hset0]<;>and_intros<;>first|rfl|assumption)) ?_
  rintro ⟨i,j,L⟩ hd;dsimp only at hd;have hL:(y.shelf.set n L)[n]?=some L:=List.getElem?_set_self hn;have hLl:=hd.len;have hij:=hd.ij;have hjl:=hd.jl;have h0i:(i:Int)≥0:=by omega
  by_cases hlt:j<l.length
  ·have hlt':(j:Int)<l.length:=by omega
   have h0j:(j:Int)≥0:=by omega
   obtain ⟨e,he⟩:=je hlt;have heL:L[j]?=some e:=by rw [hd.suf j (Nat.le_refl _)];exact he
   have hiL:i<L.length:=by omega
   have hjL:j<L.length:=by omega
   obtain ⟨xi,hxi⟩:=je hiL;have hw:IntKind.i64.wrap ((j:Int)+1)=((j+1:Nat):Int):=jo (by omega) (by omega)
   have hwi:IntKind.i64.wrap ((i:Int)+1)=((i+1:Nat):Int):=jo (by omega) (by omega)
   simp only [go_sem,jb,kb hL,hLl,hlt,hlt',h0j,jra heL,jqL heL,jf];intro b7;refine jib (by simp only [go_sem];rfl) (jo0 y e) (by simp only [go_sem,jb,jf]) fun η=>?_
   cases hf:kr y e
   ·simp only [go_sem,jb,jf,hf,hw]
    exact ⟨(i,j+1,L),jwE hd he (by simp [hf]),(jk [some 200,some 400,some 500] (by simp only [go_sem,jb]<;>and_intros<;>first|rfl|assumption)),by (try dsimp only);omega⟩
   ·simp only [go_sem,jb,jf,hf,hw,hwi,kb hL,hLl,h0i,jra hxi,jqL hxi,joT e hL hiL,List.set_set,(show i<l.length by omega)]
    exact ⟨(i+1,j+1,L.set i e),jtE hd he (by simp [hf]),(jk [some 200,some 400,some 500] (by simp only [go_sem,jb]<;>and_intros<;>first|rfl|assumption)),by (try dsimp only);omega⟩
  ·have hlt':¬(j:Int)<l.length:=by omega
   obtain rfl:j=l.length:=by omega
   have hde:=jtF hd;have hfe:l.filter (fun e=>!!kr y e)=l.filter (kr y):=by simp
   rw [hfe] at hde;have hin:i≤l.length:=by omega
   have hpos:0<l.length-i:=by omega
   have hsum:i+(l.length-i)=l.length:=by omega
   have hsum2:i+(l.length-i)=L.length:=by omega
   have hrf:jW ((List.replicate (l.length-i) jc7).flatMap jf)=true:=jaD _;obtain ⟨L2,hL2⟩:∃L2,L2=L.take i++List.replicate (l.length-i) jc7:=⟨_,rfl⟩;have hL2l:L2.length=l.length:=by rw [hL2];simp;omega
   have hL2t:L2.take i=l.filter (kr y):=by rw [hL2,List.take_left' (by rw [List.length_take];omega),hde]
   have hp2:D.put [n] (i*4) ((List.replicate (l.length-i) jc7).flatMap jf) (kt (y.shelf.set n L))=kt (y.shelf.set n L2):=by rw [jnC hL (jwG hsum2),List.set_set,hL2]
   have hg2:(y.shelf.set n L2)[n]?=some L2:=List.getElem?_set_self hn;have hns:n<(y.shelf.set n L2).length:=by rw [List.length_set];exact hn
   simp only [go_sem,jb,kb hL,hLl,hlt',h0i,hin,Nat.le_refl,hpos,hsum,jwp,jmN,hrf,hp2,kb hg2,hL2l];refine ⟨500,2,n,777,i,4,tEn,jno,L2.flatMap jf,_,ηc 2,.inl rfl,by simp only [go_sem];rfl,jix hg2,by simp only [go_sem],by decide,by decide,by rw [jJ jpo];omega,fun η2 η' hη=>?_⟩
   rw [hcut L2 i (by omega),hL2t]
   simp only [go_sem,jka,jeI,hη,jkA,jkw,jhQ,hns,h0n,Nat.mul_one,jcT,jhL _ (l.filter (kr y)) hns,ke,List.set_set,List.length_set,hn];exact ⟨hn,fun _ _=>trivial⟩
end Go.Proofs.YtmnpailnelmpiaaGreat
