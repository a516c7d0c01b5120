/- Parts. -/
import Derived.Test.YtmnpailnelmpiaaQYardB
set_option linter.unusedSimpArgs false
set_option linter.unusedVariables false
set_option maxHeartbeats 8000000
set_option maxRecDepth 100000
namespace Go.Proofs.Ytmnpailnelmpiaa
open Go.RowKit Go.Sort
section
variable {P:Program} {s:St}
def juj (s:St) (ds:List D) (d:D) (l:List A0):AV→Prop
 |.c a=>l.length=ds.length∧kM s (l++[a]) fun cs _=>IsD cs (ds++[d])
 |_=>False
def jwZ (s:St) (k:Nat) (ds:List D) (d:D) (b:AV):AV→Prop
 |.c (.bp g c bb)=>ldB (s.o g) g c bb k fun l=>juj s ds d l b
 |_=>False
theorem qv (n k m:Nat) (ds:List D) (d:D) (h:jwZ s k ds d (s.t m) (s.t n)):jqv [.cell n true k,.t m] (.tup [(true,ds),(false,[d])]) s:=by
 unfold jwZ at h;split at h
 ·rename_i g c bb he
  simp only [ldB] at h;split at h
  ·rename_i b ty cs ho
   obtain ⟨e1,e2,h⟩:=h;unfold juj at h;split at h
   ·rename_i a ha
    obtain ⟨h1,h2⟩:=h;simp only [jqv,jgK,ha,he];refine ⟨_,⟨ty,cs,by rw [ho,e1],e2,rfl⟩,.inl trivial,?_⟩
    refine ⟨⟨by simp,by simp [h1]⟩,?_⟩
    simpa [RT.flat] using h2
   ·exact h.elim
  ·exact h.elim
 ·exact h.elim
theorem jy2 (ds:List D) (d:D) (l:List A0) (a:A0):juj s ds d l (.c a)=(l.length=ds.length∧kM s (l++[a]) fun cs _=>IsD cs (ds++[d])):=(rfl)
theorem jy1 (k g c bb:Nat) (ds:List D) (d:D) (b:AV):jwZ s k ds d b (.c (.bp g c bb))=ldB (s.o g) g c bb k fun l=>juj s ds d l b:=(rfl)
end
attribute [go_sem] jy2 jy1
theorem jro {l:List Rn} {k j:Nat} {r:Rn} (h:l[k]?=some r) (hj:j<8):(l.flatMap jd)[k*8+j]?=(jd r)[j]?:=by
 rw [zN (enc:=jd) h,List.getElem?_append_right (by rw [jgH (enc:=jd) (size:=8) (fun _=>rfl) h];omega),jgH (enc:=jd) (size:=8) (fun _=>rfl) h,Nat.add_sub_cancel_left,List.getElem?_append_left (by exact hj)]
theorem jkl {l:List Rn} {k:Nat} {r:Rn} (h:l[k]?=some r):D.get [k*8+5] (jN l)=some (jt r.plan.edges):=by
 have:=jro (j:=5) h (by decide)
 simp [jN,D.get,this,jd,ja,jay]
theorem zx {l:List Rn} {k:Nat} {r:Rn} (h:l[k]?=some r):D.get [k*8+7] (jN l)=some (jI r.tasks):=by
 have:=jro (j:=7) h (by decide)
 simp [jN,D.get,this,jd,ja,jay]
theorem qa {l:List Rn} {k:Nat} {r:Rn} (h:l[k]?=some r):D.get [k*8+1+1+1+1+1] (jN l)=some (jt r.plan.edges):=jkl h
theorem kZ {l:List Rn} {k:Nat} {r:Rn} (h:l[k]?=some r):D.get [k*8+1+1+1+1+1+1+1] (jN l)=some (jI r.tasks):=zx h
theorem jrC {l:List Rn} {k:Nat} (v:Rn) (hk:k<l.length):D.put [] (k*8) [.val (.int .i64 v.id),.val (.int .i64 v.plan.prio),.val (.int .i64 v.plan.most),.val (.int .i64 v.plan.wait),.val (.int .i64 v.plan.tasks),jt v.plan.edges,.val (.int .i64 v.state),jI v.tasks] (jN l)=jN (l.set k v):=jpp v hk
theorem vB {y:Yd} {id:Int} (h:¬runAt y id<0):∃(k:Nat) (r:Rn),runAt y id=k∧y.runs[k]?=some r∧r.id=id∧y.runs.length≤8:=by
 unfold runAt at h⊢;split at h
 ·omega
 ·rename_i h8
  rw [if_neg h8];rcases jg9 y.runs id with ⟨k,x,h1,h2,_,h4⟩|⟨_,h2⟩
  ·exact ⟨k,x,h4,h1,h2,by omega⟩
  ·rw [h2] at h;omega
theorem jnp {l:List Rn} {k:Nat} {x:Rn} (hx:l[k]?=some x):((l.flatMap jd).drop (k*8)).take 8=jd x:=qs (enc:=jd) (size:=8) (fun _=>rfl) hx (j:=0) (n:=8) (by decide)
theorem jkh {l:List Rn} {k:Nat} {x:Rn} (hx:l[k]?=some x):k*8+8≤(l.flatMap jd).length:=qr (enc:=jd) (size:=8) (fun _=>rfl) hx (j:=0) (n:=8) (by decide)
def jlq (p:Pl) (t:Nat):Tk:=⟨if 0<(jaZ p t).length then 1 else 2,((jaZ p t).length:Int),0,0⟩
def vD (p:Pl) (k:Nat):List Tk:=(List.range k).map (jlq p)
def jL (id:Int) (p:Pl):Rn:=⟨id,p,1,vD p p.tasks.toNat⟩
theorem jxi (p:Pl):vD p 0=[]:=rfl
theorem jxh (p:Pl) (k:Nat):vD p (k+1)=vD p k++[jlq p k]:=by simp [vD,List.range_succ]
theorem jht (p:Pl) (k:Nat):(vD p k).length=k:=by simp [vD]
theorem jkS (l:List Tk) (a b c d:Int):D.sl 4 tTk (l.flatMap ju++[.val (.int .i64 a),.val (.int .i64 b),.val (.int .i64 c),.val (.int .i64 d)])=jI (l++[⟨a,b,c,d⟩]):=by simp [jI,ju]
def jeq:C:=iS [iA 3 (.box 24 5 (.t 1)),iA 4 (.alloc 78 [.int .i64 0,.int .i64 0,.int .i64 0,.int .i64 0,.int .i64 0,.slice none 0 0,.int .i64 0,.slice none 0 0]),iA 5 (iO false)] (.seq (iS [iA 9 (iM 0),iA 10 (.call 66 [.t 9,.c (.int .i64 1),.c (.int .i64 9999)]),iA 11 (iU 10),iA 12 (iM 11),iB 13 12 false (iT 5 3),iB 14 12 false (.call 111 [.t 13]),iB 15 12 false (iQ .neq 3 14 0),iA 16 (.pick (.t 12) (.c (.bool true)) (.t 15))] (iD 16 (iS [iA 17 (.bld [.int .i64 0,.int .i64 0,.int .i64 0,.int .i64 0,.int .i64 0,.slice none 0 0,.int .i64 0,.slice none 0 0] []),iC (.st 8 [none,none,none,none,none,some (2,103),none,some (4,84)] (.t 4) (.t 17)),iA 5 (iO false)] .ret) .skip)) (iS [iA 18 (iM 0),iA 19 (iT 5 3),iA 20 (.call 174 [.t 19]),iA 21 (.bld [.int .i64 0,.int .i64 0,.int .i64 0,.int .i64 0,.int .i64 0,.slice none 0 0,.int .i64 0,.slice none 0 0] [(0,1,.t 18),(1,5,.t 20),(6,1,.c (.int .i64 1))]),iA 6 (.alloc 78 [.int .i64 0,.int .i64 0,.int .i64 0,.int .i64 0,.int .i64 0,.slice none 0 0,.int .i64 0,.slice none 0 0]),iC (.st 8 [none,none,none,none,none,some (2,103),none,some (4,84)] (.t 6) (.t 21))] (.seq (iS [iA 7 (iN 0)] (.blk 0 (.loop (.seq (iS [iA 22 (iM 7),iA 23 (iF 3 3),iA 24 (iL 23),iA 25 (iP .lss 3 22 24)] (iD 25 .skip (.exit 0))) (.seq (.blk 1 (iS [iA 28 (iT 5 3),iA 29 (iM 7),iA 30 (.call 134 [.t 28,.t 29]),iA 31 (iG 30),iA 32 (.bld [.int .i64 0,.int .i64 0,.int .i64 0,.int .i64 0] [(0,1,.c (.int .i64 2)),(1,1,.t 31)]),iA 8 (.alloc 84 [.int .i64 0,.int .i64 0,.int .i64 0,.int .i64 0]),iC (.st 4 [none,none,none,none] (.t 8) (.t 32))] (.seq (iS [iA 33 (iF 1 8),iA 34 (iL 33),iA 35 (iQ .gtr 3 34 0)] (iD 35 (.reg [iA 36 (iF 0 8),iC (.st 1 [none] (.t 36) (.c (.int .i64 1)))]) .skip)) (.reg [iA 37 (iF 7 6),iA 38 (iL 37),iA 39 (iT 4 8),iA 40 (.bsl 84 4 1 [none,none,none,none] [(0,4,.t 39)]),iA 41 (.app 84 4 32 (.t 38) (.t 40)),iA 42 (iF 7 6),iC (.st 1 [some (4,84)] (.t 42) (.t 41))])))) (.reg [iA 26 (iM 7),iA 27 (iQ .add 3 26 1),iA 7 (iM 27)])))))) (iS [iA 43 (iT 8 6),iC (.st 8 [none,none,none,none,none,some (2,103),none,some (4,84)] (.t 4) (.t 43)),iA 5 (iO true)] .ret))))
theorem jgr:fnC Try.prog Try.f159=some (jeq,[.cell 4 true 8,.t 5],44):=by kernel_rfl
theorem jjV (id:Int) (p:Pl) (hid:1≤id∧id≤9999) (hp:jz p=0):kl Try.prog 159 [.c (.val (.int .i64 id)),.agg (ja p)] (.tup [(true,jd (jL id p)),(false,[.val (.bool true)])]):=by
 refine jr Try.func159 jgr (by simp) ?_
 unfold jeq;obtain ⟨n,hn,hn1,h12,h30,hes,hnd,-⟩:=jgL hp;have hi:decide (1≤id∧id≤9999)=true:=decide_eq_true hid;have hp0:(jz p !=0)=false:=by simp [hp]
 simp only [go_sem,ja];intro b3 b4;refine jb (jw id 1 9999) (by simp only [go_sem,ja]) fun η=>?_
 simp only [go_sem,ja];simp only [go_sem,ja,hi];refine jb (qD p) (by simp only [go_sem,ja]) fun η=>?_
 simp only [go_sem,ja];simp only [go_sem,ja,hp0];refine jb (jcq p (by omega)) (by simp only [go_sem,ja]) fun ηc=>?_
 simp only [go_sem,ja];intro b6;refine jq (fun i:Nat×jm=>St.of [(3,Bx 300 b3),(4,Bx 400 b4),(6,Bx 600 b6),(7,Ni i.1)] [(300,Bi b3 _ (ja p)),(400,ZRn b4 tRn),(600,jbT b6 tRn ⟨id,p,1,vD p i.1⟩ (ηc 4) i.2)]) (fun i=>i.1≤n) (fun i=>n-i.1) (0,vT) (by (try dsimp only);first|omega|(simp;done)|(and_intros<;>first|omega|simp)) (jl [some 300,some 400,some 600] (by simp only [go_sem,ja,jd,jxi]<;>and_intros<;>first|rfl|assumption|trivial)) ?_
 rintro ⟨k,η⟩ hk;dsimp only at hk;by_cases hlt:k<n
 ·have hlt':(k:Int)<p.tasks:=by omega
  have hw:IntKind.i64.wrap ((k:Int)+1)=((k+1:Nat):Int):=jg (by omega) (by omega)
  have hnx:=jxh p k;have hnl:=jht p k;generalize vD p k=M at*;have m1:M.length+1≤maxLen:=by unfold maxLen;omega
  have m2:(M.length+1)*32≤140737488355328:=by omega
  simp only [go_sem,ja,hlt'];refine jb (jaK p k n hn h12 h30) (by simp only [go_sem,ja]) fun η=>?_
  simp only [go_sem,ja];generalize hL:(jaZ p k).length=L at*;intro b8;by_cases h0:0<L
  ·have h0':(0:Int)<(L:Int):=by omega
   have hT:jlq p k=⟨1,(L:Int),0,0⟩:=by simp [jlq,hL,h0]
   rw [hT] at hnx;simp only [go_sem,ja,ju,jd,h0',m1,m2,jkS,hw];intro η40 η41;exact ⟨(k+1,η41),by (try dsimp only);first|omega|assumption|(and_intros<;>first|omega|assumption),(jl [some 300,some 400,some 600] (by simp only [go_sem,ja,jd,hnx]<;>and_intros<;>first|rfl|assumption|trivial)),by (try dsimp only);omega⟩
  ·have h0':¬(0:Int)<(L:Int):=by omega
   have hT:jlq p k=⟨2,(L:Int),0,0⟩:=by simp [jlq,hL,h0]
   rw [hT] at hnx;simp only [go_sem,ja,ju,jd,h0',m1,m2,jkS,hw];intro η40 η41;exact ⟨(k+1,η41),by (try dsimp only);first|omega|assumption|(and_intros<;>first|omega|assumption),(jl [some 300,some 400,some 600] (by simp only [go_sem,ja,jd,hnx]<;>and_intros<;>first|rfl|assumption|trivial)),by (try dsimp only);omega⟩
 have hlt':¬(k:Int)<p.tasks:=by omega
 obtain rfl:k=n:=by omega
 have hr:jL id p=⟨id,p,1,vD p k⟩:=by rw [jL,hn,Int.toNat_natCast]
 rw [hr];generalize vD p k=M at*;simp only [go_sem,ja,jd,hlt'];refine qv _ _ _ _ _ ?_;simp only [go_sem,ja,jd]
def jmq (l:List En) (e:En):Nat:=if jhJ (fun x=>!kv x e) l<0 then l.length else (jhJ (fun x=>!kv x e) l).toNat
def jdc (l:List En) (e:En):List En:=jye l (jmq l e) e
theorem jw1 {l:List En} {e x:En} {k:Nat} (h:l[k]?=some x) (hx:kv x e=false) (hn:∀y∈l.take k,(fun x=>!kv x e) y=false):jmq l e=k:=by
 have h1:=jhH (f:=fun x=>!kv x e) h (by simp [hx]) hn
 rw [jmq,h1,if_neg (by omega)];exact Int.toNat_natCast k
theorem jnX {l:List En} {e:En} (hn:∀y∈l,(fun x=>!kv x e) y=false):jmq l e=l.length:=by
 rw [jmq,je5 hn];rfl
theorem jw0 (l:List En) (e:En):jmq l e≤l.length:=by
 rcases jhI (fun x=>!kv x e) l with ⟨_,h2⟩|⟨k,x,h1,h2,h3,h4⟩
 ·rw [jnX h2];exact Nat.le_refl _
 ·rw [jmq,h1,if_neg (by omega),Int.toNat_natCast];exact Nat.le_of_lt (List.getElem?_eq_some_iff.1 h2).1
theorem jnW (l:List En) (e:En):(jdc l e).length=l.length+1:=by
 have:=jw0 l e;simp [jdc,jye];omega
theorem jsO (l:List En) (e:En):l.flatMap jy++[.val (.int .i64 e.prio),.val (.int .i64 e.seq),.val (.int .i64 e.run),.val (.int .i64 e.task)]=(l++[e]).flatMap jy:=by simp [jy]
theorem jv3 (l m:List En):l.flatMap jy++m.flatMap jy=(l++m).flatMap jy:=List.flatMap_append.symm
def jbI:C:=iS [iA 3 (.box 82 4 (.t 1)),iA 4 (.mov (.c (.slice none 0 0)))] (iS [iA 5 (iN 0)] (.seq (.blk 0 (.loop (.seq (.seq (.dreg (T.pure 0 (iA 7 (iM 5)) (T.pure 1 (iA 8 (iM 0)) (T.pure 2 (iA 9 (iG 8)) (T.pure 3 (iA 10 (iP .lss 3 7 9)) (T.pure 4 (iA 11 (iM 10)) (T.pure 5 (iB 12 11 true (iM 0)) (T.pure 6 (iB 13 11 true (iM 5)) (T.pure 7 (iB 14 11 true (iI 4 12 13)) (T.pure 8 (iB 15 11 true (iT 4 14)) (T.pure 9 (iB 16 11 true (iT 4 3)) (T.alt (iB 17 11 true (.call 131 [.t 15,.t 16])) [] (T.pure 11 (iA 18 (.pick (.t 11) (.t 17) (.c (.bool false)))) T.done) T.stop)))))))))))) (iD 18 .skip (.exit 0))) (.blk 1 (.reg [iA 19 (iM 5),iA 20 (iQ .add 3 19 1),iA 5 (iM 20)]))))) (iS [iA 21 (.bsl 82 4 0 [] []),iA 22 (iM 0),iA 23 (iM 5),iA 24 (.sl 4 (.t 22) none (some (.t 23))),iA 25 (.app 82 4 32 (.t 21) (.t 24)),iA 6 (iM 25)] (iS [iA 26 (iM 6),iA 27 (iT 4 3),iA 28 (.bsl 82 4 1 [none,none,none,none] [(0,4,.t 27)]),iA 29 (.app 82 4 32 (.t 26) (.t 28)),iA 6 (iM 29)] (iS [iA 30 (iM 6),iA 31 (iM 0),iA 32 (iM 5),iA 33 (.sl 4 (.t 31) (some (.t 32)) none),iA 34 (.app 82 4 32 (.t 30) (.t 33)),iA 4 (iM 34)] .ret)))))
theorem jd8:fnC Try.prog Try.f176=some (jbI,[.t 4],35):=by kernel_rfl
theorem ze (l:List En) (e:En) (hl:l.length≤4000000):kl Try.prog 176 [.c (jv l),.agg (jy e)] (.c (jv (jdc l e))):=by
 refine jr Try.func176 jd8 (by simp) ?_
 unfold jbI;simp only [go_sem,jy];intro b3;refine jq (fun i:Nat=>St.of [(0,Ro (jv l)),(3,Bx 300 b3),(5,Ni i)] [(300,Bi b3 _ (jy e))]) (fun i=>i≤l.length∧∀y∈l.take i,(fun x=>!kv x e) y=false) (fun i=>l.length-i) 0 (by (try dsimp only);first|omega|(simp;done)|(and_intros<;>first|omega|simp)) (jl [some 300] (by simp only [go_sem,jy]<;>and_intros<;>first|rfl|assumption|trivial)) ?_
 rintro k ⟨hk,hko⟩;have h0k:(k:Int)≥0:=by omega
 have hkl:=hk;have htd:(l.drop k).take (l.length-k)=l.drop k:=List.take_of_length_le (by rw [List.length_drop];omega)
 obtain ⟨A,hA⟩:∃A,l.take k++[e]=A:=⟨_,rfl⟩;have hAl:A.length=k+1:=by rw [←hA,List.length_append,List.length_take,Nat.min_eq_left hk];rfl
 have hM:∀(hp:jmq l e=k),jv (jdc l e)=jv (A++l.drop k):=fun hp=>by rw [jdc,hp,jye,←hA];simp
 have l1:(l.take k).length≤4000000:=by rw [List.length_take];omega
 have l2:(l.drop k).length≤4000000:=by rw [List.length_drop];omega
 have m1:(l.take k).length≤maxLen:=by unfold maxLen;omega
 have m2:(l.take k).length*32≤140737488355328:=by omega
 have m3:(l.take k).length+1≤maxLen:=by unfold maxLen;omega
 have m4:((l.take k).length+1)*32≤140737488355328:=by omega
 have m5:A.length+(l.drop k).length≤maxLen:=by unfold maxLen;omega
 have m6:(A.length+(l.drop k).length)*32≤140737488355328:=by omega
 by_cases hlt:k<l.length
 ·have hlt':(k:Int)<l.length:=by omega
  obtain ⟨x,hx⟩:=je hlt;have hw:IntKind.i64.wrap ((k:Int)+1)=((k+1:Nat):Int):=jg (by omega) (by omega)
  simp only [go_sem,jy,hlt,hlt',h0k,ke hx];refine jb (jfQ x e) (by simp only [go_sem,jy]) fun η=>?_
  simp only [go_sem,jy];cases ha:kv x e
  ·rw [hM (jw1 hx ha hko)]
   simp only [go_sem,jy,ha,hk,h0k,Nat.le_refl,htd,m1,m2,m3,m4,jsO,hA,m5,m6,jv3,ky]
  ·simp only [go_sem,jy,ha,hw]
   exact ⟨k+1,⟨hlt,jwm hx (by simp [ha]) hko⟩,(jl [some 300] (by simp only [go_sem,jy]<;>and_intros<;>first|rfl|assumption|trivial)),by (try dsimp only);omega⟩
 have hlt':¬(k:Int)<l.length:=by omega
 have hko':∀y∈l,(fun x=>!kv x e) y=false:=by rw [List.take_of_length_le (by omega)] at hko;exact hko
 rw [hM (by rw [jnX hko'];omega)]
 simp only [go_sem,jy,hlt',hk,h0k,Nat.le_refl,htd,m1,m2,m3,m4,jsO,hA,m5,m6,jv3,ky]
open Go.RowKit Go.Sort Go.BigFrame
theorem jt9 (y:Yd) (id task tri:Int) (a:Value) (S:List Nat) (w:World) (own:Bool) (ha:AggRep w own (jc y) a S):
 Calls Try.prog 177 #[a,.int .i64 id,.int .i64 task,.int .i64 tri] w fun e1 w'=>e1=.returned (.bool (ja2 y id task tri))∧Below w.heap.size w w':=by
 obtain ⟨_,rfl,ha⟩:=ha;obtain ⟨sv,rv,S1,S2,rfl,ah0,ah1,rfl⟩:=jag ha;clear ha;rcases zq y id task with ⟨hr,ht⟩|⟨k,r,hr,hx,⟨hno,ht⟩|⟨j,t,hj,htx,ht⟩⟩
 ·have HR:=Lib.hid hr
  have HF:Hid (ja2 y id task tri=false):=by unfold ja2;rw [ht];rfl
  clear hr ht
  go_enter Try.func177,Try.ntmps177
  go_wp2_with (go_at_call 82;refine (ci (zr y id _ _ _ own ⟨_,rfl,jeH (upA ah0 _) (upA ah1 _)⟩) HR.out).mono ?_;rintro e1 w1 ⟨rfl,hb1⟩;obtain ⟨hc1,hf1⟩:=jcm hb1)
  go_ret
  exact ⟨jY (by rw [HF.out]),kA ((Below.refl _ _).alloc (by simp) _) hb1⟩
 all_goals
  have HR:=Lib.hid hr;obtain ⟨A,c,rfl,hc1,hc2,hca⟩:=Rep.open_ (size:=8) (enc:=jd) (fun _=>rfl) (by decide) ah1
  have hk:k<y.runs.length:=(List.getElem?_eq_some_iff.1 hx).1;unfold maxLen at hc2;have hl1:y.runs.length≤9223372036854775807:=by omega
  obtain ⟨b1,o1,vk1,T1,rfl,-,hr1,-,-,hbl,hx1⟩:=hca k r hx;clear hca;obtain ⟨v0,v1,U0,U1,rfl,-,hts,-⟩:=jao hr1;have p7:=hx1 7 _ rfl;clear hx1 hr1;obtain ⟨B,d,rfl,hd1,hd2,hdb⟩:=Rep.open_ (size:=4) (enc:=ju) (fun _=>rfl) (by decide) hts
  unfold maxLen at hd2;have hl2:r.tasks.length≤9223372036854775807:=by omega
  have hk0:decide ((k:Int)≥0)=true:=by simp
  have hk1:decide ((k:Int)<0)=false:=by simp
  clear hr hx
 ·clear hdb
  have HF:Hid (ja2 y id task tri=false):=by unfold ja2;rw [ht];rfl
  have HW:Hid (inb task 0 ((r.tasks.length:Int)-1)=false):=vF hno;clear ht hno
  go_enter Try.func177,Try.ntmps177
  go_wp2_with fail
  refine (ci (zr y id _ _ _ own ⟨_,rfl,jeH (upA ah0 _) (upA ah1 _)⟩) HR.out).mono ?_;rintro e1 w1 ⟨rfl,hb1⟩;obtain ⟨hc1,hf1⟩:=jcm hb1;have hBw:Below w.heap.size w w1:=kA ((Below.refl _ _).alloc (by simp) _) hb1
  have p7':=jQ hBw p7;have q3:w1.cell? ⟨w.heap.size,3,none⟩=some (.slice (some ⟨b1,o1,none⟩) y.runs.length c):=(hc1 _ _ (by simp)).trans (by simp [go_sem])
  go_wp2_with (go_at_call 66;refine (cb (vp _ _ _ _) HW.out).mono ?_;rintro e2 w2 ⟨rfl,hb2⟩;obtain ⟨hc2,hf2⟩:=jcm hb2)
  go_ret
  exact ⟨jY (by rw [HF.out]),kA hBw hb2⟩
 ·obtain ⟨b2,o2,vk2,T2,rfl,-,hr2,-,-,hbl2,hx2⟩:=hdb j t htx
  clear hdb;obtain ⟨rfl,rfl⟩:=jjA hr2;have p0:w.cell? ⟨b2,o2+j*4,none⟩=some (.int .i64 t.state):=hx2 0 _ rfl;have p1:=hx2 1 _ rfl;have p2:=hx2 2 _ rfl;have p3:=hx2 3 _ rfl;have hjl:j<r.tasks.length:=(List.getElem?_eq_some_iff.1 htx).1;clear hx2 hr2 htx;subst hj;have HW:Hid (inb (j:Int) 0 ((r.tasks.length:Int)-1)=true):=jb6 (by omega)
  by_cases hst:t.state=3
  ·have hs:(t.state==3)=true:=by simpa using hst
   by_cases htr:t.tri=tri
   all_goals
    first|(have hs2:(t.tri==tri)=true:=by simpa using htr)|(have hs2:(t.tri==tri)=false:=by simpa using htr)
    have HF:=Lib.hid (show ja2 y id j tri=(t.tri==tri) by unfold ja2;rw [ht];simp [hs])
    clear ht hst htr
    go_enter Try.func177,Try.ntmps177
    go_wp2_with fail
    refine (ci (zr y id _ _ _ own ⟨_,rfl,jeH (upA ah0 _) (upA ah1 _)⟩) HR.out).mono ?_;rintro e1 w1 ⟨rfl,hb1⟩;obtain ⟨hc1,hf1⟩:=jcm hb1;have hBw:Below w.heap.size w w1:=kA ((Below.refl _ _).alloc (by simp) _) hb1
    have p7':=jQ hBw p7;have q3:w1.cell? ⟨w.heap.size,3,none⟩=some (.slice (some ⟨b1,o1,none⟩) y.runs.length c):=(hc1 _ _ (by simp)).trans (by simp [go_sem])
    go_wp2_with fail
    refine (cb (vp _ _ _ _) HW.out).mono ?_;rintro e2 w2 ⟨rfl,hb2⟩;obtain ⟨hc2,hf2⟩:=jcm hb2
    replace p7':=jQ hb2 p7'
    replace q3:=jQ hb2 q3
    have p0':=jQ hb2 (jQ hBw p0);have p1':=jQ hb2 (jQ hBw p1);have p2':=jQ hb2 (jQ hBw p2);have p3':=jQ hb2 (jQ hBw p3)
    go_wp2
    go_ret
    exact ⟨jY (by rw [HF.out,hs2]),by repeat (first|(with_reducible exact kA hBw hb2)|((with_reducible refine Below.alloc ?_ ?_ _);rotate_left;focus (exact (kA hBw hb2).size)))⟩
  ·have hs:(t.state==3)=false:=by simpa using hst
   have HF:=Lib.hid (show ja2 y id j tri=false by unfold ja2;rw [ht];simp [hs])
   clear ht hst
   go_enter Try.func177,Try.ntmps177
   go_wp2_with fail
   refine (ci (zr y id _ _ _ own ⟨_,rfl,jeH (upA ah0 _) (upA ah1 _)⟩) HR.out).mono ?_;rintro e1 w1 ⟨rfl,hb1⟩;obtain ⟨hc1,hf1⟩:=jcm hb1;have hBw:Below w.heap.size w w1:=kA ((Below.refl _ _).alloc (by simp) _) hb1
   have p7':=jQ hBw p7;have q3:w1.cell? ⟨w.heap.size,3,none⟩=some (.slice (some ⟨b1,o1,none⟩) y.runs.length c):=(hc1 _ _ (by simp)).trans (by simp [go_sem])
   go_wp2_with fail
   refine (cb (vp _ _ _ _) HW.out).mono ?_;rintro e2 w2 ⟨rfl,hb2⟩;obtain ⟨hc2,hf2⟩:=jcm hb2
   replace p7':=jQ hb2 p7'
   replace q3:=jQ hb2 q3
   have p0':=jQ hb2 (jQ hBw p0);have p1':=jQ hb2 (jQ hBw p1);have p2':=jQ hb2 (jQ hBw p2);have p3':=jQ hb2 (jQ hBw p3)
   go_wp2
   go_ret
   exact ⟨jY (by rw [HF.out]),by repeat (first|(with_reducible exact kA hBw hb2)|((with_reducible refine Below.alloc ?_ ?_ _);rotate_left;focus (exact (kA hBw hb2).size)))⟩
section
variable {P:Program} {f:FuncId}
theorem pure4 {v1 v2 v3 v4:View} {u:Value} (hn:jmo P f) (h:∀w a b c d,ViewRel w v1 a→ViewRel w v2 b→ViewRel w v3 c→ViewRel w v4 d→Calls P f #[a,b,c,d] w fun e w'=>e=.returned u∧Below w.heap.size w w'):kl P f [v1,v2,v3,v4] (.c (.val u)):=by
 refine ⟨hn,fun w xs hv=>?_⟩
 obtain ⟨a,_,rfl,h1,b,_,rfl,h2,c,_,rfl,h3,d,_,rfl,h4,h5⟩:=hv;rw [show _=_ from h5]
 exact (h w a b c d h1 h2 h3 h4).mono fun e w' ⟨he,hb⟩=>⟨u,[],he,⟨rfl,rfl⟩,Fresh.nil _,hb⟩
end
theorem jlj (y:Yd) (id task tri:Int):kl Try.prog 177 [.agg (jc y),.c (.val (.int .i64 id)),.c (.val (.int .i64 task)),.c (.val (.int .i64 tri))] (.c (.val (.bool (ja2 y id task tri)))):=
 pure4 ⟨_,Try.func177,by kernel_rfl,by kernel_rfl⟩ fun w a b c d ⟨S,ha⟩ hb hc hd=>by rw [jbU hb,jbU hc,jbU hd];exact jt9 y id task tri a S w false ha
open Classical in
noncomputable def jgE (y:Yd) (id task tri:Int):Int:=if jJ y=false then 8 else if runAt y id<0 then 10 else if ja2 y id task tri=false then 11 else 0
def jek:C:=iS [iA 4 (.box 42 4 (.t 0)),iA 8 (iN 0)] (.seq (.blk 0 (iS [iA 10 (iT 4 4),iA 11 (.call 45 [.t 10]),iA 12 (iU 11),iA 9 (iM 12)] (iD 9 (iS [iA 8 (iN 8)] .ret) (iS [iA 14 (iT 4 4),iA 15 (iM 1),iA 16 (.call 82 [.t 14,.t 15]),iA 17 (iQ .lss 3 16 0),iA 13 (iM 17)] (iD 13 (iS [iA 8 (iN 10)] .ret) (iS [iA 19 (iT 4 4),iA 20 (iM 1),iA 21 (iM 2),iA 22 (iM 3),iA 23 (.call 177 [.t 19,.t 20,.t 21,.t 22]),iA 24 (iU 23),iA 18 (iM 24)] (iD 18 (iS [iA 8 (iN 11)] .ret) .skip))))))) (iS [iA 8 (iN 0)] .ret))
theorem jgl:fnC Try.prog Try.f167=some (jek,[.t 8],25):=by kernel_rfl
theorem jdJ (y:Yd) (id task tri:Int) (ht:jS y≤2000000):kl Try.prog 167 [.agg (jc y),.c (.val (.int .i64 id)),.c (.val (.int .i64 task)),.c (.val (.int .i64 tri))] (.c (.val (.int .i64 (jgE y id task tri)))):=by
 refine jr Try.func167 jgl (by simp) ?_
 unfold jek;simp only [go_sem,jc];intro b4;refine jb (kE y ht) (by simp only [go_sem,jc]) fun η=>?_
 simp only [go_sem,jc];cases hok:jJ y
 ·have hc:jgE y id task tri=8:=by simp [jgE,hok]
  simp only [go_sem,jc,hok,hc]
 simp only [go_sem,jc,hok];refine jb (kF y id) (by simp only [go_sem,jc]) fun η=>?_
 simp only [go_sem,jc];by_cases hneg:runAt y id<0
 ·have hc:jgE y id task tri=10:=by simp [jgE,hok,hneg]
  simp only [go_sem,jc,hneg,hc]
 simp only [go_sem,jc,hneg];refine jb (jlj y id task tri) (by simp only [go_sem,jc]) fun η=>?_
 simp only [go_sem,jc];cases hh:ja2 y id task tri
 ·have hc:jgE y id task tri=11:=by simp [jgE,hok,hneg,hh]
  simp only [go_sem,jc,hh,hc]
 ·have hc:jgE y id task tri=0:=by simp [jgE,hok,hneg,hh]
  simp only [go_sem,jc,hh,hc]
theorem jtu {y:Yd} {id task tri:Int} (h:jgE y id task tri=0):YardOkP y∧¬runAt y id<0:=by
 unfold jgE at h;split at h
 ·cases h
 split at h
 ·cases h
 rename_i h1 h2;exact ⟨yard_iff.1 (by simpa using h1),h2⟩
def C.sub:List Nat→C→C
 |[],c=>c
 |0::p,.seq a _=>a.sub p
 |_::p,.seq _ b=>b.sub p
 |0::p,.cond _ a _=>a.sub p
 |_::p,.cond _ _ b=>b.sub p
 |_::p,.blk _ a=>a.sub p
 |_::p,.loop a=>a.sub p
 |_,c=>c
section
variable {s:St}
def resT (s:St) (rs:List R) (K:List (Bool×List A0)→Prop):AV→Prop
 |.agg l=>jgK s rs fun ps=>K ((true,l)::ps)
 |.c a=>jgK s rs fun ps=>K ((false,[a])::ps)
 |_=>False
def resC (s:St) (agg:Bool) (size:Nat) (rs:List R) (K:List (Bool×List A0)→Prop):AV→Prop
 |.c (.bp g c b)=>ldB (s.o g) g c b size fun l=>(agg=true∨l.length=1)∧jgK s rs fun ps=>K ((agg,l)::ps)
 |_=>False
theorem zR (rs:List R) (rt:RT):jqv rs rt s=jgK s rs fun ps=>zH rt ps∧kM s (ps.flatMap (·.2)) fun cs _=>IsD cs rt.flat:=rfl
theorem kn (K:List (Bool×List A0)→Prop):jgK s [] K=K []:=rfl
theorem ji2 (n:Nat) (rs:List R) (K:List (Bool×List A0)→Prop):jgK s (.t n::rs) K=resT s rs K (s.t n):=by
 simp only [jgK,resT];split<;>simp_all
theorem ji1 (rs:List R) (K:List (Bool×List A0)→Prop) (a:A0):resT s rs K (.c a)=jgK s rs fun ps=>K ((false,[a])::ps):=rfl
theorem jZ (agg:Bool) (size:Nat) (rs:List R) (K:List (Bool×List A0)→Prop) (g c b:Nat):resC s agg size rs K (.c (.bp g c b))=ldB (s.o g) g c b size fun l=>(agg=true∨l.length=1)∧jgK s rs fun ps=>K ((agg,l)::ps):=rfl
theorem jD (n:Nat) (agg:Bool) (size:Nat) (rs:List R) (K:List (Bool×List A0)→Prop) (h:resC s agg size rs K (s.t n)):jgK s (.cell n agg size::rs) K:=by
 unfold resC at h;split at h
 ·rename_i g c b he
  simp only [ldB] at h;split at h
  ·rename_i b' ty cs ho
   obtain ⟨e1,e2,e3,e4⟩:=h;subst e1;simp only [jgK,he];exact ⟨_,⟨ty,cs,ho,e2,rfl⟩,e3,e4⟩
  ·exact h.elim
 ·exact h.elim
theorem jX (l:List (Bool×List D)) (ps:List (Bool×List A0)):zH (.tup l) ps=(ps.length≠1∧ps.map (fun p=>(p.1,p.2.length))=l.map (fun p=>(p.1,p.2.length))):=rfl
end
def vU (l:List En):List En:=l.take ((l.length+1)/2)
def jbt (l:List En):List En:=l.drop ((l.length+1)/2)
def jet:C:=iS [iA 2 (.mov (.c (.slice none 0 0))),iA 3 (.mov (.c (.slice none 0 0)))] (iS [iA 5 (iM 0),iA 6 (iG 5),iA 7 (iQ .add 3 6 1),iA 8 (iQ .quo 3 7 2),iA 4 (iM 8)] (.seq (.dreg (T.pure 1 (iA 10 (iM 0)) (T.pure 2 (iA 11 (iM 4)) (T.pure 3 (iA 12 (.sl 4 (.t 10) none (some (.t 11)))) (T.pure 6 (iA 15 (iM 0)) (T.pure 7 (iA 16 (iM 4)) (T.pure 8 (iA 17 (.sl 4 (.t 15) (some (.t 16)) none)) (T.alt (iA 9 (.bsl 82 4 0 [] [])) [8,7,6,3,2,1] (T.alt (iA 13 (.app 82 4 32 (.t 9) (.t 12))) [8,7,6] (T.alt (iA 14 (.bsl 82 4 0 [] [])) [8,7,6,3,2,1] (T.alt (iA 18 (.app 82 4 32 (.t 14) (.t 17))) [] (T.pure 10 (iA 2 (iM 13)) (T.pure 11 (iA 3 (iM 18)) T.done)) T.stop) T.stop) (T.alt (iA 14 (.bsl 82 4 0 [] [])) [8,7,6,3,2,1] (T.alt (iA 13 (.app 82 4 32 (.t 9) (.t 12))) [8,7,6] (T.alt (iA 18 (.app 82 4 32 (.t 14) (.t 17))) [] (T.pure 10 (iA 2 (iM 13)) (T.pure 11 (iA 3 (iM 18)) T.done)) T.stop) T.stop) T.stop)) (T.alt (iA 14 (.bsl 82 4 0 [] [])) [8,7,6,3,2,1] (T.alt (iA 9 (.bsl 82 4 0 [] [])) [8,7,6,3,2,1] (T.alt (iA 13 (.app 82 4 32 (.t 9) (.t 12))) [8,7,6] (T.alt (iA 18 (.app 82 4 32 (.t 14) (.t 17))) [] (T.pure 10 (iA 2 (iM 13)) (T.pure 11 (iA 3 (iM 18)) T.done)) T.stop) T.stop) T.stop) T.stop))))))))) .ret))
theorem jgu:fnC Try.prog Try.f163=some (jet,[.t 2,.t 3],19):=by kernel_rfl
theorem jjY (l:List En) (hl:l.length≤4000000):kl Try.prog 163 [.c (jv l)] (.tup [(false,[jv (vU l)]),(false,[jv (jbt l)])]):=by
 refine jr Try.func163 jgu (by simp) ?_
 unfold jet;have hw:IntKind.i64.wrap ((l.length:Int)+1)=(l.length:Int)+1:=jg (by omega) (by omega)
 have hq:IntKind.i64.wrap (((l.length:Int)+1).tdiv 2)=(((l.length+1)/2:Nat):Int):=by
  rw [Int.tdiv_eq_ediv_of_nonneg (by omega)];exact jg (by omega) (by omega)|>.trans (by omega)
 have hn:(l.length+1)/2≤l.length∨l.length=0:=by omega
 have hn2:(l.length+1)/2≤l.length:=by omega
 unfold vU jbt;generalize (l.length+1)/2=n at*;have h0n:(n:Int)≥0:=by omega
 have m1:(l.take n).length≤maxLen:=by unfold maxLen;rw [List.length_take];omega
 have m2:(l.take n).length*32≤140737488355328:=by rw [List.length_take];omega
 have m3:(l.drop n).length≤maxLen:=by unfold maxLen;rw [List.length_drop];omega
 have m4:(l.drop n).length*32≤140737488355328:=by rw [List.length_drop];omega
 have htd:(l.drop n).take (l.length-n)=l.drop n:=List.take_of_length_le (by rw [List.length_drop];omega)
 simp only [go_sem,hw,hq,hn2,h0n,Nat.le_refl,htd,m1,m2,m3,m4,ky];simp only [go_sem,zR,ji2,ji1,kn,jX]
def qH (a b:List En):List En:=if a.length+b.length>80 then a else b.foldl jdc a
theorem jjP:∀(b a:List En),(b.foldl jdc a).length=a.length+b.length
 |[],a=>by simp
 |e::b,a=>by rw [List.foldl_cons,jjP b,jnW,List.length_cons];omega
theorem jpM (a b:List En):(qH a b).length≤a.length+b.length:=by
 unfold qH;split
 ·omega
 ·rw [jjP];exact Nat.le_refl _
theorem jrE {b:List En} {k:Nat} {e:En} (h:b[k]?=some e) (a:List En):(b.take (k+1)).foldl jdc a=jdc ((b.take k).foldl jdc a) e:=by
 rw [List.take_add_one,h];simp
def jer:C:=iS [iA 4 (.mov (.c (.slice none 0 0)))] (iS [iA 7 (.bsl 82 4 0 [] []),iA 8 (iM 0),iA 9 (.app 82 4 32 (.t 7) (.t 8)),iA 5 (iM 9)] (.seq (iS [iA 10 (iM 0),iA 11 (iG 10),iA 12 (iM 1),iA 13 (iG 12),iA 14 (iP .add 3 11 13),iA 15 (iQ .gtr 3 14 80)] (iD 15 (iS [iA 16 (iM 5),iA 4 (iM 16)] .ret) .skip)) (.seq (iS [iA 6 (iN 0)] (.blk 0 (.loop (.seq (iS [iA 17 (iM 6),iA 18 (iM 1),iA 19 (iG 18),iA 20 (iP .lss 3 17 19)] (iD 20 .skip (.exit 0))) (.seq (.blk 1 (.reg [iA 23 (iM 5),iA 24 (iM 1),iA 25 (iM 6),iA 26 (iI 4 24 25),iA 27 (iT 4 26),iA 28 (.call 176 [.t 23,.t 27]),iA 5 (iM 28)])) (.reg [iA 21 (iM 6),iA 22 (iQ .add 3 21 1),iA 6 (iM 22)])))))) (iS [iA 29 (iM 5),iA 4 (iM 29)] .ret))))
theorem jgs:fnC Try.prog Try.f164=some (jer,[.t 4],30):=by kernel_rfl
theorem jjW (a b:List En) (hl:a.length+b.length≤4000000):kl Try.prog 164 [.c (jv a),.c (jv b)] (.c (jv (qH a b))):=by
 refine jr Try.func164 jgs (by simp) ?_
 unfold jer;have m1:a.length≤maxLen:=by unfold maxLen;omega
 have m2:a.length*32≤140737488355328:=by omega
 have hw:IntKind.i64.wrap ((a.length:Int)+b.length)=((a.length+b.length:Nat):Int):=by rw [jg (by omega) (by omega)];omega
 simp only [go_sem,m1,m2,ky];intro η0 η1;by_cases hgt:a.length+b.length>80
 ·have hgt':((a.length+b.length:Nat):Int)>80:=by omega
  have e:qH a b=a:=if_pos hgt;simp only [go_sem,hw,hgt',e,ky]
 have hgt':¬((a.length+b.length:Nat):Int)>80:=by omega
 have e:qH a b=b.foldl jdc a:=if_neg hgt;simp only [go_sem,hw,hgt'];refine jq (fun i:Nat×jm=>St.of [(1,Ro (jv b)),(5,Hd 5 i.2),(6,Ni i.1)] [(5,.loose (jv ((b.take i.1).foldl jdc a)) i.2)]) (fun i=>i.1≤b.length) (fun i=>b.length-i.1) (0,η1) (by (try dsimp only);first|omega|(simp;done)|(and_intros<;>first|omega|simp)) (jl [some 900] (by simp only [go_sem,List.take_zero,List.foldl_nil,ky]<;>and_intros<;>first|rfl|assumption|trivial)) ?_
 rintro ⟨k,η⟩ hk;dsimp only at hk;by_cases hlt:k<b.length
 ·have hlt':(k:Int)<b.length:=by omega
  have h0k:(k:Int)≥0:=by omega
  obtain ⟨x,hx⟩:=je hlt;have hwk:IntKind.i64.wrap ((k:Int)+1)=((k+1:Nat):Int):=jg (by omega) (by omega)
  have hnx:=jrE hx a;have hln:=jjP (b.take k) a;rw [List.length_take] at hln;generalize (b.take k).foldl jdc a=L at*;simp only [go_sem,hlt',hlt,h0k,ke hx,jy];refine jb (ze L x (by omega)) (by simp only [go_sem,jy]) fun ηp=>?_
  simp only [go_sem,jy];simp only [go_sem,hwk];exact ⟨(k+1,ηp 0),by (try dsimp only);first|omega|assumption|(and_intros<;>first|omega|assumption),(jl [some 2800] (by simp only [go_sem,hnx]<;>and_intros<;>first|rfl|assumption|trivial)),by (try dsimp only);omega⟩
 have hlt':¬(k:Int)<b.length:=by omega
 rw [List.take_of_length_le (by omega),e]
 simp only [go_sem,hlt']
def jwn (l:List En):En:=l.headD ⟨0,0,0,0⟩
def jmv (l:List En):Bool:=!l.isEmpty
def jaT:C:=iS [iA 2 (.alloc 82 [.int .i64 0,.int .i64 0,.int .i64 0,.int .i64 0]),iA 3 (.mov (.c (.slice none 0 0))),iA 4 (iO false)] (.seq (iS [iA 5 (iM 0),iA 6 (iG 5),iA 7 (iQ .eql 3 6 0)] (iD 7 (iS [iA 8 (.bld [.int .i64 0,.int .i64 0,.int .i64 0,.int .i64 0] []),iA 9 (.bsl 82 4 0 [] []),iC (.st 4 [none,none,none,none] (.t 2) (.t 8)),iA 3 (iM 9),iA 4 (iO false)] .ret) .skip)) (.seq (.dreg (T.pure 0 (iA 10 (iM 0)) (T.pure 1 (iA 11 (.ia 4 (.t 10) (.c (.int .i64 0)))) (T.pure 2 (iA 12 (iT 4 11)) (T.pure 4 (iA 14 (iM 0)) (T.pure 5 (iA 15 (.sl 4 (.t 14) (some (.c (.int .i64 1))) none)) (T.alt (iA 13 (.bsl 82 4 0 [] [])) [5,4,2,1,0] (T.alt (iA 16 (.app 82 4 32 (.t 13) (.t 15))) [2,1,0] (T.alt (iC (.st 4 [none,none,none,none] (.t 2) (.t 12))) [] (T.pure 8 (iA 3 (iM 16)) (T.pure 9 (iA 4 (iO true)) T.done)) T.stop) T.stop) T.stop))))))) .ret))
theorem jdm:fnC Try.prog Try.f165=some (jaT,[.cell 2 true 4,.t 3,.t 4],17):=by kernel_rfl
theorem jaL (l:List En) (hl:l.length≤4000000):kl Try.prog 165 [.c (jv l)] (.tup [(true,jy (jwn l)),(false,[jv l.tail]),(false,[.val (.bool (jmv l))])]):=by
 refine jr Try.func165 jdm (by simp) ?_
 unfold jaT;cases l with
 |nil=>
  simp only [go_sem,jy,jwn,jmv,List.headD_nil,List.isEmpty_nil,List.tail_nil];intro b2 η0;simp only [zR];refine jD _ _ _ _ _ ?_;simp only [go_sem,jZ,ji2,ji1,kn,jX,true_or,jeV]
 |cons x l=>
  have hle:l.length≤4000000:=by rw [List.length_cons] at hl;omega
  have h0:(x::l)[0]?=some x:=rfl;have h1:(((l.length+1:Nat):Int)==0)=false:=by simp only [beq_eq_false_iff_ne,ne_eq];omega
  have h2:1≤l.length+1:=by omega
  have h3:0<l.length+1:=by omega
  have m1:l.length≤maxLen:=by unfold maxLen;omega
  have m2:l.length*32≤140737488355328:=by omega
  have hd:List.take l.length l=l:=List.take_length;simp only [go_sem,jy,jwn,jmv,List.headD_cons,List.isEmpty_cons,List.tail_cons,h1];intro b2;simp only [go_sem,h2,h3,ke h0,jy,hd,Nat.le_refl,m1,m2,ky,Nat.add_sub_cancel];intro η η1;simp only [zR];refine jD _ _ _ _ _ ?_;simp only [go_sem,jZ,ji2,ji1,kn,jX,true_or]
def jqV (ts:List Tk) (t:Nat) (x:Tk) (til:Int):List Tk:=ts.set t ⟨3,x.need,IntKind.i64.wrap (x.tri+1),til⟩
def kz (r:Rn) (t:Nat) (x:Tk) (now:Int):Rn:=⟨r.id,r.plan,r.state,jqV r.tasks t x (IntKind.i64.wrap (now+r.plan.wait))⟩
def jac:C:=iS [iA 3 (.box 78 8 (.t 0)),iA 6 (.alloc 78 [.int .i64 0,.int .i64 0,.int .i64 0,.int .i64 0,.int .i64 0,.slice none 0 0,.int .i64 0,.slice none 0 0])] (iS [iA 9 (iT 8 3),iA 10 (.call 157 [.t 9]),iA 7 (.alloc 78 [.int .i64 0,.int .i64 0,.int .i64 0,.int .i64 0,.int .i64 0,.slice none 0 0,.int .i64 0,.slice none 0 0]),iC (.st 8 [none,none,none,none,none,some (2,103),none,some (4,84)] (.t 7) (.t 10))] (iS [iA 11 (iF 7 7),iA 12 (iL 11),iA 13 (iM 1),iA 14 (iI 4 12 13),iA 15 (iT 4 14),iA 8 (.alloc 84 [.int .i64 0,.int .i64 0,.int .i64 0,.int .i64 0]),iC (.st 4 [none,none,none,none] (.t 8) (.t 15))] (iS [iA 16 (iF 0 8),iC (.st 1 [none] (.t 16) (.c (.int .i64 3)))] (iS [iA 17 (iF 2 8),iA 18 (iL 17),iA 19 (iQ .add 3 18 1),iA 20 (iF 2 8),iC (.st 1 [none] (.t 20) (.t 19))] (iS [iA 21 (iM 2),iA 22 (iF 1 3),iA 23 (iF 2 22),iA 24 (iL 23),iA 25 (iP .add 3 21 24),iA 26 (iF 3 8),iC (.st 1 [none] (.t 26) (.t 25))] (iS [iA 27 (iF 7 7),iA 28 (iL 27),iA 29 (iM 1),iA 30 (iT 4 8),iA 31 (iI 4 28 29),iC (.st 4 [none,none,none,none] (.t 31) (.t 30))] (iS [iA 32 (iT 8 7),iC (.st 8 [none,none,none,none,none,some (2,103),none,some (4,84)] (.t 6) (.t 32))] .ret)))))))
theorem jcj:fnC Try.prog Try.f166=some (jac,[.cell 6 true 8],33):=by kernel_rfl
theorem jeS (r:Rn) (t:Nat) (x:Tk) (now:Int) (hx:r.tasks[t]?=some x) (hsz:r.plan.edges.length≤4000000) (ht:r.tasks.length≤4000000):kl Try.prog 166 [.agg (jd r),.c (.val (.int .i64 t)),.c (.val (.int .i64 now))] (.agg (jd (kz r t x now))):=by
 refine jr Try.func166 jcj (by simp) ?_
 unfold jac;have htl:=(List.getElem?_eq_some_iff.1 hx).1;have h0t:(t:Int)≥0:=by omega
 simp only [go_sem,jd,ja];intro b3 b6;refine jb (qw r hsz ht) (by simp only [go_sem,jd,ja]) fun ηc=>?_
 simp only [go_sem,jd,ja];intro b7;simp only [go_sem,Nat.add_zero,htl,h0t,jql hx,jgf hx,ju,kz,jqV,jap 3 x.need (IntKind.i64.wrap (x.tri+1)) (IntKind.i64.wrap (now+r.plan.wait)) htl]
end Go.Proofs.Ytmnpailnelmpiaa
