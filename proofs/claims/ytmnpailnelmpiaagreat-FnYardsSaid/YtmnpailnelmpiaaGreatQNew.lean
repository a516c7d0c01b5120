/- Parts. -/
import Derived.Test.YtmnpailnelmpiaaGreatQKeepD
set_option linter.unusedSimpArgs false
set_option linter.unusedVariables false
set_option maxHeartbeats 8000000
set_option maxRecDepth 100000
namespace Go.Proofs.YtmnpailnelmpiaaGreat
open Go.RowKit Go.Sort Go.BigFrame
def newYd:Yd:=⟨0,1,List.replicate 4 [],[]⟩
theorem jrN (w:World):Calls Tryz.prog 58 #[] w (juW w (jb newYd)):=by
 go_enter Tryz.func58,Tryz.ntmps58
 go_wp2_with (at_make;refine jiv (enc:=(fun es=>[jm es])) rfl _ _ rfl jzo ([]:List En) zEnS .i64 .i64 4 4 4 rfl rfl rfl rfl (by omega) (by unfold maxLen;omega) ?_;intro w1 A1 hr1 hb1;obtain ⟨hc1,hf1⟩:=zI hb1;(have hz1:=hb1.size);simp at hz1;(have hx1:=(by omega:w.heap.size<w1.heap.size)))
 refine bodyPost_ret (v:=.agg #[.int .i64 0,.int .i64 1,.slice A1 4 4,.slice none 0 0]) (by simp [results,Tryz.results58,go_sem,hc1]) rfl ?_
 refine ⟨_,[w.heap.size+1],rfl,⟨_,rfl,jaq (y:=newYd) (S1:=[w.heap.size+1]) (S2:=[]) ?_ ?_⟩,?_,?_⟩
 ·have hr1':Rep w1 true (kw newYd.shelf) (.slice A1 4 4) [w.heap.size+1]:=by have h:=hr1;simp at h;exact h
  repeat (first|(with_reducible exact hr1')|((with_reducible refine jlX ?_ ?_);rotate_left;focus (intro b hb;simp at hb⊢;omega)))
 ·exact Rep.nil_ _ _ _
 ·exact ⟨by simp,by simp⟩
 ·repeat (first|(with_reducible exact Below.refl _ _)|(with_reducible assumption)|((with_reducible refine Below.alloc ?_ ?_ _);rotate_left;focus (simp;try omega))|((with_reducible refine Below.setCell ?_ ?_ _);rotate_left;focus (simp;try omega))|(with_reducible refine kq ?_ (by assumption)))
theorem jkF {S:List Nat} {w w1 w':World} (ho:Only S w1 w') (hb:Below w.heap.size w w1) {b:Nat} (h:b<w.heap.size) (hS:b∉S):(∀o,w'.cell? ⟨b,o,none⟩=w.cell? ⟨b,o,none⟩)∧(∀o,w'.frozen? ⟨b,o,none⟩=w.frozen? ⟨b,o,none⟩):=by
 have e:w'.heap[b]?=w.heap[b]?:=(ho.block b (Nat.lt_of_lt_of_le h hb.size) hS).trans (hb.block b h);exact ⟨fun o=>World.cell?_of_block (w:=w) (a:=⟨b,o,none⟩) e,fun o=>World.frozen?_of_block (w:=w) (a:=⟨b,o,none⟩) e⟩
theorem js9 (w:World):Rep (w.alloc (.cells #[] tEn)) true (jm []) (.slice (some ⟨w.heap.size,0,none⟩) 0 0) [w.heap.size]:=
 Rep.of_own (size:=4) (enc:=jf) (xs:=[]) (World.ownsRow_made w #[] 0 (Nat.zero_le _) (by unfold maxLen;omega) rfl) RepL.nil_
theorem jvJ (w:World) {o:Obj} {x:Value} {t:TypeId}:∀ad,(some ⟨w.heap.size+1,0,none⟩:Option Addr)=some ad→∀j u,[x][j]?=some u→((w.alloc o).alloc (.cells #[x] t)).cell? (ad.add j)=some u:=by
 intro ad h j u hu;cases h
 obtain rfl:j=0:=by
  have:=(List.getElem?_eq_some_iff.1 hu).1;simpa using this
 simp at hu;subst hu;simp [go_sem,Addr.add]
set_option maxRecDepth 4000 in
theorem jq7 (w:World):Calls Tryz.prog 279 #[] w (juW w (jb newYd)):=by
 go_enter Tryz.func279,Tryz.ntmps279
 go_wp2
 go_loopw [2] (fun i wr=>∃(k:Nat) (sv:Value) (S:List Nat),k≤4∧i=.int .i64 k∧Rep wr true (kw (List.replicate k [])) sv S∧Fresh (w.heap.size+2) S∧Below w.heap.size w wr∧w.heap.size+2≤wr.heap.size∧
  wr.cell? ⟨w.heap.size+1,0,none⟩=some (.int .i64 0)∧wr.cell? ⟨w.heap.size+1,1,none⟩=some (.int .i64 1)∧wr.cell? ⟨w.heap.size+1,2,none⟩=some sv∧wr.cell? ⟨w.heap.size+1,3,none⟩=some (.slice none 0 0)∧wr.frozen? ⟨w.heap.size+1,2,none⟩=false∧
  (∃u,wr.cell? ⟨w.heap.size,0,none⟩=some u)∧(∃u,wr.cell? ⟨w.heap.size,1,none⟩=some u)∧(∃u,wr.cell? ⟨w.heap.size,2,none⟩=some u)∧(∃u,wr.cell? ⟨w.heap.size,3,none⟩=some u)∧
  wr.frozen? ⟨w.heap.size,0,none⟩=false∧wr.frozen? ⟨w.heap.size,1,none⟩=false∧wr.frozen? ⟨w.heap.size,2,none⟩=false∧wr.frozen? ⟨w.heap.size,3,none⟩=false) (fun i _=>4-(intOf i).toNat)
 case atStart=>
  refine ⟨0,_,[],by omega,rfl,Rep.nil_ _ _ _,Fresh.nil _,?_,by simp,?_⟩
  ·repeat (first|(with_reducible exact Below.refl _ _)|(with_reducible assumption)|((with_reducible refine Below.alloc ?_ ?_ _);rotate_left;focus (simp;try omega))|((with_reducible refine Below.setCell ?_ ?_ _);rotate_left;focus (simp;try omega)))
  ·simp [go_sem]
 case round=>
  obtain ⟨k,sv,S,hk,rfl,hrep,hF,hbel,hsz,c0,c1,c2,c3,f2,⟨u0,r0⟩,⟨u1,r1⟩,⟨u2,r2⟩,⟨u3,r3⟩,g0,g1,g2,g3⟩:=hrel;by_cases hlt:k<4
  ·have hbox:w.heap.size+1∉S:=fun h=>by have:=hF.2 _ h;omega
   have hres:w.heap.size∉S:=fun h=>by have:=hF.2 _ h;omega
   obtain ⟨A0,n0,m0,rfl⟩:=Rep.form hrep
   go_wp2_with ((with_reducible refine jn5 (.tmp 9) (.tmp 11) ?_);refine jaW (enc:=(fun es=>[jm es])) (xs:=List.replicate k ([]:List En)) (ys:=[[]]) rfl _ _ rfl jzo (fun _=>rfl) rfl (upA (upA hrep _) _) (some ⟨wr.heap.size+1,0,none⟩) 1 1 [.slice (some ⟨wr.heap.size,0,none⟩) 0 0] rfl (RepL.cons_ (upA (js9 wr) _) RepL.nil_) rfl (by simp) (jvJ wr) jrV (w.heap.size+2) (by simp;omega) (by simpa using Fresh.join hF (Fresh.one wr.heap.size wr.heap.size (Nat.le_refl _)) hsz (fun s hs=>Rep.lt _ hrep s hs)) (by unfold maxLen;simp;omega) (by simp;omega) ?_;intro v' w' S' hrep' hF' ho' _;obtain ⟨A1,n1,m1,rfl⟩:=Rep.form hrep';obtain ⟨hd,hd'⟩:=jkF ho' (upB (upB (Below.refl wr.heap.size wr) _) _) (by omega) hbox;obtain ⟨he,he'⟩:=jkF ho' (upB (upB (Below.refl wr.heap.size wr) _) _) (by omega) hres;(have hz:=ho'.size);simp at hz;(have hz1:=(by omega:w.heap.size+1<w'.heap.size)))
   go_roundw
   case rel=>
    refine ⟨k+1,.slice A1 n1 m1,S',by omega,by go_num,?_,hF',?_,by simp;omega,?_⟩
    ·refine jlX ?_ (fun b hb=>by have:=hF'.2 b hb;simp;omega)
     rw [List.replicate_succ'];exact hrep'
    ·exact ((upB (upB hbel _) _).trans (ho'.below (fun s hs=>by have:=hF.2 s hs;omega) (by simp;omega))).setCell (by simp) _
    ·simp [go_sem,hd,hd',he,he',c0,c1,c2,c3,f2,r0,r1,r2,r3,g0,g1,g2,g3]
   case measure=>simp [intOf];omega
  ·obtain rfl:k=4:=by omega
   obtain ⟨A0,n0,m0,rfl⟩:=Rep.form hrep
   go_wp2
   refine bodyPost_ret (v:=.agg #[.int .i64 0,.int .i64 1,.slice A0 n0 m0,.slice none 0 0]) (by simp [results,Tryz.results279,go_sem,r0,r1,r2,r3]) rfl ?_
   refine ⟨_,S++[],rfl,⟨_,rfl,jaq (y:=newYd) ?_ (Rep.nil_ _ _ _)⟩,?_,?_⟩
   ·have hrep4:Rep wr true (kw newYd.shelf) (.slice A0 n0 m0) S:=hrep
    repeat (first|(with_reducible exact hrep4)|((with_reducible refine jlX ?_ ?_);rotate_left;focus (intro b hb;have:=hF.2 b hb;simp;try omega)))
   ·rw [List.append_nil];exact hF.mono (by omega)
   ·repeat (first|(with_reducible assumption)|((with_reducible refine Below.setCell ?_ ?_ _);rotate_left;focus (simp;try omega)))
abbrev Cu:=Nat×Int
def jqI (a b:Int):Int:=IntKind.i64.wrap ((BitVec.ofInt 64 a&&&BitVec.ofInt 64 b).toNat)
theorem jBf (a:Int) (m:Nat) (hm:m<2^62):0≤jqI a (m:Int)∧jqI a (m:Int)≤m:=by
 have h2:(BitVec.ofInt 64 a&&&BitVec.ofInt 64 (m:Int)).toNat≤m:=by
  rw [BitVec.toNat_and,BitVec.ofInt_natCast,BitVec.toNat_ofNat,Nat.mod_eq_of_lt (a:=m) (by omega)]
  exact Nat.and_le_right
 rw [jqI,jg (by omega) (by omega)]
 omega
theorem jmr (a:Int):0≤jqI a 255∧jqI a 255≤255:=jBf a 255 (by decide)
def jnK (h:Int):Int:=IntKind.i64.wrap (IntKind.i64.wrap (h*6364136223846793005)+1442695040888963407)
def jxb (h:Int):Int:=jqI (jqM (h.fdiv (2^33)) (h.fdiv (2^45))) 255
def kK (c:List UInt8) (s:Cu):Int×Cu:=match c[s.1]? with
 |some u=>(jqI (jxb (jnK s.2)+(u.toNat:Int)) 255,(s.1+1,jnK s.2))
 |none=>(jxb (jnK s.2),(s.1,jnK s.2))
theorem zX (c:List UInt8) (s:Cu):0≤(kK c s).1∧(kK c s).1≤255:=by
 unfold kK;split
 ·exact jmr _
 ·exact jmr _
theorem jaJ {c:List UInt8} {s:Cu} (h:s.1≤c.length):(kK c s).2.1≤c.length:=by
 unfold kK;split
 ·rename_i u hu
  have:=(List.getElem?_eq_some_iff.1 hu).1;dsimp only;omega
 ·exact h
def jr (c:List UInt8) (n:Int) (s:Cu):Int×Cu:=
 if n≤0 then (0,s) else if n≤256 then ((kK c s).1.tmod n,(kK c s).2)
 else (((kK c s).1*16777216+(kK c (kK c s).2).1*65536+(kK c (kK c (kK c s).2).2).1*256+(kK c (kK c (kK c (kK c s).2).2).2).1).tmod n,(kK c (kK c (kK c (kK c s).2).2).2).2)
theorem jS (c:List UInt8) {n:Int} (s:Cu) (hn:0<n):0≤(jr c n s).1∧(jr c n s).1<n:=by
 unfold jr;rw [if_neg (by omega)]
 split
 ·have:=zX c s
  exact ⟨Int.tmod_nonneg _ this.1,Int.tmod_lt_of_pos _ hn⟩
 ·refine ⟨Int.tmod_nonneg _ ?_,Int.tmod_lt_of_pos _ hn⟩
  have h1:=zX c s;have h2:=zX c (kK c s).2;have h3:=zX c (kK c (kK c s).2).2;have h4:=zX c (kK c (kK c (kK c s).2).2).2;omega
theorem ju {c:List UInt8} {n:Int} {s:Cu} (h:s.1≤c.length):(jr c n s).2.1≤c.length:=by
 unfold jr;split
 ·exact h
 ·split
  ·exact jaJ h
  ·exact jaJ (jaJ (jaJ (jaJ h)))
def zC (c:List UInt8) (n:Int):Nat→Nat→List Ed→Cu→List Ed×Cu
 |0,_,E,s=>(E,s)
 |f+1,i,E,s=>let m:=jr c 9 s
  if (i:Int)<m.1∧1<n then
   let a:=jr c (n-1) m.2;let b:=jr c (1+a.1) a.2
   zC c n f (i+1) (if (⟨b.1,1+a.1⟩:Ed)∈E then E else E++[⟨b.1,1+a.1⟩]) b.2
  else (E,m.2)
structure EdsI (n:Int) (E:List Ed):Prop where
 nd:E.Nodup
 up:∀e∈E,0≤e.src∧e.src<e.dst∧e.dst<n
theorem EdsI.add {n:Int} {E:List Ed} {e:Ed} (h:EdsI n E) (he:0≤e.src∧e.src<e.dst∧e.dst<n):EdsI n (if e∈E then E else E++[e]):=by
 split
 ·exact h
 ·rename_i hn
  refine ⟨List.nodup_append.2 ⟨h.nd,by simp,fun x hx y hy e1=>?_⟩,fun x hx=>?_⟩
  ·simp at hy;subst hy;subst e1;exact hn hx
  ·rcases List.mem_append.1 hx with hx|hx
   ·exact h.up x hx
   ·simp at hx;subst hx;exact he
theorem jjh (c:List UInt8) (n:Int):∀(f i:Nat) (E:List Ed) (s:Cu),EdsI n E→EdsI n (zC c n f i E s).1∧(zC c n f i E s).1.length≤E.length+f
 |0,i,E,s,h=>⟨h,Nat.le_refl _⟩
 |f+1,i,E,s,h=>by
  rw [zC];dsimp only;split
  ·rename_i hc
   have ha:=jS c (n:=n-1) (jr c 9 s).2 (by omega)
   have hb:=jS c (n:=1+(jr c (n-1) (jr c 9 s).2).1) (jr c (n-1) (jr c 9 s).2).2 (by omega)
   obtain ⟨h1,h2⟩:=jjh c n f (i+1) _ (jr c (1+(jr c (n-1) (jr c 9 s).2).1) (jr c (n-1) (jr c 9 s).2).2).2 (h.add (e:=⟨_,_⟩) ⟨hb.1,hb.2,by dsimp only;omega⟩)
   refine ⟨h1,Nat.le_trans h2 ?_⟩;split
   ·omega
   ·simp;omega
  ·exact ⟨h,by dsimp only;omega⟩
theorem jnJ (c:List UInt8) (n:Int):∀(f i:Nat) (E:List Ed) (s:Cu),s.1≤c.length→(zC c n f i E s).2.1≤c.length
 |0,i,E,s,h=>h
 |f+1,i,E,s,h=>by
  rw [zC];dsimp only;split
  ·exact jnJ c n f _ _ _ (ju (ju (ju h)))
  ·exact ju h
def jb4 (c:List UInt8) (s:Cu):Pl×Cu:=
 let a:=jr c 4 s;let b:=jr c 3 a.2;let w:=jr c 4 b.2;let t:=jr c 6 w.2;let o:=jr c 10 t.2
 let n:=if o.1=0 then 12 else 1+t.1
 let e:=zC c n 9 0 [] o.2
 (⟨a.1,1+b.1,1+w.1,n,e.1⟩,e.2)
theorem rc_up {n:Int} {E:List Ed} (h:EdsI n E) {a b:Int} (hr:Rc E a b):a<b:=by
 induction hr with
 |one he=>obtain ⟨e,h1,h2,h3⟩:=he;have:=h.up e h1;omega
 |step _ he ih=>obtain ⟨e,h1,h2,h3⟩:=he;have:=h.up e h1;omega
theorem jwk (c:List UInt8) (s:Cu):jw (jb4 c s).1=0:=by
 unfold jb4;dsimp only;have h1:=jS c (n:=4) s (by decide)
 generalize jr c 4 s=a at*;have h2:=jS c (n:=3) a.2 (by decide)
 generalize jr c 3 a.2=b at*;have h3:=jS c (n:=4) b.2 (by decide)
 generalize jr c 4 b.2=w at*;have h4:=jS c (n:=6) w.2 (by decide)
 generalize jr c 6 w.2=t at*;generalize jr c 10 t.2=o at*;obtain ⟨n,hn⟩:∃n:Int,(if o.1=0 then (12:Int) else 1+t.1)=n:=⟨_,rfl⟩
 rw [hn];have hn12:1≤n∧n≤12:=by rw [←hn];split<;>omega
 obtain ⟨hE,hl⟩:=jjh c n 9 0 [] o.2 ⟨by simp,by simp⟩
 generalize (zC c n 9 0 [] o.2).1=E at*;simp only [List.length_nil] at hl;refine jx7 ?_ ?_ hE.nd fun t _ hr=>by have:=rc_up hE hr;omega
 ·simp only [vF,inB,Bool.or_eq_false_iff,Bool.not_eq_false',decide_eq_true_eq,decide_eq_false_iff_not]
  omega
 ·refine List.any_eq_false.2 fun e he=>?_
  have:=hE.up e he;simp only [jir,inB,Bool.or_eq_true,Bool.not_eq_true',decide_eq_false_iff_not,not_or,Classical.not_not];omega
theorem jwl {c:List UInt8} {s:Cu} (h:s.1≤c.length):(jb4 c s).2.1≤c.length:=jnJ _ _ _ _ _ _ (ju (ju (ju (ju (ju h)))))
def jbg (c:List UInt8):List Rn→Cu→Option (Int×Int×Int)×Cu
 |[],s=>(none,s)
 |r::rs,s=>let l:=qB 3 r.tasks
  if l=[] then jbg c rs s else
   let o:=jr c 5 s
   if o.1=0 then jbg c rs o.2 else
    let k:=jr c l.length o.2
    let t:=(l[k.1.toNat]?).getD 0
    let v:=((r.tasks[t.toNat]?).map (·.tri)).getD 0
    let e:=jr c 8 k.2
    if e.1=0 then let f:=jr c 2 e.2;(some (r.id,t,IntKind.i64.wrap (IntKind.i64.wrap (v-1)+2*f.1)),f.2) else (some (r.id,t,v),e.2)
def qp (c:List UInt8) (y:Yd) (s:Cu):(Int×Int×Int)×Cu:=match jbg c y.runs s with
 |(some x,s)=>(x,s)
 |(none,s)=>let a:=jr c 5 s;let b:=jr c 6 a.2;let d:=jr c 4 b.2;((1+a.1,b.1-1,d.1),d.2)
theorem jjg {c:List UInt8}:∀(rs:List Rn) {s:Cu},s.1≤c.length→(jbg c rs s).2.1≤c.length
 |[],s,h=>h
 |r::rs,s,h=>by
  rw [jbg];dsimp only;split
  ·exact jjg rs h
  ·split
   ·exact jjg rs (ju h)
   ·split
    ·exact ju (ju (ju (ju h)))
    ·exact ju (ju (ju h))
theorem jqp {c:List UInt8} {y:Yd} {s:Cu} (h:s.1≤c.length):(qp c y s).2.1≤c.length:=by
 unfold qp;have:=jjg y.runs h;split
 ·rename_i x s' e;rw [e] at this;exact this
 ·rename_i s' e;rw [e] at this;exact ju (ju (ju this))
theorem jjf {c:List UInt8}:∀(rs:List Rn) {s:Cu} {x:Int×Int×Int} {s':Cu},jbg c rs s=(some x,s')→∃r∈rs,x.1=r.id
 |[],s,x,s',h=>by simp [jbg] at h
 |r::rs,s,x,s',h=>by
  rw [jbg] at h;dsimp only at h;split at h
  ·obtain ⟨r',h1,h2⟩:=jjf rs h;exact ⟨r',by simp [h1],h2⟩
  ·split at h
   ·obtain ⟨r',h1,h2⟩:=jjf rs h;exact ⟨r',by simp [h1],h2⟩
   ·split at h
    ·simp only [Prod.mk.injEq,Option.some.injEq] at h;exact ⟨r,by simp,by rw [←h.1]⟩
    ·simp only [Prod.mk.injEq,Option.some.injEq] at h;exact ⟨r,by simp,by rw [←h.1]⟩
abbrev plZ:Pl:=⟨0,0,0,0,[]⟩
def qz (c:List UInt8) (y:Yd) (s:Cu):Dd×Cu:=
 let k:=jr c 20 s
 if k.1<6 then let w:=jr c 8 k.2;let d:=jr c 7 w.2;(⟨2,0,plZ,0,0,w.1,d.1⟩,d.2)
 else if k.1<10 then let r:=jr c 9 k.2;let p:=jb4 c r.2;(⟨1,1+r.1,p.1,0,0,0,0⟩,p.2)
 else if k.1<15 then let h:=qp c y k.2;(⟨3,h.1.1,plZ,brI h.1.2.1 0 99,brI h.1.2.2 0 99,0,0⟩,h.2)
 else if k.1=15 then let h:=qp c y k.2;(⟨4,h.1.1,plZ,brI h.1.2.1 0 99,brI h.1.2.2 0 99,0,0⟩,h.2)
 else if k.1=16 then (⟨5,0,plZ,0,0,0,0⟩,k.2)
 else if k.1=17 then let r:=jr c 9 k.2;(⟨6,1+r.1,plZ,0,0,0,0⟩,r.2)
 else if k.1=18 then let r:=jr c 9 k.2;(⟨7,1+r.1,plZ,0,0,0,0⟩,r.2)
 else let o:=jr c 3 k.2;if o.1=0 then (⟨8,0,plZ,0,0,0,0⟩,o.2) else (⟨5,0,plZ,0,0,0,0⟩,o.2)
theorem jwp {c:List UInt8} {y:Yd} {s:Cu} (h:s.1≤c.length):(qz c y s).2.1≤c.length:=by
 unfold qz;dsimp only;have h1:=ju (n:=20) h
 repeat' split
 ·exact ju (ju h1)
 ·exact jwl (ju h1)
 ·exact jqp h1
 ·exact jqp h1
 ·exact h1
 ·exact ju h1
 ·exact ju h1
 ·exact ju h1
 ·exact ju h1
noncomputable def zc (c:List UInt8):Nat→List Dd×Yd×Cu→List Dd×Yd×Cu
 |0,x=>x
 |n+1,x=>zc c n (x.1++[(qz c x.2.1 x.2.2).1],doY x.2.1 (qz c x.2.1 x.2.2).1,(qz c x.2.1 x.2.2).2)
noncomputable def jje (c:List UInt8) (s:Cu):Yd×Cu:=(zc c (jr c 26 s).1.toNat ([],newYd,(jr c 26 s).2)).2
def jBq (c:List UInt8):Int:=(c.take 4000).foldl (fun h u=>jqI (IntKind.i64.wrap (IntKind.i64.wrap (IntKind.i64.wrap (h*131)+(u.toNat:Int))+7)) 1073741823) (94701+(c.length:Int))
def jwm (c:List UInt8):Cu:=(0,jBq c)
theorem jkX {l:List UInt8} {k:Nat} {u:UInt8} (h:l[k]?=some u):(jcB l).elem k=[D.val (.int .u8 (u.toNat:Int))]:=by
 have h1:=(List.getElem?_eq_some_iff.1 h).1;simp only [jcB,D.elem,D.cells,D.size,Nat.mul_one,←List.map_drop];rw [List.drop_eq_getElem_cons h1,(List.getElem?_eq_some_iff.1 h).2];rfl
def qn (b ty:Nat) (c:List UInt8) (s:Cu):Ob:=.box b ty [.a (.ro (jcB c)),.a (.v (.int .i64 (s.1:Int))),.a (.v (.int .i64 s.2))]
def jfE:C:=iS [iA 2 (.mov (.c (.pointer none)))] (iS [iA 5 (iM 0),iA 6 (iG 5),iA 7 (.bin .add 3 (.c (.int .i64 94701)) (.t 6)),iA 3 (iM 7)] (.seq (iS [iA 4 (iN 0)] (.blk 0 (.loop (.seq (iS [iA 8 (iM 4),iA 9 (iM 0),iA 10 (iG 9),iA 11 (iP .lss 3 8 10),iA 12 (iM 11),iB 13 12 true (iM 4),iB 14 12 true (iQ .lss 3 13 4000),iA 15 (.pick (.t 12) (.t 14) (.c (.bool false)))] (iD 15 .skip (.exit 0))) (.seq (.blk 1 (.reg [iA 18 (iM 3),iA 19 (iQ .mul 3 18 131),iA 20 (iM 0),iA 21 (iM 4),iA 22 (iI 1 20 21),iA 23 (iL 22),iA 24 (.cv (.num .i64) 0 (.t 23)),iA 25 (iP .add 3 19 24),iA 26 (iQ .add 3 25 7),iA 27 (iQ .and 3 26 1073741823),iA 3 (iM 27)])) (.reg [iA 16 (iM 4),iA 17 (iQ .add 3 16 1),iA 4 (iM 17)])))))) (iS [iA 28 (iM 0),iA 29 (iM 3),iA 30 (.bld [.slice none 0 0,.int .i64 0,.int .i64 0] [(0,1,.t 28),(2,1,.t 29)]),iA 31 (.box 258 3 (.t 30)),iA 2 (iM 31)] .ret)))
theorem jhH:fnC Tryz.prog Tryz.f132=some (jfE,[.t 2],32):=by kernel_rfl
def jdZ:C:=iS [iA 2 (iN 0)] (iS [iA 4 (iM 0),iA 5 (iM 0),iA 6 (iF 0 5),iA 7 (iF 2 6),iA 8 (iL 7),iA 9 (iQ .mul 3 8 6364136223846793005),iA 10 (iQ .add 3 9 1442695040888963407),iA 11 (iF 0 4),iA 12 (iF 2 11),iC (.st 1 [none] (.t 12) (.t 10))] (.seq (.dreg (T.pure 0 (iA 13 (iM 0)) (T.pure 1 (iA 14 (iF 0 13)) (T.pure 2 (iA 15 (iF 2 14)) (T.pure 3 (iA 16 (iL 15)) (T.pure 4 (iA 17 (.bin .shr 3 (.t 16) (.c (.int .u64 33)))) (T.pure 5 (iA 18 (iM 0)) (T.pure 6 (iA 19 (iF 0 18)) (T.pure 7 (iA 20 (iF 2 19)) (T.pure 8 (iA 21 (iL 20)) (T.pure 9 (iA 22 (.bin .shr 3 (.t 21) (.c (.int .u64 45)))) (T.pure 10 (iA 23 (iP .xor 3 17 22)) (T.pure 11 (iA 24 (iQ .and 3 23 255)) (T.pure 12 (iA 3 (iM 24)) T.done)))))))))))))) (.seq (.seq (.dreg (T.pure 0 (iA 25 (iM 0)) (T.pure 1 (iA 26 (iF 0 25)) (T.pure 2 (iA 27 (iF 1 26)) (T.pure 3 (iA 28 (iL 27)) (T.pure 4 (iA 29 (iM 0)) (T.pure 5 (iA 30 (iF 0 29)) (T.pure 6 (iA 31 (iF 0 30)) (T.pure 7 (iA 32 (iL 31)) (T.pure 8 (iA 33 (iG 32)) (T.pure 9 (iA 34 (iP .lss 3 28 33)) T.done))))))))))) (iD 34 (.seq (.dreg (T.pure 0 (iA 35 (iM 3)) (T.pure 1 (iA 36 (iM 0)) (T.pure 2 (iA 37 (iF 0 36)) (T.pure 3 (iA 38 (iF 0 37)) (T.pure 4 (iA 39 (iL 38)) (T.pure 5 (iA 40 (iM 0)) (T.pure 6 (iA 41 (iF 0 40)) (T.pure 7 (iA 42 (iF 1 41)) (T.pure 8 (iA 43 (iL 42)) (T.pure 9 (iA 44 (iI 1 39 43)) (T.pure 10 (iA 45 (iL 44)) (T.pure 11 (iA 46 (.cv (.num .i64) 0 (.t 45))) (T.pure 12 (iA 47 (iP .add 3 35 46)) (T.pure 13 (iA 48 (iQ .and 3 47 255)) (T.pure 14 (iA 3 (iM 48)) T.done)))))))))))))))) (.reg [iA 49 (iM 0),iA 50 (iM 0),iA 51 (iF 0 50),iA 52 (iF 1 51),iA 53 (iL 52),iA 54 (iQ .add 3 53 1),iA 55 (iF 0 49),iA 56 (iF 1 55),iC (.st 1 [none] (.t 56) (.t 54))])) .skip)) (iS [iA 57 (iM 3),iA 2 (iM 57)] .ret))))
theorem jgF:fnC Tryz.prog Tryz.f281=some (jdZ,[.t 2],58):=by kernel_rfl
def jcL:C:=iS [iA 4 (iN 0)] (.seq (iS [iA 9 (iM 1),iA 10 (iQ .leq 3 9 0)] (iD 10 (iS [iA 4 (iN 0)] .ret) .skip)) (.seq (iS [iA 11 (iM 1),iA 12 (iQ .leq 3 11 256)] (iD 12 (iS [iA 13 (iM 0),iA 14 (.call 281 [.t 13]),iA 15 (iM 1),iA 16 (iP .rem 3 14 15),iA 4 (iM 16)] .ret) .skip)) (iS [iA 17 (iM 0),iA 18 (.call 281 [.t 17]),iA 5 (iM 18)] (iS [iA 19 (iM 0),iA 20 (.call 281 [.t 19]),iA 6 (iM 20)] (iS [iA 21 (iM 0),iA 22 (.call 281 [.t 21]),iA 7 (iM 22)] (iS [iA 23 (iM 0),iA 24 (.call 281 [.t 23]),iA 8 (iM 24)] (iS [iA 25 (iM 5),iA 26 (iQ .mul 3 25 16777216),iA 27 (iM 6),iA 28 (iQ .mul 3 27 65536),iA 29 (iP .add 3 26 28),iA 30 (iM 7),iA 31 (iQ .mul 3 30 256),iA 32 (iP .add 3 29 31),iA 33 (iM 8),iA 34 (iP .add 3 32 33),iA 35 (iM 1),iA 36 (iP .rem 3 34 35),iA 4 (iM 36)] .ret)))))))
theorem jfn:fnC Tryz.prog Tryz.f232=some (jcL,[.t 4],37):=by kernel_rfl
def jdY:C:=iS [iA 4 (iO false)] (iS [iA 5 (iM 0),iA 6 (iM 1),iA 7 (.call 232 [.t 5,.t 6]),iA 8 (iQ .eql 3 7 0),iA 4 (iM 8)] .ret)
theorem jgE:fnC Tryz.prog Tryz.f293=some (jdY,[.t 4],9):=by kernel_rfl
def jdU:C:=iS [iA 2 (.alloc 71 [.int .i64 0,.int .i64 0,.int .i64 0,.int .i64 0,.slice none 0 0])] (iS [iA 9 (iM 0),iA 10 (.call 232 [.t 9,.c (.int .i64 4)]),iA 11 (iM 0),iA 12 (.call 232 [.t 11,.c (.int .i64 3)]),iA 13 (.bin .add 3 (.c (.int .i64 1)) (.t 12)),iA 14 (iM 0),iA 15 (.call 232 [.t 14,.c (.int .i64 4)]),iA 16 (.bin .add 3 (.c (.int .i64 1)) (.t 15)),iA 17 (iM 0),iA 18 (.call 232 [.t 17,.c (.int .i64 6)]),iA 19 (.bin .add 3 (.c (.int .i64 1)) (.t 18)),iA 20 (.bld [.int .i64 0,.int .i64 0,.int .i64 0,.int .i64 0,.slice none 0 0] [(0,1,.t 10),(1,1,.t 13),(2,1,.t 16),(3,1,.t 19)]),iA 3 (.alloc 71 [.int .i64 0,.int .i64 0,.int .i64 0,.int .i64 0,.slice none 0 0]),iC (.st 5 [none,none,none,none,some (2,253)] (.t 3) (.t 20))] (.seq (iS [iA 21 (iM 0),iA 22 (.call 293 [.t 21,.c (.int .i64 10)])] (iD 22 (.reg [iA 23 (iF 3 3),iC (.st 1 [none] (.t 23) (.c (.int .i64 12)))]) .skip)) (.seq (iS [iA 4 (iN 0)] (.blk 0 (.loop (.seq (iS [iA 24 (iM 4),iA 25 (iM 0),iA 26 (.call 232 [.t 25,.c (.int .i64 9)]),iA 27 (iP .lss 3 24 26),iA 28 (iM 27),iB 29 28 true (iF 3 3),iB 30 28 true (iL 29),iB 31 28 true (iQ .gtr 3 30 1),iA 32 (.pick (.t 28) (.t 31) (.c (.bool false)))] (iD 32 .skip (.exit 0))) (.seq (.blk 1 (iS [iA 35 (iM 0),iA 36 (iF 3 3),iA 37 (iL 36),iA 38 (iQ .sub 3 37 1),iA 39 (.call 232 [.t 35,.t 38]),iA 40 (.bin .add 3 (.c (.int .i64 1)) (.t 39)),iA 5 (iM 40)] (iS [iA 41 (iM 0),iA 42 (iM 5),iA 43 (.call 232 [.t 41,.t 42]),iA 44 (iM 5),iA 45 (.bld [.int .i64 0,.int .i64 0] [(0,1,.t 43),(1,1,.t 44)]),iA 6 (.alloc 253 [.int .i64 0,.int .i64 0]),iC (.st 2 [none,none] (.t 6) (.t 45))] (iS [iA 7 (iO false)] (.seq (iS [iA 8 (iN 0)] (.blk 2 (.loop (.seq (iS [iA 46 (iM 8),iA 47 (iF 4 3),iA 48 (iL 47),iA 49 (iG 48),iA 50 (iP .lss 3 46 49)] (iD 50 .skip (.exit 2))) (.seq (.blk 3 (.dreg (T.pure 0 (iA 53 (iM 7)) (T.pure 1 (iA 54 (iM 53)) (T.pure 2 (iB 55 54 false (iF 4 3)) (T.pure 3 (iB 56 54 false (iL 55)) (T.pure 4 (iB 57 54 false (iM 8)) (T.pure 5 (iB 58 54 false (iI 2 56 57)) (T.pure 6 (iB 59 54 false (iT 2 58)) (T.pure 7 (iB 60 54 false (iT 2 6)) (T.pure 8 (iB 61 54 false (iP .eql 253 59 60)) (T.pure 9 (iA 62 (.pick (.t 54) (.c (.bool true)) (.t 61))) (T.pure 10 (iA 7 (iM 62)) T.done))))))))))))) (.reg [iA 51 (iM 8),iA 52 (iQ .add 3 51 1),iA 8 (iM 52)])))))) (iS [iA 63 (iM 7),iA 64 (iU 63)] (iD 64 (.reg [iA 65 (iF 4 3),iA 66 (iL 65),iA 67 (iT 2 6),iA 68 (.bsl 253 2 1 [none,none] [(0,2,.t 67)]),iA 69 (.app 253 2 16 (.t 66) (.t 68)),iA 70 (iF 4 3),iC (.st 1 [some (2,253)] (.t 70) (.t 69))]) .skip))))))) (.reg [iA 33 (iM 4),iA 34 (iQ .add 3 33 1),iA 4 (iM 34)])))))) (iS [iA 71 (iT 5 3),iC (.st 5 [none,none,none,none,some (2,253)] (.t 2) (.t 71))] .ret))))
theorem jgA:fnC Tryz.prog Tryz.f291=some (jdU,[.cell 2 true 5],72):=by kernel_rfl
theorem je9 (c:List UInt8) (hc:c.length≤1048576) (s:Cu) (b:Nat) (o:Nat→Ob) (hs:s.1≤c.length) (ho:o 89=qn b 258 c s):
 jBm Tryz.prog 281 [Bx 89 b] o (Ni (kK c s).1) (jzc o 89 (qn b 258 c (kK c s).2)):=by
 obtain ⟨k,h⟩:=s;dsimp only at hs;refine joU ?_;refine ql (β:=8000000) Tryz.func281 jgF (by simp) ?_
 unfold jdZ;unfold qn at ho;have hH:IntKind.i64.wrap (IntKind.i64.wrap (h*6364136223846793005)+1442695040888963407)=jnK h:=rfl;by_cases hlt:k<c.length
 ·have hlt':(k:Int)<(c.length:Int):=by omega
  obtain ⟨u,hu⟩:=je hlt;have hw:IntKind.i64.wrap ((k:Int)+1)=((k+1:Nat):Int):=jg (by omega) (by omega)
  have hr:kK c (k,h)=(jqI (jxb (jnK h)+(u.toNat:Int)) 255,(k+1,jnK h)):=by simp only [kK,hu]
  have hx:=jmr (jqM ((jnK h).fdiv (2^33)) ((jnK h).fdiv (2^45)));rw [←show jxb (jnK h)=jqI (jqM ((jnK h).fdiv (2^33)) ((jnK h).fdiv (2^45))) 255 from rfl] at hx
  have hul:=UInt8.toNat_lt u;have hwx:IntKind.i64.wrap (jxb (jnK h)+(u.toNat:Int))=jxb (jnK h)+(u.toNat:Int):=jg (by omega) (by omega)
  simp only [go_sem,ho,hH,hlt',hlt,hw,jkX hu,jxa,qY,jak];rw [hr];refine ⟨?_,jbb (by simp only [go_sem,qn,hw]) fun g g2=>?_⟩
  ·have e:∀x y:Int,AV.c (A0.v (Value.int .i64 (jqI (IntKind.i64.wrap (jqI (jqM x y) 255+(u.toNat:Int))) 255)))=AV.c (A0.v (Value.int .i64 (IntKind.i64.wrap ((BitVec.ofInt 64 (IntKind.i64.wrap (IntKind.i64.wrap ((BitVec.ofInt 64 (IntKind.i64.wrap ((BitVec.ofInt 64 x^^^BitVec.ofInt 64 y).toNat))&&&BitVec.ofInt 64 255).toNat)+(u.toNat:Int)))&&&BitVec.ofInt 64 255).toNat)))):=fun _ _=>rfl
   refine (e _ _).symm.trans ?_;show AV.c (A0.v (Value.int .i64 (jqI (IntKind.i64.wrap (jxb (jnK h)+(u.toNat:Int))) 255)))=_;rw [hwx]
  ·simp only [go_sem,eq_false g2,if_false]
 ·have hlt':¬(k:Int)<(c.length:Int):=by omega
  have hr:kK c (k,h)=(jxb (jnK h),(k,jnK h)):=by simp only [kK,List.getElem?_eq_none (by omega:c.length≤k)]
  simp only [go_sem,ho,hH,hlt',jak];rw [hr];refine ⟨rfl,jbb (by simp only [go_sem,qn]) fun g g2=>?_⟩
  simp only [go_sem,eq_false g2,if_false]
theorem kx (c:List UInt8) (hc:c.length≤1048576) (n:Int) (s:Cu) (b:Nat) (o:Nat→Ob) (hs:s.1≤c.length) (ho:o 89=qn b 258 c s):
 jBm Tryz.prog 232 [Bx 89 b,Ni n] o (Ni (jr c n s).1) (jzc o 89 (qn b 258 c (jr c n s).2)):=by
 refine joU ?_;refine ql (β:=9000000) Tryz.func232 jfn (by simp) ?_
 unfold jcL;by_cases h0:n≤0
 ·have hr:jr c n s=(0,s):=by rw [jr,if_pos h0]
  rw [hr];simp only [go_sem,h0];exact jbb (by simp only [go_sem,ho]) fun g g2=>by simp only [go_sem,eq_false g2,if_false]
 have hn0:n≠0:=by omega
 by_cases h1:n≤256
 ·have hr:jr c n s=((kK c s).1.tmod n,(kK c s).2):=by rw [jr,if_neg h0,if_pos h1]
  rw [hr];simp only [go_sem,h0,h1];refine kg (je9 c hc s b _ hs (by simp only [go_sem,ho])) (by simp only [go_sem]) ?_
  simp only [go_sem,hn0];exact jbb (by simp only [go_sem]) fun g g2=>by simp only [go_sem,eq_false g2,if_false]
 ·have hr:jr c n s=(((kK c s).1*16777216+(kK c (kK c s).2).1*65536+(kK c (kK c (kK c s).2).2).1*256+(kK c (kK c (kK c (kK c s).2).2).2).1).tmod n,(kK c (kK c (kK c (kK c s).2).2).2).2):=by rw [jr,if_neg h0,if_neg h1]
  rw [hr];simp only [go_sem,h0,h1];refine kg (je9 c hc s b _ hs (by simp only [go_sem,ho])) (by simp only [go_sem]) ?_
  have a1:=zX c s;have t1:=jaJ hs;generalize kK c s=r1 at*;simp only [go_sem];refine kg (je9 c hc r1.2 b _ t1 (by simp only [go_sem])) (by simp only [go_sem]) ?_
  have a2:=zX c r1.2;have t2:=jaJ t1;generalize kK c r1.2=r2 at*;simp only [go_sem];refine kg (je9 c hc r2.2 b _ t2 (by simp only [go_sem])) (by simp only [go_sem]) ?_
  have a3:=zX c r2.2;have t3:=jaJ t2;generalize kK c r2.2=r3 at*;simp only [go_sem];refine kg (je9 c hc r3.2 b _ t3 (by simp only [go_sem])) (by simp only [go_sem]) ?_
  have a4:=zX c r3.2;generalize kK c r3.2=r4 at*;have w1:IntKind.i64.wrap (r1.1*16777216)=r1.1*16777216:=jg (by omega) (by omega)
  have w2:IntKind.i64.wrap (r2.1*65536)=r2.1*65536:=jg (by omega) (by omega)
  have w3:IntKind.i64.wrap (r1.1*16777216+r2.1*65536)=r1.1*16777216+r2.1*65536:=jg (by omega) (by omega)
  have w4:IntKind.i64.wrap (r3.1*256)=r3.1*256:=jg (by omega) (by omega)
  have w5:IntKind.i64.wrap (r1.1*16777216+r2.1*65536+r3.1*256)=r1.1*16777216+r2.1*65536+r3.1*256:=jg (by omega) (by omega)
  have w6:IntKind.i64.wrap (r1.1*16777216+r2.1*65536+r3.1*256+r4.1)=r1.1*16777216+r2.1*65536+r3.1*256+r4.1:=jg (by omega) (by omega)
  simp only [go_sem,w1,w2,w3,w4,w5,w6,hn0];exact jbb (by simp only [go_sem]) fun g g2=>by simp only [go_sem,eq_false g2,if_false]
theorem jin (c:List UInt8) (hc:c.length≤1048576) (n:Int) (s:Cu) (b:Nat) (o:Nat→Ob) (hs:s.1≤c.length) (ho:o 89=qn b 258 c s):
 jBm Tryz.prog 293 [Bx 89 b,Ni n] o (.c (.v (.bool ((jr c n s).1==0)))) (jzc o 89 (qn b 258 c (jr c n s).2)):=by
 refine joU ?_;refine ql (β:=9100000) Tryz.func293 jgE (by simp) ?_
 unfold jdY;simp only [go_sem];refine kg (kx c hc n s b _ hs (by simp only [go_sem,ho])) (by simp only [go_sem]) ?_
 simp only [go_sem];exact jbb (by simp only [go_sem]) fun g g2=>by simp only [go_sem,eq_false g2,if_false]
theorem juf (l:List Ed) (e:Ed):D.sl 2 tEd (l.flatMap jP++[.val (.int .i64 e.src),.val (.int .i64 e.dst)])=jy (l++[e]):=jsa l e
theorem jk0 {c:List UInt8} {n:Int} {f i:Nat} {E:List Ed} {s:Cu} (h:¬((i:Int)<(jr c 9 s).1∧1<n)):zC c n (f+1) i E s=(E,(jr c 9 s).2):=by rw [zC];dsimp only;rw [if_neg h]
theorem jup {c:List UInt8} {n:Int} {f i:Nat} {E:List Ed} {s:Cu} (h:(i:Int)<(jr c 9 s).1∧1<n):zC c n (f+1) i E s=zC c n f (i+1) (if (⟨(jr c (1+(jr c (n-1) (jr c 9 s).2).1) (jr c (n-1) (jr c 9 s).2).2).1,1+(jr c (n-1) (jr c 9 s).2).1⟩:Ed)∈E then E else E++[⟨(jr c (1+(jr c (n-1) (jr c 9 s).2).1) (jr c (n-1) (jr c 9 s).2).2).1,1+(jr c (n-1) (jr c 9 s).2).1⟩]) (jr c (1+(jr c (n-1) (jr c 9 s).2).1) (jr c (n-1) (jr c 9 s).2).2).2:=by rw [zC];dsimp only;rw [if_pos h]
theorem jtQ (c:List UInt8) (hc:c.length≤1048576) (s:Cu) (b:Nat) (o:Nat→Ob) (hs:s.1≤c.length) (ho:o 89=qn b 258 c s) (h86:o 86=.none):
 Inl Tryz.prog 291 [Bx 89 b] o fun av o2=>∃e:jq,av=.agg [.v (.int .i64 (jb4 c s).1.prio),.v (.int .i64 (jb4 c s).1.most),.v (.int .i64 (jb4 c s).1.wait),.v (.int .i64 (jb4 c s).1.tasks),.v (e [])]∧(e []).oneCell'=true∧o2 86=.loose (jy (jb4 c s).1.edges) e∧o2 89=qn b 258 c (jb4 c s).2∧∀g,g<900000000→g≠86→g≠89→o2 g=o g:=by
 refine jkQ (β:=9000000) [[1,1],[1,1,1],[1,1,1,1],[1,1,1,1,0]] Tryz.func291 jgA (by simp) ?_
 unfold jdU;simp only [C.ghs,C.ghAt,List.foldr];simp only [go_sem];intro b2;refine kg (kx c hc 4 s b _ hs (by simp only [go_sem,ho])) (by simp only [go_sem]) ?_
 have s1:=ju (n:=4) hs;have r1:=jS c (n:=4) s (by omega)
 generalize hq1:jr c 4 s=q1 at*;simp only [go_sem];refine kg (kx c hc 3 q1.2 b _ s1 (by simp only [go_sem])) (by simp only [go_sem]) ?_
 have s2:=ju (n:=3) s1;have r2:=jS c (n:=3) q1.2 (by omega)
 generalize hq2:jr c 3 q1.2=q2 at*;simp only [go_sem];refine kg (kx c hc 4 q2.2 b _ s2 (by simp only [go_sem])) (by simp only [go_sem]) ?_
 have s3:=ju (n:=4) s2;have r3:=jS c (n:=4) q2.2 (by omega)
 generalize hq3:jr c 4 q2.2=q3 at*;simp only [go_sem];refine kg (kx c hc 6 q3.2 b _ s3 (by simp only [go_sem])) (by simp only [go_sem]) ?_
 have s4:=ju (n:=6) s3;have r4:=jS c (n:=6) q3.2 (by omega)
 generalize hq4:jr c 6 q3.2=q4 at*;have w2:IntKind.i64.wrap (1+q2.1)=1+q2.1:=jg (by omega) (by omega)
 have w3:IntKind.i64.wrap (1+q3.1)=1+q3.1:=jg (by omega) (by omega)
 have w4:IntKind.i64.wrap (1+q4.1)=1+q4.1:=jg (by omega) (by omega)
 simp only [go_sem,w2,w3,w4];intro b3;have s5:=ju (n:=10) s4;generalize hq5:jr c 10 q4.2=q5 at*;obtain ⟨n,hn⟩:∃n:Int,(if q5.1=0 then (12:Int) else 1+q4.1)=n:=⟨_,rfl⟩
 have hn12:1≤n∧n≤12:=by rw [←hn];split<;>omega
 have hpl:jb4 c s=(⟨q1.1,1+q2.1,1+q3.1,n,(zC c n 9 0 [] q5.2).1⟩,(zC c n 9 0 [] q5.2).2):=by
  simp only [jb4,hq1,hq2,hq3,hq4,hq5,hn]
 generalize hD0:zC c n 9 0 [] q5.2=D0 at hpl;rw [hpl];refine kX (WkK.of ?_);refine jsQ (fun _:Unit=>St.ofB [(0,Bx 89 b),(2,Bx 900000200 b2),(3,Bx 900000300 b3)] [(900000200,ZPl b2 71),(900000300,jwF b3 71 q1.1 (1+q2.1) (1+q3.1) n [] jb5)] 900000000 (fun j=>if j=89 then qn b 258 c q5.2 else o j)) ?_ ?_
 ·simp only [go_sem]
  refine kg (jin c hc 10 q4.2 b _ s4 (by simp only [go_sem])) (by simp only [go_sem]) ?_
  rw [hq5];cases h5:q5.1==0
  ·have e:¬q5.1=0:=by simpa using h5
   rw [if_neg e] at hn;simp only [go_sem,h5];exact ⟨(),(kO [some 900000200,some 900000300] (by simp only [go_sem,ki,hn,w2,w3,w4]<;>and_intros<;>first|rfl|assumption|trivial) (fun j hj=>by by_cases e89:j=89<;>simp only [go_sem,e89,hj,if_true,if_false,jz hj 900000200 (by omega),jz hj 900000300 (by omega),ki,hn,w2,w3,w4]) (by decide))⟩
  ·have e:q5.1=0:=by simpa using h5
   rw [if_pos e] at hn;simp only [go_sem,h5];exact ⟨(),(kO [some 900000200,some 900000300] (by simp only [go_sem,ki,hn,w2,w3,w4]<;>and_intros<;>first|rfl|assumption|trivial) (fun j hj=>by by_cases e89:j=89<;>simp only [go_sem,e89,hj,if_true,if_false,jz hj 900000200 (by omega),jz hj 900000300 (by omega),ki,hn,w2,w3,w4]) (by decide))⟩
 rintro ⟨⟩;refine jsQ (fun i:{i:(List Ed×Cu)×jq//D0=i.1}=>St.ofB [(0,Bx 89 b),(2,Bx 900000200 b2),(3,Bx 900000300 b3)] [(900000200,ZPl b2 71),(900000300,jwF b3 71 q1.1 (1+q2.1) (1+q3.1) n i.1.1.1 i.1.2)] 900000000 (fun j=>if j=89 then qn b 258 c i.1.1.2 else o j)) ?_ ?_
 ·simp only [go_sem]
  refine jp (fun i:(Nat×List Ed×Cu)×jq=>St.ofB [(0,Bx 89 b),(2,Bx 900000200 b2),(3,Bx 900000300 b3),(4,Ni i.1.1)] [(900000200,ZPl b2 71),(900000300,jwF b3 71 q1.1 (1+q2.1) (1+q3.1) n i.1.2.1 i.2)] 900000000 (fun j=>if j=89 then qn b 258 c i.1.2.2 else o j)) (fun i=>i.1.1≤8∧i.1.2.1.length≤i.1.1∧i.1.2.2.1≤c.length∧D0=zC c n (9-i.1.1) i.1.1 i.1.2.1 i.1.2.2) (fun i=>9-i.1.1) ((0,[],q5.2),jb5) (⟨Nat.zero_le 8,Nat.le_refl 0,s5,hD0.symm⟩) (kO [some 900000200,some 900000300] (by simp only [go_sem]<;>and_intros<;>first|rfl|assumption|trivial) (fun j hj=>by by_cases e89:j=89<;>simp only [go_sem,e89,hj,if_true,if_false,jz hj 900000200 (by omega),jz hj 900000300 (by omega)]) (by decide)) ?_
  rintro ⟨⟨ii,E,u⟩,e0⟩ ⟨hi8,hEl,hu,hdE⟩;dsimp only at hi8 hEl hu hdE;obtain ⟨f,hf⟩:∃f,9-ii=f+1:=⟨8-ii,by omega⟩
  rw [hf] at hdE;simp only [go_sem];refine kg (kx c hc 9 u b _ hu (by simp only [go_sem])) (by simp only [go_sem]) ?_
  have u1:=ju (n:=9) hu;have x1:=jS c (n:=9) u (by omega)
  generalize hp1:jr c 9 u=p1 at*;by_cases hlt:(ii:Int)<p1.1;rotate_left
  ·rw [jk0 (by rw [hp1];omega),hp1] at hdE
   simp only [go_sem,hlt];exact ⟨⟨((E,p1.2),e0),hdE⟩,(kO [some 900000200,some 900000300] (by simp only [go_sem]<;>and_intros<;>first|rfl|assumption|trivial) (fun j hj=>by by_cases e89:j=89<;>simp only [go_sem,e89,hj,if_true,if_false,jz hj 900000200 (by omega),jz hj 900000300 (by omega)]) (by decide))⟩
  by_cases hgt:n>1;rotate_left
  ·rw [jk0 (by omega),hp1] at hdE
   simp only [go_sem,hlt,hgt];exact ⟨⟨((E,p1.2),e0),hdE⟩,(kO [some 900000200,some 900000300] (by simp only [go_sem]<;>and_intros<;>first|rfl|assumption|trivial) (fun j hj=>by by_cases e89:j=89<;>simp only [go_sem,e89,hj,if_true,if_false,jz hj 900000200 (by omega),jz hj 900000300 (by omega)]) (by decide))⟩
  rw [jup (by rw [hp1];omega),hp1] at hdE
  have hwn:IntKind.i64.wrap (n-1)=n-1:=jg (by omega) (by omega)
  simp only [go_sem,hlt,hgt,hwn];refine kg (kx c hc (n-1) p1.2 b _ u1 (by simp only [go_sem])) (by simp only [go_sem,hwn]) ?_
  have u2:=ju (n:=n-1) u1;have x2:=jS c (n:=n-1) p1.2 (by omega)
  generalize hp2:jr c (n-1) p1.2=p2 at*;have hw2:IntKind.i64.wrap (1+p2.1)=1+p2.1:=jg (by omega) (by omega)
  simp only [go_sem,hw2];refine kg (kx c hc (1+p2.1) p2.2 b _ u2 (by simp only [go_sem])) (by simp only [go_sem,hw2]) ?_
  have u3:=ju (n:=1+p2.1) u2;have x3:=jS c (n:=1+p2.1) p2.2 (by omega)
  generalize hp3:jr c (1+p2.1) p2.2=p3 at*;simp only [go_sem,hw2];intro b6;obtain ⟨e,he⟩:∃e:Ed,e=⟨p3.1,1+p2.1⟩:=⟨_,rfl⟩;have he1:p3.1=e.src:=by rw [he]
  have he2:1+p2.1=e.dst:=by rw [he]
  rw [←he] at hdE;have hwi:IntKind.i64.wrap ((ii:Int)+1)=((ii+1:Nat):Int):=jg (by omega) (by omega)
  refine jp (fun i:Nat=>St.ofB [(0,Bx 89 b),(2,Bx 900000200 b2),(3,Bx 900000300 b3),(4,Ni ii),(6,Bx 900000600 b6),(7,.c (.v (.bool (decide (e∈E.take i))))),(8,Ni i)] [(900000200,ZPl b2 71),(900000300,jwF b3 71 q1.1 (1+q2.1) (1+q3.1) n E e0),(900000600,.box b6 253 [.a (.v (.int .i64 e.src)),.a (.v (.int .i64 e.dst))])] 900000000 (fun j=>if j=89 then qn b 258 c p3.2 else o j)) (fun i=>i≤E.length) (fun i=>E.length-i) 0 (by (try dsimp only);first|omega|(simp;done)|(and_intros<;>first|omega|simp)) (kO [some 900000200,some 900000300,some 900000600] (by simp only [go_sem,List.take_zero,List.not_mem_nil,decide_false,hw2,he1,he2]<;>and_intros<;>first|rfl|assumption|trivial) (fun j hj=>by by_cases e89:j=89<;>simp only [go_sem,e89,hj,if_true,if_false,jz hj 900000200 (by omega),jz hj 900000300 (by omega),jz hj 900000600 (by omega),List.take_zero,List.not_mem_nil,decide_false,hw2,he1,he2]) (by decide)) ?_
  rintro k hk;by_cases hkl:k<E.length
  ·have hkl':(k:Int)<(E.length:Int):=by omega
   have h0k:(k:Int)≥0:=by omega
   obtain ⟨x,hx⟩:=je hkl;have hwk:IntKind.i64.wrap ((k:Int)+1)=((k+1:Nat):Int):=jg (by omega) (by omega)
   have htk:E.take (k+1)=E.take k++[x]:=by rw [List.take_add_one,hx];rfl
   by_cases hm:e∈E.take k
   ·have h1:decide (e∈E.take k)=true:=decide_eq_true hm
    have h2:decide (e∈E.take (k+1))=true:=decide_eq_true (by rw [htk];simp [hm])
    simp only [go_sem,hkl',h1];exact ⟨k+1,by (try dsimp only);first|omega|assumption|(and_intros<;>first|omega|assumption),(kO [some 900000200,some 900000300,some 900000600] (by simp only [go_sem,h2,hwk]<;>and_intros<;>first|rfl|assumption|trivial) (fun j hj=>by by_cases e89:j=89<;>simp only [go_sem,e89,hj,if_true,if_false,jz hj 900000200 (by omega),jz hj 900000300 (by omega),jz hj 900000600 (by omega),h2,hwk]) (by decide)),by (try dsimp only);omega⟩
   ·have h1:decide (e∈E.take k)=false:=decide_eq_false hm
    by_cases hxe:x=e
    ·have h2:decide (e∈E.take (k+1))=true:=decide_eq_true (by rw [htk];simp [hxe])
     have h3:decide (x=e)=true:=decide_eq_true hxe;simp only [go_sem,hkl',hkl,h0k,h1,jn3 hx,jnv hkl,jP,h3];exact ⟨k+1,by (try dsimp only);first|omega|assumption|(and_intros<;>first|omega|assumption),(kO [some 900000200,some 900000300,some 900000600] (by simp only [go_sem,h2,hwk,h3]<;>and_intros<;>first|rfl|assumption|trivial) (fun j hj=>by by_cases e89:j=89<;>simp only [go_sem,e89,hj,if_true,if_false,jz hj 900000200 (by omega),jz hj 900000300 (by omega),jz hj 900000600 (by omega),h2,hwk,h3]) (by decide)),by (try dsimp only);omega⟩
    ·have h2:decide (e∈E.take (k+1))=false:=decide_eq_false (by rw [htk];simp [hm];exact fun h=>hxe h.symm)
     have h3:decide (x=e)=false:=decide_eq_false hxe;simp only [go_sem,hkl',hkl,h0k,h1,jn3 hx,jnv hkl,jP,h3];exact ⟨k+1,by (try dsimp only);first|omega|assumption|(and_intros<;>first|omega|assumption),(kO [some 900000200,some 900000300,some 900000600] (by simp only [go_sem,h2,hwk,h3]<;>and_intros<;>first|rfl|assumption|trivial) (fun j hj=>by by_cases e89:j=89<;>simp only [go_sem,e89,hj,if_true,if_false,jz hj 900000200 (by omega),jz hj 900000300 (by omega),jz hj 900000600 (by omega),h2,hwk,h3]) (by decide)),by (try dsimp only);omega⟩
  ·obtain rfl:k=E.length:=by omega
   have hkl':¬((E.length:Nat):Int)<(E.length:Int):=by omega
   rw [List.take_length];by_cases hm:e∈E
   ·have h1:decide (e∈E)=true:=decide_eq_true hm
    rw [if_pos hm] at hdE;simp only [go_sem,hkl',h1];exact ⟨((ii+1,E,p3.2),e0),⟨by dsimp only;omega,by dsimp only;omega,u3,by rw [show 9-(ii+1)=f by omega];exact hdE⟩,(kO [some 900000200,some 900000300] (by simp only [go_sem,hwi]<;>and_intros<;>first|rfl|assumption|trivial) (fun j hj=>by by_cases e89:j=89<;>simp only [go_sem,e89,hj,if_true,if_false,jz hj 900000200 (by omega),jz hj 900000300 (by omega),jz hj 900000600 (by omega),hwi]) (by decide)),by (try dsimp only);omega⟩
   ·have h1:decide (e∈E)=false:=decide_eq_false hm
    rw [if_neg hm] at hdE;simp only [go_sem,hkl',h1];intro e1;refine ⟨by unfold maxLen;omega,by omega,fun e2=>?_⟩
    exact ⟨((ii+1,E++[e],p3.2),e2),⟨by dsimp only;omega,by dsimp only;simp;omega,u3,by rw [show 9-(ii+1)=f by omega];exact hdE⟩,(kO [some 900000200,some 900000300] (by simp only [go_sem,hwi,juf]<;>and_intros<;>first|rfl|assumption|trivial) (fun j hj=>by by_cases e89:j=89<;>simp only [go_sem,e89,hj,if_true,if_false,jz hj 900000200 (by omega),jz hj 900000300 (by omega),jz hj 900000600 (by omega),jz hj 900006800 (by omega),jz hj 900006900 (by omega),hwi,juf]) (by decide)),by (try dsimp only);omega⟩
 rintro ⟨⟨⟨E,u⟩,e0⟩,hdE⟩;dsimp only at hdE;subst hdE;simp only [go_sem];refine kX ?_;refine qH 900000300 4 86 (d:=jy E) (η:=e0) (by simp only [go_sem]) (by simp only [go_sem,h86]) (by decide) fun hx=>?_
 refine WkK.of ?_;simp only [go_sem,hx];exact ⟨e0,rfl,hx,rfl,fun g g1 g2 g3=>by simp only [g2,g3,g1,jz g1 900000200 (by omega),jz g1 900000300 (by omega),if_true,if_false]⟩
theorem jiH (y:Yd) (k:Nat) (r2:Rn):(kL y k r2).seq≤y.seq+r2.tasks.length:=by
 simp only [kL,jrF,zw];have:=jdb ((y.runs[k]?).getD default).tasks r2.tasks r2.tasks.length;omega
theorem jpz {y:Yd} (h:YdI y) (k:Nat):((y.runs[k]?).getD default).tasks.length≤12:=by
 cases hr:y.runs[k]? with
 |none=>exact Nat.zero_le _
 |some r=>exact (h.rns.right r (List.mem_of_getElem? hr)).le12
theorem jmQ {y:Yd} (h:YdI y) (k t:Nat):(failK y k t).seq≤y.seq+12:=by
 unfold failK;split
 ·have h1:=jiH y k (jE ((y.runs[k]?).getD default) t)
  have h2:=jpz h k;rw [kV] at h1;omega
 ·omega
theorem jmO {z:Yd} (h:YdI z) (k:Nat):∀t,(restT z k t).seq≤z.seq+12*t
 |0=>by simp [restT]
 |t+1=>by
  have h1:=jmO h k t;have h2:=jmQ (h.restT k t) k t;simp only [restT];omega
theorem jmP {y:Yd} (h:YdI y):∀k,(restR y k).seq≤y.seq+144*k
 |0=>by simp [restR]
 |k+1=>by
  have h1:=jmP h k;have h2:=jmO (h.restR k) k ((y.runs[k]?).getD default).tasks.length;have h3:=jpz h k;simp only [restR];omega
theorem jmN {y:Yd} (h:YdI y):∀i,i≤(kD y).length→(tickI y i).seq≤y.seq+12*i
 |0,_=>by simp [tickI]
 |i+1,hi=>by
  have h1:=jmN h i (by omega)
  have h2:=(h.tickI i (by omega)).1
  obtain ⟨l,hl⟩:=je (show i<(kD y).length by omega)
  rw [jen hl];unfold jmC;have:=jmQ h2 (runAt (tickI y i) (l.headD 0)).toNat (l.tail.headD 0).toNat;omega
theorem jzE {y:Yd} (h:YdI y) (d:Dd):(doY y d).seq≤y.seq+2000:=by
 unfold doY;split
 ·omega
 split
 ·unfold jeK
  split
  ·rename_i hc
   simp only [jrF,zw]
   have hp:jw d.plan=0:=by
    refine Classical.byContradiction fun hp=>?_
    unfold jdB at hc
    repeat' split at hc
    all_goals first|(cases hc;done)|exact hp hc|contradiction|omega
   obtain ⟨n,hn,_,h12,-⟩:=jck hp;have h3:(jW d.run d.plan).tasks.length≤12:=by rw [jW,jcs];omega
   have h4:(qB 2 (jW d.run d.plan).tasks).length≤(jW d.run d.plan).tasks.length:=vd _ _ _;omega
  ·omega
 split
 ·unfold zV
  split
  ·omega
  ·rename_i hc
   have hok:jC y=true:=by
    cases h:jC y with
    |true=>rfl
    |false=>exact absurd (.inl h) hc
   have hw:0≤d.worker∧d.worker≤99:=by
    refine Classical.byContradiction fun h=>hc (.inr h)
   have hh4:(d.worker.tmod 4).toNat<4:=by rw [Int.tmod_eq_emod_of_nonneg hw.1];omega
   have hI:=(jth (yard_iff.1 hok) hh4 d.draw).seq;split
   ·omega
   ·simp only [jj8];omega
 split
 ·unfold jdo
  split
  ·have h1:=jiH y (runAt y d.run).toNat (qJ ((y.runs[(runAt y d.run).toNat]?).getD default) d.task)
   have h2:=jpz h (runAt y d.run).toNat;rw [jer] at h1;omega
  ·omega
 split
 ·unfold jdn
  split
  ·have h1:=jiH y (runAt y d.run).toNat (jE ((y.runs[(runAt y d.run).toNat]?).getD default) d.task)
   have h2:=jpz h (runAt y d.run).toNat;rw [kV] at h1;omega
  ·omega
 split
 ·unfold jb1
  split
  ·rename_i hc
   have hok:jC y=true:=by
    unfold ja1 at hc;cases h:jC y with
    |true=>rfl
    |false=>rw [if_pos h] at hc;cases hc
   have h1:=jmN h _ (Nat.le_refl _);have h2:=joP (yard_iff.1 hok);dsimp only;omega
  ·omega
 split
 ·unfold kT
  split
  ·simp only [jg8];omega
  ·omega
 split
 ·unfold jaw
  split
  ·dsimp only;omega
  ·omega
 ·unfold jdj
  split
  ·have h1:=jmP h y.runs.length
   have h2:=h.rns.eight;omega
  ·omega
theorem YdI.new:YdI newYd:=by
 refine ⟨by decide,by decide,rfl,fun l hl=>?_,⟨by simp [newYd],by simp [newYd],by simp [newYd],by simp [newYd],by simp [newYd]⟩,⟨by simp [newYd],by simp [newYd],by simp [newYd],by simp [newYd]⟩,by simp [newYd,vM]⟩
 have:l=[]:=by simp [newYd] at hl;exact hl
 subst this;exact List.Pairwise.nil
theorem juB (n:Int) {a b:Int} (h:a≤b):a≤brI n a b∧brI n a b≤b:=by
 unfold brI;split
 ·omega
 ·split<;>omega
theorem jvI:jbx plZ=true:=by decide
theorem zz {n:Int} (h:0≤n∧n≤1000000000):zj n=true:=decide_eq_true h
theorem jvD {p:Pl} (h:jw p=0):jgj p=true:=by
 obtain ⟨n,h1,h2,h3,h4,h5,h6,h7,h8,h9⟩:=jck h;simp only [jgj,Bool.and_eq_true,decide_eq_true_eq,List.all_eq_true];refine ⟨⟨⟨⟨⟨zz (by omega),zz (by omega)⟩,zz (by omega)⟩,zz (by omega)⟩,by omega⟩,fun e he=>?_⟩
 have:=h5 e he;unfold okE at this;simp only [edB,Bool.and_eq_true];exact ⟨zz (by omega),zz (by omega)⟩
theorem jwn (c:List UInt8) {y:Yd} (s:Cu) (hi:∀r∈y.runs,1≤r.id∧r.id≤9999):0≤(qp c y s).1.1∧(qp c y s).1.1≤9999:=by
 unfold qp;split
 ·rename_i x s' e
  obtain ⟨r,h1,h2⟩:=jjf _ e;have:=hi r h1;dsimp only;omega
 ·rename_i s' e
  have:=jS c (n:=5) s' (by decide)
  dsimp only;omega
theorem jwo (c:List UInt8) {y:Yd} (s:Cu) (hi:∀r∈y.runs,1≤r.id∧r.id≤9999):kf (qz c y s).1=true:=by
 unfold qz;dsimp only;generalize jr c 20 s=k at*;have hh:=jwn c k.2 hi;have b9:=jS c (n:=9) k.2 (by decide)
 have b8:=jS c (n:=8) k.2 (by decide)
 have b7:=jS c (n:=7) (jr c 8 k.2).2 (by decide)
 have hp:=jwk c (jr c 9 k.2).2;have ht:=juB (qp c y k.2).1.2.1 (a:=0) (b:=99) (by decide)
 have hv:=juB (qp c y k.2).1.2.2 (a:=0) (b:=99) (by decide)
 have hz:=jvI
 repeat' split
 ·simp [kf,hz,zz (n:=(jr c 8 k.2).1) (by omega),zz (n:=(jr c 7 (jr c 8 k.2).2).1) (by omega)]
 ·simp [kf,jvD hp,zz (n:=1+(jr c 9 k.2).1) (by omega)]
 ·simp [kf,hz,zz (n:=(qp c y k.2).1.1) (by omega),zz (n:=brI (qp c y k.2).1.2.1 0 99) (by omega),zz (n:=brI (qp c y k.2).1.2.2 0 99) (by omega)]
 ·simp [kf,hz,zz (n:=(qp c y k.2).1.1) (by omega),zz (n:=brI (qp c y k.2).1.2.1 0 99) (by omega),zz (n:=brI (qp c y k.2).1.2.2 0 99) (by omega)]
 ·simp [kf,hz]
 ·simp [kf,hz,zz (n:=1+(jr c 9 k.2).1) (by omega)]
 ·simp [kf,hz,zz (n:=1+(jr c 9 k.2).1) (by omega)]
 ·simp [kf,hz]
 ·simp [kf,hz]
theorem YdI.ids {y:Yd} (h:YdI y):∀r∈y.runs,1≤r.id∧r.id≤9999:=fun r hr=>of_decide_eq_true (h.rns.right r hr).id
structure DdsI (c:List UInt8) (n:Nat) (x:List Dd×Yd×Cu):Prop where
 yd:YdI x.2.1
 seq:x.2.1.seq≤1+2000*n
 len:x.1.length=n
 ok:∀d∈x.1,kf d=true
 at_:x.2.2.1≤c.length
 yis:x.2.1=x.1.foldl doY newYd
 edges:∀d∈x.1,d.plan.edges.length≤9
theorem jji (c:List UInt8) (y:Yd) (s:Cu):(qz c y s).1.plan.edges.length≤9:=by
 unfold qz;dsimp only
 repeat' split
 all_goals first
  |exact Nat.zero_le _
  |(have:=(jjh c (if (jr c 10 (jr c 6 (jr c 4 (jr c 3 (jr c 4 (jr c 9 (jr c 20 s).2).2).2).2).2).2).1=0 then 12 else 1+(jr c 6 (jr c 4 (jr c 3 (jr c 4 (jr c 9 (jr c 20 s).2).2).2).2).2).1) 9 0 [] (jr c 10 (jr c 6 (jr c 4 (jr c 3 (jr c 4 (jr c 9 (jr c 20 s).2).2).2).2).2).2).2 ⟨by simp,by simp⟩).2;simpa [jb4] using this)
theorem DdsI.start {c:List UInt8} {s:Cu} (h:s.1≤c.length):DdsI c 0 ([],newYd,s):=⟨.new,by simp [newYd],rfl,by simp,h,rfl,by simp⟩
theorem DdsI.next {c:List UInt8} {n:Nat} {x:List Dd×Yd×Cu} (h:DdsI c n x):DdsI c (n+1) (x.1++[(qz c x.2.1 x.2.2).1],doY x.2.1 (qz c x.2.1 x.2.2).1,(qz c x.2.1 x.2.2).2):=by
 have hd:=jwo c x.2.2 h.yd.ids;refine ⟨h.yd.do _,?_,by simp [h.len],fun d hm=>?_,jwp h.at_,?_,fun d hm=>?_⟩
 ·have h1:=jzE h.yd (qz c x.2.1 x.2.2).1
  have h2:=h.seq;dsimp only;omega
 ·rcases List.mem_append.1 hm with hm|hm
  ·exact h.ok d hm
  ·simp at hm;subst hm;exact hd
 ·rw [List.foldl_append,←h.yis];rfl
 ·rcases List.mem_append.1 hm with hm|hm
  ·exact h.edges d hm
  ·simp at hm;subst hm;exact jji _ _ _
theorem jqq {c:List UInt8}:∀(n m:Nat) {x:List Dd×Yd×Cu},DdsI c m x→DdsI c (m+n) (zc c n x)
 |0,m,x,h=>h
 |n+1,m,x,h=>by
  rw [zc,show m+(n+1)=(m+1)+n by omega]
  exact jqq n (m+1) h.next
end Go.Proofs.YtmnpailnelmpiaaGreat
