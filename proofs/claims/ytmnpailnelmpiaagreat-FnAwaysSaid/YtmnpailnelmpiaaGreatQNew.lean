/- Parts. -/
import Derived.Test.YtmnpailnelmpiaaGreatQKeepD
set_option linter.unusedSimpArgs false
set_option linter.unusedVariables false
set_option maxHeartbeats 8000000
set_option maxRecDepth 100000
namespace Go.Proofs.YtmnpailnelmpiaaGreat
open Go.RowKit Go.Sort Go.BigFrame
def newYd:Yd:=⟨0,1,List.replicate 4 [],[]⟩
theorem jzc (w:World):Calls Tryz.prog 58 #[] w (ju2 w (jb newYd)):=by
 go_enter Tryz.func58,Tryz.ntmps58
 go_wp2_with (at_make;refine jir (enc:=(fun es=>[jm es])) rfl _ _ rfl jzv ([]:List En) zEnS .i64 .i64 4 4 4 rfl rfl rfl rfl (by omega) (by unfold maxLen;omega) ?_;intro w1 A1 hr1 hb1;obtain ⟨hc1,hf1⟩:=zS hb1;(have hz1:=hb1.size);simp at hz1;(have hx1:=(by omega:w.heap.size<w1.heap.size)))
 refine bodyPost_ret (v:=.agg #[.int .i64 0,.int .i64 1,.slice A1 4 4,.slice none 0 0]) (by simp [results,Tryz.results58,go_sem,hc1]) rfl ?_
 refine ⟨_,[w.heap.size+1],rfl,⟨_,rfl,jax (y:=newYd) (S1:=[w.heap.size+1]) (S2:=[]) ?_ ?_⟩,?_,?_⟩
 ·have hr1':Rep w1 true (kz newYd.shelf) (.slice A1 4 4) [w.heap.size+1]:=by have h:=hr1;simp at h;exact h
  repeat (first|(with_reducible exact hr1')|((with_reducible refine jl0 ?_ ?_);rotate_left;focus (intro b hb;simp at hb⊢;omega)))
 ·exact Rep.nil_ _ _ _
 ·exact ⟨by simp,by simp⟩
 ·repeat (first|(with_reducible exact Below.refl _ _)|(with_reducible assumption)|((with_reducible refine Below.alloc ?_ ?_ _);rotate_left;focus (simp;try omega))|((with_reducible refine Below.setCell ?_ ?_ _);rotate_left;focus (simp;try omega))|(with_reducible refine kp ?_ (by assumption)))
theorem jkF {S:List Nat} {w w1 w':World} (ho:Only S w1 w') (hb:Below w.heap.size w w1) {b:Nat} (h:b<w.heap.size) (hS:b∉S):(∀o,w'.cell? ⟨b,o,none⟩=w.cell? ⟨b,o,none⟩)∧(∀o,w'.frozen? ⟨b,o,none⟩=w.frozen? ⟨b,o,none⟩):=by
 have e:w'.heap[b]?=w.heap[b]?:=(ho.block b (Nat.lt_of_lt_of_le h hb.size) hS).trans (hb.block b h);exact ⟨fun o=>World.cell?_of_block (w:=w) (a:=⟨b,o,none⟩) e,fun o=>World.frozen?_of_block (w:=w) (a:=⟨b,o,none⟩) e⟩
theorem jtd (w:World):Rep (w.alloc (.cells #[] tEn)) true (jm []) (.slice (some ⟨w.heap.size,0,none⟩) 0 0) [w.heap.size]:=
 Rep.of_own (size:=4) (enc:=jk) (xs:=[]) (World.ownsRow_made w #[] 0 (Nat.zero_le _) (by unfold maxLen;omega) rfl) RepL.nil_
theorem jvP (w:World) {o:Obj} {x:Value} {t:TypeId}:∀ad,(some ⟨w.heap.size+1,0,none⟩:Option Addr)=some ad→∀j u,[x][j]?=some u→((w.alloc o).alloc (.cells #[x] t)).cell? (ad.add j)=some u:=by
 intro ad h j u hu;cases h
 obtain rfl:j=0:=by
  have:=(List.getElem?_eq_some_iff.1 hu).1;simpa using this
 simp at hu;subst hu;simp [go_sem,Addr.add]
set_option maxRecDepth 4000 in
theorem jq7 (w:World):Calls Tryz.prog 279 #[] w (ju2 w (jb newYd)):=by
 go_enter Tryz.func279,Tryz.ntmps279
 go_wp2
 go_loopw [2] (fun i wr=>∃(k:Nat) (sv:Value) (S:List Nat),k≤4∧i=.int .i64 k∧Rep wr true (kz (List.replicate k [])) sv S∧Fresh (w.heap.size+2) S∧Below w.heap.size w wr∧w.heap.size+2≤wr.heap.size∧
  wr.cell? ⟨w.heap.size+1,0,none⟩=some (.int .i64 0)∧wr.cell? ⟨w.heap.size+1,1,none⟩=some (.int .i64 1)∧wr.cell? ⟨w.heap.size+1,2,none⟩=some sv∧wr.cell? ⟨w.heap.size+1,3,none⟩=some (.slice none 0 0)∧wr.frozen? ⟨w.heap.size+1,2,none⟩=false∧
  (∃u,wr.cell? ⟨w.heap.size,0,none⟩=some u)∧(∃u,wr.cell? ⟨w.heap.size,1,none⟩=some u)∧(∃u,wr.cell? ⟨w.heap.size,2,none⟩=some u)∧(∃u,wr.cell? ⟨w.heap.size,3,none⟩=some u)∧
  wr.frozen? ⟨w.heap.size,0,none⟩=false∧wr.frozen? ⟨w.heap.size,1,none⟩=false∧wr.frozen? ⟨w.heap.size,2,none⟩=false∧wr.frozen? ⟨w.heap.size,3,none⟩=false) (fun i _=>4-(intOf i).toNat)
 case atStart=>
  refine ⟨0,_,[],by omega,rfl,Rep.nil_ _ _ _,Fresh.nil _,?_,by simp,?_⟩
  ·repeat (first|(with_reducible exact Below.refl _ _)|(with_reducible assumption)|((with_reducible refine Below.alloc ?_ ?_ _);rotate_left;focus (simp;try omega))|((with_reducible refine Below.setCell ?_ ?_ _);rotate_left;focus (simp;try omega)))
  ·simp [go_sem]
 case round=>
  obtain ⟨k,sv,S,hk,rfl,hrep,hF,hbel,hsz,c0,c1,c2,c3,f2,⟨u0,r0⟩,⟨u1,r1⟩,⟨u2,r2⟩,⟨u3,r3⟩,g0,g1,g2,g3⟩:=hrel;by_cases hlt:k<4
  ·have hbox:w.heap.size+1∉S:=fun h=>by have:=hF.2 _ h;omega
   have hres:w.heap.size∉S:=fun h=>by have:=hF.2 _ h;omega
   obtain ⟨A0,n0,m0,rfl⟩:=Rep.form hrep
   go_wp2_with ((with_reducible refine jn5 (.tmp 9) (.tmp 11) ?_);refine jaU (enc:=(fun es=>[jm es])) (xs:=List.replicate k ([]:List En)) (ys:=[[]]) rfl _ _ rfl jzv (fun _=>rfl) rfl (upA (upA hrep _) _) (some ⟨wr.heap.size+1,0,none⟩) 1 1 [.slice (some ⟨wr.heap.size,0,none⟩) 0 0] rfl (RepL.cons_ (upA (jtd wr) _) RepL.nil_) rfl (by simp) (jvP wr) jrY (w.heap.size+2) (by simp;omega) (by simpa using Fresh.join hF (Fresh.one wr.heap.size wr.heap.size (Nat.le_refl _)) hsz (fun s hs=>Rep.lt _ hrep s hs)) (by unfold maxLen;simp;omega) (by simp;omega) ?_;intro v' w' S' hrep' hF' ho' _;obtain ⟨A1,n1,m1,rfl⟩:=Rep.form hrep';obtain ⟨hd,hd'⟩:=jkF ho' (upB (upB (Below.refl wr.heap.size wr) _) _) (by omega) hbox;obtain ⟨he,he'⟩:=jkF ho' (upB (upB (Below.refl wr.heap.size wr) _) _) (by omega) hres;(have hz:=ho'.size);simp at hz;(have hz1:=(by omega:w.heap.size+1<w'.heap.size)))
   go_roundw
   case rel=>
    refine ⟨k+1,.slice A1 n1 m1,S',by omega,by go_num,?_,hF',?_,by simp;omega,?_⟩
    ·refine jl0 ?_ (fun b hb=>by have:=hF'.2 b hb;simp;omega)
     rw [List.replicate_succ'];exact hrep'
    ·exact ((upB (upB hbel _) _).trans (ho'.below (fun s hs=>by have:=hF.2 s hs;omega) (by simp;omega))).setCell (by simp) _
    ·simp [go_sem,hd,hd',he,he',c0,c1,c2,c3,f2,r0,r1,r2,r3,g0,g1,g2,g3]
   case measure=>simp [intOf];omega
  ·obtain rfl:k=4:=by omega
   obtain ⟨A0,n0,m0,rfl⟩:=Rep.form hrep
   go_wp2
   refine bodyPost_ret (v:=.agg #[.int .i64 0,.int .i64 1,.slice A0 n0 m0,.slice none 0 0]) (by simp [results,Tryz.results279,go_sem,r0,r1,r2,r3]) rfl ?_
   refine ⟨_,S++[],rfl,⟨_,rfl,jax (y:=newYd) ?_ (Rep.nil_ _ _ _)⟩,?_,?_⟩
   ·have hrep4:Rep wr true (kz newYd.shelf) (.slice A0 n0 m0) S:=hrep
    repeat (first|(with_reducible exact hrep4)|((with_reducible refine jl0 ?_ ?_);rotate_left;focus (intro b hb;have:=hF.2 b hb;simp;try omega)))
   ·rw [List.append_nil];exact hF.mono (by omega)
   ·repeat (first|(with_reducible assumption)|((with_reducible refine Below.setCell ?_ ?_ _);rotate_left;focus (simp;try omega)))
abbrev Cu:=Nat×Int
def jqI (a b:Int):Int:=IntKind.i64.wrap ((BitVec.ofInt 64 a&&&BitVec.ofInt 64 b).toNat)
theorem jBl (a:Int) (m:Nat) (hm:m<2^62):0≤jqI a (m:Int)∧jqI a (m:Int)≤m:=by
 have h2:(BitVec.ofInt 64 a&&&BitVec.ofInt 64 (m:Int)).toNat≤m:=by
  rw [BitVec.toNat_and,BitVec.ofInt_natCast,BitVec.toNat_ofNat,Nat.mod_eq_of_lt (a:=m) (by omega)]
  exact Nat.and_le_right
 rw [jqI,jg (by omega) (by omega)]
 omega
theorem jms (a:Int):0≤jqI a 255∧jqI a 255≤255:=jBl a 255 (by decide)
def jnK (h:Int):Int:=IntKind.i64.wrap (IntKind.i64.wrap (h*6364136223846793005)+1442695040888963407)
def jxh (h:Int):Int:=jqI (jqM (h.fdiv (2^33)) (h.fdiv (2^45))) 255
def kO (c:List UInt8) (s:Cu):Int×Cu:=match c[s.1]? with
 |some u=>(jqI (jxh (jnK s.2)+(u.toNat:Int)) 255,(s.1+1,jnK s.2))
 |none=>(jxh (jnK s.2),(s.1,jnK s.2))
theorem jaf (c:List UInt8) (s:Cu):0≤(kO c s).1∧(kO c s).1≤255:=by
 unfold kO;split
 ·exact jms _
 ·exact jms _
theorem jaM {c:List UInt8} {s:Cu} (h:s.1≤c.length):(kO c s).2.1≤c.length:=by
 unfold kO;split
 ·rename_i u hu
  have:=(List.getElem?_eq_some_iff.1 hu).1;dsimp only;omega
 ·exact h
def jq (c:List UInt8) (n:Int) (s:Cu):Int×Cu:=
 if n≤0 then (0,s) else if n≤256 then ((kO c s).1.tmod n,(kO c s).2)
 else (((kO c s).1*16777216+(kO c (kO c s).2).1*65536+(kO c (kO c (kO c s).2).2).1*256+(kO c (kO c (kO c (kO c s).2).2).2).1).tmod n,(kO c (kO c (kO c (kO c s).2).2).2).2)
theorem jR (c:List UInt8) {n:Int} (s:Cu) (hn:0<n):0≤(jq c n s).1∧(jq c n s).1<n:=by
 unfold jq;rw [if_neg (by omega)]
 split
 ·have:=jaf c s
  exact ⟨Int.tmod_nonneg _ this.1,Int.tmod_lt_of_pos _ hn⟩
 ·refine ⟨Int.tmod_nonneg _ ?_,Int.tmod_lt_of_pos _ hn⟩
  have h1:=jaf c s;have h2:=jaf c (kO c s).2;have h3:=jaf c (kO c (kO c s).2).2;have h4:=jaf c (kO c (kO c (kO c s).2).2).2;omega
theorem ju {c:List UInt8} {n:Int} {s:Cu} (h:s.1≤c.length):(jq c n s).2.1≤c.length:=by
 unfold jq;split
 ·exact h
 ·split
  ·exact jaM h
  ·exact jaM (jaM (jaM (jaM h)))
def zK (c:List UInt8) (n:Int):Nat→Nat→List Ed→Cu→List Ed×Cu
 |0,_,E,s=>(E,s)
 |f+1,i,E,s=>let m:=jq c 9 s
  if (i:Int)<m.1∧1<n then
   let a:=jq c (n-1) m.2;let b:=jq c (1+a.1) a.2
   zK c n f (i+1) (if (⟨b.1,1+a.1⟩:Ed)∈E then E else E++[⟨b.1,1+a.1⟩]) b.2
  else (E,m.2)
structure EdsI (n:Int) (E:List Ed):Prop where
 nd:E.Nodup
 up:∀e∈E,0≤e.src∧e.src<e.dst∧e.dst<n
theorem EdsI.add {n:Int} {E:List Ed} {e:Ed} (h:EdsI n E) (he:0≤e.src∧e.src<e.dst∧e.dst<n):EdsI n (if e∈E then E else E++[e]):=by
 split
 ·exact h
 ·rename_i hn
  refine ⟨List.nodup_append.2 ⟨h.nd,by simp,fun x hx y hy e1=>?_⟩,fun x hx=>?_⟩
  ·simp at hy;subst hy;subst e1;exact hn hx
  ·rcases List.mem_append.1 hx with hx|hx
   ·exact h.up x hx
   ·simp at hx;subst hx;exact he
theorem jje (c:List UInt8) (n:Int):∀(f i:Nat) (E:List Ed) (s:Cu),EdsI n E→EdsI n (zK c n f i E s).1∧(zK c n f i E s).1.length≤E.length+f
 |0,i,E,s,h=>⟨h,Nat.le_refl _⟩
 |f+1,i,E,s,h=>by
  rw [zK];dsimp only;split
  ·rename_i hc
   have ha:=jR c (n:=n-1) (jq c 9 s).2 (by omega)
   have hb:=jR c (n:=1+(jq c (n-1) (jq c 9 s).2).1) (jq c (n-1) (jq c 9 s).2).2 (by omega)
   obtain ⟨h1,h2⟩:=jje c n f (i+1) _ (jq c (1+(jq c (n-1) (jq c 9 s).2).1) (jq c (n-1) (jq c 9 s).2).2).2 (h.add (e:=⟨_,_⟩) ⟨hb.1,hb.2,by dsimp only;omega⟩)
   refine ⟨h1,Nat.le_trans h2 ?_⟩;split
   ·omega
   ·simp;omega
  ·exact ⟨h,by dsimp only;omega⟩
theorem jnJ (c:List UInt8) (n:Int):∀(f i:Nat) (E:List Ed) (s:Cu),s.1≤c.length→(zK c n f i E s).2.1≤c.length
 |0,i,E,s,h=>h
 |f+1,i,E,s,h=>by
  rw [zK];dsimp only;split
  ·exact jnJ c n f _ _ _ (ju (ju (ju h)))
  ·exact ju h
def jb4 (c:List UInt8) (s:Cu):Pl×Cu:=
 let a:=jq c 4 s;let b:=jq c 3 a.2;let w:=jq c 4 b.2;let t:=jq c 6 w.2;let o:=jq c 10 t.2
 let n:=if o.1=0 then 12 else 1+t.1
 let e:=zK c n 9 0 [] o.2
 (⟨a.1,1+b.1,1+w.1,n,e.1⟩,e.2)
theorem rc_up {n:Int} {E:List Ed} (h:EdsI n E) {a b:Int} (hr:Rc E a b):a<b:=by
 induction hr with
 |one he=>obtain ⟨e,h1,h2,h3⟩:=he;have:=h.up e h1;omega
 |step _ he ih=>obtain ⟨e,h1,h2,h3⟩:=he;have:=h.up e h1;omega
theorem jwq (c:List UInt8) (s:Cu):jw (jb4 c s).1=0:=by
 unfold jb4;dsimp only;have h1:=jR c (n:=4) s (by decide)
 generalize jq c 4 s=a at*;have h2:=jR c (n:=3) a.2 (by decide)
 generalize jq c 3 a.2=b at*;have h3:=jR c (n:=4) b.2 (by decide)
 generalize jq c 4 b.2=w at*;have h4:=jR c (n:=6) w.2 (by decide)
 generalize jq c 6 w.2=t at*;generalize jq c 10 t.2=o at*;obtain ⟨n,hn⟩:∃n:Int,(if o.1=0 then (12:Int) else 1+t.1)=n:=⟨_,rfl⟩
 rw [hn];have hn12:1≤n∧n≤12:=by rw [←hn];split<;>omega
 obtain ⟨hE,hl⟩:=jje c n 9 0 [] o.2 ⟨by simp,by simp⟩
 generalize (zK c n 9 0 [] o.2).1=E at*;simp only [List.length_nil] at hl;refine jyd ?_ ?_ hE.nd fun t _ hr=>by have:=rc_up hE hr;omega
 ·simp only [vH,inB,Bool.or_eq_false_iff,Bool.not_eq_false',decide_eq_true_eq,decide_eq_false_iff_not]
  omega
 ·refine List.any_eq_false.2 fun e he=>?_
  have:=hE.up e he;simp only [jin,inB,Bool.or_eq_true,Bool.not_eq_true',decide_eq_false_iff_not,not_or,Classical.not_not];omega
theorem jwr {c:List UInt8} {s:Cu} (h:s.1≤c.length):(jb4 c s).2.1≤c.length:=jnJ _ _ _ _ _ _ (ju (ju (ju (ju (ju h)))))
def jbe (c:List UInt8):List Rn→Cu→Option (Int×Int×Int)×Cu
 |[],s=>(none,s)
 |r::rs,s=>let l:=qL 3 r.tasks
  if l=[] then jbe c rs s else
   let o:=jq c 5 s
   if o.1=0 then jbe c rs o.2 else
    let k:=jq c l.length o.2
    let t:=(l[k.1.toNat]?).getD 0
    let v:=((r.tasks[t.toNat]?).map (·.tri)).getD 0
    let e:=jq c 8 k.2
    if e.1=0 then let f:=jq c 2 e.2;(some (r.id,t,IntKind.i64.wrap (IntKind.i64.wrap (v-1)+2*f.1)),f.2) else (some (r.id,t,v),e.2)
def qs (c:List UInt8) (y:Yd) (s:Cu):(Int×Int×Int)×Cu:=match jbe c y.runs s with
 |(some x,s)=>(x,s)
 |(none,s)=>let a:=jq c 5 s;let b:=jq c 6 a.2;let d:=jq c 4 b.2;((1+a.1,b.1-1,d.1),d.2)
theorem jjd {c:List UInt8}:∀(rs:List Rn) {s:Cu},s.1≤c.length→(jbe c rs s).2.1≤c.length
 |[],s,h=>h
 |r::rs,s,h=>by
  rw [jbe];dsimp only;split
  ·exact jjd rs h
  ·split
   ·exact jjd rs (ju h)
   ·split
    ·exact ju (ju (ju (ju h)))
    ·exact ju (ju (ju h))
theorem jqr {c:List UInt8} {y:Yd} {s:Cu} (h:s.1≤c.length):(qs c y s).2.1≤c.length:=by
 unfold qs;have:=jjd y.runs h;split
 ·rename_i x s' e;rw [e] at this;exact this
 ·rename_i s' e;rw [e] at this;exact ju (ju (ju this))
theorem jjc {c:List UInt8}:∀(rs:List Rn) {s:Cu} {x:Int×Int×Int} {s':Cu},jbe c rs s=(some x,s')→∃r∈rs,x.1=r.id
 |[],s,x,s',h=>by simp [jbe] at h
 |r::rs,s,x,s',h=>by
  rw [jbe] at h;dsimp only at h;split at h
  ·obtain ⟨r',h1,h2⟩:=jjc rs h;exact ⟨r',by simp [h1],h2⟩
  ·split at h
   ·obtain ⟨r',h1,h2⟩:=jjc rs h;exact ⟨r',by simp [h1],h2⟩
   ·split at h
    ·simp only [Prod.mk.injEq,Option.some.injEq] at h;exact ⟨r,by simp,by rw [←h.1]⟩
    ·simp only [Prod.mk.injEq,Option.some.injEq] at h;exact ⟨r,by simp,by rw [←h.1]⟩
abbrev plZ:Pl:=⟨0,0,0,0,[]⟩
def qp (c:List UInt8) (y:Yd) (s:Cu):Dd×Cu:=
 let k:=jq c 20 s
 if k.1<6 then let w:=jq c 8 k.2;let d:=jq c 7 w.2;(⟨2,0,plZ,0,0,w.1,d.1⟩,d.2)
 else if k.1<10 then let r:=jq c 9 k.2;let p:=jb4 c r.2;(⟨1,1+r.1,p.1,0,0,0,0⟩,p.2)
 else if k.1<15 then let h:=qs c y k.2;(⟨3,h.1.1,plZ,brI h.1.2.1 0 99,brI h.1.2.2 0 99,0,0⟩,h.2)
 else if k.1=15 then let h:=qs c y k.2;(⟨4,h.1.1,plZ,brI h.1.2.1 0 99,brI h.1.2.2 0 99,0,0⟩,h.2)
 else if k.1=16 then (⟨5,0,plZ,0,0,0,0⟩,k.2)
 else if k.1=17 then let r:=jq c 9 k.2;(⟨6,1+r.1,plZ,0,0,0,0⟩,r.2)
 else if k.1=18 then let r:=jq c 9 k.2;(⟨7,1+r.1,plZ,0,0,0,0⟩,r.2)
 else let o:=jq c 3 k.2;if o.1=0 then (⟨8,0,plZ,0,0,0,0⟩,o.2) else (⟨5,0,plZ,0,0,0,0⟩,o.2)
theorem jwv {c:List UInt8} {y:Yd} {s:Cu} (h:s.1≤c.length):(qp c y s).2.1≤c.length:=by
 unfold qp;dsimp only;have h1:=ju (n:=20) h
 repeat' split
 ·exact ju (ju h1)
 ·exact jwr (ju h1)
 ·exact jqr h1
 ·exact jqr h1
 ·exact h1
 ·exact ju h1
 ·exact ju h1
 ·exact ju h1
 ·exact ju h1
noncomputable def za (c:List UInt8):Nat→List Dd×Yd×Cu→List Dd×Yd×Cu
 |0,x=>x
 |n+1,x=>za c n (x.1++[(qp c x.2.1 x.2.2).1],doY x.2.1 (qp c x.2.1 x.2.2).1,(qp c x.2.1 x.2.2).2)
noncomputable def jjb (c:List UInt8) (s:Cu):Yd×Cu:=(za c (jq c 26 s).1.toNat ([],newYd,(jq c 26 s).2)).2
def jBw (c:List UInt8):Int:=(c.take 4000).foldl (fun h u=>jqI (IntKind.i64.wrap (IntKind.i64.wrap (IntKind.i64.wrap (h*131)+(u.toNat:Int))+7)) 1073741823) (94701+(c.length:Int))
def jws (c:List UInt8):Cu:=(0,jBw c)
theorem jkX {l:List UInt8} {k:Nat} {u:UInt8} (h:l[k]?=some u):(jcy l).elem k=[D.val (.int .u8 (u.toNat:Int))]:=by
 have h1:=(List.getElem?_eq_some_iff.1 h).1;simp only [jcy,D.elem,D.cells,D.size,Nat.mul_one,←List.map_drop];rw [List.drop_eq_getElem_cons h1,(List.getElem?_eq_some_iff.1 h).2];rfl
def qq (b ty:Nat) (c:List UInt8) (s:Cu):Ob:=.box b ty [.a (.ro (jcy c)),.a (.v (.int .i64 (s.1:Int))),.a (.v (.int .i64 s.2))]
def jfz:C:=iS [iA 2 (.mov (.c (.pointer none)))] (iS [iA 5 (iM 0),iA 6 (iG 5),iA 7 (.bin .add 3 (.c (.int .i64 94701)) (.t 6)),iA 3 (iM 7)] (.seq (iS [iA 4 (iN 0)] (.blk 0 (.loop (.seq (iS [iA 8 (iM 4),iA 9 (iM 0),iA 10 (iG 9),iA 11 (iP .lss 3 8 10),iA 12 (iM 11),iB 13 12 true (iM 4),iB 14 12 true (iQ .lss 3 13 4000),iA 15 (.pick (.t 12) (.t 14) (.c (.bool false)))] (iD 15 .skip (.exit 0))) (.seq (.blk 1 (.reg [iA 18 (iM 3),iA 19 (iQ .mul 3 18 131),iA 20 (iM 0),iA 21 (iM 4),iA 22 (iI 1 20 21),iA 23 (iL 22),iA 24 (.cv (.num .i64) 0 (.t 23)),iA 25 (iP .add 3 19 24),iA 26 (iQ .add 3 25 7),iA 27 (iQ .and 3 26 1073741823),iA 3 (iM 27)])) (.reg [iA 16 (iM 4),iA 17 (iQ .add 3 16 1),iA 4 (iM 17)])))))) (iS [iA 28 (iM 0),iA 29 (iM 3),iA 30 (.bld [.slice none 0 0,.int .i64 0,.int .i64 0] [(0,1,.t 28),(2,1,.t 29)]),iA 31 (.box 258 3 (.t 30)),iA 2 (iM 31)] .ret)))
theorem jhy:fnC Tryz.prog Tryz.f132=some (jfz,[.t 2],32):=by kernel_rfl
def jdS:C:=iS [iA 2 (iN 0)] (iS [iA 4 (iM 0),iA 5 (iM 0),iA 6 (iF 0 5),iA 7 (iF 2 6),iA 8 (iL 7),iA 9 (iQ .mul 3 8 6364136223846793005),iA 10 (iQ .add 3 9 1442695040888963407),iA 11 (iF 0 4),iA 12 (iF 2 11),iC (.st 1 [none] (.t 12) (.t 10))] (.seq (.dreg (T.pure 0 (iA 13 (iM 0)) (T.pure 1 (iA 14 (iF 0 13)) (T.pure 2 (iA 15 (iF 2 14)) (T.pure 3 (iA 16 (iL 15)) (T.pure 4 (iA 17 (.bin .shr 3 (.t 16) (.c (.int .u64 33)))) (T.pure 5 (iA 18 (iM 0)) (T.pure 6 (iA 19 (iF 0 18)) (T.pure 7 (iA 20 (iF 2 19)) (T.pure 8 (iA 21 (iL 20)) (T.pure 9 (iA 22 (.bin .shr 3 (.t 21) (.c (.int .u64 45)))) (T.pure 10 (iA 23 (iP .xor 3 17 22)) (T.pure 11 (iA 24 (iQ .and 3 23 255)) (T.pure 12 (iA 3 (iM 24)) T.done)))))))))))))) (.seq (.seq (.dreg (T.pure 0 (iA 25 (iM 0)) (T.pure 1 (iA 26 (iF 0 25)) (T.pure 2 (iA 27 (iF 1 26)) (T.pure 3 (iA 28 (iL 27)) (T.pure 4 (iA 29 (iM 0)) (T.pure 5 (iA 30 (iF 0 29)) (T.pure 6 (iA 31 (iF 0 30)) (T.pure 7 (iA 32 (iL 31)) (T.pure 8 (iA 33 (iG 32)) (T.pure 9 (iA 34 (iP .lss 3 28 33)) T.done))))))))))) (iD 34 (.seq (.dreg (T.pure 0 (iA 35 (iM 3)) (T.pure 1 (iA 36 (iM 0)) (T.pure 2 (iA 37 (iF 0 36)) (T.pure 3 (iA 38 (iF 0 37)) (T.pure 4 (iA 39 (iL 38)) (T.pure 5 (iA 40 (iM 0)) (T.pure 6 (iA 41 (iF 0 40)) (T.pure 7 (iA 42 (iF 1 41)) (T.pure 8 (iA 43 (iL 42)) (T.pure 9 (iA 44 (iI 1 39 43)) (T.pure 10 (iA 45 (iL 44)) (T.pure 11 (iA 46 (.cv (.num .i64) 0 (.t 45))) (T.pure 12 (iA 47 (iP .add 3 35 46)) (T.pure 13 (iA 48 (iQ .and 3 47 255)) (T.pure 14 (iA 3 (iM 48)) T.done)))))))))))))))) (.reg [iA 49 (iM 0),iA 50 (iM 0),iA 51 (iF 0 50),iA 52 (iF 1 51),iA 53 (iL 52),iA 54 (iQ .add 3 53 1),iA 55 (iF 0 49),iA 56 (iF 1 55),iC (.st 1 [none] (.t 56) (.t 54))])) .skip)) (iS [iA 57 (iM 3),iA 2 (iM 57)] .ret))))
theorem jgB:fnC Tryz.prog Tryz.f281=some (jdS,[.t 2],58):=by kernel_rfl
def jcH:C:=iS [iA 4 (iN 0)] (.seq (iS [iA 9 (iM 1),iA 10 (iQ .leq 3 9 0)] (iD 10 (iS [iA 4 (iN 0)] .ret) .skip)) (.seq (iS [iA 11 (iM 1),iA 12 (iQ .leq 3 11 256)] (iD 12 (iS [iA 13 (iM 0),iA 14 (.call 281 [.t 13]),iA 15 (iM 1),iA 16 (iP .rem 3 14 15),iA 4 (iM 16)] .ret) .skip)) (iS [iA 17 (iM 0),iA 18 (.call 281 [.t 17]),iA 5 (iM 18)] (iS [iA 19 (iM 0),iA 20 (.call 281 [.t 19]),iA 6 (iM 20)] (iS [iA 21 (iM 0),iA 22 (.call 281 [.t 21]),iA 7 (iM 22)] (iS [iA 23 (iM 0),iA 24 (.call 281 [.t 23]),iA 8 (iM 24)] (iS [iA 25 (iM 5),iA 26 (iQ .mul 3 25 16777216),iA 27 (iM 6),iA 28 (iQ .mul 3 27 65536),iA 29 (iP .add 3 26 28),iA 30 (iM 7),iA 31 (iQ .mul 3 30 256),iA 32 (iP .add 3 29 31),iA 33 (iM 8),iA 34 (iP .add 3 32 33),iA 35 (iM 1),iA 36 (iP .rem 3 34 35),iA 4 (iM 36)] .ret)))))))
theorem jfi:fnC Tryz.prog Tryz.f232=some (jcH,[.t 4],37):=by kernel_rfl
def jdR:C:=iS [iA 4 (iO false)] (iS [iA 5 (iM 0),iA 6 (iM 1),iA 7 (.call 232 [.t 5,.t 6]),iA 8 (iQ .eql 3 7 0),iA 4 (iM 8)] .ret)
theorem jgA:fnC Tryz.prog Tryz.f293=some (jdR,[.t 4],9):=by kernel_rfl
def jdN:C:=iS [iA 2 (.alloc 71 [.int .i64 0,.int .i64 0,.int .i64 0,.int .i64 0,.slice none 0 0])] (iS [iA 9 (iM 0),iA 10 (.call 232 [.t 9,.c (.int .i64 4)]),iA 11 (iM 0),iA 12 (.call 232 [.t 11,.c (.int .i64 3)]),iA 13 (.bin .add 3 (.c (.int .i64 1)) (.t 12)),iA 14 (iM 0),iA 15 (.call 232 [.t 14,.c (.int .i64 4)]),iA 16 (.bin .add 3 (.c (.int .i64 1)) (.t 15)),iA 17 (iM 0),iA 18 (.call 232 [.t 17,.c (.int .i64 6)]),iA 19 (.bin .add 3 (.c (.int .i64 1)) (.t 18)),iA 20 (.bld [.int .i64 0,.int .i64 0,.int .i64 0,.int .i64 0,.slice none 0 0] [(0,1,.t 10),(1,1,.t 13),(2,1,.t 16),(3,1,.t 19)]),iA 3 (.alloc 71 [.int .i64 0,.int .i64 0,.int .i64 0,.int .i64 0,.slice none 0 0]),iC (.st 5 [none,none,none,none,some (2,253)] (.t 3) (.t 20))] (.seq (iS [iA 21 (iM 0),iA 22 (.call 293 [.t 21,.c (.int .i64 10)])] (iD 22 (.reg [iA 23 (iF 3 3),iC (.st 1 [none] (.t 23) (.c (.int .i64 12)))]) .skip)) (.seq (iS [iA 4 (iN 0)] (.blk 0 (.loop (.seq (iS [iA 24 (iM 4),iA 25 (iM 0),iA 26 (.call 232 [.t 25,.c (.int .i64 9)]),iA 27 (iP .lss 3 24 26),iA 28 (iM 27),iB 29 28 true (iF 3 3),iB 30 28 true (iL 29),iB 31 28 true (iQ .gtr 3 30 1),iA 32 (.pick (.t 28) (.t 31) (.c (.bool false)))] (iD 32 .skip (.exit 0))) (.seq (.blk 1 (iS [iA 35 (iM 0),iA 36 (iF 3 3),iA 37 (iL 36),iA 38 (iQ .sub 3 37 1),iA 39 (.call 232 [.t 35,.t 38]),iA 40 (.bin .add 3 (.c (.int .i64 1)) (.t 39)),iA 5 (iM 40)] (iS [iA 41 (iM 0),iA 42 (iM 5),iA 43 (.call 232 [.t 41,.t 42]),iA 44 (iM 5),iA 45 (.bld [.int .i64 0,.int .i64 0] [(0,1,.t 43),(1,1,.t 44)]),iA 6 (.alloc 253 [.int .i64 0,.int .i64 0]),iC (.st 2 [none,none] (.t 6) (.t 45))] (iS [iA 7 (iO false)] (.seq (iS [iA 8 (iN 0)] (.blk 2 (.loop (.seq (iS [iA 46 (iM 8),iA 47 (iF 4 3),iA 48 (iL 47),iA 49 (iG 48),iA 50 (iP .lss 3 46 49)] (iD 50 .skip (.exit 2))) (.seq (.blk 3 (.dreg (T.pure 0 (iA 53 (iM 7)) (T.pure 1 (iA 54 (iM 53)) (T.pure 2 (iB 55 54 false (iF 4 3)) (T.pure 3 (iB 56 54 false (iL 55)) (T.pure 4 (iB 57 54 false (iM 8)) (T.pure 5 (iB 58 54 false (iI 2 56 57)) (T.pure 6 (iB 59 54 false (iT 2 58)) (T.pure 7 (iB 60 54 false (iT 2 6)) (T.pure 8 (iB 61 54 false (iP .eql 253 59 60)) (T.pure 9 (iA 62 (.pick (.t 54) (.c (.bool true)) (.t 61))) (T.pure 10 (iA 7 (iM 62)) T.done))))))))))))) (.reg [iA 51 (iM 8),iA 52 (iQ .add 3 51 1),iA 8 (iM 52)])))))) (iS [iA 63 (iM 7),iA 64 (iU 63)] (iD 64 (.reg [iA 65 (iF 4 3),iA 66 (iL 65),iA 67 (iT 2 6),iA 68 (.bsl 253 2 1 [none,none] [(0,2,.t 67)]),iA 69 (.app 253 2 16 (.t 66) (.t 68)),iA 70 (iF 4 3),iC (.st 1 [some (2,253)] (.t 70) (.t 69))]) .skip))))))) (.reg [iA 33 (iM 4),iA 34 (iQ .add 3 33 1),iA 4 (iM 34)])))))) (iS [iA 71 (iT 5 3),iC (.st 5 [none,none,none,none,some (2,253)] (.t 2) (.t 71))] .ret))))
theorem jgw:fnC Tryz.prog Tryz.f291=some (jdN,[.cell 2 true 5],72):=by kernel_rfl
theorem je3 (c:List UInt8) (hc:c.length≤1048576) (s:Cu) (b:Nat) (o:Nat→Ob) (hs:s.1≤c.length) (ho:o 89=qq b 258 c s):
 jBs Tryz.prog 281 [Bx 89 b] o (Ni (kO c s).1) (jzj o 89 (qq b 258 c (kO c s).2)):=by
 obtain ⟨k,h⟩:=s;dsimp only at hs;refine joV ?_;refine qn (β:=8000000) Tryz.func281 jgB (by simp) ?_
 unfold jdS;unfold qq at ho;have hH:IntKind.i64.wrap (IntKind.i64.wrap (h*6364136223846793005)+1442695040888963407)=jnK h:=rfl;by_cases hlt:k<c.length
 ·have hlt':(k:Int)<(c.length:Int):=by omega
  obtain ⟨u,hu⟩:=je hlt;have hw:IntKind.i64.wrap ((k:Int)+1)=((k+1:Nat):Int):=jg (by omega) (by omega)
  have hr:kO c (k,h)=(jqI (jxh (jnK h)+(u.toNat:Int)) 255,(k+1,jnK h)):=by simp only [kO,hu]
  have hx:=jms (jqM ((jnK h).fdiv (2^33)) ((jnK h).fdiv (2^45)));rw [←show jxh (jnK h)=jqI (jqM ((jnK h).fdiv (2^33)) ((jnK h).fdiv (2^45))) 255 from rfl] at hx
  have hul:=UInt8.toNat_lt u;have hwx:IntKind.i64.wrap (jxh (jnK h)+(u.toNat:Int))=jxh (jnK h)+(u.toNat:Int):=jg (by omega) (by omega)
  simp only [go_sem,ho,hH,hlt',hlt,hw,jkX hu,jxg,qX,jas];rw [hr];refine ⟨?_,ja9 (by simp only [go_sem,qq,hw]) fun g g2=>?_⟩
  ·have e:∀x y:Int,AV.c (A0.v (Value.int .i64 (jqI (IntKind.i64.wrap (jqI (jqM x y) 255+(u.toNat:Int))) 255)))=AV.c (A0.v (Value.int .i64 (IntKind.i64.wrap ((BitVec.ofInt 64 (IntKind.i64.wrap (IntKind.i64.wrap ((BitVec.ofInt 64 (IntKind.i64.wrap ((BitVec.ofInt 64 x^^^BitVec.ofInt 64 y).toNat))&&&BitVec.ofInt 64 255).toNat)+(u.toNat:Int)))&&&BitVec.ofInt 64 255).toNat)))):=fun _ _=>rfl
   refine (e _ _).symm.trans ?_;show AV.c (A0.v (Value.int .i64 (jqI (IntKind.i64.wrap (jxh (jnK h)+(u.toNat:Int))) 255)))=_;rw [hwx]
  ·simp only [go_sem,eq_false g2,if_false]
 ·have hlt':¬(k:Int)<(c.length:Int):=by omega
  have hr:kO c (k,h)=(jxh (jnK h),(k,jnK h)):=by simp only [kO,List.getElem?_eq_none (by omega:c.length≤k)]
  simp only [go_sem,ho,hH,hlt',jas];rw [hr];refine ⟨rfl,ja9 (by simp only [go_sem,qq]) fun g g2=>?_⟩
  simp only [go_sem,eq_false g2,if_false]
theorem kC (c:List UInt8) (hc:c.length≤1048576) (n:Int) (s:Cu) (b:Nat) (o:Nat→Ob) (hs:s.1≤c.length) (ho:o 89=qq b 258 c s):
 jBs Tryz.prog 232 [Bx 89 b,Ni n] o (Ni (jq c n s).1) (jzj o 89 (qq b 258 c (jq c n s).2)):=by
 refine joV ?_;refine qn (β:=9000000) Tryz.func232 jfi (by simp) ?_
 unfold jcH;by_cases h0:n≤0
 ·have hr:jq c n s=(0,s):=by rw [jq,if_pos h0]
  rw [hr];simp only [go_sem,h0];exact ja9 (by simp only [go_sem,ho]) fun g g2=>by simp only [go_sem,eq_false g2,if_false]
 have hn0:n≠0:=by omega
 by_cases h1:n≤256
 ·have hr:jq c n s=((kO c s).1.tmod n,(kO c s).2):=by rw [jq,if_neg h0,if_pos h1]
  rw [hr];simp only [go_sem,h0,h1];refine kg (je3 c hc s b _ hs (by simp only [go_sem,ho])) (by simp only [go_sem]) ?_
  simp only [go_sem,hn0];exact ja9 (by simp only [go_sem]) fun g g2=>by simp only [go_sem,eq_false g2,if_false]
 ·have hr:jq c n s=(((kO c s).1*16777216+(kO c (kO c s).2).1*65536+(kO c (kO c (kO c s).2).2).1*256+(kO c (kO c (kO c (kO c s).2).2).2).1).tmod n,(kO c (kO c (kO c (kO c s).2).2).2).2):=by rw [jq,if_neg h0,if_neg h1]
  rw [hr];simp only [go_sem,h0,h1];refine kg (je3 c hc s b _ hs (by simp only [go_sem,ho])) (by simp only [go_sem]) ?_
  have a1:=jaf c s;have t1:=jaM hs;generalize kO c s=r1 at*;simp only [go_sem];refine kg (je3 c hc r1.2 b _ t1 (by simp only [go_sem])) (by simp only [go_sem]) ?_
  have a2:=jaf c r1.2;have t2:=jaM t1;generalize kO c r1.2=r2 at*;simp only [go_sem];refine kg (je3 c hc r2.2 b _ t2 (by simp only [go_sem])) (by simp only [go_sem]) ?_
  have a3:=jaf c r2.2;have t3:=jaM t2;generalize kO c r2.2=r3 at*;simp only [go_sem];refine kg (je3 c hc r3.2 b _ t3 (by simp only [go_sem])) (by simp only [go_sem]) ?_
  have a4:=jaf c r3.2;generalize kO c r3.2=r4 at*;have w1:IntKind.i64.wrap (r1.1*16777216)=r1.1*16777216:=jg (by omega) (by omega)
  have w2:IntKind.i64.wrap (r2.1*65536)=r2.1*65536:=jg (by omega) (by omega)
  have w3:IntKind.i64.wrap (r1.1*16777216+r2.1*65536)=r1.1*16777216+r2.1*65536:=jg (by omega) (by omega)
  have w4:IntKind.i64.wrap (r3.1*256)=r3.1*256:=jg (by omega) (by omega)
  have w5:IntKind.i64.wrap (r1.1*16777216+r2.1*65536+r3.1*256)=r1.1*16777216+r2.1*65536+r3.1*256:=jg (by omega) (by omega)
  have w6:IntKind.i64.wrap (r1.1*16777216+r2.1*65536+r3.1*256+r4.1)=r1.1*16777216+r2.1*65536+r3.1*256+r4.1:=jg (by omega) (by omega)
  simp only [go_sem,w1,w2,w3,w4,w5,w6,hn0];exact ja9 (by simp only [go_sem]) fun g g2=>by simp only [go_sem,eq_false g2,if_false]
theorem jii (c:List UInt8) (hc:c.length≤1048576) (n:Int) (s:Cu) (b:Nat) (o:Nat→Ob) (hs:s.1≤c.length) (ho:o 89=qq b 258 c s):
 jBs Tryz.prog 293 [Bx 89 b,Ni n] o (.c (.v (.bool ((jq c n s).1==0)))) (jzj o 89 (qq b 258 c (jq c n s).2)):=by
 refine joV ?_;refine qn (β:=9100000) Tryz.func293 jgA (by simp) ?_
 unfold jdR;simp only [go_sem];refine kg (kC c hc n s b _ hs (by simp only [go_sem,ho])) (by simp only [go_sem]) ?_
 simp only [go_sem];exact ja9 (by simp only [go_sem]) fun g g2=>by simp only [go_sem,eq_false g2,if_false]
theorem juk (l:List Ed) (e:Ed):D.sl 2 tEd (l.flatMap jQ++[.val (.int .i64 e.src),.val (.int .i64 e.dst)])=jz (l++[e]):=jsd l e
theorem jk0 {c:List UInt8} {n:Int} {f i:Nat} {E:List Ed} {s:Cu} (h:¬((i:Int)<(jq c 9 s).1∧1<n)):zK c n (f+1) i E s=(E,(jq c 9 s).2):=by rw [zK];dsimp only;rw [if_neg h]
theorem juu {c:List UInt8} {n:Int} {f i:Nat} {E:List Ed} {s:Cu} (h:(i:Int)<(jq c 9 s).1∧1<n):zK c n (f+1) i E s=zK c n f (i+1) (if (⟨(jq c (1+(jq c (n-1) (jq c 9 s).2).1) (jq c (n-1) (jq c 9 s).2).2).1,1+(jq c (n-1) (jq c 9 s).2).1⟩:Ed)∈E then E else E++[⟨(jq c (1+(jq c (n-1) (jq c 9 s).2).1) (jq c (n-1) (jq c 9 s).2).2).1,1+(jq c (n-1) (jq c 9 s).2).1⟩]) (jq c (1+(jq c (n-1) (jq c 9 s).2).1) (jq c (n-1) (jq c 9 s).2).2).2:=by rw [zK];dsimp only;rw [if_pos h]
theorem jtV (c:List UInt8) (hc:c.length≤1048576) (s:Cu) (b:Nat) (o:Nat→Ob) (hs:s.1≤c.length) (ho:o 89=qq b 258 c s) (h86:o 86=.none):
 Inl Tryz.prog 291 [Bx 89 b] o fun av o2=>∃e:jr,av=.agg [.v (.int .i64 (jb4 c s).1.prio),.v (.int .i64 (jb4 c s).1.most),.v (.int .i64 (jb4 c s).1.wait),.v (.int .i64 (jb4 c s).1.tasks),.v (e [])]∧(e []).oneCell'=true∧o2 86=.loose (jz (jb4 c s).1.edges) e∧o2 89=qq b 258 c (jb4 c s).2∧∀g,g<900000000→g≠86→g≠89→o2 g=o g:=by
 refine jkQ (β:=9000000) [[1,1],[1,1,1],[1,1,1,1],[1,1,1,1,0]] Tryz.func291 jgw (by simp) ?_
 unfold jdN;simp only [C.ghs,C.ghAt,List.foldr];simp only [go_sem];intro b2;refine kg (kC c hc 4 s b _ hs (by simp only [go_sem,ho])) (by simp only [go_sem]) ?_
 have s1:=ju (n:=4) hs;have r1:=jR c (n:=4) s (by omega)
 generalize hq1:jq c 4 s=q1 at*;simp only [go_sem];refine kg (kC c hc 3 q1.2 b _ s1 (by simp only [go_sem])) (by simp only [go_sem]) ?_
 have s2:=ju (n:=3) s1;have r2:=jR c (n:=3) q1.2 (by omega)
 generalize hq2:jq c 3 q1.2=q2 at*;simp only [go_sem];refine kg (kC c hc 4 q2.2 b _ s2 (by simp only [go_sem])) (by simp only [go_sem]) ?_
 have s3:=ju (n:=4) s2;have r3:=jR c (n:=4) q2.2 (by omega)
 generalize hq3:jq c 4 q2.2=q3 at*;simp only [go_sem];refine kg (kC c hc 6 q3.2 b _ s3 (by simp only [go_sem])) (by simp only [go_sem]) ?_
 have s4:=ju (n:=6) s3;have r4:=jR c (n:=6) q3.2 (by omega)
 generalize hq4:jq c 6 q3.2=q4 at*;have w2:IntKind.i64.wrap (1+q2.1)=1+q2.1:=jg (by omega) (by omega)
 have w3:IntKind.i64.wrap (1+q3.1)=1+q3.1:=jg (by omega) (by omega)
 have w4:IntKind.i64.wrap (1+q4.1)=1+q4.1:=jg (by omega) (by omega)
 simp only [go_sem,w2,w3,w4];intro b3;have s5:=ju (n:=10) s4;generalize hq5:jq c 10 q4.2=q5 at*;obtain ⟨n,hn⟩:∃n:Int,(if q5.1=0 then (12:Int) else 1+q4.1)=n:=⟨_,rfl⟩
 have hn12:1≤n∧n≤12:=by rw [←hn];split<;>omega
 have hpl:jb4 c s=(⟨q1.1,1+q2.1,1+q3.1,n,(zK c n 9 0 [] q5.2).1⟩,(zK c n 9 0 [] q5.2).2):=by
  simp only [jb4,hq1,hq2,hq3,hq4,hq5,hn]
 generalize hD0:zK c n 9 0 [] q5.2=D0 at hpl;rw [hpl];refine kZ (WkK.of ?_);refine jsT (fun _:Unit=>St.ofB [(0,Bx 89 b),(2,Bx 900000200 b2),(3,Bx 900000300 b3)] [(900000200,ZPl b2 71),(900000300,jwM b3 71 q1.1 (1+q2.1) (1+q3.1) n [] jb5)] 900000000 (fun j=>if j=89 then qq b 258 c q5.2 else o j)) ?_ ?_
 ·simp only [go_sem]
  refine kg (jii c hc 10 q4.2 b _ s4 (by simp only [go_sem])) (by simp only [go_sem]) ?_
  rw [hq5];cases h5:q5.1==0
  ·have e:¬q5.1=0:=by simpa using h5
   rw [if_neg e] at hn;simp only [go_sem,h5];exact ⟨(),(kU [some 900000200,some 900000300] (by simp only [go_sem,kj,hn,w2,w3,w4]<;>and_intros<;>first|rfl|assumption|trivial) (fun j hj=>by by_cases e89:j=89<;>simp only [go_sem,e89,hj,if_true,if_false,jA hj 900000200 (by omega),jA hj 900000300 (by omega),kj,hn,w2,w3,w4]) (by decide))⟩
  ·have e:q5.1=0:=by simpa using h5
   rw [if_pos e] at hn;simp only [go_sem,h5];exact ⟨(),(kU [some 900000200,some 900000300] (by simp only [go_sem,kj,hn,w2,w3,w4]<;>and_intros<;>first|rfl|assumption|trivial) (fun j hj=>by by_cases e89:j=89<;>simp only [go_sem,e89,hj,if_true,if_false,jA hj 900000200 (by omega),jA hj 900000300 (by omega),kj,hn,w2,w3,w4]) (by decide))⟩
 rintro ⟨⟩;refine jsT (fun i:{i:(List Ed×Cu)×jr//D0=i.1}=>St.ofB [(0,Bx 89 b),(2,Bx 900000200 b2),(3,Bx 900000300 b3)] [(900000200,ZPl b2 71),(900000300,jwM b3 71 q1.1 (1+q2.1) (1+q3.1) n i.1.1.1 i.1.2)] 900000000 (fun j=>if j=89 then qq b 258 c i.1.1.2 else o j)) ?_ ?_
 ·simp only [go_sem]
  refine jp (fun i:(Nat×List Ed×Cu)×jr=>St.ofB [(0,Bx 89 b),(2,Bx 900000200 b2),(3,Bx 900000300 b3),(4,Ni i.1.1)] [(900000200,ZPl b2 71),(900000300,jwM b3 71 q1.1 (1+q2.1) (1+q3.1) n i.1.2.1 i.2)] 900000000 (fun j=>if j=89 then qq b 258 c i.1.2.2 else o j)) (fun i=>i.1.1≤8∧i.1.2.1.length≤i.1.1∧i.1.2.2.1≤c.length∧D0=zK c n (9-i.1.1) i.1.1 i.1.2.1 i.1.2.2) (fun i=>9-i.1.1) ((0,[],q5.2),jb5) (⟨Nat.zero_le 8,Nat.le_refl 0,s5,hD0.symm⟩) (kU [some 900000200,some 900000300] (by simp only [go_sem]<;>and_intros<;>first|rfl|assumption|trivial) (fun j hj=>by by_cases e89:j=89<;>simp only [go_sem,e89,hj,if_true,if_false,jA hj 900000200 (by omega),jA hj 900000300 (by omega)]) (by decide)) ?_
  rintro ⟨⟨ii,E,u⟩,e0⟩ ⟨hi8,hEl,hu,hdE⟩;dsimp only at hi8 hEl hu hdE;obtain ⟨f,hf⟩:∃f,9-ii=f+1:=⟨8-ii,by omega⟩
  rw [hf] at hdE;simp only [go_sem];refine kg (kC c hc 9 u b _ hu (by simp only [go_sem])) (by simp only [go_sem]) ?_
  have u1:=ju (n:=9) hu;have x1:=jR c (n:=9) u (by omega)
  generalize hp1:jq c 9 u=p1 at*;by_cases hlt:(ii:Int)<p1.1;rotate_left
  ·rw [jk0 (by rw [hp1];omega),hp1] at hdE
   simp only [go_sem,hlt];exact ⟨⟨((E,p1.2),e0),hdE⟩,(kU [some 900000200,some 900000300] (by simp only [go_sem]<;>and_intros<;>first|rfl|assumption|trivial) (fun j hj=>by by_cases e89:j=89<;>simp only [go_sem,e89,hj,if_true,if_false,jA hj 900000200 (by omega),jA hj 900000300 (by omega)]) (by decide))⟩
  by_cases hgt:n>1;rotate_left
  ·rw [jk0 (by omega),hp1] at hdE
   simp only [go_sem,hlt,hgt];exact ⟨⟨((E,p1.2),e0),hdE⟩,(kU [some 900000200,some 900000300] (by simp only [go_sem]<;>and_intros<;>first|rfl|assumption|trivial) (fun j hj=>by by_cases e89:j=89<;>simp only [go_sem,e89,hj,if_true,if_false,jA hj 900000200 (by omega),jA hj 900000300 (by omega)]) (by decide))⟩
  rw [juu (by rw [hp1];omega),hp1] at hdE
  have hwn:IntKind.i64.wrap (n-1)=n-1:=jg (by omega) (by omega)
  simp only [go_sem,hlt,hgt,hwn];refine kg (kC c hc (n-1) p1.2 b _ u1 (by simp only [go_sem])) (by simp only [go_sem,hwn]) ?_
  have u2:=ju (n:=n-1) u1;have x2:=jR c (n:=n-1) p1.2 (by omega)
  generalize hp2:jq c (n-1) p1.2=p2 at*;have hw2:IntKind.i64.wrap (1+p2.1)=1+p2.1:=jg (by omega) (by omega)
  simp only [go_sem,hw2];refine kg (kC c hc (1+p2.1) p2.2 b _ u2 (by simp only [go_sem])) (by simp only [go_sem,hw2]) ?_
  have u3:=ju (n:=1+p2.1) u2;have x3:=jR c (n:=1+p2.1) p2.2 (by omega)
  generalize hp3:jq c (1+p2.1) p2.2=p3 at*;simp only [go_sem,hw2];intro b6;obtain ⟨e,he⟩:∃e:Ed,e=⟨p3.1,1+p2.1⟩:=⟨_,rfl⟩;have he1:p3.1=e.src:=by rw [he]
  have he2:1+p2.1=e.dst:=by rw [he]
  rw [←he] at hdE;have hwi:IntKind.i64.wrap ((ii:Int)+1)=((ii+1:Nat):Int):=jg (by omega) (by omega)
  refine jp (fun i:Nat=>St.ofB [(0,Bx 89 b),(2,Bx 900000200 b2),(3,Bx 900000300 b3),(4,Ni ii),(6,Bx 900000600 b6),(7,.c (.v (.bool (decide (e∈E.take i))))),(8,Ni i)] [(900000200,ZPl b2 71),(900000300,jwM b3 71 q1.1 (1+q2.1) (1+q3.1) n E e0),(900000600,.box b6 253 [.a (.v (.int .i64 e.src)),.a (.v (.int .i64 e.dst))])] 900000000 (fun j=>if j=89 then qq b 258 c p3.2 else o j)) (fun i=>i≤E.length) (fun i=>E.length-i) 0 (by (try dsimp only);first|omega|(simp;done)|(and_intros<;>first|omega|simp)) (kU [some 900000200,some 900000300,some 900000600] (by simp only [go_sem,List.take_zero,List.not_mem_nil,decide_false,hw2,he1,he2]<;>and_intros<;>first|rfl|assumption|trivial) (fun j hj=>by by_cases e89:j=89<;>simp only [go_sem,e89,hj,if_true,if_false,jA hj 900000200 (by omega),jA hj 900000300 (by omega),jA hj 900000600 (by omega),List.take_zero,List.not_mem_nil,decide_false,hw2,he1,he2]) (by decide)) ?_
  rintro k hk;by_cases hkl:k<E.length
  ·have hkl':(k:Int)<(E.length:Int):=by omega
   have h0k:(k:Int)≥0:=by omega
   obtain ⟨x,hx⟩:=je hkl;have hwk:IntKind.i64.wrap ((k:Int)+1)=((k+1:Nat):Int):=jg (by omega) (by omega)
   have htk:E.take (k+1)=E.take k++[x]:=by rw [List.take_add_one,hx];rfl
   by_cases hm:e∈E.take k
   ·have h1:decide (e∈E.take k)=true:=decide_eq_true hm
    have h2:decide (e∈E.take (k+1))=true:=decide_eq_true (by rw [htk];simp [hm])
    simp only [go_sem,hkl',h1];exact ⟨k+1,by (try dsimp only);first|omega|assumption|(and_intros<;>first|omega|assumption),(kU [some 900000200,some 900000300,some 900000600] (by simp only [go_sem,h2,hwk]<;>and_intros<;>first|rfl|assumption|trivial) (fun j hj=>by by_cases e89:j=89<;>simp only [go_sem,e89,hj,if_true,if_false,jA hj 900000200 (by omega),jA hj 900000300 (by omega),jA hj 900000600 (by omega),h2,hwk]) (by decide)),by (try dsimp only);omega⟩
   ·have h1:decide (e∈E.take k)=false:=decide_eq_false hm
    by_cases hxe:x=e
    ·have h2:decide (e∈E.take (k+1))=true:=decide_eq_true (by rw [htk];simp [hxe])
     have h3:decide (x=e)=true:=decide_eq_true hxe;simp only [go_sem,hkl',hkl,h0k,h1,jn3 hx,jnu hkl,jQ,h3];exact ⟨k+1,by (try dsimp only);first|omega|assumption|(and_intros<;>first|omega|assumption),(kU [some 900000200,some 900000300,some 900000600] (by simp only [go_sem,h2,hwk,h3]<;>and_intros<;>first|rfl|assumption|trivial) (fun j hj=>by by_cases e89:j=89<;>simp only [go_sem,e89,hj,if_true,if_false,jA hj 900000200 (by omega),jA hj 900000300 (by omega),jA hj 900000600 (by omega),h2,hwk,h3]) (by decide)),by (try dsimp only);omega⟩
    ·have h2:decide (e∈E.take (k+1))=false:=decide_eq_false (by rw [htk];simp [hm];exact fun h=>hxe h.symm)
     have h3:decide (x=e)=false:=decide_eq_false hxe;simp only [go_sem,hkl',hkl,h0k,h1,jn3 hx,jnu hkl,jQ,h3];exact ⟨k+1,by (try dsimp only);first|omega|assumption|(and_intros<;>first|omega|assumption),(kU [some 900000200,some 900000300,some 900000600] (by simp only [go_sem,h2,hwk,h3]<;>and_intros<;>first|rfl|assumption|trivial) (fun j hj=>by by_cases e89:j=89<;>simp only [go_sem,e89,hj,if_true,if_false,jA hj 900000200 (by omega),jA hj 900000300 (by omega),jA hj 900000600 (by omega),h2,hwk,h3]) (by decide)),by (try dsimp only);omega⟩
  ·obtain rfl:k=E.length:=by omega
   have hkl':¬((E.length:Nat):Int)<(E.length:Int):=by omega
   rw [List.take_length];by_cases hm:e∈E
   ·have h1:decide (e∈E)=true:=decide_eq_true hm
    rw [if_pos hm] at hdE;simp only [go_sem,hkl',h1];exact ⟨((ii+1,E,p3.2),e0),⟨by dsimp only;omega,by dsimp only;omega,u3,by rw [show 9-(ii+1)=f by omega];exact hdE⟩,(kU [some 900000200,some 900000300] (by simp only [go_sem,hwi]<;>and_intros<;>first|rfl|assumption|trivial) (fun j hj=>by by_cases e89:j=89<;>simp only [go_sem,e89,hj,if_true,if_false,jA hj 900000200 (by omega),jA hj 900000300 (by omega),jA hj 900000600 (by omega),hwi]) (by decide)),by (try dsimp only);omega⟩
   ·have h1:decide (e∈E)=false:=decide_eq_false hm
    rw [if_neg hm] at hdE;simp only [go_sem,hkl',h1];intro e1;refine ⟨by unfold maxLen;omega,by omega,fun e2=>?_⟩
    exact ⟨((ii+1,E++[e],p3.2),e2),⟨by dsimp only;omega,by dsimp only;simp;omega,u3,by rw [show 9-(ii+1)=f by omega];exact hdE⟩,(kU [some 900000200,some 900000300] (by simp only [go_sem,hwi,juk]<;>and_intros<;>first|rfl|assumption|trivial) (fun j hj=>by by_cases e89:j=89<;>simp only [go_sem,e89,hj,if_true,if_false,jA hj 900000200 (by omega),jA hj 900000300 (by omega),jA hj 900000600 (by omega),jA hj 900006800 (by omega),jA hj 900006900 (by omega),hwi,juk]) (by decide)),by (try dsimp only);omega⟩
 rintro ⟨⟨⟨E,u⟩,e0⟩,hdE⟩;dsimp only at hdE;subst hdE;simp only [go_sem];refine kZ ?_;refine qG 900000300 4 86 (d:=jz E) (η:=e0) (by simp only [go_sem]) (by simp only [go_sem,h86]) (by decide) fun hx=>?_
 refine WkK.of ?_;simp only [go_sem,hx];exact ⟨e0,rfl,hx,rfl,fun g g1 g2 g3=>by simp only [g2,g3,g1,jA g1 900000200 (by omega),jA g1 900000300 (by omega),if_true,if_false]⟩
theorem jiD (y:Yd) (k:Nat) (r2:Rn):(kP y k r2).seq≤y.seq+r2.tasks.length:=by
 simp only [kP,jrI,zB];have:=jc6 ((y.runs[k]?).getD default).tasks r2.tasks r2.tasks.length;omega
theorem jpC {y:Yd} (h:YdI y) (k:Nat):((y.runs[k]?).getD default).tasks.length≤12:=by
 cases hr:y.runs[k]? with
 |none=>exact Nat.zero_le _
 |some r=>exact (h.rns.right r (List.mem_of_getElem? hr)).le12
theorem jmQ {y:Yd} (h:YdI y) (k t:Nat):(failK y k t).seq≤y.seq+12:=by
 unfold failK;split
 ·have h1:=jiD y k (jD ((y.runs[k]?).getD default) t)
  have h2:=jpC h k;rw [kY] at h1;omega
 ·omega
theorem jmO {z:Yd} (h:YdI z) (k:Nat):∀t,(restT z k t).seq≤z.seq+12*t
 |0=>by simp [restT]
 |t+1=>by
  have h1:=jmO h k t;have h2:=jmQ (h.restT k t) k t;simp only [restT];omega
theorem jmP {y:Yd} (h:YdI y):∀k,(restR y k).seq≤y.seq+144*k
 |0=>by simp [restR]
 |k+1=>by
  have h1:=jmP h k;have h2:=jmO (h.restR k) k ((y.runs[k]?).getD default).tasks.length;have h3:=jpC h k;simp only [restR];omega
theorem jmN {y:Yd} (h:YdI y):∀i,i≤(kH y).length→(tickI y i).seq≤y.seq+12*i
 |0,_=>by simp [tickI]
 |i+1,hi=>by
  have h1:=jmN h i (by omega)
  have h2:=(h.tickI i (by omega)).1
  obtain ⟨l,hl⟩:=je (show i<(kH y).length by omega)
  rw [jef hl];unfold jlk;have:=jmQ h2 (runAt (tickI y i) (l.headD 0)).toNat (l.tail.headD 0).toNat;omega
theorem jzL {y:Yd} (h:YdI y) (d:Dd):(doY y d).seq≤y.seq+2000:=by
 unfold doY;split
 ·omega
 split
 ·unfold jeg
  split
  ·rename_i hc
   simp only [jrI,zB]
   have hp:jw d.plan=0:=by
    refine Classical.byContradiction fun hp=>?_
    unfold jdt at hc
    repeat' split at hc
    all_goals first|(cases hc;done)|exact hp hc|contradiction|omega
   obtain ⟨n,hn,_,h12,-⟩:=jdd hp;have h3:(jY d.run d.plan).tasks.length≤12:=by rw [jY,jcr];omega
   have h4:(qL 2 (jY d.run d.plan).tasks).length≤(jY d.run d.plan).tasks.length:=vE _ _ _;omega
  ·omega
 split
 ·unfold zE
  split
  ·omega
  ·rename_i hc
   have hok:jC y=true:=by
    cases h:jC y with
    |true=>rfl
    |false=>exact absurd (.inl h) hc
   have hw:0≤d.worker∧d.worker≤99:=by
    refine Classical.byContradiction fun h=>hc (.inr h)
   have hh4:(d.worker.tmod 4).toNat<4:=by rw [Int.tmod_eq_emod_of_nonneg hw.1];omega
   have hI:=(jtm (yard_iff.1 hok) hh4 d.draw).seq;split
   ·omega
   ·simp only [jj6];omega
 split
 ·unfold jcz
  split
  ·have h1:=jiD y (runAt y d.run).toNat (qf ((y.runs[(runAt y d.run).toNat]?).getD default) d.task)
   have h2:=jpC h (runAt y d.run).toNat;rw [jek] at h1;omega
  ·omega
 split
 ·unfold jcx
  split
  ·have h1:=jiD y (runAt y d.run).toNat (jD ((y.runs[(runAt y d.run).toNat]?).getD default) d.task)
   have h2:=jpC h (runAt y d.run).toNat;rw [kY] at h1;omega
  ·omega
 split
 ·unfold jbp
  split
  ·rename_i hc
   have hok:jC y=true:=by
    unfold jaZ at hc;cases h:jC y with
    |true=>rfl
    |false=>rw [if_pos h] at hc;cases hc
   have h1:=jmN h _ (Nat.le_refl _);have h2:=joQ (yard_iff.1 hok);dsimp only;omega
  ·omega
 split
 ·unfold jO
  split
  ·simp only [jdu];omega
  ·omega
 split
 ·unfold qO
  split
  ·dsimp only;omega
  ·omega
 ·unfold jcj
  split
  ·have h1:=jmP h y.runs.length
   have h2:=h.rns.eight;omega
  ·omega
theorem YdI.new:YdI newYd:=by
 refine ⟨by decide,by decide,rfl,fun l hl=>?_,⟨by simp [newYd],by simp [newYd],by simp [newYd],by simp [newYd],by simp [newYd]⟩,⟨by simp [newYd],by simp [newYd],by simp [newYd],by simp [newYd]⟩,by simp [newYd,vq]⟩
 have:l=[]:=by simp [newYd] at hl;exact hl
 subst this;exact List.Pairwise.nil
theorem juH (n:Int) {a b:Int} (h:a≤b):a≤brI n a b∧brI n a b≤b:=by
 unfold brI;split
 ·omega
 ·split<;>omega
theorem jvO:jbz plZ=true:=by decide
theorem zF {n:Int} (h:0≤n∧n≤1000000000):zn n=true:=decide_eq_true h
theorem jvI {p:Pl} (h:jw p=0):jgd p=true:=by
 obtain ⟨n,h1,h2,h3,h4,h5,h6,h7,h8,h9⟩:=jdd h;simp only [jgd,Bool.and_eq_true,decide_eq_true_eq,List.all_eq_true];refine ⟨⟨⟨⟨⟨zF (by omega),zF (by omega)⟩,zF (by omega)⟩,zF (by omega)⟩,by omega⟩,fun e he=>?_⟩
 have:=h5 e he;unfold okE at this;simp only [edB,Bool.and_eq_true];exact ⟨zF (by omega),zF (by omega)⟩
theorem jwt (c:List UInt8) {y:Yd} (s:Cu) (hi:∀r∈y.runs,1≤r.id∧r.id≤9999):0≤(qs c y s).1.1∧(qs c y s).1.1≤9999:=by
 unfold qs;split
 ·rename_i x s' e
  obtain ⟨r,h1,h2⟩:=jjc _ e;have:=hi r h1;dsimp only;omega
 ·rename_i s' e
  have:=jR c (n:=5) s' (by decide)
  dsimp only;omega
theorem jwu (c:List UInt8) {y:Yd} (s:Cu) (hi:∀r∈y.runs,1≤r.id∧r.id≤9999):kf (qp c y s).1=true:=by
 unfold qp;dsimp only;generalize jq c 20 s=k at*;have hh:=jwt c k.2 hi;have b9:=jR c (n:=9) k.2 (by decide)
 have b8:=jR c (n:=8) k.2 (by decide)
 have b7:=jR c (n:=7) (jq c 8 k.2).2 (by decide)
 have hp:=jwq c (jq c 9 k.2).2;have ht:=juH (qs c y k.2).1.2.1 (a:=0) (b:=99) (by decide)
 have hv:=juH (qs c y k.2).1.2.2 (a:=0) (b:=99) (by decide)
 have hz:=jvO
 repeat' split
 ·simp [kf,hz,zF (n:=(jq c 8 k.2).1) (by omega),zF (n:=(jq c 7 (jq c 8 k.2).2).1) (by omega)]
 ·simp [kf,jvI hp,zF (n:=1+(jq c 9 k.2).1) (by omega)]
 ·simp [kf,hz,zF (n:=(qs c y k.2).1.1) (by omega),zF (n:=brI (qs c y k.2).1.2.1 0 99) (by omega),zF (n:=brI (qs c y k.2).1.2.2 0 99) (by omega)]
 ·simp [kf,hz,zF (n:=(qs c y k.2).1.1) (by omega),zF (n:=brI (qs c y k.2).1.2.1 0 99) (by omega),zF (n:=brI (qs c y k.2).1.2.2 0 99) (by omega)]
 ·simp [kf,hz]
 ·simp [kf,hz,zF (n:=1+(jq c 9 k.2).1) (by omega)]
 ·simp [kf,hz,zF (n:=1+(jq c 9 k.2).1) (by omega)]
 ·simp [kf,hz]
 ·simp [kf,hz]
theorem YdI.ids {y:Yd} (h:YdI y):∀r∈y.runs,1≤r.id∧r.id≤9999:=fun r hr=>of_decide_eq_true (h.rns.right r hr).id
structure DdsI (c:List UInt8) (n:Nat) (x:List Dd×Yd×Cu):Prop where
 yd:YdI x.2.1
 seq:x.2.1.seq≤1+2000*n
 len:x.1.length=n
 ok:∀d∈x.1,kf d=true
 at_:x.2.2.1≤c.length
 yis:x.2.1=x.1.foldl doY newYd
 edges:∀d∈x.1,d.plan.edges.length≤9
theorem jjf (c:List UInt8) (y:Yd) (s:Cu):(qp c y s).1.plan.edges.length≤9:=by
 unfold qp;dsimp only
 repeat' split
 all_goals first
  |exact Nat.zero_le _
  |(have:=(jje c (if (jq c 10 (jq c 6 (jq c 4 (jq c 3 (jq c 4 (jq c 9 (jq c 20 s).2).2).2).2).2).2).1=0 then 12 else 1+(jq c 6 (jq c 4 (jq c 3 (jq c 4 (jq c 9 (jq c 20 s).2).2).2).2).2).1) 9 0 [] (jq c 10 (jq c 6 (jq c 4 (jq c 3 (jq c 4 (jq c 9 (jq c 20 s).2).2).2).2).2).2).2 ⟨by simp,by simp⟩).2;simpa [jb4] using this)
theorem DdsI.start {c:List UInt8} {s:Cu} (h:s.1≤c.length):DdsI c 0 ([],newYd,s):=⟨.new,by simp [newYd],rfl,by simp,h,rfl,by simp⟩
theorem DdsI.next {c:List UInt8} {n:Nat} {x:List Dd×Yd×Cu} (h:DdsI c n x):DdsI c (n+1) (x.1++[(qp c x.2.1 x.2.2).1],doY x.2.1 (qp c x.2.1 x.2.2).1,(qp c x.2.1 x.2.2).2):=by
 have hd:=jwu c x.2.2 h.yd.ids;refine ⟨h.yd.do _,?_,by simp [h.len],fun d hm=>?_,jwv h.at_,?_,fun d hm=>?_⟩
 ·have h1:=jzL h.yd (qp c x.2.1 x.2.2).1
  have h2:=h.seq;dsimp only;omega
 ·rcases List.mem_append.1 hm with hm|hm
  ·exact h.ok d hm
  ·simp at hm;subst hm;exact hd
 ·rw [List.foldl_append,←h.yis];rfl
 ·rcases List.mem_append.1 hm with hm|hm
  ·exact h.edges d hm
  ·simp at hm;subst hm;exact jjf _ _ _
theorem jqs {c:List UInt8}:∀(n m:Nat) {x:List Dd×Yd×Cu},DdsI c m x→DdsI c (m+n) (za c n x)
 |0,m,x,h=>h
 |n+1,m,x,h=>by
  rw [za,show m+(n+1)=(m+1)+n by omega]
  exact jqs n (m+1) h.next
end Go.Proofs.YtmnpailnelmpiaaGreat
