/- Parts. -/
import Derived.Test.YtmnpailnelmpiaaQE4
set_option linter.unusedSimpArgs false
set_option linter.unusedVariables false
namespace Go.Proofs.Ytmnpailnelmpiaa
open Go.RowKit Go.Sort
section
variable {P:Program} {B N:Nat} {w w0:World} {s:St} {a:Act} {F:Nat→List Nat} {o:Oper} {G:AV→List (Nat×Ob)→Prop} {d:Nat} {rt:RT}
theorem jwF {op:BinOp} {t:TypeId} {k k':IntKind} {m n:Int} (h:juJ op k k' n):(binOp op t (.int k m) (.int k' n)).run P w=.ok (jaM op k m n) w:=by
 cases op with
 |shl=>have h:0≤n:=h;have h':¬n<0:=by omega
       simp [binOp,Op.shift,h',jaM]
 |shr=>have h:0≤n:=h;have h':¬n<0:=by omega
       simp [binOp,Op.shift,h',jaM]
 |quo=>obtain ⟨rfl,h⟩:=h
       simp [binOp,Op.intDiv,h,jaM]
 |rem=>obtain ⟨rfl,h⟩:=h
       simp [binOp,Op.intDiv,h,jaM]
 |_=>
  obtain rfl:k=k':=h;simp [binOp,Op.intArith,Op.intBits,Op.intCmp,jaM]
theorem go_bin (h:RelF B w0 N s a w F) {op:BinOp} {t t':TypeId} {x y:Operand} {x' y':X} (ho:o.op=.binOp op t x y t') (hx:jC x=some x') (hy:jC y=some y')
 (hg:∀st,∃av os,Gen P s d rt st (.bin op t x' y') av os∧G av os):Goes P o a w (ka B w G):=by
 obtain ⟨av,os,⟨h1,rfl⟩,hG⟩:=hg ⟨0,fun _ _=>undef⟩
 rcases h1 with ⟨u,v,r,h2,h3,h4,rfl⟩|⟨l,m,xs,ys,b,h2,h3,h4,h5,h6,rfl⟩
 ·have e1:=jgh h hx h2
  have e2:=jgh h hy h3;refine qT (v:=r) ?_ (by exact rfl) hG
  unfold jyb at h4;split at h4
  ·obtain ⟨h5,rfl⟩:=h4
   have hr:=fun m=>jwF (P:=P) (w:=w) (t:=t) (m:=m) h5
   cases op<;>simp [execOp,ho,e1,e2,eqGuard,hr]
  ·split at h4
   ·obtain ⟨h5,rfl⟩:=h4
    unfold maxLen at h5;rename_i b1 b2 _;have h6:¬((9223372036854775807:Int)<(b1.size:Int)+(b2.size:Int)):=by omega
    simp [execOp,ho,e1,e2,eqGuard,binOp,Op.stringOp,IntKind.max,h6];simp [IntKind.signed,IntKind.bits];omega
   ·subst h4
    simp [execOp,ho,e1,e2,eqGuard,binOp,Op.stringOp]
   ·subst h4
    simp [execOp,ho,e1,e2,eqGuard,binOp,Op.stringOp]
   ·exact h4.elim
  ·exact h4.elim
 ·have hv1:=qb h hx
  have hv2:=qb h hy;rw [h2] at hv1;rw [h3] at hv2;obtain ⟨us,e1,k1⟩:=hv1;obtain ⟨vs,e2,k2⟩:=hv2
  have key:∀(l:List A0) (us xs:List Value),A0RelL B w l us→ja8 l=some xs→us=xs:=by
   intro l
   induction l with
   |nil=>intro us xs k1 k2;simp [ja8] at k2;subst k2;exact k1
   |cons a0 l ih=>
    intro us xs k1 k2;obtain ⟨u,us',rfl,k3,k4⟩:=k1;cases a0 with
    |v x=>
     simp only [ja8] at k2;split at k2
     ·simp at k2;subst k2
      rw [show u=x from k3,ih us' _ k4 (by assumption)]
     ·simp at k2
    |_=>simp [ja8] at k2
  obtain rfl:=key l us xs k1 h4;obtain rfl:=key m vs ys k2 h5;obtain ⟨h7,h8⟩:=h6 w;refine qT (v:=.bool b) ?_ (by exact rfl) hG
  simp [execOp,ho,e1,e2,h7,h8]
theorem go_num (h:RelF B w0 N s a w F) {t t':TypeId} {x:Operand} {x':X} {k0 k:IntKind} {e:Nat} (ho:o.op=.convert t t' x) (ht:P.underlying t=some (.int k0)) (ht':P.underlying t'=some (.int k)) (hx:jC x=some x')
 (hg:∀st,∃av os,Gen P s d rt st (.cv (.num k) e x') av os∧G av os):Goes P o a w (ka B w G):=by
 obtain ⟨av,os,⟨⟨k',n,h1,rfl⟩,rfl⟩,hG⟩:=hg ⟨0,fun _ _=>undef⟩
 refine qT (v:=.int k (k.wrap n)) ?_ (by exact rfl) hG
 simp [execOp,ho,convert,run_underlying ht,run_underlying ht',jgh h hx h1,Conv.intToInt]
theorem go_text (h:RelF B w0 N s a w F) {t t' e:TypeId} {x:Operand} {x':X} (ho:o.op=.convert t t' x) (ht:P.underlying t=some (.slice e)) (he:P.underlying e=some (.int .u8)) (ht':P.underlying t'=some .string) (hx:jC x=some x')
 (hg:∀st,∃av os,Gen P s d rt st (.cv .text e x') av os∧G av os):Goes P o a w (ka B w G):=by
 obtain ⟨av,os,⟨⟨a0,ty,bs,h1,h2,rfl⟩,rfl⟩,hG⟩:=hg ⟨0,fun _ _=>undef⟩
 have hv:=qb h hx;rw [h1] at hv;obtain ⟨S,h3⟩:=jhz h hv h2;obtain ⟨A,n,c,vs,S',hu,h4,h5,_,_,_,h6,h7⟩:=vq h3;simp only [List.length_map,Nat.mul_one] at h4;subst h4;refine qT (v:=.string ⟨bs.toArray⟩) ?_ (by exact rfl) hG
 have hvs:vs=bs.map fun b=>.int .u8 (b.toNat:Int):=by
  have key:∀(bs:List UInt8) (vs:List Value) (S:List Nat),RepL w false (bs.map kj) vs S→vs=bs.map fun b=>.int .u8 (b.toNat:Int):=by
   intro bs
   induction bs with
   |nil=>intro vs S h;exact h.1
   |cons b bs ih=>
    intro vs S h;obtain ⟨v,vs',S1,S2,rfl,_,k1,k2⟩:=h;rw [List.map_cons,←ih vs' S2 k2,show v=.int .u8 (b.toNat:Int) from k1.1]
  exact key bs vs S' h5
 have hrun:(convert t t' (.slice A bs.length c)).run P w=.ok (.string ⟨bs.toArray⟩) w:=by
  cases A with
  |none=>
   have:=h6 rfl;subst this
   have hn:bs=[]:=by
    cases bs with
    |nil=>rfl
    |cons b bs=>
     obtain ⟨_,_,k1,_⟩:=h7 (by rw [hvs];simp)
     cases k1
   subst hn;exact run_convert_bytes_nil w t e ht he _ _ t' ht'
  |some ad=>
   by_cases hne:bs=[]
   ·subst hne
    rw [run_convert_bytes_string w t t' e _ _ _ ht he ht',run_bytesToString w _ _ _ [] (by simp [loadCells,loadCellsFrom])]
    simp;rfl
   ·obtain ⟨b,off,hA,_,h8⟩:=h7 (by rw [hvs];simpa using hne)
    cases hA;rw [run_convert_bytes_string w t t' e _ _ _ ht he ht',run_bytesToString w _ _ _ (bs.map fun b=>(b.toNat:Int)) ?_]
    ·rw [foldl_push_bytes]
     simp [ByteArray.empty,ByteArray.emptyWithCapacity];show []++_=_;rw [List.nil_append]
     conv=>rhs;rw [←List.map_id bs]
     exact List.map_congr_left fun b _=>by simp
    ·have:=run_loadCells_list (P:=P) w ⟨b,off,none⟩ vs (fun j v hj=>by rw [vI];exact h8 j v hj)
     rw [hvs] at this;simpa [Function.comp_def] using this
 simp only [execOp,ho,hu,Sem.run_bind,hrun,Result.andThen];rfl
theorem jn7 (k:Option (Nat×Nat)) (x:Value):Rep w true (jm0 k x) x []:=by
 unfold jm0;split
 ·exact Rep.nil_ _ _ _
 ·exact ⟨rfl,rfl⟩
theorem jmY:∀(ks:List (Option (Nat×Nat))) (l:List Value),RepL w true (jpJ ks l) l []
 |_,[]=>⟨rfl,rfl⟩
 |ks,x::l=>⟨x,l,[],[],rfl,rfl,jn7 _ _,jmY ks.tail l⟩
theorem go_mks (h:RelF B w0 N s a w F) {t e:TypeId} {l c:Operand} {l' c':X} {i:TypeInfo} {zs:List Value} {ks:List (Option (Nat×Nat))} (ho:o.op=.makeSlice t l c) (ht:P.underlying t=some (.slice e)) (hi:P.info? e=some i) (hz:qI P e=some zs) (hs:0<i.size) (hl:jC l=some l') (hc:jC c=some c')
 (hg:∀st,∃av os,Gen P s d rt st (.mks e i.size i.bytes (jpJ ks zs) l' c') av os∧G av os):Goes P o a w (ka B w G):=by
 obtain ⟨_,_,⟨k,k',n,h1,h2,h3,h4,_⟩,_⟩:=hg ⟨0,fun _ _=>undef⟩
 unfold qI at hz;rw [hi] at hz;simp only at hz;split at hz
 ·rename_i z hzz
  split at hz
  ·rename_i hcc
   simp only [Bool.and_eq_true,decide_eq_true_eq] at hcc;simp at hz;subst hz;obtain ⟨w',hr,r1,r2⟩:=run_make_full (P:=P) w 0 t e i z i.size ht hi hzz rfl k k' n h3 h4 (Nat.zero_le _);obtain ⟨av,os,⟨k2,k2',n2,h1',h2',_,_,rfl,rfl⟩,hG⟩:=hg ⟨0,fun _ p=>hdr w' p (.sl i.size e ((List.replicate n (jpJ ks z.cells.toList)).flatten)) (.slice (some ⟨w.heap.size,0,none⟩) n n)⟩
   rw [h1] at h1'
   have hnn:n=n2:=by
    have:=h1';simp at this;omega
   subst hnn
   have hrun:(execOp a.eval o).run P w=.ok (.value (.slice (some ⟨w.heap.size,0,none⟩) n n)) w':=by
    simp [execOp,ho,jgh h hl h1,jgh h hc h2,hr]
   have hrep:Rep w' true (.sl i.size e ((List.replicate n (jpJ ks z.cells.toList)).flatten)) (.slice (some ⟨w.heap.size,0,none⟩) n n) [w.heap.size]:=by
    have h5:(madeCells z.cells (n*i.size)).toList=(List.replicate n z.cells.toList).flatten:=by
     apply List.ext_getElem?
     intro j;by_cases hj:j<n*i.size
     ·rw [zD (by simp [hcc.1]) hs n j hj]
      simp [madeCells,hj,hcc.1];rw [Array.getElem?_eq_getElem (by rw [hcc.1];exact Nat.mod_lt _ hs)]
      simp only [Option.some.injEq];exact getElem!_pos _ _ _
     ·rw [List.getElem?_eq_none (by simp [madeCells];omega),List.getElem?_eq_none (by simp [hcc.1];omega)]
    rw [h5] at r1
    have key:∀(n:Nat),RepL w' true (List.replicate n (jpJ ks z.cells.toList)).flatten (List.replicate n z.cells.toList).flatten []:=by
     intro n
     induction n with
     |zero=>exact ⟨rfl,rfl⟩
     |succ n ih=>
      simp only [List.replicate_succ,List.flatten_cons];have:=RepL.append_ (jpJ ks z.cells.toList) (jmY (w:=w') ks z.cells.toList) ih;simpa using this
    exact ⟨_,[w.heap.size],[],⟨n,r1,rfl⟩,key _,rfl⟩
   have hn:ja0 B w' [(100*d,.loose (.sl i.size e ((List.replicate n (jpJ ks z.cells.toList)).flatten)) (fun p=>hdr w' p (.sl i.size e ((List.replicate n (jpJ ks z.cells.toList)).flatten)) (.slice (some ⟨w.heap.size,0,none⟩) n n)))] [w.heap.size]:=
    ⟨[w.heap.size],[],rfl,⟨rfl,_,hrep,fun _=>rfl⟩,rfl⟩
   exact mk_ hrun (by exact ⟨rfl,rfl⟩) hn (Fresh.one _ _ (Nat.le_refl _)) (jta r2) hG
  ·simp at hz
 ·simp at hz
theorem go_ext (h:RelF B w0 N s a w F) {x:Operand} {x':X} {i:Nat} (ho:o.op=.extract x i) (hx:jC x=some x') (hg:∀st,∃av os,Gen P s d rt st (.ext x' i) av os∧G av os):Goes P o a w (ka B w G):=by
 obtain ⟨av,os,⟨l,b,az,h1,h2,h3,rfl⟩,hG⟩:=hg ⟨0,fun _ _=>undef⟩
 have hv:=qb h hx;rw [h1] at hv;obtain ⟨us,he,hr⟩:=hv
 have key:∀(l:List (Bool×List A0)) (us:List Value) (i:Nat),TRelL B w l us→l[i]?=some (b,az)→∃u xs,us[i]?=some u∧A0RelL B w az xs∧(if b then u=.agg xs.toArray else xs=[u]):=by
  intro l
  induction l with
  |nil=>intro _ _ _ h;simp at h
  |cons x l ih=>
   intro us i hr hi;obtain ⟨b',as'⟩:=x;obtain ⟨u,us',xs,rfl,k1,k2,k3⟩:=hr;cases i with
   |zero=>simp at hi;obtain ⟨rfl,rfl⟩:=hi;exact ⟨u,xs,rfl,k1,k2⟩
   |succ i=>exact ih us' i k3 (by simpa using hi)
 obtain ⟨u,xs,k1,k2,k3⟩:=key l us i hr h2;refine qT (v:=u) (by simp [execOp,ho,he,Instr.extract,k1]) ?_ hG
 cases b with
 |true=>
  obtain rfl:av=.agg az:=by simpa using h3
  exact ⟨xs,by simpa using k3,k2⟩
 |false=>
  obtain ⟨a0,rfl,rfl⟩:∃a0,az=[a0]∧av=.c a0:=by simpa using h3
  obtain rfl:xs=[u]:=by simpa using k3
  obtain ⟨u',us',k4,k5,_⟩:=k2;cases k4;exact k5
theorem go_mkf (h:RelF B w0 N s a w F) {f:Nat} {first caps:Array Operand} {l:List X} (ho:o.op=.makeFunc (.func f) first caps) (hf:first=#[]) (hc:vf caps.toList=some l) (hg:∀st,∃av os,Gen P s d rt st (.mkf f l) av os∧G av os):Goes P o a w (ka B w G):=by
 obtain ⟨av,os,⟨az,h1,rfl,rfl⟩,hG⟩:=hg ⟨0,fun _ _=>undef⟩
 have key:∀(cs:List Operand) (l:List X) (az:List A0),vf cs=some l→jcx s l=some az→A0RelL B w az (cs.map a.eval):=by
  intro cs
  induction cs with
  |nil=>intro l az k1 k2;simp [vf] at k1;subst k1;simp [jcx] at k2;subst k2;rfl
  |cons c cs ih=>
   intro l az k1 k2;simp only [vf] at k1;split at k1
   ·rename_i c' l' k3 k4
    simp at k1;subst k1;simp only [jcx] at k2;split at k2
    ·rename_i a0 r k5 k6
     simp at k2;subst k2;have:=qb h k3;rw [k5] at this;exact ⟨a.eval c,_,rfl,this,ih l' r k4 k6⟩
    ·simp at k2
   ·simp at k1
 refine qT (v:=.func (.func f) #[] (caps.map a.eval)) (by simp [execOp,ho,hf,Instr.makeFunc]) ?_ hG
 exact ⟨caps.toList.map a.eval,by rw [←Array.toList_map,Array.toArray_toList],key _ _ _ hc h1⟩
end
section
variable {P:Program} {B N:Nat} {w w0:World} {s:St} {a:Act} {F:Nat→List Nat} {o:Oper} {G:AV→List (Nat×Ob)→Prop} {d:Nat} {rt:RT}
theorem zP {isSl:Bool} {len cap l h:Nat} {lo hi:Option Value} (hl:(lo=none∧l=0)∨∃k,lo=some (.int k (l:Int))) (hh:(hi=none∧h=len)∨∃k,hi=some (.int k (h:Int))) (h1:l≤h) (h2:h≤cap):
 (Instr.sliceBounds isSl len cap lo hi none).run P w=.ok (l,h,cap) w:=by
 have e1:(l:Int)≤(h:Int):=by omega
 have e2:(h:Int)≤(cap:Int):=by omega
 rcases hl with ⟨rfl,rfl⟩|⟨k,rfl⟩<;>rcases hh with ⟨rfl,rfl⟩|⟨k',rfl⟩<;>simp [Instr.sliceBounds,Instr.sliceBound,asIntOf,h1,h2]
theorem qA (h:RelF B w0 N s a w F) {x:Option Operand} {x':Option X} {dflt n:Nat} (hx:(x=none∧x'=none)∨∃y y',x=some y∧x'=some y'∧jC y=some y') (hb:jeC s x' dflt n):
 (x.map a.eval=none∧n=dflt)∨∃k,x.map a.eval=some (.int k (n:Int)):=by
 rcases hx with ⟨rfl,rfl⟩|⟨y,y',rfl,rfl,h1⟩
 ·exact .inl ⟨rfl,hb⟩
 ·obtain ⟨k,h2⟩:=hb
  exact .inr ⟨k,by simp [jgh h h1 h2]⟩
theorem go_sl_str (h:RelF B w0 N s a w F) {t:TypeId} {x:Operand} {x':X} {lo hi:Option Operand} {lo' hi':Option X} (ho:o.op=.slice t x lo hi none) (ht:P.underlying t=some .string) (hx:jC x=some x')
 (hlo:(lo=none∧lo'=none)∨∃y y',lo=some y∧lo'=some y'∧jC y=some y') (hhi:(hi=none∧hi'=none)∨∃y y',hi=some y∧hi'=some y'∧jC y=some y')
 (hg:∀st,∃av os,Gen P s d rt st (.sl 0 x' lo' hi') av os∧G av os):Goes P o a w (ka B w G):=by
 obtain ⟨av,os,⟨l,hh,h1,h2,h3,rfl⟩,hG⟩:=hg ⟨0,fun _ _=>undef⟩
 split at h3
 ·rename_i b he
  obtain ⟨_,h4,h5,rfl⟩:=h3;have hb:=zP (P:=P) (w:=w) (isSl:=false) (qA h hlo h1) (qA h hhi h4) h2 h5;refine qT (v:=.string (b.extract l hh)) ?_ (by exact rfl) hG
  simp [execOp,ho,Instr.sliceAt,run_underlying ht,Instr.slice,jgh h hx he,hb]
 ·rename_i dd he
  exact absurd h3.1 (by omega)
 ·rename_i dd he
  exact absurd h3.1 (by omega)
 ·obtain ⟨⟨_,_,_,_,_,_,_,_,_,h6,_⟩,h7,_⟩:=h3
  omega
 ·exact h3.elim
theorem go_sl_ro (h:RelF B w0 N s a w F) {t e:TypeId} {x:Operand} {x':X} {lo hi:Option Operand} {lo' hi':Option X} {m:Nat} (ho:o.op=.slice t x lo hi none) (ht:P.underlying t=some (.slice e)) (hm:kD P e=some (m+1)) (hx:jC x=some x')
 (hlo:(lo=none∧lo'=none)∨∃y y',lo=some y∧lo'=some y'∧jC y=some y') (hhi:(hi=none∧hi'=none)∨∃y y',hi=some y∧hi'=some y'∧jC y=some y')
 (hg:∀st,∃av os,Gen P s d rt st (.sl (m+1) x' lo' hi') av os∧G av os):Goes P o a w (ka B w G):=by
 obtain ⟨av,os,⟨l,hh,h1,h2,h3,rfl⟩,hG⟩:=hg ⟨0,fun _ _=>undef⟩
 have hv:=qb h hx;obtain ⟨inf,hinf,hsz⟩:=jjE hm;split at h3
 ·rename_i b he
  exact absurd h3.1 (by omega)
 ·rename_i dd he
  obtain ⟨_,k1,k2,h4,h5,rfl⟩:=h3;rw [he] at hv;obtain ⟨_,S,k3,k4⟩:=hv;cases dd with
  |val _=>cases k1
  |sl size ty cs=>
   have k2':size=m+1:=k2;subst k2';obtain ⟨A,n,c,vs,S',hu,k5,_,_,k6,_⟩:=vq k3;have hlen:=jfU (ty:=ty) (by omega:0<m+1) k5
   rw [hlen] at h4 h5;rw [hu] at k3;obtain ⟨S2,k7,k8⟩:=jrw (by omega) k3 k4 h2 h5
   have hb:=zP (P:=P) (w:=w) (isSl:=true) (len:=n) (cap:=c) (qA h hlo h1) (qA h hhi h4) h2 (by omega)
   refine qT (v:=.slice (if c=l then A else A.map (·.add (l*(m+1)))) (hh-l) (c-l)) ?_ (by exact ⟨rfl,S2,k7,k8⟩) hG
   simp [execOp,ho,Instr.sliceAt,run_underlying ht,Instr.slice,hu,hb,sizeOf,typeInfo,hinf,hsz]
 ·rename_i g c p hx' he
  obtain ⟨_,⟨dd,⟨d0,η,k1,k2,k3,k4⟩,k5,h4,h5⟩,rfl⟩:=h3;rw [he] at hv;have hv:a.eval x=hx':=hv.1;obtain ⟨S,k6,_⟩:=qX h k1 k2 k3 k4;cases dd with
  |val _=>cases k4
  |sl size ty cs=>
   have k5':size=m+1:=k5;subst k5';obtain ⟨A,n,c,vs,S',hu,k7,_⟩:=vq k6.ro;have hlen:=jfU (ty:=ty) (by omega:0<m+1) k7
   rw [hlen] at h4 h5;obtain ⟨A2,n2,c2,_,_,hu2,_,_,_,hnc,_⟩:=vq k6.ro;rw [hu] at hu2;cases hu2;have hb:=zP (P:=P) (w:=w) (isSl:=true) (len:=n) (cap:=c) (qA h hlo h1) (qA h hhi h4) h2 (by omega)
   refine qT (v:=joY hx' (m+1) l (hh-l)) ?_ (by exact ⟨.inl rfl,by rw [hu];rfl⟩) hG
   simp [execOp,ho,Instr.sliceAt,run_underlying ht,Instr.slice,hv,hu,hb,sizeOf,typeInfo,hinf,hsz,joY]
 ·rename_i g c p hx' sz lo m' he
  obtain ⟨⟨dd,d0,η,d1,k1,k2,k3,k4,k5,k6,k7,rfl⟩,rfl,h4,h5,rfl⟩:=h3;rw [he] at hv;have hv:a.eval x=joY hx' (m+1) lo m'∨0<lo∧m'=0∧∃A,a.eval x=.slice A 0 0:=hv.1;rcases hv with hv|⟨hlo0,rfl,A,hv⟩;rotate_left
  ·have hb:=zP (P:=P) (w:=w) (isSl:=true) (len:=0) (cap:=0) (qA h hlo h1) (qA h hhi h4) h2 (by omega)
   obtain rfl:hh=0:=by omega
   obtain rfl:l=0:=by omega
   refine qT (v:=.slice A 0 0) ?_ (by exact ⟨.inr ⟨by omega,rfl,A,rfl⟩,rfl⟩) hG
   simp [execOp,ho,Instr.sliceAt,run_underlying ht,Instr.slice,hv,hb,sizeOf,typeInfo,hinf,hsz]
  obtain ⟨S,k8,_⟩:=qX h k1 k2 k3 k4;cases d1 with
  |val _=>cases k4
  |sl size ty cs=>
   have k5':size=m+1:=k5;subst k5';obtain ⟨A,n,c,vs,S',hu,k9,_,_,hnc,_⟩:=vq k8.ro;have hlen:=jfU (ty:=ty) (by omega:0<m+1) k9
   rw [hlen] at k7;rw [hu] at hv;simp only [joY] at hv;have hb:=zP (P:=P) (w:=w) (isSl:=true) (len:=m') (cap:=c-lo) (qA h hlo h1) (qA h hhi h4) h2 (by omega)
   refine qT (v:=.slice (if c-lo=l then (if c=lo then A else A.map (·.add (lo*(m+1)))) else (if c=lo then A else A.map (·.add (lo*(m+1)))).map (·.add (l*(m+1)))) (hh-l) (c-lo-l)) ?_ (by
    refine ⟨?_,rfl⟩;rw [hu];simp only [joY];by_cases hcl:c-lo=l
    ·rw [if_pos hcl]
     obtain rfl:hh=l:=by omega
     by_cases hz:lo+hh=0
     ·obtain rfl:lo=0:=by omega
      obtain rfl:hh=0:=by omega
      obtain rfl:c=0:=by omega
      left;simp
     ·right
      refine ⟨by omega,by omega,_,by rw [show hh-hh=0 by omega,show c-lo-hh=0 by omega]⟩
    ·left
     have h8:c≠lo:=by omega
     have h9:¬c=lo+l:=by omega
     rw [if_neg hcl,if_neg h8,if_neg h9];rw [Nat.sub_sub]
     congr 1
     cases A with
     |none=>rfl
     |some ad=>simp [Addr.add_add,Nat.add_mul]) hG
   simp [execOp,ho,Instr.sliceAt,run_underlying ht,Instr.slice,hv,hb,sizeOf,typeInfo,hinf,hsz]
 ·exact h3.elim
theorem jk2 {α:Type}:∀(l:List α) (cs:List α) (k:Nat),(kC cs k l).length=cs.length
 |[],_,_=>rfl
 |x::l,cs,k=>by rw [kC,jk2 l];simp
theorem A0RelL.set:∀{l:List A0} {us:List Value} {k:Nat} {a0:A0} {u:Value},A0RelL B w l us→A0Rel B w a0 u→A0RelL B w (l.set k a0) (us.set k u)
 |[],us,_,_,_,h,_=>by rw [show us=[] from h];rfl
 |_::_,_,0,_,u,⟨u',us',h1,h2,h3⟩,hu=>by subst h1;exact ⟨u,us',rfl,hu,h3⟩
 |_::_,_,k+1,_,_,⟨u',us',h1,h2,h3⟩,hu=>by subst h1;exact ⟨u',_,rfl,h2,A0RelL.set h3 hu⟩
theorem A0RelL.setAt_:∀{m:List A0} {xs:List Value} {l:List A0} {us:List Value} {k:Nat},A0RelL B w l us→A0RelL B w m xs→A0RelL B w (kC l k m) (kC us k xs)
 |[],xs,_,_,_,h,hm=>by rw [show xs=[] from hm];exact h
 |_::_,_,_,_,k,h,⟨u',us',h1,h2,h3⟩=>by subst h1;have:=A0RelL.setAt_ (k:=k+1) (h.set (k:=k) h2) h3;exact this
theorem je3 (off:Nat):∀(xs:List Value) (k:Nat) (us:List Value),(xs.zipIdx k).foldl (fun cs (p:Value×Nat)=>cs.setIfInBounds (off+p.2) p.1) us.toArray=(kC us (off+k) xs).toArray
 |[],_,_=>rfl
 |x::xs,k,us=>by
  rw [List.zipIdx_cons,List.foldl_cons,kC];have:us.toArray.setIfInBounds (off+k) x=(us.set (off+k) x).toArray:=by simp
  simp only [this];rw [je3 off xs (k+1) _];rfl
theorem jor (h:RelF B w0 N s a w F) {place:Nat→Option (Nat×Nat)}:∀{parts:List (Nat×Operand)} {ps:List (Nat×Nat×X)} {l l':List A0} {us:List Value},jbz place parts=some ps→A0RelL B w l us→jgg s l ps=some l'→
 ∃us':List Value,Instr.fill place us.toArray (parts.map fun p=>(p.1,a.eval p.2))=some us'.toArray∧A0RelL B w l' us'
 |[],ps,l,l',us,h1,h2,h3=>by
  simp [jbz] at h1;subst h1;simp [jgg] at h3;subst h3;exact ⟨us,rfl,h2⟩
 |(i,x)::parts,ps,l,l',us,h1,h2,h3=>by
  simp only [jbz] at h1;split at h1
  ·rename_i off n x' ps' k1 k2 k3
   simp at h1;subst h1;simp only [jgg] at h3;split at h3
   ·rename_i m k4
    split at h3
    ·rename_i k5
     obtain ⟨xs,k6,k7⟩:=VRel.cells (qb h k2) k4;obtain ⟨us',k8,k9⟩:=jor h k3 (h2.setAt_ k7 (k:=off)) h3;refine ⟨us',?_,k9⟩;have hxl:=A0RelL.len k7;have hul:=A0RelL.len h2;have e1:¬(xs.length≠n∨us.length<off+xs.length):=by omega
     have e2:=je3 off xs 0 us;simp only [Nat.add_zero] at e2;simp only [List.map_cons,Instr.fill,k1,k6];rw [if_neg (by simpa using e1)]
     rw [←Array.foldl_toList,Array.toList_zipIdx];rw [show (xs.toArray.toList.zipIdx 0)=xs.zipIdx 0 from rfl,e2]
     exact k8
    ·simp at h3
   ·simp at h3
  ·simp at h1
theorem go_bld (h:RelF B w0 N s a w F) {t:TypeId} {parts:Array (Nat×Operand)} {fs:Array Field} {zs:List Value} {ps:List (Nat×Nat×X)} (ho:o.op=.build t parts) (ht:P.underlying t=some (.struct fs)) (hz:qI P t=some zs)
 (hall:(fs.toList.all fun f=>(P.info? f.type).isSome)=true) (hps:jbz (fun i=>match fs[i]? with|some f=>(kD P f.type).map fun n=>(f.offset,n)|none=>none) parts.toList=some ps)
 (hg:∀st,∃av os,Gen P s d rt st (.bld zs ps) av os∧G av os):Goes P o a w (ka B w G):=by
 obtain ⟨av,os,⟨l,h1,rfl,rfl⟩,hG⟩:=hg ⟨0,fun _ _=>undef⟩
 unfold qI at hz;split at hz
 ·rename_i i hi
  split at hz
  ·rename_i z hzz
   split at hz
   ·simp at hz;subst hz
    have hzr:∀l:List Value,A0RelL B w (l.map .v) l:=by
     intro l
     induction l with
     |nil=>rfl
     |cons x l ih=>exact ⟨x,l,rfl,rfl,ih⟩
    have hpl:∀l:List Field,(l.all fun f=>(P.info? f.type).isSome)=true→l.mapM (fun f=>(P.info? f.type).map fun i=>(f.offset,i.size))=some (l.map fun f=>(f.offset,(kD P f.type).getD 0)):=by
     intro l
     induction l with
     |nil=>intro _;rfl
     |cons f l ih=>
      intro hl;simp only [List.all_cons,Bool.and_eq_true] at hl;obtain ⟨j,hj⟩:=Option.isSome_iff_exists.1 hl.1;rw [List.mapM_cons,ih hl.2];simp [hj,kD]
    have hplace:(fun (i:Nat)=>match fs[i]? with|some f=>(kD P f.type).map fun n=>(f.offset,n)|none=>none)=fun i=>((fs.toList.map fun (f:Field)=>(f.offset,(kD P f.type).getD 0)).toArray[i]?):=by
     funext j
     cases hj:fs[j]? with
     |none=>simp [hj]
     |some f=>
      have hm:f∈fs.toList:=by simpa using Array.mem_of_getElem? hj
      obtain ⟨k,hk⟩:=Option.isSome_iff_exists.1 (List.all_eq_true.1 hall f hm);simp [hj,kD,hk]
    obtain ⟨us',k1,k2⟩:=jor h hps (hzr z.cells.toList) h1;refine qT (v:=.agg us'.toArray) ?_ (by exact ⟨us',rfl,k2⟩) hG
    have hb:P.built t (parts.map fun (p:Nat×Operand)=>(p.1,a.eval p.2)).toList=some us'.toArray:=by
     unfold Program.built;simp only [hi,ht,hzz,hpl _ hall];rw [←hplace,Array.toList_map];simpa using k1
    have:=run_build w t _ _ hb;simp only [execOp,ho];rw [Sem.run_bind,this];rfl
   ·simp at hz
  ·simp at hz
 ·simp at hz
end
section
variable {P:Program} {B N:Nat} {w w0:World} {s:St} {a:Act} {F:Nat→List Nat} {o:Oper} {G:AV→List (Nat×Ob)→Prop} {d:Nat} {rt:RT}
theorem jsk (h:RelF B w0 N s a w F):∀{l:List A0} {us:List Value} {ds:List D},A0RelL B w l us→IsL s l ds→∃S,RepL w false ds us S
 |[],us,[],h1,_=>⟨[],h1,rfl⟩
 |[],_,_::_,_,h2=>h2.elim
 |_::_,_,[],_,h2=>h2.elim
 |_::_,_,_::_,⟨u,us',h1,h3,h4⟩,⟨h5,h6⟩=>by
  subst h1;obtain ⟨S1,k1⟩:=jhz h h3 h5;obtain ⟨S2,k2⟩:=jsk h h4 h6;exact ⟨S1++S2,RepL.cons_ k1 k2⟩
theorem IsP.is {x:A0} {d:D} (h:IsP x d):Is s x d:=by cases x<;>first|exact h|exact h.elim
theorem jh5 (h:RelF B w0 N s a w F) {g b:Nat}:∀{l:List Cell} {us:List Value} {S:List Nat} {c:Nat} {ds:List D},CRel B w l us S→Ptr.go s g b l c ds→∃S',RepL w false ds us S'
 |[],us,_,_,[],⟨h1,_⟩,_=>⟨[],h1,rfl⟩
 |[],_,_,_,_::_,_,h2=>h2.elim
 |.a _::_,_,_,_,[],_,h2=>h2.elim
 |.own _ _::_,_,_,_,[],_,h2=>h2.elim
 |.a x::l,_,_,c,d::ds,⟨u,us',h1,h3,h4⟩,⟨h5,h6⟩=>by
  subst h1;obtain ⟨S1,k1⟩:=jhz h h3 h5.is;obtain ⟨S2,k2⟩:=jh5 h h4 h6;exact ⟨S1++S2,RepL.cons_ k1 k2⟩
 |.own d' η::l,_,_,c,d::ds,⟨u,us',S1,S2,h1,h3,h4,h5,_,h6⟩,⟨h7,h8⟩=>by
  subst h1 h7;obtain ⟨S3,k2⟩:=jh5 h h6 h8;exact ⟨S1++S3,RepL.cons_ h5.ro k2⟩
theorem jrH (h:RelF B w0 N s a w F) {x:A0} {u:Value} {ds:List D} (hr:A0Rel B w x u) (hp:Ptr s x ds):ViewRel.CellsAt w ds u:=by
 cases x with
 |rp ds'=>
  have hp:ds'=ds:=hp;subst hp;obtain ⟨b,o',us,S,h1,h2,_,_,h5⟩:=hr;exact ⟨b,o',us,S,h1,h2,h5⟩
 |bp g c b=>
  obtain ⟨ty,cs,h1,l,h2,h3⟩:=hp;have hob:=h.ob g;rw [h1] at hob;obtain ⟨us,S1,k1,k2,_⟩:=hob;obtain ⟨S2,k3,_⟩:=CRel.drop c k2;obtain ⟨S3,k4,_⟩:=CRel.take ds.length k3;rw [h2] at k4;obtain ⟨S4,k5⟩:=jh5 h k4 h3;refine ⟨b,c,_,S4,hr,k5,fun j y hy=>?_⟩
  rw [List.getElem?_take] at hy;split at hy
  ·rw [List.getElem?_drop] at hy
   simp [World.cell?,k1,hy]
  ·simp at hy
 |_=>exact hp.elim
theorem jtx (h:RelF B w0 N s a w F):∀{v:AV} {u:Value} {vw:View},VRel B w v u→jnu s v vw→ViewRel w vw u
 |.c x,u,.c dd,hv,hi=>jhz h hv hi
 |.agg l,u,.agg ds,⟨us,h1,h2⟩,hi=>by
  obtain ⟨S,k⟩:=jsk h h2 hi;exact ⟨S,us,h1,k⟩
 |.c x,u,.ptr ds,hv,hi=>jrH h hv hi
 |.fn f caps,u,.fn f' caps',⟨us,h1,h2⟩,⟨h3,h4⟩=>by
  subst h3;refine ⟨us,h1,?_⟩
  have key:∀(caps:List A0) (us:List Value) (caps':List (List D)),A0RelL B w caps us→jz4 s caps caps'→ViewRel.All2 w caps' us:=by
   intro caps
   induction caps with
   |nil=>intro us caps' k1 k2;cases caps' with|nil=>exact k1|cons _ _=>exact k2.elim
   |cons x l ih=>
    intro us caps' k1 k2;obtain ⟨u,us',rfl,k3,k4⟩:=k1;cases caps' with
    |nil=>exact k2.elim
    |cons ds l'=>exact ⟨u,us',rfl,jrH h k3 k2.1,ih us' l' k4 k2.2⟩
  exact key _ _ _ h2 h4
 |.c _,_,.agg _,_,hi=>hi.elim
 |.c _,_,.fn _ _,_,hi=>hi.elim
 |.agg _,_,.c _,_,hi=>hi.elim
 |.agg _,_,.ptr _,_,hi=>hi.elim
 |.agg _,_,.fn _ _,_,hi=>hi.elim
 |.fn _ _,_,.c _,_,hi=>hi.elim
 |.fn _ _,_,.agg _,_,hi=>hi.elim
 |.fn _ _,_,.ptr _,_,hi=>hi.elim
 |.tup _,_,.c _,_,hi=>hi.elim
 |.tup _,_,.agg _,_,hi=>hi.elim
 |.tup _,_,.ptr _,_,hi=>hi.elim
 |.tup _,_,.fn _ _,_,hi=>hi.elim
 |.unk,_,.c _,_,hi=>hi.elim
 |.unk,_,.agg _,_,hi=>hi.elim
 |.unk,_,.ptr _,_,hi=>hi.elim
 |.unk,_,.fn _ _,_,hi=>hi.elim
theorem jkF (h:RelF B w0 N s a w F):∀{args:List Operand} {xs:List X} {caps:List A0} {cs:List Value} {vs:List View},vf args=some xs→A0RelL B w caps cs→zn s (xs.map s.ev++caps.map .c) vs→vz w vs (args.map a.eval++cs)
 |[],xs,caps,cs,vs,h1,h2,h3=>by
  simp [vf] at h1;subst h1
  have key:∀(caps:List A0) (cs:List Value) (vs:List View),A0RelL B w caps cs→zn s (caps.map .c) vs→vz w vs cs:=by
   intro caps
   induction caps with
   |nil=>intro cs vs k1 k2;cases vs with|nil=>exact k1|cons _ _=>exact k2.elim
   |cons x l ih=>
    intro cs vs k1 k2;obtain ⟨u,us',rfl,k3,k4⟩:=k1;cases vs with
    |nil=>exact k2.elim
    |cons v l'=>exact ⟨u,us',rfl,jtx (v:=.c x) h k3 k2.1,ih us' l' k4 k2.2⟩
  exact key caps cs vs h2 (by simpa using h3)
 |x::args,xs,caps,cs,vs,h1,h2,h3=>by
  simp only [vf] at h1;split at h1
  ·rename_i x' xs' k1 k2
   simp at h1;subst h1;cases vs with
   |nil=>exact h3.elim
   |cons v vs=>exact ⟨a.eval x,_,rfl,jtx h (qb h k1) h3.1,jkF h k2 h2 h3.2⟩
  ·simp at h1
theorem jrt {w':World}:∀{rt:RT} {v:Value} {S:List Nat} (g:Nat),joN w' rt v S→∃η:Nat→jm,VRel B w' (rt.av g η) v∧ja0 B w' (jkI g η 0 rt.flat) S:=by
 have key:∀(ds:List D) (us:List Value) (S:List Nat) (g j:Nat),RepL w' true ds us S→∃η:Nat→jm,(∀η',(∀i,i<ds.length→η' (j+i)=η i)→A0RelL B w' (jzf g η' j ds) us∧ja0 B w' (jkI g η' j ds) S):=by
  intro ds
  induction ds with
  |nil=>intro us S g j h;obtain ⟨rfl,rfl⟩:=h;exact ⟨fun _ _=>undef,fun η' _=>⟨rfl,rfl⟩⟩
  |cons d ds ih=>
   intro us S g j h;obtain ⟨v,vs',S1,S2,rfl,rfl,h3,h4⟩:=h;obtain ⟨η,h5⟩:=ih vs' S2 g (j+1) h4;refine ⟨fun i=>match i with|0=>fun p=>hdr w' p d v|i+1=>η i,fun η' hη=>?_⟩
   have h0:=hη 0 (by simp)
   obtain ⟨h6,h7⟩:=h5 η' fun i hi=>by
    have:=hη (i+1) (by simp;omega)
    rw [show j+1+i=j+(i+1) by omega]
    exact this
   cases d with
   |val u=>
    obtain ⟨rfl,rfl⟩:=h3;exact ⟨⟨_,_,rfl,rfl,h6⟩,by simpa [jkI,D.obj] using h7⟩
   |sl size ty cs=>
    simp only [Nat.add_zero] at h0;refine ⟨⟨v,vs',rfl,?_,h6⟩,S1,S2,rfl,⟨rfl,v,h3,fun p=>by rw [h0]⟩,h7⟩
    obtain ⟨_,_,_,rfl⟩:=qW h3;show _∧_;rw [h0];exact ⟨rfl,rfl⟩
 intro rt v S g hr;cases rt with
 |c d=>
  obtain ⟨η,h1⟩:=key [d] [v] S g 0 ⟨v,[],S,[],rfl,by simp,hr,rfl,rfl⟩
  obtain ⟨⟨u,us',h2,h3,_⟩,h4⟩:=h1 η fun i _=>by rw [Nat.zero_add]
  cases h2;exact ⟨η,h3,h4⟩
 |agg ds=>
  obtain ⟨us,rfl,hr⟩:=hr;obtain ⟨η,h1⟩:=key ds us S g 0 hr;obtain ⟨h2,h3⟩:=h1 η fun i _=>by rw [Nat.zero_add]
  exact ⟨η,⟨us,rfl,h2⟩,h3⟩
 |tup l=>
  obtain ⟨xs,rfl,hr⟩:=hr
  have key2:∀(l:List (Bool×List D)) (xs:List Value) (S:List Nat) (j:Nat),joM w' l xs S→∃η:Nat→jm,∀η',(∀i,i<(l.flatMap (·.2)).length→η' (j+i)=η i)→TRelL B w' (jz5 g η' j l) xs∧ja0 B w' (jkI g η' j (l.flatMap (·.2))) S:=by
   intro l
   induction l with
   |nil=>intro xs S j h;obtain ⟨rfl,rfl⟩:=h;exact ⟨fun _ _=>undef,fun η' _=>⟨rfl,rfl⟩⟩
   |cons p l ih=>
    intro xs S j h;obtain ⟨b,ds⟩:=p;obtain ⟨x,xs',us,S1,S2,rfl,rfl,h1,h2,h3⟩:=h;obtain ⟨η1,h4⟩:=key ds us S1 g j h1;obtain ⟨η2,h5⟩:=ih xs' S2 (j+ds.length) h3;refine ⟨fun i=>if i<ds.length then η1 i else η2 (i-ds.length),fun η' hη=>?_⟩
    obtain ⟨h6,h7⟩:=h4 η' fun i hi=>by
     rw [hη i (by simp;omega)];simp [hi]
    obtain ⟨h8,h9⟩:=h5 η' fun i hi=>by
     have:=hη (ds.length+i) (by simp at hi⊢;omega)
     rw [Nat.add_assoc,this];show (if ds.length+i<ds.length then η1 (ds.length+i) else η2 (ds.length+i-ds.length))=_
     rw [if_neg (by omega),Nat.add_sub_cancel_left]
    refine ⟨⟨x,xs',us,rfl,h6,h2,h8⟩,?_⟩
    have happ:∀(ds es:List D) (j:Nat),jkI g η' j (ds++es)=jkI g η' j ds++jkI g η' (j+ds.length) es:=by
     intro ds
     induction ds with
     |nil=>intro es j;simp [jkI]
     |cons d ds ih=>intro es j;simp only [List.cons_append,jkI,ih,List.append_assoc,List.length_cons];rw [show j+1+ds.length=j+(ds.length+1) by omega]
    have hnew:∀(l m:List (Nat×Ob)) (S1 S2:List Nat),ja0 B w' l S1→ja0 B w' m S2→ja0 B w' (l++m) (S1++S2):=by
     intro l
     induction l with
     |nil=>intro m S1 S2 k1 k2;rw [show S1=[] from k1];exact k2
     |cons q l ih=>intro m S1 S2 k1 k2;obtain ⟨T1,T2,rfl,k3,k4⟩:=k1;exact ⟨T1,T2++S2,by simp,k3,ih m T2 S2 k4 k2⟩
    simp only [List.flatMap_cons,happ];exact hnew _ _ _ _ h7 h9
  obtain ⟨η,h1⟩:=key2 l xs S 0 hr;obtain ⟨h2,h3⟩:=h1 η fun i _=>by rw [Nat.zero_add]
  exact ⟨η,⟨xs,rfl,h2⟩,h3⟩
theorem jmc (h:RelF B w0 N s a w F) {f:Nat} {vs:List View} {xs:List Value} (hrun:(execOp a.eval o).run P w=.ok (.enter f xs.toArray) w) (hp:kl P f vs rt) (hv:vz w vs xs)
 (hG:∀st:jtE,G (rt.av (100*d) st.η) (jkI (100*d) st.η 0 rt.flat)):Goes P o a w (ka B w G):=by
 intro next Q hk;unfold Oper.wp;rw [hrun];refine (hp.2 w xs hv).mono fun e w' ⟨v,S,he,hr,hf,hb⟩=>?_
 subst he;obtain ⟨η,h1,h2⟩:=jrt (B:=B) (100*d) hr;exact hk v w' ⟨_,_,S,h1,h2,hf,hb,hG ⟨0,η⟩⟩
theorem RelF.bare (h:RelF B w0 N s a w F):RelF B w 0 (.only s.o) Act.bare w F:=
 ⟨Below.refl _ _,Nat.le_trans h.hB h.below.size,rfl,rfl,fun _=>trivial,h.ob,h.fr,h.dj⟩
theorem jgU (h:RelF B w0 N s a w F):∀{args:List Operand} {xs:List X} {caps:List A0} {cs:List Value},vf args=some xs→A0RelL B w caps cs→jib B w (xs.map s.ev++caps.map .c) (args.map a.eval++cs)
 |[],xs,caps,cs,h1,h2=>by
  simp [vf] at h1;subst h1
  have key:∀(caps:List A0) (cs:List Value),A0RelL B w caps cs→jib B w (caps.map .c) cs:=by
   intro caps
   induction caps with
   |nil=>intro cs k1;exact k1
   |cons x l ih=>intro cs k1;obtain ⟨u,us',rfl,k3,k4⟩:=k1;exact ⟨u,us',rfl,k3,ih us' k4⟩
  exact key caps cs h2
 |x::args,xs,caps,cs,h1,h2=>by
  simp only [vf] at h1;split at h1
  ·rename_i x' xs' k1 k2
   simp at h1;subst h1;exact ⟨a.eval x,_,rfl,qb h k1,jgU h k2 h2⟩
  ·simp at h1
theorem jbh {f:Nat} {c:Call} {cs xs:List Value} (hn:jmo P f) (ho:o.op=.call c) {y:Operand} (hc:c.callee=.value y) (hy:a.eval y=.func (.func f) #[] cs.toArray) (hx:c.args.toList.map a.eval=xs):
 (execOp a.eval o).run P w=.ok (.enter f (xs++cs).toArray) w:=by
 obtain ⟨fn,hfn,hb,hname⟩:=hn;have hbn:¬fn.body=none:=by intro hq;simp [hq] at hb
 have hne:¬fn.name= "runtime.NumGoroutine":=by simpa using hname
 have hargs:c.args.map a.eval=xs.toArray:=by rw [←hx,←Array.toList_map,Array.toArray_toList]
 simp [execOp,ho,resolve,hc,hy,hargs,Deferred.ofValue,invoke,callFunc,hfn,hbn,hne]
theorem go_call (h:RelF B w0 N s a w F) {c:Call} {f:Nat} {xs:List X} (ho:o.op=.call c) (hc:c.callee=.value (.func f)) (hxs:vf c.args.toList=some xs)
 (hg:∀st,∃av os,Gen P s d rt st (.call f xs) av os∧G av os):Goes P o a w (ka B w G):=by
 obtain ⟨_,_,⟨vs,h1,h2,_,_⟩,_⟩:=hg ⟨0,fun _ _=>undef⟩
 have hv:=jkF (caps:=[]) (cs:=[]) h hxs rfl (by simpa using h1)
 exact jmc (d:=d) h (jbh (cs:=[]) h2.1 ho hc rfl rfl) h2 hv fun st=>by
  obtain ⟨_,_,⟨_,_,_,rfl,rfl⟩,hG⟩:=hg st;exact hG
theorem go_callv (h:RelF B w0 N s a w F) {c:Call} {t:Nat} {xs:List X} (ho:o.op=.call c) (hc:c.callee=.value (.tmp t)) (hxs:vf c.args.toList=some xs)
 (hg:∀st,∃av os,Gen P s d rt st (.callv (.t t) xs) av os∧G av os):Goes P o a w (ka B w G):=by
 obtain ⟨_,_,⟨f,caps,vs,h0,h1,h2,_,_⟩,_⟩:=hg ⟨0,fun _ _=>undef⟩
 have hvf:=h.sl t;rw [show s.t t=.fn f caps from h0] at hvf
 obtain ⟨cs,k1,k2⟩:=hvf;have hv:=jkF h hxs k2 h1
 exact jmc (d:=d) h (jbh h2.1 ho hc k1 rfl) h2 hv fun st=>by
  obtain ⟨_,_,⟨f',caps',vs',h0',h1',h2',rfl,rfl⟩,hG⟩:=hg st;exact hG
end
end Go.Proofs.Ytmnpailnelmpiaa
