/- Parts. -/
import Derived.Test.YtcehjhiglmifjaaGreatQE3b
import Derived.Lib.AppendStr
set_option linter.unusedSimpArgs false
set_option linter.unusedVariables false
namespace Go.Proofs.YtcehjhiglmifjaaGreat
open Go.RowKit Go.Sort
section
variable {P:Program} {B N:Nat} {w w0:World} {s:St} {a:Act} {F:Nat→List Nat} {o:Oper} {G:AV→List (Nat×Ob)→Prop} {d:Nat} {rt:RT}
theorem jys {op:BinOp} {t:TypeId} {k k':IntKind} {m n:Int} (h:jwz op k k' n):(binOp op t (.int k m) (.int k' n)).run P w=.ok (jfm op k m n) w:=by
 cases op with
 |shl=>have h:0≤n:=h;have h':¬n<0:=by omega
       simp [binOp,Op.shift,h',jfm]
 |shr=>have h:0≤n:=h;have h':¬n<0:=by omega
       simp [binOp,Op.shift,h',jfm]
 |quo=>obtain ⟨rfl,h⟩:=h
       simp [binOp,Op.intDiv,h,jfm]
 |rem=>obtain ⟨rfl,h⟩:=h
       simp [binOp,Op.intDiv,h,jfm]
 |_=>
  obtain rfl:k=k':=h;simp [binOp,Op.intArith,Op.intBits,Op.intCmp,jfm]
theorem go_bin (h:RelF B w0 N s a w F) {op:BinOp} {t t':TypeId} {x y:Operand} {x' y':X} (ho:o.op=.binOp op t x y t') (hx:jP x=some x') (hy:jP y=some y')
 (hg:∀st,∃av os,Gen P s d rt st (.bin op t x' y') av os∧G av os):Goes P o a w (ky B w G):=by
 obtain ⟨av,os,⟨h1,rfl⟩,hG⟩:=hg ⟨0,fun _ _=>undef⟩
 rcases h1 with ⟨u,v,r,h2,h3,h4,rfl⟩|⟨l,m,xs,ys,b,h2,h3,h4,h5,h6,rfl⟩
 ·have e1:=jhT h hx h2
  have e2:=jhT h hy h3;refine vF (v:=r) ?_ (by exact rfl) hG
  unfold jB7 at h4;split at h4
  ·obtain ⟨h5,rfl⟩:=h4
   have hr:=fun m=>jys (P:=P) (w:=w) (t:=t) (m:=m) h5
   cases op<;>simp [execOp,ho,e1,e2,eqGuard,hr]
  ·split at h4
   ·obtain ⟨h5,rfl⟩:=h4
    unfold maxLen at h5;rename_i b1 b2 _;have h6:¬((9223372036854775807:Int)<(b1.size:Int)+(b2.size:Int)):=by omega
    simp [execOp,ho,e1,e2,eqGuard,binOp,Op.stringOp,IntKind.max,h6];simp [IntKind.signed,IntKind.bits];omega
   ·subst h4
    simp [execOp,ho,e1,e2,eqGuard,binOp,Op.stringOp]
   ·subst h4
    simp [execOp,ho,e1,e2,eqGuard,binOp,Op.stringOp]
   ·exact h4.elim
  ·exact h4.elim
 ·have hv1:=qE h hx
  have hv2:=qE h hy;rw [h2] at hv1;rw [h3] at hv2;obtain ⟨us,e1,k1⟩:=hv1;obtain ⟨vs,e2,k2⟩:=hv2
  have key:∀(l:List A0) (us xs:List Value),A0RelL B w l us→jce l=some xs→us=xs:=by
   intro l
   induction l with
   |nil=>intro us xs k1 k2;simp [jce] at k2;subst k2;exact k1
   |cons a0 l ih=>
    intro us xs k1 k2;obtain ⟨u,us',rfl,k3,k4⟩:=k1;cases a0 with
    |v x=>
     simp only [jce] at k2;split at k2
     ·simp at k2;subst k2
      rw [show u=x from k3,ih us' _ k4 (by assumption)]
     ·simp at k2
    |_=>simp [jce] at k2
  obtain rfl:=key l us xs k1 h4;obtain rfl:=key m vs ys k2 h5;obtain ⟨h7,h8⟩:=h6 w;refine vF (v:=.bool b) ?_ (by exact rfl) hG
  simp [execOp,ho,e1,e2,h7,h8]
theorem go_num (h:RelF B w0 N s a w F) {t t':TypeId} {x:Operand} {x':X} {k0 k:IntKind} {e:Nat} (ho:o.op=.convert t t' x) (ht:P.underlying t=some (.int k0)) (ht':P.underlying t'=some (.int k)) (hx:jP x=some x')
 (hg:∀st,∃av os,Gen P s d rt st (.cv (.num k) e x') av os∧G av os):Goes P o a w (ky B w G):=by
 obtain ⟨av,os,⟨⟨k',n,h1,rfl⟩,rfl⟩,hG⟩:=hg ⟨0,fun _ _=>undef⟩
 refine vF (v:=.int k (k.wrap n)) ?_ (by exact rfl) hG
 simp [execOp,ho,convert,run_underlying ht,run_underlying ht',jhT h hx h1,Conv.intToInt]
theorem go_text (h:RelF B w0 N s a w F) {t t' e:TypeId} {x:Operand} {x':X} (ho:o.op=.convert t t' x) (ht:P.underlying t=some (.slice e)) (he:P.underlying e=some (.int .u8)) (ht':P.underlying t'=some .string) (hx:jP x=some x')
 (hg:∀st,∃av os,Gen P s d rt st (.cv .text e x') av os∧G av os):Goes P o a w (ky B w G):=by
 obtain ⟨av,os,⟨⟨a0,ty,bs,h1,h2,rfl⟩,rfl⟩,hG⟩:=hg ⟨0,fun _ _=>undef⟩
 have hv:=qE h hx;rw [h1] at hv;obtain ⟨S,h3⟩:=jjs h hv h2;obtain ⟨A,n,c,vs,S',hu,h4,h5,_,_,_,h6,h7⟩:=zz h3;simp only [List.length_map,Nat.mul_one] at h4;subst h4;refine vF (v:=.string ⟨bs.toArray⟩) ?_ (by exact rfl) hG
 have hvs:vs=bs.map fun b=>.int .u8 (b.toNat:Int):=by
  have key:∀(bs:List UInt8) (vs:List Value) (S:List Nat),RepL w false (bs.map qX) vs S→vs=bs.map fun b=>.int .u8 (b.toNat:Int):=by
   intro bs
   induction bs with
   |nil=>intro vs S h;exact h.1
   |cons b bs ih=>
    intro vs S h;obtain ⟨v,vs',S1,S2,rfl,_,k1,k2⟩:=h;rw [List.map_cons,←ih vs' S2 k2,show v=.int .u8 (b.toNat:Int) from k1.1]
  exact key bs vs S' h5
 have hrun:(convert t t' (.slice A bs.length c)).run P w=.ok (.string ⟨bs.toArray⟩) w:=by
  cases A with
  |none=>
   have:=h6 rfl;subst this
   have hn:bs=[]:=by
    cases bs with
    |nil=>rfl
    |cons b bs=>
     obtain ⟨_,_,k1,_⟩:=h7 (by rw [hvs];simp)
     cases k1
   subst hn;exact run_convert_bytes_nil w t e ht he _ _ t' ht'
  |some ad=>
   by_cases hne:bs=[]
   ·subst hne
    rw [run_convert_bytes_string w t t' e _ _ _ ht he ht',run_bytesToString w _ _ _ [] (by simp [loadCells,loadCellsFrom])]
    simp;rfl
   ·obtain ⟨b,off,hA,_,h8⟩:=h7 (by rw [hvs];simpa using hne)
    cases hA;rw [run_convert_bytes_string w t t' e _ _ _ ht he ht',run_bytesToString w _ _ _ (bs.map fun b=>(b.toNat:Int)) ?_]
    ·rw [foldl_push_bytes]
     simp [ByteArray.empty,ByteArray.emptyWithCapacity];show []++_=_;rw [List.nil_append]
     conv=>rhs;rw [←List.map_id bs]
     exact List.map_congr_left fun b _=>by simp
    ·have:=run_loadCells_list (P:=P) w ⟨b,off,none⟩ vs (fun j v hj=>by rw [zP];exact h8 j v hj)
     rw [hvs] at this;simpa [Function.comp_def] using this
 simp only [execOp,ho,hu,Sem.run_bind,hrun,Result.andThen];rfl
theorem jqz (k:Option (Nat×Nat)) (x:Value):Rep w true (jqA k x) x []:=by
 unfold jqA;split
 ·exact Rep.nil_ _ _ _
 ·exact ⟨rfl,rfl⟩
theorem jpm:∀(ks:List (Option (Nat×Nat))) (l:List Value),RepL w true (jr9 ks l) l []
 |_,[]=>⟨rfl,rfl⟩
 |ks,x::l=>⟨x,l,[],[],rfl,rfl,jqz _ _,jpm ks.tail l⟩
theorem go_mks (h:RelF B w0 N s a w F) {t e:TypeId} {l c:Operand} {l' c':X} {i:TypeInfo} {zs:List Value} {ks:List (Option (Nat×Nat))} (ho:o.op=.makeSlice t l c) (ht:P.underlying t=some (.slice e)) (hi:P.info? e=some i) (hz:vp P e=some zs) (hs:0<i.size) (hl:jP l=some l') (hc:jP c=some c')
 (hg:∀st,∃av os,Gen P s d rt st (.mks e i.size i.bytes (jr9 ks zs) l' c') av os∧G av os):Goes P o a w (ky B w G):=by
 obtain ⟨_,_,⟨k,k',n,h1,h2,h3,h4,_⟩,_⟩:=hg ⟨0,fun _ _=>undef⟩
 unfold vp at hz;rw [hi] at hz;simp only at hz;split at hz
 ·rename_i z hzz
  split at hz
  ·rename_i hcc
   simp only [Bool.and_eq_true,decide_eq_true_eq] at hcc;simp at hz;subst hz;obtain ⟨w',hr,r1,r2⟩:=run_make_full (P:=P) w 0 t e i z i.size ht hi hzz rfl k k' n h3 h4 (Nat.zero_le _);obtain ⟨av,os,⟨k2,k2',n2,h1',h2',_,_,rfl,rfl⟩,hG⟩:=hg ⟨0,fun _ p=>hdr w' p (.sl i.size e ((List.replicate n (jr9 ks z.cells.toList)).flatten)) (.slice (some ⟨w.heap.size,0,none⟩) n n)⟩
   rw [h1] at h1'
   have hnn:n=n2:=by
    have:=h1';simp at this;omega
   subst hnn
   have hrun:(execOp a.eval o).run P w=.ok (.value (.slice (some ⟨w.heap.size,0,none⟩) n n)) w':=by
    simp [execOp,ho,jhT h hl h1,jhT h hc h2,hr]
   have hrep:Rep w' true (.sl i.size e ((List.replicate n (jr9 ks z.cells.toList)).flatten)) (.slice (some ⟨w.heap.size,0,none⟩) n n) [w.heap.size]:=by
    have h5:(madeCells z.cells (n*i.size)).toList=(List.replicate n z.cells.toList).flatten:=by
     apply List.ext_getElem?
     intro j;by_cases hj:j<n*i.size
     ·rw [zy (by simp [hcc.1]) hs n j hj]
      simp [madeCells,hj,hcc.1];rw [Array.getElem?_eq_getElem (by rw [hcc.1];exact Nat.mod_lt _ hs)]
      simp only [Option.some.injEq];exact getElem!_pos _ _ _
     ·rw [List.getElem?_eq_none (by simp [madeCells];omega),List.getElem?_eq_none (by simp [hcc.1];omega)]
    rw [h5] at r1
    have key:∀(n:Nat),RepL w' true (List.replicate n (jr9 ks z.cells.toList)).flatten (List.replicate n z.cells.toList).flatten []:=by
     intro n
     induction n with
     |zero=>exact ⟨rfl,rfl⟩
     |succ n ih=>
      simp only [List.replicate_succ,List.flatten_cons];have:=RepL.append_ (jr9 ks z.cells.toList) (jpm (w:=w') ks z.cells.toList) ih;simpa using this
    exact ⟨_,[w.heap.size],[],⟨n,r1,rfl⟩,key _,rfl⟩
   have hn:jb7 B w' [(100*d,.loose (.sl i.size e ((List.replicate n (jr9 ks z.cells.toList)).flatten)) (fun p=>hdr w' p (.sl i.size e ((List.replicate n (jr9 ks z.cells.toList)).flatten)) (.slice (some ⟨w.heap.size,0,none⟩) n n)))] [w.heap.size]:=
    ⟨[w.heap.size],[],rfl,⟨rfl,_,hrep,fun _=>rfl⟩,rfl⟩
   exact mk_ hrun (by exact ⟨rfl,rfl⟩) hn (Fresh.one _ _ (Nat.le_refl _)) (jox r2) hG
  ·simp at hz
 ·simp at hz
theorem A0RelL.drop_:∀{l:List A0} {us:List Value} (k:Nat),A0RelL B w l us→A0RelL B w (l.drop k) (us.drop k)
 |_,_,0,h=>h
 |[],_,_+1,h=>by rw [show _=_ from h];rfl
 |_::_,_,k+1,⟨_,us',h1,_,h3⟩=>by subst h1;exact A0RelL.drop_ k h3
theorem A0RelL.take_:∀{l:List A0} {us:List Value} (k:Nat),A0RelL B w l us→A0RelL B w (l.take k) (us.take k)
 |_,_,0,_=>rfl
 |[],_,_+1,h=>by rw [show _=_ from h];rfl
 |_::_,_,k+1,⟨u,us',h1,h2,h3⟩=>by subst h1;exact ⟨u,us'.take k,rfl,h2,A0RelL.take_ k h3⟩
theorem go_fld (h:RelF B w0 N s a w F) {t:TypeId} {x:Operand} {x':X} {f n:Nat} {agg:Bool} {fs:Array Field} {fd:Field} {dsc:TypeDesc} (ho:o.op=.field t x f) (ht:P.underlying t=some (.struct fs)) (hf:fs[f]?=some fd) (hu:P.underlying fd.type=some dsc) (hagg:agg=jzS dsc) (hn:qa P fd.type=some n) (hx:jP x=some x')
 (hg:∀st,∃av os,Gen P s d rt st (.fld agg fd.offset n x') av os∧G av os):Goes P o a w (ky B w G):=by
 obtain ⟨av,os,⟨l,h1,h2,h3,rfl⟩,hG⟩:=hg ⟨0,fun _ _=>undef⟩
 have hv:=qE h hx;rw [h1] at hv;obtain ⟨us,he,hr⟩:=hv;obtain ⟨i,hi,hin⟩:=ji0 hn;have hl:=A0RelL.len hr;have hp:A0RelL B w ((l.drop fd.offset).take n) ((us.drop fd.offset).take n):=(hr.drop_ _).take_ _;cases agg with
 |true=>
  obtain rfl:av=.agg ((l.drop fd.offset).take n):=by simpa using h3
  have hisagg:(isAgg fd.type).run P w=.ok true w:=by
   simp only [isAgg,Sem.run_bind,run_underlying hu];cases dsc<;>first|rfl|cases hagg
  refine vF (v:=.agg ((us.drop fd.offset).take n).toArray) ?_ (by exact ⟨_,rfl,hp⟩) hG
  simp [execOp,ho,Instr.field,run_underlying ht,hf,he,asAgg,part,hisagg,sizeOf,typeInfo,hi,hin,List.extract_eq_take_drop]
 |false=>
  obtain ⟨a0,e0,rfl⟩:∃a0,(l.drop fd.offset).take n=[a0]∧av=.c a0:=by simpa using h3
  rw [e0] at hp;obtain ⟨u,us',k0,k1,k2⟩:=hp
  have hisagg:(isAgg fd.type).run P w=.ok false w:=by
   simp only [isAgg,Sem.run_bind,run_underlying hu];cases dsc<;>first|rfl|cases hagg
  have hat:us[fd.offset]?=some u:=by
   have e1:((us.drop fd.offset).take n)[0]?=some u:=by rw [k0];rfl
   have hn0:0<n:=by
    rcases Nat.eq_zero_or_pos n with h0|h0
    ·subst h0;simp at e0
    ·exact h0
   rw [List.getElem?_take,if_pos hn0,List.getElem?_drop,Nat.add_zero] at e1;exact e1
  refine vF (v:=u) ?_ (by exact k1) hG
  simp [execOp,ho,Instr.field,run_underlying ht,hf,he,asAgg,part,hisagg,hat]
theorem go_ext (h:RelF B w0 N s a w F) {x:Operand} {x':X} {i:Nat} (ho:o.op=.extract x i) (hx:jP x=some x') (hg:∀st,∃av os,Gen P s d rt st (.ext x' i) av os∧G av os):Goes P o a w (ky B w G):=by
 obtain ⟨av,os,⟨l,b,az,h1,h2,h3,rfl⟩,hG⟩:=hg ⟨0,fun _ _=>undef⟩
 have hv:=qE h hx;rw [h1] at hv;obtain ⟨us,he,hr⟩:=hv
 have key:∀(l:List (Bool×List A0)) (us:List Value) (i:Nat),TRelL B w l us→l[i]?=some (b,az)→∃u xs,us[i]?=some u∧A0RelL B w az xs∧(if b then u=.agg xs.toArray else xs=[u]):=by
  intro l
  induction l with
  |nil=>intro _ _ _ h;simp at h
  |cons x l ih=>
   intro us i hr hi;obtain ⟨b',as'⟩:=x;obtain ⟨u,us',xs,rfl,k1,k2,k3⟩:=hr;cases i with
   |zero=>simp at hi;obtain ⟨rfl,rfl⟩:=hi;exact ⟨u,xs,rfl,k1,k2⟩
   |succ i=>exact ih us' i k3 (by simpa using hi)
 obtain ⟨u,xs,k1,k2,k3⟩:=key l us i hr h2;refine vF (v:=u) (by simp [execOp,ho,he,Instr.extract,k1]) ?_ hG
 cases b with
 |true=>
  obtain rfl:av=.agg az:=by simpa using h3
  exact ⟨xs,by simpa using k3,k2⟩
 |false=>
  obtain ⟨a0,rfl,rfl⟩:∃a0,az=[a0]∧av=.c a0:=by simpa using h3
  obtain rfl:xs=[u]:=by simpa using k3
  obtain ⟨u',us',k4,k5,_⟩:=k2;cases k4;exact k5
theorem go_mkf (h:RelF B w0 N s a w F) {f:Nat} {first caps:Array Operand} {l:List X} (ho:o.op=.makeFunc (.func f) first caps) (hf:first=#[]) (hc:zh caps.toList=some l) (hg:∀st,∃av os,Gen P s d rt st (.mkf f l) av os∧G av os):Goes P o a w (ky B w G):=by
 obtain ⟨av,os,⟨az,h1,rfl,rfl⟩,hG⟩:=hg ⟨0,fun _ _=>undef⟩
 have key:∀(cs:List Operand) (l:List X) (az:List A0),zh cs=some l→jbS s l=some az→A0RelL B w az (cs.map a.eval):=by
  intro cs
  induction cs with
  |nil=>intro l az k1 k2;simp [zh] at k1;subst k1;simp [jbS] at k2;subst k2;rfl
  |cons c cs ih=>
   intro l az k1 k2;simp only [zh] at k1;split at k1
   ·rename_i c' l' k3 k4
    simp at k1;subst k1;simp only [jbS] at k2;split at k2
    ·rename_i a0 r k5 k6
     simp at k2;subst k2;have:=qE h k3;rw [k5] at this;exact ⟨a.eval c,_,rfl,this,ih l' r k4 k6⟩
    ·simp at k2
   ·simp at k1
 refine vF (v:=.func (.func f) #[] (caps.map a.eval)) (by simp [execOp,ho,hf,Instr.makeFunc]) ?_ hG
 exact ⟨caps.toList.map a.eval,by rw [←Array.toList_map,Array.toArray_toList],key _ _ _ hc h1⟩
end
section
variable {P:Program} {B N:Nat} {w w0:World} {s:St} {a:Act} {F:Nat→List Nat} {o:Oper} {G:AV→List (Nat×Ob)→Prop} {d:Nat} {rt:RT}
theorem jba {isSl:Bool} {len cap l h:Nat} {lo hi:Option Value} (hl:(lo=none∧l=0)∨∃k,lo=some (.int k (l:Int))) (hh:(hi=none∧h=len)∨∃k,hi=some (.int k (h:Int))) (h1:l≤h) (h2:h≤cap):
 (Instr.sliceBounds isSl len cap lo hi none).run P w=.ok (l,h,cap) w:=by
 have e1:(l:Int)≤(h:Int):=by omega
 have e2:(h:Int)≤(cap:Int):=by omega
 rcases hl with ⟨rfl,rfl⟩|⟨k,rfl⟩<;>rcases hh with ⟨rfl,rfl⟩|⟨k',rfl⟩<;>simp [Instr.sliceBounds,Instr.sliceBound,asIntOf,h1,h2]
theorem vA (h:RelF B w0 N s a w F) {x:Option Operand} {x':Option X} {dflt n:Nat} (hx:(x=none∧x'=none)∨∃y y',x=some y∧x'=some y'∧jP y=some y') (hb:jgl s x' dflt n):
 (x.map a.eval=none∧n=dflt)∨∃k,x.map a.eval=some (.int k (n:Int)):=by
 rcases hx with ⟨rfl,rfl⟩|⟨y,y',rfl,rfl,h1⟩
 ·exact .inl ⟨rfl,hb⟩
 ·obtain ⟨k,h2⟩:=hb
  exact .inr ⟨k,by simp [jhT h h1 h2]⟩
theorem go_sl_str (h:RelF B w0 N s a w F) {t:TypeId} {x:Operand} {x':X} {lo hi:Option Operand} {lo' hi':Option X} (ho:o.op=.slice t x lo hi none) (ht:P.underlying t=some .string) (hx:jP x=some x')
 (hlo:(lo=none∧lo'=none)∨∃y y',lo=some y∧lo'=some y'∧jP y=some y') (hhi:(hi=none∧hi'=none)∨∃y y',hi=some y∧hi'=some y'∧jP y=some y')
 (hg:∀st,∃av os,Gen P s d rt st (.sl 0 x' lo' hi') av os∧G av os):Goes P o a w (ky B w G):=by
 obtain ⟨av,os,⟨l,hh,h1,h2,h3,rfl⟩,hG⟩:=hg ⟨0,fun _ _=>undef⟩
 split at h3
 ·rename_i b he
  obtain ⟨_,h4,h5,rfl⟩:=h3;have hb:=jba (P:=P) (w:=w) (isSl:=false) (vA h hlo h1) (vA h hhi h4) h2 h5;refine vF (v:=.string (b.extract l hh)) ?_ (by exact rfl) hG
  simp [execOp,ho,Instr.sliceAt,run_underlying ht,Instr.slice,jhT h hx he,hb]
 ·rename_i dd he
  exact absurd h3.1 (by omega)
 ·rename_i dd he
  exact absurd h3.1 (by omega)
 ·obtain ⟨⟨_,_,_,_,_,_,_,_,_,h6,_⟩,h7,_⟩:=h3
  omega
 ·exact h3.elim
theorem go_sl_ro (h:RelF B w0 N s a w F) {t e:TypeId} {x:Operand} {x':X} {lo hi:Option Operand} {lo' hi':Option X} {m:Nat} (ho:o.op=.slice t x lo hi none) (ht:P.underlying t=some (.slice e)) (hm:qa P e=some (m+1)) (hx:jP x=some x')
 (hlo:(lo=none∧lo'=none)∨∃y y',lo=some y∧lo'=some y'∧jP y=some y') (hhi:(hi=none∧hi'=none)∨∃y y',hi=some y∧hi'=some y'∧jP y=some y')
 (hg:∀st,∃av os,Gen P s d rt st (.sl (m+1) x' lo' hi') av os∧G av os):Goes P o a w (ky B w G):=by
 obtain ⟨av,os,⟨l,hh,h1,h2,h3,rfl⟩,hG⟩:=hg ⟨0,fun _ _=>undef⟩
 have hv:=qE h hx;obtain ⟨inf,hinf,hsz⟩:=ji0 hm;split at h3
 ·rename_i b he
  exact absurd h3.1 (by omega)
 ·rename_i dd he
  obtain ⟨_,k1,k2,h4,h5,rfl⟩:=h3;rw [he] at hv;obtain ⟨_,S,k3,k4⟩:=hv;cases dd with
  |val _=>cases k1
  |sl size ty cs=>
   have k2':size=m+1:=k2;subst k2';obtain ⟨A,n,c,vs,S',hu,k5,_,_,k6,_⟩:=zz k3;have hlen:=jhx (ty:=ty) (by omega:0<m+1) k5
   rw [hlen] at h4 h5;rw [hu] at k3;obtain ⟨S2,k7,k8⟩:=jtL (by omega) k3 k4 h2 h5
   have hb:=jba (P:=P) (w:=w) (isSl:=true) (len:=n) (cap:=c) (vA h hlo h1) (vA h hhi h4) h2 (by omega)
   refine vF (v:=.slice (if c=l then A else A.map (·.add (l*(m+1)))) (hh-l) (c-l)) ?_ (by exact ⟨rfl,S2,k7,k8⟩) hG
   simp [execOp,ho,Instr.sliceAt,run_underlying ht,Instr.slice,hu,hb,sizeOf,typeInfo,hinf,hsz]
 ·rename_i g c p hx' he
  obtain ⟨_,⟨dd,⟨d0,η,k1,k2,k3,k4⟩,k5,h4,h5⟩,rfl⟩:=h3;rw [he] at hv;have hv:a.eval x=hx':=hv.1;obtain ⟨S,k6,_⟩:=vW h k1 k2 k3 k4;cases dd with
  |val _=>cases k4
  |sl size ty cs=>
   have k5':size=m+1:=k5;subst k5';obtain ⟨A,n,c,vs,S',hu,k7,_⟩:=zz k6.ro;have hlen:=jhx (ty:=ty) (by omega:0<m+1) k7
   rw [hlen] at h4 h5;obtain ⟨A2,n2,c2,_,_,hu2,_,_,_,hnc,_⟩:=zz k6.ro;rw [hu] at hu2;cases hu2;have hb:=jba (P:=P) (w:=w) (isSl:=true) (len:=n) (cap:=c) (vA h hlo h1) (vA h hhi h4) h2 (by omega)
   refine vF (v:=jix hx' (m+1) l (hh-l)) ?_ (by exact ⟨.inl rfl,by rw [hu];rfl⟩) hG
   simp [execOp,ho,Instr.sliceAt,run_underlying ht,Instr.slice,hv,hu,hb,sizeOf,typeInfo,hinf,hsz,jix]
 ·rename_i g c p hx' sz lo m' he
  obtain ⟨⟨dd,d0,η,d1,k1,k2,k3,k4,k5,k6,k7,rfl⟩,rfl,h4,h5,rfl⟩:=h3;rw [he] at hv;have hv:a.eval x=jix hx' (m+1) lo m'∨0<lo∧m'=0∧∃A,a.eval x=.slice A 0 0:=hv.1;rcases hv with hv|⟨hlo0,rfl,A,hv⟩;rotate_left
  ·have hb:=jba (P:=P) (w:=w) (isSl:=true) (len:=0) (cap:=0) (vA h hlo h1) (vA h hhi h4) h2 (by omega)
   obtain rfl:hh=0:=by omega
   obtain rfl:l=0:=by omega
   refine vF (v:=.slice A 0 0) ?_ (by exact ⟨.inr ⟨by omega,rfl,A,rfl⟩,rfl⟩) hG
   simp [execOp,ho,Instr.sliceAt,run_underlying ht,Instr.slice,hv,hb,sizeOf,typeInfo,hinf,hsz]
  obtain ⟨S,k8,_⟩:=vW h k1 k2 k3 k4;cases d1 with
  |val _=>cases k4
  |sl size ty cs=>
   have k5':size=m+1:=k5;subst k5';obtain ⟨A,n,c,vs,S',hu,k9,_,_,hnc,_⟩:=zz k8.ro;have hlen:=jhx (ty:=ty) (by omega:0<m+1) k9
   rw [hlen] at k7;rw [hu] at hv;simp only [jix] at hv;have hb:=jba (P:=P) (w:=w) (isSl:=true) (len:=m') (cap:=c-lo) (vA h hlo h1) (vA h hhi h4) h2 (by omega)
   refine vF (v:=.slice (if c-lo=l then (if c=lo then A else A.map (·.add (lo*(m+1)))) else (if c=lo then A else A.map (·.add (lo*(m+1)))).map (·.add (l*(m+1)))) (hh-l) (c-lo-l)) ?_ (by
    refine ⟨?_,rfl⟩;rw [hu];simp only [jix];by_cases hcl:c-lo=l
    ·rw [if_pos hcl]
     obtain rfl:hh=l:=by omega
     by_cases hz:lo+hh=0
     ·obtain rfl:lo=0:=by omega
      obtain rfl:hh=0:=by omega
      obtain rfl:c=0:=by omega
      left;simp
     ·right
      refine ⟨by omega,by omega,_,by rw [show hh-hh=0 by omega,show c-lo-hh=0 by omega]⟩
    ·left
     have h8:c≠lo:=by omega
     have h9:¬c=lo+l:=by omega
     rw [if_neg hcl,if_neg h8,if_neg h9];rw [Nat.sub_sub]
     congr 1
     cases A with
     |none=>rfl
     |some ad=>simp [Addr.add_add,Nat.add_mul]) hG
   simp [execOp,ho,Instr.sliceAt,run_underlying ht,Instr.slice,hv,hb,sizeOf,typeInfo,hinf,hsz]
 ·exact h3.elim
theorem jm5 {α:Type}:∀(l:List α) (cs:List α) (k:Nat),(kD cs k l).length=cs.length
 |[],_,_=>rfl
 |x::l,cs,k=>by rw [kD,jm5 l];simp
theorem A0RelL.set:∀{l:List A0} {us:List Value} {k:Nat} {a0:A0} {u:Value},A0RelL B w l us→A0Rel B w a0 u→A0RelL B w (l.set k a0) (us.set k u)
 |[],us,_,_,_,h,_=>by rw [show us=[] from h];rfl
 |_::_,_,0,_,u,⟨u',us',h1,h2,h3⟩,hu=>by subst h1;exact ⟨u,us',rfl,hu,h3⟩
 |_::_,_,k+1,_,_,⟨u',us',h1,h2,h3⟩,hu=>by subst h1;exact ⟨u',_,rfl,h2,A0RelL.set h3 hu⟩
theorem A0RelL.setAt_:∀{m:List A0} {xs:List Value} {l:List A0} {us:List Value} {k:Nat},A0RelL B w l us→A0RelL B w m xs→A0RelL B w (kD l k m) (kD us k xs)
 |[],xs,_,_,_,h,hm=>by rw [show xs=[] from hm];exact h
 |_::_,_,_,_,k,h,⟨u',us',h1,h2,h3⟩=>by subst h1;have:=A0RelL.setAt_ (k:=k+1) (h.set (k:=k) h2) h3;exact this
theorem jgI (off:Nat):∀(xs:List Value) (k:Nat) (us:List Value),(xs.zipIdx k).foldl (fun cs (p:Value×Nat)=>cs.setIfInBounds (off+p.2) p.1) us.toArray=(kD us (off+k) xs).toArray
 |[],_,_=>rfl
 |x::xs,k,us=>by
  rw [List.zipIdx_cons,List.foldl_cons,kD];have:us.toArray.setIfInBounds (off+k) x=(us.set (off+k) x).toArray:=by simp
  simp only [this];rw [jgI off xs (k+1) _];rfl
theorem jqV (h:RelF B w0 N s a w F) {place:Nat→Option (Nat×Nat)}:∀{parts:List (Nat×Operand)} {ps:List (Nat×Nat×X)} {l l':List A0} {us:List Value},jcG place parts=some ps→A0RelL B w l us→jhS s l ps=some l'→
 ∃us':List Value,Instr.fill place us.toArray (parts.map fun p=>(p.1,a.eval p.2))=some us'.toArray∧A0RelL B w l' us'
 |[],ps,l,l',us,h1,h2,h3=>by
  simp [jcG] at h1;subst h1;simp [jhS] at h3;subst h3;exact ⟨us,rfl,h2⟩
 |(i,x)::parts,ps,l,l',us,h1,h2,h3=>by
  simp only [jcG] at h1;split at h1
  ·rename_i off n x' ps' k1 k2 k3
   simp at h1;subst h1;simp only [jhS] at h3;split at h3
   ·rename_i m k4
    split at h3
    ·rename_i k5
     obtain ⟨xs,k6,k7⟩:=VRel.cells (qE h k2) k4;obtain ⟨us',k8,k9⟩:=jqV h k3 (h2.setAt_ k7 (k:=off)) h3;refine ⟨us',?_,k9⟩;have hxl:=A0RelL.len k7;have hul:=A0RelL.len h2;have e1:¬(xs.length≠n∨us.length<off+xs.length):=by omega
     have e2:=jgI off xs 0 us;simp only [Nat.add_zero] at e2;simp only [List.map_cons,Instr.fill,k1,k6];rw [if_neg (by simpa using e1)]
     rw [←Array.foldl_toList,Array.toList_zipIdx];rw [show (xs.toArray.toList.zipIdx 0)=xs.zipIdx 0 from rfl,e2]
     exact k8
    ·simp at h3
   ·simp at h3
  ·simp at h1
theorem go_bld (h:RelF B w0 N s a w F) {t:TypeId} {parts:Array (Nat×Operand)} {fs:Array Field} {zs:List Value} {ps:List (Nat×Nat×X)} (ho:o.op=.build t parts) (ht:P.underlying t=some (.struct fs)) (hz:vp P t=some zs)
 (hall:(fs.toList.all fun f=>(P.info? f.type).isSome)=true) (hps:jcG (fun i=>match fs[i]? with|some f=>(qa P f.type).map fun n=>(f.offset,n)|none=>none) parts.toList=some ps)
 (hg:∀st,∃av os,Gen P s d rt st (.bld zs ps) av os∧G av os):Goes P o a w (ky B w G):=by
 obtain ⟨av,os,⟨l,h1,rfl,rfl⟩,hG⟩:=hg ⟨0,fun _ _=>undef⟩
 unfold vp at hz;split at hz
 ·rename_i i hi
  split at hz
  ·rename_i z hzz
   split at hz
   ·simp at hz;subst hz
    have hzr:∀l:List Value,A0RelL B w (l.map .v) l:=by
     intro l
     induction l with
     |nil=>rfl
     |cons x l ih=>exact ⟨x,l,rfl,rfl,ih⟩
    have hpl:∀l:List Field,(l.all fun f=>(P.info? f.type).isSome)=true→l.mapM (fun f=>(P.info? f.type).map fun i=>(f.offset,i.size))=some (l.map fun f=>(f.offset,(qa P f.type).getD 0)):=by
     intro l
     induction l with
     |nil=>intro _;rfl
     |cons f l ih=>
      intro hl;simp only [List.all_cons,Bool.and_eq_true] at hl;obtain ⟨j,hj⟩:=Option.isSome_iff_exists.1 hl.1;rw [List.mapM_cons,ih hl.2];simp [hj,qa]
    have hplace:(fun (i:Nat)=>match fs[i]? with|some f=>(qa P f.type).map fun n=>(f.offset,n)|none=>none)=fun i=>((fs.toList.map fun (f:Field)=>(f.offset,(qa P f.type).getD 0)).toArray[i]?):=by
     funext j
     cases hj:fs[j]? with
     |none=>simp [hj]
     |some f=>
      have hm:f∈fs.toList:=by simpa using Array.mem_of_getElem? hj
      obtain ⟨k,hk⟩:=Option.isSome_iff_exists.1 (List.all_eq_true.1 hall f hm);simp [hj,qa,hk]
    obtain ⟨us',k1,k2⟩:=jqV h hps (hzr z.cells.toList) h1;refine vF (v:=.agg us'.toArray) ?_ (by exact ⟨us',rfl,k2⟩) hG
    have hb:P.built t (parts.map fun (p:Nat×Operand)=>(p.1,a.eval p.2)).toList=some us'.toArray:=by
     unfold Program.built;simp only [hi,ht,hzz,hpl _ hall];rw [←hplace,Array.toList_map];simpa using k1
    have:=run_build w t _ _ hb;simp only [execOp,ho];rw [Sem.run_bind,this];rfl
   ·simp at hz
  ·simp at hz
 ·simp at hz
end
section
variable {P:Program} {B N:Nat} {w w0:World} {s:St} {a:Act} {F:Nat→List Nat} {o:Oper} {G:AV→List (Nat×Ob)→Prop} {d:Nat} {rt:RT}
theorem jur (h:RelF B w0 N s a w F):∀{l:List A0} {us:List Value} {ds:List D},A0RelL B w l us→IsL s l ds→∃S,RepL w false ds us S
 |[],us,[],h1,_=>⟨[],h1,rfl⟩
 |[],_,_::_,_,h2=>h2.elim
 |_::_,_,[],_,h2=>h2.elim
 |_::_,_,_::_,⟨u,us',h1,h3,h4⟩,⟨h5,h6⟩=>by
  subst h1;obtain ⟨S1,k1⟩:=jjs h h3 h5;obtain ⟨S2,k2⟩:=jur h h4 h6;exact ⟨S1++S2,RepL.cons_ k1 k2⟩
theorem IsP.is {x:A0} {d:D} (h:IsP x d):Is s x d:=by cases x<;>first|exact h|exact h.elim
theorem jjZ (h:RelF B w0 N s a w F) {g b:Nat}:∀{l:List Cell} {us:List Value} {S:List Nat} {c:Nat} {ds:List D},CRel B w l us S→Ptr.go s g b l c ds→∃S',RepL w false ds us S'
 |[],us,_,_,[],⟨h1,_⟩,_=>⟨[],h1,rfl⟩
 |[],_,_,_,_::_,_,h2=>h2.elim
 |.a _::_,_,_,_,[],_,h2=>h2.elim
 |.own _ _::_,_,_,_,[],_,h2=>h2.elim
 |.a x::l,_,_,c,d::ds,⟨u,us',h1,h3,h4⟩,⟨h5,h6⟩=>by
  subst h1;obtain ⟨S1,k1⟩:=jjs h h3 h5.is;obtain ⟨S2,k2⟩:=jjZ h h4 h6;exact ⟨S1++S2,RepL.cons_ k1 k2⟩
 |.own d' η::l,_,_,c,d::ds,⟨u,us',S1,S2,h1,h3,h4,h5,_,h6⟩,⟨h7,h8⟩=>by
  subst h1 h7;obtain ⟨S3,k2⟩:=jjZ h h6 h8;exact ⟨S1++S3,RepL.cons_ h5.ro k2⟩
theorem jtU (h:RelF B w0 N s a w F) {x:A0} {u:Value} {ds:List D} (hr:A0Rel B w x u) (hp:Ptr s x ds):ViewRel.CellsAt w ds u:=by
 cases x with
 |rp ds'=>
  have hp:ds'=ds:=hp;subst hp;obtain ⟨b,o',us,S,h1,h2,_,_,h5⟩:=hr;exact ⟨b,o',us,S,h1,h2,h5⟩
 |bp g c b=>
  obtain ⟨ty,cs,h1,l,h2,h3⟩:=hp;have hob:=h.ob g;rw [h1] at hob;obtain ⟨us,S1,k1,k2,_⟩:=hob;obtain ⟨S2,k3,_⟩:=CRel.drop c k2;obtain ⟨S3,k4,_⟩:=CRel.take ds.length k3;rw [h2] at k4;obtain ⟨S4,k5⟩:=jjZ h k4 h3;refine ⟨b,c,_,S4,hr,k5,fun j y hy=>?_⟩
  rw [List.getElem?_take] at hy;split at hy
  ·rw [List.getElem?_drop] at hy
   simp [World.cell?,k1,hy]
  ·simp at hy
 |_=>exact hp.elim
theorem jvq (h:RelF B w0 N s a w F):∀{v:AV} {u:Value} {vw:View},VRel B w v u→jkD s v vw→ViewRel w vw u
 |.c x,u,.c dd,hv,hi=>jjs h hv hi
 |.agg l,u,.agg ds,⟨us,h1,h2⟩,hi=>by
  obtain ⟨S,k⟩:=jur h h2 hi;exact ⟨S,us,h1,k⟩
 |.c x,u,.ptr ds,hv,hi=>jtU h hv hi
 |.fn f caps,u,.fn f' caps',⟨us,h1,h2⟩,⟨h3,h4⟩=>by
  subst h3;refine ⟨us,h1,?_⟩
  have key:∀(caps:List A0) (us:List Value) (caps':List (List D)),A0RelL B w caps us→jxj s caps caps'→ViewRel.All2 w caps' us:=by
   intro caps
   induction caps with
   |nil=>intro us caps' k1 k2;cases caps' with|nil=>exact k1|cons _ _=>exact k2.elim
   |cons x l ih=>
    intro us caps' k1 k2;obtain ⟨u,us',rfl,k3,k4⟩:=k1;cases caps' with
    |nil=>exact k2.elim
    |cons ds l'=>exact ⟨u,us',rfl,jtU h k3 k2.1,ih us' l' k4 k2.2⟩
  exact key _ _ _ h2 h4
 |.c _,_,.agg _,_,hi=>hi.elim
 |.c _,_,.fn _ _,_,hi=>hi.elim
 |.agg _,_,.c _,_,hi=>hi.elim
 |.agg _,_,.ptr _,_,hi=>hi.elim
 |.agg _,_,.fn _ _,_,hi=>hi.elim
 |.fn _ _,_,.c _,_,hi=>hi.elim
 |.fn _ _,_,.agg _,_,hi=>hi.elim
 |.fn _ _,_,.ptr _,_,hi=>hi.elim
 |.tup _,_,.c _,_,hi=>hi.elim
 |.tup _,_,.agg _,_,hi=>hi.elim
 |.tup _,_,.ptr _,_,hi=>hi.elim
 |.tup _,_,.fn _ _,_,hi=>hi.elim
 |.unk,_,.c _,_,hi=>hi.elim
 |.unk,_,.agg _,_,hi=>hi.elim
 |.unk,_,.ptr _,_,hi=>hi.elim
 |.unk,_,.fn _ _,_,hi=>hi.elim
theorem jmJ (h:RelF B w0 N s a w F):∀{args:List Operand} {xs:List X} {caps:List A0} {cs:List Value} {vs:List View},zh args=some xs→A0RelL B w caps cs→zV s (xs.map s.ev++caps.map .c) vs→zC w vs (args.map a.eval++cs)
 |[],xs,caps,cs,vs,h1,h2,h3=>by
  simp [zh] at h1;subst h1
  have key:∀(caps:List A0) (cs:List Value) (vs:List View),A0RelL B w caps cs→zV s (caps.map .c) vs→zC w vs cs:=by
   intro caps
   induction caps with
   |nil=>intro cs vs k1 k2;cases vs with|nil=>exact k1|cons _ _=>exact k2.elim
   |cons x l ih=>
    intro cs vs k1 k2;obtain ⟨u,us',rfl,k3,k4⟩:=k1;cases vs with
    |nil=>exact k2.elim
    |cons v l'=>exact ⟨u,us',rfl,jvq (v:=.c x) h k3 k2.1,ih us' l' k4 k2.2⟩
  exact key caps cs vs h2 (by simpa using h3)
 |x::args,xs,caps,cs,vs,h1,h2,h3=>by
  simp only [zh] at h1;split at h1
  ·rename_i x' xs' k1 k2
   simp at h1;subst h1;cases vs with
   |nil=>exact h3.elim
   |cons v vs=>exact ⟨a.eval x,_,rfl,jvq h (qE h k1) h3.1,jmJ h k2 h2 h3.2⟩
  ·simp at h1
theorem jtI {w':World}:∀{rt:RT} {v:Value} {S:List Nat} (g:Nat),jj6 w' rt v S→∃η:Nat→js,VRel B w' (rt.av g η) v∧jb7 B w' (jkp g η 0 rt.flat) S:=by
 have key:∀(ds:List D) (us:List Value) (S:List Nat) (g j:Nat),RepL w' true ds us S→∃η:Nat→js,(∀η',(∀i,i<ds.length→η' (j+i)=η i)→A0RelL B w' (jA1 g η' j ds) us∧jb7 B w' (jkp g η' j ds) S):=by
  intro ds
  induction ds with
  |nil=>intro us S g j h;obtain ⟨rfl,rfl⟩:=h;exact ⟨fun _ _=>undef,fun η' _=>⟨rfl,rfl⟩⟩
  |cons d ds ih=>
   intro us S g j h;obtain ⟨v,vs',S1,S2,rfl,rfl,h3,h4⟩:=h;obtain ⟨η,h5⟩:=ih vs' S2 g (j+1) h4;refine ⟨fun i=>match i with|0=>fun p=>hdr w' p d v|i+1=>η i,fun η' hη=>?_⟩
   have h0:=hη 0 (by simp)
   obtain ⟨h6,h7⟩:=h5 η' fun i hi=>by
    have:=hη (i+1) (by simp;omega)
    rw [show j+1+i=j+(i+1) by omega]
    exact this
   cases d with
   |val u=>
    obtain ⟨rfl,rfl⟩:=h3;exact ⟨⟨_,_,rfl,rfl,h6⟩,by simpa [jkp,D.obj] using h7⟩
   |sl size ty cs=>
    simp only [Nat.add_zero] at h0;refine ⟨⟨v,vs',rfl,?_,h6⟩,S1,S2,rfl,⟨rfl,v,h3,fun p=>by rw [h0]⟩,h7⟩
    obtain ⟨_,_,_,rfl⟩:=vV h3;show _∧_;rw [h0];exact ⟨rfl,rfl⟩
 intro rt v S g hr;cases rt with
 |c d=>
  obtain ⟨η,h1⟩:=key [d] [v] S g 0 ⟨v,[],S,[],rfl,by simp,hr,rfl,rfl⟩
  obtain ⟨⟨u,us',h2,h3,_⟩,h4⟩:=h1 η fun i _=>by rw [Nat.zero_add]
  cases h2;exact ⟨η,h3,h4⟩
 |agg ds=>
  obtain ⟨us,rfl,hr⟩:=hr;obtain ⟨η,h1⟩:=key ds us S g 0 hr;obtain ⟨h2,h3⟩:=h1 η fun i _=>by rw [Nat.zero_add]
  exact ⟨η,⟨us,rfl,h2⟩,h3⟩
 |tup l=>
  obtain ⟨xs,rfl,hr⟩:=hr
  have key2:∀(l:List (Bool×List D)) (xs:List Value) (S:List Nat) (j:Nat),jrm w' l xs S→∃η:Nat→js,∀η',(∀i,i<(l.flatMap (·.2)).length→η' (j+i)=η i)→TRelL B w' (jB9 g η' j l) xs∧jb7 B w' (jkp g η' j (l.flatMap (·.2))) S:=by
   intro l
   induction l with
   |nil=>intro xs S j h;obtain ⟨rfl,rfl⟩:=h;exact ⟨fun _ _=>undef,fun η' _=>⟨rfl,rfl⟩⟩
   |cons p l ih=>
    intro xs S j h;obtain ⟨b,ds⟩:=p;obtain ⟨x,xs',us,S1,S2,rfl,rfl,h1,h2,h3⟩:=h;obtain ⟨η1,h4⟩:=key ds us S1 g j h1;obtain ⟨η2,h5⟩:=ih xs' S2 (j+ds.length) h3;refine ⟨fun i=>if i<ds.length then η1 i else η2 (i-ds.length),fun η' hη=>?_⟩
    obtain ⟨h6,h7⟩:=h4 η' fun i hi=>by
     rw [hη i (by simp;omega)];simp [hi]
    obtain ⟨h8,h9⟩:=h5 η' fun i hi=>by
     have:=hη (ds.length+i) (by simp at hi⊢;omega)
     rw [Nat.add_assoc,this];show (if ds.length+i<ds.length then η1 (ds.length+i) else η2 (ds.length+i-ds.length))=_
     rw [if_neg (by omega),Nat.add_sub_cancel_left]
    refine ⟨⟨x,xs',us,rfl,h6,h2,h8⟩,?_⟩
    have happ:∀(ds es:List D) (j:Nat),jkp g η' j (ds++es)=jkp g η' j ds++jkp g η' (j+ds.length) es:=by
     intro ds
     induction ds with
     |nil=>intro es j;simp [jkp]
     |cons d ds ih=>intro es j;simp only [List.cons_append,jkp,ih,List.append_assoc,List.length_cons];rw [show j+1+ds.length=j+(ds.length+1) by omega]
    have hnew:∀(l m:List (Nat×Ob)) (S1 S2:List Nat),jb7 B w' l S1→jb7 B w' m S2→jb7 B w' (l++m) (S1++S2):=by
     intro l
     induction l with
     |nil=>intro m S1 S2 k1 k2;rw [show S1=[] from k1];exact k2
     |cons q l ih=>intro m S1 S2 k1 k2;obtain ⟨T1,T2,rfl,k3,k4⟩:=k1;exact ⟨T1,T2++S2,by simp,k3,ih m T2 S2 k4 k2⟩
    simp only [List.flatMap_cons,happ];exact hnew _ _ _ _ h7 h9
  obtain ⟨η,h1⟩:=key2 l xs S 0 hr;obtain ⟨h2,h3⟩:=h1 η fun i _=>by rw [Nat.zero_add]
  exact ⟨η,⟨xs,rfl,h2⟩,h3⟩
theorem jos (h:RelF B w0 N s a w F) {f:Nat} {vs:List View} {xs:List Value} (hrun:(execOp a.eval o).run P w=.ok (.enter f xs.toArray) w) (hp:kj P f vs rt) (hv:zC w vs xs)
 (hG:∀st:jvw,G (rt.av (100*d) st.η) (jkp (100*d) st.η 0 rt.flat)):Goes P o a w (ky B w G):=by
 intro next Q hk;unfold Oper.wp;rw [hrun];refine (hp.2 w xs hv).mono fun e w' ⟨v,S,he,hr,hf,hb⟩=>?_
 subst he;obtain ⟨η,h1,h2⟩:=jtI (B:=B) (100*d) hr;exact hk v w' ⟨_,_,S,h1,h2,hf,hb,hG ⟨0,η⟩⟩
theorem RelF.bare (h:RelF B w0 N s a w F):RelF B w 0 (.only s.o) Act.bare w F:=
 ⟨Below.refl _ _,Nat.le_trans h.hB h.below.size,rfl,rfl,fun _=>trivial,h.ob,h.fr,h.dj⟩
theorem jiO (h:RelF B w0 N s a w F):∀{args:List Operand} {xs:List X} {caps:List A0} {cs:List Value},zh args=some xs→A0RelL B w caps cs→jj5 B w (xs.map s.ev++caps.map .c) (args.map a.eval++cs)
 |[],xs,caps,cs,h1,h2=>by
  simp [zh] at h1;subst h1
  have key:∀(caps:List A0) (cs:List Value),A0RelL B w caps cs→jj5 B w (caps.map .c) cs:=by
   intro caps
   induction caps with
   |nil=>intro cs k1;exact k1
   |cons x l ih=>intro cs k1;obtain ⟨u,us',rfl,k3,k4⟩:=k1;exact ⟨u,us',rfl,k3,ih us' k4⟩
  exact key caps cs h2
 |x::args,xs,caps,cs,h1,h2=>by
  simp only [zh] at h1;split at h1
  ·rename_i x' xs' k1 k2
   simp at h1;subst h1;exact ⟨a.eval x,_,rfl,qE h k1,jiO h k2 h2⟩
  ·simp at h1
theorem jcn {f:Nat} {c:Call} {cs xs:List Value} (hn:joL P f) (ho:o.op=.call c) {y:Operand} (hc:c.callee=.value y) (hy:a.eval y=.func (.func f) #[] cs.toArray) (hx:c.args.toList.map a.eval=xs):
 (execOp a.eval o).run P w=.ok (.enter f (xs++cs).toArray) w:=by
 obtain ⟨fn,hfn,hb,hname⟩:=hn;have hbn:¬fn.body=none:=by intro hq;simp [hq] at hb
 have hne:¬fn.name= "runtime.NumGoroutine":=by simpa using hname
 have hargs:c.args.map a.eval=xs.toArray:=by rw [←hx,←Array.toList_map,Array.toArray_toList]
 simp [execOp,ho,resolve,hc,hy,hargs,Deferred.ofValue,invoke,callFunc,hfn,hbn,hne]
theorem go_call (h:RelF B w0 N s a w F) {c:Call} {f:Nat} {xs:List X} (ho:o.op=.call c) (hc:c.callee=.value (.func f)) (hxs:zh c.args.toList=some xs)
 (hg:∀st,∃av os,Gen P s d rt st (.call f xs) av os∧G av os):Goes P o a w (ky B w G):=by
 obtain ⟨_,_,⟨vs,h1,h2,_,_⟩,_⟩:=hg ⟨0,fun _ _=>undef⟩
 have hv:=jmJ (caps:=[]) (cs:=[]) h hxs rfl (by simpa using h1)
 exact jos (d:=d) h (jcn (cs:=[]) h2.1 ho hc rfl rfl) h2 hv fun st=>by
  obtain ⟨_,_,⟨_,_,_,rfl,rfl⟩,hG⟩:=hg st;exact hG
theorem go_callv (h:RelF B w0 N s a w F) {c:Call} {t:Nat} {xs:List X} (ho:o.op=.call c) (hc:c.callee=.value (.tmp t)) (hxs:zh c.args.toList=some xs)
 (hg:∀st,∃av os,Gen P s d rt st (.callv (.t t) xs) av os∧G av os):Goes P o a w (ky B w G):=by
 obtain ⟨_,_,⟨f,caps,vs,h0,h1,h2,_,_⟩,_⟩:=hg ⟨0,fun _ _=>undef⟩
 have hvf:=h.sl t;rw [show s.t t=.fn f caps from h0] at hvf
 obtain ⟨cs,k1,k2⟩:=hvf;have hv:=jmJ h hxs k2 h1
 exact jos (d:=d) h (jcn h2.1 ho hc k1 rfl) h2 hv fun st=>by
  obtain ⟨_,_,⟨f',caps',vs',h0',h1',h2',rfl,rfl⟩,hG⟩:=hg st;exact hG
end
def OpOk (P:Program) (o:Oper) (a:Act) (w:World) (R:Act→World→Prop):Prop:=
 ∀(next:Act→World→Prop) (Q:Exit→Act→World→Prop),(∀a' w',R a' w'→next a' w')→o.wp P a w next Q
section
variable {P:Program} {β B N:Nat} {w w0:World} {s:St} {a:Act} {F:Nat→List Nat} {o:Oper} {K:St→Prop}
theorem OpOk.of_run {w':World} {R:Act→World→Prop} {v:Value} (h:(execOp a.eval o).run P w=.ok (.value v) w') (hr:R (a.put o.dst v) w'):OpOk P o a w R:=
 fun _ _ hk=>by unfold Oper.wp;rw [h];exact hk _ w' hr
theorem OpOk.of_skip {w':World} {R:Act→World→Prop} (h:(execOp a.eval o).run P w=.ok .skip w') (hr:R (a.put o.dst undef) w'):OpOk P o a w R:=
 fun _ _ hk=>by unfold Oper.wp;rw [h];exact hk _ w' hr
theorem jbw:∀{l:List A0} {us:List Value} {s:St} {F:Nat→List Nat} {K:List Cell→St→Prop},RelF B w0 N s a w F→A0RelL B w l us→qA s l K→
 ∃cs s' S F',K cs s'∧CRel B w cs us S∧RelF B w0 N s' a w F'∧Fresh B S∧(∀g,∀b∈S,b∉F' g)∧(∀g b,b∈F' g→b∈F g)∧(∀b∈S,∃g,b∈F g)∧(∀u∈us,u.oneCell'=true)
 |[],us,s,F,K,h,hr,hk=>⟨[],s,[],F,hk,⟨hr,rfl⟩,h,Fresh.nil _,by simp,fun _ _ h=>h,by simp,by rw [show us=[] from hr];simp⟩
 |x::l,us,s,F,K,h,⟨u,us',h1,h2,h3⟩,hk=>by
  subst h1
  have plain:∀(x:A0),A0Rel B w x u→x.one=true→qA s l (fun cs s'=>K (.a x::cs) s')→∃cs s' S F',K cs s'∧CRel B w cs (u::us') S∧RelF B w0 N s' a w F'∧Fresh B S∧(∀g,∀b∈S,b∉F' g)∧(∀g b,b∈F' g→b∈F g)∧(∀b∈S,∃g,b∈F g)∧(∀u'∈u::us',u'.oneCell'=true):=by
   intro x h2 hone hk;obtain ⟨cs,s',S,F',k1,k2,k3,k4,k5,k6,k7,k8⟩:=jbw h h3 hk;refine ⟨_,s',S,F',k1,⟨u,us',rfl,h2,k2⟩,k3,k4,k5,k6,k7,fun u' hu=>?_⟩
   rcases List.mem_cons.1 hu with rfl|hu
   ·exact h2.one hone
   ·exact k8 u' hu
  cases x with
  |h g c p x=>
   obtain ⟨rfl,d,η,ho,hx,hk⟩:=hk;obtain ⟨u',S1,F1,j1,j2,j3,j4,j5,j6,j7,j8⟩:=h.rm ho;obtain ⟨cs,s',S2,F',k1,k2,k3,k4,k5,k6,k7,k8⟩:=jbw j5 h3 hk
   have hu:u=u':=by
    rw [h2.1,←hx,j3,zS j1]
   subst hu
   have hdis:∀b∈S1,b∉S2:=fun b hb hb'=>by
    obtain ⟨g',hg'⟩:=k7 b hb';exact j6 g' b hb hg'
   refine ⟨_,s',S1++S2,F',k1,⟨u,us',S1,S2,rfl,rfl,j1,j2,j3,k2⟩,k3,⟨List.nodup_append.2 ⟨j4.1,k4.1,fun x hx y hy e=>hdis x hx (e▸hy)⟩,fun b hb=>?_⟩,fun g' b hb=>?_,fun g' b hb=>j8 g' b (k6 g' b hb),fun b hb=>?_,fun u' hu=>?_⟩
   ·rcases List.mem_append.1 hb with hb|hb
    ·exact j4.2 b hb
    ·exact k4.2 b hb
   ·rcases List.mem_append.1 hb with hb|hb
    ·exact fun hb'=>j6 g' b hb (k6 g' b hb')
    ·exact k5 g' b hb
   ·rcases List.mem_append.1 hb with hb|hb
    ·exact ⟨g,j7 b hb⟩
    ·obtain ⟨g',hg'⟩:=k7 b hb;exact ⟨g',j8 g' b hg'⟩
   ·rcases List.mem_cons.1 hu with rfl|hu
    ·cases d with
     |val _=>cases j1
     |sl _ _ _=>obtain ⟨_,_,_,rfl⟩:=vV j2;rfl
    ·exact k8 u' hu
  |v x=>exact plain _ h2 hk.1 hk.2
  |ro x=>exact plain _ h2 hk.1 hk.2
  |rp x=>exact plain _ h2 hk.1 hk.2
  |bp x y z=>exact plain _ h2 hk.1 hk.2
  |ep x y z i j=>exact plain _ h2 hk.1 hk.2
  |un=>exact plain _ h2 hk.1 hk.2
  |hs=>exact plain _ h2 hk.1 hk.2
theorem jqx (h:RelF B w0 N s a w F) {f:Nat} {args:List AV} {xs:List Value} (hrun:(execOp a.eval o).run P w=.ok (.enter f xs.toArray) w) (hv:jj5 B w args xs) (hd:∀k,o.dst=some k→k<N)
 (ht:Turns P f args s.o fun rt o'=>∀η:Nat→js,K (((⟨s.t,o'⟩:St).addO (jkp (100*(β+o.dst.getD 0)) η 0 rt.flat)).put o.dst (rt.av (100*(β+o.dst.getD 0)) η))):
 OpOk P o a w (fun a' w'=>∃s' F',RelF B w0 N s' a' w' F'∧K s'):=by
 intro next Q hk;unfold Oper.wp;rw [hrun];refine (ht.2 B w F xs h.bare hv).mono fun e w' ⟨v,rt,o',S,F',he,hr,hrt,hf,hdj,hR⟩=>?_
 subst he;have hb:Below B w w':=hr.below;obtain ⟨η,h1,h2⟩:=jtI (B:=B) (100*(β+o.dst.getD 0)) hrt;have h3:RelF B w0 N ⟨s.t,o'⟩ a w' F':=⟨h.below.trans hb,h.hB,h.df,h.sz,fun n=>(h.sl n).mono hb,hr.ob,hr.fr,hr.dj⟩
 obtain ⟨F2,h4⟩:=h3.addO h2 hf hdj;exact hk _ _ ⟨_,F2,h4.put h1 hd,hR η⟩
theorem jA4 (h:RelF B w0 N s a w F) {f:Nat} {args:List AV} {xs:List Value} (hrun:(execOp a.eval o).run P w=.ok (.enter f xs.toArray) w) (hv:jj5 B w args xs) (hd:∀k,o.dst=some k→k<N)
 (ht:Inl P f args s.o fun av o'=>K (St.put ⟨s.t,o'⟩ o.dst av)):
 OpOk P o a w (fun a' w'=>∃s' F',RelF B w0 N s' a' w' F'∧K s'):=by
 intro next Q hk;unfold Oper.wp;rw [hrun];refine (ht.2 B w F xs h.bare hv).mono fun e w' ⟨v,av,o',F',he,hr,hva,hR⟩=>?_
 subst he;have hb:Below B w w':=hr.below;have h3:RelF B w0 N ⟨s.t,o'⟩ a w' F':=⟨h.below.trans hb,h.hB,h.df,h.sz,fun n=>(h.sl n).mono hb,hr.ob,hr.fr,hr.dj⟩
 exact hk _ _ ⟨_,F',h3.put hva hd,hR⟩
theorem juV (w:World):Below w.heap.size w w.drew:=⟨rfl,rfl,rfl,Nat.le_refl _,fun _ _=>rfl⟩
theorem jA7 (h:RelF B w0 N s a w F) {e:TypeId} {x:Operand} {x':X} {n:Nat} {g:Option (Nat×Bool)} (ho:o.op=.box e x) (hx:jP x=some x') (hd:∀k,o.dst=some k→k<N) (hr:vd P β ⟨o.dst,g,.box e n x'⟩ s K):
 OpOk P o a w (fun a' w'=>∃s' F',RelF B w0 N s' a' w' F'∧K s'):=by
 obtain ⟨l,h1,_,h2⟩:=hr;obtain ⟨us,h3,h4⟩:=VRel.cells (qE h hx) h1;obtain ⟨cs,s',S,F',k1,k2,k3,k4,k5,k6,k7,_⟩:=jbw h h4 h2
 have hrun:(execOp a.eval o).run P w=.ok (.value (.pointer (some ⟨w.heap.size,0,none⟩))) (w.alloc (.cells us.toArray e)):=by
  simp [execOp,ho,Instr.box,newVar,newRow,h3]
 have hb:Below w.heap.size w (w.alloc (.cells us.toArray e)):=(Below.refl _ _).alloc (Nat.le_refl _) _;have hB:B≤w.heap.size:=Nat.le_trans h.hB h.below.size;have hSlt:∀b∈S,b<w.heap.size:=fun b hb'=>k2.lt b hb'
 have hob:ORel B (w.alloc (.cells us.toArray e)) (.box w.heap.size e cs) (w.heap.size::S):=
  ⟨us,S,jqP _ _,k2.keep (hb.mono hB) fun b hb'=>hb.block b (hSlt b hb'),rfl⟩
 have hF'lt:∀g,∀b∈F' g,b<w.heap.size:=fun g b hb'=>(k3.ob g).lt b hb'
 have h5:=(k3.world hb).setO (g:=100*(β+o.dst.getD 0)) hob ⟨List.nodup_cons.2 ⟨fun hh=>by have:=hSlt _ hh;omega,k4.1⟩,fun b hb'=>by rcases List.mem_cons.1 hb' with rfl|hb';exact hB;exact k4.2 b hb'⟩ (fun g' _ b hb'=>by
  rcases List.mem_cons.1 hb' with rfl|hb'
  ·exact fun hh=>by have:=hF'lt g' _ hh;omega
  ·exact k5 g' b hb')
 exact OpOk.of_run hrun ⟨_,_,h5.put (v:=.c (.bp (100*(β+o.dst.getD 0)) 0 w.heap.size)) rfl hd,k1 w.heap.size⟩
theorem RelF.world' (h:RelF B w0 N s a w F) {w':World} (hb:Below B w w') (hk:∀g,∀b∈F g,w'.heap[b]?=w.heap[b]?):RelF B w0 N s a w' F:=
 ⟨h.below.trans hb,h.hB,h.df,h.sz,fun n=>(h.sl n).mono hb,fun g=>(h.ob g).keep hb (hk g),h.fr,h.dj⟩
theorem CRel.set1 {x:Cell} {u:Value} {S1:List Nat} (hx:CRel B w [x] [u] S1):∀{ds:List Cell} {us:List Value} {S0:List Nat} {c:Nat},CRel B w ds us S0→(S0++S1).Nodup→c<ds.length→
 ∃S',CRel B w (ds.set c x) (us.set c u) S'∧S'.Nodup∧∀b∈S',b∈S0∨b∈S1
 |[],_,_,_,_,_,hc=>by simp at hc
 |y::ds,us,S0,0,hr,hnd,_=>by
  have hcons:∀{us':List Value} {S2:List Nat},CRel B w ds us' S2→CRel B w (x::ds) (u::us') (S1++S2):=by
   intro us' S2 h2;cases x with
   |a x=>obtain ⟨u',us'',h3,h4,h5,h6⟩:=hx;cases h3;subst h6;exact ⟨u,us',rfl,h4,h2⟩
   |own d η=>
    obtain ⟨u',us'',T1,T2,h3,h4,h5,h6,h7,h8,h9⟩:=hx;cases h3;subst h9;rw [List.append_nil] at h4;subst h4;exact ⟨u,us',S1,S2,rfl,rfl,h5,h6,h7,h2⟩
  cases y with
  |a y=>
   obtain ⟨u',us',rfl,_,h3⟩:=hr;refine ⟨_,hcons h3,?_,fun b hb=>?_⟩
   ·exact (List.perm_append_comm.nodup_iff).1 hnd
   ·rcases List.mem_append.1 hb with hb|hb
    ·exact .inr hb
    ·exact .inl hb
  |own d η=>
   obtain ⟨u',us',T1,T2,rfl,rfl,_,_,_,h3⟩:=hr;refine ⟨_,hcons h3,?_,fun b hb=>?_⟩
   ·rw [List.append_assoc] at hnd
    exact (List.perm_append_comm.nodup_iff).1 (List.nodup_append.1 hnd).2.1
   ·rcases List.mem_append.1 hb with hb|hb
    ·exact .inr hb
    ·exact .inl (by simp [hb])
 |y::ds,us,S0,c+1,hr,hnd,hc=>by
  cases y with
  |a y=>
   obtain ⟨u',us',rfl,h2,h3⟩:=hr;obtain ⟨S',h4,h5,h6⟩:=CRel.set1 hx h3 hnd (by simpa using hc)
   exact ⟨S',⟨u',_,rfl,h2,h4⟩,h5,h6⟩
  |own d η=>
   obtain ⟨u',us',T1,T2,rfl,rfl,h1,h2,h2',h3⟩:=hr;rw [List.append_assoc] at hnd;have hn:=List.nodup_append.1 hnd;obtain ⟨S',h4,h5,h6⟩:=CRel.set1 hx h3 hn.2.1 (by simpa using hc)
   refine ⟨T1++S',⟨u',_,T1,S',rfl,rfl,h1,h2,h2',h4⟩,List.nodup_append.2 ⟨hn.1,h5,fun a ha b hb e=>hn.2.2 a ha b (by rcases h6 b hb with h|h<;>simp [h]) e⟩,fun b hb=>?_⟩
   rcases List.mem_append.1 hb with hb|hb
   ·exact .inl (by simp [hb])
   ·rcases h6 b hb with h|h
    ·exact .inl (by simp [h])
    ·exact .inr h
theorem CRel.setAt_:∀{cs:List Cell} {us:List Value} {S:List Nat} {ds:List Cell} {vs:List Value} {S0:List Nat} {c:Nat},CRel B w cs us S→CRel B w ds vs S0→(S0++S).Nodup→c+cs.length≤ds.length→
 ∃S',CRel B w (kD ds c cs) (kD vs c us) S'∧S'.Nodup∧∀b∈S',b∈S0∨b∈S
 |[],us,S,ds,vs,S0,c,⟨h1,h2⟩,h3,hnd,_=>by
  subst h1 h2;rw [List.append_nil] at hnd;exact ⟨S0,h3,hnd,fun b hb=>.inl hb⟩
 |x::cs,us,S,ds,vs,S0,c,hr,h3,hnd,hc=>by
  obtain ⟨u,us',S1,S2,rfl,rfl,h4,h5⟩:∃u us' S1 S2,us=u::us'∧S=S1++S2∧CRel B w [x] [u] S1∧CRel B w cs us' S2:=by
   cases x with
   |a x=>obtain ⟨u,us',h1,h2,h4⟩:=hr;exact ⟨u,us',[],S,h1,rfl,⟨u,[],rfl,h2,rfl,rfl⟩,h4⟩
   |own d η=>obtain ⟨u,us',S1,S2,h1,h2,k1,k2,k3,h4⟩:=hr;exact ⟨u,us',S1,S2,h1,h2,⟨u,[],S1,[],rfl,by simp,k1,k2,k3,rfl,rfl⟩,h4⟩
  rw [←List.append_assoc] at hnd;obtain ⟨S',h6,h7,h8⟩:=CRel.set1 (c:=c) h4 h3 (List.nodup_append.1 hnd).1 (by simp at hc;omega)
  have hn:=List.nodup_append.1 hnd;obtain ⟨S'',h9,h10,h11⟩:=CRel.setAt_ (c:=c+1) h5 h6 (List.nodup_append.2 ⟨h7,hn.2.1,fun a ha b hb e=>hn.2.2 a (by rcases h8 a ha with h|h<;>simp [h]) b hb e⟩) (by simp at hc⊢;omega)
  refine ⟨S'',h9,h10,fun b hb=>?_⟩
  rcases h11 b hb with h|h
  ·rcases h8 b h with h|h
   ·exact .inl h
   ·exact .inr (by simp [h])
  ·exact .inr (by simp [h])
theorem qo:∀(vs:List Value) (w:World) (b o:Nat) (us:List Value) (ty:TypeId),w.heap[b]?=some (.cells us.toArray ty (0,0))→(w.setCells b o vs).heap[b]?=some (.cells (kD us o vs).toArray ty (0,0))∧∀k,k≠b→(w.setCells b o vs).heap[k]?=w.heap[k]?
 |[],w,b,o,us,ty,h=>⟨h,fun _ _=>rfl⟩
 |v::vs,w,b,o,us,ty,h=>by
  have h1:(w.setCell ⟨b,o,none⟩ v).heap[b]?=some (.cells (us.set o v).toArray ty (0,0)):=by
   have hlt:=jbh h;have:w.heap[b]=.cells us.toArray ty (0,0):=by rw [Array.getElem?_eq_getElem hlt] at h;exact Option.some.inj h
   simp [World.setCell,Array.getElem?_modify,h]
  obtain ⟨h2,h3⟩:=qo vs (w.setCell ⟨b,o,none⟩ v) b (o+1) (us.set o v) ty h1;exact ⟨h2,fun k hk=>(h3 k hk).trans (Below.heap_setCell w ⟨b,o,none⟩ v k hk)⟩
theorem kH:∀(vs:List Value) (w:World) (b o:Nat),(w.setCells b o vs).os=w.os∧(w.setCells b o vs).tape=w.tape∧(w.setCells b o vs).output=w.output∧(w.setCells b o vs).heap.size=w.heap.size
 |[],_,_,_=>⟨rfl,rfl,rfl,rfl⟩
 |v::vs,w,b,o=>by
  obtain ⟨h1,h2,h3,h4⟩:=kH vs (w.setCell ⟨b,o,none⟩ v) b (o+1);exact ⟨h1,h2,h3,h4.trans (by simp [World.setCell])⟩
theorem jm4:∀(xs:List Value) (vs:List Value) (o:Nat),jkP vs o xs=kD vs o xs
 |[],_,_=>rfl
 |x::xs,vs,o=>by rw [jkP,kD,jm4 xs]
theorem jam:∀(vs:List Value) (w:World) (b o k:Nat),k≠b→(w.setCells b o vs).heap[k]?=w.heap[k]?
 |[],_,_,_,_,_=>rfl
 |v::vs,w,b,o,k,hk=>(jam vs _ b (o+1) k hk).trans (Below.heap_setCell w ⟨b,o,none⟩ v k hk)
theorem jcm {α:Type}:∀(xs:List α) (l:List α) (k j:Nat),¬(k≤j∧j<k+xs.length)→(kD l k xs)[j]?=l[j]?
 |[],_,_,_,_=>rfl
 |x::xs,l,k,j,h=>by
  rw [kD,jcm xs _ (k+1) j (by simp at h;omega),List.getElem?_set_ne (by simp at h;omega)]
theorem RepL.set1 {d:D} {u:Value} {S1:List Nat} (hx:Rep w true d u S1):∀{cs:List D} {vs:List Value} {S0:List Nat} {c:Nat},RepL w true cs vs S0→(S0++S1).Nodup→c<cs.length→
 ∃S',RepL w true (cs.set c d) (vs.set c u) S'∧S'.Nodup∧∀b∈S',b∈S0∨b∈S1
 |[],_,_,_,_,_,hc=>by simp at hc
 |y::cs,_,_,0,⟨u',us',T1,T2,rfl,rfl,_,h3⟩,hnd,_=>by
  refine ⟨S1++T2,RepL.cons_ hx h3,?_,fun b hb=>?_⟩
  ·rw [List.append_assoc] at hnd
   exact (List.perm_append_comm.nodup_iff).1 (List.nodup_append.1 hnd).2.1
  ·rcases List.mem_append.1 hb with hb|hb
   ·exact .inr hb
   ·exact .inl (by simp [hb])
 |y::cs,_,_,c+1,⟨u',us',T1,T2,rfl,rfl,h2,h3⟩,hnd,hc=>by
  rw [List.append_assoc] at hnd;have hn:=List.nodup_append.1 hnd;obtain ⟨S',h4,h5,h6⟩:=RepL.set1 hx h3 hn.2.1 (by simpa using hc)
  refine ⟨T1++S',RepL.cons_ h2 h4,List.nodup_append.2 ⟨hn.1,h5,fun a ha b hb e=>hn.2.2 a ha b (by rcases h6 b hb with h|h<;>simp [h]) e⟩,fun b hb=>?_⟩
  rcases List.mem_append.1 hb with hb|hb
  ·exact .inl (by simp [hb])
  ·rcases h6 b hb with h|h
   ·exact .inl (by simp [h])
   ·exact .inr h
theorem RepL.setAt_:∀{ds:List D} {us:List Value} {S:List Nat} {cs:List D} {vs:List Value} {S0:List Nat} {c:Nat},RepL w true ds us S→RepL w true cs vs S0→(S0++S).Nodup→c+ds.length≤cs.length→
 ∃S',RepL w true (kD cs c ds) (kD vs c us) S'∧S'.Nodup∧∀b∈S',b∈S0∨b∈S
 |[],us,S,cs,vs,S0,c,⟨h1,h2⟩,h3,hnd,_=>by
  subst h1 h2;rw [List.append_nil] at hnd;exact ⟨S0,h3,hnd,fun b hb=>.inl hb⟩
 |x::ds,_,_,cs,vs,S0,c,⟨u,us',S1,S2,rfl,rfl,h4,h5⟩,h3,hnd,hc=>by
  rw [←List.append_assoc] at hnd;obtain ⟨S',h6,h7,h8⟩:=RepL.set1 (c:=c) h4 h3 (List.nodup_append.1 hnd).1 (by simp at hc;omega)
  have hn:=List.nodup_append.1 hnd;obtain ⟨S'',h9,h10,h11⟩:=RepL.setAt_ (c:=c+1) h5 h6 (List.nodup_append.2 ⟨h7,hn.2.1,fun a ha b hb e=>hn.2.2 a (by rcases h8 a ha with h|h<;>simp [h]) b hb e⟩) (by simp at hc⊢;omega)
  refine ⟨S'',h9,h10,fun b hb=>?_⟩
  rcases h11 b hb with h|h
  ·rcases h8 b h with h|h
   ·exact .inl h
   ·exact .inr (by simp [h])
  ·exact .inr (by simp [h])
theorem RepL.put1:∀{cs:List D} {vs:List Value} {S:List Nat} {k:Nat} {d:D},RepL w true cs vs S→S.Nodup→cs[k]?=some d→
 ∃v S1,vs[k]?=some v∧Rep w true d v S1∧(∀b∈S1,b∈S)∧S1.Nodup∧(∀j dj,j≠k→cs[j]?=some dj→∃vj Sj,vs[j]?=some vj∧Rep w true dj vj Sj∧∀b∈Sj,b∈S∧b∉S1)∧
 ∀(w':World) (d':D) (S1':List Nat),(∀b∈S,b∉S1→w'.heap[b]?=w.heap[b]?)→Rep w' true d' v S1'→S1'.Nodup→(∀b∈S1',b∈S1∨b∉S)→
  ∃S',RepL w' true (cs.set k d') vs S'∧S'.Nodup∧∀b∈S',b∈S∨b∈S1'
 |[],_,_,_,_,_,_,h=>by simp at h
 |y::cs,_,_,0,d,⟨u',us',T1,T2,rfl,rfl,h2,h3⟩,hnd,h=>by
  simp at h;subst h;have hn:=List.nodup_append.1 hnd;refine ⟨u',T1,rfl,h2,fun b hb=>by simp [hb],hn.1,fun j dj hj hd=>?_,fun w' d' S1' hk hr hn' hs=>?_⟩
  ·cases j with
   |zero=>exact absurd rfl hj
   |succ j=>
    obtain ⟨vj,Sj,k1,k2,k3⟩:=RepL.nth h3 (by simpa using hd)
    exact ⟨vj,Sj,by simpa using k1,k2,fun b hb=>⟨by simp [k3 b hb],fun hb'=>hn.2.2 b hb' b (k3 b hb) rfl⟩⟩
  ·refine ⟨S1'++T2,RepL.cons_ hr (RepL.keep _ h3 fun b hb=>hk b (by simp [hb]) fun hb'=>hn.2.2 b hb' b hb rfl),List.nodup_append.2 ⟨hn',hn.2.1,fun a ha b hb e=>?_⟩,fun b hb=>?_⟩
   ·subst e
    rcases hs a ha with h|h
    ·exact hn.2.2 a h a hb rfl
    ·exact h (by simp [hb])
   ·rcases List.mem_append.1 hb with hb|hb
    ·exact .inr hb
    ·exact .inl (by simp [hb])
 |y::cs,_,_,k+1,d,⟨u',us',T1,T2,rfl,rfl,h2,h3⟩,hnd,h=>by
  have hn:=List.nodup_append.1 hnd;obtain ⟨v,S1,k1,k2,k3,k4,k5,k6⟩:=RepL.put1 h3 hn.2.1 (by simpa using h)
  refine ⟨v,S1,by simpa using k1,k2,fun b hb=>by simp [k3 b hb],k4,fun j dj hj hd=>?_,fun w' d' S1' hk hr hn' hs=>?_⟩
  ·cases j with
   |zero=>
    simp at hd;subst hd;exact ⟨u',T1,rfl,h2,fun b hb=>⟨by simp [hb],fun hb'=>hn.2.2 b hb b (k3 b hb') rfl⟩⟩
   |succ j=>
    obtain ⟨vj,Sj,m1,m2,m3⟩:=k5 j dj (by omega) (by simpa using hd)
    exact ⟨vj,Sj,by simpa using m1,m2,fun b hb=>⟨by simp [(m3 b hb).1],(m3 b hb).2⟩⟩
  ·obtain ⟨S',m1,m2,m3⟩:=k6 w' d' S1' (fun b hb hb'=>hk b (by simp [hb]) hb') hr hn' (fun b hb=>by
    rcases hs b hb with h|h
    ·exact .inl h
    ·exact .inr fun hb'=>h (by simp [hb']))
   refine ⟨T1++S',RepL.cons_ (Rep.keep _ h2 fun b hb=>hk b (by simp [hb]) fun hb'=>hn.2.2 b hb b (k3 b hb') rfl) m1,List.nodup_append.2 ⟨hn.1,m2,fun a ha b hb e=>?_⟩,fun b hb=>?_⟩
   ·subst e
    rcases m3 a hb with h|h
    ·exact hn.2.2 a ha a h rfl
    ·rcases hs a h with h'|h'
     ·exact hn.2.2 a ha a (k3 a h') rfl
     ·exact h' (by simp [ha])
   ·rcases List.mem_append.1 hb with hb|hb
    ·exact .inl (by simp [hb])
    ·rcases m3 b hb with h|h
     ·exact .inl (by simp [h])
     ·exact .inr h
theorem jlP {ds:List D} {us:List Value} {S1:List Nat} {k:Nat} (hds:0<ds.length) (hnew:RepL w true ds us S1) (hn1:S1.Nodup):∀(p:List Nat) {d0:D} {u:Value} {S:List Nat} {size:Nat} {ty:TypeId} {cs:List D},Rep w true d0 u S→S.Nodup→(∀b∈S1,b∉S)→
 D.get p d0=some (.sl size ty cs)→k+ds.length≤cs.length→
 ∃gg nn cc,hdr w p d0 u=.slice (some ⟨gg,0,none⟩) nn cc∧gg∈S∧w.there gg k ds.length∧
  ∃S',Rep (w.setCells gg k us) true (D.put p k ds d0) u S'∧S'.Nodup∧(∀b∈S',b∈S∨b∈S1)∧∀q,¬jpT p k ds.length q→hdr (w.setCells gg k us) q (D.put p k ds d0) u=hdr w q d0 u
 |[],.val _,_,_,_,_,_,_,_,_,hg,_=>by simp [D.get] at hg
 |[],.sl size0 ty0 cs0,u,_,size,ty,cs,⟨vs,T,S',hrow,hrl,rfl⟩,hnd,hdis,hg,hle=>by
  simp [D.get] at hg;obtain ⟨rfl,rfl,rfl⟩:=hg;have hvl:=RepL.length _ hrl;have hul:=RepL.length _ hnew;have hn:=List.nodup_append.1 hnd;have hrow0:=hrow;rcases qy hrow with ⟨rfl,rfl⟩|⟨gg,nn,cc,rfl,rfl,hvn,hcell,hfz⟩
  ·simp at hvl;omega
  ·obtain ⟨nv,hown,_⟩:=hrow0
   have hnn:nn=nv:=by
    rcases hown.2 with ⟨h,_⟩|⟨_,_,_,h,_⟩
    ·cases h
    ·cases h;rfl
   subst hnn;have hne:∀b,b≠gg→(w.setCells gg k us).heap[b]?=w.heap[b]?:=fun b hb=>jam us w gg k b hb
   have hg1:∀b∈S1,b≠gg:=fun b hb e=>hdis b hb (by simp [e])
   have hg2:∀b∈S',b≠gg:=fun b hb e=>hn.2.2 gg (by simp) b hb e.symm
   have hrl':=RepL.keep (w':=w.setCells gg k us) _ hrl fun b hb=>hne b (hg2 b hb)
   have hnew':=RepL.keep (w':=w.setCells gg k us) _ hnew fun b hb=>hne b (hg1 b hb)
   obtain ⟨S2,h1,h2,h3⟩:=RepL.setAt_ (c:=k) hnew' hrl' (List.nodup_append.2 ⟨hn.2.1,hn1,fun a ha b hb e=>hdis b hb (by simp [←e,ha])⟩) hle
   have hset:=(jcu us k hown).1;rw [jm4] at hset;refine ⟨gg,nn,cc,rfl,by simp,jt4 hown k ds.length (by omega),[gg]++S2,⟨_,[gg],S2,⟨nn,hset,rfl⟩,h1,rfl⟩,List.nodup_append.2 ⟨by simp,h2,fun a ha b hb e=>?_⟩,fun b hb=>?_,fun q hq=>?_⟩
   ·simp at ha;subst ha;subst e
    rcases h3 a hb with h|h
    ·exact hg2 a h rfl
    ·exact hg1 a h rfl
   ·rcases List.mem_append.1 hb with hb|hb
    ·exact .inl (by simp at hb⊢;exact .inl hb)
    ·rcases h3 b hb with h|h
     ·exact .inl (by simp [h])
     ·exact .inr h
   ·cases q with
    |nil=>rfl
    |cons j r=>
     have hj:¬(k≤j∧j<k+ds.length):=fun h=>hq ⟨j,r,rfl,h.1,h.2⟩
     simp only [D.put,hdr,Nat.zero_add];rw [jcm ds cs0 k j hj];cases hc:cs0[j]? with
     |none=>rfl
     |some d=>
      obtain ⟨v,Sj,k1,k2,k3⟩:=RepL.nth hrl hc;have hlt:j<nn*size0:=by have:=(List.getElem?_eq_some_iff.1 k1).1;omega
      have e1:w.cell? ⟨gg,j,none⟩=some v:=hcell j v k1
      have e2:(w.setCells gg k us).cell? ⟨gg,j,none⟩=some v:=by
       rw [World.ownsRow.cellAt hset j hlt,jcm us vs k j (by omega),k1]
      simp only [e1,e2,Option.getD_some];exact jdn r k2 fun b hb=>hne b (hg2 b (k3 b hb))
 |i::p,.val _,_,_,_,_,_,_,_,_,hg,_=>by simp [D.get] at hg
 |i::p,.sl size0 ty0 cs0,u,_,size,ty,cs,⟨vs,T,S',hrow,hrl,rfl⟩,hnd,hdis,hg,hle=>by
  simp only [D.get] at hg;cases hc:cs0[i]? with
  |none=>rw [hc] at hg;simp at hg
  |some d=>
   rw [hc] at hg;have hn:=List.nodup_append.1 hnd;obtain ⟨v,Si,k1,k2,k3,k4,k5,k6⟩:=RepL.put1 hrl hn.2.1 hc;have hrow0:=hrow;rcases qy hrow with ⟨rfl,rfl⟩|⟨g0,nn0,cc0,rfl,rfl,hvn,hcell,hfz⟩
   ·simp at k1
   ·obtain ⟨gg,nn,cc,m1,m2,m3,Si',m4,m5,m6,m7⟩:=jlP hds hnew hn1 p k2 k4 (fun b hb hb'=>hdis b hb (by simp [k3 b hb'])) hg hle
    have hne:∀b,b≠gg→(w.setCells gg k us).heap[b]?=w.heap[b]?:=fun b hb=>jam us w gg k b hb
    have hg0:g0≠gg:=fun e=>hn.2.2 g0 (by simp) gg (k3 gg m2) e
    obtain ⟨S2,q1,q2,q3⟩:=k6 (w.setCells gg k us) (D.put p k ds d) Si' (fun b hb hb'=>hne b fun e=>hb' (e▸m2)) m4 m5 (fun b hb=>by
     rcases m6 b hb with h|h
     ·exact .inl h
     ·exact .inr fun hb'=>hdis b h (by simp [hb']))
    have hcell0:∀j v,vs[j]?=some v→(w.setCells gg k us).cell? ⟨g0,j,none⟩=some v:=fun j v hv=>by
     rw [World.cell?_of_block (w:=w) (a:=⟨g0,j,none⟩) (hne g0 hg0)];exact hcell j v hv
    have e0:hdr w (i::p) (.sl size0 ty0 cs0) (.slice (some ⟨g0,0,none⟩) nn0 cc0)=hdr w p d v:=by
     simp only [hdr,hc,Nat.zero_add,hcell i v k1,Option.getD_some]
    refine ⟨gg,nn,cc,by rw [e0];exact m1,by simp [k3 gg m2],m3,[g0]++S2,⟨vs,[g0],S2,hrow.keep fun b hb=>hne b (by simp at hb;subst hb;exact hg0),?_,rfl⟩,List.nodup_append.2 ⟨by simp,q2,fun a ha b hb e=>?_⟩,fun b hb=>?_,fun q hq=>?_⟩
    ·simp only [D.put,hc];exact q1
    ·simp at ha;subst ha;subst e
     rcases q3 a hb with h|h
     ·exact hn.2.2 a (by simp) a h rfl
     ·rcases m6 a h with h'|h'
      ·exact hn.2.2 a (by simp) a (k3 a h') rfl
      ·exact hdis a h' (by simp)
    ·rcases List.mem_append.1 hb with hb|hb
     ·exact .inl (by simp at hb⊢;exact .inl hb)
     ·rcases q3 b hb with h|h
      ·exact .inl (by simp [h])
      ·rcases m6 b h with h'|h'
       ·exact .inl (by simp [k3 b h'])
       ·exact .inr h'
    ·cases q with
     |nil=>rfl
     |cons j r=>
      simp only [D.put,hc,hdr,Nat.zero_add];by_cases hj:j=i
      ·subst hj
       have hlt:j<cs0.length:=(List.getElem?_eq_some_iff.1 hc).1;rw [List.getElem?_set_self hlt];simp only [hc,hcell0 j v k1,hcell j v k1,Option.getD_some];exact m7 r fun ⟨j',r',e,h1,h2⟩=>hq ⟨j',r',by rw [e];rfl,h1,h2⟩
      ·rw [List.getElem?_set_ne (Ne.symm hj)]
       cases hcj:cs0[j]? with
       |none=>rfl
       |some dj=>
        obtain ⟨vj,Sj,n1,n2,n3⟩:=k5 j dj hj hcj;simp only [hcell0 j vj n1,hcell j vj n1,Option.getD_some];exact jdn r n2 fun b hb=>hne b fun e=>(n3 b hb).2 (e▸m2)
theorem CRel.put1:∀{cs:List Cell} {us:List Value} {S:List Nat} {c:Nat} {d:D} {η:js},CRel B w cs us S→S.Nodup→cs[c]?=some (.own d η)→
 ∃u S1,d.isSl=true∧Rep w true d u S1∧(∀p,η p=hdr w p d u)∧(∀b∈S1,b∈S)∧S1.Nodup∧
 ∀(w':World) (d':D) (η':js) (S1':List Nat),Below B w w'→(∀b∈S,b∉S1→w'.heap[b]?=w.heap[b]?)→d'.isSl=true→Rep w' true d' u S1'→(∀p,η' p=hdr w' p d' u)→S1'.Nodup→(∀b∈S1',b∈S1∨b∉S)→
  ∃S',CRel B w' (cs.set c (.own d' η')) us S'∧S'.Nodup∧∀b∈S',b∈S∨b∈S1'
 |[],_,_,_,_,_,_,_,h=>by simp at h
 |.a x::cs,_,_,0,_,_,_,_,h=>by simp at h
 |.a x::cs,_,S,c+1,d,η,⟨u,us',rfl,h2,h3⟩,hnd,h=>by
  obtain ⟨v,S1,k0,k1,k2,k3,k4,k5⟩:=CRel.put1 h3 hnd (by simpa using h)
  refine ⟨v,S1,k0,k1,k2,k3,k4,fun w' d' η' S1' hb hk hs hr hη hn hsub=>?_⟩
  obtain ⟨S',m1,m2,m3⟩:=k5 w' d' η' S1' hb hk hs hr hη hn hsub;exact ⟨S',⟨u,us',rfl,h2.mono hb,m1⟩,m2,m3⟩
 |.own d0 η0::cs,_,_,0,d,η,⟨u,us',T1,T2,rfl,rfl,h3,h4,h5,h6⟩,hnd,h=>by
  simp at h;obtain ⟨rfl,rfl⟩:=h;have hn:=List.nodup_append.1 hnd;refine ⟨u,T1,h3,h4,h5,fun b hb=>by simp [hb],hn.1,fun w' d' η' S1' hb hk hs hr hη hn' hsub=>?_⟩
  refine ⟨S1'++T2,⟨u,us',S1',T2,rfl,rfl,hs,hr,hη,h6.keep hb fun b hb'=>hk b (by simp [hb']) fun hb''=>hn.2.2 b hb'' b hb' rfl⟩,List.nodup_append.2 ⟨hn',hn.2.1,fun a ha b hb' e=>?_⟩,fun b hb'=>?_⟩
  ·subst e
   rcases hsub a ha with h|h
   ·exact hn.2.2 a h a hb' rfl
   ·exact h (by simp [hb'])
  ·rcases List.mem_append.1 hb' with hb'|hb'
   ·exact .inr hb'
   ·exact .inl (by simp [hb'])
 |.own d0 η0::cs,_,_,c+1,d,η,⟨u,us',T1,T2,rfl,rfl,h3,h4,h5,h6⟩,hnd,h=>by
  have hn:=List.nodup_append.1 hnd;obtain ⟨v,S1,k0,k1,k2,k3,k4,k5⟩:=CRel.put1 h6 hn.2.1 (by simpa using h)
  refine ⟨v,S1,k0,k1,k2,fun b hb=>by simp [k3 b hb],k4,fun w' d' η' S1' hb hk hs hr hη hn' hsub=>?_⟩
  obtain ⟨S',m1,m2,m3⟩:=k5 w' d' η' S1' hb (fun b hb1 hb2=>hk b (by simp [hb1]) hb2) hs hr hη hn' (fun b hb1=>by
   rcases hsub b hb1 with h|h
   ·exact .inl h
   ·exact .inr fun h'=>h (by simp [h']))
  have hT:∀b∈T1,w'.heap[b]?=w.heap[b]?:=fun b hb1=>hk b (by simp [hb1]) fun hb2=>hn.2.2 b hb1 b (k3 b hb2) rfl
  refine ⟨T1++S',⟨u,us',T1,S',rfl,rfl,h3,Rep.keep _ h4 hT,fun p=>by rw [jdn p h4 hT];exact h5 p,m1⟩,List.nodup_append.2 ⟨hn.1,m2,fun a ha b hb1 e=>?_⟩,fun b hb1=>?_⟩
  ·subst e
   rcases m3 a hb1 with h|h
   ·exact hn.2.2 a ha a h rfl
   ·rcases hsub a h with h'|h'
    ·exact hn.2.2 a ha a (k3 a h') rfl
    ·exact h' (by simp [ha])
  ·rcases List.mem_append.1 hb1 with hb1|hb1
   ·exact .inl (by simp [hb1])
   ·rcases m3 b hb1 with h|h
    ·exact .inl (by simp [h])
    ·exact .inr h
theorem ORel.put1 {ob:Ob} {S:List Nat} {c:Nat} {d:D} {η:js} (ho:ORel B w ob S) (hnd:S.Nodup) (h:ob.own c=some (d,η)):
 ∃u S1,d.isSl=true∧Rep w true d u S1∧(∀p,η p=hdr w p d u)∧(∀b∈S1,b∈S)∧S1.Nodup∧
 ∀(w':World) (d':D) (η':js) (S1':List Nat),Below B w w'→(∀b∈S,b∉S1→w'.heap[b]?=w.heap[b]?)→d'.isSl=true→Rep w' true d' u S1'→(∀p,η' p=hdr w' p d' u)→S1'.Nodup→(∀b∈S1',b∈S1∨b∉S)→
  ∃S',ORel B w' (ob.putOwn c d' η') S'∧S'.Nodup∧∀b∈S',b∈S∨b∈S1':=by
 cases ob with
 |none=>simp [Ob.own] at h
 |loose d0 η0=>
  cases c with
  |succ c=>simp [Ob.own] at h
  |zero=>
   simp [Ob.own] at h;obtain ⟨rfl,rfl⟩:=h;obtain ⟨h0,u,h1,h2⟩:=ho;exact ⟨u,S,h0,h1,h2,fun _ h=>h,hnd,fun w' d' η' S1' _ _ hs hr hη hn _=>⟨S1',⟨hs,u,hr,hη⟩,hn,fun b hb=>.inr hb⟩⟩
 |box b ty cs=>
  obtain ⟨us,S0,h1,h2,rfl⟩:=ho;have hn:=List.nodup_cons.1 hnd
  have hc:cs[c]?=some (.own d η):=by
   simp only [Ob.own] at h;split at h
   ·simp at h;obtain ⟨rfl,rfl⟩:=h;assumption
   ·simp at h
  obtain ⟨u,S1,k0,k1,k2,k3,k4,k5⟩:=h2.put1 hn.2 hc;refine ⟨u,S1,k0,k1,k2,fun b hb=>by simp [k3 b hb],k4,fun w' d' η' S1' hb hk hs hr hη hn' hsub=>?_⟩
  obtain ⟨S',m1,m2,m3⟩:=k5 w' d' η' S1' hb (fun b hb1 hb2=>hk b (by simp [hb1]) hb2) hs hr hη hn' (fun b hb1=>by
   rcases hsub b hb1 with h|h
   ·exact .inl h
   ·exact .inr fun h'=>h (by simp [h']))
  refine ⟨b::S',⟨us,S',(hk b (by simp) fun hb1=>hn.1 (k3 b hb1)).trans h1,m1,rfl⟩,List.nodup_cons.2 ⟨fun hb1=>?_,m2⟩,fun x hx=>?_⟩
  ·rcases m3 b hb1 with h|h
   ·exact hn.1 h
   ·rcases hsub b h with h'|h'
    ·exact hn.1 (k3 b h')
    ·exact h' (by simp)
  ·rcases List.mem_cons.1 hx with rfl|hx
   ·exact .inl (by simp)
   ·rcases m3 x hx with h|h
    ·exact .inl (by simp [h])
    ·exact .inr h
theorem jxA:∀(p:List Nat) (i:Nat) (ds:List D) {d:D},d.isSl=true→(D.put p i ds d).isSl=true
 |[],_,_,.sl _ _ _,_=>rfl
 |_::_,_,_,.sl _ _ _,_=>rfl
 |[],_,_,.val _,h=>by cases h
 |_::_,_,_,.val _,h=>by cases h
theorem jfz:∀{ks:List (Option (Nat×Nat))} {cs:List Cell} {us:List Value} {S:List Nat} {ds:List D},CRel B w cs us S→zZ ks cs=some ds→RepL w true ds us S
 |_,[],us,S,ds,h,hd=>by simp [zZ] at hd;subst hd;exact h
 |ks,.a x::cs,us,S,ds,⟨u,us',h1,h2,h3⟩,hd=>by
  cases x with
  |v x=>
   simp only [zZ] at hd;split at hd
   ·simp at hd;subst hd
    subst h1;rw [show u=x from h2]
    exact ⟨x,us',[],S,rfl,rfl,jqz _ _,jfz h3 (by assumption)⟩
   ·simp at hd
  |_=>simp [zZ] at hd
 |ks,.own d η::cs,us,S,ds,⟨u,us',S1,S2,h1,h2,_,h4,_,h6⟩,hd=>by
  simp only [zZ] at hd;split at hd
  ·simp at hd;subst hd
   subst h1 h2;exact RepL.cons_ h4 (jfz h6 (by assumption))
  ·simp at hd
theorem jfq {j:Nat} {r:List Nat} {v:Value}:∀(p:List Nat) {d:D} {u:Value} {size:Nat} {ty:TypeId} {cs:List D},D.get p d=some (.sl size ty cs)→cs[j]?=some (.val v)→hdr w (p++j::r) d u=undef
 |[],.val _,_,_,_,_,hg,_=>by simp [D.get] at hg
 |[],.sl s t cs0,u,size,ty,cs,hg,hc=>by
  simp [D.get] at hg;obtain ⟨rfl,rfl,rfl⟩:=hg;simp only [List.nil_append];have hv:∀x,hdr w r (.val v) x=undef:=fun x=>by cases r<;>rfl
  cases u with
  |slice A n c=>cases A with
   |some a=>simp only [hdr,hc,hv]
   |none=>rfl
  |_=>rfl
 |i::p,.val _,_,_,_,_,hg,_=>by simp [D.get] at hg
 |i::p,.sl s t cs0,u,size,ty,cs,hg,hc=>by
  simp only [D.get] at hg;cases hi:cs0[i]? with
  |none=>rw [hi] at hg;simp at hg
  |some d'=>
   rw [hi] at hg;cases u with
   |slice A n c=>cases A with
    |some a=>simp only [List.cons_append,hdr,hi];exact jfq p hg hc
    |none=>rfl
   |_=>rfl
theorem jcz:∀(p:List Nat) {d:D} {k:Nat} {ds:List D} {size:Nat} {ty:TypeId} {cs:List D},D.get p d=some (.sl size ty cs)→D.get p (D.put p k ds d)=some (.sl size ty (kD cs k ds))
 |[],.val _,_,_,_,_,_,hg=>by simp [D.get] at hg
 |[],.sl s t cs0,k,ds,size,ty,cs,hg=>by
  simp [D.get] at hg;obtain ⟨rfl,rfl,rfl⟩:=hg;simp [D.put,D.get]
 |i::p,.val _,_,_,_,_,_,hg=>by simp [D.get] at hg
 |i::p,.sl s t cs0,k,ds,size,ty,cs,hg=>by
  simp only [D.get] at hg;cases hi:cs0[i]? with
  |none=>rw [hi] at hg;simp at hg
  |some d'=>
   rw [hi] at hg;simp only [D.put,hi,D.get];rw [List.getElem?_set_self (List.getElem?_eq_some_iff.1 hi).1];exact jcz p hg
theorem jcC:∀{l:List D} {j:Nat},kb l=true→j<l.length→∃v,l[j]?=some (.val v)
 |.val u::l,0,_,_=>⟨u,rfl⟩
 |.val u::l,j+1,h,hj=>by simp only [kb,Bool.and_eq_true] at h;simpa using jcC h.2 (by simpa using hj)
 |.sl _ _ _::_,_,h,_=>by simp [kb] at h
 |[],_,_,hj=>by simp at hj
theorem ji2 {α:Type}:∀(vs:List α) (cs:List α) (k j:Nat),k+vs.length≤cs.length→k≤j→j<k+vs.length→(kD cs k vs)[j]?=vs[j-k]?
 |[],cs,k,j,_,h1,h2=>by simp at h2;omega
 |v::vs,cs,k,j,hl,h1,h2=>by
  simp only [List.length_cons] at hl h2;show (kD (cs.set k v) (k+1) vs)[j]?=_;by_cases e:j=k
  ·subst e
   have keep:∀(vs:List α) (cs:List α) (k j:Nat),j<k→(kD cs k vs)[j]?=cs[j]?:=by
    intro vs
    induction vs with
    |nil=>intros;rfl
    |cons a vs ih=>intro cs k j hj;show (kD (cs.set k a) (k+1) vs)[j]?=_;rw [ih _ _ _ (by omega),List.getElem?_set_ne (by omega)]
   rw [keep _ _ _ _ (by omega),List.getElem?_set_self (by omega)];simp
  ·rw [ji2 vs _ _ _ (by simp;omega) (by omega) (by omega),show j-k=(j-(k+1))+1 by omega];simp
theorem ok_st (h:RelF B w0 N s a w F) {t:TypeId} {x y:Operand} {x' y':X} {n:Nat} {ks:List (Option (Nat×Nat))} {g:Option (Nat×Bool)} (ho:o.op=.store t x y) (hn:qa P t=some n) (hx:jP x=some x') (hy:jP y=some y') (hr:vd P β ⟨o.dst,g,.st n ks x' y'⟩ s K):
 OpOk P o a w (fun a' w'=>∃s' F',RelF B w0 N s' a' w' F'∧K s'):=by
 obtain ⟨hdst,l,h2,h3,h4⟩:=hr;simp only at hdst;obtain ⟨us,h5,h6⟩:=VRel.cells (qE h hy) h2;obtain ⟨inf,hinf,hsz⟩:=ji0 hn;have hul:=A0RelL.len h6;have ha:a.put o.dst undef=a:=by rw [hdst];rfl
 have hpv:=qE h hx;obtain ⟨cs,s',S,F',hk,k2,k3,k4,k5,k6,k7,k8⟩:=jbw h h6 h4;have hlen:=CRel.len k2;split at hk
 ·rename_i k c b he
  obtain ⟨ty,ds,k0,kc,kk⟩:=hk;have hp:a.eval x=.pointer (some ⟨b,c,none⟩):=by rw [he] at hpv;exact hpv
  have hob:=k3.ob k;rw [k0] at hob;obtain ⟨vs,S0,j1,j2,j3⟩:=hob;have hvl:=CRel.len j2
  have hrun:(execOp a.eval o).run P w=.ok .skip (w.setCells b c us):=by
   have hst:=run_storeCells_cells (P:=P) b c us 0 w (fun j hj=>by
    have:c+j<vs.length:=by omega
    simp [World.cell?,j1,this]) (fun j hj=>by simp [World.frozen?,j1]) k8
   simp only [Nat.add_zero] at hst;simp [execOp,ho,Instr.storeAt,hp,Instr.sureAddr,storeVar,h5,sizeOf,typeInfo,hinf,hsz,hul,h3,hst]
  obtain ⟨j4,j5⟩:=qo us w b c vs ty j1;obtain ⟨j6,j7,j8,j9⟩:=kH us w b c;have hfk:=k3.fr k;rw [j3] at hfk;have hBb:B≤b:=hfk.2 b (by simp)
  have hb:Below B w (w.setCells b c us):=⟨j6,j7,j8,by rw [j9];exact Nat.le_refl _,fun i hi=>j5 i (by omega)⟩
  have hbF:∀g',g'≠k→b∉F' g':=fun g' hg' hh=>k3.dj g' k hg' b hh (by rw [j3];simp)
  have hbS:b∉S:=fun hh=>k5 k b hh (by rw [j3];simp)
  have hbS0:b∉S0:=(List.nodup_cons.1 hfk.1).1;have hdis:(S0++S).Nodup:=List.nodup_append.2 ⟨(List.nodup_cons.1 hfk.1).2,k4.1,fun x hx y hy e=>k5 k y hy (by rw [j3];simp [←e,hx])⟩
  obtain ⟨S',m1,m2,m3⟩:=CRel.setAt_ (c:=c) k2 j2 hdis (by omega)
  have hbS':b∉S':=fun hh=>by rcases m3 b hh with h|h;exact hbS0 h;exact hbS h
  have r1:=k3.setO (g:=k) (ob:=.none) (S:=[]) rfl (Fresh.nil _) (by simp)
  have r2:=r1.world' hb fun g' x hx=>by
   split at hx
   ·simp at hx
   ·rename_i hg'
    exact j5 x fun e=>hbF g' hg' (e▸hx)
  have hob':ORel B (w.setCells b c us) (.box b ty (kD ds c cs)) (b::S'):=⟨_,S',j4,m1.keep hb fun x hx=>j5 x fun e=>hbS' (e▸hx),rfl⟩
  have r3:=r2.setO (g:=k) hob' ⟨List.nodup_cons.2 ⟨hbS',m2⟩,fun x hx=>by
   rcases List.mem_cons.1 hx with rfl|hx
   ·exact hBb
   ·rcases m3 x hx with h|h
    ·exact hfk.2 x (by simp [h])
    ·exact k4.2 x h⟩ (fun g' hg' x hx=>by
   rw [if_neg hg'];rcases List.mem_cons.1 hx with rfl|hx
   ·exact hbF g' hg'
   ·rcases m3 x hx with h|h
    ·exact fun hh=>k3.dj g' k hg' x hh (by rw [j3];simp [h])
    ·exact k5 g' x h)
  have hss:(s'.setO k .none).setO k (.box b ty (kD ds c cs))=s'.setO k (.box b ty (kD ds c cs)):=by
   simp only [St.setO,St.mk.injEq,true_and]
   funext i;split<;>rfl
  rw [hss] at r3;exact OpOk.of_skip hrun (by rw [ha];exact ⟨_,_,r3,kk⟩)
 ·rename_i k c p i hx0 he
  obtain ⟨hpos,ds,hdat,d0,η,dd,j1,j2,j3,j4,j5,hk⟩:=hk;have hp:a.eval x=.pointer (some (jbF hx0 i)):=by rw [he] at hpv;exact hpv
  have hnew:=jfz k2 hdat;have hdl:=RepL.length _ hnew;have hdn:ds.length=n:=by omega
  have hfk:=k3.fr k;obtain ⟨u,S1,q0,q1,q2,q3,q4,q5⟩:=ORel.put1 (k3.ob k) hfk.1 j1;cases dd with
  |val _=>cases j4
  |sl size ty cs0=>
   simp only [D.cells] at j5;obtain ⟨gg,nn,cc,r1,r2,r3,S1',r4,r5,r6,r7⟩:=jlP (k:=i) (by omega) hnew k4.1 p q1 q4 (fun b hb hb'=>k5 k b hb (q3 b hb')) j3 (by omega)
   have hhx:hx0=.slice (some ⟨gg,0,none⟩) nn cc:=by rw [←j2,q2,r1]
   have hp':a.eval x=.pointer (some ⟨gg,i,none⟩):=by rw [hp,hhx];simp [jbF]
   have hrun:(execOp a.eval o).run P w=.ok .skip (w.setCells gg i us):=by
    have hst:=run_storeCells_cells (P:=P) gg i us 0 w (fun j hj=>(r3 j (by omega)).1) (fun j hj=>(r3 j (by omega)).2) k8
    simp only [Nat.add_zero] at hst;simp [execOp,ho,Instr.storeAt,hp',Instr.sureAddr,storeVar,h5,sizeOf,typeInfo,hinf,hsz,hul,h3,hst]
   obtain ⟨j6,j7,j8,j9⟩:=kH us w gg i;have hggF:gg∈F' k:=q3 gg r2;have hBb:B≤gg:=hfk.2 gg hggF;have hne:∀b,b≠gg→(w.setCells gg i us).heap[b]?=w.heap[b]?:=fun b hb=>jam us w gg i b hb
   have hb:Below B w (w.setCells gg i us):=⟨j6,j7,j8,by rw [j9];exact Nat.le_refl _,fun j hj=>hne j (by omega)⟩
   have hsl:(D.put p i ds d0).isSl=true:=jxA _ _ _ q0
   obtain ⟨S',m1,m2,m3⟩:=q5 (w.setCells gg i us) (D.put p i ds d0) (fun q=>hdr (w.setCells gg i us) q (D.put p i ds d0) u) S1' hb (fun b _ hb2=>hne b fun e=>hb2 (e▸r2)) hsl r4 (fun _=>rfl) r5 (fun b hb1=>by
    rcases r6 b hb1 with h|h
    ·exact .inl h
    ·exact .inr fun h'=>k5 k b h h')
   have t1:=k3.setO (g:=k) (ob:=.none) (S:=[]) rfl (Fresh.nil _) (by simp)
   have t2:=t1.world' hb fun g' x hx=>by
    split at hx
    ·simp at hx
    ·rename_i hg'
     exact hne x fun e=>k3.dj g' k hg' x hx (e▸hggF)
   have hS'F:∀x∈S',x∈F' k∨x∈S:=fun x hx=>by
    rcases m3 x hx with h|h
    ·exact .inl h
    ·rcases r6 x h with h'|h'
     ·exact .inl (q3 x h')
     ·exact .inr h'
   have t3:=t2.setO (g:=k) m1 ⟨m2,fun x hx=>by
    rcases hS'F x hx with h|h
    ·exact hfk.2 x h
    ·exact k4.2 x h⟩ (fun g' hg' x hx=>by
    rw [if_neg hg'];rcases hS'F x hx with h|h
    ·exact fun hh=>k3.dj g' k hg' x hh h
    ·exact k5 g' x h)
   have hss:(s'.setO k .none).setO k ((s'.o k).putOwn c (D.put p i ds d0) (fun q=>hdr (w.setCells gg i us) q (D.put p i ds d0) u))=s'.setO k ((s'.o k).putOwn c (D.put p i ds d0) (fun q=>hdr (w.setCells gg i us) q (D.put p i ds d0) u)):=by
    simp only [St.setO,St.mk.injEq,true_and]
    funext i;split<;>rfl
   rw [hss] at t3
   exact OpOk.of_skip hrun (by
    rw [ha];have hlike:∀q,¬jpT p i n q→hdr (w.setCells gg i us) q (D.put p i ds d0) u=η q:=fun q hq=>by rw [q2];exact r7 q (by rw [hdn];exact hq)
    refine ⟨_,_,t3,jxp hk hlike fun hf=>?_⟩
    simp only [Bool.and_eq_true] at hf
    funext q
    by_cases hq:jpT p i n q
    ·obtain ⟨j,r,rfl,hj1,hj2⟩:=hq
     obtain ⟨v1,hv1⟩:=jcC (j:=j-i) hf.1 (by omega)
     obtain ⟨v2,hv2⟩:=jcC (j:=j-i) hf.2 (by simp only [D.cells,List.length_take,List.length_drop];omega)
     rw [q2];rw [jfq (w:=w.setCells gg i us) (j:=j) (v:=v1) p (jcz p j3) (by rw [ji2 _ _ _ _ (by omega) hj1 (by omega)];exact hv1)]
     refine (jfq (v:=v2) p j3 ?_).symm;rw [←hv2];simp only [D.cells];rw [List.getElem?_take,if_pos (by omega),List.getElem?_drop]
     congr 1;omega
    ·exact hlike q hq)
 ·exact hk.elim
end
end Go.Proofs.YtcehjhiglmifjaaGreat
