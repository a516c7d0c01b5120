/- Parts. -/
import Derived.Test.YtcehjhiglmifjaaGreatQBase2
import Derived.Lib.AppendStr
set_option linter.all false
namespace Go.Proofs.YtcehjhiglmifjaaGreat
open Go.RowKit Go.Sort
section
variable {P:Program} {B N:Nat} {w w0:World} {s:St} {a:Act} {F:Nat->List Nat} {o:Oper} {G:AV->List (Nat×Ob)->Prop} {d:Nat} {rt:RT}
theorem jB4 {op:BinOp} {t:TypeId} {k k':IntKind} {m n:Int} (h:jzN op k k' n):(binOp op t (.int k m) (.int k' n)).run P w=.ok (jcC op k m n) w:=by
 cases op with
 |shl=>have h:0<=n:=h;have h':¬n<0:=by omega
       simp [binOp,Op.shift,h',jcC]
 |shr=>have h:0<=n:=h;have h':¬n<0:=by omega
       simp [binOp,Op.shift,h',jcC]
 |quo=>obtain ⟨rfl,h⟩:=h
       simp [binOp,Op.intDiv,h,jcC]
 |rem=>obtain ⟨rfl,h⟩:=h
       simp [binOp,Op.intDiv,h,jcC]
 |_=>
  obtain rfl:k=k':=h;simp [binOp,Op.intArith,Op.intBits,Op.intCmp,jcC]
theorem go_bin (h:RelF B w0 N s a w F) {op:BinOp} {t t':TypeId} {x y:Operand} {x' y':X} (ho:o.op=.binOp op t x y t') (hx:jQ x=some x') (hy:jQ y=some y')
 (hg:∀st,∃av os,Gen P s d rt st (.bin op t x' y') av os/\G av os):Goes P o a w (kt B w G):=by
 obtain ⟨av,os,⟨h1,rfl⟩,hG⟩:=hg ⟨0,λ_ _=>undef⟩
 rcases h1 with ⟨u,v,r,h2,h3,h4,rfl⟩|⟨l,m,xs,ys,b,h2,h3,h4,h5,h6,rfl⟩
 ·have e1:=jjx h hx h2
  have e2:=jjx h hy h3;refine vV (v:=r) ?_ (by exact rfl) hG
  unfold jDy at h4;split at h4
  ·obtain ⟨h5,rfl⟩:=h4
   have hr:=λm=>jB4 (P:=P) (w:=w) (t:=t) (m:=m) h5
   cases op<;>simp [execOp,ho,e1,e2,eqGuard,hr]
  ·split at h4
   ·obtain ⟨h5,rfl⟩:=h4
    unfold maxLen at h5;rename_i b1 b2 _;have h6:¬((9223372036854775807:Int)<(b1.size:Int)+(b2.size:Int)):=by omega
    simp [execOp,ho,e1,e2,eqGuard,binOp,Op.stringOp,IntKind.max];simp [IntKind.signed,IntKind.bits];omega
   ·subst h4
    simp [execOp,ho,e1,e2,eqGuard,binOp,Op.stringOp]
   ·subst h4
    simp [execOp,ho,e1,e2,eqGuard,binOp,Op.stringOp]
   ·exact h4.elim
  ·exact h4.elim
 ·have gQ:=qT h hx
  have n8:=qT h hy;rw [h2] at gQ;rw [h3] at n8;obtain ⟨us,e1,k1⟩:=gQ;obtain ⟨vs,e2,k2⟩:=n8
  have key:∀(l:List A0) (us xs:List Value),A0RelL B w l us->jc3 l=some xs->us=xs:=by
   intro l
   induction l with
   |nil=>intro us xs k1 k2;simp [jc3] at k2;subst k2;exact k1
   |cons a0 l ih=>
    intro us xs k1 k2;obtain ⟨u,us',rfl,k3,k4⟩:=k1;cases a0 with
    |v x=>
     simp only [jc3] at k2;split at k2
     ·simp at k2;subst k2
      rw [show u=x from k3,ih us' _ k4 (by assumption)]
     ·simp at k2
    |_=>simp [jc3] at k2
  obtain rfl:=key l us xs k1 h4;obtain rfl:=key m vs ys k2 h5;obtain ⟨h7,h8⟩:=h6 w;refine vV (v:=.bool b) ?_ (by exact rfl) hG
  simp [execOp,ho,e1,e2,h7,h8]
theorem go_num (h:RelF B w0 N s a w F) {t t':TypeId} {x:Operand} {x':X} {k0 k:IntKind} {e:Nat} (ho:o.op=.convert t t' x) (ht:P.underlying t=some (.int k0)) (dQ:P.underlying t'=some (.int k)) (hx:jQ x=some x')
 (hg:∀st,∃av os,Gen P s d rt st (.cv (.num k) e x') av os/\G av os):Goes P o a w (kt B w G):=by
 obtain ⟨av,os,⟨⟨k',n,h1,rfl⟩,rfl⟩,hG⟩:=hg ⟨0,λ_ _=>undef⟩
 refine vV (v:=.int k (k.wrap n)) ?_ (by exact rfl) hG
 simp [execOp,ho,convert,run_underlying ht,run_underlying dQ,jjx h hx h1,Conv.intToInt]
theorem go_text (h:RelF B w0 N s a w F) {t t' e:TypeId} {x:Operand} {x':X} (ho:o.op=.convert t t' x) (ht:P.underlying t=some (.slice e)) (he:P.underlying e=some (.int .u8)) (dQ:P.underlying t'=some .string) (hx:jQ x=some x')
 (hg:∀st,∃av os,Gen P s d rt st (.cv .text e x') av os/\G av os):Goes P o a w (kt B w G):=by
 obtain ⟨av,os,⟨⟨a0,ty,bs,h1,h2,rfl⟩,rfl⟩,hG⟩:=hg ⟨0,λ_ _=>undef⟩
 have hv:=qT h hx;rw [h1] at hv;obtain ⟨S,h3⟩:=jld h hv h2;obtain ⟨A,n,c,vs,S',hu,h4,h5,_,_,_,h6,h7⟩:=jad h3;simp only [aQI,aPK] at h4;subst h4;refine vV (v:=.string ⟨bs.toArray⟩) ?_ (by exact rfl) hG
 have mY:vs=bs.map λb=>.int .u8 (b.toNat:Int):=by
  have key:∀(bs:List UInt8) (vs:List Value) (S:List Nat),RepL w false (bs.map qv) vs S->vs=bs.map λb=>.int .u8 (b.toNat:Int):=by
   intro bs
   induction bs with
   |nil=>intro vs S h;exact h.1
   |cons b bs ih=>
    intro vs S h;obtain ⟨v,vs',S1,S2,rfl,_,k1,k2⟩:=h;rw [aQX,<-ih vs' S2 k2,show v=.int .u8 (b.toNat:Int) from k1.1]
  exact key bs vs S' h5
 have aW:(convert t t' (.slice A bs.length c)).run P w=.ok (.string ⟨bs.toArray⟩) w:=by
  cases A with
  |none=>
   have:=h6 rfl;subst this
   have hn:bs=[]:=by
    cases bs with
    |nil=>rfl
    |cons b bs=>
     obtain ⟨_,_,k1,_⟩:=h7 (by rw [mY];simp)
     cases k1
   subst hn;exact run_convert_bytes_nil w t e ht he _ _ t' dQ
  |some ad=>
   by_cases aK:bs=[]
   ·subst aK
    rw [run_convert_bytes_string w t t' e _ _ _ ht he dQ,run_bytesToString w _ _ _ [] (by simp [loadCells,loadCellsFrom])]
    simp;rfl
   ·obtain ⟨b,off,hA,_,h8⟩:=h7 (by rw [mY];simpa using aK)
    cases hA;rw [run_convert_bytes_string w t t' e _ _ _ ht he dQ,run_bytesToString w _ _ _ (bs.map λb=>(b.toNat:Int)) ?_]
    ·rw [foldl_push_bytes]
     simp [ByteArray.empty,ByteArray.emptyWithCapacity];show []++_=_;rw [aQG]
     conv=>rhs;rw [<-List.map_id bs]
     exact List.map_congr_left λb _=>by simp
    ·have:=run_loadCells_list (P:=P) w ⟨b,off,none⟩ vs (λj v hj=>by rw [jat];exact h8 j v hj)
     rw [mY] at this;simpa [Function.comp_def] using this
 simp only [execOp,ho,hu,Sem.run_bind,aW,Result.andThen];rfl
theorem js1 (k:Option (Nat×Nat)) (x:Value):Rep w true (js2 k x) x []:=by
 unfold js2;split
 ·exact Rep.nil_ _ _ _
 ·exact ⟨rfl,rfl⟩
theorem jrD:∀(ks:List (Option (Nat×Nat))) (l:List Value),RepL w true (juG ks l) l []
 |_,[]=>⟨rfl,rfl⟩
 |ks,x::l=>⟨x,l,[],[],rfl,rfl,js1 _ _,jrD ks.tail l⟩
theorem go_mks (h:RelF B w0 N s a w F) {t e:TypeId} {l c:Operand} {l' c':X} {i:TypeInfo} {zs:List Value} {ks:List (Option (Nat×Nat))} (ho:o.op=.makeSlice t l c) (ht:P.underlying t=some (.slice e)) (hi:P.info? e=some i) (hz:vJ P e=some zs) (hs:0<i.size) (hl:jQ l=some l') (hc:jQ c=some c')
 (hg:∀st,∃av os,Gen P s d rt st (.mks e i.size i.bytes (juG ks zs) l' c') av os/\G av os):Goes P o a w (kt B w G):=by
 obtain ⟨_,_,⟨k,k',n,h1,h2,h3,h4,_⟩,_⟩:=hg ⟨0,λ_ _=>undef⟩
 unfold vJ at hz;rw [hi] at hz;simp only at hz;split at hz
 ·rename_i z gC
  split at hz
  ·rename_i nW
   simp only [aPG,aPM] at nW;simp at hz;subst hz;obtain ⟨w',hr,r1,r2⟩:=run_make_full (P:=P) w 0 t e i z i.size ht hi gC rfl k k' n h3 h4 (aPP _);obtain ⟨av,os,⟨k2,k2',n2,dG,bP,_,_,rfl,rfl⟩,hG⟩:=hg ⟨0,λ_ p=>hdr w' p (.sl i.size e ((List.replicate n (juG ks z.cells.toList)).flatten)) (.slice (some ⟨w.heap.size,0,none⟩) n n)⟩
   rw [h1] at dG
   have tI:n=n2:=by
    have:=dG;simp at this;omega
   subst tI
   have aW:(execOp a.eval o).run P w=.ok (.value (.slice (some ⟨w.heap.size,0,none⟩) n n)) w':=by
    simp [execOp,ho,jjx h hl h1,jjx h hc h2,hr]
   have bH:Rep w' true (.sl i.size e ((List.replicate n (juG ks z.cells.toList)).flatten)) (.slice (some ⟨w.heap.size,0,none⟩) n n) [w.heap.size]:=by
    have h5:(madeCells z.cells (n*i.size)).toList=(List.replicate n z.cells.toList).flatten:=by
     apply aRB
     intro j;by_cases hj:j<n*i.size
     ·rw [jac (by simp [nW.1]) hs n j hj]
      simp [madeCells,hj,nW.1];rw [Array.getElem?_eq_getElem (by rw [nW.1];exact Nat.mod_lt _ hs)]
      simp only [Option.some.injEq];exact getElem!_pos _ _ _
     ·rw [aQQ (by simp [madeCells];omega),aQQ (by simp [nW.1];omega)]
    rw [h5] at r1
    have key:∀(n:Nat),RepL w' true (List.replicate n (juG ks z.cells.toList)).flatten (List.replicate n z.cells.toList).flatten []:=by
     intro n
     induction n with
     |zero=>exact ⟨rfl,rfl⟩
     |succ n ih=>
      simp only [List.replicate_succ,aSB];have:=RepL.append_ (juG ks z.cells.toList) (jrD (w:=w') ks z.cells.toList) ih;simpa using this
    exact ⟨_,[w.heap.size],[],⟨n,r1,rfl⟩,key _,rfl⟩
   have hn:jcW B w' [(100*d,.loose (.sl i.size e ((List.replicate n (juG ks z.cells.toList)).flatten)) (λp=>hdr w' p (.sl i.size e ((List.replicate n (juG ks z.cells.toList)).flatten)) (.slice (some ⟨w.heap.size,0,none⟩) n n)))] [w.heap.size]:=
    ⟨[w.heap.size],[],rfl,⟨rfl,_,bH,λ_=>rfl⟩,rfl⟩
   exact mk_ aW (by exact ⟨rfl,rfl⟩) hn (Fresh.one _ _ (aPD _)) (jqJ r2) hG
  ·simp at hz
 ·simp at hz
theorem A0RelL.drop_:∀{l:List A0} {us:List Value} (k:Nat),A0RelL B w l us->A0RelL B w (l.drop k) (us.drop k)
 |_,_,0,h=>h
 |[],_,_+1,h=>by rw [show _=_ from h];rfl
 |_::_,_,k+1,⟨_,us',h1,_,h3⟩=>by subst h1;exact A0RelL.drop_ k h3
theorem A0RelL.take_:∀{l:List A0} {us:List Value} (k:Nat),A0RelL B w l us->A0RelL B w (l.take k) (us.take k)
 |_,_,0,_=>rfl
 |[],_,_+1,h=>by rw [show _=_ from h];rfl
 |_::_,_,k+1,⟨u,us',h1,h2,h3⟩=>by subst h1;exact ⟨u,us'.take k,rfl,h2,A0RelL.take_ k h3⟩
theorem go_fld (h:RelF B w0 N s a w F) {t:TypeId} {x:Operand} {x':X} {f n:Nat} {agg:Bool} {fs:Array Field} {fd:Field} {dsc:TypeDesc} (ho:o.op=.field t x f) (ht:P.underlying t=some (.struct fs)) (hf:fs[f]?=some fd) (hu:P.underlying fd.type=some dsc) (g9:agg=jDE dsc) (hn:qj P fd.type=some n) (hx:jQ x=some x')
 (hg:∀st,∃av os,Gen P s d rt st (.fld agg fd.offset n x') av os/\G av os):Goes P o a w (kt B w G):=by
 obtain ⟨av,os,⟨l,h1,h2,h3,rfl⟩,hG⟩:=hg ⟨0,λ_ _=>undef⟩
 have hv:=qT h hx;rw [h1] at hv;obtain ⟨us,he,hr⟩:=hv;obtain ⟨i,hi,cJ⟩:=jkF hn;have hl:=A0RelL.len hr;have hp:A0RelL B w ((l.drop fd.offset).take n) ((us.drop fd.offset).take n):=(hr.drop_ _).take_ _;cases agg with
 |true=>
  obtain rfl:av=.agg ((l.drop fd.offset).take n):=by simpa using h3
  have eY:(isAgg fd.type).run P w=.ok true w:=by
   simp only [isAgg,Sem.run_bind,run_underlying hu];cases dsc<;>first|rfl|cases g9
  refine vV (v:=.agg ((us.drop fd.offset).take n).toArray) ?_ (by exact ⟨_,rfl,hp⟩) hG
  simp [execOp,ho,Instr.field,run_underlying ht,hf,he,asAgg,part,eY,sizeOf,typeInfo,hi,cJ,List.extract_eq_take_drop]
 |false=>
  obtain ⟨a0,e0,rfl⟩:∃a0,(l.drop fd.offset).take n=[a0]/\av=.c a0:=by simpa using h3
  rw [e0] at hp;obtain ⟨u,us',k0,k1,k2⟩:=hp
  have eY:(isAgg fd.type).run P w=.ok false w:=by
   simp only [isAgg,Sem.run_bind,run_underlying hu];cases dsc<;>first|rfl|cases g9
  have fB:us[fd.offset]?=some u:=by
   have e1:((us.drop fd.offset).take n)[0]?=some u:=by rw [k0];rfl
   have nC:0<n:=by
    rcases Nat.eq_zero_or_pos n with h0|h0
    ·subst h0;simp at e0
    ·exact h0
   rw [aQY,if_pos nC,aQU,aPO] at e1;exact e1
  refine vV (v:=u) ?_ (by exact k1) hG
  simp [execOp,ho,Instr.field,run_underlying ht,hf,he,asAgg,part,eY,fB]
theorem go_ext (h:RelF B w0 N s a w F) {x:Operand} {x':X} {i:Nat} (ho:o.op=.extract x i) (hx:jQ x=some x') (hg:∀st,∃av os,Gen P s d rt st (.ext x' i) av os/\G av os):Goes P o a w (kt B w G):=by
 obtain ⟨av,os,⟨l,b,az,h1,h2,h3,rfl⟩,hG⟩:=hg ⟨0,λ_ _=>undef⟩
 have hv:=qT h hx;rw [h1] at hv;obtain ⟨us,he,hr⟩:=hv
 have key:∀(l:List (Bool×List A0)) (us:List Value) (i:Nat),TRelL B w l us->l[i]?=some (b,az)->∃u xs,us[i]?=some u/\A0RelL B w az xs/\(if b then u=.agg xs.toArray else xs=[u]):=by
  intro l
  induction l with
  |nil=>intro _ _ _ h;simp at h
  |cons x l ih=>
   intro us i hr hi;obtain ⟨b',as'⟩:=x;obtain ⟨u,us',xs,rfl,k1,k2,k3⟩:=hr;cases i with
   |zero=>simp at hi;obtain ⟨rfl,rfl⟩:=hi;exact ⟨u,xs,rfl,k1,k2⟩
   |succ i=>exact ih us' i k3 (by simpa using hi)
 obtain ⟨u,xs,k1,k2,k3⟩:=key l us i hr h2;refine vV (v:=u) (by simp [execOp,ho,he,Instr.extract,k1]) ?_ hG
 cases b with
 |true=>
  obtain rfl:av=.agg az:=by simpa using h3
  exact ⟨xs,by simpa using k3,k2⟩
 |false=>
  obtain ⟨a0,rfl,rfl⟩:∃a0,az=[a0]/\av=.c a0:=by simpa using h3
  obtain rfl:xs=[u]:=by simpa using k3
  obtain ⟨u',us',k4,k5,_⟩:=k2;cases k4;exact k5
theorem go_mkf (h:RelF B w0 N s a w F) {f:Nat} {first caps:Array Operand} {l:List X} (ho:o.op=.makeFunc (.func f) first caps) (hf:first=#[]) (hc:zI caps.toList=some l) (hg:∀st,∃av os,Gen P s d rt st (.mkf f l) av os/\G av os):Goes P o a w (kt B w G):=by
 obtain ⟨av,os,⟨az,h1,rfl,rfl⟩,hG⟩:=hg ⟨0,λ_ _=>undef⟩
 have key:∀(cs:List Operand) (l:List X) (az:List A0),zI cs=some l->jcF s l=some az->A0RelL B w az (cs.map a.eval):=by
  intro cs
  induction cs with
  |nil=>intro l az k1 k2;simp [zI] at k1;subst k1;simp [jcF] at k2;subst k2;rfl
  |cons c cs ih=>
   intro l az k1 k2;simp only [zI] at k1;split at k1
   ·rename_i c' l' k3 k4
    simp at k1;subst k1;simp only [jcF] at k2;split at k2
    ·rename_i a0 r k5 k6
     simp at k2;subst k2;have:=qT h k3;rw [k5] at this;exact ⟨a.eval c,_,rfl,this,ih l' r k4 k6⟩
    ·simp at k2
   ·simp at k1
 refine vV (v:=.func (.func f) #[] (caps.map a.eval)) (by simp [execOp,ho,hf,Instr.makeFunc]) ?_ hG
 exact ⟨caps.toList.map a.eval,by rw [<-Array.toList_map,Array.toArray_toList],key _ _ _ hc h1⟩
end
section
variable {P:Program} {B N:Nat} {w w0:World} {s:St} {a:Act} {F:Nat->List Nat} {o:Oper} {G:AV->List (Nat×Ob)->Prop} {d:Nat} {rt:RT}
theorem jbM {isSl:Bool} {len cap l h:Nat} {lo hi:Option Value} (hl:(lo=none/\l=0)\/∃k,lo=some (.int k (l:Int))) (hh:(hi=none/\h=len)\/∃k,hi=some (.int k (h:Int))) (h1:l<=h) (h2:h<=cap):
 (Instr.sliceBounds isSl len cap lo hi none).run P w=.ok (l,h,cap) w:=by
 have e1:(l:Int)<=(h:Int):=by omega
 have e2:(h:Int)<=(cap:Int):=by omega
 rcases hl with ⟨rfl,rfl⟩|⟨k,rfl⟩<;>rcases hh with ⟨rfl,rfl⟩|⟨k',rfl⟩<;>simp [Instr.sliceBounds,Instr.sliceBound,asIntOf,h1,h2]
theorem vR (h:RelF B w0 N s a w F) {x:Option Operand} {x':Option X} {dflt n:Nat} (hx:(x=none/\x'=none)\/∃y y',x=some y/\x'=some y'/\jQ y=some y') (hb:jhO s x' dflt n):
 (x.map a.eval=none/\n=dflt)\/∃k,x.map a.eval=some (.int k (n:Int)):=by
 rcases hx with ⟨rfl,rfl⟩|⟨y,y',rfl,rfl,h1⟩
 ·exact .inl ⟨rfl,hb⟩
 ·obtain ⟨k,h2⟩:=hb
  exact .inr ⟨k,by simp [jjx h h1 h2]⟩
theorem go_sl_str (h:RelF B w0 N s a w F) {t:TypeId} {x:Operand} {x':X} {lo hi:Option Operand} {lo' nT:Option X} (ho:o.op=.slice t x lo hi none) (ht:P.underlying t=some .string) (hx:jQ x=some x')
 (tK:(lo=none/\lo'=none)\/∃y y',lo=some y/\lo'=some y'/\jQ y=some y') (o9:(hi=none/\nT=none)\/∃y y',hi=some y/\nT=some y'/\jQ y=some y')
 (hg:∀st,∃av os,Gen P s d rt st (.sl 0 x' lo' nT) av os/\G av os):Goes P o a w (kt B w G):=by
 obtain ⟨av,os,⟨l,hh,h1,h2,h3,rfl⟩,hG⟩:=hg ⟨0,λ_ _=>undef⟩
 split at h3
 ·rename_i b he
  obtain ⟨_,h4,h5,rfl⟩:=h3;have hb:=jbM (P:=P) (w:=w) (isSl:=false) (vR h tK h1) (vR h o9 h4) h2 h5;refine vV (v:=.string (b.extract l hh)) ?_ (by exact rfl) hG
  simp [execOp,ho,Instr.sliceAt,run_underlying ht,Instr.slice,jjx h hx he,hb]
 ·rename_i dd he
  exact absurd h3.1 (by omega)
 ·rename_i dd he
  exact absurd h3.1 (by omega)
 ·obtain ⟨⟨_,_,_,_,_,_,_,_,_,h6,_⟩,h7,_⟩:=h3
  omega
 ·exact h3.elim
theorem go_sl_ro (h:RelF B w0 N s a w F) {t e:TypeId} {x:Operand} {x':X} {lo hi:Option Operand} {lo' nT:Option X} {m:Nat} (ho:o.op=.slice t x lo hi none) (ht:P.underlying t=some (.slice e)) (hm:qj P e=some (m+1)) (hx:jQ x=some x')
 (tK:(lo=none/\lo'=none)\/∃y y',lo=some y/\lo'=some y'/\jQ y=some y') (o9:(hi=none/\nT=none)\/∃y y',hi=some y/\nT=some y'/\jQ y=some y')
 (hg:∀st,∃av os,Gen P s d rt st (.sl (m+1) x' lo' nT) av os/\G av os):Goes P o a w (kt B w G):=by
 obtain ⟨av,os,⟨l,hh,h1,h2,h3,rfl⟩,hG⟩:=hg ⟨0,λ_ _=>undef⟩
 have hv:=qT h hx;obtain ⟨inf,fJ,cW⟩:=jkF hm;split at h3
 ·rename_i b he
  exact absurd h3.1 (by omega)
 ·rename_i dd he
  obtain ⟨_,k1,k2,h4,h5,rfl⟩:=h3;rw [he] at hv;obtain ⟨_,S,k3,k4⟩:=hv;cases dd with
  |val _=>cases k1
  |sl size ty cs=>
   have k2':size=m+1:=k2;subst k2';obtain ⟨A,n,c,vs,S',hu,k5,_,_,k6,_⟩:=jad k3;have aC:=jjc (ty:=ty) (by omega:0<m+1) k5
   rw [aC] at h4 h5;rw [hu] at k3;obtain ⟨S2,k7,k8⟩:=jwo (by omega) k3 k4 h2 h5
   have hb:=jbM (P:=P) (w:=w) (isSl:=true) (len:=n) (cap:=c) (vR h tK h1) (vR h o9 h4) h2 (by omega)
   refine vV (v:=.slice (if c=l then A else A.map (·.add (l*(m+1)))) (hh-l) (c-l)) ?_ (by exact ⟨rfl,S2,k7,k8⟩) hG
   simp [execOp,ho,Instr.sliceAt,run_underlying ht,Instr.slice,hu,hb,sizeOf,typeInfo,fJ,cW]
 ·rename_i g c p bV he
  obtain ⟨_,⟨dd,⟨d0,η,k1,k2,k3,k4⟩,k5,h4,h5⟩,rfl⟩:=h3;rw [he] at hv;have hv:a.eval x=bV:=hv.1;obtain ⟨S,k6,_⟩:=zt h k1 k2 k3 k4;cases dd with
  |val _=>cases k4
  |sl size ty cs=>
   have k5':size=m+1:=k5;subst k5';obtain ⟨A,n,c,vs,S',hu,k7,_⟩:=jad k6.ro;have aC:=jjc (ty:=ty) (by omega:0<m+1) k7
   rw [aC] at h4 h5;obtain ⟨A2,n2,c2,_,_,sR,_,_,_,nB,_⟩:=jad k6.ro;rw [hu] at sR;cases sR;have hb:=jbM (P:=P) (w:=w) (isSl:=true) (len:=n) (cap:=c) (vR h tK h1) (vR h o9 h4) h2 (by omega)
   refine vV (v:=jj9 bV (m+1) l (hh-l)) ?_ (by exact ⟨.inl rfl,by rw [hu];rfl⟩) hG
   simp [execOp,ho,Instr.sliceAt,run_underlying ht,Instr.slice,hv,hu,hb,sizeOf,typeInfo,fJ,cW,jj9]
 ·rename_i g c p bV sz lo m' he
  obtain ⟨⟨dd,d0,η,d1,k1,k2,k3,k4,k5,k6,k7,rfl⟩,rfl,h4,h5,rfl⟩:=h3;rw [he] at hv;have hv:a.eval x=jj9 bV (m+1) lo m'\/0<lo/\m'=0/\∃A,a.eval x=.slice A 0 0:=hv.1;rcases hv with hv|⟨aJZ,rfl,A,hv⟩;rotate_left
  ·have hb:=jbM (P:=P) (w:=w) (isSl:=true) (len:=0) (cap:=0) (vR h tK h1) (vR h o9 h4) h2 (by omega)
   obtain rfl:hh=0:=by omega
   obtain rfl:l=0:=by omega
   refine vV (v:=.slice A 0 0) ?_ (by exact ⟨.inr ⟨by omega,rfl,A,rfl⟩,rfl⟩) hG
   simp [execOp,ho,Instr.sliceAt,run_underlying ht,Instr.slice,hv,hb,sizeOf,typeInfo,fJ,cW]
  obtain ⟨S,k8,_⟩:=zt h k1 k2 k3 k4;cases d1 with
  |val _=>cases k4
  |sl size ty cs=>
   have k5':size=m+1:=k5;subst k5';obtain ⟨A,n,c,vs,S',hu,k9,_,_,nB,_⟩:=jad k8.ro;have aC:=jjc (ty:=ty) (by omega:0<m+1) k9
   rw [aC] at k7;rw [hu] at hv;simp only [jj9] at hv;have hb:=jbM (P:=P) (w:=w) (isSl:=true) (len:=m') (cap:=c-lo) (vR h tK h1) (vR h o9 h4) h2 (by omega)
   refine vV (v:=.slice (if c-lo=l then (if c=lo then A else A.map (·.add (lo*(m+1)))) else (if c=lo then A else A.map (·.add (lo*(m+1)))).map (·.add (l*(m+1)))) (hh-l) (c-lo-l)) ?_ (by
    refine ⟨?_,rfl⟩;rw [hu];simp only [jj9];by_cases dN:c-lo=l
    ·rw [if_pos dN]
     obtain rfl:hh=l:=by omega
     by_cases hz:lo+hh=0
     ·obtain rfl:lo=0:=by omega
      obtain rfl:hh=0:=by omega
      obtain rfl:c=0:=by omega
      left;simp
     ·right
      refine ⟨by omega,by omega,_,by rw [show hh-hh=0 by omega,show c-lo-hh=0 by omega]⟩
    ·left
     have h8:c≠lo:=by omega
     have h9:¬c=lo+l:=by omega
     rw [if_neg dN,if_neg h8,if_neg h9];rw [Nat.sub_sub]
     congr 1
     cases A with
     |none=>rfl
     |some ad=>simp [Addr.add_add,aSD]) hG
   simp [execOp,ho,Instr.sliceAt,run_underlying ht,Instr.slice,hv,hb,sizeOf,typeInfo,fJ,cW]
 ·exact h3.elim
theorem jpg {α:Type}:∀(l:List α) (cs:List α) (k:Nat),(kz cs k l).length=cs.length
 |[],_,_=>rfl
 |x::l,cs,k=>by rw [kz,jpg l];simp
theorem A0RelL.set:∀{l:List A0} {us:List Value} {k:Nat} {a0:A0} {u:Value},A0RelL B w l us->A0Rel B w a0 u->A0RelL B w (l.set k a0) (us.set k u)
 |[],us,_,_,_,h,_=>by rw [show us=[] from h];rfl
 |_::_,_,0,_,u,⟨u',us',h1,h2,h3⟩,hu=>by subst h1;exact ⟨u,us',rfl,hu,h3⟩
 |_::_,_,k+1,_,_,⟨u',us',h1,h2,h3⟩,hu=>by subst h1;exact ⟨u',_,rfl,h2,A0RelL.set h3 hu⟩
theorem A0RelL.setAt_:∀{m:List A0} {xs:List Value} {l:List A0} {us:List Value} {k:Nat},A0RelL B w l us->A0RelL B w m xs->A0RelL B w (kz l k m) (kz us k xs)
 |[],xs,_,_,_,h,hm=>by rw [show xs=[] from hm];exact h
 |_::_,_,_,_,k,h,⟨u',us',h1,h2,h3⟩=>by subst h1;have:=A0RelL.setAt_ (k:=k+1) (h.set (k:=k) h2) h3;exact this
theorem jij (off:Nat):∀(xs:List Value) (k:Nat) (us:List Value),(xs.zipIdx k).foldl (λcs (p:Value×Nat)=>cs.setIfInBounds (off+p.2) p.1) us.toArray=(kz us (off+k) xs).toArray
 |[],_,_=>rfl
 |x::xs,k,us=>by
  rw [List.zipIdx_cons,aRL,kz];have:us.toArray.setIfInBounds (off+k) x=(us.set (off+k) x).toArray:=by simp
  simp only [this];rw [jij off xs (k+1) _];rfl
theorem jtm (h:RelF B w0 N s a w F) {place:Nat->Option (Nat×Nat)}:∀{parts:List (Nat×Operand)} {ps:List (Nat×Nat×X)} {l l':List A0} {us:List Value},jdy place parts=some ps->A0RelL B w l us->jjw s l ps=some l'->
 ∃us':List Value,Instr.fill place us.toArray (parts.map λp=>(p.1,a.eval p.2))=some us'.toArray/\A0RelL B w l' us'
 |[],ps,l,l',us,h1,h2,h3=>by
  simp [jdy] at h1;subst h1;simp [jjw] at h3;subst h3;exact ⟨us,rfl,h2⟩
 |(i,x)::parts,ps,l,l',us,h1,h2,h3=>by
  simp only [jdy] at h1;split at h1
  ·rename_i off n x' ps' k1 k2 k3
   simp at h1;subst h1;simp only [jjw] at h3;split at h3
   ·rename_i m k4
    split at h3
    ·rename_i k5
     obtain ⟨xs,k6,k7⟩:=VRel.cells (qT h k2) k4;obtain ⟨us',k8,k9⟩:=jtm h k3 (h2.setAt_ k7 (k:=off)) h3;refine ⟨us',?_,k9⟩;have gH:=A0RelL.len k7;have oO:=A0RelL.len h2;have e1:¬(xs.length≠n\/us.length<off+xs.length):=by omega
     have e2:=jij off xs 0 us;simp only [aPO] at e2;simp only [aQX,Instr.fill,k1,k6];rw [if_neg (by simpa using e1)]
     rw [<-Array.foldl_toList,Array.toList_zipIdx];rw [show (xs.toArray.toList.zipIdx 0)=xs.zipIdx 0 from rfl,e2]
     exact k8
    ·simp at h3
   ·simp at h3
  ·simp at h1
theorem go_bld (h:RelF B w0 N s a w F) {t:TypeId} {parts:Array (Nat×Operand)} {fs:Array Field} {zs:List Value} {ps:List (Nat×Nat×X)} (ho:o.op=.build t parts) (ht:P.underlying t=some (.struct fs)) (hz:vJ P t=some zs)
 (cV:(fs.toList.all λf=>(P.info? f.type).isSome)=true) (s8:jdy (λi=>match fs[i]? with|some f=>(qj P f.type).map λn=>(f.offset,n)|none=>none) parts.toList=some ps)
 (hg:∀st,∃av os,Gen P s d rt st (.bld zs ps) av os/\G av os):Goes P o a w (kt B w G):=by
 obtain ⟨av,os,⟨l,h1,rfl,rfl⟩,hG⟩:=hg ⟨0,λ_ _=>undef⟩
 unfold vJ at hz;split at hz
 ·rename_i i hi
  split at hz
  ·rename_i z gC
   split at hz
   ·simp at hz;subst hz
    have hzr:∀l:List Value,A0RelL B w (l.map .v) l:=by
     intro l
     induction l with
     |nil=>rfl
     |cons x l ih=>exact ⟨x,l,rfl,rfl,ih⟩
    have gL:∀l:List Field,(l.all λf=>(P.info? f.type).isSome)=true->l.mapM (λf=>(P.info? f.type).map λi=>(f.offset,i.size))=some (l.map λf=>(f.offset,(qj P f.type).getD 0)):=by
     intro l
     induction l with
     |nil=>intro _;rfl
     |cons f l ih=>
      intro hl;simp only [List.all_cons,aPG] at hl;obtain ⟨j,hj⟩:=Option.isSome_iff_exists.1 hl.1;rw [List.mapM_cons,ih hl.2];simp [hj,qj]
    have uJ:(λ(i:Nat)=>match fs[i]? with|some f=>(qj P f.type).map λn=>(f.offset,n)|none=>none)=λi=>((fs.toList.map λ(f:Field)=>(f.offset,(qj P f.type).getD 0)).toArray[i]?):=by
     funext j
     cases hj:fs[j]? with
     |none=>simp [hj]
     |some f=>
      have hm:f∈fs.toList:=by simpa using Array.mem_of_getElem? hj
      obtain ⟨k,hk⟩:=Option.isSome_iff_exists.1 (List.all_eq_true.1 cV f hm);simp [hj,qj,hk]
    obtain ⟨us',k1,k2⟩:=jtm h s8 (hzr z.cells.toList) h1;refine vV (v:=.agg us'.toArray) ?_ (by exact ⟨us',rfl,k2⟩) hG
    have hb:P.built t (parts.map λ(p:Nat×Operand)=>(p.1,a.eval p.2)).toList=some us'.toArray:=by
     unfold Program.built;simp only [hi,ht,gC,gL _ cV];rw [<-uJ,Array.toList_map];simpa using k1
    have:=run_build w t _ _ hb;simp only [execOp,ho];rw [Sem.run_bind,this];rfl
   ·simp at hz
  ·simp at hz
 ·simp at hz
end
section
variable {P:Program} {B N:Nat} {w w0:World} {s:St} {a:Act} {F:Nat->List Nat} {o:Oper} {G:AV->List (Nat×Ob)->Prop} {d:Nat} {rt:RT}
theorem jxc (h:RelF B w0 N s a w F):∀{l:List A0} {us:List Value} {ds:List D},A0RelL B w l us->IsL s l ds->∃S,RepL w false ds us S
 |[],us,[],h1,_=>⟨[],h1,rfl⟩
 |[],_,_::_,_,h2=>h2.elim
 |_::_,_,[],_,h2=>h2.elim
 |_::_,_,_::_,⟨u,us',h1,h3,h4⟩,⟨h5,h6⟩=>by
  subst h1;obtain ⟨S1,k1⟩:=jld h h3 h5;obtain ⟨S2,k2⟩:=jxc h h4 h6;exact ⟨S1++S2,RepL.cons_ k1 k2⟩
theorem IsP.is {x:A0} {d:D} (h:IsP x d):Is s x d:=by cases x<;>first|exact h|exact h.elim
theorem jlS (h:RelF B w0 N s a w F) {g b:Nat}:∀{l:List Cell} {us:List Value} {S:List Nat} {c:Nat} {ds:List D},CRel B w l us S->Ptr.go s g b l c ds->∃S',RepL w false ds us S'
 |[],us,_,_,[],⟨h1,_⟩,_=>⟨[],h1,rfl⟩
 |[],_,_,_,_::_,_,h2=>h2.elim
 |.a _::_,_,_,_,[],_,h2=>h2.elim
 |.own _ _::_,_,_,_,[],_,h2=>h2.elim
 |.a x::l,_,_,c,d::ds,⟨u,us',h1,h3,h4⟩,⟨h5,h6⟩=>by
  subst h1;obtain ⟨S1,k1⟩:=jld h h3 h5.is;obtain ⟨S2,k2⟩:=jlS h h4 h6;exact ⟨S1++S2,RepL.cons_ k1 k2⟩
 |.own d' η::l,_,_,c,d::ds,⟨u,us',S1,S2,h1,h3,h4,h5,_,h6⟩,⟨h7,h8⟩=>by
  subst h1 h7;obtain ⟨S3,k2⟩:=jlS h h6 h8;exact ⟨S1++S3,RepL.cons_ h5.ro k2⟩
theorem jwz (h:RelF B w0 N s a w F) {x:A0} {u:Value} {ds:List D} (hr:A0Rel B w x u) (hp:Ptr s x ds):ViewRel.CellsAt w ds u:=by
 cases x with
 |rp ds'=>
  have hp:ds'=ds:=hp;subst hp;obtain ⟨b,o',us,S,h1,h2,_,_,h5⟩:=hr;exact ⟨b,o',us,S,h1,h2,h5⟩
 |bp g c b=>
  obtain ⟨ty,cs,h1,l,h2,h3⟩:=hp;have bT:=h.ob g;rw [h1] at bT;obtain ⟨us,S1,k1,k2,_⟩:=bT;obtain ⟨S2,k3,_⟩:=CRel.drop c k2;obtain ⟨S3,k4,_⟩:=CRel.take ds.length k3;rw [h2] at k4;obtain ⟨S4,k5⟩:=jlS h k4 h3;refine ⟨b,c,_,S4,hr,k5,λj y hy=>?_⟩
  rw [aQY] at hy;split at hy
  ·rw [aQU] at hy
   simp [World.cell?,k1,hy]
  ·simp at hy
 |_=>exact hp.elim
theorem jyj (h:RelF B w0 N s a w F):∀{v:AV} {u:Value} {vw:View},VRel B w v u->jmz s v vw->ViewRel w vw u
 |.c x,u,.c dd,hv,hi=>jld h hv hi
 |.agg l,u,.agg ds,⟨us,h1,h2⟩,hi=>by
  obtain ⟨S,k⟩:=jxc h h2 hi;exact ⟨S,us,h1,k⟩
 |.c x,u,.ptr ds,hv,hi=>jwz h hv hi
 |.fn f caps,u,.fn f' caps',⟨us,h1,h2⟩,⟨h3,h4⟩=>by
  subst h3;refine ⟨us,h1,?_⟩
  have key:∀(caps:List A0) (us:List Value) (caps':List (List D)),A0RelL B w caps us->jAx s caps caps'->ViewRel.All2 w caps' us:=by
   intro caps
   induction caps with
   |nil=>intro us caps' k1 k2;cases caps' with|nil=>exact k1|cons _ _=>exact k2.elim
   |cons x l ih=>
    intro us caps' k1 k2;obtain ⟨u,us',rfl,k3,k4⟩:=k1;cases caps' with
    |nil=>exact k2.elim
    |cons ds l'=>exact ⟨u,us',rfl,jwz h k3 k2.1,ih us' l' k4 k2.2⟩
  exact key _ _ _ h2 h4
 |.c _,_,.agg _,_,hi=>hi.elim
 |.c _,_,.fn _ _,_,hi=>hi.elim
 |.agg _,_,.c _,_,hi=>hi.elim
 |.agg _,_,.ptr _,_,hi=>hi.elim
 |.agg _,_,.fn _ _,_,hi=>hi.elim
 |.fn _ _,_,.c _,_,hi=>hi.elim
 |.fn _ _,_,.agg _,_,hi=>hi.elim
 |.fn _ _,_,.ptr _,_,hi=>hi.elim
 |.tup _,_,.c _,_,hi=>hi.elim
 |.tup _,_,.agg _,_,hi=>hi.elim
 |.tup _,_,.ptr _,_,hi=>hi.elim
 |.tup _,_,.fn _ _,_,hi=>hi.elim
 |.unk,_,.c _,_,hi=>hi.elim
 |.unk,_,.agg _,_,hi=>hi.elim
 |.unk,_,.ptr _,_,hi=>hi.elim
 |.unk,_,.fn _ _,_,hi=>hi.elim
theorem joS (h:RelF B w0 N s a w F):∀{args:List Operand} {xs:List X} {caps:List A0} {cs:List Value} {vs:List View},zI args=some xs->A0RelL B w caps cs->zZ s (xs.map s.ev++caps.map .c) vs->jag w vs (args.map a.eval++cs)
 |[],xs,caps,cs,vs,h1,h2,h3=>by
  simp [zI] at h1;subst h1
  have key:∀(caps:List A0) (cs:List Value) (vs:List View),A0RelL B w caps cs->zZ s (caps.map .c) vs->jag w vs cs:=by
   intro caps
   induction caps with
   |nil=>intro cs vs k1 k2;cases vs with|nil=>exact k1|cons _ _=>exact k2.elim
   |cons x l ih=>
    intro cs vs k1 k2;obtain ⟨u,us',rfl,k3,k4⟩:=k1;cases vs with
    |nil=>exact k2.elim
    |cons v l'=>exact ⟨u,us',rfl,jyj (v:=.c x) h k3 k2.1,ih us' l' k4 k2.2⟩
  exact key caps cs vs h2 (by simpa using h3)
 |x::args,xs,caps,cs,vs,h1,h2,h3=>by
  simp only [zI] at h1;split at h1
  ·rename_i x' xs' k1 k2
   simp at h1;subst h1;cases vs with
   |nil=>exact h3.elim
   |cons v vs=>exact ⟨a.eval x,_,rfl,jyj h (qT h k1) h3.1,joS h k2 h2 h3.2⟩
  ·simp at h1
theorem jwl {w':World}:∀{rt:RT} {v:Value} {S:List Nat} (g:Nat),jl0 w' rt v S->∃η:Nat->jg,VRel B w' (rt.av g η) v/\jcW B w' (jl2 g η 0 rt.flat) S:=by
 have key:∀(ds:List D) (us:List Value) (S:List Nat) (g j:Nat),RepL w' true ds us S->∃η:Nat->jg,(∀aH,(∀i,i<ds.length->aH (j+i)=η i)->A0RelL B w' (jE1 g aH j ds) us/\jcW B w' (jl2 g aH j ds) S):=by
  intro ds
  induction ds with
  |nil=>intro us S g j h;obtain ⟨rfl,rfl⟩:=h;exact ⟨λ_ _=>undef,λaH _=>⟨rfl,rfl⟩⟩
  |cons d ds ih=>
   intro us S g j h;obtain ⟨v,vs',S1,S2,rfl,rfl,h3,h4⟩:=h;obtain ⟨η,h5⟩:=ih vs' S2 g (j+1) h4;refine ⟨λi=>match i with|0=>λp=>hdr w' p d v|i+1=>η i,λaH hη=>?_⟩
   have h0:=hη 0 (by simp)
   obtain ⟨h6,h7⟩:=h5 aH λi hi=>by
    have:=hη (i+1) (by simp;omega)
    rw [show j+1+i=j+(i+1) by omega]
    exact this
   cases d with
   |val u=>
    obtain ⟨rfl,rfl⟩:=h3;exact ⟨⟨_,_,rfl,rfl,h6⟩,by simpa [jl2,D.obj] using h7⟩
   |sl size ty cs=>
    simp only [aPO] at h0;refine ⟨⟨v,vs',rfl,?_,h6⟩,S1,S2,rfl,⟨rfl,v,h3,λp=>by rw [h0]⟩,h7⟩
    obtain ⟨_,_,_,rfl⟩:=zr h3;show _/\_;rw [h0];exact ⟨rfl,rfl⟩
 intro rt v S g hr;cases rt with
 |c d=>
  obtain ⟨η,h1⟩:=key [d] [v] S g 0 ⟨v,[],S,[],rfl,by simp,hr,rfl,rfl⟩
  obtain ⟨⟨u,us',h2,h3,_⟩,h4⟩:=h1 η λi _=>by rw [aQN]
  cases h2;exact ⟨η,h3,h4⟩
 |agg ds=>
  obtain ⟨us,rfl,hr⟩:=hr;obtain ⟨η,h1⟩:=key ds us S g 0 hr;obtain ⟨h2,h3⟩:=h1 η λi _=>by rw [aQN]
  exact ⟨η,⟨us,rfl,h2⟩,h3⟩
 |tup l=>
  obtain ⟨xs,rfl,hr⟩:=hr
  have key2:∀(l:List (Bool×List D)) (xs:List Value) (S:List Nat) (j:Nat),jtQ w' l xs S->∃η:Nat->jg,∀aH,(∀i,i<(l.flatMap (·.2)).length->aH (j+i)=η i)->TRelL B w' (jGe g aH j l) xs/\jcW B w' (jl2 g aH j (l.flatMap (·.2))) S:=by
   intro l
   induction l with
   |nil=>intro xs S j h;obtain ⟨rfl,rfl⟩:=h;exact ⟨λ_ _=>undef,λaH _=>⟨rfl,rfl⟩⟩
   |cons p l ih=>
    intro xs S j h;obtain ⟨b,ds⟩:=p;obtain ⟨x,xs',us,S1,S2,rfl,rfl,h1,h2,h3⟩:=h;obtain ⟨dF,h4⟩:=key ds us S1 g j h1;obtain ⟨aS,h5⟩:=ih xs' S2 (j+ds.length) h3;refine ⟨λi=>if i<ds.length then dF i else aS (i-ds.length),λaH hη=>?_⟩
    obtain ⟨h6,h7⟩:=h4 aH λi hi=>by
     rw [hη i (by simp;omega)];simp [hi]
    obtain ⟨h8,h9⟩:=h5 aH λi hi=>by
     have:=hη (ds.length+i) (by simp at hi⊢;omega)
     rw [aSF,this];show (if ds.length+i<ds.length then dF (ds.length+i) else aS (ds.length+i-ds.length))=_
     rw [if_neg (by omega),aQE]
    refine ⟨⟨x,xs',us,rfl,h6,h2,h8⟩,?_⟩
    have nY:∀(ds es:List D) (j:Nat),jl2 g aH j (ds++es)=jl2 g aH j ds++jl2 g aH (j+ds.length) es:=by
     intro ds
     induction ds with
     |nil=>intro es j;simp [jl2]
     |cons d ds ih=>intro es j;simp only [aRE,jl2,ih,aPH,aPI];rw [show j+1+ds.length=j+(ds.length+1) by omega]
    have cB:∀(l m:List (Nat×Ob)) (S1 S2:List Nat),jcW B w' l S1->jcW B w' m S2->jcW B w' (l++m) (S1++S2):=by
     intro l
     induction l with
     |nil=>intro m S1 S2 k1 k2;rw [show S1=[] from k1];exact k2
     |cons q l ih=>intro m S1 S2 k1 k2;obtain ⟨T1,T2,rfl,k3,k4⟩:=k1;exact ⟨T1,T2++S2,by simp,k3,ih m T2 S2 k4 k2⟩
    simp only [aPQ,nY];exact cB _ _ _ _ h7 h9
  obtain ⟨η,h1⟩:=key2 l xs S 0 hr;obtain ⟨h2,h3⟩:=h1 η λi _=>by rw [aQN]
  exact ⟨η,⟨xs,rfl,h2⟩,h3⟩
theorem jqE (h:RelF B w0 N s a w F) {f:Nat} {vs:List View} {xs:List Value} (aW:(execOp a.eval o).run P w=.ok (.enter f xs.toArray) w) (hp:jZ P f vs rt) (hv:jag w vs xs)
 (hG:∀st:jyp,G (rt.av (100*d) st.η) (jl2 (100*d) st.η 0 rt.flat)):Goes P o a w (kt B w G):=by
 intro next Q hk;unfold Oper.wp;rw [aW];refine (hp.2 w xs hv).mono λe w' ⟨v,S,he,hr,hf,hb⟩=>?_
 subst he;obtain ⟨η,h1,h2⟩:=jwl (B:=B) (100*d) hr;exact hk v w' ⟨_,_,S,h1,h2,hf,hb,hG ⟨0,η⟩⟩
theorem RelF.bare (h:RelF B w0 N s a w F):RelF B w 0 (.only s.o) Act.bare w F:=
 ⟨Below.refl _ _,aQJ h.hB h.below.size,rfl,rfl,λ_=>trivial,h.ob,h.fr,h.dj⟩
theorem jkm (h:RelF B w0 N s a w F):∀{args:List Operand} {xs:List X} {caps:List A0} {cs:List Value},zI args=some xs->A0RelL B w caps cs->jlZ B w (xs.map s.ev++caps.map .c) (args.map a.eval++cs)
 |[],xs,caps,cs,h1,h2=>by
  simp [zI] at h1;subst h1
  have key:∀(caps:List A0) (cs:List Value),A0RelL B w caps cs->jlZ B w (caps.map .c) cs:=by
   intro caps
   induction caps with
   |nil=>intro cs k1;exact k1
   |cons x l ih=>intro cs k1;obtain ⟨u,us',rfl,k3,k4⟩:=k1;exact ⟨u,us',rfl,k3,ih us' k4⟩
  exact key caps cs h2
 |x::args,xs,caps,cs,h1,h2=>by
  simp only [zI] at h1;split at h1
  ·rename_i x' xs' k1 k2
   simp at h1;subst h1;exact ⟨a.eval x,_,rfl,qT h k1,jkm h k2 h2⟩
  ·simp at h1
theorem jdd {f:Nat} {c:Call} {cs xs:List Value} (hn:jqT P f) (ho:o.op=.call c) {y:Operand} (hc:c.callee=.value y) (hy:a.eval y=.func (.func f) #[] cs.toArray) (hx:c.args.toList.map a.eval=xs):
 (execOp a.eval o).run P w=.ok (.enter f (xs++cs).toArray) w:=by
 obtain ⟨fn,hfn,hb,xY⟩:=hn;have hbn:¬fn.body=none:=by intro hq;simp [hq] at hb
 have aK:¬fn.name= "runtime.NumGoroutine":=by simpa using xY
 have cG:c.args.map a.eval=xs.toArray:=by rw [<-hx,<-Array.toList_map,Array.toArray_toList]
 simp [execOp,ho,resolve,hc,hy,cG,Deferred.ofValue,invoke,callFunc,hfn,hbn,aK]
theorem go_call (h:RelF B w0 N s a w F) {c:Call} {f:Nat} {xs:List X} (ho:o.op=.call c) (hc:c.callee=.value (.func f)) (lN:zI c.args.toList=some xs)
 (hg:∀st,∃av os,Gen P s d rt st (.call f xs) av os/\G av os):Goes P o a w (kt B w G):=by
 obtain ⟨_,_,⟨vs,h1,h2,_,_⟩,_⟩:=hg ⟨0,λ_ _=>undef⟩
 have hv:=joS (caps:=[]) (cs:=[]) h lN rfl (by simpa using h1)
 exact jqE (d:=d) h (jdd (cs:=[]) h2.1 ho hc rfl rfl) h2 hv λst=>by
  obtain ⟨_,_,⟨_,_,_,rfl,rfl⟩,hG⟩:=hg st;exact hG
theorem go_callv (h:RelF B w0 N s a w F) {c:Call} {t:Nat} {xs:List X} (ho:o.op=.call c) (hc:c.callee=.value (.tmp t)) (lN:zI c.args.toList=some xs)
 (hg:∀st,∃av os,Gen P s d rt st (.callv (.t t) xs) av os/\G av os):Goes P o a w (kt B w G):=by
 obtain ⟨_,_,⟨f,caps,vs,h0,h1,h2,_,_⟩,_⟩:=hg ⟨0,λ_ _=>undef⟩
 have xD:=h.sl t;rw [show s.t t=.fn f caps from h0] at xD
 obtain ⟨cs,k1,k2⟩:=xD;have hv:=joS h lN k2 h1
 exact jqE (d:=d) h (jdd h2.1 ho hc k1 rfl) h2 hv λst=>by
  obtain ⟨_,_,⟨f',caps',vs',eU,dG,bP,rfl,rfl⟩,hG⟩:=hg st;exact hG
end
def OpOk (P:Program) (o:Oper) (a:Act) (w:World) (R:Act->World->Prop):Prop:=
 ∀(next:Act->World->Prop) (Q:Exit->Act->World->Prop),(∀a' w',R a' w'->next a' w')->o.wp P a w next Q
section
variable {P:Program} {β B N:Nat} {w w0:World} {s:St} {a:Act} {F:Nat->List Nat} {o:Oper} {K:St->Prop}
theorem OpOk.of_run {w':World} {R:Act->World->Prop} {v:Value} (h:(execOp a.eval o).run P w=.ok (.value v) w') (hr:R (a.put o.dst v) w'):OpOk P o a w R:=
 λ_ _ hk=>by unfold Oper.wp;rw [h];exact hk _ w' hr
theorem OpOk.of_skip {w':World} {R:Act->World->Prop} (h:(execOp a.eval o).run P w=.ok .skip w') (hr:R (a.put o.dst undef) w'):OpOk P o a w R:=
 λ_ _ hk=>by unfold Oper.wp;rw [h];exact hk _ w' hr
theorem jcd:∀{l:List A0} {us:List Value} {s:St} {F:Nat->List Nat} {K:List Cell->St->Prop},RelF B w0 N s a w F->A0RelL B w l us->qC s l K->
 ∃cs s' S F',K cs s'/\CRel B w cs us S/\RelF B w0 N s' a w F'/\Fresh B S/\(∀g,∀b∈S,b∉F' g)/\(∀g b,b∈F' g->b∈F g)/\(∀b∈S,∃g,b∈F g)/\(∀u∈us,u.oneCell'=true)
 |[],us,s,F,K,h,hr,hk=>⟨[],s,[],F,hk,⟨hr,rfl⟩,h,Fresh.nil _,by simp,λ_ _ h=>h,by simp,by rw [show us=[] from hr];simp⟩
 |x::l,us,s,F,K,h,⟨u,us',h1,h2,h3⟩,hk=>by
  subst h1
  have plain:∀(x:A0),A0Rel B w x u->x.one=true->qC s l (λcs s'=>K (.a x::cs) s')->∃cs s' S F',K cs s'/\CRel B w cs (u::us') S/\RelF B w0 N s' a w F'/\Fresh B S/\(∀g,∀b∈S,b∉F' g)/\(∀g b,b∈F' g->b∈F g)/\(∀b∈S,∃g,b∈F g)/\(∀u'∈u::us',u'.oneCell'=true):=by
   intro x h2 eK hk;obtain ⟨cs,s',S,F',k1,k2,k3,k4,k5,k6,k7,k8⟩:=jcd h h3 hk;refine ⟨_,s',S,F',k1,⟨u,us',rfl,h2,k2⟩,k3,k4,k5,k6,k7,λu' hu=>?_⟩
   rcases aPL.1 hu with rfl|hu
   ·exact h2.one eK
   ·exact k8 u' hu
  cases x with
  |h g c p x=>
   obtain ⟨rfl,d,η,ho,hx,hk⟩:=hk;obtain ⟨u',S1,F1,j1,j2,j3,j4,j5,j6,j7,j8⟩:=h.rm ho;obtain ⟨cs,s',S2,F',k1,k2,k3,k4,k5,k6,k7,k8⟩:=jcd j5 h3 hk
   have hu:u=u':=by
    rw [h2.1,<-hx,j3,jax j1]
   subst hu
   have fW:∀b∈S1,b∉S2:=λb hb a9=>by
    obtain ⟨g',dE⟩:=k7 b a9;exact j6 g' b hb dE
   refine ⟨_,s',S1++S2,F',k1,⟨u,us',S1,S2,rfl,rfl,j1,j2,j3,k2⟩,k3,⟨aPC.2 ⟨j4.1,k4.1,λx hx y hy e=>fW x hx (e▸hy)⟩,λb hb=>?_⟩,λg' b hb=>?_,λg' b hb=>j8 g' b (k6 g' b hb),λb hb=>?_,λu' hu=>?_⟩
   ·rcases aOX.1 hb with hb|hb
    ·exact j4.2 b hb
    ·exact k4.2 b hb
   ·rcases aOX.1 hb with hb|hb
    ·exact λa9=>j6 g' b hb (k6 g' b a9)
    ·exact k5 g' b hb
   ·rcases aOX.1 hb with hb|hb
    ·exact ⟨g,j7 b hb⟩
    ·obtain ⟨g',dE⟩:=k7 b hb;exact ⟨g',j8 g' b dE⟩
   ·rcases aPL.1 hu with rfl|hu
    ·cases d with
     |val _=>cases j1
     |sl _ _ _=>obtain ⟨_,_,_,rfl⟩:=zr j2;rfl
    ·exact k8 u' hu
  |v x=>exact plain _ h2 hk.1 hk.2
  |ro x=>exact plain _ h2 hk.1 hk.2
  |rp x=>exact plain _ h2 hk.1 hk.2
  |bp x y z=>exact plain _ h2 hk.1 hk.2
  |ep x y z i j=>exact plain _ h2 hk.1 hk.2
  |un=>exact plain _ h2 hk.1 hk.2
  |hs=>exact plain _ h2 hk.1 hk.2
theorem jsZ (h:RelF B w0 N s a w F) {f:Nat} {args:List AV} {xs:List Value} (aW:(execOp a.eval o).run P w=.ok (.enter f xs.toArray) w) (hv:jlZ B w args xs) (hd:∀k,o.dst=some k->k<N)
 (ht:Turns P f args s.o λrt o'=>∀η:Nat->jg,K (((⟨s.t,o'⟩:St).addO (jl2 (100*(β+o.dst.getD 0)) η 0 rt.flat)).put o.dst (rt.av (100*(β+o.dst.getD 0)) η))):
 OpOk P o a w (λa' w'=>∃s' F',RelF B w0 N s' a' w' F'/\K s'):=by
 intro next Q hk;unfold Oper.wp;rw [aW];refine (ht.2 B w F xs h.bare hv).mono λe w' ⟨v,rt,o',S,F',he,hr,wK,hf,oG,hR⟩=>?_
 subst he;have hb:Below B w w':=hr.below;obtain ⟨η,h1,h2⟩:=jwl (B:=B) (100*(β+o.dst.getD 0)) wK;have h3:RelF B w0 N ⟨s.t,o'⟩ a w' F':=⟨h.below.trans hb,h.hB,h.df,h.sz,λn=>(h.sl n).mono hb,hr.ob,hr.fr,hr.dj⟩
 obtain ⟨F2,h4⟩:=h3.addO h2 hf oG;exact hk _ _ ⟨_,F2,h4.put h1 hd,hR η⟩
theorem jE4 (h:RelF B w0 N s a w F) {f:Nat} {args:List AV} {xs:List Value} (aW:(execOp a.eval o).run P w=.ok (.enter f xs.toArray) w) (hv:jlZ B w args xs) (hd:∀k,o.dst=some k->k<N)
 (ht:Inl P f args s.o λav o'=>K (St.put ⟨s.t,o'⟩ o.dst av)):
 OpOk P o a w (λa' w'=>∃s' F',RelF B w0 N s' a' w' F'/\K s'):=by
 intro next Q hk;unfold Oper.wp;rw [aW];refine (ht.2 B w F xs h.bare hv).mono λe w' ⟨v,av,o',F',he,hr,hva,hR⟩=>?_
 subst he;have hb:Below B w w':=hr.below;have h3:RelF B w0 N ⟨s.t,o'⟩ a w' F':=⟨h.below.trans hb,h.hB,h.df,h.sz,λn=>(h.sl n).mono hb,hr.ob,hr.fr,hr.dj⟩
 exact hk _ _ ⟨_,F',h3.put hva hd,hR⟩
theorem jxH (w:World):Below w.heap.size w w.drew:=⟨rfl,rfl,rfl,aPD _,λ_ _=>rfl⟩
theorem jE7 (h:RelF B w0 N s a w F) {e:TypeId} {x:Operand} {x':X} {n:Nat} {g:Option (Nat×Bool)} (ho:o.op=.box e x) (hx:jQ x=some x') (hd:∀k,o.dst=some k->k<N) (hr:vp P β ⟨o.dst,g,.box e n x'⟩ s K):
 OpOk P o a w (λa' w'=>∃s' F',RelF B w0 N s' a' w' F'/\K s'):=by
 obtain ⟨l,h1,_,h2⟩:=hr;obtain ⟨us,h3,h4⟩:=VRel.cells (qT h hx) h1;obtain ⟨cs,s',S,F',k1,k2,k3,k4,k5,k6,k7,_⟩:=jcd h h4 h2
 have aW:(execOp a.eval o).run P w=.ok (.value (.pointer (some ⟨w.heap.size,0,none⟩))) (w.alloc (.cells us.toArray e)):=by
  simp [execOp,ho,Instr.box,newVar,newRow,h3]
 have hb:Below w.heap.size w (w.alloc (.cells us.toArray e)):=(Below.refl _ _).alloc (aPD _) _;have hB:B<=w.heap.size:=aQJ h.hB h.below.size;have pK:∀b∈S,b<w.heap.size:=λb a9=>k2.lt b a9
 have bT:ORel B (w.alloc (.cells us.toArray e)) (.box w.heap.size e cs) (w.heap.size::S):=
  ⟨us,S,jth _ _,k2.keep (hb.mono hB) λb a9=>hb.block b (pK b a9),rfl⟩
 have pT:∀g,∀b∈F' g,b<w.heap.size:=λg b a9=>(k3.ob g).lt b a9
 have h5:=(k3.world hb).setO (g:=100*(β+o.dst.getD 0)) bT ⟨aQZ.2 ⟨λhh=>by have:=pK _ hh;omega,k4.1⟩,λb a9=>by rcases aPL.1 a9 with rfl|a9;exact hB;exact k4.2 b a9⟩ (λg' _ b a9=>by
  rcases aPL.1 a9 with rfl|a9
  ·exact λhh=>by have:=pT g' _ hh;omega
  ·exact k5 g' b a9)
 exact OpOk.of_run aW ⟨_,_,h5.put (v:=.c (.bp (100*(β+o.dst.getD 0)) 0 w.heap.size)) rfl hd,k1 w.heap.size⟩
theorem RelF.world' (h:RelF B w0 N s a w F) {w':World} (hb:Below B w w') (hk:∀g,∀b∈F g,w'.heap[b]?=w.heap[b]?):RelF B w0 N s a w' F:=
 ⟨h.below.trans hb,h.hB,h.df,h.sz,λn=>(h.sl n).mono hb,λg=>(h.ob g).keep hb (hk g),h.fr,h.dj⟩
theorem CRel.set1 {x:Cell} {u:Value} {S1:List Nat} (hx:CRel B w [x] [u] S1):∀{ds:List Cell} {us:List Value} {S0:List Nat} {c:Nat},CRel B w ds us S0->(S0++S1).Nodup->c<ds.length->
 ∃S',CRel B w (ds.set c x) (us.set c u) S'/\S'.Nodup/\∀b∈S',b∈S0\/b∈S1
 |[],_,_,_,_,_,hc=>by simp at hc
 |y::ds,us,S0,0,hr,aY,_=>by
  have l6:∀{us':List Value} {S2:List Nat},CRel B w ds us' S2->CRel B w (x::ds) (u::us') (S1++S2):=by
   intro us' S2 h2;cases x with
   |a x=>obtain ⟨u',us'',h3,h4,h5,h6⟩:=hx;cases h3;subst h6;exact ⟨u,us',rfl,h4,h2⟩
   |own d η=>
    obtain ⟨u',us'',T1,T2,h3,h4,h5,h6,h7,h8,h9⟩:=hx;cases h3;subst h9;rw [aPR] at h4;subst h4;exact ⟨u,us',S1,S2,rfl,rfl,h5,h6,h7,h2⟩
  cases y with
  |a y=>
   obtain ⟨u',us',rfl,_,h3⟩:=hr;refine ⟨_,l6 h3,?_,λb hb=>?_⟩
   ·exact (aRO.nodup_iff).1 aY
   ·rcases aOX.1 hb with hb|hb
    ·exact .inr hb
    ·exact .inl hb
  |own d η=>
   obtain ⟨u',us',T1,T2,rfl,rfl,_,_,_,h3⟩:=hr;refine ⟨_,l6 h3,?_,λb hb=>?_⟩
   ·rw [aPH] at aY
    exact (aRO.nodup_iff).1 (aPC.1 aY).2.1
   ·rcases aOX.1 hb with hb|hb
    ·exact .inr hb
    ·exact .inl (by simp [hb])
 |y::ds,us,S0,c+1,hr,aY,hc=>by
  cases y with
  |a y=>
   obtain ⟨u',us',rfl,h2,h3⟩:=hr;obtain ⟨S',h4,h5,h6⟩:=CRel.set1 hx h3 aY (by simpa using hc)
   exact ⟨S',⟨u',_,rfl,h2,h4⟩,h5,h6⟩
  |own d η=>
   obtain ⟨u',us',T1,T2,rfl,rfl,h1,h2,bP,h3⟩:=hr;rw [aPH] at aY;have hn:=aPC.1 aY;obtain ⟨S',h4,h5,h6⟩:=CRel.set1 hx h3 hn.2.1 (by simpa using hc)
   refine ⟨T1++S',⟨u',_,T1,S',rfl,rfl,h1,h2,bP,h4⟩,aPC.2 ⟨hn.1,h5,λa ha b hb e=>hn.2.2 a ha b (by rcases h6 b hb with h|h<;>simp [h]) e⟩,λb hb=>?_⟩
   rcases aOX.1 hb with hb|hb
   ·exact .inl (by simp [hb])
   ·rcases h6 b hb with h|h
    ·exact .inl (by simp [h])
    ·exact .inr h
theorem CRel.setAt_:∀{cs:List Cell} {us:List Value} {S:List Nat} {ds:List Cell} {vs:List Value} {S0:List Nat} {c:Nat},CRel B w cs us S->CRel B w ds vs S0->(S0++S).Nodup->c+cs.length<=ds.length->
 ∃S',CRel B w (kz ds c cs) (kz vs c us) S'/\S'.Nodup/\∀b∈S',b∈S0\/b∈S
 |[],us,S,ds,vs,S0,c,⟨h1,h2⟩,h3,aY,_=>by
  subst h1 h2;rw [aPR] at aY;exact ⟨S0,h3,aY,λb hb=>.inl hb⟩
 |x::cs,us,S,ds,vs,S0,c,hr,h3,aY,hc=>by
  obtain ⟨u,us',S1,S2,rfl,rfl,h4,h5⟩:∃u us' S1 S2,us=u::us'/\S=S1++S2/\CRel B w [x] [u] S1/\CRel B w cs us' S2:=by
   cases x with
   |a x=>obtain ⟨u,us',h1,h2,h4⟩:=hr;exact ⟨u,us',[],S,h1,rfl,⟨u,[],rfl,h2,rfl,rfl⟩,h4⟩
   |own d η=>obtain ⟨u,us',S1,S2,h1,h2,k1,k2,k3,h4⟩:=hr;exact ⟨u,us',S1,S2,h1,h2,⟨u,[],S1,[],rfl,by simp,k1,k2,k3,rfl,rfl⟩,h4⟩
  rw [<-aPH] at aY;obtain ⟨S',h6,h7,h8⟩:=CRel.set1 (c:=c) h4 h3 (aPC.1 aY).1 (by simp at hc;omega)
  have hn:=aPC.1 aY;obtain ⟨S'',h9,lG,oK⟩:=CRel.setAt_ (c:=c+1) h5 h6 (aPC.2 ⟨h7,hn.2.1,λa ha b hb e=>hn.2.2 a (by rcases h8 a ha with h|h<;>simp [h]) b hb e⟩) (by simp at hc⊢;omega)
  refine ⟨S'',h9,lG,λb hb=>?_⟩
  rcases oK b hb with h|h
  ·rcases h8 b h with h|h
   ·exact .inl h
   ·exact .inr (by simp [h])
  ·exact .inr (by simp [h])
theorem qA:∀(vs:List Value) (w:World) (b o:Nat) (us:List Value) (ty:TypeId),w.heap[b]?=some (.cells us.toArray ty (0,0))->(w.setCells b o vs).heap[b]?=some (.cells (kz us o vs).toArray ty (0,0))/\∀k,k≠b->(w.setCells b o vs).heap[k]?=w.heap[k]?
 |[],w,b,o,us,ty,h=>⟨h,λ_ _=>rfl⟩
 |v::vs,w,b,o,us,ty,h=>by
  have h1:(w.setCell ⟨b,o,none⟩ v).heap[b]?=some (.cells (us.set o v).toArray ty (0,0)):=by
   have aB:=jbT h;have:w.heap[b]=.cells us.toArray ty (0,0):=by rw [Array.getElem?_eq_getElem aB] at h;exact aPJ h
   simp [World.setCell,Array.getElem?_modify,h]
  obtain ⟨h2,h3⟩:=qA vs (w.setCell ⟨b,o,none⟩ v) b (o+1) (us.set o v) ty h1;exact ⟨h2,λk hk=>(h3 k hk).trans (Below.heap_setCell w ⟨b,o,none⟩ v k hk)⟩
theorem kK:∀(vs:List Value) (w:World) (b o:Nat),(w.setCells b o vs).os=w.os/\(w.setCells b o vs).tape=w.tape/\(w.setCells b o vs).output=w.output/\(w.setCells b o vs).heap.size=w.heap.size
 |[],_,_,_=>⟨rfl,rfl,rfl,rfl⟩
 |v::vs,w,b,o=>by
  obtain ⟨h1,h2,h3,h4⟩:=kK vs (w.setCell ⟨b,o,none⟩ v) b (o+1);exact ⟨h1,h2,h3,h4.trans (by simp [World.setCell])⟩
theorem jpf:∀(xs:List Value) (vs:List Value) (o:Nat),jmM vs o xs=kz vs o xs
 |[],_,_=>rfl
 |x::xs,vs,o=>by rw [jmM,kz,jpf xs]
theorem jaT:∀(vs:List Value) (w:World) (b o k:Nat),k≠b->(w.setCells b o vs).heap[k]?=w.heap[k]?
 |[],_,_,_,_,_=>rfl
 |v::vs,w,b,o,k,hk=>(jaT vs _ b (o+1) k hk).trans (Below.heap_setCell w ⟨b,o,none⟩ v k hk)
theorem jdc {α:Type}:∀(xs:List α) (l:List α) (k j:Nat),¬(k<=j/\j<k+xs.length)->(kz l k xs)[j]?=l[j]?
 |[],_,_,_,_=>rfl
 |x::xs,l,k,j,h=>by
  rw [kz,jdc xs _ (k+1) j (by simp at h;omega),aPW (by simp at h;omega)]
theorem RepL.set1 {d:D} {u:Value} {S1:List Nat} (hx:Rep w true d u S1):∀{cs:List D} {vs:List Value} {S0:List Nat} {c:Nat},RepL w true cs vs S0->(S0++S1).Nodup->c<cs.length->
 ∃S',RepL w true (cs.set c d) (vs.set c u) S'/\S'.Nodup/\∀b∈S',b∈S0\/b∈S1
 |[],_,_,_,_,_,hc=>by simp at hc
 |y::cs,_,_,0,⟨u',us',T1,T2,rfl,rfl,_,h3⟩,aY,_=>by
  refine ⟨S1++T2,RepL.cons_ hx h3,?_,λb hb=>?_⟩
  ·rw [aPH] at aY
   exact (aRO.nodup_iff).1 (aPC.1 aY).2.1
  ·rcases aOX.1 hb with hb|hb
   ·exact .inr hb
   ·exact .inl (by simp [hb])
 |y::cs,_,_,c+1,⟨u',us',T1,T2,rfl,rfl,h2,h3⟩,aY,hc=>by
  rw [aPH] at aY;have hn:=aPC.1 aY;obtain ⟨S',h4,h5,h6⟩:=RepL.set1 hx h3 hn.2.1 (by simpa using hc)
  refine ⟨T1++S',RepL.cons_ h2 h4,aPC.2 ⟨hn.1,h5,λa ha b hb e=>hn.2.2 a ha b (by rcases h6 b hb with h|h<;>simp [h]) e⟩,λb hb=>?_⟩
  rcases aOX.1 hb with hb|hb
  ·exact .inl (by simp [hb])
  ·rcases h6 b hb with h|h
   ·exact .inl (by simp [h])
   ·exact .inr h
theorem RepL.setAt_:∀{ds:List D} {us:List Value} {S:List Nat} {cs:List D} {vs:List Value} {S0:List Nat} {c:Nat},RepL w true ds us S->RepL w true cs vs S0->(S0++S).Nodup->c+ds.length<=cs.length->
 ∃S',RepL w true (kz cs c ds) (kz vs c us) S'/\S'.Nodup/\∀b∈S',b∈S0\/b∈S
 |[],us,S,cs,vs,S0,c,⟨h1,h2⟩,h3,aY,_=>by
  subst h1 h2;rw [aPR] at aY;exact ⟨S0,h3,aY,λb hb=>.inl hb⟩
 |x::ds,_,_,cs,vs,S0,c,⟨u,us',S1,S2,rfl,rfl,h4,h5⟩,h3,aY,hc=>by
  rw [<-aPH] at aY;obtain ⟨S',h6,h7,h8⟩:=RepL.set1 (c:=c) h4 h3 (aPC.1 aY).1 (by simp at hc;omega)
  have hn:=aPC.1 aY;obtain ⟨S'',h9,lG,oK⟩:=RepL.setAt_ (c:=c+1) h5 h6 (aPC.2 ⟨h7,hn.2.1,λa ha b hb e=>hn.2.2 a (by rcases h8 a ha with h|h<;>simp [h]) b hb e⟩) (by simp at hc⊢;omega)
  refine ⟨S'',h9,lG,λb hb=>?_⟩
  rcases oK b hb with h|h
  ·rcases h8 b h with h|h
   ·exact .inl h
   ·exact .inr (by simp [h])
  ·exact .inr (by simp [h])
theorem RepL.put1:∀{cs:List D} {vs:List Value} {S:List Nat} {k:Nat} {d:D},RepL w true cs vs S->S.Nodup->cs[k]?=some d->
 ∃v S1,vs[k]?=some v/\Rep w true d v S1/\(∀b∈S1,b∈S)/\S1.Nodup/\(∀j dj,j≠k->cs[j]?=some dj->∃vj Sj,vs[j]?=some vj/\Rep w true dj vj Sj/\∀b∈Sj,b∈S/\b∉S1)/\
 ∀(w':World) (d':D) (S1':List Nat),(∀b∈S,b∉S1->w'.heap[b]?=w.heap[b]?)->Rep w' true d' v S1'->S1'.Nodup->(∀b∈S1',b∈S1\/b∉S)->
  ∃S',RepL w' true (cs.set k d') vs S'/\S'.Nodup/\∀b∈S',b∈S\/b∈S1'
 |[],_,_,_,_,_,_,h=>by simp at h
 |y::cs,_,_,0,d,⟨u',us',T1,T2,rfl,rfl,h2,h3⟩,aY,h=>by
  simp at h;subst h;have hn:=aPC.1 aY;refine ⟨u',T1,rfl,h2,λb hb=>by simp [hb],hn.1,λj dj hj hd=>?_,λw' d' S1' hk hr lW hs=>?_⟩
  ·cases j with
   |zero=>exact absurd rfl hj
   |succ j=>
    obtain ⟨vj,Sj,k1,k2,k3⟩:=RepL.nth h3 (by simpa using hd)
    exact ⟨vj,Sj,by simpa using k1,k2,λb hb=>⟨by simp [k3 b hb],λa9=>hn.2.2 b a9 b (k3 b hb) rfl⟩⟩
  ·refine ⟨S1'++T2,RepL.cons_ hr (RepL.keep _ h3 λb hb=>hk b (by simp [hb]) λa9=>hn.2.2 b a9 b hb rfl),aPC.2 ⟨lW,hn.2.1,λa ha b hb e=>?_⟩,λb hb=>?_⟩
   ·subst e
    rcases hs a ha with h|h
    ·exact hn.2.2 a h a hb rfl
    ·exact h (by simp [hb])
   ·rcases aOX.1 hb with hb|hb
    ·exact .inr hb
    ·exact .inl (by simp [hb])
 |y::cs,_,_,k+1,d,⟨u',us',T1,T2,rfl,rfl,h2,h3⟩,aY,h=>by
  have hn:=aPC.1 aY;obtain ⟨v,S1,k1,k2,k3,k4,k5,k6⟩:=RepL.put1 h3 hn.2.1 (by simpa using h)
  refine ⟨v,S1,by simpa using k1,k2,λb hb=>by simp [k3 b hb],k4,λj dj hj hd=>?_,λw' d' S1' hk hr lW hs=>?_⟩
  ·cases j with
   |zero=>
    simp at hd;subst hd;exact ⟨u',T1,rfl,h2,λb hb=>⟨by simp [hb],λa9=>hn.2.2 b hb b (k3 b a9) rfl⟩⟩
   |succ j=>
    obtain ⟨vj,Sj,m1,m2,m3⟩:=k5 j dj (by omega) (by simpa using hd)
    exact ⟨vj,Sj,by simpa using m1,m2,λb hb=>⟨by simp [(m3 b hb).1],(m3 b hb).2⟩⟩
  ·obtain ⟨S',m1,m2,m3⟩:=k6 w' d' S1' (λb hb a9=>hk b (by simp [hb]) a9) hr lW (λb hb=>by
    rcases hs b hb with h|h
    ·exact .inl h
    ·exact .inr λa9=>h (by simp [a9]))
   refine ⟨T1++S',RepL.cons_ (Rep.keep _ h2 λb hb=>hk b (by simp [hb]) λa9=>hn.2.2 b hb b (k3 b a9) rfl) m1,aPC.2 ⟨hn.1,m2,λa ha b hb e=>?_⟩,λb hb=>?_⟩
   ·subst e
    rcases m3 a hb with h|h
    ·exact hn.2.2 a ha a h rfl
    ·rcases hs a h with h'|h'
     ·exact hn.2.2 a ha a (k3 a h') rfl
     ·exact h' (by simp [ha])
   ·rcases aOX.1 hb with hb|hb
    ·exact .inl (by simp [hb])
    ·rcases m3 b hb with h|h
     ·exact .inl (by simp [h])
     ·exact .inr h
theorem jnT {ds:List D} {us:List Value} {S1:List Nat} {k:Nat} (yT:0<ds.length) (cB:RepL w true ds us S1) (eB:S1.Nodup):∀(p:List Nat) {d0:D} {u:Value} {S:List Nat} {size:Nat} {ty:TypeId} {cs:List D},Rep w true d0 u S->S.Nodup->(∀b∈S1,b∉S)->
 D.get p d0=some (.sl size ty cs)->k+ds.length<=cs.length->
 ∃gg nn cc,hdr w p d0 u=.slice (some ⟨gg,0,none⟩) nn cc/\gg∈S/\w.there gg k ds.length/\
  ∃S',Rep (w.setCells gg k us) true (D.put p k ds d0) u S'/\S'.Nodup/\(∀b∈S',b∈S\/b∈S1)/\∀q,¬jsf p k ds.length q->hdr (w.setCells gg k us) q (D.put p k ds d0) u=hdr w q d0 u
 |[],.val _,_,_,_,_,_,_,_,_,hg,_=>by simp [D.get] at hg
 |[],.sl size0 ty0 cs0,u,_,size,ty,cs,⟨vs,T,S',bD,cH,rfl⟩,aY,fW,hg,cR=>by
  simp [D.get] at hg;obtain ⟨rfl,rfl,rfl⟩:=hg;have bO:=RepL.length _ cH;have oO:=RepL.length _ cB;have hn:=aPC.1 aY;have sX:=bD;rcases qM bD with ⟨rfl,rfl⟩|⟨gg,nn,cc,rfl,rfl,lP,bW,rF⟩
  ·simp at bO;omega
  ·obtain ⟨nv,bQ,_⟩:=sX
   have tI:nn=nv:=by
    rcases bQ.2 with ⟨h,_⟩|⟨_,_,_,h,_⟩
    ·cases h
    ·cases h;rfl
   subst tI;have aK:∀b,b≠gg->(w.setCells gg k us).heap[b]?=w.heap[b]?:=λb hb=>jaT us w gg k b hb
   have sA:∀b∈S1,b≠gg:=λb hb e=>fW b hb (by simp [e])
   have mD:∀b∈S',b≠gg:=λb hb e=>hn.2.2 gg (by simp) b hb e.symm
   have uH:=RepL.keep (w':=w.setCells gg k us) _ cH λb hb=>aK b (mD b hb)
   have xW:=RepL.keep (w':=w.setCells gg k us) _ cB λb hb=>aK b (sA b hb)
   obtain ⟨S2,h1,h2,h3⟩:=RepL.setAt_ (c:=k) xW uH (aPC.2 ⟨hn.2.1,eB,λa ha b hb e=>fW b hb (by simp [<-e,ha])⟩) cR
   have cU:=(jdq us k bQ).1;rw [jpf] at cU;refine ⟨gg,nn,cc,rfl,by simp,jwN bQ k ds.length (by omega),[gg]++S2,⟨_,[gg],S2,⟨nn,cU,rfl⟩,h1,rfl⟩,aPC.2 ⟨by simp,h2,λa ha b hb e=>?_⟩,λb hb=>?_,λq hq=>?_⟩
   ·simp at ha;subst ha;subst e
    rcases h3 a hb with h|h
    ·exact mD a h rfl
    ·exact sA a h rfl
   ·rcases aOX.1 hb with hb|hb
    ·exact .inl (by simp at hb⊢;exact .inl hb)
    ·rcases h3 b hb with h|h
     ·exact .inl (by simp [h])
     ·exact .inr h
   ·cases q with
    |nil=>rfl
    |cons j r=>
     have hj:¬(k<=j/\j<k+ds.length):=λh=>hq ⟨j,r,rfl,h.1,h.2⟩
     simp only [D.put,hdr,aQN];rw [jdc ds cs0 k j hj];cases hc:cs0[j]? with
     |none=>rfl
     |some d=>
      obtain ⟨v,Sj,k1,k2,k3⟩:=RepL.nth cH hc;have aB:j<nn*size0:=by have:=(aOS.1 k1).1;omega
      have e1:w.cell? ⟨gg,j,none⟩=some v:=bW j v k1
      have e2:(w.setCells gg k us).cell? ⟨gg,j,none⟩=some v:=by
       rw [World.ownsRow.cellAt cU j aB,jdc us vs k j (by omega),k1]
      simp only [e1,e2,aPA];exact jeq r k2 λb hb=>aK b (mD b (k3 b hb))
 |i::p,.val _,_,_,_,_,_,_,_,_,hg,_=>by simp [D.get] at hg
 |i::p,.sl size0 ty0 cs0,u,_,size,ty,cs,⟨vs,T,S',bD,cH,rfl⟩,aY,fW,hg,cR=>by
  simp only [D.get] at hg;cases hc:cs0[i]? with
  |none=>rw [hc] at hg;simp at hg
  |some d=>
   rw [hc] at hg;have hn:=aPC.1 aY;obtain ⟨v,Si,k1,k2,k3,k4,k5,k6⟩:=RepL.put1 cH hn.2.1 hc;have sX:=bD;rcases qM bD with ⟨rfl,rfl⟩|⟨g0,nn0,cc0,rfl,rfl,lP,bW,rF⟩
   ·simp at k1
   ·obtain ⟨gg,nn,cc,m1,m2,m3,Si',m4,m5,m6,m7⟩:=jnT yT cB eB p k2 k4 (λb hb a9=>fW b hb (by simp [k3 b a9])) hg cR
    have aK:∀b,b≠gg->(w.setCells gg k us).heap[b]?=w.heap[b]?:=λb hb=>jaT us w gg k b hb
    have nU:g0≠gg:=λe=>hn.2.2 g0 (by simp) gg (k3 gg m2) e
    obtain ⟨S2,q1,q2,q3⟩:=k6 (w.setCells gg k us) (D.put p k ds d) Si' (λb hb a9=>aK b λe=>a9 (e▸m2)) m4 m5 (λb hb=>by
     rcases m6 b hb with h|h
     ·exact .inl h
     ·exact .inr λa9=>fW b h (by simp [a9]))
    have pH:∀j v,vs[j]?=some v->(w.setCells gg k us).cell? ⟨g0,j,none⟩=some v:=λj v hv=>by
     rw [World.cell?_of_block (w:=w) (a:=⟨g0,j,none⟩) (aK g0 nU)];exact bW j v hv
    have e0:hdr w (i::p) (.sl size0 ty0 cs0) (.slice (some ⟨g0,0,none⟩) nn0 cc0)=hdr w p d v:=by
     simp only [hdr,hc,aQN,bW i v k1,aPA]
    refine ⟨gg,nn,cc,by rw [e0];exact m1,by simp [k3 gg m2],m3,[g0]++S2,⟨vs,[g0],S2,bD.keep λb hb=>aK b (by simp at hb;subst hb;exact nU),?_,rfl⟩,aPC.2 ⟨by simp,q2,λa ha b hb e=>?_⟩,λb hb=>?_,λq hq=>?_⟩
    ·simp only [hc];exact q1
    ·simp at ha;subst ha;subst e
     rcases q3 a hb with h|h
     ·exact hn.2.2 a (by simp) a h rfl
     ·rcases m6 a h with h'|h'
      ·exact hn.2.2 a (by simp) a (k3 a h') rfl
      ·exact fW a h' (by simp)
    ·rcases aOX.1 hb with hb|hb
     ·exact .inl (by simp at hb⊢;exact .inl hb)
     ·rcases q3 b hb with h|h
      ·exact .inl (by simp [h])
      ·rcases m6 b h with h'|h'
       ·exact .inl (by simp [k3 b h'])
       ·exact .inr h'
    ·cases q with
     |nil=>rfl
     |cons j r=>
      simp only [D.put,hc,hdr,aQN];by_cases hj:j=i
      ·subst hj
       have aB:j<cs0.length:=(aOS.1 hc).1;rw [aOY aB];simp only [hc,pH j v k1,bW j v k1,aPA];exact m7 r λ⟨j',r',e,h1,h2⟩=>hq ⟨j',r',by rw [e];rfl,h1,h2⟩
      ·rw [aPW (Ne.symm hj)]
       cases hcj:cs0[j]? with
       |none=>rfl
       |some dj=>
        obtain ⟨vj,Sj,n1,n2,n3⟩:=k5 j dj hj hcj;simp only [pH j vj n1,bW j vj n1,aPA];exact jeq r n2 λb hb=>aK b λe=>(n3 b hb).2 (e▸m2)
theorem CRel.put1:∀{cs:List Cell} {us:List Value} {S:List Nat} {c:Nat} {d:D} {η:jg},CRel B w cs us S->S.Nodup->cs[c]?=some (.own d η)->
 ∃u S1,d.isSl=true/\Rep w true d u S1/\(∀p,η p=hdr w p d u)/\(∀b∈S1,b∈S)/\S1.Nodup/\
 ∀(w':World) (d':D) (aH:jg) (S1':List Nat),Below B w w'->(∀b∈S,b∉S1->w'.heap[b]?=w.heap[b]?)->d'.isSl=true->Rep w' true d' u S1'->(∀p,aH p=hdr w' p d' u)->S1'.Nodup->(∀b∈S1',b∈S1\/b∉S)->
  ∃S',CRel B w' (cs.set c (.own d' aH)) us S'/\S'.Nodup/\∀b∈S',b∈S\/b∈S1'
 |[],_,_,_,_,_,_,_,h=>by simp at h
 |.a x::cs,_,_,0,_,_,_,_,h=>by simp at h
 |.a x::cs,_,S,c+1,d,η,⟨u,us',rfl,h2,h3⟩,aY,h=>by
  obtain ⟨v,S1,k0,k1,k2,k3,k4,k5⟩:=CRel.put1 h3 aY (by simpa using h)
  refine ⟨v,S1,k0,k1,k2,k3,k4,λw' d' aH S1' hb hk hs hr hη hn bC=>?_⟩
  obtain ⟨S',m1,m2,m3⟩:=k5 w' d' aH S1' hb hk hs hr hη hn bC;exact ⟨S',⟨u,us',rfl,h2.mono hb,m1⟩,m2,m3⟩
 |.own d0 eP::cs,_,_,0,d,η,⟨u,us',T1,T2,rfl,rfl,h3,h4,h5,h6⟩,aY,h=>by
  simp at h;obtain ⟨rfl,rfl⟩:=h;have hn:=aPC.1 aY;refine ⟨u,T1,h3,h4,h5,λb hb=>by simp [hb],hn.1,λw' d' aH S1' hb hk hs hr hη lW bC=>?_⟩
  refine ⟨S1'++T2,⟨u,us',S1',T2,rfl,rfl,hs,hr,hη,h6.keep hb λb a9=>hk b (by simp [a9]) λaEI=>hn.2.2 b aEI b a9 rfl⟩,aPC.2 ⟨lW,hn.2.1,λa ha b a9 e=>?_⟩,λb a9=>?_⟩
  ·subst e
   rcases bC a ha with h|h
   ·exact hn.2.2 a h a a9 rfl
   ·exact h (by simp [a9])
  ·rcases aOX.1 a9 with a9|a9
   ·exact .inr a9
   ·exact .inl (by simp [a9])
 |.own d0 eP::cs,_,_,c+1,d,η,⟨u,us',T1,T2,rfl,rfl,h3,h4,h5,h6⟩,aY,h=>by
  have hn:=aPC.1 aY;obtain ⟨v,S1,k0,k1,k2,k3,k4,k5⟩:=CRel.put1 h6 hn.2.1 (by simpa using h)
  refine ⟨v,S1,k0,k1,k2,λb hb=>by simp [k3 b hb],k4,λw' d' aH S1' hb hk hs hr hη lW bC=>?_⟩
  obtain ⟨S',m1,m2,m3⟩:=k5 w' d' aH S1' hb (λb aZ bF=>hk b (by simp [aZ]) bF) hs hr hη lW (λb aZ=>by
   rcases bC b aZ with h|h
   ·exact .inl h
   ·exact .inr λh'=>h (by simp [h']))
  have hT:∀b∈T1,w'.heap[b]?=w.heap[b]?:=λb aZ=>hk b (by simp [aZ]) λbF=>hn.2.2 b aZ b (k3 b bF) rfl
  refine ⟨T1++S',⟨u,us',T1,S',rfl,rfl,h3,Rep.keep _ h4 hT,λp=>by rw [jeq p h4 hT];exact h5 p,m1⟩,aPC.2 ⟨hn.1,m2,λa ha b aZ e=>?_⟩,λb aZ=>?_⟩
  ·subst e
   rcases m3 a aZ with h|h
   ·exact hn.2.2 a ha a h rfl
   ·rcases bC a h with h'|h'
    ·exact hn.2.2 a ha a (k3 a h') rfl
    ·exact h' (by simp [ha])
  ·rcases aOX.1 aZ with aZ|aZ
   ·exact .inl (by simp [aZ])
   ·rcases m3 b aZ with h|h
    ·exact .inl (by simp [h])
    ·exact .inr h
theorem ORel.put1 {ob:Ob} {S:List Nat} {c:Nat} {d:D} {η:jg} (ho:ORel B w ob S) (aY:S.Nodup) (h:ob.own c=some (d,η)):
 ∃u S1,d.isSl=true/\Rep w true d u S1/\(∀p,η p=hdr w p d u)/\(∀b∈S1,b∈S)/\S1.Nodup/\
 ∀(w':World) (d':D) (aH:jg) (S1':List Nat),Below B w w'->(∀b∈S,b∉S1->w'.heap[b]?=w.heap[b]?)->d'.isSl=true->Rep w' true d' u S1'->(∀p,aH p=hdr w' p d' u)->S1'.Nodup->(∀b∈S1',b∈S1\/b∉S)->
  ∃S',ORel B w' (ob.putOwn c d' aH) S'/\S'.Nodup/\∀b∈S',b∈S\/b∈S1':=by
 cases ob with
 |none=>simp [Ob.own] at h
 |loose d0 eP=>
  cases c with
  |succ c=>simp [Ob.own] at h
  |zero=>
   simp [Ob.own] at h;obtain ⟨rfl,rfl⟩:=h;obtain ⟨h0,u,h1,h2⟩:=ho;exact ⟨u,S,h0,h1,h2,λ_ h=>h,aY,λw' d' aH S1' _ _ hs hr hη hn _=>⟨S1',⟨hs,u,hr,hη⟩,hn,λb hb=>.inr hb⟩⟩
 |box b ty cs=>
  obtain ⟨us,S0,h1,h2,rfl⟩:=ho;have hn:=aQZ.1 aY
  have hc:cs[c]?=some (.own d η):=by
   simp only [Ob.own] at h;split at h
   ·simp at h;obtain ⟨rfl,rfl⟩:=h;assumption
   ·simp at h
  obtain ⟨u,S1,k0,k1,k2,k3,k4,k5⟩:=h2.put1 hn.2 hc;refine ⟨u,S1,k0,k1,k2,λb hb=>by simp [k3 b hb],k4,λw' d' aH S1' hb hk hs hr hη lW bC=>?_⟩
  obtain ⟨S',m1,m2,m3⟩:=k5 w' d' aH S1' hb (λb aZ bF=>hk b (by simp [aZ]) bF) hs hr hη lW (λb aZ=>by
   rcases bC b aZ with h|h
   ·exact .inl h
   ·exact .inr λh'=>h (by simp [h']))
  refine ⟨b::S',⟨us,S',(hk b (by simp) λaZ=>hn.1 (k3 b aZ)).trans h1,m1,rfl⟩,aQZ.2 ⟨λaZ=>?_,m2⟩,λx hx=>?_⟩
  ·rcases m3 b aZ with h|h
   ·exact hn.1 h
   ·rcases bC b h with h'|h'
    ·exact hn.1 (k3 b h')
    ·exact h' (by simp)
  ·rcases aPL.1 hx with rfl|hx
   ·exact .inl (by simp)
   ·rcases m3 x hx with h|h
    ·exact .inl (by simp [h])
    ·exact .inr h
theorem jAX:∀(p:List Nat) (i:Nat) (ds:List D) {d:D},d.isSl=true->(D.put p i ds d).isSl=true
 |[],_,_,.sl _ _ _,_=>rfl
 |_::_,_,_,.sl _ _ _,_=>rfl
 |[],_,_,.val _,h=>by cases h
 |_::_,_,_,.val _,h=>by cases h
theorem jgU:∀{ks:List (Option (Nat×Nat))} {cs:List Cell} {us:List Value} {S:List Nat} {ds:List D},CRel B w cs us S->jaB ks cs=some ds->RepL w true ds us S
 |_,[],us,S,ds,h,hd=>by simp [jaB] at hd;subst hd;exact h
 |ks,.a x::cs,us,S,ds,⟨u,us',h1,h2,h3⟩,hd=>by
  cases x with
  |v x=>
   simp only [jaB] at hd;split at hd
   ·simp at hd;subst hd
    subst h1;rw [show u=x from h2]
    exact ⟨x,us',[],S,rfl,rfl,js1 _ _,jgU h3 (by assumption)⟩
   ·simp at hd
  |_=>simp [jaB] at hd
 |ks,.own d η::cs,us,S,ds,⟨u,us',S1,S2,h1,h2,_,h4,_,h6⟩,hd=>by
  simp only [jaB] at hd;split at hd
  ·simp at hd;subst hd
   subst h1 h2;exact RepL.cons_ h4 (jgU h6 (by assumption))
  ·simp at hd
theorem jgH {j:Nat} {r:List Nat} {v:Value}:∀(p:List Nat) {d:D} {u:Value} {size:Nat} {ty:TypeId} {cs:List D},D.get p d=some (.sl size ty cs)->cs[j]?=some (.val v)->hdr w (p++j::r) d u=undef
 |[],.val _,_,_,_,_,hg,_=>by simp [D.get] at hg
 |[],.sl s t cs0,u,size,ty,cs,hg,hc=>by
  simp [D.get] at hg;obtain ⟨rfl,rfl,rfl⟩:=hg;simp only [aQG];have hv:∀x,hdr w r (.val v) x=undef:=λx=>by cases r<;>rfl
  cases u with
  |slice A n c=>cases A with
   |some a=>simp only [hdr,hc,hv]
   |none=>rfl
  |_=>rfl
 |i::p,.val _,_,_,_,_,hg,_=>by simp [D.get] at hg
 |i::p,.sl s t cs0,u,size,ty,cs,hg,hc=>by
  simp only [D.get] at hg;cases hi:cs0[i]? with
  |none=>rw [hi] at hg;simp at hg
  |some d'=>
   rw [hi] at hg;cases u with
   |slice A n c=>cases A with
    |some a=>simp only [aRE,hdr,hi];exact jgH p hg hc
    |none=>rfl
   |_=>rfl
theorem jdv:∀(p:List Nat) {d:D} {k:Nat} {ds:List D} {size:Nat} {ty:TypeId} {cs:List D},D.get p d=some (.sl size ty cs)->D.get p (D.put p k ds d)=some (.sl size ty (kz cs k ds))
 |[],.val _,_,_,_,_,_,hg=>by simp [D.get] at hg
 |[],.sl s t cs0,k,ds,size,ty,cs,hg=>by
  simp [D.get] at hg;obtain ⟨rfl,rfl,rfl⟩:=hg;simp [D.put,D.get]
 |i::p,.val _,_,_,_,_,_,hg=>by simp [D.get] at hg
 |i::p,.sl s t cs0,k,ds,size,ty,cs,hg=>by
  simp only [D.get] at hg;cases hi:cs0[i]? with
  |none=>rw [hi] at hg;simp at hg
  |some d'=>
   rw [hi] at hg;simp only [D.put,hi,D.get];rw [aOY (aOS.1 hi).1];exact jdv p hg
theorem jdx:∀{l:List D} {j:Nat},ka l=true->j<l.length->∃v,l[j]?=some (.val v)
 |.val u::l,0,_,_=>⟨u,rfl⟩
 |.val u::l,j+1,h,hj=>by simp only [ka,aPG] at h;simpa using jdx h.2 (by simpa using hj)
 |.sl _ _ _::_,_,h,_=>by simp [ka] at h
 |[],_,_,hj=>by simp at hj
theorem jkI {α:Type}:∀(vs:List α) (cs:List α) (k j:Nat),k+vs.length<=cs.length->k<=j->j<k+vs.length->(kz cs k vs)[j]?=vs[j-k]?
 |[],cs,k,j,_,h1,h2=>by simp at h2;omega
 |v::vs,cs,k,j,hl,h1,h2=>by
  simp only [aPI] at hl h2;show (kz (cs.set k v) (k+1) vs)[j]?=_;by_cases e:j=k
  ·subst e
   have keep:∀(vs:List α) (cs:List α) (k j:Nat),j<k->(kz cs k vs)[j]?=cs[j]?:=by
    intro vs
    induction vs with
    |nil=>intros;rfl
    |cons a vs ih=>intro cs k j hj;show (kz (cs.set k a) (k+1) vs)[j]?=_;rw [ih _ _ _ (by omega),aPW (by omega)]
   rw [keep _ _ _ _ (by omega),aOY (by omega)];simp
  ·rw [jkI vs _ _ _ (by simp;omega) (by omega) (by omega),show j-k=(j-(k+1))+1 by omega];simp
theorem ok_st (h:RelF B w0 N s a w F) {t:TypeId} {x y:Operand} {x' y':X} {n:Nat} {ks:List (Option (Nat×Nat))} {g:Option (Nat×Bool)} (ho:o.op=.store t x y) (hn:qj P t=some n) (hx:jQ x=some x') (hy:jQ y=some y') (hr:vp P β ⟨o.dst,g,.st n ks x' y'⟩ s K):
 OpOk P o a w (λa' w'=>∃s' F',RelF B w0 N s' a' w' F'/\K s'):=by
 obtain ⟨pG,l,h2,h3,h4⟩:=hr;simp only at pG;obtain ⟨us,h5,h6⟩:=VRel.cells (qT h hy) h2;obtain ⟨inf,fJ,cW⟩:=jkF hn;have oO:=A0RelL.len h6;have ha:a.put o.dst undef=a:=by rw [pG];rfl
 have rT:=qT h hx;obtain ⟨cs,s',S,F',hk,k2,k3,k4,k5,k6,k7,k8⟩:=jcd h h6 h4;have aC:=CRel.len k2;split at hk
 ·rename_i k c b he
  obtain ⟨ty,ds,k0,kc,kk⟩:=hk;have hp:a.eval x=.pointer (some ⟨b,c,none⟩):=by rw [he] at rT;exact rT
  have bT:=k3.ob k;rw [k0] at bT;obtain ⟨vs,S0,j1,j2,j3⟩:=bT;have bO:=CRel.len j2
  have aW:(execOp a.eval o).run P w=.ok .skip (w.setCells b c us):=by
   have aJ:=run_storeCells_cells (P:=P) b c us 0 w (λj hj=>by
    have:c+j<vs.length:=by omega
    simp [World.cell?,j1,this]) (λj hj=>by simp [World.frozen?,j1]) k8
   simp only [aPO] at aJ;simp [execOp,ho,Instr.storeAt,hp,Instr.sureAddr,storeVar,h5,sizeOf,typeInfo,fJ,cW,oO,h3,aJ]
  obtain ⟨j4,j5⟩:=qA us w b c vs ty j1;obtain ⟨j6,j7,j8,j9⟩:=kK us w b c;have nV:=k3.fr k;rw [j3] at nV;have hBb:B<=b:=nV.2 b (by simp)
  have hb:Below B w (w.setCells b c us):=⟨j6,j7,j8,by rw [j9];exact aPD _,λi hi=>j5 i (by omega)⟩
  have hbF:∀g',g'≠k->b∉F' g':=λg' dE hh=>k3.dj g' k dE b hh (by rw [j3];simp)
  have hbS:b∉S:=λhh=>k5 k b hh (by rw [j3];simp)
  have aEF:b∉S0:=(aQZ.1 nV.1).1;have fW:(S0++S).Nodup:=aPC.2 ⟨(aQZ.1 nV.1).2,k4.1,λx hx y hy e=>k5 k y hy (by rw [j3];simp [<-e,hx])⟩
  obtain ⟨S',m1,m2,m3⟩:=CRel.setAt_ (c:=c) k2 j2 fW (by omega)
  have sD:b∉S':=λhh=>by rcases m3 b hh with h|h;exact aEF h;exact hbS h
  have r1:=k3.setO (g:=k) (ob:=.none) (S:=[]) rfl (Fresh.nil _) (by simp)
  have r2:=r1.world' hb λg' x hx=>by
   split at hx
   ·simp at hx
   ·rename_i dE
    exact j5 x λe=>hbF g' dE (e▸hx)
  have aCW:ORel B (w.setCells b c us) (.box b ty (kz ds c cs)) (b::S'):=⟨_,S',j4,m1.keep hb λx hx=>j5 x λe=>sD (e▸hx),rfl⟩
  have r3:=r2.setO (g:=k) aCW ⟨aQZ.2 ⟨sD,m2⟩,λx hx=>by
   rcases aPL.1 hx with rfl|hx
   ·exact hBb
   ·rcases m3 x hx with h|h
    ·exact nV.2 x (by simp [h])
    ·exact k4.2 x h⟩ (λg' dE x hx=>by
   rw [if_neg dE];rcases aPL.1 hx with rfl|hx
   ·exact hbF g' dE
   ·rcases m3 x hx with h|h
    ·exact λhh=>k3.dj g' k dE x hh (by rw [j3];simp [h])
    ·exact k5 g' x h)
  have iJ:(s'.setO k .none).setO k (.box b ty (kz ds c cs))=s'.setO k (.box b ty (kz ds c cs)):=by
   simp only [St.setO,St.mk.injEq,true_and]
   funext i;split<;>rfl
  rw [iJ] at r3;exact OpOk.of_skip aW (by rw [ha];exact ⟨_,_,r3,kk⟩)
 ·rename_i k c p i mX he
  obtain ⟨lB,ds,aDX,d0,η,dd,j1,j2,j3,j4,j5,hk⟩:=hk;have hp:a.eval x=.pointer (some (jcp mX i)):=by rw [he] at rT;exact rT
  have cB:=jgU k2 aDX;have fV:=RepL.length _ cB;have uR:ds.length=n:=by omega
  have nV:=k3.fr k;obtain ⟨u,S1,q0,q1,q2,q3,q4,q5⟩:=ORel.put1 (k3.ob k) nV.1 j1;cases dd with
  |val _=>cases j4
  |sl size ty cs0=>
   simp only [D.cells] at j5;obtain ⟨gg,nn,cc,r1,r2,r3,S1',r4,r5,r6,r7⟩:=jnT (k:=i) (by omega) cB k4.1 p q1 q4 (λb hb a9=>k5 k b hb (q3 b a9)) j3 (by omega)
   have yM:mX=.slice (some ⟨gg,0,none⟩) nn cc:=by rw [<-j2,q2,r1]
   have mK:a.eval x=.pointer (some ⟨gg,i,none⟩):=by rw [hp,yM];simp [jcp]
   have aW:(execOp a.eval o).run P w=.ok .skip (w.setCells gg i us):=by
    have aJ:=run_storeCells_cells (P:=P) gg i us 0 w (λj hj=>(r3 j (by omega)).1) (λj hj=>(r3 j (by omega)).2) k8
    simp only [aPO] at aJ;simp [execOp,ho,Instr.storeAt,mK,Instr.sureAddr,storeVar,h5,sizeOf,typeInfo,fJ,cW,oO,h3,aJ]
   obtain ⟨j6,j7,j8,j9⟩:=kK us w gg i;have pC:gg∈F' k:=q3 gg r2;have hBb:B<=gg:=nV.2 gg pC;have aK:∀b,b≠gg->(w.setCells gg i us).heap[b]?=w.heap[b]?:=λb hb=>jaT us w gg i b hb
   have hb:Below B w (w.setCells gg i us):=⟨j6,j7,j8,by rw [j9];exact aPD _,λj hj=>aK j (by omega)⟩
   have fH:(D.put p i ds d0).isSl=true:=jAX _ _ _ q0
   obtain ⟨S',m1,m2,m3⟩:=q5 (w.setCells gg i us) (D.put p i ds d0) (λq=>hdr (w.setCells gg i us) q (D.put p i ds d0) u) S1' hb (λb _ bF=>aK b λe=>bF (e▸r2)) fH r4 (λ_=>rfl) r5 (λb aZ=>by
    rcases r6 b aZ with h|h
    ·exact .inl h
    ·exact .inr λh'=>k5 k b h h')
   have t1:=k3.setO (g:=k) (ob:=.none) (S:=[]) rfl (Fresh.nil _) (by simp)
   have t2:=t1.world' hb λg' x hx=>by
    split at hx
    ·simp at hx
    ·rename_i dE
     exact aK x λe=>k3.dj g' k dE x hx (e▸pC)
   have pO:∀x∈S',x∈F' k\/x∈S:=λx hx=>by
    rcases m3 x hx with h|h
    ·exact .inl h
    ·rcases r6 x h with h'|h'
     ·exact .inl (q3 x h')
     ·exact .inr h'
   have t3:=t2.setO (g:=k) m1 ⟨m2,λx hx=>by
    rcases pO x hx with h|h
    ·exact nV.2 x h
    ·exact k4.2 x h⟩ (λg' dE x hx=>by
    rw [if_neg dE];rcases pO x hx with h|h
    ·exact λhh=>k3.dj g' k dE x hh h
    ·exact k5 g' x h)
   have iJ:(s'.setO k .none).setO k ((s'.o k).putOwn c (D.put p i ds d0) (λq=>hdr (w.setCells gg i us) q (D.put p i ds d0) u))=s'.setO k ((s'.o k).putOwn c (D.put p i ds d0) (λq=>hdr (w.setCells gg i us) q (D.put p i ds d0) u)):=by
    simp only [St.setO,St.mk.injEq,true_and]
    funext i;split<;>rfl
   rw [iJ] at t3
   exact OpOk.of_skip aW (by
    rw [ha];have lX:∀q,¬jsf p i n q->hdr (w.setCells gg i us) q (D.put p i ds d0) u=η q:=λq hq=>by rw [q2];exact r7 q (by rw [uR];exact hq)
    refine ⟨_,_,t3,jAF hk lX λhf=>?_⟩
    simp only [aPG] at hf
    funext q
    by_cases hq:jsf p i n q
    ·obtain ⟨j,r,rfl,rY,nS⟩:=hq
     obtain ⟨v1,gQ⟩:=jdx (j:=j-i) hf.1 (by omega)
     obtain ⟨v2,n8⟩:=jdx (j:=j-i) hf.2 (by simp only [D.cells,aOZ,aPN];omega)
     rw [q2];rw [jgH (w:=w.setCells gg i us) (j:=j) (v:=v1) p (jdv p j3) (by rw [jkI _ _ _ _ (by omega) rY (by omega)];exact gQ)]
     refine (jgH (v:=v2) p j3 ?_).symm;rw [<-n8];simp only [D.cells];rw [aQY,if_pos (by omega),aQU]
     congr 1;omega
    ·exact lX q hq)
 ·exact hk.elim
end
section
variable {P:Program} {B:Nat} {w w0:World} {F:Nat->List Nat} {o:Nat->Ob}
theorem jh7 {own:Bool}:∀{k:Nat} {cs:List D} {vs:List Value} {S:List Nat} {d:D},RepL w own cs vs S->cs[k]?=some d->
 ∃v SA Sd SC,vs[k]?=some v/\S=SA++Sd++SC/\Rep w own d v Sd/\∀d' Sd',Rep w own d' v Sd'->RepL w own (cs.set k d') vs (SA++Sd'++SC)
 |_,[],_,_,_,_,h=>by simp at h
 |0,e::cs,_,_,d,⟨v,vs',S1,S2,rfl,rfl,h1,h2⟩,h=>by
  simp at h;subst h;exact ⟨v,[],S1,S2,rfl,by simp,h1,λd' Sd' h3=>⟨v,vs',Sd',S2,rfl,by simp,h3,h2⟩⟩
 |k+1,e::cs,_,_,d,⟨v,vs',S1,S2,rfl,rfl,h1,h2⟩,h=>by
  simp at h;obtain ⟨v2,SA,Sd,SC,a1,rfl,a3,a4⟩:=jh7 h2 h;exact ⟨v2,S1++SA,Sd,SC,by simpa using a1,by simp,a3,λd' Sd' h3=>⟨v,vs',S1,SA++Sd'++SC,rfl,by simp,h1,a4 d' Sd' h3⟩⟩
theorem ji0:∀{c:Nat} {l:List Cell} {us:List Value} {S:List Nat} {d:D} {η:jg},CRel B w l us S->l[c]?=some (.own d η)->
 ∃u SA Sd SC,S=SA++Sd++SC/\d.isSl=true/\Rep w true d u Sd/\(∀p,η p=hdr w p d u)/\∀d' aH Sd',d'.isSl=true->Rep w true d' u Sd'->(∀p,aH p=hdr w p d' u)->CRel B w (l.set c (.own d' aH)) us (SA++Sd'++SC)
 |_,[],_,_,_,_,_,h=>by simp at h
 |0,.a _::l,_,_,d,η,_,h=>by simp at h
 |0,.own e ε::l,_,_,d,η,⟨u,us',S1,S2,rfl,rfl,h1,h2,h3,h4⟩,h=>by
  simp at h;obtain ⟨rfl,rfl⟩:=h;exact ⟨u,[],S1,S2,by simp,h1,h2,h3,λd' aH Sd' a1 a2 a3=>⟨u,us',Sd',S2,rfl,by simp,a1,a2,a3,h4⟩⟩
 |c+1,.a x::l,_,_,d,η,⟨u,us',rfl,h1,h2⟩,h=>by
  simp at h;obtain ⟨v,SA,Sd,SC,a1,a2,a3,a4,a5⟩:=ji0 h2 h;exact ⟨v,SA,Sd,SC,a1,a2,a3,a4,λd' aH Sd' b1 b2 b3=>⟨u,us',rfl,h1,a5 d' aH Sd' b1 b2 b3⟩⟩
 |c+1,.own e ε::l,_,_,d,η,⟨u,us',S1,S2,rfl,rfl,h1,h2,h3,h4⟩,h=>by
  simp at h;obtain ⟨v,SA,Sd,SC,rfl,a2,a3,a4,a5⟩:=ji0 h4 h;exact ⟨v,S1++SA,Sd,SC,by simp,a2,a3,a4,λd' aH Sd' b1 b2 b3=>⟨u,us',S1,SA++Sd'++SC,rfl,by simp,h1,h2,h3,a5 d' aH Sd' b1 b2 b3⟩⟩
theorem jmZ {ob:Ob} {c:Nat} {S:List Nat} {d:D} {η:jg} (ho:ORel B w ob S) (h:ob.own c=some (d,η)):
 ∃u SA Sd SC,S=SA++Sd++SC/\d.isSl=true/\Rep w true d u Sd/\(∀p,η p=hdr w p d u)/\∀d' aH Sd',d'.isSl=true->Rep w true d' u Sd'->(∀p,aH p=hdr w p d' u)->ORel B w (ob.putOwn c d' aH) (SA++Sd'++SC):=by
 cases ob with
 |none=>cases h
 |loose e ε=>
  cases c with
  |succ c=>cases h
  |zero=>
   simp only [Ob.own,Option.some.injEq,Prod.mk.injEq] at h;obtain ⟨rfl,rfl⟩:=h;obtain ⟨h1,u,h2,h3⟩:=ho;exact ⟨u,[],S,[],by simp,h1,h2,h3,λd' aH Sd' a1 a2 a3=>⟨a1,u,by simpa using a2,a3⟩⟩
 |box b ty l=>
  simp only [Ob.own] at h;split at h
  ·rename_i e ε he
   simp only [Option.some.injEq,Prod.mk.injEq] at h;obtain ⟨rfl,rfl⟩:=h;obtain ⟨us,S1,h1,h2,rfl⟩:=ho;obtain ⟨u,SA,Sd,SC,rfl,a2,a3,a4,a5⟩:=ji0 h2 he;exact ⟨u,b::SA,Sd,SC,by simp,a2,a3,a4,λd' aH Sd' b1 b2 b3=>⟨us,SA++Sd'++SC,h1,a5 d' aH Sd' b1 b2 b3,by simp⟩⟩
  ·cases h
theorem joF {B:Nat} {w:World} {ob:Ob} {S:List Nat} {c k sz tyo:Nat} {ds0:List D} {e:D} {η:jg} (h:ORel B w ob S) (ho:ob.own c=some (.sl sz tyo ds0,η)) (hk:ds0[k]?=some e):
 ∃v Sk,Rep w true e v Sk/\(e.isSl=true->η [k]=v)/\(∀x,e=.val x->v=x)/\(∀b∈Sk,b∈S)/\(S.Nodup->Sk.Nodup)/\∀e' Sk',Rep w true e' v Sk'->∃aH S',ORel B w (ob.putOwn c (.sl sz tyo (ds0.set k e')) aH) S'/\aH []=η []/\∃R,S.Perm (R++Sk)/\S'.Perm (R++Sk'):=by
 obtain ⟨u,SA,Sd,SC,e1,a1,a2,a3,a4⟩:=jmZ h ho;obtain ⟨vs,T,S',bD,cH,rfl⟩:=a2;obtain ⟨v,SA',Sk,SC',b1,rfl,b3,b4⟩:=jh7 cH hk
 have oX:∀X:List Nat,(SA++(T++(SA'++X++SC'))++SC).Perm ((SA++(T++(SA'++[]++SC'))++SC)++X):=λX=>by
  have e1:SA++(T++(SA'++X++SC'))++SC=(SA++(T++SA'))++(X++(SC'++SC)):=by simp
  have e2:(SA++(T++(SA'++[]++SC'))++SC)++X=(SA++(T++SA'))++((SC'++SC)++X):=by simp
  rw [e1,e2];exact aRN _ aRO
 refine ⟨v,Sk,b3,λhs=>?_,λx hx=>?_,λb hb=>by rw [e1];simp [hb],λaY=>?_,λe' Sk' hr=>?_⟩
 ·rw [a3]
  rcases qM bD with ⟨_,rfl⟩|⟨gg,nn,cc,rfl,_,_,bW,_⟩
  ·simp at b1
  ·simp only [hdr,hk,aQN,bW k v b1,aPA]
   exact jax hs
 ·subst hx;exact b3.1
 ·rw [e1] at aY
  exact (aPC.1 ((oX Sk).nodup_iff.1 aY)).2.1
 ·have bH:Rep w true (.sl sz tyo (ds0.set k e')) u (T++(SA'++Sk'++SC')):=⟨vs,T,_,bD,b4 _ _ hr,rfl⟩
  refine ⟨λp=>hdr w p (.sl sz tyo (ds0.set k e')) u,_,a4 _ _ _ rfl bH (λ_=>rfl),by rw [a3];rfl,_,by rw [e1];exact oX Sk,oX Sk'⟩
end
section
variable {P:Program} {β B N:Nat} {w w0:World} {s:St} {a:Act} {F:Nat->List Nat} {o:Oper} {K:St->Prop}
theorem kY {α:Type}:∀(xs us:List α) (k:Nat),k+xs.length<=us.length->kz us k xs=us.take k++xs++us.drop (k+xs.length)
 |[],us,k,_=>by simp [kz]
 |x::xs,us,k,h=>by
  have hk:k<us.length:=by simp at h;omega
  rw [kz,kY xs (us.set k x) (k+1) (by simp at h⊢;omega)]
  have e1:(us.set k x).take (k+1)=us.take k++[x]:=by
   rw [aPE,List.take_set_of_le (aPD _)];simp [hk]
  have e2:(us.set k x).drop (k+1+xs.length)=us.drop (k+(x::xs).length):=by
   rw [List.drop_set_of_lt (by omega)]
   congr 1
   simp;omega
  rw [e1,e2];simp
theorem jtD (h:RelF B w0 N s a w F) {size:Nat}:∀{parts:List (Nat×Operand)} {ps:List (Nat×Nat×X)} {l:List A0} {k:Nat} {us:List Value},jdy (λi=>some (i*size,size)) parts=some ps->jvd s ps=some l->parts.map (·.1)=List.range' k parts.length->us.length=(k+parts.length)*size->
 ∃xs:List Value,A0RelL B w l xs/\xs.length=parts.length*size/\Instr.fill (λi=>some (i*size,size)) us.toArray (parts.map λp=>(p.1,a.eval p.2))=some (us.take (k*size)++xs).toArray
 |[],ps,l,k,us,h1,h2,_,h4=>by
  simp [jdy] at h1;subst h1;simp [jvd] at h2;subst h2;refine ⟨[],rfl,by simp,?_⟩
  simp at h4;simp [Instr.fill,<-h4]
 |(i,x)::parts,ps,l,k,us,h1,h2,h3,h4=>by
  simp only [jdy] at h1;split at h1
  ·rename_i off n x' ps' k1 k2 k3
   simp at h1;subst h1;simp only [aQX,aPI,List.range'_succ,List.cons.injEq] at h3;obtain ⟨rfl,h3⟩:=h3;simp only [jvd] at h2;split at h2
   ·rename_i m r k4 k5
    split at h2
    ·rename_i k6
     simp at h2;subst h2;obtain ⟨xs,k7,k8⟩:=VRel.cells (qT h k2) k4;have gH:=A0RelL.len k8;simp only [Option.some.injEq,Prod.mk.injEq] at k1;obtain ⟨rfl,rfl⟩:=k1;have cW:i*size+size+parts.length*size=us.length:=by rw [h4,aPI,aSD,aSD,Nat.one_mul];omega
     have cR:i*size+xs.length<=us.length:=by omega
     obtain ⟨ys,k9,k10,k11⟩:=jtD h (k:=i+1) (us:=kz us (i*size) xs) k3 k5 h3 (by rw [jpg,h4,aPI];congr 1;omega)
     have nY:∀(l m:List A0) (us vs:List Value),A0RelL B w l us->A0RelL B w m vs->A0RelL B w (l++m) (us++vs):=by
      intro l
      induction l with
      |nil=>intro m us vs h1 h2;rw [show us=[] from h1];exact h2
      |cons x l ih=>intro m us vs h1 h2;obtain ⟨u,us',rfl,h3,h4⟩:=h1;exact ⟨u,_,rfl,h3,ih m us' vs h4 h2⟩
     refine ⟨xs++ys,nY _ _ _ _ k8 k9,by rw [aOU,gH,k6,k10,aPI,aSD,Nat.one_mul];omega,?_⟩
     have e2:=jij (i*size) xs 0 us;simp only [aPO] at e2;have e1:¬(xs.length≠size\/us.length<i*size+xs.length):=by omega
     simp only [aQX,Instr.fill,k7];rw [if_neg (by simpa using e1)]
     rw [<-Array.foldl_toList,Array.toList_zipIdx];rw [show (xs.toArray.toList.zipIdx 0)=xs.zipIdx 0 from rfl,e2]
     rw [k11]
     congr 2
     have hx:xs.length=size:=by omega
     have e3:(i+1)*size=(us.take (i*size)++xs).length:=by rw [aOU,aOZ,aSD,Nat.one_mul];omega
     rw [kY xs us (i*size) cR,e3,List.take_left];simp
    ·simp at h2
   ·simp at h2
  ·simp at h1
theorem jE6 (h:RelF B w0 N s a w F) {t e:TypeId} {n size:Nat} {parts:Array (Nat×Operand)} {ps:List (Nat×Nat×X)} {g:Option (Nat×Bool)} {zs:List Value} {ks:List (Option (Nat×Nat))} (ho:o.op=.buildSlice t n parts) (ht:P.underlying t=some (.slice e)) (cW:qj P e=some size) (hs:0<size) (hz:vJ P e=some zs)
 (yJ:parts.toList.map (·.1)=List.range n) (hsm:n*size<1000) (s8:jdy (λi=>some (i*size,size)) parts.toList=some ps) (hd:∀k,o.dst=some k->k<N) (hr:vp P β ⟨o.dst,g,.bsl e size n ks ps⟩ s K):
 OpOk P o a w (λa' w'=>∃s' F',RelF B w0 N s' a' w' F'/\K s'):=by
 obtain ⟨l,h1,h2⟩:=hr;have gL:parts.toList.length=n:=by have:=congrArg List.length yJ;simpa using this
 obtain ⟨inf,fJ,xJ⟩:=jkF cW
 have gC:∃z,inf.zero=some z:=by
  unfold vJ at hz;rw [fJ] at hz;simp only at hz;split at hz
  ·exact ⟨_,by assumption⟩
  ·simp at hz
 obtain ⟨z,gC⟩:=gC
 have yQ:∀us:List Value,us.length=n*size->∃xs:List Value,A0RelL B w l xs/\xs.length=n*size/\Instr.fill (λi=>some (i*size,size)) us.toArray (parts.toList.map λp=>(p.1,a.eval p.2))=some xs.toArray:=λus wJ=>by
  obtain ⟨xs,k1,k2,k3⟩:=jtD h (k:=0) (us:=us) s8 h1 (by rw [yJ,gL,List.range_eq_range']) (by rw [wJ,gL,aQN])
  rw [gL] at k2;refine ⟨xs,k1,k2,?_⟩;rw [k3];simp
 obtain ⟨xs,h3,h4,aW⟩:∃xs:List Value,A0RelL B w l xs/\xs.length=n*size/\(execOp a.eval o).run P w=.ok (.value (.slice (some ⟨w.heap.size,0,none⟩) n n)) (w.alloc (.cells xs.toArray e)):=by
  have eA:¬(16777216<n*size):=by omega
  have x9:(parts.map λ(p:Nat×Operand)=>(p.1,a.eval p.2)).toList=parts.toList.map λp=>(p.1,a.eval p.2):=by simp
  have hf:∀f:Nat->Value,∃xs:List Value,A0RelL B w l xs/\xs.length=n*size/\Instr.fill (λi=>some (i*size,size)) ((Array.range (n*size)).map f) (parts.toList.map λp=>(p.1,a.eval p.2))=some xs.toArray:=λf=>by
   obtain ⟨xs,k1,k2,k3⟩:=yQ ((Array.range (n*size)).map f).toList (by simp)
   rw [Array.toArray_toList] at k3;exact ⟨xs,k1,k2,k3⟩
  by_cases h0:n*size=0
  ·obtain ⟨xs,k1,k2,k3⟩:=hf λi=>(#[]:Array Value)[i%0]!
   refine ⟨xs,k1,k2,?_⟩;rw [h0] at k3
   have tI:n=0:=by
    rcases Nat.mul_eq_zero.1 h0 with h|h
    ·exact h
    ·omega
   subst tI;have tG:parts.toList=[]:=aPS gL;have rA:parts=#[]:=by rw [<-Array.toArray_toList (xs:=parts),tG]
   have mX:xs=[]:=aPS (by rw [k2,Nat.zero_mul])
   subst mX;simp [execOp,ho,Instr.buildSlice,run_underlying ht,sizeOf,typeInfo,fJ,rA,Instr.fill,newRow,Array.range_zero']
  ·obtain ⟨xs,k1,k2,k3⟩:=hf λi=>z.cells[i%z.cells.size]!
   refine ⟨xs,k1,k2,?_⟩;have aCZ:¬(n*size>2^24):=by omega
   simp only [execOp,ho,Sem.run_bind,Instr.buildSlice,run_underlying ht,Result.andThen_ok,sizeOf,typeInfo,Sem.run_pure,zeroValue,x9];simp [fJ,xJ,aCZ,h0,gC,k3,newRow]
 obtain ⟨cs,s',S,F',⟨ds,kd,kk⟩,k2,k3,k4,k5,k6,k7,_⟩:=jcd h h3 h2;have hb:Below w.heap.size w (w.alloc (.cells xs.toArray e)):=(Below.refl _ _).alloc (aPD _) _;have hB:B<=w.heap.size:=aQJ h.hB h.below.size;have pK:∀b∈S,b<w.heap.size:=λb a9=>k2.lt b a9
 have cH:=jgU k2 kd;have uH:RepL (w.alloc (.cells xs.toArray e)) true ds xs S:=RepL.keep _ cH λb a9=>hb.block b (pK b a9)
 have bQ:Rep (w.alloc (.cells xs.toArray e)) true (.sl size e ds) (.slice (some ⟨w.heap.size,0,none⟩) n n) (w.heap.size::S):=
  ⟨xs,[w.heap.size],S,⟨n,World.ownsRow_lit w xs.toArray n (aPP _) (by unfold maxLen;have:n<=n*size:=Nat.le_mul_of_pos_right _ hs;omega) (by simpa using h4),rfl⟩,uH,rfl⟩
 have pT:∀g,∀b∈F' g,b<w.heap.size:=λg b a9=>(k3.ob g).lt b a9
 have bT:ORel B (w.alloc (.cells xs.toArray e)) (.loose (.sl size e ds) (λp=>hdr (w.alloc (.cells xs.toArray e)) p (.sl size e ds) (.slice (some ⟨w.heap.size,0,none⟩) n n))) (w.heap.size::S):=⟨rfl,_,bQ,λ_=>rfl⟩
 have h5:=(k3.world hb).setO (g:=100*(β+o.dst.getD 0)) bT ⟨aQZ.2 ⟨λhh=>by have:=pK _ hh;omega,k4.1⟩,λb a9=>by rcases aPL.1 a9 with rfl|a9;exact hB;exact k4.2 b a9⟩ (λg' _ b a9=>by
  rcases aPL.1 a9 with rfl|a9
  ·exact λhh=>by have:=pT g' _ hh;omega
  ·exact k5 g' b a9)
 have hv:VRel B (w.alloc (.cells xs.toArray e)) (.c (.h (100*(β+o.dst.getD 0)) 0 [] (.slice (some ⟨w.heap.size,0,none⟩) n n))) (.slice (some ⟨w.heap.size,0,none⟩) n n):=⟨rfl,rfl⟩;exact OpOk.of_run aW ⟨_,_,h5.put hv hd,kk _⟩
theorem jtu (h:RelF B w0 N s a w F) {e size:Nat} {x:AV} {u:Value} {K:List D->St->Prop} (hv:VRel B w x u) (hk:jf4 s e size x K):
 ∃xs s' S F',K xs s'/\Rep w true (.sl size e xs) u S/\RelF B w0 N s' a w F'/\Fresh B S/\(∀g,∀b∈S,b∉F' g)/\(∀g b,b∈F' g->b∈F g)/\∀b∈S,∃g,b∈F g:=by
 unfold jf4 at hk;split at hk
 ·have hu:u=.slice none 0 0:=hv
  subst hu;exact ⟨[],s,[],F,hk,Rep.nil_ w size e,h,Fresh.nil _,by simp,λ_ _ h=>h,by simp⟩
 ·rename_i g c p x'
  rcases hk with ⟨rfl,cs,η,ho,hx,hk⟩|⟨k,rfl,sz,tyo,ds0,cs,η,ho,hd,hx,hk⟩
  ·obtain ⟨u',S1,F1,j1,j2,j3,j4,j5,j6,j7,j8⟩:=h.rm ho
   have hu:u=u':=by rw [hv.1,<-hx,j3,jax j1]
   subst hu;exact ⟨cs,_,S1,F1,hk,j2,j5,j4,j6,j8,λb hb=>⟨g,j7 b hb⟩⟩
  ·obtain ⟨v,Sk,a1,a2,_,a4,a5,a6⟩:=joF (h.ob g) ho hd
   have hu:u=v:=by rw [hv.1,<-hx,a2 rfl]
   subst hu;obtain ⟨aH,S',b1,b2,R,b3,b4⟩:=a6 (.val u) [] ⟨rfl,rfl⟩;rw [aPR] at b4;have aY:=b3.nodup_iff.1 (h.fr g).1;have bC:∀b∈S',b∈F g:=λb hb=>b3.mem_iff.2 (aOX.2 (.inl (b4.mem_iff.1 hb)))
   have t1:=h.setO (g:=g) b1 ⟨b4.nodup_iff.2 (aPC.1 aY).1,λb hb=>(h.fr g).2 b (bC b hb)⟩ (λg' dE b hb hh=>h.dj g' g dE b hh (bC b hb))
   have hxu:x'=u:=by rw [<-hx,a2 rfl]
   refine ⟨cs,_,Sk,_,hk aH b2,a1,by rw [hxu];exact t1,⟨(aPC.1 aY).2.1,λb hb=>(h.fr g).2 b (a4 b hb)⟩,λg' b hb hh=>?_,λg' b hb=>?_,λb hb=>⟨g,a4 b hb⟩⟩
   ·split at hh
    ·exact (aPC.1 aY).2.2 b (b4.mem_iff.1 hh) b hb rfl
    ·rename_i yO
     exact h.dj g' g yO b hh (a4 b hb)
   ·split at hb
    ·rename_i e;rw [e];exact bC b hb
    ·exact hb
 ·exact hk.elim
theorem jtl:∀{ds:List D} {us:List Value} {S:List Nat} {own:Bool},ka ds=true->RepL w own ds us S->(∀u∈us,u.oneCell'=true)/\∀(w':World) (own':Bool),RepL w' own' ds us []
 |[],us,S,own,_,h=>by obtain ⟨rfl,_⟩:=h;exact ⟨by simp,λ_ _=>⟨rfl,rfl⟩⟩
 |.val u::ds,us,S,own,hf,h=>by
  obtain ⟨v,vs',S1,S2,rfl,rfl,h3,h4⟩:=h;simp only [ka,aPG] at hf;obtain ⟨h5,h6⟩:=jtl hf.2 h4;obtain ⟨rfl,rfl⟩:=h3;refine ⟨λu hu=>?_,λw' own'=>RepL.val_ (h6 w' own')⟩
  rcases aPL.1 hu with rfl|hu
  ·exact hf.1
  ·exact h5 u hu
 |.sl _ _ _::_,_,_,_,hf,_=>by simp [ka] at hf
theorem jwp {own:Bool}:∀{ds:List D} {us:List Value} {S:List Nat},RepL w own ds us S->(∀d∈ds,∀u,d=.val u->u.oneCell'=true)->∀u∈us,u.oneCell'=true
 |[],us,S,h,_=>by obtain ⟨rfl,_⟩:=h;simp
 |d::ds,us,S,h,hd=>by
  obtain ⟨v,vs',S1,S2,rfl,rfl,h3,h4⟩:=h;intro u hu;rcases aPL.1 hu with rfl|hu
  ·cases d with
   |val x=>obtain ⟨rfl,_⟩:=h3;exact hd _ (by simp) _ rfl
   |sl _ _ _=>obtain ⟨_,_,_,rfl⟩:=zr h3;rfl
  ·exact jwp h4 (λd' oH=>hd d' (by simp [oH])) u hu
theorem jns {t e:TypeId} {i:TypeInfo} {zs:List Value} (ht:P.underlying t=some (.slice e)) (hi:P.info? e=some i) (hz:vJ P e=some zs) (hs:0<i.size) {ty:TypeId} {xs ys:List D} {v:Value} {S Sy:List Nat}
 (bH:Rep w true (.sl i.size e xs) v S) {A:Option Addr} {m c:Nat} {news:List Value} (hy:RepL w true ys news Sy) (hm:news.length=m*i.size) (hA:A=none->m=0/\c=0) (dW:∀ad,A=some ad->∀j u,news[j]?=some u->w.cell? (ad.add j)=some u)
 (h1:∀u∈news,u.oneCell'=true) (hF:Fresh B (S++Sy)) (hB:B<=w.heap.size) (rI:xs.length/i.size+ys.length/i.size<=maxLen) (eC:(xs.length/i.size+ys.length/i.size)*i.bytes<=140737488355328):
 ∃v' w' S',(Builtin.append_ #[t,t] ty #[v,.slice A m c]).run P w=.ok v' w'/\Rep w' true (.sl i.size e (xs++ys)) v' S'/\Fresh B S'/\Only S w w'/\∀s∈S',s∈S\/s∈Sy\/w.heap.size<=s:=by
 obtain ⟨vs,T,S1,⟨n,bQ,rfl⟩,cH,rfl⟩:=bH;have bO:=RepL.length _ cH;have z9:=RepL.length _ hy;have xB:xs.length/i.size=n:=by rw [<-bO,bQ.1];exact aPZ _ hs
 have hyn:ys.length/i.size=m:=by rw [<-z9,hm];exact aPZ _ hs
 rw [xB,hyn] at rI eC;unfold vJ at hz;rw [hi] at hz;simp only at hz;split at hz
 ·rename_i z gC
  split at hz
  ·rename_i nW
   simp only [aPG,aPM] at nW;cases A with
   |none=>
    obtain ⟨rfl,rfl⟩:=hA rfl;have nC:news=[]:=aPS (by rw [hm,Nat.zero_mul])
    subst nC;have rL:ys=[]:=aPS (by rw [<-z9];rfl)
    subst rL;exact ⟨v,w,blk v++S1,run_append_owned_none (P:=P) w 0 t ty e i i.size ht hi v n vs bQ,by rw [aPR];exact ⟨vs,blk v,S1,⟨n,bQ,rfl⟩,cH,rfl⟩,hF.left,Only.refl _ _,λs hs=>.inl hs⟩
   |some ad=>
    have oZ:=dW ad rfl;obtain ⟨v',w',hr,h2,h3,_⟩:=run_append_own (P:=P) w 0 t ty e i z i.size i.bytes ht hi gC rfl rfl nW.1 hs v n vs bQ ad m c news hm oZ h1 rI eC (aPP _);have dL:Only (blk v++S1) w w':=Only.of_grown h3 (λb hb=>by simp [hb])
    have eX:Only (blk v) w w':=Only.of_grown h3 (λb hb=>hb)
    have lK:∀s∈S1++Sy,s∉blk v:=λs hs hb=>by
     have:=hF.1;rw [aPH] at this;exact (aPC.1 this).2.2 s hb s hs rfl
    have cB:∀b∈blk v',b∈blk v\/b=w.heap.size:=jnt ht hi gC bQ hm oZ h1 rI eC hr
    have eQ:Rep w' true (.sl i.size e (xs++ys)) v' (blk v'++(S1++Sy)):=
     ⟨vs++news,blk v',S1++Sy,⟨n+m,h2,rfl⟩,RepL.append_ _ (cH.only eX λs hs=>lK s (by simp [hs])) (hy.only eX λs hs=>lK s (by simp [hs])),rfl⟩
    have aB:∀s∈S1++Sy,s<w.heap.size:=λs hs=>by
     rcases aOX.1 hs with hs|hs
     ·exact RepL.lt _ cH s hs
     ·exact RepL.lt _ hy s hs
    refine ⟨v',w',_,hr,eQ,?_,dL,λs hs=>?_⟩
    ·rw [aPH] at hF
     refine ⟨aPC.2 ⟨?_,(aPC.1 hF.1).2.1,λa ha b hb e=>?_⟩,λb hb=>?_⟩
     ·rcases h2.2 with ⟨rfl,_⟩|⟨g,cap,cur,rfl,_⟩<;>simp [blk]
     ·subst e
      rcases cB a ha with h4|h4
      ·exact lK a hb h4
      ·have:=aB a hb;omega
     ·rcases aOX.1 hb with hb|hb
      ·rcases cB b hb with h4|h4
       ·exact hF.2 b (by simp [h4])
       ·omega
      ·exact hF.2 b (by rw [aOX];exact .inr hb)
    ·rcases aOX.1 hs with hs|hs
     ·rcases cB s hs with h4|h4
      ·exact .inl (by simp [h4])
      ·right;right;omega
     ·rcases aOX.1 hs with hs|hs
      ·exact .inl (by simp [hs])
      ·exact .inr (.inl hs)
  ·simp at hz
 ·simp at hz
theorem jBR (h:RelF B w0 N s a w F) {size:Nat} (hs:0<size) {x:AV} {u:Value} {K:List D->St->Prop} (hv:VRel B w x u) (hk:jyq s size x K):
 ∃ys s' Sy F' A m c news,K ys s'/\u=.slice A m c/\RepL w true ys news Sy/\news.length=m*size/\(A=none->m=0/\c=0)/\(∀b o,A=some ⟨b,o,none⟩->∀j u,news[j]?=some u->w.cell? ⟨b,o+j,none⟩=some u)/\(∀ad,A=some ad->ad.spot=none\/news=[])/\(∀u∈news,u.oneCell'=true)/\
  RelF B w0 N s' a w F'/\Fresh B Sy/\(∀g,∀b∈Sy,b∉F' g)/\(∀g b,b∈F' g->b∈F g)/\∀b∈Sy,∃g,b∈F g:=by
 have flat:∀(dd:D) (S:List Nat),dd.isSl=true->dd.size=size->ka dd.cells=true->Rep w false dd u S->K dd.cells s->
  ∃ys s' Sy F' A m c news,K ys s'/\u=.slice A m c/\RepL w true ys news Sy/\news.length=m*size/\(A=none->m=0/\c=0)/\(∀b o,A=some ⟨b,o,none⟩->∀j u,news[j]?=some u->w.cell? ⟨b,o+j,none⟩=some u)/\(∀ad,A=some ad->ad.spot=none\/news=[])/\(∀u∈news,u.oneCell'=true)/\
  RelF B w0 N s' a w F'/\Fresh B Sy/\(∀g,∀b∈Sy,b∉F' g)/\(∀g b,b∈F' g->b∈F g)/\∀b∈Sy,∃g,b∈F g:=by
  intro dd S k1 k2 k3 k4 k5;cases dd with
  |val _=>cases k1
  |sl size' ty cs=>
   have k2':size'=size:=k2;subst k2';obtain ⟨A,n,c,vs,S',rfl,j1,j2,_,j4,j5,j6,j7⟩:=jad k4;obtain ⟨j8,j9⟩:=jtl k3 j2;have bO:=RepL.length _ j2;refine ⟨cs,s,[],F,A,n,c,vs,k5,rfl,j9 w true,by rw [bO,j1],λhA=>?_,λb o' hA j u hu=>?_,λad hA=>?_,j8,h,Fresh.nil _,by simp,λ_ _ h=>h,by simp⟩
   ·have:=j6 hA;omega
   ·obtain ⟨b',o'',wE,_,j10⟩:=j7 (λe=>by subst e;simp at hu)
    rw [wE] at hA;cases hA;exact j10 j u hu
   ·by_cases aK:vs=[]
    ·exact .inr aK
    ·obtain ⟨b',o'',wE,_⟩:=j7 aK
     rw [wE] at hA;cases hA;exact .inl rfl
 unfold jyq at hk;split at hk
 ·have hu:u=.slice none 0 0:=hv
  subst hu;exact ⟨[],s,[],F,none,0,0,[],hk,rfl,⟨rfl,rfl⟩,by simp,λ_=>⟨rfl,rfl⟩,by simp,by simp,by simp,h,Fresh.nil _,by simp,λ_ _ h=>h,by simp⟩
 ·rename_i dd
  obtain ⟨k1,k2,k3,k4⟩:=hk;obtain ⟨_,S,k5,_⟩:=hv;exact flat dd S k1 k2 k3 k5 k4
 ·rename_i g c p x' sz lo m
  obtain ⟨dd,k1,k2,k3,k4⟩:=hk;have sQ:A0Rel B w (.hs g c p x' sz lo m) u:=hv;obtain ⟨S,k5⟩:=jld h sQ k1;obtain ⟨_,_,d1,_,_,_,k6,_,_,_,rfl⟩:=k1;exact flat _ S (by cases d1 with|val _=>cases k6|sl _ _ _=>rfl) k2 k3 k5 k4
 ·rename_i g c p x'
  obtain ⟨dd,k1,k2,k3⟩:=hk;have sQ:A0Rel B w (.h g c p x') u:=hv;obtain ⟨S,k4⟩:=jld h sQ k1;split at k3
  ·rename_i k5
   obtain ⟨_,_,_,_,_,k7⟩:=k1;exact flat dd S k7 k2 k5 k4 k3
  ·obtain ⟨rfl,k5,k6⟩:=k3
   obtain ⟨d0,η,k7,k8,k9,k10⟩:=k1;simp [D.get] at k9;subst k9;obtain ⟨u',S1,F1,j1,j2,j3,j4,j5,j6,j7,j8⟩:=h.rm k7;have hu:u=u':=by rw [sQ.1,<-k8,j3,jax j1]
   subst hu;cases d0 with
   |val _=>cases j1
   |sl size' ty cs=>
    have k2':size'=size:=k2;subst k2';obtain ⟨vs,T,S2,m1,m2,rfl⟩:=j2;have bO:=RepL.length _ m2
    have eK:∀u∈vs,u.oneCell'=true:=jwp m2 (by
     have key:∀l:List D,jk6 l=true->∀d∈l,∀u,d=.val u->u.oneCell'=true:=by
      intro l
      induction l with
      |nil=>intro _ d hd;simp at hd
      |cons x l ih=>
       intro hl d hd u hu;cases x with
       |val v=>
        simp only [jk6,aPG] at hl;rcases aPL.1 hd with rfl|hd
        ·cases hu;exact hl.1
        ·exact ih hl.2 d hd u hu
       |sl _ _ _=>
        rcases aPL.1 hd with rfl|hd
        ·cases hu
        ·exact ih hl d hd u hu
     exact key cs k5)
    have bC:∀b∈S2,b∈T++S2:=λb hb=>by simp [hb]
    rcases qM m1 with ⟨rfl,rfl⟩|⟨gg,nn,cc,rfl,rfl,m3,m4,_⟩
    ·refine ⟨cs,_,S2,F1,none,0,0,[],k6,rfl,m2,by simp,λ_=>⟨rfl,rfl⟩,by simp,by simp,by simp,j5,j4.right,λg' b hb=>j6 g' b (bC b hb),j8,λb hb=>⟨g,j7 b (bC b hb)⟩⟩
    ·refine ⟨cs,_,S2,F1,_,nn,cc,vs,k6,rfl,m2,m3,λhA=>(by cases hA),λb o' hA j u hu=>?_,λad hA=>?_,eK,j5,j4.right,λg' b hb=>j6 g' b (bC b hb),j8,λb hb=>⟨g,j7 b (bC b hb)⟩⟩
     ·cases hA
      rw [aQN];exact m4 j u hu
     ·cases hA
      exact .inl rfl
 ·exact hk.elim
theorem jE8 (h:RelF B w0 N s a w F) {c:Call} {t e:TypeId} {i:TypeInfo} {zs:List Value} {x y:Operand} {x' y':X} {g:Option (Nat×Bool)} (ho:o.op=.call c) (hc:c.callee=.builtin .append) (ha:c.args.toList=[x,y]) (xG:c.argTypes.toList=[t,t]) (ht:P.underlying t=some (.slice e)) (hi:P.info? e=some i) (hz:vJ P e=some zs) (hs:0<i.size)
 (hx:jQ x=some x') (hy:jQ y=some y') (hd:∀k,o.dst=some k->k<N) (hr:vp P β ⟨o.dst,g,.app e i.size i.bytes x' y'⟩ s K):OpOk P o a w (λa' w'=>∃s' F',RelF B w0 N s' a' w' F'/\K s'):=by
 have bN:jyq s i.size (s.ev y') λys s1=>jf4 s1 e i.size (s.ev x') λxs s2=>xs.length/i.size+ys.length/i.size<=maxLen/\(xs.length/i.size+ys.length/i.size)*i.bytes<=140737488355328/\
  ∀η,K ((s2.addO [(100*(β+o.dst.getD 0),.loose (.sl i.size e (xs++ys)) η)]).put o.dst (.c (.h (100*(β+o.dst.getD 0)) 0 [] (η [])))):=hr
 obtain ⟨ys,s1,Sy,F1,A,m,cc,news,bZ,e1,r1,r2,r3,r4,r5,r6,h1,r7,r8,r9,r10⟩:=jBR h hs (qT h hy) bN;obtain ⟨xs,s2,S,F2,⟨q1,q2,q3⟩,q4,h2,q5,q6,q7,q8⟩:=jtu h1 (qT h hx) bZ;have cG:c.args=#[x,y]:=by rw [<-Array.toArray_toList (xs:=c.args),ha]
 have nX:c.argTypes=#[t,t]:=by rw [<-Array.toArray_toList (xs:=c.argTypes),xG]
 have hB:B<=w.heap.size:=aQJ h.hB h.below.size
 have fW:∀b∈S,b∉Sy:=λb hb a9=>by
  obtain ⟨g',dE⟩:=q8 b hb;exact r8 g' b a9 dE
 have hF:Fresh B (S++Sy):=⟨aPC.2 ⟨q5.1,r7.1,λp hp q hq e=>fW p hp (e▸hq)⟩,λb hb=>by rcases aOX.1 hb with hb|hb;exact q5.2 b hb;exact r7.2 b hb⟩
 obtain ⟨v',w',S',aW,bH,hFr,dL,u9⟩:=jns (B:=B) (ty:=o.type) ht hi hz hs q4 r1 r2 r3 (λad hA j u hu=>by
  rcases r5 ad hA with h5|h5
  ·obtain ⟨b,o',sp⟩:=ad
   simp only at h5;subst h5;rw [jat];exact r4 b o' hA j u hu
  ·subst h5;simp at hu) r6 hF hB q1 q2
 have oW:(execOp a.eval o).run P w=.ok (.value v') w':=by
  simp [execOp,ho,resolve,hc,cG,nX,e1,invoke,builtin,aW]
 have hb:Below B w w':=dL.below (λb hb=>q5.2 b hb) hB
 have h3:=h2.world' hb λg b a9=>dL.block b ((h2.ob g).lt b a9) λhh=>q6 g b hh a9
 have bT:ORel B w' (.loose (.sl i.size e (xs++ys)) (λp=>hdr w' p (.sl i.size e (xs++ys)) v')) S':=⟨rfl,v',bH,λ_=>rfl⟩
 have h4:=h3.setO (g:=100*(β+o.dst.getD 0)) bT hFr (λg' _ b a9=>by
  rcases u9 b a9 with h5|h5|h5
  ·exact q6 g' b h5
  ·exact λhh=>r8 g' b h5 (q7 g' b hh)
  ·exact λhh=>by have:=(h2.ob g').lt b hh;omega)
 have hv:VRel B w' (.c (.h (100*(β+o.dst.getD 0)) 0 [] v')) v':=⟨rfl,by obtain ⟨_,_,_,rfl⟩:=zr bH;rfl⟩
 exact OpOk.of_run oW ⟨_,_,h4.put hv hd,q3 _⟩
theorem jmy {t u e:TypeId} {i:TypeInfo} (ht:P.underlying t=some (.slice e)) (hu:P.underlying u=some .string) (hi:P.info? e=some i) (hz:i.zero=some (.int .u8 0)) (hs:i.size=1) (rH:i.bytes=1) {ty:TypeId} {xs:List D} {v:Value} {S:List Nat}
 (bH:Rep w true (.sl 1 e xs) v S) (b:ByteArray) (hF:Fresh B S) (hB:B<=w.heap.size) (aC:xs.length+b.size<=140737488355328):
 ∃v' w' S',(Builtin.append_ #[t,u] ty #[v,.string b]).run P w=.ok v' w'/\Rep w' true (.sl 1 e (xs++strCells b)) v' S'/\Fresh B S'/\Only S w w'/\∀s∈S',s∈S\/w.heap.size<=s:=by
 obtain ⟨vs,T,S1,⟨n,bQ,rfl⟩,cH,rfl⟩:=bH;have bO:=RepL.length _ cH;have lP:vs.length=n:=by simpa using bQ.1
 have rI:n+b.size<=maxLen:=by unfold maxLen;omega
 obtain ⟨v',w',hr,h2,h3,_⟩:=Go.Lib.run_append_own_string (P:=P) w 0 t u ty e i ht hu hi hz hs rH v n vs bQ b rI (by omega) (aPP _)
 have dL:Only (blk v++S1) w w':=Only.of_grown h3 (λb hb=>by simp [hb])
 have eX:Only (blk v) w w':=Only.of_grown h3 (λb hb=>hb)
 have lK:∀s∈S1,s∉blk v:=λs hs hb=>(aPC.1 hF.1).2.2 s hb s hs rfl
 have cB:∀b∈blk v',b∈blk v\/b=w.heap.size:=by
  intro g hg;by_cases tR:b.size=0
  ·rcases bQ.2 with ⟨rfl,rfl⟩|⟨g',cap,cur,rfl,_,dE,nB,oJ,fI,iH⟩
   ·
    have gN:b=ByteArray.empty:=by
     cases b with
     |mk d=>simp [ByteArray.size] at tR;subst tR;rfl
    have:(Builtin.append_ #[t,u] ty #[.slice none 0 0,.string b]).run P w=.ok (.slice none 0 0) w:=by
     simp [Builtin.append_,run_underlying ht,run_underlying hu,sizeOf,typeInfo,hi,Builtin.lenOf,tR,Builtin.firstCells]
    rw [this] at hr;injection hr with e1 _;subst e1;simp [blk] at hg
   ·rw [Go.Lib.run_append_room_string (P:=P) w t u ty e i ht hu hi hs g' n cap cur dE b (by omega) (by omega)] at hr
    injection hr with e1 _;subst e1;exact .inl (by simpa [blk] using hg)
  ·rcases bQ.2 with ⟨rfl,rfl⟩|⟨g',cap,cur,rfl,_,dE,nB,oJ,fI,iH⟩
   ·rw [run_append_nil_string (P:=P) w t u ty e i _ ht hu hi hz b (by omega) (by omega) (by rw [rH];omega)] at hr
    injection hr with e1 _;subst e1;exact .inr (by simpa [blk] using hg)
   ·by_cases bE:n+b.size<=cap
    ·rw [Go.Lib.run_append_room_string (P:=P) w t u ty e i ht hu hi hs g' n cap cur dE b bE (by omega)] at hr
     injection hr with e1 _;subst e1;exact .inl (by simpa [blk] using hg)
    ·rw [Go.Lib.run_append_grow_string (P:=P) w t u ty e i _ ht hu hi hz ⟨g',0,none⟩ n cap vs (by rw [hs];exact bQ.1) (bQ.cells (g:=g') rfl) b (by omega) (by omega) (growslice_fits (by omega) (by rw [rH];omega))] at hr
     injection hr with e1 _;subst e1;exact .inr (by simpa [blk] using hg)
 have z9:RepL w' true (strCells b) (Go.Lib.strCells b) []:=by
  have key:∀l:List UInt8,RepL w' true (l.map qv) (l.map λb=>Value.int .u8 b.toNat) []:=by
   intro l
   induction l with
   |nil=>exact ⟨rfl,rfl⟩
   |cons x l ih=>exact ⟨_,_,[],[],rfl,rfl,⟨rfl,rfl⟩,ih⟩
  exact key _
 have y4:=RepL.append_ _ (cH.only eX λs hs=>lK s hs) z9
 rw [aPR] at y4;have eQ:Rep w' true (.sl 1 e (xs++strCells b)) v' (blk v'++S1):=⟨vs++Go.Lib.strCells b,blk v',S1,⟨n+b.size,h2,rfl⟩,y4,rfl⟩;have aB:∀s∈S1,s<w.heap.size:=λs hs=>RepL.lt _ cH s hs
 refine ⟨v',w',_,hr,eQ,⟨aPC.2 ⟨?_,(aPC.1 hF.1).2.1,λp hp q hq e=>?_⟩,λp hp=>?_⟩,dL,λs hs=>?_⟩
 ·rcases h2.2 with ⟨rfl,_⟩|⟨g,cap,cur,rfl,_⟩<;>simp [blk]
 ·subst e
  rcases cB p hp with h4|h4
  ·exact lK p hq h4
  ·have:=aB p hq;omega
 ·rcases aOX.1 hp with hp|hp
  ·rcases cB p hp with h4|h4
   ·exact hF.2 p (by simp [h4])
   ·omega
  ·exact hF.2 p (by simp [hp])
 ·rcases aOX.1 hs with hs|hs
  ·rcases cB s hs with h4|h4
   ·exact .inl (by simp [h4])
   ·exact .inr (by omega)
  ·exact .inl (by simp [hs])
theorem jCC (h:RelF B w0 N s a w F) {c:Call} {t u e:TypeId} {i:TypeInfo} {x y:Operand} {x' y':X} {g:Option (Nat×Bool)} (ho:o.op=.call c) (hc:c.callee=.builtin .append) (ha:c.args.toList=[x,y]) (xG:c.argTypes.toList=[t,u]) (ht:P.underlying t=some (.slice e)) (hu:P.underlying u=some .string) (hi:P.info? e=some i) (gC:i.zero=some (.int .u8 0)) (hs:i.size=1) (rH:i.bytes=1)
 (hx:jQ x=some x') (hy:jQ y=some y') (hd:∀k,o.dst=some k->k<N) (hr:vp P β ⟨o.dst,g,.apps e x' y'⟩ s K):OpOk P o a w (λa' w'=>∃s' F',RelF B w0 N s' a' w' F'/\K s'):=by
 obtain ⟨b,k1,k2⟩:=hr;obtain ⟨xs,s2,S,F2,⟨q1,q3⟩,q4,h2,q5,q6,q7,q8⟩:=jtu h (qT h hx) k2;have cG:c.args=#[x,y]:=by rw [<-Array.toArray_toList (xs:=c.args),ha]
 have nX:c.argTypes=#[t,u]:=by rw [<-Array.toArray_toList (xs:=c.argTypes),xG]
 have hB:B<=w.heap.size:=aQJ h.hB h.below.size;obtain ⟨v',w',S',aW,bH,hFr,dL,u9⟩:=jmy (B:=B) (ty:=o.type) ht hu hi gC hs rH q4 b q5 hB q1
 have oW:(execOp a.eval o).run P w=.ok (.value v') w':=by
  simp [execOp,ho,resolve,hc,cG,nX,jjx h hy k1,invoke,builtin,aW]
 have hb:Below B w w':=dL.below (λb hb=>q5.2 b hb) hB
 have h3:=h2.world' hb λg b a9=>dL.block b ((h2.ob g).lt b a9) λhh=>q6 g b hh a9
 have bT:ORel B w' (.loose (.sl 1 e (xs++strCells b)) (λp=>hdr w' p (.sl 1 e (xs++strCells b)) v')) S':=⟨rfl,v',bH,λ_=>rfl⟩
 have h4:=h3.setO (g:=100*(β+o.dst.getD 0)) bT hFr (λg' _ b a9=>by
  rcases u9 b a9 with h5|h5
  ·exact q6 g' b h5
  ·exact λhh=>by have:=(h2.ob g').lt b hh;omega)
 have hv:VRel B w' (.c (.h (100*(β+o.dst.getD 0)) 0 [] v')) v':=⟨rfl,by obtain ⟨_,_,_,rfl⟩:=zr bH;rfl⟩
 exact OpOk.of_run oW ⟨_,_,h4.put hv hd,q3 _⟩
theorem jtR {z:Array Value} (hz:0<z.size) (n:Nat):(Builtin.zeroCells z n).toList=(List.replicate n z.toList).flatten:=by
 apply aRB
 intro j;by_cases hj:j<n*z.size
 ·rw [jac (by simp) hz n j hj]
  simp [Builtin.zeroCells,hj];rw [Array.getElem?_eq_getElem (Nat.mod_lt _ hz)];simp only [Option.some.injEq];exact getElem!_pos _ _ _
 ·rw [aQQ (by simp [Builtin.zeroCells];omega),aQQ (by simp;omega)]
theorem jsM {zs:List D} {us:List Value} (h:RepL w true zs us []):∀(n:Nat),RepL w true (List.replicate n zs).flatten (List.replicate n us).flatten []
 |0=>⟨rfl,rfl⟩
 |n+1=>by
  simp only [List.replicate_succ,aSB];have:=RepL.append_ zs h (jsM h n);simpa using this
theorem jzi {α:Type} {l:List α} (n:Nat):(List.replicate n l).flatten.length=n*l.length:=by simp
theorem jE5 (h:RelF B w0 N s a w F) {cl:Call} {t e:TypeId} {i:TypeInfo} {zs:List Value} {x:Operand} {x':X} {ks:List (Option (Nat×Nat))} {g:Option (Nat×Bool)} (ho:o.op=.call cl) (hc:cl.callee=.builtin .clear) (ha:cl.args.toList=[x]) (xG:cl.argTypes.toList=[t]) (ht:P.underlying t=some (.slice e)) (hi:P.info? e=some i) (hz:vJ P e=some zs) (hs:0<i.size)
 (hx:jQ x=some x') (hr:vp P β ⟨o.dst,g,.clr i.size (juG ks zs) x'⟩ s K):OpOk P o a w (λa' w'=>∃s' F',RelF B w0 N s' a' w' F'/\K s'):=by
 obtain ⟨pG,hr⟩:=hr;simp only at pG;have cG:cl.args=#[x]:=by rw [<-Array.toArray_toList (xs:=cl.args),ha]
 have nX:cl.argTypes=#[t]:=by rw [<-Array.toArray_toList (xs:=cl.argTypes),xG]
 have hpu:∀v,a.put o.dst v=a:=λv=>by rw [pG];rfl
 have rT:=qT h hx;split at hr
 ·rename_i he
  have hp:a.eval x=.slice none 0 0:=by rw [he] at rT;exact rT
  have aW:(execOp a.eval o).run P w=.ok (.value (.tuple #[])) w:=by
   simp [execOp,ho,resolve,hc,cG,nX,hp,invoke,builtin,Builtin.clear_,run_underlying ht]
  exact OpOk.of_run aW (by rw [hpu];exact ⟨s,F,h,hr⟩)
 ·rename_i k c p mX sz lo n he
  obtain ⟨rfl,hn,d0,η,dd,j1,j2,j3,j4,j5,j6,hk⟩:=hr;rw [he] at rT;obtain ⟨hp,_⟩:=rT;unfold vJ at hz;rw [hi] at hz;simp only at hz;split at hz;rotate_left
  ·simp at hz
  rename_i z gC;split at hz;rotate_left
  ·simp at hz
  rename_i nW;simp only [aPG,aPM] at nW;simp at hz;subst hz;have oM:z.cells.toList.length=i.size:=by rw [aRM];simpa using nW.1
  have fX:0<z.cells.size:=by have:=nW.1;omega
  generalize yT:(List.replicate n (juG ks z.cells.toList)).flatten=ds at*;generalize wJ:(List.replicate n z.cells.toList).flatten=us;have cB:RepL w true ds us []:=by rw [<-yT,<-wJ];exact jsM (jrD _ _) n
  have oO:us.length=n*i.size:=by rw [<-wJ,jzi,oM]
  have fV:ds.length=n*i.size:=by rw [<-RepL.length _ cB,oO]
  have lB:0<n*i.size:=Nat.mul_pos hn hs
  have k8:∀u∈us,u.oneCell'=true:=λu hu=>by
   rw [<-wJ] at hu;obtain ⟨l,hl,oO⟩:=aRS.1 hu;rw [List.eq_of_mem_replicate hl] at oO;exact List.all_eq_true.1 nW.2 u (by simpa using oO)
  have nV:=h.fr k;obtain ⟨u,S1,q0,q1,q2,q3,q4,q5⟩:=ORel.put1 (h.ob k) nV.1 j1;obtain ⟨Sx,hrx,_⟩:=zt h j1 j2 j3 j4;cases dd with
  |val _=>cases j4
  |sl size ty cs0=>
   simp only [D.size] at j5;subst j5;simp only [D.len,D.cells,D.size] at j6;have dN:(lo+n)*i.size<=cs0.length:=aQJ (aRY _ j6) (Nat.div_mul_le_self _ _);rw [aSD] at dN;obtain ⟨gg,nn,cc,r1,r2,r3,S1',r4,r5,r6,r7⟩:=jnT (k:=lo*i.size) (by omega) cB List.nodup_nil p q1 q4 (λb hb=>by simp at hb) j3 (by omega)
   have yM:mX=.slice (some ⟨gg,0,none⟩) nn cc:=by rw [<-j2,q2,r1]
   obtain ⟨vs,T,S',bD,cH,_⟩:=hrx;have bO:=RepL.length _ cH
   have aEC:lo<cc:=by
    obtain ⟨nv,bQ,_⟩:=bD;have h1:=bQ.1;rcases bQ.2 with ⟨e1,e2⟩|⟨g',cap,cur,e1,_,_,e2,_⟩
    ·rw [yM] at e1;cases e1
    ·rw [yM] at e1
     injection e1 with e3 e4 e5;subst e5;have:cs0.length/i.size=nv:=by rw [<-bO,h1];exact aPZ _ hs
     omega
   have mK:a.eval x=.slice (some ⟨gg,lo*i.size,none⟩) n (cc-lo):=by
    rw [hp.resolve_right λ⟨_,nC,_⟩=>by omega,yM]
    simp only [jj9];rw [if_neg (by omega)]
    simp [Addr.add_lit]
   have aW:(execOp a.eval o).run P w=.ok (.value (.tuple #[])) (w.setCells gg (lo*i.size) us):=by
    have aJ:=run_storeCells_cells (P:=P) gg (lo*i.size) us 0 w (λj hj=>(r3 j (by omega)).1) (λj hj=>(r3 j (by omega)).2) k8
    simp only [aPO] at aJ;obtain ⟨m,rfl⟩:∃m,n=m+1:=⟨n-1,by omega⟩
    simp [execOp,ho,resolve,hc,cG,nX,mK,invoke,builtin,Builtin.clear_,run_underlying ht,zeroValue,typeInfo,hi,gC,jtR fX,wJ,aJ]
   obtain ⟨j6,j7,j8,j9⟩:=kK us w gg (lo*i.size);have pC:gg∈F k:=q3 gg r2;have hBb:B<=gg:=nV.2 gg pC;have aK:∀b,b≠gg->(w.setCells gg (lo*i.size) us).heap[b]?=w.heap[b]?:=λb hb=>jaT us w gg (lo*i.size) b hb
   have hb:Below B w (w.setCells gg (lo*i.size) us):=⟨j6,j7,j8,by rw [j9];exact aPD _,λj hj=>aK j (by omega)⟩
   have fH:(D.put p (lo*i.size) ds d0).isSl=true:=jAX _ _ _ q0
   obtain ⟨S',m1,m2,m3⟩:=q5 (w.setCells gg (lo*i.size) us) (D.put p (lo*i.size) ds d0) (λq=>hdr (w.setCells gg (lo*i.size) us) q (D.put p (lo*i.size) ds d0) u) S1' hb (λb _ bF=>aK b λe=>bF (e▸r2)) fH r4 (λ_=>rfl) r5 (λb aZ=>by
    rcases r6 b aZ with h|h
    ·exact .inl h
    ·simp at h)
   have t1:=h.setO (g:=k) (ob:=.none) (S:=[]) rfl (Fresh.nil _) (by simp)
   have t2:=t1.world' hb λg' x hx=>by
    split at hx
    ·simp at hx
    ·rename_i dE
     exact aK x λe=>h.dj g' k dE x hx (e▸pC)
   have pO:∀x∈S',x∈F k:=λx hx=>by
    rcases m3 x hx with h|h
    ·exact h
    ·rcases r6 x h with h'|h'
     ·exact q3 x h'
     ·simp at h'
   have t3:=t2.setO (g:=k) m1 ⟨m2,λx hx=>nV.2 x (pO x hx)⟩ (λg' dE x hx=>by
    rw [if_neg dE];exact λhh=>h.dj g' k dE x hh (pO x hx))
   have iJ:(s.setO k .none).setO k ((s.o k).putOwn c (D.put p (lo*i.size) ds d0) (λq=>hdr (w.setCells gg (lo*i.size) us) q (D.put p (lo*i.size) ds d0) u))=s.setO k ((s.o k).putOwn c (D.put p (lo*i.size) ds d0) (λq=>hdr (w.setCells gg (lo*i.size) us) q (D.put p (lo*i.size) ds d0) u)):=by
    simp only [St.setO,St.mk.injEq,true_and]
    funext i;split<;>rfl
   rw [iJ] at t3
   exact OpOk.of_run aW (by
    rw [hpu];have lX:∀q,¬jsf p (lo*i.size) (n*i.size) q->hdr (w.setCells gg (lo*i.size) us) q (D.put p (lo*i.size) ds d0) u=η q:=λq hq=>by rw [q2];exact r7 q (by rw [fV];exact hq)
    refine ⟨_,_,t3,jAF hk lX λhf=>?_⟩
    simp only [aPG] at hf
    funext q
    by_cases hq:jsf p (lo*i.size) (n*i.size) q
    ·obtain ⟨j,r,rfl,rY,nS⟩:=hq
     obtain ⟨v1,gQ⟩:=jdx (j:=j-lo*i.size) hf.1 (by omega)
     obtain ⟨v2,n8⟩:=jdx (j:=j-lo*i.size) hf.2 (by simp only [D.cells,aOZ,aPN];omega)
     rw [q2];rw [jgH (w:=w.setCells gg (lo*i.size) us) (j:=j) (v:=v1) p (jdv p j3) (by rw [jkI _ _ _ _ (by omega) rY (by omega)];exact gQ)]
     refine (jgH (v:=v2) p j3 ?_).symm;rw [<-n8];simp only [D.cells];rw [aQY,if_pos (by omega),aQU]
     congr 1;omega
    ·exact lX q hq)
 ·exact hr.elim
end
