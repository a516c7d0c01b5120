/- Parts. -/
import Derived.Test.YtcehjhiglmifjaaGreatQE3b
import Derived.Lib.AppendStr
set_option linter.all false
namespace Go.Proofs.YtcehjhiglmifjaaGreat
open Go.RowKit Go.Sort
section
variable {P:Program} {B N:Nat} {w w0:World} {s:St} {a:Act} {F:Nat->List Nat} {o:Oper} {G:AV->List (Nat×Ob)->Prop} {d:Nat} {rt:RT}
theorem jzC {op:BinOp} {t:TypeId} {k k':IntKind} {m n:Int} (h:jxJ op k k' n):(binOp op t (.int k m) (.int k' n)).run P w=.ok (jfV op k m n) w:=by
 cases op with
 |shl=>have h:0<=n:=h;have h':¬n<0:=by omega
       simp [binOp,Op.shift,h',jfV]
 |shr=>have h:0<=n:=h;have h':¬n<0:=by omega
       simp [binOp,Op.shift,h',jfV]
 |quo=>obtain ⟨rfl,h⟩:=h
       simp [binOp,Op.intDiv,h,jfV]
 |rem=>obtain ⟨rfl,h⟩:=h
       simp [binOp,Op.intDiv,h,jfV]
 |_=>
  obtain rfl:k=k':=h;simp [binOp,Op.intArith,Op.intBits,Op.intCmp,jfV]
theorem go_bin (h:RelF B w0 N s a w F) {op:BinOp} {t t':TypeId} {x y:Operand} {x' y':X} (ho:o.op=.binOp op t x y t') (hx:jQ x=some x') (hy:jQ y=some y')
 (hg:∀st,∃av os,Gen P s d rt st (.bin op t x' y') av os/\G av os):Goes P o a w (kE B w G):=by
 obtain ⟨av,os,⟨h1,rfl⟩,hG⟩:=hg ⟨0,λ_ _=>undef⟩
 rcases h1 with ⟨u,v,r,h2,h3,h4,rfl⟩|⟨l,m,xs,ys,b,h2,h3,h4,h5,h6,rfl⟩
 ·have e1:=jiz h hx h2
  have e2:=jiz h hy h3;refine vY (v:=r) ?_ (by exact rfl) hG
  unfold jDm at h4;split at h4
  ·obtain ⟨h5,rfl⟩:=h4
   have hr:=λm=>jzC (P:=P) (w:=w) (t:=t) (m:=m) h5
   cases op<;>simp [execOp,ho,e1,e2,eqGuard,hr]
  ·split at h4
   ·obtain ⟨h5,rfl⟩:=h4
    unfold maxLen at h5;rename_i b1 b2 _;have h6:¬((9223372036854775807:Int)<(b1.size:Int)+(b2.size:Int)):=by omega
    simp [execOp,ho,e1,e2,eqGuard,binOp,Op.stringOp,IntKind.max,h6];simp [IntKind.signed,IntKind.bits];omega
   ·subst h4
    simp [execOp,ho,e1,e2,eqGuard,binOp,Op.stringOp]
   ·subst h4
    simp [execOp,ho,e1,e2,eqGuard,binOp,Op.stringOp]
   ·exact h4.elim
  ·exact h4.elim
 ·have gO:=qV h hx
  have s7:=qV h hy;rw [h2] at gO;rw [h3] at s7;obtain ⟨us,e1,k1⟩:=gO;obtain ⟨vs,e2,k2⟩:=s7
  have key:∀(l:List A0) (us xs:List Value),A0RelL B w l us->jcI l=some xs->us=xs:=by
   intro l
   induction l with
   |nil=>intro us xs k1 k2;simp [jcI] at k2;subst k2;exact k1
   |cons a0 l ih=>
    intro us xs k1 k2;obtain ⟨u,us',rfl,k3,k4⟩:=k1;cases a0 with
    |v x=>
     simp only [jcI] at k2;split at k2
     ·simp at k2;subst k2
      rw [show u=x from k3,ih us' _ k4 (by assumption)]
     ·simp at k2
    |_=>simp [jcI] at k2
  obtain rfl:=key l us xs k1 h4;obtain rfl:=key m vs ys k2 h5;obtain ⟨h7,h8⟩:=h6 w;refine vY (v:=.bool b) ?_ (by exact rfl) hG
  simp [execOp,ho,e1,e2,h7,h8]
theorem go_num (h:RelF B w0 N s a w F) {t t':TypeId} {x:Operand} {x':X} {k0 k:IntKind} {e:Nat} (ho:o.op=.convert t t' x) (ht:P.underlying t=some (.int k0)) (dK:P.underlying t'=some (.int k)) (hx:jQ x=some x')
 (hg:∀st,∃av os,Gen P s d rt st (.cv (.num k) e x') av os/\G av os):Goes P o a w (kE B w G):=by
 obtain ⟨av,os,⟨⟨k',n,h1,rfl⟩,rfl⟩,hG⟩:=hg ⟨0,λ_ _=>undef⟩
 refine vY (v:=.int k (k.wrap n)) ?_ (by exact rfl) hG
 simp [execOp,ho,convert,run_underlying ht,run_underlying dK,jiz h hx h1,Conv.intToInt]
theorem go_text (h:RelF B w0 N s a w F) {t t' e:TypeId} {x:Operand} {x':X} (ho:o.op=.convert t t' x) (ht:P.underlying t=some (.slice e)) (he:P.underlying e=some (.int .u8)) (dK:P.underlying t'=some .string) (hx:jQ x=some x')
 (hg:∀st,∃av os,Gen P s d rt st (.cv .text e x') av os/\G av os):Goes P o a w (kE B w G):=by
 obtain ⟨av,os,⟨⟨a0,ty,bs,h1,h2,rfl⟩,rfl⟩,hG⟩:=hg ⟨0,λ_ _=>undef⟩
 have hv:=qV h hx;rw [h1] at hv;obtain ⟨S,h3⟩:=jj5 h hv h2;obtain ⟨A,n,c,vs,S',hu,h4,h5,_,_,_,h6,h7⟩:=zW h3;simp only [aNT,aMZ] at h4;subst h4;refine vY (v:=.string ⟨bs.toArray⟩) ?_ (by exact rfl) hG
 have mH:vs=bs.map λb=>.int .u8 (b.toNat:Int):=by
  have key:∀(bs:List UInt8) (vs:List Value) (S:List Nat),RepL w false (bs.map vt) vs S->vs=bs.map λb=>.int .u8 (b.toNat:Int):=by
   intro bs
   induction bs with
   |nil=>intro vs S h;exact h.1
   |cons b bs ih=>
    intro vs S h;obtain ⟨v,vs',S1,S2,rfl,_,k1,k2⟩:=h;rw [aNQ,<-ih vs' S2 k2,show v=.int .u8 (b.toNat:Int) from k1.1]
  exact key bs vs S' h5
 have aS:(convert t t' (.slice A bs.length c)).run P w=.ok (.string ⟨bs.toArray⟩) w:=by
  cases A with
  |none=>
   have:=h6 rfl;subst this
   have hn:bs=[]:=by
    cases bs with
    |nil=>rfl
    |cons b bs=>
     obtain ⟨_,_,k1,_⟩:=h7 (by rw [mH];simp)
     cases k1
   subst hn;exact run_convert_bytes_nil w t e ht he _ _ t' dK
  |some ad=>
   by_cases aR:bs=[]
   ·subst aR
    rw [run_convert_bytes_string w t t' e _ _ _ ht he dK,run_bytesToString w _ _ _ [] (by simp [loadCells,loadCellsFrom])]
    simp;rfl
   ·obtain ⟨b,off,hA,_,h8⟩:=h7 (by rw [mH];simpa using aR)
    cases hA;rw [run_convert_bytes_string w t t' e _ _ _ ht he dK,run_bytesToString w _ _ _ (bs.map λb=>(b.toNat:Int)) ?_]
    ·rw [foldl_push_bytes]
     simp [ByteArray.empty,ByteArray.emptyWithCapacity];show []++_=_;rw [aON]
     conv=>rhs;rw [<-List.map_id bs]
     exact List.map_congr_left λb _=>by simp
    ·have:=run_loadCells_list (P:=P) w ⟨b,off,none⟩ vs (λj v hj=>by rw [jam];exact h8 j v hj)
     rw [mH] at this;simpa [Function.comp_def] using this
 simp only [execOp,ho,hu,Sem.run_bind,aS,Result.andThen];rfl
theorem jrp (k:Option (Nat×Nat)) (x:Value):Rep w true (jrq k x) x []:=by
 unfold jrq;split
 ·exact Rep.nil_ _ _ _
 ·exact ⟨rfl,rfl⟩
theorem jp8:∀(ks:List (Option (Nat×Nat))) (l:List Value),RepL w true (js5 ks l) l []
 |_,[]=>⟨rfl,rfl⟩
 |ks,x::l=>⟨x,l,[],[],rfl,rfl,jrp _ _,jp8 ks.tail l⟩
theorem go_mks (h:RelF B w0 N s a w F) {t e:TypeId} {l c:Operand} {l' c':X} {i:TypeInfo} {zs:List Value} {ks:List (Option (Nat×Nat))} (ho:o.op=.makeSlice t l c) (ht:P.underlying t=some (.slice e)) (hi:P.info? e=some i) (hz:vJ P e=some zs) (hs:0<i.size) (hl:jQ l=some l') (hc:jQ c=some c')
 (hg:∀st,∃av os,Gen P s d rt st (.mks e i.size i.bytes (js5 ks zs) l' c') av os/\G av os):Goes P o a w (kE B w G):=by
 obtain ⟨_,_,⟨k,k',n,h1,h2,h3,h4,_⟩,_⟩:=hg ⟨0,λ_ _=>undef⟩
 unfold vJ at hz;rw [hi] at hz;simp only at hz;split at hz
 ·rename_i z eJ
  split at hz
  ·rename_i nI
   simp only [aMY,aNC] at nI;simp at hz;subst hz;obtain ⟨w',hr,r1,r2⟩:=run_make_full (P:=P) w 0 t e i z i.size ht hi eJ rfl k k' n h3 h4 (aNE _);obtain ⟨av,os,⟨k2,k2',n2,dN,bI,_,_,rfl,rfl⟩,hG⟩:=hg ⟨0,λ_ p=>hdr w' p (.sl i.size e ((List.replicate n (js5 ks z.cells.toList)).flatten)) (.slice (some ⟨w.heap.size,0,none⟩) n n)⟩
   rw [h1] at dN
   have sB:n=n2:=by
    have:=dN;simp at this;omega
   subst sB
   have aS:(execOp a.eval o).run P w=.ok (.value (.slice (some ⟨w.heap.size,0,none⟩) n n)) w':=by
    simp [execOp,ho,jiz h hl h1,jiz h hc h2,hr]
   have bG:Rep w' true (.sl i.size e ((List.replicate n (js5 ks z.cells.toList)).flatten)) (.slice (some ⟨w.heap.size,0,none⟩) n n) [w.heap.size]:=by
    have h5:(madeCells z.cells (n*i.size)).toList=(List.replicate n z.cells.toList).flatten:=by
     apply aOR
     intro j;by_cases hj:j<n*i.size
     ·rw [zV (by simp [nI.1]) hs n j hj]
      simp [madeCells,hj,nI.1];rw [Array.getElem?_eq_getElem (by rw [nI.1];exact Nat.mod_lt _ hs)]
      simp only [Option.some.injEq];exact getElem!_pos _ _ _
     ·rw [aOH (by simp [madeCells];omega),aOH (by simp [nI.1];omega)]
    rw [h5] at r1
    have key:∀(n:Nat),RepL w' true (List.replicate n (js5 ks z.cells.toList)).flatten (List.replicate n z.cells.toList).flatten []:=by
     intro n
     induction n with
     |zero=>exact ⟨rfl,rfl⟩
     |succ n ih=>
      simp only [List.replicate_succ,aPL];have:=RepL.append_ (js5 ks z.cells.toList) (jp8 (w:=w') ks z.cells.toList) ih;simpa using this
    exact ⟨_,[w.heap.size],[],⟨n,r1,rfl⟩,key _,rfl⟩
   have hn:jcD B w' [(100*d,.loose (.sl i.size e ((List.replicate n (js5 ks z.cells.toList)).flatten)) (λp=>hdr w' p (.sl i.size e ((List.replicate n (js5 ks z.cells.toList)).flatten)) (.slice (some ⟨w.heap.size,0,none⟩) n n)))] [w.heap.size]:=
    ⟨[w.heap.size],[],rfl,⟨rfl,_,bG,λ_=>rfl⟩,rfl⟩
   exact mk_ aS (by exact ⟨rfl,rfl⟩) hn (Fresh.one _ _ (aMV _)) (jpm r2) hG
  ·simp at hz
 ·simp at hz
theorem A0RelL.drop_:∀{l:List A0} {us:List Value} (k:Nat),A0RelL B w l us->A0RelL B w (l.drop k) (us.drop k)
 |_,_,0,h=>h
 |[],_,_+1,h=>by rw [show _=_ from h];rfl
 |_::_,_,k+1,⟨_,us',h1,_,h3⟩=>by subst h1;exact A0RelL.drop_ k h3
theorem A0RelL.take_:∀{l:List A0} {us:List Value} (k:Nat),A0RelL B w l us->A0RelL B w (l.take k) (us.take k)
 |_,_,0,_=>rfl
 |[],_,_+1,h=>by rw [show _=_ from h];rfl
 |_::_,_,k+1,⟨u,us',h1,h2,h3⟩=>by subst h1;exact ⟨u,us'.take k,rfl,h2,A0RelL.take_ k h3⟩
theorem go_fld (h:RelF B w0 N s a w F) {t:TypeId} {x:Operand} {x':X} {f n:Nat} {agg:Bool} {fs:Array Field} {fd:Field} {dsc:TypeDesc} (ho:o.op=.field t x f) (ht:P.underlying t=some (.struct fs)) (hf:fs[f]?=some fd) (hu:P.underlying fd.type=some dsc) (gN:agg=jA1 dsc) (hn:qi P fd.type=some n) (hx:jQ x=some x')
 (hg:∀st,∃av os,Gen P s d rt st (.fld agg fd.offset n x') av os/\G av os):Goes P o a w (kE B w G):=by
 obtain ⟨av,os,⟨l,h1,h2,h3,rfl⟩,hG⟩:=hg ⟨0,λ_ _=>undef⟩
 have hv:=qV h hx;rw [h1] at hv;obtain ⟨us,he,hr⟩:=hv;obtain ⟨i,hi,dC⟩:=jjC hn;have hl:=A0RelL.len hr;have hp:A0RelL B w ((l.drop fd.offset).take n) ((us.drop fd.offset).take n):=(hr.drop_ _).take_ _;cases agg with
 |true=>
  obtain rfl:av=.agg ((l.drop fd.offset).take n):=by simpa using h3
  have eS:(isAgg fd.type).run P w=.ok true w:=by
   simp only [isAgg,Sem.run_bind,run_underlying hu];cases dsc<;>first|rfl|cases gN
  refine vY (v:=.agg ((us.drop fd.offset).take n).toArray) ?_ (by exact ⟨_,rfl,hp⟩) hG
  simp [execOp,ho,Instr.field,run_underlying ht,hf,he,asAgg,part,eS,sizeOf,typeInfo,hi,dC,List.extract_eq_take_drop]
 |false=>
  obtain ⟨a0,e0,rfl⟩:∃a0,(l.drop fd.offset).take n=[a0]/\av=.c a0:=by simpa using h3
  rw [e0] at hp;obtain ⟨u,us',k0,k1,k2⟩:=hp
  have eS:(isAgg fd.type).run P w=.ok false w:=by
   simp only [isAgg,Sem.run_bind,run_underlying hu];cases dsc<;>first|rfl|cases gN
  have eD:us[fd.offset]?=some u:=by
   have e1:((us.drop fd.offset).take n)[0]?=some u:=by rw [k0];rfl
   have mM:0<n:=by
    rcases Nat.eq_zero_or_pos n with h0|h0
    ·subst h0;simp at e0
    ·exact h0
   rw [aOG,if_pos mM,aOF,aMX] at e1;exact e1
  refine vY (v:=u) ?_ (by exact k1) hG
  simp [execOp,ho,Instr.field,run_underlying ht,hf,he,asAgg,part,eS,eD]
theorem go_ext (h:RelF B w0 N s a w F) {x:Operand} {x':X} {i:Nat} (ho:o.op=.extract x i) (hx:jQ x=some x') (hg:∀st,∃av os,Gen P s d rt st (.ext x' i) av os/\G av os):Goes P o a w (kE B w G):=by
 obtain ⟨av,os,⟨l,b,az,h1,h2,h3,rfl⟩,hG⟩:=hg ⟨0,λ_ _=>undef⟩
 have hv:=qV h hx;rw [h1] at hv;obtain ⟨us,he,hr⟩:=hv
 have key:∀(l:List (Bool×List A0)) (us:List Value) (i:Nat),TRelL B w l us->l[i]?=some (b,az)->∃u xs,us[i]?=some u/\A0RelL B w az xs/\(if b then u=.agg xs.toArray else xs=[u]):=by
  intro l
  induction l with
  |nil=>intro _ _ _ h;simp at h
  |cons x l ih=>
   intro us i hr hi;obtain ⟨b',as'⟩:=x;obtain ⟨u,us',xs,rfl,k1,k2,k3⟩:=hr;cases i with
   |zero=>simp at hi;obtain ⟨rfl,rfl⟩:=hi;exact ⟨u,xs,rfl,k1,k2⟩
   |succ i=>exact ih us' i k3 (by simpa using hi)
 obtain ⟨u,xs,k1,k2,k3⟩:=key l us i hr h2;refine vY (v:=u) (by simp [execOp,ho,he,Instr.extract,k1]) ?_ hG
 cases b with
 |true=>
  obtain rfl:av=.agg az:=by simpa using h3
  exact ⟨xs,by simpa using k3,k2⟩
 |false=>
  obtain ⟨a0,rfl,rfl⟩:∃a0,az=[a0]/\av=.c a0:=by simpa using h3
  obtain rfl:xs=[u]:=by simpa using k3
  obtain ⟨u',us',k4,k5,_⟩:=k2;cases k4;exact k5
theorem go_mkf (h:RelF B w0 N s a w F) {f:Nat} {first caps:Array Operand} {l:List X} (ho:o.op=.makeFunc (.func f) first caps) (hf:first=#[]) (hc:zD caps.toList=some l) (hg:∀st,∃av os,Gen P s d rt st (.mkf f l) av os/\G av os):Goes P o a w (kE B w G):=by
 obtain ⟨av,os,⟨az,h1,rfl,rfl⟩,hG⟩:=hg ⟨0,λ_ _=>undef⟩
 have key:∀(cs:List Operand) (l:List X) (az:List A0),zD cs=some l->jcn s l=some az->A0RelL B w az (cs.map a.eval):=by
  intro cs
  induction cs with
  |nil=>intro l az k1 k2;simp [zD] at k1;subst k1;simp [jcn] at k2;subst k2;rfl
  |cons c cs ih=>
   intro l az k1 k2;simp only [zD] at k1;split at k1
   ·rename_i c' l' k3 k4
    simp at k1;subst k1;simp only [jcn] at k2;split at k2
    ·rename_i a0 r k5 k6
     simp at k2;subst k2;have:=qV h k3;rw [k5] at this;exact ⟨a.eval c,_,rfl,this,ih l' r k4 k6⟩
    ·simp at k2
   ·simp at k1
 refine vY (v:=.func (.func f) #[] (caps.map a.eval)) (by simp [execOp,ho,hf,Instr.makeFunc]) ?_ hG
 exact ⟨caps.toList.map a.eval,by rw [<-Array.toList_map,Array.toArray_toList],key _ _ _ hc h1⟩
end
section
variable {P:Program} {B N:Nat} {w w0:World} {s:St} {a:Act} {F:Nat->List Nat} {o:Oper} {G:AV->List (Nat×Ob)->Prop} {d:Nat} {rt:RT}
theorem jbD {isSl:Bool} {len cap l h:Nat} {lo hi:Option Value} (hl:(lo=none/\l=0)\/∃k,lo=some (.int k (l:Int))) (hh:(hi=none/\h=len)\/∃k,hi=some (.int k (h:Int))) (h1:l<=h) (h2:h<=cap):
 (Instr.sliceBounds isSl len cap lo hi none).run P w=.ok (l,h,cap) w:=by
 have e1:(l:Int)<=(h:Int):=by omega
 have e2:(h:Int)<=(cap:Int):=by omega
 rcases hl with ⟨rfl,rfl⟩|⟨k,rfl⟩<;>rcases hh with ⟨rfl,rfl⟩|⟨k',rfl⟩<;>simp [Instr.sliceBounds,Instr.sliceBound,asIntOf,h1,h2]
theorem vU (h:RelF B w0 N s a w F) {x:Option Operand} {x':Option X} {dflt n:Nat} (hx:(x=none/\x'=none)\/∃y y',x=some y/\x'=some y'/\jQ y=some y') (hb:jgZ s x' dflt n):
 (x.map a.eval=none/\n=dflt)\/∃k,x.map a.eval=some (.int k (n:Int)):=by
 rcases hx with ⟨rfl,rfl⟩|⟨y,y',rfl,rfl,h1⟩
 ·exact .inl ⟨rfl,hb⟩
 ·obtain ⟨k,h2⟩:=hb
  exact .inr ⟨k,by simp [jiz h h1 h2]⟩
theorem go_sl_str (h:RelF B w0 N s a w F) {t:TypeId} {x:Operand} {x':X} {lo hi:Option Operand} {lo' nE:Option X} (ho:o.op=.slice t x lo hi none) (ht:P.underlying t=some .string) (hx:jQ x=some x')
 (sF:(lo=none/\lo'=none)\/∃y y',lo=some y/\lo'=some y'/\jQ y=some y') (oV:(hi=none/\nE=none)\/∃y y',hi=some y/\nE=some y'/\jQ y=some y')
 (hg:∀st,∃av os,Gen P s d rt st (.sl 0 x' lo' nE) av os/\G av os):Goes P o a w (kE B w G):=by
 obtain ⟨av,os,⟨l,hh,h1,h2,h3,rfl⟩,hG⟩:=hg ⟨0,λ_ _=>undef⟩
 split at h3
 ·rename_i b he
  obtain ⟨_,h4,h5,rfl⟩:=h3;have hb:=jbD (P:=P) (w:=w) (isSl:=false) (vU h sF h1) (vU h oV h4) h2 h5;refine vY (v:=.string (b.extract l hh)) ?_ (by exact rfl) hG
  simp [execOp,ho,Instr.sliceAt,run_underlying ht,Instr.slice,jiz h hx he,hb]
 ·rename_i dd he
  exact absurd h3.1 (by omega)
 ·rename_i dd he
  exact absurd h3.1 (by omega)
 ·obtain ⟨⟨_,_,_,_,_,_,_,_,_,h6,_⟩,h7,_⟩:=h3
  omega
 ·exact h3.elim
theorem go_sl_ro (h:RelF B w0 N s a w F) {t e:TypeId} {x:Operand} {x':X} {lo hi:Option Operand} {lo' nE:Option X} {m:Nat} (ho:o.op=.slice t x lo hi none) (ht:P.underlying t=some (.slice e)) (hm:qi P e=some (m+1)) (hx:jQ x=some x')
 (sF:(lo=none/\lo'=none)\/∃y y',lo=some y/\lo'=some y'/\jQ y=some y') (oV:(hi=none/\nE=none)\/∃y y',hi=some y/\nE=some y'/\jQ y=some y')
 (hg:∀st,∃av os,Gen P s d rt st (.sl (m+1) x' lo' nE) av os/\G av os):Goes P o a w (kE B w G):=by
 obtain ⟨av,os,⟨l,hh,h1,h2,h3,rfl⟩,hG⟩:=hg ⟨0,λ_ _=>undef⟩
 have hv:=qV h hx;obtain ⟨inf,fA,cR⟩:=jjC hm;split at h3
 ·rename_i b he
  exact absurd h3.1 (by omega)
 ·rename_i dd he
  obtain ⟨_,k1,k2,h4,h5,rfl⟩:=h3;rw [he] at hv;obtain ⟨_,S,k3,k4⟩:=hv;cases dd with
  |val _=>cases k1
  |sl size ty cs=>
   have k2':size=m+1:=k2;subst k2';obtain ⟨A,n,c,vs,S',hu,k5,_,_,k6,_⟩:=zW k3;have aD:=jic (ty:=ty) (by omega:0<m+1) k5
   rw [aD] at h4 h5;rw [hu] at k3;obtain ⟨S2,k7,k8⟩:=juP (by omega) k3 k4 h2 h5
   have hb:=jbD (P:=P) (w:=w) (isSl:=true) (len:=n) (cap:=c) (vU h sF h1) (vU h oV h4) h2 (by omega)
   refine vY (v:=.slice (if c=l then A else A.map (·.add (l*(m+1)))) (hh-l) (c-l)) ?_ (by exact ⟨rfl,S2,k7,k8⟩) hG
   simp [execOp,ho,Instr.sliceAt,run_underlying ht,Instr.slice,hu,hb,sizeOf,typeInfo,fA,cR]
 ·rename_i g c p bQ he
  obtain ⟨_,⟨dd,⟨d0,η,k1,k2,k3,k4⟩,k5,h4,h5⟩,rfl⟩:=h3;rw [he] at hv;have hv:a.eval x=bQ:=hv.1;obtain ⟨S,k6,_⟩:=zt h k1 k2 k3 k4;cases dd with
  |val _=>cases k4
  |sl size ty cs=>
   have k5':size=m+1:=k5;subst k5';obtain ⟨A,n,c,vs,S',hu,k7,_⟩:=zW k6.ro;have aD:=jic (ty:=ty) (by omega:0<m+1) k7
   rw [aD] at h4 h5;obtain ⟨A2,n2,c2,_,_,wL,_,_,_,mL,_⟩:=zW k6.ro;rw [hu] at wL;cases wL;have hb:=jbD (P:=P) (w:=w) (isSl:=true) (len:=n) (cap:=c) (vU h sF h1) (vU h oV h4) h2 (by omega)
   refine vY (v:=jjb bQ (m+1) l (hh-l)) ?_ (by exact ⟨.inl rfl,by rw [hu];rfl⟩) hG
   simp [execOp,ho,Instr.sliceAt,run_underlying ht,Instr.slice,hv,hu,hb,sizeOf,typeInfo,fA,cR,jjb]
 ·rename_i g c p bQ sz lo m' he
  obtain ⟨⟨dd,d0,η,d1,k1,k2,k3,k4,k5,k6,k7,rfl⟩,rfl,h4,h5,rfl⟩:=h3;rw [he] at hv;have hv:a.eval x=jjb bQ (m+1) lo m'\/0<lo/\m'=0/\∃A,a.eval x=.slice A 0 0:=hv.1;rcases hv with hv|⟨aIE,rfl,A,hv⟩;rotate_left
  ·have hb:=jbD (P:=P) (w:=w) (isSl:=true) (len:=0) (cap:=0) (vU h sF h1) (vU h oV h4) h2 (by omega)
   obtain rfl:hh=0:=by omega
   obtain rfl:l=0:=by omega
   refine vY (v:=.slice A 0 0) ?_ (by exact ⟨.inr ⟨by omega,rfl,A,rfl⟩,rfl⟩) hG
   simp [execOp,ho,Instr.sliceAt,run_underlying ht,Instr.slice,hv,hb,sizeOf,typeInfo,fA,cR]
  obtain ⟨S,k8,_⟩:=zt h k1 k2 k3 k4;cases d1 with
  |val _=>cases k4
  |sl size ty cs=>
   have k5':size=m+1:=k5;subst k5';obtain ⟨A,n,c,vs,S',hu,k9,_,_,mL,_⟩:=zW k8.ro;have aD:=jic (ty:=ty) (by omega:0<m+1) k9
   rw [aD] at k7;rw [hu] at hv;simp only [jjb] at hv;have hb:=jbD (P:=P) (w:=w) (isSl:=true) (len:=m') (cap:=c-lo) (vU h sF h1) (vU h oV h4) h2 (by omega)
   refine vY (v:=.slice (if c-lo=l then (if c=lo then A else A.map (·.add (lo*(m+1)))) else (if c=lo then A else A.map (·.add (lo*(m+1)))).map (·.add (l*(m+1)))) (hh-l) (c-lo-l)) ?_ (by
    refine ⟨?_,rfl⟩;rw [hu];simp only [jjb];by_cases dG:c-lo=l
    ·rw [if_pos dG]
     obtain rfl:hh=l:=by omega
     by_cases hz:lo+hh=0
     ·obtain rfl:lo=0:=by omega
      obtain rfl:hh=0:=by omega
      obtain rfl:c=0:=by omega
      left;simp
     ·right
      refine ⟨by omega,by omega,_,by rw [show hh-hh=0 by omega,show c-lo-hh=0 by omega]⟩
    ·left
     have h8:c≠lo:=by omega
     have h9:¬c=lo+l:=by omega
     rw [if_neg dG,if_neg h8,if_neg h9];rw [Nat.sub_sub]
     congr 1
     cases A with
     |none=>rfl
     |some ad=>simp [Addr.add_add,aPP]) hG
   simp [execOp,ho,Instr.sliceAt,run_underlying ht,Instr.slice,hv,hb,sizeOf,typeInfo,fA,cR]
 ·exact h3.elim
theorem jnW {α:Type}:∀(l:List α) (cs:List α) (k:Nat),(kI cs k l).length=cs.length
 |[],_,_=>rfl
 |x::l,cs,k=>by rw [kI,jnW l];simp
theorem A0RelL.set:∀{l:List A0} {us:List Value} {k:Nat} {a0:A0} {u:Value},A0RelL B w l us->A0Rel B w a0 u->A0RelL B w (l.set k a0) (us.set k u)
 |[],us,_,_,_,h,_=>by rw [show us=[] from h];rfl
 |_::_,_,0,_,u,⟨u',us',h1,h2,h3⟩,hu=>by subst h1;exact ⟨u,us',rfl,hu,h3⟩
 |_::_,_,k+1,_,_,⟨u',us',h1,h2,h3⟩,hu=>by subst h1;exact ⟨u',_,rfl,h2,A0RelL.set h3 hu⟩
theorem A0RelL.setAt_:∀{m:List A0} {xs:List Value} {l:List A0} {us:List Value} {k:Nat},A0RelL B w l us->A0RelL B w m xs->A0RelL B w (kI l k m) (kI us k xs)
 |[],xs,_,_,_,h,hm=>by rw [show xs=[] from hm];exact h
 |_::_,_,_,_,k,h,⟨u',us',h1,h2,h3⟩=>by subst h1;have:=A0RelL.setAt_ (k:=k+1) (h.set (k:=k) h2) h3;exact this
theorem jhm (off:Nat):∀(xs:List Value) (k:Nat) (us:List Value),(xs.zipIdx k).foldl (λcs (p:Value×Nat)=>cs.setIfInBounds (off+p.2) p.1) us.toArray=(kI us (off+k) xs).toArray
 |[],_,_=>rfl
 |x::xs,k,us=>by
  rw [List.zipIdx_cons,aPC,kI];have:us.toArray.setIfInBounds (off+k) x=(us.set (off+k) x).toArray:=by simp
  simp only [this];rw [jhm off xs (k+1) _];rfl
theorem jrJ (h:RelF B w0 N s a w F) {place:Nat->Option (Nat×Nat)}:∀{parts:List (Nat×Operand)} {ps:List (Nat×Nat×X)} {l l':List A0} {us:List Value},jc6 place parts=some ps->A0RelL B w l us->jiy s l ps=some l'->
 ∃us':List Value,Instr.fill place us.toArray (parts.map λp=>(p.1,a.eval p.2))=some us'.toArray/\A0RelL B w l' us'
 |[],ps,l,l',us,h1,h2,h3=>by
  simp [jc6] at h1;subst h1;simp [jiy] at h3;subst h3;exact ⟨us,rfl,h2⟩
 |(i,x)::parts,ps,l,l',us,h1,h2,h3=>by
  simp only [jc6] at h1;split at h1
  ·rename_i off n x' ps' k1 k2 k3
   simp at h1;subst h1;simp only [jiy] at h3;split at h3
   ·rename_i m k4
    split at h3
    ·rename_i k5
     obtain ⟨xs,k6,k7⟩:=VRel.cells (qV h k2) k4;obtain ⟨us',k8,k9⟩:=jrJ h k3 (h2.setAt_ k7 (k:=off)) h3;refine ⟨us',?_,k9⟩;have f8:=A0RelL.len k7;have n6:=A0RelL.len h2;have e1:¬(xs.length≠n\/us.length<off+xs.length):=by omega
     have e2:=jhm off xs 0 us;simp only [aMX] at e2;simp only [aNQ,Instr.fill,k1,k6];rw [if_neg (by simpa using e1)]
     rw [<-Array.foldl_toList,Array.toList_zipIdx];rw [show (xs.toArray.toList.zipIdx 0)=xs.zipIdx 0 from rfl,e2]
     exact k8
    ·simp at h3
   ·simp at h3
  ·simp at h1
theorem go_bld (h:RelF B w0 N s a w F) {t:TypeId} {parts:Array (Nat×Operand)} {fs:Array Field} {zs:List Value} {ps:List (Nat×Nat×X)} (ho:o.op=.build t parts) (ht:P.underlying t=some (.struct fs)) (hz:vJ P t=some zs)
 (cK:(fs.toList.all λf=>(P.info? f.type).isSome)=true) (rZ:jc6 (λi=>match fs[i]? with|some f=>(qi P f.type).map λn=>(f.offset,n)|none=>none) parts.toList=some ps)
 (hg:∀st,∃av os,Gen P s d rt st (.bld zs ps) av os/\G av os):Goes P o a w (kE B w G):=by
 obtain ⟨av,os,⟨l,h1,rfl,rfl⟩,hG⟩:=hg ⟨0,λ_ _=>undef⟩
 unfold vJ at hz;split at hz
 ·rename_i i hi
  split at hz
  ·rename_i z eJ
   split at hz
   ·simp at hz;subst hz
    have hzr:∀l:List Value,A0RelL B w (l.map .v) l:=by
     intro l
     induction l with
     |nil=>rfl
     |cons x l ih=>exact ⟨x,l,rfl,rfl,ih⟩
    have iW:∀l:List Field,(l.all λf=>(P.info? f.type).isSome)=true->l.mapM (λf=>(P.info? f.type).map λi=>(f.offset,i.size))=some (l.map λf=>(f.offset,(qi P f.type).getD 0)):=by
     intro l
     induction l with
     |nil=>intro _;rfl
     |cons f l ih=>
      intro hl;simp only [List.all_cons,aMY] at hl;obtain ⟨j,hj⟩:=Option.isSome_iff_exists.1 hl.1;rw [List.mapM_cons,ih hl.2];simp [hj,qi]
    have tJ:(λ(i:Nat)=>match fs[i]? with|some f=>(qi P f.type).map λn=>(f.offset,n)|none=>none)=λi=>((fs.toList.map λ(f:Field)=>(f.offset,(qi P f.type).getD 0)).toArray[i]?):=by
     funext j
     cases hj:fs[j]? with
     |none=>simp [hj]
     |some f=>
      have hm:f∈fs.toList:=by simpa using Array.mem_of_getElem? hj
      obtain ⟨k,hk⟩:=Option.isSome_iff_exists.1 (List.all_eq_true.1 cK f hm);simp [hj,qi,hk]
    obtain ⟨us',k1,k2⟩:=jrJ h rZ (hzr z.cells.toList) h1;refine vY (v:=.agg us'.toArray) ?_ (by exact ⟨us',rfl,k2⟩) hG
    have hb:P.built t (parts.map λ(p:Nat×Operand)=>(p.1,a.eval p.2)).toList=some us'.toArray:=by
     unfold Program.built;simp only [hi,ht,eJ,iW _ cK];rw [<-tJ,Array.toList_map];simpa using k1
    have:=run_build w t _ _ hb;simp only [execOp,ho];rw [Sem.run_bind,this];rfl
   ·simp at hz
  ·simp at hz
 ·simp at hz
end
section
variable {P:Program} {B N:Nat} {w w0:World} {s:St} {a:Act} {F:Nat->List Nat} {o:Oper} {G:AV->List (Nat×Ob)->Prop} {d:Nat} {rt:RT}
theorem jvv (h:RelF B w0 N s a w F):∀{l:List A0} {us:List Value} {ds:List D},A0RelL B w l us->IsL s l ds->∃S,RepL w false ds us S
 |[],us,[],h1,_=>⟨[],h1,rfl⟩
 |[],_,_::_,_,h2=>h2.elim
 |_::_,_,[],_,h2=>h2.elim
 |_::_,_,_::_,⟨u,us',h1,h3,h4⟩,⟨h5,h6⟩=>by
  subst h1;obtain ⟨S1,k1⟩:=jj5 h h3 h5;obtain ⟨S2,k2⟩:=jvv h h4 h6;exact ⟨S1++S2,RepL.cons_ k1 k2⟩
theorem IsP.is {x:A0} {d:D} (h:IsP x d):Is s x d:=by cases x<;>first|exact h|exact h.elim
theorem jkG (h:RelF B w0 N s a w F) {g b:Nat}:∀{l:List Cell} {us:List Value} {S:List Nat} {c:Nat} {ds:List D},CRel B w l us S->Ptr.go s g b l c ds->∃S',RepL w false ds us S'
 |[],us,_,_,[],⟨h1,_⟩,_=>⟨[],h1,rfl⟩
 |[],_,_,_,_::_,_,h2=>h2.elim
 |.a _::_,_,_,_,[],_,h2=>h2.elim
 |.own _ _::_,_,_,_,[],_,h2=>h2.elim
 |.a x::l,_,_,c,d::ds,⟨u,us',h1,h3,h4⟩,⟨h5,h6⟩=>by
  subst h1;obtain ⟨S1,k1⟩:=jj5 h h3 h5.is;obtain ⟨S2,k2⟩:=jkG h h4 h6;exact ⟨S1++S2,RepL.cons_ k1 k2⟩
 |.own d' η::l,_,_,c,d::ds,⟨u,us',S1,S2,h1,h3,h4,h5,_,h6⟩,⟨h7,h8⟩=>by
  subst h1 h7;obtain ⟨S3,k2⟩:=jkG h h6 h8;exact ⟨S1++S3,RepL.cons_ h5.ro k2⟩
theorem juX (h:RelF B w0 N s a w F) {x:A0} {u:Value} {ds:List D} (hr:A0Rel B w x u) (hp:Ptr s x ds):ViewRel.CellsAt w ds u:=by
 cases x with
 |rp ds'=>
  have hp:ds'=ds:=hp;subst hp;obtain ⟨b,o',us,S,h1,h2,_,_,h5⟩:=hr;exact ⟨b,o',us,S,h1,h2,h5⟩
 |bp g c b=>
  obtain ⟨ty,cs,h1,l,h2,h3⟩:=hp;have bL:=h.ob g;rw [h1] at bL;obtain ⟨us,S1,k1,k2,_⟩:=bL;obtain ⟨S2,k3,_⟩:=CRel.drop c k2;obtain ⟨S3,k4,_⟩:=CRel.take ds.length k3;rw [h2] at k4;obtain ⟨S4,k5⟩:=jkG h k4 h3;refine ⟨b,c,_,S4,hr,k5,λj y hy=>?_⟩
  rw [aOG] at hy;split at hy
  ·rw [aOF] at hy
   simp [World.cell?,k1,hy]
  ·simp at hy
 |_=>exact hp.elim
theorem jwy (h:RelF B w0 N s a w F):∀{v:AV} {u:Value} {vw:View},VRel B w v u->jlo s v vw->ViewRel w vw u
 |.c x,u,.c dd,hv,hi=>jj5 h hv hi
 |.agg l,u,.agg ds,⟨us,h1,h2⟩,hi=>by
  obtain ⟨S,k⟩:=jvv h h2 hi;exact ⟨S,us,h1,k⟩
 |.c x,u,.ptr ds,hv,hi=>juX h hv hi
 |.fn f caps,u,.fn f' caps',⟨us,h1,h2⟩,⟨h3,h4⟩=>by
  subst h3;refine ⟨us,h1,?_⟩
  have key:∀(caps:List A0) (us:List Value) (caps':List (List D)),A0RelL B w caps us->jyv s caps caps'->ViewRel.All2 w caps' us:=by
   intro caps
   induction caps with
   |nil=>intro us caps' k1 k2;cases caps' with|nil=>exact k1|cons _ _=>exact k2.elim
   |cons x l ih=>
    intro us caps' k1 k2;obtain ⟨u,us',rfl,k3,k4⟩:=k1;cases caps' with
    |nil=>exact k2.elim
    |cons ds l'=>exact ⟨u,us',rfl,juX h k3 k2.1,ih us' l' k4 k2.2⟩
  exact key _ _ _ h2 h4
 |.c _,_,.agg _,_,hi=>hi.elim
 |.c _,_,.fn _ _,_,hi=>hi.elim
 |.agg _,_,.c _,_,hi=>hi.elim
 |.agg _,_,.ptr _,_,hi=>hi.elim
 |.agg _,_,.fn _ _,_,hi=>hi.elim
 |.fn _ _,_,.c _,_,hi=>hi.elim
 |.fn _ _,_,.agg _,_,hi=>hi.elim
 |.fn _ _,_,.ptr _,_,hi=>hi.elim
 |.tup _,_,.c _,_,hi=>hi.elim
 |.tup _,_,.agg _,_,hi=>hi.elim
 |.tup _,_,.ptr _,_,hi=>hi.elim
 |.tup _,_,.fn _ _,_,hi=>hi.elim
 |.unk,_,.c _,_,hi=>hi.elim
 |.unk,_,.agg _,_,hi=>hi.elim
 |.unk,_,.ptr _,_,hi=>hi.elim
 |.unk,_,.fn _ _,_,hi=>hi.elim
theorem jnC (h:RelF B w0 N s a w F):∀{args:List Operand} {xs:List X} {caps:List A0} {cs:List Value} {vs:List View},zD args=some xs->A0RelL B w caps cs->zS s (xs.map s.ev++caps.map .c) vs->jaa w vs (args.map a.eval++cs)
 |[],xs,caps,cs,vs,h1,h2,h3=>by
  simp [zD] at h1;subst h1
  have key:∀(caps:List A0) (cs:List Value) (vs:List View),A0RelL B w caps cs->zS s (caps.map .c) vs->jaa w vs cs:=by
   intro caps
   induction caps with
   |nil=>intro cs vs k1 k2;cases vs with|nil=>exact k1|cons _ _=>exact k2.elim
   |cons x l ih=>
    intro cs vs k1 k2;obtain ⟨u,us',rfl,k3,k4⟩:=k1;cases vs with
    |nil=>exact k2.elim
    |cons v l'=>exact ⟨u,us',rfl,jwy (v:=.c x) h k3 k2.1,ih us' l' k4 k2.2⟩
  exact key caps cs vs h2 (by simpa using h3)
 |x::args,xs,caps,cs,vs,h1,h2,h3=>by
  simp only [zD] at h1;split at h1
  ·rename_i x' xs' k1 k2
   simp at h1;subst h1;cases vs with
   |nil=>exact h3.elim
   |cons v vs=>exact ⟨a.eval x,_,rfl,jwy h (qV h k1) h3.1,jnC h k2 h2 h3.2⟩
  ·simp at h1
theorem juM {w':World}:∀{rt:RT} {v:Value} {S:List Nat} (g:Nat),jkN w' rt v S->∃η:Nat->jm,VRel B w' (rt.av g η) v/\jcD B w' (jkP g η 0 rt.flat) S:=by
 have key:∀(ds:List D) (us:List Value) (S:List Nat) (g j:Nat),RepL w' true ds us S->∃η:Nat->jm,(∀aH,(∀i,i<ds.length->aH (j+i)=η i)->A0RelL B w' (jB9 g aH j ds) us/\jcD B w' (jkP g aH j ds) S):=by
  intro ds
  induction ds with
  |nil=>intro us S g j h;obtain ⟨rfl,rfl⟩:=h;exact ⟨λ_ _=>undef,λaH _=>⟨rfl,rfl⟩⟩
  |cons d ds ih=>
   intro us S g j h;obtain ⟨v,vs',S1,S2,rfl,rfl,h3,h4⟩:=h;obtain ⟨η,h5⟩:=ih vs' S2 g (j+1) h4;refine ⟨λi=>match i with|0=>λp=>hdr w' p d v|i+1=>η i,λaH hη=>?_⟩
   have h0:=hη 0 (by simp)
   obtain ⟨h6,h7⟩:=h5 aH λi hi=>by
    have:=hη (i+1) (by simp;omega)
    rw [show j+1+i=j+(i+1) by omega]
    exact this
   cases d with
   |val u=>
    obtain ⟨rfl,rfl⟩:=h3;exact ⟨⟨_,_,rfl,rfl,h6⟩,by simpa [jkP,D.obj] using h7⟩
   |sl size ty cs=>
    simp only [aMX] at h0;refine ⟨⟨v,vs',rfl,?_,h6⟩,S1,S2,rfl,⟨rfl,v,h3,λp=>by rw [h0]⟩,h7⟩
    obtain ⟨_,_,_,rfl⟩:=zq h3;show _/\_;rw [h0];exact ⟨rfl,rfl⟩
 intro rt v S g hr;cases rt with
 |c d=>
  obtain ⟨η,h1⟩:=key [d] [v] S g 0 ⟨v,[],S,[],rfl,by simp,hr,rfl,rfl⟩
  obtain ⟨⟨u,us',h2,h3,_⟩,h4⟩:=h1 η λi _=>by rw [aOK]
  cases h2;exact ⟨η,h3,h4⟩
 |agg ds=>
  obtain ⟨us,rfl,hr⟩:=hr;obtain ⟨η,h1⟩:=key ds us S g 0 hr;obtain ⟨h2,h3⟩:=h1 η λi _=>by rw [aOK]
  exact ⟨η,⟨us,rfl,h2⟩,h3⟩
 |tup l=>
  obtain ⟨xs,rfl,hr⟩:=hr
  have key2:∀(l:List (Bool×List D)) (xs:List Value) (S:List Nat) (j:Nat),jsc w' l xs S->∃η:Nat->jm,∀aH,(∀i,i<(l.flatMap (·.2)).length->aH (j+i)=η i)->TRelL B w' (jDo g aH j l) xs/\jcD B w' (jkP g aH j (l.flatMap (·.2))) S:=by
   intro l
   induction l with
   |nil=>intro xs S j h;obtain ⟨rfl,rfl⟩:=h;exact ⟨λ_ _=>undef,λaH _=>⟨rfl,rfl⟩⟩
   |cons p l ih=>
    intro xs S j h;obtain ⟨b,ds⟩:=p;obtain ⟨x,xs',us,S1,S2,rfl,rfl,h1,h2,h3⟩:=h;obtain ⟨dB,h4⟩:=key ds us S1 g j h1;obtain ⟨aV,h5⟩:=ih xs' S2 (j+ds.length) h3;refine ⟨λi=>if i<ds.length then dB i else aV (i-ds.length),λaH hη=>?_⟩
    obtain ⟨h6,h7⟩:=h4 aH λi hi=>by
     rw [hη i (by simp;omega)];simp [hi]
    obtain ⟨h8,h9⟩:=h5 aH λi hi=>by
     have:=hη (ds.length+i) (by simp at hi⊢;omega)
     rw [aPT,this];show (if ds.length+i<ds.length then dB (ds.length+i) else aV (ds.length+i-ds.length))=_
     rw [if_neg (by omega),aNR]
    refine ⟨⟨x,xs',us,rfl,h6,h2,h8⟩,?_⟩
    have t8:∀(ds es:List D) (j:Nat),jkP g aH j (ds++es)=jkP g aH j ds++jkP g aH (j+ds.length) es:=by
     intro ds
     induction ds with
     |nil=>intro es j;simp [jkP]
     |cons d ds ih=>intro es j;simp only [aOS,jkP,ih,aNA,aNG];rw [show j+1+ds.length=j+(ds.length+1) by omega]
    have cA:∀(l m:List (Nat×Ob)) (S1 S2:List Nat),jcD B w' l S1->jcD B w' m S2->jcD B w' (l++m) (S1++S2):=by
     intro l
     induction l with
     |nil=>intro m S1 S2 k1 k2;rw [show S1=[] from k1];exact k2
     |cons q l ih=>intro m S1 S2 k1 k2;obtain ⟨T1,T2,rfl,k3,k4⟩:=k1;exact ⟨T1,T2++S2,by simp,k3,ih m T2 S2 k4 k2⟩
    simp only [aNL,t8];exact cA _ _ _ _ h7 h9
  obtain ⟨η,h1⟩:=key2 l xs S 0 hr;obtain ⟨h2,h3⟩:=h1 η λi _=>by rw [aOK]
  exact ⟨η,⟨xs,rfl,h2⟩,h3⟩
theorem jph (h:RelF B w0 N s a w F) {f:Nat} {vs:List View} {xs:List Value} (aS:(execOp a.eval o).run P w=.ok (.enter f xs.toArray) w) (hp:kg P f vs rt) (hv:jaa w vs xs)
 (hG:∀st:jwE,G (rt.av (100*d) st.η) (jkP (100*d) st.η 0 rt.flat)):Goes P o a w (kE B w G):=by
 intro next Q hk;unfold Oper.wp;rw [aS];refine (hp.2 w xs hv).mono λe w' ⟨v,S,he,hr,hf,hb⟩=>?_
 subst he;obtain ⟨η,h1,h2⟩:=juM (B:=B) (100*d) hr;exact hk v w' ⟨_,_,S,h1,h2,hf,hb,hG ⟨0,η⟩⟩
theorem RelF.bare (h:RelF B w0 N s a w F):RelF B w 0 (.only s.o) Act.bare w F:=
 ⟨Below.refl _ _,aNX h.hB h.below.size,rfl,rfl,λ_=>trivial,h.ob,h.fr,h.dj⟩
theorem jjs (h:RelF B w0 N s a w F):∀{args:List Operand} {xs:List X} {caps:List A0} {cs:List Value},zD args=some xs->A0RelL B w caps cs->jkM B w (xs.map s.ev++caps.map .c) (args.map a.eval++cs)
 |[],xs,caps,cs,h1,h2=>by
  simp [zD] at h1;subst h1
  have key:∀(caps:List A0) (cs:List Value),A0RelL B w caps cs->jkM B w (caps.map .c) cs:=by
   intro caps
   induction caps with
   |nil=>intro cs k1;exact k1
   |cons x l ih=>intro cs k1;obtain ⟨u,us',rfl,k3,k4⟩:=k1;exact ⟨u,us',rfl,k3,ih us' k4⟩
  exact key caps cs h2
 |x::args,xs,caps,cs,h1,h2=>by
  simp only [zD] at h1;split at h1
  ·rename_i x' xs' k1 k2
   simp at h1;subst h1;exact ⟨a.eval x,_,rfl,qV h k1,jjs h k2 h2⟩
  ·simp at h1
theorem jcS {f:Nat} {c:Call} {cs xs:List Value} (hn:jpx P f) (ho:o.op=.call c) {y:Operand} (hc:c.callee=.value y) (hy:a.eval y=.func (.func f) #[] cs.toArray) (hx:c.args.toList.map a.eval=xs):
 (execOp a.eval o).run P w=.ok (.enter f (xs++cs).toArray) w:=by
 obtain ⟨fn,hfn,hb,xA⟩:=hn;have hbn:¬fn.body=none:=by intro hq;simp [hq] at hb
 have aR:¬fn.name= "runtime.NumGoroutine":=by simpa using xA
 have cF:c.args.map a.eval=xs.toArray:=by rw [<-hx,<-Array.toList_map,Array.toArray_toList]
 simp [execOp,ho,resolve,hc,hy,cF,Deferred.ofValue,invoke,callFunc,hfn,hbn,aR]
theorem go_call (h:RelF B w0 N s a w F) {c:Call} {f:Nat} {xs:List X} (ho:o.op=.call c) (hc:c.callee=.value (.func f)) (gS:zD c.args.toList=some xs)
 (hg:∀st,∃av os,Gen P s d rt st (.call f xs) av os/\G av os):Goes P o a w (kE B w G):=by
 obtain ⟨_,_,⟨vs,h1,h2,_,_⟩,_⟩:=hg ⟨0,λ_ _=>undef⟩
 have hv:=jnC (caps:=[]) (cs:=[]) h gS rfl (by simpa using h1)
 exact jph (d:=d) h (jcS (cs:=[]) h2.1 ho hc rfl rfl) h2 hv λst=>by
  obtain ⟨_,_,⟨_,_,_,rfl,rfl⟩,hG⟩:=hg st;exact hG
theorem go_callv (h:RelF B w0 N s a w F) {c:Call} {t:Nat} {xs:List X} (ho:o.op=.call c) (hc:c.callee=.value (.tmp t)) (gS:zD c.args.toList=some xs)
 (hg:∀st,∃av os,Gen P s d rt st (.callv (.t t) xs) av os/\G av os):Goes P o a w (kE B w G):=by
 obtain ⟨_,_,⟨f,caps,vs,h0,h1,h2,_,_⟩,_⟩:=hg ⟨0,λ_ _=>undef⟩
 have wK:=h.sl t;rw [show s.t t=.fn f caps from h0] at wK
 obtain ⟨cs,k1,k2⟩:=wK;have hv:=jnC h gS k2 h1
 exact jph (d:=d) h (jcS h2.1 ho hc k1 rfl) h2 hv λst=>by
  obtain ⟨_,_,⟨f',caps',vs',eO,dN,bI,rfl,rfl⟩,hG⟩:=hg st;exact hG
end
def OpOk (P:Program) (o:Oper) (a:Act) (w:World) (R:Act->World->Prop):Prop:=
 ∀(next:Act->World->Prop) (Q:Exit->Act->World->Prop),(∀a' w',R a' w'->next a' w')->o.wp P a w next Q
section
variable {P:Program} {β B N:Nat} {w w0:World} {s:St} {a:Act} {F:Nat->List Nat} {o:Oper} {K:St->Prop}
theorem OpOk.of_run {w':World} {R:Act->World->Prop} {v:Value} (h:(execOp a.eval o).run P w=.ok (.value v) w') (hr:R (a.put o.dst v) w'):OpOk P o a w R:=
 λ_ _ hk=>by unfold Oper.wp;rw [h];exact hk _ w' hr
theorem OpOk.of_skip {w':World} {R:Act->World->Prop} (h:(execOp a.eval o).run P w=.ok .skip w') (hr:R (a.put o.dst undef) w'):OpOk P o a w R:=
 λ_ _ hk=>by unfold Oper.wp;rw [h];exact hk _ w' hr
theorem jbY:∀{l:List A0} {us:List Value} {s:St} {F:Nat->List Nat} {K:List Cell->St->Prop},RelF B w0 N s a w F->A0RelL B w l us->qM s l K->
 ∃cs s' S F',K cs s'/\CRel B w cs us S/\RelF B w0 N s' a w F'/\Fresh B S/\(∀g,∀b∈S,b∉F' g)/\(∀g b,b∈F' g->b∈F g)/\(∀b∈S,∃g,b∈F g)/\(∀u∈us,u.oneCell'=true)
 |[],us,s,F,K,h,hr,hk=>⟨[],s,[],F,hk,⟨hr,rfl⟩,h,Fresh.nil _,by simp,λ_ _ h=>h,by simp,by rw [show us=[] from hr];simp⟩
 |x::l,us,s,F,K,h,⟨u,us',h1,h2,h3⟩,hk=>by
  subst h1
  have plain:∀(x:A0),A0Rel B w x u->x.one=true->qM s l (λcs s'=>K (.a x::cs) s')->∃cs s' S F',K cs s'/\CRel B w cs (u::us') S/\RelF B w0 N s' a w F'/\Fresh B S/\(∀g,∀b∈S,b∉F' g)/\(∀g b,b∈F' g->b∈F g)/\(∀b∈S,∃g,b∈F g)/\(∀u'∈u::us',u'.oneCell'=true):=by
   intro x h2 eZ hk;obtain ⟨cs,s',S,F',k1,k2,k3,k4,k5,k6,k7,k8⟩:=jbY h h3 hk;refine ⟨_,s',S,F',k1,⟨u,us',rfl,h2,k2⟩,k3,k4,k5,k6,k7,λu' hu=>?_⟩
   rcases aNB.1 hu with rfl|hu
   ·exact h2.one eZ
   ·exact k8 u' hu
  cases x with
  |h g c p x=>
   obtain ⟨rfl,d,η,ho,hx,hk⟩:=hk;obtain ⟨u',S1,F1,j1,j2,j3,j4,j5,j6,j7,j8⟩:=h.rm ho;obtain ⟨cs,s',S2,F',k1,k2,k3,k4,k5,k6,k7,k8⟩:=jbY j5 h3 hk
   have hu:u=u':=by
    rw [h2.1,<-hx,j3,jao j1]
   subst hu
   have fT:∀b∈S1,b∉S2:=λb hb bA=>by
    obtain ⟨g',cV⟩:=k7 b bA;exact j6 g' b hb cV
   refine ⟨_,s',S1++S2,F',k1,⟨u,us',S1,S2,rfl,rfl,j1,j2,j3,k2⟩,k3,⟨aMS.2 ⟨j4.1,k4.1,λx hx y hy e=>fT x hx (e▸hy)⟩,λb hb=>?_⟩,λg' b hb=>?_,λg' b hb=>j8 g' b (k6 g' b hb),λb hb=>?_,λu' hu=>?_⟩
   ·rcases aMN.1 hb with hb|hb
    ·exact j4.2 b hb
    ·exact k4.2 b hb
   ·rcases aMN.1 hb with hb|hb
    ·exact λbA=>j6 g' b hb (k6 g' b bA)
    ·exact k5 g' b hb
   ·rcases aMN.1 hb with hb|hb
    ·exact ⟨g,j7 b hb⟩
    ·obtain ⟨g',cV⟩:=k7 b hb;exact ⟨g',j8 g' b cV⟩
   ·rcases aNB.1 hu with rfl|hu
    ·cases d with
     |val _=>cases j1
     |sl _ _ _=>obtain ⟨_,_,_,rfl⟩:=zq j2;rfl
    ·exact k8 u' hu
  |v x=>exact plain _ h2 hk.1 hk.2
  |ro x=>exact plain _ h2 hk.1 hk.2
  |rp x=>exact plain _ h2 hk.1 hk.2
  |bp x y z=>exact plain _ h2 hk.1 hk.2
  |ep x y z i j=>exact plain _ h2 hk.1 hk.2
  |un=>exact plain _ h2 hk.1 hk.2
  |hs=>exact plain _ h2 hk.1 hk.2
theorem jrn (h:RelF B w0 N s a w F) {f:Nat} {args:List AV} {xs:List Value} (aS:(execOp a.eval o).run P w=.ok (.enter f xs.toArray) w) (hv:jkM B w args xs) (hd:∀k,o.dst=some k->k<N)
 (ht:Turns P f args s.o λrt o'=>∀η:Nat->jm,K (((⟨s.t,o'⟩:St).addO (jkP (100*(β+o.dst.getD 0)) η 0 rt.flat)).put o.dst (rt.av (100*(β+o.dst.getD 0)) η))):
 OpOk P o a w (λa' w'=>∃s' F',RelF B w0 N s' a' w' F'/\K s'):=by
 intro next Q hk;unfold Oper.wp;rw [aS];refine (ht.2 B w F xs h.bare hv).mono λe w' ⟨v,rt,o',S,F',he,hr,uS,hf,nT,hR⟩=>?_
 subst he;have hb:Below B w w':=hr.below;obtain ⟨η,h1,h2⟩:=juM (B:=B) (100*(β+o.dst.getD 0)) uS;have h3:RelF B w0 N ⟨s.t,o'⟩ a w' F':=⟨h.below.trans hb,h.hB,h.df,h.sz,λn=>(h.sl n).mono hb,hr.ob,hr.fr,hr.dj⟩
 obtain ⟨F2,h4⟩:=h3.addO h2 hf nT;exact hk _ _ ⟨_,F2,h4.put h1 hd,hR η⟩
theorem jCe (h:RelF B w0 N s a w F) {f:Nat} {args:List AV} {xs:List Value} (aS:(execOp a.eval o).run P w=.ok (.enter f xs.toArray) w) (hv:jkM B w args xs) (hd:∀k,o.dst=some k->k<N)
 (ht:Inl P f args s.o λav o'=>K (St.put ⟨s.t,o'⟩ o.dst av)):
 OpOk P o a w (λa' w'=>∃s' F',RelF B w0 N s' a' w' F'/\K s'):=by
 intro next Q hk;unfold Oper.wp;rw [aS];refine (ht.2 B w F xs h.bare hv).mono λe w' ⟨v,av,o',F',he,hr,hva,hR⟩=>?_
 subst he;have hb:Below B w w':=hr.below;have h3:RelF B w0 N ⟨s.t,o'⟩ a w' F':=⟨h.below.trans hb,h.hB,h.df,h.sz,λn=>(h.sl n).mono hb,hr.ob,hr.fr,hr.dj⟩
 exact hk _ _ ⟨_,F',h3.put hva hd,hR⟩
theorem jvY (w:World):Below w.heap.size w w.drew:=⟨rfl,rfl,rfl,aMV _,λ_ _=>rfl⟩
theorem jCh (h:RelF B w0 N s a w F) {e:TypeId} {x:Operand} {x':X} {n:Nat} {g:Option (Nat×Bool)} (ho:o.op=.box e x) (hx:jQ x=some x') (hd:∀k,o.dst=some k->k<N) (hr:vv P β ⟨o.dst,g,.box e n x'⟩ s K):
 OpOk P o a w (λa' w'=>∃s' F',RelF B w0 N s' a' w' F'/\K s'):=by
 obtain ⟨l,h1,_,h2⟩:=hr;obtain ⟨us,h3,h4⟩:=VRel.cells (qV h hx) h1;obtain ⟨cs,s',S,F',k1,k2,k3,k4,k5,k6,k7,_⟩:=jbY h h4 h2
 have aS:(execOp a.eval o).run P w=.ok (.value (.pointer (some ⟨w.heap.size,0,none⟩))) (w.alloc (.cells us.toArray e)):=by
  simp [execOp,ho,Instr.box,newVar,newRow,h3]
 have hb:Below w.heap.size w (w.alloc (.cells us.toArray e)):=(Below.refl _ _).alloc (aMV _) _;have hB:B<=w.heap.size:=aNX h.hB h.below.size;have o5:∀b∈S,b<w.heap.size:=λb bA=>k2.lt b bA
 have bL:ORel B (w.alloc (.cells us.toArray e)) (.box w.heap.size e cs) (w.heap.size::S):=
  ⟨us,S,jrE _ _,k2.keep (hb.mono hB) λb bA=>hb.block b (o5 b bA),rfl⟩
 have o7:∀g,∀b∈F' g,b<w.heap.size:=λg b bA=>(k3.ob g).lt b bA
 have h5:=(k3.world hb).setO (g:=100*(β+o.dst.getD 0)) bL ⟨aOP.2 ⟨λhh=>by have:=o5 _ hh;omega,k4.1⟩,λb bA=>by rcases aNB.1 bA with rfl|bA;exact hB;exact k4.2 b bA⟩ (λg' _ b bA=>by
  rcases aNB.1 bA with rfl|bA
  ·exact λhh=>by have:=o7 g' _ hh;omega
  ·exact k5 g' b bA)
 exact OpOk.of_run aS ⟨_,_,h5.put (v:=.c (.bp (100*(β+o.dst.getD 0)) 0 w.heap.size)) rfl hd,k1 w.heap.size⟩
theorem RelF.world' (h:RelF B w0 N s a w F) {w':World} (hb:Below B w w') (hk:∀g,∀b∈F g,w'.heap[b]?=w.heap[b]?):RelF B w0 N s a w' F:=
 ⟨h.below.trans hb,h.hB,h.df,h.sz,λn=>(h.sl n).mono hb,λg=>(h.ob g).keep hb (hk g),h.fr,h.dj⟩
theorem CRel.set1 {x:Cell} {u:Value} {S1:List Nat} (hx:CRel B w [x] [u] S1):∀{ds:List Cell} {us:List Value} {S0:List Nat} {c:Nat},CRel B w ds us S0->(S0++S1).Nodup->c<ds.length->
 ∃S',CRel B w (ds.set c x) (us.set c u) S'/\S'.Nodup/\∀b∈S',b∈S0\/b∈S1
 |[],_,_,_,_,_,hc=>by simp at hc
 |y::ds,us,S0,0,hr,aX,_=>by
  have lM:∀{us':List Value} {S2:List Nat},CRel B w ds us' S2->CRel B w (x::ds) (u::us') (S1++S2):=by
   intro us' S2 h2;cases x with
   |a x=>obtain ⟨u',us'',h3,h4,h5,h6⟩:=hx;cases h3;subst h6;exact ⟨u,us',rfl,h4,h2⟩
   |own d η=>
    obtain ⟨u',us'',T1,T2,h3,h4,h5,h6,h7,h8,h9⟩:=hx;cases h3;subst h9;rw [aNI] at h4;subst h4;exact ⟨u,us',S1,S2,rfl,rfl,h5,h6,h7,h2⟩
  cases y with
  |a y=>
   obtain ⟨u',us',rfl,_,h3⟩:=hr;refine ⟨_,lM h3,?_,λb hb=>?_⟩
   ·exact (aPE.nodup_iff).1 aX
   ·rcases aMN.1 hb with hb|hb
    ·exact .inr hb
    ·exact .inl hb
  |own d η=>
   obtain ⟨u',us',T1,T2,rfl,rfl,_,_,_,h3⟩:=hr;refine ⟨_,lM h3,?_,λb hb=>?_⟩
   ·rw [aNA] at aX
    exact (aPE.nodup_iff).1 (aMS.1 aX).2.1
   ·rcases aMN.1 hb with hb|hb
    ·exact .inr hb
    ·exact .inl (by simp [hb])
 |y::ds,us,S0,c+1,hr,aX,hc=>by
  cases y with
  |a y=>
   obtain ⟨u',us',rfl,h2,h3⟩:=hr;obtain ⟨S',h4,h5,h6⟩:=CRel.set1 hx h3 aX (by simpa using hc)
   exact ⟨S',⟨u',_,rfl,h2,h4⟩,h5,h6⟩
  |own d η=>
   obtain ⟨u',us',T1,T2,rfl,rfl,h1,h2,bI,h3⟩:=hr;rw [aNA] at aX;have hn:=aMS.1 aX;obtain ⟨S',h4,h5,h6⟩:=CRel.set1 hx h3 hn.2.1 (by simpa using hc)
   refine ⟨T1++S',⟨u',_,T1,S',rfl,rfl,h1,h2,bI,h4⟩,aMS.2 ⟨hn.1,h5,λa ha b hb e=>hn.2.2 a ha b (by rcases h6 b hb with h|h<;>simp [h]) e⟩,λb hb=>?_⟩
   rcases aMN.1 hb with hb|hb
   ·exact .inl (by simp [hb])
   ·rcases h6 b hb with h|h
    ·exact .inl (by simp [h])
    ·exact .inr h
theorem CRel.setAt_:∀{cs:List Cell} {us:List Value} {S:List Nat} {ds:List Cell} {vs:List Value} {S0:List Nat} {c:Nat},CRel B w cs us S->CRel B w ds vs S0->(S0++S).Nodup->c+cs.length<=ds.length->
 ∃S',CRel B w (kI ds c cs) (kI vs c us) S'/\S'.Nodup/\∀b∈S',b∈S0\/b∈S
 |[],us,S,ds,vs,S0,c,⟨h1,h2⟩,h3,aX,_=>by
  subst h1 h2;rw [aNI] at aX;exact ⟨S0,h3,aX,λb hb=>.inl hb⟩
 |x::cs,us,S,ds,vs,S0,c,hr,h3,aX,hc=>by
  obtain ⟨u,us',S1,S2,rfl,rfl,h4,h5⟩:∃u us' S1 S2,us=u::us'/\S=S1++S2/\CRel B w [x] [u] S1/\CRel B w cs us' S2:=by
   cases x with
   |a x=>obtain ⟨u,us',h1,h2,h4⟩:=hr;exact ⟨u,us',[],S,h1,rfl,⟨u,[],rfl,h2,rfl,rfl⟩,h4⟩
   |own d η=>obtain ⟨u,us',S1,S2,h1,h2,k1,k2,k3,h4⟩:=hr;exact ⟨u,us',S1,S2,h1,h2,⟨u,[],S1,[],rfl,by simp,k1,k2,k3,rfl,rfl⟩,h4⟩
  rw [<-aNA] at aX;obtain ⟨S',h6,h7,h8⟩:=CRel.set1 (c:=c) h4 h3 (aMS.1 aX).1 (by simp at hc;omega)
  have hn:=aMS.1 aX;obtain ⟨S'',h9,hU,nX⟩:=CRel.setAt_ (c:=c+1) h5 h6 (aMS.2 ⟨h7,hn.2.1,λa ha b hb e=>hn.2.2 a (by rcases h8 a ha with h|h<;>simp [h]) b hb e⟩) (by simp at hc⊢;omega)
  refine ⟨S'',h9,hU,λb hb=>?_⟩
  rcases nX b hb with h|h
  ·rcases h8 b h with h|h
   ·exact .inl h
   ·exact .inr (by simp [h])
  ·exact .inr (by simp [h])
theorem qx:∀(vs:List Value) (w:World) (b o:Nat) (us:List Value) (ty:TypeId),w.heap[b]?=some (.cells us.toArray ty (0,0))->(w.setCells b o vs).heap[b]?=some (.cells (kI us o vs).toArray ty (0,0))/\∀k,k≠b->(w.setCells b o vs).heap[k]?=w.heap[k]?
 |[],w,b,o,us,ty,h=>⟨h,λ_ _=>rfl⟩
 |v::vs,w,b,o,us,ty,h=>by
  have h1:(w.setCell ⟨b,o,none⟩ v).heap[b]?=some (.cells (us.set o v).toArray ty (0,0)):=by
   have aB:=jbK h;have:w.heap[b]=.cells us.toArray ty (0,0):=by rw [Array.getElem?_eq_getElem aB] at h;exact aMW h
   simp [World.setCell,Array.getElem?_modify,h]
  obtain ⟨h2,h3⟩:=qx vs (w.setCell ⟨b,o,none⟩ v) b (o+1) (us.set o v) ty h1;exact ⟨h2,λk hk=>(h3 k hk).trans (Below.heap_setCell w ⟨b,o,none⟩ v k hk)⟩
theorem kS:∀(vs:List Value) (w:World) (b o:Nat),(w.setCells b o vs).os=w.os/\(w.setCells b o vs).tape=w.tape/\(w.setCells b o vs).output=w.output/\(w.setCells b o vs).heap.size=w.heap.size
 |[],_,_,_=>⟨rfl,rfl,rfl,rfl⟩
 |v::vs,w,b,o=>by
  obtain ⟨h1,h2,h3,h4⟩:=kS vs (w.setCell ⟨b,o,none⟩ v) b (o+1);exact ⟨h1,h2,h3,h4.trans (by simp [World.setCell])⟩
theorem jnV:∀(xs:List Value) (vs:List Value) (o:Nat),jlB vs o xs=kI vs o xs
 |[],_,_=>rfl
 |x::xs,vs,o=>by rw [jlB,kI,jnV xs]
theorem jaF:∀(vs:List Value) (w:World) (b o k:Nat),k≠b->(w.setCells b o vs).heap[k]?=w.heap[k]?
 |[],_,_,_,_,_=>rfl
 |v::vs,w,b,o,k,hk=>(jaF vs _ b (o+1) k hk).trans (Below.heap_setCell w ⟨b,o,none⟩ v k hk)
theorem jcQ {α:Type}:∀(xs:List α) (l:List α) (k j:Nat),¬(k<=j/\j<k+xs.length)->(kI l k xs)[j]?=l[j]?
 |[],_,_,_,_=>rfl
 |x::xs,l,k,j,h=>by
  rw [kI,jcQ xs _ (k+1) j (by simp at h;omega),aNJ (by simp at h;omega)]
theorem RepL.set1 {d:D} {u:Value} {S1:List Nat} (hx:Rep w true d u S1):∀{cs:List D} {vs:List Value} {S0:List Nat} {c:Nat},RepL w true cs vs S0->(S0++S1).Nodup->c<cs.length->
 ∃S',RepL w true (cs.set c d) (vs.set c u) S'/\S'.Nodup/\∀b∈S',b∈S0\/b∈S1
 |[],_,_,_,_,_,hc=>by simp at hc
 |y::cs,_,_,0,⟨u',us',T1,T2,rfl,rfl,_,h3⟩,aX,_=>by
  refine ⟨S1++T2,RepL.cons_ hx h3,?_,λb hb=>?_⟩
  ·rw [aNA] at aX
   exact (aPE.nodup_iff).1 (aMS.1 aX).2.1
  ·rcases aMN.1 hb with hb|hb
   ·exact .inr hb
   ·exact .inl (by simp [hb])
 |y::cs,_,_,c+1,⟨u',us',T1,T2,rfl,rfl,h2,h3⟩,aX,hc=>by
  rw [aNA] at aX;have hn:=aMS.1 aX;obtain ⟨S',h4,h5,h6⟩:=RepL.set1 hx h3 hn.2.1 (by simpa using hc)
  refine ⟨T1++S',RepL.cons_ h2 h4,aMS.2 ⟨hn.1,h5,λa ha b hb e=>hn.2.2 a ha b (by rcases h6 b hb with h|h<;>simp [h]) e⟩,λb hb=>?_⟩
  rcases aMN.1 hb with hb|hb
  ·exact .inl (by simp [hb])
  ·rcases h6 b hb with h|h
   ·exact .inl (by simp [h])
   ·exact .inr h
theorem RepL.setAt_:∀{ds:List D} {us:List Value} {S:List Nat} {cs:List D} {vs:List Value} {S0:List Nat} {c:Nat},RepL w true ds us S->RepL w true cs vs S0->(S0++S).Nodup->c+ds.length<=cs.length->
 ∃S',RepL w true (kI cs c ds) (kI vs c us) S'/\S'.Nodup/\∀b∈S',b∈S0\/b∈S
 |[],us,S,cs,vs,S0,c,⟨h1,h2⟩,h3,aX,_=>by
  subst h1 h2;rw [aNI] at aX;exact ⟨S0,h3,aX,λb hb=>.inl hb⟩
 |x::ds,_,_,cs,vs,S0,c,⟨u,us',S1,S2,rfl,rfl,h4,h5⟩,h3,aX,hc=>by
  rw [<-aNA] at aX;obtain ⟨S',h6,h7,h8⟩:=RepL.set1 (c:=c) h4 h3 (aMS.1 aX).1 (by simp at hc;omega)
  have hn:=aMS.1 aX;obtain ⟨S'',h9,hU,nX⟩:=RepL.setAt_ (c:=c+1) h5 h6 (aMS.2 ⟨h7,hn.2.1,λa ha b hb e=>hn.2.2 a (by rcases h8 a ha with h|h<;>simp [h]) b hb e⟩) (by simp at hc⊢;omega)
  refine ⟨S'',h9,hU,λb hb=>?_⟩
  rcases nX b hb with h|h
  ·rcases h8 b h with h|h
   ·exact .inl h
   ·exact .inr (by simp [h])
  ·exact .inr (by simp [h])
theorem RepL.put1:∀{cs:List D} {vs:List Value} {S:List Nat} {k:Nat} {d:D},RepL w true cs vs S->S.Nodup->cs[k]?=some d->
 ∃v S1,vs[k]?=some v/\Rep w true d v S1/\(∀b∈S1,b∈S)/\S1.Nodup/\(∀j dj,j≠k->cs[j]?=some dj->∃vj Sj,vs[j]?=some vj/\Rep w true dj vj Sj/\∀b∈Sj,b∈S/\b∉S1)/\
 ∀(w':World) (d':D) (S1':List Nat),(∀b∈S,b∉S1->w'.heap[b]?=w.heap[b]?)->Rep w' true d' v S1'->S1'.Nodup->(∀b∈S1',b∈S1\/b∉S)->
  ∃S',RepL w' true (cs.set k d') vs S'/\S'.Nodup/\∀b∈S',b∈S\/b∈S1'
 |[],_,_,_,_,_,_,h=>by simp at h
 |y::cs,_,_,0,d,⟨u',us',T1,T2,rfl,rfl,h2,h3⟩,aX,h=>by
  simp at h;subst h;have hn:=aMS.1 aX;refine ⟨u',T1,rfl,h2,λb hb=>by simp [hb],hn.1,λj dj hj hd=>?_,λw' d' S1' hk hr lK hs=>?_⟩
  ·cases j with
   |zero=>exact absurd rfl hj
   |succ j=>
    obtain ⟨vj,Sj,k1,k2,k3⟩:=RepL.nth h3 (by simpa using hd)
    exact ⟨vj,Sj,by simpa using k1,k2,λb hb=>⟨by simp [k3 b hb],λbA=>hn.2.2 b bA b (k3 b hb) rfl⟩⟩
  ·refine ⟨S1'++T2,RepL.cons_ hr (RepL.keep _ h3 λb hb=>hk b (by simp [hb]) λbA=>hn.2.2 b bA b hb rfl),aMS.2 ⟨lK,hn.2.1,λa ha b hb e=>?_⟩,λb hb=>?_⟩
   ·subst e
    rcases hs a ha with h|h
    ·exact hn.2.2 a h a hb rfl
    ·exact h (by simp [hb])
   ·rcases aMN.1 hb with hb|hb
    ·exact .inr hb
    ·exact .inl (by simp [hb])
 |y::cs,_,_,k+1,d,⟨u',us',T1,T2,rfl,rfl,h2,h3⟩,aX,h=>by
  have hn:=aMS.1 aX;obtain ⟨v,S1,k1,k2,k3,k4,k5,k6⟩:=RepL.put1 h3 hn.2.1 (by simpa using h)
  refine ⟨v,S1,by simpa using k1,k2,λb hb=>by simp [k3 b hb],k4,λj dj hj hd=>?_,λw' d' S1' hk hr lK hs=>?_⟩
  ·cases j with
   |zero=>
    simp at hd;subst hd;exact ⟨u',T1,rfl,h2,λb hb=>⟨by simp [hb],λbA=>hn.2.2 b hb b (k3 b bA) rfl⟩⟩
   |succ j=>
    obtain ⟨vj,Sj,m1,m2,m3⟩:=k5 j dj (by omega) (by simpa using hd)
    exact ⟨vj,Sj,by simpa using m1,m2,λb hb=>⟨by simp [(m3 b hb).1],(m3 b hb).2⟩⟩
  ·obtain ⟨S',m1,m2,m3⟩:=k6 w' d' S1' (λb hb bA=>hk b (by simp [hb]) bA) hr lK (λb hb=>by
    rcases hs b hb with h|h
    ·exact .inl h
    ·exact .inr λbA=>h (by simp [bA]))
   refine ⟨T1++S',RepL.cons_ (Rep.keep _ h2 λb hb=>hk b (by simp [hb]) λbA=>hn.2.2 b hb b (k3 b bA) rfl) m1,aMS.2 ⟨hn.1,m2,λa ha b hb e=>?_⟩,λb hb=>?_⟩
   ·subst e
    rcases m3 a hb with h|h
    ·exact hn.2.2 a ha a h rfl
    ·rcases hs a h with h'|h'
     ·exact hn.2.2 a ha a (k3 a h') rfl
     ·exact h' (by simp [ha])
   ·rcases aMN.1 hb with hb|hb
    ·exact .inl (by simp [hb])
    ·rcases m3 b hb with h|h
     ·exact .inl (by simp [h])
     ·exact .inr h
theorem jmI {ds:List D} {us:List Value} {S1:List Nat} {k:Nat} (xU:0<ds.length) (cA:RepL w true ds us S1) (d8:S1.Nodup):∀(p:List Nat) {d0:D} {u:Value} {S:List Nat} {size:Nat} {ty:TypeId} {cs:List D},Rep w true d0 u S->S.Nodup->(∀b∈S1,b∉S)->
 D.get p d0=some (.sl size ty cs)->k+ds.length<=cs.length->
 ∃gg nn cc,hdr w p d0 u=.slice (some ⟨gg,0,none⟩) nn cc/\gg∈S/\w.there gg k ds.length/\
  ∃S',Rep (w.setCells gg k us) true (D.put p k ds d0) u S'/\S'.Nodup/\(∀b∈S',b∈S\/b∈S1)/\∀q,¬jqJ p k ds.length q->hdr (w.setCells gg k us) q (D.put p k ds d0) u=hdr w q d0 u
 |[],.val _,_,_,_,_,_,_,_,_,hg,_=>by simp [D.get] at hg
 |[],.sl size0 ty0 cs0,u,_,size,ty,cs,⟨vs,T,S',bX,bZ,rfl⟩,aX,fT,hg,cX=>by
  simp [D.get] at hg;obtain ⟨rfl,rfl,rfl⟩:=hg;have bN:=RepL.length _ bZ;have n6:=RepL.length _ cA;have hn:=aMS.1 aX;have rY:=bX;rcases qJ bX with ⟨rfl,rfl⟩|⟨gg,nn,cc,rfl,rfl,iV,bU,rF⟩
  ·simp at bN;omega
  ·obtain ⟨nv,bR,_⟩:=rY
   have sB:nn=nv:=by
    rcases bR.2 with ⟨h,_⟩|⟨_,_,_,h,_⟩
    ·cases h
    ·cases h;rfl
   subst sB;have aR:∀b,b≠gg->(w.setCells gg k us).heap[b]?=w.heap[b]?:=λb hb=>jaF us w gg k b hb
   have tU:∀b∈S1,b≠gg:=λb hb e=>fT b hb (by simp [e])
   have mR:∀b∈S',b≠gg:=λb hb e=>hn.2.2 gg (by simp) b hb e.symm
   have tH:=RepL.keep (w':=w.setCells gg k us) _ bZ λb hb=>aR b (mR b hb)
   have w9:=RepL.keep (w':=w.setCells gg k us) _ cA λb hb=>aR b (tU b hb)
   obtain ⟨S2,h1,h2,h3⟩:=RepL.setAt_ (c:=k) w9 tH (aMS.2 ⟨hn.2.1,d8,λa ha b hb e=>fT b hb (by simp [<-e,ha])⟩) cX
   have cJ:=(jcZ us k bR).1;rw [jnV] at cJ;refine ⟨gg,nn,cc,rfl,by simp,ju6 bR k ds.length (by omega),[gg]++S2,⟨_,[gg],S2,⟨nn,cJ,rfl⟩,h1,rfl⟩,aMS.2 ⟨by simp,h2,λa ha b hb e=>?_⟩,λb hb=>?_,λq hq=>?_⟩
   ·simp at ha;subst ha;subst e
    rcases h3 a hb with h|h
    ·exact mR a h rfl
    ·exact tU a h rfl
   ·rcases aMN.1 hb with hb|hb
    ·exact .inl (by simp at hb⊢;exact .inl hb)
    ·rcases h3 b hb with h|h
     ·exact .inl (by simp [h])
     ·exact .inr h
   ·cases q with
    |nil=>rfl
    |cons j r=>
     have hj:¬(k<=j/\j<k+ds.length):=λh=>hq ⟨j,r,rfl,h.1,h.2⟩
     simp only [D.put,hdr,aOK];rw [jcQ ds cs0 k j hj];cases hc:cs0[j]? with
     |none=>rfl
     |some d=>
      obtain ⟨v,Sj,k1,k2,k3⟩:=RepL.nth bZ hc;have aB:j<nn*size0:=by have:=(aMI.1 k1).1;omega
      have e1:w.cell? ⟨gg,j,none⟩=some v:=bU j v k1
      have e2:(w.setCells gg k us).cell? ⟨gg,j,none⟩=some v:=by
       rw [World.ownsRow.cellAt cJ j aB,jcQ us vs k j (by omega),k1]
      simp only [e1,e2,aMM];exact jdS r k2 λb hb=>aR b (mR b (k3 b hb))
 |i::p,.val _,_,_,_,_,_,_,_,_,hg,_=>by simp [D.get] at hg
 |i::p,.sl size0 ty0 cs0,u,_,size,ty,cs,⟨vs,T,S',bX,bZ,rfl⟩,aX,fT,hg,cX=>by
  simp only [D.get] at hg;cases hc:cs0[i]? with
  |none=>rw [hc] at hg;simp at hg
  |some d=>
   rw [hc] at hg;have hn:=aMS.1 aX;obtain ⟨v,Si,k1,k2,k3,k4,k5,k6⟩:=RepL.put1 bZ hn.2.1 hc;have rY:=bX;rcases qJ bX with ⟨rfl,rfl⟩|⟨g0,nn0,cc0,rfl,rfl,iV,bU,rF⟩
   ·simp at k1
   ·obtain ⟨gg,nn,cc,m1,m2,m3,Si',m4,m5,m6,m7⟩:=jmI xU cA d8 p k2 k4 (λb hb bA=>fT b hb (by simp [k3 b bA])) hg cX
    have aR:∀b,b≠gg->(w.setCells gg k us).heap[b]?=w.heap[b]?:=λb hb=>jaF us w gg k b hb
    have nF:g0≠gg:=λe=>hn.2.2 g0 (by simp) gg (k3 gg m2) e
    obtain ⟨S2,q1,q2,q3⟩:=k6 (w.setCells gg k us) (D.put p k ds d) Si' (λb hb bA=>aR b λe=>bA (e▸m2)) m4 m5 (λb hb=>by
     rcases m6 b hb with h|h
     ·exact .inl h
     ·exact .inr λbA=>fT b h (by simp [bA]))
    have o3:∀j v,vs[j]?=some v->(w.setCells gg k us).cell? ⟨g0,j,none⟩=some v:=λj v hv=>by
     rw [World.cell?_of_block (w:=w) (a:=⟨g0,j,none⟩) (aR g0 nF)];exact bU j v hv
    have e0:hdr w (i::p) (.sl size0 ty0 cs0) (.slice (some ⟨g0,0,none⟩) nn0 cc0)=hdr w p d v:=by
     simp only [hdr,hc,aOK,bU i v k1,aMM]
    refine ⟨gg,nn,cc,by rw [e0];exact m1,by simp [k3 gg m2],m3,[g0]++S2,⟨vs,[g0],S2,bX.keep λb hb=>aR b (by simp at hb;subst hb;exact nF),?_,rfl⟩,aMS.2 ⟨by simp,q2,λa ha b hb e=>?_⟩,λb hb=>?_,λq hq=>?_⟩
    ·simp only [D.put,hc];exact q1
    ·simp at ha;subst ha;subst e
     rcases q3 a hb with h|h
     ·exact hn.2.2 a (by simp) a h rfl
     ·rcases m6 a h with h'|h'
      ·exact hn.2.2 a (by simp) a (k3 a h') rfl
      ·exact fT a h' (by simp)
    ·rcases aMN.1 hb with hb|hb
     ·exact .inl (by simp at hb⊢;exact .inl hb)
     ·rcases q3 b hb with h|h
      ·exact .inl (by simp [h])
      ·rcases m6 b h with h'|h'
       ·exact .inl (by simp [k3 b h'])
       ·exact .inr h'
    ·cases q with
     |nil=>rfl
     |cons j r=>
      simp only [D.put,hc,hdr,aOK];by_cases hj:j=i
      ·subst hj
       have aB:j<cs0.length:=(aMI.1 hc).1;rw [aML aB];simp only [hc,o3 j v k1,bU j v k1,aMM];exact m7 r λ⟨j',r',e,h1,h2⟩=>hq ⟨j',r',by rw [e];rfl,h1,h2⟩
      ·rw [aNJ (Ne.symm hj)]
       cases hcj:cs0[j]? with
       |none=>rfl
       |some dj=>
        obtain ⟨vj,Sj,n1,n2,n3⟩:=k5 j dj hj hcj;simp only [o3 j vj n1,bU j vj n1,aMM];exact jdS r n2 λb hb=>aR b λe=>(n3 b hb).2 (e▸m2)
theorem CRel.put1:∀{cs:List Cell} {us:List Value} {S:List Nat} {c:Nat} {d:D} {η:jm},CRel B w cs us S->S.Nodup->cs[c]?=some (.own d η)->
 ∃u S1,d.isSl=true/\Rep w true d u S1/\(∀p,η p=hdr w p d u)/\(∀b∈S1,b∈S)/\S1.Nodup/\
 ∀(w':World) (d':D) (aH:jm) (S1':List Nat),Below B w w'->(∀b∈S,b∉S1->w'.heap[b]?=w.heap[b]?)->d'.isSl=true->Rep w' true d' u S1'->(∀p,aH p=hdr w' p d' u)->S1'.Nodup->(∀b∈S1',b∈S1\/b∉S)->
  ∃S',CRel B w' (cs.set c (.own d' aH)) us S'/\S'.Nodup/\∀b∈S',b∈S\/b∈S1'
 |[],_,_,_,_,_,_,_,h=>by simp at h
 |.a x::cs,_,_,0,_,_,_,_,h=>by simp at h
 |.a x::cs,_,S,c+1,d,η,⟨u,us',rfl,h2,h3⟩,aX,h=>by
  obtain ⟨v,S1,k0,k1,k2,k3,k4,k5⟩:=CRel.put1 h3 aX (by simpa using h)
  refine ⟨v,S1,k0,k1,k2,k3,k4,λw' d' aH S1' hb hk hs hr hη hn bB=>?_⟩
  obtain ⟨S',m1,m2,m3⟩:=k5 w' d' aH S1' hb hk hs hr hη hn bB;exact ⟨S',⟨u,us',rfl,h2.mono hb,m1⟩,m2,m3⟩
 |.own d0 fG::cs,_,_,0,d,η,⟨u,us',T1,T2,rfl,rfl,h3,h4,h5,h6⟩,aX,h=>by
  simp at h;obtain ⟨rfl,rfl⟩:=h;have hn:=aMS.1 aX;refine ⟨u,T1,h3,h4,h5,λb hb=>by simp [hb],hn.1,λw' d' aH S1' hb hk hs hr hη lK bB=>?_⟩
  refine ⟨S1'++T2,⟨u,us',S1',T2,rfl,rfl,hs,hr,hη,h6.keep hb λb bA=>hk b (by simp [bA]) λaDB=>hn.2.2 b aDB b bA rfl⟩,aMS.2 ⟨lK,hn.2.1,λa ha b bA e=>?_⟩,λb bA=>?_⟩
  ·subst e
   rcases bB a ha with h|h
   ·exact hn.2.2 a h a bA rfl
   ·exact h (by simp [bA])
  ·rcases aMN.1 bA with bA|bA
   ·exact .inr bA
   ·exact .inl (by simp [bA])
 |.own d0 fG::cs,_,_,c+1,d,η,⟨u,us',T1,T2,rfl,rfl,h3,h4,h5,h6⟩,aX,h=>by
  have hn:=aMS.1 aX;obtain ⟨v,S1,k0,k1,k2,k3,k4,k5⟩:=CRel.put1 h6 hn.2.1 (by simpa using h)
  refine ⟨v,S1,k0,k1,k2,λb hb=>by simp [k3 b hb],k4,λw' d' aH S1' hb hk hs hr hη lK bB=>?_⟩
  obtain ⟨S',m1,m2,m3⟩:=k5 w' d' aH S1' hb (λb aW bM=>hk b (by simp [aW]) bM) hs hr hη lK (λb aW=>by
   rcases bB b aW with h|h
   ·exact .inl h
   ·exact .inr λh'=>h (by simp [h']))
  have hT:∀b∈T1,w'.heap[b]?=w.heap[b]?:=λb aW=>hk b (by simp [aW]) λbM=>hn.2.2 b aW b (k3 b bM) rfl
  refine ⟨T1++S',⟨u,us',T1,S',rfl,rfl,h3,Rep.keep _ h4 hT,λp=>by rw [jdS p h4 hT];exact h5 p,m1⟩,aMS.2 ⟨hn.1,m2,λa ha b aW e=>?_⟩,λb aW=>?_⟩
  ·subst e
   rcases m3 a aW with h|h
   ·exact hn.2.2 a ha a h rfl
   ·rcases bB a h with h'|h'
    ·exact hn.2.2 a ha a (k3 a h') rfl
    ·exact h' (by simp [ha])
  ·rcases aMN.1 aW with aW|aW
   ·exact .inl (by simp [aW])
   ·rcases m3 b aW with h|h
    ·exact .inl (by simp [h])
    ·exact .inr h
theorem ORel.put1 {ob:Ob} {S:List Nat} {c:Nat} {d:D} {η:jm} (ho:ORel B w ob S) (aX:S.Nodup) (h:ob.own c=some (d,η)):
 ∃u S1,d.isSl=true/\Rep w true d u S1/\(∀p,η p=hdr w p d u)/\(∀b∈S1,b∈S)/\S1.Nodup/\
 ∀(w':World) (d':D) (aH:jm) (S1':List Nat),Below B w w'->(∀b∈S,b∉S1->w'.heap[b]?=w.heap[b]?)->d'.isSl=true->Rep w' true d' u S1'->(∀p,aH p=hdr w' p d' u)->S1'.Nodup->(∀b∈S1',b∈S1\/b∉S)->
  ∃S',ORel B w' (ob.putOwn c d' aH) S'/\S'.Nodup/\∀b∈S',b∈S\/b∈S1':=by
 cases ob with
 |none=>simp [Ob.own] at h
 |loose d0 fG=>
  cases c with
  |succ c=>simp [Ob.own] at h
  |zero=>
   simp [Ob.own] at h;obtain ⟨rfl,rfl⟩:=h;obtain ⟨h0,u,h1,h2⟩:=ho;exact ⟨u,S,h0,h1,h2,λ_ h=>h,aX,λw' d' aH S1' _ _ hs hr hη hn _=>⟨S1',⟨hs,u,hr,hη⟩,hn,λb hb=>.inr hb⟩⟩
 |box b ty cs=>
  obtain ⟨us,S0,h1,h2,rfl⟩:=ho;have hn:=aOP.1 aX
  have hc:cs[c]?=some (.own d η):=by
   simp only [Ob.own] at h;split at h
   ·simp at h;obtain ⟨rfl,rfl⟩:=h;assumption
   ·simp at h
  obtain ⟨u,S1,k0,k1,k2,k3,k4,k5⟩:=h2.put1 hn.2 hc;refine ⟨u,S1,k0,k1,k2,λb hb=>by simp [k3 b hb],k4,λw' d' aH S1' hb hk hs hr hη lK bB=>?_⟩
  obtain ⟨S',m1,m2,m3⟩:=k5 w' d' aH S1' hb (λb aW bM=>hk b (by simp [aW]) bM) hs hr hη lK (λb aW=>by
   rcases bB b aW with h|h
   ·exact .inl h
   ·exact .inr λh'=>h (by simp [h']))
  refine ⟨b::S',⟨us,S',(hk b (by simp) λaW=>hn.1 (k3 b aW)).trans h1,m1,rfl⟩,aOP.2 ⟨λaW=>?_,m2⟩,λx hx=>?_⟩
  ·rcases m3 b aW with h|h
   ·exact hn.1 h
   ·rcases bB b h with h'|h'
    ·exact hn.1 (k3 b h')
    ·exact h' (by simp)
  ·rcases aNB.1 hx with rfl|hx
   ·exact .inl (by simp)
   ·rcases m3 x hx with h|h
    ·exact .inl (by simp [h])
    ·exact .inr h
theorem jyM:∀(p:List Nat) (i:Nat) (ds:List D) {d:D},d.isSl=true->(D.put p i ds d).isSl=true
 |[],_,_,.sl _ _ _,_=>rfl
 |_::_,_,_,.sl _ _ _,_=>rfl
 |[],_,_,.val _,h=>by cases h
 |_::_,_,_,.val _,h=>by cases h
theorem jgd:∀{ks:List (Option (Nat×Nat))} {cs:List Cell} {us:List Value} {S:List Nat} {ds:List D},CRel B w cs us S->jat ks cs=some ds->RepL w true ds us S
 |_,[],us,S,ds,h,hd=>by simp [jat] at hd;subst hd;exact h
 |ks,.a x::cs,us,S,ds,⟨u,us',h1,h2,h3⟩,hd=>by
  cases x with
  |v x=>
   simp only [jat] at hd;split at hd
   ·simp at hd;subst hd
    subst h1;rw [show u=x from h2]
    exact ⟨x,us',[],S,rfl,rfl,jrp _ _,jgd h3 (by assumption)⟩
   ·simp at hd
  |_=>simp [jat] at hd
 |ks,.own d η::cs,us,S,ds,⟨u,us',S1,S2,h1,h2,_,h4,_,h6⟩,hd=>by
  simp only [jat] at hd;split at hd
  ·simp at hd;subst hd
   subst h1 h2;exact RepL.cons_ h4 (jgd h6 (by assumption))
  ·simp at hd
theorem jfZ {j:Nat} {r:List Nat} {v:Value}:∀(p:List Nat) {d:D} {u:Value} {size:Nat} {ty:TypeId} {cs:List D},D.get p d=some (.sl size ty cs)->cs[j]?=some (.val v)->hdr w (p++j::r) d u=undef
 |[],.val _,_,_,_,_,hg,_=>by simp [D.get] at hg
 |[],.sl s t cs0,u,size,ty,cs,hg,hc=>by
  simp [D.get] at hg;obtain ⟨rfl,rfl,rfl⟩:=hg;simp only [aON];have hv:∀x,hdr w r (.val v) x=undef:=λx=>by cases r<;>rfl
  cases u with
  |slice A n c=>cases A with
   |some a=>simp only [hdr,hc,hv]
   |none=>rfl
  |_=>rfl
 |i::p,.val _,_,_,_,_,hg,_=>by simp [D.get] at hg
 |i::p,.sl s t cs0,u,size,ty,cs,hg,hc=>by
  simp only [D.get] at hg;cases hi:cs0[i]? with
  |none=>rw [hi] at hg;simp at hg
  |some d'=>
   rw [hi] at hg;cases u with
   |slice A n c=>cases A with
    |some a=>simp only [aOS,hdr,hi];exact jfZ p hg hc
    |none=>rfl
   |_=>rfl
theorem jc2:∀(p:List Nat) {d:D} {k:Nat} {ds:List D} {size:Nat} {ty:TypeId} {cs:List D},D.get p d=some (.sl size ty cs)->D.get p (D.put p k ds d)=some (.sl size ty (kI cs k ds))
 |[],.val _,_,_,_,_,_,hg=>by simp [D.get] at hg
 |[],.sl s t cs0,k,ds,size,ty,cs,hg=>by
  simp [D.get] at hg;obtain ⟨rfl,rfl,rfl⟩:=hg;simp [D.put,D.get]
 |i::p,.val _,_,_,_,_,_,hg=>by simp [D.get] at hg
 |i::p,.sl s t cs0,k,ds,size,ty,cs,hg=>by
  simp only [D.get] at hg;cases hi:cs0[i]? with
  |none=>rw [hi] at hg;simp at hg
  |some d'=>
   rw [hi] at hg;simp only [D.put,hi,D.get];rw [aML (aMI.1 hi).1];exact jc2 p hg
theorem jc4:∀{l:List D} {j:Nat},jZ l=true->j<l.length->∃v,l[j]?=some (.val v)
 |.val u::l,0,_,_=>⟨u,rfl⟩
 |.val u::l,j+1,h,hj=>by simp only [jZ,aMY] at h;simpa using jc4 h.2 (by simpa using hj)
 |.sl _ _ _::_,_,h,_=>by simp [jZ] at h
 |[],_,_,hj=>by simp at hj
theorem jjE {α:Type}:∀(vs:List α) (cs:List α) (k j:Nat),k+vs.length<=cs.length->k<=j->j<k+vs.length->(kI cs k vs)[j]?=vs[j-k]?
 |[],cs,k,j,_,h1,h2=>by simp at h2;omega
 |v::vs,cs,k,j,hl,h1,h2=>by
  simp only [aNG] at hl h2;show (kI (cs.set k v) (k+1) vs)[j]?=_;by_cases e:j=k
  ·subst e
   have keep:∀(vs:List α) (cs:List α) (k j:Nat),j<k->(kI cs k vs)[j]?=cs[j]?:=by
    intro vs
    induction vs with
    |nil=>intros;rfl
    |cons a vs ih=>intro cs k j hj;show (kI (cs.set k a) (k+1) vs)[j]?=_;rw [ih _ _ _ (by omega),aNJ (by omega)]
   rw [keep _ _ _ _ (by omega),aML (by omega)];simp
  ·rw [jjE vs _ _ _ (by simp;omega) (by omega) (by omega),show j-k=(j-(k+1))+1 by omega];simp
theorem ok_st (h:RelF B w0 N s a w F) {t:TypeId} {x y:Operand} {x' y':X} {n:Nat} {ks:List (Option (Nat×Nat))} {g:Option (Nat×Bool)} (ho:o.op=.store t x y) (hn:qi P t=some n) (hx:jQ x=some x') (hy:jQ y=some y') (hr:vv P β ⟨o.dst,g,.st n ks x' y'⟩ s K):
 OpOk P o a w (λa' w'=>∃s' F',RelF B w0 N s' a' w' F'/\K s'):=by
 obtain ⟨oZ,l,h2,h3,h4⟩:=hr;simp only at oZ;obtain ⟨us,h5,h6⟩:=VRel.cells (qV h hy) h2;obtain ⟨inf,fA,cR⟩:=jjC hn;have n6:=A0RelL.len h6;have ha:a.put o.dst undef=a:=by rw [oZ];rfl
 have pY:=qV h hx;obtain ⟨cs,s',S,F',hk,k2,k3,k4,k5,k6,k7,k8⟩:=jbY h h6 h4;have aD:=CRel.len k2;split at hk
 ·rename_i k c b he
  obtain ⟨ty,ds,k0,kc,kk⟩:=hk;have hp:a.eval x=.pointer (some ⟨b,c,none⟩):=by rw [he] at pY;exact pY
  have bL:=k3.ob k;rw [k0] at bL;obtain ⟨vs,S0,j1,j2,j3⟩:=bL;have bN:=CRel.len j2
  have aS:(execOp a.eval o).run P w=.ok .skip (w.setCells b c us):=by
   have aJ:=run_storeCells_cells (P:=P) b c us 0 w (λj hj=>by
    have:c+j<vs.length:=by omega
    simp [World.cell?,j1,this]) (λj hj=>by simp [World.frozen?,j1]) k8
   simp only [aMX] at aJ;simp [execOp,ho,Instr.storeAt,hp,Instr.sureAddr,storeVar,h5,sizeOf,typeInfo,fA,cR,n6,h3,aJ]
  obtain ⟨j4,j5⟩:=qx us w b c vs ty j1;obtain ⟨j6,j7,j8,j9⟩:=kS us w b c;have nG:=k3.fr k;rw [j3] at nG;have hBb:B<=b:=nG.2 b (by simp)
  have hb:Below B w (w.setCells b c us):=⟨j6,j7,j8,by rw [j9];exact aMV _,λi hi=>j5 i (by omega)⟩
  have hbF:∀g',g'≠k->b∉F' g':=λg' cV hh=>k3.dj g' k cV b hh (by rw [j3];simp)
  have hbS:b∉S:=λhh=>k5 k b hh (by rw [j3];simp)
  have aCY:b∉S0:=(aOP.1 nG.1).1;have fT:(S0++S).Nodup:=aMS.2 ⟨(aOP.1 nG.1).2,k4.1,λx hx y hy e=>k5 k y hy (by rw [j3];simp [<-e,hx])⟩
  obtain ⟨S',m1,m2,m3⟩:=CRel.setAt_ (c:=c) k2 j2 fT (by omega)
  have rJ:b∉S':=λhh=>by rcases m3 b hh with h|h;exact aCY h;exact hbS h
  have r1:=k3.setO (g:=k) (ob:=.none) (S:=[]) rfl (Fresh.nil _) (by simp)
  have r2:=r1.world' hb λg' x hx=>by
   split at hx
   ·simp at hx
   ·rename_i cV
    exact j5 x λe=>hbF g' cV (e▸hx)
  have aBM:ORel B (w.setCells b c us) (.box b ty (kI ds c cs)) (b::S'):=⟨_,S',j4,m1.keep hb λx hx=>j5 x λe=>rJ (e▸hx),rfl⟩
  have r3:=r2.setO (g:=k) aBM ⟨aOP.2 ⟨rJ,m2⟩,λx hx=>by
   rcases aNB.1 hx with rfl|hx
   ·exact hBb
   ·rcases m3 x hx with h|h
    ·exact nG.2 x (by simp [h])
    ·exact k4.2 x h⟩ (λg' cV x hx=>by
   rw [if_neg cV];rcases aNB.1 hx with rfl|hx
   ·exact hbF g' cV
   ·rcases m3 x hx with h|h
    ·exact λhh=>k3.dj g' k cV x hh (by rw [j3];simp [h])
    ·exact k5 g' x h)
  have gQ:(s'.setO k .none).setO k (.box b ty (kI ds c cs))=s'.setO k (.box b ty (kI ds c cs)):=by
   simp only [St.setO,St.mk.injEq,true_and]
   funext i;split<;>rfl
  rw [gQ] at r3;exact OpOk.of_skip aS (by rw [ha];exact ⟨_,_,r3,kk⟩)
 ·rename_i k c p i mG he
  obtain ⟨l4,ds,aCN,d0,η,dd,j1,j2,j3,j4,j5,hk⟩:=hk;have hp:a.eval x=.pointer (some (jb9 mG i)):=by rw [he] at pY;exact pY
  have cA:=jgd k2 aCN;have fN:=RepL.length _ cA;have xV:ds.length=n:=by omega
  have nG:=k3.fr k;obtain ⟨u,S1,q0,q1,q2,q3,q4,q5⟩:=ORel.put1 (k3.ob k) nG.1 j1;cases dd with
  |val _=>cases j4
  |sl size ty cs0=>
   simp only [D.cells] at j5;obtain ⟨gg,nn,cc,r1,r2,r3,S1',r4,r5,r6,r7⟩:=jmI (k:=i) (by omega) cA k4.1 p q1 q4 (λb hb bA=>k5 k b hb (q3 b bA)) j3 (by omega)
   have xO:mG=.slice (some ⟨gg,0,none⟩) nn cc:=by rw [<-j2,q2,r1]
   have nA:a.eval x=.pointer (some ⟨gg,i,none⟩):=by rw [hp,xO];simp [jb9]
   have aS:(execOp a.eval o).run P w=.ok .skip (w.setCells gg i us):=by
    have aJ:=run_storeCells_cells (P:=P) gg i us 0 w (λj hj=>(r3 j (by omega)).1) (λj hj=>(r3 j (by omega)).2) k8
    simp only [aMX] at aJ;simp [execOp,ho,Instr.storeAt,nA,Instr.sureAddr,storeVar,h5,sizeOf,typeInfo,fA,cR,n6,h3,aJ]
   obtain ⟨j6,j7,j8,j9⟩:=kS us w gg i;have oW:gg∈F' k:=q3 gg r2;have hBb:B<=gg:=nG.2 gg oW;have aR:∀b,b≠gg->(w.setCells gg i us).heap[b]?=w.heap[b]?:=λb hb=>jaF us w gg i b hb
   have hb:Below B w (w.setCells gg i us):=⟨j6,j7,j8,by rw [j9];exact aMV _,λj hj=>aR j (by omega)⟩
   have fP:(D.put p i ds d0).isSl=true:=jyM _ _ _ q0
   obtain ⟨S',m1,m2,m3⟩:=q5 (w.setCells gg i us) (D.put p i ds d0) (λq=>hdr (w.setCells gg i us) q (D.put p i ds d0) u) S1' hb (λb _ bM=>aR b λe=>bM (e▸r2)) fP r4 (λ_=>rfl) r5 (λb aW=>by
    rcases r6 b aW with h|h
    ·exact .inl h
    ·exact .inr λh'=>k5 k b h h')
   have t1:=k3.setO (g:=k) (ob:=.none) (S:=[]) rfl (Fresh.nil _) (by simp)
   have t2:=t1.world' hb λg' x hx=>by
    split at hx
    ·simp at hx
    ·rename_i cV
     exact aR x λe=>k3.dj g' k cV x hx (e▸oW)
   have o6:∀x∈S',x∈F' k\/x∈S:=λx hx=>by
    rcases m3 x hx with h|h
    ·exact .inl h
    ·rcases r6 x h with h'|h'
     ·exact .inl (q3 x h')
     ·exact .inr h'
   have t3:=t2.setO (g:=k) m1 ⟨m2,λx hx=>by
    rcases o6 x hx with h|h
    ·exact nG.2 x h
    ·exact k4.2 x h⟩ (λg' cV x hx=>by
    rw [if_neg cV];rcases o6 x hx with h|h
    ·exact λhh=>k3.dj g' k cV x hh h
    ·exact k5 g' x h)
   have gQ:(s'.setO k .none).setO k ((s'.o k).putOwn c (D.put p i ds d0) (λq=>hdr (w.setCells gg i us) q (D.put p i ds d0) u))=s'.setO k ((s'.o k).putOwn c (D.put p i ds d0) (λq=>hdr (w.setCells gg i us) q (D.put p i ds d0) u)):=by
    simp only [St.setO,St.mk.injEq,true_and]
    funext i;split<;>rfl
   rw [gQ] at t3
   exact OpOk.of_skip aS (by
    rw [ha];have lL:∀q,¬jqJ p i n q->hdr (w.setCells gg i us) q (D.put p i ds d0) u=η q:=λq hq=>by rw [q2];exact r7 q (by rw [xV];exact hq)
    refine ⟨_,_,t3,jyB hk lL λhf=>?_⟩
    simp only [aMY] at hf
    funext q
    by_cases hq:jqJ p i n q
    ·obtain ⟨j,r,rfl,rE,mQ⟩:=hq
     obtain ⟨v1,gO⟩:=jc4 (j:=j-i) hf.1 (by omega)
     obtain ⟨v2,s7⟩:=jc4 (j:=j-i) hf.2 (by simp only [D.cells,aMP,aND];omega)
     rw [q2];rw [jfZ (w:=w.setCells gg i us) (j:=j) (v:=v1) p (jc2 p j3) (by rw [jjE _ _ _ _ (by omega) rE (by omega)];exact gO)]
     refine (jfZ (v:=v2) p j3 ?_).symm;rw [<-s7];simp only [D.cells];rw [aOG,if_pos (by omega),aOF]
     congr 1;omega
    ·exact lL q hq)
 ·exact hk.elim
end
section
variable {P:Program} {B:Nat} {w w0:World} {F:Nat->List Nat} {o:Nat->Ob}
theorem jhd {own:Bool}:∀{k:Nat} {cs:List D} {vs:List Value} {S:List Nat} {d:D},RepL w own cs vs S->cs[k]?=some d->
 ∃v SA Sd SC,vs[k]?=some v/\S=SA++Sd++SC/\Rep w own d v Sd/\∀d' Sd',Rep w own d' v Sd'->RepL w own (cs.set k d') vs (SA++Sd'++SC)
 |_,[],_,_,_,_,h=>by simp at h
 |0,e::cs,_,_,d,⟨v,vs',S1,S2,rfl,rfl,h1,h2⟩,h=>by
  simp at h;subst h;exact ⟨v,[],S1,S2,rfl,by simp,h1,λd' Sd' h3=>⟨v,vs',Sd',S2,rfl,by simp,h3,h2⟩⟩
 |k+1,e::cs,_,_,d,⟨v,vs',S1,S2,rfl,rfl,h1,h2⟩,h=>by
  simp at h;obtain ⟨v2,SA,Sd,SC,a1,rfl,a3,a4⟩:=jhd h2 h;exact ⟨v2,S1++SA,Sd,SC,by simpa using a1,by simp,a3,λd' Sd' h3=>⟨v,vs',S1,SA++Sd'++SC,rfl,by simp,h1,a4 d' Sd' h3⟩⟩
theorem jhZ:∀{c:Nat} {l:List Cell} {us:List Value} {S:List Nat} {d:D} {η:jm},CRel B w l us S->l[c]?=some (.own d η)->
 ∃u SA Sd SC,S=SA++Sd++SC/\d.isSl=true/\Rep w true d u Sd/\(∀p,η p=hdr w p d u)/\∀d' aH Sd',d'.isSl=true->Rep w true d' u Sd'->(∀p,aH p=hdr w p d' u)->CRel B w (l.set c (.own d' aH)) us (SA++Sd'++SC)
 |_,[],_,_,_,_,_,h=>by simp at h
 |0,.a _::l,_,_,d,η,_,h=>by simp at h
 |0,.own e ε::l,_,_,d,η,⟨u,us',S1,S2,rfl,rfl,h1,h2,h3,h4⟩,h=>by
  simp at h;obtain ⟨rfl,rfl⟩:=h;exact ⟨u,[],S1,S2,by simp,h1,h2,h3,λd' aH Sd' a1 a2 a3=>⟨u,us',Sd',S2,rfl,by simp,a1,a2,a3,h4⟩⟩
 |c+1,.a x::l,_,_,d,η,⟨u,us',rfl,h1,h2⟩,h=>by
  simp at h;obtain ⟨v,SA,Sd,SC,a1,a2,a3,a4,a5⟩:=jhZ h2 h;exact ⟨v,SA,Sd,SC,a1,a2,a3,a4,λd' aH Sd' b1 b2 b3=>⟨u,us',rfl,h1,a5 d' aH Sd' b1 b2 b3⟩⟩
 |c+1,.own e ε::l,_,_,d,η,⟨u,us',S1,S2,rfl,rfl,h1,h2,h3,h4⟩,h=>by
  simp at h;obtain ⟨v,SA,Sd,SC,rfl,a2,a3,a4,a5⟩:=jhZ h4 h;exact ⟨v,S1++SA,Sd,SC,by simp,a2,a3,a4,λd' aH Sd' b1 b2 b3=>⟨u,us',S1,SA++Sd'++SC,rfl,by simp,h1,h2,h3,a5 d' aH Sd' b1 b2 b3⟩⟩
theorem jlQ {ob:Ob} {c:Nat} {S:List Nat} {d:D} {η:jm} (ho:ORel B w ob S) (h:ob.own c=some (d,η)):
 ∃u SA Sd SC,S=SA++Sd++SC/\d.isSl=true/\Rep w true d u Sd/\(∀p,η p=hdr w p d u)/\∀d' aH Sd',d'.isSl=true->Rep w true d' u Sd'->(∀p,aH p=hdr w p d' u)->ORel B w (ob.putOwn c d' aH) (SA++Sd'++SC):=by
 cases ob with
 |none=>cases h
 |loose e ε=>
  cases c with
  |succ c=>cases h
  |zero=>
   simp only [Ob.own,Option.some.injEq,Prod.mk.injEq] at h;obtain ⟨rfl,rfl⟩:=h;obtain ⟨h1,u,h2,h3⟩:=ho;exact ⟨u,[],S,[],by simp,h1,h2,h3,λd' aH Sd' a1 a2 a3=>⟨a1,u,by simpa using a2,a3⟩⟩
 |box b ty l=>
  simp only [Ob.own] at h;split at h
  ·rename_i e ε he
   simp only [Option.some.injEq,Prod.mk.injEq] at h;obtain ⟨rfl,rfl⟩:=h;obtain ⟨us,S1,h1,h2,rfl⟩:=ho;obtain ⟨u,SA,Sd,SC,rfl,a2,a3,a4,a5⟩:=jhZ h2 he;exact ⟨u,b::SA,Sd,SC,by simp,a2,a3,a4,λd' aH Sd' b1 b2 b3=>⟨us,SA++Sd'++SC,h1,a5 d' aH Sd' b1 b2 b3,by simp⟩⟩
  ·cases h
theorem jnq {B:Nat} {w:World} {ob:Ob} {S:List Nat} {c k sz tyo:Nat} {ds0:List D} {e:D} {η:jm} (h:ORel B w ob S) (ho:ob.own c=some (.sl sz tyo ds0,η)) (hk:ds0[k]?=some e):
 ∃v Sk,Rep w true e v Sk/\(e.isSl=true->η [k]=v)/\(∀x,e=.val x->v=x)/\(∀b∈Sk,b∈S)/\(S.Nodup->Sk.Nodup)/\∀e' Sk',Rep w true e' v Sk'->∃aH S',ORel B w (ob.putOwn c (.sl sz tyo (ds0.set k e')) aH) S'/\aH []=η []/\∃R,S.Perm (R++Sk)/\S'.Perm (R++Sk'):=by
 obtain ⟨u,SA,Sd,SC,e1,a1,a2,a3,a4⟩:=jlQ h ho;obtain ⟨vs,T,S',bX,bZ,rfl⟩:=a2;obtain ⟨v,SA',Sk,SC',b1,rfl,b3,b4⟩:=jhd bZ hk
 have oJ:∀X:List Nat,(SA++(T++(SA'++X++SC'))++SC).Perm ((SA++(T++(SA'++[]++SC'))++SC)++X):=λX=>by
  have e1:SA++(T++(SA'++X++SC'))++SC=(SA++(T++SA'))++(X++(SC'++SC)):=by simp
  have e2:(SA++(T++(SA'++[]++SC'))++SC)++X=(SA++(T++SA'))++((SC'++SC)++X):=by simp
  rw [e1,e2];exact aPD _ aPE
 refine ⟨v,Sk,b3,λhs=>?_,λx hx=>?_,λb hb=>by rw [e1];simp [hb],λaX=>?_,λe' Sk' hr=>?_⟩
 ·rw [a3]
  rcases qJ bX with ⟨_,rfl⟩|⟨gg,nn,cc,rfl,_,_,bU,_⟩
  ·simp at b1
  ·simp only [hdr,hk,aOK,bU k v b1,aMM]
   exact jao hs
 ·subst hx;exact b3.1
 ·rw [e1] at aX
  exact (aMS.1 ((oJ Sk).nodup_iff.1 aX)).2.1
 ·have bG:Rep w true (.sl sz tyo (ds0.set k e')) u (T++(SA'++Sk'++SC')):=⟨vs,T,_,bX,b4 _ _ hr,rfl⟩
  refine ⟨λp=>hdr w p (.sl sz tyo (ds0.set k e')) u,_,a4 _ _ _ rfl bG (λ_=>rfl),by rw [a3];rfl,_,by rw [e1];exact oJ Sk,oJ Sk'⟩
end
section
variable {P:Program} {β B N:Nat} {w w0:World} {s:St} {a:Act} {F:Nat->List Nat} {o:Oper} {K:St->Prop}
theorem qd {α:Type}:∀(xs us:List α) (k:Nat),k+xs.length<=us.length->kI us k xs=us.take k++xs++us.drop (k+xs.length)
 |[],us,k,_=>by simp [kI]
 |x::xs,us,k,h=>by
  have hk:k<us.length:=by simp at h;omega
  rw [kI,qd xs (us.set k x) (k+1) (by simp at h⊢;omega)]
  have e1:(us.set k x).take (k+1)=us.take k++[x]:=by
   rw [aMT,List.take_set_of_le (aMV _)];simp [hk]
  have e2:(us.set k x).drop (k+1+xs.length)=us.drop (k+(x::xs).length):=by
   rw [List.drop_set_of_lt (by omega)]
   congr 1
   simp;omega
  rw [e1,e2];simp
theorem jrZ (h:RelF B w0 N s a w F) {size:Nat}:∀{parts:List (Nat×Operand)} {ps:List (Nat×Nat×X)} {l:List A0} {k:Nat} {us:List Value},jc6 (λi=>some (i*size,size)) parts=some ps->jtB s ps=some l->parts.map (·.1)=List.range' k parts.length->us.length=(k+parts.length)*size->
 ∃xs:List Value,A0RelL B w l xs/\xs.length=parts.length*size/\Instr.fill (λi=>some (i*size,size)) us.toArray (parts.map λp=>(p.1,a.eval p.2))=some (us.take (k*size)++xs).toArray
 |[],ps,l,k,us,h1,h2,_,h4=>by
  simp [jc6] at h1;subst h1;simp [jtB] at h2;subst h2;refine ⟨[],rfl,by simp,?_⟩
  simp at h4;simp [Instr.fill,<-h4]
 |(i,x)::parts,ps,l,k,us,h1,h2,h3,h4=>by
  simp only [jc6] at h1;split at h1
  ·rename_i off n x' ps' k1 k2 k3
   simp at h1;subst h1;simp only [aNQ,aNG,List.range'_succ,List.cons.injEq] at h3;obtain ⟨rfl,h3⟩:=h3;simp only [jtB] at h2;split at h2
   ·rename_i m r k4 k5
    split at h2
    ·rename_i k6
     simp at h2;subst h2;obtain ⟨xs,k7,k8⟩:=VRel.cells (qV h k2) k4;have f8:=A0RelL.len k8;simp only [Option.some.injEq,Prod.mk.injEq] at k1;obtain ⟨rfl,rfl⟩:=k1;have cR:i*size+size+parts.length*size=us.length:=by rw [h4,aNG,aPP,aPP,Nat.one_mul];omega
     have cX:i*size+xs.length<=us.length:=by omega
     obtain ⟨ys,k9,k10,k11⟩:=jrZ h (k:=i+1) (us:=kI us (i*size) xs) k3 k5 h3 (by rw [jnW,h4,aNG];congr 1;omega)
     have t8:∀(l m:List A0) (us vs:List Value),A0RelL B w l us->A0RelL B w m vs->A0RelL B w (l++m) (us++vs):=by
      intro l
      induction l with
      |nil=>intro m us vs h1 h2;rw [show us=[] from h1];exact h2
      |cons x l ih=>intro m us vs h1 h2;obtain ⟨u,us',rfl,h3,h4⟩:=h1;exact ⟨u,_,rfl,h3,ih m us' vs h4 h2⟩
     refine ⟨xs++ys,t8 _ _ _ _ k8 k9,by rw [aMR,f8,k6,k10,aNG,aPP,Nat.one_mul];omega,?_⟩
     have e2:=jhm (i*size) xs 0 us;simp only [aMX] at e2;have e1:¬(xs.length≠size\/us.length<i*size+xs.length):=by omega
     simp only [aNQ,Instr.fill,k7];rw [if_neg (by simpa using e1)]
     rw [<-Array.foldl_toList,Array.toList_zipIdx];rw [show (xs.toArray.toList.zipIdx 0)=xs.zipIdx 0 from rfl,e2]
     rw [k11]
     congr 2
     have hx:xs.length=size:=by omega
     have e3:(i+1)*size=(us.take (i*size)++xs).length:=by rw [aMR,aMP,aPP,Nat.one_mul];omega
     rw [qd xs us (i*size) cX,e3,List.take_left];simp
    ·simp at h2
   ·simp at h2
  ·simp at h1
theorem jCg (h:RelF B w0 N s a w F) {t e:TypeId} {n size:Nat} {parts:Array (Nat×Operand)} {ps:List (Nat×Nat×X)} {g:Option (Nat×Bool)} {zs:List Value} {ks:List (Option (Nat×Nat))} (ho:o.op=.buildSlice t n parts) (ht:P.underlying t=some (.slice e)) (cR:qi P e=some size) (hs:0<size) (hz:vJ P e=some zs)
 (xM:parts.toList.map (·.1)=List.range n) (hsm:n*size<1000) (rZ:jc6 (λi=>some (i*size,size)) parts.toList=some ps) (hd:∀k,o.dst=some k->k<N) (hr:vv P β ⟨o.dst,g,.bsl e size n ks ps⟩ s K):
 OpOk P o a w (λa' w'=>∃s' F',RelF B w0 N s' a' w' F'/\K s'):=by
 obtain ⟨l,h1,h2⟩:=hr;have iW:parts.toList.length=n:=by have:=congrArg List.length xM;simpa using this
 obtain ⟨inf,fA,oC⟩:=jjC cR
 have eJ:∃z,inf.zero=some z:=by
  unfold vJ at hz;rw [fA] at hz;simp only at hz;split at hz
  ·exact ⟨_,by assumption⟩
  ·simp at hz
 obtain ⟨z,eJ⟩:=eJ
 have xR:∀us:List Value,us.length=n*size->∃xs:List Value,A0RelL B w l xs/\xs.length=n*size/\Instr.fill (λi=>some (i*size,size)) us.toArray (parts.toList.map λp=>(p.1,a.eval p.2))=some xs.toArray:=λus uQ=>by
  obtain ⟨xs,k1,k2,k3⟩:=jrZ h (k:=0) (us:=us) rZ h1 (by rw [xM,iW,List.range_eq_range']) (by rw [uQ,iW,aOK])
  rw [iW] at k2;refine ⟨xs,k1,k2,?_⟩;rw [k3];simp
 obtain ⟨xs,h3,h4,aS⟩:∃xs:List Value,A0RelL B w l xs/\xs.length=n*size/\(execOp a.eval o).run P w=.ok (.value (.slice (some ⟨w.heap.size,0,none⟩) n n)) (w.alloc (.cells xs.toArray e)):=by
  have d7:¬(16777216<n*size):=by omega
  have sD:(parts.map λ(p:Nat×Operand)=>(p.1,a.eval p.2)).toList=parts.toList.map λp=>(p.1,a.eval p.2):=by simp
  have hf:∀f:Nat->Value,∃xs:List Value,A0RelL B w l xs/\xs.length=n*size/\Instr.fill (λi=>some (i*size,size)) ((Array.range (n*size)).map f) (parts.toList.map λp=>(p.1,a.eval p.2))=some xs.toArray:=λf=>by
   obtain ⟨xs,k1,k2,k3⟩:=xR ((Array.range (n*size)).map f).toList (by simp)
   rw [Array.toArray_toList] at k3;exact ⟨xs,k1,k2,k3⟩
  by_cases h0:n*size=0
  ·obtain ⟨xs,k1,k2,k3⟩:=hf λi=>(#[]:Array Value)[i%0]!
   refine ⟨xs,k1,k2,?_⟩;rw [h0] at k3
   have sB:n=0:=by
    rcases Nat.mul_eq_zero.1 h0 with h|h
    ·exact h
    ·omega
   subst sB;have wX:parts.toList=[]:=aNF iW;have tL:parts=#[]:=by rw [<-Array.toArray_toList (xs:=parts),wX]
   have mG:xs=[]:=aNF (by rw [k2,Nat.zero_mul])
   subst mG;simp [execOp,ho,Instr.buildSlice,run_underlying ht,sizeOf,typeInfo,fA,oC,tL,Instr.fill,newRow,Array.range_zero']
  ·obtain ⟨xs,k1,k2,k3⟩:=hf λi=>z.cells[i%z.cells.size]!
   refine ⟨xs,k1,k2,?_⟩;have w8:¬(n*size>2^24):=by omega
   simp only [execOp,ho,Sem.run_bind,Instr.buildSlice,run_underlying ht,Result.andThen_ok,sizeOf,typeInfo,fA,oC,Sem.run_pure,if_neg w8,if_neg h0,zeroValue,eJ,sD,k3];simp [fA,oC,w8,h0,eJ,sD,k3,newRow]
 obtain ⟨cs,s',S,F',⟨ds,kd,kk⟩,k2,k3,k4,k5,k6,k7,_⟩:=jbY h h3 h2;have hb:Below w.heap.size w (w.alloc (.cells xs.toArray e)):=(Below.refl _ _).alloc (aMV _) _;have hB:B<=w.heap.size:=aNX h.hB h.below.size;have o5:∀b∈S,b<w.heap.size:=λb bA=>k2.lt b bA
 have bZ:=jgd k2 kd;have tH:RepL (w.alloc (.cells xs.toArray e)) true ds xs S:=RepL.keep _ bZ λb bA=>hb.block b (o5 b bA)
 have bR:Rep (w.alloc (.cells xs.toArray e)) true (.sl size e ds) (.slice (some ⟨w.heap.size,0,none⟩) n n) (w.heap.size::S):=
  ⟨xs,[w.heap.size],S,⟨n,World.ownsRow_lit w xs.toArray n (aNE _) (by unfold maxLen;have:n<=n*size:=Nat.le_mul_of_pos_right _ hs;omega) (by simpa using h4),rfl⟩,tH,rfl⟩
 have o7:∀g,∀b∈F' g,b<w.heap.size:=λg b bA=>(k3.ob g).lt b bA
 have bL:ORel B (w.alloc (.cells xs.toArray e)) (.loose (.sl size e ds) (λp=>hdr (w.alloc (.cells xs.toArray e)) p (.sl size e ds) (.slice (some ⟨w.heap.size,0,none⟩) n n))) (w.heap.size::S):=⟨rfl,_,bR,λ_=>rfl⟩
 have h5:=(k3.world hb).setO (g:=100*(β+o.dst.getD 0)) bL ⟨aOP.2 ⟨λhh=>by have:=o5 _ hh;omega,k4.1⟩,λb bA=>by rcases aNB.1 bA with rfl|bA;exact hB;exact k4.2 b bA⟩ (λg' _ b bA=>by
  rcases aNB.1 bA with rfl|bA
  ·exact λhh=>by have:=o7 g' _ hh;omega
  ·exact k5 g' b bA)
 have hv:VRel B (w.alloc (.cells xs.toArray e)) (.c (.h (100*(β+o.dst.getD 0)) 0 [] (.slice (some ⟨w.heap.size,0,none⟩) n n))) (.slice (some ⟨w.heap.size,0,none⟩) n n):=⟨rfl,rfl⟩;exact OpOk.of_run aS ⟨_,_,h5.put hv hd,kk _⟩
theorem jrR (h:RelF B w0 N s a w F) {e size:Nat} {x:AV} {u:Value} {K:List D->St->Prop} (hv:VRel B w x u) (hk:ji5 s e size x K):
 ∃xs s' S F',K xs s'/\Rep w true (.sl size e xs) u S/\RelF B w0 N s' a w F'/\Fresh B S/\(∀g,∀b∈S,b∉F' g)/\(∀g b,b∈F' g->b∈F g)/\∀b∈S,∃g,b∈F g:=by
 unfold ji5 at hk;split at hk
 ·have hu:u=.slice none 0 0:=hv
  subst hu;exact ⟨[],s,[],F,hk,Rep.nil_ w size e,h,Fresh.nil _,by simp,λ_ _ h=>h,by simp⟩
 ·rename_i g c p x'
  rcases hk with ⟨rfl,cs,η,ho,hx,hk⟩|⟨k,rfl,sz,tyo,ds0,cs,η,ho,hd,hx,hk⟩
  ·obtain ⟨u',S1,F1,j1,j2,j3,j4,j5,j6,j7,j8⟩:=h.rm ho
   have hu:u=u':=by rw [hv.1,<-hx,j3,jao j1]
   subst hu;exact ⟨cs,_,S1,F1,hk,j2,j5,j4,j6,j8,λb hb=>⟨g,j7 b hb⟩⟩
  ·obtain ⟨v,Sk,a1,a2,_,a4,a5,a6⟩:=jnq (h.ob g) ho hd
   have hu:u=v:=by rw [hv.1,<-hx,a2 rfl]
   subst hu;obtain ⟨aH,S',b1,b2,R,b3,b4⟩:=a6 (.val u) [] ⟨rfl,rfl⟩;rw [aNI] at b4;have aX:=b3.nodup_iff.1 (h.fr g).1;have bB:∀b∈S',b∈F g:=λb hb=>b3.mem_iff.2 (aMN.2 (.inl (b4.mem_iff.1 hb)))
   have t1:=h.setO (g:=g) b1 ⟨b4.nodup_iff.2 (aMS.1 aX).1,λb hb=>(h.fr g).2 b (bB b hb)⟩ (λg' cV b hb hh=>h.dj g' g cV b hh (bB b hb))
   have hxu:x'=u:=by rw [<-hx,a2 rfl]
   refine ⟨cs,_,Sk,_,hk aH b2,a1,by rw [hxu];exact t1,⟨(aMS.1 aX).2.1,λb hb=>(h.fr g).2 b (a4 b hb)⟩,λg' b hb hh=>?_,λg' b hb=>?_,λb hb=>⟨g,a4 b hb⟩⟩
   ·split at hh
    ·exact (aMS.1 aX).2.2 b (b4.mem_iff.1 hh) b hb rfl
    ·rename_i xQ
     exact h.dj g' g xQ b hh (a4 b hb)
   ·split at hb
    ·rename_i e;rw [e];exact bB b hb
    ·exact hb
 ·exact hk.elim
theorem jrI:∀{ds:List D} {us:List Value} {S:List Nat} {own:Bool},jZ ds=true->RepL w own ds us S->(∀u∈us,u.oneCell'=true)/\∀(w':World) (own':Bool),RepL w' own' ds us []
 |[],us,S,own,_,h=>by obtain ⟨rfl,_⟩:=h;exact ⟨by simp,λ_ _=>⟨rfl,rfl⟩⟩
 |.val u::ds,us,S,own,hf,h=>by
  obtain ⟨v,vs',S1,S2,rfl,rfl,h3,h4⟩:=h;simp only [jZ,aMY] at hf;obtain ⟨h5,h6⟩:=jrI hf.2 h4;obtain ⟨rfl,rfl⟩:=h3;refine ⟨λu hu=>?_,λw' own'=>RepL.val_ (h6 w' own')⟩
  rcases aNB.1 hu with rfl|hu
  ·exact hf.1
  ·exact h5 u hu
 |.sl _ _ _::_,_,_,_,hf,_=>by simp [jZ] at hf
theorem juQ {own:Bool}:∀{ds:List D} {us:List Value} {S:List Nat},RepL w own ds us S->(∀d∈ds,∀u,d=.val u->u.oneCell'=true)->∀u∈us,u.oneCell'=true
 |[],us,S,h,_=>by obtain ⟨rfl,_⟩:=h;simp
 |d::ds,us,S,h,hd=>by
  obtain ⟨v,vs',S1,S2,rfl,rfl,h3,h4⟩:=h;intro u hu;rcases aNB.1 hu with rfl|hu
  ·cases d with
   |val x=>obtain ⟨rfl,_⟩:=h3;exact hd _ (by simp) _ rfl
   |sl _ _ _=>obtain ⟨_,_,_,rfl⟩:=zq h3;rfl
  ·exact juQ h4 (λd' rG=>hd d' (by simp [rG])) u hu
theorem jmh {t e:TypeId} {i:TypeInfo} {zs:List Value} (ht:P.underlying t=some (.slice e)) (hi:P.info? e=some i) (hz:vJ P e=some zs) (hs:0<i.size) {ty:TypeId} {xs ys:List D} {v:Value} {S Sy:List Nat}
 (bG:Rep w true (.sl i.size e xs) v S) {A:Option Addr} {m c:Nat} {news:List Value} (hy:RepL w true ys news Sy) (hm:news.length=m*i.size) (hA:A=none->m=0/\c=0) (dP:∀ad,A=some ad->∀j u,news[j]?=some u->w.cell? (ad.add j)=some u)
 (h1:∀u∈news,u.oneCell'=true) (hF:Fresh B (S++Sy)) (hB:B<=w.heap.size) (pR:xs.length/i.size+ys.length/i.size<=maxLen) (dX:(xs.length/i.size+ys.length/i.size)*i.bytes<=140737488355328):
 ∃v' w' S',(Builtin.append_ #[t,t] ty #[v,.slice A m c]).run P w=.ok v' w'/\Rep w' true (.sl i.size e (xs++ys)) v' S'/\Fresh B S'/\Only S w w'/\∀s∈S',s∈S\/s∈Sy\/w.heap.size<=s:=by
 obtain ⟨vs,T,S1,⟨n,bR,rfl⟩,bZ,rfl⟩:=bG;have bN:=RepL.length _ bZ;have yQ:=RepL.length _ hy;have wG:xs.length/i.size=n:=by rw [<-bN,bR.1];exact aNN _ hs
 have hyn:ys.length/i.size=m:=by rw [<-yQ,hm];exact aNN _ hs
 rw [wG,hyn] at pR dX;unfold vJ at hz;rw [hi] at hz;simp only at hz;split at hz
 ·rename_i z eJ
  split at hz
  ·rename_i nI
   simp only [aMY,aNC] at nI;cases A with
   |none=>
    obtain ⟨rfl,rfl⟩:=hA rfl;have mM:news=[]:=aNF (by rw [hm,Nat.zero_mul])
    subst mM;have sV:ys=[]:=aNF (by rw [<-yQ];rfl)
    subst sV;exact ⟨v,w,blk v++S1,run_append_owned_none (P:=P) w 0 t ty e i i.size ht hi v n vs bR,by rw [aNI];exact ⟨vs,blk v,S1,⟨n,bR,rfl⟩,bZ,rfl⟩,hF.left,Only.refl _ _,λs hs=>.inl hs⟩
   |some ad=>
    have oM:=dP ad rfl;obtain ⟨v',w',hr,h2,h3,_⟩:=run_append_own (P:=P) w 0 t ty e i z i.size i.bytes ht hi eJ rfl rfl nI.1 hs v n vs bR ad m c news hm oM h1 pR dX (aNE _);have dF:Only (blk v++S1) w w':=Only.of_grown h3 (λb hb=>by simp [hb])
    have eR:Only (blk v) w w':=Only.of_grown h3 (λb hb=>hb)
    have i7:∀s∈S1++Sy,s∉blk v:=λs hs hb=>by
     have:=hF.1;rw [aNA] at this;exact (aMS.1 this).2.2 s hb s hs rfl
    have cA:∀b∈blk v',b∈blk v\/b=w.heap.size:=jmi ht hi eJ bR hm oM h1 pR dX hr
    have eM:Rep w' true (.sl i.size e (xs++ys)) v' (blk v'++(S1++Sy)):=
     ⟨vs++news,blk v',S1++Sy,⟨n+m,h2,rfl⟩,RepL.append_ _ (bZ.only eR λs hs=>i7 s (by simp [hs])) (hy.only eR λs hs=>i7 s (by simp [hs])),rfl⟩
    have aB:∀s∈S1++Sy,s<w.heap.size:=λs hs=>by
     rcases aMN.1 hs with hs|hs
     ·exact RepL.lt _ bZ s hs
     ·exact RepL.lt _ hy s hs
    refine ⟨v',w',_,hr,eM,?_,dF,λs hs=>?_⟩
    ·rw [aNA] at hF
     refine ⟨aMS.2 ⟨?_,(aMS.1 hF.1).2.1,λa ha b hb e=>?_⟩,λb hb=>?_⟩
     ·rcases h2.2 with ⟨rfl,_⟩|⟨g,cap,cur,rfl,_⟩<;>simp [blk]
     ·subst e
      rcases cA a ha with h4|h4
      ·exact i7 a hb h4
      ·have:=aB a hb;omega
     ·rcases aMN.1 hb with hb|hb
      ·rcases cA b hb with h4|h4
       ·exact hF.2 b (by simp [h4])
       ·omega
      ·exact hF.2 b (by rw [aMN];exact .inr hb)
    ·rcases aMN.1 hs with hs|hs
     ·rcases cA s hs with h4|h4
      ·exact .inl (by simp [h4])
      ·right;right;omega
     ·rcases aMN.1 hs with hs|hs
      ·exact .inl (by simp [hs])
      ·exact .inr (.inl hs)
  ·simp at hz
 ·simp at hz
theorem jzu (h:RelF B w0 N s a w F) {size:Nat} (hs:0<size) {x:AV} {u:Value} {K:List D->St->Prop} (hv:VRel B w x u) (hk:jwF s size x K):
 ∃ys s' Sy F' A m c news,K ys s'/\u=.slice A m c/\RepL w true ys news Sy/\news.length=m*size/\(A=none->m=0/\c=0)/\(∀b o,A=some ⟨b,o,none⟩->∀j u,news[j]?=some u->w.cell? ⟨b,o+j,none⟩=some u)/\(∀ad,A=some ad->ad.spot=none\/news=[])/\(∀u∈news,u.oneCell'=true)/\
  RelF B w0 N s' a w F'/\Fresh B Sy/\(∀g,∀b∈Sy,b∉F' g)/\(∀g b,b∈F' g->b∈F g)/\∀b∈Sy,∃g,b∈F g:=by
 have flat:∀(dd:D) (S:List Nat),dd.isSl=true->dd.size=size->jZ dd.cells=true->Rep w false dd u S->K dd.cells s->
  ∃ys s' Sy F' A m c news,K ys s'/\u=.slice A m c/\RepL w true ys news Sy/\news.length=m*size/\(A=none->m=0/\c=0)/\(∀b o,A=some ⟨b,o,none⟩->∀j u,news[j]?=some u->w.cell? ⟨b,o+j,none⟩=some u)/\(∀ad,A=some ad->ad.spot=none\/news=[])/\(∀u∈news,u.oneCell'=true)/\
  RelF B w0 N s' a w F'/\Fresh B Sy/\(∀g,∀b∈Sy,b∉F' g)/\(∀g b,b∈F' g->b∈F g)/\∀b∈Sy,∃g,b∈F g:=by
  intro dd S k1 k2 k3 k4 k5;cases dd with
  |val _=>cases k1
  |sl size' ty cs=>
   have k2':size'=size:=k2;subst k2';obtain ⟨A,n,c,vs,S',rfl,j1,j2,_,j4,j5,j6,j7⟩:=zW k4;obtain ⟨j8,j9⟩:=jrI k3 j2;have bN:=RepL.length _ j2;refine ⟨cs,s,[],F,A,n,c,vs,k5,rfl,j9 w true,by rw [bN,j1],λhA=>?_,λb o' hA j u hu=>?_,λad hA=>?_,j8,h,Fresh.nil _,by simp,λ_ _ h=>h,by simp⟩
   ·have:=j6 hA;omega
   ·obtain ⟨b',o'',uL,_,j10⟩:=j7 (λe=>by subst e;simp at hu)
    rw [uL] at hA;cases hA;exact j10 j u hu
   ·by_cases aR:vs=[]
    ·exact .inr aR
    ·obtain ⟨b',o'',uL,_⟩:=j7 aR
     rw [uL] at hA;cases hA;exact .inl rfl
 unfold jwF at hk;split at hk
 ·have hu:u=.slice none 0 0:=hv
  subst hu;exact ⟨[],s,[],F,none,0,0,[],hk,rfl,⟨rfl,rfl⟩,by simp,λ_=>⟨rfl,rfl⟩,by simp,by simp,by simp,h,Fresh.nil _,by simp,λ_ _ h=>h,by simp⟩
 ·rename_i dd
  obtain ⟨k1,k2,k3,k4⟩:=hk;obtain ⟨_,S,k5,_⟩:=hv;exact flat dd S k1 k2 k3 k5 k4
 ·rename_i g c p x' sz lo m
  obtain ⟨dd,k1,k2,k3,k4⟩:=hk;have rV:A0Rel B w (.hs g c p x' sz lo m) u:=hv;obtain ⟨S,k5⟩:=jj5 h rV k1;obtain ⟨_,_,d1,_,_,_,k6,_,_,_,rfl⟩:=k1;exact flat _ S (by cases d1 with|val _=>cases k6|sl _ _ _=>rfl) k2 k3 k5 k4
 ·rename_i g c p x'
  obtain ⟨dd,k1,k2,k3⟩:=hk;have rV:A0Rel B w (.h g c p x') u:=hv;obtain ⟨S,k4⟩:=jj5 h rV k1;split at k3
  ·rename_i k5
   obtain ⟨_,_,_,_,_,k7⟩:=k1;exact flat dd S k7 k2 k5 k4 k3
  ·obtain ⟨rfl,k5,k6⟩:=k3
   obtain ⟨d0,η,k7,k8,k9,k10⟩:=k1;simp [D.get] at k9;subst k9;obtain ⟨u',S1,F1,j1,j2,j3,j4,j5,j6,j7,j8⟩:=h.rm k7;have hu:u=u':=by rw [rV.1,<-k8,j3,jao j1]
   subst hu;cases d0 with
   |val _=>cases j1
   |sl size' ty cs=>
    have k2':size'=size:=k2;subst k2';obtain ⟨vs,T,S2,m1,m2,rfl⟩:=j2;have bN:=RepL.length _ m2
    have eZ:∀u∈vs,u.oneCell'=true:=juQ m2 (by
     have key:∀l:List D,jjY l=true->∀d∈l,∀u,d=.val u->u.oneCell'=true:=by
      intro l
      induction l with
      |nil=>intro _ d hd;simp at hd
      |cons x l ih=>
       intro hl d hd u hu;cases x with
       |val v=>
        simp only [jjY,aMY] at hl;rcases aNB.1 hd with rfl|hd
        ·cases hu;exact hl.1
        ·exact ih hl.2 d hd u hu
       |sl _ _ _=>
        rcases aNB.1 hd with rfl|hd
        ·cases hu
        ·exact ih hl d hd u hu
     exact key cs k5)
    have bB:∀b∈S2,b∈T++S2:=λb hb=>by simp [hb]
    rcases qJ m1 with ⟨rfl,rfl⟩|⟨gg,nn,cc,rfl,rfl,m3,m4,_⟩
    ·refine ⟨cs,_,S2,F1,none,0,0,[],k6,rfl,m2,by simp,λ_=>⟨rfl,rfl⟩,by simp,by simp,by simp,j5,j4.right,λg' b hb=>j6 g' b (bB b hb),j8,λb hb=>⟨g,j7 b (bB b hb)⟩⟩
    ·refine ⟨cs,_,S2,F1,_,nn,cc,vs,k6,rfl,m2,m3,λhA=>(by cases hA),λb o' hA j u hu=>?_,λad hA=>?_,eZ,j5,j4.right,λg' b hb=>j6 g' b (bB b hb),j8,λb hb=>⟨g,j7 b (bB b hb)⟩⟩
     ·cases hA
      rw [aOK];exact m4 j u hu
     ·cases hA
      exact .inl rfl
 ·exact hk.elim
theorem jCi (h:RelF B w0 N s a w F) {c:Call} {t e:TypeId} {i:TypeInfo} {zs:List Value} {x y:Operand} {x' y':X} {g:Option (Nat×Bool)} (ho:o.op=.call c) (hc:c.callee=.builtin .append) (ha:c.args.toList=[x,y]) (wN:c.argTypes.toList=[t,t]) (ht:P.underlying t=some (.slice e)) (hi:P.info? e=some i) (hz:vJ P e=some zs) (hs:0<i.size)
 (hx:jQ x=some x') (hy:jQ y=some y') (hd:∀k,o.dst=some k->k<N) (hr:vv P β ⟨o.dst,g,.app e i.size i.bytes x' y'⟩ s K):OpOk P o a w (λa' w'=>∃s' F',RelF B w0 N s' a' w' F'/\K s'):=by
 have bE:jwF s i.size (s.ev y') λys s1=>ji5 s1 e i.size (s.ev x') λxs s2=>xs.length/i.size+ys.length/i.size<=maxLen/\(xs.length/i.size+ys.length/i.size)*i.bytes<=140737488355328/\
  ∀η,K ((s2.addO [(100*(β+o.dst.getD 0),.loose (.sl i.size e (xs++ys)) η)]).put o.dst (.c (.h (100*(β+o.dst.getD 0)) 0 [] (η [])))):=hr
 obtain ⟨ys,s1,Sy,F1,A,m,cc,news,cL,e1,r1,r2,r3,r4,r5,r6,h1,r7,r8,r9,r10⟩:=jzu h hs (qV h hy) bE;obtain ⟨xs,s2,S,F2,⟨q1,q2,q3⟩,q4,h2,q5,q6,q7,q8⟩:=jrR h1 (qV h hx) cL;have cF:c.args=#[x,y]:=by rw [<-Array.toArray_toList (xs:=c.args),ha]
 have nJ:c.argTypes=#[t,t]:=by rw [<-Array.toArray_toList (xs:=c.argTypes),wN]
 have hB:B<=w.heap.size:=aNX h.hB h.below.size
 have fT:∀b∈S,b∉Sy:=λb hb bA=>by
  obtain ⟨g',cV⟩:=q8 b hb;exact r8 g' b bA cV
 have hF:Fresh B (S++Sy):=⟨aMS.2 ⟨q5.1,r7.1,λp hp q hq e=>fT p hp (e▸hq)⟩,λb hb=>by rcases aMN.1 hb with hb|hb;exact q5.2 b hb;exact r7.2 b hb⟩
 obtain ⟨v',w',S',aS,bG,hFr,dF,uC⟩:=jmh (B:=B) (ty:=o.type) ht hi hz hs q4 r1 r2 r3 (λad hA j u hu=>by
  rcases r5 ad hA with h5|h5
  ·obtain ⟨b,o',sp⟩:=ad
   simp only at h5;subst h5;rw [jam];exact r4 b o' hA j u hu
  ·subst h5;simp at hu) r6 hF hB q1 q2
 have oE:(execOp a.eval o).run P w=.ok (.value v') w':=by
  simp [execOp,ho,resolve,hc,cF,nJ,e1,invoke,builtin,aS]
 have hb:Below B w w':=dF.below (λb hb=>q5.2 b hb) hB
 have h3:=h2.world' hb λg b bA=>dF.block b ((h2.ob g).lt b bA) λhh=>q6 g b hh bA
 have bL:ORel B w' (.loose (.sl i.size e (xs++ys)) (λp=>hdr w' p (.sl i.size e (xs++ys)) v')) S':=⟨rfl,v',bG,λ_=>rfl⟩
 have h4:=h3.setO (g:=100*(β+o.dst.getD 0)) bL hFr (λg' _ b bA=>by
  rcases uC b bA with h5|h5|h5
  ·exact q6 g' b h5
  ·exact λhh=>r8 g' b h5 (q7 g' b hh)
  ·exact λhh=>by have:=(h2.ob g').lt b hh;omega)
 have hv:VRel B w' (.c (.h (100*(β+o.dst.getD 0)) 0 [] v')) v':=⟨rfl,by obtain ⟨_,_,_,rfl⟩:=zq bG;rfl⟩
 exact OpOk.of_run oE ⟨_,_,h4.put hv hd,q3 _⟩
theorem jln {t u e:TypeId} {i:TypeInfo} (ht:P.underlying t=some (.slice e)) (hu:P.underlying u=some .string) (hi:P.info? e=some i) (hz:i.zero=some (.int .u8 0)) (hs:i.size=1) (pQ:i.bytes=1) {ty:TypeId} {xs:List D} {v:Value} {S:List Nat}
 (bG:Rep w true (.sl 1 e xs) v S) (b:ByteArray) (hF:Fresh B S) (hB:B<=w.heap.size) (aD:xs.length+b.size<=140737488355328):
 ∃v' w' S',(Builtin.append_ #[t,u] ty #[v,.string b]).run P w=.ok v' w'/\Rep w' true (.sl 1 e (xs++strCells b)) v' S'/\Fresh B S'/\Only S w w'/\∀s∈S',s∈S\/w.heap.size<=s:=by
 obtain ⟨vs,T,S1,⟨n,bR,rfl⟩,bZ,rfl⟩:=bG;have bN:=RepL.length _ bZ;have iV:vs.length=n:=by simpa using bR.1
 have pR:n+b.size<=maxLen:=by unfold maxLen;omega
 obtain ⟨v',w',hr,h2,h3,_⟩:=Go.Lib.run_append_own_string (P:=P) w 0 t u ty e i ht hu hi hz hs pQ v n vs bR b pR (by omega) (aNE _)
 have dF:Only (blk v++S1) w w':=Only.of_grown h3 (λb hb=>by simp [hb])
 have eR:Only (blk v) w w':=Only.of_grown h3 (λb hb=>hb)
 have i7:∀s∈S1,s∉blk v:=λs hs hb=>(aMS.1 hF.1).2.2 s hb s hs rfl
 have cA:∀b∈blk v',b∈blk v\/b=w.heap.size:=by
  intro g hg;by_cases sM:b.size=0
  ·rcases bR.2 with ⟨rfl,rfl⟩|⟨g',cap,cur,rfl,_,cV,mL,nU,fF,gP⟩
   ·
    have gD:b=ByteArray.empty:=by
     cases b with
     |mk d=>simp [ByteArray.size] at sM;subst sM;rfl
    have:(Builtin.append_ #[t,u] ty #[.slice none 0 0,.string b]).run P w=.ok (.slice none 0 0) w:=by
     simp [Builtin.append_,run_underlying ht,run_underlying hu,sizeOf,typeInfo,hi,Builtin.lenOf,sM,Builtin.firstCells]
    rw [this] at hr;injection hr with e1 _;subst e1;simp [blk] at hg
   ·rw [Go.Lib.run_append_room_string (P:=P) w t u ty e i ht hu hi hs g' n cap cur cV b (by omega) (by omega)] at hr
    injection hr with e1 _;subst e1;exact .inl (by simpa [blk] using hg)
  ·rcases bR.2 with ⟨rfl,rfl⟩|⟨g',cap,cur,rfl,_,cV,mL,nU,fF,gP⟩
   ·rw [run_append_nil_string (P:=P) w t u ty e i _ ht hu hi hz b (by omega) (by omega) (by rw [pQ];omega)] at hr
    injection hr with e1 _;subst e1;exact .inr (by simpa [blk] using hg)
   ·by_cases bY:n+b.size<=cap
    ·rw [Go.Lib.run_append_room_string (P:=P) w t u ty e i ht hu hi hs g' n cap cur cV b bY (by omega)] at hr
     injection hr with e1 _;subst e1;exact .inl (by simpa [blk] using hg)
    ·rw [Go.Lib.run_append_grow_string (P:=P) w t u ty e i _ ht hu hi hz ⟨g',0,none⟩ n cap vs (by rw [hs];exact bR.1) (bR.cells (g:=g') rfl) b (by omega) (by omega) (growslice_fits (by omega) (by rw [pQ];omega))] at hr
     injection hr with e1 _;subst e1;exact .inr (by simpa [blk] using hg)
 have yQ:RepL w' true (strCells b) (Go.Lib.strCells b) []:=by
  have key:∀l:List UInt8,RepL w' true (l.map vt) (l.map λb=>Value.int .u8 b.toNat) []:=by
   intro l
   induction l with
   |nil=>exact ⟨rfl,rfl⟩
   |cons x l ih=>exact ⟨_,_,[],[],rfl,rfl,⟨rfl,rfl⟩,ih⟩
  exact key _
 have x8:=RepL.append_ _ (bZ.only eR λs hs=>i7 s hs) yQ
 rw [aNI] at x8;have eM:Rep w' true (.sl 1 e (xs++strCells b)) v' (blk v'++S1):=⟨vs++Go.Lib.strCells b,blk v',S1,⟨n+b.size,h2,rfl⟩,x8,rfl⟩;have aB:∀s∈S1,s<w.heap.size:=λs hs=>RepL.lt _ bZ s hs
 refine ⟨v',w',_,hr,eM,⟨aMS.2 ⟨?_,(aMS.1 hF.1).2.1,λp hp q hq e=>?_⟩,λp hp=>?_⟩,dF,λs hs=>?_⟩
 ·rcases h2.2 with ⟨rfl,_⟩|⟨g,cap,cur,rfl,_⟩<;>simp [blk]
 ·subst e
  rcases cA p hp with h4|h4
  ·exact i7 p hq h4
  ·have:=aB p hq;omega
 ·rcases aMN.1 hp with hp|hp
  ·rcases cA p hp with h4|h4
   ·exact hF.2 p (by simp [h4])
   ·omega
  ·exact hF.2 p (by simp [hp])
 ·rcases aMN.1 hs with hs|hs
  ·rcases cA s hs with h4|h4
   ·exact .inl (by simp [h4])
   ·exact .inr (by omega)
  ·exact .inl (by simp [hs])
theorem jz5 (h:RelF B w0 N s a w F) {c:Call} {t u e:TypeId} {i:TypeInfo} {x y:Operand} {x' y':X} {g:Option (Nat×Bool)} (ho:o.op=.call c) (hc:c.callee=.builtin .append) (ha:c.args.toList=[x,y]) (wN:c.argTypes.toList=[t,u]) (ht:P.underlying t=some (.slice e)) (hu:P.underlying u=some .string) (hi:P.info? e=some i) (eJ:i.zero=some (.int .u8 0)) (hs:i.size=1) (pQ:i.bytes=1)
 (hx:jQ x=some x') (hy:jQ y=some y') (hd:∀k,o.dst=some k->k<N) (hr:vv P β ⟨o.dst,g,.apps e x' y'⟩ s K):OpOk P o a w (λa' w'=>∃s' F',RelF B w0 N s' a' w' F'/\K s'):=by
 obtain ⟨b,k1,k2⟩:=hr;obtain ⟨xs,s2,S,F2,⟨q1,q3⟩,q4,h2,q5,q6,q7,q8⟩:=jrR h (qV h hx) k2;have cF:c.args=#[x,y]:=by rw [<-Array.toArray_toList (xs:=c.args),ha]
 have nJ:c.argTypes=#[t,u]:=by rw [<-Array.toArray_toList (xs:=c.argTypes),wN]
 have hB:B<=w.heap.size:=aNX h.hB h.below.size;obtain ⟨v',w',S',aS,bG,hFr,dF,uC⟩:=jln (B:=B) (ty:=o.type) ht hu hi eJ hs pQ q4 b q5 hB q1
 have oE:(execOp a.eval o).run P w=.ok (.value v') w':=by
  simp [execOp,ho,resolve,hc,cF,nJ,jiz h hy k1,invoke,builtin,aS]
 have hb:Below B w w':=dF.below (λb hb=>q5.2 b hb) hB
 have h3:=h2.world' hb λg b bA=>dF.block b ((h2.ob g).lt b bA) λhh=>q6 g b hh bA
 have bL:ORel B w' (.loose (.sl 1 e (xs++strCells b)) (λp=>hdr w' p (.sl 1 e (xs++strCells b)) v')) S':=⟨rfl,v',bG,λ_=>rfl⟩
 have h4:=h3.setO (g:=100*(β+o.dst.getD 0)) bL hFr (λg' _ b bA=>by
  rcases uC b bA with h5|h5
  ·exact q6 g' b h5
  ·exact λhh=>by have:=(h2.ob g').lt b hh;omega)
 have hv:VRel B w' (.c (.h (100*(β+o.dst.getD 0)) 0 [] v')) v':=⟨rfl,by obtain ⟨_,_,_,rfl⟩:=zq bG;rfl⟩
 exact OpOk.of_run oE ⟨_,_,h4.put hv hd,q3 _⟩
theorem jsd {z:Array Value} (hz:0<z.size) (n:Nat):(Builtin.zeroCells z n).toList=(List.replicate n z.toList).flatten:=by
 apply aOR
 intro j;by_cases hj:j<n*z.size
 ·rw [zV (by simp) hz n j hj]
  simp [Builtin.zeroCells,hj];rw [Array.getElem?_eq_getElem (Nat.mod_lt _ hz)];simp only [Option.some.injEq];exact getElem!_pos _ _ _
 ·rw [aOH (by simp [Builtin.zeroCells];omega),aOH (by simp;omega)]
theorem jra {zs:List D} {us:List Value} (h:RepL w true zs us []):∀(n:Nat),RepL w true (List.replicate n zs).flatten (List.replicate n us).flatten []
 |0=>⟨rfl,rfl⟩
 |n+1=>by
  simp only [List.replicate_succ,aPL];have:=RepL.append_ zs h (jra h n);simpa using this
theorem jxm {α:Type} {l:List α} (n:Nat):(List.replicate n l).flatten.length=n*l.length:=by simp
theorem jCf (h:RelF B w0 N s a w F) {cl:Call} {t e:TypeId} {i:TypeInfo} {zs:List Value} {x:Operand} {x':X} {ks:List (Option (Nat×Nat))} {g:Option (Nat×Bool)} (ho:o.op=.call cl) (hc:cl.callee=.builtin .clear) (ha:cl.args.toList=[x]) (wN:cl.argTypes.toList=[t]) (ht:P.underlying t=some (.slice e)) (hi:P.info? e=some i) (hz:vJ P e=some zs) (hs:0<i.size)
 (hx:jQ x=some x') (hr:vv P β ⟨o.dst,g,.clr i.size (js5 ks zs) x'⟩ s K):OpOk P o a w (λa' w'=>∃s' F',RelF B w0 N s' a' w' F'/\K s'):=by
 obtain ⟨oZ,hr⟩:=hr;simp only at oZ;have cF:cl.args=#[x]:=by rw [<-Array.toArray_toList (xs:=cl.args),ha]
 have nJ:cl.argTypes=#[t]:=by rw [<-Array.toArray_toList (xs:=cl.argTypes),wN]
 have hpu:∀v,a.put o.dst v=a:=λv=>by rw [oZ];rfl
 have pY:=qV h hx;split at hr
 ·rename_i he
  have hp:a.eval x=.slice none 0 0:=by rw [he] at pY;exact pY
  have aS:(execOp a.eval o).run P w=.ok (.value (.tuple #[])) w:=by
   simp [execOp,ho,resolve,hc,cF,nJ,hp,invoke,builtin,Builtin.clear_,run_underlying ht]
  exact OpOk.of_run aS (by rw [hpu];exact ⟨s,F,h,hr⟩)
 ·rename_i k c p mG sz lo n he
  obtain ⟨rfl,hn,d0,η,dd,j1,j2,j3,j4,j5,j6,hk⟩:=hr;rw [he] at pY;obtain ⟨hp,_⟩:=pY;unfold vJ at hz;rw [hi] at hz;simp only at hz;split at hz;rotate_left
  ·simp at hz
  rename_i z eJ;split at hz;rotate_left
  ·simp at hz
  rename_i nI;simp only [aMY,aNC] at nI;simp at hz;subst hz;have nZ:z.cells.toList.length=i.size:=by rw [Array.length_toList];simpa using nI.1
  have fU:0<z.cells.size:=by have:=nI.1;omega
  generalize xU:(List.replicate n (js5 ks z.cells.toList)).flatten=ds at*;generalize uQ:(List.replicate n z.cells.toList).flatten=us;have cA:RepL w true ds us []:=by rw [<-xU,<-uQ];exact jra (jp8 _ _) n
  have n6:us.length=n*i.size:=by rw [<-uQ,jxm,nZ]
  have fN:ds.length=n*i.size:=by rw [<-RepL.length _ cA,n6]
  have l4:0<n*i.size:=Nat.mul_pos hn hs
  have k8:∀u∈us,u.oneCell'=true:=λu hu=>by
   rw [<-uQ] at hu;obtain ⟨l,hl,n6⟩:=List.mem_flatten.1 hu;rw [List.eq_of_mem_replicate hl] at n6;exact List.all_eq_true.1 nI.2 u (by simpa using n6)
  have nG:=h.fr k;obtain ⟨u,S1,q0,q1,q2,q3,q4,q5⟩:=ORel.put1 (h.ob k) nG.1 j1;obtain ⟨Sx,hrx,_⟩:=zt h j1 j2 j3 j4;cases dd with
  |val _=>cases j4
  |sl size ty cs0=>
   simp only [D.size] at j5;subst j5;simp only [D.len,D.cells,D.size] at j6;have dG:(lo+n)*i.size<=cs0.length:=aNX (aPI _ j6) (Nat.div_mul_le_self _ _);rw [aPP] at dG;obtain ⟨gg,nn,cc,r1,r2,r3,S1',r4,r5,r6,r7⟩:=jmI (k:=lo*i.size) (by omega) cA List.nodup_nil p q1 q4 (λb hb=>by simp at hb) j3 (by omega)
   have xO:mG=.slice (some ⟨gg,0,none⟩) nn cc:=by rw [<-j2,q2,r1]
   obtain ⟨vs,T,S',bX,bZ,_⟩:=hrx;have bN:=RepL.length _ bZ
   have aCV:lo<cc:=by
    obtain ⟨nv,bR,_⟩:=bX;have h1:=bR.1;rcases bR.2 with ⟨e1,e2⟩|⟨g',cap,cur,e1,_,_,e2,_⟩
    ·rw [xO] at e1;cases e1
    ·rw [xO] at e1
     injection e1 with e3 e4 e5;subst e5;have:cs0.length/i.size=nv:=by rw [<-bN,h1];exact aNN _ hs
     omega
   have nA:a.eval x=.slice (some ⟨gg,lo*i.size,none⟩) n (cc-lo):=by
    rw [hp.resolve_right λ⟨_,mM,_⟩=>by omega,xO]
    simp only [jjb];rw [if_neg (by omega)]
    simp [Addr.add_lit]
   have aS:(execOp a.eval o).run P w=.ok (.value (.tuple #[])) (w.setCells gg (lo*i.size) us):=by
    have aJ:=run_storeCells_cells (P:=P) gg (lo*i.size) us 0 w (λj hj=>(r3 j (by omega)).1) (λj hj=>(r3 j (by omega)).2) k8
    simp only [aMX] at aJ;obtain ⟨m,rfl⟩:∃m,n=m+1:=⟨n-1,by omega⟩
    simp [execOp,ho,resolve,hc,cF,nJ,nA,invoke,builtin,Builtin.clear_,run_underlying ht,zeroValue,typeInfo,hi,eJ,jsd fU,uQ,aJ]
   obtain ⟨j6,j7,j8,j9⟩:=kS us w gg (lo*i.size);have oW:gg∈F k:=q3 gg r2;have hBb:B<=gg:=nG.2 gg oW;have aR:∀b,b≠gg->(w.setCells gg (lo*i.size) us).heap[b]?=w.heap[b]?:=λb hb=>jaF us w gg (lo*i.size) b hb
   have hb:Below B w (w.setCells gg (lo*i.size) us):=⟨j6,j7,j8,by rw [j9];exact aMV _,λj hj=>aR j (by omega)⟩
   have fP:(D.put p (lo*i.size) ds d0).isSl=true:=jyM _ _ _ q0
   obtain ⟨S',m1,m2,m3⟩:=q5 (w.setCells gg (lo*i.size) us) (D.put p (lo*i.size) ds d0) (λq=>hdr (w.setCells gg (lo*i.size) us) q (D.put p (lo*i.size) ds d0) u) S1' hb (λb _ bM=>aR b λe=>bM (e▸r2)) fP r4 (λ_=>rfl) r5 (λb aW=>by
    rcases r6 b aW with h|h
    ·exact .inl h
    ·simp at h)
   have t1:=h.setO (g:=k) (ob:=.none) (S:=[]) rfl (Fresh.nil _) (by simp)
   have t2:=t1.world' hb λg' x hx=>by
    split at hx
    ·simp at hx
    ·rename_i cV
     exact aR x λe=>h.dj g' k cV x hx (e▸oW)
   have o6:∀x∈S',x∈F k:=λx hx=>by
    rcases m3 x hx with h|h
    ·exact h
    ·rcases r6 x h with h'|h'
     ·exact q3 x h'
     ·simp at h'
   have t3:=t2.setO (g:=k) m1 ⟨m2,λx hx=>nG.2 x (o6 x hx)⟩ (λg' cV x hx=>by
    rw [if_neg cV];exact λhh=>h.dj g' k cV x hh (o6 x hx))
   have gQ:(s.setO k .none).setO k ((s.o k).putOwn c (D.put p (lo*i.size) ds d0) (λq=>hdr (w.setCells gg (lo*i.size) us) q (D.put p (lo*i.size) ds d0) u))=s.setO k ((s.o k).putOwn c (D.put p (lo*i.size) ds d0) (λq=>hdr (w.setCells gg (lo*i.size) us) q (D.put p (lo*i.size) ds d0) u)):=by
    simp only [St.setO,St.mk.injEq,true_and]
    funext i;split<;>rfl
   rw [gQ] at t3
   exact OpOk.of_run aS (by
    rw [hpu];have lL:∀q,¬jqJ p (lo*i.size) (n*i.size) q->hdr (w.setCells gg (lo*i.size) us) q (D.put p (lo*i.size) ds d0) u=η q:=λq hq=>by rw [q2];exact r7 q (by rw [fN];exact hq)
    refine ⟨_,_,t3,jyB hk lL λhf=>?_⟩
    simp only [aMY] at hf
    funext q
    by_cases hq:jqJ p (lo*i.size) (n*i.size) q
    ·obtain ⟨j,r,rfl,rE,mQ⟩:=hq
     obtain ⟨v1,gO⟩:=jc4 (j:=j-lo*i.size) hf.1 (by omega)
     obtain ⟨v2,s7⟩:=jc4 (j:=j-lo*i.size) hf.2 (by simp only [D.cells,aMP,aND];omega)
     rw [q2];rw [jfZ (w:=w.setCells gg (lo*i.size) us) (j:=j) (v:=v1) p (jc2 p j3) (by rw [jjE _ _ _ _ (by omega) rE (by omega)];exact gO)]
     refine (jfZ (v:=v2) p j3 ?_).symm;rw [<-s7];simp only [D.cells];rw [aOG,if_pos (by omega),aOF]
     congr 1;omega
    ·exact lL q hq)
 ·exact hr.elim
end
