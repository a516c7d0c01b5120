/- Parts. -/
import Derived.Test.YtekegiiikglhbaaGreatQE4
set_option linter.all false
namespace Go.Proofs.YtekegiiikglhbaaGreat
open Go.RowKit Go.Sort
section
variable {P:Program} {B N:Nat} {w w0:World} {s:St} {a:Act} {F:Nat->List Nat} {o:Oper} {G:AV->List (Nat×Ob)->Prop} {d:Nat} {rt:RT}
theorem jpb {op:BinOp} {t:TypeId} {k k':IntKind} {m n:Int} (h:jnX op k k' n):(binOp op t (.int k m) (.int k' n)).run P w=.ok (jbk op k m n) w:=by
 cases op with
 |shl=>have h:0<=n:=h;have h':¬n<0:=by omega
       simp [binOp,Op.shift,h',jbk]
 |shr=>have h:0<=n:=h;have h':¬n<0:=by omega
       simp [binOp,Op.shift,h',jbk]
 |quo=>obtain ⟨rfl,h⟩:=h
       simp [binOp,Op.intDiv,h,jbk]
 |rem=>obtain ⟨rfl,h⟩:=h
       simp [binOp,Op.intDiv,h,jbk]
 |_=>
  obtain rfl:k=k':=h;simp [binOp,Op.intArith,Op.intBits,Op.intCmp,jbk]
theorem go_bin (h:RelF B w0 N s a w F) {op:BinOp} {t t':TypeId} {x y:Operand} {x' y':X} (ho:o.op=.binOp op t x y t') (hx:jr x=some x') (hy:jr y=some y')
 (hg:∀st,∃av os,Gen P s d rt st (.bin op t x' y') av os/\G av os):Goes P o a w (jK B w G):=by
 obtain ⟨av,os,⟨V,rfl⟩,hG⟩:=hg ⟨0,λ_ _=>undef⟩
 rcases V with ⟨u,v,r,Y,h3,h4,rfl⟩|⟨l,m,xs,ys,b,Y,h3,h4,h5,h6,rfl⟩
 ·have e1:=jdc h hx Y
  have e2:=jdc h hy h3;refine kT (v:=r) ?_ (by exact rfl) hG
  unfold jqF at h4;split at h4
  ·obtain ⟨h5,rfl⟩:=h4
   have hr:=λm=>jpb (P:=P) (w:=w) (t:=t) (m:=m) h5
   cases op<;>simp [execOp,ho,e1,e2,eqGuard,hr]
  ·split at h4
   ·obtain ⟨h5,rfl⟩:=h4
    unfold maxLen at h5;rename_i b1 b2 _;have h6:¬((9223372036854775807:Int)<(b1.size:Int)+(b2.size:Int)):=by omega
    simp [execOp,ho,e1,e2,eqGuard,binOp,Op.stringOp,IntKind.max,h6];simp [IntKind.signed,IntKind.bits];omega
   ·subst h4
    simp [execOp,ho,e1,e2,eqGuard,binOp,Op.stringOp]
   ·subst h4
    simp [execOp,ho,e1,e2,eqGuard,binOp,Op.stringOp]
   ·exact h4.elim
  ·exact h4.elim
 ·have d7:=kn h hx
  have lA:=kn h hy;rw [Y] at d7;rw [h3] at lA;obtain ⟨us,e1,k1⟩:=d7;obtain ⟨vs,e2,k2⟩:=lA
  have key:∀(l:List A0) (us xs:List Value),A0RelL B w l us->zi l=some xs->us=xs:=by
   intro l
   induction l with
   |nil=>intro us xs k1 k2;simp [zi] at k2;subst k2;exact k1
   |cons a0 l ih=>
    intro us xs k1 k2;obtain ⟨u,us',rfl,k3,k4⟩:=k1;cases a0 with
    |v x=>
     simp only [zi] at k2;split at k2
     ·simp at k2;subst k2
      rw [show u=x from k3,ih us' _ k4 (by assumption)]
     ·simp at k2
    |_=>simp [zi] at k2
  obtain rfl:=key l us xs k1 h4;obtain rfl:=key m vs ys k2 h5;obtain ⟨h7,h8⟩:=h6 w;refine kT (v:=.bool b) ?_ (by exact rfl) hG
  simp [execOp,ho,e1,e2,h7,h8]
theorem go_num (h:RelF B w0 N s a w F) {t t':TypeId} {x:Operand} {x':X} {k0 k:IntKind} {e:Nat} (ho:o.op=.convert t t' x) (ht:P.underlying t=some (.int k0)) (cC:P.underlying t'=some (.int k)) (hx:jr x=some x')
 (hg:∀st,∃av os,Gen P s d rt st (.cv (.num k) e x') av os/\G av os):Goes P o a w (jK B w G):=by
 obtain ⟨av,os,⟨⟨k',n,V,rfl⟩,rfl⟩,hG⟩:=hg ⟨0,λ_ _=>undef⟩
 refine kT (v:=.int k (k.wrap n)) ?_ (by exact rfl) hG
 simp [execOp,ho,convert,run_underlying ht,run_underlying cC,jdc h hx V,Conv.intToInt]
theorem go_text (h:RelF B w0 N s a w F) {t t' e:TypeId} {x:Operand} {x':X} (ho:o.op=.convert t t' x) (ht:P.underlying t=some (.slice e)) (he:P.underlying e=some (.int .u8)) (cC:P.underlying t'=some .string) (hx:jr x=some x')
 (hg:∀st,∃av os,Gen P s d rt st (.cv .text e x') av os/\G av os):Goes P o a w (jK B w G):=by
 obtain ⟨av,os,⟨⟨a0,ty,bs,V,Y,rfl⟩,rfl⟩,hG⟩:=hg ⟨0,λ_ _=>undef⟩
 have hv:=kn h hx;rw [V] at hv;obtain ⟨S,h3⟩:=jem h hv Y;obtain ⟨A,n,c,vs,S',hu,h4,h5,_,_,_,h6,h7⟩:=qu h3;simp only [List.length_map,Nat.mul_one] at h4;subst h4;refine kT (v:=.string ⟨bs.toArray⟩) ?_ (by exact rfl) hG
 have rL:vs=bs.map λb=>.int .u8 (b.toNat:Int):=by
  have key:∀(bs:List UInt8) (vs:List Value) (S:List Nat),RepL w false (bs.map zU) vs S->vs=bs.map λb=>.int .u8 (b.toNat:Int):=by
   intro bs
   induction bs with
   |nil=>intro vs S h;exact h.1
   |cons b bs ih=>
    intro vs S h;obtain ⟨v,vs',S1,S2,rfl,_,k1,k2⟩:=h;rw [aCE,<-ih vs' S2 k2,show v=.int .u8 (b.toNat:Int) from k1.1]
  exact key bs vs S' h5
 have a8:(convert t t' (.slice A bs.length c)).run P w=.ok (.string ⟨bs.toArray⟩) w:=by
  cases A with
  |none=>
   have:=h6 rfl;subst this
   have hn:bs=[]:=by
    cases bs with
    |nil=>rfl
    |cons b bs=>
     obtain ⟨_,_,k1,_⟩:=h7 (by rw [rL];simp)
     cases k1
   subst hn;exact run_convert_bytes_nil w t e ht he _ _ t' cC
  |some ad=>
   by_cases a7:bs=[]
   ·subst a7
    rw [run_convert_bytes_string w t t' e _ _ _ ht he cC,run_bytesToString w _ _ _ [] (by simp [loadCells,loadCellsFrom])]
    simp;rfl
   ·obtain ⟨b,off,hA,_,h8⟩:=h7 (by rw [rL];simpa using a7)
    cases hA;rw [run_convert_bytes_string w t t' e _ _ _ ht he cC,run_bytesToString w _ _ _ (bs.map λb=>(b.toNat:Int)) ?_]
    ·rw [foldl_push_bytes]
     simp [ByteArray.empty,ByteArray.emptyWithCapacity];show []++_=_;rw [aCA]
     conv=>rhs;rw [<-List.map_id bs]
     exact List.map_congr_left λb _=>by simp
    ·have:=run_loadCells_list (P:=P) w ⟨b,off,none⟩ vs (λj v hj=>by rw [qB];exact h8 j v hj)
     rw [rL] at this;simpa [Function.comp_def] using this
 simp only [execOp,ho,hu,Sem.run_bind,a8,Result.andThen];rfl
theorem jiB (k:Option (Nat×Nat)) (x:Value):Rep w true (jqH k x) x []:=by
 unfold jqH;split
 ·exact Rep.nil_ _ _ _
 ·exact ⟨rfl,rfl⟩
theorem jhV:∀(ks:List (Option (Nat×Nat))) (l:List Value),RepL w true (jjH ks l) l []
 |_,[]=>⟨rfl,rfl⟩
 |ks,x::l=>⟨x,l,[],[],rfl,rfl,jiB _ _,jhV ks.tail l⟩
theorem go_mks (h:RelF B w0 N s a w F) {t e:TypeId} {l c:Operand} {l' c':X} {i:TypeInfo} {zs:List Value} {ks:List (Option (Nat×Nat))} (ho:o.op=.makeSlice t l c) (ht:P.underlying t=some (.slice e)) (hi:P.info? e=some i) (hz:kV P e=some zs) (hs:0<i.size) (hl:jr l=some l') (hc:jr c=some c')
 (hg:∀st,∃av os,Gen P s d rt st (.mks e i.size i.bytes (jjH ks zs) l' c') av os/\G av os):Goes P o a w (jK B w G):=by
 obtain ⟨_,_,⟨k,k',n,V,Y,h3,h4,_⟩,_⟩:=hg ⟨0,λ_ _=>undef⟩
 unfold kV at hz;rw [hi] at hz;simp only at hz;split at hz
 ·rename_i z d6
  split at hz
  ·rename_i fH
   simp only [aBH,aCJ] at fH;simp at hz;subst hz;obtain ⟨w',hr,r1,r2⟩:=run_make_full (P:=P) w 0 t e i z i.size ht hi d6 rfl k k' n h3 h4 (aBR _);obtain ⟨av,os,⟨k2,k2',n2,dD,bP,_,_,rfl,rfl⟩,hG⟩:=hg ⟨0,λ_ p=>hdr w' p (.sl i.size e ((List.replicate n (jjH ks z.cells.toList)).flatten)) (.slice (some ⟨w.heap.size,0,none⟩) n n)⟩
   rw [V] at dD
   have oL:n=n2:=by
    have:=dD;simp at this;omega
   subst oL
   have a8:(execOp a.eval o).run P w=.ok (.value (.slice (some ⟨w.heap.size,0,none⟩) n n)) w':=by
    simp [execOp,ho,jdc h hl V,jdc h hc Y,hr]
   have aD:Rep w' true (.sl i.size e ((List.replicate n (jjH ks z.cells.toList)).flatten)) (.slice (some ⟨w.heap.size,0,none⟩) n n) [w.heap.size]:=by
    have h5:(madeCells z.cells (n*i.size)).toList=(List.replicate n z.cells.toList).flatten:=by
     apply aCH
     intro j;by_cases hj:j<n*i.size
     ·rw [qt (by simp [fH.1]) hs n j hj]
      simp [madeCells,hj,fH.1];rw [Array.getElem?_eq_getElem (by rw [fH.1];exact Nat.mod_lt _ hs)]
      simp only [Option.some.injEq];exact getElem!_pos _ _ _
     ·rw [aBD (by simp [madeCells];omega),aBD (by simp [fH.1];omega)]
    rw [h5] at r1
    have key:∀(n:Nat),RepL w' true (List.replicate n (jjH ks z.cells.toList)).flatten (List.replicate n z.cells.toList).flatten []:=by
     intro n
     induction n with
     |zero=>exact ⟨rfl,rfl⟩
     |succ n ih=>
      simp only [List.replicate_succ,aDB];have:=RepL.append_ (jjH ks z.cells.toList) (jhV (w:=w') ks z.cells.toList) ih;simpa using this
    exact ⟨_,[w.heap.size],[],⟨n,r1,rfl⟩,key _,rfl⟩
   have hn:zh B w' [(100*d,.loose (.sl i.size e ((List.replicate n (jjH ks z.cells.toList)).flatten)) (λp=>hdr w' p (.sl i.size e ((List.replicate n (jjH ks z.cells.toList)).flatten)) (.slice (some ⟨w.heap.size,0,none⟩) n n)))] [w.heap.size]:=
    ⟨[w.heap.size],[],rfl,⟨rfl,_,aD,λ_=>rfl⟩,rfl⟩
   exact mk_ a8 (by exact ⟨rfl,rfl⟩) hn (Fresh.one _ _ (aAV _)) (jhn r2) hG
  ·simp at hz
 ·simp at hz
theorem A0RelL.drop_:∀{l:List A0} {us:List Value} (k:Nat),A0RelL B w l us->A0RelL B w (l.drop k) (us.drop k)
 |_,_,0,h=>h
 |[],_,_+1,h=>by rw [show _=_ from h];rfl
 |_::_,_,k+1,⟨_,us',V,_,h3⟩=>by subst V;exact A0RelL.drop_ k h3
theorem A0RelL.take_:∀{l:List A0} {us:List Value} (k:Nat),A0RelL B w l us->A0RelL B w (l.take k) (us.take k)
 |_,_,0,_=>rfl
 |[],_,_+1,h=>by rw [show _=_ from h];rfl
 |_::_,_,k+1,⟨u,us',V,Y,h3⟩=>by subst V;exact ⟨u,us'.take k,rfl,Y,A0RelL.take_ k h3⟩
theorem go_fld (h:RelF B w0 N s a w F) {t:TypeId} {x:Operand} {x':X} {f n:Nat} {agg:Bool} {fs:Array Field} {fd:Field} {dsc:TypeDesc} (ho:o.op=.field t x f) (ht:P.underlying t=some (.struct fs)) (hf:fs[f]?=some fd) (hu:P.underlying fd.type=some dsc) (dW:agg=jqL dsc) (hn:jZ P fd.type=some n) (hx:jr x=some x')
 (hg:∀st,∃av os,Gen P s d rt st (.fld agg fd.offset n x') av os/\G av os):Goes P o a w (jK B w G):=by
 obtain ⟨av,os,⟨l,V,Y,h3,rfl⟩,hG⟩:=hg ⟨0,λ_ _=>undef⟩
 have hv:=kn h hx;rw [V] at hv;obtain ⟨us,he,hr⟩:=hv;obtain ⟨i,hi,dM⟩:=jdY hn;have hl:=A0RelL.len hr;have hp:A0RelL B w ((l.drop fd.offset).take n) ((us.drop fd.offset).take n):=(hr.drop_ _).take_ _;cases agg with
 |true=>
  obtain rfl:av=.agg ((l.drop fd.offset).take n):=by simpa using h3
  have cY:(isAgg fd.type).run P w=.ok true w:=by
   simp only [isAgg,Sem.run_bind,run_underlying hu];cases dsc<;>first|rfl|cases dW
  refine kT (v:=.agg ((us.drop fd.offset).take n).toArray) ?_ (by exact ⟨_,rfl,hp⟩) hG
  simp [execOp,ho,Instr.field,run_underlying ht,hf,he,asAgg,part,cY,sizeOf,typeInfo,hi,dM,List.extract_eq_take_drop]
 |false=>
  obtain ⟨a0,e0,rfl⟩:∃a0,(l.drop fd.offset).take n=[a0]/\av=.c a0:=by simpa using h3
  rw [e0] at hp;obtain ⟨u,us',k0,k1,k2⟩:=hp
  have cY:(isAgg fd.type).run P w=.ok false w:=by
   simp only [isAgg,Sem.run_bind,run_underlying hu];cases dsc<;>first|rfl|cases dW
  have e8:us[fd.offset]?=some u:=by
   have e1:((us.drop fd.offset).take n)[0]?=some u:=by rw [k0];rfl
   have hU:0<n:=by
    rcases Nat.eq_zero_or_pos n with h0|h0
    ·subst h0;simp at e0
    ·exact h0
   rw [aBV,if_pos hU,aBQ,aAQ] at e1;exact e1
  refine kT (v:=u) ?_ (by exact k1) hG
  simp [execOp,ho,Instr.field,run_underlying ht,hf,he,asAgg,part,cY,e8]
theorem go_ext (h:RelF B w0 N s a w F) {x:Operand} {x':X} {i:Nat} (ho:o.op=.extract x i) (hx:jr x=some x') (hg:∀st,∃av os,Gen P s d rt st (.ext x' i) av os/\G av os):Goes P o a w (jK B w G):=by
 obtain ⟨av,os,⟨l,b,az,V,Y,h3,rfl⟩,hG⟩:=hg ⟨0,λ_ _=>undef⟩
 have hv:=kn h hx;rw [V] at hv;obtain ⟨us,he,hr⟩:=hv
 have key:∀(l:List (Bool×List A0)) (us:List Value) (i:Nat),TRelL B w l us->l[i]?=some (b,az)->∃u xs,us[i]?=some u/\A0RelL B w az xs/\(if b then u=.agg xs.toArray else xs=[u]):=by
  intro l
  induction l with
  |nil=>intro _ _ _ h;simp at h
  |cons x l ih=>
   intro us i hr hi;obtain ⟨b',as'⟩:=x;obtain ⟨u,us',xs,rfl,k1,k2,k3⟩:=hr;cases i with
   |zero=>simp at hi;obtain ⟨rfl,rfl⟩:=hi;exact ⟨u,xs,rfl,k1,k2⟩
   |succ i=>exact ih us' i k3 (by simpa using hi)
 obtain ⟨u,xs,k1,k2,k3⟩:=key l us i hr Y;refine kT (v:=u) (by simp [execOp,ho,he,Instr.extract,k1]) ?_ hG
 cases b with
 |true=>
  obtain rfl:av=.agg az:=by simpa using h3
  exact ⟨xs,by simpa using k3,k2⟩
 |false=>
  obtain ⟨a0,rfl,rfl⟩:∃a0,az=[a0]/\av=.c a0:=by simpa using h3
  obtain rfl:xs=[u]:=by simpa using k3
  obtain ⟨u',us',k4,k5,_⟩:=k2;cases k4;exact k5
theorem go_mkf (h:RelF B w0 N s a w F) {f:Nat} {first caps:Array Operand} {l:List X} (ho:o.op=.makeFunc (.func f) first caps) (hf:first=#[]) (hc:qm caps.toList=some l) (hg:∀st,∃av os,Gen P s d rt st (.mkf f l) av os/\G av os):Goes P o a w (jK B w G):=by
 obtain ⟨av,os,⟨az,V,rfl,rfl⟩,hG⟩:=hg ⟨0,λ_ _=>undef⟩
 have key:∀(cs:List Operand) (l:List X) (az:List A0),qm cs=some l->vY s l=some az->A0RelL B w az (cs.map a.eval):=by
  intro cs
  induction cs with
  |nil=>intro l az k1 k2;simp [qm] at k1;subst k1;simp [vY] at k2;subst k2;rfl
  |cons c cs ih=>
   intro l az k1 k2;simp only [qm] at k1;split at k1
   ·rename_i c' l' k3 k4
    simp at k1;subst k1;simp only [vY] at k2;split at k2
    ·rename_i a0 r k5 k6
     simp at k2;subst k2;have:=kn h k3;rw [k5] at this;exact ⟨a.eval c,_,rfl,this,ih l' r k4 k6⟩
    ·simp at k2
   ·simp at k1
 refine kT (v:=.func (.func f) #[] (caps.map a.eval)) (by simp [execOp,ho,hf,Instr.makeFunc]) ?_ hG
 exact ⟨caps.toList.map a.eval,by rw [<-Array.toList_map,Array.toArray_toList],key _ _ _ hc V⟩
end
section
variable {P:Program} {B N:Nat} {w w0:World} {s:St} {a:Act} {F:Nat->List Nat} {o:Oper} {G:AV->List (Nat×Ob)->Prop} {d:Nat} {rt:RT}
theorem vt {isSl:Bool} {len cap l h:Nat} {lo hi:Option Value} (hl:(lo=none/\l=0)\/∃k,lo=some (.int k (l:Int))) (hh:(hi=none/\h=len)\/∃k,hi=some (.int k (h:Int))) (V:l<=h) (Y:h<=cap):
 (Instr.sliceBounds isSl len cap lo hi none).run P w=.ok (l,h,cap) w:=by
 have e1:(l:Int)<=(h:Int):=by omega
 have e2:(h:Int)<=(cap:Int):=by omega
 rcases hl with ⟨rfl,rfl⟩|⟨k,rfl⟩<;>rcases hh with ⟨rfl,rfl⟩|⟨k',rfl⟩<;>simp [Instr.sliceBounds,Instr.sliceBound,asIntOf,V,Y]
theorem kQ (h:RelF B w0 N s a w F) {x:Option Operand} {x':Option X} {dflt n:Nat} (hx:(x=none/\x'=none)\/∃y y',x=some y/\x'=some y'/\jr y=some y') (Z:jb9 s x' dflt n):
 (x.map a.eval=none/\n=dflt)\/∃k,x.map a.eval=some (.int k (n:Int)):=by
 rcases hx with ⟨rfl,rfl⟩|⟨y,y',rfl,rfl,V⟩
 ·exact .inl ⟨rfl,Z⟩
 ·obtain ⟨k,Y⟩:=Z
  exact .inr ⟨k,by simp [jdc h V Y]⟩
theorem go_sl_str (h:RelF B w0 N s a w F) {t:TypeId} {x:Operand} {x':X} {lo hi:Option Operand} {lo' eP:Option X} (ho:o.op=.slice t x lo hi none) (ht:P.underlying t=some .string) (hx:jr x=some x')
 (lF:(lo=none/\lo'=none)\/∃y y',lo=some y/\lo'=some y'/\jr y=some y') (gC:(hi=none/\eP=none)\/∃y y',hi=some y/\eP=some y'/\jr y=some y')
 (hg:∀st,∃av os,Gen P s d rt st (.sl 0 x' lo' eP) av os/\G av os):Goes P o a w (jK B w G):=by
 obtain ⟨av,os,⟨l,hh,V,Y,h3,rfl⟩,hG⟩:=hg ⟨0,λ_ _=>undef⟩
 split at h3
 ·rename_i b he
  obtain ⟨_,h4,h5,rfl⟩:=h3;have Z:=vt (P:=P) (w:=w) (isSl:=false) (kQ h lF V) (kQ h gC h4) Y h5;refine kT (v:=.string (b.extract l hh)) ?_ (by exact rfl) hG
  simp [execOp,ho,Instr.sliceAt,run_underlying ht,Instr.slice,jdc h hx he,Z]
 ·rename_i dd he
  exact absurd h3.1 (by omega)
 ·rename_i dd he
  exact absurd h3.1 (by omega)
 ·obtain ⟨⟨_,_,_,_,_,_,_,_,_,h6,_⟩,h7,_⟩:=h3
  omega
 ·exact h3.elim
theorem go_sl_ro (h:RelF B w0 N s a w F) {t e:TypeId} {x:Operand} {x':X} {lo hi:Option Operand} {lo' eP:Option X} {m:Nat} (ho:o.op=.slice t x lo hi none) (ht:P.underlying t=some (.slice e)) (hm:jZ P e=some (m+1)) (hx:jr x=some x')
 (lF:(lo=none/\lo'=none)\/∃y y',lo=some y/\lo'=some y'/\jr y=some y') (gC:(hi=none/\eP=none)\/∃y y',hi=some y/\eP=some y'/\jr y=some y')
 (hg:∀st,∃av os,Gen P s d rt st (.sl (m+1) x' lo' eP) av os/\G av os):Goes P o a w (jK B w G):=by
 obtain ⟨av,os,⟨l,hh,V,Y,h3,rfl⟩,hG⟩:=hg ⟨0,λ_ _=>undef⟩
 have hv:=kn h hx;obtain ⟨inf,c7,bT⟩:=jdY hm;split at h3
 ·rename_i b he
  exact absurd h3.1 (by omega)
 ·rename_i dd he
  obtain ⟨_,k1,k2,h4,h5,rfl⟩:=h3;rw [he] at hv;obtain ⟨_,S,k3,k4⟩:=hv;cases dd with
  |val _=>cases k1
  |sl size ty cs=>
   have k2':size=m+1:=k2;subst k2';obtain ⟨A,n,c,vs,S',hu,k5,_,_,k6,_⟩:=qu k3;have aJ:=jcT (ty:=ty) (by omega:0<m+1) k5
   rw [aJ] at h4 h5;rw [hu] at k3;obtain ⟨S2,k7,k8⟩:=jll (by omega) k3 k4 Y h5
   have Z:=vt (P:=P) (w:=w) (isSl:=true) (len:=n) (cap:=c) (kQ h lF V) (kQ h gC h4) Y (by omega)
   refine kT (v:=.slice (if c=l then A else A.map (·.add (l*(m+1)))) (hh-l) (c-l)) ?_ (by exact ⟨rfl,S2,k7,k8⟩) hG
   simp [execOp,ho,Instr.sliceAt,run_underlying ht,Instr.slice,hu,Z,sizeOf,typeInfo,c7,bT]
 ·rename_i g c p cL he
  obtain ⟨_,⟨dd,⟨d0,η,k1,k2,k3,k4⟩,k5,h4,h5⟩,rfl⟩:=h3;rw [he] at hv;have hv:a.eval x=cL:=hv.1;obtain ⟨S,k6,_⟩:=qa h k1 k2 k3 k4;cases dd with
  |val _=>cases k4
  |sl size ty cs=>
   have k5':size=m+1:=k5;subst k5';obtain ⟨A,n,c,vs,S',hu,k7,_⟩:=qu k6.ro;have aJ:=jcT (ty:=ty) (by omega:0<m+1) k7
   rw [aJ] at h4 h5;obtain ⟨A2,n2,c2,_,_,lV,_,_,_,hO,_⟩:=qu k6.ro;rw [hu] at lV;cases lV;have Z:=vt (P:=P) (w:=w) (isSl:=true) (len:=n) (cap:=c) (kQ h lF V) (kQ h gC h4) Y (by omega)
   refine kT (v:=jmF cL (m+1) l (hh-l)) ?_ (by exact ⟨.inl rfl,by rw [hu];rfl⟩) hG
   simp [execOp,ho,Instr.sliceAt,run_underlying ht,Instr.slice,hv,hu,Z,sizeOf,typeInfo,c7,bT,jmF]
 ·rename_i g c p cL sz lo m' he
  obtain ⟨⟨dd,d0,η,d1,k1,k2,k3,k4,k5,k6,k7,rfl⟩,rfl,h4,h5,rfl⟩:=h3;rw [he] at hv;have hv:a.eval x=jmF cL (m+1) lo m'\/0<lo/\m'=0/\∃A,a.eval x=.slice A 0 0:=hv.1;rcases hv with hv|⟨xJ,rfl,A,hv⟩;rotate_left
  ·have Z:=vt (P:=P) (w:=w) (isSl:=true) (len:=0) (cap:=0) (kQ h lF V) (kQ h gC h4) Y (by omega)
   obtain rfl:hh=0:=by omega
   obtain rfl:l=0:=by omega
   refine kT (v:=.slice A 0 0) ?_ (by exact ⟨.inr ⟨by omega,rfl,A,rfl⟩,rfl⟩) hG
   simp [execOp,ho,Instr.sliceAt,run_underlying ht,Instr.slice,hv,Z,sizeOf,typeInfo,c7,bT]
  obtain ⟨S,k8,_⟩:=qa h k1 k2 k3 k4;cases d1 with
  |val _=>cases k4
  |sl size ty cs=>
   have k5':size=m+1:=k5;subst k5';obtain ⟨A,n,c,vs,S',hu,k9,_,_,hO,_⟩:=qu k8.ro;have aJ:=jcT (ty:=ty) (by omega:0<m+1) k9
   rw [aJ] at k7;rw [hu] at hv;simp only [jmF] at hv;have Z:=vt (P:=P) (w:=w) (isSl:=true) (len:=m') (cap:=c-lo) (kQ h lF V) (kQ h gC h4) Y (by omega)
   refine kT (v:=.slice (if c-lo=l then (if c=lo then A else A.map (·.add (lo*(m+1)))) else (if c=lo then A else A.map (·.add (lo*(m+1)))).map (·.add (l*(m+1)))) (hh-l) (c-lo-l)) ?_ (by
    refine ⟨?_,rfl⟩;rw [hu];simp only [jmF];by_cases cJ:c-lo=l
    ·rw [if_pos cJ]
     obtain rfl:hh=l:=by omega
     by_cases hz:lo+hh=0
     ·obtain rfl:lo=0:=by omega
      obtain rfl:hh=0:=by omega
      obtain rfl:c=0:=by omega
      left;simp
     ·right
      refine ⟨by omega,by omega,_,by rw [show hh-hh=0 by omega,show c-lo-hh=0 by omega]⟩
    ·left
     have h8:c≠lo:=by omega
     have h9:¬c=lo+l:=by omega
     rw [if_neg cJ,if_neg h8,if_neg h9];rw [Nat.sub_sub]
     congr 1
     cases A with
     |none=>rfl
     |some ad=>simp [Addr.add_add,aCX]) hG
   simp [execOp,ho,Instr.sliceAt,run_underlying ht,Instr.slice,hv,Z,sizeOf,typeInfo,c7,bT]
 ·exact h3.elim
theorem jgr {α:Type}:∀(l:List α) (cs:List α) (k:Nat),(kg cs k l).length=cs.length
 |[],_,_=>rfl
 |x::l,cs,k=>by rw [kg,jgr l];simp
theorem A0RelL.set:∀{l:List A0} {us:List Value} {k:Nat} {a0:A0} {u:Value},A0RelL B w l us->A0Rel B w a0 u->A0RelL B w (l.set k a0) (us.set k u)
 |[],us,_,_,_,h,_=>by rw [show us=[] from h];rfl
 |_::_,_,0,_,u,⟨u',us',V,Y,h3⟩,hu=>by subst V;exact ⟨u,us',rfl,hu,h3⟩
 |_::_,_,k+1,_,_,⟨u',us',V,Y,h3⟩,hu=>by subst V;exact ⟨u',_,rfl,Y,A0RelL.set h3 hu⟩
theorem A0RelL.setAt_:∀{m:List A0} {xs:List Value} {l:List A0} {us:List Value} {k:Nat},A0RelL B w l us->A0RelL B w m xs->A0RelL B w (kg l k m) (kg us k xs)
 |[],xs,_,_,_,h,hm=>by rw [show xs=[] from hm];exact h
 |_::_,_,_,_,k,h,⟨u',us',V,Y,h3⟩=>by subst V;have:=A0RelL.setAt_ (k:=k+1) (h.set (k:=k) Y) h3;exact this
theorem jcr (off:Nat):∀(xs:List Value) (k:Nat) (us:List Value),(xs.zipIdx k).foldl (λcs (p:Value×Nat)=>cs.setIfInBounds (off+p.2) p.1) us.toArray=(kg us (off+k) xs).toArray
 |[],_,_=>rfl
 |x::xs,k,us=>by
  rw [List.zipIdx_cons,List.foldl_cons,kg];have:us.toArray.setIfInBounds (off+k) x=(us.set (off+k) x).toArray:=by simp
  simp only [this];rw [jcr off xs (k+1) _];rfl
theorem jiM (h:RelF B w0 N s a w F) {place:Nat->Option (Nat×Nat)}:∀{parts:List (Nat×Operand)} {ps:List (Nat×Nat×X)} {l l':List A0} {us:List Value},zz place parts=some ps->A0RelL B w l us->jdb s l ps=some l'->
 ∃us':List Value,Instr.fill place us.toArray (parts.map λp=>(p.1,a.eval p.2))=some us'.toArray/\A0RelL B w l' us'
 |[],ps,l,l',us,V,Y,h3=>by
  simp [zz] at V;subst V;simp [jdb] at h3;subst h3;exact ⟨us,rfl,Y⟩
 |(i,x)::parts,ps,l,l',us,V,Y,h3=>by
  simp only [zz] at V;split at V
  ·rename_i off n x' ps' k1 k2 k3
   simp at V;subst V;simp only [jdb] at h3;split at h3
   ·rename_i m k4
    split at h3
    ·rename_i k5
     obtain ⟨xs,k6,k7⟩:=VRel.cells (kn h k2) k4;obtain ⟨us',k8,k9⟩:=jiM h k3 (Y.setAt_ k7 (k:=off)) h3;refine ⟨us',?_,k9⟩;have i7:=A0RelL.len k7;have gS:=A0RelL.len Y;have e1:¬(xs.length≠n\/us.length<off+xs.length):=by omega
     have e2:=jcr off xs 0 us;simp only [aAQ] at e2;simp only [aCE,Instr.fill,k1,k6];rw [if_neg (by simpa using e1)]
     rw [<-Array.foldl_toList,Array.toList_zipIdx];rw [show (xs.toArray.toList.zipIdx 0)=xs.zipIdx 0 from rfl,e2]
     exact k8
    ·simp at h3
   ·simp at h3
  ·simp at V
theorem go_bld (h:RelF B w0 N s a w F) {t:TypeId} {parts:Array (Nat×Operand)} {fs:Array Field} {zs:List Value} {ps:List (Nat×Nat×X)} (ho:o.op=.build t parts) (ht:P.underlying t=some (.struct fs)) (hz:kV P t=some zs)
 (bU:(fs.toList.all λf=>(P.info? f.type).isSome)=true) (lC:zz (λi=>match fs[i]? with|some f=>(jZ P f.type).map λn=>(f.offset,n)|none=>none) parts.toList=some ps)
 (hg:∀st,∃av os,Gen P s d rt st (.bld zs ps) av os/\G av os):Goes P o a w (jK B w G):=by
 obtain ⟨av,os,⟨l,V,rfl,rfl⟩,hG⟩:=hg ⟨0,λ_ _=>undef⟩
 unfold kV at hz;split at hz
 ·rename_i i hi
  split at hz
  ·rename_i z d6
   split at hz
   ·simp at hz;subst hz
    have wD:∀l:List Value,A0RelL B w (l.map .v) l:=by
     intro l
     induction l with
     |nil=>rfl
     |cons x l ih=>exact ⟨x,l,rfl,rfl,ih⟩
    have mB:∀l:List Field,(l.all λf=>(P.info? f.type).isSome)=true->l.mapM (λf=>(P.info? f.type).map λi=>(f.offset,i.size))=some (l.map λf=>(f.offset,(jZ P f.type).getD 0)):=by
     intro l
     induction l with
     |nil=>intro _;rfl
     |cons f l ih=>
      intro hl;simp only [List.all_cons,aBH] at hl;obtain ⟨j,hj⟩:=Option.isSome_iff_exists.1 hl.1;rw [List.mapM_cons,ih hl.2];simp [hj,jZ]
    have mA:(λ(i:Nat)=>match fs[i]? with|some f=>(jZ P f.type).map λn=>(f.offset,n)|none=>none)=λi=>((fs.toList.map λ(f:Field)=>(f.offset,(jZ P f.type).getD 0)).toArray[i]?):=by
     funext j
     cases hj:fs[j]? with
     |none=>simp [hj]
     |some f=>
      have hm:f∈fs.toList:=by simpa using Array.mem_of_getElem? hj
      obtain ⟨k,hk⟩:=Option.isSome_iff_exists.1 (List.all_eq_true.1 bU f hm);simp [hj,jZ,hk]
    obtain ⟨us',k1,k2⟩:=jiM h lC (wD z.cells.toList) V;refine kT (v:=.agg us'.toArray) ?_ (by exact ⟨us',rfl,k2⟩) hG
    have Z:P.built t (parts.map λ(p:Nat×Operand)=>(p.1,a.eval p.2)).toList=some us'.toArray:=by
     unfold Program.built;simp only [hi,ht,d6,mB _ bU];rw [<-mA,Array.toList_map];simpa using k1
    have:=run_build w t _ _ Z;simp only [execOp,ho];rw [Sem.run_bind,this];rfl
   ·simp at hz
  ·simp at hz
 ·simp at hz
end
section
variable {P:Program} {B N:Nat} {w w0:World} {s:St} {a:Act} {F:Nat->List Nat} {o:Oper} {G:AV->List (Nat×Ob)->Prop} {d:Nat} {rt:RT}
theorem jlV (h:RelF B w0 N s a w F):∀{l:List A0} {us:List Value} {ds:List D},A0RelL B w l us->IsL s l ds->∃S,RepL w false ds us S
 |[],us,[],V,_=>⟨[],V,rfl⟩
 |[],_,_::_,_,Y=>Y.elim
 |_::_,_,[],_,Y=>Y.elim
 |_::_,_,_::_,⟨u,us',V,h3,h4⟩,⟨h5,h6⟩=>by
  subst V;obtain ⟨S1,k1⟩:=jem h h3 h5;obtain ⟨S2,k2⟩:=jlV h h4 h6;exact ⟨S1++S2,RepL.cons_ k1 k2⟩
theorem IsP.is {x:A0} {d:D} (h:IsP x d):Is s x d:=by cases x<;>first|exact h|exact h.elim
theorem jeD (h:RelF B w0 N s a w F) {g b:Nat}:∀{l:List Cell} {us:List Value} {S:List Nat} {c:Nat} {ds:List D},CRel B w l us S->Ptr.go s g b l c ds->∃S',RepL w false ds us S'
 |[],us,_,_,[],⟨V,_⟩,_=>⟨[],V,rfl⟩
 |[],_,_,_,_::_,_,Y=>Y.elim
 |.a _::_,_,_,_,[],_,Y=>Y.elim
 |.own _ _::_,_,_,_,[],_,Y=>Y.elim
 |.a x::l,_,_,c,d::ds,⟨u,us',V,h3,h4⟩,⟨h5,h6⟩=>by
  subst V;obtain ⟨S1,k1⟩:=jem h h3 h5.is;obtain ⟨S2,k2⟩:=jeD h h4 h6;exact ⟨S1++S2,RepL.cons_ k1 k2⟩
 |.own d' η::l,_,_,c,d::ds,⟨u,us',S1,S2,V,h3,h4,h5,_,h6⟩,⟨h7,h8⟩=>by
  subst V h7;obtain ⟨S3,k2⟩:=jeD h h6 h8;exact ⟨S1++S3,RepL.cons_ h5.ro k2⟩
theorem jls (h:RelF B w0 N s a w F) {x:A0} {u:Value} {ds:List D} (hr:A0Rel B w x u) (hp:Ptr s x ds):ViewRel.CellsAt w ds u:=by
 cases x with
 |rp ds'=>
  have hp:ds'=ds:=hp;subst hp;obtain ⟨b,o',us,S,V,Y,_,_,h5⟩:=hr;exact ⟨b,o',us,S,V,Y,h5⟩
 |bp g c b=>
  obtain ⟨ty,cs,V,l,Y,h3⟩:=hp;have bL:=h.ob g;rw [V] at bL;obtain ⟨us,S1,k1,k2,_⟩:=bL;obtain ⟨S2,k3,_⟩:=CRel.drop c k2;obtain ⟨S3,k4,_⟩:=CRel.take ds.length k3;rw [Y] at k4;obtain ⟨S4,k5⟩:=jeD h k4 h3;refine ⟨b,c,_,S4,hr,k5,λj y hy=>?_⟩
  rw [aBV] at hy;split at hy
  ·rw [aBQ] at hy
   simp [World.cell?,k1,hy]
  ·simp at hy
 |_=>exact hp.elim
theorem jmy (h:RelF B w0 N s a w F):∀{v:AV} {u:Value} {vw:View},VRel B w v u->je6 s v vw->ViewRel w vw u
 |.c x,u,.c dd,hv,hi=>jem h hv hi
 |.agg l,u,.agg ds,⟨us,V,Y⟩,hi=>by
  obtain ⟨S,k⟩:=jlV h Y hi;exact ⟨S,us,V,k⟩
 |.c x,u,.ptr ds,hv,hi=>jls h hv hi
 |.fn f caps,u,.fn f' caps',⟨us,V,Y⟩,⟨h3,h4⟩=>by
  subst h3;refine ⟨us,V,?_⟩
  have key:∀(caps:List A0) (us:List Value) (caps':List (List D)),A0RelL B w caps us->jow s caps caps'->ViewRel.All2 w caps' us:=by
   intro caps
   induction caps with
   |nil=>intro us caps' k1 k2;cases caps' with|nil=>exact k1|cons _ _=>exact k2.elim
   |cons x l ih=>
    intro us caps' k1 k2;obtain ⟨u,us',rfl,k3,k4⟩:=k1;cases caps' with
    |nil=>exact k2.elim
    |cons ds l'=>exact ⟨u,us',rfl,jls h k3 k2.1,ih us' l' k4 k2.2⟩
  exact key _ _ _ Y h4
 |.c _,_,.agg _,_,hi=>hi.elim
 |.c _,_,.fn _ _,_,hi=>hi.elim
 |.agg _,_,.c _,_,hi=>hi.elim
 |.agg _,_,.ptr _,_,hi=>hi.elim
 |.agg _,_,.fn _ _,_,hi=>hi.elim
 |.fn _ _,_,.c _,_,hi=>hi.elim
 |.fn _ _,_,.agg _,_,hi=>hi.elim
 |.fn _ _,_,.ptr _,_,hi=>hi.elim
 |.tup _,_,.c _,_,hi=>hi.elim
 |.tup _,_,.agg _,_,hi=>hi.elim
 |.tup _,_,.ptr _,_,hi=>hi.elim
 |.tup _,_,.fn _ _,_,hi=>hi.elim
 |.unk,_,.c _,_,hi=>hi.elim
 |.unk,_,.agg _,_,hi=>hi.elim
 |.unk,_,.ptr _,_,hi=>hi.elim
 |.unk,_,.fn _ _,_,hi=>hi.elim
theorem jga (h:RelF B w0 N s a w F):∀{args:List Operand} {xs:List X} {caps:List A0} {cs:List Value} {vs:List View},qm args=some xs->A0RelL B w caps cs->qs s (xs.map s.ev++caps.map .c) vs->qw w vs (args.map a.eval++cs)
 |[],xs,caps,cs,vs,V,Y,h3=>by
  simp [qm] at V;subst V
  have key:∀(caps:List A0) (cs:List Value) (vs:List View),A0RelL B w caps cs->qs s (caps.map .c) vs->qw w vs cs:=by
   intro caps
   induction caps with
   |nil=>intro cs vs k1 k2;cases vs with|nil=>exact k1|cons _ _=>exact k2.elim
   |cons x l ih=>
    intro cs vs k1 k2;obtain ⟨u,us',rfl,k3,k4⟩:=k1;cases vs with
    |nil=>exact k2.elim
    |cons v l'=>exact ⟨u,us',rfl,jmy (v:=.c x) h k3 k2.1,ih us' l' k4 k2.2⟩
  exact key caps cs vs Y (by simpa using h3)
 |x::args,xs,caps,cs,vs,V,Y,h3=>by
  simp only [qm] at V;split at V
  ·rename_i x' xs' k1 k2
   simp at V;subst V;cases vs with
   |nil=>exact h3.elim
   |cons v vs=>exact ⟨a.eval x,_,rfl,jmy h (kn h k1) h3.1,jga h k2 Y h3.2⟩
  ·simp at V
theorem jli {w':World}:∀{rt:RT} {v:Value} {S:List Nat} (g:Nat),jhu w' rt v S->∃η:Nat->jl,VRel B w' (rt.av g η) v/\zh B w' (je0 g η 0 rt.flat) S:=by
 have key:∀(ds:List D) (us:List Value) (S:List Nat) (g j:Nat),RepL w' true ds us S->∃η:Nat->jl,(∀aW,(∀i,i<ds.length->aW (j+i)=η i)->A0RelL B w' (jrU g aW j ds) us/\zh B w' (je0 g aW j ds) S):=by
  intro ds
  induction ds with
  |nil=>intro us S g j h;obtain ⟨rfl,rfl⟩:=h;exact ⟨λ_ _=>undef,λaW _=>⟨rfl,rfl⟩⟩
  |cons d ds ih=>
   intro us S g j h;obtain ⟨v,vs',S1,S2,rfl,rfl,h3,h4⟩:=h;obtain ⟨η,h5⟩:=ih vs' S2 g (j+1) h4;refine ⟨λi=>match i with|0=>λp=>hdr w' p d v|i+1=>η i,λaW hη=>?_⟩
   have h0:=hη 0 (by simp)
   obtain ⟨h6,h7⟩:=h5 aW λi hi=>by
    have:=hη (i+1) (by simp;omega)
    rw [show j+1+i=j+(i+1) by omega]
    exact this
   cases d with
   |val u=>
    obtain ⟨rfl,rfl⟩:=h3;exact ⟨⟨_,_,rfl,rfl,h6⟩,by simpa [je0,D.obj] using h7⟩
   |sl size ty cs=>
    simp only [aAQ] at h0;refine ⟨⟨v,vs',rfl,?_,h6⟩,S1,S2,rfl,⟨rfl,v,h3,λp=>by rw [h0]⟩,h7⟩
    obtain ⟨_,_,_,rfl⟩:=qL h3;show _/\_;rw [h0];exact ⟨rfl,rfl⟩
 intro rt v S g hr;cases rt with
 |c d=>
  obtain ⟨η,V⟩:=key [d] [v] S g 0 ⟨v,[],S,[],rfl,by simp,hr,rfl,rfl⟩
  obtain ⟨⟨u,us',Y,h3,_⟩,h4⟩:=V η λi _=>by rw [aBK]
  cases Y;exact ⟨η,h3,h4⟩
 |agg ds=>
  obtain ⟨us,rfl,hr⟩:=hr;obtain ⟨η,V⟩:=key ds us S g 0 hr;obtain ⟨Y,h3⟩:=V η λi _=>by rw [aBK]
  exact ⟨η,⟨us,rfl,Y⟩,h3⟩
 |tup l=>
  obtain ⟨xs,rfl,hr⟩:=hr
  have key2:∀(l:List (Bool×List D)) (xs:List Value) (S:List Nat) (j:Nat),ji1 w' l xs S->∃η:Nat->jl,∀aW,(∀i,i<(l.flatMap (·.2)).length->aW (j+i)=η i)->TRelL B w' (jsP g aW j l) xs/\zh B w' (je0 g aW j (l.flatMap (·.2))) S:=by
   intro l
   induction l with
   |nil=>intro xs S j h;obtain ⟨rfl,rfl⟩:=h;exact ⟨λ_ _=>undef,λaW _=>⟨rfl,rfl⟩⟩
   |cons p l ih=>
    intro xs S j h;obtain ⟨b,ds⟩:=p;obtain ⟨x,xs',us,S1,S2,rfl,rfl,V,Y,h3⟩:=h;obtain ⟨eI,h4⟩:=key ds us S1 g j V;obtain ⟨bC,h5⟩:=ih xs' S2 (j+ds.length) h3;refine ⟨λi=>if i<ds.length then eI i else bC (i-ds.length),λaW hη=>?_⟩
    obtain ⟨h6,h7⟩:=h4 aW λi hi=>by
     rw [hη i (by simp;omega)];simp [hi]
    obtain ⟨h8,h9⟩:=h5 aW λi hi=>by
     have:=hη (ds.length+i) (by simp at hi⊢;omega)
     rw [Nat.add_assoc,this];show (if ds.length+i<ds.length then eI (ds.length+i) else bC (ds.length+i-ds.length))=_
     rw [if_neg (by omega),aCM]
    refine ⟨⟨x,xs',us,rfl,h6,Y,h8⟩,?_⟩
    have mR:∀(ds es:List D) (j:Nat),je0 g aW j (ds++es)=je0 g aW j ds++je0 g aW (j+ds.length) es:=by
     intro ds
     induction ds with
     |nil=>intro es j;simp [je0]
     |cons d ds ih=>intro es j;simp only [aDD,je0,ih,aAZ,aCG];rw [show j+1+ds.length=j+(ds.length+1) by omega]
    have bR:∀(l m:List (Nat×Ob)) (S1 S2:List Nat),zh B w' l S1->zh B w' m S2->zh B w' (l++m) (S1++S2):=by
     intro l
     induction l with
     |nil=>intro m S1 S2 k1 k2;rw [show S1=[] from k1];exact k2
     |cons q l ih=>intro m S1 S2 k1 k2;obtain ⟨T1,T2,rfl,k3,k4⟩:=k1;exact ⟨T1,T2++S2,by simp,k3,ih m T2 S2 k4 k2⟩
    simp only [aBI,mR];exact bR _ _ _ _ h7 h9
  obtain ⟨η,V⟩:=key2 l xs S 0 hr;obtain ⟨Y,h3⟩:=V η λi _=>by rw [aBK]
  exact ⟨η,⟨xs,rfl,Y⟩,h3⟩
theorem jhl (h:RelF B w0 N s a w F) {f:Nat} {vs:List View} {xs:List Value} (a8:(execOp a.eval o).run P w=.ok (.enter f xs.toArray) w) (hp:jR P f vs rt) (hv:qw w vs xs)
 (hG:∀st:jmD,G (rt.av (100*d) st.η) (je0 (100*d) st.η 0 rt.flat)):Goes P o a w (jK B w G):=by
 intro next Q hk;unfold Oper.wp;rw [a8];refine (hp.2 w xs hv).mono λe w' ⟨v,S,he,hr,hf,Z⟩=>?_
 subst he;obtain ⟨η,V,Y⟩:=jli (B:=B) (100*d) hr;exact hk v w' ⟨_,_,S,V,Y,hf,Z,hG ⟨0,η⟩⟩
theorem RelF.bare (h:RelF B w0 N s a w F):RelF B w 0 (.only s.o) Act.bare w F:=
 ⟨Below.refl _ _,aBU h.hB h.below.size,rfl,rfl,λ_=>trivial,h.ob,h.fr,h.dj⟩
theorem jdO (h:RelF B w0 N s a w F):∀{args:List Operand} {xs:List X} {caps:List A0} {cs:List Value},qm args=some xs->A0RelL B w caps cs->jgc B w (xs.map s.ev++caps.map .c) (args.map a.eval++cs)
 |[],xs,caps,cs,V,Y=>by
  simp [qm] at V;subst V
  have key:∀(caps:List A0) (cs:List Value),A0RelL B w caps cs->jgc B w (caps.map .c) cs:=by
   intro caps
   induction caps with
   |nil=>intro cs k1;exact k1
   |cons x l ih=>intro cs k1;obtain ⟨u,us',rfl,k3,k4⟩:=k1;exact ⟨u,us',rfl,k3,ih us' k4⟩
  exact key caps cs Y
 |x::args,xs,caps,cs,V,Y=>by
  simp only [qm] at V;split at V
  ·rename_i x' xs' k1 k2
   simp at V;subst V;exact ⟨a.eval x,_,rfl,kn h k1,jdO h k2 Y⟩
  ·simp at V
theorem zn {f:Nat} {c:Call} {cs xs:List Value} (hn:jgd P f) (ho:o.op=.call c) {y:Operand} (hc:c.callee=.value y) (hy:a.eval y=.func (.func f) #[] cs.toArray) (hx:c.args.toList.map a.eval=xs):
 (execOp a.eval o).run P w=.ok (.enter f (xs++cs).toArray) w:=by
 obtain ⟨fn,xW,Z,oP⟩:=hn;have yF:¬fn.body=none:=by intro hq;simp [hq] at Z
 have a7:¬fn.name= "runtime.NumGoroutine":=by simpa using oP
 have bO:c.args.map a.eval=xs.toArray:=by rw [<-hx,<-Array.toList_map,Array.toArray_toList]
 simp [execOp,ho,resolve,hc,hy,bO,Deferred.ofValue,invoke,callFunc,xW,yF,a7]
theorem go_call (h:RelF B w0 N s a w F) {c:Call} {f:Nat} {xs:List X} (ho:o.op=.call c) (hc:c.callee=.value (.func f)) (rJ:qm c.args.toList=some xs)
 (hg:∀st,∃av os,Gen P s d rt st (.call f xs) av os/\G av os):Goes P o a w (jK B w G):=by
 obtain ⟨_,_,⟨vs,V,Y,_,_⟩,_⟩:=hg ⟨0,λ_ _=>undef⟩
 have hv:=jga (caps:=[]) (cs:=[]) h rJ rfl (by simpa using V)
 exact jhl (d:=d) h (zn (cs:=[]) Y.1 ho hc rfl rfl) Y hv λst=>by
  obtain ⟨_,_,⟨_,_,_,rfl,rfl⟩,hG⟩:=hg st;exact hG
theorem go_callv (h:RelF B w0 N s a w F) {c:Call} {t:Nat} {xs:List X} (ho:o.op=.call c) (hc:c.callee=.value (.tmp t)) (rJ:qm c.args.toList=some xs)
 (hg:∀st,∃av os,Gen P s d rt st (.callv (.t t) xs) av os/\G av os):Goes P o a w (jK B w G):=by
 obtain ⟨_,_,⟨f,caps,vs,h0,V,Y,_,_⟩,_⟩:=hg ⟨0,λ_ _=>undef⟩
 have nP:=h.sl t;rw [show s.t t=.fn f caps from h0] at nP
 obtain ⟨cs,k1,k2⟩:=nP;have hv:=jga h rJ k2 V
 exact jhl (d:=d) h (zn Y.1 ho hc k1 rfl) Y hv λst=>by
  obtain ⟨_,_,⟨f',caps',vs',u9,dD,bP,rfl,rfl⟩,hG⟩:=hg st;exact hG
end
