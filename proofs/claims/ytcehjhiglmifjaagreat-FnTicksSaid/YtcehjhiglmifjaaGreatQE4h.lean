/- Parts. -/
import Derived.Test.YtcehjhiglmifjaaGreatQCutN
import Derived.LoopN
import Derived.Test.YtcehjhiglmifjaaGreatRows
import Derived.ProofKit
import Derived.Deep.Slices
import Derived.ChangeSame
import Derived.Test.YtcehjhiglmifjaaGreatProg
import Derived.Below
import Derived.OpenShut
set_option linter.unusedSimpArgs false
set_option linter.unusedVariables false
set_option maxHeartbeats 1000000
namespace Go.Proofs.YtcehjhiglmifjaaGreat
open Go.RowKit Go.Sort
def Ex.to:Ex→Exit
 |.normal=>.normal
 |.exit id=>.exit id
 |.ret=>.ret
section
variable {P:Program} {β B N:Nat} {w w0:World} {s:St} {a:Act} {F:Nat→List Nat}
theorem qR {c:Code} {c0:C} (h:comp P N c=some c0):match c0 with
 |.skip=>c=.skip
 |.reg is=>∃id ops,c=.region id ops false∧jjG P N ops ops.toList=some is
 |.dreg t=>∃id ops,c=.region id ops true∧jw4 P N ops=some t
 |.seq a b=>∃x y,c=.seq x y∧comp P N x=some a∧comp P N y=some b
 |.cond x a b=>∃x' y z,c=.cond x' y z∧jP x'=some x∧comp P N y=some a∧comp P N z=some b
 |.blk id a=>∃x,c=.block id x∧comp P N x=some a
 |.loop a=>∃x,c=.loop x∧comp P N x=some a
 |.exit id=>c=.exit id
 |.ret=>c=.ret
 |.gh _=>False:=by
 cases c with
 |skip=>simp [comp] at h;subst h;rfl
 |region id ops d=>
  cases d with
  |true=>simp only [comp,Option.map_eq_some_iff] at h;obtain ⟨t,h1,rfl⟩:=h;exact ⟨_,_,rfl,h1⟩
  |false=>simp only [comp,Option.map_eq_some_iff] at h;obtain ⟨t,h1,rfl⟩:=h;exact ⟨_,_,rfl,h1⟩
 |seq x y=>
  simp only [comp] at h;split at h
  ·rename_i x' y' h1 h2;simp at h;subst h;exact ⟨_,_,rfl,h1,h2⟩
  ·simp at h
 |cond x y z=>
  simp only [comp] at h;split at h
  ·rename_i x' y' z' h1 h2 h3;simp at h;subst h;exact ⟨_,_,_,rfl,h1,h2,h3⟩
  ·simp at h
 |block id x=>simp only [comp,Option.map_eq_some_iff] at h;obtain ⟨t,h1,rfl⟩:=h;exact ⟨_,rfl,h1⟩
 |loop x=>simp only [comp,Option.map_eq_some_iff] at h;obtain ⟨t,h1,rfl⟩:=h;exact ⟨_,rfl,h1⟩
 |exit id=>simp [comp] at h;subst h;rfl
 |ret=>simp [comp] at h;subst h;rfl
 |_=>simp [comp] at h
theorem ja0:∀{c':C} {c:Code} {s:St} {a:Act} {w:World} {F:Nat→List Nat} {Qc:Ex→St→Prop} {Q:Exit→Act→World→Prop},
 comp P N c=some c'.er→RelF B w0 N s a w F→wpC P β c' Qc s→(∀e s a w F,RelF B w0 N s a w F→Qc e s→Q e.to a w)→c.wp P Q a w
 |.gh x,c,s,a,w,F,Qc,Q,hc,h,hw,hQ=>by
  obtain ⟨s',F',h3,h2⟩:=hw _ _ _ _ _ _ h;exact ja0 (c':=x) hc h3 h2 hQ
 |.skip,c,s,a,w,F,Qc,Q,hc,h,hw,hQ=>by
  have e:c=.skip:=qR hc;subst e;exact wp_skip (hQ .normal _ _ _ _ h hw)
 |.dreg t,c,s,a,w,F,Qc,Q,hc,h,hw,hQ=>by
  obtain ⟨id,ops,rfl,h1⟩:=qR hc;exact jzu h h1 hw fun s a w F h hk=>hQ .normal _ _ _ _ h hk
 |.reg is,c,s,a,w,F,Qc,Q,hc,h,hw,hQ=>by
  obtain ⟨id,ops,rfl,h1⟩:=qR hc;exact wp_region_list (jpp (fun s a w F h hk=>hQ .normal _ _ _ _ h hk) h1 h hw)
 |.seq x' y',c,s,a,w,F,Qc,Q,hc,h,hw,hQ=>by
  obtain ⟨x,y,rfl,h1,h2⟩:=qR hc;refine wp_seq (ja0 h1 h hw fun e s a w F h hk=>?_)
  cases e with
  |normal=>exact ja0 h2 h hk hQ
  |exit id=>exact hQ (.exit id) _ _ _ _ h hk
  |ret=>exact hQ .ret _ _ _ _ h hk
 |.cond x' y' z',c,s,a,w,F,Qc,Q,hc,h,hw,hQ=>by
  obtain ⟨x,y,z,rfl,h1,h2,h3⟩:=qR hc;obtain ⟨t,h4,h5,h6⟩:=hw;exact wp_cond_split (jhT h h1 h4) (fun ht=>ja0 h2 h (h5 ht) hQ) (fun ht=>ja0 h3 h (h6 ht) hQ)
 |.blk id x',c,s,a,w,F,Qc,Q,hc,h,hw,hQ=>by
  obtain ⟨x,rfl,h1⟩:=qR hc;refine wp_block (ja0 h1 h hw fun e s a w F h hk=>?_)
  cases e with
  |normal=>exact hQ .normal _ _ _ _ h hk
  |exit id'=>
   simp only [Ex.inBlk] at hk;simp only [Ex.to,Exit.inBlock];split
   ·rename_i e;rw [if_pos e] at hk;exact hQ .normal _ _ _ _ h hk
   ·rename_i e;rw [if_neg e] at hk;exact hQ (.exit id') _ _ _ _ h hk
  |ret=>exact hQ .ret _ _ _ _ h hk
 |.loop x',c,s,a,w,F,Qc,Q,hc,h,hw,hQ=>by
  obtain ⟨x,rfl,h1⟩:=qR hc;obtain ⟨ι,mk,J,μ,⟨i0,h2,h4⟩,h3⟩:=hw
  have key:∀(n:Nat) (i:ι) (a:Act) (w:World) (F:Nat→List Nat),RelF B w0 N (mk i) a w F→J i→μ i<n→Code.rounds P x Q n a w:=by
   intro n
   induction n with
   |zero=>intro _ _ _ _ _ _ hlt;omega
   |succ n ih=>
    intro i a w F h hJ hlt;refine ja0 h1 h (h3 i hJ) fun e s' a' w' F' h' hk=>?_
    cases e with
    |normal=>
     obtain ⟨i',k1,k2,k3⟩:=hk;obtain ⟨F2,k4,_⟩:=k2 _ _ _ _ _ _ h';exact ih _ _ _ _ k4 k1 (by omega)
    |exit id=>exact hQ (.exit id) _ _ _ _ h' hk
    |ret=>exact hQ .ret _ _ _ _ h' hk
  obtain ⟨F2,h5,_⟩:=h4 _ _ _ _ _ _ h;exact wp_loop_rounds _ (key (μ i0+1) _ _ _ _ h5 h2 (by omega))
 |.exit id,c,s,a,w,F,Qc,Q,hc,h,hw,hQ=>by
  have e:c=.exit id:=qR hc;subst e;exact wp_exit (hQ (.exit id) _ _ _ _ h hw)
 |.ret,c,s,a,w,F,Qc,Q,hc,h,hw,hQ=>by
  have e:c=.ret:=qR hc;subst e;exact wp_ret (hQ .ret _ _ _ _ h hw)
theorem jeH:∀{c':C} {c:Code},comp P N c=some c'→c'.er=c'
 |.skip,_,_|.reg _,_,_|.dreg _,_,_|.exit _,_,_|.ret,_,_=>rfl
 |.seq a b,c,h=>by obtain ⟨x,y,_,h1,h2⟩:=qR h;simp only [C.er,jeH h1,jeH h2]
 |.cond x a b,c,h=>by obtain ⟨_,y,z,_,_,h1,h2⟩:=qR h;simp only [C.er,jeH h1,jeH h2]
 |.blk id a,c,h=>by obtain ⟨x,_,h1⟩:=qR h;simp only [C.er,jeH h1]
 |.loop a,c,h=>by obtain ⟨x,_,h1⟩:=qR h;simp only [C.er,jeH h1]
 |.gh a,c,h=>(qR h).elim
theorem jeG:∀(p:List Nat) (c:C),(C.ghAt p c).er=c.er
 |[],c=>by cases c<;>rfl
 |0::p,.seq a b=>by simp only [C.ghAt,C.er,jeG p a]
 |(k+1)::p,.seq a b=>by simp only [C.ghAt,C.er,jeG p b]
 |0::p,.cond x a b=>by simp only [C.ghAt,C.er,jeG p a]
 |(k+1)::p,.cond x a b=>by simp only [C.ghAt,C.er,jeG p b]
 |k::p,.blk id a=>by simp only [C.ghAt,C.er,jeG p a]
 |k::p,.loop a=>by simp only [C.ghAt,C.er,jeG p a]
 |k::_,.skip=>by cases k<;>rfl
 |k::_,.reg _=>by cases k<;>rfl
 |k::_,.dreg _=>by cases k<;>rfl
 |k::_,.exit _=>by cases k<;>rfl
 |k::_,.ret=>by cases k<;>rfl
 |k::_,.gh _=>by cases k<;>rfl
def C.ghs (ps:List (List Nat)) (c:C):C:=ps.foldr C.ghAt c
theorem jBC (ps:List (List Nat)) (c:C):(C.ghs ps c).er=c.er:=by
 induction ps with
 |nil=>rfl
 |cons p ps ih=>rw [show C.ghs (p::ps) c=C.ghAt p (C.ghs ps c) from rfl,jeG,ih]
theorem jmy {c:Code} {c':C} (ps:List (List Nat)) (h:comp P N c=some c'):comp P N c=some (C.ghs ps c').er:=by rw [jBC,jeH h];exact h
theorem jq8 {ds:List D} {x:Value} (h:ViewRel.CellsAt w ds x):A0Rel w.heap.size w (.rp ds) x:=by
 obtain ⟨b,o,us,S,h1,h2,h3⟩:=h;refine ⟨b,o,us,S,h1,h2,RepL.lt ds h2,fun hne=>?_,h3⟩
 have hl:=RepL.length ds h2;cases us with
 |nil=>exact absurd (List.eq_nil_of_length_eq_zero (by simpa using hl.symm)) hne
 |cons u us=>
  have:=h3 0 u rfl;unfold World.cell? at this;split at this
  ·rename_i hh;exact jbh hh
  all_goals simp at this
theorem jvc:∀{caps:List (List D)} {xs:List Value},ViewRel.All2 w caps xs→A0RelL w.heap.size w (caps.map .rp) xs
 |[],_,h=>h
 |_::_,_,⟨x,xs',h1,h2,h3⟩=>⟨x,xs',h1,jq8 h2,jvc h3⟩
theorem jAF {d:D} {u:Value} {S:List Nat} (h:Rep w false d u S):A0Rel w.heap.size w d.toRo u:=by
 cases d with
 |val x=>exact h.1
 |sl size ty cs=>exact ⟨rfl,S,h,Rep.lt _ h⟩
theorem jxw:∀{ds:List D} {us:List Value} {S:List Nat},RepL w false ds us S→A0RelL w.heap.size w (ds.map D.toRo) us
 |[],_,_,⟨h,_⟩=>h
 |_::_,_,_,⟨u,us',S1,S2,h1,_,h3,h4⟩=>⟨u,us',h1,jAF h3,jxw h4⟩
theorem jx8:∀{v:View} {x:Value},ViewRel w v x→VRel w.heap.size w v.av x
 |.c d,x,⟨S,h⟩=>jAF h
 |.agg ds,x,⟨S,us,h1,h2⟩=>⟨us,h1,jxw h2⟩
 |.ptr ds,x,h=>jq8 h
 |.fn f caps,x,⟨xs,h1,h2⟩=>⟨xs,h1,jvc h2⟩
theorem jmQ:∀{vs:List View} {xs:List Value},zC w vs xs→xs.length=vs.length∧∀(n:Nat) (v:View) (x:Value),vs[n]?=some v→xs[n]?=some x→ViewRel w v x
 |[],_,h=>by rw [show _=_ from h];simp
 |v::vs,_,⟨x,xs',h1,h2,h3⟩=>by
  subst h1;obtain ⟨h4,h5⟩:=jmQ h3;refine ⟨by simp [h4],fun n v' x' hv hx=>?_⟩
  cases n with
  |zero=>simp at hv hx;subst hv hx;exact h2
  |succ n=>exact h5 n v' x' (by simpa using hv) (by simpa using hx)
theorem jte {vs:List View} {xs:List Value} (hv:zC w vs xs) (hN:vs.length≤N):
 RelF w.heap.size w N (St.init vs) {tmps:=xs.toArray++Array.replicate (N-xs.toArray.size) undef,defers:=[]} w (fun _=>[]):=by
 obtain ⟨hl,hg⟩:=jmQ hv;refine ⟨Below.refl _ _,Nat.le_refl _,rfl,by simp;omega,fun n=>?_,fun _=>rfl,fun _=>Fresh.nil _,fun _ _ _ _ h=>by simp at h⟩
 simp only [St.init];cases hvn:vs[n]? with
 |none=>simp [hvn,VRel]
 |some v=>
  have hlt:n<vs.length:=(List.getElem?_eq_some_iff.1 hvn).1;have hlx:n<xs.length:=by omega
  have hxn:xs[n]?=some xs[n]:=List.getElem?_eq_getElem hlx;have:=jx8 (hg n v _ hvn hxn)
  have e:(xs.toArray++Array.replicate (N-xs.toArray.size) undef).getD n undef=xs[n]:=by
   simp [Array.getD_eq_getD_getElem?,Array.getElem?_append,hlx]
  simp only [List.getElem?_map,hvn,Option.map_some,Option.getD_some];rw [e];exact this
theorem jmj:∀{cs:List Cell} {us:List Value} {S:List Nat} {ds:List D},CRel B w cs us S→IsD cs ds→RepL w true ds us S
 |[],us,S,ds,h,hd=>by rw [show ds=[] from hd];exact h
 |.a x::cs,us,S,ds,⟨u,us',h1,h2,h3⟩,hd=>by
  cases x with
  |v x=>
   cases ds with
   |nil=>exact hd.elim
   |cons d ds=>
    obtain ⟨h4,h5⟩:=hd;subst h1;have h6:=jmj h3 h5;rw [show u=x from h2]
    rcases h4 with rfl|⟨rfl,size,ty,rfl⟩
    ·exact RepL.val_ h6
    ·exact RepL.cons_ (S1:=[]) (Rep.nil_ w size ty) h6
  |_=>cases ds<;>exact hd.elim
 |.own d η::cs,us,S,ds,⟨u,us',S1,S2,h1,h2,_,h4,_,h6⟩,hd=>by
  cases ds with
  |nil=>exact hd.elim
  |cons d' ds=>
   obtain ⟨rfl,h5⟩:=hd;subst h1 h2;exact RepL.cons_ h4 (jmj h6 h5)
def jpU:List (Bool×List A0)→List Value→List Value→Prop
 |[],vals,us=>vals=[]∧us=[]
 |(b,az)::ps,vals,us=>∃v vals' xs us',vals=v::vals'∧us=xs++us'∧xs.length=az.length∧(if b then v=.agg xs.toArray else xs=[v])∧jpU ps vals' us'
def jkZ (tmps:Array Value):ResultVar→Sem Value
 |.tmp t=>pure (tmps.getD t undef)
 |.cell x t=>do loadVar t (←asAddr (tmps.getD x undef))
theorem jgy (fn:Func) (tmps:Array Value):results fn tmps=(do let vs←fn.results.mapM (jkZ tmps);pure (if h:vs.size=1 then vs[0] else .tuple vs)):=by
 unfold results
 congr 1
theorem A0RelL.app:∀{l m:List A0} {us vs:List Value},A0RelL B w l us→A0RelL B w m vs→A0RelL B w (l++m) (us++vs)
 |[],_,_,_,h1,h2=>by rw [show _=_ from h1];exact h2
 |_::_,_,_,_,⟨u,us',h1,h2,h3⟩,h4=>by subst h1;exact ⟨u,_,rfl,h2,h3.app h4⟩
theorem jgz (h:RelF B w0 N s a w F):∀{rs:List ResultVar} {rs':List R} {K:List (Bool×List A0)→Prop},jjE P N rs=some rs'→jhN s rs' K→
 ∃ps vals us,K ps∧A0RelL B w (ps.flatMap (·.2)) us∧jpU ps vals us∧(rs.mapM (jkZ a.tmps)).run P w=.ok vals w
 |[],rs',K,hc,hk=>by
  simp [jjE] at hc;subst hc;exact ⟨[],[],[],hk,rfl,⟨rfl,rfl⟩,by simp⟩
 |.tmp n::rs,rs',K,hc,hk=>by
  simp only [jjE] at hc;split at hc
  ·simp only [Option.map_eq_some_iff] at hc
   obtain ⟨r,h1,rfl⟩:=hc;simp only [jhN] at hk;have hv:=h.sl n;split at hk
   ·rename_i l he
    rw [he] at hv;obtain ⟨xs,k1,k2⟩:=hv;obtain ⟨ps,vals,us,k3,k4,k5,k6⟩:=jgz h h1 hk;refine ⟨_,.agg xs.toArray::vals,xs++us,k3,A0RelL.app k2 k4,⟨_,_,xs,us,rfl,rfl,k2.len,by simp,k5⟩,?_⟩
    simp [List.mapM_cons,jkZ,k1,k6]
   ·rename_i a0 he
    rw [he] at hv;obtain ⟨ps,vals,us,k3,k4,k5,k6⟩:=jgz h h1 hk;refine ⟨_,a.tmps.getD n undef::vals,_::us,k3,⟨_,us,rfl,hv,k4⟩,⟨_,_,[_],us,rfl,rfl,rfl,by simp,k5⟩,?_⟩
    simp [List.mapM_cons,jkZ,k6]
   ·exact hk.elim
  ·simp at hc
 |.cell n t::rs,rs',K,hc,hk=>by
  simp only [jjE] at hc
  have key:∀{dsc:TypeDesc} {agg:Bool} {k:Nat} {r:List R},P.underlying t=some dsc→agg=jzS dsc→qa P t=some k→jjE P N rs=some r→jhN s (.cell n agg k::r) K→
   ∃ps vals us,K ps∧A0RelL B w (ps.flatMap (·.2)) us∧jpU ps vals us∧((ResultVar.cell n t::rs).mapM (jkZ a.tmps)).run P w=.ok vals w:=by
   intro dsc agg k r ht hagg hn hr hk;obtain ⟨l,h1,h2,h3⟩:=hk;obtain ⟨b,o,xs,e1,e2,e3,e4,e5⟩:=jqE h (h.sl n) h1;obtain ⟨ps,vals,us,k3,k4,k5,k6⟩:=jgz h hr h3
   obtain ⟨v,hv⟩:∃v,if agg then v=.agg xs.toArray else xs=[v]:=by
    cases agg with
    |true=>exact ⟨_,rfl⟩
    |false=>
     have h4:l.length=1:=by simpa using h2
     have:xs.length=1:=by omega
     obtain ⟨v,rfl⟩:=List.length_eq_one_iff.1 this;exact ⟨v,by simp⟩
   have hrun:=jmd (P:=P) ht hagg hn e2 e4 hv;refine ⟨_,v::vals,xs++us,k3,A0RelL.app e5 k4,⟨_,_,xs,us,rfl,rfl,by omega,hv,k5⟩,?_⟩
   simp [List.mapM_cons,jkZ,e1,asAddr,hrun,k6]
  split at hc
  ·split at hc
   ·rename_i fs k r h1 h2 h3
    simp at hc;subst hc;exact key h1 rfl h2 h3 hk
   ·simp at hc
   ·rename_i dsc k r hn1 hn2 h1 h2 h3
    simp at hc;subst hc;refine key h1 ?_ h2 h3 hk;cases dsc<;>simp_all [jzS]
   ·simp at hc
  ·simp at hc
theorem jiZ:∀{l:List (Bool×List D)} {ps:List (Bool×List A0)} {vals us:List Value} {S:List Nat},jpU ps vals us→ps.map (fun p=>(p.1,p.2.length))=l.map (fun p=>(p.1,p.2.length))→RepL w true (l.flatMap (·.2)) us S→jrm w l vals S
 |[],ps,vals,us,S,h,he,hr=>by
  cases ps with
  |nil=>obtain ⟨rfl,rfl⟩:=h;exact ⟨rfl,hr.2⟩
  |cons p ps=>simp at he
 |(b,ds)::l,ps,vals,us,S,h,he,hr=>by
  cases ps with
  |nil=>simp at he
  |cons p ps=>
   obtain ⟨b',az⟩:=p;simp at he;obtain ⟨⟨rfl,e1⟩,e2⟩:=he;obtain ⟨v,vals',xs,us',rfl,rfl,h3,h4,h5⟩:=h;simp only [List.flatMap_cons] at hr;obtain ⟨v1,v2,S1,S2,e3,rfl,h6,h7⟩:=RepL.append_inv _ hr;have hl:=RepL.length _ h6;obtain ⟨rfl,rfl⟩:=List.append_inj e3 (by omega)
   exact ⟨v,vals',xs,S1,S2,rfl,rfl,h6,h4,jiZ h5 e2 h7⟩
theorem juQ (h:RelF B w0 N s a w F) {fn:Func} {rs:List R} {rt:RT} (hc:jjE P N fn.results.toList=some rs) (hq:jxi rs rt s):
 ∃v S,(results fn a.tmps).run P w=.ok v w∧jj6 w rt v S∧Fresh B S:=by
 obtain ⟨ps,vals,us,⟨h1,h2⟩,h3,h4,h5⟩:=jgz h hc hq;obtain ⟨cs,s',S,F',k1,k2,k3,k4,_⟩:=jbw h h3 h2;have hr:=jmj k2 k1
 have hrun:(results fn a.tmps).run P w=.ok (if hs:vals.toArray.size=1 then vals.toArray[0] else .tuple vals.toArray) w:=by
  rw [jgy,Array.mapM_eq_mapM_toList];simp [h5]
 cases rt with
 |c d=>
  obtain ⟨a0,rfl⟩:=h1;obtain ⟨v,vals',xs,us',rfl,rfl,e1,e2,⟨rfl,rfl⟩⟩:=h4;simp at e2;subst e2;obtain ⟨u,us'',S1,S2,e3,rfl,e5,⟨rfl,rfl⟩⟩:=hr;simp at e3;subst e3;exact ⟨v,S1++[],by simpa using hrun,(by simpa using e5:Rep w true d v (S1++[])),k4⟩
 |agg ds=>
  obtain ⟨l,rfl⟩:=h1;obtain ⟨v,vals',xs,us',rfl,rfl,e1,e2,⟨rfl,rfl⟩⟩:=h4;simp at e2;subst e2;exact ⟨_,S,by simpa using hrun,⟨xs,rfl,by simpa [RT.flat] using hr⟩,k4⟩
 |tup l=>
  obtain ⟨hne,h1⟩:=h1
  have hlen:vals.length=ps.length:=by
   have:∀{ps:List (Bool×List A0)} {vals us:List Value},jpU ps vals us→vals.length=ps.length:=by
    intro ps
    induction ps with
    |nil=>intro vals us h;rw [h.1];rfl
    |cons p ps ih=>obtain ⟨b,az⟩:=p;rintro vals us ⟨v,vals',xs,us',rfl,_,_,_,h⟩;simp [ih h]
   exact this h4
  refine ⟨_,S,hrun,⟨vals,?_,jiZ h4 h1 hr⟩,k4⟩;rw [dif_neg (by simpa [hlen] using hne)]
theorem jyP {f:FuncId} {fn:Func} {c:Code} {c':C} {vs:List View} {rs:List R} {rt:RT} (hf:P.funcs[f]?=some fn) (hb:fn.body=some c) (hn:(fn.name != "runtime.NumGoroutine")=true)
 (hc:comp P fn.ntmps c=some c'.er) (hr:jjE P fn.ntmps fn.results.toList=some rs) (hN:vs.length≤fn.ntmps) (hw:wpC P 0 c' (jxx rs rt) (St.init vs)):kj P f vs rt:=by
 refine ⟨⟨fn,hf,by rw [hb];rfl,hn⟩,fun w xs hv=>calls_of_wp hf hb (ja0 hc (jte hv hN) hw fun e s a w' F h hk=>?_)⟩
 cases e with
 |exit id=>exact hk.elim
 |normal=>
  obtain ⟨v,S,k1,k2,k3⟩:=juQ h hr hk;exact ⟨h.df,v,k1,v,S,rfl,k2,k3,h.below⟩
 |ret=>
  obtain ⟨v,S,k1,k2,k3⟩:=juQ h hr hk;exact ⟨h.df,v,k1,v,S,rfl,k2,k3,h.below⟩
theorem zn (ps:List (List Nat)) {f:FuncId} {fn:Func} {c:C} {vs:List View} {rs:List R} {rt:RT} (hf:P.funcs[f]?=some fn) (hc:fnC P fn=some (c,rs,N)) (hN:vs.length≤N) (hw:wpC P 0 (C.ghs ps c) (jxx rs rt) (St.init vs)):kj P f vs rt:=by
 unfold fnC at hc;split at hc
 ·rename_i b hb
  split at hc
  ·rename_i hn
   split at hc
   ·rename_i c' rs' h1 h2
    simp only [Option.some.injEq,Prod.mk.injEq] at hc;obtain ⟨rfl,rfl,rfl⟩:=hc;exact jyP hf hb hn (jmy ps h1) h2 hN hw
   ·simp at hc
  ·simp at hc
 ·simp at hc
theorem jq {f:FuncId} {fn:Func} {c:C} {vs:List View} {rs:List R} {rt:RT} (hf:P.funcs[f]?=some fn) (hc:fnC P fn=some (c,rs,N)) (hN:vs.length≤N) (hw:wpC P 0 c (jxx rs rt) (St.init vs)):kj P f vs rt:=zn [] hf hc hN hw
theorem jpX:∀{args:List AV} {xs:List Value},jj5 B w args xs→xs.length=args.length∧∀(n:Nat) (v:AV) (x:Value),args[n]?=some v→xs[n]?=some x→VRel B w v x
 |[],_,h=>by rw [show _=_ from h];simp
 |v::vs,_,⟨x,xs',h1,h2,h3⟩=>by
  subst h1;obtain ⟨h4,h5⟩:=jpX h3;refine ⟨by simp [h4],fun n v' x' hv hx=>?_⟩
  cases n with
  |zero=>simp at hv hx;subst hv hx;exact h2
  |succ n=>exact h5 n v' x' (by simpa using hv) (by simpa using hx)
theorem jkI {args:List AV} {xs:List Value} {o:Nat→Ob} (h:RelF B w 0 (.only o) Act.bare w F) (hv:jj5 B w args xs) (hN:args.length≤N):
 RelF B w N (St.start args o) {tmps:=xs.toArray++Array.replicate (N-xs.toArray.size) undef,defers:=[]} w F:=by
 obtain ⟨hl,hg⟩:=jpX hv;refine ⟨Below.refl _ _,h.hB,rfl,by simp;omega,fun n=>?_,h.ob,h.fr,h.dj⟩
 simp only [St.start];cases hvn:args[n]? with
 |none=>simp [hvn,VRel]
 |some v=>
  have hlt:n<args.length:=(List.getElem?_eq_some_iff.1 hvn).1;have hlx:n<xs.length:=by omega
  have hxn:xs[n]?=some xs[n]:=List.getElem?_eq_getElem hlx;have:=hg n v _ hvn hxn
  have e:(xs.toArray++Array.replicate (N-xs.toArray.size) undef).getD n undef=xs[n]:=by
   simp [Array.getD_eq_getD_getElem?,Array.getElem?_append,hlx]
  simp only [Option.getD_some];rw [e];exact this
theorem jqX (h:RelF B w0 N s a w F) {fn:Func} {rs:List R} {R:RT→(Nat→Ob)→Prop} (hc:jjE P N fn.results.toList=some rs) (hq:RetT rs R s):
 ∃v rt o' S,∃F':Nat→List Nat,(results fn a.tmps).run P w=.ok v w∧jj6 w rt v S∧Fresh B S∧(∀g,∀b∈S,b∉F' g)∧(∀g,ORel B w (o' g) (F' g))∧(∀g,Fresh B (F' g))∧(∀g g',g≠g'→∀b∈F' g,b∉F' g')∧R rt o':=by
 obtain ⟨ps,vals,us,⟨rt,h1,h2⟩,h3,h4,h5⟩:=jgz h hc hq;obtain ⟨cs,s',S,F',⟨k1,kR⟩,k2,k3,k4,k6,_⟩:=jbw h h3 h2;have hr:=jmj k2 k1
 have hrun:(results fn a.tmps).run P w=.ok (if hs:vals.toArray.size=1 then vals.toArray[0] else .tuple vals.toArray) w:=by
  rw [jgy,Array.mapM_eq_mapM_toList];simp [h5]
 have fin:∀v S,(results fn a.tmps).run P w=.ok v w→jj6 w rt v S→Fresh B S→(∀g,∀b∈S,b∉F' g)→∃v rt o' S,∃F':Nat→List Nat,(results fn a.tmps).run P w=.ok v w∧jj6 w rt v S∧Fresh B S∧(∀g,∀b∈S,b∉F' g)∧(∀g,ORel B w (o' g) (F' g))∧(∀g,Fresh B (F' g))∧(∀g g',g≠g'→∀b∈F' g,b∉F' g')∧R rt o':=
  fun v S m1 m2 m3 m4=>⟨v,rt,s'.o,S,F',m1,m2,m3,m4,k3.ob,k3.fr,k3.dj,kR⟩
 cases rt with
 |c d=>
  obtain ⟨a0,rfl⟩:=h1;obtain ⟨v,vals',xs,us',rfl,rfl,e1,e2,⟨rfl,rfl⟩⟩:=h4;simp at e2;subst e2;obtain ⟨u,us'',S1,S2,e3,rfl,e5,⟨rfl,rfl⟩⟩:=hr;simp at e3;subst e3;exact fin v (S1++[]) (by simpa using hrun) (by simpa using e5:Rep w true d v (S1++[])) k4 k6
 |agg ds=>
  obtain ⟨l,rfl⟩:=h1;obtain ⟨v,vals',xs,us',rfl,rfl,e1,e2,⟨rfl,rfl⟩⟩:=h4;simp at e2;subst e2;exact fin _ S (by simpa using hrun) ⟨xs,rfl,by simpa [RT.flat] using hr⟩ k4 k6
 |tup l=>
  obtain ⟨hne,h1⟩:=h1
  have hlen:vals.length=ps.length:=by
   have:∀{ps:List (Bool×List A0)} {vals us:List Value},jpU ps vals us→vals.length=ps.length:=by
    intro ps
    induction ps with
    |nil=>intro vals us h;rw [h.1];rfl
    |cons p ps ih=>obtain ⟨b,az⟩:=p;rintro vals us ⟨v,vals',xs,us',rfl,_,_,_,h⟩;simp [ih h]
   exact this h4
  exact fin _ S hrun ⟨vals,by rw [dif_neg (by simpa [hlen] using hne)],jiZ h4 h1 hr⟩ k4 k6
theorem jvE (ps:List (List Nat)) {f:FuncId} {fn:Func} {c:C} {args:List AV} {o:Nat→Ob} {rs:List R} {R:RT→(Nat→Ob)→Prop} (hf:P.funcs[f]?=some fn) (hc:fnC P fn=some (c,rs,N)) (hN:args.length≤N) (hw:wpC P β (C.ghs ps c) (jz0 rs R) (St.start args o)):Turns P f args o R:=by
 unfold fnC at hc;split at hc
 ·rename_i b hb
  split at hc
  ·rename_i hn
   split at hc
   ·rename_i c' rs' h1 h2
    simp only [Option.some.injEq,Prod.mk.injEq] at hc;obtain ⟨rfl,rfl,rfl⟩:=hc;refine ⟨⟨fn,hf,by rw [hb];rfl,hn⟩,fun B w F xs hF hv=>calls_of_wp hf hb (ja0 (jmy ps h1) (jkI hF hv hN) hw fun e s a w' F' h hk=>?_)⟩
    cases e with
    |exit id=>exact hk.elim
    |normal=>
     obtain ⟨v,rt,o',S,F2,k1,k2,k3,k4,k5,k6,k7,k8⟩:=jqX h h2 hk;exact ⟨h.df,v,k1,v,rt,o',S,F2,rfl,⟨h.below,h.hB,rfl,rfl,fun _=>trivial,k5,k6,k7⟩,k2,k3,k4,k8⟩
    |ret=>
     obtain ⟨v,rt,o',S,F2,k1,k2,k3,k4,k5,k6,k7,k8⟩:=jqX h h2 hk;exact ⟨h.df,v,k1,v,rt,o',S,F2,rfl,⟨h.below,h.hB,rfl,rfl,fun _=>trivial,k5,k6,k7⟩,k2,k3,k4,k8⟩
   ·simp at hc
  ·simp at hc
 ·simp at hc
theorem jit {f:FuncId} {fn:Func} {c:C} {args:List AV} {o:Nat→Ob} {rs:List R} {R:RT→(Nat→Ob)→Prop} (hf:P.funcs[f]?=some fn) (hc:fnC P fn=some (c,rs,N)) (hN:args.length≤N) (hw:wpC P β c (jz0 rs R) (St.start args o)):Turns P f args o R:=jvE [] hf hc hN hw
theorem jxt:∀{ps:List (Bool×List A0)} {vals us:List Value},jpU ps vals us→A0RelL B w (ps.flatMap (·.2)) us→TRelL B w ps vals
 |[],vals,us,⟨h1,_⟩,_=>h1
 |(b,az)::ps,vals,us,⟨v,vals',xs,us',h1,h2,h3,h4,h5⟩,hr=>by
  subst h1 h2;simp only [List.flatMap_cons] at hr
  have key:∀{l m:List A0} {xs ys:List Value},xs.length=l.length→A0RelL B w (l++m) (xs++ys)→A0RelL B w l xs∧A0RelL B w m ys:=by
   intro l
   induction l with
   |nil=>intro m xs ys hl h;obtain rfl:xs=[]:=List.eq_nil_of_length_eq_zero hl;exact ⟨rfl,h⟩
   |cons x l ih=>
    intro m xs ys hl h;cases xs with
    |nil=>simp at hl
    |cons y xs=>
     obtain ⟨u,us',e1,e2,e3⟩:=h;simp only [List.cons_append,List.cons.injEq] at e1;obtain ⟨rfl,rfl⟩:=e1;obtain ⟨k1,k2⟩:=ih (by simpa using hl) e3
     exact ⟨⟨y,xs,rfl,e2,k1⟩,k2⟩
  obtain ⟨k1,k2⟩:=key h3 hr;exact ⟨v,vals',xs,rfl,k1,h4,jxt h5 k2⟩
theorem jk9 (ps:List (List Nat)) {f:FuncId} {fn:Func} {c:C} {args:List AV} {o:Nat→Ob} {rs:List R} {R:AV→(Nat→Ob)→Prop} (hf:P.funcs[f]?=some fn) (hc:fnC P fn=some (c,rs,N)) (hN:args.length≤N) (hw:wpC P β (C.ghs ps c) (jCb rs R) (St.start args o)):Inl P f args o R:=by
 unfold fnC at hc;split at hc
 ·rename_i b hb
  split at hc
  ·rename_i hn
   split at hc
   ·rename_i c' rs' h1 h2
    simp only [Option.some.injEq,Prod.mk.injEq] at hc;obtain ⟨rfl,rfl,rfl⟩:=hc
    have fin:∀{s:St} {a:Act} {w w':World} {F':Nat→List Nat} {B:Nat},RelF B w fn.ntmps s a w' F'→jsQ rs' R s→∃v,(results fn a.tmps).run P w'=.ok v w'∧∃av o',∃F2:Nat→List Nat,RelF B w 0 (.only o') Act.bare w' F2∧VRel B w' av v∧R av o':=fun {s a w w' F' B} h hk=>by
     obtain ⟨ps,vals,us,k1,k2,k3,k4⟩:=jgz h h2 hk
     have hrun:(results fn a.tmps).run P w'=.ok (if hs:vals.toArray.size=1 then vals.toArray[0] else .tuple vals.toArray) w':=by
      rw [jgy,Array.mapM_eq_mapM_toList];simp [k4]
     have hob:RelF B w 0 (.only s.o) Act.bare w' F':=⟨h.below,h.hB,rfl,rfl,fun _=>trivial,h.ob,h.fr,h.dj⟩
     have hsp:=jxt k3 k2
     match ps,k1,hsp with
     |[],k1,hsp=>
      obtain rfl:vals=[]:=hsp;exact ⟨_,hrun,.tup [],s.o,F',hob,⟨[],by simp,rfl⟩,k1⟩
     |[(true,l)],k1,⟨v,vals',xs,e1,e2,e3,e4⟩=>
      obtain rfl:vals'=[]:=e4;subst e1;exact ⟨v,by simpa using hrun,.agg l,s.o,F',hob,⟨xs,by simpa using e3,e2⟩,k1⟩
     |[(false,[a0])],k1,⟨v,vals',xs,e1,e2,e3,e4⟩=>
      obtain rfl:vals'=[]:=e4;subst e1;obtain rfl:xs=[v]:=by simpa using e3
      obtain ⟨u,us',e5,e6,_⟩:=e2;cases e5;exact ⟨v,by simpa using hrun,.c a0,s.o,F',hob,e6,k1⟩
     |p::q::r,k1,hsp=>
      have hl:vals.length≠1:=by
       obtain ⟨_,vals',_,e1,_,_,e4⟩:=hsp;obtain ⟨_,vals'',_,e5,_,_,_⟩:=e4;subst e1 e5;simp
      have k1':R (.tup (p::q::r)) s.o:=by
       obtain ⟨b,l⟩:=p;cases b
       ·cases l with
        |nil=>exact k1
        |cons x l=>cases l<;>exact k1
       ·exact k1
      exact ⟨_,by rw [hrun,dif_neg (by simpa using hl)],.tup (p::q::r),s.o,F',hob,⟨vals,rfl,hsp⟩,k1'⟩
    refine ⟨⟨fn,hf,by rw [hb];rfl,hn⟩,fun B w F xs hF hv=>calls_of_wp hf hb (ja0 (jmy ps h1) (jkI hF hv hN) hw fun e s a w' F' h hk=>?_)⟩
    cases e with
    |exit id=>exact hk.elim
    |normal=>
     obtain ⟨v,k1,av,o',F2,k2,k3,k4⟩:=fin h hk;exact ⟨h.df,v,k1,v,av,o',F2,rfl,k2,k3,k4⟩
    |ret=>
     obtain ⟨v,k1,av,o',F2,k2,k3,k4⟩:=fin h hk;exact ⟨h.df,v,k1,v,av,o',F2,rfl,k2,k3,k4⟩
   ·simp at hc
  ·simp at hc
 ·simp at hc
theorem qn {f:FuncId} {fn:Func} {c:C} {args:List AV} {o:Nat→Ob} {rs:List R} {R:AV→(Nat→Ob)→Prop} (hf:P.funcs[f]?=some fn) (hc:fnC P fn=some (c,rs,N)) (hN:args.length≤N) (hw:wpC P β c (jCb rs R) (St.start args o)):Inl P f args o R:=jk9 [] hf hc hN hw
end
section
variable {P:Program} {β:Nat} {s:St} {d:Option Nat} {g:Option (Nat×Bool)} {K:St→Prop} {Q:Ex→St→Prop}
def jiD (o:Option (D×js)) (k:D→js→Prop):Prop:=match o with
 |some (d,η)=>k d η
 |none=>False
def jqQ (o:Option D) (k:D→Prop):Prop:=match o with
 |some d=>k d
 |none=>False
theorem ownK_ (d:D) (η:js) (k:D→js→Prop):jiD (some (d,η)) k=k d η:=(rfl)
theorem getK_ (d:D) (k:D→Prop):jqQ (some d) k=k d:=(rfl)
theorem jdO (o:Option (D×js)) (k:D→js→Prop):(∃d η,o=some (d,η)∧k d η)=jiD o k:=by
 cases o with
 |none=>simp [jiD]
 |some p=>
  obtain ⟨d,η⟩:=p
  apply propext
  constructor
  ·rintro ⟨_,_,h,h2⟩;cases h;exact h2
  ·intro h;exact ⟨d,η,rfl,h⟩
theorem jcA (d:D):D.get [] d=some d:=by cases d<;>rfl
theorem jzb (k c:Nat) (p:List Nat) (x:Value) (R:D→Prop):(∃d,Is s (.h k c p x) d∧R d)=jiD ((s.o k).own c) fun d0 η=>η p=x∧jqQ (D.get p d0) fun d=>d.isSl=true∧R d:=by
 apply propext
 rw [←jdO];constructor
 ·rintro ⟨d,⟨d0,η,h1,h2,h3,h4⟩,h5⟩;exact ⟨d0,η,h1,h2,by rw [h3];exact ⟨h4,h5⟩⟩
 ·rintro ⟨d0,η,h1,h2,h3⟩
  cases h:D.get p d0 with
  |none=>rw [h] at h3;exact h3.elim
  |some d=>rw [h] at h3;exact ⟨d,⟨d0,η,h1,h2,h,h3.1⟩,h3.2⟩
theorem jt5 (d:D) (η:js):(Ob.loose d η).own 0=some (d,η):=(rfl)
def ownC:Option Cell→Option (D×js)
 |some (.own d η)=>some (d,η)
 |_=>none
theorem jyT (b ty:Nat) (cs:List Cell) (c:Nat):(Ob.box b ty cs).own c=ownC cs[c]?:=by
 simp only [Ob.own,ownC];split<;>simp_all
theorem ownC_ (d:D) (η:js):ownC (some (.own d η))=some (d,η):=(rfl)
theorem rm_o (k c n:Nat):(s.rm k c).o n=if n=k then (s.o k).rm c else s.o n:=(rfl)
theorem rm_t (k c n:Nat):(s.rm k c).t n=s.t n:=(rfl)
theorem jr3 (d:D) (η:js):(Ob.loose d η).rm 0=.none:=(rfl)
theorem jwl (b ty:Nat) (cs:List Cell) (c:Nat):(Ob.box b ty cs).rm c=.box b ty (rmC cs c cs[c]?):=(rfl)
theorem jyJ (cs:List Cell) (c:Nat) (d:D) (η:js):rmC cs c (some (.own d η))=cs.set c (.a (.v (η []))):=(rfl)
theorem jwv (k c:Nat) (p:List Nat) (x:Value):jxG d s K false (.c (.h k c p x))=jiD ((s.o k).own c) fun d0 η=>η p=x∧jqQ (D.get p d0) fun dd=>dd.isSl=true∧0<dd.size∧K (s.put d (.c (.v (.int .i64 dd.len)))):=by
 rw [jBh,jzb]
theorem jzl (size k c:Nat) (p:List Nat) (hx:Value) (kk:IntKind) (n:Int):iaK d s K size (.c (.h k c p hx)) (.c (.v (.int kk n)))=((0≤n∧jiD ((s.o k).own c) fun d0 η=>η p=hx∧jqQ (D.get p d0) fun dd=>dd.isSl=true∧dd.size=size∧n.toNat<dd.len)∧K (s.put d (.c (.ep k c p (n.toNat*size) hx)))):=by
 rw [iaK_h,jzb]
theorem jy6 (agg:Bool) (n k c:Nat) (p:List Nat) (i:Nat) (x:Value):ldK d s K agg n (.c (.ep k c p i x))=jiD ((s.o k).own c) fun d0 η=>η p=x∧jqQ (D.get p d0) fun dd=>dd.isSl=true∧i+n≤dd.cells.length∧ldV agg (jgH k c p η i ((dd.cells.drop i).take n)) fun v=>K (s.put d v):=by
 apply propext
 rw [←jdO];simp only [ldK];constructor
 ·rintro ⟨d0,η,dd,h1,h2,h3,h4⟩;exact ⟨d0,η,h1,h2,by rw [h3];exact h4⟩
 ·rintro ⟨d0,η,h1,h2,h3⟩
  cases h:D.get p d0 with
  |none=>rw [h] at h3;exact h3.elim
  |some dd=>rw [h] at h3;exact ⟨d0,η,dd,h1,h2,h,h3⟩
theorem jvI (k c:Nat) (x:Value) (l:List A0) (R:List Cell→St→Prop):qA s (.h k c [] x::l) R=jiD ((s.o k).own c) fun d η=>η []=x∧qA (s.rm k c) l (fun cs s'=>R (.own d η::cs) s'):=by
 rw [jz2,jdO]
def jbR (a:AV) (n:Nat) (k:List A0→Prop):Prop:=∃l,a.cells=some l∧l.length=n∧k l
theorem ju9 (l:List A0) (n:Nat) (k:List A0→Prop):jbR (.agg l) n k=(l.length=n∧k l):=by simp [jbR,AV.cells]
theorem jzI (a:A0) (n:Nat) (k:List A0→Prop):jbR (.c a) n k=(a.c1=true∧1=n∧k [a]):=by
 simp only [jbR,AV.cells];cases h:a.c1<;>simp
def jxV (s:St):List (Nat×Nat×X)→(List A0→Prop)→Prop
 |[],k=>k []
 |(_,size,x)::ps,k=>jbR (s.ev x) size fun l=>jxV s ps fun r=>k (l++r)
theorem jvb:∀(ps:List (Nat×Nat×X)) (k:List A0→Prop),(∃l,jsE s ps=some l∧k l)=jxV s ps k
 |[],k=>by simp [jsE,jxV]
 |(o,size,x)::ps,k=>by
  apply propext
  simp only [jxV,jbR,jsE];constructor
  ·rintro ⟨l,h1,h2⟩
   split at h1
   ·rename_i l1 r h3 h4
    split at h1
    ·rename_i h5
     simp at h1;subst h1;refine ⟨l1,h3,h5,?_⟩;rw [←jvb ps];exact ⟨r,h4,h2⟩
    ·simp at h1
   ·simp at h1
  ·rintro ⟨l1,h3,h5,h6⟩
   rw [←jvb ps] at h6;obtain ⟨r,h7,h8⟩:=h6;exact ⟨l1++r,by rw [h3,h7];simp [h5],h8⟩
theorem jzJ (k:List A0→Prop):jxV s [] k=k []:=(rfl)
theorem jw6 (o size:Nat) (x:X) (ps:List (Nat×Nat×X)) (k:List A0→Prop):jxV s ((o,size,x)::ps) k=jbR (s.ev x) size fun l=>jxV s ps fun r=>k (l++r):=(rfl)
def joc (s:St):List A0→List (Nat×Nat×X)→(List A0→Prop)→Prop
 |cs,[],k=>k cs
 |cs,(off,size,x)::ps,k=>jbR (s.ev x) size fun l=>off+size≤cs.length∧joc s (kD cs off l) ps k
theorem jpH:∀(ps:List (Nat×Nat×X)) (cs:List A0) (k:List A0→Prop),(∃l,jhS s cs ps=some l∧k l)=joc s cs ps k
 |[],cs,k=>by simp [jhS,joc]
 |(o,size,x)::ps,cs,k=>by
  apply propext
  simp only [joc,jbR,jhS];constructor
  ·rintro ⟨l,h1,h2⟩
   split at h1
   ·rename_i l1 h3
    split at h1
    ·rename_i h5
     exact ⟨l1,h3,h5.1,h5.2,by rw [←jpH ps];exact ⟨l,h1,h2⟩⟩
    ·simp at h1
   ·simp at h1
  ·rintro ⟨l1,h3,h5,h6,h7⟩
   rw [←jpH ps] at h7;obtain ⟨r,h8,h9⟩:=h7;exact ⟨r,by rw [h3];simp [h5,h6,h8],h9⟩
theorem jwP (cs:List A0) (k:List A0→Prop):joc s cs [] k=k cs:=(rfl)
theorem juJ (cs:List A0) (off size:Nat) (x:X) (ps:List (Nat×Nat×X)) (k:List A0→Prop):joc s cs ((off,size,x)::ps) k=jbR (s.ev x) size fun l=>off+size≤cs.length∧joc s (kD cs off l) ps k:=(rfl)
theorem jyB (zs:List Value) (ps:List (Nat×Nat×X)):vd P β ⟨d,g,.bld zs ps⟩ s K=joc s (zs.map .v) ps fun l=>K (s.put d (.agg l)):=by
 have e:=jmo (P:=P) (β:=β) (s:=s) (d:=d) (g:=g) (K:=K) (i:=.bld zs ps) (G:=fun av=>∃l,jhS s (zs.map .v) ps=some l∧av=.agg l) rfl (by
  intro _ _ av os;simp only [Gen];constructor
  ·rintro ⟨l,h1,h2,h3⟩;exact ⟨⟨l,h1,h2⟩,h3⟩
  ·rintro ⟨⟨l,h1,h2⟩,h3⟩;exact ⟨l,h1,h2,h3⟩)
 rw [e,←jpH]
 apply propext
 constructor
 ·rintro ⟨_,⟨l,h1,rfl⟩,h2⟩;exact ⟨l,h1,h2⟩
 ·rintro ⟨l,h1,h2⟩;exact ⟨_,⟨l,h1,rfl⟩,h2⟩
def jsO (ks:List (Option (Nat×Nat))) (cs:List Cell) (k:List D→Prop):Prop:=∃ds,zZ ks cs=some ds∧k ds
theorem jzD (ks:List (Option (Nat×Nat))) (k:List D→Prop):jsO ks [] k=k []:=by simp [jsO,zZ]
theorem dat_v (ks:List (Option (Nat×Nat))) (x:Value) (l:List Cell) (k:List D→Prop):jsO ks (.a (.v x)::l) k=jsO ks.tail l fun r=>k (jqA (ks.head?.getD none) x::r):=by
 simp only [jsO,zZ];cases zZ ks.tail l<;>simp
theorem jzC (ks:List (Option (Nat×Nat))) (dd:D) (η:js) (l:List Cell) (k:List D→Prop):jsO ks (.own dd η::l) k=jsO ks.tail l fun r=>k (dd::r):=by
 simp only [jsO,zZ];cases zZ ks.tail l<;>simp
theorem jBc (x:Value):jqA none x=.val x:=(rfl)
theorem jyz (e size n:Nat) (ks:List (Option (Nat×Nat))) (ps:List (Nat×Nat×X)):vd P β ⟨d,g,.bsl e size n ks ps⟩ s K=jxV s ps fun l=>qA s l fun cs s'=>jsO ks cs fun ds=>∀η,K ((s'.addO [(100*(β+d.getD 0),.loose (.sl size e ds) η)]).put d (.c (.h (100*(β+d.getD 0)) 0 [] (η [])))):=by
 rw [←jvb];rfl
theorem jtB (ty:Nat) (zs:List Value):vd P β ⟨d,g,.alloc ty zs⟩ s K=∀b,K ((s.addO [(100*(β+d.getD 0),.box b ty (zs.map fun z=>.a (.v z)))]).put d (.c (.bp (100*(β+d.getD 0)) 0 b))):=by
 apply propext
 constructor
 ·rintro ⟨_,h⟩ b
  obtain ⟨_,_,⟨rfl,rfl⟩,h2⟩:=h ⟨b,fun _ _=>undef⟩
  exact h2
 ·intro h
  exact ⟨.c (.val undef),fun st=>⟨_,_,⟨rfl,rfl⟩,h st.blk⟩⟩
def obK (o:Ob) (b:Nat) (k:Nat→List Cell→Prop):Prop:=match o with
 |.box b' ty ds=>b'=b∧k ty ds
 |_=>False
theorem obK_ (b b' ty:Nat) (ds:List Cell) (k:Nat→List Cell→Prop):obK (.box b' ty ds) b k=(b'=b∧k ty ds):=(rfl)
theorem jA9 (o:Ob) (b:Nat) (k:Nat→List Cell→Prop):(∃ty ds,o=.box b ty ds∧k ty ds)=obK o b k:=by
 cases o with
 |box b' ty ds=>
  simp only [obK]
  apply propext
  constructor
  ·rintro ⟨_,_,h,h2⟩;cases h;exact ⟨by trivial,h2⟩
  ·rintro ⟨rfl,h2⟩;exact ⟨_,_,rfl,h2⟩
 |_=>simp [obK]
def stA (s':St) (K:St→Prop) (n:Nat) (ks:List (Option (Nat×Nat))) (cs:List Cell):AV→Prop
 |.c (.bp g c b)=>obK (s'.o g) b fun ty ds=>c+n≤ds.length∧K (s'.setO g (.box b ty (kD ds c cs)))
 |.c (.ep g c p k hx)=>0<n∧jsO ks cs fun ds=>jiD ((s'.o g).own c) fun d0 η=>η p=hx∧jqQ (D.get p d0) fun dd=>dd.isSl=true∧k+n≤dd.cells.length∧
  stH (kb ds&&kb ((dd.cells.drop k).take n)) p k n η fun η'=>K (s'.setO g ((s'.o g).putOwn c (D.put p k ds d0) η'))
 |_=>False
theorem jz7 (s':St) (n k c b:Nat) (ks:List (Option (Nat×Nat))) (cs:List Cell):stA s' K n ks cs (.c (.bp k c b))=obK (s'.o k) b fun ty ds=>c+n≤ds.length∧K (s'.setO k (.box b ty (kD ds c cs))):=(rfl)
theorem jz6 (s':St) (n k c i:Nat) (p:List Nat) (hx:Value) (ks:List (Option (Nat×Nat))) (cs:List Cell):stA s' K n ks cs (.c (.ep k c p i hx))=(0<n∧jsO ks cs fun ds=>jiD ((s'.o k).own c) fun d0 η=>η p=hx∧jqQ (D.get p d0) fun dd=>dd.isSl=true∧i+n≤dd.cells.length∧
 stH (kb ds&&kb ((dd.cells.drop i).take n)) p i n η fun η'=>K (s'.setO k ((s'.o k).putOwn c (D.put p i ds d0) η'))):=rfl
theorem jAr (n:Nat) (ks:List (Option (Nat×Nat))) (a x:X):vd P β ⟨none,g,.st n ks a x⟩ s K=jbR (s.ev x) n fun l=>qA s l fun cs s'=>stA s' K n ks cs (s.ev a):=by
 have e:vd P β ⟨none,g,.st n ks a x⟩ s K=((none:Option Nat)=none∧∃l,(s.ev x).cells=some l∧l.length=n∧qA s l fun cs s'=>match s.ev a with
  |.c (.bp g c b)=>∃ty ds,s'.o g=.box b ty ds∧c+n≤ds.length∧K (s'.setO g (.box b ty (kD ds c cs)))
  |.c (.ep g c p k hx)=>0<n∧∃ds,zZ ks cs=some ds∧∃d0 η dd,(s'.o g).own c=some (d0,η)∧η p=hx∧D.get p d0=some dd∧dd.isSl=true∧k+n≤dd.cells.length∧
   stH (kb ds&&kb ((dd.cells.drop k).take n)) p k n η fun η'=>K (s'.setO g ((s'.o g).putOwn c (D.put p k ds d0) η'))
  |_=>False):=rfl
 rw [e];simp only [true_and,jbR]
 congr 1
 funext l
 congr 2
 congr 1
 funext cs s'
 cases hv:s.ev a with
 |c y=>
  cases y with
  |bp g c b=>simp only [stA,←jA9]
  |ep g c p k hx=>
   simp only [stA,jsO]
   apply propext
   constructor
   ·rintro ⟨h0,ds,h1,d0,η,dd,h2,h3,h4,h5,h6,h7⟩
    exact ⟨h0,ds,h1,by rw [←jdO];exact ⟨d0,η,h2,h3,by rw [h4];exact ⟨h5,h6,h7⟩⟩⟩
   ·rintro ⟨h0,ds,h1,h2⟩
    rw [←jdO] at h2;obtain ⟨d0,η,h3,h4,h5⟩:=h2;cases hg:D.get p d0 with
    |none=>rw [hg] at h5;exact h5.elim
    |some dd=>rw [hg] at h5;exact ⟨h0,ds,h1,d0,η,dd,h3,h4,hg,h5⟩
  |_=>simp [stA]
 |_=>simp [stA]
theorem jno (d0 d1:D) (η η':js):(Ob.loose d0 η).putOwn 0 d1 η'=.loose d1 η':=(rfl)
theorem jrV (b ty:Nat) (cs:List Cell) (c:Nat) (d1:D) (η':js):(Ob.box b ty cs).putOwn c d1 η'=.box b ty (cs.set c (.own d1 η')):=(rfl)
theorem jtr {α:Type} (l:List α) (c:Nat):kD l c []=l:=(rfl)
theorem jrI {α:Type} (l:List α) (c:Nat) (x:α) (r:List α):kD l c (x::r)=kD (l.set c x) (c+1) r:=(rfl)
theorem jyD (e size bytes:Nat) (x y:X):vd P β ⟨d,g,.app e size bytes x y⟩ s K=jvx s size (s.ev y) fun ys s1=>jiq s1 e size (s.ev x) fun xs s2=>xs.length/size+ys.length/size≤maxLen∧(xs.length/size+ys.length/size)*bytes≤140737488355328∧
 ∀η,K ((s2.addO [(100*(β+d.getD 0),.loose (.sl size e (xs++ys)) η)]).put d (.c (.h (100*(β+d.getD 0)) 0 [] (η [])))):=rfl
theorem jz8 (size:Nat) (dd:D) (R:List D→St→Prop):jvx s size (.c (.ro dd)) R=(dd.isSl=true∧dd.size=size∧kb dd.cells=true∧R dd.cells s):=(rfl)
theorem src_h (size k c:Nat) (p:List Nat) (x:Value) (R:List D→St→Prop):jvx s size (.c (.h k c p x)) R=jiD ((s.o k).own c) fun d0 η=>η p=x∧jqQ (D.get p d0) fun dd=>dd.isSl=true∧dd.size=size∧(if kb dd.cells=true then R dd.cells s else p=[]∧jjm dd.cells=true∧R dd.cells (s.rm k c)):=by
 rw [←jzb];rfl
theorem jwY (e size:Nat) (R:List D→St→Prop):jiq s e size (.c (.v (.slice none 0 0))) R=R [] s:=(rfl)
def slK (dd:D) (e size:Nat) (k:List D→Prop):Prop:=∃cs,dd=.sl size e cs∧k cs
theorem jvT (e size e' size':Nat) (cs:List D) (k:List D→Prop):slK (.sl size' e' cs) e size k=((size'=size∧e'=e)∧k cs):=by
 simp only [slK]
 apply propext
 constructor
 ·rintro ⟨_,h,h2⟩;cases h;exact ⟨⟨by trivial,by trivial⟩,h2⟩
 ·rintro ⟨⟨rfl,rfl⟩,h⟩;exact ⟨_,rfl,h⟩
theorem jBK (e size k c:Nat) (x:Value) (R:List D→St→Prop):jiq s e size (.c (.h k c [] x)) R=jiD ((s.o k).own c) fun d0 η=>slK d0 e size fun cs=>η []=x∧R cs (s.rm k c):=by
 apply propext
 rw [←jdO];simp only [jiq,slK];constructor
 ·rintro (⟨_,cs,η,h1,h2,h3⟩|⟨_,h,_⟩)
  ·exact ⟨_,η,h1,cs,rfl,h2,h3⟩
  ·cases h
 ·rintro ⟨_,η,h1,cs,rfl,h2,h3⟩;exact .inl ⟨trivial,cs,η,h1,h2,h3⟩
theorem juF:kb []=true:=(rfl)
theorem jst (u:Value) (l:List D):kb (.val u::l)=(u.oneCell'&&kb l):=(rfl)
theorem vx:∀(l m:List D),kb (l++m)=(kb l&&kb m)
 |[],_=>by simp [kb]
 |.val u::l,m=>by simp [kb,vx l m,Bool.and_assoc]
 |.sl _ _ _::l,m=>by simp [kb]
theorem jtz {e size bytes:Nat} {zs:List D} {l c:X}:vd P β ⟨d,g,.mks e size bytes zs l c⟩ s K=∃(k k':IntKind) (n:Nat),s.ev l=.c (.v (.int k (n:Int)))∧s.ev c=.c (.v (.int k' (n:Int)))∧bytes*n≤281474976710656∧n≤maxLen∧
 ∀η,K ((s.addO [(100*(β+d.getD 0),.loose (.sl size e ((List.replicate n zs).flatten)) η)]).put d (.c (.h (100*(β+d.getD 0)) 0 [] (η [])))):=by
 apply propext
 constructor
 ·rintro ⟨_,h⟩
  obtain ⟨_,_,⟨k,k',n,h1,h2,h3,h4,rfl,rfl⟩,_⟩:=h ⟨0,fun _ _=>undef⟩
  refine ⟨k,k',n,h1,h2,h3,h4,fun η=>?_⟩
  obtain ⟨_,_,⟨k1,k1',n1,h1',h2',_,_,rfl,rfl⟩,h6⟩:=h ⟨0,fun _=>η⟩
  rw [h1] at h1';cases h1';exact h6
 ·rintro ⟨k,k',n,h1,h2,h3,h4,h5⟩
  exact ⟨.c (.val undef),fun st=>⟨_,_,⟨k,k',n,h1,h2,h3,h4,rfl,rfl⟩,h5 (st.η 0)⟩⟩
def bnd (s:St) (x:Option X) (dflt:Nat) (k:Nat→Prop):Prop:=match x with
 |none=>k dflt
 |some x=>∃kk n,s.ev x=.c (.v (.int kk n))∧0≤n∧k n.toNat
def bndA (a:AV) (k:Nat→Prop):Prop:=match a with
 |.c (.v (.int _ n))=>0≤n∧k n.toNat
 |_=>False
theorem bndA_ (kk:IntKind) (n:Int) (k:Nat→Prop):bndA (.c (.v (.int kk n))) k=(0≤n∧k n.toNat):=(rfl)
theorem bnd_n (dflt:Nat) (k:Nat→Prop):bnd s none dflt k=k dflt:=(rfl)
theorem bnd_s (x:X) (dflt:Nat) (k:Nat→Prop):bnd s (some x) dflt k=bndA (s.ev x) k:=by
 simp only [bnd]
 apply propext
 constructor
 ·rintro ⟨kk,n,h1,h2⟩;rw [h1];exact h2
 ·intro h
  unfold bndA at h;split at h
  ·rename_i kk n he;exact ⟨kk,n,he,h⟩
  ·exact h.elim
theorem jj0 (x:Option X) (dflt:Nat) (R:Nat→Prop):(∃l,jgl s x dflt l∧R l)=bnd s x dflt R:=by
 apply propext
 cases x with
 |none=>constructor
        ·rintro ⟨l,rfl,h⟩;exact h
        ·intro h;exact ⟨_,rfl,h⟩
 |some x=>
  constructor
  ·rintro ⟨l,⟨k,h1⟩,h2⟩;exact ⟨k,l,h1,Int.natCast_nonneg _,by simpa using h2⟩
  ·rintro ⟨k,n,h1,h2,h3⟩;exact ⟨n.toNat,⟨k,by rw [h1,Int.toNat_of_nonneg h2]⟩,h3⟩
def slA (d:Option Nat) (s:St) (K:St→Prop) (size:Nat) (lo hi:Option X):AV→Prop
 |.c (.v (.string b))=>size=0∧bnd s lo 0 fun l=>bnd s hi b.size fun h=>(l≤h∧h≤b.size)∧K (s.put d (.c (.v (.string (b.extract l h)))))
 |.c (.ro dd)=>(0<size∧dd.isSl=true∧dd.size=size)∧bnd s lo 0 fun l=>bnd s hi dd.len fun h=>(l≤h∧h≤dd.len)∧K (s.put d (.c (.ro (dd.sub l h))))
 |.c (.h k c p x)=>0<size∧jiD ((s.o k).own c) fun d0 η=>η p=x∧jqQ (D.get p d0) fun dd=>(dd.isSl=true∧dd.size=size)∧bnd s lo 0 fun l=>bnd s hi dd.len fun h=>(l≤h∧h≤dd.len)∧K (s.put d (.c (.hs k c p x size l (h-l))))
 |.c (.hs k c p x sz lo0 m)=>((∃dd,Is s (.hs k c p x sz lo0 m) dd)∧sz=size)∧bnd s lo 0 fun l=>bnd s hi m fun h=>(l≤h∧h≤m)∧K (s.put d (.c (.hs k c p x size (lo0+l) (h-l))))
 |_=>False
theorem jAs (size:Nat) (x:X) (lo hi:Option X):vd P β ⟨d,g,.sl size x lo hi⟩ s K=slA d s K size lo hi (s.ev x):=by
 have e:=jmo (P:=P) (β:=β) (s:=s) (d:=d) (g:=g) (K:=K) (i:=.sl size x lo hi) (G:=fun av=>∃l h,jgl s lo 0 l∧l≤h∧(match s.ev x with
  |.c (.v (.string b))=>size=0∧jgl s hi b.size h∧h≤b.size∧av=.c (.v (.string (b.extract l h)))
  |.c (.ro d)=>0<size∧d.isSl=true∧d.size=size∧jgl s hi d.len h∧h≤d.len∧av=.c (.ro (d.sub l h))
  |.c (.h g c p hx)=>0<size∧(∃d,Is s (.h g c p hx) d∧d.size=size∧jgl s hi d.len h∧h≤d.len)∧av=.c (.hs g c p hx size l (h-l))
  |.c (.hs g c p hx sz lo m)=>(∃d,Is s (.hs g c p hx sz lo m) d)∧sz=size∧jgl s hi m h∧h≤m∧av=.c (.hs g c p hx size (lo+l) (h-l))
  |_=>False)) rfl (by
  intro _ _ av os;simp only [Gen];constructor
  ·rintro ⟨l,h,h1,h2,h3,h4⟩;exact ⟨⟨l,h,h1,h2,h3⟩,h4⟩
  ·rintro ⟨⟨l,h,h1,h2,h3⟩,h4⟩;exact ⟨l,h,h1,h2,h3,h4⟩)
 rw [e]
 apply propext
 cases hv:s.ev x with
 |c y=>
  cases y with
  |v u=>
   cases u with
   |string b=>
    simp only [slA,←jj0];constructor
    ·rintro ⟨_,⟨l,h,h1,h2,h3,h4,h5,rfl⟩,h6⟩;exact ⟨h3,l,h1,h,h4,⟨h2,h5⟩,h6⟩
    ·rintro ⟨h3,l,h1,h,h4,⟨h2,h5⟩,h6⟩;exact ⟨_,⟨l,h,h1,h2,h3,h4,h5,rfl⟩,h6⟩
   |_=>simp [slA]
  |ro dd=>
   simp only [slA,←jj0];constructor
   ·rintro ⟨_,⟨l,h,h1,h2,h3,h4,h5,h6,h7,rfl⟩,h8⟩;exact ⟨⟨h3,h4,h5⟩,l,h1,h,h6,⟨h2,h7⟩,h8⟩
   ·rintro ⟨⟨h3,h4,h5⟩,l,h1,h,h6,⟨h2,h7⟩,h8⟩;exact ⟨_,⟨l,h,h1,h2,h3,h4,h5,h6,h7,rfl⟩,h8⟩
  |h k c p hx=>
   simp only [slA];constructor
   ·rintro ⟨_,⟨l,h,h1,h2,h3,⟨dd,⟨d0,η,k1,k2,k3,k4⟩,k5,k6,k7⟩,rfl⟩,h8⟩
    refine ⟨h3,?_⟩;rw [←jdO];refine ⟨d0,η,k1,k2,?_⟩;rw [k3];refine ⟨⟨k4,k5⟩,?_⟩;rw [←jj0];refine ⟨l,h1,?_⟩;rw [←jj0];exact ⟨h,k6,⟨h2,k7⟩,h8⟩
   ·rintro ⟨h3,h4⟩
    rw [←jdO] at h4;obtain ⟨d0,η,k1,k2,k3⟩:=h4;cases hg:D.get p d0 with
    |none=>rw [hg] at k3;exact k3.elim
    |some dd=>
     rw [hg] at k3;obtain ⟨⟨k4,k5⟩,k6⟩:=k3;rw [←jj0] at k6;obtain ⟨l,h1,k7⟩:=k6;rw [←jj0] at k7;obtain ⟨h,k8,⟨h2,k9⟩,h8⟩:=k7;exact ⟨_,⟨l,h,h1,h2,h3,⟨dd,⟨d0,η,k1,k2,hg,k4⟩,k5,k8,k9⟩,rfl⟩,h8⟩
  |hs k c p hx sz lo0 m=>
   simp only [slA,←jj0];constructor
   ·rintro ⟨_,⟨l,h,h1,h2,h3,h4,h5,h6,rfl⟩,h7⟩;exact ⟨⟨h3,h4⟩,l,h1,h,h5,⟨h2,h6⟩,h7⟩
   ·rintro ⟨⟨h3,h4⟩,l,h1,h,h5,⟨h2,h6⟩,h7⟩;exact ⟨_,⟨l,h,h1,h2,h3,h4,h5,h6,rfl⟩,h7⟩
  |_=>simp [slA]
 |_=>simp [slA]
theorem jAb (size:Nat) (lo hi:Option X) (dd:D):slA d s K size lo hi (.c (.ro dd))=((0<size∧dd.isSl=true∧dd.size=size)∧bnd s lo 0 fun l=>bnd s hi dd.len fun h=>(l≤h∧h≤dd.len)∧K (s.put d (.c (.ro (dd.sub l h))))):=(rfl)
theorem slA_h (size:Nat) (lo hi:Option X) (k c:Nat) (p:List Nat) (x:Value):slA d s K size lo hi (.c (.h k c p x))=(0<size∧jiD ((s.o k).own c) fun d0 η=>η p=x∧jqQ (D.get p d0) fun dd=>(dd.isSl=true∧dd.size=size)∧bnd s lo 0 fun l=>bnd s hi dd.len fun h=>(l≤h∧h≤dd.len)∧K (s.put d (.c (.hs k c p x size l (h-l))))):=(rfl)
theorem is_hs (k c:Nat) (p:List Nat) (x:Value) (sz lo n:Nat) (R:D→Prop):(∃d,Is s (.hs k c p x sz lo n) d∧R d)=jiD ((s.o k).own c) fun d0 η=>η p=x∧jqQ (D.get p d0) fun dd=>(dd.isSl=true∧dd.size=sz∧0<sz∧lo+n≤dd.len)∧R (dd.sub lo (lo+n)):=by
 apply propext
 rw [←jdO];constructor
 ·rintro ⟨d,⟨d0,η,dd,h1,h2,h3,h4,h5,h6,h7,rfl⟩,h8⟩;exact ⟨d0,η,h1,h2,by rw [h3];exact ⟨⟨h4,h5,h6,h7⟩,h8⟩⟩
 ·rintro ⟨d0,η,h1,h2,h3⟩
  cases h:D.get p d0 with
  |none=>rw [h] at h3;exact h3.elim
  |some dd=>rw [h] at h3;obtain ⟨⟨h4,h5,h6,h7⟩,h8⟩:=h3;exact ⟨_,⟨d0,η,dd,h1,h2,h,h4,h5,h6,h7,rfl⟩,h8⟩
theorem jz9 (size k c:Nat) (p:List Nat) (x:Value) (sz lo n:Nat) (R:List D→St→Prop):jvx s size (.c (.hs k c p x sz lo n)) R=jiD ((s.o k).own c) fun d0 η=>η p=x∧jqQ (D.get p d0) fun dd=>(dd.isSl=true∧dd.size=sz∧0<sz∧lo+n≤dd.len)∧(dd.sub lo (lo+n)).size=size∧kb (dd.sub lo (lo+n)).cells=true∧R (dd.sub lo (lo+n)).cells s:=
 is_hs (s:=s) k c p x sz lo n fun d=>d.size=size∧kb d.cells=true∧R d.cells s
theorem jy5 (k c:Nat) (p:List Nat) (x:Value) (sz lo n:Nat):jxG d s K false (.c (.hs k c p x sz lo n))=((∃dd,Is s (.hs k c p x sz lo n) dd)∧K (s.put d (.c (.v (.int .i64 n))))):=by
 rw [juh]
 apply propext
 constructor
 ·rintro ⟨_,⟨h1,rfl⟩,h2⟩;exact ⟨h1,h2⟩
 ·rintro ⟨h1,h2⟩;exact ⟨_,⟨h1,rfl⟩,h2⟩
theorem jBr (size k c:Nat) (p:List Nat) (hx:Value) (sz lo m:Nat) (kk:IntKind) (n:Int):iaK d s K size (.c (.hs k c p hx sz lo m)) (.c (.v (.int kk n)))=((0≤n∧(∃dd,Is s (.hs k c p hx sz lo m) dd)∧sz=size∧n.toNat<m)∧K (s.put d (.c (.ep k c p ((lo+n.toNat)*size) hx)))):=(rfl)
theorem ret_r (rs:List R) (rt:RT):jxx rs rt .ret s=jxi rs rt s:=(rfl)
def St.n (s:St) (i:Nat):Nat:=match s.t i with|.c (.v (.int _ n))=>n.toNat|_=>0
theorem jev {i:Nat} {k:IntKind} {n:Int} (h:s.t i=.c (.v (.int k n))):s.n i=n.toNat:=by simp [St.n,h]
theorem jf {x:Int} (h:-9223372036854775808≤x) (h':x<9223372036854775808):IntKind.i64.wrap x=x:=IntWalk.i64_in _ (by omega)
theorem is_v (x:Value):Is s (.v x) (.val x)=True:=by simp [Is]
theorem is_ro (d:D):Is s (.ro d) d=True:=by simp [Is]
theorem jxH (size:Nat) (ty:TypeId):Is s (.v (.slice none 0 0)) (.sl size ty [])=True:=by simp [Is]
theorem jzc:IsL s [] []=True:=(rfl)
theorem jwx (a:A0) (l:List A0) (d:D) (ds:List D):IsL s (a::l) (d::ds)=(Is s a d∧IsL s l ds):=(rfl)
theorem jxf:zV s [] []=True:=(rfl)
theorem jvp (a:AV) (l:List AV) (v:View) (vs:List View):zV s (a::l) (v::vs)=(jkD s a v∧zV s l vs):=(rfl)
theorem arg_c (a:A0) (d:D):jkD s (.c a) (.c d)=Is s a d:=(rfl)
theorem jzN (l:List A0) (ds:List D):jkD s (.agg l) (.agg ds)=IsL s l ds:=(rfl)
theorem jzM (a:A0) (ds:List D):jkD s (.c a) (.ptr ds)=Ptr s a ds:=(rfl)
theorem jBZ (f:Nat) (caps:List A0) (caps':List (List D)):jkD s (.fn f caps) (.fn f caps')=jxj s caps caps':=by simp [jkD]
theorem jwg:jxj s [] []=True:=(rfl)
theorem jtV (a:A0) (l:List A0) (d:List D) (ds:List (List D)):jxj s (a::l) (d::ds)=(Ptr s a d∧jxj s l ds):=(rfl)
theorem jAT (ds:List D):Ptr s (.rp ds) ds=True:=by simp [Ptr]
theorem is_h0 (k c:Nat) (x:Value) (d:D):Is s (.h k c [] x) d=jiD ((s.o k).own c) fun d0 η=>d0=d∧η []=x∧d.isSl=true:=by
 apply propext
 rw [←jdO];simp only [Is,jcA];constructor
 ·rintro ⟨d0,η,h1,h2,h3,h4⟩;cases h3;exact ⟨_,η,h1,rfl,h2,h4⟩
 ·rintro ⟨_,η,h1,rfl,h2,h3⟩;exact ⟨_,η,h1,h2,rfl,h3⟩
theorem jiK {k c:Nat} {x:Value} {ty:Nat} {cs:List D} {η:js} {bs:List UInt8} (h1:(s.o k).own c=some (.sl 1 ty cs,η)) (h2:η []=x) (h3:cs=bs.map qX) (hk:K (s.put d (.c (.v (.string ⟨bs.toArray⟩))))):cvK d s K .text (.c (.h k c [] x)):=by
 subst h3;exact ⟨_,⟨_,ty,bs,rfl,⟨_,η,h1,h2,jcA _,rfl⟩,rfl⟩,hk⟩
end
theorem jwV (s:Nat) (t:TypeId) (cs:List D):(D.sl s t cs).size=s:=(rfl)
theorem ju1 (s:Nat) (t:TypeId) (cs:List D):(D.sl s t cs).cells=cs:=(rfl)
theorem jBH (s:Nat) (t:TypeId) (cs:List D):(D.sl s t cs).isSl=true:=(rfl)
theorem jzw (s:Nat) (t:TypeId) (cs:List D) (g:Nat) (η:js):(D.sl s t cs).obj g η=[(g,.loose (.sl s t cs) η)]:=(rfl)
theorem jBJ (v:Value) (g:Nat) (η:js):(D.val v).obj g η=[]:=(rfl)
theorem jzv (s:Nat) (t:TypeId) (cs:List D) (g c:Nat) (p:List Nat) (η:js):(D.sl s t cs).toOwn g c p η=.h g c p (η p):=(rfl)
theorem jBI (v:Value) (g c:Nat) (p:List Nat) (η:js):(D.val v).toOwn g c p η=.v v:=(rfl)
theorem jzt (s:Nat) (t:TypeId) (cs:List D) (l h:Nat):(D.sl s t cs).sub l h=.sl s t ((cs.drop (l*s)).take ((h-l)*s)):=(rfl)
attribute [go_sem] jwV ju1 jBH jzw jBJ jzv jBI jzt jx6 jyG jyE jyF jAz jAA jAB jAC jAD jAM jAN jAO jAP jun jsi juo jsj jy8 jy9 jyn jtw I.looks AV.looks A0.looks AV.ids A0.ids List.flatMap_cons List.flatMap_nil List.append_nil List.contains_cons List.contains_nil Bool.or_false Bool.or_true Bool.or_self Bool.false_or Bool.true_or ite_true ite_false jAs jAb slA_h bnd_n bnd_s bndA_ jz9 jy5 jBr jBc jno jrV List.tail_cons List.head?_cons Nat.zero_add jvB jzU joP jxm jvC jx5 jsU jsV thn_n thn_e thn_r blk_n blk_r blk_e jv3 jtA jyt jyu jyv jyw jyp jv2 jAW jAx jBx jBz jBy jAu jBi jBj jy6 ldB_ ldV_t ldV_f jAv jBq jzl jyr jy4 jwu jww jwv jyC jBU jxb jAq jya jAy jzE jAt mmK_ jyx extK_ jBA jBB jv1 jAm jyA jw8 jBS jyz jyB jtB jAr jz7 jyD jz8 src_h jwY jBK jvT ownK_ getK_ jcA jt5 jyT ownC_ rm_o rm_t jr3 jwl jyJ obK_ ju9 jzI jzJ jw6 jwP juJ jzD dat_v jzC jtr jrI juF jst vx jvJ jz1 jyd jvI one_i one_b one_s one_n A0.c1 ev_t ev_i ev_b ev_s ev_n put_t put_o jAo jAp jxh jvv jBl jBm View.av jAE jwz jfm jdr ret_r is_v is_ro jxH jzc jwx jxf jvp arg_c jzN jzM jBZ jwg jtV jAT is_h0 RT.flat jkp RT.av jA1 jB9 List.map_cons List.map_nil List.length_cons List.length_nil List.take_succ_cons List.take_zero List.drop_succ_cons List.drop_zero List.getElem?_cons_zero List.getElem?_cons_succ List.set_cons_zero List.set_cons_succ List.cons_append List.nil_append Option.getD_some Nat.lt_add_one and_true true_and and_self forall_const imp_self implies_true ge_iff_le gt_iff_lt decide_true decide_false Bool.not_true Bool.not_false Bool.and_self Bool.false_eq_true Int.toNat_natCast Int.natCast_nonneg not_false_eq_true ne_eq
attribute [go_sem_proc] Nat.reduceEqDiff Nat.reduceMul Nat.reduceAdd Nat.reduceLeDiff Nat.reduceLT Nat.reduceBEq Nat.reduceSub reduceCtorEq Int.reduceEq
attribute [go_sem_proc↓] reduceIte
open Go.RowKit
theorem iEn:(Tryz.prog.info? tEn).map (fun i=>(i.zero,i.size,i.bytes))=some (some (.agg #[.int .i64 0,.int .i64 0,.int .i64 0,.int .i64 0]),4,32):=by kernel_rfl
theorem slEn:SlT Tryz.prog jrs tEn 4 32 [.int .i64 0,.int .i64 0,.int .i64 0,.int .i64 0]:=⟨by kernel_rfl,jpv iEn,rfl,by decide⟩
theorem jB8:(Tryz.prog.info? tEn).map (·.size)=some 4:=by kernel_rfl
theorem iEnS:(Tryz.prog.info? jrs).map (fun i=>(i.zero,i.size,i.bytes))=some (some (.slice none 0 0),1,24):=by kernel_rfl
theorem jAa:SlT Tryz.prog tSh jrs 1 24 [.slice none 0 0]:=⟨by kernel_rfl,jpv iEnS,rfl,by decide⟩
theorem iRn:(Tryz.prog.info? tRn).map (fun i=>(i.zero,i.size,i.bytes))=some (some (.agg #[.int .i64 0,.int .i64 0,.int .i64 0,.int .i64 0,.int .i64 0,.slice none 0 0,.int .i64 0,.slice none 0 0]),8,96):=by kernel_rfl
theorem slRn:SlT Tryz.prog jz3 tRn 8 96 [.int .i64 0,.int .i64 0,.int .i64 0,.int .i64 0,.int .i64 0,.slice none 0 0,.int .i64 0,.slice none 0 0]:=⟨by kernel_rfl,jpv iRn,rfl,by decide⟩
theorem juR:∀(y:En),∀d∈jk y,d.one:=by intro y d hd;simp [jk] at hd;rcases hd with rfl|rfl|rfl|rfl<;>trivial
theorem jsw:∀(y:List En),∀d∈[jm y],d.one:=by intro y d hd;simp at hd;subst hd;trivial
theorem zEnS (w:World):RepL w true [jm []] [.slice none 0 0] []:=RepL.cons_ (Rep.nil_ w 4 tEn) RepL.nil_
open Go.RowKit Go.Sort Go.BigFrame
theorem jaI (y:Yd) (id:Int) (a:Value) (S:List Nat) (w:World) (own:Bool) (ha:AggRep w own (jb y) a S):
 Calls Tryz.prog 26 #[a,.int .i64 id] w fun e w'=>e=.returned (.int .i64 (runAt y id))∧Below w.heap.size w w':=by
 obtain ⟨_,rfl,ha⟩:=ha;obtain ⟨sv,rv,S1,S2,rfl,ah0,ah1,rfl⟩:=vR ha;clear ha ah0;obtain ⟨A,c,rfl,hc1,hc2,hca⟩:=Rep.open_ (size:=8) (enc:=jd) (fun _=>rfl) (by decide) ah1
 unfold maxLen at hc2;have hl1:y.runs.length≤9223372036854775807:=by omega
 by_cases h8:8<y.runs.length
 ·clear hca
  have hr:runAt y id=-1:=by simp [runAt,h8]
  rw [hr];clear hr
  go_enter Tryz.func26,Tryz.ntmps26
  go_wp2
  go_loop [5] (fun i=>i=.int .i64 0) (fun _=>0)
  case atStart=>rfl
  case round=>
   subst hrel
   go_wp2
   all_goals go_ret
   all_goals exact ⟨rfl,(Below.refl _ _).alloc (by simp) _⟩
 ·have hr:runAt y id=jgv y.runs id:=by simp [runAt,h8]
  rw [hr];clear hr
  go_enter Tryz.func26,Tryz.ntmps26
  go_wp2
  go_loop [5] (fun i=>∃k:Nat,k≤y.runs.length∧i=.int .i64 k∧∀j,j<k→∀z,y.runs[j]?=some z→z.id≠id) (fun i=>y.runs.length-(intOf i).toNat)
  case atStart=>exact ⟨0,by omega,rfl,by simp⟩
  case round=>
   obtain ⟨k,hk,rfl,hno⟩:=hrel;have HN:=Lib.hid hno;clear hno;by_cases hlt:k<y.runs.length
   ·obtain ⟨x,hx⟩:=je hlt
    obtain ⟨b1,o1,vk1,T1,rfl,-,hr1,-,-,hb1,hx1⟩:=hca k x hx;clear hca;obtain ⟨v0,v1,U0,U1,rfl,-,-,-⟩:=jaf hr1;have HX:=Lib.hid hx;clear hx;have p0:w.cell? ⟨b1,o1+k*8,none⟩=some (.int .i64 x.id):=hx1 0 _ rfl;clear hx1 hr1;by_cases he:x.id=id
    ·have hb:(x.id==id)=true:=by simpa using he
     have HE:=Lib.hid he;clear he
     go_wp2
     go_ret
     exact ⟨jgx (jbx HX.out HE.out HN.out).symm,(Below.refl _ _).alloc (by simp) _⟩
    ·have hb:(x.id==id)=false:=by simpa using he
     have HE:=Lib.hid he;clear he
     go_wp2
     go_round
     case rel=>
      refine ⟨k+1,by omega,by go_num,fun j hj z hz=>?_⟩
      by_cases hjk:j=k
      ·subst hjk
       have:=HX.out;rw [hz] at this;cases this;exact HE.out
      ·exact HN.out j (by omega) z hz
     case measure=>simp [intOf];omega
   ·obtain rfl:k=y.runs.length:=by omega
    clear hca
    go_wp2
    go_ret
    exact ⟨jgx (jgu HN.out).symm,(Below.refl _ _).alloc (by simp) _⟩
theorem jn3 (x:Rn) (id:Int) (a:Value) (S:List Nat) (g:Nat) (w:World) (own:Bool) (ha:AggRep w own (jd x) a S) (hg:w.cell? ⟨g,0,none⟩=some (.int .i64 id)):
 Calls Tryz.prog 88 #[a,.pointer (some ⟨g,0,none⟩)] w fun e w'=>e=.returned (.bool (x.id==id))∧Below w.heap.size w w':=by
 obtain ⟨_,rfl,ha⟩:=ha;obtain ⟨v0,v1,U0,U1,rfl,-,-,-⟩:=jaf ha;clear ha;have hlt:=World.block_lt_of_cell? w _ hg
 go_enter Tryz.func88,Tryz.ntmps88
 go_wp2
 go_ret
 exact ⟨rfl,(Below.refl _ _).alloc (by simp) _⟩
theorem jpy (rs:List Rn) (id:Int) (a:Value) (S:List Nat) (g:Nat) (w:World) (own:Bool) (ha:Rep w own (jK rs) a S) (hg:w.cell? ⟨g,0,none⟩=some (.int .i64 id)):
 Calls Tryz.prog 87 #[a,.func (.func 88) #[] #[.pointer (some ⟨g,0,none⟩)]] w fun e w'=>e=.returned (.int .i64 (jgv rs id))∧Below w.heap.size w w':=by
 obtain ⟨A,c,rfl,hc1,hc2,hca⟩:=Rep.open_ (size:=8) (enc:=jd) (fun _=>rfl) (by decide) ha
 unfold maxLen at hc2;have hl1:rs.length≤9223372036854775807:=by omega
 have hglt:=World.block_lt_of_cell? w _ hg;clear ha
 go_enter Tryz.func87,Tryz.ntmps87
 go_wp2
 go_loopw [5,8] (fun _ i wr=>∃k:Nat,k≤rs.length∧i=.int .i64 k∧(∀j,j<k→∀z,rs[j]?=some z→z.id≠id)∧Below w.heap.size w wr) (fun _ i _=>rs.length-(intOf i).toNat)
 case atStart=>exact ⟨0,by omega,rfl,by simp,Below.refl _ _⟩
 case round=>
  obtain ⟨k,hk,rfl,hno,hbel⟩:=hrel;have HN:=Lib.hid hno;clear hno;have hgr:wr.cell? ⟨g,0,none⟩=some (.int .i64 id):=(hbel.cell (p:=⟨g,0,none⟩) hglt).trans hg;by_cases hlt:k<rs.length
  ·obtain ⟨x,hx⟩:=je hlt
   obtain ⟨b1,o1,vk1,T1,rfl,-,hr1,-,-,hb1,hx1⟩:=hca k x hx;clear hca;obtain ⟨v0,v1,U0,U1,rfl,-,-,-⟩:=jaf hr1;have HX:=Lib.hid hx;clear hx;have p0:=(hbel.cell (p:=⟨b1,o1+k*8,none⟩) hb1).trans (hx1 0 _ rfl:w.cell? ⟨b1,o1+k*8,none⟩=_);have p1:=(hbel.cell (p:=⟨b1,o1+k*8+1,none⟩) hb1).trans (hx1 1 _ rfl);have p2:=(hbel.cell (p:=⟨b1,o1+k*8+2,none⟩) hb1).trans (hx1 2 _ rfl);have p3:=(hbel.cell (p:=⟨b1,o1+k*8+3,none⟩) hb1).trans (hx1 3 _ rfl);have p4:=(hbel.cell (p:=⟨b1,o1+k*8+4,none⟩) hb1).trans (hx1 4 _ rfl);have p5:=(hbel.cell (p:=⟨b1,o1+k*8+5,none⟩) hb1).trans (hx1 5 _ rfl);have p6:=(hbel.cell (p:=⟨b1,o1+k*8+6,none⟩) hb1).trans (hx1 6 _ rfl);have p7:=(hbel.cell (p:=⟨b1,o1+k*8+7,none⟩) hb1).trans (hx1 7 _ rfl);clear hx1;by_cases he:x.id=id
   ·have hb:(x.id==id)=true:=by simpa using he
    have HE:=Lib.hid he;clear he
    go_wp2_with (go_at_call 88;refine (jn3 x id _ _ _ _ own ⟨_,rfl,hr1.below hbel (Nat.le_refl _)⟩ hgr).mono ?_;rintro e w2 ⟨rfl,hb2⟩)
    go_ret
    exact ⟨jgx (jbx HX.out HE.out HN.out).symm,kr hbel hb2⟩
   ·have hb:(x.id==id)=false:=by simpa using he
    have HE:=Lib.hid he;clear he
    go_wp2_with (go_at_call 88;refine (jn3 x id _ _ _ _ own ⟨_,rfl,hr1.below hbel (Nat.le_refl _)⟩ hgr).mono ?_;rintro e w2 ⟨rfl,hb2⟩)
    go_roundw
    case rel=>
     refine ⟨k+1,by omega,by go_num,fun j hj z hz=>?_,kr hbel hb2⟩
     by_cases hjk:j=k
     ·subst hjk
      have:=HX.out;rw [hz] at this;cases this;exact HE.out
     ·exact HN.out j (by omega) z hz
    case measure=>simp [intOf];omega
  ·obtain rfl:k=rs.length:=by omega
   clear hca
   go_wp2
   go_ret
   exact ⟨jgx (jgu HN.out).symm,hbel⟩
theorem jaN (y:Yd) (id:Int) (a:Value) (S:List Nat) (w:World) (own:Bool) (ha:AggRep w own (jb y) a S):
 Calls Tryz.prog 25 #[a,.int .i64 id] w fun e w'=>e=.returned (.int .i64 (runAt y id))∧Below w.heap.size w w':=by
 obtain ⟨_,rfl,ha⟩:=ha;obtain ⟨sv,rv,S1,S2,rfl,ah0,ah1,rfl⟩:=vR ha;clear ha ah0;obtain ⟨A,c,rfl,hc1,hc2,hca⟩:=Rep.open_ (size:=8) (enc:=jd) (fun _=>rfl) (by decide) ah1
 unfold maxLen at hc2;have hl1:y.runs.length≤9223372036854775807:=by omega
 clear hca;by_cases h8:8<y.runs.length
 ·have hr:runAt y id=-1:=by simp [runAt,h8]
  rw [hr];clear hr
  go_enter Tryz.func25,Tryz.ntmps25
  go_wp2
  go_ret
  exact ⟨rfl,((Below.refl _ _).alloc (by simp) _).alloc (by simp) _⟩
 ·have hr:runAt y id=jgv y.runs id:=by simp [runAt,h8]
  rw [hr];clear hr
  go_enter Tryz.func25,Tryz.ntmps25
  go_wp2_with (go_at_call 87;refine (jpy y.runs id _ _ _ _ own (ah1.below (((Below.refl _ _).alloc (by simp) _).alloc (by simp) _) (Nat.le_refl _)) (by simp [go_sem])).mono ?_;rintro e w2 ⟨rfl,hb2⟩)
  go_ret
  exact ⟨rfl,kr (((Below.refl _ _).alloc (by simp) _).alloc (by simp) _) hb2⟩
open Go.RowKit Go.ChangeShapes Go.WideShapes Go.Deep Go.ChangeAt
def inR (n:Int):Prop:=-9223372036854775808≤n∧n≤9223372036854775807
def ReadsAs (P:Program) (t:TypeId) {α:Type} (E:α→List D) (W:α→Prop):Prop:=
 ∀(H:Type) (enc:TypeId×Value→H) (w:World) (base:Nat) (spare:Nat→Bool) (held:Bool) (n:Nat) (cs:List Value) (y:DataW H×List MemPlace),
  DataW.trod enc P w base spare held n t cs=some y→∃x,W x∧∃S,RepL w false (E x) cs S
section
variable {P:Program} {t e:TypeId} {α β:Type} {E:α→List D} {E':β→List D} {W:α→Prop} {W':β→Prop}
theorem ReadsAs.map (h:ReadsAs P t E W) (g:α→β) (hE:∀a,E' (g a)=E a) (hW:∀a,W a→W' (g a)):ReadsAs P t E' W':=by
 intro H enc w base spare held n cs y hy;obtain ⟨x,hx,S,hr⟩:=h H enc w base spare held n cs y hy;exact ⟨g x,hW x hx,S,by rw [hE];exact hr⟩
theorem jva {w:World} {a:Addr} {v:Value} (h:w.cell? a=some v):a=⟨a.block,a.off,none⟩:=by
 obtain ⟨b,o,s⟩:=a;cases s with
 |none=>rfl
 |some s=>simp only [World.cell?] at h;split at h<;>simp at h
theorem jwf {size:Nat} {ty:TypeId} (ht:P.underlying t=some (.slice e)) (h:ReadsAs P e E W) (hc:P.cellsOf e=size) (hl:∀x,(E x).length=size) (_hs:0<size):
 ReadsAs P t (fun xs:List α=>[.sl size ty (xs.flatMap E)]) (fun xs=>∀x∈xs,W x):=by
 intro H enc w base spare held n cs y hy;rcases open_slice ht hy with ⟨rfl,_⟩|⟨a,len,cap,m,n',D',Pl,rfl,hb,hlc,hcm,hm,_,hi⟩
 ·have hrep:Rep w false (.sl size ty (List.flatMap E [])) (.slice none 0 0) []:=⟨[],[],[],⟨by simp,none,0,0,rfl,by simp,Nat.le_refl _,Nat.zero_le _,fun _=>rfl,by simp⟩,RepL.nil_,rfl⟩
  exact ⟨[],by simp,[],RepL.cons_ hrep RepL.nil_⟩
 ·have hlm:len≤m:=by rw [hm];split<;>omega
  have key:∀k,k≤len→∃(xs:List α) (vs:List Value) (S:List Nat),xs.length=k∧(∀x∈xs,W x)∧RepL w false (xs.flatMap E) vs S∧∀j u,vs[j]?=some u→w.cell? (a.add j)=some u:=by
   intro k
   induction k with
   |zero=>exact fun _=>⟨[],[],[],rfl,by simp,RepL.nil_,by simp⟩
   |succ k ih=>
    intro hk;obtain ⟨xs,vs,S,hxl,hW,hr,hcell⟩:=ih (by omega)
    obtain ⟨cs',hcs,htr⟩:=hi k (by omega)
    obtain ⟨x,hx,S',hr'⟩:=h H enc w base spare held n' cs' _ htr;obtain ⟨_,hcl,hat⟩:=World.cells?_some hcs;rw [hc] at hat hcl;have hvl:vs.length=k*size:=by rw [RepL.length _ hr,jH hl,hxl]
    refine ⟨xs++[x],vs++cs',S++S',by simp [hxl],?_,?_,?_⟩
    ·intro z hz
     rcases List.mem_append.1 hz with hz|hz
     ·exact hW z hz
     ·simp at hz;subst hz;exact hx
    ·rw [List.flatMap_append]
     exact RepL.append_ _ hr (by simpa using hr')
    ·intro j u hu
     by_cases hj:j<vs.length
     ·rw [List.getElem?_append_left hj] at hu
      exact hcell j u hu
     ·rw [List.getElem?_append_right (by omega)] at hu
      have hjl:j-vs.length<cs'.length:=(List.getElem?_eq_some_iff.1 hu).1;have h2:=hat (j-vs.length) (by omega)
      rw [hu,add_add,show k*size+(j-vs.length)=j by omega] at h2
      exact h2
  obtain ⟨xs,vs,S,hxl,hW,hr,hcell⟩:=key len (Nat.le_refl _);have hvl:vs.length=len*size:=by rw [RepL.length _ hr,jH hl,hxl]
  refine ⟨xs,hW,?_⟩;by_cases hne:vs=[]
  ·subst hne
   refine ⟨S,?_⟩;have hrep:Rep w false (.sl size ty (xs.flatMap E)) (.slice (some a) len cap) S:=⟨[],[],S,⟨by simp,some a,len,cap,rfl,hvl,hlc,hcm,(fun e=>nomatch e),by simp⟩,hr,rfl⟩
   have:=RepL.cons_ hrep (RepL.nil_ (w:=w) (own:=false));simpa using this
  ·obtain ⟨u,us,rfl⟩:=List.exists_cons_of_ne_nil hne
   have h0:=hcell 0 u rfl;have ha:a.add 0=a:=by simp [Addr.add]
   rw [ha] at h0;have hsp:=jva h0;have hlt:=World.block_lt_of_cell? w _ h0;refine ⟨[a.block]++S,?_⟩
   have hrep:Rep w false (.sl size ty (xs.flatMap E)) (.slice (some a) len cap) ([a.block]++S):=by
    refine ⟨u::us,[a.block],S,⟨by simpa using hlt,some a,len,cap,rfl,hvl,hlc,hcm,(fun e=>nomatch e),fun _=>⟨a.block,a.off,by rw [←hsp],rfl,fun j v hv=>?_⟩⟩,hr,rfl⟩
    have:=hcell j v hv;rw [hsp] at this
    rwa [Addr.add_mid] at this
   have:=RepL.cons_ hrep (RepL.nil_ (w:=w) (own:=false));simpa using this
end
open Go.ChangeShapes Go.WideShapes Go.ChangeAt Go.RowKit
theorem own:ownKnob Tryz.prog.godebug=none:=by kernel_rfl
theorem laid:laidOutB Tryz.prog=true:=by kernel_rfl
section
variable {H:Type} {enc:TypeId×Value→H} {P:Program}
theorem jkX {f:Func} {s:ChangeSpec} {apart jU handsOn again:Bool} {W W':World} {args:Array Value} {v:Value} {ds gs:List (DataW H)} {before pa pv:List MemPlace}
 (hW:DataW.Whole enc P f.params.toList s.vars apart W args.toList ds gs before)
 (hres:∀(b:Nat) (sp:Nat→Bool) (hd:Bool),DataW.TrodAll enc P W' b sp hd f.resultTypes.toList (v.resultList f.resultTypes.size) (s.fn H (ds++gs)).results [])
 (hargs:∀sp:Nat→Bool,(∀p∈before,sp p.block=true)→DataW.TrodAll enc P W' 0 sp true f.params.toList args.toList (s.fn H (ds++gs)).args pa)
 (hvars:∀sp:Nat→Bool,(∀p∈before,sp p.block=true)→DataW.TrodVars enc P W' sp s.vars (s.fn H (ds++gs)).vars pv)
 (hps:before=pa++pv) (hb:Below W.heap.size W W')
 (hok:∀(j:Nat) (t:TypeId) (r:Value),f.resultTypes[j]?=some t→(v.resultList f.resultTypes.size)[j]?=some r→Value.okWide P W' .any 0 t r):
 s.post enc P f apart jU handsOn again W args v W':=by
 have hlt:∀p∈before,p.block<W.heap.size:=fun p hp=>hW.lt p hp
 have hold:∀p∈before,(fun b=>decide (b<W.heap.size)) p.block=true:=fun p hp=>by simpa using hlt p hp
 refine ⟨ds,gs,before,[],pa,pv,hW,hres _ _ _,hargs _ hold,hvars _ hold,World.keptBut_mono (fun p hp=>⟨hp,?_⟩) (hb.frame (· ∈before)),fun _=>?_⟩
 ·rw [hps,List.mem_append] at hp
  exact Or.inr hp
 ·obtain ⟨_,_,_,_,_,hz,hn⟩:=hW
  refine ⟨hok,_,_,([]++pa)++pv,⟨[]++pa,pv,trodAll_append (hargs _ (fun _ _=>rfl)) (hres _ _ _),hvars _ (fun _ _=>rfl),rfl,?_,?_⟩,?_⟩
  ·intro b off hp
   have hin:MemPlace.cell b off∈before:=by rw [hps];simpa using hp
   rw [hb.frozen (hlt _ hin)];exact hz b off hin
  ·intro ha
   have:=hn ha;rw [hps] at this;simpa using this
  ·intro p hp _
   rw [hps];simpa using hp
theorem joH {t:TypeId} (hl:laidOutB P=true) (hr:P.readableRec t=true) (hrow:t<P.types.size) {W W':World} {v:Value} {d:DataW H} {ps:List MemPlace} {sp:Nat→Bool}
 (h:DataW.Trod enc P W 0 (fun _=>true) true t v d ps) (hb:Below W.heap.size W W') (hlt:∀x∈ps,x.block<W.heap.size) (hsp:∀x∈ps,sp x.block=true):
 DataW.Trod enc P W' 0 sp true t v d ps:=
 WideElems.Trod_stays hl hr hrow h (fun x hx=>hb.same (hlt x hx)) (fun x hx=>hsp x hx)
end
theorem jt7 {H:Type} {enc:TypeId×Value→H} {P:Program} {t e:TypeId} {α:Type} {E:α→D} {X:α→Prop} (hra:ReadsAs P t (fun x=>[E x]) X) (ht:P.underlying t=some (.slice e))
 {W:World} {v:Value} {d:DataW H} {p:List MemPlace} {base:Nat} {spare:Nat→Bool} {held:Bool} {r:_root_.Go.Reach} {b0:Nat} (hv:Value.okWide P W r b0 t v) (h:DataW.Trod enc P W base spare held t v d p):
 ∃x,X x∧∃S,Rep W false (E x) v S:=by
 obtain ⟨a,len,cap,rfl⟩:=okWide_slice ht hv;obtain ⟨fuel,hf⟩:=h;obtain ⟨x,hx,S,hr⟩:=hra _ _ _ _ _ _ _ _ _ hf;obtain ⟨u,us,S1,S2,h1,rfl,h2,rfl,rfl⟩:=hr;have h1':[Value.slice a len cap]=[u]:=h1;cases h1';exact ⟨x,hx,S1,h2⟩
theorem jnQ {P:Program} {f:FuncId} {vs:List View} {args:List Value} {w:World} (h:kj P f vs (.c (.val (.bool true)))) (hv:zC w vs args):
 Calls P f args.toArray w fun e w'=>e=.returned (.bool true)∧Below w.heap.size w w':=
 (h.2 w args hv).mono fun e w' ⟨v,S,he,hr,_,hb⟩=>⟨by rw [he,show v=_ from hr.1],hb⟩
end Go.Proofs.YtcehjhiglmifjaaGreat
