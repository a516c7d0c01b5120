/- Parts. -/
import Derived.Test.YtmnpailnelmpiaaQRunOk
set_option linter.unusedSimpArgs false
set_option linter.unusedVariables false
set_option maxHeartbeats 8000000
set_option maxRecDepth 100000
namespace Go.Proofs.Ytmnpailnelmpiaa
open Go.RowKit Go.Sort
theorem jra {α:Type} {A B C v:List α} {o j:Nat} (ho:o=A.length+j) (hj:j+v.length≤B.length):kC (A++(B++C)) o v=A++(kC B j v++C):=by
 subst ho;rw [jbZ _ _ _ (by simp only [List.length_append];omega),jbZ _ _ _ hj]
 have h1:(A++(B++C)).take (A.length+j)=A++B.take j:=by
  rw [List.take_append,List.take_of_length_le (by omega),Nat.add_sub_cancel_left,List.take_append_of_le_length (by omega)]
 have h2:(A++(B++C)).drop (A.length+j+v.length)=B.drop (j+v.length)++C:=by
  rw [List.drop_append,List.drop_eq_nil_of_le (by omega),List.nil_append,show A.length+j+v.length-A.length=j+v.length by omega,List.drop_append_of_le_length (by omega)]
 rw [h1,h2];simp only [List.append_assoc]
section
variable {α:Type} {enc:α→List D} {size ty:Nat} {l:List α} {k:Nat} {x:α}
theorem zN (hx:l[k]?=some x):l.flatMap enc=(l.take k).flatMap enc++(enc x++(l.drop (k+1)).flatMap enc):=by
 obtain ⟨hk,he⟩:=List.getElem?_eq_some_iff.1 hx;have e:l=l.take k++x::l.drop (k+1):=by rw [←he,←List.drop_eq_getElem_cons hk,List.take_append_drop]
 have h2:=congrArg (List.flatMap enc) e;rw [h2,List.flatMap_append,List.flatMap_cons]
theorem jgH (hs:∀x,(enc x).length=size) (hx:l[k]?=some x):((l.take k).flatMap enc).length=k*size:=by
 have hk:=(List.getElem?_eq_some_iff.1 hx).1;rw [jG hs,List.length_take,Nat.min_eq_left (by omega)]
theorem jhj (hs:∀x,(enc x).length=size) (hx:l[k]?=some x) {y:α} {j:Nat} {v:List D} (hy:kC (enc x) j v=enc y) (hj:j+v.length≤size):D.put [] (k*size+j) v (.sl size ty (l.flatMap enc))=.sl size ty ((l.set k y).flatMap enc):=by
 have hk:=(List.getElem?_eq_some_iff.1 hx).1;have h2:(l.set k y)[k]?=some y:=List.getElem?_set_self hk;have e1:(l.set k y).take k=l.take k:=List.take_set_of_le (Nat.le_refl k);have e2:(l.set k y).drop (k+1)=l.drop (k+1):=List.drop_set_of_lt (Nat.lt_succ_self k);simp only [D.put];rw [zN hx,jra (by rw [jgH hs hx]) (by rw [hs];exact hj),hy,zN h2,e1,e2]
theorem qs (hs:∀x,(enc x).length=size) (hx:l[k]?=some x) {j n:Nat} (hj:j+n≤size):((l.flatMap enc).drop (k*size+j)).take n=((enc x).drop j).take n:=by
 rw [zN hx,←List.drop_drop,List.drop_left' (jgH hs hx),List.drop_append_of_le_length (by rw [hs];omega),List.take_append_of_le_length (by rw [List.length_drop,hs];omega)]
theorem qr (hs:∀x,(enc x).length=size) (hx:l[k]?=some x) {j n:Nat} (hj:j+n≤size):k*size+j+n≤(l.flatMap enc).length:=by
 have hk:=(List.getElem?_eq_some_iff.1 hx).1;rw [jG hs];have:(k+1)*size≤l.length*size:=Nat.mul_le_mul_right _ hk;rw [Nat.succ_mul] at this;omega
end
section
variable {l:List Tk} {k:Nat} {x:Tk}
theorem jmJ (hx:l[k]?=some x) (v:Int):D.put [] (k*4) [.val (.int .i64 v)] (jI l)=jI (l.set k ⟨v,x.need,x.tri,x.til⟩):=jhj (enc:=ju) (size:=4) (fun _=>rfl) hx (j:=0) rfl (by simp)
theorem jjN (hx:l[k]?=some x) (v:Int):D.put [] (k*4+0) [.val (.int .i64 v)] (jI l)=jI (l.set k ⟨v,x.need,x.tri,x.til⟩):=jhj (enc:=ju) (size:=4) (fun _=>rfl) hx (j:=0) rfl (by simp)
theorem jrB (hx:l[k]?=some x) (v:Int):D.put [] (k*4+3) [.val (.int .i64 v)] (jI l)=jI (l.set k ⟨x.state,x.need,x.tri,v⟩):=jhj (enc:=ju) (size:=4) (fun _=>rfl) hx (j:=3) rfl (by simp)
theorem jql (hx:l[k]?=some x):((l.flatMap ju).drop (k*4)).take 4=ju x:=qs (enc:=ju) (size:=4) (fun _=>rfl) hx (j:=0) (n:=4) (by decide)
theorem jeD (hx:l[k]?=some x):((l.flatMap ju).drop (k*4)).take 1=[.val (.int .i64 x.state)]:=qs (enc:=ju) (size:=4) (fun _=>rfl) hx (j:=0) (n:=1) (by decide)
theorem jds (hx:l[k]?=some x):((l.flatMap ju).drop (k*4+0)).take 1=[.val (.int .i64 x.state)]:=qs (enc:=ju) (size:=4) (fun _=>rfl) hx (j:=0) (n:=1) (by decide)
theorem jto (hx:l[k]?=some x):((l.flatMap ju).drop (k*4+2)).take 1=[.val (.int .i64 x.tri)]:=qs (enc:=ju) (size:=4) (fun _=>rfl) hx (j:=2) (n:=1) (by decide)
theorem jgf (hx:l[k]?=some x):k*4+4≤(l.flatMap ju).length:=qr (enc:=ju) (size:=4) (fun _=>rfl) hx (j:=0) (n:=4) (by decide)
theorem zW (hx:l[k]?=some x):k*4+1≤(l.flatMap ju).length:=qr (enc:=ju) (size:=4) (fun _=>rfl) hx (j:=0) (n:=1) (by decide)
theorem zh (hx:l[k]?=some x):k*4+0+1≤(l.flatMap ju).length:=qr (enc:=ju) (size:=4) (fun _=>rfl) hx (j:=0) (n:=1) (by decide)
theorem jsr (hx:l[k]?=some x):k*4+2+1≤(l.flatMap ju).length:=qr (enc:=ju) (size:=4) (fun _=>rfl) hx (j:=2) (n:=1) (by decide)
theorem jvW (hx:l[k]?=some x):k*4+3+1≤(l.flatMap ju).length:=qr (enc:=ju) (size:=4) (fun _=>rfl) hx (j:=3) (n:=1) (by decide)
end
section
variable {l:List En} {k:Nat} {x:En}
theorem at_en (hx:l[k]?=some x):((l.flatMap jy).drop (k*4)).take 4=jy x:=qs (enc:=jy) (size:=4) (fun _=>rfl) hx (j:=0) (n:=4) (by decide)
theorem jmm (hx:l[k]?=some x):((l.flatMap jy).drop (k*4+1)).take 1=[.val (.int .i64 x.seq)]:=qs (enc:=jy) (size:=4) (fun _=>rfl) hx (j:=1) (n:=1) (by decide)
theorem in_en (hx:l[k]?=some x):k*4+4≤(l.flatMap jy).length:=qr (enc:=jy) (size:=4) (fun _=>rfl) hx (j:=0) (n:=4) (by decide)
theorem jlG (hx:l[k]?=some x):k*4+1+1≤(l.flatMap jy).length:=qr (enc:=jy) (size:=4) (fun _=>rfl) hx (j:=1) (n:=1) (by decide)
end
abbrev jbT (b ty:Nat) (r:Rn) (e1 e2:jm):Ob:=.box b ty [.a (.v (.int .i64 r.id)),.a (.v (.int .i64 r.plan.prio)),.a (.v (.int .i64 r.plan.most)),.a (.v (.int .i64 r.plan.wait)),.a (.v (.int .i64 r.plan.tasks)),.own (jt r.plan.edges) e1,.a (.v (.int .i64 r.state)),.own (jI r.tasks) e2]
abbrev ZRn (b ty:Nat):Ob:=.box b ty [.a (.v (.int .i64 0)),.a (.v (.int .i64 0)),.a (.v (.int .i64 0)),.a (.v (.int .i64 0)),.a (.v (.int .i64 0)),.a (.v (.slice none 0 0)),.a (.v (.int .i64 0)),.a (.v (.slice none 0 0))]
theorem jlO (l:List Tk):D.sl 4 tTk (l.flatMap ju)=jI l:=rfl
def jcG:C:=iS [iA 1 (.box 78 8 (.t 0)),iA 2 (.alloc 78 [.int .i64 0,.int .i64 0,.int .i64 0,.int .i64 0,.int .i64 0,.slice none 0 0,.int .i64 0,.slice none 0 0])] (iS [iA 3 (iF 1 1),iA 4 (iT 5 3),iA 5 (.call 174 [.t 4]),iA 6 (iF 1 1),iC (.st 5 [none,none,none,none,some (2,103)] (.t 6) (.t 5))] (iS [iA 7 (.bsl 84 4 0 [] []),iA 8 (iF 7 1),iA 9 (iL 8),iA 10 (.app 84 4 32 (.t 7) (.t 9)),iA 11 (iF 7 1),iC (.st 1 [some (4,84)] (.t 11) (.t 10))] (iS [iA 12 (iT 8 1),iC (.st 8 [none,none,none,none,none,some (2,103),none,some (4,84)] (.t 2) (.t 12))] .ret)))
theorem jfe:fnC Try.prog Try.f157=some (jcG,[.cell 2 true 8],13):=by kernel_rfl
theorem qw (r:Rn) (hb:r.plan.edges.length≤4000000) (ht:r.tasks.length≤4000000):kl Try.prog 157 [.agg (jd r)] (.agg (jd r)):=by
 refine jr Try.func157 jfe (by simp) ?_
 unfold jcG;have h1:r.tasks.length≤maxLen:=by unfold maxLen;omega
 have h2:r.tasks.length*32≤140737488355328:=by omega
 simp only [go_sem,jd,ja];intro b b2;refine jb (jcq r.plan hb) (by simp only [go_sem,jd,ja]) fun η=>?_
 simp only [go_sem,jd,ja];simp only [go_sem,jd,ja,h1,h2,jlO]
def jcF:C:=iS [iA 2 (.box 78 8 (.t 0)),iA 4 (iO false)] (iS [iA 5 (iT 8 2),iA 6 (.call 81 [.t 5]),iA 7 (iM 6),iB 8 7 true (iM 1),iB 9 7 true (iF 7 2),iB 10 7 true (iL 9),iB 11 7 true (iG 10),iB 12 7 true (iQ .sub 3 11 1),iB 13 7 true (.call 66 [.t 8,.c (.int .i64 0),.t 12]),iA 14 (.pick (.t 7) (.t 13) (.c (.bool false))),iA 15 (iM 14),iB 16 15 true (iF 7 2),iB 17 15 true (iL 16),iB 18 15 true (iM 1),iB 19 15 true (iI 4 17 18),iB 20 15 true (iF 0 19),iB 21 15 true (iL 20),iB 22 15 true (iQ .eql 3 21 3),iA 23 (.pick (.t 15) (.t 22) (.c (.bool false))),iA 4 (iM 23)] .ret)
theorem jfd:fnC Try.prog Try.f178=some (jcF,[.t 4],24):=by kernel_rfl
def jcT:C:=iS [iA 2 (.box 78 8 (.t 0)),iA 4 (.alloc 78 [.int .i64 0,.int .i64 0,.int .i64 0,.int .i64 0,.int .i64 0,.slice none 0 0,.int .i64 0,.slice none 0 0])] (iS [iA 9 (iT 8 2),iA 10 (.call 157 [.t 9]),iA 5 (.alloc 78 [.int .i64 0,.int .i64 0,.int .i64 0,.int .i64 0,.int .i64 0,.slice none 0 0,.int .i64 0,.slice none 0 0]),iC (.st 8 [none,none,none,none,none,some (2,103),none,some (4,84)] (.t 5) (.t 10))] (.seq (iS [iA 11 (iT 8 2),iA 12 (iM 1),iA 13 (.call 178 [.t 11,.t 12]),iA 14 (iU 13)] (iD 14 (iS [iA 15 (iT 8 5),iC (.st 8 [none,none,none,none,none,some (2,103),none,some (4,84)] (.t 4) (.t 15))] .ret) .skip)) (iS [iA 16 (iF 7 5),iA 17 (iL 16),iA 18 (iM 1),iA 19 (iI 4 17 18),iA 20 (iF 0 19),iC (.st 1 [none] (.t 20) (.c (.int .i64 4)))] (iS [iA 21 (iF 7 5),iA 22 (iL 21),iA 23 (iM 1),iA 24 (iI 4 22 23),iA 25 (iF 3 24),iC (.st 1 [none] (.t 25) (.c (.int .i64 0)))] (iS [iA 26 (iF 1 2),iA 27 (iT 5 26),iA 28 (iM 1),iA 29 (.call 179 [.t 27,.t 28]),iA 6 (iM 29)] (.seq (iS [iA 7 (iN 0)] (.blk 0 (.loop (.seq (iS [iA 30 (iM 7),iA 31 (iM 6),iA 32 (iG 31),iA 33 (iP .lss 3 30 32)] (iD 33 .skip (.exit 0))) (.seq (.blk 1 (.seq (.dreg (T.pure 0 (iA 36 (iF 7 5)) (T.pure 1 (iA 37 (iL 36)) (T.pure 2 (iA 38 (iM 6)) (T.pure 3 (iA 39 (iM 7)) (T.pure 4 (iA 40 (iI 1 38 39)) (T.pure 5 (iA 41 (iL 40)) (T.pure 6 (iA 42 (iI 4 37 41)) (T.pure 7 (iA 43 (iT 4 42)) (T.alt (iA 8 (.alloc 84 [.int .i64 0,.int .i64 0,.int .i64 0,.int .i64 0])) [7,6,5,4,3,2,1,0] (T.alt (iC (.st 4 [none,none,none,none] (.t 8) (.t 43))) [] T.done T.stop) T.stop)))))))))) (iS [iA 44 (iF 1 8),iA 45 (iL 44),iA 46 (iQ .sub 3 45 1),iA 47 (iF 1 8),iC (.st 1 [none] (.t 47) (.t 46))] (.seq (iS [iA 48 (iF 1 8),iA 49 (iL 48),iA 50 (iQ .eql 3 49 0)] (iD 50 (.reg [iA 51 (iF 0 8),iC (.st 1 [none] (.t 51) (.c (.int .i64 2)))]) .skip)) (.dreg (T.pure 0 (iA 52 (iF 7 5)) (T.pure 1 (iA 53 (iL 52)) (T.pure 2 (iA 54 (iM 6)) (T.pure 3 (iA 55 (iM 7)) (T.pure 4 (iA 56 (iI 1 54 55)) (T.pure 5 (iA 57 (iL 56)) (T.pure 6 (iA 58 (iT 4 8)) (T.pure 7 (iA 59 (iI 4 53 57)) (T.alt (iC (.st 4 [none,none,none,none] (.t 59) (.t 58))) [] T.done T.stop)))))))))))))) (.reg [iA 34 (iM 7),iA 35 (iQ .add 3 34 1),iA 7 (iM 35)])))))) (iS [iA 60 (iT 8 5),iA 61 (.call 113 [.t 60]),iA 62 (iF 6 5),iC (.st 1 [none] (.t 62) (.t 61))] (iS [iA 63 (iT 8 5),iC (.st 8 [none,none,none,none,none,some (2,103),none,some (4,84)] (.t 4) (.t 63))] .ret))))))))
theorem jfr:fnC Try.prog Try.f169=some (jcT,[.cell 4 true 8],64):=by kernel_rfl
theorem jcp (r:Rn) (t:Int):kl Try.prog 178 [.agg (jd r),.c (.val (.int .i64 t))] (.c (.val (.bool (vS r t)))):=by
 refine jr Try.func178 jfd (by simp) ?_
 unfold jcF;simp only [go_sem,jd,ja];intro b;refine jb (jbn r) (by simp only [go_sem,jd,ja]) fun η=>?_
 simp only [go_sem,jd,ja];cases h:qu r
 ·have hb:vS r t=false:=by simp [vS,h]
  simp only [go_sem,jd,ja,h,hb]
 have hP:=runOk_iff.1 h;obtain ⟨n,hn,hn1,h12,-⟩:=jgL hP.plan;have hlen:=hP.len;have hw:IntKind.i64.wrap ((r.tasks.length:Int)-1)=(r.tasks.length:Int)-1:=jg (by omega) (by omega)
 simp only [go_sem,jd,ja,h,hw];refine jb (jw t 0 (r.tasks.length-1)) (by simp only [go_sem,jd,ja]) fun η=>?_
 simp only [go_sem,jd,ja];cases h1:decide (0≤t∧t≤(r.tasks.length:Int)-1)
 ·have hb:vS r t=false:=by simp [vS,inB,h1]
  simp only [go_sem,jd,ja,h1,hb]
 have h1':0≤t∧t≤(r.tasks.length:Int)-1:=by simpa using h1
 have h0t:0≤t:=h1'.1;have htl:t.toNat<r.tasks.length:=by omega
 obtain ⟨x,hx⟩:=je htl;have hb:vS r t=(x.state==3):=by simp [vS,inB,h1',jjC hx,h]
 simp only [go_sem,jd,ja,h1,h0t,htl,kb hx,ju,hb]
theorem jtX {ts:List Tk} {v:Int} {y:Tk} (hy:ts[v.toNat]?=some y):jak ts v=ts.set v.toNat ⟨if IntKind.i64.wrap (y.need-1)=0 then 2 else y.state,IntKind.i64.wrap (y.need-1),y.tri,y.til⟩:=by simp [jak,hy]
theorem jp1 {l:List Int} {k:Nat} {v:Int} (hv:l[k]?=some v) (ts:List Tk):(l.take (k+1)).foldl jak ts=jak ((l.take k).foldl jak ts) v:=by
 rw [List.take_add_one,hv];simp
theorem jiq (r:Rn) (t:Int) (hsz:r.plan.edges.length≤4000000) (ht:r.tasks.length≤4000000):kl Try.prog 169 [.agg (jd r),.c (.val (.int .i64 t))] (.agg (jd (qV r t))):=by
 refine jr Try.func169 jfr (by simp) ?_
 unfold jcT;simp only [go_sem,jd,ja];intro b b4;refine jb (qw r hsz ht) (by simp only [go_sem,jd,ja]) fun ηc=>?_
 simp only [go_sem,jd,ja];intro b5;refine jb (jcp r t) (by simp only [go_sem,jd,ja]) fun η=>?_
 simp only [go_sem,jd,ja];cases h:vS r t
 ·simp only [go_sem,jd,ja,h,jpi h]
 obtain ⟨k,x,rfl,hx,hs,hP⟩:=jb0 h;obtain ⟨n,hn,hn1,h12,h30,hes,hnd,-⟩:=jgL hP.plan;have hlen:=hP.len;have hkl:=(List.getElem?_eq_some_iff.1 hx).1;have h0t:(k:Int)≥0:=by omega
 have hx2:(r.tasks.set k ⟨4,x.need,x.tri,x.til⟩)[k]?=some ⟨4,x.need,x.tri,x.til⟩:=List.getElem?_set_self hkl;have hkl2:k<(r.tasks.set k ⟨4,x.need,x.tri,x.til⟩).length:=by rw [List.length_set];exact hkl
 have hn1':Int.toNat (k:Int)=k:=Int.toNat_natCast k;simp only [go_sem,jd,ja,h,hkl,h0t,jmJ hx,jjN hx,zW hx,zh hx,hkl2,jvW hx2,jrB hx2,List.set_set];refine jb (jga r.plan k n hn h12 h30) (by simp only [go_sem,jd,ja]) fun ηb=>?_
 simp only [go_sem,jd,ja];have hbl:=jvo hn h12 h30 k;generalize hts:r.tasks.set k ⟨4,x.need,x.tri,0⟩=ts0 at*;have htl:ts0.length=r.tasks.length:=by rw [←hts,List.length_set]
 have hdn:vG r.plan r.tasks k x=(jeG r.plan k).foldl jak ts0:=by rw [←hts];rfl
 have hst0:∀z∈ts0,1≤z.state∧z.state≤6:=by rw [←hts];exact jfM (q:=fun s=>1≤s∧s≤6) (by simp) hP.st
 refine jq (fun i:Nat=>St.of [(4,Bx 400 b4),(5,Bx 500 b5),(6,Hd 6 (ηb 0)),(7,Ni i)] [(400,ZRn b4 tRn),(500,jbT b5 tRn ⟨r.id,r.plan,r.state,((jeG r.plan k).take i).foldl jak ts0⟩ (ηc 5) (ηc 7)),(6,.loose (jo (jeG r.plan k)) (ηb 0))]) (fun i=>i≤(jeG r.plan k).length) (fun i=>(jeG r.plan k).length-i) 0 (by (try dsimp only);first|omega|(simp;done)|(and_intros<;>first|omega|simp)) (jl [some 400,some 500,some 2900] (by simp only [go_sem,jd,ja,List.take_zero,List.foldl_nil]<;>and_intros<;>first|rfl|assumption|trivial)) ?_
 rintro j hj;by_cases hlt:j<(jeG r.plan k).length
 ·have hlt':(j:Int)<(jeG r.plan k).length:=by omega
  obtain ⟨v,hv⟩:=je hlt;have hvb:=jte hn (List.mem_of_getElem? hv);have hfl:=jhG ((jeG r.plan k).take j) ts0;have hft:=jp1 hv ts0;generalize ((jeG r.plan k).take j).foldl jak ts0=ts at*;have hvl:v.toNat<ts.length:=by omega
  have hv0:=hvb.1;obtain ⟨y,hy⟩:=je hvl;have hw:IntKind.i64.wrap ((j:Int)+1)=((j+1:Nat):Int):=jg (by omega) (by omega)
  rw [jtX hy] at hft;simp only [go_sem,jd,ja,hlt,hlt',ji hv,jj hlt,hvl,hv0,jql hy,jgf hy,ju];intro b8;generalize IntKind.i64.wrap (y.need-1)=nd at*;cases hz:nd==0
  ·have hz':¬nd=0:=by simpa using hz
   rw [if_neg hz'] at hft;simp only [go_sem,jd,ja,hlt,hlt',ji hv,jj hlt,hvl,hv0,jql hy,jgf hy,ju,hz,jap y.state nd y.tri y.til hvl,hw];exact ⟨j+1,by (try dsimp only);first|omega|assumption|(and_intros<;>first|omega|assumption),(jl [some 400,some 500,some 6] (by simp only [go_sem,jd,ja,hft]<;>and_intros<;>first|rfl|assumption|trivial)),by (try dsimp only);omega⟩
  ·have hz':nd=0:=by simpa using hz
   rw [if_pos hz'] at hft;simp only [go_sem,jd,ja,hlt,hlt',ji hv,jj hlt,hvl,hv0,jql hy,jgf hy,ju,hz,jap 2 nd y.tri y.til hvl,hw];exact ⟨j+1,by (try dsimp only);first|omega|assumption|(and_intros<;>first|omega|assumption),(jl [some 400,some 500,some 6] (by simp only [go_sem,jd,ja,hft]<;>and_intros<;>first|rfl|assumption|trivial)),by (try dsimp only);omega⟩
 have hlt':¬(j:Int)<(jeG r.plan k).length:=by omega
 rw [List.take_of_length_le (by omega)]
 have hds:=jjj hP hx hs;have hR:qV r k=jiA r k x:=jha hx h;have hlD:(vG r.plan r.tasks k x).length=r.tasks.length:=jby _ _ _ _;have hstD:∀z∈vG r.plan r.tasks k x,1≤z.state∧z.state≤6:=jkv (q:=fun s=>1≤s∧s≤6) (by decide) (by decide) hP.st
 rw [hR,←hdn];have hrr:jiA r k x=⟨r.id,r.plan,jkV (vG r.plan r.tasks k x),vG r.plan r.tasks k x⟩:=by rw [hds];rfl
 rw [hrr];generalize vG r.plan r.tasks k x=tD at*;simp only [go_sem,jd,ja,hlt'];refine jb (jbl ⟨r.id,r.plan,r.state,tD⟩ hstD (by simp only;omega)) (by simp only [go_sem,jd,ja]) fun η=>?_
 simp only [go_sem,jd,ja]
def zk:C:=iS [iA 2 (.box 78 8 (.t 0)),iA 4 (.alloc 78 [.int .i64 0,.int .i64 0,.int .i64 0,.int .i64 0,.int .i64 0,.slice none 0 0,.int .i64 0,.slice none 0 0])] (.seq (iS [iA 5 (iN 0)] (.blk 0 (.loop (.seq (iS [iA 7 (iM 5),iA 8 (iF 7 2),iA 9 (iL 8),iA 10 (iG 9),iA 11 (iP .lss 3 7 10)] (iD 11 .skip (.exit 0))) (.seq (.blk 1 (iS [iA 14 (iF 7 2),iA 15 (iL 14),iA 16 (iM 5),iA 17 (iI 4 15 16),iA 18 (iT 4 17),iA 6 (.alloc 84 [.int .i64 0,.int .i64 0,.int .i64 0,.int .i64 0]),iC (.st 4 [none,none,none,none] (.t 6) (.t 18))] (.seq (iS [iA 19 (iF 0 6),iA 20 (iL 19),iA 21 (iQ .neq 3 20 4),iA 22 (iM 21),iB 23 22 true (iF 0 6),iB 24 22 true (iL 23),iB 25 22 true (iQ .neq 3 24 5),iA 26 (.pick (.t 22) (.t 25) (.c (.bool false)))] (iD 26 (iS [iA 27 (iF 0 6),iC (.st 1 [none] (.t 27) (.c (.int .i64 6)))] (.reg [iA 28 (iF 3 6),iC (.st 1 [none] (.t 28) (.c (.int .i64 0)))])) .skip)) (.reg [iA 29 (iF 7 2),iA 30 (iL 29),iA 31 (iM 5),iA 32 (iT 4 6),iA 33 (iI 4 30 31),iC (.st 4 [none,none,none,none] (.t 33) (.t 32))])))) (.reg [iA 12 (iM 5),iA 13 (iQ .add 3 12 1),iA 5 (iM 13)])))))) (iS [iA 34 (iM 1),iA 35 (iF 6 2),iC (.st 1 [none] (.t 35) (.t 34))] (iS [iA 36 (iT 8 2),iC (.st 8 [none,none,none,none,none,some (2,103),none,some (4,84)] (.t 4) (.t 36))] .ret)))
theorem zA:fnC Try.prog Try.f180=some (zk,[.cell 4 true 8],37):=by kernel_rfl
def jbG:C:=iS [iA 2 (.box 78 8 (.t 0)),iA 4 (.alloc 78 [.int .i64 0,.int .i64 0,.int .i64 0,.int .i64 0,.int .i64 0,.slice none 0 0,.int .i64 0,.slice none 0 0])] (iS [iA 6 (iT 8 2),iA 7 (.call 157 [.t 6]),iA 5 (.alloc 78 [.int .i64 0,.int .i64 0,.int .i64 0,.int .i64 0,.int .i64 0,.slice none 0 0,.int .i64 0,.slice none 0 0]),iC (.st 8 [none,none,none,none,none,some (2,103),none,some (4,84)] (.t 5) (.t 7))] (.seq (iS [iA 8 (iT 8 2),iA 9 (iM 1),iA 10 (.call 178 [.t 8,.t 9]),iA 11 (iU 10)] (iD 11 (iS [iA 12 (iT 8 5),iC (.st 8 [none,none,none,none,none,some (2,103),none,some (4,84)] (.t 4) (.t 12))] .ret) .skip)) (iS [iA 13 (iF 7 5),iA 14 (iL 13),iA 15 (iM 1),iA 16 (iI 4 14 15),iA 17 (iF 3 16),iC (.st 1 [none] (.t 17) (.c (.int .i64 0)))] (iS [iA 18 (iF 7 5),iA 19 (iL 18),iA 20 (iM 1),iA 21 (iI 4 19 20),iA 22 (iF 0 21),iC (.st 1 [none] (.t 22) (.c (.int .i64 2)))] (.seq (.seq (.dreg (T.pure 0 (iA 23 (iF 7 5)) (T.pure 1 (iA 24 (iL 23)) (T.pure 2 (iA 25 (iM 1)) (T.pure 3 (iA 26 (iI 4 24 25)) (T.pure 4 (iA 27 (iF 2 26)) (T.pure 5 (iA 28 (iL 27)) (T.pure 6 (iA 29 (iF 1 2)) (T.pure 7 (iA 30 (iF 1 29)) (T.pure 8 (iA 31 (iL 30)) (T.pure 9 (iA 32 (iP .lss 3 28 31)) T.done))))))))))) (iD 32 (iS [iA 33 (iT 8 5),iC (.st 8 [none,none,none,none,none,some (2,103),none,some (4,84)] (.t 4) (.t 33))] .ret) .skip)) (iS [iA 34 (iF 7 5),iA 35 (iL 34),iA 36 (iM 1),iA 37 (iI 4 35 36),iA 38 (iF 0 37),iC (.st 1 [none] (.t 38) (.c (.int .i64 5)))] (iS [iA 39 (iT 8 5),iA 40 (.call 180 [.t 39,.c (.int .i64 3)]),iC (.st 8 [none,none,none,none,none,some (2,103),none,some (4,84)] (.t 4) (.t 40))] .ret)))))))
theorem jd6:fnC Try.prog Try.f170=some (jbG,[.cell 4 true 8],41):=by kernel_rfl
theorem zd (r:Rn) (t:Int) (hsz:r.plan.edges.length≤4000000) (ht:r.tasks.length≤4000000):kl Try.prog 170 [.agg (jd r),.c (.val (.int .i64 t))] (.agg (jd (jK r t))):=by
 refine jr Try.func170 jd6 (by simp) ?_
 unfold jbG;simp only [go_sem,jd,ja];intro b b4;refine jb (qw r hsz ht) (by simp only [go_sem,jd,ja]) fun ηc=>?_
 simp only [go_sem,jd,ja];intro b5;refine jb (jcp r t) (by simp only [go_sem,jd,ja]) fun η=>?_
 simp only [go_sem,jd,ja];cases h:vS r t
 ·simp only [go_sem,jd,ja,h,jc8 h]
 obtain ⟨k,x,rfl,hx,hs,hP⟩:=jb0 h;obtain ⟨n,hn,hn1,h12,h30,hes,hnd,-⟩:=jgL hP.plan;have hlen:=hP.len;have hkl:=(List.getElem?_eq_some_iff.1 hx).1;have h0t:(k:Int)≥0:=by omega
 have hx2:(r.tasks.set k ⟨x.state,x.need,x.tri,0⟩)[k]?=some ⟨x.state,x.need,x.tri,0⟩:=List.getElem?_set_self hkl;have hx3:(r.tasks.set k ⟨2,x.need,x.tri,0⟩)[k]?=some ⟨2,x.need,x.tri,0⟩:=List.getElem?_set_self hkl;have hkl2:k<(r.tasks.set k ⟨x.state,x.need,x.tri,0⟩).length:=by rw [List.length_set];exact hkl
 have hkl3:k<(r.tasks.set k ⟨2,x.need,x.tri,0⟩).length:=by rw [List.length_set];exact hkl
 simp only [go_sem,jd,ja,Nat.add_zero,h,hkl,h0t,jrB hx,jvW hx,hkl2,zW hx2,zh hx2,jmJ hx2,jjN hx2,List.set_set,hkl3,jto hx3,jsr hx3,zW hx3,zh hx3];by_cases hm:x.tri<r.plan.most
 ·have hR:jK r k=⟨r.id,r.plan,r.state,r.tasks.set k ⟨2,x.need,x.tri,0⟩⟩:=by rw [qJ hx h,vM,if_pos hm]
  simp only [go_sem,jd,ja,Nat.add_zero,hm,hR]
 have hR:jK r k=⟨r.id,r.plan,3,vi jx (r.tasks.set k ⟨5,x.need,x.tri,0⟩) r.tasks.length⟩:=by rw [qJ hx h,vM,if_neg hm]
 rw [hR];simp only [go_sem,jd,ja,Nat.add_zero,hm,hkl3,h0t,jmJ hx3,jjN hx3,zW hx3,zh hx3,List.set_set];have htl:(r.tasks.set k ⟨5,x.need,x.tri,0⟩).length=r.tasks.length:=by rw [List.length_set]
 generalize r.tasks.set k ⟨5,x.need,x.tri,0⟩=ts0 at*;refine qU (qZ (β:=7000000) Try.func180 zA (by simp) ?_)
 unfold zk;simp only [go_sem,jd,ja];intro b72 b74;refine jq (fun i:Nat=>St.of [(1,Ni 3),(2,Bx 2 b72),(4,Bx 4 b74),(5,Ni i)] [(400,ZRn b4 tRn),(2,jbT b72 tRn ⟨r.id,r.plan,r.state,vi jx ts0 i⟩ (ηc 5) (ηc 7)),(4,ZRn b74 tRn)]) (fun i=>i≤ts0.length) (fun i=>ts0.length-i) 0 (by (try dsimp only);first|omega|(simp;done)|(and_intros<;>first|omega|simp)) (jl [some 400,some 700000200,some 700000400] (by simp only [go_sem,jd,ja,jvT]<;>and_intros<;>first|rfl|assumption|trivial)) ?_
 rintro j hj;have hml:=zt (f:=jx) (ts:=ts0) (k:=j);by_cases hlt:j<ts0.length
 ·have hlt':(j:Int)<ts0.length:=by omega
  have h0j:(j:Int)≥0:=by omega
  obtain ⟨y,hy⟩:=je hlt;have hyk:=job (f:=jx) hy;have hset:=joa (f:=jx) hy;generalize vi jx ts0 j=M at*;have hlm:j<M.length:=by omega
  have hw:IntKind.i64.wrap ((j:Int)+1)=((j+1:Nat):Int):=jg (by omega) (by omega)
  simp only [go_sem,jd,ja,hml,hlt',h0j,hlt,jql hyk,jgf hyk,ju];intro b6;cases hc4:y.state !=4
  ·have hst4:y.state=4:=by simpa using hc4
   have hg0:jx j y=y:=by simp [jx,hst4]
   have hg:jx j y=⟨y.state,y.need,y.tri,y.til⟩:=hg0;rw [hg] at hset;simp only [go_sem,jd,ja,Nat.add_zero,hml,hlt',h0j,hlt,hc4,jap y.state y.need y.tri y.til hlm,hset,jgf hyk,hw];exact ⟨j+1,by (try dsimp only);first|omega|assumption|(and_intros<;>first|omega|assumption),(jl [some 400,some 2,some 4] (by simp only [go_sem,jd,ja]<;>and_intros<;>first|rfl|assumption|trivial)),by (try dsimp only);omega⟩
  cases hc5:y.state !=5
  ·have hst5:y.state=5:=by simpa using hc5
   have hg0:jx j y=y:=by simp [jx,hst5]
   have hg:jx j y=⟨y.state,y.need,y.tri,y.til⟩:=hg0;rw [hg] at hset;simp only [go_sem,jd,ja,Nat.add_zero,hml,hlt',h0j,hlt,hc4,hc5,jap y.state y.need y.tri y.til hlm,hset,jgf hyk,hw];exact ⟨j+1,by (try dsimp only);first|omega|assumption|(and_intros<;>first|omega|assumption),(jl [some 400,some 2,some 4] (by simp only [go_sem,jd,ja]<;>and_intros<;>first|rfl|assumption|trivial)),by (try dsimp only);omega⟩
  ·have hg:jx j y=⟨6,y.need,y.tri,0⟩:=by
    have h1:¬y.state=4:=by simpa using hc4
    have h2:¬y.state=5:=by simpa using hc5
    simp [jx,h1,h2]
   rw [hg] at hset;simp only [go_sem,jd,ja,Nat.add_zero,hml,hlt',h0j,hlt,hc4,hc5,jap 6 y.need y.tri 0 hlm,hset,jgf hyk,hw];exact ⟨j+1,by (try dsimp only);first|omega|assumption|(and_intros<;>first|omega|assumption),(jl [some 400,some 2,some 4] (by simp only [go_sem,jd,ja]<;>and_intros<;>first|rfl|assumption|trivial)),by (try dsimp only);omega⟩
 have hlt':¬(j:Int)<ts0.length:=by omega
 obtain rfl:j=ts0.length:=by omega
 rw [←htl];generalize vi jx ts0 ts0.length=M at*;simp only [go_sem,jd,ja,Nat.add_zero,hml,hlt']
end Go.Proofs.Ytmnpailnelmpiaa
