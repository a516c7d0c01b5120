/- Parts. -/
import Derived.Test.YtmnpailnelmpiaaGreatQHole
import Derived.Test.YtmnpailnelmpiaaGreatQInsert
import Derived.Test.YtmnpailnelmpiaaGreatQRunD
import Derived.Test.YtmnpailnelmpiaaGreatQSwept
import Derived.Test.YtmnpailnelmpiaaGreatQYardB
set_option linter.unusedSimpArgs false
set_option linter.unusedVariables false
set_option maxHeartbeats 4000000
set_option maxRecDepth 100000
namespace Go.Proofs.YtmnpailnelmpiaaGreat
open Go.RowKit Go.Sort
def joX (l:List En) (e:En):Nat:=if jcX (fun x=>!kQ x e) l<0 then l.length else (jcX (fun x=>!kQ x e) l).toNat
def jgy (l:List En) (e:En):List En:=jlG l (joX l e) e
theorem jxA {l:List En} {e x:En} {k:Nat} (h:l[k]?=some x) (hx:kQ x e=false) (hn:∀y∈l.take k,(fun x=>!kQ x e) y=false):joX l e=k:=by
 have h1:=ja1 (f:=fun x=>!kQ x e) h (by simp [hx]) hn
 rw [joX,h1,if_neg (by omega)];exact Int.toNat_natCast k
theorem joW {l:List En} {e:En} (hn:∀y∈l,(fun x=>!kQ x e) y=false):joX l e=l.length:=by
 rw [joX,zZ hn];rfl
theorem jsv (l:List En) (e:En):joX l e≤l.length:=by
 rcases jal (fun x=>!kQ x e) l with ⟨_,h2⟩|⟨k,x,h1,h2,h3,h4⟩
 ·rw [joW h2];exact Nat.le_refl _
 ·rw [joX,h1,if_neg (by omega),Int.toNat_natCast];exact Nat.le_of_lt (List.getElem?_eq_some_iff.1 h2).1
theorem joV (l:List En) (e:En):(jgy l e).length=l.length+1:=by
 have:=jsv l e;simp [jgy,jlG];omega
theorem jjt (e:En):D.sl 4 tEn [.val (.int .i64 e.prio),.val (.int .i64 e.seq),.val (.int .i64 e.run),.val (.int .i64 e.task)]=ji [e]:=rfl
theorem jtr (l:List En) (e:En):l.flatMap jf++[.val (.int .i64 e.prio),.val (.int .i64 e.seq),.val (.int .i64 e.run),.val (.int .i64 e.task)]=(l++[e]).flatMap jf:=by simp [jf]
theorem jwD (l m:List En):l.flatMap jf++m.flatMap jf=(l++m).flatMap jf:=List.flatMap_append.symm
def jcp:C:=iS [iA 3 (.box 111 4 (.t 1)),iA 4 (.mov (.c (.slice none 0 0)))] (iS [iA 5 (iN 0)] (.seq (.blk 0 (.loop (.seq (.seq (.dreg (T.pure 0 (iA 7 (iM 5)) (T.pure 1 (iA 8 (iM 0)) (T.pure 2 (iA 9 (iG 8)) (T.pure 3 (iA 10 (iP .lss 3 7 9)) (T.pure 4 (iA 11 (iM 10)) (T.pure 5 (iB 12 11 true (iM 0)) (T.pure 6 (iB 13 11 true (iM 5)) (T.pure 7 (iB 14 11 true (iI 4 12 13)) (T.pure 8 (iB 15 11 true (iT 4 14)) (T.pure 9 (iB 16 11 true (iT 4 3)) (T.alt (iB 17 11 true (.call 283 [.t 15,.t 16])) [] (T.pure 11 (iA 18 (.pick (.t 11) (.t 17) (.c (.bool false)))) T.done) T.stop)))))))))))) (iD 18 .skip (.exit 0))) (.blk 1 (.reg [iA 19 (iM 5),iA 20 (iQ .add 3 19 1),iA 5 (iM 20)]))))) (iS [iA 21 (.bsl 111 4 0 [] []),iA 22 (iM 0),iA 23 (iM 5),iA 24 (.sl 4 (.t 22) none (some (.t 23))),iA 25 (.app 111 4 32 (.t 21) (.t 24)),iA 6 (iM 25)] (iS [iA 26 (iM 6),iA 27 (iT 4 3),iA 28 (.bsl 111 4 1 [none,none,none,none] [(0,4,.t 27)]),iA 29 (.app 111 4 32 (.t 26) (.t 28)),iA 6 (iM 29)] (iS [iA 30 (iM 6),iA 31 (iM 0),iA 32 (iM 5),iA 33 (.sl 4 (.t 31) (some (.t 32)) none),iA 34 (.app 111 4 32 (.t 30) (.t 33)),iA 4 (iM 34)] .ret)))))
theorem jeQ:fnC Tryz.prog Tryz.f260=some (jcp,[.t 4],35):=by kernel_rfl
def jcw:C:=iS [iA 3 (.box 111 4 (.t 1)),iA 4 (.mov (.c (.slice none 0 0)))] (iS [iA 6 (iM 0),iA 7 (.mkf 289 [.t 3]),iA 8 (.call 237 [.t 6,.t 7]),iA 5 (iM 8)] (.seq (iS [iA 9 (iM 5),iA 10 (iQ .lss 3 9 0)] (iD 10 (.reg [iA 11 (iM 0),iA 12 (iG 11),iA 5 (iM 12)]) .skip)) (.seq (.dreg (T.pure 0 (iA 13 (iM 0)) (T.pure 2 (iA 15 (iM 5)) (T.pure 3 (iA 16 (iT 4 3)) (T.alt (iA 14 (.call 208 [.t 13])) [3,2] (T.alt (iA 17 (.bsl 111 4 1 [none,none,none,none] [(0,4,.t 16)])) [2,0] (T.alt (iA 18 (.call 290 [.t 14,.t 15,.t 17])) [] (T.pure 6 (iA 4 (iM 18)) T.done) T.stop) T.stop) (T.alt (iA 17 (.bsl 111 4 1 [none,none,none,none] [(0,4,.t 16)])) [2,0] (T.alt (iA 14 (.call 208 [.t 13])) [3,2] (T.alt (iA 18 (.call 290 [.t 14,.t 15,.t 17])) [] (T.pure 6 (iA 4 (iM 18)) T.done) T.stop) T.stop) T.stop)))))) .ret)))
theorem jeV:fnC Tryz.prog Tryz.f274=some (jcw,[.t 4],19):=by kernel_rfl
def ja7:C:=iS [iA 2 (.box 111 4 (.t 0)),iA 3 (iO false)] (iS [iA 4 (iT 4 2),iA 5 (iT 4 1),iA 6 (.call 233 [.t 4,.t 5]),iA 7 (iU 6),iA 3 (iM 7)] .ret)
theorem jc5:fnC Tryz.prog Tryz.f289=some (ja7,[.t 3],8):=by kernel_rfl
theorem jah (l:List En) (e:En) (hl:l.length≤4000000):kf Tryz.prog 260 [.c (ji l),.agg (jf e)] (.c (ji (jgy l e))):=by
 refine jr Tryz.func260 jeQ (by simp) ?_
 unfold jcp;simp only [go_sem,jf];intro b3;refine jq (fun i:Nat=>St.of [(0,Ro (ji l)),(3,Bx 300 b3),(5,Ni i)] [(300,Bi b3 _ (jf e))]) (fun i=>i≤l.length∧∀y∈l.take i,(fun x=>!kQ x e) y=false) (fun i=>l.length-i) 0 (by (try dsimp only);first|omega|(simp;done)|(and_intros<;>first|omega|simp)) (jk [some 300] (by simp only [go_sem,jf]<;>and_intros<;>first|rfl|assumption)) ?_
 rintro k ⟨hk,hko⟩;have h0k:(k:Int)≥0:=by omega
 have hkl:=hk;have htd:(l.drop k).take (l.length-k)=l.drop k:=List.take_of_length_le (by rw [List.length_drop];omega)
 obtain ⟨A,hA⟩:∃A,l.take k++[e]=A:=⟨_,rfl⟩;have hAl:A.length=k+1:=by rw [←hA,List.length_append,List.length_take,Nat.min_eq_left hk];rfl
 have hM:∀(hp:joX l e=k),ji (jgy l e)=ji (A++l.drop k):=fun hp=>by rw [jgy,hp,jlG,←hA];simp
 have l1:(l.take k).length≤4000000:=by rw [List.length_take];omega
 have l2:(l.drop k).length≤4000000:=by rw [List.length_drop];omega
 have m1:(l.take k).length≤maxLen:=by unfold maxLen;omega
 have m2:(l.take k).length*32≤140737488355328:=by omega
 have m3:(l.take k).length+1≤maxLen:=by unfold maxLen;omega
 have m4:((l.take k).length+1)*32≤140737488355328:=by omega
 have m5:A.length+(l.drop k).length≤maxLen:=by unfold maxLen;omega
 have m6:(A.length+(l.drop k).length)*32≤140737488355328:=by omega
 by_cases hlt:k<l.length
 ·have hlt':(k:Int)<l.length:=by omega
  obtain ⟨x,hx⟩:=je hlt;have hw:IntKind.i64.wrap ((k:Int)+1)=((k+1:Nat):Int):=jo (by omega) (by omega)
  simp only [go_sem,jf,hlt,hlt',h0k,jI hx];refine jc (jgA x e) (by simp only [go_sem,jf]) fun η=>?_
  simp only [go_sem,jf];cases ha:kQ x e
  ·rw [hM (jxA hx ha hko)]
   simp only [go_sem,jf,ha,hk,h0k,Nat.le_refl,htd,m1,m2,m3,m4,jtr,hA,m5,m6,jwD,ke]
  ·simp only [go_sem,jf,ha,hw]
   exact ⟨k+1,⟨hlt,jku hx (by simp [ha]) hko⟩,(jk [some 300] (by simp only [go_sem,jf]<;>and_intros<;>first|rfl|assumption)),by (try dsimp only);omega⟩
 have hlt':¬(k:Int)<l.length:=by omega
 have hko':∀y∈l,(fun x=>!kQ x e) y=false:=by rw [List.take_of_length_le (by omega)] at hko;exact hko
 rw [hM (by rw [joW hko'];omega)]
 simp only [go_sem,jf,hlt',hk,h0k,Nat.le_refl,htd,m1,m2,m3,m4,jtr,hA,m5,m6,jwD,ke]
theorem jz1 (x e:En):kf Tryz.prog 289 [.agg (jf x),.ptr (jf e)] (.c (.val (.bool (!kQ x e)))):=by
 refine jr Tryz.func289 jc5 (by simp) ?_
 unfold ja7;simp only [go_sem,jf];intro b2;refine jc (jgD x e) (by simp only [go_sem,jf]) fun η=>?_
 simp only [go_sem,jf]
theorem jai (l:List En) (e:En) (hl:l.length≤4000000):kf Tryz.prog 274 [.c (ji l),.agg (jf e)] (.c (ji (jgy l e))):=by
 refine jr Tryz.func274 jeV (by simp) ?_
 unfold jcw;simp only [go_sem,jf];intro b3;refine jc (jbh l _ (jf e) (fun x=>!kQ x e) (fun x=>jz1 x e) hl) (by simp only [go_sem,jf]) fun η=>?_
 have hkl:=jsv l e;have hfin:∀(n:Nat),joX l e=n→jgy l e=jlG l n e:=fun n h=>by rw [jgy,h]
 by_cases hneg:jcX (fun x=>!kQ x e) l<0
 ·have hp:joX l e=l.length:=by rw [joX,if_pos hneg]
  rw [hfin _ hp];simp only [go_sem,jf,hneg];refine ⟨?_,?_⟩
  ·refine jc (jZ l hl) (by simp only [go_sem,jf,jjt]) fun ηa=>?_
   simp only [go_sem,jf,jjt];intro η17;refine jbc (R:=fun rt _=>rt=.c (ji (jlG l l.length e))) (by simp only [go_sem];exact (jhG l l.length e (by omega) hl (by simp only [go_sem]) (by simp only [go_sem]) (by decide)).mono fun rt o' h=>h.1) fun rt o' hR η=>?_
   subst hR;simp only [go_sem]
  ·simp only [go_sem,jf,jjt]
   intro η17;refine jc (jZ l hl) (by simp only [go_sem,jf,jjt]) fun ηa=>?_
   simp only [go_sem,jf,jjt];refine jbc (R:=fun rt _=>rt=.c (ji (jlG l l.length e))) (by simp only [go_sem];exact (jhG l l.length e (by omega) hl (by simp only [go_sem]) (by simp only [go_sem]) (by decide)).mono fun rt o' h=>h.1) fun rt o' hR η=>?_
   subst hR;simp only [go_sem]
 ·have hn:jcX (fun x=>!kQ x e) l=((joX l e:Nat):Int):=by rw [joX,if_neg hneg];omega
  rw [hfin _ rfl];generalize joX l e=n at*;have hn0:¬(n:Int)<0:=by omega
  rw [hn];simp only [go_sem,jf,hn0];refine ⟨?_,?_⟩
  ·refine jc (jZ l hl) (by simp only [go_sem,jf,jjt]) fun ηa=>?_
   simp only [go_sem,jf,jjt];intro η17;refine jbc (R:=fun rt _=>rt=.c (ji (jlG l n e))) (by simp only [go_sem];exact (jhG l n e (by omega) hl (by simp only [go_sem]) (by simp only [go_sem]) (by decide)).mono fun rt o' h=>h.1) fun rt o' hR η=>?_
   subst hR;simp only [go_sem]
  ·simp only [go_sem,jf,jjt]
   intro η17;refine jc (jZ l hl) (by simp only [go_sem,jf,jjt]) fun ηa=>?_
   simp only [go_sem,jf,jjt];refine jbc (R:=fun rt _=>rt=.c (ji (jlG l n e))) (by simp only [go_sem];exact (jhG l n e (by omega) hl (by simp only [go_sem]) (by simp only [go_sem]) (by decide)).mono fun rt o' h=>h.1) fun rt o' hR η=>?_
   subst hR;simp only [go_sem]
def C.sub:List Nat→C→C
 |[],c=>c
 |0::p,.seq a _=>a.sub p
 |_::p,.seq _ b=>b.sub p
 |0::p,.cond _ a _=>a.sub p
 |_::p,.cond _ _ b=>b.sub p
 |_::p,.blk _ a=>a.sub p
 |_::p,.loop a=>a.sub p
 |_,c=>c
section
variable {s:St}
def resT (s:St) (rs:List R) (K:List (Bool×List A0)→Prop):AV→Prop
 |.agg l=>jif s rs fun ps=>K ((true,l)::ps)
 |.c a=>jif s rs fun ps=>K ((false,[a])::ps)
 |_=>False
def resC (s:St) (agg:Bool) (size:Nat) (rs:List R) (K:List (Bool×List A0)→Prop):AV→Prop
 |.c (.bp g c b)=>ldB (s.o g) g c b size fun l=>(agg=true∨l.length=1)∧jif s rs fun ps=>K ((agg,l)::ps)
 |_=>False
theorem qZ (rs:List R) (rt:RT):jwc rs rt s=jif s rs fun ps=>jao rt ps∧kI s (ps.flatMap (·.2)) fun cs _=>IsD cs rt.flat:=rfl
theorem jR (K:List (Bool×List A0)→Prop):jif s [] K=K []:=rfl
theorem jjW (n:Nat) (rs:List R) (K:List (Bool×List A0)→Prop):jif s (.t n::rs) K=resT s rs K (s.t n):=by
 simp only [jif,resT];split<;>simp_all
theorem jjV (rs:List R) (K:List (Bool×List A0)→Prop) (a:A0):resT s rs K (.c a)=jif s rs fun ps=>K ((false,[a])::ps):=rfl
theorem jB (agg:Bool) (size:Nat) (rs:List R) (K:List (Bool×List A0)→Prop) (g c b:Nat):resC s agg size rs K (.c (.bp g c b))=ldB (s.o g) g c b size fun l=>(agg=true∨l.length=1)∧jif s rs fun ps=>K ((agg,l)::ps):=rfl
theorem js (n:Nat) (agg:Bool) (size:Nat) (rs:List R) (K:List (Bool×List A0)→Prop) (h:resC s agg size rs K (s.t n)):jif s (.cell n agg size::rs) K:=by
 unfold resC at h;split at h
 ·rename_i g c b he
  simp only [ldB] at h;split at h
  ·rename_i b' ty cs ho
   obtain ⟨e1,e2,e3,e4⟩:=h;subst e1;simp only [jif,he];exact ⟨_,⟨ty,cs,ho,e2,rfl⟩,e3,e4⟩
  ·exact h.elim
 ·exact h.elim
theorem jL (l:List (Bool×List D)) (ps:List (Bool×List A0)):jao (.tup l) ps=(ps.length≠1∧ps.map (fun p=>(p.1,p.2.length))=l.map (fun p=>(p.1,p.2.length))):=rfl
end
def jat (l:List En):List En:=l.take ((l.length+1)/2)
def jb9 (l:List En):List En:=l.drop ((l.length+1)/2)
def jfa:C:=iS [iA 2 (.mov (.c (.slice none 0 0))),iA 3 (.mov (.c (.slice none 0 0)))] (iS [iA 5 (iM 0),iA 6 (iG 5),iA 7 (iQ .add 3 6 1),iA 8 (iQ .quo 3 7 2),iA 4 (iM 8)] (.seq (.dreg (T.pure 1 (iA 10 (iM 0)) (T.pure 2 (iA 11 (iM 4)) (T.pure 3 (iA 12 (.sl 4 (.t 10) none (some (.t 11)))) (T.pure 6 (iA 15 (iM 0)) (T.pure 7 (iA 16 (iM 4)) (T.pure 8 (iA 17 (.sl 4 (.t 15) (some (.t 16)) none)) (T.alt (iA 9 (.bsl 111 4 0 [] [])) [8,7,6,3,2,1] (T.alt (iA 13 (.app 111 4 32 (.t 9) (.t 12))) [8,7,6] (T.alt (iA 14 (.bsl 111 4 0 [] [])) [8,7,6,3,2,1] (T.alt (iA 18 (.app 111 4 32 (.t 14) (.t 17))) [] (T.pure 10 (iA 2 (iM 13)) (T.pure 11 (iA 3 (iM 18)) T.done)) T.stop) T.stop) (T.alt (iA 14 (.bsl 111 4 0 [] [])) [8,7,6,3,2,1] (T.alt (iA 13 (.app 111 4 32 (.t 9) (.t 12))) [8,7,6] (T.alt (iA 18 (.app 111 4 32 (.t 14) (.t 17))) [] (T.pure 10 (iA 2 (iM 13)) (T.pure 11 (iA 3 (iM 18)) T.done)) T.stop) T.stop) T.stop)) (T.alt (iA 14 (.bsl 111 4 0 [] [])) [8,7,6,3,2,1] (T.alt (iA 9 (.bsl 111 4 0 [] [])) [8,7,6,3,2,1] (T.alt (iA 13 (.app 111 4 32 (.t 9) (.t 12))) [8,7,6] (T.alt (iA 18 (.app 111 4 32 (.t 14) (.t 17))) [] (T.pure 10 (iA 2 (iM 13)) (T.pure 11 (iA 3 (iM 18)) T.done)) T.stop) T.stop) T.stop) T.stop))))))))) .ret))
theorem jhe:fnC Tryz.prog Tryz.f192=some (jfa,[.t 2,.t 3],19):=by kernel_rfl
def jfq:C:=iS [iA 2 (.mov (.c (.slice none 0 0))),iA 3 (.mov (.c (.slice none 0 0)))] (iS [iA 5 (iM 0),iA 6 (iG 5),iA 7 (iQ .add 3 6 1),iA 8 (iQ .quo 3 7 2),iA 4 (iM 8)] (.seq (.dreg (T.pure 0 (iA 9 (iM 0)) (T.pure 1 (iA 10 (iM 4)) (T.pure 2 (iA 11 (.sl 4 (.t 9) none (some (.t 10)))) (T.pure 4 (iA 13 (iM 0)) (T.pure 5 (iA 14 (iM 4)) (T.pure 6 (iA 15 (.sl 4 (.t 13) (some (.t 14)) none)) (T.alt (iA 12 (.call 208 [.t 11])) [6,5,4] (T.alt (iA 16 (.call 208 [.t 15])) [] (T.pure 8 (iA 2 (iM 12)) (T.pure 9 (iA 3 (iM 16)) T.done)) T.stop) T.stop)))))))) .ret))
theorem jhu:fnC Tryz.prog Tryz.f217=some (jfq,[.t 2,.t 3],17):=by kernel_rfl
theorem jkT (l:List En) (hl:l.length≤4000000):kf Tryz.prog 192 [.c (ji l)] (.tup [(false,[ji (jat l)]),(false,[ji (jb9 l)])]):=by
 refine jr Tryz.func192 jhe (by simp) ?_
 unfold jfa;have hw:IntKind.i64.wrap ((l.length:Int)+1)=(l.length:Int)+1:=jo (by omega) (by omega)
 have hq:IntKind.i64.wrap (((l.length:Int)+1).tdiv 2)=(((l.length+1)/2:Nat):Int):=by
  rw [Int.tdiv_eq_ediv_of_nonneg (by omega)];exact jo (by omega) (by omega)|>.trans (by omega)
 have hn:(l.length+1)/2≤l.length∨l.length=0:=by omega
 have hn2:(l.length+1)/2≤l.length:=by omega
 unfold jat jb9;generalize (l.length+1)/2=n at*;have h0n:(n:Int)≥0:=by omega
 have m1:(l.take n).length≤maxLen:=by unfold maxLen;rw [List.length_take];omega
 have m2:(l.take n).length*32≤140737488355328:=by rw [List.length_take];omega
 have m3:(l.drop n).length≤maxLen:=by unfold maxLen;rw [List.length_drop];omega
 have m4:(l.drop n).length*32≤140737488355328:=by rw [List.length_drop];omega
 have htd:(l.drop n).take (l.length-n)=l.drop n:=List.take_of_length_le (by rw [List.length_drop];omega)
 simp only [go_sem,hw,hq,hn2,h0n,Nat.le_refl,htd,m1,m2,m3,m4,ke];simp only [go_sem,qZ,jjW,jjV,jR,jL]
theorem jk5 (l:List En) (hl:l.length≤4000000):kf Tryz.prog 217 [.c (ji l)] (.tup [(false,[ji (jat l)]),(false,[ji (jb9 l)])]):=by
 refine jr Tryz.func217 jhu (by simp) ?_
 unfold jfq;have hw:IntKind.i64.wrap ((l.length:Int)+1)=(l.length:Int)+1:=jo (by omega) (by omega)
 have hq:IntKind.i64.wrap (((l.length:Int)+1).tdiv 2)=(((l.length+1)/2:Nat):Int):=by
  rw [Int.tdiv_eq_ediv_of_nonneg (by omega)];exact jo (by omega) (by omega)|>.trans (by omega)
 have hn2:(l.length+1)/2≤l.length:=by omega
 unfold jat jb9;generalize (l.length+1)/2=n at*;have h0n:(n:Int)≥0:=by omega
 have htd:(l.drop n).take (l.length-n)=l.drop n:=List.take_of_length_le (by rw [List.length_drop];omega)
 simp only [go_sem,hw,hq,hn2,h0n,Nat.le_refl,htd];refine jc (jZ (l.take n) (by rw [List.length_take];omega)) (by simp only [go_sem,Nat.le_refl,htd]) fun ηa=>?_
 simp only [go_sem,Nat.le_refl,htd];refine jc (jZ (l.drop n) (by rw [List.length_drop];omega)) (by simp only [go_sem,Nat.le_refl,htd]) fun ηb=>?_
 simp only [go_sem,Nat.le_refl,htd];simp only [go_sem,qZ,jjW,jjV,jR,jL]
def qH (a b:List En):List En:=if a.length+b.length>80 then a else b.foldl jgy a
theorem jhM:∀(b a:List En),(b.foldl jgy a).length=a.length+b.length
 |[],a=>by simp
 |e::b,a=>by rw [List.foldl_cons,jhM b,joV,List.length_cons];omega
theorem jqw (a b:List En):(qH a b).length≤a.length+b.length:=by
 unfold qH;split
 ·omega
 ·rw [jhM];exact Nat.le_refl _
theorem jma {b:List En} {k:Nat} {e:En} (h:b[k]?=some e) (a:List En):(b.take (k+1)).foldl jgy a=jgy ((b.take k).foldl jgy a) e:=by
 rw [List.take_add_one,h];simp
def je8:C:=iS [iA 4 (.mov (.c (.slice none 0 0)))] (iS [iA 7 (.bsl 111 4 0 [] []),iA 8 (iM 0),iA 9 (.app 111 4 32 (.t 7) (.t 8)),iA 5 (iM 9)] (.seq (iS [iA 10 (iM 0),iA 11 (iG 10),iA 12 (iM 1),iA 13 (iG 12),iA 14 (iP .add 3 11 13),iA 15 (iQ .gtr 3 14 80)] (iD 15 (iS [iA 16 (iM 5),iA 4 (iM 16)] .ret) .skip)) (.seq (iS [iA 6 (iN 0)] (.blk 0 (.loop (.seq (iS [iA 17 (iM 6),iA 18 (iM 1),iA 19 (iG 18),iA 20 (iP .lss 3 17 19)] (iD 20 .skip (.exit 0))) (.seq (.blk 1 (.reg [iA 23 (iM 5),iA 24 (iM 1),iA 25 (iM 6),iA 26 (iI 4 24 25),iA 27 (iT 4 26),iA 28 (.call 260 [.t 23,.t 27]),iA 5 (iM 28)])) (.reg [iA 21 (iM 6),iA 22 (iQ .add 3 21 1),iA 6 (iM 22)])))))) (iS [iA 29 (iM 5),iA 4 (iM 29)] .ret))))
theorem jhc:fnC Tryz.prog Tryz.f193=some (je8,[.t 4],30):=by kernel_rfl
def jfo:C:=iS [iA 4 (.mov (.c (.slice none 0 0)))] (iS [iA 8 (iM 0),iA 9 (.call 208 [.t 8]),iA 5 (iM 9)] (.seq (iS [iA 10 (iM 0),iA 11 (iG 10),iA 12 (iM 1),iA 13 (iG 12),iA 14 (iP .add 3 11 13),iA 15 (iQ .gtr 3 14 80)] (iD 15 (iS [iA 16 (iM 5),iA 4 (iM 16)] .ret) .skip)) (.seq (iS [iA 17 (iM 1),iA 18 (iG 17),iA 19 (iN 0)] (.blk 0 (.loop (iS [iA 20 (iP .lss 3 19 18)] (.seq (iD 20 .skip (.exit 0)) (.seq (.blk 1 (iS [iA 21 (iI 4 17 19),iA 22 (iT 4 21),iA 7 (.alloc 111 [.int .i64 0,.int .i64 0,.int .i64 0,.int .i64 0]),iC (.st 4 [none,none,none,none] (.t 7) (.t 22))] (.reg [iA 23 (iM 5),iA 24 (iT 4 7),iA 25 (.call 274 [.t 23,.t 24]),iA 5 (iM 25)]))) (.reg [iA 26 (iQ .add 3 19 1),iA 19 (iM 26)]))))))) (iS [iA 27 (iM 5),iA 4 (iM 27)] .ret))))
theorem jhs:fnC Tryz.prog Tryz.f218=some (jfo,[.t 4],28):=by kernel_rfl
theorem jkR (a b:List En) (hl:a.length+b.length≤4000000):kf Tryz.prog 193 [.c (ji a),.c (ji b)] (.c (ji (qH a b))):=by
 refine jr Tryz.func193 jhc (by simp) ?_
 unfold je8;have m1:a.length≤maxLen:=by unfold maxLen;omega
 have m2:a.length*32≤140737488355328:=by omega
 have hw:IntKind.i64.wrap ((a.length:Int)+b.length)=((a.length+b.length:Nat):Int):=by rw [jo (by omega) (by omega)];omega
 simp only [go_sem,m1,m2,ke];intro η0 η1;by_cases hgt:a.length+b.length>80
 ·have hgt':((a.length+b.length:Nat):Int)>80:=by omega
  have e:qH a b=a:=if_pos hgt;simp only [go_sem,hw,hgt',e,ke]
 have hgt':¬((a.length+b.length:Nat):Int)>80:=by omega
 have e:qH a b=b.foldl jgy a:=if_neg hgt;simp only [go_sem,hw,hgt'];refine jq (fun i:Nat×jp=>St.of [(1,Ro (ji b)),(5,Hd 5 i.2),(6,Ni i.1)] [(5,.loose (ji ((b.take i.1).foldl jgy a)) i.2)]) (fun i=>i.1≤b.length) (fun i=>b.length-i.1) (0,η1) (by (try dsimp only);first|omega|(simp;done)|(and_intros<;>first|omega|simp)) (jk [some 900] (by simp only [go_sem,List.take_zero,List.foldl_nil,ke]<;>and_intros<;>first|rfl|assumption)) ?_
 rintro ⟨k,η⟩ hk;dsimp only at hk;by_cases hlt:k<b.length
 ·have hlt':(k:Int)<b.length:=by omega
  have h0k:(k:Int)≥0:=by omega
  obtain ⟨x,hx⟩:=je hlt;have hwk:IntKind.i64.wrap ((k:Int)+1)=((k+1:Nat):Int):=jo (by omega) (by omega)
  have hnx:=jma hx a;have hln:=jhM (b.take k) a;rw [List.length_take] at hln;generalize (b.take k).foldl jgy a=L at*;simp only [go_sem,hlt',hlt,h0k,jI hx,jf];refine jc (jah L x (by omega)) (by simp only [go_sem,jf]) fun ηp=>?_
  simp only [go_sem,jf];simp only [go_sem,hwk];exact ⟨(k+1,ηp 0),by (try dsimp only);first|omega|assumption|(and_intros<;>first|omega|assumption),(jk [some 2800] (by simp only [go_sem,hnx]<;>and_intros<;>first|rfl|assumption)),by (try dsimp only);omega⟩
 have hlt':¬(k:Int)<b.length:=by omega
 rw [List.take_of_length_le (by omega),e]
 simp only [go_sem,hlt']
theorem jk3 (a b:List En) (hl:a.length+b.length≤4000000):kf Tryz.prog 218 [.c (ji a),.c (ji b)] (.c (ji (qH a b))):=by
 refine jr Tryz.func218 jhs (by simp) ?_
 unfold jfo;have hw:IntKind.i64.wrap ((a.length:Int)+b.length)=((a.length+b.length:Nat):Int):=by rw [jo (by omega) (by omega)];omega
 simp only [go_sem];refine jc (jZ a (by omega)) (by simp only [go_sem]) fun ηa=>?_
 simp only [go_sem];by_cases hgt:a.length+b.length>80
 ·have hgt':((a.length+b.length:Nat):Int)>80:=by omega
  have e:qH a b=a:=if_pos hgt;simp only [go_sem,hw,hgt',e]
 have hgt':¬((a.length+b.length:Nat):Int)>80:=by omega
 have e:qH a b=b.foldl jgy a:=if_neg hgt;simp only [go_sem,hw,hgt'];refine jq (fun i:Nat×jp=>St.of [(5,Hd 5 i.2),(17,Ro (ji b)),(18,Ni b.length),(19,Ni i.1)] [(5,.loose (ji ((b.take i.1).foldl jgy a)) i.2)]) (fun i=>i.1≤b.length) (fun i=>b.length-i.1) (0,ηa 0) (by (try dsimp only);first|omega|(simp;done)|(and_intros<;>first|omega|simp)) (jk [some 900] (by simp only [go_sem,List.take_zero,List.foldl_nil]<;>and_intros<;>first|rfl|assumption)) ?_
 rintro ⟨k,η⟩ hk;dsimp only at hk;by_cases hlt:k<b.length
 ·have hlt':(k:Int)<b.length:=by omega
  have h0k:(k:Int)≥0:=by omega
  obtain ⟨x,hx⟩:=je hlt;have hwk:IntKind.i64.wrap ((k:Int)+1)=((k+1:Nat):Int):=jo (by omega) (by omega)
  have hnx:=jma hx a;have hln:=jhM (b.take k) a;rw [List.length_take] at hln;generalize (b.take k).foldl jgy a=L at*;simp only [go_sem,hlt',hlt,h0k,jI hx,jf];intro b7;refine jc (jai L x (by omega)) (by simp only [go_sem,jf]) fun ηp=>?_
  simp only [go_sem,jf];simp only [go_sem,hwk];exact ⟨(k+1,ηp 0),by (try dsimp only);first|omega|assumption|(and_intros<;>first|omega|assumption),(jk [some 2500] (by simp only [go_sem,hnx]<;>and_intros<;>first|rfl|assumption)),by (try dsimp only);omega⟩
 have hlt':¬(k:Int)<b.length:=by omega
 rw [List.take_of_length_le (by omega),e]
 simp only [go_sem,hlt']
def joB (l:List En):En:=l.headD ⟨0,0,0,0⟩
def jen (l:List En):Bool:=!l.isEmpty
def jbG:C:=iS [iA 2 (.alloc 111 [.int .i64 0,.int .i64 0,.int .i64 0,.int .i64 0]),iA 3 (.mov (.c (.slice none 0 0))),iA 4 (iO false)] (.seq (iS [iA 5 (iM 0),iA 6 (iG 5),iA 7 (iQ .eql 3 6 0)] (iD 7 (iS [iA 8 (.bld [.int .i64 0,.int .i64 0,.int .i64 0,.int .i64 0] []),iA 9 (.bsl 111 4 0 [] []),iC (.st 4 [none,none,none,none] (.t 2) (.t 8)),iA 3 (iM 9),iA 4 (iO false)] .ret) .skip)) (.seq (.dreg (T.pure 0 (iA 10 (iM 0)) (T.pure 1 (iA 11 (.ia 4 (.t 10) (.c (.int .i64 0)))) (T.pure 2 (iA 12 (iT 4 11)) (T.pure 4 (iA 14 (iM 0)) (T.pure 5 (iA 15 (.sl 4 (.t 14) (some (.c (.int .i64 1))) none)) (T.alt (iA 13 (.bsl 111 4 0 [] [])) [5,4,2,1,0] (T.alt (iA 16 (.app 111 4 32 (.t 13) (.t 15))) [2,1,0] (T.alt (iC (.st 4 [none,none,none,none] (.t 2) (.t 12))) [] (T.pure 8 (iA 3 (iM 16)) (T.pure 9 (iA 4 (iO true)) T.done)) T.stop) T.stop) T.stop))))))) .ret))
theorem jd4:fnC Tryz.prog Tryz.f194=some (jbG,[.cell 2 true 4,.t 3,.t 4],17):=by kernel_rfl
def jbJ:C:=iS [iA 2 (.alloc 111 [.int .i64 0,.int .i64 0,.int .i64 0,.int .i64 0]),iA 3 (.mov (.c (.slice none 0 0))),iA 4 (iO false)] (.seq (iS [iA 5 (iM 0),iA 6 (iG 5),iA 7 (iQ .eql 3 6 0)] (iD 7 (iS [iA 8 (.bld [.int .i64 0,.int .i64 0,.int .i64 0,.int .i64 0] []),iC (.st 4 [none,none,none,none] (.t 2) (.t 8)),iA 3 (.mov (.c (.slice none 0 0))),iA 4 (iO false)] .ret) .skip)) (.seq (.dreg (T.pure 0 (iA 9 (iM 0)) (T.pure 1 (iA 10 (.ia 4 (.t 9) (.c (.int .i64 0)))) (T.pure 2 (iA 11 (iT 4 10)) (T.pure 3 (iA 12 (iM 0)) (T.pure 4 (iA 13 (.sl 4 (.t 12) (some (.c (.int .i64 1))) none)) (T.alt (iA 14 (.call 208 [.t 13])) [2,1,0] (T.alt (iC (.st 4 [none,none,none,none] (.t 2) (.t 11))) [] (T.pure 7 (iA 3 (iM 14)) (T.pure 8 (iA 4 (iO true)) T.done)) T.stop) T.stop))))))) .ret))
theorem jd7:fnC Tryz.prog Tryz.f219=some (jbJ,[.cell 2 true 4,.t 3,.t 4],15):=by kernel_rfl
theorem jbw (l:List En) (hl:l.length≤4000000):kf Tryz.prog 194 [.c (ji l)] (.tup [(true,jf (joB l)),(false,[ji l.tail]),(false,[.val (.bool (jen l))])]):=by
 refine jr Tryz.func194 jd4 (by simp) ?_
 unfold jbG;cases l with
 |nil=>
  simp only [go_sem,jf,joB,jen,List.headD_nil,List.isEmpty_nil,List.tail_nil];intro b2 η0;simp only [qZ];refine js _ _ _ _ _ ?_;simp only [go_sem,jB,jjW,jjV,jR,jL,true_or,jcL]
 |cons x l=>
  have hle:l.length≤4000000:=by rw [List.length_cons] at hl;omega
  have h0:(x::l)[0]?=some x:=rfl;have h1:(((l.length+1:Nat):Int)==0)=false:=by simp only [beq_eq_false_iff_ne,ne_eq];omega
  have h2:1≤l.length+1:=by omega
  have h3:0<l.length+1:=by omega
  have m1:l.length≤maxLen:=by unfold maxLen;omega
  have m2:l.length*32≤140737488355328:=by omega
  have hd:List.take l.length l=l:=List.take_length;simp only [go_sem,jf,joB,jen,List.headD_cons,List.isEmpty_cons,List.tail_cons,h1];intro b2;simp only [go_sem,h2,h3,jI h0,jf,hd,Nat.le_refl,m1,m2,ke,Nat.add_sub_cancel];intro η η1;simp only [qZ];refine js _ _ _ _ _ ?_;simp only [go_sem,jB,jjW,jjV,jR,jL,true_or]
def jrP (ts:List Tk) (t:Nat) (x:Tk) (til:Int):List Tk:=ts.set t ⟨3,x.need,IntKind.i64.wrap (x.tri+1),til⟩
def zc (r:Rn) (t:Nat) (x:Tk) (now:Int):Rn:=⟨r.id,r.plan,r.state,jrP r.tasks t x (IntKind.i64.wrap (now+r.plan.wait))⟩
def ja4:C:=iS [iA 3 (.box 108 8 (.t 0)),iA 6 (.alloc 108 [.int .i64 0,.int .i64 0,.int .i64 0,.int .i64 0,.int .i64 0,.slice none 0 0,.int .i64 0,.slice none 0 0])] (iS [iA 9 (iT 8 3),iA 10 (.call 185 [.t 9]),iA 7 (.alloc 108 [.int .i64 0,.int .i64 0,.int .i64 0,.int .i64 0,.int .i64 0,.slice none 0 0,.int .i64 0,.slice none 0 0]),iC (.st 8 [none,none,none,none,none,some (2,253),none,some (4,172)] (.t 7) (.t 10))] (iS [iA 11 (iF 7 7),iA 12 (iL 11),iA 13 (iM 1),iA 14 (iI 4 12 13),iA 15 (iT 4 14),iA 8 (.alloc 172 [.int .i64 0,.int .i64 0,.int .i64 0,.int .i64 0]),iC (.st 4 [none,none,none,none] (.t 8) (.t 15))] (iS [iA 16 (iF 0 8),iC (.st 1 [none] (.t 16) (.c (.int .i64 3)))] (iS [iA 17 (iF 2 8),iA 18 (iL 17),iA 19 (iQ .add 3 18 1),iA 20 (iF 2 8),iC (.st 1 [none] (.t 20) (.t 19))] (iS [iA 21 (iM 2),iA 22 (iF 1 3),iA 23 (iF 2 22),iA 24 (iL 23),iA 25 (iP .add 3 21 24),iA 26 (iF 3 8),iC (.st 1 [none] (.t 26) (.t 25))] (iS [iA 27 (iF 7 7),iA 28 (iL 27),iA 29 (iM 1),iA 30 (iT 4 8),iA 31 (iI 4 28 29),iC (.st 4 [none,none,none,none] (.t 31) (.t 30))] (iS [iA 32 (iT 8 7),iC (.st 8 [none,none,none,none,none,some (2,253),none,some (4,172)] (.t 6) (.t 32))] .ret)))))))
theorem jc2:fnC Tryz.prog Tryz.f195=some (ja4,[.cell 6 true 8],33):=by kernel_rfl
theorem jfQ (r:Rn) (t:Nat) (x:Tk) (now:Int) (hx:r.tasks[t]?=some x) (hsz:r.plan.edges.length≤4000000) (ht:r.tasks.length≤4000000):kf Tryz.prog 195 [.agg (jd r),.c (.val (.int .i64 t)),.c (.val (.int .i64 now))] (.agg (jd (zc r t x now))):=by
 refine jr Tryz.func195 jc2 (by simp) ?_
 unfold ja4;have htl:=(List.getElem?_eq_some_iff.1 hx).1;have h0t:(t:Int)≥0:=by omega
 simp only [go_sem,jd,ja];intro b3 b6;refine jc (vr r hsz ht) (by simp only [go_sem,jd,ja]) fun ηc=>?_
 simp only [go_sem,jd,ja];intro b7;simp only [go_sem,Nat.add_zero,htl,h0t,jq9 hx,jg1 hx,jn,zc,jrP,jbf 3 x.need (IntKind.i64.wrap (x.tri+1)) (IntKind.i64.wrap (now+r.plan.wait)) htl]
end Go.Proofs.YtmnpailnelmpiaaGreat
