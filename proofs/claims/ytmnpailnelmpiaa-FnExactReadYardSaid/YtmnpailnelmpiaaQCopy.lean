/- Parts. -/
import Derived.Test.YtmnpailnelmpiaaQFresh
import Derived.Test.YtmnpailnelmpiaaQRunOk
set_option linter.unusedSimpArgs false
set_option linter.unusedVariables false
set_option maxRecDepth 100000
namespace Go.Proofs.Ytmnpailnelmpiaa
open Go.RowKit Go.Sort
section
variable {α:Type} {enc:α→List D} {size ty:Nat} {l:List α} {k:Nat} {x:α}
theorem jld (hx:l[k]?=some x):l.flatMap enc=(l.take k).flatMap enc++(enc x++(l.drop (k+1)).flatMap enc):=by
 obtain ⟨hk,he⟩:=List.getElem?_eq_some_iff.1 hx;have e:l=l.take k++x::l.drop (k+1):=by rw [←he,←List.drop_eq_getElem_cons hk,List.take_append_drop]
 have h2:=congrArg (List.flatMap enc) e;rw [h2,List.flatMap_append,List.flatMap_cons]
theorem jpc (hs:∀x,(enc x).length=size) (hx:l[k]?=some x):((l.take k).flatMap enc).length=k*size:=by
 have hk:=(List.getElem?_eq_some_iff.1 hx).1;rw [jU hs,List.length_take,Nat.min_eq_left (by omega)]
theorem jez (hs:∀x,(enc x).length=size) (hx:l[k]?=some x) {j n:Nat} (hj:j+n≤size):((l.flatMap enc).drop (k*size+j)).take n=((enc x).drop j).take n:=by
 rw [jld hx,←List.drop_drop,List.drop_left' (jpc hs hx),List.drop_append_of_le_length (by rw [hs];omega),List.take_append_of_le_length (by rw [List.length_drop,hs];omega)]
theorem jev (hs:∀x,(enc x).length=size) (hx:l[k]?=some x) {j n:Nat} (hj:j+n≤size):k*size+j+n≤(l.flatMap enc).length:=by
 have hk:=(List.getElem?_eq_some_iff.1 hx).1;rw [jU hs];have:(k+1)*size≤l.length*size:=Nat.mul_le_mul_right _ hk;rw [Nat.succ_mul] at this;omega
end
section
variable {l:List En} {k:Nat} {x:En}
theorem at_en (hx:l[k]?=some x):((l.flatMap jk).drop (k*4)).take 4=jk x:=jez (enc:=jk) (size:=4) (fun _=>rfl) hx (j:=0) (n:=4) (by decide)
theorem jiL (hx:l[k]?=some x):((l.flatMap jk).drop (k*4+1)).take 1=[.val (.int .i64 x.seq)]:=jez (enc:=jk) (size:=4) (fun _=>rfl) hx (j:=1) (n:=1) (by decide)
theorem in_en (hx:l[k]?=some x):k*4+4≤(l.flatMap jk).length:=jev (enc:=jk) (size:=4) (fun _=>rfl) hx (j:=0) (n:=4) (by decide)
theorem jin (hx:l[k]?=some x):k*4+1+1≤(l.flatMap jk).length:=jev (enc:=jk) (size:=4) (fun _=>rfl) hx (j:=1) (n:=1) (by decide)
end
theorem jm9 {y:Yd} (h:kH y≤2000000):y.runs.length≤2000000:=by
 simp only [kH,jb2] at h;omega
theorem jkh {y:Yd} (h:kH y≤2000000):y.shelf.length≤2000000:=by
 simp only [kH,jeF] at h;omega
theorem jsF (l:List (List En)):l.flatten.length≤jeF l:=by
 induction l with
 |nil=>simp
 |cons x l ih=>
  simp only [List.flatten_cons,List.length_append,jeF,List.length_cons,jP,List.map_cons,List.sum_cons,vM] at ih⊢;omega
theorem jfg {l:List (List En)} {k:Nat} {x:List En} (h:l[k]?=some x):(l.take (k+1)).flatten=(l.take k).flatten++x:=by
 rw [List.take_add_one,h];simp
theorem jaw (l:List (List En)) (k:Nat):(l.take k).flatten.length≤l.flatten.length:=by
 have h:l.flatten=(l.take k).flatten++(l.drop k).flatten:=by rw [←List.flatten_append,List.take_append_drop]
 rw [h,List.length_append];omega
theorem vp {y:Yd} (h:kH y≤2000000):y.shelf.flatten.length≤2000000:=by
 have:=jsF y.shelf;simp only [kH] at h;omega
abbrev jj2 (b ty:Nat) (now seq:Int) (sh:List (List En)) (e1:jm) (rn:List Rn) (e2:jm):Ob:=.box b ty [.a (.v (.int .i64 now)),.a (.v (.int .i64 seq)),.own (kO sh) e1,.own (kr rn) e2]
abbrev ZYd (b ty:Nat):Ob:=.box b ty [.a (.v (.int .i64 0)),.a (.v (.int .i64 0)),.a (.v (.slice none 0 0)),.a (.v (.slice none 0 0))]
theorem jrv (l:List (List En)) (x:List En):D.sl 1 joQ (l.flatMap (fun es=>[js es])++[js x])=kO (l++[x]):=by simp [kO]
theorem jko (l:List Rn) (r:Rn):D.sl 8 tRn (l.flatMap jc++[.val (.int .i64 r.id),.val (.int .i64 r.plan.prio),.val (.int .i64 r.plan.most),.val (.int .i64 r.plan.wait),.val (.int .i64 r.plan.tasks),jv r.plan.edges,.val (.int .i64 r.state),km r.tasks])=kr (l++[r]):=by simp [kr,jc,ja]
def zq:C:=iS [iA 1 (.box 42 4 (.t 0)),iA 2 (.mov (.c (.slice none 0 0)))] (iS [iA 5 (.bsl 82 4 0 [] []),iA 3 (iM 5)] (.seq (iS [iA 4 (iN 0)] (.blk 0 (.loop (.seq (iS [iA 6 (iM 4),iA 7 (iF 2 1),iA 8 (iL 7),iA 9 (iG 8),iA 10 (iP .lss 3 6 9)] (iD 10 .skip (.exit 0))) (.seq (.blk 1 (.reg [iA 13 (iM 3),iA 14 (iF 2 1),iA 15 (iL 14),iA 16 (iM 4),iA 17 (iI 1 15 16),iA 18 (iL 17),iA 19 (.app 82 4 32 (.t 13) (.t 18)),iA 3 (iM 19)])) (.reg [iA 11 (iM 4),iA 12 (iQ .add 3 11 1),iA 4 (iM 12)])))))) (iS [iA 20 (iM 3),iA 2 (iM 20)] .ret)))
theorem jba:fnC Try.prog Try.f83=some (zq,[.t 2],21):=by kernel_rfl
def zt:C:=iS [iA 1 (.box 42 4 (.t 0)),iA 2 (.mov (.c (.slice none 0 0)))] (iS [iA 3 (.mov (.c (.slice none 0 0)))] (.seq (iS [iA 6 (iF 2 1),iA 7 (iL 6),iA 8 (iG 7),iA 9 (iN 0)] (.blk 0 (.loop (iS [iA 10 (iP .lss 3 9 8)] (.seq (iD 10 .skip (.exit 0)) (.seq (.blk 1 (iS [iA 11 (iI 1 7 9),iA 12 (iL 11),iA 5 (iM 12)] (.reg [iA 13 (iM 3),iA 14 (iM 5),iA 15 (.app 82 4 32 (.t 13) (.t 14)),iA 3 (iM 15)]))) (.reg [iA 16 (iQ .add 3 9 1),iA 9 (iM 16)]))))))) (iS [iA 17 (iM 3),iA 2 (iM 17)] .ret)))
theorem jbc:fnC Try.prog Try.f87=some (zt,[.t 2],18):=by kernel_rfl
theorem jod (l m:List En):D.sl 4 tEn (l.flatMap jk++m.flatMap jk)=js (l++m):=by simp [js]
theorem zi (y:Yd) (ht:kH y≤2000000):kg Try.prog 83 [.agg (jd y)] (.c (js y.shelf.flatten)):=by
 refine jr Try.func83 jba (by simp) ?_
 unfold zq;have hl:=jkh ht;have hf:=vp ht;simp only [go_sem,jd];intro b η0;refine kJ (fun s=>∃(k g ty:Nat) (η:jm),k≤y.shelf.length∧(g=500∨g=1900)∧s.t 1=.c (.bp 100 0 b)∧s.o 100=.box b ty ((jd y).map fun x=>.a x.toRo)∧s.t 4=.c (.v (.int .i64 k))∧s.t 3=.c (.h g 0 [] (η []))∧s.o g=.loose (js (y.shelf.take k).flatten) η) (fun s=>y.shelf.length-s.n 4) ?_ ?_
 ·exact ⟨0,500,_,η0,Nat.zero_le _,.inl rfl,by simp only [go_sem]<;>rfl,by simp only [go_sem]<;>rfl,by simp only [go_sem]<;>rfl,by simp only [go_sem]<;>rfl,by simp only [go_sem]<;>rfl⟩
 ·rintro s ⟨k,g,ty,η,hk,hg,h1,ho1,h4,h3,hob⟩
  by_cases hlt:k<y.shelf.length
  ·have hlt':(k:Int)<y.shelf.length:=by omega
   obtain ⟨x,hx⟩:=jg hlt;have hw:IntKind.i64.wrap ((k:Int)+1)=((k+1:Nat):Int):=ji (by omega) (by omega)
   have hn:=jfg hx;have hle:=jaw y.shelf (k+1);rw [hn,List.length_append] at hle;generalize (y.shelf.take k).flatten=l at*;have h1':l.length+x.length≤maxLen:=by unfold maxLen;omega
   have h2':(l.length+x.length)*32≤140737488355328:=by omega
   rcases hg with rfl|rfl
   all_goals
    simp only [go_sem,h1,ho1,h4,h3,hob,jd,hlt,hlt',qO hx,h1',h2',hw,jod];intro η2;refine ⟨⟨k+1,1900,ty,η2,?_⟩,?_⟩
    ·and_intros<;>first|rfl|omega|exact .inr rfl|(rw [hn];rfl)
    ·rw [zB (k:=.i64) (n:=((k+1:Nat):Int)) (by simp only [go_sem]),zB h4];omega
  ·have hlt':¬(k:Int)<y.shelf.length:=by omega
   rw [List.take_of_length_le (by omega)] at hob
   rcases hg with rfl|rfl
   all_goals
    simp only [go_sem,h1,ho1,h4,h3,hob,jd,hlt']
theorem jda (y:Yd) (ht:kH y≤2000000):kg Try.prog 87 [.agg (jd y)] (.c (js y.shelf.flatten)):=by
 refine jr Try.func87 jbc (by simp) ?_
 unfold zt;have hl:=jkh ht;have hf:=vp ht;simp only [go_sem,jd];intro b;refine kJ (fun s=>∃k:Nat,k≤y.shelf.length∧s.t 7=.c (.ro (kO y.shelf))∧s.t 8=.c (.v (.int .i64 y.shelf.length))∧s.t 9=.c (.v (.int .i64 k))∧(((y.shelf.take k).flatten=[]∧s.t 3=.c (.v (.slice none 0 0)))∨∃η:jm,s.t 3=.c (.h 1500 0 [] (η []))∧s.o 1500=.loose (js (y.shelf.take k).flatten) η)) (fun s=>y.shelf.length-s.n 9) ?_ ?_
 ·exact ⟨0,Nat.zero_le _,by simp only [go_sem]<;>rfl,by simp only [go_sem]<;>rfl,by simp only [go_sem]<;>rfl,.inl ⟨rfl,by simp only [go_sem]⟩⟩
 ·rintro s ⟨k,hk,h7,h8,h9,hg⟩
  by_cases hlt:k<y.shelf.length
  ·have hlt':(k:Int)<y.shelf.length:=by omega
   obtain ⟨x,hx⟩:=jg hlt;have hw:IntKind.i64.wrap ((k:Int)+1)=((k+1:Nat):Int):=ji (by omega) (by omega)
   have hn:=jfg hx;have hle:=jaw y.shelf (k+1);rw [hn,List.length_append] at hle;generalize (y.shelf.take k).flatten=l at*;have h1':l.length+x.length≤maxLen:=by unfold maxLen;omega
   have h2':(l.length+x.length)*32≤140737488355328:=by omega
   rcases hg with ⟨hnil,h3⟩|⟨η,h3,hob⟩
   ·have h3':x.length≤maxLen:=by unfold maxLen;omega
    have h4':x.length*32≤140737488355328:=by omega
    rw [hnil,List.nil_append] at hn;simp only [go_sem,h7,h8,h9,h3,hlt,hlt',qO hx,hw,h3',h4',jjP];intro η2;refine ⟨⟨k+1,by omega,rfl,.inr ⟨η2,rfl,by rw [hn]⟩⟩,?_⟩
    rw [zB (k:=.i64) (n:=((k+1:Nat):Int)) (by simp only [go_sem]),zB h9];omega
   ·simp only [go_sem,h7,h8,h9,h3,hob,hlt,hlt',qO hx,hw,h1',h2',jod]
    intro η2;refine ⟨⟨k+1,by omega,rfl,.inr ⟨η2,rfl,by rw [hn]⟩⟩,?_⟩
    rw [zB (k:=.i64) (n:=((k+1:Nat):Int)) (by simp only [go_sem]),zB h9];omega
  ·have hlt':¬(k:Int)<y.shelf.length:=by omega
   have hk':y.shelf.take k=y.shelf:=List.take_of_length_le (by omega)
   rcases hg with ⟨hnil,h3⟩|⟨η,h3,hob⟩
   ·rw [hk'] at hnil
    simp only [go_sem,h7,h8,h9,h3,hlt',hnil]
   ·rw [hk'] at hob
    simp only [go_sem,h7,h8,h9,h3,hob,hlt']
end Go.Proofs.Ytmnpailnelmpiaa
