/- Parts. -/
import Derived.Test.YtmnpailnelmpiaaGreatQInP
import Derived.Test.YtmnpailnelmpiaaGreatQReadV
set_option linter.unusedSimpArgs false
set_option linter.unusedVariables false
set_option maxHeartbeats 4000000
set_option maxRecDepth 100000
namespace Go.Proofs.YtmnpailnelmpiaaGreat
open Go.RowKit Go.Sort
theorem jo6:∀L:List Int,(L.flatMap fun n=>[iv n]).length=L.length
 |[]=>rfl
 |a::L=>by rw [List.flatMap_cons,List.length_append,jo6 L];simp;omega
theorem jFC {s:St} (k c:Nat) (p:List Nat) (x:Value) (sz lo n:Nat):(∃dd,Is s (.hs k c p x sz lo n) dd)=jiu ((s.o k).own c) fun d0 η=>η p=x∧jn5 (D.get p d0) fun dd=>(dd.isSl=true∧dd.size=sz∧0<sz∧lo+n≤dd.len)∧True:=by
 have:=jFi (s:=s) k c p x sz lo n fun _=>True
 rw [←this];simp only [and_true]
def jay:C:=iS [iA 2 (iN 0)] (.seq (iS [iA 4 (iM 0),iA 5 (iF 0 4),iA 6 (iF 0 5),iA 7 (iL 6),iA 8 (iG 7),iA 9 (iQ .eql 3 8 0)] (iD 9 (iS [iA 10 (iM 0),iA 11 (iF 0 10),iA 12 (iF 1 11),iC (.st 1 [none] (.t 12) (.c (.bool true)))] (iS [iA 2 (iN 0)] .ret)) .skip)) (iS [iA 13 (iM 0),iA 14 (iF 0 13),iA 15 (iF 0 14),iA 16 (iL 15),iA 17 (.ia 1 (.t 16) (.c (.int .i64 0))),iA 18 (iL 17),iA 3 (iM 18)] (iS [iA 19 (iM 0),iA 20 (iM 0),iA 21 (iF 0 20),iA 22 (iF 0 21),iA 23 (iL 22),iA 24 (.sl 1 (.t 23) (some (.c (.int .i64 1))) none),iA 25 (iF 0 19),iA 26 (iF 0 25),iC (.st 1 [some (1,3)] (.t 26) (.t 24))] (iS [iA 27 (iM 3),iA 2 (iM 27)] .ret))))
theorem jci:fnC Tryz.prog Tryz.f169=some (jay,[.t 2],28):=by kernel_rfl
def qR (b ty:Nat) (η:jq) (L:List Int) (s:Nat×Bool):Ob:=.box b ty [.a (.hs 87 0 [] (η []) 1 s.1 (L.length-s.1)),.a (.v (.bool s.2))]
theorem kV (L:List Int) (s:Nat×Bool) (b:Nat) (η:jq) (o:Nat→Ob) (hs:s.1≤L.length) (ho:o 88=qR b 204 η L s) (hL:o 87=.loose (jh L) η):
 jGh Tryz.prog 169 [Bx 88 b] o (Ni (jai L s).1) (jF9 o 88 (qR b 204 η L (jai L s).2)):=by
 obtain ⟨k,bad⟩:=s;dsimp only at hs;refine jwP ?_;refine vn (β:=8000000) Tryz.func169 jci (by simp) ?_
 unfold jay;unfold qR at ho;by_cases hlt:k<L.length
 ·obtain ⟨x,hx⟩:=je hlt
  have he:(((L.length-k:Nat):Int)==0)=false:=by simp;omega
  have h1:1≤L.length-k:=by omega
  have hr:jai L (k,bad)=(x,(k+1,bad)):=by simp only [jai,hx]
  have hpos:0<L.length-k:=by omega
  have hkl:k+(L.length-k)≤L.length:=by omega
  have hk1:k+1≤L.length:=by omega
  have hat:=jn hx;have hfl:(L.flatMap fun n=>[iv n]).length=L.length:=jo6 L
  rw [Nat.mul_one] at hat;have hsub:L.length-k-1=L.length-(k+1):=by omega
  simp only [go_sem,ho,hL,he,h1,jFC,hpos,hkl,hk1,Nat.add_zero,hat,Nat.mul_one,hfl,Nat.le_refl,hsub,ju0,jrz];rw [hr];refine ⟨rfl,jdb (by simp only [go_sem,qR]) fun g g2=>?_⟩
  simp only [go_sem,eq_false g2,if_false]
 ·have hk:L.length-k=0:=by omega
  have he:(((0:Nat):Int)==0)=true:=rfl;have hr:jai L (k,bad)=(0,(k,true)):=by simp only [jai,List.getElem?_eq_none (by omega:L.length≤k)]
  have hkl:k+0≤L.length:=by omega
  rw [hk] at ho;simp only [go_sem,ho,hL,he,jFC,hkl];rw [hr];refine ⟨rfl,jdb (by simp only [go_sem,qR,hk]) fun g g2=>?_⟩
  simp only [go_sem,eq_false g2,if_false]
def jgJ:C:=iS [iA 2 (iN 0)] (.seq (iS [iA 5 (iM 0),iA 6 (iF 0 5),iA 7 (iF 2 6),iA 8 (iL 7)] (iD 8 (iS [iA 2 (iN 0)] .ret) .skip)) (.seq (.dreg (T.pure 0 (iA 10 (iM 0)) (T.pure 1 (iA 11 (iF 0 10)) (T.pure 2 (iA 12 (iF 0 11)) (T.pure 3 (iA 13 (iL 12)) (T.pure 4 (iA 14 (iM 0)) (T.pure 5 (iA 15 (iF 0 14)) (T.pure 6 (iA 16 (iF 1 15)) (T.pure 7 (iA 17 (iL 16)) (T.alt (iA 18 (.call 248 [.t 13,.t 17])) [] (T.pure 9 (iA 9 (iM 18)) (T.pure 10 (iA 19 (iE 9 0)) (T.pure 11 (iA 20 (iE 9 1)) (T.pure 12 (iA 3 (iM 19)) (T.pure 13 (iA 4 (iM 20)) T.done))))) T.stop)))))))))) (.seq (iS [iA 21 (iM 4),iA 22 (iQ .lss 3 21 0)] (iD 22 (iS [iA 23 (iM 0),iA 24 (iF 0 23),iA 25 (iF 2 24),iC (.st 1 [none] (.t 25) (.c (.bool true)))] (iS [iA 2 (iN 0)] .ret)) .skip)) (iS [iA 26 (iM 0),iA 27 (iM 4),iA 28 (iF 0 26),iA 29 (iF 1 28),iC (.st 1 [none] (.t 29) (.t 27))] (iS [iA 30 (iM 3),iA 2 (iM 30)] .ret)))))
theorem ji1:fnC Tryz.prog Tryz.f165=some (jgJ,[.t 2],31):=by kernel_rfl
def kC (b ty:Nat) (t:ByteArray) (s:Int×Bool):Ob:=.box b ty [.a (.v (.string t)),.a (.v (.int .i64 s.1)),.a (.v (.bool s.2))]
theorem qK (t:ByteArray) (ht:t.size≤1000000000) (s:Int×Bool) (b:Nat) (o:Nat→Ob) (hs:s.1≤1000000000) (ho:o 89=kC b 196 t s):
 jGh Tryz.prog 165 [Bx 89 b] o (Ni (vC t s).1) (jF9 o 89 (kC b 196 t (vC t s).2)):=by
 obtain ⟨k,bad⟩:=s;dsimp only at hs;refine jwP ?_;refine vn (β:=8000000) Tryz.func165 ji1 (by simp) ?_
 unfold jgJ;unfold kC at ho;dsimp only at ho;cases bad;rotate_left
 ·have hr:vC t (k,true)=(0,(k,true)):=by simp only [vC,if_true]
  simp only [go_sem,ho];rw [hr];refine ⟨rfl,jdb (by simp only [go_sem,kC,ho]) fun g g2=>?_⟩
  simp only [go_sem,eq_false g2,if_false]
 ·simp only [go_sem,ho]
  refine jc (joL t k ht hs) (by simp only [go_sem,ho]) fun η=>?_
  simp only [go_sem,ho];by_cases hneg:(vAt t k).2<0
  ·have hr:vC t (k,false)=(0,(k,true)):=by simp only [vC,Bool.false_eq_true,if_false,if_pos hneg]
   simp only [go_sem,hneg,ho];rw [hr];refine ⟨rfl,jdb (by simp only [go_sem,kC]) fun g g2=>?_⟩
   simp only [go_sem,eq_false g2,if_false]
  ·have hr:vC t (k,false)=((vAt t k).1,((vAt t k).2,false)):=by simp only [vC,Bool.false_eq_true,if_false,if_neg hneg]
   simp only [go_sem,hneg,ho];rw [hr];refine ⟨rfl,jdb (by simp only [go_sem,kC]) fun g g2=>?_⟩
   simp only [go_sem,eq_false g2,if_false]
end Go.Proofs.YtmnpailnelmpiaaGreat
