/- Parts. -/
import Derived.Test.YtekegiiikglhbaaGreatQYardB
import Derived.Shelf.Spec.SlicesInsertGrow
import Derived.Lib.Overlaps
set_option linter.all false
set_option maxHeartbeats 4000000
set_option maxRecDepth 100000
namespace Go.Proofs.YtekegiiikglhbaaGreat
open Go.RowKit Go.Sort
section
variable {P:Program} {B:Nat} {w w0:World} {F:Nat->List Nat} {o:Nat->Ob}
variable {s:St} {K:St->Prop} {β:Nat} {gd:Option (Nat×Bool)} {d:Option Nat}
theorem jrQ (g c b:Nat) (ds:List D):Ptr s (.bp g c b) ds=obK (s.o g) b λ_ cs=>Ptr.go s g b ((cs.drop c).take ds.length) c ds:=by
 rw [<-jr2]
 apply propext
 simp only [Ptr];constructor
 ·rintro ⟨ty,cs,V,_,rfl,h3⟩;exact ⟨ty,cs,V,h3⟩
 ·rintro ⟨ty,cs,V,h3⟩;exact ⟨ty,cs,V,_,rfl,h3⟩
theorem go_nil_ (g b c:Nat):Ptr.go s g b [] c []=True:=by simp [Ptr.go]
theorem go_a_ (g b c:Nat) (x:A0) (l:List Cell) (e:D) (ds:List D):Ptr.go s g b (.a x::l) c (e::ds)=(IsP x e/\Ptr.go s g b l (c+1) ds):=(rfl)
theorem isP_v (x:Value):IsP (.v x) (.val x)=True:=eq_true (.inl rfl)
theorem jjN (g c i:Nat) (p:List Nat) (η:jl) (e:D) (l:List D):jcq g c p η i (e::l)=e.toOwn g c (p++[i]) η::jcq g c p η (i+1) l:=(rfl)
def mkfK (s:St) (K:St->Prop) (d:Option Nat) (f:Nat):AV->Prop
 |.c a=>K (s.put d (.fn f [a]))
 |_=>False
theorem jr5 (f:Nat) (a:A0):mkfK s K d f (.c a)=K (s.put d (.fn f [a])):=(rfl)
theorem jo9 (f:Nat) (x:X):kK P β ⟨d,gd,.mkf f [x]⟩ s K=mkfK s K d f (s.ev x):=by
 cases hx:s.ev x with
 |c a=>
  refine joK (os:=[]) (av:=.fn f [a]) rfl λrt st av' os'=>?_
  simp [Gen,vY,hx]
 |_=>
  apply propext
  refine ⟨λh=>?_,λh=>h.elim⟩
  have h':∃rt,∀st,∃av os,Gen P s (β+d.getD 0) rt st (.mkf f [x]) av os/\K ((s.addO os).put d av):=h;obtain ⟨rt,V⟩:=h';obtain ⟨av,os,⟨l,Y,_⟩,_⟩:=V ⟨0,λ_ _=>undef⟩
  simp [vY,hx] at Y
end
attribute [go_sem] jo9 jr5 jjN jrQ go_nil_ go_a_ isP_v
def jb7:C:=iS [iA 1 (.box 39 1 (.t 0)),aO 2 false] (.seq (iS [aF 5 0 1,aL 6 5,aG 7 6,aQ 8 .gtr 3 7 4] (iD 8 (iS [aO 2 false] .ret) .skip)) (.seq (iS [aF 9 0 1,aL 10 9,aG 11 10,aN 12 0] (.blk 0 (.loop (iS [aP 13 .lss 3 12 11] (.seq (iD 13 .skip (.exit 0)) (.seq (.blk 1 (iS [aM 14 12,aI 15 3 10 12,aT 16 3 15,iA 4 (.alloc 80 [.string ⟨⟨[]⟩⟩,.string ⟨⟨[]⟩⟩,.int .i64 0]),aM 3 14,wAG 4 16] (iS [aF 17 0 4,aL 18 17,iA 19 (iK 87 [18]),aU 20 19,aM 21 20,iB 22 21 false (iT 1 1),iB 23 21 false (iF 0 4),iB 24 21 false (iL 23),iB 25 21 false (iK 52 [22,24]),iB 26 21 false (iM 3),iB 27 21 false (iP .neq 3 25 26),iA 28 (iY 21 (oT) (.t 27)),aM 29 28,iB 30 29 false (iF 1 4),iB 31 29 false (iL 30),iB 32 29 false (.len true (.t 31)),iB 33 29 false (iQ .gtr 3 32 60000),iA 34 (iY 29 (oT) (.t 33)),aM 35 34,iB 36 35 false (iF 2 4),iB 37 35 false (iL 36),iB 38 35 false (iF 1 4),iB 39 35 false (iL 38),iB 40 35 false (.len true (.t 39)),iB 41 35 false (.call 51 [.t 37,oI 0,.t 40]),iB 42 35 false (iU 41),iA 43 (iY 35 (oT) (.t 42))] (iD 43 (iS [aO 2 false] .ret) .skip)))) (.reg [aQ 44 .add 3 12 1,aM 12 44]))))))) (iS [aO 2 true] .ret)))
theorem jdy:fnC Tryz.prog Tryz.f50=some (jb7,[.t 2],45):=by kernel_rfl
def jbP:C:=iS [iA 1 (.box 39 1 (.t 0)),aO 2 false] (.seq (iS [aF 5 0 1,aL 6 5,aG 7 6,aQ 8 .gtr 3 7 4] (iD 8 (iS [aO 2 false] .ret) .skip)) (.seq (iS [aN 3 0] (.blk 0 (.loop (.seq (iS [aM 9 3,aF 10 0 1,aL 11 10,aG 12 11,aP 13 .lss 3 9 12] (iD 13 .skip (.exit 0))) (.seq (.blk 1 (iS [aF 16 0 1,aL 17 16,aM 18 3,aI 19 3 17 18,aT 20 3 19,iA 4 (.alloc 80 [.string ⟨⟨[]⟩⟩,.string ⟨⟨[]⟩⟩,.int .i64 0]),wAG 4 20] (iS [aF 21 0 4,aL 22 21,iA 23 (iK 73 [22]),aU 24 23,aM 25 24,iB 26 25 false (iF 1 4),iB 27 25 false (iL 26),iB 28 25 false (.len true (.t 27)),iB 29 25 false (iQ .gtr 3 28 60000),iA 30 (iY 25 (oT) (.t 29)),aM 31 30,iB 32 31 false (iF 2 4),iB 33 31 false (iL 32),iB 34 31 false (iF 1 4),iB 35 31 false (iL 34),iB 36 31 false (.len true (.t 35)),iB 37 31 false (.call 41 [.t 33,oI 0,.t 36]),iB 38 31 false (iU 37),iA 39 (iY 31 (oT) (.t 38)),aM 40 39,iB 41 40 false (iT 1 1),iB 42 40 false (iF 0 4),iB 43 40 false (iL 42),iB 44 40 false (iK 42 [41,43]),iB 45 40 false (iM 3),iB 46 40 false (iP .neq 3 44 45),iA 47 (iY 40 (oT) (.t 46))] (iD 47 (iS [aO 2 false] .ret) .skip)))) (.reg [aM 14 3,aQ 15 .add 3 14 1,aM 3 15])))))) (iS [aO 2 true] .ret)))
theorem jdg:fnC Tryz.prog Tryz.f40=some (jbP,[.t 2],48):=by kernel_rfl
def jb3:C:=iS [aO 2 false] (iS [aM 3 0,iA 4 (.len true (.t 3)),iA 5 (.call 51 [.t 4,oI 1,oI 10]),aM 2 5] .ret)
theorem jdu:fnC Tryz.prog Tryz.f87=some (jb3,[.t 2],6):=by kernel_rfl
def jay:C:=iS [aO 2 false] (iS [aM 3 0,iA 4 (.len true (.t 3)),aQ 5 .geq 3 4 1,aM 6 5,iB 7 6 true (iM 0),iB 8 6 true (.len true (.t 7)),iB 9 6 true (iQ .leq 3 8 10),iA 10 (iY 6 (.t 9) (oF)),aM 2 10] .ret)
theorem jcz:fnC Tryz.prog Tryz.f73=some (jay,[.t 2],11):=by kernel_rfl
def jb4:C:=iS [iA 2 (.box 39 1 (.t 0)),iA 3 (.box 9 1 (.t 1)),aN 4 0] (iS [aF 5 0 2,aL 6 5,iA 7 (.mkf 89 [.t 3]),iA 8 (iK 88 [6,7]),aM 4 8] .ret)
theorem jdv:fnC Tryz.prog Tryz.f52=some (jb4,[.t 4],9):=by kernel_rfl
def zM:C:=iS [iA 2 (.box 80 3 (.t 0)),aO 3 false] (iS [aF 4 0 2,aL 5 4,aL 6 1,aP 7 .eql 9 5 6,aM 3 7] .ret)
theorem jbF:fnC Tryz.prog Tryz.f89=some (zM,[.t 3],8):=by kernel_rfl
def jcX:C:=iS [iA 2 (.box 39 1 (.t 0)),aN 4 0] (.seq (iS [aN 5 0] (.blk 0 (.loop (.seq (iS [aM 6 5,aF 7 0 2,aL 8 7,aG 9 8,aP 10 .lss 3 6 9] (iD 10 .skip (.exit 0))) (.seq (.blk 1 (iS [aF 13 0 2,aL 14 13,aM 15 5,aI 16 3 14 15,aF 17 0 16,aL 18 17,aM 19 1,aP 20 .eql 9 18 19] (iD 20 (iS [aM 21 5,aM 4 21] .ret) .skip))) (.reg [aM 11 5,aQ 12 .add 3 11 1,aM 5 12])))))) (iS [aN 4 (-1)] .ret))
theorem jev:fnC Tryz.prog Tryz.f42=some (jcX,[.t 4],22):=by kernel_rfl
def jU:C:=iS [aN 4 0] (.seq (iS [aM 6 0,aG 7 6,aN 8 0] (.blk 0 (.loop (iS [aP 9 .lss 3 8 7] (.seq (iD 9 .skip (.exit 0)) (.seq (.blk 1 (iS [aM 10 8,aM 5 10] (iS [aM 11 1,aM 12 0,aM 13 5,aI 14 3 12 13,aT 15 3 14,iA 16 (.callv (.t 11) [.t 15])] (iD 16 (iS [aM 17 5,aM 4 17] .ret) .skip)))) (.reg [aQ 18 .add 3 8 1,aM 8 18]))))))) (iS [aN 4 (-1)] .ret))
theorem ku:fnC Tryz.prog Tryz.f88=some (jU,[.t 4],19):=by kernel_rfl
def jqK {α:Type} (p:Nat->α->Bool) (l:List α):Bool:=(List.range l.length).all λk=>match l[k]? with|some x=>p k x|none=>true
theorem jgb {α:Type} {p:Nat->α->Bool} {l:List α} {k:Nat} {x:α} (h:l[k]?=some x) (hp:p k x=false):jqK p l=false:=by
 rw [jqK,List.all_eq_false];exact ⟨k,List.mem_range.2 (aAR.1 h).1,by simp [h,hp]⟩
theorem jdP {α:Type} {p:Nat->α->Bool} {l:List α} (h:∀k x,k<l.length->l[k]?=some x->p k x=true):jqK p l=true:=by
 rw [jqK,List.all_eq_true];intro k hk;have eX:=List.mem_range.1 hk;rw [aAT eX];exact h k _ eX (aAT eX)
theorem vL {α:Type} {p:Nat->α->Bool} {l:List α} {n:Nat} {x:α} (h:∀k y,k<n->l[k]?=some y->p k y=true) (hx:l[n]?=some x) (hp:p n x=true):∀k y,k<n+1->l[k]?=some y->p k y=true:=by
 intro k y hk hy;by_cases xN:k=n
 ·subst xN;rw [hx] at hy;cases hy;exact hp
 ·exact h k y (by omega) hy
def jcn (s:ByteArray):Bool:=decide (1<=(s.size:Int)/\(s.size:Int)<=10)
def atF (l:List Fl) (s:ByteArray):Int:=jaR (λf=>decide (f.name=s)) l
def qz (l:List Fl) (k:Nat) (f:Fl):Bool:=jcn f.name&&(atF l f.name==(k:Int))&&!decide ((f.data.size:Int)>60000)&&decide (0<=f.safe/\f.safe<=(f.data.size:Int))
def vD (l:List Fl):Bool:=!decide ((l.length:Int)>4)&&jqK (qz l) l
theorem jfI (s:ByteArray):jR Tryz.prog 87 [.c (.val (.string s))] (.c (.val (.bool (jcn s)))):=by
 refine pf_ jdu ?_;unfold jb3;simp only [go_sem];refine jg (jq s.size 1 10) (by simp only [go_sem,jcn]) λη=>?_
 simp only [go_sem,jcn]
theorem jeU (s:ByteArray):jR Tryz.prog 73 [.c (.val (.string s))] (.c (.val (.bool (jcn s)))):=by
 refine pf_ jcz ?_;unfold jay;by_cases V:(1:Int)<=s.size
 ·have dD:(s.size:Int)>=1:=V
  by_cases Y:(s.size:Int)<=10
  ·have Z:jcn s=true:=by simp only [jcn];exact decide_eq_true ⟨V,Y⟩
   simp only [go_sem,dD,Y,Z]
  ·have Z:jcn s=false:=by simp only [jcn];exact decide_eq_false (λh=>Y h.2)
   simp only [go_sem,dD,Y,Z]
 ·have dD:¬(s.size:Int)>=1:=V
  have Z:jcn s=false:=by simp only [jcn];exact decide_eq_false (λh=>V h.1)
  simp only [go_sem,dD,Z]
theorem jlA (s:ByteArray) (x:Fl):jR Tryz.prog 89 [.agg (jv x),.ptr [sv s]] (.c (.val (.bool (decide (x.name=s))))):=by
 refine pf_ jbF ?_;unfold zM;simp only [go_sem,jv,qV]
theorem jfM (l:List Fl) (f:Nat) (cd:List D) (p:Fl->Bool) (hf:∀x,jR Tryz.prog f [.agg (jv x),.ptr cd] (.c (.val (.bool (p x))))) (hl:l.length<=4000000):jR Tryz.prog 88 [.c (jm l),.fn f [cd]] (.c (.val (.int .i64 (jaR p l)))):=by
 refine pf_ ku ?_;unfold jU;simp only [go_sem];refine vn (λi:Nat=>St.of [(0,Ro (jm l)),(1,.fn f [.rp cd]),(7,Ni l.length),(8,Ni i)] []) (λi=>i<=l.length/\∀y∈l.take i,p y=false) (λi=>l.length-i) 0 (qJ [] (by simp only [go_sem]<;>trivial)) ?_
 rintro k ⟨hk,bF⟩;by_cases aC:k<l.length
 ·have aA:(k:Int)<l.length:=by omega
  have a9:=jaQ k;obtain ⟨x,hx⟩:=jd aC;have hw:=qg k;simp only [go_sem,aC,aA,a9,jj hx,jv];refine jk8 (by simp only [go_sem];rfl) (hf x) (by simp only [go_sem,jv]) λη=>?_
  cases hp:p x
  ·simp only [go_sem,hp,hw]
   exact ⟨k+1,⟨aC,jfu hx hp bF⟩,(qJ [] (by simp only [go_sem]<;>trivial)),by (try dsimp only);omega⟩
  ·simp only [go_sem,hp,vC hx hp bF]
 ·have aA:¬(k:Int)<l.length:=by omega
  rw [aAW (by omega)] at bF
  simp only [go_sem,aA,qS bF]
theorem jbd (l:List Fl) (s:ByteArray) (hl:l.length<=4000000):jR Tryz.prog 52 [.agg [jm l],.c (.val (.string s))] (.c (.val (.int .i64 (atF l s)))):=by
 refine pf_ jdv ?_;unfold jb4;simp only [go_sem];intros;refine jg (jfM l _ [sv s] (λf=>decide (f.name=s)) (jlA s) hl) (by simp only [go_sem,sv]) λη=>?_
 simp only [go_sem,atF]
theorem jcS (l:List Fl) (s:ByteArray) (hl:l.length<=4000000):jR Tryz.prog 42 [.agg [jm l],.c (.val (.string s))] (.c (.val (.int .i64 (atF l s)))):=by
 refine pf_ jev ?_;unfold jcX;simp only [go_sem];intro b2;refine vn (λi:Nat=>St.of [(1,.c (.v (.string s))),(2,Bx 200 b2),(5,Ni i)] [(200,Bi b2 _ [jm l])]) (λi=>i<=l.length/\∀y∈l.take i,decide (y.name=s)=false) (λi=>l.length-i) 0 (jJ [200]) ?_
 rintro k ⟨hk,bF⟩;by_cases aC:k<l.length
 ·have aA:(k:Int)<l.length:=by omega
  have a9:=jaQ k;obtain ⟨x,hx⟩:=jd aC;have hw:=qg k;cases hp:decide (x.name=s)
  ·simp only [go_sem,aC,aA,a9,jj hx,jv,qV,hp,hw]
   exact ⟨k+1,⟨aC,jfu hx hp bF⟩,(jJ [200]),by (try dsimp only);omega⟩
  ·have ha:atF l s=(k:Int):=vC hx hp bF
   simp only [go_sem,aC,aA,a9,jj hx,jv,qV,hp,ha]
 ·have aA:¬(k:Int)<l.length:=by omega
  rw [aAW (by omega)] at bF
  have ha:atF l s=-1:=qS bF;simp only [go_sem,aA,ha]
theorem jbf (l:List Fl) (hl:l.length<=4000000):jR Tryz.prog 50 [.agg [jm l]] (.c (.val (.bool (vD l)))):=by
 refine pf_ jdy ?_;unfold jb7;simp only [go_sem];intro b1;by_cases h4:(l.length:Int)>4
 ·have hd:vD l=false:=by simp [vD,h4]
  simp only [go_sem,h4,hd]
 simp only [go_sem,h4];refine kp (λi:Nat=>St.of [(1,Bx 100 b1),(10,Ro (jm l)),(11,Ni l.length),(12,Ni i)] [(100,Bi b1 _ [jm l])]) (λi=>i<=l.length/\∀k y,k<i->l[k]?=some y->qz l k y=true) (λi=>l.length-i) 0 (⟨aBR _,λk y h=>absurd h (Nat.not_lt_zero _)⟩) (jJ [100]) ?_
 rintro k ⟨hk,bF⟩;by_cases aC:k<l.length
 ·have aA:(k:Int)<l.length:=by omega
  have a9:=jaQ k;obtain ⟨x,hx⟩:=jd aC;have hw:=qg k;have bQ:qz l k x=false->vD l=false:=λh=>by simp [vD,jgb hx h]
  simp only [go_sem,aC,aA,a9,jj hx,jv,aAQ,Bool.not_true,Bool.not_false];intro b4;refine jg (jfI x.name) (by simp only [go_sem,aC,aA,a9,jj hx,jv,aAQ,Bool.not_true,Bool.not_false]) λv5=>?_
  simp only [go_sem,aC,aA,a9,jj hx,jv,aAQ,Bool.not_true,Bool.not_false];cases V:jcn x.name
  ·have hd:=bQ (by simp [qz,V])
   simp only [go_sem,aC,aA,a9,jj hx,jv,aAQ,Bool.not_true,Bool.not_false,V,hd]
  simp only [go_sem,aC,aA,a9,jj hx,jv,aAQ,Bool.not_true,Bool.not_false,V];refine jg (jbd l x.name hl) (by simp only [go_sem,aC,aA,a9,jj hx,jv,aAQ,Bool.not_true,Bool.not_false,V]) λdR=>?_
  simp only [go_sem,aC,aA,a9,jj hx,jv,aAQ,Bool.not_true,Bool.not_false,V];cases Y:atF l x.name==(k:Int)
  ·have hd:=bQ (by simp [qz,Y])
   simp only [go_sem,aC,aA,a9,jj hx,jv,aAQ,Bool.not_true,Bool.not_false,V,bne,Y,hd]
  by_cases h3:(x.data.size:Int)>60000
  ·have hd:=bQ (by simp [qz,h3])
   simp only [go_sem,aC,aA,a9,jj hx,jv,aAQ,Bool.not_true,Bool.not_false,V,bne,Y,h3,hd]
  simp only [go_sem,aC,aA,a9,jj hx,jv,aAQ,Bool.not_true,Bool.not_false,V,bne,Y,h3];refine jg (jq x.safe 0 x.data.size) (by simp only [go_sem,aC,aA,a9,jj hx,jv,aAQ,Bool.not_true,Bool.not_false,V,bne,Y,h3]) λpN=>?_
  simp only [go_sem,aC,aA,a9,jj hx,jv,aAQ,Bool.not_true,Bool.not_false,V,bne,Y,h3];cases h5:decide (0<=x.safe/\x.safe<=(x.data.size:Int))
  ·have hd:=bQ (by simp [qz,h5])
   simp only [go_sem,aC,aA,a9,jj hx,jv,aAQ,Bool.not_true,Bool.not_false,h5,hd]
  have hf:qz l k x=true:=by simp only [qz,V,Y,h3,h5,decide_false,Bool.not_false,Bool.true_and,Bool.and_true]
  simp only [go_sem,aC,aA,a9,jj hx,jv,aAQ,Bool.not_true,Bool.not_false,h5,hw];exact ⟨k+1,⟨aC,vL bF hx hf⟩,(jJ [100]),by (try dsimp only);omega⟩
 ·have aA:¬(k:Int)<l.length:=by omega
  have hd:vD l=true:=by
   rw [vD,jdP (λj y hj hy=>bF j y (by omega) hy)];simp only [h4,decide_false,Bool.not_false,Bool.true_and]
  simp only [go_sem,aA,hd]
theorem jbc (l:List Fl) (hl:l.length<=4000000):jR Tryz.prog 40 [.agg [jm l]] (.c (.val (.bool (vD l)))):=by
 refine pf_ jdg ?_;unfold jbP;simp only [go_sem];intro b1;by_cases h4:(l.length:Int)>4
 ·have hd:vD l=false:=by simp [vD,h4]
  simp only [go_sem,h4,hd]
 simp only [go_sem,h4];refine kp (λi:Nat=>St.of [(1,Bx 100 b1),(3,Ni i)] [(100,Bi b1 _ [jm l])]) (λi=>i<=l.length/\∀k y,k<i->l[k]?=some y->qz l k y=true) (λi=>l.length-i) 0 (⟨aBR _,λk y h=>absurd h (Nat.not_lt_zero _)⟩) (jJ [100]) ?_
 rintro k ⟨hk,bF⟩;by_cases aC:k<l.length
 ·have aA:(k:Int)<l.length:=by omega
  have a9:=jaQ k;obtain ⟨x,hx⟩:=jd aC;have hw:=qg k;have bQ:qz l k x=false->vD l=false:=λh=>by simp [vD,jgb hx h]
  simp only [go_sem,aC,aA,a9,jj hx,jv,aAQ,Bool.not_true,Bool.not_false];intro b4;refine jg (jeU x.name) (by simp only [go_sem,aC,aA,a9,jj hx,jv,aAQ,Bool.not_true,Bool.not_false]) λv5=>?_
  simp only [go_sem,aC,aA,a9,jj hx,jv,aAQ,Bool.not_true,Bool.not_false];cases V:jcn x.name
  ·have hd:=bQ (by simp [qz,V])
   simp only [go_sem,aC,aA,a9,jj hx,jv,aAQ,Bool.not_true,Bool.not_false,V,hd]
  simp only [go_sem,aC,aA,a9,jj hx,jv,aAQ,Bool.not_true,Bool.not_false,V];by_cases h3:(x.data.size:Int)>60000
  ·have hd:=bQ (by simp [qz,h3])
   simp only [go_sem,aC,aA,a9,jj hx,jv,aAQ,Bool.not_true,Bool.not_false,V,h3,hd]
  simp only [go_sem,aC,aA,a9,jj hx,jv,aAQ,Bool.not_true,Bool.not_false,V,h3];refine jg (jt x.safe 0 x.data.size) (by simp only [go_sem,aC,aA,a9,jj hx,jv,aAQ,Bool.not_true,Bool.not_false,V,h3]) λpN=>?_
  simp only [go_sem,aC,aA,a9,jj hx,jv,aAQ,Bool.not_true,Bool.not_false,V,h3];cases h5:decide (0<=x.safe/\x.safe<=(x.data.size:Int))
  ·have hd:=bQ (by simp [qz,h5])
   simp only [go_sem,aC,aA,a9,jj hx,jv,aAQ,Bool.not_true,Bool.not_false,h5,hd]
  simp only [go_sem,aC,aA,a9,jj hx,jv,aAQ,Bool.not_true,Bool.not_false,h5];refine jg (jcS l x.name hl) (by simp only [go_sem,aC,aA,a9,jj hx,jv,aAQ,Bool.not_true,Bool.not_false,V]) λdR=>?_
  simp only [go_sem,aC,aA,a9,jj hx,jv,aAQ,Bool.not_true,Bool.not_false,V];cases Y:atF l x.name==(k:Int)
  ·have hd:=bQ (by simp [qz,Y])
   simp only [go_sem,aC,aA,a9,jj hx,jv,aAQ,Bool.not_true,Bool.not_false,V,bne,Y,hd]
  have hf:qz l k x=true:=by simp only [qz,V,Y,h3,h5,decide_false,Bool.not_false,Bool.true_and,Bool.and_true]
  simp only [go_sem,aC,aA,a9,jj hx,jv,aAQ,Bool.not_true,Bool.not_false,bne,Y,hw];exact ⟨k+1,⟨aC,vL bF hx hf⟩,(jJ [100]),by (try dsimp only);omega⟩
 ·have aA:¬(k:Int)<l.length:=by omega
  have hd:vD l=true:=by
   rw [vD,jdP (λj y hj hy=>bF j y (by omega) hy)];simp only [h4,decide_false,Bool.not_false,Bool.true_and]
  simp only [go_sem,aA,hd]
section
variable {P:Program} {s:St}
def jnn (s:St) (ds:List D) (d:D) (l:List A0):AV->Prop
 |.c a=>l.length=ds.length/\jY s (l++[a]) λcs _=>IsD cs (ds++[d])
 |_=>False
def jps (s:St) (k:Nat) (ds:List D) (d:D) (b:AV):AV->Prop
 |.c (.bp g c bb)=>ldB (s.o g) g c bb k λl=>jnn s ds d l b
 |_=>False
theorem jaf (n k m:Nat) (ds:List D) (d:D) (h:jps s k ds d (s.t m) (s.t n)):joQ [.cell n true k,.t m] (.tup [(true,ds),(false,[d])]) s:=by
 unfold jps at h;split at h
 ·rename_i g c bb he
  simp only [ldB] at h;split at h
  ·rename_i b ty cs ho
   obtain ⟨e1,e2,h⟩:=h;unfold jnn at h;split at h
   ·rename_i a ha
    obtain ⟨V,Y⟩:=h;simp only [joQ,jlk,ha,he];refine ⟨_,⟨ty,cs,by rw [ho,e1],e2,rfl⟩,.inl trivial,?_⟩
    refine ⟨⟨by simp,by simp [V]⟩,?_⟩
    simpa [RT.flat] using Y
   ·exact h.elim
  ·exact h.elim
 ·exact h.elim
theorem jrA (ds:List D) (d:D) (l:List A0) (a:A0):jnn s ds d l (.c a)=(l.length=ds.length/\jY s (l++[a]) λcs _=>IsD cs (ds++[d])):=(rfl)
theorem jrz (k g c bb:Nat) (ds:List D) (d:D) (b:AV):jps s k ds d b (.c (.bp g c bb))=ldB (s.o g) g c bb k λl=>jnn s ds d l b:=(rfl)
end
attribute [go_sem] jrA jrz
open Go.RowKit Go.Sort Go.Lib
open Go.RowKit Go.Sort Go.BigFrame
section
variable {P:Program} {β:Nat} {s:St} {K:St->Prop} {Q:Ex->St->Prop}
theorem jdS {a:C} (h:WkK s (wpC P β a Q)):wpC P β (.gh a) Q s:=h
theorem WkK.of {K:St->Prop} (h:K s):WkK s K:=λ_ _ _ _ _ F hr=>⟨s,F,hr,h⟩
theorem WkK.wk {s':St} (h:Wk s s') (hk:WkK s' K):WkK s K:=λB N w0 w a F hr=>let ⟨F',V,_⟩:=h B N w0 w a F hr;hk B N w0 w a F' V
theorem jkN {u:Value} (h:∃A n c,u=.slice A n c):u.oneCell'=true:=by obtain ⟨_,_,_,rfl⟩:=h;rfl
theorem jlU {w:World} {own:Bool} {d:D} {u:Value} {S:List Nat} (hd:d.isSl=true) (h:Rep w own d u S):∃A n c,u=.slice A n c:=by
 cases d with
 |val _=>cases hd
 |sl _ _ _=>exact qL h
theorem qT (g c g2:Nat) {d:D} {η:jl} (ho:(s.o g).own c=some (d,η)) (Y:s.o g2=.none) (a7:g2≠g) (hk:(η []).oneCell'=true->WkK ((s.rm g c).setO g2 (.loose d η)) K):WkK s K:=by
 intro B N w0 w a F h;obtain ⟨u,S,F',j1,j2,j3,j4,j5,j6,j7,j8⟩:=h.rm ho;have e:η []=u:=by rw [j3,qZ j1]
 exact hk (e▸jkN (jlU j1 j2)) _ _ _ _ _ _ (j5.setO (g:=g2) (ob:=.loose d η) (S:=S) ⟨j1,u,j2,j3⟩ j4 (λg' _ b Z=>j6 g' b Z))
theorem jf7 {B:Nat} {w:World} {d:D} {η:jl} {u:Value} {S2:List Nat} (hd:d.isSl=true) (hr:Rep w true d u S2) (hh:∀p,η p=hdr w p d u):∀{c:Nat} {l:List Cell} {us:List Value} {S:List Nat},CRel B w l us S->l[c]?=some (.a (.v u))->
 ∃S',CRel B w (l.set c (.own d η)) us S'/\S'.Perm (S++S2)
 |_,[],_,_,_,h=>by simp at h
 |0,.a x::l,_,S,⟨v,us',rfl,V,Y⟩,h=>by
  simp at h;subst h;have:v=u:=V;subst this;exact ⟨S2++S,⟨v,us',S2,S,rfl,rfl,hd,hr,hh,Y⟩,aCC⟩
 |0,.own e ε::l,_,_,_,h=>by simp at h
 |c+1,.a x::l,_,S,⟨v,us',rfl,V,Y⟩,h=>by
  simp at h;obtain ⟨S',a1,a2⟩:=jf7 hd hr hh Y h;exact ⟨S',⟨v,us',rfl,V,a1⟩,a2⟩
 |c+1,.own e ε::l,_,_,⟨v,us',T1,T2,rfl,rfl,V,Y,h3,h4⟩,h=>by
  simp at h;obtain ⟨S',a1,a2⟩:=jf7 hd hr hh h4 h;exact ⟨T1++S',⟨v,us',T1,S',rfl,rfl,V,Y,h3,a1⟩,by rw [aAZ];exact aCT _ a2⟩
theorem vq (g c g2:Nat) {b ty:Nat} {cs:List Cell} {d:D} {η:jl} (Z:s.o g=.box b ty cs) (hc:cs[c]?=some (.a (.v (η [])))) (Y:s.o g2=.loose d η) (hk:WkK ((s.setO g2 .none).setO g (.box b ty (cs.set c (.own d η)))) K):WkK s K:=by
 intro B N w0 w a F h;have a7:g2≠g:=λe=>by rw [e,Z] at Y;cases Y
 have h3:=h.ob g2;rw [Y] at h3;obtain ⟨k1,u,k2,k3⟩:=h3;have e:η []=u:=by rw [k3,qZ k1]
 rw [e] at hc;have h4:=h.ob g;rw [Z] at h4;obtain ⟨us,S1,q1,q2,q3⟩:=h4;obtain ⟨S',q4,q5⟩:=jf7 k1 k2 k3 q2 hc;have t1:=h.setO (g:=g2) (ob:=.none) (S:=[]) rfl (Fresh.nil _) (by simp)
 have hp:(b::S').Perm (F g++F g2):=by rw [q3];exact q5.cons b
 have aY:(F g++F g2).Nodup:=aAU.2 ⟨(h.fr g).1,(h.fr g2).1,λx hx y hy e=>h.dj g g2 (λe=>a7 e.symm) x hx (e▸hy)⟩
 refine hk _ _ _ _ _ _ (t1.setO (g:=g) (ob:=.box b ty (cs.set c (.own d η))) (S:=b::S') ⟨us,S',q1,q4,rfl⟩ ⟨hp.nodup_iff.2 aY,λx hx=>?_⟩ (λg' cR x hx=>?_))
 ·rcases aAS.1 (hp.mem_iff.1 hx) with hx|hx
  ·exact (h.fr g).2 x hx
  ·exact (h.fr g2).2 x hx
 ·split
  ·simp
  ·rename_i o9
   intro hh;rcases aAS.1 (hp.mem_iff.1 hx) with hx|hx
   ·exact h.dj g' g cR x hh hx
   ·exact h.dj g' g2 o9 x hh hx
end
open Go.RowKit Go.Sort Go.BigFrame
section
variable {P:Program} {β:Nat} {s:St} {K:St->Prop} {d:Option Nat} {g:Option (Nat×Bool)}
theorem Inl.weak {f:FuncId} {args:List AV} {o:Nat->Ob} {R R':AV->(Nat->Ob)->Prop} (h:Inl P f args o R) (hk:∀av o',R av o'->R' av o'):Inl P f args o R':=
 ⟨h.1,λB w F xs V Y=>(h.2 B w F xs V Y).mono λe w' ⟨v,av,o',F',k1,k2,k3,k4⟩=>⟨v,av,o',F',k1,k2,k3,hk _ _ k4⟩⟩
theorem jjg {f:Nat} {args:List X} {R:AV->(Nat->Ob)->Prop} (h:Inl P f (args.map s.ev) s.o R) (hk:∀av o',R av o'->K (St.put ⟨s.t,o'⟩ d av)):kK P β ⟨d,g,.call f args⟩ s K:=jfy (h.weak hk)
theorem qQ {f:Nat} {args:List X} {vs:List AV} {R:AV->(Nat->Ob)->Prop} (ha:args.map s.ev=vs) (h:Inl P f vs s.o R) (hk:∀av o',R av o'->K (St.put ⟨s.t,o'⟩ d av)):kK P β ⟨d,g,.call f args⟩ s K:=by subst ha;exact jjg h hk
theorem jkX (x:A0):x.sim x=True:=by cases x<;>simp [A0.sim]
theorem jgn (x:Cell):x.sim x=True:=by cases x<;>simp [Cell.sim,jkX]
theorem jgo:∀l:List Cell,simC l l=True
 |[]=>rfl
 |x::l=>by simp [simC,jgn,jgo l]
theorem jH (x:Ob):x.sim x=True:=by cases x<;>simp [Ob.sim,jgo]
end
def zc:C:=iS [aN 4 0] (.seq (iS [aN 5 0] (.blk 0 (.loop (.seq (iS [aM 6 5,aM 7 0,aG 8 7,aP 9 .lss 3 6 8] (iD 9 .skip (.exit 0))) (.seq (.blk 1 (iS [aM 12 0,aM 13 5,aM 14 1,iA 15 (iK 96 [14]),aI 16 3 12 13,aF 17 0 16,wAA 17 15] (iS [aM 18 1,aQ 19 .add 3 18 1,aM 1 19] (iS [aM 20 0,aM 21 5,aM 22 1,iA 23 (iK 96 [22]),aI 24 3 20 21,aF 25 1 24,wAA 25 23] (iS [aM 26 1,aQ 27 .add 3 26 1,aM 1 27] (iS [aM 28 0,aM 29 5,aM 30 1,aI 31 3 28 29,aF 32 2 31,wAA 32 30] (.reg [aM 33 1,aQ 34 .add 3 33 1,aM 1 34]))))))) (.reg [aM 10 5,aQ 11 .add 3 10 1,aM 5 11])))))) (iS [aM 35 1,aM 4 35] .ret))
theorem jaX:fnC Tryz.prog Tryz.f59=some (zc,[.t 4],36):=by kernel_rfl
def zI:C:=iS [iA 2 (.box 39 1 (.t 0)),aN 4 0] (iS [aF 5 0 2,aL 6 5,aM 7 1,iA 8 (iK 59 [6,7]),aM 1 8] (iS [aM 9 1,aM 4 9] .ret))
theorem jbC:fnC Tryz.prog Tryz.f31=some (zI,[.t 4],10):=by kernel_rfl
def zb:C:=iS [aN 4 0] (.seq (iS [aN 5 0] (.blk 0 (.loop (.seq (iS [aM 6 5,aM 7 0,aG 8 7,aP 9 .lss 3 6 8] (iD 9 .skip (.exit 0))) (.seq (.blk 1 (iS [aM 12 0,aM 13 5,aM 14 1,aI 15 5 12 13,aF 16 0 15,wAA 16 14] (iS [aM 17 1,aQ 18 .add 3 17 1,aM 1 18] (iS [aM 19 0,aM 20 5,aM 21 1,aI 22 5 19 20,aF 23 1 22,aF 24 0 23,wAA 24 21] (iS [aM 25 1,aQ 26 .add 3 25 1,aM 1 26] (iS [aM 27 0,aM 28 5,aM 29 1,aI 30 5 27 28,aF 31 1 30,aF 32 1 31,wAA 32 29] (iS [aM 33 1,aQ 34 .add 3 33 1,aM 1 34] (iS [aM 35 0,aM 36 5,aM 37 1,aI 38 5 35 36,aF 39 1 38,aF 40 2 39,wAA 40 37] (iS [aM 41 1,aQ 42 .add 3 41 1,aM 1 42] (iS [aM 43 0,aM 44 5,aM 45 1,aI 46 5 43 44,aF 47 1 46,aF 48 3 47,wAA 48 45] (.reg [aM 49 1,aQ 50 .add 3 49 1,aM 1 50]))))))))))) (.reg [aM 10 5,aQ 11 .add 3 10 1,aM 5 11])))))) (iS [aM 51 1,aM 4 51] .ret))
theorem jaW:fnC Tryz.prog Tryz.f11=some (zb,[.t 4],52):=by kernel_rfl
abbrev jkh (o o':Nat->Ob):Prop:=o' 89=o 89/\o' 90=o 90/\o' 91=o 91/\o' 92=o 92/\o' 93=o 93/\o' 94=o 94/\o' 95=o 95/\o' 88=o 88
theorem jlq {l:List Fl} {k:Nat} {x:Fl} (h:l[k]?=some x) (b:ByteArray):D.put [] (k*3) [.val (.string b)] (jm l)=jm (l.set k ⟨b,x.data,x.safe⟩):=qy (enc:=jv) (size:=3) (λ_=>rfl) h (j:=0) rfl (by simp)
theorem jlp {l:List Fl} {k:Nat} {x:Fl} (h:l[k]?=some x) (b:ByteArray):D.put [] (k*3+1) [.val (.string b)] (jm l)=jm (l.set k ⟨x.name,b,x.safe⟩):=qy (enc:=jv) (size:=3) (λ_=>rfl) h (j:=1) rfl (by simp)
theorem jfA {l:List Fl} {k:Nat} {x:Fl} (h:l[k]?=some x) (b:Int):D.put [] (k*3+2) [.val (.int .i64 b)] (jm l)=jm (l.set k ⟨x.name,x.data,b⟩):=qy (enc:=jv) (size:=3) (λ_=>rfl) h (j:=2) rfl (by simp)
theorem joJ {l:List Fl} {k:Nat} {x:Fl} (h:l[k]?=some x):k*3+1<=(l.flatMap jv).length:=qv (enc:=jv) (size:=3) (λ_=>rfl) h (j:=0) (n:=1) (by decide)
theorem jiH {l:List Fl} {k:Nat} {x:Fl} (h:l[k]?=some x):k*3+1+1<=(l.flatMap jv).length:=qv (enc:=jv) (size:=3) (λ_=>rfl) h (j:=1) (n:=1) (by decide)
theorem jiG {l:List Fl} {k:Nat} {x:Fl} (h:l[k]?=some x):k*3+2+1<=(l.flatMap jv).length:=qv (enc:=jv) (size:=3) (λ_=>rfl) h (j:=2) (n:=1) (by decide)
theorem jpB {l:List Wt} {k:Nat} {x:Wt} (h:l[k]?=some x) (b:Int):D.put [] (k*5) [.val (.int .i64 b)] (jn l)=jn (l.set k ⟨b,x.code,x.run,x.aAI,x.tri⟩):=qy (enc:=jQ) (size:=5) (λ_=>rfl) h (j:=0) rfl (by simp)
theorem jsj {l:List Wt} {k:Nat} {x:Wt} (h:l[k]?=some x):k*5+1<=(l.flatMap jQ).length:=qv (enc:=jQ) (size:=5) (λ_=>rfl) h (j:=0) (n:=1) (by decide)
theorem jpA {l:List Wt} {k:Nat} {x:Wt} (h:l[k]?=some x) (b:Int):D.put [] (k*5+1) [.val (.int .i64 b)] (jn l)=jn (l.set k ⟨x.call,b,x.run,x.aAI,x.tri⟩):=qy (enc:=jQ) (size:=5) (λ_=>rfl) h (j:=1) rfl (by simp)
theorem jsi {l:List Wt} {k:Nat} {x:Wt} (h:l[k]?=some x):k*5+1+1<=(l.flatMap jQ).length:=qv (enc:=jQ) (size:=5) (λ_=>rfl) h (j:=1) (n:=1) (by decide)
theorem jpz {l:List Wt} {k:Nat} {x:Wt} (h:l[k]?=some x) (b:Int):D.put [] (k*5+2) [.val (.int .i64 b)] (jn l)=jn (l.set k ⟨x.call,x.code,b,x.aAI,x.tri⟩):=qy (enc:=jQ) (size:=5) (λ_=>rfl) h (j:=2) rfl (by simp)
theorem jsh {l:List Wt} {k:Nat} {x:Wt} (h:l[k]?=some x):k*5+2+1<=(l.flatMap jQ).length:=qv (enc:=jQ) (size:=5) (λ_=>rfl) h (j:=2) (n:=1) (by decide)
theorem jpy {l:List Wt} {k:Nat} {x:Wt} (h:l[k]?=some x) (b:Int):D.put [] (k*5+3) [.val (.int .i64 b)] (jn l)=jn (l.set k ⟨x.call,x.code,x.run,b,x.tri⟩):=qy (enc:=jQ) (size:=5) (λ_=>rfl) h (j:=3) rfl (by simp)
theorem jsg {l:List Wt} {k:Nat} {x:Wt} (h:l[k]?=some x):k*5+3+1<=(l.flatMap jQ).length:=qv (enc:=jQ) (size:=5) (λ_=>rfl) h (j:=3) (n:=1) (by decide)
theorem jpx {l:List Wt} {k:Nat} {x:Wt} (h:l[k]?=some x) (b:Int):D.put [] (k*5+4) [.val (.int .i64 b)] (jn l)=jn (l.set k ⟨x.call,x.code,x.run,x.aAI,b⟩):=qy (enc:=jQ) (size:=5) (λ_=>rfl) h (j:=4) rfl (by simp)
theorem jsf {l:List Wt} {k:Nat} {x:Wt} (h:l[k]?=some x):k*5+4+1<=(l.flatMap jQ).length:=qv (enc:=jQ) (size:=5) (λ_=>rfl) h (j:=4) (n:=1) (by decide)
theorem jjK {l S:List Fl} {k:Int} (V:S.length=l.length) (Y:∀j<l.length,S[j]?=some (mkF k j)):S=jc9 l k:=by
 apply aCH
 intro j;by_cases h:j<l.length
 ·rw [Y j h,jgO h]
 ·rw [aBD (by omega),aBD (by rw [jgN];omega)]
theorem jhW {l S:List Wt} {k:Int} (V:S.length=l.length) (Y:∀j<l.length,S[j]?=some (mkW k j)):S=jef l k:=by
 apply aCH
 intro j;by_cases h:j<l.length
 ·rw [Y j h,jgM h]
 ·rw [aBD (by omega),aBD (by rw [jgL];omega)]
theorem jej {α:Type} {S:List α} {f:Nat->α} {n:Nat} (hn:n<S.length) (h:∀j<n,S[j]?=some (f j)):∀j<n+1,(S.set n (f n))[j]?=some (f j):=by
 intro j hj;by_cases xS:j=n
 ·subst xS;exact aBJ hn
 ·rw [aCQ (by omega)];exact h j (by omega)
theorem jfU (l:List Fl) (k:Int) (o:Nat->Ob) (e4:jl) (h0:0<=k) (V:k+3*(l.length:Int)<=1000000000) (ho:o 96=.loose (jm l) e4) (h4:(e4 []).oneCell'=true):Inl Tryz.prog 59 [.c (.v (e4 [])),Ni k] o λav o'=>av=Ni (k+3*(l.length:Int))/\o' 96=.loose (jm (jc9 l k)) e4/\jkh o o'/\o' 97=o 97:=by
 refine jiE (β:=8000000) [[]] Tryz.func59 jaX (by simp) ?_
 unfold zc;simp only [C.ghs,C.ghAt,List.foldr];refine jdS ?_;refine WkK.wk (s':=St.of [(0,Hd 96 e4),(1,Ni k)] [(96,.loose (jm l) e4),(89,o 89),(90,o 90),(91,o 91),(92,o 92),(93,o 93),(94,o 94),(95,o 95),(88,o 88),(97,o 97)]) (jJ [96,89,90,91,92,93,94,95,88,97] (by simp only [go_sem,jH,ho,h4]<;>trivial)) ?_
 refine WkK.of ?_;simp only [go_sem];refine kp (λi:Nat×List Fl=>St.of [(0,Hd 96 e4),(1,Ni (k+3*(i.1:Int))),(5,Ni i.1)] [(96,.loose (jm i.2) e4),(89,o 89),(90,o 90),(91,o 91),(92,o 92),(93,o 93),(94,o 94),(95,o 95),(88,o 88),(97,o 97)]) (λi=>i.1<=l.length/\i.2.length=l.length/\∀j<i.1,i.2[j]?=some (mkF k j)) (λi=>l.length-i.1) (0,l) (⟨aBR _,rfl,λj hj=>absurd hj (Nat.not_lt_zero _)⟩) (jJ [96,89,90,91,92,93,94,95,88,97] (by simp only [go_sem,jH,Int.natCast_zero,Int.mul_zero,Int.add_zero]<;>trivial)) ?_
 rintro ⟨n,S⟩ ⟨hn,hS,hm⟩;dsimp only at hn hS hm;by_cases aC:n<l.length
 ·have aA:(n:Int)<l.length:=by omega
  have bJ:n<S.length:=by omega
  have a9:=jaQ n;obtain ⟨x,hx⟩:=jd bJ;have hw:=qg n;have w1:IntKind.i64.wrap (k+3*(n:Int)+1)=k+3*(n:Int)+1:=jdD;have w2:IntKind.i64.wrap (k+3*(n:Int)+1+1)=k+3*(n:Int)+2:=by rw [kh (by omega) (by omega)];omega
  have w3:IntKind.i64.wrap (k+3*(n:Int)+2+1)=k+3*((n+1:Nat):Int):=by rw [kh (by omega) (by omega)];omega
  have x1:(S.set n ⟨mtS (k+3*(n:Int)),x.data,x.safe⟩)[n]?=some ⟨mtS (k+3*(n:Int)),x.data,x.safe⟩:=aBJ bJ;have x2:(S.set n ⟨mtS (k+3*(n:Int)),mtS (k+3*(n:Int)+1),x.safe⟩)[n]?=some ⟨mtS (k+3*(n:Int)),mtS (k+3*(n:Int)+1),x.safe⟩:=aBJ bJ;have d8:=jej (f:=mkF k) bJ hm;simp only [go_sem,hS,aC,aA,bJ,a9,aAQ];refine jg (jaa (k+3*(n:Int)) (by omega)) (by simp only [go_sem,hS,aC,aA,bJ,a9,aAQ,jlq hx,joJ hx,qY bJ,w1,aCL,jgk]) λη=>?_
  simp only [go_sem,hS,aC,aA,bJ,a9,aAQ,jlq hx,joJ hx,qY bJ,w1,aCL,jgk];refine jg (jaa (k+3*(n:Int)+1) (by omega)) (by simp only [go_sem,hS,aC,aA,bJ,a9,aAQ,jlp x1,jiH x1,qY bJ,w1,w2,w3,aCL,aDE,jfA x2,jiG x2,hw,jgk]) λη=>?_
  simp only [go_sem,hS,aC,aA,bJ,a9,aAQ,jlp x1,jiH x1,qY bJ,w1,w2,w3,aCL,aDE,jfA x2,jiG x2,hw,jgk];exact ⟨(n+1,S.set n (mkF k n)),⟨aC,by rw [aCL];exact hS,d8⟩,(jJ [96,89,90,91,92,93,94,95,88,97] (by simp only [go_sem,jH,mkF]<;>trivial)),by (try dsimp only);omega⟩
 ·have aA:¬(n:Int)<l.length:=by omega
  obtain rfl:n=l.length:=by omega
  obtain rfl:=jjK hS hm;simp only [go_sem,hS,aA,jkh]
theorem jgY (l:List Fl) (k:Int) (o:Nat->Ob) (e4:jl) (h0:0<=k) (V:k+3*(l.length:Int)<=1000000000) (ho:o 96=.loose (jm l) e4) (h4:(e4 []).oneCell'=true):Inl Tryz.prog 31 [.agg [.v (e4 [])],Ni k] o λav o'=>av=Ni (k+3*(l.length:Int))/\o' 96=.loose (jm (jc9 l k)) e4/\jkh o o'/\o' 97=o 97:=by
 refine jiF (β:=7000000) Tryz.func31 jbC (by simp) ?_
 unfold zI;simp only [go_sem,h4];intro b1;refine qQ (by simp only [go_sem]) (jfU l k _ e4 h0 V (by simp only [go_sem,ho]) h4) λav o' ⟨tO,cF,hk,nF⟩=>?_
 obtain ⟨k1,k2,k3,k4,k5,k6,k7⟩:=hk;simp only [go_sem] at k1 k2 k3 k4 k5 k6 k7 nF;subst tO;simp only [go_sem,cF,k1,k2,k3,k4,k5,k6,k7,nF,jkh]
theorem jbl (l:List Wt) (k:Int) (o:Nat->Ob) (e7:jl) (h0:0<=k) (V:k+5*(l.length:Int)<=1000000000) (ho:o 97=.loose (jn l) e7) (h4:(e7 []).oneCell'=true):Inl Tryz.prog 11 [.c (.v (e7 [])),Ni k] o λav o'=>av=Ni (k+5*(l.length:Int))/\o' 97=.loose (jn (jef l k)) e7/\jkh o o'/\o' 96=o 96:=by
 refine jiE (β:=8000000) [[]] Tryz.func11 jaW (by simp) ?_
 unfold zb;simp only [C.ghs,C.ghAt,List.foldr];refine jdS ?_;refine WkK.wk (s':=St.of [(0,Hd 97 e7),(1,Ni k)] [(97,.loose (jn l) e7),(89,o 89),(90,o 90),(91,o 91),(92,o 92),(93,o 93),(94,o 94),(95,o 95),(88,o 88),(96,o 96)]) (jJ [97,89,90,91,92,93,94,95,88,96] (by simp only [go_sem,jH,ho,h4]<;>trivial)) ?_
 refine WkK.of ?_;simp only [go_sem];refine kp (λi:Nat×List Wt=>St.of [(0,Hd 97 e7),(1,Ni (k+5*(i.1:Int))),(5,Ni i.1)] [(97,.loose (jn i.2) e7),(89,o 89),(90,o 90),(91,o 91),(92,o 92),(93,o 93),(94,o 94),(95,o 95),(88,o 88),(96,o 96)]) (λi=>i.1<=l.length/\i.2.length=l.length/\∀j<i.1,i.2[j]?=some (mkW k j)) (λi=>l.length-i.1) (0,l) (⟨aBR _,rfl,λj hj=>absurd hj (Nat.not_lt_zero _)⟩) (jJ [97,89,90,91,92,93,94,95,88,96] (by simp only [go_sem,jH,Int.natCast_zero,Int.mul_zero,Int.add_zero]<;>trivial)) ?_
 rintro ⟨n,S⟩ ⟨hn,hS,hm⟩;dsimp only at hn hS hm;by_cases aC:n<l.length
 ·have aA:(n:Int)<l.length:=by omega
  have bJ:n<S.length:=by omega
  have a9:=jaQ n;obtain ⟨x,hx⟩:=jd bJ;have hw:=qg n;have w1:IntKind.i64.wrap (k+5*(n:Int)+1)=k+5*(n:Int)+1:=jdD;have w2:IntKind.i64.wrap (k+5*(n:Int)+1+1)=k+5*(n:Int)+2:=by rw [kh (by omega) (by omega)];omega
  have w3:IntKind.i64.wrap (k+5*(n:Int)+2+1)=k+5*(n:Int)+3:=by rw [kh (by omega) (by omega)];omega
  have w4:IntKind.i64.wrap (k+5*(n:Int)+3+1)=k+5*(n:Int)+4:=by rw [kh (by omega) (by omega)];omega
  have w5:IntKind.i64.wrap (k+5*(n:Int)+4+1)=k+5*((n+1:Nat):Int):=by rw [kh (by omega) (by omega)];omega
  have x1:(S.set n ⟨k+5*(n:Int),x.code,x.run,x.aAI,x.tri⟩)[n]?=some ⟨k+5*(n:Int),x.code,x.run,x.aAI,x.tri⟩:=aBJ bJ;have x2:(S.set n ⟨k+5*(n:Int),k+5*(n:Int)+1,x.run,x.aAI,x.tri⟩)[n]?=some ⟨k+5*(n:Int),k+5*(n:Int)+1,x.run,x.aAI,x.tri⟩:=aBJ bJ;have x3:(S.set n ⟨k+5*(n:Int),k+5*(n:Int)+1,k+5*(n:Int)+2,x.aAI,x.tri⟩)[n]?=some ⟨k+5*(n:Int),k+5*(n:Int)+1,k+5*(n:Int)+2,x.aAI,x.tri⟩:=aBJ bJ;have x4:(S.set n ⟨k+5*(n:Int),k+5*(n:Int)+1,k+5*(n:Int)+2,k+5*(n:Int)+3,x.tri⟩)[n]?=some ⟨k+5*(n:Int),k+5*(n:Int)+1,k+5*(n:Int)+2,k+5*(n:Int)+3,x.tri⟩:=aBJ bJ;have d8:=jej (f:=mkW k) bJ hm;simp only [go_sem,hS,aC,aA,bJ,a9,aAQ,jgZ bJ,w1,w2,w3,w4,w5,aCL,aDE,jgk,hw,jpB hx,jsj hx,jpA x1,jsi x1,jpz x2,jsh x2,jpy x3,jsg x3,jpx x4,jsf x4];exact ⟨(n+1,S.set n (mkW k n)),⟨aC,by rw [aCL];exact hS,d8⟩,(jJ [97,89,90,91,92,93,94,95,88,96] (by simp only [go_sem,jH,mkW]<;>trivial)),by (try dsimp only);omega⟩
 ·have aA:¬(n:Int)<l.length:=by omega
  obtain rfl:n=l.length:=by omega
  obtain rfl:=jhW hS hm;simp only [go_sem,hS,aA,jkh]
def vH:C:=iS [iA 2 (.box 42 10 (.t 0)),aN 4 0] (iS [aF 5 0 2,aT 6 4 5,aM 7 1,iA 8 (iK 30 [6,7]),aM 1 8] (iS [aF 9 4 2,aT 10 1 9,aM 11 1,iA 12 (iK 31 [10,11]),aM 1 12] (iS [aF 13 7 2,aL 14 13,aM 15 1,iA 16 (iK 11 [14,15]),aM 1 16] (iS [aM 17 1,aM 4 17] .ret))))
theorem jaj:fnC Tryz.prog Tryz.f10=some (vH,[.t 4],18):=by kernel_rfl
def cE (x:Eg):Nat:=cYd x.yard+3*x.disk.length+5*x.waits.length
def jhx (x:Eg) (k:Int):Eg:=⟨je2 x.yard k,jc9 x.disk (k+(cYd x.yard:Nat)),x.next,x.calls,jef x.waits (k+(cYd x.yard:Nat)+3*(x.disk.length:Int)),x.aAD,x.broken⟩
theorem jgE (x:Eg) (k:Int) (h0:0<=k) (V:k+(cE x:Nat)<=1000000000) (hs:x.yard.aAE.length<=4000000) (hr:x.yard.aAG.length<=4000000):jR Tryz.prog 12 [.agg (jh (jhx x k)),.c (.val (.int .i64 k))] (.c (.val (.int .i64 (k+(cE x:Nat))))):=by
 refine pf_ jak ?_;unfold vI;have yC:((cE x:Nat):Int)=(cYd x.yard:Nat)+3*(x.disk.length:Int)+5*(x.waits.length:Int):=by simp only [cE];omega
 have n1:¬(k+((cYd x.yard:Nat):Int)<0):=by omega
 have n2:¬(k+((cYd x.yard:Nat):Int)+3*(x.disk.length:Int)<0):=by omega
 have n3:¬(k+((cYd x.yard:Nat):Int)+3*(x.disk.length:Int)+5*(x.waits.length:Int)<0):=by omega
 have hm:jb (je2 x.yard k)=[iv (je2 x.yard k).now,iv (je2 x.yard k).seq,jX (je2 x.yard k).aAE,jC (je2 x.yard k).aAG]:=rfl;have hR:k+((cE x:Nat):Int)=k+((cYd x.yard:Nat):Int)+3*(x.disk.length:Int)+5*(x.waits.length:Int):=by omega
 rw [hR];simp only [go_sem,jh,jhx];intros;refine jg (jjr x.yard k h0 (by omega) (by omega) (by omega)) (by simp only [go_sem,hm,n1]) λdR=>?_
 simp only [go_sem,hm,n1];refine jg (jjs x.disk (k+(cYd x.yard:Nat)) (by omega) (by omega)) (by simp only [go_sem,n2]) λlO=>?_
 simp only [go_sem,n2];refine jg (jed x.waits (k+(cYd x.yard:Nat)+3*(x.disk.length:Int)) (by omega) (by omega)) (by simp only [go_sem,n3]) λpP=>?_
 simp only [go_sem,n3]
abbrev EgV (x:Eg) (Y h3 h4 h7:Value):List A0:=[.v (.int .i64 x.yard.now),.v (.int .i64 x.yard.seq),.v Y,.v h3,.v h4,.v (.int .i64 x.next),.v (.int .i64 x.calls),.v h7,.v (.int .i64 x.aAD),.v (.bool x.broken)]
abbrev EgC (x:Eg) (Y h3 h4 h7:Value):List Cell:=[.a (.v (.int .i64 x.yard.now)),.a (.v (.int .i64 x.yard.seq)),.a (.v Y),.a (.v h3),.a (.v h4),.a (.v (.int .i64 x.next)),.a (.v (.int .i64 x.calls)),.a (.v h7),.a (.v (.int .i64 x.aAD)),.a (.v (.bool x.broken))]
abbrev EgY (x:Eg) (e2 e3:jl) (sh:List (List En)) (rn:List Rn) (h4 h7:Value):List Cell:=[.a (.v (.int .i64 x.yard.now)),.a (.v (.int .i64 x.yard.seq)),.own (jX sh) e2,.own (jC rn) e3,.a (.v h4),.a (.v (.int .i64 x.next)),.a (.v (.int .i64 x.calls)),.a (.v h7),.a (.v (.int .i64 x.aAD)),.a (.v (.bool x.broken))]
theorem jap (x:Eg) (k:Int) (o:Nat->Ob) (e2 e3 e4 e7:jl) (h0:0<=k) (V:k+(cE x:Nat)<=1000000000) (hs:x.yard.aAE.length<=4000000) (hr:x.yard.aAG.length<=4000000) (o2:o 94=.loose (jX x.yard.aAE) e2) (o3:o 95=.loose (jC x.yard.aAG) e3) (o4:o 96=.loose (jm x.disk) e4) (o7:o 97=.loose (jn x.waits) e7) (v2:(e2 []).oneCell'=true) (v3:(e3 []).oneCell'=true) (v4:(e4 []).oneCell'=true) (v7:(e7 []).oneCell'=true):Inl Tryz.prog 10 [.agg (EgV x (e2 []) (e3 []) (e4 []) (e7 [])),Ni k] o λav o'=>av=Ni (k+(cE x:Nat))/\(∃f2 f3:jl,f2 []=e2 []/\f3 []=e3 []/\o' 94=.loose (jX (jhx x k).yard.aAE) f2/\o' 95=.loose (jC (jhx x k).yard.aAG) f3)/\o' 96=.loose (jm (jhx x k).disk) e4/\o' 97=.loose (jn (jhx x k).waits) e7/\o' 90=o 90/\o' 91=o 91/\o' 92=o 92/\o' 93=o 93/\o' 88=o 88:=by
 refine jiE (β:=6000000) [[1,0],[1,1,0]] Tryz.func10 jaj (by simp) ?_
 unfold vH;simp only [C.ghs,C.ghAt,List.foldr];have yC:((cE x:Nat):Int)=(cYd x.yard:Nat)+3*(x.disk.length:Int)+5*(x.waits.length:Int):=by simp only [cE];omega
 simp only [go_sem,EgV,v2,v3,v4,v7];intro c2;refine jdS ?_;refine WkK.wk (s':=St.of [(1,Ni k),(2,Bx 89 c2)] [(89,.box c2 tEg (EgC x (e2 []) (e3 []) (e4 []) (e7 []))),(94,.loose (jX x.yard.aAE) e2),(95,.loose (jC x.yard.aAG) e3),(96,.loose (jm x.disk) e4),(97,.loose (jn x.waits) e7),(90,o 90),(91,o 91),(92,o 92),(93,o 93),(88,o 88)]) (jJ [600000200,94,95,96,97,90,91,92,93,88] (by simp only [go_sem,EgC,jH,o2,o3,o4,o7]<;>trivial)) ?_
 refine vq 89 2 94 (d:=jX x.yard.aAE) (η:=e2) rfl rfl rfl ?_;refine vq 89 3 95 (d:=jC x.yard.aAG) (η:=e3) rfl rfl rfl ?_;refine WkK.wk (s':=St.of [(1,Ni k),(2,Bx 89 c2)] [(89,.box c2 tEg (EgY x e2 e3 x.yard.aAE x.yard.aAG (e4 []) (e7 []))),(96,.loose (jm x.disk) e4),(97,.loose (jn x.waits) e7),(90,o 90),(91,o 91),(92,o 92),(93,o 93),(88,o 88)]) (jJ [89,96,97,90,91,92,93,88] (by simp only [go_sem,EgY,EgC,jH]<;>trivial)) ?_
 refine WkK.of ?_;simp only [go_sem,EgY];refine jnQ (k:=k) (r:=k+((cYd x.yard:Nat):Int)) (ds:=jb x.yard) (ds':=jb (je2 x.yard k)) ⟨_,Tryz.func30,by kernel_rfl,by kernel_rfl⟩ (λB w v S h hF=>jjL x.yard k v S B w h hF h0 (by omega) (by omega) (by omega)) ?_
 simp only [go_sem,jb];rintro gR ⟨h3,h4⟩;generalize gR 2=f2 at*;generalize gR 3=f3 at*;refine jdS ?_;refine WkK.wk (s':=St.of [(1,Ni (k+((cYd x.yard:Nat):Int))),(2,Bx 89 c2)] [(89,.box c2 tEg (EgY x f2 f3 (je2 x.yard k).aAE (je2 x.yard k).aAG (e4 []) (e7 []))),(96,.loose (jm x.disk) e4),(97,.loose (jn x.waits) e7),(90,o 90),(91,o 91),(92,o 92),(93,o 93),(88,o 88)]) (jJ [89,96,97,90,91,92,93,88] (by simp only [go_sem,EgY,EgC,jH]<;>trivial)) ?_
 refine qT 89 2 94 (d:=jX (je2 x.yard k).aAE) (η:=f2) rfl rfl (by decide) λy2=>?_
 refine qT 89 3 95 (d:=jC (je2 x.yard k).aAG) (η:=f3) rfl rfl (by decide) λy3=>?_
 refine WkK.wk (s':=St.of [(1,Ni (k+((cYd x.yard:Nat):Int))),(2,Bx 89 c2)] [(89,.box c2 tEg (EgC x (f2 []) (f3 []) (e4 []) (e7 []))),(94,.loose (jX (je2 x.yard k).aAE) f2),(95,.loose (jC (je2 x.yard k).aAG) f3),(96,.loose (jm x.disk) e4),(97,.loose (jn x.waits) e7),(90,o 90),(91,o 91),(92,o 92),(93,o 93),(88,o 88)]) (jJ [89,94,95,96,97,90,91,92,93,88] (by simp only [go_sem,EgY,EgC,jH]<;>trivial)) ?_
 refine WkK.of ?_;simp only [go_sem,EgC,v4,v7];refine qQ (by simp only [go_sem]) (jgY x.disk (k+((cYd x.yard:Nat):Int)) _ e4 (by omega) (by omega) (by simp only [go_sem]) v4) λav o' ⟨tO,cF,hk,nF⟩=>?_
 obtain ⟨k1,k2,k3,k4,k5,k6,k7⟩:=hk;simp only [go_sem] at k1 k2 k3 k4 k5 k6 k7 nF;subst tO;simp only [go_sem,k1,v7];refine qQ (by simp only [go_sem]) (jbl x.waits (k+((cYd x.yard:Nat):Int)+3*(x.disk.length:Int)) _ e7 (by omega) (by omega) (by simp only [go_sem,nF]) v7) λav2 o'' ⟨tN,sD,hq,uC⟩=>?_
 obtain ⟨q1,q2,q3,q4,q5,q6,q7⟩:=hq;simp only [go_sem] at q1 q2 q3 q4 q5 q6 q7 uC;subst tN;have hR:k+((cE x:Nat):Int)=k+((cYd x.yard:Nat):Int)+3*(x.disk.length:Int)+5*(x.waits.length:Int):=by omega
 simp only [go_sem,hR,cF,sD,k2,k3,k4,k5,k6,k7,nF,q1,q2,q3,q4,q5,q6,q7,uC];exact ⟨⟨f2,f3,h3,h4,rfl,rfl⟩,rfl,rfl⟩
