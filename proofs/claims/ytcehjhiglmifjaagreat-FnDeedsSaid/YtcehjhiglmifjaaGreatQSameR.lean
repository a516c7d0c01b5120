/- Parts. -/
import Derived.Test.YtcehjhiglmifjaaGreatQDatR
import Derived.Test.YtcehjhiglmifjaaGreatQDrawB
set_option linter.all false
set_option maxRecDepth 100000
namespace Go.Proofs.YtcehjhiglmifjaaGreat
open Go.RowKit Go.Sort
theorem jCQ (w:World) (x y:Rp):(Op.equalIn 10000 32 (.agg #[.int .i64 x.code,.int .i64 x.run,.int .i64 x.aMA,.int .i64 x.tri]) (.agg #[.int .i64 y.code,.int .i64 y.run,.int .i64 y.aMA,.int .i64 y.tri])).run Tryz.prog w=.ok (decide (x=y)) w:=by
 have u3:=Tryz.underlying3;have a3:=Tryz.isAgg3;have z3:=Tryz.sizeOf3;rw [show (10000:Nat)=9999+1 from rfl,run_equalIn_agg w 9999 32 _ _ (by kernel_rfl) (by kernel_rfl)]
 simp only [Program.fieldsOf,Tryz.underlying32];obtain ⟨xstate,xneed,xtri,xtil⟩:=x;obtain ⟨ystate,yneed,ytri,ytil⟩:=y
 go_simp
 by_cases h0:xstate=ystate<;>by_cases h1:xneed=yneed<;>by_cases h2:xtri=ytri<;>by_cases h3:xtil=ytil<;>simp [h0,h1,h2,h3]
theorem jwn {d:Option Nat} {s:St} {K:St->Prop} (x y:Rp):jwJ Tryz.prog d s K .neq 32 (.agg [.v (.int .i64 x.code),.v (.int .i64 x.run),.v (.int .i64 x.aMA),.v (.int .i64 x.tri)]) (.agg [.v (.int .i64 y.code),.v (.int .i64 y.run),.v (.int .i64 y.aMA),.v (.int .i64 y.tri)])=K (s.put d (.c (.v (.bool (!decide (x=y)))))):=jg0 rfl rfl (jrL (λw=>jCQ w x y) (by kernel_rfl))
attribute [go_sem] jwn
def jbl:C:=iS [aO 4 false] (.seq (iS [aM 6 0,aG 7 6,aM 8 1,aG 9 8,aP 10 .neq 3 7 9] (iD 10 (iS [aO 4 false] .ret) .skip)) (.seq (iS [aN 5 0] (.blk 0 (.loop (.seq (iS [aM 11 5,aM 12 0,aG 13 12,aP 14 .lss 3 11 13] (iD 14 .skip (.exit 0))) (.seq (.blk 1 (.seq (.dreg (tA 0 17 (iM 0) (tA 1 18 (iM 5) (tA 2 19 (iI 4 17 18) (tA 3 20 (iT 4 19) (tA 4 21 (iM 1) (tA 5 22 (iM 5) (tA 6 23 (iI 4 21 22) (tA 7 24 (iT 4 23) (tA 8 25 (iP .neq 32 20 24) .done)))))))))) (iD 25 (iS [aO 4 false] .ret) .skip))) (.reg [aM 15 5,aQ 16 .add 3 15 1,aM 5 16])))))) (iS [aO 4 true] .ret)))
theorem jc7:fnC Tryz.prog Tryz.f34=some (jbl,[.t 4],26):=by kernel_rfl
theorem jeg (xs:List Rp) (hl:xs.length<=2000000):kg Tryz.prog 34 [.c (kV xs),.c (kV xs)] (.c (.val (.bool true))):=by
 refine pf_ jc7 ?_;unfold jbl;have fJ:(kV xs).toRo=.ro (kV xs):=rfl;simp only [go_sem,fJ,jdN,aOU];refine kN (λi:Nat=>St.of [(0,.c (.ro (kV xs))),(1,.c (.ro (kV xs))),(5,Ni i)] []) (λi=>i<=xs.length) (λi=>xs.length-i) 0 ((aNE _)) (zo [] (by simp only [go_sem]<;>trivial)) ?_
 rintro k hk;by_cases aB:k<xs.length;rotate_left
 ·have aA:¬(k:Int)<(xs.length:Int):=by omega
  simp only [go_sem,aA,jdN]
 have aA:(k:Int)<(xs.length:Int):=by omega
 obtain ⟨x,hx⟩:=jd aB;have hw:=kX k;simp only [go_sem,aA,aB,jqz hx,jdN,qO,aOU,hw];exact ql (k+1) (zo [] (by simp only [go_sem,hw]<;>trivial))
