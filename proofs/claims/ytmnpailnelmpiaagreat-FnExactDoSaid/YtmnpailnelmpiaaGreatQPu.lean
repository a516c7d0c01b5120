/- Parts. -/
import Derived.Test.YtmnpailnelmpiaaGreatQAb
import Derived.Test.YtmnpailnelmpiaaGreatQMarkB
import Derived.Test.YtmnpailnelmpiaaGreatQOpen
import Derived.Test.YtmnpailnelmpiaaGreatQPoll
import Derived.Test.YtmnpailnelmpiaaGreatProg
set_option linter.unusedSimpArgs false
set_option linter.unusedVariables false
set_option maxHeartbeats 2000000
set_option maxRecDepth 100000
namespace Go.Proofs.YtmnpailnelmpiaaGreat
open Go.RowKit Go.Sort
abbrev tRp:TypeId:=65
theorem jhw (x y:Yd):kb Tryz.prog 25 [.agg (jb x),.agg (jb y)] (.c (.val (.bool (decide (x=y))))):=jgF ⟨_,Tryz.func25,by kernel_rfl,by kernel_rfl⟩ fun w a b ⟨S,ha⟩ ⟨S2,hb⟩=>jvj x y a b S S2 w false false ha hb
theorem jhu (x:Yd) (hsz:jt x≤2000000):kb Tryz.prog 31 [.agg (jb x)] (.agg (jb x)):=joP ⟨_,Tryz.func31,by kernel_rfl,by kernel_rfl⟩ fun w a ⟨S,ha⟩=>jt1 x a S w false ha hsz
theorem juG (x:Yd) (left:Int) (h0:0≤left) (h1:left≤1048576):kb Tryz.prog 28 [.agg (jb x),.c (.val (.int .i64 left))] (.c (.val (.int .i64 (szf (jt x) left)))):=jgF ⟨_,Tryz.func28,by kernel_rfl,by kernel_rfl⟩ fun w a b ⟨S,ha⟩ hb=>by rw [vM hb];exact jub x a S w false left ha h0 h1
theorem juI (x y:Dd):kb Tryz.prog 35 [.agg (jg x),.agg (jg y)] (.c (.val (.bool (decide (x=y))))):=jgF ⟨_,Tryz.func35,by kernel_rfl,by kernel_rfl⟩ fun w a b ⟨S,ha⟩ ⟨S2,hb⟩=>jvn x y a b S S2 w false false ha hb
theorem jhv (x:Dd) (hsz:zX x≤2000000):kb Tryz.prog 32 [.agg (jg x)] (.agg (jg x)):=joP ⟨_,Tryz.func32,by kernel_rfl,by kernel_rfl⟩ fun w a ⟨S,ha⟩=>jt5 x a S w false ha hsz
theorem juH (x:Dd) (left:Int) (h0:0≤left) (h1:left≤1048576):kb Tryz.prog 29 [.agg (jg x),.c (.val (.int .i64 left))] (.c (.val (.int .i64 (szf (zX x) left)))):=jgF ⟨_,Tryz.func29,by kernel_rfl,by kernel_rfl⟩ fun w a b ⟨S,ha⟩ hb=>by rw [vM hb];exact jud x a S w false left ha h0 h1
theorem jjP (y:Yd) (k:Int) (h0:0≤k) (h1:k+(cYd y:Nat)≤2305843009213693952) (h2:y.shelf.length≤2305843009213693952) (h3:y.runs.length≤2305843009213693952):kb Tryz.prog 27 [.agg (jb (jtR y k)),.c (.val (.int .i64 k))] (.c (.val (.int .i64 (k+(cYd y:Nat))))):=jgF ⟨_,Tryz.func27,by kernel_rfl,by kernel_rfl⟩ fun w a b ⟨S,ha⟩ hb=>by rw [vM hb];exact jqC y k a S w false ha h0 h1 h2 h3
def jaf (p:Pl) (k:Int):Pl:=⟨p.prio,p.most,p.wait,p.tasks,mkR jk0 2 p.edges.length k⟩
open Go.BigFrame in
theorem jql (p:Pl) (k:Int) (v:Value) (S:List Nat) (B:Nat) (w:World) (ha:AggRep w true (ja p) v S) (hF:Fresh B S) (h0:0≤k) (h1:k+2*(p.edges.length:Int)≤4611686018427387904):
 Calls Tryz.prog 126 #[v,.int .i64 k] w fun e w'=>e=.returned (.int .i64 (k+2*(p.edges.length:Int)))∧AggRep w' true (ja (jaf p k)) v S∧Only S w w':=by
 obtain ⟨_,rfl,ha⟩:=ha;obtain ⟨ev,rfl,ah0⟩:=qL ha;clear ha;obtain ⟨A0,n0,m0,rfl⟩:=Rep.form ah0
 go_enter Tryz.func126,Tryz.ntmps126
 go_wp2_with (go_at_call 127;refine (jid p.edges k _ S B _ (upA ah0 _) hF h0 h1).mono ?_;rintro e w1 ⟨rfl,hr1,ho1⟩)
 go_ret
 exact ⟨rfl,⟨_,rfl,jdP (p:=jaf p k) hr1⟩,(Only.of_below (upB (Below.refl w.heap.size w) _)).trans ho1 (fun t ht=>.inl ht)⟩
open Go.RowKit Go.Sort Go.BigFrame
def jag (d:Dd) (k:Int):Dd:=⟨d.kind,d.run,jaf d.plan k,d.task,d.tri,d.worker,d.draw⟩
theorem jqm (d:Dd) (k:Int) (v:Value) (S:List Nat) (B:Nat) (w:World) (ha:AggRep w true (jg d) v S) (hF:Fresh B S) (h0:0≤k) (h1:k+2*(d.plan.edges.length:Int)≤4611686018427387904):
 Calls Tryz.prog 36 #[v,.int .i64 k] w fun e w'=>e=.returned (.int .i64 (k+2*(d.plan.edges.length:Int)))∧AggRep w' true (jg (jag d k)) v S∧Only S w w':=by
 obtain ⟨_,rfl,ha⟩:=ha;obtain ⟨ev,rfl,ah0⟩:=jbh ha;clear ha;obtain ⟨A0,n0,m0,rfl⟩:=Rep.form ah0
 go_enter Tryz.func36,Tryz.ntmps36
 go_wp2_with (go_at_call 126;refine (jql d.plan k _ S B _ ⟨_,rfl,jdP (p:=d.plan) (upA ah0 _)⟩ hF h0 h1).mono ?_;rintro e w1 ⟨rfl,⟨_,hx1,hr1⟩,ho1⟩)
 go_ret
 obtain ⟨ev',hev,hr1'⟩:=qL hr1;simp only [List.cons.injEq,and_true,true_and] at hev;obtain ⟨-,-,-,-,rfl⟩:=hev;exact ⟨rfl,⟨_,rfl,jAh (d:=jag d k) hr1'⟩,(Only.of_below (upB (Below.refl w.heap.size w) _)).trans ho1 (fun t ht=>.inl ht)⟩
end Go.Proofs.YtmnpailnelmpiaaGreat
