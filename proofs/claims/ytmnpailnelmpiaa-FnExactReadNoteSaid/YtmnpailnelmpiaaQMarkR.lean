/- Parts. -/
import Derived.Test.YtmnpailnelmpiaaQAb
set_option linter.unusedSimpArgs false
set_option linter.unusedVariables false
set_option maxHeartbeats 2000000
set_option maxRecDepth 100000
namespace Go.Proofs.Ytmnpailnelmpiaa
open Go.RowKit Go.Sort
def jaK:C:=iS [iA 2 (.box 24 5 (.t 0)),iA 4 (iN 0)] (iS [iA 5 (iF 4 2),iA 6 (iL 5),iA 7 (iM 1),iA 8 (.call 42 [.t 6,.t 7]),iA 1 (iM 8)] (.seq (iS [iA 9 (iM 1),iA 10 (iQ .lss 3 9 0)] (iD 10 (iS [iA 4 (iN (-1))] .ret) .skip)) (iS [iA 11 (iM 1),iA 4 (iM 11)] .ret)))
theorem jcu:fnC Try.prog Try.f71=some (jaK,[.t 4],12):=by kernel_rfl
def vI (p:Pl) (k:Int):Pl:=⟨p.prio,p.most,p.wait,p.tasks,mkR jbg 2 p.edges.length k⟩
open Go.BigFrame in
theorem jlL (p:Pl) (k:Int) (v:Value) (S:List Nat) (B:Nat) (w:World) (ha:AggRep w true (ja p) v S) (hF:Fresh B S) (h0:0≤k) (h1:k+2*(p.edges.length:Int)≤4611686018427387904):
 Calls Try.prog 70 #[v,.int .i64 k] w fun e w'=>e=.returned (.int .i64 (k+2*(p.edges.length:Int)))∧AggRep w' true (ja (vI p k)) v S∧Only S w w':=by
 obtain ⟨_,rfl,ha⟩:=ha;obtain ⟨ev,rfl,ah0⟩:=vN ha;clear ha;obtain ⟨A0,n0,m0,rfl⟩:=Rep.form ah0
 go_enter Try.func70,Try.ntmps70
 go_wp2_with (go_at_call 41;refine (jbL p.edges k _ S B _ (upA ah0 _) hF h0 h1).mono ?_;rintro e w1 ⟨rfl,hr1,ho1⟩)
 go_ret
 exact ⟨rfl,⟨_,rfl,jfK (p:=vI p k) hr1⟩,(Only.of_below (upB (Below.refl w.heap.size w) _)).trans ho1 (fun t ht=>.inl ht)⟩
open Go.BigFrame in
theorem jjd (m:Nat) (k:Int) (h0:0≤k) (h1:k+2*(m:Int)≤4611686018427387904):kg Try.prog 42 [.c (jv (mkR jbg 2 m k)),.c (.val (.int .i64 k))] (.c (.val (.int .i64 (k+((2*m:Nat):Int))))):=jgN ⟨_,Try.func42,by kernel_rfl,by kernel_rfl⟩ fun w a b ⟨S,ha⟩ hb=>by rw [zx hb];exact jbM m k a S w false ha h0 h1
theorem jlu (p:Pl) (k:Int) (h0:0≤k) (h1:k+2*(p.edges.length:Int)≤4611686018427387904):kg Try.prog 71 [.agg (ja (vI p k)),.c (.val (.int .i64 k))] (.c (.val (.int .i64 (k+((2*p.edges.length:Nat):Int))))):=by
 refine jr Try.func71 jcu (by simp) ?_
 unfold jaK;have hn:¬(k+((2*p.edges.length:Nat):Int)<0):=by omega
 simp only [go_sem,ja,vI];intros;refine jb (jjd p.edges.length k h0 h1) (by simp only [go_sem,ja,vI]) fun η=>?_
 simp only [go_sem,ja,vI];simp only [go_sem,hn]
end Go.Proofs.Ytmnpailnelmpiaa
