/- Parts. -/
import Derived.Test.YtmnpailnelmpiaaQMarkR
set_option linter.unusedSimpArgs false
set_option linter.unusedVariables false
set_option maxHeartbeats 2000000
set_option maxRecDepth 100000
namespace Go.Proofs.Ytmnpailnelmpiaa
open Go.RowKit Go.Sort
def jaM:C:=iS [iA 2 (.box 26 11 (.t 0)),iA 4 (iN 0)] (iS [iA 5 (iF 2 2),iA 6 (iT 5 5),iA 7 (iM 1),iA 8 (.call 71 [.t 6,.t 7]),iA 1 (iM 8)] (.seq (iS [iA 9 (iM 1),iA 10 (iQ .lss 3 9 0)] (iD 10 (iS [iA 4 (iN (-1))] .ret) .skip)) (iS [iA 11 (iM 1),iA 4 (iM 11)] .ret)))
theorem jcw:fnC Try.prog Try.f36=some (jaM,[.t 4],12):=by kernel_rfl
def jaL:C:=iS [iA 2 (.box 28 12 (.t 0)),iA 4 (iN 0)] (iS [iA 5 (iF 1 2),iA 6 (iT 11 5),iA 7 (iM 1),iA 8 (.call 36 [.t 6,.t 7]),iA 1 (iM 8)] (.seq (iS [iA 9 (iM 1),iA 10 (iQ .lss 3 9 0)] (iD 10 (iS [iA 4 (iN (-1))] .ret) .skip)) (iS [iA 11 (iM 1),iA 4 (iM 11)] .ret)))
theorem jcv:fnC Try.prog Try.f11=some (jaL,[.t 4],12):=by kernel_rfl
def zE (d:Dd) (k:Int):Dd:=⟨d.kind,d.run,vI d.plan k,d.task,d.tri,d.worker,d.draw⟩
open Go.BigFrame in
theorem jjw (d:Dd) (k:Int) (v:Value) (S:List Nat) (B:Nat) (w:World) (ha:AggRep w true (je d) v S) (hF:Fresh B S) (h0:0≤k) (h1:k+2*(d.plan.edges.length:Int)≤4611686018427387904):
 Calls Try.prog 35 #[v,.int .i64 k] w fun e w'=>e=.returned (.int .i64 (k+2*(d.plan.edges.length:Int)))∧AggRep w' true (je (zE d k)) v S∧Only S w w':=by
 obtain ⟨_,rfl,ha⟩:=ha;obtain ⟨ev,rfl,ah0⟩:=zJ ha;clear ha;obtain ⟨A0,n0,m0,rfl⟩:=Rep.form ah0
 go_enter Try.func35,Try.ntmps35
 go_wp2_with (go_at_call 70;refine (jlL d.plan k _ S B _ ⟨_,rfl,jfK (p:=d.plan) (upA ah0 _)⟩ hF h0 h1).mono ?_;rintro e w1 ⟨rfl,⟨_,hx1,hr1⟩,ho1⟩)
 go_ret
 obtain ⟨ev',hev,hr1'⟩:=vN hr1;simp only [List.cons.injEq,and_true,true_and] at hev;obtain ⟨-,-,-,-,rfl⟩:=hev;exact ⟨rfl,⟨_,rfl,jol (d:=zE d k) hr1'⟩,(Only.of_below (upB (Below.refl w.heap.size w) _)).trans ho1 (fun t ht=>.inl ht)⟩
def ja7 (n:Nt) (k:Int):Nt:=⟨n.seq,zE n.deed k⟩
open Go.BigFrame in
theorem jlM (n:Nt) (k:Int) (v:Value) (S:List Nat) (B:Nat) (w:World) (ha:AggRep w true (jq n) v S) (hF:Fresh B S) (h0:0≤k) (h1:k+2*(n.deed.plan.edges.length:Int)≤4611686018427387904):
 Calls Try.prog 10 #[v,.int .i64 k] w fun e w'=>e=.returned (.int .i64 (k+2*(n.deed.plan.edges.length:Int)))∧AggRep w' true (jq (ja7 n k)) v S∧Only S w w':=by
 obtain ⟨_,rfl,ha⟩:=ha;obtain ⟨ev,rfl,ah0⟩:=kj ha;clear ha;obtain ⟨A0,n0,m0,rfl⟩:=Rep.form ah0
 go_enter Try.func10,Try.ntmps10
 go_wp2_with (go_at_call 35;refine (jjw n.deed k _ S B _ ⟨_,rfl,jol (d:=n.deed) (upA ah0 _)⟩ hF h0 h1).mono ?_;rintro e w1 ⟨rfl,⟨_,hx1,hr1⟩,ho1⟩)
 go_ret
 obtain ⟨ev',hev,hr1'⟩:=zJ hr1;simp only [List.cons.injEq,and_true,true_and] at hev;obtain ⟨-,-,-,-,-,-,rfl,-⟩:=hev;exact ⟨rfl,⟨_,rfl,jdc (n:=ja7 n k) hr1'⟩,(Only.of_below (upB (Below.refl w.heap.size w) _)).trans ho1 (fun t ht=>.inl ht)⟩
theorem jgk (n:Nt) (k:Int) (h0:0≤k) (h1:k+2*(n.deed.plan.edges.length:Int)≤4611686018427387904):kg Try.prog 11 [.agg (jq (ja7 n k)),.c (.val (.int .i64 k))] (.c (.val (.int .i64 (k+2*(n.deed.plan.edges.length:Int))))):=by
 have e2:k+2*(n.deed.plan.edges.length:Int)=k+((2*n.deed.plan.edges.length:Nat):Int):=by omega
 rw [e2];have hneg:¬(k+((2*n.deed.plan.edges.length:Nat):Int)<0):=by omega
 have hneg':¬(k+2*(n.deed.plan.edges.length:Int)<0):=by omega
 have hD:kg Try.prog 36 [.agg (je (zE n.deed k)),.c (.val (.int .i64 k))] (.c (.val (.int .i64 (k+((2*n.deed.plan.edges.length:Nat):Int))))):=by
  refine jr Try.func36 jcw (by simp) ?_
  unfold jaM;simp only [go_sem,je,ja,zE,vI];intro b;refine jb (jlu n.deed.plan k h0 (by omega)) (by simp only [go_sem,je,ja,zE,vI]) fun η=>?_
  simp only [go_sem,je,ja,zE,vI];simp only [go_sem,hneg]
 refine jr Try.func11 jcv (by simp) ?_
 unfold jaL;simp only [go_sem,jq,je,ja,ja7,zE,vI];intro b;refine jb (hD) (by simp only [go_sem,jq,je,ja,ja7,zE,vI]) fun η=>?_
 simp only [go_sem,jq,je,ja,ja7,zE,vI];simp only [go_sem,hneg]
end Go.Proofs.Ytmnpailnelmpiaa
