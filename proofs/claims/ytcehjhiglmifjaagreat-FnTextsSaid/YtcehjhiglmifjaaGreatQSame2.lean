/- Parts. -/
import Derived.Test.YtcehjhiglmifjaaGreatQAb
set_option linter.all false
set_option maxHeartbeats 2000000
namespace Go.Proofs.YtcehjhiglmifjaaGreat
open Go.RowKit Go.Sort Go.BigFrame
theorem jqe (x y:Yd) (a b:Value) (S S':List Nat) (w:World) (own own':Bool) (ha:AggRep w own (jb x) a S) (hb:AggRep w own' (jb y) b S'):
 Calls Tryz.prog 105 #[a,b] w λe w'=>e=.returned (.bool (decide (x=y)))/\Below w.heap.size w w':=by
 obtain ⟨_,rfl,ha⟩:=ha;obtain ⟨_,rfl,hb⟩:=hb;obtain ⟨av0,av1,_,_,rfl,ah0,ah1,rfl⟩:=qW ha;obtain ⟨bv0,bv1,_,_,rfl,bh0,bh1,rfl⟩:=qW hb;clear ha hb;obtain ⟨xnow,xseq,xshelf,xruns⟩:=x;obtain ⟨ynow,yseq,yshelf,yruns⟩:=y
 go_enter Tryz.func105,Tryz.ntmps105
 go_wp2_with (first
  |(go_at_call 155;refine (jou xshelf yshelf _ _ _ _ _ own own' (ah0.below (by repeat (first|exact Below.refl _ _|assumption|refine Below.alloc ?_ (by simp;try omega) _|refine jW ?_ (by assumption))) (aPD _)) (bh0.below (by repeat (first|exact Below.refl _ _|assumption|refine Below.alloc ?_ (by simp;try omega) _|refine jW ?_ (by assumption))) (aPD _))).mono ?_;rintro e w1 ⟨rfl,aZ⟩;obtain ⟨cT,fU⟩:=zC aZ)
  |(go_at_call 157;refine (jqg xruns yruns _ _ _ _ _ own own' (ah1.below (by repeat (first|exact Below.refl _ _|assumption|refine Below.alloc ?_ (by simp;try omega) _|refine jW ?_ (by assumption))) (aPD _)) (bh1.below (by repeat (first|exact Below.refl _ _|assumption|refine Below.alloc ?_ (by simp;try omega) _|refine jW ?_ (by assumption))) (aPD _))).mono ?_;rintro e w2 ⟨rfl,bF⟩;obtain ⟨cY,l0⟩:=zC bF))
 all_goals go_ret
 all_goals refine ⟨?_,(by repeat (first|exact Below.refl _ _|assumption|refine Below.alloc ?_ (by simp;try omega) _|refine jW ?_ (by assumption)))⟩
 all_goals (simp_all<;>rfl)
theorem jrR (x y:Yd) (a b:Value) (S S':List Nat) (w:World) (own own':Bool) (ha:AggRep w own (jb x) a S) (hb:AggRep w own' (jb y) b S'):
 Calls Tryz.prog 41 #[a,b] w λe w'=>e=.returned (.bool (decide (x=y)))/\Below w.heap.size w w':=by
 obtain ⟨_,rfl,ha⟩:=ha;obtain ⟨_,rfl,hb⟩:=hb;obtain ⟨av0,av1,_,_,rfl,ah0,ah1,rfl⟩:=qW ha;obtain ⟨bv0,bv1,_,_,rfl,bh0,bh1,rfl⟩:=qW hb;clear ha hb
 go_enter Tryz.func41,Tryz.ntmps41
 go_wp2_with (go_at_call 105;refine (jqe x y _ _ _ _ _ own own' ⟨_,rfl,jaF (upA (upA ah0 _) _) (upA (upA ah1 _) _)⟩ ⟨_,rfl,jaF (upA (upA bh0 _) _) (upA (upA bh1 _) _)⟩).mono ?_;rintro e w2 ⟨rfl,bF⟩)
 go_ret
 exact ⟨rfl,jW (((Below.refl _ _).alloc (by simp) _).alloc (by simp) _) bF⟩
