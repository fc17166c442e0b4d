/- Part Pbc of the proof of ButtBack: lemmas. -/
import Derived.Test.YthgephlghkjiaaaGreatDoorPai
set_option maxRecDepth 100000
set_option maxHeartbeats 4000000
set_option linter.all false
namespace Go.Nk
noncomputable section
open Go Go.Conc Go.Proofs
def uM(a:b6):Bool:=dv.all fun b=>Ak (Cb (eH fl iF 30 59 [AO [a,b],.pointer (some ⟨13,0,none⟩)] (gn (nB [a,b]::mg)))) (qE a b) true
theorem ar4:uM (0,0)=true:=by kernel_rfl
theorem ar5:uM (0,1)=true:=by kernel_rfl
theorem ar6:uM (0,2)=true:=by kernel_rfl
theorem ar7:uM (0,3)=true:=by kernel_rfl
theorem ar8:uM (1,0)=true:=by kernel_rfl
theorem ar9:uM (1,1)=true:=by kernel_rfl
theorem asa:uM (1,2)=true:=by kernel_rfl
theorem asb:uM (1,3)=true:=by kernel_rfl
theorem axH{a b:b6}(aA:a∈dv)(hb:b∈dv):Ak (Cb (eH fl iF 30 59 [AO [a,b],.pointer (some ⟨13,0,none⟩)] (gn (nB [a,b]::mg)))) (qE a b) true=true:=by
 have:uM a=true:=by
  rcases xF aA with rfl|rfl|rfl|rfl|rfl|rfl|rfl|rfl
  ·exact ar4
  ·exact ar5
  ·exact ar6
  ·exact ar7
  ·exact ar8
  ·exact ar9
  ·exact asa
  ·exact asb
 exact List.all_eq_true.1 this b hb
end
end Go.Nk
