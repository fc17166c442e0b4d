/- Part Pbb of the proof of ButtBack: lemmas. -/
import Derived.Test.YthgephlghkjiaaaGreatDoorPai
set_option maxRecDepth 100000
set_option maxHeartbeats 4000000
set_option linter.all false
namespace Go.Nk
noncomputable section
open Go Go.Conc Go.Proofs
def q5:List cn:=mg++[.cs false false 25 tC]
def uL(a:b6):Bool:=dv.all fun b=>Ak (Cb (eH fl iF 30 61 [AO [a,b],.pointer (some ⟨13,0,none⟩),.pointer (some ⟨20,0,none⟩)] (gn (nB [a,b]::q5)))) (gO 0 [a,b]) (decide (qE a b<=20))
theorem arW:uL (0,0)=true:=by kernel_rfl
theorem arX:uL (0,1)=true:=by kernel_rfl
theorem arY:uL (0,2)=true:=by kernel_rfl
theorem arZ:uL (0,3)=true:=by kernel_rfl
theorem ar0:uL (1,0)=true:=by kernel_rfl
theorem ar1:uL (1,1)=true:=by kernel_rfl
theorem ar2:uL (1,2)=true:=by kernel_rfl
theorem ar3:uL (1,3)=true:=by kernel_rfl
theorem axG{a b:b6}(aA:a∈dv)(hb:b∈dv):Ak (Cb (eH fl iF 30 61 [AO [a,b],.pointer (some ⟨13,0,none⟩),.pointer (some ⟨20,0,none⟩)] (gn (nB [a,b]::q5)))) (gO 0 [a,b]) (decide (qE a b<=20))=true:=by
 have:uL a=true:=by
  rcases xF aA with rfl|rfl|rfl|rfl|rfl|rfl|rfl|rfl
  ·exact arW
  ·exact arX
  ·exact arY
  ·exact arZ
  ·exact ar0
  ·exact ar1
  ·exact ar2
  ·exact ar3
 exact List.all_eq_true.1 this b hb
end
end Go.Nk
