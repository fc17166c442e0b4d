/- Part Pbd of the proof of ButtTexts: lemmas. -/
import Derived.Test.YthgephlghkjiaaaGreatDoorPai
set_option maxRecDepth 100000
set_option maxHeartbeats 4000000
set_option linter.all false
namespace Go.Nk
noncomputable section
open Go Go.Conc Go.Proofs
open Bool renaming true->J
def rf:List cj:=l8++[.cs false false 25 sW]
def tK(a:bX):Bool:=dm.all λb=>xU (Ad (eP fp iU 30 61 [xS [a,b],.pointer (some ⟨13,0,none⟩),.pointer (some ⟨20,0,none⟩)] (gd (m9 [a,b]::rf)))) (gr 0 [a,b]) (decide (pI a b<=20))
def aq7:tK (0,0)=J:=O
def aq8:tK (0,1)=J:=O
def aq9:tK (0,2)=J:=O
def ara:tK (0,3)=J:=O
def arb:tK (1,0)=J:=O
def arc:tK (1,1)=J:=O
def ard:tK (1,2)=J:=O
def are:tK (1,3)=J:=O
def arf{a b:bX}(c:a∈dm)(hb:b∈dm):xU (Ad (eP fp iU 30 61 [xS [a,b],.pointer (some ⟨13,0,none⟩),.pointer (some ⟨20,0,none⟩)] (gd (m9 [a,b]::rf)))) (gr 0 [a,b]) (decide (pI a b<=20))=J:=by
 have:tK a=J:=by
  rcases vV c with rfl|rfl|rfl|rfl|rfl|rfl|rfl|rfl
  .exact aq7
  .exact aq8
  .exact aq9
  .exact ara
  .exact arb
  .exact arc
  .exact ard
  .exact are
 exact List.all_eq_true.1 this b hb
end
end Go.Nk
