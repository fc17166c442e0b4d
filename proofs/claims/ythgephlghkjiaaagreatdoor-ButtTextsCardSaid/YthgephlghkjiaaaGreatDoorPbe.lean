/- Part Pbe of the proof of ButtTexts: lemmas. -/
import Derived.Test.YthgephlghkjiaaaGreatDoorPai
set_option maxRecDepth 100000
set_option maxHeartbeats 4000000
set_option linter.all false
namespace Go.Nk
noncomputable section
open Go Go.Conc Go.Proofs
open Bool renaming true->J
def tL(a:bX):Bool:=dm.all λb=>xU (Ad (eP fp iU 30 59 [xS [a,b],.pointer (some ⟨13,0,none⟩)] (gd (m9 [a,b]::l8)))) (pI a b) J
def arh:tL (0,0)=J:=O
def ari:tL (0,1)=J:=O
def arj:tL (0,2)=J:=O
def ark:tL (0,3)=J:=O
def arl:tL (1,0)=J:=O
def arn:tL (1,1)=J:=O
def aro:tL (1,2)=J:=O
def arp:tL (1,3)=J:=O
def arq{a b:bX}(c:a∈dm)(hb:b∈dm):xU (Ad (eP fp iU 30 59 [xS [a,b],.pointer (some ⟨13,0,none⟩)] (gd (m9 [a,b]::l8)))) (pI a b) J=J:=by
 have:tL a=J:=by
  rcases vV c with rfl|rfl|rfl|rfl|rfl|rfl|rfl|rfl
  .exact arh
  .exact ari
  .exact arj
  .exact ark
  .exact arl
  .exact arn
  .exact aro
  .exact arp
 exact List.all_eq_true.1 this b hb
end
end Go.Nk
