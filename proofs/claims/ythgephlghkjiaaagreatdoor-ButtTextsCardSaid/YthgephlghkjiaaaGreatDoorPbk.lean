/- Part Pbk of the proof of ButtTexts: here the tied card of nocklaw08.ButtTexts is proved, as given (Rows.ButtTextsCardSaid); conditions: none beside those that the card itself says. -/
import Derived.Test.YthgephlghkjiaaaGreatDoorCards
import Derived.Test.YthgephlghkjiaaaGreatDoorTie
import Derived.SevenTiedAt
import Derived.Test.YthgephlghkjiaaaGreatDoorPbj
set_option maxRecDepth 100000
set_option maxHeartbeats 4000000
set_option linter.all false
namespace Go.Proofs.YthgephlghkjiaaaGreatDoor
open Go
theorem buttTextsCard_holds:Rows.ButtTextsCardSaid:=
 ⟨Claim7.tied_new_at .later [.data,.data,.data,.data,.handle,.sentinel,.sentinel,.funcs,.funcs,.sentinel,.pinned] true (Claim7.new_of_sixth Go.Nk.atv (true, "cada5125b5d438357a3c1f09bb87d34e2da591146fc073b2e3c64ced73168703") true rfl ⟨rfl,rfl⟩ (by kernel_rfl) (by kernel_rfl) (fun f fn hf hfn=>by
   obtain rfl:f=3:=Option.some.inj ((show Tryz.prog.funcNamed "nock/nocklaw08.ButtTexts" =some 3 by kernel_rfl).symm.trans hf) |>.symm;obtain rfl:fn=Tryz.f3:=(Option.some.inj (Tryz.func3.symm.trans hfn)).symm;exact ⟨by kernel_rfl,fun j t ht=>by
    rw [Tryz.params3] at ht;have hm:t∈[25,29,9]:=by simpa using Array.mem_of_getElem? ht
    have hall:([25,29,9].all fun u=> !Tryz.prog.wantsStandIn u)=true:=by kernel_rfl
    exact (show Tryz.prog.wantsStandIn t=false by simpa using List.all_eq_true.1 hall t hm)⟩)) (by kernel_rfl),
  (fun D hD=>by cases hD),buttTexts_row_tie,(fun h=>by cases h),(by kernel_rfl)⟩
end Go.Proofs.YthgephlghkjiaaaGreatDoor
