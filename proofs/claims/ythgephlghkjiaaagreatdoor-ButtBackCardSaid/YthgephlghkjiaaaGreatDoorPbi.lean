/- Part Pbi of the proof of ButtBack: here the tied card of nocklaw08.ButtBack is proved, as given (Rows.ButtBackCardSaid); conditions: none beside those that the card itself says. -/
import Derived.Test.YthgephlghkjiaaaGreatDoorCards
import Derived.Test.YthgephlghkjiaaaGreatDoorTie
import Derived.SevenTiedAt
import Derived.Test.YthgephlghkjiaaaGreatDoorPbh
set_option maxRecDepth 100000
set_option maxHeartbeats 4000000
set_option linter.all false
namespace Go.Proofs.YthgephlghkjiaaaGreatDoor
open Go
theorem buttBackCard_holds:Rows.ButtBackCardSaid:=
 ⟨Claim7.tied_new_at .later [.data,.data,.data,.data,.handle,.sentinel,.sentinel,.funcs,.funcs,.sentinel,.pinned] true (Claim7.new_of_sixth Go.Nk.acY (true, "cada5125b5d438357a3c1f09bb87d34e2da591146fc073b2e3c64ced73168703") true rfl ⟨rfl,rfl⟩ (by kernel_rfl) (by kernel_rfl) (fun f fn aP Qt=>by
   obtain rfl:f=4:=Option.some.inj ((show Tryz.prog.funcNamed "nock/nocklaw08.ButtBack" =some 4 by kernel_rfl).symm.trans aP) |>.symm;obtain rfl:fn=Tryz.f4:=(Option.some.inj (Tryz.func4.symm.trans Qt)).symm;exact ⟨by kernel_rfl,fun j t aj=>by
    rw [Tryz.params4] at aj;have hm:t∈[25,29]:=by simpa using Array.mem_of_getElem? aj
    have kn:([25,29].all fun u=> !Tryz.prog.wantsStandIn u)=true:=by kernel_rfl
    exact (show Tryz.prog.wantsStandIn t=false by simpa using List.all_eq_true.1 kn t hm)⟩)) (by kernel_rfl),
  (fun D du=>by cases du),buttBack_row_tie,(fun h=>by cases h),(by kernel_rfl)⟩
end Go.Proofs.YthgephlghkjiaaaGreatDoor
