/- Part Pbg of the proof of ButtBack: lemmas. -/
import Derived.Conc.HoldsTime
import Derived.Lay
import Derived.MakeChecks
import Derived.ReadAgain
import Derived.ChangeReads
import Derived.Stop.Joined
import Derived.Test.YthgephlghkjiaaaGreatDoorPbf
set_option maxRecDepth 100000
set_option maxHeartbeats 4000000
set_option linter.all false
namespace Go.Nk
noncomputable section
open Go Go.Conc Go.Proofs
section
open Go.ChangeShapes Go.WideShapes Go.Proofs.YthgephlghkjiaaaGreatDoor
theorem asn:ownKnob Tryz.prog.godebug=none:=by kernel_rfl
theorem apy:Kids Tryz.prog (· <Tryz.prog.types.size):=kids_rows (by kernel_rfl) (by kernel_rfl)
theorem apz:∀t e,t<Tryz.prog.types.size->Tryz.prog.underlying t=some (.slice e)->0<Tryz.prog.cellsOf e:=slices_full_of _ (by kernel_rfl)
def HW(os:Os):World:=
 let w0:=World.holding Tryz.prog os ⟨#[],#[],[]⟩
 {w0 with heap:=((w0.heap.modify 0 fun
   | .cells _ t f=>.cells #[ea 275 [],ea 276 [],ea 277 []] t f
   | o=>o).modify 1 fun
   | .cells _ t f=>.cells #[ea 289 [],ea 250 []] t f
   | o=>o).modify 2 fun
   | .cells _ t f=>.cells #[.iface 235 (.agg #[typeHandle Tryz.prog 91])] t f
   | o=>o}
def q6:List (String×DataW Unit):=Rows.buttBackRow.laid.filter fun x=>x.2.handleName?.isNone
noncomputable def yx(os:Os):World:=(HW os).layVars Tryz.prog q6
theorem Kx:(q6.filter fun x=>(q6.map (·.1)).contains x.1)=q6:=List.filter_eq_self.2 fun x aa=>List.contains_iff_mem.2 (List.mem_map.2 ⟨x,aa,rfl⟩)
theorem aes:(q6.filter fun x=> !(q6.map (·.1)).contains x.1)=[]:=List.filter_eq_nil_iff.2 fun x aa=>by rw [List.contains_iff_mem.2 (List.mem_map.2 ⟨x,aa,rfl⟩)];simp
theorem ajS(os:Os):(HW os).layFits Tryz.prog q6 []=true:=by kernel_rfl
theorem aet(os:Os):(HW os).layIfaces Tryz.prog q6 (yx os)=true:=by kernel_rfl
def Ad:Array Value:=#[.agg #[.slice none 0 0,.slice none 0 0,.int .i64 0,.int .i64 0],.agg #[.slice none 0 0,.slice none 0 0]]
theorem agZ(os:Os):laidMet Tryz.prog q6 ((yx os).forCall (fun _ _=>0) ⟨#[],Ad,[]⟩).memory:=by
 have h:laidMet Tryz.prog q6 (yx os):=laidMet_layVars (w0:=HW os) (q6.map (·.1)) [] (by rw [Kx];rfl) (by rw [Kx];exact ajS os) (by rw [Kx];exact aet os) (by rw [aes];exact LaidIn.none);exact h.of_heap (by simp [World.memory,World.forCall,Input.heap])
theorem amX(os:Os):laidMetH Tryz.prog Rows.buttBackRow.laid ((yx os).forCall (fun _ _=>0) ⟨#[],Ad,[]⟩).memory:=
 laidMetH_of_parts3 (fuel:=8) (agZ os) (by kernel_rfl) (by kernel_rfl)
theorem aeu(os:Os):((yx os).forCall (fun _ _=>0) ⟨#[],Ad,[]⟩).Shaped Tryz.prog:=World.shaped_of_ZipB (by kernel_rfl) (by kernel_rfl)
end
end
end Go.Nk
