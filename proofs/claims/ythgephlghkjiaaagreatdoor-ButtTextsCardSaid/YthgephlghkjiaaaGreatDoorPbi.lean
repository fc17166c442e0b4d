/- Part Pbi of the proof of ButtTexts: lemmas. -/
import Derived.Conc.HoldsTime
import Derived.Lay
import Derived.MakeChecks
import Derived.ReadAgain
import Derived.ChangeReads
import Derived.Stop.Joined
import Derived.Test.YthgephlghkjiaaaGreatDoorPbh
set_option maxRecDepth 100000
set_option maxHeartbeats 4000000
set_option linter.all false
namespace Go.Nk
noncomputable section
open Go Go.Conc Go.Proofs
open Go.Proofs.Tryz renaming prog->pv
section
open Go.ChangeShapes Go.WideShapes Go.Proofs.YthgephlghkjiaaaGreatDoor
def atk:ownKnob pv.godebug=none:=O
def atl:Kids pv (· <pv.types.size):=kids_rows O O
def atm:∀t e,t<pv.types.size->pv.underlying t=some (.slice e)->0<pv.cellsOf e:=slices_full_of _ O
noncomputable def Gv(b:Os):World:=let a:=World.holding pv b ⟨#[],#[],[]⟩
 {a with heap:=((a.heap.modify 0 λ
   | .cells _ t f=>.cells #[dO 275 [],dO 276 [],dO 277 []] t f
   |o=>o).modify 1 λ
   | .cells _ t f=>.cells #[dO 289 [],dO 250 []] t f
   |o=>o).modify 2 λ
   | .cells _ t f=>.cells #[.iface 235 (.agg #[typeHandle pv 91])] t f
   |o=>o}
noncomputable def ru:List (String×DataW Unit):=Rows.buttTextsRow.laid.filter λx=>x.2.handleName?.isNone
noncomputable def w9(a:Os):World:=(Gv a).layVars pv ru
def NX:(ru.filter λx=>(ru.map (·.1)).contains x.1)=ru:=List.filter_eq_self.2 λx a=>List.contains_iff_mem.2 (List.mem_map.2 ⟨x,a,rfl⟩)
def atn:(ru.filter λx=> !(ru.map (·.1)).contains x.1)=[]:=List.filter_eq_nil_iff.2 λx a=>by rw[List.contains_iff_mem.2 (List.mem_map.2 ⟨x,a,rfl⟩)];simp
def ato(a:Os):(Gv a).layFits pv ru []=true:=O
def atp(a:Os):(Gv a).layIfaces pv ru (w9 a)=true:=O
def zy:Array Value:=#[.agg #[.slice none 0 0,.slice none 0 0,.int .i64 0,.int .i64 0],.agg #[.slice none 0 0,.slice none 0 0],.string ⟨#[]⟩]
def atq(a:Os):laidMet pv ru ((w9 a).forCall (λ_ _=>0) ⟨#[],zy,[]⟩).memory:=by have h:laidMet pv ru (w9 a):=laidMet_layVars (w0:=Gv a) (ru.map (·.1)) [] (by rw[NX];rfl) (by rw[NX];exact ato a) (by rw[NX];exact atp a) (by rw[atn];exact LaidIn.none);exact h.of_heap (by simp[World.memory,World.forCall,Input.heap])
def atr(a:Os):laidMetH pv Rows.buttTextsRow.laid ((w9 a).forCall (λ_ _=>0) ⟨#[],zy,[]⟩).memory:=laidMetH_of_parts3 (fuel:=8) (atq a) O O
def ats(a:Os):((w9 a).forCall (λ_ _=>0) ⟨#[],zy,[]⟩).Shaped pv:=World.shaped_of_ZipB O O
end
end
end Go.Nk
