/- Part Pbe of the proof of ButtBack: lemmas. -/
import Derived.Test.YthgephlghkjiaaaGreatDoorPbd
set_option maxRecDepth 100000
set_option maxHeartbeats 4000000
set_option linter.all false
namespace Go.Nk
noncomputable section
open Go Go.Conc Go.Proofs
def auz:Code->Code
 | .seq _ y=>y
 | c=>c
def ez:Code->Code
 | .seq x _=>x
 | c=>c
def cP:Nat->Code->Code
 | 0,c=>c
 | k+1,c=>cP k (auz c)
def ash:ng->List nQ
 | .reg l=>l
 | _=>[]
noncomputable def acN:Code:=Tryz.f7.body.getD .skip
noncomputable def jo(k:Nat):List nQ:=ash (comp Tryz.prog (ef 7) (ez (cP k acN)))
noncomputable def Sr:ng:=comp Tryz.prog (ef 7) (cP 13 acN)
theorem ax1:oR axS (hQ (eH fl kp 60) (jo 0) abK DV)=some (abL,abM):=by kernel_rfl
theorem ax2:oR axT (hQ (eH fl kp 60) (jo 1) abL abM)=some (abN,abO):=by kernel_rfl
theorem ax3:oR axU (hQ (eH fl kp 60) (jo 2) abN abO)=some (abP,abQ):=by kernel_rfl
theorem ax4:oR axV (hQ (eH fl kp 60) (jo 3) abP abQ)=some (abR,abS):=by kernel_rfl
theorem ax5:oR axW (hQ (eH fl kp 60) (jo 4) abR abS)=some (abT,abU):=by kernel_rfl
theorem ax6:oR axX (hQ (eH fl kp 60) (jo 5) abT abU)=some (abV,abW):=by kernel_rfl
theorem ax7:oR axY (hQ (eH fl kp 60) (jo 6) abV abW)=some (abX,abY):=by kernel_rfl
theorem ax8:oR axZ (hQ (eH fl kp 60) (jo 7) abX abY)=some (abZ,ab0):=by kernel_rfl
theorem ax9:oR ax0 (hQ (eH fl kp 60) (jo 8) abZ ab0)=some (ab1,ab2):=by kernel_rfl
theorem aya:oR auu (hQ (eH fl kp 60) (jo 9) ab1 ab2)=some (Zy,Zz):=by kernel_rfl
theorem auA:oR auv (hQ (eH fl kp 60) (jo 10) Zy Zz)=some (ZA,ZB):=by kernel_rfl
theorem auB:oR auw (hQ (eH fl kp 60) (jo 11) ZA ZB)=some (ZC,ZD):=by kernel_rfl
theorem auC:oR auy (hQ (eH fl kp 60) (jo 12) ZC ZD)=some (CP,vK):=by kernel_rfl
def auD:j3->Option Value
 | .ok .ret E _=>some (E.rd 0)
 | _=>none
theorem ab3:auD (gV (eH fl kp 60) Sr CP vK)=some (.bool true):=by kernel_rfl
end
end Go.Nk
