/- Part Pbg of the proof of ButtTexts: lemmas. -/
import Derived.Test.YthgephlghkjiaaaGreatDoorPbf
set_option maxRecDepth 100000
set_option maxHeartbeats 4000000
set_option linter.all false
namespace Go.Nk
noncomputable section
open Go Go.Conc Go.Proofs
open Option renaming some->C
def ar9:Code->Code
 | .seq _ y=>y
 |c=>c
def eK:Code->Code
 | .seq x _=>x
 |c=>c
def cR:Nat->Code->Code
 | 0,c=>c
 |k+1,c=>cR k (ar9 c)
def asa:mx->List mY
 | .reg l=>l
 |_=>[]
noncomputable def XU:Code:=Tryz.f7.body.getD .skip
noncomputable def jm(k:Nat):List mY:=asa (comp Tryz.prog (dV 7) (eK (cR k XU)))
noncomputable def NS:mx:=comp Tryz.prog (dV 7) (cR 13 XU)
def asb:oM arW (ix (eP fp kC 60) (jm 0) Xv BC)=C (Xw,Xx):=O
def asc:oM arX (ix (eP fp kC 60) (jm 1) Xw Xx)=C (Xy,Xz):=O
def asd:oM arY (ix (eP fp kC 60) (jm 2) Xy Xz)=C (XA,XB):=O
def ase:oM arZ (ix (eP fp kC 60) (jm 3) XA XB)=C (XC,XD):=O
def asf:oM ar0 (ix (eP fp kC 60) (jm 4) XC XD)=C (XE,XF):=O
def ash:oM ar1 (ix (eP fp kC 60) (jm 5) XE XF)=C (XG,XH):=O
def asi:oM ar2 (ix (eP fp kC 60) (jm 6) XG XH)=C (XI,XJ):=O
def asj:oM ar3 (ix (eP fp kC 60) (jm 7) XI XJ)=C (XK,XL):=O
def asl:oM ar4 (ix (eP fp kC 60) (jm 8) XK XL)=C (XM,XN):=O
def asm:oM ar5 (ix (eP fp kC 60) (jm 9) XM XN)=C (XO,XP):=O
def asn:oM ar6 (ix (eP fp kC 60) (jm 10) XO XP)=C (XQ,XR):=O
def aso:oM ar7 (ix (eP fp kC 60) (jm 11) XQ XR)=C (XS,XT):=O
def asp:oM ar8 (ix (eP fp kC 60) (jm 12) XS XT)=C (BD,vl):=O
def asq:jX->Option Value
 | .ok .ret E _=>C (E.rd 0)
 |_=>none
def XV:asq (gK (eP fp kC 60) NS BD vl)=C (.bool true):=O
end
end Go.Nk
