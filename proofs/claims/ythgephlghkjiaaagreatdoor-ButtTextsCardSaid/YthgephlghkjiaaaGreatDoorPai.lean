/- Part Pai of the proof of ButtTexts: lemmas. -/
import Derived.Test.YthgephlghkjiaaaGreatDoorPah
set_option maxRecDepth 100000
set_option maxHeartbeats 4000000
set_option linter.all false
namespace Go.Nk
noncomputable section
open Go Go.Conc Go.Proofs
open Bool renaming false->q9,true->J
abbrev bX:=Int×Int
def dm:List bX:=[(0,0),(0,1),(0,2),(0,3),(1,0),(1,1),(1,2),(1,3)]
def bT(x:bX):List Value:=[.int .i64 x.1,.int .i64 x.2]
def iL:List bX->List Value
 | []=>[]
 |x::l=>.int .i64 x.1::.int .i64 x.2::iL l
def m9(l:List bX):cj:=.cs q9 J 57 (iL l)
def sV(l:List bX):cj:=.cs q9 q9 57 (iL l)
def xS(l:List bX):Value:=.slice (some ⟨12,0,none⟩) l.length df
def rG(l:List bX):Value:=.slice (some ⟨12,0,none⟩) l.length l.length
def CP(l:List Int):List Value:=l.map (.int .i64)
def CQ(b:Nat):Value:=.slice (some ⟨b,0,none⟩) 4 4
def sW:List Value:=[.slice (some ⟨14,0,none⟩) 2 2,.slice (some ⟨17,0,none⟩) 2 2,.int .i64 20,.int .i64 1]
def l8:List cj:=[.cs q9 q9 119 sW,.cs q9 q9 46 [CQ 15,CQ 16],.cs q9 q9 3 (CP [5,0,9,3]),.cs q9 q9 3 (CP [12,12,0,0]),.cs q9 q9 49 [CQ 18,CQ 19],.cs q9 q9 63 (CP [8,8,4,4,0,2,0,0]),.cs q9 q9 63 (CP [6,6,6,7,0,0,0,0])]
def qK:Option (Value×aE)->Option Int|some (.int .i64 n,_)=>some n|_=>none
def Ad:Option (Value×aE)->Option (Int×Bool)|some (.tuple #[.int .i64 n,.bool b],_)=>some (n,b)|_=>none
def HG(a b:Int):Int:=if a<b then -1 else if b<a then 1 else 0
def xT(a b:bX):Int:=if HG a.1 b.1=0 then HG a.2 b.2 else HG a.1 b.1
def gr:Int->List bX->Int
 |_,[]=>0
 |last,x::l=>(if x.1≠last then 1 else 0)+gr x.1 l
def aaC:List (List Int):=[[19,20,17,18,19,19,13,18],[15,17,18,16,19,19,12,18],[17,17,23,24,19,19,17,18],[15,13,19,20,19,19,13,18],[20,20,20,20,26,27,20,22],[16,16,16,16,22,23,16,20],[14,14,15,16,20,21,14,18],[20,20,20,20,27,20,20,26]]
def Py(a:bX):Nat:=(4*a.1+a.2).toNat
def pI(a b:bX):Int:=(aaC.getD (Py a) []).getD (Py b) 0
def Ae(o:Option Int)(n:Int):Bool:=match o with|some m=>decide (m=n)|none=>q9
def xU(o:Option (Int×Bool))(n:Int)(b:Bool):Bool:=match o with|some (m,c)=>decide (m=n)&&(cond b c (!c))|none=>q9
def aaD:(dm.all λa=>dm.all λb=>Ae (qK (eP fp iU 30 62 [xS [a,b]] (gd [m9 [a,b]]))) (gr 0 [a,b]))=J:=O
def aaE:(dm.all λa=>Ae (qK (eP fp iU 30 62 [rG [a]] (gd [sV [a]]))) (gr 0 [a]))=J:=O
def vV{a:bX}(h:a∈dm):a=(0,0)\/a=(0,1)\/a=(0,2)\/a=(0,3)\/a=(1,0)\/a=(1,1)\/a=(1,2)\/a=(1,3):=by simpa[dm]using h
end
end Go.Nk
