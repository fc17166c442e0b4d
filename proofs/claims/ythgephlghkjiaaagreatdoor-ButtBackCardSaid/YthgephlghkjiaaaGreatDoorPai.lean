/- Part Pai of the proof of ButtBack: lemmas. -/
import Derived.Test.YthgephlghkjiaaaGreatDoorPah
set_option maxRecDepth 100000
set_option maxHeartbeats 4000000
set_option linter.all false
namespace Go.Nk
noncomputable section
open Go Go.Conc Go.Proofs
abbrev b6:=Int×Int
def dv:List b6:=[(0,0),(0,1),(0,2),(0,3),(1,0),(1,1),(1,2),(1,3)]
def ee(x:b6):List Value:=[.int .i64 x.1,.int .i64 x.2]
def iw:List b6->List Value
 | []=>[]
 | x::l=>.int .i64 x.1::.int .i64 x.2::iw l
def nB(l:List b6):cn:=.cs false true 57 (iw l)
def tB(l:List b6):cn:=.cs false false 57 (iw l)
def AO(l:List b6):Value:=.slice (some ⟨12,0,none⟩) l.length dj
def sF(l:List b6):Value:=.slice (some ⟨12,0,none⟩) l.length l.length
def ints(l:List Int):List Value:=l.map (.int .i64)
def Ir(b:Nat):Value:=.slice (some ⟨b,0,none⟩) 4 4
def tC:List Value:=[.slice (some ⟨14,0,none⟩) 2 2,.slice (some ⟨17,0,none⟩) 2 2,.int .i64 20,.int .i64 1]
def mg:List cn:=[.cs false false 119 tC,.cs false false 46 [Ir 15,Ir 16],.cs false false 3 (ints [5,0,9,3]),.cs false false 3 (ints [12,12,0,0]),.cs false false 49 [Ir 18,Ir 19],.cs false false 63 (ints [8,8,4,4,0,2,0,0]),.cs false false 63 (ints [6,6,6,7,0,0,0,0])]
def rk:Option (Value×aL)->Option Int|some (.int .i64 n,_)=>some n|_=>none
def Cb:Option (Value×aL)->Option (Int×Bool)|some (.tuple #[.int .i64 n,.bool b],_)=>some (n,b)|_=>none
def Pk(a b:Int):Int:=if a<b then -1 else if b<a then 1 else 0
def Aj(a b:b6):Int:=if Pk a.1 b.1=0 then Pk a.2 b.2 else Pk a.1 b.1
def gO:Int->List b6->Int
 | _,[]=>0
 | last,x::l=>(if x.1≠last then 1 else 0)+gO x.1 l
def asI:List (List Int):=[[19,20,17,18,19,19,13,18],[15,17,18,16,19,19,12,18],[17,17,23,24,19,19,17,18],[15,13,19,20,19,19,13,18],[20,20,20,20,26,27,20,22],[16,16,16,16,22,23,16,20],[14,14,15,16,20,21,14,18],[20,20,20,20,27,20,20,26]]
def acb(a:b6):Nat:=(4*a.1+a.2).toNat
def qE(a b:b6):Int:=(asI.getD (acb a) []).getD (acb b) 0
def Cn(o:Option Int)(n:Int):Bool:=match o with|some m=>decide (m=n)|none=>false
def Ak(o:Option (Int×Bool))(n:Int)(b:Bool):Bool:=match o with|some (m,c)=>decide (m=n)&&(cond b c (!c))|none=>false
theorem avn:(dv.all fun a=>dv.all fun b=>Cn (rk (eH fl iF 30 62 [AO [a,b]] (gn [nB [a,b]]))) (gO 0 [a,b]))=true:=by kernel_rfl
theorem asJ:(dv.all fun a=>Cn (rk (eH fl iF 30 62 [sF [a]] (gn [tB [a]]))) (gO 0 [a]))=true:=by kernel_rfl
theorem xF{a:b6}(h:a∈dv):a=(0,0)\/a=(0,1)\/a=(0,2)\/a=(0,3)\/a=(1,0)\/a=(1,1)\/a=(1,2)\/a=(1,3):=by simpa [dv] using h
end
end Go.Nk
