/- Part Pak of the proof of ButtBack: lemmas. -/
import Derived.Test.YthgephlghkjiaaaGreatDoorProg
import Derived.Conc.MuSpec
import Derived.Test.YthgephlghkjiaaaGreatDoorPad
set_option maxRecDepth 100000
set_option maxHeartbeats 4000000
set_option linter.all false
namespace Go.Nk
noncomputable section
open Go Go.Conc Go.Proofs
def b1:Code->Code
 | .seq x _=>x
 | .cond _ x _=>x
 | .block _ x=>x
 | .loop x=>x
 | .scope x=>x
 | .rangeFunc _ _ x _=>x
 | c=>c
def bC:Code->Code
 | .seq _ y=>y
 | .cond _ _ y=>y
 | .rangeFunc _ _ _ y=>y
 | c=>c
theorem aT(a b:Code)(q:a=b):a=b:=q
theorem aM{a b:Prop}(x:a)(y:b):a/\b:=⟨x,y⟩
section
variable{ah:Type}(X:Env->List Deferred->ah->ab->Prop)(K:eZ->Env->List Deferred->ah->ab->Prop)(e:Env)(d:List Deferred)(s:ah)(h:ab)
theorem avp:tG X K .cB e d s h=X e d s h:=rfl
theorem Qi(i:Nat):tG X K (.ext i) e d s h=K (.ext i) e d s h:=rfl
theorem Z4:tG X K .ret e d s h=K .ret e d s h:=rfl
theorem Z5(i:Nat):mj i K .cB e d s h=K .cB e d s h:=rfl
theorem Z6(i:Nat):mj i K .ret e d s h=K .ret e d s h:=rfl
theorem Qj(i:Nat):mj i K (.ext i) e d s h=K .cB e d s h:=by simp [mj]
theorem Z7(i j:Nat)(ae:(j=i)=False):mj i K (.ext j) e d s h=K (.ext j) e d s h:=by simp [mj,ae]
end
theorem aku(A B:Prop):@O5 (.bool true) ⟨A⟩ ⟨B⟩=A:=rfl
theorem akv(A B:Prop):@O5 (.bool false) ⟨A⟩ ⟨B⟩=B:=rfl
section
variable{P:Program}{main:Bool}{ah:Type}{S:Sys ah}{n:Nat}{b:bn}{e:Env}{d:List Deferred}{s:ah}{h:ab}
variable{K:eZ->Env->List Deferred->ah->ab->Prop}{c b2 x y:Code}{l rest:List Oper}{i k:Nat}{N:Env->List Deferred->ah->ab->Prop}
theorem anr:cF P main S n b (.seq (.region i l.toArray false) y) K e d s h=kL P main S b l.toArray l e d s h (cF P main S n b y K):=rfl
theorem X3:cF P main S n b (.seq x y) K e d s h=cF P main S n b x (tG (cF P main S n b y K) K) e d s h:=rfl
theorem ahr:cF P main S n b (.region i l.toArray false) K e d s h=kL P main S b l.toArray l e d s h (K .cB):=rfl
theorem kJ:cF P main S n b (.region i l.toArray true) K e d s h=∀t,gk P main S b l.toArray (Region.schedule (P.follows .mixedOrders) l.toArray t) e d s h (K .cB):=rfl
theorem akw:cF P main S n b (.block i x) K e d s h=cF P main S n b x (mj i K) e d s h:=rfl
theorem akx:cF P main S n b (.scope x) K e d s h=cF P main S n b x K e d s h:=rfl
theorem ans{t:Operand}:cF P main S n b (.cond t x y) K e d s h=@bE _ _ (aS e t) ⟨fun v=>@O5 v ⟨cF P main S n b x K e d s h⟩ ⟨cF P main S n b y K e d s h⟩⟩:=rfl
theorem wV{t:TypeId}{z:Value}(aH:zeroOf P t=some z)[K:hE ah](hs:CW t=false:=by rfl):oi P main S b t s h=∀c,h c=none->K.f s (h.put c ⟨.cells z.cells t,true⟩) (.pointer (some ⟨c,0,none⟩)):=by
 unfold oi;rw [hs];exact KA (K:=⟨fun v h=>K.f s h v⟩) aH
variable{ops:Array Oper}{t ty Z8 t1 t2:Nat}{pos:String}{es:Array Edge}{g:Option (Nat×Bool)}{a a1 a2 a3:Operand}{dst:Option Nat}{op:Op}{j:Nat}{w:Bool}
theorem ad5{β:Sort 1}(f:Value->β):@bE _ _ undef ⟨f⟩=f undef:=rfl
theorem apU:kL P main S b ops [] e d s h N=N e d s h:=rfl
theorem ant:kL P main S b ops (⟨dst,op,ty,pos,es,none⟩::rest) e d s h N=b3 P main S b ⟨dst,op,ty,pos,es,none⟩ e d s h fun e d s h=>kL P main S b ops rest e d s h N:=rfl
def kZ:List Oper->Nat->Option Nat
 | [],_=>none
 | o::_,0=>o.dst
 | _::l,n+1=>kZ l n
theorem aky{o:Oper}:kZ (o::l) 0=o.dst:=rfl
theorem akz{o:Oper}:kZ (o::l) (j+1)=kZ l j:=rfl
def It(o:Option Nat)(e:Env)(w:Bool):Bool:=match o with|some t=>CV (e t) w|none=>false
theorem ahs:It (some t) e w=CV (e t) w:=rfl
theorem aeN:(kH l.toArray e j==some w)=It (kZ l j) e w:=by
 have h:(l.toArray[j]?).bind (·.dst)=kZ l j:=by
  simp only [List.getElem?_toArray]
  induction l generalizing j with
  | nil=>rfl
  | cons o l aN=>cases j with|zero=>rfl|succ j=>simp only [List.getElem?_cons_succ];exact aN
 unfold kH It CV;rw [h];cases kZ l j with
 | none=>rfl
 | some t=>rfl
theorem akA:kL P main S b l.toArray (⟨dst,op,ty,pos,es,some (j,w)⟩::rest) e d s h N=@bE _ _ (It (kZ l j) e w) ⟨fun y=>@xT y ⟨b3 P main S b ⟨dst,op,ty,pos,es,some (j,w)⟩ e d s h fun e d s h=>kL P main S b l.toArray rest e d s h N⟩ ⟨kL P main S b l.toArray rest (cv e dst undef) d s h N⟩⟩:=by rw [<- aeN];rfl
variable{op:BinOp}{C8:UnOp}{bF:Array (Nat×Operand)}{f:Fn}{xs kZ:Array Operand}{dN:Array Nat}{r lo hi bB:Option Operand}
theorem anu:b3 P main S b ⟨some t,.move a,ty,pos,es,g⟩ e d s h N=@bE _ _ (aS e a) ⟨fun v=>N (upd e t v) d s h⟩:=rfl
theorem aht:b3 P main S b ⟨some t,.assign a,ty,pos,es,g⟩ e d s h N=@bE _ _ (aS e a) ⟨fun v=>N (upd e t v) d s h⟩:=rfl
theorem anv:b3 P main S b ⟨some t,.pick a1 a2 a3,ty,pos,es,g⟩ e d s h N=@bE _ _ (aS e a1) ⟨fun qS=>@bE _ _ (aS e a2) ⟨fun bS=>@bE _ _ (aS e a3) ⟨fun eS=>@au P _ (xe qS bS eS) h ⟨fun v h=>N (upd e t v) d s h⟩⟩⟩⟩:=rfl
theorem akB:b3 P main S b ⟨some t,.alloc t1,ty,pos,es,g⟩ e d s h N=@oi P main _ S b t1 s h ⟨fun s h v=>N (upd e t v) d s h⟩:=rfl
theorem apV:b3 P main S b ⟨some t,.box t1 a,ty,pos,es,g⟩ e d s h N=@bE _ _ (aS e a) ⟨fun bS=>@au P _ (Instr.box t1 bS) h ⟨fun v h=>N (upd e t v) d s h⟩⟩:=rfl
theorem akC:b3 P main S b ⟨some t,.build t1 bF,ty,pos,es,g⟩ e d s h N=@au P _ (Instr.build t1 ((bF.toList.map fun p=>(p.1,aS e p.2)).toArray)) h ⟨fun v h=>N (upd e t v) d s h⟩:=rfl
theorem adj:b3 P main S b ⟨some t,.buildSlice t1 i bF,ty,pos,es,g⟩ e d s h N=@au P _ (Instr.buildSlice t1 i ((bF.toList.map fun p=>(p.1,aS e p.2)).toArray)) h ⟨fun v h=>N (upd e t v) d s h⟩:=rfl
theorem anw:b3 P main S b ⟨some t,.load t1 a,ty,pos,es,g⟩ e d s h N=@bE _ _ (aS e a) ⟨fun bS=>@fa P main _ S b t1 bS s h ⟨fun s h v=>N (upd e t v) d s h⟩⟩:=rfl
theorem akD:b3 P main S b ⟨none,.store t1 a1 a2,ty,pos,es,g⟩ e d s h N=@bE _ _ (aS e a1) ⟨fun bS=>@bE _ _ (aS e a2) ⟨fun eS=>@au P _ (Instr.storeAt t1 bS eS) h ⟨fun _ h=>N e d s h⟩⟩⟩:=rfl
theorem ad6:b3 P main S b ⟨dst,.nilCheck a,ty,pos,es,g⟩ e d s h N=@bE _ _ (aS e a) ⟨fun bS=>@au P _ (xz bS) h ⟨fun ar h=>@ri P main _ S dst e d s ⟨N⟩ ar h⟩⟩:=rfl
theorem apW:b3 P main S b ⟨some t,.binOp op t1 a1 a2 i,ty,pos,es,g⟩ e d s h N=@bE _ _ (aS e a1) ⟨fun bS=>@bE _ _ (aS e a2) ⟨fun eS=>@au P _ (cr op t1 a1 a2 bS eS) h ⟨fun v h=>N (upd e t v) d s h⟩⟩⟩:=rfl
theorem asM:b3 P main S b ⟨some t,.unOp C8 t1 a,ty,pos,es,g⟩ e d s h N=@bE _ _ (aS e a) ⟨fun bS=>@au P _ (Op.unary C8 bS) h ⟨fun v h=>N (upd e t v) d s h⟩⟩:=rfl
theorem aeO:b3 P main S b ⟨some t,.convert t1 t2 a,ty,pos,es,g⟩ e d s h N=@bE _ _ (aS e a) ⟨fun bS=>@iJ P main _ S b t1 t2 bS s h ⟨fun s h v=>N (upd e t v) d s h⟩⟩:=rfl
theorem apX:b3 P main S b ⟨some t,.makeInterface t1 a,ty,pos,es,g⟩ e d s h N=@bE _ _ (aS e a) ⟨fun bS=>@au P _ (Instr.makeInterface t1 bS) h ⟨fun v h=>N (upd e t v) d s h⟩⟩:=rfl
theorem apY:b3 P main S b ⟨some t,.makeFunc f xs kZ,ty,pos,es,g⟩ e d s h N=N (upd e t (.func f ((xs.toList.map (aS e)).toArray) ((kZ.toList.map (aS e)).toArray))) d s h:=rfl
theorem apZ:b3 P main S b ⟨some t,.makeMap t1 r,ty,pos,es,g⟩ e d s h N=@au P _ (Instr.makeMap t1 (r.map (aS e))) h ⟨fun v h=>N (upd e t v) d s h⟩:=rfl
theorem ap0:b3 P main S b ⟨some t,.makeSlice t1 a1 a2,ty,pos,es,g⟩ e d s h N=@bE _ _ (aS e a1) ⟨fun bS=>@bE _ _ (aS e a2) ⟨fun eS=>@au P _ (Instr.makeSlice t1 bS eS) h ⟨fun v h=>N (upd e t v) d s h⟩⟩⟩:=rfl
theorem akE:b3 P main S b ⟨some t,.slice t1 a lo hi bB,ty,pos,es,g⟩ e d s h N=@bE _ _ (aS e a) ⟨fun bS=>@au P _ (Instr.sliceAt t1 bS (lo.map (aS e)) (hi.map (aS e)) (bB.map (aS e))) h ⟨fun v h=>N (upd e t v) d s h⟩⟩:=rfl
theorem anx:b3 P main S b ⟨some t,.fieldAddr t1 a i,ty,pos,es,g⟩ e d s h N=@bE _ _ (aS e a) ⟨fun bS=>@au P _ (Instr.fieldAt t1 bS i) h ⟨fun v h=>N (upd e t v) d s h⟩⟩:=rfl
theorem ap1:b3 P main S b ⟨some t,.field t1 a i,ty,pos,es,g⟩ e d s h N=@bE _ _ (aS e a) ⟨fun bS=>@au P _ (Instr.field t1 bS i) h ⟨fun v h=>N (upd e t v) d s h⟩⟩:=rfl
theorem anz:b3 P main S b ⟨some t,.indexAddr t1 a1 a2,ty,pos,es,g⟩ e d s h N=@bE _ _ (aS e a1) ⟨fun bS=>@bE _ _ (aS e a2) ⟨fun eS=>@au P _ (Instr.indexAt t1 bS eS) h ⟨fun v h=>N (upd e t v) d s h⟩⟩⟩:=rfl
theorem ap2:b3 P main S b ⟨some t,.index t1 a1 a2,ty,pos,es,g⟩ e d s h N=@bE _ _ (aS e a1) ⟨fun bS=>@bE _ _ (aS e a2) ⟨fun eS=>@au P _ (Instr.index t1 bS eS) h ⟨fun v h=>N (upd e t v) d s h⟩⟩⟩:=rfl
theorem ahu:b3 P main S b ⟨some t,.lookup t1 a1 a2 w,ty,pos,es,g⟩ e d s h N=@bE _ _ (aS e a1) ⟨fun bS=>@bE _ _ (aS e a2) ⟨fun eS=>@au P _ (Instr.lookup t1 bS eS w) h ⟨fun v h=>N (upd e t v) d s h⟩⟩⟩:=rfl
theorem ahv:b3 P main S b ⟨none,.mapUpdate t1 a1 a2 a3,ty,pos,es,g⟩ e d s h N=@bE _ _ (aS e a1) ⟨fun RK=>@bE _ _ (aS e a2) ⟨fun RL=>@bE _ _ (aS e a3) ⟨fun bS=>@au P _ (Instr.mapUpdate t1 RK RL bS) h ⟨fun _ h=>N e d s h⟩⟩⟩⟩:=rfl
theorem ap3:b3 P main S b ⟨some t,.typeAssert a t1 t2 w,ty,pos,es,g⟩ e d s h N=@bE _ _ (aS e a) ⟨fun bS=>@au P _ (Instr.typeAssert bS t1 t2 w) h ⟨fun v h=>N (upd e t v) d s h⟩⟩:=rfl
theorem ap4:b3 P main S b ⟨some t,.extract a i,ty,pos,es,g⟩ e d s h N=@bE _ _ (aS e a) ⟨fun bS=>@au P _ (Instr.extract bS i) h ⟨fun v h=>N (upd e t v) d s h⟩⟩:=rfl
theorem akF:b3 P main S b ⟨some t,.range t1 a,ty,pos,es,g⟩ e d s h N=@bE _ _ (aS e a) ⟨fun bS=>@au P _ (Instr.range t1 bS) h ⟨fun v h=>N (upd e t v) d s h⟩⟩:=rfl
theorem anA:b3 P main S b ⟨some t,.next a w,ty,pos,es,g⟩ e d s h N=@bE _ _ (aS e a) ⟨fun bS=>@au P _ (Instr.next bS w ty) h ⟨fun v h=>N (upd e t v) d s h⟩⟩:=rfl
theorem asN:b3 P main S b ⟨dst,.go ⟨.value a,xs,dN⟩,ty,pos,es,g⟩ e d s h N=@bE _ _ (aS e a) ⟨fun bS=>@vQ P main _ S b bS ((xs.toList.map (aS e)).toArray) s h ⟨fun s h v=>N (cv e dst v) d s h⟩⟩:=rfl
theorem akG:b3 P main S b ⟨none,.defer ⟨.value (.func k),xs,dN⟩,ty,pos,es,g⟩ e d s h N=ub P main S b k ((xs.toList.map (aS e)).toArray) ⟨none,.defer ⟨.value (.func k),xs,dN⟩,ty,pos,es,g⟩ e d s h N:=rfl
theorem akH:b3 P main S b ⟨dst,.call ⟨.value (.func k),xs,dN⟩,ty,pos,es,g⟩ e d s h N=@eX P main _ S k ((xs.toList.map (aS e)).toArray) s h ⟨fun s h v=>N (cv e dst v) d s h⟩:=rfl
theorem akI:b3 P main S b ⟨dst,.call ⟨.value (.tmp k),xs,dN⟩,ty,pos,es,g⟩ e d s h N=@bE _ _ (e k) ⟨fun v=>@au P _ (sm v ((xs.toList.map (aS e)).toArray)) h ⟨fun ar h=>@ri P main _ S dst e d s ⟨N⟩ ar h⟩⟩:=rfl
theorem ap5:b3 P main S b ⟨dst,.call ⟨.builtin .len,xs,dN⟩,ty,pos,es,g⟩ e d s h N=@au P _ (Builtin.len_ dN ty ((xs.toList.map (aS e)).toArray)) h ⟨fun v h=>N (cv e dst v) d s h⟩:=rfl
theorem ahw:b3 P main S b ⟨dst,.call ⟨.builtin .append,xs,dN⟩,ty,pos,es,g⟩ e d s h N=@au P _ (Builtin.append_ dN ty ((xs.toList.map (aS e)).toArray)) h ⟨fun v h=>N (cv e dst v) d s h⟩:=rfl
theorem anB:b3 P main S b ⟨dst,.call ⟨.builtin .copy,xs,dN⟩,ty,pos,es,g⟩ e d s h N=@au P _ (Builtin.copy_ dN ty ((xs.toList.map (aS e)).toArray)) h ⟨fun v h=>N (cv e dst v) d s h⟩:=rfl
theorem ap6:b3 P main S b ⟨dst,.call ⟨.builtin .max,xs,dN⟩,ty,pos,es,g⟩ e d s h N=@au P _ (Builtin.max_ dN ty ((xs.toList.map (aS e)).toArray)) h ⟨fun v h=>N (cv e dst v) d s h⟩:=rfl
theorem ap7:b3 P main S b ⟨dst,.call ⟨.builtin .min,xs,dN⟩,ty,pos,es,g⟩ e d s h N=@au P _ (Builtin.min_ dN ty ((xs.toList.map (aS e)).toArray)) h ⟨fun v h=>N (cv e dst v) d s h⟩:=rfl
theorem akJ:b3 P main S b ⟨dst,.call ⟨.builtin .clear,xs,dN⟩,ty,pos,es,g⟩ e d s h N=@au P _ (Builtin.clear_ dN ty ((xs.toList.map (aS e)).toArray)) h ⟨fun v h=>N (cv e dst v) d s h⟩:=rfl
theorem acU:b3 P main S b ⟨dst,.call ⟨.builtin .unsafeString,xs,dN⟩,ty,pos,es,g⟩ e d s h N=@au P _ (Builtin.unsafeString_ dN ty ((xs.toList.map (aS e)).toArray)) h ⟨fun v h=>N (cv e dst v) d s h⟩:=rfl
theorem acO:b3 P main S b ⟨dst,.call ⟨.builtin .unsafeSliceData,xs,dN⟩,ty,pos,es,g⟩ e d s h N=@au P _ (Builtin.unsafeSliceData_ dN ty ((xs.toList.map (aS e)).toArray)) h ⟨fun v h=>N (cv e dst v) d s h⟩:=rfl
end
def bc:=aM (aM (aM (aM (aM (aM (@anr) (aM @X3 @ahr)) (aM (aM @akw @akx) (aM @ans @gF))) (aM (aM (aM @ag8 @aeD) (aM @aka @apU)) (aM (aM @ant @akA) (aM @aky @akz)))) (aM (aM (aM (@ahs) (aM @apK @am2)) (aM (aM @am3 @akb) (aM @p6 @p7))) (aM (aM (aM @anu @aht) (aM @anv @akB)) (aM (aM @apV @akC) (aM @adj @anw))))) (aM (aM (aM (aM (@akD) (aM @ad6 @apW)) (aM (aM @asM @aeO) (aM @apX @apY))) (aM (aM (aM @apZ @ap0) (aM @akE @anx)) (aM (aM @ap1 @anz) (aM @ap2 @ahu)))) (aM (aM (aM (aM @ahv @ap3) (aM @ap4 @akF)) (aM (aM @anA @asN) (aM @akG @akH))) (aM (aM (aM @akI @ap5) (aM @ahw @anB)) (aM (aM @ap6 @ap7) (aM @akJ @acU)))))) (aM (aM (aM (aM (aM (@acO) (aM @ad5 @ag9)) (aM (aM @aeF @am1) (aM @aeH @adY))) (aM (aM (aM @adW @aha) (aM @ads @adV)) (aM (aM @ahb @aeG) (aM @ahc @adX)))) (aM (aM (aM (@ac3) (aM @adf @aZ)) (aM (aM @aj4 @aj5) (aM @aj6 @aj7))) (aM (aM (aM @aj8 @aj9) (aM @ahe @ag6)) (aM (aM @aeC @aku) (aM @akv @adS))))) (aM (aM (aM (aM (@am4) (aM @ag7 @adT)) (aM (aM @adU @cM) (aM @aeE @apH))) (aM (aM (aM @apI @apJ) (aM @avp @Qi)) (aM (aM @Z4 @Z5) (aM @Z6 @Qj)))) (aM (aM (aM (aM @Z7 @decide_true) (aM @decide_false @Bool.false_beq)) (aM (aM @Bool.true_beq @Bool.not_true) (aM @Bool.not_false @Bool.false_eq_true))) (aM (aM (aM @Bool.true_eq_false @if_true.{1}) (aM @if_false.{1} @List.map_cons.{0,0})) (aM (aM @List.map_nil.{0,0} @Option.map_some.{0,0}) (aM @Option.map_none.{0,0} @beq_self_eq_true.{0}))))))
def ak:=aM @aZ (aM @p6 @p7)
noncomputable def zW:Code:=Tryz.f97.body.getD .skip
def Oq:Code:=bC zW
def Ot:Code:=bC Oq
def GV:Code:=b1 Ot
def Cc:Code:=b1 GV
def akK:=aT Cc (.region _ [_].toArray _) rfl
def zX:Code:=bC GV
def Ou:Code:=b1 zX
def GW:Code:=bC Ou
def GX:Code:=bC GW
def GY:Code:=bC GX
def F3:Code:=bC GY
def ahx:=aT F3 (.region _ [_].toArray _) rfl
def MK:Code:=b1 GY
def ML:Code:=bC MK
def F4:Code:=bC ML
def W2:Code:=b1 F4
def ahy:=aT W2 (.region _ [_,_,_].toArray _) rfl
def Ux:=aT F4 (.cond _ W2 .skip) rfl
def E4:=aT ML (.seq (.region _ [_,_,_,_,_,_,_].toArray _) F4) rfl
def ahz:=aT MK (.seq (.region _ [_,_,_,_,_].toArray _) ML) rfl
def akL:=aT GY (.seq MK F3) rfl
def akM:=aT GX (.seq (.region _ [_].toArray _) GY) rfl
def MM:Code:=b1 GW
def W3:Code:=bC MM
def ahA:=aT W3 (.cond _ (.exit 1) .skip) rfl
def ahB:=aT MM (.seq (.region _ [_,_].toArray _) W3) rfl
def akN:=aT GW (.seq MM GX) rfl
def akO:=aT Ou (.seq (.region _ [_,_,_,_,_,_,_,_].toArray _) GW) rfl
def akP:=aT zX (.block _ Ou) rfl
def akQ:=aT GV (.rangeFunc _ _ Cc zX) rfl
def akR:=aT Ot (.block _ GV) rfl
def VD:=aT Oq (.seq (.region _ [_,_,_,_].toArray _) Ot) rfl
def akS:=aT zW (.seq (.region _ [_].toArray _) Oq) rfl
theorem ahC:Tryz.f97.body=some zW:=by kernel_rfl
theorem anC:ga 38 zW=true:=by kernel_rfl
noncomputable def GZ:Code:=Tryz.f99.body.getD .skip
def X4:Code:=bC GZ
def akT:=aT X4 (.seq (.region _ [_,_].toArray _) .ret) rfl
def akU:=aT GZ (.seq (.region _ [_,_,_,_].toArray _) X4) rfl
theorem ahD:Tryz.f99.body=some GZ:=by kernel_rfl
theorem anD:ga 8 GZ=true:=by kernel_rfl
noncomputable def F5:Code:=Tryz.f101.body.getD .skip
def F6:Code:=bC F5
def W4:Code:=bC F6
def ahE:=aT W4 (.seq (.region _ [_,_,_,_,_,_,_].toArray _) .ret) rfl
def MN:Code:=b1 F6
def MO:Code:=bC MN
def W5:Code:=b1 MO
def ahF:=aT W5 (.seq (.region _ [_,_,_,_,_,_].toArray _) .ret) rfl
def Uy:=aT MO (.cond _ W5 .skip) rfl
def ahG:=aT MN (.seq (.region _ [_,_,_,_,_].toArray _) MO) rfl
def ahH:=aT F6 (.seq MN W4) rfl
def ahI:=aT F5 (.seq (.region _ [_,_,_].toArray _) F6) rfl
theorem aeP:Tryz.f101.body=some F5:=by kernel_rfl
theorem akV:ga 21 F5=true:=by kernel_rfl
noncomputable def F7:Code:=Tryz.f140.body.getD .skip
def MP:Code:=bC F7
def MQ:Code:=bC MP
def W6:Code:=bC MQ
def ahJ:=aT W6 (.region _ [_,_,_].toArray _) rfl
def Uz:=aT MQ (.seq (.region _ [_,_].toArray _) W6) rfl
def ahK:=aT MP (.seq (.region _ [_].toArray _) MQ) rfl
def ahL:=aT F7 (.seq (.region _ [_].toArray _) MP) rfl
theorem aeQ:Tryz.f140.body=some F7:=by kernel_rfl
theorem akW:ga 10 F7=true:=by kernel_rfl
noncomputable def F8:Code:=Tryz.f141.body.getD .skip
def F9:Code:=bC F8
def Ga:Code:=bC F9
def Gb:Code:=bC Ga
def W7:Code:=bC Gb
def ahM:=aT W7 (.seq (.region _ [_].toArray _) .ret) rfl
def MR:Code:=b1 Gb
def MS:Code:=bC MR
def MU:Code:=b1 MS
def MV:Code:=b1 MU
def Gc:Code:=bC MV
def Fo:Code:=bC Gc
def VE:Code:=bC Fo
def aeR:=aT VE (.region _ [_,_].toArray _) rfl
def Ld:Code:=b1 Fo
def Le:Code:=b1 Ld
def Lf:Code:=bC Le
def Lg:Code:=bC Lf
def Lh:Code:=b1 Lg
def Li:Code:=b1 Lh
def Fp:Code:=bC Li
def Fq:Code:=bC Fp
def VF:Code:=bC Fq
def aeS:=aT VF (.region _ [_,_].toArray _) rfl
def Lj:Code:=b1 Fq
def Lk:Code:=b1 Lj
def Fs:Code:=bC Lk
def Ll:Code:=bC Fs
def akX:Code:=b1 Ll
def aeT:=aT Ll (.cond _ akX .skip) rfl
def VG:Code:=b1 Fs
def wW:List Oper:=[⟨some 34,.load 264 (.tmp 4),264, "butt.go:267",#[],none⟩,⟨some 35,.move (.tmp 0),58, "butt.go:267",#[],none⟩,⟨some 36,.move (.tmp 0),58, "butt.go:267",#[],none⟩,⟨some 37,.call ⟨.builtin .len,#[(.tmp 36)],#[58]⟩,3, "butt.go:267",#[⟨2,.data⟩],none⟩,⟨some 38,.move (.tmp 0),58, "butt.go:267",#[],none⟩,⟨some 39,.call ⟨.builtin .len,#[(.tmp 38)],#[58]⟩,3, "butt.go:267",#[⟨4,.data⟩],none⟩,⟨some 40,.slice 58 (.tmp 35) none (some (.tmp 37)) (some (.tmp 39)),58, "butt.go:267",#[⟨1,.data⟩,⟨3,.data⟩,⟨5,.data⟩],none⟩,⟨some 41,.move (.tmp 7),3, "butt.go:267",#[],none⟩,⟨some 42,.move (.tmp 8),3, "butt.go:267",#[],none⟩,⟨some 43,.build 57 #[(0,(.tmp 41)),(1,(.tmp 42))],57, "butt.go:267",#[⟨7,.data⟩,⟨8,.data⟩],none⟩,⟨some 44,.buildSlice 58 1 #[(0,(.tmp 43))],58, "butt.go:267",#[⟨9,.data⟩],none⟩,⟨some 45,.call ⟨.builtin .append,#[(.tmp 40),(.tmp 44)],#[58,58]⟩,58, "butt.go:267",#[⟨6,.data⟩,⟨10,.data⟩],none⟩,⟨some 46,.call ⟨.value (.tmp 34),#[(.tmp 45)],#[58]⟩,4, "butt.go:267",#[⟨0,.data⟩,⟨11,.data⟩,⟨11,.chain⟩],none⟩,⟨some 47,.unOp .not 4 (.tmp 46),4, "butt.go:267",#[⟨12,.data⟩],none⟩]
def aeU:=aT VG (.region _ (List.toArray wW) _) rfl
def aeV:=aT Fs (.seq VG Ll) rfl
def aeW:=aT Lk (.seq (.region _ [_,_].toArray _) Fs) rfl
def aeX:=aT Lj (.block _ Lk) rfl
def aeY:=aT Fq (.seq Lj VF) rfl
def VH:Code:=b1 Fp
def TC:=aT VH (.cond _ .skip (.exit 2)) rfl
def TD:=aT Fp (.seq VH Fq) rfl
def TE:=aT Li (.seq (.region _ [_].toArray _) Fp) rfl
def aeZ:=aT Lh (.loop Li) rfl
def ae0:=aT Lg (.block _ Lh) rfl
def ae1:=aT Lf (.seq (.region _ [_].toArray _) Lg) rfl
def ae2:=aT Le (.seq (.region _ [_,_].toArray _) Lf) rfl
def ae3:=aT Ld (.block _ Le) rfl
def ae4:=aT Fo (.seq Ld VE) rfl
def VI:Code:=b1 Gc
def TF:=aT VI (.cond _ .skip (.exit 0)) rfl
def UA:=aT Gc (.seq VI Fo) rfl
def UB:=aT MV (.seq (.region _ [_].toArray _) Gc) rfl
def ahN:=aT MU (.loop MV) rfl
def ahO:=aT MS (.block _ MU) rfl
def ahP:=aT MR (.seq (.region _ [_,_,_,_,_].toArray _) MS) rfl
def ahQ:=aT Gb (.seq MR W7) rfl
def Lm:Code:=b1 Ga
def Ln:Code:=bC Lm
def Lo:Code:=b1 Ln
def VJ:Code:=b1 Lo
def zb:List Oper:=[⟨some 20,.load 264 (.tmp 3),264, "butt.go:263",#[],none⟩,⟨some 21,.move (.tmp 0),58, "butt.go:263",#[],none⟩,⟨some 22,.call ⟨.value (.func 142),#[(.tmp 21)],#[58]⟩,58, "butt.go:263",#[⟨1,.data⟩],none⟩,⟨some 23,.call ⟨.value (.tmp 20),#[(.tmp 22)],#[58]⟩,4, "butt.go:263",#[⟨0,.data⟩,⟨2,.data⟩,⟨2,.chain⟩],none⟩,⟨some 6,.assign (.tmp 23),4, "butt.go:263",#[⟨3,.data⟩,⟨3,.chain⟩,⟨0,.phase⟩,⟨1,.phase⟩,⟨2,.phase⟩,⟨3,.phase⟩],none⟩]
def ae5:=aT VJ (.region _ (List.toArray zb) _) rfl
def ae6:=aT Lo (.seq VJ .ret) rfl
def TG:=aT Ln (.cond _ Lo .skip) rfl
def TH:=aT Lm (.seq (.region _ [_,_,_,_,_,_,_].toArray _) Ln) rfl
def UC:=aT Ga (.seq Lm Gb) rfl
def Ft:Code:=b1 F9
def Lp:Code:=bC Ft
def VK:Code:=b1 Lp
def ae7:=aT VK (.seq (.region _ [_].toArray _) .ret) rfl
def Ka:=aT Lp (.cond _ VK .skip) rfl
def VL:Code:=b1 Ft
def zc:List Oper:=[⟨some 9,.move (.tmp 0),58, "butt.go:259",#[],none⟩,⟨some 10,.call ⟨.value (.func 62),#[(.tmp 9)],#[58]⟩,3, "butt.go:259",#[⟨0,.data⟩],none⟩,⟨some 11,.load 3 (.tmp 1),3, "butt.go:259",#[],none⟩,⟨some 12,.binOp .gtr 3 (.tmp 10) (.tmp 11) 3,4, "butt.go:259",#[⟨1,.data⟩,⟨2,.data⟩],none⟩]
def Kb:=aT VL (.region _ (List.toArray zc) _) rfl
def Kc:=aT Ft (.seq VL Lp) rfl
def KJ:=aT F9 (.seq Ft Ga) rfl
def KL:=aT F8 (.seq (.region _ [_].toArray _) F9) rfl
theorem Kd:Tryz.f141.body=some F8:=by kernel_rfl
theorem Lq:ga 50 F8=true:=by kernel_rfl
def fz(hs:Nat->ab)(i b:Nat):Prop:=∃x,hs i b=some x/\x.own=true
def gv(hs:Nat->ab)(i b:Nat):Prop:=∃x,hs i b=some x/\x.own=false
def ek(h:ab)(b:Nat):Prop:=∃x,h b=some x
structure fy(hs:Nat->ab)(n:Nat)(bk:ab)(sh:Nat->Prop)(mu:Addr)(bW:Nat->Prop)(w:World)(t:Trace):Prop where
 eb:∀i,(hs i).In w
 pD:bk.In w
 ex:Ck (fz hs) (gv hs) (ek bk) sh
 out:∀i,n<=i->hs i=fun _=>none
 low:∀b,sh b->b<w.heap.size
 fp:iS (fz hs) (gv hs) (ek bk) sh mu bW n w.heap.size t
section
variable{hs:Nat->ab}{n i:Nat}{bk:ab}{sh:Nat->Prop}{mu:Addr}{bW:Nat->Prop}{w w':World}{t:Trace}{h':ab}{es:Array Event}
theorem tp{j b:Nat}{x:eI}(e:hs j b=some x):fz hs j b\/gv hs j b:=by
 cases aa:x.own with
 | true=>exact .inl ⟨x,e,aa⟩
 | false=>exact .inr ⟨x,e,aa⟩
theorem adk(dF:h'.In w'){e:Event}(he:qn h' e)(hh:hs i=h')(fn:FuncId)(pos:String):
  O4 (fz hs) (gv hs) sh mu i {g:=i,fn,pos,act:=.ofEvent e}/\(MemAct.ofEvent e).low w'.heap.size:=by
 obtain ⟨loc,wr,nO⟩:=e;cases loc with
 | cell a=>
  obtain ⟨h1,x,aa,hw⟩:=he;simp only at h1;subst h1;refine ⟨⟨rfl,by simp [MemAct.ofEvent],fun y ax=> ?_⟩,In.lt dF aa⟩;simp only [MemAct.ofEvent,MemAct.touch?,Option.some.injEq] at ax;subst ax;refine ⟨a.block,rfl,.inr ⟨?_,rfl⟩⟩;cases aQ:x.own with
  | true=>exact .inl ⟨x,by rw [hh];exact aa,aQ⟩
  | false=>exact .inr ⟨⟨x,by rw [hh];exact aa,aQ⟩,by cases wr with|false=>rfl|true=>exact absurd (hw rfl) (by simp [aQ])⟩
 | obj r=>
  obtain ⟨h1,x,aa,hw⟩:=he;simp only at h1;subst h1;refine ⟨⟨rfl,by simp [MemAct.ofEvent],fun y ax=> ?_⟩,by cases wr<;>exact In.lt dF aa⟩;simp only [MemAct.ofEvent,MemAct.touch?,Option.some.injEq] at ax;subst ax;refine ⟨r,rfl,.inr ⟨?_,rfl⟩⟩;cases aQ:x.own with
  | true=>exact .inl ⟨x,by rw [hh];exact aa,aQ⟩
  | false=>exact .inr ⟨⟨x,by rw [hh];exact aa,aQ⟩,by cases wr with|false=>rfl|true=>exact absurd (hw rfl) (by simp [aQ])⟩
 | mark m=>
  have hm:sa m=true:=he;cases m<;>simp [sa] at hm<;>exact ⟨⟨rfl,by simp [MemAct.ofEvent],fun y ax=>by simp [MemAct.ofEvent,MemAct.touch?] at ax⟩,trivial⟩
 | output=>exact he.elim
 | goroutines=>exact he.elim
set_option linter.unusedVariables false in
theorem fy.same(H:fy hs n bk sh mu bW w t)(f:Fr (hs i) w h' w'){b:Nat}(hb:b<w.heap.size)(aQ:¬fz hs i b):w'.heap[b]? =w.heap[b]? :=by
 refine f.other b hb ?_;cases aa:hs i b with
 | none=>exact SE aa
 | some x=>
  rw [yR aa];cases bg:x.own with
  | false=>rfl
  | true=>exact absurd ⟨x,aa,bg⟩ aQ
theorem fy.loc(H:fy hs n bk sh mu bW w t)(hi:i<n)(f:Fr (hs i) w h' w')(dF:h'.In w')(iO:∀e∈es,qn h' e)(fn:FuncId)(pos:String):
  fy (cC hs i h') n bk sh mu bW w' (t++MemOp.ofEvents i fn pos es)/\∀b,sh b->w'.heap[b]? =w.heap[b]? :=by
 have avq:∀b,sh b->w'.heap[b]? =w.heap[b]? :=fun b hb=>H.same f (H.low b hb) fun aQ=>H.ex.ownSh i b aQ hb;have uq:∀j b x,j≠i->hs j b=some x->¬fz hs i b:=fun j b x ae aa aQ=>by
  rcases tp aa with o|r
  ·exact ae (H.ex.one j i b o aQ)
  ·exact H.ex.mQ i j b aQ r
 have aO:∀b,fz (cC hs i h') i b->fz hs i b\/w.heap.size<=b:=fun b ⟨x,aa,bg⟩=>by
  rw [kD] at aa;cases hb:hs i b with
  | some y=>
   obtain ⟨x',gl,e⟩:=f.ext b y hb;rw [aa] at gl;cases gl;exact .inl ⟨y,hb,by rw [<- e];exact bg⟩
  | none=>exact .inr (f.fresh b x aa hb).1
 have ly:∀b,gv (cC hs i h') i b->gv hs i b:=fun b ⟨x,aa,bg⟩=>by
  rw [kD] at aa;cases hb:hs i b with
  | some y=>
   obtain ⟨x',gl,e⟩:=f.ext b y hb;rw [aa] at gl;cases gl;exact ⟨y,hb,by rw [<- e];exact bg⟩
  | none=>have:=(f.fresh b x aa hb).2.2;rw [this] at bg;cases bg
 have eh:∀j b,fz (cC hs i h') j b->fz hs j b\/(j=i/\w.heap.size<=b):=fun j b e=>by
  by_cases ae:j=i
  ·subst ae;exact (aO b e).imp id fun x=>⟨rfl,x⟩
  ·obtain ⟨x,aa,bg⟩:=e;rw [gr _ _ ae] at aa;exact .inl ⟨x,aa,bg⟩
 have ix:∀j b,gv (cC hs i h') j b->gv hs j b:=fun j b e=>by
  by_cases ae:j=i
  ·subst ae;exact ly b e
  ·obtain ⟨x,aa,bg⟩:=e;rw [gr _ _ ae] at aa;exact ⟨x,aa,bg⟩
 have lo:∀j b,fz hs j b->b<w.heap.size:=fun j b ⟨x,aa,_⟩=>In.lt (H.eb j) aa;have wC:∀j b,gv hs j b->b<w.heap.size:=fun j b ⟨x,aa,_⟩=>In.lt (H.eb j) aa;have lz:∀b,ek bk b->b<w.heap.size:=fun b ⟨x,aa⟩=>In.lt H.pD aa;have E:Ck (fz (cC hs i h')) (gv (cC hs i h')) (ek bk) sh:=by
  refine ⟨fun j k b ae hk=> ?_,fun j k b ae hk=> ?_,fun j b ae aG=> ?_,fun j b ae dX=> ?_,fun j b ae aG=>H.ex.rf j b (ix j b ae) aG,fun j b ae dX=>H.ex.n7 j b (ix j b ae) dX,H.ex.tE⟩
  ·rcases eh j b ae with a|⟨rfl,a⟩<;>rcases eh k b hk with c|⟨rfl,c⟩
   ·exact H.ex.one j k b a c
   ·have:=lo j b a;omega
   ·have:=lo k b c;omega
   ·rfl
  ·have al:=ix k b hk;rcases eh j b ae with a|⟨rfl,a⟩
   ·exact H.ex.mQ j k b a al
   ·have:=wC k b al;omega
  ·rcases eh j b ae with a|⟨rfl,a⟩
   ·exact H.ex.nA j b a aG
   ·have:=lz b aG;omega
  ·rcases eh j b ae with a|⟨rfl,a⟩
   ·exact H.ex.ownSh j b a dX
   ·have:=H.low b dX;omega
 refine ⟨⟨fun j=> ?_,fun b x aa=> ?_,E,fun j ae=> ?_,fun b hb=>Nat.lt_of_lt_of_le (H.low b hb) f.size,H.fp.app hi f.size E eh ix fun op aF=> ?_⟩,avq⟩
 ·by_cases ae:j=i
  ·subst ae;rw [kD];exact dF
  ·rw [gr _ _ ae];intro b x aa;rw [H.same f (In.lt (H.eb j) aa) (uq j b x ae aa)];exact H.eb j b x aa
 ·rw [H.same f (In.lt H.pD aa) fun aQ=>H.ex.nA i b aQ ⟨x,aa⟩];exact H.pD b x aa
 ·rw [gr _ _ (by omega)];exact H.out j ae
 ·rw [ofEvents_eq] at aF;obtain ⟨e,he,rfl⟩:=Array.mem_map.1 aF;exact adk (hs:=cC hs i h') dF (iO e he) (kD _ _ _) fn pos
theorem fy.at_(H:fy hs n bk sh mu bW w t)(d:Nat):fy hs n bk sh mu bW (w.at d) t:=⟨fun i b x aa=>H.eb i b x aa,fun b x aa=>H.pD b x aa,H.ex,H.out,H.low,H.fp⟩
end
namespace ab
def add(h g:ab):ab:=fun b=>match h b with|some x=>some x|none=>g b
def del(h g:ab):ab:=fun b=>if (g b).isSome then none else h b
def empty:ab:=fun _=>none
def kR(h:ab):Prop:=∀b x,h b=some x->x.own=true
end ab
section
variable{hs:Nat->ab}{n i:Nat}{bk gd':ab}{sh:Nat->Prop}{mu:Addr}{bW:Nat->Prop}{w w':World}{t u:Trace}{h':ab}
theorem fy.shared(H:fy hs n bk sh mu bW w t)(hi:i<n)(eJ:w'.heap.size=w.heap.size)(hb:∀b,¬sh b->w'.heap[b]? =w.heap[b]?)
  (hu:∀op∈u,O4 (fz hs) (gv hs) sh mu i op/\op.act.low w.heap.size):fy hs n bk sh mu bW w' (t++u):=by
 refine ⟨fun j b x aa=> ?_,fun b x aa=> ?_,H.ex,H.out,fun b h=>by rw [eJ];exact H.low b h,?_⟩
 ·rw [hb b fun h=> ?_]
  ·exact H.eb j b x aa
  ·rcases tp aa with o|r
   ·exact H.ex.ownSh j b o h
   ·exact H.ex.n7 j b r h
 ·rw [hb b fun h=>H.ex.tE b ⟨x,aa⟩ h];exact H.pD b x aa
 ·rw [eJ];exact H.fp.app hi (Nat.le_refl _) H.ex (fun i b e=>.inl e) (fun i b e=>e) hu
theorem vb{h':ab}{j b:Nat}(e:fz (cC hs i h') j b):(j≠i/\fz hs j b)\/(j=i/\∃x,h' b=some x/\x.own=true):=by
 obtain ⟨x,aa,bg⟩:=e;by_cases ae:j=i
 ·subst ae;rw [kD] at aa;exact .inr ⟨rfl,x,aa,bg⟩
 ·rw [gr _ _ ae] at aa;exact .inl ⟨ae,x,aa,bg⟩
theorem tv{h':ab}{j b:Nat}(e:gv (cC hs i h') j b):(j≠i/\gv hs j b)\/(j=i/\∃x,h' b=some x/\x.own=false):=by
 obtain ⟨x,aa,bg⟩:=e;by_cases ae:j=i
 ·subst ae;rw [kD] at aa;exact .inr ⟨rfl,x,aa,bg⟩
 ·rw [gr _ _ ae] at aa;exact .inl ⟨ae,x,aa,bg⟩
theorem fy.weaken(H:fy hs n bk sh mu bW w t)(hi:i<n)(aQ:∀b x,h' b=some x->∃y,hs i b=some y/\y.obj=x.obj/\(x.own=true->y.own=true))(al:∀b x,h' b=some x->x.own=false->∀y,hs i b=some y->y.own=true->∀j,j≠i->hs j b=none):
  fy (cC hs i h') n bk sh mu bW w t:=by
 have eh:∀j b,fz (cC hs i h') j b->fz hs j b:=fun j b e=>by
  rcases vb e with ⟨_,e⟩|⟨rfl,x,aa,bg⟩
  ·exact e
  ·obtain ⟨y,ax,_,h3⟩:=aQ b x aa;exact ⟨y,ax,h3 bg⟩
 have ix:∀j b,gv (cC hs i h') j b->fz hs j b\/gv hs j b:=fun j b e=>by
  rcases tv e with ⟨_,e⟩|⟨rfl,x,aa,bg⟩
  ·exact .inr e
  ·obtain ⟨y,ax,_⟩:=aQ b x aa;exact tp ax
 refine ⟨fun j=> ?_,H.pD,⟨fun j k b ae hk=>H.ex.one j k b (eh j b ae) (eh k b hk),fun j k b ae hk=> ?_,fun j b ae=>H.ex.nA j b (eh j b ae),fun j b ae=>H.ex.ownSh j b (eh j b ae),fun j b ae aG=> ?_,fun j b ae aG=> ?_,H.ex.tE⟩,fun j ae=> ?_,H.low,H.fp.weaken eh ix⟩
 ·by_cases ae:j=i
  ·subst ae;rw [kD];intro b x aa;obtain ⟨y,ax,e,_⟩:=aQ b x aa;rw [<- e];exact H.eb j b y ax
  ·rw [gr _ _ ae];exact H.eb j
 ·have h1:=eh j b ae;rcases tv hk with ⟨hJ,e⟩|⟨rfl,x,aa,bg⟩
  ·exact H.ex.mQ j k b h1 e
  ·obtain ⟨y,ax,_⟩:=aQ b x aa;cases qF:y.own with
   | false=>exact H.ex.mQ j k b h1 ⟨y,ax,qF⟩
   | true=>
    by_cases Qc:j=k
    ·subst Qc;obtain ⟨z,aH,avr⟩:=ae;rw [kD] at aH;rw [aH] at aa;cases aa;rw [avr] at bg;cases bg
    ·obtain ⟨z,aH,_⟩:=h1;rw [al b x aa bg y ax qF j Qc] at aH;cases aH
 ·exact (ix j b ae).elim (fun e=>H.ex.nA j b e aG) fun e=>H.ex.rf j b e aG
 ·exact (ix j b ae).elim (fun e=>H.ex.ownSh j b e aG) fun e=>H.ex.n7 j b e aG
 ·rw [gr _ _ (by omega)];exact H.out j ae
theorem fy.acquire(H:fy hs n bk sh mu bW w t)(hgo:bk.kR){z:MemOp}(aG:z.g<n)(aH:z.act=.mark (.acquire mu))(hd:Deaf t z.g=0)(af:bW z.g)(rh:mu.block<w.heap.size):
  fy (cC hs z.g ((hs z.g).add bk)) n ab.empty sh mu bW w (t++#[z]):=by
 have no:∀b,¬ek ab.empty b:=fun b ⟨x,aa⟩=>absurd aa (by simp [ab.empty]);have split:∀b x,(hs z.g).add bk b=some x->hs z.g b=some x\/(hs z.g b=none/\bk b=some x):=fun b x aa=>by
  unfold ab.add at aa;cases hb:hs z.g b with
  | some y=>rw [hb] at aa;exact .inl aa
  | none=>rw [hb] at aa;exact .inr ⟨rfl,aa⟩
 have eh:∀j b,fz (cC hs z.g ((hs z.g).add bk)) j b->fz hs j b\/(j=z.g/\ek bk b):=fun j b e=>by
  rcases vb e with ⟨_,e⟩|⟨rfl,x,aa,bg⟩
  ·exact .inl e
  ·rcases split b x aa with h|⟨_,h⟩
   ·exact .inl ⟨x,h,bg⟩
   ·exact .inr ⟨rfl,x,h⟩
 have ix:∀j b,gv (cC hs z.g ((hs z.g).add bk)) j b->gv hs j b:=fun j b e=>by
  rcases tv e with ⟨_,e⟩|⟨rfl,x,aa,bg⟩
  ·exact e
  ·rcases split b x aa with h|⟨_,h⟩
   ·exact ⟨x,h,bg⟩
   ·rw [hgo b x h] at bg;cases bg
 refine ⟨fun j=> ?_,fun b x aa=>absurd aa (by simp [ab.empty]),⟨fun j k b ae hk=> ?_,fun j k b ae hk=> ?_,fun j b _ hb=>no b hb,fun j b ae hb=> ?_,fun j b _ hb=>no b hb,fun j b ae=>H.ex.n7 j b (ix j b ae),fun b hb=>(no b hb).elim⟩,fun j ae=> ?_,H.low,?_⟩
 ·by_cases ae:j=z.g
  ·subst ae;rw [kD];intro b x aa;rcases split b x aa with h|⟨_,h⟩
   ·exact H.eb _ b x h
   ·exact H.pD b x h
  ·rw [gr _ _ ae];exact H.eb j
 ·rcases eh j b ae with a|⟨rfl,a⟩<;>rcases eh k b hk with c|⟨rfl,c⟩
  ·exact H.ex.one j k b a c
  ·exact absurd c (H.ex.nA j b a)
  ·exact absurd a (H.ex.nA k b c)
  ·rfl
 ·rcases eh j b ae with a|⟨rfl,a⟩
  ·exact H.ex.mQ j k b a (ix k b hk)
  ·exact H.ex.rf k b (ix k b hk) a
 ·rcases eh j b ae with a|⟨rfl,a⟩
  ·exact H.ex.ownSh j b a hb
  ·exact H.ex.tE b a hb
 ·rw [gr _ _ (by omega)];exact H.out j ae
 ·have T:=(H.fp.acquire H.ex aG aH hd af rh).weaken eh (fun j b e=>.inr (ix j b e));exact {T with bk:=fun b hb=>(no b hb).elim}
theorem fy.release(H:fy hs n ab.empty sh mu bW w t){y:MemOp}(aG:y.g<n)(ax:y.act=.mark (.releaseMerge mu))(hd:Deaf t y.g=0)(rh:mu.block<w.heap.size)(hK:∀b x,gd' b=some x->hs y.g b=some x)(hgo:gd'.kR):
  fy (cC hs y.g ((hs y.g).del gd')) n gd' sh mu bW w (t++#[y]):=by
 have split:∀b x,(hs y.g).del gd' b=some x->hs y.g b=some x/\¬ek gd' b:=fun b x aa=>by
  unfold ab.del at aa;split at aa
  ·cases aa
  ·rename_i ao;exact ⟨aa,fun ⟨z,aH⟩=>ao (by rw [aH];rfl)⟩
 have tL:∀b,ek gd' b->fz hs y.g b:=fun b ⟨x,aa⟩=>⟨x,hK b x aa,hgo b x aa⟩;have eh:∀j b,fz (cC hs y.g ((hs y.g).del gd')) j b->fz hs j b/\¬ek gd' b:=fun j b e=>by
  rcases vb e with ⟨ae,e⟩|⟨rfl,x,aa,bg⟩
  ·exact ⟨e,fun fo=>ae (H.ex.one j y.g b e (tL b fo))⟩
  ·exact ⟨⟨x,(split b x aa).1,bg⟩,(split b x aa).2⟩
 have ix:∀j b,gv (cC hs y.g ((hs y.g).del gd')) j b->gv hs j b:=fun j b e=>by
  rcases tv e with ⟨_,e⟩|⟨rfl,x,aa,bg⟩
  ·exact e
  ·exact ⟨x,(split b x aa).1,bg⟩
 have acd:ek ab.empty=fun _=>False:=by funext b;simp [ek,ab.empty]
 have uS:=H.ex;rw [acd] at uS;have Jp:=H.fp;rw [acd] at Jp;refine ⟨fun j=> ?_,fun b x aa=>H.eb _ b x (hK b x aa),⟨fun j k b ae hk=>H.ex.one j k b (eh j b ae).1 (eh k b hk).1,fun j k b ae hk=>H.ex.mQ j k b (eh j b ae).1 (ix k b hk),fun j b ae=>(eh j b ae).2,fun j b ae=>H.ex.ownSh j b (eh j b ae).1,fun j b ae hb=>H.ex.mQ y.g j b (tL b hb) (ix j b ae),fun j b ae=>H.ex.n7 j b (ix j b ae),fun b hb=>H.ex.ownSh y.g b (tL b hb)⟩,fun j ae=> ?_,H.low,?_⟩
 ·by_cases ae:j=y.g
  ·subst ae;rw [kD];exact fun b x aa=>H.eb _ b x (split b x aa).1
  ·rw [gr _ _ ae];exact H.eb j
 ·rw [gr _ _ (by omega)];exact H.out j ae
 ·exact (Jp.release (gd':=ek gd') aG ax hd rh uS tL).weaken eh (fun j b e=>.inr (ix j b e))
end
section
variable{hs:Nat->ab}{n i:Nat}{bk gd':ab}{sh:Nat->Prop}{mu mu':Addr}{bW:Nat->Prop}{w w':World}{t u:Trace}{h0 hc:ab}
theorem wX(b:Nat):¬ek ab.empty b:=fun ⟨x,aa⟩=>absurd aa (by simp [ab.empty])
theorem Ke:ek ab.empty=fun _=>False:=by funext b;exact propext ⟨fun h=>wX b h,False.elim⟩
theorem fy.share(H:fy hs n bk sh mu bW w t)(eJ:w'.heap.size=w.heap.size+1)(hb:∀b,b<w.heap.size->w'.heap[b]? =w.heap[b]?):fy hs n bk (fun b=>sh b\/b=w.heap.size) mu bW w' t:=by
 have lo:∀j b,fz hs j b->b<w.heap.size:=fun j b ⟨x,aa,_⟩=>In.lt (H.eb j) aa;have wC:∀j b,gv hs j b->b<w.heap.size:=fun j b ⟨x,aa,_⟩=>In.lt (H.eb j) aa;have lz:∀b,ek bk b->b<w.heap.size:=fun b ⟨x,aa⟩=>In.lt H.pD aa;refine ⟨fun j b x aa=> ?_,fun b x aa=> ?_,⟨H.ex.one,H.ex.mQ,H.ex.nA,fun j b ae dX=> ?_,H.ex.rf,fun j b ae dX=> ?_,fun b aG dX=> ?_⟩,H.out,fun b h=> ?_,?_⟩
 ·rw [hb b (In.lt (H.eb j) aa)];exact H.eb j b x aa
 ·rw [hb b (In.lt H.pD aa)];exact H.pD b x aa
 ·rcases dX with h|h
  ·exact H.ex.ownSh j b ae h
  ·have:=lo j b ae;omega
 ·rcases dX with h|h
  ·exact H.ex.n7 j b ae h
  ·have:=wC j b ae;omega
 ·rcases dX with h|h
  ·exact H.ex.tE b aG h
  ·have:=lz b aG;omega
 ·rcases h with h|h
  ·have:=H.low b h;omega
  ·omega
 ·rw [eJ];exact H.fp.share (Nat.le_refl _)
theorem fy.Oh(H:fy hs n ab.empty sh mu bW w t)(dM:w.heap.size<=mu'.block):fy hs n ab.empty sh mu' (fun g=>g=0) w t:=by
 have T:=H.fp;rw [Ke] at T;exact {H with fp:=by rw [Ke];exact T.Oh dM}
theorem fy.Cl(H:fy hs n ab.empty sh mu (fun g=>g=0) w t)(ao:0<n)(hK:∀b x,gd' b=some x->hs 0 b=some x)(hgo:gd'.kR):
  fy (cC hs 0 ((hs 0).del gd')) n gd' sh mu (fun g=>g=0) w t:=by
 have split:∀b x,(hs 0).del gd' b=some x->hs 0 b=some x/\¬ek gd' b:=fun b x aa=>by
  unfold ab.del at aa;split at aa
  ·cases aa
  ·rename_i ao;exact ⟨aa,fun ⟨z,aH⟩=>ao (by rw [aH];rfl)⟩
 have tL:∀b,ek gd' b->fz hs 0 b:=fun b ⟨x,aa⟩=>⟨x,hK b x aa,hgo b x aa⟩;have eh:∀j b,fz (cC hs 0 ((hs 0).del gd')) j b->fz hs j b/\¬ek gd' b:=fun j b e=>by
  rcases vb e with ⟨ae,e⟩|⟨rfl,x,aa,bg⟩
  ·exact ⟨e,fun fo=>ae (H.ex.one j 0 b e (tL b fo))⟩
  ·exact ⟨⟨x,(split b x aa).1,bg⟩,(split b x aa).2⟩
 have ix:∀j b,gv (cC hs 0 ((hs 0).del gd')) j b->gv hs j b:=fun j b e=>by
  rcases tv e with ⟨_,e⟩|⟨rfl,x,aa,bg⟩
  ·exact e
  ·exact ⟨x,(split b x aa).1,bg⟩
 have T:=H.fp;rw [Ke] at T;refine ⟨fun j=> ?_,fun b x aa=>H.eb _ b x (hK b x aa),⟨fun j k b ae hk=>H.ex.one j k b (eh j b ae).1 (eh k b hk).1,fun j k b ae hk=>H.ex.mQ j k b (eh j b ae).1 (ix k b hk),fun j b ae=>(eh j b ae).2,fun j b ae=>H.ex.ownSh j b (eh j b ae).1,fun j b ae hb=>H.ex.mQ 0 j b (tL b hb) (ix j b ae),fun j b ae=>H.ex.n7 j b (ix j b ae),fun b hb=>H.ex.ownSh 0 b (tL b hb)⟩,fun j ae=> ?_,H.low,?_⟩
 ·by_cases ae:j=0
  ·subst ae;rw [kD];exact fun b x aa=>H.eb _ b x (split b x aa).1
  ·rw [gr _ _ ae];exact H.eb j
 ·rw [gr _ _ (by omega)];exact H.out j ae
 ·exact (T.Cl ao tL).weaken eh (fun j b e=>.inr (ix j b e))
structure G0(h h0 hc:ab):Prop where
 keep:∀b x,h0 b=some x->∃y,h b=some y/\y.obj=x.obj/\(x.own=true->y.own=true)
 Ov:∀b x,hc b=some x->∃y,h b=some y/\y.obj=x.obj/\(x.own=true->y.own=true)
 a:∀b x,h0 b=some x->x.own=true->hc b=none
 b:∀b x,hc b=some x->x.own=true->h0 b=none
theorem fy.fork(H:fy hs n bk sh mu bW w t)(ao:0<n)(h00:bW 0)(S:G0 (hs 0) h0 hc){x y:MemOp}(aa:x.g=0/\x.act=.go n)(ax:y.g=n/\y.act=.start)(hd:Deaf t 0=0):
  fy (cC (cC hs 0 h0) n hc) (n+1) bk sh mu (fun g=>bW g\/g=n) w (t++#[x,y]):=by
 have on:∀b,fz (cC (cC hs 0 h0) n hc) n b->∃x,hc b=some x/\x.own=true:=fun b e=>by
  rcases vb e with ⟨h,_⟩|⟨_,h⟩
  ·exact absurd rfl h
  ·exact h
 have RP:∀b,gv (cC (cC hs 0 h0) n hc) n b->∃x,hc b=some x/\x.own=false:=fun b e=>by
  rcases tv e with ⟨h,_⟩|⟨_,h⟩
  ·exact absurd rfl h
  ·exact h
 have D2:∀b,fz (cC (cC hs 0 h0) n hc) 0 b->∃x,h0 b=some x/\x.own=true:=fun b e=>by
  rcases vb e with ⟨_,h⟩|⟨h,_⟩
  ·rcases vb h with ⟨h,_⟩|⟨_,h⟩
   ·exact absurd rfl h
   ·exact h
  ·omega
 have r0:∀b,gv (cC (cC hs 0 h0) n hc) 0 b->∃x,h0 b=some x/\x.own=false:=fun b e=>by
  rcases tv e with ⟨_,h⟩|⟨h,_⟩
  ·rcases tv h with ⟨h,_⟩|⟨_,h⟩
   ·exact absurd rfl h
   ·exact h
  ·omega
 have oz:∀j b,j≠n->j≠0->fz (cC (cC hs 0 h0) n hc) j b->fz hs j b:=fun j b h1 h2 ⟨x,aa,bg⟩=>⟨x,by rw [gr _ _ h1,gr _ _ h2] at aa;exact aa,bg⟩;have ayZ:∀j b,j≠n->j≠0->gv (cC (cC hs 0 h0) n hc) j b->gv hs j b:=fun j b h1 h2 ⟨x,aa,bg⟩=>⟨x,by rw [gr _ _ h1,gr _ _ h2] at aa;exact aa,bg⟩;have avs:∀b,fz (cC (cC hs 0 h0) n hc) 0 b->fz hs 0 b:=fun b e=>by
  obtain ⟨x,aa,bg⟩:=D2 b e;obtain ⟨y,ax,_,h3⟩:=S.keep b x aa;exact ⟨y,ax,h3 bg⟩
 have Z9:∀b,fz (cC (cC hs 0 h0) n hc) n b->fz hs 0 b:=fun b e=>by
  obtain ⟨x,aa,bg⟩:=on b e;obtain ⟨y,ax,_,h3⟩:=S.Ov b x aa;exact ⟨y,ax,h3 bg⟩
 have avt:∀b,gv (cC (cC hs 0 h0) n hc) 0 b->fz hs 0 b\/gv hs 0 b:=fun b e=>by
  obtain ⟨x,aa,bg⟩:=r0 b e;obtain ⟨y,ax,_⟩:=S.keep b x aa;exact tp ax
 have aaa:∀b,gv (cC (cC hs 0 h0) n hc) n b->fz hs 0 b\/gv hs 0 b:=fun b e=>by
  obtain ⟨x,aa,bg⟩:=RP b e;obtain ⟨y,ax,_⟩:=S.Ov b x aa;exact tp ax
 have cls:∀j b,fz (cC (cC hs 0 h0) n hc) j b->(j=n/\fz hs 0 b)\/(j≠n/\fz hs j b):=fun j b e=>by
  by_cases h1:j=n
  ·subst h1;exact .inl ⟨rfl,Z9 b e⟩
  ·by_cases h2:j=0
   ·subst h2;exact .inr ⟨h1,avs b e⟩
   ·exact .inr ⟨h1,oz j b h1 h2 e⟩
 have Iu:∀j b,gv (cC (cC hs 0 h0) n hc) j b->(j=n/\(fz hs 0 b\/gv hs 0 b))\/(j=0/\(fz hs 0 b\/gv hs 0 b))\/(j≠n/\j≠0/\gv hs j b):=fun j b e=>by
  by_cases h1:j=n
  ·subst h1;exact .inl ⟨rfl,aaa b e⟩
  ·by_cases h2:j=0
   ·subst h2;exact .inr (.inl ⟨rfl,avt b e⟩)
   ·exact .inr (.inr ⟨h1,h2,ayZ j b h1 h2 e⟩)
 refine ⟨fun j=> ?_,H.pD,⟨fun j k b ae hk=> ?_,fun j k b ae hk=> ?_,fun j b ae hb=> ?_,fun j b ae hb=> ?_,fun j b ae hb=> ?_,fun j b ae hb=> ?_,H.ex.tE⟩,fun j ae=> ?_,H.low,?_⟩
 ·by_cases h1:j=n
  ·subst h1;rw [kD];intro b x aa;obtain ⟨y,ax,e,_⟩:=S.Ov b x aa;rw [<- e];exact H.eb 0 b y ax
  ·rw [gr _ _ h1];by_cases h2:j=0
   ·subst h2;rw [kD];intro b x aa;obtain ⟨y,ax,e,_⟩:=S.keep b x aa;rw [<- e];exact H.eb 0 b y ax
   ·rw [gr _ _ h2];exact H.eb j
 ·rcases cls j b ae with ⟨rfl,a⟩|⟨h1,a⟩<;>rcases cls k b hk with ⟨rfl,c⟩|⟨h2,c⟩
  ·rfl
  ·obtain rfl:0=k:=H.ex.one 0 k b a c;obtain ⟨x,aa,bg⟩:=on b ae;obtain ⟨y,ax,qF⟩:=D2 b hk;rw [S.b b x aa bg] at ax;cases ax
  ·obtain rfl:0=j:=H.ex.one 0 j b c a;obtain ⟨x,aa,bg⟩:=on b hk;obtain ⟨y,ax,qF⟩:=D2 b ae;rw [S.b b x aa bg] at ax;cases ax
  ·exact H.ex.one j k b a c
 ·rcases cls j b ae with ⟨rfl,a⟩|⟨h1,a⟩<;>rcases Iu k b hk with ⟨rfl,c⟩|⟨rfl,c⟩|⟨h2,h3,c⟩
  ·obtain ⟨x,aa,bg⟩:=on b ae;obtain ⟨y,ax,qF⟩:=RP b hk;rw [aa] at ax;cases ax;rw [bg] at qF;cases qF
  ·obtain ⟨x,aa,bg⟩:=on b ae;obtain ⟨y,ax,qF⟩:=r0 b hk;rw [S.b b x aa bg] at ax;cases ax
  ·exact H.ex.mQ 0 k b a c
  ·obtain ⟨y,ax,qF⟩:=RP b hk;rcases c with c|c
   ·obtain rfl:j=0:=H.ex.one j 0 b a c;obtain ⟨x,aa,bg⟩:=D2 b ae;rw [S.a b x aa bg] at ax;cases ax
   ·exact H.ex.mQ j 0 b a c
  ·obtain ⟨y,ax,qF⟩:=r0 b hk;rcases c with c|c
   ·obtain rfl:j=0:=H.ex.one j 0 b a c;obtain ⟨x,aa,bg⟩:=D2 b ae;rw [aa] at ax;cases ax;rw [bg] at qF;cases qF
   ·exact H.ex.mQ j 0 b a c
  ·exact H.ex.mQ j k b a c
 ·rcases cls j b ae with ⟨rfl,a⟩|⟨h1,a⟩
  ·exact H.ex.nA 0 b a hb
  ·exact H.ex.nA j b a hb
 ·rcases cls j b ae with ⟨rfl,a⟩|⟨h1,a⟩
  ·exact H.ex.ownSh 0 b a hb
  ·exact H.ex.ownSh j b a hb
 ·rcases Iu j b ae with ⟨rfl,c⟩|⟨rfl,c⟩|⟨_,_,c⟩
  ·exact c.elim (fun c=>H.ex.nA 0 b c hb) fun c=>H.ex.rf 0 b c hb
  ·exact c.elim (fun c=>H.ex.nA 0 b c hb) fun c=>H.ex.rf 0 b c hb
  ·exact H.ex.rf j b c hb
 ·rcases Iu j b ae with ⟨rfl,c⟩|⟨rfl,c⟩|⟨_,_,c⟩
  ·exact c.elim (fun c=>H.ex.ownSh 0 b c hb) fun c=>H.ex.n7 0 b c hb
  ·exact c.elim (fun c=>H.ex.ownSh 0 b c hb) fun c=>H.ex.n7 0 b c hb
  ·exact H.ex.n7 j b c hb
 ·rw [gr _ _ (by omega),gr _ _ (by omega)];exact H.out j (by omega)
 ·refine H.fp.fork ao h00 aa ax hd (fun j b h1 e=> ?_) (fun j b h1 e=> ?_) Z9 aaa
  ·rcases cls j b e with ⟨h,_⟩|⟨_,a⟩
   ·exact absurd h h1
   ·exact a
  ·rcases Iu j b e with ⟨h,_⟩|⟨rfl,c⟩|⟨_,_,c⟩
   ·exact absurd h h1
   ·exact c
   ·exact .inr c
theorem fy.asO(H:fy hs n bk sh mu bW w t)(ao:0<n)(hgo:bk.kR)(hk:∀b,ek bk b->q7 t 0 b):fy (cC hs 0 ((hs 0).add bk)) n ab.empty sh mu bW w t:=by
 have split:∀b x,(hs 0).add bk b=some x->hs 0 b=some x\/(hs 0 b=none/\bk b=some x):=fun b x aa=>by
  unfold ab.add at aa;cases hb:hs 0 b with
  | some y=>rw [hb] at aa;exact .inl aa
  | none=>rw [hb] at aa;exact .inr ⟨rfl,aa⟩
 have eh:∀j b,fz (cC hs 0 ((hs 0).add bk)) j b->fz hs j b\/(j=0/\ek bk b):=fun j b e=>by
  rcases vb e with ⟨_,e⟩|⟨rfl,x,aa,bg⟩
  ·exact .inl e
  ·rcases split b x aa with h|⟨_,h⟩
   ·exact .inl ⟨x,h,bg⟩
   ·exact .inr ⟨rfl,x,h⟩
 have ix:∀j b,gv (cC hs 0 ((hs 0).add bk)) j b->gv hs j b:=fun j b e=>by
  rcases tv e with ⟨_,e⟩|⟨rfl,x,aa,bg⟩
  ·exact e
  ·rcases split b x aa with h|⟨_,h⟩
   ·exact ⟨x,h,bg⟩
   ·rw [hgo b x h] at bg;cases bg
 refine ⟨fun j=> ?_,fun b x aa=>absurd aa (by simp [ab.empty]),⟨fun j k b ae hk=> ?_,fun j k b ae hk=> ?_,fun j b _ hb=>wX b hb,fun j b ae hb=> ?_,fun j b _ hb=>wX b hb,fun j b ae=>H.ex.n7 j b (ix j b ae),fun b hb=>(wX b hb).elim⟩,fun j ae=> ?_,H.low,?_⟩
 ·by_cases ae:j=0
  ·subst ae;rw [kD];intro b x aa;rcases split b x aa with h|⟨_,h⟩
   ·exact H.eb _ b x h
   ·exact H.pD b x h
  ·rw [gr _ _ ae];exact H.eb j
 ·rcases eh j b ae with a|⟨rfl,a⟩<;>rcases eh k b hk with c|⟨rfl,c⟩
  ·exact H.ex.one j k b a c
  ·exact absurd c (H.ex.nA j b a)
  ·exact absurd a (H.ex.nA k b c)
  ·rfl
 ·rcases eh j b ae with a|⟨rfl,a⟩
  ·exact H.ex.mQ j k b a (ix k b hk)
  ·exact H.ex.rf k b (ix k b hk) a
 ·rcases eh j b ae with a|⟨rfl,a⟩
  ·exact H.ex.ownSh j b a hb
  ·exact H.ex.tE b a hb
 ·rw [gr _ _ (by omega)];exact H.out j ae
 ·exact {H.fp with
   own:=fun j b ae e=>(eh j b e).elim (H.fp.own j b ae) fun ⟨h1,h2⟩=>by subst h1;exact hk b h2
   ro:=fun j b ae e=>H.fp.ro j b ae (ix j b e)
   bk:=fun b hb=>(wX b hb).elim}
end
section
open Go.ConcM (OsLater muBlock)
open Go.ConcR (wgBlock)
structure eB where
 os:Os
 out:Array (Nat×ByteArray)
def BU(o:eB)(w:World):Prop:=OsLater o.os w.os/\w.output=o.out
def ni(w w':World):Prop:=OsLater w.os w'.os/\w'.output=w.output
theorem ni.refl(w:World):ni w w:=⟨.refl _,rfl⟩
theorem ni.of{w w':World}(h1:w'.os=w.os)(h2:w'.output=w.output):ni w w':=⟨by rw [h1];exact .refl _,h2⟩
theorem BU.trans{o:eB}{w w':World}(h:BU o w)(k:ni w w'):BU o w':=⟨h.1.trans k.1,k.2.trans h.2⟩
inductive WD where
 | wk|jE|a1|a2|a3|eF
 deriving DecidableEq
inductive jF where
 | eR (p:Bool)|loop|reg|mU|tN
 deriving DecidableEq
abbrev cT:=Int×List (Int×Int)
structure ay where
 x:cK
 cap:Nat
 aR:Nat
 n0:Nat
 wd:Nat->WD
 ms:jF
 wv:Nat
 wr:Nat
 ws:Nat
 mu:Nat
 wg:Nat
 on:Bool
 sh:List Nat
 bk:ab
 cw:Option Nat
 bH:Nat->Nat
 I:(Nat->List cT)->ab->Prop
 cL:Nat->List cT
 full:Nat->List cT
 ib:Bool
 b0:Nat
namespace ay
def gP(γ:ay):ab:=if γ.on=true/\γ.cw=none then γ.bk else ab.empty
def bW(γ:ay)(i:Nat):Prop:=i=0\/(γ.n0<=i/\i<γ.aR)
open Classical in
def eE(γ:ay)(hs:Nat->ab)(i:Nat):Jl:=if i<γ.n0 then .jn else if γ.wd i=.wk\/hs i≠ab.empty then .wk else .s5
def gone(γ:ay)(i:Nat):Prop:=i≠0/\γ.wd i=.eF
def waits(γ:ay)(i:Nat):Prop:=if i=0 then γ.ms=.reg/\γ.ws=0 else γ.x.md i=.hT/\γ.x.M=0
def ic:WD->Nat|.wk=>1|.jE=>1|_=>0
def gQ:WD->Nat|.a1=>1|.a2=>1|_=>0
def hy:WD->Nat|.a3=>1|_=>0
def dI(γ:ay)(f:WD->Nat):Nat:=Go.ConcN.sumTo γ.aR (fun i=>if γ.n0<=i then f (γ.wd i) else 0)
structure oo(γ:ay):Prop where
 v:γ.wv=γ.dI ic+(if γ.ms=.eR true then 1 else 0)
 st:match γ.ms with
  | .eR _|.loop=>γ.wr=0/\γ.ws=0/\γ.dI gQ=0/\γ.dI hy=0
  | .reg=>(γ.wr=1/\γ.ws=0/\γ.dI hy=0/\((0<γ.wv/\γ.dI gQ=0)\/(γ.wv=0/\γ.dI gQ=1)))\/(γ.wr=0/\γ.wv=0/\γ.dI gQ=0/\γ.ws+γ.dI hy=1)
  | .mU|.tN=>γ.wr=0/\γ.wv=0/\γ.ws=0/\γ.dI gQ=0/\γ.dI hy=0
structure lS(i:Nat)(γ γ':ay):Prop where
 aR:γ.aR<=γ'.aR
 cap:γ'.cap=γ.cap
 n0:γ'.n0=γ.n0
 mu:γ'.mu=γ.mu
 wg:γ'.wg=γ.wg
 on:γ'.on=γ.on
 I:γ'.I=γ.I
 full:γ'.full=γ.full
 wd:γ'.wd i=γ.wd i
 md:γ'.x.md i=γ.x.md i
 di:γ'.x.di i=γ.x.di i
 bH:γ'.bH i=γ.bH i
 cw:γ'.cw=some i↔γ.cw=some i
 cL:γ'.cL i=γ.cL i
 cf:γ'.x.cf γ.cap<=γ.x.cf γ.cap
 word:γ'.x.mu≠γ.x.mu->γ'.x.cf γ.cap<γ.x.cf γ.cap
 C9:γ.cw=some i->γ'.cL=γ.cL
 z:i=0->γ'.ms=γ.ms/\γ'.sh=γ.sh/\γ'.aR=γ.aR/\γ'.wv<=γ.wv/\(γ.ms≠.reg->γ'.ws=γ.ws/\γ'.wr=γ.wr)
 b0:γ'.b0=γ.b0
 ib:γ'.ib=γ.ib
theorem lS.refl(i:Nat)(γ:ay):lS i γ γ:=⟨Nat.le_refl _,rfl,rfl,rfl,rfl,rfl,rfl,rfl,rfl,rfl,rfl,rfl,Iff.rfl,rfl,Nat.le_refl _,fun h=>absurd rfl h,fun _=>rfl,fun _=>⟨rfl,rfl,rfl,Nat.le_refl _,fun _=>⟨rfl,rfl⟩⟩,rfl,rfl⟩
theorem lS.trans{i:Nat}{a b c:ay}(h:lS i a b)(k:lS i b c):lS i a c:=by
 have hc:b.cap=a.cap:=h.cap;have c7:=k.cf;have kw:=k.word;rw [hc] at c7 kw;refine ⟨Nat.le_trans h.aR k.aR,k.cap.trans h.cap,k.n0.trans h.n0,k.mu.trans h.mu,k.wg.trans h.wg,k.on.trans h.on,k.I.trans h.I,k.full.trans h.full,k.wd.trans h.wd,k.md.trans h.md,k.di.trans h.di,k.bH.trans h.bH,k.cw.trans h.cw,k.cL.trans h.cL,Nat.le_trans c7 h.cf,fun b7=> ?_,fun aj=>(k.C9 (h.cw.2 aj)).trans (h.C9 aj),fun hi=> ?_,k.b0.trans h.b0,k.ib.trans h.ib⟩
 ·by_cases e:b.x.mu=a.x.mu
  ·exact Nat.lt_of_lt_of_le (kw (by rw [e];exact b7)) h.cf
  ·exact Nat.lt_of_le_of_lt c7 (h.word e)
 ·obtain ⟨a1,a2,a3,a4,a5⟩:=h.z hi;obtain ⟨cl,bV,dz,hD,rP⟩:=k.z hi;refine ⟨cl.trans a1,bV.trans a2,dz.trans a3,Nat.le_trans hD a4,fun al=> ?_⟩;obtain ⟨c1,c2⟩:=a5 al;obtain ⟨d1,d2⟩:=rP (by rw [a1];exact al);exact ⟨d1.trans c1,d2.trans c2⟩
def Rel(i:Nat)(γ γ':ay):Prop:=γ.aR<=i\/(i≠0/\γ.aR<=γ'.aR/\γ.wd i=.eF/\γ'.wd i=.eF)\/lS i γ γ'
theorem Rel.refl(i:Nat)(γ:ay):Rel i γ γ:=.inr (.inr (.refl i γ))
theorem Rel.trans{i:Nat}{a b c:ay}(h:Rel i a b)(k:Rel i b c):Rel i a c:=by
 rcases h with h|⟨h0,h1,h2,h3⟩|h
 ·exact .inl h
 ·rcases k with k|⟨_,k1,_,eL⟩|k
  ·exact .inl (Nat.le_trans h1 k)
  ·exact .inr (.inl ⟨h0,Nat.le_trans h1 k1,h2,eL⟩)
  ·exact .inr (.inl ⟨h0,Nat.le_trans h1 k.aR,h2,k.wd.trans h3⟩)
 ·rcases k with k|⟨k0,k1,bX,eL⟩|k
  ·exact .inl (Nat.le_trans h.aR k)
  ·exact .inr (.inl ⟨k0,Nat.le_trans h.aR k1,h.wd.symm.trans bX,eL⟩)
  ·exact .inr (.inr (h.trans k))
theorem Rel.s{i:Nat}{a b:ay}(h:Rel i a b)(hi:i<a.aR)(aG:¬b.gone i):lS i a b:=by
 rcases h with h|⟨h0,_,_,h3⟩|h
 ·omega
 ·exact absurd ⟨h0,h3⟩ aG
 ·exact h
end ay
structure dh(tM tW:TypeId)(os0:eB)(γ:ay)(n:Nat)(hs:Nat->ab)(w:World)(t:Trace):Prop where
 aR:γ.aR=n
 pos:0<n
 n0:0<γ.n0/\γ.n0<=n
 hi:fy hs n γ.gP (· ∈γ.sh) ⟨γ.mu,0,none⟩ γ.bW w t
 ji:s6 ⟨γ.wg,0,none⟩ (γ.eE hs) n t
 bH:∀i,i<n->¬γ.gone i->Deaf t i=γ.bH i
 old:∀i,0<i->i<γ.n0->γ.wd i=.eF
 jz:γ.on=true->w.heap[γ.mu]? =some (muBlock tM γ.x.mu γ.x.M)
 jd:γ.on=true->w.heap[γ.wg]? =some (wgBlock tW (4294967296*γ.wv+γ.wr:Nat) γ.ws)
 gR:γ.on=true->γ.mu∈γ.sh/\γ.wg∈γ.sh/\γ.mu≠γ.wg
 ok:γ.x.cu γ.cap
 cap:n<=γ.cap
 out:∀i,(i=0\/n<=i\/γ.wd i≠.wk)->γ.x.md i=.out
 cw:∀i,γ.cw=some i->i<n/\γ.x.md i=.own
 ll:γ.on=true->γ.cw=none->γ.I γ.cL γ.bk/\γ.bk.kR
 full:∀i,γ.n0<=i->i<n->γ.wd i≠.wk->γ.cL i=γ.full i
 hl:γ.oo
 eF:∀i,0<i->γ.wd i=.eF->hs i=ab.empty
 os:BU os0 w
 jZ:γ.ib=true->γ.mu∈γ.sh/\w.heap[γ.mu]? =some (muBlock tM γ.x.mu γ.x.M)
 j0:γ.on=true->γ.ib=false
 ku:∀i,n<=i->i<γ.cap->γ.cL i=[]/\γ.x.di i=γ.b0
theorem s6.weaken{wg:Addr}{eE H3:Nat->Jl}{n:Nat}{t:Trace}(h:s6 wg eE n t)(ae:∀i,0<i->H3 i=eE i\/H3 i=.wk):s6 wg H3 n t:=
 ⟨h.norel,fun i h0 hi e=>h.s5 i h0 hi (by rcases ae i h0 with x|x;rw [<- x];exact e;rw [x] at e;cases e),fun i h0 hi e=>h.jn i h0 hi (by rcases ae i h0 with x|x;rw [<- x];exact e;rw [x] at e;cases e)⟩
theorem Kf{t:Trace}{g i:Nat}{fn:FuncId}{pos:String}{es:Array Event}(ao:∀e∈es,(MemAct.ofEvent e).touch? =none):∀k,t.size<=k->(t++MemOp.ofEvents g fn pos es).g? k=some i->¬(t++MemOp.ofEvents g fn pos es).counts k:=by
 intro k hk aG ⟨x,aa,_⟩;obtain ⟨act,Pl,vY⟩:=Option.bind_eq_some_iff.1 aa;obtain ⟨op,aQ,rfl⟩:=Option.map_eq_some_iff.1 Pl;rcases getElem?_append_cases aQ with ⟨bY,_⟩|⟨_,xR⟩
 ·omega
 ·rw [ofEvents_eq] at xR;obtain ⟨e,he,rfl⟩:=Array.mem_map.1 xR;simp only [ao e he] at vY;cases vY
section
variable{tM tW:TypeId}{os0:eB}{γ:ay}{n i:Nat}{hs:Nat->ab}{w w':World}{t:Trace}{h':ab}{es:Array Event}
theorem dh.at_(G:dh tM tW os0 γ n hs w t)(d:Nat):dh tM tW os0 γ n hs (w.at d) t:=
 {G with hi:=G.hi.at_ d,jz:=G.jz,jd:=G.jd,os:=G.os,jZ:=G.jZ}
theorem tx{g:Nat}{fn:FuncId}{pos:String}{op:MemOp}(h:op∈MemOp.ofEvents g fn pos es):op.g=g:=by
 rw [ofEvents_eq] at h;obtain ⟨e,_,rfl⟩:=Array.mem_map.1 h;rfl
theorem dh.loc(G:dh tM tW os0 γ n hs w t)(hi:i<n)(aG:¬γ.gone i)(f:Fr (hs i) w h' w')(dF:h'.In w')(iO:∀e∈es,qn h' e)(fn:FuncId)(pos:String):
  dh tM tW os0 γ n (cC hs i h') w' (t++MemOp.ofEvents i fn pos es):=by
 obtain ⟨H,lh⟩:=G.hi.loc hi f dF iO fn pos;have still:∀e∈es,e.loc≠.mark .disable/\e.loc≠.mark .enable/\e.loc≠.mark (.release ⟨γ.wg,0,none⟩):=fun e he=>by
  have:=iO e he;refine ⟨?_,?_,?_⟩<;>intro h<;>simp [qn,h,sa] at this
 have quiet:h'=ab.empty->∀e∈es,(MemAct.ofEvent e).touch? =none:=fun he e avu=>by
  have:=iO e avu;obtain ⟨loc,wr,nO⟩:=e;cases loc with
  | cell a=>obtain ⟨_,x,aa,_⟩:=this;rw [he] at aa;cases aa
  | obj r=>obtain ⟨_,x,aa,_⟩:=this;rw [he] at aa;cases aa
  | mark m=>
   have hm:sa m=true:=this;cases m<;>simp [sa] at hm<;>simp [MemAct.ofEvent,MemAct.touch?]
  | output=>exact this.elim
  | goroutines=>exact this.elim
 have emp:h'=ab.empty->hs i=ab.empty:=fun he=>by
  funext b;cases hb:hs i b with
  | none=>rfl
  | some x=>
   obtain ⟨x',gl,_⟩:=f.ext b x hb;rw [he] at gl;cases gl
 have ay0:∀j,0<j->γ.eE (cC hs i h') j=γ.eE hs j\/γ.eE (cC hs i h') j=.wk:=fun j ae=>by
  unfold ay.eE;by_cases h1:j<γ.n0
  ·simp [h1]
  ·simp only [h1,if_false];by_cases ec:j=i
   ·subst ec;rw [kD];by_cases h2:γ.wd j=.wk\/h'≠ab.empty
    ·rw [if_pos h2];exact .inr rfl
    ·have h3:h'=ab.empty:=Classical.byContradiction fun h=>h2 (.inr h);rw [if_neg h2,if_neg (fun h=>h.elim (fun h=>h2 (.inl h)) fun h=>h (emp h3))];exact .inl rfl
   ·rw [gr _ _ ec];exact .inl rfl
 refine {G with
  hi:=H
  ji:=(G.ji.weaken ay0).app (g:=i) (fun op aF=>tx aF) (fun op aF=> ?_) (fun h0 hw=> ?_)
  bH:=fun j ae kX=> ?_
  jz:=fun aQ=>by rw [lh _ (G.gR aQ).1];exact G.jz aQ
  jd:=fun aQ=>by rw [lh _ (G.gR aQ).2.1];exact G.jd aQ
  eF:=fun j h0 ae=> ?_
  os:=⟨by rw [f.os];exact G.os.1,f.output.trans G.os.2⟩
  jZ:=fun aQ=>⟨(G.jZ aQ).1,by rw [lh _ (G.jZ aQ).1];exact (G.jZ aQ).2⟩}
 ·rw [ofEvents_eq] at aF;obtain ⟨e,he,rfl⟩:=Array.mem_map.1 aF;exact fun h=>(still e he).2.2 (Go.ConcR.loc_of_ofEvent h)
 ·have h3:h'=ab.empty:=by
   refine Classical.byContradiction fun h=>hw ?_;unfold ay.eE;have hj:¬i<γ.n0:=fun bY=>aG ⟨by omega,G.old i h0 bY⟩;rw [if_neg hj,kD,if_pos (.inr h)]
  exact Kf (quiet h3)
 ·by_cases ec:j=i
  ·subst ec;rw [Deaf_own,deafBehind_still (fun e he=>⟨(still e he).1,(still e he).2.1⟩)];exact G.bH j ae kX
  ·rw [Deaf_other t (g':=i) (fun e=>ec e.symm) _ (fun op aF=>tx aF)];exact G.bH j ae kX
 ·have ec:j≠i:=fun e=>aG ⟨by omega,by rw [<- e];exact ae⟩;rw [gr _ _ ec];exact G.eF j h0 ae
theorem dh.mute(G:dh tM tW os0 γ n hs w t)(aAZ:0<i)(hi:i<n)(aG:γ.gone i)(hm:∀e∈es,Event.mute e=true)(fn:FuncId)(pos:String):dh tM tW os0 γ n hs w (t++MemOp.ofEvents i fn pos es):=by
 have aj:∀e∈es,(MemAct.ofEvent e).touch? =none:=fun e he=>touch_mute (hm e he);have aA:∀e∈es,∀a,(MemAct.ofEvent e)≠.mark (.release a):=fun e he a h=>by
  have:=hm e he;have af:=Go.ConcR.loc_of_ofEvent h;obtain ⟨loc,wr,nO⟩:=e;simp only at af;subst af;simp [Event.mute] at this
 have T:∀op∈MemOp.ofEvents i fn pos es,op.act.touch? =none/\op.g=i/\(∀a,op.act≠.mark (.release a))/\op.act.low w.heap.size:=fun op aF=>by
  rw [ofEvents_eq] at aF;obtain ⟨e,he,rfl⟩:=Array.mem_map.1 aF;exact ⟨aj e he,rfl,aA e he,low_mute (hm e he) _⟩
 refine {G with
  hi:=G.hi.shared (i:=i) hi rfl (fun _ _=>rfl) fun op aF=>⟨⟨(T op aF).2.1,(T op aF).2.2.1 _,fun x aa=>by rw [(T op aF).1] at aa;cases aa⟩,(T op aF).2.2.2⟩
  ji:=G.ji.app (g:=i) (fun op aF=>(T op aF).2.1) (fun op aF=>(T op aF).2.2.1 _) fun _ _=>Kf aj
  bH:=fun j ae kX=> ?_}
 have ec:j≠i:=fun e=>kX (by rw [e];exact aG);rw [Deaf_other t (g':=i) (fun e=>ec e.symm) _ (fun op aF=>tx aF)];exact G.bH j ae kX
theorem W8{f:Nat->Nat}:∀{m:Nat},0<Go.ConcN.sumTo m f->∃i,i<m/\0<f i
 | 0,h=>by simp [Go.ConcN.sumTo] at h
 | m+1,h=>by
  by_cases hm:0<f m
  ·exact ⟨m,by omega,hm⟩
  ·have:0<Go.ConcN.sumTo m f:=by simp only [Go.ConcN.sumTo] at h;omega
   obtain ⟨i,hi,aP⟩:=W8 this;exact ⟨i,by omega,aP⟩
theorem X5{f:WD->Nat}(h:0<γ.dI f):∃i,γ.n0<=i/\i<γ.aR/\0<f (γ.wd i):=by
 obtain ⟨i,hi,aP⟩:=W8 h;by_cases ao:γ.n0<=i
 ·rw [if_pos ao] at aP;exact ⟨i,ao,hi,aP⟩
 ·rw [if_neg ao] at aP;omega
theorem dh.live(G:dh tM tW os0 γ n hs w t):∃i,i<n/\¬γ.gone i/\¬γ.waits i:=by
 by_cases hw:γ.ms=.reg/\γ.ws=0
 ·obtain ⟨al,aH⟩:=hw;have st:=G.hl.st;have aI:=G.hl.v;rw [al] at st aI;have ace:∀{i:Nat},γ.n0<=i->i≠0:=fun h=>by have:=G.n0.1;omega
  have aside:∀{f:WD->Nat},0<γ.dI f->(∀d,0<f d->d≠.eF/\d≠.wk)->∃i,i<n/\¬γ.gone i/\¬γ.waits i:=fun h aP=>by
   obtain ⟨i,h1,h2,h3⟩:=X5 h;obtain ⟨e1,e2⟩:=aP _ h3;refine ⟨i,by rw [<- G.aR];exact h2,fun aG=>e1 aG.2,?_⟩;unfold ay.waits;rw [if_neg (ace h1),G.out i (.inr (.inr e2))];exact fun h=>by cases h.1
  rcases st with ⟨_,_,_,h|h⟩|h
  ·have hc:0<γ.dI ay.ic:=by have:=h.1;simp at aI;omega
   obtain ⟨i,h1,h2,h3⟩:=X5 hc;have cU:¬γ.gone i:=fun aG=>by rw [aG.2] at h3;simp [ay.ic] at h3
   by_cases Qk:γ.x.md i=.hT/\γ.x.M=0
   ·have dF:i<n:=by rw [<- G.aR];exact h2
    obtain ⟨j,ae,yB,Bf⟩:=cK.live G.ok (Nat.lt_of_lt_of_le dF G.cap) Qk.1 Qk.2;have AD:j≠0:=fun e=>yB (G.out j (.inl e));have hL:j<n:=Nat.lt_of_not_le fun e=>yB (G.out j (.inr (.inl e)));have avv:γ.wd j=.wk:=Classical.byContradiction fun e=>yB (G.out j (.inr (.inr e)));refine ⟨j,hL,fun aG=> ?_,?_⟩
    ·have:=aG.2;rw [avv] at this;cases this
    ·unfold ay.waits;rw [if_neg AD];exact fun h=>Bf h.1
   ·refine ⟨i,by rw [<- G.aR];exact h2,cU,?_⟩;unfold ay.waits;rw [if_neg (ace h1)];exact Qk
  ·exact aside (f:=ay.gQ) (by omega) fun d hd=>by cases d<;>simp [ay.gQ] at hd<;>exact ⟨by simp,by simp⟩
  ·exact aside (f:=ay.hy) (by omega) fun d hd=>by cases d<;>simp [ay.hy] at hd<;>exact ⟨by simp,by simp⟩
 ·exact ⟨0,G.pos,fun aG=>aG.1 rfl,by unfold ay.waits;rw [if_pos rfl];exact hw⟩
end
def fC(P:Program)(tM tW:TypeId)(os0:eB)(Post:Value->World->Prop):jh P where
 kA:=ay
 R:=ay.Rel
 dh:=dh tM tW os0
 waits:=ay.waits
 gone:=ay.gone
 Post:=Post
 refl:=ay.Rel.refl
 trans:=ay.Rel.trans
 at_:=fun d G=>G.at_ d
 eb:=fun G _ _=>G.hi.eb _
 loc:=fun fn pos G hi aG f dF iO=>G.loc hi aG f dF iO fn pos
 mute:=fun fn pos G h0 hi aG hm=>G.mute h0 hi aG hm fn pos
 live:=fun G=>G.live
 main:=fun G=>⟨G.pos,fun h=>h.1 rfl⟩
end
end
end Go.Nk
