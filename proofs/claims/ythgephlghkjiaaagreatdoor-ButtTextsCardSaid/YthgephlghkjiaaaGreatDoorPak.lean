/- Part Pak of the proof of ButtTexts: lemmas. -/
import Derived.Test.YthgephlghkjiaaaGreatDoorProg
import Derived.Conc.MuSpec
import Derived.Test.YthgephlghkjiaaaGreatDoorPad
set_option maxRecDepth 100000
set_option maxHeartbeats 4000000
set_option linter.all false
namespace Go.Nk
noncomputable section
open Go Go.Conc Go.Proofs
open _root_.Array renaming mem_map->av0
open Bool renaming true->J,false->q9
open Classical renaming byContradiction->auk
open Go renaming Code->rj,Deferred->tc,Program->tb,Oper->sa,Operand->su,TypeId->ta,Value->o5,Addr->vm,World->tg,Trace->N1,Event->R1,FuncId->vb,deafBehind->A0
open Go.Conc renaming ofEvents_eq->auy,Deaf->T5,Deaf_other->av1
open Go.ConcN renaming sumTo->at6
open Go.ConcR renaming loc_of_ofEvent->axU
open Go.MemAct renaming ofEvent->Zs,touch?->at2
open Go.MemOp renaming ofEvents->T1
open Nat renaming lt_of_lt_of_le->auj,le_refl->vr,le_trans->atD
open Option renaming some->C,none->o0,bind_eq_some_iff->auK,map_eq_some_iff->au5
open Option.some renaming injEq->W6
def bH:rj->rj
 | .seq x _=>x
 | .cond _ x _=>x
 | .block _ x=>x
 | .loop x=>x
 | .scope x=>x
 | .rangeFunc _ _ x _=>x
 |c=>c
def bf:rj->rj
 | .seq _ y=>y
 | .cond _ _ y=>y
 | .rangeFunc _ _ _ y=>y
 |c=>c
def aF(a b:rj)(q:a=b):a=b:=q
def aD{a b:Prop}(x:a)(y:b):a/\b:=⟨x,y⟩
section
variable{ai:Type}(X:Env->List tc->ai->ae->Prop)(K:eM->Env->List tc->ai->ae->Prop)(e:Env)(d:List tc)(s:ai)(h:ae)
def aaU:sF X K .cx e d s h=X e d s h:=rfl
def HI(i:Nat):sF X K (.ext i) e d s h=K (.ext i) e d s h:=rfl
def PD:sF X K .ret e d s h=K .ret e d s h:=rfl
def PE(i:Nat):lV i K .cx e d s h=K .cx e d s h:=rfl
def PF(i:Nat):lV i K .ret e d s h=K .ret e d s h:=rfl
def HJ(i:Nat):lV i K (.ext i) e d s h=K .cx e d s h:=by simp[lV]
def PG(i j:Nat)(a:(j=i)=False):lV i K (.ext j) e d s h=K (.ext j) e d s h:=by simp[lV,a]
end
def aaV(A B:Prop):@GL (.bool J) ⟨A⟩ ⟨B⟩=A:=rfl
def aaW(A B:Prop):@GL (.bool q9) ⟨A⟩ ⟨B⟩=B:=rfl
section
variable{P:tb}{main:Bool}{ai:Type}{S:Sys ai}{n:Nat}{b:aS}{e:Env}{d:List tc}{s:ai}{h:ae}
variable{K:eM->Env->List tc->ai->ae->Prop}{c bJ x y:rj}{l rest:List sa}{i k:Nat}{N:Env->List tc->ai->ae->Prop}
def aaX:cB P main S n b (.seq (.region i l.toArray q9) y) K e d s h=jd P main S b l.toArray l e d s h (cB P main S n b y K):=rfl
def PH:cB P main S n b (.seq x y) K e d s h=cB P main S n b x (sF (cB P main S n b y K) K) e d s h:=rfl
def aaY:cB P main S n b (.region i l.toArray q9) K e d s h=jd P main S b l.toArray l e d s h (K .cx):=rfl
def fI:cB P main S n b (.region i l.toArray J) K e d s h=∀t,fO P main S b l.toArray (Region.schedule (P.follows .mixedOrders) l.toArray t) e d s h (K .cx):=rfl
def aaZ:cB P main S n b (.block i x) K e d s h=cB P main S n b x (lV i K) e d s h:=rfl
def aa0:cB P main S n b (.scope x) K e d s h=cB P main S n b x K e d s h:=rfl
def aa1{t:su}:cB P main S n b (.cond t x y) K e d s h=@bA _ _ (aA e t) ⟨λv=>@GL v ⟨cB P main S n b x K e d s h⟩ ⟨cB P main S n b y K e d s h⟩⟩:=rfl
def vX{t:ta}{z:o5}(a:fw P t=C z)[K:hA ai](hs:zF t=q9:=by rfl):nv P main S b t s h=∀c,h c=o0->K.f s (h.put c ⟨.cells z.cells t,J⟩) (.pointer (C ⟨c,0,o0⟩)):=by unfold nv;rw[hs];exact GV (K:=⟨λv h=>K.f s h v⟩) a
variable{ops:Array sa}{t ty aa2 bZ cU:Nat}{pos:String}{es:Array Edge}{g:Option (Nat×Bool)}{a a1 a2 a3:su}{dst:Option Nat}{op:Op}{j:Nat}{w:Bool}
def aa3{β:Sort 1}(f:o5->β):@bA _ _ undef ⟨f⟩=f undef:=rfl
def aa4:jd P main S b ops [] e d s h N=N e d s h:=rfl
def aa5:jd P main S b ops (⟨dst,op,ty,pos,es,o0⟩::rest) e d s h N=bP P main S b ⟨dst,op,ty,pos,es,o0⟩ e d s h λe d s h=>jd P main S b ops rest e d s h N:=rfl
def kG:List sa->Nat->Option Nat
 | [],_=>o0
 |o::_,0=>o.dst
 |_::l,n+1=>kG l n
def aa6{o:sa}:kG (o::l) 0=o.dst:=rfl
def aa7{o:sa}:kG (o::l) (j+1)=kG l j:=rfl
def CW(o:Option Nat)(e:Env)(w:Bool):Bool:=match o with|some t=>zE (e t) w|none=>q9
def aa8:CW (C t) e w=zE (e t) w:=rfl
def aa9:(jV l.toArray e j==C w)=CW (kG l j) e w:=by
 have h:(l.toArray[j]?).bind (·.dst)=kG l j:=by
  simp only[List.getElem?_toArray]
  induction l generalizing j with
  |nil=>rfl
  |cons o l a=>cases j with|zero=>rfl|succ j=>simp only[List.getElem?_cons_succ];exact a
 unfold jV CW zE;rw[h];cases kG l j with
 |none=>rfl
 |some t=>rfl
def aba:jd P main S b l.toArray (⟨dst,op,ty,pos,es,C (j,w)⟩::rest) e d s h N=@bA _ _ (CW (kG l j) e w) ⟨λy=>@vv y ⟨bP P main S b ⟨dst,op,ty,pos,es,C (j,w)⟩ e d s h λe d s h=>jd P main S b l.toArray rest e d s h N⟩ ⟨jd P main S b l.toArray rest (b7 e dst undef) d s h N⟩⟩:=by rw[<- aa9];rfl
variable{op:BinOp}{Af:UnOp}{bc:Array (Nat×su)}{f:Fn}{xs kG:Array su}{dD:Array Nat}{r lo hi aZ:Option su}
def abb:bP P main S b ⟨C t,.move a,ty,pos,es,g⟩ e d s h N=@bA _ _ (aA e a) ⟨λv=>N (upd e t v) d s h⟩:=rfl
def abc:bP P main S b ⟨C t,.assign a,ty,pos,es,g⟩ e d s h N=@bA _ _ (aA e a) ⟨λv=>N (upd e t v) d s h⟩:=rfl
def abd:bP P main S b ⟨C t,.pick a1 a2 a3,ty,pos,es,g⟩ e d s h N=@bA _ _ (aA e a1) ⟨λa=>@bA _ _ (aA e a2) ⟨λc=>@bA _ _ (aA e a3) ⟨λf=>@al P _ (vt a c f) h ⟨λv h=>N (upd e t v) d s h⟩⟩⟩⟩:=rfl
def abe:bP P main S b ⟨C t,.alloc bZ,ty,pos,es,g⟩ e d s h N=@nv P main _ S b bZ s h ⟨λs h v=>N (upd e t v) d s h⟩:=rfl
def abf:bP P main S b ⟨C t,.box bZ a,ty,pos,es,g⟩ e d s h N=@bA _ _ (aA e a) ⟨λc=>@al P _ (Instr.box bZ c) h ⟨λv h=>N (upd e t v) d s h⟩⟩:=rfl
def abg:bP P main S b ⟨C t,.build bZ bc,ty,pos,es,g⟩ e d s h N=@al P _ (Instr.build bZ ((bc.toList.map λp=>(p.1,aA e p.2)).toArray)) h ⟨λv h=>N (upd e t v) d s h⟩:=rfl
def abh:bP P main S b ⟨C t,.buildSlice bZ i bc,ty,pos,es,g⟩ e d s h N=@al P _ (Instr.buildSlice bZ i ((bc.toList.map λp=>(p.1,aA e p.2)).toArray)) h ⟨λv h=>N (upd e t v) d s h⟩:=rfl
def abi:bP P main S b ⟨C t,.load bZ a,ty,pos,es,g⟩ e d s h N=@bA _ _ (aA e a) ⟨λc=>@eX P main _ S b bZ c s h ⟨λs h v=>N (upd e t v) d s h⟩⟩:=rfl
def abj:bP P main S b ⟨o0,.store bZ a1 a2,ty,pos,es,g⟩ e d s h N=@bA _ _ (aA e a1) ⟨λa=>@bA _ _ (aA e a2) ⟨λc=>@al P _ (Instr.storeAt bZ a c) h ⟨λ_ h=>N e d s h⟩⟩⟩:=rfl
def abk:bP P main S b ⟨dst,.nilCheck a,ty,pos,es,g⟩ e d s h N=@bA _ _ (aA e a) ⟨λc=>@al P _ (vu c) h ⟨λan h=>@qz P main _ S dst e d s ⟨N⟩ an h⟩⟩:=rfl
def abl:bP P main S b ⟨C t,.binOp op bZ a1 a2 i,ty,pos,es,g⟩ e d s h N=@bA _ _ (aA e a1) ⟨λa=>@bA _ _ (aA e a2) ⟨λc=>@al P _ (bN op bZ a1 a2 a c) h ⟨λv h=>N (upd e t v) d s h⟩⟩⟩:=rfl
def abm:bP P main S b ⟨C t,.unOp Af bZ a,ty,pos,es,g⟩ e d s h N=@bA _ _ (aA e a) ⟨λc=>@al P _ (Op.unary Af c) h ⟨λv h=>N (upd e t v) d s h⟩⟩:=rfl
def abn:bP P main S b ⟨C t,.convert bZ cU a,ty,pos,es,g⟩ e d s h N=@bA _ _ (aA e a) ⟨λc=>@iw P main _ S b bZ cU c s h ⟨λs h v=>N (upd e t v) d s h⟩⟩:=rfl
def abo:bP P main S b ⟨C t,.makeInterface bZ a,ty,pos,es,g⟩ e d s h N=@bA _ _ (aA e a) ⟨λc=>@al P _ (Instr.makeInterface bZ c) h ⟨λv h=>N (upd e t v) d s h⟩⟩:=rfl
def abp:bP P main S b ⟨C t,.makeFunc f xs kG,ty,pos,es,g⟩ e d s h N=N (upd e t (.func f ((xs.toList.map (aA e)).toArray) ((kG.toList.map (aA e)).toArray))) d s h:=rfl
def abq:bP P main S b ⟨C t,.makeMap bZ r,ty,pos,es,g⟩ e d s h N=@al P _ (Instr.makeMap bZ (r.map (aA e))) h ⟨λv h=>N (upd e t v) d s h⟩:=rfl
def abr:bP P main S b ⟨C t,.makeSlice bZ a1 a2,ty,pos,es,g⟩ e d s h N=@bA _ _ (aA e a1) ⟨λa=>@bA _ _ (aA e a2) ⟨λc=>@al P _ (Instr.makeSlice bZ a c) h ⟨λv h=>N (upd e t v) d s h⟩⟩⟩:=rfl
def abt:bP P main S b ⟨C t,.slice bZ a lo hi aZ,ty,pos,es,g⟩ e d s h N=@bA _ _ (aA e a) ⟨λc=>@al P _ (Instr.sliceAt bZ c (lo.map (aA e)) (hi.map (aA e)) (aZ.map (aA e))) h ⟨λv h=>N (upd e t v) d s h⟩⟩:=rfl
def abu:bP P main S b ⟨C t,.fieldAddr bZ a i,ty,pos,es,g⟩ e d s h N=@bA _ _ (aA e a) ⟨λc=>@al P _ (Instr.fieldAt bZ c i) h ⟨λv h=>N (upd e t v) d s h⟩⟩:=rfl
def abv:bP P main S b ⟨C t,.field bZ a i,ty,pos,es,g⟩ e d s h N=@bA _ _ (aA e a) ⟨λc=>@al P _ (Instr.field bZ c i) h ⟨λv h=>N (upd e t v) d s h⟩⟩:=rfl
def abw:bP P main S b ⟨C t,.indexAddr bZ a1 a2,ty,pos,es,g⟩ e d s h N=@bA _ _ (aA e a1) ⟨λa=>@bA _ _ (aA e a2) ⟨λc=>@al P _ (Instr.indexAt bZ a c) h ⟨λv h=>N (upd e t v) d s h⟩⟩⟩:=rfl
def abx:bP P main S b ⟨C t,.index bZ a1 a2,ty,pos,es,g⟩ e d s h N=@bA _ _ (aA e a1) ⟨λa=>@bA _ _ (aA e a2) ⟨λc=>@al P _ (Instr.index bZ a c) h ⟨λv h=>N (upd e t v) d s h⟩⟩⟩:=rfl
def aby:bP P main S b ⟨C t,.lookup bZ a1 a2 w,ty,pos,es,g⟩ e d s h N=@bA _ _ (aA e a1) ⟨λa=>@bA _ _ (aA e a2) ⟨λc=>@al P _ (Instr.lookup bZ a c w) h ⟨λv h=>N (upd e t v) d s h⟩⟩⟩:=rfl
def abz:bP P main S b ⟨o0,.mapUpdate bZ a1 a2 a3,ty,pos,es,g⟩ e d s h N=@bA _ _ (aA e a1) ⟨λa=>@bA _ _ (aA e a2) ⟨λc=>@bA _ _ (aA e a3) ⟨λf=>@al P _ (Instr.mapUpdate bZ a c f) h ⟨λ_ h=>N e d s h⟩⟩⟩⟩:=rfl
def abA:bP P main S b ⟨C t,.typeAssert a bZ cU w,ty,pos,es,g⟩ e d s h N=@bA _ _ (aA e a) ⟨λc=>@al P _ (Instr.typeAssert c bZ cU w) h ⟨λv h=>N (upd e t v) d s h⟩⟩:=rfl
def abB:bP P main S b ⟨C t,.extract a i,ty,pos,es,g⟩ e d s h N=@bA _ _ (aA e a) ⟨λc=>@al P _ (Instr.extract c i) h ⟨λv h=>N (upd e t v) d s h⟩⟩:=rfl
def abC:bP P main S b ⟨C t,.range bZ a,ty,pos,es,g⟩ e d s h N=@bA _ _ (aA e a) ⟨λc=>@al P _ (Instr.range bZ c) h ⟨λv h=>N (upd e t v) d s h⟩⟩:=rfl
def abD:bP P main S b ⟨C t,.next a w,ty,pos,es,g⟩ e d s h N=@bA _ _ (aA e a) ⟨λc=>@al P _ (Instr.next c w ty) h ⟨λv h=>N (upd e t v) d s h⟩⟩:=rfl
def abE:bP P main S b ⟨dst,.go ⟨.value a,xs,dD⟩,ty,pos,es,g⟩ e d s h N=@bA _ _ (aA e a) ⟨λc=>@tX P main _ S b c ((xs.toList.map (aA e)).toArray) s h ⟨λs h v=>N (b7 e dst v) d s h⟩⟩:=rfl
def abF:bP P main S b ⟨o0,.defer ⟨.value (.func k),xs,dD⟩,ty,pos,es,g⟩ e d s h N=sG P main S b k ((xs.toList.map (aA e)).toArray) ⟨o0,.defer ⟨.value (.func k),xs,dD⟩,ty,pos,es,g⟩ e d s h N:=rfl
def abG:bP P main S b ⟨dst,.call ⟨.value (.func k),xs,dD⟩,ty,pos,es,g⟩ e d s h N=@ej P main _ S k ((xs.toList.map (aA e)).toArray) s h ⟨λs h v=>N (b7 e dst v) d s h⟩:=rfl
def abH:bP P main S b ⟨dst,.call ⟨.value (.tmp k),xs,dD⟩,ty,pos,es,g⟩ e d s h N=@bA _ _ (e k) ⟨λv=>@al P _ (rD v ((xs.toList.map (aA e)).toArray)) h ⟨λan h=>@qz P main _ S dst e d s ⟨N⟩ an h⟩⟩:=rfl
def abI:bP P main S b ⟨dst,.call ⟨.builtin .len,xs,dD⟩,ty,pos,es,g⟩ e d s h N=@al P _ (Builtin.len_ dD ty ((xs.toList.map (aA e)).toArray)) h ⟨λv h=>N (b7 e dst v) d s h⟩:=rfl
def abJ:bP P main S b ⟨dst,.call ⟨.builtin .append,xs,dD⟩,ty,pos,es,g⟩ e d s h N=@al P _ (Builtin.append_ dD ty ((xs.toList.map (aA e)).toArray)) h ⟨λv h=>N (b7 e dst v) d s h⟩:=rfl
def abK:bP P main S b ⟨dst,.call ⟨.builtin .copy,xs,dD⟩,ty,pos,es,g⟩ e d s h N=@al P _ (Builtin.copy_ dD ty ((xs.toList.map (aA e)).toArray)) h ⟨λv h=>N (b7 e dst v) d s h⟩:=rfl
def abL:bP P main S b ⟨dst,.call ⟨.builtin .max,xs,dD⟩,ty,pos,es,g⟩ e d s h N=@al P _ (Builtin.max_ dD ty ((xs.toList.map (aA e)).toArray)) h ⟨λv h=>N (b7 e dst v) d s h⟩:=rfl
def abM:bP P main S b ⟨dst,.call ⟨.builtin .min,xs,dD⟩,ty,pos,es,g⟩ e d s h N=@al P _ (Builtin.min_ dD ty ((xs.toList.map (aA e)).toArray)) h ⟨λv h=>N (b7 e dst v) d s h⟩:=rfl
def abN:bP P main S b ⟨dst,.call ⟨.builtin .clear,xs,dD⟩,ty,pos,es,g⟩ e d s h N=@al P _ (Builtin.clear_ dD ty ((xs.toList.map (aA e)).toArray)) h ⟨λv h=>N (b7 e dst v) d s h⟩:=rfl
def abO:bP P main S b ⟨dst,.call ⟨.builtin .unsafeString,xs,dD⟩,ty,pos,es,g⟩ e d s h N=@al P _ (Builtin.unsafeString_ dD ty ((xs.toList.map (aA e)).toArray)) h ⟨λv h=>N (b7 e dst v) d s h⟩:=rfl
def abP:bP P main S b ⟨dst,.call ⟨.builtin .unsafeSliceData,xs,dD⟩,ty,pos,es,g⟩ e d s h N=@al P _ (Builtin.unsafeSliceData_ dD ty ((xs.toList.map (aA e)).toArray)) h ⟨λv h=>N (b7 e dst v) d s h⟩:=rfl
end
def aO:=aD (aD (aD (aD (aD (aD (@aaX) (aD @PH @aaY)) (aD (aD @aaZ @aa0) (aD @aa1 @gJ))) (aD (aD (aD @Y2 @Y3) (aD @Y4 @aa4)) (aD (aD @aa5 @aba) (aD @aa6 @aa7)))) (aD (aD (aD (@aa8) (aD @Zo @Zl)) (aD (aD @Zn @Zm) (aD @Ow @Ox))) (aD (aD (aD @abb @abc) (aD @abd @abe)) (aD (aD @abf @abg) (aD @abh @abi))))) (aD (aD (aD (aD (@abj) (aD @abk @abl)) (aD (aD @abm @abn) (aD @abo @abp))) (aD (aD (aD @abq @abr) (aD @abt @abu)) (aD (aD @abv @abw) (aD @abx @aby)))) (aD (aD (aD (aD @abz @abA) (aD @abB @abC)) (aD (aD @abD @abE) (aD @abF @abG))) (aD (aD (aD @abH @abI) (aD @abJ @abK)) (aD (aD @abL @abM) (aD @abN @abO)))))) (aD (aD (aD (aD (aD (@abP) (aD @aa3 @Y6)) (aD (aD @Y7 @Zi) (aD @Zj @Zk))) (aD (aD (aD @Zc @Y8) (aD @Za @Y9)) (aD (aD @Zb @Zd) (aD @Ze @Zf)))) (aD (aD (aD (@Zg) (aD @Zh @aL)) (aD (aD @YW @YX) (aD @YY @YZ))) (aD (aD (aD @Y0 @Y1) (aD @Zu @YM)) (aD (aD @YN @aaV) (aD @aaW @YO))))) (aD (aD (aD (aD (@Zt) (aD @YP @YQ)) (aD (aD @YR @eU) (aD @Y5 @YS))) (aD (aD (aD @YT @YU) (aD @aaU @HI)) (aD (aD @PD @PE) (aD @PF @HJ)))) (aD (aD (aD (aD @PG @decide_true) (aD @decide_false @Bool.false_beq)) (aD (aD @Bool.true_beq @Bool.not_true) (aD @Bool.not_false @Bool.false_eq_true))) (aD (aD (aD @Bool.true_eq_false @if_true.{1}) (aD @if_false.{1} @List.map_cons.{0,0})) (aD (aD @List.map_nil.{0,0} @Option.map_some.{0,0}) (aD @Option.map_none.{0,0} @beq_self_eq_true.{0}))))))
def ak:=aD @aL (aD @Ow @Ox)
def atA{p:Prop}(h:p:=by simp[ak]):p:=h
noncomputable def xX:rj:=Tryz.f97.body.getD .skip
def HK:rj:=bf xX
def HL:rj:=bf HK
def CX:rj:=bH HL
def Ag:rj:=bH CX
def abQ:=aF Ag (.region _ [_].toArray _) rfl
def xY:rj:=bf CX
def HM:rj:=bH xY
def CY:rj:=bf HM
def CZ:rj:=bf CY
def C0:rj:=bf CZ
def C1:rj:=bf C0
def abR:=aF C1 (.region _ [_].toArray _) rfl
def HN:rj:=bH C0
def HO:rj:=bf HN
def C2:rj:=bf HO
def PI:rj:=bH C2
def abS:=aF PI (.region _ [_,_,_].toArray _) rfl
def PK:=aF C2 (.cond _ PI .skip) rfl
def PL:=aF HO (.seq (.region _ [_,_,_,_,_,_,_].toArray _) C2) rfl
def abT:=aF HN (.seq (.region _ [_,_,_,_,_].toArray _) HO) rfl
def abU:=aF C0 (.seq HN C1) rfl
def abV:=aF CZ (.seq (.region _ [_].toArray _) C0) rfl
def HQ:rj:=bH CY
def PM:rj:=bf HQ
def abW:=aF PM (.cond _ (.exit 1) .skip) rfl
def abX:=aF HQ (.seq (.region _ [_,_].toArray _) PM) rfl
def abY:=aF CY (.seq HQ CZ) rfl
def abZ:=aF HM (.seq (.region _ [_,_,_,_,_,_,_,_].toArray _) CY) rfl
def ab0:=aF xY (.block _ HM) rfl
def ab1:=aF CX (.rangeFunc _ _ Ag xY) rfl
def ab2:=aF HL (.block _ CX) rfl
def ab3:=aF HK (.seq (.region _ [_,_,_,_].toArray _) HL) rfl
def ab4:=aF xX (.seq (.region _ [_].toArray _) HK) rfl
def ab5:Tryz.f97.body=C xX:=O
def ab6:fN 38 xX=J:=O
noncomputable def C3:rj:=Tryz.f99.body.getD .skip
def PN:rj:=bf C3
def ab7:=aF PN (.seq (.region _ [_,_].toArray _) .ret) rfl
def ab8:=aF C3 (.seq (.region _ [_,_,_,_].toArray _) PN) rfl
def ab9:Tryz.f99.body=C C3:=O
def aca:fN 8 C3=J:=O
noncomputable def C4:rj:=Tryz.f101.body.getD .skip
def C5:rj:=bf C4
def PO:rj:=bf C5
def acb:=aF PO (.seq (.region _ [_,_,_,_,_,_,_].toArray _) .ret) rfl
def HR:rj:=bH C5
def HS:rj:=bf HR
def PQ:rj:=bH HS
def acd:=aF PQ (.seq (.region _ [_,_,_,_,_,_].toArray _) .ret) rfl
def PR:=aF HS (.cond _ PQ .skip) rfl
def ace:=aF HR (.seq (.region _ [_,_,_,_,_].toArray _) HS) rfl
def acf:=aF C5 (.seq HR PO) rfl
def acg:=aF C4 (.seq (.region _ [_,_,_].toArray _) C5) rfl
def ach:Tryz.f101.body=C C4:=O
def aci:fN 21 C4=J:=O
noncomputable def C6:rj:=Tryz.f140.body.getD .skip
def HT:rj:=bf C6
def HU:rj:=bf HT
def PS:rj:=bf HU
def acj:=aF PS (.region _ [_,_,_].toArray _) rfl
def ack:=aF HU (.seq (.region _ [_,_].toArray _) PS) rfl
def acm:=aF HT (.seq (.region _ [_].toArray _) HU) rfl
def acn:=aF C6 (.seq (.region _ [_].toArray _) HT) rfl
def aco:Tryz.f140.body=C C6:=O
def acp:fN 10 C6=J:=O
noncomputable def C7:rj:=Tryz.f141.body.getD .skip
def C8:rj:=bf C7
def C9:rj:=bf C8
def Da:rj:=bf C9
def PT:rj:=bf Da
def acr:=aF PT (.seq (.region _ [_].toArray _) .ret) rfl
def HV:rj:=bH Da
def HW:rj:=bf HV
def HX:rj:=bH HW
def HY:rj:=bH HX
def Db:rj:=bf HY
def Dc:rj:=bf Db
def PU:rj:=bf Dc
def acs:=aF PU (.region _ [_,_].toArray _) rfl
def HZ:rj:=bH Dc
def H0:rj:=bH HZ
def H3:rj:=bf H0
def H4:rj:=bf H3
def H5:rj:=bH H4
def H6:rj:=bH H5
def Dd:rj:=bf H6
def De:rj:=bf Dd
def PV:rj:=bf De
def acu:=aF PV (.region _ [_,_].toArray _) rfl
def H7:rj:=bH De
def H8:rj:=bH H7
def Df:rj:=bf H8
def H9:rj:=bf Df
def acv:rj:=bH H9
def acw:=aF H9 (.cond _ acv .skip) rfl
def PW:rj:=bH Df
def vY:List sa:=[⟨C 34,.load 264 (.tmp 4),264, "butt.go:267",#[],o0⟩,⟨C 35,.move (.tmp 0),58, "butt.go:267",#[],o0⟩,⟨C 36,.move (.tmp 0),58, "butt.go:267",#[],o0⟩,⟨C 37,.call ⟨.builtin .len,#[(.tmp 36)],#[58]⟩,3, "butt.go:267",#[⟨2,.data⟩],o0⟩,⟨C 38,.move (.tmp 0),58, "butt.go:267",#[],o0⟩,⟨C 39,.call ⟨.builtin .len,#[(.tmp 38)],#[58]⟩,3, "butt.go:267",#[⟨4,.data⟩],o0⟩,⟨C 40,.slice 58 (.tmp 35) o0 (C (.tmp 37)) (C (.tmp 39)),58, "butt.go:267",#[⟨1,.data⟩,⟨3,.data⟩,⟨5,.data⟩],o0⟩,⟨C 41,.move (.tmp 7),3, "butt.go:267",#[],o0⟩,⟨C 42,.move (.tmp 8),3, "butt.go:267",#[],o0⟩,⟨C 43,.build 57 #[(0,(.tmp 41)),(1,(.tmp 42))],57, "butt.go:267",#[⟨7,.data⟩,⟨8,.data⟩],o0⟩,⟨C 44,.buildSlice 58 1 #[(0,(.tmp 43))],58, "butt.go:267",#[⟨9,.data⟩],o0⟩,⟨C 45,.call ⟨.builtin .append,#[(.tmp 40),(.tmp 44)],#[58,58]⟩,58, "butt.go:267",#[⟨6,.data⟩,⟨10,.data⟩],o0⟩,⟨C 46,.call ⟨.value (.tmp 34),#[(.tmp 45)],#[58]⟩,4, "butt.go:267",#[⟨0,.data⟩,⟨11,.data⟩,⟨11,.chain⟩],o0⟩,⟨C 47,.unOp .not 4 (.tmp 46),4, "butt.go:267",#[⟨12,.data⟩],o0⟩]
def acx:=aF PW (.region _ (List.toArray vY) _) rfl
def acy:=aF Df (.seq PW H9) rfl
def acz:=aF H8 (.seq (.region _ [_,_].toArray _) Df) rfl
def acA:=aF H7 (.block _ H8) rfl
def acB:=aF De (.seq H7 PV) rfl
def PX:rj:=bH Dd
def PY:=aF PX (.cond _ .skip (.exit 2)) rfl
def PZ:=aF Dd (.seq PX De) rfl
def P0:=aF H6 (.seq (.region _ [_].toArray _) Dd) rfl
def acC:=aF H5 (.loop H6) rfl
def acD:=aF H4 (.block _ H5) rfl
def acE:=aF H3 (.seq (.region _ [_].toArray _) H4) rfl
def acF:=aF H0 (.seq (.region _ [_,_].toArray _) H3) rfl
def acG:=aF HZ (.block _ H0) rfl
def acH:=aF Dc (.seq HZ PU) rfl
def P1:rj:=bH Db
def P2:=aF P1 (.cond _ .skip (.exit 0)) rfl
def P3:=aF Db (.seq P1 Dc) rfl
def P4:=aF HY (.seq (.region _ [_].toArray _) Db) rfl
def acI:=aF HX (.loop HY) rfl
def acJ:=aF HW (.block _ HX) rfl
def acK:=aF HV (.seq (.region _ [_,_,_,_,_].toArray _) HW) rfl
def acL:=aF Da (.seq HV PT) rfl
def Ia:rj:=bH C9
def Ib:rj:=bf Ia
def Ic:rj:=bH Ib
def P5:rj:=bH Ic
def xZ:List sa:=[⟨C 20,.load 264 (.tmp 3),264, "butt.go:263",#[],o0⟩,⟨C 21,.move (.tmp 0),58, "butt.go:263",#[],o0⟩,⟨C 22,.call ⟨.value (.func 142),#[(.tmp 21)],#[58]⟩,58, "butt.go:263",#[⟨1,.data⟩],o0⟩,⟨C 23,.call ⟨.value (.tmp 20),#[(.tmp 22)],#[58]⟩,4, "butt.go:263",#[⟨0,.data⟩,⟨2,.data⟩,⟨2,.chain⟩],o0⟩,⟨C 6,.assign (.tmp 23),4, "butt.go:263",#[⟨3,.data⟩,⟨3,.chain⟩,⟨0,.phase⟩,⟨1,.phase⟩,⟨2,.phase⟩,⟨3,.phase⟩],o0⟩]
def acM:=aF P5 (.region _ (List.toArray xZ) _) rfl
def acN:=aF Ic (.seq P5 .ret) rfl
def P6:=aF Ib (.cond _ Ic .skip) rfl
def P7:=aF Ia (.seq (.region _ [_,_,_,_,_,_,_].toArray _) Ib) rfl
def P8:=aF C9 (.seq Ia Da) rfl
def Dg:rj:=bH C8
def Ie:rj:=bf Dg
def P9:rj:=bH Ie
def acO:=aF P9 (.seq (.region _ [_].toArray _) .ret) rfl
def Ig:=aF Ie (.cond _ P9 .skip) rfl
def Qa:rj:=bH Dg
def x6:List sa:=[⟨C 9,.move (.tmp 0),58, "butt.go:259",#[],o0⟩,⟨C 10,.call ⟨.value (.func 62),#[(.tmp 9)],#[58]⟩,3, "butt.go:259",#[⟨0,.data⟩],o0⟩,⟨C 11,.load 3 (.tmp 1),3, "butt.go:259",#[],o0⟩,⟨C 12,.binOp .gtr 3 (.tmp 10) (.tmp 11) 3,4, "butt.go:259",#[⟨1,.data⟩,⟨2,.data⟩],o0⟩]
def Ih:=aF Qa (.region _ (List.toArray x6) _) rfl
def Ii:=aF Dg (.seq Qa Ie) rfl
def Ij:=aF C8 (.seq Dg C9) rfl
def Ik:=aF C7 (.seq (.region _ [_].toArray _) C8) rfl
def Il:Tryz.f141.body=C C7:=O
def Im:fN 50 C7=J:=O
def fB(hs:Nat->ae)(i b:Nat):Prop:=∃x,hs i b=C x/\x.own=J
def gu(hs:Nat->ae)(i b:Nat):Prop:=∃x,hs i b=C x/\x.own=q9
def dX(h:ae)(b:Nat):Prop:=∃x,h b=C x
structure fy(hs:Nat->ae)(n:Nat)(aT:ae)(sh:Nat->Prop)(mu:vm)(aW:Nat->Prop)(w:tg)(t:N1):Prop where
 cZ:∀i,(hs i).In w
 oW:aT.In w
 ex:zB (fB hs) (gu hs) (dX aT) sh
 out:∀i,n<=i->hs i=λ_=>o0
 low:∀b,sh b->b<w.heap.size
 fo:iP (fB hs) (gu hs) (dX aT) sh mu aW n w.heap.size t
section
variable{hs:Nat->ae}{n i:Nat}{aT:ae}{sh:Nat->Prop}{mu:vm}{aW:Nat->Prop}{w w':tg}{t:N1}{h':ae}{es:Array R1}
def sZ{j b:Nat}{x:dL}(e:hs j b=C x):fB hs j b\/gu hs j b:=by
 cases a:x.own with
 |true=>exact .inl ⟨x,e,a⟩
 |false=>exact .inr ⟨x,e,a⟩
def acP(j:h'.In w'){e:R1}(f:tR h' e)(hh:hs i=h')(fn:vb)(pos:String):GF (fB hs) (gu hs) sh mu i {g:=i,fn,pos,act:=.ofEvent e}/\(Zs e).low w'.heap.size:=by
 obtain⟨loc,wr,l⟩:=e;cases loc with
 |cell a=>
  obtain⟨h1,x,d,h⟩:=f;simp only at h1;subst h1;refine⟨⟨rfl,by simp[Zs],λy b=> ?_⟩,In.lt j d⟩;simp only[Zs,at2,W6]at b;subst b;refine⟨a.block,rfl,.inr ⟨?_,rfl⟩⟩;cases c:x.own with
  |true=>exact .inl ⟨x,by rw[hh];exact d,c⟩
  |false=>exact .inr ⟨⟨x,by rw[hh];exact d,c⟩,by cases wr with|false=>rfl|true=>exact absurd (h rfl) (by simp[c])⟩
 |obj r=>
  obtain⟨h1,x,d,h⟩:=f;simp only at h1;subst h1;refine⟨⟨rfl,by simp[Zs],λy b=> ?_⟩,by cases wr<;>exact In.lt j d⟩;simp only[Zs,at2,W6]at b;subst b;refine⟨r,rfl,.inr ⟨?_,rfl⟩⟩;cases c:x.own with
  |true=>exact .inl ⟨x,by rw[hh];exact d,c⟩
  |false=>exact .inr ⟨⟨x,by rw[hh];exact d,c⟩,by cases wr with|false=>rfl|true=>exact absurd (h rfl) (by simp[c])⟩
 |mark m=>have k:mo m=J:=f;cases m<;>simp[mo]at k<;>exact⟨⟨rfl,by simp[Zs],λy b=>by simp[Zs,at2]at b⟩,trivial⟩
 |output=>exact f.elim
 |goroutines=>exact f.elim
set_option linter.unusedVariables false in
def fy.same(H:fy hs n aT sh mu aW w t)(f:kD (hs i) w h' w'){b:Nat}(hb:b<w.heap.size)(c:¬fB hs i b):w'.heap[b]? =w.heap[b]? :=by
 refine f.other b hb ?_;cases a:hs i b with
 |none=>exact NZ a
 |some x=>
  rw[xb a];cases d:x.own with
  |false=>rfl
  |true=>exact absurd ⟨x,a,d⟩ c
def fy.loc(H:fy hs n aT sh mu aW w t)(hi:i<n)(f:kD (hs i) w h' w')(z:h'.In w')(D:∀e∈es,tR h' e)(fn:vb)(pos:String):fy (cA hs i h') n aT sh mu aW w' (t++T1 i fn pos es)/\∀b,sh b->w'.heap[b]? =w.heap[b]? :=by
 have F:∀b,sh b->w'.heap[b]? =w.heap[b]? :=λb hb=>H.same f (H.low b hb) λl=>H.ex.ownSh i b l hb;have G:∀j b x,j≠i->hs j b=C x->¬fB hs i b:=λj b x g d l=>by
  rcases sZ d with o|r
  .exact g (H.ex.one j i b o l)
  .exact H.ex.mr i j b l r
 have L:∀b,fB (cA hs i h') i b->fB hs i b\/w.heap.size<=b:=λb ⟨x,d,h⟩=>by
  rw[kF]at d;cases hb:hs i b with
  |some y=>obtain⟨x',p,e⟩:=f.ext b y hb;rw[d]at p;cases p;exact .inl ⟨y,hb,by rw[<- e];exact h⟩
  |none=>exact .inr (f.fresh b x d hb).1
 have I:∀b,gu (cA hs i h') i b->gu hs i b:=λb ⟨x,d,h⟩=>by
  rw[kF]at d;cases hb:hs i b with
  |some y=>obtain⟨x',p,e⟩:=f.ext b y hb;rw[d]at p;cases p;exact⟨y,hb,by rw[<- e];exact h⟩
  |none=>have:=(f.fresh b x d hb).2.2;rw[this]at h;cases h
 have m:∀j b,fB (cA hs i h') j b->fB hs j b\/(j=i/\w.heap.size<=b):=λj b e=>by
  by_cases g:j=i
  .subst g;exact(L b e).imp id λx=>⟨rfl,x⟩
  .obtain⟨x,d,h⟩:=e;rw[gn _ _ g]at d;exact .inl ⟨x,d,h⟩
 have q:∀j b,gu (cA hs i h') j b->gu hs j b:=λj b e=>by
  by_cases g:j=i
  .subst g;exact I b e
  .obtain⟨x,d,h⟩:=e;rw[gn _ _ g]at d;exact⟨x,d,h⟩
 have lo:∀j b,fB hs j b->b<w.heap.size:=λj b ⟨x,d,_⟩=>In.lt (H.cZ j) d;have K:∀j b,gu hs j b->b<w.heap.size:=λj b ⟨x,d,_⟩=>In.lt (H.cZ j) d;have kV:∀b,dX aT b->b<w.heap.size:=λb ⟨x,d⟩=>In.lt H.oW d;have E:zB (fB (cA hs i h')) (gu (cA hs i h')) (dX aT) sh:=by
  refine⟨λj k b g v=> ?_,λj k b g v=> ?_,λj b g s=> ?_,λj b g u=> ?_,λj b g s=>H.ex.qv j b (q j b g) s,λj b g u=>H.ex.nt j b (q j b g) u,H.ex.sB⟩
  .rcases m j b g with a|⟨rfl,a⟩<;>rcases m k b v with c|⟨rfl,c⟩
   .exact H.ex.one j k b a c
   .have:=lo j b a;omega
   .have:=lo k b c;omega
   .rfl
  .have A:=q k b v;rcases m j b g with a|⟨rfl,a⟩
   .exact H.ex.mr j k b a A
   .have:=K k b A;omega
  .rcases m j b g with a|⟨rfl,a⟩
   .exact H.ex.mU j b a s
   .have:=kV b s;omega
  .rcases m j b g with a|⟨rfl,a⟩
   .exact H.ex.ownSh j b a u
   .have:=H.low b u;omega
 refine⟨⟨λj=> ?_,λb x d=> ?_,E,λj g=> ?_,λb hb=>auj (H.low b hb) f.size,H.fo.app hi f.size E m q λop B=> ?_⟩,F⟩
 .by_cases g:j=i
  .subst g;rw[kF];exact z
  .rw[gn _ _ g];intro b x d;rw[H.same f (In.lt (H.cZ j) d) (G j b x g d)];exact H.cZ j b x d
 .rw[H.same f (In.lt H.oW d) λl=>H.ex.mU i b l ⟨x,d⟩];exact H.oW b x d
 .rw[gn _ _ U];exact H.out j g
 .rw[auy]at B;obtain⟨e,M,rfl⟩:=av0.1 B;exact acP (hs:=cA hs i h') z (D e M) (kF _ _ _) fn pos
def fy.at_(H:fy hs n aT sh mu aW w t)(d:Nat):fy hs n aT sh mu aW (w.at d) t:=⟨λi b x a=>H.cZ i b x a,λb x a=>H.oW b x a,H.ex,H.out,H.low,H.fo⟩
end
namespace ae
def add(h g:ae):ae:=λb=>match h b with|some x=>C x|none=>g b
def del(h g:ae):ae:=λb=>if(g b).isSome then o0 else h b
def empty:ae:=λ_=>o0
def kK(h:ae):Prop:=∀b x,h b=C x->x.own=J
end ae
section
variable{hs:Nat->ae}{n i:Nat}{aT gd':ae}{sh:Nat->Prop}{mu:vm}{aW:Nat->Prop}{w w':tg}{t u:N1}{h':ae}
def fy.shared(H:fy hs n aT sh mu aW w t)(hi:i<n)(c:w'.heap.size=w.heap.size)(hb:∀b,¬sh b->w'.heap[b]? =w.heap[b]?)
  (d:∀op∈u,GF (fB hs) (gu hs) sh mu i op/\op.act.low w.heap.size):fy hs n aT sh mu aW w' (t++u):=by
 refine⟨λj b x a=> ?_,λb x a=> ?_,H.ex,H.out,λb h=>by rw[c];exact H.low b h,?_⟩
 .rw[hb b λh=> ?_]
  .exact H.cZ j b x a
  .rcases sZ a with o|r
   .exact H.ex.ownSh j b o h
   .exact H.ex.nt j b r h
 .rw[hb b λh=>H.ex.sB b ⟨x,a⟩ h];exact H.oW b x a
 .rw[c];exact H.fo.app hi (vr _) H.ex (λi b e=>.inl e) (λi b e=>e) d
def uB{h':ae}{j b:Nat}(e:fB (cA hs i h') j b):(j≠i/\fB hs j b)\/(j=i/\∃x,h' b=C x/\x.own=J):=by
 obtain⟨x,a,d⟩:=e;by_cases c:j=i
 .subst c;rw[kF]at a;exact .inr ⟨rfl,x,a,d⟩
 .rw[gn _ _ c]at a;exact .inl ⟨c,x,a,d⟩
def s0{h':ae}{j b:Nat}(e:gu (cA hs i h') j b):(j≠i/\gu hs j b)\/(j=i/\∃x,h' b=C x/\x.own=q9):=by
 obtain⟨x,a,d⟩:=e;by_cases c:j=i
 .subst c;rw[kF]at a;exact .inr ⟨rfl,x,a,d⟩
 .rw[gn _ _ c]at a;exact .inl ⟨c,x,a,d⟩
def fy.weaken(H:fy hs n aT sh mu aW w t)(hi:i<n)(m:∀b x,h' b=C x->∃y,hs i b=C y/\y.obj=x.obj/\(x.own=J->y.own=J))(s:∀b x,h' b=C x->x.own=q9->∀y,hs i b=C y->y.own=J->∀j,j≠i->hs j b=o0):fy (cA hs i h') n aT sh mu aW w t:=by
 have f:∀j b,fB (cA hs i h') j b->fB hs j b:=λj b e=>by
  rcases uB e with⟨_,e⟩|⟨rfl,x,c,g⟩
  .exact e
  .obtain⟨y,d,_,v⟩:=m b x c;exact⟨y,d,v g⟩
 have o:∀j b,gu (cA hs i h') j b->fB hs j b\/gu hs j b:=λj b e=>by
  rcases s0 e with⟨_,e⟩|⟨rfl,x,c,g⟩
  .exact .inr e
  .obtain⟨y,d,_⟩:=m b x c;exact sZ d
 refine⟨λj=> ?_,H.oW,⟨λj k b a p=>H.ex.one j k b (f j b a) (f k b p),λj k b a p=> ?_,λj b a=>H.ex.mU j b (f j b a),λj b a=>H.ex.ownSh j b (f j b a),λj b a h=> ?_,λj b a h=> ?_,H.ex.sB⟩,λj a=> ?_,H.low,H.fo.weaken f o⟩
 .by_cases a:j=i
  .subst a;rw[kF];intro b x c;obtain⟨y,d,e,_⟩:=m b x c;rw[<- e];exact H.cZ j b y d
  .rw[gn _ _ a];exact H.cZ j
 .have h1:=f j b a;rcases s0 p with⟨A,e⟩|⟨rfl,x,c,g⟩
  .exact H.ex.mr j k b h1 e
  .obtain⟨y,d,_⟩:=m b x c;cases q:y.own with
   |false=>exact H.ex.mr j k b h1 ⟨y,d,q⟩
   |true=>
    by_cases r:j=k
    .subst r;obtain⟨z,l,u⟩:=a;rw[kF]at l;rw[l]at c;cases c;rw[u]at g;cases g
    .obtain⟨z,l,_⟩:=h1;rw[s b x c g y d q j r]at l;cases l
 .exact(o j b a).elim (λe=>H.ex.mU j b e h) λe=>H.ex.qv j b e h
 .exact(o j b a).elim (λe=>H.ex.ownSh j b e h) λe=>H.ex.nt j b e h
 .rw[gn _ _ U];exact H.out j a
def fy.acquire(H:fy hs n aT sh mu aW w t)(u:aT.kK){z:MemOp}(p:z.g<n)(q:z.act=.mark (.acquire mu))(hd:T5 t z.g=0)(r:aW z.g)(s:mu.block<w.heap.size):fy (cA hs z.g ((hs z.g).add aT)) n ae.empty sh mu aW w (t++#[z]):=by
 have no:∀b,¬dX ae.empty b:=λb ⟨x,d⟩=>absurd d (by simp[ae.empty]);have split:∀b x,(hs z.g).add aT b=C x->hs z.g b=C x\/(hs z.g b=o0/\aT b=C x):=λb x d=>by
  unfold ae.add at d;cases hb:hs z.g b with
  |some y=>rw[hb]at d;exact .inl d
  |none=>rw[hb]at d;exact .inr ⟨rfl,d⟩
 have i:∀j b,fB (cA hs z.g ((hs z.g).add aT)) j b->fB hs j b\/(j=z.g/\dX aT b):=λj b e=>by
  rcases uB e with⟨_,e⟩|⟨rfl,x,d,l⟩
  .exact .inl e
  .rcases split b x d with h|⟨_,h⟩
   .exact .inl ⟨x,h,l⟩
   .exact .inr ⟨rfl,x,h⟩
 have m:∀j b,gu (cA hs z.g ((hs z.g).add aT)) j b->gu hs j b:=λj b e=>by
  rcases s0 e with⟨_,e⟩|⟨rfl,x,d,l⟩
  .exact e
  .rcases split b x d with h|⟨_,h⟩
   .exact⟨x,h,l⟩
   .rw[u b x h]at l;cases l
 refine⟨λj=> ?_,λb x d=>absurd d (by simp[ae.empty]),⟨λj k b f o=> ?_,λj k b f o=> ?_,λj b _ hb=>no b hb,λj b f hb=> ?_,λj b _ hb=>no b hb,λj b f=>H.ex.nt j b (m j b f),λb hb=>(no b hb).elim⟩,λj f=> ?_,H.low,?_⟩
 .by_cases f:j=z.g
  .subst f;rw[kF];intro b x d;rcases split b x d with h|⟨_,h⟩
   .exact H.cZ _ b x h
   .exact H.oW b x h
  .rw[gn _ _ f];exact H.cZ j
 .rcases i j b f with a|⟨rfl,a⟩<;>rcases i k b o with c|⟨rfl,c⟩
  .exact H.ex.one j k b a c
  .exact absurd c (H.ex.mU j b a)
  .exact absurd a (H.ex.mU k b c)
  .rfl
 .rcases i j b f with a|⟨rfl,a⟩
  .exact H.ex.mr j k b a (m k b o)
  .exact H.ex.qv k b (m k b o) a
 .rcases i j b f with a|⟨rfl,a⟩
  .exact H.ex.ownSh j b a hb
  .exact H.ex.sB b a hb
 .rw[gn _ _ U];exact H.out j f
 .have v:=(H.fo.acquire H.ex p q hd r s).weaken i (λj b e=>.inr (m j b e));exact{v with aT:=λb hb=>(no b hb).elim}
def fy.release(H:fy hs n ae.empty sh mu aW w t){y:MemOp}(r:y.g<n)(s:y.act=.mark (.releaseMerge mu))(hd:T5 t y.g=0)(u:mu.block<w.heap.size)(m:∀b x,gd' b=C x->hs y.g b=C x)(D:gd'.kK):fy (cA hs y.g ((hs y.g).del gd')) n gd' sh mu aW w (t++#[y]):=by
 have split:∀b x,(hs y.g).del gd' b=C x->hs y.g b=C x/\¬dX gd' b:=λb x c=>by
  unfold ae.del at c;split at c
  .cases c
  .rename_i v;exact⟨c,λ⟨z,A⟩=>v (by rw[A];rfl)⟩
 have f:∀b,dX gd' b->fB hs y.g b:=λb ⟨x,c⟩=>⟨x,m b x c,D b x c⟩;have d:∀j b,fB (cA hs y.g ((hs y.g).del gd')) j b->fB hs j b/\¬dX gd' b:=λj b e=>by
  rcases uB e with⟨a,e⟩|⟨rfl,x,c,i⟩
  .exact⟨e,λB=>a (H.ex.one j y.g b e (f b B))⟩
  .exact⟨⟨x,(split b x c).1,i⟩,(split b x c).2⟩
 have h:∀j b,gu (cA hs y.g ((hs y.g).del gd')) j b->gu hs j b:=λj b e=>by
  rcases s0 e with⟨_,e⟩|⟨rfl,x,c,i⟩
  .exact e
  .exact⟨x,(split b x c).1,i⟩
 have o:dX ae.empty=λ_=>False:=by funext b;simp[dX,ae.empty]
 have q:=H.ex;rw[o]at q;have p:=H.fo;rw[o]at p;refine⟨λj=> ?_,λb x c=>H.cZ _ b x (m b x c),⟨λj k b a l=>H.ex.one j k b (d j b a).1 (d k b l).1,λj k b a l=>H.ex.mr j k b (d j b a).1 (h k b l),λj b a=>(d j b a).2,λj b a=>H.ex.ownSh j b (d j b a).1,λj b a hb=>H.ex.mr y.g j b (f b hb) (h j b a),λj b a=>H.ex.nt j b (h j b a),λb hb=>H.ex.ownSh y.g b (f b hb)⟩,λj a=> ?_,H.low,?_⟩
 .by_cases a:j=y.g
  .subst a;rw[kF];exactλb x c=>H.cZ _ b x (split b x c).1
  .rw[gn _ _ a];exact H.cZ j
 .rw[gn _ _ U];exact H.out j a
 .exact(p.release (gd':=dX gd') r s hd u q f).weaken d (λj b e=>.inr (h j b e))
end
section
variable{hs:Nat->ae}{n i:Nat}{aT gd':ae}{sh:Nat->Prop}{mu mu':vm}{aW:Nat->Prop}{w w':tg}{t u:N1}{h0 hc:ae}
def vZ(b:Nat):¬dX ae.empty b:=λ⟨x,a⟩=>absurd a (by simp[ae.empty])
def Io:dX ae.empty=λ_=>False:=by funext b;exact propext ⟨λh=>vZ b h,False.elim⟩
def fy.share(H:fy hs n aT sh mu aW w t)(f:w'.heap.size=w.heap.size+1)(hb:∀b,b<w.heap.size->w'.heap[b]? =w.heap[b]?):fy hs n aT (λb=>sh b\/b=w.heap.size) mu aW w' t:=by
 have lo:∀j b,fB hs j b->b<w.heap.size:=λj b ⟨x,a,_⟩=>In.lt (H.cZ j) a;have g:∀j b,gu hs j b->b<w.heap.size:=λj b ⟨x,a,_⟩=>In.lt (H.cZ j) a;have kV:∀b,dX aT b->b<w.heap.size:=λb ⟨x,a⟩=>In.lt H.oW a;refine⟨λj b x a=> ?_,λb x a=> ?_,⟨H.ex.one,H.ex.mr,H.ex.mU,λj b c d=> ?_,H.ex.qv,λj b c d=> ?_,λb e d=> ?_⟩,H.out,λb h=> ?_,?_⟩
 .rw[hb b (In.lt (H.cZ j) a)];exact H.cZ j b x a
 .rw[hb b (In.lt H.oW a)];exact H.oW b x a
 .rcases d with h|h
  .exact H.ex.ownSh j b c h
  .have:=lo j b c;omega
 .rcases d with h|h
  .exact H.ex.nt j b c h
  .have:=g j b c;omega
 .rcases d with h|h
  .exact H.ex.sB b e h
  .have:=kV b e;omega
 .rcases h with h|h
  .have:=H.low b h;omega
  .omega
 .rw[f];exact H.fo.share (vr _)
def fy.GG(H:fy hs n ae.empty sh mu aW w t)(b:w.heap.size<=mu'.block):fy hs n ae.empty sh mu' (λg=>g=0) w t:=by have a:=H.fo;rw[Io]at a;exact{H with fo:=by rw[Io];exact a.GG b}
def fy.zC(H:fy hs n ae.empty sh mu (λg=>g=0) w t)(i:0<n)(o:∀b x,gd' b=C x->hs 0 b=C x)(s:gd'.kK):fy (cA hs 0 ((hs 0).del gd')) n gd' sh mu (λg=>g=0) w t:=by
 have split:∀b x,(hs 0).del gd' b=C x->hs 0 b=C x/\¬dX gd' b:=λb x c=>by
  unfold ae.del at c;split at c
  .cases c
  .rename_i i;exact⟨c,λ⟨z,q⟩=>i (by rw[q];rfl)⟩
 have f:∀b,dX gd' b->fB hs 0 b:=λb ⟨x,c⟩=>⟨x,o b x c,s b x c⟩;have d:∀j b,fB (cA hs 0 ((hs 0).del gd')) j b->fB hs j b/\¬dX gd' b:=λj b e=>by
  rcases uB e with⟨a,e⟩|⟨rfl,x,c,l⟩
  .exact⟨e,λr=>a (H.ex.one j 0 b e (f b r))⟩
  .exact⟨⟨x,(split b x c).1,l⟩,(split b x c).2⟩
 have h:∀j b,gu (cA hs 0 ((hs 0).del gd')) j b->gu hs j b:=λj b e=>by
  rcases s0 e with⟨_,e⟩|⟨rfl,x,c,l⟩
  .exact e
  .exact⟨x,(split b x c).1,l⟩
 have p:=H.fo;rw[Io]at p;refine⟨λj=> ?_,λb x c=>H.cZ _ b x (o b x c),⟨λj k b a m=>H.ex.one j k b (d j b a).1 (d k b m).1,λj k b a m=>H.ex.mr j k b (d j b a).1 (h k b m),λj b a=>(d j b a).2,λj b a=>H.ex.ownSh j b (d j b a).1,λj b a hb=>H.ex.mr 0 j b (f b hb) (h j b a),λj b a=>H.ex.nt j b (h j b a),λb hb=>H.ex.ownSh 0 b (f b hb)⟩,λj a=> ?_,H.low,?_⟩
 .by_cases a:j=0
  .subst a;rw[kF];exactλb x c=>H.cZ _ b x (split b x c).1
  .rw[gn _ _ a];exact H.cZ j
 .rw[gn _ _ U];exact H.out j a
 .exact(p.zC i f).weaken d (λj b e=>.inr (h j b e))
structure Dh(h h0 hc:ae):Prop where
 keep:∀b x,h0 b=C x->∃y,h b=C y/\y.obj=x.obj/\(x.own=J->y.own=J)
 Ip:∀b x,hc b=C x->∃y,h b=C y/\y.obj=x.obj/\(x.own=J->y.own=J)
 a:∀b x,h0 b=C x->x.own=J->hc b=o0
 b:∀b x,hc b=C x->x.own=J->h0 b=o0
def fy.fork(H:fy hs n aT sh mu aW w t)(D:0<n)(K:aW 0)(S:Dh (hs 0) h0 hc){x y:MemOp}(f:x.g=0/\x.act=.go n)(d:y.g=n/\y.act=.start)(hd:T5 t 0=0):fy (cA (cA hs 0 h0) n hc) (n+1) aT sh mu (λg=>aW g\/g=n) w (t++#[x,y]):=by
 have on:∀b,fB (cA (cA hs 0 h0) n hc) n b->∃x,hc b=C x/\x.own=J:=λb e=>by
  rcases uB e with⟨h,_⟩|⟨_,h⟩
  .exact absurd rfl h
  .exact h
 have v:∀b,gu (cA (cA hs 0 h0) n hc) n b->∃x,hc b=C x/\x.own=q9:=λb e=>by
  rcases s0 e with⟨h,_⟩|⟨_,h⟩
  .exact absurd rfl h
  .exact h
 have r:∀b,fB (cA (cA hs 0 h0) n hc) 0 b->∃x,h0 b=C x/\x.own=J:=λb e=>by
  rcases uB e with⟨_,h⟩|⟨h,_⟩
  .rcases uB h with⟨h,_⟩|⟨_,h⟩
   .exact absurd rfl h
   .exact h
  .omega
 have z:∀b,gu (cA (cA hs 0 h0) n hc) 0 b->∃x,h0 b=C x/\x.own=q9:=λb e=>by
  rcases s0 e with⟨_,h⟩|⟨h,_⟩
  .rcases s0 h with⟨h,_⟩|⟨_,h⟩
   .exact absurd rfl h
   .exact h
  .omega
 have E:∀j b,j≠n->j≠0->fB (cA (cA hs 0 h0) n hc) j b->fB hs j b:=λj b h1 m ⟨x,f,i⟩=>⟨x,by rw[gn _ _ h1,gn _ _ m]at f;exact f,i⟩;have F:∀j b,j≠n->j≠0->gu (cA (cA hs 0 h0) n hc) j b->gu hs j b:=λj b h1 m ⟨x,f,i⟩=>⟨x,by rw[gn _ _ h1,gn _ _ m]at f;exact f,i⟩;have G:∀b,fB (cA (cA hs 0 h0) n hc) 0 b->fB hs 0 b:=λb e=>by obtain⟨x,f,i⟩:=r b e;obtain⟨y,d,_,u⟩:=S.keep b x f;exact⟨y,d,u i⟩
 have A:∀b,fB (cA (cA hs 0 h0) n hc) n b->fB hs 0 b:=λb e=>by obtain⟨x,f,i⟩:=on b e;obtain⟨y,d,_,u⟩:=S.Ip b x f;exact⟨y,d,u i⟩
 have I:∀b,gu (cA (cA hs 0 h0) n hc) 0 b->fB hs 0 b\/gu hs 0 b:=λb e=>by obtain⟨x,f,i⟩:=z b e;obtain⟨y,d,_⟩:=S.keep b x f;exact sZ d
 have B:∀b,gu (cA (cA hs 0 h0) n hc) n b->fB hs 0 b\/gu hs 0 b:=λb e=>by obtain⟨x,f,i⟩:=v b e;obtain⟨y,d,_⟩:=S.Ip b x f;exact sZ d
 have q:∀j b,fB (cA (cA hs 0 h0) n hc) j b->(j=n/\fB hs 0 b)\/(j≠n/\fB hs j b):=λj b e=>by
  by_cases h1:j=n
  .subst h1;exact .inl ⟨rfl,A b e⟩
  .by_cases m:j=0
   .subst m;exact .inr ⟨h1,G b e⟩
   .exact .inr ⟨h1,E j b h1 m e⟩
 have s:∀j b,gu (cA (cA hs 0 h0) n hc) j b->(j=n/\(fB hs 0 b\/gu hs 0 b))\/(j=0/\(fB hs 0 b\/gu hs 0 b))\/(j≠n/\j≠0/\gu hs j b):=λj b e=>by
  by_cases h1:j=n
  .subst h1;exact .inl ⟨rfl,B b e⟩
  .by_cases m:j=0
   .subst m;exact .inr (.inl ⟨rfl,I b e⟩)
   .exact .inr (.inr ⟨h1,m,F j b h1 m e⟩)
 refine⟨λj=> ?_,H.oW,⟨λj k b l p=> ?_,λj k b l p=> ?_,λj b l hb=> ?_,λj b l hb=> ?_,λj b l hb=> ?_,λj b l hb=> ?_,H.ex.sB⟩,λj l=> ?_,H.low,?_⟩
 .by_cases h1:j=n
  .subst h1;rw[kF];intro b x f;obtain⟨y,d,e,_⟩:=S.Ip b x f;rw[<- e];exact H.cZ 0 b y d
  .rw[gn _ _ h1];by_cases m:j=0
   .subst m;rw[kF];intro b x f;obtain⟨y,d,e,_⟩:=S.keep b x f;rw[<- e];exact H.cZ 0 b y d
   .rw[gn _ _ m];exact H.cZ j
 .rcases q j b l with⟨rfl,a⟩|⟨h1,a⟩<;>rcases q k b p with⟨rfl,c⟩|⟨m,c⟩
  .rfl
  .obtain rfl:0=k:=H.ex.one 0 k b a c;obtain⟨x,f,i⟩:=on b l;obtain⟨y,d,o⟩:=r b p;rw[S.b b x f i]at d;cases d
  .obtain rfl:0=j:=H.ex.one 0 j b c a;obtain⟨x,f,i⟩:=on b p;obtain⟨y,d,o⟩:=r b l;rw[S.b b x f i]at d;cases d
  .exact H.ex.one j k b a c
 .rcases q j b l with⟨rfl,a⟩|⟨h1,a⟩<;>rcases s k b p with⟨rfl,c⟩|⟨rfl,c⟩|⟨m,u,c⟩
  .obtain⟨x,f,i⟩:=on b l;obtain⟨y,d,o⟩:=v b p;rw[f]at d;cases d;rw[i]at o;cases o
  .obtain⟨x,f,i⟩:=on b l;obtain⟨y,d,o⟩:=z b p;rw[S.b b x f i]at d;cases d
  .exact H.ex.mr 0 k b a c
  .obtain⟨y,d,o⟩:=v b p;rcases c with c|c
   .obtain rfl:j=0:=H.ex.one j 0 b a c;obtain⟨x,f,i⟩:=r b l;rw[S.a b x f i]at d;cases d
   .exact H.ex.mr j 0 b a c
  .obtain⟨y,d,o⟩:=z b p;rcases c with c|c
   .obtain rfl:j=0:=H.ex.one j 0 b a c;obtain⟨x,f,i⟩:=r b l;rw[f]at d;cases d;rw[i]at o;cases o
   .exact H.ex.mr j 0 b a c
  .exact H.ex.mr j k b a c
 .rcases q j b l with⟨rfl,a⟩|⟨h1,a⟩
  .exact H.ex.mU 0 b a hb
  .exact H.ex.mU j b a hb
 .rcases q j b l with⟨rfl,a⟩|⟨h1,a⟩
  .exact H.ex.ownSh 0 b a hb
  .exact H.ex.ownSh j b a hb
 .rcases s j b l with⟨rfl,c⟩|⟨rfl,c⟩|⟨_,_,c⟩
  .exact c.elim (λc=>H.ex.mU 0 b c hb) λc=>H.ex.qv 0 b c hb
  .exact c.elim (λc=>H.ex.mU 0 b c hb) λc=>H.ex.qv 0 b c hb
  .exact H.ex.qv j b c hb
 .rcases s j b l with⟨rfl,c⟩|⟨rfl,c⟩|⟨_,_,c⟩
  .exact c.elim (λc=>H.ex.ownSh 0 b c hb) λc=>H.ex.nt 0 b c hb
  .exact c.elim (λc=>H.ex.ownSh 0 b c hb) λc=>H.ex.nt 0 b c hb
  .exact H.ex.nt j b c hb
 .rw[gn _ _ U,gn _ _ U];exact H.out j U
 .refine H.fo.fork D K f d hd (λj b h1 e=> ?_) (λj b h1 e=> ?_) A B
  .rcases q j b e with⟨h,_⟩|⟨_,a⟩
   .exact absurd h h1
   .exact a
  .rcases s j b e with⟨h,_⟩|⟨rfl,c⟩|⟨_,_,c⟩
   .exact absurd h h1
   .exact c
   .exact .inr c
def fy.acQ(H:fy hs n aT sh mu aW w t)(q:0<n)(o:aT.kK)(g:∀b,dX aT b->qu t 0 b):fy (cA hs 0 ((hs 0).add aT)) n ae.empty sh mu aW w t:=by
 have split:∀b x,(hs 0).add aT b=C x->hs 0 b=C x\/(hs 0 b=o0/\aT b=C x):=λb x f=>by
  unfold ae.add at f;cases hb:hs 0 b with
  |some y=>rw[hb]at f;exact .inl f
  |none=>rw[hb]at f;exact .inr ⟨rfl,f⟩
 have i:∀j b,fB (cA hs 0 ((hs 0).add aT)) j b->fB hs j b\/(j=0/\dX aT b):=λj b e=>by
  rcases uB e with⟨_,e⟩|⟨rfl,x,f,l⟩
  .exact .inl e
  .rcases split b x f with h|⟨_,h⟩
   .exact .inl ⟨x,h,l⟩
   .exact .inr ⟨rfl,x,h⟩
 have m:∀j b,gu (cA hs 0 ((hs 0).add aT)) j b->gu hs j b:=λj b e=>by
  rcases s0 e with⟨_,e⟩|⟨rfl,x,f,l⟩
  .exact e
  .rcases split b x f with h|⟨_,h⟩
   .exact⟨x,h,l⟩
   .rw[o b x h]at l;cases l
 refine⟨λj=> ?_,λb x f=>absurd f (by simp[ae.empty]),⟨λj k b d g=> ?_,λj k b d g=> ?_,λj b _ hb=>vZ b hb,λj b d hb=> ?_,λj b _ hb=>vZ b hb,λj b d=>H.ex.nt j b (m j b d),λb hb=>(vZ b hb).elim⟩,λj d=> ?_,H.low,?_⟩
 .by_cases d:j=0
  .subst d;rw[kF];intro b x f;rcases split b x f with h|⟨_,h⟩
   .exact H.cZ _ b x h
   .exact H.oW b x h
  .rw[gn _ _ d];exact H.cZ j
 .rcases i j b d with a|⟨rfl,a⟩<;>rcases i k b g with c|⟨rfl,c⟩
  .exact H.ex.one j k b a c
  .exact absurd c (H.ex.mU j b a)
  .exact absurd a (H.ex.mU k b c)
  .rfl
 .rcases i j b d with a|⟨rfl,a⟩
  .exact H.ex.mr j k b a (m k b g)
  .exact H.ex.qv k b (m k b g) a
 .rcases i j b d with a|⟨rfl,a⟩
  .exact H.ex.ownSh j b a hb
  .exact H.ex.sB b a hb
 .rw[gn _ _ U];exact H.out j d
 .exact{H.fo with
   own:=λj b d e=>(i j b e).elim (H.fo.own j b d) λ⟨h1,p⟩=>by subst h1;exact g b p
   ro:=λj b d e=>H.fo.ro j b d (m j b e)
   aT:=λb hb=>(vZ b hb).elim}
end
section
open Go.ConcM (OsLater muBlock)
open Go.ConcR (wgBlock)
structure eI where
 os:Os
 out:Array (Nat×ByteArray)
def Ah(o:eI)(w:tg):Prop:=OsLater o.os w.os/\w.output=o.out
def mB(w w':tg):Prop:=OsLater w.os w'.os/\w'.output=w.output
def mB.refl(w:tg):mB w w:=⟨.refl _,rfl⟩
def mB.of{w w':tg}(h1:w'.os=w.os)(a:w'.output=w.output):mB w w':=⟨by rw[h1];exact .refl _,a⟩
def Ah.trans{o:eI}{w w':tg}(h:Ah o w)(k:mB w w'):Ah o w':=⟨h.1.trans k.1,k.2.trans h.2⟩
inductive WD where
 |wk|jv|a1|a2|a3|eO
 deriving DecidableEq
inductive jx where
 |eS (p:Bool)|loop|reg|mC|s3
 deriving DecidableEq
abbrev cV:=Int×List (Int×Int)
structure av where
 x:cK
 cap:Nat
 aG:Nat
 n0:Nat
 wd:Nat->WD
 ms:jx
 wv:Nat
 wr:Nat
 ws:Nat
 mu:Nat
 wg:Nat
 on:Bool
 sh:List Nat
 aT:ae
 cw:Option Nat
 bC:Nat->Nat
 I:(Nat->List cV)->ae->Prop
 cN:Nat->List cV
 full:Nat->List cV
 iB:Bool
 b0:Nat
namespace av
def gN(γ:av):ae:=if γ.on=J/\γ.cw=o0 then γ.aT else ae.empty
def aW(γ:av)(i:Nat):Prop:=i=0\/(γ.n0<=i/\i<γ.aG)
open Classical in
def eN(γ:av)(hs:Nat->ae)(i:Nat):BM:=if i<γ.n0 then .jn else if γ.wd i=.wk\/hs i≠ae.empty then .wk else .rz
def gone(γ:av)(i:Nat):Prop:=i≠0/\γ.wd i=.eO
def waits(γ:av)(i:Nat):Prop:=if i=0 then γ.ms=.reg/\γ.ws=0 else γ.x.md i=.iv/\γ.x.M=0
def iC:WD->Nat|.wk=>1|.jv=>1|_=>0
def gO:WD->Nat|.a1=>1|.a2=>1|_=>0
def ic:WD->Nat|.a3=>1|_=>0
def dB(γ:av)(f:WD->Nat):Nat:=at6 γ.aG (λi=>if γ.n0<=i then f (γ.wd i)else 0)
structure nL(γ:av):Prop where
 v:γ.wv=γ.dB iC+(if γ.ms=.eS J then 1 else 0)
 st:match γ.ms with
  | .eS _|.loop=>γ.wr=0/\γ.ws=0/\γ.dB gO=0/\γ.dB ic=0
  | .reg=>(γ.wr=1/\γ.ws=0/\γ.dB ic=0/\((0<γ.wv/\γ.dB gO=0)\/(γ.wv=0/\γ.dB gO=1)))\/(γ.wr=0/\γ.wv=0/\γ.dB gO=0/\γ.ws+γ.dB ic=1)
  | .mC|.s3=>γ.wr=0/\γ.wv=0/\γ.ws=0/\γ.dB gO=0/\γ.dB ic=0
structure lI(i:Nat)(γ γ':av):Prop where
 aG:γ.aG<=γ'.aG
 cap:γ'.cap=γ.cap
 n0:γ'.n0=γ.n0
 mu:γ'.mu=γ.mu
 wg:γ'.wg=γ.wg
 on:γ'.on=γ.on
 I:γ'.I=γ.I
 full:γ'.full=γ.full
 wd:γ'.wd i=γ.wd i
 md:γ'.x.md i=γ.x.md i
 dc:γ'.x.dc i=γ.x.dc i
 bC:γ'.bC i=γ.bC i
 cw:γ'.cw=C i↔γ.cw=C i
 cN:γ'.cN i=γ.cN i
 cn:γ'.x.cn γ.cap<=γ.x.cn γ.cap
 word:γ'.x.mu≠γ.x.mu->γ'.x.cn γ.cap<γ.x.cn γ.cap
 Ai:γ.cw=C i->γ'.cN=γ.cN
 z:i=0->γ'.ms=γ.ms/\γ'.sh=γ.sh/\γ'.aG=γ.aG/\γ'.wv<=γ.wv/\(γ.ms≠.reg->γ'.ws=γ.ws/\γ'.wr=γ.wr)
 b0:γ'.b0=γ.b0
 iB:γ'.iB=γ.iB
def lI.refl(i:Nat)(γ:av):lI i γ γ:=⟨vr _,rfl,rfl,rfl,rfl,rfl,rfl,rfl,rfl,rfl,rfl,rfl,Iff.rfl,rfl,vr _,λh=>absurd rfl h,λ_=>rfl,λ_=>⟨rfl,rfl,rfl,vr _,λ_=>⟨rfl,rfl⟩⟩,rfl,rfl⟩
def lI.trans{i:Nat}{a b c:av}(h:lI i a b)(k:lI i b c):lI i a c:=by
 have hc:b.cap=a.cap:=h.cap;have cP:=k.cn;have g:=k.word;rw[hc]at cP g;refine⟨atD h.aG k.aG,k.cap.trans h.cap,k.n0.trans h.n0,k.mu.trans h.mu,k.wg.trans h.wg,k.on.trans h.on,k.I.trans h.I,k.full.trans h.full,k.wd.trans h.wd,k.md.trans h.md,k.dc.trans h.dc,k.bC.trans h.bC,k.cw.trans h.cw,k.cN.trans h.cN,atD cP h.cn,λj=> ?_,λd=>(k.Ai (h.cw.2 d)).trans (h.Ai d),λhi=> ?_,k.b0.trans h.b0,k.iB.trans h.iB⟩
 .by_cases e:b.x.mu=a.x.mu
  .exact auj (g (by rw[e];exact j)) h.cn
  .exact Nat.lt_of_le_of_lt cP (h.word e)
 .obtain⟨a1,a2,a3,o,p⟩:=h.z hi;obtain⟨bM,bE,l,m,n⟩:=k.z hi;refine⟨bM.trans a1,bE.trans a2,l.trans a3,atD m o,λf=> ?_⟩;obtain⟨c1,c2⟩:=p f;obtain⟨dH,d2⟩:=n (by rw[a1];exact f);exact⟨dH.trans c1,d2.trans c2⟩
def Rel(i:Nat)(γ γ':av):Prop:=γ.aG<=i\/(i≠0/\γ.aG<=γ'.aG/\γ.wd i=.eO/\γ'.wd i=.eO)\/lI i γ γ'
def Rel.refl(i:Nat)(γ:av):Rel i γ γ:=.inr (.inr (.refl i γ))
def Rel.trans{i:Nat}{a b c:av}(h:Rel i a b)(k:Rel i b c):Rel i a c:=by
 rcases h with h|⟨h0,h1,f,j⟩|h
 .exact .inl h
 .rcases k with k|⟨_,e,_,d⟩|k
  .exact .inl (atD h1 k)
  .exact .inr (.inl ⟨h0,atD h1 e,f,d⟩)
  .exact .inr (.inl ⟨h0,atD h1 k.aG,f,k.wd.trans j⟩)
 .rcases k with k|⟨k0,e,g,d⟩|k
  .exact .inl (atD h.aG k)
  .exact .inr (.inl ⟨k0,atD h.aG e,h.wd.symm.trans g,d⟩)
  .exact .inr (.inr (h.trans k))
def Rel.s{i:Nat}{a b:av}(h:Rel i a b)(hi:i<a.aG)(c:¬b.gone i):lI i a b:=by
 rcases h with h|⟨h0,_,_,d⟩|h
 .omega
 .exact absurd ⟨h0,d⟩ c
 .exact h
end av
structure c8(tM tW:ta)(os0:eI)(γ:av)(n:Nat)(hs:Nat->ae)(w:tg)(t:N1):Prop where
 aG:γ.aG=n
 pos:0<n
 n0:0<γ.n0/\γ.n0<=n
 hi:fy hs n γ.gN (· ∈γ.sh) ⟨γ.mu,0,o0⟩ γ.aW w t
 je:rA ⟨γ.wg,0,o0⟩ (γ.eN hs) n t
 bC:∀i,i<n->¬γ.gone i->T5 t i=γ.bC i
 old:∀i,0<i->i<γ.n0->γ.wd i=.eO
 jy:γ.on=J->w.heap[γ.mu]? =C (muBlock tM γ.x.mu γ.x.M)
 jf:γ.on=J->w.heap[γ.wg]? =C (wgBlock tW (4294967296*γ.wv+γ.wr:Nat) γ.ws)
 gP:γ.on=J->γ.mu∈γ.sh/\γ.wg∈γ.sh/\γ.mu≠γ.wg
 ok:γ.x.dF γ.cap
 cap:n<=γ.cap
 out:∀i,(i=0\/n<=i\/γ.wd i≠.wk)->γ.x.md i=.out
 cw:∀i,γ.cw=C i->i<n/\γ.x.md i=.own
 kW:γ.on=J->γ.cw=o0->γ.I γ.cN γ.aT/\γ.aT.kK
 full:∀i,γ.n0<=i->i<n->γ.wd i≠.wk->γ.cN i=γ.full i
 hB:γ.nL
 eO:∀i,0<i->γ.wd i=.eO->hs i=ae.empty
 os:Ah os0 w
 jZ:γ.iB=J->γ.mu∈γ.sh/\w.heap[γ.mu]? =C (muBlock tM γ.x.mu γ.x.M)
 j5:γ.on=J->γ.iB=q9
 kq:∀i,n<=i->i<γ.cap->γ.cN i=[]/\γ.x.dc i=γ.b0
def rA.weaken{wg:vm}{eN BN:Nat->BM}{n:Nat}{t:N1}(h:rA wg eN n t)(a:∀i,0<i->BN i=eN i\/BN i=.wk):rA wg BN n t:=⟨h.norel,λi h0 hi e=>h.rz i h0 hi (by rcases a i h0 with x|x;rw[<- x];exact e;rw[x]at e;cases e),λi h0 hi e=>h.jn i h0 hi (by rcases a i h0 with x|x;rw[<- x];exact e;rw[x]at e;cases e)⟩
def Iq{t:N1}{g i:Nat}{fn:vb}{pos:String}{es:Array R1}(c:∀e∈es,(Zs e).touch? =o0):∀k,t.size<=k->(t++T1 g fn pos es).g? k=C i->¬(t++T1 g fn pos es).counts k:=by
 intro k n l ⟨x,h,_⟩;obtain⟨o,d,a⟩:=auK.1 h;obtain⟨op,f,rfl⟩:=au5.1 d;rcases getElem?_append_cases f with⟨m,_⟩|⟨_,b⟩
 .omega
 .rw[auy]at b;obtain⟨e,j,rfl⟩:=av0.1 b;simp only[c e j]at a;cases a
section
variable{tM tW:ta}{os0:eI}{γ:av}{n i:Nat}{hs:Nat->ae}{w w':tg}{t:N1}{h':ae}{es:Array R1}
def c8.at_(G:c8 tM tW os0 γ n hs w t)(d:Nat):c8 tM tW os0 γ n hs (w.at d) t:={G with hi:=G.hi.at_ d,jy:=G.jy,jf:=G.jf,os:=G.os,jZ:=G.jZ}
def s5{g:Nat}{fn:vb}{pos:String}{op:MemOp}(h:op∈T1 g fn pos es):op.g=g:=by rw[auy]at h;obtain⟨e,_,rfl⟩:=av0.1 h;rfl
def c8.loc(G:c8 tM tW os0 γ n hs w t)(hi:i<n)(v:¬γ.gone i)(f:kD (hs i) w h' w')(A:h'.In w')(s:∀e∈es,tR h' e)(fn:vb)(pos:String):c8 tM tW os0 γ n (cA hs i h') w' (t++T1 i fn pos es):=by
 obtain⟨H,gG⟩:=G.hi.loc hi f A s fn pos;have still:∀e∈es,e.loc≠.mark .disable/\e.loc≠.mark .enable/\e.loc≠.mark (.release ⟨γ.wg,0,o0⟩):=λe c=>by have:=s e c;refine⟨?_,?_,?_⟩<;>intro h<;>simp[tR,h,mo]at this
 have I:h'=ae.empty->∀e∈es,(Zs e).touch? =o0:=λc e B=>by
  have:=s e B;obtain⟨loc,wr,N⟩:=e;cases loc with
  |cell a=>obtain⟨_,x,p,_⟩:=this;rw[c]at p;cases p
  |obj r=>obtain⟨_,x,p,_⟩:=this;rw[c]at p;cases p
  |mark m=>have K:mo m=J:=this;cases m<;>simp[mo]at K<;>simp[Zs,at2]
  |output=>exact this.elim
  |goroutines=>exact this.elim
 have L:h'=ae.empty->hs i=ae.empty:=λc=>by
  funext b;cases hb:hs i b with
  |none=>rfl
  |some x=>obtain⟨x',y,_⟩:=f.ext b x hb;rw[c]at y;cases y
 have D:∀j,0<j->γ.eN (cA hs i h') j=γ.eN hs j\/γ.eN (cA hs i h') j=.wk:=λj l=>by
  unfold av.eN;by_cases h1:j<γ.n0
  .simp[h1]
  .simp only[h1,if_false];by_cases k:j=i
   .subst k;rw[kF];by_cases q:γ.wd j=.wk\/h'≠ae.empty
    .rw[if_pos q];exact .inr rfl
    .have u:h'=ae.empty:=auk λh=>q (.inr h);rw[if_neg q,if_neg (λh=>h.elim (λh=>q (.inl h)) λh=>h (L u))];exact .inl rfl
   .rw[gn _ _ k];exact .inl rfl
 refine{G with
  hi:=H
  je:=(G.je.weaken D).app (g:=i) (λop o=>s5 o) (λop o=> ?_) (λh0 M=> ?_)
  bC:=λj l z=> ?_
  jy:=λd=>by rw[gG _ (G.gP d).1];exact G.jy d
  jf:=λd=>by rw[gG _ (G.gP d).2.1];exact G.jf d
  eO:=λj h0 l=> ?_
  os:=⟨by rw[f.os];exact G.os.1,f.output.trans G.os.2⟩
  jZ:=λd=>⟨(G.jZ d).1,by rw[gG _ (G.jZ d).1];exact(G.jZ d).2⟩}
 .rw[auy]at o;obtain⟨e,c,rfl⟩:=av0.1 o;exactλh=>(still e c).2.2 (axU h)
 .have u:h'=ae.empty:=by refine auk λh=>M ?_;unfold av.eN;have E:¬i<γ.n0:=λF=>v ⟨U,G.old i h0 F⟩;rw[if_neg E,kF,if_pos (.inr h)]
  exact Iq (I u)
 .by_cases k:j=i
  .subst k;rw[Deaf_own,deafBehind_still (λe c=>⟨(still e c).1,(still e c).2.1⟩)];exact G.bC j l z
  .rw[av1 t (g':=i) (λe=>k e.symm) _ (λop o=>s5 o)];exact G.bC j l z
 .have k:j≠i:=λe=>v ⟨U,by rw[<- e];exact l⟩;rw[gn _ _ k];exact G.eO j h0 l
def c8.mute(G:c8 tM tW os0 γ n hs w t)(u:0<i)(hi:i<n)(p:γ.gone i)(f:∀e∈es,Event.mute e=J)(fn:vb)(pos:String):c8 tM tW os0 γ n hs w (t++T1 i fn pos es):=by
 have k:∀e∈es,(Zs e).touch? =o0:=λe c=>touch_mute (f e c);have q:∀e∈es,∀a,(Zs e)≠.mark (.release a):=λe c a h=>by have:=f e c;have l:=axU h;obtain⟨loc,wr,v⟩:=e;simp only at l;subst l;simp[Event.mute]at this
 have d:∀op∈T1 i fn pos es,op.act.touch? =o0/\op.g=i/\(∀a,op.act≠.mark (.release a))/\op.act.low w.heap.size:=λop b=>by rw[auy]at b;obtain⟨e,c,rfl⟩:=av0.1 b;exact⟨k e c,rfl,q e c,low_mute (f e c) _⟩
 refine{G with
  hi:=G.hi.shared (i:=i) hi rfl (λ_ _=>rfl) λop b=>⟨⟨(d op b).2.1,(d op b).2.2.1 _,λx o=>by rw[(d op b).1]at o;cases o⟩,(d op b).2.2.2⟩
  je:=G.je.app (g:=i) (λop b=>(d op b).2.1) (λop b=>(d op b).2.2.1 _) λ_ _=>Iq k
  bC:=λj r m=> ?_}
 have s:j≠i:=λe=>m (by rw[e];exact p);rw[av1 t (g':=i) (λe=>s e.symm) _ (λop b=>s5 b)];exact G.bC j r m
def Qb{f:Nat->Nat}:∀{m:Nat},0<at6 m f->∃i,i<m/\0<f i
 | 0,h=>by simp[at6]at h
 |m+1,h=>by
  by_cases b:0<f m
  .exact⟨m,U,b⟩
  .have:0<at6 m f:=by simp only[at6]at h;omega
   obtain⟨i,hi,a⟩:=Qb this;exact⟨i,U,a⟩
def Qc{f:WD->Nat}(h:0<γ.dB f):∃i,γ.n0<=i/\i<γ.aG/\0<f (γ.wd i):=by
 obtain⟨i,hi,a⟩:=Qb h;by_cases b:γ.n0<=i
 .rw[if_pos b]at a;exact⟨i,b,hi,a⟩
 .rw[if_neg b]at a;omega
def c8.live(G:c8 tM tW os0 γ n hs w t):∃i,i<n/\¬γ.gone i/\¬γ.waits i:=by
 by_cases o:γ.ms=.reg/\γ.ws=0
 .obtain⟨r,H⟩:=o;have p:=G.hB.st;have l:=G.hB.v;rw[r]at p l;have m:∀{i:Nat},γ.n0<=i->i≠0:=λh=>by have:=G.n0.1;omega
  have q:∀{f:WD->Nat},0<γ.dB f->(∀d,0<f d->d≠.eO/\d≠.wk)->∃i,i<n/\¬γ.gone i/\¬γ.waits i:=λh s=>by obtain⟨i,h1,b,c⟩:=Qc h;obtain⟨E,F⟩:=s _ c;refine⟨i,by rw[<- G.aG];exact b,λa=>E a.2,?_⟩;unfold av.waits;rw[if_neg (m h1),G.out i (.inr (.inr F))];exactλh=>by cases h.1
  rcases p with⟨_,_,_,h|h⟩|h
  .have hc:0<γ.dB av.iC:=by have:=h.1;simp at l;omega
   obtain⟨i,h1,b,c⟩:=Qc hc;have u:¬γ.gone i:=λa=>by rw[a.2]at c;simp[av.iC]at c
   by_cases g:γ.x.md i=.iv/\γ.x.M=0
   .have y:i<n:=by rw[<- G.aG];exact b
    obtain⟨j,I,k,z⟩:=cK.live G.ok (auj y G.cap) g.1 g.2;have A:j≠0:=λe=>k (G.out j (.inl e));have B:j<n:=Nat.lt_of_not_le λe=>k (G.out j (.inr (.inl e)));have D:γ.wd j=.wk:=auk λe=>k (G.out j (.inr (.inr e)));refine⟨j,B,λa=> ?_,?_⟩
    .have:=a.2;rw[D]at this;cases this
    .unfold av.waits;rw[if_neg A];exactλh=>z h.1
   .refine⟨i,by rw[<- G.aG];exact b,u,?_⟩;unfold av.waits;rw[if_neg (m h1)];exact g
  .exact q (f:=av.gO) U λd hd=>by cases d<;>simp[av.gO]at hd<;>exact⟨Y,Y⟩
  .exact q (f:=av.ic) U λd hd=>by cases d<;>simp[av.ic]at hd<;>exact⟨Y,Y⟩
 .exact⟨0,G.pos,λa=>a.1 rfl,by unfold av.waits;rw[if_pos rfl];exact o⟩
end
def fD(P:tb)(tM tW:ta)(os0:eI)(Post:o5->tg->Prop):ja P where
 kj:=av
 R:=av.Rel
 c8:=c8 tM tW os0
 waits:=av.waits
 gone:=av.gone
 Post:=Post
 refl:=av.Rel.refl
 trans:=av.Rel.trans
 at_:=λd G=>G.at_ d
 cZ:=λG _ _=>G.hi.cZ _
 loc:=λfn pos G hi a f b c=>G.loc hi a f b c fn pos
 mute:=λfn pos G h0 hi a e=>G.mute h0 hi a e fn pos
 live:=λG=>G.live
 main:=λG=>⟨G.pos,λh=>h.1 rfl⟩
end
def wa(γ:av)(e:R1):Prop:=e.loc=.mark .disable\/e.loc=.mark .enable\/∃a x,e=⟨.cell a,x,J⟩/\a.block∈γ.sh
section
variable{tM tW:ta}{os0:eI}{γ:av}{n i:Nat}{hs:Nat->ae}{w w':tg}{t:N1}{es:Array R1}
def acR{fn:vb}{pos:String}
  (l:∀j e,es[j]? =C e->(Zs e).touch? =o0\/((∃d wr,e=⟨.cell d,wr,J⟩)/\0<A0 (T5 t i) (es.extract 0 j))):
  ∀k,t.size<=k->(t++T1 i fn pos es).g? k=C i->¬(t++T1 i fn pos es).counts k:=by
 intro k r _ ⟨x,s,_,hc⟩;obtain⟨u,m,a⟩:=auK.1 s;obtain⟨op,b,rfl⟩:=au5.1 m;have f:(T1 i fn pos es)[k- t.size]? =C op:=by rw[Array.getElem?_append]at b;simpa[Nat.not_lt.2 r]using b
 rw[auy,Array.getElem?_map]at f;obtain⟨e,c,rfl⟩:=au5.1 f;have n:k- t.size<=es.size:=by
  rcases Nat.lt_or_ge (k- t.size) es.size with h'|h'
  .omega
  .rw[Array.getElem?_eq_none h']at c;cases c
 rcases l _ e c with h0|⟨⟨d,wr,rfl⟩,hd⟩
 .simp only at a;rw[h0]at a;cases a
 .have o:x.kind=.atomic:=by cases wr<;>simp[Zs,at2]at a<;>subst a<;>rfl
  rcases hc with hc|⟨g,h,p⟩
  .exact hc o
  .have q:g=i:=by simp[Trace.g?,b]at h;exact h.symm
   subst q;have:=deaf_inside t g fn pos es (k- t.size) n;rw[(U:t.size+(k- t.size)=k),p]at this;omega
def c8.book(G:c8 tM tW os0 γ n hs w t)(hi:i<n)(A:¬γ.gone i)(B:w'.heap.size=w.heap.size)(hb:∀b,b∉γ.sh->w'.heap[b]? =w.heap[b]?)
  (r:∀j e,es[j]? =C e->wa γ e/\((Zs e).touch? =o0\/(0<i->γ.wd i≠.wk->0<A0 (γ.bC i) (es.extract 0 j)))) (fn:vb) (pos:String):
  fy hs n γ.gN (· ∈γ.sh) ⟨γ.mu,0,o0⟩ γ.aW w' (t++T1 i fn pos es)/\rA ⟨γ.wg,0,o0⟩ (γ.eN hs) n (t++T1 i fn pos es)/\
  (∀j,j<n->¬γ.gone j->T5 (t++T1 i fn pos es) j=if j=i then A0 (γ.bC i) es else γ.bC j):=by
 have v:∀op∈T1 i fn pos es,∃e,wa γ e/\op= {g:=i,fn,pos,act:=.ofEvent e}:=λop c=>by rw[auy]at c;obtain⟨e,d,rfl⟩:=av0.1 c;obtain⟨j,m⟩:=Array.mem_iff_getElem?.1 d;exact⟨e,(r j e m).1,rfl⟩
 have z:∀op∈T1 i fn pos es,∀a,op.act≠.mark (.release a):=λop c a h=>by
  obtain⟨e,d,rfl⟩:=v op c;have k:=axU h;rcases d with h1|h1|⟨l,x,rfl,_⟩
  .rw[h1]at k;cases k
  .rw[h1]at k;cases k
  .cases k
 have s:T5 t i=γ.bC i:=G.bC i hi A;refine⟨G.hi.shared hi B hb λop c=> ?_,G.je.app (g:=i) (λop c=>s5 c) (λop c=>z op c _) λh0 H=> ?_,λj m D=> ?_⟩
 .have o:=z op c ⟨γ.mu,0,o0⟩;obtain⟨e,d,rfl⟩:=v op c;rcases d with h1|h1|⟨l,x,rfl,u⟩
  .obtain⟨loc,wr,q⟩:=e;simp only at h1;subst h1;exact⟨⟨rfl,o,λy f=>by simp[Zs,at2]at f⟩,trivial⟩
  .obtain⟨loc,wr,q⟩:=e;simp only at h1;subst h1;exact⟨⟨rfl,o,λy f=>by simp[Zs,at2]at f⟩,trivial⟩
  .refine⟨⟨rfl,o,λy f=> ?_⟩,G.hi.low _ u⟩;simp only[Zs,at2,W6]at f;subst f;exact⟨l.block,rfl,.inl ⟨u,Y,Y⟩⟩
 .refine acR λj e d=> ?_;obtain⟨I,h⟩:=r j e d;rcases h with h|h
  .exact .inl h
  .rcases I with h1|h1|⟨l,x,rfl,_⟩
   .obtain⟨loc,wr,q⟩:=e;simp only at h1;subst h1;exact .inl (by simp[Zs,at2])
   .obtain⟨loc,wr,q⟩:=e;simp only at h1;subst h1;exact .inl (by simp[Zs,at2])
   .refine .inr ⟨⟨l,x,rfl⟩,?_⟩;rw[s];refine h h0 λe=>H ?_;unfold av.eN;have E:¬i<γ.n0:=λF=>by have:=G.old i h0 F;rw[e]at this;cases this
    rw[if_neg E,if_pos (.inl e)]
 .by_cases p:j=i
  .subst p;rw[Deaf_own,s,if_pos rfl]
  .rw[if_neg p,av1 t (g':=i) (λe=>p e.symm) _ (λop c=>s5 c)];exact G.bC j m D
end
section
variable{P:tb}{tM tW:ta}{os0:eI}{Post:o5->tg->Prop}{i:Nat}{b:aS}{o:sa}{aA:su->o5}{s:av}{h:ae}{K:av->ae->o5->Prop}
def Aj(hs:∀(a:Act) (ops:Array sa) (j:Nat) (rest:List Nat) (k:List Item) (cs:List Frame),b.kind≠.early->a.eval=aA->ops[j]? =C o->Region.wanted o (yielded ops a.tmps)=J->∀(γ:av) (n:Nat) (hs:Nat->ae) (w:tg) (t:N1),av.Rel i s γ->c8 tM tW os0 γ n hs w t->i<n->¬γ.gone i->hs i=h->
   (γ.waits i/\stepG P q9 (G (b.at a (.inRegion ops (j::rest)::k)) cs) w=.go {G (b.at a (.inRegion ops (j::rest)::k)) cs with status:=.blocked} w #[])\/
   (∃d v w' es h',stepG P q9 (G (b.at a (.inRegion ops (j::rest)::k)) cs) w=.go (G (b.at (a.put o.dst v) (.inRegion ops rest::k)) cs) w' es/\c8 tM tW os0 d n (cA hs i h') w' (t++gZ i (G (b.at a (.inRegion ops (j::rest)::k)) cs) es)/\(fD P tM tW os0 Post).qp i γ d/\
    (fD P tM tW os0 Post).qt (G (b.at a (.inRegion ops (j::rest)::k)) cs) γ d/\¬d.gone i/\K d h' v)):
  lv P q9 ((fD P tM tW os0 Post).im i) b o aA s h K:=by
 intro Q a ops j rest k cs q e f r c;refine dv.sync ⟨rfl,rfl,λγ n g w t l m hi p u=> ?_⟩;rcases hs a ops j rest k cs q e f r γ n g w t l m hi p u with h1|⟨d,v,w',es,h',x,y,z,A,B,D⟩
 .exact .inl h1
 .exact .inr ⟨d,_,w',es,h',x,y,z,A,.inr ⟨B,rfl,c d h' v D⟩⟩
end
end
end Go.Nk
