/- Part Pac of the proof of ButtBack: lemmas. -/
import Derived.Test.YthgephlghkjiaaaGreatDoorPab
set_option maxRecDepth 100000
set_option maxHeartbeats 4000000
set_option linter.all false
namespace Go.Nk
noncomputable section
open Go Go.Conc Go.Proofs
abbrev Env:=Nat->Value
def upd(e:Env)(d:Nat)(v:Value):Env:=fun t=>cond (Nat.beq t d) v (e t)
def aS(e:Env):Operand->Value
 | .tmp t=>e t
 | .const v=>v
 | .global g=>.pointer (some ⟨g,0,none⟩)
 | .func f=>.func (.func f) #[] #[]
def cv(e:Env):Option Tmp->Value->Env
 | some d,v=>upd e d v
 | none,_=>e
def kH(ops:Array Oper)(e:Env)(j:Nat):Option Bool:=
 match (ops[j]?).bind (·.dst) with
 | some t=>match e t with|.bool b=>some b|_=>none
 | none=>none
def iH(n:Nat)(a:Act)(e:Env):Prop:=a.tmps.size=n/\∀t,a.tmps.getD t undef=e t
class A7(α:Type)(β:Sort 1) where
 f:α->β
def bE{α:Type}{β:Sort 1}(v:α)[k:A7 α β]:β:=k.f v
def Oi(n:Nat)(ops:Array Oper):Bool:=ops.all fun o=>match o.dst with|some d=>d<n|none=>true
def ga(n:Nat):Code->Bool
 | .region _ ops _=>Oi n ops
 | .seq x y=>ga n x&&ga n y
 | .cond _ x y=>ga n x&&ga n y
 | .block _ c=>ga n c
 | .loop c=>ga n c
 | .scope c=>ga n c
 | _=>true
def tG{A8:Sort _}(X:A8)(K:eZ->A8):eZ->A8
 | .cB=>X
 | .ext i=>K (.ext i)
 | .ret=>K .ret
def mj{A8:Sort _}(id:Nat)(K:eZ->A8):eZ->A8
 | .cB=>K .cB
 | .ext i=>if i=id then K .cB else K (.ext i)
 | .ret=>K .ret
section
variable(P:Program)(main:Bool){ah:Type}(S:Sys ah)(n:Nat)
def xd(o:Oper)(e:Env)(d:List Deferred)(s:ah)(N:Env->List Deferred->ah->ab->Prop):Next->ab->Prop
 | .value v,h=>N (cv e o.dst v) d s h
 | .skip,h=>N (cv e o.dst undef) d s h
 | .defer x,h=>N (cv e o.dst undef) (x::d) s h
 | .enter f args,h=>bI P main S f args s h fun ai h' v=>N (cv e o.dst v) d ai h'
 | .round l f tmps assign body,h=>kq P main S l f tmps assign body s h fun ai h' v=>N (cv e o.dst v) d ai h'
 | _,_=>False
def n9(b:bn)(o:Oper)(e:Env)(d:List Deferred)(s:ah)(h:ab)(N:Env->List Deferred->ah->ab->Prop):Prop:=
 (lE b o=false/\bf P (execOp (aS e) o) h (xd P main S o e d s N))\/lJ P main S b o (aS e) s h (fun s h v=>N (cv e o.dst v) d s h)
def gk(b:bn)(ops:Array Oper):List Nat->Env->List Deferred->ah->ab->(Env->List Deferred->ah->ab->Prop)->Prop
 | [],e,d,s,h,N=>N e d s h
 | i::rest,e,d,s,h,N=>match ops[i]? with
  | none=>gk b ops rest e d s h N
  | some o=>if Region.wanted o (kH ops e) then n9 P main S b o e d s h fun e d s h=>gk b ops rest e d s h N else gk b ops rest (cv e o.dst undef) d s h N
def q8(b:bn)(ops:Array Oper):List Oper->Env->List Deferred->ah->ab->(Env->List Deferred->ah->ab->Prop)->Prop
 | [],e,d,s,h,N=>N e d s h
 | o::rest,e,d,s,h,N=>if Region.wanted o (kH ops e) then n9 P main S b o e d s h fun e d s h=>q8 b ops rest e d s h N else q8 b ops rest (cv e o.dst undef) d s h N
end
class KK(α:Type) where
 f:α->ab->Prop
class hE(ah:Type) where
 f:ah->ab->Value->Prop
class DZ(ah:Type) where
 f:Env->List Deferred->ah->ab->Prop
def au(P:Program){α:Type}(m:Sem α)(h:ab)[K:KK α]:Prop:=bf P m h K.f
def xe(c a b:Value):Sem Value:=do pure (if <- asBool c then a else b)
def cr(op:BinOp)(t:TypeId)(x y:Operand)(bS eS:Value):Sem Value:=do eqGuard op t x y bS eS;binOp op t bS eS
def xz(v:Value):Sem Next:=execOp (fun _=>v) ⟨none,.nilCheck (.tmp 0),0, "",#[],none⟩
def sm(v:Value)(args:Array Value):Sem Next:=do
 let d <- Deferred.ofValue v args
 invoke d.target d.args
class Jm where
 f:Prop
def xT(t:Bool)[A:Jm][B:Jm]:Prop:=if t=true then A.f else B.f
def CV(v:Value)(w:Bool):Bool:=(match v with|.bool b=>some b|_=>none)==some w
def bP(P:Program)(f:FuncId):Bool:=match P.funcs[f]? with|some fn=> !(fn.name== "runtime.NumGoroutine")&&fn.body.isSome|none=>false
section
variable(P:Program)(main:Bool){ah:Type}(S:Sys ah)
def ri(dst:Option Tmp)(e:Env)(d:List Deferred)(s:ah)[N:DZ ah]:Next->ab->Prop
 | .value v,h=>N.f (cv e dst v) d s h
 | .skip,h=>N.f (cv e dst undef) d s h
 | .defer x,h=>N.f (cv e dst undef) (x::d) s h
 | .enter f args,h=>bI P main S f args s h fun ai h' v=>N.f (cv e dst v) d ai h'
 | .round l f tmps assign body,h=>kq P main S l f tmps assign body s h fun ai h' v=>N.f (cv e dst v) d ai h'
 | _,_=>False
def eX(f:FuncId)(args:Array Value)(s:ah)(h:ab)[K:hE ah]:Prop:=
 (bP P f=true/\bI P main S f args s h K.f)\/
 (∃fn x,P.funcs[f]? =some fn/\(fn.name== "runtime.NumGoroutine")=false/\fn.body.isNone=true/\Extern.findNext fn=none/\Extern.find fn=some x/\@au P _ (x args) h ⟨fun v h=>K.f s h v⟩)\/
 (∀b o aS b8 hU,o.op=.call ⟨.value (.func f),b8,hU⟩->b8.map aS=args->lJ P main S b o aS s h K.f)
def fa(b:bn)(t:TypeId)(v:Value)(s:ah)(h:ab)[K:hE ah]:Prop:=
 match v with
 | .pointer (some a)=>if (h a.block).isSome then @au P _ (Instr.loadAt t v) h ⟨fun v h=>K.f s h v⟩ else ∀o aS x,o.op=.load t x->aS x=v->lJ P main S b o aS s h K.f
 | _=>@au P _ (Instr.loadAt t v) h ⟨fun v h=>K.f s h v⟩
def iJ(b:bn)(st jD:TypeId)(v:Value)(s:ah)(h:ab)[K:hE ah]:Prop:=
 match v with
 | .pointer (some a)=>if (h a.block).isSome then @au P _ (convert st jD v) h ⟨fun v h=>K.f s h v⟩ else ∀o aS x,o.op=.convert st jD x->aS x=v->lJ P main S b o aS s h K.f
 | _=>@au P _ (convert st jD v) h ⟨fun v h=>K.f s h v⟩
def CW(t:TypeId):Bool:=Nat.beq t 203||Nat.beq t 210
def oi(b:bn)(t:TypeId)(s:ah)(h:ab)[K:hE ah]:Prop:=
 match CW t with
 | true=>∀o aS,o.op=.alloc t->lJ P main S b o aS s h K.f
 | false=>@au P _ (Instr.alloc t true (.tuple #[])) h ⟨fun v h=>K.f s h v⟩
def vQ(b:bn)(v:Value)(args:Array Value)(s:ah)(h:ab)[K:hE ah]:Prop:=
 ∀o aS x b8 hU,o.op=.go ⟨.value x,b8,hU⟩->aS x=v->b8.map aS=args->lJ P main S b o aS s h K.f
def ub(b:bn)(f:FuncId)(args:Array Value)(o:Oper)(e:Env)(d:List Deferred)(s:ah)(h:ab)(N:Env->List Deferred->ah->ab->Prop):Prop:=
 match b.ro with
 | none=>N (cv e o.dst undef) ({target:=.fn (.func f) #[],args:=args}::d) s h
 | some _=>n9 P main S b o e d s h N
def b3(b:bn)(o:Oper)(e:Env)(d:List Deferred)(s:ah)(h:ab)(N:Env->List Deferred->ah->ab->Prop):Prop:=
 match o.op with
 | .move x=>@bE _ _ (aS e x) ⟨fun v=>N (cv e o.dst v) d s h⟩
 | .assign x=>@bE _ _ (aS e x) ⟨fun v=>N (cv e o.dst v) d s h⟩
 | .pick c x y=>@bE _ _ (aS e c) ⟨fun qS=>@bE _ _ (aS e x) ⟨fun bS=>@bE _ _ (aS e y) ⟨fun eS=>@au P _ (xe qS bS eS) h ⟨fun v h=>N (cv e o.dst v) d s h⟩⟩⟩⟩
 | .alloc t=>@oi P main _ S b t s h ⟨fun s h v=>N (cv e o.dst v) d s h⟩
 | .box t x=>@bE _ _ (aS e x) ⟨fun bS=>@au P _ (Instr.box t bS) h ⟨fun v h=>N (cv e o.dst v) d s h⟩⟩
 | .build t bF=>@au P _ (Instr.build t ((bF.toList.map fun p=>(p.1,aS e p.2)).toArray)) h ⟨fun v h=>N (cv e o.dst v) d s h⟩
 | .buildSlice t n bF=>@au P _ (Instr.buildSlice t n ((bF.toList.map fun p=>(p.1,aS e p.2)).toArray)) h ⟨fun v h=>N (cv e o.dst v) d s h⟩
 | .load t x=>@bE _ _ (aS e x) ⟨fun bS=>@fa P main _ S b t bS s h ⟨fun s h v=>N (cv e o.dst v) d s h⟩⟩
 | .store t x y=>@bE _ _ (aS e x) ⟨fun bS=>@bE _ _ (aS e y) ⟨fun eS=>@au P _ (Instr.storeAt t bS eS) h ⟨fun _ h=>N (cv e o.dst undef) d s h⟩⟩⟩
 | .nilCheck x=>@bE _ _ (aS e x) ⟨fun bS=>@au P _ (xz bS) h ⟨fun ar h=>@ri P main _ S o.dst e d s ⟨N⟩ ar h⟩⟩
 | .binOp op xt x y _=>@bE _ _ (aS e x) ⟨fun bS=>@bE _ _ (aS e y) ⟨fun eS=>@au P _ (cr op xt x y bS eS) h ⟨fun v h=>N (cv e o.dst v) d s h⟩⟩⟩
 | .unOp op _ x=>@bE _ _ (aS e x) ⟨fun bS=>@au P _ (Op.unary op bS) h ⟨fun v h=>N (cv e o.dst v) d s h⟩⟩
 | .convert st jD x=>@bE _ _ (aS e x) ⟨fun bS=>@iJ P main _ S b st jD bS s h ⟨fun s h v=>N (cv e o.dst v) d s h⟩⟩
 | .makeInterface t x=>@bE _ _ (aS e x) ⟨fun bS=>@au P _ (Instr.makeInterface t bS) h ⟨fun v h=>N (cv e o.dst v) d s h⟩⟩
 | .makeFunc f xs kZ=>N (cv e o.dst (.func f ((xs.toList.map (aS e)).toArray) ((kZ.toList.map (aS e)).toArray))) d s h
 | .makeMap t r=>@au P _ (Instr.makeMap t (r.map (aS e))) h ⟨fun v h=>N (cv e o.dst v) d s h⟩
 | .makeSlice t x y=>@bE _ _ (aS e x) ⟨fun bS=>@bE _ _ (aS e y) ⟨fun eS=>@au P _ (Instr.makeSlice t bS eS) h ⟨fun v h=>N (cv e o.dst v) d s h⟩⟩⟩
 | .slice t x lo hi bB=>@bE _ _ (aS e x) ⟨fun bS=>@au P _ (Instr.sliceAt t bS (lo.map (aS e)) (hi.map (aS e)) (bB.map (aS e))) h ⟨fun v h=>N (cv e o.dst v) d s h⟩⟩
 | .fieldAddr t x f=>@bE _ _ (aS e x) ⟨fun bS=>@au P _ (Instr.fieldAt t bS f) h ⟨fun v h=>N (cv e o.dst v) d s h⟩⟩
 | .field t x f=>@bE _ _ (aS e x) ⟨fun bS=>@au P _ (Instr.field t bS f) h ⟨fun v h=>N (cv e o.dst v) d s h⟩⟩
 | .indexAddr t x y=>@bE _ _ (aS e x) ⟨fun bS=>@bE _ _ (aS e y) ⟨fun eS=>@au P _ (Instr.indexAt t bS eS) h ⟨fun v h=>N (cv e o.dst v) d s h⟩⟩⟩
 | .index t x y=>@bE _ _ (aS e x) ⟨fun bS=>@bE _ _ (aS e y) ⟨fun eS=>@au P _ (Instr.index t bS eS) h ⟨fun v h=>N (cv e o.dst v) d s h⟩⟩⟩
 | .lookup t x y k=>@bE _ _ (aS e x) ⟨fun bS=>@bE _ _ (aS e y) ⟨fun eS=>@au P _ (Instr.lookup t bS eS k) h ⟨fun v h=>N (cv e o.dst v) d s h⟩⟩⟩
 | .mapUpdate t m k x=>@bE _ _ (aS e m) ⟨fun RK=>@bE _ _ (aS e k) ⟨fun RL=>@bE _ _ (aS e x) ⟨fun bS=>@au P _ (Instr.mapUpdate t RK RL bS) h ⟨fun _ h=>N (cv e o.dst undef) d s h⟩⟩⟩⟩
 | .range t x=>@bE _ _ (aS e x) ⟨fun bS=>@au P _ (Instr.range t bS) h ⟨fun v h=>N (cv e o.dst v) d s h⟩⟩
 | .next x k=>@bE _ _ (aS e x) ⟨fun bS=>@au P _ (Instr.next bS k o.type) h ⟨fun v h=>N (cv e o.dst v) d s h⟩⟩
 | .typeAssert x t u k=>@bE _ _ (aS e x) ⟨fun bS=>@au P _ (Instr.typeAssert bS t u k) h ⟨fun v h=>N (cv e o.dst v) d s h⟩⟩
 | .extract x i=>@bE _ _ (aS e x) ⟨fun bS=>@au P _ (Instr.extract bS i) h ⟨fun v h=>N (cv e o.dst v) d s h⟩⟩
 | .call ⟨.value (.func f),b8,_⟩=>@eX P main _ S f ((b8.toList.map (aS e)).toArray) s h ⟨fun s h v=>N (cv e o.dst v) d s h⟩
 | .call ⟨.value x,b8,_⟩=>@bE _ _ (aS e x) ⟨fun v=>@au P _ (sm v ((b8.toList.map (aS e)).toArray)) h ⟨fun ar h=>@ri P main _ S o.dst e d s ⟨N⟩ ar h⟩⟩
 | .call ⟨.builtin .len,b8,dN⟩=>@au P _ (Builtin.len_ dN o.type ((b8.toList.map (aS e)).toArray)) h ⟨fun v h=>N (cv e o.dst v) d s h⟩
 | .call ⟨.builtin .append,b8,dN⟩=>@au P _ (Builtin.append_ dN o.type ((b8.toList.map (aS e)).toArray)) h ⟨fun v h=>N (cv e o.dst v) d s h⟩
 | .call ⟨.builtin .copy,b8,dN⟩=>@au P _ (Builtin.copy_ dN o.type ((b8.toList.map (aS e)).toArray)) h ⟨fun v h=>N (cv e o.dst v) d s h⟩
 | .call ⟨.builtin .max,b8,dN⟩=>@au P _ (Builtin.max_ dN o.type ((b8.toList.map (aS e)).toArray)) h ⟨fun v h=>N (cv e o.dst v) d s h⟩
 | .call ⟨.builtin .min,b8,dN⟩=>@au P _ (Builtin.min_ dN o.type ((b8.toList.map (aS e)).toArray)) h ⟨fun v h=>N (cv e o.dst v) d s h⟩
 | .call ⟨.builtin .clear,b8,dN⟩=>@au P _ (Builtin.clear_ dN o.type ((b8.toList.map (aS e)).toArray)) h ⟨fun v h=>N (cv e o.dst v) d s h⟩
 | .call ⟨.builtin .unsafeString,b8,dN⟩=>@au P _ (Builtin.unsafeString_ dN o.type ((b8.toList.map (aS e)).toArray)) h ⟨fun v h=>N (cv e o.dst v) d s h⟩
 | .call ⟨.builtin .unsafeSliceData,b8,dN⟩=>@au P _ (Builtin.unsafeSliceData_ dN o.type ((b8.toList.map (aS e)).toArray)) h ⟨fun v h=>N (cv e o.dst v) d s h⟩
 | .go ⟨.value x,b8,_⟩=>@bE _ _ (aS e x) ⟨fun bS=>@vQ P main _ S b bS ((b8.toList.map (aS e)).toArray) s h ⟨fun s h v=>N (cv e o.dst v) d s h⟩⟩
 | .defer ⟨.value (.func f),b8,_⟩=>ub P main S b f ((b8.toList.map (aS e)).toArray) o e d s h N
 | _=>n9 P main S b o e d s h N
def kL(b:bn)(ops:Array Oper):List Oper->Env->List Deferred->ah->ab->(Env->List Deferred->ah->ab->Prop)->Prop
 | [],e,d,s,h,N=>N e d s h
 | o::rest,e,d,s,h,N=>match o.guard with
  | none=>b3 P main S b o e d s h fun e d s h=>kL b ops rest e d s h N
  | some (j,w)=>@bE _ _ (kH ops e j==some w) ⟨fun y=>@xT y ⟨b3 P main S b o e d s h fun e d s h=>kL b ops rest e d s h N⟩ ⟨kL b ops rest (cv e o.dst undef) d s h N⟩⟩
end
section
variable(P:Program)(main:Bool){ah:Type}(S:Sys ah)(n:Nat)
def cF(b:bn):Code->(eZ->Env->List Deferred->ah->ab->Prop)->Env->List Deferred->ah->ab->Prop
 | .skip,K=>K .cB
 | .label _,K=>K .cB
 | .seq x y,K=>cF b x (tG (cF b y K) K)
 | .cond c x y,K=>fun e d s h=>match aS e c with|.bool true=>cF b x K e d s h|.bool false=>cF b y K e d s h|_=>False
 | .block id c,K=>cF b c (mj id K)
 | .loop c,K=>fun e d s h=>∀X:Env->List Deferred->ah->ab->Prop,(∀e d s h,cF b c (tG X K) e d s h->X e d s h)->X e d s h
 | .exit id,K=>K (.ext id)
 | .ret,K=>K .ret
 | .scope c,K=>cF b c K
 | .region _ ops draw,K=>fun e d s h=>if draw then ∀t,gk P main S b ops (Region.schedule (P.follows .mixedOrders) ops t) e d s h (K .cB) else kL P main S b ops ops.toList e d s h (K .cB)
 | .rangeFunc f bF gN body,K=>fun e d s h=>∀a,iH n a e->a.defers=d->jM P main S b (.rangeFunc f bF gN body) (fun ex a s h=>∃e,iH n a e/\K ex e a.defers s h) a s h
 | _,_=>fun _ _ _ _=>False
end
section
variable{P:Program}{main:Bool}{ah:Type}{S:Sys ah}{n:Nat}{b:bn}
theorem GM{a:Act}{e:Env}(r:iH n a e):a.eval=aS e:=by
 funext x;cases x with
 | tmp t=>exact r.2 t
 | _=>rfl
theorem r7{a:Act}{e:Env}(r:iH n a e){dst:Option Tmp}(hd:(match dst with|some d=>decide (d<n)|none=>true)=true)(v:Value):iH n (a.put dst v) (cv e dst v):=by
 cases dst with
 | none=>exact r
 | some d=>
  have fo:d<n:=by simpa using hd
  refine ⟨by simp [Act.put,r.1],fun t=> ?_⟩;simp only [Act.put,cv,upd];by_cases aj:t=d
  ·subst aj;have:Nat.beq t t=true:=by simp
   rw [this];simp [Array.getD,r.1,fo]
  ·have:Nat.beq t d=false:=by cases hb:Nat.beq t d with|false=>rfl|true=>exact absurd (Nat.eq_of_beq_eq_true hb) aj
   rw [this,cond_false,<- r.2 t];simp only [Array.getD_eq_getD_getElem?];rw [Array.getElem?_setIfInBounds_ne (Ne.symm aj)]
theorem acT{a:Act}{e:Env}(r:iH n a e)(ds:List Deferred):iH n {a with defers:=ds} e:=r
theorem put_defers(a:Act)(dst:Option Tmp)(v:Value):(a.put dst v).defers=a.defers:=by cases dst<;>rfl
theorem aeA{a:Act}{e:Env}(r:iH n a e)(ops:Array Oper):yielded ops a.tmps=kH ops e:=by
 funext j;unfold yielded kH;cases hd:(ops[j]?).bind (·.dst) with
 | none=>rfl
 | some t=>
  have h:=r.2 t;simp only [Option.bind_some];rw [Array.getD_eq_getD_getElem?] at h;cases aa:a.tmps[t]? with
  | none=>rw [aa] at h;simp at h;rw [<- h];rfl
  | some v=>rw [aa] at h;simp at h;rw [h];cases e t<;>rfl
theorem adP{o:Oper}{a:Act}{e:Env}{s:ah}{h:ab}{N:Env->List Deferred->ah->ab->Prop}(r:iH n a e)(hd:(match o.dst with|some d=>decide (d<n)|none=>true)=true)
  (u:n9 P main S b o e a.defers s h N):HZ P main S b o a s h fun a s h=>∃e,iH n a e/\N e a.defers s h:=by
 rcases u with u|u
 case inr=>
  refine .inr ?_;rw [GM r];exact u.mono fun s h v q=>⟨_,r7 r hd v,by rw [put_defers];exact q⟩
 refine .inl ⟨u.1,?_⟩;rw [GM r];refine oF P _ (fun ar h' q=> ?_) u.2;cases ar with
 | value v=>exact ⟨_,r7 r hd v,by rw [put_defers];exact q⟩
 | skip=>exact ⟨_,r7 r hd undef,by rw [put_defers];exact q⟩
 | defer x=>exact ⟨_,r7 (acT r (x::a.defers)) hd undef,by rw [put_defers];exact q⟩
 | enter f args=>exact bI.mono (fun ai h' v q=>⟨_,r7 r hd v,by rw [put_defers];exact q⟩) q
 | round l f tmps gN body=>exact kq.mono (fun ai h' v q=>⟨_,r7 r hd v,by rw [put_defers];exact q⟩) q
 | _=>exact q.elim
theorem WS{ops:Array Oper}(cW:Oi n ops=true){i:Nat}{o:Oper}(aQ:ops[i]? =some o):(match o.dst with|some d=>decide (d<n)|none=>true)=true:=by
 obtain ⟨hi,rfl⟩:=Array.getElem?_eq_some_iff.1 aQ;have:=Array.all_eq_true.1 cW i hi;exact this
theorem SP{ops:Array Oper}(cW:Oi n ops=true):∀{l:List Nat} {a:Act} {e:Env} {s:ah} {h:ab} {N:Env->List Deferred->ah->ab->Prop},iH n a e->
  gk P main S b ops l e a.defers s h N->qw P main S b ops l a s h fun a s h=>∃e,iH n a e/\N e a.defers s h:=by
 intro l
 induction l with
 | nil=>exact fun r u=>⟨_,r,u⟩
 | cons i l aN=>
  intro a e s h N r u;rw [gk] at u;rw [qw];cases aQ:ops[i]? with
  | none=>rw [aQ] at u;exact aN r u
  | some o=>
   rw [aQ] at u;simp only at u ⊢;rw [aeA r ops];split
   ·rename_i hw;rw [if_pos hw] at u;exact Un (fun a s h ⟨e,r,q⟩=>aN r q) (adP r (WS cW aQ) u)
   ·rename_i hw;rw [if_neg hw] at u;exact aN (r7 r (WS cW aQ) undef) (by rw [put_defers];exact u)
theorem aj2{ops:Array Oper}{N:Env->List Deferred->ah->ab->Prop}:∀(m i:Nat),i+m=ops.size->∀(e:Env) (d:List Deferred) (s:ah) (h:ab),
  q8 P main S b ops (ops.toList.drop i) e d s h N->gk P main S b ops (List.range' i m) e d s h N:=by
 have aux:∀(m i:Nat),i+m=ops.size->∀(e:Env) (d:List Deferred) (s:ah) (h:ab) (N:Env->List Deferred->ah->ab->Prop),
   q8 P main S b ops (ops.toList.drop i) e d s h N=gk P main S b ops (List.range' i m) e d s h N:=by
  intro m
  induction m with
  | zero=>
   intro i hi e d s h N;rw [List.drop_of_length_le (by simp;omega)];rfl
  | succ m aN=>
   intro i hi e d s h N;have bY:i<ops.size:=by omega
   rw [List.drop_eq_getElem_cons (by simpa using bY),List.range'_succ,gk,q8];rw [Array.getElem?_eq_getElem bY];simp only [Array.getElem_toList];have:∀N,(fun e d s h=>q8 P main S b ops (ops.toList.drop (i+1)) e d s h N)=fun e d s h=>gk P main S b ops (List.range' (i+1) m) e d s h N:=fun N=>by
    funext e d s h;exact aN (i+1) (by omega) e d s h N
   rw [this,aN (i+1) (by omega)]
 intro m i hi e d s h u;rw [<- aux m i hi];exact u
theorem zz{h:ab}{m:Sem Value}{K:Next->ab->Prop}:bf P (do pure (.value (<- m)):Sem Next) h K=bf P m h fun v h=>K (.value v) h:=by
 simp only [aV,bh]
theorem am0{h:ab}{m:Sem Unit}{K:Next->ab->Prop}:bf P (do m;pure .skip:Sem Next) h K=bf P m h fun _ h=>K .skip h:=by
 simp only [aV,bh]
theorem ac1{o:Oper}(aQ:∀c,o.op≠.defer c):lE b o=false:=by
 unfold lE;split
 ·rename_i c l h1 h2;exact absurd h1 (aQ c)
 ·rfl
theorem Ff{o:Oper}{e:Env}{d:List Deferred}{s:ah}{N:Env->List Deferred->ah->ab->Prop}:xd P main S o e d s N=@ri P main _ S o.dst e d s ⟨N⟩:=by
 funext ar h;cases ar<;>rfl
theorem BD{α β:Type}(f:α->β)(x:Array α):(x.toList.map f).toArray=x.map f:=by rw [<- Array.toList_map]
theorem tk{o:Oper}{e:Env}{d:List Deferred}{s:ah}{h:ab}{N:Env->List Deferred->ah->ab->Prop}(u:b3 P main S b o e d s h N):n9 P main S b o e d s h N:=by
 obtain ⟨dst,op,ty,pos,RN,bk⟩:=o;have fK:(∀c,op≠.defer c)->lE b ⟨dst,op,ty,pos,RN,bk⟩=false:=fun aQ=>ac1 aQ;unfold b3 at u;split at u
 case h_29 f b8 dN aF=>
  simp only at aF;subst aF;simp only [BD] at u;rcases u with ⟨ck,u⟩|⟨fn,x,aP,h1,h2,ao,he,u⟩|u
  ·refine .inl ⟨fK (by simp),?_⟩;simp only [execOp,resolve,aS,Deferred.ofValue,aV,bh,invoke,callFunc,mJ];unfold bP at ck;split at ck
   ·rename_i fn aP;simp only [Bool.and_eq_true,Bool.not_eq_true',beq_eq_false_iff_ne] at ck;have h2:¬fn.body=none:=by have:=ck.2;cases aa:fn.body<;>simp_all
    rw [aP];simp [ck.1,h2,bh,xd];exact u
   ·cases ck
  ·refine .inl ⟨fK (by simp),?_⟩;simp only [execOp,resolve,aS,Deferred.ofValue,aV,bh,invoke,callFunc,mJ];have dy:¬fn.name= "runtime.NumGoroutine" :=by simpa using h1
   have oj:fn.body=none:=by cases aa:fn.body<;>simp_all
   rw [aP];simp [dy,oj,aV,Tt,sa,ao,he,Bx];exact u
  ·exact .inr (u b _ (aS e) b8 dN rfl rfl)
 case h_30 x b8 dN _ aF=>
  simp only at aF;subst aF;refine .inl ⟨fK (by simp),?_⟩;rw [Ff];simp only [bE,au] at u;rw [BD] at u;exact u
 case h_8 t x aF=>
  simp only at aF;subst aF;simp only [bE,fa] at u;split at u
  ·split at u
   ·exact .inl ⟨fK (by simp),by simp only [execOp,zz];exact u⟩
   ·exact .inr (u _ (aS e) x rfl rfl)
  ·exact .inl ⟨fK (by simp),by simp only [execOp,zz];exact u⟩
 case h_4 t aF=>
  simp only at aF;subst aF;simp only [oi] at u;split at u
  ·exact .inr (u _ (aS e) rfl)
  ·exact .inl ⟨fK (by simp),by simp only [execOp,zz];exact u⟩
 case h_39 x b8 dN aF=>
  simp only at aF;subst aF;simp only [bE,vQ] at u;exact .inr (u _ (aS e) x b8 dN rfl rfl (by rw [BD]))
 case h_40 f b8 dN aF=>
  simp only at aF;subst aF;unfold ub at u;split at u
  ·rename_i lj;refine .inl ⟨by unfold lE;rw [lj],?_⟩;rw [BD] at u;simp only [execOp,resolve,aS,Deferred.ofValue,aV,bh];have:(#[]++b8.map (aS e):Array Value)=b8.map (aS e):=by simp
   rw [this];exact u
  ·exact u
 case h_13 st jD x aF=>
  simp only at aF;subst aF;simp only [bE,iJ] at u;split at u
  ·split at u
   ·exact .inl ⟨fK (by simp),by simp only [execOp,zz];exact u⟩
   ·exact .inr (u _ (aS e) x rfl rfl)
  ·exact .inl ⟨fK (by simp),by simp only [execOp,zz];exact u⟩
 all_goals first
  | exact u
  | (rename_i aF;simp only at aF;subst aF;(try simp only [BD] at u);refine .inl ⟨fK (by simp),?_⟩;first
    | exact u
    | (simp only [execOp,zz];exact u)
    | (simp only [execOp,am0];exact u)
    | (simp only [execOp,resolve,aV,bh,invoke,builtin];exact u)
    | (rw [Ff];exact u)
    | (simp only [execOp,aV,bh];simp only [au,xe,aV,bh,bE] at u;exact u))
theorem adr{ops:Array Oper}:∀{l:List Oper} {e:Env} {d:List Deferred} {s:ah} {h:ab} {N:Env->List Deferred->ah->ab->Prop},kL P main S b ops l e d s h N->q8 P main S b ops l e d s h N:=by
 have o1:∀{o:Oper} {e:Env} {d:List Deferred} {s:ah} {h:ab} {N M:Env->List Deferred->ah->ab->Prop},(∀e d s h,N e d s h->M e d s h)->n9 P main S b o e d s h N->n9 P main S b o e d s h M:=
  fun cY u=>u.imp (fun u=>⟨u.1,oF P _ (fun ar h u=>by
   cases ar<;>first
    | exact cY _ _ _ _ u
    | exact bI.mono (fun _ _ _=>cY _ _ _ _) u
    | exact kq.mono (fun _ _ _=>cY _ _ _ _) u
    | exact u) u.2⟩) (lJ.mono fun _ _ _=>cY _ _ _ _)
 intro l
 induction l with
 | nil=>exact fun u=>u
 | cons o l aN=>
  intro e d s h N u;rw [kL] at u;rw [q8];split at u
  ·rename_i aG;simp only [Region.wanted,aG,if_true];exact o1 (fun _ _ _ _=>aN) (tk u)
  ·rename_i j w aG;simp only [Region.wanted,aG];simp only [bE,xT] at u;split at u
   ·rename_i ax;rw [if_pos ax];exact o1 (fun _ _ _ _=>aN) (tk u)
   ·rename_i ax;rw [if_neg ax];exact aN u
theorem yV{c:Code}:∀{K:eZ->Env->List Deferred->ah->ab->Prop} {a:Act} {e:Env} {s:ah} {h:ab},ga n c=true->iH n a e->cF P main S n b c K e a.defers s h->
  jM P main S b c (fun ex a s h=>∃e,iH n a e/\K ex e a.defers s h) a s h:=by
 induction c with
 | skip=>exact fun _ r u=>⟨_,r,u⟩
 | label l=>exact fun _ r u=>⟨_,r,u⟩
 | seq x y og oh=>
  intro K a e s h cW r u;simp only [ga,Bool.and_eq_true] at cW;rw [jM];refine wR (fun ex a s h ⟨e,r,q⟩=> ?_) (og cW.1 r u);cases ex with
  | cB=>exact oh cW.2 r q
  | ext i=>exact ⟨e,r,q⟩
  | ret=>exact ⟨e,r,q⟩
 | cond c x y og oh=>
  intro K a e s h cW r u;simp only [ga,Bool.and_eq_true] at cW;rw [cF] at u;simp only [jM,GM r];split at u
  ·rename_i he;rw [he];exact og cW.1 r u
  ·rename_i he;rw [he];exact oh cW.2 r u
  ·exact u.elim
 | block id c aN=>
  intro K a e s h cW r u;rw [jM];refine wR (fun ex a s h ⟨e,r,q⟩=> ?_) (aN cW r u);cases ex with
  | cB=>exact ⟨e,r,q⟩
  | ext i=>
   simp only [mj] at q ⊢;split
   ·rename_i hi;rw [if_pos hi] at q;exact ⟨e,r,q⟩
   ·rename_i hi;rw [if_neg hi] at q;exact ⟨e,r,q⟩
  | ret=>exact ⟨e,r,q⟩
 | loop c aN=>
  intro K a e s h cW r u X qP;refine u (fun e d s h=>∀a,iH n a e->a.defers=d->X a s h) (fun e d s h q a r hd=> ?_) a r rfl;subst hd;refine qP a s h (wR (fun ex a s h ⟨e,r,q⟩=> ?_) (aN cW r q));cases ex with
  | cB=>exact q a r rfl
  | ext i=>exact ⟨e,r,q⟩
  | ret=>exact ⟨e,r,q⟩
 | exit id=>exact fun _ r u=>⟨_,r,u⟩
 | ret=>exact fun _ r u=>⟨_,r,u⟩
 | scope c aN=>exact fun cW r u=>aN cW r u
 | region id ops draw=>
  intro K a e s h cW r u;rw [cF] at u;rw [jM];cases draw with
  | true=>rw [if_pos rfl] at u ⊢;exact fun t=>SP cW r (u t)
  | false=>
   refine SP cW r ?_;rw [List.range_eq_range'];exact aj2 ops.size 0 (by omega) _ _ _ _ (adr u)
 | rangeFunc f bF gN body _ _=>exact fun _ r u=>u _ r rfl
 | goto l=>exact fun _ _ u=>u.elim
 | refuse w=>exact fun _ _ u=>u.elim
theorem tl{α:Type}{m:Sem α}{h:ab}{K L:KK α}(cX:∀a h,K.f a h->L.f a h)(u:@au P _ m h K):@au P _ m h L:=oF P m (fun _ _=>cX _ _) u
theorem eX.mono{f:FuncId}{args:Array Value}{s:ah}{h:ab}{K L:hE ah}(cX:∀s h v,K.f s h v->L.f s h v)(u:@eX P main _ S f args s h K):@eX P main _ S f args s h L:=by
 rcases u with ⟨ck,u⟩|⟨fn,x,a1,a2,a3,a4,a5,u⟩|u
 ·exact .inl ⟨ck,bI.mono cX u⟩
 ·exact .inr (.inl ⟨fn,x,a1,a2,a3,a4,a5,tl (fun _ _=>cX _ _ _) u⟩)
 ·exact .inr (.inr fun b o aS b8 hU h1 h2=>(u b o aS b8 hU h1 h2).mono cX)
theorem fa.mono{t:TypeId}{v:Value}{s:ah}{h:ab}{K L:hE ah}(cX:∀s h v,K.f s h v->L.f s h v)(u:@fa P main _ S b t v s h K):@fa P main _ S b t v s h L:=by
 unfold fa at u ⊢;split at u
 ·split at u
  ·rename_i hb;simp only [hb,if_true];exact tl (fun _ _=>cX _ _ _) u
  ·rename_i hb;simp only [hb];exact fun o aS x h1 h2=>(u o aS x h1 h2).mono cX
 ·exact tl (fun _ _=>cX _ _ _) u
theorem iJ.mono{st jD:TypeId}{v:Value}{s:ah}{h:ab}{K L:hE ah}(cX:∀s h v,K.f s h v->L.f s h v)(u:@iJ P main _ S b st jD v s h K):@iJ P main _ S b st jD v s h L:=by
 unfold iJ at u ⊢;split at u
 ·split at u
  ·rename_i hb;simp only [hb,if_true];exact tl (fun _ _=>cX _ _ _) u
  ·rename_i hb;simp only [hb];exact fun o aS x h1 h2=>(u o aS x h1 h2).mono cX
 ·exact tl (fun _ _=>cX _ _ _) u
theorem XY{f0:FuncId}{ck:CallKind}{f:FuncId}{args:Array Value}{o:Oper}{e:Env}{d:List Deferred}{s:ah}{h:ab}{N:Env->List Deferred->ah->ab->Prop}:
  ub P main S ⟨f0,ck,none⟩ f args o e d s h N=N (cv e o.dst undef) ({target:=.fn (.func f) #[],args:=args}::d) s h:=rfl
theorem oi.mono{t:TypeId}{s:ah}{h:ab}{K L:hE ah}(cX:∀s h v,K.f s h v->L.f s h v)(u:@oi P main _ S b t s h K):@oi P main _ S b t s h L:=by
 unfold oi at u ⊢;split at u
 ·exact fun o aS h1=>(u o aS h1).mono cX
 ·exact tl (fun _ _=>cX _ _ _) u
theorem vQ.mono{v:Value}{args:Array Value}{s:ah}{h:ab}{K L:hE ah}(cX:∀s h v,K.f s h v->L.f s h v)(u:@vQ P main _ S b v args s h K):@vQ P main _ S b v args s h L:=
 fun o aS x b8 hU h1 h2 h3=>(u o aS x b8 hU h1 h2 h3).mono cX
theorem iJ.int{st jD:TypeId}{k:IntKind}{n:Int}{s:ah}{h:ab}[K:hE ah]:iJ P main S b st jD (.int k n) s h=@au P _ (convert st jD (.int k n)) h ⟨fun v h=>K.f s h v⟩:=rfl
theorem J6{dst:Option Tmp}{e:Env}{d:List Deferred}{s:ah}{N M:DZ ah}(cY:∀e d s h,N.f e d s h->M.f e d s h){ar:Next}{h:ab}(u:@ri P main _ S dst e d s N ar h):@ri P main _ S dst e d s M ar h:=by
 cases ar<;>first
  | exact cY _ _ _ _ u
  | exact bI.mono (fun _ _ _=>cY _ _ _ _) u
  | exact kq.mono (fun _ _ _=>cY _ _ _ _) u
  | exact u
theorem adQ{o:Oper}{e:Env}{d:List Deferred}{s:ah}{h:ab}{N M:Env->List Deferred->ah->ab->Prop}(cY:∀e d s h,N e d s h->M e d s h)(u:n9 P main S b o e d s h N):n9 P main S b o e d s h M:=
 u.imp (fun u=>⟨u.1,oF P _ (fun ar h u=>by rw [Ff] at u ⊢;exact J6 cY u) u.2⟩) (lJ.mono fun _ _ _=>cY _ _ _ _)
theorem ub.mono{f:FuncId}{args:Array Value}{o:Oper}{e:Env}{d:List Deferred}{s:ah}{h:ab}{N M:Env->List Deferred->ah->ab->Prop}(cY:∀e d s h,N e d s h->M e d s h)(u:ub P main S b f args o e d s h N):ub P main S b f args o e d s h M:=by
 unfold ub at u ⊢;split at u
 ·exact cY _ _ _ _ u
 ·exact adQ cY u
theorem Tx{o:Oper}{e:Env}{d:List Deferred}{s:ah}{h:ab}{N M:Env->List Deferred->ah->ab->Prop}(cY:∀e d s h,N e d s h->M e d s h)(u:b3 P main S b o e d s h N):b3 P main S b o e d s h M:=by
 unfold b3 at u ⊢;split at u<;>first
  | exact cY _ _ _ _ u
  | exact tl (fun _ _=>cY _ _ _ _) u
  | exact eX.mono (fun _ _ _=>cY _ _ _ _) u
  | exact fa.mono (fun _ _ _=>cY _ _ _ _) u
  | exact iJ.mono (fun _ _ _=>cY _ _ _ _) u
  | exact oi.mono (fun _ _ _=>cY _ _ _ _) u
  | exact vQ.mono (fun _ _ _=>cY _ _ _ _) u
  | exact ub.mono cY u
  | exact tl (fun _ _=>J6 cY) u
  | exact u.imp (fun u=>⟨u.1,oF P _ (fun ar h u=>by rw [Ff] at u ⊢;exact J6 cY u) u.2⟩) (lJ.mono fun _ _ _=>cY _ _ _ _)
theorem adR{ops:Array Oper}:∀{l:List Oper} {e:Env} {d:List Deferred} {s:ah} {h:ab} {N M:Env->List Deferred->ah->ab->Prop},(∀e d s h,N e d s h->M e d s h)->kL P main S b ops l e d s h N->kL P main S b ops l e d s h M:=by
 intro l
 induction l with
 | nil=>exact fun cY u=>cY _ _ _ _ u
 | cons o l aN=>
  intro e d s h N M cY u;rw [kL] at u ⊢;split at u
  ·exact Tx (fun _ _ _ _=>aN cY) u
  ·rename_i j w aG;simp only [bE,xT] at u ⊢;split at u
   ·rename_i ax;rw [if_pos ax];exact Tx (fun _ _ _ _=>aN cY) u
   ·rename_i ax;rw [if_neg ax];exact aN cY u
theorem aeB{c:Code}:∀{K L:eZ->Env->List Deferred->ah->ab->Prop} {e:Env} {d:List Deferred} {s:ah} {h:ab},(∀x e d s h,K x e d s h->L x e d s h)->cF P main S n b c K e d s h->cF P main S n b c L e d s h:=by
 have up:∀{o:Oper} {e:Env} {d:List Deferred} {s:ah} {N M:Env->List Deferred->ah->ab->Prop} {ar:Next} {h:ab},(∀e d s h,N e d s h->M e d s h)->xd P main S o e d s N ar h->xd P main S o e d s M ar h:=by
  intro o e d s N M ar h cY u;cases ar<;>first
   | exact cY _ _ _ _ u
   | exact bI.mono (fun _ _ _=>cY _ _ _ _) u
   | exact kq.mono (fun _ _ _=>cY _ _ _ _) u
   | exact u
 have o1:∀{o:Oper} {e:Env} {d:List Deferred} {s:ah} {h:ab} {N M:Env->List Deferred->ah->ab->Prop},(∀e d s h,N e d s h->M e d s h)->n9 P main S b o e d s h N->n9 P main S b o e d s h M:=
  fun cY u=>u.imp (fun u=>⟨u.1,oF P _ (fun _ _=>up cY) u.2⟩) (lJ.mono fun _ _ _=>cY _ _ _ _)
 have ol:∀{ops:Array Oper} {l:List Oper} {e:Env} {d:List Deferred} {s:ah} {h:ab} {N M:Env->List Deferred->ah->ab->Prop},(∀e d s h,N e d s h->M e d s h)->q8 P main S b ops l e d s h N->q8 P main S b ops l e d s h M:=by
  intro ops l
  induction l with
  | nil=>exact fun cY u=>cY _ _ _ _ u
  | cons o l aN=>
   intro e d s h N M cY u;rw [q8] at u ⊢;split
   ·rename_i hw;rw [if_pos hw] at u;exact o1 (fun _ _ _ _=>aN cY) u
   ·rename_i hw;rw [if_neg hw] at u;exact aN cY u
 have ayR:∀{ops:Array Oper} {l:List Nat} {e:Env} {d:List Deferred} {s:ah} {h:ab} {N M:Env->List Deferred->ah->ab->Prop},(∀e d s h,N e d s h->M e d s h)->gk P main S b ops l e d s h N->gk P main S b ops l e d s h M:=by
  intro ops l
  induction l with
  | nil=>exact fun cY u=>cY _ _ _ _ u
  | cons i l aN=>
   intro e d s h N M cY u;rw [gk] at u ⊢;cases aQ:ops[i]? with
   | none=>rw [aQ] at u;exact aN cY u
   | some o=>
    rw [aQ] at u;simp only at u ⊢;split
    ·rename_i hw;rw [if_pos hw] at u;exact o1 (fun _ _ _ _=>aN cY) u
    ·rename_i hw;rw [if_neg hw] at u;exact aN cY u
 induction c with
 | skip=>exact fun cX u=>cX _ _ _ _ _ u
 | label l=>exact fun cX u=>cX _ _ _ _ _ u
 | seq x y og oh=>
  intro K L e d s h cX u;exact og (fun x e d s h q=>by cases x with|cB=>exact oh cX q|ext i=>exact cX _ _ _ _ _ q|ret=>exact cX _ _ _ _ _ q) u
 | cond c x y og oh=>
  intro K L e d s h cX u;rw [cF] at u ⊢;split at u
  ·rename_i he;rw [he];exact og cX u
  ·rename_i he;rw [he];exact oh cX u
  ·exact u.elim
 | block id c aN=>
  intro K L e d s h cX u;refine aN (fun x e d s h q=> ?_) u;cases x with
  | cB=>exact cX _ _ _ _ _ q
  | ext i=>
   simp only [mj] at q ⊢;split
   ·rename_i hi;rw [if_pos hi] at q;exact cX _ _ _ _ _ q
   ·rename_i hi;rw [if_neg hi] at q;exact cX _ _ _ _ _ q
  | ret=>exact cX _ _ _ _ _ q
 | loop c aN=>
  intro K L e d s h cX u X qP;exact u X fun e d s h q=>qP e d s h (aN (fun x e d s h q=>by cases x with|cB=>exact q|ext i=>exact cX _ _ _ _ _ q|ret=>exact cX _ _ _ _ _ q) q)
 | exit id=>exact fun cX u=>cX _ _ _ _ _ u
 | ret=>exact fun cX u=>cX _ _ _ _ _ u
 | scope c aN=>exact fun cX u=>aN cX u
 | region id ops draw=>
  intro K L e d s h cX u;rw [cF] at u ⊢;split
  ·rename_i hd;rw [if_pos hd] at u;exact fun t=>ayR (cX _) (u t)
  ·rename_i hd;rw [if_neg hd] at u;exact adR (cX _) u
 | rangeFunc f bF gN body _ _=>
  intro K L e d s h cX u a r hd;exact wR (fun x a s h ⟨e,r,q⟩=>⟨e,r,cX _ _ _ _ _ q⟩) (u a r hd)
 | goto l=>exact fun _ u=>u
 | refuse w=>exact fun _ u=>u
theorem eG{c:Code}{K:eZ->Env->List Deferred->ah->ab->Prop}(I:Nat->Env->List Deferred->ah->ab->Prop)
  (step:∀m e d s h,I m e d s h->cF P main S n b c (tG (fun e d s h=>∃dR,dR<m/\I dR e d s h) K) e d s h):
  ∀{m e d s h},I m e d s h->cF P main S n b (.loop c) K e d s h:=by
 intro m
 induction m using Nat.strongRecOn with
 | ind m aN=>
  intro e d s h bU X qP;refine qP e d s h (aeB (fun x e d s h q=> ?_) (step m e d s h bU));cases x with
  | cB=>obtain ⟨dR,hm,hi⟩:=q;exact aN dR hm hi X qP
  | ext i=>exact q
  | ret=>exact q
def dE(args:List Value):Env:=fun t=>args.getD t undef
def er(P:Program)(fn:Func)(Post:ah->ab->Value->Prop)(n:Nat)(e:Env)(d:List Deferred)(s:ah)(h:ab):Prop:=
 kF P d h fun h=>bf P (results fn (Array.ofFn (n:=n) fun i=>e i)) h fun v h'=>Post s h' v
theorem EW{a:Act}{e:Env}(r:iH n a e):a.tmps=Array.ofFn (n:=n) fun i=>e i:=by
 apply Array.ext
 ·simp [r.1]
 ·intro i h1 h2;have:=r.2 i;rw [Array.getD_eq_getD_getElem?,Array.getElem?_eq_getElem h1] at this;simpa using this
theorem cc{f:FuncId}{fn:Func}{c:Code}{args:List Value}{s:ah}{h:ab}{Post:ah->ab->Value->Prop}(aP:P.funcs[f]? =some fn)(hb:fn.body=some c)(ao:fn.ntmps=n)
  (aA:args.length<=n) (cW:ga n c=true)
  (u:cF P main S n ⟨f,.normal,none⟩ c (fun x=>match x with|.ext _=>fun _ _ _ _=>False|_=>er P fn Post n) (dE args) [] s h):
  bI P main S f args.toArray s h Post:=by
 have r:iH n ⟨args.toArray++Array.replicate (n- args.toArray.size) undef,[]⟩ (dE args):=by
  refine ⟨by simp;omega,fun t=> ?_⟩;simp only [dE,Array.getD_eq_getD_getElem?,List.getD_eq_getElem?_getD,Array.getElem?_append,List.size_toArray];by_cases aj:t<args.length
  ·simp [aj]
  ·simp only [aj,if_false];rw [List.getElem?_eq_none (by omega)];simp only [Array.getElem?_replicate];split<;>rfl
 refine aey aP hb ao (wR (fun x a s h ⟨e,r,q⟩=> ?_) (yV cW r u));have al:=EW r;cases x with
 | ext i=>exact q.elim
 | cB=>exact (by simp only [er] at q;unfold AE;rw [al];exact q:AE P fn Post a s h)
 | ret=>exact (by simp only [er] at q;unfold AE;rw [al];exact q:AE P fn Post a s h)
end
def gq(P:Program)(t:TypeId):Option (Option Nat):=
 match P.underlying t with
 | none=>none
 | some (.struct _)|some (.array _ _)=>match P.info? t with|some i=>some (some i.size)|none=>none
 | some _=>some none
def cy(P:Program)(t:TypeId):Option Nat:=(P.info? t).map (·.size)
def zeroOf(P:Program)(t:TypeId):Option Value:=(P.info? t).bind (·.zero)
def ab.iU(h:ab)(A:Addr)(i:Nat):Nat->Option (List Value)
 | 0=>some []
 | n+1=>match h.cell? (A.add i) with
  | some v=>match h.iU A (i+1) n with
   | some vs=>some (v::vs)
   | none=>none
  | none=>none
def ab.Kz(h:ab)(A:Addr):Prop:=h.owns A.block=true/\(h.cell? A).isSome=true/\h.frozen? A=false
def oI(h:ab)(A:Addr):Nat->List Value->(ab->Prop)->Prop
 | _,[],K=>K h
 | i,v::vs,K=>(jG v=true/\h.Kz (A.add i))/\oI (h.setCell (A.add i) v) A (i+1) vs K
section
variable{P:Program}{h:ab}
theorem Ey(A:Addr)(Q:Value->ab->Prop):bf P (load A) h Q=match h.cell? A with|some v=>Q v h|none=>False:=by
 simp only [load,bf,true_and];cases h.cell? A<;>rfl
theorem Ty{α:Type}(t:TypeId)(k:TypeInfo->Sem α)(Q:α->ab->Prop):bf P (typeInfo t >>= k) h Q=match P.info? t with|some i=>bf P (k i) h Q|none=>False:=by
 rw [aV];simp only [typeInfo,aV,mJ];split<;>rename_i hi<;>rw [hi]<;>rfl
theorem df(t:TypeId)(Q:TypeDesc->ab->Prop):bf P (underlying t) h Q=match P.underlying t with|some i=>Q i h|none=>False:=by
 simp only [underlying,aV,mJ];split<;>rename_i hi<;>rw [hi]<;>rfl
theorem gL(t:TypeId)(Q:Nat->ab->Prop):bf P (sizeOf t) h Q=match cy P t with|some n=>Q n h|none=>False:=by
 simp only [sizeOf,cy,Ty];cases P.info? t<;>rfl
theorem iD(t:TypeId)(Q:Value->ab->Prop):bf P (zeroValue t) h Q=match zeroOf P t with|some v=>Q v h|none=>False:=by
 simp only [zeroValue,zeroOf,Ty];cases P.info? t with
 | none=>rfl
 | some i=>simp only [Option.bind_some];cases i.zero<;>rfl
theorem S4(t:TypeId)(Q:Bool->ab->Prop):bf P (isAgg t) h Q=match P.underlying t with|some (.struct _)|some (.array _ _)=>Q true h|some _=>Q false h|none=>False:=by
 simp only [isAgg,aV,df];cases P.underlying t with
 | none=>rfl
 | some d=>cases d<;>rfl
theorem Su(A:Addr)(Q:Array Value->ab->Prop):∀(n i:Nat) (acc:Array Value),bf P (loadCellsFrom A i n acc) h Q=match h.iU A i n with|some vs=>Q (acc++vs.toArray) h|none=>False:=by
 intro n
 induction n with
 | zero=>intro i acc;simp [loadCellsFrom,ab.iU,bh]
 | succ n aN=>
  intro i acc;simp only [loadCellsFrom,aV,Ey,ab.iU];cases h.cell? (A.add i) with
  | none=>rfl
  | some v=>
   simp only [aN];cases h.iU A (i+1) n with
   | none=>rfl
   | some vs=>simp
theorem Bp(A:Addr)(Q:Unit->ab->Prop):∀(vs:List Value) (i:Nat) (h:ab),bf P (storeCells A vs i) h Q=oI h A i vs (Q ()):=by
 intro vs
 induction vs with
 | nil=>intro i h;rfl
 | cons v vs aN=>
  intro i h;simp only [storeCells,aV,store,bf,true_and,oI,ab.Kz,aN,and_assoc]
def tA(h:ab)(A:Addr):Option (Option Nat)->(Value->Prop)->Prop
 | some none,K=>match h.cell? A with|some v=>K v|none=>False
 | some (some n),K=>match h.iU A 0 n with|some vs=>K (.agg vs.toArray)|none=>False
 | none,_=>False
theorem wN(t:TypeId)(A:Addr)(Q:Value->ab->Prop):bf P (loadVar t A) h Q=tA h A (gq P t) fun v=>Q v h:=by
 simp only [loadVar,aV,S4,gq];cases P.underlying t with
 | none=>rfl
 | some d=>
  cases d<;>simp only [tA,Bool.false_eq_true,if_false,if_true,aV,gL,cy,loadCells,Ey,bh]<;>cases P.info? t<;>simp [Su]
theorem ac2(t:TypeId)(A:Addr)(v:Value)(Q:Unit->ab->Prop):bf P (storeVar t A v) h Q=(some v.cells.size=cy P t/\oI h A 0 v.cells.toList (Q ())):=by
 simp only [storeVar,aV,gL];cases cy P t with
 | none=>simp
 | some n=>
  simp only [Option.some.injEq];by_cases ao:v.cells.size=n
  ·simp [ao,Bp]
  ·simp [ao,stuck];exact fun x=>x
end
section
variable{P:Program}{main:Bool}{ah:Type}{S:Sys ah}{b:bn}{e:Env}{d:List Deferred}{s:ah}{h:ab}{N:Env->List Deferred->ah->ab->Prop}
variable{dst:Option Tmp}
theorem ag6(A B:Prop):@xT true ⟨A⟩ ⟨B⟩=A:=rfl
theorem aeC(A B:Prop):@xT false ⟨A⟩ ⟨B⟩=B:=rfl
def O5(v:Value)[A:Jm][B:Jm]:Prop:=match v with|.bool true=>A.f|.bool false=>B.f|_=>False
theorem adS(t:Bool)(a b:Value)[K:KK Value]:au P (xe (.bool t) a b) h=K.f (if t then a else b) h:=rfl
theorem ag7{A:Addr}[K:KK Next]:au P (xz (.pointer (some A))) h=K.f (.value (.pointer (some A))) h:=rfl
theorem Bs{f:FuncId}{x y args:Array Value}[K:KK Next](ck:bP P f=true):
  au P (sm (.func (.func f) x y) args) h=K.f (.enter f (x++args++y)) h:=by
 unfold bP at ck;split at ck
 ·rename_i fn aP;simp only [Bool.and_eq_true,Bool.not_eq_true',beq_eq_false_iff_ne] at ck;have h2:¬fn.body=none:=by have:=ck.2;cases aa:fn.body<;>simp_all
  simp only [au,sm,Deferred.ofValue,aV,bh,invoke,callFunc,mJ,aP];simp [ck.1,h2,bh]
 ·cases ck
theorem adT{v:Value}[N:DZ ah]:ri P main S dst e d s (.value v) h=N.f (cv e dst v) d s h:=rfl
theorem adU{f:FuncId}{args:Array Value}[N:DZ ah]:ri P main S dst e d s (.enter f args) h=bI P main S f args s h fun ai h' v=>N.f (cv e dst v) d ai h':=rfl
theorem eX.fn{f:FuncId}{args:Array Value}[K:hE ah](ck:bP P f=true)(u:bI P main S f args s h K.f):eX P main S f args s h:=.inl ⟨ck,u⟩
theorem eX.native{f:FuncId}{args:Array Value}[K:hE ah]{fn:Func}{x:Array Value->Sem Value}(aP:P.funcs[f]? =some fn)(h1:(fn.name== "runtime.NumGoroutine")=false)(h2:fn.body.isNone=true)(h3:Extern.findNext fn=none)
  (h4:Extern.find fn=some x) (u:@au P _ (x args) h ⟨fun v h=>K.f s h v⟩):eX P main S f args s h:=.inr (.inl ⟨fn,x,aP,h1,h2,h3,h4,u⟩)
theorem apH{α:Type}(f:α->ab->Prop):(KK.mk f).f=f:=rfl
theorem apI(f:ah->ab->Value->Prop):(hE.mk f).f=f:=rfl
theorem apJ(f:Env->List Deferred->ah->ab->Prop):(DZ.mk f).f=f:=rfl
def YN(op:BinOp)(k:IntKind)(a b:Int):Option Value:=
 match op with
 | .add=>some (.int k (k.wrap (a+b)))
 | .sub=>some (.int k (k.wrap (a- b)))
 | .mul=>some (.int k (k.wrap (a*b)))
 | .eql=>some (.bool (a==b))
 | .neq=>some (.bool (a != b))
 | .lss=>some (.bool (a<b))
 | .leq=>some (.bool (a<=b))
 | .gtr=>some (.bool (a>b))
 | .geq=>some (.bool (a>=b))
 | _=>none
theorem tm{op:BinOp}{t:TypeId}{x y:Operand}{k:IntKind}{a c:Int}{v:Value}(aI:YN op k a c=some v)(K:Value->ab->Prop):
  bf P (do eqGuard op t x y (.int k a) (.int k c);binOp op t (.int k a) (.int k c)) h K=K v h:=by
 cases op<;>simp only [YN,Option.some.injEq,reduceCtorEq] at aI<;>subst aI<;>simp [eqGuard,binOp,bh,Op.intArith,Op.intCmp]
section
variable{xt:TypeId}{x y:Operand}{k:IntKind}{a c:Int}[K:KK Value]
theorem tt:au P (cr .add xt x y (.int k a) (.int k c)) h=K.f (.int k (k.wrap (a+c))) h:=tm rfl K.f
theorem wZ:au P (cr .sub xt x y (.int k a) (.int k c)) h=K.f (.int k (k.wrap (a- c))) h:=tm rfl K.f
theorem aj3:au P (cr .mul xt x y (.int k a) (.int k c)) h=K.f (.int k (k.wrap (a*c))) h:=tm rfl K.f
theorem aj4:au P (cr .eql xt x y (.int k a) (.int k c)) h=K.f (.bool (a==c)) h:=tm rfl K.f
theorem aj5:au P (cr .neq xt x y (.int k a) (.int k c)) h=K.f (.bool (a != c)) h:=tm rfl K.f
theorem aj6:au P (cr .lss xt x y (.int k a) (.int k c)) h=K.f (.bool (decide (a<c))) h:=tm rfl K.f
theorem aj7:au P (cr .leq xt x y (.int k a) (.int k c)) h=K.f (.bool (decide (a<=c))) h:=tm rfl K.f
theorem aj8:au P (cr .gtr xt x y (.int k a) (.int k c)) h=K.f (.bool (decide (a>c))) h:=tm rfl K.f
theorem aj9:au P (cr .geq xt x y (.int k a) (.int k c)) h=K.f (.bool (decide (a>=c))) h:=tm rfl K.f
end
theorem aZ(e:Env)(d t:Nat)(v:Value):upd e d v t=if t=d then v else e t:=by
 unfold upd;by_cases aj:t=d
 ·subst aj;have:Nat.beq t t=true:=by simp
  rw [this,cond_true,if_pos rfl]
 ·have:Nat.beq t d=false:=by cases hb:Nat.beq t d with|false=>rfl|true=>exact absurd (Nat.eq_of_beq_eq_true hb) aj
  rw [this,cond_false,if_neg aj]
theorem gF(e:Env)(t:Nat):aS e (.tmp t)=e t:=rfl
theorem ag8(e:Env)(v:Value):aS e (.const v)=v:=rfl
theorem aeD(e:Env)(g:Nat):aS e (.global g)=.pointer (some ⟨g,0,none⟩):=rfl
theorem aka(e:Env)(f:Nat):aS e (.func f)=.func (.func f) #[] #[]:=rfl
theorem cM(e:Env)(d:Nat)(v:Value):cv e (some d) v=upd e d v:=rfl
theorem aeE(e:Env)(v:Value):cv e none v=e:=rfl
theorem p6(v:Value)(l:List Value):dE (v::l) 0=v:=rfl
theorem p7(v:Value)(l:List Value)(t:Nat):dE (v::l) (t+1)=dE l t:=by simp [dE]
theorem ag9{β:Sort 1}(k:IntKind)(i:Int)(f:Value->β):@bE _ _ (.int k i) ⟨f⟩=f (.int k i):=rfl
theorem aeF{β:Sort 1}(t:Bool)(f:Value->β):@bE _ _ (.bool t) ⟨f⟩=f (.bool t):=rfl
theorem aha{β:Sort 1}(a:Option Addr)(f:Value->β):@bE _ _ (.pointer a) ⟨f⟩=f (.pointer a):=rfl
theorem adV{β:Sort 1}(a:Option Addr)(n c:Nat)(f:Value->β):@bE _ _ (.slice a n c) ⟨f⟩=f (.slice a n c):=rfl
theorem ads{β:Sort 1}(x:ByteArray)(f:Value->β):@bE _ _ (.string x) ⟨f⟩=f (.string x):=rfl
theorem ahb{β:Sort 1}(x:Array Value)(f:Value->β):@bE _ _ (.agg x) ⟨f⟩=f (.agg x):=rfl
theorem adW{β:Sort 1}(x:Array Value)(f:Value->β):@bE _ _ (.tuple x) ⟨f⟩=f (.tuple x):=rfl
theorem aeG{β:Sort 1}(fn:Fn)(x y:Array Value)(f:Value->β):@bE _ _ (.func fn x y) ⟨f⟩=f (.func fn x y):=rfl
theorem ahc{β:Sort 1}(r:Option Nat)(f:Value->β):@bE _ _ (.map r) ⟨f⟩=f (.map r):=rfl
theorem adX{β:Sort 1}(t:TypeId)(v:Value)(f:Value->β):@bE _ _ (.iface t v) ⟨f⟩=f (.iface t v):=rfl
theorem ac3{β:Sort 1}(f:Value->β):@bE _ _ (.nilIface) ⟨f⟩=f (.nilIface):=rfl
theorem adf{β:Sort 1}(f:Value->β):@bE _ _ (.nilFunc) ⟨f⟩=f (.nilFunc):=rfl
theorem am1{β:Sort 1}(t:Bool)(f:Bool->β):@bE _ _ t ⟨f⟩=f t:=rfl
theorem aeH{β:Sort 1}(f:Bool->β):@bE _ _ (true) ⟨f⟩=f (true):=rfl
theorem adY{β:Sort 1}(f:Bool->β):@bE _ _ (false) ⟨f⟩=f (false):=rfl
section
variable{n:Nat}{K:eZ->Env->List Deferred->ah->ab->Prop}{c b2 x y:Code}{l:List Oper}{i:Nat}
theorem am2:cF P main S n b .skip K e d s h=K .cB e d s h:=rfl
theorem akb:cF P main S n b (.label i) K e d s h=K .cB e d s h:=rfl
theorem am3:cF P main S n b (.exit i) K e d s h=K (.ext i) e d s h:=rfl
theorem apK:cF P main S n b .ret K e d s h=K .ret e d s h:=rfl
end
end
end
end Go.Nk
