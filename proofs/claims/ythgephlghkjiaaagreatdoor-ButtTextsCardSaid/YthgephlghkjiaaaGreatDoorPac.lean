/- Part Pac of the proof of ButtTexts: lemmas. -/
import Derived.Test.YthgephlghkjiaaaGreatDoorPab
set_option maxRecDepth 100000
set_option maxHeartbeats 4000000
set_option linter.all false
namespace Go.Nk
noncomputable section
open Go Go.Conc Go.Proofs
open _root_.Array renaming getD_eq_getD_getElem?->auZ,getElem?_eq_getElem->aul,ofFn->avq
open Bool renaming true->J,false->q9,and_eq_true->vh,not_eq_true'->avp
open Go renaming Value->o5,Operand->su,Oper->sa,undef->vk,Code->rj,Program->tb,Deferred->tc,Next->T7,execOp->T0,TypeId->ta,eqGuard->W2,invoke->atT,FuncId->vb,callFunc->av6,IntKind->E1,Addr->vm,loadCellsFrom->azA
open Go.Deferred renaming ofValue->avn
open Go.Region renaming wanted->R9
open Nat renaming beq->td,eq_of_beq_eq_true->atP
open Option renaming some->C,none->o0,bind_some->ayE
abbrev Env:=Nat->o5
def upd(e:Env)(d:Nat)(v:o5):Env:=λt=>cond (td t d) v (e t)
def aA(e:Env):su->o5
 | .tmp t=>e t
 | .const v=>v
 | .global g=>.pointer (C ⟨g,0,o0⟩)
 | .func f=>.func (.func f) #[] #[]
def b7(e:Env):Option Tmp->o5->Env
 |some d,v=>upd e d v
 |none,_=>e
def jV(ops:Array sa)(e:Env)(j:Nat):Option Bool:=match(ops[j]?).bind (·.dst)with
 |some t=>match e t with|.bool b=>C b|_=>o0
 |none=>o0
def iR(n:Nat)(a:Act)(e:Env):Prop:=a.tmps.size=n/\∀t,a.tmps.getD t vk=e t
class xu(α:Type)(β:Sort 1) where
 f:α->β
def bA{α:Type}{β:Sort 1}(v:α)[k:xu α β]:β:=k.f v
def GJ(n:Nat)(ops:Array sa):Bool:=ops.all λo=>match o.dst with|some d=>d<n|none=>J
def fN(n:Nat):rj->Bool
 | .region _ ops _=>GJ n ops
 | .seq x y=>fN n x&&fN n y
 | .cond _ x y=>fN n x&&fN n y
 | .block _ c=>fN n c
 | .loop c=>fN n c
 | .scope c=>fN n c
 |_=>J
def sF{a:Sort _}(X:a)(K:eM->a):eM->a
 | .cx=>X
 | .ext i=>K (.ext i)
 | .ret=>K .ret
def lV{a:Sort _}(id:Nat)(K:eM->a):eM->a
 | .cx=>K .cx
 | .ext i=>if i=id then K .cx else K (.ext i)
 | .ret=>K .ret
section
variable(P:tb)(main:Bool){ai:Type}(S:Sys ai)(n:Nat)
def tV(o:sa)(e:Env)(d:List tc)(s:ai)(N:Env->List tc->ai->ae->Prop):T7->ae->Prop
 | .value v,h=>N (b7 e o.dst v) d s h
 | .skip,h=>N (b7 e o.dst vk) d s h
 | .defer x,h=>N (b7 e o.dst vk) (x::d) s h
 | .enter f args,h=>bo P main S f args s h λa h' v=>N (b7 e o.dst v) d a h'
 | .round l f tmps b c,h=>ki P main S l f tmps b c s h λa h' v=>N (b7 e o.dst v) d a h'
 |_,_=>False
def mW(b:aS)(o:sa)(e:Env)(d:List tc)(s:ai)(h:ae)(N:Env->List tc->ai->ae->Prop):Prop:=(kS b o=q9/\aH P (T0 (aA e) o) h (tV P main S o e d s N))\/lv P main S b o (aA e) s h (λs h v=>N (b7 e o.dst v) d s h)
def fO(b:aS)(ops:Array sa):List Nat->Env->List tc->ai->ae->(Env->List tc->ai->ae->Prop)->Prop
 | [],e,d,s,h,N=>N e d s h
 |i::rest,e,d,s,h,N=>match ops[i]? with
  |none=>fO b ops rest e d s h N
  |some o=>if R9 o (jV ops e)then mW P main S b o e d s h λe d s h=>fO b ops rest e d s h N else fO b ops rest (b7 e o.dst vk) d s h N
def qy(b:aS)(ops:Array sa):List sa->Env->List tc->ai->ae->(Env->List tc->ai->ae->Prop)->Prop
 | [],e,d,s,h,N=>N e d s h
 |o::rest,e,d,s,h,N=>if R9 o (jV ops e)then mW P main S b o e d s h λe d s h=>qy b ops rest e d s h N else qy b ops rest (b7 e o.dst vk) d s h N
end
class KK(α:Type) where
 f:α->ae->Prop
class hA(ai:Type) where
 f:ai->ae->o5->Prop
class zD(ai:Type) where
 f:Env->List tc->ai->ae->Prop
def al(P:tb){α:Type}(m:Sem α)(h:ae)[K:KK α]:Prop:=aH P m h K.f
def vt(c a b:o5):Sem o5:=do pure (if <- asBool c then a else b)
def bN(op:BinOp)(t:ta)(x y:su)(a b:o5):Sem o5:=do W2 op t x y a b;binOp op t a b
def vu(v:o5):Sem T7:=T0 (λ_=>v) ⟨o0,.nilCheck (.tmp 0),0, "",#[],o0⟩
def rD(v:o5)(args:Array o5):Sem T7:=do
 let d <- avn v args
 atT d.target d.args
class BP where
 f:Prop
def vv(t:Bool)[A:BP][B:BP]:Prop:=if t=J then A.f else B.f
def zE(v:o5)(w:Bool):Bool:=(match v with|.bool b=>C b|_=>o0)==C w
def bz(P:tb)(f:vb):Bool:=match P.funcs[f]? with|some fn=> !(fn.name== "runtime.NumGoroutine")&&fn.body.isSome|none=>q9
section
variable(P:tb)(main:Bool){ai:Type}(S:Sys ai)
def qz(dst:Option Tmp)(e:Env)(d:List tc)(s:ai)[N:zD ai]:T7->ae->Prop
 | .value v,h=>N.f (b7 e dst v) d s h
 | .skip,h=>N.f (b7 e dst vk) d s h
 | .defer x,h=>N.f (b7 e dst vk) (x::d) s h
 | .enter f args,h=>bo P main S f args s h λa h' v=>N.f (b7 e dst v) d a h'
 | .round l f tmps b c,h=>ki P main S l f tmps b c s h λa h' v=>N.f (b7 e dst v) d a h'
 |_,_=>False
def ej(f:vb)(args:Array o5)(s:ai)(h:ae)[K:hA ai]:Prop:=(bz P f=J/\bo P main S f args s h K.f)\/
 (∃fn x,P.funcs[f]? =C fn/\(fn.name== "runtime.NumGoroutine")=q9/\fn.body.isNone=J/\Extern.findNext fn=o0/\Extern.find fn=C x/\@al P _ (x args) h ⟨λv h=>K.f s h v⟩)\/
 (∀b o aA b1 gH,o.op=.call ⟨.value (.func f),b1,gH⟩->b1.map aA=args->lv P main S b o aA s h K.f)
def eX(b:aS)(t:ta)(v:o5)(s:ai)(h:ae)[K:hA ai]:Prop:=match v with
 | .pointer (C a)=>if(h a.block).isSome then @al P _ (Instr.loadAt t v) h ⟨λv h=>K.f s h v⟩else ∀o aA x,o.op=.load t x->aA x=v->lv P main S b o aA s h K.f
 |_=>@al P _ (Instr.loadAt t v) h ⟨λv h=>K.f s h v⟩
def iw(b:aS)(st c:ta)(v:o5)(s:ai)(h:ae)[K:hA ai]:Prop:=match v with
 | .pointer (C a)=>if(h a.block).isSome then @al P _ (convert st c v) h ⟨λv h=>K.f s h v⟩else ∀o aA x,o.op=.convert st c x->aA x=v->lv P main S b o aA s h K.f
 |_=>@al P _ (convert st c v) h ⟨λv h=>K.f s h v⟩
def zF(t:ta):Bool:=td t 203||td t 210
def nv(b:aS)(t:ta)(s:ai)(h:ae)[K:hA ai]:Prop:=match zF t with
 |true=>∀o aA,o.op=.alloc t->lv P main S b o aA s h K.f
 |false=>@al P _ (Instr.alloc t J (.tuple #[])) h ⟨λv h=>K.f s h v⟩
def tX(b:aS)(v:o5)(args:Array o5)(s:ai)(h:ae)[K:hA ai]:Prop:=∀o aA x b1 gH,o.op=.go ⟨.value x,b1,gH⟩->aA x=v->b1.map aA=args->lv P main S b o aA s h K.f
def sG(b:aS)(f:vb)(args:Array o5)(o:sa)(e:Env)(d:List tc)(s:ai)(h:ae)(N:Env->List tc->ai->ae->Prop):Prop:=match b.ro with
 |none=>N (b7 e o.dst vk) ({target:=.fn (.func f) #[],args:=args}::d) s h
 |some _=>mW P main S b o e d s h N
def bP(b:aS)(o:sa)(e:Env)(d:List tc)(s:ai)(h:ae)(N:Env->List tc->ai->ae->Prop):Prop:=match o.op with
 | .move x=>@bA _ _ (aA e x) ⟨λv=>N (b7 e o.dst v) d s h⟩
 | .assign x=>@bA _ _ (aA e x) ⟨λv=>N (b7 e o.dst v) d s h⟩
 | .pick c x y=>@bA _ _ (aA e c) ⟨λj=>@bA _ _ (aA e x) ⟨λa=>@bA _ _ (aA e y) ⟨λg=>@al P _ (vt j a g) h ⟨λv h=>N (b7 e o.dst v) d s h⟩⟩⟩⟩
 | .alloc t=>@nv P main _ S b t s h ⟨λs h v=>N (b7 e o.dst v) d s h⟩
 | .box t x=>@bA _ _ (aA e x) ⟨λa=>@al P _ (Instr.box t a) h ⟨λv h=>N (b7 e o.dst v) d s h⟩⟩
 | .build t bc=>@al P _ (Instr.build t ((bc.toList.map λp=>(p.1,aA e p.2)).toArray)) h ⟨λv h=>N (b7 e o.dst v) d s h⟩
 | .buildSlice t n bc=>@al P _ (Instr.buildSlice t n ((bc.toList.map λp=>(p.1,aA e p.2)).toArray)) h ⟨λv h=>N (b7 e o.dst v) d s h⟩
 | .load t x=>@bA _ _ (aA e x) ⟨λa=>@eX P main _ S b t a s h ⟨λs h v=>N (b7 e o.dst v) d s h⟩⟩
 | .store t x y=>@bA _ _ (aA e x) ⟨λa=>@bA _ _ (aA e y) ⟨λg=>@al P _ (Instr.storeAt t a g) h ⟨λ_ h=>N (b7 e o.dst vk) d s h⟩⟩⟩
 | .nilCheck x=>@bA _ _ (aA e x) ⟨λa=>@al P _ (vu a) h ⟨λan h=>@qz P main _ S o.dst e d s ⟨N⟩ an h⟩⟩
 | .binOp op xt x y _=>@bA _ _ (aA e x) ⟨λa=>@bA _ _ (aA e y) ⟨λg=>@al P _ (bN op xt x y a g) h ⟨λv h=>N (b7 e o.dst v) d s h⟩⟩⟩
 | .unOp op _ x=>@bA _ _ (aA e x) ⟨λa=>@al P _ (Op.unary op a) h ⟨λv h=>N (b7 e o.dst v) d s h⟩⟩
 | .convert z l x=>@bA _ _ (aA e x) ⟨λa=>@iw P main _ S b z l a s h ⟨λs h v=>N (b7 e o.dst v) d s h⟩⟩
 | .makeInterface t x=>@bA _ _ (aA e x) ⟨λa=>@al P _ (Instr.makeInterface t a) h ⟨λv h=>N (b7 e o.dst v) d s h⟩⟩
 | .makeFunc f xs kG=>N (b7 e o.dst (.func f ((xs.toList.map (aA e)).toArray) ((kG.toList.map (aA e)).toArray))) d s h
 | .makeMap t r=>@al P _ (Instr.makeMap t (r.map (aA e))) h ⟨λv h=>N (b7 e o.dst v) d s h⟩
 | .makeSlice t x y=>@bA _ _ (aA e x) ⟨λa=>@bA _ _ (aA e y) ⟨λg=>@al P _ (Instr.makeSlice t a g) h ⟨λv h=>N (b7 e o.dst v) d s h⟩⟩⟩
 | .slice t x lo hi aZ=>@bA _ _ (aA e x) ⟨λa=>@al P _ (Instr.sliceAt t a (lo.map (aA e)) (hi.map (aA e)) (aZ.map (aA e))) h ⟨λv h=>N (b7 e o.dst v) d s h⟩⟩
 | .fieldAddr t x f=>@bA _ _ (aA e x) ⟨λa=>@al P _ (Instr.fieldAt t a f) h ⟨λv h=>N (b7 e o.dst v) d s h⟩⟩
 | .field t x f=>@bA _ _ (aA e x) ⟨λa=>@al P _ (Instr.field t a f) h ⟨λv h=>N (b7 e o.dst v) d s h⟩⟩
 | .indexAddr t x y=>@bA _ _ (aA e x) ⟨λa=>@bA _ _ (aA e y) ⟨λg=>@al P _ (Instr.indexAt t a g) h ⟨λv h=>N (b7 e o.dst v) d s h⟩⟩⟩
 | .index t x y=>@bA _ _ (aA e x) ⟨λa=>@bA _ _ (aA e y) ⟨λg=>@al P _ (Instr.index t a g) h ⟨λv h=>N (b7 e o.dst v) d s h⟩⟩⟩
 | .lookup t x y k=>@bA _ _ (aA e x) ⟨λa=>@bA _ _ (aA e y) ⟨λg=>@al P _ (Instr.lookup t a g k) h ⟨λv h=>N (b7 e o.dst v) d s h⟩⟩⟩
 | .mapUpdate t m k x=>@bA _ _ (aA e m) ⟨λq=>@bA _ _ (aA e k) ⟨λw=>@bA _ _ (aA e x) ⟨λa=>@al P _ (Instr.mapUpdate t q w a) h ⟨λ_ h=>N (b7 e o.dst vk) d s h⟩⟩⟩⟩
 | .range t x=>@bA _ _ (aA e x) ⟨λa=>@al P _ (Instr.range t a) h ⟨λv h=>N (b7 e o.dst v) d s h⟩⟩
 | .next x k=>@bA _ _ (aA e x) ⟨λa=>@al P _ (Instr.next a k o.type) h ⟨λv h=>N (b7 e o.dst v) d s h⟩⟩
 | .typeAssert x t u k=>@bA _ _ (aA e x) ⟨λa=>@al P _ (Instr.typeAssert a t u k) h ⟨λv h=>N (b7 e o.dst v) d s h⟩⟩
 | .extract x i=>@bA _ _ (aA e x) ⟨λa=>@al P _ (Instr.extract a i) h ⟨λv h=>N (b7 e o.dst v) d s h⟩⟩
 | .call ⟨.value (.func f),b1,_⟩=>@ej P main _ S f ((b1.toList.map (aA e)).toArray) s h ⟨λs h v=>N (b7 e o.dst v) d s h⟩
 | .call ⟨.value x,b1,_⟩=>@bA _ _ (aA e x) ⟨λv=>@al P _ (rD v ((b1.toList.map (aA e)).toArray)) h ⟨λan h=>@qz P main _ S o.dst e d s ⟨N⟩ an h⟩⟩
 | .call ⟨.builtin .len,b1,dD⟩=>@al P _ (Builtin.len_ dD o.type ((b1.toList.map (aA e)).toArray)) h ⟨λv h=>N (b7 e o.dst v) d s h⟩
 | .call ⟨.builtin .append,b1,dD⟩=>@al P _ (Builtin.append_ dD o.type ((b1.toList.map (aA e)).toArray)) h ⟨λv h=>N (b7 e o.dst v) d s h⟩
 | .call ⟨.builtin .copy,b1,dD⟩=>@al P _ (Builtin.copy_ dD o.type ((b1.toList.map (aA e)).toArray)) h ⟨λv h=>N (b7 e o.dst v) d s h⟩
 | .call ⟨.builtin .max,b1,dD⟩=>@al P _ (Builtin.max_ dD o.type ((b1.toList.map (aA e)).toArray)) h ⟨λv h=>N (b7 e o.dst v) d s h⟩
 | .call ⟨.builtin .min,b1,dD⟩=>@al P _ (Builtin.min_ dD o.type ((b1.toList.map (aA e)).toArray)) h ⟨λv h=>N (b7 e o.dst v) d s h⟩
 | .call ⟨.builtin .clear,b1,dD⟩=>@al P _ (Builtin.clear_ dD o.type ((b1.toList.map (aA e)).toArray)) h ⟨λv h=>N (b7 e o.dst v) d s h⟩
 | .call ⟨.builtin .unsafeString,b1,dD⟩=>@al P _ (Builtin.unsafeString_ dD o.type ((b1.toList.map (aA e)).toArray)) h ⟨λv h=>N (b7 e o.dst v) d s h⟩
 | .call ⟨.builtin .unsafeSliceData,b1,dD⟩=>@al P _ (Builtin.unsafeSliceData_ dD o.type ((b1.toList.map (aA e)).toArray)) h ⟨λv h=>N (b7 e o.dst v) d s h⟩
 | .go ⟨.value x,b1,_⟩=>@bA _ _ (aA e x) ⟨λa=>@tX P main _ S b a ((b1.toList.map (aA e)).toArray) s h ⟨λs h v=>N (b7 e o.dst v) d s h⟩⟩
 | .defer ⟨.value (.func f),b1,_⟩=>sG P main S b f ((b1.toList.map (aA e)).toArray) o e d s h N
 |_=>mW P main S b o e d s h N
def jd(b:aS)(ops:Array sa):List sa->Env->List tc->ai->ae->(Env->List tc->ai->ae->Prop)->Prop
 | [],e,d,s,h,N=>N e d s h
 |o::rest,e,d,s,h,N=>match o.guard with
  |none=>bP P main S b o e d s h λe d s h=>jd b ops rest e d s h N
  |some (j,w)=>@bA _ _ (jV ops e j==C w) ⟨λy=>@vv y ⟨bP P main S b o e d s h λe d s h=>jd b ops rest e d s h N⟩ ⟨jd b ops rest (b7 e o.dst vk) d s h N⟩⟩
end
section
variable(P:tb)(main:Bool){ai:Type}(S:Sys ai)(n:Nat)
def cB(b:aS):rj->(eM->Env->List tc->ai->ae->Prop)->Env->List tc->ai->ae->Prop
 | .skip,K=>K .cx
 | .label _,K=>K .cx
 | .seq x y,K=>cB b x (sF (cB b y K) K)
 | .cond c x y,K=>λe d s h=>match aA e c with|.bool J=>cB b x K e d s h|.bool q9=>cB b y K e d s h|_=>False
 | .block id c,K=>cB b c (lV id K)
 | .loop c,K=>λe d s h=>∀X:Env->List tc->ai->ae->Prop,(∀e d s h,cB b c (sF X K) e d s h->X e d s h)->X e d s h
 | .exit id,K=>K (.ext id)
 | .ret,K=>K .ret
 | .scope c,K=>cB b c K
 | .region _ ops i,K=>λe d s h=>if i then ∀t,fO P main S b ops (Region.schedule (P.follows .mixedOrders) ops t) e d s h (K .cx)else jd P main S b ops ops.toList e d s h (K .cx)
 | .rangeFunc f bc g j,K=>λe d s h=>∀a,iR n a e->a.defers=d->jo P main S b (.rangeFunc f bc g j) (λk a s h=>∃e,iR n a e/\K k e a.defers s h) a s h
 |_,_=>λ_ _ _ _=>False
end
section
variable{P:tb}{main:Bool}{ai:Type}{S:Sys ai}{n:Nat}{b:aS}
def zG{a:Act}{e:Env}(r:iR n a e):a.eval=aA e:=by
 funext x;cases x with
 |tmp t=>exact r.2 t
 |_=>rfl
def rE{a:Act}{e:Env}(r:iR n a e){dst:Option Tmp}(hd:(match dst with|some d=>decide (d<n)|none=>J)=J)(v:o5):iR n (a.put dst v) (b7 e dst v):=by
 cases dst with
 |none=>exact r
 |some d=>
  have c:d<n:=by simpa using hd
  refine⟨by simp[Act.put,r.1],λt=> ?_⟩;simp only[Act.put,b7,upd];by_cases b:t=d
  .subst b;have:td t t=J:=Y
   rw[this];simp[Array.getD,r.1,c]
  .have:td t d=q9:=by cases hb:td t d with|false=>rfl|true=>exact absurd (atP hb) b
   rw[this,cond_false,<- r.2 t];simp only[auZ];rw[Array.getElem?_setIfInBounds_ne (Ne.symm b)]
def YC{a:Act}{e:Env}(r:iR n a e)(ds:List tc):iR n {a with defers:=ds} e:=r
def vw(a:Act)(dst:Option Tmp)(v:o5):(a.put dst v).defers=a.defers:=by cases dst<;>rfl
def YD{a:Act}{e:Env}(r:iR n a e)(ops:Array sa):yielded ops a.tmps=jV ops e:=by
 funext j;unfold yielded jV;cases hd:(ops[j]?).bind (·.dst)with
 |none=>rfl
 |some t=>
  have h:=r.2 t;simp only[ayE];rw[auZ]at h;cases b:a.tmps[t]? with
  |none=>rw[b]at h;simp at h;rw[<- h];rfl
  |some v=>rw[b]at h;simp at h;rw[h];cases e t<;>rfl
def YE{o:sa}{a:Act}{e:Env}{s:ai}{h:ae}{N:Env->List tc->ai->ae->Prop}(r:iR n a e)(hd:(match o.dst with|some d=>decide (d<n)|none=>J)=J)
  (u:mW P main S b o e a.defers s h N):BK P main S b o a s h λa s h=>∃e,iR n a e/\N e a.defers s h:=by
 rcases u with u|u
 case inr=>refine .inr ?_;rw[zG r];exact u.mono λs h v q=>⟨_,rE r hd v,by rw[vw];exact q⟩
 refine .inl ⟨u.1,?_⟩;rw[zG r];refine lq P _ (λan h' q=> ?_) u.2;cases an with
 |value v=>exact⟨_,rE r hd v,by rw[vw];exact q⟩
 |skip=>exact⟨_,rE r hd vk,by rw[vw];exact q⟩
 |defer x=>exact⟨_,rE (YC r (x::a.defers)) hd vk,by rw[vw];exact q⟩
 |enter f args=>exact bo.mono (λc h' v q=>⟨_,rE r hd v,by rw[vw];exact q⟩) q
 |round l f tmps g i=>exact ki.mono (λc h' v q=>⟨_,rE r hd v,by rw[vw];exact q⟩) q
 |_=>exact q.elim
def Ok{ops:Array sa}(a:GJ n ops=J){i:Nat}{o:sa}(b:ops[i]? =C o):(match o.dst with|some d=>decide (d<n)|none=>J)=J:=by obtain⟨hi,rfl⟩:=Array.getElem?_eq_some_iff.1 b;have:=Array.all_eq_true.1 a i hi;exact this
def Ol{ops:Array sa}(g:GJ n ops=J):∀{l:List Nat} {a:Act} {e:Env} {s:ai} {h:ae} {N:Env->List tc->ai->ae->Prop},iR n a e->fO P main S b ops l e a.defers s h N->pq P main S b ops l a s h λa s h=>∃e,iR n a e/\N e a.defers s h:=by
 intro l
 induction l with
 |nil=>exactλr u=>⟨_,r,u⟩
 |cons i l d=>
  intro a e s h N r u;rw[fO]at u;rw[pq];cases c:ops[i]? with
  |none=>rw[c]at u;exact d r u
  |some o=>
   rw[c]at u;simp only at u ⊢;rw[YD r ops];split
   .rename_i f;rw[if_pos f]at u;exact Oc (λa s h ⟨e,r,q⟩=>d r q) (YE r (Ok g c) u)
   .rename_i f;rw[if_neg f]at u;exact d (rE r (Ok g c) vk) (by rw[vw];exact u)
def YF{ops:Array sa}{N:Env->List tc->ai->ae->Prop}:∀(m i:Nat),i+m=ops.size->∀(e:Env) (d:List tc) (s:ai) (h:ae),qy P main S b ops (ops.toList.drop i) e d s h N->fO P main S b ops (List.range' i m) e d s h N:=by
 have f:∀(m i:Nat),i+m=ops.size->∀(e:Env) (d:List tc) (s:ai) (h:ae) (N:Env->List tc->ai->ae->Prop),qy P main S b ops (ops.toList.drop i) e d s h N=fO P main S b ops (List.range' i m) e d s h N:=by
  intro m
  induction m with
  |zero=>intro i hi e d s h N;rw[List.drop_of_length_le atB];rfl
  |succ m a=>
   intro i hi e d s h N;have c:i<ops.size:=U
   rw[List.drop_eq_getElem_cons (by simpa using c),List.range'_succ,fO,qy];rw[aul c];simp only[Array.getElem_toList];have:∀N,(λe d s h=>qy P main S b ops (ops.toList.drop (i+1)) e d s h N)=λe d s h=>fO P main S b ops (List.range' (i+1) m) e d s h N:=λN=>by funext e d s h;exact a (i+1) U e d s h N
   rw[this,a (i+1) U]
 intro m i hi e d s h u;rw[<- f m i hi];exact u
def xv{h:ae}{m:Sem o5}{K:T7->ae->Prop}:aH P (do pure (.value (<- m)):Sem T7) h K=aH P m h λv h=>K (.value v) h:=by simp only[aJ,aR]
def YG{h:ae}{m:Sem Unit}{K:T7->ae->Prop}:aH P (do m;pure .skip:Sem T7) h K=aH P m h λ_ h=>K .skip h:=by simp only[aJ,aR]
def YH{o:sa}(a:∀c,o.op≠.defer c):kS b o=q9:=by
 unfold kS;split
 .rename_i c l h1 d;exact absurd h1 (a c)
 .rfl
def BQ{o:sa}{e:Env}{d:List tc}{s:ai}{N:Env->List tc->ai->ae->Prop}:tV P main S o e d s N=@qz P main _ S o.dst e d s ⟨N⟩:=by funext an h;cases an<;>rfl
def zH{α β:Type}(f:α->β)(x:Array α):(x.toList.map f).toArray=x.map f:=by rw[<- Array.toList_map]
def pz{o:sa}{e:Env}{d:List tc}{s:ai}{h:ae}{N:Env->List tc->ai->ae->Prop}(u:bP P main S b o e d s h N):mW P main S b o e d s h N:=by
 obtain⟨dst,op,ty,pos,k,aT⟩:=o;have fP:(∀c,op≠.defer c)->kS b ⟨dst,op,ty,pos,k,aT⟩=q9:=λl=>YH l;unfold bP at u;split at u
 case h_29 f b1 dD a=>
  simp only at a;subst a;simp only[zH]at u;rcases u with⟨g,u⟩|⟨fn,x,i,h1,j,m,r,u⟩|u
  .refine .inl ⟨fP Y,?_⟩;simp only[T0,resolve,aA,avn,aJ,aR,atT,av6,mq];unfold bz at g;split at g
   .rename_i fn i;simp only[vh,avp,beq_eq_false_iff_ne]at g;have j:¬fn.body=o0:=by have:=g.2;cases v:fn.body<;>simp_all
    rw[i];simp[g.1,j,aR,tV];exact u
   .cases g
  .refine .inl ⟨fP Y,?_⟩;simp only[T0,resolve,aA,avn,aJ,aR,atT,av6,mq];have n:¬fn.name= "runtime.NumGoroutine" :=by simpa using h1
   have p:fn.body=o0:=by cases v:fn.body<;>simp_all
   rw[i];simp[n,p,aJ,Oa,mo,m,r,Gy];exact u
  .exact .inr (u b _ (aA e) b1 dD rfl rfl)
 case h_30 x b1 dD _ a=>simp only at a;subst a;refine .inl ⟨fP Y,?_⟩;rw[BQ];simp only[bA,al]at u;rw[zH]at u;exact u
 case h_8 t x a=>
  simp only at a;subst a;simp only[bA,eX]at u;split at u
  .split at u
   .exact .inl ⟨fP Y,by simp only[T0,xv];exact u⟩
   .exact .inr (u _ (aA e) x rfl rfl)
  .exact .inl ⟨fP Y,by simp only[T0,xv];exact u⟩
 case h_4 t a=>
  simp only at a;subst a;simp only[nv]at u;split at u
  .exact .inr (u _ (aA e) rfl)
  .exact .inl ⟨fP Y,by simp only[T0,xv];exact u⟩
 case h_39 x b1 dD a=>simp only at a;subst a;simp only[bA,tX]at u;exact .inr (u _ (aA e) x b1 dD rfl rfl (by rw[zH]))
 case h_40 f b1 dD a=>
  simp only at a;subst a;unfold sG at u;split at u
  .rename_i q;refine .inl ⟨by unfold kS;rw[q],?_⟩;rw[zH]at u;simp only[T0,resolve,aA,avn,aJ,aR];have:(#[]++b1.map (aA e):Array o5)=b1.map (aA e):=Y
   rw[this];exact u
  .exact u
 case h_13 y w x a=>
  simp only at a;subst a;simp only[bA,iw]at u;split at u
  .split at u
   .exact .inl ⟨fP Y,by simp only[T0,xv];exact u⟩
   .exact .inr (u _ (aA e) x rfl rfl)
  .exact .inl ⟨fP Y,by simp only[T0,xv];exact u⟩
 all_goals first
  |exact u
  | (rename_i a;simp only at a;subst a;(try simp only[zH]at u);refine .inl ⟨fP Y,?_⟩;first
    |exact u
    | (simp only[T0,xv];exact u)
    | (simp only[T0,YG];exact u)
    | (simp only[T0,resolve,aJ,aR,atT,builtin];exact u)
    | (rw[BQ];exact u)
    | (simp only[T0,aJ,aR];simp only[al,vt,aJ,aR,bA]at u;exact u))
def YI{ops:Array sa}:∀{l:List sa} {e:Env} {d:List tc} {s:ai} {h:ae} {N:Env->List tc->ai->ae->Prop},jd P main S b ops l e d s h N->qy P main S b ops l e d s h N:=by
 have g:∀{o:sa} {e:Env} {d:List tc} {s:ai} {h:ae} {N M:Env->List tc->ai->ae->Prop},(∀e d s h,N e d s h->M e d s h)->mW P main S b o e d s h N->mW P main S b o e d s h M:=λcr u=>u.imp (λu=>⟨u.1,lq P _ (λan h u=>by
   cases an<;>first
    |exact cr _ _ _ _ u
    |exact bo.mono (λ_ _ _=>cr _ _ _ _) u
    |exact ki.mono (λ_ _ _=>cr _ _ _ _) u
    |exact u) u.2⟩) (lv.mono λ_ _ _=>cr _ _ _ _)
 intro l
 induction l with
 |nil=>exactλu=>u
 |cons o l a=>
  intro e d s h N u;rw[jd]at u;rw[qy];split at u
  .rename_i c;simp only[R9,c,if_true];exact g (λ_ _ _ _=>a) (pz u)
  .rename_i j w c;simp only[R9,c];simp only[bA,vv]at u;split at u
   .rename_i f;rw[if_pos f];exact g (λ_ _ _ _=>a) (pz u)
   .rename_i f;rw[if_neg f];exact a u
def xw{c:rj}:∀{K:eM->Env->List tc->ai->ae->Prop} {a:Act} {e:Env} {s:ai} {h:ae},fN n c=J->iR n a e->cB P main S n b c K e a.defers s h->jo P main S b c (λj a s h=>∃e,iR n a e/\K j e a.defers s h) a s h:=by
 induction c with
 |skip=>exactλ_ r u=>⟨_,r,u⟩
 |label l=>exactλ_ r u=>⟨_,r,u⟩
 |seq x y m o=>
  intro K a e s h g r u;simp only[fN,vh]at g;rw[jo];refine vq (λj a s h ⟨e,r,q⟩=> ?_) (m g.1 r u);cases j with
  |cx=>exact o g.2 r q
  |ext i=>exact⟨e,r,q⟩
  |ret=>exact⟨e,r,q⟩
 |cond c x y m o=>
  intro K a e s h g r u;simp only[fN,vh]at g;rw[cB]at u;simp only[jo,zG r];split at u
  .rename_i p;rw[p];exact m g.1 r u
  .rename_i p;rw[p];exact o g.2 r u
  .exact u.elim
 |block id c k=>
  intro K a e s h g r u;rw[jo];refine vq (λj a s h ⟨e,r,q⟩=> ?_) (k g r u);cases j with
  |cx=>exact⟨e,r,q⟩
  |ext i=>
   simp only[lV]at q ⊢;split
   .rename_i hi;rw[if_pos hi]at q;exact⟨e,r,q⟩
   .rename_i hi;rw[if_neg hi]at q;exact⟨e,r,q⟩
  |ret=>exact⟨e,r,q⟩
 |loop c k=>
  intro K a e s h g r u X v;refine u (λe d s h=>∀a,iR n a e->a.defers=d->X a s h) (λe d s h q a r hd=> ?_) a r rfl;subst hd;refine v a s h (vq (λj a s h ⟨e,r,q⟩=> ?_) (k g r q));cases j with
  |cx=>exact q a r rfl
  |ext i=>exact⟨e,r,q⟩
  |ret=>exact⟨e,r,q⟩
 |exit id=>exactλ_ r u=>⟨_,r,u⟩
 |ret=>exactλ_ r u=>⟨_,r,u⟩
 |scope c k=>exactλg r u=>k g r u
 |region id ops z=>
  intro K a e s h g r u;rw[cB]at u;rw[jo];cases z with
  |true=>rw[if_pos rfl]at u ⊢;exactλt=>Ol g r (u t)
  |false=>refine Ol g r ?_;rw[List.range_eq_range'];exact YF ops.size 0 U _ _ _ _ (YI u)
 |rangeFunc f bc A B _ _=>exactλ_ r u=>u _ r rfl
 |goto l=>exactλ_ _ u=>u.elim
 |refuse w=>exactλ_ _ u=>u.elim
def sH{α:Type}{m:Sem α}{h:ae}{K L:KK α}(b:∀a h,K.f a h->L.f a h)(u:@al P _ m h K):@al P _ m h L:=lq P m (λ_ _=>b _ _) u
def ej.mono{f:vb}{args:Array o5}{s:ai}{h:ae}{K L:hA ai}(a:∀s h v,K.f s h v->L.f s h v)(u:@ej P main _ S f args s h K):@ej P main _ S f args s h L:=by
 rcases u with⟨c,u⟩|⟨fn,x,a1,a2,a3,d,e,u⟩|u
 .exact .inl ⟨c,bo.mono a u⟩
 .exact .inr (.inl ⟨fn,x,a1,a2,a3,d,e,sH (λ_ _=>a _ _ _) u⟩)
 .exact .inr (.inr λb o aA b1 gH h1 g=>(u b o aA b1 gH h1 g).mono a)
def eX.mono{t:ta}{v:o5}{s:ai}{h:ae}{K L:hA ai}(a:∀s h v,K.f s h v->L.f s h v)(u:@eX P main _ S b t v s h K):@eX P main _ S b t v s h L:=by
 unfold eX at u ⊢;split at u
 .split at u
  .rename_i hb;simp only[hb,if_true];exact sH (λ_ _=>a _ _ _) u
  .rename_i hb;simp only[hb];exactλo aA x h1 c=>(u o aA x h1 c).mono a
 .exact sH (λ_ _=>a _ _ _) u
def iw.mono{st c:ta}{v:o5}{s:ai}{h:ae}{K L:hA ai}(a:∀s h v,K.f s h v->L.f s h v)(u:@iw P main _ S b st c v s h K):@iw P main _ S b st c v s h L:=by
 unfold iw at u ⊢;split at u
 .split at u
  .rename_i hb;simp only[hb,if_true];exact sH (λ_ _=>a _ _ _) u
  .rename_i hb;simp only[hb];exactλo aA x h1 d=>(u o aA x h1 d).mono a
 .exact sH (λ_ _=>a _ _ _) u
def Om{f0:vb}{ck:CallKind}{f:vb}{args:Array o5}{o:sa}{e:Env}{d:List tc}{s:ai}{h:ae}{N:Env->List tc->ai->ae->Prop}:sG P main S ⟨f0,ck,o0⟩ f args o e d s h N=N (b7 e o.dst vk) ({target:=.fn (.func f) #[],args:=args}::d) s h:=rfl
def nv.mono{t:ta}{s:ai}{h:ae}{K L:hA ai}(a:∀s h v,K.f s h v->L.f s h v)(u:@nv P main _ S b t s h K):@nv P main _ S b t s h L:=by
 unfold nv at u ⊢;split at u
 .exactλo aA h1=>(u o aA h1).mono a
 .exact sH (λ_ _=>a _ _ _) u
def tX.mono{v:o5}{args:Array o5}{s:ai}{h:ae}{K L:hA ai}(a:∀s h v,K.f s h v->L.f s h v)(u:@tX P main _ S b v args s h K):@tX P main _ S b v args s h L:=λo aA x b1 gH h1 c d=>(u o aA x b1 gH h1 c d).mono a
def iw.int{st a:ta}{k:E1}{n:Int}{s:ai}{h:ae}[K:hA ai]:iw P main S b st a (.int k n) s h=@al P _ (convert st a (.int k n)) h ⟨λv h=>K.f s h v⟩:=rfl
def GK{dst:Option Tmp}{e:Env}{d:List tc}{s:ai}{N M:zD ai}(cr:∀e d s h,N.f e d s h->M.f e d s h){an:T7}{h:ae}(u:@qz P main _ S dst e d s N an h):@qz P main _ S dst e d s M an h:=by
 cases an<;>first
  |exact cr _ _ _ _ u
  |exact bo.mono (λ_ _ _=>cr _ _ _ _) u
  |exact ki.mono (λ_ _ _=>cr _ _ _ _) u
  |exact u
def YJ{o:sa}{e:Env}{d:List tc}{s:ai}{h:ae}{N M:Env->List tc->ai->ae->Prop}(cr:∀e d s h,N e d s h->M e d s h)(u:mW P main S b o e d s h N):mW P main S b o e d s h M:=u.imp (λu=>⟨u.1,lq P _ (λan h u=>by rw[BQ]at u ⊢;exact GK cr u) u.2⟩) (lv.mono λ_ _ _=>cr _ _ _ _)
def sG.mono{f:vb}{args:Array o5}{o:sa}{e:Env}{d:List tc}{s:ai}{h:ae}{N M:Env->List tc->ai->ae->Prop}(cr:∀e d s h,N e d s h->M e d s h)(u:sG P main S b f args o e d s h N):sG P main S b f args o e d s h M:=by
 unfold sG at u ⊢;split at u
 .exact cr _ _ _ _ u
 .exact YJ cr u
def On{o:sa}{e:Env}{d:List tc}{s:ai}{h:ae}{N M:Env->List tc->ai->ae->Prop}(cr:∀e d s h,N e d s h->M e d s h)(u:bP P main S b o e d s h N):bP P main S b o e d s h M:=by
 unfold bP at u ⊢;split at u<;>first
  |exact cr _ _ _ _ u
  |exact sH (λ_ _=>cr _ _ _ _) u
  |exact ej.mono (λ_ _ _=>cr _ _ _ _) u
  |exact eX.mono (λ_ _ _=>cr _ _ _ _) u
  |exact iw.mono (λ_ _ _=>cr _ _ _ _) u
  |exact nv.mono (λ_ _ _=>cr _ _ _ _) u
  |exact tX.mono (λ_ _ _=>cr _ _ _ _) u
  |exact sG.mono cr u
  |exact sH (λ_ _=>GK cr) u
  |exact u.imp (λu=>⟨u.1,lq P _ (λan h u=>by rw[BQ]at u ⊢;exact GK cr u) u.2⟩) (lv.mono λ_ _ _=>cr _ _ _ _)
def YK{ops:Array sa}:∀{l:List sa} {e:Env} {d:List tc} {s:ai} {h:ae} {N M:Env->List tc->ai->ae->Prop},(∀e d s h,N e d s h->M e d s h)->jd P main S b ops l e d s h N->jd P main S b ops l e d s h M:=by
 intro l
 induction l with
 |nil=>exactλcr u=>cr _ _ _ _ u
 |cons o l a=>
  intro e d s h N M cr u;rw[jd]at u ⊢;split at u
  .exact On (λ_ _ _ _=>a cr) u
  .rename_i j w f;simp only[bA,vv]at u ⊢;split at u
   .rename_i c;rw[if_pos c];exact On (λ_ _ _ _=>a cr) u
   .rename_i c;rw[if_neg c];exact a cr u
def YL{c:rj}:∀{K L:eM->Env->List tc->ai->ae->Prop} {e:Env} {d:List tc} {s:ai} {h:ae},(∀x e d s h,K x e d s h->L x e d s h)->cB P main S n b c K e d s h->cB P main S n b c L e d s h:=by
 have up:∀{o:sa} {e:Env} {d:List tc} {s:ai} {N M:Env->List tc->ai->ae->Prop} {an:T7} {h:ae},(∀e d s h,N e d s h->M e d s h)->tV P main S o e d s N an h->tV P main S o e d s M an h:=by
  intro o e d s N M an h cr u;cases an<;>first
   |exact cr _ _ _ _ u
   |exact bo.mono (λ_ _ _=>cr _ _ _ _) u
   |exact ki.mono (λ_ _ _=>cr _ _ _ _) u
   |exact u
 have A:∀{o:sa} {e:Env} {d:List tc} {s:ai} {h:ae} {N M:Env->List tc->ai->ae->Prop},(∀e d s h,N e d s h->M e d s h)->mW P main S b o e d s h N->mW P main S b o e d s h M:=λcr u=>u.imp (λu=>⟨u.1,lq P _ (λ_ _=>up cr) u.2⟩) (lv.mono λ_ _ _=>cr _ _ _ _)
 have F:∀{ops:Array sa} {l:List sa} {e:Env} {d:List tc} {s:ai} {h:ae} {N M:Env->List tc->ai->ae->Prop},(∀e d s h,N e d s h->M e d s h)->qy P main S b ops l e d s h N->qy P main S b ops l e d s h M:=by
  intro ops l
  induction l with
  |nil=>exactλcr u=>cr _ _ _ _ u
  |cons o l j=>
   intro e d s h N M cr u;rw[qy]at u ⊢;split
   .rename_i k;rw[if_pos k]at u;exact A (λ_ _ _ _=>j cr) u
   .rename_i k;rw[if_neg k]at u;exact j cr u
 have B:∀{ops:Array sa} {l:List Nat} {e:Env} {d:List tc} {s:ai} {h:ae} {N M:Env->List tc->ai->ae->Prop},(∀e d s h,N e d s h->M e d s h)->fO P main S b ops l e d s h N->fO P main S b ops l e d s h M:=by
  intro ops l
  induction l with
  |nil=>exactλcr u=>cr _ _ _ _ u
  |cons i l j=>
   intro e d s h N M cr u;rw[fO]at u ⊢;cases z:ops[i]? with
   |none=>rw[z]at u;exact j cr u
   |some o=>
    rw[z]at u;simp only at u ⊢;split
    .rename_i k;rw[if_pos k]at u;exact A (λ_ _ _ _=>j cr) u
    .rename_i k;rw[if_neg k]at u;exact j cr u
 induction c with
 |skip=>exactλg u=>g _ _ _ _ _ u
 |label l=>exactλg u=>g _ _ _ _ _ u
 |seq x y m p=>intro K L e d s h g u;exact m (λx e d s h q=>by cases x with|cx=>exact p g q|ext i=>exact g _ _ _ _ _ q|ret=>exact g _ _ _ _ _ q) u
 |cond c x y m p=>
  intro K L e d s h g u;rw[cB]at u ⊢;split at u
  .rename_i v;rw[v];exact m g u
  .rename_i v;rw[v];exact p g u
  .exact u.elim
 |block id c j=>
  intro K L e d s h g u;refine j (λx e d s h q=> ?_) u;cases x with
  |cx=>exact g _ _ _ _ _ q
  |ext i=>
   simp only[lV]at q ⊢;split
   .rename_i hi;rw[if_pos hi]at q;exact g _ _ _ _ _ q
   .rename_i hi;rw[if_neg hi]at q;exact g _ _ _ _ _ q
  |ret=>exact g _ _ _ _ _ q
 |loop c j=>intro K L e d s h g u X D;exact u X λe d s h q=>D e d s h (j (λx e d s h q=>by cases x with|cx=>exact q|ext i=>exact g _ _ _ _ _ q|ret=>exact g _ _ _ _ _ q) q)
 |exit id=>exactλg u=>g _ _ _ _ _ u
 |ret=>exactλg u=>g _ _ _ _ _ u
 |scope c j=>exactλg u=>j g u
 |region id ops G=>
  intro K L e d s h g u;rw[cB]at u ⊢;split
  .rename_i hd;rw[if_pos hd]at u;exactλt=>B (g _) (u t)
  .rename_i hd;rw[if_neg hd]at u;exact YK (g _) u
 |rangeFunc f bc E H _ _=>intro K L e d s h g u a r hd;exact vq (λx a s h ⟨e,r,q⟩=>⟨e,r,g _ _ _ _ _ q⟩) (u a r hd)
 |goto l=>exactλ_ u=>u
 |refuse w=>exactλ_ u=>u
def du{c:rj}{K:eM->Env->List tc->ai->ae->Prop}(I:Nat->Env->List tc->ai->ae->Prop)
  (step:∀m e d s h,I m e d s h->cB P main S n b c (sF (λe d s h=>∃dG,dG<m/\I dG e d s h) K) e d s h):
  ∀{m e d s h},I m e d s h->cB P main S n b (.loop c) K e d s h:=by
 intro m
 induction m using Nat.strongRecOn with
 |ind m f=>
  intro e d s h g X a;refine a e d s h (YL (λx e d s h q=> ?_) (step m e d s h g));cases x with
  |cx=>obtain⟨dG,j,hi⟩:=q;exact f dG j hi X a
  |ext i=>exact q
  |ret=>exact q
def dC(args:List o5):Env:=λt=>args.getD t vk
def dT(P:tb)(fn:Func)(Post:ai->ae->o5->Prop)(n:Nat)(e:Env)(d:List tc)(s:ai)(h:ae):Prop:=jU P d h λh=>aH P (results fn (avq (n:=n) λi=>e i)) h λv h'=>Post s h' v
def xz{a:Act}{e:Env}(r:iR n a e):a.tmps=avq (n:=n) λi=>e i:=by
 apply Array.ext
 .simp[r.1]
 .intro i h1 b;have:=r.2 i;rw[auZ,aul h1]at this;simpa using this
def bL{f:vb}{fn:Func}{c:rj}{args:List o5}{s:ai}{h:ae}{Post:ai->ae->o5->Prop}(g:P.funcs[f]? =C fn)(hb:fn.body=C c)(j:fn.ntmps=n)
  (l:args.length<=n) (k:fN n c=J)
  (u:cB P main S n ⟨f,.normal,o0⟩ c (λx=>match x with|.ext _=>λ_ _ _ _=>False|_=>dT P fn Post n) (dC args) [] s h):
  bo P main S f args.toArray s h Post:=by
 have r:iR n ⟨args.toArray++Array.replicate (n- args.toArray.size) vk,[]⟩ (dC args):=by
  refine⟨atB,λt=> ?_⟩;simp only[dC,auZ,List.getD_eq_getElem?_getD,Array.getElem?_append,List.size_toArray];by_cases b:t<args.length
  .simp[b]
  .simp only[b,if_false];rw[List.getElem?_eq_none U];simp only[Array.getElem?_replicate];split<;>rfl
 refine YA g hb j (vq (λx a s h ⟨e,r,q⟩=> ?_) (xw k r u));have d:=xz r;cases x with
 |ext i=>exact q.elim
 |cx=>exact(by simp only[dT]at q;unfold xq;rw[d];exact q:xq P fn Post a s h)
 |ret=>exact(by simp only[dT]at q;unfold xq;rw[d];exact q:xq P fn Post a s h)
end
def fS(P:tb)(t:ta):Option (Option Nat):=match P.underlying t with
 |none=>o0
 |some (.struct _)|some (.array _ _)=>match P.info? t with|some i=>C (C i.size)|none=>o0
 |some _=>C o0
def cu(P:tb)(t:ta):Option Nat:=(P.info? t).map (·.size)
def fw(P:tb)(t:ta):Option o5:=(P.info? t).bind (·.zero)
def ae.iS(h:ae)(A:vm)(i:Nat):Nat->Option (List o5)
 | 0=>C []
 |n+1=>match h.cell? (A.add i)with
  |some v=>match h.iS A (i+1) n with
   |some vs=>C (v::vs)
   |none=>o0
  |none=>o0
def ae.BR(h:ae)(A:vm):Prop:=h.owns A.block=J/\(h.cell? A).isSome=J/\h.frozen? A=q9
def nx(h:ae)(A:vm):Nat->List o5->(ae->Prop)->Prop
 |_,[],K=>K h
 |i,v::vs,K=>(jG v=J/\h.BR (A.add i))/\nx (h.setCell (A.add i) v) A (i+1) vs K
section
variable{P:tb}{h:ae}
def BS(A:vm)(Q:o5->ae->Prop):aH P (load A) h Q=match h.cell? A with|some v=>Q v h|none=>False:=by simp only[load,aH,true_and];cases h.cell? A<;>rfl
def Oo{α:Type}(t:ta)(k:TypeInfo->Sem α)(Q:α->ae->Prop):aH P (typeInfo t >>= k) h Q=match P.info? t with|some i=>aH P (k i) h Q|none=>False:=by rw[aJ];simp only[typeInfo,aJ,mq];split<;>rename_i hi<;>rw[hi]<;>rfl
def c0(t:ta)(Q:TypeDesc->ae->Prop):aH P (underlying t) h Q=match P.underlying t with|some i=>Q i h|none=>False:=by simp only[underlying,aJ,mq];split<;>rename_i hi<;>rw[hi]<;>rfl
def gD(t:ta)(Q:Nat->ae->Prop):aH P (sizeOf t) h Q=match cu P t with|some n=>Q n h|none=>False:=by simp only[sizeOf,cu,Oo];cases P.info? t<;>rfl
def kH(t:ta)(Q:o5->ae->Prop):aH P (zeroValue t) h Q=match fw P t with|some v=>Q v h|none=>False:=by
 simp only[zeroValue,fw,Oo];cases P.info? t with
 |none=>rfl
 |some i=>simp only[ayE];cases i.zero<;>rfl
def Oq(t:ta)(Q:Bool->ae->Prop):aH P (isAgg t) h Q=match P.underlying t with|some (.struct _)|some (.array _ _)=>Q J h|some _=>Q q9 h|none=>False:=by
 simp only[isAgg,aJ,c0];cases P.underlying t with
 |none=>rfl
 |some d=>cases d<;>rfl
def Ot(A:vm)(Q:Array o5->ae->Prop):∀(n i:Nat) (a:Array o5),aH P (azA A i n a) h Q=match h.iS A i n with|some vs=>Q (a++vs.toArray) h|none=>False:=by
 intro n
 induction n with
 |zero=>intro i a;simp[azA,ae.iS,aR]
 |succ n b=>
  intro i a;simp only[azA,aJ,BS,ae.iS];cases h.cell? (A.add i)with
  |none=>rfl
  |some v=>
   simp only[b];cases h.iS A (i+1) n with
   |none=>rfl
   |some vs=>simp
def zI(A:vm)(Q:Unit->ae->Prop):∀(vs:List o5) (i:Nat) (h:ae),aH P (storeCells A vs i) h Q=nx h A i vs (Q ()):=by
 intro vs
 induction vs with
 |nil=>intro i h;rfl
 |cons v vs a=>intro i h;simp only[storeCells,aJ,store,aH,true_and,nx,ae.BR,a,and_assoc]
def pB(h:ae)(A:vm):Option (Option Nat)->(o5->Prop)->Prop
 |some o0,K=>match h.cell? A with|some v=>K v|none=>False
 |some (C n),K=>match h.iS A 0 n with|some vs=>K (.agg vs.toArray)|none=>False
 |none,_=>False
def rF(t:ta)(A:vm)(Q:o5->ae->Prop):aH P (loadVar t A) h Q=pB h A (fS P t) λv=>Q v h:=by
 simp only[loadVar,aJ,Oq,fS];cases P.underlying t with
 |none=>rfl
 |some d=>cases d<;>simp only[pB,Bool.false_eq_true,if_false,if_true,aJ,gD,cu,loadCells,BS,aR]<;>cases P.info? t<;>simp[Ot]
def Ou(t:ta)(A:vm)(v:o5)(Q:Unit->ae->Prop):aH P (storeVar t A v) h Q=(C v.cells.size=cu P t/\nx h A 0 v.cells.toList (Q ())):=by
 simp only[storeVar,aJ,gD];cases cu P t with
 |none=>simp
 |some n=>
  simp only[Option.some.injEq];by_cases a:v.cells.size=n
  .simp[a,zI]
  .simp[a,stuck];exactλx=>x
end
section
variable{P:tb}{main:Bool}{ai:Type}{S:Sys ai}{b:aS}{e:Env}{d:List tc}{s:ai}{h:ae}{N:Env->List tc->ai->ae->Prop}
variable{dst:Option Tmp}
def YM(A B:Prop):@vv J ⟨A⟩ ⟨B⟩=A:=rfl
def YN(A B:Prop):@vv q9 ⟨A⟩ ⟨B⟩=B:=rfl
def GL(v:o5)[A:BP][B:BP]:Prop:=match v with|.bool J=>A.f|.bool q9=>B.f|_=>False
def YO(t:Bool)(a b:o5)[K:KK o5]:al P (vt (.bool t) a b) h=K.f (if t then a else b) h:=rfl
def YP{A:vm}[K:KK T7]:al P (vu (.pointer (C A))) h=K.f (.value (.pointer (C A))) h:=rfl
def zJ{f:vb}{x y args:Array o5}[K:KK T7](ck:bz P f=J):al P (rD (.func (.func f) x y) args) h=K.f (.enter f (x++args++y)) h:=by
 unfold bz at ck;split at ck
 .rename_i fn a;simp only[vh,avp,beq_eq_false_iff_ne]at ck;have b:¬fn.body=o0:=by have:=ck.2;cases c:fn.body<;>simp_all
  simp only[al,rD,avn,aJ,aR,atT,av6,mq,a];simp[ck.1,b,aR]
 .cases ck
def YQ{v:o5}[N:zD ai]:qz P main S dst e d s (.value v) h=N.f (b7 e dst v) d s h:=rfl
def YR{f:vb}{args:Array o5}[N:zD ai]:qz P main S dst e d s (.enter f args) h=bo P main S f args s h λa h' v=>N.f (b7 e dst v) d a h':=rfl
def ej.native{f:vb}{args:Array o5}[K:hA ai]{fn:Func}{x:Array o5->Sem o5}(a:P.funcs[f]? =C fn)(h1:(fn.name== "runtime.NumGoroutine")=q9)(b:fn.body.isNone=J)(c:Extern.findNext fn=o0)
  (d:Extern.find fn=C x) (u:@al P _ (x args) h ⟨λv h=>K.f s h v⟩):ej P main S f args s h:=.inr (.inl ⟨fn,x,a,h1,b,c,d,u⟩)
def YS{α:Type}(f:α->ae->Prop):(KK.mk f).f=f:=rfl
def YT(f:ai->ae->o5->Prop):(hA.mk f).f=f:=rfl
def YU(f:Env->List tc->ai->ae->Prop):(zD.mk f).f=f:=rfl
def Ov(op:BinOp)(k:E1)(a b:Int):Option o5:=match op with
 | .add=>C (.int k (k.wrap (a+b)))
 | .sub=>C (.int k (k.wrap (a- b)))
 | .mul=>C (.int k (k.wrap (a*b)))
 | .eql=>C (.bool (a==b))
 | .neq=>C (.bool (a != b))
 | .lss=>C (.bool (a<b))
 | .leq=>C (.bool (a<=b))
 | .gtr=>C (.bool (a>b))
 | .geq=>C (.bool (a>=b))
 |_=>o0
def sI{op:BinOp}{t:ta}{x y:su}{k:E1}{a c:Int}{v:o5}(b:Ov op k a c=C v)(K:o5->ae->Prop):aH P (do W2 op t x y (.int k a) (.int k c);binOp op t (.int k a) (.int k c)) h K=K v h:=by
 cases op<;>simp only[Ov,Option.some.injEq,reduceCtorEq]at b<;>subst b<;>simp[W2,binOp,aR,Op.intArith,Op.intCmp]
section
variable{xt:ta}{x y:su}{k:E1}{a c:Int}[K:KK o5]
def sJ:al P (bN .add xt x y (.int k a) (.int k c)) h=K.f (.int k (k.wrap (a+c))) h:=sI rfl K.f
def xA:al P (bN .sub xt x y (.int k a) (.int k c)) h=K.f (.int k (k.wrap (a- c))) h:=sI rfl K.f
def YV:al P (bN .mul xt x y (.int k a) (.int k c)) h=K.f (.int k (k.wrap (a*c))) h:=sI rfl K.f
def YW:al P (bN .eql xt x y (.int k a) (.int k c)) h=K.f (.bool (a==c)) h:=sI rfl K.f
def YX:al P (bN .neq xt x y (.int k a) (.int k c)) h=K.f (.bool (a != c)) h:=sI rfl K.f
def YY:al P (bN .lss xt x y (.int k a) (.int k c)) h=K.f (.bool (decide (a<c))) h:=sI rfl K.f
def YZ:al P (bN .leq xt x y (.int k a) (.int k c)) h=K.f (.bool (decide (a<=c))) h:=sI rfl K.f
def Y0:al P (bN .gtr xt x y (.int k a) (.int k c)) h=K.f (.bool (decide (a>c))) h:=sI rfl K.f
def Y1:al P (bN .geq xt x y (.int k a) (.int k c)) h=K.f (.bool (decide (a>=c))) h:=sI rfl K.f
end
def aL(e:Env)(d t:Nat)(v:o5):upd e d v t=if t=d then v else e t:=by
 unfold upd;by_cases a:t=d
 .subst a;have:td t t=J:=Y
  rw[this,cond_true,if_pos rfl]
 .have:td t d=q9:=by cases hb:td t d with|false=>rfl|true=>exact absurd (atP hb) a
  rw[this,cond_false,if_neg a]
def gJ(e:Env)(t:Nat):aA e (.tmp t)=e t:=rfl
def Y2(e:Env)(v:o5):aA e (.const v)=v:=rfl
def Y3(e:Env)(g:Nat):aA e (.global g)=.pointer (C ⟨g,0,o0⟩):=rfl
def Y4(e:Env)(f:Nat):aA e (.func f)=.func (.func f) #[] #[]:=rfl
def eU(e:Env)(d:Nat)(v:o5):b7 e (C d) v=upd e d v:=rfl
def Y5(e:Env)(v:o5):b7 e o0 v=e:=rfl
def Ow(v:o5)(l:List o5):dC (v::l) 0=v:=rfl
def Ox(v:o5)(l:List o5)(t:Nat):dC (v::l) (t+1)=dC l t:=by simp[dC]
def Y6{β:Sort 1}(k:E1)(i:Int)(f:o5->β):@bA _ _ (.int k i) ⟨f⟩=f (.int k i):=rfl
def Y7{β:Sort 1}(t:Bool)(f:o5->β):@bA _ _ (.bool t) ⟨f⟩=f (.bool t):=rfl
def Y8{β:Sort 1}(a:Option vm)(f:o5->β):@bA _ _ (.pointer a) ⟨f⟩=f (.pointer a):=rfl
def Y9{β:Sort 1}(a:Option vm)(n c:Nat)(f:o5->β):@bA _ _ (.slice a n c) ⟨f⟩=f (.slice a n c):=rfl
def Za{β:Sort 1}(x:ByteArray)(f:o5->β):@bA _ _ (.string x) ⟨f⟩=f (.string x):=rfl
def Zb{β:Sort 1}(x:Array o5)(f:o5->β):@bA _ _ (.agg x) ⟨f⟩=f (.agg x):=rfl
def Zc{β:Sort 1}(x:Array o5)(f:o5->β):@bA _ _ (.tuple x) ⟨f⟩=f (.tuple x):=rfl
def Zd{β:Sort 1}(fn:Fn)(x y:Array o5)(f:o5->β):@bA _ _ (.func fn x y) ⟨f⟩=f (.func fn x y):=rfl
def Ze{β:Sort 1}(r:Option Nat)(f:o5->β):@bA _ _ (.map r) ⟨f⟩=f (.map r):=rfl
def Zf{β:Sort 1}(t:ta)(v:o5)(f:o5->β):@bA _ _ (.iface t v) ⟨f⟩=f (.iface t v):=rfl
def Zg{β:Sort 1}(f:o5->β):@bA _ _ (.nilIface) ⟨f⟩=f (.nilIface):=rfl
def Zh{β:Sort 1}(f:o5->β):@bA _ _ (.nilFunc) ⟨f⟩=f (.nilFunc):=rfl
def Zi{β:Sort 1}(t:Bool)(f:Bool->β):@bA _ _ t ⟨f⟩=f t:=rfl
def Zj{β:Sort 1}(f:Bool->β):@bA _ _ (J) ⟨f⟩=f (J):=rfl
def Zk{β:Sort 1}(f:Bool->β):@bA _ _ (q9) ⟨f⟩=f (q9):=rfl
section
variable{n:Nat}{K:eM->Env->List tc->ai->ae->Prop}{c bJ x y:rj}{l:List sa}{i:Nat}
def Zl:cB P main S n b .skip K e d s h=K .cx e d s h:=rfl
def Zm:cB P main S n b (.label i) K e d s h=K .cx e d s h:=rfl
def Zn:cB P main S n b (.exit i) K e d s h=K (.ext i) e d s h:=rfl
def Zo:cB P main S n b .ret K e d s h=K .ret e d s h:=rfl
end
end
end
end Go.Nk
