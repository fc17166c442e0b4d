/- Part Pag of the proof of ButtBack: lemmas. -/
import Derived.Test.YthgephlghkjiaaaGreatDoorPaf
set_option maxRecDepth 100000
set_option maxHeartbeats 4000000
set_option linter.all false
namespace Go.Nk
noncomputable section
open Go Go.Conc Go.Proofs
def l6(ρ:bq)(E:cJ)(e:Env):Prop:=∀t,bw ρ (E.rd t) (e t)
theorem l6.mono{ρ bA:bq}(le:ρ.aD bA){E:cJ}{e:Env}(h:l6 ρ E e):l6 bA E e:=fun t=>(h t).mono le
def cJ.put(E:cJ)(d:Option Nat)(v:Value):cJ:=match d with|some d=>dA.set v (d+1) E d|none=>E
theorem pn{β:Type}(E:cJ)(d:Option Nat)(v:Value)(k:cJ->β):tH E d v k=k (E.put d v):=by
 cases d with
 | none=>rfl
 | some d=>exact dA.nX v (d+1) E d k
theorem BT(E:cJ)(d:Nat)(v:Value)(t:Nat):(E.put (some d) v).rd t=if t=d then v else E.rd t:=by
 unfold cJ.rd cJ.put;simp only [dA.tu v (d+1) E d (Nat.lt_succ_self _)];by_cases h:t=d<;>simp [h]
theorem l6.put{ρ:bq}{E:cJ}{e:Env}(h:l6 ρ E e){v bQ:Value}(aI:bw ρ v bQ)(d:Option Nat):l6 ρ (E.put d v) (cv e d bQ):=by
 cases d with
 | none=>exact h
 | some d=>
  intro t;rw [BT,cM,aZ];split
  ·exact aI
  ·exact h t
section
variable{P:Program}{main:Bool}{ah:Type}{Sy:Sys ah}{J:ah->Prop}{bj:Nat}{ρ:bq}{H H':aL}{h:ab}{call:FuncId->List Value->aL->Option (Value×aL)}{E dH:cJ}{e:Env}{v:Value}{b:bn}{s:ah}{d:List Deferred}
 {n:Nat}
theorem WY(S:cD P bj ρ H.get H.ar h)(bO:l6 ρ E e){x:Operand}(aK:vn bj x=true):bw ρ (b5 E x) (aS e x):=by
 cases x with
 | tmp t=>exact bO t
 | const v=>exact EX aK
 | global g=>exact .ptr 0 (S.sn g (sc aK))
 | func f=>exact .func f .nil .nil
theorem ako(bO:l6 ρ E e){ops:Array Oper}{j t:Nat}{w:Bool}(ae:(ops[j]?).bind (·.dst)=some t):km E (some (t,w))=(kH ops e j==some w):=by
 have:=bO t;unfold km kH;rw [ae];simp only;generalize E.rd t=a at this ⊢;generalize e t=fh at this ⊢;cases this<;>first|rfl|skip
 rename_i b;cases b<;>cases w<;>rfl
def AH(P:Program)(bj:Nat)(J:ah->Prop)(ρ:bq)(H:aL)(h:ab)(dH:cJ)(H':aL)(d:List Deferred)(N:Env->List Deferred->ah->ab->Prop):Prop:=
 ∀ai bA e' h',J ai->cD P bj bA H'.get H'.ar h'->l6 bA dH e'->gu H ρ h H' bA h'->N e' d ai h'
theorem AH.step{H1:aL}{uj:bq}{h1:ab}{N:Env->List Deferred->ah->ab->Prop}(A:AH P bj J ρ H h dH H' d N)(S:cD P bj ρ H.get H.ar h)(l7:cD P bj uj H1.get H1.ar h1)(F:gu H ρ h H1 uj h1):AH P bj J uj H1 h1 dH H' d N:=
 fun ai bA e' h' a b c f=>A ai bA e' h' a b c (F.trans S l7 f)
theorem ahl{x:eZ}:∀(l:List nQ) (E:cJ) (H:aL),hQ call l E H=.ok x dH H'->x=.cB:=by
 intro l
 induction l with
 | nil=>intro E H aa;simp only [hQ,j3.ok.injEq] at aa;exact aa.1.symm
 | cons o l aN=>
  intro E H aa;simp only [hQ] at aa;cases hw:km E o.g with
  | true=>
   rw [hw,cond_true] at aa;split at aa
   ·rw [pn] at aa;exact aN _ _ aa
   ·cases aa
  | false=>rw [hw,cond_false,pn] at aa;exact aN _ _ aa
theorem ad3(hC:q1 P main Sy J bj call){ops:Array Oper}:∀(l:List Oper) (E:cJ) (H:aL) (ρ:bq) (h:ab) (e:Env) (s:ah) (x:eZ) (N:Env->List Deferred->ah->ab->Prop),
  ((l.map (e9 P ops)).all fun o=>o.op.dq.all (vn bj))=true->hQ call (l.map (e9 P ops)) E H=.ok x dH H'->cD P bj ρ H.get H.ar h->bj<=H.ar->J s->l6 ρ E e->AH P bj J ρ H h dH H' d N->x=.cB/\kL P main Sy b ops l e d s h N:=by
 intro l
 induction l with
 | nil=>
  intro E H ρ h e s x N _ aa S cU fL bO A;simp only [List.map_nil,hQ,j3.ok.injEq] at aa;obtain ⟨rfl,rfl,rfl⟩:=aa;exact ⟨rfl,A s ρ e h fL S bO (gu.refl S)⟩
 | cons o l aN=>
  intro E H ρ h e s x N aK aa S cU fL bO A;simp only [List.map_cons,List.all_cons,Bool.and_eq_true] at aK;simp only [List.map_cons,hQ] at aa;have go:∀(q:dr),q=q0 P o->(q.dq.all (vn bj))=true->(match cA call E H q with
    | some (v,H)=>tH E o.dst v fun e=>hQ call (l.map (e9 P ops)) e H
    | none=>.fail)=.ok x dH H'->x=.cB/\b3 P main Sy b o e d s h fun e d s h=>kL P main Sy b ops l e d s h N:=by
   intro q aE au8 aa;subst aE;split at aa
   ·rename_i v H1 aF;rw [pn] at aa;have au9:x=.cB:=ahl _ _ _ aa;refine ⟨au9,J8 aF S cU fL hC (fun y ax=>WY S bO (List.all_eq_true.1 au8 y ax)) fun ai bA h' bQ an az aB aX=> ?_⟩;exact (aN _ _ bA h' _ ai x N aK.2 aa az (Nat.le_trans cU aX.ar) an ((bO.mono aX.le).put aB _) (A.step S az aX)).2
   ·cases aa
  have skip:tH E o.dst undef (fun e=>hQ call (l.map (e9 P ops)) e H)=.ok x dH H'->x=.cB/\kL P main Sy b ops l (cv e o.dst undef) d s h N:=fun aa=>by
   rw [pn] at aa;exact aN _ _ ρ h _ s x N aK.2 aa S cU fL (bO.put bw.undef _) A
  rw [kL];unfold e9 at aa aK;split at aa
  ·rename_i aG;simp only [aG] at aK ⊢;simp only [km,cond_true] at aa;exact go _ rfl aK.1 aa
  ·rename_i j w aG;simp only [aG] at aK ⊢;split at aa
   ·rename_i t ae;simp only [ae] at aK;simp only [ako bO ae] at aa;simp only [bE,xT];cases hw:(kH ops e j==some w) with
    | true=>
     rw [hw,cond_true] at aa;rw [if_pos rfl];exact go _ rfl aK.1 aa
    | false=>
     rw [hw,cond_false] at aa;rw [if_neg (by simp)];exact skip aa
   ·simp only [km,cond_true,cA] at aa;cases aa
def F1(P:Program)(main:Bool){ah:Type}(Sy:Sys ah)(J:ah->Prop)(bj:Nat)(call:FuncId->List Value->aL->Option (Value×aL)):Prop:=
 ∀(b:bn) (d:List Deferred) (ops:Array Oper) (cz:List (Nat×Nat)) (E dH:cJ) (H H':aL) (ρ:bq) (h:ab) (e:Env) (s:ah) (x:eZ) (N:Env->List Deferred->ah->ab->Prop),
  ((ops.toList.map (e9 P ops)).all fun o=>o.op.dq.all (vn bj))=true->(nu 0 ops.toList&&WT (ops.toList.map (e9 P ops)) (kP ops.toList []) cz)=true->pz call (kP ops.toList []) cz (tw (kP ops.toList [])) 0 (ops.toList.map (e9 P ops)) (kP ops.toList []) [] E H=.ok x dH H'->cD P bj ρ H.get H.ar h->bj<=H.ar->J s->l6 ρ E e->AH P bj J ρ H h dH H' d N->
  x=.cB/\∀t,gk P main Sy b ops (Region.schedule (P.follows .mixedOrders) ops t) e d s h N
theorem E0(hC:q1 P main Sy J bj call)(du:F1 P main Sy J bj call)(cz:Nat->List (Nat×Nat)):∀(c:Code) (E:cJ) (H:aL) (ρ:bq) (h:ab) (e:Env) (s:ah) (x:eZ) (dH:cJ) (H':aL) (K:eZ->Env->List Deferred->ah->ab->Prop),
  (comp P cz c).hV bj=true->iu P cz c=true->gV call (comp P cz c) E H=.ok x dH H'->cD P bj ρ H.get H.ar h->bj<=H.ar->J s->l6 ρ E e->AH P bj J ρ H h dH H' d (K x)->cF P main Sy n b c K e d s h:=by
 intro c
 induction c with
 | skip=>
  intro E H ρ h e s x dH H' K _ _ aa S cU fL bO A;simp only [comp,gV,j3.ok.injEq] at aa;obtain ⟨rfl,rfl,rfl⟩:=aa;exact A s ρ e h fL S bO (gu.refl S)
 | label l=>
  intro E H ρ h e s x dH H' K _ _ aa S cU fL bO A;simp only [comp,gV,j3.ok.injEq] at aa;obtain ⟨rfl,rfl,rfl⟩:=aa;exact A s ρ e h fL S bO (gu.refl S)
 | seq c1 c2 Ik P3=>
  intro E H ρ h e s x dH H' K aK hd aa S cU fL bO A;simp only [comp,ng.hV,Bool.and_eq_true] at aK;simp only [iu,Bool.and_eq_true] at hd;simp only [comp,gV] at aa;rw [cF];split at aa
  ·rename_i hq H1 h1;refine Ik E H ρ h e s .cB hq H1 _ aK.1 hd.1 h1 S cU fL bO fun ai bA e' h' an az aB aX=> ?_;exact P3 hq H1 bA h' e' ai x dH H' K aK.2 hd.2 aa az (Nat.le_trans cU aX.ar) an aB (A.step S az aX)
  ·rename_i b7;refine Ik E H ρ h e s x dH H' _ aK.1 hd.1 aa S cU fL bO fun ai bA e' h' an az aB aX=> ?_;have:=A ai bA e' h' an az aB aX;cases x with
   | cB=>exact absurd aa (b7 dH H')
   | ext i=>exact this
   | ret=>exact this
 | cond t c1 c2 Ik P3=>
  intro E H ρ h e s x dH H' K aK hd aa S cU fL bO A;simp only [comp,ng.hV,Bool.and_eq_true] at aK;simp only [iu,Bool.and_eq_true] at hd;simp only [comp,gV] at aa;have aI:=WY S bO aK.1;simp only [cF];split at aa
  ·rename_i aj;rw [aj] at aI;generalize aS e t=u at aI;cases aI;exact Ik E H ρ h e s x dH H' K aK.2.1 hd.1 aa S cU fL bO A
  ·rename_i aj;rw [aj] at aI;generalize aS e t=u at aI;cases aI;exact P3 E H ρ h e s x dH H' K aK.2.2 hd.2 aa S cU fL bO A
  ·cases aa
 | block id c aN=>
  intro E H ρ h e s x dH H' K aK hd aa S cU fL bO A;simp only [comp,gV] at aa;rw [cF];split at aa
  ·rename_i i hq H1 h1;refine aN E H ρ h e s (.ext i) hq H1 _ aK hd h1 S cU fL bO fun ai bA e' h' an az aB aX=> ?_;cases hb:Nat.beq i id with
   | true=>
    rw [hb,cond_true] at aa;simp only [j3.ok.injEq] at aa;obtain ⟨rfl,rfl,rfl⟩:=aa;simp only [mj,beq_eq hb,if_true];exact A ai bA e' h' an az aB aX
   | false=>
    rw [hb,cond_false] at aa;simp only [j3.ok.injEq] at aa;obtain ⟨rfl,rfl,rfl⟩:=aa;have:¬i=id:=fun e0=>by subst e0;simp at hb
    simp only [mj,this,if_false];exact A ai bA e' h' an az aB aX
  ·rename_i b7;refine aN E H ρ h e s x dH H' _ aK hd aa S cU fL bO fun ai bA e' h' an az aB aX=> ?_;have:=A ai bA e' h' an az aB aX;cases x with
   | cB=>exact this
   | ext i=>exact absurd aa (b7 i dH H')
   | ret=>exact this
 | loop c aN=>
  intro E H ρ h e s x dH H' K aK hd aa S cU fL bO A;simp only [comp,gV] at aa;rw [cF];intro X qP;revert aa;generalize 5000=fuel;intro aa
  induction fuel generalizing E H ρ h e s with
  | zero=>cases aa
  | succ fuel P4=>
   simp only [GQ] at aa;refine qP e d s h ?_;split at aa
   ·rename_i hq H1 h1;refine aN E H ρ h e s .cB hq H1 _ aK hd h1 S cU fL bO fun ai bA e' h' an az aB aX=> ?_;exact P4 hq H1 bA h' e' ai az (Nat.le_trans cU aX.ar) an aB (A.step S az aX) aa
   ·rename_i b7;refine aN E H ρ h e s x dH H' _ aK hd aa S cU fL bO fun ai bA e' h' an az aB aX=> ?_;have:=A ai bA e' h' an az aB aX;cases x with
    | cB=>exact absurd aa (b7 dH H')
    | ext i=>exact this
    | ret=>exact this
 | exit id=>
  intro E H ρ h e s x dH H' K _ _ aa S cU fL bO A;simp only [comp,gV,j3.ok.injEq] at aa;obtain ⟨rfl,rfl,rfl⟩:=aa;exact A s ρ e h fL S bO (gu.refl S)
 | ret=>
  intro E H ρ h e s x dH H' K _ _ aa S cU fL bO A;simp only [comp,gV,j3.ok.injEq] at aa;obtain ⟨rfl,rfl,rfl⟩:=aa;exact A s ρ e h fL S bO (gu.refl S)
 | scope c aN=>exact fun E H ρ h e s x dH H' K aK hd aa S cU fL bO A=>aN E H ρ h e s x dH H' K aK hd aa S cU fL bO A
 | region id ops draw=>
  intro E H ρ h e s x dH H' K aK hd aa S cU fL bO A;cases draw with
  | false=>
   simp only [comp,cond_false,ng.hV,gV] at aK aa;obtain ⟨rfl,q⟩:=ad3 (b:=b) hC ops.toList E H ρ h e s x _ aK aa S cU fL bO A;simp only [cF,Bool.false_eq_true,if_false];exact q
  | true=>
   simp only [comp,cond_true,ng.hV,gV] at aK aa;obtain ⟨rfl,q⟩:=du b d ops (cz id) E dH H H' ρ h e s x _ aK hd aa S cU fL bO A;simp only [cF,if_true];exact q
 | rangeFunc f bF gN body _ _=>intro E H ρ h e s x dH H' K _ _ aa;simp only [comp,gV] at aa;cases aa
 | goto l=>intro E H ρ h e s x dH H' K _ _ aa;simp only [comp,gV] at aa;cases aa
 | refuse w=>intro E H ρ h e s x dH H' K _ _ aa;simp only [comp,gV] at aa;cases aa
def GU(P:Program)(n:Nat):List ResultVar->List (Nat×Option (Bool×Nat))->Prop
 | [],[]=>True
 | .tmp t::l,(u,none)::m=>t=u/\t<n/\GU P n l m
 | .cell a t::l,(u,some (ag,k))::m=>a=u/\a<n/\gq P t=some (if ag then some k else none)/\(ag=false->k=1)/\GU P n l m
 | _,_=>False
def xE(P:Program)(n:Nat):List ResultVar->List (Nat×Option (Bool×Nat))->Bool
 | [],[]=>true
 | .tmp t::l,(u,none)::m=>Nat.beq t u&&Nat.blt t n&&xE P n l m
 | .cell a t::l,(u,some (ag,k))::m=>Nat.beq a u&&Nat.blt a n&&(match gq P t,ag with
   | some (some j),true=>Nat.beq j k
   | some none,false=>Nat.beq k 1
   | _,_=>false)&&xE P n l m
 | _,_=>false
theorem KF{n:Nat}:∀(l:List ResultVar) (m:List (Nat×Option (Bool×Nat))),xE P n l m=true->GU P n l m
 | [],[],_=>trivial
 | .tmp t::l,(u,none)::m,h=>by
  simp only [xE,Bool.and_eq_true] at h;exact ⟨beq_eq h.1.1,sc h.1.2,KF l m h.2⟩
 | .cell a t::l,(u,some (ag,k))::m,h=>by
  simp only [xE,Bool.and_eq_true] at h;obtain ⟨⟨⟨h1,h2⟩,h3⟩,h4⟩:=h;refine ⟨beq_eq h1,sc h2,?_,?_,KF l m h4⟩
  ·split at h3
   ·rename_i j aA;rw [aA,beq_eq h3];rfl
   ·rename_i aA;rw [aA];rfl
   ·cases h3
  ·intro e0;subst e0;split at h3
   ·rename_i h5;cases h5
   ·exact beq_eq h3
   ·cases h3
 | [],_::_,h=>by cases h
 | .tmp _::_,[],h=>by cases h
 | .cell _ _::_,[],h=>by cases h
 | .tmp _::_,(_,some _)::_,h=>by cases h
 | .cell _ _::_,(_,none)::_,h=>by cases h
theorem EB(S:cD P bj ρ H.get H.ar h)(bO:l6 ρ E e){m:Nat}(F:ResultVar->Sem Value)(Il:∀t,F (.tmp t)=pure ((Array.ofFn (n:=m) fun i=>e i).getD t undef))(C3:∀a t,F (.cell a t)=do loadVar t (<- asAddr ((Array.ofFn (n:=m) fun i=>e i).getD a undef))):∀(l:List ResultVar) (rs:List (Nat×Option (Bool×Nat))) (k:List Value->Option (Value×aL)) (r:Value×aL),GU P m l rs->rj E H rs k=some r->
  ∃vs ev,k vs=some r/\cV ρ vs ev/\∀Q,bf P (l.mapM F) h Q=Q ev h
 | [],[],k,r,_,aa=>⟨[],[],aa,.nil,fun Q=>rfl⟩
 | .tmp t::l,(u,none)::rs,k,r,⟨h1,h2,h3⟩,aa=>by
  subst h1;simp only [rj] at aa;obtain ⟨vs,ev,an,az,aB⟩:=EB S bO F Il C3 l rs _ r h3 aa;refine ⟨_,e t::ev,an,.cons (bO t) az,fun Q=> ?_⟩;simp only [List.mapM_cons,aV,bh,aB,Il];simp [Array.getD,h2]
 | .cell a t::l,(u,some (ag,n))::rs,k,r,⟨h1,h2,h3,h4,h5⟩,aa=>by
  subst h1;simp only [rj] at aa;split at aa
  ·rename_i c o he;have aI:=bO a;rw [he] at aI;generalize ava:e a=lx at aI;cases aI with
   | ptr o al=>
    rename_i bb kk;obtain ⟨ws,kW,k1,bX,eL,e8,y,A9⟩:=zA S al aa;have aG:((Array.ofFn (n:=m) fun i=>e i).getD a undef)=.pointer (some ⟨bb,o,none⟩):=by simp [Array.getD,h2];exact ava
    cases ag with
    | true=>
     simp only at k1;obtain ⟨vs,ev,an,az,aB⟩:=EB S bO F Il C3 l rs _ r h5 k1;refine ⟨_,.agg ⟨kW⟩::ev,an,.cons (.agg bX) az,fun Q=> ?_⟩;simp only [List.mapM_cons,C3,aV,bh,aB,aG,asAddr,wN,h3,if_true,tA,e8]
    | false=>
     have:=h4 rfl;subst this
     match ws,kW,bX,eL with
     | [w],[w'],.cons hw _,_=>
      simp only at k1;obtain ⟨vs,ev,an,az,aB⟩:=EB S bO F Il C3 l rs _ r h5 k1;refine ⟨_,w'::ev,an,.cons hw az,fun Q=> ?_⟩;have hc:h.cell? ⟨bb,o,none⟩=some w':=by
       rw [p5] at e8;cases hc:h.cell? ⟨bb,o+0,none⟩ with
       | none=>rw [hc] at e8;simp [q9] at e8
       | some z=>
        rw [hc] at e8;simp only [Bq,q9,Option.some.injEq,List.cons.injEq,and_true] at e8;subst e8;rfl
      simp only [List.mapM_cons,C3,aV,bh,aB,aG,asAddr,wN,h3,Bool.false_eq_true,if_false,tA,hc]
  ·cases aa
 | [],_::_,_,_,h,_=>h.elim
 | .tmp _::_,[],_,_,h,_=>h.elim
 | .cell _ _::_,[],_,_,h,_=>h.elim
 | .tmp _::_,(_,some _)::_,_,_,h,_=>h.elim
 | .cell _ _::_,(_,none)::_,_,_,h,_=>h.elim
theorem VC:∀(b8:List Value) (i:Nat) (E:cJ) (t:Nat),(tI i b8 E).rd t=if i<=t/\t<i+b8.length then b8.getD (t- i) undef else E.rd t
 | [],i,E,t=>by rw [tI,if_neg (by simp)]
 | v::l,i,E,t=>by
  rw [tI];show (tH E (some i) v (fun e=>tI (i+1) l e)).rd t=_;rw [pn,VC l (i+1),BT];simp only [List.length_cons];by_cases h1:t=i
  ·subst h1;rw [if_neg (by omega),if_pos rfl,if_pos (by omega)];simp
  ·by_cases h2:i+1<=t/\t<i+1+l.length
   ·rw [if_pos h2,if_pos (by omega),show t- i=(t- (i+1))+1 by omega];simp
   ·rw [if_neg h2,if_neg h1,if_neg (by omega)]
theorem ad4(b8:List Value)(t:Nat):dE b8 t=b8.getD t undef:=rfl
theorem cV.getD{l dG:List Value}(af:cV ρ l dG)(t:Nat):bw ρ (l.getD t undef) (dG.getD t undef):=by
 induction l generalizing dG t with
 | nil=>cases af;simpa using bw.undef
 | cons a l aN=>cases af with|cons x y=>cases t with|zero=>exact x|succ t=>simpa using aN y t
theorem K8{b8 qD:List Value}(aA:cV ρ b8 qD):l6 ρ (tI 0 b8 .nil) (dE qD):=by
 intro t;rw [VC,ad4];by_cases aj:t<b8.length
 ·rw [if_pos ⟨Nat.zero_le _,by omega⟩];exact aA.getD t
 ·rw [if_neg (by omega)];have:qD.getD t undef=undef:=by
   rw [List.getD_eq_getElem?_getD,List.getElem?_eq_none (by rw [aA.length];omega)];rfl
  rw [this];exact bw.undef
structure ZR(P:Program)(bj:Nat)(f:FuncId)(F:yz):Prop where
 ex:∃fn c cz,P.funcs[f]? =some fn/\fn.body=some c/\fn.ntmps=F.n/\ga F.n c=true/\comp P cz c=F.body/\F.body.hV bj=true/\iu P cz c=true/\xE P F.n fn.results.toList F.res=true
 ck:bP P f=true
theorem ady(sG:FuncId->Option yz)(orc:FuncId->List Value->aL->Option (Option (Value×aL)))(aj:∀f F,sG f=some F->ZR P bj f F)
  (aQ:q1 P main Sy J bj fun f b8 H=>match orc f b8 H with|some r=>r|none=>none) (du:∀m,q1 P main Sy J bj (eH sG orc m)->F1 P main Sy J bj (eH sG orc m)):∀m,q1 P main Sy J bj (eH sG orc m):=by
 intro m
 induction m with
 | zero=>intro f b8 v H H' aa;cases aa
 | succ m aN=>
  intro f b8 v H H' aa ρ h qD s S aA cU fL;simp only [eH] at aa;split at aa
  ·rename_i r al;exact aQ f b8 v H H' (by simp only [al];exact aa) ρ h qD s S aA cU fL
  ·split at aa
   ·cases aa
   ·rename_i F eM;obtain ⟨⟨fn,c,cz,f1,f2,f3,f4,f5,f6,f8,f7⟩,ck⟩:=aj f F eM;refine ⟨ck,?_⟩;cases hle:Nat.ble b8.length F.n with
    | false=>rw [hle] at aa;cases aa
    | true=>
     rw [hle,cond_true] at aa;have key:∀(x:eZ) (hq:cJ) (H1:aL),(x=.cB\/x=.ret)->gV (eH sG orc m) F.body (tI 0 b8 .nil) H=.ok x hq H1->
       (rj hq H1 F.res fun vs=>match vs with|[v]=>some (v,H1)|vs=>some (.tuple ⟨vs⟩,H1))=some (v,H')->
       bI P main Sy f ⟨qD⟩ s h fun ai h' bQ=>J ai/\∃bA,cD P bj bA H'.get H'.ar h'/\bw bA v bQ/\gu H ρ h H' bA h':=by
      intro x hq H1 avb vW avc;refine cc (args:=qD) f1 f2 f3 (by rw [aA.length];exact gj hle) f4 ?_;rw [<- f5] at vW f6;refine E0 aN (du m aN) cz c _ H ρ h (dE qD) s x hq H1 _ f6 f8 vW S cU fL (K8 aA) fun ai bA e' h' an az aB aX=> ?_;let ayW:ResultVar->Sem Value:=fun
       | .tmp t=>pure ((Array.ofFn (n:=F.n) fun i=>e' i).getD t undef)
       | .cell a t=>do loadVar t (<- asAddr ((Array.ofFn (n:=F.n) fun i=>e' i).getD a undef))
      obtain ⟨vs,ev,k1,bX,eL⟩:=EB az aB (m:=F.n) ayW (fun _=>rfl) (fun _ _=>rfl) fn.results.toList F.res _ _ (KF _ _ f7) avc;have fin:er P fn (fun ai h' bQ=>J ai/\∃bA,cD P bj bA H'.get H'.ar h'/\bw bA v bQ/\gu H ρ h H' bA h') F.n e' [] ai h':=by
       simp only [er,kF,results,aV,Array.mapM_eq_mapM_toList,Bx];refine (eL _).mpr ?_;simp only [bh]
       match vs,ev,bX,k1 with
       | [],[],.nil,k1=>cases k1;exact ⟨an,bA,az,.tuple .nil,aX⟩
       | [w],[w'],.cons hw .nil,k1=>cases k1;exact ⟨an,bA,az,hw,aX⟩
       | w1::w2::ws,aAU::aAV::kW,hw,k1=>cases k1;exact ⟨an,bA,az,.tuple hw,aX⟩
      rcases avb with rfl|rfl
      ·exact fin
      ·exact fin
     split at aa
     ·cases aa
     ·rename_i x hq H1 b7 vW;cases x with
      | ext i=>exact absurd rfl (b7 i)
      | cB=>exact key _ _ _ (.inl rfl) vW aa
      | ret=>exact key _ _ _ (.inr rfl) vW aa
     ·cases aa
end
theorem Ev:∀(l:List Oper) (i:Nat),nu i l=true->∀(j:Nat) (o:Oper),l[j]? =some o->∀x∈o.after,Region.binds .any x=true->x.on<i+j
 | [],i,_,j,o,aQ,_,_,_=>by simp at aQ
 | aO::l,i,af,j,o,aQ,x,aa,hb=>by
  simp only [nu,Bool.and_eq_true] at af;cases j with
  | zero=>
   simp at aQ;subst aQ;have:=List.all_eq_true.1 af.1 x (by simpa using aa);rw [hb] at this;exact sc (by simpa using this)
  | succ j=>
   have:=Ev l (i+1) af.2 j o (by simpa using aQ) x aa hb;omega
section
variable{P:Program}{main:Bool}{ah:Type}{Sy:Sys ah}{b:bn}{d:List Deferred}{ops:Array Oper}{N:Env->List Deferred->ah->ab->Prop}
theorem EG{o:Oper}{e:Env}{d:List Deferred}{s:ah}{h:ab}{N M:Env->List Deferred->ah->ab->Prop}(cY:∀e d s h,N e d s h->M e d s h)(u:n9 P main Sy b o e d s h N):n9 P main Sy b o e d s h M:=
 u.imp (fun u=>⟨u.1,oF P _ (fun ar h u=>by
  cases ar<;>first
   | exact cY _ _ _ _ u
   | exact bI.mono (fun _ _ _=>cY _ _ _ _) u
   | exact kq.mono (fun _ _ _=>cY _ _ _ _) u
   | exact u) u.2⟩) (lJ.mono fun _ _ _=>cY _ _ _ _)
def jr(l:Array Bool)(i:Nat):Bool:=l.getD i false
def jV(n:Nat)(l:Array Bool):Nat:=((List.range n).filter fun i=> !jr l i).length
theorem akp{n:Nat}{l:Array Bool}(hs:l.size=n){i:Nat}(hi:i<n)(af:jr l i=false):jV n (l.setIfInBounds i true)<jV n l:=by
 unfold jV;have hle:∀(q:List Nat),(q.filter fun j=> !jr (l.setIfInBounds i true) j).length<=(q.filter fun j=> !jr l j).length/\(i∈q->(q.filter fun j=> !jr (l.setIfInBounds i true) j).length<(q.filter fun j=> !jr l j).length):=by
  intro q
  induction q with
  | nil=>simp
  | cons a q aN=>
   have vl:a≠i->jr (l.setIfInBounds i true) a=jr l a:=fun b7=>by
    simp [jr,Array.getD_eq_getD_getElem?,Array.getElem?_setIfInBounds_ne (Ne.symm b7)]
   have AI:jr (l.setIfInBounds i true) i=true:=by
    simp [jr,Array.getD_eq_getD_getElem?,hs,hi]
   by_cases aA:a=i
   ·subst aA;simp only [List.filter_cons,AI,af,Bool.not_true,Bool.not_false,if_true,Bool.false_eq_true,if_false,List.length_cons];exact ⟨by omega,fun _=>by omega⟩
   ·simp only [List.filter_cons,vl aA];refine ⟨?_,fun hm=> ?_⟩
    ·split<;>(try simp only [List.length_cons])<;>omega
    ·have mr:i∈q:=by
      rcases List.mem_cons.1 hm with h|h
      ·exact absurd h.symm aA
      ·exact h
     have:=aN.2 mr;split<;>(try simp only [List.length_cons])<;>omega
 exact (hle _).2 (by simpa using hi)
theorem y1(he:nu 0 ops.toList=true)(Inv:(Nat->Bool)->Env->ah->ab->Prop)
  (du:∀D l5 e s h,(∀i,i<ops.size->D i=l5 i)->Inv D e s h->Inv l5 e s h)
  (step:∀D e s h i o,Inv D e s h->i<ops.size->D i=false->ops[i]? =some o->(∀x∈o.after,Region.binds .any x=true->D x.on=true)->
   if Region.wanted o (kH ops e)=true then n9 P main Sy b o e d s h (fun e gE s h=>gE=d/\Inv (fun j=>if j=i then true else D j) e s h) else Inv (fun j=>if j=i then true else D j) (cv e o.dst undef) s h)
  (fin:∀D e s h,Inv D e s h->(∀i,i<ops.size->D i=true)->N e d s h) {e:Env} {s:ah} {h:ab} (h0:Inv (fun _=>false) e s h) (t:Nat):
  gk P main Sy b ops (Region.linearise .any ops t) e d s h N:=by
 have split:∀(l m:List Nat) (e:Env) (s:ah) (h:ab) (M:Env->List Deferred->ah->ab->Prop) (d:List Deferred),gk P main Sy b ops (l++m) e d s h M=gk P main Sy b ops l e d s h fun e d s h=>gk P main Sy b ops m e d s h M:=by
  intro l
  induction l with
  | nil=>intros;rfl
  | cons i l aN=>
   intro m e s h M d;simp only [List.cons_append,gk];cases ops[i]? with
   | none=>simp only [aN]
   | some o=>simp only [aN]
 have key:∀(fuel t:Nat) (listed:Array Bool) (e:Env) (s:ah) (h:ab),listed.size=ops.size->jV ops.size listed<=fuel->Inv (jr listed) e s h->
   ∃l,(∀acc,Region.linearise.go .any ops fuel t listed acc=acc.reverse++l)/\gk P main Sy b ops l e d s h N:=by
  intro fuel
  induction fuel with
  | zero=>
   intro t listed e s h hs hu bU;refine ⟨[],fun acc=>by simp [Region.linearise.go],fin _ e s h bU fun i hi=> ?_⟩;cases af:jr listed i with
   | true=>rfl
   | false=>
    exfalso;have:0<jV ops.size listed:=by
     unfold jV;refine List.length_pos_of_mem (a:=i) ?_;simp [hi,af]
    omega
  | succ fuel aN=>
   intro t listed e s h hs hu bU;have hgo:∀acc,Region.linearise.go .any ops (fuel+1) t listed acc=(match ((List.range ops.size).filter fun i=>
    !listed.getD i true&&((ops[i]?).map (·.after.all fun e=> !Region.binds .any e||listed.getD e.on false)).getD false)[t%((List.range ops.size).filter fun i=>
    !listed.getD i true&&((ops[i]?).map (·.after.all fun e=> !Region.binds .any e||listed.getD e.on false)).getD false).length]? with
    | some i=>Region.linearise.go .any ops fuel (t/((List.range ops.size).filter fun i=>
    !listed.getD i true&&((ops[i]?).map (·.after.all fun e=> !Region.binds .any e||listed.getD e.on false)).getD false).length) (listed.setIfInBounds i true) (i::acc)
    | none=>acc.reverse):=fun acc=>by rw [Region.linearise.go];rfl
   generalize AJ:((List.range ops.size).filter fun i=>
    !listed.getD i true&&((ops[i]?).map (·.after.all fun e=> !Region.binds .any e||listed.getD e.on false)).getD false)=rs at hgo
   cases aK:rs[t%rs.length]? with
   | none=>
    refine ⟨[],fun acc=>by rw [hgo,aK];simp,fin _ e s h bU ?_⟩;have avd:rs=[]:=by
     cases rs with
     | nil=>rfl
     | cons a r=>
      have:t%(a::r).length<(a::r).length:=Nat.mod_lt _ (by simp);rw [List.getElem?_eq_getElem this] at aK;cases aK
    intro i
    induction i using Nat.strongRecOn with
    | ind i ave=>
     intro hi;cases af:jr listed i with
     | true=>rfl
     | false=>
      exfalso;have hm:i∈rs:=by
       rw [<- AJ];simp only [List.mem_filter,List.mem_range,hi,true_and,Bool.and_eq_true,Bool.not_eq_true'];refine ⟨?_,?_⟩
       ·have:i<listed.size:=by omega
        simp only [jr,Array.getD,this,dif_pos] at af ⊢;exact af
       ·rw [Array.getElem?_eq_getElem hi];simp only [Option.map_some,Option.getD_some];rw [Array.all_eq_true'];intro x aa;cases hb:Region.binds .any x with
        | false=>rfl
        | true=>
         have bY:=Ev ops.toList 0 he i ops[i] (by simp [hi]) x aa hb;simp only [Bool.not_true,Bool.false_or];exact ave x.on (by omega) (by omega)
      rw [avd] at hm;cases hm
   | some i=>
    have hm:i∈rs:=List.mem_of_getElem? aK;rw [<- AJ] at hm;simp only [List.mem_filter,List.mem_range,Bool.and_eq_true,Bool.not_eq_true'] at hm;obtain ⟨hi,h1,h2⟩:=hm;have C4:i<listed.size:=by omega
    have ZS:jr listed i=false:=by
     simp only [jr,Array.getD,C4,dif_pos] at h1 ⊢;exact h1
    rw [Array.getElem?_eq_getElem hi] at h2;simp only [Option.map_some,Option.getD_some] at h2;rw [Array.all_eq_true'] at h2;have aQ:ops[i]? =some ops[i]:=Array.getElem?_eq_getElem hi;have cj:=step _ e s h i ops[i] bU hi ZS aQ fun x aa hb=>by
     have:=h2 x aa;rw [hb] at this;simpa [jr] using this
    have Hv:∀e s h,Inv (fun j=>if j=i then true else jr listed j) e s h->Inv (jr (listed.setIfInBounds i true)) e s h:=fun e s h q=>du _ _ e s h (fun j ae=>by
     by_cases ec:j=i
     ·subst ec;simp [jr,Array.getD_eq_getD_getElem?,C4]
     ·simp [jr,ec,Array.getD_eq_getD_getElem?,Array.getElem?_setIfInBounds_ne (Ne.symm ec)]) q
    have aAG:=akp hs hi ZS;have asy:∀e s h,Inv (fun j=>if j=i then true else jr listed j) e s h->∃l,(∀acc,Region.linearise.go .any ops fuel (t/rs.length) (listed.setIfInBounds i true) acc=acc.reverse++l)/\gk P main Sy b ops l e d s h N:=fun e s h q=>
     aN (t/rs.length) (listed.setIfInBounds i true) e s h (by simp [hs]) (by omega) (Hv e s h q)
    obtain ⟨l,af⟩:∃l,∀acc,Region.linearise.go .any ops fuel (t/rs.length) (listed.setIfInBounds i true) acc=acc.reverse++l:=by
     have gen:∀(fuel t:Nat) (listed:Array Bool),∃l,∀acc,Region.linearise.go .any ops fuel t listed acc=acc.reverse++l:=by
      intro fuel
      induction fuel with
      | zero=>exact fun t listed=>⟨[],fun acc=>by simp [Region.linearise.go]⟩
      | succ fuel aN=>
       intro t listed;simp only [Region.linearise.go];split
       ·rename_i i0 _;obtain ⟨l,af⟩:=aN (t/_) (listed.setIfInBounds i0 true);exact ⟨i0::l,fun acc=>by rw [af];simp⟩
       ·exact ⟨[],fun acc=>by simp⟩
     exact gen _ _ _
    have same:∀e s h,Inv (fun j=>if j=i then true else jr listed j) e s h->gk P main Sy b ops l e d s h N:=fun e s h q=>by
     obtain ⟨dG,sB,aE⟩:=asy e s h q;have:=(af []).symm.trans (sB []);simp at this;subst this;exact aE
    refine ⟨i::l,fun acc=>by rw [hgo,aK];simp only;rw [af];simp,?_⟩;rw [gk,aQ];simp only;split
    ·rename_i hw;rw [if_pos hw] at cj;exact EG (fun e gE s h ⟨hd,q⟩=>by subst hd;exact same e s h q) cj
    ·rename_i hw;rw [if_neg hw] at cj;exact same _ _ _ cj
 obtain ⟨l,af,aE⟩:=key ops.size t (Array.replicate ops.size false) e s h (by simp) (by
  unfold jV;refine Nat.le_trans (List.length_filter_le _ _) (by simp)) (du _ _ e s h (fun i hi=>by simp [jr,Array.getD_eq_getD_getElem?,hi]) h0)
 have:Region.linearise .any ops t=l:=by
  unfold Region.linearise;rw [af];simp
 rw [this];exact aE
end
structure Can(H H':aL):Prop where
 ar:H.ar<=H'.ar
 cg:H'.cg=H.cg
 bZ:H'.bZ=H.bZ
 can:∀c,(c<H.ar\/H'.ar<=c)->¬gH H c->H'.t.get c=H.t.get c
theorem Can.refl(H:aL):Can H H:=⟨Nat.le_refl _,rfl,rfl,fun _ _ _=>rfl⟩
theorem Can.trans{a b c:aL}(h:Can a b)(k:Can b c):Can a c:=by
 have aAW:=h.ar;have aAX:=k.ar;refine ⟨Nat.le_trans h.ar k.ar,k.cg.trans h.cg,k.bZ.trans h.bZ,fun d hd ao=> ?_⟩;have e:=h.can d (by omega) ao;rw [k.can d (by omega) (fun hw=>ao ?_),e];obtain ⟨h1,x,h2,h3⟩:=hw;refine ⟨by rw [<- h.cg];exact h1,x,?_,h3⟩;rw [aL.get_eq] at h2 ⊢;rw [h.bZ,e] at h2;exact h2
theorem Can.set{H:aL}{c:Nat}{x y:cn}(aG:H.get c=some x)(af:Nat.ble H.cg c=true)(aI:x.live=true):Can H (H.set c y):=by
 refine ⟨Nat.le_refl _,rfl,rfl,fun d hd ao=> ?_⟩;rw [aL.wT,if_neg (fun e=>ao (by subst e;exact GR af aG aI))]
theorem Can.new(H:aL)(y:cn):Can H (H.new y):=by
 refine ⟨Nat.le_succ _,rfl,rfl,fun d hd ao=> ?_⟩;have:d<H.ar\/H.ar+1<=d:=hd;rw [aL.u9,if_neg (by omega)]
theorem gH.can{a b:aL}(h:Can a b){c:Nat}(hc:c<a.ar)(hw:gH b c):gH a c:=by
 refine Classical.byContradiction fun ao=>ao ?_;obtain ⟨h1,x,h2,h3⟩:=hw;refine ⟨by rw [<- h.cg];exact h1,x,?_,h3⟩;rw [aL.get_eq] at h2 ⊢;rw [h.bZ,h.can c (.inl hc) ao] at h2;exact h2
def r8(call:FuncId->List Value->aL->Option (Value×aL)):Prop:=∀f b8 v H H',call f b8 H=some (v,H')->Can H H'
section
variable{H H':aL}{call:FuncId->List Value->aL->Option (Value×aL)}{E dH:cJ}{v:Value}
theorem zS{β:Type}{b o n:Nat}{k:List Value->Option β}{r:β}(aa:qA H b o n k=some r):∃vs,k vs=some r:=by
 obtain ⟨_,_,_,_,_,_,h⟩:=Uq aa;exact ⟨_,h⟩
theorem xk{β:Type}{b o:Nat}{vs:List Value}{k:aL->Option β}{r:β}(aa:uf H b o vs k=some r):∃y,k (H.set b y)=some r/\Can H (H.set b y):=by
 unfold uf at aa;split at aa
 ·rename_i lo t cs aG;cases af:Nat.ble H.cg b with
  | false=>rw [af] at aa;cases aa
  | true=>
   rw [af,cond_true] at aa;cases aQ:qa vs with
   | false=>rw [aQ] at aa;cases aa
   | true=>
    rw [aQ,cond_true] at aa;obtain ⟨_,hk⟩:=zk _ _ _ _ _ aa;rw [aL.nX] at hk;exact ⟨_,hk,Can.set aG af rfl⟩
 ·cases aa
theorem kh{c:Bool}{β:Type}{a:Option β}{r:β}(aa:cond c a none=some r):c=true/\a=some r:=by cases c with|true=>exact ⟨rfl,aa⟩|false=>cases aa
theorem va{c:Bool}{β:Type}{a b:Option β}{r:β}(aa:cond c a b=some r):(c=true/\a=some r)\/(c=false/\b=some r):=by cases c with|true=>exact .inl ⟨rfl,aa⟩|false=>exact .inr ⟨rfl,aa⟩
theorem K9{β:Type}{k:List Value->Option β}{r:β}:∀(l:List (Nat×Nat×Operand)) (cs:List Value),xi E cs l k=some r->∃c,k c=some r
 | [],cs,aa=>⟨cs,aa⟩
 | (o,n,x)::l,cs,aa=>by
  simp only [xi] at aa;obtain ⟨_,aa⟩:=kh aa;obtain ⟨_,aa⟩:=zk _ _ _ _ _ aa;exact K9 l _ aa
theorem ahm{op:BinOp}{kd:Jn}{x y:Value}(aa:vv op kd x y (fun v=>some (v,H))=some (v,H')):H'=H:=by
 have bU:∀{k n},qB k n (fun v=>some (v,H))=some (v,H')->H'=H:=fun h=>by have:=qb h;cases this;rfl
 have dM:∀{b},okB b (fun v=>some (v,H))=some (v,H')->H'=H:=fun h=>by have:=nU h;cases this;rfl
 unfold vv at aa;split at aa
 ·split at aa
  ·split at aa
   ·split at aa
    ·exact bU (kh aa).2
    ·cases aa
   ·split at aa
    ·have:=(kh aa).2;rw [jH] at this;cases this;rfl
    ·cases aa
   ·have aa:=(kh aa).2;split at aa
    ·exact bU aa
    ·exact bU aa
    ·exact bU aa
    ·exact dM aa
    ·exact dM aa
    ·exact dM aa
    ·exact dM aa
    ·exact dM aa
    ·exact dM aa
    ·split at aa
     ·rcases va aa with ⟨_,aa⟩|⟨_,aa⟩
      ·cases aa
      ·rw [jH] at aa;cases aa;rfl
     ·cases aa
    ·split at aa
     ·rcases va aa with ⟨_,aa⟩|⟨_,aa⟩
      ·cases aa
      ·exact bU aa
     ·cases aa
    ·split at aa
     ·exact bU aa
     ·cases aa
    ·split at aa
     ·exact bU aa
     ·cases aa
    ·cases aa
  ·cases aa
 ·split at aa
  ·split at aa<;>first|exact dM aa|cases aa
  ·cases aa
 ·split at aa
  ·split at aa<;>first|exact dM aa|cases aa
  ·cases aa
 ·split at aa
  ·split at aa<;>first|exact dM aa|cases aa
  ·cases aa
 ·split at aa
  ·have aa:=(kh aa).2;split at aa
   ·split at aa<;>first|exact dM aa|cases aa
   ·cases aa
  ·cases aa
 ·cases aa
theorem vd(hc:r8 call){op:dr}(aa:cA call E H op=some (v,H')):Can H H':=by
 have same:H'=H->Can H H':=fun e=>by subst e;exact .refl _
 have nw:∀{y:cn} {f:Nat->Value},H.qp y (fun n H=>some (f n,H))=some (v,H')->Can H H':=fun h=>by
  rw [aL.qZ] at h;cases h;exact Can.new _ _
 unfold cA at aa;simp only at aa;split at aa
 ·cases aa;exact .refl _
 ·split at aa<;>first|(cases aa;exact .refl _)|cases aa
 ·exact nw aa
 ·exact nw (kh aa).2
 ·obtain ⟨c,aa⟩:=K9 _ _ aa;cases aa;exact .refl _
 ·obtain ⟨c,aa⟩:=K9 _ _ aa;exact nw aa
 ·split at aa
  ·obtain ⟨c,aa⟩:=zS aa;split at aa<;>first|(cases aa;exact .refl _)|cases aa
  ·cases aa
 ·split at aa
  ·obtain ⟨c,aa⟩:=zS aa;cases aa;exact .refl _
  ·cases aa
 ·split at aa
  ·obtain ⟨y,aa,hC⟩:=xk (kh aa).2;cases aa;exact hC
  ·cases aa
 ·split at aa<;>first|(cases aa;exact .refl _)|cases aa
 ·exact same (ahm aa)
 ·split at aa<;>first|(cases aa;exact .refl _)|(have:=qb aa;cases this;exact .refl _)|cases aa
 ·split at aa<;>first|(have:=qb aa;cases this;exact .refl _)|cases aa
 ·cases aa;exact .refl _
 ·cases aa;exact .refl _
 ·exact nw aa
 ·split at aa
  ·exact nw (kh aa).2
  ·cases aa
 ·split at aa
  ·split at aa
   ·split at aa
    ·have aa:=(kh aa).2;rw [wS] at aa;obtain ⟨_,aa⟩:=za _ _ _ _ aa;cases aa;exact .refl _
    ·cases aa
   ·cases aa
  ·cases aa
 ·split at aa
  ·split at aa
   ·split at aa
    ·split at aa
     ·split at aa
      ·simp only [jH] at aa;rcases va aa with ⟨_,aa⟩|⟨_,aa⟩<;>(cases aa;exact .refl _)
      ·cases aa
     ·cases aa
    ·cases aa
   ·cases aa
  ·split at aa<;>first|(cases aa;exact .refl _)|cases aa
  ·cases aa
 ·split at aa
  ·split at aa
   ·split at aa
    ·split at aa
     ·have aa:=(kh aa).2;simp only [jH] at aa;rcases va aa with ⟨_,aa⟩|⟨_,aa⟩<;>(cases aa;exact .refl _)
     ·cases aa
    ·cases aa
   ·cases aa
  ·cases aa
 ·split at aa
  ·rw [jH] at aa;cases aa;exact .refl _
  ·cases aa
 ·split at aa
  ·have aa:=(kh aa).2;rw [jH] at aa;cases aa;exact .refl _
  ·cases aa
 ·split at aa
  ·have aa:=(kh aa).2;rw [jH] at aa;cases aa;exact .refl _
  ·cases aa
 ·split at aa
  ·have aa:=(kh aa).2;unfold Ok at aa;split at aa
   ·rw [wS] at aa;obtain ⟨_,aa⟩:=za _ _ _ _ aa;cases aa;exact .refl _
   ·split at aa<;>first|(cases aa;exact .refl _)|cases aa
  ·cases aa
 ·split at aa
  ·split at aa
   ·rw [jH] at aa;cases aa;exact .refl _
   ·cases aa
  ·cases aa
 ·split at aa
  ·split at aa
   ·split at aa
    ·split at aa<;>(cases aa;exact .refl _)
    ·split at aa<;>(cases aa;exact .refl _)
    ·cases aa
   ·cases aa
  ·cases aa
 ·split at aa
  ·split at aa
   ·rename_i aG;obtain ⟨af,aa⟩:=kh aa;split at aa
    ·rw [aL.nX] at aa;cases aa;exact Can.set aG af rfl
    ·rw [aL.nX] at aa;cases aa;exact Can.set aG af rfl
    ·cases aa
   ·cases aa
  ·cases aa
 ·split at aa
  ·split at aa<;>first|(cases aa;exact .refl _)|cases aa
  ·cases aa
 ·exact hc _ _ _ _ _ aa
 ·split at aa
  ·exact hc _ _ _ _ _ aa
  ·cases aa
 ·split at aa
  ·rw [jH] at aa;cases aa;exact .refl _
  ·cases aa
 ·split at aa
  ·rw [jH] at aa;cases aa;exact .refl _
  ·cases aa
 ·cases aa;exact .refl _
 ·split at aa
  ·rcases va aa with ⟨_,aa⟩|⟨_,aa⟩<;>(cases aa;exact .refl _)
  ·cases aa
 ·split at aa
  ·rename_i bV m c2 P0;have key:∀{bo:Nat} {kk:List Value->Option (Value×aL)},((match bV with
    | some ⟨b,o,none⟩=>qA H b o (m*bo)
    | _=>fun k=>cond (Nat.beq m 0) (k []) none) kk)=some (v,H')->∃vs,kk vs=some (v,H'):=by
    intro bo kk hk;split at hk
    ·exact zS hk
    ·exact ⟨_,(kh hk).2⟩
   obtain ⟨vs,aa⟩:=key aa;split at aa
   ·split at aa
    ·cases aa;exact .refl _
    ·exact nw (kh aa).2
   ·rw [jH] at aa;have aa:=(kh aa).2;rcases va aa with ⟨_,aa⟩|⟨_,aa⟩
    ·split at aa
     ·rename_i aG;rcases va aa with ⟨_,aa⟩|⟨_,aa⟩
      ·obtain ⟨y,aa,hC⟩:=xk (kh aa).2;cases aa;exact hC
      ·obtain ⟨hd,aa⟩:=kh aa;rw [aL.nX,aL.qZ] at aa;simp only [Bool.and_eq_true] at hd;cases aa;exact (Can.set aG hd.1.1.1.2 rfl).trans (Can.new _ _)
     ·cases aa
    ·rcases va aa with ⟨_,aa⟩|⟨_,aa⟩
     ·obtain ⟨y,aa,hC⟩:=xk aa;cases aa;exact hC
     ·obtain ⟨old,aa⟩:=zS aa;exact nw aa
   ·cases aa
  ·cases aa
 ·split at aa
  ·rw [jH] at aa;obtain ⟨c,aa⟩:=zS aa;obtain ⟨y,aa,hC⟩:=xk aa;cases aa;exact hC
  ·cases aa
 ·split at aa
  ·cases aa;exact .refl _
  ·obtain ⟨y,aa,hC⟩:=xk aa;cases aa;exact hC
  ·cases aa
 ·cases aa
theorem JW{b:Nat}:∀(made:List (Nat×Nat×Nat)) (l:List (Nat×Nat)) (c:Nat),dg (me b made l) c=true↔dg l c=true\/∃k lo hi,(k,lo,hi)∈made/\Nat.testBit b k=false/\lo<=c/\c<hi
 | [],l,c=>by simp [me]
 | (i,lo,hi)::r,l,c=>by
  have aN:=JW (b:=b) r l c;simp only [me];cases hc:(Nat.testBit b i||Nat.beq lo hi) with
  | true=>
   rw [cond_true,aN];constructor
   ·rintro (h|⟨k,p,q,h1,h2,h3⟩)
    ·exact .inl h
    ·exact .inr ⟨k,p,q,List.mem_cons_of_mem _ h1,h2,h3⟩
   ·rintro (h|⟨k,p,q,h1,h2,h3,h4⟩)
    ·exact .inl h
    ·rcases List.mem_cons.1 h1 with e|e
     ·have e1:k=i/\p=lo/\q=hi:=by simpa using e
      rw [e1.1] at h2;rw [h2,Bool.false_or] at hc;have:=beq_eq hc;omega
     ·exact .inr ⟨k,p,q,e,h2,h3,h4⟩
  | false=>
   simp only [Bool.or_eq_false_iff] at hc;rw [cond_false];have Pd:dg ((lo,hi)::me b r l) c=true↔(lo<=c/\c<hi)\/dg (me b r l) c=true:=by
    simp only [dg];cases h1:Nat.ble lo c with
    | false=>
     have:¬lo<=c:=fun h=>by rw [Nat.ble_eq_true_of_le h] at h1;cases h1
     rw [cond_false];simp [this]
    | true=>
     have an:=gj h1;rw [cond_true];cases h2:Nat.ble hi c with
     | true=>have:=gj h2;rw [cond_true];simp;omega
     | false=>
      have:¬hi<=c:=fun h=>by rw [Nat.ble_eq_true_of_le h] at h2;cases h2
      rw [cond_false];simp;omega
   rw [Pd,aN];constructor
   ·rintro (h|h|⟨k,p,q,h1,h2,h3⟩)
    ·exact .inr ⟨i,lo,hi,List.mem_cons_self,hc.1,h⟩
    ·exact .inl h
    ·exact .inr ⟨k,p,q,List.mem_cons_of_mem _ h1,h2,h3⟩
   ·rintro (h|⟨k,p,q,h1,h2,h3⟩)
    ·exact .inr (.inl h)
    ·rcases List.mem_cons.1 h1 with e|e
     ·cases e;exact .inl h3
     ·exact .inr (.inr ⟨k,p,q,e,h2,h3⟩)
theorem La{bef:List Nat}{e:cJ}{i:Nat}:∀(cz:List (Nat×Nat)) (l:List (Nat×Nat)) (c:Nat),dg (lH bef e i cz l) c=true↔dg l c=true\/∃k w,(k,w)∈cz/\apart bef i k=true/\nW (e.rd w)=some c
 | [],l,c=>by simp [lH]
 | (k,w)::r,l,c=>by
  have aN:=La (bef:=bef) (e:=e) (i:=i) r l c;simp only [lH];cases aA:apart bef i k with
  | false=>
   rw [cond_false,aN];constructor
   ·rintro (h|⟨k',w',h1,h2⟩)
    ·exact .inl h
    ·exact .inr ⟨k',w',List.mem_cons_of_mem _ h1,h2⟩
   ·rintro (h|⟨k',w',h1,h2,h3⟩)
    ·exact .inl h
    ·rcases List.mem_cons.1 h1 with e'|e'
     ·cases e';rw [aA] at h2;cases h2
     ·exact .inr ⟨k',w',e',h2,h3⟩
  | true=>
   rw [cond_true];cases hb:nW (e.rd w) with
   | none=>
    simp only;rw [aN];constructor
    ·rintro (h|⟨k',w',h1,h2⟩)
     ·exact .inl h
     ·exact .inr ⟨k',w',List.mem_cons_of_mem _ h1,h2⟩
    ·rintro (h|⟨k',w',h1,h2,h3⟩)
     ·exact .inl h
     ·rcases List.mem_cons.1 h1 with e'|e'
      ·cases e';rw [hb] at h3;cases h3
      ·exact .inr ⟨k',w',e',h2,h3⟩
   | some B=>
    simp only;have Pd:dg ((B,B+1)::lH bef e i r l) c=true↔c=B\/dg (lH bef e i r l) c=true:=by
     simp only [dg];cases h1:Nat.ble B c with
     | false=>
      have:¬B<=c:=fun h=>by rw [Nat.ble_eq_true_of_le h] at h1;cases h1
      rw [cond_false];simp;omega
     | true=>
      have an:=gj h1;rw [cond_true];cases h2:Nat.ble (B+1) c with
      | true=>have:=gj h2;rw [cond_true];simp;omega
      | false=>
       have:¬B+1<=c:=fun h=>by rw [Nat.ble_eq_true_of_le h] at h2;cases h2
       rw [cond_false];simp;omega
    rw [Pd,aN];constructor
    ·rintro (h|h|⟨k',w',h1,h2⟩)
     ·subst h;exact .inr ⟨k,w,List.mem_cons_self,aA,hb⟩
     ·exact .inl h
     ·exact .inr ⟨k',w',List.mem_cons_of_mem _ h1,h2⟩
    ·rintro (h|⟨k',w',h1,h2,h3⟩)
     ·exact .inr (.inl h)
     ·rcases List.mem_cons.1 h1 with e'|e'
      ·cases e';rw [hb] at h3;cases h3;exact .inl rfl
      ·exact .inr (.inr ⟨k',w',e',h2,h3⟩)
theorem E1{H V H1:aL}(aj:V.t=H.t)(ao:V.ar=H.ar)(hh:∀c,dg V.bZ c=false->dg H.bZ c=false)(af:H.cg<=V.cg)(k:Can V H1):Can H {H1 with cg:=H.cg,bZ:=H.bZ}:=by
 refine ⟨by rw [<- ao];exact k.ar,rfl,rfl,fun c hc hw=> ?_⟩;show H1.t.get c=H.t.get c;rw [<- aj];refine k.can c (by rw [ao];exact hc) fun qy=>hw ?_;obtain ⟨h1,x,h2,h3⟩:=qy;have aG:H.get c=some x:=by
  obtain ⟨an,az⟩:=aL.get_some h2;rw [aL.get_eq,hh c an,<- aj,az];rfl
 exact ⟨Nat.le_trans af h1,x,aG,h3⟩
theorem ahn(hc:r8 call){x:eZ}:∀(l:List nQ) (E:cJ) (H:aL),hQ call l E H=.ok x dH H'->Can H H':=by
 intro l
 induction l with
 | nil=>intro E H aa;simp only [hQ,j3.ok.injEq] at aa;obtain ⟨_,_,rfl⟩:=aa;exact .refl _
 | cons o l aN=>
  intro E H aa;simp only [hQ] at aa;cases hw:km E o.g with
  | true=>
   rw [hw,cond_true] at aa;split at aa
   ·rename_i v H1 aF;rw [pn] at aa;exact (vd hc aF).trans (aN _ _ aa)
   ·cases aa
  | false=>rw [hw,cond_false,pn] at aa;exact aN _ _ aa
theorem aeK(hc:r8 call){x:eZ}{bef:List Nat}{cz:List (Nat×Nat)}{dm:Nat->Bool}:∀(l:List nQ) (i:Nat) (bs:List Nat) (made:List (Nat×Nat×Nat)) (E:cJ) (H:aL),pz call bef cz dm i l bs made E H=.ok x dH H'->Can H H':=by
 intro l
 induction l with
 | nil=>intro i bs made E H aa;simp only [pz,j3.ok.injEq] at aa;obtain ⟨_,_,rfl⟩:=aa;exact .refl _
 | cons o l aN=>
  intro i bs made E H aa;cases bs with
  | nil=>simp only [pz] at aa;cases aa
  | cons b bs=>
   have hh:∀c,dg (me b made (lH bef E i cz H.bZ)) c=false->dg H.bZ c=false:=fun c aI=>by
    cases aE:dg H.bZ c with
    | false=>rfl
    | true=>rw [(JW made _ c).2 (.inl ((La cz H.bZ c).2 (.inl aE)))] at aI;cases aI
   simp only [pz] at aa;cases hw:km E o.g with
   | true=>
    rw [hw,cond_true] at aa;split at aa
    ·split at aa
     ·rename_i v H1 aF;rw [pn] at aa;refine (E1 (H:=H) (V:= {H with cg:=cond (dm i) H.cg (cond (Nat.ble H.ar H.cg) H.cg H.ar),bZ:=me b made (lH bef E i cz H.bZ)}) rfl rfl hh ?_ (vd hc aF)).trans (aN _ _ _ _ _ aa);show H.cg<=cond (dm i) H.cg (cond (Nat.ble H.ar H.cg) H.cg H.ar);cases dm i with
      | true=>exact Nat.le_refl _
      | false=>
       rw [cond_false];cases hb:Nat.ble H.ar H.cg with
       | true=>exact Nat.le_refl _
       | false=>
        have:¬H.ar<=H.cg:=fun h=>by rw [Nat.ble_eq_true_of_le h] at hb;cases hb
        rw [cond_false];omega
     ·cases aa
    ·cases cj:w7 E _ o.op with
     | false=>rw [cj] at aa;cases aa
     | true=>
      rw [cj,cond_true] at aa;split at aa
      ·rename_i v H1 aF;rw [pn] at aa;have q:=vd hc aF;have:=E1 (H:=H) (V:= {H with bZ:=me b made (lH bef E i cz H.bZ)}) rfl rfl hh (Nat.le_refl _) q;have e1:H1.cg=H.cg:=q.cg;have e2: {H1 with bZ:=H.bZ}=({H1 with cg:=H.cg,bZ:=H.bZ}:aL):=by rw [<- e1]
       rw [<- e2] at this;exact this.trans (aN _ _ _ _ _ aa)
      ·cases aa
   | false=>rw [hw,cond_false,pn] at aa;exact aN _ _ _ _ _ aa
theorem WZ(hc:r8 call):∀(c:ng) (E:cJ) (H:aL) (x:eZ) (dH:cJ) (H':aL),gV call c E H=.ok x dH H'->Can H H':=by
 intro c
 induction c with
 | skip=>intro E H x dH H' aa;simp only [gV,j3.ok.injEq] at aa;obtain ⟨_,_,rfl⟩:=aa;exact .refl _
 | seq a b AA P5=>
  intro E H x dH H' aa;simp only [gV] at aa;split at aa
  ·rename_i hq H1 h1;exact (AA _ _ _ _ _ h1).trans (P5 _ _ _ _ _ aa)
  ·exact AA _ _ _ _ _ aa
 | cond t a b AA P5=>
  intro E H x dH H' aa;simp only [gV] at aa;split at aa
  ·exact AA _ _ _ _ _ aa
  ·exact P5 _ _ _ _ _ aa
  ·cases aa
 | block id a aN=>
  intro E H x dH H' aa;simp only [gV] at aa;split at aa
  ·rename_i i hq H1 h1;have:=aN _ _ _ _ _ h1;cases hb:Nat.beq i id with
   | true=>rw [hb,cond_true] at aa;simp only [j3.ok.injEq] at aa;obtain ⟨_,_,rfl⟩:=aa;exact this
   | false=>rw [hb,cond_false] at aa;simp only [j3.ok.injEq] at aa;obtain ⟨_,_,rfl⟩:=aa;exact this
  ·exact aN _ _ _ _ _ aa
 | loop a aN=>
  intro E H x dH H' aa;simp only [gV] at aa;revert aa;generalize 5000=fuel;intro aa
  induction fuel generalizing E H with
  | zero=>cases aa
  | succ fuel P4=>
   simp only [GQ] at aa;split at aa
   ·rename_i hq H1 h1;exact (aN _ _ _ _ _ h1).trans (P4 _ _ aa)
   ·exact aN _ _ _ _ _ aa
 | exit id=>intro E H x dH H' aa;simp only [gV,j3.ok.injEq] at aa;obtain ⟨_,_,rfl⟩:=aa;exact .refl _
 | ret=>intro E H x dH H' aa;simp only [gV,j3.ok.injEq] at aa;obtain ⟨_,_,rfl⟩:=aa;exact .refl _
 | reg ops=>intro E H x dH H' aa;exact ahn hc _ _ _ aa
 | draw ops bef cz=>intro E H x dH H' aa;exact aeK hc _ _ _ _ _ _ aa
 | bad=>intro E H x dH H' aa;cases aa
theorem E2{k:List Value->Option (Value×aL)}{r:Value×aL}:∀(rs:List (Nat×Option (Bool×Nat))) (k:List Value->Option (Value×aL)),rj E H rs k=some r->∃vs,k vs=some r
 | [],k,aa=>⟨[],aa⟩
 | (t,none)::l,k,aa=>by
  simp only [rj] at aa;obtain ⟨vs,h⟩:=E2 (k:=k) l _ aa;exact ⟨_,h⟩
 | (t,some (ag,n))::l,k,aa=>by
  simp only [rj] at aa;split at aa
  ·obtain ⟨c,aa⟩:=zS aa;split at aa
   ·obtain ⟨vs,h⟩:=E2 (k:=k) l _ aa;exact ⟨_,h⟩
   ·split at aa
    ·obtain ⟨vs,h⟩:=E2 (k:=k) l _ aa;exact ⟨_,h⟩
    ·cases aa
  ·cases aa
theorem EH{sG:FuncId->Option yz}{orc:FuncId->List Value->aL->Option (Option (Value×aL))}(aQ:r8 fun f b8 H=>match orc f b8 H with|some r=>r|none=>none):∀m,r8 (eH sG orc m):=by
 intro m
 induction m with
 | zero=>intro f b8 v H H' aa;cases aa
 | succ m aN=>
  intro f b8 v H H' aa;simp only [eH] at aa;split at aa
  ·rename_i r al;exact aQ f b8 v H H' (by simp only [al];exact aa)
  ·split at aa
   ·cases aa
   ·have aa:=(kh aa).2;split at aa
    ·cases aa
    ·rename_i x hq H1 _ h1;have hC:=WZ aN _ _ _ _ _ _ h1;obtain ⟨vs,aI⟩:=E2 (k:=fun _=>none) _ _ aa;split at aI<;>cases aI<;>exact hC
    ·cases aa
end
section
variable(P:Program)(call:FuncId->List Value->aL->Option (Value×aL))(ops:Array Oper)(bef:List Nat)(cz:List (Nat×Nat))
def DStep(dV:Nat->cJ)(a6:Nat->aL)(j:Nat)(o:Oper):Prop:=
 ∃V v H1,V.t=(a6 j).t/\V.ar=(a6 j).ar/\
  (∀c,c<(a6 j).ar->dg V.bZ c=false->dg (a6 j).bZ c=false/\(∀k,k<j->Nat.testBit (gA bef j) k=false->¬((a6 k).ar<=c/\c<(a6 (k+1)).ar))/\(∀k w,(k,w)∈cz->apart bef j k=true->nW ((dV j).rd w)≠some c))/\
  (∀c,(a6 j).ar<=c->dg V.bZ c=true->dg (a6 j).bZ c=true\/(∃k,k<j/\c<(a6 (k+1)).ar)\/∃k w,(k,w)∈cz/\nW ((dV j).rd w)=some c)/\
  (∀c,dg V.bZ c=false->dg (a6 j).bZ c=false)/\
  (((a6 j).ar<=V.cg/\(a6 j).cg<=V.cg)\/(V.cg=(a6 j).cg/\(tw bef j=true\/∃w,(j,w)∈cz/\w7 (dV j) w (e9 P ops o).op=true)))/\
  ((km (dV j) (e9 P ops o).g=true/\cA call (dV j) V (e9 P ops o).op=some (v,H1))\/(km (dV j) (e9 P ops o).g=false/\v=undef/\H1=V))/\
  dV (j+1)=(dV j).put o.dst v/\a6 (j+1)= {H1 with cg:=(a6 j).cg,bZ:=(a6 j).bZ}
theorem EI(o:Oper):(e9 P ops o).dst=o.dst:=by
 unfold e9;split
 ·rfl
 ·split<;>rfl
theorem DStep.congr{dV m4:Nat->cJ}{a6 mx:Nat->aL}{j:Nat}{o:Oper}(bO:∀i,i<=j+1->m4 i=dV i)(nh:∀i,i<=j+1->mx i=a6 i)(h:DStep P call ops bef cz dV a6 j o):DStep P call ops bef cz m4 mx j o:=by
 obtain ⟨V,v,H1,a1,a2,a3,a4,a5,eK,eV,fJ,a9⟩:=h;have e0:=bO j (by omega);have e1:=bO (j+1) (by omega);have f0:=nh j (by omega);have f1:=nh (j+1) (by omega);refine ⟨V,v,H1,by rw [f0];exact a1,by rw [f0];exact a2,fun c hc aI=> ?_,fun c hc aI=> ?_,by rw [f0];exact a5,by rw [f0,e0];exact eK,by rw [e0];exact eV,by rw [e0,e1];exact fJ,by rw [f0,f1];exact a9⟩
 ·rw [f0] at hc;obtain ⟨cl,bV,dz⟩:=a3 c hc aI;refine ⟨by rw [f0];exact cl,fun k hk hb=> ?_,by rw [e0];exact dz⟩;rw [nh k (by omega),nh (k+1) (by omega)];exact bV k hk hb
 ·rw [f0] at hc;rcases a4 c hc aI with b|⟨k,hk,hb⟩|b
  ·exact .inl (by rw [f0];exact b)
  ·exact .inr (.inl ⟨k,hk,by rw [nh (k+1) (by omega)];exact hb⟩)
  ·exact .inr (.inr (by rw [e0];exact b))
theorem TA{i w:Nat}:∀(cz:List (Nat×Nat)),GP i cz=some w->(i,w)∈cz
 | [],h=>by cases h
 | (k,u)::r,h=>by
  simp only [GP] at h;cases hb:Nat.beq i k with
  | true=>rw [hb,cond_true] at h;cases h;have:=beq_eq hb;subst this;exact List.mem_cons_self
  | false=>rw [hb,cond_false] at h;exact List.mem_cons_of_mem _ (TA r h)
def shut(H:aL):aL:= {H with cg:=cond (Nat.ble H.ar H.cg) H.cg H.ar,bZ:=(0,H.ar)::H.bZ}
theorem Uu(H:aL):H.ar<=(cond (Nat.ble H.ar H.cg) H.cg H.ar)/\H.cg<=(cond (Nat.ble H.ar H.cg) H.cg H.ar):=by
 cases hb:Nat.ble H.ar H.cg with
 | true=>exact ⟨gj hb,Nat.le_refl _⟩
 | false=>
  have:¬H.ar<=H.cg:=fun h=>by rw [Nat.ble_eq_true_of_le h] at hb;cases hb
  exact ⟨Nat.le_refl _,by rw [cond_false];omega⟩
theorem KG(H:aL)(c:Nat):dg (shut H).bZ c=true↔c<H.ar\/dg H.bZ c=true:=by
 show dg ((0,H.ar)::H.bZ) c=true↔_;simp only [dg];have:Nat.ble 0 c=true:=Nat.ble_eq_true_of_le (Nat.zero_le _);rw [this,cond_true];cases h2:Nat.ble H.ar c with
 | true=>have:=gj h2;rw [cond_true];simp;omega
 | false=>
  have:¬H.ar<=c:=fun h=>by rw [Nat.ble_eq_true_of_le h] at h2;cases h2
  rw [cond_false];simp;omega
theorem aeL{dH:cJ}{H':aL}{x:eZ}:∀(l:List Oper) (bs:List Nat) (i:Nat) (made:List (Nat×Nat×Nat)) (E:cJ) (H:aL) (dV:Nat->cJ) (a6:Nat->aL),
  (∀j,j<l.length->bs[j]? =some (gA bef (i+j)))->dV i=E->a6 i=H->(∀k,k<i->(a6 k).ar<(a6 (k+1)).ar->(k,(a6 k).ar,(a6 (k+1)).ar)∈made)->(∀k lo hi,(k,lo,hi)∈made->k<i/\hi=(a6 (k+1)).ar)->
  pz call bef cz (tw bef) i (l.map (e9 P ops)) bs made E H=.ok x dH H'->
  ∃m4 mx,(∀j,j<=i->m4 j=dV j)/\(∀j,j<=i->mx j=a6 j)/\m4 (i+l.length)=dH/\mx (i+l.length)=H'/\x=.cB/\∀j o,l[j]? =some o->DStep P call ops bef cz m4 mx (i+j) o:=by
 intro l
 induction l with
 | nil=>
  intro bs i made E H dV a6 _ bO nh _ _ aa;simp only [List.map_nil,pz,j3.ok.injEq] at aa;obtain ⟨rfl,rfl,rfl⟩:=aa;exact ⟨dV,a6,fun _ _=>rfl,fun _ _=>rfl,bO,nh,rfl,fun j o h=>by simp at h⟩
 | cons o l aN=>
  intro bs i made E H dV a6 fv bO nh hm gB aa;have iL:=fv 0 (by simp)
  match bs,iL,fv,aa with
  | b::bs,iL,fv,aa=>
   simp only [List.getElem?_cons_zero,Nat.add_zero,Option.some.injEq] at iL;have asz:∀j,j<l.length->bs[j]? =some (gA bef (i+1+j)):=fun j ae=>by
    have:=fv (j+1) (by simp;omega);rw [show i+1+j=i+(j+1) by omega];simpa using this
   simp only [List.map_cons,pz,EI] at aa;have fin:∀(V:aL) (v:Value) (H1:aL) (zT:List (Nat×Nat×Nat)),V.t=H.t->V.ar=H.ar->
     (∀c,c<H.ar->dg V.bZ c=false->dg H.bZ c=false/\(∀k,k<i->Nat.testBit (gA bef i) k=false->¬((a6 k).ar<=c/\c<(a6 (k+1)).ar))/\(∀k w,(k,w)∈cz->apart bef i k=true->nW (E.rd w)≠some c))->
     (∀c,H.ar<=c->dg V.bZ c=true->dg H.bZ c=true\/(∃k,k<i/\c<(a6 (k+1)).ar)\/∃k w,(k,w)∈cz/\nW (E.rd w)=some c)->
     (∀c,dg V.bZ c=false->dg H.bZ c=false)->
     ((H.ar<=V.cg/\H.cg<=V.cg)\/(V.cg=H.cg/\(tw bef i=true\/∃w,(i,w)∈cz/\w7 E w (e9 P ops o).op=true)))->
     ((km E (e9 P ops o).g=true/\cA call E V (e9 P ops o).op=some (v,H1))\/(km E (e9 P ops o).g=false/\v=undef/\H1=V))->
     (H.ar<H1.ar->(i,H.ar,H1.ar)∈zT)->(∀p,p∈made->p∈zT)->(∀p,p∈zT->p∈made\/p=(i,H.ar,H1.ar))->
     pz call bef cz (tw bef) (i+1) (l.map (e9 P ops)) bs zT (E.put o.dst v) {H1 with cg:=H.cg,bZ:=H.bZ}=.ok x dH H'->
     ∃m4 mx,(∀j,j<=i->m4 j=dV j)/\(∀j,j<=i->mx j=a6 j)/\m4 (i+(o::l).length)=dH/\mx (i+(o::l).length)=H'/\x=.cB/\∀j aO,(o::l)[j]? =some aO->DStep P call ops bef cz m4 mx (i+j) aO:=by
    intro V v H1 zT c1 c2 c3 c4 c5 c6 dC eN ox c10 aa;obtain ⟨m4,mx,d1,d2,d3,d4,d5,d6⟩:=aN bs (i+1) zT (E.put o.dst v) {H1 with cg:=H.cg,bZ:=H.bZ} (fun j=>if j<=i then dV j else E.put o.dst v) (fun j=>if j<=i then a6 j else {H1 with cg:=H.cg,bZ:=H.bZ}) asz (if_neg (by omega)) (if_neg (by omega))
     (fun k hk bY=>by
      by_cases nG:k=i
      ·subst nG;simp only [Nat.le_refl,if_true,show ¬k+1<=k by omega,if_false,nh] at bY ⊢;exact eN bY
      ·simp only [show k<=i by omega,if_true,show k+1<=i by omega] at bY ⊢;exact ox _ (hm k (by omega) bY))
     (fun k lo hi aK=>by
      rcases c10 _ aK with aK|aK
      ·obtain ⟨an,az⟩:=gB k lo hi aK;refine ⟨by omega,?_⟩;simp only [show k+1<=i by omega,if_true];exact az
      ·simp only [Prod.mk.injEq] at aK;obtain ⟨rfl,_,rfl⟩:=aK;refine ⟨by omega,?_⟩;simp only [show ¬k+1<=k by omega,if_false])
     aa
    have ZT:∀j,j<=i->m4 j=dV j:=fun j ae=>by rw [d1 j (by omega)];simp [ae]
    have C5:∀j,j<=i->mx j=a6 j:=fun j ae=>by rw [d2 j (by omega)];simp [ae]
    have P6:m4 (i+1)=E.put o.dst v:=by rw [d1 (i+1) (by omega)];exact if_neg (by omega)
    have AK:mx (i+1)= {H1 with cg:=H.cg,bZ:=H.bZ}:=by rw [d2 (i+1) (by omega)];exact if_neg (by omega)
    refine ⟨m4,mx,ZT,C5,by rw [List.length_cons,show i+(l.length+1)=i+1+l.length by omega];exact d3,by rw [List.length_cons,show i+(l.length+1)=i+1+l.length by omega];exact d4,d5,fun j aO ae=> ?_⟩;cases j with
    | zero=>
     simp at ae;subst ae;have e0:m4 i=E:=(ZT i (by omega)).trans bO;have f0:mx i=H:=(C5 i (by omega)).trans nh;refine ⟨V,v,H1,by rw [Nat.add_zero,f0];exact c1,by rw [Nat.add_zero,f0];exact c2,fun c hc aI=> ?_,fun c hc aI=> ?_,by rw [Nat.add_zero,f0];exact c5,by rw [Nat.add_zero,f0,e0];exact c6,by rw [Nat.add_zero,e0];exact dC,by show m4 (i+1)=(m4 i).put o.dst v;rw [e0,P6],by show mx (i+1)= {H1 with cg:=(mx i).cg,bZ:=(mx i).bZ};rw [f0,AK]⟩
     ·rw [Nat.add_zero,f0] at hc;obtain ⟨an,az,aB⟩:=c3 c hc aI;rw [Nat.add_zero];refine ⟨by rw [f0];exact an,fun k hk hb=> ?_,by rw [e0];exact aB⟩;rw [C5 k (by omega),C5 (k+1) (by omega)];exact az k hk hb
     ·rw [Nat.add_zero,f0] at hc;rw [Nat.add_zero];rcases c4 c hc aI with q|⟨k,hk,q⟩|q
      ·exact .inl (by rw [f0];exact q)
      ·exact .inr (.inl ⟨k,hk,by rw [C5 (k+1) (by omega)];exact q⟩)
      ·exact .inr (.inr (by rw [e0];exact q))
    | succ j=>
     rw [show i+(j+1)=i+1+j by omega];exact d6 j aO (by simpa using ae)
   have view:∀c,dg (me b made (lH bef E i cz H.bZ)) c=true↔(dg H.bZ c=true\/∃k w,(k,w)∈cz/\apart bef i k=true/\nW (E.rd w)=some c)\/∃k lo hi,(k,lo,hi)∈made/\Nat.testBit b k=false/\lo<=c/\c<hi:=fun c=>by
    rw [JW,La]
   have v3:∀c,c<H.ar->dg (me b made (lH bef E i cz H.bZ)) c=false->dg H.bZ c=false/\(∀k,k<i->Nat.testBit (gA bef i) k=false->¬((a6 k).ar<=c/\c<(a6 (k+1)).ar))/\(∀k w,(k,w)∈cz->apart bef i k=true->nW (E.rd w)≠some c):=fun c _ aI=>by
    have m5:¬_:=fun h=>by rw [(view c).2 h] at aI;cases aI
    refine ⟨?_,fun k hk hb al=> ?_,fun k w hk aA hb=>m5 (.inl (.inr ⟨k,w,hk,aA,hb⟩))⟩
    ·cases hh:dg H.bZ c with
     | false=>rfl
     | true=>exact absurd (.inl (.inl hh)) m5
    ·exact m5 (.inr ⟨k,_,_,hm k hk (by omega),by rw [iL];exact hb,al⟩)
   have v4:∀c,H.ar<=c->dg (me b made (lH bef E i cz H.bZ)) c=true->dg H.bZ c=true\/(∃k,k<i/\c<(a6 (k+1)).ar)\/∃k w,(k,w)∈cz/\nW (E.rd w)=some c:=fun c _ aI=>by
    rcases (view c).1 aI with (h|⟨k,w,h1,_,h2⟩)|⟨k,lo,hi,h1,_,_,h4⟩
    ·exact .inl h
    ·exact .inr (.inr ⟨k,w,h1,h2⟩)
    ·obtain ⟨an,az⟩:=gB k lo hi h1;exact .inr (.inl ⟨k,an,by rw [<- az];exact h4⟩)
   have v5:∀c,dg (me b made (lH bef E i cz H.bZ)) c=false->dg H.bZ c=false:=fun c aI=>by
    cases hh:dg H.bZ c with
    | false=>rfl
    | true=>rw [(view c).2 (.inl (.inl hh))] at aI;cases aI
   cases hw:km E (e9 P ops o).g with
   | false=>
    rw [hw,cond_false,pn] at aa;refine fin (shut H) undef (shut H) made rfl rfl (fun c hc aI=> ?_) (fun c hc aI=> ?_) (fun c aI=> ?_) (.inl (Uu H)) (.inr ⟨hw,rfl,rfl⟩) (fun h=>absurd h (Nat.lt_irrefl _)) (fun _ h=>h) (fun _ h=>.inl h) aa
    ·rw [(KG H c).2 (.inl hc)] at aI;cases aI
    ·rcases (KG H c).1 aI with h|h
     ·omega
     ·exact .inl h
    ·cases hh:dg H.bZ c with
     | false=>rfl
     | true=>rw [(KG H c).2 (.inr hh)] at aI;cases aI
   | true=>
    rw [hw,cond_true] at aa;split at aa
    ·split at aa
     ·rename_i v H1 aF;rw [pn] at aa;refine fin {H with cg:=cond (tw bef i) H.cg (cond (Nat.ble H.ar H.cg) H.cg H.ar),bZ:=me b made (lH bef E i cz H.bZ)} v H1 ((i,H.ar,H1.ar)::made) rfl rfl v3 v4 v5 ?_ (.inl ⟨hw,aF⟩) (fun _=>List.mem_cons_self) (fun p aK=>List.mem_cons_of_mem _ aK) (fun p aK=> ?_) aa
      ·cases af:tw bef i with
       | true=>exact .inr ⟨rfl,.inl rfl⟩
       | false=>exact .inl (Uu H)
      ·rcases List.mem_cons.1 aK with e|e
       ·exact .inr e
       ·exact .inl e
     ·cases aa
    ·rename_i w asA;cases cj:w7 E w (e9 P ops o).op with
     | false=>rw [cj] at aa;cases aa
     | true=>
      rw [cj,cond_true] at aa;split at aa
      ·rename_i v H1 aF;rw [pn] at aa;have AL:H1.ar=H.ar/\H1.cg=H.cg:=by
        unfold w7 at cj;split at cj
        ·rename_i n y z heq;rw [heq] at aF;simp only [cA] at aF;split at aF
         ·obtain ⟨_,aF⟩:=kh aF;obtain ⟨y,aF,_⟩:=xk aF;cases aF;exact ⟨rfl,rfl⟩
         ·cases aF
        ·cases cj
       refine fin {H with bZ:=me b made (lH bef E i cz H.bZ)} v H1 made rfl rfl v3 v4 v5 (.inr ⟨rfl,.inr ⟨w,TA _ asA,cj⟩⟩) (.inl ⟨hw,aF⟩) (fun h=>by rw [AL.1] at h;exact absurd h (Nat.lt_irrefl _)) (fun _ h=>h) (fun _ h=>.inl h) ?_;have: {H1 with bZ:=H.bZ}=({H1 with cg:=H.cg,bZ:=H.bZ}:aL):=by rw [<- AL.2]
       rw [<- this];exact aa
      ·cases aa
end
end
end Go.Nk
